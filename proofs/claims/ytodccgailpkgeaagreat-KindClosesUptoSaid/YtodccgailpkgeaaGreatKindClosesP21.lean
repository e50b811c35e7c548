/- A part of the proof. No condition. -/
import Derived.Test.YtodccgailpkgeaaGreatKindClosesP20
set_option linter.defProp false
set_option maxHeartbeats 1000000
set_option linter.unusedVariables false
set_option linter.unusedSimpArgs false
set_option maxRecDepth 10000
namespace Go.Proofs.YtodccgailpkgeaaGreat
open Go.Proofs.Tryz
open Go.Eng
open Go.Eng.Fc
variable{l:c1}{i c:Nat}{s x a:Int}{W:bx}{L:List Fact}{can:al->Bool}{path p q:al}{ls:List c1}{k:dq}
abbrev lT:=cY×cY
def vU(s:lT)(x:Fact):Option lT:=
 if((cb x).1.op !=2 || (cb x).1.cls==1 || (cb x).1.cls==2)=true then (if(cb x).2=true then some s else none)
 else if(cb x).2=true then some (s.1,s.2.set (cb x).1.cls.toNat true) else some (s.1.set (cb x).1.cls.toNat true,s.2)
def oM:List Fact->lT->Option lT
 | [],s=>some s
 | x::r,s=>match vU s x with
  | none=>none
  | some t=>oM r t
def Ek(W:bx)(s:Int):Nat:=(W.owner.getD s.toNat default).toNat
def El(W:bx)(bare can:Bool)(s:Int)(t:lT):lT:=(if bare=true then t.1 else t.1.set (Ek W s) true,if can=true then t.2 else t.2.set (Ek W s) true)
def qm(W:bx)(L:List Fact)(can:al->Bool)(arg:Int)(path:al):al->lT->Option lT
 | [],t=>some t
 | s::r,t=>if(!oK L arg (path++[s]) && !can (path++[s]))=true then none else qm W L can arg path r (El W (oK L arg (path++[s])) (can (path++[s])) s t)
def qn(o:cY)(l:al):cY:=l.foldl (λo p=>o.set p.toNat true) o
def mA(W:bx):Nat->cY->cY
 | 0,o=>o
 | k+1,o=>mA W k (if o.getD (3+k) false=true then qn o (W.parents.getD k default) else o)
def sR(m no:cY)(n:Nat):Bool:=(List.range n).any λc=>m.getD c false && no.getD c false
def AU(W:bx)(t:lT):Option cY:=
 if t.2.getD 0 false=true then none
 else if sR (mA W W.parents.length (t.1.set 0 false)) t.2 (3+W.parents.length)=true then none
 else some (mA W W.parents.length (t.1.set 0 false))
def nS(W:bx):cY:=List.replicate (3+W.parents.length) false
def lx(W:bx)(L:List Fact)(can:al->Bool)(arg:Int)(path:al):Option cY:=
 match oM (ej L arg path) (nS W,nS W) with
 | none=>none
 | some t=>match qm W L can arg path (eg W L arg path) t with
  | none=>none
  | some t=>AU W t
abbrev agv(o:Option cY):ab:=ab.dy (o.getD [])
def Em{l:List Fact}{s:lT}(h:i<l.length):oM (l.drop i) s=match vU s (l.getD i default) with
  | none=>none
  | some t=>oM (l.drop (i+1)) t:=by
 rw[List.drop_eq_getElem_cons h,oM,p1 h]
def SP{arg}{path l:al}{t}(h:i<l.length):qm W L can arg path (l.drop i) t=if(!oK L arg (path++[l.getD i default]) && !can (path++[l.getD i default]))=true then none else qm W L can arg path (l.drop (i+1)) (El W (oK L arg (path++[l.getD i default])) (can (path++[l.getD i default])) (l.getD i default) t):=by
 rw[List.drop_eq_getElem_cons h,qm,p1 h]
def SQ(x):(bif bif (cb x).1.op !=2 then true else (cb x).1.cls==1 then true else (cb x).1.cls==2)=((cb x).1.op !=2 || (cb x).1.cls==1 || (cb x).1.cls==2):=by rw[eO,eO]
def SR{arg}(h:s∈eg W L arg path):0<=s/\s<W.owner.length:=by
 have:=(List.mem_filter.1 h).1;obtain⟨n,a,rfl⟩:=List.mem_map.1 this;have:=List.mem_range.1 a;omega
def SS(a:cy W){s:Int}(h:0<=s/\s<W.owner.length):3<=W.owner.getD s.toNat default/\W.owner.getD s.toNat default<3+W.parents.length:=by
 have c:W.owner.all (sh W)=true:=by simp only[cy,Bool.and_eq_true] at a;exact a.2
 have:=List.all_eq_true.1 c (W.owner.getD s.toNat default) (hT aa);simp only[sh,Bool.and_eq_true,decide_eq_true_eq] at this;omega
theorem En:∀(l:al) (o:cY),(qn o l).length=o.length
 | [],o=>rfl
 | p::r,o=>by show (qn (o.set p.toNat true) r).length=_;rw[En r,List.length_set]
def agw{o}{l:al}{j}(h:j<l.length):qn o (l.drop j)=qn (o.set (l.getD j default).toNat true) (l.drop (j+1)):=by
 rw[List.drop_eq_getElem_cons h,p1 h];rfl
def agx(m no)(n):sR m no (n+1)=(sR m no n || (m.getD n false && no.getD n false)):=by rw[sR,sR,List.range_succ,List.any_append];simp
def SU{m no}{c n}(a:c<n)(h:(m.getD c false && no.getD c false)=true):sR m no n=true:=List.any_eq_true.2 ⟨c,List.mem_range.2 a,h⟩
def agy(W:bx)(L:List Fact)(e0:∀x∈L,ue W x)(bq:L.length<=1000)(hw:cy W)(arg:Int)(path:al)(bV:path.length<=50)(can:al->Bool)(a1:∀s∈eg W L arg path,aI prog 214 [ab.my W L arg (path++[s])] (.b (can (path++[s])))):aI prog 239 [ab.my W L arg path] (.bj [agv (lx W L can arg path),.b (lx W L can arg path).isSome]):=by
 intro H;refine aM (n:=160) func239 λB I bN=>?_;have mU:=JV L arg path;have rh:=q8 hw;have xw:=vn hw;refine c6 ?_;refine ai.pR (3+W.parents.length) rfl rfl rfl rfl rfl rfl rfl rfl aa aa yu (λrD=>?_);refine bQ ?_;refine ai.pR (3+W.parents.length) rfl rfl rfl rfl rfl rfl rfl rfl aa aa yu (λrE=>?_);refine aS ?_;rw[OS];refine aQ ?_;refine ag (ad.call .k (JT W L (λx aK=>(e0 x aK).split) bq arg path)) ?_;refine aS ?_;refine bm (λm st=>∃(i:Nat) (t:lT),st=⟨[(34,.i i),(33,.i (ej L arg path).length),(32,ab.facts (ej L arg path)),(5,.val (.slice (some ⟨rE,0,none⟩) (3+W.parents.length) (3+W.parents.length))),(4,.val (.slice (some ⟨rD,0,none⟩) (3+W.parents.length) (3+W.parents.length))),(1,.ptr (mx W L arg path))],.au rE 4 (kn t.2)::.au rD 4 (kn t.1)::H⟩/\m=(ej L arg path).length - i/\i<=(ej L arg path).length/\oM ((ej L arg path).drop i) t=oM (ej L arg path) (nS W,nS W)/\t.1.length=3+W.parents.length/\t.2.length=3+W.parents.length) (⟨0,(nS W,nS W),rfl,rfl,aa,rfl,by simp[nS],by simp[nS]⟩) ?_;rintro m _ ⟨i,t,rfl,rfl,aN,hR,ug,vV⟩;refine ay ?_;refine az (λaf=>?_) λaf=>?_
 ·have aK:=e0 ((ej L arg path).getD i default) (JU (hT aa));refine aJ ?_;refine bT (λdN=>?_);refine ay ?_;refine ag (ad.call .k (x3 ((ej L arg path).getD i default) aK.split)) ?_;refine aH ?_;refine bT (λb1=>?_);refine o9 ?_;refine bc (λae=>?_) (λae=>?_)
  ·rw[SQ] at ae;refine ay ?_;refine bc (λak=>?_) (λak=>?_)
   ·have ak:(cb ((ej L arg path).getD i default)).2=false:=by simpa using ak
    have jH:lx W L can arg path=none:=by rw[Em aa,vU,if_pos ae,if_neg (by rw[ak];simp)] at hR;rw[lx, <-hR]
    refine di ?_;refine aZ.cl (rs:=[.tmp 2,.tmp 3]) (H':=H) rfl (.tmp rfl (.tmp rfl (.nil))) (.cons (aq.nil 1) (.cons (.refl _) .nil)) bE ?_;exact⟨oT,rfl⟩
   ·have ak:(cb ((ej L arg path).getD i default)).2=true:=by simpa using ak
    refine aJ ?_;exact aU (⟨i+1,t,rfl,rfl,aa,by rw[Em aa,vU,if_pos ae,if_pos ak] at hR;exact hR,ug,vV⟩)
  ·rw[SQ] at ae;have SV:=ae;simp only[Bool.or_eq_false_iff,bne_eq_false_iff_eq] at SV;have hI:=aK.cls SV.1.1;refine ay ?_;refine az (λaL=>?_) λaL=>?_
   ·refine aV ?_;refine ag (ad.gX rfl rfl rfl rfl rfl aa) ?_;apply ai.gb rfl rfl rfl rfl rfl rfl rfl rfl rfl rfl
    (case hu=>repeat (first | exact bG.head _ _ _ | apply bG.tail));(case hfit=>exact sn (i:=(cb ((ej L arg path).getD i default)).1.cls.toNat) aa);(case hds=>exact sm (i:=(cb ((ej L arg path).getD i default)).1.cls.toNat) aa rfl)
    refine aJ ?_;exact aU (⟨i+1,(t.1,t.2.set (cb ((ej L arg path).getD i default)).1.cls.toNat true),rfl,rfl,aa,by rw[Em aa,vU,if_neg (by rw[ae];simp),if_pos aL] at hR;exact hR,ug,by rw[List.length_set];exact vV⟩)
   ·refine aV ?_;refine ag (ad.gX rfl rfl rfl rfl rfl aa) ?_;apply ai.gb rfl rfl rfl rfl rfl rfl rfl rfl rfl rfl
    (case hu=>repeat (first | exact bG.head _ _ _ | apply bG.tail));(case hfit=>exact sn (i:=(cb ((ej L arg path).getD i default)).1.cls.toNat) aa);(case hds=>exact sm (i:=(cb ((ej L arg path).getD i default)).1.cls.toNat) aa rfl)
    refine aJ ?_;exact aU (⟨i+1,(t.1.set (cb ((ej L arg path).getD i default)).1.cls.toNat true,t.2),rfl,rfl,aa,by rw[Em aa,vU,if_neg (by rw[ae];simp),if_neg (by rw[aL];simp)] at hR;exact hR,by rw[List.length_set];exact ug,vV⟩)
 ·obtain rfl:i=(ej L arg path).length:=by omega
  rw[List.drop_length,oM] at hR;refine a8 ?_;refine ag (ad.call .k (SL W L (λx aK=>(e0 x aK).split) xw arg path aa)) ?_;refine aS ?_;refine bm (λm st=>∃(i:Nat) (u:lT),st=⟨[(73,.i i),(72,.i (eg W L arg path).length),(71,ab.ints (eg W L arg path)),(5,.val (.slice (some ⟨rE,0,none⟩) (3+W.parents.length) (3+W.parents.length))),(4,.val (.slice (some ⟨rD,0,none⟩) (3+W.parents.length) (3+W.parents.length))),(1,.ptr (mx W L arg path))],.au rE 4 (kn u.2)::.au rD 4 (kn u.1)::H⟩/\m=(eg W L arg path).length - i/\i<=(eg W L arg path).length/\qm W L can arg path ((eg W L arg path).drop i) u=qm W L can arg path (eg W L arg path) t/\u.1.length=3+W.parents.length/\u.2.length=3+W.parents.length) (⟨0,t,rfl,rfl,aa,rfl,ug,vV⟩) ?_;rintro m _ ⟨i,u,rfl,rfl,aN,jN,AV,Eo⟩;refine aR ?_;refine aA.ez (t:=71) rfl (λmY=>?_);refine aS ?_;refine az (λbo=>?_) λbo=>?_
  ·have ny:(eg W L arg path).getD i default∈(eg W L arg path):=hT aa;have pw:=SR ny;have l4:=SS hw pw;refine dW ?_;refine ag (ad.call .k (JR W L arg path _ aa)) ?_;refine bT (λb2=>?_);refine aV ?_;refine b0 3 160 ?_;refine aR ?_;refine bh (ad.call .k (SK W L (λx aK=>(e0 x aK).split) arg _)) ?_;refine aH ?_;refine ag (ad.call .k (a1 _ ny)) ?_;refine dW ?_;refine bc (λcm=>?_) (λcm=>?_)
   ·rw[kr] at cm;have jH:lx W L can arg path=none:=by rw[SP aa,if_pos cm] at jN;rw[lx, <-hR];simp only[];rw[<-jN]
    refine di ?_;refine aZ.cl (rs:=[.tmp 2,.tmp 3]) (H':=H) rfl (.tmp rfl (.tmp rfl (.nil))) (.cons (aq.nil 1) (.cons (.refl _) .nil)) bE ?_;exact⟨oT,rfl⟩
   ·rw[kr] at cm;rw[SP aa,if_neg (by rw[cm];simp),El,Ek] at jN;refine a8 ?_;refine bc (λdx=>?_) (λdx=>?_)
    ·have dx:oK L arg (path++[(eg W L arg path).getD i default])=false:=by simpa using dx
     rw[if_neg (by rw[dx];simp)] at jN;refine aJ ?_;refine ag (ad.gX rfl rfl rfl rfl rfl aa) ?_;apply ai.gb rfl rfl rfl rfl rfl rfl rfl rfl rfl rfl
     (case hu=>repeat (first | exact bG.head _ _ _ | apply bG.tail));(case hfit=>exact sn (i:=(W.owner.getD ((eg W L arg path).getD i default).toNat default).toNat) aa);(case hds=>exact sm (i:=(W.owner.getD ((eg W L arg path).getD i default).toNat default).toNat) aa rfl)
     refine aJ ?_;refine bc (λdF=>?_) (λdF=>?_)
     ·have dF:can (path++[(eg W L arg path).getD i default])=false:=by simpa using dF
      rw[if_neg (by rw[dF];simp)] at jN;refine aJ ?_;refine ag (ad.gX rfl rfl rfl rfl rfl aa) ?_;apply ai.gb rfl rfl rfl rfl rfl rfl rfl rfl rfl rfl
      (case hu=>repeat (first | exact bG.head _ _ _ | apply bG.tail));(case hfit=>exact sn (i:=(W.owner.getD ((eg W L arg path).getD i default).toNat default).toNat) aa);(case hds=>exact sm (i:=(W.owner.getD ((eg W L arg path).getD i default).toNat default).toNat) aa rfl)
      refine aP ?_;exact aU (⟨i+1,(u.1.set (W.owner.getD ((eg W L arg path).getD i default).toNat default).toNat true,u.2.set (W.owner.getD ((eg W L arg path).getD i default).toNat default).toNat true),rfl,rfl,aa,jN,by rw[List.length_set];exact AV,by rw[List.length_set];exact Eo⟩)
     ·have dF:can (path++[(eg W L arg path).getD i default])=true:=by simpa using dF
      rw[if_pos dF] at jN;refine aP ?_;exact aU (⟨i+1,(u.1.set (W.owner.getD ((eg W L arg path).getD i default).toNat default).toNat true,u.2),rfl,rfl,aa,jN,by rw[List.length_set];exact AV,Eo⟩)
    ·have dx:oK L arg (path++[(eg W L arg path).getD i default])=true:=by simpa using dx
     rw[if_pos dx] at jN;refine aJ ?_;refine bc (λde=>?_) (λde=>?_)
     ·have de:can (path++[(eg W L arg path).getD i default])=false:=by simpa using de
      rw[if_neg (by rw[de];simp)] at jN;refine aJ ?_;refine ag (ad.gX rfl rfl rfl rfl rfl aa) ?_;apply ai.gb rfl rfl rfl rfl rfl rfl rfl rfl rfl rfl
      (case hu=>repeat (first | exact bG.head _ _ _ | apply bG.tail));(case hfit=>exact sn (i:=(W.owner.getD ((eg W L arg path).getD i default).toNat default).toNat) aa);(case hds=>exact sm (i:=(W.owner.getD ((eg W L arg path).getD i default).toNat default).toNat) aa rfl)
      refine aP ?_;exact aU (⟨i+1,(u.1,u.2.set (W.owner.getD ((eg W L arg path).getD i default).toNat default).toNat true),rfl,rfl,aa,jN,AV,by rw[List.length_set];exact Eo⟩)
     ·have de:can (path++[(eg W L arg path).getD i default])=true:=by simpa using de
      rw[if_pos de] at jN;refine aP ?_;exact aU (⟨i+1,u,rfl,rfl,aa,jN,AV,Eo⟩)
  ·obtain rfl:i=(eg W L arg path).length:=by omega
   rw[List.drop_length,qm] at jN;refine aJ ?_;refine ag (ad.gX rfl rfl rfl rfl rfl aa) ?_;apply ai.gb rfl rfl rfl rfl rfl rfl rfl rfl rfl rfl
   (case hu=>repeat (first | exact bG.head _ _ _ | apply bG.tail));(case hfit=>exact sn (i:=0) aa);(case hds=>exact sm (i:=0) aa rfl)
   refine ay ?_;refine ag (ad.gX rfl rfl rfl rfl rfl aa) ?_;refine ag ((by first | exact ad.cE rfl rfl rfl rfl | (apply ad.iv rfl rfl rfl;(case hm=>repeat (first | exact .head _ | refine .tail _ ?_));(case hy=>exact xq (i:=0) aa)))) ?_;refine aQ ?_;refine bc (λdc=>?_) (λdc=>?_)
   ·refine aR ?_;have jH:lx W L can arg path=none:=by rw[lx, <-hR];simp only[];rw[<-jN];simp only[];rw[AU,if_pos dc]
    refine aP ?_;refine aZ.cl (rs:=[.tmp 2,.tmp 3]) (H':=H) rfl (.tmp rfl (.tmp rfl (.nil))) (.cons (aq.nil 1) (.cons (.refl _) .nil)) bE ?_;exact⟨oT,rfl⟩
   ·refine bS ?_;refine bm (λm st=>∃(c:Int) (j4:cY),st=⟨[(15,.i c),(5,.val (.slice (some ⟨rE,0,none⟩) (3+W.parents.length) (3+W.parents.length))),(4,.val (.slice (some ⟨rD,0,none⟩) (3+W.parents.length) (3+W.parents.length))),(1,.ptr (mx W L arg path))],.au rE 4 (kn u.2)::.au rD 4 (kn j4)::H⟩/\m=(c - 2).toNat/\2<=c/\c<3+W.parents.length/\j4.length=3+W.parents.length/\mA W (c - 2).toNat j4=mA W W.parents.length (u.1.set 0 false)) (⟨((3+W.parents.length:Nat):Int) - 1,u.1.set 0 false,rfl,rfl,aa,aa,by rw[List.length_set];exact AV,by rw[show (((3+W.parents.length:Nat):Int) - 1 - 2).toNat=W.parents.length from by omega]⟩) ?_;rintro m _ ⟨c,j4,rfl,rfl,ace,yj,gk,hI⟩;refine aP ?_;refine az (λhM=>?_) λhM=>?_
    ·have HG:=p3 hw (i:=(c - 3).toNat) aa;rw[show (c - 2).toNat=(c - 3).toNat+1 from by omega,mA,show 3+(c - 3).toNat=c.toNat from by omega] at hI;refine aJ ?_;refine ag (ad.gX rfl rfl rfl rfl rfl aa) ?_;refine ag ((by first | exact ad.cE rfl rfl rfl rfl | (apply ad.iv rfl rfl rfl;(case hm=>repeat (first | exact .head _ | refine .tail _ ?_));(case hy=>exact xq (i:=c.toNat) aa)))) ?_;refine aQ ?_;refine bc (λh6=>?_) (λh6=>?_)
     ·rw[if_pos h6] at hI;refine c6 ?_;refine bm (λm st=>∃(j:Nat) (vW:cY),st=⟨[(135,.i j),(134,.i (W.parents.getD (c - 3).toNat default).length),(133,ab.ints (W.parents.getD (c - 3).toNat default)),(15,.i c),(5,.val (.slice (some ⟨rE,0,none⟩) (3+W.parents.length) (3+W.parents.length))),(4,.val (.slice (some ⟨rD,0,none⟩) (3+W.parents.length) (3+W.parents.length))),(1,.ptr (mx W L arg path))],.au rE 4 (kn u.2)::.au rD 4 (kn vW)::H⟩/\m=(W.parents.getD (c - 3).toNat default).length - j/\j<=(W.parents.getD (c - 3).toNat default).length/\vW.length=3+W.parents.length/\qn vW ((W.parents.getD (c - 3).toNat default).drop j)=qn j4 (W.parents.getD (c - 3).toNat default)) (⟨0,j4,rfl,rfl,aa,gk,rfl⟩) ?_;rintro m _ ⟨j,vW,rfl,rfl,cp,SW,AW⟩;refine aR ?_;refine aA.ez (t:=133) rfl (λZN=>?_);refine aS ?_;refine az (λjA=>?_) λjA=>?_
      ·refine bA ?_;have alM:=HG ((W.parents.getD (c - 3).toNat default).getD j default) (hT aa);refine aH ?_;refine ag (ad.gX rfl rfl rfl rfl rfl aa) ?_;apply ai.gb rfl rfl rfl rfl rfl rfl rfl rfl rfl rfl
       (case hu=>repeat (first | exact bG.head _ _ _ | apply bG.tail));(case hfit=>exact sn (i:=((W.parents.getD (c - 3).toNat default).getD j default).toNat) aa);(case hds=>exact sm (i:=((W.parents.getD (c - 3).toNat default).getD j default).toNat) aa rfl)
       refine aP ?_;exact aU (⟨j+1,vW.set ((W.parents.getD (c - 3).toNat default).getD j default).toNat true,rfl,rfl,aa,by rw[List.length_set];exact SW,by rw[<-agw aa];exact AW⟩)
      ·obtain rfl:j=(W.parents.getD (c - 3).toNat default).length:=by omega
       rw[List.drop_length] at AW;have AW:vW=qn j4 (W.parents.getD (c - 3).toNat default):=AW;refine bA ?_;exact aU (⟨c - 1,vW,rfl,rfl,aa,aa,SW,by rw[AW,show (c - 1 - 2).toNat=(c - 3).toNat from by omega];exact hI⟩)
     ·rw[if_neg (by rw[h6];simp)] at hI;refine aJ ?_;exact aU (⟨c - 1,j4,rfl,rfl,aa,aa,gk,by rw[show (c - 1 - 2).toNat=(c - 3).toNat from by omega];exact hI⟩)
    ·obtain rfl:c=2:=by omega
     rw[show ((2:Int) - 2).toNat=0 from rfl,mA] at hI;refine c6 ?_;refine bm (λm st=>∃(i:Nat),st=⟨[(145,.i i),(144,.i ((3+W.parents.length:Nat):Int)),(5,.val (.slice (some ⟨rE,0,none⟩) (3+W.parents.length) (3+W.parents.length))),(4,.val (.slice (some ⟨rD,0,none⟩) (3+W.parents.length) (3+W.parents.length))),(1,.ptr (mx W L arg path))],.au rE 4 (kn u.2)::.au rD 4 (kn j4)::H⟩/\m=3+W.parents.length - i/\i<=3+W.parents.length/\sR j4 u.2 i=false) (⟨0,rfl,rfl,aa,rfl⟩) ?_;rintro m _ ⟨i,rfl,rfl,aN,SX⟩;refine ay ?_;refine az (λkq=>?_) λkq=>?_
     ·refine c6 ?_;refine ag (ad.gX rfl rfl rfl rfl rfl aa) ?_;refine ag ((by first | exact ad.cE rfl rfl rfl rfl | (apply ad.iv rfl rfl rfl;(case hm=>repeat (first | exact .head _ | refine .tail _ ?_));(case hy=>exact xq (i:=i) aa)))) ?_;refine aH ?_;refine gw (λav=>ad.gX rfl rfl (cf av) rfl (cf av) aa) ?_;refine gw (λav=>(by first | exact ad.cE rfl rfl (cf av) rfl | (apply ad.iv rfl rfl (cf av);(case hm=>repeat (first | exact .head _ | refine .tail _ ?_));(case hy=>exact xq (i:=i) aa)))) ?_;refine aH ?_;refine bc (λlP=>?_) (λlP=>?_)
      ·rw[kr] at lP;have jH:lx W L can arg path=none:=by rw[lx, <-hR];simp only[];rw[<-jN];simp only[];rw[AU,if_neg (by rw[dc];simp), <-hI,if_pos (SU (c:=i) aa lP)]
       refine bS ?_;refine aZ.cl (rs:=[.tmp 2,.tmp 3]) (H':=H) rfl (.tmp rfl (.tmp rfl (.nil))) (.cons (aq.nil 1) (.cons (.refl _) .nil)) bE ?_;exact⟨oT,rfl⟩
      ·rw[kr] at lP;refine aP ?_;exact aU (⟨i+1,rfl,rfl,aa,by rw[agx,SX,lP];rfl⟩)
     ·obtain rfl:i=3+W.parents.length:=by omega
      have H6:lx W L can arg path=some j4:=by rw[lx, <-hR];simp only[];rw[<-jN];simp only[];rw[AU,if_neg (by rw[dc];simp), <-hI,if_neg (by rw[SX];simp)]
      refine ay ?_;rw[OR j4];refine aA.oW (d:=4) (k:=1) rfl na (by simp[gk]) (by intro e he;obtain⟨x,_,rfl⟩:=List.mem_map.1 he;rfl) aa yu ?_;refine aP ?_;refine aZ.cl (rs:=[.tmp 2,.tmp 3]) (H':=H) rfl (.tmp rfl (.tmp rfl (.nil))) (.refl _) bE ?_;exact⟨by rw[H6];rfl,rfl⟩
def mB(W:bx)(L:List Fact)(arg:Int):Nat->al->Bool
 | 0,path=>(rC W L arg path).2 || uf W L arg path || (lx W L (λ_=>false) arg path).isSome
 | d+1,path=>(rC W L arg path).2 || uf W L arg path || (lx W L (mB W L arg d) arg path).isSome
def rF(W:bx)(L:List Fact):Bool:=mB W L 0 2 [] && mB W L 1 2 [] && mB W L 2 2 []
def agz{p w}(h:lv p w):w.length<=p.length:=by
 rw[lv,Bool.and_eq_true,decide_eq_true_eq] at h;exact h.1
def agA(f:∀x∈L,ue W x){arg}{path}(h:2<=path.length):eg W L arg path= []:=by
 rw[eg,List.filter_eq_nil_iff];intro s _ j;obtain⟨x,g,a⟩:=List.any_eq_true.1 j;rw[rA,Bool.and_eq_true] at a;have c:=agz a.2;have l:=(f x g).path;rw[List.length_append] at c;simp at c;omega
def SY(W)(L)(c:∀x∈L,ue W x)(a:L.length<=1000)(h:cy W)(arg)(path)(l:path.length<=2)(can)(j:∀s∈eg W L arg path,aI prog 214 [ab.my W L arg (path++[s])] (.b (can (path++[s])))):aI prog 214 [ab.my W L arg path] (.b ((rC W L arg path).2 || uf W L arg path || (lx W L can arg path).isSome)):=by
 intro H;refine aM func214 λB I o=>?_;have g:=vn h;refine bQ ?_;refine ag (.call .k (agt W L c a g arg path aa)) ?_;refine bS ?_;refine ai.cG rfl rfl rfl rfl rfl rfl (λav=>.call (.mk' rfl rfl rfl rfl cU) (agu W L c a g arg path aa)) ?_;refine aH ?_;refine az (λaf=>?_) λaf=>?_
 ·refine aP ?_;refine aB 2 H ?_;exact⟨bn (by rw[eO] at af;rw[af];rfl),rfl⟩
 ·refine a8 ?_;refine bc (λae=>?_) λae=>?_
  ·cases ae
  ·refine aS ?_;refine ag (.call .k (agy W L c a h arg path aa can j)) ?_;refine c6 ?_;refine aB 2 H ?_;exact⟨bn (by rw[eO] at af;rw[af];rfl),rfl⟩
theorem SZ(W)(L)(a:∀x∈L,ue W x)(c:L.length<=1000)(f:cy W)(arg):∀(d:Nat) (path:al),path.length+d=2->aI prog 214 [ab.my W L arg path] (.b (mB W L arg d path))
 | 0,path,h=>by
  rw[mB];exact SY W L a c f arg path aa _ (λs g=>by rw[agA a aa] at g;cases g)
 | d+1,path,h=>by
  rw[mB];exact SY W L a c f arg path aa _ (λs g=>SZ W L a c f arg d (path++[s]) cF)
def agB(W)(L)(arg):aq (.agg (cB W++[ab.facts L,.i arg,.val aX,.b false])) (ab.my W L arg []):=by
 exact .agg (.cons (.refl _) (.cons (.refl _) (.cons (.refl _) (.cons (.refl _) (.cons (aq.nil 1) (.cons (.refl _) .nil))))))
def Ep(W)(L)(n):((List.range (n+1)).all λ(i:Nat)=>mB W L i 2 [])=(((List.range n).all λ(i:Nat)=>mB W L i 2 []) && mB W L n 2 []):=by rw[List.range_succ,List.all_append];simp
def S0(W)(L):((List.range 3).all λ(i:Nat)=>mB W L i 2 [])=rF W L:=by
 rw[rF,Ep,Ep,Ep];simp
def agC(a:i<3)(h:mB W L i 2 []=false):rF W L=false:=by
 rw[<-S0,List.all_eq_false];exact⟨i,List.mem_range.2 a,wz⟩
def agD(W)(L)(c:∀x∈L,ue W x)(g:L.length<=1000)(h:cy W):aI prog 195 [ab.world W,ab.facts L] (.b (rF W L)):=by
 intro H;refine aM func195 λB I l=>?_;refine di ?_;refine bm (λm f=>∃(i:Nat),f=⟨[(5,.i i),(2,.ptr (cB W)),(1,ab.facts L)],H⟩/\m=3 - i/\i<=3/\((List.range i).all λ(i:Nat)=>mB W L i 2 [])=true) iI ?_;rintro m _ ⟨i,rfl,rfl,j,a⟩;refine aP ?_;refine az (λaf=>?_) λaf=>?_
 ·refine bQ ?_;refine bT (λdN=>?_);refine ay ?_;refine ag (.tf .k (.cons (agB W L i) .nil) (SZ W L c g h i 2 [] rfl)) ?_;refine aH ?_;refine az (λae=>?_) λae=>?_
  ·refine bA ?_;refine aB 4 H ?_;exact⟨bn (agC (i:=i) aa nf).symm,rfl⟩
  ·refine aJ ?_;exact aU ⟨i+1,rfl,rfl,aa,by rw[Ep,a];simpa using ae⟩
 ·obtain rfl:i=3:=by omega
  rw[S0] at a;refine bA ?_;refine aB 4 H ?_;exact⟨bn a.symm,rfl⟩
def sS:lv p q=true↔q<+:p:=by
 rw[lv,Bool.and_eq_true,decide_eq_true_eq,beq_iff_eq];constructor
 ·rintro⟨_,h⟩;exact h▸List.take_prefix _ _
 ·intro h;exact⟨h.length_le,(List.prefix_iff_eq_take.1 h).symm⟩
def kC(a:Int)(p:al)(l:c1):Bool:=l.f.arg==a && lv l.f.path p
def jE(a:Int)(p:al)(l:c1):Bool:=l.f.arg==a && l.f.path==p
def sT(l:c1)(p:al)(k:dq):dq:=if p=l.f.path then fT (iq l k) l else lu (l.f.path.getD p.length 0) (iq l k)
def ir(a:Int)(p:al)(k:dq)(l:c1):dq:=if kC a p l=true then sT l p k else k
def Er(q):lv q []=true:=sS.2 (List.nil_prefix)
def JW(q):lv q q=true:=sS.2 (List.prefix_refl q)
def JX(h:p≠ []):lv [] p=false:=by
 rw[Bool.eq_false_iff];intro e;exact h (List.prefix_nil.1 (sS.1 e))
def Es:lv (x::q) p=true↔p= []\/∃r,p=x::r/\lv q r=true:=by
 rw[sS];constructor
 ·intro h;rcases p with _ | ⟨y,r⟩
  ·exact .inl rfl
  ·have:=List.cons_prefix_cons.1 h;exact .inr ⟨r,by rw[this.1],sS.2 this.2⟩
 ·rintro (rfl | ⟨r,rfl,h⟩)
  ·exact List.nil_prefix
  ·exact List.cons_prefix_cons.2 ⟨rfl,sS.1 h⟩
def agE(an)(l)(C:l.f.path.length<=2)(a)(p):vQ an l a p=ir a p (an a p) l:=by
 unfold vQ ir kC sT;generalize l.f.path=q at*;generalize c:l.f.arg=b;by_cases o:b=a
 ·subst o
  match q,C with
  | [],_=>
   by_cases g:p= []
   ·subst g;simp[lS,j3,c,Er]
   ·simp[lS,j3,c,g,JX g]
  | [s],_=>
   by_cases g:p= []
   ·subst g;simp[lS,j3,c,Er]
   ·by_cases h:p= [s]
    ·subst h;simp[lS,j3,c,JW]
    ·have w:lv [s] p=false:=by
      rw[Bool.eq_false_iff];intro e;rcases Es.1 e with e | ⟨r,e,m⟩
      ·exact g e
      ·rcases r with _ | ⟨y,r⟩
       ·exact h e
       ·rw[JX aT] at m;cases m
     simp[lS,j3,c,g,h,w]
  | [s,t],_=>
   by_cases g:p= []
   ·subst g;simp[lS,j3,c,Er]
   ·by_cases h:p= [s]
    ·subst h;simp[lS,j3,c,Es,Er]
    ·by_cases v:p= [s,t]
     ·subst v;simp[lS,j3,c,JW]
     ·have w:lv [s,t] p=false:=by
       rw[Bool.eq_false_iff];intro e;rcases Es.1 e with e | ⟨r,e,m⟩
       ·exact g e
       ·rcases Es.1 m with x | ⟨A,x,B⟩
        ·exact h (by rw[e,x])
        ·rcases A with _ | ⟨y,A⟩
         ·exact v (by rw[e,x])
         ·rw[JX aT] at B;cases B
      simp[lS,j3,c,g,h,v,w]
 ·have j:(b==a)=false:=by simpa using o
  have z: ¬a=b:=λe=>o e.symm
  match q,C with
  | [],_=>simp[lS,j3,c,j,z]
  | [s],_=>simp[lS,j3,c,j,z]
  | [s,t],_=>simp[lS,j3,c,j,z]
def agF(j:∀l∈ls,l.f.path.length<=2)(a)(p):ec ls a p=ls.foldl (ir a p) kA:=by
 unfold ec;have:∀(ls:List c1) (an:cS),(∀l∈ls,l.f.path.length<=2)->(ls.foldl vQ an) a p=ls.foldl (ir a p) (an a p):=by
  intro ls
  induction ls with
  | nil=>intro an _;rfl
  | cons l r m=>
   intro an h;rw[List.foldl_cons,List.foldl_cons,m _ (λx g=>h x (.tail _ g)),agE an l (h l dB)]
 exact this ls _ j
def k4(a:Int)(p:al)(neg:Bool)(c:Nat)(l:c1):Bool:=jE a p l && l.f.op==2 && l.neg==neg && l.f.cls.toNat==c
def vX(a:Int)(p:al)(l:c1):Bool:=jE a p l && l.f.op !=2 && !l.neg
def Et(a:Int)(p:al)(l:c1):Bool:=!l.neg && kC a p l
def Eu:jE a p l=(kC a p l && decide (p=l.f.path)):=by
 rw[jE,kC,Bool.and_assoc];congr 1;by_cases h:p=l.f.path
 ·subst h;simp[JW]
 ·have:(l.f.path==p)=false:=by simpa using λe=>h e.symm
  rw[this,decide_eq_false h,Bool.and_false]
def vY(s)(k):(lu s k).low=k.low/\(lu s k).high=k.high/\(lu s k).dE=k.dE/\(lu s k).bB=k.bB/\(lu s k).no=k.no/\(lu s k).whole=k.whole/\(lu s k).gi=k.gi:=by
 unfold lu;split <;> exact⟨rfl,rfl,rfl,rfl,rfl,rfl,rfl⟩
def JY(k)(l):(fT k l).gi=k.gi/\(fT k l).aw=k.aw:=by
 unfold fT;(repeat' split) <;> exact⟨rfl,rfl⟩
def agG(a)(p)(k)(l):(ir a p k l).gi=(k.gi || Et a p l):=by
 unfold ir sT Et;by_cases h:kC a p l=true
 ·rw[if_pos h,h,Bool.and_true];split
  ·rw[(JY _ _).1];show (bif k.gi then true else !l.neg)=_;cases k.gi <;> rfl
  ·rw[(vY _ _).2.2.2.2.2.2];show (bif k.gi then true else !l.neg)=_;cases k.gi <;> rfl
 ·rw[if_neg h,Bool.eq_false_iff.2 h];simp
def agH(a)(p)(k)(l)(c):(ir a p k l).bB.testBit c=(k.bB.testBit c || k4 a p false c l):=by
 unfold ir sT k4;rw[Eu];by_cases h:kC a p l=true
 ·rw[if_pos h,h];by_cases j:p=l.f.path
  ·rw[if_pos j,decide_eq_true j];unfold fT iq;by_cases g:l.f.op=2
   ·by_cases m:l.neg=true
    ·simp[g,m]
    ·simp[g,m,Nat.testBit_or,Nat.testBit_two_pow];rfl
   ·simp[g,if_false]
    (repeat' split) <;> (simp;intro e;exact absurd e g)
  ·rw[if_neg j,decide_eq_false j,(vY _ _).2.2.2.1];simp[iq]
 ·rw[if_neg h,Bool.eq_false_iff.2 h];simp
def agI(a)(p)(k)(l)(c):(ir a p k l).no.testBit c=(k.no.testBit c || k4 a p true c l):=by
 unfold ir sT k4;rw[Eu];by_cases h:kC a p l=true
 ·rw[if_pos h,h];by_cases j:p=l.f.path
  ·rw[if_pos j,decide_eq_true j];unfold fT iq;by_cases g:l.f.op=2
   ·by_cases m:l.neg=true
    ·simp[g,m,Nat.testBit_or,Nat.testBit_two_pow];rfl
    ·simp[g,m]
   ·simp[g,if_false]
    (repeat' split) <;> (simp;intro e;exact absurd e g)
  ·rw[if_neg j,decide_eq_false j,(vY _ _).2.2.2.2.1];simp[iq]
 ·rw[if_neg h,Bool.eq_false_iff.2 h];simp
def agJ(a)(p)(k)(l):(ir a p k l).whole=(k.whole || vX a p l):=by
 unfold ir sT vX;rw[Eu];by_cases h:kC a p l=true
 ·rw[if_pos h,h];by_cases c:p=l.f.path
  ·rw[if_pos c,decide_eq_true c];unfold fT iq;by_cases g:l.f.op=2
   ·simp[g,if_true];split <;> simp
   ·simp[g,if_false];by_cases j:l.neg=true
    ·simp[j,if_true];split <;> simp
    ·simp[j];split <;> simp[g]
  ·rw[if_neg c,decide_eq_false c,(vY _ _).2.2.2.2.2.1];simp[iq]
 ·rw[if_neg h,Bool.eq_false_iff.2 h];simp
def oN(k:dq):qk:=(k.low,k.high,k.dE)
def vZ(s:qk)(l:c1):qk:=
 if l.f.op=2 then s
 else if l.f.op=3 then (if l.neg=true then (oP s.1 l.f.n,s.2.1,s.2.2) else (s.1,pB s.2.1 (l.f.n - 1),s.2.2))
 else if l.neg=true then (s.1,s.2.1,s.2.2++[l.f.n])
 else (oP s.1 l.f.n,pB s.2.1 l.f.n,s.2.2)
def agK(a)(p)(k)(l):oN (ir a p k l)=if jE a p l=true then vZ (oN k) l else oN k:=by
 unfold ir sT;rw[Eu];by_cases h:kC a p l=true
 ·rw[if_pos h,h];by_cases c:p=l.f.path
  ·rw[if_pos c,decide_eq_true c,if_pos cM];unfold fT iq vZ oN oP pB;by_cases g:l.f.op=2
   ·simp only[g,if_true] <;> (split <;> rfl)
   ·simp[g,if_false];by_cases j:l.f.op=3
    ·simp[j,if_true];split <;> rfl
    ·simp[j,if_false];split <;> rfl
  ·rw[if_neg c,decide_eq_false c,if_neg aT,oN,(vY _ _).1,(vY _ _).2.1,(vY _ _).2.2.1];rfl
 ·rw[if_neg h,Bool.eq_false_iff.2 h,if_neg aT]
def agL:kC a (p++[x]) l=true↔kC a p l=true/\p≠l.f.path/\l.f.path.getD p.length 0=x:=by
 rw[kC,kC,Bool.and_eq_true,Bool.and_eq_true,sS,sS];constructor
 ·rintro⟨h,r,c⟩;refine⟨⟨h,[x]++r,by rw[<-List.append_assoc];exact c⟩,?_,?_⟩
  ·intro e;have:=congrArg List.length c;rw[<-e] at this;simp at this
  ·rw[<-c];simp
 ·rintro⟨⟨h,r,c⟩,j,g⟩;refine⟨h,?_⟩;rcases r with _ | ⟨y,r⟩
  ·exact absurd (by simpa using c) j
  ·refine⟨r,?_⟩;rw[<-c] at g ⊢;simp at g;subst g;simp
def agM:x∈(lu s k).aw↔x∈k.aw\/x=s:=by
 unfold lu;split
 ·rename_i h;have h:=List.contains_iff_mem.1 h;constructor
  ·exact .inl
  ·rintro (a | rfl);exact a;exact h
 ·show x∈xW _↔_;rw[(Eh _).mem_iff];simp
def agN(a)(p)(k)(l)(x):x∈(ir a p k l).aw↔x∈k.aw\/kC a (p++[x]) l=true:=by
 rw[agL];unfold ir sT;by_cases h:kC a p l=true
 ·rw[if_pos h];by_cases g:p=l.f.path
  ·rw[if_pos g,(JY _ _).2];show x∈k.aw↔_;exact⟨.inl,λjV=>jV.elim id λjV=>absurd g jV.2.1⟩
  ·rw[if_neg g,agM];show x∈k.aw\/_↔_;constructor
   ·rintro (jV | rfl);exact .inl jV;exact .inr ⟨h,g,rfl⟩
   ·rintro (jV | ⟨_,_,rfl⟩);exact .inl jV;exact .inr rfl
 ·rw[if_neg h];exact⟨.inl,λjV=>jV.elim id λjV=>absurd jV.1 h⟩
def agO{l:al}(h:l.Pairwise (· <= ·))(hn:l.Nodup):l.Pairwise (· < ·):=by
 have:=h.and hn;exact this.imp λ⟨a,ak⟩=>by omega
def agP(h:k.aw.Pairwise (· < ·)):(lu s k).aw.Pairwise (· < ·):=by
 unfold lu;split
 ·exact h
 ·rename_i c;refine agO (JO _) ((Eh _).nodup_iff.2 ?_);have g:k.aw.Nodup:=h.imp λjV=>by omega
  refine List.nodup_append.2 ⟨g,aT,?_⟩;intro x f y a e;rw[List.mem_singleton] at a;subst e;subst a;exact c (List.contains_iff_mem.2 f)
def agQ(h:k.aw.Pairwise (· < ·)):(ir a p k l).aw.Pairwise (· < ·):=by
 unfold ir sT;split
 ·split
  ·rw[(JY _ _).2];exact h
  ·exact agP h
 ·exact h
section
variable(a:Int)(p:al)
theorem S1:∀(c:List c1) (k:dq),(c.foldl (ir a p) k).gi=(k.gi || c.any (Et a p))
 | [],k=>by simp
 | l::r,k=>by rw[List.foldl_cons,S1 r,agG,List.any_cons,Bool.or_assoc]
theorem S2(c):∀(f:List c1) (k:dq),(f.foldl (ir a p) k).bB.testBit c=(k.bB.testBit c || f.any (k4 a p false c))
 | [],k=>by simp
 | l::r,k=>by rw[List.foldl_cons,S2 c r,agH,List.any_cons,Bool.or_assoc]
theorem S3(c):∀(f:List c1) (k:dq),(f.foldl (ir a p) k).no.testBit c=(k.no.testBit c || f.any (k4 a p true c))
 | [],k=>by simp
 | l::r,k=>by rw[List.foldl_cons,S3 c r,agI,List.any_cons,Bool.or_assoc]
theorem S4:∀(c:List c1) (k:dq),(c.foldl (ir a p) k).whole=(k.whole || c.any (vX a p))
 | [],k=>by simp
 | l::r,k=>by rw[List.foldl_cons,S4 r,agJ,List.any_cons,Bool.or_assoc]
theorem S5:∀(c:List c1) (k:dq),oN (c.foldl (ir a p) k)=(c.filter (jE a p)).foldl vZ (oN k)
 | [],k=>rfl
 | l::r,k=>by
  rw[List.foldl_cons,S5 r,agK,List.filter_cons];split
  ·rw[List.foldl_cons]
  ·rfl
theorem S6(x):∀(c:List c1) (k:dq),x∈(c.foldl (ir a p) k).aw↔x∈k.aw\/c.any (kC a (p++[x]))=true
 | [],k=>by simp
 | l::r,k=>by rw[List.foldl_cons,S6 x r,agN,List.any_cons,Bool.or_eq_true,or_assoc]
theorem S7:∀(c:List c1) (k:dq),k.aw.Pairwise (· < ·)->(c.foldl (ir a p) k).aw.Pairwise (· < ·)
 | [],k,h=>h
 | l::r,k,h=>by rw[List.foldl_cons];exact S7 r _ (agQ h)
end
theorem lt_eq:∀{l m:al},l.Pairwise (· < ·)->m.Pairwise (· < ·)->(∀x,x∈l↔x∈m)->l=m
 | [],[],_,_,_=>rfl
 | [],b::m,_,_,h=>absurd ((h b).2 dB) aT
 | a::l,[],_,_,h=>absurd ((h a).1 dB) aT
 | a::l,b::m,q,r,h=>by
  have j:=List.pairwise_cons.1 q;have g:=List.pairwise_cons.1 r;have o:a=b:=by
   rcases List.mem_cons.1 ((h a).1 dB) with e | e
   ·exact e
   ·rcases List.mem_cons.1 ((h b).2 dB) with f | f
    ·exact f.symm
    ·have:=g.1 a e;have:=j.1 b f;omega
  subst o;rw[lt_eq j.2 g.2 λx=>?_];constructor
  ·intro c;rcases List.mem_cons.1 ((h x).1 (.tail _ c)) with e | e
   ·have:=j.1 x c;omega
   ·exact e
  ·intro c;rcases List.mem_cons.1 ((h x).2 (.tail _ c)) with e | e
   ·have:=g.1 x c;omega
   ·exact e
def x5(h:l.f.op<=4):cb (jC l)=(l.f,l.neg):=by
 unfold cb jC;by_cases a:l.neg=true
 ·rw[if_pos a,if_pos cM,a];rfl
 ·rw[if_neg a,if_neg aa,Bool.eq_false_iff.2 a]
def S8{q}{r}(h:∀l∈ls,q (jC l)=r l):(eW ls).any q=ls.any r:=by
 rw[eW,List.any_map];exact tI λx a=>h x a
structure mC(W:bx)(ls:List c1):Prop where
 w:cy W=true
 ok:∀l∈ls,m6 W l
 cls:∀l∈ls,l.f.op=2->l.f.cls<3+W.parents.length
section
variable{W:bx}{ls:List c1}(h:mC W ls)
include h
def mC.sp(bq:l∈ls):cb (jC l)=(l.f,l.neg):=x5 (h.ok l bq).op.2
def mC.at(a:Int)(p:al):ec ls a p=ls.foldl (ir a p) kA:=agF (λl bq=>(h.ok l bq).path) a p
def mC.vN(a:Int)(p:al):(ec ls a p).gi=ls.any (Et a p):=by rw[h.at,S1];rfl
def mC.bB(a:Int)(p:al)(c:Nat):(ec ls a p).bB.testBit c=ls.any (k4 a p false c):=by rw[h.at,S2];simp[kA]
def mC.no(a:Int)(p:al)(c:Nat):(ec ls a p).no.testBit c=ls.any (k4 a p true c):=by rw[h.at,S3];simp[kA]
def mC.whole(a:Int)(p:al):(ec ls a p).whole=ls.any (vX a p):=by rw[h.at,S4];rfl
def mC.oN(a:Int)(p:al):oN (ec ls a p)=(ls.filter (jE a p)).foldl vZ AT:=by rw[h.at,S5];rfl
def mC.aw(a:Int)(p:al)(x:Int):x∈(ec ls a p).aw↔ls.any (kC a (p++[x]))=true:=by rw[h.at,S6];simp[kA]
def mC.lt(a:Int)(p:al):(ec ls a p).aw.Pairwise (· < ·):=by rw[h.at];exact S7 a p ls _ (by simp[kA])
def S9(a:Int)(p:al):oK (eW ls) a p= !(ec ls a p).gi:=by
 rw[oK,h.vN,S8 λl bq=>?_];rw[AS,h.sp bq];rfl
def agR(a:Int)(p:al):(eW ls).any (rA a p)=ls.any (kC a p):=
 S8 λl bq=>by rw[rA,h.sp bq];rfl
def JZ(a:Int)(p:al):ej (eW ls) a p=eW (ls.filter (jE a p)):=by
 rw[ej,eW,List.filter_map,eW];congr 1;exact List.filter_congr λl bq=>by show py a p (jC l)=_;rw[py,h.sp bq];rfl
def J0(a:Int)(p:al):eg W (eW ls) a p=(ec ls a p).aw:=by
 refine lt_eq ?_ (h.lt a p) λx=>?_
 ·rw[eg];refine List.Pairwise.filter _ ?_;rw[List.pairwise_map];exact List.pairwise_lt_range.imp λjV=>by omega
 ·rw[h.aw,eg,List.mem_filter,agR h];constructor
  ·exact λjV=>jV.2
  ·intro jV;refine⟨?_,jV⟩;obtain⟨l,bq,hw⟩:=List.any_eq_true.1 jV;rw[kC,Bool.and_eq_true,sS] at hw;have aK:x∈l.f.path:=hw.2.subset aT;have:=(h.ok l bq).slot x aK;exact List.mem_map.2 ⟨x.toNat,List.mem_range.2 aa,aa⟩
def Ta(a:Int)(p:al):vT W (eW ls) a p=xX (ec ls) a p:=by
 rw[vT,xX,J0 h];congr 1;funext s;rw[S9 h]
omit h in
def Ev(s t c):(me s t).testBit c=(decide (c<64) && s.testBit c && !t.testBit c):=by
 rw[me,BitVec.testBit_toNat,BitVec.getLsbD_and,BitVec.getLsbD_not,BitVec.getLsbD_ofNat,BitVec.getLsbD_ofNat];cases decide (c<64) <;> simp
omit h in
def J1{n:Nat}:((n:Int)==0)=true↔∀c,n.testBit c=false:=by
 rw[beq_iff_eq];constructor
 ·intro e c;have:n=0:=by omega
  rw[this];exact Nat.zero_testBit c
 ·intro e;have:n=0:=Nat.eq_of_testBit_eq λc=>by rw[e,Nat.zero_testBit]
  omega
omit h in
def Tb(cls)(c):(sQ cls).testBit c=(c==0 || c==cls.toNat):=by
 rw[sQ,Nat.testBit_or,Nat.testBit_two_pow];congr 1
 ·rcases c with _ | c
  ·rfl
  ·rw[Nat.testBit_succ];simp
 ·rw[Bool.eq_iff_iff,decide_eq_true_iff,beq_iff_eq];exact eq_comm
def mC.agS(a1:(ec ls a p).bB.testBit c):c<3+W.parents.length:=by
 rw[h.bB] at a1;obtain⟨l,bq,aW⟩:=List.any_eq_true.1 a1;simp only[k4,Bool.and_eq_true,beq_iff_eq] at aW;have ae:=(h.ok l bq).cls aW.1.1.2;have ak:=h.cls l bq aW.1.1.2;omega
def Tc(a:Int)(p:al)(cls:Int):xY (ec ls) a p cls=true↔(∀c,(ec ls a p).bB.testBit c=true->c=0\/c=cls.toNat)/\(∀c,c=0\/c=cls.toNat->(ec ls a p).no.testBit c=false)/\xX (ec ls) a p=true:=by
 have rh:=q8 h.w;rw[xY,Bool.and_eq_true,Bool.and_eq_true,J1,J1,and_assoc];refine and_congr ?_ (and_congr ?_ Iff.rfl)
 ·refine forall_congr' λc=>?_;rw[Ev,Tb];constructor
  ·intro ae ak;have:=h.agS ak;rw[ak,decide_eq_true aa] at ae;by_cases a1:c=0
   ·exact .inl a1
   ·right;simp at ae;exact ae a1
  ·intro ae;cases hm:(ec ls a p).bB.testBit c with
   | false=>simp
   | true=>rcases ae hm with e | e <;> simp[e]
 ·refine forall_congr' λc=>?_;rw[Nat.testBit_and,Tb];constructor
  ·intro ae ak;rcases ak with e | e <;> simpa [e] using ae
  ·intro ae;by_cases a1:c=0\/c=cls.toNat
   ·rw[ae a1];rfl
   ·have:(c==0 || c==cls.toNat)=false:=by simpa [not_or] using a1
    rw[this,Bool.and_false]
omit h in
def sU(l:c1):Bool:=!(l.f.op==2 && (decide (l.f.cls>1) !=l.neg))
omit h in
def agT(c:l.f.op<=4)(s):mz s (jC l)=if sU l=true then some (vZ s l) else none:=by
 unfold mz sU vZ;rw[x5 c];by_cases a:l.f.op=2
 ·simp only[a,if_true];cases ba:(decide (l.f.cls>1) !=l.neg) <;> simp
 ·simp only[a,if_false];have:(l.f.op==2)=false:=by simpa using a
  rw[this];simp only[Bool.false_and,Bool.not_false,if_true]
  (repeat' split) <;> rfl
omit h in
theorem Td:∀(r:List c1) (s:qk),(∀l∈r,l.f.op<=4)->ql (eW r) s=if r.all sU=true then some (r.foldl vZ s) else none
 | [],s,_=>rfl
 | l::r,s,c=>by
  show ql (jC l::eW r) s=_;rw[ql,agT (c l dB),List.all_cons,List.foldl_cons];by_cases a:sU l=true
  ·rw[if_pos a,a,Bool.true_and];exact Td r _ λx g=>c x (.tail _ g)
  ·rw[if_neg a,Bool.eq_false_iff.2 a,Bool.false_and];rfl
def agU(a:Int)(p:al):(ls.filter (jE a p)).all sU=true↔(∀c,(ec ls a p).bB.testBit c=true->c=0\/c=1)/\(∀c,c=0\/c=1->(ec ls a p).no.testBit c=false):=by
 rw[List.all_eq_true];constructor
 ·intro bD;refine⟨λc a1=>?_,λc a1=>?_⟩
  ·rw[h.bB] at a1;obtain⟨l,bq,aW⟩:=List.any_eq_true.1 a1;simp only[k4,Bool.and_eq_true,beq_iff_eq] at aW;have:=bD l (List.mem_filter.2 ⟨bq,aW.1.1.1⟩);simp only[sU,aW.1.1.2,aW.1.2,beq_self_eq_true,Bool.true_and,Bool.not_eq_true',bne_eq_false_iff_eq,decide_eq_false_iff_not] at this;have:=(h.ok l bq).cls aW.1.1.2;omega
  ·rw[Bool.eq_false_iff,h.no];intro hn;obtain⟨l,bq,aW⟩:=List.any_eq_true.1 hn;simp only[k4,Bool.and_eq_true,beq_iff_eq] at aW;have:=bD l (List.mem_filter.2 ⟨bq,aW.1.1.1⟩);simp only[sU,aW.1.1.2,aW.1.2,beq_self_eq_true,Bool.true_and,Bool.not_eq_true',bne_eq_false_iff_eq,decide_eq_true_eq] at this;omega
 ·rintro⟨ae,ak⟩ l bq;have bq:=List.mem_filter.1 bq;simp only[sU,Bool.not_eq_true',Bool.and_eq_false_iff,beq_eq_false_iff_ne,bne_eq_false_iff_eq];by_cases bb:l.f.op=2
  ·right;have a1:=(h.ok l bq.1).cls bb;cases hn:l.neg with
   | false=>
    rw[decide_eq_false_iff_not];have:=ae l.f.cls.toNat Lo;omega
   | true=>
    rw[decide_eq_true_eq];have:∀c,c=0\/c=1->l.f.cls.toNat≠c:=λc a1 e=>by
     have:=ak c a1;rw[h.no,Bool.eq_false_iff] at this;exact this (List.any_eq_true.2 ⟨l,bq.1,by simp[k4,bq.2,bb,hn,e]⟩)
    have af:=this 0 (.inl rfl);have ae:=this 1 (.inr rfl);omega
  ·exact .inl bb
def Te(a:Int)(p:al):(rC W (eW ls) a p).2=xZ (ec ls) a p:=by
 have e:=Td (ls.filter (jE a p)) AT λl bq=>(h.ok l (List.mem_filter.1 bq).1).op.2;have bV:=Tc h a p 1;have aN:=agU h a p;rw[rC,JZ h,e,Ta h];have ht:=h.oN a p;rw[xZ,Bool.eq_iff_iff,Bool.and_eq_true,bV,decide_eq_true_iff];by_cases bD:(ls.filter (jE a p)).all sU=true
 ·rw[if_pos bD, <-ht];simp only[];have aW:=aN.1 bD;constructor
  ·intro ae;by_cases b7:m5 (oN (ec ls a p)).2.2 (oN (ec ls a p)).1<=(oN (ec ls a p)).2.1
   ·rw[if_pos b7] at ae;exact⟨b7,aW.1,aW.2,ae⟩
   ·rw[if_neg b7] at ae;cases ae
  ·rintro⟨ae,_,_,ak⟩;rw[if_pos (by exact ae)];exact ak
 ·rw[if_neg bD];constructor
  ·intro ae;cases ae
  ·rintro⟨_,ae,ak,_⟩;exact absurd (aN.2 ⟨ae,ak⟩) bD
omit h in
def agV(a:l.f.op<=4):(!(isNone (jC l)==(cb (jC l)).2))= !((l.f.op==2 && (l.f.cls==0 || l.f.cls==2))==l.neg):=by
 rw[isNone,x5 a]
def agW(a:Int)(p:al):((ls.filter (jE a p)).all λl=>!((l.f.op==2 && (l.f.cls==0 || l.f.cls==2))==l.neg))=true↔(ec ls a p).whole=false/\(∀c,(ec ls a p).bB.testBit c=true->c=0\/c=2)/\(∀c,c=0\/c=2->(ec ls a p).no.testBit c=false):=by
 rw[List.all_eq_true];constructor
 ·intro bD;refine⟨?_,λc a1=>?_,λc a1=>?_⟩
  ·rw[h.whole,Bool.eq_false_iff];intro hw;obtain⟨l,bq,aW⟩:=List.any_eq_true.1 hw;simp only[vX,Bool.and_eq_true,bne_iff_ne,Bool.not_eq_true'] at aW;have:=bD l (List.mem_filter.2 ⟨bq,aW.1.1⟩);have ak:(l.f.op==2)=false:=by simpa using aW.1.2
   rw[ak,aW.2] at this;simp at this
  ·rw[h.bB] at a1;obtain⟨l,bq,aW⟩:=List.any_eq_true.1 a1;simp only[k4,Bool.and_eq_true,beq_iff_eq] at aW;have:=bD l (List.mem_filter.2 ⟨bq,aW.1.1.1⟩);simp only[aW.1.1.2,aW.1.2,beq_self_eq_true,Bool.true_and,Bool.not_eq_true',beq_eq_false_iff_ne,ne_eq,Bool.not_eq_false,Bool.or_eq_true,beq_iff_eq] at this;have:=(h.ok l bq).cls aW.1.1.2;omega
  ·rw[Bool.eq_false_iff,h.no];intro hn;obtain⟨l,bq,aW⟩:=List.any_eq_true.1 hn;simp only[k4,Bool.and_eq_true,beq_iff_eq] at aW;have:=bD l (List.mem_filter.2 ⟨bq,aW.1.1.1⟩);simp only[aW.1.1.2,aW.1.2,beq_self_eq_true,Bool.true_and,Bool.not_eq_true',beq_eq_false_iff_ne,ne_eq,Bool.not_eq_true,Bool.or_eq_false_iff] at this;have:=(h.ok l bq).cls aW.1.1.2;omega
 ·rintro⟨af,ae,ak⟩ l bq;have bq:=List.mem_filter.1 bq;rw[Bool.not_eq_true',beq_eq_false_iff_ne];by_cases bb:l.f.op=2
  ·have a1:=(h.ok l bq.1).cls bb;rw[show (l.f.op==2)=true from by simpa using bb,Bool.true_and];cases hn:l.neg with
   | false=>
    have:=ae l.f.cls.toNat Lo;simp only[ne_eq,Bool.not_eq_false,Bool.or_eq_true,beq_iff_eq];omega
   | true=>
    have:∀c,c=0\/c=2->l.f.cls.toNat≠c:=λc a1 e=>by
     have:=ak c a1;rw[h.no,Bool.eq_false_iff] at this;exact this (List.any_eq_true.2 ⟨l,bq.1,by simp[k4,bq.2,bb,hn,e]⟩)
    have af:=this 0 (.inl rfl);have ae:=this 2 (.inr rfl);simp only[ne_eq,Bool.not_eq_true,Bool.or_eq_false_iff,beq_eq_false_iff_ne];omega
  ·have ak:(l.f.op==2)=false:=by simpa using bb
   rw[ak,Bool.false_and];intro hn;rw[h.whole,Bool.eq_false_iff] at af;exact af (List.any_eq_true.2 ⟨l,bq.1,by simp[vX,bq.2,ak, <-hn,bb]⟩)
def Tf(a:Int)(p:al):uf W (eW ls) a p=x0 (ec ls) a p:=by
 have bV:=Tc h a p 2;have aN:=agW h a p;rw[uf,JZ h,Ta h,Bool.eq_iff_iff,x0,Bool.and_eq_true,Bool.and_eq_true,bV];have e:((eW (ls.filter (jE a p))).all λx=>!(isNone x==(cb x).2))=((ls.filter (jE a p)).all λl=>!((l.f.op==2 && (l.f.cls==0 || l.f.cls==2))==l.neg)):=by
  rw[eW,List.all_map,Bool.eq_iff_iff,List.all_eq_true,List.all_eq_true];refine forall_congr' λl=>imp_congr_right λbq=>?_;show (!(isNone (jC l)==(cb (jC l)).2))=true↔_;rw[agV (h.ok l (List.mem_filter.1 bq).1).op.2]
 rw[e,aN,Bool.not_eq_true'];constructor
 ·rintro⟨⟨af,ae,ak⟩,aL⟩;exact⟨af,ae,ak,aL⟩
 ·rintro⟨af,ae,ak,aL⟩;exact⟨⟨af,ae,ak⟩,aL⟩
end
theorem J2{a:Type}(p q:a->Bool):∀l:List a,(l.any p || l.any q)=l.any λx=>p x || q x
 | []=>rfl
 | x::r=>by rw[List.any_cons,List.any_cons,List.any_cons, <-J2 p q r];cases p x <;> cases q x <;> cases r.any p <;> rfl
def AX{l:cY}{x}:(l.set i x).length=l.length:=List.length_set
def AY{l:cY}{i b}(a:i<l.length):(l.set i true).getD b false=(l.getD b false || b==i):=by
 rw[uD];by_cases e:i=b
 ·subst e;rw[if_pos ⟨rfl,a⟩];simp
 ·rw[if_neg (λh=>e h.1),show (b==i)=false from by rw[beq_eq_false_iff_ne];exact λh=>e h.symm,Bool.or_false]
def qo(l:c1):Bool:=(l.f.op !=2 || l.f.cls==1 || l.f.cls==2) && !l.neg
def rG(c:Nat)(l:c1):Bool:=l.f.op==2 && !l.neg && l.f.cls.toNat==c
def uh(c:Nat)(l:c1):Bool:=l.f.op==2 && l.neg && l.f.cls.toNat==c
structure Tg(N:Nat)(l:c1):Prop where
 op:l.f.op<=4
 cls:l.f.op=2->0<=l.f.cls/\l.f.cls<N
def Ew{N}:∀(r:List c1) (t:lT),(∀l∈r,Tg N l)->t.1.length=N->t.2.length=N->
  (r.any qo=true->oM (eW r) t=none)/\(r.any qo=false->∃u:lT,oM (eW r) t=some u/\u.1.length=N/\u.2.length=N/\∀c,u.1.getD c false=(t.1.getD c false || r.any (rG c))/\(c≠1->c≠2->u.2.getD c false=(t.2.getD c false || r.any (uh c))))
 | [],t,_,z,s=>⟨aT,λ_=>⟨t,rfl,z,s,λc=>⟨aT,λ_ _=>by simp⟩⟩⟩
 | l::r,t,G,z,s=>by
  have E:=G l dB;have m:∀x∈r,Tg N x:=λx I=>G x (.tail _ I);have H:=x5 E.op;show (_->oM (jC l::eW r) t=none)/\(_->∃u:lT,oM (jC l::eW r) t=some u/\_);rw[oM,vU,H,List.any_cons];by_cases q:(l.f.op !=2 || l.f.cls==1 || l.f.cls==2)=true
  ·rw[if_pos q];by_cases a:l.neg=true
   ·rw[if_pos a,show qo l=false from by rw[qo,a];simp,Bool.false_or];obtain⟨A,B⟩:=Ew r t m z s;refine⟨A,λba=>?_⟩;obtain⟨u,e,w,v,j⟩:=B ba;refine⟨u,e,w,v,λc=>⟨?_,λsf C=>?_⟩⟩
    ·rw[(j c).1,List.any_cons,show rG c l=false from by rw[rG,a];simp,Bool.false_or]
    ·have D:uh c l=false:=by
      rw[uh,Bool.eq_false_iff];intro e;simp[Bool.and_eq_true,beq_iff_eq,Bool.or_eq_true,bne_iff_ne] at e q;have:=E.cls e.1.1;omega
     rw[(j c).2 sf C,List.any_cons,D,Bool.false_or]
   ·have ba:qo l=true:=by rw[qo,q];simpa using a
    rw[if_neg a,ba];exact⟨λ_=>rfl,λh=>by simp at h⟩
  ·have g:=Bool.eq_false_iff.2 q;have ba:qo l=false:=by rw[qo,g];rfl
   simp[Bool.or_eq_false_iff,bne_eq_false_iff_eq] at g;have J:=E.cls g.1.1;rw[if_neg q,ba,Bool.false_or];by_cases a:l.neg=true
   ·rw[if_pos a];obtain⟨A,B⟩:=Ew r (t.1,t.2.set l.f.cls.toNat true) m z (by rw[AX];exact s);refine⟨A,λba=>?_⟩;obtain⟨u,e,w,v,j⟩:=B ba;refine⟨u,e,w,v,λc=>⟨?_,λsf C=>?_⟩⟩
    ·rw[(j c).1,List.any_cons,show rG c l=false from by rw[rG,a];simp,Bool.false_or]
    ·rw[(j c).2 sf C,List.any_cons, <-Bool.or_assoc];congr 1;show (t.2.set l.f.cls.toNat true).getD c false=_;rw[AY aa,uh,a,g.1.1];simp[eq_comm,Bool.beq_eq_decide_eq]
   ·rw[if_neg a];have a:=Bool.eq_false_iff.2 a;obtain⟨A,B⟩:=Ew r (t.1.set l.f.cls.toNat true,t.2) m (by rw[AX];exact z) s;refine⟨A,λba=>?_⟩;obtain⟨u,e,w,v,j⟩:=B ba;refine⟨u,e,w,v,λc=>⟨?_,λsf C=>?_⟩⟩
    ·rw[(j c).1,List.any_cons, <-Bool.or_assoc];congr 1;show (t.1.set l.f.cls.toNat true).getD c false=_;rw[AY aa,rG,a,g.1.1];simp[eq_comm,Bool.beq_eq_decide_eq]
    ·rw[(j c).2 sf C,List.any_cons,show uh c l=false from by rw[uh,a];simp,Bool.false_or]
theorem J3:∀(l:al) (o:cY) (b:Nat),(∀p∈l,0<=p/\p<o.length)->(qn o l).getD b false=(o.getD b false || l.contains (b:Int))
 | [],o,b,_=>by simp[qn]
 | p::r,o,b,h=>by
  have c:=h p dB;show (qn (o.set p.toNat true) r).getD b false=_;rw[J3 r _ b (λq a=>by rw[AX];exact h q (.tail _ a)),AY aa,List.contains_cons,Bool.or_assoc];congr 2;rw[Bool.eq_iff_iff,beq_iff_eq,beq_iff_eq];omega
theorem Th(W):∀(k:Nat) (o:cY),(mA W k o).length=o.length
 | 0,o=>rfl
 | k+1,o=>by rw[mA,Th W k];split;exact En _ _;rfl
theorem J4{W}(h:cy W):∀(k:Nat) (o:cY),k<=W.parents.length->o.length=3+W.parents.length->∀b,0<b->(mA W k o).getD b false=(o.getD b false || (List.range k).any λi=>o.getD (3+i) false && gy W (3+i) b)
 | 0,o,_,_,b,_=>by simp[mA]
 | k+1,o,s,m,b,q=>by
  have bV:=p3 h (i:=k) aa;rw[mA,List.range_succ,List.any_append,List.any_cons,List.any_nil,Bool.or_false];by_cases a:o.getD (3+k) false=true
  ·rw[if_pos a];have l:=λx=>J3 (W.parents.getD k default) o x (λp f=>by have:=bV p f;omega);rw[J4 h k _ aa (by rw[En];exact m) b q,l,a,Bool.true_and];rw[ou h aa,show (b==0)=false from by rw[beq_eq_false_iff_ne];omega,Bool.false_or];rw[Bool.eq_iff_iff];simp only[Bool.or_eq_true,Bool.and_eq_true,List.any_eq_true,List.mem_range,beq_iff_eq,l,List.contains_iff_mem];constructor
   ·rintro ((c | ak) | ⟨i,j,c | c,g⟩)
    ·exact .inl c
    ·exact .inr (.inr (.inr ⟨(b:Int),ak,Lf⟩))
    ·exact .inr (.inl ⟨i,j,c,g⟩)
    ·exact .inr (.inr (.inr ⟨((3+i:Nat):Int),c,by rw[Int.toNat_natCast];exact g⟩))
   ·rintro (c | ⟨i,j,c,g⟩ | rfl | ⟨p,f,g⟩)
    ·exact .inl (.inl c)
    ·exact .inr ⟨i,j,.inl c,g⟩
    ·exact .inl (.inl a)
    ·have:=bV p f;by_cases r:p.toNat<3+k
     ·refine .inr ⟨p.toNat - 3,aa,.inr ?_,?_⟩
      ·rw[show ((3+(p.toNat - 3):Nat):Int)=p from by omega];exact f
      ·rw[show 3+(p.toNat - 3)=p.toNat from by omega];exact g
     ·omega
  ·rw[if_neg a,J4 h k _ aa m b q,Bool.eq_false_iff.2 a,Bool.false_and,Bool.or_false]
theorem J5{W}(h:cy W):∀(k:Nat) (o:cY),k<=W.parents.length->o.length=3+W.parents.length->(mA W k o).getD 0 false=o.getD 0 false
 | 0,o,_,_=>rfl
 | k+1,o,g,c=>by
  have f:=p3 h (i:=k) aa;rw[mA];split
  ·rw[J5 h k _ aa (by rw[En];exact c),J3 _ _ _ (λp a=>by have:=f p a;omega)];have:(W.parents.getD k default).contains ((0:Nat):Int)=false:=by
    rw[Bool.eq_false_iff];intro e;have:=f _ (List.contains_iff_mem.1 e);omega
   rw[this,Bool.or_false]
  ·exact J5 h k _ aa c
theorem Ti{W}(h:cy W):∀(f c l:Nat),c+f=3+W.parents.length->∀b,(j1 W f c l).testBit b=true↔l.testBit b=true\/∃i,c<=i/\i<c+f/\l.testBit i=true/\gy W i b=true
 | 0,c,l,_,b=>by
  rw[j1];exact⟨.inl,λh=>h.elim id λ⟨i,a,o,_⟩=>by omega⟩
 | f+1,c,l,q,b=>by
  rw[j1,Ti h f (c+1) _ aa];by_cases m:l.testBit c=true
  ·rw[if_pos m];simp[Nat.testBit_or,Bool.or_eq_true];constructor
   ·rintro ((a | a) | ⟨i,a,o,g | g,j⟩)
    ·exact .inl a
    ·exact .inr ⟨c,aa,aa,m,a⟩
    ·exact .inr ⟨i,aa,aa,g,j⟩
    ·exact .inr ⟨c,aa,aa,m,Hm h c c ft aa i b g j⟩
   ·rintro (a | ⟨i,a,o,g,j⟩)
    ·exact .inl (.inl a)
    ·by_cases e:i=c
     ·subst e;exact .inl (.inr j)
     ·exact .inr ⟨i,aa,aa,.inl g,j⟩
  ·rw[if_neg m];constructor
   ·rintro (a | ⟨i,a,o,g,j⟩)
    ·exact .inl a
    ·exact .inr ⟨i,aa,aa,g,j⟩
   ·rintro (a | ⟨i,a,o,g,j⟩)
    ·exact .inl a
    ·by_cases e:i=c
     ·subst e;exact absurd g m
     ·exact .inr ⟨i,aa,aa,g,j⟩
structure Marks(W:bx)(t:lT)(bB no:Nat):Prop where
 ot:t.1.length=3+W.parents.length
 AZ:t.2.length=3+W.parents.length
 m:∀c,bB.testBit c=t.1.getD c false
 n:∀c,c≠1->c≠2->no.testBit c=t.2.getD c false
 J6:bB.testBit 1=false
 J7:bB.testBit 2=false
def A1{s c b}:(s ||| 2^c).testBit b=(s.testBit b || b==c):=by
 rw[Nat.testBit_or,Nat.testBit_two_pow];congr 1;rw[Bool.eq_iff_iff,decide_eq_true_iff,beq_iff_eq];exact eq_comm
def Marks.agX{t}{bB no}(h:Marks W t bB no){c}(a:3<=c/\c<3+W.parents.length):Marks W (t.1.set c true,t.2) (bB ||| 2^c) no:=
 ⟨by rw[AX];exact h.ot,h.AZ,λb=>by rw[A1,h.m,AY (by rw[h.ot];omega)],h.n,by rw[A1,h.J6,Bool.false_or,beq_eq_false_iff_ne];omega,by rw[A1,h.J7,Bool.false_or,beq_eq_false_iff_ne];omega⟩
def Marks.bX{t}{bB no}(h:Marks W t bB no){c}(g:3<=c/\c<3+W.parents.length):Marks W (t.1,t.2.set c true) bB (no ||| 2^c):=
 ⟨h.ot,by rw[AX];exact h.AZ,h.m,λb f a=>by rw[A1,h.n b f a,AY (by rw[h.AZ];omega)],h.J6,h.J7⟩
section
variable{W:bx}{ls:List c1}(h:mC W ls)
include h
def Ex(a:Int){p:al}{can rH:al->Bool}:∀(r:al) (t:lT) (bB no:Nat),(∀s∈r,0<=s/\s<W.owner.length)->(∀s∈r,can (p++[s])=rH (p++[s]))->Marks W t bB no->
  (qj W (ec ls) rH a p r bB no=none/\qm W (eW ls) can a p r t=none)\/∃u Tj J8,qj W (ec ls) rH a p r bB no=some (Tj,J8)/\qm W (eW ls) can a p r t=some u/\Marks W u Tj J8/\J8.testBit 0=no.testBit 0
 | [],t,bB,no,_,_,hm=>.inr ⟨t,bB,no,rfl,rfl,hm,rfl⟩
 | s::r,t,bB,no,bK,a1,hm=>by
  have mc:∀x∈r,0<=x/\x<W.owner.length:=λx aK=>bK x (.tail _ aK);have J9:∀x∈r,can (p++[x])=rH (p++[x]):=λx aK=>a1 x (.tail _ aK);have bb:=SS h.w (bK s (.head _));rw[qj,qm,S9 h,a1 s (.head _),Bool.not_not,El,Ek];cases Ka:(ec ls a (p++[s])).gi with
  | true=>
   cases yj:rH (p++[s]) with
   | false=>exact .inl ⟨aT,aT⟩
   | true=>
    have:=Ex a r _ _ no mc J9 (hm.agX (c:=(W.owner.getD s.toNat default).toNat) aa);simpa using this
  | false=>
   cases yj:rH (p++[s]) with
   | false=>
    have:=Ex a r _ bB _ mc J9 (hm.bX (c:=(W.owner.getD s.toNat default).toNat) aa);have fm:(no ||| 2^(W.owner.getD s.toNat default).toNat).testBit 0=no.testBit 0:=by
     rw[A1,show (0==(W.owner.getD s.toNat default).toNat)=false from by rw[beq_eq_false_iff_ne];omega,Bool.or_false]
    rw[fm] at this;simpa using this
   | true=>
    have:=Ex a r t bB no mc J9 hm;simpa using this
def Tk{can rH:al->Bool}(a1:∀s∈(ec ls a p).aw,can (p++[s])=rH (p++[s])):
  (lx W (eW ls) can a p).isSome=(vR W (ec ls) rH a p).2/\∀j4,lx W (eW ls) can a p=some j4->j4.length=3+W.parents.length/\∀b,j4.getD b false=(vR W (ec ls) rH a p).1.testBit b:=by
 have rh:=q8 h.w;have Kb:∀c,(ec ls a p).bB.testBit c=(ls.filter (jE a p)).any (rG c):=λc=>by
  rw[h.bB,List.any_filter];refine tI λl _=>?_;rw[k4,rG];cases jE a p l <;> cases l.f.op==2 <;> cases l.neg <;> rfl
 have jH:∀c,(ec ls a p).no.testBit c=(ls.filter (jE a p)).any (uh c):=λc=>by
  rw[h.no,List.any_filter];refine tI λl _=>?_;rw[k4,uh];cases jE a p l <;> cases l.f.op==2 <;> cases l.neg <;> rfl
 have Tl:(ls.filter (jE a p)).any qo=((ec ls a p).whole || (ec ls a p).bB.testBit 1 || (ec ls a p).bB.testBit 2):=by
  rw[h.whole,Kb,Kb,List.any_filter,List.any_filter,List.any_filter,J2,J2];refine tI λl bq=>?_;have hI:=(h.ok l bq).cls;rw[qo,rG,rG,vX];cases jE a p l
  ·rfl
  ·cases hn:l.neg
   ·by_cases ak:l.f.op=2
    ·have bM:(l.f.cls==1)=(l.f.cls.toNat==1):=by rw[Bool.eq_iff_iff,beq_iff_eq,beq_iff_eq];have:=hI ak;omega
     have bJ:(l.f.cls==2)=(l.f.cls.toNat==2):=by rw[Bool.eq_iff_iff,beq_iff_eq,beq_iff_eq];have:=hI ak;omega
     rw[ak,bM,bJ];simp
    ·have:(l.f.op==2)=false:=by simpa using ak
     simp[bne,this]
   ·simp
 obtain⟨hz,fx⟩:=Ew (N:=3+W.parents.length) (ls.filter (jE a p)) (nS W,nS W) (λl bq=>⟨(h.ok l (List.mem_filter.1 bq).1).op.2,λak=>⟨((h.ok l (List.mem_filter.1 bq).1).cls ak).1,by have:=h.cls l (List.mem_filter.1 bq).1 ak;omega⟩⟩) (by simp[nS]) (by simp[nS]);rw[lx,JZ h,vR];by_cases ba:(ls.filter (jE a p)).any qo=true
 ·rw[hz ba];rw[Tl] at ba;rw[if_pos (by rw[ba];rfl)];exact⟨rfl,λj4 sV=>by cases sV⟩
 ·have ba:=Bool.eq_false_iff.2 ba;obtain⟨u,e,ot,AZ,hu⟩:=fx ba;rw[e];have x6:=ba;rw[Tl,Bool.or_eq_false_iff,Bool.or_eq_false_iff] at x6;have Tm:∀c,(nS W).getD c false=false:=λc=>by
   rw[nS,List.getD_eq_getElem?_getD,List.getElem?_replicate];split <;> rfl
  have agY:Marks W u (ec ls a p).bB (ec ls a p).no:=⟨ot,AZ,λc=>by rw[Kb,(hu c).1,Tm,Bool.false_or],λc sf zq=>by rw[jH,(hu c).2 sf zq,Tm,Bool.false_or],x6.1.2,x6.2⟩;simp only[];rw[J0 h];have pw:∀s∈(ec ls a p).aw,0<=s/\s<W.owner.length:=λs b4=>by rw[<-J0 h] at b4;exact SR b4
  rw[x6.1.1,x6.1.2,x6.2,Bool.false_or,Bool.false_or,Bool.false_or];rcases Ex h a (ec ls a p).aw u _ _ pw a1 agY with⟨bM,bJ⟩ | ⟨v,bB,no,bM,bJ,bd,af⟩
  ·rw[bM,bJ];refine⟨?_,λj4 sV=>by cases sV⟩;cases (ec ls a p).no.testBit 0 <;> rfl
  ·rw[bM,bJ];simp only[];rw[AU];by_cases uH:(ec ls a p).no.testBit 0=true
   ·rw[if_pos uH,if_pos (by rw[<-bd.n 0 aa aa,af,uH])];exact⟨rfl,λj4 sV=>by cases sV⟩
   ·rw[if_neg uH,if_neg (by rw[<-bd.n 0 aa aa,af];exact uH)];have Kc:(v.1.set 0 false).length=3+W.parents.length:=by rw[List.length_set];exact bd.ot
    have aD:∀b,(v.1.set 0 false).getD b false=(v.1.getD b false && !(b==0)):=λb=>by
     rw[uD];by_cases e:0=b
     ·subst e;rw[if_pos ⟨rfl,by rw[bd.ot];omega⟩];simp
     ·rw[if_neg (λh=>e h.1),show (b==0)=false from by rw[beq_eq_false_iff_ne];omega];simp
    have k5:∀b,bB.testBit b=true->b<3+W.parents.length:=λb ba=>by
     rw[bd.m] at ba;rcases Nat.lt_or_ge b (3+W.parents.length) with k5 | xA
     ·exact k5
     ·rw[List.getD_eq_getElem?_getD,List.getElem?_eq_none (by rw[bd.ot];exact xA)] at ba;cases ba
    have ka:=Ti h.w W.parents.length 3 bB rfl;have agZ:∀b,(j1 W W.parents.length 3 bB).testBit b=true->b<3+W.parents.length:=λb ba=>by
     rcases (ka b).1 ba with ae | ⟨i,ae,ak,_,bo⟩
     ·exact k5 b ae
     ·have:=xp h.w i i (Nat.le_refl _) aa b bo;omega
    have vt:∀b,(mA W W.parents.length (v.1.set 0 false)).getD b false=(me (j1 W W.parents.length 3 bB) 1).testBit b:=λb=>by
     rw[Ev];have bM:(1:Nat).testBit b=(b==0):=by
      rcases b with _ | b
      ·rfl
      ·rw[Nat.testBit_succ];simp
     rw[bM];by_cases gP:b=0
     ·subst gP;rw[J5 h.w _ _ (Nat.le_refl _) Kc,aD];simp
     ·have Tn:(b==0)=false:=by rw[beq_eq_false_iff_ne];exact gP
      rw[J4 h.w _ _ (Nat.le_refl _) Kc b aa,Tn,Bool.not_false,Bool.and_true,aD,Tn,Bool.not_false,Bool.and_true, <-bd.m,Bool.eq_iff_iff,Bool.or_eq_true,Bool.and_eq_true,decide_eq_true_iff,ka,List.any_eq_true];constructor
      ·rintro (ae | ⟨i,aN,ak⟩)
       ·exact⟨by have:=k5 b ae;omega,.inl ae⟩
       ·rw[Bool.and_eq_true,aD,Bool.and_eq_true, <-bd.m] at ak;have aN:=List.mem_range.1 aN;have:=xp h.w (3+i) (3+i) (Nat.le_refl _) aa b ak.2;exact⟨aa,.inr ⟨3+i,aa,aa,ak.1.1,ak.2⟩⟩
      ·rintro⟨_,ae | ⟨i,ae,ak,aL,bo⟩⟩
       ·exact .inl ae
       ·refine .inr ⟨i - 3,List.mem_range.2 aa,?_⟩;rw[show 3+(i - 3)=i from by omega,Bool.and_eq_true,aD,Bool.and_eq_true, <-bd.m];exact⟨⟨aL,cF⟩,bo⟩
    have Ey:∀b,b=1\/b=2->(me (j1 W W.parents.length 3 bB) 1).testBit b=false:=λb ba=>by
     rw[Ev,Bool.eq_false_iff];intro aW;simp only[Bool.and_eq_true] at aW;rcases (ka b).1 aW.1.2 with ae | ⟨i,ae,ak,_,bo⟩
     ·rcases ba with rfl | rfl
      ·rw[bd.J6] at ae;cases ae
      ·rw[bd.J7] at ae;cases ae
     ·have:=xp h.w i i (Nat.le_refl _) aa b bo;omega
    have ag0:sR (mA W W.parents.length (v.1.set 0 false)) v.2 (3+W.parents.length)= !(((me (j1 W W.parents.length 3 bB) 1 &&& no:Nat):Int)==0):=by
     rw[<-Bool.not_not (sR _ _ _)];congr 1;rw[Bool.eq_iff_iff,J1,Bool.not_eq_true'];constructor
     ·intro hI c;rw[Nat.testBit_and,Bool.eq_false_iff];intro aW;rw[Bool.and_eq_true] at aW;have A2:c≠1/\c≠2:=⟨λe=>absurd aW.1 (by rw[Ey c (.inl e)];simp),λe=>absurd aW.1 (by rw[Ey c (.inr e)];simp)⟩;have ag1:c<3+W.parents.length:=by
       have:=aW.1;rw[Ev,Bool.and_eq_true,Bool.and_eq_true] at this;exact agZ c this.1.2
      rw[bd.n c A2.1 A2.2, <-vt] at aW;rw[SU ag1 (by rw[aW.1,aW.2];rfl)] at hI;cases hI
     ·intro ag2;rw[Bool.eq_false_iff];intro hI;obtain⟨c,a1,aW⟩:=List.any_eq_true.1 hI;rw[Bool.and_eq_true,vt] at aW;have A2:c≠1/\c≠2:=⟨λe=>absurd aW.1 (by rw[Ey c (.inl e)];simp),λe=>absurd aW.1 (by rw[Ey c (.inr e)];simp)⟩;have:=ag2 c;rw[Nat.testBit_and,aW.1,bd.n c A2.1 A2.2,aW.2] at this;cases this
    rw[ag0];by_cases Ez:(((me (j1 W W.parents.length 3 bB) 1 &&& no:Nat):Int)==0)=true
    ·rw[Ez,if_neg aT];refine⟨aT,λj4 sV=>?_⟩;cases sV;exact⟨by rw[Th];exact Kc,vt⟩
    ·have Ez:=Bool.eq_false_iff.2 Ez;rw[Ez,if_pos aT];exact⟨aT,λj4 sV=>by cases sV⟩
theorem EA(a:Int):∀(d:Nat) (p:al),mB W (eW ls) a d p=rz W (ec ls) d a p
 | 0,p=>by rw[mB,rz,Te h,Tf h,(Tk h (λs b4=>rfl)).1]
 | d+1,p=>by rw[mB,rz,Te h,Tf h,(Tk h (λs b4=>EA a d (p++[s]))).1]
def To:rF W (eW ls)=vS W ls:=by
 rw[rF,vS,EA h,EA h,EA h]
end
def qp(out:List Fact)(x:Fact):List Fact:=if out.contains x then out else out++[x]
def gj(a b:List Fact):List Fact:=b.foldl qp a
def Tp{a b:List Fact}{k}(h:k<b.length):gj a (b.take (k+1))=qp (gj a (b.take k)) (b.getD k default):=by
 rw[<-dO.c3 h,gj,List.foldl_append];rfl
def ag3(a):∀b:List Fact,(gj a b).length<=a.length+b.length:=by
 intro b
 induction b generalizing a with
 | nil=>simp[gj]
 | cons x b c=>
  show (gj (qp a x) b).length<=_;have:=c (qp a x);rw[List.length_cons];have f:(qp a x).length<=a.length+1:=by unfold qp;split <;> simp
  omega
def ag4{l:List Fact}{x}{j}(h:j<l.length):(l.take (j+1)).contains x=((l.take j).contains x || x==l.getD j default):=by
 rw[<-dO.c3 h,List.contains_eq_any_beq,List.contains_eq_any_beq,List.any_append];simp
def ag5{t}{y}:(bif t then true else y)=(t || y):=by cases t <;> rfl
def ag6(a b)(o:a.length<=100000)(r:b.length<=100000):aI prog 213 [ab.facts a,ab.facts b] (ab.facts (gj a b)):=by
 intro H;refine aM func213 λB I t=>?_;refine aJ ?_;refine ai.Xm rfl rfl rfl rfl rfl rfl rfl rfl gx (by rw[oU];exact D6 (λ_=>rfl) _) (by show (kG _).length*80<=_;rw[oU,List.length_map];omega) (by show (kG _).length<=_;rw[oU,List.length_map];omega) (λv12=>?_);refine bS ?_;refine bm (λm g=>∃(k:Nat) (v:Value),g=⟨[(15,.i k),(14,.i b.length),(13,ab.facts b),(5,.as (ab.facts (gj a (b.take k))) v)],.own 60 6 v::H⟩/\m=b.length - k/\k<=b.length) (⟨0,v12,rfl,rfl,aa⟩) ?_;rintro m _ ⟨k,v,rfl,rfl,q⟩;refine ay ?_;refine az (λaf=>?_) λaf=>?_
 ·refine aJ ?_;refine bT (λdN=>?_);refine aV ?_;refine eB 7 ?_;refine ay ?_;have l:(gj a (b.take k)).length<=200000:=Nat.le_trans (ag3 _ _) yr;refine aQ ?_;refine ai.le 19 (y:=ab.facts (gj a (b.take k))) rfl (aq.eY _ _) ?_;refine aS ?_;refine bm (λm g=>∃(j:Nat),g=⟨[(21,.i j),(20,.i (gj a (b.take k)).length),(19,ab.facts (gj a (b.take k))),(8,.b (((gj a (b.take k)).take j).contains (b.getD k default))),(7,.ptr (fy (b.getD k default))),(15,.i k),(14,.i b.length),(13,ab.facts b),(5,.as (ab.facts (gj a (b.take k))) v)],.own 60 6 v::H⟩/\m=(gj a (b.take k)).length - j/\j<=(gj a (b.take k)).length) tz ?_;rintro m _ ⟨j,rfl,rfl,s⟩;refine ay ?_;refine az (λae=>?_) λae=>?_
  ·refine aJ ?_;refine bT (λb1=>?_);refine aJ ?_;refine ai.cG rfl rfl rfl rfl rfl rfl (λav=>ad.call (.mk' rfl rfl rfl rfl cU) (agh (b.getD k default) ((gj a (b.take k)).getD j default))) ?_;refine a8 ?_;exact aU (⟨j+1,by rw[ag4 aa, <-ag5],rfl,aa⟩)
  ·obtain rfl:j=(gj a (b.take k)).length:=by omega
   rw[List.take_length];refine bA ?_;refine bc (λak=>?_) (λak=>?_)
   ·have ak:(gj a (b.take k)).contains (b.getD k default)=false:=by simpa using ak
    have e:gj a (b.take (k+1))=(gj a (b.take k))++[(b.getD k default)]:=by rw[Tp aa,qp,if_neg (by rw[ak];simp)]
    refine aH ?_;refine ag (ad.row rfl rfl cD rfl rfl rfl rfl rfl rfl) ?_;refine ai.dJ rfl rfl rfl rfl rfl rfl rfl rfl (aq.refl _) (rfl) (λ_=>dt) Ls (by show (kG _).length+1<=_;rw[oU,List.length_map];omega) (λv37=>?_);refine aV ?_;refine aA.le 5 (y:=.as (ab.facts (gj a (b.take (k+1)))) v37) rfl (by rw[e, <-SJ];exact aq.refl _) ?_;refine aV ?_;exact aU (⟨k+1,v37,rfl,rfl,aa⟩)
   ·have ak:(gj a (b.take k)).contains (b.getD k default)=true:=by simpa using ak
    have e:gj a (b.take (k+1))=(gj a (b.take k)):=by rw[Tp aa,qp,if_pos ak]
    refine aH ?_;rw[<-e];refine aV ?_;exact aU (⟨k+1,v,rfl,rfl,aa⟩)
 ·obtain rfl:k=b.length:=by omega
  rw[List.take_length];refine bS ?_;refine aZ.cl (rs:=[.tmp 4]) (H':=H) rfl (.tmp rfl (.nil)) (.cons (aq.eY _ _) .nil) bE ?_;exact⟨cM,rfl⟩
end Go.Proofs.YtodccgailpkgeaaGreat

