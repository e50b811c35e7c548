/- Part 11 of the proof: contracts of functions of the program and what they need. No condition beyond those that each theorem names. -/
import Derived.Test.YtodccgailpkgeaaGreatKindLeastP10
set_option maxHeartbeats 1000000
set_option linter.unusedVariables false
set_option linter.unusedSimpArgs false
set_option maxRecDepth 10000
namespace Go.Proofs.YtodccgailpkgeaaGreat
open Go.Eng
open Go.Eng.Fc
open Go.Eng.ei
variable{α:Type}{B i s k off j:Nat}{f:Fn}{bM cs:List aa}{F:List aj->Prop}{J Jx:List Fact->List aj->Prop}{ga:List aj}{p:Int->Bool}{l:List Int}{W:bb}{deep left v:Int}{U D8:List Nat}{gJ:aa->List aj->Prop}
theorem ZI{J Jx:List Int->List aj->Prop}(l:List Int)(al:vA B Tryz.prog (.fn f bM cs) aa.i l F J Jx)(H Hx:List aj)(hF:F Hx)(bF:J [] H):
  dC B Tryz.prog 50 [.aF 1 (l.map λn=>[aa.i n]),.fn f bM cs] (H++Hx) (xY J Jx l Hx) (λ_ _=>False):=by
 refine dC.of (n:=19) Tryz.func50 rfl aM rfl rfl (λI aO=>?_);refine aq.fi (t:=0) rfl (λhg=>?_);refine eb ?_;refine cq (λm st=>∃(k:Nat) (H1:List aj),st=⟨[(8,.i k),(7,.i l.length),(0,.aF 1 (l.map λn=>[aa.i n])),(1,.fn f bM cs)],H1++Hx⟩/\m=l.length - k/\k<=l.length/\J (l.take k) H1) (⟨0,H,rfl,rfl,bj,bF⟩) ?_;rintro m _ ⟨k,H1,rfl,rfl,ao,fp⟩;refine aT ?_;refine aZ (λai=>?_) λai=>?_
 ·refine hB ?_;refine au.o1 rfl rfl rfl rfl rfl rfl rfl rfl (bO.refl _) (al (l.take k) (l.getD k default) H1 Hx CE hF fp) ?_;rintro _ _ ⟨b,db,rfl,rfl,gn,mU⟩;rw[eE ad] at gn mU;refine bC ?_;refine aZ (λab=>?_) λab=>?_
  ·refine cT ?_;refine aR.c5 (rs:=[.tmp 4]) rfl (.tmp rfl (.nil)) (bO.refl _) b8 ?_;exact⟨db,rfl,.inr ⟨l.take k,l.getD k default,l.drop (k+1),DK ad,gp CG,CJ⟩⟩
  ·refine bn ?_;exact bV (⟨k+1,db,rfl,rfl,ad,gn ab⟩)
 ·refine cw ?_;refine aR.c5 (rs:=[.tmp 4]) rfl (.tmp rfl (.nil)) (bO.refl _) b8 ?_;exact⟨H1,rfl,.inl ⟨rfl,Cy⟩⟩
theorem ZJ(al:oo Tryz.prog ga (.fn f bM cs) aa.i l p):vH Tryz.prog ga 50 [.aF 1 (l.map λn=>[aa.i n]),.fn f bM cs] (λy=>∃n:Int,y= .i n/\decide (n>=0)=l.any p):=
 GN aM (λB F J Jx h H Hx hF bF=>ZI l h H Hx hF bF) al
theorem Qu(al:oo Tryz.prog ga (.fn f bM cs) aa.i l p):jf Tryz.prog ga 24 [.aF 1 (l.map λn=>[aa.i n]),.fn f bM cs] (.b (l.any p)):=by
 intro H hm;refine bh (n:=9) Tryz.func24 λB I aO=>?_;refine bS ?_;refine au.G6 rfl rfl rfl .k (ZJ al) hm (λy hy=>?_);obtain⟨n,rfl,hn⟩:=hy;refine bz ?_;refine aS 4 (H) ?_;exact⟨bR hn,rfl⟩
theorem Qv(al:oZ Tryz.prog (.fn f bM cs) aa.i p)(l:List Int):ba Tryz.prog 24 [.aF 1 (l.map λn=>[aa.i n]),.fn f bM cs] (.b (l.any p)):=(Qu (al.on l)).pure
theorem ZK(al:oo Tryz.prog ga (.fn f bM cs) aa.i l p)(x:Int)(ag:x∈l):jf Tryz.prog ga 200 [aa.i x,.ptr [.fn f bM cs]] (.b (!p x)):=by
 intro H hm;refine bh (n:=8) Tryz.func200 λB I aO=>?_;refine bS ?_;refine au.o1 rfl rfl rfl rfl rfl rfl rfl rfl (bO.refl _) (al x ag B H hm) ?_;rintro _ ot ⟨rfl,b0⟩;have b0:=b0.symm;subst b0;refine bz ?_;refine aS 3 (H) ?_;exact⟨eg,rfl⟩
theorem Qw(al:oo Tryz.prog ga (.fn f bM cs) aa.i l p):jf Tryz.prog ga 174 [.aF 1 (l.map λn=>[aa.i n]),.fn f bM cs] (.b (l.all p)):=by
 intro H hm;refine bh (n:=9) Tryz.func174 λB I aO=>?_;refine c6 ?_;refine aG (af.jB .k (bO.refl _) (Qu (.of (λx ag=>ZK al x ag))) (λe he=>by repeat (first | exact hm e he | apply List.mem_cons_of_mem))) ?_;refine bz ?_;refine aS 4 (H) ?_;exact⟨bR (by simp[List.not_any_eq_all_not]),rfl⟩
theorem Qx(al:oZ Tryz.prog (.fn f bM cs) aa.i p)(l:List Int):ba Tryz.prog 174 [.aF 1 (l.map λn=>[aa.i n]),.fn f bM cs] (.b (l.all p)):=(Qw (al.on l)).pure
theorem ZL(l:List Fact)(al:vA B Tryz.prog (.fn f bM cs) aa.fact l F J Jx)(H Hx:List aj)(hF:F Hx)(bF:J [] H):
  dC B Tryz.prog 262 [.aF 6 (pf l),.fn f bM cs] (H++Hx) (xY J Jx l Hx) (λ_ _=>False):=by
 refine dC.of (n:=19) Tryz.func262 rfl aM rfl rfl (λI aO=>?_);refine aq.fi (t:=0) rfl (λhg=>?_);refine eb ?_;refine cq (λm st=>∃(k:Nat) (H1:List aj),st=⟨[(8,.i k),(7,.i l.length),(0,.aF 6 (pf l)),(1,.fn f bM cs)],H1++Hx⟩/\m=l.length - k/\k<=l.length/\J (l.take k) H1) (⟨0,H,rfl,rfl,bj,bF⟩) ?_;rintro m _ ⟨k,H1,rfl,rfl,ao,fp⟩;refine aT ?_;refine aZ (λai=>?_) λai=>?_
 ·refine hB ?_;refine au.o1 rfl rfl rfl rfl rfl rfl rfl rfl (bO.refl _) (al (l.take k) (l.getD k default) H1 Hx CE hF fp) ?_;rintro _ _ ⟨b,db,rfl,rfl,gn,mU⟩;rw[eE ad] at gn mU;refine bC ?_;refine aZ (λab=>?_) λab=>?_
  ·refine cT ?_;refine aR.c5 (rs:=[.tmp 4]) rfl (.tmp rfl (.nil)) (bO.refl _) b8 ?_;exact⟨db,rfl,.inr ⟨l.take k,l.getD k default,l.drop (k+1),DK ad,gp CG,CJ⟩⟩
  ·refine bn ?_;exact bV (⟨k+1,db,rfl,rfl,ad,gn ab⟩)
 ·refine cw ?_;refine aR.c5 (rs:=[.tmp 4]) rfl (.tmp rfl (.nil)) (bO.refl _) b8 ?_;exact⟨H1,rfl,.inl ⟨rfl,Cy⟩⟩
theorem D9(s:Nat)(c:Int)(ak:0<=c)(aH:s<18446744073709551616):ba Tryz.prog 137 [aa.set s,.i c] (.b (s.testBit c.toNat)):=by
 intro H;refine bh (n:=10) Tryz.func137 λB I aO=>?_;refine bS ?_;refine aG (af.shift rfl rfl rfl rfl rfl ak (OD _ _)) ?_;refine aG (af.bits rfl rfl rfl rfl rfl (AO _ 1 (Nat.lt_of_le_of_lt (Nat.div_le_self _ _) aH) ad)) ?_;refine bz ?_;refine aS 4 (H) ?_;exact⟨bR (HY _ _ aH),rfl⟩
theorem wA(s:Nat)(c:Int)(ak:0<=c/\c<64)(aH:s<18446744073709551616):ba Tryz.prog 173 [aa.set s,.i c] (aa.set (s ||| 2^c.toNat)):=by
 intro H;refine bh (n:=9) Tryz.func173 λB I aO=>?_;refine bS ?_;refine aG (af.shift rfl rfl rfl rfl rfl ak.1 (OE _ ak)) ?_;refine aG (af.bits rfl rfl rfl rfl rfl (vV _ _ aH (Nat.pow_lt_pow_right (a:=2) (n:=64) ad ad))) ?_;refine bI ?_;refine aS 4 (H) ?_;exact⟨eg,rfl⟩
theorem akL(b:Bool):ba Tryz.prog 172 [.b b] (.i (if b then 0 else 2)):=by
 intro H;refine bh (n:=5) Tryz.func172 λB I aO=>?_;refine cT ?_;refine aZ (λai=>?_) λai=>?_
 ·refine bn ?_;refine aS 2 (H) ?_;exact⟨gp vb,rfl⟩
 ·refine bs ?_;refine aS 2 (H) ?_;exact⟨gp vb,rfl⟩
theorem Qy(f:Fact):ba Tryz.prog 243 [aa.fact f] (.b (decide (2<=f.op) && decide (f.op<=4))):=by
 intro H;refine bh (n:=11) Tryz.func243 λB I aO=>?_;refine ma ?_;refine aS 2 (H) ?_;exact⟨bR (by by_cases h:2<=f.op <;> simp[h]),rfl⟩
theorem Qz(f:Fact):ba Tryz.prog 150 [aa.fact f] (.b (f.op==2 || f.op==3 || f.op==4)):=by
 intro H;refine bh (n:=16) Tryz.func150 λB I aO=>?_;refine HW ?_;refine aS 2 (H) ?_;exact⟨bR (by by_cases h:f.op=2 <;> by_cases cf:f.op=3 <;> simp[h,cf]),rfl⟩
theorem ZM(op:Int):ba Tryz.prog 242 [.i op] (.i (if op=5 then 1 else if op=6\/op=7 then 2 else 0)):=by
 intro H;refine bh (n:=9) Tryz.func242 λB I aO=>?_;refine kC ?_;refine aZ (λai=>?_) λai=>?_
 ·refine bs ?_;refine aS 2 (H) ?_;exact⟨eg,rfl⟩
 ·refine bn ?_;refine aZ (λab=>?_) λab=>?_
  ·refine bC ?_;refine aZ (λae=>?_) λae=>?_
   ·refine bs ?_;refine aS 2 (H) ?_;exact⟨eg,rfl⟩
   ·refine bS ?_;refine aS 2 (H) ?_;exact⟨eg,rfl⟩
  ·refine bz ?_;refine aZ (λaD=>?_) λaD=>?_
   ·refine bs ?_;refine aS 2 (H) ?_;exact⟨eg,rfl⟩
   ·refine bS ?_;refine aS 2 (H) ?_;exact⟨eg,rfl⟩
theorem ZN(W:bb)(c:Int)(dD:W.parents.length<=60):ba Tryz.prog 175 [kg W,.i c] (.b (vX W c)):=by
 intro H;refine bh (n:=18) Tryz.func175 λB I aO=>?_;unfold kg;refine aq.M4 (t:=0) (i:=0) rfl rfl (λaw=>?_);refine yl ?_;refine aS 4 (H) ?_;exact⟨bR (by unfold vX;by_cases h:3<=c <;> simp[h]),rfl⟩
theorem IP(W:bb)(c:Int)(dD:W.parents.length<=60):ba Tryz.prog 136 [kg W,.i c] (.b (jZ W c)):=by
 intro H;refine bh (n:=18) Tryz.func136 λB I aO=>?_;unfold kg;refine aq.M4 (t:=0) (i:=0) rfl rfl (λaw=>?_);refine yl ?_;refine aS 4 (H) ?_;exact⟨bR (by unfold jZ;by_cases h:0<=c <;> simp[h]),rfl⟩
theorem ZO(W:bb)(c:Int):ba Tryz.prog 263 [kg W,.i c] (.b (nO W c)):=by
 intro H;refine bh (n:=17) Tryz.func263 λB I aO=>?_;unfold kg;refine p7 ?_;refine aS 4 (H) ?_;exact⟨bR (by unfold nO;by_cases h:0<=c <;> simp[h]),rfl⟩
theorem ZP(W:bb)(c:Int)(dD:W.parents.length<=60):ba Tryz.prog 184 [aa.world W,.i c] (.b (jZ W c)):=by
 intro H;refine bh (n:=15) Tryz.func184 λB I aO=>?_;refine aq.qL (t:=0) (i:=0) rfl rfl (λaw=>?_);refine oz ?_;refine aS 4 (H) ?_;exact⟨bR (by unfold jZ;by_cases h:0<=c <;> simp[h]),rfl⟩
theorem ZQ{J Jx:List α->List aj->Prop}{l:List α}{Hx:List aj}{y:aa}{H':List aj}(h:xY J Jx l Hx y H'):∃(n:Int) (H1:List aj),y= .i n/\H'=H1++Hx/\(decide (n>=0)=false->J l H1)/\(decide (n>=0)=true->∃pre,pre<+:l/\Jx pre H1):=by
 obtain⟨H1,rfl,h⟩:=h;rcases h with⟨rfl,h⟩ | ⟨pre,x,rest,rfl,rfl,h⟩
 ·exact⟨-1,H1,rfl,rfl,λ_=>h,λh=>by simp at h⟩
 ·exact⟨pre.length,H1,rfl,rfl,λh=>by simp at h,λ_=>⟨pre++[x],⟨rest,bj⟩,h⟩⟩
theorem ZR(l:List Fact)(al:vA B Tryz.prog (.fn f bM cs) aa.fact l F J Jx)(H Hx:List aj)(hF:F Hx)(bF:J [] H):
  dC B Tryz.prog 240 [.aF 6 (pf l),.fn f bM cs] (H++Hx) (λy H'=>∃b H1,y= .b b/\H'=H1++Hx/\(b=false->J l H1)/\(b=true->∃pre,pre<+:l/\Jx pre H1)) (λ_ _=>False):=by
 refine dC.of (n:=9) Tryz.func240 rfl aM rfl rfl (λI aO=>?_);refine bS ?_;refine dE .k (ZL l al H Hx hF bF) ?_;intro y H' hy;obtain⟨n,H1,rfl,rfl,hn⟩:=ZQ hy;refine bz ?_;refine aR.c5 (rs:=[.tmp 4]) rfl (.tmp rfl (.nil)) (bO.refl _) b8 ?_;exact⟨decide (n>=0),H1,rfl,rfl,hn⟩
theorem ZS{L:List Fact}(al:pW B Tryz.prog (.fn f bM cs) aa.fact L (λ_=>True) J Jx)(pre:List Fact)(x:Fact)(H Hx:List aj)(pX:pre++[x]<+:L)(bF:J pre H):
  dC B Tryz.prog 241 [aa.fact x,.ptr [.fn f bM cs]] (H++Hx) (λy H'=>∃b H1,y= .b b/\H'=H1++Hx/\(b=false->J (pre++[x]) H1)/\(b=true->Jx (pre++[x]) H1)) (λ_ _=>False):=by
 refine dC.of (n:=8) Tryz.func241 rfl aM rfl rfl (λI aO=>?_);refine c6 ?_;refine au.o1 rfl rfl rfl rfl rfl rfl rfl rfl (bO.refl _) (al pre x H Hx pX trivial bF) ?_;rintro _ _ ⟨b,H1,rfl,rfl,ab,ae⟩;refine bz ?_;refine aR.c5 (rs:=[.tmp 3]) rfl (.tmp rfl (.nil)) (bO.refl _) b8 ?_;exact⟨!b,H1,rfl,rfl,λh=>ab h3,λh=>ae h3⟩
theorem IQ(l:List Fact)(al:pW B Tryz.prog (.fn f bM cs) aa.fact l (λ_=>True) J Jx)(H Hx:List aj)(bF:J [] H):
  dC B Tryz.prog 215 [.aF 6 (pf l),.fn f bM cs] (H++Hx) (λy H'=>∃b H1,y= .b b/\H'=H1++Hx/\(b=true->J l H1)/\(b=false->∃pre,pre<+:l/\Jx pre H1)) (λ_ _=>False):=by
 refine dC.of (n:=9) Tryz.func215 rfl aM rfl rfl (λI aO=>?_);refine c6 ?_;refine dE .k (ZR (F:=λ_=>True) (J:=J) (Jx:=Jx) l (λpre x H Hx pX _ bF=>e4.sG (ZS al pre x H Hx pX bF)) H Hx trivial bF) ?_;rintro _ _ ⟨b,H1,rfl,rfl,ab,ae⟩;refine bz ?_;refine aR.c5 (rs:=[.tmp 4]) rfl (.tmp rfl (.nil)) (bO.refl _) b8 ?_;exact⟨!b,H1,rfl,rfl,λh=>ab h3,λh=>ae h3⟩
theorem ZT(W:bb)(l:List Int):ba Tryz.prog 244 [kg W,aa.ints l] (.b (nQ W l)):=by
 intro H;refine bh (n:=14) Tryz.func244 λB I aO=>?_;refine aq.fi (t:=1) rfl (λaw=>?_);refine eb ?_;refine au.cb rfl rfl rfl rfl rfl rfl (λal=>af.call (.mk' rfl rfl rfl rfl dv) (Qx (.of (ZO W)) l)) ?_;refine bz ?_;refine aS 4 (H) ?_;exact⟨bR (by unfold nQ;by_cases h:l.length<=2 <;> simp[h] <;> omega),rfl⟩
def Bj(B:Nat)(W:bb)(deep:Int):Prop:=∀(f:Fact) (left:Int) (b:Nat) (Hx:List aj),0<=left/\left<=1000->
 dC B Tryz.prog 217 [kg W,aa.fact f,.p b 0,.i deep] (.aI b 3 [.i left]::Hx) (λy H'=>y= .b (gA W f left deep).1/\H'= .aI b 3 [.i (gA W f left deep).2]::Hx) (λ_ _=>False)
theorem ZU(aN:0<deep/\deep<=1000)(bm:Bj B W (deep - 1))(f:Fact)(left:Int)(b:Nat)(Hx:List aj)(ax:0<=left/\left<=1000):
  dC B Tryz.prog 245 [aa.fact f,.ptr [kg W],.ptr [.p b 0],.ptr [.i deep]] (.aI b 3 [.i left]::Hx) (λy H'=>y= .b (gA W f left (deep - 1)).1/\H'= .aI b 3 [.i (gA W f left (deep - 1)).2]::Hx) (λ_ _=>False):=by
 refine dC.of (n:=12) Tryz.func245 rfl aM rfl rfl (λI aO=>?_);refine ev ?_;refine dE .k (bm f left b Hx ax) ?_;rintro _ _ ⟨rfl,rfl⟩;refine bI ?_;refine aR.c5 (rs:=[.tmp 5]) rfl (.tmp rfl (.nil)) (bO.refl _) b8 ?_;exact⟨rfl,rfl⟩
theorem ZV(aN:0<deep/\deep<=1000)(bm:Bj B W (deep - 1))(left:Int)(ax:0<=left/\left<=1000)(b:Nat)(L:List Fact):
  pW B Tryz.prog (.fn (.func 245) [] [.ptr [kg W],.ptr [.p b 0],   .ptr [.i deep]]) aa.fact L (λ_=>True) (λpre H=>H= [.aI b 3 [.i (eS W pre left (deep - 1)).2]]/\(eS W pre left (deep - 1)).1=true) (λpre H=>H= [.aI b 3 [.i (eS W pre left (deep - 1)).2]]/\(eS W pre left (deep - 1)).1=false):=by
 rintro pre x H Hx _ _ ⟨rfl,aB⟩;have ab:=H0 W pre left (deep - 1) ax.1;refine e4.mono (e4.sG (ZU aN bm x _ b Hx ⟨ab.2 aB,ad⟩)) ?_ (λ_ _ h=>h);rintro _ _ ⟨rfl,rfl⟩;have ae:=OI W (deep - 1) x pre left aB;exact⟨_,[.aI b 3 [.i (gA W x (eS W pre left (deep - 1)).2 (deep - 1)).2]],rfl,rfl,λh=>⟨by rw[ae],by rw[ae];exact h⟩,λh=>⟨by rw[ae],by rw[ae];exact h⟩⟩
theorem ZW{l:List Fact}{b:Nat}{hU:Bool}{H1:List aj}(ab:hU=true->H1= [.aI b 3 [.i (eS W l left (deep - 1)).2]]/\(eS W l left (deep - 1)).1=true)
  (ae:hU=false->∃pre,pre<+:l/\H1= [.aI b 3 [.i (eS W pre left (deep - 1)).2]]/\(eS W pre left (deep - 1)).1=false):hU=(eS W l left (deep - 1)).1/\H1= [.aI b 3 [.i (eS W l left (deep - 1)).2]]:=by
 cases hU with
 | true=>obtain⟨a6,aW⟩:=ab rfl;exact⟨aW.symm,a6⟩
 | false=>
  obtain⟨pre,⟨rest,rfl⟩,a6,aW⟩:=ae rfl;rw[OJ W (deep - 1) rest pre left aW];exact⟨aW.symm,a6⟩
theorem ZX{f:Fact}(h:ki f left deep=false)(aN:0<=deep)(ax:left<=1000):(0<=left/\left<=1000)/\0<deep:=by
 simp only[ki,Bool.or_eq_false_iff,decide_eq_false_iff_not,beq_eq_false_iff_ne,ne_eq] at h;omega
theorem ZY{f:Fact}(h:ki f (left - 1) deep=true):gA W f left deep=(false,left - 1):=by rw[DI,if_pos h]
theorem ZZ{f:Fact}(h:ki f (left - 1) deep=false)(ab:dO f=true):gA W f left deep=(iK W f && kj W f,left - 1):=by rw[DI,if_neg cB,if_pos ab]
theorem Z0{f:Fact}(h:ki f (left - 1) deep=false)(ab:dO f=false)(ae:iX f=false):gA W f left deep=(false,left - 1):=by rw[DI,if_neg cB,if_neg tL,if_neg (by simp[ae])]
theorem Z1{f:Fact}(h:ki f (left - 1) deep=false)(ab:dO f=false)(ae:iX f=true):gA W f left deep=eS W f.kids (left - 1) (deep - 1):=by rw[DI,if_neg cB,if_neg tL,if_pos ae]
theorem Z2{f:Fact}(h:f.op=2):kj W f=((f.n==0) && jZ W f.cls):=by rw[kj,if_pos h]
theorem Z3{f:Fact}(h: ¬f.op=2):kj W f=((f.cls==0) && decide (f.n>= -1000000000) && decide (f.n<=1000000000)):=by rw[kj,if_neg h]
theorem uJ(a b:Bool):(bif a then b else false)=(a && b):=by cases a <;> rfl
theorem QA(dD:W.parents.length<=60)(aN:0<=deep/\deep<=1000)(bm:0<deep->Bj B W (deep - 1)):Bj B W deep:=by
 intro f left b Hx ax;refine dC.of (n:=110) Tryz.func217 rfl aM rfl rfl (λI aO=>?_);refine aq.qL (t:=1) (i:=5) rfl rfl (λDe=>?_);refine aq.qL (t:=1) (i:=2) rfl rfl (λakM=>?_);refine qW ?_;refine aq.bL mixed ?_;refine Yu ?_;refine bk.b7 19 25 110 rfl ay rfl rfl ay ?_;refine bz ?_;refine bU.cb rfl rfl rfl rfl rfl (λal=>af.call (.mk' rfl rfl rfl rfl dv) ((ZM _))) ?_;refine aT ?_;refine aq.cond rfl (λai=>?_) (λai=>?_)
 ·have yB:ki f (left - 1) deep=true:=by simpa only[ki,e7,kZ] using ai
  have hn:=ZY (W:=W) yB;refine bn ?_;refine aR.c5 (rs:=[.tmp 8]) rfl (.tmp rfl (.nil)) (bO.refl _) b8 ?_;exact⟨bR (by rw[hn]),vg⟩
 ·have yB:ki f (left - 1) deep=false:=by simpa only[ki,e7,kZ] using ai
  obtain⟨p6,Be⟩:=ZX yB aN.1 ad;refine bn ?_;refine aG (af.call .k ((Qy _))) ?_;refine bI ?_;refine aq.cond rfl (λab=>?_) (λab=>?_)
  ·have Ea:dO f=false:=by simpa only[dO,Bool.not_eq_true'] using ab
   refine p7 ?_;refine aq.cond rfl (λae=>?_) (λae=>?_)
   ·have IS:iX f=false:=by rw[iX,Bool.not_eq_false'];simpa only[e7] using ae
    have hn:=Z0 (W:=W) yB Ea IS;refine bs ?_;refine aR.c5 (rs:=[.tmp 8]) rfl (.tmp rfl (.nil)) (bO.refl _) b8 ?_;exact⟨bR (by rw[hn]),vg⟩
   ·have IS:iX f=true:=by rw[iX,Bool.not_eq_true'];simpa only[e7] using ae
    have hn:=Z1 (W:=W) yB Ea IS;refine bs ?_;refine dE .k (IQ f.kids (ZV ⟨Be,aN.2⟩ (bm Be) (left - 1) p6 b _) [.aI b 3 [.i (left - 1)]] Hx ⟨rfl,rfl⟩) ?_;rintro _ _ ⟨hU,H1,rfl,rfl,a6,aW⟩;obtain⟨cN,gO⟩:=ZW a6 aW;subst gO;refine bI ?_;refine aR.c5 (rs:=[.tmp 8]) rfl (.tmp rfl (.nil)) (bO.refl _) b8 ?_;exact⟨bR (by rw[hn];exact cN),vg⟩
  ·have Ea:dO f=true:=by simpa only[dO,Bool.not_eq_false'] using ab
   have hn:=ZZ (W:=W) yB Ea;refine eb ?_;refine au.cb rfl rfl rfl rfl rfl rfl (λal=>af.call (.mk' rfl rfl rfl rfl dv) ((ZT _ _))) ?_;refine bz ?_;refine aq.cond rfl (λaD=>?_) (λaD=>?_)
   ·have Eb:iK W f=false:=by rw[iK,Bool.not_eq_false'];simpa only[e7] using aD
    refine bs ?_;refine aR.c5 (rs:=[.tmp 8]) rfl (.tmp rfl (.nil)) (bO.refl _) b8 ?_;exact⟨bR (by rw[hn,Eb];rfl),vg⟩
   ·have Eb:iK W f=true:=by rw[iK,Bool.not_eq_true'];simpa only[e7] using aD
    refine bs ?_;refine aZ (λaV=>?_) λaV=>?_
    ·refine bS ?_;refine au.cb rfl rfl rfl rfl rfl rfl (λal=>af.call (.mk' rfl rfl rfl rfl dv) ((IP _ _ tK))) ?_;refine bn ?_;refine aR.c5 (rs:=[.tmp 8]) rfl (.tmp rfl (.nil)) (bO.refl _) b8 ?_;exact⟨bR (by rw[hn,Eb,Z2 aV,uJ];rfl),vg⟩
    ·refine qW ?_;refine aR.c5 (rs:=[.tmp 8]) rfl (.tmp rfl (.nil)) (bO.refl _) b8 ?_;exact⟨bR (by rw[hn,Eb,Z3 aV,uJ,uJ];rfl),vg⟩
theorem QB{B:Nat}{W:bb}(dD:W.parents.length<=60):∀(n:Nat),n<=1000->Bj B W n
 | 0,h=>QA dD ⟨ad,ad⟩ (λh=>by omega)
 | n+1,h=>QA dD ⟨ad,ad⟩ (λ_=>by
  have e:((n+1:Nat):Int) - 1=(n:Int):=by omega
  rw[e];exact QB dD n ad)
theorem Z4{p:Fact->Bool}(al:oZ Tryz.prog (.fn f bM cs) aa.fact p)(l:List Fact):ba Tryz.prog 215 [.aF 6 (pf l),.fn f bM cs] (.b (l.all p)):=by
 intro H;have ai:nt Tryz.prog 215=true:=(IQ (B:=0) l (al.hx l) [] H ⟨rfl,bj⟩).1;refine⟨ai,λB I w vs hw az dT=>((IQ (B:=B) l (al.hx l) [] H ⟨rfl,bj⟩).2 I w vs hw az dT).mono λe w' aK=>aK.mono (λy H' hy=>?_) λ_ _ h=>h⟩;obtain⟨b,H1,rfl,rfl,ab,ae⟩:=hy;cases b with
 | true=>
  obtain⟨rfl,h⟩:=ab rfl;exact⟨congrArg aa.b (List.all_eq_true.2 h).symm,rfl⟩
 | false=>
  obtain⟨pre,⟨rest,rfl⟩,rfl,q,x,rfl,h⟩:=ae rfl;refine⟨congrArg aa.b ?_,rfl⟩;symm;rw[List.all_eq_false];exact⟨x,bj,cB⟩
theorem Z5(W:bb)(dD:W.parents.length<=60)(f:Fact):ba Tryz.prog 216 [aa.fact f,.ptr [kg W]] (.b (mD W f)):=by
 intro H;refine bh (n:=8) Tryz.func216 λB I aO=>?_;refine bs ?_;refine au.cG rfl rfl rfl rfl (λfo=>?_);refine bn ?_;refine dE .k (QB dD 12 ad f 24 fo H ⟨ad,ad⟩) ?_;rintro _ _ ⟨rfl,rfl⟩;refine bI ?_;refine aS 3 (H) ?_;exact⟨bR rfl,rfl⟩
theorem Z6(W:bb)(dD:W.parents.length<=60)(l:List Fact):ba Tryz.prog 199 [kg W,aa.facts l] (.b (l.all (mD W))):=by
 intro H;refine bh (n:=8) Tryz.func199 λB I aO=>?_;refine c6 ?_;refine aG (af.call .k (Z4 (.of (Z5 W dD)) l)) ?_;refine bI ?_;refine aS 4 (H) ?_;exact⟨eg,rfl⟩
theorem IT(h:i<U.length):(dH W++U.map λs=>aa.set s)[2+i]? =some (aa.set (U.getD i 0)):=by
 show ([aa.bD W.parents,aa.ints W.owner]++_)[2+i]? =_;rw[List.getElem?_append_right bj];simp[List.getElem?_map,List.getElem?_eq_getElem h,List.getD_eq_getElem?_getD]
theorem Z7(h:i<U.length):(dH W++U.map λs=>aa.set s).take (2+i)++[aa.set s]++(dH W++U.map λs=>aa.set s).drop (2+i+1)=dH W++(U.set i s).map λs=>aa.set s:=by
 have e:dH W= [aa.bD W.parents,aa.ints W.owner]:=rfl;have a6:(dH W++U.map λs=>aa.set s).take (2+i)=dH W++(U.take i).map λs=>aa.set s:=by
  rw[e,List.take_append,List.map_take];simp[List.take_of_length_le]
 have aW:(dH W++U.map λs=>aa.set s).drop (2+i+1)=(U.drop (i+1)).map λs=>aa.set s:=by
  rw[show 2+i+1=(i+1)+2 from by omega,List.map_drop];rfl
 rw[a6,aW,List.append_assoc,List.append_assoc];congr 1;rw[List.set_eq_take_append_cons_drop,if_pos h];simp
def wB(l:List Int)(v:Int):Int:=match l.findIdx? (λx=>x==v) with | some i=>(i:Int) | none=>-1
theorem Z8(ao:k<l.length)(aB:∀x∈l.take k,x≠v)(h:v=l.getD k default):(k:Int)=wB l v:=by
 have e:l.findIdx? (λx=>x==v)=some k:=by
  rw[List.findIdx?_eq_some_iff_getElem];refine⟨ao,?_,λj aU=>?_⟩
  ·rw[h,List.getD_eq_getElem?_getD,List.getElem?_eq_getElem ao];simp
  ·have:=aB (l[j]'ad) (by rw[List.mem_take_iff_getElem];exact⟨j,ad,rfl⟩);simpa using this
 rw[wB,e]
theorem Z9(aB:∀x∈l,x≠v):(-1:Int)=wB l v:=by
 have e:l.findIdx? (λx=>x==v)=none:=by
  rw[List.findIdx?_eq_none_iff];intro x ag;simpa using aB x ag
 rw[wB,e]
theorem aaa(l:List Int)(v:Int):decide (wB l v>=0)=l.contains v:=by
 unfold wB;cases h:l.findIdx? (λx=>x==v) with
 | none=>
  rw[List.findIdx?_eq_none_iff] at h;symm;simp;intro ag;have:=h v ag;simp at this
 | some i=>
  rw[List.findIdx?_eq_some_iff_getElem] at h;obtain⟨av,ab,_⟩:=h;symm;simp;have:l[i]=v:=by simpa using ab
  rw[<-this];exact List.getElem_mem av
theorem aab(l:List Int)(v:Int):ba Tryz.prog 115 [aa.ints l,.i v] (.i (wB l v)):=by
 intro H;refine bh (n:=19) Tryz.func115 λB I aO=>?_;refine aq.fi (t:=0) rfl (λhg=>?_);refine eb ?_;refine cq (λm st=>∃k:Nat,st=⟨[(8,.i k),(7,.i l.length),(0,aa.ints l),(1,.i v)],H⟩/\m=l.length - k/\k<=l.length/\∀x∈l.take k,x≠v) (⟨0,rfl,rfl,bj,bj⟩) ?_;rintro m _ ⟨k,rfl,rfl,ao,aB⟩;refine aT ?_;refine aZ (λai=>?_) λai=>?_
 ·refine ma ?_;refine aZ (λab=>?_) λab=>?_
  ·refine cT ?_;refine aS 4 (H) ?_;exact⟨gp (Z8 ad aB ab),rfl⟩
  ·refine bn ?_;exact bV (⟨k+1,rfl,rfl,ad,OO ad aB ab⟩)
 ·refine cw ?_;refine aS 4 (H) ?_;exact⟨gp (Z9 Mi),rfl⟩
theorem IU(l:List Int)(v:Int):ba Tryz.prog 78 [aa.ints l,.i v] (.b (l.contains v)):=by
 intro H;refine bh (n:=9) Tryz.func78 λB I aO=>?_;refine bS ?_;refine aG (af.call .k ((aab _ _))) ?_;refine bz ?_;refine aS 4 (H) ?_;exact⟨bR (aaa _ _),rfl⟩
def yC(k:Nat):List Nat:=[1,3,5].take k++List.replicate (63 - k) 0
theorem aac(h:k<3):(yC k).set k (1 ||| 2^(k:Int).toNat)=yC (k+1):=by
 have:k=0\/k=1\/k=2:=by omega
 rcases this with rfl | rfl | rfl <;> rfl
theorem QC(h:k<=3):(yC k).length=63:=by simp[yC];omega
theorem aad(h:i<U.length)(mI:U.set i s=D8):(dH W++U.map λs=>aa.set s).take (2+i)++[aa.set s]++(dH W++U.map λs=>aa.set s).drop (2+i+1)=dH W++D8.map λs=>aa.set s:=mI▸Z7 h
theorem QD(aA:off=2+i)(h:i<U.length):Nat.ble (off+1) (dH W++U.map λs=>aa.set s).length=true:=by
 subst aA;rw[Nat.ble_eq];simp[dH];omega
theorem aae(h:(bif decide ((W.parents.length:Int)>60) then true else decide ((W.owner.length:Int)>40))=true):dm W=false:=by
 rw[e7] at h;simp only[Bool.or_eq_true,decide_eq_true_eq] at h;unfold dm;rcases h with h | h
 ·have:decide (W.parents.length<=60)=false:=by simp;omega
  simp[this]
 ·have:decide (W.owner.length<=40)=false:=by simp;omega
  simp[this]
theorem aaf(h:(bif decide ((W.parents.length:Int)>60) then true else decide ((W.owner.length:Int)>40))=false):W.parents.length<=60/\W.owner.length<=40:=by
 rw[e7] at h;simp only[Bool.or_eq_false_iff,decide_eq_false_iff_not] at h;omega
theorem QE(h:W.parents.length<=60/\W.owner.length<=40):dm W=(jR 0 W.parents && W.owner.all (vX W)):=by
 simp[dm,h.1,h.2]
theorem QF{l:List (List Int)}(ao:k<l.length):jR k (l.drop k)=(mb k [] (l.getD k default) && jR (k+1) (l.drop (k+1))):=by
 rw[List.drop_eq_getElem_cons ao,jR,List.getD_eq_getElem?_getD,List.getElem?_eq_getElem ao];rfl
theorem aag{l:List (List Int)}(U:List Nat)(ao:k<l.length):iy (l.drop k) k U=iy (l.drop (k+1)) (k+1) (U.set (3+k) (p9 U k (l.getD k default))):=by
 rw[List.drop_eq_getElem_cons ao,iy,List.getD_eq_getElem?_getD,List.getElem?_eq_getElem ao];rfl
theorem QG(aU:j<l.length):mb i (l.take j) (l.drop j)=(!(decide (l.getD j default<3) || decide (l.getD j default>=3+i) || (l.take j).contains (l.getD j default)) && mb i (l.take (j+1)) (l.drop (j+1))):=by
 rw[List.drop_eq_getElem_cons aU,mb, <-eE aU,List.getD_eq_getElem?_getD,List.getElem?_eq_getElem aU];rfl
theorem aah(aA:off=2+i)(h:i<U.length):(dH W++U.map λs=>aa.set s)[off]? =some (aa.set (U.getD i 0)):=aA▸IT h
theorem QH(aA:off=2+i)(h:i<U.length)(mI:U.set i s=D8):(dH W++U.map λs=>aa.set s).take off++[aa.set s]++(dH W++U.map λs=>aa.set s).drop (off+1)=dH W++D8.map λs=>aa.set s:=aA▸aad h mI
theorem aai(aU:j<l.length):(l.drop j).foldl (λs (p:Int)=>s ||| U.getD p.toNat 0) s=(l.drop (j+1)).foldl (λs (p:Int)=>s ||| U.getD p.toNat 0) (s ||| U.getD (l.getD j default).toNat 0):=by
 rw[List.drop_eq_getElem_cons aU,List.foldl_cons,wm aU]
theorem aaj{r:Bool}(aU:j<l.length)(aB:mb k (l.take j) (l.drop j)=r)(h:(bif bif decide (l.getD j default<3) then true else decide (3+(k:Int)<=l.getD j default) then true else (l.take j).contains (l.getD j default))=false):
  3<=l.getD j default/\l.getD j default<3+k/\mb k (l.take (j+1)) (l.drop (j+1))=r:=by
 rw[e7,e7] at h;have ai:=h;simp only[Bool.or_eq_false_iff,decide_eq_false_iff_not] at ai;refine⟨ad,ad,?_⟩;rw[QG aU] at aB;have e:(decide (l.getD j default<3) || decide (l.getD j default>=3+(k:Int)) || (l.take j).contains (l.getD j default))=false:=h;rw[e] at aB;simpa using aB
theorem aak{r:Bool}(aU:j<l.length)(aB:mb k (l.take j) (l.drop j)=r)(h:(bif bif decide (l.getD j default<3) then true else decide (3+(k:Int)<=l.getD j default) then true else (l.take j).contains (l.getD j default))=true):r=false:=by
 rw[e7,e7] at h;rw[QG aU] at aB;have e:(decide (l.getD j default<3) || decide (l.getD j default>=3+(k:Int)) || (l.take j).contains (l.getD j default))=true:=h;rw[e] at aB;simpa using aB.symm
theorem aal(dD:W.parents.length<=60/\W.owner.length<=40)(ao:k<W.parents.length)(uK:jR k (W.parents.drop k)=jR 0 W.parents)(h:mb k [] (W.parents.getD k default)=false):dm W=false:=by
 rw[QF ao,h] at uK;rw[QE dD, <-uK];rfl
theorem wC(mI:∀x∈U,x<18446744073709551616)(i:Nat):U.getD i 0<18446744073709551616:=by
 rw[List.getD_eq_getElem?_getD];by_cases h:i<U.length
 ·rw[List.getElem?_eq_getElem h];exact mI _ (List.getElem_mem h)
 ·rw[List.getElem?_eq_none ad];decide
theorem IV(mI:∀x∈U,x<18446744073709551616){i s:Nat}(aH:s<18446744073709551616):∀x∈U.set i s,x<18446744073709551616:=by
 intro x ag;rcases List.mem_or_eq_of_mem_set ag with h | h
 ·exact mI x h
 ·exact h▸aH
theorem nh{s t:Nat}(aH:s<18446744073709551616)(ht:t<18446744073709551616):s ||| t<18446744073709551616:=Nat.or_lt_two_pow (n:=64) aH ht
theorem rW(h:k<64):2^k<18446744073709551616:=Nat.pow_lt_pow_right (a:=2) (n:=64) ad h
theorem QI(W:bb):ba Tryz.prog 135 [aa.world W] (.bJ [if dm W then kg W else .one,.b (dm W)]):=by
 intro H;refine bh (n:=91) Tryz.func135 λB I aO=>?_;refine aq.qL (t:=0) (i:=0) rfl rfl (λhg=>?_);refine aq.qL (t:=0) (i:=1) rfl rfl (λgn=>?_);refine oz ?_;refine aq.cond rfl (λai=>?_) (λai=>?_)
 ·have hw:dm W=false:=aae ai;refine bs ?_;refine aR.c5 (rs:=[.tmp 2,.tmp 3]) (H':=H) rfl (.tmp rfl (.tmp rfl (.nil))) (.cons (aL.one rfl (λ_ h=>by cases h)) (.cons (aL.refl _) .nil)) b8 ?_;exact⟨by rw[hw];rfl,rfl⟩
 ·have dD:=aaf ai;refine aT ?_;refine au.tW rfl rfl rfl rfl rfl rfl rfl (λfo=>?_);refine c6 ?_;refine cq (λm st=>∃k:Nat,st=⟨[(24,.i k),(4,.p fo 0),(1,.ptr (dH W))],.aI fo 187 (dH W++(yC k).map λs=>aa.set s)::H⟩/\m=3 - k/\k<=3) (⟨0,rfl,rfl,ad⟩) ?_;rintro m _ ⟨k,rfl,rfl,ao⟩;refine aT ?_;refine aZ (λab=>?_) λab=>?_
  ·refine c6 ?_;refine aq.bL mixed ?_;refine bk.b7 0 6 91 rfl ay rfl rfl ay ?_;refine bg ?_;refine bU.bB rfl rfl rfl (af.call .k (wA 1 k ad ad)) ?_;refine bz ?_;apply au.j9 rfl rfl rfl rfl rfl rfl rfl rfl rfl rfl
   (case hu=>repeat (first | exact bu.head _ _ _ | apply bu.tail));(case hfit=>exact QD (i:=k) bj (by rw[QC ao];omega));(case hds=>exact QH (i:=k) bj (by rw[QC ao];omega) (aac ad))
   refine bn ?_;exact bV (⟨k+1,rfl,rfl,ad⟩)
  ·obtain rfl:k=3:=by omega
   refine fk ?_;refine cq (λm st=>∃(k:Nat) (U:List Nat),st=⟨[(38,.i k),(37,.i W.parents.length),(36,aa.bD W.parents),(4,.p fo 0),(1,.ptr (dH W))],.aI fo 187 (dH W++U.map λs=>aa.set s)::H⟩/\m=W.parents.length - k/\k<=W.parents.length/\U.length=63/\(∀x∈U,x<18446744073709551616)/\iy (W.parents.drop k) k U=nP W/\jR k (W.parents.drop k)=jR 0 W.parents) (⟨0,yC 3,rfl,rfl,ad,rfl,e3,rfl,rfl⟩) ?_;rintro m _ ⟨k,U,rfl,rfl,ao,hlen,mI,wD,uK⟩;refine aT ?_;refine aZ (λae=>?_) λae=>?_
   ·refine hB ?_;refine aG (af.call .k (wA 1 (3+k) ad ad)) ?_;refine bz ?_;refine aq.fi (t:=7) rfl (λmw=>?_);refine bn ?_;refine cq (λm st=>∃(j s:Nat),st=⟨[(48,.i j),(47,.i (W.parents.getD k default).length),(46,aa.ints (W.parents.getD k default)),(8,aa.set s),(6,.i k),(7,aa.ints (W.parents.getD k default)),(38,.i k),(37,.i W.parents.length),(36,aa.bD W.parents),(4,.p fo 0),(1,.ptr (dH W))],.aI fo 187 (dH W++U.map λs=>aa.set s)::H⟩/\m=(W.parents.getD k default).length - j/\j<=(W.parents.getD k default).length/\s<18446744073709551616/\((W.parents.getD k default).drop j).foldl (λs (p:Int)=>s ||| U.getD p.toNat 0) s=p9 U k (W.parents.getD k default)/\mb k ((W.parents.getD k default).take j) ((W.parents.getD k default).drop j)=mb k [] (W.parents.getD k default)) (⟨0,1 ||| 2^((3:Int)+k).toNat,rfl,rfl,ad,nh ad (rW ad),by rw[show ((3:Int)+k).toNat=3+k from by omega];rfl,rfl⟩) ?_;rintro m _ ⟨j,s,rfl,rfl,aU,aH,aP,aB⟩;refine aT ?_;refine aZ (λaD=>?_) λaD=>?_
    ·refine OA ?_;refine au.cb rfl rfl rfl rfl rfl rfl (λal=>af.GQ rfl rfl tE rfl tE ad) ?_;refine bt ?_;refine au.cb rfl rfl rfl rfl rfl rfl (λal=>af.call (.mk' rfl rfl rfl rfl dv) (IU _ _)) ?_;refine bg ?_;refine aZ (λaV=>?_) λaV=>?_
     ·have hw:dm W=false:=aal dD ad uK (aak ad aB aV);refine kC ?_;refine aR.c5 (rs:=[.tmp 2,.tmp 3]) (H':=H) rfl (.tmp rfl (.tmp rfl (.nil))) (.cons (aL.one rfl (λ_ h=>by cases h)) (.cons (aL.refl _) .nil)) b8 ?_;exact⟨by rw[hw];rfl,rfl⟩
     ·obtain⟨vc,xF,s4⟩:=aaj ad aB aV;refine bS ?_;refine aG ((by first | exact af.eN rfl rfl rfl rfl | (apply af.lr rfl rfl rfl;(case hm=>repeat (first | exact .head _ | refine .tail _ ?_));(case hy=>exact aah (i:=((W.parents.getD k default).getD j default).toNat) ad ad)))) ?_;refine aG (af.bits rfl rfl rfl rfl rfl (vV _ _ aH (wC mI _))) ?_;refine bs ?_;exact bV (⟨j+1,s ||| U.getD ((W.parents.getD k default).getD j default).toNat 0,rfl,rfl,ad,nh aH (wC mI _),by rw[<-aai ad];exact aP,s4⟩)
    ·obtain rfl:j=(W.parents.getD k default).length:=by omega
     rw[List.drop_length,List.foldl_nil] at aP;rw[List.drop_length,List.take_length,mb] at aB;subst aP;refine ev ?_;apply au.j9 rfl rfl rfl rfl rfl rfl rfl rfl rfl rfl
     (case hu=>repeat (first | exact bu.head _ _ _ | apply bu.tail));(case hfit=>exact QD (i:=3+k) ad ad);(case hds=>exact QH (i:=3+k) ad ad rfl)
     refine bn ?_;exact bV (⟨k+1,U.set (3+k) (p9 U k (W.parents.getD k default)),rfl,rfl,ad,by simp[hlen],IV mI aH,by rw[<-aag U ad];exact wD,by rw[QF ad, <-aB] at uK;simpa using uK⟩)
   ·obtain rfl:k=W.parents.length:=by omega
    rw[List.drop_length,iy] at wD;subst wD;rw[List.drop_length,jR] at uK;refine aT ?_;refine aq.ep (d:=4) rfl ey ?_;refine aT ?_;refine aG (af.call .k (Qx (.of (λx=>ZN W x dD.1)) W.owner)) ?_;refine bz ?_;refine aR.c5 (rs:=[.tmp 2,.tmp 3]) (H':=H) rfl (.tmp rfl (.tmp rfl (.nil))) (.cons (aL.Wo (c:=dm W=true) rfl (λ_ h=>by cases h)) (.cons (aL.refl _) .nil)) b8 ?_;exact⟨by rw[QE dD, <-uK];rfl,rfl⟩
theorem QJ(h:dm W=true):ba Tryz.prog 135 [aa.world W] (.bJ [kg W,.b true]):=by have:=QI W;rwa [if_pos h,h] at this
theorem aam(h:dm W=false):ba Tryz.prog 135 [aa.world W] (.bJ [.one,.b false]):=by have:=QI W;rwa [if_neg cB,h] at this
theorem Bk(h:dm W=true):W.owner.length<=40:=by simp[dm] at h;exact h.1.1.2
theorem QK(h:dm W=true)(l:List Fact):ba Tryz.prog 171 [aa.world W,aa.facts l] (.bJ [kg W,.b (l.all (mD W))]):=by
 intro H;refine bh (n:=20) Tryz.func171 λB I aO=>?_;have dD:=wo h;refine c6 ?_;refine aG (af.call .k (QJ h)) ?_;refine eb ?_;refine au.cb rfl rfl rfl rfl rfl rfl (λal=>af.call (.mk' rfl rfl rfl rfl dv) (Z6 W dD l)) ?_;refine aT ?_;refine fR [.tmp 4,.tmp 5] (H) ?_;exact⟨eg,rfl⟩
theorem aan(h:dm W=false)(l:List Fact):ba Tryz.prog 171 [aa.world W,aa.facts l] (.bJ [.one,.b false]):=by
 intro H;refine bh (n:=20) Tryz.func171 λB I aO=>?_;refine c6 ?_;refine aG (af.call .k (aam h)) ?_;refine eb ?_;refine au.cb (x:=.b false) rfl rfl rfl rfl rfl rfl (λal=>absurd al bj) ?_;refine aT ?_;refine fR [.tmp 4,.tmp 5] (H) ?_;exact⟨eg,rfl⟩
theorem refused(b:Bool):ba Tryz.prog 172 [.b b] (.i (if b then 0 else 2)):=by
 intro H;refine bh (n:=5) Tryz.func172 λB I aO=>?_;refine cT ?_;refine aZ (λai=>?_) λai=>?_
 ·refine bn ?_;refine aS 2 (H) ?_;exact⟨gp vb,rfl⟩
 ·refine bs ?_;refine aS 2 (H) ?_;exact⟨gp vb,rfl⟩
theorem aao{W:Fc.bb}(h:dm W=true)(f:Fact):ba Tryz.prog 133 [aa.world W,aa.fact f] (.i (if mD W f then 0 else 2)):=by
 intro H;refine bh (n:=16) Tryz.func133 λB I aO=>?_;refine cw ?_;refine aG (af.AJ [(_,aa.fact f)] rfl rfl (by first | rfl | simp_all) rfl rfl rfl rfl rfl) ?_;refine aG (af.vv .k (.cons (.refl _) (.cons (AP [f] dJ) .nil)) (by have:=QK h [f];rwa [List.all_cons,List.all_nil,Bool.and_true] at this)) ?_;refine c6 ?_;refine aG (af.call .k ((refused _))) ?_;refine bI ?_;refine aS 4 (H) ?_;exact⟨eg,rfl⟩
theorem aap{W:Fc.bb}(h:dm W=false)(f:Fact):ba Tryz.prog 133 [aa.world W,aa.fact f] (.i 2):=by
 intro H;refine bh (n:=16) Tryz.func133 λB I aO=>?_;refine cw ?_;refine aG (af.AJ [(_,aa.fact f)] rfl rfl (by first | rfl | simp_all) rfl rfl rfl rfl rfl) ?_;refine aG (af.vv .k (.cons (.refl _) (.cons (AP [f] dJ) .nil)) (aan h [f])) ?_;refine c6 ?_;refine aG (af.call .k ((refused _))) ?_;refine bI ?_;refine aS 4 (H) ?_;exact⟨eg,rfl⟩
theorem QL(al:oZ Tryz.prog (.fn f bM cs) aa.i p)(l:List Int)(ax:l.length<=1000000):ba Tryz.prog 253 [aa.ints l,.fn f bM cs] (aa.ints (l.filter p)):=by
 intro H;refine bh (n:=23) Tryz.func253 λB I aO=>?_;refine cT ?_;refine aq.iq 5 3 1 rfl ?_;refine bn ?_;refine cq (λm st=>∃(i:Nat) (v:Value),st=⟨[(10,.i i),(9,.i l.length),(8,aa.ints l),(1,.fn f bM cs),(5,.as (aa.ints ((l.take i).filter p)) v)],.own 3 1 v::H⟩/\m=l.length - i/\i<=l.length) (⟨0,_,rfl,rfl,ad⟩) ?_;rintro m _ ⟨i,v,rfl,rfl,av⟩;refine aT ?_;refine aZ (λai=>?_) λai=>?_
 ·have a1:i<l.length:=by omega
  refine fk ?_;refine au.o1 rfl rfl rfl rfl rfl rfl rfl rfl (bO.refl _) (al B _ _) ?_;rintro _ _ ⟨rfl,rfl⟩;refine bC ?_;refine aZ (λab=>?_) λab=>?_
  ·refine bg ?_;refine au.bB (x:=.aF 1 [[.i (l.getD i default)]]) rfl rfl rfl (af.row rfl rfl c4 rfl rfl rfl rfl rfl rfl) ?_;refine au.gu rfl rfl rfl rfl rfl rfl rfl rfl (aL.refl _) (rfl) (λv=>by repeat (first | exact bu.head _ _ _ | apply bu.tail)) LQ LQ (λv20=>?_);refine bs ?_;exact bV (⟨i+1,v20,by rw[AT a1 ab],rfl,a1⟩)
  ·refine bn ?_;exact bV (⟨i+1,v,by rw[AU a1 ab],rfl,a1⟩)
 ·obtain rfl:i=l.length:=by omega
  rw[List.take_length];refine cT ?_;refine aR.c5 (rs:=[.tmp 4]) (H':=H) rfl (.tmp rfl (.nil)) (.cons (aL.hb _ _) .nil) b8 ?_;exact⟨eg,rfl⟩
theorem aaq(n:Int):ba Tryz.prog 265 [.i n] (.b (n !=0)):=by
 intro H;refine bh (n:=5) Tryz.func265 λB I aO=>?_;refine ev ?_;refine aS 2 (H) ?_;exact⟨eg,rfl⟩
theorem aar(l:List Int)(ax:l.length<=1000000):ba Tryz.prog 252 [aa.ints l] (aa.ints (mF l)):=by
 intro H;refine bh (n:=5) Tryz.func252 λB I aO=>?_;refine bs ?_;refine aG (af.call .k (QL (.of aaq) l ax)) ?_;refine bI ?_;refine aS 2 (H) ?_;exact⟨eg,rfl⟩
theorem aas(h n:Int):ba Tryz.prog 254 [.i n,.ptr [.i h]] (.b (n !=h)):=by
 intro H;refine bh (n:=7) Tryz.func254 λB I aO=>?_;refine eb ?_;refine aS 3 (H) ?_;exact⟨eg,rfl⟩
theorem aat(all:List (List Int))(ht:total all<=1000)(ax:all.length<=1000):ba Tryz.prog 230 [aa.bD all] (.bJ [aa.ints (mE all).1,.b (mE all).2]):=by
 intro H;refine bh (n:=66) Tryz.func230 λB I aO=>?_;refine aT ?_;refine aq.scope ?_;refine aT ?_;refine aq.label ?_;refine bC ?_;refine aq.iq 4 3 1 rfl ?_;refine cq (λm st=>∃(A:List (List Int)) (out:List Int) (n:Nat) (v:Value),st=⟨[(0,aa.bD A),(4,.as (aa.ints out) v)],.own 3 1 v::H⟩/\m=n/\total A<n/\qY n A out=mE all/\total A+out.length<=total all/\A.length=all.length) (⟨all,[],total all+1,_,rfl,rfl,ad,rfl,bj,rfl⟩) ?_;rintro m _ ⟨A,out,n,v,rfl,rfl,hn,hm,aau,cy⟩;obtain⟨n,rfl⟩:∃q,m=q+1:=⟨m - 1,ad⟩;refine bt ?_;refine aq.scope ?_;refine aT ?_;refine aq.label ?_;refine c6 ?_;refine cq (λm st=>∃(i:Nat) (j8:Bool),st=⟨[(16,.i i),(15,.i A.length),(14,aa.bD A),(5,.b j8),(0,aa.bD A),(4,.as (aa.ints out) v)],.own 3 1 v::H⟩/\m=A.length - i/\i<=A.length/\j8= !((A.take i).all List.isEmpty)/\kk A A=kk A (A.drop i)) (⟨0,false,rfl,rfl,ad,rfl,rfl⟩) ?_;rintro m _ ⟨i,j8,rfl,rfl,av,k2,q4⟩;refine aT ?_;refine aZ (λai=>?_) λai=>?_
 ·have a1:i<A.length:=by omega
  obtain⟨L,df⟩:∃L,L=A.getD i default:=⟨_,rfl⟩;have yD:=yp a1;rw[<-df] at yD;have aav:=DO A i a1;rw[<-df] at aav;refine ev ?_;rw[<-df];refine aT ?_;refine aZ (λab=>?_) λab=>?_
  ·have Ec:L= []:=List.eq_nil_of_length_eq_zero ad;refine bs ?_;exact bV (⟨i+1,j8,rfl,rfl,a1,by rw[AV a1, <-df,Ec,k2];simp,by rw[q4,yD,OT Ec]⟩)
  ·have wE:0<L.length:=by omega
   refine lL ?_;refine cq (λm st=>∃j:Nat,st=⟨[(25,.i j),(24,.i A.length),(23,aa.bD A),(7,aa.ints L),(16,.i i),(15,.i A.length),(14,aa.bD A),(5,.b true),(0,aa.bD A),(4,.as (aa.ints out) v)],.own 3 1 v::H⟩/\m=A.length - j/\j<=A.length/\((A.take j).any λm=>m.tail.contains (L.getD 0 default))=false) (⟨0,rfl,rfl,ad,rfl⟩) ?_;rintro m _ ⟨j,rfl,rfl,aU,Ed⟩;refine aT ?_;refine aZ (λae=>?_) λae=>?_
   ·have c3:j<A.length:=by omega
    obtain⟨M,bT⟩:∃M,M=A.getD j default:=⟨_,rfl⟩;refine cT ?_;rw[<-bT];refine aq.bL mixed ?_;refine lL ?_;refine bk.b7 4 9 66 rfl ay rfl rfl ay ?_;refine bt ?_;refine bU.cb rfl rfl rfl rfl rfl (λal=>af.M6 (n:=1) rfl rfl tE rfl tE (by have:=of_decide_eq_true al;omega)) ?_;refine bz ?_;refine au.cb rfl rfl rfl rfl rfl rfl (λal=>af.call (.mk' rfl rfl rfl rfl dv) ((Bg _ _))) ?_;refine bg ?_;refine aZ (λaD=>?_) λaD=>?_
    ·refine cT ?_;exact bV (⟨i+1,true,rfl,rfl,a1,by rw[AV a1, <-df,OX wE,Bool.and_false];rfl,by rw[q4,yD,OU wE (by rw[DQ,OY c3 (by rw[<-bT];exact OZ aD)];rfl)]⟩)
    ·refine bn ?_;exact bV (⟨j+1,rfl,rfl,c3,by rw[OS c3,Ed, <-bT,O0 aD];rfl⟩)
   ·obtain rfl:j=A.length:=by omega
    rw[List.take_length] at Ed;obtain⟨h,az⟩:∃h,h=L.getD 0 default:=⟨_,rfl⟩;rw[<-az] at Ed;have IW:kk A A=some h:=by rw[q4,yD,OV wE (by rw[DQ, <-az,Ed];rfl),az]
    have cO:=H3 h A i a1 (by rw[<-df,az];exact cp wE);have hle:=DN h A;refine c6 ?_;refine au.cG rfl rfl rfl rfl (λfo=>?_);refine bI ?_;refine aq.ep (d:=10) rfl ey ?_;rw[<-az];refine bg ?_;refine au.bB (x:=.aF 1 [[.i h]]) rfl rfl rfl (af.row rfl rfl c4 rfl rfl rfl rfl rfl rfl) ?_;refine au.gu rfl rfl rfl rfl rfl rfl rfl rfl (aL.refl _) (rfl) (λv=>by repeat (first | exact bu.head _ _ _ | apply bu.tail)) oc oc (λIX=>?_);refine c6 ?_;refine aq.iq 11 23 1 rfl ?_;refine bn ?_;refine cq (λm st=>∃(k:Nat) (w:Value),st=⟨[(50,.i k),(49,.i A.length),(48,aa.bD A),(11,.as (aa.bD (jS h (A.take k))) w),(10,.ptr [.i h]),(4,.as (.aF 1 ((out.map λn=>[aa.i n])++[[aa.i h]])) IX)],.own 23 1 w::.own 3 1 IX::H⟩/\m=A.length - k/\k<=A.length) (⟨0,_,rfl,rfl,ad⟩) ?_;rintro m _ ⟨k,w,rfl,rfl,ao⟩;refine aT ?_;refine aZ (λaV=>?_) λaV=>?_
    ·have dP:k<A.length:=by omega
     have aaw:=DO A k dP;refine fk ?_;refine aG (af.call .k (QL (.of (aas h)) (A.getD k default) ad)) ?_;refine au.bB (x:=.aF 1 [[aa.ints ((A.getD k default).filter (· !=h))]]) rfl rfl rfl (af.row rfl rfl c4 rfl rfl rfl rfl rfl rfl) ?_;refine au.gu rfl rfl rfl rfl rfl rfl rfl rfl (aL.refl _) (rfl) (λv=>by repeat (first | exact bu.head _ _ _ | apply bu.tail)) Cs Cs (λv59=>?_);refine bs ?_;exact bV (⟨k+1,v59,by rw[OW _ dP],rfl,dP⟩)
    ·obtain rfl:k=A.length:=by omega
     rw[List.take_length];refine aT ?_;refine aq.le 11 (y:=aa.bD (jS h A)) rfl (aL.hb _ _) ?_;refine cw ?_;refine aR.W4 ?_;refine bt ?_;exact bV (⟨jS h A,out++[h],n,IX,by rw[DP],rfl,ad,by rw[<-hm,H4 IW],CD,by rw[FV,cy]⟩)
 ·obtain rfl:i=A.length:=by omega
  rw[List.drop_length] at q4;rw[List.take_length] at k2;refine fk ?_;refine aR.x6 ?_;refine bg ?_;refine aR.x6 ?_;refine aR.c5 (rs:=[.tmp 2,.tmp 3]) (H':=H) rfl (.tmp rfl (.tmp rfl (.nil))) (.cons (aL.hb _ _) (.cons (.refl _) .nil)) b8 ?_;exact⟨by rw[<-hm,H5 q4,k2,Bool.not_not];rfl,rfl⟩
theorem QM(s:Nat)(c:Int)(ak:0<=c/\c<64)(aH:s<18446744073709551616):ba Tryz.prog 203 [.agg [aa.set s],.i c] (.agg [aa.set (s ||| 2^c.toNat)]):=by
 intro H;refine bh (n:=12) Tryz.func203 λB I aO=>?_;refine bC ?_;refine au.tW rfl rfl rfl rfl rfl rfl rfl (λfo=>?_);refine au.cG rfl rfl rfl rfl (λkd=>?_);refine bg ?_;refine aq.bL mixed ?_;refine bk.b7 0 4 12 rfl ay rfl rfl ay ?_;refine bg ?_;refine bU.bB rfl rfl rfl (af.shift rfl rfl rfl rfl rfl ak.1 (OE _ ak)) ?_;refine bC ?_;refine aG (af.bits rfl rfl rfl rfl rfl (vV _ _ aH (Nat.pow_lt_pow_right (a:=2) (n:=64) ad ad))) ?_;refine cw ?_;refine fR [.cell 4 248] (H) ?_;exact⟨eg,rfl⟩
theorem aax(s t:Nat)(aH:s<18446744073709551616)(ht:t<18446744073709551616):ba Tryz.prog 204 [.agg [aa.set s],.agg [aa.set t]] (.agg [aa.set (s ||| t)]):=by
 intro H;refine bh (n:=12) Tryz.func204 λB I aO=>?_;refine bC ?_;refine au.tW rfl rfl rfl rfl rfl rfl rfl (λfo=>?_);refine bt ?_;refine au.cG rfl rfl rfl rfl (λkd=>?_);refine bs ?_;refine aG (af.bits rfl rfl rfl rfl rfl (vV _ _ aH ht)) ?_;refine cw ?_;refine fR [.cell 4 248] (H) ?_;exact⟨eg,rfl⟩
abbrev aay(cE:Nat)(G:aa)(p:Prog):aa:=.fn (.func 170) [] [.ptr [G],.ptr (dF p),.p cE 0]
abbrev qc(cE:Nat)(G:aa)(p:Prog):aj:=.aI cE 213 [aay cE G p]
def WalkC(B:Nat)(p:Prog)(next:Bool)(G:aa)(L:List cd)(fQ:Bool)(J:List cd->List aj->Prop)(gJ:aa->List aj->Prop)(cE:Nat)(f:Nat):Prop:=
 ∀(x:cd) (out:List Int) (pre rest:List cd) (iu Hx:List aj),x.bL+f=14->1<=x.bL->-1000<=x.bx/\x.bx<=1000+x.bL->pre++(visit p next f x out).1++rest=L->((visit p next f x out).2=none->rest= []/\fQ=true)->((visit p next f x out).2≠none->fQ=true->rest≠ [])->J pre iu->
  dC B Tryz.prog 170 [.i x.n,wg x,.ptr [G],.ptr (dF p),.p cE 0] (iu++(qc cE G p::Hx)) (λy H'=>y= .b true/\(visit p next f x out).2≠none/\∃H1,H'=H1++(qc cE G p::Hx)/\J (pre++(visit p next f x out).1) H1)
   (λy H'=>(visit p next f x out).2=none/\∃H1,H'=H1++(qc cE G p::Hx)/\gJ y H1)
theorem QN{p:Prog}{next:Bool}{g:Fn}{L:List cd}{fQ:Bool}{J:List cd->List aj->Prop}(iT:yd B Tryz.prog (.fn g bM cs) (λx=>.i x.n) wg L fQ J gJ)(nK:∀y H,gJ y H->∃v,y.Const v)
  {cE f:Nat} (bm:∀f',f=f'+1->WalkC B p next (.fn g bM cs) L fQ J gJ cE f'):WalkC B p next (.fn g bM cs) L fQ J gJ cE f:=by
 intro x out pre rest iu Hx Pw akN eH df qO lE bF;refine dC.of (n:=55) Tryz.func170 rfl aM rfl rfl (λI aO=>?_);refine cT ?_;refine au.Gr rfl rfl rfl rfl rfl rfl rfl (bO.refl _) (iT pre x iu (qc cE (.fn g bM cs) p::Hx) (YL df) bF) ?_ ?_
 ·rintro _ _ ⟨H1,rfl,rfl,A6,fp⟩;obtain⟨cA,f',rfl⟩:=YN Pw df qO A6;obtain⟨vc,xF⟩:=YO cA;obtain⟨K,ca⟩:∃K,K=gq p x:=⟨_,rfl⟩;have pq:=wh (f:=f') cA;rw[<-ca] at pq;refine bg ?_;refine aq.cond rfl (λai=>?_) (λai=>?_)
  ·simp at ai
  ·replace ai:=dZ ai;refine bs ?_;refine aG (Cw) ?_;refine bn ?_;rw[show p.nodes.getD x.n.toNat default=K from ca.symm];refine aq.fi (t:=21) rfl (λakO=>?_);refine cq (λm st=>∃(i:Nat) (l:List cd) (o:List Int) (H1:List aj),st=⟨[(23,.i i),(22,.i K.kids.length),(21,aa.ints K.kids),(6,.ptr [.i x.bx,.i x.bL]),(0,.i x.n),(2,.ptr [.fn g bM cs]),(3,.ptr (dF p)),(4,.p cE 0)],H1++(qc cE (.fn g bM cs) p::Hx)⟩/\m=K.kids.length - i/\i<=K.kids.length/\fl (visit p next f') ((iC x K.op 0 K.kids).take i) (jU out x)=(l,some o)/\J (pre++x::l) H1) (⟨0,[],jU out x,H1,rfl,rfl,ad,rfl,fp⟩) ?_;rintro m _ ⟨i,l,o,H1,rfl,rfl,av,dT,fp⟩;refine aT ?_;refine aZ (λab=>?_) λab=>?_
   ·have a1:i<K.kids.length:=by omega
    obtain⟨R,hR,s5,rP⟩:=Px (Pt (p:=p) (next:=next) f') (Py x K.op a1) dT;obtain⟨Bl,wF,QO⟩:=YQ pq df qO lE hR s5 (λo' h=>(rP o' h).2);refine qW ?_;refine au.cG rfl rfl rfl rfl (λtb=>?_);refine bS ?_;refine aG (Cw) ?_;refine bS ?_;refine aZ (λae=>?_) λae=>?_
    ·refine bS ?_;refine aq.perm (H':=H1++(qc cE (.fn g bM cs) p::.aI tb 169 [.i (hJ x K.op i (K.kids.getD i default)).bx,.i (hJ x K.op i (K.kids.getD i default)).bL]::Hx)) (by rw[show (hJ x K.op i (K.kids.getD i default)).bx=x.bx+1 from by rw[show (p.nodes.getD x.n.toNat default).op=K.op by rw[ca];rfl] at ae;simp at ae;simp only[hJ];rw[if_pos ad]];exact Pu _ _ _ _) ?_;refine bt ?_;refine aG (Ct) ?_;refine bt ?_;refine aG (LO) ?_;refine au.qI rfl rfl .k (bm f' rfl (hJ x K.op i (K.kids.getD i default)) o (pre++x::l) (R++rest) H1 (.aI tb 169 [.i (hJ x K.op i (K.kids.getD i default)).bx,.i (hJ x K.op i (K.kids.getD i default)).bL]::Hx) so so CN Bl wF QO fp) ?_ ?_
     ·rintro _ _ ⟨rfl,bq,db,rfl,yE⟩;obtain⟨o',aA⟩:=Option.ne_none_iff_exists'.1 bq;obtain⟨IY,_⟩:=rP o' aA;refine bg ?_;refine aq.cond rfl (λaD=>?_) (λaD=>?_)
      ·simp at aD
      ·replace aD:=dZ aD;refine bg ?_;refine aq.wi (DZ _ _ _ _) ?_;refine bI ?_;exact bV (⟨i+1,l++(visit p next f' (hJ x K.op i (K.kids.getD i default)) o).1,o',db,dJ,rfl,a1,IY,by simpa using yE⟩)
     ·rintro y aaz ⟨eF,db,rfl,bd⟩ a w s I v aC;obtain⟨v0,ak⟩:=nK _ _ bd;rw[ak.is _ _ _ aC];exact lG (P:=Tryz.prog) (fn:=Tryz.f170) ak (DZ _ _ _ _) ⟨by rw[pq];exact (s5 eF).2,db,rfl,bd⟩ a w s
    ·refine bg ?_;refine aq.perm (H':=H1++(qc cE (.fn g bM cs) p::.aI tb 169 [.i (hJ x K.op i (K.kids.getD i default)).bx,.i (hJ x K.op i (K.kids.getD i default)).bL]::Hx)) (by rw[show (hJ x K.op i (K.kids.getD i default)).bx=x.bx from by rw[show (p.nodes.getD x.n.toNat default).op=K.op by rw[ca];rfl] at ae;simp at ae;simp only[hJ];rw[if_neg ad]];exact Pu _ _ _ _) ?_;refine bt ?_;refine aG (Ct) ?_;refine bt ?_;refine aG (LO) ?_;refine au.qI rfl rfl .k (bm f' rfl (hJ x K.op i (K.kids.getD i default)) o (pre++x::l) (R++rest) H1 (.aI tb 169 [.i (hJ x K.op i (K.kids.getD i default)).bx,.i (hJ x K.op i (K.kids.getD i default)).bL]::Hx) so so CN Bl wF QO fp) ?_ ?_
     ·rintro _ _ ⟨rfl,bq,db,rfl,yE⟩;obtain⟨o',aA⟩:=Option.ne_none_iff_exists'.1 bq;obtain⟨IY,_⟩:=rP o' aA;refine bg ?_;refine aq.cond rfl (λaV=>?_) (λaV=>?_)
      ·simp at aV
      ·replace aV:=dZ aV;refine bg ?_;refine aq.wi (DZ _ _ _ _) ?_;refine bI ?_;exact bV (⟨i+1,l++(visit p next f' (hJ x K.op i (K.kids.getD i default)) o).1,o',db,dJ,rfl,a1,IY,by simpa using yE⟩)
     ·rintro y aaz ⟨eF,db,rfl,bd⟩ a w s I v aC;obtain⟨v0,ak⟩:=nK _ _ bd;rw[ak.is _ _ _ aC];exact lG (P:=Tryz.prog) (fn:=Tryz.f170) ak (DZ _ _ _ _) ⟨by rw[pq];exact (s5 eF).2,db,rfl,bd⟩ a w s
   ·obtain rfl:i=K.kids.length:=by omega
    have IZ:fl (visit p next f') (iC x K.op 0 K.kids) (jU out x)=(l,some o):=by rwa [List.take_of_length_le (by rw[Il];omega)] at dT
    rw[IZ] at pq;refine cw ?_;refine aR.c5 (rs:=[.tmp 7]) rfl (.tmp rfl (.nil)) (bO.refl _) b8 ?_;exact⟨eg,by rw[pq];simp,H1,rfl,by rw[pq];exact fp⟩
 ·rintro y db ⟨H1,rfl,A6,aP,bd⟩ a w s I v aC;obtain⟨v0,ak⟩:=nK _ _ bd;rw[ak.is _ _ _ aC];exact lG (P:=Tryz.prog) (fn:=Tryz.f170) ak (.refl _) ⟨YM df lE aP A6,H1,rfl,bd⟩ a w s
theorem QP{B:Nat}{p:Prog}{next:Bool}{g:Fn}{bM cs:List aa}{L:List cd}{fQ:Bool}{J:List cd->List aj->Prop}{gJ:aa->List aj->Prop}(iT:yd B Tryz.prog (.fn g bM cs) (λx=>.i x.n) wg L fQ J gJ)(nK:∀y H,gJ y H->∃v,y.Const v)(cE:Nat):
  ∀f,WalkC B p next (.fn g bM cs) L fQ J gJ cE f
 | 0=>QN iT nK (λf' h=>by omega)
 | f+1=>QN iT nK (λf' h=>by(obtain rfl:f'=f:=by omega);exact QP iT nK cE f')
theorem aaA{p:Prog}{next:Bool}{g:Fn}{x:cd}{out:List Int}{J:List cd->List aj->Prop}(ag:x.bL=1)(eH: -1000<=x.bx/\x.bx<=1001)(nK:∀y H,gJ y H->∃v,y.Const v)
  (iT:yd B Tryz.prog (.fn g bM cs) (λx=>.i x.n) wg (visit p next 13 x out).1 (visit p next 13 x out).2.isNone J gJ) {iu Hx:List aj} (bF:J [] iu):
  dC B Tryz.prog 169 [.fn g bM cs,.ptr (dF p),.ptr [.i x.n],.ptr [.i x.bx,.i x.bL]] (iu++Hx) (λ_ H'=>(visit p next 13 x out).2.isNone=false/\∃H1 cE,H'=H1++(qc cE (.fn g bM cs) p::Hx)/\J (visit p next 13 x out).1 H1)
   (λy H'=>(visit p next 13 x out).2.isNone=true/\∃H1 cE,H'=H1++(qc cE (.fn g bM cs) p::Hx)/\gJ y H1):=by
 refine dC.of (n:=11) Tryz.func169 rfl aM rfl rfl (λI aO=>?_);refine bn ?_;refine au.cG rfl rfl rfl rfl (λcE=>?_);refine bs ?_;refine aq.perm (H':=iu++(qc cE (.fn g bM cs) p::Hx)) List.perm_middle.symm ?_;refine bt ?_;refine aG (Ct) ?_;refine bC ?_;refine au.qI rfl rfl .k (QP iT nK cE 13 x out [] [] iu Hx ad ad ad bj (λh=>⟨rfl,by rw[h];rfl⟩) (λh aP=>absurd (Option.isNone_iff_eq_none.1 aP) h) bF) ?_ ?_
 ·rintro _ _ ⟨rfl,bq,H1,rfl,fp⟩;refine bt ?_;refine aR.oY (rs:=[]) rfl (.nil) (bO.refl _) b8 ?_;exact⟨by cases h:(visit p next 13 x out).2 with
 | none=>exact absurd h bq
 | some o=>rfl,H1,cE,rfl,by simpa using fp⟩
 ·rintro y db ⟨eF,H1,rfl,bd⟩ a w s I v aC;obtain⟨v0,ak⟩:=nK _ _ bd;rw[ak.is _ _ _ aC];exact lG (P:=Tryz.prog) (fn:=Tryz.f169) ak (.refl _) ⟨vh,H1,cE,rfl,bd⟩ a w s
theorem below(p:Prog)(x:cd):ba Tryz.prog 129 [aa.prog p,.i x.n,wg x] (.fn (.func 169) [] [.ptr (dF p),.ptr [.i x.n],.ptr [.i x.bx,.i x.bL]]):=by
 intro H;refine bh (n:=8) Tryz.func129 λB I aO=>?_;refine fk ?_;refine aS 6 (H) ?_;exact⟨eg,rfl⟩
theorem aaB(B:Nat)(p:Prog)(next:Bool)(x:cd)(out:List Int)(ag:x.bL=1)(eH: -1000<=x.bx/\x.bx<=1001):HA B Tryz.prog (.fn (.func 169) [] [.ptr (dF p),.ptr [.i x.n],.ptr [.i x.bx,.i x.bL]]) (λx=>.i x.n) wg (visit p next 13 x out).1 (visit p next 13 x out).2.isNone [] (λ_=>True):=by
 intro J gJ g bM cs nK iT H Hx bF;refine e4.sG ((aaA ag eH nK iT bF).imp ?_ ?_)
 ·rintro y H' ⟨h,H1,cE,rfl,fp⟩;exact⟨h,H1,[qc cE (.fn g bM cs) p],rfl,trivial,fp⟩
 ·rintro y H' ⟨h,H1,cE,rfl,fp⟩;exact⟨h,H1,[qc cE (.fn g bM cs) p],rfl,fp⟩
end Go.Proofs.YtodccgailpkgeaaGreat

namespace Go.Eng.ei
open Go.Eng.Fc
theorem I0(n:Nat)(h:n<4294967296):pT .and .u64 (n:Int) 4294967295=some (n:Int):=by
 rw[show (4294967295:Int)=((4294967295:Nat):Int) from rfl,AO n 4294967295 ad ad];rw[show (4294967295:Nat)=2^32 - 1 from rfl,Nat.and_two_pow_sub_one_eq_mod,Nat.mod_eq_of_lt ad]
theorem Bm(n:Nat)(h:n<4294967296):vo .shr .u64 (n:Int) 32=some 0:=by
 show some ((n:Int).fdiv (2^(min (32:Int).toNat 64)))=some 0;congr 1;rw[show (2:Int)^(min (32:Int).toNat 64)=4294967296 from rfl,Int.fdiv_eq_ediv_of_nonneg _ ad];omega
theorem q5{a:Int}{n:Nat}(h:a=n)(hn:n<18446744073709551616):IntKind.u64.wrap a=(n:Int):=by rw[h];exact AN n hn
def jW(x z:aa)(j k:Nat):List aa:=List.replicate j x++List.replicate k z
theorem aaC(x z:aa)(j k m:Nat)(aU:m<=j)(ao:m<=k):(jW x z j k).take j++((jW x z j k).take j).take m++(jW x z j k).drop (j+m)=jW x z (j+m) (k - m):=by
 have a6:(jW x z j k).take j=List.replicate j x:=by rw[jW,List.take_append_of_le_length bj,List.take_of_length_le bj]
 rw[a6,List.take_replicate,Nat.min_eq_left aU,jW,List.drop_append,List.drop_eq_nil_of_le bj,List.nil_append,List.length_replicate,Nat.add_sub_cancel_left,List.drop_replicate,jW,List.replicate_append_replicate]
theorem aaD(x z:aa)(k:Nat)(ao:1<=k):(List.replicate k z).take 0++[x].take 1++(List.replicate k z).drop 1=jW x z 1 (k - 1):=by
 simp[jW]
theorem aaE(x z:aa)(j:Nat):jW x z j 0=List.replicate j x:=by simp[jW]
theorem QQ(x z:aa)(j k:Nat):(jW x z j k).length=j+k:=by simp[jW]
theorem aaF(x z:aa)(j k:Nat)(ag:eG [x]=true)(an:eG [z]=true):eG ((jW x z j k).take j)=true:=by
 rw[jW,List.take_append_of_le_length bj,List.take_of_length_le bj];simp only[eG,List.all_eq_true] at ag ⊢;intro y hy;rw[List.eq_of_mem_replicate hy];exact ag x bj
end Go.Eng.ei

namespace Go.Proofs.YtodccgailpkgeaaGreat
open Go.Eng
open Go.Eng.Fc
open Go.Eng.ei
variable{p:Prog}
instance:ui Tryz.prog 23 (3,8,.int .i64 0):=⟨aM⟩
theorem aaG(n:Nat)(hn:n<4294967296):ba Tryz.prog 198 [.val (.int .u64 ((1:Nat):Int)),.val (.int .u64 (n:Int))] (.bJ [.val (.int .u64 0),.val (.int .u64 (n:Int))]):=by
 intro H;refine bh (n:=51) Tryz.func198 λB I aO=>?_;refine bS ?_;refine aG (af.bits rfl rfl rfl rfl rfl (I0 1 ad)) ?_;refine aT ?_;refine aG (af.shift rfl rfl rfl rfl rfl ad (Bm 1 ad)) ?_;refine aT ?_;refine aG (af.bits rfl rfl rfl rfl rfl (I0 _ ad)) ?_;refine aT ?_;refine aG (af.shift rfl rfl rfl rfl rfl ad (Bm _ ad)) ?_;refine bn ?_;refine aG (af.arith rfl rfl rfl rfl rfl rfl (q5 (n:=n) ad ad)) ?_;refine bn ?_;refine aG (af.arith rfl rfl rfl rfl rfl rfl (q5 (n:=0) ad ad)) ?_;refine bt ?_;refine aG (af.shift rfl rfl rfl rfl rfl ad (Bm _ ad)) ?_;refine aG (af.arith rfl rfl rfl rfl rfl rfl (q5 (n:=0) ad ad)) ?_;refine aT ?_;refine aG (af.bits rfl rfl rfl rfl rfl (I0 0 ad)) ?_;refine aT ?_;refine aG (af.shift rfl rfl rfl rfl rfl ad (Bm 0 ad)) ?_;refine bs ?_;refine aG (af.arith rfl rfl rfl rfl rfl rfl (q5 (n:=0) ad ad)) ?_;refine aG (af.arith rfl rfl rfl rfl rfl rfl (q5 (n:=0) ad ad)) ?_;refine bn ?_;refine aG (af.arith rfl rfl rfl rfl rfl rfl (q5 (n:=0) ad ad)) ?_;refine bt ?_;refine aG (af.arith rfl rfl rfl rfl rfl rfl (q5 (n:=0) ad ad)) ?_;refine bt ?_;refine aG (af.shift rfl rfl rfl rfl rfl ad (Bm 0 ad)) ?_;refine aG (af.arith rfl rfl rfl rfl rfl rfl (q5 (n:=0) ad ad)) ?_;refine bn ?_;refine aG (af.arith rfl rfl rfl rfl rfl rfl (q5 (n:=n) ad ad)) ?_;refine bI ?_;refine fR [.tmp 4,.tmp 5] (H) ?_;exact⟨eg,rfl⟩
theorem aaH(n:Nat)(hn:n<4294967296):ba Tryz.prog 168 [.val (.int .u64 ((1:Nat):Int)),.val (.int .u64 (n:Int))] (.bJ [.val (.int .u64 0),.val (.int .u64 (n:Int))]):=by
 intro H;refine bh (n:=30) Tryz.func168 λB I aO=>?_;refine bn ?_;refine aq.XL ?_;refine aT ?_;refine aG (af.call .k (aaG n hn)) ?_;refine lL ?_;refine fR [.tmp 4,.tmp 5] (H) ?_;exact⟨eg,rfl⟩
theorem aaI(n:Nat)(hn:1<=n/\n<=1000000)(H:List aj):b1 Tryz.prog 127 [.aF 1 [[(.i (-1))]],.i n] H (λy H'=>∃nb,y=(.val (.slice (some ⟨nb,0,none⟩) n n))/\H'= .aI nb 3 (List.replicate n (.i (-1)))::H) (λ_ _=>False):=by
 refine bh (n:=48) Tryz.func127 λB I aO=>?_;refine cT ?_;refine aq.cond rfl (λai=>?_) (λai=>?_)
 ·simp at ai;omega
 ·replace ai:=dZ ai;refine aT ?_;refine aG (af.zE rfl rfl rfl (q5 (n:=1) rfl ad)) ?_;refine bt ?_;refine aG (af.zE rfl rfl rfl (q5 (n:=n) rfl ad)) ?_;refine aG (af.call .k (aaH n ad)) ?_;refine kC ?_;refine aq.cond rfl (λab=>?_) (λab=>?_)
  ·simp at ab;omega
  ·replace ab:=dZ ab;refine bz ?_;refine aG (af.zE rfl rfl rfl (wrap64 (n:=(n:Int)) ad)) ?_;refine au.Ap (n) rfl rfl rfl rfl rfl rfl rfl rfl (rfl) ad lu (λnb=>?_);refine bn ?_;refine au.XO 1 rfl rfl rfl rfl rfl rfl (rM.aF (els:=[[(.i (-1))]]) (by simp[Op.operands,Call.operands]) rfl rfl (aL.refl _) bj) rfl dj dj (.head _ _ _) ?_;refine bz ?_;refine aq.kz (H':=.aI nb 3 (jW (.i (-1)) (.val (.int .i64 0)) 1 (n - 1))::H) (by rw[show (0:Nat)+1*1=1 from rfl,show 1*1=1 from rfl];rw[<-aaD _ _ _ hn.1];rfl) ?_;refine cq (λm st=>∃j:Nat,st=⟨[(8,.i j),(7,(.val (.slice (some ⟨nb,0,none⟩) n n))),(0,.aF 1 [[(.i (-1))]])],.aI nb 3 (jW (.i (-1)) (.val (.int .i64 0)) j (n - j))::H⟩/\m=n - j/\1<=j/\j<=n) (⟨1,rfl,rfl,ad,ad⟩) ?_;rintro m _ ⟨j,rfl,rfl,fv,aU⟩;refine bS ?_;refine aZ (λae=>?_) λae=>?_
   ·have akP:j<n:=by simpa using ae
    refine bg ?_;refine aq.bL mixed ?_;refine bk.Xh [⟨7,45,false⟩] (()) (λ(g:Unit) (vs:List (Option Value))=>match vs with | [none]=>.aI nb 3 (jW (.i (-1)) (.val (.int .i64 0)) j (n - j))::H | [some _]=>.aI nb 3 ((jW (.i (-1)) (.val (.int .i64 0)) j (n - j)).take (0+j*1)++(((jW (.i (-1)) (.val (.int .i64 0)) j (n - j)).drop (0+0*1)).take ((j - 0)*1)).take (min j (n - j)*1)++(jW (.i (-1)) (.val (.int .i64 0)) j (n - j)).drop (0+j*1+min j (n - j)*1))::H | _=>[]) 0 8 48 rfl ay ay rfl rfl ay rfl ?_;refine bp.sU [[true],[false]] rfl ay rfl rfl rfl ⟨λg f=>af.move rfl rfl rfl,λg f=>af.move rfl rfl rfl,trivial⟩ ?_;refine bp.sU [[false]] rfl ay rfl rfl rfl ⟨λg f=>af.move rfl rfl rfl,trivial⟩ ?_;refine bp.sU [[false]] rfl ay rfl rfl rfl ⟨λg f=>af.move rfl rfl rfl,trivial⟩ ?_;refine bp.sU [[false]] rfl ay rfl rfl rfl ⟨λg f=>af.Nz (kh:=.i64) (l:=j) (m:=n) rfl rfl rfl rfl rfl rfl rfl ad ad ad,trivial⟩ ?_;refine bp.sU [[false]] rfl ay rfl rfl rfl ⟨λg f=>af.move rfl rfl rfl,trivial⟩ ?_;refine bp.sU [[false]] rfl ay rfl rfl rfl ⟨λg f=>af.move rfl rfl rfl,trivial⟩ ?_;refine bp.sU [[false]] rfl ay rfl rfl rfl ⟨λg f=>af.Nz (kl:=.i64) (l:=0) (m:=j) rfl rfl rfl rfl rfl rfl rfl ad ad ad,trivial⟩ ?_;refine bp.Hb 0 [[false]] rfl rfl rfl ay rfl rfl rfl ⟨λg f=>jD.copy () (min j (n - j)) rfl rfl rfl (rM.aI (by simp[Op.operands,Call.operands]) rfl rfl (.head _) (by rw[QQ];omega)) (by rw[Nat.zero_add,Nat.zero_mul,List.drop_zero,Nat.sub_zero,Nat.mul_one];exact aaF _ _ _ _ rfl rfl) ad (by rw[QQ];omega) (λv=>.head _ _ _),trivial⟩ ?_;refine bp.nil (λg f=>?_);simp only[cg.kS,List.map_cons,List.map_nil,List.cons_append,List.nil_append];refine bz ?_;refine aR.kz (H':=.aI nb 3 (jW (.i (-1)) (.val (.int .i64 0)) (j+min j (n - j)) (n - (j+min j (n - j))))::H) (by rw[Nat.zero_add,Nat.zero_add,Nat.zero_mul,Nat.mul_one,Nat.mul_one,Nat.mul_one,List.drop_zero,Nat.sub_zero,aaC _ _ _ _ _ ad ad,Nat.sub_sub]) ?_;refine aR.le 8 (y:=.i (j+min j (n - j):Nat)) rfl (aL.dx ad) ?_;exact bV ⟨j+min j (n - j),rfl,rfl,ad,ad⟩
   ·obtain rfl:j=n:=by simp at ae;omega
    refine cT ?_;refine aS 4 (.aI nb 3 (jW (.i (-1)) (.val (.int .i64 0)) j (j - j))::H) ?_;exact⟨nb,eg,by rw[Nat.sub_self,aaE]⟩
instance:AG Tryz.prog 174:=⟨aM⟩
instance:AG Tryz.prog 176:=⟨aM⟩
abbrev jl(dL nb n:Nat)(o:List Int):List aj:=[.aI dL 23 [(.val (.slice (some ⟨nb,0,none⟩) n n))],.aI nb 3 ((o).map aa.i)]
theorem aaJ{next:Bool}{out:List Int}{hf:cd}{pre:List cd}{x:cd}(aN:hf.bL=1)(h:pre++[x]<+:(visit p next 13 hf out).1):
  (fS p next x (iD pre out)=true/\(pre++[x]=(visit p next 13 hf out).1->(visit p next 13 hf out).2.isNone=false))\/(fS p next x (iD pre out)=false/\pre++[x]=(visit p next 13 hf out).1/\(visit p next 13 hf out).2.isNone=true):=by
 have aC:=yv (p:=p) (next:=next) 13 hf out ad;rcases Classical.em (pre++[x]=(visit p next 13 hf out).1/\(visit p next 13 hf out).2=none) with⟨ab,ae⟩ | ab
 ·exact .inr ⟨aC.no pre x ab ae,ab,by rw[ae];rfl⟩
 ·refine .inl ⟨aC.yes pre x h ab,λe=>?_⟩;cases aK:(visit p next 13 hf out).2 with
  | none=>exact absurd ⟨e,aK⟩ ab
  | some o=>rfl
theorem QR{x:ew}{bx:Int}(h:jo x.op=some none)(hn:hI p x bx=true):0<=x.n/\x.n<p.du.length:=by
 have bl:x.op=5:=by
  unfold jo at h
  repeat' split at h
  all_goals first | assumption | (simp at h;done)
 unfold hI sl at hn;rw[if_neg ad,if_neg ad,if_neg ad,if_neg ad,if_pos bl] at hn;simpa using hn
theorem QS{n:Nat}(hn:n=p.nodes.length)(k size:Int)(next:Bool)(aH:0<=size/\size<=1000)(out:List Int)(aA:out.length=n)(aaK:p.aY.length<=100)(dL nb:Nat)(H:List aj):
  b1 Tryz.prog 128 [.i k,.i size,.b next,.ptr (dF p),.p dL 0] (jl dL nb n out++H) (λ_ H'=>(visit p next 13 (⟨k,size,1⟩:cd) out).2.isNone=false/\H'=jl dL nb n (iD (visit p next 13 (⟨k,size,1⟩:cd) out).1 out)++H) (λy H'=>y=uI/\(visit p next 13 (⟨k,size,1⟩:cd) out).2.isNone=true/\∃o',H'=jl dL nb n o'++H):=by
 refine b1.N4 (n:=86) Tryz.func128 rfl aM rfl rfl (λB I aO=>?_);refine eI.seq ?_;refine aq.nJ ?_;refine bg ?_;refine eI.done ?_;refine eI.seq ?_;refine aq.nJ ?_;refine bz ?_;refine aG (af.call .k (below p (⟨k,size,1⟩:cd))) ?_;refine bt ?_;refine eI.done ?_;refine eI.block ?_;refine eI.N5 Tryz.func128 (λx=>.i x.n) (wg) ((visit p next 13 (⟨k,size,1⟩:cd) out).1) ((visit p next 13 (⟨k,size,1⟩:cd) out).2.isNone) (λpre H=>H=jl dL nb n (iD pre out)) (λy H=>y=uI/\∃o',H=jl dL nb n o') (jl dL nb n out) ([]) (H) (λ_=>True) (λx=>[(9,.ptr [.i x.bx,.i x.bL]),(8,.i x.n),(7,.ptr [.b next]),(3,.ptr (dF p)),(4,.p dL 0)]) rfl rfl rfl rfl rfl (aaB B p next (⟨k,size,1⟩:cd) out rfl (by show _<=size/\size<=_;omega)) (rfl) (λy H h=>⟨wx,h.1.symm▸fm⟩) ?_ ?_ ?_ ?_
 ·intro eJ iY fA x c0;refine aT ?_;refine au.cG rfl rfl rfl rfl (λfo=>?_);refine bC ?_;refine aR.ep (d:=9) rfl (hq.head _ _) ?_;exact λa w s=>⟨_,rfl,s.weaken (j3 h2) (List.Sublist.refl _)⟩
 ·intro eJ eK dw pre x H1 c0 iY fA e9 bF;obtain rfl:=bF;obtain⟨C,sr⟩:∃C,C=iD pre out:=⟨_,rfl⟩;have akQ:C.length=n:=by rw[sr,yw,aA]
  have vf:=aaJ rfl e9;rw[<-sr] at vf ⊢;have eY:=PB (p:=p) (next:=next) 13 (⟨k,size,1⟩:cd) out dJ (by unfold wj;simp only[];omega) x (e9.subset bj);unfold wj at eY;refine fk ?_;refine au.cb rfl rfl rfl rfl rfl rfl (λal=>af.m6 rfl rfl (cL al) rfl (cL al) tI) ?_;refine au.cb rfl rfl rfl rfl rfl rfl (λal=>(by first | exact af.eN rfl rfl (cL al) rfl | (apply af.lr rfl rfl (cL al);(case hm=>exact .tail _ (.tail _ (.tail _ (.head _))));(case hy=>exact YZ tI)))) ?_;refine bn ?_;cases hL:nT p x C
  ·refine au.m7 rfl rfl (.mk' rfl rfl rfl rfl rfl) (nd (by simp only[Bool.cond_false_right,ge_iff_le];exact hL) _) fm ?_;rcases vf with⟨ab,_⟩ | ⟨_,ae,aD⟩
   ·rw[YU hL] at ab;cases ab
   ·intro a w s;exact aR.AF (J:=λpre H=>H=jl dL nb n (iD pre out)) (H:=jl dL nb n (C)) b8 fm ae aD ⟨rfl,_,rfl⟩ a w s
  ·refine au.nG rfl rfl rfl (.mk' rfl rfl rfl rfl rfl) (nW (by simp only[Bool.cond_false_right,ge_iff_le];exact hL) _) ?_;obtain⟨vc,xF⟩:=PD hL;refine bs ?_;refine aG (af.m6 rfl rfl rfl rfl rfl ad) ?_;apply au.j9 rfl rfl rfl rfl rfl rfl rfl rfl rfl rfl
   (case hu=>repeat (first | exact bu.head _ _ _ | apply bu.tail));(case hfit=>exact Nat.ble_eq_true_of_le qn);(case hds=>exact Y0 ad)
   refine bn ?_;refine aG (Cw) ?_;refine bt ?_;refine au.cG rfl rfl rfl rfl (λuw=>?_);refine bS ?_;refine aG (af.call .k (number p aaK (gq p x) x.bx)) ?_;refine bs ?_;cases cU:(hI p (gq p x) x.bx && (next || (gq p x).op !=18))
   ·refine au.m7 rfl rfl (.mk' rfl rfl rfl rfl rfl) (nd (by simp only[Bool.cond_false_right,Bool.cond_true_left];exact cU) _) fm ?_;rcases vf with⟨ab,_⟩ | ⟨_,ae,aD⟩
    ·rw[YV cU] at ab;cases ab
    ·intro a w s;exact aR.AF (J:=λpre H=>H=jl dL nb n (iD pre out)) (H:=jl dL nb n (jU C x)) b8 fm ae aD ⟨rfl,_,rfl⟩ a w s
   ·refine au.nG rfl rfl rfl (.mk' rfl rfl rfl rfl rfl) (nW (by simp only[Bool.cond_false_right,Bool.cond_true_left];exact cU) _) ?_;refine aT ?_;rcases qd:jo (gq p x).op with _ | _ | dV
    ·refine aG (af.call .k (show ba Tryz.prog 131 [.i (gq p x).op] (.val .nilIface) from by have h:=IN (gq p x).op;rw[qd] at h;exact h)) ?_;refine bz ?_;refine aG (xE) ?_;refine bC ?_;refine aG (xE) ?_;refine bz ?_;refine aq.cond rfl (λai=>?_) (λai=>?_)
     ·simp at ai
     ·replace ai:=dZ ai;refine aT ?_
      ·refine au.m7 rfl rfl (.mk' rfl rfl rfl rfl rfl) (nd (rfl) _) fm ?_;rcases vf with⟨ab,_⟩ | ⟨_,ae,aD⟩
       ·rw[YW qd] at ab;cases ab
       ·intro a w s;exact aR.AF (J:=λpre H=>H=jl dL nb n (iD pre out)) (H:=jl dL nb n (jU C x)) b8 fm ae aD ⟨rfl,_,rfl⟩ a w s
    ·refine aG (af.call .k (show ba Tryz.prog 131 [.i (gq p x).op] (.iface 176 (.agg [])) from by have h:=IN (gq p x).op;rw[qd] at h;exact h)) ?_;have cA:=YY hL cU qd;obtain⟨Vt,sn⟩:=QR qd (Bool.and_eq_true_iff.1 cU).1;refine bz ?_;refine aG (xE) ?_;refine bC ?_;refine aG (xE) ?_;refine bz ?_;refine aq.cond rfl (λab=>?_) (λab=>?_)
     ·replace ab:=dZ ab;refine bz ?_;refine aq.bL mixed ?_;refine bk.b7 0 7 86 rfl ay rfl rfl ay ?_;refine aT ?_;refine bU.bB rfl rfl rfl LL ?_;refine bg ?_;cases ru:fS p next x C
      ·refine au.m7 rfl rfl (.mk' rfl rfl rfl rfl rfl) (nd CQ _) fm ?_;rcases vf with⟨ab,_⟩ | ⟨_,ae,aD⟩
       ·rw[ru] at ab;cases ab
       ·intro a w s;exact aR.AF (J:=λpre H=>H=jl dL nb n (iD pre out)) (H:=jl dL nb n (jU C x)) b8 fm ae aD ⟨rfl,_,rfl⟩ a w s
      ·refine au.nG rfl rfl rfl (.mk' rfl rfl rfl rfl rfl) (nW CQ _) ?_;refine bg ?_;exact aR.Dy (H:=jl dL nb n (jU C x)) b8 Mg (by rw[PA, <-sr])
     ·simp at ab
    ·refine aG (af.call .k (show ba Tryz.prog 131 [.i (gq p x).op] (.iface 174 (.i dV)) from by have h:=IN (gq p x).op;rw[qd] at h;exact h)) ?_;have cA:=YX hL cU qd;refine bz ?_;refine aG (xE) ?_;refine bC ?_;refine aG (xE) ?_;refine bz ?_;refine aq.cond rfl (λae=>?_) (λae=>?_)
     ·replace ae:=dZ ae;refine bz ?_;refine aq.bL mixed ?_;refine bk.b7 0 7 86 rfl ay rfl rfl ay ?_;refine aT ?_;refine bU.bB rfl rfl rfl LL ?_;refine bg ?_;cases ru:fS p next x C
      ·refine au.m7 rfl rfl (.mk' rfl rfl rfl rfl rfl) (nd CQ _) fm ?_;rcases vf with⟨ab,_⟩ | ⟨_,ae,aD⟩
       ·rw[ru] at ab;cases ab
       ·intro a w s;exact aR.AF (J:=λpre H=>H=jl dL nb n (iD pre out)) (H:=jl dL nb n (jU C x)) b8 fm ae aD ⟨rfl,_,rfl⟩ a w s
      ·refine au.nG rfl rfl rfl (.mk' rfl rfl rfl rfl rfl) (nW CQ _) ?_;refine bg ?_;exact aR.Dy (H:=jl dL nb n (jU C x)) b8 Mg (by rw[PA, <-sr])
     ·simp at ae
 ·intro eK H1 I1 nL xW bF;obtain rfl:=bF;refine aR.wi (H':=.obj eK (.deferred (some []))::(jl dL nb n (iD (visit p next 13 (⟨k,size,1⟩:cd) out).1 out)++H)) (.cons_cons _ (.append_left (List.sublist_append_right _ _) _)) ?_;refine bt ?_;refine aR.C7 (rs:=[]) (H':=jl dL nb n (iD (visit p next 13 (⟨k,size,1⟩:cd) out).1 out)++H) rfl ey (.nil) (bO.refl _) b8 ?_;exact⟨nL,rfl⟩
 ·intro eK y H1 I1 nL wG iY v1 cI fA oE gI;obtain⟨rfl,cV,rfl⟩:=wG;rw[fm.is _ _ _ gI];exact Xf fm (hq.head _ _) (.append_left (List.sublist_append_right _ _) _) ⟨rfl,nL,cV,rfl⟩ cI fA oE
end Go.Proofs.YtodccgailpkgeaaGreat

