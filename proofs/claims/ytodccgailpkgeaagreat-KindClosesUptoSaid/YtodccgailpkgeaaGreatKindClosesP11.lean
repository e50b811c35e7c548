/- A part of the proof. No condition. -/
import Derived.Test.YtodccgailpkgeaaGreatKindClosesP10
set_option linter.defProp false
set_option maxHeartbeats 1000000
set_option linter.unusedVariables false
set_option linter.unusedSimpArgs false
set_option maxRecDepth 10000
namespace Go.Proofs.YtodccgailpkgeaaGreat
open Go.Proofs.Tryz
open Go.Eng
open Go.Eng.Fc
open Go.Eng.dO
variable{α:Type}{B i s k off j:Nat}{f:Fn}{cA cs:bl}{F:aC->Prop}{J Jx:List Fact->aC->Prop}{iH:aC}{p:Int->Bool}{l:al}{W:bx}{deep left v:Int}{U Df:du}{jv:ab->aC->Prop}
def Dg[Inhabited α]{l:List α}{k}(h:k<l.length):l=l.take k++l.getD k default::l.drop (k+1):=by
 rw[List.getD_eq_getElem?_getD,List.getElem?_eq_getElem h];simp
def Zp{J Jx}(l)(j:uJ B prog (.fn f cA cs) .i l F J Jx)(H Hx)(hF:F Hx)(h:J [] H):
  eM B prog 50 [.aj 1 (l.map λn=>[.i n]),.fn f cA cs] (H++Hx) (wM J Jx l Hx) (λ_ _=>False):=by
 refine .of func50 rfl ax rfl rfl λI q=>?_;refine .ez (t:=0) rfl λgP=>?_;refine c6 ?_;refine bm (λm o=>∃(k:Nat) (a:aC),o=⟨[(8,.i k),(7,.i l.length),(0,.aj 1 (l.map λn=>[.i n])),(1,.fn f cA cs)],a++Hx⟩/\m=l.length - k/\k<=l.length/\J (l.take k) a) ⟨0,H,rfl,rfl,aT,h⟩ ?_;rintro m _ ⟨k,a,rfl,rfl,r,kE⟩;refine ay ?_;refine az (λaf=>?_) λaf=>?_
 ·refine gv ?_;refine .oa rfl rfl rfl rfl rfl rfl rfl rfl cL (j (l.take k) (l.getD k default) a Hx Bz hF kE) ?_;rintro _ _ ⟨b,g,rfl,rfl,c,qC⟩;rw[c3 aa] at c qC;refine aQ ?_;refine az (λae=>?_) λae=>?_
  ·refine bS ?_;refine .cl (rs:=[.tmp 4]) rfl eR cL bE ?_;exact⟨g,rfl,.inr ⟨l.take k,l.getD k default,l.drop (k+1),Dg aa,fJ BB,BG⟩⟩
  ·refine aP ?_;exact aU ⟨k+1,g,rfl,rfl,aa,c ae⟩
 ·refine bA ?_;refine .cl (rs:=[.tmp 4]) rfl eR cL bE ?_;exact⟨a,rfl,.inl ⟨rfl,Bu⟩⟩
def Zq(g:nu prog iH (.fn f cA cs) .i l p):y0 prog iH 50 [.aj 1 (l.map λn=>[.i n]),.fn f cA cs] (λy=>∃n:Int,y= .i n/\decide (n>=0)=l.any p):=
 FZ ax (λB F J m h H a j c=>Zp l h H a j c) g
def Pf(g:nu prog iH (.fn f cA cs) .i l p):hS prog iH 24 [.aj 1 (l.map λn=>[.i n]),.fn f cA cs] (.b (l.any p)):=by
 intro H h;refine aM func24 λB I j=>?_;refine a8 ?_;refine .Gc rfl rfl rfl .k (Zq g) h λy c=>?_;obtain⟨n,rfl,a⟩:=c;refine aS ?_;refine aB 4 H ?_;exact⟨bn a,rfl⟩
def Zr(a:n6 prog (.fn f cA cs) .i p)(l:al):aI prog 24 [.aj 1 (l.map λn=>[.i n]),.fn f cA cs] (.b (l.any p)):=(Pf (a.on l)).pure
def Zs(g:nu prog iH (.fn f cA cs) .i l p)(x)(c:x∈l):hS prog iH 200 [.i x,.ptr [.fn f cA cs]] (.b (!p x)):=by
 intro H h;refine aM func200 λB I m=>?_;refine a8 ?_;refine .oa rfl rfl rfl rfl rfl rfl rfl rfl cL (g x c B H h) ?_;rintro _ j ⟨rfl,a⟩;have a:=a.symm;subst a;refine aS ?_;refine aB 3 (H) ?_;exact⟨dP,rfl⟩
def Pg(c:nu prog iH (.fn f cA cs) .i l p):hS prog iH 174 [.aj 1 (l.map λn=>[.i n]),.fn f cA cs] (.b (l.all p)):=by
 intro H h;refine aM func174 λB I j=>?_;refine bQ ?_;refine ag (.h2 .k cL (Pf (.of λx a=>Zs c x a)) (λe g=>by repeat (first | exact h e g | apply List.mem_cons_of_mem))) ?_;refine aS ?_;refine aB 4 H ?_;exact⟨bn (by simp[List.not_any_eq_all_not]),rfl⟩
def Ph(a:n6 prog (.fn f cA cs) .i p)(l:al):aI prog 174 [.aj 1 (l.map λn=>[.i n]),.fn f cA cs] (.b (l.all p)):=(Pg (a.on l)).pure
def Zt(l)(j:uJ B prog (.fn f cA cs) ab.fact l F J Jx)(H Hx)(hF:F Hx)(h:J [] H):
  eM B prog 262 [.aj 6 (kG l),.fn f cA cs] (H++Hx) (wM J Jx l Hx) (λ_ _=>False):=by
 refine .of func262 rfl ax rfl rfl λI q=>?_;refine .ez (t:=0) rfl λgP=>?_;refine c6 ?_;refine bm (λm o=>∃(k:Nat) (a:aC),o=⟨[(8,.i k),(7,.i l.length),(0,.aj 6 (kG l)),(1,.fn f cA cs)],a++Hx⟩/\m=l.length - k/\k<=l.length/\J (l.take k) a) ⟨0,H,rfl,rfl,aT,h⟩ ?_;rintro m _ ⟨k,a,rfl,rfl,r,kE⟩;refine ay ?_;refine az (λaf=>?_) λaf=>?_
 ·refine gv ?_;refine .oa rfl rfl rfl rfl rfl rfl rfl rfl (c5.refl _) (j (l.take k) (l.getD k default) a Hx Bz hF kE) ?_;rintro _ _ ⟨b,g,rfl,rfl,c,qC⟩;rw[c3 aa] at c qC;refine aQ ?_;refine az (λae=>?_) λae=>?_
  ·refine bS ?_;refine .cl (rs:=[.tmp 4]) rfl eR cL bE ?_;exact⟨g,rfl,.inr ⟨l.take k,l.getD k default,l.drop (k+1),Dg aa,fJ BB,BG⟩⟩
  ·refine aP ?_;exact aU ⟨k+1,g,rfl,rfl,aa,c ae⟩
 ·refine bA ?_;refine .cl (rs:=[.tmp 4]) rfl eR cL bE ?_;exact⟨a,rfl,.inl ⟨rfl,Bu⟩⟩
def Dh(s)(c)(f:0<=c)(a:s<18446744073709551616):aI prog 137 [ab.set s,.i c] (.b (s.testBit c.toNat)):=by
 intro H;refine aM func137 λB I g=>?_;refine a8 ?_;refine ag (.shift rfl rfl rfl rfl rfl f (No _ _)) ?_;refine ag (.bits rfl rfl rfl rfl rfl (zH _ 1 (Nat.lt_of_le_of_lt (Nat.div_le_self _ _) a) aa)) ?_;refine aS ?_;refine aB 4 H ?_;exact⟨bn (GR _ _ a),rfl⟩
def vk(s)(c)(f:0<=c/\c<64)(g:s<18446744073709551616):aI prog 173 [ab.set s,.i c] (ab.set (s ||| 2^c.toNat)):=by
 intro H;refine aM func173 λB I h=>?_;refine a8 ?_;refine ag (.shift rfl rfl rfl rfl rfl f.1 (Np _ f)) ?_;refine ag (ad.bits rfl rfl rfl rfl rfl (u0 _ _ g (Nat.pow_lt_pow_right (a:=2) (n:=64) aa aa))) ?_;refine aV ?_;refine aB 4 (H) ?_;exact⟨dP,rfl⟩
def Pj(f):aI prog 243 [ab.fact f] (.b (decide (2<=f.op) && decide (f.op<=4))):=by
 intro H;refine aM func243 λB I a=>?_;refine iY ?_;refine aB 2 H ?_;exact⟨bn (by by_cases h:2<=f.op <;> simp[h]),rfl⟩
def Pk(f):aI prog 150 [ab.fact f] (.b (f.op==2 || f.op==3 || f.op==4)):=by
 intro H;refine aM func150 λB I c=>?_;refine zy ?_;refine aB 2 H ?_;exact⟨bn (by by_cases h:f.op=2 <;> by_cases a:f.op=3 <;> simp[h,a]),rfl⟩
def Zu(op):aI prog 242 [.i op] (.i (if op=5 then 1 else if op=6\/op=7 then 2 else 0)):=by
 intro H;refine aM func242 λB I a=>?_;refine jR ?_;refine az (λaf=>?_) λaf=>?_
 ·refine aJ ?_;refine aB 2 H ?_;exact⟨dP,rfl⟩
 ·refine aP ?_;refine az (λae=>?_) λae=>?_
  ·refine aQ ?_;refine az (λak=>?_) λak=>?_
   ·refine aJ ?_;refine aB 2 (H) ?_;exact⟨dP,rfl⟩
   ·refine a8 ?_;refine aB 2 (H) ?_;exact⟨dP,rfl⟩
  ·refine aS ?_;refine az (λaL=>?_) λaL=>?_
   ·refine aJ ?_;refine aB 2 (H) ?_;exact⟨dP,rfl⟩
   ·refine a8 ?_;refine aB 2 (H) ?_;exact⟨dP,rfl⟩
def Zv(W)(c)(f:W.parents.length<=60):aI prog 175 [ja W,.i c] (.b (sh W c)):=by
 intro H;refine aM func175 λB I a=>?_;unfold ja;refine .FY (t:=0) (i:=0) rfl rfl λba=>?_;refine w9 ?_;refine aB 4 H ?_;exact⟨bn (by unfold sh;by_cases h:3<=c <;> simp[h]),rfl⟩
def Hz(W)(c)(f:W.parents.length<=60):aI prog 136 [ja W,.i c] (.b (jr W c)):=by
 intro H;refine aM func136 λB I a=>?_;unfold ja;refine .FY (t:=0) (i:=0) rfl rfl λba=>?_;refine w9 ?_;refine aB 4 H ?_;exact⟨bn (by unfold jr;by_cases h:0<=c <;> simp[h]),rfl⟩
def Zw(W)(c):aI prog 263 [ja W,.i c] (.b (pc W c)):=by
 intro H;refine aM func263 λB I a=>?_;unfold ja;refine o9 ?_;refine aB 4 H ?_;exact⟨bn (by unfold pc;by_cases h:0<=c <;> simp[h]),rfl⟩
def Zx(W)(c)(f:W.parents.length<=60):aI prog 184 [ab.world W,.i c] (.b (jr W c)):=by
 intro H;refine aM func184 λB I a=>?_;refine .n9 (t:=0) (i:=0) rfl rfl λba=>?_;refine nz ?_;refine aB 4 H ?_;exact⟨bn (by unfold jr;by_cases h:0<=c <;> simp[h]),rfl⟩
def Zy{J Jx:List α->aC->Prop}{l:List α}{Hx}{y}{H'}(h:wM J Jx l Hx y H'):∃(n:Int) (c:aC),y= .i n/\H'=c++Hx/\(decide (n>=0)=false->J l c)/\(decide (n>=0)=true->∃a,a<+:l/\Jx a c):=by
 obtain⟨c,rfl,h⟩:=h;rcases h with⟨rfl,h⟩ | ⟨a,x,rest,rfl,rfl,h⟩
 ·exact⟨-1,c,rfl,rfl,λ_=>h,λh=>by simp at h⟩
 ·exact⟨a.length,c,rfl,rfl,λh=>by simp at h,λ_=>⟨a++[x],⟨rest,aT⟩,h⟩⟩
def Zz(l)(m:uJ B prog (.fn f cA cs) ab.fact l F J Jx)(H Hx)(hF:F Hx)(o:J [] H):
  eM B prog 240 [.aj 6 (kG l),.fn f cA cs] (H++Hx) (λy g=>∃b a,y= .b b/\g=a++Hx/\(b=false->J l a)/\(b=true->∃c,c<+:l/\Jx c a)) (λ_ _=>False):=by
 refine .of func240 rfl ax rfl rfl λI q=>?_;refine a8 ?_;refine cI .k (Zt l m H Hx hF o) ?_;intro y g j;obtain⟨n,a,rfl,rfl,h⟩:=Zy j;refine aS ?_;refine .cl (rs:=[.tmp 4]) rfl eR cL bE ?_;exact⟨decide (n>=0),a,rfl,rfl,h⟩
def ZA{L}(g:o0 B prog (.fn f cA cs) ab.fact L (λ_=>True) J Jx)(pre)(x)(H Hx)(c:pre++[x]<+:L)(j:J pre H):
  eM B prog 241 [ab.fact x,.ptr [.fn f cA cs]] (H++Hx) (λy m=>∃b a,y= .b b/\m=a++Hx/\(b=false->J (pre++[x]) a)/\(b=true->Jx (pre++[x]) a)) (λ_ _=>False):=by
 refine .of func241 rfl ax rfl rfl λI q=>?_;refine bQ ?_;refine .oa rfl rfl rfl rfl rfl rfl rfl rfl cL (g pre x H Hx c trivial j) ?_;rintro _ _ ⟨b,a,rfl,rfl,o,l⟩;refine aS ?_;refine .cl (rs:=[.tmp 3]) rfl eR cL bE ?_;exact⟨!b,a,rfl,rfl,λh=>o gU,λh=>l gU⟩
def HA(l)(o:o0 B prog (.fn f cA cs) ab.fact l (λ_=>True) J Jx)(H Hx)(j:J [] H):
  eM B prog 215 [.aj 6 (kG l),.fn f cA cs] (H++Hx) (λy r=>∃b g,y= .b b/\r=g++Hx/\(b=true->J l g)/\(b=false->∃pre,pre<+:l/\Jx pre g)) (λ_ _=>False):=by
 refine .of func215 rfl ax rfl rfl λI t=>?_;refine bQ ?_;refine cI .k (Zz (F:=λ_=>True) (J:=J) (Jx:=Jx) l (λpre x H Hx m _ j=>eZ.r0 (ZA o pre x H Hx m j)) H Hx trivial j) ?_;rintro _ _ ⟨b,g,rfl,rfl,q,s⟩;refine aS ?_;refine .cl (rs:=[.tmp 4]) rfl eR cL bE ?_;exact⟨!b,g,rfl,rfl,λh=>q gU,λh=>s gU⟩
def ZB(W)(l):aI prog 244 [ja W,.ints l] (.b (pe W l)):=by
 intro H;refine aM func244 λB I a=>?_;refine .ez (t:=1) rfl λba=>?_;refine c6 ?_;refine ai.cG rfl rfl rfl rfl rfl rfl (λav=>.call (.mk' rfl rfl rfl rfl cU) (Ph (.of (Zw W)) l)) ?_;refine aS ?_;refine aB 4 H ?_;exact⟨bn (by unfold pe;by_cases h:l.length<=2 <;> simp[h] <;> omega),rfl⟩
def Aa(B:Nat)(W:bx)(deep:Int):Prop:=∀(f:Fact) (left:Int) (b:Nat) (Hx:aC),0<=left/\left<=1000->
 eM B prog 217 [ja W,ab.fact f,.p b 0,.i deep] (.au b 3 [.i left]::Hx) (λy H'=>y= .b (fz W f left deep).1/\H'= .au b 3 [.i (fz W f left deep).2]::Hx) (λ_ _=>False)
def ZC(j:0<deep/\deep<=1000)(a:Aa B W (deep - 1))(f)(left)(b)(Hx)(c:0<=left/\left<=1000):
  eM B prog 245 [ab.fact f,.ptr [ja W],.ptr [.p b 0],.ptr [.i deep]] (.au b 3 [.i left]::Hx) (λy g=>y= .b (fz W f left (deep - 1)).1/\g= .au b 3 [.i (fz W f left (deep - 1)).2]::Hx) (λ_ _=>False):=by
 refine .of func245 rfl ax rfl rfl (λI h=>?_);refine di ?_;refine cI .k (a f left b Hx c) ?_;rintro _ _ ⟨rfl,rfl⟩;refine aV ?_;refine aZ.cl (rs:=[.tmp 5]) rfl (.tmp rfl (.nil)) (c5.refl _) bE ?_;exact⟨rfl,rfl⟩
def ZD(o:0<deep/\deep<=1000)(g:Aa B W (deep - 1))(left)(j:0<=left/\left<=1000)(b)(L):
  o0 B prog (.fn (.func 245) [] [.ptr [ja W],.ptr [.p b 0],   .ptr [.i deep]]) ab.fact L (λ_=>True) (λpre H=>H= [.au b 3 [.i (en W pre left (deep - 1)).2]]/\(en W pre left (deep - 1)).1=true) (λpre H=>H= [.au b 3 [.i (en W pre left (deep - 1)).2]]/\(en W pre left (deep - 1)).1=false):=by
 rintro pre x H l _ _ ⟨rfl,f⟩;have m:=GU W pre left (deep - 1) j.1;refine eZ.mono (eZ.r0 (ZC o g x _ b l ⟨m.2 f,aa⟩)) ?_ (λ_ _ h=>h);rintro _ _ ⟨rfl,rfl⟩;have c:=Nt W (deep - 1) x pre left f;exact⟨_,[.au b 3 [.i (fz W x (en W pre left (deep - 1)).2 (deep - 1)).2]],rfl,rfl,λh=>⟨by rw[c],by rw[c];exact h⟩,λh=>⟨by rw[c],by rw[c];exact h⟩⟩
def ZE{l}{b}{f}{h:aC}(o:f=true->h= [.au b 3 [.i (en W l left (deep - 1)).2]]/\(en W l left (deep - 1)).1=true)
  (m:f=false->∃a,a<+:l/\h= [.au b 3 [.i (en W a left (deep - 1)).2]]/\(en W a left (deep - 1)).1=false):f=(en W l left (deep - 1)).1/\h= [.au b 3 [.i (en W l left (deep - 1)).2]]:=by
 cases f with
 | true=>obtain⟨j,g⟩:=o rfl;exact⟨g.symm,j⟩
 | false=>
  obtain⟨a,⟨c,rfl⟩,j,g⟩:=m rfl;rw[Nu W (deep - 1) c a left g];exact⟨g.symm,j⟩
def ZF{f}(h:jb f left deep=false)(c:0<=deep)(a:left<=1000):(0<=left/\left<=1000)/\0<deep:=by
 simp[jb,Bool.or_eq_false_iff,decide_eq_false_iff_not,beq_eq_false_iff_ne,ne_eq] at h;omega
def ZG{f}(h:jb f (left - 1) deep):fz W f left deep=(false,left - 1):=by rw[CU,if_pos h]
def ZH{f}(h:jb f (left - 1) deep=false)(a:dp f):fz W f left deep=(jx W f && kO W f,left - 1):=by rw[CU,if_neg ck,if_pos a]
def ZI{f}(h:jb f (left - 1) deep=false)(ae:dp f=false)(a:jw f=false):fz W f left deep=(false,left - 1):=by rw[CU,if_neg ck,if_neg rQ,if_neg (by simp[a])]
def ZJ{f}(h:jb f (left - 1) deep=false)(ae:dp f=false)(a:jw f):fz W f left deep=en W f.kids (left - 1) (deep - 1):=by rw[CU,if_neg ck,if_neg rQ,if_pos a]
def ZK{f}(h:f.op=2):kO W f=((f.n==0) && jr W f.cls):=by rw[kO,if_pos h]
def ZL{f}(h: ¬f.op=2):kO W f=((f.cls==0) && decide (f.n>= -1000000000) && decide (f.n<=1000000000)):=by rw[kO,if_neg h]
def kr(a b):(bif a then b else false)=(a && b):=by cases a <;> rfl
def Pl(I:W.parents.length<=60)(m:0<=deep/\deep<=1000)(w:0<deep->Aa B W (deep - 1)):Aa B W deep:=by
 intro f left b r E;refine .of func217 rfl ax rfl rfl λI H=>?_;refine .n9 (t:=1) (i:=5) rfl rfl λZM=>?_;refine .n9 (t:=1) (i:=2) rfl rfl λZN=>?_;refine o8 ?_;refine .cu mixed ?_;refine XS ?_;refine .dk 19 25 110 rfl ao rfl rfl ao ?_;refine aS ?_;refine ed.cG rfl rfl rfl rfl rfl (λav=>.call (.mk' rfl rfl rfl rfl cU) ((Zu _))) ?_;refine ay ?_;refine bc (λaf=>?_) λaf=>?_
 ·have a:jb f (left - 1) deep=true:=by simpa only[jb,eO,kj] using af
  have hn:=ZG (W:=W) a;refine aP ?_;refine .cl (rs:=[.tmp 8]) rfl eR cL bE ?_;exact⟨bn (by rw[hn]),tc⟩
 ·have a:jb f (left - 1) deep=false:=by simpa only[jb,eO,kj] using af
  obtain⟨l,j⟩:=ZF a m.1 aa;refine aP ?_;refine ag (.call .k ((Pj _))) ?_;refine aV ?_;refine bc (λae=>?_) λae=>?_
  ·have g:dp f=false:=by simpa only[dp,Bool.not_eq_true'] using ae
   refine o9 ?_;refine bc (λak=>?_) λak=>?_
   ·have c:jw f=false:=by rw[jw,Bool.not_eq_false'];simpa only[eO] using ak
    have hn:=ZI (W:=W) a g c;refine aJ ?_;refine .cl (rs:=[.tmp 8]) rfl eR cL bE ?_;exact⟨bn (by rw[hn]),tc⟩
   ·have c:jw f=true:=by rw[jw,Bool.not_eq_true'];simpa only[eO] using ak
    have hn:=ZJ (W:=W) a g c;refine aJ ?_;refine cI .k (HA f.kids (ZD ⟨j,m.2⟩ (w j) (left - 1) l b _) [.au b 3 [.i (left - 1)]] r zz) ?_;rintro _ _ ⟨G,F,rfl,rfl,D,v⟩;obtain⟨q,A⟩:=ZE D v;subst A;refine aV ?_;refine .cl (rs:=[.tmp 8]) rfl eR cL bE ?_;exact⟨bn (by rw[hn];exact q),tc⟩
  ·have g:dp f=true:=by simpa only[dp,Bool.not_eq_false'] using ae
   have hn:=ZH (W:=W) a g;refine c6 ?_;refine ai.cG rfl rfl rfl rfl rfl rfl (λav=>.call (.mk' rfl rfl rfl rfl cU) ((ZB _ _))) ?_;refine aS ?_;refine bc (λaL=>?_) λaL=>?_
   ·have h:jx W f=false:=by rw[jx,Bool.not_eq_false'];simpa only[eO] using aL
    refine aJ ?_;refine .cl (rs:=[.tmp 8]) rfl eR cL bE ?_;exact⟨bn (by rw[hn,h];rfl),tc⟩
   ·have h:jx W f=true:=by rw[jx,Bool.not_eq_true'];simpa only[eO] using aL
    refine aJ ?_;refine az (λbo=>?_) λbo=>?_
    ·refine a8 ?_;refine ai.cG rfl rfl rfl rfl rfl rfl (λav=>.call (.mk' rfl rfl rfl rfl cU) ((Hz _ _ wA))) ?_;refine aP ?_;refine .cl (rs:=[.tmp 8]) rfl eR cL bE ?_;exact⟨bn (by rw[hn,h,ZK bo,kr];rfl),tc⟩
    ·refine o8 ?_;refine .cl (rs:=[.tmp 8]) rfl eR cL bE ?_;exact⟨bn (by rw[hn,h,ZL bo,kr,kr];rfl),tc⟩
theorem Pm{B}{W}(a:W.parents.length<=60):∀(n:Nat),n<=1000->Aa B W n
 | 0,h=>Pl a lK λh=>by omega
 | n+1,h=>Pl a lK (λ_=>by
  have e:((n+1:Nat):Int) - 1=(n:Int):=by omega
  rw[e];exact Pm a n aa)
def ZO{p}(c:n6 prog (.fn f cA cs) ab.fact p)(l):aI prog 215 [.aj 6 (kG l),.fn f cA cs] (.b (l.all p)):=by
 intro H;have v:nh prog 215=true:=(HA (B:=0) l (c.gK l) [] H ⟨rfl,aT⟩).1;refine⟨v,λB I w j z m a=>((HA (B:=B) l (c.gK l) [] H ⟨rfl,aT⟩).2 I w j z m a).mono λe C o=>o.mono (λy E r=>?_) λ_ _ h=>h⟩;obtain⟨b,D,rfl,rfl,s,A⟩:=r;cases b with
 | true=>
  obtain⟨rfl,h⟩:=s rfl;exact⟨congrArg ab.b (List.all_eq_true.2 h).symm,rfl⟩
 | false=>
  obtain⟨t,⟨g,rfl⟩,rfl,q,x,rfl,h⟩:=A rfl;refine⟨congrArg ab.b ?_,rfl⟩;symm;rw[List.all_eq_false];exact⟨x,aT,ck⟩
def ZP(W)(a:W.parents.length<=60)(f):aI prog 216 [ab.fact f,.ptr [ja W]] (.b (lL W f)):=by
 intro H;refine aM func216 λB I c=>?_;refine aJ ?_;refine bT (λdN=>?_);refine aP ?_;refine cI .k (Pm a 12 aa f 24 dN H lK) ?_;rintro _ _ ⟨rfl,rfl⟩;refine aV ?_;refine aB 3 (H) ?_;exact⟨bn rfl,rfl⟩
def ZQ(W)(a:W.parents.length<=60)(l):aI prog 199 [ja W,ab.facts l] (.b (l.all (lL W))):=by
 intro H;refine aM func199 λB I c=>?_;refine bQ ?_;refine ag (.call .k (ZO (.of (ZP W a)) l)) ?_;refine aV ?_;refine aB 4 (H) ?_;exact⟨dP,rfl⟩
def HB(h:i<U.length):(cB W++U.map λs=>ab.set s)[2+i]? =some (ab.set (U.getD i 0)):=by
 show ([ab.bp W.parents,ab.ints W.owner]++_)[2+i]? =_;rw[List.getElem?_append_right aT];simp[List.getElem?_map,List.getElem?_eq_getElem h,List.getD_eq_getElem?_getD]
def ZR(h:i<U.length):(cB W++U.map λs=>ab.set s).take (2+i)++[ab.set s]++(cB W++U.map λs=>ab.set s).drop (2+i+1)=cB W++(U.set i s).map λs=>ab.set s:=by
 have e:cB W= [.bp W.parents,.ints W.owner]:=rfl;have a:(cB W++U.map λs=>ab.set s).take (2+i)=cB W++(U.take i).map λs=>ab.set s:=by
  rw[e,List.take_append,List.map_take];simp[List.take_of_length_le]
 have c:(cB W++U.map λs=>ab.set s).drop (2+i+1)=(U.drop (i+1)).map λs=>ab.set s:=by
  rw[show 2+i+1=(i+1)+2 from by omega,List.map_drop];rfl
 rw[a,c,List.append_assoc,List.append_assoc];congr 1;rw[List.set_eq_take_append_cons_drop,if_pos h];simp
def vl(l:al)(v:Int):Int:=match l.findIdx? (λx=>x==v) with | some i=>(i:Int) | none=>-1
def ZS(a:k<l.length)(c:∀x∈l.take k,x≠v)(h:v=l.getD k default):(k:Int)=vl l v:=by
 have e:l.findIdx? (λx=>x==v)=some k:=by
  rw[List.findIdx?_eq_some_iff_getElem];refine⟨a,?_,λj f=>?_⟩
  ·rw[h,List.getD_eq_getElem?_getD,List.getElem?_eq_getElem a];simp
  ·have:=c (l[j]'aa) (by rw[List.mem_take_iff_getElem];exact⟨j,aa,rfl⟩);simpa using this
 rw[vl,e]
def ZT(a:∀x∈l,x≠v):(-1:Int)=vl l v:=by
 have e:l.findIdx? (λx=>x==v)=none:=by
  rw[List.findIdx?_eq_none_iff];intro x c;simpa using a x c
 rw[vl,e]
def ZU(l)(v):decide (vl l v>=0)=l.contains v:=by
 unfold vl;cases h:l.findIdx? (λx=>x==v) with
 | none=>
  rw[List.findIdx?_eq_none_iff] at h;symm;simp;intro c;have:=h v c;simp at this
 | some i=>
  rw[List.findIdx?_eq_some_iff_getElem] at h;obtain⟨a,f,_⟩:=h;symm;simp;have:l[i]=v:=by simpa using f
  rw[<-this];exact List.getElem_mem a
def ZV(l)(v):aI prog 115 [.ints l,.i v] (.i (vl l v)):=by
 intro H;refine aM func115 λB I g=>?_;refine .ez (t:=0) rfl λgP=>?_;refine c6 ?_;refine bm (λm a=>∃k:Nat,a=⟨[(8,.i k),(7,.i l.length),(0,.ints l),(1,.i v)],H⟩/\m=l.length - k/\k<=l.length/\∀x∈l.take k,x≠v) ⟨0,rfl,rfl,aT,aT⟩ ?_;rintro m _ ⟨k,rfl,rfl,f,bV⟩;refine ay ?_;refine az (λaf=>?_) λaf=>?_
 ·refine iY ?_;refine az (λae=>?_) λae=>?_
  ·refine bS ?_;refine aB 4 H ?_;exact⟨fJ (ZS aa bV ae),rfl⟩
  ·refine aP ?_;exact aU ⟨k+1,rfl,rfl,aa,Nz aa bV ae⟩
 ·refine bA ?_;refine aB 4 H ?_;exact⟨fJ (ZT Lt),rfl⟩
def HC(l)(v):aI prog 78 [.ints l,.i v] (.b (l.contains v)):=by
 intro H;refine aM func78 λB I a=>?_;refine a8 ?_;refine ag (.call .k ((ZV _ _))) ?_;refine aS ?_;refine aB 4 H ?_;exact⟨bn (ZU _ _),rfl⟩
def xu(k:Nat):du:=[1,3,5].take k++List.replicate (63 - k) 0
def ZW(h:k<3):(xu k).set k (1 ||| 2^(k:Int).toNat)=xu (k+1):=by
 have:k=0\/k=1\/k=2:=by omega
 rcases this with rfl | rfl | rfl <;> rfl
def Pn(h:k<=3):(xu k).length=63:=by simp[xu];omega
def ZX(h:i<U.length)(a:U.set i s=Df):(cB W++U.map λs=>ab.set s).take (2+i)++[ab.set s]++(cB W++U.map λs=>ab.set s).drop (2+i+1)=cB W++Df.map λs=>ab.set s:=a▸ZR h
def Po(a:off=2+i)(h:i<U.length):Nat.ble (off+1) (cB W++U.map λs=>ab.set s).length=true:=by
 subst a;rw[Nat.ble_eq];simp[cB];omega
def ZY(h:(bif decide ((W.parents.length:Int)>60) then true else decide ((W.owner.length:Int)>40))=true):cy W=false:=by
 rw[eO] at h;simp[Bool.or_eq_true,decide_eq_true_eq] at h;unfold cy;rcases h with h | h
 ·have:decide (W.parents.length<=60)=false:=by simp;omega
  simp[this]
 ·have:decide (W.owner.length<=40)=false:=by simp;omega
  simp[this]
def ZZ(h:(bif decide ((W.parents.length:Int)>60) then true else decide ((W.owner.length:Int)>40))=false):W.parents.length<=60/\W.owner.length<=40:=by
 rw[eO] at h;simp[Bool.or_eq_false_iff,decide_eq_false_iff_not] at h;omega
def Pp(h:W.parents.length<=60/\W.owner.length<=40):cy W=(iJ 0 W.parents && W.owner.all (sh W)):=by
 simp[cy,h.1,h.2]
def Pq{l:List al}(a:k<l.length):iJ k (l.drop k)=(lf k [] (l.getD k default) && iJ (k+1) (l.drop (k+1))):=by
 rw[List.drop_eq_getElem_cons a,iJ,List.getD_eq_getElem?_getD,List.getElem?_eq_getElem a];rfl
def Z0{l:List al}(U)(a:k<l.length):hB (l.drop k) k U=hB (l.drop (k+1)) (k+1) (U.set (3+k) (pd U k (l.getD k default))):=by
 rw[List.drop_eq_getElem_cons a,hB,List.getD_eq_getElem?_getD,List.getElem?_eq_getElem a];rfl
def Pr(a:j<l.length):lf i (l.take j) (l.drop j)=(!(decide (l.getD j default<3) || decide (l.getD j default>=3+i) || (l.take j).contains (l.getD j default)) && lf i (l.take (j+1)) (l.drop (j+1))):=by
 rw[List.drop_eq_getElem_cons a,lf, <-c3 a,List.getD_eq_getElem?_getD,List.getElem?_eq_getElem a];rfl
def Z1(a:off=2+i)(h:i<U.length):(cB W++U.map λs=>ab.set s)[off]? =some (ab.set (U.getD i 0)):=a▸HB h
def Ps(a:off=2+i)(h:i<U.length)(c:U.set i s=Df):(cB W++U.map λs=>ab.set s).take off++[ab.set s]++(cB W++U.map λs=>ab.set s).drop (off+1)=cB W++Df.map λs=>ab.set s:=a▸ZX h c
def Z2(a:j<l.length):(l.drop j).foldl (λs (p:Int)=>s ||| U.getD p.toNat 0) s=(l.drop (j+1)).foldl (λs (p:Int)=>s ||| U.getD p.toNat 0) (s ||| U.getD (l.getD j default).toNat 0):=by
 rw[List.drop_eq_getElem_cons a,List.foldl_cons,p1 a]
def Z3{r}(c:j<l.length)(a:lf k (l.take j) (l.drop j)=r)(h:(bif bif decide (l.getD j default<3) then true else decide (3+(k:Int)<=l.getD j default) then true else (l.take j).contains (l.getD j default))=false):
  3<=l.getD j default/\l.getD j default<3+k/\lf k (l.take (j+1)) (l.drop (j+1))=r:=by
 rw[eO,eO] at h;have f:=h;simp only[Bool.or_eq_false_iff,decide_eq_false_iff_not] at f;refine⟨aa,aa,?_⟩;rw[Pr c] at a;have e:(decide (l.getD j default<3) || decide (l.getD j default>=3+(k:Int)) || (l.take j).contains (l.getD j default))=false:=h;rw[e] at a;simpa using a
def Z4{r}(c:j<l.length)(a:lf k (l.take j) (l.drop j)=r)(h:(bif bif decide (l.getD j default<3) then true else decide (3+(k:Int)<=l.getD j default) then true else (l.take j).contains (l.getD j default))=true):r=false:=by
 rw[eO,eO] at h;rw[Pr c] at a;have e:(decide (l.getD j default<3) || decide (l.getD j default>=3+(k:Int)) || (l.take j).contains (l.getD j default))=true:=h;rw[e] at a;simpa using a.symm
def Z5(f:W.parents.length<=60/\W.owner.length<=40)(c:k<W.parents.length)(a:iJ k (W.parents.drop k)=iJ 0 W.parents)(h:lf k [] (W.parents.getD k default)=false):cy W=false:=by
 rw[Pq c,h] at a;rw[Pp f, <-a];rfl
def vm(a:∀x∈U,x<18446744073709551616)(i):U.getD i 0<18446744073709551616:=by
 rw[List.getD_eq_getElem?_getD];by_cases h:i<U.length
 ·rw[List.getElem?_eq_getElem h];exact a _ (List.getElem_mem h)
 ·rw[List.getElem?_eq_none aa];decide
def HD(a:∀x∈U,x<18446744073709551616){i s}(c:s<18446744073709551616):∀x∈U.set i s,x<18446744073709551616:=by
 intro x f;rcases List.mem_or_eq_of_mem_set f with h | h
 ·exact a x h
 ·exact h▸c
def mj{s t}(a:s<18446744073709551616)(ht:t<18446744073709551616):s ||| t<18446744073709551616:=Nat.or_lt_two_pow (n:=64) a ht
def re(h:k<64):2^k<18446744073709551616:=Nat.pow_lt_pow_right (a:=2) aa h
def Pt(W):aI prog 135 [ab.world W] (.bj [if cy W then ja W else .one,.b (cy W)]):=by
 intro H;refine aM func135 λB I J=>?_;refine .n9 (t:=0) (i:=0) rfl rfl λgP=>?_;refine .n9 (t:=0) (i:=1) rfl rfl λvj=>?_;refine nz ?_;refine bc (λaf=>?_) λaf=>?_
 ·have C:cy W=false:=ZY af;refine aJ ?_;refine .cl (rs:=[.tmp 2,.tmp 3]) (H':=H) rfl q4 (.cons (.one rfl λ_ h=>by cases h) (.cons gx .nil)) bE ?_;exact⟨by rw[C];rfl,rfl⟩
 ·have v:=ZZ af;refine ay ?_;refine .r6 rfl rfl rfl rfl rfl rfl rfl λdN=>?_;refine bQ ?_;refine bm (λm l=>∃k:Nat,l=⟨[(24,.i k),(4,.p dN 0),(1,.ptr (cB W))],.au dN 187 (cB W++(xu k).map λs=>ab.set s)::H⟩/\m=3 - k/\k<=3) tz ?_;rintro m _ ⟨k,rfl,rfl,z⟩;refine ay ?_;refine az (λae=>?_) λae=>?_
  ·refine bQ ?_;refine b0 6 91 ?_;refine aH ?_;refine bh (.call .k (vk 1 k aa aa)) ?_;refine aS ?_;apply ai.gb rfl rfl rfl rfl rfl rfl rfl rfl rfl rfl
   (case hu=>repeat (first | exact .head _ _ _ | apply .tail));(case hfit=>exact Po (i:=k) aT (by rw[Pn z];omega));(case hds=>exact Ps (i:=k) aT (by rw[Pn z];omega) (ZW aa))
   refine aP ?_;exact aU ⟨k+1,rfl,rfl,aa⟩
  ·obtain rfl:k=3:=by omega
   refine dW ?_;refine bm (λm l=>∃(k:Nat) (U:du),l=⟨[(38,.i k),(37,.i W.parents.length),(36,.bp W.parents),(4,.p dN 0),(1,.ptr (cB W))],.au dN 187 (cB W++U.map λs=>ab.set s)::H⟩/\m=W.parents.length - k/\k<=W.parents.length/\U.length=63/\(∀x∈U,x<18446744073709551616)/\hB (W.parents.drop k) k U=mN W/\iJ k (W.parents.drop k)=iJ 0 W.parents) ⟨0,xu 3,rfl,rfl,aa,rfl,c8,rfl,rfl⟩ ?_;rintro m _ ⟨k,U,rfl,rfl,z,o,A,f,a⟩;refine ay ?_;refine az (λak=>?_) λak=>?_
   ·refine gv ?_;refine ag (.call .k (vk 1 (3+k) aa aa)) ?_;refine aS ?_;refine .ez (t:=7) rfl λyP=>?_;refine aP ?_;refine bm (λm l=>∃(j s:Nat),l=⟨[(48,.i j),(47,.i (W.parents.getD k default).length),(46,.ints (W.parents.getD k default)),(8,ab.set s),(6,.i k),(7,.ints (W.parents.getD k default)),(38,.i k),(37,.i W.parents.length),(36,.bp W.parents),(4,.p dN 0),(1,.ptr (cB W))],.au dN 187 (cB W++U.map λs=>ab.set s)::H⟩/\m=(W.parents.getD k default).length - j/\j<=(W.parents.getD k default).length/\s<18446744073709551616/\((W.parents.getD k default).drop j).foldl (λs (p:Int)=>s ||| U.getD p.toNat 0) s=pd U k (W.parents.getD k default)/\lf k ((W.parents.getD k default).take j) ((W.parents.getD k default).drop j)=lf k [] (W.parents.getD k default)) (⟨0,1 ||| 2^((3:Int)+k).toNat,rfl,rfl,aa,mj aa (re aa),by rw[show ((3:Int)+k).toNat=3+k from by omega];rfl,rfl⟩) ?_;rintro m _ ⟨j,s,rfl,rfl,K,r,w,q⟩;refine ay ?_;refine az (λaL=>?_) λaL=>?_
    ·refine Nd ?_;refine gw (λav=>.Ce rfl rfl qz rfl qz aa) ?_;refine aR ?_;refine ai.cG rfl rfl rfl rfl rfl rfl (λav=>.call (.mk' rfl rfl rfl rfl cU) (HC _ _)) ?_;refine aH ?_;refine az (λbo=>?_) λbo=>?_
     ·have C:cy W=false:=Z5 v aa a (Z4 aa q bo);refine jR ?_;refine .cl (rs:=[.tmp 2,.tmp 3]) (H':=H) rfl q4 (.cons (.one rfl λ_ h=>by cases h) (.cons gx .nil)) bE ?_;exact⟨by rw[C];rfl,rfl⟩
     ·obtain⟨G,E,B⟩:=Z3 aa q bo;refine a8 ?_;refine ag ((by first | exact .cE rfl rfl rfl rfl | (apply ad.iv rfl rfl rfl;(case hm=>repeat (first | exact .head _ | refine .tail _ ?_));(case hy=>exact Z1 (i:=((W.parents.getD k default).getD j default).toNat) aa aa)))) ?_;refine ag (.bits rfl rfl rfl rfl rfl (u0 _ _ r (vm A _))) ?_;refine aJ ?_;exact aU (⟨j+1,s ||| U.getD ((W.parents.getD k default).getD j default).toNat 0,rfl,rfl,aa,mj r (vm A _),by rw[<-Z2 aa];exact w,B⟩)
    ·obtain rfl:j=(W.parents.getD k default).length:=by omega
     rw[List.drop_length,List.foldl_nil] at w;rw[List.drop_length,List.take_length,lf] at q;subst w;refine di ?_;apply ai.gb rfl rfl rfl rfl rfl rfl rfl rfl rfl rfl
     (case hu=>repeat (first | exact .head _ _ _ | apply .tail));(case hfit=>exact Po (i:=3+k) aa aa);(case hds=>exact Ps (i:=3+k) aa aa rfl)
     refine aP ?_;exact aU (⟨k+1,U.set (3+k) (pd U k (W.parents.getD k default)),rfl,rfl,aa,by simp[o],HD A r,by rw[<-Z0 U aa];exact f,by rw[Pq aa, <-q] at a;simpa using a⟩)
   ·obtain rfl:k=W.parents.length:=by omega
    rw[List.drop_length,hB] at f;subst f;rw[List.drop_length,iJ] at a;refine ay ?_;refine eB 4 ?_;refine ay ?_;refine ag (.call .k (Ph (.of λx=>Zv W x v.1) W.owner)) ?_;refine aS ?_;refine .cl (rs:=[.tmp 2,.tmp 3]) (H':=H) rfl q4 (.cons (.VP (c:=cy W=true) rfl λ_ h=>by cases h) (.cons gx .nil)) bE ?_;exact⟨by rw[Pp v, <-a];rfl,rfl⟩
def Pu(h:cy W):aI prog 135 [ab.world W] (.bj [ja W,.b true]):=by have:=Pt W;rwa [if_pos h,h] at this
def Z6(h:cy W=false):aI prog 135 [ab.world W] (.bj [.one,.b false]):=by have:=Pt W;rwa [if_neg ck,h] at this
def vn(h:cy W):W.owner.length<=40:=by simp[cy] at h;exact h.1.1.2
def Pv(h:cy W)(l):aI prog 171 [ab.world W,ab.facts l] (.bj [ja W,.b (l.all (lL W))]):=by
 intro H;refine aM func171 λB I c=>?_;have a:=q8 h;refine bQ ?_;refine ag (.call .k (Pu h)) ?_;refine c6 ?_;refine gw (λav=>ad.call (.mk' rfl rfl rfl rfl cU) (ZQ W a l)) ?_;refine ay ?_;refine dM [.tmp 4,.tmp 5] (H) ?_;exact⟨dP,rfl⟩
def Z7(h:cy W=false)(l):aI prog 171 [ab.world W,ab.facts l] (.bj [.one,.b false]):=by
 intro H;refine aM func171 λB I c=>?_;refine bQ ?_;refine ag (.call .k (Z6 h)) ?_;refine c6 ?_;refine .cG (x:=.b false) rfl rfl rfl rfl rfl rfl (λav=>absurd av aT) ?_;refine ay ?_;refine dM [.tmp 4,.tmp 5] (H) ?_;exact⟨dP,rfl⟩
def refused(b):aI prog 172 [.b b] (.i (if b then 0 else 2)):=by
 intro H;refine aM func172 λB I a=>?_;refine bS ?_;refine az (λaf=>?_) λaf=>?_
 ·refine aP ?_;refine aB 2 H ?_;exact⟨fJ yh,rfl⟩
 ·refine aJ ?_;refine aB 2 H ?_;exact⟨fJ yh,rfl⟩
def Z8{W}(h:cy W)(f):aI prog 133 [ab.world W,ab.fact f] (.i (if lL W f then 0 else 2)):=by
 intro H;refine aM func133 λB I a=>?_;refine bA ?_;refine ag (.sg [(_,ab.fact f)] rfl rfl (by first | rfl | simp_all) rfl rfl rfl rfl rfl) ?_;refine ag (ad.tf .k (.cons ig (.cons (tB [f] cM) .nil)) (by have:=Pv h [f];rwa [List.all_cons,List.all_nil,Bool.and_true] at this)) ?_;refine bQ ?_;refine ag (ad.call .k ((refused _))) ?_;refine aV ?_;refine aB 4 (H) ?_;exact⟨dP,rfl⟩
def Z9{W}(h:cy W=false)(f):aI prog 133 [ab.world W,ab.fact f] (.i 2):=by
 intro H;refine aM func133 λB I a=>?_;refine bA ?_;refine ag (.sg [(_,ab.fact f)] rfl rfl (by first | rfl | simp_all) rfl rfl rfl rfl rfl) ?_;refine ag (ad.tf .k (.cons ig (.cons (tB [f] cM) .nil)) (Z7 h [f])) ?_;refine bQ ?_;refine ag (ad.call .k ((refused _))) ?_;refine aV ?_;refine aB 4 (H) ?_;exact⟨dP,rfl⟩
def Pw(c:n6 prog (.fn f cA cs) .i p)(l)(o:l.length<=1000000):aI prog 253 [.ints l,.fn f cA cs] (.ints (l.filter p)):=by
 intro H;refine aM func253 λB I q=>?_;refine bS ?_;refine hi 5 3 1 ?_;refine aP ?_;refine bm (λm h=>∃(i:Nat) (v:Value),h=⟨[(10,.i i),(9,.i l.length),(8,.ints l),(1,.fn f cA cs),(5,.as (.ints ((l.take i).filter p)) v)],.own 3 1 v::H⟩/\m=l.length - i/\i<=l.length) (⟨0,_,rfl,rfl,aa⟩) ?_;rintro m _ ⟨i,v,rfl,rfl,r⟩;refine ay ?_;refine az (λaf=>?_) λaf=>?_
 ·have a:i<l.length:=by omega
  refine dW ?_;refine .oa rfl rfl rfl rfl rfl rfl rfl rfl cL (c B _ _) ?_;rintro _ _ ⟨rfl,rfl⟩;refine aQ ?_;refine az (λae=>?_) λae=>?_
  ·refine aH ?_;refine ai.cc (x:=.aj 1 [[.i (l.getD i default)]]) rfl rfl rfl (ad.row rfl rfl cD rfl rfl rfl rfl rfl rfl) ?_;refine ai.dJ rfl rfl rfl rfl rfl rfl rfl rfl (aq.refl _) (rfl) (λ_=>dt) KW KW (λv20=>?_);refine aJ ?_;exact aU (⟨i+1,v20,by rw[xh a ae],rfl,a⟩)
  ·refine aP ?_;exact aU (⟨i+1,v,by rw[xi a ae],rfl,a⟩)
 ·obtain rfl:i=l.length:=by omega
  rw[List.take_length];refine bS ?_;refine aZ.cl (rs:=[.tmp 4]) (H':=H) rfl (.tmp rfl (.nil)) (.cons (aq.eY _ _) .nil) bE ?_;exact⟨dP,rfl⟩
def aaa(n):aI prog 265 [.i n] (.b (n !=0)):=by
 intro H;refine aM func265 λB I a=>?_;refine di ?_;refine aB 2 H ?_;exact⟨dP,rfl⟩
def aab(l)(a:l.length<=1000000):aI prog 252 [.ints l] (.ints (lN l)):=by
 intro H;refine aM func252 λB I c=>?_;refine aJ ?_;refine ag (.call .k (Pw (.of aaa) l a)) ?_;refine aV ?_;refine aB 2 (H) ?_;exact⟨dP,rfl⟩
def aac(h n):aI prog 254 [.i n,.ptr [.i h]] (.b (n !=h)):=by
 intro H;refine aM func254 λB I a=>?_;refine c6 ?_;refine aB 3 H ?_;exact⟨dP,rfl⟩
def aad(a)(ht:total a<=1000)(Z:a.length<=1000):aI prog 230 [.bp a] (.bj [.ints (lM a).1,.b (lM a).2]):=by
 intro H;refine aM func230 λB I bN=>?_;refine ay ?_;refine .scope ?_;refine ay ?_;refine .label ?_;refine aQ ?_;refine hi 4 3 1 ?_;refine bm (λm s=>∃(A:List al) (c:al) (n:Nat) (v:Value),s=⟨[(0,.bp A),(4,.as (.ints c) v)],.own 3 1 v::H⟩/\m=n/\total A<n/\pX n A c=lM a/\total A+c.length<=total a/\A.length=a.length) ⟨a,[],total a+1,_,rfl,rfl,aa,rfl,aT,rfl⟩ ?_;rintro m _ ⟨A,c,n,v,rfl,rfl,W,O,Q,T⟩;obtain⟨n,rfl⟩:∃q,m=q+1:=⟨m - 1,aa⟩;refine aR ?_;refine .scope ?_;refine ay ?_;refine .label ?_;refine bQ ?_;refine bm (λm s=>∃(i:Nat) (J:Bool),s=⟨[(16,.i i),(15,.i A.length),(14,.bp A),(5,.b J),(0,.bp A),(4,.as (.ints c) v)],.own 3 1 v::H⟩/\m=A.length - i/\i<=A.length/\J= !((A.take i).all List.isEmpty)/\jc A A=jc A (A.drop i)) ⟨0,false,rfl,rfl,aa,rfl,rfl⟩ ?_;rintro m _ ⟨i,J,rfl,rfl,aN,z,l⟩;refine ay ?_;refine az (λaf=>?_) λaf=>?_
 ·have f:i<A.length:=by omega
  obtain⟨L,D⟩:∃L,L=A.getD i default:=iZ;have o:=u5 f;rw[<-D] at o;have N:=CZ A i f;rw[<-D] at N;refine di ?_;rw[<-D];refine ay ?_;refine az (λae=>?_) λae=>?_
  ·have E:L= []:=List.eq_nil_of_length_eq_zero aa;refine aJ ?_;exact aU ⟨i+1,J,rfl,rfl,f,by rw[zL f, <-D,E,z];simp,by rw[l,o,NG E]⟩
  ·have r:0<L.length:=by omega
   refine iB ?_;refine bm (λm s=>∃j:Nat,s=⟨[(25,.i j),(24,.i A.length),(23,.bp A),(7,.ints L),(16,.i i),(15,.i A.length),(14,.bp A),(5,.b true),(0,.bp A),(4,.as (.ints c) v)],.own 3 1 v::H⟩/\m=A.length - j/\j<=A.length/\((A.take j).any λm=>m.tail.contains (L.getD 0 default))=false) iI ?_;rintro m _ ⟨j,rfl,rfl,X,g⟩;refine ay ?_;refine az (λak=>?_) λak=>?_
   ·have B:j<A.length:=by omega
    obtain⟨M,K⟩:∃M,M=A.getD j default:=iZ;refine bS ?_;rw[<-K];refine .cu mixed ?_;refine iB ?_;refine .dk 4 9 66 rfl ao rfl rfl ao ?_;refine aR ?_;refine jS (λav=>.L5 (n:=1) rfl rfl qz rfl qz (by have:=of_decide_eq_true av;omega)) ?_;refine aS ?_;refine ai.cG rfl rfl rfl rfl rfl rfl (λav=>ad.call (.mk' rfl rfl rfl rfl cU) ((z8 _ _))) ?_;refine aH ?_;refine az (λaL=>?_) λaL=>?_
    ·refine bS ?_;exact aU (⟨i+1,true,rfl,rfl,f,by rw[zL f, <-D,NK r,Bool.and_false];rfl,by rw[l,o,NH r (by rw[C1,NL B (by rw[<-K];exact NM aL)];rfl)]⟩)
    ·refine aP ?_;exact aU (⟨j+1,rfl,rfl,B,by rw[NF B,g, <-K,NN aL];rfl⟩)
   ·obtain rfl:j=A.length:=by omega
    rw[List.take_length] at g;obtain⟨h,F⟩:∃h,h=L.getD 0 default:=⟨_,rfl⟩;rw[<-F] at g;have C:jc A A=some h:=by rw[l,o,NI r (by rw[C1, <-F,g];rfl),F]
    have S:=GV h A i f (by rw[<-D,F];exact bH r);have R:=CY h A;refine bQ ?_;refine bT (λdN=>?_);refine aV ?_;refine eB 10 ?_;rw[<-F];refine aH ?_;refine ai.cc (x:=.aj 1 [[.i h]]) rfl rfl rfl (ad.row rfl rfl cD rfl rfl rfl rfl rfl rfl) ?_;refine ai.dJ rfl rfl rfl rfl rfl rfl rfl rfl (aq.refl _) (rfl) (λ_=>dt) nc nc (λHE=>?_);refine bQ ?_;refine hi 11 23 1 ?_;refine aP ?_;refine bm (λm s=>∃(k:Nat) (w:Value),s=⟨[(50,.i k),(49,.i A.length),(48,ab.bp A),(11,.as (ab.bp (iK h (A.take k))) w),(10,.ptr [.i h]),(4,.as (.aj 1 ((c.map λn=>[ab.i n])++[[ab.i h]])) HE)],.own 23 1 w::.own 3 1 HE::H⟩/\m=A.length - k/\k<=A.length) (⟨0,_,rfl,rfl,aa⟩) ?_;rintro m _ ⟨k,w,rfl,rfl,Y⟩;refine ay ?_;refine az (λbo=>?_) λbo=>?_
    ·have t:k<A.length:=by omega
     have P:=CZ A k t;refine dW ?_;refine ag (.call .k (Pw (.of (aac h)) (A.getD k default) aa)) ?_;refine .cc (x:=.aj 1 [[.ints ((A.getD k default).filter (· !=h))]]) rfl rfl rfl ie ?_;refine ai.dJ rfl rfl rfl rfl rfl rfl rfl rfl (aq.refl _) (rfl) (λ_=>dt) Bl Bl λv59=>?_;refine aJ ?_;exact aU (⟨k+1,v59,by rw[NJ _ t],rfl,t⟩)
    ·obtain rfl:k=A.length:=by omega
     rw[List.take_length];refine ay ?_;refine .le 11 (y:=.bp (iK h A)) rfl GO ?_;refine bA ?_;refine .Wp ?_;refine aR ?_;exact aU ⟨iK h A,c++[h],n,HE,by rw[GW],rfl,aa,by rw[<-O,GX C],By,by rw[EU,T]⟩
 ·obtain rfl:i=A.length:=by omega
  rw[List.drop_length] at l;rw[List.take_length] at z;refine dW ?_;refine .wW ?_;refine aH ?_;refine .wW ?_;refine .cl (rs:=[.tmp 2,.tmp 3]) (H':=H) rfl q4 xc bE ?_;exact⟨by rw[<-O,GY l,z,Bool.not_not];rfl,rfl⟩
def Px(s)(c)(f:0<=c/\c<64)(g:s<18446744073709551616):aI prog 203 [.agg [ab.set s],.i c] (.agg [ab.set (s ||| 2^c.toNat)]):=by
 intro H;refine aM func203 λB I h=>?_;refine aQ ?_;refine .r6 rfl rfl rfl rfl rfl rfl rfl λdN=>?_;refine bT (λb1=>?_);refine aH ?_;refine b0 4 12 ?_;refine aH ?_;refine bh (ad.shift rfl rfl rfl rfl rfl f.1 (Np _ f)) ?_;refine aQ ?_;refine ag (ad.bits rfl rfl rfl rfl rfl (u0 _ _ g (Nat.pow_lt_pow_right (a:=2) (n:=64) aa aa))) ?_;refine bA ?_;refine dM [.cell 4 248] (H) ?_;exact⟨dP,rfl⟩
def aae(s t)(a:s<18446744073709551616)(ht:t<18446744073709551616):aI prog 204 [.agg [ab.set s],.agg [ab.set t]] (.agg [ab.set (s ||| t)]):=by
 intro H;refine aM func204 λB I c=>?_;refine aQ ?_;refine .r6 rfl rfl rfl rfl rfl rfl rfl λdN=>?_;refine aR ?_;refine bT (λb1=>?_);refine aJ ?_;refine ag (.bits rfl rfl rfl rfl rfl (u0 _ _ a ht)) ?_;refine bA ?_;refine dM [.cell 4 248] (H) ?_;exact⟨dP,rfl⟩
abbrev aaf(da:Nat)(G:ab)(p:Prog):ab:=.fn (.func 170) [] [.ptr [G],.ptr (cH p),.p da 0]
abbrev ph(da:Nat)(G:ab)(p:Prog):br:=.au da 213 [aaf da G p]
def WalkC(B:Nat)(p:Prog)(next:Bool)(G:ab)(L:List dC)(h4:Bool)(J:List dC->aC->Prop)(jv:ab->aC->Prop)(da:Nat)(f:Nat):Prop:=
 ∀(x:dC) (out:al) (pre rest:List dC) (pP Hx:aC),x.cu+f=14->1<=x.cu->-1000<=x.bs/\x.bs<=1000+x.cu->pre++(visit p next f x out).1++rest=L->((visit p next f x out).2=none->rest= []/\h4=true)->((visit p next f x out).2≠none->h4=true->rest≠ [])->J pre pP->
  eM B prog 170 [.i x.n,vb x,.ptr [G],.ptr (cH p),.p da 0] (pP++(ph da G p::Hx)) (λy H'=>y= .b true/\(visit p next f x out).2≠none/\∃H1,H'=H1++(ph da G p::Hx)/\J (pre++(visit p next f x out).1) H1)
   (λy H'=>(visit p next f x out).2=none/\∃H1,H'=H1++(ph da G p::Hx)/\jv y H1)
def Py{p}{next}{g}{L}{j}{J}(hQ:w6 B prog (.fn g cA cs) (λx=>.i x.n) vb L j J jv)(D:∀y H,jv y H->∃v,y.Const v)
  {U f} (fv:∀C,f=C+1->WalkC B p next (.fn g cA cs) L j J jv U C):WalkC B p next (.fn g cA cs) L j J jv U f:=by
 intro x S E N pP Hx a9 dU iy e0 a4 a3 eF;refine .of func170 rfl ax rfl rfl λI bN=>?_;refine bS ?_;refine .FA rfl rfl rfl rfl rfl rfl rfl cL (hQ E x pP (ph U (.fn g cA cs) p::Hx) (Yk e0) eF) ?_ ?_
 ·rintro _ _ ⟨z,rfl,rfl,r,A⟩;obtain⟨a2,C,rfl⟩:=Ym a9 e0 a4 r;obtain⟨wj,Bs⟩:=Yn a2;obtain⟨K,eX⟩:∃K,K=fu p x:=iZ;have q:=vc (f:=C) a2;rw[<-eX] at q;refine aH ?_;refine bc (λaf=>?_) λaf=>?_
  ·simp at af
  ·replace af:=dA af;refine aJ ?_;refine ag Br ?_;refine aP ?_;rw[show p.nodes.getD x.n.toNat default=K from eX.symm];refine .ez (t:=21) rfl λalh=>?_;refine bm (λm st=>∃(i:Nat) (l:List dC) (o:al) (z:aC),st=⟨[(23,.i i),(22,.i K.kids.length),(21,.ints K.kids),(6,.ptr [.i x.bs,.i x.cu]),(0,.i x.n),(2,.ptr [.fn g cA cs]),(3,.ptr (cH p)),(4,.p U 0)],z++(ph U (.fn g cA cs) p::Hx)⟩/\m=K.kids.length - i/\i<=K.kids.length/\eT (visit p next C) ((hE x K.op 0 K.kids).take i) (iM S x)=(l,some o)/\J (E++x::l) z) ⟨0,[],iM S x,z,rfl,rfl,aa,rfl,A⟩ ?_;rintro m _ ⟨i,l,o,z,rfl,rfl,aN,fw,A⟩;refine ay ?_;refine az (λae=>?_) λae=>?_
   ·have V:i<K.kids.length:=by omega
    obtain⟨R,hR,Z,W⟩:=Oj (Og (p:=p) (next:=next) C) (Ol x K.op V) fw;obtain⟨a0,bI,gJ⟩:=Yo q e0 a4 a3 hR Z (λo' h=>(W o' h).2);refine o8 ?_;refine bT (λtb=>?_);refine a8 ?_;refine ag (Br) ?_;refine a8 ?_;refine az (λak=>?_) λak=>?_
    ·refine a8 ?_;refine aA.perm (H':=z++(ph U (.fn g cA cs) p::.au tb 169 [.i (gV x K.op i (K.kids.getD i default)).bs,.i (gV x K.op i (K.kids.getD i default)).cu]::Hx)) (by rw[show (gV x K.op i (K.kids.getD i default)).bs=x.bs+1 from by rw[show (p.nodes.getD x.n.toNat default).op=K.op by rw[eX];rfl] at ak;simp at ak;simp only[gV];rw[if_pos aa]];exact Oh _ _ _ _) ?_;refine aR ?_;refine ag (Bm) ?_;refine aR ?_;refine ag (KU) ?_;refine ai.tk rfl rfl .k (fv C rfl (gV x K.op i (K.kids.getD i default)) o (E++x::l) (R++N) z (.au tb 169 [.i (gV x K.op i (K.kids.getD i default)).bs,.i (gV x K.op i (K.kids.getD i default)).cu]::Hx) rN rN BK a0 bI gJ A) ?_ ?_
     ·rintro _ _ ⟨rfl,Q,M,rfl,Y⟩;obtain⟨o',bb⟩:=Option.ne_none_iff_exists'.1 Q;obtain⟨T,_⟩:=W o' bb;refine aH ?_;refine bc (λaL=>?_) (λaL=>?_)
      ·simp at aL
      ·replace aL:=dA aL;refine aH ?_;refine aA.vd (Da _ _ _ _) ?_;refine aV ?_;exact aU (⟨i+1,l++(visit p next C (gV x K.op i (K.kids.getD i default)) o).1,o',M,cM,rfl,V,T,by simpa using Y⟩)
     ·rintro y aag ⟨O,M,rfl,F⟩ a w s I v bd;obtain⟨v0,G⟩:=D _ _ F;rw[G.is _ _ _ bd];exact kL (P:=prog) (fn:=Tryz.f170) G (Da _ _ _ _) ⟨by rw[q];exact (Z O).2,M,rfl,F⟩ a w s
    ·refine aH ?_;refine aA.perm (H':=z++(ph U (.fn g cA cs) p::.au tb 169 [.i (gV x K.op i (K.kids.getD i default)).bs,.i (gV x K.op i (K.kids.getD i default)).cu]::Hx)) (by rw[show (gV x K.op i (K.kids.getD i default)).bs=x.bs from by rw[show (p.nodes.getD x.n.toNat default).op=K.op by rw[eX];rfl] at ak;simp at ak;simp only[gV];rw[if_neg aa]];exact Oh _ _ _ _) ?_;refine aR ?_;refine ag (Bm) ?_;refine aR ?_;refine ag (KU) ?_;refine ai.tk rfl rfl .k (fv C rfl (gV x K.op i (K.kids.getD i default)) o (E++x::l) (R++N) z (.au tb 169 [.i (gV x K.op i (K.kids.getD i default)).bs,.i (gV x K.op i (K.kids.getD i default)).cu]::Hx) rN rN BK a0 bI gJ A) ?_ ?_
     ·rintro _ _ ⟨rfl,Q,M,rfl,Y⟩;obtain⟨o',bb⟩:=Option.ne_none_iff_exists'.1 Q;obtain⟨T,_⟩:=W o' bb;refine aH ?_;refine bc (λbo=>?_) (λbo=>?_)
      ·simp at bo
      ·replace bo:=dA bo;refine aH ?_;refine aA.vd (Da _ _ _ _) ?_;refine aV ?_;exact aU (⟨i+1,l++(visit p next C (gV x K.op i (K.kids.getD i default)) o).1,o',M,cM,rfl,V,T,by simpa using Y⟩)
     ·rintro y aag ⟨O,M,rfl,F⟩ a w s I v bd;obtain⟨v0,G⟩:=D _ _ F;rw[G.is _ _ _ bd];exact kL (P:=prog) (fn:=Tryz.f170) G (Da _ _ _ _) ⟨by rw[q];exact (Z O).2,M,rfl,F⟩ a w s
   ·obtain rfl:i=K.kids.length:=by omega
    have a5:eT (visit p next C) (hE x K.op 0 K.kids) (iM S x)=(l,some o):=by rwa [List.take_of_length_le (by rw[Hc];omega)] at fw
    rw[a5] at q;refine bA ?_;refine aZ.cl (rs:=[.tmp 7]) rfl (.tmp rfl (.nil)) (c5.refl _) bE ?_;exact⟨dP,by rw[q];simp,z,rfl,by rw[q];exact A⟩
 ·rintro y M ⟨z,rfl,r,b7,F⟩ a w s I v bd;obtain⟨v0,G⟩:=D _ _ F;rw[G.is _ _ _ bd];exact kL (P:=prog) (fn:=Tryz.f170) G (.refl _) ⟨Yl e0 a3 b7 r,z,rfl,F⟩ a w s
def Pz{B}{p}{next}{g}{m cs}{L}{c}{J}{l}(j:w6 B prog (.fn g m cs) (λx=>.i x.n) vb L c J l)(a:∀y H,l y H->∃v,y.Const v)(q):
  ∀f,WalkC B p next (.fn g m cs) L c J l q f
 | 0=>Py j a λf' h=>by omega
 | f+1=>Py j a (λf' h=>by(obtain rfl:f'=f:=by omega);exact Pz j a q f')
def aah{p}{next}{g}{x}{c}{J}(O:x.cu=1)(E: -1000<=x.bs/\x.bs<=1001)(j:∀y H,jv y H->∃v,y.Const v)
  (z:w6 B prog (.fn g cA cs) (λx=>.i x.n) vb (visit p next 13 x c).1 (visit p next 13 x c).2.isNone J jv) {q Hx} (K:J [] q):
  eM B prog 169 [.fn g cA cs,.ptr (cH p),.ptr [.i x.n],.ptr [.i x.bs,.i x.cu]] (q++Hx) (λ_ H'=>(visit p next 13 x c).2.isNone=false/\∃f da,H'=f++(ph da (.fn g cA cs) p::Hx)/\J (visit p next 13 x c).1 f)
   (λy H'=>(visit p next 13 x c).2.isNone=true/\∃f da,H'=f++(ph da (.fn g cA cs) p::Hx)/\jv y f):=by
 refine .of func169 rfl ax rfl rfl λI M=>?_;refine aP ?_;refine bT (λda=>?_);refine aJ ?_;refine .perm (H':=q++(ph da (.fn g cA cs) p::Hx)) List.perm_middle.symm ?_;refine aR ?_;refine ag Bm ?_;refine aQ ?_;refine .tk rfl rfl .k (Pz z j da 13 x c [] [] q Hx aa aa aa aT (λh=>⟨rfl,by rw[h];rfl⟩) (λh F=>absurd (Option.isNone_iff_eq_none.1 F) h) K) ?_ ?_
 ·rintro _ _ ⟨rfl,t,f,rfl,r⟩;refine aR ?_;refine .n3 (rs:=[]) rfl (.nil) cL bE ?_;exact⟨by cases h:(visit p next 13 x c).2 with
 | none=>exact absurd h t
 | some o=>rfl,f,da,rfl,by simpa using r⟩
 ·rintro y N ⟨jH,f,rfl,C⟩ a w s I v G;obtain⟨L,A⟩:=j _ _ C;rw[A.is _ _ _ G];exact kL (P:=prog) (fn:=Tryz.f169) A ig ⟨oT,f,da,rfl,C⟩ a w s
def below(p)(x):aI prog 129 [ab.prog p,.i x.n,vb x] (.fn (.func 169) [] [.ptr (cH p),.ptr [.i x.n],.ptr [.i x.bs,.i x.cu]]):=by
 intro H;refine aM func129 λB I a=>?_;refine dW ?_;refine aB 6 (H) ?_;exact⟨dP,rfl⟩
def aai(B)(p)(next)(x)(out)(aK:x.cu=1)(j: -1000<=x.bs/\x.bs<=1001):Gx B prog (.fn (.func 169) [] [.ptr (cH p),.ptr [.i x.n],.ptr [.i x.bs,.i x.cu]]) (λx=>.i x.n) vb (visit p next 13 x out).1 (visit p next 13 x out).2.isNone [] (λ_=>True):=by
 intro J A g q r f m H z s;refine eZ.r0 ((aah aK j f m s).imp ?_ ?_)
 ·rintro y t ⟨h,l,da,rfl,a⟩;exact⟨h,l,[ph da (.fn g q r) p],rfl,trivial,a⟩
 ·rintro y t ⟨h,l,da,rfl,a⟩;exact⟨h,l,[ph da (.fn g q r) p],rfl,a⟩
end Go.Proofs.YtodccgailpkgeaaGreat

namespace Go.Eng.dO
open Go.Eng.Fc
def HF(n:Nat)(h:n<4294967296):pG .and .u64 (n:Int) 4294967295=some (n:Int):=by
 rw[show (4294967295:Int)=((4294967295:Nat):Int) from rfl,zH n 4294967295 aa aa];rw[show (4294967295:Nat)=2^32 - 1 from rfl,Nat.and_two_pow_sub_one_eq_mod,Nat.mod_eq_of_lt aa]
def Ab(n:Nat)(h:n<4294967296):uA .shr .u64 (n:Int) 32=some 0:=by
 show some ((n:Int).fdiv (2^(min (32:Int).toNat 64)))=some 0;congr 1;rw[show (2:Int)^(min (32:Int).toNat 64)=4294967296 from rfl,Int.fdiv_eq_ediv_of_nonneg _ aa];omega
def p5{a:Int}{n:Nat}(h:a=n)(hn:n<18446744073709551616):IntKind.u64.wrap a=(n:Int):=by rw[h];exact zG n hn
def iN(x z:ab)(j k:Nat):bl:=List.replicate j x++List.replicate k z
def aaj(x z)(j k m)(a:m<=j)(f:m<=k):(iN x z j k).take j++((iN x z j k).take j).take m++(iN x z j k).drop (j+m)=iN x z (j+m) (k - m):=by
 have c:(iN x z j k).take j=List.replicate j x:=by rw[iN,List.take_append_of_le_length aT,List.take_of_length_le aT]
 rw[c,List.take_replicate,Nat.min_eq_left a,iN,List.drop_append,List.drop_eq_nil_of_le aT,List.nil_append,List.length_replicate,Nat.add_sub_cancel_left,List.drop_replicate,iN,List.replicate_append_replicate]
def aak(x z)(k)(a:1<=k):(List.replicate k z).take 0++[x].take 1++(List.replicate k z).drop 1=iN x z 1 (k - 1):=by
 simp[iN]
def aal(x z)(j):iN x z j 0=List.replicate j x:=by simp[iN]
def PA(x z)(j k):(iN x z j k).length=j+k:=by simp[iN]
def aam(x z)(j k)(a:dG [x])(f:dG [z]):dG ((iN x z j k).take j)=true:=by
 rw[iN,List.take_append_of_le_length aT,List.take_of_length_le aT];simp only[dG,List.all_eq_true] at a ⊢;intro y c;rw[List.eq_of_mem_replicate c];exact a x aT
end Go.Eng.dO

namespace Go.Proofs.YtodccgailpkgeaaGreat
open Go.Proofs.Tryz
open Go.Eng
open Go.Eng.Fc
open Go.Eng.dO
variable{p:Prog}
instance:tr prog 23 (3,8,aY):=⟨ax⟩
def aan(n:Nat)(hn:n<4294967296):aI prog 198 [.val (.int .u64 ((1:Nat):Int)),.val (.int .u64 (n:Int))] (.bj [.val c0,.val (.int .u64 (n:Int))]):=by
 intro H;refine aM (n:=51) func198 λB I a=>?_;refine a8 ?_;refine ag (ad.bits rfl rfl rfl rfl rfl (HF 1 aa)) ?_;refine ay ?_;refine ag (ad.shift rfl rfl rfl rfl rfl aa (Ab 1 aa)) ?_;refine ay ?_;refine ag (ad.bits rfl rfl rfl rfl rfl (HF _ aa)) ?_;refine ay ?_;refine ag (ad.shift rfl rfl rfl rfl rfl aa (Ab _ aa)) ?_;refine aP ?_;refine ag (ad.arith rfl rfl rfl rfl rfl rfl (p5 (n:=n) aa aa)) ?_;refine aP ?_;refine ag (ad.arith rfl rfl rfl rfl rfl rfl (p5 (n:=0) aa aa)) ?_;refine aR ?_;refine ag (ad.shift rfl rfl rfl rfl rfl aa (Ab _ aa)) ?_;refine ag (ad.arith rfl rfl rfl rfl rfl rfl (p5 (n:=0) aa aa)) ?_;refine ay ?_;refine ag (ad.bits rfl rfl rfl rfl rfl (HF 0 aa)) ?_;refine ay ?_;refine ag (ad.shift rfl rfl rfl rfl rfl aa (Ab 0 aa)) ?_;refine aJ ?_;refine ag (ad.arith rfl rfl rfl rfl rfl rfl (p5 (n:=0) aa aa)) ?_;refine ag (ad.arith rfl rfl rfl rfl rfl rfl (p5 (n:=0) aa aa)) ?_;refine aP ?_;refine ag (ad.arith rfl rfl rfl rfl rfl rfl (p5 (n:=0) aa aa)) ?_;refine aR ?_;refine ag (ad.arith rfl rfl rfl rfl rfl rfl (p5 (n:=0) aa aa)) ?_;refine aR ?_;refine ag (ad.shift rfl rfl rfl rfl rfl aa (Ab 0 aa)) ?_;refine ag (ad.arith rfl rfl rfl rfl rfl rfl (p5 (n:=0) aa aa)) ?_;refine aP ?_;refine ag (ad.arith rfl rfl rfl rfl rfl rfl (p5 (n:=n) aa aa)) ?_;refine aV ?_;refine dM [.tmp 4,.tmp 5] (H) ?_;exact⟨dP,rfl⟩
def aao(n:Nat)(hn:n<4294967296):aI prog 168 [.val (.int .u64 ((1:Nat):Int)),.val (.int .u64 (n:Int))] (.bj [.val c0,.val (.int .u64 (n:Int))]):=by
 intro H;refine aM func168 λB I a=>?_;refine aP ?_;refine .Xe ?_;refine ay ?_;refine ag (ad.call .k (aan n hn)) ?_;refine iB ?_;refine dM [.tmp 4,.tmp 5] (H) ?_;exact⟨dP,rfl⟩
def aap(n:Nat)(hn:1<=n/\n<=1000000)(H):bP prog 127 [.aj 1 [[(.i (-1))]],.i n] H (λy H'=>∃nb,y=(.val (.slice (some ⟨nb,0,none⟩) n n))/\H'= .au nb 3 (List.replicate n (.i (-1)))::H) (λ_ _=>False):=by
 refine aM func127 λB I t=>?_;refine bS ?_;refine bc (λaf=>?_) (λaf=>?_)
 ·simp at af;omega
 ·replace af:=dA af;refine ay ?_;refine ag (ad.Ft rfl rfl rfl (p5 (n:=1) rfl aa)) ?_;refine aR ?_;refine ag (ad.Ft rfl rfl rfl (p5 (n:=n) rfl aa)) ?_;refine ag (ad.call .k (aao n aa)) ?_;refine jR ?_;refine bc (λae=>?_) (λae=>?_)
  ·simp at ae;omega
  ·replace ae:=dA ae;refine aS ?_;refine ag (ad.Ft rfl rfl rfl (wrap64 (n:=(n:Int)) aa)) ?_;refine ai.pR (n) rfl rfl rfl rfl rfl rfl rfl rfl (rfl) aa ia (λnb=>?_);refine aP ?_;refine ai.Xh 1 rfl rfl rfl rfl rfl rfl (q1.aj (els:=[[(.i (-1))]]) (by simp[Op.operands,Call.operands]) rfl rfl (aq.refl _) aT) rfl cF cF (.head _ _ _) ?_;refine aS ?_;refine aA.k9 (H':=.au nb 3 (iN (.i (-1)) (.val aY) 1 (n - 1))::H) (by rw[show (0:Nat)+1*1=1 from rfl,show 1*1=1 from rfl];rw[<-aak _ _ _ hn.1];rfl) ?_;refine bm (λm q=>∃j:Nat,q=⟨[(8,.i j),(7,(.val (.slice (some ⟨nb,0,none⟩) n n))),(0,.aj 1 [[(.i (-1))]])],.au nb 3 (iN (.i (-1)) (.val aY) j (n - j))::H⟩/\m=n - j/\1<=j/\j<=n) (⟨1,rfl,rfl,aa,aa⟩) ?_;rintro m _ ⟨j,rfl,rfl,o,v⟩;refine a8 ?_;refine az (λak=>?_) λak=>?_
   ·have r:j<n:=by simpa using ak
    refine aH ?_;refine aA.cu mixed ?_;refine bW.WE [⟨7,45,false⟩] (()) (λ(g:Unit) (vs:List (Option Value))=>match vs with | [none]=>.au nb 3 (iN (.i (-1)) (.val aY) j (n - j))::H | [some _]=>.au nb 3 ((iN (.i (-1)) (.val aY) j (n - j)).take (0+j*1)++(((iN (.i (-1)) (.val aY) j (n - j)).drop (0+0*1)).take ((j - 0)*1)).take (min j (n - j)*1)++(iN (.i (-1)) (.val aY) j (n - j)).drop (0+j*1+min j (n - j)*1))::H | _=>[]) 0 8 48 rfl ao ao rfl rfl ao rfl ?_;refine cN.sc [[true],[false]] rfl ao rfl rfl rfl ⟨λg f=>ad.move rfl rfl rfl,λg f=>ad.move rfl rfl rfl,trivial⟩ ?_;refine cN.sc [[false]] rfl ao rfl rfl rfl ⟨λg f=>ad.move rfl rfl rfl,trivial⟩ ?_;refine cN.sc [[false]] rfl ao rfl rfl rfl ⟨λg f=>ad.move rfl rfl rfl,trivial⟩ ?_;refine cN.sc [[false]] rfl ao rfl rfl rfl ⟨λg f=>ad.Mr (kh:=.i64) (l:=j) (m:=n) rfl rfl rfl rfl rfl rfl rfl aa aa aa,trivial⟩ ?_;refine cN.sc [[false]] rfl ao rfl rfl rfl ⟨λg f=>ad.move rfl rfl rfl,trivial⟩ ?_;refine cN.sc [[false]] rfl ao rfl rfl rfl ⟨λg f=>ad.move rfl rfl rfl,trivial⟩ ?_;refine cN.sc [[false]] rfl ao rfl rfl rfl ⟨λg f=>ad.Mr (kl:=.i64) (l:=0) (m:=j) rfl rfl rfl rfl rfl rfl rfl aa aa aa,trivial⟩ ?_;refine cN.Gf 0 [[false]] rfl rfl rfl ao rfl rfl rfl ⟨λg f=>ib.copy () (min j (n - j)) rfl rfl rfl (q1.au (by simp[Op.operands,Call.operands]) rfl rfl (.head _) (by rw[PA];omega)) (by rw[Nat.zero_add,Nat.zero_mul,List.drop_zero,Nat.sub_zero,Nat.mul_one];exact aam _ _ _ _ rfl rfl) aa (by rw[PA];omega) (λv=>.head _ _ _),trivial⟩ ?_;refine cN.nil (λg f=>?_);simp only[b8.k8,List.map_cons,List.map_nil,List.cons_append,List.nil_append];refine aS ?_;refine aZ.k9 (H':=.au nb 3 (iN (.i (-1)) (.val aY) (j+min j (n - j)) (n - (j+min j (n - j))))::H) (by rw[Nat.zero_add,Nat.zero_add,Nat.zero_mul,Nat.mul_one,Nat.mul_one,Nat.mul_one,List.drop_zero,Nat.sub_zero,aaj _ _ _ _ _ aa aa,Nat.sub_sub]) ?_;refine aZ.le 8 (y:=.i (j+min j (n - j):Nat)) rfl (aq.b6 aa) ?_;exact aU ⟨j+min j (n - j),rfl,rfl,aa,aa⟩
   ·obtain rfl:j=n:=by simp at ak;omega
    refine bS ?_;refine aB 4 (.au nb 3 (iN (.i (-1)) (.val aY) j (j - j))::H) ?_;exact⟨nb,dP,by rw[Nat.sub_self,aal]⟩
instance:zs prog 174:=⟨ax⟩
instance:zs prog 176:=⟨ax⟩
abbrev ik(dR nb n:Nat)(o:al):aC:=[.au dR 23 [(.val (.slice (some ⟨nb,0,none⟩) n n))],.au nb 3 ((o).map ab.i)]
def aaq{next}{a}{f}{pre}{x}(j:f.cu=1)(h:pre++[x]<+:(visit p next 13 f a).1):
  (fe p next x (hG pre a)=true/\(pre++[x]=(visit p next 13 f a).1->(visit p next 13 f a).2.isNone=false))\/(fe p next x (hG pre a)=false/\pre++[x]=(visit p next 13 f a).1/\(visit p next 13 f a).2.isNone=true):=by
 have g:=xm (p:=p) (next:=next) 13 f a aa;rcases Classical.em (pre++[x]=(visit p next 13 f a).1/\(visit p next 13 f a).2=none) with⟨ae,ak⟩ | ae
 ·exact .inr ⟨g.no pre x ae ak,ae,by rw[ak];rfl⟩
 ·refine .inl ⟨g.yes pre x h ae,λe=>?_⟩;cases bK:(visit p next 13 f a).2 with
  | none=>exact absurd ⟨e,bK⟩ ae
  | some o=>rfl
def PB{x}{c}(h:iw x.op=some none)(hn:fW p x c):0<=x.n/\x.n<p.c2.length:=by
 have a:x.op=5:=by
  unfold iw at h
  repeat' split at h
  all_goals first | assumption | (simp at h;done)
 unfold fW qw at hn;rw[if_neg aa,if_neg aa,if_neg aa,if_neg aa,if_pos a] at hn;simpa using hn
def PC{n:Nat}(hn:n=p.nodes.length)(k size:Int)(next:Bool)(W:0<=size/\size<=1000)(out:al)(U:out.length=n)(G:p.aF.length<=100)(dR nb:Nat)(H:aC):
  bP prog 128 [.i k,.i size,.b next,.ptr (cH p),.p dR 0] (ik dR nb n out++H) (λ_ H'=>(visit p next 13 (⟨k,size,1⟩:dC) out).2.isNone=false/\H'=ik dR nb n (hG (visit p next 13 (⟨k,size,1⟩:dC) out).1 out)++H) (λy H'=>y=tK/\(visit p next 13 (⟨k,size,1⟩:dC) out).2.isNone=true/\∃L,H'=ik dR nb n L++H):=by
 refine bP.MR (n:=86) func128 rfl ax rfl rfl (λB I bN=>?_);refine ef.seq ?_;refine aA.mM ?_;refine aH ?_;refine ef.done ?_;refine ef.seq ?_;refine aA.mM ?_;refine aS ?_;refine ag (ad.call .k (below p (⟨k,size,1⟩:dC))) ?_;refine aR ?_;refine ef.done ?_;refine ef.block ?_;refine ef.MS func128 (λx=>.i x.n) (vb) ((visit p next 13 (⟨k,size,1⟩:dC) out).1) ((visit p next 13 (⟨k,size,1⟩:dC) out).2.isNone) (λpre H=>H=ik dR nb n (hG pre out)) (λy H=>y=tK/\∃L,H=ik dR nb n L) (ik dR nb n out) ([]) (H) (λ_=>True) (λx=>[(9,.ptr [.i x.bs,.i x.cu]),(8,.i x.n),(7,.ptr [.b next]),(3,.ptr (cH p)),(4,.p dR 0)]) rfl rfl rfl rfl rfl (aai B p next (⟨k,size,1⟩:dC) out rfl (by show _<=size/\size<=_;omega)) (rfl) (λy H h=>⟨vi,h.1.symm▸eU⟩) ?_ ?_ ?_ ?_
 ·intro R N gf x Q;refine ay ?_;refine bT (λdN=>?_);refine aQ ?_;refine aZ.nr (d:=9) rfl (fV.head _ _) ?_;exact λa w s=>⟨_,rfl,s.weaken (lZ h1) (List.Sublist.refl _)⟩
 ·intro R A Z pre x M Q N gf m D;obtain rfl:=D;obtain⟨C,q⟩:∃C,C=hG pre out:=⟨_,rfl⟩;have S:C.length=n:=by rw[q,xn,U]
  have ur:=aaq rfl m;rw[<-q] at ur ⊢;have t:=Oq (p:=p) (next:=next) 13 (⟨k,size,1⟩:dC) out cM (by unfold ve;simp only[];omega) x (m.subset aT);unfold ve at t;refine dW ?_;refine gw (λav=>ad.gX rfl rfl (cf av) rfl (cf av) wx) ?_;refine gw (λav=>(by first | exact ad.cE rfl rfl (cf av) rfl | (apply ad.iv rfl rfl (cf av);(case hm=>exact .tail _ (.tail _ (.tail _ (.head _))));(case hy=>exact Yw wx)))) ?_;refine aP ?_;cases p6:mQ p x C
  ·refine ai.ma rfl rfl (.mk' rfl rfl rfl rfl rfl) (mh (by simp only[Bool.cond_false_right,ge_iff_le];exact p6) _) eU ?_;rcases ur with⟨ae,_⟩ | ⟨_,ak,aL⟩
   ·rw[Yr p6] at ae;cases ae
   ·intro a w s;exact aZ.zp (J:=λpre H=>H=ik dR nb n (hG pre out)) (H:=ik dR nb n (C)) bE eU ak aL ⟨rfl,_,rfl⟩ a w s
  ·refine ai.mL rfl rfl rfl (.mk' rfl rfl rfl rfl rfl) (mT (by simp only[Bool.cond_false_right,ge_iff_le];exact p6) _) ?_;obtain⟨wj,Bs⟩:=Ot p6;refine aJ ?_;refine ag (ad.gX rfl rfl rfl rfl rfl aa) ?_;apply ai.gb rfl rfl rfl rfl rfl rfl rfl rfl rfl rfl
   (case hu=>repeat (first | exact bG.head _ _ _ | apply bG.tail));(case hfit=>exact Nat.ble_eq_true_of_le nV);(case hds=>exact Yx aa)
   refine aP ?_;refine ag (Br) ?_;refine aR ?_;refine bT (λsr=>?_);refine a8 ?_;refine ag (ad.call .k (number p G (fu p x) x.bs)) ?_;refine aJ ?_;cases l2:(fW p (fu p x) x.bs && (next || (fu p x).op !=18))
   ·refine ai.ma rfl rfl (.mk' rfl rfl rfl rfl rfl) (mh (by simp only[Bool.cond_false_right,Bool.cond_true_left];exact l2) _) eU ?_;rcases ur with⟨ae,_⟩ | ⟨_,ak,aL⟩
    ·rw[Ys l2] at ae;cases ae
    ·intro a w s;exact aZ.zp (J:=λpre H=>H=ik dR nb n (hG pre out)) (H:=ik dR nb n (iM C x)) bE eU ak aL ⟨rfl,_,rfl⟩ a w s
   ·refine ai.mL rfl rfl rfl (.mk' rfl rfl rfl rfl rfl) (mT (by simp only[Bool.cond_false_right,Bool.cond_true_left];exact l2) _) ?_;refine ay ?_;rcases hkd:iw (fu p x).op with _ | _ | hr
    ·refine ag (ad.call .k (show aI prog 131 [.i (fu p x).op] (.val .nilIface) from by have h:=Hw (fu p x).op;rw[hkd] at h;exact h)) ?_;refine aS ?_;refine ag (wi) ?_;refine aQ ?_;refine ag (wi) ?_;refine aS ?_;refine bc (λaf=>?_) (λaf=>?_)
     ·simp at af
     ·replace af:=dA af;refine ay ?_
      ·refine ai.ma rfl rfl (.mk' rfl rfl rfl rfl rfl) (mh (rfl) _) eU ?_;rcases ur with⟨ae,_⟩ | ⟨_,ak,aL⟩
       ·rw[Yt hkd] at ae;cases ae
       ·intro a w s;exact aZ.zp (J:=λpre H=>H=ik dR nb n (hG pre out)) (H:=ik dR nb n (iM C x)) bE eU ak aL ⟨rfl,_,rfl⟩ a w s
    ·refine ag (ad.call .k (show aI prog 131 [.i (fu p x).op] (.iface 176 (.agg [])) from by have h:=Hw (fu p x).op;rw[hkd] at h;exact h)) ?_;have hO:=Yv p6 l2 hkd;obtain⟨UT,yl⟩:=PB hkd (Bool.and_eq_true_iff.1 l2).1;refine aS ?_;refine ag (wi) ?_;refine aQ ?_;refine ag (wi) ?_;refine aS ?_;refine bc (λae=>?_) (λae=>?_)
     ·replace ae:=dA ae;refine aS ?_;refine b0 7 86 ?_;refine ay ?_;refine bh KP ?_;refine aH ?_;cases hbb:fe p next x C
      ·refine ai.ma rfl rfl (.mk' rfl rfl rfl rfl rfl) (mh BO _) eU ?_;rcases ur with⟨ae,_⟩ | ⟨_,ak,aL⟩
       ·rw[hbb] at ae;cases ae
       ·intro a w s;exact aZ.zp (J:=λpre H=>H=ik dR nb n (hG pre out)) (H:=ik dR nb n (iM C x)) bE eU ak aL ⟨rfl,_,rfl⟩ a w s
      ·refine ai.mL rfl rfl rfl (.mk' rfl rfl rfl rfl rfl) (mT BO _) ?_;refine aH ?_;exact aZ.CE (H:=ik dR nb n (iM C x)) bE Lq (by rw[Oo, <-q])
     ·simp at ae
    ·refine ag (ad.call .k (show aI prog 131 [.i (fu p x).op] (.iface 174 (.i hr)) from by have h:=Hw (fu p x).op;rw[hkd] at h;exact h)) ?_;have hO:=Yu p6 l2 hkd;refine aS ?_;refine ag (wi) ?_;refine aQ ?_;refine ag (wi) ?_;refine aS ?_;refine bc (λak=>?_) (λak=>?_)
     ·replace ak:=dA ak;refine aS ?_;refine b0 7 86 ?_;refine ay ?_;refine bh KP ?_;refine aH ?_;cases hbb:fe p next x C
      ·refine ai.ma rfl rfl (.mk' rfl rfl rfl rfl rfl) (mh BO _) eU ?_;rcases ur with⟨ae,_⟩ | ⟨_,ak,aL⟩
       ·rw[hbb] at ae;cases ae
       ·intro a w s;exact aZ.zp (J:=λpre H=>H=ik dR nb n (hG pre out)) (H:=ik dR nb n (iM C x)) bE eU ak aL ⟨rfl,_,rfl⟩ a w s
      ·refine ai.mL rfl rfl rfl (.mk' rfl rfl rfl rfl rfl) (mT BO _) ?_;refine aH ?_;exact aZ.CE (H:=ik dR nb n (iM C x)) bE Lq (by rw[Oo, <-q])
     ·simp at ak
 ·intro A M r o T D;obtain rfl:=D;refine aZ.vd (H':=.obj A (.deferred (some []))::(ik dR nb n (hG (visit p next 13 (⟨k,size,1⟩:dC) out).1 out)++H)) (.cons_cons _ (.append_left (List.sublist_append_right _ _) _)) ?_;refine aR ?_;refine aZ.Cd (rs:=[]) (H':=ik dR nb n (hG (visit p next 13 (⟨k,size,1⟩:dC) out).1 out)++H) rfl na (.nil) (c5.refl _) bE ?_;exact⟨o,rfl⟩
 ·intro A y M r o v N v1 V gf F K;obtain⟨rfl,hz,rfl⟩:=v;rw[eU.is _ _ _ K];exact Wx eU (fV.head _ _) (.append_left (List.sublist_append_right _ _) _) ⟨rfl,o,hz,rfl⟩ V gf F
end Go.Proofs.YtodccgailpkgeaaGreat

