/- A part of the proof. No condition. -/
import Derived.Test.YtodccgailpkgeaaGreatKindInfersP10
set_option linter.defProp false
set_option maxHeartbeats 1000000
set_option linter.unusedVariables false
set_option linter.unusedSimpArgs false
set_option maxRecDepth 10000
namespace Go.Proofs.YtodccgailpkgeaaGreat
open Go.Proofs.Tryz
open Go.Eng
open Go.Eng.Fc
open Go.Eng.dN
variable{α:Type}{B i s k off j:Nat}{f:Fn}{cz cs:bl}{F:aA->Prop}{J Jx:List Fact->aA->Prop}{iz:aA}{p:Int->Bool}{l:ak}{W:bt}{deep left v:Int}{U C4:dq}{jh:ab->aA->Prop}
def C5[Inhabited α]{l:List α}{k}(h:k<l.length):l=l.take k++l.getD k default::l.drop (k+1):=by
 rw[List.getD_eq_getElem?_getD,List.getElem?_eq_getElem h];simp
def YD{J Jx}(l)(j:uI B prog (.fn f cz cs) .i l F J Jx)(H Hx)(hF:F Hx)(h:J [] H):
  eK B prog 50 [.ai 1 (l.map λn=>[.i n]),.fn f cz cs] (H++Hx) (wJ J Jx l Hx) (λ_ _=>False):=by
 refine .of func50 rfl ay rfl rfl λI q=>?_;refine .eG (t:=0) rfl λgV=>?_;refine c4 ?_;refine bo (λm o=>∃(k:Nat) (a:aA),o=⟨[(8,.i k),(7,.i l.length),(0,.ai 1 (l.map λn=>[.i n])),(1,.fn f cz cs)],a++Hx⟩/\m=l.length - k/\k<=l.length/\J (l.take k) a) ⟨0,H,rfl,rfl,aS,h⟩ ?_;rintro m _ ⟨k,a,rfl,rfl,r,kr⟩;refine ax ?_;refine az (λaf=>?_) λaf=>?_
 ·refine gL ?_;refine .n1 rfl rfl rfl rfl rfl rfl rfl rfl cL (j (l.take k) (l.getD k default) a Hx Bn hF kr) ?_;rintro _ _ ⟨b,g,rfl,rfl,c,qt⟩;rw[c2 aa] at c qt;refine aO ?_;refine az (λae=>?_) λae=>?_
  ·refine bR ?_;refine .cg (rs:=[.tmp 4]) rfl eQ cL bC ?_;exact⟨g,rfl,.inr ⟨l.take k,l.getD k default,l.drop (k+1),C5 aa,fK Bq,Bv⟩⟩
  ·refine aP ?_;exact aW ⟨k+1,g,rfl,rfl,aa,c ae⟩
 ·refine bE ?_;refine .cg (rs:=[.tmp 4]) rfl eQ cL bC ?_;exact⟨a,rfl,.inl ⟨rfl,Bi⟩⟩
def YE(g:nf prog iz (.fn f cz cs) .i l p):yS prog iz 50 [.ai 1 (l.map λn=>[.i n]),.fn f cz cs] (λy=>∃n:Int,y= .i n/\decide (n>=0)=l.any p):=
 FQ ay (λB F J m h H a j c=>YD l h H a j c) g
def OS(g:nf prog iz (.fn f cz cs) .i l p):hP prog iz 24 [.ai 1 (l.map λn=>[.i n]),.fn f cz cs] (.b (l.any p)):=by
 intro H h;refine aM func24 λB I j=>?_;refine ba ?_;refine .F4 rfl rfl rfl .k (YE g) h λy c=>?_;obtain⟨n,rfl,a⟩:=c;refine aT ?_;refine aC 4 H ?_;exact⟨bq a,rfl⟩
def YF(a:nX prog (.fn f cz cs) .i p)(l:ak):aG prog 24 [.ai 1 (l.map λn=>[.i n]),.fn f cz cs] (.b (l.any p)):=(OS (a.on l)).pure
def YG(g:nf prog iz (.fn f cz cs) .i l p)(x)(c:x∈l):hP prog iz 200 [.i x,.ptr [.fn f cz cs]] (.b (!p x)):=by
 intro H h;refine aM func200 λB I m=>?_;refine ba ?_;refine .n1 rfl rfl rfl rfl rfl rfl rfl rfl cL (g x c B H h) ?_;rintro _ j ⟨rfl,a⟩;have a:=a.symm;subst a;refine aT ?_;refine aC 3 (H) ?_;exact⟨dO,rfl⟩
def OT(c:nf prog iz (.fn f cz cs) .i l p):hP prog iz 174 [.ai 1 (l.map λn=>[.i n]),.fn f cz cs] (.b (l.all p)):=by
 intro H h;refine aM func174 λB I j=>?_;refine bY ?_;refine ag (.hX .k cL (OS (.of λx a=>YG c x a)) (λe g=>by repeat (first | exact h e g | apply List.mem_cons_of_mem))) ?_;refine aT ?_;refine aC 4 H ?_;exact⟨bq (by simp[List.not_any_eq_all_not]),rfl⟩
def OU(a:nX prog (.fn f cz cs) .i p)(l:ak):aG prog 174 [.ai 1 (l.map λn=>[.i n]),.fn f cz cs] (.b (l.all p)):=(OT (a.on l)).pure
def YH(l)(j:uI B prog (.fn f cz cs) ab.fact l F J Jx)(H Hx)(hF:F Hx)(h:J [] H):
  eK B prog 262 [.ai 6 (kt l),.fn f cz cs] (H++Hx) (wJ J Jx l Hx) (λ_ _=>False):=by
 refine .of func262 rfl ay rfl rfl λI q=>?_;refine .eG (t:=0) rfl λgV=>?_;refine c4 ?_;refine bo (λm o=>∃(k:Nat) (a:aA),o=⟨[(8,.i k),(7,.i l.length),(0,.ai 6 (kt l)),(1,.fn f cz cs)],a++Hx⟩/\m=l.length - k/\k<=l.length/\J (l.take k) a) ⟨0,H,rfl,rfl,aS,h⟩ ?_;rintro m _ ⟨k,a,rfl,rfl,r,kr⟩;refine ax ?_;refine az (λaf=>?_) λaf=>?_
 ·refine gL ?_;refine .n1 rfl rfl rfl rfl rfl rfl rfl rfl (c0.refl _) (j (l.take k) (l.getD k default) a Hx Bn hF kr) ?_;rintro _ _ ⟨b,g,rfl,rfl,c,qt⟩;rw[c2 aa] at c qt;refine aO ?_;refine az (λae=>?_) λae=>?_
  ·refine bR ?_;refine .cg (rs:=[.tmp 4]) rfl eQ cL bC ?_;exact⟨g,rfl,.inr ⟨l.take k,l.getD k default,l.drop (k+1),C5 aa,fK Bq,Bv⟩⟩
  ·refine aP ?_;exact aW ⟨k+1,g,rfl,rfl,aa,c ae⟩
 ·refine bE ?_;refine .cg (rs:=[.tmp 4]) rfl eQ cL bC ?_;exact⟨a,rfl,.inl ⟨rfl,Bi⟩⟩
def C6(s)(c)(f:0<=c)(a:s<18446744073709551616):aG prog 137 [ab.set s,.i c] (.b (s.testBit c.toNat)):=by
 intro H;refine aM func137 λB I g=>?_;refine ba ?_;refine ag (.shift rfl rfl rfl rfl rfl f (MX _ _)) ?_;refine ag (.bits rfl rfl rfl rfl rfl (zA _ 1 (Nat.lt_of_le_of_lt (Nat.div_le_self _ _) a) aa)) ?_;refine aT ?_;refine aC 4 H ?_;exact⟨bq (GI _ _ a),rfl⟩
def vj(s)(c)(f:0<=c/\c<64)(g:s<18446744073709551616):aG prog 173 [ab.set s,.i c] (ab.set (s ||| 2^c.toNat)):=by
 intro H;refine aM func173 λB I h=>?_;refine ba ?_;refine ag (.shift rfl rfl rfl rfl rfl f.1 (MY _ f)) ?_;refine ag (ad.bits rfl rfl rfl rfl rfl (uZ _ _ g (Nat.pow_lt_pow_right (a:=2) (n:=64) aa aa))) ?_;refine aY ?_;refine aC 4 (H) ?_;exact⟨dO,rfl⟩
def OV(f):aG prog 243 [ab.fact f] (.b (decide (2<=f.op) && decide (f.op<=4))):=by
 intro H;refine aM func243 λB I a=>?_;refine jj ?_;refine aC 2 H ?_;exact⟨bq (by by_cases h:2<=f.op <;> simp[h]),rfl⟩
def OW(f):aG prog 150 [ab.fact f] (.b (f.op==2 || f.op==3 || f.op==4)):=by
 intro H;refine aM func150 λB I c=>?_;refine Cy ?_;refine aC 2 H ?_;exact⟨bq (by by_cases h:f.op=2 <;> by_cases a:f.op=3 <;> simp[h,a]),rfl⟩
def YI(op):aG prog 242 [.i op] (.i (if op=5 then 1 else if op=6\/op=7 then 2 else 0)):=by
 intro H;refine aM func242 λB I a=>?_;refine jI ?_;refine az (λaf=>?_) λaf=>?_
 ·refine aI ?_;refine aC 2 H ?_;exact⟨dO,rfl⟩
 ·refine aP ?_;refine az (λae=>?_) λae=>?_
  ·refine aO ?_;refine az (λao=>?_) λao=>?_
   ·refine aI ?_;refine aC 2 (H) ?_;exact⟨dO,rfl⟩
   ·refine ba ?_;refine aC 2 (H) ?_;exact⟨dO,rfl⟩
  ·refine aT ?_;refine az (λaV=>?_) λaV=>?_
   ·refine aI ?_;refine aC 2 (H) ?_;exact⟨dO,rfl⟩
   ·refine ba ?_;refine aC 2 (H) ?_;exact⟨dO,rfl⟩
def YJ(W)(c)(f:W.parents.length<=60):aG prog 175 [iP W,.i c] (.b (r9 W c)):=by
 intro H;refine aM func175 λB I a=>?_;unfold iP;refine .FP (t:=0) (i:=0) rfl rfl λa8=>?_;refine w7 ?_;refine aC 4 H ?_;exact⟨bq (by unfold r9;by_cases h:3<=c <;> simp[h]),rfl⟩
def Hl(W)(c)(f:W.parents.length<=60):aG prog 136 [iP W,.i c] (.b (jf W c)):=by
 intro H;refine aM func136 λB I a=>?_;unfold iP;refine .FP (t:=0) (i:=0) rfl rfl λa8=>?_;refine w7 ?_;refine aC 4 H ?_;exact⟨bq (by unfold jf;by_cases h:0<=c <;> simp[h]),rfl⟩
def YK(W)(c):aG prog 263 [iP W,.i c] (.b (o0 W c)):=by
 intro H;refine aM func263 λB I a=>?_;unfold iP;refine oY ?_;refine aC 4 H ?_;exact⟨bq (by unfold o0;by_cases h:0<=c <;> simp[h]),rfl⟩
def YL(W)(c)(f:W.parents.length<=60):aG prog 184 [ab.world W,.i c] (.b (jf W c)):=by
 intro H;refine aM func184 λB I a=>?_;refine .n0 (t:=0) (i:=0) rfl rfl λa8=>?_;refine nk ?_;refine aC 4 H ?_;exact⟨bq (by unfold jf;by_cases h:0<=c <;> simp[h]),rfl⟩
def YM{J Jx:List α->aA->Prop}{l:List α}{Hx}{y}{H'}(h:wJ J Jx l Hx y H'):∃(n:Int) (c:aA),y= .i n/\H'=c++Hx/\(decide (n>=0)=false->J l c)/\(decide (n>=0)=true->∃a,a<+:l/\Jx a c):=by
 obtain⟨c,rfl,h⟩:=h;rcases h with⟨rfl,h⟩ | ⟨a,x,rest,rfl,rfl,h⟩
 ·exact⟨-1,c,rfl,rfl,λ_=>h,λh=>by simp at h⟩
 ·exact⟨a.length,c,rfl,rfl,λh=>by simp at h,λ_=>⟨a++[x],⟨rest,aS⟩,h⟩⟩
def YN(l)(m:uI B prog (.fn f cz cs) ab.fact l F J Jx)(H Hx)(hF:F Hx)(o:J [] H):
  eK B prog 240 [.ai 6 (kt l),.fn f cz cs] (H++Hx) (λy g=>∃b a,y= .b b/\g=a++Hx/\(b=false->J l a)/\(b=true->∃c,c<+:l/\Jx c a)) (λ_ _=>False):=by
 refine .of func240 rfl ay rfl rfl λI q=>?_;refine ba ?_;refine cE .k (YH l m H Hx hF o) ?_;intro y g j;obtain⟨n,a,rfl,rfl,h⟩:=YM j;refine aT ?_;refine .cg (rs:=[.tmp 4]) rfl eQ cL bC ?_;exact⟨decide (n>=0),a,rfl,rfl,h⟩
def YO{L}(g:oQ B prog (.fn f cz cs) ab.fact L (λ_=>True) J Jx)(pre)(x)(H Hx)(c:pre++[x]<+:L)(j:J pre H):
  eK B prog 241 [ab.fact x,.ptr [.fn f cz cs]] (H++Hx) (λy m=>∃b a,y= .b b/\m=a++Hx/\(b=false->J (pre++[x]) a)/\(b=true->Jx (pre++[x]) a)) (λ_ _=>False):=by
 refine .of func241 rfl ay rfl rfl λI q=>?_;refine bY ?_;refine .n1 rfl rfl rfl rfl rfl rfl rfl rfl cL (g pre x H Hx c trivial j) ?_;rintro _ _ ⟨b,a,rfl,rfl,o,l⟩;refine aT ?_;refine .cg (rs:=[.tmp 3]) rfl eQ cL bC ?_;exact⟨!b,a,rfl,rfl,λh=>o gQ,λh=>l gQ⟩
def Hm(l)(o:oQ B prog (.fn f cz cs) ab.fact l (λ_=>True) J Jx)(H Hx)(j:J [] H):
  eK B prog 215 [.ai 6 (kt l),.fn f cz cs] (H++Hx) (λy r=>∃b g,y= .b b/\r=g++Hx/\(b=true->J l g)/\(b=false->∃pre,pre<+:l/\Jx pre g)) (λ_ _=>False):=by
 refine .of func215 rfl ay rfl rfl λI t=>?_;refine bY ?_;refine cE .k (YN (F:=λ_=>True) (J:=J) (Jx:=Jx) l (λpre x H Hx m _ j=>eY.rU (YO o pre x H Hx m j)) H Hx trivial j) ?_;rintro _ _ ⟨b,g,rfl,rfl,q,s⟩;refine aT ?_;refine .cg (rs:=[.tmp 4]) rfl eQ cL bC ?_;exact⟨!b,g,rfl,rfl,λh=>q gQ,λh=>s gQ⟩
def YP(W)(l):aG prog 244 [iP W,.ints l] (.b (o2 W l)):=by
 intro H;refine aM func244 λB I a=>?_;refine .eG (t:=1) rfl λa8=>?_;refine c4 ?_;refine aj.db rfl rfl rfl rfl rfl rfl (λaw=>.call (.mk' rfl rfl rfl rfl c9) (OU (.of (YK W)) l)) ?_;refine aT ?_;refine aC 4 H ?_;exact⟨bq (by unfold o2;by_cases h:l.length<=2 <;> simp[h] <;> omega),rfl⟩
def zV(B:Nat)(W:bt)(deep:Int):Prop:=∀(f:Fact) (left:Int) (b:Nat) (Hx:aA),0<=left/\left<=1000->
 eK B prog 217 [iP W,ab.fact f,.p b 0,.i deep] (.au b 3 [.i left]::Hx) (λy H'=>y= .b (fz W f left deep).1/\H'= .au b 3 [.i (fz W f left deep).2]::Hx) (λ_ _=>False)
def YQ(j:0<deep/\deep<=1000)(a:zV B W (deep - 1))(f)(left)(b)(Hx)(c:0<=left/\left<=1000):
  eK B prog 245 [ab.fact f,.ptr [iP W],.ptr [.p b 0],.ptr [.i deep]] (.au b 3 [.i left]::Hx) (λy g=>y= .b (fz W f left (deep - 1)).1/\g= .au b 3 [.i (fz W f left (deep - 1)).2]::Hx) (λ_ _=>False):=by
 refine .of func245 rfl ay rfl rfl (λI h=>?_);refine dk ?_;refine cE .k (a f left b Hx c) ?_;rintro _ _ ⟨rfl,rfl⟩;refine aY ?_;refine aZ.cg (rs:=[.tmp 5]) rfl (.tmp rfl (.nil)) (c0.refl _) bC ?_;exact⟨rfl,rfl⟩
def YR(o:0<deep/\deep<=1000)(g:zV B W (deep - 1))(left)(j:0<=left/\left<=1000)(b)(L):
  oQ B prog (.fn (.func 245) [] [.ptr [iP W],.ptr [.p b 0],   .ptr [.i deep]]) ab.fact L (λ_=>True) (λpre H=>H= [.au b 3 [.i (ek W pre left (deep - 1)).2]]/\(ek W pre left (deep - 1)).1=true) (λpre H=>H= [.au b 3 [.i (ek W pre left (deep - 1)).2]]/\(ek W pre left (deep - 1)).1=false):=by
 rintro pre x H l _ _ ⟨rfl,f⟩;have m:=GL W pre left (deep - 1) j.1;refine eY.mono (eY.rU (YQ o g x _ b l ⟨m.2 f,aa⟩)) ?_ (λ_ _ h=>h);rintro _ _ ⟨rfl,rfl⟩;have c:=M3 W (deep - 1) x pre left f;exact⟨_,[.au b 3 [.i (fz W x (ek W pre left (deep - 1)).2 (deep - 1)).2]],rfl,rfl,λh=>⟨by rw[c],by rw[c];exact h⟩,λh=>⟨by rw[c],by rw[c];exact h⟩⟩
def YS{l}{b}{f}{h:aA}(o:f=true->h= [.au b 3 [.i (ek W l left (deep - 1)).2]]/\(ek W l left (deep - 1)).1=true)
  (m:f=false->∃a,a<+:l/\h= [.au b 3 [.i (ek W a left (deep - 1)).2]]/\(ek W a left (deep - 1)).1=false):f=(ek W l left (deep - 1)).1/\h= [.au b 3 [.i (ek W l left (deep - 1)).2]]:=by
 cases f with
 | true=>obtain⟨j,g⟩:=o rfl;exact⟨g.symm,j⟩
 | false=>
  obtain⟨a,⟨c,rfl⟩,j,g⟩:=m rfl;rw[M4 W (deep - 1) c a left g];exact⟨g.symm,j⟩
def YT{f}(h:iQ f left deep=false)(c:0<=deep)(a:left<=1000):(0<=left/\left<=1000)/\0<deep:=by
 simp[iQ,Bool.or_eq_false_iff,decide_eq_false_iff_not,beq_eq_false_iff_ne,ne_eq] at h;omega
def YU{f}(h:iQ f (left - 1) deep):fz W f left deep=(false,left - 1):=by rw[CI,if_pos h]
def YV{f}(h:iQ f (left - 1) deep=false)(a:dm f):fz W f left deep=(jl W f && kE W f,left - 1):=by rw[CI,if_neg cf,if_pos a]
def YW{f}(h:iQ f (left - 1) deep=false)(ae:dm f=false)(a:jk f=false):fz W f left deep=(false,left - 1):=by rw[CI,if_neg cf,if_neg rM,if_neg (by simp[a])]
def YX{f}(h:iQ f (left - 1) deep=false)(ae:dm f=false)(a:jk f):fz W f left deep=ek W f.kids (left - 1) (deep - 1):=by rw[CI,if_neg cf,if_neg rM,if_pos a]
def YY{f}(h:f.op=2):kE W f=((f.n==0) && jf W f.cls):=by rw[kE,if_pos h]
def YZ{f}(h: ¬f.op=2):kE W f=((f.cls==0) && decide (f.n>= -1000000000) && decide (f.n<=1000000000)):=by rw[kE,if_neg h]
def kd(a b):(bif a then b else false)=(a && b):=by cases a <;> rfl
def OX(I:W.parents.length<=60)(m:0<=deep/\deep<=1000)(w:0<deep->zV B W (deep - 1)):zV B W deep:=by
 intro f left b r E;refine .of func217 rfl ay rfl rfl λI H=>?_;refine .n0 (t:=1) (i:=5) rfl rfl λY0=>?_;refine .n0 (t:=1) (i:=2) rfl rfl λY1=>?_;refine oX ?_;refine .cw mixed ?_;refine Xe ?_;refine .dG 19 25 110 rfl aq rfl rfl aq ?_;refine aT ?_;refine eO.db rfl rfl rfl rfl rfl (λaw=>.call (.mk' rfl rfl rfl rfl c9) ((YI _))) ?_;refine ax ?_;refine bc (λaf=>?_) λaf=>?_
 ·have a:iQ f (left - 1) deep=true:=by simpa only[iQ,eM,j6] using af
  have hn:=YU (W:=W) a;refine aP ?_;refine .cg (rs:=[.tmp 8]) rfl eQ cL bC ?_;exact⟨bq (by rw[hn]),s0⟩
 ·have a:iQ f (left - 1) deep=false:=by simpa only[iQ,eM,j6] using af
  obtain⟨l,j⟩:=YT a m.1 aa;refine aP ?_;refine ag (.call .k ((OV _))) ?_;refine aY ?_;refine bc (λae=>?_) λae=>?_
  ·have g:dm f=false:=by simpa only[dm,Bool.not_eq_true'] using ae
   refine oY ?_;refine bc (λao=>?_) λao=>?_
   ·have c:jk f=false:=by rw[jk,Bool.not_eq_false'];simpa only[eM] using ao
    have hn:=YW (W:=W) a g c;refine aI ?_;refine .cg (rs:=[.tmp 8]) rfl eQ cL bC ?_;exact⟨bq (by rw[hn]),s0⟩
   ·have c:jk f=true:=by rw[jk,Bool.not_eq_true'];simpa only[eM] using ao
    have hn:=YX (W:=W) a g c;refine aI ?_;refine cE .k (Hm f.kids (YR ⟨j,m.2⟩ (w j) (left - 1) l b _) [.au b 3 [.i (left - 1)]] r zr) ?_;rintro _ _ ⟨G,F,rfl,rfl,D,v⟩;obtain⟨q,A⟩:=YS D v;subst A;refine aY ?_;refine .cg (rs:=[.tmp 8]) rfl eQ cL bC ?_;exact⟨bq (by rw[hn];exact q),s0⟩
  ·have g:dm f=true:=by simpa only[dm,Bool.not_eq_false'] using ae
   have hn:=YV (W:=W) a g;refine c4 ?_;refine aj.db rfl rfl rfl rfl rfl rfl (λaw=>.call (.mk' rfl rfl rfl rfl c9) ((YP _ _))) ?_;refine aT ?_;refine bc (λaV=>?_) λaV=>?_
   ·have h:jl W f=false:=by rw[jl,Bool.not_eq_false'];simpa only[eM] using aV
    refine aI ?_;refine .cg (rs:=[.tmp 8]) rfl eQ cL bC ?_;exact⟨bq (by rw[hn,h];rfl),s0⟩
   ·have h:jl W f=true:=by rw[jl,Bool.not_eq_true'];simpa only[eM] using aV
    refine aI ?_;refine az (λbu=>?_) λbu=>?_
    ·refine ba ?_;refine aj.db rfl rfl rfl rfl rfl rfl (λaw=>.call (.mk' rfl rfl rfl rfl c9) ((Hl _ _ wx))) ?_;refine aP ?_;refine .cg (rs:=[.tmp 8]) rfl eQ cL bC ?_;exact⟨bq (by rw[hn,h,YY bu,kd];rfl),s0⟩
    ·refine oX ?_;refine .cg (rs:=[.tmp 8]) rfl eQ cL bC ?_;exact⟨bq (by rw[hn,h,YZ bu,kd,kd];rfl),s0⟩
theorem OY{B}{W}(a:W.parents.length<=60):∀(n:Nat),n<=1000->zV B W n
 | 0,h=>OX a lz λh=>by omega
 | n+1,h=>OX a lz (λ_=>by
  have e:((n+1:Nat):Int) - 1=(n:Int):=by omega
  rw[e];exact OY a n aa)
def Y2{p}(c:nX prog (.fn f cz cs) ab.fact p)(l):aG prog 215 [.ai 6 (kt l),.fn f cz cs] (.b (l.all p)):=by
 intro H;have v:m4 prog 215=true:=(Hm (B:=0) l (c.gG l) [] H ⟨rfl,aS⟩).1;refine⟨v,λB I w j z m a=>((Hm (B:=B) l (c.gG l) [] H ⟨rfl,aS⟩).2 I w j z m a).mono λe C o=>o.mono (λy E r=>?_) λ_ _ h=>h⟩;obtain⟨b,D,rfl,rfl,s,A⟩:=r;cases b with
 | true=>
  obtain⟨rfl,h⟩:=s rfl;exact⟨congrArg ab.b (List.all_eq_true.2 h).symm,rfl⟩
 | false=>
  obtain⟨t,⟨g,rfl⟩,rfl,q,x,rfl,h⟩:=A rfl;refine⟨congrArg ab.b ?_,rfl⟩;symm;rw[List.all_eq_false];exact⟨x,aS,cf⟩
def Y3(W)(a:W.parents.length<=60)(f):aG prog 216 [ab.fact f,.ptr [iP W]] (.b (lA W f)):=by
 intro H;refine aM func216 λB I c=>?_;refine aI ?_;refine bK (λdM=>?_);refine aP ?_;refine cE .k (OY a 12 aa f 24 dM H lz) ?_;rintro _ _ ⟨rfl,rfl⟩;refine aY ?_;refine aC 3 (H) ?_;exact⟨bq rfl,rfl⟩
def Y4(W)(a:W.parents.length<=60)(l):aG prog 199 [iP W,ab.facts l] (.b (l.all (lA W))):=by
 intro H;refine aM func199 λB I c=>?_;refine bY ?_;refine ag (.call .k (Y2 (.of (Y3 W a)) l)) ?_;refine aY ?_;refine aC 4 (H) ?_;exact⟨dO,rfl⟩
def Hn(h:i<U.length):(cD W++U.map λs=>ab.set s)[2+i]? =some (ab.set (U.getD i 0)):=by
 show ([ab.bm W.parents,ab.ints W.owner]++_)[2+i]? =_;rw[List.getElem?_append_right aS];simp[List.getElem?_map,List.getElem?_eq_getElem h,List.getD_eq_getElem?_getD]
def Y5(h:i<U.length):(cD W++U.map λs=>ab.set s).take (2+i)++[ab.set s]++(cD W++U.map λs=>ab.set s).drop (2+i+1)=cD W++(U.set i s).map λs=>ab.set s:=by
 have e:cD W= [.bm W.parents,.ints W.owner]:=rfl;have a:(cD W++U.map λs=>ab.set s).take (2+i)=cD W++(U.take i).map λs=>ab.set s:=by
  rw[e,List.take_append,List.map_take];simp[List.take_of_length_le]
 have c:(cD W++U.map λs=>ab.set s).drop (2+i+1)=(U.drop (i+1)).map λs=>ab.set s:=by
  rw[show 2+i+1=(i+1)+2 from by omega,List.map_drop];rfl
 rw[a,c,List.append_assoc,List.append_assoc];congr 1;rw[List.set_eq_take_append_cons_drop,if_pos h];simp
def vk(l:ak)(v:Int):Int:=match l.findIdx? (λx=>x==v) with | some i=>(i:Int) | none=>-1
def Y6(a:k<l.length)(c:∀x∈l.take k,x≠v)(h:v=l.getD k default):(k:Int)=vk l v:=by
 have e:l.findIdx? (λx=>x==v)=some k:=by
  rw[List.findIdx?_eq_some_iff_getElem];refine⟨a,?_,λj f=>?_⟩
  ·rw[h,List.getD_eq_getElem?_getD,List.getElem?_eq_getElem a];simp
  ·have:=c (l[j]'aa) (by rw[List.mem_take_iff_getElem];exact⟨j,aa,rfl⟩);simpa using this
 rw[vk,e]
def Y7(a:∀x∈l,x≠v):(-1:Int)=vk l v:=by
 have e:l.findIdx? (λx=>x==v)=none:=by
  rw[List.findIdx?_eq_none_iff];intro x c;simpa using a x c
 rw[vk,e]
def Y8(l)(v):decide (vk l v>=0)=l.contains v:=by
 unfold vk;cases h:l.findIdx? (λx=>x==v) with
 | none=>
  rw[List.findIdx?_eq_none_iff] at h;symm;simp;intro c;have:=h v c;simp at this
 | some i=>
  rw[List.findIdx?_eq_some_iff_getElem] at h;obtain⟨a,f,_⟩:=h;symm;simp;have:l[i]=v:=by simpa using f
  rw[<-this];exact List.getElem_mem a
def Y9(l)(v):aG prog 115 [.ints l,.i v] (.i (vk l v)):=by
 intro H;refine aM func115 λB I g=>?_;refine .eG (t:=0) rfl λgV=>?_;refine c4 ?_;refine bo (λm a=>∃k:Nat,a=⟨[(8,.i k),(7,.i l.length),(0,.ints l),(1,.i v)],H⟩/\m=l.length - k/\k<=l.length/\∀x∈l.take k,x≠v) ⟨0,rfl,rfl,aS,aS⟩ ?_;rintro m _ ⟨k,rfl,rfl,f,ck⟩;refine ax ?_;refine az (λaf=>?_) λaf=>?_
 ·refine jj ?_;refine az (λae=>?_) λae=>?_
  ·refine bR ?_;refine aC 4 H ?_;exact⟨fK (Y6 aa ck ae),rfl⟩
  ·refine aP ?_;exact aW ⟨k+1,rfl,rfl,aa,M9 aa ck ae⟩
 ·refine bE ?_;refine aC 4 H ?_;exact⟨fK (Y7 K8),rfl⟩
def Ho(l)(v):aG prog 78 [.ints l,.i v] (.b (l.contains v)):=by
 intro H;refine aM func78 λB I a=>?_;refine ba ?_;refine ag (.call .k ((Y9 _ _))) ?_;refine aT ?_;refine aC 4 H ?_;exact⟨bq (Y8 _ _),rfl⟩
def xq(k:Nat):dq:=[1,3,5].take k++List.replicate (63 - k) 0
def Za(h:k<3):(xq k).set k (1 ||| 2^(k:Int).toNat)=xq (k+1):=by
 have:k=0\/k=1\/k=2:=by omega
 rcases this with rfl | rfl | rfl <;> rfl
def OZ(h:k<=3):(xq k).length=63:=by simp[xq];omega
def Zb(h:i<U.length)(a:U.set i s=C4):(cD W++U.map λs=>ab.set s).take (2+i)++[ab.set s]++(cD W++U.map λs=>ab.set s).drop (2+i+1)=cD W++C4.map λs=>ab.set s:=a▸Y5 h
def O0(a:off=2+i)(h:i<U.length):Nat.ble (off+1) (cD W++U.map λs=>ab.set s).length=true:=by
 subst a;rw[Nat.ble_eq];simp[cD];omega
def Zc(h:(bif decide ((W.parents.length:Int)>60) then true else decide ((W.owner.length:Int)>40))=true):cx W=false:=by
 rw[eM] at h;simp[Bool.or_eq_true,decide_eq_true_eq] at h;unfold cx;rcases h with h | h
 ·have:decide (W.parents.length<=60)=false:=by simp;omega
  simp[this]
 ·have:decide (W.owner.length<=40)=false:=by simp;omega
  simp[this]
def Zd(h:(bif decide ((W.parents.length:Int)>60) then true else decide ((W.owner.length:Int)>40))=false):W.parents.length<=60/\W.owner.length<=40:=by
 rw[eM] at h;simp[Bool.or_eq_false_iff,decide_eq_false_iff_not] at h;omega
def O1(h:W.parents.length<=60/\W.owner.length<=40):cx W=(iB 0 W.parents && W.owner.all (r9 W)):=by
 simp[cx,h.1,h.2]
def O2{l:List ak}(a:k<l.length):iB k (l.drop k)=(k2 k [] (l.getD k default) && iB (k+1) (l.drop (k+1))):=by
 rw[List.drop_eq_getElem_cons a,iB,List.getD_eq_getElem?_getD,List.getElem?_eq_getElem a];rfl
def Ze{l:List ak}(U)(a:k<l.length):hA (l.drop k) k U=hA (l.drop (k+1)) (k+1) (U.set (3+k) (o1 U k (l.getD k default))):=by
 rw[List.drop_eq_getElem_cons a,hA,List.getD_eq_getElem?_getD,List.getElem?_eq_getElem a];rfl
def O3(a:j<l.length):k2 i (l.take j) (l.drop j)=(!(decide (l.getD j default<3) || decide (l.getD j default>=3+i) || (l.take j).contains (l.getD j default)) && k2 i (l.take (j+1)) (l.drop (j+1))):=by
 rw[List.drop_eq_getElem_cons a,k2, <-c2 a,List.getD_eq_getElem?_getD,List.getElem?_eq_getElem a];rfl
def Zf(a:off=2+i)(h:i<U.length):(cD W++U.map λs=>ab.set s)[off]? =some (ab.set (U.getD i 0)):=a▸Hn h
def O4(a:off=2+i)(h:i<U.length)(c:U.set i s=C4):(cD W++U.map λs=>ab.set s).take off++[ab.set s]++(cD W++U.map λs=>ab.set s).drop (off+1)=cD W++C4.map λs=>ab.set s:=a▸Zb h c
def Zg(a:j<l.length):(l.drop j).foldl (λs (p:Int)=>s ||| U.getD p.toNat 0) s=(l.drop (j+1)).foldl (λs (p:Int)=>s ||| U.getD p.toNat 0) (s ||| U.getD (l.getD j default).toNat 0):=by
 rw[List.drop_eq_getElem_cons a,List.foldl_cons,pX a]
def Zh{r}(c:j<l.length)(a:k2 k (l.take j) (l.drop j)=r)(h:(bif bif decide (l.getD j default<3) then true else decide (3+(k:Int)<=l.getD j default) then true else (l.take j).contains (l.getD j default))=false):
  3<=l.getD j default/\l.getD j default<3+k/\k2 k (l.take (j+1)) (l.drop (j+1))=r:=by
 rw[eM,eM] at h;have f:=h;simp only[Bool.or_eq_false_iff,decide_eq_false_iff_not] at f;refine⟨aa,aa,?_⟩;rw[O3 c] at a;have e:(decide (l.getD j default<3) || decide (l.getD j default>=3+(k:Int)) || (l.take j).contains (l.getD j default))=false:=h;rw[e] at a;simpa using a
def Zi{r}(c:j<l.length)(a:k2 k (l.take j) (l.drop j)=r)(h:(bif bif decide (l.getD j default<3) then true else decide (3+(k:Int)<=l.getD j default) then true else (l.take j).contains (l.getD j default))=true):r=false:=by
 rw[eM,eM] at h;rw[O3 c] at a;have e:(decide (l.getD j default<3) || decide (l.getD j default>=3+(k:Int)) || (l.take j).contains (l.getD j default))=true:=h;rw[e] at a;simpa using a.symm
def Zj(f:W.parents.length<=60/\W.owner.length<=40)(c:k<W.parents.length)(a:iB k (W.parents.drop k)=iB 0 W.parents)(h:k2 k [] (W.parents.getD k default)=false):cx W=false:=by
 rw[O2 c,h] at a;rw[O1 f, <-a];rfl
def vl(a:∀x∈U,x<18446744073709551616)(i):U.getD i 0<18446744073709551616:=by
 rw[List.getD_eq_getElem?_getD];by_cases h:i<U.length
 ·rw[List.getElem?_eq_getElem h];exact a _ (List.getElem_mem h)
 ·rw[List.getElem?_eq_none aa];decide
def Hp(a:∀x∈U,x<18446744073709551616){i s}(c:s<18446744073709551616):∀x∈U.set i s,x<18446744073709551616:=by
 intro x f;rcases List.mem_or_eq_of_mem_set f with h | h
 ·exact a x h
 ·exact h▸c
def l9{s t}(a:s<18446744073709551616)(ht:t<18446744073709551616):s ||| t<18446744073709551616:=Nat.or_lt_two_pow (n:=64) a ht
def q4(h:k<64):2^k<18446744073709551616:=Nat.pow_lt_pow_right (a:=2) aa h
def O5(W):aG prog 135 [ab.world W] (.bk [if cx W then iP W else .one,.b (cx W)]):=by
 intro H;refine aM func135 λB I J=>?_;refine .n0 (t:=0) (i:=0) rfl rfl λgV=>?_;refine .n0 (t:=0) (i:=1) rfl rfl λvi=>?_;refine nk ?_;refine bc (λaf=>?_) λaf=>?_
 ·have C:cx W=false:=Zc af;refine aI ?_;refine .cg (rs:=[.tmp 2,.tmp 3]) (H':=H) rfl qV (.cons (.one rfl λ_ h=>by cases h) (.cons gu .nil)) bC ?_;exact⟨by rw[C];rfl,rfl⟩
 ·have v:=Zd af;refine ax ?_;refine .qD rfl rfl rfl rfl rfl rfl rfl λdM=>?_;refine bY ?_;refine bo (λm l=>∃k:Nat,l=⟨[(24,.i k),(4,.p dM 0),(1,.ptr (cD W))],.au dM 187 (cD W++(xq k).map λs=>ab.set s)::H⟩/\m=3 - k/\k<=3) tp ?_;rintro m _ ⟨k,rfl,rfl,z⟩;refine ax ?_;refine az (λae=>?_) λae=>?_
  ·refine bY ?_;refine bP 6 91 ?_;refine aF ?_;refine bg (.call .k (vj 1 k aa aa)) ?_;refine aT ?_;apply aj.fZ rfl rfl rfl rfl rfl rfl rfl rfl rfl rfl
   (case hu=>repeat (first | exact .head _ _ _ | apply .tail));(case hfit=>exact O0 (i:=k) aS (by rw[OZ z];omega));(case hds=>exact O4 (i:=k) aS (by rw[OZ z];omega) (Za aa))
   refine aP ?_;exact aW ⟨k+1,rfl,rfl,aa⟩
  ·obtain rfl:k=3:=by omega
   refine eb ?_;refine bo (λm l=>∃(k:Nat) (U:dq),l=⟨[(38,.i k),(37,.i W.parents.length),(36,.bm W.parents),(4,.p dM 0),(1,.ptr (cD W))],.au dM 187 (cD W++U.map λs=>ab.set s)::H⟩/\m=W.parents.length - k/\k<=W.parents.length/\U.length=63/\(∀x∈U,x<18446744073709551616)/\hA (W.parents.drop k) k U=mF W/\iB k (W.parents.drop k)=iB 0 W.parents) ⟨0,xq 3,rfl,rfl,aa,rfl,c8,rfl,rfl⟩ ?_;rintro m _ ⟨k,U,rfl,rfl,z,o,A,f,a⟩;refine ax ?_;refine az (λao=>?_) λao=>?_
   ·refine gL ?_;refine ag (.call .k (vj 1 (3+k) aa aa)) ?_;refine aT ?_;refine .eG (t:=7) rfl λyH=>?_;refine aP ?_;refine bo (λm l=>∃(j s:Nat),l=⟨[(48,.i j),(47,.i (W.parents.getD k default).length),(46,.ints (W.parents.getD k default)),(8,ab.set s),(6,.i k),(7,.ints (W.parents.getD k default)),(38,.i k),(37,.i W.parents.length),(36,.bm W.parents),(4,.p dM 0),(1,.ptr (cD W))],.au dM 187 (cD W++U.map λs=>ab.set s)::H⟩/\m=(W.parents.getD k default).length - j/\j<=(W.parents.getD k default).length/\s<18446744073709551616/\((W.parents.getD k default).drop j).foldl (λs (p:Int)=>s ||| U.getD p.toNat 0) s=o1 U k (W.parents.getD k default)/\k2 k ((W.parents.getD k default).take j) ((W.parents.getD k default).drop j)=k2 k [] (W.parents.getD k default)) (⟨0,1 ||| 2^((3:Int)+k).toNat,rfl,rfl,aa,l9 aa (q4 aa),by rw[show ((3:Int)+k).toNat=3+k from by omega];rfl,rfl⟩) ?_;rintro m _ ⟨j,s,rfl,rfl,K,r,w,q⟩;refine ax ?_;refine az (λaV=>?_) λaV=>?_
    ·refine MP ?_;refine gb (λaw=>.B2 rfl rfl qp rfl qp aa) ?_;refine aR ?_;refine aj.db rfl rfl rfl rfl rfl rfl (λaw=>.call (.mk' rfl rfl rfl rfl c9) (Ho _ _)) ?_;refine aF ?_;refine az (λbu=>?_) λbu=>?_
     ·have C:cx W=false:=Zj v aa a (Zi aa q bu);refine jI ?_;refine .cg (rs:=[.tmp 2,.tmp 3]) (H':=H) rfl qV (.cons (.one rfl λ_ h=>by cases h) (.cons gu .nil)) bC ?_;exact⟨by rw[C];rfl,rfl⟩
     ·obtain⟨G,E,B⟩:=Zh aa q bu;refine ba ?_;refine ag ((by first | exact .cF rfl rfl rfl rfl | (apply ad.ij rfl rfl rfl;(case hm=>repeat (first | exact .head _ | refine .tail _ ?_));(case hy=>exact Zf (i:=((W.parents.getD k default).getD j default).toNat) aa aa)))) ?_;refine ag (.bits rfl rfl rfl rfl rfl (uZ _ _ r (vl A _))) ?_;refine aI ?_;exact aW (⟨j+1,s ||| U.getD ((W.parents.getD k default).getD j default).toNat 0,rfl,rfl,aa,l9 r (vl A _),by rw[<-Zg aa];exact w,B⟩)
    ·obtain rfl:j=(W.parents.getD k default).length:=by omega
     rw[List.drop_length,List.foldl_nil] at w;rw[List.drop_length,List.take_length,k2] at q;subst w;refine dk ?_;apply aj.fZ rfl rfl rfl rfl rfl rfl rfl rfl rfl rfl
     (case hu=>repeat (first | exact .head _ _ _ | apply .tail));(case hfit=>exact O0 (i:=3+k) aa aa);(case hds=>exact O4 (i:=3+k) aa aa rfl)
     refine aP ?_;exact aW (⟨k+1,U.set (3+k) (o1 U k (W.parents.getD k default)),rfl,rfl,aa,by simp[o],Hp A r,by rw[<-Ze U aa];exact f,by rw[O2 aa, <-q] at a;simpa using a⟩)
   ·obtain rfl:k=W.parents.length:=by omega
    rw[List.drop_length,hA] at f;subst f;rw[List.drop_length,iB] at a;refine ax ?_;refine eA 4 ?_;refine ax ?_;refine ag (.call .k (OU (.of λx=>YJ W x v.1) W.owner)) ?_;refine aT ?_;refine .cg (rs:=[.tmp 2,.tmp 3]) (H':=H) rfl qV (.cons (.Va (c:=cx W=true) rfl λ_ h=>by cases h) (.cons gu .nil)) bC ?_;exact⟨by rw[O1 v, <-a];rfl,rfl⟩
def O6(h:cx W):aG prog 135 [ab.world W] (.bk [iP W,.b true]):=by have:=O5 W;rwa [if_pos h,h] at this
def Zk(h:cx W=false):aG prog 135 [ab.world W] (.bk [.one,.b false]):=by have:=O5 W;rwa [if_neg cf,h] at this
def vm(h:cx W):W.owner.length<=40:=by simp[cx] at h;exact h.1.1.2
def O7(h:cx W)(l):aG prog 171 [ab.world W,ab.facts l] (.bk [iP W,.b (l.all (lA W))]):=by
 intro H;refine aM func171 λB I c=>?_;have a:=q0 h;refine bY ?_;refine ag (.call .k (O6 h)) ?_;refine c4 ?_;refine gb (λaw=>ad.call (.mk' rfl rfl rfl rfl c9) (Y4 W a l)) ?_;refine ax ?_;refine dL [.tmp 4,.tmp 5] (H) ?_;exact⟨dO,rfl⟩
def Zl(h:cx W=false)(l):aG prog 171 [ab.world W,ab.facts l] (.bk [.one,.b false]):=by
 intro H;refine aM func171 λB I c=>?_;refine bY ?_;refine ag (.call .k (Zk h)) ?_;refine c4 ?_;refine .db (x:=.b false) rfl rfl rfl rfl rfl rfl (λaw=>absurd aw aS) ?_;refine ax ?_;refine dL [.tmp 4,.tmp 5] (H) ?_;exact⟨dO,rfl⟩
def refused(b):aG prog 172 [.b b] (.i (if b then 0 else 2)):=by
 intro H;refine aM func172 λB I a=>?_;refine bR ?_;refine az (λaf=>?_) λaf=>?_
 ·refine aP ?_;refine aC 2 H ?_;exact⟨fK x8,rfl⟩
 ·refine aI ?_;refine aC 2 H ?_;exact⟨fK x8,rfl⟩
def Zm{W}(h:cx W)(f):aG prog 133 [ab.world W,ab.fact f] (.i (if lA W f then 0 else 2)):=by
 intro H;refine aM func133 λB I a=>?_;refine bE ?_;refine ag (.r8 [(_,ab.fact f)] rfl rfl (by first | rfl | simp_all) rfl rfl rfl rfl rfl) ?_;refine ag (ad.s4 .k (.cons h8 (.cons (tr [f] cO) .nil)) (by have:=O7 h [f];rwa [List.all_cons,List.all_nil,Bool.and_true] at this)) ?_;refine bY ?_;refine ag (ad.call .k ((refused _))) ?_;refine aY ?_;refine aC 4 (H) ?_;exact⟨dO,rfl⟩
def Zn{W}(h:cx W=false)(f):aG prog 133 [ab.world W,ab.fact f] (.i 2):=by
 intro H;refine aM func133 λB I a=>?_;refine bE ?_;refine ag (.r8 [(_,ab.fact f)] rfl rfl (by first | rfl | simp_all) rfl rfl rfl rfl rfl) ?_;refine ag (ad.s4 .k (.cons h8 (.cons (tr [f] cO) .nil)) (Zl h [f])) ?_;refine bY ?_;refine ag (ad.call .k ((refused _))) ?_;refine aY ?_;refine aC 4 (H) ?_;exact⟨dO,rfl⟩
def O8(c:nX prog (.fn f cz cs) .i p)(l)(o:l.length<=1000000):aG prog 253 [.ints l,.fn f cz cs] (.ints (l.filter p)):=by
 intro H;refine aM func253 λB I q=>?_;refine bR ?_;refine hh 5 3 1 ?_;refine aP ?_;refine bo (λm h=>∃(i:Nat) (v:Value),h=⟨[(10,.i i),(9,.i l.length),(8,.ints l),(1,.fn f cz cs),(5,.as (.ints ((l.take i).filter p)) v)],.own 3 1 v::H⟩/\m=l.length - i/\i<=l.length) (⟨0,_,rfl,rfl,aa⟩) ?_;rintro m _ ⟨i,v,rfl,rfl,r⟩;refine ax ?_;refine az (λaf=>?_) λaf=>?_
 ·have a:i<l.length:=by omega
  refine eb ?_;refine .n1 rfl rfl rfl rfl rfl rfl rfl rfl cL (c B _ _) ?_;rintro _ _ ⟨rfl,rfl⟩;refine aO ?_;refine az (λae=>?_) λae=>?_
  ·refine aF ?_;refine aj.cn (x:=.ai 1 [[.i (l.getD i default)]]) rfl rfl rfl (ad.row rfl rfl cC rfl rfl rfl rfl rfl rfl) ?_;refine aj.dJ rfl rfl rfl rfl rfl rfl rfl rfl (an.refl _) (rfl) (λ_=>df) KA KA (λv20=>?_);refine aI ?_;exact aW (⟨i+1,v20,by rw[xe a ae],rfl,a⟩)
  ·refine aP ?_;exact aW (⟨i+1,v,by rw[xf a ae],rfl,a⟩)
 ·obtain rfl:i=l.length:=by omega
  rw[List.take_length];refine bR ?_;refine aZ.cg (rs:=[.tmp 4]) (H':=H) rfl (.tmp rfl (.nil)) (.cons (an.e2 _ _) .nil) bC ?_;exact⟨dO,rfl⟩
def Zo(n):aG prog 265 [.i n] (.b (n !=0)):=by
 intro H;refine aM func265 λB I a=>?_;refine dk ?_;refine aC 2 H ?_;exact⟨dO,rfl⟩
def Zp(l)(a:l.length<=1000000):aG prog 252 [.ints l] (.ints (lC l)):=by
 intro H;refine aM func252 λB I c=>?_;refine aI ?_;refine ag (.call .k (O8 (.of Zo) l a)) ?_;refine aY ?_;refine aC 2 (H) ?_;exact⟨dO,rfl⟩
def Zq(h n):aG prog 254 [.i n,.ptr [.i h]] (.b (n !=h)):=by
 intro H;refine aM func254 λB I a=>?_;refine c4 ?_;refine aC 3 H ?_;exact⟨dO,rfl⟩
def Zr(a)(ht:total a<=1000)(Z:a.length<=1000):aG prog 230 [.bm a] (.bk [.ints (lB a).1,.b (lB a).2]):=by
 intro H;refine aM func230 λB I bW=>?_;refine ax ?_;refine .scope ?_;refine ax ?_;refine .label ?_;refine aO ?_;refine hh 4 3 1 ?_;refine bo (λm s=>∃(A:List ak) (c:ak) (n:Nat) (v:Value),s=⟨[(0,.bm A),(4,.as (.ints c) v)],.own 3 1 v::H⟩/\m=n/\total A<n/\pT n A c=lB a/\total A+c.length<=total a/\A.length=a.length) ⟨a,[],total a+1,_,rfl,rfl,aa,rfl,aS,rfl⟩ ?_;rintro m _ ⟨A,c,n,v,rfl,rfl,W,O,Q,T⟩;obtain⟨n,rfl⟩:∃q,m=q+1:=⟨m - 1,aa⟩;refine aR ?_;refine .scope ?_;refine ax ?_;refine .label ?_;refine bY ?_;refine bo (λm s=>∃(i:Nat) (J:Bool),s=⟨[(16,.i i),(15,.i A.length),(14,.bm A),(5,.b J),(0,.bm A),(4,.as (.ints c) v)],.own 3 1 v::H⟩/\m=A.length - i/\i<=A.length/\J= !((A.take i).all List.isEmpty)/\iR A A=iR A (A.drop i)) ⟨0,false,rfl,rfl,aa,rfl,rfl⟩ ?_;rintro m _ ⟨i,J,rfl,rfl,aQ,z,l⟩;refine ax ?_;refine az (λaf=>?_) λaf=>?_
 ·have f:i<A.length:=by omega
  obtain⟨L,D⟩:∃L,L=A.getD i default:=iO;have o:=u4 f;rw[<-D] at o;have N:=CN A i f;rw[<-D] at N;refine dk ?_;rw[<-D];refine ax ?_;refine az (λae=>?_) λae=>?_
  ·have E:L= []:=List.eq_nil_of_length_eq_zero aa;refine aI ?_;exact aW ⟨i+1,J,rfl,rfl,f,by rw[zD f, <-D,E,z];simp,by rw[l,o,Ng E]⟩
  ·have r:0<L.length:=by omega
   refine ji ?_;refine bo (λm s=>∃j:Nat,s=⟨[(25,.i j),(24,.i A.length),(23,.bm A),(7,.ints L),(16,.i i),(15,.i A.length),(14,.bm A),(5,.b true),(0,.bm A),(4,.as (.ints c) v)],.own 3 1 v::H⟩/\m=A.length - j/\j<=A.length/\((A.take j).any λm=>m.tail.contains (L.getD 0 default))=false) iA ?_;rintro m _ ⟨j,rfl,rfl,X,g⟩;refine ax ?_;refine az (λao=>?_) λao=>?_
   ·have B:j<A.length:=by omega
    obtain⟨M,K⟩:∃M,M=A.getD j default:=iO;refine bR ?_;rw[<-K];refine .cw mixed ?_;refine ji ?_;refine .dG 4 9 66 rfl aq rfl rfl aq ?_;refine aR ?_;refine jJ (λaw=>.LI (n:=1) rfl rfl qp rfl qp (by have:=of_decide_eq_true aw;omega)) ?_;refine aT ?_;refine aj.db rfl rfl rfl rfl rfl rfl (λaw=>ad.call (.mk' rfl rfl rfl rfl c9) ((zU _ _))) ?_;refine aF ?_;refine az (λaV=>?_) λaV=>?_
    ·refine bR ?_;exact aW (⟨i+1,true,rfl,rfl,f,by rw[zD f, <-D,Nk r,Bool.and_false];rfl,by rw[l,o,Nh r (by rw[CO,Nl B (by rw[<-K];exact Nn aV)];rfl)]⟩)
    ·refine aP ?_;exact aW (⟨j+1,rfl,rfl,B,by rw[Nf B,g, <-K,No aV];rfl⟩)
   ·obtain rfl:j=A.length:=by omega
    rw[List.take_length] at g;obtain⟨h,F⟩:∃h,h=L.getD 0 default:=⟨_,rfl⟩;rw[<-F] at g;have C:iR A A=some h:=by rw[l,o,Ni r (by rw[CO, <-F,g];rfl),F]
    have S:=GM h A i f (by rw[<-D,F];exact bI r);have R:=CM h A;refine bY ?_;refine bK (λdM=>?_);refine aY ?_;refine eA 10 ?_;rw[<-F];refine aF ?_;refine aj.cn (x:=.ai 1 [[.i h]]) rfl rfl rfl (ad.row rfl rfl cC rfl rfl rfl rfl rfl rfl) ?_;refine aj.dJ rfl rfl rfl rfl rfl rfl rfl rfl (an.refl _) (rfl) (λ_=>df) m1 m1 (λHq=>?_);refine bY ?_;refine hh 11 23 1 ?_;refine aP ?_;refine bo (λm s=>∃(k:Nat) (w:Value),s=⟨[(50,.i k),(49,.i A.length),(48,ab.bm A),(11,.as (ab.bm (iC h (A.take k))) w),(10,.ptr [.i h]),(4,.as (.ai 1 ((c.map λn=>[ab.i n])++[[ab.i h]])) Hq)],.own 23 1 w::.own 3 1 Hq::H⟩/\m=A.length - k/\k<=A.length) (⟨0,_,rfl,rfl,aa⟩) ?_;rintro m _ ⟨k,w,rfl,rfl,Y⟩;refine ax ?_;refine az (λbu=>?_) λbu=>?_
    ·have t:k<A.length:=by omega
     have P:=CN A k t;refine eb ?_;refine ag (.call .k (O8 (.of (Zq h)) (A.getD k default) aa)) ?_;refine .cn (x:=.ai 1 [[.ints ((A.getD k default).filter (· !=h))]]) rfl rfl rfl h7 ?_;refine aj.dJ rfl rfl rfl rfl rfl rfl rfl rfl (an.refl _) (rfl) (λ_=>df) Bc Bc λv59=>?_;refine aI ?_;exact aW (⟨k+1,v59,by rw[Nj _ t],rfl,t⟩)
    ·obtain rfl:k=A.length:=by omega
     rw[List.take_length];refine ax ?_;refine .le 11 (y:=.bm (iC h A)) rfl GF ?_;refine bE ?_;refine .VK ?_;refine aR ?_;exact aW ⟨iC h A,c++[h],n,Hq,by rw[GN],rfl,aa,by rw[<-O,GO C],Bm,by rw[EK,T]⟩
 ·obtain rfl:i=A.length:=by omega
  rw[List.drop_length] at l;rw[List.take_length] at z;refine eb ?_;refine .wT ?_;refine aF ?_;refine .wT ?_;refine .cg (rs:=[.tmp 2,.tmp 3]) (H':=H) rfl qV w9 bC ?_;exact⟨by rw[<-O,GP l,z,Bool.not_not];rfl,rfl⟩
def O9(s)(c)(f:0<=c/\c<64)(g:s<18446744073709551616):aG prog 203 [.agg [ab.set s],.i c] (.agg [ab.set (s ||| 2^c.toNat)]):=by
 intro H;refine aM func203 λB I h=>?_;refine aO ?_;refine .qD rfl rfl rfl rfl rfl rfl rfl λdM=>?_;refine bK (λb1=>?_);refine aF ?_;refine bP 4 12 ?_;refine aF ?_;refine bg (ad.shift rfl rfl rfl rfl rfl f.1 (MY _ f)) ?_;refine aO ?_;refine ag (ad.bits rfl rfl rfl rfl rfl (uZ _ _ g (Nat.pow_lt_pow_right (a:=2) (n:=64) aa aa))) ?_;refine bE ?_;refine dL [.cell 4 248] (H) ?_;exact⟨dO,rfl⟩
def Zs(s t)(a:s<18446744073709551616)(ht:t<18446744073709551616):aG prog 204 [.agg [ab.set s],.agg [ab.set t]] (.agg [ab.set (s ||| t)]):=by
 intro H;refine aM func204 λB I c=>?_;refine aO ?_;refine .qD rfl rfl rfl rfl rfl rfl rfl λdM=>?_;refine aR ?_;refine bK (λb1=>?_);refine aI ?_;refine ag (.bits rfl rfl rfl rfl rfl (uZ _ _ a ht)) ?_;refine bE ?_;refine dL [.cell 4 248] (H) ?_;exact⟨dO,rfl⟩
abbrev Zt(dc:Nat)(G:ab)(p:Prog):ab:=.fn (.func 170) [] [.ptr [G],.ptr (cM p),.p dc 0]
abbrev o5(dc:Nat)(G:ab)(p:Prog):bn:=.au dc 213 [Zt dc G p]
def WalkC(B:Nat)(p:Prog)(next:Bool)(G:ab)(L:List dw)(h0:Bool)(J:List dw->aA->Prop)(jh:ab->aA->Prop)(dc:Nat)(f:Nat):Prop:=
 ∀(x:dw) (out:ak) (pre rest:List dw) (pL Hx:aA),x.cw+f=14->1<=x.cw->-1000<=x.bB/\x.bB<=1000+x.cw->pre++(visit p next f x out).1++rest=L->((visit p next f x out).2=none->rest= []/\h0=true)->((visit p next f x out).2≠none->h0=true->rest≠ [])->J pre pL->
  eK B prog 170 [.i x.n,va x,.ptr [G],.ptr (cM p),.p dc 0] (pL++(o5 dc G p::Hx)) (λy H'=>y= .b true/\(visit p next f x out).2≠none/\∃H1,H'=H1++(o5 dc G p::Hx)/\J (pre++(visit p next f x out).1) H1)
   (λy H'=>(visit p next f x out).2=none/\∃H1,H'=H1++(o5 dc G p::Hx)/\jh y H1)
def Pa{p}{next}{g}{L}{j}{J}(hN:w4 B prog (.fn g cz cs) (λx=>.i x.n) va L j J jh)(D:∀y H,jh y H->∃v,y.Const v)
  {U f} (fv:∀C,f=C+1->WalkC B p next (.fn g cz cs) L j J jh U C):WalkC B p next (.fn g cz cs) L j J jh U f:=by
 intro x S E N pL Hx a9 dV im e5 a4 a3 eD;refine .of func170 rfl ay rfl rfl λI bW=>?_;refine bR ?_;refine .Fs rfl rfl rfl rfl rfl rfl rfl cL (hN E x pL (o5 U (.fn g cz cs) p::Hx) (XG e5) eD) ?_ ?_
 ·rintro _ _ ⟨z,rfl,rfl,r,A⟩;obtain⟨a2,C,rfl⟩:=XI a9 e5 a4 r;obtain⟨wg,Bg⟩:=XJ a2;obtain⟨K,eX⟩:∃K,K=fu p x:=iO;have q:=vb (f:=C) a2;rw[<-eX] at q;refine aF ?_;refine bc (λaf=>?_) λaf=>?_
  ·simp at af
  ·replace af:=dC af;refine aI ?_;refine ag Bf ?_;refine aP ?_;rw[show p.nodes.getD x.n.toNat default=K from eX.symm];refine .eG (t:=21) rfl λakt=>?_;refine bo (λm st=>∃(i:Nat) (l:List dw) (o:ak) (z:aA),st=⟨[(23,.i i),(22,.i K.kids.length),(21,.ints K.kids),(6,.ptr [.i x.bB,.i x.cw]),(0,.i x.n),(2,.ptr [.fn g cz cs]),(3,.ptr (cM p)),(4,.p U 0)],z++(o5 U (.fn g cz cs) p::Hx)⟩/\m=K.kids.length - i/\i<=K.kids.length/\eS (visit p next C) ((hC x K.op 0 K.kids).take i) (iE S x)=(l,some o)/\J (E++x::l) z) ⟨0,[],iE S x,z,rfl,rfl,aa,rfl,A⟩ ?_;rintro m _ ⟨i,l,o,z,rfl,rfl,aQ,fw,A⟩;refine ax ?_;refine az (λae=>?_) λae=>?_
   ·have V:i<K.kids.length:=by omega
    obtain⟨R,hR,Z,W⟩:=NV (NS (p:=p) (next:=next) C) (NW x K.op V) fw;obtain⟨a0,bF,gF⟩:=XK q e5 a4 a3 hR Z (λo' h=>(W o' h).2);refine oX ?_;refine bK (λtb=>?_);refine ba ?_;refine ag (Bf) ?_;refine ba ?_;refine az (λao=>?_) λao=>?_
    ·refine ba ?_;refine aB.perm (H':=z++(o5 U (.fn g cz cs) p::.au tb 169 [.i (gR x K.op i (K.kids.getD i default)).bB,.i (gR x K.op i (K.kids.getD i default)).cw]::Hx)) (by rw[show (gR x K.op i (K.kids.getD i default)).bB=x.bB+1 from by rw[show (p.nodes.getD x.n.toNat default).op=K.op by rw[eX];rfl] at ao;simp at ao;simp only[gR];rw[if_pos aa]];exact NT _ _ _ _) ?_;refine aR ?_;refine ag (Bd) ?_;refine aR ?_;refine ag (Kx) ?_;refine aj.s9 rfl rfl .k (fv C rfl (gR x K.op i (K.kids.getD i default)) o (E++x::l) (R++N) z (.au tb 169 [.i (gR x K.op i (K.kids.getD i default)).bB,.i (gR x K.op i (K.kids.getD i default)).cw]::Hx) rJ rJ Bz a0 bF gF A) ?_ ?_
     ·rintro _ _ ⟨rfl,Q,M,rfl,Y⟩;obtain⟨o',bb⟩:=Option.ne_none_iff_exists'.1 Q;obtain⟨T,_⟩:=W o' bb;refine aF ?_;refine bc (λaV=>?_) (λaV=>?_)
      ·simp at aV
      ·replace aV:=dC aV;refine aF ?_;refine aB.vc (CX _ _ _ _) ?_;refine aY ?_;exact aW (⟨i+1,l++(visit p next C (gR x K.op i (K.kids.getD i default)) o).1,o',M,cO,rfl,V,T,by simpa using Y⟩)
     ·rintro y Zu ⟨O,M,rfl,F⟩ a w s I v bd;obtain⟨v0,G⟩:=D _ _ F;rw[G.is _ _ _ bd];exact kC (P:=prog) (fn:=Tryz.f170) G (CX _ _ _ _) ⟨by rw[q];exact (Z O).2,M,rfl,F⟩ a w s
    ·refine aF ?_;refine aB.perm (H':=z++(o5 U (.fn g cz cs) p::.au tb 169 [.i (gR x K.op i (K.kids.getD i default)).bB,.i (gR x K.op i (K.kids.getD i default)).cw]::Hx)) (by rw[show (gR x K.op i (K.kids.getD i default)).bB=x.bB from by rw[show (p.nodes.getD x.n.toNat default).op=K.op by rw[eX];rfl] at ao;simp at ao;simp only[gR];rw[if_neg aa]];exact NT _ _ _ _) ?_;refine aR ?_;refine ag (Bd) ?_;refine aR ?_;refine ag (Kx) ?_;refine aj.s9 rfl rfl .k (fv C rfl (gR x K.op i (K.kids.getD i default)) o (E++x::l) (R++N) z (.au tb 169 [.i (gR x K.op i (K.kids.getD i default)).bB,.i (gR x K.op i (K.kids.getD i default)).cw]::Hx) rJ rJ Bz a0 bF gF A) ?_ ?_
     ·rintro _ _ ⟨rfl,Q,M,rfl,Y⟩;obtain⟨o',bb⟩:=Option.ne_none_iff_exists'.1 Q;obtain⟨T,_⟩:=W o' bb;refine aF ?_;refine bc (λbu=>?_) (λbu=>?_)
      ·simp at bu
      ·replace bu:=dC bu;refine aF ?_;refine aB.vc (CX _ _ _ _) ?_;refine aY ?_;exact aW (⟨i+1,l++(visit p next C (gR x K.op i (K.kids.getD i default)) o).1,o',M,cO,rfl,V,T,by simpa using Y⟩)
     ·rintro y Zu ⟨O,M,rfl,F⟩ a w s I v bd;obtain⟨v0,G⟩:=D _ _ F;rw[G.is _ _ _ bd];exact kC (P:=prog) (fn:=Tryz.f170) G (CX _ _ _ _) ⟨by rw[q];exact (Z O).2,M,rfl,F⟩ a w s
   ·obtain rfl:i=K.kids.length:=by omega
    have a5:eS (visit p next C) (hC x K.op 0 K.kids) (iE S x)=(l,some o):=by rwa [List.take_of_length_le (by rw[G4];omega)] at fw
    rw[a5] at q;refine bE ?_;refine aZ.cg (rs:=[.tmp 7]) rfl (.tmp rfl (.nil)) (c0.refl _) bC ?_;exact⟨dO,by rw[q];simp,z,rfl,by rw[q];exact A⟩
 ·rintro y M ⟨z,rfl,r,b8,F⟩ a w s I v bd;obtain⟨v0,G⟩:=D _ _ F;rw[G.is _ _ _ bd];exact kC (P:=prog) (fn:=Tryz.f170) G (.refl _) ⟨XH e5 a3 b8 r,z,rfl,F⟩ a w s
def Pb{B}{p}{next}{g}{m cs}{L}{c}{J}{l}(j:w4 B prog (.fn g m cs) (λx=>.i x.n) va L c J l)(a:∀y H,l y H->∃v,y.Const v)(q):
  ∀f,WalkC B p next (.fn g m cs) L c J l q f
 | 0=>Pa j a λf' h=>by omega
 | f+1=>Pa j a (λf' h=>by(obtain rfl:f'=f:=by omega);exact Pb j a q f')
def Zv{p}{next}{g}{x}{c}{J}(O:x.cw=1)(E: -1000<=x.bB/\x.bB<=1001)(j:∀y H,jh y H->∃v,y.Const v)
  (z:w4 B prog (.fn g cz cs) (λx=>.i x.n) va (visit p next 13 x c).1 (visit p next 13 x c).2.isNone J jh) {q Hx} (K:J [] q):
  eK B prog 169 [.fn g cz cs,.ptr (cM p),.ptr [.i x.n],.ptr [.i x.bB,.i x.cw]] (q++Hx) (λ_ H'=>(visit p next 13 x c).2.isNone=false/\∃f dc,H'=f++(o5 dc (.fn g cz cs) p::Hx)/\J (visit p next 13 x c).1 f)
   (λy H'=>(visit p next 13 x c).2.isNone=true/\∃f dc,H'=f++(o5 dc (.fn g cz cs) p::Hx)/\jh y f):=by
 refine .of func169 rfl ay rfl rfl λI M=>?_;refine aP ?_;refine bK (λdc=>?_);refine aI ?_;refine .perm (H':=q++(o5 dc (.fn g cz cs) p::Hx)) List.perm_middle.symm ?_;refine aR ?_;refine ag Bd ?_;refine aO ?_;refine .s9 rfl rfl .k (Pb z j dc 13 x c [] [] q Hx aa aa aa aS (λh=>⟨rfl,by rw[h];rfl⟩) (λh F=>absurd (Option.isNone_iff_eq_none.1 F) h) K) ?_ ?_
 ·rintro _ _ ⟨rfl,t,f,rfl,r⟩;refine aR ?_;refine .nU (rs:=[]) rfl (.nil) cL bC ?_;exact⟨by cases h:(visit p next 13 x c).2 with
 | none=>exact absurd h t
 | some o=>rfl,f,dc,rfl,by simpa using r⟩
 ·rintro y N ⟨jz,f,rfl,C⟩ a w s I v G;obtain⟨L,A⟩:=j _ _ C;rw[A.is _ _ _ G];exact kC (P:=prog) (fn:=Tryz.f169) A h8 ⟨oJ,f,dc,rfl,C⟩ a w s
def below(p)(x):aG prog 129 [ab.prog p,.i x.n,va x] (.fn (.func 169) [] [.ptr (cM p),.ptr [.i x.n],.ptr [.i x.bB,.i x.cw]]):=by
 intro H;refine aM func129 λB I a=>?_;refine eb ?_;refine aC 6 (H) ?_;exact⟨dO,rfl⟩
def Zw(B)(p)(next)(x)(out)(aK:x.cw=1)(j: -1000<=x.bB/\x.bB<=1001):Gp B prog (.fn (.func 169) [] [.ptr (cM p),.ptr [.i x.n],.ptr [.i x.bB,.i x.cw]]) (λx=>.i x.n) va (visit p next 13 x out).1 (visit p next 13 x out).2.isNone [] (λ_=>True):=by
 intro J A g q r f m H z s;refine eY.rU ((Zv aK j f m s).imp ?_ ?_)
 ·rintro y t ⟨h,l,dc,rfl,a⟩;exact⟨h,l,[o5 dc (.fn g q r) p],rfl,trivial,a⟩
 ·rintro y t ⟨h,l,dc,rfl,a⟩;exact⟨h,l,[o5 dc (.fn g q r) p],rfl,a⟩
end Go.Proofs.YtodccgailpkgeaaGreat

namespace Go.Eng.dN
open Go.Eng.Fc
def Hr(n:Nat)(h:n<4294967296):pz .and .u64 (n:Int) 4294967295=some (n:Int):=by
 rw[show (4294967295:Int)=((4294967295:Nat):Int) from rfl,zA n 4294967295 aa aa];rw[show (4294967295:Nat)=2^32 - 1 from rfl,Nat.and_two_pow_sub_one_eq_mod,Nat.mod_eq_of_lt aa]
def zW(n:Nat)(h:n<4294967296):ux .shr .u64 (n:Int) 32=some 0:=by
 show some ((n:Int).fdiv (2^(min (32:Int).toNat 64)))=some 0;congr 1;rw[show (2:Int)^(min (32:Int).toNat 64)=4294967296 from rfl,Int.fdiv_eq_ediv_of_nonneg _ aa];omega
def p0{a:Int}{n:Nat}(h:a=n)(hn:n<18446744073709551616):IntKind.u64.wrap a=(n:Int):=by rw[h];exact zz n hn
def iG(x z:ab)(j k:Nat):bl:=List.replicate j x++List.replicate k z
def Zx(x z)(j k m)(a:m<=j)(f:m<=k):(iG x z j k).take j++((iG x z j k).take j).take m++(iG x z j k).drop (j+m)=iG x z (j+m) (k - m):=by
 have c:(iG x z j k).take j=List.replicate j x:=by rw[iG,List.take_append_of_le_length aS,List.take_of_length_le aS]
 rw[c,List.take_replicate,Nat.min_eq_left a,iG,List.drop_append,List.drop_eq_nil_of_le aS,List.nil_append,List.length_replicate,Nat.add_sub_cancel_left,List.drop_replicate,iG,List.replicate_append_replicate]
def Zy(x z)(k)(a:1<=k):(List.replicate k z).take 0++[x].take 1++(List.replicate k z).drop 1=iG x z 1 (k - 1):=by
 simp[iG]
def Zz(x z)(j):iG x z j 0=List.replicate j x:=by simp[iG]
def Pc(x z)(j k):(iG x z j k).length=j+k:=by simp[iG]
def ZA(x z)(j k)(a:dB [x])(f:dB [z]):dB ((iG x z j k).take j)=true:=by
 rw[iG,List.take_append_of_le_length aS,List.take_of_length_le aS];simp only[dB,List.all_eq_true] at a ⊢;intro y c;rw[List.eq_of_mem_replicate c];exact a x aS
end Go.Eng.dN

namespace Go.Proofs.YtodccgailpkgeaaGreat
open Go.Proofs.Tryz
open Go.Eng
open Go.Eng.Fc
open Go.Eng.dN
variable{p:Prog}
instance:th prog 23 (3,8,aX):=⟨ay⟩
def ZB(n:Nat)(hn:n<4294967296):aG prog 198 [.val (.int .u64 ((1:Nat):Int)),.val (.int .u64 (n:Int))] (.bk [.val c1,.val (.int .u64 (n:Int))]):=by
 intro H;refine aM (n:=51) func198 λB I a=>?_;refine ba ?_;refine ag (ad.bits rfl rfl rfl rfl rfl (Hr 1 aa)) ?_;refine ax ?_;refine ag (ad.shift rfl rfl rfl rfl rfl aa (zW 1 aa)) ?_;refine ax ?_;refine ag (ad.bits rfl rfl rfl rfl rfl (Hr _ aa)) ?_;refine ax ?_;refine ag (ad.shift rfl rfl rfl rfl rfl aa (zW _ aa)) ?_;refine aP ?_;refine ag (ad.arith rfl rfl rfl rfl rfl rfl (p0 (n:=n) aa aa)) ?_;refine aP ?_;refine ag (ad.arith rfl rfl rfl rfl rfl rfl (p0 (n:=0) aa aa)) ?_;refine aR ?_;refine ag (ad.shift rfl rfl rfl rfl rfl aa (zW _ aa)) ?_;refine ag (ad.arith rfl rfl rfl rfl rfl rfl (p0 (n:=0) aa aa)) ?_;refine ax ?_;refine ag (ad.bits rfl rfl rfl rfl rfl (Hr 0 aa)) ?_;refine ax ?_;refine ag (ad.shift rfl rfl rfl rfl rfl aa (zW 0 aa)) ?_;refine aI ?_;refine ag (ad.arith rfl rfl rfl rfl rfl rfl (p0 (n:=0) aa aa)) ?_;refine ag (ad.arith rfl rfl rfl rfl rfl rfl (p0 (n:=0) aa aa)) ?_;refine aP ?_;refine ag (ad.arith rfl rfl rfl rfl rfl rfl (p0 (n:=0) aa aa)) ?_;refine aR ?_;refine ag (ad.arith rfl rfl rfl rfl rfl rfl (p0 (n:=0) aa aa)) ?_;refine aR ?_;refine ag (ad.shift rfl rfl rfl rfl rfl aa (zW 0 aa)) ?_;refine ag (ad.arith rfl rfl rfl rfl rfl rfl (p0 (n:=0) aa aa)) ?_;refine aP ?_;refine ag (ad.arith rfl rfl rfl rfl rfl rfl (p0 (n:=n) aa aa)) ?_;refine aY ?_;refine dL [.tmp 4,.tmp 5] (H) ?_;exact⟨dO,rfl⟩
def ZC(n:Nat)(hn:n<4294967296):aG prog 168 [.val (.int .u64 ((1:Nat):Int)),.val (.int .u64 (n:Int))] (.bk [.val c1,.val (.int .u64 (n:Int))]):=by
 intro H;refine aM func168 λB I a=>?_;refine aP ?_;refine .Wy ?_;refine ax ?_;refine ag (ad.call .k (ZB n hn)) ?_;refine ji ?_;refine dL [.tmp 4,.tmp 5] (H) ?_;exact⟨dO,rfl⟩
def ZD(n:Nat)(hn:1<=n/\n<=1000000)(H):bO prog 127 [.ai 1 [[(.i (-1))]],.i n] H (λy H'=>∃nb,y=(.val (.slice (some ⟨nb,0,none⟩) n n))/\H'= .au nb 3 (List.replicate n (.i (-1)))::H) (λ_ _=>False):=by
 refine aM func127 λB I t=>?_;refine bR ?_;refine bc (λaf=>?_) (λaf=>?_)
 ·simp at af;omega
 ·replace af:=dC af;refine ax ?_;refine ag (ad.Fj rfl rfl rfl (p0 (n:=1) rfl aa)) ?_;refine aR ?_;refine ag (ad.Fj rfl rfl rfl (p0 (n:=n) rfl aa)) ?_;refine ag (ad.call .k (ZC n aa)) ?_;refine jI ?_;refine bc (λae=>?_) (λae=>?_)
  ·simp at ae;omega
  ·replace ae:=dC ae;refine aT ?_;refine ag (ad.Fj rfl rfl rfl (wrap64 (n:=(n:Int)) aa)) ?_;refine aj.pN (n) rfl rfl rfl rfl rfl rfl rfl rfl (rfl) aa h5 (λnb=>?_);refine aP ?_;refine aj.WB 1 rfl rfl rfl rfl rfl rfl (qS.ai (els:=[[(.i (-1))]]) (by simp[Op.operands,Call.operands]) rfl rfl (an.refl _) aS) rfl cB cB (.head _ _ _) ?_;refine aT ?_;refine aB.kX (H':=.au nb 3 (iG (.i (-1)) (.val aX) 1 (n - 1))::H) (by rw[show (0:Nat)+1*1=1 from rfl,show 1*1=1 from rfl];rw[<-Zy _ _ _ hn.1];rfl) ?_;refine bo (λm q=>∃j:Nat,q=⟨[(8,.i j),(7,(.val (.slice (some ⟨nb,0,none⟩) n n))),(0,.ai 1 [[(.i (-1))]])],.au nb 3 (iG (.i (-1)) (.val aX) j (n - j))::H⟩/\m=n - j/\1<=j/\j<=n) (⟨1,rfl,rfl,aa,aa⟩) ?_;rintro m _ ⟨j,rfl,rfl,o,v⟩;refine ba ?_;refine az (λao=>?_) λao=>?_
   ·have r:j<n:=by simpa using ao
    refine aF ?_;refine aB.cw mixed ?_;refine b0.V0 [⟨7,45,false⟩] (()) (λ(g:Unit) (vs:List (Option Value))=>match vs with | [none]=>.au nb 3 (iG (.i (-1)) (.val aX) j (n - j))::H | [some _]=>.au nb 3 ((iG (.i (-1)) (.val aX) j (n - j)).take (0+j*1)++(((iG (.i (-1)) (.val aX) j (n - j)).drop (0+0*1)).take ((j - 0)*1)).take (min j (n - j)*1)++(iG (.i (-1)) (.val aX) j (n - j)).drop (0+j*1+min j (n - j)*1))::H | _=>[]) 0 8 48 rfl aq aq rfl rfl aq rfl ?_;refine cH.r4 [[true],[false]] rfl aq rfl rfl rfl ⟨λg f=>ad.move rfl rfl rfl,λg f=>ad.move rfl rfl rfl,trivial⟩ ?_;refine cH.r4 [[false]] rfl aq rfl rfl rfl ⟨λg f=>ad.move rfl rfl rfl,trivial⟩ ?_;refine cH.r4 [[false]] rfl aq rfl rfl rfl ⟨λg f=>ad.move rfl rfl rfl,trivial⟩ ?_;refine cH.r4 [[false]] rfl aq rfl rfl rfl ⟨λg f=>ad.L5 (kh:=.i64) (l:=j) (m:=n) rfl rfl rfl rfl rfl rfl rfl aa aa aa,trivial⟩ ?_;refine cH.r4 [[false]] rfl aq rfl rfl rfl ⟨λg f=>ad.move rfl rfl rfl,trivial⟩ ?_;refine cH.r4 [[false]] rfl aq rfl rfl rfl ⟨λg f=>ad.move rfl rfl rfl,trivial⟩ ?_;refine cH.r4 [[false]] rfl aq rfl rfl rfl ⟨λg f=>ad.L5 (kl:=.i64) (l:=0) (m:=j) rfl rfl rfl rfl rfl rfl rfl aa aa aa,trivial⟩ ?_;refine cH.F7 0 [[false]] rfl rfl rfl aq rfl rfl rfl ⟨λg f=>ir.copy () (min j (n - j)) rfl rfl rfl (qS.au (by simp[Op.operands,Call.operands]) rfl rfl (.head _) (by rw[Pc];omega)) (by rw[Nat.zero_add,Nat.zero_mul,List.drop_zero,Nat.sub_zero,Nat.mul_one];exact ZA _ _ _ _ rfl rfl) aa (by rw[Pc];omega) (λv=>.head _ _ _),trivial⟩ ?_;refine cH.nil (λg f=>?_);simp only[b7.kW,List.map_cons,List.map_nil,List.cons_append,List.nil_append];refine aT ?_;refine aZ.kX (H':=.au nb 3 (iG (.i (-1)) (.val aX) (j+min j (n - j)) (n - (j+min j (n - j))))::H) (by rw[Nat.zero_add,Nat.zero_add,Nat.zero_mul,Nat.mul_one,Nat.mul_one,Nat.mul_one,List.drop_zero,Nat.sub_zero,Zx _ _ _ _ _ aa aa,Nat.sub_sub]) ?_;refine aZ.le 8 (y:=.i (j+min j (n - j):Nat)) rfl (an.b4 aa) ?_;exact aW ⟨j+min j (n - j),rfl,rfl,aa,aa⟩
   ·obtain rfl:j=n:=by simp at ao;omega
    refine bR ?_;refine aC 4 (.au nb 3 (iG (.i (-1)) (.val aX) j (j - j))::H) ?_;exact⟨nb,dO,by rw[Nat.sub_self,Zz]⟩
instance:zl prog 174:=⟨ay⟩
instance:zl prog 176:=⟨ay⟩
abbrev ib(dF nb n:Nat)(o:ak):aA:=[.au dF 23 [(.val (.slice (some ⟨nb,0,none⟩) n n))],.au nb 3 ((o).map ab.i)]
def ZE{next}{a}{f}{pre}{x}(j:f.cw=1)(h:pre++[x]<+:(visit p next 13 f a).1):
  (fc p next x (hD pre a)=true/\(pre++[x]=(visit p next 13 f a).1->(visit p next 13 f a).2.isNone=false))\/(fc p next x (hD pre a)=false/\pre++[x]=(visit p next 13 f a).1/\(visit p next 13 f a).2.isNone=true):=by
 have g:=xj (p:=p) (next:=next) 13 f a aa;rcases Classical.em (pre++[x]=(visit p next 13 f a).1/\(visit p next 13 f a).2=none) with⟨ae,ao⟩ | ae
 ·exact .inr ⟨g.no pre x ae ao,ae,by rw[ao];rfl⟩
 ·refine .inl ⟨g.yes pre x h ae,λe=>?_⟩;cases bH:(visit p next 13 f a).2 with
  | none=>exact absurd ⟨e,bH⟩ ae
  | some o=>rfl
def Pd{x}{c}(h:ik x.op=some none)(hn:gC p x c):0<=x.n/\x.n<p.cT.length:=by
 have a:x.op=5:=by
  unfold ik at h
  repeat' split at h
  all_goals first | assumption | (simp at h;done)
 unfold gC rG at hn;rw[if_neg aa,if_neg aa,if_neg aa,if_neg aa,if_pos a] at hn;simpa using hn
def Pe{n:Nat}(hn:n=p.nodes.length)(k size:Int)(next:Bool)(W:0<=size/\size<=1000)(out:ak)(U:out.length=n)(G:p.aE.length<=100)(dF nb:Nat)(H:aA):
  bO prog 128 [.i k,.i size,.b next,.ptr (cM p),.p dF 0] (ib dF nb n out++H) (λ_ H'=>(visit p next 13 (⟨k,size,1⟩:dw) out).2.isNone=false/\H'=ib dF nb n (hD (visit p next 13 (⟨k,size,1⟩:dw) out).1 out)++H) (λy H'=>y=tD/\(visit p next 13 (⟨k,size,1⟩:dw) out).2.isNone=true/\∃L,H'=ib dF nb n L++H):=by
 refine bO.Mu (n:=86) func128 rfl ay rfl rfl (λB I bW=>?_);refine ee.seq ?_;refine aB.mD ?_;refine aF ?_;refine ee.done ?_;refine ee.seq ?_;refine aB.mD ?_;refine aT ?_;refine ag (ad.call .k (below p (⟨k,size,1⟩:dw))) ?_;refine aR ?_;refine ee.done ?_;refine ee.block ?_;refine ee.Mv func128 (λx=>.i x.n) (va) ((visit p next 13 (⟨k,size,1⟩:dw) out).1) ((visit p next 13 (⟨k,size,1⟩:dw) out).2.isNone) (λpre H=>H=ib dF nb n (hD pre out)) (λy H=>y=tD/\∃L,H=ib dF nb n L) (ib dF nb n out) ([]) (H) (λ_=>True) (λx=>[(9,.ptr [.i x.bB,.i x.cw]),(8,.i x.n),(7,.ptr [.b next]),(3,.ptr (cM p)),(4,.p dF 0)]) rfl rfl rfl rfl rfl (Zw B p next (⟨k,size,1⟩:dw) out rfl (by show _<=size/\size<=_;omega)) (rfl) (λy H h=>⟨vh,h.1.symm▸eT⟩) ?_ ?_ ?_ ?_
 ·intro R N gd x Q;refine ax ?_;refine bK (λdM=>?_);refine aO ?_;refine aZ.pC (d:=9) rfl (fU.head _ _) ?_;exact λa w s=>⟨_,rfl,s.weaken (lQ hW) (List.Sublist.refl _)⟩
 ·intro R A Z pre x M Q N gd m D;obtain rfl:=D;obtain⟨C,q⟩:∃C,C=hD pre out:=⟨_,rfl⟩;have S:C.length=n:=by rw[q,xk,U]
  have um:=ZE rfl m;rw[<-q] at um ⊢;have t:=N0 (p:=p) (next:=next) 13 (⟨k,size,1⟩:dw) out cO (by unfold vd;simp only[];omega) x (m.subset aS);unfold vd at t;refine eb ?_;refine gb (λaw=>ad.gU rfl rfl (cl aw) rfl (cl aw) wq) ?_;refine gb (λaw=>(by first | exact ad.cF rfl rfl (cl aw) rfl | (apply ad.ij rfl rfl (cl aw);(case hm=>exact .tail _ (.tail _ (.tail _ (.head _))));(case hy=>exact XS wq)))) ?_;refine aP ?_;cases q5:mI p x C
  ·refine aj.l1 rfl rfl (.mk' rfl rfl rfl rfl rfl) (l7 (by simp only[Bool.cond_false_right,ge_iff_le];exact q5) _) eT ?_;rcases um with⟨ae,_⟩ | ⟨_,ao,aV⟩
   ·rw[XN q5] at ae;cases ae
   ·intro a w s;exact aZ.zi (J:=λpre H=>H=ib dF nb n (hD pre out)) (H:=ib dF nb n (C)) bC eT ao aV ⟨rfl,_,rfl⟩ a w s
  ·refine aj.mB rfl rfl rfl (.mk' rfl rfl rfl rfl rfl) (mL (by simp only[Bool.cond_false_right,ge_iff_le];exact q5) _) ?_;obtain⟨wg,Bg⟩:=N1 q5;refine aI ?_;refine ag (ad.gU rfl rfl rfl rfl rfl aa) ?_;apply aj.fZ rfl rfl rfl rfl rfl rfl rfl rfl rfl rfl
   (case hu=>repeat (first | exact bG.head _ _ _ | apply bG.tail));(case hfit=>exact Nat.ble_eq_true_of_le nL);(case hds=>exact XT aa)
   refine aP ?_;refine ag (Bf) ?_;refine aR ?_;refine bK (λsh=>?_);refine ba ?_;refine ag (ad.call .k (number p G (fu p x) x.bB)) ?_;refine aI ?_;cases lT:(gC p (fu p x) x.bB && (next || (fu p x).op !=18))
   ·refine aj.l1 rfl rfl (.mk' rfl rfl rfl rfl rfl) (l7 (by simp only[Bool.cond_false_right,Bool.cond_true_left];exact lT) _) eT ?_;rcases um with⟨ae,_⟩ | ⟨_,ao,aV⟩
    ·rw[XO lT] at ae;cases ae
    ·intro a w s;exact aZ.zi (J:=λpre H=>H=ib dF nb n (hD pre out)) (H:=ib dF nb n (iE C x)) bC eT ao aV ⟨rfl,_,rfl⟩ a w s
   ·refine aj.mB rfl rfl rfl (.mk' rfl rfl rfl rfl rfl) (mL (by simp only[Bool.cond_false_right,Bool.cond_true_left];exact lT) _) ?_;refine ax ?_;rcases hkd:ik (fu p x).op with _ | _ | hq
    ·refine ag (ad.call .k (show aG prog 131 [.i (fu p x).op] (.val .nilIface) from by have h:=Hj (fu p x).op;rw[hkd] at h;exact h)) ?_;refine aT ?_;refine ag (we) ?_;refine aO ?_;refine ag (we) ?_;refine aT ?_;refine bc (λaf=>?_) (λaf=>?_)
     ·simp at af
     ·replace af:=dC af;refine ax ?_
      ·refine aj.l1 rfl rfl (.mk' rfl rfl rfl rfl rfl) (l7 (rfl) _) eT ?_;rcases um with⟨ae,_⟩ | ⟨_,ao,aV⟩
       ·rw[XP hkd] at ae;cases ae
       ·intro a w s;exact aZ.zi (J:=λpre H=>H=ib dF nb n (hD pre out)) (H:=ib dF nb n (iE C x)) bC eT ao aV ⟨rfl,_,rfl⟩ a w s
    ·refine ag (ad.call .k (show aG prog 131 [.i (fu p x).op] (.iface 176 (.agg [])) from by have h:=Hj (fu p x).op;rw[hkd] at h;exact h)) ?_;have hL:=XR q5 lT hkd;obtain⟨Uf,yc⟩:=Pd hkd (Bool.and_eq_true_iff.1 lT).1;refine aT ?_;refine ag (we) ?_;refine aO ?_;refine ag (we) ?_;refine aT ?_;refine bc (λae=>?_) (λae=>?_)
     ·replace ae:=dC ae;refine aT ?_;refine bP 7 86 ?_;refine ax ?_;refine bg Kt ?_;refine aF ?_;cases hbb:fc p next x C
      ·refine aj.l1 rfl rfl (.mk' rfl rfl rfl rfl rfl) (l7 BD _) eT ?_;rcases um with⟨ae,_⟩ | ⟨_,ao,aV⟩
       ·rw[hbb] at ae;cases ae
       ·intro a w s;exact aZ.zi (J:=λpre H=>H=ib dF nb n (hD pre out)) (H:=ib dF nb n (iE C x)) bC eT ao aV ⟨rfl,_,rfl⟩ a w s
      ·refine aj.mB rfl rfl rfl (.mk' rfl rfl rfl rfl rfl) (mL BD _) ?_;refine aF ?_;exact aZ.Cr (H:=ib dF nb n (iE C x)) bC K5 (by rw[NZ, <-q])
     ·simp at ae
    ·refine ag (ad.call .k (show aG prog 131 [.i (fu p x).op] (.iface 174 (.i hq)) from by have h:=Hj (fu p x).op;rw[hkd] at h;exact h)) ?_;have hL:=XQ q5 lT hkd;refine aT ?_;refine ag (we) ?_;refine aO ?_;refine ag (we) ?_;refine aT ?_;refine bc (λao=>?_) (λao=>?_)
     ·replace ao:=dC ao;refine aT ?_;refine bP 7 86 ?_;refine ax ?_;refine bg Kt ?_;refine aF ?_;cases hbb:fc p next x C
      ·refine aj.l1 rfl rfl (.mk' rfl rfl rfl rfl rfl) (l7 BD _) eT ?_;rcases um with⟨ae,_⟩ | ⟨_,ao,aV⟩
       ·rw[hbb] at ae;cases ae
       ·intro a w s;exact aZ.zi (J:=λpre H=>H=ib dF nb n (hD pre out)) (H:=ib dF nb n (iE C x)) bC eT ao aV ⟨rfl,_,rfl⟩ a w s
      ·refine aj.mB rfl rfl rfl (.mk' rfl rfl rfl rfl rfl) (mL BD _) ?_;refine aF ?_;exact aZ.Cr (H:=ib dF nb n (iE C x)) bC K5 (by rw[NZ, <-q])
     ·simp at ao
 ·intro A M r o T D;obtain rfl:=D;refine aZ.vc (H':=.obj A (.deferred (some []))::(ib dF nb n (hD (visit p next 13 (⟨k,size,1⟩:dw) out).1 out)++H)) (.cons_cons _ (.append_left (List.sublist_append_right _ _) _)) ?_;refine aR ?_;refine aZ.B1 (rs:=[]) (H':=ib dF nb n (hD (visit p next 13 (⟨k,size,1⟩:dw) out).1 out)++H) rfl pq (.nil) (c0.refl _) bC ?_;exact⟨o,rfl⟩
 ·intro A y M r o v N v1 V gd F K;obtain⟨rfl,hx,rfl⟩:=v;rw[eT.is _ _ _ K];exact VT eT (fU.head _ _) (.append_left (List.sublist_append_right _ _) _) ⟨rfl,o,hx,rfl⟩ V gd F
end Go.Proofs.YtodccgailpkgeaaGreat

