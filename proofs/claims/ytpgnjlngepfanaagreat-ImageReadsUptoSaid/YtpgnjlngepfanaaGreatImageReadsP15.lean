/- Part 15 of the proof: contracts of functions of the program and what they need. No condition beyond those that each theorem names. -/
import Derived.Test.YtpgnjlngepfanaaGreatImageReadsP14
set_option maxHeartbeats 1000000
set_option linter.unusedVariables false
set_option linter.unusedSimpArgs false
set_option maxRecDepth 10000
namespace Go.Proofs.YtpgnjlngepfanaaGreat
open Go.Eng
open Go.Eng.Fc
open Go.Eng.Bd
open Go.Eng.Im (U8 u8 u8s numberR manyR)
open Go.Eng.Im
open Go.Eng.Im (U8 u8 u8s numberR manyR splitR Sec pies)
variable{α σ:Type}{f:FuncId}{xs:List AV}{l b b1 b2:List U8}{i i' j k i0:Nat}{H:List Ent}{s':Unit}{b' c b0 bb:Bool}{n op:Int}{p:Prog}{gs:List Int}{L:List Sec}{objs:List Th}
abbrev Gr(α:Type):=List U8->Nat->Bool->α×Nat×Bool
def bindG{α β:Type}(R:Gr α)(k:α->Gr β):Gr β:=λl i b=>k (R l i b).1 l (R l i b).2.1 (R l i b).2.2
def doneG(a:α):Gr α:=λl i b=>(a,i,b)
def failG(a:α):Gr α:=λl i b=>(a,i,true)
def numG:Gr Int:=λl i b=>if b then (0,i,true) else ((numV (l.drop i):Int),i+numF 5 (l.drop i),(numberR (l.drop i)).isNone)
def intG:Gr Int:=bindG numG λn=>doneG (znOf n)
def timesG{α:Type}(R:Gr α):Nat->Gr (List α)
 | 0,l,i,b=>([],i,b)
 | n+1,l,i,b=>if b then ([],i,true) else bindG R (λx=>bindG (timesG R n) λxs=>doneG (x::xs)) l i b
def ROk(R:Rd σ α)(G:Gr α):Prop:=∀(s:σ) (l:List U8) (i:Nat) (b:Bool),i<=l.length->∃s',RTo R s l i b (G l i b).1 s' (G l i b).2.1 (G l i b).2.2
theorem ROk.bind{σ α β:Type}{R:Rd σ α}{G:Gr α}{k:α->Rd σ β}{g:α->Gr β}(h1:ROk R G)(h2:∀a,ROk (k a) (g a)):ROk (thenR R k) (bindG G g):=λs l i b hi=>by
 obtain⟨s1,h3⟩:=h1 s l i b hi;obtain⟨s2,h4⟩:=h2 (G l i b).1 s1 l _ (G l i b).2.2 h3.le;exact⟨s2,h3.bind h4⟩
theorem ROk.done{σ α:Type}(z:α):ROk (doneR (σ:=σ) z) (doneG z):=λs l i b hi=>⟨s,.done z hi⟩
theorem ROk.no{R:Rd σ α}(z:α)(h:∀s l,R s l=none):ROk R (failG z):=λs l i b hi=>⟨s,.bad (.inr (h _ _)) hi⟩
theorem ROk.num:ROk (numR (σ:=σ)) numG:=λs l i b hi=>by
 cases b with
 | true=>exact⟨s,.bad (.inl rfl) hi⟩
 | false=>
  refine⟨s,?_⟩;show RTo numR s l i false (numV (l.drop i):Int) s (i+numF 5 (l.drop i)) (numberR (l.drop i)).isNone;have hf:=numF_le 5 (l.drop i);rw[List.length_drop] at hf;rcases hn:numberR (l.drop i) with _ | ⟨n,r⟩
  ·exact .bad (.inr (numR_none hn)) Yd
  ·have h1:=numR_drop hn;refine⟨Yd,λ_=>⟨rfl,?_⟩,λe=>by cases e⟩;rw[numR_some hn,numV_some hn,h1,drop_plus]
theorem ROk.int:ROk (intR (σ:=σ)) intG:=ROk.num.bind λn=>.done _
theorem ROk.times{σ α:Type}{R:Rd σ α}{G:Gr α}(h:ROk R G):∀n,ROk (timesR R n) (timesG G n)
 | 0,s,l,i,b,hi=>⟨s,hi,λe=>⟨e,rfl⟩,λe=>.inl e⟩
 | n+1,s,l,i,b,hi=>by
  cases b with
  | true=>exact⟨s,.bad (.inl rfl) hi⟩
  | false=>
   obtain⟨s1,h1⟩:=h s l i false hi;obtain⟨s2,h2⟩:=ROk.times h n s1 l _ (G l i false).2.2 h1.le;refine⟨s2,h2.le,λe=>?_,λe=>?_⟩
   ·obtain⟨e1,e2⟩:=h2.go e;obtain⟨e3,e4⟩:=h1.go e1;refine⟨rfl,?_⟩;rw[timesR,e4];simp only;rw[e2];rfl
   ·right;rw[timesR];cases hb:(G l i false).2.2 with
    | true=>
     rcases h1.no hb with h3 | h3
     ·cases h3
     ·rw[h3]
    | false=>
     obtain⟨_,e4⟩:=h1.go hb;rw[e4];simp only;rcases h2.no e with h3 | h3
     ·rw[hb] at h3;cases h3
     ·rw[h3]
theorem numG_is(l:List U8)(i:Nat)(b:Bool):isN (numG l i b).1:=by
 cases b with
 | true=>show isN 0;exact⟨YJ,YJ⟩
 | false=>exact⟨by show (0:Int)<=(numV _:Nat);omega,by show ((numV (l.drop i):Nat):Int)<_;have:=numV_lt (l.drop i);omega⟩
theorem numG_le(l:List U8)(i:Nat)(b:Bool)(hi:i<=l.length):(numG l i b).2.1<=l.length:=(ROk.num () l i b hi).elim λ_ h=>h.le
abbrev RG(enc:α->AV)(G:Gr α)(rb:Nat)(l:List U8)(i:Nat)(bad:Bool)(H:List Ent):AV->List Ent->Prop:=λy H'=>y=enc (G l i bad).1/\H'=rr rb l (G l i bad).2.1 (G l i bad).2.2::H
theorem RG.r{enc:α->AV}{G:Gr α}{rb:Nat}{bad:Bool}(h:ACall Tryz.prog f xs (rr rb l i bad::H) (RG enc G rb l i bad H) (λ_ _=>False)):RCall Tryz.prog f xs (rr rb l i bad::H) (some (enc (G l i bad).1,rr rb l (G l i bad).2.1 (G l i bad).2.2::H)) [] wrongA:=.of h
theorem RG.e{f:FuncId}{xs:List AV}{α:Type}{enc:α->AV}{G:Gr α}{rb:Nat}{l:List U8}{i j:Nat}{bad c:Bool}{z:α}{H:List Ent}(h:ACall Tryz.prog f xs (rr rb l i bad::H) (RG enc G rb l i bad H) (λ_ _=>False))(e:G l i bad=(z,j,c)):ACall Tryz.prog f xs (rr rb l i bad::H) (λy H'=>y=enc z/\H'=rr rb l j c::H) (λ_ _=>False):=ACall.weak h (λy H' ⟨e1,e2⟩=>⟨by rw[e1,e],by rw[e2,e]⟩) (λ_ _ h=>h)
theorem RG.x{enc:α->AV}{R:Rd σ α}{G:Gr α}{q:α->Prop}{s:σ}{rb:Nat}{bad:Bool}(h:ACall Tryz.prog f xs (rr rb l i bad::H) (RG enc G rb l i bad H) (λ_ _=>False))(hi:i<=l.length)(hR:ROk R G)(hq:q (G l i bad).1):ACall Tryz.prog f xs (rr rb l i bad::H) (RX enc R s rb l i bad H q) (λ_ _=>False):=
 ACall.weak h (λy H' ⟨e1,e2⟩=>(hR s l i bad hi).elim λs' hT=>⟨_,s',_,_,e1,e2,hq,hT⟩) (λ_ _ h=>h)
theorem numD(rb:Nat)(l:List U8)(i:Nat)(bad:Bool)(hl:l.length<=1048576)(hi:i<=l.length)(H:List Ent):ACall Tryz.prog 167 [.p rb 0] (rr rb l i bad::H) (RG (λn=>.i n) numG rb l i bad H) (λ_ _=>False):=by
 cases bad with
 | true=>exact q167b rb l i Yd H
 | false=>exact (q167 rb l i hl hi H).ok
def valG:Gr (Int×Int):=bindG numG λk=>if k=1 then bindG intG λn=>doneG (k,n) else if k=2 then doneG (k,0) else if k=3 then bindG numG λn=>doneG (k,n) else failG (k,0)
theorem ROk.val:ROk (valR (σ:=σ)) valG:=ROk.num.bind λk=>by
 by_cases h1:k=1
 ·rw[if_pos h1,if_pos h1];exact ROk.int.bind λn=>.done _
 ·rw[if_neg h1,if_neg h1];by_cases h2:k=2
  ·rw[if_pos h2,if_neg Yd];exact λs l i b hi=>⟨s,.need (by rw[h2];rfl) (.done _ hi)⟩
  ·rw[if_neg h2];by_cases h3:k=3
   ·rw[if_pos h3,if_pos h3];exact ROk.num.bind λn=>.done _
   ·rw[if_neg h3,if_neg h3];exact .no _ λs l=>needR_no Ybg
theorem intG_le(l:List U8)(i:Nat)(b:Bool)(hi:i<=l.length):(intG l i b).2.1<=l.length:=(ROk.int () l i b hi).elim λ_ h=>h.le
theorem valG_le(l:List U8)(i:Nat)(b:Bool)(hi:i<=l.length):(valG l i b).2.1<=l.length:=(ROk.val () l i b hi).elim λ_ h=>h.le
theorem intD(rb:Nat)(l:List U8)(i:Nat)(bad:Bool)(hl:l.length<=1048576)(hi:i<=l.length)(H:List Ent):ACall Tryz.prog 169 [.p rb 0] (rr rb l i bad::H) (RG (λn=>.i n) (intG) rb l i bad H) (λ_ _=>False):=by
 refine aC (n:=15) Tryz.func169 λB I w0=>?_;obtain⟨n,i1,b1,E1⟩:∃z j c,numG l i bad=(z,j,c):=⟨_,_,_,rfl⟩;have q1:isN n:=by have h:=numG_is l i bad;rw[E1] at h;exact h
 have L1:i1<=l.length:=by have h:=numG_le l i bad hi;rw[E1] at h;exact h
 have hG:intG l i bad=(znOf n,i1,b1):=by rw[intG,bindG,E1];rfl
 refine Z8 ?_;refine bC .k ((RG.e (numD rb l i bad hl hi _) E1).b) ?_;rintro _ _ ⟨rfl,rfl⟩;refine Z7 ?_;refine oP (POp.div rfl rfl rfl rfl rfl YJ (.inr ⟨rfl,rfl⟩)) ?_;refine Z3 ?_;refine cd (λh0=>?_) λh0=>?_
 ·refine Z4 ?_;refine oP (POp.neg rfl rfl rfl (wrap64 Yd)) ?_;refine oP (POp.div rfl rfl rfl rfl rfl YJ (.inl ⟨rfl,rfl⟩)) ?_;refine OL.le 12 (y:=.i (znOf n)) rfl (AVle.eqI (zn_odd q1 h0)) ?_;refine Z5 ?_;refine r1 2 (rr rb l i1 b1::H) ?_;exact⟨Ybz,by rw[hG]⟩
 ·refine Z5 ?_;refine oP (POp.div rfl rfl rfl rfl rfl YJ (.inl ⟨rfl,rfl⟩)) ?_;refine OL.le 14 (y:=.i (znOf n)) rfl (AVle.eqI (zn_even q1 h0)) ?_;refine Z4 ?_;refine r1 2 (rr rb l i1 b1::H) ?_;exact⟨Ybz,by rw[hG]⟩
theorem valD(rb:Nat)(l:List U8)(i:Nat)(bad:Bool)(hl:l.length<=1048576)(hi:i<=l.length)(H:List Ent):ACall Tryz.prog 98 [.p rb 0] (rr rb l i bad::H) (RG (AV.mv) (valG) rb l i bad H) (λ_ _=>False):=by
 refine aC (n:=24) Tryz.func98 λB I w0=>?_;obtain⟨n,i1,b1,E1⟩:∃z j c,numG l i bad=(z,j,c):=⟨_,_,_,rfl⟩;have q1:isN n:=by have h:=numG_is l i bad;rw[E1] at h;exact h
 have L1:i1<=l.length:=by have h:=numG_le l i bad hi;rw[E1] at h;exact h
 have hv:valG l i bad=(if n=1 then bindG intG λw=>doneG (n,w) else if n=2 then doneG (n,0) else if n=3 then bindG numG λw=>doneG (n,w) else failG (n,0)) l i1 b1:=by rw[valG,bindG,E1]
 refine Z2 ?_;refine OL.alC rfl rfl rfl rfl (λcb=>?_);refine Z3 ?_;refine CW.perm (List.Perm.swap _ _ _) ?_;refine Z2 ?_;refine bC .k ((RG.e (numD rb l i bad hl hi _) E1).b) ?_;rintro _ _ ⟨rfl,rfl⟩;refine Z1 ?_;refine OL.alC rfl rfl rfl rfl (λvb=>?_);refine Z3 ?_;refine CW.cutJ (λst=>∃(x:Int×Int) (j:Nat) (b:Bool),st=⟨[(3,.p vb 0),(2,.p cb 0)],rr rb l j b::.blk vb 60 (initA x)::.blk cb 60 [.val (.int .i64 0),.val (.int .i64 0)]::H⟩/\valG l i bad=(x,j,b)) ?_ ?_
 ·refine Z1 ?_;refine CW.perm (List.Perm.swap _ _ _) ?_;refine Z12 ?_;refine cd (λh0=>?_) λh0=>?_
  ·rw[if_pos h0] at hv;obtain⟨w,i2,b2,E2⟩:∃z_ j_ c_,intG l i1 b1=(z_,j_,c_):=⟨_,_,_,rfl⟩;have L2:i2<=l.length:=by have h:=intG_le l i1 b1 L1;rw[E2] at h;exact h
   refine Z2 ?_;refine bC .k ((RG.e (intD rb l i1 b1 hl L1 _) E2).b) ?_;rintro _ _ ⟨rfl,rfl⟩;refine Z4 ?_;exact cj ⟨(n,w),i2,b2,rfl,by rw[hv,bindG,E2];rfl⟩
  ·refine Z6 ?_;refine cd (λh1=>?_) λh1=>?_
   ·rw[if_neg h0,if_pos h1] at hv;refine Z2 ?_;exact cj ⟨(n,0),i1,b1,rfl,by rw[hv];rfl⟩
   ·refine Z6 ?_;refine cd (λh2=>?_) λh2=>?_
    ·rw[if_neg h0,if_neg h1,if_pos h2] at hv;obtain⟨w,i2,b2,E2⟩:∃z_ j_ c_,numG l i1 b1=(z_,j_,c_):=⟨_,_,_,rfl⟩;have L2:i2<=l.length:=by have h:=numG_le l i1 b1 L1;rw[E2] at h;exact h
     refine Z2 ?_;refine bC .k ((RG.e (numD rb l i1 b1 hl L1 _) E2).b) ?_;rintro _ _ ⟨rfl,rfl⟩;refine Z4 ?_;exact cj ⟨(n,w),i2,b2,rfl,by rw[hv,bindG,E2];rfl⟩
    ·rw[if_neg h0,if_neg h1,if_neg h2] at hv;refine Z2 ?_;refine bC .k (((q168 rb l i1 b1 _).ok).b) ?_;rintro _ _ ⟨rfl,rfl⟩;refine Z2 ?_;exact cj ⟨(n,0),i1,true,rfl,by rw[hv];rfl⟩
 ·rintro _ ⟨x,j,b,rfl,hT⟩;refine Z7 ?_;refine Done.retR (rs:=[.cell 2 60]) (H':=rr rb l j b::H) rfl (Yj) (AVleL.refl _) Ybf ?_;exact⟨by rw[hT];rfl,by rw[hT]⟩
theorem RTo.still{R:Rd σ α}{s s':σ}{b b':Bool}{z:α}(hR:Still R)(h:RTo R s l i b z s' i' b'):RTo R s l i b z s i' b':=⟨h.le,λe=>by obtain⟨e1,e2⟩:=h.go e;have:=hR _ _ _ _ _ e2;subst this;exact⟨e1,e2⟩,h.no⟩
theorem RTo.z{σ α:Type}{R:Rd σ α}{s s' s2:σ}{l:List U8}{i i' i2:Nat}{b:Bool}{z z2:α}(h:RTo R s l i b z s' i' true)(hi:i2<=l.length):RTo R s l i b z2 s2 i2 true:=.bad (h.no rfl) hi
def initG:Gr (Int×Int):=bindG numG λa=>bindG intG λb=>doneG (a,b)
theorem ROk.init:ROk (initR (σ:=σ)) initG:=ROk.num.bind λa=>ROk.int.bind λb=>.done _
def slotsB(n:Int)(b2 b:Bool):Prop:=(b=false->b2=false/\n<=4)/\(b=true->b2=true\/¬n<=4)
theorem cls_to{s:Int}{i i1 i2 i3 j k n2:Nat}{bad b1 b2 b b3 c:Bool}{ps:List Int}{is:List (Int×Int)}{s1 s2 s3 s4:Int}(T1:RTo (listR numR) s l i bad ps s1 i1 b1)(T2:RTo numR s l i1 b1 n s2 i2 b2)(hb:slotsB n b2 b)(hk:b=true\/(k:Int)=n)
  (T3:RTo manyRd (s+n) l i2 b n2 s3 i3 b3) (T4:RTo (timesR initR n2) s3 l i3 b3 is s4 j c):RTo clsR s l i bad ⟨ps,slotsFrom s k,is⟩ s4 j c:=by
 have T5:RTo (listR initR) (s+n) l i2 b is s4 j c:=T3.bind T4;have T6:RTo clsR s l i bad ⟨ps,slotsFrom s n.toNat,is⟩ s4 j c:=by
  refine (T1.still (Still.list .num)).bind ((T2.still .num).bind ?_);by_cases h4:n<=4
  ·have hbb:b2=b:=by
    cases hc:b with
    | true=>exact (hb.2 hc).resolve_right (λh=>h h4)
    | false=>exact (hb.1 hc).1
   refine RTo.need (decide_eq_true h4) ?_;have T7:=T5.map λis=>(⟨ps,slotsFrom s n.toNat,is⟩:Cls);rw[hbb];exact⟨T7.le,T7.go,T7.no⟩
  ·have hbt:b=true:=by
    cases hc:b with
    | true=>rfl
    | false=>exact absurd (hb.1 hc).2 h4
   rw[hbt] at T5;have:=T5.stay;subst this;exact .needNo (decide_eq_false h4) T5.le
 cases hc:c with
 | true=>subst hc;exact T6.z T6.le
 | false=>
  have hk:(k:Int)=n:=by
   rcases hk with h | h
   ·rw[h] at T5;have:=T5.stay;rw[hc] at this;cases this
   ·exact h
  rw[hc] at T6;rwa [show n.toNat=k by omega] at T6
theorem clsX(s:Int)(rb:Nat)(l:List U8)(i:Nat)(bad:Bool)(hl:l.length<=1048576)(hi:i<=l.length)(H:List Ent)(hs:0<=s/\s<=1000000000):ACall Tryz.prog 204 [.p rb 0,.i s] (rr rb l i bad::H) (RX (AV.cls) (clsR) s rb l i bad H (λc=>c.slots.length<=4/\c.parents.length<=1048576)) (λ_ _=>False):=by
 refine aC (n:=65) Tryz.func204 λB I w0=>?_;refine Z2 ?_;refine OL.alC rfl rfl rfl rfl (λcb=>?_);refine Z3 ?_;refine CW.perm (List.Perm.swap _ _ _) ?_;refine Z2 ?_;refine bC .k ((numsX s rb l i bad hl hi _).b) ?_;rintro _ _ ⟨ps,s1,i1,b1,rfl,rfl,q1,T1⟩;have L1:=T1.le;refine Z1 ?_;refine OL.alC rfl rfl rfl rfl (λkb=>?_);refine Z4 ?_;refine CW.perm (List.Perm.swap _ _ _) ?_;refine Z2 ?_;refine bC .k ((numX s rb l i1 b1 hl L1 _).b) ?_;rintro _ _ ⟨n,s2,i2,b2,rfl,rfl,q2,T2⟩;have L2:=T2.le;refine Z3 ?_;refine CW.cutJ (λst=>∃b:Bool,st=⟨[(6,.i n),(5,.p kb 0),(4,.p cb 0),(1,.i s),(0,.p rb 0)],rr rb l i2 b::.blk kb 79 [AV.ints ps,nilA,nilA]::.blk cb 79 [nilA,nilA,nilA]::H⟩/\slotsB n b2 b) ?_ ?_
 ·refine Z6 ?_;refine cd (λh0=>?_) λh0=>?_
  ·refine Z2 ?_;refine bC .k (((q168 rb l i2 b2 _).ok).b) ?_;rintro _ _ ⟨rfl,rfl⟩;refine Z1 ?_;exact cj ⟨true,rfl,λe=>Bool.noConfusion e,λ_=>.inr Yd⟩
  ·refine Z1 ?_;exact cj ⟨b2,rfl,λe=>⟨e,Yd⟩,λe=>.inl e⟩
 ·rintro _ ⟨b,rfl,hb⟩;refine Z7 ?_;have hn0:=q2.1;refine CW.ownNilB (b:=kb) (t:=79) 3 1 1 Yy rfl rfl ?_;refine CW.perm (List.Perm.swap _ _ _) ?_;refine lj (λm st=>∃(k:Nat) (v:Value),st=⟨[(7,.i k),(6,.i n),(5,.p kb 0),(4,.p cb 0),(1,.i s),(0,.p rb 0)],rr rb l i2 b::.own 3 1 v::.blk kb 79 [AV.ints ps,.as (AV.ints (slotsFrom s k)) v,nilA]::.blk cb 79 [nilA,nilA,nilA]::H⟩/\m=n.toNat - k/\k<=n.toNat/\(b=true->k=0)) (⟨0,_,rfl,rfl,Yd,λ_=>rfl⟩) ?_;rintro m _ ⟨k,v,rfl,rfl,hk,hk0⟩;refine Z15 ?_;refine CW.cond rfl (λh1=>?_) (λh1=>?_)
  ·obtain⟨hkn,rfl⟩:=go_on h1;replace hkn:(k:Int)<n:=of_decide_eq_true hkn;have h4:=(hb.1 rfl).2;have hsl:(slotsFrom s k).length=k:=by simp[slotsFrom]
   refine Z10 ?_;refine OL.popC (x:=.sl 1 [[.i (s+(k:Int))]]) rfl rfl rfl (POp.row rfl rfl Yh rfl rfl rfl rfl rfl rfl) ?_;refine OL.appendC rfl rfl rfl rfl rfl rfl rfl rfl (AVle.refl _) (rfl) (λv=>by repeat (first | exact Upd.head _ _ _ | apply Upd.tail)) (Yo) (Yo) (λv37=>?_);refine Z10 ?_;exact ag (⟨k+1,v37,by rw[slots_snoc, <-ints_snoc1],rfl,Yd,λe=>Bool.noConfusion e⟩)
  ·have hst:b=true\/(k:Int)=n:=(go_not h1).imp id λe=>by have:=of_decide_eq_false e;omega
   have hsl:(slotsFrom s k).length=k:=by simp[slotsFrom]
   have hk4:k<=4:=by
    cases hc:b with
    | true=>have:=hk0 hc;omega
    | false=>have:=(hb.1 hc).2;omega
   refine Z8 ?_;refine bC .k ((manyX (s+n) rb l i2 b hl L2 _).b) ?_;rintro _ _ ⟨n2,s3,i3,b3,rfl,rfl,q3,T3⟩;have L3:=T3.le;refine Z10 ?_;refine CW.ownNilB (b:=kb) (t:=79) 143 2 2 Yy rfl rfl ?_;refine CW.perm (List.Perm.swap _ _ _) ?_;refine lj (λm st=>∃(k2:Nat) (out:List (Int×Int)) (s4:Int) (j:Nat) (c:Bool) (v2:Value),st=⟨[(8,.i k2),(6,.i n2),(5,.p kb 0),(4,.p cb 0),(0,.p rb 0)],rr rb l j c::.own 143 2 v2::.own 3 1 v::.blk kb 79 [AV.ints ps,.as (AV.ints (slotsFrom s k)) v,.as (AV.mvs out) v2]::.blk cb 79 [nilA,nilA,nilA]::H⟩/\m=n2 - k2/\k2<=n2/\TTo initR n2 s3 l i3 b3 k2 out s4 j c) (⟨0,[],s3,i3,b3,_,rfl,rfl,Yd,.begin _ _ _ _ L3⟩) ?_;rintro m _ ⟨k2,out,s4,j,c,v2,rfl,rfl,hk2,hT⟩;refine Z15 ?_;refine CW.cond rfl (λh2=>?_) (λh2=>?_)
   ·obtain⟨hkn,rfl⟩:=go_on h2;replace hkn:k2<n2:=Int.ofNat_lt.1 (of_decide_eq_true hkn);have hlk:=hT.len;have hle:=hT.le;obtain⟨w,i4,b4,E4⟩:∃z_ j_ c_,numG l j false=(z_,j_,c_):=⟨_,_,_,rfl⟩;have L4:i4<=l.length:=by have h:=numG_le l j false hle;rw[E4] at h;exact h
    obtain⟨z,i5,b5,E5⟩:∃z_ j_ c_,intG l i4 b4=(z_,j_,c_):=⟨_,_,_,rfl⟩;have L5:i5<=l.length:=by have h:=intG_le l i4 b4 L4;rw[E5] at h;exact h
    obtain⟨s5,hR⟩:=ROk.init s4 l j false hle;rw[initG,bindG,E4,bindG,E5] at hR;refine Z7 ?_;refine bC .k ((RG.e (numD rb l j false hl hle _) E4).b) ?_;rintro _ _ ⟨rfl,rfl⟩;refine Z3 ?_;refine CW.dp mixed ?_;refine DP.anyK (X:=noX) [⟨4,59,false⟩] (λJ=>match J with | [some _]=>rr rb l i5 b5::.own 143 2 v2::.own 3 1 v::.blk kb 79 [AV.ints ps,.as (AV.ints (slotsFrom s k)) v,.as (AV.mvs out) v2]::.blk cb 79 [nilA,nilA,nilA]::H | _=>rr rb l i4 b4::.own 143 2 v2::.own 3 1 v::.blk kb 79 [AV.ints ps,.as (AV.ints (slotsFrom s k)) v,.as (AV.mvs out) v2]::.blk cb 79 [nilA,nilA,nilA]::H) (λq J=>match q,J with | 0,[some _]=>.i z | _,_=>.any) 0 7 65 rfl Ye Ye rfl rfl Ye rfl (λ_ _ _ _ _ _ _ _ _ h=>h.elim) ?_;refine UD.popK [[true],[false]] rfl Ye rfl rfl rfl ⟨λf=>Yi,λf=>Yi,trivial⟩ ?_;refine UD.popK [[true],[false]] rfl Ye rfl rfl rfl ⟨λf=>Ya,λf=>Ya,trivial⟩ ?_;refine UD.popK [[true],[false]] rfl Ye rfl rfl rfl ⟨λf=>POp.move rfl rfl rfl,λf=>POp.move rfl rfl rfl,trivial⟩ ?_;refine UD.popK [[false]] rfl Ye rfl rfl rfl ⟨λf=>POp.move rfl rfl rfl,trivial⟩ ?_;refine UD.effK 0 [[false]] rfl rfl rfl Ye rfl rfl rfl ⟨λf=>⟨KOk.rcall (Hf:=[]) (pv:=wrongA) .k (RCall.of (RG.e (intD rb l i4 b4 hl L4 _) E5)) (λ_=>rfl) (λ_=>rfl),Yp⟩,trivial⟩ ?_;refine UD.popK [[true]] rfl Ye rfl rfl rfl ⟨λf=>POp.build' (cs:=initA (w,z)) rfl rfl Yh rfl,trivial⟩ ?_;refine UD.popK [[true]] rfl Ye rfl rfl rfl ⟨λf=>POp.le (x:=.sl 2 [initA (w,z)]) (POp.row rfl rfl Yh rfl rfl rfl rfl rfl rfl) (AVle.refl _),trivial⟩ ?_;refine UD.nil (λf=>?_);simp only[kvals,List.map_cons,List.map_nil,List.cons_append,List.nil_append];refine Z1 ?_;refine OL.appendC rfl rfl rfl rfl rfl rfl rfl rfl (AVle.refl _) (rfl) (λv=>by repeat (first | exact Upd.head _ _ _ | apply Upd.tail)) (Yo) (Yo) (λv62=>?_);refine Z10 ?_;exact ag (⟨k2+1,out++[(w,z)],s5,i5,b5,v62,by rw[mvs_snoc],rfl,hkn,hT.step hkn hR⟩)
   ·have hst2:=stop_at h2 hk2;refine Z12 ?_;refine Done.retR (rs:=[.cell 4 79]) (H':=rr rb l j c::H) rfl (Yj) (.cons (AVle.agg (.cons (.refl _) (.cons (AVle.asL _ _) (.cons (AVle.asL _ _) .nil)))) .nil) (by exact .cons_cons _ (.cons _ (.cons _ (.cons _ (.cons _ (.refl _)))))) ?_;exact⟨⟨ps,slotsFrom s k,out⟩,s4,j,c,rfl,rfl,⟨by show (slotsFrom s k).length<=4;omega,q1⟩,cls_to T1 T2 hb hst T3 (hT.fin hst2)⟩
def manyG:Gr Nat:=λl i b=>if(numG l i b).1<=(l.length:Int) - ((numG l i b).2.1:Nat) then ((numG l i b).1.toNat,(numG l i b).2.1,(numG l i b).2.2) else (0,(numG l i b).2.1,true)
theorem ROk.many:ROk (manyRd (σ:=σ)) manyG:=λs l i b hi=>by
 obtain⟨s1,h⟩:=ROk.num s l i b hi;have h0:=(numG_is l i b).1;unfold manyG;split
 ·rename_i hc;exact⟨s1,many_of h h0 hc⟩
 ·rename_i hc;exact⟨s,many_no h hc h.le⟩
def listG(R:Gr α):Gr (List α):=bindG manyG λn=>timesG R n
theorem ROk.list{R:Rd σ α}{G:Gr α}(h:ROk R G):ROk (listR R) (listG G):=ROk.many.bind λn=>h.times n
def numsG:Gr (List Int):=listG numG
theorem ROk.nums:ROk (listR (numR (σ:=σ))) numsG:=ROk.num.list
structure TGo{α:Type}(G:Gr α)(n:Nat)(l:List U8)(i0:Nat)(b0:Bool)(k:Nat)(out:List α)(j:Nat)(b:Bool):Prop where
 le:j<=l.length
 len:out.length=k
 eq:timesG G n l i0 b0=(out++(timesG G (n - k) l j b).1,(timesG G (n - k) l j b).2)
theorem TGo.begin(G:Gr α)(n:Nat){l:List U8}{i:Nat}(b:Bool)(hi:i<=l.length):TGo G n l i b 0 [] i b:=⟨hi,rfl,rfl⟩
theorem TGo.step{G:Gr α}{n:Nat}{i0 k j j':Nat}{out:List α}{z:α}(h:TGo G n l i0 b0 k out j false)(hk:k<n)(hz:G l j false=(z,j',b'))(hj:j'<=l.length):TGo G n l i0 b0 (k+1) (out++[z]) j' b':=by
 refine⟨hj,by rw[List.length_append,h.len];rfl,?_⟩;rw[h.eq,show n - k=n - (k+1)+1 by omega,timesG,if_neg Yx,bindG,hz];simp only[bindG,doneG,List.append_assoc,List.singleton_append]
theorem TGo.fin{G:Gr α}{n:Nat}{b0 b:Bool}{out:List α}(h:TGo G n l i0 b0 k out j b)(hk:b=true\/k=n):timesG G n l i0 b0=(out,j,b):=by
 have e:timesG G (n - k) l j b=([],j,b):=by
  rcases hk with rfl | rfl
  ·cases n - k <;> simp[timesG]
  ·rw[Nat.sub_self,timesG]
 rw[h.eq,e,List.append_nil]
theorem manyG_le(l:List U8)(i:Nat)(b:Bool)(hi:i<=l.length):(manyG l i b).2.1<=l.length:=(ROk.many () l i b hi).elim λ_ h=>h.le
theorem manyG_is(l:List U8)(i:Nat)(b:Bool)(hi:i<=l.length):(manyG l i b).1<=l.length:=by
 have h0:=(numG_is l i b).1;unfold manyG;split
 ·rename_i hc;show (numG l i b).1.toNat<=_;omega
 ·show 0<=_;omega
theorem numsG_le(l:List U8)(i:Nat)(b:Bool)(hi:i<=l.length):(numsG l i b).2.1<=l.length:=(ROk.nums () l i b hi).elim λ_ h=>h.le
theorem manyD(rb:Nat)(l:List U8)(i:Nat)(bad:Bool)(hl:l.length<=1048576)(hi:i<=l.length)(H:List Ent):ACall Tryz.prog 97 [.p rb 0] (rr rb l i bad::H) (RG (λ(n:Nat)=>.i n) (manyG) rb l i bad H) (λ_ _=>False):=by
 refine aC (n:=21) Tryz.func97 λB I w0=>?_;obtain⟨n,i1,b1,E1⟩:∃z j c,numG l i bad=(z,j,c):=⟨_,_,_,rfl⟩;have q1:isN n:=by have h:=numG_is l i bad;rw[E1] at h;exact h
 have L1:i1<=l.length:=by have h:=numG_le l i bad hi;rw[E1] at h;exact h
 refine Z8 ?_;refine bC .k ((RG.e (numD rb l i bad hl hi _) E1).b) ?_;rintro _ _ ⟨rfl,rfl⟩;refine Z5 ?_;refine CW.dp mixed ?_;refine DP.anyC 0 11 21 rfl Ye rfl rfl Ye ?_;refine Z16 ?_;refine cd (λh0=>?_) λh0=>?_
 ·have hG:manyG l i bad=(0,i1,true):=by rw[manyG,E1];exact if_neg (by show ¬n<=(l.length:Int) - (i1:Nat);omega)
  refine Z3 ?_;refine bC .k (((q168 rb l i1 b1 _).ok).b) ?_;rintro _ _ ⟨rfl,rfl⟩;refine Z5 ?_;refine r1 2 (rr rb l i1 true::H) ?_;exact⟨Ybz,by rw[hG]⟩
 ·have h00:=q1.1;have hG:manyG l i bad=(n.toNat,i1,b1):=by rw[manyG,E1];exact if_pos (by show n<=(l.length:Int) - (i1:Nat);omega)
  refine Z9 ?_;refine r1 2 (rr rb l i1 b1::H) ?_;exact⟨by rw[hG];show AV.i n=AV.i n.toNat;rw[Int.toNat_of_nonneg h00],by rw[hG]⟩
theorem numsD(rb:Nat)(l:List U8)(i:Nat)(bad:Bool)(hl:l.length<=1048576)(hi:i<=l.length)(H:List Ent):ACall Tryz.prog 205 [.p rb 0] (rr rb l i bad::H) (RG (AV.ints) (numsG) rb l i bad H) (λ_ _=>False):=by
 refine aC (n:=26) Tryz.func205 λB I w0=>?_;obtain⟨n,i1,b1,E1⟩:∃z_ j_ c_,manyG l i bad=(z_,j_,c_):=⟨_,_,_,rfl⟩;have L1:i1<=l.length:=by have h:=manyG_le l i bad hi;rw[E1] at h;exact h
 have q1:n<=l.length:=by have h:=manyG_is l i bad hi;rw[E1] at h;exact h
 have hv:numsG l i bad=timesG numG n l i1 b1:=by rw[numsG,listG,bindG,E1]
 refine Z11 ?_;refine CW.ownNil 3 3 1 rfl ?_;refine CW.perm (List.Perm.swap _ _ _) ?_;refine Z2 ?_;refine bC .k ((RG.e (manyD rb l i bad hl hi _) E1).b) ?_;rintro _ _ ⟨rfl,rfl⟩;refine Z10 ?_;refine lj (λm st=>∃(k:Nat) (out:List Int) (j:Nat) (b:Bool) (v:Value),st=⟨[(5,.i k),(4,.i n),(3,.as (AV.ints out) v),(0,.p rb 0)],rr rb l j b::.own 3 1 v::H⟩/\m=n - k/\k<=n/\TGo numG n l i1 b1 k out j b) (⟨0,[],i1,b1,_,rfl,rfl,Yd,.begin _ _ _ L1⟩) ?_;rintro m _ ⟨k,out,j,b,v,rfl,rfl,hk,hT⟩;refine Z15 ?_;refine CW.cond rfl (λh0=>?_) (λh0=>?_)
 ·obtain⟨hkn,rfl⟩:=go_on h0;replace hkn:k<n:=Int.ofNat_lt.1 (of_decide_eq_true hkn);have hlk:=hT.len;have hle:=hT.le;obtain⟨w,i3,b3,E3⟩:∃z_ j_ c_,numG l j false=(z_,j_,c_):=⟨_,_,_,rfl⟩;have L3:i3<=l.length:=by have h:=numG_le l j false hle;rw[E3] at h;exact h
  refine Z7 ?_;refine bC .k ((RG.e (numD rb l j false hl hle _) E3).b) ?_;rintro _ _ ⟨rfl,rfl⟩;refine OL.popC (x:=.sl 1 [[.i w]]) rfl rfl rfl (POp.row rfl rfl Yh rfl rfl rfl rfl rfl rfl) ?_;refine OL.appendC rfl rfl rfl rfl rfl rfl rfl rfl (AVle.refl _) (rfl) (λv=>by repeat (first | exact Upd.head _ _ _ | apply Upd.tail)) (Yo) (Yo) (λv24=>?_);refine Z9 ?_;exact ag (⟨k+1,out++[w],i3,b3,v24,by rw[<-ints_snoc1],rfl,hkn,hT.step hkn E3 L3⟩)
 ·have hst:=stop_at h0 hk;have hG:numsG l i bad=(out,j,b):=by rw[hv,hT.fin hst]
  refine Z12 ?_;refine Done.retR (rs:=[.tmp 2]) (H':=rr rb l j b::H) rfl (.tmp rfl (.nil)) (.cons (AVle.asL _ _) .nil) Ybq ?_;exact⟨Ybz,by rw[hG]⟩
def restG(R:Option (Gr Fact))(k:Nat)(f:List Fact->Fact):Gr Fact:=match R with
 | none=>failG (f [])
 | some R=>bindG (timesG R k) λks=>doneG (f ks)
def factK(R:Option (Gr Fact))(op:Int):Gr Fact:=
 if op=2 then bindG numG λa=>bindG numsG λps=>bindG numG λc=>restG R 0 λks=>.mk op a ps c 0 ks
 else if op=3\/op=4 then bindG numG λa=>bindG numsG λps=>bindG intG λn=>restG R 0 λks=>.mk op a ps 0 n ks
 else if opR op then restG R (kidCnt op) λks=>.mk op 0 [] 0 0 ks
 else bindG (failG ()) λ_=>restG R 0 λks=>.mk op 0 [] 0 0 ks
def factS(R:Option (Gr Fact)):Gr Fact:=bindG numG (factK R)
def factG:Nat->Gr Fact
 | 0=>factS none
 | d+1=>factS (some (factG d))
theorem ROk.need{σ α:Type}{R:Rd σ α}{G:Gr α}{c:Bool}(hc:c=true)(h:ROk R G):ROk (needR c R) G:=λs l i b hi=>(h s l i b hi).elim λs' h=>⟨s',h.need hc⟩
theorem ROk.dead{R:Rd σ α}{G:Gr α}(hR:∀s l,R s l=none)(hG:∀l i b,i<=l.length->(G l i b).2.1<=l.length/\(G l i b).2.2=true):ROk R G:=λs l i b hi=>by
 obtain⟨h1,h2⟩:=hG l i b hi;refine⟨s,?_⟩;rw[h2];exact .bad (.inr (hR _ _)) h1
theorem ROk.rest{R:Rd Nat Fact}{G:Gr Fact}(h:ROk R G)(k:Nat)(f:List Fact->Fact):ROk (thenR (timesR R k) λks=>doneR (f ks)) (restG (some G) k f):=(h.times k).bind λks=>.done _
theorem rest_no(k:Nat)(f:List Fact->Fact)(l:List U8)(i:Nat)(b:Bool)(hi:i<=l.length):(restG none k f l i b).2.1<=l.length/\(restG none k f l i b).2.2=true:=⟨hi,rfl⟩
theorem bind_dead{α β:Type}{R:Rd Unit α}{G:Gr α}{g:α->Gr β}(h:ROk R G)(hg:∀a l i b,i<=l.length->(g a l i b).2.1<=l.length/\(g a l i b).2.2=true)(l:List U8)(i:Nat)(b:Bool)(hi:i<=l.length):(bindG G g l i b).2.1<=l.length/\(bindG G g l i b).2.2=true:=
 (h () l i b hi).elim λ_ hT=>hg _ l _ _ hT.le
theorem fact_none(l:List U8)(i:Nat)(b:Bool)(hi:i<=l.length):(factS none l i b).2.1<=l.length/\(factS none l i b).2.2=true:=by
 refine bind_dead .num (λop l i b hi=>?_) l i b hi;unfold factK;split
 ·exact bind_dead .num (λa l i b hi=>bind_dead .nums (λps l i b hi=>bind_dead .num (λc l i b hi=>rest_no _ _ _ _ _ hi) l i b hi) l i b hi) l i b hi
 ·split
  ·exact bind_dead .num (λa l i b hi=>bind_dead .nums (λps l i b hi=>bind_dead .int (λc l i b hi=>rest_no _ _ _ _ _ hi) l i b hi) l i b hi) l i b hi
  ·split
   ·exact rest_no _ _ _ _ _ hi
   ·exact⟨hi,rfl⟩
theorem ROk.fact:∀d,ROk (factR2 d) (factG d)
 | 0=>.dead (λ_ _=>rfl) fact_none
 | d+1=>ROk.num.bind λop=>by
  by_cases ho:opR op=true
  ·refine ROk.need ho ?_;unfold factB factK;by_cases h2:op=2
   ·rw[if_pos h2,if_pos h2];exact ROk.num.bind λa=>ROk.nums.bind λps=>ROk.num.bind λc=>.done _
   ·rw[if_neg h2,if_neg h2];by_cases h3:op=3\/op=4
    ·rw[if_pos h3,if_pos h3];exact ROk.num.bind λa=>ROk.nums.bind λps=>ROk.int.bind λc=>.done _
    ·rw[if_neg h3,if_neg h3,if_pos ho];exact (ROk.fact d).rest _ λks=>.mk op 0 [] 0 0 ks
  ·have hq:opR op=false:=by simpa using ho
   have hq2: ¬op=2:=by rintro rfl;exact ho rfl
   have hq3: ¬(op=3\/op=4):=by rintro (rfl | rfl) <;> exact ho rfl
   refine .dead (λs l=>needR_no hq) λl i b hi=>?_;unfold factK;rw[if_neg hq2,if_neg hq3,if_neg ho];exact⟨hi,rfl⟩
theorem factG_le(d:Nat)(l:List U8)(i:Nat)(b:Bool)(hi:i<=l.length):(factG d l i b).2.1<=l.length:=(ROk.fact d 0 l i b hi).elim λ_ h=>h.le
theorem factK_plain{R:Option (Gr Fact)}(h:n=1\/n=5\/n=6\/n=7):factK R n=restG R (kidCnt n) λks=>.mk n 0 [] 0 0 ks:=by
 unfold factK;rw[if_neg Yd,if_neg Yd,if_pos (by rw[opR,Bool.and_eq_true];exact⟨decide_eq_true Yd,decide_eq_true Yd⟩)]
theorem factK_two{R:Option (Gr Fact)}(h:n=2):factK R n=bindG numG λa=>bindG numsG λps=>bindG numG λc=>restG R 0 λks=>.mk n a ps c 0 ks:=if_pos h
theorem factK_leaf{R:Option (Gr Fact)}(h:n=3\/n=4):factK R n=bindG numG λa=>bindG numsG λps=>bindG intG λz=>restG R 0 λks=>.mk n a ps 0 z ks:=by
 unfold factK;rw[if_neg Yd,if_pos h]
theorem factK_bad{R:Option (Gr Fact)}(h:n<1\/n>7):factK R n=bindG (failG ()) λ_=>restG R 0 λks=>.mk n 0 [] 0 0 ks:=by
 unfold factK;rw[if_neg Yd,if_neg Yd,if_neg YaM]
def KidsI(d:Nat)(R:Option (Gr Fact))(k:Nat)(l:List U8)(j:Nat)(b:Bool)(kk:Nat)(out:List Fact)(jj:Nat)(bb:Bool):Prop:=(d=0/\kk=0/\out= []/\bb=true/\jj=j)\/(d≠0/\∃g,R=some g/\TGo g k l j b kk out jj bb)
theorem kids_fin{d:Nat}{R:Option (Gr Fact)}{b:Bool}{kk:Nat}{out:List Fact}{jj:Nat}(h0:d=0->R=none)(h:KidsI d R k l j b kk out jj bb)(hst:bb=true\/kk=k)(f:List Fact->Fact):restG R k f l j b=(f out,jj,bb):=by
 rcases h with⟨e1,e2,e3,e4,e5⟩ | ⟨_,g,e1,hT⟩
 ·rw[h0 e1,e3,e4,e5];rfl
 ·rw[e1];show (bindG (timesG g k) λks=>doneG (f ks)) l j b=_;rw[bindG,hT.fin hst];rfl
theorem factD_step{d:Nat}{R:Option (Gr Fact)}(hd:d<=1000)(h0:d=0->R=none)(h1:d≠0->∃g,R=some g/\(∀(rb:Nat) (l:List U8) (i:Nat) (bad:Bool),l.length<=1048576->i<=l.length->∀H,ACall Tryz.prog 206 [.p rb 0,.i ((d:Int) - 1)] (rr rb l i bad::H) (RG AV.fact g rb l i bad H) (λ_ _=>False))/\∀(l:List U8) (i:Nat) (b:Bool),i<=l.length->(g l i b).2.1<=l.length)(rb:Nat)(l:List U8)(i:Nat)(bad:Bool)(hl:l.length<=1048576)(hi:i<=l.length)(H:List Ent):ACall Tryz.prog 206 [.p rb 0,.i (d:Int)] (rr rb l i bad::H) (RG (AV.fact) (factS R) rb l i bad H) (λ_ _=>False):=by
 refine aC (n:=71) Tryz.func206 λB I w0=>?_;have hz:=h0;clear h0;obtain⟨n,i1,b1,E1⟩:∃z j c,numG l i bad=(z,j,c):=⟨_,_,_,rfl⟩;have q1:isN n:=by have h:=numG_is l i bad;rw[E1] at h;exact h
 have L1:i1<=l.length:=by have h:=numG_le l i bad hi;rw[E1] at h;exact h
 have hv:factS R l i bad=factK R n l i1 b1:=by rw[factS,bindG,E1]
 refine Z2 ?_;refine OL.alC rfl rfl rfl rfl (λcb=>?_);refine Z3 ?_;refine CW.perm (List.Perm.swap _ _ _) ?_;refine Z2 ?_;refine bC .k ((RG.e (numD rb l i bad hl hi _) E1).b) ?_;rintro _ _ ⟨rfl,rfl⟩;refine Z1 ?_;refine OL.alC rfl rfl rfl rfl (λkb=>?_);refine Z4 ?_;refine CW.perm (List.Perm.swap _ _ _) ?_;refine Z4 ?_;refine CW.cutJ (λst=>∃(k:Nat) (a:Int) (ps:List Int) (c z:Int) (pv:AV) (j:Nat) (b:Bool),st=⟨[(6,.i k),(5,.p kb 0),(4,.p cb 0),(1,.i d),(0,.p rb 0)],rr rb l j b::.blk kb 166 [.i n,.i a,pv,.i c,.i z,nilA]::.blk cb 166 [.val (.int .i64 0),.val (.int .i64 0),nilA,.val (.int .i64 0),.val (.int .i64 0),nilA]::H⟩/\((pv=nilA/\ps= [])\/pv=AV.ints ps)/\j<=l.length/\k<=2/\factS R l i bad=restG R k (λks=>.mk n a ps c z ks) l j b) ?_ ?_
 ·refine Z13 ?_;refine cd (λh0=>?_) λh0=>?_
  ·refine Z2 ?_;exact cj ⟨0,0,[],0,0,nilA,i1,b1,rfl,.inl ⟨rfl,rfl⟩,L1,Yd,by rw[hv,factK_plain Yd,show kidCnt n=0 by rw[h0];rfl]⟩
  ·refine Z6 ?_;refine cd (λh1=>?_) λh1=>?_
   ·obtain⟨a,i2,b2,E2⟩:∃z_ j_ c_,numG l i1 b1=(z_,j_,c_):=⟨_,_,_,rfl⟩;have L2:i2<=l.length:=by have h:=numG_le l i1 b1 L1;rw[E2] at h;exact h
    obtain⟨ps,i3,b3,E3⟩:∃z_ j_ c_,numsG l i2 b2=(z_,j_,c_):=⟨_,_,_,rfl⟩;have L3:i3<=l.length:=by have h:=numsG_le l i2 b2 L2;rw[E3] at h;exact h
    obtain⟨c,i4,b4,E4⟩:∃z_ j_ c_,numG l i3 b3=(z_,j_,c_):=⟨_,_,_,rfl⟩;have L4:i4<=l.length:=by have h:=numG_le l i3 b3 L3;rw[E4] at h;exact h
    simp only[factK_two h1,bindG,E2,E3,E4] at hv;refine Z3 ?_;refine bC .k ((RG.e (numD rb l i1 b1 hl L1 _) E2).b) ?_;rintro _ _ ⟨rfl,rfl⟩;refine Z7 ?_;refine bC .k ((RG.e (numsD rb l i2 b2 hl L2 _) E3).b) ?_;rintro _ _ ⟨rfl,rfl⟩;refine Z6 ?_;refine bC .k ((RG.e (numD rb l i3 b3 hl L3 _) E4).b) ?_;rintro _ _ ⟨rfl,rfl⟩;refine Z4 ?_;exact cj ⟨0,a,ps,c,0,AV.ints ps,i4,b4,rfl,.inr rfl,L4,Yd,hv⟩
   ·refine Z7 ?_;refine cd (λh2=>?_) λh2=>?_
    ·refine Z2 ?_;refine CW.cond rfl (λh3=>?_) (λh3=>?_)
     ·replace h3:=nm h3;obtain⟨a,i2,b2,E2⟩:∃z_ j_ c_,numG l i1 b1=(z_,j_,c_):=⟨_,_,_,rfl⟩;have L2:i2<=l.length:=by have h:=numG_le l i1 b1 L1;rw[E2] at h;exact h
      obtain⟨ps,i3,b3,E3⟩:∃z_ j_ c_,numsG l i2 b2=(z_,j_,c_):=⟨_,_,_,rfl⟩;have L3:i3<=l.length:=by have h:=numsG_le l i2 b2 L2;rw[E3] at h;exact h
      obtain⟨z,i4,b4,E4⟩:∃z_ j_ c_,intG l i3 b3=(z_,j_,c_):=⟨_,_,_,rfl⟩;have L4:i4<=l.length:=by have h:=intG_le l i3 b3 L3;rw[E4] at h;exact h
      simp only[factK_leaf (.inl h2),bindG,E2,E3,E4] at hv;refine Z3 ?_;refine bC .k ((RG.e (numD rb l i1 b1 hl L1 _) E2).b) ?_;rintro _ _ ⟨rfl,rfl⟩;refine Z7 ?_;refine bC .k ((RG.e (numsD rb l i2 b2 hl L2 _) E3).b) ?_;rintro _ _ ⟨rfl,rfl⟩;refine Z6 ?_;refine bC .k ((RG.e (intD rb l i3 b3 hl L3 _) E4).b) ?_;rintro _ _ ⟨rfl,rfl⟩;refine Z4 ?_;exact cj ⟨0,a,ps,0,z,AV.ints ps,i4,b4,rfl,.inr rfl,L4,Yd,hv⟩
     ·simp_all
    ·refine Z5 ?_;refine cd (λh4=>?_) λh4=>?_
     ·obtain⟨a,i2,b2,E2⟩:∃z_ j_ c_,numG l i1 b1=(z_,j_,c_):=⟨_,_,_,rfl⟩;have L2:i2<=l.length:=by have h:=numG_le l i1 b1 L1;rw[E2] at h;exact h
      obtain⟨ps,i3,b3,E3⟩:∃z_ j_ c_,numsG l i2 b2=(z_,j_,c_):=⟨_,_,_,rfl⟩;have L3:i3<=l.length:=by have h:=numsG_le l i2 b2 L2;rw[E3] at h;exact h
      obtain⟨z,i4,b4,E4⟩:∃z_ j_ c_,intG l i3 b3=(z_,j_,c_):=⟨_,_,_,rfl⟩;have L4:i4<=l.length:=by have h:=intG_le l i3 b3 L3;rw[E4] at h;exact h
      simp only[factK_leaf (.inr h4),bindG,E2,E3,E4] at hv;refine Z3 ?_;refine bC .k ((RG.e (numD rb l i1 b1 hl L1 _) E2).b) ?_;rintro _ _ ⟨rfl,rfl⟩;refine Z7 ?_;refine bC .k ((RG.e (numsD rb l i2 b2 hl L2 _) E3).b) ?_;rintro _ _ ⟨rfl,rfl⟩;refine Z6 ?_;refine bC .k ((RG.e (intD rb l i3 b3 hl L3 _) E4).b) ?_;rintro _ _ ⟨rfl,rfl⟩;refine Z4 ?_;exact cj ⟨0,a,ps,0,z,AV.ints ps,i4,b4,rfl,.inr rfl,L4,Yd,hv⟩
     ·refine Z6 ?_;refine cd (λh5=>?_) λh5=>?_
      ·refine Z4 ?_;exact cj ⟨1,0,[],0,0,nilA,i1,b1,rfl,.inl ⟨rfl,rfl⟩,L1,Yd,by rw[hv,factK_plain Yd,show kidCnt n=1 by rw[h5];rfl]⟩
      ·refine Z7 ?_;refine cd (λh6=>?_) λh6=>?_
       ·refine Z2 ?_;refine CW.cond rfl (λh7=>?_) (λh7=>?_)
        ·replace h7:=nm h7;refine Z4 ?_;exact cj ⟨2,0,[],0,0,nilA,i1,b1,rfl,.inl ⟨rfl,rfl⟩,L1,Yd,by rw[hv,factK_plain Yd,show kidCnt n=2 by rw[h6];rfl]⟩
        ·simp_all
       ·refine Z5 ?_;refine cd (λh8=>?_) λh8=>?_
        ·refine Z4 ?_;exact cj ⟨2,0,[],0,0,nilA,i1,b1,rfl,.inl ⟨rfl,rfl⟩,L1,Yd,by rw[hv,factK_plain Yd,show kidCnt n=2 by rw[h8];rfl]⟩
        ·have hbad:n<1\/n>7:=by omega
         refine Z2 ?_;refine bC .k (((q168 rb l i1 b1 _).ok).b) ?_;rintro _ _ ⟨rfl,rfl⟩;refine Z2 ?_;exact cj ⟨0,0,[],0,0,nilA,i1,true,rfl,.inl ⟨rfl,rfl⟩,L1,Yd,by rw[hv,factK_bad hbad];rfl⟩
 ·rintro _ ⟨k,a,ps,c,z,pv,j,b,rfl,hpv,Lj,hk2,hr⟩;refine CW.cutJ (λst=>∃bb:Bool,st=⟨[(6,.i k),(5,.p kb 0),(4,.p cb 0),(1,.i d),(0,.p rb 0)],rr rb l j bb::.blk kb 166 [.i n,.i a,pv,.i c,.i z,nilA]::.blk cb 166 [.val (.int .i64 0),.val (.int .i64 0),nilA,.val (.int .i64 0),.val (.int .i64 0),nilA]::H⟩/\KidsI d R k l j b 0 [] j bb) ?_ ?_
  ·refine Z6 ?_;refine cd (λh9=>?_) λh9=>?_
   ·have hd0:d=0:=by omega
    refine Z2 ?_;refine bC .k (((q168 rb l j b _).ok).b) ?_;rintro _ _ ⟨rfl,rfl⟩;refine Z1 ?_;exact cj ⟨true,rfl,.inl ⟨hd0,rfl,rfl,rfl,rfl⟩⟩
   ·have hd0:d≠0:=by omega
    obtain⟨g,hg,hcall,hgle⟩:=h1 hd0;refine Z1 ?_;exact cj ⟨b,rfl,.inr ⟨hd0,g,hg,.begin _ _ _ Lj⟩⟩
  ·rintro _ ⟨bb,rfl,hK⟩;refine Z7 ?_;refine CW.ownNilB (b:=kb) (t:=166) 166 6 5 Yy rfl rfl ?_;refine CW.perm (List.Perm.swap _ _ _) ?_;refine lj (λm st=>∃(kk:Nat) (ks:List Fact) (jj:Nat) (bb:Bool) (v:Value),st=⟨[(7,.i kk),(6,.i k),(5,.p kb 0),(4,.p cb 0),(1,.i d),(0,.p rb 0)],rr rb l jj bb::.own 166 6 v::.blk kb 166 [.i n,.i a,pv,.i c,.i z,.as (.sl 6 (ks.map Fcells)) v]::.blk cb 166 [.val (.int .i64 0),.val (.int .i64 0),nilA,.val (.int .i64 0),.val (.int .i64 0),nilA]::H⟩/\m=k - kk/\kk<=k/\KidsI d R k l j b kk ks jj bb) (⟨0,[],j,bb,_,rfl,rfl,Yd,hK⟩) ?_;rintro m _ ⟨kk,ks,jj,bb,v,rfl,rfl,hk,hK⟩;refine Z15 ?_;refine CW.cond rfl (λh10=>?_) (λh10=>?_)
   ·obtain⟨hkn,rfl⟩:=go_on h10;replace hkn:kk<k:=Int.ofNat_lt.1 (of_decide_eq_true hkn);obtain⟨hd0,g,hg,hT⟩:d≠0/\∃g,R=some g/\TGo g k l j b kk ks jj false:=by
     rcases hK with h | h
     ·cases h.2.2.2.1
     ·exact h
    obtain⟨g2,hg2,hcall,hgle⟩:=h1 hd0;obtain rfl:g=g2:=by rw[hg] at hg2;exact Option.some.inj hg2
    have hlk:=hT.len;have hle:=hT.le;obtain⟨w,i5,b5,E5⟩:∃z_ j_ c_,g l jj false=(z_,j_,c_):=⟨_,_,_,rfl⟩;have L5:i5<=l.length:=by have h:=hgle l jj false hle;rw[E5] at h;exact h
    refine Z4 ?_;refine CW.dp mixed ?_;refine DP.anyK (X:=noX) [⟨5,66,false⟩] (λJ=>match J with | [some _]=>rr rb l i5 b5::.own 166 6 v::.blk kb 166 [.i n,.i a,pv,.i c,.i z,.as (.sl 6 (ks.map Fcells)) v]::.blk cb 166 [.val (.int .i64 0),.val (.int .i64 0),nilA,.val (.int .i64 0),.val (.int .i64 0),nilA]::H | _=>rr rb l jj false::.own 166 6 v::.blk kb 166 [.i n,.i a,pv,.i c,.i z,.as (.sl 6 (ks.map Fcells)) v]::.blk cb 166 [.val (.int .i64 0),.val (.int .i64 0),nilA,.val (.int .i64 0),.val (.int .i64 0),nilA]::H) (λq J=>match q,J with | 0,[some _]=>AV.fact w | _,_=>.any) 0 7 71 rfl Ye Ye rfl rfl Ye rfl (λ_ _ _ _ _ _ _ _ _ h=>h.elim) ?_;refine UD.popK [[true],[false]] rfl Ye rfl rfl rfl ⟨λf=>Yi,λf=>Yi,trivial⟩ ?_;refine UD.popK [[true],[false]] rfl Ye rfl rfl rfl ⟨λf=>Ya,λf=>Ya,trivial⟩ ?_;refine UD.popK [[false]] rfl Ye rfl rfl rfl ⟨λf=>POp.move rfl rfl rfl,trivial⟩ ?_;refine UD.popK [[false]] rfl Ye rfl rfl rfl ⟨λf=>POp.move rfl rfl rfl,trivial⟩ ?_;refine UD.popK [[false]] rfl Ye rfl rfl rfl ⟨λf=>POp.arith rfl rfl rfl rfl rfl rfl (wrap64 Yd),trivial⟩ ?_;refine UD.effK 0 [[false]] rfl rfl rfl Ye rfl rfl rfl ⟨λf=>⟨KOk.rcall (Hf:=[]) (pv:=wrongA) .k (RCall.of (RG.e (hcall rb l jj false hl hle _) E5)) (λ_=>rfl) (λ_=>rfl),Yp⟩,trivial⟩ ?_;refine UD.popK [[true]] rfl Ye rfl rfl rfl ⟨λf=>POp.le (x:=.sl 6 [Fcells w]) (POp.row rfl rfl Yh rfl rfl rfl rfl rfl rfl) (AVle.refl _),trivial⟩ ?_;refine UD.nil (λf=>?_);simp only[kvals,List.map_cons,List.map_nil,List.cons_append,List.nil_append];refine Z1 ?_;refine OL.appendC rfl rfl rfl rfl rfl rfl rfl rfl (AVle.refl _) (rfl) (λv=>by repeat (first | exact Upd.head _ _ _ | apply Upd.tail)) (Yo) (Yo) (λv68=>?_);refine Z10 ?_;rw[rows_snoc Fcells];exact ag ⟨kk+1,ks++[w],i5,b5,v68,rfl,rfl,hkn,.inr ⟨hd0,g,hg,hT.step hkn E5 L5⟩⟩
   ·have hst:=stop_at h10 hk;have hG:factS R l i bad=(.mk n a ps c z ks,jj,bb):=by rw[hr];exact kids_fin hz hK hst _
    refine Z8 ?_;apply OL.stoC rfl rfl rfl rfl rfl rfl rfl Ya1 Ya1 rfl
    (case hu=>repeat (first | exact Upd.head _ _ _ | apply Upd.tail));(case hfit=>rfl);(case hds=>rfl)
    refine Z3 ?_;refine Done.retR (rs:=[.cell 4 166]) (H':=rr rb l jj bb::H) rfl (Yj) (.cons (AVle.agg (.cons (.refl _) (.cons (.refl _) (.cons (show AVle pv (AV.ints ps) by rcases hpv with⟨rfl,rfl⟩ | rfl;exact AVle.nil 1;exact .refl _) (.cons (.refl _) (.cons (.refl _) (.cons ((AVle.asL _ _).trans (AVle_facts _ rfl)) .nil))))))) .nil) Yai ?_;exact⟨Ybz,by rw[hG]⟩
theorem factD:∀(d:Nat),d<=1000->∀(rb:Nat) (l:List U8) (i:Nat) (bad:Bool),l.length<=1048576->i<=l.length->∀H,ACall Tryz.prog 206 [.p rb 0,.i (d:Int)] (rr rb l i bad::H) (RG AV.fact (factG d) rb l i bad H) (λ_ _=>False)
 | 0,hd=>λrb l i bad hl hi H=>factD_step (R:=none) hd (λ_=>rfl) (λh=>absurd rfl h) rb l i bad hl hi H
 | d+1,hd=>λrb l i bad hl hi H=>factD_step (R:=some (factG d)) hd (λh=>by omega) (λ_=>⟨factG d,rfl,by rw[show ((d+1:Nat):Int) - 1=(d:Int) by omega];exact factD d Yd,factG_le d⟩) rb l i bad hl hi H
def ndNG(op:Int):Gr Int:=if op=1 then intG else if nodeNum op then numG else doneG 0
def ndK(gens:List Int)(op n:Int):Gr Nd:=if ndOk gens op n then bindG (timesG numG (kidsR (gensP gens) ⟨op,n,[]⟩).toNat) λks=>doneG ⟨op,n,ks⟩ else failG ⟨op,n,[]⟩
def ndG(gens:List Int):Gr Nd:=bindG numG λop=>bindG (ndNG op) λn=>ndK gens op n
theorem ROk.ndN(op:Int):ROk (ndNR (σ:=σ) op) (ndNG op):=by
 unfold ndNR ndNG;split
 ·exact .int
 ·split
  ·exact .num
  ·exact .done _
theorem ROk.nd(gens:List Int):ROk (ndR2 (σ:=σ) gens) (ndG gens):=ROk.num.bind λop=>(ROk.ndN op).bind λn=>by
 unfold ndK;by_cases h:ndOk gens op n=true
 ·rw[if_pos h];exact .need h ((ROk.num.times _).bind λks=>.done _)
 ·rw[if_neg h];exact .no _ λs l=>needR_no Yac
theorem ndG_le(gens:List Int)(l:List U8)(i:Nat)(b:Bool)(hi:i<=l.length):(ndG gens l i b).2.1<=l.length:=(ROk.nd gens () l i b hi).elim λ_ h=>h.le
theorem ndNG_one(h:hasN21 op=1):ndNG op=numG:=by
 unfold hasN21 at h;unfold ndNG;split at h
 ·cases h
 ·rename_i h1;rw[if_neg h1];split at h
  ·rename_i h2;exact if_pos h2
  ·cases h
theorem ndNG_two(h:hasN21 op=2):ndNG op=intG:=by
 unfold hasN21 at h;split at h
 ·rename_i h1;exact if_pos h1
 ·split at h <;> cases h
theorem ndNG_no(h1: ¬hasN21 op=1)(h2: ¬hasN21 op=2):ndNG op=doneG 0:=by
 unfold hasN21 at h1 h2;by_cases h:op=1
 ·rw[if_pos h] at h2;exact absurd rfl h2
 ·rw[if_neg h] at h1;by_cases h3:nodeNum op=true
  ·rw[if_pos h3] at h1;exact absurd rfl h1
  ·unfold ndNG;rw[if_neg h,if_neg h3]
theorem nd_cond(gens:List Int)(op n:Int):(bif bif decide (op<1) then true else decide (op>18) then true else bif op==5 then decide (n>=(gens.length:Int)) else false)= !ndOk gens op n:=by
 unfold ndOk;rw[Bool.cond_true_left,Bool.cond_true_left,Bool.cond_false_right,show (op==5)=decide (op=5) from rfl];rw[Bool.eq_iff_iff];simp only[Bool.or_eq_true,Bool.and_eq_true,decide_eq_true_eq,Bool.not_eq_true',Bool.and_eq_false_iff,decide_eq_false_iff_not,Bool.not_eq_false'];omega
theorem kids_le{gens:List Int}(hg:∀g∈gens,g<=3)(op n:Int):kidsR (gensP gens) ⟨op,n,[]⟩<=3:=by
 unfold kidsR;split
 ·decide
 ·show (if 0<=n/\n<(gens.length:Int) then gens.getD n.toNat default else -1)<=3;split
  ·exact hg _ (getD_memB Yd)
  ·decide
 ·rename_i k hk;show (k:Int)<=3;unfold kindOf at hk;split at hk
  ·simp at hk
  ·split at hk
   ·simp at hk;omega
   ·split at hk
    ·simp at hk;omega
    ·split at hk
     ·simp at hk;omega
     ·split at hk
      ·simp at hk;omega
      ·simp at hk
theorem doneD(rb:Nat)(l:List U8)(i:Nat)(bad:Bool)(H:List Ent):ACall Tryz.prog 100 [.p rb 0] (rr rb l i bad::H) (λy H'=>y= .b (!bad && decide (i=l.length))/\H'=rr rb l i bad::H) (λ_ _=>False):=by
 refine aC (n:=20) Tryz.func100 λB I w0=>?_;refine Z6 ?_;refine CW.dp mixed ?_;refine Z24 ?_;refine DP.anyC 6 15 20 rfl Ye rfl rfl Ye ?_;refine Z17 ?_;refine r1 2 (rr rb l i bad::H) ?_;exact⟨retB (by rw[Bool.cond_false_right];congr 1;rw[Bool.eq_iff_iff];simp;try omega),rfl⟩
theorem ndD(hg:∀g∈p.gens,g<=3)(rb:Nat)(l:List U8)(i:Nat)(bad:Bool)(hl:l.length<=1048576)(hi:i<=l.length)(H:List Ent):ACall Tryz.prog 207 [.p rb 0,AV.prog p] (rr rb l i bad::H) (RG (AV.nd) (ndG p.gens) rb l i bad H) (λ_ _=>False):=by
 refine aC (n:=71) Tryz.func207 λB I w0=>?_;obtain⟨n,i1,b1,E1⟩:∃z j c,numG l i bad=(z,j,c):=⟨_,_,_,rfl⟩;have q1:isN n:=by have h:=numG_is l i bad;rw[E1] at h;exact h
 have L1:i1<=l.length:=by have h:=numG_le l i bad hi;rw[E1] at h;exact h
 have hv:ndG p.gens l i bad=bindG (ndNG n) (λz=>ndK p.gens n z) l i1 b1:=by rw[ndG,bindG,E1]
 refine Z3 ?_;refine OL.alC rfl rfl rfl rfl (λcb=>?_);refine Z3 ?_;refine CW.perm (List.Perm.swap _ _ _) ?_;refine Z2 ?_;refine bC .k ((RG.e (numD rb l i bad hl hi _) E1).b) ?_;rintro _ _ ⟨rfl,rfl⟩;refine Z1 ?_;refine OL.alC rfl rfl rfl rfl (λkb=>?_);refine Z3 ?_;refine CW.cutJ (λst=>∃(z:Int) (j:Nat) (b:Bool),st=⟨[(5,.p kb 0),(4,.p cb 0),(3,.ptr (progC p)),(0,.p rb 0)],rr rb l j b::.blk kb 146 [.i n,.i z,nilA]::.blk cb 146 [.val (.int .i64 0),.val (.int .i64 0),nilA]::H⟩/\j<=l.length/\ndNG n l i1 b1=(z,j,b)) ?_ ?_
 ·refine Z1 ?_;refine CW.perm (List.Perm.swap _ _ _) ?_;refine Z3 ?_;refine oP (POp.call .k (rHas21 n)) ?_;refine Z9 ?_;refine cd (λh0=>?_) λh0=>?_
  ·obtain⟨z,i2,b2,E2⟩:∃z_ j_ c_,numG l i1 b1=(z_,j_,c_):=⟨_,_,_,rfl⟩;have L2:i2<=l.length:=by have h:=numG_le l i1 b1 L1;rw[E2] at h;exact h
   refine Z2 ?_;refine bC .k ((RG.e (numD rb l i1 b1 hl L1 _) E2).b) ?_;rintro _ _ ⟨rfl,rfl⟩;refine Z4 ?_;exact cj ⟨z,i2,b2,rfl,L2,by rw[ndNG_one h0];exact E2⟩
  ·refine Z6 ?_;refine cd (λh1=>?_) λh1=>?_
   ·obtain⟨z,i2,b2,E2⟩:∃z_ j_ c_,intG l i1 b1=(z_,j_,c_):=⟨_,_,_,rfl⟩;have L2:i2<=l.length:=by have h:=intG_le l i1 b1 L1;rw[E2] at h;exact h
    refine Z2 ?_;refine bC .k ((RG.e (intD rb l i1 b1 hl L1 _) E2).b) ?_;rintro _ _ ⟨rfl,rfl⟩;refine Z4 ?_;exact cj ⟨z,i2,b2,rfl,L2,by rw[ndNG_two h1];exact E2⟩
   ·refine Z2 ?_;exact cj ⟨0,i1,b1,rfl,L1,by rw[ndNG_no h0 h1];rfl⟩
 ·rintro _ ⟨z,j,b,rfl,Lj,hz⟩;simp only[bindG,hz] at hv;refine Z26 ?_;refine CW.cond rfl (λh2=>?_) (λh2=>?_)
  ·rw[nd_cond,Bool.not_eq_true'] at h2;have hG:ndG p.gens l i bad=(⟨n,z,[]⟩,j,true):=by rw[hv,ndK,if_neg (by rw[h2];simp)];rfl
   refine Z3 ?_;refine bC .k (((q168 rb l j b _).ok).b) ?_;rintro _ _ ⟨rfl,rfl⟩;refine Z10 ?_;refine Done.retR (rs:=[.cell 4 146]) (H':=rr rb l j true::H) rfl (Yj) (.cons (AVle.agg (.cons (.refl _) (.cons (.refl _) (.cons (AVle.nil 1) .nil)))) .nil) YaB ?_;exact⟨Ybz,by rw[hG]⟩
  ·rw[nd_cond,Bool.not_eq_false'] at h2;have hK3:=kids_le hg n z;refine Z6 ?_;refine oP (POp.callLe .k (.cons (.refl _) (.cons (AVle.agg (.cons (.refl _) (.cons (.refl _) (.cons (AVle.nil 1) .nil)))) .nil)) (rKids p ⟨n,z,[]⟩)) ?_;refine Z10 ?_;rw[kids_gens p ⟨n,z,[]⟩];obtain⟨K,hK⟩:∃K,K=kidsR (gensP p.gens) ⟨n,z,[]⟩:=⟨_,rfl⟩;rw[<-hK] at hK3;have hG0:ndG p.gens l i bad=bindG (timesG numG K.toNat) (λks=>doneG ⟨n,z,ks⟩) l j b:=by rw[hv,ndK,if_pos h2,hK]
   rw[show kidsR (gensP p.gens) ⟨(Nd.mk n z []).op,(Nd.mk n z []).n,[]⟩=K from hK.symm];refine CW.ownNilB (b:=kb) (t:=146) 3 1 2 Yy rfl rfl ?_;refine CW.perm (List.Perm.swap _ _ _) ?_;refine lj (λm st=>∃(kk:Nat) (ks:List Int) (jj:Nat) (bb:Bool) (v:Value),st=⟨[(7,.i kk),(6,.i K),(5,.p kb 0),(4,.p cb 0),(0,.p rb 0)],rr rb l jj bb::.own 3 1 v::.blk kb 146 [.i n,.i z,.as (AV.ints ks) v]::.blk cb 146 [.val (.int .i64 0),.val (.int .i64 0),nilA]::H⟩/\m=K.toNat - kk/\kk<=K.toNat/\TGo numG K.toNat l j b kk ks jj bb) (⟨0,[],j,b,_,rfl,rfl,Yd,.begin _ _ _ Lj⟩) ?_;rintro m _ ⟨kk,ks,jj,bb,v,rfl,rfl,hk,hT⟩;refine Z15 ?_;refine CW.cond rfl (λh3=>?_) (λh3=>?_)
   ·obtain⟨hkn,rfl⟩:=go_on h3;replace hkn:(kk:Int)<K:=of_decide_eq_true hkn;have hkN:kk<K.toNat:=by omega
    have hlk:=hT.len;have hle:=hT.le;obtain⟨w,i5,b5,E5⟩:∃z_ j_ c_,numG l jj false=(z_,j_,c_):=⟨_,_,_,rfl⟩;have L5:i5<=l.length:=by have h:=numG_le l jj false hle;rw[E5] at h;exact h
    refine Z4 ?_;refine CW.dp mixed ?_;refine DP.anyK (X:=noX) [⟨3,66,false⟩] (λJ=>match J with | [some _]=>rr rb l i5 b5::.own 3 1 v::.blk kb 146 [.i n,.i z,.as (AV.ints ks) v]::.blk cb 146 [.val (.int .i64 0),.val (.int .i64 0),nilA]::H | _=>rr rb l jj false::.own 3 1 v::.blk kb 146 [.i n,.i z,.as (AV.ints ks) v]::.blk cb 146 [.val (.int .i64 0),.val (.int .i64 0),nilA]::H) (λq J=>match q,J with | 0,[some _]=>.i w | _,_=>.any) 0 5 71 rfl Ye Ye rfl rfl Ye rfl (λ_ _ _ _ _ _ _ _ _ h=>h.elim) ?_;refine UD.popK [[true],[false]] rfl Ye rfl rfl rfl ⟨λf=>Yi,λf=>Yi,trivial⟩ ?_;refine UD.popK [[true],[false]] rfl Ye rfl rfl rfl ⟨λf=>Ya,λf=>Ya,trivial⟩ ?_;refine UD.popK [[false]] rfl Ye rfl rfl rfl ⟨λf=>POp.move rfl rfl rfl,trivial⟩ ?_;refine UD.effK 0 [[false]] rfl rfl rfl Ye rfl rfl rfl ⟨λf=>⟨KOk.rcall (Hf:=[]) (pv:=wrongA) .k (RCall.of (RG.e (numD rb l jj false hl hle _) E5)) (λ_=>rfl) (λ_=>rfl),Yp⟩,trivial⟩ ?_;refine UD.popK [[true]] rfl Ye rfl rfl rfl ⟨λf=>POp.le (x:=.sl 1 [[AV.i w]]) (POp.row rfl rfl Yh rfl rfl rfl rfl rfl rfl) (AVle.refl _),trivial⟩ ?_;refine UD.nil (λf=>?_);simp only[kvals,List.map_cons,List.map_nil,List.cons_append,List.nil_append];refine Z1 ?_;refine OL.appendC rfl rfl rfl rfl rfl rfl rfl rfl (AVle.refl _) (rfl) (λv=>by repeat (first | exact Upd.head _ _ _ | apply Upd.tail)) (Yo) (Yo) (λv68=>?_);refine Z10 ?_;rw[ints_snoc1];exact ag ⟨kk+1,ks++[w],i5,b5,v68,rfl,rfl,hkN,hT.step hkN E5 L5⟩
   ·have hst:bb=true\/kk=K.toNat:=(go_not h3).imp id λe=>by have:=of_decide_eq_false e;omega
    have hG:ndG p.gens l i bad=(⟨n,z,ks⟩,jj,bb):=by rw[hG0,bindG,hT.fin hst];rfl
    refine Z12 ?_;refine Done.retR (rs:=[.cell 4 146]) (H':=rr rb l jj bb::H) rfl (Yj) (.cons (AVle.agg (.cons (.refl _) (.cons (.refl _) (.cons (AVle.asL _ _) .nil)))) .nil) YaB ?_;exact⟨Ybz,by rw[hG]⟩
theorem TTo.stepA{R:Rd σ α}{n:Nat}{s0 s s':σ}{b0 b b':Bool}{out:List α}{z:α}(h:TTo R n s0 l i0 b0 k out s i b)(hk:k<n)(hr:RTo R s l i b z s' i' b'):TTo R n s0 l i0 b0 (k+1) (out++[z]) s' i' b':=by
 cases b with
 | false=>exact h.step hk hr
 | true=>
  have:=hr.stay;subst this;exact⟨hr.le,by rw[List.length_append,h.len];rfl,λe=>Bool.noConfusion e,λ_=>h.no rfl⟩
theorem own_is(hz:(sizesP p).isSome=true)(c:Int):ownC p c=(decide (c>=3) && decide (c<3+p.classes.length)):=by rw[ownC,hz,Bool.and_true]
theorem objsX(s:Unit){p:Prog}(hp:p.Small)(hz:(sizesP p).isSome=true)(rb:Nat)(l:List U8)(i:Nat)(bad:Bool)(hl:l.length<=1048576)(hi:i<=l.length)(H:List Ent):ACall Tryz.prog 99 [.p rb 0,AV.prog p] (rr rb l i bad::H) (RX (AV.ths) (listR (thR p)) s rb l i bad H (λ_=>True)) (λ_ _=>False):=by
 refine aC (n:=53) Tryz.func99 λB I w0=>?_;have hH:=(heads_of hz).cl;refine Z12 ?_;refine CW.ownNil 5 65 2 rfl ?_;refine CW.perm (List.Perm.swap _ _ _) ?_;refine Z2 ?_;refine bC .k ((manyX s rb l i bad hl hi _).b) ?_;rintro _ _ ⟨n,s1,i1,b1,rfl,rfl,q1,T1⟩;have L1:=T1.le;refine Z10 ?_;refine lj (λm st=>∃(k:Nat) (out:List Th) (s2:Unit) (j:Nat) (b:Bool) (v:Value),st=⟨[(7,.i k),(6,.i n),(5,.as (AV.ths out) v),(3,.ptr (progC p)),(0,.p rb 0)],rr rb l j b::.own 65 2 v::H⟩/\m=n - k/\k<=n/\TTo (thR p) n s1 l i1 b1 k out s2 j b) (⟨0,[],s1,i1,b1,_,rfl,rfl,Yd,.begin _ _ _ _ L1⟩) ?_;rintro m _ ⟨k,out,s2,j,b,v,rfl,rfl,hk,hT⟩;refine Z15 ?_;refine CW.cond rfl (λh0=>?_) (λh0=>?_)
 ·obtain⟨hkn,rfl⟩:=go_on h0;replace hkn:k<n:=Int.ofNat_lt.1 (of_decide_eq_true hkn);have hlk:=hT.len;have hle:=hT.le;refine Z7 ?_;refine bC .k ((numX s2 rb l j false hl hle _).b) ?_;rintro _ _ ⟨c,s3,i3,b3,rfl,rfl,q3,T3⟩;have L3:=T3.le;refine Z1 ?_;refine OL.alC rfl rfl rfl rfl (λtb=>?_);refine Z5 ?_;refine CW.perm (List.Perm.swap _ _ _) ?_;refine Z4 ?_;refine oP (POp.call .k (rOwnP p Yd c)) ?_;refine Z3 ?_;refine CW.cond rfl (λh1=>?_) (λh1=>?_)
  ·rw[<-own_is hz,Bool.not_eq_true'] at h1;have hR:RTo (thR p) s2 l j false (⟨c,[]⟩:Th) s3 i3 true:=T3.bind (.needNo h1 L3);refine Z3 ?_;refine bC .k (((q168 rb l i3 b3 _).ok).b) ?_;rintro _ _ ⟨rfl,rfl⟩;refine Z16 ?_;refine Done.retR (rs:=[.tmp 4]) (H':=rr rb l i3 true::H) rfl (.tmp rfl (.nil)) (.cons (AVle.asL _ _) .nil) Yag ?_;exact⟨out,s3,i3,true,rfl,rfl,trivial,T1.bind (((hT.step hkn hR).fin (.inl rfl)).z L3)⟩
  ·rw[<-own_is hz,Bool.not_eq_false'] at h1;have h13:=h1;have hl40:=has_len h1;rw[own_is hz,Bool.and_eq_true,decide_eq_true_eq,decide_eq_true_eq] at h13;refine Z8 ?_;refine oP (POp.call .k (rHasOf hp hz h13.1 h13.2)) ?_;refine Z5 ?_;obtain⟨N,hN⟩:∃N,N=(hasP p c).length:=⟨_,rfl⟩;rw[<-hN] at hl40;refine CW.le 37 (y:=.i N) rfl (AVle.eqI (by rw[hN])) ?_;refine CW.ownNilB (b:=tb) (t:=65) 60 2 1 Yy rfl rfl ?_;refine CW.perm (List.Perm.swap _ _ _) ?_;refine lj (λm st=>∃(kk:Nat) (vs:List (Int×Int)) (s4:Unit) (jj:Nat) (bb:Bool) (v2:Value),st=⟨[(38,.i kk),(37,.i N),(8,.p tb 0),(7,.i k),(6,.i n),(5,.as (AV.ths out) v),(3,.ptr (progC p)),(0,.p rb 0)],rr rb l jj bb::.own 60 2 v2::.blk tb 65 [.i c,.as (AV.mvs vs) v2]::.own 65 2 v::H⟩/\m=N - kk/\kk<=N/\TTo valR N s3 l i3 b3 kk vs s4 jj bb) (⟨0,[],s3,i3,b3,_,rfl,rfl,Yd,.begin _ _ _ _ L3⟩) ?_;rintro m _ ⟨kk,vs,s4,jj,bb,v2,rfl,rfl,hkk,hT2⟩;refine Z6 ?_;refine cd (λh2=>?_) λh2=>?_
   ·have hkl:kk<N:=by omega
    have hl2:=hT2.len;have hle2:=hT2.le;obtain⟨w,i5,b5,E5⟩:∃z_ j_ c_,valG l jj bb=(z_,j_,c_):=⟨_,_,_,rfl⟩;have L5:i5<=l.length:=by have h:=valG_le l jj bb hle2;rw[E5] at h;exact h
    obtain⟨s5,hR⟩:=ROk.val s4 l jj bb hle2;rw[E5] at hR;refine Z4 ?_;refine CW.dp mixed ?_;refine DP.anyK (X:=noX) [⟨3,43,false⟩] (λJ=>match J with | [some _]=>rr rb l i5 b5::.own 60 2 v2::.blk tb 65 [.i c,.as (AV.mvs vs) v2]::.own 65 2 v::H | _=>rr rb l jj bb::.own 60 2 v2::.blk tb 65 [.i c,.as (AV.mvs vs) v2]::.own 65 2 v::H) (λq J=>match q,J with | 0,[some _]=>AV.mv w | _,_=>.any) 0 5 53 rfl Ye Ye rfl rfl Ye rfl (λ_ _ _ _ _ _ _ _ _ h=>h.elim) ?_;refine UD.popK [[true],[false]] rfl Ye rfl rfl rfl ⟨λf=>Yi,λf=>Yi,trivial⟩ ?_;refine UD.popK [[true],[false]] rfl Ye rfl rfl rfl ⟨λf=>Ya,λf=>Ya,trivial⟩ ?_;refine UD.popK [[false]] rfl Ye rfl rfl rfl ⟨λf=>POp.move rfl rfl rfl,trivial⟩ ?_;refine UD.effK 0 [[false]] rfl rfl rfl Ye rfl rfl rfl ⟨λf=>⟨KOk.rcall (Hf:=[]) (pv:=wrongA) .k (RCall.of (RG.e (valD rb l jj bb hl hle2 _) E5)) (λ_=>rfl) (λ_=>rfl),Yp⟩,trivial⟩ ?_;refine UD.popK [[true]] rfl Ye rfl rfl rfl ⟨λf=>POp.le (x:=.sl 2 [initA w]) (POp.row rfl rfl Yh rfl rfl rfl rfl rfl rfl) (AVle.refl _),trivial⟩ ?_;refine UD.nil (λf=>?_);simp only[kvals,List.map_cons,List.map_nil,List.cons_append,List.nil_append];refine Z1 ?_;refine OL.appendC rfl rfl rfl rfl rfl rfl rfl rfl (AVle.refl _) (rfl) (λv=>by repeat (first | exact Upd.head _ _ _ | apply Upd.tail)) (Yo) (Yo) (λv45=>?_);refine Z9 ?_;rw[<-mvs_snoc];exact ag ⟨kk+1,vs++[w],s5,i5,b5,v45,rfl,rfl,hkl,hT2.stepA hkl hR⟩
   ·obtain rfl:kk=N:=by omega
    have hR:RTo (thR p) s2 l j false (⟨c,vs⟩:Th) s4 jj bb:=T3.bind (.need h1 (by rw[<-hN];exact (hT2.fin (.inr rfl)).map λvs=>(⟨c,vs⟩:Th)));refine Z8 ?_;refine OL.le 49 (y:=.agg (thA ⟨c,vs⟩)) rfl (AVle.agg (.cons (.refl _) (.cons (AVle.asL _ _) .nil))) ?_;refine oP (POp.le (x:=.sl 2 [thA ⟨c,vs⟩]) (POp.row rfl rfl Yh rfl rfl rfl rfl rfl rfl) (AVle.refl _)) ?_;refine OL.appendC rfl rfl rfl rfl rfl rfl rfl rfl (AVle.refl _) (rfl) (λv=>by repeat (first | exact Upd.head _ _ _ | apply Upd.tail)) (Yo) (Yo) (λv51=>?_);refine Z9 ?_;rw[<-ths_snoc];exact ag (hH:=.cons_cons _ (.cons _ (.cons _ (.refl _)))) ⟨k+1,out++[⟨c,vs⟩],s4,jj,bb,v51,rfl,rfl,hkn,hT.step hkn hR⟩
 ·have hst:=stop_at h0 hk;refine Z12 ?_;refine Done.retR (rs:=[.tmp 4]) (H':=rr rb l j b::H) rfl (.tmp rfl (.nil)) (.cons (AVle.asL _ _) .nil) Yag ?_;exact⟨out,s2,j,b,rfl,rfl,trivial,T1.bind (hT.fin hst)⟩
theorem cls_next{s s':Int}{b b':Bool}{c:Cls}(h:RTo clsR s l i b c s' i' b'):RTo clsR s l i b c (s+(c.slots.length:Int)) i' b':=by
 refine⟨h.le,λe=>?_,h.no⟩;obtain⟨e1,e2⟩:=h.go e;refine⟨e1,?_⟩;have h2:=e2;obtain⟨ps,s1,l1,h1,h2⟩:=thenR_inv h2;obtain⟨n,s2,l2,h3,h2⟩:=thenR_inv h2;obtain⟨_,h2⟩:=needR_inv h2;obtain⟨is,s3,l3,h4,h2⟩:=thenR_inv h2;have h5:=(num_inv h3).2;have e3:=Still.list .num _ _ _ _ _ h1;have e4:=Still.num _ _ _ _ _ h3;have e5:=Still.list .init _ _ _ _ _ h4;have e7:s'=s3:=by cases h2;rfl
 have e8:c.slots=slotsFrom s2 n.toNat:=by cases h2;rfl
 have e6:((slotsFrom s2 n.toNat).length:Int)=n:=by rw[slots_len];omega
 rw[e2,e7,e5,e8,e6,e4,e3]
theorem mth_to{s s1 s2 s':σ}{s8:Nat}{i i1 i2 i8 i':Nat}{b b1 b2 b8 b':Bool}{k g n:Int}{f:Fact}(T1:RTo numR s l i b k s1 i1 b1)(T2:RTo numR s1 l i1 b1 g s2 i2 b2)(TF:RTo (factR2 12) 0 l i2 b2 f s8 i8 b8)(T3:RTo numR s2 l i8 b8 n s' i' b'):RTo mthR2 s l i b ⟨k,g,f,n⟩ s' i' b':=by
 refine T1.bind (T2.bind ?_);have T4:=T3.map λn=>(⟨k,g,f,n⟩:Mth);refine⟨T4.le,λe=>?_,λe=>?_⟩
 ·obtain⟨e1,e2⟩:=T4.go e;obtain⟨e3,e4⟩:=TF.go e1;exact⟨e3,by rw[e4];exact e2⟩
 ·cases hb:b8 with
  | true=>
   rcases TF.no hb with h | h
   ·exact .inl h
   ·exact .inr (by rw[h])
  | false=>
   obtain⟨_,e4⟩:=TF.go hb;rcases T4.no e with h | h
   ·rw[hb] at h;cases h
   ·exact .inr (by rw[e4];exact h)
def GI(gs:List Int)(q:Nat)(c bb:Bool):Prop:=(bb=false->c=false/\∀g∈gs.take q,g<=3)/\(bb=true->c=true\/∃g∈gs.take q,¬g<=3)
theorem GI.begin(gs:List Int)(c:Bool):GI gs 0 c c:=⟨λe=>⟨e,Yx⟩,λe=>.inl e⟩
theorem GI.bad{q:Nat}{c bb:Bool}(hq:q<gs.length)(h3:gs.getD q default>3):GI gs (q+1) c true:=⟨λe=>Bool.noConfusion e,λ_=>.inr ⟨gs.getD q default,by rw[<-take_getD hq];exact List.mem_append_right _ (List.mem_singleton.2 rfl),Yd⟩⟩
theorem GI.ok{q:Nat}(h:GI gs q c bb)(hq:q<gs.length)(h3: ¬gs.getD q default>3):GI gs (q+1) c bb:=by
 refine⟨λe=>⟨(h.1 e).1,λg hg=>?_⟩,λe=>(h.2 e).imp id λ⟨g,hg,hg3⟩=>⟨g,by rw[<-take_getD hq];simp[hg],hg3⟩⟩;rw[<-take_getD hq,List.mem_append,List.mem_singleton] at hg;rcases hg with hg | rfl
 ·exact (h.1 e).2 g hg
 ·omega
theorem gens_to{R:Rd Unit Prog}{s s':Unit}(h:GI gs gs.length c bb)(hT:RTo R s l j bb p s' i' b'):RTo (needR (gs.all λg=>decide (g<=3)) R) s l j c p s' i' b':=by
 rw[GI,List.take_length] at h;cases ha:gs.all λg=>decide (g<=3) with
 | true=>
  have ha':∀g∈gs,g<=3:=λg hg=>of_decide_eq_true (List.all_eq_true.1 ha g hg);have:bb=c:=by
   cases hb:bb with
   | false=>exact (h.1 hb).1.symm
   | true=>
    rcases h.2 hb with h1 | ⟨g,hg,h1⟩
    ·exact h1.symm
    ·exact absurd (ha' g hg) h1
  subst this;exact .need rfl hT
 | false=>
  have:bb=true:=by
   cases hb:bb with
   | true=>rfl
   | false=>
    have h1:=(h.1 hb).2;rw[List.all_eq_true.2 λg hg=>decide_eq_true (h1 g hg)] at ha;cases ha
  subst this;have:=hT.stay;subst this;exact .needNo rfl hT.le
structure PTo(l:List U8)(i:Nat)(bad:Bool)(p:Prog)(i':Nat)(b':Bool):Prop where
 le:i'<=l.length
 small:p.Small
 go:b'=false->bad=false/\progR2 (l.drop i)=some (p,l.drop i')
 no:b'=true->bad=true\/progR2 (l.drop i)=none
theorem prog_to{bad b b':Bool}{cs:List Cls}{s:Int}(TC:RTo (listR clsR) 0 l i bad cs s j b)(TP:RTo (progT2 cs s) () l j b p s' i' b')(hs:p.Small):PTo l i bad p i' b':=by
 refine⟨TP.le,hs,λe=>?_,λe=>?_⟩
 ·obtain⟨e1,e2⟩:=TP.go e;obtain⟨e3,e4⟩:=TC.go e1;exact⟨e3,by rw[progR2_some e4,e2];rfl⟩
 ·cases hb:b with
  | true=>
   rcases TC.no hb with h | h
   ·exact .inl h
   ·exact .inr (by rw[progR2,h])
  | false=>
   obtain⟨_,e4⟩:=TC.go hb;rcases TP.no e with h | h
   ·rw[hb] at h;cases h
   ·exact .inr (by rw[progR2_some e4,h];rfl)
theorem progX(rb:Nat)(l:List U8)(i:Nat)(bad:Bool)(hl:l.length<=1048576)(hi:i<=l.length)(H:List Ent):ACall Tryz.prog 148 [.p rb 0] (rr rb l i bad::H) (λy H'=>∃p i' b',y=AV.prog p/\H'=rr rb l i' b'::H/\PTo l i bad p i' b') (λ_ _=>False):=by
 refine aC (n:=116) Tryz.func148 λB I w0=>?_;refine Z2 ?_;refine OL.alC rfl rfl rfl rfl (λcb=>?_);refine Z4 ?_;refine OL.alC rfl rfl rfl rfl (λpb=>?_);refine Z3 ?_;refine CW.perm (List.perm_append_comm_assoc [_,_] [_] _) ?_;refine Z2 ?_;refine bC .k ((manyX (0:Int) rb l i bad hl hi _).b) ?_;rintro _ _ ⟨n,s1,i1,b1,rfl,rfl,q1,T1⟩;have L1:=T1.le;refine Z10 ?_;replace T1:=T1.still .many;refine CW.ownNilB (b:=pb) (t:=27) 79 3 0 Yy rfl rfl ?_;refine CW.perm (List.Perm.swap _ _ _) ?_;refine lj (λm st=>∃(k:Nat) (out:List Cls) (s:Int) (j:Nat) (b:Bool) (v:Value),st=⟨[(5,.i k),(4,.i n),(3,.p pb 0),(2,.p cb 0),(0,.p rb 0)],rr rb l j b::.own 79 3 v::.blk pb 27 [.as (.sl 3 (out.map clsA)) v,.i s,nilA,nilA,nilA,.val (.int .i64 0)]::.blk cb 27 [nilA,.val (.int .i64 0),nilA,nilA,nilA,.val (.int .i64 0)]::H⟩/\m=n - k/\k<=n/\TTo clsR n 0 l i1 b1 k out s j b/\(0<=s/\s<=4*(k:Int))/\∀c∈out,c.parents.length<=1048576) (⟨0,[],0,i1,b1,_,rfl,rfl,Yd,.begin _ _ _ _ L1,Yd,Yx⟩) ?_;rintro m _ ⟨k,out,s,j,b,v,rfl,rfl,hk,hT,hs,hpar⟩;refine Z15 ?_;refine CW.cond rfl (λh0=>?_) (λh0=>?_)
 ·obtain⟨hkn,rfl⟩:=go_on h0;replace hkn:k<n:=Int.ofNat_lt.1 (of_decide_eq_true hkn);have lenk:=hT.len;have hle:=hT.le;refine Z9 ?_;refine bC .k ((clsX s rb l j false hl hle _ ⟨Yd,Yd⟩).b) ?_;rintro _ _ ⟨c,s3,i3,b3,rfl,rfl,q3,T3⟩;have L3:=T3.le;have q31:=q3.1;refine OL.alC rfl rfl rfl rfl (λkb=>?_);refine Z4 ?_;refine CW.freezeP (d:=6) rfl Yl ?_;refine Z15 ?_;refine OL.popC (x:=.sl 3 [clsA c]) rfl rfl rfl (POp.row rfl rfl Yh rfl rfl rfl rfl rfl rfl) ?_;refine OL.appendC rfl rfl rfl rfl rfl rfl rfl rfl (AVle.refl _) (rfl) (λv=>by repeat (first | exact Upd.head _ _ _ | apply Upd.tail)) (Yo) (Yo) (λv41=>?_);refine Z10 ?_;rw[rows_snoc clsA];exact ag ⟨k+1,out++[c],s+(c.slots.length:Int),i3,b3,v41,rfl,rfl,hkn,hT.step hkn (cls_next T3),Yd,λx hx=>by rcases List.mem_append.1 hx with hx | hx;exact hpar x hx;rw[List.mem_singleton] at hx;rw[hx];exact q3.2⟩
 ·have hst:=stop_at h0 hk;have hle0:=hT.le;have hlen:=hT.len;have TC:RTo (listR clsR) 0 l i bad out s j b:=T1.bind (hT.fin hst);refine Z8 ?_;refine bC .k ((numsX () rb l j b hl hle0 _).b) ?_;rintro _ _ ⟨gs,s4,i4,b4,rfl,rfl,q4,T4⟩;have L4:=T4.le;refine Z7 ?_;refine bC .k ((manyX s4 rb l i4 b4 hl L4 _).b) ?_;rintro _ _ ⟨n2,s5,i5,b5,rfl,rfl,q5,T5⟩;have L5:=T5.le;refine Z10 ?_;refine CW.ownNilB (b:=pb) (t:=27) 168 9 3 Yy rfl rfl ?_;refine CW.perm (List.Perm.swap _ _ _) ?_;refine lj (λm st=>∃(k2:Nat) (ms:List Mth) (s6:Unit) (j2:Nat) (c2:Bool) (v2:Value),st=⟨[(7,.i k2),(4,.i n2),(3,.p pb 0),(2,.p cb 0),(0,.p rb 0)],rr rb l j2 c2::.own 168 9 v2::.own 79 3 v::.blk pb 27 [.as (.sl 3 (out.map clsA)) v,.i s,AV.ints gs,.as (.sl 9 (ms.map mthA)) v2,nilA,.val (.int .i64 0)]::.blk cb 27 [nilA,.val (.int .i64 0),nilA,nilA,nilA,.val (.int .i64 0)]::H⟩/\m=n2 - k2/\k2<=n2/\TTo mthR2 n2 s5 l i5 b5 k2 ms s6 j2 c2) (⟨0,[],s5,i5,b5,_,rfl,rfl,Yd,.begin _ _ _ _ L5⟩) ?_;rintro m _ ⟨k2,ms,s6,j2,c2,v2,rfl,rfl,hk2,hT2⟩;refine Z15 ?_;refine CW.cond rfl (λh1=>?_) (λh1=>?_)
  ·obtain⟨hkn2,rfl⟩:=go_on h1;replace hkn2:k2<n2:=Int.ofNat_lt.1 (of_decide_eq_true hkn2);have lenk2:=hT2.len;have hle2:=hT2.le;refine Z7 ?_;refine bC .k ((numX s6 rb l j2 false hl hle2 _).b) ?_;rintro _ _ ⟨kd,s6,i6,b6,rfl,rfl,q6,T6⟩;have L6:=T6.le;refine Z1 ?_;refine OL.alC rfl rfl rfl rfl (λmb=>?_);refine Z4 ?_;refine CW.perm (List.Perm.swap _ _ _) ?_;refine Z2 ?_;refine bC .k ((numX s6 rb l i6 b6 hl L6 _).b) ?_;rintro _ _ ⟨g,s7,i7,b7,rfl,rfl,q7,T7⟩;have L7:=T7.le;refine Z5 ?_;obtain⟨w,i8,b8,E8⟩:∃z_ j_ c_,factG 12 l i7 b7=(z_,j_,c_):=⟨_,_,_,rfl⟩;have L8:i8<=l.length:=by have h:=factG_le 12 l i7 b7 L7;rw[E8] at h;exact h
   obtain⟨s8,TF⟩:=ROk.fact 12 0 l i7 b7 L7;rw[E8] at TF;refine Z2 ?_;refine bC ((CallOk.mk' rfl rfl rfl rfl rfl).le (.cons (.refl _) (.cons (AVle.eqI rfl) .nil))) ((RG.e (factD 12 YJ rb l i7 b7 hl L7 _) E8).b) ?_;rintro _ _ ⟨rfl,rfl⟩;refine Z7 ?_;refine bC .k ((numX s6 rb l i8 b8 hl L8 _).b) ?_;rintro _ _ ⟨nd,s9,i9,b9,rfl,rfl,q9,T9⟩;have L9:=T9.le;refine Z8 ?_;refine OL.popC (x:=.sl 9 [mthA ⟨kd,g,w,nd⟩]) rfl rfl rfl (POp.row rfl rfl Yh rfl rfl rfl rfl rfl rfl) ?_;refine OL.appendC rfl rfl rfl rfl rfl rfl rfl rfl (AVle.refl _) (rfl) (λv=>by repeat (first | exact Upd.head _ _ _ | apply Upd.tail)) (Yo) (Yo) (λv76=>?_);refine Z10 ?_;rw[rows_snoc mthA];exact ag (hH:=.cons_cons _ (.cons _ (.refl _))) ⟨k2+1,ms++[⟨kd,g,w,nd⟩],s9,i9,b9,v76,rfl,rfl,hkn2,hT2.step hkn2 (mth_to T6 T7 TF T9)⟩
  ·have hst2:=stop_at h1 hk2;have hle2:=hT2.le;have TM:RTo (listR mthR2) s4 l i4 b4 ms s6 j2 c2:=T5.bind (hT2.fin hst2);refine Z15 ?_;refine lj (λm st=>∃(q:Nat) (bb:Bool),st=⟨[(81,.i q),(80,.i gs.length),(79,AV.ints gs),(3,.p pb 0),(2,.p cb 0),(0,.p rb 0)],rr rb l j2 bb::.own 168 9 v2::.own 79 3 v::.blk pb 27 [.as (.sl 3 (out.map clsA)) v,.i s,AV.ints gs,.as (.sl 9 (ms.map mthA)) v2,nilA,.val (.int .i64 0)]::.blk cb 27 [nilA,.val (.int .i64 0),nilA,nilA,nilA,.val (.int .i64 0)]::H⟩/\m=gs.length - q/\q<=gs.length/\GI gs q c2 bb) (⟨0,c2,rfl,rfl,Yd,.begin _ _⟩) ?_;rintro m _ ⟨q,bb,rfl,rfl,hq,hG⟩;refine Z6 ?_;refine cd (λh2=>?_) λh2=>?_
   ·have hql:q<gs.length:=by omega
    refine Z17 ?_;refine cd (λh3=>?_) λh3=>?_
    ·refine Z2 ?_;refine bC .k (((q168 rb l j2 bb _).ok).b) ?_;rintro _ _ ⟨rfl,rfl⟩;refine Z7 ?_;exact ag (⟨q+1,true,rfl,rfl,hql,.bad (bb:=bb) hql h3⟩)
    ·refine Z7 ?_;exact ag (⟨q+1,bb,rfl,rfl,hql,hG.ok hql Yd⟩)
   ·obtain rfl:q=gs.length:=by omega
    refine Z8 ?_;refine bC .k ((manyX s6 rb l j2 bb hl hle2 _).b) ?_;rintro _ _ ⟨n3,s10,i10,b10,rfl,rfl,q10,T10⟩;have L10:=T10.le;refine Z10 ?_;refine CW.ownNilB (b:=pb) (t:=27) 146 3 4 Yy rfl rfl ?_;refine CW.perm (List.Perm.swap _ _ _) ?_;refine lj (λm st=>∃(k3:Nat) (ns:List Nd) (s11:Unit) (j3:Nat) (c3:Bool) (v3:Value),st=⟨[(11,.i k3),(4,.i n3),(3,.p pb 0),(2,.p cb 0),(0,.p rb 0)],rr rb l j3 c3::.own 146 3 v3::.own 168 9 v2::.own 79 3 v::.blk pb 27 [.as (.sl 3 (out.map clsA)) v,.i s,AV.ints gs,.as (.sl 9 (ms.map mthA)) v2,.as (.sl 3 (ns.map ndA)) v3,.val (.int .i64 0)]::.blk cb 27 [nilA,.val (.int .i64 0),nilA,nilA,nilA,.val (.int .i64 0)]::H⟩/\m=n3 - k3/\k3<=n3/\TTo (ndR2 gs) n3 s10 l i10 b10 k3 ns s11 j3 c3) (⟨0,[],s10,i10,b10,_,rfl,rfl,Yd,.begin _ _ _ _ L10⟩) ?_;rintro m _ ⟨k3,ns,s11,j3,c3,v3,rfl,rfl,hk3,hT3⟩;refine Z15 ?_;refine CW.cond rfl (λh4=>?_) (λh4=>?_)
    ·obtain⟨hkn3,rfl⟩:=go_on h4;replace hkn3:k3<n3:=Int.ofNat_lt.1 (of_decide_eq_true hkn3);have lenk3:=hT3.len;have hle3:=hT3.le;have hg3:∀g∈gs,g<=3:=by
      have e1:=(T10.go (hT3.go rfl).1).1;have:=(hG.1 e1).2;rwa [List.take_length] at this
     obtain⟨w,i12,b12,E12⟩:∃z_ j_ c_,ndG gs l j3 false=(z_,j_,c_):=⟨_,_,_,rfl⟩;have L12:i12<=l.length:=by have h:=ndG_le gs l j3 false hle3;rw[E12] at h;exact h
     obtain⟨s12,TN⟩:=ROk.nd gs s11 l j3 false hle3;rw[E12] at TN;refine Z4 ?_;refine CW.dp mixed ?_;refine DP.anyK (X:=noX) [⟨4,108,false⟩] (λJ=>match J with | [some _]=>rr rb l i12 b12::.own 146 3 v3::.own 168 9 v2::.own 79 3 v::.blk pb 27 [.as (.sl 3 (out.map clsA)) v,.i s,AV.ints gs,.as (.sl 9 (ms.map mthA)) v2,.as (.sl 3 (ns.map ndA)) v3,.val (.int .i64 0)]::.blk cb 27 [nilA,.val (.int .i64 0),nilA,nilA,nilA,.val (.int .i64 0)]::H | _=>rr rb l j3 false::.own 146 3 v3::.own 168 9 v2::.own 79 3 v::.blk pb 27 [.as (.sl 3 (out.map clsA)) v,.i s,AV.ints gs,.as (.sl 9 (ms.map mthA)) v2,.as (.sl 3 (ns.map ndA)) v3,.val (.int .i64 0)]::.blk cb 27 [nilA,.val (.int .i64 0),nilA,nilA,nilA,.val (.int .i64 0)]::H) (λq J=>match q,J with | 0,[some _]=>AV.nd w | _,_=>.any) 0 6 116 rfl Ye Ye rfl rfl Ye rfl (λ_ _ _ _ _ _ _ _ _ h=>h.elim) ?_;refine UD.popK [[true],[false]] rfl Ye rfl rfl rfl ⟨λf=>Yi,λf=>Yi,trivial⟩ ?_;refine UD.popK [[true],[false]] rfl Ye rfl rfl rfl ⟨λf=>Ya,λf=>Ya,trivial⟩ ?_;refine UD.popK [[false]] rfl Ye rfl rfl rfl ⟨λf=>POp.move rfl rfl rfl,trivial⟩ ?_;refine UD.popK [[false]] rfl Ye rfl rfl rfl ⟨λf=>Yn,trivial⟩ ?_;refine UD.effK 0 [[false]] rfl rfl rfl Ye rfl rfl rfl ⟨λf=>⟨KOk.rcall (Hf:=[]) (pv:=wrongA) ((CallOk.mk' rfl rfl rfl rfl rfl).le (.cons (.refl _) (.cons (AVle.agg (.cons (AVle.asL _ _) (.cons (.refl _) (.cons (.refl _) (.cons (AVle.asL _ _) (.cons (AVle.asL _ _) (.cons (.refl _) .nil))))))) .nil))) (RCall.of (RG.e (ndD (p:=⟨out,s,gs,ms,ns,0⟩) hg3 rb l j3 false hl hle3 _) E12)) (λ_=>rfl) (λ_=>rfl),Yp⟩,trivial⟩ ?_;refine UD.popK [[true]] rfl Ye rfl rfl rfl ⟨λf=>POp.le (x:=.sl 3 [ndA w]) (POp.row rfl rfl Yh rfl rfl rfl rfl rfl rfl) (AVle.refl _),trivial⟩ ?_;refine UD.nil (λf=>?_);simp only[kvals,List.map_cons,List.map_nil,List.cons_append,List.nil_append];refine Z1 ?_;refine OL.appendC rfl rfl rfl rfl rfl rfl rfl rfl (AVle.refl _) (rfl) (λv=>by repeat (first | exact Upd.head _ _ _ | apply Upd.tail)) (Yo) (Yo) (λv110=>?_);refine Z10 ?_;rw[rows_snoc ndA];exact ag ⟨k3+1,ns++[w],s12,i12,b12,v110,rfl,rfl,hkn3,hT3.step hkn3 TN⟩
    ·have hst3:=stop_at h4 hk3;have hle3:=hT3.le;have TNs:RTo (listR (ndR2 gs)) s6 l j2 bb ns s11 j3 c3:=T10.bind (hT3.fin hst3);refine Z8 ?_;refine bC .k ((numX s11 rb l j3 c3 hl hle3 _).b) ?_;rintro _ _ ⟨mn,s13,i13,b13,rfl,rfl,q13,T13⟩;have L13:=T13.le;refine Z11 ?_;refine Done.retR (rs:=[.cell 2 27]) (H':=rr rb l i13 b13::H) rfl (Yj) (.cons (AVle.agg (.cons (AVle.asL _ _) (.cons (.refl _) (.cons (.refl _) (.cons (AVle.asL _ _) (.cons (AVle.asL _ _) (.cons (.refl _) .nil))))))) .nil) (by exact .cons_cons _ (.cons _ (.cons _ (.cons _ (.cons _ (.cons _ (.refl _))))))) ?_;exact⟨⟨out,s,gs,ms,ns,mn⟩,i13,b13,rfl,rfl,prog_to TC (T4.bind (TM.bind (gens_to hG (TNs.bind (T13.map λmn=>(⟨out,s,gs,ms,ns,mn⟩:Prog)))))) ⟨by show out.length<=1048576;omega,λc hc=>by have:=hpar c hc;omega⟩⟩
theorem ref_no1(h:bodiesR b 79 [1,2]=none):readR b=none:=by rw[<-ref_read,refR,h]
theorem read_cond(ok:Bool)(x:U8)(L:List Sec):(bif bif bif bif bif bif !ok then true else (x.val:Int) !=79 then true else (L.length:Int) !=2 then true else ((L.getD 0 default).kind.val:Int) !=1 then true else ((L.getD 1 default).kind.val:Int) !=2 then true else (L.getD 0 default).damaged then true else (L.getD 1 default).damaged)= !(ok && (decide (x=79) && decide (L.length=2) && (List.range 2).all (kindOk L [1,2]))):=by
 have e1:((x.val:Int) !=79)= !decide (x=79):=by
  rw[Bool.eq_iff_iff];simp only[bne_iff_ne,ne_eq,Bool.not_eq_true',decide_eq_false_iff_not,Fin.ext_iff];exact not_congr ⟨λh=>by have:(x.val:Int)=((79:Nat):Int):=h;exact Int.ofNat.inj this,λh=>by rw[h];rfl⟩
 have e2:((L.length:Int) !=2)= !decide (L.length=2):=by rw[Bool.eq_iff_iff];simp;omega
 have e3:(List.range 2).all (kindOk L [1,2])=(kindOk L [1,2] 0 && kindOk L [1,2] 1):=by simp[List.range_succ]
 rw[e1,e2,e3];simp only[Bool.cond_true_left,kindOk];show _= !(_ && (_ && _ && ((((L.getD 0 default).kind.val:Int)==1) && _ && ((((L.getD 1 default).kind.val:Int)==2) && _))));simp only[bne];generalize decide (x=79)=a;generalize decide (L.length=2)=b;generalize (((L.getD 0 default).kind.val:Int)==1)=c;generalize (((L.getD 1 default).kind.val:Int)==2)=d;generalize (L.getD 0 default).damaged=e;generalize (L.getD 1 default).damaged=f;cases ok <;> cases a <;> cases b <;> cases c <;> cases d <;> cases e <;> cases f <;> rfl
theorem read_condI(ok:Bool)(x:U8)(L:List Sec):(bif bif bif bif bif bif !ok then true else (x.val:Int) !=79 then true else (L.length:Int) !=2 then true else ((L.getD (Int.toNat 0) default).kind.val:Int) !=1 then true else ((L.getD (Int.toNat 1) default).kind.val:Int) !=2 then true else (L.getD (Int.toNat 0) default).damaged then true else (L.getD (Int.toNat 1) default).damaged)= !(ok && (decide (x=79) && decide (L.length=2) && (List.range 2).all (kindOk L [1,2]))):=read_cond ok x L
theorem read_yes{x:U8}(hs:splitR b=some (x,L))(h:(decide (x=79) && decide (L.length=2) && (List.range 2).all (kindOk L [1,2]))=true):L.length=2/\bodiesR b 79 [1,2]=some [(L.getD 0 default).body,(L.getD 1 default).body]:=by
 rw[Bool.and_eq_true,Bool.and_eq_true,decide_eq_true_eq,decide_eq_true_eq] at h;obtain⟨⟨h1,h2⟩,h3⟩:=h;refine⟨h2,?_⟩;rw[bodies_yes (kinds:=[1,2]) hs ⟨h1,h2⟩ (by rw[h2];exact h3)]
 match L,h2 with
 | [a,c],_=>rfl
theorem read_noR{x:U8}(hs:splitR b=some (x,L))(h:(decide (x=79) && decide (L.length=2) && (List.range 2).all (kindOk L [1,2]))=false):readR b=none:=by
 refine ref_no1 ?_;rw[bodiesR,hs];refine if_neg λh3=>?_;obtain⟨h1,h2,h4⟩:=h3;have h2:L.length=2:=h2;rw[decide_eq_true h1,decide_eq_true h2, <-h2,h4] at h;cases h
theorem drop_nil(h:i<=l.length):l.drop i= []↔i=l.length:=by
 rw[List.drop_eq_nil_iff];omega
theorem ref_fail1(hb:bodiesR b 79 [1,2]=some [b1,b2])(h:PTo b1 0 false p i c)(hn: ¬(c=false/\i=b1.length/\(sizesP p).isSome=true)):readR b=none:=by
 rw[<-ref_read,refR,hb];simp only;cases hc:c with
 | true=>
  rcases h.no hc with e | e
  ·cases e
  ·rw[List.drop_zero] at e;rw[e]
 | false=>
  have e:=(h.go hc).2;rw[List.drop_zero] at e;rw[e];simp only;rw[if_neg];rintro⟨h1,h2⟩;exact hn ⟨hc,(drop_nil h.le).1 h1,h2⟩
theorem ref_go1(h:PTo b1 0 false p i c)(hc:c=false)(hi:i=b1.length):progR2 b1=some (p,[]):=by
 have e:=(h.go hc).2;rwa [List.drop_zero,(drop_nil h.le).2 hi] at e
theorem ref_fail2(hb:bodiesR b 79 [1,2]=some [b1,b2])(hp:progR2 b1=some (p,[]))(hz:(sizesP p).isSome=true)(h:RTo (listR (thR p)) () b2 0 false objs s' i c)(hn: ¬(c=false/\i=b2.length/\checkP p objs=true)):readR b=none:=by
 rw[<-ref_read,refR,hb];simp only[hp];rw[if_pos ⟨trivial,hz⟩];cases hc:c with
 | true=>
  rcases h.no hc with e | e
  ·cases e
  ·rw[List.drop_zero] at e;rw[e]
 | false=>
  have e:=(h.go hc).2;rw[List.drop_zero] at e;rw[e];simp only;rw[if_neg];rintro⟨h1,h2⟩;exact hn ⟨hc,(drop_nil h.le).1 h1,h2⟩
theorem ref_good(hb:bodiesR b 79 [1,2]=some [b1,b2])(hp:progR2 b1=some (p,[]))(hz:(sizesP p).isSome=true)(h:RTo (listR (thR p)) () b2 0 false objs s' i c)(hc:c=false)(hi:i=b2.length)(hk:checkP p objs=true):readR b=some (p,objs):=by
 have e:=(h.go hc).2;rw[List.drop_zero,(drop_nil h.le).2 hi] at e;rw[<-ref_read,refR,hb];simp only[hp];rw[if_pos ⟨trivial,hz⟩,e];simp only;rw[if_pos ⟨trivial,hk⟩]
theorem r_none(h:readR b=none):rp b=noProg/\ro b= []/\re b=4/\(readR b).isSome=false:=by rw[rp,ro,re,h];exact⟨rfl,rfl,rfl,rfl⟩
theorem r_some(h:readR b=some (p,objs)):rp b=p/\ro b=objs/\re b=0/\(readR b).isSome=true:=by rw[rp,ro,re,h];exact⟨rfl,rfl,rfl,rfl⟩
theorem done_if{c z:Bool}{i n:Nat}:(bif !(!c && decide (i=n)) then true else !z)=true↔¬(c=false/\i=n/\z=true):=by
 cases c <;> cases z <;> by_cases h:i=n <;> simp[h]
theorem done_no{c z:Bool}{i n:Nat}:(bif !(!c && decide (i=n)) then true else !z)=false↔(c=false/\i=n/\z=true):=by
 cases c <;> cases z <;> by_cases h:i=n <;> simp[h]
theorem readOf_step{x:U8}{ok:Bool}(hl:b.length<=1048576)(hq:PCall Tryz.prog 78 [u8s b] (.tup [u8 x,pies L,.b ok]))(hs:ok=true->splitR b=some (x,L))(hns:ok=false->readR b=none)(hbl:∀s∈L,s.body.length<=1048576):PCall Tryz.prog 74 [u8s b] (.tup [AV.prog (rp b),AV.ths (ro b),.b (readR b).isSome]):=by
 intro H;refine aC (n:=93) Tryz.func74 λB I w0=>?_;refine Z2 ?_;refine OL.alC rfl rfl rfl rfl (λcb=>?_);refine Z7 ?_;refine oP (POp.call .k (hq)) ?_;refine Z25 ?_;refine OL.guardC rfl rfl rfl rfl rfl rfl (λhg=>Yv) ?_;refine Z6 ?_;refine OL.guardC rfl rfl rfl rfl rfl rfl (λhg=>Yv) ?_;refine Z6 ?_;refine OL.guardC rfl rfl rfl rfl rfl rfl (λhg=>Yv) ?_;refine Z5 ?_;refine OL.guardC rfl rfl rfl rfl rfl rfl (λhg=>Yv) ?_;refine Z5 ?_;refine CW.cond rfl (λh0=>?_) (λh0=>?_)
 ·rw[read_condI,Bool.not_eq_true',Bool.and_eq_false_iff] at h0;have hno:readR b=none:=by
   cases hok:ok with
   | false=>exact hns hok
   | true=>exact read_noR (hs hok) (h0.resolve_left (by rw[hok];simp))
  refine Z10 ?_;refine Done.retR (rs:=[.cell 2 27,.tmp 3,.tmp 4]) (H':=H) rfl (Ys) (.cons (AVle.agg (.cons (AVle.nil 3) (.cons (.refl _) (.cons (AVle.nil 1) (.cons (AVle.nil 9) (.cons (AVle.nil 3) (.cons (.refl _) .nil))))))) (.cons (AVle.nil 2) (.cons (.refl _) .nil))) Yb ?_;exact⟨YaN,rfl⟩
 ·rw[read_condI,Bool.not_eq_false',Bool.and_eq_true] at h0;obtain⟨hL2,hB⟩:=read_yes (hs h0.1) h0.2;obtain⟨B1,hB1⟩:∃x,x=(L.getD 0 default).body:=⟨_,rfl⟩;obtain⟨B2,hB2⟩:∃x,x=(L.getD 1 default).body:=⟨_,rfl⟩;rw[<-hB1, <-hB2] at hB;have hl1:B1.length<=1048576:=hB1▸hbl _ (getD_memB Yd);have hl2:B2.length<=1048576:=hB2▸hbl _ (getD_memB Yd);refine Z9 ?_;refine OL.boxC rfl rfl rfl rfl rfl rfl rfl (λrb=>?_);refine Z4 ?_;refine CW.eqH (H':=rr rb B1 0 false::.blk cb 27 [nilA,.val (.int .i64 0),nilA,nilA,nilA,.val (.int .i64 0)]::H) (by rw[hB1];rfl) ?_;refine Z2 ?_;refine bC .k ((progX rb B1 0 false hl1 (Nat.zero_le _) _).b) ?_;rintro _ _ ⟨p,i1,b1,rfl,rfl,TP⟩;refine OL.alC rfl rfl rfl rfl (λpb=>?_);refine Z5 ?_;refine CW.freezeP (d:=9) rfl Yl ?_;refine Z2 ?_;refine bC .k ((doneD rb B1 i1 b1 _).b) ?_;rintro _ _ ⟨rfl,rfl⟩;refine Z3 ?_;refine OL.guardC rfl rfl rfl rfl rfl rfl (λhg=>POp.call (.mk' rfl rfl rfl rfl Yc) (rProg TP.small)) ?_;refine Z4 ?_;refine CW.cond rfl (λh1=>?_) (λh1=>?_)
  ·have hno:=ref_fail1 hB TP (done_if.1 h1);refine Z10 ?_;refine Done.retR (rs:=[.cell 2 27,.tmp 3,.tmp 4]) (H':=H) rfl (Ys) (.cons (AVle.agg (.cons (AVle.nil 3) (.cons (.refl _) (.cons (AVle.nil 1) (.cons (AVle.nil 9) (.cons (AVle.nil 3) (.cons (.refl _) .nil))))))) (.cons (AVle.nil 2) (.cons (.refl _) .nil))) Yb ?_;exact⟨YaN,rfl⟩
  ·obtain⟨hc1,hi1,hz⟩:=done_no.1 h1;have hp2:=ref_go1 TP hc1 hi1;refine Z9 ?_;refine OL.boxC rfl rfl rfl rfl rfl rfl rfl (λrb2=>?_);refine Z4 ?_;refine CW.eqH (H':=rr rb2 B2 0 false::rr rb B1 i1 b1::.blk cb 27 [nilA,.val (.int .i64 0),nilA,nilA,nilA,.val (.int .i64 0)]::H) (by rw[hB2];rfl) ?_;refine Z3 ?_;refine bC .k ((objsX () TP.small hz rb2 B2 0 false hl2 (Nat.zero_le _) _).b) ?_;rintro _ _ ⟨objs,s2,i2,b2,rfl,rfl,_,TO⟩;refine Z7 ?_;refine bC .k ((doneD rb2 B2 i2 b2 _).b) ?_;rintro _ _ ⟨rfl,rfl⟩;refine Z4 ?_;refine OL.guardC rfl rfl rfl rfl rfl rfl (λhg=>POp.call (.mk' rfl rfl rfl rfl Yc) (rGood TP.small objs)) ?_;refine Z4 ?_;refine CW.cond rfl (λh2=>?_) (λh2=>?_)
   ·have hno:=ref_fail2 hB hp2 hz TO (done_if.1 h2);refine Z10 ?_;refine Done.retR (rs:=[.cell 2 27,.tmp 3,.tmp 4]) (H':=H) rfl (Ys) (.cons (AVle.agg (.cons (AVle.nil 3) (.cons (.refl _) (.cons (AVle.nil 1) (.cons (AVle.nil 9) (.cons (AVle.nil 3) (.cons (.refl _) .nil))))))) (.cons (AVle.nil 2) (.cons (.refl _) .nil))) Yb ?_;exact⟨YaN,rfl⟩
   ·obtain⟨hc2,hi2,hck⟩:=done_no.1 h2;have hyes:=ref_good hB hp2 hz TO hc2 hi2 hck;refine Z12 ?_;refine Done.retR (rs:=[.cell 2 27,.tmp 3,.tmp 4]) (H':=H) rfl (Ys) (AVleL.refl _) Yb ?_;exact⟨by obtain⟨r1_,r2_,r3_,r4_⟩:=r_some hyes;rw[r1_,r2_,r4_];rfl,rfl⟩
theorem rReadOf(b:List U8)(hl:b.length<=1048576):PCall Tryz.prog 74 [u8s b] (.tup [AV.prog (rp b),AV.ths (ro b),.b (readR b).isSome]):=by
 have h:=q78 b hl;rcases hs:splitR b with _ | ⟨x,L⟩
 ·rw[pieA,hs] at h;exact readOf_step (x:=0) (L:=[]) (ok:=false) hl h (λe=>Bool.noConfusion e) (λ_=>ref_no1 (bodies_no1 hs)) (λs h=>by cases h)
 ·rw[pieA,hs] at h;exact readOf_step (ok:=true) hl h (λ_=>hs) (λe=>Bool.noConfusion e) (λs hm=>Nat.le_trans (split_body hs s hm) hl)
theorem is_some(h:(readR b).isSome=true):re b=0:=by
 obtain⟨q,hq⟩:=Option.isSome_iff_exists.1 h;exact (r_some (p:=q.1) (objs:=q.2) hq).2.2.1
theorem okP_no:okP noProg:=⟨λ_ h=>(by cases h),YJ,λ_ h=>(by cases h),YJ,λ_ h=>(by cases h),YJ,λ_ h=>(by cases h),YJ,⟨YJ,YJ⟩⟩
theorem okP_rp(b:List U8):okP (rp b):=by
 rcases h:readR b with _ | ⟨p,objs⟩
 ·rw[(r_none h).1];exact okP_no
 ·rw[(r_some h).1];exact (ok_of (read_inv h).2).1
theorem rRead(b:List U8)(hl:b.length<=1048576):PCall Tryz.prog 20 [u8s b] (.tup [AV.prog (rp b),AV.ths (ro b),.i (re b)]):=by
 intro H;refine aC (n:=19) Tryz.func20 λB I w0=>?_;refine Z2 ?_;refine OL.alC rfl rfl rfl rfl (λcb=>?_);refine Z7 ?_;refine oP (POp.call .k (rReadOf b hl)) ?_;refine Z4 ?_;refine OL.alC rfl rfl rfl rfl (λpb=>?_);refine Z7 ?_;refine CW.freezeP (d:=5) rfl Yl ?_;refine Z5 ?_;refine CW.cond rfl (λh0=>?_) (λh0=>?_)
 ·have hno:readR b=none:=by cases h:readR b with | none=>rfl | some q=>rw[h] at h0;simp at h0
  refine Z10 ?_;refine Done.retR (rs:=[.cell 2 27,.tmp 3,.tmp 4]) (H':=H) rfl (Ys) (.cons (AVle.agg (.cons (AVle.nil 3) (.cons (.refl _) (.cons (AVle.nil 1) (.cons (AVle.nil 9) (.cons (AVle.nil 3) (.cons (.refl _) .nil))))))) (.cons (AVle.nil 2) (.cons (.refl _) .nil))) Yb ?_;exact⟨by obtain⟨r1_,r2_,r3_,r4_⟩:=r_none hno;rw[r1_,r2_,r3_];rfl,rfl⟩
 ·have hyes:(readR b).isSome=true:=by cases h:readR b with | none=>rw[h] at h0;simp at h0 | some q=>rfl
  refine Z12 ?_;refine Done.retR (rs:=[.cell 2 27,.tmp 3,.tmp 4]) (H':=H) rfl (Ys) (AVleL.refl _) Yb ?_;exact⟨by rw[is_some hyes];rfl,rfl⟩
theorem readsC(hl:b.length<=1048576):PCall Tryz.prog 4 [u8s b] (.b true):=by
 intro H;refine aC (n:=37) Tryz.func4 λB I w0=>?_;refine Z8 ?_;refine oP (POp.call .k (readU b hl)) ?_;refine Z4 ?_;refine OL.alC rfl rfl rfl rfl (λpb=>?_);refine Z6 ?_;refine CW.freezeP (d:=3) rfl Yl ?_;refine Z2 ?_;refine oP (POp.call .k (rRead b hl)) ?_;refine Z4 ?_;refine OL.alC rfl rfl rfl rfl (λqb=>?_);refine Z6 ?_;refine CW.freezeP (d:=6) rfl Yl ?_;refine Z7 ?_;refine OL.guardC rfl rfl rfl rfl rfl rfl (λhg=>POp.call (.mk' rfl rfl rfl rfl Yc) (sameProg (okP_rp b))) ?_;refine Z4 ?_;refine OL.guardC rfl rfl rfl rfl rfl rfl (λhg=>POp.call (.mk' rfl rfl rfl rfl Yc) (sameT (ro b))) ?_;refine Z2 ?_;refine OL.guardC rfl rfl rfl rfl rfl rfl (λhg=>POp.call .k (knownC)) ?_;refine Z5 ?_;refine r1 2 (H) ?_;exact⟨retB Yx,rfl⟩
end Go.Proofs.YtpgnjlngepfanaaGreat
