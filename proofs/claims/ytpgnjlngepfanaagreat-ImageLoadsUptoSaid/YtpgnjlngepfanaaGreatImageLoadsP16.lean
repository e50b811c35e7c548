/- Part 16 of the proof: contracts of functions of the program and what they need. No condition beyond those that each theorem names. -/
import Derived.Test.YtpgnjlngepfanaaGreatImageLoadsP15
set_option maxHeartbeats 1000000
set_option linter.unusedVariables false
set_option linter.unusedSimpArgs false
set_option maxRecDepth 10000
namespace Go.Proofs.YtpgnjlngepfanaaGreat
open Go.Eng
open Go.Eng.Fc
open Go.Eng.Bd
open Go.Eng.Im (U8 u8 u8s numberR manyR)
open Go.Eng.Im
open Go.Eng.Im (U8 u8 u8s numberR manyR splitR Sec pies)
variable{α σ:Type}{f:FuncId}{xs:List AV}{l:List U8}{i n i0 k:Nat}{H:List Ent}{b0 c:Bool}{gs:List Int}
abbrev Gr(α:Type):=List U8->Nat->Bool->α×Nat×Bool
def bindG{α β:Type}(R:Gr α)(k:α->Gr β):Gr β:=λl i b=>k (R l i b).1 l (R l i b).2.1 (R l i b).2.2
def doneG(a:α):Gr α:=λl i b=>(a,i,b)
def failG(a:α):Gr α:=λl i b=>(a,i,true)
def numG:Gr Int:=λl i b=>if b then (0,i,true) else ((numV (l.drop i):Int),i+numF 5 (l.drop i),(numberR (l.drop i)).isNone)
def intG:Gr Int:=bindG numG λn=>doneG (znOf n)
def timesG{α:Type}(R:Gr α):Nat->Gr (List α)
 | 0,l,i,b=>([],i,b)
 | n+1,l,i,b=>if b then ([],i,true) else bindG R (λx=>bindG (timesG R n) λxs=>doneG (x::xs)) l i b
def ROk(R:Rd σ α)(G:Gr α):Prop:=∀(s:σ) (l:List U8) (i:Nat) (b:Bool),i<=l.length->∃s',RTo R s l i b (G l i b).1 s' (G l i b).2.1 (G l i b).2.2
theorem ROk.bind{σ α β:Type}{R:Rd σ α}{G:Gr α}{k:α->Rd σ β}{g:α->Gr β}(h1:ROk R G)(h2:∀a,ROk (k a) (g a)):ROk (thenR R k) (bindG G g):=λs l i b hi=>by
 obtain⟨s1,h3⟩:=h1 s l i b hi;obtain⟨s2,h4⟩:=h2 (G l i b).1 s1 l _ (G l i b).2.2 h3.le;exact⟨s2,h3.bind h4⟩
theorem ROk.done{σ α:Type}(z:α):ROk (doneR (σ:=σ) z) (doneG z):=λs l i b hi=>⟨s,.done z hi⟩
theorem ROk.no{R:Rd σ α}(z:α)(h:∀s l,R s l=none):ROk R (failG z):=λs l i b hi=>⟨s,.bad (.inr (h _ _)) hi⟩
theorem ROk.num:ROk (numR (σ:=σ)) numG:=λs l i b hi=>by
 cases b with
 | true=>exact⟨s,.bad (.inl rfl) hi⟩
 | false=>
  refine⟨s,?_⟩;show RTo numR s l i false (numV (l.drop i):Int) s (i+numF 5 (l.drop i)) (numberR (l.drop i)).isNone;have hf:=numF_le 5 (l.drop i);rw[List.length_drop] at hf;rcases hn:numberR (l.drop i) with _ | ⟨n,r⟩
  ·exact .bad (.inr (numR_none hn)) Yc
  ·have h1:=numR_drop hn;refine⟨Yc,λ_=>⟨rfl,?_⟩,λe=>by cases e⟩;rw[numR_some hn,numV_some hn,h1,drop_plus]
theorem ROk.int:ROk (intR (σ:=σ)) intG:=ROk.num.bind λn=>.done _
theorem ROk.times{σ α:Type}{R:Rd σ α}{G:Gr α}(h:ROk R G):∀n,ROk (timesR R n) (timesG G n)
 | 0,s,l,i,b,hi=>⟨s,hi,λe=>⟨e,rfl⟩,λe=>.inl e⟩
 | n+1,s,l,i,b,hi=>by
  cases b with
  | true=>exact⟨s,.bad (.inl rfl) hi⟩
  | false=>
   obtain⟨s1,h1⟩:=h s l i false hi;obtain⟨s2,h2⟩:=ROk.times h n s1 l _ (G l i false).2.2 h1.le;refine⟨s2,h2.le,λe=>?_,λe=>?_⟩
   ·obtain⟨e1,e2⟩:=h2.go e;obtain⟨e3,e4⟩:=h1.go e1;refine⟨rfl,?_⟩;rw[timesR,e4];simp only;rw[e2];rfl
   ·right;rw[timesR];cases hb:(G l i false).2.2 with
    | true=>
     rcases h1.no hb with h3 | h3
     ·cases h3
     ·rw[h3]
    | false=>
     obtain⟨_,e4⟩:=h1.go hb;rw[e4];simp only;rcases h2.no e with h3 | h3
     ·rw[hb] at h3;cases h3
     ·rw[h3]
theorem numG_is(l:List U8)(i:Nat)(b:Bool):isN (numG l i b).1:=by
 cases b with
 | true=>show isN 0;exact⟨YL,YL⟩
 | false=>exact⟨by show (0:Int)<=(numV _:Nat);omega,by show ((numV (l.drop i):Nat):Int)<_;have:=numV_lt (l.drop i);omega⟩
theorem numG_le(l:List U8)(i:Nat)(b:Bool)(hi:i<=l.length):(numG l i b).2.1<=l.length:=(ROk.num () l i b hi).elim λ_ h=>h.le
abbrev RG(enc:α->AV)(G:Gr α)(rb:Nat)(l:List U8)(i:Nat)(bad:Bool)(H:List Ent):AV->List Ent->Prop:=λy H'=>y=enc (G l i bad).1/\H'=rr rb l (G l i bad).2.1 (G l i bad).2.2::H
theorem RG.r{enc:α->AV}{G:Gr α}{rb:Nat}{bad:Bool}(h:ACall Tryz.prog f xs (rr rb l i bad::H) (RG enc G rb l i bad H) (λ_ _=>False)):RCall Tryz.prog f xs (rr rb l i bad::H) (some (enc (G l i bad).1,rr rb l (G l i bad).2.1 (G l i bad).2.2::H)) [] wrongA:=.of h
theorem RG.e{f:FuncId}{xs:List AV}{α:Type}{enc:α->AV}{G:Gr α}{rb:Nat}{l:List U8}{i j:Nat}{bad c:Bool}{z:α}{H:List Ent}(h:ACall Tryz.prog f xs (rr rb l i bad::H) (RG enc G rb l i bad H) (λ_ _=>False))(e:G l i bad=(z,j,c)):ACall Tryz.prog f xs (rr rb l i bad::H) (λy H'=>y=enc z/\H'=rr rb l j c::H) (λ_ _=>False):=ACall.weak h (λy H' ⟨e1,e2⟩=>⟨by rw[e1,e],by rw[e2,e]⟩) (λ_ _ h=>h)
theorem RG.x{enc:α->AV}{R:Rd σ α}{G:Gr α}{q:α->Prop}{s:σ}{rb:Nat}{bad:Bool}(h:ACall Tryz.prog f xs (rr rb l i bad::H) (RG enc G rb l i bad H) (λ_ _=>False))(hi:i<=l.length)(hR:ROk R G)(hq:q (G l i bad).1):ACall Tryz.prog f xs (rr rb l i bad::H) (RX enc R s rb l i bad H q) (λ_ _=>False):=
 ACall.weak h (λy H' ⟨e1,e2⟩=>(hR s l i bad hi).elim λs' hT=>⟨_,s',_,_,e1,e2,hq,hT⟩) (λ_ _ h=>h)
theorem numD(rb:Nat)(l:List U8)(i:Nat)(bad:Bool)(hl:l.length<=1048576)(hi:i<=l.length)(H:List Ent):ACall Tryz.prog 167 [.p rb 0] (rr rb l i bad::H) (RG (λn=>.i n) numG rb l i bad H) (λ_ _=>False):=by
 cases bad with
 | true=>exact q167b rb l i Yc H
 | false=>exact (q167 rb l i hl hi H).ok
def valG:Gr (Int×Int):=bindG numG λk=>if k=1 then bindG intG λn=>doneG (k,n) else if k=2 then doneG (k,0) else if k=3 then bindG numG λn=>doneG (k,n) else failG (k,0)
theorem ROk.val:ROk (valR (σ:=σ)) valG:=ROk.num.bind λk=>by
 by_cases h1:k=1
 ·rw[if_pos h1,if_pos h1];exact ROk.int.bind λn=>.done _
 ·rw[if_neg h1,if_neg h1];by_cases h2:k=2
  ·rw[if_pos h2,if_neg Yc];exact λs l i b hi=>⟨s,.need (by rw[h2];rfl) (.done _ hi)⟩
  ·rw[if_neg h2];by_cases h3:k=3
   ·rw[if_pos h3,if_pos h3];exact ROk.num.bind λn=>.done _
   ·rw[if_neg h3,if_neg h3];exact .no _ λs l=>needR_no Ybd
theorem intG_le(l:List U8)(i:Nat)(b:Bool)(hi:i<=l.length):(intG l i b).2.1<=l.length:=(ROk.int () l i b hi).elim λ_ h=>h.le
theorem valG_le(l:List U8)(i:Nat)(b:Bool)(hi:i<=l.length):(valG l i b).2.1<=l.length:=(ROk.val () l i b hi).elim λ_ h=>h.le
theorem intD(rb:Nat)(l:List U8)(i:Nat)(bad:Bool)(hl:l.length<=1048576)(hi:i<=l.length)(H:List Ent):ACall Tryz.prog 169 [.p rb 0] (rr rb l i bad::H) (RG (λn=>.i n) (intG) rb l i bad H) (λ_ _=>False):=by
 refine aC (n:=15) Tryz.func169 λB I w0=>?_;obtain⟨n,i1,b1,E1⟩:∃z j c,numG l i bad=(z,j,c):=⟨_,_,_,rfl⟩;have q1:isN n:=by have h:=numG_is l i bad;rw[E1] at h;exact h
 have L1:i1<=l.length:=by have h:=numG_le l i bad hi;rw[E1] at h;exact h
 have hG:intG l i bad=(znOf n,i1,b1):=by rw[intG,bindG,E1];rfl
 refine Z8 ?_;refine bC .k ((RG.e (numD rb l i bad hl hi _) E1).b) ?_;rintro _ _ ⟨rfl,rfl⟩;refine Z7 ?_;refine oP (POp.div rfl rfl rfl rfl rfl YL (.inr ⟨rfl,rfl⟩)) ?_;refine Z3 ?_;refine cd (λh0=>?_) λh0=>?_
 ·refine Z4 ?_;refine oP (POp.neg rfl rfl rfl (wrap64 Yc)) ?_;refine oP (POp.div rfl rfl rfl rfl rfl YL (.inl ⟨rfl,rfl⟩)) ?_;refine OL.le 12 (y:=.i (znOf n)) rfl (AVle.eqI (zn_odd q1 h0)) ?_;refine Z5 ?_;refine r1 2 (rr rb l i1 b1::H) ?_;exact⟨by rw[hG];rfl,by rw[hG]⟩
 ·refine Z5 ?_;refine oP (POp.div rfl rfl rfl rfl rfl YL (.inl ⟨rfl,rfl⟩)) ?_;refine OL.le 14 (y:=.i (znOf n)) rfl (AVle.eqI (zn_even q1 h0)) ?_;refine Z4 ?_;refine r1 2 (rr rb l i1 b1::H) ?_;exact⟨by rw[hG];rfl,by rw[hG]⟩
theorem valD(rb:Nat)(l:List U8)(i:Nat)(bad:Bool)(hl:l.length<=1048576)(hi:i<=l.length)(H:List Ent):ACall Tryz.prog 98 [.p rb 0] (rr rb l i bad::H) (RG (AV.mv) (valG) rb l i bad H) (λ_ _=>False):=by
 refine aC (n:=24) Tryz.func98 λB I w0=>?_;obtain⟨n,i1,b1,E1⟩:∃z j c,numG l i bad=(z,j,c):=⟨_,_,_,rfl⟩;have q1:isN n:=by have h:=numG_is l i bad;rw[E1] at h;exact h
 have L1:i1<=l.length:=by have h:=numG_le l i bad hi;rw[E1] at h;exact h
 have hv:valG l i bad=(if n=1 then bindG intG λw=>doneG (n,w) else if n=2 then doneG (n,0) else if n=3 then bindG numG λw=>doneG (n,w) else failG (n,0)) l i1 b1:=by rw[valG,bindG,E1]
 refine Z2 ?_;refine OL.alC rfl rfl rfl rfl (λcb=>?_);refine Z3 ?_;refine CW.perm (List.Perm.swap _ _ _) ?_;refine Z2 ?_;refine bC .k ((RG.e (numD rb l i bad hl hi _) E1).b) ?_;rintro _ _ ⟨rfl,rfl⟩;refine Z1 ?_;refine OL.alC rfl rfl rfl rfl (λvb=>?_);refine Z3 ?_;refine CW.cutJ (λst=>∃(x:Int×Int) (j:Nat) (b:Bool),st=⟨[(3,.p vb 0),(2,.p cb 0)],rr rb l j b::.blk vb 60 (initA x)::.blk cb 60 [.val (.int .i64 0),.val (.int .i64 0)]::H⟩/\valG l i bad=(x,j,b)) ?_ ?_
 ·refine Z1 ?_;refine CW.perm (List.Perm.swap _ _ _) ?_;refine Z12 ?_;refine cd (λh0=>?_) λh0=>?_
  ·rw[if_pos h0] at hv;obtain⟨w,i2,b2,E2⟩:∃z_ j_ c_,intG l i1 b1=(z_,j_,c_):=⟨_,_,_,rfl⟩;have L2:i2<=l.length:=by have h:=intG_le l i1 b1 L1;rw[E2] at h;exact h
   refine Z2 ?_;refine bC .k ((RG.e (intD rb l i1 b1 hl L1 _) E2).b) ?_;rintro _ _ ⟨rfl,rfl⟩;refine Z4 ?_;exact cj ⟨(n,w),i2,b2,rfl,by rw[hv,bindG,E2];rfl⟩
  ·refine Z6 ?_;refine cd (λh1=>?_) λh1=>?_
   ·rw[if_neg h0,if_pos h1] at hv;refine Z2 ?_;exact cj ⟨(n,0),i1,b1,rfl,by rw[hv];rfl⟩
   ·refine Z6 ?_;refine cd (λh2=>?_) λh2=>?_
    ·rw[if_neg h0,if_neg h1,if_pos h2] at hv;obtain⟨w,i2,b2,E2⟩:∃z_ j_ c_,numG l i1 b1=(z_,j_,c_):=⟨_,_,_,rfl⟩;have L2:i2<=l.length:=by have h:=numG_le l i1 b1 L1;rw[E2] at h;exact h
     refine Z2 ?_;refine bC .k ((RG.e (numD rb l i1 b1 hl L1 _) E2).b) ?_;rintro _ _ ⟨rfl,rfl⟩;refine Z4 ?_;exact cj ⟨(n,w),i2,b2,rfl,by rw[hv,bindG,E2];rfl⟩
    ·rw[if_neg h0,if_neg h1,if_neg h2] at hv;refine Z2 ?_;refine bC .k (((q168 rb l i1 b1 _).ok).b) ?_;rintro _ _ ⟨rfl,rfl⟩;refine Z2 ?_;exact cj ⟨(n,0),i1,true,rfl,by rw[hv];rfl⟩
 ·rintro _ ⟨x,j,b,rfl,hT⟩;refine Z7 ?_;refine Done.retR (rs:=[.cell 2 60]) (H':=rr rb l j b::H) rfl (Yo) (AVleL.refl _) Ybc ?_;exact⟨by rw[hT];rfl,by rw[hT]⟩
theorem RTo.z{σ α:Type}{R:Rd σ α}{s s' s2:σ}{l:List U8}{i i' i2:Nat}{b:Bool}{z z2:α}(h:RTo R s l i b z s' i' true)(hi:i2<=l.length):RTo R s l i b z2 s2 i2 true:=.bad (h.no rfl) hi
def initG:Gr (Int×Int):=bindG numG λa=>bindG intG λb=>doneG (a,b)
theorem ROk.init:ROk (initR (σ:=σ)) initG:=ROk.num.bind λa=>ROk.int.bind λb=>.done _
def manyG:Gr Nat:=λl i b=>if(numG l i b).1<=(l.length:Int) - ((numG l i b).2.1:Nat) then ((numG l i b).1.toNat,(numG l i b).2.1,(numG l i b).2.2) else (0,(numG l i b).2.1,true)
theorem ROk.many:ROk (manyRd (σ:=σ)) manyG:=λs l i b hi=>by
 obtain⟨s1,h⟩:=ROk.num s l i b hi;have h0:=(numG_is l i b).1;unfold manyG;split
 ·rename_i hc;exact⟨s1,many_of h h0 hc⟩
 ·rename_i hc;exact⟨s,many_no h hc h.le⟩
def listG(R:Gr α):Gr (List α):=bindG manyG λn=>timesG R n
theorem ROk.list{R:Rd σ α}{G:Gr α}(h:ROk R G):ROk (listR R) (listG G):=ROk.many.bind λn=>h.times n
def numsG:Gr (List Int):=listG numG
theorem ROk.nums:ROk (listR (numR (σ:=σ))) numsG:=ROk.num.list
structure TGo{α:Type}(G:Gr α)(n:Nat)(l:List U8)(i0:Nat)(b0:Bool)(k:Nat)(out:List α)(j:Nat)(b:Bool):Prop where
 le:j<=l.length
 len:out.length=k
 eq:timesG G n l i0 b0=(out++(timesG G (n - k) l j b).1,(timesG G (n - k) l j b).2)
theorem TGo.begin(G:Gr α)(n:Nat){l:List U8}{i:Nat}(b:Bool)(hi:i<=l.length):TGo G n l i b 0 [] i b:=⟨hi,rfl,rfl⟩
theorem TGo.step{G:Gr α}{i0 k j j':Nat}{b0 b':Bool}{out:List α}{z:α}(h:TGo G n l i0 b0 k out j false)(hk:k<n)(hz:G l j false=(z,j',b'))(hj:j'<=l.length):TGo G n l i0 b0 (k+1) (out++[z]) j' b':=by
 refine⟨hj,by rw[List.length_append,h.len];rfl,?_⟩;rw[h.eq,show n - k=n - (k+1)+1 by omega,timesG,if_neg Yx,bindG,hz];simp only[bindG,doneG,List.append_assoc,List.singleton_append]
theorem TGo.fin{G:Gr α}{i0 k j:Nat}{b0 b:Bool}{out:List α}(h:TGo G n l i0 b0 k out j b)(hk:b=true\/k=n):timesG G n l i0 b0=(out,j,b):=by
 have e:timesG G (n - k) l j b=([],j,b):=by
  rcases hk with rfl | rfl
  ·cases n - k <;> simp[timesG]
  ·rw[Nat.sub_self,timesG]
 rw[h.eq,e,List.append_nil]
def restG(R:Option (Gr Fact))(k:Nat)(f:List Fact->Fact):Gr Fact:=match R with
 | none=>failG (f [])
 | some R=>bindG (timesG R k) λks=>doneG (f ks)
def factK(R:Option (Gr Fact))(op:Int):Gr Fact:=
 if op=2 then bindG numG λa=>bindG numsG λps=>bindG numG λc=>restG R 0 λks=>.mk op a ps c 0 ks
 else if op=3\/op=4 then bindG numG λa=>bindG numsG λps=>bindG intG λn=>restG R 0 λks=>.mk op a ps 0 n ks
 else if opR op then restG R (kidCnt op) λks=>.mk op 0 [] 0 0 ks
 else bindG (failG ()) λ_=>restG R 0 λks=>.mk op 0 [] 0 0 ks
def factS(R:Option (Gr Fact)):Gr Fact:=bindG numG (factK R)
def factG:Nat->Gr Fact
 | 0=>factS none
 | d+1=>factS (some (factG d))
theorem ROk.need{σ α:Type}{R:Rd σ α}{G:Gr α}{c:Bool}(hc:c=true)(h:ROk R G):ROk (needR c R) G:=λs l i b hi=>(h s l i b hi).elim λs' h=>⟨s',h.need hc⟩
theorem ROk.dead{R:Rd σ α}{G:Gr α}(hR:∀s l,R s l=none)(hG:∀l i b,i<=l.length->(G l i b).2.1<=l.length/\(G l i b).2.2=true):ROk R G:=λs l i b hi=>by
 obtain⟨h1,h2⟩:=hG l i b hi;refine⟨s,?_⟩;rw[h2];exact .bad (.inr (hR _ _)) h1
theorem ROk.rest{R:Rd Nat Fact}{G:Gr Fact}(h:ROk R G)(k:Nat)(f:List Fact->Fact):ROk (thenR (timesR R k) λks=>doneR (f ks)) (restG (some G) k f):=(h.times k).bind λks=>.done _
theorem rest_no(k:Nat)(f:List Fact->Fact)(l:List U8)(i:Nat)(b:Bool)(hi:i<=l.length):(restG none k f l i b).2.1<=l.length/\(restG none k f l i b).2.2=true:=⟨hi,rfl⟩
theorem bind_dead{α β:Type}{R:Rd Unit α}{G:Gr α}{g:α->Gr β}(h:ROk R G)(hg:∀a l i b,i<=l.length->(g a l i b).2.1<=l.length/\(g a l i b).2.2=true)(l:List U8)(i:Nat)(b:Bool)(hi:i<=l.length):(bindG G g l i b).2.1<=l.length/\(bindG G g l i b).2.2=true:=
 (h () l i b hi).elim λ_ hT=>hg _ l _ _ hT.le
theorem fact_none(l:List U8)(i:Nat)(b:Bool)(hi:i<=l.length):(factS none l i b).2.1<=l.length/\(factS none l i b).2.2=true:=by
 refine bind_dead .num (λop l i b hi=>?_) l i b hi;unfold factK;split
 ·exact bind_dead .num (λa l i b hi=>bind_dead .nums (λps l i b hi=>bind_dead .num (λc l i b hi=>rest_no _ _ _ _ _ hi) l i b hi) l i b hi) l i b hi
 ·split
  ·exact bind_dead .num (λa l i b hi=>bind_dead .nums (λps l i b hi=>bind_dead .int (λc l i b hi=>rest_no _ _ _ _ _ hi) l i b hi) l i b hi) l i b hi
  ·split
   ·exact rest_no _ _ _ _ _ hi
   ·exact⟨hi,rfl⟩
theorem ROk.fact:∀d,ROk (factR2 d) (factG d)
 | 0=>.dead (λ_ _=>rfl) fact_none
 | d+1=>ROk.num.bind λop=>by
  by_cases ho:opR op=true
  ·refine ROk.need ho ?_;unfold factB factK;by_cases h2:op=2
   ·rw[if_pos h2,if_pos h2];exact ROk.num.bind λa=>ROk.nums.bind λps=>ROk.num.bind λc=>.done _
   ·rw[if_neg h2,if_neg h2];by_cases h3:op=3\/op=4
    ·rw[if_pos h3,if_pos h3];exact ROk.num.bind λa=>ROk.nums.bind λps=>ROk.int.bind λc=>.done _
    ·rw[if_neg h3,if_neg h3,if_pos ho];exact (ROk.fact d).rest _ λks=>.mk op 0 [] 0 0 ks
  ·have hq:opR op=false:=by simpa using ho
   have hq2: ¬op=2:=by rintro rfl;exact ho rfl
   have hq3: ¬(op=3\/op=4):=by rintro (rfl | rfl) <;> exact ho rfl
   refine .dead (λs l=>needR_no hq) λl i b hi=>?_;unfold factK;rw[if_neg hq2,if_neg hq3,if_neg ho];exact⟨hi,rfl⟩
def ndNG(op:Int):Gr Int:=if op=1 then intG else if nodeNum op then numG else doneG 0
def ndK(gens:List Int)(op n:Int):Gr Nd:=if ndOk gens op n then bindG (timesG numG (kidsR (gensP gens) ⟨op,n,[]⟩).toNat) λks=>doneG ⟨op,n,ks⟩ else failG ⟨op,n,[]⟩
def ndG(gens:List Int):Gr Nd:=bindG numG λop=>bindG (ndNG op) λn=>ndK gens op n
theorem ROk.ndN(op:Int):ROk (ndNR (σ:=σ) op) (ndNG op):=by
 unfold ndNR ndNG;split
 ·exact .int
 ·split
  ·exact .num
  ·exact .done _
theorem ROk.nd(gens:List Int):ROk (ndR2 (σ:=σ) gens) (ndG gens):=ROk.num.bind λop=>(ROk.ndN op).bind λn=>by
 unfold ndK;by_cases h:ndOk gens op n=true
 ·rw[if_pos h];exact .need h ((ROk.num.times _).bind λks=>.done _)
 ·rw[if_neg h];exact .no _ λs l=>needR_no Yae
theorem doneD(rb:Nat)(l:List U8)(i:Nat)(bad:Bool)(H:List Ent):ACall Tryz.prog 100 [.p rb 0] (rr rb l i bad::H) (λy H'=>y= .b (!bad && decide (i=l.length))/\H'=rr rb l i bad::H) (λ_ _=>False):=by
 refine aC (n:=20) Tryz.func100 λB I w0=>?_;refine Z6 ?_;refine CW.dp mixed ?_;refine Z24 ?_;refine DP.anyC 6 15 20 rfl Ye rfl rfl Ye ?_;refine Z17 ?_;refine r1 2 (rr rb l i bad::H) ?_;exact⟨retB (by rw[Bool.cond_false_right];congr 1;rw[Bool.eq_iff_iff];simp;try omega),rfl⟩
theorem TTo.stepA{R:Rd σ α}{s0 s s':σ}{i0 i i' k:Nat}{b0 b b':Bool}{out:List α}{z:α}(h:TTo R n s0 l i0 b0 k out s i b)(hk:k<n)(hr:RTo R s l i b z s' i' b'):TTo R n s0 l i0 b0 (k+1) (out++[z]) s' i' b':=by
 cases b with
 | false=>exact h.step hk hr
 | true=>
  have:=hr.stay;subst this;exact⟨hr.le,by rw[List.length_append,h.len];rfl,λe=>Bool.noConfusion e,λ_=>h.no rfl⟩
theorem own_is{p:Prog}(hz:(sizesP p).isSome=true)(c:Int):ownC p c=(decide (c>=3) && decide (c<3+p.classes.length)):=by rw[ownC,hz,Bool.and_true]
theorem objsX(s:Unit){p:Prog}(hp:p.Small)(hz:(sizesP p).isSome=true)(rb:Nat)(l:List U8)(i:Nat)(bad:Bool)(hl:l.length<=1048576)(hi:i<=l.length)(H:List Ent):ACall Tryz.prog 99 [.p rb 0,AV.prog p] (rr rb l i bad::H) (RX (AV.ths) (listR (thR p)) s rb l i bad H (λ_=>True)) (λ_ _=>False):=by
 refine aC (n:=53) Tryz.func99 λB I w0=>?_;have hH:=(heads_of hz).cl;refine Z12 ?_;refine CW.ownNil 5 65 2 rfl ?_;refine CW.perm (List.Perm.swap _ _ _) ?_;refine Z2 ?_;refine bC .k ((manyX s rb l i bad hl hi _).b) ?_;rintro _ _ ⟨n,s1,i1,b1,rfl,rfl,q1,T1⟩;have L1:=T1.le;refine Z10 ?_;refine lj (λm st=>∃(k:Nat) (out:List Th) (s2:Unit) (j:Nat) (b:Bool) (v:Value),st=⟨[(7,.i k),(6,.i n),(5,.as (AV.ths out) v),(3,.ptr (progC p)),(0,.p rb 0)],rr rb l j b::.own 65 2 v::H⟩/\m=n - k/\k<=n/\TTo (thR p) n s1 l i1 b1 k out s2 j b) (⟨0,[],s1,i1,b1,_,rfl,rfl,Yc,.begin _ _ _ _ L1⟩) ?_;rintro m _ ⟨k,out,s2,j,b,v,rfl,rfl,hk,hT⟩;refine Z15 ?_;refine CW.cond rfl (λh0=>?_) (λh0=>?_)
 ·obtain⟨hkn,rfl⟩:=go_on h0;replace hkn:k<n:=Int.ofNat_lt.1 (of_decide_eq_true hkn);have hlk:=hT.len;have hle:=hT.le;refine Z7 ?_;refine bC .k ((numX s2 rb l j false hl hle _).b) ?_;rintro _ _ ⟨c,s3,i3,b3,rfl,rfl,q3,T3⟩;have L3:=T3.le;refine Z1 ?_;refine OL.alC rfl rfl rfl rfl (λtb=>?_);refine Z5 ?_;refine CW.perm (List.Perm.swap _ _ _) ?_;refine Z4 ?_;refine oP (POp.call .k (rOwnP p Yc c)) ?_;refine Z3 ?_;refine CW.cond rfl (λh1=>?_) (λh1=>?_)
  ·rw[<-own_is hz,Bool.not_eq_true'] at h1;have hR:RTo (thR p) s2 l j false (⟨c,[]⟩:Th) s3 i3 true:=T3.bind (.needNo h1 L3);refine Z3 ?_;refine bC .k (((q168 rb l i3 b3 _).ok).b) ?_;rintro _ _ ⟨rfl,rfl⟩;refine Z16 ?_;refine Done.retR (rs:=[.tmp 4]) (H':=rr rb l i3 true::H) rfl (.tmp rfl (.nil)) (.cons (AVle.asL _ _) .nil) Yal ?_;exact⟨out,s3,i3,true,rfl,rfl,trivial,T1.bind (((hT.step hkn hR).fin (.inl rfl)).z L3)⟩
  ·rw[<-own_is hz,Bool.not_eq_false'] at h1;have h13:=h1;have hl40:=has_len h1;rw[own_is hz,Bool.and_eq_true,decide_eq_true_eq,decide_eq_true_eq] at h13;refine Z8 ?_;refine oP (POp.call .k (rHasOf hp hz h13.1 h13.2)) ?_;refine Z5 ?_;obtain⟨N,hN⟩:∃N,N=(hasP p c).length:=⟨_,rfl⟩;rw[<-hN] at hl40;refine CW.le 37 (y:=.i N) rfl (AVle.eqI (by rw[hN])) ?_;refine CW.ownNilB (b:=tb) (t:=65) 60 2 1 YK rfl rfl ?_;refine CW.perm (List.Perm.swap _ _ _) ?_;refine lj (λm st=>∃(kk:Nat) (vs:List (Int×Int)) (s4:Unit) (jj:Nat) (bb:Bool) (v2:Value),st=⟨[(38,.i kk),(37,.i N),(8,.p tb 0),(7,.i k),(6,.i n),(5,.as (AV.ths out) v),(3,.ptr (progC p)),(0,.p rb 0)],rr rb l jj bb::.own 60 2 v2::.blk tb 65 [.i c,.as (AV.mvs vs) v2]::.own 65 2 v::H⟩/\m=N - kk/\kk<=N/\TTo valR N s3 l i3 b3 kk vs s4 jj bb) (⟨0,[],s3,i3,b3,_,rfl,rfl,Yc,.begin _ _ _ _ L3⟩) ?_;rintro m _ ⟨kk,vs,s4,jj,bb,v2,rfl,rfl,hkk,hT2⟩;refine Z6 ?_;refine cd (λh2=>?_) λh2=>?_
   ·have hkl:kk<N:=by omega
    have hl2:=hT2.len;have hle2:=hT2.le;obtain⟨w,i5,b5,E5⟩:∃z_ j_ c_,valG l jj bb=(z_,j_,c_):=⟨_,_,_,rfl⟩;have L5:i5<=l.length:=by have h:=valG_le l jj bb hle2;rw[E5] at h;exact h
    obtain⟨s5,hR⟩:=ROk.val s4 l jj bb hle2;rw[E5] at hR;refine Z4 ?_;refine CW.dp mixed ?_;refine DP.anyK (X:=noX) [⟨3,43,false⟩] (λJ=>match J with | [some _]=>rr rb l i5 b5::.own 60 2 v2::.blk tb 65 [.i c,.as (AV.mvs vs) v2]::.own 65 2 v::H | _=>rr rb l jj bb::.own 60 2 v2::.blk tb 65 [.i c,.as (AV.mvs vs) v2]::.own 65 2 v::H) (λq J=>match q,J with | 0,[some _]=>AV.mv w | _,_=>.any) 0 5 53 rfl Ye Ye rfl rfl Ye rfl (λ_ _ _ _ _ _ _ _ _ h=>h.elim) ?_;refine UD.popK [[true],[false]] rfl Ye rfl rfl rfl ⟨λf=>Yf,λf=>Yf,trivial⟩ ?_;refine UD.popK [[true],[false]] rfl Ye rfl rfl rfl ⟨λf=>Ya,λf=>Ya,trivial⟩ ?_;refine UD.popK [[false]] rfl Ye rfl rfl rfl ⟨λf=>POp.move rfl rfl rfl,trivial⟩ ?_;refine UD.effK 0 [[false]] rfl rfl rfl Ye rfl rfl rfl ⟨λf=>⟨KOk.rcall (Hf:=[]) (pv:=wrongA) .k (RCall.of (RG.e (valD rb l jj bb hl hle2 _) E5)) (λ_=>rfl) (λ_=>rfl),Yj⟩,trivial⟩ ?_;refine UD.popK [[true]] rfl Ye rfl rfl rfl ⟨λf=>POp.le (x:=.sl 2 [initA w]) (POp.row rfl rfl Yh rfl rfl rfl rfl rfl rfl) (AVle.refl _),trivial⟩ ?_;refine UD.nil (λf=>?_);simp only[kvals,List.map_cons,List.map_nil,List.cons_append,List.nil_append];refine Z1 ?_;refine OL.appendC rfl rfl rfl rfl rfl rfl rfl rfl (AVle.refl _) (rfl) (λv=>by repeat (first | exact Upd.head _ _ _ | apply Upd.tail)) (YG) (YG) (λv45=>?_);refine Z9 ?_;rw[<-mvs_snoc];exact ag ⟨kk+1,vs++[w],s5,i5,b5,v45,rfl,rfl,hkl,hT2.stepA hkl hR⟩
   ·obtain rfl:kk=N:=by omega
    have hR:RTo (thR p) s2 l j false (⟨c,vs⟩:Th) s4 jj bb:=T3.bind (.need h1 (by rw[<-hN];exact (hT2.fin (.inr rfl)).map λvs=>(⟨c,vs⟩:Th)));refine Z8 ?_;refine OL.le 49 (y:=.agg (thA ⟨c,vs⟩)) rfl (AVle.agg (.cons (.refl _) (.cons (AVle.asL _ _) .nil))) ?_;refine oP (POp.le (x:=.sl 2 [thA ⟨c,vs⟩]) (POp.row rfl rfl Yh rfl rfl rfl rfl rfl rfl) (AVle.refl _)) ?_;refine OL.appendC rfl rfl rfl rfl rfl rfl rfl rfl (AVle.refl _) (rfl) (λv=>by repeat (first | exact Upd.head _ _ _ | apply Upd.tail)) (YG) (YG) (λv51=>?_);refine Z9 ?_;rw[<-ths_snoc];exact ag (hH:=.cons_cons _ (.cons _ (.cons _ (.refl _)))) ⟨k+1,out++[⟨c,vs⟩],s4,jj,bb,v51,rfl,rfl,hkn,hT.step hkn hR⟩
 ·have hst:=stop_at h0 hk;refine Z12 ?_;refine Done.retR (rs:=[.tmp 4]) (H':=rr rb l j b::H) rfl (.tmp rfl (.nil)) (.cons (AVle.asL _ _) .nil) Yal ?_;exact⟨out,s2,j,b,rfl,rfl,trivial,T1.bind (hT.fin hst)⟩
def GI(gs:List Int)(q:Nat)(c bb:Bool):Prop:=(bb=false->c=false/\∀g∈gs.take q,g<=3)/\(bb=true->c=true\/∃g∈gs.take q,¬g<=3)
theorem GI.begin(gs:List Int)(c:Bool):GI gs 0 c c:=⟨λe=>⟨e,Yx⟩,λe=>.inl e⟩
theorem GI.bad{q:Nat}{c bb:Bool}(hq:q<gs.length)(h3:gs.getD q default>3):GI gs (q+1) c true:=⟨λe=>Bool.noConfusion e,λ_=>.inr ⟨gs.getD q default,by rw[<-take_getD hq];exact List.mem_append_right _ (List.mem_singleton.2 rfl),Yc⟩⟩
theorem GI.ok{q:Nat}{c bb:Bool}(h:GI gs q c bb)(hq:q<gs.length)(h3: ¬gs.getD q default>3):GI gs (q+1) c bb:=by
 refine⟨λe=>⟨(h.1 e).1,λg hg=>?_⟩,λe=>(h.2 e).imp id λ⟨g,hg,hg3⟩=>⟨g,by rw[<-take_getD hq];simp[hg],hg3⟩⟩;rw[<-take_getD hq,List.mem_append,List.mem_singleton] at hg;rcases hg with hg | rfl
 ·exact (h.1 e).2 g hg
 ·omega
structure PTo(l:List U8)(i:Nat)(bad:Bool)(p:Prog)(i':Nat)(b':Bool):Prop where
 le:i'<=l.length
 small:p.Small
 go:b'=false->bad=false/\progR2 (l.drop i)=some (p,l.drop i')
 no:b'=true->bad=true\/progR2 (l.drop i)=none
theorem drop_nil(h:i<=l.length):l.drop i= []↔i=l.length:=by
 rw[List.drop_eq_nil_iff];omega
theorem ref_good{b b1 b2:List U8}{p:Prog}{objs:List Th}{s':Unit}(hb:bodiesR b 79 [1,2]=some [b1,b2])(hp:progR2 b1=some (p,[]))(hz:(sizesP p).isSome=true)(h:RTo (listR (thR p)) () b2 0 false objs s' i c)(hc:c=false)(hi:i=b2.length)(hk:checkP p objs=true):readR b=some (p,objs):=by
 have e:=(h.go hc).2;rw[List.drop_zero,(drop_nil h.le).2 hi] at e;rw[<-ref_read,refR,hb];simp only[hp];rw[if_pos ⟨trivial,hz⟩,e];simp only;rw[if_pos ⟨trivial,hk⟩]
end Go.Proofs.YtpgnjlngepfanaaGreat

namespace Go.Proofs.YtpgnjlngepfanaaGreat
open Go.Eng
open Go.Eng.Fc
open Go.Eng.Bd
open Go.Eng.Im (U8 u8 u8s sumR splitR Sec)
def lo:LoadE->List Th
 | .ok l _=>l
 | _=>[]
def lr:LoadE->List (Int×Int)
 | .ok _ l=>l
 | _=>[]
def le_:LoadE->Int
 | .arg=>2
 | .text=>4
 | .rule=>7
 | .long=>3
 | .ok _ _=>0
structure Saved(p:Prog)(objs others:List Th)(roots:List (Int×Int)):Prop where
 alike:alikeP p objs roots (allP others (ownP objs roots)) ((ownR objs roots).map (move1 (· +(others.length:Int))))=true
 asked:askedP p (allP others (ownP objs roots)) ((ownR objs roots).map (move1 (· +(others.length:Int))))=true
 part:partP p (allP others (ownP objs roots)) ((ownR objs roots).map (move1 (· +(others.length:Int))))=partP p objs roots
 check:checkP p (allP others (ownP objs roots))=true
 len:(allP others (ownP objs roots)).length=others.length+(reachP objs roots).length
end Go.Proofs.YtpgnjlngepfanaaGreat

namespace Go.Proofs.YtpgnjlngepfanaaGreat
open Go.Eng
open Go.Eng.Fc
open Go.Eng.Bd
open Go.Eng.Im (U8 u8 u8s numberR manyR)
open Go.Eng.Im
open Go.Eng.Im (U8 u8 u8s numberR manyR splitR Sec pies sumR)
variable{b:List U8}{L:List Sec}{p:Prog}
theorem rCopyV(l:List (Int×Int))(hl:l.length<=1000000):PCall Tryz.prog 114 [AV.mvs l] (AV.mvs l):=by
 intro H;refine aC (n:=5) Tryz.func114 λB I w0=>?_;refine Z8 ?_;refine oP (POp.appendI rfl rfl rfl AVle.nil0 rfl rfl (AVle.refl _) (one_mvs _) (by simp only[List.length_map,List.length_nil];omega) (by simp only[List.length_map,List.length_nil];omega)) ?_;refine Z4 ?_;refine r1 2 (H) ?_;exact⟨Yaw,rfl⟩
theorem rCopyT(l:List Th)(hl:l.length<=1000)(hs:∀t∈l,t.slots.length<=1000):∀H,ACall Tryz.prog 54 [AV.ths l] H (λy H1=>∃v,y= .as (AV.ths l) v/\H1= .own 65 2 v::H) (λ_ _=>False):=by
 intro H;refine aC (n:=27) Tryz.func54 λB I w0=>?_;refine Z12 ?_;refine CW.ownNil 3 65 2 rfl ?_;refine Z5 ?_;refine lj (λm st=>∃(i:Nat) (v:Value),st=⟨[(4,.i i),(3,.as (AV.ths (l.take i)) v),(0,AV.ths l)],.own 65 2 v::H⟩/\m=l.length - i/\i<=l.length) (⟨0,_,rfl,rfl,Yc⟩) ?_;rintro m _ ⟨i,v,rfl,rfl,hi⟩;refine Z9 ?_;refine cd (λh0=>?_) λh0=>?_
 ·have hil:i<l.length:=by omega
  have hxs:=hs _ (getD_memB hil);have hmt:=take_getD hil;refine Z4 ?_;refine CW.dp mixed ?_;refine DP.anyC 0 14 27 rfl Ye rfl rfl Ye ?_;refine Z11 ?_;refine AD.popC rfl rfl rfl (POp.call .k (rCopyV _ Yc)) ?_;refine Z1 ?_;refine AD.popC rfl rfl rfl (POp.le (x:=.sl 2 [thA (l.getD i default)]) (POp.row rfl rfl Yh rfl rfl rfl rfl rfl rfl) (AVle.refl _)) ?_;refine Z2 ?_;refine OL.appendC rfl rfl rfl rfl rfl rfl rfl rfl (AVle.refl _) (rfl) (λv=>by repeat (first | exact Upd.head _ _ _ | apply Upd.tail)) ((by simp only[List.length_map,List.length_take,List.length_singleton];omega)) ((by simp only[List.length_map,List.length_take,List.length_singleton];omega)) (λv25=>?_);refine Z9 ?_;exact ag (⟨i+1,v25,by rw[<-hmt,ths_snoc],rfl,hil⟩)
 ·obtain rfl:i=l.length:=by omega
  rw[List.take_length];refine Z12 ?_;refine r1 2 (.own 65 2 v::H) ?_;exact⟨v,rfl,rfl⟩
theorem rShifted{k:Int}(hk:0<=k/\k<=1000000){l:List (Int×Int)}(hl:∀v∈l,okZ v.2)(hll:l.length<=1000000):PCall Tryz.prog 101 [AV.mvs l,.i k] (AV.mvs (l.map (move1 (· +k)))):=by
 intro H;refine aC (n:=28) Tryz.func101 λB I w0=>?_;refine Z12 ?_;refine CW.ownNil 5 60 2 rfl ?_;refine Z7 ?_;refine lj (λm st=>∃(i:Nat) (v:Value),st=⟨[(5,.as (AV.mvs ((l.take i).map (move1 (· +k)))) v),(10,.i i),(9,.i l.length),(8,AV.mvs l),(1,.i k)],.own 60 2 v::H⟩/\m=l.length - i/\i<=l.length) (⟨0,_,rfl,rfl,Yc⟩) ?_;rintro m _ ⟨i,v,rfl,rfl,hi⟩;refine Z6 ?_;refine cd (λh0=>?_) λh0=>?_
 ·have hil:i<l.length:=by omega
  obtain⟨X,hX⟩:∃X,X=l.getD i default:=⟨_,rfl⟩;have hXl:=hl X (hX▸getD_memB hil);have hX1:=hXl.1;have hX2:=hXl.2;have hmt:=map_take1 (move1 (· +k)) hil;rw[<-hX] at hmt;refine Z8 ?_;refine OL.alC rfl rfl rfl rfl (λb7=>?_);refine Z3 ?_;refine CW.cutJ (λst=>st=⟨[(7,.p b7 0),(5,.as (AV.mvs ((l.take i).map (move1 (· +k)))) v),(10,.i i),(9,.i l.length),(8,AV.mvs l),(1,.i k)],.blk b7 60 (initA (move1 (· +k) X))::.own 60 2 v::H⟩) ?_ ?_
  ·refine Z1 ?_;rw[<-hX];refine Z6 ?_;refine cd (λh1=>?_) λh1=>?_
   ·obtain⟨x1,x2⟩:=X;simp only at h1;subst h1;have he:move1 (· +k) (3,x2)=(3,x2+k):=by rw[move1,if_pos rfl]
    refine Z8 ?_;rw[he];exact cj rfl
   ·have he:move1 (· +k) X=X:=by rw[move1,if_neg h1]
    refine Z1 ?_;rw[he];exact cj rfl
  ·rintro _ rfl;refine Z3 ?_;refine OL.popC (x:=.sl 2 [initA (move1 (· +k) X)]) rfl rfl rfl (POp.row rfl rfl Yh rfl rfl rfl rfl rfl rfl) ?_;refine OL.appendC rfl rfl rfl rfl rfl rfl rfl rfl (AVle.refl _) (rfl) (λv=>by repeat (first | exact Upd.head _ _ _ | apply Upd.tail)) YC YC (λv25=>?_);refine Z8 ?_;exact ag (⟨i+1,v25,by rw[hmt,mvs_snoc],rfl,hil⟩)
 ·obtain rfl:i=l.length:=by omega
  rw[List.take_length];refine Z12 ?_;refine Done.retR (rs:=[.tmp 4]) (H':=H) rfl (.tmp rfl (.nil)) (.cons (AVle.asL _ _) .nil) Yb ?_;exact⟨Yaw,rfl⟩
theorem part_cond(ok:Bool)(x:U8)(L:List Sec):(bif bif bif bif bif !ok then true else (x.val:Int) !=80 then true else (L.length:Int) !=1 then true else ((L.getD (Int.toNat 0) default).kind.val:Int) !=3 then true else (L.getD (Int.toNat 0) default).damaged then true else decide (((L.getD (Int.toNat 0) default).body.length:Int)<4))= !(ok && (decide (x=80) && decide (L.length=1) && kindOk L [3] 0 && decide (4<=(L.getD 0 default).body.length))):=by
 have e1:((x.val:Int) !=80)= !decide (x=80):=by
  rw[Bool.eq_iff_iff];simp only[bne_iff_ne,ne_eq,Bool.not_eq_true',decide_eq_false_iff_not,Fin.ext_iff];exact not_congr ⟨λh=>by have:(x.val:Int)=((80:Nat):Int):=h;exact Int.ofNat.inj this,λh=>by rw[h];rfl⟩
 have e2:((L.length:Int) !=1)= !decide (L.length=1):=by rw[Bool.eq_iff_iff];simp;omega
 have e4:decide (((L.getD (Int.toNat 0) default).body.length:Int)<4)= !decide (4<=(L.getD 0 default).body.length):=by
  rw[Bool.eq_iff_iff];simp only[decide_eq_true_eq,Bool.not_eq_true',decide_eq_false_iff_not];show (((L.getD 0 default).body.length:Nat):Int)<4↔_;omega
 rw[e1,e2,e4];simp only[Bool.cond_true_left];show _= !(_ && (_ && _ && ((((L.getD 0 default).kind.val:Int)==3) && !(L.getD 0 default).damaged) && _));show (((((!ok || _) || _) || (((L.getD 0 default).kind.val:Int) !=3)) || (L.getD 0 default).damaged) || _)=_;simp only[bne];generalize decide (x=80)=a;generalize decide (L.length=1)=b;generalize (((L.getD 0 default).kind.val:Int)==3)=c;generalize (L.getD 0 default).damaged=e;generalize decide (4<=(L.getD 0 default).body.length)=f;cases ok <;> cases a <;> cases b <;> cases c <;> cases e <;> cases f <;> rfl
theorem part_yes{x:U8}(hs:splitR b=some (x,L))(h:(decide (x=80) && decide (L.length=1) && kindOk L [3] 0 && decide (4<=(L.getD 0 default).body.length))=true):L.length=1/\4<=(L.getD 0 default).body.length/\part1R b=some ((L.getD 0 default).body.take 4,(L.getD 0 default).body.drop 4):=by
 rw[Bool.and_eq_true,Bool.and_eq_true,Bool.and_eq_true,decide_eq_true_eq,decide_eq_true_eq,decide_eq_true_eq] at h;obtain⟨⟨⟨h1,h2⟩,h3⟩,h4⟩:=h;refine⟨h2,h4,?_⟩;rw[part1R,bodies_yes (kinds:=[3]) hs ⟨h1,h2⟩ (by rw[h2];simpa using h3)]
 match L,h2 with
 | [a],_=>exact if_pos h4
theorem part_noR{x:U8}(hs:splitR b=some (x,L))(h:(decide (x=80) && decide (L.length=1) && kindOk L [3] 0 && decide (4<=(L.getD 0 default).body.length))=false):part1R b=none:=by
 by_cases h1:x=80/\L.length=([3]:List Int).length/\(List.range L.length).all (kindOk L [3])=true
 ·obtain⟨h2,h3,h4⟩:=h1;have h3:L.length=1:=h3;rw[part1R,bodies_yes (kinds:=[3]) hs ⟨h2,h3⟩ h4];rw[h3] at h4;have h5:kindOk L [3] 0=true:=by simpa using h4
  rw[decide_eq_true h2,decide_eq_true h3,h5] at h
  match L,h3 with
  | [a],_=>exact if_neg Yae
 ·have:bodiesR b 80 [3]=none:=by rw[bodiesR,hs];exact if_neg h1
  rw[part1R,this]
theorem part_guard{d g r:Bool}(hg:(!bif bif !d then true else !g then true else !r)=true):(g && r)=true:=by cases d <;> cases g <;> cases r <;> simp_all
theorem part_end{d g r e:Bool}:(bif bif bif !d then true else !g then true else !r then true else !e)= !(d && (g && r) && e):=by cases d <;> cases g <;> cases r <;> cases e <;> rfl
theorem part2_is{b body:List U8}{roots:List (Int×Int)}{more:List Th}{s2 s3:Unit}{j i3:Nat}{c b3:Bool}(TV:RTo (listR valR) () body 4 false roots s2 j c)(TO:RTo (listR (thR p)) s2 body j c more s3 i3 b3):part2R p b (body.drop 4)=if((!b3 && decide (i3=body.length)) && askedP p more roots && (b==partP p more roots))=true then some (roots,more) else none:=by
 cases hb:b3 with
 | true=>
  rw[if_neg Yx];unfold part2R;cases hc:c with
  | true=>
   rcases TV.no hc with e | e
   ·cases e
   ·rw[e]
  | false=>
   rw[(TV.go hc).2];simp only;rcases TO.no hb with e | e
   ·rw[hc] at e;cases e
   ·rw[e]
 | false=>
  obtain⟨e1,e2⟩:=TO.go hb;rw[part2R,(TV.go e1).2];simp only;rw[e2];simp only;by_cases hi:i3=body.length
  ·rw[(drop_nil TO.le).2 hi,decide_eq_true hi];simp only[Bool.not_false,Bool.true_and,Bool.and_eq_true,beq_iff_eq,true_and]
  ·rw[if_neg (λh=>hi ((drop_nil TO.le).1 h.1)),decide_eq_false hi,if_neg Yx]
theorem rProgSumP(hp:okP p):PCall Tryz.prog 96 [AV.prog p] (u8s (sumR 1 (progW p))):=by
 intro H;refine aC (n:=8) Tryz.func96 λB I w0=>?_;have hl1:=progW_len hp;refine Z8 ?_;refine OL.rowOwn (els:=[[u8 1]]) rfl rfl rfl rfl Yh rfl rfl rfl rfl rfl rfl rfl (λv3=>?_);refine Z1 ?_;refine oP (POp.call .k (rProgW hp)) ?_;refine OL.appendC rfl rfl rfl rfl rfl rfl rfl rfl (AVle.refl _) (one_map (λ_=>rfl) (progW p)) (λv=>by repeat (first | exact Upd.head _ _ _ | apply Upd.tail)) YC YC (λv6=>?_);refine oP (POp.callLe .k (.cons (AVle.asL _ _) .nil) (q154 1 (progW p) (1::progW p) rfl Yc)) ?_;refine Z4 ?_;refine r1 2 (H) ?_;exact⟨Yaw,rfl⟩
theorem load_step(hp:p.Small)(objs:List Th){b:List U8}{x:U8}{L:List Sec}{ok:Bool}(hl:b.length<=1048576)(hq:PCall Tryz.prog 78 [u8s b] (.tup [u8 x,pies L,.b ok]))(hs:ok=true->splitR b=some (x,L))(hns:ok=false->part1R b=none)(hbl:∀s∈L,s.body.length<=1048576):PCall Tryz.prog 31 [AV.prog p,AV.ths objs,u8s b] (loadA (loadR p objs b)):=by
 intro H;refine aC (n:=155) Tryz.func31 λB I w0=>?_;refine Z13 ?_;refine oP (POp.call .k (rGood hp objs)) ?_;refine Z3 ?_;refine CW.cond rfl (λh0=>?_) (λh0=>?_)
 ·have hc:checkP p objs=false:=by cases h:checkP p objs <;> simp_all
  refine Z9 ?_;refine Done.retR (rs:=[.tmp 6,.tmp 7,.tmp 8]) (H':=H) rfl (.tmp rfl (.tmp rfl (.tmp rfl (.nil)))) (.cons (AVle.nil 2) (.cons (AVle.nil 2) (.cons (.refl _) .nil))) Yb ?_;exact⟨by rw[loadR,if_neg (by rw[hc];simp)];rfl,rfl⟩
 ·have hc:checkP p objs=true:=by cases h:checkP p objs <;> simp_all
  obtain⟨hok,hol,hos⟩:=ok_of hc;have hz:(sizesP p).isSome=true:=by have h:=hc;simp only[checkP,Bool.and_eq_true] at h;exact h.1.1
  refine Z5 ?_;refine oP (POp.call .k (hq)) ?_;refine Z25 ?_;refine OL.guardC rfl rfl rfl rfl rfl rfl (λhg=>Yt) ?_;refine Z6 ?_;refine OL.guardC rfl rfl rfl rfl rfl rfl (λhg=>Yt) ?_;refine Z5 ?_;refine OL.guardC rfl rfl rfl rfl rfl rfl (λhg=>Yt) ?_;refine Z7 ?_;refine CW.cond rfl (λh1=>?_) (λh1=>?_)
  ·rw[part_cond,Bool.not_eq_true',Bool.and_eq_false_iff] at h1;have hno:part1R b=none:=by
    cases hok:ok with
    | false=>exact hns hok
    | true=>exact part_noR (hs hok) (h1.resolve_left (by rw[hok];simp))
   refine Z9 ?_;refine Done.retR (rs:=[.tmp 6,.tmp 7,.tmp 8]) (H':=H) rfl (.tmp rfl (.tmp rfl (.tmp rfl (.nil)))) (.cons (AVle.nil 2) (.cons (AVle.nil 2) (.cons (.refl _) .nil))) Yb ?_;exact⟨by rw[load_text1 hc hno];rfl,rfl⟩
  ·rw[part_cond,Bool.not_eq_false',Bool.and_eq_true] at h1;obtain⟨hL1,h4b,hP1⟩:=part_yes (hs h1.1) h1.2;obtain⟨B1,hB1⟩:∃x,x=(L.getD 0 default).body:=⟨_,rfl⟩;rw[<-hB1] at hP1 h4b;have hl1:B1.length<=1048576:=hB1▸hbl _ (getD_memB Yc);refine Z4 ?_;refine CW.dp mixed ?_;refine DP.anyC 0 7 155 rfl Ye rfl rfl Ye ?_;refine Z4 ?_;refine AD.popC rfl rfl rfl (POp.slTo rfl rfl YU rfl YU (by rw[Int.toNat_zero, <-hB1];omega)) ?_;refine Z1 ?_;refine AD.popC rfl rfl rfl (POp.call .k (rProgSumP hok)) ?_;refine Z2 ?_;refine oP (POp.call .k ((by have h:=sameB (B1.take 4) (sumR 1 (progW p));rw[hB1] at h;exact h))) ?_;refine Z3 ?_;refine CW.cond rfl (λh2=>?_) (λh2=>?_)
   ·have hne: ¬B1.take 4=sumR 1 (progW p):=by rw[hB1];simpa using h2
    refine Z9 ?_;refine Done.retR (rs:=[.tmp 6,.tmp 7,.tmp 8]) (H':=H) rfl (.tmp rfl (.tmp rfl (.tmp rfl (.nil)))) (.cons (AVle.nil 2) (.cons (AVle.nil 2) (.cons (.refl _) .nil))) Yb ?_;exact⟨by rw[load_rule hc hP1 hne];rfl,rfl⟩
   ·have heq:B1.take 4=sumR 1 (progW p):=by rw[hB1];simpa using h2
    have hv:=load_on hc hP1 heq;refine Z9 ?_;refine OL.boxC rfl rfl rfl rfl rfl rfl rfl (λrb=>?_);refine Z4 ?_;refine CW.eqH (H':=rr rb B1 4 false::H) (by rw[hB1];rfl) ?_;refine Z7 ?_;refine bC .k ((manyX () rb B1 4 false hl1 h4b _).b) ?_;rintro _ _ ⟨n,s1,i1,b1,rfl,rfl,q1,T1⟩;have L1:=T1.le;refine Z10 ?_;refine CW.ownNil 13 60 2 rfl ?_;refine CW.perm (List.Perm.swap _ _ _) ?_;refine lj (λm st=>∃(k:Nat) (out:List (Int×Int)) (s2:Unit) (j:Nat) (c:Bool) (vr:Value),st=⟨[(15,.i k),(14,.i n),(13,.as (AV.mvs out) vr),(12,.p rb 0),(3,.ptr (progC p)),(2,u8s b),(1,AV.ths objs)],rr rb B1 j c::.own 60 2 vr::H⟩/\m=n - k/\k<=n/\TTo valR n s1 B1 i1 b1 k out s2 j c) (⟨0,[],s1,i1,b1,_,rfl,rfl,Yc,.begin _ _ _ _ L1⟩) ?_;rintro m _ ⟨k,out,s2,j,c,vr,rfl,rfl,hk,hT⟩;refine Z15 ?_;refine CW.cond rfl (λh3=>?_) (λh3=>?_)
    ·obtain⟨hkn,rfl⟩:=go_on h3;replace hkn:k<n:=Int.ofNat_lt.1 (of_decide_eq_true hkn);have lenk:=hT.len;have hle:=hT.le;refine Z7 ?_;refine bC .k ((RG.x (q:=λ_=>True) (s:=s2) (valD rb B1 j false hl1 hle _) hle ROk.val trivial).b) ?_;rintro _ _ ⟨w,s3,i3,b3,rfl,rfl,_,T3⟩;refine OL.popC (x:=.sl 2 [initA w]) rfl rfl rfl (POp.row rfl rfl Yh rfl rfl rfl rfl rfl rfl) ?_;refine OL.appendC rfl rfl rfl rfl rfl rfl rfl rfl (AVle.refl _) (rfl) (λv=>by repeat (first | exact Upd.head _ _ _ | apply Upd.tail)) (YG) (YG) (λv95=>?_);refine Z9 ?_;exact ag (⟨k+1,out++[w],s3,i3,b3,v95,by rw[mvs_snoc],rfl,hkn,hT.step hkn T3⟩)
    ·have hst:=stop_at h3 hk;have hle:=hT.le;have TV:RTo (listR valR) () B1 4 false out s2 j c:=T1.bind (hT.fin hst);refine Z9 ?_;refine bC .k ((objsX s2 hp hz rb B1 j c hl1 hle _).b) ?_;rintro _ _ ⟨more,s3,i3,b3,rfl,rfl,_,TO⟩;refine Z5 ?_;have hP2:=part2_is (b:=b) TV TO;refine Z2 ?_;refine bC .k ((doneD rb B1 i3 b3 _).b) ?_;rintro _ _ ⟨rfl,rfl⟩;refine Z4 ?_;refine OL.guardC rfl rfl rfl rfl rfl rfl (λhg=>POp.call (.mk' rfl rfl rfl rfl Yd) (rGood hp more)) ?_;refine Z6 ?_;refine OL.guardC rfl rfl rfl rfl rfl rfl (λhg=>POp.callLe (.mk' rfl rfl rfl rfl Yd) (.cons (AVle.asL _ _) (.cons (.refl _) .nil)) (rRoots out more.length)) ?_;refine Z7 ?_;refine OL.guardC rfl rfl rfl rfl rfl rfl (λhg=>POp.callLe (.mk' rfl rfl rfl rfl Yd) (.cons (.refl _) (.cons (.refl _) (.cons (AVle.asL _ _) .nil))) (rPartOf (roots:=out) (ask_ok (part_guard hg)))) ?_;refine OL.guardC rfl rfl rfl rfl rfl rfl (λhg=>POp.call (.mk' rfl rfl rfl rfl Yd) (sameB b _)) ?_;refine Z4 ?_;refine CW.cond rfl (λh4=>?_) (λh4=>?_)
     ·rw[part_end,Bool.not_eq_true'] at h4;rw[if_neg (by rw[show askedP p more out=(checkP p more && rootedP more.length out) from rfl,h4];simp)] at hP2;rw[hP2] at hv;refine Z9 ?_;refine Done.retR (rs:=[.tmp 6,.tmp 7,.tmp 8]) (H':=H) rfl (.tmp rfl (.tmp rfl (.tmp rfl (.nil)))) (.cons (AVle.nil 2) (.cons (AVle.nil 2) (.cons (.refl _) .nil))) Yb ?_;exact⟨by rw[hv];rfl,rfl⟩
     ·rw[part_end,Bool.not_eq_false'] at h4;rw[if_pos (by rw[show askedP p more out=(checkP p more && rootedP more.length out) from rfl];exact h4)] at hP2;rw[hP2] at hv;simp only at hv;have hak:=part2_ok hP2;obtain⟨hml,hrl,hrv,hmv⟩:=asked_parts hak;have hmo:=(ask_ok hak).po.os;refine Z13 ?_;refine CW.cond rfl (λh5=>?_) (λh5=>?_)
      ·have h40: ¬objs.length+more.length<=40:=by simp at h5;omega
       refine Z9 ?_;refine Done.retR (rs:=[.tmp 6,.tmp 7,.tmp 8]) (H':=H) rfl (.tmp rfl (.tmp rfl (.tmp rfl (.nil)))) (.cons (AVle.nil 2) (.cons (AVle.nil 2) (.cons (.refl _) .nil))) Yb ?_;exact⟨by rw[hv,if_neg h40];rfl,rfl⟩
      ·have h40:objs.length+more.length<=40:=by simp at h5;omega
       rw[if_pos h40] at hv;refine Z5 ?_;refine bC .k ((rCopyT objs Yc (λt ht=>by have:=(hos t ht).vl;omega) _).b) ?_;rintro _ _ ⟨vt,rfl,rfl⟩;refine Z12 ?_;refine lj (λm st=>∃(i:Nat) (v:Value),st=⟨[(134,.i i),(133,.i more.length),(132,AV.ths more),(17,.as (AV.ths (objs++(more.take i).map (shiftT objs.length))) v),(13,.as (AV.mvs out) vr),(1,AV.ths objs)],.own 65 2 v::rr rb B1 i3 b3::.own 60 2 vr::H⟩/\m=more.length - i/\i<=more.length) (⟨0,vt,by rw[List.take_zero,List.map_nil,List.append_nil],rfl,Yc⟩) ?_;rintro m _ ⟨i,v,rfl,rfl,hi⟩;refine Z6 ?_;refine cd (λh6=>?_) λh6=>?_
       ·have hil:i<more.length:=by omega
        obtain⟨X,hX⟩:∃X,X=more.getD i default:=⟨_,rfl⟩;have hXm:X∈more:=hX▸getD_memB hil;have hXv:=(hmo X hXm).vl;refine Z8 ?_;refine OL.alC rfl rfl rfl rfl (λtb=>?_);refine Z3 ?_;rw[<-hX];refine CW.freezeP (d:=19) rfl Yl ?_;refine CW.dp mixed ?_;refine DP.anyC 0 10 155 rfl Ye rfl rfl Ye ?_;refine Z7 ?_;refine AD.popC rfl rfl rfl (POp.call .k (rShifted Yc (l:=X.slots) (λy hy=>okZ_of Yc (List.all_eq_true.1 (hmv X hXm) y hy)) Yc)) ?_;refine Z1 ?_;refine AD.popC rfl rfl rfl (POp.le (x:=.sl 2 [thA (shiftT objs.length X)]) (POp.row rfl rfl Yh rfl rfl rfl rfl rfl rfl) (AVle.refl _)) ?_;refine Z2 ?_;refine OL.appendC rfl rfl rfl rfl rfl rfl rfl rfl (AVle.refl _) (rfl) (λv=>by repeat (first | exact Upd.head _ _ _ | apply Upd.tail)) (YC) (YC) (λv148=>?_);refine Z8 ?_;exact ag (⟨i+1,v148,by rw[map_take1 _ hil, <-List.append_assoc,ths_snoc, <-hX],rfl,hil⟩)
       ·obtain rfl:i=more.length:=by omega
        rw[List.take_length];refine Z11 ?_;refine oP (POp.callLe .k (.cons (AVle.asL _ _) (.cons (.refl _) .nil)) (rShifted Yc (l:=out) (λy hy=>okZ_of Yc (List.all_eq_true.1 hrv y hy)) Yc)) ?_;refine Z6 ?_;refine Done.retR (rs:=[.tmp 6,.tmp 7,.tmp 8]) (H':=H) rfl (.tmp rfl (.tmp rfl (.tmp rfl (.nil)))) (.cons (AVle.asL _ _) (.cons (.refl _) (.cons (.refl _) .nil))) Yb ?_;exact⟨by rw[hv];rfl,rfl⟩
theorem rLoad(hp:p.Small)(objs:List Th)(b:List U8)(hl:b.length<=1048576):PCall Tryz.prog 31 [AV.prog p,AV.ths objs,u8s b] (loadA (loadR p objs b)):=by
 have h:=q78 b hl;rcases hs:splitR b with _ | ⟨x,L⟩
 ·rw[pieA,hs] at h;exact load_step hp objs (x:=0) (L:=[]) (ok:=false) hl h (λe=>Bool.noConfusion e) (λ_=>by rw[part1R,bodies_no1 hs]) (λs h=>by cases h)
 ·rw[pieA,hs] at h;exact load_step hp objs (ok:=true) hl h (λ_=>hs) (λe=>Bool.noConfusion e) (λs hm=>Nat.le_trans (split_body hs s hm) hl)
theorem loadA_tup(E:LoadE):loadA E= .tup [AV.ths (lo E),AV.mvs (lr E),.i (le_ E)]:=by cases E <;> rfl
theorem loadT(hp:p.Small)(objs:List Th)(b:List U8)(hl:b.length<=1048576):PCall Tryz.prog 30 [AV.prog p,AV.ths objs,u8s b] (.tup [AV.ths (lo (loadR p objs b)),AV.mvs (lr (loadR p objs b)),.i (le_ (loadR p objs b))]):=by
 rw[<-loadA_tup];exact loadC hp objs b hl
theorem rLoadT(hp:p.Small)(objs:List Th)(b:List U8)(hl:b.length<=1048576):PCall Tryz.prog 31 [AV.prog p,AV.ths objs,u8s b] (.tup [AV.ths (lo (loadR p objs b)),AV.mvs (lr (loadR p objs b)),.i (le_ (loadR p objs b))]):=by
 rw[<-loadA_tup];exact rLoad hp objs b hl
theorem loadsC{g:Gv}(hp:g.p.Small)(hl:g.bytes.length<=1048576):PCall Tryz.prog 7 [AV.given g] (.b true):=by
 intro H;refine aC (n:=47) Tryz.func7 λB I w0=>?_;refine Z14 ?_;refine oP (POp.call .k (loadT hp g.objs g.bytes hl)) ?_;refine Z17 ?_;refine oP (POp.call .k (rLoadT hp g.objs g.bytes hl)) ?_;refine Z17 ?_;refine OL.guardC rfl rfl rfl rfl rfl rfl (λhg=>POp.call (.mk' rfl rfl rfl rfl Yd) (sameT _)) ?_;refine Z4 ?_;refine OL.guardC rfl rfl rfl rfl rfl rfl (λhg=>POp.call (.mk' rfl rfl rfl rfl Yd) (sameV _ _)) ?_;refine Z2 ?_;refine OL.guardC rfl rfl rfl rfl rfl rfl (λhg=>POp.call .k (knownC)) ?_;refine Z5 ?_;refine r1 2 (H) ?_;exact⟨retB Yx,rfl⟩
end Go.Proofs.YtpgnjlngepfanaaGreat
