/- Part 11 of the proof: contracts of functions of the program and what they need. No condition beyond those that each theorem names. -/
import Derived.Test.YtpgnjlngepfanaaGreatImageNumbersP10
set_option maxHeartbeats 1000000
set_option linter.unusedVariables false
set_option linter.unusedSimpArgs false
set_option maxRecDepth 10000
namespace Go.Proofs.YtpgnjlngepfanaaGreat
open Go.Eng
open Go.Eng.Fc
open Go.Eng.Bd
variable{p:Prog}{fs:List AV}{q:Int×Int->Bool}
theorem checkB(hp:p.Small):PCall Tryz.prog 72 [AV.prog p] (.i (if(sizesP p).isSome then 0 else 2)):=by
 intro H;refine aC (n:=12) Tryz.func72 λB I w0=>?_;refine Z10 ?_;refine bC .k (sizesC hp H).b ?_;rintro y H1 ⟨e,⟨o,hs,rfl⟩ | ⟨hs,v,rfl⟩⟩
 ·replace e:=e.symm;subst e;refine Z13 ?_;refine CW.cond rfl (λh0=>?_) (λh0=>?_)
  ·simp at h0
  ·replace h0:=nm h0;refine Z8 ?_;refine r1 2 (H) ?_;exact⟨by rw[hs];rfl,rfl⟩
 ·replace e:=e.symm;subst e;refine Z13 ?_;refine CW.cond rfl (λh1=>?_) (λh1=>?_)
  ·replace h1:=nm h1;refine Z7 ?_;refine r1 2 (H) ?_;exact⟨by rw[hs];rfl,rfl⟩
  ·simp at h1
theorem ownB(hp:p.Small)(c:Int):PCall Tryz.prog 172 [AV.prog p,.i c] (.b (ownC p c)):=by
 intro H;refine aC (n:=20) Tryz.func172 λB I w0=>?_;have hpc:=hp.classes;refine Z20 ?_;refine OL.guardC rfl rfl rfl rfl rfl rfl (λhg=>POp.call (.mk' rfl rfl rfl rfl Yd) ((checkB hp))) ?_;refine Z6 ?_;refine r1 4 (H) ?_;exact⟨retB (by unfold ownC;rw[Bool.cond_false_right,Bool.cond_false_right,if_zero]),rfl⟩
theorem hasB(hp:p.Small)(c:Int):PCall Tryz.prog 105 [AV.prog p,.i c] (.tup [AV.ints (if ownC p c then hasP p c else []),.i (if ownC p c then 0 else 2)]):=by
 intro H;refine aC (n:=13) Tryz.func105 λB I w0=>?_;refine Z12 ?_;refine oP (POp.call .k ((ownB hp _))) ?_;refine Z3 ?_;refine cd (λh0=>?_) λh0=>?_
 ·refine Z8 ?_;refine Done.retR (rs:=[.tmp 4,.tmp 5]) (H':=H) rfl (.tmp rfl (.tmp rfl (.nil))) (.cons (AVle.nil 1) (.cons (.refl _) .nil)) Yc ?_;exact⟨by rw[show ownC p c=false by simpa using h0];rfl,rfl⟩
 ·refine Z3 ?_;have ho:ownC p c=true:=by simpa using h0
  obtain⟨hc3,hcl⟩:=own_parts ho;obtain⟨hc10,hcs⟩:=classes_small hcl
  ·refine Z3 ?_;refine oP (POp.call .k (hasC p Ya (λc h=>(hcs c h).2) (classes_keys hcl) (k:=c) Yax Ya)) ?_;refine Z5 ?_;refine rR [.tmp 4,.tmp 5] (H) ?_;exact⟨by rw[ho];rfl,rfl⟩
theorem valueC(x:Int×Int)(n:Int):PCall Tryz.prog 175 [AV.mv x,.i n] (.b (valueP n x)):=by
 intro H;refine aC (n:=33) Tryz.func175 λB I w0=>?_;refine Z20 ?_;refine cd (λh0=>?_) λh0=>?_
 ·refine Z16 ?_;refine r1 4 (H) ?_;exact⟨retB YaY,rfl⟩
 ·refine Z6 ?_;refine cd (λh1=>?_) λh1=>?_
  ·refine Z11 ?_;refine r1 4 (H) ?_;exact⟨retB YaY,rfl⟩
  ·refine Z6 ?_;refine cd (λh2=>?_) λh2=>?_
   ·refine Z17 ?_;refine r1 4 (H) ?_;exact⟨retB YaY,rfl⟩
   ·refine Z9 ?_;refine r1 4 (H) ?_;exact⟨retB YaY,rfl⟩
theorem values1(n:Int)(x:Int×Int):PCall Tryz.prog 174 [AV.mv x,.ptr [.i n]] (.b (!valueP n x)):=by
 intro H;refine aC (n:=8) Tryz.func174 λB I w0=>?_;refine Z10 ?_;refine oP (POp.call .k (valueC x n)) ?_;refine Z5 ?_;refine r1 3 (H) ?_;exact⟨Yg,rfl⟩
theorem idxMV{f:Fn}{fs cs:List AV}(hg:PredOk Tryz.prog (.fn f fs cs) AV.mv q)(l:List (Int×Int)):PCall Tryz.prog 102 [AV.mvs l,.fn f fs cs] (.i (idxG l q)):=by
 intro H;refine aC (n:=19) Tryz.func102 λB I w0=>?_;refine CW.boundM (t:=0) rfl (λhb0=>?_);refine Z14 ?_;refine lj (λm st=>∃k:Nat,st=⟨[(8,.i k),(7,.i l.length),(0,AV.mvs l),(1,.fn f fs cs)],H⟩/\m=l.length - k/\k<=l.length/\∀x∈l.take k,q x=false) (⟨0,rfl,rfl,Yr,Yr⟩) ?_;rintro m _ ⟨k,rfl,rfl,hk,hp⟩;refine Z6 ?_;refine cd (λh0=>?_) λh0=>?_
 ·have hkl:k<l.length:=by omega
  refine Z17 ?_;refine OL.vcallC rfl rfl rfl rfl rfl rfl rfl rfl (AVleL.refl _) (hg B _ _) ?_;rintro _ H1 ⟨rfl,e⟩;replace e:=e.symm;subst e;refine Z2 ?_;refine cd (λh1=>?_) λh1=>?_
  ·refine Z12 ?_;refine r1 4 (H) ?_;exact⟨retI (idxG_at hkl hp h1),rfl⟩
  ·refine Z7 ?_;exact ag (⟨k+1,rfl,rfl,hkl,λx hx=>by rw[<-take_getD hkl,List.mem_append,List.mem_singleton] at hx;rcases hx with hx | rfl;exact hp x hx;exact h1⟩)
 ·refine Z11 ?_;refine r1 4 (H) ?_;exact⟨retI (idxG_none Yag),rfl⟩
theorem hasMV{f:Fn}{fs cs:List AV}(hg:PredOk Tryz.prog (.fn f fs cs) AV.mv q)(l:List (Int×Int)):PCall Tryz.prog 36 [AV.mvs l,.fn f fs cs] (.b (l.any q)):=by
 intro H;refine aC (n:=9) Tryz.func36 λB I w0=>?_;refine Z9 ?_;refine oP (POp.call .k (idxMV hg l)) ?_;refine Z5 ?_;refine r1 4 (H) ?_;exact⟨retB (idxG_any _ _),rfl⟩
theorem valuesC(l:List (Int×Int))(n:Int):PCall Tryz.prog 106 [AV.mvs l,.i n] (.b (l.all (valueP n))):=by
 intro H;refine aC (n:=9) Tryz.func106 λB I w0=>?_;refine Z10 ?_;refine oP (POp.call .k (hasMV (.of (values1 n)) l)) ?_;refine Z5 ?_;refine r1 4 (H) ?_;exact⟨retB (all_valueP n l),rfl⟩
theorem meanCheck(hp:p.Small)(objs:List Th):PCall Tryz.prog 45 [AV.prog p,AV.ths objs] (.i (if checkP p objs then 0 else 2)):=by
 intro H;refine aC (n:=49) Tryz.func45 λB I w0=>?_;refine CW.boundM (t:=1) rfl (λhb1=>?_);refine Z10 ?_;refine oP (POp.call .k (checkB hp)) ?_;refine Z8 ?_;refine cd (λh0=>?_) λh0=>?_
 ·have hno:checkP p objs=false:=by
   unfold checkP;cases hs:(sizesP p).isSome with
   | false=>rfl
   | true=>rw[hs] at h0;simp at h0;rw[show decide (objs.length<=40)=false by simp;omega];rfl
  refine Z7 ?_;refine r1 4 (H) ?_;exact⟨Ybj,rfl⟩
 ·have hs:(sizesP p).isSome=true/\objs.length<=40:=by
   cases hs:(sizesP p).isSome with
   | false=>rw[hs] at h0;simp at h0
   | true=>rw[hs] at h0;simp at h0;exact⟨rfl,Ya⟩
  refine Z11 ?_;refine lj (λm st=>∃i:Nat,st=⟨[(19,.i i),(18,.i objs.length),(17,AV.ths objs),(2,.ptr (progC p)),(1,AV.ths objs)],H⟩/\m=objs.length - i/\i<=objs.length/\(objs.take i).all (thingP p objs.length)=true) (⟨0,rfl,rfl,Ya,rfl⟩) ?_;rintro m _ ⟨i,rfl,rfl,hi,hA⟩;refine Z6 ?_;refine cd (λh1=>?_) λh1=>?_
  ·have hil:i<objs.length:=by omega
   obtain⟨T,hT⟩:∃T,T=objs.getD i default:=⟨_,rfl⟩;refine Z8 ?_;refine OL.alC rfl rfl rfl rfl (λb0=>?_);refine Z4 ?_;rw[<-hT];refine Z4 ?_;refine oP (POp.call .k (hasB hp T.cls)) ?_;refine Z8 ?_;refine CW.freezeP (d:=6) rfl Yl ?_;refine Z16 ?_;refine OL.guardC rfl rfl rfl rfl rfl rfl (λhg=>POp.call (.mk' rfl rfl rfl rfl Yd) (valuesC T.slots objs.length)) ?_;refine Z4 ?_;have hth:thingP p objs.length T= !(bif bif (if ownC p T.cls then (0:Int) else 2) !=0 then true else ((if ownC p T.cls then hasP p T.cls else []).length:Int) !=(T.slots.length:Int) then true else !T.slots.all (valueP objs.length)):=thing_eq p _ T;refine CW.cond rfl (λh2=>?_) (λh2=>?_)
   ·rw[h2] at hth;refine Z11 ?_;refine r1 4 (H) ?_;exact⟨by rw[chk_no hil (by rw[<-hT,hth];rfl)];rfl,rfl⟩
   ·rw[h2] at hth;refine Z7 ?_;exact ag (⟨i+1,rfl,rfl,hil,chk_step hil hA (by rw[<-hT,hth];rfl)⟩)
  ·obtain rfl:i=objs.length:=by omega
   rw[List.take_length] at hA;refine Z11 ?_;refine r1 4 (H) ?_;exact⟨by unfold checkP;rw[hs.1,decide_eq_true hs.2,hA];rfl,rfl⟩
end Go.Proofs.YtpgnjlngepfanaaGreat

namespace Go.Eng.Bd
open Go.Eng.Fc
def lostP(l:List Int)(v:Int×Int):Bool:=decide (v.1=3) && !(l.contains v.2)
def holdsP(l:List Int)(vals:List (Int×Int)):Bool:=!(vals.any (lostP l))
def fromP(objs:List Th)(roots:List (Int×Int))(l:List Int)(j:Nat)(n:Int):Bool:=roots.contains (3,n) || (l.take j).any λm=>(thOf objs m).slots.contains (3,n)
structure ReachLaw(objs:List Th)(roots:List (Int×Int))(L:List Int):Prop where
 rts:holdsP L roots=true
 len:L.length<=objs.length
 in_:∀k,k<L.length->0<=L.getD k default/\L.getD k default<objs.length
 new:∀k,k<L.length->(L.take k).contains (L.getD k default)=false
 sls:∀k,k<L.length->holdsP L (thOf objs (L.getD k default)).slots=true
 from_:∀k,k<L.length->fromP objs roots L k (L.getD k default)=true
end Go.Eng.Bd

namespace Go.Proofs.YtpgnjlngepfanaaGreat
open Go.Eng
open Go.Eng.Fc
open Go.Eng.Bd
variable{p:Prog}{objs:List Th}{roots:List (Int×Int)}{l:List Int}{v:Int×Int}
theorem valueI(x:Int×Int)(n:Int):PCall Tryz.prog 166 [AV.mv x,.i n] (.b (valueP n x)):=by
 intro H;refine aC (n:=36) Tryz.func166 λB I w0=>?_;refine Z20 ?_;refine cd (λh0=>?_) λh0=>?_
 ·refine Z16 ?_;refine r1 4 (H) ?_;exact⟨retB YaY,rfl⟩
 ·refine Z6 ?_;refine cd (λh1=>?_) λh1=>?_
  ·refine Z11 ?_;refine r1 4 (H) ?_;exact⟨retB YaY,rfl⟩
  ·refine Z23 ?_;refine r1 4 (H) ?_;exact⟨retB (by unfold valueP inP;simp_all;rw[Bool.and_assoc];rfl),rfl⟩
theorem rooted1(n:Int)(x:Int×Int):PCall Tryz.prog 165 [AV.mv x,.ptr [.i n]] (.b (!valueP n x)):=by
 intro H;refine aC (n:=8) Tryz.func165 λB I w0=>?_;refine Z10 ?_;refine oP (POp.call .k (valueI x n)) ?_;refine Z5 ?_;refine r1 3 (H) ?_;exact⟨Yg,rfl⟩
def rootedP(n:Int)(l:List (Int×Int)):Bool:=decide (l.length<=20) && l.all (valueP n)
def askedP(p:Prog)(objs:List Th)(roots:List (Int×Int)):Bool:=checkP p objs && rootedP objs.length roots
def reachQ(p:Prog)(objs:List Th)(roots:List (Int×Int)):List Int:=if askedP p objs roots then reachP objs roots else []
theorem rooted_eq(n:Int)(l:List (Int×Int)):(bif decide ((l.length:Int)<=20) then !(l.any λx=>!valueP n x) else false)=rootedP n l:=by
 rw[all_valueP,rootedP,Bool.cond_false_right];congr 1;rw[decide_eq_decide];omega
theorem asked_eq(p:Prog)(objs:List Th)(roots:List (Int×Int)):(bif ((if checkP p objs then (0:Int) else 2)==0) then rootedP objs.length roots else false)=askedP p objs roots:=by
 rw[if_zero,Bool.cond_false_right];rfl
theorem asked_parts(h:askedP p objs roots=true):objs.length<=40/\roots.length<=20/\roots.all (valueP objs.length)=true/\∀t∈objs,t.slots.all (valueP objs.length)=true:=by
 simp only[askedP,rootedP,checkP,Bool.and_eq_true,decide_eq_true_eq] at h;refine⟨h.1.1.2,h.2.1,h.2.2,λt ht=>?_⟩;have:=List.all_eq_true.1 h.1.2 t ht;simp only[thingP,Bool.and_eq_true] at this;exact this.2
theorem rootedC(l:List (Int×Int))(n:Int):PCall Tryz.prog 92 [AV.mvs l,.i n] (.b (rootedP n l)):=by
 intro H;refine aC (n:=14) Tryz.func92 λB I w0=>?_;refine Z14 ?_;refine OL.guardC rfl rfl rfl rfl rfl rfl (λhg=>POp.call (.mk' rfl rfl rfl rfl Yd) (hasMV (.of (rooted1 n)) l)) ?_;refine Z6 ?_;refine r1 4 (H) ?_;exact⟨retB (rooted_eq n l),rfl⟩
theorem askedC(hp:p.Small)(objs:List Th)(roots:List (Int×Int)):PCall Tryz.prog 79 [AV.prog p,AV.ths objs,AV.mvs roots] (.b (askedP p objs roots)):=by
 intro H;refine aC (n:=17) Tryz.func79 λB I w0=>?_;refine Z10 ?_;refine oP (POp.call .k (meanCheck hp objs)) ?_;refine Z5 ?_;refine OL.guardC rfl rfl rfl rfl rfl rfl (λhg=>POp.call (.mk' rfl rfl rfl rfl Yd) (rootedC roots objs.length)) ?_;refine Z5 ?_;refine r1 6 (H) ?_;exact⟨retB (asked_eq p objs roots),rfl⟩
instance:HasMapI Tryz.prog 121 (3,3):=⟨Yf,Yf⟩
instance:HasZ Tryz.prog 3 (.int .i64 0):=⟨Yf⟩
instance:HasEq Tryz.prog 60 2:=⟨Yf⟩
abbrev routeE(xb mb:Nat)(v:Value)(l:List Int)(m:List (Int×AV))(H:List Ent):List Ent:=.own 3 1 v::.blk xb 123 [.as (AV.ints l) v,.val (.map (some mb))]::imapE mb m::H
theorem lookM_le{m:List (Int×AV)}(h:MapAt m l)(k:Int):AVle (.tup [(getI m k).getD (.val (.int .i64 0)),.b (getI m k).isSome]) (.tup [.i (if k∈l then idxB l k else 0),.b (l.contains k)]):=by
 rw[h.has,h.get];split <;> exact AVle.refl _
theorem meet_step{vals:List (Int×Int)}{i:Nat}(hi:i<vals.length)(l:List Int):meetP (vals.take (i+1)) l=meet1 (meetP (vals.take i) l) (vals.getD i default):=by rw[<-take_getD hi,meetP_snoc]
theorem meet1_new(h3:v.1=3)(hn:l.contains v.2=false):meet1 l v=l++[v.2]:=by rw[meet1,if_pos ⟨h3,by simpa using hn⟩]
theorem meet1_old(h:v.1≠3\/l.contains v.2=true):meet1 l v=l:=by rw[meet1,if_neg];rintro⟨h1,h2⟩;rcases h with h | h;exact h h1;exact h2 (List.contains_iff_mem.1 h)
theorem meet_if{a b:Bool}(h:(bif a then !b else false)=true):a=true/\b=false:=by cases a <;> cases b <;> simp_all
theorem meet_not{a b:Bool}(h:(bif a then !b else false)=false):a=false\/b=true:=by cases a <;> cases b <;> simp_all
theorem meetC{n:Nat}(hn:n<=1000000){vals:List (Int×Int)}(hv:vals.all (valueP n)=true){l0:List Int}(hl0:RouteOk n l0){m0:List (Int×AV)}(hM0:MapAt m0 l0)(xb mb:Nat)(v0:Value)(H:List Ent):
  ACall Tryz.prog 155 [.p xb 0,AV.mvs vals] (routeE xb mb v0 l0 m0 H) (λ_ H'=>∃m' v',MapAt m' (meetP vals l0)/\H'=routeE xb mb v' (meetP vals l0) m' H) (λ_ _=>False):=by
 refine aC (n:=54) Tryz.func155 λB I w0=>?_;refine CW.boundM (t:=1) rfl (λhb1=>?_);refine Z8 ?_;refine lj (λm st=>∃(i:Nat) (l:List Int) (m':List (Int×AV)) (v:Value),st=⟨[(10,.i i),(9,.i vals.length),(8,AV.mvs vals),(0,.p xb 0)],routeE xb mb v l m' H⟩/\m=vals.length - i/\i<=vals.length/\l=meetP (vals.take i) l0/\MapAt m' l/\RouteOk n l) (⟨0,l0,m0,v0,rfl,rfl,Ya,rfl,hM0,hl0⟩) ?_;rintro m _ ⟨i,l,m',v,rfl,rfl,hi,hl,hM,hR⟩;refine Z6 ?_;refine cd (λh0=>?_) λh0=>?_
 ·have hil:i<vals.length:=by omega
  obtain⟨X,hX⟩:∃X,X=vals.getD i default:=⟨_,rfl⟩;have hXv:valueP n X=true:=List.all_eq_true.1 hv X (hX▸getD_memB hil);have hXk:smallKey X.2:=by have:=valueP_key hn hXv;unfold smallKey;omega
  have hst:=meet_step hil l0;rw[<-hX, <-hl] at hst;have hRl:=hR.len;refine Z8 ?_;refine OL.alC rfl rfl rfl rfl (λb0=>?_);refine Z4 ?_;rw[<-hX];refine CW.freezeP (d:=5) rfl Yl ?_;refine CW.dp mixed ?_;refine DP.anyC 0 6 54 rfl Ye rfl rfl Ye ?_;refine Z8 ?_;refine oP (POp.le (POp.lookupI2 rfl rfl rfl rfl rfl (.tail _ (.tail _ (.head _))) hM.ok hXk) (lookM_le hM X.2)) ?_;refine Z6 ?_;refine DP.anyC 8 11 54 rfl Ye rfl rfl Ye ?_;refine Z19 ?_;refine CW.cond rfl (λh1=>?_) (λh1=>?_)
  ·obtain⟨h3,h4⟩:=meet_if h1;rw[beq_iff_eq] at h3;rw[meet1_new h3 h4] at hst;have hRn:=meet1_ok hR hXv;rw[meet1_new h3 h4] at hRn;have hnm: ¬X.2∈l:=by simpa using h4
   refine Z1 ?_;refine CW.dp mixed ?_;refine DP.anyC 0 11 54 rfl Ye rfl rfl Ye ?_;refine Z13 ?_;refine OL.mapPut (u':=.i l.length) rfl rfl (.inl rfl) rfl rfl rfl rfl rfl rfl (AVle.eqI (by rw[List.length_map])) (.tail _ _ _ _ _ (.tail _ _ _ _ _ (.head _ _ _))) hM.ok hXk ?_;refine Z2 ?_;refine CW.dp mixed ?_;refine DP.anyK (X:=noX) [⟨8,50,false⟩] (λJ=>match J with | [some v2]=>.own 3 1 v2::.blk xb 123 [.as (AV.ints l) v,.val (.map (some mb))]::imapE mb (putI m' X.2 (.i l.length))::H | _=>routeE xb mb v l (putI m' X.2 (.i l.length)) H) (λq J=>match q,J with | 0,[some v2]=>.as (.sl 1 ((l.map λn=>[AV.i n])++[[AV.i X.2]])) v2 | _,_=>.any) 0 9 54 rfl Ye Ye rfl rfl Ye rfl (λ_ _ _ _ _ _ _ _ _ h=>h.elim) ?_;refine UD.popK [[true],[false]] rfl Ye rfl rfl rfl ⟨λf=>POp.move rfl rfl rfl,λf=>POp.move rfl rfl rfl,trivial⟩ ?_;refine UD.popK [[false]] rfl Ye rfl rfl rfl ⟨λf=>POp.move rfl rfl rfl,trivial⟩ ?_;refine UD.popK [[false]] rfl Ye rfl rfl rfl ⟨λf=>YA,trivial⟩ ?_;refine UD.popK [[false]] rfl Ye rfl rfl rfl ⟨λf=>Yj,trivial⟩ ?_;refine UD.popK [[false]] rfl Ye rfl rfl rfl ⟨λf=>Yb,trivial⟩ ?_;refine UD.popK [[false]] rfl Ye rfl rfl rfl ⟨λf=>Yj,trivial⟩ ?_;refine UD.popK [[false]] rfl Ye rfl rfl rfl ⟨λf=>Yb,trivial⟩ ?_;refine UD.popK [[false]] rfl Ye rfl rfl rfl ⟨λf=>POp.row rfl rfl Yh rfl rfl rfl rfl rfl rfl,trivial⟩ ?_;refine UD.effK 0 [[false]] rfl rfl rfl Ye rfl rfl rfl ⟨λf=>⟨KOk.own (news:=[[AV.i X.2]]) rfl rfl rfl (AVle.refl _) rfl rfl (AVle.refl _) rfl Yw Yw (λ_=>.head _ _ _) (λ_=>rfl),Yn⟩,trivial⟩ ?_;refine UD.nil (λf=>?_);simp only[kvals,List.map_cons,List.map_nil,List.cons_append,List.nil_append];refine Z11 ?_;rw[show (AV.sl 1 ((l.map λn=>[AV.i n])++[[AV.i X.2]]))=AV.ints (l++[X.2]) from by show _=AV.sl 1 (List.map _ (_++_));rw[List.map_append];rfl];exact ag ⟨i+1,l++[X.2],_,f 50,rfl,rfl,hil,hst.symm,hM.put hXk hnm,hRn⟩
  ·have hso:meet1 l X=l:=meet1_old ((meet_not h1).imp Yr id);rw[hso] at hst;refine Z7 ?_;exact ag (⟨i+1,l,m',v,rfl,rfl,hil,hst.symm,hM,hR⟩)
 ·obtain rfl:i=vals.length:=by omega
  rw[List.take_length] at hl;subst hl;refine Z4 ?_;refine nR [] (routeE xb mb v (meetP vals l0) m' H) ?_;exact⟨m',v,hM,rfl⟩
theorem reachC(hn:objs.length<=40)(hr:roots.all (valueP objs.length)=true)(hv:∀t∈objs,t.slots.all (valueP objs.length)=true)(H:List Ent):
  ACall Tryz.prog 80 [AV.ths objs,AV.mvs roots] H (λy H'=>∃xb mb v m,y= .p xb 0/\MapAt m (reachP objs roots)/\H'=routeE xb mb v (reachP objs roots) m H) (λ_ _=>False):=by
 refine aC (n:=36) Tryz.func80 λB I w0=>?_;refine Z7 ?_;refine OL.mkMap rfl rfl rfl rfl (λmb=>?_);refine Z1 ?_;refine OL.boxC rfl rfl rfl rfl rfl rfl rfl (λxb=>?_);refine Z4 ?_;refine CW.ownNilB (b:=xb) (t:=123) 3 1 0 YC rfl rfl ?_;refine Z3 ?_;refine bC .k ((meetC (n:=objs.length) Ya hr (.nil _) MapAt.nil xb mb _ H).b) ?_;rintro y H1 ⟨m1,v1,hM1,rfl⟩;refine Z9 ?_;refine lj (λk st=>∃(i:Nat) (l:List Int) (m:List (Int×AV)) (v:Value),st=⟨[(6,.i i),(5,.p xb 0),(0,AV.ths objs)],routeE xb mb v l m H⟩/\k=objs.length - i/\i<=l.length/\MapAt m l/\Reached objs roots i l/\reachN objs (objs.length+1 - i) i l=reachP objs roots) (⟨0,_,m1,v1,rfl,rfl,Ya,hM1,.begin hr,rfl⟩) ?_;rintro k _ ⟨i,l,m,v,rfl,rfl,hi,hM,hR,hN⟩;have hll:=hR.ok.len;refine Z12 ?_;refine cd (λh0=>?_) λh0=>?_
 ·rw[List.length_map] at h0;have hil:i<l.length:=by omega
  obtain⟨n,hn'⟩:∃n,n=l.getD i default:=⟨_,rfl⟩;have hni:=hR.ok.in_ n (hn'▸getD_memB hil);have hTv:(thOf objs n).slots.all (valueP objs.length)=true:=hv _ (getD_memB Ya);have hst:=hR.step hv hil;rw[<-hn'] at hst;rw[show objs.length+1 - i=objs.length+1 - (i+1)+1 by omega,reachN,if_pos hil, <-hn'] at hN;refine Z12 ?_;refine oP (POp.leC 27 rfl (AVle.asL _ _) (POp.ixI rfl rfl rfl rfl rfl Ya)) ?_;refine Z1 ?_;refine OL.le 30 (y:=.i n) rfl (AVle.eqI hn'.symm) ?_;refine Z3 ?_;refine bC .k ((meetC (n:=objs.length) Ya hTv hR.ok hM xb mb v H).b) ?_;rintro y H1 ⟨m',v',hM',rfl⟩;refine Z8 ?_;exact ag (⟨i+1,meetP (thOf objs n).slots l,m',v',rfl,rfl,by have:=(meetP_pre (thOf objs n).slots l).length_le;omega,hM',hst,hN⟩)
 ·rw[List.length_map] at h0;obtain rfl:i=l.length:=by omega
  rw[show objs.length+1 - l.length=objs.length - l.length+1 by omega,reachN,if_neg Ya] at hN;subst hN;refine Z12 ?_;refine r1 4 (routeE xb mb v (reachP objs roots) m H) ?_;exact⟨xb,mb,v,m,rfl,hM,rfl⟩
theorem reachI(hp:p.Small)(objs:List Th)(roots:List (Int×Int)):PCall Tryz.prog 26 [AV.prog p,AV.ths objs,AV.mvs roots] (.tup [AV.ints (reachQ p objs roots),.i (if askedP p objs roots then 0 else 2)]):=by
 intro H;refine aC (n:=19) Tryz.func26 λB I w0=>?_;refine Z13 ?_;refine oP (POp.call .k (askedC hp objs roots)) ?_;refine Z3 ?_;refine CW.cond rfl (λh0=>?_) (λh0=>?_)
 ·have ha:askedP p objs roots=false:=by simpa using h0
  refine Z8 ?_;refine Done.retR (rs:=[.tmp 6,.tmp 7]) (H':=H) rfl (.tmp rfl (.tmp rfl (.nil))) (.cons (AVle.nil 1) (.cons (.refl _) .nil)) Yc ?_;exact⟨by rw[reachQ,ha];rfl,rfl⟩
 ·have ha:askedP p objs roots=true:=by simpa using h0
  obtain⟨h1,h2,h3,h4⟩:=asked_parts ha;refine Z6 ?_;refine bC .k ((reachC h1 h3 h4 H).b) ?_;rintro y H1 ⟨xb,mb,v,m,rfl,hM,rfl⟩;refine Z8 ?_;refine Done.retR (rs:=[.tmp 6,.tmp 7]) (H':=H) rfl (.tmp rfl (.tmp rfl (.nil))) (.cons (AVle.asL _ _) (.cons (.refl _) .nil)) Yc ?_;exact⟨by rw[reachQ,ha];rfl,rfl⟩
theorem eq2(x y:Int×Int):([x.1,x.2]== [y.1,y.2])=(x==y):=by
 rw[Bool.eq_iff_iff,beq_iff_eq,beq_iff_eq,Prod.ext_iff];simp
theorem objI(n:Int):PCall Tryz.prog 40 [.i n] (AV.mv (3,n)):=by
 intro H;refine aC (n:=5) Tryz.func40 λB I w0=>?_;refine Z2 ?_;refine OL.alC rfl rfl rfl rfl (λb0=>?_);refine Z10 ?_;refine rR [.cell 2 60] (H) ?_;exact⟨Yg,rfl⟩
end Go.Proofs.YtpgnjlngepfanaaGreat

namespace Go.Eng.Bd
open Go.Eng.Fc
open Go.Eng.Im (U8 sumR)
variable{α:Type}
def numN:Nat->Nat->List U8
 | 0,n=>[Im.byteOf n]
 | f+1,n=>if n<128 then [Im.byteOf n] else Im.byteOf (n%128+128)::numN f (n / 128)
def numW(n:Nat):List U8:=numN n n
theorem numN_eq:∀(f g n:Nat),n<=f->n<=g->numN f n=numN g n
 | 0,0,n,_,_=>rfl
 | 0,g+1,n,h1,_=>by rw[numN,numN,if_pos Ya]
 | f+1,0,n,_,h2=>by rw[numN,numN,if_pos Ya]
 | f+1,g+1,n,h1,h2=>by
  rw[numN,numN];split
  ·rfl
  ·rw[numN_eq f g (n / 128) Ya Ya]
theorem numW_lt{n:Nat}(h:n<128):numW n= [Im.byteOf n]:=by
 unfold numW;cases n with
 | zero=>rfl
 | succ m=>rw[numN,if_pos h]
theorem numW_ge{n:Nat}(h: ¬n<128):numW n=Im.byteOf (n%128+128)::numW (n / 128):=by
 unfold numW;cases n with
 | zero=>omega
 | succ m=>rw[numN,if_neg h,numN_eq m ((m+1) / 128) _ Ya Ya]
theorem numW_len:∀(k n:Nat),n<128^(k+1)->(numW n).length<=k+1
 | 0,n,h=>by rw[numW_lt Y5];simp
 | k+1,n,h=>by
  by_cases hn:n<128
  ·rw[numW_lt hn];simp
  ·rw[numW_ge hn,List.length_cons];have:=numW_len k (n / 128) (by rw[Nat.pow_succ] at h;omega);omega
theorem numW_pos(n:Nat):0<(numW n).length:=by
 by_cases hn:n<128
 ·rw[numW_lt hn];simp
 ·rw[numW_ge hn];simp
def numI(n:Int):List U8:=numW n.toNat
def intW(n:Int):List U8:=numI (if n<0 then -2*n - 1 else 2*n)
def listW(f:α->List U8)(l:List α):List U8:=numW l.length++l.flatMap f
def initW(x:Int×Int):List U8:=numI x.1++intW x.2
def clsW(c:Cls):List U8:=listW numI c.parents++numW c.slots.length++listW initW c.inits
def leafW(op arg:Int)(path:List Int)(cls n:Int):List U8:=if op=2 then numI arg++listW numI path++numI cls else if op=3\/op=4 then numI arg++listW numI path++intW n else []
mutual
def factW:Fact->List U8
 | .mk op arg path cls n kids=>numI op++leafW op arg path cls n++factsW kids
def factsW:List Fact->List U8
 | []=>[]
 | f::r=>factW f++factsW r
end
theorem factsW_map:∀l:List Fact,factsW l=l.flatMap factW
 | []=>by rw[factsW];rfl
 | f::r=>by rw[factsW,factsW_map r,List.flatMap_cons]
theorem factW_eq(f:Fact):factW f=numI f.op++leafW f.op f.arg f.path f.cls f.n++f.kids.flatMap factW:=by
 cases f;rw[factW,factsW_map];rfl
mutual
def cntN:Fact->Nat
 | .mk _ _ _ _ _ kids=>1+cntNs kids
def cntNs:List Fact->Nat
 | []=>0
 | f::r=>cntN f+cntNs r
end
def mthW(m:Mth):List U8:=numI m.kind++numI m.gen++factW m.fact++numI m.node
def nodeNum(op:Int):Bool:=[3,4,5,6,7,8].contains op
def ndN(x:Nd):List U8:=if x.op=1 then intW x.n else if nodeNum x.op then numI x.n else []
def ndW(x:Nd):List U8:=numI x.op++ndN x++x.kids.flatMap numI
def progW(p:Prog):List U8:=listW clsW p.classes++listW numI p.gens++listW mthW p.methods++listW ndW p.nodes++numI p.main
def valW(v:Int×Int):List U8:=numI v.1++(if v.1=1 then intW v.2 else if v.1=3 then numI v.2 else [])
def thW(t:Th):List U8:=numI t.cls++t.slots.flatMap valW
def secW(k:U8)(b:List U8):List U8:=[k]++numW b.length++b++sumR k b
def okN(n:Int):Prop:=0<=n/\n<=30000000000
def okZ(n:Int):Prop:=-10000000000<=n/\n<=10000000000
structure okC(c:Cls):Prop where
 ps:∀x∈c.parents,okN x
 pl:c.parents.length<=3
 sl:c.slots.length<=4
 il:c.inits.length<=40
 is:∀x∈c.inits,okN x.1/\okZ x.2
mutual
def okF:Fact->Prop
 | .mk op arg path cls n kids=>okN op/\(op=2->okN cls)/\(op=3\/op=4->okZ n)/\(2<=op/\op<=4->okN arg/\path.length<=2/\∀x∈path,okN x)/\okFs kids
def okFs:List Fact->Prop
 | []=>True
 | f::r=>okF f/\okFs r
end
theorem okFs_all:∀{l:List Fact},okFs l->∀f∈l,okF f
 | [],_,f,h=>by cases h
 | g::r,h,f,hf=>by
  rw[okFs] at h;rcases List.mem_cons.1 hf with rfl | hf
  ·exact h.1
  ·exact okFs_all h.2 f hf
structure okF1(f:Fact):Prop where
 op:okN f.op
 cls:f.op=2->okN f.cls
 n:f.op=3\/f.op=4->okZ f.n
 at_:2<=f.op/\f.op<=4->okN f.arg/\f.path.length<=2/\∀x∈f.path,okN x
 kids:∀k∈f.kids,okF k
theorem okF_iff{f:Fact}(h:okF f):okF1 f:=by
 cases f;rw[okF] at h;exact⟨h.1,h.2.1,h.2.2.1,h.2.2.2.1,okFs_all h.2.2.2.2⟩
structure okM(m:Mth):Prop where
 kind:okN m.kind
 gen:okN m.gen
 node:okN m.node
 fact:okF m.fact
 nodes:cntN m.fact<=24
structure okNd(x:Nd):Prop where
 op:okN x.op
 i:x.op=1->okZ x.n
 n:nodeNum x.op=true->okN x.n
 kids:∀k∈x.kids,okN k
 kl:x.kids.length<=3
structure okP(p:Prog):Prop where
 cs:∀c∈p.classes,okC c
 cl:p.classes.length<=10
 gs:∀g∈p.gens,okN g
 gl:p.gens.length<=8
 ms:∀m∈p.methods,okM m
 ml:p.methods.length<=16
 ns:∀x∈p.nodes,okNd x
 nl:p.nodes.length<=120
 main:okN p.main
structure okVal(v:Int×Int):Prop where
 k:okN v.1
 i:v.1=1->okZ v.2
 n:v.1=3->okN v.2
structure okT(t:Th):Prop where
 cls:okN t.cls
 vs:∀v∈t.slots,okVal v
 vl:t.slots.length<=40
theorem numI_len{n:Int}(h:okN n):(numI n).length<=6:=numW_len 5 _ (by have:=h.2;omega)
theorem intW_len{n:Int}(h:okZ n):(intW n).length<=6:=numW_len 5 _ (by have:=h.1;have:=h.2;split <;> omega)
theorem flat_len{α:Type}{f:α->List U8}{M:Nat}:∀{l:List α},(∀x∈l,(f x).length<=M)->(l.flatMap f).length<=M*l.length
 | [],h=>by simp
 | x::r,h=>by
  rw[List.flatMap_cons,List.length_append,List.length_cons,Nat.mul_succ];have:=h x (.head _);have:=flat_len (l:=r) λy hy=>h y (.tail _ hy);omega
theorem listW_len{f:α->List U8}{M K:Nat}{l:List α}(h:∀x∈l,(f x).length<=M)(hl:l.length<=K)(hK:K<=1000000000000):(listW f l).length<=6+M*K:=by
 rw[listW,List.length_append];have h1:=numW_len 5 l.length Ya;have h2:=flat_len h;have h3:=Nat.mul_le_mul_left M hl;omega
theorem clsW_len{c:Cls}(h:okC c):(clsW c).length<=516:=by
 simp only[clsW,List.length_append];have h1:=listW_len (f:=numI) (λx hx=>numI_len (h.ps x hx)) h.pl YO;have h2:=numW_len 5 c.slots.length (by have:=h.sl;omega);have h3:=listW_len (f:=initW) (M:=12) (λx hx=>by
  have h4:=numI_len (h.is x hx).1;have h5:=intW_len (h.is x hx).2;simp only[initW,List.length_append];omega) h.il YO
 omega
theorem leafW_len{f:Fact}(h:okF1 f):(leafW f.op f.arg f.path f.cls f.n).length<=30:=by
 unfold leafW;split
 ·rename_i e;obtain⟨h1,h2,h3⟩:=h.at_ Ya;have h4:=numI_len h1;have h5:=listW_len (f:=numI) (λx hx=>numI_len (h3 x hx)) h2 YO;have h6:=numI_len (h.cls e);simp only[List.length_append];omega
 ·split
  ·rename_i e;obtain⟨h1,h2,h3⟩:=h.at_ Ya;have h4:=numI_len h1;have h5:=listW_len (f:=numI) (λx hx=>numI_len (h3 x hx)) h2 YO;have h6:=intW_len (h.n e);simp only[List.length_append];omega
  ·simp
mutual
theorem factW_len:∀f:Fact,okF f->(factW f).length<=36*cntN f
 | .mk op arg path cls n kids,h=>by
  have h1:=okF_iff h;have h2:=leafW_len h1;have h3:=numI_len h1.op;rw[okF] at h;have h4:=factsW_len kids h.2.2.2.2;rw[factW,cntN];simp only[List.length_append];have h2:(leafW op arg path cls n).length<=30:=h2;have h3:(numI op).length<=6:=h3;omega
theorem factsW_len:∀l:List Fact,okFs l->(factsW l).length<=36*cntNs l
 | [],_=>by simp[factsW]
 | f::r,h=>by
  rw[okFs] at h;have h1:=factW_len f h.1;have h2:=factsW_len r h.2;rw[factsW,cntNs,List.length_append];omega
end
theorem mthW_len{m:Mth}(h:okM m):(mthW m).length<=882:=by
 have h1:=numI_len h.kind;have h2:=numI_len h.gen;have h3:=numI_len h.node;have h4:=factW_len _ h.fact;have h5:=h.nodes;simp only[mthW,List.length_append];omega
theorem ndN_len{x:Nd}(h:okNd x):(ndN x).length<=6:=by
 unfold ndN;split
 ·rename_i e;exact intW_len (h.i e)
 ·split
  ·rename_i e;exact numI_len (h.n e)
  ·simp
theorem ndW_len{x:Nd}(h:okNd x):(ndW x).length<=30:=by
 have h1:=numI_len h.op;have h2:=ndN_len h;have h3:=flat_len (f:=numI) (λk hk=>numI_len (h.kids k hk));have h4:=h.kl;simp only[ndW,List.length_append];omega
theorem progW_len{p:Prog}(h:okP p):(progW p).length<=23000:=by
 have h1:=listW_len (f:=clsW) (λx hx=>clsW_len (h.cs x hx)) h.cl YO;have h2:=listW_len (f:=numI) (λx hx=>numI_len (h.gs x hx)) h.gl YO;have h3:=listW_len (f:=mthW) (λx hx=>mthW_len (h.ms x hx)) h.ml YO;have h4:=listW_len (f:=ndW) (λx hx=>ndW_len (h.ns x hx)) h.nl YO;have h5:=numI_len h.main;simp only[progW,List.length_append];omega
theorem valW_len{v:Int×Int}(h:okVal v):(valW v).length<=12:=by
 have h1:=numI_len h.k;simp only[valW,List.length_append];split
 ·rename_i e;have:=intW_len (h.i e);omega
 ·split
  ·rename_i e;have:=numI_len (h.n e);omega
  ·simp;omega
theorem thW_len{t:Th}(h:okT t):(thW t).length<=486:=by
 have h1:=numI_len h.cls;have h2:=flat_len (f:=valW) (λv hv=>valW_len (h.vs v hv));have h3:=h.vl;simp only[thW,List.length_append];omega
theorem flat_take[Inhabited α](f:α->List U8){l:List α}{i:Nat}(hi:i<l.length):(l.take (i+1)).flatMap f=(l.take i).flatMap f++f (l.getD i default):=by
 rw[<-take_getD hi,List.flatMap_append];simp
theorem flat_take_len(f:α->List U8)(l:List α)(i:Nat):((l.take i).flatMap f).length<=(l.flatMap f).length:=by
 conv=>rhs;rw[<-List.take_append_drop i l]
 rw[List.flatMap_append,List.length_append];omega
end Go.Eng.Bd

namespace Go.Proofs.YtpgnjlngepfanaaGreat
open Go.Eng
open Go.Eng.Fc
open Go.Eng.Bd
open Go.Eng.Im (U8 u8 u8s)
variable{f:(Int×Int)->List U8}{g:Fn}{gc:List AV}{wb:Nat}{l:List (Int×Int)}{H:List Ent}
abbrev wrE(wb:Nat)(out:List U8)(v:Value)(H:List Ent):List Ent:=.own 5 1 v::.blk wb 99 [.as (u8s out) v]::H
theorem u8s_snoc(out:List U8)(x:U8):AV.sl 1 ((out.map λx=>[u8 x])++[[u8 x]])=u8s (out++[x]):=by rw[u8s,List.map_append];rfl
theorem u8_of(m:Nat):IntKind.u8.wrap (m:Int)=((Im.byteOf m).val:Int):=by
 show (m:Int)%(2^8:Int)=((m%256:Nat):Int);omega
theorem and127{k:Nat}(hk:k<=4000000000000):bitI .and .i64 (k:Int) 127=some ((k%128:Nat):Int):=by
 show some (IntKind.i64.wrap _)=_;rw[BitVec.toNat_and,Im.bv64i k Ya,show (BitVec.ofInt IntKind.i64.bits 127).toNat=2^7 - 1 by decide,Nat.and_two_pow_sub_one_eq_mod,wrap64 Ya]
theorem or128{k:Nat}(hk:k<128):bitI .or .i64 (k:Int) 128=some ((k+128:Nat):Int):=by
 show some (IntKind.i64.wrap _)=_;rw[BitVec.toNat_or,Im.bv64i k Ya,show (BitVec.ofInt IntKind.i64.bits 128).toNat=128 by decide];have e:k ||| 128=k+128:=by
  rw[Nat.or_comm,Nat.add_comm];exact (Nat.two_pow_add_eq_or_of_lt (i:=7) (b:=k) Ya 1).symm
 rw[e,wrap64 Ya]
theorem shr7(k:Nat):shI .shr .i64 (k:Int) 7=some ((k / 128:Nat):Int):=by
 show some ((k:Int).fdiv (2^7))=_;rw[Int.fdiv_eq_ediv_of_nonneg _ YO];rfl
theorem putC(wb:Nat){out:List U8}(x:U8)(hb:out.length+1<=1000000000)(v:Value)(H:List Ent):ACall Tryz.prog 115 [.p wb 0,u8 x] (wrE wb (out) v H) (λ_ H'=>∃v',H'=wrE wb (out++[x]) v' H) (λ_ _=>False):=by
 refine aC (n:=14) Tryz.func115 λB I w0=>?_;refine Z7 ?_;refine OL.popC (x:=.sl 1 [[u8 x]]) rfl rfl rfl (POp.row rfl rfl Yh rfl rfl rfl rfl rfl rfl) ?_;refine OL.appendC rfl rfl rfl rfl rfl rfl rfl rfl (AVle.refl _) (rfl) (λv=>by repeat (first | exact Upd.head _ _ _ | apply Upd.tail)) Yo Yo (λv11=>?_);refine Z4 ?_;rw[u8s_snoc];refine nR [] (wrE wb (out++[x]) v11 H) ?_;exact⟨v11,rfl⟩
theorem numberC{n:Int}(hn:okN n)(wb:Nat){out:List U8}(hb:out.length+(numI n).length<=1000000000)(v:Value)(H:List Ent):ACall Tryz.prog 121 [.p wb 0,.i n] (wrE wb (out) v H) (λ_ H'=>∃v',H'=wrE wb (out++numI n) v' H) (λ_ _=>False):=by
 refine aC (n:=22) Tryz.func121 λB I w0=>?_;obtain⟨k0,rfl⟩:∃k:Nat,n=(k:Int):=⟨n.toNat,by have:=hn.1;omega⟩;have hk0:=hn.2;have hb:out.length+(numW k0).length<=1000000000:=hb;refine Z2 ?_;refine lj (λm st=>∃(k:Nat) (o:List U8) (v':Value),st=⟨[(1,.i k),(0,.p wb 0)],wrE wb (o) v' H⟩/\m=k+0/\k<=4000000000000/\o++numW k=out++numW k0) (⟨k0,out,v,rfl,rfl,Ya,rfl⟩) ?_;rintro m _ ⟨k,o,v',rfl,hm,hk,ho⟩;have hol:=congrArg List.length ho;rw[List.length_append,List.length_append] at hol;refine Z7 ?_;refine cd (λh0=>?_) λh0=>?_
 ·have hk1: ¬k<128:=by omega
  have hnk:=numW_ge hk1;rw[hnk,List.length_cons] at hol;have hpos:=numW_pos (k / 128);refine Z9 ?_;refine oP (POp.bits rfl rfl rfl rfl rfl (and127 hk)) ?_;refine oP (POp.bits rfl rfl rfl rfl rfl (or128 (Nat.mod_lt _ YO))) ?_;refine oP (POp.cv rfl rfl rfl (u8_of (k%128+128))) ?_;refine bC .k ((putC wb (Im.byteOf (k%128+128)) Ya _ H).b) ?_;rintro y _ ⟨v1,rfl⟩;refine Z5 ?_;refine oP (POp.shift rfl rfl rfl rfl rfl Ya (shr7 k)) ?_;refine Z2 ?_;exact ag (⟨k / 128,o++[Im.byteOf (k%128+128)],v1,rfl,rfl,Ya,by rw[List.append_assoc,List.singleton_append, <-hnk];exact ho⟩)
 ·have hk1:k<128:=by omega
  rw[numW_lt hk1] at ho hol;refine Z10 ?_;refine oP (POp.cv rfl rfl rfl (u8_of k)) ?_;refine bC .k ((putC wb (Im.byteOf k) (by rw[List.length_singleton] at hol;omega) _ H).b) ?_;rintro y _ ⟨v2,rfl⟩;refine Z1 ?_;refine nR [] (wrE wb (o++[Im.byteOf k]) v2 H) ?_;exact⟨v2,by rw[ho];rfl⟩
theorem integerC{n:Int}(hn:okZ n)(wb:Nat){out:List U8}(hb:out.length+(intW n).length<=1000000000)(v:Value)(H:List Ent):ACall Tryz.prog 184 [.p wb 0,.i n] (wrE wb (out) v H) (λ_ H'=>∃v',H'=wrE wb (out++intW n) v' H) (λ_ _=>False):=by
 refine aC (n:=15) Tryz.func184 λB I w0=>?_;have hn1:=hn.1;have hn2:=hn.2;refine Z7 ?_;refine cd (λh0=>?_) λh0=>?_
 ·have e:intW n=numI ((-n - 1)*2+1):=by rw[intW,if_pos Ya];congr 1;omega
  rw[e] at hb ⊢;refine Z2 ?_;refine oP (POp.unX rfl rfl rfl Ya rfl) ?_;refine Z5 ?_;obtain⟨q,hq,hqo⟩:∃q,q=(-n - 1)*2+1/\okN q:=⟨_,rfl,Yal⟩;rw[<-hq] at hb ⊢;refine Z3 ?_;refine bC .k ((numberC hqo wb hb _ H).b) ?_;rintro y _ ⟨v1,rfl⟩;refine Z1 ?_;refine nR [] (wrE wb (out++numI q) v1 H) ?_;exact⟨v1,rfl⟩
 ·have e:intW n=numI (n*2):=by rw[intW,if_neg Ya];congr 1;omega
  rw[e] at hb ⊢;refine Z6 ?_;obtain⟨q,hq,hqo⟩:∃q,q=n*2/\okN q:=⟨_,rfl,Yal⟩;rw[<-hq] at hb ⊢;refine Z3 ?_;refine bC .k ((numberC hqo wb hb _ H).b) ?_;rintro y _ ⟨v1,rfl⟩;refine Z1 ?_;refine nR [] (wrE wb (out++numI q) v1 H) ?_;exact⟨v1,rfl⟩
def WrOk{α:Type}(B:Nat)(P:Program)(wb:Nat)(H:List Ent)(g:AV)(enc:α->AV)(f:α->List U8)(l:List α):Prop:=
 ∀x∈l,∀(out:List U8) (v:Value),out.length+(f x).length<=1000000000->VCall B P g [enc x] (wrE wb out v H) (λ_ H'=>∃v',H'=wrE wb (out++f x) v' H) (λ_ _=>False)
theorem WrOk.fn{α:Type}{P:Program}{wb:Nat}{H:List Ent}{fid:FuncId}{fs cs:List AV}{enc:α->AV}{f:α->List U8}{l:List α}(h:∀x∈l,∀(out:List U8) (v:Value),out.length+(f x).length<=1000000000->ACall P fid (fs++[enc x]++cs) (wrE wb out v H) (λ_ H'=>∃v',H'=wrE wb (out++f x) v' H) (λ_ _=>False))(B:Nat):WrOk B P wb H (.fn (.func fid) fs cs) enc f l:=λx hx out v hb=>VCall.fn (h x hx out v hb)
theorem writtenI{f:Int->List U8}{gs gc:List AV}{l:List Int}(hl:l.length<=1000000000)(hg:∀B,WrOk B Tryz.prog wb H (.fn g gs gc) (λn=>.i n) f l){out:List U8}(hb:out.length+(listW f l).length<=1000000000)(v:Value):ACall Tryz.prog 120 [.p wb 0,AV.ints l,.fn g gs gc] (wrE wb (out) v H) (λ_ H'=>∃v',H'=wrE wb (out++listW f l) v' H) (λ_ _=>False):=by
 refine aC (n:=22) Tryz.func120 λB I w0=>?_;rw[listW,List.length_append] at hb;refine Z5 ?_;refine bC (.mk' rfl rfl rfl rfl rfl) ((numberC (n:=l.length) ⟨Ya,Ya⟩ wb Y6 _ H).b) ?_;rintro y _ ⟨v1,rfl⟩;refine Z10 ?_;refine lj (λm st=>∃(i:Nat) (v':Value),st=⟨[(14,.i i),(13,.i l.length),(12,AV.ints l),(2,.fn g gs gc)],wrE wb (out++numW l.length++(l.take i).flatMap f) v' H⟩/\m=l.length - i/\i<=l.length) (⟨0,v1,YD,rfl,Ya⟩) ?_;rintro m _ ⟨i,v',rfl,rfl,hi⟩;refine Z6 ?_;refine cd (λh0=>?_) λh0=>?_
 ·have hil:i<l.length:=by omega
  have hfl:=flat_take_len f l (i+1);rw[flat_take f hil,List.length_append] at hfl;refine Z14 ?_;refine OL.vcallC rfl rfl rfl rfl rfl rfl rfl rfl (AVleL.refl _) (hg B _ (getD_memB hil) _ v' Yy) ?_;rintro y _ ⟨v2,rfl⟩;refine Z7 ?_;exact ag (⟨i+1,v2,Y8,rfl,hil⟩)
 ·obtain rfl:i=l.length:=by omega
  rw[List.take_length];refine Z4 ?_;refine nR [] (wrE wb (out++numW l.length++l.flatMap f) v' H) ?_;exact⟨v',Yar⟩
theorem writtenN{gs gc:List AV}(hl:l.length<=1000000000)(hg:∀B,WrOk B Tryz.prog wb H (.fn g gs gc) (λx=>.agg (initA x)) f l){out:List U8}(hb:out.length+(listW f l).length<=1000000000)(v:Value):ACall Tryz.prog 182 [.p wb 0,.sl 2 (l.map initA),.fn g gs gc] (wrE wb (out) v H) (λ_ H'=>∃v',H'=wrE wb (out++listW f l) v' H) (λ_ _=>False):=by
 refine aC (n:=22) Tryz.func182 λB I w0=>?_;rw[listW,List.length_append] at hb;refine Z5 ?_;refine bC (.mk' rfl rfl rfl rfl rfl) ((numberC (n:=l.length) ⟨Ya,Ya⟩ wb Y6 _ H).b) ?_;rintro y _ ⟨v1,rfl⟩;refine Z10 ?_;refine lj (λm st=>∃(i:Nat) (v':Value),st=⟨[(14,.i i),(13,.i l.length),(12,.sl 2 (l.map initA)),(2,.fn g gs gc)],wrE wb (out++numW l.length++(l.take i).flatMap f) v' H⟩/\m=l.length - i/\i<=l.length) (⟨0,v1,YD,rfl,Ya⟩) ?_;rintro m _ ⟨i,v',rfl,rfl,hi⟩;refine Z6 ?_;refine cd (λh0=>?_) λh0=>?_
 ·have hil:i<l.length:=by omega
  have hfl:=flat_take_len f l (i+1);rw[flat_take f hil,List.length_append] at hfl;refine Z8 ?_;refine OL.alC rfl rfl rfl rfl (λb0=>?_);refine Z3 ?_;refine CW.freezeP (d:=7) rfl Yl ?_;refine Z3 ?_;refine OL.vcallC rfl rfl rfl rfl rfl rfl rfl rfl (AVleL.refl _) (hg B _ (getD_memB hil) _ v' Yy) ?_;rintro y _ ⟨v2,rfl⟩;refine Z7 ?_;exact ag (⟨i+1,v2,Y8,rfl,hil⟩)
 ·obtain rfl:i=l.length:=by omega
  rw[List.take_length];refine Z4 ?_;refine nR [] (wrE wb (out++numW l.length++l.flatMap f) v' H) ?_;exact⟨v',Yar⟩
theorem writtenC{f:Cls->List U8}{gs gc:List AV}{l:List Cls}(hl:l.length<=1000000000)(hg:∀B,WrOk B Tryz.prog wb H (.fn g gs gc) (λx=>.agg (clsA x)) f l){out:List U8}(hb:out.length+(listW f l).length<=1000000000)(v:Value):ACall Tryz.prog 118 [.p wb 0,.sl 3 (l.map clsA),.fn g gs gc] (wrE wb (out) v H) (λ_ H'=>∃v',H'=wrE wb (out++listW f l) v' H) (λ_ _=>False):=by
 refine aC (n:=22) Tryz.func118 λB I w0=>?_;rw[listW,List.length_append] at hb;refine Z5 ?_;refine bC (.mk' rfl rfl rfl rfl rfl) ((numberC (n:=l.length) ⟨Ya,Ya⟩ wb Y6 _ H).b) ?_;rintro y _ ⟨v1,rfl⟩;refine Z10 ?_;refine lj (λm st=>∃(i:Nat) (v':Value),st=⟨[(14,.i i),(13,.i l.length),(12,.sl 3 (l.map clsA)),(2,.fn g gs gc)],wrE wb (out++numW l.length++(l.take i).flatMap f) v' H⟩/\m=l.length - i/\i<=l.length) (⟨0,v1,YD,rfl,Ya⟩) ?_;rintro m _ ⟨i,v',rfl,rfl,hi⟩;refine Z6 ?_;refine cd (λh0=>?_) λh0=>?_
 ·have hil:i<l.length:=by omega
  have hfl:=flat_take_len f l (i+1);rw[flat_take f hil,List.length_append] at hfl;refine Z8 ?_;refine OL.alC rfl rfl rfl rfl (λb0=>?_);refine Z3 ?_;refine CW.freezeP (d:=7) rfl Yl ?_;refine Z3 ?_;refine OL.vcallC rfl rfl rfl rfl rfl rfl rfl rfl (AVleL.refl _) (hg B _ (getD_memB hil) _ v' Yy) ?_;rintro y _ ⟨v2,rfl⟩;refine Z7 ?_;exact ag (⟨i+1,v2,Y8,rfl,hil⟩)
 ·obtain rfl:i=l.length:=by omega
  rw[List.take_length];refine Z4 ?_;refine nR [] (wrE wb (out++numW l.length++l.flatMap f) v' H) ?_;exact⟨v',Yar⟩
theorem writtenM{f:Mth->List U8}{gs gc:List AV}{l:List Mth}(hl:l.length<=1000000000)(hg:∀B,WrOk B Tryz.prog wb H (.fn g gs gc) (λx=>.agg (mthA x)) f l){out:List U8}(hb:out.length+(listW f l).length<=1000000000)(v:Value):ACall Tryz.prog 122 [.p wb 0,.sl 9 (l.map mthA),.fn g gs gc] (wrE wb (out) v H) (λ_ H'=>∃v',H'=wrE wb (out++listW f l) v' H) (λ_ _=>False):=by
 refine aC (n:=22) Tryz.func122 λB I w0=>?_;rw[listW,List.length_append] at hb;refine Z5 ?_;refine bC (.mk' rfl rfl rfl rfl rfl) ((numberC (n:=l.length) ⟨Ya,Ya⟩ wb Y6 _ H).b) ?_;rintro y _ ⟨v1,rfl⟩;refine Z10 ?_;refine lj (λm st=>∃(i:Nat) (v':Value),st=⟨[(14,.i i),(13,.i l.length),(12,.sl 9 (l.map mthA)),(2,.fn g gs gc)],wrE wb (out++numW l.length++(l.take i).flatMap f) v' H⟩/\m=l.length - i/\i<=l.length) (⟨0,v1,YD,rfl,Ya⟩) ?_;rintro m _ ⟨i,v',rfl,rfl,hi⟩;refine Z6 ?_;refine cd (λh0=>?_) λh0=>?_
 ·have hil:i<l.length:=by omega
  have hfl:=flat_take_len f l (i+1);rw[flat_take f hil,List.length_append] at hfl;refine Z8 ?_;refine OL.alC rfl rfl rfl rfl (λb0=>?_);refine Z3 ?_;refine CW.freezeP (d:=7) rfl Yl ?_;refine Z3 ?_;refine OL.vcallC rfl rfl rfl rfl rfl rfl rfl rfl (AVleL.refl _) (hg B _ (getD_memB hil) _ v' Yy) ?_;rintro y _ ⟨v2,rfl⟩;refine Z7 ?_;exact ag (⟨i+1,v2,Y8,rfl,hil⟩)
 ·obtain rfl:i=l.length:=by omega
  rw[List.take_length];refine Z4 ?_;refine nR [] (wrE wb (out++numW l.length++l.flatMap f) v' H) ?_;exact⟨v',Yar⟩
theorem writtenD{f:Nd->List U8}{gs gc:List AV}{l:List Nd}(hl:l.length<=1000000000)(hg:∀B,WrOk B Tryz.prog wb H (.fn g gs gc) (λx=>.agg (ndA x)) f l){out:List U8}(hb:out.length+(listW f l).length<=1000000000)(v:Value):ACall Tryz.prog 124 [.p wb 0,.sl 3 (l.map ndA),.fn g gs gc] (wrE wb (out) v H) (λ_ H'=>∃v',H'=wrE wb (out++listW f l) v' H) (λ_ _=>False):=by
 refine aC (n:=22) Tryz.func124 λB I w0=>?_;rw[listW,List.length_append] at hb;refine Z5 ?_;refine bC (.mk' rfl rfl rfl rfl rfl) ((numberC (n:=l.length) ⟨Ya,Ya⟩ wb Y6 _ H).b) ?_;rintro y _ ⟨v1,rfl⟩;refine Z10 ?_;refine lj (λm st=>∃(i:Nat) (v':Value),st=⟨[(14,.i i),(13,.i l.length),(12,.sl 3 (l.map ndA)),(2,.fn g gs gc)],wrE wb (out++numW l.length++(l.take i).flatMap f) v' H⟩/\m=l.length - i/\i<=l.length) (⟨0,v1,YD,rfl,Ya⟩) ?_;rintro m _ ⟨i,v',rfl,rfl,hi⟩;refine Z6 ?_;refine cd (λh0=>?_) λh0=>?_
 ·have hil:i<l.length:=by omega
  have hfl:=flat_take_len f l (i+1);rw[flat_take f hil,List.length_append] at hfl;refine Z8 ?_;refine OL.alC rfl rfl rfl rfl (λb0=>?_);refine Z3 ?_;refine CW.freezeP (d:=7) rfl Yl ?_;refine Z3 ?_;refine OL.vcallC rfl rfl rfl rfl rfl rfl rfl rfl (AVleL.refl _) (hg B _ (getD_memB hil) _ v' Yy) ?_;rintro y _ ⟨v2,rfl⟩;refine Z7 ?_;exact ag (⟨i+1,v2,Y8,rfl,hil⟩)
 ·obtain rfl:i=l.length:=by omega
  rw[List.take_length];refine Z4 ?_;refine nR [] (wrE wb (out++numW l.length++l.flatMap f) v' H) ?_;exact⟨v',Yar⟩
theorem writtenT{f:Th->List U8}{gs gc:List AV}{l:List Th}(hl:l.length<=1000000000)(hg:∀B,WrOk B Tryz.prog wb H (.fn g gs gc) (λx=>.agg (thA x)) f l){out:List U8}(hb:out.length+(listW f l).length<=1000000000)(v:Value):ACall Tryz.prog 63 [.p wb 0,AV.ths l,.fn g gs gc] (wrE wb (out) v H) (λ_ H'=>∃v',H'=wrE wb (out++listW f l) v' H) (λ_ _=>False):=by
 refine aC (n:=22) Tryz.func63 λB I w0=>?_;rw[listW,List.length_append] at hb;refine Z5 ?_;refine bC (.mk' rfl rfl rfl rfl rfl) ((numberC (n:=l.length) ⟨Ya,Ya⟩ wb Y6 _ H).b) ?_;rintro y _ ⟨v1,rfl⟩;refine Z10 ?_;refine lj (λm st=>∃(i:Nat) (v':Value),st=⟨[(14,.i i),(13,.i l.length),(12,AV.ths l),(2,.fn g gs gc)],wrE wb (out++numW l.length++(l.take i).flatMap f) v' H⟩/\m=l.length - i/\i<=l.length) (⟨0,v1,YD,rfl,Ya⟩) ?_;rintro m _ ⟨i,v',rfl,rfl,hi⟩;refine Z6 ?_;refine cd (λh0=>?_) λh0=>?_
 ·have hil:i<l.length:=by omega
  have hfl:=flat_take_len f l (i+1);rw[flat_take f hil,List.length_append] at hfl;refine Z8 ?_;refine OL.alC rfl rfl rfl rfl (λb0=>?_);refine Z3 ?_;refine CW.freezeP (d:=7) rfl Yl ?_;refine Z3 ?_;refine OL.vcallC rfl rfl rfl rfl rfl rfl rfl rfl (AVleL.refl _) (hg B _ (getD_memB hil) _ v' Yy) ?_;rintro y _ ⟨v2,rfl⟩;refine Z7 ?_;exact ag (⟨i+1,v2,Y8,rfl,hil⟩)
 ·obtain rfl:i=l.length:=by omega
  rw[List.take_length];refine Z4 ?_;refine nR [] (wrE wb (out++numW l.length++l.flatMap f) v' H) ?_;exact⟨v',Yar⟩
theorem writtenV{gs gc:List AV}(hl:l.length<=1000000000)(hg:∀B,WrOk B Tryz.prog wb H (.fn g gs gc) (λx=>AV.mv x) f l){out:List U8}(hb:out.length+(listW f l).length<=1000000000)(v:Value):ACall Tryz.prog 158 [.p wb 0,AV.mvs l,.fn g gs gc] (wrE wb (out) v H) (λ_ H'=>∃v',H'=wrE wb (out++listW f l) v' H) (λ_ _=>False):=by
 refine aC (n:=22) Tryz.func158 λB I w0=>?_;rw[listW,List.length_append] at hb;refine Z5 ?_;refine bC (.mk' rfl rfl rfl rfl rfl) ((numberC (n:=l.length) ⟨Ya,Ya⟩ wb Y6 _ H).b) ?_;rintro y _ ⟨v1,rfl⟩;refine Z10 ?_;refine lj (λm st=>∃(i:Nat) (v':Value),st=⟨[(14,.i i),(13,.i l.length),(12,AV.mvs l),(2,.fn g gs gc)],wrE wb (out++numW l.length++(l.take i).flatMap f) v' H⟩/\m=l.length - i/\i<=l.length) (⟨0,v1,YD,rfl,Ya⟩) ?_;rintro m _ ⟨i,v',rfl,rfl,hi⟩;refine Z6 ?_;refine cd (λh0=>?_) λh0=>?_
 ·have hil:i<l.length:=by omega
  have hfl:=flat_take_len f l (i+1);rw[flat_take f hil,List.length_append] at hfl;refine Z8 ?_;refine OL.alC rfl rfl rfl rfl (λb0=>?_);refine Z3 ?_;refine CW.freezeP (d:=7) rfl Yl ?_;refine Z3 ?_;refine OL.vcallC rfl rfl rfl rfl rfl rfl rfl rfl (AVleL.refl _) (hg B _ (getD_memB hil) _ v' Yy) ?_;rintro y _ ⟨v2,rfl⟩;refine Z7 ?_;exact ag (⟨i+1,v2,Y8,rfl,hil⟩)
 ·obtain rfl:i=l.length:=by omega
  rw[List.take_length];refine Z4 ?_;refine nR [] (wrE wb (out++numW l.length++l.flatMap f) v' H) ?_;exact⟨v',Yar⟩
theorem writtenB{f:U8->List U8}{gs gc:List AV}{l:List U8}(hl:l.length<=1000000000)(hg:∀B,WrOk B Tryz.prog wb H (.fn g gs gc) (λx=>u8 x) f l){out:List U8}(hb:out.length+(listW f l).length<=1000000000)(v:Value):ACall Tryz.prog 116 [.p wb 0,u8s l,.fn g gs gc] (wrE wb (out) v H) (λ_ H'=>∃v',H'=wrE wb (out++listW f l) v' H) (λ_ _=>False):=by
 refine aC (n:=22) Tryz.func116 λB I w0=>?_;rw[listW,List.length_append] at hb;refine Z5 ?_;refine bC (.mk' rfl rfl rfl rfl rfl) ((numberC (n:=l.length) ⟨Ya,Ya⟩ wb Y6 _ H).b) ?_;rintro y _ ⟨v1,rfl⟩;refine Z10 ?_;refine lj (λm st=>∃(i:Nat) (v':Value),st=⟨[(14,.i i),(13,.i l.length),(12,u8s l),(2,.fn g gs gc)],wrE wb (out++numW l.length++(l.take i).flatMap f) v' H⟩/\m=l.length - i/\i<=l.length) (⟨0,v1,YD,rfl,Ya⟩) ?_;rintro m _ ⟨i,v',rfl,rfl,hi⟩;refine Z6 ?_;refine cd (λh0=>?_) λh0=>?_
 ·have hil:i<l.length:=by omega
  have hfl:=flat_take_len f l (i+1);rw[flat_take f hil,List.length_append] at hfl;refine Z14 ?_;refine OL.vcallC rfl rfl rfl rfl rfl rfl rfl rfl (AVleL.refl _) (hg B _ (getD_memB hil) _ v' Yy) ?_;rintro y _ ⟨v2,rfl⟩;refine Z7 ?_;exact ag (⟨i+1,v2,Y8,rfl,hil⟩)
 ·obtain rfl:i=l.length:=by omega
  rw[List.take_length];refine Z4 ?_;refine nR [] (wrE wb (out++numW l.length++l.flatMap f) v' H) ?_;exact⟨v',Yar⟩
end Go.Proofs.YtpgnjlngepfanaaGreat

namespace Go.Eng.Bd
open Go.Eng.Fc
variable{p:Prog}
mutual
theorem node_okF{w:Fc.FW}(hw:w.parents.length<=1000/\w.owner.length<=1000):∀(f:Fact) (left deep:Int),(nodeP w f left deep).1=true->okF f/\(nodeP w f left deep).2+cntN f=left/\0<=(nodeP w f left deep).2
 | .mk op arg path cls n kids,left,deep,h=>by
  rw[nodeP] at h ⊢;by_cases h1:badP (.mk op arg path cls n kids) (left - 1) deep=true
  ·rw[if_pos h1] at h;cases h
  rw[if_neg h1] at h ⊢;have h2:badP (.mk op arg path cls n kids) (left - 1) deep=false:=by simpa using h1
  have h2:((¬left - 1<0/\¬op<1)/\¬op>7)/\(kids.length:Int)=kidsP op:=by
   rw[badP,Bool.or_eq_false_iff,Bool.or_eq_false_iff,Bool.or_eq_false_iff,Bool.or_eq_false_iff] at h2;exact⟨⟨⟨of_decide_eq_false h2.1.1.1.1,of_decide_eq_false h2.1.1.2⟩,of_decide_eq_false h2.1.2⟩,bne_eq_false_iff_eq.1 h2.2⟩
  obtain⟨⟨⟨hl0,ho1⟩,ho2⟩,hk⟩:=h2;have hop:okN op:=by unfold okN;omega
  by_cases hl:leafP (.mk op arg path cls n kids)=true
  ·rw[if_pos hl] at h ⊢;have hl:2<=op/\op<=4:=by rw[leafP,Bool.and_eq_true] at hl;exact⟨of_decide_eq_true hl.1,of_decide_eq_true hl.2⟩
   have hk0:kids= []:=by
    have:kidsP op=0:=by unfold kidsP;rw[if_neg Ya,if_neg Ya]
    exact List.eq_nil_of_length_eq_zero Ya
   subst hk0;rw[Bool.and_eq_true] at h;have h9:argP w (.mk op arg path cls n [])=true:=h.1;rw[argP,Bool.not_eq_true',Bool.or_eq_false_iff,Bool.or_eq_false_iff] at h9;have a1: ¬arg<0:=of_decide_eq_false h9.1.1;have a2: ¬arg>=3:=of_decide_eq_false h9.1.2;have a3:pathP w path=true:=by have:=h9.2;rwa [Bool.not_eq_false'] at this
   rw[pathP,Bool.and_eq_true] at a3;have a4:path.length<=2:=of_decide_eq_true a3.1;have hle:leafOkP w (.mk op arg path cls n [])=true:=h.2;refine⟨?_,by simp only[cntN,cntNs];omega,by show 0<=left - 1;omega⟩;rw[okF];refine⟨hop,λe=>?_,λe=>?_,λ_=>⟨Yal,Ya,λx hx=>?_⟩,trivial⟩
   ·rw[leafOkP,if_pos (by exact e),Bool.and_eq_true] at hle;have:=hle.2;simp only[classP,Bool.and_eq_true,decide_eq_true_eq] at this;have:0<=cls/\cls<3+w.parents.length:=this;unfold okN;omega
   ·rw[leafOkP,if_neg (by show ¬op=2;omega),Bool.and_eq_true,Bool.and_eq_true] at hle;have b1:n>= -1000000000:=of_decide_eq_true hle.1.2;have b2:n<=1000000000:=of_decide_eq_true hle.2;unfold okZ;omega
   ·have:=List.all_eq_true.1 a3.2 x hx;simp only[slotP,Bool.and_eq_true,decide_eq_true_eq] at this;unfold okN;omega
  ·rw[if_neg hl] at h ⊢;have hl':leafP (.mk op arg path cls n kids)=false:=by simpa using hl
   have hl': ¬(2<=op/\op<=4):=by intro hc;rw[show leafP (.mk op arg path cls n kids)=true by rw[leafP,Bool.and_eq_true];exact⟨decide_eq_true hc.1,decide_eq_true hc.2⟩] at hl';cases hl'
   by_cases hp:plainP (.mk op arg path cls n kids)=true
   ·rw[if_pos hp] at h ⊢;obtain⟨h5,h6,h7⟩:=nodes_okF hw kids _ _ h Ya;have h6:(nodesP w kids (left - 1) (deep - 1)).2+cntNs kids=left - 1:=h6;refine⟨?_,by simp only[cntN];omega,h7⟩;rw[okF];exact⟨hop,λe=>by omega,λe=>by omega,λe=>absurd e hl',h5⟩
   ·rw[if_neg hp] at h;cases h
theorem nodes_okF{w:Fc.FW}(hw:w.parents.length<=1000/\w.owner.length<=1000):∀(l:List Fact) (left deep:Int),(nodesP w l left deep).1=true->0<=left->okFs l/\(nodesP w l left deep).2+cntNs l=left/\0<=(nodesP w l left deep).2
 | [],left,deep,h,h0=>by rw[nodesP];exact⟨trivial,by simp[cntNs],h0⟩
 | k::r,left,deep,h,h0=>by
  rw[nodesP] at h ⊢;by_cases hk:(nodeP w k left deep).1=true
  ·rw[if_pos hk] at h ⊢;obtain⟨h1,h2,h3⟩:=node_okF hw k _ _ hk;obtain⟨h4,h5,h6⟩:=nodes_okF hw r _ _ h h3;exact⟨by rw[okFs];exact⟨h1,h4⟩,by simp only[cntNs];omega,h6⟩
  ·rw[if_neg hk] at h;exact absurd h hk
end
theorem formed_okF{w:Fc.FW}(hw:w.parents.length<=1000/\w.owner.length<=1000){f:Fact}(h:formedP w f=true):okF f/\cntN f<=24:=by
 obtain⟨h1,h2,h3⟩:=node_okF hw f 24 12 h;exact⟨h1,Ya⟩
theorem inits_route{mine:List Int}{n:Nat}(hm:∀x∈mine,0<=x/\x<n):∀(l:List (Int×Int)) (seen:List Int),inits1 mine l seen=true->RouteOk n seen->RouteOk n (seen++l.map (·.1))/\∀x∈l,okN x.1\/n>1000->inP x.2=true/\(0<=x.1/\x.1<n)
 | [],seen,_,hs=>⟨by simpa using hs,Yr⟩
 | x::r,seen,h,hs=>by
  simp only[inits1,Bool.and_eq_true,Bool.not_eq_true',List.contains_iff_mem] at h;have hx:=hm x.1 h.1.1.1;have hn: ¬x.1∈seen:=by have:=h.1.1.2;simpa using this
  have hs':RouteOk n (seen++[x.1]):=⟨List.nodup_append.2 ⟨hs.nodup,Yr,λa ha b hb e=>by simp at hb;subst hb;subst e;exact hn ha⟩,λy hy=>by
   rcases List.mem_append.1 hy with hy | hy
   ·exact hs.in_ y hy
   ·simp at hy;subst hy;exact hx⟩
  obtain⟨h1,h2⟩:=inits_route hm r _ h.2 hs';refine⟨by rw[List.map_cons];rw[List.append_assoc] at h1;exact h1,λy hy he=>?_⟩;rcases List.mem_cons.1 hy with rfl | hy
  ·exact⟨h.1.2,hx⟩
  ·exact h2 y hy he
theorem okC_of(h:classesP p=true):p.classes.length<=10/\(∀c∈p.classes,okC c)/\p.slots<=40:=by
 have h0:=h;simp only[classesP,Bool.and_eq_true,decide_eq_true_eq,beq_iff_eq] at h;obtain⟨⟨⟨hl,hs⟩,hcnt,hg⟩,hc⟩:=h;have hsm:=slotsA_mem _ _ hs;have hcn:=slotsA_cnt _ _ hs;refine⟨hl,λc hcm=>?_,Ya⟩;obtain⟨i,hi,rfl⟩:=List.mem_iff_getElem.1 hcm;have e:p.classes.getD i default=p.classes[i]:=by rw[List.getD_eq_getElem?_getD,List.getElem?_eq_getElem hi];rfl
 have h3:fineG 0 (graphP p)=true:=by simp only[fineP,Bool.and_eq_true] at hg;exact hg.2
 have h4:=fineG_ps (graphP p) 0 i h3 (by simpa [graphP] using hi);have e2:(graphP p).getD i default=p.classes[i].parents:=by
  rw[List.getD_eq_getElem?_getD,graphP,List.getElem?_map,List.getElem?_eq_getElem hi];rfl
 rw[e2] at h4;have h5:clsOk p i=true:=List.all_eq_true.1 hc i (by simpa using hi);simp only[clsOk,Bool.and_eq_true,e] at h5;obtain⟨h6,h7⟩:=inits_route (n:=40) (λx hx=>by
  obtain⟨c,hcm,hxs⟩:=hasP_mem hx;have:=(hsm c hcm).2 x hxs;omega) _ _ h5.2 (.nil _)
 have hil:=h6.len;rw[List.nil_append,List.length_map] at hil;have h8:∀x∈p.classes[i].inits,inP x.2=true/\(0<=x.1/\x.1<(40:Nat)):=λx hx=>h7 x hx (.inl (by
  have:=h6.in_ x.1 (by simp only[List.nil_append];exact List.mem_map_of_mem hx);unfold okN;omega))
 refine⟨λx hx=>?_,by have:=h4.1;omega,by have:=(hsm _ hcm).1;omega,hil,λx hx=>?_⟩
 ·have:=h4.2 x hx;unfold okN;omega
 ·obtain⟨h9,h10⟩:=h8 x hx;simp only[inP,Bool.and_eq_true,decide_eq_true_eq] at h9;unfold okN okZ;omega
theorem visitsW_each{v:Vis->List Int->List Vis×Option (List Int)}:∀(l:List Vis) (o:List Int) {L:List Vis} {o':List Int},visitsW v l o=(L,some o')->∀y∈l,∃u,(v y u).2≠none/\∀z∈(v y u).1,z∈L
 | [],o,L,o',h,y,hy=>by cases hy
 | x::r,o,L,o',h,y,hy=>by
  simp only[visitsW] at h;rcases hv:v x o with⟨l1,_ | o1⟩
  ·rw[hv] at h;simp at h
  ·rw[hv] at h;simp only[Prod.mk.injEq] at h;rcases List.mem_cons.1 hy with rfl | hy
   ·exact⟨o,by rw[hv];simp,λz hz=>by rw[hv] at hz;rw[<-h.1];exact List.mem_append_left _ hz⟩
   ·obtain⟨u,h1,h2⟩:=visitsW_each r o1 (L:=(visitsW v r o1).1) (o':=o') (Prod.ext rfl h.2) y hy;exact⟨u,h1,λz hz=>by rw[<-h.1];exact List.mem_append_right _ (h2 z hz)⟩
theorem visitsW_of{v:Vis->List Int->List Vis×Option (List Int)}:∀(l:List Vis) (o:List Int) {L:List Vis} {o':List Int},visitsW v l o=(L,some o')->∀z∈L,∃y∈l,∃u,(v y u).2≠none/\z∈(v y u).1
 | [],o,L,o',h,z,hz=>by simp only[visitsW,Prod.mk.injEq] at h;rw[<-h.1] at hz;cases hz
 | x::r,o,L,o',h,z,hz=>by
  simp only[visitsW] at h;rcases hv:v x o with⟨l1,_ | o1⟩
  ·rw[hv] at h;simp at h
  ·rw[hv] at h;simp only[Prod.mk.injEq] at h;rw[<-h.1] at hz;rcases List.mem_append.1 hz with hz | hz
   ·exact⟨x,.head _,o,by rw[hv];simp,by rw[hv];exact hz⟩
   ·obtain⟨y,hy,u,h1,h2⟩:=visitsW_of r o1 (L:=(visitsW v r o1).1) (o':=o') (Prod.ext rfl h.2) z hz;exact⟨y,.tail _ hy,u,h1,h2⟩
theorem visit_some{next:Bool}{f:Nat}{x:Vis}{out:List Int}(h:(visit p next f x out).2≠none):okV p next x out=true:=by
 cases hk:okV p next x out with
 | true=>rfl
 | false=>rw[visit_no hk] at h;exact absurd rfl h
theorem kidsV_mem(x:Vis)(op:Int):∀(i:Nat) (l:List Int),∀k∈l,∃y∈kidsV x op i l,y.n=k
 | _,[],k,h=>by cases h
 | i,a::r,k,h=>by
  rw[kidsV];rcases List.mem_cons.1 h with rfl | h
  ·exact⟨_,.head _,rfl⟩
  ·obtain⟨y,hy,he⟩:=kidsV_mem x op (i+1) r k h;exact⟨y,.tail _ hy,he⟩
def NdKnown(p:Prog)(x:Nd):Prop:=(∃next sz,sz<=2000/\goodN p next x sz=true)/\∀k∈x.kids,0<=k/\k<p.nodes.length
theorem visit_known{p:Prog}{next:Bool}:∀(f:Nat) (x:Vis) (out:List Int),x.dp+f=14->smallV x->(visit p next f x out).2≠none->∀y∈(visit p next f x out).1,NdKnown p (ndOf p y)
 | 0,x,out,_,_,h,y,hy=>absurd rfl h
 | f+1,x,out,hd,hsm,h,y,hy=>by
  have hk:=visit_some h;rw[visit_yes hk] at h hy;obtain⟨o',ho'⟩:=Option.ne_none_iff_exists'.1 h;have hW:visitsW (visit p next f) (kidsV x (ndOf p x).op 0 (ndOf p x).kids) (setV out x)=(_,some o'):=Prod.ext rfl ho';have hz0:∀z∈kidsV x (ndOf p x).op 0 (ndOf p x).kids,z.dp+f=14/\smallV z:=by
   intro z hz;have hz1:=kidsV_dp _ _ _ _ z hz;have:∀(op:Int) (i:Nat) (l:List Int),∀z∈kidsV x op i l,z.sz=x.sz\/z.sz=x.sz+1:=by
    intro op i l
    induction l generalizing i with
    | nil=>intro z hz;simp[kidsV] at hz
    | cons k r ih=>
     intro z hz;rw[kidsV,List.mem_cons] at hz;rcases hz with rfl | hz
     ·simp only[kidV];split <;> simp
     ·exact ih (i+1) z hz
   have hz2:=this _ _ _ z hz;have hp:x.dp<=12:=by simp only[okV,placeOk,Bool.and_eq_true,decide_eq_true_eq] at hk;exact hk.1.2
   unfold smallV at hsm ⊢;exact⟨Ya,Ya⟩
  rcases List.mem_cons.1 hy with rfl | hy
  ·refine⟨⟨next,y.sz,by unfold smallV at hsm;omega,by simp only[okV,Bool.and_eq_true] at hk;exact hk.2⟩,λk hk'=>?_⟩;obtain⟨z,hz,he⟩:=kidsV_mem y (ndOf p y).op 0 _ k hk';obtain⟨u,h1,_⟩:=visitsW_each _ _ hW z hz;have:=okV_place (visit_some h1);rw[he] at this;exact this
  ·obtain⟨z,hz,u,h1,h2⟩:=visitsW_of _ _ hW y hy;exact visit_known f z u (hz0 z hz).1 (hz0 z hz).2 h1 y h2
theorem outsV_get:∀(L:List Vis) (o:List Int) (i:Nat),(outsV L o).getD i (-1)≠ -1->o.getD i (-1)≠ -1\/∃y∈L,y.n.toNat=i
 | [],o,i,h=>.inl h
 | x::r,o,i,h=>by
  have h:(outsV r (setV o x)).getD i (-1)≠ -1:=h;rcases outsV_get r _ i h with h1 | ⟨y,hy,he⟩
  ·by_cases e:x.n.toNat=i
   ·exact .inr ⟨x,.head _,e⟩
   ·refine .inl ?_;rw[setV,List.getD_eq_getElem?_getD,List.getElem?_set_ne e, <-List.getD_eq_getElem?_getD] at h1;exact h1
  ·exact .inr ⟨y,.tail _ hy,he⟩
def OutKnown(p:Prog)(o:List Int):Prop:=∀i,i<p.nodes.length->o.getD i (-1)≠ -1->NdKnown p (p.nodes.getD i default)
theorem visit_outKnown{next:Bool}{x:Vis}{o o':List Int}(hd:x.dp=1)(hs:smallV x)(h:(visit p next 13 x o).2=some o')(hK:OutKnown p o):OutKnown p o':=by
 have he:=(visit_vp (p:=p) (next:=next) 13 x o Ya).end_ o' h;intro i hi hne;rw[he] at hne;rcases outsV_get _ _ i hne with h1 | ⟨y,hy,e⟩
 ·exact hK i hi h1
 ·have:=visit_known (p:=p) (next:=next) 13 x o Ya hs (by rw[h];simp) y hy;rw[ndOf,e] at this;exact this
theorem methods_known{p:Prog}(hg:∀n∈p.gens,1<=n/\n<=3)(hw:(worldOf p).parents.length<=1000/\(worldOf p).owner.length<=1000)(hgl:p.gens.length<=100)(hnl:p.nodes.length<=1000):∀(l:List Mth) (o o':List Int),methodsN p l o=some o'->OutKnown p o->OutKnown p o'/\∀m∈l,okM m
 | [],o,o',h,hK=>by simp only[methodsN,Option.some.injEq] at h;subst h;exact⟨hK,Yr⟩
 | m::r,o,o',h,hK=>by
  rw[methodsN] at h;split at h
  ·rename_i hm;rw[Bool.and_eq_true] at hm;cases hv:(visit p (nextM m) 13 (bodyV p m) o).2 with
   | none=>rw[hv] at h;cases h
   | some o1=>
    rw[hv] at h;have h1:=hm.1;simp only[mth1,Bool.and_eq_true,decide_eq_true_eq] at h1;have h2:=hm.2;simp only[mth2,Bool.and_eq_true] at h2;have h3:=hg _ (getD_memB (l:=p.gens) (k:=m.gen.toNat) Ya);have hpl:=okV_place (visit_some (show (visit p (nextM m) 13 (bodyV p m) o).2≠none by rw[hv];simp));have hpl:0<=m.node/\m.node<p.nodes.length:=hpl;obtain⟨h4,h5⟩:=methods_known hg hw hgl hnl r o1 o' h (visit_outKnown rfl (by unfold smallV bodyV;simp only;omega) hv hK);obtain⟨h6,h7⟩:=formed_okF hw h2.1.2;refine⟨h4,λy hy=>?_⟩;rcases List.mem_cons.1 hy with rfl | hy
    ·exact⟨Yal,Yal,Yal,h6,h7⟩
    ·exact h5 y hy
  ·cases h
theorem okNd_of(hg:∀n∈p.gens,1<=n/\n<=3)(hc:p.classes.length<=10)(hs:p.slots<=40)(hgl:p.gens.length<=100)(hnl:p.nodes.length<=1000){x:Nd}(h:NdKnown p x):okNd x:=by
 obtain⟨⟨next,sz,hsz,hgd⟩,hk⟩:=h;simp only[goodN,Bool.and_eq_true] at hgd;obtain⟨⟨h1,_⟩,h2⟩:=hgd;have hop:(1<=x.op/\x.op<=18)/\x.kids.length<=3:=by
  unfold kindOf at h2;split at h2
  ·cases h2
  ·rename_i e;split at e
   ·rename_i e5;simp only[beq_iff_eq] at h2;refine⟨Ya,?_⟩;by_cases hx:x.n.toNat<p.gens.length
    ·have:=hg _ (getD_memB hx);omega
    ·rw[List.getD_eq_getElem?_getD,List.getElem?_eq_none Ya] at h2;simp at h2;rw[h2];simp
   ·split at e
    ·simp at e
    ·split at e
     ·simp at e
     ·split at e
      ·simp at e
      ·split at e <;> simp at e
  ·rename_i k e;simp only[beq_iff_eq] at h2;split at e
   ·simp at e
   ·split at e
    ·simp only[Option.some.injEq] at e;exact⟨Ya,Ya⟩
    ·split at e
     ·simp only[Option.some.injEq] at e;exact⟨Ya,Ya⟩
     ·split at e
      ·simp only[Option.some.injEq] at e;exact⟨Ya,Ya⟩
      ·split at e
       ·simp only[Option.some.injEq] at e;exact⟨Ya,Ya⟩
       ·simp at e
 refine⟨Yal,λe=>?_,λe=>?_,λk hkm=>by have:=hk k hkm;unfold okN;omega,hop.2⟩
 ·rw[numP,if_pos e] at h1;simp only[inP,Bool.and_eq_true,decide_eq_true_eq] at h1;unfold okZ;omega
 ·have e1:x.op≠1:=by intro e1;rw[e1] at e;exact absurd e YO
  rw[numP,if_neg e1] at h1;split at h1
  ·simp only[Bool.and_eq_true,decide_eq_true_eq] at h1;unfold okN;omega
  ·simp only[Bool.and_eq_true,decide_eq_true_eq] at h1;have:mostP p x.op sz<=2000:=by unfold mostP;split <;> (try split) <;> (try split) <;> omega
   unfold okN;omega
theorem okP_of(h:(sizesP p).isSome=true):okP p:=by
 obtain⟨o,ho⟩:=Option.isSome_iff_exists.1 h;have hol:=sizes_len ho;obtain⟨hc,hh,hgs,o1,hm,hv,hn⟩:=sizes_parts ho;obtain⟨hcl,hcs,hsl⟩:=okC_of hc;simp only[headP,Bool.and_eq_true,decide_eq_true_eq] at hh;have hg:∀n∈p.gens,1<=n/\n<=3:=λn hn=>gens_in hgs hn;have hw:(worldOf p).parents.length<=1000/\(worldOf p).owner.length<=1000:=by
  obtain⟨_,hc2⟩:=classes_small hc;refine⟨by show (graphP p).length<=1000;simp[graphP];omega,?_⟩;have h1:slotsA p.classes 0=true:=by simp only[classesP,Bool.and_eq_true] at hc;exact hc.1.1.2
  have:∀(cs:List Cls) (i n:Nat),slotsA cs n=true->(ownersN cs i).length<=4*cs.length:=by
   intro cs
   induction cs with
   | nil=>intro i n _;simp[ownersN]
   | cons c r ih=>
    intro i n h;simp only[slotsA,Bool.and_eq_true,decide_eq_true_eq] at h;have:=ih (i+1) _ h.2;rw[ownersN,List.length_append,List.length_replicate,List.length_cons];omega
  have:=this p.classes 0 0 h1;show (ownersN p.classes 0).length<=1000;omega
 have hK0:OutKnown p (out0 p):=λi hi hne=>by
  exfalso;apply hne;rw[out0,List.getD_eq_getElem?_getD,List.getElem?_replicate];split <;> rfl
 obtain⟨hK1,hms⟩:=methods_known hg hw Ya Ya p.methods _ _ hm hK0;have hK2:=visit_outKnown (x:=⟨p.main,0,1⟩) rfl (by unfold smallV;simp only;omega) hv hK1;have hpl:=okV_place (visit_some (show (visit p false 13 ⟨p.main,0,1⟩ o1).2≠none by rw[hv];simp));have hpl:0<=p.main/\p.main<p.nodes.length:=hpl;refine⟨hcs,Ya,λg hgm=>by have:=hg g hgm;unfold okN;omega,Ya,hms,Ya,λx hx=>?_,Ya,Yal⟩;obtain⟨i,hi,rfl⟩:=List.mem_iff_getElem.1 hx;have e:p.nodes.getD i default=p.nodes[i]:=by rw[List.getD_eq_getElem?_getD,List.getElem?_eq_getElem hi];rfl
 rw[<-e];refine okNd_of hg hcl hsl Ya Ya (hK2 i hi ?_);have hio:i<o.length:=by rw[hol.1];exact hi
 intro hne;rw[List.getD_eq_getElem?_getD,List.getElem?_eq_getElem hio] at hne;have hmem:(-1:Int)∈o:=by rw[<-show o[i]= -1 from hne];exact List.getElem_mem _
 rw[List.contains_iff_mem.2 hmem] at hn;cases hn
theorem okVal_of{n:Nat}(hn:n<=1000000){v:Int×Int}(h:valueP n v=true):okVal v:=by
 have hk:=valueP_key hn h;unfold valueP at h;by_cases h1:v.1=1
 ·exact⟨Yal,λ_=>by unfold okZ;omega,λe=>by omega⟩
 ·rw[if_neg h1] at h;by_cases h2:v.1=2
  ·exact⟨Yal,λe=>by omega,λe=>by omega⟩
  ·rw[if_neg h2] at h;by_cases h3:v.1=3
   ·rw[if_pos h3] at h;simp only[Bool.and_eq_true,decide_eq_true_eq] at h;exact⟨Yal,λe=>by omega,λ_=>by unfold okN;omega⟩
   ·rw[if_neg h3] at h;cases h
theorem hasN_len{p:Prog}(h:∀c∈p.classes,c.slots.length<=4):∀(n:Nat) (S out:List Int),(hasN p n S out).length<=out.length+4*n
 | 0,S,out=>by rw[hasN];omega
 | n+1,S,out=>by
  rw[hasN];split
  ·have h1:=hasN_len h n (S++(p.classes.getD n default).parents) (out++(p.classes.getD n default).slots);rw[List.length_append] at h1;have h2:(p.classes.getD n default).slots.length<=4:=by
    by_cases hn:n<p.classes.length
    ·exact h _ (getD_memB hn)
    ·rw[List.getD_eq_getElem?_getD,List.getElem?_eq_none Ya];exact Nat.zero_le _
   omega
  ·have:=hasN_len h n S out;omega
theorem okT_of{n:Nat}(hn:n<=1000000){t:Th}(h:thingP p n t=true):okT t:=by
 simp only[thingP,Bool.and_eq_true,beq_iff_eq] at h;obtain⟨⟨h1,h2⟩,h3⟩:=h;obtain⟨hc,hcl⟩:=own_parts h1;have h10:=(okC_of hcl).1;have hs:∀c∈p.classes,c.slots.length<=4:=by
  have hs:slotsA p.classes 0=true:=by simp only[classesP,Bool.and_eq_true] at hcl;exact hcl.1.1.2
  exact λc hc=>(slotsA_mem _ _ hs c hc).1
 have hl:=hasN_len hs (t.cls - 2).toNat [t.cls] [];have hl2:(hasP p t.cls).length=(hasN p (t.cls - 2).toNat [t.cls] []).length:=by unfold hasP sortI;rw[List.length_mergeSort]
 rw[hl2] at h2;simp only[List.length_nil] at hl;exact⟨Yal,λv hv=>okVal_of hn (List.all_eq_true.1 h3 v hv),Ya⟩
theorem ok_of{objs:List Th}(h:checkP p objs=true):okP p/\objs.length<=40/\∀t∈objs,okT t:=by
 simp only[checkP,Bool.and_eq_true,decide_eq_true_eq] at h;exact⟨okP_of h.1.1,h.1.2,λt ht=>okT_of Ya (List.all_eq_true.1 h.2 t ht)⟩
end Go.Eng.Bd

namespace Go.Proofs.YtpgnjlngepfanaaGreat
open Go.Eng
open Go.Eng.Fc
open Go.Eng.Bd
open Go.Eng.Im (U8 u8 u8s sumR)
end Go.Proofs.YtpgnjlngepfanaaGreat

namespace Go.Proofs.YtpgnjlngepfanaaGreat
open Go.Eng
open Go.Eng.Im
variable{l r:List U8}
abbrev wrongV:Value:=.iface 176 (.agg #[])
abbrev wrongA:AV:=.iface 176 (.agg [])
theorem wrong_c:wrongA.Const wrongV where
 is I w u h:=by
  cases h with
  | iface _ _ v h=>cases h with
   | agg _ vs h=>
    have:vs= #[]:=by cases vs with | mk l=>cases h;rfl
    rw[this]
 rel I w:=.iface _ _ _ (.agg _ _ .nil)
abbrev rdr(rb:Nat)(l:List U8):Ent:=.blk rb 177 [u8s l]
theorem q71t{b:Bool}(hb:b=true)(H:List Ent):RCall Tryz.prog 71 [.b b] H (some (.tup [],H)) H wrongA:=by
 refine aC (n:=6) Tryz.func71 λB I w0=>?_;refine Z6 ?_;refine CW.cond rfl (λh0=>?_) (λh0=>?_)
 ·simp[hb] at h0
 ·replace h0:=nm h0;refine Z1 ?_;refine nR [] (H) ?_;exact rfl
theorem q71f{b:Bool}(hb:b=false)(H:List Ent):RCall Tryz.prog 71 [.b b] H none H wrongA:=by
 refine aC (n:=6) Tryz.func71 λB I w0=>?_;refine Z6 ?_;refine CW.cond rfl (λh0=>?_) (λh0=>?_)
 ·replace h0:=nm h0;refine Z2 ?_;refine oP (POp.makeIface rfl rfl rfl Yf) ?_;refine OL.panicC rfl rfl rfl rfl wrong_c ?_;exact outP wrong_c (.refl _) ⟨rfl,rfl,rfl⟩
 ·simp[hb] at h0
theorem q86(l:List U8)(n:Nat)(rb:Nat)(Hx:List Ent):RCall Tryz.prog 86 [.p rb 0,.i n] (rdr rb l::Hx) (if n<=l.length then some (u8s (l.take n),rdr rb (l.drop n)::Hx) else none) Hx wrongA:=by
 refine aC (n:=31) Tryz.func86 λB I w0=>?_;refine Z14 ?_;by_cases hn:n<=l.length
 ·refine OL.rcallS rfl rfl rfl (.mk' rfl rfl rfl rfl rfl) (q71t Yw _) ?_;refine Z10 ?_;refine oP (POp.slTo3 rfl rfl rfl rfl rfl rfl rfl hn) ?_;refine Z11 ?_;refine oP (POp.slFrom rfl rfl YY rfl YY hn) ?_;refine Z12 ?_;refine r1 4 (rdr rb (l.drop n)::Hx) ?_;exact if_pos hn
 ·refine OL.rcallN rfl rfl (.mk' rfl rfl rfl rfl rfl) (q71f Yw _) wrong_c ?_;exact outP (P:=Tryz.prog) (fn:=Tryz.f86) wrong_c (.cons _ (.refl _)) ⟨if_neg hn,rfl,rfl⟩
theorem q86c(x:U8)(r:List U8)(rb:Nat)(Hx:List Ent):RCall Tryz.prog 86 [.p rb 0,.i 1] (rdr rb (x::r)::Hx) (some (u8s [x],rdr rb r::Hx)) Hx wrongA:=by
 have h:=q86 (x::r) 1 rb Hx;rwa [if_pos Yr] at h
theorem q86z(rb:Nat)(Hx:List Ent):RCall Tryz.prog 86 [.p rb 0,.i 1] (rdr rb []::Hx) none Hx wrongA:=by
 have h:=q86 [] 1 rb Hx;rwa [if_neg Yr] at h
def numO(l:List U8)(rb:Nat)(Hx:List Ent):Option (AV×List Ent):=(numberR l).map λp=>(AV.i p.1,rdr rb p.2::Hx)
theorem q134(l:List U8)(rb:Nat)(Hx:List Ent):RCall Tryz.prog 134 [.p rb 0] (rdr rb l::Hx) (numO l rb Hx) Hx wrongA:=by
 refine aC (n:=34) Tryz.func134 λB I w0=>?_;refine Z17 ?_;refine lj (λm st=>∃(i n:Nat) (l':List U8),st=⟨[(3,.i n),(6,.i i),(0,.p rb 0)],rdr rb l'::Hx⟩/\m=5 - i/\NumAt l i n l') (⟨0,0,l,rfl,rfl,.begin l⟩) ?_;rintro m _ ⟨i,n,l',rfl,rfl,hN⟩;have hle:=hN.le;have hlt:=hN.lt;refine Z6 ?_;refine cd (λh0=>?_) λh0=>?_
 ·have hi:i<5:=by omega
  have hp:=p128_le hi;refine Z13 ?_;rcases l' with _ | ⟨x,r⟩
  ·refine OL.rcallN rfl rfl (.mk' rfl rfl rfl rfl rfl) (q86z _ _) wrong_c ?_;exact outP (P:=Tryz.prog) (fn:=Tryz.f134) wrong_c (.refl _) ⟨by rw[numO,hN.empty];rfl,rfl,rfl⟩
  ·refine OL.rcallS rfl rfl rfl (.mk' rfl rfl rfl rfl rfl) (q86c _ _ _ _) ?_;refine oP (YB) ?_;refine Z8 ?_;refine oP (POp.bits rfl rfl rfl rfl rfl (u8_and127 x)) ?_;refine oP (POp.cv rfl rfl rfl (wrap64 Ya)) ?_;refine Z2 ?_;refine oP (POp.shift rfl rfl rfl rfl rfl Ya (sh7 (Nat.mod_lt _ YO) hi)) ?_;refine oP (POp.bits rfl rfl rfl rfl rfl (or7 hlt (Nat.mod_lt _ YO) hi)) ?_;refine Z9 ?_;refine cd (λh1=>?_) λh1=>?_
   ·have hx:x.val<128:=by exact Int.ofNat_lt.1 h1
    refine Z8 ?_;by_cases hg:i=0\/0<x.val
    ·refine OL.rcallS rfl rfl rfl (.mk' rfl rfl rfl rfl rfl) (q71t (by simpa using hg) _) ?_;refine Z14 ?_;refine r1 2 (rdr rb r::Hx) ?_;rw[numO,hN.last hi hx hg];rfl
    ·refine OL.rcallN rfl rfl (.mk' rfl rfl rfl rfl rfl) (q71f (by simpa using hg) _) wrong_c ?_;exact outP (P:=Tryz.prog) (fn:=Tryz.f134) wrong_c (.cons _ (.refl _)) ⟨by rw[numO,hN.bad hi hx hg];rfl,rfl,rfl⟩
   ·have hx: ¬x.val<128:=λh=>absurd (Int.ofNat_lt.2 h) Yaw;refine Z7 ?_;exact ag (⟨i+1,n+128^i*(x.val%128),r,rfl,rfl,hN.step hi hx⟩)
 ·refine Z7 ?_;refine oP (POp.makeIface rfl rfl rfl Yf) ?_;refine OL.panicC rfl rfl rfl rfl wrong_c ?_;exact outP (P:=Tryz.prog) (fn:=Tryz.f134) wrong_c (.cons _ (.refl _)) ⟨by rw[numO,hN.long Ya];rfl,rfl,rfl⟩
def manyO(l:List U8)(rb:Nat)(Hx:List Ent):Option (AV×List Ent):=(manyR l).map λp=>(AV.i p.1,rdr rb p.2::Hx)
theorem q134s{n:Nat}(h:numberR l=some (n,r))(rb:Nat)(Hx:List Ent):RCall Tryz.prog 134 [.p rb 0] (rdr rb l::Hx) (some (.i n,rdr rb r::Hx)) Hx wrongA:=by
 have:=q134 l rb Hx;rwa [numO,h] at this
theorem q134n(h:numberR l=none)(rb:Nat)(Hx:List Ent):RCall Tryz.prog 134 [.p rb 0] (rdr rb l::Hx) none Hx wrongA:=by
 have:=q134 l rb Hx;rwa [numO,h] at this
theorem q164(l:List U8)(rb:Nat)(Hx:List Ent):RCall Tryz.prog 164 [.p rb 0] (rdr rb l::Hx) (manyO l rb Hx) Hx wrongA:=by
 refine aC (n:=15) Tryz.func164 λB I w0=>?_;refine Z8 ?_;rcases hq:numberR l with _ | ⟨n,r⟩
 ·refine OL.rcallN rfl rfl (.mk' rfl rfl rfl rfl rfl) (q134n hq _ _) wrong_c ?_;exact outP (P:=Tryz.prog) (fn:=Tryz.f164) wrong_c (.refl _) ⟨by rw[manyO,manyR,hq];rfl,rfl,rfl⟩
 ·refine OL.rcallS rfl rfl rfl (.mk' rfl rfl rfl rfl rfl) (q134s hq _ _) ?_;refine Z12 ?_;by_cases hn:n<=r.length
  ·refine OL.rcallS rfl rfl rfl (.mk' rfl rfl rfl rfl rfl) (q71t Yw _) ?_;refine Z9 ?_;refine r1 2 (rdr rb r::Hx) ?_;exact by rw[manyO,manyR,hq];simp only;rw[if_pos hn];rfl
  ·refine OL.rcallN rfl rfl (.mk' rfl rfl rfl rfl rfl) (q71f Yw _) wrong_c ?_;exact outP (P:=Tryz.prog) (fn:=Tryz.f164) wrong_c (.cons _ (.refl _)) ⟨by rw[manyO,manyR,hq];simp only;rw[if_neg hn];rfl,rfl,rfl⟩
theorem q164s{n:Nat}(h:manyR l=some (n,r))(rb:Nat)(Hx:List Ent):RCall Tryz.prog 164 [.p rb 0] (rdr rb l::Hx) (some (.i n,rdr rb r::Hx)) Hx wrongA:=by
 have:=q164 l rb Hx;rwa [manyO,h] at this
theorem q164n(h:manyR l=none)(rb:Nat)(Hx:List Ent):RCall Tryz.prog 164 [.p rb 0] (rdr rb l::Hx) none Hx wrongA:=by
 have:=q164 l rb Hx;rwa [manyO,h] at this
theorem q117(k:U8)(l:List U8)(hl:l.length<140737488355328):PCall Tryz.prog 117 [.i k.val,u8s l] (u8s (sumR k l)):=by
 intro H;refine aC (n:=40) Tryz.func117 λB I w0=>?_;have hlen:(k::l).length=l.length+1:=rfl;refine Z15 ?_;refine oP (POp.cv rfl rfl rfl (u8_wrap8 k)) ?_;refine OL.rowOwn (els:=[[u8 k]]) rfl rfl rfl rfl Yh rfl rfl rfl rfl rfl rfl rfl (λv11=>?_);refine Z1 ?_;refine OL.appendC rfl rfl rfl rfl rfl rfl rfl rfl (AVle.refl _) (one_map (λ_=>rfl) l) (λv=>by repeat (first | exact Upd.head _ _ _ | apply Upd.tail)) Yw Yw (λv13=>?_);refine OL.le 13 (y:=u8s (k::l)) rfl (AVle.asL _ _) ?_;refine Z5 ?_;refine lj (λm st=>∃j:Nat,st=⟨[(15,.i j),(14,.i (k::l).length),(13,u8s (k::l)),(5,.i (sumP ((k::l).take j)).1),(6,.i (sumP ((k::l).take j)).2)],H⟩/\m=(k::l).length - j/\j<=(k::l).length) (⟨0,rfl,rfl,Nat.zero_le _⟩) ?_;rintro m _ ⟨j,rfl,rfl,hj⟩;obtain⟨hb1,hb2⟩:=sumP_lt ((k::l).take j);refine Z6 ?_;refine cd (λh0=>?_) λh0=>?_
 ·have hj':j<(k::l).length:=Int.ofNat_lt.1 h0;obtain⟨x,hx⟩:∃x,x=(k::l).getD j default:=⟨_,rfl⟩;have hst:=sumP_step hj';rw[<-hx] at hst;have hxl:=x.isLt;refine Z12 ?_;rw[<-hx];refine Z3 ?_;refine oP (POp.cv rfl rfl rfl (wrap64 Ya)) ?_;refine Z1 ?_;refine oP (POp.div rfl rfl rfl rfl rfl YO (.inr ⟨rfl,tm_sum _ _⟩)) ?_;refine Z7 ?_;refine oP (POp.div rfl rfl rfl rfl rfl YO (.inr ⟨rfl,tm_sum _ _⟩)) ?_;refine Z8 ?_;exact ag (⟨j+1,by rw[hst],rfl,hj'⟩)
 ·obtain rfl:j=(k::l).length:=by omega
  rw[List.take_length] at hb1 hb2 ⊢;refine Z8 ?_;refine oP (POp.shift rfl rfl rfl rfl rfl YO (shr8 _)) ?_;refine oP (POp.cv rfl rfl rfl (u8_wrap _)) ?_;refine Z1 ?_;refine oP (POp.cv rfl rfl rfl (u8_wrap _)) ?_;refine Z1 ?_;refine oP (POp.shift rfl rfl rfl rfl rfl YO (shr8 _)) ?_;refine oP (POp.cv rfl rfl rfl (u8_wrap _)) ?_;refine Z1 ?_;refine oP (POp.cv rfl rfl rfl (u8_wrap _)) ?_;refine oP (POp.row rfl rfl Yh rfl rfl rfl rfl rfl rfl) ?_;refine Z4 ?_;refine r1 4 (H) ?_;exact⟨Yg,rfl⟩
theorem q87(l r:List U8):PCall Tryz.prog 87 [u8s l,u8s r] (.b (l==r)):=by
 intro H;refine aC (n:=10) Tryz.func87 λB I w0=>?_;refine Z8 ?_;refine oP (POp.bytesStr (ns:=l.map λx=>(x.val:Int)) rfl Ya8 rfl Yf) ?_;refine Z1 ?_;refine oP (POp.bytesStr (ns:=r.map λx=>(x.val:Int)) rfl Ya8 rfl Yf) ?_;refine oP (POp.eqS rfl rfl rfl rfl rfl) ?_;refine Z4 ?_;refine r1 4 (H) ?_;exact⟨retB (strOf_eq l r),rfl⟩
end Go.Proofs.YtpgnjlngepfanaaGreat

namespace Go.Proofs.YtpgnjlngepfanaaGreat
open Go.Eng
open Go.Eng.Fc
open Go.Eng.Bd
open Go.Eng.Im (U8 u8 u8s sumR)
open Go.Eng.Im (U8 u8 u8s)
open Go.Eng.Im (U8 u8 u8s sumR sumP sumStep)
variable{x:Int×Int}
theorem class1(h1:okN x.1)(h2:okZ x.2)(wb:Nat){out:List U8}(hb:out.length+(initW x).length<=1000000000)(v:Value)(H:List Ent):ACall Tryz.prog 183 [.agg (initA x),.ptr [.p wb 0]] (wrE wb (out) v H) (λ_ H'=>∃v',H'=wrE wb (out++initW x) v' H) (λ_ _=>False):=by
 refine aC (n:=11) Tryz.func183 λB I w0=>?_;simp only[initW,List.length_append] at hb;refine Z10 ?_;refine bC .k ((numberC h1 wb Ya _ H).b) ?_;rintro y _ ⟨v1,rfl⟩;refine Z6 ?_;refine bC .k ((integerC h2 wb Yaf _ H).b) ?_;rintro y _ ⟨v2,rfl⟩;refine Z1 ?_;refine nR [] (wrE wb (out++numI x.1++intW x.2) v2 H) ?_;exact⟨v2,by rw[initW,List.append_assoc]⟩
theorem classC{c:Cls}(hc:okC c)(wb:Nat){out:List U8}(hb:out.length+(clsW c).length<=1000000000)(v:Value)(H:List Ent):ACall Tryz.prog 119 [.p wb 0,AV.cls c] (wrE wb (out) v H) (λ_ H'=>∃v',H'=wrE wb (out++clsW c) v' H) (λ_ _=>False):=by
 refine aC (n:=20) Tryz.func119 λB I w0=>?_;have h1:=hc.pl;have h2:=hc.sl;have h3:=hc.il;simp only[clsW,List.length_append] at hb;refine Z13 ?_;refine bC .k ((writtenI (f:=numI) (l:=c.parents) Ya (WrOk.fn (λx hx o u hu=>numberC (hc.ps x hx) wb hu u H)) Ya _).b) ?_;rintro y _ ⟨v1,rfl⟩;refine Z8 ?_;refine bC .k ((numberC (n:=c.slots.length) ⟨Ya,Ya⟩ wb (by have e:(numI (c.slots.length:Int)).length=(numW c.slots.length).length:=rfl;rw[List.length_append];omega) _ H).b) ?_;rintro y _ ⟨v2,rfl⟩;refine Z7 ?_;refine bC .k ((writtenN (f:=initW) (l:=c.inits) Ya (WrOk.fn (λx hx o u hu=>class1 (hc.is x hx).1 (hc.is x hx).2 wb hu u H)) (by simp only[List.length_append];have e:(numI (c.slots.length:Int)).length=(numW c.slots.length).length:=rfl;omega) _).b) ?_;rintro y _ ⟨v3,rfl⟩;refine Z1 ?_;refine nR [] (wrE wb (out++listW numI c.parents++numW c.slots.length++listW initW c.inits) v3 H) ?_;exact⟨v3,by rw[clsW];simp only[List.append_assoc]⟩
theorem fact_step(f:Fact)(ih:∀k∈f.kids,okF k->∀(wb:Nat) {out:List U8},out.length+(factW k).length<=1000000000->∀(v:Value) (H:List Ent),ACall Tryz.prog 185 [.p wb 0,AV.fact k] (wrE wb (out) v H) (λ_ H'=>∃v',H'=wrE wb (out++factW k) v' H) (λ_ _=>False))(hf0:okF f)(wb:Nat){out:List U8}(hb:out.length+(factW f).length<=1000000000)(v:Value)(H:List Ent):ACall Tryz.prog 185 [.p wb 0,AV.fact f] (wrE wb (out) v H) (λ_ H'=>∃v',H'=wrE wb (out++factW f) v' H) (λ_ _=>False):=by
 refine aC (n:=50) Tryz.func185 λB I w0=>?_;have hf:=okF_iff hf0;rw[factW_eq f] at hb;simp only[List.length_append] at hb;refine Z10 ?_;refine bC .k ((numberC hf.op wb Ya _ H).b) ?_;rintro y _ ⟨v1,rfl⟩;refine Z2 ?_;refine CW.cutJ (λst=>∃v2,st=⟨[(3,.ptr (Fcells f)),(0,.p wb 0)],wrE wb (out++numI f.op++leafW f.op f.arg f.path f.cls f.n) v2 H⟩) ?_ ?_
 ·refine Z12 ?_;refine CW.cond rfl (λh0=>?_) (λh0=>?_)
  ·have hop:2<=f.op/\f.op<=4:=by simpa using h0
   obtain⟨ha1,ha2,ha3⟩:=hf.at_ hop;have hlf:(numI f.arg).length+(listW numI f.path).length+(if f.op=2 then numI f.cls else intW f.n).length=(leafW f.op f.arg f.path f.cls f.n).length:=by
    unfold leafW;by_cases e2:f.op=2
    ·rw[if_pos e2,if_pos e2];simp only[List.length_append]
    ·rw[if_neg e2,if_neg e2,if_pos Ya];simp only[List.length_append]
   refine Z5 ?_;refine bC .k ((numberC ha1 wb Yaf _ H).b) ?_;rintro y _ ⟨v3,rfl⟩;refine Z9 ?_;refine bC .k ((writtenI (f:=numI) Ya (WrOk.fn (λx hx o u hu=>numberC (ha3 x hx) wb hu u H)) Yy _).b) ?_;rintro y _ ⟨v4,rfl⟩;refine Z9 ?_;refine cd (λh1=>?_) λh1=>?_
   ·rw[if_pos h1] at hlf;refine Z4 ?_;refine bC .k ((numberC (hf.cls h1) wb Yy _ H).b) ?_;rintro y _ ⟨v5,rfl⟩;refine Z1 ?_;rw[show out++numI f.op++numI f.arg++listW numI f.path++numI f.cls=out++numI f.op++leafW f.op f.arg f.path f.cls f.n from by rw[leafW,if_pos h1];simp only[List.append_assoc,List.append_nil]];exact cj ⟨_,rfl⟩
   ·rw[if_neg h1] at hlf;refine Z4 ?_;refine bC .k ((integerC (hf.n Ya) wb Yy _ H).b) ?_;rintro y _ ⟨v6,rfl⟩;refine Z1 ?_;rw[show out++numI f.op++numI f.arg++listW numI f.path++intW f.n=out++numI f.op++leafW f.op f.arg f.path f.cls f.n from by rw[leafW,if_neg h1,if_pos Ya];simp only[List.append_assoc,List.append_nil]];exact cj ⟨_,rfl⟩
  ·have hop: ¬(2<=f.op/\f.op<=4):=by simpa using h0
   refine Z1 ?_;have e:leafW f.op f.arg f.path f.cls f.n= []:=by rw[leafW,if_neg Ya,if_neg Ya]
   rw[e,List.append_nil];exact cj ⟨_,rfl⟩
 ·rintro _ ⟨v2,rfl⟩;refine Z9 ?_;refine CW.boundM (t:=40) rfl (λhb40=>?_);refine lj (λm st=>∃(i:Nat) (v':Value),st=⟨[(42,.i i),(41,.i f.kids.length),(40,AV.facts f.kids),(0,.p wb 0)],wrE wb (out++numI f.op++leafW f.op f.arg f.path f.cls f.n++(f.kids.take i).flatMap factW) v' H⟩/\m=f.kids.length - i/\i<=f.kids.length) (⟨0,v2,YD,rfl,Ya⟩) ?_;rintro m _ ⟨i,v',rfl,rfl,hi⟩;refine Z6 ?_;refine cd (λh2=>?_) λh2=>?_
  ·have hil:i<f.kids.length:=by omega
   have hkm:=getD_memB hil;have hfl:=flat_take_len factW f.kids (i+1);rw[flat_take factW hil,List.length_append] at hfl;refine Z8 ?_;refine OL.alC rfl rfl rfl rfl (λb0=>?_);refine Z3 ?_;refine CW.freezeP (d:=5) rfl Yl ?_;refine Z3 ?_;refine bC .k ((ih _ hkm (hf.kids _ hkm) wb Yy _ H).b) ?_;rintro y _ ⟨v7,rfl⟩;refine Z7 ?_;exact ag (⟨i+1,v7,by rw[flat_take factW hil, <-List.append_assoc],rfl,hil⟩)
  ·obtain rfl:i=f.kids.length:=by omega
   rw[List.take_length];refine Z4 ?_;refine nR [] (wrE wb (out++numI f.op++leafW f.op f.arg f.path f.cls f.n++f.kids.flatMap factW) v' H) ?_;exact⟨v',by rw[factW_eq f];simp only[List.append_assoc]⟩
theorem factC:∀(f:Fact),okF f->∀(wb:Nat) {out:List U8},out.length+(factW f).length<=1000000000->∀(v:Value) (H:List Ent),ACall Tryz.prog 185 [.p wb 0,AV.fact f] (wrE wb (out) v H) (λ_ H'=>∃v',H'=wrE wb (out++factW f) v' H) (λ_ _=>False):=Fact.ind1 fact_step
theorem methodC{x:Mth}(hx:okM x)(wb:Nat){out:List U8}(hb:out.length+(mthW x).length<=1000000000)(v:Value)(H:List Ent):ACall Tryz.prog 123 [.p wb 0,.agg (mthA x)] (wrE wb (out) v H) (λ_ H'=>∃v',H'=wrE wb (out++mthW x) v' H) (λ_ _=>False):=by
 refine aC (n:=20) Tryz.func123 λB I w0=>?_;simp only[mthW,List.length_append] at hb;refine Z10 ?_;refine bC .k ((numberC hx.kind wb Ya _ H).b) ?_;rintro y _ ⟨v1,rfl⟩;refine Z7 ?_;refine bC .k ((numberC hx.gen wb Yy _ H).b) ?_;rintro y _ ⟨v2,rfl⟩;refine Z7 ?_;refine bC .k ((factC x.fact hx.fact wb Yy _ H).b) ?_;rintro y _ ⟨v3,rfl⟩;refine Z6 ?_;refine bC .k ((numberC hx.node wb Yy _ H).b) ?_;rintro y _ ⟨v4,rfl⟩;refine Z1 ?_;refine nR [] (wrE wb (out++numI x.kind++numI x.gen++factW x.fact++numI x.node) v4 H) ?_;exact⟨v4,by rw[mthW];simp only[List.append_assoc]⟩
theorem sIndexO(l:List Int)(v:Int):PCall Tryz.prog 220 [AV.ints l,.i v] (.i (idxB l v)):=by
 intro H;refine aC (n:=19) Tryz.func220 λB I w0=>?_;refine CW.boundM (t:=0) rfl (λhb0=>?_);refine Z14 ?_;refine lj (λm st=>∃k:Nat,st=⟨[(8,.i k),(7,.i l.length),(0,AV.ints l),(1,.i v)],H⟩/\m=l.length - k/\k<=l.length/\∀x∈l.take k,x≠v) (⟨0,rfl,rfl,Yr,Yr⟩) ?_;rintro m _ ⟨k,rfl,rfl,hk,hp⟩;refine Z6 ?_;refine cd (λh0=>?_) λh0=>?_
 ·refine Z20 ?_;refine cd (λh1=>?_) λh1=>?_
  ·refine Z12 ?_;refine r1 4 (H) ?_;exact⟨retI (idxB_at Ya hp h1),rfl⟩
  ·refine Z7 ?_;exact ag (⟨k+1,rfl,rfl,Ya,ne_step Ya hp h1⟩)
 ·refine Z11 ?_;refine r1 4 (H) ?_;exact⟨retI (idxB_none Yag),rfl⟩
theorem sContainsO(l:List Int)(v:Int):PCall Tryz.prog 191 [AV.ints l,.i v] (.b (l.contains v)):=by
 intro H;refine aC (n:=9) Tryz.func191 λB I w0=>?_;refine Z9 ?_;refine oP (POp.call .k ((sIndexO _ _))) ?_;refine Z5 ?_;refine r1 4 (H) ?_;exact⟨retB (idxB_contains _ _),rfl⟩
theorem numberedC(op:Int):PCall Tryz.prog 142 [.i op] (.b (nodeNum op)):=by
 intro H;refine aC (n:=6) Tryz.func142 λB I w0=>?_;refine Z7 ?_;refine oP (POp.row rfl rfl Yh rfl rfl rfl rfl rfl rfl) ?_;refine Z1 ?_;refine oP (POp.call .k (sContainsO [3,4,5,6,7,8] op)) ?_;refine Z4 ?_;refine r1 2 (H) ?_;exact⟨YaI,rfl⟩
theorem nodeC{x:Nd}(hx:okNd x)(wb:Nat){out:List U8}(hb:out.length+(ndW x).length<=1000000000)(v:Value)(H:List Ent):ACall Tryz.prog 125 [.p wb 0,AV.nd x] (wrE wb (out) v H) (λ_ H'=>∃v',H'=wrE wb (out++ndW x) v' H) (λ_ _=>False):=by
 refine aC (n:=37) Tryz.func125 λB I w0=>?_;have hkl:=hx.kl;simp only[ndW,List.length_append] at hb;refine Z10 ?_;refine bC .k ((numberC hx.op wb Ya _ H).b) ?_;rintro y _ ⟨v1,rfl⟩;refine Z2 ?_;refine CW.cutJ (λst=>∃v2,st=⟨[(3,.ptr (ndA x)),(0,.p wb 0)],wrE wb (out++numI x.op++ndN x) v2 H⟩) ?_ ?_
 ·refine Z9 ?_;refine cd (λh0=>?_) λh0=>?_
  ·have e:ndN x=intW x.n:=by rw[ndN,if_pos h0]
   rw[e] at hb ⊢;refine Z4 ?_;refine bC .k ((integerC (hx.i h0) wb Yaf _ H).b) ?_;rintro y _ ⟨v3,rfl⟩;refine Z2 ?_;exact cj ⟨v3,rfl⟩
  ·refine Z4 ?_;refine oP (POp.call .k ((numberedC _))) ?_;refine Z3 ?_;refine cd (λh1=>?_) λh1=>?_
   ·have e:ndN x=numI x.n:=by rw[ndN,if_neg h0,if_pos h1]
    rw[e] at hb ⊢;refine Z4 ?_;refine bC .k ((numberC (hx.n h1) wb Yaf _ H).b) ?_;rintro y _ ⟨v4,rfl⟩;refine Z2 ?_;exact cj ⟨v4,rfl⟩
   ·have e:ndN x= []:=by rw[ndN,if_neg h0,if_neg (by rw[h1];simp)]
    rw[e,List.append_nil];refine Z2 ?_;exact cj ⟨v1,rfl⟩
 ·rintro _ ⟨v2,rfl⟩;refine Z9 ?_;refine lj (λm st=>∃(i:Nat) (v':Value),st=⟨[(29,.i i),(28,.i x.kids.length),(27,AV.ints x.kids),(0,.p wb 0)],wrE wb (out++numI x.op++ndN x++(x.kids.take i).flatMap numI) v' H⟩/\m=x.kids.length - i/\i<=x.kids.length) (⟨0,v2,YD,rfl,Ya⟩) ?_;rintro m _ ⟨i,v',rfl,rfl,hi⟩;refine Z6 ?_;refine cd (λh2=>?_) λh2=>?_
  ·have hil:i<x.kids.length:=by omega
   have hfl:=flat_take_len numI x.kids (i+1);rw[flat_take numI hil,List.length_append] at hfl;refine Z14 ?_;refine bC .k ((numberC (hx.kids _ (getD_memB hil)) wb Yy _ H).b) ?_;rintro y _ ⟨v7,rfl⟩;refine Z7 ?_;exact ag (⟨i+1,v7,by rw[flat_take numI hil, <-List.append_assoc],rfl,hil⟩)
  ·obtain rfl:i=x.kids.length:=by omega
   rw[List.take_length];refine Z4 ?_;refine nR [] (wrE wb (out++numI x.op++ndN x++x.kids.flatMap numI) v' H) ?_;exact⟨v',by rw[ndW];simp only[List.append_assoc]⟩
theorem programC{p:Prog}(hp:okP p)(wb:Nat){out:List U8}(hb:out.length+(progW p).length<=1000000000)(v:Value)(H:List Ent):ACall Tryz.prog 61 [.p wb 0,AV.prog p] (wrE wb (out) v H) (λ_ H'=>∃v',H'=wrE wb (out++progW p) v' H) (λ_ _=>False):=by
 refine aC (n:=32) Tryz.func61 λB I w0=>?_;have h1:=hp.cl;have h2:=hp.gl;have h3:=hp.ml;have h4:=hp.nl;simp only[progW,List.length_append] at hb;refine Z12 ?_;refine bC .k ((writtenC (f:=clsW) (l:=p.classes) Ya (WrOk.fn (λx hx o u hu=>classC (hp.cs x hx) wb hu u H)) Ya _).b) ?_;rintro y _ ⟨v1,rfl⟩;refine Z9 ?_;refine bC .k ((writtenI (f:=numI) (l:=p.gens) Ya (WrOk.fn (λx hx o u hu=>numberC (hp.gs x hx) wb hu u H)) Yy _).b) ?_;rintro y _ ⟨v2,rfl⟩;refine Z9 ?_;refine bC .k ((writtenM (f:=mthW) (l:=p.methods) Ya (WrOk.fn (λx hx o u hu=>methodC (hp.ms x hx) wb hu u H)) Yy _).b) ?_;rintro y _ ⟨v3,rfl⟩;refine Z9 ?_;refine bC .k ((writtenD (f:=ndW) (l:=p.nodes) Ya (WrOk.fn (λx hx o u hu=>nodeC (hp.ns x hx) wb hu u H)) Yy _).b) ?_;rintro y _ ⟨v4,rfl⟩;refine Z6 ?_;refine bC .k ((numberC hp.main wb Yy _ H).b) ?_;rintro y _ ⟨v5,rfl⟩;refine Z1 ?_;refine nR [] (wrE wb (out++listW clsW p.classes++listW numI p.gens++listW mthW p.methods++listW ndW p.nodes++numI p.main) v5 H) ?_;exact⟨v5,by rw[progW];simp only[List.append_assoc]⟩
theorem valueW(hx:okVal x)(wb:Nat){out:List U8}(hb:out.length+(valW x).length<=1000000000)(v:Value)(H:List Ent):ACall Tryz.prog 126 [.p wb 0,AV.mv x] (wrE wb (out) v H) (λ_ H'=>∃v',H'=wrE wb (out++valW x) v' H) (λ_ _=>False):=by
 refine aC (n:=22) Tryz.func126 λB I w0=>?_;simp only[valW,List.length_append] at hb;refine Z10 ?_;refine bC .k ((numberC hx.k wb Ya _ H).b) ?_;rintro y _ ⟨v1,rfl⟩;refine Z15 ?_;refine cd (λh0=>?_) λh0=>?_
 ·rw[if_pos h0] at hb;refine Z4 ?_;refine bC .k ((integerC (hx.i h0) wb Yaf _ H).b) ?_;rintro y _ ⟨v2,rfl⟩;refine Z2 ?_;refine nR [] (wrE wb (out++numI x.1++intW x.2) v2 H) ?_;exact⟨v2,by rw[valW,if_pos h0,List.append_assoc]⟩
 ·refine Z6 ?_;refine cd (λh1=>?_) λh1=>?_
  ·rw[if_neg h0,if_pos h1] at hb;refine Z4 ?_;refine bC .k ((numberC (hx.n h1) wb Yaf _ H).b) ?_;rintro y _ ⟨v3,rfl⟩;refine Z2 ?_;refine nR [] (wrE wb (out++numI x.1++numI x.2) v3 H) ?_;exact⟨v3,by rw[valW,if_neg h0,if_pos h1,List.append_assoc]⟩
  ·refine Z2 ?_;refine nR [] (wrE wb (out++numI x.1) v1 H) ?_;exact⟨v1,by rw[valW,if_neg h0,if_neg h1,List.append_nil]⟩
theorem objectC{x:Th}(hx:okT x)(wb:Nat){out:List U8}(hb:out.length+(thW x).length<=1000000000)(v:Value)(H:List Ent):ACall Tryz.prog 64 [.p wb 0,.agg (thA x)] (wrE wb (out) v H) (λ_ H'=>∃v',H'=wrE wb (out++thW x) v' H) (λ_ _=>False):=by
 refine aC (n:=21) Tryz.func64 λB I w0=>?_;have hvl:=hx.vl;simp only[thW,List.length_append] at hb;refine Z10 ?_;refine bC .k ((numberC hx.cls wb Ya _ H).b) ?_;rintro y _ ⟨v1,rfl⟩;refine Z11 ?_;refine lj (λm st=>∃(i:Nat) (v':Value),st=⟨[(13,.i i),(12,.i x.slots.length),(11,AV.mvs x.slots),(0,.p wb 0)],wrE wb (out++numI x.cls++(x.slots.take i).flatMap valW) v' H⟩/\m=x.slots.length - i/\i<=x.slots.length) (⟨0,v1,YD,rfl,Ya⟩) ?_;rintro m _ ⟨i,v',rfl,rfl,hi⟩;refine Z6 ?_;refine cd (λh0=>?_) λh0=>?_
 ·have hil:i<x.slots.length:=by omega
  have hfl:=flat_take_len valW x.slots (i+1);rw[flat_take valW hil,List.length_append] at hfl;refine Z8 ?_;refine OL.alC rfl rfl rfl rfl (λb0=>?_);refine Z3 ?_;refine CW.freezeP (d:=5) rfl Yl ?_;refine Z3 ?_;refine bC .k ((valueW (hx.vs _ (getD_memB hil)) wb Yy _ H).b) ?_;rintro y _ ⟨v7,rfl⟩;refine Z7 ?_;exact ag (⟨i+1,v7,by rw[flat_take valW hil, <-List.append_assoc],rfl,hil⟩)
 ·obtain rfl:i=x.slots.length:=by omega
  rw[List.take_length];refine Z4 ?_;refine nR [] (wrE wb (out++numI x.cls++x.slots.flatMap valW) v' H) ?_;exact⟨v',by rw[thW];simp only[List.append_assoc]⟩
end Go.Proofs.YtpgnjlngepfanaaGreat

namespace Go.Proofs.YtpgnjlngepfanaaGreat
open Go.Eng
open Go.Eng.Fc
open Go.Eng.Bd
open Go.Eng.Im (U8 u8 u8s sumR sumP sumStep)
open Go.Eng.Im
theorem wr_swap(a b:Nat)(o o':List U8)(v v':Value)(H:List Ent):(wrE a o v (wrE b o' v' H)).Perm (wrE b o' v' (wrE a o v H)):=List.perm_append_comm_assoc [_,_] [_,_] H
theorem sumC(k:U8)(l:List U8)(hl:l.length<140737488355328):PCall Tryz.prog 117 [.i k.val,u8s l] (u8s (sumR k l)):=by
 intro H;refine aC (n:=40) Tryz.func117 λB I w0=>?_;have hlen:(k::l).length=l.length+1:=rfl;refine Z15 ?_;refine oP (POp.cv rfl rfl rfl (u8_wrap8 k)) ?_;refine OL.rowOwn (els:=[[u8 k]]) rfl rfl rfl rfl Yh rfl rfl rfl rfl rfl rfl rfl (λv11=>?_);refine Z1 ?_;refine OL.appendC rfl rfl rfl rfl rfl rfl rfl rfl (AVle.refl _) (one_map (λ_=>rfl) l) (λv=>by repeat (first | exact Upd.head _ _ _ | apply Upd.tail)) Yw Yw (λv13=>?_);refine OL.le 13 (y:=u8s (k::l)) rfl (AVle.asL _ _) ?_;refine Z5 ?_;refine lj (λm st=>∃j:Nat,st=⟨[(15,.i j),(14,.i (k::l).length),(13,u8s (k::l)),(5,.i (sumP ((k::l).take j)).1),(6,.i (sumP ((k::l).take j)).2)],H⟩/\m=(k::l).length - j/\j<=(k::l).length) (⟨0,rfl,rfl,Nat.zero_le _⟩) ?_;rintro m _ ⟨j,rfl,rfl,hj⟩;obtain⟨hb1,hb2⟩:=sumP_lt ((k::l).take j);refine Z6 ?_;refine cd (λh0=>?_) λh0=>?_
 ·have hj':j<(k::l).length:=Int.ofNat_lt.1 h0;obtain⟨x,hx⟩:∃x,x=(k::l).getD j default:=⟨_,rfl⟩;have hst:=sumP_step hj';rw[<-hx] at hst;have hxl:=x.isLt;refine Z12 ?_;rw[<-hx];refine Z3 ?_;refine oP (POp.cv rfl rfl rfl (wrap64 Ya)) ?_;refine Z1 ?_;refine oP (POp.div rfl rfl rfl rfl rfl YO (.inr ⟨rfl,tm_sum _ _⟩)) ?_;refine Z7 ?_;refine oP (POp.div rfl rfl rfl rfl rfl YO (.inr ⟨rfl,tm_sum _ _⟩)) ?_;refine Z8 ?_;exact ag (⟨j+1,by rw[hst],rfl,hj'⟩)
 ·obtain rfl:j=(k::l).length:=by omega
  rw[List.take_length] at hb1 hb2 ⊢;refine Z8 ?_;refine oP (POp.shift rfl rfl rfl rfl rfl YO (shr8 _)) ?_;refine oP (POp.cv rfl rfl rfl (u8_wrap _)) ?_;refine Z1 ?_;refine oP (POp.cv rfl rfl rfl (u8_wrap _)) ?_;refine Z1 ?_;refine oP (POp.shift rfl rfl rfl rfl rfl YO (shr8 _)) ?_;refine oP (POp.cv rfl rfl rfl (u8_wrap _)) ?_;refine Z1 ?_;refine oP (POp.cv rfl rfl rfl (u8_wrap _)) ?_;refine oP (POp.row rfl rfl Yh rfl rfl rfl rfl rfl rfl) ?_;refine Z4 ?_;refine r1 4 (H) ?_;exact⟨Yg,rfl⟩
theorem eqBytes(l r:List U8):PCall Tryz.prog 87 [u8s l,u8s r] (.b (l==r)):=by
 intro H;refine aC (n:=10) Tryz.func87 λB I w0=>?_;refine Z8 ?_;refine oP (POp.bytesStr (ns:=l.map λx=>(x.val:Int)) rfl Ya8 rfl Yf) ?_;refine Z1 ?_;refine oP (POp.bytesStr (ns:=r.map λx=>(x.val:Int)) rfl Ya8 rfl Yf) ?_;refine oP (POp.eqS rfl rfl rfl rfl rfl) ?_;refine Z4 ?_;refine r1 4 (H) ?_;exact⟨retB (strOf_eq l r),rfl⟩
theorem one_flat(l:List U8):listW (λx=>[x]) l=numW l.length++l:=by rw[listW];congr 1;simp
theorem secW_eq(out:List U8)(k:U8)(body:List U8):out++[k]++listW (λx=>[x]) body++sumR k body=out++secW k body:=by
 rw[one_flat,secW];simp only[List.append_assoc]
theorem sumR_len(k:U8)(l:List U8):(sumR k l).length=4:=rfl
theorem take_one{l:List U8}{i:Nat}(hi:i<l.length)(o:List U8):o++l.take i++[l.getD i default]=o++l.take (i+1):=by rw[List.append_assoc,take_getD hi]
theorem sectionC{g:Fn}{gs gc:List AV}(wb:Nat){out:List U8}(k:U8){body:List U8}{v:Value}{H:List Ent}(hb:out.length+(secW k body).length<=1000000000)
  (hin:∀B ib u,VCall B Tryz.prog (.fn g gs gc) [.p ib 0] (wrE ib [] u (wrE wb out v H)) (λ_ H'=>∃v',H'=wrE ib body v' (wrE wb out v H)) (λ_ _=>False)):ACall Tryz.prog 59 [.p wb 0,.i k.val,.fn g gs gc] (wrE wb (out) v H) (λ_ H'=>∃v',H'=wrE wb (out++secW k body) v' H) (λ_ _=>False):=by
 refine aC (n:=49) Tryz.func59 λB I w0=>?_;have hbs:out.length+(1+(numW body.length).length+body.length+4)<=1000000000:=by simp only[secW,List.length_append,sumR_len] at hb;exact hb
 refine Z3 ?_;refine OL.boxC rfl rfl rfl rfl rfl rfl rfl (λib=>?_);refine Z4 ?_;refine CW.ownNilB (b:=ib) (t:=99) 5 1 0 YC rfl rfl ?_;refine Z3 ?_;refine OL.vcallC rfl rfl rfl rfl rfl rfl rfl rfl (AVleL.refl _) (hin B ib _) ?_;rintro y _ ⟨v1,rfl⟩;refine Z3 ?_;refine CW.perm (wr_swap ib wb body out v1 v H) ?_;refine Z5 ?_;refine oP (POp.cv rfl rfl rfl (u8_wrap8 k)) ?_;refine bC .k ((putC wb k Ya _ (wrE ib body v1 H)).b) ?_;rintro y _ ⟨v2,rfl⟩;refine Z3 ?_;refine CW.dp mixed ?_;refine DP.anyC 0 10 49 rfl Ye rfl rfl Ye ?_;refine Z12 ?_;refine bC ((CallOk.mk' rfl rfl rfl rfl rfl).le (.cons (.refl _) (.cons (AVle.asL _ _) (.cons (.refl _) .nil)))) ((writtenB (f:=λx=>[x]) (l:=body) Ya (WrOk.fn (λx _ o u hu=>putC wb x hu u (wrE ib body v1 H))) (by rw[one_flat];simp only[List.length_append,List.length_singleton];omega) _).b) ?_;rintro y _ ⟨v3,rfl⟩;refine Z10 ?_;refine oP (POp.callLe .k (.cons (.refl _) (.cons (AVle.asL _ _) .nil)) (sumC k body Ya)) ?_;refine Z5 ?_;refine lj (λm st=>∃(i:Nat) (v':Value),st=⟨[(39,.i i),(38,.i (sumR k body).length),(37,u8s (sumR k body)),(0,.p wb 0)],wrE wb (out++[k]++listW (λx=>[x]) body++(sumR k body).take i) v' (wrE ib body v1 H)⟩/\m=4 - i/\i<=4) (⟨0,v3,by rw[List.take_zero,List.append_nil],rfl,Ya⟩) ?_;rintro m _ ⟨i,v',rfl,rfl,hi⟩;refine Z6 ?_;refine cd (λh0=>?_) λh0=>?_
 ·have hil:i<(sumR k body).length:=by rw[sumR_len] at h0 ⊢;omega
  have hi4:i<4:=hil;obtain⟨x,hx⟩:∃x,x=(sumR k body).getD i default:=⟨_,rfl⟩;have htk:=take_one hil (out++[k]++listW (λx=>[x]) body);rw[<-hx] at htk;refine Z11 ?_;rw[<-hx];refine Z5 ?_;refine bC .k ((putC wb x (by rw[one_flat];simp only[List.length_append,List.length_take,List.length_singleton,sumR_len];omega) _ (wrE ib body v1 H)).b) ?_;rintro y _ ⟨v5,rfl⟩;refine Z7 ?_;exact ag (⟨i+1,v5,by rw[<-htk],rfl,hi4⟩)
 ·obtain rfl:i=4:=by rw[sumR_len] at h0;omega
  rw[show (sumR k body).take 4=(sumR k body) from rfl,secW_eq];refine Z4 ?_;refine Done.norR (rs:=[]) (H':=wrE wb (out++secW k body) v' H) rfl (.nil) (AVleL.refl _) (by exact .cons_cons _ (.cons_cons _ (.cons _ (.cons _ (.refl _))))) ?_;exact⟨v',rfl⟩
theorem begunC(x:U8)(H:List Ent):ACall Tryz.prog 58 [u8 x] H (λy H'=>∃wb v,y= .p wb 0/\H'=wrE wb [67,x] v H) (λ_ _=>False):=by
 refine aC (n:=8) Tryz.func58 λB I w0=>?_;refine Z8 ?_;refine OL.rowOwn (els:=[[u8 67],[u8 x]]) rfl rfl rfl rfl Yh rfl rfl rfl rfl rfl rfl rfl (λv4=>?_);refine Z2 ?_;refine OL.boxC rfl rfl rfl rfl rfl rfl rfl (λwb=>?_);refine OL.perm (List.Perm.swap _ _ _) ?_;refine Z4 ?_;refine r1 2 (wrE wb [67,x] v4 H) ?_;exact⟨wb,v4,rfl,rfl⟩
end Go.Proofs.YtpgnjlngepfanaaGreat
