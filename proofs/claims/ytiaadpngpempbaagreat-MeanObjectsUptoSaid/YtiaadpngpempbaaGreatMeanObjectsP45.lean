/- Part 45 of the proof: contracts of functions of the program and what they need. No condition beyond those that each theorem names. -/
import Derived.Test.YtiaadpngpempbaaGreatMeanObjectsP15
set_option maxHeartbeats 1000000
set_option maxRecDepth 100000
set_option linter.unusedVariables false
set_option linter.unusedSimpArgs false
set_option maxRecDepth 10000
namespace Go.Proofs.YtiaadpngpempbaaGreat
open Go.Ev Go.Eng
open Go.Eng
open Go.Eng.Fc
open Go.Eng.Bd
variable{α:Type}{B i s k off j:Nat}{f:Fn}{fs cs:List AV}{F:List Ent->Prop}{J Jx:List Fact->List Ent->Prop}{Hm:List Ent}{p:Int->Bool}{l:List Int}{W:FW}{deep left v:Int}{U U':List Nat}{Jp:AV->List Ent->Prop}
abbrev unfV:Value:=.iface 239 (.agg #[])
abbrev unfA:AV:=.iface 239 (.agg [])
theorem unf_c:unfA.Const unfV where
 is I w u h:=by
  cases h with
  | iface _ _ v h=>cases h with
   | agg _ vs h=>
    have:vs= #[]:=by cases vs with | mk l=>cases h;rfl
    rw[this]
 rel I w:=.iface _ _ _ (.agg _ _ .nil)
def kindA:Option (Option Nat)->AV
 | none=>.val .nilIface
 | some none=>.iface 200 (.agg [])
 | some (some k)=>.iface 199 (.i k)
theorem needT{b:Bool}(hb:b=true)(H:List Ent):RCall Tryz.prog 111 [.b b] H (some (.tup [],H)) H unfA:=by
 refine aC (n:=6) Tryz.func111 λB I w0=>?_;refine Z6 ?_;refine CW.cond rfl (λh0=>?_) (λh0=>?_)
 ·simp[hb] at h0
 ·replace h0:=nm h0;refine Z1 ?_;refine nR [] (H) ?_;exact rfl
theorem needF{b:Bool}(hb:b=false)(H:List Ent):RCall Tryz.prog 111 [.b b] H none H unfA:=by
 refine aC (n:=6) Tryz.func111 λB I w0=>?_;refine Z6 ?_;refine CW.cond rfl (λh0=>?_) (λh0=>?_)
 ·replace h0:=nm h0;refine Z2 ?_;refine oP (POp.makeIface rfl rfl rfl (by kernel_rfl)) ?_;refine OL.panicC rfl rfl rfl rfl unf_c ?_;exact outP unf_c (.refl _) ⟨rfl,rfl,rfl⟩
 ·simp[hb] at h0
theorem between(n:Int):PCall Tryz.prog 174 [.i n] (.b (inP n)):=by
 intro H;refine aC (n:=9) Tryz.func174 λB I w0=>?_;refine Z17 ?_;refine r1 2 (H) ?_;exact⟨retB (by unfold inP;by_cases h: -1000000000<=n <;> simp[h]),rfl⟩
theorem sIndex(l:List Int)(v:Int):PCall Tryz.prog 44 [AV.ints l,.i v] (.i (idxB l v)):=by
 intro H;refine aC (n:=19) Tryz.func44 λB I w0=>?_;refine CW.boundM (t:=0) rfl (λhb0=>?_);refine Z14 ?_;refine lj (λm st=>∃k:Nat,st=⟨[(8,.i k),(7,.i l.length),(0,AV.ints l),(1,.i v)],H⟩/\m=l.length - k/\k<=l.length/\∀x∈l.take k,x≠v) (⟨0,rfl,rfl,by simp,by simp⟩) ?_;rintro m _ ⟨k,rfl,rfl,hk,hp⟩;refine Z6 ?_;refine cd (λh0=>?_) λh0=>?_
 ·refine Z20 ?_;refine cd (λh1=>?_) λh1=>?_
  ·refine Z12 ?_;refine r1 4 (H) ?_;exact⟨retI (idxB_at (by omega) hp h1),rfl⟩
  ·refine Z7 ?_;exact ag (⟨k+1,rfl,rfl,by omega,ne_step (by omega) hp h1⟩)
 ·refine Z11 ?_;refine r1 4 (H) ?_;exact⟨retI (idxB_none (by have e:k=l.length:=(by omega);rw[e,List.take_length] at hp;exact hp)),rfl⟩
theorem sContains(l:List Int)(v:Int):PCall Tryz.prog 120 [AV.ints l,.i v] (.b (l.contains v)):=by
 intro H;refine aC (n:=9) Tryz.func120 λB I w0=>?_;refine Z9 ?_;refine oP (POp.call .k ((sIndex _ _))) ?_;refine Z5 ?_;refine r1 4 (H) ?_;exact⟨retB (idxB_contains _ _),rfl⟩
theorem fine(g:List (List Int)):PCall Tryz.prog 160 [AV.intss g] (.b (fineP g)):=by
 intro H;refine aC (n:=44) Tryz.func160 λB I w0=>?_;refine CW.boundM (t:=0) rfl (λhb0=>?_);refine Z13 ?_;refine cd (λh0=>?_) λh0=>?_
 ·refine Z7 ?_;refine r1 2 (H) ?_;exact⟨retB (fine_no1 (by omega)).symm,rfl⟩
 ·refine Z11 ?_;refine lj (λm st=>∃i:Nat,st=⟨[(12,.i i),(11,.i g.length),(10,AV.intss g)],H⟩/\m=g.length - i/\i<=g.length/\fineG 0 (g.take i)=true) (⟨0,rfl,rfl,by omega,rfl⟩) ?_;rintro m _ ⟨i,rfl,rfl,hi,hg⟩;refine Z6 ?_;refine cd (λh1=>?_) λh1=>?_
  ·have hil:i<g.length:=by simpa using h1
   obtain⟨L,hL⟩:∃L,L=g.getD i default:=⟨_,rfl⟩;refine Z15 ?_;rw[<-hL];refine CW.boundM (t:=4) rfl (λhb4=>?_);refine Z6 ?_;refine cd (λh2=>?_) λh2=>?_
   ·refine Z12 ?_;refine r1 2 (H) ?_;exact⟨retB (fine_no2 hil (by rw[<-hL];have: ¬L.length<=3:=(by omega);simp[this])).symm,rfl⟩
   ·refine Z10 ?_;refine lj (λm st=>∃k:Nat,st=⟨[(22,.i k),(21,.i L.length),(20,AV.ints L),(3,.i i),(4,AV.ints L),(12,.i i),(11,.i g.length),(10,AV.intss g)],H⟩/\m=L.length - k/\k<=L.length/\fineL i [] (L.take k)=true) (⟨0,rfl,rfl,by omega,rfl⟩) ?_;rintro m _ ⟨k,rfl,rfl,hk,hl⟩;refine Z6 ?_;refine cd (λh3=>?_) λh3=>?_
    ·have hkl:k<L.length:=by simpa using h3
     refine Z26 ?_;refine OL.guardC rfl rfl rfl rfl rfl rfl (λhg=>POp.slTo rfl rfl (by first | rfl | exact hg | simp_all) rfl (by first | rfl | exact hg | simp_all) (by omega)) ?_;refine Z1 ?_;refine OL.guardC rfl rfl rfl rfl rfl rfl (λhg=>POp.call (.mk' rfl rfl rfl rfl (by first | rfl | ((repeat (first | exact hg | rfl | refine Bool.and_eq_true_iff.2 ⟨?_,?_⟩));done) | simp_all [strip,constAV])) ((sContains _ _))) ?_;refine Z3 ?_;refine cd (λh4=>?_) λh4=>?_
     ·refine Z15 ?_;refine r1 2 (H) ?_;exact⟨retB (fine_no2 hil (by rw[<-hL,fine_no3 hkl (by simp_all),Bool.and_false])).symm,rfl⟩
     ·refine Z7 ?_;exact ag (⟨k+1,rfl,rfl,hkl,by rw[fineL_take i L [] k hkl,hl];simp_all⟩)
    ·have e3:k=L.length:=by omega
     rw[e3,List.take_length] at hl;refine Z10 ?_;exact ag (⟨i+1,rfl,rfl,hil,by rw[fineG_take g 0 i hil,hg, <-hL,Nat.zero_add,hl];simp;omega⟩)
  ·have e1:i=g.length:=by omega
   rw[e1,List.take_length] at hg;refine Z11 ?_;refine r1 2 (H) ?_;exact⟨retB (by unfold fineP;rw[hg];simp;omega),rfl⟩
theorem lineCheck(g:List (List Int)):PCall Tryz.prog 173 [AV.intss g] (.i (if fineP g then 0 else 2)):=by
 intro H;refine aC (n:=6) Tryz.func173 λB I w0=>?_;refine Z9 ?_;refine oP (POp.call .k ((fine _))) ?_;refine Z3 ?_;refine cd (λh0=>?_) λh0=>?_
 ·refine Z7 ?_;refine r1 2 (H) ?_;exact⟨retI (by simp_all),rfl⟩
 ·refine Z8 ?_;refine r1 2 (H) ?_;exact⟨retI (by simp_all),rfl⟩
theorem kidsOf(op:Int):PCall Tryz.prog 116 [.i op] (kindA (kindOf op)):=by
 intro H;refine aC (n:=33) Tryz.func116 λB I w0=>?_;refine Z18 ?_;refine cd (λh0=>?_) λh0=>?_
 ·refine Z3 ?_;refine oP (POp.makeIface rfl rfl rfl (by kernel_rfl)) ?_;refine Z6 ?_;refine r1 2 (H) ?_;exact⟨retX (by simp_all [kindOf,kindA] <;> rfl),rfl⟩
 ·refine CW.cutJ (λst=>∃u:Bool,st=⟨[(8,.b u),(3,.i op)],H⟩/\u=decide (op=1\/op=2\/op=3\/op=6\/op=18)) ?_ ?_
  ·refine Z6 ?_;refine cd (λh1=>?_) λh1=>?_
   ·refine Z1 ?_;exact cj ⟨op==1,rfl,by by_cases hz:op=1 <;> simp_all⟩
   ·refine Z6 ?_;refine cd (λh2=>?_) λh2=>?_
    ·refine Z1 ?_;exact cj ⟨op==2,rfl,by by_cases hz:op=2 <;> simp_all⟩
    ·refine Z6 ?_;refine cd (λh3=>?_) λh3=>?_
     ·refine Z1 ?_;exact cj ⟨op==3,rfl,by by_cases hz:op=3 <;> simp_all⟩
     ·refine Z6 ?_;refine cd (λh4=>?_) λh4=>?_
      ·refine Z1 ?_;exact cj ⟨op==6,rfl,by by_cases hz:op=6 <;> simp_all⟩
      ·refine Z4 ?_;exact cj ⟨op==18,rfl,by by_cases hz:op=18 <;> simp_all⟩
  ·rintro _ ⟨u,rfl,hu4⟩;refine cd (λh5=>?_) λh5=>?_
   ·refine Z2 ?_;refine oP (POp.makeIface rfl rfl rfl (by kernel_rfl)) ?_;refine Z6 ?_;refine r1 2 (H) ?_;exact⟨retX (by simp_all [kindOf,kindA] <;> rfl),rfl⟩
   ·refine CW.cutJ (λst=>∃u:Bool,st=⟨[(15,.b u),(3,.i op)],H⟩/\u=decide (op=4\/op=8\/op=17)) ?_ ?_
    ·refine Z6 ?_;refine cd (λh6=>?_) λh6=>?_
     ·refine Z1 ?_;exact cj ⟨op==4,rfl,by by_cases hz:op=4 <;> simp_all⟩
     ·refine Z6 ?_;refine cd (λh7=>?_) λh7=>?_
      ·refine Z1 ?_;exact cj ⟨op==8,rfl,by by_cases hz:op=8 <;> simp_all⟩
      ·refine Z4 ?_;exact cj ⟨op==17,rfl,by by_cases hz:op=17 <;> simp_all⟩
    ·rintro _ ⟨u,rfl,hu10⟩;refine cd (λh8=>?_) λh8=>?_
     ·refine Z2 ?_;refine oP (POp.makeIface rfl rfl rfl (by kernel_rfl)) ?_;refine Z6 ?_;refine r1 2 (H) ?_;exact⟨retX (by simp_all [kindOf,kindA] <;> rfl),rfl⟩
     ·refine CW.cutJ (λst=>∃u:Bool,st=⟨[(20,.b u),(3,.i op)],H⟩/\u=decide (op=7\/op=9\/op=11\/op=12\/op=13\/op=14\/op=15\/op=16)) ?_ ?_
      ·refine Z6 ?_;refine cd (λh9=>?_) λh9=>?_
       ·refine Z1 ?_;exact cj ⟨op==7,rfl,by by_cases hz:op=7 <;> simp_all⟩
       ·refine Z6 ?_;refine cd (λh10=>?_) λh10=>?_
        ·refine Z1 ?_;exact cj ⟨op==9,rfl,by by_cases hz:op=9 <;> simp_all⟩
        ·refine Z6 ?_;refine cd (λh11=>?_) λh11=>?_
         ·refine Z1 ?_;exact cj ⟨op==11,rfl,by by_cases hz:op=11 <;> simp_all⟩
         ·refine Z6 ?_;refine cd (λh12=>?_) λh12=>?_
          ·refine Z1 ?_;exact cj ⟨op==12,rfl,by by_cases hz:op=12 <;> simp_all⟩
          ·refine Z6 ?_;refine cd (λh13=>?_) λh13=>?_
           ·refine Z1 ?_;exact cj ⟨op==13,rfl,by by_cases hz:op=13 <;> simp_all⟩
           ·refine Z6 ?_;refine cd (λh14=>?_) λh14=>?_
            ·refine Z1 ?_;exact cj ⟨op==14,rfl,by by_cases hz:op=14 <;> simp_all⟩
            ·refine Z6 ?_;refine cd (λh15=>?_) λh15=>?_
             ·refine Z1 ?_;exact cj ⟨op==15,rfl,by by_cases hz:op=15 <;> simp_all⟩
             ·refine Z4 ?_;exact cj ⟨op==16,rfl,by by_cases hz:op=16 <;> simp_all⟩
      ·rintro _ ⟨u,rfl,hu14⟩;refine cd (λh16=>?_) λh16=>?_
       ·refine Z2 ?_;refine oP (POp.makeIface rfl rfl rfl (by kernel_rfl)) ?_;refine Z6 ?_;refine r1 2 (H) ?_;exact⟨retX (by simp_all [kindOf,kindA] <;> rfl),rfl⟩
       ·refine Z6 ?_;refine cd (λh17=>?_) λh17=>?_
        ·refine Z2 ?_;refine oP (POp.makeIface rfl rfl rfl (by kernel_rfl)) ?_;refine Z6 ?_;refine r1 2 (H) ?_;exact⟨retX (by simp_all [kindOf,kindA] <;> rfl),rfl⟩
        ·refine Z9 ?_;refine r1 2 (H) ?_;exact⟨retX (by simp_all [kindOf,kindA] <;> rfl),rfl⟩
theorem number(p:Prog)(hC:p.classes.length<=100)(x:Nd)(size:Int):PCall Tryz.prog 115 [AV.prog p,AV.nd x,.i size] (.b (numP p x size)):=by
 intro H;refine aC (n:=52) Tryz.func115 λB I w0=>?_;refine Z26 ?_;refine cd (λh0=>?_) λh0=>?_
 ·refine Z4 ?_;refine oP (POp.call .k (between x.n)) ?_;refine Z6 ?_;refine r1 6 (H) ?_;exact⟨retB (by simp[numP,h0]),rfl⟩
 ·refine Z6 ?_;refine cd (λh1=>?_) λh1=>?_
  ·refine Z21 ?_;refine r1 6 (H) ?_;exact⟨retB (by unfold numP mostP;(repeat' split) <;> first | rfl | omega | (simp_all;done)),rfl⟩
  ·refine Z7 ?_;refine cd (λh2=>?_) λh2=>?_
   ·refine Z2 ?_;refine cd (λh3=>?_) λh3=>?_
    ·refine Z22 ?_;refine r1 6 (H) ?_;exact⟨retB (by unfold numP mostP;(repeat' split) <;> first | rfl | omega | (simp_all;done)),rfl⟩
    ·refine Z7 ?_;refine cd (λh4=>?_) λh4=>?_
     ·refine Z2 ?_;refine cd (λh5=>?_) λh5=>?_
      ·refine Z20 ?_;refine r1 6 (H) ?_;exact⟨retB (by unfold numP mostP;(repeat' split) <;> first | rfl | omega | (simp_all;done)),rfl⟩
      ·refine Z6 ?_;refine cd (λh6=>?_) λh6=>?_
       ·refine Z23 ?_;refine r1 6 (H) ?_;exact⟨retB (by unfold numP mostP;(repeat' split) <;> first | rfl | omega | (simp_all;done)),rfl⟩
       ·refine Z18 ?_;refine r1 6 (H) ?_;exact⟨retB (by unfold numP mostP;(repeat' split) <;> first | rfl | omega | (simp_all;done)),rfl⟩
     ·refine Z5 ?_;refine cd (λh7=>?_) λh7=>?_
      ·refine Z20 ?_;refine r1 6 (H) ?_;exact⟨retB (by unfold numP mostP;(repeat' split) <;> first | rfl | omega | (simp_all;done)),rfl⟩
      ·refine Z6 ?_;refine cd (λh8=>?_) λh8=>?_
       ·refine Z23 ?_;refine r1 6 (H) ?_;exact⟨retB (by unfold numP mostP;(repeat' split) <;> first | rfl | omega | (simp_all;done)),rfl⟩
       ·refine Z18 ?_;refine r1 6 (H) ?_;exact⟨retB (by unfold numP mostP;(repeat' split) <;> first | rfl | omega | (simp_all;done)),rfl⟩
   ·refine Z5 ?_;refine cd (λh9=>?_) λh9=>?_
    ·refine Z22 ?_;refine r1 6 (H) ?_;exact⟨retB (by unfold numP mostP;(repeat' split) <;> first | rfl | omega | (simp_all;done)),rfl⟩
    ·refine Z7 ?_;refine cd (λh10=>?_) λh10=>?_
     ·refine Z2 ?_;refine cd (λh11=>?_) λh11=>?_
      ·refine Z20 ?_;refine r1 6 (H) ?_;exact⟨retB (by unfold numP mostP;(repeat' split) <;> first | rfl | omega | (simp_all;done)),rfl⟩
      ·refine Z6 ?_;refine cd (λh12=>?_) λh12=>?_
       ·refine Z23 ?_;refine r1 6 (H) ?_;exact⟨retB (by unfold numP mostP;(repeat' split) <;> first | rfl | omega | (simp_all;done)),rfl⟩
       ·refine Z18 ?_;refine r1 6 (H) ?_;exact⟨retB (by unfold numP mostP;(repeat' split) <;> first | rfl | omega | (simp_all;done)),rfl⟩
     ·refine Z5 ?_;refine cd (λh13=>?_) λh13=>?_
      ·refine Z20 ?_;refine r1 6 (H) ?_;exact⟨retB (by unfold numP mostP;(repeat' split) <;> first | rfl | omega | (simp_all;done)),rfl⟩
      ·refine Z6 ?_;refine cd (λh14=>?_) λh14=>?_
       ·refine Z23 ?_;refine r1 6 (H) ?_;exact⟨retB (by unfold numP mostP;(repeat' split) <;> first | rfl | omega | (simp_all;done)),rfl⟩
       ·refine Z18 ?_;refine r1 6 (H) ?_;exact⟨retB (by unfold numP mostP;(repeat' split) <;> first | rfl | omega | (simp_all;done)),rfl⟩
theorem soMany(n:Int)(p:Prog)(x:Nd):PCall Tryz.prog 303 [.i n,AV.prog p,AV.nd x] (.i n):=by
 intro H;refine aC (n:=8) Tryz.func303 λB I w0=>?_;refine Z14 ?_;refine r1 6 (H) ?_;exact⟨by first | rfl | exact retI (by simp_all) | exact retB (by simp_all) | simp_all,rfl⟩
theorem argMany(p:Prog)(x:Nd)(h0:0<=x.n)(h1:x.n<p.gens.length):PCall Tryz.prog 304 [.agg [],AV.prog p,AV.nd x] (.i (p.gens.getD x.n.toNat default)):=by
 intro H;refine aC (n:=13) Tryz.func304 λB I w0=>?_;refine Z20 ?_;refine r1 6 (H) ?_;exact⟨by first | rfl | exact retI (by simp_all) | exact retB (by simp_all) | simp_all,rfl⟩
theorem cloneI(l:List Int)(hl:l.length<=4000000):PCall Tryz.prog 93 [AV.ints l] (AV.ints l):=by
 intro H;refine aC (n:=8) Tryz.func93 λB I w0=>?_;refine Z9 ?_;refine OL.isNilC rfl rfl rfl rfl rfl rfl rfl (AVle.refl _) rfl rfl (λn4 hn4=>?_);refine Z2 ?_;refine cd (λh0=>?_) λh0=>?_
 ·refine Z7 ?_;refine Done.retR (rs:=[.tmp 2]) (H':=H) rfl (.tmp rfl (.nil)) (.cons (AVle.nil 1) .nil) (by repeat (first | exact List.Sublist.refl _ | refine List.Sublist.cons _ ?_)) ?_;exact⟨by show AV.sl 1 []=AV.sl 1 _;rw[hn4 h0],rfl⟩
 ·refine Z6 ?_;refine oP (POp.appendI rfl rfl rfl (AVle.refl _) rfl rfl (AVle.refl _) (one_ints l) (by simp;omega) (by simp;omega)) ?_;refine Z4 ?_;refine r1 2 (H) ?_;exact⟨by first | rfl | exact retI (by simp_all) | exact retB (by simp_all) | simp_all,rfl⟩
theorem clipS(els:List (List AV)):PCall Tryz.prog 164 [.sl 1 els] (.sl 1 els):=by
 intro H;refine aC (n:=9) Tryz.func164 λB I w0=>?_;refine Z12 ?_;refine oP (POp.slClip rfl rfl rfl rfl rfl rfl rfl) ?_;refine Z4 ?_;refine r1 2 (H) ?_;exact⟨by first | rfl | exact retI (by simp_all) | exact retB (by simp_all) | simp_all,rfl⟩
theorem clipI(els:List (List AV)):PCall Tryz.prog 57 [.sl 1 els] (.sl 1 els):=by
 intro H;refine aC (n:=9) Tryz.func57 λB I w0=>?_;refine Z12 ?_;refine oP (POp.slClip rfl rfl rfl rfl rfl rfl rfl) ?_;refine Z4 ?_;refine r1 2 (H) ?_;exact⟨by first | rfl | exact retI (by simp_all) | exact retB (by simp_all) | simp_all,rfl⟩
theorem graph1(c:Cls)(hc:c.parents.length<=4000000):PCall Tryz.prog 95 [AV.cls c] (AV.ints c.parents):=by
 intro H;refine aC (n:=6) Tryz.func95 λB I w0=>?_;refine Z10 ?_;refine oP (POp.call .k ((cloneI _ (by omega)))) ?_;refine Z4 ?_;refine r1 2 (H) ?_;exact⟨by first | rfl | exact retI (by simp_all) | exact retB (by simp_all) | simp_all,rfl⟩
theorem eachP(cs:List Cls)(hs:cs.length<=4000000)(hc:∀c∈cs,c.parents.length<=4000000):PCall Tryz.prog 94 [.sl 3 (cs.map clsA),.fn (.func 95) [] []] (AV.intss (cs.map (·.parents))):=by
 intro H;refine aC (n:=23) Tryz.func94 λB I w0=>?_;refine Z12 ?_;refine CW.ownNil 5 23 1 rfl ?_;refine Z7 ?_;refine lj (λm st=>∃(i:Nat) (v:Value),st=⟨[(10,.i i),(9,.i cs.length),(8,.sl 3 (cs.map clsA)),(1,.fn (.func 95) [] []),(5,.as (AV.intss ((cs.take i).map (·.parents))) v)],.own 23 1 v::H⟩/\m=cs.length - i/\i<=cs.length) (⟨0,_,rfl,rfl,by omega⟩) ?_;rintro m _ ⟨i,v,rfl,rfl,hi⟩;refine Z6 ?_;refine cd (λh0=>?_) λh0=>?_
 ·have hil:i<cs.length:=by omega
  have hcc:=hc _ (getD_memB hil);refine Z8 ?_;refine OL.alC rfl rfl rfl rfl (λb0=>?_);refine Z7 ?_;refine oP (POp.call .k (graph1 (cs.getD i default) hcc)) ?_;refine OL.popC (x:=.sl 1 [[AV.ints (cs.getD i default).parents]]) rfl rfl rfl (POp.row rfl rfl (by first | rfl | simp_all [strip]) rfl rfl rfl rfl rfl rfl) ?_;refine OL.appendC rfl rfl rfl rfl rfl rfl rfl rfl (AVle.refl _) (rfl) (λv=>by repeat (first | exact Upd.head _ _ _ | apply Upd.tail)) (by simp only[List.length_map,List.length_take,List.length_singleton,List.length_cons,List.length_nil] at*;omega) (by simp only[List.length_map,List.length_take,List.length_singleton,List.length_cons,List.length_nil] at*;omega) (λv19=>?_);refine Z8 ?_;exact ag (⟨i+1,v19,by rw[intss_snoc hil],rfl,hil⟩)
 ·obtain rfl:i=cs.length:=by omega
  rw[List.take_length];refine Z8 ?_;refine oP (POp.callLe .k (.cons (AVle.asL _ _) .nil) (clipS _)) ?_;refine Z4 ?_;refine r1 4 (H) ?_;exact⟨by first | rfl | exact retI (by simp_all) | exact retB (by simp_all) | simp_all,rfl⟩
theorem graph(p:Prog)(hs:p.classes.length<=4000000)(hc:∀c∈p.classes,c.parents.length<=4000000):PCall Tryz.prog 59 [AV.prog p] (AV.intss (graphP p)):=by
 intro H;refine aC (n:=6) Tryz.func59 λB I w0=>?_;refine Z10 ?_;refine oP (POp.call .k (eachP p.classes hs hc)) ?_;refine Z4 ?_;refine r1 2 (H) ?_;exact⟨by first | rfl | exact retI (by simp_all) | exact retB (by simp_all) | simp_all,rfl⟩
theorem speaks_step(f:Fact)(hf:smallA f=true)(ih:∀k∈f.kids,PCall Tryz.prog 119 [AV.fact k] (.i (speaksP k))):PCall Tryz.prog 119 [AV.fact f] (.i (speaksP f)):=by
 intro H;refine aC (n:=35) Tryz.func119 λB I w0=>?_;rw[speaksP_eq];obtain⟨ha1,ha2,hk⟩:=smallA_iff hf;refine Z11 ?_;refine CW.cutJ (λst=>st=⟨[(3,.i (argB f)),(1,.ptr (Fcells f))],H⟩) ?_ ?_
 ·refine Z17 ?_;refine CW.cond rfl (λh0=>?_) (λh0=>?_)
  ·have ha:argB f=f.arg+1:=by unfold argB;rw[if_pos (by simpa [or_assoc,and_assoc] using h0)]
   rw[ha] at ha1 ha2;refine Z6 ?_;refine Done.le 3 (y:=.i (argB f)) rfl (AVle.eqI (by rw[ha])) ?_;exact cj rfl
  ·have ha:argB f=0:=by unfold argB;rw[if_neg (by simpa [or_assoc,and_assoc] using h0)]
   refine Z1 ?_;refine Done.le 3 (y:=.i (argB f)) rfl (AVle.eqI (by rw[ha])) ?_;exact cj rfl
 ·rintro _ rfl;refine Z10 ?_;refine CW.boundM (t:=23) rfl (λhb23=>?_);refine lj (λm st=>∃j:Nat,st=⟨[(25,.i j),(24,.i f.kids.length),(23,AV.facts f.kids),(3,.i (speaksL (f.kids.take j) (argB f)))],H⟩/\m=f.kids.length - j/\j<=f.kids.length) (⟨0,rfl,rfl,by omega⟩) ?_;rintro m _ ⟨j,rfl,rfl,hj⟩;refine Z6 ?_;refine cd (λh1=>?_) λh1=>?_
  ·have hjl:j<f.kids.length:=by omega
   have hkm:=getD_memB hjl;have hsn:=speaksL_snoc (f.kids.getD j default) (f.kids.take j) (argB f);rw[take_getD hjl] at hsn;refine Z8 ?_;refine OL.alC rfl rfl rfl rfl (λb0=>?_);refine Z6 ?_;refine oP (POp.call .k (ih _ hkm)) ?_;refine oP (POp.max2 rfl rfl rfl rfl rfl rfl) ?_;refine Z4 ?_;refine CW.le 3 (y:=.i (speaksL (f.kids.take (j+1)) (argB f))) rfl (AVle.eqI (by rw[hsn,Int.max_def];split <;> split <;> omega)) ?_;refine Z4 ?_;exact ag (⟨j+1,rfl,rfl,by omega⟩)
  ·obtain rfl:j=f.kids.length:=by omega
   rw[List.take_length];refine Z12 ?_;refine r1 2 (H) ?_;exact⟨by rfl,rfl⟩
theorem worldB(p:Prog)(hs:p.classes.length<=1000)(hc:∀c∈p.classes,c.parents.length<=4000000/\c.slots.length<=1000):PCall Tryz.prog 117 [AV.prog p] (.agg (Wcells (worldOf p))):=by
 intro H;refine aC (n:=32) Tryz.func117 λB I w0=>?_;refine Z3 ?_;refine OL.alC rfl rfl rfl rfl (λrb=>?_);refine Z5 ?_;refine oP (POp.call .k (graph p (by omega) (λc h=>(hc c h).1))) ?_;refine Z1 ?_;refine OL.alC rfl rfl rfl rfl (λwb=>?_);refine Z5 ?_;refine CW.ownNilB (b:=wb) (t:=94) 3 1 1 (by repeat (first | exact Upd.head _ _ _ | apply Upd.tail)) rfl rfl ?_;refine Z8 ?_;refine lj (λm st=>∃(i:Nat) (v:Value),st=⟨[(12,.i i),(11,.i p.classes.length),(10,.sl 3 (p.classes.map clsA)),(3,.p wb 0),(2,.p rb 0)],.own 3 1 v::.blk wb 94 [AV.intss (graphP p),.as (AV.ints (ownT p.classes i 0)) v]::.blk rb 94 [.val (.slice none 0 0),.val (.slice none 0 0)]::H⟩/\m=p.classes.length - i/\i<=p.classes.length) (⟨0,_,rfl,rfl,by omega⟩) ?_;rintro m _ ⟨i,v,rfl,rfl,hi⟩;refine Z6 ?_;refine cd (λh0=>?_) λh0=>?_
 ·have hil:i<p.classes.length:=by omega
  have hcc:=hc _ (getD_memB hil);obtain⟨L,hL⟩:∃L,L=p.classes.getD i default:=⟨_,rfl⟩;rw[<-hL] at hcc;refine Z9 ?_;refine OL.alC rfl rfl rfl rfl (λb2=>?_);refine Z5 ?_;rw[<-hL];refine Z8 ?_;refine lj (λm st=>∃(k:Nat) (v:Value),st=⟨[(20,.i k),(19,.i L.slots.length),(4,.i i),(12,.i i),(11,.i p.classes.length),(10,.sl 3 (p.classes.map clsA)),(3,.p wb 0),(2,.p rb 0)],.own 3 1 v::.blk wb 94 [AV.intss (graphP p),.as (AV.ints (ownT p.classes i k)) v]::.blk rb 94 [.val (.slice none 0 0),.val (.slice none 0 0)]::H⟩/\m=L.slots.length - k/\k<=L.slots.length) (⟨0,_,rfl,rfl,by omega⟩) ?_;rintro m _ ⟨k,v,rfl,rfl,hk⟩;refine Z6 ?_;refine cd (λh1=>?_) λh1=>?_
  ·have hkl:k<L.slots.length:=by omega
   refine Z9 ?_;refine OL.popC (x:=.sl 1 [[.i ((i:Int)+3)]]) rfl rfl rfl (POp.row rfl rfl (by first | rfl | simp_all [strip]) rfl rfl rfl rfl rfl rfl) ?_;refine OL.appendC rfl rfl rfl rfl rfl rfl rfl rfl (AVle.refl _) (rfl) (λv=>by repeat (first | exact Upd.head _ _ _ | apply Upd.tail)) (by have:=ownT_len (cs:=p.classes) (i:=i) k (λc h=>(hc c h).2);have h1000:=Nat.mul_le_mul_left 1000 hs;simp only[List.length_map,List.length_singleton,List.length_cons,List.length_nil];omega) (by have:=ownT_len (cs:=p.classes) (i:=i) k (λc h=>(hc c h).2);have h1000:=Nat.mul_le_mul_left 1000 hs;simp only[List.length_map,List.length_singleton,List.length_cons,List.length_nil];omega) (λv27=>?_);refine Z9 ?_;exact ag (⟨k+1,v27,by rw[ownT_snoc],rfl,hkl⟩)
  ·obtain rfl:k=L.slots.length:=by omega
   refine Z10 ?_;exact ag (⟨i+1,v,by rw[ownT_next hil, <-hL],rfl,hil⟩)
 ·obtain rfl:i=p.classes.length:=by omega
  rw[ownT_all];refine Z12 ?_;refine Done.retR (rs:=[.cell 2 94]) (H':=H) rfl ((by first | exact .cellA inferInstance rfl (by repeat (first | exact .head _ | refine .tail _ ?_)) rfl rfl (.nil) | exact .ptrA inferInstance rfl rfl (.nil))) (.cons (AVle.agg (.cons (.refl _) (.cons (AVle.asL _ _) .nil))) .nil) (by repeat (first | exact List.Sublist.refl _ | refine List.Sublist.cons _ ?_)) ?_;exact⟨by first | rfl | exact retI (by simp_all) | exact retB (by simp_all) | simp_all,rfl⟩
theorem take_getD[Inhabited α]{l:List α}{k:Nat}(h:k<l.length):l.take k++[l.getD k default]=l.take (k+1):=by
 rw[List.take_succ_eq_append_getElem h,List.getD_eq_getElem?_getD,List.getElem?_eq_getElem h];rfl
theorem split_getD[Inhabited α]{l:List α}{k:Nat}(h:k<l.length):l=l.take k++l.getD k default::l.drop (k+1):=by
 rw[List.getD_eq_getElem?_getD,List.getElem?_eq_getElem h];simp
theorem b150{J Jx:List Int->List Ent->Prop}(l:List Int)(hg:FindOk B Tryz.prog (.fn f fs cs) AV.i l F J Jx)(H Hx:List Ent)(hF:F Hx)(hJ:J [] H):
  BCall B Tryz.prog 229 [.sl 1 (l.map λn=>[AV.i n]),.fn f fs cs] (H++Hx) (FoundAt J Jx l Hx) (λ_ _=>False):=by
 refine BCall.of (n:=19) Tryz.func229 rfl (by kernel_rfl) rfl rfl (λI w0=>?_);refine CW.boundM (t:=0) rfl (λhb0=>?_);refine Z14 ?_;refine lj (λm st=>∃(k:Nat) (H1:List Ent),st=⟨[(8,.i k),(7,.i l.length),(0,.sl 1 (l.map λn=>[AV.i n])),(1,.fn f fs cs)],H1++Hx⟩/\m=l.length - k/\k<=l.length/\J (l.take k) H1) (⟨0,H,rfl,rfl,by simp,hJ⟩) ?_;rintro m _ ⟨k,H1,rfl,rfl,hk,hJ1⟩;refine Z6 ?_;refine cd (λh0=>?_) λh0=>?_
 ·refine Z17 ?_;refine OL.vcallC rfl rfl rfl rfl rfl rfl rfl rfl (AVleL.refl _) (hg (l.take k) (l.getD k default) H1 Hx (by rw[take_getD (by omega)];exact List.take_prefix _ _) hF hJ1) ?_;rintro _ _ ⟨b,H2,rfl,rfl,hb1,hb2⟩;rw[take_getD (by omega)] at hb1 hb2;refine Z2 ?_;refine cd (λh1=>?_) λh1=>?_
  ·refine Z12 ?_;refine Done.retR (rs:=[.tmp 4]) rfl (.tmp rfl (.nil)) (AVleL.refl _) (by repeat (first | exact List.Sublist.refl _ | refine List.Sublist.cons _ ?_)) ?_;exact⟨H2,rfl,.inr ⟨l.take k,l.getD k default,l.drop (k+1),split_getD (by omega),retI (by rw[List.length_take,Nat.min_eq_left (by omega)]),by rw[take_getD (by omega)];exact hb2 h1⟩⟩
  ·refine Z7 ?_;exact ag (⟨k+1,H2,rfl,rfl,by omega,hb1 h1⟩)
 ·refine Z11 ?_;refine Done.retR (rs:=[.tmp 4]) rfl (.tmp rfl (.nil)) (AVleL.refl _) (by repeat (first | exact List.Sublist.refl _ | refine List.Sublist.cons _ ?_)) ?_;exact⟨H1,rfl,.inl ⟨rfl,by have e:k=l.length:=(by omega);rw[e,List.take_length] at hJ1;exact hJ1⟩⟩
theorem q150(hg:PredOn Tryz.prog Hm (.fn f fs cs) AV.i l p):QCallIn Tryz.prog Hm 229 [.sl 1 (l.map λn=>[AV.i n]),.fn f fs cs] (λy=>∃n:Int,y= .i n/\decide (n>=0)=l.any p):=
 find_pure (by kernel_rfl) (λB F J Jx h H Hx hF hJ=>b150 l h H Hx hF hJ) hg
theorem pi193(hg:PredOn Tryz.prog Hm (.fn f fs cs) AV.i l p):PCallIn Tryz.prog Hm 223 [.sl 1 (l.map λn=>[AV.i n]),.fn f fs cs] (.b (l.any p)):=by
 intro H hm;refine aC (n:=9) Tryz.func223 λB I w0=>?_;refine Z9 ?_;refine OL.qcallIn rfl rfl rfl .k (q150 hg) hm (λy hy=>?_);obtain⟨n,rfl,hn⟩:=hy;refine Z5 ?_;refine r1 4 (H) ?_;exact⟨retB hn,rfl⟩
theorem pi194(hg:PredOn Tryz.prog Hm (.fn f fs cs) AV.i l p)(x:Int)(hx:x∈l):PCallIn Tryz.prog Hm 236 [AV.i x,.ptr [.fn f fs cs]] (.b (!p x)):=by
 intro H hm;refine aC (n:=8) Tryz.func236 λB I w0=>?_;refine Z9 ?_;refine OL.vcallC rfl rfl rfl rfl rfl rfl rfl rfl (AVleL.refl _) (hg x hx B H hm) ?_;rintro _ Hn ⟨rfl,hH⟩;have hH:=hH.symm;subst hH;refine Z5 ?_;refine r1 3 (H) ?_;exact⟨by first | rfl | exact retI (by simp_all) | exact retB (by simp_all) | simp_all,rfl⟩
theorem pi152(hg:PredOn Tryz.prog Hm (.fn f fs cs) AV.i l p):PCallIn Tryz.prog Hm 212 [.sl 1 (l.map λn=>[AV.i n]),.fn f fs cs] (.b (l.all p)):=by
 intro H hm;refine aC (n:=9) Tryz.func212 λB I w0=>?_;refine Z10 ?_;refine oP (POp.callIn .k (AVleL.refl _) (pi193 (.of (λx hx=>pi194 hg x hx))) (λe he=>by repeat (first | exact hm e he | apply List.mem_cons_of_mem))) ?_;refine Z5 ?_;refine r1 4 (H) ?_;exact⟨retB (by simp[List.not_any_eq_all_not]),rfl⟩
theorem p152(hg:PredOk Tryz.prog (.fn f fs cs) AV.i p)(l:List Int):PCall Tryz.prog 212 [.sl 1 (l.map λn=>[AV.i n]),.fn f fs cs] (.b (l.all p)):=(pi152 (hg.on l)).pure
theorem b130(l:List Fact)(hg:FindOk B Tryz.prog (.fn f fs cs) AV.fact l F J Jx)(H Hx:List Ent)(hF:F Hx)(hJ:J [] H):
  BCall B Tryz.prog 251 [.sl 6 (encFs l),.fn f fs cs] (H++Hx) (FoundAt J Jx l Hx) (λ_ _=>False):=by
 refine BCall.of (n:=19) Tryz.func251 rfl (by kernel_rfl) rfl rfl (λI w0=>?_);refine CW.boundM (t:=0) rfl (λhb0=>?_);refine Z14 ?_;refine lj (λm st=>∃(k:Nat) (H1:List Ent),st=⟨[(8,.i k),(7,.i l.length),(0,.sl 6 (encFs l)),(1,.fn f fs cs)],H1++Hx⟩/\m=l.length - k/\k<=l.length/\J (l.take k) H1) (⟨0,H,rfl,rfl,by simp,hJ⟩) ?_;rintro m _ ⟨k,H1,rfl,rfl,hk,hJ1⟩;refine Z6 ?_;refine cd (λh0=>?_) λh0=>?_
 ·refine Z17 ?_;refine OL.vcallC rfl rfl rfl rfl rfl rfl rfl rfl (AVleL.refl _) (hg (l.take k) (l.getD k default) H1 Hx (by rw[take_getD (by omega)];exact List.take_prefix _ _) hF hJ1) ?_;rintro _ _ ⟨b,H2,rfl,rfl,hb1,hb2⟩;rw[take_getD (by omega)] at hb1 hb2;refine Z2 ?_;refine cd (λh1=>?_) λh1=>?_
  ·refine Z12 ?_;refine Done.retR (rs:=[.tmp 4]) rfl (.tmp rfl (.nil)) (AVleL.refl _) (by repeat (first | exact List.Sublist.refl _ | refine List.Sublist.cons _ ?_)) ?_;exact⟨H2,rfl,.inr ⟨l.take k,l.getD k default,l.drop (k+1),split_getD (by omega),retI (by rw[List.length_take,Nat.min_eq_left (by omega)]),by rw[take_getD (by omega)];exact hb2 h1⟩⟩
  ·refine Z7 ?_;exact ag (⟨k+1,H2,rfl,rfl,by omega,hb1 h1⟩)
 ·refine Z11 ?_;refine Done.retR (rs:=[.tmp 4]) rfl (.tmp rfl (.nil)) (AVleL.refl _) (by repeat (first | exact List.Sublist.refl _ | refine List.Sublist.cons _ ?_)) ?_;exact⟨H1,rfl,.inl ⟨rfl,by have e:k=l.length:=(by omega);rw[e,List.take_length] at hJ1;exact hJ1⟩⟩
theorem p151(s:Nat)(c:Int)(hc:0<=c/\c<64)(hs:s<18446744073709551616):PCall Tryz.prog 211 [AV.set s,.i c] (AV.set (s ||| 2^c.toNat)):=by
 intro H;refine aC (n:=9) Tryz.func211 λB I w0=>?_;refine Z9 ?_;refine oP (POp.shift rfl rfl rfl rfl rfl hc.1 (sh_left _ hc)) ?_;refine oP (POp.bits rfl rfl rfl rfl rfl (bit_or _ _ hs (Nat.pow_lt_pow_right (a:=2) (n:=64) (by omega) (by omega)))) ?_;refine Z4 ?_;refine r1 4 (H) ?_;exact⟨by first | rfl | exact retI (by simp_all) | exact retB (by simp_all) | simp_all,rfl⟩
theorem p109(b:Bool):PCall Tryz.prog 178 [.b b] (.i (if b then 0 else 2)):=by
 intro H;refine aC (n:=5) Tryz.func178 λB I w0=>?_;refine Z12 ?_;refine cd (λh0=>?_) λh0=>?_
 ·refine Z7 ?_;refine r1 2 (H) ?_;exact⟨retI (by simp_all),rfl⟩
 ·refine Z8 ?_;refine r1 2 (H) ?_;exact⟨retI (by simp_all),rfl⟩
theorem p134(f:Fact):PCall Tryz.prog 188 [AV.fact f] (.b (decide (2<=f.op) && decide (f.op<=4))):=by
 intro H;refine aC (n:=11) Tryz.func188 λB I w0=>?_;refine Z20 ?_;refine r1 2 (H) ?_;exact⟨retB (by by_cases h:2<=f.op <;> simp[h]),rfl⟩
theorem p125(f:Fact):PCall Tryz.prog 104 [AV.fact f] (.b (f.op==2 || f.op==3 || f.op==4)):=by
 intro H;refine aC (n:=16) Tryz.func104 λB I w0=>?_;refine Z25 ?_;refine r1 2 (H) ?_;exact⟨retB (by by_cases h:f.op=2 <;> by_cases h':f.op=3 <;> simp[h,h']),rfl⟩
theorem p210(op:Int):PCall Tryz.prog 239 [.i op] (.i (if op=5 then 1 else if op=6\/op=7 then 2 else 0)):=by
 intro H;refine aC (n:=9) Tryz.func239 λB I w0=>?_;refine Z18 ?_;refine cd (λh0=>?_) λh0=>?_
 ·refine Z8 ?_;refine r1 2 (H) ?_;exact⟨by first | rfl | exact retI (by simp_all) | exact retB (by simp_all) | simp_all,rfl⟩
 ·refine Z7 ?_;refine cd (λh1=>?_) λh1=>?_
  ·refine Z2 ?_;refine cd (λh2=>?_) λh2=>?_
   ·refine Z8 ?_;refine r1 2 (H) ?_;exact⟨by first | rfl | exact retI (by simp_all) | exact retB (by simp_all) | simp_all,rfl⟩
   ·refine Z9 ?_;refine r1 2 (H) ?_;exact⟨by first | rfl | exact retI (by simp_all) | exact retB (by simp_all) | simp_all,rfl⟩
  ·refine Z5 ?_;refine cd (λh3=>?_) λh3=>?_
   ·refine Z8 ?_;refine r1 2 (H) ?_;exact⟨by first | rfl | exact retI (by simp_all) | exact retB (by simp_all) | simp_all,rfl⟩
   ·refine Z9 ?_;refine r1 2 (H) ?_;exact⟨by first | rfl | exact retI (by simp_all) | exact retB (by simp_all) | simp_all,rfl⟩
theorem p153(W:FW)(c:Int)(hW:W.parents.length<=60):PCall Tryz.prog 213 [Wptr W,.i c] (.b (ownP W c)):=by
 intro H;refine aC (n:=18) Tryz.func213 λB I w0=>?_;unfold Wptr;refine CW.boundP (t:=0) (i:=0) rfl rfl (λhb=>?_);refine Z24 ?_;refine r1 4 (H) ?_;exact⟨retB (by unfold ownP;by_cases h:3<=c <;> simp[h]),rfl⟩
theorem p106(W:FW)(c:Int)(hW:W.parents.length<=60):PCall Tryz.prog 241 [Wptr W,.i c] (.b (classP W c)):=by
 intro H;refine aC (n:=18) Tryz.func241 λB I w0=>?_;unfold Wptr;refine CW.boundP (t:=0) (i:=0) rfl rfl (λhb=>?_);refine Z24 ?_;refine r1 4 (H) ?_;exact⟨retB (by unfold classP;by_cases h:0<=c <;> simp[h]),rfl⟩
theorem p177(W:FW)(c:Int):PCall Tryz.prog 252 [Wptr W,.i c] (.b (slotP W c)):=by
 intro H;refine aC (n:=17) Tryz.func252 λB I w0=>?_;unfold Wptr;refine Z23 ?_;refine r1 4 (H) ?_;exact⟨retB (by unfold slotP;by_cases h:0<=c <;> simp[h]),rfl⟩
theorem p85(W:FW)(c:Int)(hW:W.parents.length<=60):PCall Tryz.prog 77 [AV.world W,.i c] (.b (ownP W c)):=by
 intro H;refine aC (n:=15) Tryz.func77 λB I w0=>?_;refine CW.boundA (t:=0) (i:=0) rfl rfl (λhb=>?_);refine Z22 ?_;refine r1 4 (H) ?_;exact⟨retB (by unfold ownP;by_cases h:3<=c <;> simp[h]),rfl⟩
theorem p51(W:FW)(c:Int)(hW:W.parents.length<=60):PCall Tryz.prog 168 [AV.world W,.i c] (.b (classP W c)):=by
 intro H;refine aC (n:=15) Tryz.func168 λB I w0=>?_;refine CW.boundA (t:=0) (i:=0) rfl rfl (λhb=>?_);refine Z22 ?_;refine r1 4 (H) ?_;exact⟨retB (by unfold classP;by_cases h:0<=c <;> simp[h]),rfl⟩
theorem found_cases{J Jx:List α->List Ent->Prop}{l:List α}{Hx:List Ent}{y:AV}{H':List Ent}(h:FoundAt J Jx l Hx y H'):∃(n:Int) (H1:List Ent),y= .i n/\H'=H1++Hx/\(decide (n>=0)=false->J l H1)/\(decide (n>=0)=true->∃pre,pre<+:l/\Jx pre H1):=by
 obtain⟨H1,rfl,h⟩:=h;rcases h with⟨rfl,h⟩ | ⟨pre,x,rest,rfl,rfl,h⟩
 ·exact⟨-1,H1,rfl,rfl,λ_=>h,λh=>by simp at h⟩
 ·exact⟨pre.length,H1,rfl,rfl,λh=>by simp at h,λ_=>⟨pre++[x],⟨rest,by simp⟩,h⟩⟩
theorem b76(l:List Fact)(hg:FindOk B Tryz.prog (.fn f fs cs) AV.fact l F J Jx)(H Hx:List Ent)(hF:F Hx)(hJ:J [] H):
  BCall B Tryz.prog 237 [.sl 6 (encFs l),.fn f fs cs] (H++Hx) (λy H'=>∃b H1,y= .b b/\H'=H1++Hx/\(b=false->J l H1)/\(b=true->∃pre,pre<+:l/\Jx pre H1)) (λ_ _=>False):=by
 refine BCall.of (n:=9) Tryz.func237 rfl (by kernel_rfl) rfl rfl (λI w0=>?_);refine Z9 ?_;refine bC .k (b130 l hg H Hx hF hJ) ?_;intro y H' hy;obtain⟨n,H1,rfl,rfl,hn⟩:=found_cases hy;refine Z5 ?_;refine Done.retR (rs:=[.tmp 4]) rfl (.tmp rfl (.nil)) (AVleL.refl _) (by repeat (first | exact List.Sublist.refl _ | refine List.Sublist.cons _ ?_)) ?_;exact⟨decide (n>=0),H1,rfl,rfl,hn⟩
theorem b209{L:List Fact}(hg:CbOk B Tryz.prog (.fn f fs cs) AV.fact L (λ_=>True) J Jx)(pre:List Fact)(x:Fact)(H Hx:List Ent)(hpx:pre++[x]<+:L)(hJ:J pre H):
  BCall B Tryz.prog 238 [AV.fact x,.ptr [.fn f fs cs]] (H++Hx) (λy H'=>∃b H1,y= .b b/\H'=H1++Hx/\(b=false->J (pre++[x]) H1)/\(b=true->Jx (pre++[x]) H1)) (λ_ _=>False):=by
 refine BCall.of (n:=8) Tryz.func238 rfl (by kernel_rfl) rfl rfl (λI w0=>?_);refine Z10 ?_;refine OL.vcallC rfl rfl rfl rfl rfl rfl rfl rfl (AVleL.refl _) (hg pre x H Hx hpx trivial hJ) ?_;rintro _ _ ⟨b,H1,rfl,rfl,h1,h2⟩;refine Z5 ?_;refine Done.retR (rs:=[.tmp 3]) rfl (.tmp rfl (.nil)) (AVleL.refl _) (by repeat (first | exact List.Sublist.refl _ | refine List.Sublist.cons _ ?_)) ?_;exact⟨!b,H1,rfl,rfl,λh=>h1 (by simpa using h),λh=>h2 (by simpa using h)⟩
theorem b180(l:List Fact)(hg:CbOk B Tryz.prog (.fn f fs cs) AV.fact l (λ_=>True) J Jx)(H Hx:List Ent)(hJ:J [] H):
  BCall B Tryz.prog 214 [.sl 6 (encFs l),.fn f fs cs] (H++Hx) (λy H'=>∃b H1,y= .b b/\H'=H1++Hx/\(b=true->J l H1)/\(b=false->∃pre,pre<+:l/\Jx pre H1)) (λ_ _=>False):=by
 refine BCall.of (n:=9) Tryz.func214 rfl (by kernel_rfl) rfl rfl (λI w0=>?_);refine Z10 ?_;refine bC .k (b76 (F:=λ_=>True) (J:=J) (Jx:=Jx) l (λpre x H Hx hpx _ hJ=>VCall.fnB (b209 hg pre x H Hx hpx hJ)) H Hx trivial hJ) ?_;rintro _ _ ⟨b,H1,rfl,rfl,h1,h2⟩;refine Z5 ?_;refine Done.retR (rs:=[.tmp 4]) rfl (.tmp rfl (.nil)) (AVleL.refl _) (by repeat (first | exact List.Sublist.refl _ | refine List.Sublist.cons _ ?_)) ?_;exact⟨!b,H1,rfl,rfl,λh=>h1 (by simpa using h),λh=>h2 (by simpa using h)⟩
theorem p126(W:FW)(l:List Int):PCall Tryz.prog 240 [Wptr W,AV.ints l] (.b (pathP W l)):=by
 intro H;refine aC (n:=14) Tryz.func240 λB I w0=>?_;refine CW.boundM (t:=1) rfl (λhb=>?_);refine Z14 ?_;refine OL.guardC rfl rfl rfl rfl rfl rfl (λhg=>POp.call (.mk' rfl rfl rfl rfl (by first | rfl | ((repeat (first | exact hg | rfl | refine Bool.and_eq_true_iff.2 ⟨?_,?_⟩));done) | simp_all [strip,constAV])) (p152 (.of (p177 W)) l)) ?_;refine Z5 ?_;refine r1 4 (H) ?_;exact⟨retB (by unfold pathP;by_cases h:l.length<=2 <;> simp[h] <;> omega),rfl⟩
def NodeC(B:Nat)(W:FW)(deep:Int):Prop:=∀(f:Fact) (left:Int) (b:Nat) (Hx:List Ent),0<=left/\left<=1000->
 BCall B Tryz.prog 216 [Wptr W,AV.fact f,.p b 0,.i deep] (.blk b 3 [.i left]::Hx) (λy H'=>y= .b (nodeP W f left deep).1/\H'= .blk b 3 [.i (nodeP W f left deep).2]::Hx) (λ_ _=>False)
theorem b211(hd:0<deep/\deep<=1000)(ih:NodeC B W (deep - 1))(f:Fact)(left:Int)(b:Nat)(Hx:List Ent)(hl:0<=left/\left<=1000):
  BCall B Tryz.prog 242 [AV.fact f,.ptr [Wptr W],.ptr [.p b 0],.ptr [.i deep]] (.blk b 3 [.i left]::Hx) (λy H'=>y= .b (nodeP W f left (deep - 1)).1/\H'= .blk b 3 [.i (nodeP W f left (deep - 1)).2]::Hx) (λ_ _=>False):=by
 refine BCall.of (n:=12) Tryz.func242 rfl (by kernel_rfl) rfl rfl (λI w0=>?_);refine Z13 ?_;refine bC .k (ih f left b Hx hl) ?_;rintro _ _ ⟨rfl,rfl⟩;refine Z4 ?_;refine Done.retR (rs:=[.tmp 5]) rfl (.tmp rfl (.nil)) (AVleL.refl _) (by repeat (first | exact List.Sublist.refl _ | refine List.Sublist.cons _ ?_)) ?_;exact⟨rfl,rfl⟩
theorem nodesCb(hd:0<deep/\deep<=1000)(ih:NodeC B W (deep - 1))(left:Int)(hl:0<=left/\left<=1000)(b:Nat)(L:List Fact):
  CbOk B Tryz.prog (.fn (.func 242) [] [.ptr [Wptr W],.ptr [.p b 0],   .ptr [.i deep]]) AV.fact L (λ_=>True) (λpre H=>H= [.blk b 3 [.i (nodesP W pre left (deep - 1)).2]]/\(nodesP W pre left (deep - 1)).1=true) (λpre H=>H= [.blk b 3 [.i (nodesP W pre left (deep - 1)).2]]/\(nodesP W pre left (deep - 1)).1=false):=by
 rintro pre x H Hx _ _ ⟨rfl,hp⟩;have h1:=nodesP_left W pre left (deep - 1) hl.1;refine VCall.mono (VCall.fnB (b211 hd ih x _ b Hx ⟨h1.2 hp,by omega⟩)) ?_ (λ_ _ h=>h);rintro _ _ ⟨rfl,rfl⟩;have h2:=nodesP_snoc W (deep - 1) x pre left hp;exact⟨_,[.blk b 3 [.i (nodeP W x (nodesP W pre left (deep - 1)).2 (deep - 1)).2]],rfl,rfl,λh=>⟨by rw[h2],by rw[h2];exact h⟩,λh=>⟨by rw[h2],by rw[h2];exact h⟩⟩
theorem nodes_end{l:List Fact}{b:Nat}{bb:Bool}{H1:List Ent}(h1:bb=true->H1= [.blk b 3 [.i (nodesP W l left (deep - 1)).2]]/\(nodesP W l left (deep - 1)).1=true)
  (h2:bb=false->∃pre,pre<+:l/\H1= [.blk b 3 [.i (nodesP W pre left (deep - 1)).2]]/\(nodesP W pre left (deep - 1)).1=false):bb=(nodesP W l left (deep - 1)).1/\H1= [.blk b 3 [.i (nodesP W l left (deep - 1)).2]]:=by
 cases bb with
 | true=>obtain⟨e1,e2⟩:=h1 rfl;exact⟨e2.symm,e1⟩
 | false=>
  obtain⟨pre,⟨rest,rfl⟩,e1,e2⟩:=h2 rfl;rw[nodesP_stop W (deep - 1) rest pre left e2];exact⟨e2.symm,e1⟩
theorem bad_false{f:Fact}(h:badP f left deep=false)(hd:0<=deep)(hl:left<=1000):(0<=left/\left<=1000)/\0<deep:=by
 simp only[badP,Bool.or_eq_false_iff,decide_eq_false_iff_not,beq_eq_false_iff_ne,ne_eq] at h;omega
theorem node_bad{f:Fact}(h:badP f (left - 1) deep=true):nodeP W f left deep=(false,left - 1):=by rw[nodeP_eq,if_pos h]
theorem node_leaf{f:Fact}(h:badP f (left - 1) deep=false)(h1:leafP f=true):nodeP W f left deep=(argP W f && leafOkP W f,left - 1):=by rw[nodeP_eq,if_neg (by simp[h]),if_pos h1]
theorem node_notPlain{f:Fact}(h:badP f (left - 1) deep=false)(h1:leafP f=false)(h2:plainP f=false):nodeP W f left deep=(false,left - 1):=by rw[nodeP_eq,if_neg (by simp[h]),if_neg (by simp[h1]),if_neg (by simp[h2])]
theorem node_plain{f:Fact}(h:badP f (left - 1) deep=false)(h1:leafP f=false)(h2:plainP f=true):nodeP W f left deep=nodesP W f.kids (left - 1) (deep - 1):=by rw[nodeP_eq,if_neg (by simp[h]),if_neg (by simp[h1]),if_pos h2]
theorem leafOk_is{f:Fact}(h:f.op=2):leafOkP W f=((f.n==0) && classP W f.cls):=by rw[leafOkP,if_pos h]
theorem leafOk_not{f:Fact}(h: ¬f.op=2):leafOkP W f=((f.cls==0) && decide (f.n>= -1000000000) && decide (f.n<=1000000000)):=by rw[leafOkP,if_neg h]
theorem bif_and(a b:Bool):(bif a then b else false)=(a && b):=by cases a <;> rfl
theorem bif_or(a b:Bool):(bif a then true else b)=(a || b):=by cases a <;> rfl
theorem b182_step(hW:W.parents.length<=60)(hd:0<=deep/\deep<=1000)(ih:0<deep->NodeC B W (deep - 1)):NodeC B W deep:=by
 intro f left b Hx hl;refine BCall.of (n:=110) Tryz.func216 rfl (by kernel_rfl) rfl rfl (λI w0=>?_);refine CW.boundA (t:=1) (i:=5) rfl rfl (λhbk=>?_);refine CW.boundA (t:=1) (i:=2) rfl rfl (λhbp=>?_);refine Z21 ?_;refine CW.dp mixed ?_;refine Z76 ?_;refine DP.anyC 19 25 110 rfl (by decide+kernel) rfl rfl (by decide+kernel) ?_;refine Z5 ?_;refine AD.guardC rfl rfl rfl rfl rfl (λhg=>POp.call (.mk' rfl rfl rfl rfl (by first | rfl | ((repeat (first | exact hg | rfl | refine Bool.and_eq_true_iff.2 ⟨?_,?_⟩));done) | simp_all [strip,constAV])) ((p210 _))) ?_;refine Z6 ?_;refine CW.cond rfl (λh0=>?_) (λh0=>?_)
 ·have hbad:badP f (left - 1) deep=true:=by simpa only[badP,bif_or,kidsP] using h0
  have hn:=node_bad (W:=W) hbad;refine Z7 ?_;refine Done.retR (rs:=[.tmp 8]) rfl (.tmp rfl (.nil)) (AVleL.refl _) (by repeat (first | exact List.Sublist.refl _ | refine List.Sublist.cons _ ?_)) ?_;exact⟨retB (by rw[hn]),by rw[hn];rfl⟩
 ·have hbad:badP f (left - 1) deep=false:=by simpa only[badP,bif_or,kidsP] using h0
  obtain⟨hl1,hd1⟩:=bad_false hbad hd.1 (by omega);refine Z7 ?_;refine oP (POp.call .k ((p134 _))) ?_;refine Z4 ?_;refine CW.cond rfl (λh1=>?_) (λh1=>?_)
  ·have hleaf:leafP f=false:=by simpa only[leafP,Bool.not_eq_true'] using h1
   refine Z23 ?_;refine CW.cond rfl (λh2=>?_) (λh2=>?_)
   ·have hplain:plainP f=false:=by rw[plainP,Bool.not_eq_false'];simpa only[bif_or] using h2
    have hn:=node_notPlain (W:=W) hbad hleaf hplain;refine Z8 ?_;refine Done.retR (rs:=[.tmp 8]) rfl (.tmp rfl (.nil)) (AVleL.refl _) (by repeat (first | exact List.Sublist.refl _ | refine List.Sublist.cons _ ?_)) ?_;exact⟨retB (by rw[hn]),by rw[hn];rfl⟩
   ·have hplain:plainP f=true:=by rw[plainP,Bool.not_eq_true'];simpa only[bif_or] using h2
    have hn:=node_plain (W:=W) hbad hleaf hplain;refine Z8 ?_;refine bC .k (b180 f.kids (nodesCb ⟨hd1,hd.2⟩ (ih hd1) (left - 1) hl1 b _) [.blk b 3 [.i (left - 1)]] Hx ⟨rfl,rfl⟩) ?_;rintro _ _ ⟨bb,H1,rfl,rfl,e1,e2⟩;obtain⟨e3,e4⟩:=nodes_end e1 e2;subst e4;refine Z4 ?_;refine Done.retR (rs:=[.tmp 8]) rfl (.tmp rfl (.nil)) (AVleL.refl _) (by repeat (first | exact List.Sublist.refl _ | refine List.Sublist.cons _ ?_)) ?_;exact⟨retB (by rw[hn];exact e3),by rw[hn];rfl⟩
  ·have hleaf:leafP f=true:=by simpa only[leafP,Bool.not_eq_false'] using h1
   have hn:=node_leaf (W:=W) hbad hleaf;refine Z14 ?_;refine OL.guardC rfl rfl rfl rfl rfl rfl (λhg=>POp.call (.mk' rfl rfl rfl rfl (by first | rfl | ((repeat (first | exact hg | rfl | refine Bool.and_eq_true_iff.2 ⟨?_,?_⟩));done) | simp_all [strip,constAV])) ((p126 _ _))) ?_;refine Z5 ?_;refine CW.cond rfl (λh3=>?_) (λh3=>?_)
   ·have harg:argP W f=false:=by rw[argP,Bool.not_eq_false'];simpa only[bif_or] using h3
    refine Z8 ?_;refine Done.retR (rs:=[.tmp 8]) rfl (.tmp rfl (.nil)) (AVleL.refl _) (by repeat (first | exact List.Sublist.refl _ | refine List.Sublist.cons _ ?_)) ?_;exact⟨retB (by rw[hn,harg];rfl),by rw[hn];rfl⟩
   ·have harg:argP W f=true:=by rw[argP,Bool.not_eq_true'];simpa only[bif_or] using h3
    refine Z8 ?_;refine cd (λh4=>?_) λh4=>?_
    ·refine Z9 ?_;refine OL.guardC rfl rfl rfl rfl rfl rfl (λhg=>POp.call (.mk' rfl rfl rfl rfl (by first | rfl | ((repeat (first | exact hg | rfl | refine Bool.and_eq_true_iff.2 ⟨?_,?_⟩));done) | simp_all [strip,constAV])) ((p106 _ _ (by assumption)))) ?_;refine Z7 ?_;refine Done.retR (rs:=[.tmp 8]) rfl (.tmp rfl (.nil)) (AVleL.refl _) (by repeat (first | exact List.Sublist.refl _ | refine List.Sublist.cons _ ?_)) ?_;exact⟨retB (by rw[hn,harg,leafOk_is h4,bif_and];rfl),by rw[hn];rfl⟩
    ·refine Z21 ?_;refine Done.retR (rs:=[.tmp 8]) rfl (.tmp rfl (.nil)) (AVleL.refl _) (by repeat (first | exact List.Sublist.refl _ | refine List.Sublist.cons _ ?_)) ?_;exact⟨retB (by rw[hn,harg,leafOk_not h4,bif_and,bif_and];rfl),by rw[hn];rfl⟩
theorem nodeC_all{B:Nat}{W:FW}(hW:W.parents.length<=60):∀(n:Nat),n<=1000->NodeC B W n
 | 0,h=>b182_step hW ⟨by omega,by omega⟩ (λh=>by omega)
 | n+1,h=>b182_step hW ⟨by omega,by omega⟩ (λ_=>by
  have e:((n+1:Nat):Int) - 1=(n:Int):=by omega
  rw[e];exact nodeC_all hW n (by omega))
theorem p180{p:Fact->Bool}(hg:PredOk Tryz.prog (.fn f fs cs) AV.fact p)(l:List Fact):PCall Tryz.prog 214 [.sl 6 (encFs l),.fn f fs cs] (.b (l.all p)):=by
 intro H;have h0:fnOk Tryz.prog 214=true:=(b180 (B:=0) l (hg.cb l) [] H ⟨rfl,by simp⟩).1;refine⟨h0,λB I w vs hw hh hvs=>((b180 (B:=B) l (hg.cb l) [] H ⟨rfl,by simp⟩).2 I w vs hw hh hvs).mono λe w' hr=>hr.mono (λy H' hy=>?_) λ_ _ h=>h⟩;obtain⟨b,H1,rfl,rfl,h1,h2⟩:=hy;cases b with
 | true=>
  obtain⟨rfl,h⟩:=h1 rfl;exact⟨congrArg AV.b (List.all_eq_true.2 h).symm,rfl⟩
 | false=>
  obtain⟨pre,⟨rest,rfl⟩,rfl,q,x,rfl,h⟩:=h2 rfl;refine⟨congrArg AV.b ?_,rfl⟩;symm;rw[List.all_eq_false];exact⟨x,by simp,by simp[h]⟩
theorem p181(W:FW)(hW:W.parents.length<=60)(f:Fact):PCall Tryz.prog 215 [AV.fact f,.ptr [Wptr W]] (.b (formedP W f)):=by
 intro H;refine aC (n:=8) Tryz.func215 λB I w0=>?_;refine Z8 ?_;refine OL.alC rfl rfl rfl rfl (λb0=>?_);refine Z7 ?_;refine bC .k (nodeC_all hW 12 (by omega) f 24 b0 H ⟨by omega,by omega⟩) ?_;rintro _ _ ⟨rfl,rfl⟩;refine Z4 ?_;refine r1 3 (H) ?_;exact⟨retB rfl,rfl⟩
theorem p131(W:FW)(hW:W.parents.length<=60)(l:List Fact):PCall Tryz.prog 183 [Wptr W,AV.facts l] (.b (l.all (formedP W))):=by
 intro H;refine aC (n:=8) Tryz.func183 λB I w0=>?_;refine Z10 ?_;refine oP (POp.call .k (p180 (.of (p181 W hW)) l)) ?_;refine Z4 ?_;refine r1 4 (H) ?_;exact⟨by first | rfl | exact retI (by simp_all) | exact retB (by simp_all) | simp_all,rfl⟩
theorem up_get(h:i<U.length):(Wcells W++U.map λs=>AV.set s)[2+i]? =some (AV.set (U.getD i 0)):=by
 show ([AV.intss W.parents,AV.ints W.owner]++_)[2+i]? =_;rw[List.getElem?_append_right (by simp)];simp[List.getElem?_map,List.getElem?_eq_getElem h,List.getD_eq_getElem?_getD]
theorem up_set(h:i<U.length):(Wcells W++U.map λs=>AV.set s).take (2+i)++[AV.set s]++(Wcells W++U.map λs=>AV.set s).drop (2+i+1)=Wcells W++(U.set i s).map λs=>AV.set s:=by
 have e:Wcells W= [AV.intss W.parents,AV.ints W.owner]:=rfl;have e1:(Wcells W++U.map λs=>AV.set s).take (2+i)=Wcells W++(U.take i).map λs=>AV.set s:=by
  rw[e,List.take_append,List.map_take];simp[List.take_of_length_le]
 have e2:(Wcells W++U.map λs=>AV.set s).drop (2+i+1)=(U.drop (i+1)).map λs=>AV.set s:=by
  rw[show 2+i+1=(i+1)+2 from by omega,List.map_drop];rfl
 rw[e1,e2,List.append_assoc,List.append_assoc];congr 1;rw[List.set_eq_take_append_cons_drop,if_pos h];simp
def idxP(l:List Int)(v:Int):Int:=match l.findIdx? (λx=>x==v) with | some i=>(i:Int) | none=>-1
theorem idxP_at(hk:k<l.length)(hp:∀x∈l.take k,x≠v)(h:v=l.getD k default):(k:Int)=idxP l v:=by
 have e:l.findIdx? (λx=>x==v)=some k:=by
  rw[List.findIdx?_eq_some_iff_getElem];refine⟨hk,?_,λj hj=>?_⟩
  ·rw[h,List.getD_eq_getElem?_getD,List.getElem?_eq_getElem hk];simp
  ·have:=hp (l[j]'(by omega)) (by rw[List.mem_take_iff_getElem];exact⟨j,by omega,rfl⟩);simpa using this
 rw[idxP,e]
theorem idxP_none(hp:∀x∈l,x≠v):(-1:Int)=idxP l v:=by
 have e:l.findIdx? (λx=>x==v)=none:=by
  rw[List.findIdx?_eq_none_iff];intro x hx;simpa using hp x hx
 rw[idxP,e]
theorem idxP_contains(l:List Int)(v:Int):decide (idxP l v>=0)=l.contains v:=by
 unfold idxP;cases h:l.findIdx? (λx=>x==v) with
 | none=>
  rw[List.findIdx?_eq_none_iff] at h;symm;simp;intro hx;have:=h v hx;simp at this
 | some i=>
  rw[List.findIdx?_eq_some_iff_getElem] at h;obtain⟨hi,h1,_⟩:=h;symm;simp;have:l[i]=v:=by simpa using h1
  rw[<-this];exact List.getElem_mem hi
theorem ne_step(hk:k<l.length)(hp:∀x∈l.take k,x≠v)(h:v≠l.getD k default):∀x∈l.take (k+1),x≠v:=by
 rw[<-take_getD hk];intro x hx;rcases List.mem_append.1 hx with hx | hx
 ·exact hp x hx
 ·simp at hx;rw[hx];intro e;apply h;simp[e]
theorem p100(l:List Int)(v:Int):PCall Tryz.prog 44 [AV.ints l,.i v] (.i (idxP l v)):=by
 intro H;refine aC (n:=19) Tryz.func44 λB I w0=>?_;refine CW.boundM (t:=0) rfl (λhb0=>?_);refine Z14 ?_;refine lj (λm st=>∃k:Nat,st=⟨[(8,.i k),(7,.i l.length),(0,AV.ints l),(1,.i v)],H⟩/\m=l.length - k/\k<=l.length/\∀x∈l.take k,x≠v) (⟨0,rfl,rfl,by simp,by simp⟩) ?_;rintro m _ ⟨k,rfl,rfl,hk,hp⟩;refine Z6 ?_;refine cd (λh0=>?_) λh0=>?_
 ·refine Z20 ?_;refine cd (λh1=>?_) λh1=>?_
  ·refine Z12 ?_;refine r1 4 (H) ?_;exact⟨retI (idxP_at (by omega) hp h1),rfl⟩
  ·refine Z7 ?_;exact ag (⟨k+1,rfl,rfl,by omega,ne_step (by omega) hp h1⟩)
 ·refine Z11 ?_;refine r1 4 (H) ?_;exact⟨retI (idxP_none (by have e:k=l.length:=(by omega);rw[e,List.take_length] at hp;exact hp)),rfl⟩
theorem p33(l:List Int)(v:Int):PCall Tryz.prog 120 [AV.ints l,.i v] (.b (l.contains v)):=by
 intro H;refine aC (n:=9) Tryz.func120 λB I w0=>?_;refine Z9 ?_;refine oP (POp.call .k ((p100 _ _))) ?_;refine Z5 ?_;refine r1 4 (H) ?_;exact⟨retB (idxP_contains _ _),rfl⟩
def U0(k:Nat):List Nat:=[1,3,5].take k++List.replicate (63 - k) 0
theorem U0_set(h:k<3):(U0 k).set k (1 ||| 2^(k:Int).toNat)=U0 (k+1):=by
 have:k=0\/k=1\/k=2:=by omega
 rcases this with rfl | rfl | rfl <;> rfl
theorem U0_len(h:k<=3):(U0 k).length=63:=by simp[U0];omega
theorem up_set'(h:i<U.length)(hU:U.set i s=U'):(Wcells W++U.map λs=>AV.set s).take (2+i)++[AV.set s]++(Wcells W++U.map λs=>AV.set s).drop (2+i+1)=Wcells W++U'.map λs=>AV.set s:=hU▸up_set h
theorem up_fit(ho:off=2+i)(h:i<U.length):Nat.ble (off+1) (Wcells W++U.map λs=>AV.set s).length=true:=by
 subst ho;rw[Nat.ble_eq];simp[Wcells];omega
theorem world_big(h:(bif decide ((W.parents.length:Int)>60) then true else decide ((W.owner.length:Int)>40))=true):worldP W=false:=by
 rw[bif_or] at h;simp only[Bool.or_eq_true,decide_eq_true_eq] at h;unfold worldP;rcases h with h | h
 ·have:decide (W.parents.length<=60)=false:=by simp;omega
  simp[this]
 ·have:decide (W.owner.length<=40)=false:=by simp;omega
  simp[this]
theorem world_small(h:(bif decide ((W.parents.length:Int)>60) then true else decide ((W.owner.length:Int)>40))=false):W.parents.length<=60/\W.owner.length<=40:=by
 rw[bif_or] at h;simp only[Bool.or_eq_false_iff,decide_eq_false_iff_not] at h;omega
theorem world_val(h:W.parents.length<=60/\W.owner.length<=40):worldP W=(parentssP 0 W.parents && W.owner.all (ownP W)):=by
 simp[worldP,h.1,h.2]
theorem parents_step{l:List (List Int)}(hk:k<l.length):parentssP k (l.drop k)=(parentsP k [] (l.getD k default) && parentssP (k+1) (l.drop (k+1))):=by
 rw[List.drop_eq_getElem_cons hk,parentssP,List.getD_eq_getElem?_getD,List.getElem?_eq_getElem hk];rfl
theorem ups_step{l:List (List Int)}(U:List Nat)(hk:k<l.length):upsFrom (l.drop k) k U=upsFrom (l.drop (k+1)) (k+1) (U.set (3+k) (upFold U k (l.getD k default))):=by
 rw[List.drop_eq_getElem_cons hk,upsFrom,List.getD_eq_getElem?_getD,List.getElem?_eq_getElem hk];rfl
theorem parent_step(hj:j<l.length):parentsP i (l.take j) (l.drop j)=(!(decide (l.getD j default<3) || decide (l.getD j default>=3+i) || (l.take j).contains (l.getD j default)) && parentsP i (l.take (j+1)) (l.drop (j+1))):=by
 rw[List.drop_eq_getElem_cons hj,parentsP, <-take_getD hj,List.getD_eq_getElem?_getD,List.getElem?_eq_getElem hj];rfl
theorem getD_lt[Inhabited α]{l:List α}{j:Nat}(h:j<l.length):l.getD j default=l[j]:=by rw[List.getD_eq_getElem?_getD,List.getElem?_eq_getElem h];rfl
theorem up_get'(ho:off=2+i)(h:i<U.length):(Wcells W++U.map λs=>AV.set s)[off]? =some (AV.set (U.getD i 0)):=ho▸up_get h
theorem up_setO(ho:off=2+i)(h:i<U.length)(hU:U.set i s=U'):(Wcells W++U.map λs=>AV.set s).take off++[AV.set s]++(Wcells W++U.map λs=>AV.set s).drop (off+1)=Wcells W++U'.map λs=>AV.set s:=ho▸up_set' h hU
theorem fold_step(hj:j<l.length):(l.drop j).foldl (λs (p:Int)=>s ||| U.getD p.toNat 0) s=(l.drop (j+1)).foldl (λs (p:Int)=>s ||| U.getD p.toNat 0) (s ||| U.getD (l.getD j default).toNat 0):=by
 rw[List.drop_eq_getElem_cons hj,List.foldl_cons,getD_lt hj]
theorem parent_ok{r:Bool}(hj:j<l.length)(hp:parentsP k (l.take j) (l.drop j)=r)(h:(bif bif decide (l.getD j default<3) then true else decide (3+(k:Int)<=l.getD j default) then true else (l.take j).contains (l.getD j default))=false):
  3<=l.getD j default/\l.getD j default<3+k/\parentsP k (l.take (j+1)) (l.drop (j+1))=r:=by
 rw[bif_or,bif_or] at h;have h0:=h;simp only[Bool.or_eq_false_iff,decide_eq_false_iff_not] at h0;refine⟨by omega,by omega,?_⟩;rw[parent_step hj] at hp;have e:(decide (l.getD j default<3) || decide (l.getD j default>=3+(k:Int)) || (l.take j).contains (l.getD j default))=false:=h;rw[e] at hp;simpa using hp
theorem parent_no{r:Bool}(hj:j<l.length)(hp:parentsP k (l.take j) (l.drop j)=r)(h:(bif bif decide (l.getD j default<3) then true else decide (3+(k:Int)<=l.getD j default) then true else (l.take j).contains (l.getD j default))=true):r=false:=by
 rw[bif_or,bif_or] at h;rw[parent_step hj] at hp;have e:(decide (l.getD j default<3) || decide (l.getD j default>=3+(k:Int)) || (l.take j).contains (l.getD j default))=true:=h;rw[e] at hp;simpa using hp.symm
theorem world_parent_no(hW:W.parents.length<=60/\W.owner.length<=40)(hk:k<W.parents.length)(hpar:parentssP k (W.parents.drop k)=parentssP 0 W.parents)(h:parentsP k [] (W.parents.getD k default)=false):worldP W=false:=by
 rw[parents_step hk,h] at hpar;rw[world_val hW, <-hpar];rfl
theorem u_get(hU:∀x∈U,x<18446744073709551616)(i:Nat):U.getD i 0<18446744073709551616:=by
 rw[List.getD_eq_getElem?_getD];by_cases h:i<U.length
 ·rw[List.getElem?_eq_getElem h];exact hU _ (List.getElem_mem h)
 ·rw[List.getElem?_eq_none (by omega)];decide
theorem u_set(hU:∀x∈U,x<18446744073709551616){i s:Nat}(hs:s<18446744073709551616):∀x∈U.set i s,x<18446744073709551616:=by
 intro x hx;rcases List.mem_or_eq_of_mem_set hx with h | h
 ·exact hU x h
 ·exact h▸hs
theorem or64{s t:Nat}(hs:s<18446744073709551616)(ht:t<18446744073709551616):s ||| t<18446744073709551616:=Nat.or_lt_two_pow (n:=64) hs ht
theorem pow64(h:k<64):2^k<18446744073709551616:=Nat.pow_lt_pow_right (a:=2) (n:=64) (by omega) h
theorem p105(W:FW):PCall Tryz.prog 182 [AV.world W] (.tup [if worldP W then Wptr W else .one,.b (worldP W)]):=by
 intro H;refine aC (n:=91) Tryz.func182 λB I w0=>?_;refine CW.boundA (t:=0) (i:=0) rfl rfl (λhb0=>?_);refine CW.boundA (t:=0) (i:=1) rfl rfl (λhb1=>?_);refine Z22 ?_;refine CW.cond rfl (λh0=>?_) (λh0=>?_)
 ·have hw:worldP W=false:=world_big h0;refine Z8 ?_;refine Done.retR (rs:=[.tmp 2,.tmp 3]) (H':=H) rfl (.tmp rfl (.tmp rfl (.nil))) (.cons (AVle.one rfl (λ_ h=>by cases h)) (.cons (AVle.refl _) .nil)) (by repeat (first | exact List.Sublist.refl _ | refine List.Sublist.cons _ ?_)) ?_;exact⟨by rw[hw];rfl,rfl⟩
 ·have hW:=world_small h0;refine Z6 ?_;refine OL.boxC rfl rfl rfl rfl rfl rfl rfl (λb0=>?_);refine Z10 ?_;refine lj (λm st=>∃k:Nat,st=⟨[(24,.i k),(4,.p b0 0),(1,.ptr (Wcells W))],.blk b0 258 (Wcells W++(U0 k).map λs=>AV.set s)::H⟩/\m=3 - k/\k<=3) (⟨0,rfl,rfl,by omega⟩) ?_;rintro m _ ⟨k,rfl,rfl,hk⟩;refine Z6 ?_;refine cd (λh1=>?_) λh1=>?_
  ·refine Z10 ?_;refine CW.dp mixed ?_;refine DP.anyC 0 6 91 rfl (by decide+kernel) rfl rfl (by decide+kernel) ?_;refine Z3 ?_;refine AD.popC rfl rfl rfl (POp.call .k (p151 1 k (by omega) (by omega))) ?_;refine Z5 ?_;apply OL.stoC rfl rfl rfl rfl rfl rfl rfl rfl rfl rfl
   (case hu=>repeat (first | exact Upd.head _ _ _ | apply Upd.tail));(case hfit=>exact up_fit (i:=k) (by simp) (by rw[U0_len hk];omega));(case hds=>exact up_setO (i:=k) (by simp) (by rw[U0_len hk];omega) (U0_set (by omega)))
   refine Z7 ?_;exact ag (⟨k+1,rfl,rfl,by omega⟩)
  ·obtain rfl:k=3:=by omega
   refine Z15 ?_;refine lj (λm st=>∃(k:Nat) (U:List Nat),st=⟨[(38,.i k),(37,.i W.parents.length),(36,AV.intss W.parents),(4,.p b0 0),(1,.ptr (Wcells W))],.blk b0 258 (Wcells W++U.map λs=>AV.set s)::H⟩/\m=W.parents.length - k/\k<=W.parents.length/\U.length=63/\(∀x∈U,x<18446744073709551616)/\upsFrom (W.parents.drop k) k U=upsP W/\parentssP k (W.parents.drop k)=parentssP 0 W.parents) (⟨0,U0 3,rfl,rfl,by omega,rfl,by decide,rfl,rfl⟩) ?_;rintro m _ ⟨k,U,rfl,rfl,hk,hlen,hU,hup,hpar⟩;refine Z6 ?_;refine cd (λh2=>?_) λh2=>?_
   ·refine Z17 ?_;refine oP (POp.call .k (p151 1 (3+k) (by omega) (by omega))) ?_;refine Z5 ?_;refine CW.boundM (t:=7) rfl (λhbl=>?_);refine Z7 ?_;refine lj (λm st=>∃(j s:Nat),st=⟨[(48,.i j),(47,.i (W.parents.getD k default).length),(46,AV.ints (W.parents.getD k default)),(8,AV.set s),(6,.i k),(7,AV.ints (W.parents.getD k default)),(38,.i k),(37,.i W.parents.length),(36,AV.intss W.parents),(4,.p b0 0),(1,.ptr (Wcells W))],.blk b0 258 (Wcells W++U.map λs=>AV.set s)::H⟩/\m=(W.parents.getD k default).length - j/\j<=(W.parents.getD k default).length/\s<18446744073709551616/\((W.parents.getD k default).drop j).foldl (λs (p:Int)=>s ||| U.getD p.toNat 0) s=upFold U k (W.parents.getD k default)/\parentsP k ((W.parents.getD k default).take j) ((W.parents.getD k default).drop j)=parentsP k [] (W.parents.getD k default)) (⟨0,1 ||| 2^((3:Int)+k).toNat,rfl,rfl,by omega,or64 (by omega) (pow64 (by omega)),by rw[show ((3:Int)+k).toNat=3+k from by omega];rfl,rfl⟩) ?_;rintro m _ ⟨j,s,rfl,rfl,hj,hs,hf,hp⟩;refine Z6 ?_;refine cd (λh3=>?_) λh3=>?_
    ·refine Z27 ?_;refine OL.guardC rfl rfl rfl rfl rfl rfl (λhg=>POp.slTo rfl rfl (by first | rfl | exact hg | simp_all) rfl (by first | rfl | exact hg | simp_all) (by omega)) ?_;refine Z1 ?_;refine OL.guardC rfl rfl rfl rfl rfl rfl (λhg=>POp.call (.mk' rfl rfl rfl rfl (by first | rfl | ((repeat (first | exact hg | rfl | refine Bool.and_eq_true_iff.2 ⟨?_,?_⟩));done) | simp_all [strip,constAV])) (p33 _ _)) ?_;refine Z3 ?_;refine cd (λh4=>?_) λh4=>?_
     ·have hw:worldP W=false:=world_parent_no hW (by omega) hpar (parent_no (by omega) hp h4);refine Z18 ?_;refine Done.retR (rs:=[.tmp 2,.tmp 3]) (H':=H) rfl (.tmp rfl (.tmp rfl (.nil))) (.cons (AVle.one rfl (λ_ h=>by cases h)) (.cons (AVle.refl _) .nil)) (by repeat (first | exact List.Sublist.refl _ | refine List.Sublist.cons _ ?_)) ?_;exact⟨by rw[hw];rfl,rfl⟩
     ·obtain⟨hp0,hp1,hp2⟩:=parent_ok (by omega) hp h4;refine Z9 ?_;refine oP ((by first | exact POp.ld1 rfl rfl rfl rfl | (apply POp.ld1H rfl rfl rfl;(case hm=>repeat (first | exact .head _ | refine .tail _ ?_));(case hy=>exact up_get' (i:=((W.parents.getD k default).getD j default).toNat) (by omega) (by omega))))) ?_;refine oP (POp.bits rfl rfl rfl rfl rfl (bit_or _ _ hs (u_get hU _))) ?_;refine Z8 ?_;exact ag (⟨j+1,s ||| U.getD ((W.parents.getD k default).getD j default).toNat 0,rfl,rfl,by omega,or64 hs (u_get hU _),by rw[<-fold_step (by omega)];exact hf,hp2⟩)
    ·obtain rfl:j=(W.parents.getD k default).length:=by omega
     rw[List.drop_length,List.foldl_nil] at hf;rw[List.drop_length,List.take_length,parentsP] at hp;subst hf;refine Z13 ?_;apply OL.stoC rfl rfl rfl rfl rfl rfl rfl rfl rfl rfl
     (case hu=>repeat (first | exact Upd.head _ _ _ | apply Upd.tail));(case hfit=>exact up_fit (i:=3+k) (by omega) (by omega));(case hds=>exact up_setO (i:=3+k) (by omega) (by omega) rfl)
     refine Z7 ?_;exact ag (⟨k+1,U.set (3+k) (upFold U k (W.parents.getD k default)),rfl,rfl,by omega,by simp[hlen],u_set hU hs,by rw[<-ups_step U (by omega)];exact hup,by rw[parents_step (by omega), <-hp] at hpar;simpa using hpar⟩)
   ·obtain rfl:k=W.parents.length:=by omega
    rw[List.drop_length,upsFrom] at hup;subst hup;rw[List.drop_length,parentssP] at hpar;refine Z6 ?_;refine CW.freezeP (d:=4) rfl (by repeat (first | exact Del.head _ _ | apply Del.tail)) ?_;refine Z6 ?_;refine oP (POp.call .k (p152 (.of (λx=>p153 W x hW.1)) W.owner)) ?_;refine Z5 ?_;refine Done.retR (rs:=[.tmp 2,.tmp 3]) (H':=H) rfl (.tmp rfl (.tmp rfl (.nil))) (.cons (AVle.ite1 (c:=worldP W=true) rfl (λ_ h=>by cases h)) (.cons (AVle.refl _) .nil)) (by repeat (first | exact List.Sublist.refl _ | refine List.Sublist.cons _ ?_)) ?_;exact⟨by rw[world_val hW, <-hpar];rfl,rfl⟩
theorem p105t(h:worldP W=true):PCall Tryz.prog 182 [AV.world W] (.tup [Wptr W,.b true]):=by have:=p105 W;rwa [if_pos h,h] at this
theorem p105f(h:worldP W=false):PCall Tryz.prog 182 [AV.world W] (.tup [.one,.b false]):=by have:=p105 W;rwa [if_neg (by simp[h]),h] at this
theorem world_len(h:worldP W=true):W.parents.length<=60:=by simp[worldP] at h;exact h.1.1.1
theorem world_own(h:worldP W=true):W.owner.length<=40:=by simp[worldP] at h;exact h.1.1.2
theorem p80t(h:worldP W=true)(l:List Fact):PCall Tryz.prog 138 [AV.world W,AV.facts l] (.tup [Wptr W,.b (l.all (formedP W))]):=by
 intro H;refine aC (n:=20) Tryz.func138 λB I w0=>?_;have hW:=world_len h;refine Z10 ?_;refine oP (POp.call .k (p105t h)) ?_;refine Z14 ?_;refine OL.guardC rfl rfl rfl rfl rfl rfl (λhg=>POp.call (.mk' rfl rfl rfl rfl (by first | rfl | ((repeat (first | exact hg | rfl | refine Bool.and_eq_true_iff.2 ⟨?_,?_⟩));done) | simp_all [strip,constAV])) (p131 W hW l)) ?_;refine Z6 ?_;refine rR [.tmp 4,.tmp 5] (H) ?_;exact⟨by first | rfl | exact retI (by simp_all) | exact retB (by simp_all) | simp_all,rfl⟩
theorem p80f(h:worldP W=false)(l:List Fact):PCall Tryz.prog 138 [AV.world W,AV.facts l] (.tup [.one,.b false]):=by
 intro H;refine aC (n:=20) Tryz.func138 λB I w0=>?_;refine Z10 ?_;refine oP (POp.call .k (p105f h)) ?_;refine Z14 ?_;refine OL.guardC (x:=.b false) rfl rfl rfl rfl rfl rfl (λhg=>absurd hg (by simp)) ?_;refine Z6 ?_;refine rR [.tmp 4,.tmp 5] (H) ?_;exact⟨by first | rfl | exact retI (by simp_all) | exact retB (by simp_all) | simp_all,rfl⟩
theorem refused(b:Bool):PCall Tryz.prog 178 [.b b] (.i (if b then 0 else 2)):=by
 intro H;refine aC (n:=5) Tryz.func178 λB I w0=>?_;refine Z12 ?_;refine cd (λh0=>?_) λh0=>?_
 ·refine Z7 ?_;refine r1 2 (H) ?_;exact⟨retI (by simp_all),rfl⟩
 ·refine Z8 ?_;refine r1 2 (H) ?_;exact⟨retI (by simp_all),rfl⟩
theorem factFormedT{W:Fc.FW}(h:worldP W=true)(f:Fact):PCall Tryz.prog 118 [AV.world W,AV.fact f] (.i (if formedP W f then 0 else 2)):=by
 intro H;refine aC (n:=16) Tryz.func118 λB I w0=>?_;refine Z11 ?_;refine oP (POp.rowK [(_,AV.fact f)] rfl rfl (by first | rfl | simp_all) rfl rfl rfl rfl rfl) ?_;refine oP (POp.callLe .k (.cons (.refl _) (.cons (AVle_facts [f] (by rfl)) .nil)) (by have:=p80t h [f];rwa [List.all_cons,List.all_nil,Bool.and_true] at this)) ?_;refine Z10 ?_;refine oP (POp.call .k ((refused _))) ?_;refine Z4 ?_;refine r1 4 (H) ?_;exact⟨by first | rfl | exact retI (by simp_all) | exact retB (by simp_all) | simp_all,rfl⟩
theorem factFormedF{W:Fc.FW}(h:worldP W=false)(f:Fact):PCall Tryz.prog 118 [AV.world W,AV.fact f] (.i 2):=by
 intro H;refine aC (n:=16) Tryz.func118 λB I w0=>?_;refine Z11 ?_;refine oP (POp.rowK [(_,AV.fact f)] rfl rfl (by first | rfl | simp_all) rfl rfl rfl rfl rfl) ?_;refine oP (POp.callLe .k (.cons (.refl _) (.cons (AVle_facts [f] (by rfl)) .nil)) (p80f h [f])) ?_;refine Z10 ?_;refine oP (POp.call .k ((refused _))) ?_;refine Z4 ?_;refine r1 4 (H) ?_;exact⟨by first | rfl | exact retI (by simp_all) | exact retB (by simp_all) | simp_all,rfl⟩
theorem keepI(hg:PredOk Tryz.prog (.fn f fs cs) AV.i p)(l:List Int)(hl:l.length<=1000000):PCall Tryz.prog 234 [AV.ints l,.fn f fs cs] (AV.ints (l.filter p)):=by
 intro H;refine aC (n:=23) Tryz.func234 λB I w0=>?_;refine Z12 ?_;refine CW.ownNil 5 3 1 rfl ?_;refine Z7 ?_;refine lj (λm st=>∃(i:Nat) (v:Value),st=⟨[(10,.i i),(9,.i l.length),(8,AV.ints l),(1,.fn f fs cs),(5,.as (AV.ints ((l.take i).filter p)) v)],.own 3 1 v::H⟩/\m=l.length - i/\i<=l.length) (⟨0,_,rfl,rfl,by omega⟩) ?_;rintro m _ ⟨i,v,rfl,rfl,hi⟩;refine Z6 ?_;refine cd (λh0=>?_) λh0=>?_
 ·have hil:i<l.length:=by omega
  refine Z15 ?_;refine OL.vcallC rfl rfl rfl rfl rfl rfl rfl rfl (AVleL.refl _) (hg B _ _) ?_;rintro _ _ ⟨rfl,rfl⟩;refine Z2 ?_;refine cd (λh1=>?_) λh1=>?_
  ·refine Z3 ?_;refine OL.popC (x:=.sl 1 [[.i (l.getD i default)]]) rfl rfl rfl (POp.row rfl rfl (by first | rfl | simp_all [strip]) rfl rfl rfl rfl rfl rfl) ?_;refine OL.appendC rfl rfl rfl rfl rfl rfl rfl rfl (AVle.refl _) (rfl) (λv=>by repeat (first | exact Upd.head _ _ _ | apply Upd.tail)) (by have h9:=List.length_filter_le p (l.take i);simp only[List.length_map,List.length_take,List.length_singleton,List.length_cons,List.length_nil] at*;omega) (by have h9:=List.length_filter_le p (l.take i);simp only[List.length_map,List.length_take,List.length_singleton,List.length_cons,List.length_nil] at*;omega) (λv20=>?_);refine Z8 ?_;exact ag (⟨i+1,v20,by rw[filter_yes hil h1],rfl,hil⟩)
  ·refine Z7 ?_;exact ag (⟨i+1,v,by rw[filter_no hil h1],rfl,hil⟩)
 ·obtain rfl:i=l.length:=by omega
  rw[List.take_length];refine Z12 ?_;refine Done.retR (rs:=[.tmp 4]) (H':=H) rfl (.tmp rfl (.nil)) (.cons (AVle.asL _ _) .nil) (by repeat (first | exact List.Sublist.refl _ | refine List.Sublist.cons _ ?_)) ?_;exact⟨by first | rfl | exact retI (by simp_all) | exact retB (by simp_all) | simp_all,rfl⟩
theorem bare1(n:Int):PCall Tryz.prog 250 [.i n] (.b (n !=0)):=by
 intro H;refine aC (n:=5) Tryz.func250 λB I w0=>?_;refine Z13 ?_;refine r1 2 (H) ?_;exact⟨by first | rfl | exact retI (by simp_all) | exact retB (by simp_all) | simp_all,rfl⟩
theorem bareC(l:List Int)(hl:l.length<=1000000):PCall Tryz.prog 233 [AV.ints l] (AV.ints (bareL l)):=by
 intro H;refine aC (n:=5) Tryz.func233 λB I w0=>?_;refine Z8 ?_;refine oP (POp.call .k (keepI (.of bare1) l hl)) ?_;refine Z4 ?_;refine r1 2 (H) ?_;exact⟨by first | rfl | exact retI (by simp_all) | exact retB (by simp_all) | simp_all,rfl⟩
theorem merge1(h n:Int):PCall Tryz.prog 235 [.i n,.ptr [.i h]] (.b (n !=h)):=by
 intro H;refine aC (n:=7) Tryz.func235 λB I w0=>?_;refine Z14 ?_;refine r1 3 (H) ?_;exact⟨by first | rfl | exact retI (by simp_all) | exact retB (by simp_all) | simp_all,rfl⟩
theorem mergeC(all:List (List Int))(ht:total all<=1000)(hl:all.length<=1000):PCall Tryz.prog 204 [AV.intss all] (.tup [AV.ints (mergeP all).1,.b (mergeP all).2]):=by
 intro H;refine aC (n:=66) Tryz.func204 λB I w0=>?_;refine Z6 ?_;refine CW.scope ?_;refine Z6 ?_;refine CW.label ?_;refine Z2 ?_;refine CW.ownNil 4 3 1 rfl ?_;refine lj (λm st=>∃(A:List (List Int)) (out:List Int) (n:Nat) (v:Value),st=⟨[(0,AV.intss A),(4,.as (AV.ints out) v)],.own 3 1 v::H⟩/\m=n/\total A<n/\mergeN n A out=mergeP all/\total A+out.length<=total all/\A.length=all.length) (⟨all,[],total all+1,_,rfl,rfl,by omega,rfl,by simp,rfl⟩) ?_;rintro m _ ⟨A,out,n,v,rfl,rfl,hn,hm,hto,hA⟩;obtain⟨n,rfl⟩:∃q,m=q+1:=⟨m - 1,by omega⟩;refine Z1 ?_;refine CW.scope ?_;refine Z6 ?_;refine CW.label ?_;refine Z10 ?_;refine lj (λm st=>∃(i:Nat) (lf:Bool),st=⟨[(16,.i i),(15,.i A.length),(14,AV.intss A),(5,.b lf),(0,AV.intss A),(4,.as (AV.ints out) v)],.own 3 1 v::H⟩/\m=A.length - i/\i<=A.length/\lf= !((A.take i).all List.isEmpty)/\nextH A A=nextH A (A.drop i)) (⟨0,false,rfl,rfl,by omega,rfl,rfl⟩) ?_;rintro m _ ⟨i,lf,rfl,rfl,hi,hlf,hnx⟩;refine Z6 ?_;refine cd (λh0=>?_) λh0=>?_
 ·have hil:i<A.length:=by omega
  obtain⟨L,hL⟩:∃L,L=A.getD i default:=⟨_,rfl⟩;have hdr:=drop_getD hil;rw[<-hL] at hdr;have hLt:=len_total A i hil;rw[<-hL] at hLt;refine Z13 ?_;rw[<-hL];refine Z6 ?_;refine cd (λh1=>?_) λh1=>?_
  ·have hLe:L= []:=List.eq_nil_of_length_eq_zero (by omega);refine Z8 ?_;exact ag (⟨i+1,lf,rfl,rfl,hil,by rw[all_takeB hil, <-hL,hLe,hlf];simp,by rw[hnx,hdr,next_nil hLe]⟩)
  ·have hLn:0<L.length:=by omega
   refine Z16 ?_;refine lj (λm st=>∃j:Nat,st=⟨[(25,.i j),(24,.i A.length),(23,AV.intss A),(7,AV.ints L),(16,.i i),(15,.i A.length),(14,AV.intss A),(5,.b true),(0,AV.intss A),(4,.as (AV.ints out) v)],.own 3 1 v::H⟩/\m=A.length - j/\j<=A.length/\((A.take j).any λm=>m.tail.contains (L.getD 0 default))=false) (⟨0,rfl,rfl,by omega,rfl⟩) ?_;rintro m _ ⟨j,rfl,rfl,hj,hany⟩;refine Z6 ?_;refine cd (λh2=>?_) λh2=>?_
   ·have hjl:j<A.length:=by omega
    obtain⟨M,hM⟩:∃M,M=A.getD j default:=⟨_,rfl⟩;refine Z12 ?_;rw[<-hM];refine CW.dp mixed ?_;refine Z16 ?_;refine DP.anyC 4 9 66 rfl (by decide+kernel) rfl rfl (by decide+kernel) ?_;refine Z1 ?_;refine AD.guardC rfl rfl rfl rfl rfl (λhg=>POp.slFrom (n:=1) rfl rfl (by first | rfl | exact hg | simp_all) rfl (by first | rfl | exact hg | simp_all) (by have:=of_decide_eq_true hg;omega)) ?_;refine Z5 ?_;refine OL.guardC rfl rfl rfl rfl rfl rfl (λhg=>POp.call (.mk' rfl rfl rfl rfl (by first | rfl | ((repeat (first | exact hg | rfl | refine Bool.and_eq_true_iff.2 ⟨?_,?_⟩));done) | simp_all [strip,constAV])) ((sContains _ _))) ?_;refine Z3 ?_;refine cd (λh3=>?_) λh3=>?_
    ·refine Z12 ?_;exact ag (⟨i+1,true,rfl,rfl,hil,by rw[all_takeB hil, <-hL,len_empty hLn,Bool.and_false];rfl,by rw[hnx,hdr,next_no hLn (by rw[headOk_any,any_getD hjl (by rw[<-hM];exact head_in h3)];rfl)]⟩)
    ·refine Z7 ?_;exact ag (⟨j+1,rfl,rfl,hjl,by rw[any_takeB hjl,hany, <-hM,head_out h3];rfl⟩)
   ·obtain rfl:j=A.length:=by omega
    rw[List.take_length] at hany;obtain⟨h,hh⟩:∃h,h=L.getD 0 default:=⟨_,rfl⟩;rw[<-hh] at hany;have hsome:nextH A A=some h:=by rw[hnx,hdr,next_yes hLn (by rw[headOk_any, <-hh,hany];rfl),hh]
    have hlt:=total_lt h A i hil (by rw[<-hL,hh];exact getD_memB hLn);have hle:=total_dropH h A;refine Z10 ?_;refine OL.alC rfl rfl rfl rfl (λb0=>?_);refine Z4 ?_;refine CW.freezeP (d:=10) rfl (by repeat (first | exact Del.head _ _ | apply Del.tail)) ?_;rw[<-hh];refine Z3 ?_;refine OL.popC (x:=.sl 1 [[.i h]]) rfl rfl rfl (POp.row rfl rfl (by first | rfl | simp_all [strip]) rfl rfl rfl rfl rfl rfl) ?_;refine OL.appendC rfl rfl rfl rfl rfl rfl rfl rfl (AVle.refl _) (rfl) (λv=>by repeat (first | exact Upd.head _ _ _ | apply Upd.tail)) (by simp only[List.length_map,List.length_take,List.length_singleton,List.length_cons,List.length_nil] at*;omega) (by simp only[List.length_map,List.length_take,List.length_singleton,List.length_cons,List.length_nil] at*;omega) (λv47=>?_);refine Z10 ?_;refine CW.ownNil 11 23 1 rfl ?_;refine Z7 ?_;refine lj (λm st=>∃(k:Nat) (w:Value),st=⟨[(50,.i k),(49,.i A.length),(48,AV.intss A),(11,.as (AV.intss (dropH h (A.take k))) w),(10,.ptr [.i h]),(4,.as (.sl 1 ((out.map λn=>[AV.i n])++[[AV.i h]])) v47)],.own 23 1 w::.own 3 1 v47::H⟩/\m=A.length - k/\k<=A.length) (⟨0,_,rfl,rfl,by omega⟩) ?_;rintro m _ ⟨k,w,rfl,rfl,hk⟩;refine Z6 ?_;refine cd (λh4=>?_) λh4=>?_
    ·have hkl:k<A.length:=by omega
     have hkt:=len_total A k hkl;refine Z15 ?_;refine oP (POp.call .k (keepI (.of (merge1 h)) (A.getD k default) (by omega))) ?_;refine OL.popC (x:=.sl 1 [[AV.ints ((A.getD k default).filter (· !=h))]]) rfl rfl rfl (POp.row rfl rfl (by first | rfl | simp_all [strip]) rfl rfl rfl rfl rfl rfl) ?_;refine OL.appendC rfl rfl rfl rfl rfl rfl rfl rfl (AVle.refl _) (rfl) (λv=>by repeat (first | exact Upd.head _ _ _ | apply Upd.tail)) (by have h9:=dropH_len h (A.take k);simp only[List.length_map,List.length_take,List.length_singleton,List.length_cons,List.length_nil] at*;omega) (by have h9:=dropH_len h (A.take k);simp only[List.length_map,List.length_take,List.length_singleton,List.length_cons,List.length_nil] at*;omega) (λv59=>?_);refine Z8 ?_;exact ag (⟨k+1,v59,by rw[dropH_snoc _ hkl],rfl,hkl⟩)
    ·obtain rfl:k=A.length:=by omega
     rw[List.take_length];refine Z6 ?_;refine CW.le 11 (y:=AV.intss (dropH h A)) rfl (AVle.asL _ _) ?_;refine Z11 ?_;refine Done.scopeX ?_;refine Z1 ?_;exact ag (⟨dropH h A,out++[h],n,v47,by rw[ints_snoc],rfl,by omega,by rw[<-hm,merge_some hsome],by rw[List.length_append,List.length_singleton];omega,by rw[dropH_len,hA]⟩)
 ·obtain rfl:i=A.length:=by omega
  rw[List.drop_length] at hnx;rw[List.take_length] at hlf;refine Z15 ?_;refine Done.scopeR ?_;refine Z3 ?_;refine Done.scopeR ?_;refine Done.retR (rs:=[.tmp 2,.tmp 3]) (H':=H) rfl (.tmp rfl (.tmp rfl (.nil))) (.cons (AVle.asL _ _) (.cons (.refl _) .nil)) (by repeat (first | exact List.Sublist.refl _ | refine List.Sublist.cons _ ?_)) ?_;exact⟨by rw[<-hm,merge_none hnx,hlf,Bool.not_not];rfl,rfl⟩
theorem lsWith(s:Nat)(c:Int)(hc:0<=c/\c<64)(hs:s<18446744073709551616):PCall Tryz.prog 161 [.agg [AV.set s],.i c] (.agg [AV.set (s ||| 2^c.toNat)]):=by
 intro H;refine aC (n:=12) Tryz.func161 λB I w0=>?_;refine Z2 ?_;refine OL.boxC rfl rfl rfl rfl rfl rfl rfl (λb0=>?_);refine OL.alC rfl rfl rfl rfl (λb1=>?_);refine Z3 ?_;refine CW.dp mixed ?_;refine DP.anyC 0 4 12 rfl (by decide+kernel) rfl rfl (by decide+kernel) ?_;refine Z3 ?_;refine AD.popC rfl rfl rfl (POp.shift rfl rfl rfl rfl rfl hc.1 (sh_left _ hc)) ?_;refine Z2 ?_;refine oP (POp.bits rfl rfl rfl rfl rfl (bit_or _ _ hs (Nat.pow_lt_pow_right (a:=2) (n:=64) (by omega) (by omega)))) ?_;refine Z11 ?_;refine rR [.cell 4 230] (H) ?_;exact⟨by first | rfl | exact retI (by simp_all) | exact retB (by simp_all) | simp_all,rfl⟩
theorem lsOr(s t:Nat)(hs:s<18446744073709551616)(ht:t<18446744073709551616):PCall Tryz.prog 162 [.agg [AV.set s],.agg [AV.set t]] (.agg [AV.set (s ||| t)]):=by
 intro H;refine aC (n:=12) Tryz.func162 λB I w0=>?_;refine Z2 ?_;refine OL.boxC rfl rfl rfl rfl rfl rfl rfl (λb0=>?_);refine Z1 ?_;refine OL.alC rfl rfl rfl rfl (λb1=>?_);refine Z8 ?_;refine oP (POp.bits rfl rfl rfl rfl rfl (bit_or _ _ hs ht)) ?_;refine Z11 ?_;refine rR [.cell 4 230] (H) ?_;exact⟨by first | rfl | exact retI (by simp_all) | exact retB (by simp_all) | simp_all,rfl⟩
abbrev walkF(wb:Nat)(G:AV)(p:Prog):AV:=.fn (.func 177) [] [.ptr [G],.ptr (progC p),.p wb 0]
abbrev walkE(wb:Nat)(G:AV)(p:Prog):Ent:=.blk wb 244 [walkF wb G p]
def WalkC(B:Nat)(p:Prog)(next:Bool)(G:AV)(L:List Vis)(fails:Bool)(J:List Vis->List Ent->Prop)(Jp:AV->List Ent->Prop)(wb:Nat)(f:Nat):Prop:=
 ∀(x:Vis) (out:List Int) (pre rest:List Vis) (H0 Hx:List Ent),x.dp+f=14->1<=x.dp->-1000<=x.sz/\x.sz<=1000+x.dp->pre++(visit p next f x out).1++rest=L->((visit p next f x out).2=none->rest= []/\fails=true)->((visit p next f x out).2≠none->fails=true->rest≠ [])->J pre H0->
  BCall B Tryz.prog 177 [.i x.n,plcA x,.ptr [G],.ptr (progC p),.p wb 0] (H0++(walkE wb G p::Hx)) (λy H'=>y= .b true/\(visit p next f x out).2≠none/\∃H1,H'=H1++(walkE wb G p::Hx)/\J (pre++(visit p next f x out).1) H1)
   (λy H'=>(visit p next f x out).2=none/\∃H1,H'=H1++(walkE wb G p::Hx)/\Jp y H1)
theorem walk_step{p:Prog}{next:Bool}{g:Fn}{L:List Vis}{fails:Bool}{J:List Vis->List Ent->Prop}(hcb:CbP B Tryz.prog (.fn g fs cs) (λx=>.i x.n) plcA L fails J Jp)(hcon:∀y H,Jp y H->∃v,y.Const v)
  {wb f:Nat} (ih:∀f',f=f'+1->WalkC B p next (.fn g fs cs) L fails J Jp wb f'):WalkC B p next (.fn g fs cs) L fails J Jp wb f:=by
 intro x out pre rest H0 Hx hdf hdp hsz hL hn1 hn2 hJ;refine BCall.of (n:=55) Tryz.func177 rfl (by kernel_rfl) rfl rfl (λI w0=>?_);refine Z12 ?_;refine OL.vcall rfl rfl rfl rfl rfl rfl rfl (AVleL.refl _) (hcb pre x H0 (walkE wb (.fn g fs cs) p::Hx) (visit_pre hL) hJ) ?_ ?_
 ·rintro _ _ ⟨H1,rfl,rfl,hlast,hJ1⟩;obtain⟨hok,f',rfl⟩:=visit_ok hdf hL hn1 hlast;obtain⟨hp0,hp1⟩:=okV_place hok;obtain⟨K,hK⟩:∃K,K=ndOf p x:=⟨_,rfl⟩;have hvy:=visit_yes (f:=f') hok;rw[<-hK] at hvy;refine Z3 ?_;refine CW.cond rfl (λh0=>?_) (λh0=>?_)
  ·simp at h0
  ·replace h0:=nm h0;refine Z8 ?_;refine oP ((by first | exact POp.ixM rfl rfl rfl rfl rfl ⟨hp0,hp1⟩ | exact POp.ixI rfl rfl rfl rfl rfl ⟨hp0,hp1⟩)) ?_;refine Z7 ?_;rw[show p.nodes.getD x.n.toNat default=K from hK.symm];refine CW.boundM (t:=21) rfl (λhb21=>?_);refine lj (λm st=>∃(i:Nat) (l:List Vis) (o:List Int) (H1:List Ent),st=⟨[(23,.i i),(22,.i K.kids.length),(21,AV.ints K.kids),(6,.ptr [.i x.sz,.i x.dp]),(0,.i x.n),(2,.ptr [.fn g fs cs]),(3,.ptr (progC p)),(4,.p wb 0)],H1++(walkE wb (.fn g fs cs) p::Hx)⟩/\m=K.kids.length - i/\i<=K.kids.length/\visitsW (visit p next f') ((kidsV x K.op 0 K.kids).take i) (setV out x)=(l,some o)/\J (pre++x::l) H1) (⟨0,[],setV out x,H1,rfl,rfl,by omega,rfl,hJ1⟩) ?_;rintro m _ ⟨i,l,o,H1,rfl,rfl,hi,hvs,hJ1⟩;refine Z6 ?_;refine cd (λh1=>?_) λh1=>?_
   ·have hil:i<K.kids.length:=by omega
    obtain⟨R,hR,hR1,hR2⟩:=kid_step (visit_ne (p:=p) (next:=next) f') (kidsV_get x K.op hil) hvs;obtain⟨hA1,hA2,hA3⟩:=kid_args hvy hL hn1 hn2 hR hR1 (λo' h=>(hR2 o' h).2);refine Z21 ?_;refine OL.alC rfl rfl rfl rfl (λtb=>?_);refine Z9 ?_;refine oP ((by first | exact POp.ixM rfl rfl rfl rfl rfl ⟨hp0,hp1⟩ | exact POp.ixI rfl rfl rfl rfl rfl ⟨hp0,hp1⟩)) ?_;refine Z9 ?_;refine cd (λh2=>?_) λh2=>?_
    ·refine Z9 ?_;refine CW.perm (H':=H1++(walkE wb (.fn g fs cs) p::.blk tb 195 [.i (kidV x K.op i (K.kids.getD i default)).sz,.i (kidV x K.op i (K.kids.getD i default)).dp]::Hx)) (by rw[show (kidV x K.op i (K.kids.getD i default)).sz=x.sz+1 from by rw[show (p.nodes.getD x.n.toNat default).op=K.op by rw[hK];rfl] at h2;simp at h2;simp only[kidV];rw[if_pos (by omega)]];exact perm_kid _ _ _ _) ?_;refine Z1 ?_;refine oP ((by first | exact POp.ld1 rfl rfl rfl rfl | (apply POp.ld1H rfl rfl rfl;(case hm=>exact List.mem_append_right _ (.head _));(case hy=>rfl)))) ?_;refine Z1 ?_;refine oP ((by first | exact POp.ldA rfl rfl rfl rfl | (apply POp.ldAH rfl rfl rfl;(case hm=>exact List.mem_append_right _ (.tail _ (.head _)));(case hy=>rfl);(case hn=>rfl)))) ?_;refine OL.bcall rfl rfl .k (ih f' rfl (kidV x K.op i (K.kids.getD i default)) o (pre++x::l) (R++rest) H1 (.blk tb 195 [.i (kidV x K.op i (K.kids.getD i default)).sz,.i (kidV x K.op i (K.kids.getD i default)).dp]::Hx) (by simp only[kidV];omega) (by simp only[kidV];omega) (by simp only[kidV];split <;> omega) hA1 hA2 hA3 hJ1) ?_ ?_
     ·rintro _ _ ⟨rfl,hne,H2,rfl,hJ2⟩;obtain⟨o',ho⟩:=Option.ne_none_iff_exists'.1 hne;obtain⟨hs',_⟩:=hR2 o' ho;refine Z3 ?_;refine CW.cond rfl (λh3=>?_) (λh3=>?_)
      ·simp at h3
      ·replace h3:=nm h3;refine Z3 ?_;refine CW.subH (drop_kid _ _ _ _) ?_;refine Z4 ?_;exact ag (⟨i+1,l++(visit p next f' (kidV x K.op i (K.kids.getD i default)) o).1,o',H2,by rfl,rfl,hil,hs',by simpa using hJ2⟩)
     ·rintro y H3 ⟨hno,H2,rfl,hq⟩ a w s I v hv;obtain⟨v0,hc⟩:=hcon _ _ hq;rw[hc.is _ _ _ hv];exact outP (P:=Tryz.prog) (fn:=Tryz.f177) hc (drop_kid _ _ _ _) ⟨by rw[hvy];exact (hR1 hno).2,H2,rfl,hq⟩ a w s
    ·refine Z3 ?_;refine CW.perm (H':=H1++(walkE wb (.fn g fs cs) p::.blk tb 195 [.i (kidV x K.op i (K.kids.getD i default)).sz,.i (kidV x K.op i (K.kids.getD i default)).dp]::Hx)) (by rw[show (kidV x K.op i (K.kids.getD i default)).sz=x.sz from by rw[show (p.nodes.getD x.n.toNat default).op=K.op by rw[hK];rfl] at h2;simp at h2;simp only[kidV];rw[if_neg (by omega)]];exact perm_kid _ _ _ _) ?_;refine Z1 ?_;refine oP ((by first | exact POp.ld1 rfl rfl rfl rfl | (apply POp.ld1H rfl rfl rfl;(case hm=>exact List.mem_append_right _ (.head _));(case hy=>rfl)))) ?_;refine Z1 ?_;refine oP ((by first | exact POp.ldA rfl rfl rfl rfl | (apply POp.ldAH rfl rfl rfl;(case hm=>exact List.mem_append_right _ (.tail _ (.head _)));(case hy=>rfl);(case hn=>rfl)))) ?_;refine OL.bcall rfl rfl .k (ih f' rfl (kidV x K.op i (K.kids.getD i default)) o (pre++x::l) (R++rest) H1 (.blk tb 195 [.i (kidV x K.op i (K.kids.getD i default)).sz,.i (kidV x K.op i (K.kids.getD i default)).dp]::Hx) (by simp only[kidV];omega) (by simp only[kidV];omega) (by simp only[kidV];split <;> omega) hA1 hA2 hA3 hJ1) ?_ ?_
     ·rintro _ _ ⟨rfl,hne,H2,rfl,hJ2⟩;obtain⟨o',ho⟩:=Option.ne_none_iff_exists'.1 hne;obtain⟨hs',_⟩:=hR2 o' ho;refine Z3 ?_;refine CW.cond rfl (λh4=>?_) (λh4=>?_)
      ·simp at h4
      ·replace h4:=nm h4;refine Z3 ?_;refine CW.subH (drop_kid _ _ _ _) ?_;refine Z4 ?_;exact ag (⟨i+1,l++(visit p next f' (kidV x K.op i (K.kids.getD i default)) o).1,o',H2,by rfl,rfl,hil,hs',by simpa using hJ2⟩)
     ·rintro y H3 ⟨hno,H2,rfl,hq⟩ a w s I v hv;obtain⟨v0,hc⟩:=hcon _ _ hq;rw[hc.is _ _ _ hv];exact outP (P:=Tryz.prog) (fn:=Tryz.f177) hc (drop_kid _ _ _ _) ⟨by rw[hvy];exact (hR1 hno).2,H2,rfl,hq⟩ a w s
   ·obtain rfl:i=K.kids.length:=by omega
    have hvs2:visitsW (visit p next f') (kidsV x K.op 0 K.kids) (setV out x)=(l,some o):=by rwa [List.take_of_length_le (by rw[kidsV_len];omega)] at hvs
    rw[hvs2] at hvy;refine Z11 ?_;refine Done.retR (rs:=[.tmp 7]) rfl (.tmp rfl (.nil)) (AVleL.refl _) (by repeat (first | exact List.Sublist.refl _ | refine List.Sublist.cons _ ?_)) ?_;exact⟨by first | rfl | exact retI (by simp_all) | exact retB (by simp_all) | simp_all,by rw[hvy];simp,H1,rfl,by rw[hvy];exact hJ1⟩
 ·rintro y H2 ⟨H1,rfl,hlast,hf,hq⟩ a w s I v hv;obtain⟨v0,hc⟩:=hcon _ _ hq;rw[hc.is _ _ _ hv];exact outP (P:=Tryz.prog) (fn:=Tryz.f177) hc (.refl _) ⟨visit_last hL hn2 hf hlast,H1,rfl,hq⟩ a w s
theorem walkAll{B:Nat}{p:Prog}{next:Bool}{g:Fn}{fs cs:List AV}{L:List Vis}{fails:Bool}{J:List Vis->List Ent->Prop}{Jp:AV->List Ent->Prop}(hcb:CbP B Tryz.prog (.fn g fs cs) (λx=>.i x.n) plcA L fails J Jp)(hcon:∀y H,Jp y H->∃v,y.Const v)(wb:Nat):
  ∀f,WalkC B p next (.fn g fs cs) L fails J Jp wb f
 | 0=>walk_step hcb hcon (λf' h=>by omega)
 | f+1=>walk_step hcb hcon (λf' h=>by(obtain rfl:f'=f:=by omega);exact walkAll hcb hcon wb f')
theorem below1{p:Prog}{next:Bool}{g:Fn}{x:Vis}{out:List Int}{J:List Vis->List Ent->Prop}(hx:x.dp=1)(hsz: -1000<=x.sz/\x.sz<=1001)(hcon:∀y H,Jp y H->∃v,y.Const v)
  (hcb:CbP B Tryz.prog (.fn g fs cs) (λx=>.i x.n) plcA (visit p next 13 x out).1 (visit p next 13 x out).2.isNone J Jp) {H0 Hx:List Ent} (hJ:J [] H0):
  BCall B Tryz.prog 176 [.fn g fs cs,.ptr (progC p),.ptr [.i x.n],.ptr [.i x.sz,.i x.dp]] (H0++Hx) (λ_ H'=>(visit p next 13 x out).2.isNone=false/\∃H1 wb,H'=H1++(walkE wb (.fn g fs cs) p::Hx)/\J (visit p next 13 x out).1 H1)
   (λy H'=>(visit p next 13 x out).2.isNone=true/\∃H1 wb,H'=H1++(walkE wb (.fn g fs cs) p::Hx)/\Jp y H1):=by
 refine BCall.of (n:=11) Tryz.func176 rfl (by kernel_rfl) rfl rfl (λI w0=>?_);refine Z7 ?_;refine OL.alC rfl rfl rfl rfl (λwb=>?_);refine Z8 ?_;refine CW.perm (H':=H0++(walkE wb (.fn g fs cs) p::Hx)) List.perm_middle.symm ?_;refine Z1 ?_;refine oP ((by first | exact POp.ld1 rfl rfl rfl rfl | (apply POp.ld1H rfl rfl rfl;(case hm=>exact List.mem_append_right _ (.head _));(case hy=>rfl)))) ?_;refine Z2 ?_;refine OL.bcall rfl rfl .k (walkAll hcb hcon wb 13 x out [] [] H0 Hx (by omega) (by omega) (by omega) (by simp) (λh=>⟨rfl,by rw[h];rfl⟩) (λh hf=>absurd (Option.isNone_iff_eq_none.1 hf) h) hJ) ?_ ?_
 ·rintro _ _ ⟨rfl,hne,H1,rfl,hJ1⟩;refine Z1 ?_;refine Done.norR (rs:=[]) rfl (.nil) (AVleL.refl _) (by repeat (first | exact List.Sublist.refl _ | refine List.Sublist.cons _ ?_)) ?_;exact⟨by cases h:(visit p next 13 x out).2 with
 | none=>exact absurd h hne
 | some o=>rfl,H1,wb,rfl,by simpa using hJ1⟩
 ·rintro y H2 ⟨hno,H1,rfl,hq⟩ a w s I v hv;obtain⟨v0,hc⟩:=hcon _ _ hq;rw[hc.is _ _ _ hv];exact outP (P:=Tryz.prog) (fn:=Tryz.f176) hc (.refl _) ⟨by rw[hno];rfl,H1,wb,rfl,hq⟩ a w s
theorem below(p:Prog)(x:Vis):PCall Tryz.prog 114 [AV.prog p,.i x.n,plcA x] (.fn (.func 176) [] [.ptr (progC p),.ptr [.i x.n],.ptr [.i x.sz,.i x.dp]]):=by
 intro H;refine aC (n:=8) Tryz.func114 λB I w0=>?_;refine Z15 ?_;refine r1 6 (H) ?_;exact⟨by first | rfl | exact retI (by simp_all) | exact retB (by simp_all) | simp_all,rfl⟩
theorem below_seq(B:Nat)(p:Prog)(next:Bool)(x:Vis)(out:List Int)(hx:x.dp=1)(hsz: -1000<=x.sz/\x.sz<=1001):SeqP B Tryz.prog (.fn (.func 176) [] [.ptr (progC p),.ptr [.i x.n],.ptr [.i x.sz,.i x.dp]]) (λx=>.i x.n) plcA (visit p next 13 x out).1 (visit p next 13 x out).2.isNone [] (λ_=>True):=by
 intro J Jp g fs cs hcon hcb H Hx hJ;refine VCall.fnB ((below1 hx hsz hcon hcb hJ).imp ?_ ?_)
 ·rintro y H' ⟨h,H1,wb,rfl,hJ1⟩;exact⟨h,H1,[walkE wb (.fn g fs cs) p],rfl,trivial,hJ1⟩
 ·rintro y H' ⟨h,H1,wb,rfl,hJ1⟩;exact⟨h,H1,[walkE wb (.fn g fs cs) p],rfl,hJ1⟩
end Go.Proofs.YtiaadpngpempbaaGreat

namespace Go.Eng.Bd
open Go.Eng.Fc
theorem rep_and(n:Nat)(h:n<4294967296):bitI .and .u64 (n:Int) 4294967295=some (n:Int):=by
 rw[show (4294967295:Int)=((4294967295:Nat):Int) from rfl,bit_and n 4294967295 (by omega) (by omega)];rw[show (4294967295:Nat)=2^32 - 1 from rfl,Nat.and_two_pow_sub_one_eq_mod,Nat.mod_eq_of_lt (by omega)]
theorem rep_shr(n:Nat)(h:n<4294967296):shI .shr .u64 (n:Int) 32=some 0:=by
 show some ((n:Int).fdiv (2^(min (32:Int).toNat 64)))=some 0;congr 1;rw[show (2:Int)^(min (32:Int).toNat 64)=4294967296 from rfl,Int.fdiv_eq_ediv_of_nonneg _ (by omega)];omega
theorem u64_is{a:Int}{n:Nat}(h:a=n)(hn:n<18446744073709551616):IntKind.u64.wrap a=(n:Int):=by rw[h];exact u64_wrap n hn
def repC(x z:AV)(j k:Nat):List AV:=List.replicate j x++List.replicate k z
theorem repC_step(x z:AV)(j k m:Nat)(hj:m<=j)(hk:m<=k):(repC x z j k).take j++((repC x z j k).take j).take m++(repC x z j k).drop (j+m)=repC x z (j+m) (k - m):=by
 have e1:(repC x z j k).take j=List.replicate j x:=by rw[repC,List.take_append_of_le_length (by simp),List.take_of_length_le (by simp)]
 rw[e1,List.take_replicate,Nat.min_eq_left hj,repC,List.drop_append,List.drop_eq_nil_of_le (by simp),List.nil_append,List.length_replicate,Nat.add_sub_cancel_left,List.drop_replicate,repC,List.replicate_append_replicate]
theorem repC_first(x z:AV)(k:Nat)(hk:1<=k):(List.replicate k z).take 0++[x].take 1++(List.replicate k z).drop 1=repC x z 1 (k - 1):=by
 simp[repC]
theorem repC_all(x z:AV)(j:Nat):repC x z j 0=List.replicate j x:=by simp[repC]
theorem repC_len(x z:AV)(j k:Nat):(repC x z j k).length=j+k:=by simp[repC]
theorem repC_one(x z:AV)(j k:Nat)(hx:allOne [x]=true)(hz:allOne [z]=true):allOne ((repC x z j k).take j)=true:=by
 rw[repC,List.take_append_of_le_length (by simp),List.take_of_length_le (by simp)];simp only[allOne,List.all_eq_true] at hx ⊢;intro y hy;rw[List.eq_of_mem_replicate hy];exact hx x (by simp)
end Go.Eng.Bd

namespace Go.Proofs.YtiaadpngpempbaaGreat
open Go.Eng
open Go.Eng.Fc
open Go.Eng.Bd
instance:HasMk Tryz.prog 23 (3,8,.int .i64 0):=⟨by kernel_rfl⟩
theorem mul64(n:Nat)(hn:n<4294967296):PCall Tryz.prog 210 [.val (.int .u64 ((1:Nat):Int)),.val (.int .u64 (n:Int))] (.tup [.val (.int .u64 0),.val (.int .u64 (n:Int))]):=by
 intro H;refine aC (n:=51) Tryz.func210 λB I w0=>?_;refine Z9 ?_;refine oP (POp.bits rfl rfl rfl rfl rfl (rep_and 1 (by omega))) ?_;refine Z6 ?_;refine oP (POp.shift rfl rfl rfl rfl rfl (by omega) (rep_shr 1 (by omega))) ?_;refine Z6 ?_;refine oP (POp.bits rfl rfl rfl rfl rfl (rep_and _ (by omega))) ?_;refine Z6 ?_;refine oP (POp.shift rfl rfl rfl rfl rfl (by omega) (rep_shr _ (by omega))) ?_;refine Z7 ?_;refine oP (POp.arith rfl rfl rfl rfl rfl rfl (u64_is (n:=n) (by omega) (by omega))) ?_;refine Z7 ?_;refine oP (POp.arith rfl rfl rfl rfl rfl rfl (u64_is (n:=0) (by omega) (by omega))) ?_;refine Z1 ?_;refine oP (POp.shift rfl rfl rfl rfl rfl (by omega) (rep_shr _ (by omega))) ?_;refine oP (POp.arith rfl rfl rfl rfl rfl rfl (u64_is (n:=0) (by omega) (by omega))) ?_;refine Z6 ?_;refine oP (POp.bits rfl rfl rfl rfl rfl (rep_and 0 (by omega))) ?_;refine Z6 ?_;refine oP (POp.shift rfl rfl rfl rfl rfl (by omega) (rep_shr 0 (by omega))) ?_;refine Z8 ?_;refine oP (POp.arith rfl rfl rfl rfl rfl rfl (u64_is (n:=0) (by omega) (by omega))) ?_;refine oP (POp.arith rfl rfl rfl rfl rfl rfl (u64_is (n:=0) (by omega) (by omega))) ?_;refine Z7 ?_;refine oP (POp.arith rfl rfl rfl rfl rfl rfl (u64_is (n:=0) (by omega) (by omega))) ?_;refine Z1 ?_;refine oP (POp.arith rfl rfl rfl rfl rfl rfl (u64_is (n:=0) (by omega) (by omega))) ?_;refine Z1 ?_;refine oP (POp.shift rfl rfl rfl rfl rfl (by omega) (rep_shr 0 (by omega))) ?_;refine oP (POp.arith rfl rfl rfl rfl rfl rfl (u64_is (n:=0) (by omega) (by omega))) ?_;refine Z7 ?_;refine oP (POp.arith rfl rfl rfl rfl rfl rfl (u64_is (n:=n) (by omega) (by omega))) ?_;refine Z4 ?_;refine rR [.tmp 4,.tmp 5] (H) ?_;exact⟨by first | rfl | exact retI (by simp_all) | exact retB (by simp_all) | simp_all,rfl⟩
theorem mulU(n:Nat)(hn:n<4294967296):PCall Tryz.prog 175 [.val (.int .u64 ((1:Nat):Int)),.val (.int .u64 (n:Int))] (.tup [.val (.int .u64 0),.val (.int .u64 (n:Int))]):=by
 intro H;refine aC (n:=30) Tryz.func175 λB I w0=>?_;refine Z7 ?_;refine CW.condKF ?_;refine Z6 ?_;refine oP (POp.call .k (mul64 n hn)) ?_;refine Z16 ?_;refine rR [.tmp 4,.tmp 5] (H) ?_;exact⟨by first | rfl | exact retI (by simp_all) | exact retB (by simp_all) | simp_all,rfl⟩
theorem repeatI(n:Nat)(hn:1<=n/\n<=1000000)(H:List Ent):ACall Tryz.prog 112 [.sl 1 [[(.i (-1))]],.i n] H (λy H'=>∃nb,y=(.val (.slice (some ⟨nb,0,none⟩) n n))/\H'= .blk nb 3 (List.replicate n (.i (-1)))::H) (λ_ _=>False):=by
 refine aC (n:=48) Tryz.func112 λB I w0=>?_;refine Z12 ?_;refine CW.cond rfl (λh0=>?_) (λh0=>?_)
 ·simp at h0;omega
 ·replace h0:=nm h0;refine Z6 ?_;refine oP (POp.cv rfl rfl rfl (u64_is (n:=1) rfl (by omega))) ?_;refine Z1 ?_;refine oP (POp.cv rfl rfl rfl (u64_is (n:=n) rfl (by omega))) ?_;refine oP (POp.call .k (mulU n (by omega))) ?_;refine Z18 ?_;refine CW.cond rfl (λh1=>?_) (λh1=>?_)
  ·simp at h1;omega
  ·replace h1:=nm h1;refine Z5 ?_;refine oP (POp.cv rfl rfl rfl (wrap64 (n:=(n:Int)) (by omega))) ?_;refine OL.mkSlC (n) rfl rfl rfl rfl rfl rfl rfl rfl (rfl) (by omega) (by simp only[maxLen];omega) (λnb=>?_);refine Z7 ?_;refine OL.copyC 1 rfl rfl rfl rfl rfl rfl (SlReads.sl (els:=[[(.i (-1))]]) (by simp[Op.operands,Call.operands]) rfl rfl (AVle.refl _) (by simp)) rfl (by simp;omega) (by simp;omega) (.head _ _ _) ?_;refine Z5 ?_;refine CW.eqH (H':=.blk nb 3 (repC (.i (-1)) (.val (.int .i64 0)) 1 (n - 1))::H) (by rw[show (0:Nat)+1*1=1 from rfl,show 1*1=1 from rfl];rw[<-repC_first _ _ _ hn.1];rfl) ?_;refine lj (λm st=>∃j:Nat,st=⟨[(8,.i j),(7,(.val (.slice (some ⟨nb,0,none⟩) n n))),(0,.sl 1 [[(.i (-1))]])],.blk nb 3 (repC (.i (-1)) (.val (.int .i64 0)) j (n - j))::H⟩/\m=n - j/\1<=j/\j<=n) (⟨1,rfl,rfl,by omega,by omega⟩) ?_;rintro m _ ⟨j,rfl,rfl,hj1,hj⟩;refine Z9 ?_;refine cd (λh2=>?_) λh2=>?_
   ·have hjn:j<n:=by simpa using h2
    refine Z3 ?_;refine CW.dp mixed ?_;refine DP.anyH [⟨7,45,false⟩] (()) (λ(g:Unit) (vs:List (Option Value))=>match vs with | [none]=>.blk nb 3 (repC (.i (-1)) (.val (.int .i64 0)) j (n - j))::H | [some _]=>.blk nb 3 ((repC (.i (-1)) (.val (.int .i64 0)) j (n - j)).take (0+j*1)++(((repC (.i (-1)) (.val (.int .i64 0)) j (n - j)).drop (0+0*1)).take ((j - 0)*1)).take (min j (n - j)*1)++(repC (.i (-1)) (.val (.int .i64 0)) j (n - j)).drop (0+j*1+min j (n - j)*1))::H | _=>[]) 0 8 48 rfl (by decide+kernel) (by decide+kernel) rfl rfl (by decide+kernel) rfl ?_;refine UD.popG [[true],[false]] rfl (by decide+kernel) rfl rfl rfl ⟨λg f=>POp.move rfl rfl rfl,λg f=>POp.move rfl rfl rfl,trivial⟩ ?_;refine UD.popG [[false]] rfl (by decide+kernel) rfl rfl rfl ⟨λg f=>POp.move rfl rfl rfl,trivial⟩ ?_;refine UD.popG [[false]] rfl (by decide+kernel) rfl rfl rfl ⟨λg f=>POp.move rfl rfl rfl,trivial⟩ ?_;refine UD.popG [[false]] rfl (by decide+kernel) rfl rfl rfl ⟨λg f=>POp.slC (kh:=.i64) (l:=j) (m:=n) rfl rfl rfl rfl rfl rfl rfl (by omega) (by omega) (by omega),trivial⟩ ?_;refine UD.popG [[false]] rfl (by decide+kernel) rfl rfl rfl ⟨λg f=>POp.move rfl rfl rfl,trivial⟩ ?_;refine UD.popG [[false]] rfl (by decide+kernel) rfl rfl rfl ⟨λg f=>POp.move rfl rfl rfl,trivial⟩ ?_;refine UD.popG [[false]] rfl (by decide+kernel) rfl rfl rfl ⟨λg f=>POp.slC (kl:=.i64) (l:=0) (m:=j) rfl rfl rfl rfl rfl rfl rfl (by omega) (by omega) (by omega),trivial⟩ ?_;refine UD.effG 0 [[false]] rfl rfl rfl (by decide+kernel) rfl rfl rfl ⟨λg f=>FOk.copy () (min j (n - j)) rfl rfl rfl (SlReads.blk (by simp[Op.operands,Call.operands]) rfl rfl (.head _) (by rw[repC_len];omega)) (by rw[Nat.zero_add,Nat.zero_mul,List.drop_zero,Nat.sub_zero,Nat.mul_one];exact repC_one _ _ _ _ rfl rfl) (by omega) (by rw[repC_len];omega) (λv=>.head _ _ _),trivial⟩ ?_;refine UD.nil (λg f=>?_);simp only[CE.vals,List.map_cons,List.map_nil,List.cons_append,List.nil_append];refine Z5 ?_;refine Done.eqH (H':=.blk nb 3 (repC (.i (-1)) (.val (.int .i64 0)) (j+min j (n - j)) (n - (j+min j (n - j))))::H) (by rw[Nat.zero_add,Nat.zero_add,Nat.zero_mul,Nat.mul_one,Nat.mul_one,Nat.mul_one,List.drop_zero,Nat.sub_zero,repC_step _ _ _ _ _ (by omega) (by omega),Nat.sub_sub]) ?_;refine Done.le 8 (y:=.i (j+min j (n - j):Nat)) rfl (AVle.eqI (by omega)) ?_;exact ag ⟨j+min j (n - j),rfl,rfl,by omega,by omega⟩
   ·obtain rfl:j=n:=by simp at h2;omega
    refine Z12 ?_;refine r1 4 (.blk nb 3 (repC (.i (-1)) (.val (.int .i64 0)) j (j - j))::H) ?_;exact⟨nb,by first | rfl | exact retI (by simp_all) | exact retB (by simp_all) | simp_all,by rw[Nat.sub_self,repC_all]⟩
end Go.Proofs.YtiaadpngpempbaaGreat
