/- Part 13 of the proof: contracts of functions of the program and what they need. No condition beyond those that each theorem names. -/
import Derived.Test.YtpgnjlngepfanaaGreatImageNumbersP12
import Derived.KernelRfl
set_option maxHeartbeats 1000000
set_option linter.unusedVariables false
set_option linter.unusedSimpArgs false
set_option maxRecDepth 10000
set_option maxRecDepth 100000
namespace Go.Proofs.YtpgnjlngepfanaaGreat
open Go.Eng
open Go.Eng.Fc
open Go.Eng.Bd
open Go.Eng.Im (U8 u8 u8s sumR numberR manyR numR_lt)
open Go.Eng.Im (U8 u8 u8s sumR numberR manyR numR_lt splitR Sec)
open Go.Eng.Im (U8 u8 u8s sumR splitR)
variable{σ α:Type}{l r b l' b1 b2 l1 own:List U8}{n:Nat}{x second:U8}{p:Prog}{kinds:List Int}{L:List Sec}{rds:List (Nat×List U8)}{roots:List (Int×Int)}{more objs:List Th}
def Less(R:Rd σ α):Prop:=∀s l y s' l',R s l=some (y,s',l')->l'.length<=l.length
theorem num_less(h:numberR l=some (n,r)):r.length<l.length:=Im.numR_len h
theorem Less.num:Less (numR (σ:=σ)):=λs l y s' l' h=>by
 unfold numR at h;split at h
 ·cases h
 ·rename_i h1;cases h;have:=num_less h1;omega
theorem Less.then{σ α β:Type}{R:Rd σ α}{k:α->Rd σ β}(h1:Less R)(h2:∀a,Less (k a)):Less (thenR R k):=λs l y s' l' h=>by
 unfold thenR at h;split at h
 ·cases h
 ·rename_i a s1 l1 h3;have:=h2 a _ _ _ _ _ h;have:=h1 _ _ _ _ _ h3;omega
theorem Less.done(a:α):Less (doneR (σ:=σ) a):=λs l y s' l' h=>by cases h;exact Nat.le_refl _
theorem Less.need{b:Bool}{R:Rd σ α}(h1:Less R):Less (needR b R):=λs l y s' l' h=>by
 unfold needR at h;split at h
 ·exact h1 _ _ _ _ _ h
 ·cases h
theorem Less.int:Less (intR (σ:=σ)):=.then .num λ_=>.done _
theorem Less.times{σ α:Type}{R:Rd σ α}(h1:Less R):∀n,Less (timesR R n)
 | 0,s,l,y,s',l',h=>by cases h;exact Nat.le_refl _
 | n+1,s,l,y,s',l',h=>by
  rw[timesR] at h;split at h
  ·cases h
  ·rename_i a s1 l1 h2;split at h
   ·cases h
   ·rename_i b s2 l2 h3;cases h;have:=Less.times h1 n _ _ _ _ _ h3;have:=h1 _ _ _ _ _ h2;omega
theorem many_less(h:manyR l=some (n,r)):r.length<l.length:=by
 unfold manyR at h;rcases hq:numberR l with _ | ⟨a,b⟩ <;> rw[hq] at h
 ·cases h
 ·simp only at h;split at h
  ·cases h;exact num_less hq
  ·cases h
theorem Less.many:Less (manyRd (σ:=σ)):=λs l y s' l' h=>by
 unfold manyRd at h;split at h
 ·cases h
 ·rename_i h1;cases h;have:=many_less h1;omega
theorem Less.list{R:Rd σ α}(h1:Less R):Less (listR R):=.then .many λn=>h1.times n
theorem Less.init:Less (initR (σ:=σ)):=.then .num λ_=>.then .int λ_=>.done _
def clsI(s:Int)(l:List U8):Prop:=0<=s/\s+4*(l.length:Int)<=1000000000000
theorem cls_keep{s:Int}{y:Cls}{s':Int}(hI:clsI s l)(h:clsR s l=some (y,s',l')):clsI s' l':=by
 unfold clsR thenR at h;split at h
 ·cases h
 ·rename_i ps s1 l1 h1;obtain rfl:=Still.list Still.num _ _ _ _ _ h1;have h2:=Less.list Less.num _ _ _ _ _ h1;dsimp only at h;split at h
  ·cases h
  ·rename_i n s2 l2 h3;unfold numR at h3;split at h3
   ·cases h3
   ·rename_i k l3 h4;cases h3;have h5:=num_less h4;unfold needR at h;split at h
    ·rename_i h6;rw[decide_eq_true_eq] at h6;dsimp only at h;split at h
     ·cases h
     ·rename_i is s4 l4 h7;obtain rfl:=Still.list Still.init _ _ _ _ _ h7;have h8:=Less.list Less.init _ _ _ _ _ h7;cases h;unfold clsI at hI ⊢;omega
    ·cases h
theorem slots_snoc(s:Int)(i:Nat):slotsFrom s (i+1)=slotsFrom s i++[s+i]:=by simp[slotsFrom,List.range_succ]
theorem slots_len(s:Int)(i:Nat):(slotsFrom s i).length=i:=by simp[slotsFrom]
theorem initC(s:σ)(l:List U8)(rb:Nat)(Hx:List Ent):RCall Tryz.prog 136 [.ptr [.p rb 0]] (rdr rb l::Hx) ((initR s l).map λp=>(.agg (initA p.1),rdr rb p.2.2::Hx)) Hx wrongA:=by
 refine aC (n:=9) Tryz.func136 λB I w0=>?_;refine Z2 ?_;refine OL.alC rfl rfl rfl rfl (λb1=>?_);refine Z3 ?_;refine CW.perm (List.Perm.swap _ _ _) ?_;refine Z2 ?_;rcases hq:numberR l with _ | ⟨n,r⟩
 ·refine OL.rcallN rfl rfl (.mk' rfl rfl rfl rfl rfl) (q134n hq _ _) wrong_c ?_;exact outP (P:=Tryz.prog) (fn:=Tryz.f136) wrong_c (.cons _ (.refl _)) ⟨by rw[initR,thenR_none (numR_none hq)];rfl,rfl,rfl⟩
 ·have hv:initR s l=_:=thenR_some (numR_some hq);refine OL.rcallS rfl rfl rfl (.mk' rfl rfl rfl rfl rfl) (q134s hq _ _) ?_;refine Z7 ?_;rcases hi:intR s r with _ | ⟨z,s1,r1⟩
  ·refine OL.rcallN rfl rfl (.mk' rfl rfl rfl rfl rfl) (intN hi _ _) wrong_c ?_;exact outP (P:=Tryz.prog) (fn:=Tryz.f136) wrong_c (.cons _ (.refl _)) ⟨by rw[hv,thenR_none hi];rfl,rfl,rfl⟩
  ·obtain rfl:=Still.int _ _ _ _ _ hi;rw[thenR_some hi] at hv;refine OL.rcallS rfl rfl rfl (.mk' rfl rfl rfl rfl rfl) (intS hi _ _) ?_;refine Z5 ?_;refine Done.retR (rs:=[.cell 1 143]) (H':=rdr rb r1::Hx) rfl (Ym) (AVleL.refl _) (by exact .cons_cons _ (.cons _ (.refl _))) ?_;exact by rw[hv];rfl
theorem initOk(rb:Nat):RdOk Tryz.prog rb (noS (σ:=σ)) (.fn (.func 136) [] [.ptr [.p rb 0]]) initR (λx=>.agg (initA x)) noI:=.of (λ_ _ _ _ _ _ _=>trivial) λs l Hx _=>initC s l rb Hx
abbrev nilA:AV:=.val (.slice none 0 0)
abbrev pzE(pb:Nat)(s:Int):Ent:=.blk pb 27 [nilA,.i s,nilA,nilA,nilA,.val (.int .i64 0)]
theorem listI_n{s:σ}(h:listR numR s l=none)(rb:Nat)(Hx:List Ent):RCall Tryz.prog 133 [.p rb 0,.fn (.func 134) [.p rb 0] []] (rdr rb l::Hx) none Hx wrongA:=by
 have h1:=listI (numOk (σ:=σ) rb) s l (λ_ _ _=>trivial) Hx;rwa [h] at h1
theorem listI_s{s s':σ}{ps:List Int}(h:listR numR s l=some (ps,s',l'))(rb:Nat)(Hx:List Ent):RCall Tryz.prog 133 [.p rb 0,.fn (.func 134) [.p rb 0] []] (rdr rb l::Hx) (some (AV.ints ps,rdr rb l'::Hx)) Hx wrongA:=by
 have h1:=listI (numOk (σ:=σ) rb) s l (λ_ _ _=>trivial) Hx;rwa [h] at h1
theorem clsC{s:Int}(hI:clsI s l)(rb pb:Nat)(Hx:List Ent):RCall Tryz.prog 132 [.ptr [.p rb 0],.p pb 0] (rdr rb l::pzE pb s::Hx) ((clsR s l).map λp=>(.agg (clsA p.1),rdr rb p.2.2::pzE pb p.2.1::Hx)) Hx wrongA:=by
 refine aC (n:=35) Tryz.func132 λB I w0=>?_;refine Z2 ?_;refine OL.alC rfl rfl rfl rfl (λb2=>?_);refine Z3 ?_;refine CW.perm (List.Perm.swap _ _ _) ?_;refine Z4 ?_;rcases hq:listR numR s l with _ | ⟨ps,s1,l1⟩
 ·refine OL.rcallN rfl rfl (.mk' rfl rfl rfl rfl rfl) (listI_n hq rb _) wrong_c ?_;exact outP (P:=Tryz.prog) (fn:=Tryz.f132) wrong_c (.cons _ (.cons _ (.refl _))) ⟨by rw[clsR,thenR_none hq];rfl,rfl,rfl⟩
 ·have hv:clsR s l=_:=thenR_some hq;obtain rfl:=Still.list Still.num _ _ _ _ _ hq;refine OL.rcallS rfl rfl rfl (.mk' rfl rfl rfl rfl rfl) (listI_s hq rb _) ?_;refine Z1 ?_;refine OL.alC rfl rfl rfl rfl (λb3=>?_);refine Z4 ?_;refine CW.perm (List.Perm.swap _ _ _) ?_;refine Z2 ?_;rcases hn:numberR l1 with _ | ⟨n,r⟩
  ·refine OL.rcallN rfl rfl (.mk' rfl rfl rfl rfl rfl) (q134n hn _ _) wrong_c ?_;exact outP (P:=Tryz.prog) (fn:=Tryz.f132) wrong_c (.cons _ (.cons _ (.cons _ (.refl _)))) ⟨by rw[hv,thenR_none (numR_none hn)];rfl,rfl,rfl⟩
  ·rw[thenR_some (numR_some hn)] at hv;refine OL.rcallS rfl rfl rfl (.mk' rfl rfl rfl rfl rfl) (q134s hn _ _) ?_;refine Z7 ?_;by_cases h4:(n:Int)<=4
   ·rw[needR_yes (by simpa using h4)] at hv;refine OL.rcallS rfl rfl rfl (.mk' rfl rfl rfl rfl rfl) (q71t (by simpa using h4) _) ?_;refine Z10 ?_;unfold clsI at hI;refine CW.ownNilB (b:=b3) (t:=79) 3 1 1 YC rfl rfl ?_;refine lj (λm st=>∃(i:Nat) (v:Value),st=⟨[(16,.i i),(15,.i n),(3,.p b3 0),(2,.p b2 0),(0,.ptr [.p rb 0]),(1,.p pb 0)],.own 3 1 v::rdr rb r::.blk b3 79 [AV.ints ps,.as (AV.ints (slotsFrom s1 i)) v,nilA]::.blk b2 79 [nilA,nilA,nilA]::pzE pb (s1+i)::Hx⟩/\m=n - i/\i<=n) (⟨0,_,by rw[show s1+((0:Nat):Int)=s1 by omega],rfl,Ya⟩) ?_;rintro m _ ⟨i,v,rfl,rfl,hi⟩;refine Z6 ?_;refine cd (λh0=>?_) λh0=>?_
    ·have hil:i<n:=by omega
     have hsl:=slots_len s1 i;refine Z10 ?_;refine OL.popC (x:=.sl 1 [[.i (s1+i)]]) rfl rfl rfl (POp.row rfl rfl Yh rfl rfl rfl rfl rfl rfl) ?_;refine OL.appendC rfl rfl rfl rfl rfl rfl rfl rfl (AVle.refl _) (rfl) (λv=>by repeat (first | exact Upd.head _ _ _ | apply Upd.tail)) (by simp only[List.length_map,hsl,List.length_singleton];omega) (by simp only[List.length_map,hsl,List.length_singleton];omega) (λv23=>?_);refine Z17 ?_;exact ag (⟨i+1,v23,by rw[slots_snoc,ints_snoc,show s1+((i+1:Nat):Int)=s1+i+1 by omega],rfl,hil⟩)
    ·obtain rfl:n=i:=by omega
     refine Z6 ?_;refine CW.perm (List.Perm.swap _ _ _) ?_;refine Z3 ?_;rcases hz:listR initR (s1+(n:Int)) r with _ | ⟨is,s2,r2⟩
     ·refine OL.rcallN rfl rfl (.mk' rfl rfl rfl rfl rfl) YQ wrong_c ?_;exact outP (P:=Tryz.prog) (fn:=Tryz.f132) wrong_c (.cons _ (.cons _ (.cons _ (.cons _ (.refl _))))) ⟨by rw[hv,thenR_none hz];rfl,rfl,rfl⟩
     ·rw[thenR_some hz] at hv;obtain rfl:=Still.list Still.init _ _ _ _ _ hz;refine OL.rcallS rfl rfl rfl (.mk' rfl rfl rfl rfl rfl) YQ ?_;refine Z11 ?_;refine Done.retR (rs:=[.cell 2 79]) (H':=rdr rb r2::pzE pb (s1+n)::Hx) rfl (Ym) (.cons (AVle.agg (.cons (.refl _) (.cons (AVle.asL _ _) (.cons (.refl _) .nil)))) .nil) Yay ?_;exact by rw[hv];rfl
   ·refine OL.rcallN rfl rfl (.mk' rfl rfl rfl rfl rfl) (q71f (by simpa using h4) _) wrong_c ?_;exact outP (P:=Tryz.prog) (fn:=Tryz.f132) wrong_c (.cons _ (.cons _ (.cons _ (.cons _ (.refl _))))) ⟨by rw[hv,needR_no (by simpa using h4)];rfl,rfl,rfl⟩
theorem clsOkR(rb pb:Nat):RdOk Tryz.prog rb (λs=>[pzE pb s]) (.fn (.func 132) [] [.ptr [.p rb 0],.p pb 0]) clsR (λx=>.agg (clsA x)) clsI:=.of (λ_ _ _ _ _ hI h=>cls_keep hI h) λs l Hx hI=>clsC hI rb pb Hx
theorem kidsC(A Sv Bv Cv Dv K:AV)(gens:List Int)(op n:Int)(hn:op=5->0<=n)(Hx:List Ent):RCall Tryz.prog 143 [.agg [A,Sv,AV.ints gens,Bv,Cv,Dv],(.agg [.i op,.i n,K])] Hx ((kidsN gens op n).map λk=>(.i k,Hx)) Hx wrongA:=by
 refine aC (n:=43) Tryz.func143 λB I w0=>?_;refine Z15 ?_;refine CW.cutJ (λst=>∃b:Bool,st=⟨[(7,.b b),(6,.i op),(3,.ptr [.i op,.i n,K]),(2,.ptr [A,Sv,AV.ints gens,Bv,Cv,Dv])],Hx⟩/\b=decide (op=1\/op=2\/op=3\/op=6\/op=18)) ?_ ?_
 ·refine Z6 ?_;refine cd (λh0=>?_) λh0=>?_
  ·refine Z1 ?_;exact cj ⟨(op==1),rfl,by simp[h0]⟩
  ·refine Z6 ?_;refine cd (λh1=>?_) λh1=>?_
   ·refine Z1 ?_;exact cj ⟨(op==2),rfl,by simp[h1]⟩
   ·refine Z6 ?_;refine cd (λh2=>?_) λh2=>?_
    ·refine Z1 ?_;exact cj ⟨(op==3),rfl,by simp[h2]⟩
    ·refine Z6 ?_;refine cd (λh3=>?_) λh3=>?_
     ·refine Z1 ?_;exact cj ⟨(op==6),rfl,by simp[h3]⟩
     ·refine Z4 ?_;exact cj ⟨(op==18),rfl,by have e:(op==18)=decide (op=18):=rfl;rw[e,decide_eq_decide];omega⟩
 ·rintro _ ⟨b,rfl,hb⟩;refine CW.cond rfl (λh4=>?_) (λh4=>?_)
  ·rw[hb,decide_eq_true_eq] at h4;refine Z8 ?_;refine r1 4 (Hx) ?_;exact by rw[kidsN,if_pos h4];rfl
  ·rw[hb,decide_eq_false_iff_not] at h4;refine CW.cutJ (λst=>∃b:Bool,st=⟨[(13,.b b),(6,.i op),(3,.ptr [.i op,.i n,K]),(2,.ptr [A,Sv,AV.ints gens,Bv,Cv,Dv])],Hx⟩/\b=decide (op=4\/op=8\/op=17)) ?_ ?_
   ·refine Z6 ?_;refine cd (λh5=>?_) λh5=>?_
    ·refine Z1 ?_;exact cj ⟨(op==4),rfl,by simp[h5]⟩
    ·refine Z6 ?_;refine cd (λh6=>?_) λh6=>?_
     ·refine Z1 ?_;exact cj ⟨(op==8),rfl,by simp[h6]⟩
     ·refine Z4 ?_;exact cj ⟨(op==17),rfl,by have e:(op==17)=decide (op=17):=rfl;rw[e,decide_eq_decide];omega⟩
   ·rintro _ ⟨b2,rfl,hb2⟩;refine CW.cond rfl (λh7=>?_) (λh7=>?_)
    ·rw[hb2,decide_eq_true_eq] at h7;refine Z8 ?_;refine r1 4 (Hx) ?_;exact by rw[kidsN,if_neg h4,if_pos h7];rfl
    ·rw[hb2,decide_eq_false_iff_not] at h7;refine Z6 ?_;refine cd (λh8=>?_) λh8=>?_
     ·refine Z8 ?_;refine r1 4 (Hx) ?_;exact by rw[kidsN,if_neg h4,if_neg h7,if_pos h8];rfl
     ·refine Z6 ?_;refine cd (λh9=>?_) λh9=>?_
      ·have hn0:=hn h9;refine Z13 ?_;refine OL.guardC rfl rfl rfl rfl rfl rfl (λhg=>(by first | exact POp.ixM rfl rfl (gd hg) rfl (gd hg) Yat | exact POp.ixI rfl rfl (gd hg) rfl (gd hg) Yat)) ?_;refine Z3 ?_;by_cases hq:n<gens.length/\gens.getD n.toNat default<=3
       ·have hi:=hq.1;refine OL.rcallS rfl rfl rfl (.mk' rfl rfl rfl rfl rfl) (q71t (by rw[Bool.cond_false_right,Bool.and_eq_true];exact⟨decide_eq_true (by have:=hq.1;omega),decide_eq_true hq.2⟩) _) ?_;refine Z16 ?_;refine r1 4 (Hx) ?_;exact by rw[kidsN,if_neg h4,if_neg h7,if_neg h8,if_pos h9,if_pos hq];rfl
       ·refine OL.rcallN rfl rfl (.mk' rfl rfl rfl rfl rfl) (q71f (by rw[Bool.cond_false_right,Bool.and_eq_false_iff,decide_eq_false_iff_not,decide_eq_false_iff_not];have h10:=Classical.not_and_iff_not_or_not.1 hq;omega) _) wrong_c ?_;exact outP (P:=Tryz.prog) (fn:=Tryz.f143) wrong_c (.refl _) ⟨by rw[kidsN,if_neg h4,if_neg h7,if_neg h8,if_pos h9,if_neg hq];rfl,rfl,rfl⟩
      ·refine Z9 ?_;refine r1 4 (Hx) ?_;exact by rw[kidsN,if_neg h4,if_neg h7,if_neg h8,if_neg h9];rfl
theorem ndN_five{n:Int}{s s':Unit}{z:Int}(h5:n=5)(h:ndNR n s l=some (z,s',l')):0<=z:=by
 subst h5;unfold ndNR at h;rw[if_neg YO,if_pos YO] at h;unfold numR at h;split at h
 ·cases h
 ·cases h;omega
theorem kidsN_le{gens:List Int}{op n k:Int}(h:kidsN gens op n=some k):k<=3:=by
 unfold kidsN at h;split at h
 ·cases h;decide
 ·split at h
  ·cases h;decide
  ·split at h
   ·cases h;decide
   ·split at h
    ·split at h
     ·rename_i h1;cases h;exact h1.2
     ·cases h
    ·cases h;decide
theorem valS{s s':σ}{x:Int×Int}(h:valR s l=some (x,s',l'))(rb:Nat)(Hx:List Ent):RCall Tryz.prog 91 [.p rb 0] (rdr rb l::Hx) (some (AV.mv x,rdr rb l'::Hx)) Hx wrongA:=by
 have h1:=valueR s l rb Hx;rwa [h] at h1
theorem valN{s:σ}(h:valR s l=none)(rb:Nat)(Hx:List Ent):RCall Tryz.prog 91 [.p rb 0] (rdr rb l::Hx) none Hx wrongA:=by
 have h1:=valueR s l rb Hx;rwa [h] at h1
theorem nodeR(l:List U8)(A Sv Bv Cv Dv:AV)(gens:List Int)(rb pb:Nat)(Hx:List Ent):RCall Tryz.prog 141 [.ptr [.p rb 0],.p pb 0] (rdr rb l::.blk pb 27 [A,Sv,AV.ints gens,Bv,Cv,Dv]::Hx) ((ndR gens () l).map λp=>(AV.nd p.1,rdr rb p.2.2::.blk pb 27 [A,Sv,AV.ints gens,Bv,Cv,Dv]::Hx)) Hx wrongA:=by
 refine aC (n:=44) Tryz.func141 λB I w0=>?_;refine Z2 ?_;refine OL.alC rfl rfl rfl rfl (λb2=>?_);refine Z3 ?_;refine CW.perm (List.Perm.swap _ _ _) ?_;refine Z2 ?_;rcases hq:numberR l with _ | ⟨n,r⟩
 ·refine OL.rcallN rfl rfl (.mk' rfl rfl rfl rfl rfl) (q134n hq _ _) wrong_c ?_;exact outP (P:=Tryz.prog) (fn:=Tryz.f141) wrong_c (.cons _ (.cons _ (.refl _))) ⟨by rw[ndR,thenR_none (numR_none hq)];rfl,rfl,rfl⟩
 ·have hv:ndR gens () l=_:=thenR_some (numR_some hq);refine OL.rcallS rfl rfl rfl (.mk' rfl rfl rfl rfl rfl) (q134s hq _ _) ?_;refine Z1 ?_;refine OL.alC rfl rfl rfl rfl (λb3=>?_);refine Z4 ?_;refine CW.perm (List.Perm.swap _ _ _) ?_;refine Z9 ?_;by_cases ho:1<=(n:Int)/\(n:Int)<=18
  ·rw[needR_yes (by simpa using ho)] at hv;refine OL.rcallS rfl rfl rfl (.mk' rfl rfl rfl rfl rfl) (q71t (by rw[Bool.cond_false_right,Bool.and_eq_true];exact⟨decide_eq_true ho.1,decide_eq_true ho.2⟩) _) ?_;refine Z2 ?_;refine CW.cutJ (λst=>∃(z:Int) (r':List U8),st=⟨[(3,.p b3 0),(2,.p b2 0),(0,.ptr [.p rb 0]),(1,.p pb 0)],rdr rb r'::.blk b3 146 [.i n,.i z,nilA]::.blk b2 146 [.val (.int .i64 0),.val (.int .i64 0),nilA]::.blk pb 27 [A,Sv,AV.ints gens,Bv,Cv,Dv]::Hx⟩/\ndNR n () r=some (z,(),r')) ?_ ?_
   ·refine Z9 ?_;refine cd (λh0=>?_) λh0=>?_
    ·have he:ndNR (σ:=Unit) (n:Int)=intR:=by rw[ndNR,if_pos h0]
     refine Z2 ?_;rcases hi:intR () r with _ | ⟨z,s1,r1⟩
     ·refine OL.rcallN rfl rfl (.mk' rfl rfl rfl rfl rfl) (intN hi _ _) wrong_c ?_;exact outP (P:=Tryz.prog) (fn:=Tryz.f141) wrong_c (.cons _ (.cons _ (.cons _ (.refl _)))) ⟨by rw[hv,thenR_none (by rw[he];exact hi)];rfl,rfl,rfl⟩
     ·refine OL.rcallS rfl rfl rfl (.mk' rfl rfl rfl rfl rfl) (intS hi _ _) ?_;refine Z4 ?_;exact cj ⟨z,r1,rfl,by rw[he];exact hi⟩
    ·refine Z4 ?_;refine oP (POp.call .k ((numberedC _))) ?_;refine Z3 ?_;refine cd (λh1=>?_) λh1=>?_
     ·have he:ndNR (σ:=Unit) (n:Int)=numR:=by rw[ndNR,if_neg h0,if_pos h1]
      refine Z2 ?_;rcases hi:numberR r with _ | ⟨z,r1⟩
      ·refine OL.rcallN rfl rfl (.mk' rfl rfl rfl rfl rfl) (q134n hi _ _) wrong_c ?_;exact outP (P:=Tryz.prog) (fn:=Tryz.f141) wrong_c (.cons _ (.cons _ (.cons _ (.refl _)))) ⟨by rw[hv,thenR_none (by rw[he];exact numR_none hi)];rfl,rfl,rfl⟩
      ·refine OL.rcallS rfl rfl rfl (.mk' rfl rfl rfl rfl rfl) (q134s hi _ _) ?_;refine Z4 ?_;exact cj ⟨(z:Int),r1,rfl,by rw[he];exact numR_some hi⟩
     ·have he:ndNR (σ:=Unit) (n:Int)=doneR 0:=by rw[ndNR,if_neg h0,if_neg (by rw[h1];simp)]
      refine Z2 ?_;exact cj ⟨0,r,rfl,by rw[he];rfl⟩
   ·rintro _ ⟨z,r',rfl,hz⟩;rw[thenR_some hz] at hv;refine Z5 ?_;rcases hk:kidsN gens n z with _ | k
    ·refine OL.rcallN rfl rfl (.mk' rfl rfl rfl rfl rfl) YM wrong_c ?_;exact outP (P:=Tryz.prog) (fn:=Tryz.f141) wrong_c (.cons _ (.cons _ (.cons _ (.cons _ (.refl _))))) ⟨by rw[hv,hk];rfl,rfl,rfl⟩
    ·rw[hk] at hv;dsimp only at hv;have hk3:=kidsN_le hk;refine OL.rcallS rfl rfl rfl (.mk' rfl rfl rfl rfl rfl) YM ?_;refine Z4 ?_;refine CW.ownNilB (b:=b3) (t:=146) 3 1 2 YC rfl rfl ?_;refine CW.perm (List.Perm.swap _ _ _) ?_;refine lj (λm st=>∃(i:Nat) (ks:List Int) (r2:List U8) (v:Value),st=⟨[(33,.i i),(32,.i k),(3,.p b3 0),(2,.p b2 0),(0,.ptr [.p rb 0]),(1,.p pb 0)],rdr rb r2::.own 3 1 v::.blk b3 146 [.i n,.i z,.as (AV.ints ks) v]::.blk b2 146 [.val (.int .i64 0),.val (.int .i64 0),nilA]::.blk pb 27 [A,Sv,AV.ints gens,Bv,Cv,Dv]::Hx⟩/\m=k.toNat - i/\i<=k.toNat/\ks.length=i/\timesR numR k.toNat () r'=(timesR numR (k.toNat - i) () r2).map λp=>(ks++p.1,p.2.1,p.2.2)) (⟨0,[],r',_,rfl,rfl,Ya,rfl,times_begin _ _ _ _⟩) ?_;rintro m _ ⟨i,ks,r2,v,rfl,rfl,hi,hkl,ht⟩;refine Z6 ?_;refine cd (λh2=>?_) λh2=>?_
     ·have hil:i<k.toNat:=by omega
      obtain⟨ht1,ht2⟩:=times_snoc hil ht;refine Z4 ?_;rcases hw:numberR r2 with _ | ⟨w,r3⟩
      ·refine CW.dp mixed ?_;refine DP.anyPan (Hf:=.own 3 1 v::.blk b3 146 [.i n,.i z,.as (AV.ints ks) v]::.blk b2 146 [.val (.int .i64 0),.val (.int .i64 0),nilA]::.blk pb 27 [A,Sv,AV.ints gens,Bv,Cv,Dv]::Hx) 3 0 5 44 rfl Ye Ye Ye Ye (λenv=>outP (P:=Tryz.prog) (fn:=Tryz.f141) (Hf:=Hx) wrong_c (.cons _ (.cons _ (.cons _ (.cons _ (.refl _))))) ⟨by rw[hv,thenR_none (ht1 (numR_none hw))];rfl,rfl,rfl⟩) ?_;refine UD.popP rfl rfl rfl rfl (Yj) ?_;refine UD.popP rfl rfl rfl rfl (Yb) ?_;refine UD.popP rfl rfl rfl rfl (Yb) ?_;refine UD.panP rfl rfl rfl .k (q134n hw rb (.own 3 1 v::.blk b3 146 [.i n,.i z,.as (AV.ints ks) v]::.blk b2 146 [.val (.int .i64 0),.val (.int .i64 0),nilA]::.blk pb 27 [A,Sv,AV.ints gens,Bv,Cv,Dv]::Hx)) wrong_c ?_;refine UD.waitP Ye rfl rfl ?_;exact UD.nil trivial
      ·have ht3:=ht2 _ _ _ (numR_some hw);refine CW.dp mixed ?_;refine DP.anyK (X:=noX) [⟨3,38,false⟩] (λJ=>match J with | [some _]=>rdr rb r3::.own 3 1 v::.blk b3 146 [.i n,.i z,.as (AV.ints ks) v]::.blk b2 146 [.val (.int .i64 0),.val (.int .i64 0),nilA]::.blk pb 27 [A,Sv,AV.ints gens,Bv,Cv,Dv]::Hx | _=>rdr rb r2::.own 3 1 v::.blk b3 146 [.i n,.i z,.as (AV.ints ks) v]::.blk b2 146 [.val (.int .i64 0),.val (.int .i64 0),nilA]::.blk pb 27 [A,Sv,AV.ints gens,Bv,Cv,Dv]::Hx) (λq J=>match q,J with | 0,[some _]=>.i w | _,_=>.any) 0 5 44 rfl Ye Ye rfl rfl Ye rfl (λ_ _ _ _ _ _ _ _ _ h=>h.elim) ?_;refine UD.popK [[true],[false]] rfl Ye rfl rfl rfl ⟨λf=>Yj,λf=>Yj,trivial⟩ ?_;refine UD.popK [[true],[false]] rfl Ye rfl rfl rfl ⟨λf=>Yb,λf=>Yb,trivial⟩ ?_;refine UD.popK [[false]] rfl Ye rfl rfl rfl ⟨λf=>Yb,trivial⟩ ?_;refine UD.effK 0 [[false]] rfl rfl rfl Ye rfl rfl rfl ⟨λf=>⟨KOk.rcall .k (q134s hw rb _) (λ_=>rfl) (λ_=>rfl),Yn⟩,trivial⟩ ?_;refine UD.popK [[true]] rfl Ye rfl rfl rfl ⟨λf=>POp.le (x:=.sl 1 [[AV.i w]]) (POp.row rfl rfl Yh rfl rfl rfl rfl rfl rfl) (AVle.refl _),trivial⟩ ?_;refine UD.nil (λf=>?_);simp only[kvals,List.map_cons,List.map_nil,List.cons_append,List.nil_append];refine Z1 ?_;refine OL.appendC rfl rfl rfl rfl rfl rfl rfl rfl (AVle.refl _) (rfl) (λv=>by repeat (first | exact Upd.head _ _ _ | apply Upd.tail)) (YR) (YR) (λv40=>?_);refine Z9 ?_;rw[<-ints_snoc];exact ag ⟨i+1,ks++[(w:Int)],r3,v40,rfl,rfl,hil,by rw[List.length_append,hkl];rfl,ht3⟩
     ·obtain rfl:k.toNat=i:=by omega
      have he2:=times_end ht;rw[thenR_some he2] at hv;refine Z12 ?_;refine Done.retR (rs:=[.cell 2 146]) (H':=rdr rb r2::.blk pb 27 [A,Sv,AV.ints gens,Bv,Cv,Dv]::Hx) rfl (Ym) (.cons (AVle.agg (.cons (.refl _) (.cons (.refl _) (.cons (AVle.asL _ _) .nil)))) .nil) Yay ?_;exact by rw[hv];rfl
  ·refine OL.rcallN rfl rfl (.mk' rfl rfl rfl rfl rfl) (q71f (by rw[Bool.cond_false_right,Bool.and_eq_false_iff,decide_eq_false_iff_not,decide_eq_false_iff_not];have h10:=Classical.not_and_iff_not_or_not.1 ho;exact h10) _) wrong_c ?_;exact outP (P:=Tryz.prog) (fn:=Tryz.f141) wrong_c (.cons _ (.cons _ (.cons _ (.cons _ (.refl _))))) ⟨by rw[hv,needR_no (by rw[Bool.and_eq_false_iff,decide_eq_false_iff_not,decide_eq_false_iff_not];exact Classical.not_and_iff_not_or_not.1 ho)];rfl,rfl,rfl⟩
theorem has_len{c:Int}(h:ownC p c=true):(hasP p c).length<=40:=by
 obtain⟨hc,hcl⟩:=own_parts h;have h10:=(okC_of hcl).1;have hs:∀c∈p.classes,c.slots.length<=4:=by
  have hs:slotsA p.classes 0=true:=by simp only[classesP,Bool.and_eq_true] at hcl;exact hcl.1.1.2
  exact λc hc=>(slotsA_mem _ _ hs c hc).1
 have hl:=hasN_len hs (c - 2).toNat [c] [];have hl2:(hasP p c).length=(hasN p (c - 2).toNat [c] []).length:=by unfold hasP sortI;rw[List.length_mergeSort]
 simp only[List.length_nil] at hl;omega
theorem slotsC(hp:p.Small)(c:Int)(Hx:List Ent):RCall Tryz.prog 147 [AV.prog p,.i c] Hx (if ownC p c then some (AV.ints (hasP p c),Hx) else none) Hx wrongA:=by
 refine aC (n:=18) Tryz.func147 λB I w0=>?_;refine Z10 ?_;refine oP (POp.call .k (hasB hp c)) ?_;refine Z14 ?_;refine CW.cond rfl (λh0=>?_) (λh0=>?_)
 ·have ho:ownC p c=false:=by cases h:ownC p c <;> simp_all
  refine Z2 ?_;refine oP (POp.makeIface rfl rfl rfl Yf) ?_;refine OL.panicC rfl rfl rfl rfl wrong_c ?_;exact outP (P:=Tryz.prog) (fn:=Tryz.f147) wrong_c (.refl _) ⟨by rw[ho];rfl,rfl,rfl⟩
 ·have ho:ownC p c=true:=by cases h:ownC p c <;> simp_all
  refine Z9 ?_;refine r1 4 (Hx) ?_;exact by rw[ho];rfl
theorem thingR(hp:p.Small){σ:Type}(s:σ)(l:List U8)(rb:Nat)(Hx:List Ent):RCall Tryz.prog 146 [.ptr [.p rb 0],.ptr (progC p)] (rdr rb l::Hx) ((thR p s l).map λq=>(.agg (thA q.1),rdr rb q.2.2::Hx)) Hx wrongA:=by
 refine aC (n:=23) Tryz.func146 λB I w0=>?_;refine Z2 ?_;refine OL.alC rfl rfl rfl rfl (λb2=>?_);refine Z3 ?_;refine CW.perm (List.Perm.swap _ _ _) ?_;refine Z2 ?_;rcases hq:numberR l with _ | ⟨n,r⟩
 ·refine OL.rcallN rfl rfl (.mk' rfl rfl rfl rfl rfl) (q134n hq _ _) wrong_c ?_;exact outP (P:=Tryz.prog) (fn:=Tryz.f146) wrong_c (.cons _ (.refl _)) ⟨by rw[thR,thenR_none (numR_none hq)];rfl,rfl,rfl⟩
 ·have hv:thR p s l=_:=thenR_some (numR_some hq);refine OL.rcallS rfl rfl rfl (.mk' rfl rfl rfl rfl rfl) (q134s hq _ _) ?_;refine Z1 ?_;refine OL.alC rfl rfl rfl rfl (λb3=>?_);refine Z5 ?_;refine CW.perm (List.Perm.swap _ _ _) ?_;refine Z4 ?_;cases ho:ownC p (n:Int)
  ·refine OL.rcallN rfl rfl (.mk' rfl rfl rfl rfl rfl) Yam wrong_c ?_;exact outP (P:=Tryz.prog) (fn:=Tryz.f146) wrong_c (.cons _ (.cons _ (.cons _ (.refl _)))) ⟨by rw[hv,needR_no ho];rfl,rfl,rfl⟩
  ·rw[needR_yes ho] at hv;refine OL.rcallS rfl rfl rfl (.mk' rfl rfl rfl rfl rfl) Yam ?_;refine Z5 ?_;have hl40:=has_len ho;obtain⟨N,hN⟩:∃N,N=(hasP p (n:Int)).length:=⟨_,rfl⟩;rw[<-hN] at hv hl40;refine CW.le 11 (y:=.i N) rfl (AVle.eqI (by rw[hN])) ?_;refine CW.ownNilB (b:=b3) (t:=65) 60 2 1 YC rfl rfl ?_;refine CW.perm (List.Perm.swap _ _ _) ?_;refine lj (λm st=>∃(i:Nat) (ks:List (Int×Int)) (r2:List U8) (v:Value),st=⟨[(12,.i i),(11,.i N),(3,.p b3 0),(2,.p b2 0),(0,.ptr [.p rb 0]),(1,.ptr (progC p))],rdr rb r2::.own 60 2 v::.blk b3 65 [.i n,.as (AV.mvs ks) v]::.blk b2 65 [.val (.int .i64 0),nilA]::Hx⟩/\m=N - i/\i<=N/\ks.length=i/\timesR valR N s r=(timesR valR (N - i) s r2).map λp=>(ks++p.1,p.2.1,p.2.2)) (⟨0,[],r,_,rfl,rfl,Ya,rfl,times_begin _ _ _ _⟩) ?_;rintro m _ ⟨i,ks,r2,v,rfl,rfl,hi,hkl,ht⟩;refine Z6 ?_;refine cd (λh0=>?_) λh0=>?_
   ·have hil:i<N:=by omega
    obtain⟨ht1,ht2⟩:=times_snoc hil ht;refine Z4 ?_;rcases hw:valR s r2 with _ | ⟨w,s3,r3⟩
    ·refine CW.dp mixed ?_;refine DP.anyPan (Hf:=.own 60 2 v::.blk b3 65 [.i n,.as (AV.mvs ks) v]::.blk b2 65 [.val (.int .i64 0),nilA]::Hx) 3 0 5 23 rfl Ye Ye Ye Ye (λenv=>outP (P:=Tryz.prog) (fn:=Tryz.f146) (Hf:=Hx) wrong_c (.cons _ (.cons _ (.cons _ (.refl _)))) ⟨by rw[hv,thenR_none (ht1 hw)];rfl,rfl,rfl⟩) ?_;refine UD.popP rfl rfl rfl rfl (Yj) ?_;refine UD.popP rfl rfl rfl rfl (Yb) ?_;refine UD.popP rfl rfl rfl rfl (Yb) ?_;refine UD.panP rfl rfl rfl .k (valN hw rb (.own 60 2 v::.blk b3 65 [.i n,.as (AV.mvs ks) v]::.blk b2 65 [.val (.int .i64 0),nilA]::Hx)) wrong_c ?_;refine UD.waitP Ye rfl rfl ?_;exact UD.nil trivial
    ·obtain rfl:=Still.val _ _ _ _ _ hw;have ht3:=ht2 _ _ _ hw;refine CW.dp mixed ?_;refine DP.anyK (X:=noX) [⟨3,17,false⟩] (λJ=>match J with | [some _]=>rdr rb r3::.own 60 2 v::.blk b3 65 [.i n,.as (AV.mvs ks) v]::.blk b2 65 [.val (.int .i64 0),nilA]::Hx | _=>rdr rb r2::.own 60 2 v::.blk b3 65 [.i n,.as (AV.mvs ks) v]::.blk b2 65 [.val (.int .i64 0),nilA]::Hx) (λq J=>match q,J with | 0,[some _]=>AV.mv w | _,_=>.any) 0 5 23 rfl Ye Ye rfl rfl Ye rfl (λ_ _ _ _ _ _ _ _ _ h=>h.elim) ?_;refine UD.popK [[true],[false]] rfl Ye rfl rfl rfl ⟨λf=>Yj,λf=>Yj,trivial⟩ ?_;refine UD.popK [[true],[false]] rfl Ye rfl rfl rfl ⟨λf=>Yb,λf=>Yb,trivial⟩ ?_;refine UD.popK [[false]] rfl Ye rfl rfl rfl ⟨λf=>Yb,trivial⟩ ?_;refine UD.effK 0 [[false]] rfl rfl rfl Ye rfl rfl rfl ⟨λf=>⟨KOk.rcall .k (valS hw rb _) (λ_=>rfl) (λ_=>rfl),Yn⟩,trivial⟩ ?_;refine UD.popK [[true]] rfl Ye rfl rfl rfl ⟨λf=>POp.le (x:=.sl 2 [initA w]) (POp.row rfl rfl Yh rfl rfl rfl rfl rfl rfl) (AVle.refl _),trivial⟩ ?_;refine UD.nil (λf=>?_);simp only[kvals,List.map_cons,List.map_nil,List.cons_append,List.nil_append];refine Z1 ?_;refine OL.appendC rfl rfl rfl rfl rfl rfl rfl rfl (AVle.refl _) (rfl) (λv=>by repeat (first | exact Upd.head _ _ _ | apply Upd.tail)) (YR) (YR) (λv19=>?_);refine Z9 ?_;rw[<-mvs_snoc];exact ag ⟨i+1,ks++[w],r3,v19,rfl,rfl,hil,by rw[List.length_append,hkl];rfl,ht3⟩
   ·obtain rfl:N=i:=by omega
    have he2:=times_end ht;rw[thenR_some he2] at hv;refine Z12 ?_;refine Done.retR (rs:=[.cell 2 65]) (H':=rdr rb r2::Hx) rfl (Ym) (.cons (AVle.agg (.cons (.refl _) (.cons (AVle.asL _ _) .nil))) .nil) Yay ?_;exact by rw[hv];rfl
theorem factR_succ(f left:Nat)(l:List U8):factR (f+1) (left+1) l=thenR numR (λop=>needR (opR op) (factB (factR f) op)) left l:=by rw[factR]
theorem factR_zero(f:Nat)(l:List U8):factR f 0 l=none:=by cases f <;> rfl
def Low(R:Rd Nat α):Prop:=∀s l y s' l',R s l=some (y,s',l')->s'<=s
theorem Still.low{R:Rd Nat α}(h:Still R):Low R:=λs l y s' l' e=>by rw[h _ _ _ _ _ e];exact Nat.le_refl _
theorem Low.then{α β:Type}{R:Rd Nat α}{k:α->Rd Nat β}(h1:Low R)(h2:∀a,Low (k a)):Low (thenR R k):=λs l y s' l' h=>by
 unfold thenR at h;split at h
 ·cases h
 ·rename_i a s1 l1 h3;have:=h2 a _ _ _ _ _ h;have:=h1 _ _ _ _ _ h3;omega
theorem Low.need{b:Bool}{R:Rd Nat α}(h1:Low R):Low (needR b R):=λs l y s' l' h=>by
 unfold needR at h;split at h
 ·exact h1 _ _ _ _ _ h
 ·cases h
theorem Low.times{α:Type}{R:Rd Nat α}(h1:Low R):∀n,Low (timesR R n)
 | 0,s,l,y,s',l',h=>by cases h;exact Nat.le_refl _
 | n+1,s,l,y,s',l',h=>by
  rw[timesR] at h;split at h
  ·cases h
  ·rename_i a s1 l1 h2;split at h
   ·cases h
   ·rename_i b s2 l2 h3;cases h;have:=Low.times h1 n _ _ _ _ _ h3;have:=h1 _ _ _ _ _ h2;omega
theorem factR_low:∀f,Low (factR f)
 | 0,s,l,y,s',l',h=>by cases h
 | f+1,0,l,y,s',l',h=>by cases h
 | f+1,s+1,l,y,s',l',h=>by
  rw[factR_succ] at h;have hb:∀op,Low (factB (factR f) op):=λop=>by
   unfold factB;split
   ·exact (Still.num.then λ_=>(Still.list .num).then λ_=>Still.num.then λ_=>.done _).low
   ·split
    ·exact (Still.num.then λ_=>(Still.list .num).then λ_=>Still.int.then λ_=>.done _).low
    ·exact .then (.times (factR_low f) _) λ_=>(Still.done _).low
  have:=Low.then Still.num.low (λop=>.need (hb op)) _ _ _ _ _ h;omega
theorem factC_step{f:Nat}(ih:∀f',f=f'+1->∀left,left<=f'->left<=1000->∀(l:List U8) (rb lb:Nat) (Hx:List Ent),RCall Tryz.prog 190 [.p rb 0,.p lb 0] (rdr rb l::.blk lb 3 [.i left]::Hx) ((factR f' left l).map λq=>(AV.fact q.1,rdr rb q.2.2::.blk lb 3 [.i q.2.1]::Hx)) Hx wrongA)(left:Nat)(hl:left<=f)(hl0:left<=1000)(l:List U8)(rb lb:Nat)(Hx:List Ent):RCall Tryz.prog 190 [.p rb 0,.p lb 0] (rdr rb l::.blk lb 3 [.i left]::Hx) ((factR f left l).map λq=>(AV.fact q.1,rdr rb q.2.2::.blk lb 3 [.i q.2.1]::Hx)) Hx wrongA:=by
 refine aC (n:=65) Tryz.func190 λB I w0=>?_;refine Z2 ?_;refine OL.alC rfl rfl rfl rfl (λb4=>?_);refine Z3 ?_;refine CW.perm (List.perm_append_comm_assoc [_] [_,_] _) ?_;refine Z15 ?_;by_cases h1:1<=left
 ·obtain⟨k,rfl⟩:∃k,left=k+1:=⟨left - 1,Ya⟩;obtain⟨f',rfl⟩:∃f',f=f'+1:=⟨f - 1,Ya⟩;refine OL.eqH (H':=rdr rb l::.blk lb 3 [.i k]::.blk b4 166 [.val (.int .i64 0),.val (.int .i64 0),nilA,.val (.int .i64 0),.val (.int .i64 0),nilA]::Hx) (by rw[show ((k+1:Nat):Int) - 1=k by omega];rfl) ?_;refine OL.rcallS rfl rfl rfl (.mk' rfl rfl rfl rfl rfl) (q71t Yr _) ?_;refine Z5 ?_;rcases hq:numberR l with _ | ⟨n,r⟩
  ·refine OL.rcallN rfl rfl (.mk' rfl rfl rfl rfl rfl) (q134n hq _ _) wrong_c ?_;exact outP (P:=Tryz.prog) (fn:=Tryz.f190) wrong_c (.cons _ (.cons _ (.refl _))) ⟨by rw[factR_succ,thenR_none (numR_none hq)];rfl,rfl,rfl⟩
  ·have hv:=factR_succ f' k l;rw[thenR_some (numR_some hq)] at hv;refine OL.rcallS rfl rfl rfl (.mk' rfl rfl rfl rfl rfl) (q134s hq _ _) ?_;refine Z1 ?_;refine OL.alC rfl rfl rfl rfl (λb5=>?_);refine Z4 ?_;refine CW.perm (List.perm_append_comm_assoc [_] [_,_] _) ?_;refine Z4 ?_;refine CW.cutJ (λst=>∃(kd:Nat) (a c z:Int) (ps:List Int) (pv:AV) (r':List U8),st=⟨[(6,.i kd),(5,.p b5 0),(4,.p b4 0),(0,.p rb 0),(1,.p lb 0)],rdr rb r'::.blk lb 3 [.i k]::.blk b5 166 [.i n,.i a,pv,.i c,.i z,nilA]::.blk b4 166 [.val (.int .i64 0),.val (.int .i64 0),nilA,.val (.int .i64 0),.val (.int .i64 0),nilA]::Hx⟩/\((pv=nilA/\ps= [])\/pv=AV.ints ps)/\kd<=2/\factR (f'+1) (k+1) l=thenR (timesR (factR f') kd) (λks=>doneR (.mk n a ps c z ks)) k r') ?_ ?_
   ·refine Z13 ?_;refine cd (λh0=>?_) λh0=>?_
    ·rw[needR_yes (by rw[opR,h0];rfl),factB,if_neg Ya,if_neg Ya,show kidCnt (n:Int)=0 by rw[kidCnt,if_neg Ya,if_neg Ya]] at hv;refine Z2 ?_;exact cj ⟨0,0,0,0,[],nilA,r,rfl,.inl ⟨rfl,rfl⟩,Ya,hv⟩
    ·refine CW.cutJ (λst=>∃b:Bool,st=⟨[(26,.b b),(21,.i n),(6,.i ((0:Nat):Int)),(5,.p b5 0),(4,.p b4 0),(0,.p rb 0),(1,.p lb 0)],rdr rb r::.blk lb 3 [.i k]::.blk b5 166 [.i n,.i 0,nilA,.i 0,.i 0,nilA]::.blk b4 166 [.val (.int .i64 0),.val (.int .i64 0),nilA,.val (.int .i64 0),.val (.int .i64 0),nilA]::Hx⟩/\b=decide ((n:Int)=2\/(n:Int)=3\/(n:Int)=4)) ?_ ?_
     ·refine Z6 ?_;refine cd (λh1=>?_) λh1=>?_
      ·refine Z1 ?_;exact cj ⟨((n:Int)==2),rfl,by simp[h1]⟩
      ·refine Z6 ?_;refine cd (λh2=>?_) λh2=>?_
       ·refine Z1 ?_;exact cj ⟨((n:Int)==3),rfl,by simp[h2]⟩
       ·refine Z4 ?_;exact cj ⟨((n:Int)==4),rfl,by have e:((n:Int)==4)=decide ((n:Int)=4):=rfl;rw[e,decide_eq_decide];omega⟩
     ·rintro _ ⟨b,rfl,hb⟩;refine CW.cond rfl (λh3=>?_) (λh3=>?_)
      ·rw[hb,decide_eq_true_eq] at h3;rw[needR_yes (by rw[opR,Bool.and_eq_true,decide_eq_true_eq,decide_eq_true_eq];omega)] at hv;refine Z3 ?_;rcases ha:numberR r with _ | ⟨a,r1⟩
       ·have hn0:factB (factR f') (n:Int) k r=none:=by
         unfold factB;split
         ·rw[thenR_none (numR_none ha)]
         ·rw[if_pos Ya,thenR_none (numR_none ha)]
        refine OL.rcallN rfl rfl (.mk' rfl rfl rfl rfl rfl) (q134n ha _ _) wrong_c ?_;exact outP (P:=Tryz.prog) (fn:=Tryz.f190) wrong_c (.cons _ (.cons _ (.cons _ (.refl _)))) ⟨by rw[hv,hn0];rfl,rfl,rfl⟩
       ·refine OL.rcallS rfl rfl rfl (.mk' rfl rfl rfl rfl rfl) (q134s ha _ _) ?_;refine Z9 ?_;rcases hp:listR numR k r1 with _ | ⟨ps,k1,r2⟩
        ·have hn0:factB (factR f') (n:Int) k r=none:=by
          unfold factB;split
          ·rw[thenR_some (numR_some ha),thenR_none hp]
          ·rw[if_pos Ya,thenR_some (numR_some ha),thenR_none hp]
         refine OL.rcallN rfl rfl (.mk' rfl rfl rfl rfl rfl) (listI_n hp rb _) wrong_c ?_;exact outP (P:=Tryz.prog) (fn:=Tryz.f190) wrong_c (.cons _ (.cons _ (.cons _ (.refl _)))) ⟨by rw[hv,hn0];rfl,rfl,rfl⟩
        ·obtain rfl:=Still.list Still.num _ _ _ _ _ hp;refine OL.rcallS rfl rfl rfl (.mk' rfl rfl rfl rfl rfl) (listI_s hp rb _) ?_;refine Z11 ?_;refine cd (λh4=>?_) λh4=>?_
         ·refine Z2 ?_;rcases hc:numberR r2 with _ | ⟨c,r3⟩
          ·refine OL.rcallN rfl rfl (.mk' rfl rfl rfl rfl rfl) (q134n hc _ _) wrong_c ?_;exact outP (P:=Tryz.prog) (fn:=Tryz.f190) wrong_c (.cons _ (.cons _ (.cons _ (.refl _)))) ⟨by rw[hv,factB,if_pos h4,thenR_some (numR_some ha),thenR_some hp,thenR_none (numR_none hc)];rfl,rfl,rfl⟩
          ·rw[factB,if_pos h4,thenR_some (numR_some ha),thenR_some hp,thenR_some (numR_some hc)] at hv;refine OL.rcallS rfl rfl rfl (.mk' rfl rfl rfl rfl rfl) (q134s hc _ _) ?_;refine Z4 ?_;exact cj ⟨0,a,c,0,ps,AV.ints ps,r3,rfl,.inr rfl,Ya,hv⟩
         ·refine Z2 ?_;rcases hc:intR k1 r2 with _ | ⟨z,k2,r3⟩
          ·refine OL.rcallN rfl rfl (.mk' rfl rfl rfl rfl rfl) (intN hc _ _) wrong_c ?_;exact outP (P:=Tryz.prog) (fn:=Tryz.f190) wrong_c (.cons _ (.cons _ (.cons _ (.refl _)))) ⟨by rw[hv,factB,if_neg h4,if_pos Ya,thenR_some (numR_some ha),thenR_some hp,thenR_none hc];rfl,rfl,rfl⟩
          ·obtain rfl:=Still.int _ _ _ _ _ hc;rw[factB,if_neg h4,if_pos Ya,thenR_some (numR_some ha),thenR_some hp,thenR_some hc] at hv;refine OL.rcallS rfl rfl rfl (.mk' rfl rfl rfl rfl rfl) (intS hc _ _) ?_;refine Z4 ?_;exact cj ⟨0,a,0,z,ps,AV.ints ps,r3,rfl,.inr rfl,Ya,hv⟩
      ·rw[hb,decide_eq_false_iff_not] at h3;refine Z6 ?_;refine cd (λh5=>?_) λh5=>?_
       ·rw[needR_yes (by rw[opR,h5];rfl),factB,if_neg Ya,if_neg Ya,show kidCnt (n:Int)=1 by rw[kidCnt,if_pos h5]] at hv;refine Z4 ?_;exact cj ⟨1,0,0,0,[],nilA,r,rfl,.inl ⟨rfl,rfl⟩,Ya,hv⟩
       ·refine CW.cutJ (λst=>∃b:Bool,st=⟨[(49,.b b),(6,.i ((0:Nat):Int)),(5,.p b5 0),(4,.p b4 0),(0,.p rb 0),(1,.p lb 0)],rdr rb r::.blk lb 3 [.i k]::.blk b5 166 [.i n,.i 0,nilA,.i 0,.i 0,nilA]::.blk b4 166 [.val (.int .i64 0),.val (.int .i64 0),nilA,.val (.int .i64 0),.val (.int .i64 0),nilA]::Hx⟩/\b=decide ((n:Int)=6\/(n:Int)=7)) ?_ ?_
        ·refine Z6 ?_;refine cd (λh6=>?_) λh6=>?_
         ·refine Z1 ?_;exact cj ⟨((n:Int)==6),rfl,by simp[h6]⟩
         ·refine Z4 ?_;exact cj ⟨((n:Int)==7),rfl,by have e:((n:Int)==7)=decide ((n:Int)=7):=rfl;rw[e,decide_eq_decide];omega⟩
        ·rintro _ ⟨b2,rfl,hb2⟩;refine CW.cond rfl (λh7=>?_) (λh7=>?_)
         ·rw[hb2,decide_eq_true_eq] at h7;rw[needR_yes (by rw[opR,Bool.and_eq_true,decide_eq_true_eq,decide_eq_true_eq];omega),factB,if_neg Ya,if_neg Ya,show kidCnt (n:Int)=2 by rw[kidCnt,if_neg Ya,if_pos Ya]] at hv;refine Z4 ?_;exact cj ⟨2,0,0,0,[],nilA,r,rfl,.inl ⟨rfl,rfl⟩,Ya,hv⟩
         ·rw[hb2,decide_eq_false_iff_not] at h7;refine Z2 ?_;refine oP (POp.makeIface rfl rfl rfl Yf) ?_;refine OL.panicC rfl rfl rfl rfl wrong_c ?_;exact outP (P:=Tryz.prog) (fn:=Tryz.f190) wrong_c (.cons _ (.cons _ (.cons _ (.cons _ (.refl _))))) ⟨by rw[hv,needR_no (by rw[opR,Bool.and_eq_false_iff,decide_eq_false_iff_not,decide_eq_false_iff_not];omega)];rfl,rfl,rfl⟩
   ·rintro _ ⟨kd,a,c,z,ps,pv,r',rfl,hpv,hkd,he⟩;refine Z8 ?_;refine CW.ownNilB (b:=b5) (t:=166) 166 6 5 YC rfl rfl ?_;refine CW.perm (List.perm_append_comm_assoc [_] [_,_] _) ?_;refine lj (λm st=>∃(i:Nat) (ks:List Fact) (k':Nat) (r2:List U8) (v:Value),st=⟨[(53,.i i),(52,.i kd),(5,.p b5 0),(4,.p b4 0),(0,.p rb 0),(1,.p lb 0)],rdr rb r2::.blk lb 3 [.i k']::.own 166 6 v::.blk b5 166 [.i n,.i a,pv,.i c,.i z,.as (.sl 6 (ks.map Fcells)) v]::.blk b4 166 [.val (.int .i64 0),.val (.int .i64 0),nilA,.val (.int .i64 0),.val (.int .i64 0),nilA]::Hx⟩/\m=kd - i/\i<=kd/\ks.length=i/\k'<=k/\timesR (factR f') kd k r'=(timesR (factR f') (kd - i) k' r2).map λp=>(ks++p.1,p.2.1,p.2.2)) (⟨0,[],k,r',_,rfl,rfl,Ya,rfl,Nat.le_refl _,times_begin _ _ _ _⟩) ?_;rintro m _ ⟨i,ks,k',r2,v,rfl,rfl,hi,hkl,hkk,ht⟩;refine Z6 ?_;refine cd (λh8=>?_) λh8=>?_
    ·have hil:i<kd:=by omega
     obtain⟨ht1,ht2⟩:=times_snoc hil ht;refine Z4 ?_;rcases hw:factR f' k' r2 with _ | ⟨w,k3,r3⟩
     ·refine CW.dp mixed ?_;refine DP.anyPan (Hf:=.own 166 6 v::.blk b5 166 [.i n,.i a,pv,.i c,.i z,.as (.sl 6 (ks.map Fcells)) v]::.blk b4 166 [.val (.int .i64 0),.val (.int .i64 0),nilA,.val (.int .i64 0),.val (.int .i64 0),nilA]::Hx) 4 0 6 65 rfl Ye Ye Ye Ye (λenv=>outP (P:=Tryz.prog) (fn:=Tryz.f190) (Hf:=Hx) wrong_c (.cons _ (.cons _ (.cons _ (.refl _)))) ⟨by rw[he,thenR_none (ht1 hw)];rfl,rfl,rfl⟩) ?_;refine UD.popP rfl rfl rfl rfl (Yj) ?_;refine UD.popP rfl rfl rfl rfl (Yb) ?_;refine UD.popP rfl rfl rfl rfl (POp.move rfl rfl rfl) ?_;refine UD.popP rfl rfl rfl rfl (POp.move rfl rfl rfl) ?_;refine UD.panP rfl rfl rfl .k YH wrong_c ?_;refine UD.waitP Ye rfl rfl ?_;exact UD.nil trivial
     ·have ht3:=ht2 _ _ _ hw;have hk3:=factR_low f' _ _ _ _ _ hw;refine CW.dp mixed ?_;refine DP.anyK (X:=noX) [⟨4,59,false⟩] (λJ=>match J with | [some _]=>rdr rb r3::.blk lb 3 [.i k3]::.own 166 6 v::.blk b5 166 [.i n,.i a,pv,.i c,.i z,.as (.sl 6 (ks.map Fcells)) v]::.blk b4 166 [.val (.int .i64 0),.val (.int .i64 0),nilA,.val (.int .i64 0),.val (.int .i64 0),nilA]::Hx | _=>rdr rb r2::.blk lb 3 [.i k']::.own 166 6 v::.blk b5 166 [.i n,.i a,pv,.i c,.i z,.as (.sl 6 (ks.map Fcells)) v]::.blk b4 166 [.val (.int .i64 0),.val (.int .i64 0),nilA,.val (.int .i64 0),.val (.int .i64 0),nilA]::Hx) (λq J=>match q,J with | 0,[some _]=>AV.fact w | _,_=>.any) 0 6 65 rfl Ye Ye rfl rfl Ye rfl (λ_ _ _ _ _ _ _ _ _ h=>h.elim) ?_;refine UD.popK [[true],[false]] rfl Ye rfl rfl rfl ⟨λf=>Yj,λf=>Yj,trivial⟩ ?_;refine UD.popK [[true],[false]] rfl Ye rfl rfl rfl ⟨λf=>Yb,λf=>Yb,trivial⟩ ?_;refine UD.popK [[false]] rfl Ye rfl rfl rfl ⟨λf=>POp.move rfl rfl rfl,trivial⟩ ?_;refine UD.popK [[false]] rfl Ye rfl rfl rfl ⟨λf=>POp.move rfl rfl rfl,trivial⟩ ?_;refine UD.effK 0 [[false]] rfl rfl rfl Ye rfl rfl rfl ⟨λf=>⟨KOk.rcall .k YH (λ_=>rfl) (λ_=>rfl),Yn⟩,trivial⟩ ?_;refine UD.popK [[true]] rfl Ye rfl rfl rfl ⟨λf=>POp.le (x:=.sl 6 [Fcells w]) (POp.row rfl rfl Yh rfl rfl rfl rfl rfl rfl) (AVle.refl _),trivial⟩ ?_;refine UD.nil (λf=>?_);simp only[kvals,List.map_cons,List.map_nil,List.cons_append,List.nil_append];refine Z1 ?_;refine OL.appendC rfl rfl rfl rfl rfl rfl rfl rfl (AVle.refl _) (rfl) (λv=>by repeat (first | exact Upd.head _ _ _ | apply Upd.tail)) (YR) (YR) (λv61=>?_);refine Z9 ?_;rw[rows_snoc Fcells];exact ag ⟨i+1,ks++[w],k3,r3,v61,rfl,rfl,hil,by rw[List.length_append,hkl];rfl,Ya,ht3⟩
    ·obtain rfl:kd=i:=by omega
     have he2:=times_end ht;rw[thenR_some he2] at he;refine Z8 ?_;apply OL.stoC rfl rfl rfl rfl rfl rfl rfl (by rcases hpv with⟨rfl,_⟩ | rfl <;> rfl) (by rcases hpv with⟨rfl,_⟩ | rfl <;> rfl) rfl
     (case hu=>repeat (first | exact Upd.head _ _ _ | apply Upd.tail));(case hfit=>rfl);(case hds=>rfl)
     refine Z3 ?_;refine Done.retR (rs:=[.cell 4 166]) (H':=rdr rb r2::.blk lb 3 [.i k']::Hx) rfl (Ym) (.cons (AVle.agg (.cons (.refl _) (.cons (.refl _) (.cons (show AVle pv (AV.ints ps) by rcases hpv with⟨rfl,rfl⟩ | rfl;exact AVle.nil 1;exact .refl _) (.cons (.refl _) (.cons (.refl _) (.cons ((AVle.asL _ _).trans (AVle_facts _ rfl)) .nil))))))) .nil) (by exact .cons_cons _ (.cons_cons _ (.cons _ (.cons _ (.cons _ (.refl _)))))) ?_;exact by rw[he];rfl
 ·obtain rfl:left=0:=by omega
  refine OL.rcallN rfl rfl (.mk' rfl rfl rfl rfl rfl) (q71f YaI _) wrong_c ?_;exact outP (P:=Tryz.prog) (fn:=Tryz.f190) wrong_c (.cons _ (.cons _ (.cons _ (.refl _)))) ⟨by rw[factR_zero];rfl,rfl,rfl⟩
theorem factRC:∀(f left:Nat),left<=f->left<=1000->∀(l:List U8) (rb lb:Nat) (Hx:List Ent),RCall Tryz.prog 190 [.p rb 0,.p lb 0] (rdr rb l::.blk lb 3 [.i left]::Hx) ((factR f left l).map λq=>(AV.fact q.1,rdr rb q.2.2::.blk lb 3 [.i q.2.1]::Hx)) Hx wrongA
 | 0=>λleft h1 h2 l rb lb Hx=>factC_step (λf' h=>by omega) left h1 h2 l rb lb Hx
 | f+1=>λleft h1 h2 l rb lb Hx=>factC_step (λf' h=>by(obtain rfl:f=f':=by omega);exact factRC f) left h1 h2 l rb lb Hx
theorem mthC(s:σ)(l:List U8)(rb:Nat)(Hx:List Ent):RCall Tryz.prog 139 [.p rb 0] (rdr rb l::Hx) ((mthR s l).map λp=>(.agg (mthA p.1),rdr rb p.2.2::Hx)) Hx wrongA:=by
 refine aC (n:=18) Tryz.func139 λB I w0=>?_;refine Z2 ?_;refine OL.alC rfl rfl rfl rfl (λb2=>?_);refine Z4 ?_;refine OL.alC rfl rfl rfl rfl (λb3=>?_);refine Z3 ?_;refine CW.perm (List.perm_append_comm_assoc [_,_] [_] _) ?_;refine Z2 ?_;rcases h1:numberR l with _ | ⟨k,l1⟩
 ·refine OL.rcallN rfl rfl (.mk' rfl rfl rfl rfl rfl) (q134n h1 _ _) wrong_c ?_;exact outP (P:=Tryz.prog) (fn:=Tryz.f139) wrong_c (.cons _ (.cons _ (.refl _))) ⟨by rw[mthR,thenR_none (numR_none h1)];rfl,rfl,rfl⟩
 ·have hv:mthR s l=_:=thenR_some (numR_some h1);refine OL.rcallS rfl rfl rfl (.mk' rfl rfl rfl rfl rfl) (q134s h1 _ _) ?_;refine Z7 ?_;rcases h2:numberR l1 with _ | ⟨g,l2⟩
  ·refine OL.rcallN rfl rfl (.mk' rfl rfl rfl rfl rfl) (q134n h2 _ _) wrong_c ?_;exact outP (P:=Tryz.prog) (fn:=Tryz.f139) wrong_c (.cons _ (.cons _ (.refl _))) ⟨by rw[hv,thenR_none (numR_none h2)];rfl,rfl,rfl⟩
  ·rw[thenR_some (numR_some h2)] at hv;refine OL.rcallS rfl rfl rfl (.mk' rfl rfl rfl rfl rfl) (q134s h2 _ _) ?_;refine Z6 ?_;refine OL.alC rfl rfl rfl rfl (λb4=>?_);refine Z4 ?_;refine CW.perm (List.Perm.swap _ _ _) ?_;refine Z2 ?_;rcases h3:factR 24 24 l2 with _ | ⟨x,k3,l3⟩
   ·refine OL.rcallN rfl rfl (.mk' rfl rfl rfl rfl rfl) Yz wrong_c ?_;exact outP (P:=Tryz.prog) (fn:=Tryz.f139) wrong_c (.cons _ (.cons _ (.refl _))) ⟨by rw[hv,h3];rfl,rfl,rfl⟩
   ·rw[h3] at hv;refine OL.rcallS rfl rfl rfl (.mk' rfl rfl rfl rfl rfl) Yz ?_;refine Z7 ?_;rcases h4:numberR l3 with _ | ⟨n,l4⟩
    ·refine OL.rcallN rfl rfl (.mk' rfl rfl rfl rfl rfl) (q134n h4 _ _) wrong_c ?_;exact outP (P:=Tryz.prog) (fn:=Tryz.f139) wrong_c (.cons _ (.cons _ (.cons _ (.refl _)))) ⟨by rw[hv];dsimp only;rw[thenR_none (numR_none h4)];rfl,rfl,rfl⟩
    ·replace hv:mthR s l=some (⟨k,g,x,n⟩,s,l4):=by rw[hv];dsimp only;rw[thenR_some (numR_some h4)];rfl
     refine OL.rcallS rfl rfl rfl (.mk' rfl rfl rfl rfl rfl) (q134s h4 _ _) ?_;refine Z11 ?_;refine Done.retR (rs:=[.cell 2 168]) (H':=rdr rb l4::Hx) rfl (Ym) (AVleL.refl _) Yay ?_;exact by rw[hv];rfl
theorem mthOkR(rb:Nat):RdOk Tryz.prog rb (noS (σ:=σ)) (.fn (.func 139) [.p rb 0] []) mthR (λx=>.agg (mthA x)) noI:=.of (λ_ _ _ _ _ _ _=>trivial) λs l Hx _=>mthC s l rb Hx
theorem thOkR(hp:p.Small){σ:Type}(rb:Nat):RdOk Tryz.prog rb (noS (σ:=σ)) (.fn (.func 146) [] [.ptr [.p rb 0],.ptr (progC p)]) (thR p) (λx=>.agg (thA x)) noI:=.of (λ_ _ _ _ _ _ _=>trivial) λs l Hx _=>thingR hp s l rb Hx
theorem valOkR(rb:Nat):RdOk Tryz.prog rb (noS (σ:=σ)) (.fn (.func 91) [.p rb 0] []) valR (λx=>AV.mv x) noI:=.of (λ_ _ _ _ _ _ _=>trivial) λs l Hx _=>valueR s l rb Hx
theorem ndOkR(rb pb:Nat)(A Sv Bv Cv Dv:AV)(gens:List Int):RdOk Tryz.prog rb (λ_:Unit=>[.blk pb 27 [A,Sv,AV.ints gens,Bv,Cv,Dv]]) (.fn (.func 141) [] [.ptr [.p rb 0],.p pb 0]) (ndR gens) (λx=>AV.nd x) noI:=.of (λ_ _ _ _ _ _ _=>trivial) λs l Hx _=>nodeR l A Sv Bv Cv Dv gens rb pb Hx
theorem objectsR(hp:p.Small){σ:Type}(s:σ)(l:List U8)(rb:Nat)(Hx:List Ent):RCall Tryz.prog 73 [.p rb 0,AV.prog p] (rdr rb l::Hx) ((listR (thR p) s l).map λq=>(AV.ths q.1,rdr rb q.2.2::Hx)) Hx wrongA:=by
 refine aC (n:=8) Tryz.func73 λB I w0=>?_;refine Z11 ?_;rcases h1:listR (thR p) s l with _ | ⟨ts,s1,l1⟩
 ·refine OL.rcallN rfl rfl (.mk' rfl rfl rfl rfl rfl) YaZ wrong_c ?_;exact outP (P:=Tryz.prog) (fn:=Tryz.f73) wrong_c (.refl _) ⟨rfl,rfl,rfl⟩
 ·refine OL.rcallS rfl rfl rfl (.mk' rfl rfl rfl rfl rfl) YaZ ?_;refine Z4 ?_;refine r1 4 (rdr rb l1::Hx) ?_;exact rfl
theorem programR(l:List U8)(hl:l.length<=1048576)(rb:Nat)(Hx:List Ent):RCall Tryz.prog 69 [.p rb 0] (rdr rb l::Hx) ((progR l).map λp=>(AV.prog p.1,rdr rb p.2::Hx)) Hx wrongA:=by
 refine aC (n:=26) Tryz.func69 λB I w0=>?_;refine Z3 ?_;refine OL.alC rfl rfl rfl rfl (λb2=>?_);refine Z4 ?_;refine OL.alC rfl rfl rfl rfl (λb3=>?_);refine Z3 ?_;refine CW.perm (List.perm_append_comm_assoc [_,_] [_] _) ?_;refine Z3 ?_;rcases h1:listR clsR 0 l with _ | ⟨cs,s,l1⟩
 ·refine OL.rcallN rfl rfl (.mk' rfl rfl rfl rfl rfl) Y2 wrong_c ?_;exact outP (P:=Tryz.prog) (fn:=Tryz.f69) wrong_c (.cons _ (.refl _)) ⟨by rw[progR,h1];rfl,rfl,rfl⟩
 ·have hv:=progR_some h1;rw[progT] at hv;refine OL.rcallS rfl rfl rfl (.mk' rfl rfl rfl rfl rfl) Y2 ?_;refine Z9 ?_;rcases h2:listR numR () l1 with _ | ⟨gs,u2,l2⟩
  ·refine OL.rcallN rfl rfl (.mk' rfl rfl rfl rfl rfl) (listI_n h2 rb _) wrong_c ?_;exact outP (P:=Tryz.prog) (fn:=Tryz.f69) wrong_c (.cons _ (.cons _ (.refl _))) ⟨by rw[hv,thenR_none h2];rfl,rfl,rfl⟩
  ·obtain rfl:u2=():=rfl;rw[thenR_some h2] at hv;refine OL.rcallS rfl rfl rfl (.mk' rfl rfl rfl rfl rfl) (listI_s h2 rb _) ?_;refine Z9 ?_;rcases h3:listR mthR () l2 with _ | ⟨ms,u3,l3⟩
   ·refine OL.rcallN rfl rfl (.mk' rfl rfl rfl rfl rfl) YL wrong_c ?_;exact outP (P:=Tryz.prog) (fn:=Tryz.f69) wrong_c (.cons _ (.cons _ (.refl _))) ⟨by rw[hv,thenR_none h3];rfl,rfl,rfl⟩
   ·obtain rfl:u3=():=rfl;rw[thenR_some h3] at hv;refine OL.rcallS rfl rfl rfl (.mk' rfl rfl rfl rfl rfl) YL ?_;refine Z8 ?_;rcases h4:listR (ndR gs) () l3 with _ | ⟨ns,u4,l4⟩
    ·refine OL.rcallN rfl rfl (.mk' rfl rfl rfl rfl rfl) YP wrong_c ?_;exact outP (P:=Tryz.prog) (fn:=Tryz.f69) wrong_c (.cons _ (.refl _)) ⟨by rw[hv,thenR_none h4];rfl,rfl,rfl⟩
    ·obtain rfl:u4=():=rfl;rw[thenR_some h4] at hv;refine OL.rcallS rfl rfl rfl (.mk' rfl rfl rfl rfl rfl) YP ?_;refine Z7 ?_;rcases h5:numberR l4 with _ | ⟨n,l5⟩
     ·refine OL.rcallN rfl rfl (.mk' rfl rfl rfl rfl rfl) (q134n h5 _ _) wrong_c ?_;exact outP (P:=Tryz.prog) (fn:=Tryz.f69) wrong_c (.cons _ (.cons _ (.refl _))) ⟨by rw[hv,thenR_none (numR_none h5)];rfl,rfl,rfl⟩
     ·rw[thenR_some (numR_some h5)] at hv;refine OL.rcallS rfl rfl rfl (.mk' rfl rfl rfl rfl rfl) (q134s h5 _ _) ?_;refine Z11 ?_;refine Done.retR (rs:=[.cell 2 27]) (H':=rdr rb l5::Hx) rfl (Ym) (AVleL.refl _) (by exact .cons_cons _ (.cons _ (.cons _ (.refl _)))) ?_;exact by rw[hv];rfl
theorem tryC{g:Fn}{gs gc:List AV}{H:List Ent}{A Bp:List Ent->Prop}(hdo:∀B Hy,VCall B Tryz.prog (.fn g gs gc) [] (H++Hy) (λ_ H'=>∃H1,H'=H1++Hy/\A H1) (λy H'=>y=wrongA/\∃Hf,H'=Hf++Hy/\Bp Hf)):
  ACall Tryz.prog 66 [.fn g gs gc] H (λx H'=>(x= .b true/\A H')\/(x= .b false/\Bp H')) (λ_ _=>False):=by
 refine ACall.mkD (n:=6) Tryz.func66 rfl Yf rfl rfl (λB I w0=>?_);refine Z2 ?_;refine OL.alC rfl rfl rfl rfl (λtb=>?_);refine Z5 ?_;refine OL.deferC (vs:=[.pointer (some ⟨tb,0,none⟩)]) rfl rfl rfl rfl rfl rfl ?_;refine Z3 ?_;refine CW.perm (List.perm_append_singleton _ _).symm ?_;refine Z2 ?_;refine OL.vcall rfl rfl rfl rfl rfl rfl rfl (AVleL.refl _) (hdo B [.blk tb 4 [.b false]]) ?_ ?_
 ·rintro y _ ⟨H1,rfl,hA⟩;refine Z3 ?_;refine CW.perm (List.perm_append_singleton _ _) ?_;refine Z5 ?_;intro a w s;exact ret_f66 (.inl ⟨rfl,hA⟩) s rfl
 ·rintro y H2 ⟨rfl,Hf,rfl,hB⟩ a w s I v hv;rw[wrong_c.is _ _ _ hv];exact pan_f66 (.inr ⟨rfl,hB⟩) (s.perm (List.perm_append_singleton _ _)) rfl
def kindOk(L:List Sec)(kinds:List Int)(i:Nat):Bool:=(((L.getD i default).kind.val:Int)==kinds.getD i default) && !(L.getD i default).damaged
def bodiesR(b:List U8)(second:U8)(kinds:List Int):Option (List (List U8)):=match splitR b with
 | none=>none
 | some (x,L)=>if x=second/\L.length=kinds.length/\(List.range L.length).all (kindOk L kinds)=true then some (L.map (·.body)) else none
abbrev rdsE(rds:List (Nat×List U8)):List Ent:=rds.reverse.map λq=>rdr q.1 q.2
abbrev rdsA(rds:List (Nat×List U8)):AV:=.sl 1 (rds.map λq=>[.p q.1 0])
theorem bodies_no1(h:splitR b=none):bodiesR b second kinds=none:=by rw[bodiesR,h]
theorem bodies_no2(h:splitR b=some (x,L))(h2: ¬(x=second/\L.length=kinds.length)):bodiesR b second kinds=none:=by
 rw[bodiesR,h];exact if_neg λh3=>h2 ⟨h3.1,h3.2.1⟩
theorem bodies_no3(h:splitR b=some (x,L)){i:Nat}(hi:i<L.length)(h2:kindOk L kinds i=false):bodiesR b second kinds=none:=by
 rw[bodiesR,h];exact if_neg λh3=>by rw[range_all hi h2] at h3;cases h3.2.2
theorem bodies_yes(h:splitR b=some (x,L))(h1:x=second/\L.length=kinds.length)(h2:(List.range L.length).all (kindOk L kinds)=true):bodiesR b second kinds=some (L.map (·.body)):=by
 rw[bodiesR,h];exact if_pos ⟨h1.1,h1.2,h2⟩
theorem u8_eq(x y:U8):((x.val:Int)==(y.val:Int))=decide (x=y):=by
 rw[Bool.eq_iff_iff,beq_iff_eq,decide_eq_true_eq,Fin.ext_iff];omega
theorem bodiesC(b:List U8)(hl:b.length<=1048576)(second:U8)(kinds:List Int)(hk:kinds.length<=10)(H:List Ent):ACall Tryz.prog 68 [u8s b,u8 second,AV.ints kinds] H (λy H'=>∃rds,bodiesR b second kinds=some (rds.map (·.2))/\y=rdsA rds/\H'=rdsE rds++H)
  (λy H'=>bodiesR b second kinds=none/\y=wrongA/\H'=H):=by
 refine aC (n:=57) Tryz.func68 λB I w0=>?_;refine Z8 ?_;rcases hq:splitR b with _ | ⟨x,L⟩
 ·refine OL.rcallN rfl rfl (.mk' rfl rfl rfl rfl rfl) (by have h:=q77 b hl H;rwa [splitO,hq] at h) wrong_c ?_;exact outP (P:=Tryz.prog) (fn:=Tryz.f68) wrong_c (.refl _) ⟨bodies_no1 hq,rfl,rfl⟩
 ·refine OL.rcallS rfl rfl rfl (.mk' rfl rfl rfl rfl rfl) (by have h:=q77 b hl H;rwa [splitO,hq] at h) ?_;refine Z19 ?_;by_cases h1:x=second/\L.length=kinds.length
  ·refine OL.rcallS rfl rfl rfl (.mk' rfl rfl rfl rfl rfl) (q71t (by rw[u8_eq,h1.1,h1.2];simp) _) ?_;refine Z16 ?_;have hL10:L.length<=10:=by omega
   refine CW.ownNil 9 104 1 rfl ?_;refine lj (λm st=>∃(i:Nat) (rds:List (Nat×List U8)) (v:Value),st=⟨[(30,.i i),(29,.i L.length),(28,secs L),(9,.as (rdsA rds) v),(2,AV.ints kinds)],.own 104 1 v::(rdsE rds++H)⟩/\m=L.length - i/\i<=L.length/\rds.map (·.2)=(L.take i).map (·.body)/\(List.range i).all (kindOk L kinds)=true) (⟨0,[],_,rfl,rfl,Ya,rfl,rfl⟩) ?_;rintro m _ ⟨i,rds,v,rfl,rfl,hi,hr,hA⟩;have hrl:=congrArg List.length hr;rw[List.length_map,List.length_map,List.length_take] at hrl;refine Z6 ?_;refine cd (λh0=>?_) λh0=>?_
   ·have hil:i<L.length:=by omega
    obtain⟨x,hx⟩:∃x,x=L.getD i default:=⟨_,rfl⟩;refine Z9 ?_;refine OL.alC rfl rfl rfl rfl (λb0=>?_);refine Z5 ?_;rw[<-hx];refine CW.freezeP (d:=11) rfl Yl ?_;refine CW.dp mixed ?_;refine DP.anyC 0 6 57 rfl Ye rfl rfl Ye ?_;refine Z14 ?_;cases hko:kindOk L kinds i
    ·have hko2:=hko;rw[kindOk, <-hx] at hko2;refine OL.rcallN rfl rfl (.mk' rfl rfl rfl rfl rfl) (q71f (by rw[Bool.cond_false_right];exact hko2) _) wrong_c ?_;exact outP (P:=Tryz.prog) (fn:=Tryz.f68) wrong_c (.cons _ (List.sublist_append_right _ _)) ⟨bodies_no3 hq hil hko,rfl,rfl⟩
    ·have hko2:=hko;rw[kindOk, <-hx] at hko2;refine OL.rcallS rfl rfl rfl (.mk' rfl rfl rfl rfl rfl) (q71t (by rw[Bool.cond_false_right];exact hko2) _) ?_;refine Z7 ?_;refine OL.boxC rfl rfl rfl rfl rfl rfl rfl (λrb=>?_);refine OL.perm (List.Perm.swap _ _ _) ?_;refine OL.popC (x:=.sl 1 [[.p rb 0]]) rfl rfl rfl (POp.row rfl rfl Yh rfl rfl rfl rfl rfl rfl) ?_;refine OL.appendC rfl rfl rfl rfl rfl rfl rfl rfl (AVle.refl _) (rfl) (λv=>by repeat (first | exact Upd.head _ _ _ | apply Upd.tail)) (YR) (YR) (λv54=>?_);refine Z8 ?_;rw[rows_snoc (λq:Nat×List U8=>[AV.p q.1 0]) rds (rb,x.body)];exact ag ⟨i+1,rds++[(rb,x.body)],v54,by rw[rdsE,List.reverse_append],rfl,hil,by rw[List.map_append,hr,map_take1 (·.body) hil, <-hx];rfl,range_step hA hko⟩
   ·obtain rfl:i=L.length:=by omega
    rw[List.take_length] at hr;refine Z12 ?_;refine Done.retR (rs:=[.tmp 6]) (H':=rdsE rds++H) rfl (.tmp rfl (.nil)) (.cons (AVle.asL _ _) .nil) Yc ?_;exact⟨rds,by rw[bodies_yes hq h1 hA,hr],rfl,rfl⟩
  ·refine OL.rcallN rfl rfl (.mk' rfl rfl rfl rfl rfl) (q71f (by rw[u8_eq];simp;intro e;exact λe2=>h1 ⟨e,Ya⟩) _) wrong_c ?_;exact outP (P:=Tryz.prog) (fn:=Tryz.f68) wrong_c (.refl _) ⟨bodies_no2 hq h1,rfl,rfl⟩
theorem times_all{σ α:Type}{R:Rd σ α}(hR:Less R){M:Nat}{Q:α->Prop}(hQ:∀s l y s' l',l.length<=M->R s l=some (y,s',l')->Q y):∀(n:Nat) (s:σ) (l:List U8) (ys:List α) (s':σ) (l':List U8),l.length<=M->timesR R n s l=some (ys,s',l')->ys.length=n/\∀y∈ys,Q y
 | 0,s,l,ys,s',l',hl,h=>by cases h;exact⟨rfl,Yr⟩
 | n+1,s,l,ys,s',l',hl,h=>by
  rw[timesR] at h;split at h
  ·cases h
  ·rename_i a s1 l1 h2;split at h
   ·cases h
   ·rename_i b s2 l2 h3;cases h;have:=hR _ _ _ _ _ h2;obtain⟨h4,h5⟩:=times_all hR hQ n _ _ _ _ _ Ya h3;refine⟨by simp[h4],λy hy=>?_⟩;rcases List.mem_cons.1 hy with rfl | hy
    ·exact hQ _ _ _ _ _ hl h2
    ·exact h5 y hy
theorem many_le(h:manyR l=some (n,r)):n<=l.length:=by
 have h1:=many_less h;unfold manyR at h;rcases hq:numberR l with _ | ⟨a,b⟩ <;> rw[hq] at h
 ·cases h
 ·simp only at h;split at h
  ·cases h;omega
  ·cases h
theorem list_all{R:Rd σ α}(hR:Less R){M:Nat}{Q:α->Prop}(hQ:∀s l y s' l',l.length<=M->R s l=some (y,s',l')->Q y){s:σ}{l:List U8}{ys:List α}{s':σ}{l':List U8}(hl:l.length<=M)(h:listR R s l=some (ys,s',l')):ys.length<=l.length/\∀y∈ys,Q y:=by
 unfold listR thenR at h;split at h
 ·cases h
 ·rename_i n s1 l1 h1;unfold manyRd at h1;split at h1
  ·cases h1
  ·rename_i h2;cases h1;have h3:=many_less h2;have h4:=many_le h2;obtain⟨h5,h6⟩:=times_all hR hQ n _ _ _ _ _ Ya h;exact⟨Ya,h6⟩
theorem cls_of{s:Int}{y:Cls}{s':Int}(h:clsR s l=some (y,s',l')):l'.length<=l.length/\y.parents.length<=l.length:=by
 unfold clsR thenR at h;split at h
 ·cases h
 ·rename_i ps s1 l1 h1;have h2:=Less.list Less.num _ _ _ _ _ h1;have h9:=(list_all (M:=l.length) (Q:=λ_=>True) Less.num (λ_ _ _ _ _ _ _=>trivial) (Nat.le_refl _) h1).1;dsimp only at h;split at h
  ·cases h
  ·rename_i n s2 l2 h3;unfold numR at h3;split at h3
   ·cases h3
   ·rename_i k l3 h4;cases h3;have h5:=num_less h4;unfold needR at h;split at h
    ·dsimp only at h;split at h
     ·cases h
     ·rename_i is s4 l4 h7;have h8:=Less.list Less.init _ _ _ _ _ h7;cases h;exact⟨Ya,h9⟩
    ·cases h
theorem prog_small(hl:l.length<=1048576)(h:progR l=some (p,l')):p.Small:=by
 rcases h1:listR clsR 0 l with _ | ⟨cs,s,l1⟩
 ·rw[progR,h1] at h;cases h
 ·rw[progR_some h1,progT] at h;have h2:=list_all (M:=1048576) (Q:=λc:Cls=>c.parents.length<=4000000) (λs l y s' l' e=>(cls_of e).1) (λs l y s' l' hM e=>by have:=(cls_of e).2;omega) hl h1;obtain⟨q,h3,h4⟩:=Option.map_eq_some_iff.1 h;have h5:q.1.classes=cs:=by
   unfold thenR at h3;split at h3
   ·cases h3
   ·simp only at h3;split at h3
    ·cases h3
    ·split at h3
     ·cases h3
     ·split at h3
      ·cases h3
      ·cases h3;rfl
  cases h4;exact⟨by rw[h5];omega,λc hc=>h2.2 c (by rw[<-h5];exact hc)⟩
def readR(b:List U8):Option (Prog×List Th):=match bodiesR b 79 [1,2] with
 | some [b1,b2]=>match progR b1 with
  | none=>none
  | some (p,l1)=>if l1= []/\(sizesP p).isSome=true then (match listR (thR p) () b2 with
   | none=>none
   | some (objs,_,l2)=>if l2= []/\checkP p objs=true then some (p,objs) else none) else none
 | _=>none
theorem secs_body:∀(f:Nat) (l:List U8) (y:Sec),y∈(Im.secsR f l).1->y.body.length<=l.length
 | 0,l,y,h=>by simp[Im.secsR] at h
 | f+1,[],y,h=>by simp[Im.secsR] at h
 | f+1,a::l,y,h=>by
  unfold Im.secsR at h;split at h
  ·rename_i s r hs;rcases List.mem_cons.1 h with rfl | h
   ·unfold Im.secR at hs;simp only at hs;split at hs
    ·rename_i n r1 hm;have:=many_less hm;split at hs
     ·cases hs;simp only[List.length_take,List.length_cons];omega
     ·cases hs
    ·cases hs
   ·have h1:=secs_body f r y h;have h2:=Im.secR_len hs;omega
  ·cases h
theorem split_body(h:splitR b=some (x,L))(y:Sec)(hy:y∈L):y.body.length<=b.length:=by
 unfold splitR at h;split at h
 ·split at h
  ·cases h;have:=secs_body _ _ y hy;simp only[List.length_cons];omega
  ·cases h
 ·cases h
theorem bodies_len{s:U8}{ls:List (List U8)}(h:bodiesR b s kinds=some ls):ls.length=kinds.length/\∀l∈ls,l.length<=b.length:=by
 unfold bodiesR at h;split at h
 ·cases h
 ·rename_i x L hq;split at h
  ·rename_i h1;cases h;refine⟨by rw[List.length_map];exact h1.2.1,λl hl=>?_⟩;obtain⟨y,hy,rfl⟩:=List.mem_map.1 hl;exact split_body hq y hy
  ·cases h
theorem two_of{k1 k2:Int}{s:U8}(h:bodiesR b s [k1,k2]=some (rds.map (·.2))):∃q1 q2,rds= [q1,q2]/\q1.2.length<=b.length/\q2.2.length<=b.length:=by
 obtain⟨h1,h2⟩:=bodies_len h
 match rds,h1 with
 | [q1,q2],_=>exact⟨q1,q2,rfl,h2 q1.2 Yr,h2 q2.2 Yr⟩
theorem read_no(h:bodiesR b 79 [1,2]=some [b1,b2])(h1:progR b1=none):readR b=none:=by rw[readR,h];simp only[h1]
theorem read_no2(h:bodiesR b 79 [1,2]=some [b1,b2])(h1:progR b1=some (p,l1))(h2: ¬(l1= []/\(sizesP p).isSome=true)):readR b=none:=by rw[readR,h];simp only[h1];exact if_neg h2
theorem read_go(h:bodiesR b 79 [1,2]=some [b1,b2])(h1:progR b1=some (p,[]))(h2:(sizesP p).isSome=true):readR b=match listR (thR p) () b2 with
   | none=>none
   | some (objs,_,l2)=>if l2= []/\checkP p objs=true then some (p,objs) else none:=by rw[readR,h];simp only[h1];exact if_pos ⟨trivial,h2⟩
theorem read_none(h:bodiesR b 79 [1,2]=none):readR b=none:=by rw[readR,h]
theorem read1(b:List U8)(hl:b.length<=1048576)(pb ob:Nat)(Hx:List Ent):ACall Tryz.prog 67 [.ptr [u8s b],.p pb 0,.p ob 0] (.blk ob 28 [nilA]::.blk pb 27 [nilA,.val (.int .i64 0),nilA,nilA,nilA,.val (.int .i64 0)]::Hx) (λ_ H'=>∃p objs,readR b=some (p,objs)/\H'= .blk ob 28 [AV.ths objs]::.blk pb 27 (progC p)::Hx) (λy H'=>y=wrongA/\readR b=none/\H'=Hx):=by
 refine aC (n:=33) Tryz.func67 λB I w0=>?_;refine Z3 ?_;refine oP (POp.row rfl rfl Yh rfl rfl rfl rfl rfl rfl) ?_;refine OL.bcall rfl rfl .k (bodiesC b hl 79 [1,2] YO _).b ?_ ?_
 ·rintro y _ ⟨rds,hb,rfl,rfl⟩;obtain⟨q1,q2,rfl,hq1,hq2⟩:=two_of hb;replace hb:bodiesR b 79 [1,2]=some [q1.2,q2.2]:=hb;refine Z4 ?_;refine CW.eqH (H':=rdr q2.1 q2.2::rdr q1.1 q1.2::.blk ob 28 [nilA]::.blk pb 27 [nilA,.val (.int .i64 0),nilA,nilA,nilA,.val (.int .i64 0)]::Hx) rfl ?_;refine CW.perm (List.Perm.swap _ _ _) ?_;refine Z2 ?_;refine oP (YB) ?_;refine Z1 ?_;rcases hp:progR q1.2 with _ | ⟨p,l1⟩
  ·refine OL.rcallN rfl rfl (.mk' rfl rfl rfl rfl rfl) Y9 wrong_c ?_;exact outP (P:=Tryz.prog) (fn:=Tryz.f67) wrong_c (.cons _ (.cons _ (.cons _ (.refl _)))) ⟨rfl,read_no hb hp,rfl⟩
  ·have hsm:=prog_small Ya hp;refine OL.rcallS rfl rfl rfl (.mk' rfl rfl rfl rfl rfl) Y9 ?_;refine Z6 ?_;refine oP (YB) ?_;refine Z1 ?_;by_cases hl1:l1= []
   ·subst hl1;refine OL.rcallS rfl rfl rfl (.mk' rfl rfl rfl rfl rfl) (by have h:=doneC (l:=[]) q1.1 (rdr q2.1 q2.2::.blk ob 28 [nilA]::.blk pb 27 (progC p)::Hx);rwa [if_pos rfl] at h) ?_;refine Z5 ?_;refine oP (POp.call .k (checkB hsm)) ?_;refine Z1 ?_;cases hs:(sizesP p).isSome
    ·refine OL.rcallN rfl rfl (.mk' rfl rfl rfl rfl rfl) (q71f YaI _) wrong_c ?_;exact outP (P:=Tryz.prog) (fn:=Tryz.f67) wrong_c (.cons _ (.cons _ (.cons _ (.refl _)))) ⟨rfl,read_no2 hb hp (λh=>by rw[hs] at h;cases h.2),rfl⟩
    ·have hv:=read_go hb hp hs;refine OL.rcallS rfl rfl rfl (.mk' rfl rfl rfl rfl rfl) (q71t YaI _) ?_;refine Z3 ?_;refine CW.dp mixed ?_;refine DP.anyC 0 4 33 rfl Ye rfl rfl Ye ?_;refine Z1 ?_;refine AD.popC rfl rfl rfl (YB) ?_;refine Z4 ?_;rcases ht:listR (thR p) () q2.2 with _ | ⟨objs,u,l2⟩
     ·refine OL.rcallN rfl rfl (.mk' rfl rfl rfl rfl rfl) YaO wrong_c ?_;exact outP (P:=Tryz.prog) (fn:=Tryz.f67) wrong_c (.cons _ (.cons _ (.refl _))) ⟨rfl,by rw[hv,ht],rfl⟩
     ·rw[ht] at hv;dsimp only at hv;refine OL.rcallS rfl rfl rfl (.mk' rfl rfl rfl rfl rfl) YaO ?_;refine Z6 ?_;refine oP (YB) ?_;refine Z1 ?_;by_cases hl2:l2= []
      ·subst hl2;refine OL.rcallS rfl rfl rfl (.mk' rfl rfl rfl rfl rfl) (by have h:=doneC (l:=[]) q2.1 (.blk ob 28 [AV.ths objs]::.blk pb 27 (progC p)::Hx);rwa [if_pos rfl] at h) ?_;refine Z5 ?_;refine oP (POp.call .k (meanCheck hsm objs)) ?_;refine Z1 ?_;cases hc:checkP p objs
       ·refine OL.rcallN rfl rfl (.mk' rfl rfl rfl rfl rfl) (q71f YaI _) wrong_c ?_;exact outP (P:=Tryz.prog) (fn:=Tryz.f67) wrong_c (.cons _ (.cons _ (.refl _))) ⟨rfl,by rw[hv];exact if_neg (λh=>by rw[hc] at h;cases h.2),rfl⟩
       ·refine OL.rcallS rfl rfl rfl (.mk' rfl rfl rfl rfl rfl) (q71t YaI _) ?_;refine Z1 ?_;refine nR [] (.blk ob 28 [AV.ths objs]::.blk pb 27 (progC p)::Hx) ?_;exact⟨p,objs,by rw[hv];exact if_pos ⟨rfl,hc⟩,rfl⟩
      ·refine OL.rcallN rfl rfl (.mk' rfl rfl rfl rfl rfl) (by have h:=doneC (l:=l2) q2.1 (.blk ob 28 [AV.ths objs]::.blk pb 27 (progC p)::Hx);rwa [if_neg hl2] at h) wrong_c ?_;exact outP (P:=Tryz.prog) (fn:=Tryz.f67) wrong_c (.cons _ (.cons _ (.refl _))) ⟨rfl,by rw[hv];exact if_neg (λh=>hl2 h.1),rfl⟩
   ·refine OL.rcallN rfl rfl (.mk' rfl rfl rfl rfl rfl) (by have h:=doneC (l:=l1) q1.1 (rdr q2.1 q2.2::.blk ob 28 [nilA]::.blk pb 27 (progC p)::Hx);rwa [if_neg hl1] at h) wrong_c ?_;exact outP (P:=Tryz.prog) (fn:=Tryz.f67) wrong_c (.cons _ (.cons _ (.cons _ (.refl _)))) ⟨rfl,read_no2 hb hp (λh=>hl1 h.1),rfl⟩
 ·rintro y _ ⟨hb,rfl,rfl⟩ a w st I v hv;rw[wrong_c.is _ _ _ hv];exact outP (P:=Tryz.prog) (fn:=Tryz.f67) wrong_c (.cons _ (.cons _ (.refl _))) ⟨rfl,read_none hb,rfl⟩ a w st
def noProg:Prog:=⟨[],0,[],[],[],0⟩
def readA(b:List U8):AV:=match readR b with
 | some (p,objs)=>.tup [AV.prog p,AV.ths objs,.i 0]
 | none=>.tup [AV.prog noProg,AV.ths [],.i 4]
theorem readC(b:List U8)(hl:b.length<=1048576):PCall Tryz.prog 19 [u8s b] (readA b):=by
 intro H;refine aC (n:=15) Tryz.func19 λB I w0=>?_;refine Z3 ?_;refine OL.alC rfl rfl rfl rfl (λb2=>?_);refine Z6 ?_;refine OL.alC rfl rfl rfl rfl (λpb=>?_);refine Z4 ?_;refine OL.alC rfl rfl rfl rfl (λob=>?_);refine Z5 ?_;refine bC .k (tryC (H:=.blk ob 28 [nilA]::.blk pb 27 [nilA,.val (.int .i64 0),nilA,nilA,nilA,.val (.int .i64 0)]::.blk b2 27 [nilA,.val (.int .i64 0),nilA,nilA,nilA,.val (.int .i64 0)]::H) (A:=λH1=>∃p objs,readR b=some (p,objs)/\H1= .blk ob 28 [AV.ths objs]::.blk pb 27 (progC p)::.blk b2 27 [nilA,.val (.int .i64 0),nilA,nilA,nilA,.val (.int .i64 0)]::H) (Bp:=λHf=>readR b=none/\Hf= .blk b2 27 [nilA,.val (.int .i64 0),nilA,nilA,nilA,.val (.int .i64 0)]::H) (λB Hy=>VCall.fn (ACall.weak (read1 b hl pb ob (.blk b2 27 [nilA,.val (.int .i64 0),nilA,nilA,nilA,.val (.int .i64 0)]::H++Hy)) (λy H'=>?_) (λy H'=>?_)))).b ?_
 ·rintro⟨p,objs,h1,rfl⟩;exact⟨_,rfl,p,objs,h1,rfl⟩
 ·rintro⟨rfl,h1,rfl⟩;exact⟨rfl,_,rfl,h1,rfl⟩
 rintro y H1 (⟨rfl,p,objs,hr,rfl⟩ | ⟨rfl,hr,rfl⟩)
 ·refine Z10 ?_;refine CW.cond rfl (λh0=>?_) (λh0=>?_)
  ·cases h0
  ·refine Z3 ?_;refine CW.dp mixed ?_;refine DP.anySC (λsj=>match sj with | 0=>.blk ob 28 [AV.ths objs]::.blk pb 27 (progC p)::.blk b2 27 [nilA,.val (.int .i64 0),nilA,nilA,nilA,.val (.int .i64 0)]::H | _=>.blk ob 28 [AV.ths objs]::.blk pb 27 (progC p)::.blk b2 27 (progC p)::H) [2] 0 3 15 rfl Ye rfl rfl rfl Ye rfl ?_;refine TD.popC 0 0 Ye Ye Ye rfl rfl rfl (λj hj1 hj2=>by rcases (show j=0 by omega) with rfl <;> exact (YK)) ?_;refine TD.popC 0 1 Ye Ye Ye rfl rfl rfl (λj hj1 hj2=>by rcases (show j=0\/j=1 by omega) with rfl | rfl <;> exact (Yb)) ?_;refine TD.stoC 0 Ye Ye Ye rfl rfl (.store rfl rfl rfl rfl rfl rfl rfl rfl YC Ya4 Ya4) ?_;refine TD.nil ?_;refine Z6 ?_;refine Done.retR (rs:=[.cell 2 27,.tmp 3,.tmp 4]) (H':=H) rfl (Y1) (AVleL.refl _) Yc ?_;exact⟨by rw[readA,hr];rfl,rfl⟩
 ·refine Z10 ?_;refine CW.cond rfl (λh1=>?_) (λh1=>?_)
  ·refine Z10 ?_;refine Done.retR (rs:=[.cell 2 27,.tmp 3,.tmp 4]) (H':=H) rfl (Y1) (.cons (AVle.agg (.cons (AVle.nil 3) (.cons (.refl _) (.cons (AVle.nil 1) (.cons (AVle.nil 9) (.cons (AVle.nil 3) (.cons (.refl _) .nil))))))) (.cons (AVle.nil 2) (.cons (.refl _) .nil))) Yc ?_;exact⟨by rw[readA,hr];rfl,rfl⟩
  ·cases h1
def part1R(b:List U8):Option (List U8×List U8):=match bodiesR b 80 [3] with
 | some [l]=>if 4<=l.length then some (l.take 4,l.drop 4) else none
 | _=>none
theorem one_of{k1:Int}{s:U8}(h:bodiesR b s [k1]=some (rds.map (·.2))):∃q1,rds= [q1]/\q1.2.length<=b.length:=by
 obtain⟨h1,h2⟩:=bodies_len h
 match rds,h1 with
 | [q1],_=>exact⟨q1,rfl,h2 q1.2 Yr⟩
def part2R(p:Prog)(b l:List U8):Option (List (Int×Int)×List Th):=match listR valR () l with
 | none=>none
 | some (roots,_,l1)=>match listR (thR p) () l1 with
  | none=>none
  | some (more,_,l2)=>if l2= []/\askedP p more roots=true/\b=partP p more roots then some (roots,more) else none
theorem part2_no1(h:listR valR () l=none):part2R p b l=none:=by rw[part2R,h]
theorem part2_no2(h:listR valR () l=some (roots,(),l1))(h2:listR (thR p) () l1=none):part2R p b l=none:=by rw[part2R,h];simp only[h2]
theorem part2_go{b l l1 l2:List U8}(h:listR valR () l=some (roots,(),l1))(h2:listR (thR p) () l1=some (more,(),l2)):part2R p b l=if l2= []/\askedP p more roots=true/\b=partP p more roots then some (roots,more) else none:=by rw[part2R,h];simp only[h2]
theorem load1(b:List U8)(hl:b.length<=1048576)(rv ov:Nat)(X Y:AV)(Hx:List Ent):ACall Tryz.prog 85 [.ptr [u8s b],.p rv 0,.p ov 0] (.blk ov 30 [X]::.blk rv 104 [Y]::Hx) (λ_ H'=>∃rb own l,part1R b=some (own,l)/\H'=rdr rb l::.blk ov 30 [u8s own]::.blk rv 104 [.p rb 0]::Hx) (λy H'=>y=wrongA/\part1R b=none/\H'=Hx):=by
 refine aC (n:=10) Tryz.func85 λB I w0=>?_;refine Z3 ?_;refine oP (POp.row rfl rfl Yh rfl rfl rfl rfl rfl rfl) ?_;refine OL.bcall rfl rfl .k (bodiesC b hl 80 [3] YO _).b ?_ ?_
 ·rintro y _ ⟨rds,hb,rfl,rfl⟩;obtain⟨q1,rfl,hq1⟩:=one_of hb;replace hb:bodiesR b 80 [3]=some [q1.2]:=hb;refine oP (YB) ?_;refine Z4 ?_;refine CW.eqH (H':=rdr q1.1 q1.2::.blk ov 30 [X]::.blk rv 104 [.p q1.1 0]::Hx) rfl ?_;refine Z2 ?_;by_cases h4:4<=q1.2.length
  ·refine OL.rcallS rfl rfl rfl (.mk' rfl rfl rfl rfl rfl) (by have h:=q86 q1.2 4 q1.1 (.blk ov 30 [X]::.blk rv 104 [.p q1.1 0]::Hx);rwa [if_pos h4] at h) ?_;refine Z2 ?_;refine nR [] (rdr q1.1 (q1.2.drop 4)::.blk ov 30 [u8s (q1.2.take 4)]::.blk rv 104 [.p q1.1 0]::Hx) ?_;exact⟨q1.1,_,_,by rw[part1R,hb];exact if_pos h4,rfl⟩
  ·refine OL.rcallN rfl rfl (.mk' rfl rfl rfl rfl rfl) (by have h:=q86 q1.2 4 q1.1 (.blk ov 30 [X]::.blk rv 104 [.p q1.1 0]::Hx);rwa [if_neg h4] at h) wrong_c ?_;exact outP (P:=Tryz.prog) (fn:=Tryz.f85) wrong_c (.cons _ (.cons _ (.refl _))) ⟨rfl,by rw[part1R,hb];exact if_neg h4,rfl⟩
 ·rintro y _ ⟨hb,rfl,rfl⟩ a w st I v hv;rw[wrong_c.is _ _ _ hv];exact outP (P:=Tryz.prog) (fn:=Tryz.f85) wrong_c (.cons _ (.cons _ (.refl _))) ⟨rfl,by rw[part1R,hb],rfl⟩ a w st
theorem load2(hp:p.Small)(b l:List U8)(rb ro mo:Nat)(X Y:AV)(Hx:List Ent):ACall Tryz.prog 89 [.ptr [.p rb 0],.p ro 0,.ptr (progC p),.p mo 0,.ptr [u8s b]] (rdr rb l::.blk mo 28 [X]::.blk ro 29 [Y]::Hx) (λ_ H'=>∃roots more,part2R p b l=some (roots,more)/\H'= .blk mo 28 [AV.ths more]::.blk ro 29 [AV.mvs roots]::Hx) (λy H'=>y=wrongA/\part2R p b l=none/\H'=Hx):=by
 refine aC (n:=33) Tryz.func89 λB I w0=>?_;refine Z5 ?_;rcases h1:listR valR () l with _ | ⟨roots,u1,l1⟩
 ·refine OL.rcallN rfl rfl (.mk' rfl rfl rfl rfl rfl) Yaq wrong_c ?_;exact outP (P:=Tryz.prog) (fn:=Tryz.f89) wrong_c (.cons _ (.cons _ (.refl _))) ⟨rfl,part2_no1 h1,rfl⟩
 ·obtain rfl:u1=():=rfl;refine OL.rcallS rfl rfl rfl (.mk' rfl rfl rfl rfl rfl) Yaq ?_;refine Z7 ?_;rcases h2:listR (thR p) () l1 with _ | ⟨more,u2,l2⟩
  ·refine OL.rcallN rfl rfl (.mk' rfl rfl rfl rfl rfl) YaQ wrong_c ?_;exact outP (P:=Tryz.prog) (fn:=Tryz.f89) wrong_c (.cons _ (.cons _ (.refl _))) ⟨rfl,part2_no2 h1 h2,rfl⟩
  ·obtain rfl:u2=():=rfl;have hv:=part2_go (b:=b) h1 h2;refine OL.rcallS rfl rfl rfl (.mk' rfl rfl rfl rfl rfl) YaQ ?_;refine Z6 ?_;by_cases hl2:l2= []
   ·subst hl2;refine OL.rcallS rfl rfl rfl (.mk' rfl rfl rfl rfl rfl) (by have h:=doneC (l:=[]) rb (.blk mo 28 [AV.ths more]::.blk ro 29 [AV.mvs roots]::Hx);rwa [if_pos rfl] at h) ?_;refine Z2 ?_;refine CW.dp mixed ?_;refine DP.anyC 0 2 33 rfl Ye rfl rfl Ye ?_;refine Z4 ?_;refine oP (POp.call .k (meanCheck hp more)) ?_;refine Z10 ?_;refine DP.anyC 5 8 33 rfl Ye rfl rfl Ye ?_;refine Z5 ?_;refine OL.guardC rfl rfl rfl rfl rfl rfl (λhg=>POp.call (.mk' rfl rfl rfl rfl Yd) (rootedC roots more.length)) ?_;refine Z10 ?_;refine DP.anyC 11 16 33 rfl Ye rfl rfl Ye ?_;refine Z4 ?_;refine AD.guardC rfl rfl rfl rfl rfl (λhg=>POp.call (.mk' rfl rfl rfl rfl Yd) (partedC (ask_ok (by rw[asked_eq] at hg;exact hg)))) ?_;refine Z2 ?_;refine OL.guardC rfl rfl rfl rfl rfl rfl (λhg=>POp.call (.mk' rfl rfl rfl rfl Yd) (eqBytes _ _)) ?_;refine Z1 ?_;by_cases hq:askedP p more roots=true/\b=partP p more roots
    ·refine OL.rcallS rfl rfl rfl (.mk' rfl rfl rfl rfl rfl) (q71t (by rw[asked_eq,hq.1,Bool.cond_true,beq_iff_eq];exact hq.2) _) ?_;refine Z1 ?_;refine nR [] (.blk mo 28 [AV.ths more]::.blk ro 29 [AV.mvs roots]::Hx) ?_;exact⟨roots,more,by rw[hv];exact if_pos ⟨rfl,hq⟩,rfl⟩
    ·refine OL.rcallN rfl rfl (.mk' rfl rfl rfl rfl rfl) (q71f (by rw[asked_eq,Bool.cond_false_right,Bool.and_eq_false_iff,beq_eq_false_iff_ne];rcases Classical.not_and_iff_not_or_not.1 hq with h | h;exact .inl Y5;exact .inr h) _) wrong_c ?_;exact outP (P:=Tryz.prog) (fn:=Tryz.f89) wrong_c (.cons _ (.cons _ (.refl _))) ⟨rfl,by rw[hv];exact if_neg (λh=>hq h.2),rfl⟩
   ·refine OL.rcallN rfl rfl (.mk' rfl rfl rfl rfl rfl) (by have h:=doneC (l:=l2) rb (.blk mo 28 [AV.ths more]::.blk ro 29 [AV.mvs roots]::Hx);rwa [if_neg hl2] at h) wrong_c ?_;exact outP (P:=Tryz.prog) (fn:=Tryz.f89) wrong_c (.cons _ (.cons _ (.refl _))) ⟨rfl,by rw[hv];exact if_neg (λh=>hl2 h.1),rfl⟩
theorem load3(objs:List Th)(hl:objs.length<=40){n:Int}(hn:okZ n):PCall Tryz.prog 93 [.i n,.ptr [AV.ths objs]] (.i (n+objs.length)):=by
 intro H;refine aC (n:=8) Tryz.func93 λB I w0=>?_;unfold okZ at hn;refine Z15 ?_;refine r1 3 (H) ?_;exact⟨Yg,rfl⟩
def shiftT(k:Int)(t:Th):Th:=⟨t.cls,t.slots.map (move1 (· +k))⟩
inductive LoadE where
 | arg | text | rule | long
 | ok (objs:List Th) (roots:List (Int×Int))
def loadR(p:Prog)(objs:List Th)(b:List U8):LoadE:=if checkP p objs then (match part1R b with
 | none=>.text
 | some (own,l)=>if own=sumR 1 (progW p) then (match part2R p b l with
  | none=>.text
  | some (roots,more)=>if objs.length+more.length<=40 then .ok (objs++more.map (shiftT objs.length)) (roots.map (move1 (· +(objs.length:Int)))) else .long) else .rule) else .arg
def loadA:LoadE->AV
 | .arg=>.tup [AV.ths [],AV.mvs [],.i 2]
 | .text=>.tup [AV.ths [],AV.mvs [],.i 4]
 | .rule=>.tup [AV.ths [],AV.mvs [],.i 7]
 | .long=>.tup [AV.ths [],AV.mvs [],.i 3]
 | .ok objs roots=>.tup [AV.ths objs,AV.mvs roots,.i 0]
theorem behind_ok(hl:objs.length<=40):NumOk Tryz.prog [] (.fn (.func 93) [] [.ptr [AV.ths objs]]) (· +(objs.length:Int)) okZ:=λB H _ n hn=>VCall.fn (load3 objs hl hn H)
theorem okZ_of(hn:n<=1000000){v:Int×Int}(h:valueP n v=true):okZ v.2:=by have:=valueP_key hn h;unfold okZ;omega
theorem ths_snoc(o:List Th)(x:Th):AV.ths (o++[x])= .sl 2 ((o.map thA)++[thA x]):=by
 show AV.sl 2 (List.map _ (_++_))=_;rw[List.map_append];rfl
theorem part2_ok(h:part2R p b l=some (roots,more)):askedP p more roots=true:=by
 unfold part2R at h;split at h
 ·cases h
 ·split at h
  ·cases h
  ·split at h
   ·rename_i h1;cases h;exact h1.2.1
   ·cases h
theorem cloneV(l:List (Int×Int))(hl:l.length<=4000000):PCall Tryz.prog 94 [AV.mvs l] (AV.mvs l):=by
 intro H;refine aC (n:=8) Tryz.func94 λB I w0=>?_;refine Z9 ?_;refine OL.isNilC rfl rfl rfl rfl rfl rfl rfl (AVle.refl _) rfl rfl (λn4 hn4=>?_);refine Z2 ?_;refine cd (λh0=>?_) λh0=>?_
 ·refine Z7 ?_;refine Done.retR (rs:=[.tmp 2]) (H':=H) rfl (.tmp rfl (.nil)) (.cons (AVle.nil 2) .nil) Yc ?_;exact⟨by show AV.sl 2 []=AV.sl 2 _;rw[hn4 h0],rfl⟩
 ·refine Z6 ?_;refine oP (POp.appendI rfl rfl rfl (AVle.refl _) rfl rfl (AVle.refl _) (one_mvs l) Yw Yw) ?_;refine Z4 ?_;refine r1 2 (H) ?_;exact⟨Yg,rfl⟩
theorem load_text1(hc:checkP p objs=true)(h:part1R b=none):loadR p objs b= .text:=by rw[loadR,if_pos hc,h]
theorem load_rule(hc:checkP p objs=true)(h:part1R b=some (own,l))(h2: ¬own=sumR 1 (progW p)):loadR p objs b= .rule:=by rw[loadR,if_pos hc,h];exact if_neg h2
theorem load_on(hc:checkP p objs=true)(h:part1R b=some (own,l))(h2:own=sumR 1 (progW p)):loadR p objs b=match part2R p b l with
  | none=>.text
  | some (roots,more)=>if objs.length+more.length<=40 then .ok (objs++more.map (shiftT objs.length)) (roots.map (move1 (· +(objs.length:Int)))) else .long:=by rw[loadR,if_pos hc,h];exact if_pos h2
theorem loadC(hp:p.Small)(objs:List Th)(b:List U8)(hl:b.length<=1048576):PCall Tryz.prog 30 [AV.prog p,AV.ths objs,u8s b] (loadA (loadR p objs b)):=by
 intro H;refine aC (n:=85) Tryz.func30 λB I w0=>?_;refine Z15 ?_;refine oP (POp.call .k (meanCheck hp objs)) ?_;refine Z3 ?_;refine CW.cond rfl (λh0=>?_) (λh0=>?_)
 ·have hc:checkP p objs=false:=by cases h:checkP p objs <;> simp_all
  refine Z9 ?_;refine Done.retR (rs:=[.tmp 6,.tmp 7,.tmp 8]) (H':=H) rfl (.tmp rfl (.tmp rfl (.tmp rfl (.nil)))) (.cons (AVle.nil 2) (.cons (AVle.nil 2) (.cons (.refl _) .nil))) Yc ?_;exact⟨by rw[loadR,if_neg (by rw[hc];simp)];rfl,rfl⟩
 ·have hc:checkP p objs=true:=by cases h:checkP p objs <;> simp_all
  obtain⟨hok,hol,hos⟩:=ok_of hc;refine Z4 ?_;refine OL.alC rfl rfl rfl rfl (λrv=>?_);refine Z4 ?_;refine OL.alC rfl rfl rfl rfl (λov=>?_);refine Z5 ?_;refine bC .k (tryC (H:=.blk ov 30 [nilA]::.blk rv 104 [.val (.pointer none)]::H) (A:=λH1=>∃rb own l,part1R b=some (own,l)/\H1=rdr rb l::.blk ov 30 [u8s own]::.blk rv 104 [.p rb 0]::H) (Bp:=λHf=>part1R b=none/\Hf=H) (λB Hy=>VCall.fn (ACall.weak (load1 b hl rv ov nilA (.val (.pointer none)) (H++Hy)) (λy H'=>?_) (λy H'=>?_)))).b ?_
  ·rintro⟨rb,own,l,h1,rfl⟩;exact⟨_,rfl,rb,own,l,h1,rfl⟩
  ·rintro⟨rfl,h1,rfl⟩;exact⟨rfl,_,rfl,h1,rfl⟩
  rintro y H1 (⟨rfl,rb,own,l,hr,rfl⟩ | ⟨rfl,hr,hH⟩)
  ·refine Z12 ?_;refine CW.cond rfl (λh1=>?_) (λh1=>?_)
   ·cases h1
   ·refine Z1 ?_;refine CW.dp mixed ?_;refine DP.anyC 0 3 85 rfl Ye rfl rfl Ye ?_;refine Z2 ?_;refine AD.popC rfl rfl rfl (POp.call .k (keyC hok)) ?_;refine Z2 ?_;refine oP (POp.call .k (eqBytes _ _)) ?_;refine Z4 ?_;refine CW.cond rfl (λh2=>?_) (λh2=>?_)
    ·have hne: ¬own=sumR 1 (progW p):=by simpa using h2
     refine Z10 ?_;refine Done.retR (rs:=[.tmp 6,.tmp 7,.tmp 8]) (H':=H) rfl (.tmp rfl (.tmp rfl (.tmp rfl (.nil)))) (.cons (AVle.nil 2) (.cons (AVle.nil 2) (.cons (.refl _) .nil))) Yc ?_;exact⟨by rw[load_rule hc hr hne];rfl,rfl⟩
    ·have heq:own=sumR 1 (progW p):=by simpa using h2
     have hv:=load_on hc hr heq;refine Z5 ?_;refine OL.alC rfl rfl rfl rfl (λro=>?_);refine Z4 ?_;refine OL.alC rfl rfl rfl rfl (λmo=>?_);refine Z3 ?_;refine CW.freezeP (d:=9) rfl Yl ?_;refine CW.perm (List.perm_append_comm_assoc [_,_] [_] _) ?_;refine Z2 ?_;refine bC .k (tryC (H:=rdr rb l::.blk mo 28 [nilA]::.blk ro 29 [nilA]::.blk ov 30 [u8s own]::H) (A:=λH1=>∃roots more,part2R p b l=some (roots,more)/\H1= .blk mo 28 [AV.ths more]::.blk ro 29 [AV.mvs roots]::.blk ov 30 [u8s own]::H) (Bp:=λHf=>part2R p b l=none/\Hf= .blk ov 30 [u8s own]::H) (λB Hy=>VCall.fn (ACall.weak (load2 hp b l rb ro mo nilA nilA (.blk ov 30 [u8s own]::H++Hy)) (λy H'=>?_) (λy H'=>?_)))).b ?_
     ·rintro⟨roots,more,h1,rfl⟩;exact⟨_,rfl,roots,more,h1,rfl⟩
     ·rintro⟨rfl,h1,rfl⟩;exact⟨rfl,_,rfl,h1,rfl⟩
     rintro y H1 (⟨rfl,roots,more,h2,rfl⟩ | ⟨rfl,h2,rfl⟩)
     ·rw[h2] at hv;dsimp only at hv;have hak:=part2_ok h2;obtain⟨hml,hrl,hrv,hmv⟩:=asked_parts hak;have hmo:=(ask_ok hak).po.os;refine Z12 ?_;refine CW.cond rfl (λh3=>?_) (λh3=>?_)
      ·cases h3
      ·refine Z11 ?_;refine CW.cond rfl (λh4=>?_) (λh4=>?_)
       ·have h40: ¬objs.length+more.length<=40:=by simp at h4;omega
        refine Z10 ?_;refine Done.retR (rs:=[.tmp 6,.tmp 7,.tmp 8]) (H':=H) rfl (.tmp rfl (.tmp rfl (.tmp rfl (.nil)))) (.cons (AVle.nil 2) (.cons (AVle.nil 2) (.cons (.refl _) .nil))) Yc ?_;exact⟨by rw[hv,if_neg h40];rfl,rfl⟩
       ·have h40:objs.length+more.length<=40:=by simp at h4;omega
        rw[if_pos h40] at hv;refine Z23 ?_;refine CW.ownNil 15 65 2 rfl ?_;refine lj (λm st=>∃(i:Nat) (v:Value),st=⟨[(50,.i i),(49,.i objs.length),(48,AV.ths objs),(15,.as (AV.ths (objs.take i)) v),(14,.fn (.func 93) [] [.ptr [AV.ths objs]]),(13,.p mo 0),(12,.p ro 0)],.own 65 2 v::.blk mo 28 [AV.ths more]::.blk ro 29 [AV.mvs roots]::.blk ov 30 [u8s own]::H⟩/\m=objs.length - i/\i<=objs.length) (⟨0,_,rfl,rfl,Ya⟩) ?_;rintro m _ ⟨i,v,rfl,rfl,hi⟩;refine Z6 ?_;refine cd (λh5=>?_) λh5=>?_
        ·have hil:i<objs.length:=by omega
         obtain⟨X,hX⟩:∃X,X=objs.getD i default:=⟨_,rfl⟩;have hXv:=(hos X (hX▸getD_memB hil)).vl;refine Z8 ?_;refine OL.alC rfl rfl rfl rfl (λb4=>?_);refine Z3 ?_;rw[<-hX];refine CW.freezeP (d:=17) rfl Yl ?_;refine CW.dp mixed ?_;refine DP.anyC 0 8 85 rfl Ye rfl rfl Ye ?_;refine Z5 ?_;refine AD.popC rfl rfl rfl (POp.call .k (cloneV X.slots Ya)) ?_;refine Z1 ?_;refine AD.popC rfl rfl rfl (POp.le (x:=.sl 2 [thA X]) (POp.row rfl rfl Yh rfl rfl rfl rfl rfl rfl) (AVle.refl _)) ?_;refine Z2 ?_;refine OL.appendC rfl rfl rfl rfl rfl rfl rfl rfl (AVle.refl _) (rfl) (λv=>by repeat (first | exact Upd.head _ _ _ | apply Upd.tail)) Y3 Y3 (λv62=>?_);refine Z8 ?_;exact ag (⟨i+1,v62,by rw[<-take_getD hil,ths_snoc, <-hX],rfl,hil⟩)
        ·obtain rfl:i=objs.length:=by omega
         rw[List.take_length];refine Z14 ?_;refine lj (λm st=>∃(i:Nat) (v:Value),st=⟨[(66,.i i),(65,.i more.length),(64,AV.ths more),(15,.as (AV.ths (objs++(more.take i).map (shiftT objs.length))) v),(14,.fn (.func 93) [] [.ptr [AV.ths objs]]),(12,.p ro 0)],.own 65 2 v::.blk mo 28 [AV.ths more]::.blk ro 29 [AV.mvs roots]::.blk ov 30 [u8s own]::H⟩/\m=more.length - i/\i<=more.length) (⟨0,v,by rw[List.take_zero,List.map_nil,List.append_nil],rfl,Ya⟩) ?_;rintro m _ ⟨i,v,rfl,rfl,hi⟩;refine Z6 ?_;refine cd (λh6=>?_) λh6=>?_
         ·have hil:i<more.length:=by omega
          obtain⟨X,hX⟩:∃X,X=more.getD i default:=⟨_,rfl⟩;have hXm:X∈more:=hX▸getD_memB hil;have hXv:=(hmo X hXm).vl;refine Z8 ?_;refine OL.alC rfl rfl rfl rfl (λb5=>?_);refine Z3 ?_;rw[<-hX];refine CW.freezeP (d:=19) rfl Yl ?_;refine CW.dp mixed ?_;refine DP.anyC 0 9 85 rfl Ye rfl rfl Ye ?_;refine Z6 ?_;refine AD.popC rfl rfl rfl (POp.call .k ((movedC (Hm:=[]) (l:=X.slots) (behind_ok hol) (λv hv _=>okZ_of Ya (List.all_eq_true.1 (hmv X hXm) v hv)) Ya).pure)) ?_;refine Z1 ?_;refine AD.popC rfl rfl rfl (POp.le (x:=.sl 2 [thA (shiftT objs.length X)]) (POp.row rfl rfl Yh rfl rfl rfl rfl rfl rfl) (AVle.refl _)) ?_;refine Z2 ?_;refine OL.appendC rfl rfl rfl rfl rfl rfl rfl rfl (AVle.refl _) (rfl) (λv=>by repeat (first | exact Upd.head _ _ _ | apply Upd.tail)) Y3 Y3 (λv79=>?_);refine Z8 ?_;exact ag (⟨i+1,v79,by rw[map_take1 _ hil, <-List.append_assoc,ths_snoc, <-hX],rfl,hil⟩)
         ·obtain rfl:i=more.length:=by omega
          rw[List.take_length];refine Z10 ?_;refine oP (POp.call .k ((movedC (Hm:=[]) (l:=roots) (behind_ok hol) (λv hv _=>okZ_of Ya (List.all_eq_true.1 (hrv) v hv)) Ya).pure)) ?_;refine Z6 ?_;refine Done.retR (rs:=[.tmp 6,.tmp 7,.tmp 8]) (H':=H) rfl (.tmp rfl (.tmp rfl (.tmp rfl (.nil)))) (.cons (AVle.asL _ _) (.cons (.refl _) (.cons (.refl _) .nil))) Yc ?_;exact⟨by rw[hv];rfl,rfl⟩
     ·refine Z12 ?_;refine CW.cond rfl (λh7=>?_) (λh7=>?_)
      ·refine Z10 ?_;refine Done.retR (rs:=[.tmp 6,.tmp 7,.tmp 8]) (H':=H) rfl (.tmp rfl (.tmp rfl (.tmp rfl (.nil)))) (.cons (AVle.nil 2) (.cons (AVle.nil 2) (.cons (.refl _) .nil))) Yc ?_;exact⟨by rw[hv,h2];rfl,rfl⟩
      ·cases h7
  ·obtain rfl:=hH.symm;refine Z12 ?_;refine CW.cond rfl (λh8=>?_) (λh8=>?_)
   ·refine Z10 ?_;refine Done.retR (rs:=[.tmp 6,.tmp 7,.tmp 8]) (H':=H) rfl (.tmp rfl (.tmp rfl (.tmp rfl (.nil)))) (.cons (AVle.nil 2) (.cons (AVle.nil 2) (.cons (.refl _) .nil))) Yc ?_;exact⟨by rw[load_text1 hc hr];rfl,rfl⟩
   ·cases h8
def P0:Prog:=⟨[⟨[],[0],[(0,5)]⟩],1,[],[],[⟨2,0,[]⟩],0⟩
def O0:List Th:=[⟨3,[(2,0)]⟩,⟨3,[(3,0)]⟩]
def B0:List U8:=[67,79,1,11,1,0,1,1,0,10,0,0,1,2,0,0,119,0,18,2,6,2,3,2,3,3,0,0,71,0,16]
def B9:List U8:=[67,79,1,11,1,0,1,1,0,9,0,0,1,2,0,0,119,0,18,2,6,2,3,2,3,3,0,0,71,0,16]
def T0:List U8:=[67,80,3,13,0,119,0,18,1,3,0,2,3,3,1,3,2]
theorem k1:checkP P0 O0=true:=by kernel_rfl
theorem k2:imageP P0 O0=B0:=by kernel_rfl
def K0:List U8:=[67,80,3,13,0,119,0,18,1,3,0,2,3,3,1,3,2,6,211,0,159]
def O4:List Th:=[⟨3,[(2,0)]⟩,⟨3,[(3,0)]⟩,⟨3,[(3,3)]⟩,⟨3,[(2,0)]⟩]
theorem k3:partP P0 O0 [(3,1)]=K0:=by kernel_rfl
theorem k5:askedP P0 O0 [(3,1)]=true:=by kernel_rfl
theorem k6:reachP O0 [(3,1)]= [1,0]:=by kernel_rfl
theorem k7:readR B9=none:=by kernel_rfl
theorem k8:loadR P0 O0 K0= .ok O4 [(3,2)]:=by kernel_rfl
theorem k9:askedP P0 O0 [(3,0)]=true:=by kernel_rfl
theorem k10:alikeP P0 O0 [(3,0)] O0 [(3,1)]=false:=by kernel_rfl
theorem k11:sectA B0= .tup [AV.ints [1,2],AV.ints [],.i 0]:=by kernel_rfl
theorem k12:sectA B9= .tup [AV.ints [1,2],AV.ints [0],.i 0]:=by kernel_rfl
theorem small0:P0.Small:=⟨YO,λc hc=>by
 have:c=⟨[],[0],[(0,5)]⟩:=by simpa [P0] using hc
 subst this;decide⟩
end Go.Proofs.YtpgnjlngepfanaaGreat
