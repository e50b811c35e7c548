/- Part 12 of the proof: contracts of functions of the program and what they need. No condition beyond those that each theorem names. -/
import Derived.Test.YtpgnjlngepfanaaGreatImageLoadsP11
import Derived.Tactics
import Derived.Tactics2
import Derived.Laws.Pointers
import Derived.TacticsInMore
import Derived.RegionIn
import Derived.RecoverIn
set_option maxHeartbeats 1000000
set_option linter.unusedVariables false
set_option linter.unusedSimpArgs false
set_option maxRecDepth 10000
namespace Go.Proofs.YtpgnjlngepfanaaGreat
open Go.Eng
open Go.Eng.Fc
open Go.Eng.Bd
open Go.Eng.Im (U8 u8 u8s sumR)
open Go.Eng.Im (U8 u8 u8s)
open Go.Eng.Im (U8 u8 u8s sumR sumP sumStep)
variable{x:Int×Int}
theorem AVle.nilAs(k:Nat):AVle (.val (.slice none 0 0)) (.as (.sl k []) (.slice none 0 0)):=λI w v h=>by cases h;exact .as _ _ (.sl0 _ _ _)
def hasN21(op:Int):Int:=if op=1 then 2 else if nodeNum op then 1 else 0
theorem nodeNum_iff(op:Int):nodeNum op=true↔op=3\/op=4\/op=5\/op=6\/op=7\/op=8:=by
 simp only[nodeNum,List.contains_eq_mem,decide_eq_true_eq,List.mem_cons,List.not_mem_nil,or_false]
theorem leaf_two(op arg:Int)(path:List Int)(cls n:Int)(h:op=2):leafW op arg path cls n=numI arg++listW numI path++numI cls:=if_pos h
theorem leaf_num(op arg:Int)(path:List Int)(cls n:Int)(h:op=3\/op=4):leafW op arg path cls n=numI arg++listW numI path++intW n:=by rw[leafW,if_neg Yc,if_pos h]
theorem leaf_no(op arg:Int)(path:List Int)(cls n:Int)(h: ¬op=2)(h2: ¬(op=3\/op=4)):leafW op arg path cls n= []:=by rw[leafW,if_neg h,if_neg h2]
theorem rHas21(op:Int):PCall Tryz.prog 189 [.i op] (.i (hasN21 op)):=by
 intro H;refine aC (n:=13) Tryz.func189 λB I w0=>?_;refine Z18 ?_;refine cd (λh0=>?_) λh0=>?_
 ·refine Z8 ?_;refine r1 2 (H) ?_;exact⟨retI Yac,rfl⟩
 ·refine Z7 ?_;refine cd (λh1=>?_) λh1=>?_
  ·refine Z2 ?_;refine CW.cond rfl (λh2=>?_) (λh2=>?_)
   ·replace h2:=nm h2;refine Z8 ?_;refine r1 2 (H) ?_;exact⟨retI Yac,rfl⟩
   ·simp_all
  ·refine Z6 ?_;refine cd (λh3=>?_) λh3=>?_
   ·refine Z2 ?_;refine CW.cond rfl (λh4=>?_) (λh4=>?_)
    ·replace h4:=nm h4;refine Z8 ?_;refine r1 2 (H) ?_;exact⟨retI Yac,rfl⟩
    ·simp_all
   ·refine Z6 ?_;refine cd (λh5=>?_) λh5=>?_
    ·refine Z2 ?_;refine CW.cond rfl (λh6=>?_) (λh6=>?_)
     ·replace h6:=nm h6;refine Z8 ?_;refine r1 2 (H) ?_;exact⟨retI Yac,rfl⟩
     ·simp_all
    ·refine Z6 ?_;refine cd (λh7=>?_) λh7=>?_
     ·refine Z2 ?_;refine CW.cond rfl (λh8=>?_) (λh8=>?_)
      ·replace h8:=nm h8;refine Z8 ?_;refine r1 2 (H) ?_;exact⟨retI Yac,rfl⟩
      ·simp_all
     ·refine Z6 ?_;refine cd (λh9=>?_) λh9=>?_
      ·refine Z2 ?_;refine CW.cond rfl (λh10=>?_) (λh10=>?_)
       ·replace h10:=nm h10;refine Z8 ?_;refine r1 2 (H) ?_;exact⟨retI Yac,rfl⟩
       ·simp_all
      ·refine Z5 ?_;refine cd (λh11=>?_) λh11=>?_
       ·refine Z8 ?_;refine r1 2 (H) ?_;exact⟨retI Yac,rfl⟩
       ·refine Z9 ?_;refine r1 2 (H) ?_;exact⟨retI Yac,rfl⟩
theorem rFactW_step(x:Fact)(hx:okF x)(ih:∀k∈x.kids,okF k->∀{out:List U8} (hb:out.length+(factW k).length<=1000000000) (v:Value) (H:List Ent),ACall Tryz.prog 188 [.as (u8s out) v,AV.fact k] (.own 5 1 v::H) (λy H'=>∃v',y= .as (u8s (out++factW k)) v'/\H'= .own 5 1 v'::H) (λ_ _=>False)){out:List U8}(hb:out.length+(factW x).length<=1000000000)(v:Value)(H:List Ent):ACall Tryz.prog 188 [.as (u8s out) v,AV.fact x] (.own 5 1 v::H) (λy H'=>∃v',y= .as (u8s (out++factW x)) v'/\H'= .own 5 1 v'::H) (λ_ _=>False):=by
 refine aC (n:=50) Tryz.func188 λB I w0=>?_;have hF:=okF_iff hx;have hb1:=hb;rw[factW_eq,List.length_append,List.length_append] at hb1;have hat:=hF.at_;have hnz:=hF.n;refine Z11 ?_;refine bC .k ((rNumW hF.op Yc _ H).b) ?_;rintro _ _ ⟨v1,rfl,rfl⟩;refine Z3 ?_;refine CW.cutJ (λst=>∃v':Value,st=⟨[(0,.as (u8s (out++numI x.op++leafW x.op x.arg x.path x.cls x.n)) v'),(3,.ptr (Fcells x))],.own 5 1 v'::H⟩) ?_ ?_
 ·refine Z13 ?_;refine cd (λh0=>?_) λh0=>?_
  ·obtain⟨ha,hp1,hp2⟩:=hat Yc;have e:=leaf_two x.op x.arg x.path x.cls x.n h0;rw[e] at hb1 ⊢;simp only[List.length_append] at hb1;have e3:out++numI x.op++(numI x.arg++listW numI x.path++numI x.cls)=out++numI x.op++numI x.arg++listW numI x.path++numI x.cls:=by simp only[List.append_assoc]
   refine CW.dp mixed ?_;refine DP.anyK (X:=noX) [⟨3,18,false⟩,⟨6,21,false⟩] (λJ=>match J with | [some w,none]=>.own 5 1 w::H | [_,some w]=>.own 5 1 w::H | _=>.own 5 1 v1::H) (λq J=>match q,J with | 0,[some w,_]=>.as (u8s (out++numI x.op++numI x.arg)) w | 1,[_,some w]=>.as (u8s (out++numI x.op++numI x.arg++listW numI x.path)) w | _,_=>.any) 0 9 50 rfl Ye Ye rfl rfl Ye rfl (λ_ _ _ _ _ _ _ _ _ h=>h.elim) ?_;refine UD.popK [[false,false]] rfl Ye rfl rfl rfl ⟨λf=>POp.move rfl rfl rfl,trivial⟩ ?_;refine UD.popK [[false,false]] rfl Ye rfl rfl rfl ⟨λf=>Yf,trivial⟩ ?_;refine UD.popK [[false,false]] rfl Ye rfl rfl rfl ⟨λf=>Ya,trivial⟩ ?_;refine UD.effK 0 [[false,false]] rfl rfl rfl Ye rfl rfl rfl ⟨λf=>⟨KOk.bcallAs .k (λB=>(rNumW ha Yn _ H).b) (λ_=>rfl) (λ_=>rfl),Yj⟩,trivial⟩ ?_;refine UD.popK [[true,false],[false,false]] rfl Ye rfl rfl rfl ⟨λf=>Yf,λf=>Yf,trivial⟩ ?_;refine UD.popK [[true,false],[false,false]] rfl Ye rfl rfl rfl ⟨λf=>Ya,λf=>Ya,trivial⟩ ?_;refine UD.effK 1 [[true,false]] rfl rfl rfl Ye rfl rfl rfl ⟨λf=>⟨KOk.bcallAs .k (λB=>(rNumsW (l:=x.path) Yc hp2 Yn _ H).b) (λ_=>rfl) (λ_=>rfl),Yj⟩,trivial⟩ ?_;refine UD.popK [[true,true],[true,false],[false,false]] rfl Ye rfl rfl rfl ⟨λf=>Yf,λf=>Yf,λf=>Yf,trivial⟩ ?_;refine UD.popK [[true,true],[true,false],[false,false]] rfl Ye rfl rfl rfl ⟨λf=>Ya,λf=>Ya,λf=>Ya,trivial⟩ ?_;refine UD.nil (λf=>?_);simp only[kvals,List.map_cons,List.map_nil,List.cons_append,List.nil_append];refine Z1 ?_;refine bC .k ((rNumW (hF.cls h0) Yn _ H).b) ?_;rintro _ _ ⟨v9,rfl,rfl⟩;refine Z3 ?_;exact cj ⟨v9,by rw[e3]⟩
  ·refine Z7 ?_;refine cd (λh1=>?_) λh1=>?_
   ·obtain⟨ha,hp1,hp2⟩:=hat Yc;have e:=leaf_num x.op x.arg x.path x.cls x.n (.inl h1);rw[e] at hb1 ⊢;simp only[List.length_append] at hb1;have hz:=hnz (.inl h1);have e3:out++numI x.op++(numI x.arg++listW numI x.path++intW x.n)=out++numI x.op++numI x.arg++listW numI x.path++intW x.n:=by simp only[List.append_assoc]
    refine Z2 ?_;refine CW.cond rfl (λh2=>?_) (λh2=>?_)
    ·replace h2:=nm h2;refine CW.dp mixed ?_;refine DP.anyK (X:=noX) [⟨3,31,false⟩,⟨6,34,false⟩] (λJ=>match J with | [some w,none]=>.own 5 1 w::H | [_,some w]=>.own 5 1 w::H | _=>.own 5 1 v1::H) (λq J=>match q,J with | 0,[some w,_]=>.as (u8s (out++numI x.op++numI x.arg)) w | 1,[_,some w]=>.as (u8s (out++numI x.op++numI x.arg++listW numI x.path)) w | _,_=>.any) 0 9 50 rfl Ye Ye rfl rfl Ye rfl (λ_ _ _ _ _ _ _ _ _ h=>h.elim) ?_;refine UD.popK [[false,false]] rfl Ye rfl rfl rfl ⟨λf=>POp.move rfl rfl rfl,trivial⟩ ?_;refine UD.popK [[false,false]] rfl Ye rfl rfl rfl ⟨λf=>Yf,trivial⟩ ?_;refine UD.popK [[false,false]] rfl Ye rfl rfl rfl ⟨λf=>Ya,trivial⟩ ?_;refine UD.effK 0 [[false,false]] rfl rfl rfl Ye rfl rfl rfl ⟨λf=>⟨KOk.bcallAs .k (λB=>(rNumW ha Yn _ H).b) (λ_=>rfl) (λ_=>rfl),Yj⟩,trivial⟩ ?_;refine UD.popK [[true,false],[false,false]] rfl Ye rfl rfl rfl ⟨λf=>Yf,λf=>Yf,trivial⟩ ?_;refine UD.popK [[true,false],[false,false]] rfl Ye rfl rfl rfl ⟨λf=>Ya,λf=>Ya,trivial⟩ ?_;refine UD.effK 1 [[true,false]] rfl rfl rfl Ye rfl rfl rfl ⟨λf=>⟨KOk.bcallAs .k (λB=>(rNumsW (l:=x.path) Yc hp2 Yn _ H).b) (λ_=>rfl) (λ_=>rfl),Yj⟩,trivial⟩ ?_;refine UD.popK [[true,true],[true,false],[false,false]] rfl Ye rfl rfl rfl ⟨λf=>Yf,λf=>Yf,λf=>Yf,trivial⟩ ?_;refine UD.popK [[true,true],[true,false],[false,false]] rfl Ye rfl rfl rfl ⟨λf=>Ya,λf=>Ya,λf=>Ya,trivial⟩ ?_;refine UD.nil (λf=>?_);simp only[kvals,List.map_cons,List.map_nil,List.cons_append,List.nil_append];refine Z1 ?_;refine bC .k ((rIntW hz Yn _ H).b) ?_;rintro _ _ ⟨v9,rfl,rfl⟩;refine Z3 ?_;exact cj ⟨v9,by rw[e3]⟩
    ·simp_all
   ·refine Z5 ?_;refine cd (λh3=>?_) λh3=>?_
    ·obtain⟨ha,hp1,hp2⟩:=hat Yc;have e:=leaf_num x.op x.arg x.path x.cls x.n (.inr h3);rw[e] at hb1 ⊢;simp only[List.length_append] at hb1;have hz:=hnz (.inr h3);have e3:out++numI x.op++(numI x.arg++listW numI x.path++intW x.n)=out++numI x.op++numI x.arg++listW numI x.path++intW x.n:=by simp only[List.append_assoc]
     refine CW.dp mixed ?_;refine DP.anyK (X:=noX) [⟨3,31,false⟩,⟨6,34,false⟩] (λJ=>match J with | [some w,none]=>.own 5 1 w::H | [_,some w]=>.own 5 1 w::H | _=>.own 5 1 v1::H) (λq J=>match q,J with | 0,[some w,_]=>.as (u8s (out++numI x.op++numI x.arg)) w | 1,[_,some w]=>.as (u8s (out++numI x.op++numI x.arg++listW numI x.path)) w | _,_=>.any) 0 9 50 rfl Ye Ye rfl rfl Ye rfl (λ_ _ _ _ _ _ _ _ _ h=>h.elim) ?_;refine UD.popK [[false,false]] rfl Ye rfl rfl rfl ⟨λf=>POp.move rfl rfl rfl,trivial⟩ ?_;refine UD.popK [[false,false]] rfl Ye rfl rfl rfl ⟨λf=>Yf,trivial⟩ ?_;refine UD.popK [[false,false]] rfl Ye rfl rfl rfl ⟨λf=>Ya,trivial⟩ ?_;refine UD.effK 0 [[false,false]] rfl rfl rfl Ye rfl rfl rfl ⟨λf=>⟨KOk.bcallAs .k (λB=>(rNumW ha Yn _ H).b) (λ_=>rfl) (λ_=>rfl),Yj⟩,trivial⟩ ?_;refine UD.popK [[true,false],[false,false]] rfl Ye rfl rfl rfl ⟨λf=>Yf,λf=>Yf,trivial⟩ ?_;refine UD.popK [[true,false],[false,false]] rfl Ye rfl rfl rfl ⟨λf=>Ya,λf=>Ya,trivial⟩ ?_;refine UD.effK 1 [[true,false]] rfl rfl rfl Ye rfl rfl rfl ⟨λf=>⟨KOk.bcallAs .k (λB=>(rNumsW (l:=x.path) Yc hp2 Yn _ H).b) (λ_=>rfl) (λ_=>rfl),Yj⟩,trivial⟩ ?_;refine UD.popK [[true,true],[true,false],[false,false]] rfl Ye rfl rfl rfl ⟨λf=>Yf,λf=>Yf,λf=>Yf,trivial⟩ ?_;refine UD.popK [[true,true],[true,false],[false,false]] rfl Ye rfl rfl rfl ⟨λf=>Ya,λf=>Ya,λf=>Ya,trivial⟩ ?_;refine UD.nil (λf=>?_);simp only[kvals,List.map_cons,List.map_nil,List.cons_append,List.nil_append];refine Z1 ?_;refine bC .k ((rIntW hz Yn _ H).b) ?_;rintro _ _ ⟨v9,rfl,rfl⟩;refine Z3 ?_;exact cj ⟨v9,by rw[e3]⟩
    ·have e:=leaf_no x.op x.arg x.path x.cls x.n h0 Yc;rw[e];refine Z2 ?_;exact cj ⟨v1,by rw[List.append_nil]⟩
 ·rintro _ ⟨v',rfl⟩;refine Z10 ?_;refine CW.boundM (t:=39) rfl (λhb39=>?_);refine lj (λm st=>∃(i:Nat) (v':Value),st=⟨[(41,.i i),(40,.i x.kids.length),(39,AV.facts x.kids),(0,.as (u8s (out++numI x.op++leafW x.op x.arg x.path x.cls x.n++(x.kids.take i).flatMap factW)) v')],.own 5 1 v'::H⟩/\m=x.kids.length - i/\i<=x.kids.length) (⟨0,v',Yv,rfl,Yc⟩) ?_;rintro m _ ⟨i,v',rfl,rfl,hi⟩;refine Z6 ?_;refine cd (λh4=>?_) λh4=>?_
  ·have hil:i<x.kids.length:=by omega
   have hkm:=getD_memB hil;have hfl:=flat_take_len factW x.kids (i+1);rw[flat_take factW hil,List.length_append] at hfl;refine Z8 ?_;refine OL.alC rfl rfl rfl rfl (λkb=>?_);refine Z3 ?_;refine CW.freezeP (d:=6) rfl Yl ?_;refine Z3 ?_;refine bC .k ((ih _ hkm (hF.kids _ hkm) Yn _ H).b) ?_;rintro _ _ ⟨v2,rfl,rfl⟩;refine Z8 ?_;exact ag (⟨i+1,v2,by rw[flat_take factW hil, <-List.append_assoc],rfl,hil⟩)
  ·obtain rfl:i=x.kids.length:=by omega
   rw[List.take_length];refine Z12 ?_;refine r1 4 (.own 5 1 v'::H) ?_;exact⟨v',by rw[factW_eq];simp only[List.append_assoc];rfl,rfl⟩
theorem rFactW:∀(x:Fact),okF x->∀{out:List U8} (hb:out.length+(factW x).length<=1000000000) (v:Value) (H:List Ent),ACall Tryz.prog 188 [.as (u8s out) v,AV.fact x] (.own 5 1 v::H) (λy H'=>∃v',y= .as (u8s (out++factW x)) v'/\H'= .own 5 1 v'::H) (λ_ _=>False):=Fact.ind1 λx ih hx=>rFactW_step x hx λk hk=>ih k hk
theorem class1(h1:okN x.1)(h2:okZ x.2)(wb:Nat){out:List U8}(hb:out.length+(initW x).length<=1000000000)(v:Value)(H:List Ent):ACall Tryz.prog 183 [.agg (initA x),.ptr [.p wb 0]] (wrE wb (out) v H) (λ_ H'=>∃v',H'=wrE wb (out++initW x) v' H) (λ_ _=>False):=by
 refine aC (n:=11) Tryz.func183 λB I w0=>?_;simp only[initW,List.length_append] at hb;refine Z10 ?_;refine bC .k ((numberC h1 wb Yc _ H).b) ?_;rintro y _ ⟨v1,rfl⟩;refine Z6 ?_;refine bC .k ((integerC h2 wb Yak _ H).b) ?_;rintro y _ ⟨v2,rfl⟩;refine Z1 ?_;refine nR [] (wrE wb (out++numI x.1++intW x.2) v2 H) ?_;exact⟨v2,by rw[initW,List.append_assoc]⟩
theorem classC{c:Cls}(hc:okC c)(wb:Nat){out:List U8}(hb:out.length+(clsW c).length<=1000000000)(v:Value)(H:List Ent):ACall Tryz.prog 119 [.p wb 0,AV.cls c] (wrE wb (out) v H) (λ_ H'=>∃v',H'=wrE wb (out++clsW c) v' H) (λ_ _=>False):=by
 refine aC (n:=20) Tryz.func119 λB I w0=>?_;have h1:=hc.pl;have h2:=hc.sl;have h3:=hc.il;simp only[clsW,List.length_append] at hb;refine Z13 ?_;refine bC .k ((writtenI (f:=numI) (l:=c.parents) Yc (WrOk.fn (λx hx o u hu=>numberC (hc.ps x hx) wb hu u H)) Yc _).b) ?_;rintro y _ ⟨v1,rfl⟩;refine Z8 ?_;refine bC .k ((numberC (n:=c.slots.length) ⟨Yc,Yc⟩ wb (by have e:(numI (c.slots.length:Int)).length=(numW c.slots.length).length:=rfl;rw[List.length_append];omega) _ H).b) ?_;rintro y _ ⟨v2,rfl⟩;refine Z7 ?_;refine bC .k ((writtenN (f:=initW) (l:=c.inits) Yc (WrOk.fn (λx hx o u hu=>class1 (hc.is x hx).1 (hc.is x hx).2 wb hu u H)) (by simp only[List.length_append];have e:(numI (c.slots.length:Int)).length=(numW c.slots.length).length:=rfl;omega) _).b) ?_;rintro y _ ⟨v3,rfl⟩;refine Z1 ?_;refine nR [] (wrE wb (out++listW numI c.parents++numW c.slots.length++listW initW c.inits) v3 H) ?_;exact⟨v3,by rw[clsW];simp only[List.append_assoc]⟩
theorem fact_step(f:Fact)(ih:∀k∈f.kids,okF k->∀(wb:Nat) {out:List U8},out.length+(factW k).length<=1000000000->∀(v:Value) (H:List Ent),ACall Tryz.prog 185 [.p wb 0,AV.fact k] (wrE wb (out) v H) (λ_ H'=>∃v',H'=wrE wb (out++factW k) v' H) (λ_ _=>False))(hf0:okF f)(wb:Nat){out:List U8}(hb:out.length+(factW f).length<=1000000000)(v:Value)(H:List Ent):ACall Tryz.prog 185 [.p wb 0,AV.fact f] (wrE wb (out) v H) (λ_ H'=>∃v',H'=wrE wb (out++factW f) v' H) (λ_ _=>False):=by
 refine aC (n:=50) Tryz.func185 λB I w0=>?_;have hf:=okF_iff hf0;rw[factW_eq f] at hb;simp only[List.length_append] at hb;refine Z10 ?_;refine bC .k ((numberC hf.op wb Yc _ H).b) ?_;rintro y _ ⟨v1,rfl⟩;refine Z2 ?_;refine CW.cutJ (λst=>∃v2,st=⟨[(3,.ptr (Fcells f)),(0,.p wb 0)],wrE wb (out++numI f.op++leafW f.op f.arg f.path f.cls f.n) v2 H⟩) ?_ ?_
 ·refine Z12 ?_;refine CW.cond rfl (λh0=>?_) (λh0=>?_)
  ·have hop:2<=f.op/\f.op<=4:=by simpa using h0
   obtain⟨ha1,ha2,ha3⟩:=hf.at_ hop;have hlf:(numI f.arg).length+(listW numI f.path).length+(if f.op=2 then numI f.cls else intW f.n).length=(leafW f.op f.arg f.path f.cls f.n).length:=by
    unfold leafW;by_cases e2:f.op=2
    ·rw[if_pos e2,if_pos e2];simp only[List.length_append]
    ·rw[if_neg e2,if_neg e2,if_pos Yc];simp only[List.length_append]
   refine Z5 ?_;refine bC .k ((numberC ha1 wb Yak _ H).b) ?_;rintro y _ ⟨v3,rfl⟩;refine Z9 ?_;refine bC .k ((writtenI (f:=numI) Yc (WrOk.fn (λx hx o u hu=>numberC (ha3 x hx) wb hu u H)) Yn _).b) ?_;rintro y _ ⟨v4,rfl⟩;refine Z9 ?_;refine cd (λh1=>?_) λh1=>?_
   ·rw[if_pos h1] at hlf;refine Z4 ?_;refine bC .k ((numberC (hf.cls h1) wb Yn _ H).b) ?_;rintro y _ ⟨v5,rfl⟩;refine Z1 ?_;rw[show out++numI f.op++numI f.arg++listW numI f.path++numI f.cls=out++numI f.op++leafW f.op f.arg f.path f.cls f.n from by rw[leafW,if_pos h1];simp only[List.append_assoc,List.append_nil]];exact cj ⟨_,rfl⟩
   ·rw[if_neg h1] at hlf;refine Z4 ?_;refine bC .k ((integerC (hf.n Yc) wb Yn _ H).b) ?_;rintro y _ ⟨v6,rfl⟩;refine Z1 ?_;rw[show out++numI f.op++numI f.arg++listW numI f.path++intW f.n=out++numI f.op++leafW f.op f.arg f.path f.cls f.n from by rw[leafW,if_neg h1,if_pos Yc];simp only[List.append_assoc,List.append_nil]];exact cj ⟨_,rfl⟩
  ·have hop: ¬(2<=f.op/\f.op<=4):=by simpa using h0
   refine Z1 ?_;have e:leafW f.op f.arg f.path f.cls f.n= []:=by rw[leafW,if_neg Yc,if_neg Yc]
   rw[e,List.append_nil];exact cj ⟨_,rfl⟩
 ·rintro _ ⟨v2,rfl⟩;refine Z9 ?_;refine CW.boundM (t:=40) rfl (λhb40=>?_);refine lj (λm st=>∃(i:Nat) (v':Value),st=⟨[(42,.i i),(41,.i f.kids.length),(40,AV.facts f.kids),(0,.p wb 0)],wrE wb (out++numI f.op++leafW f.op f.arg f.path f.cls f.n++(f.kids.take i).flatMap factW) v' H⟩/\m=f.kids.length - i/\i<=f.kids.length) (⟨0,v2,Yv,rfl,Yc⟩) ?_;rintro m _ ⟨i,v',rfl,rfl,hi⟩;refine Z6 ?_;refine cd (λh2=>?_) λh2=>?_
  ·have hil:i<f.kids.length:=by omega
   have hkm:=getD_memB hil;have hfl:=flat_take_len factW f.kids (i+1);rw[flat_take factW hil,List.length_append] at hfl;refine Z8 ?_;refine OL.alC rfl rfl rfl rfl (λb0=>?_);refine Z3 ?_;refine CW.freezeP (d:=5) rfl Yl ?_;refine Z3 ?_;refine bC .k ((ih _ hkm (hf.kids _ hkm) wb Yn _ H).b) ?_;rintro y _ ⟨v7,rfl⟩;refine Z7 ?_;exact ag (⟨i+1,v7,by rw[flat_take factW hil, <-List.append_assoc],rfl,hil⟩)
  ·obtain rfl:i=f.kids.length:=by omega
   rw[List.take_length];refine Z4 ?_;refine nR [] (wrE wb (out++numI f.op++leafW f.op f.arg f.path f.cls f.n++f.kids.flatMap factW) v' H) ?_;exact⟨v',by rw[factW_eq f];simp only[List.append_assoc]⟩
theorem factC:∀(f:Fact),okF f->∀(wb:Nat) {out:List U8},out.length+(factW f).length<=1000000000->∀(v:Value) (H:List Ent),ACall Tryz.prog 185 [.p wb 0,AV.fact f] (wrE wb (out) v H) (λ_ H'=>∃v',H'=wrE wb (out++factW f) v' H) (λ_ _=>False):=Fact.ind1 fact_step
theorem methodC{x:Mth}(hx:okM x)(wb:Nat){out:List U8}(hb:out.length+(mthW x).length<=1000000000)(v:Value)(H:List Ent):ACall Tryz.prog 123 [.p wb 0,.agg (mthA x)] (wrE wb (out) v H) (λ_ H'=>∃v',H'=wrE wb (out++mthW x) v' H) (λ_ _=>False):=by
 refine aC (n:=20) Tryz.func123 λB I w0=>?_;simp only[mthW,List.length_append] at hb;refine Z10 ?_;refine bC .k ((numberC hx.kind wb Yc _ H).b) ?_;rintro y _ ⟨v1,rfl⟩;refine Z7 ?_;refine bC .k ((numberC hx.gen wb Yn _ H).b) ?_;rintro y _ ⟨v2,rfl⟩;refine Z7 ?_;refine bC .k ((factC x.fact hx.fact wb Yn _ H).b) ?_;rintro y _ ⟨v3,rfl⟩;refine Z6 ?_;refine bC .k ((numberC hx.node wb Yn _ H).b) ?_;rintro y _ ⟨v4,rfl⟩;refine Z1 ?_;refine nR [] (wrE wb (out++numI x.kind++numI x.gen++factW x.fact++numI x.node) v4 H) ?_;exact⟨v4,by rw[mthW];simp only[List.append_assoc]⟩
theorem sIndexO(l:List Int)(v:Int):PCall Tryz.prog 220 [AV.ints l,.i v] (.i (idxB l v)):=by
 intro H;refine aC (n:=19) Tryz.func220 λB I w0=>?_;refine CW.boundM (t:=0) rfl (λhb0=>?_);refine Z14 ?_;refine lj (λm st=>∃k:Nat,st=⟨[(8,.i k),(7,.i l.length),(0,AV.ints l),(1,.i v)],H⟩/\m=l.length - k/\k<=l.length/\∀x∈l.take k,x≠v) (⟨0,rfl,rfl,Yx,Yx⟩) ?_;rintro m _ ⟨k,rfl,rfl,hk,hp⟩;refine Z6 ?_;refine cd (λh0=>?_) λh0=>?_
 ·refine Z20 ?_;refine cd (λh1=>?_) λh1=>?_
  ·refine Z12 ?_;refine r1 4 (H) ?_;exact⟨retI (idxB_at Yc hp h1),rfl⟩
  ·refine Z7 ?_;exact ag (⟨k+1,rfl,rfl,Yc,ne_step Yc hp h1⟩)
 ·refine Z11 ?_;refine r1 4 (H) ?_;exact⟨retI (idxB_none Y7),rfl⟩
theorem sContainsO(l:List Int)(v:Int):PCall Tryz.prog 191 [AV.ints l,.i v] (.b (l.contains v)):=by
 intro H;refine aC (n:=9) Tryz.func191 λB I w0=>?_;refine Z9 ?_;refine oP (POp.call .k ((sIndexO _ _))) ?_;refine Z5 ?_;refine r1 4 (H) ?_;exact⟨retB (idxB_contains _ _),rfl⟩
theorem numberedC(op:Int):PCall Tryz.prog 142 [.i op] (.b (nodeNum op)):=by
 intro H;refine aC (n:=6) Tryz.func142 λB I w0=>?_;refine Z7 ?_;refine oP (POp.row rfl rfl Yh rfl rfl rfl rfl rfl rfl) ?_;refine Z1 ?_;refine oP (POp.call .k (sContainsO [3,4,5,6,7,8] op)) ?_;refine Z4 ?_;refine r1 2 (H) ?_;exact⟨Yaw,rfl⟩
theorem nodeC{x:Nd}(hx:okNd x)(wb:Nat){out:List U8}(hb:out.length+(ndW x).length<=1000000000)(v:Value)(H:List Ent):ACall Tryz.prog 125 [.p wb 0,AV.nd x] (wrE wb (out) v H) (λ_ H'=>∃v',H'=wrE wb (out++ndW x) v' H) (λ_ _=>False):=by
 refine aC (n:=37) Tryz.func125 λB I w0=>?_;have hkl:=hx.kl;simp only[ndW,List.length_append] at hb;refine Z10 ?_;refine bC .k ((numberC hx.op wb Yc _ H).b) ?_;rintro y _ ⟨v1,rfl⟩;refine Z2 ?_;refine CW.cutJ (λst=>∃v2,st=⟨[(3,.ptr (ndA x)),(0,.p wb 0)],wrE wb (out++numI x.op++ndN x) v2 H⟩) ?_ ?_
 ·refine Z9 ?_;refine cd (λh0=>?_) λh0=>?_
  ·have e:ndN x=intW x.n:=by rw[ndN,if_pos h0]
   rw[e] at hb ⊢;refine Z4 ?_;refine bC .k ((integerC (hx.i h0) wb Yak _ H).b) ?_;rintro y _ ⟨v3,rfl⟩;refine Z2 ?_;exact cj ⟨v3,rfl⟩
  ·refine Z4 ?_;refine oP (POp.call .k ((numberedC _))) ?_;refine Z3 ?_;refine cd (λh1=>?_) λh1=>?_
   ·have e:ndN x=numI x.n:=by rw[ndN,if_neg h0,if_pos h1]
    rw[e] at hb ⊢;refine Z4 ?_;refine bC .k ((numberC (hx.n h1) wb Yak _ H).b) ?_;rintro y _ ⟨v4,rfl⟩;refine Z2 ?_;exact cj ⟨v4,rfl⟩
   ·have e:ndN x= []:=by rw[ndN,if_neg h0,if_neg (by rw[h1];simp)]
    rw[e,List.append_nil];refine Z2 ?_;exact cj ⟨v1,rfl⟩
 ·rintro _ ⟨v2,rfl⟩;refine Z9 ?_;refine lj (λm st=>∃(i:Nat) (v':Value),st=⟨[(29,.i i),(28,.i x.kids.length),(27,AV.ints x.kids),(0,.p wb 0)],wrE wb (out++numI x.op++ndN x++(x.kids.take i).flatMap numI) v' H⟩/\m=x.kids.length - i/\i<=x.kids.length) (⟨0,v2,Yv,rfl,Yc⟩) ?_;rintro m _ ⟨i,v',rfl,rfl,hi⟩;refine Z6 ?_;refine cd (λh2=>?_) λh2=>?_
  ·have hil:i<x.kids.length:=by omega
   have hfl:=flat_take_len numI x.kids (i+1);rw[flat_take numI hil,List.length_append] at hfl;refine Z14 ?_;refine bC .k ((numberC (hx.kids _ (getD_memB hil)) wb Yn _ H).b) ?_;rintro y _ ⟨v7,rfl⟩;refine Z7 ?_;exact ag (⟨i+1,v7,by rw[flat_take numI hil, <-List.append_assoc],rfl,hil⟩)
  ·obtain rfl:i=x.kids.length:=by omega
   rw[List.take_length];refine Z4 ?_;refine nR [] (wrE wb (out++numI x.op++ndN x++x.kids.flatMap numI) v' H) ?_;exact⟨v',by rw[ndW];simp only[List.append_assoc]⟩
theorem programC{p:Prog}(hp:okP p)(wb:Nat){out:List U8}(hb:out.length+(progW p).length<=1000000000)(v:Value)(H:List Ent):ACall Tryz.prog 61 [.p wb 0,AV.prog p] (wrE wb (out) v H) (λ_ H'=>∃v',H'=wrE wb (out++progW p) v' H) (λ_ _=>False):=by
 refine aC (n:=32) Tryz.func61 λB I w0=>?_;have h1:=hp.cl;have h2:=hp.gl;have h3:=hp.ml;have h4:=hp.nl;simp only[progW,List.length_append] at hb;refine Z12 ?_;refine bC .k ((writtenC (f:=clsW) (l:=p.classes) Yc (WrOk.fn (λx hx o u hu=>classC (hp.cs x hx) wb hu u H)) Yc _).b) ?_;rintro y _ ⟨v1,rfl⟩;refine Z9 ?_;refine bC .k ((writtenI (f:=numI) (l:=p.gens) Yc (WrOk.fn (λx hx o u hu=>numberC (hp.gs x hx) wb hu u H)) Yn _).b) ?_;rintro y _ ⟨v2,rfl⟩;refine Z9 ?_;refine bC .k ((writtenM (f:=mthW) (l:=p.methods) Yc (WrOk.fn (λx hx o u hu=>methodC (hp.ms x hx) wb hu u H)) Yn _).b) ?_;rintro y _ ⟨v3,rfl⟩;refine Z9 ?_;refine bC .k ((writtenD (f:=ndW) (l:=p.nodes) Yc (WrOk.fn (λx hx o u hu=>nodeC (hp.ns x hx) wb hu u H)) Yn _).b) ?_;rintro y _ ⟨v4,rfl⟩;refine Z6 ?_;refine bC .k ((numberC hp.main wb Yn _ H).b) ?_;rintro y _ ⟨v5,rfl⟩;refine Z1 ?_;refine nR [] (wrE wb (out++listW clsW p.classes++listW numI p.gens++listW mthW p.methods++listW ndW p.nodes++numI p.main) v5 H) ?_;exact⟨v5,by rw[progW];simp only[List.append_assoc]⟩
theorem valueW(hx:okVal x)(wb:Nat){out:List U8}(hb:out.length+(valW x).length<=1000000000)(v:Value)(H:List Ent):ACall Tryz.prog 126 [.p wb 0,AV.mv x] (wrE wb (out) v H) (λ_ H'=>∃v',H'=wrE wb (out++valW x) v' H) (λ_ _=>False):=by
 refine aC (n:=22) Tryz.func126 λB I w0=>?_;simp only[valW,List.length_append] at hb;refine Z10 ?_;refine bC .k ((numberC hx.k wb Yc _ H).b) ?_;rintro y _ ⟨v1,rfl⟩;refine Z15 ?_;refine cd (λh0=>?_) λh0=>?_
 ·rw[if_pos h0] at hb;refine Z4 ?_;refine bC .k ((integerC (hx.i h0) wb Yak _ H).b) ?_;rintro y _ ⟨v2,rfl⟩;refine Z2 ?_;refine nR [] (wrE wb (out++numI x.1++intW x.2) v2 H) ?_;exact⟨v2,by rw[valW,if_pos h0,List.append_assoc]⟩
 ·refine Z6 ?_;refine cd (λh1=>?_) λh1=>?_
  ·rw[if_neg h0,if_pos h1] at hb;refine Z4 ?_;refine bC .k ((numberC (hx.n h1) wb Yak _ H).b) ?_;rintro y _ ⟨v3,rfl⟩;refine Z2 ?_;refine nR [] (wrE wb (out++numI x.1++numI x.2) v3 H) ?_;exact⟨v3,by rw[valW,if_neg h0,if_pos h1,List.append_assoc]⟩
  ·refine Z2 ?_;refine nR [] (wrE wb (out++numI x.1) v1 H) ?_;exact⟨v1,by rw[valW,if_neg h0,if_neg h1,List.append_nil]⟩
theorem objectC{x:Th}(hx:okT x)(wb:Nat){out:List U8}(hb:out.length+(thW x).length<=1000000000)(v:Value)(H:List Ent):ACall Tryz.prog 64 [.p wb 0,.agg (thA x)] (wrE wb (out) v H) (λ_ H'=>∃v',H'=wrE wb (out++thW x) v' H) (λ_ _=>False):=by
 refine aC (n:=21) Tryz.func64 λB I w0=>?_;have hvl:=hx.vl;simp only[thW,List.length_append] at hb;refine Z10 ?_;refine bC .k ((numberC hx.cls wb Yc _ H).b) ?_;rintro y _ ⟨v1,rfl⟩;refine Z11 ?_;refine lj (λm st=>∃(i:Nat) (v':Value),st=⟨[(13,.i i),(12,.i x.slots.length),(11,AV.mvs x.slots),(0,.p wb 0)],wrE wb (out++numI x.cls++(x.slots.take i).flatMap valW) v' H⟩/\m=x.slots.length - i/\i<=x.slots.length) (⟨0,v1,Yv,rfl,Yc⟩) ?_;rintro m _ ⟨i,v',rfl,rfl,hi⟩;refine Z6 ?_;refine cd (λh0=>?_) λh0=>?_
 ·have hil:i<x.slots.length:=by omega
  have hfl:=flat_take_len valW x.slots (i+1);rw[flat_take valW hil,List.length_append] at hfl;refine Z8 ?_;refine OL.alC rfl rfl rfl rfl (λb0=>?_);refine Z3 ?_;refine CW.freezeP (d:=5) rfl Yl ?_;refine Z3 ?_;refine bC .k ((valueW (hx.vs _ (getD_memB hil)) wb Yn _ H).b) ?_;rintro y _ ⟨v7,rfl⟩;refine Z7 ?_;exact ag (⟨i+1,v7,by rw[flat_take valW hil, <-List.append_assoc],rfl,hil⟩)
 ·obtain rfl:i=x.slots.length:=by omega
  rw[List.take_length];refine Z4 ?_;refine nR [] (wrE wb (out++numI x.cls++x.slots.flatMap valW) v' H) ?_;exact⟨v',by rw[thW];simp only[List.append_assoc]⟩
end Go.Proofs.YtpgnjlngepfanaaGreat

namespace Go.Proofs.YtpgnjlngepfanaaGreat
open Go.Eng
open Go.Eng.Fc
open Go.Eng.Bd
open Go.Eng.Im (U8 u8 u8s sumR sumP sumStep)
open Go.Eng.Im
theorem wr_swap(a b:Nat)(o o':List U8)(v v':Value)(H:List Ent):(wrE a o v (wrE b o' v' H)).Perm (wrE b o' v' (wrE a o v H)):=List.perm_append_comm_assoc [_,_] [_,_] H
theorem sumC(k:U8)(l:List U8)(hl:l.length<140737488355328):PCall Tryz.prog 117 [.i k.val,u8s l] (u8s (sumR k l)):=by
 intro H;refine aC (n:=40) Tryz.func117 λB I w0=>?_;have hlen:(k::l).length=l.length+1:=rfl;refine Z15 ?_;refine oP (POp.cv rfl rfl rfl (u8_wrap8 k)) ?_;refine OL.rowOwn (els:=[[u8 k]]) rfl rfl rfl rfl Yh rfl rfl rfl rfl rfl rfl rfl (λv11=>?_);refine Z1 ?_;refine OL.appendC rfl rfl rfl rfl rfl rfl rfl rfl (AVle.refl _) (one_map (λ_=>rfl) l) (λv=>by repeat (first | exact Upd.head _ _ _ | apply Upd.tail)) YC YC (λv13=>?_);refine OL.le 13 (y:=u8s (k::l)) rfl (AVle.asL _ _) ?_;refine Z5 ?_;refine lj (λm st=>∃j:Nat,st=⟨[(15,.i j),(14,.i (k::l).length),(13,u8s (k::l)),(5,.i (sumP ((k::l).take j)).1),(6,.i (sumP ((k::l).take j)).2)],H⟩/\m=(k::l).length - j/\j<=(k::l).length) (⟨0,rfl,rfl,Nat.zero_le _⟩) ?_;rintro m _ ⟨j,rfl,rfl,hj⟩;obtain⟨hb1,hb2⟩:=sumP_lt ((k::l).take j);refine Z6 ?_;refine cd (λh0=>?_) λh0=>?_
 ·have hj':j<(k::l).length:=Int.ofNat_lt.1 h0;obtain⟨x,hx⟩:∃x,x=(k::l).getD j default:=⟨_,rfl⟩;have hst:=sumP_step hj';rw[<-hx] at hst;have hxl:=x.isLt;refine Z12 ?_;rw[<-hx];refine Z3 ?_;refine oP (POp.cv rfl rfl rfl (wrap64 Yc)) ?_;refine Z1 ?_;refine oP (POp.div rfl rfl rfl rfl rfl YL (.inr ⟨rfl,tm_sum _ _⟩)) ?_;refine Z7 ?_;refine oP (POp.div rfl rfl rfl rfl rfl YL (.inr ⟨rfl,tm_sum _ _⟩)) ?_;refine Z8 ?_;exact ag (⟨j+1,by rw[hst],rfl,hj'⟩)
 ·obtain rfl:j=(k::l).length:=by omega
  rw[List.take_length] at hb1 hb2 ⊢;refine Z8 ?_;refine oP (POp.shift rfl rfl rfl rfl rfl YL (shr8 _)) ?_;refine oP (POp.cv rfl rfl rfl (u8_wrap _)) ?_;refine Z1 ?_;refine oP (POp.cv rfl rfl rfl (u8_wrap _)) ?_;refine Z1 ?_;refine oP (POp.shift rfl rfl rfl rfl rfl YL (shr8 _)) ?_;refine oP (POp.cv rfl rfl rfl (u8_wrap _)) ?_;refine Z1 ?_;refine oP (POp.cv rfl rfl rfl (u8_wrap _)) ?_;refine oP (POp.row rfl rfl Yh rfl rfl rfl rfl rfl rfl) ?_;refine Z4 ?_;refine r1 4 (H) ?_;exact⟨Yi,rfl⟩
theorem eqBytes(l r:List U8):PCall Tryz.prog 87 [u8s l,u8s r] (.b (l==r)):=by
 intro H;refine aC (n:=10) Tryz.func87 λB I w0=>?_;refine Z8 ?_;refine oP (POp.bytesStr (ns:=l.map λx=>(x.val:Int)) rfl YaT rfl Yg) ?_;refine Z1 ?_;refine oP (POp.bytesStr (ns:=r.map λx=>(x.val:Int)) rfl YaT rfl Yg) ?_;refine oP (POp.eqS rfl rfl rfl rfl rfl) ?_;refine Z4 ?_;refine r1 4 (H) ?_;exact⟨retB (strOf_eq l r),rfl⟩
theorem one_flat(l:List U8):listW (λx=>[x]) l=numW l.length++l:=by rw[listW];congr 1;simp
theorem secW_eq(out:List U8)(k:U8)(body:List U8):out++[k]++listW (λx=>[x]) body++sumR k body=out++secW k body:=by
 rw[one_flat,secW];simp only[List.append_assoc]
theorem sumR_len(k:U8)(l:List U8):(sumR k l).length=4:=rfl
theorem take_one{l:List U8}{i:Nat}(hi:i<l.length)(o:List U8):o++l.take i++[l.getD i default]=o++l.take (i+1):=by rw[List.append_assoc,take_getD hi]
theorem sectionC{g:Fn}{gs gc:List AV}(wb:Nat){out:List U8}(k:U8){body:List U8}{v:Value}{H:List Ent}(hb:out.length+(secW k body).length<=1000000000)
  (hin:∀B ib u,VCall B Tryz.prog (.fn g gs gc) [.p ib 0] (wrE ib [] u (wrE wb out v H)) (λ_ H'=>∃v',H'=wrE ib body v' (wrE wb out v H)) (λ_ _=>False)):ACall Tryz.prog 59 [.p wb 0,.i k.val,.fn g gs gc] (wrE wb (out) v H) (λ_ H'=>∃v',H'=wrE wb (out++secW k body) v' H) (λ_ _=>False):=by
 refine aC (n:=49) Tryz.func59 λB I w0=>?_;have hbs:out.length+(1+(numW body.length).length+body.length+4)<=1000000000:=by simp only[secW,List.length_append,sumR_len] at hb;exact hb
 refine Z3 ?_;refine OL.boxC rfl rfl rfl rfl rfl rfl rfl (λib=>?_);refine Z4 ?_;refine CW.ownNilB (b:=ib) (t:=99) 5 1 0 YK rfl rfl ?_;refine Z3 ?_;refine OL.vcallC rfl rfl rfl rfl rfl rfl rfl rfl (AVleL.refl _) (hin B ib _) ?_;rintro y _ ⟨v1,rfl⟩;refine Z3 ?_;refine CW.perm (wr_swap ib wb body out v1 v H) ?_;refine Z5 ?_;refine oP (POp.cv rfl rfl rfl (u8_wrap8 k)) ?_;refine bC .k ((putC wb k Yc _ (wrE ib body v1 H)).b) ?_;rintro y _ ⟨v2,rfl⟩;refine Z3 ?_;refine CW.dp mixed ?_;refine DP.anyC 0 10 49 rfl Ye rfl rfl Ye ?_;refine Z12 ?_;refine bC ((CallOk.mk' rfl rfl rfl rfl rfl).le (.cons (.refl _) (.cons (AVle.asL _ _) (.cons (.refl _) .nil)))) ((writtenB (f:=λx=>[x]) (l:=body) Yc (WrOk.fn (λx _ o u hu=>putC wb x hu u (wrE ib body v1 H))) (by rw[one_flat];simp only[List.length_append,List.length_singleton];omega) _).b) ?_;rintro y _ ⟨v3,rfl⟩;refine Z10 ?_;refine oP (POp.callLe .k (.cons (.refl _) (.cons (AVle.asL _ _) .nil)) (sumC k body Yc)) ?_;refine Z5 ?_;refine lj (λm st=>∃(i:Nat) (v':Value),st=⟨[(39,.i i),(38,.i (sumR k body).length),(37,u8s (sumR k body)),(0,.p wb 0)],wrE wb (out++[k]++listW (λx=>[x]) body++(sumR k body).take i) v' (wrE ib body v1 H)⟩/\m=4 - i/\i<=4) (⟨0,v3,by rw[List.take_zero,List.append_nil],rfl,Yc⟩) ?_;rintro m _ ⟨i,v',rfl,rfl,hi⟩;refine Z6 ?_;refine cd (λh0=>?_) λh0=>?_
 ·have hil:i<(sumR k body).length:=by rw[sumR_len] at h0 ⊢;omega
  have hi4:i<4:=hil;obtain⟨x,hx⟩:∃x,x=(sumR k body).getD i default:=⟨_,rfl⟩;have htk:=take_one hil (out++[k]++listW (λx=>[x]) body);rw[<-hx] at htk;refine Z11 ?_;rw[<-hx];refine Z5 ?_;refine bC .k ((putC wb x (by rw[one_flat];simp only[List.length_append,List.length_take,List.length_singleton,sumR_len];omega) _ (wrE ib body v1 H)).b) ?_;rintro y _ ⟨v5,rfl⟩;refine Z7 ?_;exact ag (⟨i+1,v5,by rw[<-htk],rfl,hi4⟩)
 ·obtain rfl:i=4:=by rw[sumR_len] at h0;omega
  rw[show (sumR k body).take 4=(sumR k body) from rfl,secW_eq];refine Z4 ?_;refine Done.norR (rs:=[]) (H':=wrE wb (out++secW k body) v' H) rfl (.nil) (AVleL.refl _) (by exact .cons_cons _ (.cons_cons _ (.cons _ (.cons _ (.refl _))))) ?_;exact⟨v',rfl⟩
theorem begunC(x:U8)(H:List Ent):ACall Tryz.prog 58 [u8 x] H (λy H'=>∃wb v,y= .p wb 0/\H'=wrE wb [67,x] v H) (λ_ _=>False):=by
 refine aC (n:=8) Tryz.func58 λB I w0=>?_;refine Z8 ?_;refine OL.rowOwn (els:=[[u8 67],[u8 x]]) rfl rfl rfl rfl Yh rfl rfl rfl rfl rfl rfl rfl (λv4=>?_);refine Z2 ?_;refine OL.boxC rfl rfl rfl rfl rfl rfl rfl (λwb=>?_);refine OL.perm (List.Perm.swap _ _ _) ?_;refine Z4 ?_;refine r1 2 (wrE wb [67,x] v4 H) ?_;exact⟨wb,v4,rfl,rfl⟩
end Go.Proofs.YtpgnjlngepfanaaGreat

namespace Go.Proofs.YtpgnjlngepfanaaGreat
open Go.Eng
open Go.Eng.Fc
open Go.Eng.Bd
open Go.Eng.Im (U8 u8 u8s sumR)
def imageP(p:Prog)(objs:List Th):List U8:=[67,79]++secW 1 (progW p)++secW 2 (listW thW objs)
def imageQ(p:Prog)(objs:List Th):List U8:=if checkP p objs then imageP p objs else []
theorem secW_len{k:U8}{b:List U8}(h:b.length<=100000000):(secW k b).length<=b.length+11:=by
 simp only[secW,List.length_append,sumR_len,List.length_singleton];have:=numW_len 5 b.length Yc;omega
structure okG(p:Prog)(objs:List Th):Prop where
 p:okP p
 ol:objs.length<=40
 os:∀t∈objs,okT t
theorem objs_len{l:List Th}(hl:l.length<=40)(h:∀t∈l,okT t):(listW thW l).length<=19500:=by
 have:=listW_len (f:=thW) (λt ht=>thW_len (h t ht)) hl YL;omega
theorem image1{p:Prog}(hp:okP p)(wb:Nat){out:List U8}(hb:out.length+(progW p).length<=1000000000)(v:Value)(H:List Ent):ACall Tryz.prog 60 [.p wb 0,.ptr (progC p)] (wrE wb (out) v H) (λ_ H'=>∃v',H'=wrE wb (out++progW p) v' H) (λ_ _=>False):=by
 refine aC (n:=6) Tryz.func60 λB I w0=>?_;refine Z3 ?_;refine bC .k ((programC hp wb hb _ H).b) ?_;rintro y _ ⟨v1,rfl⟩;refine Z1 ?_;refine nR [] (wrE wb (out++progW p) v1 H) ?_;exact⟨v1,rfl⟩
theorem image2{objs:List Th}(hl:objs.length<=40)(hp:∀t∈objs,okT t)(wb:Nat){out:List U8}(hb:out.length+(listW thW objs).length<=1000000000)(v:Value)(H:List Ent):ACall Tryz.prog 62 [.p wb 0,.ptr [AV.ths objs]] (wrE wb (out) v H) (λ_ H'=>∃v',H'=wrE wb (out++listW thW objs) v' H) (λ_ _=>False):=by
 refine aC (n:=8) Tryz.func62 λB I w0=>?_;refine Z5 ?_;refine bC .k ((writtenT (f:=thW) (l:=objs) Yc (WrOk.fn (λx hx o u hu=>objectC (hp x hx) wb hu u H)) hb _).b) ?_;rintro y _ ⟨v1,rfl⟩;refine Z1 ?_;refine nR [] (wrE wb (out++listW thW objs) v1 H) ?_;exact⟨v1,rfl⟩
theorem imageC{p:Prog}(hp:p.Small)(objs:List Th)(hok:checkP p objs=true->okG p objs):PCall Tryz.prog 15 [AV.prog p,AV.ths objs] (.tup [u8s (imageQ p objs),.i (if checkP p objs then 0 else 2)]):=by
 intro H;refine aC (n:=23) Tryz.func15 λB I w0=>?_;refine Z13 ?_;refine oP (POp.call .k (meanCheck hp objs)) ?_;refine Z3 ?_;refine CW.cond rfl (λh0=>?_) (λh0=>?_)
 ·have hc:checkP p objs=false:=by cases h:checkP p objs <;> simp_all
  refine Z8 ?_;refine Done.retR (rs:=[.tmp 4,.tmp 5]) (H':=H) rfl (.tmp rfl (.tmp rfl (.nil))) (.cons (AVle.nil 1) (.cons (.refl _) .nil)) Yb ?_;exact⟨by rw[imageQ,hc];rfl,rfl⟩
 ·have hc:checkP p objs=true:=by cases h:checkP p objs <;> simp_all
  have hg:=hok hc;have hl1:=progW_len hg.p;have hl2:=objs_len hg.ol hg.os;have hs1:=secW_len (k:=1) (b:=progW p) Yc;have hs2:=secW_len (k:=2) (b:=listW thW objs) Yc;refine Z4 ?_;refine bC .k ((begunC 79 H).b) ?_;rintro y _ ⟨wb,v0,rfl,rfl⟩;refine Z7 ?_;refine bC (.mk' rfl rfl rfl rfl rfl) ((sectionC wb 1 (body:=progW p) (by show 2+_<=_;omega) (λB ib u=>VCall.fn (image1 hg.p ib (by show 0+_<=_;omega) u _))).b) ?_;rintro y _ ⟨v1,rfl⟩;refine Z6 ?_;refine bC (.mk' rfl rfl rfl rfl rfl) ((sectionC wb 2 (body:=listW thW objs) (by simp only[List.length_append,List.length_cons,List.length_nil];omega) (λB ib u=>VCall.fn (image2 hg.ol hg.os ib (by show 0+_<=_;omega) u _))).b) ?_;rintro y _ ⟨v2,rfl⟩;refine Z14 ?_;refine Done.retR (rs:=[.tmp 4,.tmp 5]) (H':=H) rfl (.tmp rfl (.tmp rfl (.nil))) (.cons (AVle.asL _ _) (.cons (.refl _) .nil)) Yb ?_;exact⟨by rw[imageQ,hc];rfl,rfl⟩
theorem keyC{p:Prog}(hp:okP p):PCall Tryz.prog 88 [AV.prog p] (u8s (sumR 1 (progW p))):=by
 intro H;refine aC (n:=15) Tryz.func88 λB I w0=>?_;have hl1:=progW_len hp;refine Z9 ?_;refine OL.boxC rfl rfl rfl rfl rfl rfl rfl (λwb=>?_);refine Z4 ?_;refine CW.ownNilB (b:=wb) (t:=99) 5 1 0 YK rfl rfl ?_;refine Z3 ?_;refine bC (.mk' rfl rfl rfl rfl rfl) ((programC hp wb (out:=[]) (by show 0+_<=_;omega) _ H).b) ?_;rintro y _ ⟨v1,rfl⟩;refine Z9 ?_;refine oP (POp.callLe .k (.cons (.refl _) (.cons (AVle.asL _ _) .nil)) (sumC 1 (progW p) Yc)) ?_;refine Z4 ?_;refine r1 2 (H) ?_;exact⟨Yaw,rfl⟩
end Go.Proofs.YtpgnjlngepfanaaGreat

namespace Go.Proofs.YtpgnjlngepfanaaGreat
open Go.Eng
open Go.Eng.Im
open Go.Eng.Fc
open Go.Eng.Bd
open Go.Eng.Im (U8 u8 u8s sumR)
variable{B tb:Nat}{l:List U8}{I0:Imm}{w0 w:World}{env:List (Nat×AV)}{x:Bool}{H:List Ent}{a:Act}{Φ E:AV->List Ent->Prop}{gs gc:List AV}
theorem q152(rb:Nat):PCall Tryz.prog 152 [.p rb 0] (.fn (.func 209) [] [.ptr [.p rb 0]]):=by
 intro H;refine aC (n:=4) Tryz.func152 λB I w0=>?_;refine Z13 ?_;refine r1 2 (H) ?_;exact⟨Yi,rfl⟩
theorem c209(l:List U8)(hl:l.length<140737488355328)(rb:Nat){g:Fn}{gs gc:List AV}{J Jx:List Sec->List Ent->Prop}(hg:CbOk B Tryz.prog (.fn g gs gc) secA (secsOf l).1 (λ_=>True) J Jx)(H Hx:List Ent)(hJ:J [] H):
  BCall B Tryz.prog 209 [.fn g gs gc,.ptr [.p rb 0]] (H++([rdr rb l]++Hx)) (λ_ H'=>∃H1 Hs',H'=H1++(Hs'++Hx)/\(((secsOf l).2=true/\J (secsOf l).1 H1)\/∃pre,pre<+:(secsOf l).1/\Jx pre H1))
   (λy H'=>∃H1 Hs',H'=H1++(Hs'++Hx)/\((secsOf l).2=false/\y=wrongA)/\J (secsOf l).1 H1):=by
 refine BCall.of (n:=35) Tryz.func209 rfl Yg rfl rfl (λI w0=>?_);refine CW.perm (H':=rdr rb l::(H++Hx)) List.perm_middle ?_;refine Z1 ?_;refine lj (λm st=>∃(pre:List Sec) (l':List U8) (H1:List Ent),st=⟨[(0,.fn g gs gc),(1,.ptr [.p rb 0])],rdr rb l'::(H1++Hx)⟩/\m=l'.length/\J pre H1/\SecAt l pre l') (⟨[],l,H,rfl,rfl,hJ,.begin l⟩) ?_;rintro m _ ⟨pre,l',H1,rfl,rfl,hJ1,hA⟩;refine Z11 ?_;refine cd (λh0=>?_) λh0=>?_
 ·obtain⟨k,r,rfl⟩:∃k r,l'=k::r:=by cases l' with | nil=>simp at h0 | cons k r=>exact⟨k,r,rfl⟩
  have hkl:=k.isLt;have hlen:=hA.len;simp only[List.length_cons] at hlen;refine Z6 ?_
  ·refine OL.rcallS rfl rfl rfl (.mk' rfl rfl rfl rfl rfl) (q86c k r rb (H1++Hx)) ?_;refine oP (YJ) ?_;refine Z1 ?_;refine oP (POp.cv rfl rfl rfl (wrap64 Yc)) ?_;refine Z1 ?_;refine OL.alC rfl rfl rfl rfl (λb0=>?_);refine Z4 ?_;refine CW.perm (List.Perm.swap _ _ _) ?_;refine CW.eqH (H':=rdr rb r::.blk b0 114 [.i k.val,.val (.slice none 0 0),.b false]::(H1++Hx)) rfl ?_;rcases hq:manyR r with _ | ⟨n,r1⟩
   ·refine CW.dp mixed ?_;refine DP.anyPan (Hf:=.blk b0 114 [.i k.val,.val (.slice none 0 0),.b false]::(H1++Hx)) 2 0 3 35 rfl Ye Ye Ye Ye (λenv=>outP (P:=Tryz.prog) (fn:=Tryz.f209) (Hf:=H1++([]++Hx)) wrong_c (List.sublist_cons_self _ _) (⟨H1,[],rfl,⟨(hA.fail Yx (secR_many hq)).2,rfl⟩,by rw[(hA.fail Yx (secR_many hq)).1];exact hJ1⟩)) ?_;refine UD.popP rfl rfl rfl rfl (Ya) ?_;refine UD.popP rfl rfl rfl rfl (Ya) ?_;refine UD.panP rfl rfl rfl .k (q164n hq _ _) wrong_c ?_;exact UD.nil trivial
   ·have hn:=manyR_some hq;refine CW.dp mixed ?_;refine DP.anyH [⟨2,18,false⟩] (()) (λ(_:Unit) (vs:List (Option Value))=>match vs with | [none]=>rdr rb r::.blk b0 114 [.i k.val,.val (.slice none 0 0),.b false]::(H1++Hx) | _=>rdr rb r1::.blk b0 114 [.i k.val,.val (.slice none 0 0),.b false]::(H1++Hx)) 0 3 35 rfl Ye Ye rfl rfl Ye rfl ?_;refine UD.popG [[true],[false]] rfl Ye rfl rfl rfl ⟨λg f=>Ya,λg f=>Ya,trivial⟩ ?_;refine UD.popG [[false]] rfl Ye rfl rfl rfl ⟨λg f=>Ya,trivial⟩ ?_;refine UD.effG 0 [[false]] rfl rfl rfl Ye rfl rfl rfl ⟨λg f=>FOk.rcall () .k (q164s hq _ _) (λ_=>rfl),trivial⟩ ?_;refine UD.nil (λg f=>?_);simp only[CE.vals,List.map_cons,List.map_nil,List.cons_append,List.nil_append];refine Z1 ?_;refine OL.eqH (H':=rdr rb r1::.blk b0 114 [.i k.val,.val (.slice none 0 0),.b false]::(H1++Hx)) rfl ?_;refine OL.rcallS rfl rfl rfl (.mk' rfl rfl rfl rfl rfl) (by have h:=q86 r1 n rb (.blk b0 114 [.i k.val,.val (.slice none 0 0),.b false]::(H1++Hx));rwa [if_pos hn.1] at h) ?_;refine Z5 ?_;rcases Nat.lt_or_ge (r1.drop n).length 4 with h4 | h4
    ·refine CW.dp mixed ?_;refine DP.anyPan (Hf:=.blk b0 114 [.i k.val,u8s (r1.take n),.b false]::(H1++Hx)) 1 0 6 35 rfl Ye Ye Ye Ye (λenv=>outP (P:=Tryz.prog) (fn:=Tryz.f209) (Hf:=H1++([]++Hx)) wrong_c (List.sublist_cons_self _ _) (⟨H1,[],rfl,⟨(hA.fail Yx (secR_short hq Yc)).2,rfl⟩,by rw[(hA.fail Yx (secR_short hq Yc)).1];exact hJ1⟩)) ?_;refine UD.popP rfl rfl rfl rfl (Ya) ?_;refine UD.panP rfl rfl rfl .k (by have h:=q86 (r1.drop n) 4 rb (.blk b0 114 [.i k.val,u8s (r1.take n),.b false]::(H1++Hx));rwa [if_neg Yc] at h) wrong_c ?_;refine UD.popP rfl rfl rfl rfl (Yf) ?_;refine UD.popP rfl rfl rfl rfl (Ya) ?_;refine UD.popP rfl rfl rfl rfl (Yf) ?_;refine UD.popP rfl rfl rfl rfl (Ya) ?_;exact UD.nil trivial
    ·refine CW.dp mixed ?_;refine DP.anyH [⟨1,22,false⟩] (()) (λ(_:Unit) (vs:List (Option Value))=>match vs with | [none]=>rdr rb (r1.drop n)::.blk b0 114 [.i k.val,u8s (r1.take n),.b false]::(H1++Hx) | _=>rdr rb ((r1.drop n).drop 4)::.blk b0 114 [.i k.val,u8s (r1.take n),.b false]::(H1++Hx)) 0 6 35 rfl Ye Ye rfl rfl Ye rfl ?_;refine UD.popG [[false]] rfl Ye rfl rfl rfl ⟨λg f=>Ya,trivial⟩ ?_;refine UD.effG 0 [[false]] rfl rfl rfl Ye rfl rfl rfl ⟨λg f=>FOk.rcall () .k (by have h:=q86 (r1.drop n) 4 rb (.blk b0 114 [.i k.val,u8s (r1.take n),.b false]::(H1++Hx));rwa [if_pos h4] at h) (λ_=>rfl),trivial⟩ ?_;refine UD.popG [[true],[false]] rfl Ye rfl rfl rfl ⟨λg f=>Yf,λg f=>Yf,trivial⟩ ?_;refine UD.popG [[true],[false]] rfl Ye rfl rfl rfl ⟨λg f=>Ya,λg f=>Ya,trivial⟩ ?_;refine UD.popG [[true],[false]] rfl Ye rfl rfl rfl ⟨λg f=>Yf,λg f=>Yf,trivial⟩ ?_;refine UD.popG [[true],[false]] rfl Ye rfl rfl rfl ⟨λg f=>Ya,λg f=>Ya,trivial⟩ ?_;refine UD.nil (λg f=>?_);simp only[CE.vals,List.map_cons,List.map_nil,List.cons_append,List.nil_append];refine Z1 ?_;refine OL.eqH (H':=rdr rb ((r1.drop n).drop 4)::.blk b0 114 [.i k.val,u8s (r1.take n),.b false]::(H1++Hx)) rfl ?_;refine oP (POp.call .k (q117 k (r1.take n) (by rw[List.length_take];omega))) ?_;refine oP (POp.call .k (q87 _ _)) ?_;refine Z6 ?_;have hst:=secR_good (k:=k) hq h4;have hA':=hA.step hst;have hlt:=secR_len hst;refine CW.perm (List.Perm.swap _ _ _) ?_;refine CW.perm (List.perm_append_comm_assoc [_,_] H1 Hx) ?_;refine Z2 ?_;refine oP ((by first | exact POp.ldA rfl rfl rfl rfl | (apply POp.ldAH rfl rfl rfl;(case hm=>exact List.mem_append_right _ (.head _));(case hy=>rfl);(case hn=>rfl)))) ?_;refine OL.vcallC rfl rfl rfl rfl rfl rfl rfl rfl (AVleL.refl _) (hg pre _ H1 (.blk b0 114 [.i k.val,u8s (r1.take n),.b (!((r1.drop n).take 4==sumR k (r1.take n)))]::rdr rb ((r1.drop n).drop 4)::Hx) hA'.pre trivial hJ1) ?_;rintro y H2 ⟨b,H3,rfl,rfl,hb1,hb2⟩;refine Z3 ?_;refine cd (λh1=>?_) λh1=>?_
     ·refine Z4 ?_;refine Done.retR (rs:=[]) (H':=H3++([]++Hx)) rfl (.nil) (AVleL.refl _) YaB ?_;exact⟨H3,[],rfl,.inr ⟨_,hA'.pre,hb2 YaG⟩⟩
     ·refine Z2 ?_;refine Done.perm (List.perm_append_comm_assoc [_,_] H3 Hx).symm ?_;exact ag (⟨pre++[_],_,H3,rfl,rfl,hb1 YaG,hA'⟩)
 ·refine Z4 ?_;obtain rfl:l'= []:=by cases l' with | nil=>rfl | cons k r=>simp at h0;omega
  refine Done.norR (rs:=[]) (H':=H1++([]++Hx)) rfl (.nil) (AVleL.refl _) YaB ?_;exact⟨H1,[],rfl,.inl ⟨hA.stop.2,by rw[hA.stop.1];exact hJ1⟩⟩
theorem seq209(l:List U8)(hl:l.length<140737488355328)(rb:Nat):SeqS B Tryz.prog (.fn (.func 209) [] [.ptr [.p rb 0]]) secA (secsOf l).1 [rdr rb l] (λ_=>(secsOf l).2=true) (λy=>(secsOf l).2=false/\y=wrongA):=
 λJ Jx f fs cs hg H Hx hJ=>VCall.fnB (c209 l hl rb hg H Hx hJ)
abbrev secs(l:List Sec):AV:=.sl 3 (l.map secC)
def collO(l:List U8)(Hx:List Ent):Option (AV×List Ent):=if(secsOf l).2=true then some (secs (secsOf l).1,Hx) else none
theorem q208(l:List U8)(hl:l.length<=1048576)(rb:Nat)(Hx:List Ent):RCall Tryz.prog 208 [.val (.slice none 0 0),.fn (.func 209) [] [.ptr [.p rb 0]]] (rdr rb l::Hx) (collO l Hx) Hx wrongA:=by
 refine ACall.mkM (n:=13) Tryz.func208 rfl Yg rfl rfl (λB I w0=>?_);refine Z2 ?_;refine OL.boxC rfl rfl rfl rfl rfl rfl rfl (λsb=>?_);refine Z5 ?_;refine CW.ownNilB 114 3 0 (.head _ _ _) rfl rfl ?_;refine Z5 ?_;refine CW.weaken (st':=⟨[(2,.p sb 0),(6,.fn (.func 209) [] [.ptr [.p rb 0]])],[.own 114 3 (.slice none 0 0),.blk sb 110 [.as (secs []) (.slice none 0 0)]]++([rdr rb l]++Hx)⟩) YaL Yb ?_;refine CW.rangeFuncE (secA) ((secsOf l).1) (λpre H1=>∃v,H1= [.own 114 3 v,.blk sb 110 [.as (secs pre) v]]) (λcode pre H1=>False) ([.own 114 3 (.slice none 0 0),.blk sb 110 [.as (secs []) (.slice none 0 0)]]) ([rdr rb l]) (Hx) (λ_=>(secsOf l).2=true) (λy=>(secsOf l).2=false/\y=wrongA) (λx=>[(5,.ptr (secC x)),(2,.p sb 0)]) rfl rfl rfl rfl (seq209 l Yc rb) (⟨_,rfl⟩) ?_ ?_ ?_ ?_ ?_
 ·intro l0 I1 w1 x Hy;refine Z1 ?_;refine OL.alC rfl rfl rfl rfl (λb1=>?_);refine Z2 ?_;refine Done.freezeP (d:=5) rfl (.head _ _) ?_;exact λa w s=>⟨_,rfl,s.weaken (envLe_get YaL) (.refl _)⟩
 ·intro l0 D0 lp pre x H1 Hy I1 w1 hpre hJ;obtain⟨v,rfl⟩:=hJ;refine Z4 ?_;refine OL.popC (x:=.sl 3 [secC x]) rfl rfl rfl (POp.row rfl rfl Yh rfl rfl rfl rfl rfl rfl) ?_;refine OL.appendC rfl rfl rfl rfl rfl rfl rfl rfl (AVle.refl _) (rfl) (λv=>by repeat (first | exact Upd.head _ _ _ | apply Upd.tail)) Yar Yar (λv11=>?_);refine Z3 ?_;refine Done.eqH (H':=.loop l0 lp _::.obj D0 (.deferred (some []))::.own 114 3 v11::.blk sb 110 [.as (secs (pre++[x])) v11]::Hy) (by rw[show secs (pre++[x])= .sl 3 (pre.map secC++[secC x]) by rw[secs,List.map_append];rfl];rfl) ?_;exact Done.roundN Yb ⟨v11,rfl⟩
 ·intro D0 H1 Hs1 hHn hJ;obtain⟨v,rfl⟩:=hJ;refine Z9 ?_;refine Done.retM1 (rs:=[.tmp 4]) (H':=Hx) rfl Yl (.tmp rfl (.nil)) (.cons (AVle.asL _ _) .nil) (by exact .cons _ (.cons _ (List.sublist_append_right _ _))) ?_;exact by rw[collO,if_pos hHn];rfl
 ·intro D0 code0 pre H1 Hs1 hpre hJx;exact hJx.elim
 ·intro D0 y H1 Hs1 hown hJ I v a w s hv;obtain⟨v,rfl⟩:=hJ;obtain⟨ho,rfl⟩:=hown;rw[wrong_c.is _ _ _ hv];exact outM (P:=Tryz.prog) (fn:=Tryz.f208) (Hf:=Hx) wrong_c (.head _ _) (.cons _ (.cons _ (List.sublist_append_right _ _))) ⟨by rw[collO,ho];rfl,rfl,rfl⟩ a w s
theorem q151(l:List U8)(hl:l.length<=1048576)(rb:Nat)(Hx:List Ent):RCall Tryz.prog 151 [.fn (.func 209) [] [.ptr [.p rb 0]]] (rdr rb l::Hx) (collO l Hx) Hx wrongA:=by
 refine aC (n:=5) Tryz.func151 λB I w0=>?_;refine Z8 ?_;cases hok:(secsOf l).2
 ·refine OL.rcallN rfl rfl (.mk' rfl rfl rfl rfl rfl) (by have h:=q208 l hl rb Hx;rwa [collO,if_neg (by simp[hok])] at h) wrong_c ?_;exact outP (P:=Tryz.prog) (fn:=Tryz.f151) wrong_c (.refl _) ⟨by rw[collO,if_neg (by simp[hok])],rfl,rfl⟩
 ·refine OL.rcallS rfl rfl rfl (.mk' rfl rfl rfl rfl rfl) (by have h:=q208 l hl rb Hx;rwa [collO,if_pos hok] at h) ?_;refine Z4 ?_;refine r1 2 (Hx) ?_;exact by rw[collO,if_pos hok];rfl
def headR(l:List U8):Prop:=1<l.length/\(l.getD 0 default).val=67/\((l.getD 1 default).val=79\/(l.getD 1 default).val=80)
instance(l:List U8):Decidable (headR l):=inferInstanceAs (Decidable (_/\_))
theorem head_b(l:List U8):(bif bif decide ((l.length:Int)>1) then (((l.getD (Int.toNat 0) default).val:Int)==67) else false then bif (((l.getD (Int.toNat 1) default).val:Int)==79) then true else (((l.getD (Int.toNat 1) default).val:Int)==80) else false)=decide (headR l):=by
 have e:∀(n:Nat) (k:Nat),((n:Int)==(k:Int))=(n==k):=λn k=>by
  rw[Bool.eq_iff_iff];simp;omega
 have e0:Int.toNat 0=0:=rfl;have e1:Int.toNat 1=1:=rfl;rw[e0,e1,show (67:Int)=((67:Nat):Int) by rfl,show (79:Int)=((79:Nat):Int) by rfl,show (80:Int)=((80:Nat):Int) by rfl,e,e,e];have h1:decide ((l.length:Int)>1)=decide (1<l.length):=by
  rw[Bool.eq_iff_iff];simp;omega
 rw[h1];rw[Bool.eq_iff_iff,decide_eq_true_iff];unfold headR;generalize (l.getD 0 default).val=x;generalize (l.getD 1 default).val=y;generalize l.length=n;by_cases a:1<n <;> by_cases b:x=67 <;> by_cases c:y=79 <;> by_cases d:y=80 <;> simp[a,b,c,d]
theorem split_head(h:headR l):splitR l=if(secsOf (l.drop 2)).2=true then some (l.getD 1 default,(secsOf (l.drop 2)).1) else none:=by
 obtain⟨h1,h2,h3⟩:=h
 match l,h1 with
 | a::m::r,_=>
  simp only[splitR,List.getD_cons_zero,List.getD_cons_succ] at h2 h3 ⊢;by_cases hs:(secsOf r).2=true
  ·rw[if_pos ⟨h2,h3,hs⟩];simp only[List.drop_succ_cons,List.drop_zero];rw[if_pos hs]
  ·rw[if_neg λh=>hs h.2.2];simp only[List.drop_succ_cons,List.drop_zero];rw[if_neg hs]
theorem split_no(h: ¬headR l):splitR l=none:=by
 match l with
 | []=>rfl
 | [_]=>rfl
 | a::m::r=>
  simp only[splitR];exact if_neg λ⟨h1,h2,_⟩=>h ⟨Yx,h1,h2⟩
def splitO(l:List U8)(Hx:List Ent):Option (AV×List Ent):=(splitR l).map λp=>(.tup [u8 p.1,secs p.2],Hx)
theorem q77(l:List U8)(hl:l.length<=1048576)(Hx:List Ent):RCall Tryz.prog 77 [u8s l] Hx (splitO l Hx) Hx wrongA:=by
 refine aC (n:=35) Tryz.func77 λB I w0=>?_;refine Z13 ?_;refine OL.guardC rfl rfl rfl rfl rfl rfl (λhg=>Yt) ?_;refine Z5 ?_;refine OL.guardC rfl rfl rfl rfl rfl rfl (λhg=>Yt) ?_;refine Z4 ?_;refine OL.guardC rfl rfl rfl rfl rfl rfl (λhg=>Yt) ?_;refine Z4 ?_;by_cases hh:headR l
 ·refine OL.rcallS rfl rfl rfl (.mk' rfl rfl rfl rfl rfl) (q71t (by rw[head_b];exact decide_eq_true hh) _) ?_;refine Z3 ?_;cases hok:(secsOf (l.drop 2)).2
  ·refine CW.dp mixed ?_;refine DP.anyK (X:=PanX wrongV Hx) [⟨6,32,false⟩,⟨7,33,false⟩,⟨8,34,false⟩] (λJ=>match J with | [some v,_,none]=>rdr (blkOf v) (l.drop 2)::Hx | [_,_,some _]=>noMem | _=>Hx) (λq J=>match q,J with | 0,[some v,_,_]=>.p (blkOf v) 0 | 1,[some v,some _,_]=>.fn (.func 209) [] [.ptr [.p (blkOf v) 0]] | 2,[_,_,some _]=>secs (secsOf (l.drop 2)).1 | _,_=>.any) 0 9 35 rfl Ye Ye rfl rfl Ye rfl (by rintro I w a ch w' hd hs hw he ⟨rfl,J,j1,j2,j3⟩;exact outP (P:=Tryz.prog) (fn:=Tryz.f77) (env:=[]) wrong_c (.refl _) ⟨by rw[splitO,split_head hh,hok];rfl,rfl,rfl⟩ a w' ⟨hd,hs,J,j1,he.trans j2,j3,λt x hx=>by simp[envGet] at hx⟩) ?_;refine UD.popK [[true,true,true],[true,true,false],[true,false,false],[false,false,false]] rfl Ye rfl rfl rfl ⟨λf=>POp.move rfl rfl rfl,λf=>POp.move rfl rfl rfl,λf=>POp.move rfl rfl rfl,λf=>POp.move rfl rfl rfl,trivial⟩ ?_;refine UD.popK [[true,true,true],[true,true,false],[true,false,false],[false,false,false]] rfl Ye rfl rfl rfl ⟨λf=>POp.ixI (l:=l) (i:=1) rfl (show aev _ _=some (true,u8s l) from rfl) rfl rfl rfl Yam,λf=>POp.ixI (l:=l) (i:=1) rfl (show aev _ _=some (true,u8s l) from rfl) rfl rfl rfl Yam,λf=>POp.ixI (l:=l) (i:=1) rfl (show aev _ _=some (true,u8s l) from rfl) rfl rfl rfl Yam,λf=>POp.ixI (l:=l) (i:=1) rfl (show aev _ _=some (true,u8s l) from rfl) rfl rfl rfl Yam,trivial⟩ ?_;refine UD.popK [[true,true,true],[true,true,false],[true,false,false],[false,false,false]] rfl Ye rfl rfl rfl ⟨λf=>Ya,λf=>Ya,λf=>Ya,λf=>Ya,trivial⟩ ?_;refine UD.popK [[false,false,false]] rfl Ye rfl rfl rfl ⟨λf=>POp.move rfl rfl rfl,trivial⟩ ?_;refine UD.popK [[false,false,false]] rfl Ye rfl rfl rfl ⟨λf=>POp.slFrom (xs:=l) (n:=2) rfl (show aev _ _=some (true,u8s l) from rfl) rfl rfl rfl Ybr,trivial⟩ ?_;refine UD.popK [[false,false,false]] rfl Ye rfl rfl rfl ⟨λf=>POp.build' rfl rfl Yh rfl,trivial⟩ ?_;refine UD.effK 0 [[false,false,false]] rfl rfl rfl Ye rfl rfl rfl ⟨λf=>⟨KOk.box rfl rfl rfl rfl (λ_=>rfl) (λ_=>rfl),Yj⟩,trivial⟩ ?_;refine UD.effK 1 [[true,false,false]] rfl rfl rfl Ye rfl rfl rfl ⟨λf=>⟨KOk.pop (POp.call .k (q152 _)) (λ_=>rfl) (λ_=>rfl),Yj⟩,trivial⟩ ?_;refine UD.effK 2 [[true,true,false]] rfl rfl rfl Ye rfl rfl rfl ⟨λf=>⟨KOk.pan .k (by have h:=q151 (l.drop 2) Ybb (blkOf (f 32)) Hx;rwa [collO,if_neg (by simp[hok])] at h) wrong_c,Yj⟩,trivial⟩ ?_;exact UD.nil λf a w s=>(Sat.no s).elim
  ·refine CW.dp mixed ?_;refine DP.anyK (X:=noX) [⟨6,32,false⟩,⟨7,33,false⟩,⟨8,34,false⟩] (λJ=>match J with | [some v,_,none]=>rdr (blkOf v) (l.drop 2)::Hx | _=>Hx) (λq J=>match q,J with | 0,[some v,_,_]=>.p (blkOf v) 0 | 1,[some v,some _,_]=>.fn (.func 209) [] [.ptr [.p (blkOf v) 0]] | 2,[_,_,some _]=>secs (secsOf (l.drop 2)).1 | _,_=>.any) 0 9 35 rfl Ye Ye rfl rfl Ye rfl (λ_ _ _ _ _ _ _ _ _ h=>h.elim) ?_;refine UD.popK [[true,true,true],[true,true,false],[true,false,false],[false,false,false]] rfl Ye rfl rfl rfl ⟨λf=>POp.move rfl rfl rfl,λf=>POp.move rfl rfl rfl,λf=>POp.move rfl rfl rfl,λf=>POp.move rfl rfl rfl,trivial⟩ ?_;refine UD.popK [[true,true,true],[true,true,false],[true,false,false],[false,false,false]] rfl Ye rfl rfl rfl ⟨λf=>POp.ixI (l:=l) (i:=1) rfl (show aev _ _=some (true,u8s l) from rfl) rfl rfl rfl Yam,λf=>POp.ixI (l:=l) (i:=1) rfl (show aev _ _=some (true,u8s l) from rfl) rfl rfl rfl Yam,λf=>POp.ixI (l:=l) (i:=1) rfl (show aev _ _=some (true,u8s l) from rfl) rfl rfl rfl Yam,λf=>POp.ixI (l:=l) (i:=1) rfl (show aev _ _=some (true,u8s l) from rfl) rfl rfl rfl Yam,trivial⟩ ?_;refine UD.popK [[true,true,true],[true,true,false],[true,false,false],[false,false,false]] rfl Ye rfl rfl rfl ⟨λf=>Ya,λf=>Ya,λf=>Ya,λf=>Ya,trivial⟩ ?_;refine UD.popK [[false,false,false]] rfl Ye rfl rfl rfl ⟨λf=>POp.move rfl rfl rfl,trivial⟩ ?_;refine UD.popK [[false,false,false]] rfl Ye rfl rfl rfl ⟨λf=>POp.slFrom (xs:=l) (n:=2) rfl (show aev _ _=some (true,u8s l) from rfl) rfl rfl rfl Ybr,trivial⟩ ?_;refine UD.popK [[false,false,false]] rfl Ye rfl rfl rfl ⟨λf=>POp.build' rfl rfl Yh rfl,trivial⟩ ?_;refine UD.effK 0 [[false,false,false]] rfl rfl rfl Ye rfl rfl rfl ⟨λf=>⟨KOk.box rfl rfl rfl rfl (λ_=>rfl) (λ_=>rfl),Yj⟩,trivial⟩ ?_;refine UD.effK 1 [[true,false,false]] rfl rfl rfl Ye rfl rfl rfl ⟨λf=>⟨KOk.pop (POp.call .k (q152 _)) (λ_=>rfl) (λ_=>rfl),Yj⟩,trivial⟩ ?_;refine UD.effK 2 [[true,true,false]] rfl rfl rfl Ye rfl rfl rfl ⟨λf=>⟨KOk.rcall .k (by have h:=q151 (l.drop 2) Ybb (blkOf (f 32)) Hx;rwa [collO,if_pos hok] at h) (λ_=>rfl) (λ_=>rfl),Yj⟩,trivial⟩ ?_;refine UD.nil (λf=>?_);simp only[kvals,List.map_cons,List.map_nil,List.cons_append,List.nil_append];generalize blkOf (f 32)=rb;refine Z6 ?_;refine rR [.tmp 2,.tmp 3] (Hx) ?_;exact by rw[splitO,split_head hh,if_pos hok];rfl
 ·refine OL.rcallN rfl rfl (.mk' rfl rfl rfl rfl rfl) (q71f (by rw[head_b];exact decide_eq_false hh) _) wrong_c ?_;exact outP (P:=Tryz.prog) (fn:=Tryz.f77) wrong_c (.refl _) ⟨by rw[splitO,split_no hh];rfl,rfl,rfl⟩
theorem assert_wrong(w:World):(Instr.typeAssert wrongV 20 176 true).run Tryz.prog w= .ok (.tuple #[.agg #[],.bool true]) w:=by
 simp[Instr.typeAssert,run_underlying (show Tryz.prog.underlying 176=some (.struct #[]) by kernel_rfl)]
theorem catch_panI(b:Nat)(x:Bool)(w:World)(hc:w.cell? ⟨b,0,none⟩=some (.bool x))(hz:w.frozen? ⟨b,0,none⟩=false)(hb:b<w.heap.size):
  CallsDIn (Eng.FW none) 0 Tryz.prog 130 #[.pointer (some ⟨b,0,none⟩)] (.panicking [{v:=wrongV,recovered:=false}]) w λe u' w'=>
   e= .returned (.tuple #[])/\u'= .panicking [{v:=wrongV,recovered:=true}]/\w'=(w.alloc (.cells #[] 176)).setCell ⟨b,0,none⟩ (.bool false):=by
 have hc2:(w.alloc (.cells #[] 176)).cell? ⟨b,0,none⟩=some (.bool x):=by rw[World.cell?_alloc_lt w _ ⟨b,0,none⟩ hb];exact hc
 have hz2:(w.alloc (.cells #[] 176)).frozen? ⟨b,0,none⟩=false:=by rw[World.frozen?_of_block (Go.RowKit.Below.heap_alloc w _ b hb)];exact hz
 refine callsDIn_of_wpSIn Tryz.func130 rfl trivial λc₀ cs hu=>?_;apply wpSIn_seq;apply wpSIn_region;have hta:=λw=>assert_wrong w;simp[wpOpsSIn,go_sem,recoverD,hu,Tryz.ntmps130,Exit.thenS,Eng.FW,hta];apply wpSIn_block;apply wpSIn_seq;apply wpSIn_region;simp[wpOpsSIn,go_sem,Exit.thenS];refine wpSIn_cond (t:=false) YaO ?_;simp only[Bool.false_eq_true,if_false];apply wpSIn_seq;apply wpSIn_region;simp[wpOpsSIn,go_sem,Exit.thenS,hta];refine wpSIn_cond (t:=true) YaO ?_;simp only[if_true];apply wpSIn_seq;apply wpSIn_region;simp[wpOpsSIn,go_sem,Exit.thenS];apply wpSIn_region;simp[wpOpsSIn,go_sem,hc2,hz2,bodyPostS,results,Tryz.results130,Exit.inBlockS]
theorem catch_idlI(b:Nat)(w:World):
  CallsDIn (Eng.FW none) 0 Tryz.prog 130 #[.pointer (some ⟨b,0,none⟩)] .returning w λe u' w'=>e= .returned (.tuple #[])/\u'= .returning/\w'=w:=by
 refine callsDIn_of_wpSIn Tryz.func130 rfl trivial λc₀ cs hu=>?_;apply wpSIn_seq;apply wpSIn_region;simp[wpOpsSIn,go_sem,recoverD,hu,Tryz.ntmps130,Exit.thenS,Eng.FW];apply wpSIn_block;apply wpSIn_seq;apply wpSIn_region;simp[wpOpsSIn,go_sem,Exit.thenS];refine wpSIn_cond (t:=true) YaO ?_;simp only[if_true];apply wpSIn_region;cases c₀;simp_all [wpOpsSIn,go_sem,bodyPostS,results,Tryz.results130,Exit.inBlockS]
def dfrI(tb:Nat):Deferred:={target:=.fn (.func 130) #[.pointer (some ⟨tb,0,none⟩)],args:=#[]}
theorem leave_f66(hΦ:Φ (.b x) H)(hs:∃I,WOk B I w/\Ext B I0 w0 I w/\HeapOk B I w (.blk tb 4 [.b x]::H)/\EnvOk I w (envGet env) a)(ht:envGet env 2=some (.p tb 0)):
  LeavesIn (Eng.FW none) 0 Tryz.prog Tryz.f66 a.tmps (RetP B I0 w0 Φ E) [] .returning w:=by
 obtain⟨I,hw,he,hh,hv⟩:=hs;obtain⟨v,h1,h2⟩:=ResOk.res (P:=Tryz.prog) (c:=⟨B,I0,w0,0,[]⟩) (st:=⟨env,.blk tb 4 [.b x]::H⟩) hh hv (fn:=Tryz.f66) (rs:=[.cell 2 4]) rfl (.cell1 inferInstance ht (.head _) rfl .nil);exact⟨v,h1,I,H,hw,he,hh.tail,.inl ⟨v,_,rfl,h2,hΦ⟩⟩
theorem invoke_dfI(tb:Nat)(w:World):(invoke (.fn (.func 130) #[.pointer (some ⟨tb,0,none⟩)]) #[]).run Tryz.prog w= .ok (.enter 130 #[.pointer (some ⟨tb,0,none⟩)]) w:=by
 have:fnOk Tryz.prog 130=true:=by kernel_rfl
 have h:=run_callFunc this #[.pointer (some ⟨tb,0,none⟩)] w;simp[invoke]
theorem ret_f66{n:Nat}(hΦ:Φ (.b x) H)(s:Sat ⟨B,I0,w0,n,[dfrI tb]⟩ ⟨env,.blk tb 4 [.b x]::H⟩ a w)(ht:envGet env 2=some (.p tb 0)):
  bodyPostDIn (Eng.FW none) 0 Tryz.prog Tryz.f66 (RetP B I0 w0 Φ E) .ret a w:=by
 show LeavesIn _ _ _ _ _ _ a.defers .returning w;rw[s.ds];refine leavesIn_cons (f:=130) (args:=#[.pointer (some ⟨tb,0,none⟩)]) Yx (by simp[Eng.FW]) (invoke_dfI tb w) (λ_ _=>trivial) ?_;refine (catch_idlI tb w).mono ?_;rintro e u' w' ⟨rfl,rfl,rfl⟩;exact leave_f66 hΦ s.mem ht
theorem pan_f66{n:Nat}(hΦ:Φ (.b false) H)(s:Sat ⟨B,I0,w0,n,[dfrI tb]⟩ ⟨env,.blk tb 4 [.b x]::H⟩ a w)(ht:envGet env 2=some (.p tb 0)):
  bodyPostDIn (Eng.FW none) 0 Tryz.prog Tryz.f66 (RetP B I0 w0 Φ E) (.panic [{v:=wrongV,recovered:=false}]) a w:=by
 show LeavesIn _ _ _ _ _ _ a.defers (.panicking [{v:=wrongV,recovered:=false}]) w;rw[s.ds];obtain⟨I,hw,he,hh,hv⟩:=s.mem;obtain⟨hB,vs,hb,hr,hni⟩:=hh.ok _ (.head _);have hvs:vs= #[.bool x]:=by
  have h1:=rel_vals (vs:=[.bool x]) hr;exact Array.toList_inj.1 h1
 subst hvs;have hlt:tb<w.heap.size:=(Array.getElem?_eq_some_iff.1 hb).1;refine leavesIn_cons (f:=130) (args:=#[.pointer (some ⟨tb,0,none⟩)]) Yx (by simp[Eng.FW]) (invoke_dfI tb w) (λ_ _=>trivial) ?_;refine (catch_panI tb x w (by rw[cell_of_blk hb];rfl) (by simp[World.frozen?,hb]) hlt).mono ?_;rintro e u' w' ⟨rfl,rfl,rfl⟩;have hw1:=hw.alloc (.cells #[] 176);have hh1:=hh.alloc hw (.cells #[] 176);have hb1:(w.alloc (.cells #[] 176)).heap[tb]? =some (.cells #[.bool x] 4 (0,0)):=by rw[Go.RowKit.Below.heap_alloc w _ tb hlt];exact hb
 have hk1:=keeps_alloc hw (.cells #[] 176);have he1:=he.trans (ext_alloc hw (.cells #[] 176));have hv1:=hv.keep hk1;generalize w.alloc (.cells #[] 176)=w1 at*;have hset:(w1.setCell ⟨tb,0,none⟩ (.bool false)).heap[tb]? =some (.cells #[.bool false] 4 (0,0)):=one_setCell hb1;have hcell:∀b i,I b i->(w1.setCell ⟨tb,0,none⟩ (.bool false)).cell? ⟨b,i,none⟩=w1.cell? ⟨b,i,none⟩:=λb i hI=>
  World.cell?_of_block (a:=⟨b,i,none⟩) (Go.RowKit.Below.heap_setCell _ _ _ _ (λe=>hni i (by rw[<-(show b=tb from e)];exact hI)))
 have hk2:Keeps I w1 I (w1.setCell ⟨tb,0,none⟩ (.bool false)):=⟨λ_ _ h=>h,hcell⟩;have hbel:=(Go.RowKit.Below.refl B w1).setCell (p:=⟨tb,0,none⟩) hB (.bool false);exact leave_f66 (x:=false) (env:=env) hΦ ⟨I,⟨Nat.le_trans hw1.base hbel.size,λb i hI=>by rw[hcell b i hI];exact hw1.there b i hI⟩,he1.trans ⟨λ_ _ h=>h,hcell,hbel⟩,
  hh1.upd (.head _ _ _) hk2 (λb _ hne=>Go.RowKit.Below.heap_setCell _ _ _ _ (λe=>hne (by rw[show b=tb from e];rfl))) (λ_ _ h=>.inl h) ⟨hB,#[.bool false],hset,.cons _ _ _ _ (.val _) .nil,hni⟩ (λ_ h=>.inl h),hv1.keep hk2⟩ ht
theorem q66t{g:Fn}{H H1:List Ent}(hdo:∀B Hy,VCall B Tryz.prog (.fn g gs gc) [] (H++Hy) (λ_ H'=>H'=H1++Hy) (λ_ _=>False)):
  ACall Tryz.prog 66 [.fn g gs gc] H (λx H'=>x= .b true/\H'=H1) (λ_ _=>False):=by
 refine ACall.mkD (n:=6) Tryz.func66 rfl Yg rfl rfl (λB I w0=>?_);refine Z2 ?_;refine OL.alC rfl rfl rfl rfl (λtb=>?_);refine Z5 ?_;refine OL.deferC (vs:=[.pointer (some ⟨tb,0,none⟩)]) rfl rfl rfl rfl rfl rfl ?_;refine Z3 ?_;refine CW.perm (List.perm_append_singleton _ _).symm ?_;refine Z2 ?_;refine OL.vcallC rfl rfl rfl rfl rfl rfl rfl rfl (AVleL.refl _) (hdo B [.blk tb 4 [.b false]]) ?_;rintro y _ rfl;refine Z3 ?_;refine CW.perm (List.perm_append_singleton _ _) ?_;refine Z5 ?_;intro a w s;exact ret_f66 ⟨rfl,rfl⟩ s rfl
theorem q66f{g:Fn}{H Hf:List Ent}(hdo:∀B Hy,VCall B Tryz.prog (.fn g gs gc) [] (H++Hy) (λ_ _=>False) (λy H'=>y=wrongA/\H'=Hf++Hy)):
  ACall Tryz.prog 66 [.fn g gs gc] H (λx H'=>x= .b false/\H'=Hf) (λ_ _=>False):=by
 refine ACall.mkD (n:=6) Tryz.func66 rfl Yg rfl rfl (λB I w0=>?_);refine Z2 ?_;refine OL.alC rfl rfl rfl rfl (λtb=>?_);refine Z5 ?_;refine OL.deferC (vs:=[.pointer (some ⟨tb,0,none⟩)]) rfl rfl rfl rfl rfl rfl ?_;refine Z3 ?_;refine CW.perm (List.perm_append_singleton _ _).symm ?_;refine Z2 ?_;refine OL.vcall rfl rfl rfl rfl rfl rfl rfl (AVleL.refl _) (hdo B [.blk tb 4 [.b false]]) (λ_ _ h=>h.elim) ?_;rintro y H2 ⟨rfl,rfl⟩ a w s I v hv;rw[wrong_c.is _ _ _ hv];exact pan_f66 ⟨rfl,rfl⟩ (s.perm (List.perm_append_singleton _ _)) rfl
theorem splitO_len{p:U8×List Sec}(h:splitR l=some p):p.2.length<=l.length:=by
 unfold splitR at h;split at h
 ·split at h
  ·cases h;have:=secs_count ‹_›;simp only[List.length_cons];omega
  ·cases h
 ·cases h
theorem q76(l:List U8)(hl:l.length<=1048576)(lb:Nat)(x:AV)(Hx:List Ent):RCall Tryz.prog 76 [.ptr [u8s l],.p lb 0] (.blk lb 110 [x]::Hx) ((splitR l).map λp=>(.tup [],.blk lb 110 [secs p.2]::Hx)) (.blk lb 110 [x]::Hx) wrongA:=by
 refine aC (n:=7) Tryz.func76 λB I w0=>?_;refine Z2 ?_;rcases hq:splitR l with _ | p
 ·refine OL.rcallN rfl rfl (.mk' rfl rfl rfl rfl rfl) (by have h:=q77 l hl (.blk lb 110 [x]::Hx);rwa [splitO,hq] at h) wrong_c ?_;exact outP (P:=Tryz.prog) (fn:=Tryz.f76) wrong_c (.refl _) ⟨rfl,rfl,rfl⟩
 ·refine OL.rcallS rfl rfl rfl (.mk' rfl rfl rfl rfl rfl) (by have h:=q77 l hl (.blk lb 110 [x]::Hx);rwa [splitO,hq] at h) ?_;refine Z5 ?_;refine nR [] (.blk lb 110 [secs p.2]::Hx) ?_;exact rfl
def sectA(l:List U8):AV:=match splitR l with
 | none=>.tup [.sl 1 [],.sl 1 [],.i 4]
 | some p=>.tup [.sl 1 (kindsP p.2),damA p.2 p.2.length,.i 0]
theorem q23(l:List U8)(hl:l.length<=1048576):PCall Tryz.prog 23 [u8s l] (sectA l):=by
 intro H;refine aC (n:=32) Tryz.func23 λB I w0=>?_;refine Z10 ?_;refine OL.alC rfl rfl rfl rfl (λlb=>?_);refine Z6 ?_;rcases hq:splitR l with _ | ⟨mk,L⟩
 ·refine bC .k (q66f (H:=.blk lb 110 [.val (.slice none 0 0)]::H) (Hf:=.blk lb 110 [.val (.slice none 0 0)]::H) (λB Hy=>RCall.vN (by have h:=q76 l hl lb (.val (.slice none 0 0)) (H++Hy);rwa [hq] at h))).b ?_;rintro y _ ⟨rfl,rfl⟩;refine Z3 ?_;refine CW.cond rfl (λh0=>?_) (λh0=>?_)
  ·replace h0:=nm h0;refine Z9 ?_;refine Done.retR (rs:=[.tmp 2,.tmp 3,.tmp 4]) (H':=H) rfl (.tmp rfl (.tmp rfl (.tmp rfl (.nil)))) (.cons (AVle.nil 1) (.cons (AVle.nil 1) (.cons (.refl _) .nil))) Yb ?_;exact⟨by rw[sectA,hq];rfl,rfl⟩
  ·cases h0
 ·have hL:=splitO_len hq;replace hL:L.length<=l.length:=hL;refine bC .k (q66t (H:=.blk lb 110 [.val (.slice none 0 0)]::H) (H1:=.blk lb 110 [secs L]::H) (λB Hy=>RCall.vS (by have h:=q76 l hl lb (.val (.slice none 0 0)) (H++Hy);rwa [hq] at h))).b ?_;rintro y _ ⟨rfl,rfl⟩;refine Z3 ?_;refine CW.cond rfl (λh1=>?_) (λh1=>?_)
  ·cases h1
  ·refine Z4 ?_;refine CW.ownNil 2 48 1 rfl ?_;refine CW.ownNil 3 3 1 rfl ?_;refine Z7 ?_;refine lj (λm st=>∃(i:Nat) (v2 v3:Value),st=⟨[(13,.i i),(12,.i L.length),(11,secs L),(2,.as (.sl 1 (kindsP (L.take i))) v2),(3,.as (damA L i) v3)],.own 3 1 v3::.own 48 1 v2::.blk lb 110 [secs L]::H⟩/\m=L.length - i/\i<=L.length) (⟨0,_,_,rfl,rfl,Nat.zero_le _⟩) ?_;rintro m _ ⟨i,v2,v3,rfl,rfl,hi⟩;refine Z6 ?_;refine cd (λh2=>?_) λh2=>?_
   ·have hil:i<L.length:=by omega
    obtain⟨x,hx⟩:∃x,x=L.getD i default:=⟨_,rfl⟩;refine Z9 ?_;refine OL.alC rfl rfl rfl rfl (λb1=>?_);refine Z5 ?_;rw[<-hx];refine Z4 ?_;refine OL.popC (x:=.sl 1 [[.i x.kind.val]]) rfl rfl rfl (POp.row rfl rfl Yh rfl rfl rfl rfl rfl rfl) ?_;refine OL.appendC rfl rfl rfl rfl rfl rfl rfl rfl (AVle.refl _) (rfl) (λv=>by repeat (first | exact Upd.head _ _ _ | apply Upd.tail)) YO YO (λv22=>?_);refine Z9 ?_;refine cd (λh3=>?_) λh3=>?_
    ·refine Z3 ?_;refine OL.popC (x:=.sl 1 [[.i i]]) rfl rfl rfl (POp.row rfl rfl Yh rfl rfl rfl rfl rfl rfl) ?_;refine OL.appendC rfl rfl rfl rfl rfl rfl rfl rfl (AVle.refl _) (rfl) (λv=>by repeat (first | exact Upd.head _ _ _ | apply Upd.tail)) YO YO (λv28=>?_);refine Z8 ?_;exact ag (⟨i+1,v22,v28,by rw[kinds_snoc hil, <-hx,damA,dam_yes (by rw[<-hx];exact h3)],rfl,hil⟩)
    ·refine Z7 ?_;exact ag (⟨i+1,v22,v3,by rw[kinds_snoc hil, <-hx,damA,dam_no (by rw[<-hx];exact h3)],rfl,hil⟩)
   ·obtain rfl:i=L.length:=by omega
    rw[List.take_length];refine Z15 ?_;refine Done.retR (rs:=[.tmp 2,.tmp 3,.tmp 4]) (H':=H) rfl (.tmp rfl (.tmp rfl (.tmp rfl (.nil)))) (.cons (AVle.asL _ _) (.cons (AVle.asL _ _) (.cons (.refl _) .nil))) Yb ?_;exact⟨by rw[sectA,hq];rfl,rfl⟩
abbrev rr(rb:Nat)(l:List U8)(at_:Nat)(bad:Bool):Ent:=.blk rb 135 [u8s l,.i at_,.b bad]
theorem q168(rb:Nat)(l:List U8)(i:Nat)(bad:Bool)(Hx:List Ent)  :RCall Tryz.prog 168 [.p rb 0] (rr rb l i bad::Hx) (some (.i 0,rr rb l i true::Hx)) [] wrongA:=by
 refine aC (n:=6) Tryz.func168 λB I w0=>?_;refine Z19 ?_;refine r1 2 (rr rb l i true::Hx) ?_;exact rfl
theorem q153f(rb:Nat)(l:List U8)(i:Nat)(hi:i<=1048576)(bad:Bool)(h:bad=true\/l.length<=i)(Hx:List Ent)  :RCall Tryz.prog 153 [.p rb 0] (rr rb l i bad::Hx) (some (.i 0,rr rb l i true::Hx)) [] wrongA:=by
 refine aC (n:=40) Tryz.func153 λB I w0=>?_;refine Z7 ?_;refine CW.dp mixed ?_;refine Z20 ?_;refine DP.anyC 5 14 40 rfl Ye rfl rfl Ye ?_;refine Z15 ?_;refine CW.cond rfl (λh0=>?_) (λh0=>?_)
 ·replace h0:=nm h0;refine Z3 ?_
  ·refine OL.rcallS rfl rfl rfl (.mk' rfl rfl rfl rfl rfl) (q168 rb l i bad Hx) ?_;refine Z5 ?_;refine r1 2 (rr rb l i true::Hx) ?_;exact rfl
 ·exfalso;rcases h with rfl | h
  ·simp at h0
  ·simp at h0;omega
theorem q153s(rb:Nat)(l:List U8)(i:Nat)(hl:l.length<=1048576)(hi:i<l.length)(Hx:List Ent)  :RCall Tryz.prog 153 [.p rb 0] (rr rb l i false::Hx) (some (.i (l.getD i default).val,rr rb l (i+1) false::Hx)) [] wrongA:=by
 refine aC (n:=40) Tryz.func153 λB I w0=>?_;refine Z7 ?_;refine CW.dp mixed ?_;refine Z20 ?_;refine DP.anyC 5 14 40 rfl Ye rfl rfl Ye ?_;refine Z15 ?_;refine CW.cond rfl (λh0=>?_) (λh0=>?_)
 ·exfalso;simp at h0;omega
 ·replace h0:=nm h0;refine Z15 ?_;refine CW.dp mixed ?_;refine DP.anyC 0 9 40 rfl Ye rfl rfl Ye ?_;refine Z13 ?_;refine oP (POp.cv rfl rfl rfl (wrap64 (by have:=(l.getD i default).isLt;omega))) ?_;refine Z4 ?_;refine r1 2 (rr rb l (i+1) false::Hx) ?_;exact by rw[show (↑i+1 - 1:Int).toNat=i by omega];rfl
theorem q153(rb:Nat)(l:List U8)(i:Nat)(hl:l.length<=1048576)(hi:i<=1048576){c a:Nat}{b:Bool}(hb:byteR l i=(c,a,b))(Hx:List Ent):RCall Tryz.prog 153 [.p rb 0] (rr rb l i false::Hx) (some (.i c,rr rb l a b::Hx)) [] wrongA:=by
 rcases Nat.lt_or_ge i l.length with h | h
 ·rw[byteR_in h] at hb;cases hb;exact q153s rb l i hl h Hx
 ·rw[byteR_out h] at hb;cases hb;exact q153f rb l _ hi false (.inr h) Hx
theorem q167(rb:Nat)(l:List U8)(i:Nat)(hl:l.length<=1048576)(hi:i<=l.length)(Hx:List Ent)  :RCall Tryz.prog 167 [.p rb 0] (rr rb l i false::Hx) (some (.i (numV (l.drop i)),rr rb l (i+numF 5 (l.drop i)) (numberR (l.drop i)).isNone::Hx)) [] wrongA:=by
 refine aC (n:=34) Tryz.func167 λB I w0=>?_;refine Z18 ?_;refine lj (λm st=>∃k n:Nat,st=⟨[(3,.i n),(4,.i (128^k:Nat)),(5,.i k),(0,.p rb 0)],rr rb l (i+k) false::Hx⟩/\m=5 - k/\i+k<=l.length/\NumAt (l.drop i) k n (l.drop (i+k))/\NumPos (l.drop i) k (l.drop (i+k))) (⟨0,0,rfl,rfl,hi,.begin _,.begin _⟩) ?_;rintro m _ ⟨k,n,rfl,rfl,hik,hN,hP⟩;have hle:=hN.le;have hlt:=hN.lt;refine Z7 ?_;refine cd (λh0=>?_) λh0=>?_
 ·have hk:k<5:=by omega
  have hp:=p128_le hk;refine Z7 ?_;obtain⟨c,a,b,hb⟩:∃c a b,byteR l (i+k)=(c,a,b):=⟨_,_,_,rfl⟩;have hc:=byteR_lt l (i+k);rw[hb] at hc;replace hc:c<256:=hc;have hc2:c%128<128:=Nat.mod_lt _ YL
  ·refine OL.rcallS rfl rfl rfl (.mk' rfl rfl rfl rfl rfl) (q153 rb l (i+k) hl Yc hb Hx) ?_;refine Z4 ?_;have hml:128^k*(c%128)<=268435456*127:=Nat.mul_le_mul hp Yc;refine Z3 ?_;refine oP (POp.div rfl rfl rfl rfl rfl YL (.inr ⟨rfl,tm128n c⟩)) ?_;refine Z1 ?_;refine oP (POp.arith rfl rfl rfl rfl rfl rfl (mulK hc2 hk)) ?_;refine oP (POp.arith rfl rfl rfl rfl rfl rfl (addK Yc)) ?_;refine Z6 ?_;refine oP (POp.arith rfl rfl rfl rfl rfl rfl (mul128 hk)) ?_;refine Z9 ?_;refine cd (λh1=>?_) λh1=>?_
   ·have h1c:c<128:=Int.ofNat_lt.1 h1;refine Z11 ?_;refine CW.cond rfl (λh2=>?_) (λh2=>?_)
    ·have h2c:0<k/\c=0:=by simp at h2;omega
     obtain⟨z1,z2,z3⟩:=ref_bad hb hk hN hP h1c h2c.1 h2c.2;refine Z3 ?_
     ·refine OL.rcallS rfl rfl rfl (.mk' rfl rfl rfl rfl rfl) (q168 rb l a b Hx) ?_;refine Z10 ?_;refine r1 2 (rr rb l a true::Hx) ?_;rw[z1, <-z2,z3];rfl
    ·have h2c: ¬(0<k/\c=0):=by simp at h2;omega
     obtain⟨z1,z2,z3⟩:=ref_good hb hk hN hP h1c h2c;refine Z14 ?_;refine r1 2 (rr rb l a b::Hx) ?_;rw[z1, <-z2,z3];rfl
   ·have h1c: ¬c<128:=λh=>absurd (Int.ofNat_lt.2 h) YaG;refine Z8 ?_;obtain⟨rfl,rfl,z1,z2,z3⟩:=ref_more hb hk hN hP h1c;exact ag (⟨k+1,_,rfl,rfl,z1,z2,z3⟩)
 ·obtain⟨z1,z2,z3⟩:=ref_long Yc hN hP;refine Z8 ?_
  ·refine OL.rcallS rfl rfl rfl (.mk' rfl rfl rfl rfl rfl) (q168 rb l (i+k) false Hx) ?_;refine Z4 ?_;refine r1 2 (rr rb l (i+k) true::Hx) ?_;rw[z1, <-z2,z3];rfl
theorem q97(rb:Nat)(l:List U8)(i:Nat)(hl:l.length<=1048576)(hi:i<=l.length)(Hx:List Ent)  :RCall Tryz.prog 97 [.p rb 0] (rr rb l i false::Hx) (some (.i (manyV (l.drop i)),rr rb l (i+numF 5 (l.drop i)) (manyR (l.drop i)).isNone::Hx)) [] wrongA:=by
 refine aC (n:=21) Tryz.func97 λB I w0=>?_;refine Z8 ?_;have hv:=numV_lt (l.drop i);have hf:=numF_le 5 (l.drop i);rw[List.length_drop] at hf
 ·refine OL.rcallS rfl rfl rfl (.mk' rfl rfl rfl rfl rfl) (q167 rb l i hl hi Hx) ?_;refine Z5 ?_;refine CW.dp mixed ?_;refine DP.anyC 0 11 21 rfl Ye rfl rfl Ye ?_;refine Z16 ?_;refine cd (λh0=>?_) λh0=>?_
  ·have hm:manyR (l.drop i)=none:=many_bad Ybb;refine Z3 ?_
   ·refine OL.rcallS rfl rfl rfl (.mk' rfl rfl rfl rfl rfl) (q168 rb l _ _ Hx) ?_;refine Z5 ?_;refine r1 2 (rr rb l (i+numF 5 (l.drop i)) true::Hx) ?_;rw[manyV_none hm,hm];rfl
  ·obtain⟨z1,z2⟩:=many_ok (d:=l.drop i) Ybb;refine Z9 ?_;refine r1 2 (rr rb l (i+numF 5 (l.drop i)) (numberR (l.drop i)).isNone::Hx) ?_;rw[z1,z2];rfl
theorem q154(k:U8)(l L:List U8)(hL:L=k::l)(hl:l.length<140737488355328):PCall Tryz.prog 154 [u8s L] (u8s (sumR k l)):=by
 intro H;refine aC (n:=36) Tryz.func154 λB I w0=>?_;have hlen:L.length=l.length+1:=by rw[hL];rfl
 refine Z20 ?_;refine lj (λm st=>∃j:Nat,st=⟨[(9,.i j),(8,.i L.length),(7,u8s L),(3,.i (sumP (L.take j)).1),(4,.i (sumP (L.take j)).2)],H⟩/\m=L.length - j/\j<=L.length) (⟨0,rfl,rfl,Nat.zero_le _⟩) ?_;rintro m _ ⟨j,rfl,rfl,hj⟩;obtain⟨hb1,hb2⟩:=sumP_lt (L.take j);refine Z6 ?_;refine cd (λh0=>?_) λh0=>?_
 ·have hj':j<L.length:=Int.ofNat_lt.1 h0;obtain⟨x,hx⟩:∃x,x=L.getD j default:=⟨_,rfl⟩;have hst:=sumP_step hj';rw[<-hx] at hst;have hxl:=x.isLt;refine Z12 ?_;rw[<-hx];refine Z3 ?_;refine oP (POp.cv rfl rfl rfl (wrap64 Yc)) ?_;refine Z1 ?_;refine oP (POp.div rfl rfl rfl rfl rfl YL (.inr ⟨rfl,tm_sum _ _⟩)) ?_;refine Z7 ?_;refine oP (POp.div rfl rfl rfl rfl rfl YL (.inr ⟨rfl,tm_sum _ _⟩)) ?_;refine Z8 ?_;exact ag (⟨j+1,by rw[hst],rfl,hj'⟩)
 ·obtain rfl:j=L.length:=by omega
  rw[List.take_length] at hb1 hb2 ⊢;refine Z8 ?_;refine oP (POp.div rfl rfl rfl rfl rfl YL (.inl ⟨rfl,quo256 _ hb2⟩)) ?_;refine oP (POp.cv rfl rfl rfl (u8_wrap _)) ?_;refine Z1 ?_;refine oP (POp.div rfl rfl rfl rfl rfl YL (.inr ⟨rfl,rem256 _⟩)) ?_;refine oP (POp.cv rfl rfl rfl (u8_wrap _)) ?_;refine Z1 ?_;refine oP (POp.div rfl rfl rfl rfl rfl YL (.inl ⟨rfl,quo256 _ hb1⟩)) ?_;refine oP (POp.cv rfl rfl rfl (u8_wrap _)) ?_;refine Z1 ?_;refine oP (POp.div rfl rfl rfl rfl rfl YL (.inr ⟨rfl,rem256 _⟩)) ?_;refine oP (POp.cv rfl rfl rfl (u8_wrap _)) ?_;refine oP (POp.row rfl rfl Yh rfl rfl rfl rfl rfl rfl) ?_;refine Z4 ?_;refine r1 2 (H) ?_;exact⟨by rw[byteOf_mod,byteOf_mod,sumR, <-hL];rfl,rfl⟩
theorem q17(l r:List U8):PCall Tryz.prog 17 [u8s l,u8s r] (.b (l==r)):=by
 intro H;refine aC (n:=10) Tryz.func17 λB I w0=>?_;refine Z8 ?_;refine oP (POp.bytesStr (ns:=l.map λx=>(x.val:Int)) rfl YaT rfl Yg) ?_;refine Z1 ?_;refine oP (POp.bytesStr (ns:=r.map λx=>(x.val:Int)) rfl YaT rfl Yg) ?_;refine oP (POp.eqS rfl rfl rfl rfl rfl) ?_;refine Z4 ?_;refine r1 4 (H) ?_;exact⟨retB (strOf_eq l r),rfl⟩
theorem u8s_app(l r:List U8):AV.sl 1 ((l.map λx=>[u8 x])++(r.map λx=>[u8 x]))=u8s (l++r):=by rw[u8s,List.map_append]
theorem numI_nat(n:Nat):numI (n:Int)=numW n:=rfl
theorem u8s_snoc1(l:List U8)(k:U8):AV.sl 1 ((l.map λx=>[u8 x])++[[u8 k]])=u8s (l++[k]):=u8s_app l [k]
theorem rSecW(k:U8){b:List U8}{out:List U8}(hb:out.length+(secW k b).length<=1000000000)(v:Value)(H:List Ent):ACall Tryz.prog 127 [.as (u8s out) v,.i k.val,u8s b] (.own 5 1 v::H) (λy H'=>∃v',y= .as (u8s (out++secW k b)) v'/\H'= .own 5 1 v'::H) (λ_ _=>False):=by
 refine aC (n:=26) Tryz.func127 λB I w0=>?_;have hbs:out.length+(1+(numW b.length).length+b.length+4)<=1000000000:=by simp only[secW,List.length_append,sumR_len] at hb;exact hb
 refine Z9 ?_;refine oP (POp.cv rfl rfl rfl (u8_wrap8 k)) ?_;refine OL.popC (x:=.sl 1 [[u8 k]]) rfl rfl rfl (POp.row rfl rfl Yh rfl rfl rfl rfl rfl rfl) ?_;refine OL.appendC rfl rfl rfl rfl rfl rfl rfl rfl (AVle.refl _) (rfl) (λv=>by repeat (first | exact Upd.head _ _ _ | apply Upd.tail)) YD YD (λv11=>?_);refine Z2 ?_;refine bC ((CallOk.mk' rfl rfl rfl rfl rfl).le (by rw[u8s_snoc1];exact .cons (.refl _) (.cons (.refl _) .nil))) ((rNumW (n:=b.length) (out:=out++[k]) YX (by rw[List.length_append];show _+(numW b.length).length<=_;simp only[List.length_singleton];omega) _ H).b) ?_;rintro _ _ ⟨v1,rfl,rfl⟩;refine Z7 ?_;refine OL.appendC rfl rfl rfl rfl rfl rfl rfl rfl (AVle.refl _) (one_map (λ_=>rfl) b) (λv=>by repeat (first | exact Upd.head _ _ _ | apply Upd.tail)) YD YD (λv17=>?_);refine Z4 ?_;rw[u8s_app];refine Z3 ?_;refine oP (POp.cv rfl rfl rfl (u8_wrap8 k)) ?_;refine OL.rowOwn (els:=[[u8 k]]) rfl rfl rfl rfl Yh rfl rfl rfl rfl rfl rfl rfl (λv21=>?_);refine Z1 ?_;refine OL.appendC rfl rfl rfl rfl rfl rfl rfl rfl (AVle.refl _) (one_map (λ_=>rfl) b) (λv=>by repeat (first | exact Upd.head _ _ _ | apply Upd.tail)) YC YC (λv23=>?_);refine oP (POp.callLe .k (.cons (AVle.asL _ _) .nil) (q154 k b (k::b) rfl Yc)) ?_;refine OL.appendC rfl rfl rfl rfl rfl rfl rfl rfl (AVle.refl _) (one_map (λ_=>rfl) (sumR k b)) (λv=>by repeat (first | exact Upd.head _ _ _ | apply Upd.tail)) YD YD (λv25=>?_);refine Z4 ?_;refine r1 6 (.own 5 1 v25::H) ?_;exact⟨v25,by rw[u8s_app,secW];simp only[List.append_assoc];rfl,rfl⟩
theorem rObjsW{l:List Th}(hl:l.length<=40)(hx:∀x∈l,okT x){out:List U8}(hb:out.length+(listW thW l).length<=1000000000)(v:Value)(H:List Ent):ACall Tryz.prog 129 [.as (u8s out) v,AV.ths l] (.own 5 1 v::H) (λy H'=>∃v',y= .as (u8s (out++listW thW l)) v'/\H'= .own 5 1 v'::H) (λ_ _=>False):=by
 refine aC (n:=36) Tryz.func129 λB I w0=>?_;rw[listW,List.length_append] at hb;have hb0:out.length+(numI l.length).length<=1000000000:=by show _+(numW l.length).length<=_;omega
 refine Z10 ?_;refine bC .k ((rNumW (n:=l.length) YX hb0 _ H).b) ?_;rintro _ _ ⟨v1,rfl,rfl⟩;refine Z12 ?_;refine lj (λm st=>∃(i:Nat) (v':Value),st=⟨[(15,.i i),(14,.i l.length),(13,AV.ths l),(0,.as (u8s (out++numW l.length++(l.take i).flatMap thW)) v')],.own 5 1 v'::H⟩/\m=l.length - i/\i<=l.length) (⟨0,v1,Yv,rfl,Yc⟩) ?_;rintro m _ ⟨i,v',rfl,rfl,hi⟩;refine Z6 ?_;refine cd (λh0=>?_) λh0=>?_
 ·have hil:i<l.length:=by omega
  have hfl:=flat_take_len thW l (i+1);rw[flat_take thW hil,List.length_append] at hfl;obtain⟨x,hxe⟩:∃x,x=l.getD i default:=⟨_,rfl⟩;rw[<-hxe] at hfl;have hxo:okT x:=hxe▸hx _ (getD_memB hil);have hvl:=hxo.vl;have hft:=flat_take thW hil;rw[<-hxe] at hft;have e9:out++numW l.length++(l.take (i+1)).flatMap thW=out++numW l.length++(l.take i).flatMap thW++numI x.cls++x.slots.flatMap valW:=by rw[hft,thW];simp only[List.append_assoc]
  rw[thW,List.length_append] at hfl;refine Z8 ?_;refine OL.alC rfl rfl rfl rfl (λtb=>?_);refine Z4 ?_;rw[<-hxe];refine CW.freezeP (d:=6) rfl Yl ?_;refine Z4 ?_;refine bC .k ((rNumW hxo.cls Yn _ H).b) ?_;rintro _ _ ⟨v2,rfl,rfl⟩;refine Z12 ?_;refine lj (λm st=>∃(j:Nat) (v2:Value),st=⟨[(26,.i j),(25,.i x.slots.length),(24,AV.mvs x.slots),(15,.i i),(14,.i l.length),(13,AV.ths l),(0,.as (u8s (out++numW l.length++(l.take i).flatMap thW++numI x.cls++(x.slots.take j).flatMap valW)) v2)],.own 5 1 v2::H⟩/\m=x.slots.length - j/\j<=x.slots.length) (⟨0,v2,Yv,rfl,Yc⟩) ?_;rintro m _ ⟨j,v3,rfl,rfl,hj⟩;refine Z6 ?_;refine cd (λh1=>?_) λh1=>?_
  ·have hjl:j<x.slots.length:=by omega
   have hfj:=flat_take_len valW x.slots (j+1);rw[flat_take valW hjl,List.length_append] at hfj;refine Z8 ?_;refine OL.alC rfl rfl rfl rfl (λvb=>?_);refine Z3 ?_;refine CW.freezeP (d:=8) rfl Yl ?_;refine Z3 ?_;refine bC .k ((rValW (hxo.vs _ (getD_memB hjl)) Yn _ H).b) ?_;rintro _ _ ⟨v4,rfl,rfl⟩;refine Z8 ?_;exact ag (⟨j+1,v4,by rw[flat_take valW hjl, <-List.append_assoc],rfl,hjl⟩)
  ·obtain rfl:j=x.slots.length:=by omega
   rw[List.take_length];refine Z10 ?_;exact ag (⟨i+1,v3,by rw[e9],rfl,hil⟩)
 ·obtain rfl:i=l.length:=by omega
  rw[List.take_length];refine Z12 ?_;refine r1 4 (.own 5 1 v'::H) ?_;exact⟨v',by rw[listW,List.append_assoc];rfl,rfl⟩
end Go.Proofs.YtpgnjlngepfanaaGreat
