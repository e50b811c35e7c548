/- Part 13 of the proof: contracts of functions of the program and what they need. No condition beyond those that each theorem names. -/
import Derived.Test.YtpgnjlngepfanaaGreatImageLoadsP12
set_option maxHeartbeats 1000000
set_option linter.unusedVariables false
set_option linter.unusedSimpArgs false
set_option maxRecDepth 10000
namespace Go.Proofs.YtpgnjlngepfanaaGreat
open Go.Eng
open Go.Eng.Fc
open Go.Eng.Bd
open Go.Eng.Im (U8 u8 u8s sumR)
variable{x:Nd}{L:List Int}{mm:List (Int×AV)}{objs:List Th}{roots:List (Int×Int)}
theorem has_one(h:hasN21 x.op=1):nodeNum x.op=true/\ndN x=numI x.n:=by
 unfold hasN21 at h;split at h
 ·cases h
 ·rename_i h1;split at h
  ·rename_i h2;exact⟨h2,by rw[ndN,if_neg h1,if_pos h2]⟩
  ·cases h
theorem has_two(h:hasN21 x.op=2):x.op=1/\ndN x=intW x.n:=by
 unfold hasN21 at h;split at h
 ·rename_i h1;exact⟨h1,by rw[ndN,if_pos h1]⟩
 ·split at h <;> cases h
theorem has_zero(h1: ¬hasN21 x.op=1)(h2: ¬hasN21 x.op=2):ndN x= []:=by
 unfold hasN21 at h1 h2;by_cases h:x.op=1
 ·rw[if_pos h] at h2;exact absurd rfl h2
 ·rw[if_neg h] at h1;by_cases h3:nodeNum x.op=true
  ·rw[if_pos h3] at h1;exact absurd rfl h1
  ·rw[ndN,if_neg h,if_neg h3]
theorem rProgW{p:Prog}(hp:okP p):PCall Tryz.prog 128 [AV.prog p] (u8s (progW p)):=by
 intro H;refine aC (n:=129) Tryz.func128 λB I w0=>?_;have hl:=progW_len hp;simp only[progW,List.length_append] at hl;have hc1:=hp.cl;have hg1:=hp.gl;have hm1:=hp.ml;have hn1:=hp.nl;have lc:(listW clsW p.classes).length=(numW p.classes.length).length+(p.classes.flatMap clsW).length:=by rw[listW,List.length_append]
 have lm:(listW mthW p.methods).length=(numW p.methods.length).length+(p.methods.flatMap mthW).length:=by rw[listW,List.length_append]
 have ln:(listW ndW p.nodes).length=(numW p.nodes.length).length+(p.nodes.flatMap ndW).length:=by rw[listW,List.length_append]
 refine Z7 ?_;refine CW.ownNil' 5 1 ?_;refine Z4 ?_;refine bC ((CallOk.mk' rfl rfl rfl rfl rfl).le (.cons (AVle.nilAs 1) (.cons (.refl _) .nil))) ((rNumW (n:=p.classes.length) (out:=[]) YX (by show 0+(numW p.classes.length).length<=_;omega) _ H).b) ?_;rintro _ _ ⟨v1,rfl,rfl⟩;refine Z13 ?_;refine lj (λm st=>∃(i:Nat) (v2:Value),st=⟨[(21,.i i),(20,.i p.classes.length),(19,.sl 3 (p.classes.map clsA)),(3,.as (u8s (numW p.classes.length++(p.classes.take i).flatMap clsW)) v2),(1,.ptr (progC p))],.own 5 1 v2::H⟩/\m=p.classes.length - i/\i<=p.classes.length) (⟨0,v1,Yv,rfl,Yc⟩) ?_;rintro m _ ⟨i,v2,rfl,rfl,hi⟩;refine Z6 ?_;refine cd (λh0=>?_) λh0=>?_
 ·have il:i<p.classes.length:=by omega
  have hfi:=flat_take_len clsW p.classes (i+1);rw[flat_take clsW il,List.length_append] at hfi;obtain⟨x,hxe⟩:∃x,x=p.classes.getD i default:=⟨_,rfl⟩;rw[<-hxe] at hfi;have hx:=hp.cs _ (getD_memB il);rw[<-hxe] at hx;have hft:=flat_take clsW il;rw[<-hxe] at hft;have e9:numW p.classes.length++(p.classes.take (i+1)).flatMap clsW=numW p.classes.length++(p.classes.take i).flatMap clsW++listW numI x.parents++numW x.slots.length++numW x.inits.length++x.inits.flatMap initW:=by rw[hft,clsW];simp only[List.append_assoc,listW]
  simp only[clsW,List.length_append] at hfi;have li:(listW initW x.inits).length=(numW x.inits.length).length+(x.inits.flatMap initW).length:=by rw[listW,List.length_append]
  have hx1:=hx.pl;have hx2:=hx.sl;have hx3:=hx.il;refine Z8 ?_;refine OL.alC rfl rfl rfl rfl (λcb=>?_);refine Z4 ?_;rw[<-hxe];refine CW.freezeP (d:=5) rfl Yl ?_;refine CW.dp mixed ?_;refine DP.anyK (X:=noX) [⟨3,28,false⟩,⟨7,32,false⟩] (λJ=>match J with | [some w,none]=>.own 5 1 w::H | [_,some w]=>.own 5 1 w::H | _=>.own 5 1 v2::H) (λq J=>match q,J with | 0,[some w,_]=>.as (u8s (numW p.classes.length++(p.classes.take i).flatMap clsW++listW numI x.parents)) w | 1,[_,some w]=>.as (u8s (numW p.classes.length++(p.classes.take i).flatMap clsW++listW numI x.parents++numW x.slots.length)) w | _,_=>.any) 0 11 129 rfl Ye Ye rfl rfl Ye rfl (λ_ _ _ _ _ _ _ _ _ h=>h.elim) ?_;refine UD.popK [[false,false]] rfl Ye rfl rfl rfl ⟨λf=>POp.move rfl rfl rfl,trivial⟩ ?_;refine UD.popK [[false,false]] rfl Ye rfl rfl rfl ⟨λf=>Yf,trivial⟩ ?_;refine UD.popK [[false,false]] rfl Ye rfl rfl rfl ⟨λf=>Ya,trivial⟩ ?_;refine UD.effK 0 [[false,false]] rfl rfl rfl Ye rfl rfl rfl ⟨λf=>⟨KOk.bcallAs .k (λB=>(rNumsW (l:=x.parents) Yc hx.ps Yn _ H).b) (λ_=>rfl) (λ_=>rfl),Yj⟩,trivial⟩ ?_;refine UD.popK [[true,false],[false,false]] rfl Ye rfl rfl rfl ⟨λf=>Yf,λf=>Yf,trivial⟩ ?_;refine UD.popK [[true,false],[false,false]] rfl Ye rfl rfl rfl ⟨λf=>Ya,λf=>Ya,trivial⟩ ?_;refine UD.popK [[true,false],[false,false]] rfl Ye rfl rfl rfl ⟨λf=>Yw,λf=>Yw,trivial⟩ ?_;refine UD.effK 1 [[true,false]] rfl rfl rfl Ye rfl rfl rfl ⟨λf=>⟨KOk.bcallAs .k (λB=>(rNumW (n:=x.slots.length) YX YaS _ H).b) (λ_=>rfl) (λ_=>rfl),Yj⟩,trivial⟩ ?_;refine UD.popK [[true,true],[true,false],[false,false]] rfl Ye rfl rfl rfl ⟨λf=>Yf,λf=>Yf,λf=>Yf,trivial⟩ ?_;refine UD.popK [[true,true],[true,false],[false,false]] rfl Ye rfl rfl rfl ⟨λf=>Ya,λf=>Ya,λf=>Ya,trivial⟩ ?_;refine UD.popK [[true,true],[true,false],[false,false]] rfl Ye rfl rfl rfl ⟨λf=>Yw,λf=>Yw,λf=>Yw,trivial⟩ ?_;refine UD.nil (λf=>?_);simp only[kvals,List.map_cons,List.map_nil,List.cons_append,List.nil_append];refine Z1 ?_;refine bC .k ((rNumW (n:=x.inits.length) YX YaS _ H).b) ?_;rintro _ _ ⟨v3,rfl,rfl⟩;refine Z12 ?_;refine lj (λm st=>∃(j:Nat) (v4:Value),st=⟨[(40,.i j),(39,.i x.inits.length),(38,.sl 2 (x.inits.map initA)),(21,.i i),(20,.i p.classes.length),(19,.sl 3 (p.classes.map clsA)),(3,.as (u8s (numW p.classes.length++(p.classes.take i).flatMap clsW++listW numI x.parents++numW x.slots.length++numW x.inits.length++(x.inits.take j).flatMap initW)) v4),(1,.ptr (progC p))],.own 5 1 v4::H⟩/\m=x.inits.length - j/\j<=x.inits.length) (⟨0,v3,Yv,rfl,Yc⟩) ?_;rintro m _ ⟨j,v4,rfl,rfl,hj⟩;refine Z6 ?_;refine cd (λh1=>?_) λh1=>?_
  ·have jl:j<x.inits.length:=by omega
   have hfj:=flat_take_len initW x.inits (j+1);rw[flat_take initW jl,List.length_append] at hfj;have hy:=hx.is _ (getD_memB jl);obtain⟨y,hye⟩:∃y,y=x.inits.getD j default:=⟨_,rfl⟩;have hfu:=flat_take initW jl;rw[<-hye] at hy hfj hfu;simp only[initW,List.length_append] at hfj;obtain⟨o,ho⟩:∃o,o=numW p.classes.length++(p.classes.take i).flatMap clsW++listW numI x.parents++numW x.slots.length++numW x.inits.length:=⟨_,rfl⟩;have hol:=congrArg List.length ho;simp only[List.length_append] at hol;rw[<-ho];have e8:o++(x.inits.take (j+1)).flatMap initW=o++(x.inits.take j).flatMap initW++numI y.1++intW y.2:=by rw[hfu,initW];simp only[List.append_assoc]
   refine Z8 ?_;refine OL.alC rfl rfl rfl rfl (λib=>?_);refine Z3 ?_;rw[<-hye];refine CW.freezeP (d:=7) rfl Yl ?_;refine CW.dp mixed ?_;refine DP.anyK (X:=noX) [⟨3,47,false⟩] (λJ=>match J with | [some w]=>.own 5 1 w::H | _=>.own 5 1 v4::H) (λq J=>match q,J with | 0,[some w]=>.as (u8s (o++(x.inits.take j).flatMap initW++numI y.1)) w | _,_=>.any) 0 6 129 rfl Ye Ye rfl rfl Ye rfl (λ_ _ _ _ _ _ _ _ _ h=>h.elim) ?_;refine UD.popK [[false]] rfl Ye rfl rfl rfl ⟨λf=>POp.move rfl rfl rfl,trivial⟩ ?_;refine UD.popK [[false]] rfl Ye rfl rfl rfl ⟨λf=>Yf,trivial⟩ ?_;refine UD.popK [[false]] rfl Ye rfl rfl rfl ⟨λf=>Ya,trivial⟩ ?_;refine UD.effK 0 [[false]] rfl rfl rfl Ye rfl rfl rfl ⟨λf=>⟨KOk.bcallAs .k (λB=>(rNumW (hy.1) Yn _ H).b) (λ_=>rfl) (λ_=>rfl),Yj⟩,trivial⟩ ?_;refine UD.popK [[true],[false]] rfl Ye rfl rfl rfl ⟨λf=>Yf,λf=>Yf,trivial⟩ ?_;refine UD.popK [[true],[false]] rfl Ye rfl rfl rfl ⟨λf=>Ya,λf=>Ya,trivial⟩ ?_;refine UD.nil (λf=>?_);simp only[kvals,List.map_cons,List.map_nil,List.cons_append,List.nil_append];refine Z1 ?_;refine bC .k ((rIntW hy.2 Yn _ H).b) ?_;rintro _ _ ⟨v5,rfl,rfl⟩;refine Z8 ?_;exact ag (⟨j+1,v5,by rw[e8],rfl,jl⟩)
  ·obtain rfl:j=x.inits.length:=by omega
   rw[List.take_length];refine Z10 ?_;exact ag (⟨i+1,v4,by rw[e9],rfl,il⟩)
 ·obtain rfl:i=p.classes.length:=by omega
  rw[List.take_length,show numW p.classes.length++p.classes.flatMap clsW=listW clsW p.classes from rfl];refine Z6 ?_;refine CW.dp mixed ?_;refine DP.anyK (X:=noX) [⟨3,56,false⟩] (λJ=>match J with | [some w]=>.own 5 1 w::H | _=>.own 5 1 v2::H) (λq J=>match q,J with | 0,[some w]=>.as (u8s (listW clsW p.classes++listW numI p.gens)) w | _,_=>.any) 0 7 129 rfl Ye Ye rfl rfl Ye rfl (λ_ _ _ _ _ _ _ _ _ h=>h.elim) ?_;refine UD.popK [[false]] rfl Ye rfl rfl rfl ⟨λf=>POp.move rfl rfl rfl,trivial⟩ ?_;refine UD.popK [[false]] rfl Ye rfl rfl rfl ⟨λf=>Yf,trivial⟩ ?_;refine UD.popK [[false]] rfl Ye rfl rfl rfl ⟨λf=>Ya,trivial⟩ ?_;refine UD.effK 0 [[false]] rfl rfl rfl Ye rfl rfl rfl ⟨λf=>⟨KOk.bcallAs .k (λB=>(rNumsW (out:=listW clsW p.classes) (l:=p.gens) Yc hp.gs Yc _ H).b) (λ_=>rfl) (λ_=>rfl),Yj⟩,trivial⟩ ?_;refine UD.popK [[true],[false]] rfl Ye rfl rfl rfl ⟨λf=>Yf,λf=>Yf,trivial⟩ ?_;refine UD.popK [[true],[false]] rfl Ye rfl rfl rfl ⟨λf=>Ya,λf=>Ya,trivial⟩ ?_;refine UD.popK [[true],[false]] rfl Ye rfl rfl rfl ⟨λf=>Yw,λf=>Yw,trivial⟩ ?_;refine UD.nil (λf=>?_);simp only[kvals,List.map_cons,List.map_nil,List.cons_append,List.nil_append];refine Z1 ?_;refine bC .k ((rNumW (n:=p.methods.length) YX YaS _ H).b) ?_;rintro _ _ ⟨v6,rfl,rfl⟩;refine Z13 ?_;refine lj (λm st=>∃(i:Nat) (v7:Value),st=⟨[(64,.i i),(63,.i p.methods.length),(62,.sl 9 (p.methods.map mthA)),(3,.as (u8s (listW clsW p.classes++listW numI p.gens++numW p.methods.length++(p.methods.take i).flatMap mthW)) v7),(1,.ptr (progC p))],.own 5 1 v7::H⟩/\m=p.methods.length - i/\i<=p.methods.length) (⟨0,v6,Yv,rfl,Yc⟩) ?_;rintro m _ ⟨i,v7,rfl,rfl,hi⟩;refine Z6 ?_;refine cd (λh2=>?_) λh2=>?_
  ·have il:i<p.methods.length:=by omega
   have hfi:=flat_take_len mthW p.methods (i+1);rw[flat_take mthW il,List.length_append] at hfi;obtain⟨x,hxe⟩:∃x,x=p.methods.getD i default:=⟨_,rfl⟩;rw[<-hxe] at hfi;have hx:=hp.ms _ (getD_memB il);rw[<-hxe] at hx;have hft:=flat_take mthW il;rw[<-hxe] at hft;have e9:listW clsW p.classes++listW numI p.gens++numW p.methods.length++(p.methods.take (i+1)).flatMap mthW=listW clsW p.classes++listW numI p.gens++numW p.methods.length++(p.methods.take i).flatMap mthW++numI x.kind++numI x.gen++factW x.fact++numI x.node:=by rw[hft,mthW];simp only[List.append_assoc,listW]
   simp only[mthW,List.length_append] at hfi;refine Z8 ?_;refine OL.alC rfl rfl rfl rfl (λmb=>?_);refine Z3 ?_;rw[<-hxe];refine CW.freezeP (d:=9) rfl Yl ?_;refine CW.dp mixed ?_;refine DP.anyK (X:=noX) [⟨3,71,false⟩,⟨6,74,false⟩,⟨9,77,false⟩] (λJ=>match J with | [some w,none,none]=>.own 5 1 w::H | [_,some w,none]=>.own 5 1 w::H | [_,_,some w]=>.own 5 1 w::H | _=>.own 5 1 v7::H) (λq J=>match q,J with | 0,[some w,_,_]=>.as (u8s (listW clsW p.classes++listW numI p.gens++numW p.methods.length++(p.methods.take i).flatMap mthW++numI x.kind)) w | 1,[_,some w,_]=>.as (u8s (listW clsW p.classes++listW numI p.gens++numW p.methods.length++(p.methods.take i).flatMap mthW++numI x.kind++numI x.gen)) w | 2,[_,_,some w]=>.as (u8s (listW clsW p.classes++listW numI p.gens++numW p.methods.length++(p.methods.take i).flatMap mthW++numI x.kind++numI x.gen++factW x.fact)) w | _,_=>.any) 0 12 129 rfl Ye Ye rfl rfl Ye rfl (λ_ _ _ _ _ _ _ _ _ h=>h.elim) ?_;refine UD.popK [[false,false,false]] rfl Ye rfl rfl rfl ⟨λf=>POp.move rfl rfl rfl,trivial⟩ ?_;refine UD.popK [[false,false,false]] rfl Ye rfl rfl rfl ⟨λf=>Yf,trivial⟩ ?_;refine UD.popK [[false,false,false]] rfl Ye rfl rfl rfl ⟨λf=>Ya,trivial⟩ ?_;refine UD.effK 0 [[false,false,false]] rfl rfl rfl Ye rfl rfl rfl ⟨λf=>⟨KOk.bcallAs .k (λB=>(rNumW (hx.kind) Yn _ H).b) (λ_=>rfl) (λ_=>rfl),Yj⟩,trivial⟩ ?_;refine UD.popK [[true,false,false],[false,false,false]] rfl Ye rfl rfl rfl ⟨λf=>Yf,λf=>Yf,trivial⟩ ?_;refine UD.popK [[true,false,false],[false,false,false]] rfl Ye rfl rfl rfl ⟨λf=>Ya,λf=>Ya,trivial⟩ ?_;refine UD.effK 1 [[true,false,false]] rfl rfl rfl Ye rfl rfl rfl ⟨λf=>⟨KOk.bcallAs .k (λB=>(rNumW (hx.gen) Yn _ H).b) (λ_=>rfl) (λ_=>rfl),Yj⟩,trivial⟩ ?_;refine UD.popK [[true,true,false],[true,false,false],[false,false,false]] rfl Ye rfl rfl rfl ⟨λf=>Yf,λf=>Yf,λf=>Yf,trivial⟩ ?_;refine UD.popK [[true,true,false],[true,false,false],[false,false,false]] rfl Ye rfl rfl rfl ⟨λf=>Ys,λf=>Ys,λf=>Ys,trivial⟩ ?_;refine UD.effK 2 [[true,true,false]] rfl rfl rfl Ye rfl rfl rfl ⟨λf=>⟨KOk.bcallAs .k (λB=>(rFactW x.fact hx.fact Yn _ H).b) (λ_=>rfl) (λ_=>rfl),Yj⟩,trivial⟩ ?_;refine UD.popK [[true,true,true],[true,true,false],[true,false,false],[false,false,false]] rfl Ye rfl rfl rfl ⟨λf=>Yf,λf=>Yf,λf=>Yf,λf=>Yf,trivial⟩ ?_;refine UD.popK [[true,true,true],[true,true,false],[true,false,false],[false,false,false]] rfl Ye rfl rfl rfl ⟨λf=>Ya,λf=>Ya,λf=>Ya,λf=>Ya,trivial⟩ ?_;refine UD.nil (λf=>?_);simp only[kvals,List.map_cons,List.map_nil,List.cons_append,List.nil_append];refine Z1 ?_;refine bC .k ((rNumW (hx.node) Yn _ H).b) ?_;rintro _ _ ⟨v8,rfl,rfl⟩;refine Z8 ?_;exact ag (⟨i+1,v8,by rw[e9],rfl,il⟩)
  ·obtain rfl:i=p.methods.length:=by omega
   have e7:listW clsW p.classes++listW numI p.gens++numW p.methods.length++p.methods.flatMap mthW=listW clsW p.classes++listW numI p.gens++listW mthW p.methods:=List.append_assoc _ _ _;rw[List.take_length,e7];refine Z11 ?_;refine bC .k ((rNumW (n:=p.nodes.length) YX YaS _ H).b) ?_;rintro _ _ ⟨v9,rfl,rfl⟩;refine Z13 ?_;refine lj (λm st=>∃(i:Nat) (v10:Value),st=⟨[(90,.i i),(89,.i p.nodes.length),(88,.sl 3 (p.nodes.map ndA)),(3,.as (u8s (listW clsW p.classes++listW numI p.gens++listW mthW p.methods++numW p.nodes.length++(p.nodes.take i).flatMap ndW)) v10),(1,.ptr (progC p))],.own 5 1 v10::H⟩/\m=p.nodes.length - i/\i<=p.nodes.length) (⟨0,v9,Yv,rfl,Yc⟩) ?_;rintro m _ ⟨i,v10,rfl,rfl,hi⟩;refine Z6 ?_;refine cd (λh3=>?_) λh3=>?_
   ·have il:i<p.nodes.length:=by omega
    have hfi:=flat_take_len ndW p.nodes (i+1);rw[flat_take ndW il,List.length_append] at hfi;obtain⟨x,hxe⟩:∃x,x=p.nodes.getD i default:=⟨_,rfl⟩;rw[<-hxe] at hfi;have hx:=hp.ns _ (getD_memB il);rw[<-hxe] at hx;have hft:=flat_take ndW il;rw[<-hxe] at hft;have e9:listW clsW p.classes++listW numI p.gens++listW mthW p.methods++numW p.nodes.length++(p.nodes.take (i+1)).flatMap ndW=listW clsW p.classes++listW numI p.gens++listW mthW p.methods++numW p.nodes.length++(p.nodes.take i).flatMap ndW++numI x.op++ndN x++x.kids.flatMap numI:=by rw[hft,ndW];simp only[List.append_assoc,listW]
    simp only[ndW,List.length_append] at hfi;have hx1:=hx.kl;refine Z8 ?_;refine OL.alC rfl rfl rfl rfl (λnb=>?_);refine Z4 ?_;rw[<-hxe];refine CW.freezeP (d:=11) rfl Yl ?_;refine Z4 ?_;refine bC .k ((rNumW (hx.op) Yn _ H).b) ?_;rintro _ _ ⟨v11,rfl,rfl⟩;refine Z3 ?_;refine CW.cutJ (λst=>∃v12:Value,st=⟨[(11,.ptr (ndA x)),(90,.i i),(89,.i p.nodes.length),(88,.sl 3 (p.nodes.map ndA)),(3,.as (u8s (listW clsW p.classes++listW numI p.gens++listW mthW p.methods++numW p.nodes.length++(p.nodes.take i).flatMap ndW++numI x.op++ndN x)) v12),(1,.ptr (progC p))],.own 5 1 v12::H⟩) ?_ ?_
    ·refine Z4 ?_;refine oP (POp.call .k (rHas21 x.op)) ?_;refine Z9 ?_;refine cd (λh4=>?_) λh4=>?_
     ·obtain⟨hq,e⟩:=has_one h4;rw[e] at hfi ⊢;refine Z4 ?_;refine bC .k ((rNumW (hx.n hq) Yn _ H).b) ?_;rintro _ _ ⟨v13,rfl,rfl⟩;refine Z3 ?_;exact cj ⟨v13,rfl⟩
     ·refine Z6 ?_;refine cd (λh5=>?_) λh5=>?_
      ·obtain⟨hq,e⟩:=has_two h5;rw[e] at hfi ⊢;refine Z4 ?_;refine bC .k ((rIntW (hx.i hq) Yn _ H).b) ?_;rintro _ _ ⟨v13,rfl,rfl⟩;refine Z3 ?_;exact cj ⟨v13,rfl⟩
      ·have e:=has_zero h4 h5;rw[e,List.append_nil];refine Z2 ?_;exact cj ⟨v11,rfl⟩
    ·rintro _ ⟨v12,rfl⟩;refine Z9 ?_;refine lj (λm st=>∃(j:Nat) (v14:Value),st=⟨[(116,.i j),(115,.i x.kids.length),(114,.sl 1 (x.kids.map (λn=>[AV.i n]))),(90,.i i),(89,.i p.nodes.length),(88,.sl 3 (p.nodes.map ndA)),(3,.as (u8s (listW clsW p.classes++listW numI p.gens++listW mthW p.methods++numW p.nodes.length++(p.nodes.take i).flatMap ndW++numI x.op++ndN x++(x.kids.take j).flatMap numI)) v14),(1,.ptr (progC p))],.own 5 1 v14::H⟩/\m=x.kids.length - j/\j<=x.kids.length) (⟨0,v12,Yv,rfl,Yc⟩) ?_;rintro m _ ⟨j,v14,rfl,rfl,hj⟩;refine Z6 ?_;refine cd (λh6=>?_) λh6=>?_
     ·have jl:j<x.kids.length:=by omega
      have hfj:=flat_take_len numI x.kids (j+1);rw[flat_take numI jl,List.length_append] at hfj;refine Z14 ?_;refine bC .k ((rNumW (hx.kids _ (getD_memB jl)) Yn _ H).b) ?_;rintro _ _ ⟨v15,rfl,rfl⟩;refine Z8 ?_;exact ag (⟨j+1,v15,by rw[flat_take numI jl, <-List.append_assoc],rfl,jl⟩)
     ·obtain rfl:j=x.kids.length:=by omega
      rw[List.take_length];refine Z10 ?_;exact ag (⟨i+1,v14,by rw[e9],rfl,il⟩)
   ·obtain rfl:i=p.nodes.length:=by omega
    have e7:listW clsW p.classes++listW numI p.gens++listW mthW p.methods++numW p.nodes.length++p.nodes.flatMap ndW=listW clsW p.classes++listW numI p.gens++listW mthW p.methods++listW ndW p.nodes:=List.append_assoc _ _ _;rw[List.take_length,e7];refine Z10 ?_;refine bC .k ((rNumW (hp.main) Yn _ H).b) ?_;rintro _ _ ⟨v16,rfl,rfl⟩;refine Z4 ?_;refine Done.retR (rs:=[.tmp 2]) (H':=H) rfl (.tmp rfl (.nil)) (.cons (AVle.asL _ _) .nil) Yb ?_;exact⟨Yaw,rfl⟩
def move1(h:Int->Int)(v:Int×Int):Int×Int:=if v.1=3 then (3,h v.2) else v
def placeP(L:List Int)(n:Int):Int:=if n∈L then idxB L n else 0
def objW(L:List Int)(objs:List Th)(n:Int):Th:=⟨(thOf objs n).cls,(thOf objs n).slots.map (move1 (placeP L))⟩
def partB(p:Prog)(objs:List Th)(roots:List (Int×Int)):List U8:=sumR 1 (progW p)++listW valW (roots.map (move1 (placeP (reachP objs roots))))++listW (λn=>thW (objW (reachP objs roots) objs n)) (reachP objs roots)
def partP(p:Prog)(objs:List Th)(roots:List (Int×Int)):List U8:=[67,80]++secW 3 (partB p objs roots)
def partQ(p:Prog)(objs:List Th)(roots:List (Int×Int)):List U8:=if askedP p objs roots then partP p objs roots else []
theorem mvs_snoc(o:List (Int×Int))(x:Int×Int):AV.mvs (o++[x])= .sl 2 ((o.map initA)++[initA x]):=by
 show AV.sl 2 (List.map _ (_++_))=_;rw[List.map_append];rfl
theorem one_mvs(l:List (Int×Int)):(l.map initA).all allOne=true:=by
 rw[List.all_eq_true];intro x hx;obtain⟨a,_,rfl⟩:=List.mem_map.1 hx;rfl
theorem map_take1{α β:Type}[Inhabited α](f:α->β){l:List α}{i:Nat}(hi:i<l.length):(l.take (i+1)).map f=(l.take i).map f++[f (l.getD i default)]:=by rw[<-take_getD hi,List.map_append];rfl
def NumOk(P:Program)(Hm:List Ent)(g:AV)(h:Int->Int)(ok:Int->Prop):Prop:=∀B (H:List Ent),(∀e∈Hm,e∈H)->∀n,ok n->VCall B P g [.i n] H (λy H'=>y= .i (h n)/\H'=H) (λ_ _=>False)
theorem movedC{Hm:List Ent}{g:Fn}{gs gc:List AV}{h:Int->Int}{ok:Int->Prop}(hg:NumOk Tryz.prog Hm (.fn g gs gc) h ok){l:List (Int×Int)}(hl:∀v∈l,v.1=3->ok v.2)(hll:l.length<=1000000):PCallIn Tryz.prog Hm 95 [AV.mvs l,.fn g gs gc] (AV.mvs (l.map (move1 h))):=by
 intro H hm;refine aC (n:=28) Tryz.func95 λB I w0=>?_;refine Z12 ?_;refine CW.ownNil 5 60 2 rfl ?_;refine Z7 ?_;refine lj (λm st=>∃(i:Nat) (v:Value),st=⟨[(5,.as (AV.mvs ((l.take i).map (move1 h))) v),(10,.i i),(9,.i l.length),(8,AV.mvs l),(1,.fn g gs gc)],.own 60 2 v::H⟩/\m=l.length - i/\i<=l.length) (⟨0,_,rfl,rfl,Yc⟩) ?_;rintro m _ ⟨i,v,rfl,rfl,hi⟩;refine Z6 ?_;refine cd (λh0=>?_) λh0=>?_
 ·have hil:i<l.length:=by omega
  obtain⟨X,hX⟩:∃X,X=l.getD i default:=⟨_,rfl⟩;have hXl:=hl X (hX▸getD_memB hil);have hmt:=map_take1 (move1 h) hil;rw[<-hX] at hmt;refine Z8 ?_;refine OL.alC rfl rfl rfl rfl (λb7=>?_);refine Z3 ?_;refine CW.cutJ (λst=>st=⟨[(7,.p b7 0),(5,.as (AV.mvs ((l.take i).map (move1 h))) v),(10,.i i),(9,.i l.length),(8,AV.mvs l),(1,.fn g gs gc)],.blk b7 60 (initA (move1 h X))::.own 60 2 v::H⟩) ?_ ?_
  ·refine Z1 ?_;rw[<-hX];refine Z6 ?_;refine cd (λh1=>?_) λh1=>?_
   ·obtain⟨x1,x2⟩:=X;simp only at h1;subst h1;have he:move1 h (3,x2)=(3,h x2):=by rw[move1,if_pos rfl]
    refine Z4 ?_;refine OL.vcallC rfl rfl rfl rfl rfl rfl rfl rfl (AVleL.refl _) (hg B _ (λe he=>.tail _ (.tail _ (hm e he))) x2 (hXl rfl)) ?_;rintro _ _ ⟨rfl,rfl⟩;refine Z3 ?_;rw[he];exact cj rfl
   ·have he:move1 h X=X:=by rw[move1,if_neg h1]
    refine Z1 ?_;rw[he];exact cj rfl
  ·rintro _ rfl;refine Z3 ?_;refine OL.popC (x:=.sl 2 [initA (move1 h X)]) rfl rfl rfl (POp.row rfl rfl Yh rfl rfl rfl rfl rfl rfl) ?_;refine OL.appendC rfl rfl rfl rfl rfl rfl rfl rfl (AVle.refl _) (rfl) (λv=>by repeat (first | exact Upd.head _ _ _ | apply Upd.tail)) YC YC (λv25=>?_);refine Z8 ?_;exact ag (⟨i+1,v25,by rw[hmt,mvs_snoc],rfl,hil⟩)
 ·obtain rfl:i=l.length:=by omega
  rw[List.take_length];refine Z12 ?_;refine Done.retR (rs:=[.tmp 4]) (H':=H) rfl (.tmp rfl (.nil)) (.cons (AVle.asL _ _) .nil) Yb ?_;exact⟨Yaw,rfl⟩
abbrev rtE(xb mb:Nat)(v:Value)(L:List Int)(mm:List (Int×AV)):List Ent:=[.blk xb 123 [.as (AV.ints L) v,.val (.map (some mb))],imapE mb mm]
theorem lookP_le{m:List (Int×AV)}{l:List Int}(h:MapAt m l)(k:Int):AVle ((getI m k).getD (.val (.int .i64 0))) (.i (placeP l k)):=by
 rw[h.get,placeP];split <;> exact AVle.refl _
theorem placeC(hM:MapAt mm L)(xb mb:Nat)(v:Value){n:Int}(hn:smallKey n):PCallIn Tryz.prog (rtE xb mb v L mm) 156 [.i n,.ptr [.p xb 0]] (.i (placeP L n)):=by
 intro H hm;refine aC (n:=10) Tryz.func156 λB I w0=>?_;refine Z10 ?_;refine oP (Yav) ?_;refine Z1 ?_;refine oP (POp.le (POp.lookupI rfl rfl rfl rfl rfl (hm _ (.tail _ (.head _))) hM.ok hn) (lookP_le hM n)) ?_;refine Z4 ?_;refine r1 3 (H) ?_;exact⟨Yaw,rfl⟩
theorem place_ok(hM:MapAt mm L)(xb mb:Nat)(v:Value):NumOk Tryz.prog (rtE xb mb v L mm) (.fn (.func 156) [] [.ptr [.p xb 0]]) (placeP L) smallKey:=λB H hm n hn=>VCall.fn (placeC hM xb mb v hn H hm)
structure PartOk(objs:List Th)(L:List Int):Prop where
 ol:objs.length<=40
 rt:RouteOk objs.length L
 vs:∀t∈objs,t.slots.all (valueP objs.length)=true
 os:∀t∈objs,okT t
theorem place_in(h:PartOk objs L)(n:Int):0<=placeP L n/\placeP L n<=40:=by
 have h1:=h.rt.len;have h2:=h.ol;unfold placeP;split
 ·rename_i hm;have h3:idxB L n>=0:=by have:=idxB_contains L n;rw[List.contains_iff_mem.2 hm,decide_eq_true_eq] at this;exact this
  refine⟨h3,?_⟩;unfold idxB at h3 ⊢;split
  ·rename_i i hi;have:=(List.findIdx?_eq_some_iff_getElem.1 hi).1;omega
  ·omega
 ·omega
theorem move_ok(h:PartOk objs L){v:Int×Int}(hv:valueP objs.length v=true):okVal (move1 (placeP L) v):=by
 have h1:=okVal_of (by have:=h.ol;omega) hv;unfold move1;split
 ·have:=place_in h v.2;exact⟨YX,λe=>(by cases e),λ_=>by unfold okN;omega⟩
 ·exact h1
theorem obj_ok(h:PartOk objs L){n:Int}(hn:n∈L):okT (objW L objs n):=by
 have h1:=h.rt.in_ n hn;have hm:thOf objs n∈objs:=getD_memB Yc;have h2:=h.os _ hm;refine⟨h2.cls,λv hv=>?_,by rw[objW,List.length_map];exact h2.vl⟩;obtain⟨y,hy,rfl⟩:=List.mem_map.1 hv;exact move_ok h (List.all_eq_true.1 (h.vs _ hm) y hy)
theorem key_of{n:Nat}(hn:n<=1000000){v:Int×Int}(h:valueP n v=true):smallKey v.2:=by have:=valueP_key hn h;unfold smallKey;omega
theorem part21(hO:PartOk objs L){mm:List (Int×AV)}(hM:MapAt mm L)(xb mb:Nat)(v1:Value){n:Int}(hn:n∈L)(wb:Nat){out:List U8}(hb:out.length+(thW (objW L objs n)).length<=1000000000)(v:Value)(H:List Ent)(hm:∀e∈rtE xb mb v1 L mm,e∈H):
  ACall Tryz.prog 159 [.i n,.ptr [.p wb 0],.ptr [AV.ths objs],.ptr [.fn (.func 156) [] [.ptr [.p xb 0]]]] (wrE wb (out) v H) (λ_ H'=>∃v',H'=wrE wb (out++thW (objW L objs n)) v' H) (λ_ _=>False):=by
 refine aC (n:=20) Tryz.func159 λB I w0=>?_;have hni:=hO.rt.in_ n hn;have hTm:thOf objs n∈objs:=getD_memB Yc;have hTv:=hO.vs _ hTm;have hTo:=hO.os _ hTm;have hol:=hO.ol;have hvl:=hTo.vl;refine CW.dp mixed ?_;refine DP.anyC 0 14 20 rfl Ye rfl rfl Ye ?_;refine Z12 ?_;refine AD.popC rfl rfl rfl (POp.callIn .k (AVleL.refl _) (movedC (l:=(thOf objs n).slots) (place_ok hM xb mb v1) (λv hv _=>key_of Yc (List.all_eq_true.1 hTv v hv)) Yc) (λe he=>.tail _ (.tail _ (hm e he)))) ?_;refine Z3 ?_;refine bC .k ((objectC (obj_ok hO hn) wb hb _ H).b) ?_;rintro y _ ⟨v2,rfl⟩;refine Z1 ?_;refine nR [] (wrE wb (out++thW (objW L objs n)) v2 H) ?_;exact⟨v2,rfl⟩
def partL(p:Prog)(objs:List Th)(roots:List (Int×Int))(L:List Int):List U8:=sumR 1 (progW p)++listW valW (roots.map (move1 (placeP L)))++listW (λn=>thW (objW L objs n)) L
theorem one_u8s(l:List U8):(l.map λx=>[u8 x]).all allOne=true:=by
 rw[List.all_eq_true];intro x hx;obtain⟨a,_,rfl⟩:=List.mem_map.1 hx;rfl
theorem partL_len{p:Prog}(hO:PartOk objs L)(hr:roots.all (valueP objs.length)=true)(hrl:roots.length<=20):(partL p objs roots L).length<=20000:=by
 have h1:=listW_len (f:=valW) (l:=roots.map (move1 (placeP L))) (M:=12) (K:=20) (λv hv=>by
  obtain⟨y,hy,rfl⟩:=List.mem_map.1 hv;exact valW_len (move_ok hO (List.all_eq_true.1 hr y hy))) (by rw[List.length_map];exact hrl) YL
 have h2:=listW_len (f:=λn=>thW (objW L objs n)) (l:=L) (M:=486) (K:=40) (λn hn=>thW_len (obj_ok hO hn)) (by have:=hO.rt.len;have:=hO.ol;omega) YL;simp only[partL,List.length_append,sumR_len];omega
theorem part2{p:Prog}(hp:okP p){objs:List Th}{roots:List (Int×Int)}{L:List Int}(hO:PartOk objs L)(hr:roots.all (valueP objs.length)=true)(hrl:roots.length<=20){mm:List (Int×AV)}(hM:MapAt mm L)(xb mb:Nat)(v1:Value)(wb:Nat)(v:Value)(H:List Ent)(hm:∀e∈rtE xb mb v1 L mm,e∈H):
  ACall Tryz.prog 157 [.p wb 0,.ptr (progC p),.ptr [AV.mvs roots],.ptr [.fn (.func 156) [] [.ptr [.p xb 0]]],.ptr [.p xb 0],.ptr [AV.ths objs]] (wrE wb ([]) v H) (λ_ H'=>∃v',H'=wrE wb (partL p objs roots L) v' H) (λ_ _=>False):=by
 refine aC (n:=33) Tryz.func157 λB I w0=>?_;have hol:=hO.ol;have hLl:=hO.rt.len;have hpl:=partL_len (p:=p) hO hr hrl;simp only[partL,List.length_append] at hpl;refine Z6 ?_;refine CW.dp mixed ?_;refine DP.anyK (X:=noX) [⟨8,15,false⟩] (λJ=>match J with | [some v2]=>.own 5 1 v2::.blk wb 99 [.as (u8s []) v]::H | _=>wrE wb [] v H) (λq J=>match q,J with | 0,[some v2]=>.as (.sl 1 ([]++((sumR 1 (progW p)).map λx=>[u8 x]))) v2 | _,_=>.any) 0 9 33 rfl Ye Ye rfl rfl Ye rfl (λ_ _ _ _ _ _ _ _ _ h=>h.elim) ?_;refine UD.popK [[true],[false]] rfl Ye rfl rfl rfl ⟨λf=>Ya,λf=>Ya,trivial⟩ ?_;refine UD.popK [[false]] rfl Ye rfl rfl rfl ⟨λf=>Ya,trivial⟩ ?_;refine UD.popK [[false]] rfl Ye rfl rfl rfl ⟨λf=>Yr,trivial⟩ ?_;refine UD.popK [[false]] rfl Ye rfl rfl rfl ⟨λf=>Yf,trivial⟩ ?_;refine UD.popK [[false]] rfl Ye rfl rfl rfl ⟨λf=>Yf,trivial⟩ ?_;refine UD.popK [[false]] rfl Ye rfl rfl rfl ⟨λf=>Ya,trivial⟩ ?_;refine UD.popK [[false]] rfl Ye rfl rfl rfl ⟨λf=>Ys,trivial⟩ ?_;refine UD.popK [[false]] rfl Ye rfl rfl rfl ⟨λf=>POp.call .k (keyC hp),trivial⟩ ?_;refine UD.effK 0 [[false]] rfl rfl rfl Ye rfl rfl rfl ⟨λf=>⟨KOk.own (news:=((sumR 1 (progW p)).map λx=>[u8 x])) rfl rfl rfl (AVle.refl _) rfl rfl (AVle.refl _) (one_u8s _) (by simp[sumR_len]) (by simp[sumR_len]) (λ_=>.head _ _ _) (λ_=>rfl),Yj⟩,trivial⟩ ?_;refine UD.nil (λf=>?_);simp only[kvals,List.map_cons,List.map_nil,List.cons_append,List.nil_append];refine Z8 ?_;refine CW.dp mixed ?_;refine DP.anyC 0 6 33 rfl Ye rfl rfl Ye ?_;refine Z3 ?_;refine AD.popC rfl rfl rfl (POp.callIn .k (AVleL.refl _) (movedC (l:=roots) (place_ok hM xb mb v1) (λv hv _=>key_of Yc (List.all_eq_true.1 hr v hv)) Yc) (λe he=>.tail _ (.tail _ (hm e he)))) ?_;refine Z4 ?_;refine bC .k ((writtenV (f:=valW) (l:=roots.map (move1 (placeP L))) (out:=sumR 1 (progW p)) Yaa (WrOk.fn (λx hx o u hu=>by obtain⟨y,hy,rfl⟩:=List.mem_map.1 hx;exact valueW (move_ok hO (List.all_eq_true.1 hr y hy)) wb hu u H)) Yc _).b) ?_;rintro y _ ⟨v3,rfl⟩;refine Z2 ?_;refine CW.dp mixed ?_;refine DP.anyC 0 6 33 rfl Ye rfl rfl Ye ?_;refine Z4 ?_;refine AD.popC rfl rfl rfl ((by first | exact POp.ld1 rfl rfl rfl rfl | (apply POp.ld1H rfl rfl rfl;(case hm=>exact .tail _ (.tail _ (hm _ (.head _))));(case hy=>rfl)))) ?_;refine Z3 ?_;refine bC ((CallOk.mk' rfl rfl rfl rfl rfl).le (.cons (.refl _) (.cons (AVle.asL _ _) (.cons (.refl _) .nil)))) ((writtenI (f:=λn=>thW (objW L objs n)) (l:=L) Yc (WrOk.fn (λn hn o u hu=>part21 hO hM xb mb v1 hn wb hu u H hm)) Yak _).b) ?_;rintro y _ ⟨v4,rfl⟩;refine Z1 ?_;refine nR [] (wrE wb (sumR 1 (progW p)++listW valW (roots.map (move1 (placeP L)))++listW (λn=>thW (objW L objs n)) L) v4 H) ?_;exact⟨v4,rfl⟩
structure AskOk(p:Prog)(objs:List Th)(roots:List (Int×Int)):Prop where
 p:okP p
 po:PartOk objs (reachP objs roots)
 rs:roots.all (valueP objs.length)=true
 rl:roots.length<=20
theorem ask_ok{p:Prog}(h:askedP p objs roots=true):AskOk p objs roots:=by
 obtain⟨h1,h2,h3,h4⟩:=asked_parts h;simp only[askedP,Bool.and_eq_true] at h;obtain⟨h5,h6,h7⟩:=ok_of h.1;obtain⟨i,h8,_⟩:=reach_ok h3 h4;exact⟨h5,⟨h1,h8.ok,h4,h7⟩,h3,h2⟩
theorem partedC{p:Prog}(hk:AskOk p objs roots):PCall Tryz.prog 81 [AV.prog p,AV.ths objs,AV.mvs roots] (u8s (partP p objs roots)):=by
 intro H;refine aC (n:=23) Tryz.func81 λB I w0=>?_;have hpl:=partL_len (p:=p) hk.po hk.rs hk.rl;have hsl:=secW_len (k:=3) (b:=partL p objs roots (reachP objs roots)) Yc;refine Z12 ?_;refine bC .k ((reachC hk.po.ol hk.rs hk.po.vs H).b) ?_;rintro y _ ⟨xb,mb,v,mm,rfl,hM,rfl⟩;refine OL.alC rfl rfl rfl rfl (λb7=>?_);refine Z4 ?_;refine CW.freezeP (d:=7) rfl Yl ?_;refine Z2 ?_;refine OL.alC rfl rfl rfl rfl (λb8=>?_);refine Z4 ?_;refine CW.freezeP (d:=8) rfl Yl ?_;refine Z1 ?_;refine bC .k ((begunC 80 _).b) ?_;rintro y _ ⟨wb,v0,rfl,rfl⟩;refine Z7 ?_;refine bC (.mk' rfl rfl rfl rfl rfl) ((sectionC wb 3 (body:=partL p objs roots (reachP objs roots)) (by show 2+_<=_;omega) (λB ib u=>VCall.fn (part2 hk.p hk.po hk.rs hk.rl hM xb mb v ib u _ (λe he=>.tail _ (.tail _ (.tail _ (List.mem_append_left H he))))))).b) ?_;rintro y _ ⟨v2,rfl⟩;refine Z13 ?_;refine Done.retR (rs:=[.tmp 6]) (H':=H) rfl (.tmp rfl (.nil)) (.cons (AVle.asL _ _) .nil) Yb ?_;exact⟨Yaw,rfl⟩
theorem partC{p:Prog}(hp:p.Small)(objs:List Th)(roots:List (Int×Int)):PCall Tryz.prog 27 [AV.prog p,AV.ths objs,AV.mvs roots] (.tup [u8s (partQ p objs roots),.i (if askedP p objs roots then 0 else 2)]):=by
 intro H;refine aC (n:=17) Tryz.func27 λB I w0=>?_;refine Z13 ?_;refine oP (POp.call .k (askedC hp objs roots)) ?_;refine Z3 ?_;refine CW.cond rfl (λh0=>?_) (λh0=>?_)
 ·have ha:askedP p objs roots=false:=by simpa using h0
  refine Z8 ?_;refine Done.retR (rs:=[.tmp 6,.tmp 7]) (H':=H) rfl (.tmp rfl (.tmp rfl (.nil))) (.cons (AVle.nil 1) (.cons (.refl _) .nil)) Yb ?_;exact⟨by rw[partQ,ha];rfl,rfl⟩
 ·have ha:askedP p objs roots=true:=by simpa using h0
  refine Z7 ?_;refine oP (POp.call .k (partedC (ask_ok ha))) ?_;refine Z5 ?_;refine rR [.tmp 6,.tmp 7] (H) ?_;exact⟨by rw[partQ,ha];rfl,rfl⟩
def alikeP(p:Prog)(objs:List Th)(roots:List (Int×Int))(others:List Th)(otherRoots:List (Int×Int)):Bool:=askedP p objs roots && askedP p others otherRoots && (partP p objs roots==partP p others otherRoots)
theorem alikeC{p:Prog}(hp:p.Small)(objs:List Th)(roots:List (Int×Int))(others:List Th)(otherRoots:List (Int×Int)):PCall Tryz.prog 33 [AV.prog p,AV.ths objs,AV.mvs roots,AV.ths others,AV.mvs otherRoots] (.tup [.b (alikeP p objs roots others otherRoots),.i (if(askedP p objs roots && askedP p others otherRoots) then 0 else 2)]):=by
 intro H;refine aC (n:=33) Tryz.func33 λB I w0=>?_;refine Z13 ?_;refine oP (POp.call .k (askedC hp objs roots)) ?_;refine Z5 ?_;refine OL.guardC rfl rfl rfl rfl rfl rfl (λhg=>POp.call (.mk' rfl rfl rfl rfl Yd) (askedC hp others otherRoots)) ?_;refine Z4 ?_;refine CW.cond rfl (λh0=>?_) (λh0=>?_)
 ·have ha:(askedP p objs roots && askedP p others otherRoots)=false:=by cases h1:askedP p objs roots <;> cases h2:askedP p others otherRoots <;> simp_all
  refine Z8 ?_;refine rR [.tmp 10,.tmp 11] (H) ?_;exact⟨by rw[alikeP,ha];rfl,rfl⟩
 ·have ha:askedP p objs roots=true/\askedP p others otherRoots=true:=by cases h1:askedP p objs roots <;> cases h2:askedP p others otherRoots <;> simp_all
  refine Z3 ?_;refine CW.dp mixed ?_;refine DP.anyC 0 7 33 rfl Ye rfl rfl Ye ?_;refine Z3 ?_;refine AD.popC rfl rfl rfl (POp.call .k (partedC (ask_ok ha.1))) ?_;refine Z5 ?_;refine oP (POp.call .k (partedC (ask_ok ha.2))) ?_;refine oP (POp.call .k (eqBytes _ _)) ?_;refine Z5 ?_;refine rR [.tmp 10,.tmp 11] (H) ?_;exact⟨by rw[alikeP,ha.1,ha.2];rfl,rfl⟩
end Go.Proofs.YtpgnjlngepfanaaGreat

namespace Go.Eng.Bd
open Go.Eng.Fc
open Go.Eng.Im (U8 numberR manyR)
variable{σ α β:Type}{l l0 l':List U8}{n:Nat}
abbrev Rd(σ α:Type):=σ->List U8->Option (α×σ×List U8)
def thenR(R:Rd σ α)(k:α->Rd σ β):Rd σ β:=λs l=>match R s l with | none=>none | some (a,s',l')=>k a s' l'
def doneR(a:α):Rd σ α:=λs l=>some (a,s,l)
def needR(b:Bool)(R:Rd σ α):Rd σ α:=λs l=>if b then R s l else none
def numR:Rd σ Int:=λs l=>match numberR l with | none=>none | some (n,l')=>some ((n:Int),s,l')
def manyRd:Rd σ Nat:=λs l=>match manyR l with | none=>none | some (n,l')=>some (n,s,l')
def znOf(n:Int):Int:=if n%2=1 then -(n / 2) - 1 else n / 2
def intR:Rd σ Int:=thenR numR λn=>doneR (znOf n)
def timesR{σ α:Type}(R:Rd σ α):Nat->Rd σ (List α)
 | 0,s,l=>some ([],s,l)
 | n+1,s,l=>match R s l with
  | none=>none
  | some (y,s1,l1)=>match timesR R n s1 l1 with
   | none=>none
   | some (ys,s2,l2)=>some (y::ys,s2,l2)
def listR(R:Rd σ α):Rd σ (List α):=thenR manyRd λn=>timesR R n
def initR:Rd σ (Int×Int):=thenR numR λa=>thenR intR λb=>doneR (a,b)
def slotsFrom(s:Int)(n:Nat):List Int:=(List.range n).map λ(k:Nat)=>s+(k:Int)
def clsR:Rd Int Cls:=thenR (listR numR) λps=>thenR numR λn=>needR (decide (n<=4)) λs l=>(thenR (listR initR) λis=>doneR ⟨ps,slotsFrom s n.toNat,is⟩) (s+n) l
def kidCnt(op:Int):Nat:=if op=5 then 1 else if op=6\/op=7 then 2 else 0
def opR(op:Int):Bool:=decide (1<=op) && decide (op<=7)
def factB(R:Rd Nat Fact)(op:Int):Rd Nat Fact:=
 if op=2 then thenR numR λa=>thenR (listR numR) λps=>thenR numR λc=>doneR (.mk op a ps c 0 [])
 else if op=3\/op=4 then thenR numR λa=>thenR (listR numR) λps=>thenR intR λn=>doneR (.mk op a ps 0 n [])
 else thenR (timesR R (kidCnt op)) λks=>doneR (.mk op 0 [] 0 0 ks)
def factR:Nat->Rd Nat Fact
 | 0,_,_=>none
 | f+1,0,_=>none
 | f+1,left+1,l=>(thenR numR λop=>needR (opR op) (factB (factR f) op)) left l
def mthR:Rd σ Mth:=thenR numR λk=>thenR numR λg=>λs l=>match factR 24 24 l with
 | none=>none
 | some (f,_,l1)=>(thenR numR λn=>doneR ⟨k,g,f,n⟩) s l1
def kidsN(gens:List Int)(op n:Int):Option Int:=
 if op=1\/op=2\/op=3\/op=6\/op=18 then some 0 else if op=4\/op=8\/op=17 then some 1 else if op=10 then some 3
 else if op=5 then (if n<gens.length/\gens.getD n.toNat default<=3 then some (gens.getD n.toNat default) else none) else some 2
def ndNR(op:Int):Rd σ Int:=if op=1 then intR else if nodeNum op then numR else doneR 0
def ndR(gens:List Int):Rd σ Nd:=thenR numR λop=>needR (decide (1<=op) && decide (op<=18)) (thenR (ndNR op) λn=>match kidsN gens op n with
 | none=>λ_ _=>none
 | some k=>thenR (timesR numR k.toNat) λks=>doneR ⟨op,n,ks⟩)
def progT(cs:List Cls)(s:Int):Rd Unit Prog:=thenR (listR numR) λgs=>thenR (listR mthR) λms=>thenR (listR (ndR gs)) λns=>thenR numR λm=>doneR ((⟨cs,s,gs,ms,ns,m⟩:Prog))
def progR:List U8->Option (Prog×List U8):=λl=>match listR clsR 0 l with
 | none=>none
 | some (cs,s,l1)=>(progT cs s () l1).map λq=>(q.1,q.2.2)
theorem progR_some{l l1:List U8}{cs:List Cls}{s:Int}(h:listR clsR 0 l=some (cs,s,l1)):progR l=(progT cs s () l1).map λq=>(q.1,q.2.2):=by rw[progR,h]
def valR:Rd σ (Int×Int):=thenR numR λk=>if k=1 then thenR intR λn=>doneR (k,n) else if k=3 then thenR numR λn=>doneR (k,n) else needR (k==2) (doneR (k,0))
def thR(p:Prog):Rd σ Th:=thenR numR λc=>needR (ownC p c) (thenR (timesR valR (hasP p c).length) λvs=>doneR ⟨c,vs⟩)
theorem times_snoc{R:Rd σ α}{s0:σ}{i:Nat}(hi:i<n){out:List α}{s:σ}{l:List U8}(h:timesR R n s0 l0=(timesR R (n - i) s l).map λp=>(out++p.1,p.2.1,p.2.2)):
  (R s l=none->timesR R n s0 l0=none)/\∀y s' l',R s l=some (y,s',l')->timesR R n s0 l0=(timesR R (n - (i+1)) s' l').map λp=>(out++[y]++p.1,p.2.1,p.2.2):=by
 rw[show n - i=n - (i+1)+1 by omega,timesR] at h;refine⟨λhn=>by rw[h,hn];rfl,λy s' l' hy=>?_⟩;rw[h,hy];rcases hq:timesR R (n - (i+1)) s' l' with _ | ⟨a,b,c⟩
 ·simp only[hq];rfl
 ·simp only[hq];simp
theorem times_end{R:Rd σ α}{s0:σ}{out:List α}{s:σ}(h:timesR R n s0 l0=(timesR R (n - n) s l).map λp=>(out++p.1,p.2.1,p.2.2)):timesR R n s0 l0=some (out,s,l):=by
 rw[h,Nat.sub_self,timesR];simp
theorem times_begin(R:Rd σ α)(n:Nat)(s:σ)(l:List U8):timesR R n s l=(timesR R (n - 0) s l).map λp=>([]++p.1,p.2.1,p.2.2):=by
 rw[Nat.sub_zero];cases timesR R n s l <;> simp
theorem thenR_some{R:Rd σ α}{k:α->Rd σ β}{s s':σ}{a:α}(h:R s l=some (a,s',l')):thenR R k s l=k a s' l':=by rw[thenR,h]
theorem thenR_none{R:Rd σ α}{k:α->Rd σ β}{s:σ}(h:R s l=none):thenR R k s l=none:=by rw[thenR,h]
theorem numR_some{s:σ}(h:numberR l=some (n,l')):numR s l=some ((n:Int),s,l'):=by rw[numR,h]
theorem numR_none{s:σ}(h:numberR l=none):numR s l=none:=by rw[numR,h]
theorem needR_yes{b:Bool}{R:Rd σ α}{s:σ}(h:b=true):needR b R s l=R s l:=by rw[needR,if_pos h]
theorem needR_no{b:Bool}{R:Rd σ α}{s:σ}(h:b=false):needR b R s l=none:=by rw[needR,h];rfl
end Go.Eng.Bd

namespace Go.Proofs.YtpgnjlngepfanaaGreat
open Go.Eng
open Go.Eng.Fc
open Go.Eng.Bd
open Go.Eng.Im (U8 u8 u8s sumR numberR manyR numR_lt)
variable{σ α:Type}{rb n:Nat}{l r l':List U8}{g:Fn}{gs gc:List AV}
abbrev rdO(rb:Nat)(S:σ->List Ent)(Hx:List Ent)(enc:α->AV)(o:Option (α×σ×List U8)):Option (AV×List Ent):=o.map λp=>(enc p.1,rdr rb p.2.2::(S p.2.1++Hx))
def RdOk(P:Program)(rb:Nat)(S:σ->List Ent)(g:AV)(R:Rd σ α)(enc:α->AV)(I:σ->List U8->Prop):Prop:=∀B Hx s l,I s l->
 (∀y s' l',R s l=some (y,s',l')->I s' l'/\VCall B P g [] (rdr rb l::(S s++Hx)) (λu H'=>u=enc y/\H'=rdr rb l'::(S s'++Hx)) (λ_ _=>False))/\
 (R s l=none->VCall B P g [] (rdr rb l::(S s++Hx)) (λ_ _=>False) (λu H'=>u=wrongA/\H'=Hx))
theorem RdOk.of{P:Program}{S:σ->List Ent}{fid:FuncId}{fs cs:List AV}{R:Rd σ α}{enc:α->AV}{I:σ->List U8->Prop}(hI:∀s l y s' l',I s l->R s l=some (y,s',l')->I s' l')(h:∀s l Hx,I s l->RCall P fid (fs++[]++cs) (rdr rb l::(S s++Hx)) (rdO rb S Hx enc (R s l)) Hx wrongA):RdOk P rb S (.fn (.func fid) fs cs) R enc I:=λB Hx s l hs=>by
 have h1:=h s l Hx hs;refine⟨λy s' l' hy=>⟨hI _ _ _ _ _ hs hy,?_⟩,λhn=>?_⟩
 ·rw[hy] at h1;exact VCall.fn h1.ok
 ·rw[hn] at h1;exact VCall.fn (ACall.weak h1 (λ_ _ e=>by cases e) (λ_ _ ⟨_,e1,e2⟩=>⟨e1,e2⟩))
theorem rd_num(h:numberR l=some (n,r)):n<=40000000000:=by
 have:=numR_lt h;omega
theorem numC(s:σ)(l:List U8)(rb:Nat)(Hx:List Ent):RCall Tryz.prog 134 [.p rb 0] (rdr rb l::Hx) ((numR s l).map λp=>(.i p.1,rdr rb p.2.2::Hx)) Hx wrongA:=by
 have h:=q134 l rb Hx;rw[numO] at h;unfold numR;rcases hq:numberR l with _ | ⟨n,r⟩ <;> rw[hq] at h <;> exact h
theorem bit1(hn:n<=40000000000):bitI .and .i64 (n:Int) 1=some ((n%2:Nat):Int):=by
 show some (IntKind.i64.wrap _)=_;rw[BitVec.toNat_and,Im.bv64i n Yc,show (BitVec.ofInt IntKind.i64.bits 1).toNat=2^1 - 1 by decide,Nat.and_two_pow_sub_one_eq_mod,wrap64 Yc]
theorem shr1(n:Nat):shI .shr .i64 (n:Int) 1=some ((n / 2:Nat):Int):=by
 show some ((n:Int).fdiv (2^1))=_;rw[Int.fdiv_eq_ediv_of_nonneg _ YL];rfl
theorem intC(s:σ)(l:List U8)(rb:Nat)(Hx:List Ent):RCall Tryz.prog 137 [.p rb 0] (rdr rb l::Hx) ((intR s l).map λp=>(.i p.1,rdr rb p.2.2::Hx)) Hx wrongA:=by
 refine aC (n:=14) Tryz.func137 λB I w0=>?_;refine Z8 ?_;rcases hq:numberR l with _ | ⟨n,r⟩
 ·refine OL.rcallN rfl rfl (.mk' rfl rfl rfl rfl rfl) (q134n hq _ _) wrong_c ?_;exact outP (P:=Tryz.prog) (fn:=Tryz.f137) wrong_c (.refl _) ⟨by rw[intR,thenR_none (numR_none hq)];rfl,rfl,rfl⟩
 ·have hn:=rd_num hq;have hR:intR s l=some (znOf n,s,r):=by rw[intR,thenR_some (numR_some hq)];rfl
  refine OL.rcallS rfl rfl rfl (.mk' rfl rfl rfl rfl rfl) (q134s hq _ _) ?_;refine Z7 ?_;refine oP (POp.bits rfl rfl rfl rfl rfl (bit1 hn)) ?_;refine Z3 ?_;refine cd (λh0=>?_) λh0=>?_
  ·refine Z3 ?_;refine oP (POp.shift rfl rfl rfl rfl rfl YL (shr1 n)) ?_;refine oP (POp.unX rfl rfl rfl Yc rfl) ?_;refine Z5 ?_;refine r1 2 (rdr rb r::Hx) ?_;exact by rw[hR,znOf,if_pos Yc];rfl
  ·refine Z5 ?_;refine oP (POp.shift rfl rfl rfl rfl rfl YL (shr1 n)) ?_;refine Z4 ?_;refine r1 2 (rdr rb r::Hx) ?_;exact by rw[hR,znOf,if_neg Yc];rfl
theorem doneC(rb:Nat)(Hx:List Ent):RCall Tryz.prog 70 [.p rb 0] (rdr rb l::Hx) (if l= [] then some (.tup [],Hx) else none) Hx wrongA:=by
 refine aC (n:=9) Tryz.func70 λB I w0=>?_;refine Z7 ?_;by_cases hl:l= []
 ·subst hl;refine OL.rcallS rfl rfl rfl (.mk' rfl rfl rfl rfl rfl) (q71t Yaw _) ?_;refine Z1 ?_;refine nR [] (Hx) ?_;exact if_pos rfl
 ·have hl0:0<l.length:=List.length_pos_iff.2 hl;refine OL.rcallN rfl rfl (.mk' rfl rfl rfl rfl rfl) (q71f YC _) wrong_c ?_;exact outP (P:=Tryz.prog) (fn:=Tryz.f70) wrong_c (.cons _ (.refl _)) ⟨if_neg hl,rfl,rfl⟩
theorem own_in(o r:Ent)(A B:List Ent):(o::r::(A++B)).Perm (r::(A++(o::B))):=(List.Perm.swap r o _).trans (List.Perm.cons _ List.perm_middle.symm)
theorem rd_many(h:manyR l=some (n,r)):n<=40000000000:=by
 unfold manyR at h;rcases hq:numberR l with _ | ⟨a,b⟩ <;> rw[hq] at h
 ·cases h
 ·simp only at h;split at h
  ·cases h;exact rd_num hq
  ·cases h
theorem listR_none{R:Rd σ α}{s:σ}(h:manyR l=none):listR R s l=none:=by rw[listR,thenR,manyRd,h]
theorem listR_some{R:Rd σ α}{s:σ}(h:manyR l=some (n,r)):listR R s l=timesR R n s r:=by rw[listR,thenR,manyRd,h]
theorem rows_snoc(row:α->List AV)(out:List α)(y:α)(k:Nat):AV.sl k ((out.map row)++[row y])=AV.sl k ((out++[y]).map row):=by rw[List.map_append];rfl
theorem listI{S:σ->List Ent}{R:Rd σ Int}{Iv:σ->List U8->Prop}(hg:RdOk Tryz.prog rb S (.fn g gs gc) R (λn=>.i n) Iv)(s:σ)(l:List U8)(hs:∀n l1,manyR l=some (n,l1)->Iv s l1)(Hx:List Ent):RCall Tryz.prog 133 [.p rb 0,.fn g gs gc] (rdr rb l::(S s++Hx)) (rdO rb S Hx (λys=>.sl 1 (ys.map (λn=>[AV.i n]))) (listR R s l)) Hx wrongA:=by
 refine aC (n:=17) Tryz.func133 λB I w0=>?_;refine Z14 ?_;rcases hq:manyR l with _ | ⟨n,l1⟩
 ·refine OL.rcallN rfl rfl (.mk' rfl rfl rfl rfl rfl) (q164n hq rb (S s++Hx)) wrong_c ?_;exact outP (P:=Tryz.prog) (fn:=Tryz.f133) wrong_c (List.sublist_append_right _ _) ⟨Ya0,rfl,rfl⟩
 ·rw[listR_some hq];have hn:=rd_many hq;refine OL.rcallS rfl rfl rfl (.mk' rfl rfl rfl rfl rfl) (q164s hq rb (S s++Hx)) ?_;refine Z4 ?_;refine CW.ownNil 5 3 1 rfl ?_;refine lj (λm st=>∃(i:Nat) (out:List Int) (s':σ) (l':List U8) (v:Value),st=⟨[(8,.i i),(7,.i n),(5,.as (.sl 1 (out.map (λn=>[AV.i n]))) v),(1,.fn g gs gc)],.own 3 1 v::rdr rb l'::(S s'++Hx)⟩/\m=n - i/\i<=n/\Iv s' l'/\out.length=i/\timesR R n s l1=(timesR R (n - i) s' l').map λp=>(out++p.1,p.2.1,p.2.2)) (⟨0,[],s,l1,_,rfl,rfl,Yc,hs n l1 hq,rfl,times_begin R n s l1⟩) ?_;rintro m _ ⟨i,out,s',l',v,rfl,rfl,hi,hI,ho,ht⟩;refine Z6 ?_;refine cd (λh0=>?_) λh0=>?_
  ·have hil:i<n:=by omega
   obtain⟨ht1,ht2⟩:=times_snoc hil ht;refine Z7 ?_;refine OL.perm (own_in _ _ _ _) ?_;rcases hR:R s' l' with _ | ⟨y,s2,l2⟩
   ·refine OL.vcall rfl rfl rfl rfl rfl rfl rfl (AVleL.refl _) ((hg B (.own 3 1 v::Hx) s' l' hI).2 hR) (λ_ _ h=>h.elim) ?_;rintro y H2 ⟨rfl,rfl⟩ a w st I v hv;rw[wrong_c.is _ _ _ hv];exact outP (P:=Tryz.prog) (fn:=Tryz.f133) wrong_c (List.sublist_cons_self _ _) ⟨Ybj,rfl,rfl⟩ a w st
   ·have ht3:=ht2 y s2 l2 hR;obtain⟨hI2,hV⟩:=(hg B (.own 3 1 v::Hx) s' l' hI).1 y s2 l2 hR;refine OL.vcallC rfl rfl rfl rfl rfl rfl rfl rfl (AVleL.refl _) hV ?_;rintro _ _ ⟨rfl,rfl⟩;refine OL.perm (own_in _ _ _ _).symm ?_;refine OL.popC (x:=.sl 1 [(λn=>[AV.i n]) y]) rfl rfl rfl (POp.row rfl rfl Yh rfl rfl rfl rfl rfl rfl) ?_;refine OL.appendC rfl rfl rfl rfl rfl rfl rfl rfl (AVle.refl _) (rfl) (λv=>by repeat (first | exact Upd.head _ _ _ | apply Upd.tail)) Yp Yp (λv14=>?_);refine Z8 ?_;exact ag (⟨i+1,out++[y],s2,l2,v14,Ybf,rfl,hil,hI2,YaC,ht3⟩)
  ·obtain rfl:i=n:=by omega
   have he:=times_end ht;refine Z12 ?_;refine Done.retR (rs:=[.tmp 4]) (H':=rdr rb l'::(S s'++Hx)) rfl (.tmp rfl (.nil)) (.cons (AVle.asL _ _) .nil) Yb ?_;exact by rw[he];rfl
theorem listN{S:σ->List Ent}{R:Rd σ (Int×Int)}{Iv:σ->List U8->Prop}(hg:RdOk Tryz.prog rb S (.fn g gs gc) R (λx=>.agg (initA x)) Iv)(s:σ)(l:List U8)(hs:∀n l1,manyR l=some (n,l1)->Iv s l1)(Hx:List Ent):RCall Tryz.prog 135 [.p rb 0,.fn g gs gc] (rdr rb l::(S s++Hx)) (rdO rb S Hx (λys=>.sl 2 (ys.map (initA))) (listR R s l)) Hx wrongA:=by
 refine aC (n:=17) Tryz.func135 λB I w0=>?_;refine Z14 ?_;rcases hq:manyR l with _ | ⟨n,l1⟩
 ·refine OL.rcallN rfl rfl (.mk' rfl rfl rfl rfl rfl) (q164n hq rb (S s++Hx)) wrong_c ?_;exact outP (P:=Tryz.prog) (fn:=Tryz.f135) wrong_c (List.sublist_append_right _ _) ⟨Ya0,rfl,rfl⟩
 ·rw[listR_some hq];have hn:=rd_many hq;refine OL.rcallS rfl rfl rfl (.mk' rfl rfl rfl rfl rfl) (q164s hq rb (S s++Hx)) ?_;refine Z4 ?_;refine CW.ownNil 5 143 2 rfl ?_;refine lj (λm st=>∃(i:Nat) (out:List (Int×Int)) (s':σ) (l':List U8) (v:Value),st=⟨[(8,.i i),(7,.i n),(5,.as (.sl 2 (out.map (initA))) v),(1,.fn g gs gc)],.own 143 2 v::rdr rb l'::(S s'++Hx)⟩/\m=n - i/\i<=n/\Iv s' l'/\out.length=i/\timesR R n s l1=(timesR R (n - i) s' l').map λp=>(out++p.1,p.2.1,p.2.2)) (⟨0,[],s,l1,_,rfl,rfl,Yc,hs n l1 hq,rfl,times_begin R n s l1⟩) ?_;rintro m _ ⟨i,out,s',l',v,rfl,rfl,hi,hI,ho,ht⟩;refine Z6 ?_;refine cd (λh0=>?_) λh0=>?_
  ·have hil:i<n:=by omega
   obtain⟨ht1,ht2⟩:=times_snoc hil ht;refine Z7 ?_;refine OL.perm (own_in _ _ _ _) ?_;rcases hR:R s' l' with _ | ⟨y,s2,l2⟩
   ·refine OL.vcall rfl rfl rfl rfl rfl rfl rfl (AVleL.refl _) ((hg B (.own 143 2 v::Hx) s' l' hI).2 hR) (λ_ _ h=>h.elim) ?_;rintro y H2 ⟨rfl,rfl⟩ a w st I v hv;rw[wrong_c.is _ _ _ hv];exact outP (P:=Tryz.prog) (fn:=Tryz.f135) wrong_c (List.sublist_cons_self _ _) ⟨Ybj,rfl,rfl⟩ a w st
   ·have ht3:=ht2 y s2 l2 hR;obtain⟨hI2,hV⟩:=(hg B (.own 143 2 v::Hx) s' l' hI).1 y s2 l2 hR;refine OL.vcallC rfl rfl rfl rfl rfl rfl rfl rfl (AVleL.refl _) hV ?_;rintro _ _ ⟨rfl,rfl⟩;refine OL.perm (own_in _ _ _ _).symm ?_;refine OL.popC (x:=.sl 2 [(initA) y]) rfl rfl rfl (POp.row rfl rfl Yh rfl rfl rfl rfl rfl rfl) ?_;refine OL.appendC rfl rfl rfl rfl rfl rfl rfl rfl (AVle.refl _) (rfl) (λv=>by repeat (first | exact Upd.head _ _ _ | apply Upd.tail)) Yp Yp (λv14=>?_);refine Z8 ?_;exact ag (⟨i+1,out++[y],s2,l2,v14,Ybf,rfl,hil,hI2,YaC,ht3⟩)
  ·obtain rfl:i=n:=by omega
   have he:=times_end ht;refine Z12 ?_;refine Done.retR (rs:=[.tmp 4]) (H':=rdr rb l'::(S s'++Hx)) rfl (.tmp rfl (.nil)) (.cons (AVle.asL _ _) .nil) Yb ?_;exact by rw[he];rfl
theorem listC{S:σ->List Ent}{R:Rd σ Cls}{Iv:σ->List U8->Prop}(hg:RdOk Tryz.prog rb S (.fn g gs gc) R (λx=>.agg (clsA x)) Iv)(s:σ)(l:List U8)(hs:∀n l1,manyR l=some (n,l1)->Iv s l1)(Hx:List Ent):RCall Tryz.prog 131 [.p rb 0,.fn g gs gc] (rdr rb l::(S s++Hx)) (rdO rb S Hx (λys=>.sl 3 (ys.map (clsA))) (listR R s l)) Hx wrongA:=by
 refine aC (n:=17) Tryz.func131 λB I w0=>?_;refine Z14 ?_;rcases hq:manyR l with _ | ⟨n,l1⟩
 ·refine OL.rcallN rfl rfl (.mk' rfl rfl rfl rfl rfl) (q164n hq rb (S s++Hx)) wrong_c ?_;exact outP (P:=Tryz.prog) (fn:=Tryz.f131) wrong_c (List.sublist_append_right _ _) ⟨Ya0,rfl,rfl⟩
 ·rw[listR_some hq];have hn:=rd_many hq;refine OL.rcallS rfl rfl rfl (.mk' rfl rfl rfl rfl rfl) (q164s hq rb (S s++Hx)) ?_;refine Z4 ?_;refine CW.ownNil 5 79 3 rfl ?_;refine lj (λm st=>∃(i:Nat) (out:List Cls) (s':σ) (l':List U8) (v:Value),st=⟨[(8,.i i),(7,.i n),(5,.as (.sl 3 (out.map (clsA))) v),(1,.fn g gs gc)],.own 79 3 v::rdr rb l'::(S s'++Hx)⟩/\m=n - i/\i<=n/\Iv s' l'/\out.length=i/\timesR R n s l1=(timesR R (n - i) s' l').map λp=>(out++p.1,p.2.1,p.2.2)) (⟨0,[],s,l1,_,rfl,rfl,Yc,hs n l1 hq,rfl,times_begin R n s l1⟩) ?_;rintro m _ ⟨i,out,s',l',v,rfl,rfl,hi,hI,ho,ht⟩;refine Z6 ?_;refine cd (λh0=>?_) λh0=>?_
  ·have hil:i<n:=by omega
   obtain⟨ht1,ht2⟩:=times_snoc hil ht;refine Z7 ?_;refine OL.perm (own_in _ _ _ _) ?_;rcases hR:R s' l' with _ | ⟨y,s2,l2⟩
   ·refine OL.vcall rfl rfl rfl rfl rfl rfl rfl (AVleL.refl _) ((hg B (.own 79 3 v::Hx) s' l' hI).2 hR) (λ_ _ h=>h.elim) ?_;rintro y H2 ⟨rfl,rfl⟩ a w st I v hv;rw[wrong_c.is _ _ _ hv];exact outP (P:=Tryz.prog) (fn:=Tryz.f131) wrong_c (List.sublist_cons_self _ _) ⟨Ybj,rfl,rfl⟩ a w st
   ·have ht3:=ht2 y s2 l2 hR;obtain⟨hI2,hV⟩:=(hg B (.own 79 3 v::Hx) s' l' hI).1 y s2 l2 hR;refine OL.vcallC rfl rfl rfl rfl rfl rfl rfl rfl (AVleL.refl _) hV ?_;rintro _ _ ⟨rfl,rfl⟩;refine OL.perm (own_in _ _ _ _).symm ?_;refine OL.popC (x:=.sl 3 [(clsA) y]) rfl rfl rfl (POp.row rfl rfl Yh rfl rfl rfl rfl rfl rfl) ?_;refine OL.appendC rfl rfl rfl rfl rfl rfl rfl rfl (AVle.refl _) (rfl) (λv=>by repeat (first | exact Upd.head _ _ _ | apply Upd.tail)) Yp Yp (λv14=>?_);refine Z8 ?_;exact ag (⟨i+1,out++[y],s2,l2,v14,Ybf,rfl,hil,hI2,YaC,ht3⟩)
  ·obtain rfl:i=n:=by omega
   have he:=times_end ht;refine Z12 ?_;refine Done.retR (rs:=[.tmp 4]) (H':=rdr rb l'::(S s'++Hx)) rfl (.tmp rfl (.nil)) (.cons (AVle.asL _ _) .nil) Yb ?_;exact by rw[he];rfl
theorem listM{S:σ->List Ent}{R:Rd σ Mth}{Iv:σ->List U8->Prop}(hg:RdOk Tryz.prog rb S (.fn g gs gc) R (λx=>.agg (mthA x)) Iv)(s:σ)(l:List U8)(hs:∀n l1,manyR l=some (n,l1)->Iv s l1)(Hx:List Ent):RCall Tryz.prog 138 [.p rb 0,.fn g gs gc] (rdr rb l::(S s++Hx)) (rdO rb S Hx (λys=>.sl 9 (ys.map (mthA))) (listR R s l)) Hx wrongA:=by
 refine aC (n:=17) Tryz.func138 λB I w0=>?_;refine Z14 ?_;rcases hq:manyR l with _ | ⟨n,l1⟩
 ·refine OL.rcallN rfl rfl (.mk' rfl rfl rfl rfl rfl) (q164n hq rb (S s++Hx)) wrong_c ?_;exact outP (P:=Tryz.prog) (fn:=Tryz.f138) wrong_c (List.sublist_append_right _ _) ⟨Ya0,rfl,rfl⟩
 ·rw[listR_some hq];have hn:=rd_many hq;refine OL.rcallS rfl rfl rfl (.mk' rfl rfl rfl rfl rfl) (q164s hq rb (S s++Hx)) ?_;refine Z4 ?_;refine CW.ownNil 5 168 9 rfl ?_;refine lj (λm st=>∃(i:Nat) (out:List Mth) (s':σ) (l':List U8) (v:Value),st=⟨[(8,.i i),(7,.i n),(5,.as (.sl 9 (out.map (mthA))) v),(1,.fn g gs gc)],.own 168 9 v::rdr rb l'::(S s'++Hx)⟩/\m=n - i/\i<=n/\Iv s' l'/\out.length=i/\timesR R n s l1=(timesR R (n - i) s' l').map λp=>(out++p.1,p.2.1,p.2.2)) (⟨0,[],s,l1,_,rfl,rfl,Yc,hs n l1 hq,rfl,times_begin R n s l1⟩) ?_;rintro m _ ⟨i,out,s',l',v,rfl,rfl,hi,hI,ho,ht⟩;refine Z6 ?_;refine cd (λh0=>?_) λh0=>?_
  ·have hil:i<n:=by omega
   obtain⟨ht1,ht2⟩:=times_snoc hil ht;refine Z7 ?_;refine OL.perm (own_in _ _ _ _) ?_;rcases hR:R s' l' with _ | ⟨y,s2,l2⟩
   ·refine OL.vcall rfl rfl rfl rfl rfl rfl rfl (AVleL.refl _) ((hg B (.own 168 9 v::Hx) s' l' hI).2 hR) (λ_ _ h=>h.elim) ?_;rintro y H2 ⟨rfl,rfl⟩ a w st I v hv;rw[wrong_c.is _ _ _ hv];exact outP (P:=Tryz.prog) (fn:=Tryz.f138) wrong_c (List.sublist_cons_self _ _) ⟨Ybj,rfl,rfl⟩ a w st
   ·have ht3:=ht2 y s2 l2 hR;obtain⟨hI2,hV⟩:=(hg B (.own 168 9 v::Hx) s' l' hI).1 y s2 l2 hR;refine OL.vcallC rfl rfl rfl rfl rfl rfl rfl rfl (AVleL.refl _) hV ?_;rintro _ _ ⟨rfl,rfl⟩;refine OL.perm (own_in _ _ _ _).symm ?_;refine OL.popC (x:=.sl 9 [(mthA) y]) rfl rfl rfl (POp.row rfl rfl Yh rfl rfl rfl rfl rfl rfl) ?_;refine OL.appendC rfl rfl rfl rfl rfl rfl rfl rfl (AVle.refl _) (rfl) (λv=>by repeat (first | exact Upd.head _ _ _ | apply Upd.tail)) Yp Yp (λv14=>?_);refine Z8 ?_;exact ag (⟨i+1,out++[y],s2,l2,v14,Ybf,rfl,hil,hI2,YaC,ht3⟩)
  ·obtain rfl:i=n:=by omega
   have he:=times_end ht;refine Z12 ?_;refine Done.retR (rs:=[.tmp 4]) (H':=rdr rb l'::(S s'++Hx)) rfl (.tmp rfl (.nil)) (.cons (AVle.asL _ _) .nil) Yb ?_;exact by rw[he];rfl
theorem listD{S:σ->List Ent}{R:Rd σ Nd}{Iv:σ->List U8->Prop}(hg:RdOk Tryz.prog rb S (.fn g gs gc) R (λx=>.agg (ndA x)) Iv)(s:σ)(l:List U8)(hs:∀n l1,manyR l=some (n,l1)->Iv s l1)(Hx:List Ent):RCall Tryz.prog 140 [.p rb 0,.fn g gs gc] (rdr rb l::(S s++Hx)) (rdO rb S Hx (λys=>.sl 3 (ys.map (ndA))) (listR R s l)) Hx wrongA:=by
 refine aC (n:=17) Tryz.func140 λB I w0=>?_;refine Z14 ?_;rcases hq:manyR l with _ | ⟨n,l1⟩
 ·refine OL.rcallN rfl rfl (.mk' rfl rfl rfl rfl rfl) (q164n hq rb (S s++Hx)) wrong_c ?_;exact outP (P:=Tryz.prog) (fn:=Tryz.f140) wrong_c (List.sublist_append_right _ _) ⟨Ya0,rfl,rfl⟩
 ·rw[listR_some hq];have hn:=rd_many hq;refine OL.rcallS rfl rfl rfl (.mk' rfl rfl rfl rfl rfl) (q164s hq rb (S s++Hx)) ?_;refine Z4 ?_;refine CW.ownNil 5 146 3 rfl ?_;refine lj (λm st=>∃(i:Nat) (out:List Nd) (s':σ) (l':List U8) (v:Value),st=⟨[(8,.i i),(7,.i n),(5,.as (.sl 3 (out.map (ndA))) v),(1,.fn g gs gc)],.own 146 3 v::rdr rb l'::(S s'++Hx)⟩/\m=n - i/\i<=n/\Iv s' l'/\out.length=i/\timesR R n s l1=(timesR R (n - i) s' l').map λp=>(out++p.1,p.2.1,p.2.2)) (⟨0,[],s,l1,_,rfl,rfl,Yc,hs n l1 hq,rfl,times_begin R n s l1⟩) ?_;rintro m _ ⟨i,out,s',l',v,rfl,rfl,hi,hI,ho,ht⟩;refine Z6 ?_;refine cd (λh0=>?_) λh0=>?_
  ·have hil:i<n:=by omega
   obtain⟨ht1,ht2⟩:=times_snoc hil ht;refine Z7 ?_;refine OL.perm (own_in _ _ _ _) ?_;rcases hR:R s' l' with _ | ⟨y,s2,l2⟩
   ·refine OL.vcall rfl rfl rfl rfl rfl rfl rfl (AVleL.refl _) ((hg B (.own 146 3 v::Hx) s' l' hI).2 hR) (λ_ _ h=>h.elim) ?_;rintro y H2 ⟨rfl,rfl⟩ a w st I v hv;rw[wrong_c.is _ _ _ hv];exact outP (P:=Tryz.prog) (fn:=Tryz.f140) wrong_c (List.sublist_cons_self _ _) ⟨Ybj,rfl,rfl⟩ a w st
   ·have ht3:=ht2 y s2 l2 hR;obtain⟨hI2,hV⟩:=(hg B (.own 146 3 v::Hx) s' l' hI).1 y s2 l2 hR;refine OL.vcallC rfl rfl rfl rfl rfl rfl rfl rfl (AVleL.refl _) hV ?_;rintro _ _ ⟨rfl,rfl⟩;refine OL.perm (own_in _ _ _ _).symm ?_;refine OL.popC (x:=.sl 3 [(ndA) y]) rfl rfl rfl (POp.row rfl rfl Yh rfl rfl rfl rfl rfl rfl) ?_;refine OL.appendC rfl rfl rfl rfl rfl rfl rfl rfl (AVle.refl _) (rfl) (λv=>by repeat (first | exact Upd.head _ _ _ | apply Upd.tail)) Yp Yp (λv14=>?_);refine Z8 ?_;exact ag (⟨i+1,out++[y],s2,l2,v14,Ybf,rfl,hil,hI2,YaC,ht3⟩)
  ·obtain rfl:i=n:=by omega
   have he:=times_end ht;refine Z12 ?_;refine Done.retR (rs:=[.tmp 4]) (H':=rdr rb l'::(S s'++Hx)) rfl (.tmp rfl (.nil)) (.cons (AVle.asL _ _) .nil) Yb ?_;exact by rw[he];rfl
theorem listT{S:σ->List Ent}{R:Rd σ Th}{Iv:σ->List U8->Prop}(hg:RdOk Tryz.prog rb S (.fn g gs gc) R (λx=>.agg (thA x)) Iv)(s:σ)(l:List U8)(hs:∀n l1,manyR l=some (n,l1)->Iv s l1)(Hx:List Ent):RCall Tryz.prog 145 [.p rb 0,.fn g gs gc] (rdr rb l::(S s++Hx)) (rdO rb S Hx (λys=>.sl 2 (ys.map (thA))) (listR R s l)) Hx wrongA:=by
 refine aC (n:=17) Tryz.func145 λB I w0=>?_;refine Z14 ?_;rcases hq:manyR l with _ | ⟨n,l1⟩
 ·refine OL.rcallN rfl rfl (.mk' rfl rfl rfl rfl rfl) (q164n hq rb (S s++Hx)) wrong_c ?_;exact outP (P:=Tryz.prog) (fn:=Tryz.f145) wrong_c (List.sublist_append_right _ _) ⟨Ya0,rfl,rfl⟩
 ·rw[listR_some hq];have hn:=rd_many hq;refine OL.rcallS rfl rfl rfl (.mk' rfl rfl rfl rfl rfl) (q164s hq rb (S s++Hx)) ?_;refine Z4 ?_;refine CW.ownNil 5 65 2 rfl ?_;refine lj (λm st=>∃(i:Nat) (out:List Th) (s':σ) (l':List U8) (v:Value),st=⟨[(8,.i i),(7,.i n),(5,.as (.sl 2 (out.map (thA))) v),(1,.fn g gs gc)],.own 65 2 v::rdr rb l'::(S s'++Hx)⟩/\m=n - i/\i<=n/\Iv s' l'/\out.length=i/\timesR R n s l1=(timesR R (n - i) s' l').map λp=>(out++p.1,p.2.1,p.2.2)) (⟨0,[],s,l1,_,rfl,rfl,Yc,hs n l1 hq,rfl,times_begin R n s l1⟩) ?_;rintro m _ ⟨i,out,s',l',v,rfl,rfl,hi,hI,ho,ht⟩;refine Z6 ?_;refine cd (λh0=>?_) λh0=>?_
  ·have hil:i<n:=by omega
   obtain⟨ht1,ht2⟩:=times_snoc hil ht;refine Z7 ?_;refine OL.perm (own_in _ _ _ _) ?_;rcases hR:R s' l' with _ | ⟨y,s2,l2⟩
   ·refine OL.vcall rfl rfl rfl rfl rfl rfl rfl (AVleL.refl _) ((hg B (.own 65 2 v::Hx) s' l' hI).2 hR) (λ_ _ h=>h.elim) ?_;rintro y H2 ⟨rfl,rfl⟩ a w st I v hv;rw[wrong_c.is _ _ _ hv];exact outP (P:=Tryz.prog) (fn:=Tryz.f145) wrong_c (List.sublist_cons_self _ _) ⟨Ybj,rfl,rfl⟩ a w st
   ·have ht3:=ht2 y s2 l2 hR;obtain⟨hI2,hV⟩:=(hg B (.own 65 2 v::Hx) s' l' hI).1 y s2 l2 hR;refine OL.vcallC rfl rfl rfl rfl rfl rfl rfl rfl (AVleL.refl _) hV ?_;rintro _ _ ⟨rfl,rfl⟩;refine OL.perm (own_in _ _ _ _).symm ?_;refine OL.popC (x:=.sl 2 [(thA) y]) rfl rfl rfl (POp.row rfl rfl Yh rfl rfl rfl rfl rfl rfl) ?_;refine OL.appendC rfl rfl rfl rfl rfl rfl rfl rfl (AVle.refl _) (rfl) (λv=>by repeat (first | exact Upd.head _ _ _ | apply Upd.tail)) Yp Yp (λv14=>?_);refine Z8 ?_;exact ag (⟨i+1,out++[y],s2,l2,v14,Ybf,rfl,hil,hI2,YaC,ht3⟩)
  ·obtain rfl:i=n:=by omega
   have he:=times_end ht;refine Z12 ?_;refine Done.retR (rs:=[.tmp 4]) (H':=rdr rb l'::(S s'++Hx)) rfl (.tmp rfl (.nil)) (.cons (AVle.asL _ _) .nil) Yb ?_;exact by rw[he];rfl
theorem listV{S:σ->List Ent}{R:Rd σ (Int×Int)}{Iv:σ->List U8->Prop}(hg:RdOk Tryz.prog rb S (.fn g gs gc) R (λx=>AV.mv x) Iv)(s:σ)(l:List U8)(hs:∀n l1,manyR l=some (n,l1)->Iv s l1)(Hx:List Ent):RCall Tryz.prog 90 [.p rb 0,.fn g gs gc] (rdr rb l::(S s++Hx)) (rdO rb S Hx (λys=>.sl 2 (ys.map (initA))) (listR R s l)) Hx wrongA:=by
 refine aC (n:=17) Tryz.func90 λB I w0=>?_;refine Z14 ?_;rcases hq:manyR l with _ | ⟨n,l1⟩
 ·refine OL.rcallN rfl rfl (.mk' rfl rfl rfl rfl rfl) (q164n hq rb (S s++Hx)) wrong_c ?_;exact outP (P:=Tryz.prog) (fn:=Tryz.f90) wrong_c (List.sublist_append_right _ _) ⟨Ya0,rfl,rfl⟩
 ·rw[listR_some hq];have hn:=rd_many hq;refine OL.rcallS rfl rfl rfl (.mk' rfl rfl rfl rfl rfl) (q164s hq rb (S s++Hx)) ?_;refine Z4 ?_;refine CW.ownNil 5 60 2 rfl ?_;refine lj (λm st=>∃(i:Nat) (out:List (Int×Int)) (s':σ) (l':List U8) (v:Value),st=⟨[(8,.i i),(7,.i n),(5,.as (.sl 2 (out.map (initA))) v),(1,.fn g gs gc)],.own 60 2 v::rdr rb l'::(S s'++Hx)⟩/\m=n - i/\i<=n/\Iv s' l'/\out.length=i/\timesR R n s l1=(timesR R (n - i) s' l').map λp=>(out++p.1,p.2.1,p.2.2)) (⟨0,[],s,l1,_,rfl,rfl,Yc,hs n l1 hq,rfl,times_begin R n s l1⟩) ?_;rintro m _ ⟨i,out,s',l',v,rfl,rfl,hi,hI,ho,ht⟩;refine Z6 ?_;refine cd (λh0=>?_) λh0=>?_
  ·have hil:i<n:=by omega
   obtain⟨ht1,ht2⟩:=times_snoc hil ht;refine Z7 ?_;refine OL.perm (own_in _ _ _ _) ?_;rcases hR:R s' l' with _ | ⟨y,s2,l2⟩
   ·refine OL.vcall rfl rfl rfl rfl rfl rfl rfl (AVleL.refl _) ((hg B (.own 60 2 v::Hx) s' l' hI).2 hR) (λ_ _ h=>h.elim) ?_;rintro y H2 ⟨rfl,rfl⟩ a w st I v hv;rw[wrong_c.is _ _ _ hv];exact outP (P:=Tryz.prog) (fn:=Tryz.f90) wrong_c (List.sublist_cons_self _ _) ⟨Ybj,rfl,rfl⟩ a w st
   ·have ht3:=ht2 y s2 l2 hR;obtain⟨hI2,hV⟩:=(hg B (.own 60 2 v::Hx) s' l' hI).1 y s2 l2 hR;refine OL.vcallC rfl rfl rfl rfl rfl rfl rfl rfl (AVleL.refl _) hV ?_;rintro _ _ ⟨rfl,rfl⟩;refine OL.perm (own_in _ _ _ _).symm ?_;refine OL.popC (x:=.sl 2 [(initA) y]) rfl rfl rfl (POp.row rfl rfl Yh rfl rfl rfl rfl rfl rfl) ?_;refine OL.appendC rfl rfl rfl rfl rfl rfl rfl rfl (AVle.refl _) (rfl) (λv=>by repeat (first | exact Upd.head _ _ _ | apply Upd.tail)) Yp Yp (λv14=>?_);refine Z8 ?_;exact ag (⟨i+1,out++[y],s2,l2,v14,Ybf,rfl,hil,hI2,YaC,ht3⟩)
  ·obtain rfl:i=n:=by omega
   have he:=times_end ht;refine Z12 ?_;refine Done.retR (rs:=[.tmp 4]) (H':=rdr rb l'::(S s'++Hx)) rfl (.tmp rfl (.nil)) (.cons (AVle.asL _ _) .nil) Yb ?_;exact by rw[he];rfl
theorem intS{s s':σ}{n:Int}(h:intR s l=some (n,s',l'))(rb:Nat)(Hx:List Ent):RCall Tryz.prog 137 [.p rb 0] (rdr rb l::Hx) (some (.i n,rdr rb l'::Hx)) Hx wrongA:=by
 have h1:=intC s l rb Hx;rwa [h] at h1
theorem intN{s:σ}(h:intR s l=none)(rb:Nat)(Hx:List Ent):RCall Tryz.prog 137 [.p rb 0] (rdr rb l::Hx) none Hx wrongA:=by
 have h1:=intC s l rb Hx;rwa [h] at h1
def Still(R:Rd σ α):Prop:=∀s l y s' l',R s l=some (y,s',l')->s'=s
theorem Still.num:Still (numR (σ:=σ)):=λs l y s' l' h=>by
 unfold numR at h;split at h
 ·cases h
 ·cases h;rfl
theorem Still.then{σ α β:Type}{R:Rd σ α}{k:α->Rd σ β}(h1:Still R)(h2:∀a,Still (k a)):Still (thenR R k):=λs l y s' l' h=>by
 unfold thenR at h;split at h
 ·cases h
 ·rename_i a s1 l1 h3;rw[h2 a _ _ _ _ _ h,h1 _ _ _ _ _ h3]
theorem Still.done(a:α):Still (doneR (σ:=σ) a):=λs l y s' l' h=>by cases h;rfl
theorem Still.need{b:Bool}{R:Rd σ α}(h1:Still R):Still (needR b R):=λs l y s' l' h=>by
 unfold needR at h;split at h
 ·exact h1 _ _ _ _ _ h
 ·cases h
theorem Still.int:Still (intR (σ:=σ)):=.then .num λ_=>.done _
theorem Still.times{σ α:Type}{R:Rd σ α}(h1:Still R):∀n,Still (timesR R n)
 | 0,s,l,y,s',l',h=>by cases h;rfl
 | n+1,s,l,y,s',l',h=>by
  rw[timesR] at h;split at h
  ·cases h
  ·rename_i a s1 l1 h2;split at h
   ·cases h
   ·rename_i b s2 l2 h3;cases h;rw[Still.times h1 n _ _ _ _ _ h3,h1 _ _ _ _ _ h2]
theorem Still.many:Still (manyRd (σ:=σ)):=λs l y s' l' h=>by
 unfold manyRd at h;split at h
 ·cases h
 ·cases h;rfl
theorem Still.list{R:Rd σ α}(h1:Still R):Still (listR R):=.then .many λn=>h1.times n
theorem Still.init:Still (initR (σ:=σ)):=.then .num λ_=>.then .int λ_=>.done _
theorem Still.val:Still (valR (σ:=σ)):=.then .num λk=>by
 split
 ·exact .then .int λ_=>.done _
 ·split
  ·exact .then .num λ_=>.done _
  ·exact .need (.done _)
abbrev noS:σ->List Ent:=λ_=>[]
abbrev noI:σ->List U8->Prop:=λ_ _=>True
theorem numOk(rb:Nat):RdOk Tryz.prog rb (noS (σ:=σ)) (.fn (.func 134) [.p rb 0] []) numR (λn=>.i n) noI:=.of (λ_ _ _ _ _ _ _=>trivial) λs l Hx _=>numC s l rb Hx
theorem valueR(s:σ)(l:List U8)(rb:Nat)(Hx:List Ent):RCall Tryz.prog 91 [.p rb 0] (rdr rb l::Hx) ((valR s l).map λp=>(AV.mv p.1,rdr rb p.2.2::Hx)) Hx wrongA:=by
 refine aC (n:=24) Tryz.func91 λB I w0=>?_;refine Z2 ?_;refine OL.alC rfl rfl rfl rfl (λb2=>?_);refine Z3 ?_;refine CW.perm (List.Perm.swap _ _ _) ?_;refine Z2 ?_;rcases hq:numberR l with _ | ⟨n,r⟩
 ·refine OL.rcallN rfl rfl (.mk' rfl rfl rfl rfl rfl) (q134n hq _ _) wrong_c ?_;exact outP (P:=Tryz.prog) (fn:=Tryz.f91) wrong_c (.cons _ (.refl _)) ⟨by rw[valR,thenR_none (numR_none hq)];rfl,rfl,rfl⟩
 ·have hv:=thenR_some (k:=λk=>if k=1 then thenR intR λn=>doneR (k,n) else if k=3 then thenR numR λn=>doneR (k,n) else needR (k==2) (doneR (k,0))) (numR_some (s:=s) hq);replace hv:valR s l=_:=hv;refine OL.rcallS rfl rfl rfl (.mk' rfl rfl rfl rfl rfl) (q134s hq _ _) ?_;refine Z1 ?_;refine OL.alC rfl rfl rfl rfl (λb3=>?_);refine Z3 ?_;refine CW.cutJ (λst=>∃(x:Int×Int) (r':List U8),st=⟨[(3,.p b3 0),(2,.p b2 0)],rdr rb r'::.blk b3 60 (initA x)::.blk b2 60 [.val (.int .i64 0),.val (.int .i64 0)]::Hx⟩/\valR s l=some (x,s,r')) ?_ ?_
  ·refine Z1 ?_;refine CW.perm (List.Perm.swap _ _ _) ?_;refine Z12 ?_;refine cd (λh0=>?_) λh0=>?_
   ·rw[if_pos h0] at hv;refine Z2 ?_;rcases hi:intR s r with _ | ⟨z,s1,r1⟩
    ·refine OL.rcallN rfl rfl (.mk' rfl rfl rfl rfl rfl) (intN hi _ _) wrong_c ?_;exact outP (P:=Tryz.prog) (fn:=Tryz.f91) wrong_c (.cons _ (.cons _ (.refl _))) ⟨by rw[hv,thenR_none hi];rfl,rfl,rfl⟩
    ·obtain rfl:=Still.int _ _ _ _ _ hi;refine OL.rcallS rfl rfl rfl (.mk' rfl rfl rfl rfl rfl) (intS hi _ _) ?_;refine Z4 ?_;exact cj ⟨(n,z),r1,rfl,by rw[hv,thenR_some hi];rfl⟩
   ·refine Z6 ?_;refine cd (λh1=>?_) λh1=>?_
    ·rw[if_neg h0,if_pos h1] at hv;refine Z2 ?_;rcases hi:numberR r with _ | ⟨z,r1⟩
     ·refine OL.rcallN rfl rfl (.mk' rfl rfl rfl rfl rfl) (q134n hi _ _) wrong_c ?_;exact outP (P:=Tryz.prog) (fn:=Tryz.f91) wrong_c (.cons _ (.cons _ (.refl _))) ⟨by rw[hv,thenR_none (numR_none hi)];rfl,rfl,rfl⟩
     ·refine OL.rcallS rfl rfl rfl (.mk' rfl rfl rfl rfl rfl) (q134s hi _ _) ?_;refine Z4 ?_;exact cj ⟨(n,z),r1,rfl,by rw[hv,thenR_some (numR_some hi)];rfl⟩
    ·rw[if_neg h0,if_neg h1] at hv;refine Z4 ?_;by_cases h2:(n:Int)=2
     ·refine OL.rcallS rfl rfl rfl (.mk' rfl rfl rfl rfl rfl) (q71t (by rw[h2];rfl) _) ?_;refine Z2 ?_;exact cj ⟨(n,0),r,rfl,by rw[hv,needR_yes Ybd];rfl⟩
     ·refine OL.rcallN rfl rfl (.mk' rfl rfl rfl rfl rfl) (q71f Ybd _) wrong_c ?_;exact outP (P:=Tryz.prog) (fn:=Tryz.f91) wrong_c (.cons _ (.cons _ (.cons _ (.refl _)))) ⟨by rw[hv,needR_no Ybd];rfl,rfl,rfl⟩
  ·rintro _ ⟨x,r',rfl,hx⟩;refine Z7 ?_;refine Done.retR (rs:=[.cell 2 60]) (H':=rdr rb r'::Hx) rfl (Yo) (AVleL.refl _) Ybc ?_;exact by rw[hx];rfl
def Less(R:Rd σ α):Prop:=∀s l y s' l',R s l=some (y,s',l')->l'.length<=l.length
theorem num_less(h:numberR l=some (n,r)):r.length<l.length:=Im.numR_len h
theorem Less.num:Less (numR (σ:=σ)):=λs l y s' l' h=>by
 unfold numR at h;split at h
 ·cases h
 ·rename_i h1;cases h;have:=num_less h1;omega
theorem Less.then{σ α β:Type}{R:Rd σ α}{k:α->Rd σ β}(h1:Less R)(h2:∀a,Less (k a)):Less (thenR R k):=λs l y s' l' h=>by
 unfold thenR at h;split at h
 ·cases h
 ·rename_i a s1 l1 h3;have:=h2 a _ _ _ _ _ h;have:=h1 _ _ _ _ _ h3;omega
theorem Less.done(a:α):Less (doneR (σ:=σ) a):=λs l y s' l' h=>by cases h;exact Nat.le_refl _
theorem Less.need{b:Bool}{R:Rd σ α}(h1:Less R):Less (needR b R):=λs l y s' l' h=>by
 unfold needR at h;split at h
 ·exact h1 _ _ _ _ _ h
 ·cases h
theorem Less.int:Less (intR (σ:=σ)):=.then .num λ_=>.done _
theorem Less.times{σ α:Type}{R:Rd σ α}(h1:Less R):∀n,Less (timesR R n)
 | 0,s,l,y,s',l',h=>by cases h;exact Nat.le_refl _
 | n+1,s,l,y,s',l',h=>by
  rw[timesR] at h;split at h
  ·cases h
  ·rename_i a s1 l1 h2;split at h
   ·cases h
   ·rename_i b s2 l2 h3;cases h;have:=Less.times h1 n _ _ _ _ _ h3;have:=h1 _ _ _ _ _ h2;omega
theorem many_less(h:manyR l=some (n,r)):r.length<l.length:=by
 unfold manyR at h;rcases hq:numberR l with _ | ⟨a,b⟩ <;> rw[hq] at h
 ·cases h
 ·simp only at h;split at h
  ·cases h;exact num_less hq
  ·cases h
theorem Less.many:Less (manyRd (σ:=σ)):=λs l y s' l' h=>by
 unfold manyRd at h;split at h
 ·cases h
 ·rename_i h1;cases h;have:=many_less h1;omega
theorem Less.list{R:Rd σ α}(h1:Less R):Less (listR R):=.then .many λn=>h1.times n
theorem Less.init:Less (initR (σ:=σ)):=.then .num λ_=>.then .int λ_=>.done _
def clsI(s:Int)(l:List U8):Prop:=0<=s/\s+4*(l.length:Int)<=1000000000000
theorem cls_keep{s:Int}{y:Cls}{s':Int}(hI:clsI s l)(h:clsR s l=some (y,s',l')):clsI s' l':=by
 unfold clsR thenR at h;split at h
 ·cases h
 ·rename_i ps s1 l1 h1;obtain rfl:=Still.list Still.num _ _ _ _ _ h1;have h2:=Less.list Less.num _ _ _ _ _ h1;dsimp only at h;split at h
  ·cases h
  ·rename_i n s2 l2 h3;unfold numR at h3;split at h3
   ·cases h3
   ·rename_i k l3 h4;cases h3;have h5:=num_less h4;unfold needR at h;split at h
    ·rename_i h6;rw[decide_eq_true_eq] at h6;dsimp only at h;split at h
     ·cases h
     ·rename_i is s4 l4 h7;obtain rfl:=Still.list Still.init _ _ _ _ _ h7;have h8:=Less.list Less.init _ _ _ _ _ h7;cases h;unfold clsI at hI ⊢;omega
    ·cases h
theorem slots_snoc(s:Int)(i:Nat):slotsFrom s (i+1)=slotsFrom s i++[s+i]:=by simp[slotsFrom,List.range_succ]
theorem slots_len(s:Int)(i:Nat):(slotsFrom s i).length=i:=by simp[slotsFrom]
theorem initC(s:σ)(l:List U8)(rb:Nat)(Hx:List Ent):RCall Tryz.prog 136 [.ptr [.p rb 0]] (rdr rb l::Hx) ((initR s l).map λp=>(.agg (initA p.1),rdr rb p.2.2::Hx)) Hx wrongA:=by
 refine aC (n:=9) Tryz.func136 λB I w0=>?_;refine Z2 ?_;refine OL.alC rfl rfl rfl rfl (λb1=>?_);refine Z3 ?_;refine CW.perm (List.Perm.swap _ _ _) ?_;refine Z2 ?_;rcases hq:numberR l with _ | ⟨n,r⟩
 ·refine OL.rcallN rfl rfl (.mk' rfl rfl rfl rfl rfl) (q134n hq _ _) wrong_c ?_;exact outP (P:=Tryz.prog) (fn:=Tryz.f136) wrong_c (.cons _ (.refl _)) ⟨by rw[initR,thenR_none (numR_none hq)];rfl,rfl,rfl⟩
 ·have hv:initR s l=_:=thenR_some (numR_some hq);refine OL.rcallS rfl rfl rfl (.mk' rfl rfl rfl rfl rfl) (q134s hq _ _) ?_;refine Z7 ?_;rcases hi:intR s r with _ | ⟨z,s1,r1⟩
  ·refine OL.rcallN rfl rfl (.mk' rfl rfl rfl rfl rfl) (intN hi _ _) wrong_c ?_;exact outP (P:=Tryz.prog) (fn:=Tryz.f136) wrong_c (.cons _ (.refl _)) ⟨by rw[hv,thenR_none hi];rfl,rfl,rfl⟩
  ·obtain rfl:=Still.int _ _ _ _ _ hi;rw[thenR_some hi] at hv;refine OL.rcallS rfl rfl rfl (.mk' rfl rfl rfl rfl rfl) (intS hi _ _) ?_;refine Z5 ?_;refine Done.retR (rs:=[.cell 1 143]) (H':=rdr rb r1::Hx) rfl (Yo) (AVleL.refl _) (by exact .cons_cons _ (.cons _ (.refl _))) ?_;exact by rw[hv];rfl
theorem initOk(rb:Nat):RdOk Tryz.prog rb (noS (σ:=σ)) (.fn (.func 136) [] [.ptr [.p rb 0]]) initR (λx=>.agg (initA x)) noI:=.of (λ_ _ _ _ _ _ _=>trivial) λs l Hx _=>initC s l rb Hx
abbrev nilA:AV:=.val (.slice none 0 0)
abbrev pzE(pb:Nat)(s:Int):Ent:=.blk pb 27 [nilA,.i s,nilA,nilA,nilA,.val (.int .i64 0)]
theorem listI_n{s:σ}(h:listR numR s l=none)(rb:Nat)(Hx:List Ent):RCall Tryz.prog 133 [.p rb 0,.fn (.func 134) [.p rb 0] []] (rdr rb l::Hx) none Hx wrongA:=by
 have h1:=listI (numOk (σ:=σ) rb) s l (λ_ _ _=>trivial) Hx;rwa [h] at h1
theorem listI_s{s s':σ}{ps:List Int}(h:listR numR s l=some (ps,s',l'))(rb:Nat)(Hx:List Ent):RCall Tryz.prog 133 [.p rb 0,.fn (.func 134) [.p rb 0] []] (rdr rb l::Hx) (some (AV.ints ps,rdr rb l'::Hx)) Hx wrongA:=by
 have h1:=listI (numOk (σ:=σ) rb) s l (λ_ _ _=>trivial) Hx;rwa [h] at h1
theorem clsC{s:Int}(hI:clsI s l)(rb pb:Nat)(Hx:List Ent):RCall Tryz.prog 132 [.ptr [.p rb 0],.p pb 0] (rdr rb l::pzE pb s::Hx) ((clsR s l).map λp=>(.agg (clsA p.1),rdr rb p.2.2::pzE pb p.2.1::Hx)) Hx wrongA:=by
 refine aC (n:=35) Tryz.func132 λB I w0=>?_;refine Z2 ?_;refine OL.alC rfl rfl rfl rfl (λb2=>?_);refine Z3 ?_;refine CW.perm (List.Perm.swap _ _ _) ?_;refine Z4 ?_;rcases hq:listR numR s l with _ | ⟨ps,s1,l1⟩
 ·refine OL.rcallN rfl rfl (.mk' rfl rfl rfl rfl rfl) (listI_n hq rb _) wrong_c ?_;exact outP (P:=Tryz.prog) (fn:=Tryz.f132) wrong_c (.cons _ (.cons _ (.refl _))) ⟨by rw[clsR,thenR_none hq];rfl,rfl,rfl⟩
 ·have hv:clsR s l=_:=thenR_some hq;obtain rfl:=Still.list Still.num _ _ _ _ _ hq;refine OL.rcallS rfl rfl rfl (.mk' rfl rfl rfl rfl rfl) (listI_s hq rb _) ?_;refine Z1 ?_;refine OL.alC rfl rfl rfl rfl (λb3=>?_);refine Z4 ?_;refine CW.perm (List.Perm.swap _ _ _) ?_;refine Z2 ?_;rcases hn:numberR l1 with _ | ⟨n,r⟩
  ·refine OL.rcallN rfl rfl (.mk' rfl rfl rfl rfl rfl) (q134n hn _ _) wrong_c ?_;exact outP (P:=Tryz.prog) (fn:=Tryz.f132) wrong_c (.cons _ (.cons _ (.cons _ (.refl _)))) ⟨by rw[hv,thenR_none (numR_none hn)];rfl,rfl,rfl⟩
  ·rw[thenR_some (numR_some hn)] at hv;refine OL.rcallS rfl rfl rfl (.mk' rfl rfl rfl rfl rfl) (q134s hn _ _) ?_;refine Z7 ?_;by_cases h4:(n:Int)<=4
   ·rw[needR_yes (by simpa using h4)] at hv;refine OL.rcallS rfl rfl rfl (.mk' rfl rfl rfl rfl rfl) (q71t (by simpa using h4) _) ?_;refine Z10 ?_;unfold clsI at hI;refine CW.ownNilB (b:=b3) (t:=79) 3 1 1 YK rfl rfl ?_;refine lj (λm st=>∃(i:Nat) (v:Value),st=⟨[(16,.i i),(15,.i n),(3,.p b3 0),(2,.p b2 0),(0,.ptr [.p rb 0]),(1,.p pb 0)],.own 3 1 v::rdr rb r::.blk b3 79 [AV.ints ps,.as (AV.ints (slotsFrom s1 i)) v,nilA]::.blk b2 79 [nilA,nilA,nilA]::pzE pb (s1+i)::Hx⟩/\m=n - i/\i<=n) (⟨0,_,by rw[show s1+((0:Nat):Int)=s1 by omega],rfl,Yc⟩) ?_;rintro m _ ⟨i,v,rfl,rfl,hi⟩;refine Z6 ?_;refine cd (λh0=>?_) λh0=>?_
    ·have hil:i<n:=by omega
     have hsl:=slots_len s1 i;refine Z10 ?_;refine OL.popC (x:=.sl 1 [[.i (s1+i)]]) rfl rfl rfl (POp.row rfl rfl Yh rfl rfl rfl rfl rfl rfl) ?_;refine OL.appendC rfl rfl rfl rfl rfl rfl rfl rfl (AVle.refl _) (rfl) (λv=>by repeat (first | exact Upd.head _ _ _ | apply Upd.tail)) (by simp only[List.length_map,hsl,List.length_singleton];omega) (by simp only[List.length_map,hsl,List.length_singleton];omega) (λv23=>?_);refine Z17 ?_;exact ag (⟨i+1,v23,by rw[slots_snoc,ints_snoc,show s1+((i+1:Nat):Int)=s1+i+1 by omega],rfl,hil⟩)
    ·obtain rfl:n=i:=by omega
     refine Z6 ?_;refine CW.perm (List.Perm.swap _ _ _) ?_;refine Z3 ?_;rcases hz:listR initR (s1+(n:Int)) r with _ | ⟨is,s2,r2⟩
     ·refine OL.rcallN rfl rfl (.mk' rfl rfl rfl rfl rfl) YY wrong_c ?_;exact outP (P:=Tryz.prog) (fn:=Tryz.f132) wrong_c (.cons _ (.cons _ (.cons _ (.cons _ (.refl _))))) ⟨by rw[hv,thenR_none hz];rfl,rfl,rfl⟩
     ·rw[thenR_some hz] at hv;obtain rfl:=Still.list Still.init _ _ _ _ _ hz;refine OL.rcallS rfl rfl rfl (.mk' rfl rfl rfl rfl rfl) YY ?_;refine Z11 ?_;refine Done.retR (rs:=[.cell 2 79]) (H':=rdr rb r2::pzE pb (s1+n)::Hx) rfl (Yo) (.cons (AVle.agg (.cons (.refl _) (.cons (AVle.asL _ _) (.cons (.refl _) .nil)))) .nil) Yaz ?_;exact by rw[hv];rfl
   ·refine OL.rcallN rfl rfl (.mk' rfl rfl rfl rfl rfl) (q71f (by simpa using h4) _) wrong_c ?_;exact outP (P:=Tryz.prog) (fn:=Tryz.f132) wrong_c (.cons _ (.cons _ (.cons _ (.cons _ (.refl _))))) ⟨by rw[hv,needR_no (by simpa using h4)];rfl,rfl,rfl⟩
theorem clsOkR(rb pb:Nat):RdOk Tryz.prog rb (λs=>[pzE pb s]) (.fn (.func 132) [] [.ptr [.p rb 0],.p pb 0]) clsR (λx=>.agg (clsA x)) clsI:=.of (λ_ _ _ _ _ hI h=>cls_keep hI h) λs l Hx hI=>clsC hI rb pb Hx
theorem kidsC(A Sv Bv Cv Dv K:AV)(gens:List Int)(op n:Int)(hn:op=5->0<=n)(Hx:List Ent):RCall Tryz.prog 143 [.agg [A,Sv,AV.ints gens,Bv,Cv,Dv],(.agg [.i op,.i n,K])] Hx ((kidsN gens op n).map λk=>(.i k,Hx)) Hx wrongA:=by
 refine aC (n:=43) Tryz.func143 λB I w0=>?_;refine Z15 ?_;refine CW.cutJ (λst=>∃b:Bool,st=⟨[(7,.b b),(6,.i op),(3,.ptr [.i op,.i n,K]),(2,.ptr [A,Sv,AV.ints gens,Bv,Cv,Dv])],Hx⟩/\b=decide (op=1\/op=2\/op=3\/op=6\/op=18)) ?_ ?_
 ·refine Z6 ?_;refine cd (λh0=>?_) λh0=>?_
  ·refine Z1 ?_;exact cj ⟨(op==1),rfl,by simp[h0]⟩
  ·refine Z6 ?_;refine cd (λh1=>?_) λh1=>?_
   ·refine Z1 ?_;exact cj ⟨(op==2),rfl,by simp[h1]⟩
   ·refine Z6 ?_;refine cd (λh2=>?_) λh2=>?_
    ·refine Z1 ?_;exact cj ⟨(op==3),rfl,by simp[h2]⟩
    ·refine Z6 ?_;refine cd (λh3=>?_) λh3=>?_
     ·refine Z1 ?_;exact cj ⟨(op==6),rfl,by simp[h3]⟩
     ·refine Z4 ?_;exact cj ⟨(op==18),rfl,by have e:(op==18)=decide (op=18):=rfl;rw[e,decide_eq_decide];omega⟩
 ·rintro _ ⟨b,rfl,hb⟩;refine CW.cond rfl (λh4=>?_) (λh4=>?_)
  ·rw[hb,decide_eq_true_eq] at h4;refine Z8 ?_;refine r1 4 (Hx) ?_;exact by rw[kidsN,if_pos h4];rfl
  ·rw[hb,decide_eq_false_iff_not] at h4;refine CW.cutJ (λst=>∃b:Bool,st=⟨[(13,.b b),(6,.i op),(3,.ptr [.i op,.i n,K]),(2,.ptr [A,Sv,AV.ints gens,Bv,Cv,Dv])],Hx⟩/\b=decide (op=4\/op=8\/op=17)) ?_ ?_
   ·refine Z6 ?_;refine cd (λh5=>?_) λh5=>?_
    ·refine Z1 ?_;exact cj ⟨(op==4),rfl,by simp[h5]⟩
    ·refine Z6 ?_;refine cd (λh6=>?_) λh6=>?_
     ·refine Z1 ?_;exact cj ⟨(op==8),rfl,by simp[h6]⟩
     ·refine Z4 ?_;exact cj ⟨(op==17),rfl,by have e:(op==17)=decide (op=17):=rfl;rw[e,decide_eq_decide];omega⟩
   ·rintro _ ⟨b2,rfl,hb2⟩;refine CW.cond rfl (λh7=>?_) (λh7=>?_)
    ·rw[hb2,decide_eq_true_eq] at h7;refine Z8 ?_;refine r1 4 (Hx) ?_;exact by rw[kidsN,if_neg h4,if_pos h7];rfl
    ·rw[hb2,decide_eq_false_iff_not] at h7;refine Z6 ?_;refine cd (λh8=>?_) λh8=>?_
     ·refine Z8 ?_;refine r1 4 (Hx) ?_;exact by rw[kidsN,if_neg h4,if_neg h7,if_pos h8];rfl
     ·refine Z6 ?_;refine cd (λh9=>?_) λh9=>?_
      ·have hn0:=hn h9;refine Z13 ?_;refine OL.guardC rfl rfl rfl rfl rfl rfl (λhg=>(by first | exact POp.ixM rfl rfl (gd hg) rfl (gd hg) YW | exact POp.ixI rfl rfl (gd hg) rfl (gd hg) YW)) ?_;refine Z3 ?_;by_cases hq:n<gens.length/\gens.getD n.toNat default<=3
       ·have hi:=hq.1;refine OL.rcallS rfl rfl rfl (.mk' rfl rfl rfl rfl rfl) (q71t (by rw[Bool.cond_false_right,Bool.and_eq_true];exact⟨decide_eq_true (by have:=hq.1;omega),decide_eq_true hq.2⟩) _) ?_;refine Z16 ?_;refine r1 4 (Hx) ?_;exact by rw[kidsN,if_neg h4,if_neg h7,if_neg h8,if_pos h9,if_pos hq];rfl
       ·refine OL.rcallN rfl rfl (.mk' rfl rfl rfl rfl rfl) (q71f (by rw[Bool.cond_false_right,Bool.and_eq_false_iff,decide_eq_false_iff_not,decide_eq_false_iff_not];have h10:=Classical.not_and_iff_not_or_not.1 hq;omega) _) wrong_c ?_;exact outP (P:=Tryz.prog) (fn:=Tryz.f143) wrong_c (.refl _) ⟨by rw[kidsN,if_neg h4,if_neg h7,if_neg h8,if_pos h9,if_neg hq];rfl,rfl,rfl⟩
      ·refine Z9 ?_;refine r1 4 (Hx) ?_;exact by rw[kidsN,if_neg h4,if_neg h7,if_neg h8,if_neg h9];rfl
end Go.Proofs.YtpgnjlngepfanaaGreat
