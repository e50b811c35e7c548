/- Part 8 of the proof: contracts of functions of the program and what they need. No condition beyond those that each theorem names. -/
import Derived.Test.YtpgnjlngepfanaaGreatImageReadsP7
set_option maxHeartbeats 1000000
set_option linter.unusedVariables false
set_option linter.unusedSimpArgs false
set_option maxRecDepth 10000
namespace Go.Proofs.YtpgnjlngepfanaaGreat
open Go.Eng
open Go.Eng.Fc
open Go.Eng.Bd
instance:HasMapI Tryz.prog 276 (3,23):=⟨Yf,Yf⟩
instance:HasZ Tryz.prog 23 (.slice none 0 0):=⟨Yf⟩
abbrev gphE(gb mb:Nat)(g:List (List Int))(U:AV):Ent:=.blk gb 278 [AV.intss (parsOf g),U,.val (.map (some mb))]
theorem listsC{g:List (List Int)}(hg:fineP g=true){c:Nat}(hc:c<3+g.length){O:List (List Int)}{l:List (Int×AV)}(hO:OrdsOk O)(hOl:O.length=c)(hM:OrdMap l O)(gb mb:Nat)(U:AV):
  PCallIn Tryz.prog [gphE gb mb g U,imapE mb l] 287 [.p gb 0,.i c] (.tup [AV.intss ((listsP O ((parsOf g).getD c default)).getD []),.b (listsP O ((parsOf g).getD c default)).isSome]):=by
 intro H hm;refine aC (n:=50) Tryz.func287 λB I w0=>?_;obtain⟨ps,hps⟩:∃ps,ps=((parsOf g).getD c default):=⟨_,rfl⟩;have hpo:=parsOf_ps hg c;rw[<-hps] at hpo ⊢;have hgl:=fineP_len hg;refine Z17 ?_;refine oP (Yav) ?_;refine Z1 ?_;refine oP (Yam) ?_;refine Z6 ?_;rw[show (parsOf g).getD c default=ps from hps.symm];have hp3:=hpo.1;refine CW.ownNil 6 23 1 rfl ?_;refine lj (λm st=>∃(i:Nat) (v:Value),st=⟨[(17,.i i),(16,.i ps.length),(15,AV.ints ps),(0,.p gb 0),(1,.i c),(6,.as (AV.intss ((ps.take i).map (λp=>bareL (O.getD p.toNat [])))) v)],.own 23 1 v::H⟩/\m=ps.length - i/\i<=ps.length/\∀p∈ps.take i,O.getD p.toNat []≠ []) (⟨0,_,rfl,rfl,Yd,Yx⟩) ?_;rintro m _ ⟨i,v,rfl,rfl,hi,hne⟩;refine Z6 ?_;refine cd (λh0=>?_) λh0=>?_
 ·have hil:i<ps.length:=by omega
  obtain⟨p,hp⟩:∃p,p=ps.getD i default:=⟨_,rfl⟩;have hpm:p∈ps:=hp▸getD_memB hil;have hpr:=hpo.2 p hpm;have hol:=hO.len p.toNat;refine Z13 ?_;rw[<-hp];refine Z4 ?_;refine oP (Y3) ?_;refine Z1 ?_;refine oP (POp.lookupI rfl rfl rfl rfl rfl (.tail _ (hm _ (.tail _ (.head _)))) hM.ok Yax) ?_;refine OL.le 26 (y:=AV.ints (O.getD p.toNat [])) rfl (hM.look p Yd) ?_;refine Z4 ?_;refine cd (λh1=>?_) λh1=>?_
  ·have he:O.getD p.toNat []= []:=List.eq_nil_of_length_eq_zero Yd;refine Z13 ?_;refine Done.retR (rs:=[.tmp 4,.tmp 5]) (H':=H) rfl (.tmp rfl (.tmp rfl (.nil))) (.cons (AVle.nil 1) (.cons (.refl _) .nil)) Yb ?_;exact⟨by rw[lists_none hpm he];rfl,rfl⟩
  ·have he:O.getD p.toNat []≠ []:=λe=>by rw[e] at h1;simp at h1
   refine Z7 ?_;refine oP (Y3) ?_;refine Z1 ?_;refine oP (POp.lookupI rfl rfl rfl rfl rfl (.tail _ (hm _ (.tail _ (.head _)))) hM.ok Yax) ?_;refine OL.le 35 (y:=AV.ints (O.getD p.toNat [])) rfl (hM.look p Yd) ?_;refine oP (POp.call .k (bareC _ Yd)) ?_;refine OL.popC (x:=.sl 1 [[AV.ints (bareL (O.getD p.toNat []))]]) rfl rfl rfl (POp.row rfl rfl Yh rfl rfl rfl rfl rfl rfl) ?_;refine OL.appendC rfl rfl rfl rfl rfl rfl rfl rfl (AVle.refl _) (rfl) (λv=>by repeat (first | exact Upd.head _ _ _ | apply Upd.tail)) Yr Yr (λv38=>?_);refine Z8 ?_;exact ag (⟨i+1,v38,by rw[intss_snocF (λp=>bareL (O.getD p.toNat [])) ps hil, <-hp],rfl,hil,λq hq=>by rw[<-take_getD hil,List.mem_append,List.mem_singleton, <-hp] at hq;rcases hq with hq | rfl;exact hne q hq;exact he⟩)
 ·obtain rfl:i=ps.length:=by omega
  rw[List.take_length] at hne ⊢;refine Z11 ?_;refine oP (Y3) ?_;refine Z1 ?_;refine oP (Yam) ?_;refine Z1 ?_;refine OL.popC (x:=.sl 1 [[AV.ints ((parsOf g).getD c default)]]) rfl rfl rfl (POp.row rfl rfl Yh rfl rfl rfl rfl rfl rfl) ?_;refine OL.appendC rfl rfl rfl rfl rfl rfl rfl rfl (AVle.refl _) (rfl) (λv=>by repeat (first | exact Upd.head _ _ _ | apply Upd.tail)) Yr Yr (λv49=>?_);refine Z5 ?_;refine Done.retR (rs:=[.tmp 4,.tmp 5]) (H':=H) rfl (.tmp rfl (.tmp rfl (.nil))) (.cons (AVle.asL _ _) (.cons (.refl _) .nil)) Yb ?_;exact⟨by rw[lists_some hne, <-hps];show _=AV.tup [AV.sl 1 (List.map _ (_++_)),_];rw[List.map_append];rfl,rfl⟩
theorem orderC{g:List (List Int)}(hg:fineP g=true){O:List (List Int)}(hc:O.length<3+g.length){l:List (Int×AV)}(hO:OrdsOk O)(hM:OrdMap l O)(gb mb:Nat)(U:AV)(H:List Ent):
  ACall Tryz.prog 272 [.p gb 0,.i O.length] (gphE gb mb g U::imapE mb l::H) (λ_ H'=>∃l',OrdMap l' (O++[orderP O O.length ((parsOf g).getD O.length default)])/\H'=gphE gb mb g U::imapE mb l'::H) (λ_ _=>False):=by
 refine aC (n:=40) Tryz.func272 λB I w0=>?_;have hgl:=fineP_len hg;have hpo:=parsOf_ps hg O.length;have hol:=(orderP_ok hO hpo).len;refine Z7 ?_;refine cd (λh0=>?_) λh0=>?_
 ·have h0:O.length=0:=by omega
  refine Z6 ?_;refine oP (POp.row rfl rfl Yh rfl rfl rfl rfl rfl rfl) ?_;refine OL.mapPut (u':=AV.ints [0]) rfl rfl (.inl rfl) rfl rfl rfl rfl rfl rfl (AVle.refl _) (.tail _ _ _ _ _ (.head _ _ _)) hM.ok Yax ?_;refine Z4 ?_;refine rR [] (gphE gb mb g U::imapE mb (putI l 0 (AV.ints [0]))::H) ?_;exact⟨_,by rw[order_zero h0];have:=hM.put (x:=[0]) Yx Yd;rwa [h0] at this,rfl⟩
 ·have h0:O.length≠0:=by omega
  refine Z3 ?_;rcases hl:listsP O ((parsOf g).getD O.length default) with _ | all
  ·refine Z3 ?_;refine oP (POp.callIn .k (AVleL.refl _) (by have h:=listsC hg hc hO rfl hM gb mb U;rw[hl] at h;exact h) mem_two) ?_;refine Z14 ?_;refine CW.cond rfl (λh1=>?_) (λh1=>?_)
   ·replace h1:=nm h1;refine Z2 ?_;refine rR [] (gphE gb mb g U::imapE mb l::H) ?_;exact⟨l,by rw[order_none h0 hl];exact hM.skip,rfl⟩
   ·simp at h1
  ·obtain⟨ht1,ht2⟩:=lists_total hO hpo.1 hl;refine Z3 ?_;refine oP (POp.callIn .k (AVleL.refl _) (by have h:=listsC hg hc hO rfl hM gb mb U;rw[hl] at h;exact h) mem_two) ?_;refine Z14 ?_;refine CW.cond rfl (λh2=>?_) (λh2=>?_)
   ·simp at h2
   ·replace h2:=nm h2;refine Z5 ?_;refine oP (POp.call .k (mergeC all Yd Yd)) ?_;refine Z12 ?_;refine cd (λh3=>?_) λh3=>?_
    ·have h3:(mergeP all).2=true:=h3;rw[order_yes h0 hl h3] at hol;simp only[List.length_cons,List.length_append,List.length_nil] at hol;refine CW.dp mixed ?_;refine DP.anyK (X:=noX) [⟨6,35,false⟩,⟨8,37,false⟩,⟨10,39,false⟩] (λJ=>match J with | [some v,none,none]=>.own 3 1 v::gphE gb mb g U::imapE mb l::H | [_,some v,none]=>.own 3 1 v::gphE gb mb g U::imapE mb l::H | [_,_,some v]=>.own 3 1 v::gphE gb mb g U::imapE mb l::H | _=>gphE gb mb g U::imapE mb l::H) (λq J=>match q,J with | 0,[some v,_,_]=>.as (.sl 1 [[AV.i (O.length:Int)]]) v | 1,[_,some v,_]=>.as (.sl 1 ([[AV.i (O.length:Int)]]++((mergeP all).1.map λn=>[AV.i n]))) v | 2,[_,_,some v]=>.as (.sl 1 ([[AV.i (O.length:Int)]]++((mergeP all).1.map λn=>[AV.i n])++[[.i 0]])) v | _,_=>.any) 0 11 40 rfl Ye Ye rfl rfl Ye rfl (λ_ _ _ _ _ _ _ _ _ h=>h.elim) ?_;refine UD.popK [[true,true,true],[true,true,false],[true,false,false],[false,false,false]] rfl Ye rfl rfl rfl ⟨λf=>POp.move rfl rfl rfl,λf=>POp.move rfl rfl rfl,λf=>POp.move rfl rfl rfl,λf=>POp.move rfl rfl rfl,trivial⟩ ?_;refine UD.popK [[true,true,true],[true,true,false],[true,false,false],[false,false,false]] rfl Ye rfl rfl rfl ⟨λf=>Yu,λf=>Yu,λf=>Yu,λf=>Yu,trivial⟩ ?_;refine UD.popK [[true,true,true],[true,true,false],[true,false,false],[false,false,false]] rfl Ye rfl rfl rfl ⟨λf=>Yi,λf=>Yi,λf=>Yi,λf=>Yi,trivial⟩ ?_;refine UD.popK [[true,true,true],[true,true,false],[true,false,false],[false,false,false]] rfl Ye rfl rfl rfl ⟨λf=>Ya,λf=>Ya,λf=>Ya,λf=>Ya,trivial⟩ ?_;refine UD.popK [[true,true,true],[true,true,false],[true,false,false],[false,false,false]] rfl Ye rfl rfl rfl ⟨λf=>POp.move rfl rfl rfl,λf=>POp.move rfl rfl rfl,λf=>POp.move rfl rfl rfl,λf=>POp.move rfl rfl rfl,trivial⟩ ?_;refine UD.popK [[false,false,false]] rfl Ye rfl rfl rfl ⟨λf=>POp.move rfl rfl rfl,trivial⟩ ?_;refine UD.effK 0 [[false,false,false]] rfl rfl rfl Ye rfl rfl rfl ⟨λf=>⟨KOk.rowOwn rfl rfl rfl rfl rfl rfl rfl rfl rfl (λ_=>rfl) (λ_=>rfl),Yp⟩,trivial⟩ ?_;refine UD.popK [[true,false,false],[false,false,false]] rfl Ye rfl rfl rfl ⟨λf=>POp.move rfl rfl rfl,λf=>POp.move rfl rfl rfl,trivial⟩ ?_;refine UD.effK 1 [[true,false,false]] rfl rfl rfl Ye rfl rfl rfl ⟨λf=>⟨KOk.own rfl rfl rfl (AVle.refl _) rfl rfl (AVle.refl _) (one_ints _) YI YI (λ_=>.head _ _ _) (λ_=>rfl),Yp⟩,trivial⟩ ?_;refine UD.popK [[true,true,false],[true,false,false],[false,false,false]] rfl Ye rfl rfl rfl ⟨λf=>POp.row rfl rfl Yh rfl rfl rfl rfl rfl rfl,λf=>POp.row rfl rfl Yh rfl rfl rfl rfl rfl rfl,λf=>POp.row rfl rfl Yh rfl rfl rfl rfl rfl rfl,trivial⟩ ?_;refine UD.effK 2 [[true,true,false]] rfl rfl rfl Ye rfl rfl rfl ⟨λf=>⟨KOk.own (news:=[[.i 0]]) rfl rfl rfl (AVle.refl _) rfl rfl (AVle.refl _) rfl YI YI (λ_=>.head _ _ _) (λ_=>rfl),Yp⟩,trivial⟩ ?_;refine UD.nil (λf=>?_);simp only[kvals,List.map_cons,List.map_nil,List.cons_append,List.nil_append];refine Z1 ?_;refine OL.le 39 (y:=AV.ints ((O.length:Int)::((mergeP all).1++[0]))) rfl (by rw[ord_cells];exact AVle.asL _ _) ?_;refine OL.mapPut rfl rfl (.inl rfl) rfl rfl rfl rfl rfl rfl (AVle.refl _) (.tail _ _ _ _ _ (.tail _ _ _ _ _ (.head _ _ _))) hM.ok Yax ?_;refine Z1 ?_;refine nR [] (gphE gb mb g U::imapE mb (putI l O.length (AV.ints ((O.length:Int)::((mergeP all).1++[0]))))::H) ?_;exact⟨_,by rw[order_yes h0 hl h3];exact hM.put Yx Yd,rfl⟩
    ·have h3:(mergeP all).2=false:=h3;refine Z1 ?_;refine nR [] (gphE gb mb g U::imapE mb l::H) ?_;exact⟨l,by rw[order_no h0 hl h3];exact hM.skip,rfl⟩
instance:HasMk Tryz.prog 149 (23,24,.slice none 0 0):=⟨Yf⟩
theorem openT{g:List (List Int)}(hg:fineP g=true){cs:List Int}(hcs:∀c∈cs,0<=c/\c<3+g.length)(hcl:cs.length<=1000000)(H:List Ent):ACall Tryz.prog 247 [AV.intss g,AV.ints cs] H
  (λy H'=>∃gb mb l U,y= .tup [.p gb 0,.b true]/\OrdMap l (ordersP g)/\H'=gphE gb mb g U::imapE mb l::H) (λ_ _=>False):=by
 refine aC (n:=104) Tryz.func247 λB I w0=>?_;have hgl:=fineP_len hg;refine Z10 ?_;refine oP (POp.call .k (fine g)) ?_;refine Z3 ?_;refine CW.cond rfl (λh0=>?_) (λh0=>?_)
 ·simp[hg] at h0
 ·replace h0:=nm h0;refine Z11 ?_;refine lj (λm st=>∃i:Nat,st=⟨[(20,.i i),(19,.i cs.length),(18,AV.ints cs),(0,AV.intss g)],H⟩/\m=cs.length - i/\i<=cs.length) (⟨0,rfl,rfl,Yd⟩) ?_;rintro m _ ⟨i,rfl,rfl,hi⟩;refine Z6 ?_;refine cd (λh1=>?_) λh1=>?_
  ·have hil:i<cs.length:=by omega
   have hc:=hcs _ (getD_memB hil);refine Z24 ?_;refine CW.cond rfl (λh2=>?_) (λh2=>?_)
   ·rw[Bool.cond_true_left] at h2;simp only[Bool.or_eq_true,decide_eq_true_eq] at h2;omega
   ·replace h2:=nm h2;refine Z7 ?_;exact ag (⟨i+1,rfl,rfl,hil⟩)
  ·refine Z10 ?_;refine OL.mkSlL 3 (3+g.length) rfl rfl rfl rfl rfl rfl rfl rfl rfl Yx Yd Yd Y0 (λpb=>?_);refine OL.mkMap rfl rfl rfl rfl (λmb=>?_);refine Z1 ?_;refine OL.boxC rfl rfl rfl rfl rfl rfl rfl (λgb=>?_);refine Z11 ?_;refine OL.appendRoomX (news:=gRows g) rfl rfl rfl rfl rfl rfl rfl rfl (AVle.refl _) Yab (one_intss g) (by rw[gRows_flat,List.length_replicate];omega) (.tail _ _ _ _ _ (.tail _ _ _ _ _ (.head _ _ _))) ?_;refine OL.eqH (H':=.blk gb 278 [.val (.slice (some ⟨pb,0,none⟩) 3 (3+g.length)),.val (.slice none 0 0),.val (.map (some mb))]::imapE mb []::.blk pb 23 ((nilRows++gRows g).flatten++[])::H) (by rw[<-rows_cells g _ rfl];rfl) ?_;refine OL.freezeS (k:=1) (d:=47) rfl (.tail _ _ _ _ (.tail _ _ _ _ (.head _ _))) YI (λe he=>?_) Yab Y0 ?_
   ·rcases List.mem_append.1 he with h | h
    ·simp at h;rw[h];rfl
    ·obtain⟨y,_,rfl⟩:=List.mem_map.1 h;rfl
   refine OL.le 47 (y:=AV.intss (parsOf g)) rfl (rows_le g) ?_;refine Z17 ?_;refine CW.ownNilB (b:=gb) (t:=278) 303 1 1 Yy rfl rfl ?_;refine CW.le 54 (y:=.i ((3+g.length:Nat):Int)) rfl (AVle.eqI (by rw[parsOf_len])) ?_;refine lj (λm st=>∃(i:Nat) (us:List Nat) (v:Value),st=⟨[(55,.i i),(54,.i ((3+g.length:Nat):Int)),(53,AV.intss (parsOf g)),(8,.p gb 0)],.own 303 1 v::gphE gb mb g (.as (AV.sets us) v)::imapE mb []::H⟩/\m=(3+g.length) - i/\i<=(3+g.length)/\us.length=i/\∀x∈us,x<18446744073709551616) (⟨0,[],_,rfl,rfl,Yd,rfl,Yx⟩) ?_;rintro m _ ⟨i,us,v,rfl,rfl,hi,hus,hu64⟩;refine Z6 ?_;refine cd (λh3=>?_) λh3=>?_
   ·have hil:i<3+g.length:=by omega
    obtain⟨ps,hps⟩:∃ps,ps=(parsOf g).getD i default:=⟨_,rfl⟩;have hpo:=parsOf_ps hg i;rw[<-hps] at hpo;have hp3:=hpo.1;refine Z7 ?_;refine oP ((by first | exact POp.ixM rfl rfl rfl rfl rfl (by rw[parsOf_len];exact hil) | exact POp.ixI rfl rfl rfl rfl rfl (by rw[parsOf_len];exact hil))) ?_;refine Z6 ?_;rw[<-hps];refine Z3 ?_;refine oP (POp.call .k (lsWith 0 i Yd Yd)) ?_;refine oP (POp.call .k (lsWith _ 0 Yd (or64 Yd (pow64 Yd)))) ?_;refine OL.alC rfl rfl rfl rfl (λsb=>?_);refine Z12 ?_;obtain⟨s0,hs0⟩:∃s0,s0=0 ||| 2^(i:Int).toNat ||| 2^(0:Int).toNat:=⟨_,rfl⟩
    have hs64:s0<18446744073709551616:=hs0▸or64 (or64 Yd (pow64 Yd)) YJ;refine lj (λm st=>∃(j s:Nat),st=⟨[(66,.i j),(65,.i ps.length),(64,AV.ints ps),(11,.p sb 0),(55,.i i),(54,.i ((3+g.length:Nat):Int)),(53,AV.intss (parsOf g)),(8,.p gb 0)],.blk sb 303 [AV.set s]::.own 303 1 v::gphE gb mb g (.as (AV.sets us) v)::imapE mb []::H⟩/\m=ps.length - j/\j<=ps.length/\s<18446744073709551616) (⟨0,s0,by rw[hs0],rfl,Yd,hs64⟩) ?_;rintro m _ ⟨j,s,rfl,rfl,hj,hs⟩;refine Z6 ?_;refine cd (λh4=>?_) λh4=>?_
    ·have hjl:j<ps.length:=by omega
     have hpm:=hpo.2 _ (getD_memB hjl);refine Z11 ?_;refine CW.dp mixed ?_;refine DP.anyC 0 8 104 rfl Ye rfl rfl Ye ?_;refine Z6 ?_;refine AD.popC rfl rfl rfl (POp.leC 74 rfl (AVle.asL _ _) (POp.ixI rfl rfl rfl rfl rfl Yd)) ?_;refine Z3 ?_;refine oP (POp.call .k (lsOr s _ hs (lt_get hu64 _))) ?_;refine Z8 ?_;exact ag (⟨j+1,s ||| us.getD (ps.getD j default).toNat default,rfl,rfl,hjl,or64 hs (lt_get hu64 _)⟩)
    ·refine Z5 ?_;refine CW.dp mixed ?_;refine DP.anyK (X:=noX) [⟨7,87,false⟩] (λJ=>match J with | [some v2]=>.blk sb 303 [AV.set s]::.own 303 1 v2::gphE gb mb g (.as (AV.sets us) v)::imapE mb []::H | _=>.blk sb 303 [AV.set s]::.own 303 1 v::gphE gb mb g (.as (AV.sets us) v)::imapE mb []::H) (λq J=>match q,J with | 0,[some v2]=>.as (.sl 1 ((us.map λs=>[AV.set s])++[[AV.set s]])) v2 | _,_=>.any) 0 8 104 rfl Ye Ye rfl rfl Ye rfl (λ_ _ _ _ _ _ _ _ _ h=>h.elim) ?_;refine UD.popK [[true],[false]] rfl Ye rfl rfl rfl ⟨λf=>POp.move rfl rfl rfl,λf=>POp.move rfl rfl rfl,trivial⟩ ?_;refine UD.popK [[false]] rfl Ye rfl rfl rfl ⟨λf=>POp.move rfl rfl rfl,trivial⟩ ?_;refine UD.popK [[false]] rfl Ye rfl rfl rfl ⟨λf=>Yu,trivial⟩ ?_;refine UD.popK [[false]] rfl Ye rfl rfl rfl ⟨λf=>Yi,trivial⟩ ?_;refine UD.popK [[false]] rfl Ye rfl rfl rfl ⟨λf=>Ya,trivial⟩ ?_;refine UD.popK [[false]] rfl Ye rfl rfl rfl ⟨λf=>Yn,trivial⟩ ?_;refine UD.popK [[false]] rfl Ye rfl rfl rfl ⟨λf=>POp.row rfl rfl Yh rfl rfl rfl rfl rfl rfl,trivial⟩ ?_;refine UD.effK 0 [[false]] rfl rfl rfl Ye rfl rfl rfl ⟨λf=>⟨KOk.own (news:=[[AV.set s]]) rfl rfl rfl (AVle.refl _) rfl rfl (AVle.refl _) rfl YI YI (λ_=>.tail _ _ _ _ _ (.head _ _ _)) (λ_=>rfl),Yp⟩,trivial⟩ ?_;refine UD.nil (λf=>?_);simp only[kvals,List.map_cons,List.map_nil,List.cons_append,List.nil_append];refine Z11 ?_;rw[sets_snoc];exact ag ⟨i+1,us++[s],f 87,rfl,rfl,hil,by rw[List.length_append,hus];rfl,λx hx=>by rcases List.mem_append.1 hx with h | h;exact hu64 x h;simp at h;rw[h];exact hs⟩
   ·refine Z17 ?_;refine CW.subH (H':=gphE gb mb g (.as (AV.sets us) v)::imapE mb []::H) (.cons _ (.refl _)) ?_;obtain⟨U,hU⟩:∃U:AV,U= .as (AV.sets us) v:=⟨_,rfl⟩;rw[<-hU];refine CW.le 95 (y:=.i ((3+g.length:Nat):Int)) rfl (AVle.eqI (by rw[parsOf_len])) ?_;refine lj (λm st=>∃(i:Nat) (l:List (Int×AV)),st=⟨[(96,.i i),(95,.i ((3+g.length:Nat):Int)),(8,.p gb 0)],gphE gb mb g U::imapE mb l::H⟩/\m=(3+g.length) - i/\i<=(3+g.length)/\OrdMap l (ordT g i)) (⟨0,[],rfl,rfl,Yd,.nil⟩) ?_;rintro m _ ⟨i,l,rfl,rfl,hi,hM⟩;refine Z6 ?_;refine cd (λh5=>?_) λh5=>?_
    ·have hil:i<3+g.length:=by omega
     refine Z13 ?_;refine bC .k (by have h:=orderC hg (O:=ordT g i) (by rw[ordT_len Yd];exact hil) (ordT_ok hg i Yd) hM gb mb U H;rw[ordT_len Yd] at h;exact h.b) ?_
     ·rintro y H1 ⟨l',hM',rfl⟩;rw[<-ordT_succ' hil] at hM';refine Z7 ?_;exact ag (⟨i+1,l',rfl,rfl,hil,hM'⟩)
    ·obtain rfl:i=3+g.length:=by omega
     rw[ordT_all] at hM;refine Z13 ?_;refine rR [.tmp 4,.tmp 5] (gphE gb mb g U::imapE mb l::H) ?_;exact⟨gb,mb,l,U,Yg,hM,rfl⟩
theorem linT{g:List (List Int)}(hg:fineP g=true){c:Int}(hc:0<=c/\c<3+g.length):PCall Tryz.prog 224 [AV.intss g,.i c] (.tup [AV.ints (linP g c),.i (if(linP g c).isEmpty then 7 else 0)]):=by
 intro H;refine aC (n:=32) Tryz.func224 λB I w0=>?_;have hgl:=fineP_len hg;have hll:(linP g c).length<=1000:=by
  have h1:=(ordT_ok hg (3+g.length) (Nat.le_refl _)).len c.toNat;rw[ordT_len (Nat.le_refl _),ordT_all] at h1;show ((ordersP g).getD c.toNat []).length<=1000;omega
 refine Z10 ?_;refine oP (POp.row rfl rfl Yh rfl rfl rfl rfl rfl rfl) ?_;refine bC .k ((openT hg (cs:=[c]) (λx hx=>by simp at hx;rw[hx];exact hc) Yx H).b) ?_
 ·rintro _ _ ⟨gb,mb,l,U,rfl,hM,rfl⟩;refine Z14 ?_;refine CW.cond rfl (λh0=>?_) (λh0=>?_)
  ·simp at h0
  ·replace h0:=nm h0;refine Z10 ?_;refine oP (POp.lookupI rfl rfl rfl rfl rfl (.tail _ (.head _)) hM.ok Yax) ?_;refine OL.le 22 (y:=AV.ints (linP g c)) rfl (hM.look c Yd) ?_;refine Z4 ?_;refine cd (λh1=>?_) λh1=>?_
   ·have he:linP g c= []:=List.eq_nil_of_length_eq_zero Yd;refine Z8 ?_;refine Done.retR (rs:=[.tmp 4,.tmp 5]) (H':=H) rfl (.tmp rfl (.tmp rfl (.nil))) (.cons (AVle.nil 1) (.cons (.refl _) .nil)) Yb ?_;exact⟨by rw[he];rfl,rfl⟩
   ·have he:linP g c≠ []:=λe=>by rw[e] at h1;simp at h1
    refine Z9 ?_;refine oP (POp.lookupI rfl rfl rfl rfl rfl (.tail _ (.head _)) hM.ok Yax) ?_;refine OL.le 30 (y:=AV.ints (linP g c)) rfl (hM.look c Yd) ?_;refine oP (POp.call .k (cloneI _ Yd)) ?_;refine Z5 ?_;refine rR [.tmp 4,.tmp 5] (H) ?_;exact⟨by cases hl:linP g c with
 | nil=>exact absurd hl he
 | cons a r=>rfl,rfl⟩
end Go.Proofs.YtpgnjlngepfanaaGreat

namespace Go.Eng.Bd
open Go.Eng.Fc
variable{l:List (Int×AV)}{S out o o2 o':List Int}{p:Prog}{n i:Nat}{c:Int}{f:Nat->Bool}{m:Mth}{α:Type}
abbrev intEls(l:List Int):List (List AV):=l.map λn=>[AV.i n]
abbrev rowE(v:Value)(l:List Int):Ent:=.row 3 1 v (intEls l).length (intEls l).flatten
theorem intEls_len(l:List Int):(intEls l).length=l.length:=by simp
theorem rowE_append(v:Value)(l m:List Int): .row 3 1 v ((intEls l).length+(intEls m).length) ((intEls l).flatten++(intEls m).flatten)=rowE v (l++m):=by
 simp[rowE]
def sortI(l:List Int):List Int:=l.mergeSort λx y=>decide (x<=y)
structure MapSet(l:List (Int×AV))(S:List Int):Prop where
 ok:IMapOk l
 get:∀k:Int,getI l k=if k∈S then some (.b true) else none
theorem MapSet.nil:MapSet [] []:=⟨.nil,λk=>by simp[getI]⟩
theorem MapSet.put{l:List (Int×AV)}{S:List Int}(h:MapSet l S){k:Int}(hk:smallKey k):MapSet (putI l k (.b true)) (S++[k]):=by
 refine⟨h.ok.put hk _,λk'=>?_⟩;rw[getI_put,h.get];by_cases h1:k'=k
 ·subst h1;simp
 ·rw[if_neg h1];simp[h1]
theorem MapSet.look(h:MapSet l S)(k:Int):AVle ((getI l k).getD (.val (.bool false))) (.b (S.contains k)):=by
 rw[h.get];by_cases h1:k∈S
 ·rw[if_pos h1,List.contains_iff_mem.2 h1];exact AVle.refl _
 ·rw[if_neg h1,show S.contains k=false from by simpa using h1];exact AVle.refl _
def hasN(p:Prog):Nat->List Int->List Int->List Int
 | 0,_,out=>out
 | n+1,S,out=>if S.contains ((n:Int)+3) then hasN p n (S++(p.classes.getD n default).parents) (out++(p.classes.getD n default).slots) else hasN p n S out
def hasP(p:Prog)(class_:Int):List Int:=sortI (hasN p (class_ - 2).toNat [class_] [])
theorem hasN_in(hc:c=n+3)(h:S.contains c=true):hasN p (c - 2).toNat S out=hasN p (c - 1 - 2).toNat (S++(p.classes.getD (c - 3).toNat default).parents) (out++(p.classes.getD (c - 3).toNat default).slots):=by
 subst hc;rw[show ((n:Int)+3 - 2).toNat=n+1 by omega,show ((n:Int)+3 - 1 - 2).toNat=n by omega,show ((n:Int)+3 - 3).toNat=n by omega,hasN,if_pos h]
theorem hasN_out(hc:c=n+3)(h:S.contains c=false):hasN p (c - 2).toNat S out=hasN p (c - 1 - 2).toNat S out:=by
 subst hc;rw[show ((n:Int)+3 - 2).toNat=n+1 by omega,show ((n:Int)+3 - 1 - 2).toNat=n by omega,hasN,if_neg (by rw[h];simp)]
section
variable{P:Program}{H:List Ent}{ρ:Nat->Option AV}{o:Oper}
theorem POp.lookupS{t:TypeId}{x kx:Operand}{b:Nat}{ke:Nat×Nat}{k:Int}{g1 g2:Bool}[hM:HasMapI P t ke][hZ:HasZ P ke.2 (.bool false)](h:o.op= .lookup t x kx false)
  (hx:aev ρ x=some (g1,.val (.map (some b)))) (hg1:g1=true) (hk:aev ρ kx=some (g2,.i k)) (hg2:g2=true) (hm:imapE b l∈H) (hS:MapSet l S) (hsm:smallKey k):POp P H ρ o (.b (S.contains k)):=by
 have h1:=POp.lookupI (P:=P) (H:=H) (ke:=ke) (zv:=.bool false) h hx hg1 hk hg2 hm hS.ok hsm;have e:(getI l k).getD (.val (.bool false))= .b (S.contains k):=by
  rw[hS.get];by_cases h1:k∈S
  ·rw[if_pos h1,List.contains_iff_mem.2 h1];rfl
  ·rw[if_neg h1,show S.contains k=false from by simpa using h1];rfl
 rwa [e] at h1
end
theorem bool_or(b:Bool):b=false\/b=true:=by cases b <;> simp
def slots1:List Int->Nat->Bool
 | [],_=>true
 | s::r,n=>(s==(n:Int)) && slots1 r (n+1)
def slotsA:List Cls->Nat->Bool
 | [],_=>true
 | c::r,n=>decide (c.slots.length<=4) && slots1 c.slots n && slotsA r (n+c.slots.length)
def slotsCnt(cs:List Cls):Nat:=(cs.map (·.slots.length)).sum
def inits1(mine:List Int):List (Int×Int)->List Int->Bool
 | [],_=>true
 | x::r,seen=>(mine.contains x.1 && !seen.contains x.1 && inP x.2) && inits1 mine r (seen++[x.1])
def clsOk(p:Prog)(i:Nat):Bool:=!(linP (graphP p) ((i:Int)+3)).isEmpty && inits1 (hasP p ((i:Int)+3)) (p.classes.getD i default).inits []
def classesP(p:Prog):Bool:=decide (p.classes.length<=10) && slotsA p.classes 0 && (((slotsCnt p.classes:Int)==p.slots) && fineP (graphP p)) && (List.range p.classes.length).all (clsOk p)
theorem slots1_take:∀(l:List Int) (n k:Nat),k<l.length->slots1 (l.take (k+1)) n=(slots1 (l.take k) n && (l.getD k default==((n+k:Nat):Int)))
 | [],n,k,h=>by simp at h
 | x::r,n,0,h=>by simp[slots1]
 | x::r,n,k+1,h=>by
  have:=slots1_take r (n+1) k Yac;simp only[List.take_succ_cons,slots1,List.getD_cons_succ];rw[this,Bool.and_assoc,show n+1+k=n+(k+1) by omega]
theorem slots1_all:∀(l:List Int) (n k:Nat),slots1 l n=true->slots1 (l.take k) n=true
 | [],n,k,h=>by simp[slots1]
 | x::r,n,0,h=>rfl
 | x::r,n,k+1,h=>by
  simp only[List.take_succ_cons,slots1,Bool.and_eq_true] at h ⊢;exact⟨h.1,slots1_all r _ k h.2⟩
theorem slots1_mem:∀(l:List Int) (n:Nat),slots1 l n=true->∀x∈l,(n:Int)<=x/\x<n+l.length
 | [],n,_,x,hx=>by cases hx
 | y::r,n,h,x,hx=>by
  simp only[slots1,Bool.and_eq_true,beq_iff_eq] at h;rw[List.length_cons];rcases List.mem_cons.1 hx with rfl | hx
  ·omega
  ·have:=slots1_mem r (n+1) h.2 x hx;omega
theorem slotsA_take:∀(l:List Cls) (n k:Nat),k<l.length->slotsA (l.take (k+1)) n=(slotsA (l.take k) n && (decide ((l.getD k default).slots.length<=4) && slots1 (l.getD k default).slots (n+slotsCnt (l.take k))))
 | [],n,k,h=>by simp at h
 | x::r,n,0,h=>by simp[slotsA,slotsCnt]
 | x::r,n,k+1,h=>by
  have:=slotsA_take r (n+x.slots.length) k Yac;simp only[List.take_succ_cons,slotsA,List.getD_cons_succ];rw[this,Bool.and_assoc,Bool.and_assoc,Bool.and_assoc,show n+slotsCnt (x::r.take k)=n+x.slots.length+slotsCnt (r.take k) by simp[slotsCnt];omega]
theorem slotsA_all:∀(l:List Cls) (n k:Nat),slotsA l n=true->slotsA (l.take k) n=true
 | [],n,k,h=>by simp[slotsA]
 | x::r,n,0,h=>rfl
 | x::r,n,k+1,h=>by
  simp only[List.take_succ_cons,slotsA,Bool.and_eq_true] at h ⊢;exact⟨h.1,slotsA_all r _ k h.2⟩
theorem slotsCnt_take{l:List Cls}{k:Nat}(h:k<l.length):slotsCnt (l.take (k+1))=slotsCnt (l.take k)+(l.getD k default).slots.length:=by
 rw[<-take_getD h];simp[slotsCnt]
theorem slotsA_mem:∀(l:List Cls) (n:Nat),slotsA l n=true->∀c∈l,c.slots.length<=4/\∀x∈c.slots,0<=x/\x<n+4*l.length
 | [],n,_,c,hc=>by cases hc
 | y::r,n,h,c,hc=>by
  simp only[slotsA,Bool.and_eq_true,decide_eq_true_eq] at h;rw[List.length_cons];rcases List.mem_cons.1 hc with rfl | hc
  ·exact⟨h.1.1,λx hx=>by have:=slots1_mem _ _ h.1.2 x hx;omega⟩
  ·have:=slotsA_mem r _ h.2 c hc;exact⟨this.1,λx hx=>by have:=this.2 x hx;omega⟩
theorem slotsA_cnt:∀(l:List Cls) (n:Nat),slotsA l n=true->slotsCnt l<=4*l.length
 | [],n,_=>by simp[slotsCnt]
 | y::r,n,h=>by
  simp only[slotsA,Bool.and_eq_true,decide_eq_true_eq] at h;have:=slotsA_cnt r _ h.2;have e:slotsCnt (y::r)=y.slots.length+slotsCnt r:=by simp[slotsCnt]
  rw[e,List.length_cons];omega
theorem inits1_take(mine:List Int):∀(l:List (Int×Int)) (seen:List Int) (k:Nat),k<l.length->inits1 mine (l.take (k+1)) seen=(inits1 mine (l.take k) seen && (mine.contains (l.getD k default).1 && !(seen++(l.take k).map (·.1)).contains (l.getD k default).1 && inP (l.getD k default).2))
 | [],seen,k,h=>by simp at h
 | x::r,seen,0,h=>by simp[inits1]
 | x::r,seen,k+1,h=>by
  have:=inits1_take mine r (seen++[x.1]) k Yac;simp only[List.take_succ_cons,inits1,List.getD_cons_succ];rw[this,Bool.and_assoc (mine.contains x.1 && !seen.contains x.1 && inP x.2),List.map_cons,List.append_assoc,List.singleton_append]
theorem inits1_all(mine:List Int):∀(l:List (Int×Int)) (seen:List Int) (k:Nat),inits1 mine l seen=true->inits1 mine (l.take k) seen=true
 | [],seen,k,h=>by simp[inits1]
 | x::r,seen,0,h=>rfl
 | x::r,seen,k+1,h=>by
  simp only[List.take_succ_cons,inits1,Bool.and_eq_true] at h ⊢;exact⟨h.1,inits1_all mine r _ k h.2⟩
theorem hasN_mem{p:Prog}:∀(n:Nat) (S out:List Int),∀x∈hasN p n S out,x∈out\/∃i,x∈(p.classes.getD i default).slots
 | 0,S,out,x,h=>.inl h
 | n+1,S,out,x,h=>by
  rw[hasN] at h;split at h
  ·rcases hasN_mem n _ _ x h with h | h
   ·rcases List.mem_append.1 h with h | h
    ·exact .inl h
    ·exact .inr ⟨n,h⟩
   ·exact .inr h
  ·exact hasN_mem n _ _ x h
theorem hasP_mem{k x:Int}(h:x∈hasP p k):∃c∈p.classes,x∈c.slots:=by
 unfold hasP sortI at h;rw[List.mem_mergeSort] at h;rcases hasN_mem _ _ _ x h with h | ⟨i,h⟩
 ·cases h
 ·by_cases hi:i<p.classes.length
  ·exact⟨_,getD_memB hi,h⟩
  ·rw[List.getD_eq_getElem?_getD,List.getElem?_eq_none Yd] at h;cases h
theorem range_all(hi:i<n)(h:f i=false):(List.range n).all f=false:=by
 cases hq:(List.range n).all f with
 | false=>rfl
 | true=>rw[List.all_eq_true.1 hq i (List.mem_range.2 hi)] at h;cases h
theorem range_step(h:(List.range i).all f=true)(hi:f i=true):(List.range (i+1)).all f=true:=by
 rw[List.range_succ,List.all_append,h];simp[hi]
theorem cls_no1(h:decide (p.classes.length<=10)=false):classesP p=false:=by
 unfold classesP;rw[h];simp
theorem cls_noA(h:slotsA p.classes 0=false):classesP p=false:=by
 unfold classesP;rw[h];simp
theorem cls_no2(hi:i<p.classes.length)(h:(decide ((p.classes.getD i default).slots.length<=4) && slots1 (p.classes.getD i default).slots (slotsCnt (p.classes.take i)))=false):classesP p=false:=by
 refine cls_noA (no_take (f:=λl=>slotsA l 0) (i+1) (λk=>slotsA_all _ _ k) ?_);show slotsA _ _=false;rw[slotsA_take _ _ _ hi,Nat.zero_add,h,Bool.and_false]
theorem cls_no3{i j:Nat}(hi:i<p.classes.length)(hj:j<(p.classes.getD i default).slots.length)(h:((p.classes.getD i default).slots.getD j default==((slotsCnt (p.classes.take i)+j:Nat):Int))=false):classesP p=false:=by
 refine cls_no2 hi ?_;have e:slots1 (p.classes.getD i default).slots (slotsCnt (p.classes.take i))=false:=by
  refine no_take (f:=λl=>slots1 l (slotsCnt (p.classes.take i))) (j+1) (λk=>slots1_all _ _ k) ?_;show slots1 _ _=false;rw[slots1_take _ _ _ hj,h,Bool.and_false]
 rw[e,Bool.and_false]
theorem cls_no4(h:(((slotsCnt p.classes:Int)==p.slots) && fineP (graphP p))=false):classesP p=false:=by
 unfold classesP;rw[h];simp
theorem cls_no5(hi:i<p.classes.length)(h:clsOk p i=false):classesP p=false:=by
 unfold classesP;rw[range_all hi h,Bool.and_false]
theorem cls_in{i j:Nat}(hj:j<(p.classes.getD i default).inits.length)(h:((hasP p ((i:Int)+3)).contains ((p.classes.getD i default).inits.getD j default).1 && !(((p.classes.getD i default).inits.take j).map (·.1)).contains ((p.classes.getD i default).inits.getD j default).1 && inP ((p.classes.getD i default).inits.getD j default).2)=false):clsOk p i=false:=by
 unfold clsOk;have e:inits1 (hasP p ((i:Int)+3)) (p.classes.getD i default).inits []=false:=by
  refine no_take (f:=λl=>inits1 (hasP p ((i:Int)+3)) l []) (j+1) (λk=>inits1_all _ _ _ k) ?_;show inits1 _ _ _=false;rw[inits1_take _ _ _ _ hj,List.nil_append,h,Bool.and_false]
 rw[e,Bool.and_false]
structure Prog.Small(p:Prog):Prop where
 classes:p.classes.length<=1048576
 parents:∀c∈p.classes,c.parents.length<=4000000
theorem graph_fine(h:fineP (graphP p)=true):p.classes.length<=16/\∀c∈p.classes,∀x∈c.parents,smallKey x:=by
 have h1:=fineP_len h;have h2:p.classes.length<=16:=by simpa [graphP] using h1
 refine⟨h2,λc hc x hx=>?_⟩;obtain⟨i,hi,rfl⟩:=List.mem_iff_getElem.1 hc;have h3:fineG 0 (graphP p)=true:=by simp only[fineP,Bool.and_eq_true] at h;exact h.2
 have:=fineG_ps (graphP p) 0 i h3 (by simpa [graphP] using hi);have e:(graphP p).getD i default=p.classes[i].parents:=by
  rw[List.getD_eq_getElem?_getD,graphP,List.getElem?_map,List.getElem?_eq_getElem hi];rfl
 rw[e] at this;have:=this.2 x hx;unfold smallKey;omega
mutual
theorem node_smallA(w:Fc.FW):∀(f:Fact) (left deep:Int),(nodeP w f left deep).1=true->smallA f=true
 | .mk op arg path cls n kids,left,deep,h=>by
  rw[nodeP] at h;by_cases h1:badP (.mk op arg path cls n kids) (left - 1) deep=true
  ·rw[if_pos h1] at h;cases h
  rw[if_neg h1] at h;have hk:(kids.length:Int)=kidsP op:=by
   have h2:badP (.mk op arg path cls n kids) (left - 1) deep=false:=by simpa using h1
   simp only[badP,Bool.or_eq_false_iff,bne_eq_false_iff_eq] at h2;exact h2.2
  by_cases hl:leafP (.mk op arg path cls n kids)=true
  ·rw[if_pos hl] at h;have hl:2<=op/\op<=4:=by rw[leafP,Bool.and_eq_true] at hl;exact⟨of_decide_eq_true hl.1,of_decide_eq_true hl.2⟩
   have hk0:kids= []:=by
    have:kidsP op=0:=by unfold kidsP;rw[if_neg Yd,if_neg Yd]
    exact List.eq_nil_of_length_eq_zero Yd
   have ha:0<=arg/\arg<3:=by
    have h9:argP w (.mk op arg path cls n kids)=true:=by simp only[Bool.and_eq_true] at h;exact h.1
    rw[argP,Bool.not_eq_true',Bool.or_eq_false_iff,Bool.or_eq_false_iff] at h9;have a1: ¬arg<0:=of_decide_eq_false h9.1.1;have a2: ¬arg>=3:=of_decide_eq_false h9.1.2;omega
   subst hk0;have hb:argB (.mk op arg path cls n [])=arg+1:=by unfold argB;rw[if_pos (by show op=2\/op=3\/op=4;omega)];rfl
   simp only[smallA,smallAs,hb,Bool.and_true,Bool.and_eq_true,decide_eq_true_eq];omega
  ·rw[if_neg hl] at h;have hl':leafP (.mk op arg path cls n kids)=false:=by simpa using hl
   have hl': ¬(2<=op/\op<=4):=by intro hc;rw[show leafP (.mk op arg path cls n kids)=true by rw[leafP,Bool.and_eq_true];exact⟨decide_eq_true hc.1,decide_eq_true hc.2⟩] at hl';cases hl'
   have hb:argB (.mk op arg path cls n kids)=0:=by unfold argB;rw[if_neg (by show ¬(op=2\/op=3\/op=4);omega)]
   by_cases hp:plainP (.mk op arg path cls n kids)=true
   ·rw[if_pos hp] at h;have:=nodes_smallA w kids _ _ h;simp only[smallA,hb,this,Bool.and_true];decide
   ·rw[if_neg hp] at h;cases h
theorem nodes_smallA(w:Fc.FW):∀(l:List Fact) (left deep:Int),(nodesP w l left deep).1=true->smallAs l=true
 | [],left,deep,h=>rfl
 | k::r,left,deep,h=>by
  rw[nodesP] at h;by_cases hk:(nodeP w k left deep).1=true
  ·rw[if_pos hk] at h;rw[smallAs,node_smallA w k _ _ hk,nodes_smallA w r _ _ h];rfl
  ·rw[if_neg hk] at h;exact absurd h hk
end
theorem formed_smallA{w:Fc.FW}{f:Fact}(h:formedP w f=true):smallA f=true:=node_smallA w f 24 12 h
def headP(p:Prog):Bool:=decide ((p.gens.length:Int)<=8) && decide ((p.methods.length:Int)<=16) && decide ((p.nodes.length:Int)>=1) && decide ((p.nodes.length:Int)<=120)
def genP(n:Int):Bool:=decide (n>=1) && decide (n<=3)
def mth1(p:Prog)(m:Mth):Bool:=decide (m.kind>=1) && decide (m.kind<=4) && decide (m.gen>=0) && decide (m.gen<p.gens.length)
def mth2(p:Prog)(m:Mth):Bool:=(worldP (worldOf p) && formedP (worldOf p) m.fact) && decide (speaksP m.fact<=p.gens.getD m.gen.toNat default)
def nextM(m:Mth):Bool:=m.kind==1 || m.kind==4
def bodyV(p:Prog)(m:Mth):Vis:=⟨m.node,p.gens.getD m.gen.toNat default,1⟩
def methodsN(p:Prog):List Mth->List Int->Option (List Int)
 | [],out=>some out
 | m::r,out=>if mth1 p m && mth2 p m then (match (visit p (nextM m) 13 (bodyV p m) out).2 with
  | none=>none
  | some o=>methodsN p r o) else none
def out0(p:Prog):List Int:=List.replicate p.nodes.length (-1)
theorem out0_map(p:Prog):(out0 p).map AV.i=List.replicate p.nodes.length (.i (-1)):=by simp[out0]
def sizesP(p:Prog):Option (List Int):=
 if classesP p && headP p && p.gens.all genP then (match methodsN p p.methods (out0 p) with
  | none=>none
  | some o=>match (visit p false 13 ⟨p.main,0,1⟩ o).2 with
   | none=>none
   | some o2=>if o2.contains (-1) then none else some o2) else none
theorem szs_no1(h:classesP p=false):sizesP p=none:=by unfold sizesP;rw[h];rfl
theorem szs_no2(h:headP p=false):sizesP p=none:=by unfold sizesP;rw[h,Bool.and_false];rfl
theorem szs_no3(h:p.gens.all genP=false):sizesP p=none:=by unfold sizesP;rw[h,Bool.and_false];rfl
theorem szs_no4(h:methodsN p p.methods (out0 p)=none):sizesP p=none:=by unfold sizesP;rw[h];split <;> rfl
theorem szs_no5(h:methodsN p p.methods (out0 p)=some o)(h2:(visit p false 13 ⟨p.main,0,1⟩ o).2=none):sizesP p=none:=by unfold sizesP;rw[h];simp only[h2];split <;> rfl
theorem szs_no6(h:methodsN p p.methods (out0 p)=some o)(h2:(visit p false 13 ⟨p.main,0,1⟩ o).2=some o2)(h3:o2.contains (-1)=true):sizesP p=none:=by unfold sizesP;rw[h];simp only[h2,h3,if_true];split <;> rfl
theorem szs_yes(h1:classesP p=true)(hh:headP p=true)(hg:p.gens.all genP=true)(h:methodsN p p.methods (out0 p)=some o)(h2:(visit p false 13 ⟨p.main,0,1⟩ o).2=some o2)(h3:o2.contains (-1)=false):sizesP p=some o2:=by
 unfold sizesP;rw[h1,hh,hg,h];simp only[h2,h3];rfl
theorem mths_step(hi:i<p.methods.length)(hm:m=p.methods.getD i default):methodsN p (p.methods.drop i) o=if mth1 p m && mth2 p m then (match (visit p (nextM m) 13 (bodyV p m) o).2 with
  | none=>none
  | some o=>methodsN p (p.methods.drop (i+1)) o) else none:=by
 rw[drop_getD hi,methodsN, <-hm]
theorem mths_no(hi:i<p.methods.length)(hm:m=p.methods.getD i default)(h:(mth1 p m && mth2 p m)=false):methodsN p (p.methods.drop i) o=none:=by
 rw[mths_step hi hm,h];rfl
theorem mths_stop(hi:i<p.methods.length)(hm:m=p.methods.getD i default)(h:(visit p (nextM m) 13 (bodyV p m) o).2=none):methodsN p (p.methods.drop i) o=none:=by
 rw[mths_step hi hm,h];split <;> rfl
theorem mths_go(hi:i<p.methods.length)(hm:m=p.methods.getD i default)(h0:(mth1 p m && mth2 p m)=true)(h:(visit p (nextM m) 13 (bodyV p m) o).2=some o'):methodsN p (p.methods.drop i) o=methodsN p (p.methods.drop (i+1)) o':=by
 rw[mths_step hi hm,h0,h];rfl
theorem visit_end{next:Bool}{x:Vis}(hx:x.dp=1)(h:(visit p next 13 x o).2.isNone=false):(visit p next 13 x o).2=some (outsV (visit p next 13 x o).1 o):=by
 cases hv:(visit p next 13 x o).2 with
 | none=>rw[hv] at h;cases h
 | some o'=>rw[(visit_vp (p:=p) (next:=next) 13 x o Yd).end_ o' hv]
theorem gens_in(h:p.gens.all genP=true){n:Int}(hn:n∈p.gens):1<=n/\n<=3:=by
 have:=List.all_eq_true.1 h n hn;simp only[genP,Bool.and_eq_true,decide_eq_true_eq] at this;exact this
theorem all_noG(hi:i<p.gens.length)(h:genP (p.gens.getD i default)=false):p.gens.all genP=false:=by
 cases hq:p.gens.all genP with
 | false=>rfl
 | true=>rw[List.all_eq_true.1 hq _ (getD_memB hi)] at h;cases h
theorem classes_small(h:classesP p=true):p.classes.length<=10/\∀c∈p.classes,c.parents.length<=4000000/\c.slots.length<=1000:=by
 simp only[classesP,Bool.and_eq_true,decide_eq_true_eq] at h;have hA:=slotsA_mem _ _ h.1.1.2;refine⟨h.1.1.1,λc hc=>⟨?_,by have:=(hA c hc).1;omega⟩⟩;obtain⟨i,hi,rfl⟩:=List.mem_iff_getElem.1 hc;have h3:fineG 0 (graphP p)=true:=by have:=h.1.2.2;simp only[fineP,Bool.and_eq_true] at this;exact this.2
 have:=(fineG_ps (graphP p) 0 i h3 (by simpa [graphP] using hi)).1;have e:(graphP p).getD i default=p.classes[i].parents:=by
  rw[List.getD_eq_getElem?_getD,graphP,List.getElem?_map,List.getElem?_eq_getElem hi];rfl
 rw[e] at this;omega
theorem zero_of_if{b:Bool}(h:((if b=true then (0:Int) else 2)==0)=true):b=true:=by cases b <;> simp at h ⊢
theorem if_zero(b:Bool):((if b=true then (0:Int) else 2)==0)=b:=by cases b <;> simp
theorem visit_len{next:Bool}{x:Vis}(hx:x.dp=1)(h:(visit p next 13 x o).2=some o'):o'.length=o.length:=by
 rw[(visit_vp (p:=p) (next:=next) 13 x o Yd).end_ o' h,outsV_len]
theorem methods_len{p:Prog}:∀(l:List Mth) (o o':List Int),methodsN p l o=some o'->o'.length=o.length
 | [],o,o',h=>by rw[methodsN] at h;cases h;rfl
 | m::r,o,o',h=>by
  rw[methodsN] at h;split at h
  ·cases hv:(visit p (nextM m) 13 (bodyV p m) o).2 with
   | none=>rw[hv] at h;cases h
   | some o1=>
    rw[hv] at h;rw[methods_len r o1 o' h,visit_len rfl hv]
  ·cases h
theorem sizes_parts(h:sizesP p=some o):classesP p=true/\headP p=true/\p.gens.all genP=true/\∃o1,methodsN p p.methods (out0 p)=some o1/\(visit p false 13 ⟨p.main,0,1⟩ o1).2=some o/\o.contains (-1)=false:=by
 unfold sizesP at h;split at h
 ·rename_i hc;rw[Bool.and_eq_true,Bool.and_eq_true] at hc;refine⟨hc.1.1,hc.1.2,hc.2,?_⟩;cases hm:methodsN p p.methods (out0 p) with
  | none=>rw[hm] at h;cases h
  | some o1=>
   rw[hm] at h;cases hv:(visit p false 13 ⟨p.main,0,1⟩ o1).2 with
   | none=>simp only[hv] at h;cases h
   | some o2=>
    simp only[hv] at h;split at h
    ·cases h
    ·rename_i hn;cases h;exact⟨o1,rfl,hv,by simpa using hn⟩
 ·cases h
theorem sizes_len(h:sizesP p=some o):o.length=p.nodes.length/\p.nodes.length<=120:=by
 obtain⟨_,hh,_,o1,hm,hv,_⟩:=sizes_parts h;refine⟨by rw[visit_len rfl hv,methods_len _ _ _ hm];simp[out0],?_⟩;simp only[headP,Bool.and_eq_true,decide_eq_true_eq] at hh;omega
theorem ints_flat(o:List Int):o.map AV.i=(o.map λn=>[AV.i n]).flatten++[]:=by
 rw[List.append_nil]
 induction o with
 | nil=>rfl
 | cons a r ih=>rw[List.map_cons,ih];rfl
theorem Borrow.outs{H:List Ent}{nb n:Nat}{pre post:List AV}(hm:Ent.blk nb 3 (o.map AV.i)∈H)(hn:o.length=n)(hc:n<=1000000):Borrow H (pre++.val (.slice (some ⟨nb,0,none⟩) n n)::post) (pre++AV.ints o::post):=by
 have e:(o.map λn=>[AV.i n]).flatten++[]=o.map AV.i:=by
  rw[List.append_nil];clear hm hn
  induction o with
  | nil=>rfl
  | cons a r ih=>rw[List.map_cons,List.flatten_cons,ih];rfl
 have h:=Borrow.blk (t:=3) (b:=nb) (k:=1) (cap:=n) (els:=o.map λn=>[AV.i n]) (more:=[]) (pre:=pre) (post:=post) (H:=H) (by rw[e];exact hm) (λx hx=>by obtain⟨y,_,rfl⟩:=List.mem_map.1 hx;rfl) Yab Y0;rw[List.length_map,hn] at h;exact h
structure Th where
 cls:Int
 slots:List (Int×Int)
instance:Inhabited Th:=⟨⟨0,[]⟩⟩
abbrev AV.mv(x:Int×Int):AV:=.agg (initA x)
abbrev AV.mvs(l:List (Int×Int)):AV:=.sl 2 (l.map initA)
abbrev thA(t:Th):List AV:=[.i t.cls,AV.mvs t.slots]
abbrev AV.ths(l:List Th):AV:=.sl 2 (l.map thA)
def valueP(n:Int)(x:Int×Int):Bool:=if x.1=1 then inP x.2 else if x.1=2 then x.2==0 else if x.1=3 then decide (x.2>=0) && decide (x.2<n) else false
def ownC(p:Prog)(c:Int):Bool:=decide (c>=3) && decide (c<3+p.classes.length) && (sizesP p).isSome
def thingP(p:Prog)(n:Int)(t:Th):Bool:=ownC p t.cls && ((hasP p t.cls).length==t.slots.length) && t.slots.all (valueP n)
def checkP(p:Prog)(objs:List Th):Bool:=(sizesP p).isSome && decide (objs.length<=40) && objs.all (thingP p objs.length)
def idxG(l:List α)(q:α->Bool):Int:=match l.findIdx? q with | some i=>(i:Int) | none=>-1
theorem idxG_at[Inhabited α]{l:List α}{q:α->Bool}{k:Nat}(hk:k<l.length)(hp:∀x∈l.take k,q x=false)(h:q (l.getD k default)=true):(k:Int)=idxG l q:=by
 have e:l.findIdx? q=some k:=by
  rw[List.findIdx?_eq_some_iff_getElem];refine⟨hk,?_,λj hj=>?_⟩
  ·rw[List.getD_eq_getElem?_getD,List.getElem?_eq_getElem hk] at h;exact h
  ·rw[hp (l[j]'Yd) YaX];simp
 rw[idxG,e]
theorem idxG_none{l:List α}{q:α->Bool}(hp:∀x∈l,q x=false):(-1:Int)=idxG l q:=by
 rw[idxG,List.findIdx?_eq_none_iff.2 hp]
theorem idxG_any(l:List α)(q:α->Bool):decide (idxG l q>=0)=l.any q:=by
 unfold idxG;cases h:l.findIdx? q with
 | none=>
  rw[List.findIdx?_eq_none_iff] at h;rw[show l.any q=false by rw[List.any_eq_false];intro x hx;rw[h x hx];simp];simp
 | some i=>
  obtain⟨hi,h1,_⟩:=List.findIdx?_eq_some_iff_getElem.1 h;rw[show l.any q=true by rw[List.any_eq_true];exact⟨_,List.getElem_mem hi,h1⟩];simp
theorem all_valueP(n:Int)(l:List (Int×Int)):(!(l.any λx=>!valueP n x))=l.all (valueP n):=by
 induction l with
 | nil=>rfl
 | cons x r ih=>rw[List.any_cons,List.all_cons, <-ih,Bool.not_or,Bool.not_not]
theorem own_parts(h:ownC p c=true):(3<=c/\c<3+p.classes.length)/\classesP p=true:=by
 simp only[ownC,Bool.and_eq_true,decide_eq_true_eq] at h;obtain⟨o,ho⟩:=Option.isSome_iff_exists.1 h.2;exact⟨h.1,(sizes_parts ho).1⟩
theorem classes_keys(h:classesP p=true):∀c∈p.classes,∀x∈c.parents,smallKey x:=by
 simp only[classesP,Bool.and_eq_true,decide_eq_true_eq] at h;exact (graph_fine h.1.2.2).2
theorem thing_eq(p:Prog)(n:Int)(T:Th):thingP p n T= !(bif bif (if ownC p T.cls then (0:Int) else 2) !=0 then true else ((if ownC p T.cls then hasP p T.cls else []).length:Int) !=(T.slots.length:Int) then true else !T.slots.all (valueP n)):=by
 unfold thingP;cases ownC p T.cls with
 | false=>simp
 | true=>
  simp only[if_true,Bool.true_and];have e:((hasP p T.cls).length==T.slots.length)= !(((hasP p T.cls).length:Int) !=(T.slots.length:Int)):=by
   rw[Bool.eq_iff_iff];simp;omega
  rw[e];cases (((hasP p T.cls).length:Int) !=(T.slots.length:Int)) <;> cases T.slots.all (valueP n) <;> simp
theorem chk_step{objs:List Th}(hi:i<objs.length){n:Int}(h:(objs.take i).all (thingP p n)=true)(h2:thingP p n (objs.getD i default)=true):(objs.take (i+1)).all (thingP p n)=true:=by
 rw[<-take_getD hi,List.all_append,h,List.all_cons,h2];rfl
theorem chk_no{objs:List Th}(hi:i<objs.length)(h2:thingP p objs.length (objs.getD i default)=false):checkP p objs=false:=by
 unfold checkP;have:objs.all (thingP p objs.length)=false:=by
  cases hq:objs.all (thingP p objs.length) with
  | false=>rfl
  | true=>rw[List.all_eq_true.1 hq _ (getD_memB hi)] at h2;cases h2
 rw[this,Bool.and_false]
end Go.Eng.Bd

namespace Go.Eng.Fc
variable{α:Type}{W:FW}{f:Fact}{l:List Fact}{o:List Bool}{i:Nat}{kd:Int}
theorem bif_or(a b:Bool):(bif a then true else b)=(a || b):=by cases a <;> rfl
theorem getD_lt[Inhabited α]{l:List α}{j:Nat}(h:j<l.length):l.getD j default=l[j]:=by rw[List.getD_eq_getElem?_getD,List.getElem?_eq_getElem h];rfl
theorem world_len(h:worldP W=true):W.parents.length<=60:=by simp[worldP] at h;exact h.1.1.1
theorem getD_mem[Inhabited α]{l:List α}{k:Nat}(h:k<l.length):l.getD k default∈l:=by rw[getD_lt h];exact List.getElem_mem h
mutual
def nodesN:Fact->Nat
 | .mk _ _ _ _ _ kids=>1+nodesNs kids
def nodesNs:List Fact->Nat
 | []=>0
 | f::r=>nodesN f+nodesNs r
end
theorem nodesN_eq(f:Fact):nodesN f=1+nodesNs f.kids:=by cases f;rw[nodesN];rfl
def nodeOkB(W:FW)(f:Fact):Bool:=decide (1<=f.op) && decide (f.op<=7) && ((f.kids.length:Int)==kidsP f.op) && (if leafP f then argP W f && leafOkP W f else plainP f)
mutual
def wfB(W:FW):Fact->Bool
 | .mk op arg path cls n kids=>nodeOkB W (.mk op arg path cls n kids) && wfBs W kids
def wfBs(W:FW):List Fact->Bool
 | []=>true
 | f::r=>wfB W f && wfBs W r
end
theorem wfBs_mem{W:FW}:∀{l:List Fact},wfBs W l=true↔∀k∈l,wfB W k=true
 | []=>by simp[wfBs]
 | x::r=>by simp[wfBs,wfBs_mem (l:=r)]
theorem wfB_iff:wfB W f=true↔nodeOkB W f=true/\∀k∈f.kids,wfB W k=true:=by
 cases f;rw[wfB,Bool.and_eq_true,wfBs_mem];rfl
theorem leaf_kids(h:nodeOkB W f=true)(hl:leafP f=true):f.kids= []:=by
 simp only[nodeOkB,leafP,Bool.and_eq_true,decide_eq_true_eq,beq_iff_eq] at h hl;have:kidsP f.op=0:=by rw[kidsP,if_neg Yd,if_neg Yd]
 rw[this] at h;exact List.eq_nil_of_length_eq_zero Yd
mutual
theorem node_wf(W:FW):∀(f:Fact) (left deep:Int),(nodeP W f left deep).1=true->wfB W f=true/\(nodeP W f left deep).2=left - nodesN f
 | .mk op arg path cls n kids,left,deep,h=>by
  rw[nodeP] at h ⊢;rw[wfB,nodesN];by_cases h1:badP (.mk op arg path cls n kids) (left - 1) deep=true
  ·rw[if_pos h1] at h;cases h
  ·rw[if_neg h1] at h ⊢;have hk:nodeOkB W (.mk op arg path cls n kids)=(if leafP (.mk op arg path cls n kids) then argP W (.mk op arg path cls n kids) && leafOkP W (.mk op arg path cls n kids) else plainP (.mk op arg path cls n kids)):=by
    simp only[badP,Bool.not_eq_true,Bool.or_eq_false_iff,decide_eq_false_iff_not,bne_eq_false_iff_eq] at h1;rw[nodeOkB];rw[show (decide (1<=(Fact.mk op arg path cls n kids).op) && decide ((Fact.mk op arg path cls n kids).op<=7) && (((Fact.mk op arg path cls n kids).kids.length:Int)==kidsP (Fact.mk op arg path cls n kids).op))=true by
     simp only[Bool.and_eq_true,decide_eq_true_eq,beq_iff_eq];exact⟨⟨Yd,Yd⟩,h1.2⟩]
    rfl
   by_cases h2:leafP (.mk op arg path cls n kids)=true
   ·rw[if_pos h2] at h ⊢;rw[if_pos h2] at hk;have h':(argP W (.mk op arg path cls n kids) && leafOkP W (.mk op arg path cls n kids))=true:=h;have hn:nodeOkB W (.mk op arg path cls n kids)=true:=hk.trans h';have hkk:kids= []:=leaf_kids hn h2;subst hkk;refine⟨Yby,by simp[nodesNs]⟩
   ·rw[if_neg h2] at h ⊢;rw[if_neg h2] at hk;by_cases h3:plainP (.mk op arg path cls n kids)=true
    ·rw[if_pos h3] at h ⊢;have:=nodes_wf W kids (left - 1) (deep - 1) h;refine⟨by rw[hk,h3,this.1];rfl,by rw[this.2];omega⟩
    ·rw[if_neg h3] at h;cases h
theorem nodes_wf(W:FW):∀(l:List Fact) (left deep:Int),(nodesP W l left deep).1=true->wfBs W l=true/\(nodesP W l left deep).2=left - nodesNs l
 | [],left,deep,h=>by rw[nodesP,wfBs,nodesNs];simp
 | k::r,left,deep,h=>by
  rw[nodesP] at h ⊢;rw[wfBs,nodesNs];by_cases h1:(nodeP W k left deep).1=true
  ·rw[if_pos h1] at h ⊢;have a:=node_wf W k left deep h1;have b:=nodes_wf W r _ deep h;exact⟨by rw[a.1,b.1];rfl,by rw[b.2,a.2];omega⟩
  ·rw[if_neg h1] at h;exact absurd h h1
end
theorem formed_wf(h:formedP W f=true):wfB W f=true/\nodesN f<=24:=by
 have h1:=node_wf W f 24 12 h;have h2:=(nodeP_left W f 24 12).2 h;exact⟨h1.1,Yd⟩
def belowP(W:FW)(a b:Int):Bool:=((upsP W).getD a.toNat 0).testBit b.toNat
theorem nodesNs_take{j:Nat}(h:j<l.length):nodesNs (l.take (j+1))=nodesNs (l.take j)+nodesN (l.getD j default):=by
 induction l generalizing j with
 | nil=>simp at h
 | cons x r ih=>
  cases j with
  | zero=>simp[nodesNs]
  | succ j=>
   rw[List.take_succ_cons,List.take_succ_cons,nodesNs,nodesNs,ih Yac];simp only[List.getD_cons_succ];omega
theorem nodesNs_le(j:Nat):nodesNs (l.take j)<=nodesNs l:=by
 induction l generalizing j with
 | nil=>simp[nodesNs]
 | cons x r ih=>
  cases j with
  | zero=>simp[nodesNs]
  | succ j=>rw[List.take_succ_cons,nodesNs,nodesNs];have:=ih j;omega
def upB(W:FW)(c b:Nat):Bool:=((upsP W).getD c 0).testBit b
theorem fold_bit(U:List Nat)(b:Nat):∀(l:List Int) (s:Nat),(l.foldl (λs (p:Int)=>s ||| U.getD p.toNat 0) s).testBit b=(s.testBit b || l.any λp=>(U.getD p.toNat 0).testBit b)
 | [],s=>by simp
 | p::r,s=>by rw[List.foldl_cons,fold_bit U b r,Nat.testBit_or,List.any_cons,Bool.or_assoc]
theorem upFold_bit(U:List Nat)(i:Nat)(l:List Int)(b:Nat):(upFold U i l).testBit b=(b==0 || b==3+i || l.any λp=>(U.getD p.toNat 0).testBit b):=by
 rw[upFold,fold_bit,Nat.testBit_or,Nat.testBit_two_pow];congr 2
 ·rcases b with _ | b
  ·rfl
  ·rw[Nat.testBit_succ];simp
 ·rw[Bool.eq_iff_iff,decide_eq_true_iff,beq_iff_eq];exact eq_comm
theorem getD_setL(l:List α)(i j:Nat)(x y:α):(l.set i x).getD j y=if i=j/\i<l.length then x else l.getD j y:=by
 simp only[List.getD_eq_getElem?_getD,List.getElem?_set];by_cases h:i=j
 ·by_cases h2:j<l.length
  ·simp[h,h2]
  ·simp[h,h2]
 ·simp[h]
theorem ups_low:∀(l:List (List Int)) (i:Nat) (U:List Nat) (j:Nat),j<3+i->(upsFrom l i U).getD j 0=U.getD j 0
 | [],i,U,j,h=>by rw[upsFrom]
 | x::r,i,U,j,h=>by
  rw[upsFrom,ups_low r (i+1) _ j Yd,getD_setL,if_neg Yd]
theorem parents_lt(i:Nat):∀(l seen:List Int),parentsP i seen l=true->∀p∈l,3<=p/\p<3+i
 | [],_,_,p,hp=>by cases hp
 | x::r,seen,h,p,hp=>by
  rw[parentsP,Bool.and_eq_true,Bool.not_eq_true'] at h;rcases List.mem_cons.1 hp with rfl | hp
  ·have:=h.1;simp only[Bool.or_eq_false_iff,decide_eq_false_iff_not] at this;omega
  ·exact parents_lt i r _ h.2 p hp
theorem parentss_at:∀(l:List (List Int)) (i k:Nat),parentssP i l=true->k<l.length->parentsP (i+k) [] (l.getD k default)=true
 | [],i,k,_,hk=>by simp at hk
 | x::r,i,0,h,_=>by rw[parentssP,Bool.and_eq_true] at h;exact h.1
 | x::r,i,k+1,h,hk=>by
  rw[parentssP,Bool.and_eq_true] at h;have:=parentss_at r (i+1) k h.2 (by simpa using hk);rw[show i+(k+1)=i+1+k from by omega];exact this
theorem world_pars(h:worldP W=true):parentssP 0 W.parents=true:=by simp only[worldP,Bool.and_eq_true] at h;exact h.1.2
theorem pars_lt(h:worldP W=true){i:Nat}(hi:i<W.parents.length):∀p∈W.parents.getD i default,3<=p/\p<3+i:=by
 have:=parentss_at W.parents 0 i (world_pars h) hi;rw[Nat.zero_add] at this;exact parents_lt i _ _ this
theorem any_congr_mem{l:List α}{p q:α->Bool}(h:∀x∈l,p x=q x):l.any p=l.any q:=by
 induction l with
 | nil=>rfl
 | cons x r ih=>rw[List.any_cons,List.any_cons,h x (.head _),ih λy hy=>h y (.tail _ hy)]
theorem ups_at:∀(l:List (List Int)) (i:Nat) (U:List Nat) (k:Nat),3+i+l.length<=U.length->parentssP i l=true->k<l.length->∀b,((upsFrom l i U).getD (3+(i+k)) 0).testBit b=(b==0 || b==3+(i+k) || (l.getD k default).any λp=>((upsFrom l i U).getD p.toNat 0).testBit b)
 | [],i,U,k,hl,_,hk,b=>by simp at hk
 | x::r,i,U,0,hl,h,hk,b=>by
  rw[parentssP,Bool.and_eq_true] at h;rw[upsFrom,ups_low r (i+1) _ _ Yd,getD_setL,if_pos ⟨Yd,by simp at hl;omega⟩,upFold_bit];show _=(b==0 || b==3+(i+0) || x.any _);rw[Nat.add_zero];congr 1;refine any_congr_mem λp hp=>?_;have:=parents_lt i x [] h.1 p hp;rw[ups_low r (i+1) _ _ Yd,getD_setL,if_neg Yd]
 | x::r,i,U,k+1,hl,h,hk,b=>by
  rw[parentssP,Bool.and_eq_true] at h;have:=ups_at r (i+1) (U.set (3+i) (upFold U i x)) k (by simp at hl ⊢;omega) h.2 (by simpa using hk) b;rw[upsFrom,show i+(k+1)=i+1+k from by omega];exact this
theorem upB_own(h:worldP W=true){i:Nat}(hi:i<W.parents.length)(b:Nat):upB W (3+i) b=(b==0 || b==3+i || (W.parents.getD i default).any λp=>upB W p.toNat b):=by
 have:=ups_at W.parents 0 ([1,3,5]++List.replicate 60 0) i (by have:=world_len h;simp;omega) (world_pars h) hi b;rw[Nat.zero_add] at this;exact this
theorem upB_low{c:Nat}(hc:c<3)(b:Nat):upB W c b=(b==0 || b==c):=by
 rw[upB,upsP,ups_low _ _ _ _ Yd];have:c=0\/c=1\/c=2:=by omega
 rcases this with rfl | rfl | rfl
 ·show Nat.testBit 1 b=_;rcases b with _ | b
  ·rfl
  ·rw[Nat.testBit_succ];simp
 ·show Nat.testBit 3 b=_;rcases b with _ | _ | b
  ·rfl
  ·rfl
  ·rw[Nat.testBit_succ,Nat.testBit_succ];simp
 ·show Nat.testBit 5 b=_;rcases b with _ | _ | _ | b
  ·rfl
  ·rfl
  ·rfl
  ·rw[Nat.testBit_succ,Nat.testBit_succ,Nat.testBit_succ];simp
theorem upB_zero(h:worldP W=true){c:Nat}(hc:c<3+W.parents.length):upB W c 0=true:=by
 by_cases h3:c<3
 ·rw[upB_low h3];rfl
 ·rw[show c=3+(c - 3) from by omega,upB_own h Yd];rfl
theorem upB_self(h:worldP W=true){c:Nat}(hc:c<3+W.parents.length):upB W c c=true:=by
 by_cases h3:c<3
 ·rw[upB_low h3];simp
 ·have e:c=3+(c - 3):=by omega
  have:=upB_own h (i:=c - 3) Yd c;rw[<-e] at this;rw[this];simp
theorem upB_le{W:FW}(h:worldP W=true):∀(n c:Nat),c<=n->c<3+W.parents.length->∀b,upB W c b=true->b<=c/\(b=0\/b=c\/3<=b)
 | n,c,hn,hc,b,hb=>by
  by_cases h3:c<3
  ·rw[upB_low h3] at hb;simp at hb;omega
  ·have e:c=3+(c - 3):=by omega
   rw[e,upB_own h Yd] at hb;simp only[Bool.or_eq_true,beq_iff_eq,List.any_eq_true] at hb;rcases hb with (hb | hb) | ⟨p,hp,hb⟩
   ·omega
   ·omega
   ·have hl:=pars_lt h Yd p hp
    match n,hn with
    | 0,hn=>omega
    | n+1,hn=>
     have:=upB_le h n p.toNat Yd Yd b hb;omega
theorem upB_trans{W:FW}(h:worldP W=true):∀(n a:Nat),a<=n->a<3+W.parents.length->∀b c,upB W a b=true->upB W b c=true->upB W a c=true
 | n,a,hn,ha,b,c,h1,h2=>by
  by_cases h3:a<3
  ·rw[upB_low h3] at h1;simp only[Bool.or_eq_true,beq_iff_eq] at h1;rcases h1 with rfl | rfl
   ·rw[upB_low Yd] at h2;simp at h2;subst h2;exact upB_zero h ha
   ·exact h2
  ·have e:a=3+(a - 3):=by omega
   rw[e,upB_own h Yd] at h1 ⊢;simp only[Bool.or_eq_true,beq_iff_eq,List.any_eq_true] at h1 ⊢;rcases h1 with (rfl | rfl) | ⟨p,hp,h1⟩
   ·rw[upB_low Yd] at h2;simp at h2;exact .inl (.inl h2)
   ·rw[upB_own h Yd] at h2;simpa only[Bool.or_eq_true,beq_iff_eq,List.any_eq_true] using h2
   ·have hl:=pars_lt h Yd p hp
    match n,hn with
    | 0,hn=>omega
    | n+1,hn=>exact .inr ⟨p,hp,upB_trans h n p.toNat Yd Yd b c h1 h2⟩
theorem below_up{a b:Int}:belowP W a b=upB W a.toNat b.toNat:=rfl
def upIn(o:List Bool)(i:Nat):List Int->List Bool
 | []=>o
 | p::r=>upIn (o.set p.toNat (o.getD p.toNat false || o.getD i false)) i r
def upDown(W:FW):Nat->List Bool->List Bool
 | 0,o=>o
 | k+1,o=>upDown W k (upIn o (3+k) (W.parents.getD k default))
def upR(W:FW)(c:Nat):List Bool:=upDown W (c - 2) ((List.replicate (3+W.parents.length) false).set c true)
theorem upIn_len(i:Nat):∀(l:List Int) (o:List Bool),(upIn o i l).length=o.length
 | [],o=>rfl
 | p::r,o=>by rw[upIn,upIn_len i r,List.length_set]
theorem upDown_len(W:FW):∀(k:Nat) (o:List Bool),(upDown W k o).length=o.length
 | 0,o=>rfl
 | k+1,o=>by rw[upDown,upDown_len W k,upIn_len]
theorem upIn_get(i:Nat):∀(l:List Int) (o:List Bool) (b:Nat),(∀p∈l,0<=p/\p<i)->i<o.length->(upIn o i l).getD b false=(o.getD b false || (o.getD i false && l.contains (b:Int)))
 | [],o,b,_,_=>by rw[upIn];simp
 | p::r,o,b,h,hi=>by
  have hp:=h p (.head _);rw[upIn,upIn_get i r _ b (λq hq=>h q (.tail _ hq)) (by rw[List.length_set];exact hi),getD_setL,getD_setL,if_neg (c:=p.toNat=i/\_) Yd,List.contains_cons];by_cases hb:p.toNat=b
  ·rw[if_pos ⟨hb,Yd⟩,show ((b:Int)==p)=true from by rw[beq_iff_eq];omega,hb];cases o.getD b false <;> cases o.getD i false <;> simp
  ·rw[if_neg (λe=>hb e.1),show ((b:Int)==p)=false from by rw[beq_eq_false_iff_ne];omega];simp
theorem upDown_get{W:FW}(h:worldP W=true):∀(k:Nat) (o:List Bool),k<=W.parents.length->o.length=3+W.parents.length->∀b,0<b->(upDown W k o).getD b false=(o.getD b false || (List.range k).any λi=>o.getD (3+i) false && upB W (3+i) b)
 | 0,o,_,_,b,_=>by simp[upDown]
 | k+1,o,hk,hl,b,hb=>by
  have hp:=pars_lt h (i:=k) Yd;have hg:=λx=>upIn_get (3+k) (W.parents.getD k default) o x (λp hp'=>by have:=hp p hp';omega) Yd;rw[upDown,upDown_get h k _ Yd (by rw[upIn_len];exact hl) b hb,hg,List.range_succ,List.any_append,List.any_cons,List.any_nil,Bool.or_false];rw[upB_own h Yd,show (b==0)=false from by rw[beq_eq_false_iff_ne];omega,Bool.false_or];rw[Bool.eq_iff_iff];simp only[Bool.or_eq_true,Bool.and_eq_true,List.any_eq_true,List.mem_range,beq_iff_eq,hg,List.contains_iff_mem];constructor
  ·rintro ((h1 | ⟨h1,h2⟩) | ⟨i,hi,h1 | ⟨h1,h2⟩,h3⟩)
   ·exact .inl h1
   ·exact .inr (.inr ⟨h1,.inr ⟨(b:Int),h2,by rw[Int.toNat_natCast];exact upB_self h (by have:=hp _ h2;omega)⟩⟩)
   ·exact .inr (.inl ⟨i,hi,h1,h3⟩)
   ·exact .inr (.inr ⟨h1,.inr ⟨_,h2,by rw[Int.toNat_natCast];exact h3⟩⟩)
  ·rintro (h1 | ⟨i,hi,h1,h3⟩ | ⟨h1,h2 | ⟨p,hpm,h3⟩⟩)
   ·exact .inl (.inl h1)
   ·exact .inr ⟨i,hi,.inl h1,h3⟩
   ·subst h2;exact .inl (.inl h1)
   ·have:=hp p hpm;refine .inr ⟨p.toNat - 3,Yd,.inr ⟨h1,?_⟩,?_⟩
    ·rw[show ((3+(p.toNat - 3):Nat):Int)=p from by omega];exact hpm
    ·rw[show 3+(p.toNat - 3)=p.toNat from by omega];exact h3
theorem upR_len(W:FW)(c:Nat):(upR W c).length=3+W.parents.length:=by rw[upR,upDown_len];simp
theorem upR_get(h:worldP W=true){c:Nat}(h3:3<=c)(hc:c<3+W.parents.length){b:Nat}(hb:0<b):(upR W c).getD b false=upB W c b:=by
 have hg:∀x,((List.replicate (3+W.parents.length) false).set c true).getD x false=(c==x):=λx=>by
  rw[getD_setL];by_cases e:c=x
  ·rw[if_pos ⟨e,by simpa using hc⟩];simp[e]
  ·rw[if_neg (λq=>e q.1)];have:(c==x)=false:=by rw[beq_eq_false_iff_ne];exact e
   rw[this,List.getD_eq_getElem?_getD,List.getElem?_replicate];split <;> rfl
 rw[upR,upDown_get h (c - 2) _ Yd Yx b hb,hg,Bool.eq_iff_iff];simp only[Bool.or_eq_true,Bool.and_eq_true,List.any_eq_true,List.mem_range,beq_iff_eq,hg];constructor
 ·rintro (rfl | ⟨i,hi,e,h1⟩)
  ·exact upB_self h hc
  ·rw[e];exact h1
 ·intro h1;exact .inr ⟨c - 3,Yd,Yd,by rw[show 3+(c - 3)=c from by omega];exact h1⟩
abbrev bl(o:List Bool):List AV:=o.map λx=>AV.b x
theorem bl_flat(o:List Bool):bl o=(o.map λx=>[AV.b x]).flatten++[]:=by
 induction o with
 | nil=>rfl
 | cons x r ih=>simpa using ih
theorem bl_get(h:i<o.length):(bl o)[0+i*1]? =some (AV.b (o.getD i false)):=by
 rw[Nat.zero_add,Nat.mul_one,List.getElem?_map,List.getD_eq_getElem?_getD,List.getElem?_eq_getElem h];rfl
theorem bl_set{o o':List Bool}{x:Bool}(h:i<o.length)(e:o.set i x=o'):(bl o).take (0+i*1)++[AV.b x]++(bl o).drop (0+i*1+1)=bl o':=by
 subst e;rw[Nat.zero_add,Nat.mul_one,List.set_eq_take_append_cons_drop,if_pos h];simp
theorem upIn_step{i j:Nat}{l:List Int}(h:j<l.length):upIn o i (l.drop j)=upIn (o.set (l.getD j default).toNat (bif o.getD (l.getD j default).toNat false then true else o.getD i false)) i (l.drop (j+1)):=by
 rw[List.drop_eq_getElem_cons h,upIn,getD_lt h,bif_or]
theorem bl_fit(h:i<o.length):Nat.ble (0+i*1+1) (bl o).length=true:=by rw[Nat.ble_eq];simp;omega
theorem bl_new(n:Nat):List.replicate n (AV.val (.bool false))=bl (List.replicate n false):=by rw[bl,List.map_replicate]
theorem path_no{l:List Int}(h:i<l.length)(hs:slotP W (l.getD i default)=false):l.all (slotP W)=false:=by
 rw[List.all_eq_false];exact⟨l.getD i default,getD_mem h,by rw[hs];simp⟩
mutual
def depthN:Fact->Nat
 | .mk _ _ _ _ _ kids=>depthNs kids+1
def depthNs:List Fact->Nat
 | []=>0
 | k::r=>max (depthN k) (depthNs r)
end
theorem depthN_eq(f:Fact):depthN f=depthNs f.kids+1:=by cases f;rw[depthN];rfl
theorem depthNs_snoc(x:Fact):∀l:List Fact,depthNs (l++[x])=max (depthNs l) (depthN x)
 | []=>by simp[depthNs]
 | k::r=>by rw[List.cons_append,depthNs,depthNs,depthNs_snoc x r,Nat.max_assoc]
mutual
theorem depth_nodes:∀f:Fact,depthN f<=nodesN f
 | .mk _ _ _ _ _ kids=>by rw[depthN,nodesN];have:=depths_nodes kids;omega
theorem depths_nodes:∀l:List Fact,depthNs l<=nodesNs l
 | []=>by simp[depthNs]
 | k::r=>by rw[depthNs,nodesNs];have:=depth_nodes k;have:=depths_nodes r;omega
end
theorem kid_nodes{f k:Fact}(h:k∈f.kids):nodesN k<nodesN f:=by
 have:∀l:List Fact,k∈l->nodesN k<=nodesNs l:=by
  intro l
  induction l with
  | nil=>intro h;cases h
  | cons y r ih=>intro h;rw[nodesNs];rcases List.mem_cons.1 h with rfl | h;omega;have:=ih h;omega
 have:=this f.kids h;rw[nodesN_eq f];omega
def opOk(W:FW)(f:Fact)(kd:Int):Prop:=1<=f.op/\f.op<=7/\kd=kidsP f.op/\(leafP f=true->leafOkP W f=true)
theorem op_is(h0:f.op=2)(h1:(bif f.n !=0 then true else !classP W f.cls)=false):opOk W f 0:=by
 rw[bif_or] at h1;simp only[Bool.or_eq_false_iff,bne_eq_false_iff_eq,Bool.not_eq_false'] at h1;exact⟨Yd,Yd,by rw[h0];rfl,λ_=>by simp[leafOkP,h0,h1]⟩
theorem op_isno(h0:f.op=2)(h1:(bif f.n !=0 then true else !classP W f.cls)=true):nodeOkB W f=false:=by
 rw[bif_or] at h1;have h2:((f.n==0) && classP W f.cls)=false:=by
  simp only[Bool.or_eq_true,bne_iff_ne,Bool.not_eq_true'] at h1;rw[Bool.and_eq_false_iff,beq_eq_false_iff_ne];exact h1
 have hl:leafP f=true:=by simp[leafP,h0]
 rw[nodeOkB,if_pos hl,leafOkP,if_pos h0,h2];simp
theorem op_num(h0:f.op=3\/f.op=4)(h1:(bif bif f.cls !=0 then true else decide (f.n< -1000000000) then true else decide (1000000000<f.n))=false):opOk W f 0:=by
 rw[bif_or,bif_or] at h1;simp only[Bool.or_eq_false_iff,bne_eq_false_iff_eq,decide_eq_false_iff_not] at h1;refine⟨Yd,Yd,?_,λ_=>?_⟩
 ·rcases h0 with e | e <;> rw[e] <;> rfl
 ·rw[leafOkP,if_neg Yd];simp only[Bool.and_eq_true,beq_iff_eq,decide_eq_true_eq];omega
theorem op_numno(h0:f.op=3\/f.op=4)(h1:(bif bif f.cls !=0 then true else decide (f.n< -1000000000) then true else decide (1000000000<f.n))=true):nodeOkB W f=false:=by
 rw[bif_or,bif_or] at h1;simp only[Bool.or_eq_true,bne_iff_ne,decide_eq_true_eq] at h1;have h2:leafOkP W f=false:=by
  rw[leafOkP,if_neg Yd];simp only[Bool.and_eq_false_iff,beq_eq_false_iff_ne,decide_eq_false_iff_not];omega
 have hl:leafP f=true:=by simp only[leafP,Bool.and_eq_true,decide_eq_true_eq];omega
 rw[nodeOkB,if_pos hl,h2];simp
theorem op_else(h:f.op=1\/f.op=5\/f.op=6\/f.op=7)(hk:kd=kidsP f.op):opOk W f kd:=⟨Yd,Yd,hk,λhl=>by simp only[leafP,Bool.and_eq_true,decide_eq_true_eq] at hl;omega⟩
theorem op_no(h:f.op≠1/\f.op≠2/\f.op≠3/\f.op≠4/\f.op≠5/\f.op≠6/\f.op≠7):nodeOkB W f=false:=by
 have:(decide (1<=f.op) && decide (f.op<=7))=false:=by simp only[Bool.and_eq_false_iff,decide_eq_false_iff_not];omega
 rw[nodeOkB,this];simp
theorem plain_arg(h:plainP f=true):argP W f=true:=by
 simp only[plainP,Bool.not_eq_true',Bool.or_eq_false_iff,bne_eq_false_iff_eq,decide_eq_false_iff_not] at h;have hp:f.path= []:=List.eq_nil_of_length_eq_zero Yd;simp[argP,h.1.1.1,hp,pathP]
theorem node_val(h:opOk W f kd):nodeOkB W f=((f.kids.length:Int)==kd && argP W f && (leafP f || plainP f)):=by
 obtain⟨h1,h2,rfl,h4⟩:=h;rw[nodeOkB,decide_eq_true h1,decide_eq_true h2,Bool.true_and,Bool.true_and,Bool.and_assoc];congr 1;by_cases hl:leafP f=true
 ·rw[if_pos hl,h4 hl,hl];simp
 ·rw[if_neg hl,Bool.eq_false_iff.2 hl,Bool.false_or];cases hp:plainP f with
  | false=>simp
  | true=>rw[plain_arg hp];rfl
theorem wf_no(h:nodeOkB W f=false):wfB W f=false:=by
 cases hw:wfB W f with
 | false=>rfl
 | true=>rw[(wfB_iff.1 hw).1] at h;cases h
theorem wf_kid_no(hi:i<f.kids.length)(h:wfB W (f.kids.getD i default)=false):wfB W f=false:=by
 cases hw:wfB W f with
 | false=>rfl
 | true=>rw[(wfB_iff.1 hw).2 _ (getD_mem hi)] at h;cases h
theorem wf_yes(h:nodeOkB W f=true)(hk:f.kids.all (wfB W)=true):wfB W f=true:=wfB_iff.2 ⟨h,List.all_eq_true.1 hk⟩
theorem leaf_eq(h:opOk W f kd):(f.op==2 || f.op==3 || f.op==4)=leafP f:=by
 rw[leafP,Bool.eq_iff_iff];simp only[Bool.or_eq_true,beq_iff_eq,Bool.and_eq_true,decide_eq_true_eq];omega
theorem arg_bif:(bif bif bif (f.kids.length:Int) !=kd then true else decide (f.arg<0) then true else decide (3<=f.arg) then true else !pathP W f.path)= !((f.kids.length:Int)==kd && argP W f):=by
 rw[bif_or,bif_or,bif_or,argP,bne];show (((_ || decide (f.arg<0)) || decide (3<=f.arg)) || _)= !(_ && !((decide (f.arg<0) || decide (3<=f.arg)) || _));generalize ((f.kids.length:Int)==kd)=a;generalize decide (f.arg<0)=b;generalize decide (3<=f.arg)=c;generalize pathP W f.path=d;cases a <;> cases b <;> cases c <;> cases d <;> rfl
theorem plain_bif:(bif bif bif f.arg !=0 then true else decide (0<(f.path.length:Int)) then true else f.cls !=0 then true else f.n !=0)= !plainP f:=by
 rw[bif_or,bif_or,bif_or,plainP,Bool.not_not]
theorem node_bif(hop:opOk W f kd)(hna:((f.kids.length:Int)==kd && argP W f)=true):(bif !(f.op==2 || f.op==3 || f.op==4) then bif bif bif f.arg !=0 then true else decide (0<(f.path.length:Int)) then true else f.cls !=0 then true else f.n !=0 else false)= !nodeOkB W f:=by
 rw[plain_bif,leaf_eq hop,node_val hop,hna];cases leafP f <;> cases plainP f <;> rfl
mutual
theorem node_deep(W:FW):∀(f:Fact) (left deep:Int),wfB W f=true->(nodesN f:Int)<=left->(depthN f:Int)<=deep->nodeP W f left deep=(true,left - nodesN f)
 | .mk op arg path cls n kids,left,deep,h,h1,h2=>by
  have hw:=wfB_iff.1 h;rw[nodesN] at h1 ⊢;rw[depthN] at h2;rw[nodeP];have hb:badP (.mk op arg path cls n kids) (left - 1) deep=false:=by
   have h0:=hw.1;simp only[nodeOkB,Bool.and_eq_true,decide_eq_true_eq,beq_iff_eq] at h0;simp only[badP,Bool.or_eq_false_iff,decide_eq_false_iff_not,bne_eq_false_iff_eq,beq_eq_false_iff_ne];refine⟨⟨⟨⟨Yd,Yd⟩,Yd⟩,Yd⟩,h0.1.2⟩
  rw[if_neg (by rw[hb];simp)];have h0:=hw.1;rw[nodeOkB,Bool.and_eq_true] at h0;by_cases hl:leafP (.mk op arg path cls n kids)=true
  ·have hk:kids= []:=leaf_kids hw.1 hl;rw[if_pos hl] at h0 ⊢;rw[h0.2,hk];simp[nodesNs]
  ·rw[if_neg hl] at h0 ⊢;rw[if_pos h0.2];rw[nodes_deep W kids (left - 1) (deep - 1) (by rw[wfB,Bool.and_eq_true] at h;exact h.2) Yd Yd];congr 1;omega
theorem nodes_deep(W:FW):∀(l:List Fact) (left deep:Int),wfBs W l=true->(nodesNs l:Int)<=left->(depthNs l:Int)<=deep->nodesP W l left deep=(true,left - nodesNs l)
 | [],left,deep,_,_,_=>by rw[nodesP,nodesNs];simp
 | k::r,left,deep,h,h1,h2=>by
  rw[wfBs,Bool.and_eq_true] at h;rw[nodesNs] at h1 ⊢;rw[depthNs] at h2;rw[nodesP,node_deep W k left deep h.1 Yd Yd,if_pos rfl,nodes_deep W r _ deep h.2 Yd Yd];congr 1;omega
end
mutual
theorem deep_node(W:FW):∀(f:Fact) (left deep:Int),0<=deep->(nodeP W f left deep).1=true->(depthN f:Int)<=deep
 | .mk op arg path cls n kids,left,deep,hd,h=>by
  have hw:=(node_wf W _ _ _ h).1;rw[nodeP] at h;rw[depthN];by_cases hb:badP (.mk op arg path cls n kids) (left - 1) deep=true
  ·rw[if_pos hb] at h;cases h
  ·rw[if_neg hb] at h;have hd1:1<=deep:=by
    simp only[badP,Bool.not_eq_true,Bool.or_eq_false_iff,beq_eq_false_iff_ne] at hb;omega
   by_cases hl:leafP (.mk op arg path cls n kids)=true
   ·have hk:kids= []:=leaf_kids (wfB_iff.1 hw).1 hl;subst hk;simp[depthNs];omega
   ·rw[if_neg hl] at h;by_cases hp:plainP (.mk op arg path cls n kids)=true
    ·rw[if_pos hp] at h;have:=deep_nodes W kids (left - 1) (deep - 1) Yd h;omega
    ·rw[if_neg hp] at h;cases h
theorem deep_nodes(W:FW):∀(l:List Fact) (left deep:Int),0<=deep->(nodesP W l left deep).1=true->(depthNs l:Int)<=deep
 | [],left,deep,hd,_=>by rw[depthNs];omega
 | k::r,left,deep,hd,h=>by
  rw[nodesP] at h;rw[depthNs];by_cases h1:(nodeP W k left deep).1=true
  ·rw[if_pos h1] at h;have a:=deep_node W k left deep hd h1;have b:=deep_nodes W r _ deep hd h;omega
  ·rw[if_neg h1] at h;exact absurd h h1
end
theorem formed_eq(W:FW)(f:Fact):(decide (nodesN f<=24) && decide (depthN f<=12) && wfB W f)=formedP W f:=by
 rw[Bool.eq_iff_iff];simp only[Bool.and_eq_true,decide_eq_true_eq];constructor
 ·rintro⟨⟨h1,h2⟩,h3⟩;rw[formedP,node_deep W f 24 12 h3 Yd Yd]
 ·intro h;have h1:=formed_wf h;have h2:=deep_node W f 24 12 Yd h;exact⟨⟨h1.2,Yd⟩,h1.1⟩
end Go.Eng.Fc

namespace Go.Eng.Bd
open Go.Eng.Fc
variable{p:Prog}
theorem fineL_pars(i:Nat):∀(l seen:List Int),fineL i seen l=Fc.parentsP i seen l
 | [],_=>rfl
 | x::r,seen=>by rw[fineL,Fc.parentsP,fineL_pars i r]
theorem fineG_parss:∀(g:List (List Int)) (i:Nat),fineG i g=true->Fc.parentssP i g=true
 | [],_,_=>rfl
 | l::r,i,h=>by
  simp only[fineG,Bool.and_eq_true] at h;rw[Fc.parentssP, <-fineL_pars,h.1.2,fineG_parss r (i+1) h.2];rfl
theorem owners_own:∀(cs:List Cls) (i:Nat),∀x∈ownersN cs i,3+(i:Int)<=x/\x<3+((i+cs.length:Nat):Int)
 | [],i,x,h=>by cases h
 | c::r,i,x,h=>by
  rw[ownersN] at h;rcases List.mem_append.1 h with h | h
  ·have:=(List.mem_replicate.1 h).2;rw[List.length_cons];omega
  ·have:=owners_own r (i+1) x h;rw[List.length_cons];omega
theorem owners_cnt:∀(cs:List Cls) (i:Nat),(ownersN cs i).length=slotsCnt cs
 | [],i=>rfl
 | c::r,i=>by
  rw[ownersN,List.length_append,List.length_replicate,owners_cnt r];simp[slotsCnt]
structure Heads(p:Prog):Prop where
 cl:p.classes.length<=10
 sl:slotsA p.classes 0=true
 cnt:(slotsCnt p.classes:Int)=p.slots
 g:fineP (graphP p)=true
theorem Heads.of(h:classesP p=true):Heads p:=by
 simp only[classesP,Bool.and_eq_true,decide_eq_true_eq,beq_iff_eq] at h;exact⟨h.1.1.1,h.1.1.2,h.1.2.1,h.1.2.2⟩
theorem Heads.world(h:Heads p):Fc.worldP (worldOf p)=true:=by
 have h1:=h.cl;have h2:=slotsA_cnt _ _ h.sl;have hg:=h.g;simp only[fineP,Bool.and_eq_true] at hg;simp only[Fc.worldP,Bool.and_eq_true,decide_eq_true_eq];have hpl:(worldOf p).parents.length=p.classes.length:=by show (graphP p).length=_;simp[graphP]
 refine⟨⟨⟨Yd,?_⟩,fineG_parss _ 0 hg.2⟩,List.all_eq_true.2 λx hx=>?_⟩
 ·show (ownersN p.classes 0).length<=40;rw[owners_cnt];omega
 ·have:=owners_own p.classes 0 x hx;simp only[Fc.ownP,Bool.and_eq_true,decide_eq_true_eq];rw[hpl];omega
theorem world_pl(p:Prog):(worldOf p).parents.length=p.classes.length:=by show (graphP p).length=_;simp[graphP]
theorem world_pars_at{k:Nat}(h:k<p.classes.length):(worldOf p).parents.getD k default=(p.classes.getD k default).parents:=by
 show (graphP p).getD k default=_;rw[graphP,List.getD_eq_getElem?_getD,List.getElem?_map,List.getD_eq_getElem?_getD,List.getElem?_eq_getElem h];rfl
theorem up_from{W:Fc.FW}(hw:Fc.worldP W=true):∀(n c:Nat),c<=n->3<=c->c<3+W.parents.length->∀b,3<=b->upB W c b=true->b=c\/∃m,m<W.parents.length/\upB W c (3+m)=true/\(b:Int)∈W.parents.getD m default
 | n,c,hn,h3,hc,b,hb,h=>by
  have e:c=3+(c - 3):=by omega
  have h0:=h;rw[e,upB_own hw Yd] at h;simp only[Bool.or_eq_true,beq_iff_eq,List.any_eq_true] at h;rcases h with (h | h) | ⟨q,hq,h⟩
  ·omega
  ·exact .inl Yd
  ·have hl:=pars_lt hw Yd q hq
   match n,hn with
   | 0,hn=>omega
   | n+1,hn=>
    rcases up_from hw n q.toNat Yd Yd Yd b hb h with h1 | ⟨m,h1,h2,h4⟩
    ·exact .inr ⟨c - 3,Yd,by rw[<-e];exact upB_self hw hc,by rw[h1];rw[show ((q.toNat:Nat):Int)=q by omega];exact hq⟩
    ·refine .inr ⟨m,h1,?_,h4⟩;rw[e,upB_own hw Yd];simp only[Bool.or_eq_true,beq_iff_eq,List.any_eq_true];exact .inr ⟨q,hq,h2⟩
theorem up_to{W:Fc.FW}(hw:Fc.worldP W=true){c m b:Nat}(hc:c<3+W.parents.length)(hm:m<W.parents.length)(h:upB W c (3+m)=true)(hb:(b:Int)∈W.parents.getD m default):upB W c b=true:=by
 refine upB_trans hw c c (Nat.le_refl _) hc (3+m) b h ?_;rw[upB_own hw hm];simp only[Bool.or_eq_true,beq_iff_eq,List.any_eq_true];have:=pars_lt hw hm _ hb;exact .inr ⟨_,hb,by rw[Int.toNat_natCast];exact upB_self hw Yd⟩
def downS(p:Prog)(c:Nat):Nat->List Int
 | 0=>[]
 | n+1=>(if upB (worldOf p) c (3+n) then (p.classes.getD n default).slots else [])++downS p c n
def upS(p:Prog)(c:Nat):Nat->List Int
 | 0=>[]
 | n+1=>upS p c n++(if upB (worldOf p) c (3+n) then (p.classes.getD n default).slots else [])
theorem hasN_down{p:Prog}(hw:Fc.worldP (worldOf p)=true){c:Nat}(h3:3<=c)(hc:c<3+p.classes.length):∀(n:Nat) (S out:List Int),n<=c - 2->(∀b:Nat,3<=b->(((b:Int)∈S)↔b=c\/∃m,n<=m/\m<p.classes.length/\upB (worldOf p) c (3+m)=true/\(b:Int)∈(p.classes.getD m default).parents))->hasN p n S out=out++downS p c n
 | 0,S,out,_,_=>by rw[hasN,downS,List.append_nil]
 | n+1,S,out,hn,hS=>by
  have hpl:=world_pl p;have hk:((n:Int)+3∈S)↔upB (worldOf p) c (3+n)=true:=by
   rw[show (n:Int)+3=((3+n:Nat):Int) by omega,hS (3+n) Yd];constructor
   ·rintro (e | ⟨m,h1,h2,h4,h5⟩)
    ·rw[e];exact upB_self hw Yd
    ·exact up_to hw Yd Yd h4 (by rw[world_pars_at h2];exact h5)
   ·intro h;rcases up_from hw c c (Nat.le_refl _) h3 Yd (3+n) Yd h with e | ⟨m,h1,h2,h4⟩
    ·exact .inl e
    ·have:=pars_lt hw h1 _ h4;exact .inr ⟨m,Yd,Yd,h2,by rw[<-world_pars_at Yd];exact h4⟩
  rw[hasN,downS];by_cases hu:upB (worldOf p) c (3+n)=true
  ·rw[if_pos (List.contains_iff_mem.2 (hk.2 hu)),if_pos hu,hasN_down hw h3 hc n _ _ Yd,List.append_assoc];intro b hb;rw[List.mem_append,hS b hb];constructor
   ·rintro ((e | ⟨m,h1,h2⟩) | h)
    ·exact .inl e
    ·exact .inr ⟨m,Yd,h2⟩
    ·exact .inr ⟨n,Nat.le_refl _,Yd,hu,h⟩
   ·rintro (e | ⟨m,h1,h2,h4,h5⟩)
    ·exact .inl (.inl e)
    ·by_cases e:m=n
     ·subst e;exact .inr h5
     ·exact .inl (.inr ⟨m,Yd,h2,h4,h5⟩)
  ·have hu': ¬((n:Int)+3∈S):=λh=>hu (hk.1 h);rw[if_neg (by rw[List.contains_iff_mem];exact hu'),if_neg hu,hasN_down hw h3 hc n _ _ Yd,List.nil_append];intro b hb;rw[hS b hb];constructor
   ·rintro (e | ⟨m,h1,h2⟩)
    ·exact .inl e
    ·exact .inr ⟨m,Yd,h2⟩
   ·rintro (e | ⟨m,h1,h2,h4,h5⟩)
    ·exact .inl e
    ·by_cases e:m=n
     ·subst e;exact absurd h4 hu
     ·exact .inr ⟨m,Yd,h2,h4,h5⟩
theorem down_perm(p:Prog)(c:Nat):∀n,(downS p c n).Perm (upS p c n)
 | 0=>List.Perm.refl _
 | n+1=>by
  rw[downS,upS];exact ((down_perm p c n).append_left _).trans List.perm_append_comm
def slotsR(W:Fc.FW)(c:Int):List Int:=((List.range W.owner.length).filter λs=>Fc.belowP W c (W.owner.getD s default)).map λ(s:Nat)=>(s:Int)
theorem slots1_get:∀(l:List Int) (n:Nat),slots1 l n=true->l=(List.range' n l.length).map λ(k:Nat)=>(k:Int)
 | [],n,_=>rfl
 | x::r,n,h=>by
  simp only[slots1,Bool.and_eq_true,beq_iff_eq] at h;rw[List.length_cons,List.range'_succ,List.map_cons, <-slots1_get r (n+1) h.2,h.1]
theorem filter_range'{q:Nat->Bool}{b:Bool}(n k:Nat)(h:∀i,n<=i->i<n+k->q i=b):(List.range' n k).filter q=if b then List.range' n k else []:=by
 cases b with
 | true=>rw[if_pos rfl];exact List.filter_eq_self.2 λi hi=>by have:=List.mem_range'_1.1 hi;exact h i Yd Yd
 | false=>rw[if_neg Yx];exact List.filter_eq_nil_iff.2 λi hi=>by have:=List.mem_range'_1.1 hi;rw[h i Yd Yd];simp
theorem owner_at{cs:List Cls}{n s:Nat}(hn:n<cs.length)(h1:slotsCnt (cs.take n)<=s)(h2:s<slotsCnt (cs.take n)+(cs.getD n default).slots.length):(ownersN cs 0).getD s default=(n:Int)+3:=by
 have e:cs=(cs.take n++[cs.getD n default])++cs.drop (n+1):=by rw[take_getD hn,List.take_append_drop]
 have app:∀(a b:List Cls) (i:Nat),ownersN (a++b) i=ownersN a i++ownersN b (i+a.length):=by
  intro a
  induction a with
  | nil=>intro b i;simp[ownersN]
  | cons c r ih=>intro b i;rw[List.cons_append,ownersN,ownersN,ih,List.append_assoc,List.length_cons,show i+1+r.length=i+(r.length+1) by omega]
 have hl:(cs.take n).length=n:=by rw[List.length_take];omega
 have e2:ownersN cs 0=(ownersN (cs.take n) 0++List.replicate (cs.getD n default).slots.length ((n:Int)+3))++ownersN (cs.drop (n+1)) (n+1):=by
  conv=>lhs;rw[e]
  rw[app,app,List.length_append,hl];simp only[ownersN,List.length_singleton,List.append_nil,Nat.zero_add]
 rw[e2,List.getD_eq_getElem?_getD,List.getElem?_append_left (by rw[List.length_append,owners_cnt,List.length_replicate];exact h2),List.getElem?_append_right (by rw[owners_cnt];exact h1),List.getElem?_replicate,if_pos (by rw[owners_cnt];omega)];rfl
theorem upS_range{p:Prog}(h:Heads p)(c:Nat):∀n,n<=p.classes.length->upS p c n=((List.range (slotsCnt (p.classes.take n))).filter λs=>Fc.belowP (worldOf p) (c:Int) ((worldOf p).owner.getD s default)).map λ(s:Nat)=>(s:Int)
 | 0,_=>rfl
 | n+1,hn=>by
  have hs:slots1 (p.classes.getD n default).slots (slotsCnt (p.classes.take n))=true:=by
   have h1:=slotsA_all p.classes 0 (n+1) h.sl;rw[slotsA_take _ _ _ Yd,Bool.and_eq_true,Bool.and_eq_true,Nat.zero_add] at h1;exact h1.2.2
  rw[upS,upS_range h c n Yd,slotsCnt_take Yd,List.range_add,List.filter_append,List.map_append];congr 1;rw[show List.map (λx=>slotsCnt (p.classes.take n)+x) (List.range (p.classes.getD n default).slots.length)=List.range' (slotsCnt (p.classes.take n)) (p.classes.getD n default).slots.length by rw[List.range_eq_range',List.map_add_range'];simp];rw[filter_range' (b:=upB (worldOf p) c (3+n)) _ _ (λi h1 h2=>by
   rw[show (worldOf p).owner=ownersN p.classes 0 from rfl,owner_at Yd h1 h2,below_up,Int.toNat_natCast,show ((n:Int)+3).toNat=3+n by omega])]
  by_cases hu:upB (worldOf p) c (3+n)=true
  ·rw[if_pos hu,if_pos hu];exact slots1_get _ _ hs
  ·rw[if_neg hu,if_neg hu];rfl
theorem upS_more{p:Prog}(hw:Fc.worldP (worldOf p)=true){c:Nat}(hc:c<3+p.classes.length):∀n,c - 2<=n->upS p c n=upS p c (c - 2)
 | 0,h=>by rw[show c - 2=0 by omega]
 | n+1,h=>by
  by_cases e:c - 2=n+1
  ·rw[e]
  ·have hn: ¬upB (worldOf p) c (3+n)=true:=λhu=>by
    have:=upB_le hw c c (Nat.le_refl _) (by rw[world_pl];exact hc) _ hu;omega
   rw[upS,if_neg hn,List.append_nil];exact upS_more hw hc n Yd
theorem sorted_range(q:Nat->Bool)(n:Nat):(((List.range n).filter q).map λ(s:Nat)=>(s:Int)).Pairwise λa b=>decide (a<=b)=true:=by
 rw[List.pairwise_map];refine List.Pairwise.filter _ (List.Pairwise.imp ?_ List.pairwise_lt_range);intro a b hab;simp;omega
theorem sort_eq{a b:List Int}(hp:a.Perm b)(hb:b.Pairwise λx y=>decide (x<=y)=true):sortI a=b:=by
 have h1:(sortI a).Perm b:=(List.mergeSort_perm _ _).trans hp;refine List.Perm.eq_of_pairwise (le:=λx y=>decide (x<=y)=true) ?_ (List.pairwise_mergeSort (λx y z h1 h2=>by simp only[decide_eq_true_eq] at*;omega) (λx y=>by simp only[Bool.or_eq_true,decide_eq_true_eq];omega) a) hb h1;intro x y _ _ hxy hyx;simp only[decide_eq_true_eq] at*;omega
theorem has_slots(h:Heads p){c:Int}(h3:3<=c)(hc:c<3+p.classes.length):hasP p c=slotsR (worldOf p) c:=by
 obtain⟨k,rfl⟩:∃k:Nat,c=k:=⟨c.toNat,Yd⟩;have hw:=h.world;have e1:hasN p ((k:Int) - 2).toNat [(k:Int)] []=downS p k (k - 2):=by
  rw[show ((k:Int) - 2).toNat=k - 2 by omega];refine hasN_down hw Yd Yd (k - 2) [(k:Int)] [] (Nat.le_refl _) (λb hb=>?_);rw[List.mem_singleton];constructor
  ·intro e;exact .inl Yd
  ·rintro (e | ⟨m,h1,h2,h4,_⟩)
   ·omega
   ·have:=upB_le hw k k (Nat.le_refl _) (by rw[world_pl];omega) _ h4;omega
 have e2:=upS_range h k p.classes.length (Nat.le_refl _);rw[List.take_length, <-owners_cnt p.classes 0,upS_more hw Yd _ Yd] at e2;rw[hasP,e1];refine sort_eq (b:=slotsR (worldOf p) k) ?_ (sorted_range _ _);exact (down_perm p k (k - 2)).trans (by rw[e2];exact List.Perm.refl _)
end Go.Eng.Bd

namespace Go.Proofs.YtpgnjlngepfanaaGreat
open Go.Eng
open Go.Eng.Fc
open Go.Eng.Bd
variable{l:List Int}{c:Nat}
theorem seen_step{x:Int}{q:Nat}(hq:q<l.length)(h:(l.take q).contains x=false)(hx:l.getD q default≠x):(l.take (q+1)).contains x=false:=by
 rw[<-take_getD hq,List.contains_eq_any_beq,List.any_append, <-List.contains_eq_any_beq,h];simp;exact λe=>hx e.symm
theorem has_yes{x:Int}{q:Nat}(hq:q<l.length)(hx:l.getD q default=x):l.contains x=true:=by rw[<-hx];exact List.contains_iff_mem.2 (getD_memB hq)
theorem fine_step{i j:Nat}(hj:j<l.length)(h:fineL i [] (l.take j)=true)(h2:(decide (l.getD j default<3) || decide (l.getD j default>=3+i) || (l.take j).contains (l.getD j default))=false):fineL i [] (l.take (j+1))=true:=by
 rw[fineL_take i l [] j hj,h,List.nil_append,h2];rfl
theorem fineG_step{g:List (List Int)}{i:Nat}(hi:i<g.length)(h:fineG 0 (g.take i)=true)(h1:(g.getD i default).length<=3)(h2:fineL i [] (g.getD i default)=true):fineG 0 (g.take (i+1))=true:=by
 rw[fineG_take g 0 i hi,h,Nat.zero_add,h2,decide_eq_true h1];rfl
theorem pars_low{g:List (List Int)}(h:c<3):(parsOf g).getD c default= []:=by
 match c,h with
 | 0,_=>rfl
 | 1,_=>rfl
 | 2,_=>rfl
theorem pars_own{g:List (List Int)}(h: ¬c<3):(parsOf g).getD c default=g.getD (c - 3) default:=by
 obtain⟨k,rfl⟩:∃k,c=k+3:=⟨c - 3,Yd⟩;rw[Nat.add_sub_cancel];rfl
theorem rHas(l:List Int)(x:Int):PCall Tryz.prog 263 [AV.ints l,.i x] (.b (l.contains x)):=by
 intro H;refine aC (n:=18) Tryz.func263 λB I w0=>?_;refine CW.boundM (t:=0) rfl (λhb0=>?_);refine Z12 ?_;refine lj (λm st=>∃i:Nat,st=⟨[(5,.i i),(0,AV.ints l),(1,.i x)],H⟩/\m=l.length - i/\i<=l.length/\(l.take i).contains x=false) (⟨0,rfl,rfl,Yd,rfl⟩) ?_;rintro m _ ⟨i,rfl,rfl,hi,hc⟩;refine Z9 ?_;refine cd (λh0=>?_) λh0=>?_
 ·have hil:i<l.length:=by omega
  refine Z14 ?_;refine cd (λh1=>?_) λh1=>?_
  ·refine Z11 ?_;refine r1 4 (H) ?_;exact⟨retB (has_yes hil h1).symm,rfl⟩
  ·refine Z8 ?_;exact ag (⟨i+1,rfl,rfl,hil,seen_step hil hc h1⟩)
 ·obtain rfl:i=l.length:=by omega
  rw[List.take_length] at hc;refine Z11 ?_;refine r1 4 (H) ?_;exact⟨retB hc.symm,rfl⟩
theorem rLine(g:List (List Int)):PCall Tryz.prog 234 [AV.intss g] (.b (fineP g)):=by
 intro H;refine aC (n:=65) Tryz.func234 λB I w0=>?_;refine CW.boundM (t:=0) rfl (λhb0=>?_);refine Z13 ?_;refine cd (λh0=>?_) λh0=>?_
 ·refine Z7 ?_;refine r1 2 (H) ?_;exact⟨retB (fine_no1 Yd).symm,rfl⟩
 ·have hg16:g.length<=16:=by omega
  refine Z9 ?_;refine lj (λm st=>∃i:Nat,st=⟨[(3,.i i),(0,AV.intss g)],H⟩/\m=g.length - i/\i<=g.length/\fineG 0 (g.take i)=true) (⟨0,rfl,rfl,Yd,rfl⟩) ?_;rintro m _ ⟨i,rfl,rfl,hi,hf⟩;refine Z9 ?_;refine cd (λh1=>?_) λh1=>?_
  ·have hil:i<g.length:=by omega
   refine Z15 ?_;refine cd (λh2=>?_) λh2=>?_
   ·refine Z12 ?_;refine r1 2 (H) ?_;exact⟨retB (fine_no2 hil (by rw[decide_eq_false Yd];rfl)).symm,rfl⟩
   ·have hl3:(g.getD i default).length<=3:=by omega
    refine Z8 ?_;refine lj (λm st=>∃j:Nat,st=⟨[(4,.i j),(3,.i i),(0,AV.intss g)],H⟩/\m=(g.getD i default).length - j/\j<=(g.getD i default).length/\fineL i [] ((g.getD i default).take j)=true) (⟨0,rfl,rfl,Yd,rfl⟩) ?_;rintro m _ ⟨j,rfl,rfl,hj,hfl⟩;refine Z12 ?_;refine cd (λh3=>?_) λh3=>?_
    ·have hjl:j<(g.getD i default).length:=by omega
     refine Z5 ?_;refine CW.dp mixed ?_;refine DP.anyC 0 5 65 rfl Ye rfl rfl Ye ?_;refine Z22 ?_;refine DP.anyC 9 18 65 rfl Ye rfl rfl Ye ?_;refine Z22 ?_;refine DP.anyC 21 34 65 rfl Ye rfl rfl Ye ?_;refine Z5 ?_;refine AD.guardC rfl rfl rfl rfl rfl (λhg=>POp.slTo rfl rfl Y2 rfl Y2 Yd) ?_;refine Z9 ?_;refine OL.guardC rfl rfl rfl rfl rfl rfl (λhg=>POp.call (.mk' rfl rfl rfl rfl Yc) (rHas ((g.getD i default).take j) ((g.getD i default).getD j default))) ?_;refine Z3 ?_;refine CW.cond rfl (λh4=>?_) (λh4=>?_)
     ·rw[bif_or,bif_or] at h4;refine Z15 ?_;refine r1 2 (H) ?_;exact⟨retB (fine_no2 hil (by rw[fine_no3 hjl h4,Bool.and_false])).symm,rfl⟩
     ·rw[bif_or,bif_or] at h4;refine Z8 ?_;exact ag (⟨j+1,rfl,rfl,hjl,fine_step hjl hfl h4⟩)
    ·obtain rfl:j=(g.getD i default).length:=by omega
     rw[List.take_length] at hfl;refine Z11 ?_;exact ag (⟨i+1,rfl,rfl,hil,fineG_step hil hf hl3 hfl⟩)
  ·obtain rfl:i=g.length:=by omega
   rw[List.take_length] at hf;refine Z11 ?_;refine r1 2 (H) ?_;exact⟨retB (by rw[fineP,hf,decide_eq_true hg16];rfl),rfl⟩
theorem rPars{g:List (List Int)}(hg:g.length<=16)(hc:c<3+g.length):PCall Tryz.prog 299 [AV.intss g,.i c] (AV.ints ((parsOf g).getD c default)):=by
 intro H;refine aC (n:=12) Tryz.func299 λB I w0=>?_;refine Z12 ?_;refine cd (λh0=>?_) λh0=>?_
 ·have h0:c<3:=by omega
  refine Z7 ?_;refine Done.retR (rs:=[.tmp 4]) (H':=H) rfl (.tmp rfl (.nil)) (.cons (AVle.nil 1) .nil) Yb ?_;exact⟨by rw[pars_low h0];rfl,rfl⟩
 ·have h0: ¬c<3:=by omega
  refine Z13 ?_;refine r1 4 (H) ?_;exact⟨by rw[pars_own h0,show ((c:Int) - 3).toNat=c - 3 by omega];rfl,rfl⟩
theorem rWout(l:List Int)(hl:l.length<=1000000)(x:Int):PCall Tryz.prog 300 [AV.ints l,.i x] (AV.ints (l.filter (· !=x))):=by
 intro H;refine aC (n:=27) Tryz.func300 λB I w0=>?_;refine Z17 ?_;refine CW.ownNil 5 3 1 rfl ?_;refine lj (λm st=>∃(i:Nat) (v:Value),st=⟨[(6,.i i),(5,.as (AV.ints ((l.take i).filter (· !=x))) v),(0,AV.ints l),(1,.i x)],.own 3 1 v::H⟩/\m=l.length - i/\i<=l.length) (⟨0,_,rfl,rfl,Yd⟩) ?_;rintro m _ ⟨i,v,rfl,rfl,hi⟩;refine Z9 ?_;refine cd (λh0=>?_) λh0=>?_
 ·have hil:i<l.length:=by omega
  refine Z14 ?_;refine cd (λh1=>?_) λh1=>?_
  ·have hne:(l.getD i default !=x)=true:=by simpa using h1
   refine Z6 ?_;refine OL.popC (x:=.sl 1 [[.i (l.getD i default)]]) rfl rfl rfl (POp.row rfl rfl Yh rfl rfl rfl rfl rfl rfl) ?_;refine OL.appendC rfl rfl rfl rfl rfl rfl rfl rfl (AVle.refl _) (rfl) (λv=>by repeat (first | exact Upd.head _ _ _ | apply Upd.tail)) Yad Yad (λv25=>?_);refine Z9 ?_;exact ag (⟨i+1,v25,by rw[filter_yes hil hne],rfl,hil⟩)
  ·have hne:(l.getD i default !=x)=false:=by simpa using h1
   refine Z8 ?_;exact ag (⟨i+1,v,by rw[filter_no hil hne],rfl,hil⟩)
 ·obtain rfl:i=l.length:=by omega
  rw[List.take_length];refine Z12 ?_;refine Done.retR (rs:=[.tmp 4]) (H':=H) rfl (.tmp rfl (.nil)) (.cons (AVle.asL _ _) .nil) Yb ?_;exact⟨YaJ,rfl⟩
theorem rFree(all:List (List Int))(x:Int):PCall Tryz.prog 301 [AV.intss all,.i x] (.b (headOk all x)):=by
 intro H;refine aC (n:=27) Tryz.func301 λB I w0=>?_;refine CW.boundM (t:=0) rfl (λhb0=>?_);refine Z12 ?_;refine lj (λm st=>∃i:Nat,st=⟨[(5,.i i),(0,AV.intss all),(1,.i x)],H⟩/\m=all.length - i/\i<=all.length/\((all.take i).any λm=>m.tail.contains x)=false) (⟨0,rfl,rfl,Yd,rfl⟩) ?_;rintro m _ ⟨i,rfl,rfl,hi,ha⟩;refine Z9 ?_;refine cd (λh0=>?_) λh0=>?_
 ·have hil:i<all.length:=by omega
  refine Z17 ?_;refine OL.guardC rfl rfl rfl rfl rfl rfl (λhg=>POp.slFrom (n:=1) rfl rfl (gd hg) rfl (gd hg) (by have:=of_decide_eq_true hg;omega)) ?_;refine Z1 ?_;refine OL.guardC rfl rfl rfl rfl rfl rfl (λhg=>POp.call (.mk' rfl rfl rfl rfl Yc) (rHas ((all.getD i default).drop 1) x)) ?_;refine Z3 ?_;refine CW.cond rfl (λh1=>?_) (λh1=>?_)
  ·refine Z11 ?_;refine r1 4 (H) ?_;exact⟨retB (by rw[headOk_any,any_getD hil (head_in h1)];rfl),rfl⟩
  ·refine Z8 ?_;exact ag (⟨i+1,rfl,rfl,hil,by rw[any_takeB hil,ha,head_out h1];rfl⟩)
 ·obtain rfl:i=all.length:=by omega
  rw[List.take_length] at ha;refine Z11 ?_;refine r1 4 (H) ?_;exact⟨retB (by rw[headOk_any,ha];rfl),rfl⟩
end Go.Proofs.YtpgnjlngepfanaaGreat
