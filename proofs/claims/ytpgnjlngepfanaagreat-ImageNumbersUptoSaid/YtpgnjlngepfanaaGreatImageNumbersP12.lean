/- Part 12 of the proof: contracts of functions of the program and what they need. No condition beyond those that each theorem names. -/
import Derived.Test.YtpgnjlngepfanaaGreatImageNumbersP11
import Derived.Tactics
import Derived.Tactics2
import Derived.Laws.Pointers
import Derived.TacticsInMore
import Derived.RegionIn
import Derived.RecoverIn
set_option maxHeartbeats 1000000
set_option linter.unusedVariables false
set_option linter.unusedSimpArgs false
set_option maxRecDepth 10000
namespace Go.Proofs.YtpgnjlngepfanaaGreat
open Go.Eng
open Go.Eng.Fc
open Go.Eng.Bd
open Go.Eng.Im (U8 u8 u8s sumR)
def imageP(p:Prog)(objs:List Th):List U8:=[67,79]++secW 1 (progW p)++secW 2 (listW thW objs)
def imageQ(p:Prog)(objs:List Th):List U8:=if checkP p objs then imageP p objs else []
theorem secW_len{k:U8}{b:List U8}(h:b.length<=100000000):(secW k b).length<=b.length+11:=by
 simp only[secW,List.length_append,sumR_len,List.length_singleton];have:=numW_len 5 b.length Ya;omega
structure okG(p:Prog)(objs:List Th):Prop where
 p:okP p
 ol:objs.length<=40
 os:∀t∈objs,okT t
theorem objs_len{l:List Th}(hl:l.length<=40)(h:∀t∈l,okT t):(listW thW l).length<=19500:=by
 have:=listW_len (f:=thW) (λt ht=>thW_len (h t ht)) hl YO;omega
theorem image1{p:Prog}(hp:okP p)(wb:Nat){out:List U8}(hb:out.length+(progW p).length<=1000000000)(v:Value)(H:List Ent):ACall Tryz.prog 60 [.p wb 0,.ptr (progC p)] (wrE wb (out) v H) (λ_ H'=>∃v',H'=wrE wb (out++progW p) v' H) (λ_ _=>False):=by
 refine aC (n:=6) Tryz.func60 λB I w0=>?_;refine Z3 ?_;refine bC .k ((programC hp wb hb _ H).b) ?_;rintro y _ ⟨v1,rfl⟩;refine Z1 ?_;refine nR [] (wrE wb (out++progW p) v1 H) ?_;exact⟨v1,rfl⟩
theorem image2{objs:List Th}(hl:objs.length<=40)(hp:∀t∈objs,okT t)(wb:Nat){out:List U8}(hb:out.length+(listW thW objs).length<=1000000000)(v:Value)(H:List Ent):ACall Tryz.prog 62 [.p wb 0,.ptr [AV.ths objs]] (wrE wb (out) v H) (λ_ H'=>∃v',H'=wrE wb (out++listW thW objs) v' H) (λ_ _=>False):=by
 refine aC (n:=8) Tryz.func62 λB I w0=>?_;refine Z5 ?_;refine bC .k ((writtenT (f:=thW) (l:=objs) Ya (WrOk.fn (λx hx o u hu=>objectC (hp x hx) wb hu u H)) hb _).b) ?_;rintro y _ ⟨v1,rfl⟩;refine Z1 ?_;refine nR [] (wrE wb (out++listW thW objs) v1 H) ?_;exact⟨v1,rfl⟩
theorem imageC{p:Prog}(hp:p.Small)(objs:List Th)(hok:checkP p objs=true->okG p objs):PCall Tryz.prog 15 [AV.prog p,AV.ths objs] (.tup [u8s (imageQ p objs),.i (if checkP p objs then 0 else 2)]):=by
 intro H;refine aC (n:=23) Tryz.func15 λB I w0=>?_;refine Z13 ?_;refine oP (POp.call .k (meanCheck hp objs)) ?_;refine Z3 ?_;refine CW.cond rfl (λh0=>?_) (λh0=>?_)
 ·have hc:checkP p objs=false:=by cases h:checkP p objs <;> simp_all
  refine Z8 ?_;refine Done.retR (rs:=[.tmp 4,.tmp 5]) (H':=H) rfl (.tmp rfl (.tmp rfl (.nil))) (.cons (AVle.nil 1) (.cons (.refl _) .nil)) Yc ?_;exact⟨by rw[imageQ,hc];rfl,rfl⟩
 ·have hc:checkP p objs=true:=by cases h:checkP p objs <;> simp_all
  have hg:=hok hc;have hl1:=progW_len hg.p;have hl2:=objs_len hg.ol hg.os;have hs1:=secW_len (k:=1) (b:=progW p) Ya;have hs2:=secW_len (k:=2) (b:=listW thW objs) Ya;refine Z4 ?_;refine bC .k ((begunC 79 H).b) ?_;rintro y _ ⟨wb,v0,rfl,rfl⟩;refine Z7 ?_;refine bC (.mk' rfl rfl rfl rfl rfl) ((sectionC wb 1 (body:=progW p) (by show 2+_<=_;omega) (λB ib u=>VCall.fn (image1 hg.p ib (by show 0+_<=_;omega) u _))).b) ?_;rintro y _ ⟨v1,rfl⟩;refine Z6 ?_;refine bC (.mk' rfl rfl rfl rfl rfl) ((sectionC wb 2 (body:=listW thW objs) (by simp only[List.length_append,List.length_cons,List.length_nil];omega) (λB ib u=>VCall.fn (image2 hg.ol hg.os ib (by show 0+_<=_;omega) u _))).b) ?_;rintro y _ ⟨v2,rfl⟩;refine Z14 ?_;refine Done.retR (rs:=[.tmp 4,.tmp 5]) (H':=H) rfl (.tmp rfl (.tmp rfl (.nil))) (.cons (AVle.asL _ _) (.cons (.refl _) .nil)) Yc ?_;exact⟨by rw[imageQ,hc];rfl,rfl⟩
theorem keyC{p:Prog}(hp:okP p):PCall Tryz.prog 88 [AV.prog p] (u8s (sumR 1 (progW p))):=by
 intro H;refine aC (n:=15) Tryz.func88 λB I w0=>?_;have hl1:=progW_len hp;refine Z9 ?_;refine OL.boxC rfl rfl rfl rfl rfl rfl rfl (λwb=>?_);refine Z4 ?_;refine CW.ownNilB (b:=wb) (t:=99) 5 1 0 YC rfl rfl ?_;refine Z3 ?_;refine bC (.mk' rfl rfl rfl rfl rfl) ((programC hp wb (out:=[]) (by show 0+_<=_;omega) _ H).b) ?_;rintro y _ ⟨v1,rfl⟩;refine Z9 ?_;refine oP (POp.callLe .k (.cons (.refl _) (.cons (AVle.asL _ _) .nil)) (sumC 1 (progW p) Ya)) ?_;refine Z4 ?_;refine r1 2 (H) ?_;exact⟨YaI,rfl⟩
end Go.Proofs.YtpgnjlngepfanaaGreat

namespace Go.Proofs.YtpgnjlngepfanaaGreat
open Go.Eng
open Go.Eng.Im
open Go.Eng.Fc
open Go.Eng.Bd
open Go.Eng.Im (U8 u8 u8s sumR)
variable{B tb:Nat}{l:List U8}{I0:Imm}{w0 w:World}{env:List (Nat×AV)}{x:Bool}{H:List Ent}{a:Act}{Φ E:AV->List Ent->Prop}{gs gc:List AV}
theorem q152(rb:Nat):PCall Tryz.prog 152 [.p rb 0] (.fn (.func 209) [] [.ptr [.p rb 0]]):=by
 intro H;refine aC (n:=4) Tryz.func152 λB I w0=>?_;refine Z13 ?_;refine r1 2 (H) ?_;exact⟨Yg,rfl⟩
theorem c209(l:List U8)(hl:l.length<140737488355328)(rb:Nat){g:Fn}{gs gc:List AV}{J Jx:List Sec->List Ent->Prop}(hg:CbOk B Tryz.prog (.fn g gs gc) secA (secsOf l).1 (λ_=>True) J Jx)(H Hx:List Ent)(hJ:J [] H):
  BCall B Tryz.prog 209 [.fn g gs gc,.ptr [.p rb 0]] (H++([rdr rb l]++Hx)) (λ_ H'=>∃H1 Hs',H'=H1++(Hs'++Hx)/\(((secsOf l).2=true/\J (secsOf l).1 H1)\/∃pre,pre<+:(secsOf l).1/\Jx pre H1))
   (λy H'=>∃H1 Hs',H'=H1++(Hs'++Hx)/\((secsOf l).2=false/\y=wrongA)/\J (secsOf l).1 H1):=by
 refine BCall.of (n:=35) Tryz.func209 rfl Yf rfl rfl (λI w0=>?_);refine CW.perm (H':=rdr rb l::(H++Hx)) List.perm_middle ?_;refine Z1 ?_;refine lj (λm st=>∃(pre:List Sec) (l':List U8) (H1:List Ent),st=⟨[(0,.fn g gs gc),(1,.ptr [.p rb 0])],rdr rb l'::(H1++Hx)⟩/\m=l'.length/\J pre H1/\SecAt l pre l') (⟨[],l,H,rfl,rfl,hJ,.begin l⟩) ?_;rintro m _ ⟨pre,l',H1,rfl,rfl,hJ1,hA⟩;refine Z11 ?_;refine cd (λh0=>?_) λh0=>?_
 ·obtain⟨k,r,rfl⟩:∃k r,l'=k::r:=by cases l' with | nil=>simp at h0 | cons k r=>exact⟨k,r,rfl⟩
  have hkl:=k.isLt;have hlen:=hA.len;simp only[List.length_cons] at hlen;refine Z6 ?_
  ·refine OL.rcallS rfl rfl rfl (.mk' rfl rfl rfl rfl rfl) (q86c k r rb (H1++Hx)) ?_;refine oP (YB) ?_;refine Z1 ?_;refine oP (POp.cv rfl rfl rfl (wrap64 Ya)) ?_;refine Z1 ?_;refine OL.alC rfl rfl rfl rfl (λb0=>?_);refine Z4 ?_;refine CW.perm (List.Perm.swap _ _ _) ?_;refine CW.eqH (H':=rdr rb r::.blk b0 114 [.i k.val,.val (.slice none 0 0),.b false]::(H1++Hx)) rfl ?_;rcases hq:manyR r with _ | ⟨n,r1⟩
   ·refine CW.dp mixed ?_;refine DP.anyPan (Hf:=.blk b0 114 [.i k.val,.val (.slice none 0 0),.b false]::(H1++Hx)) 2 0 3 35 rfl Ye Ye Ye Ye (λenv=>outP (P:=Tryz.prog) (fn:=Tryz.f209) (Hf:=H1++([]++Hx)) wrong_c (List.sublist_cons_self _ _) (⟨H1,[],rfl,⟨(hA.fail Yr (secR_many hq)).2,rfl⟩,by rw[(hA.fail Yr (secR_many hq)).1];exact hJ1⟩)) ?_;refine UD.popP rfl rfl rfl rfl (Yb) ?_;refine UD.popP rfl rfl rfl rfl (Yb) ?_;refine UD.panP rfl rfl rfl .k (q164n hq _ _) wrong_c ?_;exact UD.nil trivial
   ·have hn:=manyR_some hq;refine CW.dp mixed ?_;refine DP.anyH [⟨2,18,false⟩] (()) (λ(_:Unit) (vs:List (Option Value))=>match vs with | [none]=>rdr rb r::.blk b0 114 [.i k.val,.val (.slice none 0 0),.b false]::(H1++Hx) | _=>rdr rb r1::.blk b0 114 [.i k.val,.val (.slice none 0 0),.b false]::(H1++Hx)) 0 3 35 rfl Ye Ye rfl rfl Ye rfl ?_;refine UD.popG [[true],[false]] rfl Ye rfl rfl rfl ⟨λg f=>Yb,λg f=>Yb,trivial⟩ ?_;refine UD.popG [[false]] rfl Ye rfl rfl rfl ⟨λg f=>Yb,trivial⟩ ?_;refine UD.effG 0 [[false]] rfl rfl rfl Ye rfl rfl rfl ⟨λg f=>FOk.rcall () .k (q164s hq _ _) (λ_=>rfl),trivial⟩ ?_;refine UD.nil (λg f=>?_);simp only[CE.vals,List.map_cons,List.map_nil,List.cons_append,List.nil_append];refine Z1 ?_;refine OL.eqH (H':=rdr rb r1::.blk b0 114 [.i k.val,.val (.slice none 0 0),.b false]::(H1++Hx)) rfl ?_;refine OL.rcallS rfl rfl rfl (.mk' rfl rfl rfl rfl rfl) (by have h:=q86 r1 n rb (.blk b0 114 [.i k.val,.val (.slice none 0 0),.b false]::(H1++Hx));rwa [if_pos hn.1] at h) ?_;refine Z5 ?_;rcases Nat.lt_or_ge (r1.drop n).length 4 with h4 | h4
    ·refine CW.dp mixed ?_;refine DP.anyPan (Hf:=.blk b0 114 [.i k.val,u8s (r1.take n),.b false]::(H1++Hx)) 1 0 6 35 rfl Ye Ye Ye Ye (λenv=>outP (P:=Tryz.prog) (fn:=Tryz.f209) (Hf:=H1++([]++Hx)) wrong_c (List.sublist_cons_self _ _) (⟨H1,[],rfl,⟨(hA.fail Yr (secR_short hq Ya)).2,rfl⟩,by rw[(hA.fail Yr (secR_short hq Ya)).1];exact hJ1⟩)) ?_;refine UD.popP rfl rfl rfl rfl (Yb) ?_;refine UD.panP rfl rfl rfl .k (by have h:=q86 (r1.drop n) 4 rb (.blk b0 114 [.i k.val,u8s (r1.take n),.b false]::(H1++Hx));rwa [if_neg Ya] at h) wrong_c ?_;refine UD.popP rfl rfl rfl rfl (Yj) ?_;refine UD.popP rfl rfl rfl rfl (Yb) ?_;refine UD.popP rfl rfl rfl rfl (Yj) ?_;refine UD.popP rfl rfl rfl rfl (Yb) ?_;exact UD.nil trivial
    ·refine CW.dp mixed ?_;refine DP.anyH [⟨1,22,false⟩] (()) (λ(_:Unit) (vs:List (Option Value))=>match vs with | [none]=>rdr rb (r1.drop n)::.blk b0 114 [.i k.val,u8s (r1.take n),.b false]::(H1++Hx) | _=>rdr rb ((r1.drop n).drop 4)::.blk b0 114 [.i k.val,u8s (r1.take n),.b false]::(H1++Hx)) 0 6 35 rfl Ye Ye rfl rfl Ye rfl ?_;refine UD.popG [[false]] rfl Ye rfl rfl rfl ⟨λg f=>Yb,trivial⟩ ?_;refine UD.effG 0 [[false]] rfl rfl rfl Ye rfl rfl rfl ⟨λg f=>FOk.rcall () .k (by have h:=q86 (r1.drop n) 4 rb (.blk b0 114 [.i k.val,u8s (r1.take n),.b false]::(H1++Hx));rwa [if_pos h4] at h) (λ_=>rfl),trivial⟩ ?_;refine UD.popG [[true],[false]] rfl Ye rfl rfl rfl ⟨λg f=>Yj,λg f=>Yj,trivial⟩ ?_;refine UD.popG [[true],[false]] rfl Ye rfl rfl rfl ⟨λg f=>Yb,λg f=>Yb,trivial⟩ ?_;refine UD.popG [[true],[false]] rfl Ye rfl rfl rfl ⟨λg f=>Yj,λg f=>Yj,trivial⟩ ?_;refine UD.popG [[true],[false]] rfl Ye rfl rfl rfl ⟨λg f=>Yb,λg f=>Yb,trivial⟩ ?_;refine UD.nil (λg f=>?_);simp only[CE.vals,List.map_cons,List.map_nil,List.cons_append,List.nil_append];refine Z1 ?_;refine OL.eqH (H':=rdr rb ((r1.drop n).drop 4)::.blk b0 114 [.i k.val,u8s (r1.take n),.b false]::(H1++Hx)) rfl ?_;refine oP (POp.call .k (q117 k (r1.take n) (by rw[List.length_take];omega))) ?_;refine oP (POp.call .k (q87 _ _)) ?_;refine Z6 ?_;have hst:=secR_good (k:=k) hq h4;have hA':=hA.step hst;have hlt:=secR_len hst;refine CW.perm (List.Perm.swap _ _ _) ?_;refine CW.perm (List.perm_append_comm_assoc [_,_] H1 Hx) ?_;refine Z2 ?_;refine oP ((by first | exact POp.ldA rfl rfl rfl rfl | (apply POp.ldAH rfl rfl rfl;(case hm=>exact List.mem_append_right _ (.head _));(case hy=>rfl);(case hn=>rfl)))) ?_;refine OL.vcallC rfl rfl rfl rfl rfl rfl rfl rfl (AVleL.refl _) (hg pre _ H1 (.blk b0 114 [.i k.val,u8s (r1.take n),.b (!((r1.drop n).take 4==sumR k (r1.take n)))]::rdr rb ((r1.drop n).drop 4)::Hx) hA'.pre trivial hJ1) ?_;rintro y H2 ⟨b,H3,rfl,rfl,hb1,hb2⟩;refine Z3 ?_;refine cd (λh1=>?_) λh1=>?_
     ·refine Z4 ?_;refine Done.retR (rs:=[]) (H':=H3++([]++Hx)) rfl (.nil) (AVleL.refl _) YaA ?_;exact⟨H3,[],rfl,.inr ⟨_,hA'.pre,hb2 Yaw⟩⟩
     ·refine Z2 ?_;refine Done.perm (List.perm_append_comm_assoc [_,_] H3 Hx).symm ?_;exact ag (⟨pre++[_],_,H3,rfl,rfl,hb1 Yaw,hA'⟩)
 ·refine Z4 ?_;obtain rfl:l'= []:=by cases l' with | nil=>rfl | cons k r=>simp at h0;omega
  refine Done.norR (rs:=[]) (H':=H1++([]++Hx)) rfl (.nil) (AVleL.refl _) YaA ?_;exact⟨H1,[],rfl,.inl ⟨hA.stop.2,by rw[hA.stop.1];exact hJ1⟩⟩
theorem seq209(l:List U8)(hl:l.length<140737488355328)(rb:Nat):SeqS B Tryz.prog (.fn (.func 209) [] [.ptr [.p rb 0]]) secA (secsOf l).1 [rdr rb l] (λ_=>(secsOf l).2=true) (λy=>(secsOf l).2=false/\y=wrongA):=
 λJ Jx f fs cs hg H Hx hJ=>VCall.fnB (c209 l hl rb hg H Hx hJ)
abbrev secs(l:List Sec):AV:=.sl 3 (l.map secC)
def collO(l:List U8)(Hx:List Ent):Option (AV×List Ent):=if(secsOf l).2=true then some (secs (secsOf l).1,Hx) else none
theorem q208(l:List U8)(hl:l.length<=1048576)(rb:Nat)(Hx:List Ent):RCall Tryz.prog 208 [.val (.slice none 0 0),.fn (.func 209) [] [.ptr [.p rb 0]]] (rdr rb l::Hx) (collO l Hx) Hx wrongA:=by
 refine ACall.mkM (n:=13) Tryz.func208 rfl Yf rfl rfl (λB I w0=>?_);refine Z2 ?_;refine OL.boxC rfl rfl rfl rfl rfl rfl rfl (λsb=>?_);refine Z5 ?_;refine CW.ownNilB 114 3 0 (.head _ _ _) rfl rfl ?_;refine Z5 ?_;refine CW.weaken (st':=⟨[(2,.p sb 0),(6,.fn (.func 209) [] [.ptr [.p rb 0]])],[.own 114 3 (.slice none 0 0),.blk sb 110 [.as (secs []) (.slice none 0 0)]]++([rdr rb l]++Hx)⟩) Ya1 Yc ?_;refine CW.rangeFuncE (secA) ((secsOf l).1) (λpre H1=>∃v,H1= [.own 114 3 v,.blk sb 110 [.as (secs pre) v]]) (λcode pre H1=>False) ([.own 114 3 (.slice none 0 0),.blk sb 110 [.as (secs []) (.slice none 0 0)]]) ([rdr rb l]) (Hx) (λ_=>(secsOf l).2=true) (λy=>(secsOf l).2=false/\y=wrongA) (λx=>[(5,.ptr (secC x)),(2,.p sb 0)]) rfl rfl rfl rfl (seq209 l Ya rb) (⟨_,rfl⟩) ?_ ?_ ?_ ?_ ?_
 ·intro l0 I1 w1 x Hy;refine Z1 ?_;refine OL.alC rfl rfl rfl rfl (λb1=>?_);refine Z2 ?_;refine Done.freezeP (d:=5) rfl (.head _ _) ?_;exact λa w s=>⟨_,rfl,s.weaken (envLe_get Ya1) (.refl _)⟩
 ·intro l0 D0 lp pre x H1 Hy I1 w1 hpre hJ;obtain⟨v,rfl⟩:=hJ;refine Z4 ?_;refine OL.popC (x:=.sl 3 [secC x]) rfl rfl rfl (POp.row rfl rfl Yh rfl rfl rfl rfl rfl rfl) ?_;refine OL.appendC rfl rfl rfl rfl rfl rfl rfl rfl (AVle.refl _) (rfl) (λv=>by repeat (first | exact Upd.head _ _ _ | apply Upd.tail)) Yao Yao (λv11=>?_);refine Z3 ?_;refine Done.eqH (H':=.loop l0 lp _::.obj D0 (.deferred (some []))::.own 114 3 v11::.blk sb 110 [.as (secs (pre++[x])) v11]::Hy) (by rw[show secs (pre++[x])= .sl 3 (pre.map secC++[secC x]) by rw[secs,List.map_append];rfl];rfl) ?_;exact Done.roundN Yc ⟨v11,rfl⟩
 ·intro D0 H1 Hs1 hHn hJ;obtain⟨v,rfl⟩:=hJ;refine Z9 ?_;refine Done.retM1 (rs:=[.tmp 4]) (H':=Hx) rfl Yl (.tmp rfl (.nil)) (.cons (AVle.asL _ _) .nil) (by exact .cons _ (.cons _ (List.sublist_append_right _ _))) ?_;exact by rw[collO,if_pos hHn];rfl
 ·intro D0 code0 pre H1 Hs1 hpre hJx;exact hJx.elim
 ·intro D0 y H1 Hs1 hown hJ I v a w s hv;obtain⟨v,rfl⟩:=hJ;obtain⟨ho,rfl⟩:=hown;rw[wrong_c.is _ _ _ hv];exact outM (P:=Tryz.prog) (fn:=Tryz.f208) (Hf:=Hx) wrong_c (.head _ _) (.cons _ (.cons _ (List.sublist_append_right _ _))) ⟨by rw[collO,ho];rfl,rfl,rfl⟩ a w s
theorem q151(l:List U8)(hl:l.length<=1048576)(rb:Nat)(Hx:List Ent):RCall Tryz.prog 151 [.fn (.func 209) [] [.ptr [.p rb 0]]] (rdr rb l::Hx) (collO l Hx) Hx wrongA:=by
 refine aC (n:=5) Tryz.func151 λB I w0=>?_;refine Z8 ?_;cases hok:(secsOf l).2
 ·refine OL.rcallN rfl rfl (.mk' rfl rfl rfl rfl rfl) (by have h:=q208 l hl rb Hx;rwa [collO,if_neg (by simp[hok])] at h) wrong_c ?_;exact outP (P:=Tryz.prog) (fn:=Tryz.f151) wrong_c (.refl _) ⟨by rw[collO,if_neg (by simp[hok])],rfl,rfl⟩
 ·refine OL.rcallS rfl rfl rfl (.mk' rfl rfl rfl rfl rfl) (by have h:=q208 l hl rb Hx;rwa [collO,if_pos hok] at h) ?_;refine Z4 ?_;refine r1 2 (Hx) ?_;exact by rw[collO,if_pos hok];rfl
def headR(l:List U8):Prop:=1<l.length/\(l.getD 0 default).val=67/\((l.getD 1 default).val=79\/(l.getD 1 default).val=80)
instance(l:List U8):Decidable (headR l):=inferInstanceAs (Decidable (_/\_))
theorem head_b(l:List U8):(bif bif decide ((l.length:Int)>1) then (((l.getD (Int.toNat 0) default).val:Int)==67) else false then bif (((l.getD (Int.toNat 1) default).val:Int)==79) then true else (((l.getD (Int.toNat 1) default).val:Int)==80) else false)=decide (headR l):=by
 have e:∀(n:Nat) (k:Nat),((n:Int)==(k:Int))=(n==k):=λn k=>by
  rw[Bool.eq_iff_iff];simp;omega
 have e0:Int.toNat 0=0:=rfl;have e1:Int.toNat 1=1:=rfl;rw[e0,e1,show (67:Int)=((67:Nat):Int) by rfl,show (79:Int)=((79:Nat):Int) by rfl,show (80:Int)=((80:Nat):Int) by rfl,e,e,e];have h1:decide ((l.length:Int)>1)=decide (1<l.length):=by
  rw[Bool.eq_iff_iff];simp;omega
 rw[h1];rw[Bool.eq_iff_iff,decide_eq_true_iff];unfold headR;generalize (l.getD 0 default).val=x;generalize (l.getD 1 default).val=y;generalize l.length=n;by_cases a:1<n <;> by_cases b:x=67 <;> by_cases c:y=79 <;> by_cases d:y=80 <;> simp[a,b,c,d]
theorem split_head(h:headR l):splitR l=if(secsOf (l.drop 2)).2=true then some (l.getD 1 default,(secsOf (l.drop 2)).1) else none:=by
 obtain⟨h1,h2,h3⟩:=h
 match l,h1 with
 | a::m::r,_=>
  simp only[splitR,List.getD_cons_zero,List.getD_cons_succ] at h2 h3 ⊢;by_cases hs:(secsOf r).2=true
  ·rw[if_pos ⟨h2,h3,hs⟩];simp only[List.drop_succ_cons,List.drop_zero];rw[if_pos hs]
  ·rw[if_neg λh=>hs h.2.2];simp only[List.drop_succ_cons,List.drop_zero];rw[if_neg hs]
theorem split_no(h: ¬headR l):splitR l=none:=by
 match l with
 | []=>rfl
 | [_]=>rfl
 | a::m::r=>
  simp only[splitR];exact if_neg λ⟨h1,h2,_⟩=>h ⟨Yr,h1,h2⟩
def splitO(l:List U8)(Hx:List Ent):Option (AV×List Ent):=(splitR l).map λp=>(.tup [u8 p.1,secs p.2],Hx)
theorem q77(l:List U8)(hl:l.length<=1048576)(Hx:List Ent):RCall Tryz.prog 77 [u8s l] Hx (splitO l Hx) Hx wrongA:=by
 refine aC (n:=35) Tryz.func77 λB I w0=>?_;refine Z13 ?_;refine OL.guardC rfl rfl rfl rfl rfl rfl (λhg=>Y0) ?_;refine Z5 ?_;refine OL.guardC rfl rfl rfl rfl rfl rfl (λhg=>Y0) ?_;refine Z4 ?_;refine OL.guardC rfl rfl rfl rfl rfl rfl (λhg=>Y0) ?_;refine Z4 ?_;by_cases hh:headR l
 ·refine OL.rcallS rfl rfl rfl (.mk' rfl rfl rfl rfl rfl) (q71t (by rw[head_b];exact decide_eq_true hh) _) ?_;refine Z3 ?_;cases hok:(secsOf (l.drop 2)).2
  ·refine CW.dp mixed ?_;refine DP.anyK (X:=PanX wrongV Hx) [⟨6,32,false⟩,⟨7,33,false⟩,⟨8,34,false⟩] (λJ=>match J with | [some v,_,none]=>rdr (blkOf v) (l.drop 2)::Hx | [_,_,some _]=>noMem | _=>Hx) (λq J=>match q,J with | 0,[some v,_,_]=>.p (blkOf v) 0 | 1,[some v,some _,_]=>.fn (.func 209) [] [.ptr [.p (blkOf v) 0]] | 2,[_,_,some _]=>secs (secsOf (l.drop 2)).1 | _,_=>.any) 0 9 35 rfl Ye Ye rfl rfl Ye rfl (by rintro I w a ch w' hd hs hw he ⟨rfl,J,j1,j2,j3⟩;exact outP (P:=Tryz.prog) (fn:=Tryz.f77) (env:=[]) wrong_c (.refl _) ⟨by rw[splitO,split_head hh,hok];rfl,rfl,rfl⟩ a w' ⟨hd,hs,J,j1,he.trans j2,j3,λt x hx=>by simp[envGet] at hx⟩) ?_;refine UD.popK [[true,true,true],[true,true,false],[true,false,false],[false,false,false]] rfl Ye rfl rfl rfl ⟨λf=>POp.move rfl rfl rfl,λf=>POp.move rfl rfl rfl,λf=>POp.move rfl rfl rfl,λf=>POp.move rfl rfl rfl,trivial⟩ ?_;refine UD.popK [[true,true,true],[true,true,false],[true,false,false],[false,false,false]] rfl Ye rfl rfl rfl ⟨λf=>POp.ixI (l:=l) (i:=1) rfl (show aev _ _=some (true,u8s l) from rfl) rfl rfl rfl Yah,λf=>POp.ixI (l:=l) (i:=1) rfl (show aev _ _=some (true,u8s l) from rfl) rfl rfl rfl Yah,λf=>POp.ixI (l:=l) (i:=1) rfl (show aev _ _=some (true,u8s l) from rfl) rfl rfl rfl Yah,λf=>POp.ixI (l:=l) (i:=1) rfl (show aev _ _=some (true,u8s l) from rfl) rfl rfl rfl Yah,trivial⟩ ?_;refine UD.popK [[true,true,true],[true,true,false],[true,false,false],[false,false,false]] rfl Ye rfl rfl rfl ⟨λf=>Yb,λf=>Yb,λf=>Yb,λf=>Yb,trivial⟩ ?_;refine UD.popK [[false,false,false]] rfl Ye rfl rfl rfl ⟨λf=>POp.move rfl rfl rfl,trivial⟩ ?_;refine UD.popK [[false,false,false]] rfl Ye rfl rfl rfl ⟨λf=>POp.slFrom (xs:=l) (n:=2) rfl (show aev _ _=some (true,u8s l) from rfl) rfl rfl rfl (by have:=hh.1;omega),trivial⟩ ?_;refine UD.popK [[false,false,false]] rfl Ye rfl rfl rfl ⟨λf=>POp.build' rfl rfl Yh rfl,trivial⟩ ?_;refine UD.effK 0 [[false,false,false]] rfl rfl rfl Ye rfl rfl rfl ⟨λf=>⟨KOk.box rfl rfl rfl rfl (λ_=>rfl) (λ_=>rfl),Yn⟩,trivial⟩ ?_;refine UD.effK 1 [[true,false,false]] rfl rfl rfl Ye rfl rfl rfl ⟨λf=>⟨KOk.pop (POp.call .k (q152 _)) (λ_=>rfl) (λ_=>rfl),Yn⟩,trivial⟩ ?_;refine UD.effK 2 [[true,true,false]] rfl rfl rfl Ye rfl rfl rfl ⟨λf=>⟨KOk.pan .k (by have h:=q151 (l.drop 2) (by rw[List.length_drop];omega) (blkOf (f 32)) Hx;rwa [collO,if_neg (by simp[hok])] at h) wrong_c,Yn⟩,trivial⟩ ?_;exact UD.nil λf a w s=>(Sat.no s).elim
  ·refine CW.dp mixed ?_;refine DP.anyK (X:=noX) [⟨6,32,false⟩,⟨7,33,false⟩,⟨8,34,false⟩] (λJ=>match J with | [some v,_,none]=>rdr (blkOf v) (l.drop 2)::Hx | _=>Hx) (λq J=>match q,J with | 0,[some v,_,_]=>.p (blkOf v) 0 | 1,[some v,some _,_]=>.fn (.func 209) [] [.ptr [.p (blkOf v) 0]] | 2,[_,_,some _]=>secs (secsOf (l.drop 2)).1 | _,_=>.any) 0 9 35 rfl Ye Ye rfl rfl Ye rfl (λ_ _ _ _ _ _ _ _ _ h=>h.elim) ?_;refine UD.popK [[true,true,true],[true,true,false],[true,false,false],[false,false,false]] rfl Ye rfl rfl rfl ⟨λf=>POp.move rfl rfl rfl,λf=>POp.move rfl rfl rfl,λf=>POp.move rfl rfl rfl,λf=>POp.move rfl rfl rfl,trivial⟩ ?_;refine UD.popK [[true,true,true],[true,true,false],[true,false,false],[false,false,false]] rfl Ye rfl rfl rfl ⟨λf=>POp.ixI (l:=l) (i:=1) rfl (show aev _ _=some (true,u8s l) from rfl) rfl rfl rfl Yah,λf=>POp.ixI (l:=l) (i:=1) rfl (show aev _ _=some (true,u8s l) from rfl) rfl rfl rfl Yah,λf=>POp.ixI (l:=l) (i:=1) rfl (show aev _ _=some (true,u8s l) from rfl) rfl rfl rfl Yah,λf=>POp.ixI (l:=l) (i:=1) rfl (show aev _ _=some (true,u8s l) from rfl) rfl rfl rfl Yah,trivial⟩ ?_;refine UD.popK [[true,true,true],[true,true,false],[true,false,false],[false,false,false]] rfl Ye rfl rfl rfl ⟨λf=>Yb,λf=>Yb,λf=>Yb,λf=>Yb,trivial⟩ ?_;refine UD.popK [[false,false,false]] rfl Ye rfl rfl rfl ⟨λf=>POp.move rfl rfl rfl,trivial⟩ ?_;refine UD.popK [[false,false,false]] rfl Ye rfl rfl rfl ⟨λf=>POp.slFrom (xs:=l) (n:=2) rfl (show aev _ _=some (true,u8s l) from rfl) rfl rfl rfl (by have:=hh.1;omega),trivial⟩ ?_;refine UD.popK [[false,false,false]] rfl Ye rfl rfl rfl ⟨λf=>POp.build' rfl rfl Yh rfl,trivial⟩ ?_;refine UD.effK 0 [[false,false,false]] rfl rfl rfl Ye rfl rfl rfl ⟨λf=>⟨KOk.box rfl rfl rfl rfl (λ_=>rfl) (λ_=>rfl),Yn⟩,trivial⟩ ?_;refine UD.effK 1 [[true,false,false]] rfl rfl rfl Ye rfl rfl rfl ⟨λf=>⟨KOk.pop (POp.call .k (q152 _)) (λ_=>rfl) (λ_=>rfl),Yn⟩,trivial⟩ ?_;refine UD.effK 2 [[true,true,false]] rfl rfl rfl Ye rfl rfl rfl ⟨λf=>⟨KOk.rcall .k (by have h:=q151 (l.drop 2) (by rw[List.length_drop];omega) (blkOf (f 32)) Hx;rwa [collO,if_pos hok] at h) (λ_=>rfl) (λ_=>rfl),Yn⟩,trivial⟩ ?_;refine UD.nil (λf=>?_);simp only[kvals,List.map_cons,List.map_nil,List.cons_append,List.nil_append];generalize blkOf (f 32)=rb;refine Z6 ?_;refine rR [.tmp 2,.tmp 3] (Hx) ?_;exact by rw[splitO,split_head hh,if_pos hok];rfl
 ·refine OL.rcallN rfl rfl (.mk' rfl rfl rfl rfl rfl) (q71f (by rw[head_b];exact decide_eq_false hh) _) wrong_c ?_;exact outP (P:=Tryz.prog) (fn:=Tryz.f77) wrong_c (.refl _) ⟨by rw[splitO,split_no hh];rfl,rfl,rfl⟩
theorem assert_wrong(w:World):(Instr.typeAssert wrongV 20 176 true).run Tryz.prog w= .ok (.tuple #[.agg #[],.bool true]) w:=by
 simp[Instr.typeAssert,run_underlying (show Tryz.prog.underlying 176=some (.struct #[]) by kernel_rfl)]
theorem catch_panI(b:Nat)(x:Bool)(w:World)(hc:w.cell? ⟨b,0,none⟩=some (.bool x))(hz:w.frozen? ⟨b,0,none⟩=false)(hb:b<w.heap.size):
  CallsDIn (Eng.FW none) 0 Tryz.prog 130 #[.pointer (some ⟨b,0,none⟩)] (.panicking [{v:=wrongV,recovered:=false}]) w λe u' w'=>
   e= .returned (.tuple #[])/\u'= .panicking [{v:=wrongV,recovered:=true}]/\w'=(w.alloc (.cells #[] 176)).setCell ⟨b,0,none⟩ (.bool false):=by
 have hc2:(w.alloc (.cells #[] 176)).cell? ⟨b,0,none⟩=some (.bool x):=by rw[World.cell?_alloc_lt w _ ⟨b,0,none⟩ hb];exact hc
 have hz2:(w.alloc (.cells #[] 176)).frozen? ⟨b,0,none⟩=false:=by rw[World.frozen?_of_block (Go.RowKit.Below.heap_alloc w _ b hb)];exact hz
 refine callsDIn_of_wpSIn Tryz.func130 rfl trivial λc₀ cs hu=>?_;apply wpSIn_seq;apply wpSIn_region;have hta:=λw=>assert_wrong w;simp[wpOpsSIn,go_sem,recoverD,hu,Tryz.ntmps130,Exit.thenS,Eng.FW,hta];apply wpSIn_block;apply wpSIn_seq;apply wpSIn_region;simp[wpOpsSIn,go_sem,Exit.thenS];refine wpSIn_cond (t:=false) YaN ?_;simp only[Bool.false_eq_true,if_false];apply wpSIn_seq;apply wpSIn_region;simp[wpOpsSIn,go_sem,Exit.thenS,hta];refine wpSIn_cond (t:=true) YaN ?_;simp only[if_true];apply wpSIn_seq;apply wpSIn_region;simp[wpOpsSIn,go_sem,Exit.thenS];apply wpSIn_region;simp[wpOpsSIn,go_sem,hc2,hz2,bodyPostS,results,Tryz.results130,Exit.inBlockS]
theorem catch_idlI(b:Nat)(w:World):
  CallsDIn (Eng.FW none) 0 Tryz.prog 130 #[.pointer (some ⟨b,0,none⟩)] .returning w λe u' w'=>e= .returned (.tuple #[])/\u'= .returning/\w'=w:=by
 refine callsDIn_of_wpSIn Tryz.func130 rfl trivial λc₀ cs hu=>?_;apply wpSIn_seq;apply wpSIn_region;simp[wpOpsSIn,go_sem,recoverD,hu,Tryz.ntmps130,Exit.thenS,Eng.FW];apply wpSIn_block;apply wpSIn_seq;apply wpSIn_region;simp[wpOpsSIn,go_sem,Exit.thenS];refine wpSIn_cond (t:=true) YaN ?_;simp only[if_true];apply wpSIn_region;cases c₀;simp_all [wpOpsSIn,go_sem,bodyPostS,results,Tryz.results130,Exit.inBlockS]
def dfrI(tb:Nat):Deferred:={target:=.fn (.func 130) #[.pointer (some ⟨tb,0,none⟩)],args:=#[]}
theorem leave_f66(hΦ:Φ (.b x) H)(hs:∃I,WOk B I w/\Ext B I0 w0 I w/\HeapOk B I w (.blk tb 4 [.b x]::H)/\EnvOk I w (envGet env) a)(ht:envGet env 2=some (.p tb 0)):
  LeavesIn (Eng.FW none) 0 Tryz.prog Tryz.f66 a.tmps (RetP B I0 w0 Φ E) [] .returning w:=by
 obtain⟨I,hw,he,hh,hv⟩:=hs;obtain⟨v,h1,h2⟩:=ResOk.res (P:=Tryz.prog) (c:=⟨B,I0,w0,0,[]⟩) (st:=⟨env,.blk tb 4 [.b x]::H⟩) hh hv (fn:=Tryz.f66) (rs:=[.cell 2 4]) rfl (.cell1 inferInstance ht (.head _) rfl .nil);exact⟨v,h1,I,H,hw,he,hh.tail,.inl ⟨v,_,rfl,h2,hΦ⟩⟩
theorem invoke_dfI(tb:Nat)(w:World):(invoke (.fn (.func 130) #[.pointer (some ⟨tb,0,none⟩)]) #[]).run Tryz.prog w= .ok (.enter 130 #[.pointer (some ⟨tb,0,none⟩)]) w:=by
 have:fnOk Tryz.prog 130=true:=by kernel_rfl
 have h:=run_callFunc this #[.pointer (some ⟨tb,0,none⟩)] w;simp[invoke]
theorem ret_f66{n:Nat}(hΦ:Φ (.b x) H)(s:Sat ⟨B,I0,w0,n,[dfrI tb]⟩ ⟨env,.blk tb 4 [.b x]::H⟩ a w)(ht:envGet env 2=some (.p tb 0)):
  bodyPostDIn (Eng.FW none) 0 Tryz.prog Tryz.f66 (RetP B I0 w0 Φ E) .ret a w:=by
 show LeavesIn _ _ _ _ _ _ a.defers .returning w;rw[s.ds];refine leavesIn_cons (f:=130) (args:=#[.pointer (some ⟨tb,0,none⟩)]) Yr (by simp[Eng.FW]) (invoke_dfI tb w) (λ_ _=>trivial) ?_;refine (catch_idlI tb w).mono ?_;rintro e u' w' ⟨rfl,rfl,rfl⟩;exact leave_f66 hΦ s.mem ht
theorem pan_f66{n:Nat}(hΦ:Φ (.b false) H)(s:Sat ⟨B,I0,w0,n,[dfrI tb]⟩ ⟨env,.blk tb 4 [.b x]::H⟩ a w)(ht:envGet env 2=some (.p tb 0)):
  bodyPostDIn (Eng.FW none) 0 Tryz.prog Tryz.f66 (RetP B I0 w0 Φ E) (.panic [{v:=wrongV,recovered:=false}]) a w:=by
 show LeavesIn _ _ _ _ _ _ a.defers (.panicking [{v:=wrongV,recovered:=false}]) w;rw[s.ds];obtain⟨I,hw,he,hh,hv⟩:=s.mem;obtain⟨hB,vs,hb,hr,hni⟩:=hh.ok _ (.head _);have hvs:vs= #[.bool x]:=by
  have h1:=rel_vals (vs:=[.bool x]) hr;exact Array.toList_inj.1 h1
 subst hvs;have hlt:tb<w.heap.size:=(Array.getElem?_eq_some_iff.1 hb).1;refine leavesIn_cons (f:=130) (args:=#[.pointer (some ⟨tb,0,none⟩)]) Yr (by simp[Eng.FW]) (invoke_dfI tb w) (λ_ _=>trivial) ?_;refine (catch_panI tb x w (by rw[cell_of_blk hb];rfl) (by simp[World.frozen?,hb]) hlt).mono ?_;rintro e u' w' ⟨rfl,rfl,rfl⟩;have hw1:=hw.alloc (.cells #[] 176);have hh1:=hh.alloc hw (.cells #[] 176);have hb1:(w.alloc (.cells #[] 176)).heap[tb]? =some (.cells #[.bool x] 4 (0,0)):=by rw[Go.RowKit.Below.heap_alloc w _ tb hlt];exact hb
 have hk1:=keeps_alloc hw (.cells #[] 176);have he1:=he.trans (ext_alloc hw (.cells #[] 176));have hv1:=hv.keep hk1;generalize w.alloc (.cells #[] 176)=w1 at*;have hset:(w1.setCell ⟨tb,0,none⟩ (.bool false)).heap[tb]? =some (.cells #[.bool false] 4 (0,0)):=one_setCell hb1;have hcell:∀b i,I b i->(w1.setCell ⟨tb,0,none⟩ (.bool false)).cell? ⟨b,i,none⟩=w1.cell? ⟨b,i,none⟩:=λb i hI=>
  World.cell?_of_block (a:=⟨b,i,none⟩) (Go.RowKit.Below.heap_setCell _ _ _ _ (λe=>hni i (by rw[<-(show b=tb from e)];exact hI)))
 have hk2:Keeps I w1 I (w1.setCell ⟨tb,0,none⟩ (.bool false)):=⟨λ_ _ h=>h,hcell⟩;have hbel:=(Go.RowKit.Below.refl B w1).setCell (p:=⟨tb,0,none⟩) hB (.bool false);exact leave_f66 (x:=false) (env:=env) hΦ ⟨I,⟨Nat.le_trans hw1.base hbel.size,λb i hI=>by rw[hcell b i hI];exact hw1.there b i hI⟩,he1.trans ⟨λ_ _ h=>h,hcell,hbel⟩,
  hh1.upd (.head _ _ _) hk2 (λb _ hne=>Go.RowKit.Below.heap_setCell _ _ _ _ (λe=>hne (by rw[show b=tb from e];rfl))) (λ_ _ h=>.inl h) ⟨hB,#[.bool false],hset,.cons _ _ _ _ (.val _) .nil,hni⟩ (λ_ h=>.inl h),hv1.keep hk2⟩ ht
theorem q66t{g:Fn}{H H1:List Ent}(hdo:∀B Hy,VCall B Tryz.prog (.fn g gs gc) [] (H++Hy) (λ_ H'=>H'=H1++Hy) (λ_ _=>False)):
  ACall Tryz.prog 66 [.fn g gs gc] H (λx H'=>x= .b true/\H'=H1) (λ_ _=>False):=by
 refine ACall.mkD (n:=6) Tryz.func66 rfl Yf rfl rfl (λB I w0=>?_);refine Z2 ?_;refine OL.alC rfl rfl rfl rfl (λtb=>?_);refine Z5 ?_;refine OL.deferC (vs:=[.pointer (some ⟨tb,0,none⟩)]) rfl rfl rfl rfl rfl rfl ?_;refine Z3 ?_;refine CW.perm (List.perm_append_singleton _ _).symm ?_;refine Z2 ?_;refine OL.vcallC rfl rfl rfl rfl rfl rfl rfl rfl (AVleL.refl _) (hdo B [.blk tb 4 [.b false]]) ?_;rintro y _ rfl;refine Z3 ?_;refine CW.perm (List.perm_append_singleton _ _) ?_;refine Z5 ?_;intro a w s;exact ret_f66 ⟨rfl,rfl⟩ s rfl
theorem q66f{g:Fn}{H Hf:List Ent}(hdo:∀B Hy,VCall B Tryz.prog (.fn g gs gc) [] (H++Hy) (λ_ _=>False) (λy H'=>y=wrongA/\H'=Hf++Hy)):
  ACall Tryz.prog 66 [.fn g gs gc] H (λx H'=>x= .b false/\H'=Hf) (λ_ _=>False):=by
 refine ACall.mkD (n:=6) Tryz.func66 rfl Yf rfl rfl (λB I w0=>?_);refine Z2 ?_;refine OL.alC rfl rfl rfl rfl (λtb=>?_);refine Z5 ?_;refine OL.deferC (vs:=[.pointer (some ⟨tb,0,none⟩)]) rfl rfl rfl rfl rfl rfl ?_;refine Z3 ?_;refine CW.perm (List.perm_append_singleton _ _).symm ?_;refine Z2 ?_;refine OL.vcall rfl rfl rfl rfl rfl rfl rfl (AVleL.refl _) (hdo B [.blk tb 4 [.b false]]) (λ_ _ h=>h.elim) ?_;rintro y H2 ⟨rfl,rfl⟩ a w s I v hv;rw[wrong_c.is _ _ _ hv];exact pan_f66 ⟨rfl,rfl⟩ (s.perm (List.perm_append_singleton _ _)) rfl
theorem splitO_len{p:U8×List Sec}(h:splitR l=some p):p.2.length<=l.length:=by
 unfold splitR at h;split at h
 ·split at h
  ·cases h;have:=secs_count ‹_›;simp only[List.length_cons];omega
  ·cases h
 ·cases h
theorem q76(l:List U8)(hl:l.length<=1048576)(lb:Nat)(x:AV)(Hx:List Ent):RCall Tryz.prog 76 [.ptr [u8s l],.p lb 0] (.blk lb 110 [x]::Hx) ((splitR l).map λp=>(.tup [],.blk lb 110 [secs p.2]::Hx)) (.blk lb 110 [x]::Hx) wrongA:=by
 refine aC (n:=7) Tryz.func76 λB I w0=>?_;refine Z2 ?_;rcases hq:splitR l with _ | p
 ·refine OL.rcallN rfl rfl (.mk' rfl rfl rfl rfl rfl) (by have h:=q77 l hl (.blk lb 110 [x]::Hx);rwa [splitO,hq] at h) wrong_c ?_;exact outP (P:=Tryz.prog) (fn:=Tryz.f76) wrong_c (.refl _) ⟨rfl,rfl,rfl⟩
 ·refine OL.rcallS rfl rfl rfl (.mk' rfl rfl rfl rfl rfl) (by have h:=q77 l hl (.blk lb 110 [x]::Hx);rwa [splitO,hq] at h) ?_;refine Z5 ?_;refine nR [] (.blk lb 110 [secs p.2]::Hx) ?_;exact rfl
def sectA(l:List U8):AV:=match splitR l with
 | none=>.tup [.sl 1 [],.sl 1 [],.i 4]
 | some p=>.tup [.sl 1 (kindsP p.2),damA p.2 p.2.length,.i 0]
theorem q23(l:List U8)(hl:l.length<=1048576):PCall Tryz.prog 23 [u8s l] (sectA l):=by
 intro H;refine aC (n:=32) Tryz.func23 λB I w0=>?_;refine Z10 ?_;refine OL.alC rfl rfl rfl rfl (λlb=>?_);refine Z6 ?_;rcases hq:splitR l with _ | ⟨mk,L⟩
 ·refine bC .k (q66f (H:=.blk lb 110 [.val (.slice none 0 0)]::H) (Hf:=.blk lb 110 [.val (.slice none 0 0)]::H) (λB Hy=>RCall.vN (by have h:=q76 l hl lb (.val (.slice none 0 0)) (H++Hy);rwa [hq] at h))).b ?_;rintro y _ ⟨rfl,rfl⟩;refine Z3 ?_;refine CW.cond rfl (λh0=>?_) (λh0=>?_)
  ·replace h0:=nm h0;refine Z9 ?_;refine Done.retR (rs:=[.tmp 2,.tmp 3,.tmp 4]) (H':=H) rfl (.tmp rfl (.tmp rfl (.tmp rfl (.nil)))) (.cons (AVle.nil 1) (.cons (AVle.nil 1) (.cons (.refl _) .nil))) Yc ?_;exact⟨by rw[sectA,hq];rfl,rfl⟩
  ·cases h0
 ·have hL:=splitO_len hq;replace hL:L.length<=l.length:=hL;refine bC .k (q66t (H:=.blk lb 110 [.val (.slice none 0 0)]::H) (H1:=.blk lb 110 [secs L]::H) (λB Hy=>RCall.vS (by have h:=q76 l hl lb (.val (.slice none 0 0)) (H++Hy);rwa [hq] at h))).b ?_;rintro y _ ⟨rfl,rfl⟩;refine Z3 ?_;refine CW.cond rfl (λh1=>?_) (λh1=>?_)
  ·cases h1
  ·refine Z4 ?_;refine CW.ownNil 2 48 1 rfl ?_;refine CW.ownNil 3 3 1 rfl ?_;refine Z7 ?_;refine lj (λm st=>∃(i:Nat) (v2 v3:Value),st=⟨[(13,.i i),(12,.i L.length),(11,secs L),(2,.as (.sl 1 (kindsP (L.take i))) v2),(3,.as (damA L i) v3)],.own 3 1 v3::.own 48 1 v2::.blk lb 110 [secs L]::H⟩/\m=L.length - i/\i<=L.length) (⟨0,_,_,rfl,rfl,Nat.zero_le _⟩) ?_;rintro m _ ⟨i,v2,v3,rfl,rfl,hi⟩;refine Z6 ?_;refine cd (λh2=>?_) λh2=>?_
   ·have hil:i<L.length:=by omega
    obtain⟨x,hx⟩:∃x,x=L.getD i default:=⟨_,rfl⟩;refine Z9 ?_;refine OL.alC rfl rfl rfl rfl (λb1=>?_);refine Z5 ?_;rw[<-hx];refine Z4 ?_;refine OL.popC (x:=.sl 1 [[.i x.kind.val]]) rfl rfl rfl (POp.row rfl rfl Yh rfl rfl rfl rfl rfl rfl) ?_;refine OL.appendC rfl rfl rfl rfl rfl rfl rfl rfl (AVle.refl _) (rfl) (λv=>by repeat (first | exact Upd.head _ _ _ | apply Upd.tail)) YG YG (λv22=>?_);refine Z9 ?_;refine cd (λh3=>?_) λh3=>?_
    ·refine Z3 ?_;refine OL.popC (x:=.sl 1 [[.i i]]) rfl rfl rfl (POp.row rfl rfl Yh rfl rfl rfl rfl rfl rfl) ?_;refine OL.appendC rfl rfl rfl rfl rfl rfl rfl rfl (AVle.refl _) (rfl) (λv=>by repeat (first | exact Upd.head _ _ _ | apply Upd.tail)) YG YG (λv28=>?_);refine Z8 ?_;exact ag (⟨i+1,v22,v28,by rw[kinds_snoc hil, <-hx,damA,dam_yes (by rw[<-hx];exact h3)],rfl,hil⟩)
    ·refine Z7 ?_;exact ag (⟨i+1,v22,v3,by rw[kinds_snoc hil, <-hx,damA,dam_no (by rw[<-hx];exact h3)],rfl,hil⟩)
   ·obtain rfl:i=L.length:=by omega
    rw[List.take_length];refine Z15 ?_;refine Done.retR (rs:=[.tmp 2,.tmp 3,.tmp 4]) (H':=H) rfl (.tmp rfl (.tmp rfl (.tmp rfl (.nil)))) (.cons (AVle.asL _ _) (.cons (AVle.asL _ _) (.cons (.refl _) .nil))) Yc ?_;exact⟨by rw[sectA,hq];rfl,rfl⟩
abbrev rr(rb:Nat)(l:List U8)(at_:Nat)(bad:Bool):Ent:=.blk rb 135 [u8s l,.i at_,.b bad]
end Go.Proofs.YtpgnjlngepfanaaGreat

namespace Go.Proofs.YtpgnjlngepfanaaGreat
open Go.Eng
open Go.Eng.Fc
open Go.Eng.Bd
open Go.Eng.Im (U8 u8 u8s sumR)
variable{L:List Int}{mm:List (Int×AV)}{objs:List Th}{roots:List (Int×Int)}
def move1(h:Int->Int)(v:Int×Int):Int×Int:=if v.1=3 then (3,h v.2) else v
def placeP(L:List Int)(n:Int):Int:=if n∈L then idxB L n else 0
def objW(L:List Int)(objs:List Th)(n:Int):Th:=⟨(thOf objs n).cls,(thOf objs n).slots.map (move1 (placeP L))⟩
def partB(p:Prog)(objs:List Th)(roots:List (Int×Int)):List U8:=sumR 1 (progW p)++listW valW (roots.map (move1 (placeP (reachP objs roots))))++listW (λn=>thW (objW (reachP objs roots) objs n)) (reachP objs roots)
def partP(p:Prog)(objs:List Th)(roots:List (Int×Int)):List U8:=[67,80]++secW 3 (partB p objs roots)
def partQ(p:Prog)(objs:List Th)(roots:List (Int×Int)):List U8:=if askedP p objs roots then partP p objs roots else []
theorem mvs_snoc(o:List (Int×Int))(x:Int×Int):AV.mvs (o++[x])= .sl 2 ((o.map initA)++[initA x]):=by
 show AV.sl 2 (List.map _ (_++_))=_;rw[List.map_append];rfl
theorem one_mvs(l:List (Int×Int)):(l.map initA).all allOne=true:=by
 rw[List.all_eq_true];intro x hx;obtain⟨a,_,rfl⟩:=List.mem_map.1 hx;rfl
theorem map_take1{α β:Type}[Inhabited α](f:α->β){l:List α}{i:Nat}(hi:i<l.length):(l.take (i+1)).map f=(l.take i).map f++[f (l.getD i default)]:=by rw[<-take_getD hi,List.map_append];rfl
def NumOk(P:Program)(Hm:List Ent)(g:AV)(h:Int->Int)(ok:Int->Prop):Prop:=∀B (H:List Ent),(∀e∈Hm,e∈H)->∀n,ok n->VCall B P g [.i n] H (λy H'=>y= .i (h n)/\H'=H) (λ_ _=>False)
theorem movedC{Hm:List Ent}{g:Fn}{gs gc:List AV}{h:Int->Int}{ok:Int->Prop}(hg:NumOk Tryz.prog Hm (.fn g gs gc) h ok){l:List (Int×Int)}(hl:∀v∈l,v.1=3->ok v.2)(hll:l.length<=1000000):PCallIn Tryz.prog Hm 95 [AV.mvs l,.fn g gs gc] (AV.mvs (l.map (move1 h))):=by
 intro H hm;refine aC (n:=28) Tryz.func95 λB I w0=>?_;refine Z12 ?_;refine CW.ownNil 5 60 2 rfl ?_;refine Z7 ?_;refine lj (λm st=>∃(i:Nat) (v:Value),st=⟨[(5,.as (AV.mvs ((l.take i).map (move1 h))) v),(10,.i i),(9,.i l.length),(8,AV.mvs l),(1,.fn g gs gc)],.own 60 2 v::H⟩/\m=l.length - i/\i<=l.length) (⟨0,_,rfl,rfl,Ya⟩) ?_;rintro m _ ⟨i,v,rfl,rfl,hi⟩;refine Z6 ?_;refine cd (λh0=>?_) λh0=>?_
 ·have hil:i<l.length:=by omega
  obtain⟨X,hX⟩:∃X,X=l.getD i default:=⟨_,rfl⟩;have hXl:=hl X (hX▸getD_memB hil);have hmt:=map_take1 (move1 h) hil;rw[<-hX] at hmt;refine Z8 ?_;refine OL.alC rfl rfl rfl rfl (λb7=>?_);refine Z3 ?_;refine CW.cutJ (λst=>st=⟨[(7,.p b7 0),(5,.as (AV.mvs ((l.take i).map (move1 h))) v),(10,.i i),(9,.i l.length),(8,AV.mvs l),(1,.fn g gs gc)],.blk b7 60 (initA (move1 h X))::.own 60 2 v::H⟩) ?_ ?_
  ·refine Z1 ?_;rw[<-hX];refine Z6 ?_;refine cd (λh1=>?_) λh1=>?_
   ·obtain⟨x1,x2⟩:=X;simp only at h1;subst h1;have he:move1 h (3,x2)=(3,h x2):=by rw[move1,if_pos rfl]
    refine Z4 ?_;refine OL.vcallC rfl rfl rfl rfl rfl rfl rfl rfl (AVleL.refl _) (hg B _ (λe he=>.tail _ (.tail _ (hm e he))) x2 (hXl rfl)) ?_;rintro _ _ ⟨rfl,rfl⟩;refine Z3 ?_;rw[he];exact cj rfl
   ·have he:move1 h X=X:=by rw[move1,if_neg h1]
    refine Z1 ?_;rw[he];exact cj rfl
  ·rintro _ rfl;refine Z3 ?_;refine OL.popC (x:=.sl 2 [initA (move1 h X)]) rfl rfl rfl (POp.row rfl rfl Yh rfl rfl rfl rfl rfl rfl) ?_;refine OL.appendC rfl rfl rfl rfl rfl rfl rfl rfl (AVle.refl _) (rfl) (λv=>by repeat (first | exact Upd.head _ _ _ | apply Upd.tail)) Yw Yw (λv25=>?_);refine Z8 ?_;exact ag (⟨i+1,v25,by rw[hmt,mvs_snoc],rfl,hil⟩)
 ·obtain rfl:i=l.length:=by omega
  rw[List.take_length];refine Z12 ?_;refine Done.retR (rs:=[.tmp 4]) (H':=H) rfl (.tmp rfl (.nil)) (.cons (AVle.asL _ _) .nil) Yc ?_;exact⟨YaI,rfl⟩
abbrev rtE(xb mb:Nat)(v:Value)(L:List Int)(mm:List (Int×AV)):List Ent:=[.blk xb 123 [.as (AV.ints L) v,.val (.map (some mb))],imapE mb mm]
theorem lookP_le{m:List (Int×AV)}{l:List Int}(h:MapAt m l)(k:Int):AVle ((getI m k).getD (.val (.int .i64 0))) (.i (placeP l k)):=by
 rw[h.get,placeP];split <;> exact AVle.refl _
theorem placeC(hM:MapAt mm L)(xb mb:Nat)(v:Value){n:Int}(hn:smallKey n):PCallIn Tryz.prog (rtE xb mb v L mm) 156 [.i n,.ptr [.p xb 0]] (.i (placeP L n)):=by
 intro H hm;refine aC (n:=10) Tryz.func156 λB I w0=>?_;refine Z10 ?_;refine oP (Yau) ?_;refine Z1 ?_;refine oP (POp.le (POp.lookupI rfl rfl rfl rfl rfl (hm _ (.tail _ (.head _))) hM.ok hn) (lookP_le hM n)) ?_;refine Z4 ?_;refine r1 3 (H) ?_;exact⟨YaI,rfl⟩
theorem place_ok(hM:MapAt mm L)(xb mb:Nat)(v:Value):NumOk Tryz.prog (rtE xb mb v L mm) (.fn (.func 156) [] [.ptr [.p xb 0]]) (placeP L) smallKey:=λB H hm n hn=>VCall.fn (placeC hM xb mb v hn H hm)
structure PartOk(objs:List Th)(L:List Int):Prop where
 ol:objs.length<=40
 rt:RouteOk objs.length L
 vs:∀t∈objs,t.slots.all (valueP objs.length)=true
 os:∀t∈objs,okT t
theorem place_in(h:PartOk objs L)(n:Int):0<=placeP L n/\placeP L n<=40:=by
 have h1:=h.rt.len;have h2:=h.ol;unfold placeP;split
 ·rename_i hm;have h3:idxB L n>=0:=by have:=idxB_contains L n;rw[List.contains_iff_mem.2 hm,decide_eq_true_eq] at this;exact this
  refine⟨h3,?_⟩;unfold idxB at h3 ⊢;split
  ·rename_i i hi;have:=(List.findIdx?_eq_some_iff_getElem.1 hi).1;omega
  ·omega
 ·omega
theorem move_ok(h:PartOk objs L){v:Int×Int}(hv:valueP objs.length v=true):okVal (move1 (placeP L) v):=by
 have h1:=okVal_of (by have:=h.ol;omega) hv;unfold move1;split
 ·have:=place_in h v.2;exact⟨Yal,λe=>(by cases e),λ_=>by unfold okN;omega⟩
 ·exact h1
theorem obj_ok(h:PartOk objs L){n:Int}(hn:n∈L):okT (objW L objs n):=by
 have h1:=h.rt.in_ n hn;have hm:thOf objs n∈objs:=getD_memB Ya;have h2:=h.os _ hm;refine⟨h2.cls,λv hv=>?_,by rw[objW,List.length_map];exact h2.vl⟩;obtain⟨y,hy,rfl⟩:=List.mem_map.1 hv;exact move_ok h (List.all_eq_true.1 (h.vs _ hm) y hy)
theorem key_of{n:Nat}(hn:n<=1000000){v:Int×Int}(h:valueP n v=true):smallKey v.2:=by have:=valueP_key hn h;unfold smallKey;omega
theorem part21(hO:PartOk objs L){mm:List (Int×AV)}(hM:MapAt mm L)(xb mb:Nat)(v1:Value){n:Int}(hn:n∈L)(wb:Nat){out:List U8}(hb:out.length+(thW (objW L objs n)).length<=1000000000)(v:Value)(H:List Ent)(hm:∀e∈rtE xb mb v1 L mm,e∈H):
  ACall Tryz.prog 159 [.i n,.ptr [.p wb 0],.ptr [AV.ths objs],.ptr [.fn (.func 156) [] [.ptr [.p xb 0]]]] (wrE wb (out) v H) (λ_ H'=>∃v',H'=wrE wb (out++thW (objW L objs n)) v' H) (λ_ _=>False):=by
 refine aC (n:=20) Tryz.func159 λB I w0=>?_;have hni:=hO.rt.in_ n hn;have hTm:thOf objs n∈objs:=getD_memB Ya;have hTv:=hO.vs _ hTm;have hTo:=hO.os _ hTm;have hol:=hO.ol;have hvl:=hTo.vl;refine CW.dp mixed ?_;refine DP.anyC 0 14 20 rfl Ye rfl rfl Ye ?_;refine Z12 ?_;refine AD.popC rfl rfl rfl (POp.callIn .k (AVleL.refl _) (movedC (l:=(thOf objs n).slots) (place_ok hM xb mb v1) (λv hv _=>key_of Ya (List.all_eq_true.1 hTv v hv)) Ya) (λe he=>.tail _ (.tail _ (hm e he)))) ?_;refine Z3 ?_;refine bC .k ((objectC (obj_ok hO hn) wb hb _ H).b) ?_;rintro y _ ⟨v2,rfl⟩;refine Z1 ?_;refine nR [] (wrE wb (out++thW (objW L objs n)) v2 H) ?_;exact⟨v2,rfl⟩
def partL(p:Prog)(objs:List Th)(roots:List (Int×Int))(L:List Int):List U8:=sumR 1 (progW p)++listW valW (roots.map (move1 (placeP L)))++listW (λn=>thW (objW L objs n)) L
theorem one_u8s(l:List U8):(l.map λx=>[u8 x]).all allOne=true:=by
 rw[List.all_eq_true];intro x hx;obtain⟨a,_,rfl⟩:=List.mem_map.1 hx;rfl
theorem partL_len{p:Prog}(hO:PartOk objs L)(hr:roots.all (valueP objs.length)=true)(hrl:roots.length<=20):(partL p objs roots L).length<=20000:=by
 have h1:=listW_len (f:=valW) (l:=roots.map (move1 (placeP L))) (M:=12) (K:=20) (λv hv=>by
  obtain⟨y,hy,rfl⟩:=List.mem_map.1 hv;exact valW_len (move_ok hO (List.all_eq_true.1 hr y hy))) (by rw[List.length_map];exact hrl) YO
 have h2:=listW_len (f:=λn=>thW (objW L objs n)) (l:=L) (M:=486) (K:=40) (λn hn=>thW_len (obj_ok hO hn)) (by have:=hO.rt.len;have:=hO.ol;omega) YO;simp only[partL,List.length_append,sumR_len];omega
theorem part2{p:Prog}(hp:okP p){objs:List Th}{roots:List (Int×Int)}{L:List Int}(hO:PartOk objs L)(hr:roots.all (valueP objs.length)=true)(hrl:roots.length<=20){mm:List (Int×AV)}(hM:MapAt mm L)(xb mb:Nat)(v1:Value)(wb:Nat)(v:Value)(H:List Ent)(hm:∀e∈rtE xb mb v1 L mm,e∈H):
  ACall Tryz.prog 157 [.p wb 0,.ptr (progC p),.ptr [AV.mvs roots],.ptr [.fn (.func 156) [] [.ptr [.p xb 0]]],.ptr [.p xb 0],.ptr [AV.ths objs]] (wrE wb ([]) v H) (λ_ H'=>∃v',H'=wrE wb (partL p objs roots L) v' H) (λ_ _=>False):=by
 refine aC (n:=33) Tryz.func157 λB I w0=>?_;have hol:=hO.ol;have hLl:=hO.rt.len;have hpl:=partL_len (p:=p) hO hr hrl;simp only[partL,List.length_append] at hpl;refine Z6 ?_;refine CW.dp mixed ?_;refine DP.anyK (X:=noX) [⟨8,15,false⟩] (λJ=>match J with | [some v2]=>.own 5 1 v2::.blk wb 99 [.as (u8s []) v]::H | _=>wrE wb [] v H) (λq J=>match q,J with | 0,[some v2]=>.as (.sl 1 ([]++((sumR 1 (progW p)).map λx=>[u8 x]))) v2 | _,_=>.any) 0 9 33 rfl Ye Ye rfl rfl Ye rfl (λ_ _ _ _ _ _ _ _ _ h=>h.elim) ?_;refine UD.popK [[true],[false]] rfl Ye rfl rfl rfl ⟨λf=>Yb,λf=>Yb,trivial⟩ ?_;refine UD.popK [[false]] rfl Ye rfl rfl rfl ⟨λf=>Yb,trivial⟩ ?_;refine UD.popK [[false]] rfl Ye rfl rfl rfl ⟨λf=>YA,trivial⟩ ?_;refine UD.popK [[false]] rfl Ye rfl rfl rfl ⟨λf=>Yj,trivial⟩ ?_;refine UD.popK [[false]] rfl Ye rfl rfl rfl ⟨λf=>Yj,trivial⟩ ?_;refine UD.popK [[false]] rfl Ye rfl rfl rfl ⟨λf=>Yb,trivial⟩ ?_;refine UD.popK [[false]] rfl Ye rfl rfl rfl ⟨λf=>YK,trivial⟩ ?_;refine UD.popK [[false]] rfl Ye rfl rfl rfl ⟨λf=>POp.call .k (keyC hp),trivial⟩ ?_;refine UD.effK 0 [[false]] rfl rfl rfl Ye rfl rfl rfl ⟨λf=>⟨KOk.own (news:=((sumR 1 (progW p)).map λx=>[u8 x])) rfl rfl rfl (AVle.refl _) rfl rfl (AVle.refl _) (one_u8s _) (by simp[sumR_len]) (by simp[sumR_len]) (λ_=>.head _ _ _) (λ_=>rfl),Yn⟩,trivial⟩ ?_;refine UD.nil (λf=>?_);simp only[kvals,List.map_cons,List.map_nil,List.cons_append,List.nil_append];refine Z8 ?_;refine CW.dp mixed ?_;refine DP.anyC 0 6 33 rfl Ye rfl rfl Ye ?_;refine Z3 ?_;refine AD.popC rfl rfl rfl (POp.callIn .k (AVleL.refl _) (movedC (l:=roots) (place_ok hM xb mb v1) (λv hv _=>key_of Ya (List.all_eq_true.1 hr v hv)) Ya) (λe he=>.tail _ (.tail _ (hm e he)))) ?_;refine Z4 ?_;refine bC .k ((writtenV (f:=valW) (l:=roots.map (move1 (placeP L))) (out:=sumR 1 (progW p)) Yaa (WrOk.fn (λx hx o u hu=>by obtain⟨y,hy,rfl⟩:=List.mem_map.1 hx;exact valueW (move_ok hO (List.all_eq_true.1 hr y hy)) wb hu u H)) Ya _).b) ?_;rintro y _ ⟨v3,rfl⟩;refine Z2 ?_;refine CW.dp mixed ?_;refine DP.anyC 0 6 33 rfl Ye rfl rfl Ye ?_;refine Z4 ?_;refine AD.popC rfl rfl rfl ((by first | exact POp.ld1 rfl rfl rfl rfl | (apply POp.ld1H rfl rfl rfl;(case hm=>exact .tail _ (.tail _ (hm _ (.head _))));(case hy=>rfl)))) ?_;refine Z3 ?_;refine bC ((CallOk.mk' rfl rfl rfl rfl rfl).le (.cons (.refl _) (.cons (AVle.asL _ _) (.cons (.refl _) .nil)))) ((writtenI (f:=λn=>thW (objW L objs n)) (l:=L) Ya (WrOk.fn (λn hn o u hu=>part21 hO hM xb mb v1 hn wb hu u H hm)) Yaf _).b) ?_;rintro y _ ⟨v4,rfl⟩;refine Z1 ?_;refine nR [] (wrE wb (sumR 1 (progW p)++listW valW (roots.map (move1 (placeP L)))++listW (λn=>thW (objW L objs n)) L) v4 H) ?_;exact⟨v4,rfl⟩
structure AskOk(p:Prog)(objs:List Th)(roots:List (Int×Int)):Prop where
 p:okP p
 po:PartOk objs (reachP objs roots)
 rs:roots.all (valueP objs.length)=true
 rl:roots.length<=20
theorem ask_ok{p:Prog}(h:askedP p objs roots=true):AskOk p objs roots:=by
 obtain⟨h1,h2,h3,h4⟩:=asked_parts h;simp only[askedP,Bool.and_eq_true] at h;obtain⟨h5,h6,h7⟩:=ok_of h.1;obtain⟨i,h8,_⟩:=reach_ok h3 h4;exact⟨h5,⟨h1,h8.ok,h4,h7⟩,h3,h2⟩
theorem partedC{p:Prog}(hk:AskOk p objs roots):PCall Tryz.prog 81 [AV.prog p,AV.ths objs,AV.mvs roots] (u8s (partP p objs roots)):=by
 intro H;refine aC (n:=23) Tryz.func81 λB I w0=>?_;have hpl:=partL_len (p:=p) hk.po hk.rs hk.rl;have hsl:=secW_len (k:=3) (b:=partL p objs roots (reachP objs roots)) Ya;refine Z12 ?_;refine bC .k ((reachC hk.po.ol hk.rs hk.po.vs H).b) ?_;rintro y _ ⟨xb,mb,v,mm,rfl,hM,rfl⟩;refine OL.alC rfl rfl rfl rfl (λb7=>?_);refine Z4 ?_;refine CW.freezeP (d:=7) rfl Yl ?_;refine Z2 ?_;refine OL.alC rfl rfl rfl rfl (λb8=>?_);refine Z4 ?_;refine CW.freezeP (d:=8) rfl Yl ?_;refine Z1 ?_;refine bC .k ((begunC 80 _).b) ?_;rintro y _ ⟨wb,v0,rfl,rfl⟩;refine Z7 ?_;refine bC (.mk' rfl rfl rfl rfl rfl) ((sectionC wb 3 (body:=partL p objs roots (reachP objs roots)) (by show 2+_<=_;omega) (λB ib u=>VCall.fn (part2 hk.p hk.po hk.rs hk.rl hM xb mb v ib u _ (λe he=>.tail _ (.tail _ (.tail _ (List.mem_append_left H he))))))).b) ?_;rintro y _ ⟨v2,rfl⟩;refine Z13 ?_;refine Done.retR (rs:=[.tmp 6]) (H':=H) rfl (.tmp rfl (.nil)) (.cons (AVle.asL _ _) .nil) Yc ?_;exact⟨YaI,rfl⟩
theorem partC{p:Prog}(hp:p.Small)(objs:List Th)(roots:List (Int×Int)):PCall Tryz.prog 27 [AV.prog p,AV.ths objs,AV.mvs roots] (.tup [u8s (partQ p objs roots),.i (if askedP p objs roots then 0 else 2)]):=by
 intro H;refine aC (n:=17) Tryz.func27 λB I w0=>?_;refine Z13 ?_;refine oP (POp.call .k (askedC hp objs roots)) ?_;refine Z3 ?_;refine CW.cond rfl (λh0=>?_) (λh0=>?_)
 ·have ha:askedP p objs roots=false:=by simpa using h0
  refine Z8 ?_;refine Done.retR (rs:=[.tmp 6,.tmp 7]) (H':=H) rfl (.tmp rfl (.tmp rfl (.nil))) (.cons (AVle.nil 1) (.cons (.refl _) .nil)) Yc ?_;exact⟨by rw[partQ,ha];rfl,rfl⟩
 ·have ha:askedP p objs roots=true:=by simpa using h0
  refine Z7 ?_;refine oP (POp.call .k (partedC (ask_ok ha))) ?_;refine Z5 ?_;refine rR [.tmp 6,.tmp 7] (H) ?_;exact⟨by rw[partQ,ha];rfl,rfl⟩
def alikeP(p:Prog)(objs:List Th)(roots:List (Int×Int))(others:List Th)(otherRoots:List (Int×Int)):Bool:=askedP p objs roots && askedP p others otherRoots && (partP p objs roots==partP p others otherRoots)
theorem alikeC{p:Prog}(hp:p.Small)(objs:List Th)(roots:List (Int×Int))(others:List Th)(otherRoots:List (Int×Int)):PCall Tryz.prog 33 [AV.prog p,AV.ths objs,AV.mvs roots,AV.ths others,AV.mvs otherRoots] (.tup [.b (alikeP p objs roots others otherRoots),.i (if(askedP p objs roots && askedP p others otherRoots) then 0 else 2)]):=by
 intro H;refine aC (n:=33) Tryz.func33 λB I w0=>?_;refine Z13 ?_;refine oP (POp.call .k (askedC hp objs roots)) ?_;refine Z5 ?_;refine OL.guardC rfl rfl rfl rfl rfl rfl (λhg=>POp.call (.mk' rfl rfl rfl rfl Yd) (askedC hp others otherRoots)) ?_;refine Z4 ?_;refine CW.cond rfl (λh0=>?_) (λh0=>?_)
 ·have ha:(askedP p objs roots && askedP p others otherRoots)=false:=by cases h1:askedP p objs roots <;> cases h2:askedP p others otherRoots <;> simp_all
  refine Z8 ?_;refine rR [.tmp 10,.tmp 11] (H) ?_;exact⟨by rw[alikeP,ha];rfl,rfl⟩
 ·have ha:askedP p objs roots=true/\askedP p others otherRoots=true:=by cases h1:askedP p objs roots <;> cases h2:askedP p others otherRoots <;> simp_all
  refine Z3 ?_;refine CW.dp mixed ?_;refine DP.anyC 0 7 33 rfl Ye rfl rfl Ye ?_;refine Z3 ?_;refine AD.popC rfl rfl rfl (POp.call .k (partedC (ask_ok ha.1))) ?_;refine Z5 ?_;refine oP (POp.call .k (partedC (ask_ok ha.2))) ?_;refine oP (POp.call .k (eqBytes _ _)) ?_;refine Z5 ?_;refine rR [.tmp 10,.tmp 11] (H) ?_;exact⟨by rw[alikeP,ha.1,ha.2];rfl,rfl⟩
end Go.Proofs.YtpgnjlngepfanaaGreat

namespace Go.Eng.Bd
open Go.Eng.Fc
open Go.Eng.Im (U8 numberR manyR)
variable{σ α β:Type}{l l0 l':List U8}{n:Nat}
abbrev Rd(σ α:Type):=σ->List U8->Option (α×σ×List U8)
def thenR(R:Rd σ α)(k:α->Rd σ β):Rd σ β:=λs l=>match R s l with | none=>none | some (a,s',l')=>k a s' l'
def doneR(a:α):Rd σ α:=λs l=>some (a,s,l)
def needR(b:Bool)(R:Rd σ α):Rd σ α:=λs l=>if b then R s l else none
def numR:Rd σ Int:=λs l=>match numberR l with | none=>none | some (n,l')=>some ((n:Int),s,l')
def manyRd:Rd σ Nat:=λs l=>match manyR l with | none=>none | some (n,l')=>some (n,s,l')
def znOf(n:Int):Int:=if n%2=1 then -(n / 2) - 1 else n / 2
def intR:Rd σ Int:=thenR numR λn=>doneR (znOf n)
def timesR{σ α:Type}(R:Rd σ α):Nat->Rd σ (List α)
 | 0,s,l=>some ([],s,l)
 | n+1,s,l=>match R s l with
  | none=>none
  | some (y,s1,l1)=>match timesR R n s1 l1 with
   | none=>none
   | some (ys,s2,l2)=>some (y::ys,s2,l2)
def listR(R:Rd σ α):Rd σ (List α):=thenR manyRd λn=>timesR R n
def initR:Rd σ (Int×Int):=thenR numR λa=>thenR intR λb=>doneR (a,b)
def slotsFrom(s:Int)(n:Nat):List Int:=(List.range n).map λ(k:Nat)=>s+(k:Int)
def clsR:Rd Int Cls:=thenR (listR numR) λps=>thenR numR λn=>needR (decide (n<=4)) λs l=>(thenR (listR initR) λis=>doneR ⟨ps,slotsFrom s n.toNat,is⟩) (s+n) l
def kidCnt(op:Int):Nat:=if op=5 then 1 else if op=6\/op=7 then 2 else 0
def opR(op:Int):Bool:=decide (1<=op) && decide (op<=7)
def factB(R:Rd Nat Fact)(op:Int):Rd Nat Fact:=
 if op=2 then thenR numR λa=>thenR (listR numR) λps=>thenR numR λc=>doneR (.mk op a ps c 0 [])
 else if op=3\/op=4 then thenR numR λa=>thenR (listR numR) λps=>thenR intR λn=>doneR (.mk op a ps 0 n [])
 else thenR (timesR R (kidCnt op)) λks=>doneR (.mk op 0 [] 0 0 ks)
def factR:Nat->Rd Nat Fact
 | 0,_,_=>none
 | f+1,0,_=>none
 | f+1,left+1,l=>(thenR numR λop=>needR (opR op) (factB (factR f) op)) left l
def mthR:Rd σ Mth:=thenR numR λk=>thenR numR λg=>λs l=>match factR 24 24 l with
 | none=>none
 | some (f,_,l1)=>(thenR numR λn=>doneR ⟨k,g,f,n⟩) s l1
def kidsN(gens:List Int)(op n:Int):Option Int:=
 if op=1\/op=2\/op=3\/op=6\/op=18 then some 0 else if op=4\/op=8\/op=17 then some 1 else if op=10 then some 3
 else if op=5 then (if n<gens.length/\gens.getD n.toNat default<=3 then some (gens.getD n.toNat default) else none) else some 2
def ndNR(op:Int):Rd σ Int:=if op=1 then intR else if nodeNum op then numR else doneR 0
def ndR(gens:List Int):Rd σ Nd:=thenR numR λop=>needR (decide (1<=op) && decide (op<=18)) (thenR (ndNR op) λn=>match kidsN gens op n with
 | none=>λ_ _=>none
 | some k=>thenR (timesR numR k.toNat) λks=>doneR ⟨op,n,ks⟩)
def progT(cs:List Cls)(s:Int):Rd Unit Prog:=thenR (listR numR) λgs=>thenR (listR mthR) λms=>thenR (listR (ndR gs)) λns=>thenR numR λm=>doneR ((⟨cs,s,gs,ms,ns,m⟩:Prog))
def progR:List U8->Option (Prog×List U8):=λl=>match listR clsR 0 l with
 | none=>none
 | some (cs,s,l1)=>(progT cs s () l1).map λq=>(q.1,q.2.2)
theorem progR_some{l l1:List U8}{cs:List Cls}{s:Int}(h:listR clsR 0 l=some (cs,s,l1)):progR l=(progT cs s () l1).map λq=>(q.1,q.2.2):=by rw[progR,h]
def valR:Rd σ (Int×Int):=thenR numR λk=>if k=1 then thenR intR λn=>doneR (k,n) else if k=3 then thenR numR λn=>doneR (k,n) else needR (k==2) (doneR (k,0))
def thR(p:Prog):Rd σ Th:=thenR numR λc=>needR (ownC p c) (thenR (timesR valR (hasP p c).length) λvs=>doneR ⟨c,vs⟩)
theorem times_snoc{R:Rd σ α}{s0:σ}{i:Nat}(hi:i<n){out:List α}{s:σ}{l:List U8}(h:timesR R n s0 l0=(timesR R (n - i) s l).map λp=>(out++p.1,p.2.1,p.2.2)):
  (R s l=none->timesR R n s0 l0=none)/\∀y s' l',R s l=some (y,s',l')->timesR R n s0 l0=(timesR R (n - (i+1)) s' l').map λp=>(out++[y]++p.1,p.2.1,p.2.2):=by
 rw[show n - i=n - (i+1)+1 by omega,timesR] at h;refine⟨λhn=>by rw[h,hn];rfl,λy s' l' hy=>?_⟩;rw[h,hy];rcases hq:timesR R (n - (i+1)) s' l' with _ | ⟨a,b,c⟩
 ·simp only[hq];rfl
 ·simp only[hq];simp
theorem times_end{R:Rd σ α}{s0:σ}{out:List α}{s:σ}(h:timesR R n s0 l0=(timesR R (n - n) s l).map λp=>(out++p.1,p.2.1,p.2.2)):timesR R n s0 l0=some (out,s,l):=by
 rw[h,Nat.sub_self,timesR];simp
theorem times_begin(R:Rd σ α)(n:Nat)(s:σ)(l:List U8):timesR R n s l=(timesR R (n - 0) s l).map λp=>([]++p.1,p.2.1,p.2.2):=by
 rw[Nat.sub_zero];cases timesR R n s l <;> simp
theorem thenR_some{R:Rd σ α}{k:α->Rd σ β}{s s':σ}{a:α}(h:R s l=some (a,s',l')):thenR R k s l=k a s' l':=by rw[thenR,h]
theorem thenR_none{R:Rd σ α}{k:α->Rd σ β}{s:σ}(h:R s l=none):thenR R k s l=none:=by rw[thenR,h]
theorem numR_some{s:σ}(h:numberR l=some (n,l')):numR s l=some ((n:Int),s,l'):=by rw[numR,h]
theorem numR_none{s:σ}(h:numberR l=none):numR s l=none:=by rw[numR,h]
theorem needR_yes{b:Bool}{R:Rd σ α}{s:σ}(h:b=true):needR b R s l=R s l:=by rw[needR,if_pos h]
theorem needR_no{b:Bool}{R:Rd σ α}{s:σ}(h:b=false):needR b R s l=none:=by rw[needR,h];rfl
end Go.Eng.Bd

namespace Go.Proofs.YtpgnjlngepfanaaGreat
open Go.Eng
open Go.Eng.Fc
open Go.Eng.Bd
open Go.Eng.Im (U8 u8 u8s sumR numberR manyR numR_lt)
variable{σ α:Type}{rb n:Nat}{l r:List U8}{g:Fn}{gs gc:List AV}
abbrev rdO(rb:Nat)(S:σ->List Ent)(Hx:List Ent)(enc:α->AV)(o:Option (α×σ×List U8)):Option (AV×List Ent):=o.map λp=>(enc p.1,rdr rb p.2.2::(S p.2.1++Hx))
def RdOk(P:Program)(rb:Nat)(S:σ->List Ent)(g:AV)(R:Rd σ α)(enc:α->AV)(I:σ->List U8->Prop):Prop:=∀B Hx s l,I s l->
 (∀y s' l',R s l=some (y,s',l')->I s' l'/\VCall B P g [] (rdr rb l::(S s++Hx)) (λu H'=>u=enc y/\H'=rdr rb l'::(S s'++Hx)) (λ_ _=>False))/\
 (R s l=none->VCall B P g [] (rdr rb l::(S s++Hx)) (λ_ _=>False) (λu H'=>u=wrongA/\H'=Hx))
theorem RdOk.of{P:Program}{S:σ->List Ent}{fid:FuncId}{fs cs:List AV}{R:Rd σ α}{enc:α->AV}{I:σ->List U8->Prop}(hI:∀s l y s' l',I s l->R s l=some (y,s',l')->I s' l')(h:∀s l Hx,I s l->RCall P fid (fs++[]++cs) (rdr rb l::(S s++Hx)) (rdO rb S Hx enc (R s l)) Hx wrongA):RdOk P rb S (.fn (.func fid) fs cs) R enc I:=λB Hx s l hs=>by
 have h1:=h s l Hx hs;refine⟨λy s' l' hy=>⟨hI _ _ _ _ _ hs hy,?_⟩,λhn=>?_⟩
 ·rw[hy] at h1;exact VCall.fn h1.ok
 ·rw[hn] at h1;exact VCall.fn (ACall.weak h1 (λ_ _ e=>by cases e) (λ_ _ ⟨_,e1,e2⟩=>⟨e1,e2⟩))
theorem rd_num(h:numberR l=some (n,r)):n<=40000000000:=by
 have:=numR_lt h;omega
theorem numC(s:σ)(l:List U8)(rb:Nat)(Hx:List Ent):RCall Tryz.prog 134 [.p rb 0] (rdr rb l::Hx) ((numR s l).map λp=>(.i p.1,rdr rb p.2.2::Hx)) Hx wrongA:=by
 have h:=q134 l rb Hx;rw[numO] at h;unfold numR;rcases hq:numberR l with _ | ⟨n,r⟩ <;> rw[hq] at h <;> exact h
theorem bit1(hn:n<=40000000000):bitI .and .i64 (n:Int) 1=some ((n%2:Nat):Int):=by
 show some (IntKind.i64.wrap _)=_;rw[BitVec.toNat_and,Im.bv64i n Ya,show (BitVec.ofInt IntKind.i64.bits 1).toNat=2^1 - 1 by decide,Nat.and_two_pow_sub_one_eq_mod,wrap64 Ya]
theorem shr1(n:Nat):shI .shr .i64 (n:Int) 1=some ((n / 2:Nat):Int):=by
 show some ((n:Int).fdiv (2^1))=_;rw[Int.fdiv_eq_ediv_of_nonneg _ YO];rfl
theorem intC(s:σ)(l:List U8)(rb:Nat)(Hx:List Ent):RCall Tryz.prog 137 [.p rb 0] (rdr rb l::Hx) ((intR s l).map λp=>(.i p.1,rdr rb p.2.2::Hx)) Hx wrongA:=by
 refine aC (n:=14) Tryz.func137 λB I w0=>?_;refine Z8 ?_;rcases hq:numberR l with _ | ⟨n,r⟩
 ·refine OL.rcallN rfl rfl (.mk' rfl rfl rfl rfl rfl) (q134n hq _ _) wrong_c ?_;exact outP (P:=Tryz.prog) (fn:=Tryz.f137) wrong_c (.refl _) ⟨by rw[intR,thenR_none (numR_none hq)];rfl,rfl,rfl⟩
 ·have hn:=rd_num hq;have hR:intR s l=some (znOf n,s,r):=by rw[intR,thenR_some (numR_some hq)];rfl
  refine OL.rcallS rfl rfl rfl (.mk' rfl rfl rfl rfl rfl) (q134s hq _ _) ?_;refine Z7 ?_;refine oP (POp.bits rfl rfl rfl rfl rfl (bit1 hn)) ?_;refine Z3 ?_;refine cd (λh0=>?_) λh0=>?_
  ·refine Z3 ?_;refine oP (POp.shift rfl rfl rfl rfl rfl YO (shr1 n)) ?_;refine oP (POp.unX rfl rfl rfl Ya rfl) ?_;refine Z5 ?_;refine r1 2 (rdr rb r::Hx) ?_;exact by rw[hR,znOf,if_pos Ya];rfl
  ·refine Z5 ?_;refine oP (POp.shift rfl rfl rfl rfl rfl YO (shr1 n)) ?_;refine Z4 ?_;refine r1 2 (rdr rb r::Hx) ?_;exact by rw[hR,znOf,if_neg Ya];rfl
theorem doneC(rb:Nat)(Hx:List Ent):RCall Tryz.prog 70 [.p rb 0] (rdr rb l::Hx) (if l= [] then some (.tup [],Hx) else none) Hx wrongA:=by
 refine aC (n:=9) Tryz.func70 λB I w0=>?_;refine Z7 ?_;by_cases hl:l= []
 ·subst hl;refine OL.rcallS rfl rfl rfl (.mk' rfl rfl rfl rfl rfl) (q71t YaI _) ?_;refine Z1 ?_;refine nR [] (Hx) ?_;exact if_pos rfl
 ·have hl0:0<l.length:=List.length_pos_iff.2 hl;refine OL.rcallN rfl rfl (.mk' rfl rfl rfl rfl rfl) (q71f Yw _) wrong_c ?_;exact outP (P:=Tryz.prog) (fn:=Tryz.f70) wrong_c (.cons _ (.refl _)) ⟨if_neg hl,rfl,rfl⟩
theorem own_in(o r:Ent)(A B:List Ent):(o::r::(A++B)).Perm (r::(A++(o::B))):=(List.Perm.swap r o _).trans (List.Perm.cons _ List.perm_middle.symm)
theorem rd_many(h:manyR l=some (n,r)):n<=40000000000:=by
 unfold manyR at h;rcases hq:numberR l with _ | ⟨a,b⟩ <;> rw[hq] at h
 ·cases h
 ·simp only at h;split at h
  ·cases h;exact rd_num hq
  ·cases h
theorem listR_none{R:Rd σ α}{s:σ}(h:manyR l=none):listR R s l=none:=by rw[listR,thenR,manyRd,h]
theorem listR_some{R:Rd σ α}{s:σ}(h:manyR l=some (n,r)):listR R s l=timesR R n s r:=by rw[listR,thenR,manyRd,h]
theorem rows_snoc(row:α->List AV)(out:List α)(y:α)(k:Nat):AV.sl k ((out.map row)++[row y])=AV.sl k ((out++[y]).map row):=by rw[List.map_append];rfl
theorem listI{S:σ->List Ent}{R:Rd σ Int}{Iv:σ->List U8->Prop}(hg:RdOk Tryz.prog rb S (.fn g gs gc) R (λn=>.i n) Iv)(s:σ)(l:List U8)(hs:∀n l1,manyR l=some (n,l1)->Iv s l1)(Hx:List Ent):RCall Tryz.prog 133 [.p rb 0,.fn g gs gc] (rdr rb l::(S s++Hx)) (rdO rb S Hx (λys=>.sl 1 (ys.map (λn=>[AV.i n]))) (listR R s l)) Hx wrongA:=by
 refine aC (n:=17) Tryz.func133 λB I w0=>?_;refine Z14 ?_;rcases hq:manyR l with _ | ⟨n,l1⟩
 ·refine OL.rcallN rfl rfl (.mk' rfl rfl rfl rfl rfl) (q164n hq rb (S s++Hx)) wrong_c ?_;exact outP (P:=Tryz.prog) (fn:=Tryz.f133) wrong_c (List.sublist_append_right _ _) ⟨YaX,rfl,rfl⟩
 ·rw[listR_some hq];have hn:=rd_many hq;refine OL.rcallS rfl rfl rfl (.mk' rfl rfl rfl rfl rfl) (q164s hq rb (S s++Hx)) ?_;refine Z4 ?_;refine CW.ownNil 5 3 1 rfl ?_;refine lj (λm st=>∃(i:Nat) (out:List Int) (s':σ) (l':List U8) (v:Value),st=⟨[(8,.i i),(7,.i n),(5,.as (.sl 1 (out.map (λn=>[AV.i n]))) v),(1,.fn g gs gc)],.own 3 1 v::rdr rb l'::(S s'++Hx)⟩/\m=n - i/\i<=n/\Iv s' l'/\out.length=i/\timesR R n s l1=(timesR R (n - i) s' l').map λp=>(out++p.1,p.2.1,p.2.2)) (⟨0,[],s,l1,_,rfl,rfl,Ya,hs n l1 hq,rfl,times_begin R n s l1⟩) ?_;rintro m _ ⟨i,out,s',l',v,rfl,rfl,hi,hI,ho,ht⟩;refine Z6 ?_;refine cd (λh0=>?_) λh0=>?_
  ·have hil:i<n:=by omega
   obtain⟨ht1,ht2⟩:=times_snoc hil ht;refine Z7 ?_;refine OL.perm (own_in _ _ _ _) ?_;rcases hR:R s' l' with _ | ⟨y,s2,l2⟩
   ·refine OL.vcall rfl rfl rfl rfl rfl rfl rfl (AVleL.refl _) ((hg B (.own 3 1 v::Hx) s' l' hI).2 hR) (λ_ _ h=>h.elim) ?_;rintro y H2 ⟨rfl,rfl⟩ a w st I v hv;rw[wrong_c.is _ _ _ hv];exact outP (P:=Tryz.prog) (fn:=Tryz.f133) wrong_c (List.sublist_cons_self _ _) ⟨Ybf,rfl,rfl⟩ a w st
   ·have ht3:=ht2 y s2 l2 hR;obtain⟨hI2,hV⟩:=(hg B (.own 3 1 v::Hx) s' l' hI).1 y s2 l2 hR;refine OL.vcallC rfl rfl rfl rfl rfl rfl rfl rfl (AVleL.refl _) hV ?_;rintro _ _ ⟨rfl,rfl⟩;refine OL.perm (own_in _ _ _ _).symm ?_;refine OL.popC (x:=.sl 1 [(λn=>[AV.i n]) y]) rfl rfl rfl (POp.row rfl rfl Yh rfl rfl rfl rfl rfl rfl) ?_;refine OL.appendC rfl rfl rfl rfl rfl rfl rfl rfl (AVle.refl _) (rfl) (λv=>by repeat (first | exact Upd.head _ _ _ | apply Upd.tail)) Yo Yo (λv14=>?_);refine Z8 ?_;exact ag (⟨i+1,out++[y],s2,l2,v14,Yba,rfl,hil,hI2,YaB,ht3⟩)
  ·obtain rfl:i=n:=by omega
   have he:=times_end ht;refine Z12 ?_;refine Done.retR (rs:=[.tmp 4]) (H':=rdr rb l'::(S s'++Hx)) rfl (.tmp rfl (.nil)) (.cons (AVle.asL _ _) .nil) Yc ?_;exact by rw[he];rfl
theorem listN{S:σ->List Ent}{R:Rd σ (Int×Int)}{Iv:σ->List U8->Prop}(hg:RdOk Tryz.prog rb S (.fn g gs gc) R (λx=>.agg (initA x)) Iv)(s:σ)(l:List U8)(hs:∀n l1,manyR l=some (n,l1)->Iv s l1)(Hx:List Ent):RCall Tryz.prog 135 [.p rb 0,.fn g gs gc] (rdr rb l::(S s++Hx)) (rdO rb S Hx (λys=>.sl 2 (ys.map (initA))) (listR R s l)) Hx wrongA:=by
 refine aC (n:=17) Tryz.func135 λB I w0=>?_;refine Z14 ?_;rcases hq:manyR l with _ | ⟨n,l1⟩
 ·refine OL.rcallN rfl rfl (.mk' rfl rfl rfl rfl rfl) (q164n hq rb (S s++Hx)) wrong_c ?_;exact outP (P:=Tryz.prog) (fn:=Tryz.f135) wrong_c (List.sublist_append_right _ _) ⟨YaX,rfl,rfl⟩
 ·rw[listR_some hq];have hn:=rd_many hq;refine OL.rcallS rfl rfl rfl (.mk' rfl rfl rfl rfl rfl) (q164s hq rb (S s++Hx)) ?_;refine Z4 ?_;refine CW.ownNil 5 143 2 rfl ?_;refine lj (λm st=>∃(i:Nat) (out:List (Int×Int)) (s':σ) (l':List U8) (v:Value),st=⟨[(8,.i i),(7,.i n),(5,.as (.sl 2 (out.map (initA))) v),(1,.fn g gs gc)],.own 143 2 v::rdr rb l'::(S s'++Hx)⟩/\m=n - i/\i<=n/\Iv s' l'/\out.length=i/\timesR R n s l1=(timesR R (n - i) s' l').map λp=>(out++p.1,p.2.1,p.2.2)) (⟨0,[],s,l1,_,rfl,rfl,Ya,hs n l1 hq,rfl,times_begin R n s l1⟩) ?_;rintro m _ ⟨i,out,s',l',v,rfl,rfl,hi,hI,ho,ht⟩;refine Z6 ?_;refine cd (λh0=>?_) λh0=>?_
  ·have hil:i<n:=by omega
   obtain⟨ht1,ht2⟩:=times_snoc hil ht;refine Z7 ?_;refine OL.perm (own_in _ _ _ _) ?_;rcases hR:R s' l' with _ | ⟨y,s2,l2⟩
   ·refine OL.vcall rfl rfl rfl rfl rfl rfl rfl (AVleL.refl _) ((hg B (.own 143 2 v::Hx) s' l' hI).2 hR) (λ_ _ h=>h.elim) ?_;rintro y H2 ⟨rfl,rfl⟩ a w st I v hv;rw[wrong_c.is _ _ _ hv];exact outP (P:=Tryz.prog) (fn:=Tryz.f135) wrong_c (List.sublist_cons_self _ _) ⟨Ybf,rfl,rfl⟩ a w st
   ·have ht3:=ht2 y s2 l2 hR;obtain⟨hI2,hV⟩:=(hg B (.own 143 2 v::Hx) s' l' hI).1 y s2 l2 hR;refine OL.vcallC rfl rfl rfl rfl rfl rfl rfl rfl (AVleL.refl _) hV ?_;rintro _ _ ⟨rfl,rfl⟩;refine OL.perm (own_in _ _ _ _).symm ?_;refine OL.popC (x:=.sl 2 [(initA) y]) rfl rfl rfl (POp.row rfl rfl Yh rfl rfl rfl rfl rfl rfl) ?_;refine OL.appendC rfl rfl rfl rfl rfl rfl rfl rfl (AVle.refl _) (rfl) (λv=>by repeat (first | exact Upd.head _ _ _ | apply Upd.tail)) Yo Yo (λv14=>?_);refine Z8 ?_;exact ag (⟨i+1,out++[y],s2,l2,v14,Yba,rfl,hil,hI2,YaB,ht3⟩)
  ·obtain rfl:i=n:=by omega
   have he:=times_end ht;refine Z12 ?_;refine Done.retR (rs:=[.tmp 4]) (H':=rdr rb l'::(S s'++Hx)) rfl (.tmp rfl (.nil)) (.cons (AVle.asL _ _) .nil) Yc ?_;exact by rw[he];rfl
theorem listC{S:σ->List Ent}{R:Rd σ Cls}{Iv:σ->List U8->Prop}(hg:RdOk Tryz.prog rb S (.fn g gs gc) R (λx=>.agg (clsA x)) Iv)(s:σ)(l:List U8)(hs:∀n l1,manyR l=some (n,l1)->Iv s l1)(Hx:List Ent):RCall Tryz.prog 131 [.p rb 0,.fn g gs gc] (rdr rb l::(S s++Hx)) (rdO rb S Hx (λys=>.sl 3 (ys.map (clsA))) (listR R s l)) Hx wrongA:=by
 refine aC (n:=17) Tryz.func131 λB I w0=>?_;refine Z14 ?_;rcases hq:manyR l with _ | ⟨n,l1⟩
 ·refine OL.rcallN rfl rfl (.mk' rfl rfl rfl rfl rfl) (q164n hq rb (S s++Hx)) wrong_c ?_;exact outP (P:=Tryz.prog) (fn:=Tryz.f131) wrong_c (List.sublist_append_right _ _) ⟨YaX,rfl,rfl⟩
 ·rw[listR_some hq];have hn:=rd_many hq;refine OL.rcallS rfl rfl rfl (.mk' rfl rfl rfl rfl rfl) (q164s hq rb (S s++Hx)) ?_;refine Z4 ?_;refine CW.ownNil 5 79 3 rfl ?_;refine lj (λm st=>∃(i:Nat) (out:List Cls) (s':σ) (l':List U8) (v:Value),st=⟨[(8,.i i),(7,.i n),(5,.as (.sl 3 (out.map (clsA))) v),(1,.fn g gs gc)],.own 79 3 v::rdr rb l'::(S s'++Hx)⟩/\m=n - i/\i<=n/\Iv s' l'/\out.length=i/\timesR R n s l1=(timesR R (n - i) s' l').map λp=>(out++p.1,p.2.1,p.2.2)) (⟨0,[],s,l1,_,rfl,rfl,Ya,hs n l1 hq,rfl,times_begin R n s l1⟩) ?_;rintro m _ ⟨i,out,s',l',v,rfl,rfl,hi,hI,ho,ht⟩;refine Z6 ?_;refine cd (λh0=>?_) λh0=>?_
  ·have hil:i<n:=by omega
   obtain⟨ht1,ht2⟩:=times_snoc hil ht;refine Z7 ?_;refine OL.perm (own_in _ _ _ _) ?_;rcases hR:R s' l' with _ | ⟨y,s2,l2⟩
   ·refine OL.vcall rfl rfl rfl rfl rfl rfl rfl (AVleL.refl _) ((hg B (.own 79 3 v::Hx) s' l' hI).2 hR) (λ_ _ h=>h.elim) ?_;rintro y H2 ⟨rfl,rfl⟩ a w st I v hv;rw[wrong_c.is _ _ _ hv];exact outP (P:=Tryz.prog) (fn:=Tryz.f131) wrong_c (List.sublist_cons_self _ _) ⟨Ybf,rfl,rfl⟩ a w st
   ·have ht3:=ht2 y s2 l2 hR;obtain⟨hI2,hV⟩:=(hg B (.own 79 3 v::Hx) s' l' hI).1 y s2 l2 hR;refine OL.vcallC rfl rfl rfl rfl rfl rfl rfl rfl (AVleL.refl _) hV ?_;rintro _ _ ⟨rfl,rfl⟩;refine OL.perm (own_in _ _ _ _).symm ?_;refine OL.popC (x:=.sl 3 [(clsA) y]) rfl rfl rfl (POp.row rfl rfl Yh rfl rfl rfl rfl rfl rfl) ?_;refine OL.appendC rfl rfl rfl rfl rfl rfl rfl rfl (AVle.refl _) (rfl) (λv=>by repeat (first | exact Upd.head _ _ _ | apply Upd.tail)) Yo Yo (λv14=>?_);refine Z8 ?_;exact ag (⟨i+1,out++[y],s2,l2,v14,Yba,rfl,hil,hI2,YaB,ht3⟩)
  ·obtain rfl:i=n:=by omega
   have he:=times_end ht;refine Z12 ?_;refine Done.retR (rs:=[.tmp 4]) (H':=rdr rb l'::(S s'++Hx)) rfl (.tmp rfl (.nil)) (.cons (AVle.asL _ _) .nil) Yc ?_;exact by rw[he];rfl
theorem listM{S:σ->List Ent}{R:Rd σ Mth}{Iv:σ->List U8->Prop}(hg:RdOk Tryz.prog rb S (.fn g gs gc) R (λx=>.agg (mthA x)) Iv)(s:σ)(l:List U8)(hs:∀n l1,manyR l=some (n,l1)->Iv s l1)(Hx:List Ent):RCall Tryz.prog 138 [.p rb 0,.fn g gs gc] (rdr rb l::(S s++Hx)) (rdO rb S Hx (λys=>.sl 9 (ys.map (mthA))) (listR R s l)) Hx wrongA:=by
 refine aC (n:=17) Tryz.func138 λB I w0=>?_;refine Z14 ?_;rcases hq:manyR l with _ | ⟨n,l1⟩
 ·refine OL.rcallN rfl rfl (.mk' rfl rfl rfl rfl rfl) (q164n hq rb (S s++Hx)) wrong_c ?_;exact outP (P:=Tryz.prog) (fn:=Tryz.f138) wrong_c (List.sublist_append_right _ _) ⟨YaX,rfl,rfl⟩
 ·rw[listR_some hq];have hn:=rd_many hq;refine OL.rcallS rfl rfl rfl (.mk' rfl rfl rfl rfl rfl) (q164s hq rb (S s++Hx)) ?_;refine Z4 ?_;refine CW.ownNil 5 168 9 rfl ?_;refine lj (λm st=>∃(i:Nat) (out:List Mth) (s':σ) (l':List U8) (v:Value),st=⟨[(8,.i i),(7,.i n),(5,.as (.sl 9 (out.map (mthA))) v),(1,.fn g gs gc)],.own 168 9 v::rdr rb l'::(S s'++Hx)⟩/\m=n - i/\i<=n/\Iv s' l'/\out.length=i/\timesR R n s l1=(timesR R (n - i) s' l').map λp=>(out++p.1,p.2.1,p.2.2)) (⟨0,[],s,l1,_,rfl,rfl,Ya,hs n l1 hq,rfl,times_begin R n s l1⟩) ?_;rintro m _ ⟨i,out,s',l',v,rfl,rfl,hi,hI,ho,ht⟩;refine Z6 ?_;refine cd (λh0=>?_) λh0=>?_
  ·have hil:i<n:=by omega
   obtain⟨ht1,ht2⟩:=times_snoc hil ht;refine Z7 ?_;refine OL.perm (own_in _ _ _ _) ?_;rcases hR:R s' l' with _ | ⟨y,s2,l2⟩
   ·refine OL.vcall rfl rfl rfl rfl rfl rfl rfl (AVleL.refl _) ((hg B (.own 168 9 v::Hx) s' l' hI).2 hR) (λ_ _ h=>h.elim) ?_;rintro y H2 ⟨rfl,rfl⟩ a w st I v hv;rw[wrong_c.is _ _ _ hv];exact outP (P:=Tryz.prog) (fn:=Tryz.f138) wrong_c (List.sublist_cons_self _ _) ⟨Ybf,rfl,rfl⟩ a w st
   ·have ht3:=ht2 y s2 l2 hR;obtain⟨hI2,hV⟩:=(hg B (.own 168 9 v::Hx) s' l' hI).1 y s2 l2 hR;refine OL.vcallC rfl rfl rfl rfl rfl rfl rfl rfl (AVleL.refl _) hV ?_;rintro _ _ ⟨rfl,rfl⟩;refine OL.perm (own_in _ _ _ _).symm ?_;refine OL.popC (x:=.sl 9 [(mthA) y]) rfl rfl rfl (POp.row rfl rfl Yh rfl rfl rfl rfl rfl rfl) ?_;refine OL.appendC rfl rfl rfl rfl rfl rfl rfl rfl (AVle.refl _) (rfl) (λv=>by repeat (first | exact Upd.head _ _ _ | apply Upd.tail)) Yo Yo (λv14=>?_);refine Z8 ?_;exact ag (⟨i+1,out++[y],s2,l2,v14,Yba,rfl,hil,hI2,YaB,ht3⟩)
  ·obtain rfl:i=n:=by omega
   have he:=times_end ht;refine Z12 ?_;refine Done.retR (rs:=[.tmp 4]) (H':=rdr rb l'::(S s'++Hx)) rfl (.tmp rfl (.nil)) (.cons (AVle.asL _ _) .nil) Yc ?_;exact by rw[he];rfl
theorem listD{S:σ->List Ent}{R:Rd σ Nd}{Iv:σ->List U8->Prop}(hg:RdOk Tryz.prog rb S (.fn g gs gc) R (λx=>.agg (ndA x)) Iv)(s:σ)(l:List U8)(hs:∀n l1,manyR l=some (n,l1)->Iv s l1)(Hx:List Ent):RCall Tryz.prog 140 [.p rb 0,.fn g gs gc] (rdr rb l::(S s++Hx)) (rdO rb S Hx (λys=>.sl 3 (ys.map (ndA))) (listR R s l)) Hx wrongA:=by
 refine aC (n:=17) Tryz.func140 λB I w0=>?_;refine Z14 ?_;rcases hq:manyR l with _ | ⟨n,l1⟩
 ·refine OL.rcallN rfl rfl (.mk' rfl rfl rfl rfl rfl) (q164n hq rb (S s++Hx)) wrong_c ?_;exact outP (P:=Tryz.prog) (fn:=Tryz.f140) wrong_c (List.sublist_append_right _ _) ⟨YaX,rfl,rfl⟩
 ·rw[listR_some hq];have hn:=rd_many hq;refine OL.rcallS rfl rfl rfl (.mk' rfl rfl rfl rfl rfl) (q164s hq rb (S s++Hx)) ?_;refine Z4 ?_;refine CW.ownNil 5 146 3 rfl ?_;refine lj (λm st=>∃(i:Nat) (out:List Nd) (s':σ) (l':List U8) (v:Value),st=⟨[(8,.i i),(7,.i n),(5,.as (.sl 3 (out.map (ndA))) v),(1,.fn g gs gc)],.own 146 3 v::rdr rb l'::(S s'++Hx)⟩/\m=n - i/\i<=n/\Iv s' l'/\out.length=i/\timesR R n s l1=(timesR R (n - i) s' l').map λp=>(out++p.1,p.2.1,p.2.2)) (⟨0,[],s,l1,_,rfl,rfl,Ya,hs n l1 hq,rfl,times_begin R n s l1⟩) ?_;rintro m _ ⟨i,out,s',l',v,rfl,rfl,hi,hI,ho,ht⟩;refine Z6 ?_;refine cd (λh0=>?_) λh0=>?_
  ·have hil:i<n:=by omega
   obtain⟨ht1,ht2⟩:=times_snoc hil ht;refine Z7 ?_;refine OL.perm (own_in _ _ _ _) ?_;rcases hR:R s' l' with _ | ⟨y,s2,l2⟩
   ·refine OL.vcall rfl rfl rfl rfl rfl rfl rfl (AVleL.refl _) ((hg B (.own 146 3 v::Hx) s' l' hI).2 hR) (λ_ _ h=>h.elim) ?_;rintro y H2 ⟨rfl,rfl⟩ a w st I v hv;rw[wrong_c.is _ _ _ hv];exact outP (P:=Tryz.prog) (fn:=Tryz.f140) wrong_c (List.sublist_cons_self _ _) ⟨Ybf,rfl,rfl⟩ a w st
   ·have ht3:=ht2 y s2 l2 hR;obtain⟨hI2,hV⟩:=(hg B (.own 146 3 v::Hx) s' l' hI).1 y s2 l2 hR;refine OL.vcallC rfl rfl rfl rfl rfl rfl rfl rfl (AVleL.refl _) hV ?_;rintro _ _ ⟨rfl,rfl⟩;refine OL.perm (own_in _ _ _ _).symm ?_;refine OL.popC (x:=.sl 3 [(ndA) y]) rfl rfl rfl (POp.row rfl rfl Yh rfl rfl rfl rfl rfl rfl) ?_;refine OL.appendC rfl rfl rfl rfl rfl rfl rfl rfl (AVle.refl _) (rfl) (λv=>by repeat (first | exact Upd.head _ _ _ | apply Upd.tail)) Yo Yo (λv14=>?_);refine Z8 ?_;exact ag (⟨i+1,out++[y],s2,l2,v14,Yba,rfl,hil,hI2,YaB,ht3⟩)
  ·obtain rfl:i=n:=by omega
   have he:=times_end ht;refine Z12 ?_;refine Done.retR (rs:=[.tmp 4]) (H':=rdr rb l'::(S s'++Hx)) rfl (.tmp rfl (.nil)) (.cons (AVle.asL _ _) .nil) Yc ?_;exact by rw[he];rfl
theorem listT{S:σ->List Ent}{R:Rd σ Th}{Iv:σ->List U8->Prop}(hg:RdOk Tryz.prog rb S (.fn g gs gc) R (λx=>.agg (thA x)) Iv)(s:σ)(l:List U8)(hs:∀n l1,manyR l=some (n,l1)->Iv s l1)(Hx:List Ent):RCall Tryz.prog 145 [.p rb 0,.fn g gs gc] (rdr rb l::(S s++Hx)) (rdO rb S Hx (λys=>.sl 2 (ys.map (thA))) (listR R s l)) Hx wrongA:=by
 refine aC (n:=17) Tryz.func145 λB I w0=>?_;refine Z14 ?_;rcases hq:manyR l with _ | ⟨n,l1⟩
 ·refine OL.rcallN rfl rfl (.mk' rfl rfl rfl rfl rfl) (q164n hq rb (S s++Hx)) wrong_c ?_;exact outP (P:=Tryz.prog) (fn:=Tryz.f145) wrong_c (List.sublist_append_right _ _) ⟨YaX,rfl,rfl⟩
 ·rw[listR_some hq];have hn:=rd_many hq;refine OL.rcallS rfl rfl rfl (.mk' rfl rfl rfl rfl rfl) (q164s hq rb (S s++Hx)) ?_;refine Z4 ?_;refine CW.ownNil 5 65 2 rfl ?_;refine lj (λm st=>∃(i:Nat) (out:List Th) (s':σ) (l':List U8) (v:Value),st=⟨[(8,.i i),(7,.i n),(5,.as (.sl 2 (out.map (thA))) v),(1,.fn g gs gc)],.own 65 2 v::rdr rb l'::(S s'++Hx)⟩/\m=n - i/\i<=n/\Iv s' l'/\out.length=i/\timesR R n s l1=(timesR R (n - i) s' l').map λp=>(out++p.1,p.2.1,p.2.2)) (⟨0,[],s,l1,_,rfl,rfl,Ya,hs n l1 hq,rfl,times_begin R n s l1⟩) ?_;rintro m _ ⟨i,out,s',l',v,rfl,rfl,hi,hI,ho,ht⟩;refine Z6 ?_;refine cd (λh0=>?_) λh0=>?_
  ·have hil:i<n:=by omega
   obtain⟨ht1,ht2⟩:=times_snoc hil ht;refine Z7 ?_;refine OL.perm (own_in _ _ _ _) ?_;rcases hR:R s' l' with _ | ⟨y,s2,l2⟩
   ·refine OL.vcall rfl rfl rfl rfl rfl rfl rfl (AVleL.refl _) ((hg B (.own 65 2 v::Hx) s' l' hI).2 hR) (λ_ _ h=>h.elim) ?_;rintro y H2 ⟨rfl,rfl⟩ a w st I v hv;rw[wrong_c.is _ _ _ hv];exact outP (P:=Tryz.prog) (fn:=Tryz.f145) wrong_c (List.sublist_cons_self _ _) ⟨Ybf,rfl,rfl⟩ a w st
   ·have ht3:=ht2 y s2 l2 hR;obtain⟨hI2,hV⟩:=(hg B (.own 65 2 v::Hx) s' l' hI).1 y s2 l2 hR;refine OL.vcallC rfl rfl rfl rfl rfl rfl rfl rfl (AVleL.refl _) hV ?_;rintro _ _ ⟨rfl,rfl⟩;refine OL.perm (own_in _ _ _ _).symm ?_;refine OL.popC (x:=.sl 2 [(thA) y]) rfl rfl rfl (POp.row rfl rfl Yh rfl rfl rfl rfl rfl rfl) ?_;refine OL.appendC rfl rfl rfl rfl rfl rfl rfl rfl (AVle.refl _) (rfl) (λv=>by repeat (first | exact Upd.head _ _ _ | apply Upd.tail)) Yo Yo (λv14=>?_);refine Z8 ?_;exact ag (⟨i+1,out++[y],s2,l2,v14,Yba,rfl,hil,hI2,YaB,ht3⟩)
  ·obtain rfl:i=n:=by omega
   have he:=times_end ht;refine Z12 ?_;refine Done.retR (rs:=[.tmp 4]) (H':=rdr rb l'::(S s'++Hx)) rfl (.tmp rfl (.nil)) (.cons (AVle.asL _ _) .nil) Yc ?_;exact by rw[he];rfl
theorem listV{S:σ->List Ent}{R:Rd σ (Int×Int)}{Iv:σ->List U8->Prop}(hg:RdOk Tryz.prog rb S (.fn g gs gc) R (λx=>AV.mv x) Iv)(s:σ)(l:List U8)(hs:∀n l1,manyR l=some (n,l1)->Iv s l1)(Hx:List Ent):RCall Tryz.prog 90 [.p rb 0,.fn g gs gc] (rdr rb l::(S s++Hx)) (rdO rb S Hx (λys=>.sl 2 (ys.map (initA))) (listR R s l)) Hx wrongA:=by
 refine aC (n:=17) Tryz.func90 λB I w0=>?_;refine Z14 ?_;rcases hq:manyR l with _ | ⟨n,l1⟩
 ·refine OL.rcallN rfl rfl (.mk' rfl rfl rfl rfl rfl) (q164n hq rb (S s++Hx)) wrong_c ?_;exact outP (P:=Tryz.prog) (fn:=Tryz.f90) wrong_c (List.sublist_append_right _ _) ⟨YaX,rfl,rfl⟩
 ·rw[listR_some hq];have hn:=rd_many hq;refine OL.rcallS rfl rfl rfl (.mk' rfl rfl rfl rfl rfl) (q164s hq rb (S s++Hx)) ?_;refine Z4 ?_;refine CW.ownNil 5 60 2 rfl ?_;refine lj (λm st=>∃(i:Nat) (out:List (Int×Int)) (s':σ) (l':List U8) (v:Value),st=⟨[(8,.i i),(7,.i n),(5,.as (.sl 2 (out.map (initA))) v),(1,.fn g gs gc)],.own 60 2 v::rdr rb l'::(S s'++Hx)⟩/\m=n - i/\i<=n/\Iv s' l'/\out.length=i/\timesR R n s l1=(timesR R (n - i) s' l').map λp=>(out++p.1,p.2.1,p.2.2)) (⟨0,[],s,l1,_,rfl,rfl,Ya,hs n l1 hq,rfl,times_begin R n s l1⟩) ?_;rintro m _ ⟨i,out,s',l',v,rfl,rfl,hi,hI,ho,ht⟩;refine Z6 ?_;refine cd (λh0=>?_) λh0=>?_
  ·have hil:i<n:=by omega
   obtain⟨ht1,ht2⟩:=times_snoc hil ht;refine Z7 ?_;refine OL.perm (own_in _ _ _ _) ?_;rcases hR:R s' l' with _ | ⟨y,s2,l2⟩
   ·refine OL.vcall rfl rfl rfl rfl rfl rfl rfl (AVleL.refl _) ((hg B (.own 60 2 v::Hx) s' l' hI).2 hR) (λ_ _ h=>h.elim) ?_;rintro y H2 ⟨rfl,rfl⟩ a w st I v hv;rw[wrong_c.is _ _ _ hv];exact outP (P:=Tryz.prog) (fn:=Tryz.f90) wrong_c (List.sublist_cons_self _ _) ⟨Ybf,rfl,rfl⟩ a w st
   ·have ht3:=ht2 y s2 l2 hR;obtain⟨hI2,hV⟩:=(hg B (.own 60 2 v::Hx) s' l' hI).1 y s2 l2 hR;refine OL.vcallC rfl rfl rfl rfl rfl rfl rfl rfl (AVleL.refl _) hV ?_;rintro _ _ ⟨rfl,rfl⟩;refine OL.perm (own_in _ _ _ _).symm ?_;refine OL.popC (x:=.sl 2 [(initA) y]) rfl rfl rfl (POp.row rfl rfl Yh rfl rfl rfl rfl rfl rfl) ?_;refine OL.appendC rfl rfl rfl rfl rfl rfl rfl rfl (AVle.refl _) (rfl) (λv=>by repeat (first | exact Upd.head _ _ _ | apply Upd.tail)) Yo Yo (λv14=>?_);refine Z8 ?_;exact ag (⟨i+1,out++[y],s2,l2,v14,Yba,rfl,hil,hI2,YaB,ht3⟩)
  ·obtain rfl:i=n:=by omega
   have he:=times_end ht;refine Z12 ?_;refine Done.retR (rs:=[.tmp 4]) (H':=rdr rb l'::(S s'++Hx)) rfl (.tmp rfl (.nil)) (.cons (AVle.asL _ _) .nil) Yc ?_;exact by rw[he];rfl
theorem intS{s s':σ}{l l':List U8}{n:Int}(h:intR s l=some (n,s',l'))(rb:Nat)(Hx:List Ent):RCall Tryz.prog 137 [.p rb 0] (rdr rb l::Hx) (some (.i n,rdr rb l'::Hx)) Hx wrongA:=by
 have h1:=intC s l rb Hx;rwa [h] at h1
theorem intN{s:σ}(h:intR s l=none)(rb:Nat)(Hx:List Ent):RCall Tryz.prog 137 [.p rb 0] (rdr rb l::Hx) none Hx wrongA:=by
 have h1:=intC s l rb Hx;rwa [h] at h1
def Still(R:Rd σ α):Prop:=∀s l y s' l',R s l=some (y,s',l')->s'=s
theorem Still.num:Still (numR (σ:=σ)):=λs l y s' l' h=>by
 unfold numR at h;split at h
 ·cases h
 ·cases h;rfl
theorem Still.then{σ α β:Type}{R:Rd σ α}{k:α->Rd σ β}(h1:Still R)(h2:∀a,Still (k a)):Still (thenR R k):=λs l y s' l' h=>by
 unfold thenR at h;split at h
 ·cases h
 ·rename_i a s1 l1 h3;rw[h2 a _ _ _ _ _ h,h1 _ _ _ _ _ h3]
theorem Still.done(a:α):Still (doneR (σ:=σ) a):=λs l y s' l' h=>by cases h;rfl
theorem Still.need{b:Bool}{R:Rd σ α}(h1:Still R):Still (needR b R):=λs l y s' l' h=>by
 unfold needR at h;split at h
 ·exact h1 _ _ _ _ _ h
 ·cases h
theorem Still.int:Still (intR (σ:=σ)):=.then .num λ_=>.done _
theorem Still.times{σ α:Type}{R:Rd σ α}(h1:Still R):∀n,Still (timesR R n)
 | 0,s,l,y,s',l',h=>by cases h;rfl
 | n+1,s,l,y,s',l',h=>by
  rw[timesR] at h;split at h
  ·cases h
  ·rename_i a s1 l1 h2;split at h
   ·cases h
   ·rename_i b s2 l2 h3;cases h;rw[Still.times h1 n _ _ _ _ _ h3,h1 _ _ _ _ _ h2]
theorem Still.many:Still (manyRd (σ:=σ)):=λs l y s' l' h=>by
 unfold manyRd at h;split at h
 ·cases h
 ·cases h;rfl
theorem Still.list{R:Rd σ α}(h1:Still R):Still (listR R):=.then .many λn=>h1.times n
theorem Still.init:Still (initR (σ:=σ)):=.then .num λ_=>.then .int λ_=>.done _
theorem Still.val:Still (valR (σ:=σ)):=.then .num λk=>by
 split
 ·exact .then .int λ_=>.done _
 ·split
  ·exact .then .num λ_=>.done _
  ·exact .need (.done _)
abbrev noS:σ->List Ent:=λ_=>[]
abbrev noI:σ->List U8->Prop:=λ_ _=>True
theorem numOk(rb:Nat):RdOk Tryz.prog rb (noS (σ:=σ)) (.fn (.func 134) [.p rb 0] []) numR (λn=>.i n) noI:=.of (λ_ _ _ _ _ _ _=>trivial) λs l Hx _=>numC s l rb Hx
theorem valueR(s:σ)(l:List U8)(rb:Nat)(Hx:List Ent):RCall Tryz.prog 91 [.p rb 0] (rdr rb l::Hx) ((valR s l).map λp=>(AV.mv p.1,rdr rb p.2.2::Hx)) Hx wrongA:=by
 refine aC (n:=24) Tryz.func91 λB I w0=>?_;refine Z2 ?_;refine OL.alC rfl rfl rfl rfl (λb2=>?_);refine Z3 ?_;refine CW.perm (List.Perm.swap _ _ _) ?_;refine Z2 ?_;rcases hq:numberR l with _ | ⟨n,r⟩
 ·refine OL.rcallN rfl rfl (.mk' rfl rfl rfl rfl rfl) (q134n hq _ _) wrong_c ?_;exact outP (P:=Tryz.prog) (fn:=Tryz.f91) wrong_c (.cons _ (.refl _)) ⟨by rw[valR,thenR_none (numR_none hq)];rfl,rfl,rfl⟩
 ·have hv:=thenR_some (k:=λk=>if k=1 then thenR intR λn=>doneR (k,n) else if k=3 then thenR numR λn=>doneR (k,n) else needR (k==2) (doneR (k,0))) (numR_some (s:=s) hq);replace hv:valR s l=_:=hv;refine OL.rcallS rfl rfl rfl (.mk' rfl rfl rfl rfl rfl) (q134s hq _ _) ?_;refine Z1 ?_;refine OL.alC rfl rfl rfl rfl (λb3=>?_);refine Z3 ?_;refine CW.cutJ (λst=>∃(x:Int×Int) (r':List U8),st=⟨[(3,.p b3 0),(2,.p b2 0)],rdr rb r'::.blk b3 60 (initA x)::.blk b2 60 [.val (.int .i64 0),.val (.int .i64 0)]::Hx⟩/\valR s l=some (x,s,r')) ?_ ?_
  ·refine Z1 ?_;refine CW.perm (List.Perm.swap _ _ _) ?_;refine Z12 ?_;refine cd (λh0=>?_) λh0=>?_
   ·rw[if_pos h0] at hv;refine Z2 ?_;rcases hi:intR s r with _ | ⟨z,s1,r1⟩
    ·refine OL.rcallN rfl rfl (.mk' rfl rfl rfl rfl rfl) (intN hi _ _) wrong_c ?_;exact outP (P:=Tryz.prog) (fn:=Tryz.f91) wrong_c (.cons _ (.cons _ (.refl _))) ⟨by rw[hv,thenR_none hi];rfl,rfl,rfl⟩
    ·obtain rfl:=Still.int _ _ _ _ _ hi;refine OL.rcallS rfl rfl rfl (.mk' rfl rfl rfl rfl rfl) (intS hi _ _) ?_;refine Z4 ?_;exact cj ⟨(n,z),r1,rfl,by rw[hv,thenR_some hi];rfl⟩
   ·refine Z6 ?_;refine cd (λh1=>?_) λh1=>?_
    ·rw[if_neg h0,if_pos h1] at hv;refine Z2 ?_;rcases hi:numberR r with _ | ⟨z,r1⟩
     ·refine OL.rcallN rfl rfl (.mk' rfl rfl rfl rfl rfl) (q134n hi _ _) wrong_c ?_;exact outP (P:=Tryz.prog) (fn:=Tryz.f91) wrong_c (.cons _ (.cons _ (.refl _))) ⟨by rw[hv,thenR_none (numR_none hi)];rfl,rfl,rfl⟩
     ·refine OL.rcallS rfl rfl rfl (.mk' rfl rfl rfl rfl rfl) (q134s hi _ _) ?_;refine Z4 ?_;exact cj ⟨(n,z),r1,rfl,by rw[hv,thenR_some (numR_some hi)];rfl⟩
    ·rw[if_neg h0,if_neg h1] at hv;refine Z4 ?_;by_cases h2:(n:Int)=2
     ·refine OL.rcallS rfl rfl rfl (.mk' rfl rfl rfl rfl rfl) (q71t (by rw[h2];rfl) _) ?_;refine Z2 ?_;exact cj ⟨(n,0),r,rfl,by rw[hv,needR_yes Ya7];rfl⟩
     ·refine OL.rcallN rfl rfl (.mk' rfl rfl rfl rfl rfl) (q71f Ya7 _) wrong_c ?_;exact outP (P:=Tryz.prog) (fn:=Tryz.f91) wrong_c (.cons _ (.cons _ (.cons _ (.refl _)))) ⟨by rw[hv,needR_no Ya7];rfl,rfl,rfl⟩
  ·rintro _ ⟨x,r',rfl,hx⟩;refine Z7 ?_;refine Done.retR (rs:=[.cell 2 60]) (H':=rdr rb r'::Hx) rfl (Ym) (AVleL.refl _) (by exact .cons_cons _ (.cons _ (.cons _ (.refl _)))) ?_;exact by rw[hx];rfl
end Go.Proofs.YtpgnjlngepfanaaGreat
