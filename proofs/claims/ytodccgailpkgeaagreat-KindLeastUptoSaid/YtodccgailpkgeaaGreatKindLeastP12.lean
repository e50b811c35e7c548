/- Part 12 of the proof: contracts of functions of the program and what they need. No condition beyond those that each theorem names. -/
import Derived.Test.YtodccgailpkgeaaGreatKindLeastP11
set_option maxHeartbeats 1000000
set_option linter.unusedVariables false
set_option linter.unusedSimpArgs false
set_option maxRecDepth 10000
namespace Go.Proofs.YtodccgailpkgeaaGreat
open Go.Eng
open Go.Eng.Fc
open Go.Eng.ei
instance:rN Tryz.prog 222 (3,23):=⟨aM,aM⟩
instance:vT Tryz.prog 23 (.slice none 0 0):=⟨aM⟩
abbrev lS(de bo:Nat)(g:List (List Int))(U:aa):aj:=.aI de 224 [aa.bD (fH g),U,.val (.map (some bo))]
theorem QT{g:List (List Int)}(al:gM g=true){c:Nat}(ak:c<3+g.length){O:List (List Int)}{l:List (Int×aa)}(e6:pj O)(Ee:O.length=c)(bT:nS l O)(de bo:Nat)(U:aa):
  jf Tryz.prog [lS de bo g U,eu bo l] 229 [.p de 0,.i c] (.bJ [aa.bD ((lO O ((fH g).getD c default)).getD []),.b (lO O ((fH g).getD c default)).isSome]):=by
 intro H hm;refine bh (n:=50) Tryz.func229 λB I aO=>?_;obtain⟨bH,jh⟩:∃bH,bH=((fH g).getD c default):=⟨_,rfl⟩;have mf:=yr al c;rw[<-jh] at mf ⊢;have ly:=wc al;refine hB ?_;refine aG ((by first | exact af.eN rfl rfl rfl rfl | (apply af.lr rfl rfl rfl;(case hm=>exact hm _ (.head _));(case hy=>rfl)))) ?_;refine bt ?_;refine aG (LU) ?_;refine aT ?_;rw[show (fH g).getD c default=bH from jh.symm];have mZ:=mf.1;refine aq.iq 6 23 1 rfl ?_;refine cq (λm st=>∃(i:Nat) (v:Value),st=⟨[(17,.i i),(16,.i bH.length),(15,aa.ints bH),(0,.p de 0),(1,.i c),(6,.as (aa.bD ((bH.take i).map (λp=>mF (O.getD p.toNat [])))) v)],.own 23 1 v::H⟩/\m=bH.length - i/\i<=bH.length/\∀p∈bH.take i,O.getD p.toNat []≠ []) (⟨0,_,rfl,rfl,ad,bj⟩) ?_;rintro m _ ⟨i,v,rfl,rfl,av,bq⟩;refine aT ?_;refine aZ (λai=>?_) λai=>?_
 ·have a1:i<bH.length:=by omega
  obtain⟨p,aB⟩:∃p,p=bH.getD i default:=⟨_,rfl⟩;have ta:p∈bH:=aB▸cp a1;have aaL:=mf.2 p ta;have gj:=e6.len p.toNat;refine ev ?_;rw[<-aB];refine bI ?_;refine aG (FW) ?_;refine bt ?_;refine aG (af.ur rfl rfl rfl rfl rfl (.tail _ (hm _ (.tail _ (.head _)))) bT.ok eV) ?_;refine au.le 26 (y:=aa.ints (O.getD p.toNat [])) rfl (bT.look p ad) ?_;refine bI ?_;refine aZ (λab=>?_) λab=>?_
  ·have he:O.getD p.toNat []= []:=List.eq_nil_of_length_eq_zero ad;refine ev ?_;refine aR.c5 (rs:=[.tmp 4,.tmp 5]) (H':=H) rfl (.tmp rfl (.tmp rfl (.nil))) (.cons (aL.nil 1) (.cons (.refl _) .nil)) b8 ?_;exact⟨by rw[Pa ta he];rfl,rfl⟩
  ·have he:O.getD p.toNat []≠ []:=λe=>by rw[e] at ab;simp at ab
   refine bn ?_;refine aG (FW) ?_;refine bt ?_;refine aG (af.ur rfl rfl rfl rfl rfl (.tail _ (hm _ (.tail _ (.head _)))) bT.ok eV) ?_;refine au.le 35 (y:=aa.ints (O.getD p.toNat [])) rfl (bT.look p ad) ?_;refine aG (af.call .k (aar _ ad)) ?_;refine au.bB (x:=.aF 1 [[aa.ints (mF (O.getD p.toNat []))]]) rfl rfl rfl (af.row rfl rfl c4 rfl rfl rfl rfl rfl rfl) ?_;refine au.gu rfl rfl rfl rfl rfl rfl rfl rfl (aL.refl _) (rfl) (λv=>by repeat (first | exact bu.head _ _ _ | apply bu.tail)) oc oc (λQU=>?_);refine bs ?_;exact bV (⟨i+1,QU,by rw[Pk (λp=>mF (O.getD p.toNat [])) bH a1, <-aB],rfl,a1,λq bd=>by rw[<-eE a1,List.mem_append,List.mem_singleton, <-aB] at bd;rcases bd with bd | rfl;exact bq q bd;exact he⟩)
 ·obtain rfl:i=bH.length:=by omega
  rw[List.take_length] at bq ⊢;refine cw ?_;refine aG (FW) ?_;refine bt ?_;refine aG (LU) ?_;refine bt ?_;refine au.bB (x:=.aF 1 [[aa.ints ((fH g).getD c default)]]) rfl rfl rfl (af.row rfl rfl c4 rfl rfl rfl rfl rfl rfl) ?_;refine au.gu rfl rfl rfl rfl rfl rfl rfl rfl (aL.refl _) (rfl) (λv=>by repeat (first | exact bu.head _ _ _ | apply bu.tail)) oc oc (λv49=>?_);refine bz ?_;refine aR.c5 (rs:=[.tmp 4,.tmp 5]) (H':=H) rfl (.tmp rfl (.tmp rfl (.nil))) (.cons (aL.hb _ _) (.cons (.refl _) .nil)) b8 ?_;exact⟨by rw[Pb bq, <-jh];show _=aa.bJ [aa.aF 1 (List.map _ (_++_)),_];rw[List.map_append];rfl,rfl⟩
theorem aaM{g:List (List Int)}(al:gM g=true){O:List (List Int)}(ak:O.length<3+g.length){l:List (Int×aa)}(e6:pj O)(bT:nS l O)(de bo:Nat)(U:aa)(H:List aj):
  b1 Tryz.prog 205 [.p de 0,.i O.length] (lS de bo g U::eu bo l::H) (λ_ H'=>∃jz,nS jz (O++[km O O.length ((fH g).getD O.length default)])/\H'=lS de bo g U::eu bo jz::H) (λ_ _=>False):=by
 refine bh (n:=40) Tryz.func205 λB I aO=>?_;have ly:=wc al;have mf:=yr al O.length;have gj:=(Ia e6 mf).len;refine bn ?_;refine aZ (λai=>?_) λai=>?_
 ·have ai:O.length=0:=by omega
  refine aT ?_;refine aG (af.row rfl rfl c4 rfl rfl rfl rfl rfl rfl) ?_;refine au.jE (u':=aa.ints [0]) rfl rfl (.inl rfl) rfl rfl rfl rfl rfl rfl (aL.refl _) (.tail _ _ _ _ _ (.head _ _ _)) bT.ok eV ?_;refine bI ?_;refine fR [] (lS de bo g U::eu bo (fg l 0 (aa.ints [0]))::H) ?_;exact⟨_,by rw[YE ai];have:=bT.put (x:=[0]) bj ad;rwa [ai] at this,rfl⟩
 ·have ai:O.length≠0:=by omega
  refine bg ?_;rcases ax:lO O ((fH g).getD O.length default) with _ | all
  ·refine bg ?_;refine aG (af.jB .k (bO.refl _) (by have h:=QT al ak e6 rfl bT de bo U;rw[ax] at h;exact h) Pj) ?_;refine eb ?_;refine aq.cond rfl (λab=>?_) (λab=>?_)
   ·replace ab:=dZ ab;refine bC ?_;refine fR [] (lS de bo g U::eu bo l::H) ?_;exact⟨l,by rw[Pg ai ax];exact bT.skip,rfl⟩
   ·simp at ab
  ·obtain⟨wH,q6⟩:=O4 e6 mf.1 ax;refine bg ?_;refine aG (af.jB .k (bO.refl _) (by have h:=QT al ak e6 rfl bT de bo U;rw[ax] at h;exact h) Pj) ?_;refine eb ?_;refine aq.cond rfl (λae=>?_) (λae=>?_)
   ·simp at ae
   ·replace ae:=dZ ae;refine bz ?_;refine aG (af.call .k (aat all ad ad)) ?_;refine cT ?_;refine aZ (λaD=>?_) λaD=>?_
    ·have aD:(mE all).2=true:=aD;rw[DW ai ax aD] at gj;simp only[List.length_cons,List.length_append,List.length_nil] at gj;refine aq.bL mixed ?_;refine bk.uo (X:=p0) [⟨6,35,false⟩,⟨8,37,false⟩,⟨10,39,false⟩] (λJ=>match J with | [some v,none,none]=>.own 3 1 v::lS de bo g U::eu bo l::H | [_,some v,none]=>.own 3 1 v::lS de bo g U::eu bo l::H | [_,_,some v]=>.own 3 1 v::lS de bo g U::eu bo l::H | _=>lS de bo g U::eu bo l::H) (λq J=>match q,J with | 0,[some v,_,_]=>.as (.aF 1 [[aa.i (O.length:Int)]]) v | 1,[_,some v,_]=>.as (.aF 1 ([[aa.i (O.length:Int)]]++((mE all).1.map λn=>[aa.i n]))) v | 2,[_,_,some v]=>.as (.aF 1 ([[aa.i (O.length:Int)]]++((mE all).1.map λn=>[aa.i n])++[[.i 0]])) v | _,_=>.any) 0 11 40 rfl ay ay rfl rfl ay rfl (λ_ _ _ _ _ _ _ _ _ h=>h.elim) ?_;refine bp.cS [[true,true,true],[true,true,false],[true,false,false],[false,false,false]] rfl ay rfl rfl rfl ⟨λf=>af.move rfl rfl rfl,λf=>af.move rfl rfl rfl,λf=>af.move rfl rfl rfl,λf=>af.move rfl rfl rfl,trivial⟩ ?_;refine bp.cS [[true,true,true],[true,true,false],[true,false,false],[false,false,false]] rfl ay rfl rfl rfl ⟨λf=>hH,λf=>hH,λf=>hH,λf=>hH,trivial⟩ ?_;refine bp.cS [[true,true,true],[true,true,false],[true,false,false],[false,false,false]] rfl ay rfl rfl rfl ⟨λf=>cK,λf=>cK,λf=>cK,λf=>cK,trivial⟩ ?_;refine bp.cS [[true,true,true],[true,true,false],[true,false,false],[false,false,false]] rfl ay rfl rfl rfl ⟨λf=>dI,λf=>dI,λf=>dI,λf=>dI,trivial⟩ ?_;refine bp.cS [[true,true,true],[true,true,false],[true,false,false],[false,false,false]] rfl ay rfl rfl rfl ⟨λf=>af.move rfl rfl rfl,λf=>af.move rfl rfl rfl,λf=>af.move rfl rfl rfl,λf=>af.move rfl rfl rfl,trivial⟩ ?_;refine bp.cS [[false,false,false]] rfl ay rfl rfl rfl ⟨λf=>af.move rfl rfl rfl,trivial⟩ ?_;refine bp.mC 0 [[false,false,false]] rfl rfl rfl ay rfl rfl rfl ⟨λf=>⟨et.Ds rfl rfl rfl rfl rfl rfl rfl rfl rfl (λ_=>rfl) (λ_=>rfl),jn⟩,trivial⟩ ?_;refine bp.cS [[true,false,false],[false,false,false]] rfl ay rfl rfl rfl ⟨λf=>af.move rfl rfl rfl,λf=>af.move rfl rfl rfl,trivial⟩ ?_;refine bp.mC 1 [[true,false,false]] rfl rfl rfl ay rfl rfl rfl ⟨λf=>⟨et.own rfl rfl rfl (aL.refl _) rfl rfl (aL.refl _) (yo _) dj dj (λ_=>.head _ _ _) (λ_=>rfl),jn⟩,trivial⟩ ?_;refine bp.cS [[true,true,false],[true,false,false],[false,false,false]] rfl ay rfl rfl rfl ⟨λf=>af.row rfl rfl c4 rfl rfl rfl rfl rfl rfl,λf=>af.row rfl rfl c4 rfl rfl rfl rfl rfl rfl,λf=>af.row rfl rfl c4 rfl rfl rfl rfl rfl rfl,trivial⟩ ?_;refine bp.mC 2 [[true,true,false]] rfl rfl rfl ay rfl rfl rfl ⟨λf=>⟨et.own (news:=[[.i 0]]) rfl rfl rfl (aL.refl _) rfl rfl (aL.refl _) rfl dj dj (λ_=>.head _ _ _) (λ_=>rfl),jn⟩,trivial⟩ ?_;refine bp.nil (λf=>?_);simp only[mB,List.map_cons,List.map_nil,List.cons_append,List.nil_append];refine bt ?_;refine au.le 39 (y:=aa.ints ((O.length:Int)::((mE all).1++[0]))) rfl (by rw[Pf];exact aL.hb _ _) ?_;refine au.jE rfl rfl (.inl rfl) rfl rfl rfl rfl rfl rfl (aL.refl _) (.tail _ _ _ _ _ (.tail _ _ _ _ _ (.head _ _ _))) bT.ok eV ?_;refine bt ?_;refine jj [] (lS de bo g U::eu bo (fg l O.length (aa.ints ((O.length:Int)::((mE all).1++[0]))))::H) ?_;exact⟨_,by rw[DW ai ax aD];exact bT.put bj ad,rfl⟩
    ·have aD:(mE all).2=false:=aD;refine bt ?_;refine jj [] (lS de bo g U::eu bo l::H) ?_;exact⟨l,by rw[Ph ai ax aD];exact bT.skip,rfl⟩
instance:ui Tryz.prog 29 (23,24,.slice none 0 0):=⟨aM⟩
theorem aaN{g:List (List Int)}(al:gM g=true){cs:List Int}(j6:∀c∈cs,0<=c/\c<3+g.length)(dp:cs.length<=1000000)(H:List aj):b1 Tryz.prog 177 [aa.bD g,aa.ints cs] H
  (λy H'=>∃de bo l U,y= .bJ [.p de 0,.b true]/\nS l (ux g)/\H'=lS de bo g U::eu bo l::H) (λ_ _=>False):=by
 refine bh (n:=104) Tryz.func177 λB I aO=>?_;have ly:=wc al;refine c6 ?_;refine aG (af.call .k (IM g)) ?_;refine bg ?_;refine aq.cond rfl (λai=>?_) (λai=>?_)
 ·simp[al] at ai
 ·replace ai:=dZ ai;refine cw ?_;refine cq (λm st=>∃i:Nat,st=⟨[(20,.i i),(19,.i cs.length),(18,aa.ints cs),(0,aa.bD g)],H⟩/\m=cs.length - i/\i<=cs.length) (⟨0,rfl,rfl,ad⟩) ?_;rintro m _ ⟨i,rfl,rfl,av⟩;refine aT ?_;refine aZ (λab=>?_) λab=>?_
  ·have a1:i<cs.length:=by omega
   have ak:=j6 _ (cp a1);refine yl ?_;refine aq.cond rfl (λae=>?_) (λae=>?_)
   ·rw[Bool.cond_true_left] at ae;simp only[Bool.or_eq_true,decide_eq_true_eq] at ae;omega
   ·replace ae:=dZ ae;refine bn ?_;exact bV (⟨i+1,rfl,rfl,a1⟩)
  ·refine c6 ?_;refine au.XJ 3 (3+g.length) rfl rfl rfl rfl rfl rfl rfl rfl rfl bj ad ad lu (λkH=>?_);refine au.mkMap rfl rfl rfl rfl (λbo=>?_);refine bt ?_;refine au.tW rfl rfl rfl rfl rfl rfl rfl (λde=>?_);refine cw ?_;refine au.XK (news:=uA g) rfl rfl rfl rfl rfl rfl rfl rfl (aL.refl _) qn (Yz g) (by rw[Pd,List.length_replicate];omega) (.tail _ _ _ _ _ (.tail _ _ _ _ _ (.head _ _ _))) ?_;refine au.kz (H':=.aI de 224 [.val (.slice (some ⟨kH,0,none⟩) 3 (3+g.length)),.val (.slice none 0 0),.val (.map (some bo))]::eu bo []::.aI kH 23 ((DV++uA g).flatten++[])::H) (by rw[<-YB g _ rfl];rfl) ?_;refine au.qA (k:=1) (d:=47) rfl (.tail _ _ _ _ (.tail _ _ _ _ (.head _ _))) dj (λe he=>?_) qn lu ?_
   ·rcases List.mem_append.1 he with h | h
    ·simp at h;rw[h];rfl
    ·obtain⟨y,_,rfl⟩:=List.mem_map.1 h;rfl
   refine au.le 47 (y:=aa.bD (fH g)) rfl (YC g) ?_;refine hB ?_;refine aq.sN (b:=de) (t:=224) 248 1 1 pO rfl rfl ?_;refine aq.le 54 (y:=.i ((3+g.length:Nat):Int)) rfl (aL.dx (by rw[qo])) ?_;refine cq (λm st=>∃(i:Nat) (us:List Nat) (v:Value),st=⟨[(55,.i i),(54,.i ((3+g.length:Nat):Int)),(53,aa.bD (fH g)),(8,.p de 0)],.own 248 1 v::lS de bo g (.as (aa.we us) v)::eu bo []::H⟩/\m=(3+g.length) - i/\i<=(3+g.length)/\us.length=i/\∀x∈us,x<18446744073709551616) (⟨0,[],_,rfl,rfl,ad,rfl,bj⟩) ?_;rintro m _ ⟨i,us,v,rfl,rfl,av,qD,I2⟩;refine aT ?_;refine aZ (λaD=>?_) λaD=>?_
   ·have a1:i<3+g.length:=by omega
    obtain⟨bH,jh⟩:∃bH,bH=(fH g).getD i default:=⟨_,rfl⟩;have mf:=yr al i;rw[<-jh] at mf;have mZ:=mf.1;refine bn ?_;refine aG ((by first | exact af.iQ rfl rfl rfl rfl rfl (by rw[qo];exact a1) | exact af.h1 rfl rfl rfl rfl rfl (by rw[qo];exact a1))) ?_;refine aT ?_;rw[<-jh];refine bg ?_;refine aG (af.call .k (QM 0 i ad ad)) ?_;refine aG (af.call .k (QM _ 0 ad (nh ad (rW ad)))) ?_;refine au.cG rfl rfl rfl rfl (λfh=>?_);refine cT ?_;obtain⟨Ef,I3⟩:∃Ef,Ef=0 ||| 2^(i:Int).toNat ||| 2^(0:Int).toNat:=⟨_,rfl⟩
    have aaO:Ef<18446744073709551616:=I3▸nh (nh ad (rW ad)) e3;refine cq (λm st=>∃(j s:Nat),st=⟨[(66,.i j),(65,.i bH.length),(64,aa.ints bH),(11,.p fh 0),(55,.i i),(54,.i ((3+g.length:Nat):Int)),(53,aa.bD (fH g)),(8,.p de 0)],.aI fh 248 [aa.set s]::.own 248 1 v::lS de bo g (.as (aa.we us) v)::eu bo []::H⟩/\m=bH.length - j/\j<=bH.length/\s<18446744073709551616) (⟨0,Ef,by rw[I3],rfl,ad,aaO⟩) ?_;rintro m _ ⟨j,s,rfl,rfl,aU,aH⟩;refine aT ?_;refine aZ (λaV=>?_) λaV=>?_
    ·have c3:j<bH.length:=by omega
     have ta:=mf.2 _ (cp c3);refine cw ?_;refine aq.bL mixed ?_;refine bk.b7 0 8 104 rfl ay rfl rfl ay ?_;refine aT ?_;refine bU.bB rfl rfl rfl (af.XQ 74 rfl (aL.hb _ _) (af.h1 rfl rfl rfl rfl rfl ad)) ?_;refine bg ?_;refine aG (af.call .k (aax s _ aH (Pe I2 _))) ?_;refine bs ?_;exact bV (⟨j+1,s ||| us.getD (bH.getD j default).toNat default,rfl,rfl,c3,nh aH (Pe I2 _)⟩)
    ·refine bz ?_;refine aq.bL mixed ?_;refine bk.uo (X:=p0) [⟨7,87,false⟩] (λJ=>match J with | [some v2]=>.aI fh 248 [aa.set s]::.own 248 1 v2::lS de bo g (.as (aa.we us) v)::eu bo []::H | _=>.aI fh 248 [aa.set s]::.own 248 1 v::lS de bo g (.as (aa.we us) v)::eu bo []::H) (λq J=>match q,J with | 0,[some v2]=>.as (.aF 1 ((us.map λs=>[aa.set s])++[[aa.set s]])) v2 | _,_=>.any) 0 8 104 rfl ay ay rfl rfl ay rfl (λ_ _ _ _ _ _ _ _ _ h=>h.elim) ?_;refine bp.cS [[true],[false]] rfl ay rfl rfl rfl ⟨λf=>af.move rfl rfl rfl,λf=>af.move rfl rfl rfl,trivial⟩ ?_;refine bp.cS [[false]] rfl ay rfl rfl rfl ⟨λf=>af.move rfl rfl rfl,trivial⟩ ?_;refine bp.cS [[false]] rfl ay rfl rfl rfl ⟨λf=>hH,trivial⟩ ?_;refine bp.cS [[false]] rfl ay rfl rfl rfl ⟨λf=>cK,trivial⟩ ?_;refine bp.cS [[false]] rfl ay rfl rfl rfl ⟨λf=>dI,trivial⟩ ?_;refine bp.cS [[false]] rfl ay rfl rfl rfl ⟨λf=>Cq,trivial⟩ ?_;refine bp.cS [[false]] rfl ay rfl rfl rfl ⟨λf=>af.row rfl rfl c4 rfl rfl rfl rfl rfl rfl,trivial⟩ ?_;refine bp.mC 0 [[false]] rfl rfl rfl ay rfl rfl rfl ⟨λf=>⟨et.own (news:=[[aa.set s]]) rfl rfl rfl (aL.refl _) rfl rfl (aL.refl _) rfl dj dj (λ_=>.tail _ _ _ _ _ (.head _ _ _)) (λ_=>rfl),jn⟩,trivial⟩ ?_;refine bp.nil (λf=>?_);simp only[mB,List.map_cons,List.map_nil,List.cons_append,List.nil_append];refine cw ?_;rw[YD];exact bV ⟨i+1,us++[s],f 87,rfl,rfl,a1,by rw[List.length_append,qD];rfl,λx ag=>by rcases List.mem_append.1 ag with h | h;exact I2 x h;simp at h;rw[h];exact aH⟩
   ·refine hB ?_;refine aq.wi (H':=lS de bo g (.as (aa.we us) v)::eu bo []::H) (.cons _ (.refl _)) ?_;obtain⟨U,mI⟩:∃U:aa,U= .as (aa.we us) v:=⟨_,rfl⟩;rw[<-mI];refine aq.le 95 (y:=.i ((3+g.length:Nat):Int)) rfl (aL.dx (by rw[qo])) ?_;refine cq (λm st=>∃(i:Nat) (l:List (Int×aa)),st=⟨[(96,.i i),(95,.i ((3+g.length:Nat):Int)),(8,.p de 0)],lS de bo g U::eu bo l::H⟩/\m=(3+g.length) - i/\i<=(3+g.length)/\nS l (mc g i)) (⟨0,[],rfl,rfl,ad,.nil⟩) ?_;rintro m _ ⟨i,l,rfl,rfl,av,bT⟩;refine aT ?_;refine aZ (λbl=>?_) λbl=>?_
    ·have a1:i<3+g.length:=by omega
     refine ev ?_;refine dE .k (by have h:=aaM al (O:=mc g i) (by rw[uz ad];exact a1) (A2 al i ad) bT de bo U H;rw[uz ad] at h;exact h.b) ?_
     ·rintro y H1 ⟨jz,QV,rfl⟩;rw[<-Pc a1] at QV;refine bn ?_;exact bV (⟨i+1,jz,rfl,rfl,a1,QV⟩)
    ·obtain rfl:i=3+g.length:=by omega
     rw[A1] at bT;refine ev ?_;refine fR [.tmp 4,.tmp 5] (lS de bo g U::eu bo l::H) ?_;exact⟨de,bo,l,U,eg,bT,rfl⟩
theorem QW{g:List (List Int)}(al:gM g=true){c:Int}(ak:0<=c/\c<3+g.length):ba Tryz.prog 140 [aa.bD g,.i c] (.bJ [aa.ints (fI g c),.i (if(fI g c).isEmpty then 7 else 0)]):=by
 intro H;refine bh (n:=32) Tryz.func140 λB I aO=>?_;have ly:=wc al;have Bn:(fI g c).length<=1000:=by
  have ab:=(A2 al (3+g.length) (Nat.le_refl _)).len c.toNat;rw[uz (Nat.le_refl _),A1] at ab;show ((ux g).getD c.toNat []).length<=1000;omega
 refine c6 ?_;refine aG (af.row rfl rfl c4 rfl rfl rfl rfl rfl rfl) ?_;refine dE .k ((aaN al (cs:=[c]) (λx ag=>by simp at ag;rw[ag];exact ak) bj H).b) ?_
 ·rintro _ _ ⟨de,bo,l,U,rfl,bT,rfl⟩;refine eb ?_;refine aq.cond rfl (λai=>?_) (λai=>?_)
  ·simp at ai
  ·replace ai:=dZ ai;refine c6 ?_;refine aG (af.ur rfl rfl rfl rfl rfl (.tail _ (.head _)) bT.ok eV) ?_;refine au.le 22 (y:=aa.ints (fI g c)) rfl (bT.look c ad) ?_;refine bI ?_;refine aZ (λab=>?_) λab=>?_
   ·have he:fI g c= []:=List.eq_nil_of_length_eq_zero ad;refine bs ?_;refine aR.c5 (rs:=[.tmp 4,.tmp 5]) (H':=H) rfl (.tmp rfl (.tmp rfl (.nil))) (.cons (aL.nil 1) (.cons (.refl _) .nil)) b8 ?_;exact⟨by rw[he];rfl,rfl⟩
   ·have he:fI g c≠ []:=λe=>by rw[e] at ab;simp at ab
    refine bS ?_;refine aG (af.ur rfl rfl rfl rfl rfl (.tail _ (.head _)) bT.ok eV) ?_;refine au.le 30 (y:=aa.ints (fI g c)) rfl (bT.look c ad) ?_;refine aG (af.call .k (yA _ ad)) ?_;refine bz ?_;refine fR [.tmp 4,.tmp 5] (H) ?_;exact⟨by cases ax:fI g c with
 | nil=>exact absurd ax he
 | cons a r=>rfl,rfl⟩
end Go.Proofs.YtodccgailpkgeaaGreat

namespace Go.Eng.ei
open Go.Eng.Fc
variable{p:Prog}
theorem QX(i:Nat):∀(l seen:List Int),kD i seen l=Fc.mb i seen l
 | [],_=>rfl
 | x::r,seen=>by rw[kD,Fc.mb,QX i r]
theorem QY:∀(g:List (List Int)) (i:Nat),lg i g=true->Fc.jR i g=true
 | [],_,_=>rfl
 | l::r,i,h=>by
  simp only[lg,Bool.and_eq_true] at h;rw[Fc.jR, <-QX,h.1.2,QY r (i+1) h.2];rfl
theorem QZ:∀(cs:List hh) (i:Nat),∀x∈ic cs i,3+(i:Int)<=x/\x<3+((i+cs.length:Nat):Int)
 | [],i,x,h=>by cases h
 | c::r,i,x,h=>by
  rw[ic] at h;rcases List.mem_append.1 h with h | h
  ·have:=(List.mem_replicate.1 h).2;rw[List.length_cons];omega
  ·have:=QZ r (i+1) x h;rw[List.length_cons];omega
theorem uL:∀(cs:List hh) (i:Nat),(ic cs i).length=eO cs
 | [],i=>rfl
 | c::r,i=>by
  rw[ic,List.length_append,List.length_replicate,uL r];simp[eO]
structure pw(p:Prog):Prop where
 dS:p.aY.length<=10
 aF:kE p.aY 0=true
 aaP:(eO p.aY:Int)=p.aJ
 g:gM (cZ p)=true
theorem pw.of(h:gS p=true):pw p:=by
 simp only[gS,Bool.and_eq_true,decide_eq_true_eq,beq_iff_eq] at h;exact⟨h.1.1.1,h.1.1.2,h.1.2.1,h.1.2.2⟩
theorem pw.world(h:pw p):Fc.dm (cH p)=true:=by
 have ab:=h.dS;have ae:=A4 _ _ h.aF;have al:=h.g;simp only[gM,Bool.and_eq_true] at al;simp only[Fc.dm,Bool.and_eq_true,decide_eq_true_eq];have hL:(cH p).parents.length=p.aY.length:=by show (cZ p).length=_;simp[cZ]
 refine⟨⟨⟨ad,?_⟩,QY _ 0 al.2⟩,List.all_eq_true.2 λx ag=>?_⟩
 ·show (ic p.aY 0).length<=40;rw[uL];omega
 ·have:=QZ p.aY 0 x ag;simp only[Fc.vX,Bool.and_eq_true,decide_eq_true_eq];rw[hL];omega
theorem uM(p:Prog):(cH p).parents.length=p.aY.length:=by show (cZ p).length=_;simp[cZ]
theorem Q0{k:Nat}(h:k<p.aY.length):(cH p).parents.getD k default=(p.aY.getD k default).parents:=by
 show (cZ p).getD k default=_;rw[cZ,List.getD_eq_getElem?_getD,List.getElem?_map,List.getD_eq_getElem?_getD,List.getElem?_eq_getElem h];rfl
theorem Q1{W:Fc.bb}(hw:Fc.dm W=true):∀(n c:Nat),c<=n->3<=c->c<3+W.parents.length->∀b,3<=b->hi W c b=true->b=c\/∃m,m<W.parents.length/\hi W c (3+m)=true/\(b:Int)∈W.parents.getD m default
 | n,c,hn,aD,ak,b,aw,h=>by
  have e:c=3+(c - 3):=by omega
  have ai:=h;rw[e,qb hw ad] at h;simp only[Bool.or_eq_true,beq_iff_eq,List.any_eq_true] at h;rcases h with (h | h) | ⟨q,bd,h⟩
  ·omega
  ·exact .inl ad
  ·have ax:=uF hw ad q bd
   match n,hn with
   | 0,hn=>omega
   | n+1,hn=>
    rcases Q1 hw n q.toNat ad ad ad b aw h with ab | ⟨m,ab,ae,aV⟩
    ·exact .inr ⟨c - 3,ad,by rw[<-e];exact tJ hw ak,by rw[ab];rw[show ((q.toNat:Nat):Int)=q by omega];exact bd⟩
    ·refine .inr ⟨m,ab,?_,aV⟩;rw[e,qb hw ad];simp only[Bool.or_eq_true,beq_iff_eq,List.any_eq_true];exact .inr ⟨q,bd,ae⟩
theorem aaQ{W:Fc.bb}(hw:Fc.dm W=true){c m b:Nat}(ak:c<3+W.parents.length)(hm:m<W.parents.length)(h:hi W c (3+m)=true)(aw:(b:Int)∈W.parents.getD m default):hi W c b=true:=by
 refine P0 hw c c (Nat.le_refl _) ak (3+m) b h ?_;rw[qb hw hm];simp only[Bool.or_eq_true,beq_iff_eq,List.any_eq_true];have:=uF hw hm _ aw;exact .inr ⟨_,aw,by rw[Int.toNat_natCast];exact tJ hw ad⟩
def wI(p:Prog)(c:Nat):Nat->List Int
 | 0=>[]
 | n+1=>(if hi (cH p) c (3+n) then (p.aY.getD n default).aJ else [])++wI p c n
def uN(p:Prog)(c:Nat):Nat->List Int
 | 0=>[]
 | n+1=>uN p c n++(if hi (cH p) c (3+n) then (p.aY.getD n default).aJ else [])
theorem I4{p:Prog}(hw:Fc.dm (cH p)=true){c:Nat}(aD:3<=c)(ak:c<3+p.aY.length):∀(n:Nat) (S out:List Int),n<=c - 2->(∀b:Nat,3<=b->(((b:Int)∈S)↔b=c\/∃m,n<=m/\m<p.aY.length/\hi (cH p) c (3+m)=true/\(b:Int)∈(p.aY.getD m default).parents))->k0 p n S out=out++wI p c n
 | 0,S,out,_,_=>by rw[k0,wI,List.append_nil]
 | n+1,S,out,hn,h9=>by
  have hL:=uM p;have ao:((n:Int)+3∈S)↔hi (cH p) c (3+n)=true:=by
   rw[show (n:Int)+3=((3+n:Nat):Int) by omega,h9 (3+n) ad];constructor
   ·rintro (e | ⟨m,ab,ae,aV,bl⟩)
    ·rw[e];exact tJ hw ad
    ·exact aaQ hw ad ad aV (by rw[Q0 ae];exact bl)
   ·intro h;rcases Q1 hw c c (Nat.le_refl _) aD ad (3+n) ad h with e | ⟨m,ab,ae,aV⟩
    ·exact .inl e
    ·have:=uF hw ab _ aV;exact .inr ⟨m,ad,ad,ae,by rw[<-Q0 ad];exact aV⟩
  rw[k0,wI];by_cases hu:hi (cH p) c (3+n)=true
  ·rw[if_pos (List.contains_iff_mem.2 (ao.2 hu)),if_pos hu,I4 hw aD ak n _ _ ad,List.append_assoc];intro b aw;rw[List.mem_append,h9 b aw];constructor
   ·rintro ((e | ⟨m,ab,ae⟩) | h)
    ·exact .inl e
    ·exact .inr ⟨m,ad,ae⟩
    ·exact .inr ⟨n,Nat.le_refl _,ad,hu,h⟩
   ·rintro (e | ⟨m,ab,ae,aV,bl⟩)
    ·exact .inl (.inl e)
    ·by_cases e:m=n
     ·subst e;exact .inr bl
     ·exact .inl (.inr ⟨m,ad,ae,aV,bl⟩)
  ·have qC: ¬((n:Int)+3∈S):=λh=>hu (ao.1 h);rw[if_neg (by rw[List.contains_iff_mem];exact qC),if_neg hu,I4 hw aD ak n _ _ ad,List.nil_append];intro b aw;rw[h9 b aw];constructor
   ·rintro (e | ⟨m,ab,ae⟩)
    ·exact .inl e
    ·exact .inr ⟨m,ad,ae⟩
   ·rintro (e | ⟨m,ab,ae,aV,bl⟩)
    ·exact .inl e
    ·by_cases e:m=n
     ·subst e;exact absurd aV hu
     ·exact .inr ⟨m,ad,ae,aV,bl⟩
theorem Q2(p:Prog)(c:Nat):∀n,(wI p c n).Perm (uN p c n)
 | 0=>List.Perm.refl _
 | n+1=>by
  rw[wI,uN];exact ((Q2 p c n).append_left _).trans List.perm_append_comm
def uO(W:Fc.bb)(c:Int):List Int:=((List.range W.owner.length).filter λs=>Fc.kG W c (W.owner.getD s default)).map λ(s:Nat)=>(s:Int)
theorem Q3:∀(l:List Int) (n:Nat),jT l n=true->l=(List.range' n l.length).map λ(k:Nat)=>(k:Int)
 | [],n,_=>rfl
 | x::r,n,h=>by
  simp only[jT,Bool.and_eq_true,beq_iff_eq] at h;rw[List.length_cons,List.range'_succ,List.map_cons, <-Q3 r (n+1) h.2,h.1]
theorem aaR{q:Nat->Bool}{b:Bool}(n k:Nat)(h:∀i,n<=i->i<n+k->q i=b):(List.range' n k).filter q=if b then List.range' n k else []:=by
 cases b with
 | true=>rw[if_pos rfl];exact List.filter_eq_self.2 λi av=>by have:=List.mem_range'_1.1 av;exact h i ad ad
 | false=>rw[if_neg bj];exact List.filter_eq_nil_iff.2 λi av=>by have:=List.mem_range'_1.1 av;rw[h i ad ad];simp
theorem aaS{cs:List hh}{n s:Nat}(hn:n<cs.length)(ab:eO (cs.take n)<=s)(ae:s<eO (cs.take n)+(cs.getD n default).aJ.length):(ic cs 0).getD s default=(n:Int)+3:=by
 have e:cs=(cs.take n++[cs.getD n default])++cs.drop (n+1):=by rw[eE hn,List.take_append_drop]
 have app:∀(a b:List hh) (i:Nat),ic (a++b) i=ic a i++ic b (i+a.length):=by
  intro a
  induction a with
  | nil=>intro b i;simp[ic]
  | cons c r bm=>intro b i;rw[List.cons_append,ic,ic,bm,List.append_assoc,List.length_cons,show i+1+r.length=i+(r.length+1) by omega]
 have ax:(cs.take n).length=n:=by rw[List.length_take];omega
 have aW:ic cs 0=(ic (cs.take n) 0++List.replicate (cs.getD n default).aJ.length ((n:Int)+3))++ic (cs.drop (n+1)) (n+1):=by
  conv=>lhs;rw[e]
  rw[app,app,List.length_append,ax];simp only[ic,List.length_singleton,List.append_nil,Nat.zero_add]
 rw[aW,List.getD_eq_getElem?_getD,List.getElem?_append_left (by rw[List.length_append,uL,List.length_replicate];exact ae),List.getElem?_append_right (by rw[uL];exact ab),List.getElem?_replicate,if_pos (by rw[uL];omega)];rfl
theorem Q4{p:Prog}(h:pw p)(c:Nat):∀n,n<=p.aY.length->uN p c n=((List.range (eO (p.aY.take n))).filter λs=>Fc.kG (cH p) (c:Int) ((cH p).owner.getD s default)).map λ(s:Nat)=>(s:Int)
 | 0,_=>rfl
 | n+1,hn=>by
  have aH:jT (p.aY.getD n default).aJ (eO (p.aY.take n))=true:=by
   have ab:=Ib p.aY 0 (n+1) h.aF;rw[A3 _ _ _ ad,Bool.and_eq_true,Bool.and_eq_true,Nat.zero_add] at ab;exact ab.2.2
  rw[uN,Q4 h c n ad,Ic ad,List.range_add,List.filter_append,List.map_append];congr 1;rw[show List.map (λx=>eO (p.aY.take n)+x) (List.range (p.aY.getD n default).aJ.length)=List.range' (eO (p.aY.take n)) (p.aY.getD n default).aJ.length by rw[List.range_eq_range',List.map_add_range'];simp];rw[aaR (b:=hi (cH p) c (3+n)) _ _ (λi ab ae=>by
   rw[show (cH p).owner=ic p.aY 0 from rfl,aaS ad ab ae,D3,Int.toNat_natCast,show ((n:Int)+3).toNat=3+n by omega])]
  by_cases hu:hi (cH p) c (3+n)=true
  ·rw[if_pos hu,if_pos hu];exact Q3 _ _ aH
  ·rw[if_neg hu,if_neg hu];rfl
theorem Q5{p:Prog}(hw:Fc.dm (cH p)=true){c:Nat}(ak:c<3+p.aY.length):∀n,c - 2<=n->uN p c n=uN p c (c - 2)
 | 0,h=>by rw[show c - 2=0 by omega]
 | n+1,h=>by
  by_cases e:c - 2=n+1
  ·rw[e]
  ·have hn: ¬hi (cH p) c (3+n)=true:=λhu=>by
    have:=Ix hw c c (Nat.le_refl _) (by rw[uM];exact ak) _ hu;omega
   rw[uN,if_neg hn,List.append_nil];exact Q5 hw ak n ad
theorem aaT(q:Nat->Bool)(n:Nat):(((List.range n).filter q).map λ(s:Nat)=>(s:Int)).Pairwise λa b=>decide (a<=b)=true:=by
 rw[List.pairwise_map];refine List.Pairwise.filter _ (List.Pairwise.imp ?_ List.pairwise_lt_range);intro a b s3;simp;omega
theorem aaU{a b:List Int}(aB:a.Perm b)(aw:b.Pairwise λx y=>decide (x<=y)=true):iB a=b:=by
 have ab:(iB a).Perm b:=(List.mergeSort_perm _ _).trans aB;refine List.Perm.eq_of_pairwise (le:=λx y=>decide (x<=y)=true) ?_ (List.pairwise_mergeSort (λx y z ab ae=>by simp only[decide_eq_true_eq] at*;omega) (λx y=>by simp only[Bool.or_eq_true,decide_eq_true_eq];omega) a) aw ab;intro x y _ _ rD akR;simp only[decide_eq_true_eq] at*;omega
theorem Q6(h:pw p){c:Int}(aD:3<=c)(ak:c<3+p.aY.length):ez p c=uO (cH p) c:=by
 obtain⟨k,rfl⟩:∃k:Nat,c=k:=⟨c.toNat,ad⟩;have hw:=h.world;have a6:k0 p ((k:Int) - 2).toNat [(k:Int)] []=wI p k (k - 2):=by
  rw[show ((k:Int) - 2).toNat=k - 2 by omega];refine I4 hw ad ad (k - 2) [(k:Int)] [] (Nat.le_refl _) (λb aw=>?_);rw[List.mem_singleton];constructor
  ·intro e;exact .inl ad
  ·rintro (e | ⟨m,ab,ae,aV,_⟩)
   ·omega
   ·have:=Ix hw k k (Nat.le_refl _) (by rw[uM];omega) _ aV;omega
 have aW:=Q4 h k p.aY.length (Nat.le_refl _);rw[List.take_length, <-uL p.aY 0,Q5 hw ad _ ad] at aW;rw[ez,a6];refine aaU (b:=uO (cH p) k) ?_ (aaT _ _);exact (Q2 p k (k - 2)).trans (by rw[aW];exact List.Perm.refl _)
end Go.Eng.ei

namespace Go.Proofs.YtodccgailpkgeaaGreat
open Go.Eng
open Go.Eng.Fc
open Go.Eng.ei
variable{l:List Int}{i c:Nat}{A:List (List Int)}{W:Fc.bb}
theorem aaV{x:Int}{q:Nat}(bd:q<l.length)(h:(l.take q).contains x=false)(ag:l.getD q default≠x):(l.take (q+1)).contains x=false:=by
 rw[<-eE bd,List.contains_eq_any_beq,List.any_append, <-List.contains_eq_any_beq,h];simp;exact λe=>ag e.symm
theorem aaW{x:Int}{q:Nat}(bd:q<l.length)(ag:l.getD q default=x):l.contains x=true:=by rw[<-ag];exact List.contains_iff_mem.2 (cp bd)
theorem aaX{i j:Nat}(aU:j<l.length)(h:kD i [] (l.take j)=true)(ae:(decide (l.getD j default<3) || decide (l.getD j default>=3+i) || (l.take j).contains (l.getD j default))=false):kD i [] (l.take (j+1))=true:=by
 rw[DL i l [] j aU,h,List.nil_append,ae];rfl
theorem aaY{g:List (List Int)}(av:i<g.length)(h:lg 0 (g.take i)=true)(ab:(g.getD i default).length<=3)(ae:kD i [] (g.getD i default)=true):lg 0 (g.take (i+1))=true:=by
 rw[DM g 0 i av,h,Nat.zero_add,ae,decide_eq_true ab];rfl
theorem aaZ{g:List (List Int)}(h:c<3):(fH g).getD c default= []:=by
 match c,h with
 | 0,_=>rfl
 | 1,_=>rfl
 | 2,_=>rfl
theorem aa0{g:List (List Int)}(h: ¬c<3):(fH g).getD c default=g.getD (c - 3) default:=by
 obtain⟨k,rfl⟩:∃k,c=k+3:=⟨c - 3,ad⟩;rw[Nat.add_sub_cancel];rfl
theorem Q7(l:List Int)(x:Int):ba Tryz.prog 181 [aa.ints l,.i x] (.b (l.contains x)):=by
 intro H;refine bh (n:=18) Tryz.func181 λB I aO=>?_;refine aq.fi (t:=0) rfl (λhg=>?_);refine cT ?_;refine cq (λm st=>∃i:Nat,st=⟨[(5,.i i),(0,aa.ints l),(1,.i x)],H⟩/\m=l.length - i/\i<=l.length/\(l.take i).contains x=false) (⟨0,rfl,rfl,ad,rfl⟩) ?_;rintro m _ ⟨i,rfl,rfl,av,ak⟩;refine bS ?_;refine aZ (λai=>?_) λai=>?_
 ·have a1:i<l.length:=by omega
  refine eb ?_;refine aZ (λab=>?_) λab=>?_
  ·refine cw ?_;refine aS 4 (H) ?_;exact⟨bR (aaW a1 ab).symm,rfl⟩
  ·refine bs ?_;exact bV (⟨i+1,rfl,rfl,a1,aaV a1 ak ab⟩)
 ·obtain rfl:i=l.length:=by omega
  rw[List.take_length] at ak;refine cw ?_;refine aS 4 (H) ?_;exact⟨bR ak.symm,rfl⟩
theorem aa1(g:List (List Int)):ba Tryz.prog 144 [aa.bD g] (.b (gM g)):=by
 intro H;refine bh (n:=65) Tryz.func144 λB I aO=>?_;refine aq.fi (t:=0) rfl (λhg=>?_);refine ev ?_;refine aZ (λai=>?_) λai=>?_
 ·refine bn ?_;refine aS 2 (H) ?_;exact⟨bR (O1 ad).symm,rfl⟩
 ·have aa2:g.length<=16:=by omega
  refine bS ?_;refine cq (λm st=>∃i:Nat,st=⟨[(3,.i i),(0,aa.bD g)],H⟩/\m=g.length - i/\i<=g.length/\lg 0 (g.take i)=true) (⟨0,rfl,rfl,ad,rfl⟩) ?_;rintro m _ ⟨i,rfl,rfl,av,aP⟩;refine bS ?_;refine aZ (λab=>?_) λab=>?_
  ·have a1:i<g.length:=by omega
   refine fk ?_;refine aZ (λae=>?_) λae=>?_
   ·refine cT ?_;refine aS 2 (H) ?_;exact⟨bR (AW a1 (by rw[decide_eq_false ad];rfl)).symm,rfl⟩
   ·have aa3:(g.getD i default).length<=3:=by omega
    refine bs ?_;refine cq (λm st=>∃j:Nat,st=⟨[(4,.i j),(3,.i i),(0,aa.bD g)],H⟩/\m=(g.getD i default).length - j/\j<=(g.getD i default).length/\kD i [] ((g.getD i default).take j)=true) (⟨0,rfl,rfl,ad,rfl⟩) ?_;rintro m _ ⟨j,rfl,rfl,aU,nL⟩;refine cT ?_;refine aZ (λaD=>?_) λaD=>?_
    ·have c3:j<(g.getD i default).length:=by omega
     refine bz ?_;refine aq.bL mixed ?_;refine bk.b7 0 5 65 rfl ay rfl rfl ay ?_;refine oz ?_;refine bk.b7 9 18 65 rfl ay rfl rfl ay ?_;refine oz ?_;refine bk.b7 21 34 65 rfl ay rfl rfl ay ?_;refine bz ?_;refine bU.cb rfl rfl rfl rfl rfl (λal=>af.GQ rfl rfl tE rfl tE ad) ?_;refine bS ?_;refine au.cb rfl rfl rfl rfl rfl rfl (λal=>af.call (.mk' rfl rfl rfl rfl dv) (Q7 ((g.getD i default).take j) ((g.getD i default).getD j default))) ?_;refine bg ?_;refine aq.cond rfl (λaV=>?_) (λaV=>?_)
     ·rw[e7,e7] at aV;refine fk ?_;refine aS 2 (H) ?_;exact⟨bR (AW a1 (by rw[O2 c3 aV,Bool.and_false])).symm,rfl⟩
     ·rw[e7,e7] at aV;refine bs ?_;exact bV (⟨j+1,rfl,rfl,c3,aaX c3 nL aV⟩)
    ·obtain rfl:j=(g.getD i default).length:=by omega
     rw[List.take_length] at nL;refine cw ?_;exact bV (⟨i+1,rfl,rfl,a1,aaY a1 aP aa3 nL⟩)
  ·obtain rfl:i=g.length:=by omega
   rw[List.take_length] at aP;refine cw ?_;refine aS 2 (H) ?_;exact⟨bR (by rw[gM,aP,decide_eq_true aa2];rfl),rfl⟩
theorem aa4{g:List (List Int)}(al:g.length<=16)(ak:c<3+g.length):ba Tryz.prog 231 [aa.bD g,.i c] (aa.ints ((fH g).getD c default)):=by
 intro H;refine bh (n:=12) Tryz.func231 λB I aO=>?_;refine cT ?_;refine aZ (λai=>?_) λai=>?_
 ·have ai:c<3:=by omega
  refine bn ?_;refine aR.c5 (rs:=[.tmp 4]) (H':=H) rfl (.tmp rfl (.nil)) (.cons (aL.nil 1) .nil) b8 ?_;exact⟨by rw[aaZ ai];rfl,rfl⟩
 ·have ai: ¬c<3:=by omega
  refine ev ?_;refine aS 4 (H) ?_;exact⟨by rw[aa0 ai,show ((c:Int) - 3).toNat=c - 3 by omega];rfl,rfl⟩
theorem Q8(l:List Int)(ax:l.length<=1000000)(x:Int):ba Tryz.prog 232 [aa.ints l,.i x] (aa.ints (l.filter (· !=x))):=by
 intro H;refine bh (n:=27) Tryz.func232 λB I aO=>?_;refine hB ?_;refine aq.iq 5 3 1 rfl ?_;refine cq (λm st=>∃(i:Nat) (v:Value),st=⟨[(6,.i i),(5,.as (aa.ints ((l.take i).filter (· !=x))) v),(0,aa.ints l),(1,.i x)],.own 3 1 v::H⟩/\m=l.length - i/\i<=l.length) (⟨0,_,rfl,rfl,ad⟩) ?_;rintro m _ ⟨i,v,rfl,rfl,av⟩;refine bS ?_;refine aZ (λai=>?_) λai=>?_
 ·have a1:i<l.length:=by omega
  refine eb ?_;refine aZ (λab=>?_) λab=>?_
  ·have bq:(l.getD i default !=x)=true:=by simpa using ab
   refine aT ?_;refine au.bB (x:=.aF 1 [[.i (l.getD i default)]]) rfl rfl rfl (af.row rfl rfl c4 rfl rfl rfl rfl rfl rfl) ?_;refine au.gu rfl rfl rfl rfl rfl rfl rfl rfl (aL.refl _) (rfl) (λv=>by repeat (first | exact bu.head _ _ _ | apply bu.tail)) LN LN (λaa5=>?_);refine bS ?_;exact bV (⟨i+1,aa5,by rw[AT a1 bq],rfl,a1⟩)
  ·have bq:(l.getD i default !=x)=false:=by simpa using ab
   refine bs ?_;exact bV (⟨i+1,v,by rw[AU a1 bq],rfl,a1⟩)
 ·obtain rfl:i=l.length:=by omega
  rw[List.take_length];refine cT ?_;refine aR.c5 (rs:=[.tmp 4]) (H':=H) rfl (.tmp rfl (.nil)) (.cons (aL.hb _ _) .nil) b8 ?_;exact⟨dJ,rfl⟩
theorem aa6(all:List (List Int))(x:Int):ba Tryz.prog 233 [aa.bD all,.i x] (.b (vZ all x)):=by
 intro H;refine bh (n:=27) Tryz.func233 λB I aO=>?_;refine aq.fi (t:=0) rfl (λhg=>?_);refine cT ?_;refine cq (λm st=>∃i:Nat,st=⟨[(5,.i i),(0,aa.bD all),(1,.i x)],H⟩/\m=all.length - i/\i<=all.length/\((all.take i).any λm=>m.tail.contains x)=false) (⟨0,rfl,rfl,ad,rfl⟩) ?_;rintro m _ ⟨i,rfl,rfl,av,bN⟩;refine bS ?_;refine aZ (λai=>?_) λai=>?_
 ·have a1:i<all.length:=by omega
  refine hB ?_;refine au.cb rfl rfl rfl rfl rfl rfl (λal=>af.M6 (n:=1) rfl rfl (cL al) rfl (cL al) (by have:=of_decide_eq_true al;omega)) ?_;refine bt ?_;refine au.cb rfl rfl rfl rfl rfl rfl (λal=>af.call (.mk' rfl rfl rfl rfl dv) (Q7 ((all.getD i default).drop 1) x)) ?_;refine bg ?_;refine aq.cond rfl (λab=>?_) (λab=>?_)
  ·refine cw ?_;refine aS 4 (H) ?_;exact⟨bR (by rw[DQ,OY a1 (OZ ab)];rfl),rfl⟩
  ·refine bs ?_;exact bV (⟨i+1,rfl,rfl,a1,by rw[OS a1,bN,O0 ab];rfl⟩)
 ·obtain rfl:i=all.length:=by omega
  rw[List.take_length] at bN;refine cw ?_;refine aS 4 (H) ?_;exact⟨bR (by rw[DQ,bN];rfl),rfl⟩
def td(A:List (List Int)):Prop:=∀l∈A,∀x∈l,0<=x
theorem td.drop(h:td A)(x:Int):td (jS x A):=λl ax y hy=>by
 obtain⟨_,jz,ab,ae⟩:=H8 ax hy;exact h jz ab y ae
theorem td.head(h:td A){i:Nat}(av:i<A.length)(ax:0<(A.getD i default).length):0<=(A.getD i default).getD 0 default:=h _ (cp av) _ (cp ax)
structure qe(A:List (List Int))(i:Nat)(px:Option Int)(j8:Bool):Prop where
 j8:px=none->j8= !((A.take i).all List.isEmpty)
 no:px=none->kk A A=kk A (A.drop i)
 yes:∀h,px=some h->kk A A=some h/\0<=h/\∃l∈A,h∈l
theorem qe.begin(A:List (List Int)):qe A 0 none false:=⟨λ_=>rfl,λ_=>rfl,λh e=>by cases e⟩
theorem qe.empty{j8:Bool}(h:qe A i none j8)(av:i<A.length)(he:A.getD i default= []):qe A (i+1) none j8:=
 ⟨λ_=>by rw[AV av,he,h.j8 rfl];simp,λ_=>by rw[h.no rfl,yp av,OT he],λh e=>by cases e⟩
theorem qe.aa7{j8:Bool}(h:qe A i none j8)(av:i<A.length)(ax:0<(A.getD i default).length)(aP:vZ A ((A.getD i default).getD 0 default)=false):qe A (i+1) none true:=
 ⟨λ_=>by rw[AV av,OX ax,Bool.and_false];rfl,λ_=>by rw[h.no rfl,yp av,OU ax aP],λh e=>by cases e⟩
theorem qe.aa8{j8:Bool}(h:qe A i none j8)(aB:td A)(av:i<A.length)(ax:0<(A.getD i default).length)(aP:vZ A ((A.getD i default).getD 0 default)=true):qe A (i+1) (some ((A.getD i default).getD 0 default)) true:=
 ⟨λe=>(by cases e),λe=>(by cases e),λcf e=>by cases e;exact⟨by rw[h.no rfl,yp av,OV ax aP],aB.head av ax,_,cp av,cp ax⟩⟩
theorem aa9{h:Int}(ax:l∈A)(az:h∈l):total (jS h A)<total A:=by
 obtain⟨i,av,rfl⟩:=List.mem_iff_getElem.1 ax;exact H3 h A i av (by rw[List.getD_eq_getElem?_getD,List.getElem?_eq_getElem av];exact az)
theorem aba(all:List (List Int))(aB:td all)(ht:total all<=1000)(ax:all.length<=1000):ba Tryz.prog 208 [aa.bD all] (.bJ [aa.ints (mE all).1,.b (mE all).2]):=by
 intro H;refine bh (n:=65) Tryz.func208 λB I aO=>?_;refine cT ?_;refine aq.iq 4 3 1 rfl ?_;refine cq (λm st=>∃(A:List (List Int)) (out:List Int) (n:Nat) (v:Value),st=⟨[(0,aa.bD A),(4,.as (aa.ints out) v)],.own 3 1 v::H⟩/\m=n/\total A<n/\qY n A out=mE all/\total A+out.length<=total all/\A.length=all.length/\td A) (⟨all,[],total all+1,_,rfl,rfl,ad,rfl,bj,rfl,aB⟩) ?_;rintro m _ ⟨A,out,n,v,rfl,rfl,hn,hm,aau,cy,Q9⟩;obtain⟨n,rfl⟩:∃q,m=q+1:=⟨m - 1,ad⟩;refine eb ?_;refine cq (λm st=>∃(i:Nat) (px:Option Int) (j8:Bool),st=⟨[(7,.i i),(5,.i (px.getD (-1))),(6,.b j8),(0,aa.bD A),(4,.as (aa.ints out) v)],.own 3 1 v::H⟩/\m=A.length - i/\i<=A.length/\qe A i px j8) (⟨0,none,false,rfl,rfl,ad,.begin A⟩) ?_;rintro m _ ⟨i,px,j8,rfl,rfl,av,lT⟩;refine ev ?_;refine aq.cond rfl (λai=>?_) (λai=>?_)
 ·rw[Bool.cond_false_right,Bool.and_eq_true,decide_eq_true_eq,decide_eq_true_eq] at ai;obtain⟨ai,sF⟩:=ai;have a1:i<A.length:=by omega
  obtain rfl:px=none:=by
   cases px with
   | none=>rfl
   | some h=>have:=(lT.yes h rfl).2.1;simp only[Option.getD_some] at sF;omega
  refine eb ?_;refine aZ (λab=>?_) λab=>?_
  ·have wE:0<(A.getD i default).length:=by omega
   refine eb ?_;refine aG (af.call .k (aa6 A ((A.getD i default).getD 0 default))) ?_;refine bC ?_;refine aZ (λae=>?_) λae=>?_
   ·refine lL ?_;exact bV (⟨i+1,some ((A.getD i default).getD 0 default),true,rfl,rfl,a1,lT.aa8 Q9 a1 wE ae⟩)
   ·refine bs ?_;exact bV (⟨i+1,none,true,rfl,rfl,a1,lT.aa7 a1 wE ae⟩)
  ·have Ec:(A.getD i default)= []:=List.eq_nil_of_length_eq_zero ad;refine bs ?_;exact bV (⟨i+1,none,j8,rfl,rfl,a1,lT.empty a1 Ec⟩)
 ·rw[Bool.cond_false_right,Bool.and_eq_false_iff,decide_eq_false_iff_not,decide_eq_false_iff_not] at ai;refine cT ?_;refine aZ (λaD=>?_) λaD=>?_
  ·obtain rfl:px=none:=by
    cases px with
    | none=>rfl
    | some h=>have:=(lT.yes h rfl).2.1;simp only[Option.getD_some] at aD;omega
   obtain rfl:i=A.length:=by
    rcases ai with ai | ai
    ·omega
    ·exact absurd aD ai
   have q4:=lT.no rfl;have k2:=lT.j8 rfl;rw[List.drop_length] at q4;rw[List.take_length] at k2;refine eb ?_;refine aR.c5 (rs:=[.tmp 2,.tmp 3]) (H':=H) rfl (.tmp rfl (.tmp rfl (.nil))) (.cons (aL.hb _ _) (.cons (.refl _) .nil)) b8 ?_;exact⟨by rw[<-hm,H5 q4,k2,Bool.not_not];rfl,rfl⟩
  ·obtain⟨h,rfl⟩:∃h,px=some h:=by
    cases px with
    | none=>simp at aD
    | some h=>exact⟨h,rfl⟩
   obtain⟨IW,akS,eJ,rz,sx⟩:=lT.yes h rfl;rw[show (some h).getD (-1)=h from rfl];have cO:=aa9 rz sx;have hle:=DN h A;refine aT ?_;refine au.bB (x:=.aF 1 [[.i h]]) rfl rfl rfl (af.row rfl rfl c4 rfl rfl rfl rfl rfl rfl) ?_;refine au.gu rfl rfl rfl rfl rfl rfl rfl rfl (aL.refl _) (rfl) (λv=>by repeat (first | exact bu.head _ _ _ | apply bu.tail)) (by simp only[List.length_map,List.length_singleton] at*;omega) (by simp only[List.length_map,List.length_singleton] at*;omega) (λI5=>?_);refine fk ?_;refine aq.iq 8 23 1 rfl ?_;refine cq (λm st=>∃(k:Nat) (w:Value),st=⟨[(9,.i k),(0,aa.bD A),(8,.as (aa.bD (jS h (A.take k))) w),(5,.i h),(4,.as (.aF 1 ((out.map λn=>[aa.i n])++[[aa.i h]])) I5)],.own 23 1 w::.own 3 1 I5::H⟩/\m=A.length - k/\k<=A.length) (⟨0,_,rfl,rfl,ad⟩) ?_;rintro m _ ⟨k,w,rfl,rfl,ao⟩;refine bS ?_;refine aZ (λaV=>?_) λaV=>?_
   ·have dP:k<A.length:=by omega
    have aaw:=DO A k dP;refine cw ?_;refine aG (af.call .k (Q8 (A.getD k default) ad h)) ?_;refine au.bB (x:=.aF 1 [[aa.ints ((A.getD k default).filter (· !=h))]]) rfl rfl rfl (af.row rfl rfl c4 rfl rfl rfl rfl rfl rfl) ?_;refine au.gu rfl rfl rfl rfl rfl rfl rfl rfl (aL.refl _) (rfl) (λv=>by repeat (first | exact bu.head _ _ _ | apply bu.tail)) Cs Cs (λabb=>?_);refine bS ?_;exact bV (⟨k+1,abb,by rw[OW _ dP],rfl,dP⟩)
   ·obtain rfl:k=A.length:=by omega
    rw[List.take_length];refine bz ?_;refine aq.le 8 (y:=aa.bD (jS h A)) rfl (aL.hb _ _) ?_;refine bz ?_;exact bV (⟨jS h A,out++[h],n,I5,by rw[DP],rfl,ad,by rw[<-hm,H4 IW],CD,by rw[FV,cy],Q9.drop h⟩)
theorem abc(O:List (List Int))(k:Nat):O.getD k default=O.getD k []:=rfl
theorem abd{g:List (List Int)}(al:gM g=true){O:List (List Int)}(e6:pj O)(ak:O.length<3+g.length):ba Tryz.prog 207 [aa.bD g,aa.bD O,.i O.length] (.bJ [aa.bD ((lO O ((fH g).getD O.length default)).getD []),.b (lO O ((fH g).getD O.length default)).isSome]):=by
 intro H;refine bh (n:=44) Tryz.func207 λB I aO=>?_;obtain⟨bH,jh⟩:∃bH,bH=((fH g).getD O.length default):=⟨_,rfl⟩;have mf:=yr al O.length;have ly:=wc al;have yF:=aa4 ad ak;rw[<-jh] at mf yF ⊢;have mZ:=mf.1;refine fk ?_;refine aG (af.call .k (yF)) ?_;refine c6 ?_;refine aq.iq 8 23 1 rfl ?_;refine cq (λm st=>∃(i:Nat) (v:Value),st=⟨[(10,.i i),(9,aa.ints bH),(1,aa.bD O),(8,.as (aa.bD ((bH.take i).map (λp=>mF (O.getD p.toNat [])))) v)],.own 23 1 v::H⟩/\m=bH.length - i/\i<=bH.length/\∀p∈bH.take i,O.getD p.toNat []≠ []) (⟨0,_,rfl,rfl,ad,bj⟩) ?_;rintro m _ ⟨i,v,rfl,rfl,av,bq⟩;refine bS ?_;refine aZ (λai=>?_) λai=>?_
 ·have a1:i<bH.length:=by omega
  obtain⟨p,aB⟩:∃p,p=bH.getD i default:=⟨_,rfl⟩;have ta:p∈bH:=aB▸cp a1;have aaL:=mf.2 p ta;have gj:=e6.len p.toNat;have tF:bH.getD i default=p:=aB.symm;refine cT ?_;refine aG (LY) ?_;refine bz ?_;refine aq.cond rfl (λab=>?_) (λab=>?_)
  ·rw[tF] at ab;have he:O.getD p.toNat []= []:=List.eq_nil_of_length_eq_zero (by have:=beq_iff_eq.1 ab;exact Int.ofNat.inj this);refine ev ?_;refine aR.c5 (rs:=[.tmp 6,.tmp 7]) (H':=H) rfl (.tmp rfl (.tmp rfl (.nil))) (.cons (aL.nil 1) (.cons (.refl _) .nil)) b8 ?_;exact⟨by rw[Pa ta he];rfl,rfl⟩
  ·rw[tF] at ab;have he:O.getD p.toNat []≠ []:=λe=>by
    rw[show O.getD p.toNat default= [] from e] at ab;simp at ab
   refine bS ?_;refine aG (LY) ?_;refine bt ?_;refine aG (af.call .k ((by have h:=Q8 (O.getD p.toNat []) ad 0;rw[<-abc, <-tF] at h;exact h))) ?_;rw[tF];refine au.bB (x:=.aF 1 [[aa.ints (mF (O.getD p.toNat []))]]) rfl rfl rfl (af.row rfl rfl c4 rfl rfl rfl rfl rfl rfl) ?_;refine au.gu rfl rfl rfl rfl rfl rfl rfl rfl (aL.refl _) (rfl) (λv=>by repeat (first | exact bu.head _ _ _ | apply bu.tail)) oc oc (λabe=>?_);refine bS ?_;exact bV (⟨i+1,abe,by rw[Pk (λp=>mF (O.getD p.toNat [])) bH a1,tF],rfl,a1,λq bd=>by rw[<-eE a1,List.mem_append,List.mem_singleton,tF] at bd;rcases bd with bd | rfl;exact bq q bd;exact he⟩)
 ·obtain rfl:i=bH.length:=by omega
  rw[List.take_length] at bq ⊢;refine bS ?_;refine au.bB (x:=.aF 1 [[aa.ints bH]]) rfl rfl rfl (af.row rfl rfl c4 rfl rfl rfl rfl rfl rfl) ?_;refine au.gu rfl rfl rfl rfl rfl rfl rfl rfl (aL.refl _) (rfl) (λv=>by repeat (first | exact bu.head _ _ _ | apply bu.tail)) oc oc (λakT=>?_);refine bz ?_;refine aR.c5 (rs:=[.tmp 6,.tmp 7]) (H':=H) rfl (.tmp rfl (.tmp rfl (.nil))) (.cons (aL.hb _ _) (.cons (.refl _) .nil)) b8 ?_;exact⟨by rw[Pb bq];show _=aa.bJ [aa.aF 1 (List.map _ (_++_)),_];rw[List.map_append];rfl,rfl⟩
theorem abf{O:List (List Int)}{bH:List Int}{all:List (List Int)}(e6:pj O)(jh:AY O.length bH)(h:lO O bH=some all):td all:=by
 obtain⟨rfl,_⟩:=H9 h;intro l ax x ag;rcases List.mem_append.1 ax with h | h
 ·obtain⟨p,aB,rfl⟩:=List.mem_map.1 h;have s4:=jh.2 p aB;exact ((e6 p.toNat ad).AX x (List.mem_filter.1 ag).1).1
 ·simp at h;subst h;have:=jh.2 x ag;omega
theorem abg(l:List (List Int))(x:List Int):aa.bD (l++[x])= .aF 1 ((l.map λx=>[aa.ints x])++[[aa.ints x]]):=by
 show aa.aF 1 (List.map _ (_++_))=_;rw[List.map_append];rfl
theorem abh{g:List (List Int)}(al:gM g=true):ba Tryz.prog 182 [aa.bD g] (aa.bD (ux g)):=by
 intro H;refine bh (n:=44) Tryz.func182 λB I aO=>?_;have ly:=wc al;refine bn ?_;refine au.bB (x:=.aF 1 [[.i 0]]) rfl rfl rfl (af.row rfl rfl c4 rfl rfl rfl rfl rfl rfl) ?_;refine au.Ds rfl rfl rfl rfl c4 rfl rfl rfl rfl rfl rfl rfl (λv11=>?_);refine c6 ?_;refine cq (λm st=>∃(O:List (List Int)) (v:Value),st=⟨[(4,.i O.length),(3,.as (aa.bD O) v),(0,aa.bD g)],.own 23 1 v::H⟩/\m=3+g.length - O.length/\(1<=O.length/\O.length<=3+g.length)/\O=mc g O.length) (⟨[[0]],_,rfl,rfl,dj,rfl⟩) ?_;rintro m _ ⟨O,v,rfl,rfl,Ee,Eg⟩;refine c6 ?_;refine aZ (λai=>?_) λai=>?_
 ·have a1:O.length<3+g.length:=by omega
  have e6:pj O:=by have h:=A2 al O.length Ee.2;rwa [<-Eg] at h
  have mf:=yr al O.length;have gj:=(Ia e6 mf).len;have Bo:O.length≠0:=by omega
  have ng:=Pc a1;rw[<-Eg] at ng;refine eb ?_;refine aG (af.vv .k (.cons (.refl _) (.cons (aL.hb _ _) (.cons (.refl _) .nil))) (abd al e6 a1)) ?_;refine bn ?_;refine aq.oV (λst=>st=⟨[(5,aa.ints (km O O.length ((fH g).getD O.length default))),(4,.i O.length),(3,.as (aa.bD O) v),(0,aa.bD g)],.own 23 1 v::H⟩) ?_ ?_
  ·refine bz ?_;refine aq.cond rfl (λab=>?_) (λab=>?_)
   ·obtain⟨all,ax⟩:=Option.isSome_iff_exists.1 ab;obtain⟨wH,q6⟩:=O4 e6 mf.1 ax;rw[ax,Option.getD_some];refine bg ?_;refine aG (af.call .k (aba all (abf e6 mf ax) ad ad)) ?_;refine cT ?_;refine aq.cond rfl (λae=>?_) (λae=>?_)
    ·rw[DW Bo ax ae] at gj;simp only[List.length_cons,List.length_append,List.length_nil] at gj;refine bC ?_;refine au.Ds rfl rfl rfl rfl c4 rfl rfl rfl rfl rfl rfl rfl (λabi=>?_);refine au.le 34 (y:=.as (.aF 1 [[.i O.length]]) abi) rfl (aL.refl _) ?_;refine bt ?_;refine au.gu rfl rfl rfl rfl rfl rfl rfl rfl (aL.refl _) (yo _) (λv=>by repeat (first | exact bu.head _ _ _ | apply bu.tail)) dj dj (λakU=>?_);refine au.bB (x:=.aF 1 [[.i 0]]) rfl rfl rfl (af.row rfl rfl c4 rfl rfl rfl rfl rfl rfl) ?_;refine au.gu rfl rfl rfl rfl rfl rfl rfl rfl (aL.refl _) (rfl) (λv=>by repeat (first | exact bu.head _ _ _ | apply bu.tail)) dj dj (λQU=>?_);refine bC ?_;refine aR.le 5 (y:=aa.ints (km O O.length ((fH g).getD O.length default))) rfl (by rw[DW Bo ax ae,Pf];exact aL.hb _ _) ?_;exact gm rfl
    ·refine bt ?_;refine aR.le 5 (y:=aa.ints (km O O.length ((fH g).getD O.length default))) rfl (by rw[Ph Bo ax ae];exact aL.nil 1) ?_;exact gm rfl
   ·have ax:lO O ((fH g).getD O.length default)=none:=Option.not_isSome_iff_eq_none.1 (by rw[ab];simp);refine bt ?_;refine aR.le 5 (y:=aa.ints (km O O.length ((fH g).getD O.length default))) rfl (by rw[Pg Bo ax];exact aL.nil 1) ?_;exact gm rfl
  ·rintro _ rfl;refine bg ?_;refine au.bB (x:=.aF 1 [[aa.ints (km O O.length ((fH g).getD O.length default))]]) rfl rfl rfl (af.row rfl rfl c4 rfl rfl rfl rfl rfl rfl) ?_;refine au.gu rfl rfl rfl rfl rfl rfl rfl rfl (aL.refl _) (rfl) (λv=>by repeat (first | exact bu.head _ _ _ | apply bu.tail)) L0 L0 (λI6=>?_);refine bS ?_;exact bV (⟨O++[km O O.length ((fH g).getD O.length default)],I6,by rw[abg,List.length_append,List.length_singleton],by rw[List.length_append,List.length_singleton],CD,by rw[List.length_append,List.length_singleton,ng]⟩)
 ·have hle:O.length=3+g.length:=by omega
  rw[hle,A1] at Eg;refine cT ?_;refine aR.c5 (rs:=[.tmp 2]) (H':=H) rfl (.tmp rfl (.nil)) (.cons (aL.hb _ _) .nil) b8 ?_;exact⟨by rw[Eg];rfl,rfl⟩
theorem abj{g:List (List Int)}(al:gM g=true){c:Int}(ai:0<=c)(ak:c<3+g.length):ba Tryz.prog 145 [aa.bD g,.i c] (.bJ [aa.ints (fI g c),.b (!(fI g c).isEmpty)]):=by
 intro H;refine bh (n:=16) Tryz.func145 λB I aO=>?_;have ax:(ux g).length=3+g.length:=by have h:=uz (g:=g) (Nat.le_refl (3+g.length));rwa [A1] at h
 refine bS ?_;refine aG (af.call .k (abh al)) ?_;refine hB ?_;refine fR [.tmp 4,.tmp 5] (H) ?_;exact⟨by rw[show (ux g).getD c.toNat default=fI g c from rfl];cases fI g c <;> simp[kU],rfl⟩
instance:ui Tryz.prog 28 (4,1,.bool false):=⟨aM⟩
abbrev aa.da(o:List Bool):aa:=.aF 1 (o.map λx=>[aa.b x])
theorem abk{W:bb}(h:dm W=true){c:Int}(aD:3<=c)(ak:c<3+W.parents.length):ba Tryz.prog 163 [aa.world W,.i c] (aa.da (s9 W c.toNat)):=by
 intro H;refine bh (n:=48) Tryz.func163 λB I aO=>?_;have dD:=wo h;refine aq.qL (t:=0) (i:=0) rfl rfl (λhg=>?_);refine cT ?_;refine au.Ap (3+W.parents.length) rfl rfl rfl rfl rfl rfl rfl rfl ad ad Ms (λEh=>?_);refine bI ?_;rw[Y8];refine bg ?_;refine aG (af.m6 rfl rfl rfl rfl rfl ad) ?_;apply au.j9 rfl rfl rfl rfl rfl rfl rfl rfl rfl rfl
 (case hu=>repeat (first | exact bu.head _ _ _ | apply bu.tail));(case hfit=>exact P6 (i:=c.toNat) dj);(case hds=>exact P5 (i:=c.toNat) dj rfl)
 refine c6 ?_;refine cq (λm st=>∃(i:Int) (o:List Bool),st=⟨[(6,.i i),(5,.val (.slice (some ⟨Eh,0,none⟩) (3+W.parents.length) (3+W.parents.length))),(2,.ptr (dH W))],.aI Eh 4 (rV o)::H⟩/\m=(i - 2).toNat/\2<=i/\i<=c/\o.length=3+W.parents.length/\rU W (i - 2).toNat o=s9 W c.toNat) (⟨c,(List.replicate (3+W.parents.length) false).set c.toNat true,rfl,rfl,ad,ad,bj,by rw[s9,show (c - 2).toNat=c.toNat - 2 from by omega]⟩) ?_;rintro m _ ⟨i,o,rfl,rfl,k3,akV,gj,wD⟩;refine bn ?_;refine aZ (λai=>?_) λai=>?_
 ·have aB:=uF h (i:=(i - 3).toNat) ad;refine hB ?_;refine cq (λm st=>∃(j:Nat) (c7:List Bool),st=⟨[(29,.i j),(28,.i (W.parents.getD (i - 3).toNat default).length),(27,aa.ints (W.parents.getD (i - 3).toNat default)),(6,.i i),(5,.val (.slice (some ⟨Eh,0,none⟩) (3+W.parents.length) (3+W.parents.length))),(2,.ptr (dH W))],.aI Eh 4 (rV c7)::H⟩/\m=(W.parents.getD (i - 3).toNat default).length - j/\j<=(W.parents.getD (i - 3).toNat default).length/\c7.length=3+W.parents.length/\nc c7 i.toNat ((W.parents.getD (i - 3).toNat default).drop j)=nc o i.toNat (W.parents.getD (i - 3).toNat default)) (⟨0,o,rfl,rfl,ad,gj,rfl⟩) ?_;rintro m _ ⟨j,c7,rfl,rfl,aU,o3,iH⟩;refine bt ?_;refine aq.fi (t:=27) rfl (λmw=>?_);refine bz ?_;refine aZ (λab=>?_) λab=>?_
  ·refine cw ?_;have Ra:3<=(W.parents.getD (i - 3).toNat default).getD j default/\(W.parents.getD (i - 3).toNat default).getD j default<i:=by
    have:=aB ((W.parents.getD (i - 3).toNat default).getD j default) (hT ad);omega
   refine bz ?_;refine aG (af.m6 rfl rfl rfl rfl rfl ad) ?_;refine aG ((by first | exact af.eN rfl rfl rfl rfl | (apply af.lr rfl rfl rfl;(case hm=>repeat (first | exact .head _ | refine .tail _ ?_));(case hy=>exact P4 (i:=((W.parents.getD (i - 3).toNat default).getD j default).toNat) ad)))) ?_;refine bg ?_;refine au.cb rfl rfl rfl rfl rfl rfl (λal=>af.m6 rfl rfl (cL al) rfl (cL al) ad) ?_;refine au.cb rfl rfl rfl rfl rfl rfl (λal=>(by first | exact af.eN rfl rfl (cL al) rfl | (apply af.lr rfl rfl (cL al);(case hm=>repeat (first | exact .head _ | refine .tail _ ?_));(case hy=>exact P4 (i:=i.toNat) ad)))) ?_;refine bt ?_;refine aG (af.m6 rfl rfl rfl rfl rfl ad) ?_;apply au.j9 rfl rfl rfl rfl rfl rfl rfl rfl rfl rfl
   (case hu=>repeat (first | exact bu.head _ _ _ | apply bu.tail));(case hfit=>exact P6 (i:=((W.parents.getD (i - 3).toNat default).getD j default).toNat) ad);(case hds=>exact P5 (i:=((W.parents.getD (i - 3).toNat default).getD j default).toNat) ad rfl)
   refine bn ?_;exact bV (⟨j+1,c7.set ((W.parents.getD (i - 3).toNat default).getD j default).toNat (bif c7.getD ((W.parents.getD (i - 3).toNat default).getD j default).toNat false then true else c7.getD i.toNat false),rfl,rfl,ad,by rw[List.length_set];exact o3,by rw[<-Y7 ad];exact iH⟩)
  ·obtain rfl:j=(W.parents.getD (i - 3).toNat default).length:=by omega
   rw[List.drop_length,nc] at iH;refine cw ?_;exact bV (⟨i - 1,c7,rfl,rfl,ad,ad,o3,by rw[iH, <-wD,show (i - 2).toNat=(i - 3).toNat+1 from by omega,rU,show 3+(i - 3).toNat=i.toNat from by omega,show (i - 1 - 2).toNat=(i - 3).toNat from by omega]⟩)
 ·obtain rfl:i=2:=by omega
  rw[show ((2:Int) - 2).toNat=0 from rfl,rU] at wD;subst wD;refine aT ?_;rw[Y6];refine aq.qA (d:=5) (k:=1) rfl ey (by simp[gj]) (by intro e he;obtain⟨x,_,rfl⟩:=List.mem_map.1 he;rfl) ad Ms ?_;refine aT ?_;refine aS 4 (H) ?_;exact⟨dJ,rfl⟩
theorem Rb{W:bb}(h:dm W=true){a b:Int}(bN:jZ W a=true)(aw:jZ W b=true):ba Tryz.prog 120 [aa.world W,.i a,.i b] (.b (kG W a b)):=by
 intro H;refine bh (n:=24) Tryz.func120 λB I aO=>?_;have dD:=wo h;simp only[jZ,Bool.and_eq_true,decide_eq_true_eq] at bN aw;refine kC ?_;refine aZ (λai=>?_) λai=>?_
 ·refine bn ?_;refine aS 6 (H) ?_;exact⟨bR (by rw[D3];symm;rw[e7,Bool.or_eq_true,beq_iff_eq,beq_iff_eq] at ai;rcases ai with e | e;(· subst e;exact tJ h ad);(· subst e;exact Iw h ad)),rfl⟩
 ·refine bS ?_;refine aZ (λab=>?_) λab=>?_
  ·refine bn ?_;refine aS 6 (H) ?_;exact⟨bR (by rw[D3,rT ad];symm;rw[e7,Bool.or_eq_false_iff,beq_eq_false_iff_ne,beq_eq_false_iff_ne] at ai;rw[Bool.or_eq_false_iff,beq_eq_false_iff_ne,beq_eq_false_iff_ne];omega),rfl⟩
  ·refine aT ?_;refine aG (af.call .k (abk h ad ad)) ?_;refine bn ?_;refine aG ((by first | exact af.iQ rfl rfl rfl rfl rfl (by simp[P2];omega) | exact af.h1 rfl rfl rfl rfl rfl (by simp[P2];omega))) ?_;refine bz ?_;refine aS 6 (H) ?_;exact⟨bR (by rw[e7,Bool.or_eq_false_iff,beq_eq_false_iff_ne,beq_eq_false_iff_ne] at ai;exact P3 h ad ad ad),rfl⟩
theorem abl(f:Fact)(bm:∀k∈f.kids,∀n:Int,0<=n->n<=1000000->ba Tryz.prog 183 [aa.fact k,.i n] (.i (min (ej k:Int) (n+1))))(n:Int)(Bo:0<=n)(akW:n<=1000000):ba Tryz.prog 183 [aa.fact f,.i n] (.i (min (ej f:Int) (n+1))):=by
 intro H;refine bh (n:=31) Tryz.func183 λB I aO=>?_;refine aq.qL (t:=0) (i:=5) rfl rfl (λhg=>?_);refine kC ?_;refine cq (λm st=>∃(i:Nat) (x:Int),st=⟨[(6,.i i),(5,.i x),(2,.ptr (ix f)),(1,.i n)],H⟩/\m=f.kids.length - i/\i<=f.kids.length/\x=min (1+gf (f.kids.take i):Int) (n+1)) (⟨0,1,rfl,rfl,ad,by simp[gf];omega⟩) ?_;rintro m _ ⟨i,x,rfl,rfl,av,ag⟩;refine fk ?_;refine aq.cond rfl (λai=>?_) (λai=>?_)
 ·simp only[cond_true,Bool.cond_false_right,Bool.and_eq_true,decide_eq_true_eq] at ai;have ao:=Y4 (l:=f.kids) (j:=i) ad;refine eb ?_;refine aG (af.call .k (bm (f.kids.getD i default) (hT ad) _ ad ad)) ?_;refine c6 ?_;exact bV (⟨i+1,x+min (ej (f.kids.getD i default):Int) (n - x+1),rfl,rfl,ad,ad⟩)
 ·simp only[Bool.cond_false_right,Bool.and_eq_false_iff,decide_eq_false_iff_not] at ai;have ao:=wq f;have ax:gf (f.kids.take i)<=gf f.kids:=Y5 _;have vP:x=min (ej f:Int) (n+1):=by
   rcases ai with e | e
   ·have:i=f.kids.length:=by omega
    rw[this,List.take_length] at ag;omega
   ·omega
  refine cT ?_;refine aS 4 (H) ?_;exact⟨gp vP,rfl⟩
theorem abm:∀(f:Fact) (n:Int),0<=n->n<=1000000->ba Tryz.prog 183 [aa.fact f,.i n] (.i (min (ej f:Int) (n+1))):=Fact.p8 abl
theorem abn(f:Fact):ba Tryz.prog 147 [aa.fact f] (.i (min (ej f:Int) 25)):=by
 intro H;refine bh (n:=5) Tryz.func147 λB I aO=>?_;refine bS ?_;refine aG (af.call .k (abm f 24 ad ad)) ?_;refine bI ?_;refine aS 2 (H) ?_;exact⟨dJ,rfl⟩
theorem abo(f:Fact)(hn:ej f<=1000000)(bm:∀k∈f.kids,ba Tryz.prog 148 [aa.fact k] (.i (lj k))):ba Tryz.prog 148 [aa.fact f] (.i (lj f)):=by
 intro H;refine bh (n:=20) Tryz.func148 λB I aO=>?_;refine aq.qL (t:=0) (i:=5) rfl rfl (λhg=>?_);have aN:=P9 f;have akX:=Y9 f;refine qW ?_;refine cq (λm st=>∃(i:Nat) (x:Int),st=⟨[(9,.i i),(8,.i f.kids.length),(7,aa.facts f.kids),(3,.i x),(1,.ptr (ix f))],H⟩/\m=f.kids.length - i/\i<=f.kids.length/\x=lP (f.kids.take i)) (⟨0,0,rfl,rfl,ad,by simp[lP]⟩) ?_;rintro m _ ⟨i,x,rfl,rfl,av,ag⟩;refine aT ?_;refine aZ (λai=>?_) λai=>?_
 ·refine bs ?_;refine au.cG rfl rfl rfl rfl (λfo=>?_);refine aT ?_;refine aG (af.call .k (bm (f.kids.getD i default) (hT ad))) ?_;refine aG (af.max2 rfl rfl rfl rfl rfl rfl) ?_;refine bs ?_;exact bV (⟨i+1,if(lj (f.kids.getD i default):Int)>x then (lj (f.kids.getD i default):Int) else x,rfl,rfl,ad,by rw[<-eE ad,P8];split <;> omega⟩)
 ·obtain rfl:i=f.kids.length:=by omega
  rw[List.take_length] at ag;subst ag;refine ev ?_;refine aS 2 (H) ?_;exact⟨gp ad,rfl⟩
theorem abp:∀f:Fact,ej f<=1000000->ba Tryz.prog 148 [aa.fact f] (.i (lj f)):=Fact.p8 λf bm hn=>abo f hn λk ao=>bm k ao (by have:=Za ao;omega)
theorem abq(W:bb)(l:List Int):ba Tryz.prog 185 [aa.world W,aa.ints l] (.b (nQ W l)):=by
 intro H;refine bh (n:=26) Tryz.func185 λB I aO=>?_;refine aq.qL (t:=0) (i:=1) rfl rfl (λhg=>?_);refine aq.fi (t:=1) rfl (λgn=>?_);refine fk ?_;refine cq (λm st=>∃i:Nat,st=⟨[(9,.i i),(8,.i l.length),(7,aa.ints l),(2,.ptr (dH W)),(1,aa.ints l)],H⟩/\m=l.length - i/\i<=l.length/\(l.take i).all (nO W)=true) (⟨0,rfl,rfl,ad,rfl⟩) ?_;rintro m _ ⟨i,rfl,rfl,av,fe⟩;refine aT ?_;refine aZ (λai=>?_) λai=>?_
 ·refine yl ?_;refine aq.cond rfl (λab=>?_) (λab=>?_)
  ·have aH:nO W (l.getD i default)=false:=by rw[e7] at ab;simp only[Bool.or_eq_true,decide_eq_true_eq] at ab;simp only[nO,Bool.and_eq_false_iff,decide_eq_false_iff_not];omega
   refine cw ?_;refine aS 4 (H) ?_;exact⟨bR (by rw[nQ,P7 ad aH,Bool.and_false]),rfl⟩
  ·have aH:nO W (l.getD i default)=true:=by rw[e7] at ab;simp only[Bool.or_eq_false_iff,decide_eq_false_iff_not] at ab;simp only[nO,Bool.and_eq_true,decide_eq_true_eq];omega
   refine bn ?_;exact bV (⟨i+1,rfl,rfl,ad,by rw[<-eE ad,List.all_append,fe];simpa using aH⟩)
 ·obtain rfl:i=l.length:=by omega
  rw[List.take_length] at fe;refine eb ?_;refine aS 4 (H) ?_;exact⟨bR (by rw[nQ,fe,Bool.and_true,Bool.eq_iff_iff,decide_eq_true_iff,decide_eq_true_iff];omega),rfl⟩
theorem abr{W:bb}(dD:W.parents.length<=60)(f:Fact)(bm:∀k∈f.kids,ba Tryz.prog 149 [aa.world W,aa.fact k] (.b (eT W k))):ba Tryz.prog 149 [aa.world W,aa.fact f] (.b (eT W f)):=by
 intro H;refine bh (n:=103) Tryz.func149 λB I aO=>?_;refine aq.qL (t:=1) (i:=5) rfl rfl (λhg=>?_);refine aq.qL (t:=1) (i:=2) rfl rfl (λgn=>?_);refine cT ?_;refine aq.oV (λst=>∃fc:Int,st=⟨[(5,.i fc),(3,.ptr (ix f)),(2,.ptr (dH W))],H⟩/\pr W f fc) ?_ ?_
 ·refine ev ?_;refine aZ (λai=>?_) λai=>?_
  ·refine bS ?_;refine au.cb rfl rfl rfl rfl rfl rfl (λal=>af.call (.mk' rfl rfl rfl rfl dv) (ZP W _ dD)) ?_;refine bI ?_;refine aZ (λab=>?_) λab=>?_
   ·refine bs ?_;refine aS 4 (H) ?_;exact⟨bR (wu (Qc ai ab)).symm,rfl⟩
   ·refine bC ?_;exact gm ⟨0,rfl,Qb ai ab⟩
  ·refine bn ?_;refine aZ (λae=>?_) λae=>?_
   ·refine bC ?_;refine aq.cond rfl (λaD=>?_) (λaD=>?_)
    ·replace aD:=dZ aD;refine hB ?_;refine aZ (λaV=>?_) λaV=>?_
     ·refine bs ?_;refine aS 4 (H) ?_;exact⟨bR (wu (IB (.inl ae) aV)).symm,rfl⟩
     ·refine bC ?_;exact gm ⟨0,rfl,IA (.inl ae) aV⟩
    ·exact absurd ae (by simpa using aD)
   ·refine bz ?_;refine aZ (λbl=>?_) λbl=>?_
    ·refine hB ?_;refine aZ (λcP=>?_) λcP=>?_
     ·refine bs ?_;refine aS 4 (H) ?_;exact⟨bR (wu (IB (.inr bl) cP)).symm,rfl⟩
     ·refine bC ?_;exact gm ⟨0,rfl,IA (.inr bl) cP⟩
    ·refine aT ?_;refine aZ (λdi=>?_) λdi=>?_
     ·refine bC ?_;exact gm ⟨0,rfl,Bd ad (by rw[di];rfl)⟩
     ·refine aT ?_;refine aZ (λeW=>?_) λeW=>?_
      ·refine bI ?_;exact gm ⟨1,rfl,Bd ad (by rw[eW];rfl)⟩
      ·refine bn ?_;refine aZ (λcQ=>?_) λcQ=>?_
       ·refine bC ?_;refine aq.cond rfl (λfC=>?_) (λfC=>?_)
        ·replace fC:=dZ fC;refine bI ?_;exact gm ⟨2,rfl,Bd ad (by rw[cQ];rfl)⟩
        ·exact absurd cQ (by simpa using fC)
       ·refine bz ?_;refine aZ (λk1=>?_) λk1=>?_
        ·refine bI ?_;exact gm ⟨2,rfl,Bd ad (by rw[k1];rfl)⟩
        ·refine bs ?_;refine aS 4 (H) ?_;exact⟨bR (wu (Qd ad)).symm,rfl⟩
 ·rintro _ ⟨fc,rfl,jV⟩;refine oz ?_;refine au.cb rfl rfl rfl rfl rfl rfl (λal=>af.call (.mk' rfl rfl rfl rfl dv) (abq W f.path)) ?_;refine bI ?_;refine aZ (λnf=>?_) λnf=>?_
  ·refine bn ?_;refine aS 4 (H) ?_;exact⟨bR (by rw[IE] at nf;exact (wu (by rw[D5 jV];simp only[Bool.not_eq_true'] at nf;rw[nf];rfl)).symm),rfl⟩
  ·have uG:((f.kids.length:Int)==fc && iK W f)=true:=by rw[IE] at nf;simpa using nf
   refine aT ?_;refine aG (af.call .k (Qz f)) ?_;refine yl ?_;refine aZ (λps=>?_) λps=>?_
   ·refine bn ?_;refine aS 4 (H) ?_;exact⟨bR (by rw[IF jV uG] at ps;exact (wu (by simpa using ps)).symm),rfl⟩
   ·have eF:fz W f=true:=by rw[IF jV uG] at ps;simpa using ps
    refine cT ?_;refine cq (λm st=>∃(i:Nat),st=⟨[(94,.i i),(93,.i f.kids.length),(92,aa.facts f.kids),(3,.ptr (ix f)),(2,.ptr (dH W))],H⟩/\m=f.kids.length - i/\i<=f.kids.length/\(f.kids.take i).all (eT W)=true) (⟨0,rfl,rfl,ad,rfl⟩) ?_;rintro m _ ⟨i,rfl,rfl,av,fe⟩;refine aT ?_;refine aZ (λtc=>?_) λtc=>?_
    ·refine bs ?_;refine au.cG rfl rfl rfl rfl (λfo=>?_);refine bn ?_;refine aG (af.call .k (bm (f.kids.getD i default) (hT ad))) ?_;refine bg ?_;refine aZ (λq3=>?_) λq3=>?_
     ·refine cw ?_;refine aS 4 (H) ?_;exact⟨bR (Qe (i:=i) ad (by simpa using q3)).symm,rfl⟩
     ·refine bn ?_;exact bV (⟨i+1,rfl,rfl,ad,by rw[<-eE ad,List.all_append,fe];simpa using q3⟩)
    ·obtain rfl:i=f.kids.length:=by omega
     rw[List.take_length] at fe;refine cw ?_;refine aS 4 (H) ?_;exact⟨bR (Qf eF fe).symm,rfl⟩
theorem abt{W:bb}(dD:W.parents.length<=60):∀f:Fact,ba Tryz.prog 149 [aa.world W,aa.fact f] (.b (eT W f)):=Fact.p8 (abr dD)
theorem abu{W:bb}(dD:W.parents.length<=60)(f:Fact):ba Tryz.prog 95 [aa.world W,aa.fact f] (.b (decide (ej f<=24) && decide (lj f<=12) && eT W f)):=by
 intro H;refine bh (n:=18) Tryz.func95 λB I aO=>?_;refine c6 ?_;refine aG (af.call .k (abn f)) ?_;refine bg ?_;refine au.cb rfl rfl rfl rfl rfl rfl (λal=>af.call (.mk' rfl rfl rfl rfl dv) (abp f tI)) ?_;refine bz ?_;refine au.cb rfl rfl rfl rfl rfl rfl (λal=>af.call (.mk' rfl rfl rfl rfl dv) (abt dD f)) ?_;refine bz ?_;refine aS 4 (H) ?_;exact⟨bR (by rw[show decide (min (ej f:Int) 25<=24)=decide (ej f<=24) from by rw[decide_eq_decide];omega,show decide ((lj f:Int)<=12)=decide (lj f<=12) from by rw[decide_eq_decide];omega];cases decide (ej f<=24) <;> cases decide (lj f<=12) <;> rfl),rfl⟩
theorem Rc(h:dm W=true){s:Nat}(aH:s<W.owner.length):3<=W.owner.getD s default/\W.owner.getD s default<3+W.parents.length:=by
 simp only[dm,Bool.and_eq_true] at h;have:=List.all_eq_true.1 h.2 _ (cp aH);simpa only[vX,Bool.and_eq_true,decide_eq_true_eq] using this
def uP(W:Fc.bb)(c:Int)(s:Nat):Bool:=kG W c (W.owner.getD s default)
def rX(W:Fc.bb)(c:Int)(n:Nat):List Int:=((List.range n).filter (uP W c)).map λ(s:Nat)=>(s:Int)
theorem abv(W:Fc.bb)(c:Int):rX W c W.owner.length=uO W c:=rfl
theorem Vw(W:Fc.bb)(c:Int)(n:Nat):(rX W c n).length<=n:=by
 rw[rX,List.length_map];exact Nat.le_trans (List.length_filter_le _ _) bj
theorem abw{c:Int}{n:Nat}(h:uP W c n=true):aa.ints (rX W c (n+1))= .aF 1 (((rX W c n).map λn=>[aa.i n])++[[aa.i (n:Int)]]):=by
 rw[rX,List.range_succ,List.filter_append,List.map_append];rw[show [n].filter (uP W c)= [n] by simp[h]];exact DP _ _
theorem abx{c:Int}{n:Nat}(h:uP W c n=false):rX W c (n+1)=rX W c n:=by
 rw[rX,List.range_succ,List.filter_append,show [n].filter (uP W c)= [] by simp[h],List.append_nil];rfl
theorem Re{α:Type}[Inhabited α]{l:List α}{i:Nat}{p:α->Bool}(av:i<l.length)(h:(l.take i).all p=true)(ae:p (l.getD i default)=true):(l.take (i+1)).all p=true:=by rw[AV av,h,ae];rfl
theorem Rf{α:Type}[Inhabited α]{l:List α}{i:Nat}{p:α->Bool}(av:i<l.length)(ae:p (l.getD i default)=false):l.all p=false:=by
 rw[List.all_eq_false];exact⟨_,cp av,by rw[ae];simp⟩
theorem Rg(h:dm W=true){c:Int}(aD:3<=c)(ak:c<3+W.parents.length){s:Nat}(aH:s<W.owner.length):ba Tryz.prog 85 [aa.world W,.i c,.i s] (.b (uP W c s)):=by
 intro H;refine bh (n:=19) Tryz.func85 λB I aO=>?_;have aA:=Rc h aH;refine bn ?_;refine aq.bL mixed ?_;refine cT ?_;refine bk.b7 3 10 19 rfl ay rfl rfl ay ?_;refine bS ?_;refine au.cb rfl rfl rfl rfl rfl rfl (λal=>af.call (.mk' rfl rfl rfl rfl dv) (Rb h (a:=c) (b:=(W.owner.getD s default)) F2 F2)) ?_;refine bz ?_;refine aS 6 (H) ?_;exact⟨bR (by rw[decide_eq_true (show c>=3 from aD)];rfl),rfl⟩
theorem akY(h:dm W=true){c:Int}(aD:3<=c)(ak:c<3+W.parents.length):ba Tryz.prog 190 [aa.world W,.i c] (aa.ints (uO W c)):=by
 intro H;refine bh (n:=23) Tryz.func190 λB I aO=>?_;have gj:=Bk h;refine qW ?_;refine aq.iq 5 3 1 rfl ?_;refine cq (λm st=>∃(i:Nat) (v:Value),st=⟨[(10,.i i),(9,.i W.owner.length),(5,.as (aa.ints (rX W c i)) v),(2,.ptr (dH W)),(1,.i c)],.own 3 1 v::H⟩/\m=W.owner.length - i/\i<=W.owner.length) (⟨0,_,rfl,rfl,ad⟩) ?_;rintro m _ ⟨i,v,rfl,rfl,av⟩;refine aT ?_;refine aZ (λai=>?_) λai=>?_
 ·have a1:i<W.owner.length:=by omega
  refine fk ?_;refine aG (af.call .k (Rg h aD ak a1)) ?_;refine bC ?_;refine aq.cond rfl (λab=>?_) (λab=>?_)
  ·refine bg ?_;refine au.bB (x:=.aF 1 [[.i i]]) rfl rfl rfl (af.row rfl rfl c4 rfl rfl rfl rfl rfl rfl) ?_;refine au.gu rfl rfl rfl rfl rfl rfl rfl rfl (aL.refl _) (rfl) (λv=>by repeat (first | exact bu.head _ _ _ | apply bu.tail)) Mc Mc (λv20=>?_);refine bs ?_;exact bV (⟨i+1,v20,by rw[abw ab],rfl,a1⟩)
  ·refine bn ?_;exact bV (⟨i+1,v,by rw[abx ab],rfl,a1⟩)
 ·obtain rfl:i=W.owner.length:=by omega
  rw[abv];refine cT ?_;refine aR.c5 (rs:=[.tmp 4]) (H':=H) rfl (.tmp rfl (.nil)) (.cons (aL.hb _ _) .nil) b8 ?_;exact⟨dJ,rfl⟩
theorem aby(f:Fact)(aP:oA f=true)(bm:∀k∈f.kids,ba Tryz.prog 96 [aa.fact k] (.i (oB k))):ba Tryz.prog 96 [aa.fact f] (.i (oB f)):=by
 intro H;refine bh (n:=24) Tryz.func96 λB I aO=>?_;rw[DR];obtain⟨D7,Bi,ao⟩:=DS aP;refine cw ?_;refine aq.oV (λst=>st=⟨[(3,.i (hQ f)),(1,.ptr (ix f))],H⟩) ?_ ?_
 ·refine bg ?_;refine aG (af.call .k (Qz f)) ?_;refine bC ?_;refine aq.cond rfl (λai=>?_) (λai=>?_)
  ·have bN:hQ f=f.arg+1:=by unfold hQ;rw[if_pos CM]
   rw[bN] at D7 Bi;refine aT ?_;refine aR.le 3 (y:=.i (hQ f)) rfl (aL.dx (by rw[bN])) ?_;exact gm rfl
  ·have bN:hQ f=0:=by unfold hQ;rw[if_neg CM]
   refine bt ?_;refine aR.le 3 (y:=.i (hQ f)) rfl (aL.dx (by rw[bN])) ?_;exact gm rfl
 ·rintro _ rfl;refine c6 ?_;refine aq.fi (t:=12) rfl (λakZ=>?_);refine cq (λm st=>∃j:Nat,st=⟨[(14,.i j),(13,.i f.kids.length),(12,aa.facts f.kids),(3,.i (oC (f.kids.take j) (hQ f)))],H⟩/\m=f.kids.length - j/\j<=f.kids.length) (⟨0,rfl,rfl,ad⟩) ?_;rintro m _ ⟨j,rfl,rfl,aU⟩;refine aT ?_;refine aZ (λab=>?_) λab=>?_
  ·have c3:j<f.kids.length:=by omega
   have gv:=cp c3;have ng:=H6 (f.kids.getD j default) (f.kids.take j) (hQ f);rw[eE c3] at ng;refine bs ?_;refine au.cG rfl rfl rfl rfl (λuw=>?_);refine bg ?_;refine aq.ep (d:=5) rfl ey ?_;refine bg ?_;refine aG (af.call .k (bm _ gv)) ?_;refine aG (af.max2 rfl rfl rfl rfl rfl rfl) ?_;refine bI ?_;refine aq.le 3 (y:=.i (oC (f.kids.take (j+1)) (hQ f))) rfl (aL.dx (by rw[ng,Int.max_def];split <;> (try split) <;> omega)) ?_;refine bI ?_;exact bV (⟨j+1,rfl,rfl,ad⟩)
  ·obtain rfl:j=f.kids.length:=by omega
   rw[List.take_length];refine cT ?_;refine aS 2 (H) ?_;exact⟨dJ,rfl⟩
theorem abz:∀f:Fact,oA f=true->ba Tryz.prog 96 [aa.fact f] (.i (oB f)):=Fact.p8 λf bm aP=>aby f aP λk ao=>bm k ao ((DS aP).2.2 k ao)
theorem abA(dD:W.parents.length<=60)(f:Fact):ba Tryz.prog 95 [aa.world W,aa.fact f] (.b (mD W f)):=by rw[<-Zb];exact abu dD f
end Go.Proofs.YtodccgailpkgeaaGreat

