/- A part of the proof. No condition. -/
import Derived.Test.YtodccgailpkgeaaGreatKindInfersP11
set_option linter.defProp false
set_option maxHeartbeats 1000000
set_option linter.unusedVariables false
set_option linter.unusedSimpArgs false
set_option maxRecDepth 10000
namespace Go.Proofs.YtodccgailpkgeaaGreat
open Go.Proofs.Tryz
open Go.Eng
open Go.Eng.Fc
open Go.Eng.dN
instance:qT prog 222 (3,23):=⟨ay,ay⟩
instance:uU prog 23 aL:=⟨ay⟩
abbrev kI(cP bp:Nat)(g:List ak)(U:ab):bn:=.au cP 224 [ab.bm (e6 g),U,.val (.map (some bp))]
def Pf{g}(aw:fX g){c}(a1:c<3+g.length){O}{l}(E:ob O)(N:O.length=c)(s:mH l O)(z bp)(U):
  hP prog [kI z bp g U,dW bp l] 229 [.p z 0,.i c] (.bk [.bm ((kF O ((e6 g).getD c default)).getD []),.b (kF O ((e6 g).getD c default)).isSome]):=by
 intro H hm;refine aM func229 λB I bW=>?_;obtain⟨bZ,tE⟩:∃bZ,bZ=((e6 g).getD c default):=iO;have k5:=xg aw c;rw[<-tE] at k5 ⊢;have K:=u6 aw;refine gL ?_;refine ag ((by first | exact .cF rfl rfl rfl rfl | (apply ad.ij rfl rfl rfl;(case hm=>exact hm _ dv);(case hy=>rfl)))) ?_;refine aR ?_;refine ag (KD) ?_;refine ax ?_;rw[show (e6 g).getD c default=bZ from tE.symm];have lU:=k5.1;refine hh 6 23 1 ?_;refine bo (λm st=>∃(i:Nat) (v:Value),st=⟨[(17,.i i),(16,.i bZ.length),(15,.ints bZ),(0,.p z 0),(1,.i c),(6,.as (.bm ((bZ.take i).map (λp=>lC (O.getD p.toNat [])))) v)],.own 23 1 v::H⟩/\m=bZ.length - i/\i<=bZ.length/\∀p∈bZ.take i,O.getD p.toNat []≠ []) ⟨0,_,rfl,rfl,aa,aS⟩ ?_;rintro m _ ⟨i,v,rfl,rfl,Q,h⟩;refine ax ?_;refine az (λaf=>?_) λaf=>?_
 ·have f:i<bZ.length:=by omega
  obtain⟨p,ck⟩:∃p,p=bZ.getD i default:=iO;have xr:p∈bZ:=ck▸bI f;have Ht:=k5.2 p xr;have L:=E.len p.toNat;refine dk ?_;rw[<-ck];refine aY ?_;refine ag EN ?_;refine aR ?_;refine ag (.tm rfl rfl rfl rfl rfl (.tail _ (hm _ uX)) s.ok ey) ?_;refine .le 26 (y:=.ints (O.getD p.toNat [])) rfl (s.look p aa) ?_;refine aY ?_;refine az (λae=>?_) λae=>?_
  ·have A:O.getD p.toNat []= []:=List.eq_nil_of_length_eq_zero aa;refine dk ?_;refine .cg (rs:=[.tmp 4,.tmp 5]) (H':=H) rfl qV GD bC ?_;exact⟨by rw[Ny xr A];rfl,rfl⟩
  ·have A:O.getD p.toNat []≠ []:=λe=>by rw[e] at ae;simp at ae
   refine aP ?_;refine ag EN ?_;refine aR ?_;refine ag (.tm rfl rfl rfl rfl rfl (.tail _ (hm _ uX)) s.ok ey) ?_;refine .le 35 (y:=.ints (O.getD p.toNat [])) rfl (s.look p aa) ?_;refine ag (.call .k (Zp _ aa)) ?_;refine .cn (x:=.ai 1 [[.ints (lC (O.getD p.toNat []))]]) rfl rfl rfl h7 ?_;refine aj.dJ rfl rfl rfl rfl rfl rfl rfl rfl (an.refl _) (rfl) (λ_=>df) m1 m1 λC7=>?_;refine aI ?_;exact aW (⟨i+1,C7,by rw[NI (λp=>lC (O.getD p.toNat [])) bZ f, <-ck],rfl,f,λq cd=>by rw[<-c2 f,List.mem_append,List.mem_singleton, <-ck] at cd;rcases cd with cd | rfl;exact h q cd;exact A⟩)
 ·obtain rfl:i=bZ.length:=by omega
  rw[List.take_length] at h ⊢;refine bE ?_;refine ag EN ?_;refine aR ?_;refine ag KD ?_;refine aR ?_;refine .cn (x:=.ai 1 [[.ints ((e6 g).getD c default)]]) rfl rfl rfl h7 ?_;refine aj.dJ rfl rfl rfl rfl rfl rfl rfl rfl (an.refl _) (rfl) (λ_=>df) m1 m1 λv49=>?_;refine aT ?_;refine .cg (rs:=[.tmp 4,.tmp 5]) (H':=H) rfl qV w9 bC ?_;exact⟨by rw[Nz h, <-tE];show _=ab.bk [.ai 1 (List.map _ (_++_)),_];rw[List.map_append];rfl,rfl⟩
def ZF{g}(aw:fX g){O}(a1:O.length<3+g.length){l}(xt:ob O)(da:mH l O)(cP bp)(U)(H):
  bO prog 205 [.p cP 0,.i O.length] (kI cP bp g U::dW bp l::H) (λ_ H'=>∃C8,mH C8 (O++[iS O O.length ((e6 g).getD O.length default)])/\H'=kI cP bp g U::dW bp C8::H) (λ_ _=>False):=by
 refine aM func205 λB I bW=>?_;have BG:=u6 aw;have k5:=xg aw O.length;have mM:=(GV xt k5).len;refine aP ?_;refine az (λaf=>?_) λaf=>?_
 ·have af:O.length=0:=by omega
  refine ax ?_;refine ag h7 ?_;refine .iu (u':=.ints [0]) rfl rfl (.inl rfl) rfl rfl rfl rfl rfl rfl gu MT da.ok ey ?_;refine aY ?_;refine dL [] (kI cP bp g U::dW bp (eP l 0 (.ints [0]))::H) ?_;exact⟨_,by rw[Xz af];have:=da.put (x:=[0]) aS aa;rwa [af] at this,rfl⟩
 ·have af:O.length≠0:=by omega
  refine aF ?_;rcases br:kF O ((e6 g).getD O.length default) with _ | all
  ·refine aF ?_;refine ag (.hX .k cL (by have h:=Pf aw a1 xt rfl da cP bp U;rw[br] at h;exact h) NH) ?_;refine c4 ?_;refine bc (λae=>?_) λae=>?_
   ·replace ae:=dC ae;refine aO ?_;refine dL [] (kI cP bp g U::dW bp l::H) ?_;exact⟨l,by rw[NF af br];exact da.skip,rfl⟩
   ·simp at ae
  ·obtain⟨vn,p1⟩:=Ns xt k5.1 br;refine aF ?_;refine ag (.hX .k cL (by have h:=Pf aw a1 xt rfl da cP bp U;rw[br] at h;exact h) NH) ?_;refine c4 ?_;refine bc (λao=>?_) λao=>?_
   ·simp at ao
   ·replace ao:=dC ao;refine aT ?_;refine ag (.call .k (Zr all aa aa)) ?_;refine bR ?_;refine az (λaV=>?_) λaV=>?_
    ·have aV:(lB all).2=true:=aV;rw[CU af br aV] at mM;simp[List.length_cons,List.length_append,List.length_nil] at mM;refine .cw mixed ?_;refine .r5 (X:=n2) [⟨6,35,false⟩,⟨8,37,false⟩,⟨10,39,false⟩] (λJ=>match J with | [some v,none,none]=>.own 3 1 v::kI cP bp g U::dW bp l::H | [_,some v,none]=>.own 3 1 v::kI cP bp g U::dW bp l::H | [_,_,some v]=>.own 3 1 v::kI cP bp g U::dW bp l::H | _=>kI cP bp g U::dW bp l::H) (λq J=>match q,J with | 0,[some v,_,_]=>.as (.ai 1 [[.i (O.length:Int)]]) v | 1,[_,some v,_]=>.as (.ai 1 ([[.i (O.length:Int)]]++((lB all).1.map λn=>[.i n]))) v | 2,[_,_,some v]=>.as (.ai 1 ([[.i (O.length:Int)]]++((lB all).1.map λn=>[.i n])++[[.i 0]])) v | _,_=>.any) 0 11 40 rfl aq aq rfl rfl aq rfl (λ_ _ _ _ _ _ _ _ _ h=>h.elim) ?_;refine cj [[true,true,true],[true,true,false],[true,false,false],[false,false,false]] ⟨λf=>.move rfl rfl rfl,λf=>.move rfl rfl rfl,λf=>.move rfl rfl rfl,λf=>.move rfl rfl rfl,trivial⟩ ?_;refine cj [[true,true,true],[true,true,false],[true,false,false],[false,false,false]] ⟨λf=>fT,λf=>fT,λf=>fT,λf=>fT,trivial⟩ ?_;refine cj [[true,true,true],[true,true,false],[true,false,false],[false,false,false]] ⟨λf=>b5,λf=>b5,λf=>b5,λf=>b5,trivial⟩ ?_;refine cj [[true,true,true],[true,true,false],[true,false,false],[false,false,false]] ⟨λf=>cJ,λf=>cJ,λf=>cJ,λf=>cJ,trivial⟩ ?_;refine cj [[true,true,true],[true,true,false],[true,false,false],[false,false,false]] ⟨λf=>.move rfl rfl rfl,λf=>.move rfl rfl rfl,λf=>.move rfl rfl rfl,λf=>.move rfl rfl rfl,trivial⟩ ?_;refine cj [[false,false,false]] ⟨λf=>.move rfl rfl rfl,trivial⟩ ?_;refine cH.j4 0 [[false,false,false]] rfl rfl rfl aq rfl rfl rfl ⟨λf=>⟨.uS rfl rfl rfl rfl rfl rfl rfl rfl rfl (λ_=>rfl) (λ_=>rfl),hI⟩,trivial⟩ ?_;refine cj [[true,false,false],[false,false,false]] ⟨λf=>.move rfl rfl rfl,λf=>.move rfl rfl rfl,trivial⟩ ?_;refine cH.j4 1 [[true,false,false]] rfl rfl rfl aq rfl rfl rfl ⟨λf=>⟨.own rfl rfl rfl gu rfl rfl gu (sa _) cB cB (λ_=>.head _ _ _) (λ_=>rfl),hI⟩,trivial⟩ ?_;refine cj [[true,true,false],[true,false,false],[false,false,false]] ⟨λf=>.row rfl rfl cC rfl rfl rfl rfl rfl rfl,λf=>.row rfl rfl cC rfl rfl rfl rfl rfl rfl,λf=>.row rfl rfl cC rfl rfl rfl rfl rfl rfl,trivial⟩ ?_;refine cH.j4 2 [[true,true,false]] rfl rfl rfl aq rfl rfl rfl ⟨λf=>⟨.own (news:=[[.i 0]]) rfl rfl rfl gu rfl rfl gu rfl cB cB (λ_=>.head _ _ _) (λ_=>rfl),hI⟩,trivial⟩ ?_;refine cH.nil λf=>?_;simp only[kD,List.map_cons,List.map_nil,List.cons_append,List.nil_append];refine aR ?_;refine .le 39 (y:=.ints ((O.length:Int)::((lB all).1++[0]))) rfl (by rw[ND];exact .e2 _ _) ?_;refine .iu rfl rfl (.inl rfl) rfl rfl rfl rfl rfl rfl gu Xo da.ok ey ?_;refine aR ?_;refine gM [] (kI cP bp g U::dW bp (eP l O.length (.ints ((O.length:Int)::((lB all).1++[0]))))::H) ?_;exact⟨_,by rw[CU af br aV];exact da.put aS aa,rfl⟩
    ·have aV:(lB all).2=false:=aV;refine aR ?_;refine gM [] (kI cP bp g U::dW bp l::H) ?_;exact⟨l,by rw[NG af br aV];exact da.skip,rfl⟩
instance:th prog 29 (23,24,aL):=⟨ay⟩
def ZG{g:List ak}(G:fX g){cs:ak}(P:∀c∈cs,0<=c/\c<3+g.length)(a5:cs.length<=1000000)(H:aA):bO prog 177 [ab.bm g,ab.ints cs] H
  (λy H'=>∃cP bp l U,y= .bk [.p cP 0,.b true]/\mH l (ts g)/\H'=kI cP bp g U::dW bp l::H) (λ_ _=>False):=by
 refine aM (n:=104) func177 λB I bW=>?_;have fw:=u6 G;refine bY ?_;refine ag (ad.call .k (Hi g)) ?_;refine aF ?_;refine bc (λaf=>?_) (λaf=>?_)
 ·simp[G] at af
 ·replace af:=dC af;refine bE ?_;refine bo (λm st=>∃i:Nat,st=⟨[(20,.i i),(19,.i cs.length),(18,ab.ints cs),(0,ab.bm g)],H⟩/\m=cs.length - i/\i<=cs.length) (⟨0,rfl,rfl,aa⟩) ?_;rintro m _ ⟨i,rfl,rfl,aQ⟩;refine ax ?_;refine az (λae=>?_) λae=>?_
  ·have bT:i<cs.length:=by omega
   have a1:=P _ (bI bT);refine w7 ?_;refine bc (λao=>?_) (λao=>?_)
   ·rw[Bool.cond_true_left] at ao;simp only[Bool.or_eq_true,decide_eq_true_eq] at ao;omega
   ·replace ao:=dC ao;refine aP ?_;exact aW (⟨i+1,rfl,rfl,bT⟩)
  ·refine bY ?_;refine aj.Ww 3 (3+g.length) rfl rfl rfl rfl rfl rfl rfl rfl rfl aS aa aa h5 (λkf=>?_);refine aj.mkMap rfl rfl rfl rfl (λbp=>?_);refine aR ?_;refine aj.qD rfl rfl rfl rfl rfl rfl rfl (λcP=>?_);refine bE ?_;refine aj.Wx (news:=tv g) rfl rfl rfl rfl rfl rfl rfl rfl (an.refl _) nL (Xu g) (by rw[NB,List.length_replicate];omega) (.tail _ _ _ _ _ (.tail _ _ _ _ _ (.head _ _ _))) ?_;refine aj.kX (H':=.au cP 224 [.val (.slice (some ⟨kf,0,none⟩) 3 (3+g.length)),.val aL,.val (.map (some bp))]::dW bp []::.au kf 23 ((CT++tv g).flatten++[])::H) (by rw[<-Xw g _ rfl];rfl) ?_;refine aj.oM (k:=1) (d:=47) rfl (.tail _ _ _ _ (.tail _ _ _ _ (.head _ _))) cB (λe he=>?_) nL h5 ?_
   ·rcases List.mem_append.1 he with h | h
    ·simp at h;rw[h];rfl
    ·obtain⟨y,_,rfl⟩:=List.mem_map.1 h;rfl
   refine aj.le 47 (y:=ab.bm (e6 g)) rfl (Xx g) ?_;refine gL ?_;refine aB.pJ (b:=cP) (t:=224) 248 1 1 df rfl rfl ?_;refine aB.le 54 (y:=.i ((3+g.length:Nat):Int)) rfl (an.b4 (by rw[pt])) ?_;refine bo (λm st=>∃(i:Nat) (us:dq) (v:Value),st=⟨[(55,.i i),(54,.i ((3+g.length:Nat):Int)),(53,ab.bm (e6 g)),(8,.p cP 0)],.own 248 1 v::kI cP bp g (.as (ab.u7 us) v)::dW bp []::H⟩/\m=(3+g.length) - i/\i<=(3+g.length)/\us.length=i/\∀x∈us,x<18446744073709551616) (⟨0,[],_,rfl,rfl,aa,rfl,aS⟩) ?_;rintro m _ ⟨i,us,v,rfl,rfl,aQ,ks,Hu⟩;refine ax ?_;refine az (λaV=>?_) λaV=>?_
   ·have bT:i<3+g.length:=by omega
    obtain⟨bZ,tE⟩:∃bZ,bZ=(e6 g).getD i default:=⟨_,rfl⟩;have k5:=xg G i;rw[<-tE] at k5;have lU:=k5.1;refine aP ?_;refine ag ((by first | exact ad.fC rfl rfl rfl rfl rfl (by rw[pt];exact bT) | exact ad.ep rfl rfl rfl rfl rfl (by rw[pt];exact bT))) ?_;refine ax ?_;rw[<-tE];refine aF ?_;refine ag (ad.call .k (O9 0 i aa aa)) ?_;refine ag (ad.call .k (O9 _ 0 aa (l9 aa (q4 aa)))) ?_;refine bK (λff=>?_);refine bR ?_;obtain⟨C9,Hv⟩:∃C9,C9=0 ||| 2^(i:Int).toNat ||| 2^(0:Int).toNat:=⟨_,rfl⟩
    have ZH:C9<18446744073709551616:=Hv▸l9 (l9 aa (q4 aa)) c8;refine bo (λm st=>∃(j s:Nat),st=⟨[(66,.i j),(65,.i bZ.length),(64,ab.ints bZ),(11,.p ff 0),(55,.i i),(54,.i ((3+g.length:Nat):Int)),(53,ab.bm (e6 g)),(8,.p cP 0)],.au ff 248 [ab.set s]::.own 248 1 v::kI cP bp g (.as (ab.u7 us) v)::dW bp []::H⟩/\m=bZ.length - j/\j<=bZ.length/\s<18446744073709551616) (⟨0,C9,by rw[Hv],rfl,aa,ZH⟩) ?_;rintro m _ ⟨j,s,rfl,rfl,cm,b6⟩;refine ax ?_;refine az (λbu=>?_) λbu=>?_
    ·have dH:j<bZ.length:=by omega
     have xr:=k5.2 _ (bI dH);refine bE ?_;refine bP 8 104 ?_;refine ax ?_;refine bg (ad.WD 74 rfl (an.e2 _ _) (ad.ep rfl rfl rfl rfl rfl aa)) ?_;refine aF ?_;refine ag (ad.call .k (Zs s _ b6 (NC Hu _))) ?_;refine aI ?_;exact aW (⟨j+1,s ||| us.getD (bZ.getD j default).toNat default,rfl,rfl,dH,l9 b6 (NC Hu _)⟩)
    ·refine aT ?_;refine aB.cw mixed ?_;refine b0.r5 (X:=n2) [⟨7,87,false⟩] (λJ=>match J with | [some v2]=>.au ff 248 [ab.set s]::.own 248 1 v2::kI cP bp g (.as (ab.u7 us) v)::dW bp []::H | _=>.au ff 248 [ab.set s]::.own 248 1 v::kI cP bp g (.as (ab.u7 us) v)::dW bp []::H) (λq J=>match q,J with | 0,[some v2]=>.as (.ai 1 ((us.map λs=>[ab.set s])++[[ab.set s]])) v2 | _,_=>.any) 0 8 104 rfl aq aq rfl rfl aq rfl (λ_ _ _ _ _ _ _ _ _ h=>h.elim) ?_;refine cj [[true],[false]] ⟨λf=>ad.move rfl rfl rfl,λf=>ad.move rfl rfl rfl,trivial⟩ ?_;refine cj [[false]] ⟨λf=>ad.move rfl rfl rfl,trivial⟩ ?_;refine cj [[false]] ⟨λf=>fT,trivial⟩ ?_;refine cj [[false]] ⟨λf=>b5,trivial⟩ ?_;refine cj [[false]] ⟨λf=>cJ,trivial⟩ ?_;refine cj [[false]] ⟨λf=>nK,trivial⟩ ?_;refine cj [[false]] ⟨λf=>ad.row rfl rfl cC rfl rfl rfl rfl rfl rfl,trivial⟩ ?_;refine cH.j4 0 [[false]] rfl rfl rfl aq rfl rfl rfl ⟨λf=>⟨ed.own (news:=[[ab.set s]]) rfl rfl rfl (an.refl _) rfl rfl (an.refl _) rfl cB cB (λ_=>.tail _ _ _ _ _ (.head _ _ _)) (λ_=>rfl),hI⟩,trivial⟩ ?_;refine cH.nil (λf=>?_);simp only[kD,List.map_cons,List.map_nil,List.cons_append,List.nil_append];refine bE ?_;rw[Xy];exact aW ⟨i+1,us++[s],f 87,rfl,rfl,bT,by rw[List.length_append,ks];rfl,λx aK=>by rcases List.mem_append.1 aK with h | h;exact Hu x h;simp at h;rw[h];exact b6⟩
   ·refine gL ?_;refine aB.vc (H':=kI cP bp g (.as (ab.u7 us) v)::dW bp []::H) (.cons _ (.refl _)) ?_;obtain⟨U,ZI⟩:∃U:ab,U= .as (ab.u7 us) v:=⟨_,rfl⟩;rw[<-ZI];refine aB.le 95 (y:=.i ((3+g.length:Nat):Int)) rfl (an.b4 (by rw[pt])) ?_;refine bo (λm st=>∃(i:Nat) (l:List (Int×ab)),st=⟨[(96,.i i),(95,.i ((3+g.length:Nat):Int)),(8,.p cP 0)],kI cP bp g U::dW bp l::H⟩/\m=(3+g.length) - i/\i<=(3+g.length)/\mH l (k3 g i)) (⟨0,[],rfl,rfl,aa,.nil⟩) ?_;rintro m _ ⟨i,l,rfl,rfl,aQ,T⟩;refine ax ?_;refine az (λcr=>?_) λcr=>?_
    ·have bT:i<3+g.length:=by omega
     refine dk ?_;refine cE .k (by have h:=ZF G (O:=k3 g i) (by rw[tu aa];exact bT) (zI G i aa) T cP bp U H;rw[tu aa] at h;exact h.b) ?_
     ·rintro y H1 ⟨C8,K,rfl⟩;rw[<-NA bT] at K;refine aP ?_;exact aW (⟨i+1,C8,rfl,rfl,bT,K⟩)
    ·obtain rfl:i=3+g.length:=by omega
     rw[zH] at T;refine dk ?_;refine dL [.tmp 4,.tmp 5] (kI cP bp g U::dW bp l::H) ?_;exact⟨cP,bp,l,U,dO,T,rfl⟩
def Pg{g}(h:fX g){c:Int}(s:0<=c/\c<3+g.length):aG prog 140 [ab.bm g,.i c] (.bk [ab.ints (dE g c),.i (if(dE g c).isEmpty then 7 else 0)]):=by
 intro H;refine aM (n:=32) func140 λB I bW=>?_;have BG:=u6 h;have ZJ:(dE g c).length<=1000:=by
  have ae:=(zI h (3+g.length) (Nat.le_refl _)).len c.toNat;rw[tu (Nat.le_refl _),zH] at ae;show ((ts g).getD c.toNat []).length<=1000;omega
 refine bY ?_;refine ag (ad.row rfl rfl cC rfl rfl rfl rfl rfl rfl) ?_;refine cE .k ((ZG h (cs:=[c]) (λx aK=>by simp at aK;rw[aK];exact s) aS H).b) ?_
 ·rintro _ _ ⟨x,bp,l,U,rfl,f,rfl⟩;refine c4 ?_;refine bc (λaf=>?_) (λaf=>?_)
  ·simp at af
  ·replace af:=dC af;refine bY ?_;refine ag (ad.tm rfl rfl rfl rfl rfl (.tail _ (.head _)) f.ok ey) ?_;refine aj.le 22 (y:=ab.ints (dE g c)) rfl (f.look c aa) ?_;refine aY ?_;refine az (λae=>?_) λae=>?_
   ·have m:dE g c= []:=List.eq_nil_of_length_eq_zero aa;refine aI ?_;refine aZ.cg (rs:=[.tmp 4,.tmp 5]) (H':=H) rfl (.tmp rfl (.tmp rfl (.nil))) (.cons (an.nil 1) (.cons (.refl _) .nil)) bC ?_;exact⟨by rw[m];rfl,rfl⟩
   ·have m:dE g c≠ []:=λe=>by rw[e] at ae;simp at ae
    refine ba ?_;refine ag (ad.tm rfl rfl rfl rfl rfl (.tail _ (.head _)) f.ok ey) ?_;refine aj.le 30 (y:=ab.ints (dE g c)) rfl (f.look c aa) ?_;refine ag (ad.call .k (ON _ aa)) ?_;refine aT ?_;refine dL [.tmp 4,.tmp 5] (H) ?_;exact⟨by cases br:dE g c with
 | nil=>exact absurd br m
 | cons a r=>rfl,rfl⟩
end Go.Proofs.YtodccgailpkgeaaGreat

namespace Go.Eng.dN
open Go.Eng.Fc
variable{p:Prog}
theorem Ph(i):∀(l a:ak),jn i a l=Fc.k2 i a l
 | [],_=>rfl
 | x::r,a=>by rw[jn,Fc.k2,Ph i r]
theorem Pj:∀(g:List ak) (i:Nat),j7 i g=true->Fc.iB i g=true
 | [],_,_=>rfl
 | l::r,i,h=>by
  simp[j7,Bool.and_eq_true] at h;rw[Fc.iB, <-Ph,h.1.2,Pj r (i+1) h.2];rfl
theorem Pk:∀(a:List h9) (i:Nat),∀x∈hj a i,3+(i:Int)<=x/\x<3+((i+a.length:Nat):Int)
 | [],i,x,h=>by cases h
 | c::r,i,x,h=>by
  rw[hj] at h;rcases List.mem_append.1 h with h | h
  ·have:=(List.mem_replicate.1 h).2;rw[List.length_cons];omega
  ·have:=Pk r (i+1) x h;rw[List.length_cons];omega
theorem tF:∀(a:List h9) (i:Nat),(hj a i).length=ej a
 | [],i=>rfl
 | c::r,i=>by
  rw[hj,List.length_append,List.length_replicate,tF r];simp[ej]
structure oh(p:Prog):Prop where
 dr:p.aE.length<=10
 ai:jo p.aE 0=true
 ZK:(ej p.aE:Int)=p.av
 g:fX (b9 p)=true
def oh.of(h:fP p):oh p:=by
 simp[fP,Bool.and_eq_true,decide_eq_true_eq,beq_iff_eq] at h;exact⟨h.1.1.1,h.1.1.2,h.1.2.1,h.1.2.2⟩
def oh.world(h:oh p):Fc.cx (bS p)=true:=by
 have l:=h.dr;have j:=zK _ _ h.ai;have c:=h.g;simp[fX,Bool.and_eq_true] at c;simp only[Fc.cx,Bool.and_eq_true,decide_eq_true_eq];have a:(bS p).parents.length=p.aE.length:=by show (b9 p).length=_;simp[b9]
 refine⟨⟨⟨aa,?_⟩,Pj _ 0 c.2⟩,List.all_eq_true.2 λx f=>?_⟩
 ·show (hj p.aE 0).length<=40;rw[tF];omega
 ·have:=Pk p.aE 0 x f;simp[Fc.r9,Bool.and_eq_true,decide_eq_true_eq];rw[a];omega
def q6(p):(bS p).parents.length=p.aE.length:=by show (b9 p).length=_;simp[b9]
def Pl{k}(h:k<p.aE.length):(bS p).parents.getD k default=(p.aE.getD k default).parents:=by
 show (b9 p).getD k default=_;rw[b9,List.getD_eq_getElem?_getD,List.getElem?_map,List.getD_eq_getElem?_getD,List.getElem?_eq_getElem h];rfl
theorem Pm{W}(a:Fc.cx W=true):∀(n c:Nat),c<=n->3<=c->c<3+W.parents.length->∀b,3<=b->gv W c b=true->b=c\/∃m,m<W.parents.length/\gv W c (3+m)=true/\(b:Int)∈W.parents.getD m default
 | n,c,f,w,o,b,r,h=>by
  have e:c=3+(c - 3):=by omega
  have v:=h;rw[e,oe a aa] at h;simp[Bool.or_eq_true,beq_iff_eq,List.any_eq_true] at h;rcases h with (h | h) | ⟨q,j,h⟩
  ·omega
  ·exact .inl aa
  ·have t:=pZ a aa q j
   match n,f with
   | 0,f=>omega
   | n+1,f=>
    rcases Pm a n q.toNat aa aa aa b r h with g | ⟨m,g,s,l⟩
    ·exact .inr ⟨c - 3,aa,by rw[<-e];exact ui a o,by rw[g];rw[show ((q.toNat:Nat):Int)=q by omega];exact j⟩
    ·refine .inr ⟨m,g,?_,l⟩;rw[e,oe a aa];simp[Bool.or_eq_true,beq_iff_eq,List.any_eq_true];exact .inr ⟨q,j,s⟩
def ZL{W}(a:Fc.cx W=true){c m b:Nat}(g:c<3+W.parents.length)(hm:m<W.parents.length)(h:gv W c (3+m))(f:(b:Int)∈W.parents.getD m default):gv W c b=true:=by
 refine He a c c fs g (3+m) b h ?_;rw[oe a hm];simp[Bool.or_eq_true,beq_iff_eq,List.any_eq_true];have:=pZ a hm _ f;exact .inr ⟨_,f,by rw[Int.toNat_natCast];exact ui a aa⟩
def vo(p:Prog)(c:Nat):Nat->ak
 | 0=>[]
 | n+1=>(if gv (bS p) c (3+n) then (p.aE.getD n default).av else [])++vo p c n
def tG(p:Prog)(c:Nat):Nat->ak
 | 0=>[]
 | n+1=>tG p c n++(if gv (bS p) c (3+n) then (p.aE.getD n default).av else [])
theorem Hw{p}(q:Fc.cx (bS p)=true){c}(r:3<=c)(w:c<3+p.aE.length):∀(n:Nat) (S g:ak),n<=c - 2->(∀b:Nat,3<=b->(((b:Int)∈S)↔b=c\/∃m,n<=m/\m<p.aE.length/\gv (bS p) c (3+m)=true/\(b:Int)∈(p.aE.getD m default).parents))->jK p n S g=g++vo p c n
 | 0,S,g,_,_=>by rw[jK,vo,List.append_nil]
 | n+1,S,g,A,t=>by
  have z:=q6 p;have x:((n:Int)+3∈S)↔gv (bS p) c (3+n)=true:=by
   rw[show (n:Int)+3=((3+n:Nat):Int) by omega,t (3+n) aa];constructor
   ·rintro (e | ⟨m,j,a,f,l⟩)
    ·rw[e];exact ui q aa
    ·exact ZL q aa aa f (by rw[Pl a];exact l)
   ·intro h;rcases Pm q c c fs r aa (3+n) aa h with e | ⟨m,j,a,f⟩
    ·exact .inl e
    ·have:=pZ q j _ f;exact .inr ⟨m,aa,aa,a,by rw[<-Pl aa];exact f⟩
  rw[jK,vo];by_cases o:gv (bS p) c (3+n)=true
  ·rw[if_pos (List.contains_iff_mem.2 (x.2 o)),if_pos o,Hw q r w n _ _ aa,List.append_assoc];intro b s;rw[List.mem_append,t b s];constructor
   ·rintro ((e | ⟨m,j,a⟩) | h)
    ·exact .inl e
    ·exact .inr ⟨m,aa,a⟩
    ·exact .inr ⟨n,Nat.le_refl _,aa,o,h⟩
   ·rintro (e | ⟨m,j,a,f,l⟩)
    ·exact .inl (.inl e)
    ·by_cases e:m=n
     ·subst e;exact .inr l
     ·exact .inl (.inr ⟨m,aa,a,f,l⟩)
  ·have v: ¬((n:Int)+3∈S):=λh=>o (x.1 h);rw[if_neg (by rw[List.contains_iff_mem];exact v),if_neg o,Hw q r w n _ _ aa,List.nil_append];intro b s;rw[t b s];constructor
   ·rintro (e | ⟨m,j,a⟩)
    ·exact .inl e
    ·exact .inr ⟨m,aa,a⟩
   ·rintro (e | ⟨m,j,a,f,l⟩)
    ·exact .inl e
    ·by_cases e:m=n
     ·subst e;exact absurd f o
     ·exact .inr ⟨m,aa,a,f,l⟩
theorem Pn(p)(c):∀n,(vo p c n).Perm (tG p c n)
 | 0=>List.Perm.refl _
 | n+1=>by
  rw[vo,tG];exact ((Pn p c n).append_left _).trans List.perm_append_comm
def ef(W:Fc.bt)(c:Int):ak:=((List.range W.owner.length).filter λs=>Fc.iU W c (W.owner.getD s default)).map λ(s:Nat)=>(s:Int)
theorem Po:∀(l:ak) (n:Nat),iD l n=true->l=(List.range' n l.length).map λ(k:Nat)=>(k:Int)
 | [],n,_=>rfl
 | x::r,n,h=>by
  simp[iD,Bool.and_eq_true,beq_iff_eq] at h;rw[List.length_cons,List.range'_succ,List.map_cons, <-Po r (n+1) h.2,h.1]
def ZM{q}{b}(n k)(h:∀i,n<=i->i<n+k->q i=b):(List.range' n k).filter q=if b then List.range' n k else []:=by
 cases b with
 | true=>rw[if_pos rfl];exact List.filter_eq_self.2 λi a=>by have:=List.mem_range'_1.1 a;exact h i aa aa
 | false=>rw[if_neg aS];exact List.filter_eq_nil_iff.2 λi a=>by have:=List.mem_range'_1.1 a;rw[h i aa aa];simp
def ZN{cs}{n s:Nat}(hn:n<cs.length)(g:ej (cs.take n)<=s)(l:s<ej (cs.take n)+(cs.getD n default).av.length):(hj cs 0).getD s default=(n:Int)+3:=by
 have e:cs=(cs.take n++[cs.getD n default])++cs.drop (n+1):=by rw[c2 hn,List.take_append_drop]
 have app:∀(a b:List h9) (i:Nat),hj (a++b) i=hj a i++hj b (i+a.length):=by
  intro a
  induction a with
  | nil=>intro b i;simp[hj]
  | cons c r j=>intro b i;rw[List.cons_append,hj,hj,j,List.append_assoc,List.length_cons,show i+1+r.length=i+(r.length+1) by omega]
 have f:(cs.take n).length=n:=by rw[List.length_take];omega
 have h:hj cs 0=(hj (cs.take n) 0++List.replicate (cs.getD n default).av.length ((n:Int)+3))++hj (cs.drop (n+1)) (n+1):=by
  conv=>lhs;rw[e]
  rw[app,app,List.length_append,f];simp[hj,List.length_singleton,List.append_nil,Nat.zero_add]
 rw[h,List.getD_eq_getElem?_getD,List.getElem?_append_left (by rw[List.length_append,tF,List.length_replicate];exact l),List.getElem?_append_right (by rw[tF];exact g),List.getElem?_replicate,if_pos (by rw[tF];omega)];rfl
theorem Pp{p}(h:oh p)(c):∀n,n<=p.aE.length->tG p c n=((List.range (ej (p.aE.take n))).filter λs=>Fc.iU (bS p) (c:Int) ((bS p).owner.getD s default)).map λ(s:Nat)=>(s:Int)
 | 0,_=>rfl
 | n+1,l=>by
  have g:iD (p.aE.getD n default).av (ej (p.aE.take n))=true:=by
   have a:=GW p.aE 0 (n+1) h.ai;rw[zJ _ _ _ aa,Bool.and_eq_true,Bool.and_eq_true,Nat.zero_add] at a;exact a.2.2
  rw[tG,Pp h c n aa,GX aa,List.range_add,List.filter_append,List.map_append];congr 1;rw[show List.map (λx=>ej (p.aE.take n)+x) (List.range (p.aE.getD n default).av.length)=List.range' (ej (p.aE.take n)) (p.aE.getD n default).av.length by rw[List.range_eq_range',List.map_add_range'];simp];rw[ZM (b:=gv (bS p) c (3+n)) _ _ (λi a j=>by
   rw[show (bS p).owner=hj p.aE 0 from rfl,ZN aa a j,Hf,Int.toNat_natCast,show ((n:Int)+3).toNat=3+n by omega])]
  by_cases f:gv (bS p) c (3+n)=true
  ·rw[if_pos f,if_pos f];exact Po _ _ g
  ·rw[if_neg f,if_neg f];rfl
theorem Pq{p}(a:Fc.cx (bS p)=true){c}(f:c<3+p.aE.length):∀n,c - 2<=n->tG p c n=tG p c (c - 2)
 | 0,h=>by rw[show c - 2=0 by omega]
 | n+1,h=>by
  by_cases e:c - 2=n+1
  ·rw[e]
  ·have g: ¬gv (bS p) c (3+n)=true:=λhu=>by
    have:=xm a c c fs (by rw[q6];exact f) _ hu;omega
   rw[tG,if_neg g,List.append_nil];exact Pq a f n aa
def ZO(q)(n):(((List.range n).filter q).map λ(s:Nat)=>(s:Int)).Pairwise λa b=>decide (a<=b)=true:=by
 rw[List.pairwise_map];refine List.Pairwise.filter _ (List.Pairwise.imp ?_ List.pairwise_lt_range);intro a b c;simp;omega
def ZP{a b}(g:a.Perm b)(j:b.Pairwise λx y=>decide (x<=y)=true):hS a=b:=by
 have c:(hS a).Perm b:=(List.mergeSort_perm _ _).trans g;refine List.Perm.eq_of_pairwise (le:=λx y=>decide (x<=y)=true) ?_ (List.pairwise_mergeSort (λx y z c l=>by simp[decide_eq_true_eq] at*;omega) (λx y=>by simp[Bool.or_eq_true,decide_eq_true_eq];omega) a) j c;intro x y _ _ f h;simp[decide_eq_true_eq] at*;omega
def Hy(h:oh p){c:Int}(q:3<=c)(l:c<3+p.aE.length):cu p c=ef (bS p) c:=by
 obtain⟨k,rfl⟩:∃k:Nat,c=k:=⟨c.toNat,aa⟩;have a:=h.world;have j:jK p ((k:Int) - 2).toNat [(k:Int)] []=vo p k (k - 2):=by
  rw[show ((k:Int) - 2).toNat=k - 2 by omega];refine Hw a aa aa (k - 2) [(k:Int)] [] fs λb r=>?_;rw[List.mem_singleton];constructor
  ·intro e;exact .inl aa
  ·rintro (e | ⟨m,o,s,g,_⟩)
   ·omega
   ·have:=xm a k k fs (by rw[q6];omega) _ g;omega
 have f:=Pp h k p.aE.length fs;rw[List.take_length, <-tF p.aE 0,Pq a aa _ aa] at f;rw[cu,j];refine ZP (b:=ef (bS p) k) ?_ (ZO _ _);exact (Pn p k (k - 2)).trans (by rw[f];exact List.Perm.refl _)
end Go.Eng.dN

namespace Go.Proofs.YtodccgailpkgeaaGreat
open Go.Proofs.Tryz
open Go.Eng
open Go.Eng.Fc
open Go.Eng.dN
variable{l:ak}{i c:Nat}{A:List ak}{W:Fc.bt}
def ZQ{x}{q}(a:q<l.length)(h:(l.take q).contains x=false)(c:l.getD q default≠x):(l.take (q+1)).contains x=false:=by
 rw[<-c2 a,List.contains_eq_any_beq,List.any_append, <-List.contains_eq_any_beq,h];simp;exact λe=>c e.symm
def ZR{x}{q}(a:q<l.length)(c:l.getD q default=x):l.contains x=true:=by rw[<-c];exact List.contains_iff_mem.2 (bI a)
def ZS{i j}(a:j<l.length)(h:jn i [] (l.take j))(c:(decide (l.getD j default<3) || decide (l.getD j default>=3+i) || (l.take j).contains (l.getD j default))=false):jn i [] (l.take (j+1))=true:=by
 rw[CK i l [] j a,h,List.nil_append,c];rfl
def ZT{g:List ak}(a:i<g.length)(h:j7 0 (g.take i))(f:(g.getD i default).length<=3)(c:jn i [] (g.getD i default)):j7 0 (g.take (i+1))=true:=by
 rw[CL g 0 i a,h,Nat.zero_add,c,decide_eq_true f];rfl
def ZU{g}(h:c<3):(e6 g).getD c default= []:=by
 match c,h with
 | 0,_=>rfl
 | 1,_=>rfl
 | 2,_=>rfl
def ZV{g}(h: ¬c<3):(e6 g).getD c default=g.getD (c - 3) default:=by
 obtain⟨k,rfl⟩:∃k,c=k+3:=⟨c - 3,aa⟩;rw[Nat.add_sub_cancel];rfl
def Pr(l)(x):aG prog 181 [.ints l,.i x] (.b (l.contains x)):=by
 intro H;refine aM func181 λB I j=>?_;refine .eG (t:=0) rfl λgV=>?_;refine bR ?_;refine bo (λm f=>∃i:Nat,f=⟨[(5,.i i),(0,.ints l),(1,.i x)],H⟩/\m=l.length - i/\i<=l.length/\(l.take i).contains x=false) iA ?_;rintro m _ ⟨i,rfl,rfl,h,c⟩;refine ba ?_;refine az (λaf=>?_) λaf=>?_
 ·have a:i<l.length:=by omega
  refine c4 ?_;refine az (λae=>?_) λae=>?_
  ·refine bE ?_;refine aC 4 H ?_;exact⟨bq (ZR a ae).symm,rfl⟩
  ·refine aI ?_;exact aW ⟨i+1,rfl,rfl,a,ZQ a c ae⟩
 ·obtain rfl:i=l.length:=by omega
  rw[List.take_length] at c;refine bE ?_;refine aC 4 H ?_;exact⟨bq c.symm,rfl⟩
def ZW(g):aG prog 144 [.bm g] (.b (fX g)):=by
 intro H;refine aM func144 λB I v=>?_;refine .eG (t:=0) rfl λgV=>?_;refine dk ?_;refine az (λaf=>?_) λaf=>?_
 ·refine aP ?_;refine aC 2 H ?_;exact⟨bq (Np aa).symm,rfl⟩
 ·have h:g.length<=16:=by omega
  refine ba ?_;refine bo (λm q=>∃i:Nat,q=⟨[(3,.i i),(0,.bm g)],H⟩/\m=g.length - i/\i<=g.length/\j7 0 (g.take i)=true) iA ?_;rintro m _ ⟨i,rfl,rfl,w,r⟩;refine ba ?_;refine az (λae=>?_) λae=>?_
  ·have a:i<g.length:=by omega
   refine eb ?_;refine az (λao=>?_) λao=>?_
   ·refine bR ?_;refine aC 2 H ?_;exact⟨bq (zE a (by rw[decide_eq_false aa];rfl)).symm,rfl⟩
   ·have o:(g.getD i default).length<=3:=by omega
    refine aI ?_;refine bo (λm q=>∃j:Nat,q=⟨[(4,.i j),(3,.i i),(0,.bm g)],H⟩/\m=(g.getD i default).length - j/\j<=(g.getD i default).length/\jn i [] ((g.getD i default).take j)=true) iA ?_;rintro m _ ⟨j,rfl,rfl,s,c⟩;refine bR ?_;refine az (λaV=>?_) λaV=>?_
    ·have f:j<(g.getD i default).length:=by omega
     refine aT ?_;refine bP 5 65 ?_;refine nk ?_;refine .dG 9 18 65 rfl aq rfl rfl aq ?_;refine nk ?_;refine .dG 21 34 65 rfl aq rfl rfl aq ?_;refine aT ?_;refine jJ (λaw=>.B2 rfl rfl qp rfl qp aa) ?_;refine ba ?_;refine aj.db rfl rfl rfl rfl rfl rfl (λaw=>.call (.mk' rfl rfl rfl rfl c9) (Pr ((g.getD i default).take j) ((g.getD i default).getD j default))) ?_;refine aF ?_;refine bc (λbu=>?_) λbu=>?_
     ·rw[eM,eM] at bu;refine eb ?_;refine aC 2 H ?_;exact⟨bq (zE a (by rw[Nq f bu,Bool.and_false])).symm,rfl⟩
     ·rw[eM,eM] at bu;refine aI ?_;exact aW ⟨j+1,rfl,rfl,f,ZS f c bu⟩
    ·obtain rfl:j=(g.getD i default).length:=by omega
     rw[List.take_length] at c;refine bE ?_;exact aW ⟨i+1,rfl,rfl,a,ZT a r o c⟩
  ·obtain rfl:i=g.length:=by omega
   rw[List.take_length] at r;refine bE ?_;refine aC 2 H ?_;exact⟨bq (by rw[fX,r,decide_eq_true h];rfl),rfl⟩
def ZX{g}(f:g.length<=16)(h:c<3+g.length):aG prog 231 [.bm g,.i c] (.ints ((e6 g).getD c default)):=by
 intro H;refine aM func231 λB I j=>?_;refine bR ?_;refine az (λaf=>?_) λaf=>?_
 ·have a:c<3:=by omega
  refine aP ?_;refine .cg (rs:=[.tmp 4]) (H':=H) rfl eQ tq bC ?_;exact⟨by rw[ZU a];rfl,rfl⟩
 ·have a: ¬c<3:=by omega
  refine dk ?_;refine aC 4 H ?_;exact⟨by rw[ZV a,show ((c:Int) - 3).toNat=c - 3 by omega];rfl,rfl⟩
def Ps(l)(j:l.length<=1000000)(x):aG prog 232 [.ints l,.i x] (.ints (l.filter (· !=x))):=by
 intro H;refine aM func232 λB I o=>?_;refine gL ?_;refine hh 5 3 1 ?_;refine bo (λm h=>∃(i:Nat) (v:Value),h=⟨[(6,.i i),(5,.as (.ints ((l.take i).filter (· !=x))) v),(0,.ints l),(1,.i x)],.own 3 1 v::H⟩/\m=l.length - i/\i<=l.length) (⟨0,_,rfl,rfl,aa⟩) ?_;rintro m _ ⟨i,v,rfl,rfl,q⟩;refine ba ?_;refine az (λaf=>?_) λaf=>?_
 ·have a:i<l.length:=by omega
  refine c4 ?_;refine az (λae=>?_) λae=>?_
  ·have c:(l.getD i default !=x)=true:=by simpa using ae
   refine ax ?_;refine .cn (x:=.ai 1 [[.i (l.getD i default)]]) rfl rfl rfl h7 ?_;refine aj.dJ rfl rfl rfl rfl rfl rfl rfl rfl (an.refl _) (rfl) (λ_=>df) Kw Kw λZY=>?_;refine ba ?_;exact aW (⟨i+1,ZY,by rw[xe a c],rfl,a⟩)
  ·have c:(l.getD i default !=x)=false:=by simpa using ae
   refine aI ?_;exact aW ⟨i+1,v,by rw[xf a c],rfl,a⟩
 ·obtain rfl:i=l.length:=by omega
  rw[List.take_length];refine bR ?_;refine aZ.cg (rs:=[.tmp 4]) (H':=H) rfl (.tmp rfl (.nil)) (.cons (an.e2 _ _) .nil) bC ?_;exact⟨cO,rfl⟩
def ZZ(a)(x):aG prog 233 [.bm a,.i x] (.b (u1 a x)):=by
 intro H;refine aM func233 λB I j=>?_;refine .eG (t:=0) rfl λgV=>?_;refine bR ?_;refine bo (λm h=>∃i:Nat,h=⟨[(5,.i i),(0,.bm a),(1,.i x)],H⟩/\m=a.length - i/\i<=a.length/\((a.take i).any λm=>m.tail.contains x)=false) iA ?_;rintro m _ ⟨i,rfl,rfl,l,f⟩;refine ba ?_;refine az (λaf=>?_) λaf=>?_
 ·have c:i<a.length:=by omega
  refine gL ?_;refine gb (λaw=>ad.LI (n:=1) rfl rfl (cl aw) rfl (cl aw) (by have:=of_decide_eq_true aw;omega)) ?_;refine aR ?_;refine aj.db rfl rfl rfl rfl rfl rfl (λaw=>ad.call (.mk' rfl rfl rfl rfl c9) (Pr ((a.getD i default).drop 1) x)) ?_;refine aF ?_;refine bc (λae=>?_) λae=>?_
  ·refine bE ?_;refine aC 4 H ?_;exact⟨bq (by rw[CO,Nl c (Nn ae)];rfl),rfl⟩
  ·refine aI ?_;exact aW ⟨i+1,rfl,rfl,c,by rw[Nf c,f,No ae];rfl⟩
 ·obtain rfl:i=a.length:=by omega
  rw[List.take_length] at f;refine bE ?_;refine aC 4 H ?_;exact⟨bq (by rw[CO,f];rfl),rfl⟩
def si(A:List ak):Prop:=∀l∈A,∀x∈l,0<=x
def si.drop(h:si A)(x):si (iC x A):=λl a y c=>by
 obtain⟨_,g,j,f⟩:=GS a c;exact h g j y f
def si.head(h:si A){i}(a:i<A.length)(c:0<(A.getD i default).length):0<=(A.getD i default).getD 0 default:=h _ (bI a) _ (bI c)
structure o6(A:List ak)(i:Nat)(oi:Option Int)(nY:Bool):Prop where
 nY:oi=none->nY= !((A.take i).all List.isEmpty)
 no:oi=none->iR A A=iR A (A.drop i)
 yes:∀h,oi=some h->iR A A=some h/\0<=h/\∃l∈A,h∈l
def o6.begin(A):o6 A 0 none false:=⟨λ_=>rfl,λ_=>rfl,λh e=>by cases e⟩
def o6.empty{a}(h:o6 A i none a)(c:i<A.length)(f:A.getD i default= []):o6 A (i+1) none a:=
 ⟨λ_=>by rw[zD c,f,h.nY rfl];simp,λ_=>by rw[h.no rfl,u4 c,Ng f],λh e=>by cases e⟩
def o6.Z0{nY}(h:o6 A i none nY)(c:i<A.length)(a:0<(A.getD i default).length)(j:u1 A ((A.getD i default).getD 0 default)=false):o6 A (i+1) none true:=
 ⟨λ_=>by rw[zD c,Nk a,Bool.and_false];rfl,λ_=>by rw[h.no rfl,u4 c,Nh a j],λh e=>by cases e⟩
def o6.Z1{g}(h:o6 A i none g)(f:si A)(c:i<A.length)(a:0<(A.getD i default).length)(j:u1 A ((A.getD i default).getD 0 default)):o6 A (i+1) (some ((A.getD i default).getD 0 default)) true:=
 ⟨λe=>(by cases e),λe=>(by cases e),λjL e=>by cases e;exact⟨by rw[h.no rfl,u4 c,Ni a j],f.head c a,_,bI c,bI a⟩⟩
def Z2{h}(c:l∈A)(f:h∈l):total (iC h A)<total A:=by
 obtain⟨i,a,rfl⟩:=List.mem_iff_getElem.1 c;exact GM h A i a (by rw[List.getD_eq_getElem?_getD,List.getElem?_eq_getElem a];exact f)
def Z3(a)(ck:si a)(ht:total a<=1000)(W:a.length<=1000):aG prog 208 [.bm a] (.bk [.ints (lB a).1,.b (lB a).2]):=by
 intro H;refine aM func208 λB I bW=>?_;refine bR ?_;refine hh 4 3 1 ?_;refine bo (λm st=>∃(A:List ak) (out:ak) (n:Nat) (v:Value),st=⟨[(0,.bm A),(4,.as (.ints out) v)],.own 3 1 v::H⟩/\m=n/\total A<n/\pT n A out=lB a/\total A+out.length<=total a/\A.length=a.length/\si A) ⟨a,[],total a+1,_,rfl,rfl,aa,rfl,aS,rfl,ck⟩ ?_;rintro m _ ⟨A,out,n,v,rfl,rfl,hn,hm,aku,S,Pt⟩;obtain⟨n,rfl⟩:∃q,m=q+1:=⟨m - 1,aa⟩;refine c4 ?_;refine bo (λm st=>∃(i:Nat) (oi:Option Int) (nY:Bool),st=⟨[(7,.i i),(5,.i (oi.getD (-1))),(6,.b nY),(0,.bm A),(4,.as (.ints out) v)],.own 3 1 v::H⟩/\m=A.length - i/\i<=A.length/\o6 A i oi nY) ⟨0,none,false,rfl,rfl,aa,.begin A⟩ ?_;rintro m _ ⟨i,oi,nY,rfl,rfl,aQ,j⟩;refine dk ?_;refine bc (λaf=>?_) λaf=>?_
 ·rw[Bool.cond_false_right,Bool.and_eq_true,decide_eq_true_eq,decide_eq_true_eq] at af;obtain⟨af,uG⟩:=af;have f:i<A.length:=by omega
  obtain rfl:oi=none:=by
   cases oi with
   | none=>rfl
   | some h=>have:=(j.yes h rfl).2.1;simp[Option.getD_some] at uG;omega
  refine c4 ?_;refine az (λae=>?_) λae=>?_
  ·have s:0<(A.getD i default).length:=by omega
   refine c4 ?_;refine ag (.call .k (ZZ A ((A.getD i default).getD 0 default))) ?_;refine aO ?_;refine az (λao=>?_) λao=>?_
   ·refine ji ?_;exact aW (⟨i+1,some ((A.getD i default).getD 0 default),true,rfl,rfl,f,j.Z1 Pt f s ao⟩)
   ·refine aI ?_;exact aW ⟨i+1,none,true,rfl,rfl,f,j.Z0 f s ao⟩
  ·have F:(A.getD i default)= []:=List.eq_nil_of_length_eq_zero aa;refine aI ?_;exact aW ⟨i+1,none,nY,rfl,rfl,f,j.empty f F⟩
 ·rw[Bool.cond_false_right,Bool.and_eq_false_iff,decide_eq_false_iff_not,decide_eq_false_iff_not] at af;refine bR ?_;refine az (λaV=>?_) λaV=>?_
  ·obtain rfl:oi=none:=by
    cases oi with
    | none=>rfl
    | some h=>have:=(j.yes h rfl).2.1;simp[Option.getD_some] at aV;omega
   obtain rfl:i=A.length:=by
    rcases af with af | af
    ·omega
    ·exact absurd aV af
   have Pu:=j.no rfl;have C:=j.nY rfl;rw[List.drop_length] at Pu;rw[List.take_length] at C;refine c4 ?_;refine .cg (rs:=[.tmp 2,.tmp 3]) (H':=H) rfl qV w9 bC ?_;exact⟨by rw[<-hm,GP Pu,C,Bool.not_not];rfl,rfl⟩
  ·obtain⟨h,rfl⟩:∃h,oi=some h:=by
    cases oi with
    | none=>simp at aV
    | some h=>exact⟨h,rfl⟩
   obtain⟨Z4,R,hE,G,J⟩:=j.yes h rfl;rw[show (some h).getD (-1)=h from rfl];have kT:=Z2 G J;have N:=CM h A;refine ax ?_;refine .cn (x:=.ai 1 [[.i h]]) rfl rfl rfl h7 ?_;refine aj.dJ rfl rfl rfl rfl rfl rfl rfl rfl (an.refl _) (rfl) (λ_=>df) (by simp[List.length_map,List.length_singleton] at*;omega) (by simp[List.length_map,List.length_singleton] at*;omega) λHz=>?_;refine eb ?_;refine hh 8 23 1 ?_;refine bo (λm st=>∃(k:Nat) (w:Value),st=⟨[(9,.i k),(0,.bm A),(8,.as (.bm (iC h (A.take k))) w),(5,.i h),(4,.as (.ai 1 ((out.map λn=>[.i n])++[[.i h]])) Hz)],.own 23 1 w::.own 3 1 Hz::H⟩/\m=A.length - k/\k<=A.length) (⟨0,_,rfl,rfl,aa⟩) ?_;rintro m _ ⟨k,w,rfl,rfl,bD⟩;refine ba ?_;refine az (λbu=>?_) λbu=>?_
   ·have o:k<A.length:=by omega
    have O:=CN A k o;refine bE ?_;refine ag (.call .k (Ps (A.getD k default) aa h)) ?_;refine .cn (x:=.ai 1 [[.ints ((A.getD k default).filter (· !=h))]]) rfl rfl rfl h7 ?_;refine aj.dJ rfl rfl rfl rfl rfl rfl rfl rfl (an.refl _) (rfl) (λ_=>df) Bc Bc λZ5=>?_;refine ba ?_;exact aW (⟨k+1,Z5,by rw[Nj _ o],rfl,o⟩)
   ·obtain rfl:k=A.length:=by omega
    rw[List.take_length];refine aT ?_;refine .le 8 (y:=.bm (iC h A)) rfl GF ?_;refine aT ?_;exact aW ⟨iC h A,out++[h],n,Hz,by rw[GN],rfl,aa,by rw[<-hm,GO Z4],Bm,by rw[EK,S],Pt.drop h⟩
def Z6(O:List ak)(k):O.getD k default=O.getD k []:=rfl
def Z7{g}(z:fX g){O}(C:ob O)(D:O.length<3+g.length):aG prog 207 [.bm g,.bm O,.i O.length] (.bk [.bm ((kF O ((e6 g).getD O.length default)).getD []),.b (kF O ((e6 g).getD O.length default)).isSome]):=by
 intro H;refine aM func207 λB I bW=>?_;obtain⟨bZ,tE⟩:∃bZ,bZ=((e6 g).getD O.length default):=iO;have k5:=xg z O.length;have G:=u6 z;have HA:=ZX aa D;rw[<-tE] at k5 HA ⊢;have lU:=k5.1;refine eb ?_;refine ag (.call .k HA) ?_;refine bY ?_;refine hh 8 23 1 ?_;refine bo (λm st=>∃(i:Nat) (v:Value),st=⟨[(10,.i i),(9,.ints bZ),(1,.bm O),(8,.as (.bm ((bZ.take i).map (λp=>lC (O.getD p.toNat [])))) v)],.own 23 1 v::H⟩/\m=bZ.length - i/\i<=bZ.length/\∀p∈bZ.take i,O.getD p.toNat []≠ []) ⟨0,_,rfl,rfl,aa,aS⟩ ?_;rintro m _ ⟨i,v,rfl,rfl,M,f⟩;refine ba ?_;refine az (λaf=>?_) λaf=>?_
 ·have c:i<bZ.length:=by omega
  obtain⟨p,A⟩:∃p,p=bZ.getD i default:=iO;have xr:p∈bZ:=A▸bI c;have Ht:=k5.2 p xr;have J:=C.len p.toNat;have sV:bZ.getD i default=p:=A.symm;refine bR ?_;refine ag KJ ?_;refine aT ?_;refine bc (λae=>?_) λae=>?_
  ·rw[sV] at ae;have w:O.getD p.toNat []= []:=List.eq_nil_of_length_eq_zero (by have:=beq_iff_eq.1 ae;exact Int.ofNat.inj this);refine dk ?_;refine .cg (rs:=[.tmp 6,.tmp 7]) (H':=H) rfl qV GD bC ?_;exact⟨by rw[Ny xr w];rfl,rfl⟩
  ·rw[sV] at ae;have w:O.getD p.toNat []≠ []:=λe=>by
    rw[show O.getD p.toNat default= [] from e] at ae;simp at ae
   refine ba ?_;refine ag KJ ?_;refine aR ?_;refine ag (.call .k ((by have h:=Ps (O.getD p.toNat []) aa 0;rw[<-Z6, <-sV] at h;exact h))) ?_;rw[sV];refine .cn (x:=.ai 1 [[.ints (lC (O.getD p.toNat []))]]) rfl rfl rfl h7 ?_;refine aj.dJ rfl rfl rfl rfl rfl rfl rfl rfl (an.refl _) (rfl) (λ_=>df) m1 m1 λZ8=>?_;refine ba ?_;exact aW (⟨i+1,Z8,by rw[NI (λp=>lC (O.getD p.toNat [])) bZ c,sV],rfl,c,λq cd=>by rw[<-c2 c,List.mem_append,List.mem_singleton,sV] at cd;rcases cd with cd | rfl;exact f q cd;exact w⟩)
 ·obtain rfl:i=bZ.length:=by omega
  rw[List.take_length] at f ⊢;refine ba ?_;refine .cn (x:=.ai 1 [[.ints bZ]]) rfl rfl rfl h7 ?_;refine aj.dJ rfl rfl rfl rfl rfl rfl rfl rfl (an.refl _) (rfl) (λ_=>df) m1 m1 λakv=>?_;refine aT ?_;refine .cg (rs:=[.tmp 6,.tmp 7]) (H':=H) rfl qV w9 bC ?_;exact⟨by rw[Nz f];show _=ab.bk [.ai 1 (List.map _ (_++_)),_];rw[List.map_append];rfl,rfl⟩
def Z9{O}{f}{c}(o:ob O)(a:zG O.length f)(h:kF O f=some c):si c:=by
 obtain⟨rfl,_⟩:=GU h;intro l j x g;rcases List.mem_append.1 j with h | h
 ·obtain⟨p,q,rfl⟩:=List.mem_map.1 h;have m:=a.2 p q;exact ((o p.toNat aa).zF x (List.mem_filter.1 g).1).1
 ·simp at h;subst h;have:=a.2 x g;omega
def aaa(l)(x):ab.bm (l++[x])= .ai 1 ((l.map λx=>[.ints x])++[[.ints x]]):=by
 show ab.ai 1 (List.map _ (_++_))=_;rw[List.map_append];rfl
def aab{g}(s:fX g):aG prog 182 [.bm g] (.bm (ts g)):=by
 intro H;refine aM func182 λB I bW=>?_;have G:=u6 s;refine aP ?_;refine .cn (x:=.ai 1 [[.i 0]]) rfl rfl rfl h7 ?_;refine .uS rfl rfl rfl rfl cC rfl rfl rfl rfl rfl rfl rfl λv11=>?_;refine bY ?_;refine bo (λm st=>∃(O:List ak) (v:Value),st=⟨[(4,.i O.length),(3,.as (.bm O) v),(0,.bm g)],.own 23 1 v::H⟩/\m=3+g.length - O.length/\(1<=O.length/\O.length<=3+g.length)/\O=k3 g O.length) ⟨[[0]],_,rfl,rfl,cB,rfl⟩ ?_;rintro m _ ⟨O,v,rfl,rfl,z,c⟩;refine bY ?_;refine az (λaf=>?_) λaf=>?_
 ·have l:O.length<3+g.length:=by omega
  have r:ob O:=by have h:=zI s O.length z.2;rwa [<-c] at h
  have k5:=xg s O.length;have mM:=(GV r k5).len;have a:O.length≠0:=by omega
  have Da:=NA l;rw[<-c] at Da;refine c4 ?_;refine ag (.s4 .k (.cons h8 w9) (Z7 s r l)) ?_;refine aP ?_;refine .kV (λst=>st=⟨[(5,.ints (iS O O.length ((e6 g).getD O.length default))),(4,.i O.length),(3,.as (.bm O) v),(0,.bm g)],.own 23 1 v::H⟩) ?_ ?_
  ·refine aT ?_;refine bc (λae=>?_) λae=>?_
   ·obtain⟨w,br⟩:=Option.isSome_iff_exists.1 ae;obtain⟨vn,p1⟩:=Ns r k5.1 br;rw[br,Option.getD_some];refine aF ?_;refine ag (.call .k (Z3 w (Z9 r k5 br) aa aa)) ?_;refine bR ?_;refine bc (λao=>?_) λao=>?_
    ·rw[CU a br ao] at mM;simp[List.length_cons,List.length_append,List.length_nil] at mM;refine aO ?_;refine .uS rfl rfl rfl rfl cC rfl rfl rfl rfl rfl rfl rfl λHB=>?_;refine .le 34 (y:=.as (.ai 1 [[.i O.length]]) HB) rfl gu ?_;refine aR ?_;refine .dJ rfl rfl rfl rfl rfl rfl rfl rfl gu (sa _) (λ_=>df) cB cB λakw=>?_;refine .cn (x:=.ai 1 [[.i 0]]) rfl rfl rfl h7 ?_;refine aj.dJ rfl rfl rfl rfl rfl rfl rfl rfl (an.refl _) (rfl) (λ_=>df) cB cB λC7=>?_;refine aO ?_;refine .le 5 (y:=.ints (iS O O.length ((e6 g).getD O.length default))) rfl (by rw[CU a br ao,ND];exact .e2 _ _) ?_;exact dh rfl
    ·refine aR ?_;refine .le 5 (y:=.ints (iS O O.length ((e6 g).getD O.length default))) rfl (by rw[NG a br ao];exact .nil 1) ?_;exact dh rfl
   ·have br:kF O ((e6 g).getD O.length default)=none:=Option.not_isSome_iff_eq_none.1 (by rw[ae];simp);refine aR ?_;refine .le 5 (y:=.ints (iS O O.length ((e6 g).getD O.length default))) rfl (by rw[NF a br];exact .nil 1) ?_;exact dh rfl
  ·rintro _ rfl;refine aF ?_;refine .cn (x:=.ai 1 [[.ints (iS O O.length ((e6 g).getD O.length default))]]) rfl rfl rfl h7 ?_;refine aj.dJ rfl rfl rfl rfl rfl rfl rfl rfl (an.refl _) (rfl) (λ_=>df) KK KK λzX=>?_;refine ba ?_;exact aW (⟨O++[iS O O.length ((e6 g).getD O.length default)],zX,by rw[aaa,List.length_append,List.length_singleton],by rw[List.length_append,List.length_singleton],Bm,by rw[List.length_append,List.length_singleton,Da]⟩)
 ·have hle:O.length=3+g.length:=by omega
  rw[hle,zH] at c;refine bR ?_;refine .cg (rs:=[.tmp 2]) (H':=H) rfl eQ CB bC ?_;exact⟨by rw[c];rfl,rfl⟩
def Pv{g}(a:fX g){c:Int}(j:0<=c)(l:c<3+g.length):aG prog 145 [ab.bm g,.i c] (.bk [ab.ints (dE g c),.b (!(dE g c).isEmpty)]):=by
 intro H;refine aM func145 λB I m=>?_;have f:(ts g).length=3+g.length:=by have h:=tu (g:=g) (Nat.le_refl (3+g.length));rwa [zH] at h
 refine ba ?_;refine ag (.call .k (aab a)) ?_;refine gL ?_;refine dL [.tmp 4,.tmp 5] H ?_;exact⟨by rw[show (ts g).getD c.toNat default=dE g c from rfl];cases dE g c <;> simp[iy],rfl⟩
instance:th prog 28 (4,1,.bool false):=⟨ay⟩
abbrev ab.du(o:cW):ab:=.ai 1 (o.map λx=>[ab.b x])
def aac{W:bt}(h:cx W){c:Int}(J:3<=c)(D:c<3+W.parents.length):aG prog 163 [ab.world W,.i c] (ab.du (vf W c.toNat)):=by
 intro H;refine aM func163 λB I E=>?_;have F:=q0 h;refine aB.n0 (t:=0) (i:=0) rfl rfl (λgV=>?_);refine bR ?_;refine aj.pN (3+W.parents.length) rfl rfl rfl rfl rfl rfl rfl rfl aa aa yk (λDb=>?_);refine aY ?_;rw[Ou];refine aF ?_;refine ag (ad.gU rfl rfl rfl rfl rfl aa) ?_;apply aj.fZ rfl rfl rfl rfl rfl rfl rfl rfl rfl rfl
 (case hu=>repeat (first | exact bG.head _ _ _ | apply bG.tail));(case hfit=>exact se (i:=c.toNat) cB);(case hds=>exact sd (i:=c.toNat) cB rfl)
 refine bY ?_;refine bo (λm s=>∃(i:Int) (o:cW),s=⟨[(6,.i i),(5,.val (.slice (some ⟨Db,0,none⟩) (3+W.parents.length) (3+W.parents.length))),(2,.ptr (cD W))],.au Db 4 (j9 o)::H⟩/\m=(i - 2).toNat/\2<=i/\i<=c/\o.length=3+W.parents.length/\q3 W (i - 2).toNat o=vf W c.toNat) (⟨c,(List.replicate (3+W.parents.length) false).set c.toNat true,rfl,rfl,aa,aa,aS,by rw[vf,show (c - 2).toNat=c.toNat - 2 from by omega]⟩) ?_;rintro m _ ⟨i,o,rfl,rfl,A,w,q,g⟩;refine aP ?_;refine az (λaf=>?_) λaf=>?_
 ·have C:=pZ h (i:=(i - 3).toNat) aa;refine gL ?_;refine bo (λm s=>∃(j:Nat) (a:cW),s=⟨[(29,.i j),(28,.i (W.parents.getD (i - 3).toNat default).length),(27,ab.ints (W.parents.getD (i - 3).toNat default)),(6,.i i),(5,.val (.slice (some ⟨Db,0,none⟩) (3+W.parents.length) (3+W.parents.length))),(2,.ptr (cD W))],.au Db 4 (j9 a)::H⟩/\m=(W.parents.getD (i - 3).toNat default).length - j/\j<=(W.parents.getD (i - 3).toNat default).length/\a.length=3+W.parents.length/\og a i.toNat ((W.parents.getD (i - 3).toNat default).drop j)=og o i.toNat (W.parents.getD (i - 3).toNat default)) (⟨0,o,rfl,rfl,aa,q,rfl⟩) ?_;rintro m _ ⟨j,a,rfl,rfl,G,l,f⟩;refine aR ?_;refine aB.eG (t:=27) rfl (λyH=>?_);refine aT ?_;refine az (λae=>?_) λae=>?_
  ·refine bE ?_;have z:3<=(W.parents.getD (i - 3).toNat default).getD j default/\(W.parents.getD (i - 3).toNat default).getD j default<i:=by
    have:=C ((W.parents.getD (i - 3).toNat default).getD j default) (hQ aa);omega
   refine aT ?_;refine ag (ad.gU rfl rfl rfl rfl rfl aa) ?_;refine ag ((by first | exact ad.cF rfl rfl rfl rfl | (apply ad.ij rfl rfl rfl;(case hm=>repeat (first | exact .head _ | refine .tail _ ?_));(case hy=>exact xn (i:=((W.parents.getD (i - 3).toNat default).getD j default).toNat) aa)))) ?_;refine aF ?_;refine gb (λaw=>ad.gU rfl rfl (cl aw) rfl (cl aw) aa) ?_;refine gb (λaw=>(by first | exact ad.cF rfl rfl (cl aw) rfl | (apply ad.ij rfl rfl (cl aw);(case hm=>repeat (first | exact .head _ | refine .tail _ ?_));(case hy=>exact xn (i:=i.toNat) aa)))) ?_;refine aR ?_;refine ag (ad.gU rfl rfl rfl rfl rfl aa) ?_;apply aj.fZ rfl rfl rfl rfl rfl rfl rfl rfl rfl rfl
   (case hu=>repeat (first | exact bG.head _ _ _ | apply bG.tail));(case hfit=>exact se (i:=((W.parents.getD (i - 3).toNat default).getD j default).toNat) aa);(case hds=>exact sd (i:=((W.parents.getD (i - 3).toNat default).getD j default).toNat) aa rfl)
   refine aP ?_;exact aW (⟨j+1,a.set ((W.parents.getD (i - 3).toNat default).getD j default).toNat (bif a.getD ((W.parents.getD (i - 3).toNat default).getD j default).toNat false then true else a.getD i.toNat false),rfl,rfl,aa,by rw[List.length_set];exact l,by rw[<-X0 aa];exact f⟩)
  ·obtain rfl:j=(W.parents.getD (i - 3).toNat default).length:=by omega
   rw[List.drop_length,og] at f;refine bE ?_;exact aW (⟨i - 1,a,rfl,rfl,aa,aa,l,by rw[f, <-g,show (i - 2).toNat=(i - 3).toNat+1 from by omega,q3,show 3+(i - 3).toNat=i.toNat from by omega,show (i - 1 - 2).toNat=(i - 3).toNat from by omega]⟩)
 ·obtain rfl:i=2:=by omega
  rw[show ((2:Int) - 2).toNat=0 from rfl,q3] at g;subst g;refine ax ?_;rw[Ot];refine aB.oM (d:=5) (k:=1) rfl pq (by simp[q]) (by intro e B;obtain⟨x,_,rfl⟩:=List.mem_map.1 B;rfl) aa yk ?_;refine ax ?_;refine aC 4 (H) ?_;exact⟨cO,rfl⟩
def HC{W}(h:cx W){a b}(g:jf W a)(f:jf W b):aG prog 120 [ab.world W,.i a,.i b] (.b (iU W a b)):=by
 intro H;refine aM func120 λB I j=>?_;have l:=q0 h;simp[jf,Bool.and_eq_true,decide_eq_true_eq] at g f;refine jI ?_;refine az (λaf=>?_) λaf=>?_
 ·refine aP ?_;refine aC 6 H ?_;exact⟨bq (by rw[Hf];symm;rw[eM,Bool.or_eq_true,beq_iff_eq,beq_iff_eq] at af;rcases af with e | e;(· subst e;exact ui h aa);(· subst e;exact Hd h aa)),rfl⟩
 ·refine ba ?_;refine az (λae=>?_) λae=>?_
  ·refine aP ?_;refine aC 6 H ?_;exact⟨bq (by rw[Hf,q2 aa];symm;rw[eM,Bool.or_eq_false_iff,beq_eq_false_iff_ne,beq_eq_false_iff_ne] at af;rw[Bool.or_eq_false_iff,beq_eq_false_iff_ne,beq_eq_false_iff_ne];omega),rfl⟩
  ·refine ax ?_;refine ag (.call .k (aac h aa aa)) ?_;refine aP ?_;refine ag ((by first | exact .fC rfl rfl rfl rfl rfl (by simp[Oq];omega) | exact .ep rfl rfl rfl rfl rfl (by simp[Oq];omega))) ?_;refine aT ?_;refine aC 6 H ?_;exact⟨bq (by rw[eM,Bool.or_eq_false_iff,beq_eq_false_iff_ne,beq_eq_false_iff_ne] at af;exact XZ h aa aa aa),rfl⟩
def aad(f)(q:∀k∈f.kids,∀n:Int,0<=n->n<=1000000->aG prog 183 [ab.fact k,.i n] (.i (min (cU k:Int) (n+1))))(n)(g:0<=n)(h:n<=1000000):aG prog 183 [ab.fact f,.i n] (.i (min (cU f:Int) (n+1))):=by
 intro H;refine aM func183 λB I w=>?_;refine .n0 (t:=0) (i:=5) rfl rfl λgV=>?_;refine jI ?_;refine bo (λm r=>∃(i:Nat) (x:Int),r=⟨[(6,.i i),(5,.i x),(2,.ptr (fy f)),(1,.i n)],H⟩/\m=f.kids.length - i/\i<=f.kids.length/\x=min (1+fk (f.kids.take i):Int) (n+1)) ⟨0,1,rfl,rfl,aa,by simp[fk];omega⟩ ?_;rintro m _ ⟨i,x,rfl,rfl,z,s⟩;refine eb ?_;refine bc (λaf=>?_) λaf=>?_
 ·simp[cond_true,Bool.cond_false_right,Bool.and_eq_true,decide_eq_true_eq] at af;have o:=XX (l:=f.kids) (j:=i) aa;refine c4 ?_;refine ag (ad.call .k (q (f.kids.getD i default) (hQ aa) _ aa aa)) ?_;refine bY ?_;exact aW (⟨i+1,x+min (cU (f.kids.getD i default):Int) (n - x+1),rfl,rfl,aa,aa⟩)
 ·simp only[Bool.cond_false_right,Bool.and_eq_false_iff,decide_eq_false_iff_not] at af;have o:=pY f;have v:fk (f.kids.take i)<=fk f.kids:=XY _;have a:x=min (cU f:Int) (n+1):=by
   rcases af with e | e
   ·have:i=f.kids.length:=by omega
    rw[this,List.take_length] at s;omega
   ·omega
  refine bR ?_;refine aC 4 (H) ?_;exact⟨fK a,rfl⟩
def aae:∀(f:Fact) (n:Int),0<=n->n<=1000000->aG prog 183 [ab.fact f,.i n] (.i (min (cU f:Int) (n+1))):=Fact.l5 aad
def aaf(f):aG prog 147 [ab.fact f] (.i (min (cU f:Int) 25)):=by
 intro H;refine aM func147 λB I a=>?_;refine ba ?_;refine ag (.call .k (aae f 24 aa aa)) ?_;refine aY ?_;refine aC 2 (H) ?_;exact⟨cO,rfl⟩
def aag(f)(hn:cU f<=1000000)(g:∀k∈f.kids,aG prog 148 [ab.fact k] (.i (ka k))):aG prog 148 [ab.fact f] (.i (ka f)):=by
 intro H;refine aM func148 λB I j=>?_;refine .n0 (t:=0) (i:=5) rfl rfl λgV=>?_;have l:=Ow f;have c:=X2 f;refine oX ?_;refine bo (λm h=>∃(i:Nat) (x:Int),h=⟨[(9,.i i),(8,.i f.kids.length),(7,ab.facts f.kids),(3,.i x),(1,.ptr (fy f))],H⟩/\m=f.kids.length - i/\i<=f.kids.length/\x=kH (f.kids.take i)) ⟨0,0,rfl,rfl,aa,by simp[kH]⟩ ?_;rintro m _ ⟨i,x,rfl,rfl,o,a⟩;refine ax ?_;refine az (λaf=>?_) λaf=>?_
 ·refine aI ?_;refine bK (λdM=>?_);refine ax ?_;refine ag (.call .k (g (f.kids.getD i default) gX)) ?_;refine ag zu ?_;refine aI ?_;exact aW (⟨i+1,if(ka (f.kids.getD i default):Int)>x then (ka (f.kids.getD i default):Int) else x,rfl,rfl,aa,by rw[<-c2 aa,Ov];split <;> omega⟩)
 ·obtain rfl:i=f.kids.length:=by omega
  rw[List.take_length] at a;subst a;refine dk ?_;refine aC 2 H ?_;exact⟨fK aa,rfl⟩
def aah:∀f:Fact,cU f<=1000000->aG prog 148 [ab.fact f] (.i (ka f)):=Fact.l5 λf c g=>aag f g λk a=>c k a (by have:=Oy a;omega)
def aai(W)(l):aG prog 185 [ab.world W,.ints l] (.b (o2 W l)):=by
 intro H;refine aM func185 λB I j=>?_;refine .n0 (t:=0) (i:=1) rfl rfl λgV=>?_;refine .eG (t:=1) rfl λvi=>?_;refine eb ?_;refine bo (λm g=>∃i:Nat,g=⟨[(9,.i i),(8,.i l.length),(7,.ints l),(2,.ptr (cD W)),(1,.ints l)],H⟩/\m=l.length - i/\i<=l.length/\(l.take i).all (o0 W)=true) iA ?_;rintro m _ ⟨i,rfl,rfl,h,a⟩;refine ax ?_;refine az (λaf=>?_) λaf=>?_
 ·refine w7 ?_;refine bc (λae=>?_) λae=>?_
  ·have c:o0 W (l.getD i default)=false:=by rw[eM] at ae;simp[Bool.or_eq_true,decide_eq_true_eq] at ae;simp[o0,Bool.and_eq_false_iff,decide_eq_false_iff_not];omega
   refine bE ?_;refine aC 4 H ?_;exact⟨bq (by rw[o2,X1 aa c,Bool.and_false]),rfl⟩
  ·have c:o0 W (l.getD i default)=true:=by rw[eM] at ae;simp[Bool.or_eq_false_iff,decide_eq_false_iff_not] at ae;simp[o0,Bool.and_eq_true,decide_eq_true_eq];omega
   refine aP ?_;exact aW ⟨i+1,rfl,rfl,aa,by rw[<-c2 aa,List.all_append,a];simpa using c⟩
 ·obtain rfl:i=l.length:=by omega
  rw[List.take_length] at a;refine c4 ?_;refine aC 4 H ?_;exact⟨bq (by rw[o2,a,Bool.and_true,Bool.eq_iff_iff,decide_eq_true_iff,decide_eq_true_iff];omega),rfl⟩
def aaj{W}(q7:W.parents.length<=60)(f)(fv:∀k∈f.kids,aG prog 149 [ab.world W,ab.fact k] (.b (dS W k))):aG prog 149 [ab.world W,ab.fact f] (.b (dS W f)):=by
 intro H;refine aM func149 λB I bW=>?_;refine .n0 (t:=1) (i:=5) rfl rfl λgV=>?_;refine .n0 (t:=1) (i:=2) rfl rfl λvi=>?_;refine bR ?_;refine .kV (λst=>∃eJ:Int,st=⟨[(5,.i eJ),(3,.ptr (fy f)),(2,.ptr (cD W))],H⟩/\vg W f eJ) ?_ ?_
 ·refine dk ?_;refine az (λaf=>?_) λaf=>?_
  ·refine ba ?_;refine aj.db rfl rfl rfl rfl rfl rfl (λaw=>.call (.mk' rfl rfl rfl rfl c9) (YL W _ q7)) ?_;refine aY ?_;refine az (λae=>?_) λae=>?_
   ·refine aI ?_;refine aC 4 H ?_;exact⟨bq (xo (X4 af ae)).symm,rfl⟩
   ·refine aO ?_;exact dh ⟨0,rfl,X3 af ae⟩
  ·refine aP ?_;refine az (λao=>?_) λao=>?_
   ·refine aO ?_;refine bc (λaV=>?_) λaV=>?_
    ·replace aV:=dC aV;refine gL ?_;refine az (λbu=>?_) λbu=>?_
     ·refine aI ?_;refine aC 4 H ?_;exact⟨bq (xo (OA (.inl ao) bu)).symm,rfl⟩
     ·refine aO ?_;exact dh ⟨0,rfl,Oz (.inl ao) bu⟩
    ·exact absurd ao (by simpa using aV)
   ·refine aT ?_;refine az (λcr=>?_) λcr=>?_
    ·refine gL ?_;refine az (λdK=>?_) λdK=>?_
     ·refine aI ?_;refine aC 4 H ?_;exact⟨bq (xo (OA (.inr cr) dK)).symm,rfl⟩
     ·refine aO ?_;exact dh ⟨0,rfl,Oz (.inr cr) dK⟩
    ·refine ax ?_;refine az (λdA=>?_) λdA=>?_
     ·refine aO ?_;exact dh ⟨0,rfl,C2 aa (by rw[dA];rfl)⟩
     ·refine ax ?_;refine az (λdP=>?_) λdP=>?_
      ·refine aY ?_;exact dh ⟨1,rfl,C2 aa (by rw[dP];rfl)⟩
      ·refine aP ?_;refine az (λc7=>?_) λc7=>?_
       ·refine aO ?_;refine bc (λhJ=>?_) (λhJ=>?_)
        ·replace hJ:=dC hJ;refine aY ?_;exact dh ⟨2,rfl,C2 aa (by rw[c7];rfl)⟩
        ·exact absurd c7 (by simpa using hJ)
       ·refine aT ?_;refine az (λh1=>?_) λh1=>?_
        ·refine aY ?_;exact dh ⟨2,rfl,C2 aa (by rw[h1];rfl)⟩
        ·refine aI ?_;refine aC 4 (H) ?_;exact⟨bq (xo (X5 aa)).symm,rfl⟩
 ·rintro _ ⟨eJ,rfl,oj⟩;refine nk ?_;refine aj.db rfl rfl rfl rfl rfl rfl (λaw=>ad.call (.mk' rfl rfl rfl rfl c9) (aai W f.path)) ?_;refine aY ?_;refine az (λjq=>?_) λjq=>?_
  ·refine aP ?_;refine aC 4 (H) ?_;exact⟨bq (by rw[OC] at jq;exact (xo (by rw[OB oj];simp only[Bool.not_eq_true'] at jq;rw[jq];rfl)).symm),rfl⟩
  ·have Pw:((f.kids.length:Int)==eJ && jl W f)=true:=by rw[OC] at jq;simpa using jq
   refine ax ?_;refine ag (ad.call .k (OW f)) ?_;refine w7 ?_;refine az (λkc=>?_) λkc=>?_
   ·refine aP ?_;refine aC 4 (H) ?_;exact⟨bq (by rw[OD oj Pw] at kc;exact (xo (by simpa using kc)).symm),rfl⟩
   ·have jz:gN W f=true:=by rw[OD oj Pw] at kc;simpa using kc
    refine bR ?_;refine bo (λm st=>∃(i:Nat),st=⟨[(94,.i i),(93,.i f.kids.length),(92,ab.facts f.kids),(3,.ptr (fy f)),(2,.ptr (cD W))],H⟩/\m=f.kids.length - i/\i<=f.kids.length/\(f.kids.take i).all (dS W)=true) (⟨0,rfl,rfl,aa,rfl⟩) ?_;rintro m _ ⟨i,rfl,rfl,aQ,yT⟩;refine ax ?_;refine az (λlE=>?_) λlE=>?_
    ·refine aI ?_;refine bK (λdM=>?_);refine aP ?_;refine ag (ad.call .k (fv (f.kids.getD i default) (hQ aa))) ?_;refine aF ?_;refine az (λl8=>?_) λl8=>?_
     ·refine bE ?_;refine aC 4 (H) ?_;exact⟨bq (X7 (i:=i) aa (by simpa using l8)).symm,rfl⟩
     ·refine aP ?_;exact aW (⟨i+1,rfl,rfl,aa,by rw[<-c2 aa,List.all_append,yT];simpa using l8⟩)
    ·obtain rfl:i=f.kids.length:=by omega
     rw[List.take_length] at yT;refine bE ?_;refine aC 4 (H) ?_;exact⟨bq (X8 jz yT).symm,rfl⟩
def aak{W}(a:W.parents.length<=60):∀f:Fact,aG prog 149 [ab.world W,ab.fact f] (.b (dS W f)):=Fact.l5 (aaj a)
def aal{W}(a:W.parents.length<=60)(f):aG prog 95 [ab.world W,ab.fact f] (.b (decide (cU f<=24) && decide (ka f<=12) && dS W f)):=by
 intro H;refine aM func95 λB I c=>?_;refine bY ?_;refine ag (.call .k (aaf f)) ?_;refine aF ?_;refine aj.db rfl rfl rfl rfl rfl rfl (λaw=>.call (.mk' rfl rfl rfl rfl c9) (aah f wq)) ?_;refine aT ?_;refine aj.db rfl rfl rfl rfl rfl rfl (λaw=>.call (.mk' rfl rfl rfl rfl c9) (aak a f)) ?_;refine aT ?_;refine aC 4 H ?_;exact⟨bq (by rw[show decide (min (cU f:Int) 25<=24)=decide (cU f<=24) from by rw[decide_eq_decide];omega,show decide ((ka f:Int)<=12)=decide (ka f<=12) from by rw[decide_eq_decide];omega];cases decide (cU f<=24) <;> cases decide (ka f<=12) <;> rfl),rfl⟩
def Px(h:cx W){s}(a:s<W.owner.length):3<=W.owner.getD s default/\W.owner.getD s default<3+W.parents.length:=by
 simp only[cx,Bool.and_eq_true] at h;have:=List.all_eq_true.1 h.2 _ (bI a);simpa only[r9,Bool.and_eq_true,decide_eq_true_eq] using this
def tH(W:Fc.bt)(c:Int)(s:Nat):Bool:=iU W c (W.owner.getD s default)
def q8(W:Fc.bt)(c:Int)(n:Nat):ak:=((List.range n).filter (tH W c)).map λ(s:Nat)=>(s:Int)
def aam(W:Fc.bt)(c):q8 W c W.owner.length=ef W c:=rfl
def Uj(W:Fc.bt)(c)(n):(q8 W c n).length<=n:=by
 rw[q8,List.length_map];exact Nat.le_trans zx aS
def aan{c}{n}(h:tH W c n):ab.ints (q8 W c (n+1))= .ai 1 (((q8 W c n).map λn=>[.i n])++[[.i (n:Int)]]):=by
 rw[q8,List.range_succ,List.filter_append,List.map_append];rw[show [n].filter (tH W c)= [n] by simp[h]];exact GN _ _
def aao{c}{n}(h:tH W c n=false):q8 W c (n+1)=q8 W c n:=by
 rw[q8,List.range_succ,List.filter_append,show [n].filter (tH W c)= [] by simp[h],List.append_nil];rfl
def Py{c:Type}[Inhabited c]{l:List c}{i}{p}(f:i<l.length)(h:(l.take i).all p=true)(g:p (l.getD i default)=true):(l.take (i+1)).all p=true:=by rw[zD f,h,g];rfl
def Pz{c:Type}[Inhabited c]{l:List c}{i}{p}(f:i<l.length)(g:p (l.getD i default)=false):l.all p=false:=by
 rw[List.all_eq_false];exact⟨_,bI f,by rw[g];simp⟩
def PA(h:cx W){c:Int}(g:3<=c)(l:c<3+W.parents.length){s}(f:s<W.owner.length):aG prog 85 [ab.world W,.i c,.i s] (.b (tH W c s)):=by
 intro H;refine aM func85 λB I m=>?_;have j:=Px h f;refine aP ?_;refine .cw mixed ?_;refine bR ?_;refine .dG 3 10 19 rfl aq rfl rfl aq ?_;refine ba ?_;refine aj.db rfl rfl rfl rfl rfl rfl (λaw=>.call (.mk' rfl rfl rfl rfl c9) (HC h (a:=c) (b:=(W.owner.getD s default)) EZ EZ)) ?_;refine aT ?_;refine aC 6 H ?_;exact⟨bq (by rw[decide_eq_true (show c>=3 from g)];rfl),rfl⟩
def aap(h:cx W){c:Int}(l:3<=c)(f:c<3+W.parents.length):aG prog 190 [ab.world W,.i c] (ab.ints (ef W c)):=by
 intro H;refine aM func190 λB I r=>?_;have j:=vm h;refine oX ?_;refine hh 5 3 1 ?_;refine bo (λm o=>∃(i:Nat) (v:Value),o=⟨[(10,.i i),(9,.i W.owner.length),(5,.as (ab.ints (q8 W c i)) v),(2,.ptr (cD W)),(1,.i c)],.own 3 1 v::H⟩/\m=W.owner.length - i/\i<=W.owner.length) (⟨0,_,rfl,rfl,aa⟩) ?_;rintro m _ ⟨i,v,rfl,rfl,s⟩;refine ax ?_;refine az (λaf=>?_) λaf=>?_
 ·have a:i<W.owner.length:=by omega
  refine eb ?_;refine ag (ad.call .k (PA h l f a)) ?_;refine aO ?_;refine bc (λae=>?_) (λae=>?_)
  ·refine aF ?_;refine aj.cn (x:=.ai 1 [[.i i]]) rfl rfl rfl (ad.row rfl rfl cC rfl rfl rfl rfl rfl rfl) ?_;refine aj.dJ rfl rfl rfl rfl rfl rfl rfl rfl (an.refl _) (rfl) (λ_=>df) K0 K0 (λv20=>?_);refine aI ?_;exact aW (⟨i+1,v20,by rw[aan ae],rfl,a⟩)
  ·refine aP ?_;exact aW (⟨i+1,v,by rw[aao ae],rfl,a⟩)
 ·obtain rfl:i=W.owner.length:=by omega
  rw[aam];refine bR ?_;refine aZ.cg (rs:=[.tmp 4]) (H':=H) rfl (.tmp rfl (.nil)) (.cons (an.e2 _ _) .nil) bC ?_;exact⟨cO,rfl⟩
def aaq(f)(s:nn f)(r:∀k∈f.kids,aG prog 96 [ab.fact k] (.i (np k))):aG prog 96 [ab.fact f] (.i (np f)):=by
 intro H;refine aM func96 λB I w=>?_;rw[CP];obtain⟨l,h,x⟩:=CQ s;refine bE ?_;refine .kV (λst=>st=⟨[(3,.i (gY f)),(1,.ptr (fy f))],H⟩) ?_ ?_
 ·refine aF ?_;refine ag (.call .k (OW f)) ?_;refine aO ?_;refine bc (λaf=>?_) λaf=>?_
  ·have g:gY f=f.arg+1:=by unfold gY;rw[if_pos By]
   rw[g] at l h;refine ax ?_;refine .le 3 (y:=.i (gY f)) rfl (.b4 (by rw[g])) ?_;exact dh rfl
  ·have g:gY f=0:=by unfold gY;rw[if_neg By]
   refine aR ?_;refine .le 3 (y:=.i (gY f)) rfl (.b4 (by rw[g])) ?_;exact dh rfl
 ·rintro _ rfl;refine bY ?_;refine aB.eG (t:=12) rfl (λakx=>?_);refine bo (λm st=>∃j:Nat,st=⟨[(14,.i j),(13,.i f.kids.length),(12,ab.facts f.kids),(3,.i (nq (f.kids.take j) (gY f)))],H⟩/\m=f.kids.length - j/\j<=f.kids.length) (⟨0,rfl,rfl,aa⟩) ?_;rintro m _ ⟨j,rfl,rfl,v⟩;refine ax ?_;refine az (λae=>?_) λae=>?_
  ·have c:j<f.kids.length:=by omega
   have o:=bI c;have a:=GQ (f.kids.getD j default) (f.kids.take j) (gY f);rw[c2 c] at a;refine aI ?_;refine bK (λsh=>?_);refine aF ?_;refine eA 5 ?_;refine aF ?_;refine ag (ad.call .k (r _ o)) ?_;refine ag (ad.max2 rfl rfl rfl rfl rfl rfl) ?_;refine aY ?_;refine aB.le 3 (y:=.i (nq (f.kids.take (j+1)) (gY f))) rfl (an.b4 (by rw[a,Int.max_def];split <;> (try split) <;> omega)) ?_;refine aY ?_;exact aW (⟨j+1,rfl,rfl,aa⟩)
  ·obtain rfl:j=f.kids.length:=by omega
   rw[List.take_length];refine bR ?_;refine aC 2 (H) ?_;exact⟨cO,rfl⟩
def aar:∀f:Fact,nn f=true->aG prog 96 [ab.fact f] (.i (np f)):=Fact.l5 λf g a=>aaq f a λk c=>g k c ((CQ a).2.2 k c)
def aas(a:W.parents.length<=60)(f):aG prog 95 [ab.world W,ab.fact f] (.b (lA W f)):=by rw[<-Yb];exact aal a f
end Go.Proofs.YtodccgailpkgeaaGreat

