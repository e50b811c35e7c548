/- A part of the proof. No condition. -/
import Derived.Test.YtodccgailpkgeaaGreatKindClosesP11
set_option linter.defProp false
set_option maxHeartbeats 1000000
set_option linter.unusedVariables false
set_option linter.unusedSimpArgs false
set_option maxRecDepth 10000
namespace Go.Proofs.YtodccgailpkgeaaGreat
open Go.Proofs.Tryz
open Go.Eng
open Go.Eng.Fc
open Go.Eng.dO
instance:q2 prog 222 (3,23):=⟨ax,ax⟩
instance:uV prog 23 aX:=⟨ax⟩
abbrev kS(cR bt:Nat)(g:List al)(U:ab):br:=.au cR 224 [ab.bp (e7 g),U,.val (.map (some bt))]
def PD{g}(av:fZ g){c}(a1:c<3+g.length){O}{l}(E:oo O)(N:O.length=c)(s:mP l O)(z bt)(U):
  hS prog [kS z bt g U,dV bt l] 229 [.p z 0,.i c] (.bj [.bp ((kP O ((e7 g).getD c default)).getD []),.b (kP O ((e7 g).getD c default)).isSome]):=by
 intro H hm;refine aM func229 λB I bN=>?_;obtain⟨b5,tL⟩:∃b5,b5=((e7 g).getD c default):=iZ;have lj:=xj av c;rw[<-tL] at lj ⊢;have K:=u7 av;refine gv ?_;refine ag ((by first | exact .cE rfl rfl rfl rfl | (apply ad.iv rfl rfl rfl;(case hm=>exact hm _ dB);(case hy=>rfl)))) ?_;refine aR ?_;refine ag (KZ) ?_;refine ay ?_;rw[show (e7 g).getD c default=b5 from tL.symm];have l3:=lj.1;refine hi 6 23 1 ?_;refine bm (λm st=>∃(i:Nat) (v:Value),st=⟨[(17,.i i),(16,.i b5.length),(15,.ints b5),(0,.p z 0),(1,.i c),(6,.as (.bp ((b5.take i).map (λp=>lN (O.getD p.toNat [])))) v)],.own 23 1 v::H⟩/\m=b5.length - i/\i<=b5.length/\∀p∈b5.take i,O.getD p.toNat []≠ []) ⟨0,_,rfl,rfl,aa,aT⟩ ?_;rintro m _ ⟨i,v,rfl,rfl,Q,h⟩;refine ay ?_;refine az (λaf=>?_) λaf=>?_
 ·have f:i<b5.length:=by omega
  obtain⟨p,bV⟩:∃p,p=b5.getD i default:=iZ;have xv:p∈b5:=bV▸bH f;have HG:=lj.2 p xv;have L:=E.len p.toNat;refine di ?_;rw[<-bV];refine aV ?_;refine ag EX ?_;refine aR ?_;refine ag (.tw rfl rfl rfl rfl rfl (.tail _ (hm _ uY)) s.ok ey) ?_;refine .le 26 (y:=.ints (O.getD p.toNat [])) rfl (s.look p aa) ?_;refine aV ?_;refine az (λae=>?_) λae=>?_
  ·have A:O.getD p.toNat []= []:=List.eq_nil_of_length_eq_zero aa;refine di ?_;refine .cl (rs:=[.tmp 4,.tmp 5]) (H':=H) rfl q4 GN bE ?_;exact⟨by rw[NX xv A];rfl,rfl⟩
  ·have A:O.getD p.toNat []≠ []:=λe=>by rw[e] at ae;simp at ae
   refine aP ?_;refine ag EX ?_;refine aR ?_;refine ag (.tw rfl rfl rfl rfl rfl (.tail _ (hm _ uY)) s.ok ey) ?_;refine .le 35 (y:=.ints (O.getD p.toNat [])) rfl (s.look p aa) ?_;refine ag (.call .k (aab _ aa)) ?_;refine .cc (x:=.aj 1 [[.ints (lN (O.getD p.toNat []))]]) rfl rfl rfl ie ?_;refine ai.dJ rfl rfl rfl rfl rfl rfl rfl rfl (aq.refl _) (rfl) (λ_=>dt) nc nc λPE=>?_;refine aJ ?_;exact aU (⟨i+1,PE,by rw[N6 (λp=>lN (O.getD p.toNat [])) b5 f, <-bV],rfl,f,λq cj=>by rw[<-c3 f,List.mem_append,List.mem_singleton, <-bV] at cj;rcases cj with cj | rfl;exact h q cj;exact A⟩)
 ·obtain rfl:i=b5.length:=by omega
  rw[List.take_length] at h ⊢;refine bA ?_;refine ag EX ?_;refine aR ?_;refine ag KZ ?_;refine aR ?_;refine .cc (x:=.aj 1 [[.ints ((e7 g).getD c default)]]) rfl rfl rfl ie ?_;refine ai.dJ rfl rfl rfl rfl rfl rfl rfl rfl (aq.refl _) (rfl) (λ_=>dt) nc nc λv49=>?_;refine aS ?_;refine .cl (rs:=[.tmp 4,.tmp 5]) (H':=H) rfl q4 xc bE ?_;exact⟨by rw[NY h, <-tL];show _=ab.bj [.aj 1 (List.map _ (_++_)),_];rw[List.map_append];rfl,rfl⟩
def aar{g}(av:fZ g){O}(a1:O.length<3+g.length){l}(xw:oo O)(c4:mP l O)(cR bt)(U)(H):
  bP prog 205 [.p cR 0,.i O.length] (kS cR bt g U::dV bt l::H) (λ_ H'=>∃Di,mP Di (O++[jd O O.length ((e7 g).getD O.length default)])/\H'=kS cR bt g U::dV bt Di::H) (λ_ _=>False):=by
 refine aM func205 λB I bN=>?_;have BS:=u7 av;have lj:=xj av O.length;have mU:=(G3 xw lj).len;refine aP ?_;refine az (λaf=>?_) λaf=>?_
 ·have af:O.length=0:=by omega
  refine ay ?_;refine ag ie ?_;refine .iA (u':=.ints [0]) rfl rfl (.inl rfl) rfl rfl rfl rfl rfl rfl gx Nj c4.ok ey ?_;refine aV ?_;refine dM [] (kS cR bt g U::dV bt (eQ l 0 (.ints [0]))::H) ?_;exact⟨_,by rw[Yd af];have:=c4.put (x:=[0]) aT aa;rwa [af] at this,rfl⟩
 ·have af:O.length≠0:=by omega
  refine aH ?_;rcases bq:kP O ((e7 g).getD O.length default) with _ | all
  ·refine aH ?_;refine ag (.h2 .k cL (by have h:=PD av a1 xw rfl c4 cR bt U;rw[bq] at h;exact h) N5) ?_;refine c6 ?_;refine bc (λae=>?_) λae=>?_
   ·replace ae:=dA ae;refine aQ ?_;refine dM [] (kS cR bt g U::dV bt l::H) ?_;exact⟨l,by rw[N3 af bq];exact c4.skip,rfl⟩
   ·simp at ae
  ·obtain⟨vo,p7⟩:=NR xw lj.1 bq;refine aH ?_;refine ag (.h2 .k cL (by have h:=PD av a1 xw rfl c4 cR bt U;rw[bq] at h;exact h) N5) ?_;refine c6 ?_;refine bc (λak=>?_) λak=>?_
   ·simp at ak
   ·replace ak:=dA ak;refine aS ?_;refine ag (.call .k (aad all aa aa)) ?_;refine bS ?_;refine az (λaL=>?_) λaL=>?_
    ·have aL:(lM all).2=true:=aL;rw[C7 af bq aL] at mU;simp[List.length_cons,List.length_append,List.length_nil] at mU;refine .cu mixed ?_;refine .sd (X:=ob) [⟨6,35,false⟩,⟨8,37,false⟩,⟨10,39,false⟩] (λJ=>match J with | [some v,none,none]=>.own 3 1 v::kS cR bt g U::dV bt l::H | [_,some v,none]=>.own 3 1 v::kS cR bt g U::dV bt l::H | [_,_,some v]=>.own 3 1 v::kS cR bt g U::dV bt l::H | _=>kS cR bt g U::dV bt l::H) (λq J=>match q,J with | 0,[some v,_,_]=>.as (.aj 1 [[.i (O.length:Int)]]) v | 1,[_,some v,_]=>.as (.aj 1 ([[.i (O.length:Int)]]++((lM all).1.map λn=>[.i n]))) v | 2,[_,_,some v]=>.as (.aj 1 ([[.i (O.length:Int)]]++((lM all).1.map λn=>[.i n])++[[.i 0]])) v | _,_=>.any) 0 11 40 rfl ao ao rfl rfl ao rfl (λ_ _ _ _ _ _ _ _ _ h=>h.elim) ?_;refine cn [[true,true,true],[true,true,false],[true,false,false],[false,false,false]] ⟨λf=>.move rfl rfl rfl,λf=>.move rfl rfl rfl,λf=>.move rfl rfl rfl,λf=>.move rfl rfl rfl,trivial⟩ ?_;refine cn [[true,true,true],[true,true,false],[true,false,false],[false,false,false]] ⟨λf=>fU,λf=>fU,λf=>fU,λf=>fU,trivial⟩ ?_;refine cn [[true,true,true],[true,true,false],[true,false,false],[false,false,false]] ⟨λf=>b9,λf=>b9,λf=>b9,λf=>b9,trivial⟩ ?_;refine cn [[true,true,true],[true,true,false],[true,false,false],[false,false,false]] ⟨λf=>cP,λf=>cP,λf=>cP,λf=>cP,trivial⟩ ?_;refine cn [[true,true,true],[true,true,false],[true,false,false],[false,false,false]] ⟨λf=>.move rfl rfl rfl,λf=>.move rfl rfl rfl,λf=>.move rfl rfl rfl,λf=>.move rfl rfl rfl,trivial⟩ ?_;refine cn [[false,false,false]] ⟨λf=>.move rfl rfl rfl,trivial⟩ ?_;refine cN.kg 0 [[false,false,false]] rfl rfl rfl ao rfl rfl rfl ⟨λf=>⟨.uT rfl rfl rfl rfl rfl rfl rfl rfl rfl (λ_=>rfl) (λ_=>rfl),hL⟩,trivial⟩ ?_;refine cn [[true,false,false],[false,false,false]] ⟨λf=>.move rfl rfl rfl,λf=>.move rfl rfl rfl,trivial⟩ ?_;refine cN.kg 1 [[true,false,false]] rfl rfl rfl ao rfl rfl rfl ⟨λf=>⟨.own rfl rfl rfl gx rfl rfl gx (si _) cF cF (λ_=>.head _ _ _) (λ_=>rfl),hL⟩,trivial⟩ ?_;refine cn [[true,true,false],[true,false,false],[false,false,false]] ⟨λf=>.row rfl rfl cD rfl rfl rfl rfl rfl rfl,λf=>.row rfl rfl cD rfl rfl rfl rfl rfl rfl,λf=>.row rfl rfl cD rfl rfl rfl rfl rfl rfl,trivial⟩ ?_;refine cN.kg 2 [[true,true,false]] rfl rfl rfl ao rfl rfl rfl ⟨λf=>⟨.own (news:=[[.i 0]]) rfl rfl rfl gx rfl rfl gx rfl cF cF (λ_=>.head _ _ _) (λ_=>rfl),hL⟩,trivial⟩ ?_;refine cN.nil λf=>?_;simp only[kN,List.map_cons,List.map_nil,List.cons_append,List.nil_append];refine aR ?_;refine .le 39 (y:=.ints ((O.length:Int)::((lM all).1++[0]))) rfl (by rw[N2];exact .eY _ _) ?_;refine .iA rfl rfl (.inl rfl) rfl rfl rfl rfl rfl rfl gx X2 c4.ok ey ?_;refine aR ?_;refine gQ [] (kS cR bt g U::dV bt (eQ l O.length (.ints ((O.length:Int)::((lM all).1++[0]))))::H) ?_;exact⟨_,by rw[C7 af bq aL];exact c4.put aT aa,rfl⟩
    ·have aL:(lM all).2=false:=aL;refine aR ?_;refine gQ [] (kS cR bt g U::dV bt l::H) ?_;exact⟨l,by rw[N4 af bq aL];exact c4.skip,rfl⟩
instance:tr prog 29 (23,24,aX):=⟨ax⟩
def aas{g:List al}(G:fZ g){cs:al}(P:∀c∈cs,0<=c/\c<3+g.length)(a5:cs.length<=1000000)(H:aC):bP prog 177 [ab.bp g,ab.ints cs] H
  (λy H'=>∃cR bt l U,y= .bj [.p cR 0,.b true]/\mP l (tC g)/\H'=kS cR bt g U::dV bt l::H) (λ_ _=>False):=by
 refine aM (n:=104) func177 λB I bN=>?_;have fw:=u7 G;refine bQ ?_;refine ag (ad.call .k (Hv g)) ?_;refine aH ?_;refine bc (λaf=>?_) (λaf=>?_)
 ·simp[G] at af
 ·replace af:=dA af;refine bA ?_;refine bm (λm st=>∃i:Nat,st=⟨[(20,.i i),(19,.i cs.length),(18,ab.ints cs),(0,ab.bp g)],H⟩/\m=cs.length - i/\i<=cs.length) (⟨0,rfl,rfl,aa⟩) ?_;rintro m _ ⟨i,rfl,rfl,aN⟩;refine ay ?_;refine az (λae=>?_) λae=>?_
  ·have bF:i<cs.length:=by omega
   have a1:=P _ (bH bF);refine w9 ?_;refine bc (λak=>?_) (λak=>?_)
   ·rw[Bool.cond_true_left] at ak;simp only[Bool.or_eq_true,decide_eq_true_eq] at ak;omega
   ·replace ak:=dA ak;refine aP ?_;exact aU (⟨i+1,rfl,rfl,bF⟩)
  ·refine bQ ?_;refine ai.Xc 3 (3+g.length) rfl rfl rfl rfl rfl rfl rfl rfl rfl aT aa aa ia (λks=>?_);refine ai.mkMap rfl rfl rfl rfl (λbt=>?_);refine aR ?_;refine ai.r6 rfl rfl rfl rfl rfl rfl rfl (λcR=>?_);refine bA ?_;refine ai.Xd (news:=tF g) rfl rfl rfl rfl rfl rfl rfl rfl (aq.refl _) nV (X8 g) (by rw[N0,List.length_replicate];omega) (.tail _ _ _ _ _ (.tail _ _ _ _ _ (.head _ _ _))) ?_;refine ai.k9 (H':=.au cR 224 [.val (.slice (some ⟨ks,0,none⟩) 3 (3+g.length)),.val aX,.val (.map (some bt))]::dV bt []::.au ks 23 ((C6++tF g).flatten++[])::H) (by rw[<-Ya g _ rfl];rfl) ?_;refine ai.oW (k:=1) (d:=47) rfl (.tail _ _ _ _ (.tail _ _ _ _ (.head _ _))) cF (λe he=>?_) nV ia ?_
   ·rcases List.mem_append.1 he with h | h
    ·simp at h;rw[h];rfl
    ·obtain⟨y,_,rfl⟩:=List.mem_map.1 h;rfl
   refine ai.le 47 (y:=ab.bp (e7 g)) rfl (Yb g) ?_;refine gv ?_;refine aA.qM (b:=cR) (t:=224) 248 1 1 dt rfl rfl ?_;refine aA.le 54 (y:=.i ((3+g.length:Nat):Int)) rfl (aq.b6 (by rw[pD])) ?_;refine bm (λm st=>∃(i:Nat) (us:du) (v:Value),st=⟨[(55,.i i),(54,.i ((3+g.length:Nat):Int)),(53,ab.bp (e7 g)),(8,.p cR 0)],.own 248 1 v::kS cR bt g (.as (ab.u9 us) v)::dV bt []::H⟩/\m=(3+g.length) - i/\i<=(3+g.length)/\us.length=i/\∀x∈us,x<18446744073709551616) (⟨0,[],_,rfl,rfl,aa,rfl,aT⟩) ?_;rintro m _ ⟨i,us,v,rfl,rfl,aN,kF,HH⟩;refine ay ?_;refine az (λaL=>?_) λaL=>?_
   ·have bF:i<3+g.length:=by omega
    obtain⟨b5,tL⟩:∃b5,b5=(e7 g).getD i default:=⟨_,rfl⟩;have lj:=xj G i;rw[<-tL] at lj;have l3:=lj.1;refine aP ?_;refine ag ((by first | exact ad.fC rfl rfl rfl rfl rfl (by rw[pD];exact bF) | exact ad.ep rfl rfl rfl rfl rfl (by rw[pD];exact bF))) ?_;refine ay ?_;rw[<-tL];refine aH ?_;refine ag (ad.call .k (Px 0 i aa aa)) ?_;refine ag (ad.call .k (Px _ 0 aa (mj aa (re aa)))) ?_;refine bT (λfg=>?_);refine bS ?_;obtain⟨Dj,HI⟩:∃Dj,Dj=0 ||| 2^(i:Int).toNat ||| 2^(0:Int).toNat:=⟨_,rfl⟩
    have aat:Dj<18446744073709551616:=HI▸mj (mj aa (re aa)) c8;refine bm (λm st=>∃(j s:Nat),st=⟨[(66,.i j),(65,.i b5.length),(64,ab.ints b5),(11,.p fg 0),(55,.i i),(54,.i ((3+g.length:Nat):Int)),(53,ab.bp (e7 g)),(8,.p cR 0)],.au fg 248 [ab.set s]::.own 248 1 v::kS cR bt g (.as (ab.u9 us) v)::dV bt []::H⟩/\m=b5.length - j/\j<=b5.length/\s<18446744073709551616) (⟨0,Dj,by rw[HI],rfl,aa,aat⟩) ?_;rintro m _ ⟨j,s,rfl,rfl,cp,b4⟩;refine ay ?_;refine az (λbo=>?_) λbo=>?_
    ·have dz:j<b5.length:=by omega
     have xv:=lj.2 _ (bH dz);refine bA ?_;refine b0 8 104 ?_;refine ay ?_;refine bh (ad.Xj 74 rfl (aq.eY _ _) (ad.ep rfl rfl rfl rfl rfl aa)) ?_;refine aH ?_;refine ag (ad.call .k (aae s _ b4 (N1 HH _))) ?_;refine aJ ?_;exact aU (⟨j+1,s ||| us.getD (b5.getD j default).toNat default,rfl,rfl,dz,mj b4 (N1 HH _)⟩)
    ·refine aS ?_;refine aA.cu mixed ?_;refine bW.sd (X:=ob) [⟨7,87,false⟩] (λJ=>match J with | [some v2]=>.au fg 248 [ab.set s]::.own 248 1 v2::kS cR bt g (.as (ab.u9 us) v)::dV bt []::H | _=>.au fg 248 [ab.set s]::.own 248 1 v::kS cR bt g (.as (ab.u9 us) v)::dV bt []::H) (λq J=>match q,J with | 0,[some v2]=>.as (.aj 1 ((us.map λs=>[ab.set s])++[[ab.set s]])) v2 | _,_=>.any) 0 8 104 rfl ao ao rfl rfl ao rfl (λ_ _ _ _ _ _ _ _ _ h=>h.elim) ?_;refine cn [[true],[false]] ⟨λf=>ad.move rfl rfl rfl,λf=>ad.move rfl rfl rfl,trivial⟩ ?_;refine cn [[false]] ⟨λf=>ad.move rfl rfl rfl,trivial⟩ ?_;refine cn [[false]] ⟨λf=>fU,trivial⟩ ?_;refine cn [[false]] ⟨λf=>b9,trivial⟩ ?_;refine cn [[false]] ⟨λf=>cP,trivial⟩ ?_;refine cn [[false]] ⟨λf=>nU,trivial⟩ ?_;refine cn [[false]] ⟨λf=>ad.row rfl rfl cD rfl rfl rfl rfl rfl rfl,trivial⟩ ?_;refine cN.kg 0 [[false]] rfl rfl rfl ao rfl rfl rfl ⟨λf=>⟨ee.own (news:=[[ab.set s]]) rfl rfl rfl (aq.refl _) rfl rfl (aq.refl _) rfl cF cF (λ_=>.tail _ _ _ _ _ (.head _ _ _)) (λ_=>rfl),hL⟩,trivial⟩ ?_;refine cN.nil (λf=>?_);simp only[kN,List.map_cons,List.map_nil,List.cons_append,List.nil_append];refine bA ?_;rw[Yc];exact aU ⟨i+1,us++[s],f 87,rfl,rfl,bF,by rw[List.length_append,kF];rfl,λx aK=>by rcases List.mem_append.1 aK with h | h;exact HH x h;simp at h;rw[h];exact b4⟩
   ·refine gv ?_;refine aA.vd (H':=kS cR bt g (.as (ab.u9 us) v)::dV bt []::H) (.cons _ (.refl _)) ?_;obtain⟨U,aau⟩:∃U:ab,U= .as (ab.u9 us) v:=⟨_,rfl⟩;rw[<-aau];refine aA.le 95 (y:=.i ((3+g.length:Nat):Int)) rfl (aq.b6 (by rw[pD])) ?_;refine bm (λm st=>∃(i:Nat) (l:List (Int×ab)),st=⟨[(96,.i i),(95,.i ((3+g.length:Nat):Int)),(8,.p cR 0)],kS cR bt g U::dV bt l::H⟩/\m=(3+g.length) - i/\i<=(3+g.length)/\mP l (lg g i)) (⟨0,[],rfl,rfl,aa,.nil⟩) ?_;rintro m _ ⟨i,l,rfl,rfl,aN,T⟩;refine ay ?_;refine az (λcm=>?_) λcm=>?_
    ·have bF:i<3+g.length:=by omega
     refine di ?_;refine cI .k (by have h:=aar G (O:=lg g i) (by rw[tE aa];exact bF) (zQ G i aa) T cR bt U H;rw[tE aa] at h;exact h.b) ?_
     ·rintro y H1 ⟨Di,K,rfl⟩;rw[<-NZ bF] at K;refine aP ?_;exact aU (⟨i+1,Di,rfl,rfl,bF,K⟩)
    ·obtain rfl:i=3+g.length:=by omega
     rw[zP] at T;refine di ?_;refine dM [.tmp 4,.tmp 5] (kS cR bt g U::dV bt l::H) ?_;exact⟨cR,bt,l,U,dP,T,rfl⟩
def PF{g}(h:fZ g){c:Int}(s:0<=c/\c<3+g.length):aI prog 140 [ab.bp g,.i c] (.bj [ab.ints (dH g c),.i (if(dH g c).isEmpty then 7 else 0)]):=by
 intro H;refine aM (n:=32) func140 λB I bN=>?_;have BS:=u7 h;have aav:(dH g c).length<=1000:=by
  have ae:=(zQ h (3+g.length) (Nat.le_refl _)).len c.toNat;rw[tE (Nat.le_refl _),zP] at ae;show ((tC g).getD c.toNat []).length<=1000;omega
 refine bQ ?_;refine ag (ad.row rfl rfl cD rfl rfl rfl rfl rfl rfl) ?_;refine cI .k ((aas h (cs:=[c]) (λx aK=>by simp at aK;rw[aK];exact s) aT H).b) ?_
 ·rintro _ _ ⟨x,bt,l,U,rfl,f,rfl⟩;refine c6 ?_;refine bc (λaf=>?_) (λaf=>?_)
  ·simp at af
  ·replace af:=dA af;refine bQ ?_;refine ag (ad.tw rfl rfl rfl rfl rfl (.tail _ (.head _)) f.ok ey) ?_;refine ai.le 22 (y:=ab.ints (dH g c)) rfl (f.look c aa) ?_;refine aV ?_;refine az (λae=>?_) λae=>?_
   ·have m:dH g c= []:=List.eq_nil_of_length_eq_zero aa;refine aJ ?_;refine aZ.cl (rs:=[.tmp 4,.tmp 5]) (H':=H) rfl (.tmp rfl (.tmp rfl (.nil))) (.cons (aq.nil 1) (.cons (.refl _) .nil)) bE ?_;exact⟨by rw[m];rfl,rfl⟩
   ·have m:dH g c≠ []:=λe=>by rw[e] at ae;simp at ae
    refine a8 ?_;refine ag (ad.tw rfl rfl rfl rfl rfl (.tail _ (.head _)) f.ok ey) ?_;refine ai.le 30 (y:=ab.ints (dH g c)) rfl (f.look c aa) ?_;refine ag (ad.call .k (Pa _ aa)) ?_;refine aS ?_;refine dM [.tmp 4,.tmp 5] (H) ?_;exact⟨by cases bq:dH g c with
 | nil=>exact absurd bq m
 | cons a r=>rfl,rfl⟩
end Go.Proofs.YtodccgailpkgeaaGreat

namespace Go.Eng.dO
open Go.Eng.Fc
variable{p:Prog}
theorem PG(i):∀(l a:al),jy i a l=Fc.lf i a l
 | [],_=>rfl
 | x::r,a=>by rw[jy,Fc.lf,PG i r]
theorem PH:∀(g:List al) (i:Nat),kk i g=true->Fc.iJ i g=true
 | [],_,_=>rfl
 | l::r,i,h=>by
  simp[kk,Bool.and_eq_true] at h;rw[Fc.iJ, <-PG,h.1.2,PH r (i+1) h.2];rfl
theorem PI:∀(a:List ih) (i:Nat),∀x∈hj a i,3+(i:Int)<=x/\x<3+((i+a.length:Nat):Int)
 | [],i,x,h=>by cases h
 | c::r,i,x,h=>by
  rw[hj] at h;rcases List.mem_append.1 h with h | h
  ·have:=(List.mem_replicate.1 h).2;rw[List.length_cons];omega
  ·have:=PI r (i+1) x h;rw[List.length_cons];omega
theorem tM:∀(a:List ih) (i:Nat),(hj a i).length=ek a
 | [],i=>rfl
 | c::r,i=>by
  rw[hj,List.length_append,List.length_replicate,tM r];simp[ek]
structure ow(p:Prog):Prop where
 dv:p.aF.length<=10
 aj:jz p.aF 0=true
 aaw:(ek p.aF:Int)=p.aw
 g:fZ (ca p)=true
def ow.of(h:fO p):ow p:=by
 simp[fO,Bool.and_eq_true,decide_eq_true_eq,beq_iff_eq] at h;exact⟨h.1.1.1,h.1.1.2,h.1.2.1,h.1.2.2⟩
def ow.world(h:ow p):Fc.cy (bR p)=true:=by
 have l:=h.dv;have j:=zS _ _ h.aj;have c:=h.g;simp[fZ,Bool.and_eq_true] at c;simp only[Fc.cy,Bool.and_eq_true,decide_eq_true_eq];have a:(bR p).parents.length=p.aF.length:=by show (ca p).length=_;simp[ca]
 refine⟨⟨⟨aa,?_⟩,PH _ 0 c.2⟩,List.all_eq_true.2 λx f=>?_⟩
 ·show (hj p.aF 0).length<=40;rw[tM];omega
 ·have:=PI p.aF 0 x f;simp[Fc.sh,Bool.and_eq_true,decide_eq_true_eq];rw[a];omega
def rf(p):(bR p).parents.length=p.aF.length:=by show (ca p).length=_;simp[ca]
def PJ{k}(h:k<p.aF.length):(bR p).parents.getD k default=(p.aF.getD k default).parents:=by
 show (ca p).getD k default=_;rw[ca,List.getD_eq_getElem?_getD,List.getElem?_map,List.getD_eq_getElem?_getD,List.getElem?_eq_getElem h];rfl
theorem PK{W}(a:Fc.cy W=true):∀(n c:Nat),c<=n->3<=c->c<3+W.parents.length->∀b,3<=b->gy W c b=true->b=c\/∃m,m<W.parents.length/\gy W c (3+m)=true/\(b:Int)∈W.parents.getD m default
 | n,c,f,w,o,b,r,h=>by
  have e:c=3+(c - 3):=by omega
  have v:=h;rw[e,ou a aa] at h;simp[Bool.or_eq_true,beq_iff_eq,List.any_eq_true] at h;rcases h with (h | h) | ⟨q,j,h⟩
  ·omega
  ·exact .inl aa
  ·have t:=p3 a aa q j
   match n,f with
   | 0,f=>omega
   | n+1,f=>
    rcases PK a n q.toNat aa aa aa b r h with g | ⟨m,g,s,l⟩
    ·exact .inr ⟨c - 3,aa,by rw[<-e];exact um a o,by rw[g];rw[show ((q.toNat:Nat):Int)=q by omega];exact j⟩
    ·refine .inr ⟨m,g,?_,l⟩;rw[e,ou a aa];simp[Bool.or_eq_true,beq_iff_eq,List.any_eq_true];exact .inr ⟨q,j,s⟩
def aax{W}(a:Fc.cy W=true){c m b:Nat}(g:c<3+W.parents.length)(hm:m<W.parents.length)(h:gy W c (3+m))(f:(b:Int)∈W.parents.getD m default):gy W c b=true:=by
 refine Hm a c c ft g (3+m) b h ?_;rw[ou a hm];simp[Bool.or_eq_true,beq_iff_eq,List.any_eq_true];have:=p3 a hm _ f;exact .inr ⟨_,f,by rw[Int.toNat_natCast];exact um a aa⟩
def vp(p:Prog)(c:Nat):Nat->al
 | 0=>[]
 | n+1=>(if gy (bR p) c (3+n) then (p.aF.getD n default).aw else [])++vp p c n
def tN(p:Prog)(c:Nat):Nat->al
 | 0=>[]
 | n+1=>tN p c n++(if gy (bR p) c (3+n) then (p.aF.getD n default).aw else [])
theorem HJ{p}(q:Fc.cy (bR p)=true){c}(r:3<=c)(w:c<3+p.aF.length):∀(n:Nat) (S g:al),n<=c - 2->(∀b:Nat,3<=b->(((b:Int)∈S)↔b=c\/∃m,n<=m/\m<p.aF.length/\gy (bR p) c (3+m)=true/\(b:Int)∈(p.aF.getD m default).parents))->jT p n S g=g++vp p c n
 | 0,S,g,_,_=>by rw[jT,vp,List.append_nil]
 | n+1,S,g,A,t=>by
  have z:=rf p;have x:((n:Int)+3∈S)↔gy (bR p) c (3+n)=true:=by
   rw[show (n:Int)+3=((3+n:Nat):Int) by omega,t (3+n) aa];constructor
   ·rintro (e | ⟨m,j,a,f,l⟩)
    ·rw[e];exact um q aa
    ·exact aax q aa aa f (by rw[PJ a];exact l)
   ·intro h;rcases PK q c c ft r aa (3+n) aa h with e | ⟨m,j,a,f⟩
    ·exact .inl e
    ·have:=p3 q j _ f;exact .inr ⟨m,aa,aa,a,by rw[<-PJ aa];exact f⟩
  rw[jT,vp];by_cases o:gy (bR p) c (3+n)=true
  ·rw[if_pos (List.contains_iff_mem.2 (x.2 o)),if_pos o,HJ q r w n _ _ aa,List.append_assoc];intro b s;rw[List.mem_append,t b s];constructor
   ·rintro ((e | ⟨m,j,a⟩) | h)
    ·exact .inl e
    ·exact .inr ⟨m,aa,a⟩
    ·exact .inr ⟨n,Nat.le_refl _,aa,o,h⟩
   ·rintro (e | ⟨m,j,a,f,l⟩)
    ·exact .inl (.inl e)
    ·by_cases e:m=n
     ·subst e;exact .inr l
     ·exact .inl (.inr ⟨m,aa,a,f,l⟩)
  ·have v: ¬((n:Int)+3∈S):=λh=>o (x.1 h);rw[if_neg (by rw[List.contains_iff_mem];exact v),if_neg o,HJ q r w n _ _ aa,List.nil_append];intro b s;rw[t b s];constructor
   ·rintro (e | ⟨m,j,a⟩)
    ·exact .inl e
    ·exact .inr ⟨m,aa,a⟩
   ·rintro (e | ⟨m,j,a,f,l⟩)
    ·exact .inl e
    ·by_cases e:m=n
     ·subst e;exact absurd f o
     ·exact .inr ⟨m,aa,a,f,l⟩
theorem PL(p)(c):∀n,(vp p c n).Perm (tN p c n)
 | 0=>List.Perm.refl _
 | n+1=>by
  rw[vp,tN];exact ((PL p c n).append_left _).trans List.perm_append_comm
def eg(W:Fc.bx)(c:Int):al:=((List.range W.owner.length).filter λs=>Fc.jg W c (W.owner.getD s default)).map λ(s:Nat)=>(s:Int)
theorem PM:∀(l:al) (n:Nat),iL l n=true->l=(List.range' n l.length).map λ(k:Nat)=>(k:Int)
 | [],n,_=>rfl
 | x::r,n,h=>by
  simp[iL,Bool.and_eq_true,beq_iff_eq] at h;rw[List.length_cons,List.range'_succ,List.map_cons, <-PM r (n+1) h.2,h.1]
def aay{q}{b}(n k)(h:∀i,n<=i->i<n+k->q i=b):(List.range' n k).filter q=if b then List.range' n k else []:=by
 cases b with
 | true=>rw[if_pos rfl];exact List.filter_eq_self.2 λi a=>by have:=List.mem_range'_1.1 a;exact h i aa aa
 | false=>rw[if_neg aT];exact List.filter_eq_nil_iff.2 λi a=>by have:=List.mem_range'_1.1 a;rw[h i aa aa];simp
def aaz{cs}{n s:Nat}(hn:n<cs.length)(g:ek (cs.take n)<=s)(l:s<ek (cs.take n)+(cs.getD n default).aw.length):(hj cs 0).getD s default=(n:Int)+3:=by
 have e:cs=(cs.take n++[cs.getD n default])++cs.drop (n+1):=by rw[c3 hn,List.take_append_drop]
 have app:∀(a b:List ih) (i:Nat),hj (a++b) i=hj a i++hj b (i+a.length):=by
  intro a
  induction a with
  | nil=>intro b i;simp[hj]
  | cons c r j=>intro b i;rw[List.cons_append,hj,hj,j,List.append_assoc,List.length_cons,show i+1+r.length=i+(r.length+1) by omega]
 have f:(cs.take n).length=n:=by rw[List.length_take];omega
 have h:hj cs 0=(hj (cs.take n) 0++List.replicate (cs.getD n default).aw.length ((n:Int)+3))++hj (cs.drop (n+1)) (n+1):=by
  conv=>lhs;rw[e]
  rw[app,app,List.length_append,f];simp[hj,List.length_singleton,List.append_nil,Nat.zero_add]
 rw[h,List.getD_eq_getElem?_getD,List.getElem?_append_left (by rw[List.length_append,tM,List.length_replicate];exact l),List.getElem?_append_right (by rw[tM];exact g),List.getElem?_replicate,if_pos (by rw[tM];omega)];rfl
theorem PN{p}(h:ow p)(c):∀n,n<=p.aF.length->tN p c n=((List.range (ek (p.aF.take n))).filter λs=>Fc.jg (bR p) (c:Int) ((bR p).owner.getD s default)).map λ(s:Nat)=>(s:Int)
 | 0,_=>rfl
 | n+1,l=>by
  have g:iL (p.aF.getD n default).aw (ek (p.aF.take n))=true:=by
   have a:=G4 p.aF 0 (n+1) h.aj;rw[zR _ _ _ aa,Bool.and_eq_true,Bool.and_eq_true,Nat.zero_add] at a;exact a.2.2
  rw[tN,PN h c n aa,G5 aa,List.range_add,List.filter_append,List.map_append];congr 1;rw[show List.map (λx=>ek (p.aF.take n)+x) (List.range (p.aF.getD n default).aw.length)=List.range' (ek (p.aF.take n)) (p.aF.getD n default).aw.length by rw[List.range_eq_range',List.map_add_range'];simp];rw[aay (b:=gy (bR p) c (3+n)) _ _ (λi a j=>by
   rw[show (bR p).owner=hj p.aF 0 from rfl,aaz aa a j,Hn,Int.toNat_natCast,show ((n:Int)+3).toNat=3+n by omega])]
  by_cases f:gy (bR p) c (3+n)=true
  ·rw[if_pos f,if_pos f];exact PM _ _ g
  ·rw[if_neg f,if_neg f];rfl
theorem PO{p}(a:Fc.cy (bR p)=true){c}(f:c<3+p.aF.length):∀n,c - 2<=n->tN p c n=tN p c (c - 2)
 | 0,h=>by rw[show c - 2=0 by omega]
 | n+1,h=>by
  by_cases e:c - 2=n+1
  ·rw[e]
  ·have g: ¬gy (bR p) c (3+n)=true:=λhu=>by
    have:=xp a c c ft (by rw[rf];exact f) _ hu;omega
   rw[tN,if_neg g,List.append_nil];exact PO a f n aa
def aaA(q)(n):(((List.range n).filter q).map λ(s:Nat)=>(s:Int)).Pairwise λa b=>decide (a<=b)=true:=by
 rw[List.pairwise_map];refine List.Pairwise.filter _ (List.Pairwise.imp ?_ List.pairwise_lt_range);intro a b c;simp;omega
def aaB{a b}(g:a.Perm b)(j:b.Pairwise λx y=>decide (x<=y)=true):hV a=b:=by
 have c:(hV a).Perm b:=(List.mergeSort_perm _ _).trans g;refine List.Perm.eq_of_pairwise (le:=λx y=>decide (x<=y)=true) ?_ (List.pairwise_mergeSort (λx y z c l=>by simp[decide_eq_true_eq] at*;omega) (λx y=>by simp[Bool.or_eq_true,decide_eq_true_eq];omega) a) j c;intro x y _ _ f h;simp[decide_eq_true_eq] at*;omega
def HK(h:ow p){c:Int}(q:3<=c)(l:c<3+p.aF.length):cw p c=eg (bR p) c:=by
 obtain⟨k,rfl⟩:∃k:Nat,c=k:=⟨c.toNat,aa⟩;have a:=h.world;have j:jT p ((k:Int) - 2).toNat [(k:Int)] []=vp p k (k - 2):=by
  rw[show ((k:Int) - 2).toNat=k - 2 by omega];refine HJ a aa aa (k - 2) [(k:Int)] [] ft λb r=>?_;rw[List.mem_singleton];constructor
  ·intro e;exact .inl aa
  ·rintro (e | ⟨m,o,s,g,_⟩)
   ·omega
   ·have:=xp a k k ft (by rw[rf];omega) _ g;omega
 have f:=PN h k p.aF.length ft;rw[List.take_length, <-tM p.aF 0,PO a aa _ aa] at f;rw[cw,j];refine aaB (b:=eg (bR p) k) ?_ (aaA _ _);exact (PL p k (k - 2)).trans (by rw[f];exact List.Perm.refl _)
end Go.Eng.dO

namespace Go.Proofs.YtodccgailpkgeaaGreat
open Go.Proofs.Tryz
open Go.Eng
open Go.Eng.Fc
open Go.Eng.dO
variable{l:al}{i c:Nat}{A:List al}{W:Fc.bx}
def aaC{x}{q}(a:q<l.length)(h:(l.take q).contains x=false)(c:l.getD q default≠x):(l.take (q+1)).contains x=false:=by
 rw[<-c3 a,List.contains_eq_any_beq,List.any_append, <-List.contains_eq_any_beq,h];simp;exact λe=>c e.symm
def aaD{x}{q}(a:q<l.length)(c:l.getD q default=x):l.contains x=true:=by rw[<-c];exact List.contains_iff_mem.2 (bH a)
def aaE{i j}(a:j<l.length)(h:jy i [] (l.take j))(c:(decide (l.getD j default<3) || decide (l.getD j default>=3+i) || (l.take j).contains (l.getD j default))=false):jy i [] (l.take (j+1))=true:=by
 rw[CW i l [] j a,h,List.nil_append,c];rfl
def aaF{g:List al}(a:i<g.length)(h:kk 0 (g.take i))(f:(g.getD i default).length<=3)(c:jy i [] (g.getD i default)):kk 0 (g.take (i+1))=true:=by
 rw[CX g 0 i a,h,Nat.zero_add,c,decide_eq_true f];rfl
def aaG{g}(h:c<3):(e7 g).getD c default= []:=by
 match c,h with
 | 0,_=>rfl
 | 1,_=>rfl
 | 2,_=>rfl
def aaH{g}(h: ¬c<3):(e7 g).getD c default=g.getD (c - 3) default:=by
 obtain⟨k,rfl⟩:∃k,c=k+3:=⟨c - 3,aa⟩;rw[Nat.add_sub_cancel];rfl
def PQ(l)(x):aI prog 181 [.ints l,.i x] (.b (l.contains x)):=by
 intro H;refine aM func181 λB I j=>?_;refine .ez (t:=0) rfl λgP=>?_;refine bS ?_;refine bm (λm f=>∃i:Nat,f=⟨[(5,.i i),(0,.ints l),(1,.i x)],H⟩/\m=l.length - i/\i<=l.length/\(l.take i).contains x=false) iI ?_;rintro m _ ⟨i,rfl,rfl,h,c⟩;refine a8 ?_;refine az (λaf=>?_) λaf=>?_
 ·have a:i<l.length:=by omega
  refine c6 ?_;refine az (λae=>?_) λae=>?_
  ·refine bA ?_;refine aB 4 H ?_;exact⟨bn (aaD a ae).symm,rfl⟩
  ·refine aJ ?_;exact aU ⟨i+1,rfl,rfl,a,aaC a c ae⟩
 ·obtain rfl:i=l.length:=by omega
  rw[List.take_length] at c;refine bA ?_;refine aB 4 H ?_;exact⟨bn c.symm,rfl⟩
def aaI(g):aI prog 144 [.bp g] (.b (fZ g)):=by
 intro H;refine aM func144 λB I v=>?_;refine .ez (t:=0) rfl λgP=>?_;refine di ?_;refine az (λaf=>?_) λaf=>?_
 ·refine aP ?_;refine aB 2 H ?_;exact⟨bn (NO aa).symm,rfl⟩
 ·have h:g.length<=16:=by omega
  refine a8 ?_;refine bm (λm q=>∃i:Nat,q=⟨[(3,.i i),(0,.bp g)],H⟩/\m=g.length - i/\i<=g.length/\kk 0 (g.take i)=true) iI ?_;rintro m _ ⟨i,rfl,rfl,w,r⟩;refine a8 ?_;refine az (λae=>?_) λae=>?_
  ·have a:i<g.length:=by omega
   refine dW ?_;refine az (λak=>?_) λak=>?_
   ·refine bS ?_;refine aB 2 H ?_;exact⟨bn (zM a (by rw[decide_eq_false aa];rfl)).symm,rfl⟩
   ·have o:(g.getD i default).length<=3:=by omega
    refine aJ ?_;refine bm (λm q=>∃j:Nat,q=⟨[(4,.i j),(3,.i i),(0,.bp g)],H⟩/\m=(g.getD i default).length - j/\j<=(g.getD i default).length/\jy i [] ((g.getD i default).take j)=true) iI ?_;rintro m _ ⟨j,rfl,rfl,s,c⟩;refine bS ?_;refine az (λaL=>?_) λaL=>?_
    ·have f:j<(g.getD i default).length:=by omega
     refine aS ?_;refine b0 5 65 ?_;refine nz ?_;refine .dk 9 18 65 rfl ao rfl rfl ao ?_;refine nz ?_;refine .dk 21 34 65 rfl ao rfl rfl ao ?_;refine aS ?_;refine jS (λav=>.Ce rfl rfl qz rfl qz aa) ?_;refine a8 ?_;refine ai.cG rfl rfl rfl rfl rfl rfl (λav=>.call (.mk' rfl rfl rfl rfl cU) (PQ ((g.getD i default).take j) ((g.getD i default).getD j default))) ?_;refine aH ?_;refine bc (λbo=>?_) λbo=>?_
     ·rw[eO,eO] at bo;refine dW ?_;refine aB 2 H ?_;exact⟨bn (zM a (by rw[NP f bo,Bool.and_false])).symm,rfl⟩
     ·rw[eO,eO] at bo;refine aJ ?_;exact aU ⟨j+1,rfl,rfl,f,aaE f c bo⟩
    ·obtain rfl:j=(g.getD i default).length:=by omega
     rw[List.take_length] at c;refine bA ?_;exact aU ⟨i+1,rfl,rfl,a,aaF a r o c⟩
  ·obtain rfl:i=g.length:=by omega
   rw[List.take_length] at r;refine bA ?_;refine aB 2 H ?_;exact⟨bn (by rw[fZ,r,decide_eq_true h];rfl),rfl⟩
def aaJ{g}(f:g.length<=16)(h:c<3+g.length):aI prog 231 [.bp g,.i c] (.ints ((e7 g).getD c default)):=by
 intro H;refine aM func231 λB I j=>?_;refine bS ?_;refine az (λaf=>?_) λaf=>?_
 ·have a:c<3:=by omega
  refine aP ?_;refine .cl (rs:=[.tmp 4]) (H':=H) rfl eR tA bE ?_;exact⟨by rw[aaG a];rfl,rfl⟩
 ·have a: ¬c<3:=by omega
  refine di ?_;refine aB 4 H ?_;exact⟨by rw[aaH a,show ((c:Int) - 3).toNat=c - 3 by omega];rfl,rfl⟩
def PR(l)(j:l.length<=1000000)(x):aI prog 232 [.ints l,.i x] (.ints (l.filter (· !=x))):=by
 intro H;refine aM func232 λB I o=>?_;refine gv ?_;refine hi 5 3 1 ?_;refine bm (λm h=>∃(i:Nat) (v:Value),h=⟨[(6,.i i),(5,.as (.ints ((l.take i).filter (· !=x))) v),(0,.ints l),(1,.i x)],.own 3 1 v::H⟩/\m=l.length - i/\i<=l.length) (⟨0,_,rfl,rfl,aa⟩) ?_;rintro m _ ⟨i,v,rfl,rfl,q⟩;refine a8 ?_;refine az (λaf=>?_) λaf=>?_
 ·have a:i<l.length:=by omega
  refine c6 ?_;refine az (λae=>?_) λae=>?_
  ·have c:(l.getD i default !=x)=true:=by simpa using ae
   refine ay ?_;refine .cc (x:=.aj 1 [[.i (l.getD i default)]]) rfl rfl rfl ie ?_;refine ai.dJ rfl rfl rfl rfl rfl rfl rfl rfl (aq.refl _) (rfl) (λ_=>dt) KT KT λaaK=>?_;refine a8 ?_;exact aU (⟨i+1,aaK,by rw[xh a c],rfl,a⟩)
  ·have c:(l.getD i default !=x)=false:=by simpa using ae
   refine aJ ?_;exact aU ⟨i+1,v,by rw[xi a c],rfl,a⟩
 ·obtain rfl:i=l.length:=by omega
  rw[List.take_length];refine bS ?_;refine aZ.cl (rs:=[.tmp 4]) (H':=H) rfl (.tmp rfl (.nil)) (.cons (aq.eY _ _) .nil) bE ?_;exact⟨cM,rfl⟩
def aaL(a)(x):aI prog 233 [.bp a,.i x] (.b (u2 a x)):=by
 intro H;refine aM func233 λB I j=>?_;refine .ez (t:=0) rfl λgP=>?_;refine bS ?_;refine bm (λm h=>∃i:Nat,h=⟨[(5,.i i),(0,.bp a),(1,.i x)],H⟩/\m=a.length - i/\i<=a.length/\((a.take i).any λm=>m.tail.contains x)=false) iI ?_;rintro m _ ⟨i,rfl,rfl,l,f⟩;refine a8 ?_;refine az (λaf=>?_) λaf=>?_
 ·have c:i<a.length:=by omega
  refine gv ?_;refine gw (λav=>ad.L5 (n:=1) rfl rfl (cf av) rfl (cf av) (by have:=of_decide_eq_true av;omega)) ?_;refine aR ?_;refine ai.cG rfl rfl rfl rfl rfl rfl (λav=>ad.call (.mk' rfl rfl rfl rfl cU) (PQ ((a.getD i default).drop 1) x)) ?_;refine aH ?_;refine bc (λae=>?_) λae=>?_
  ·refine bA ?_;refine aB 4 H ?_;exact⟨bn (by rw[C1,NL c (NM ae)];rfl),rfl⟩
  ·refine aJ ?_;exact aU ⟨i+1,rfl,rfl,c,by rw[NF c,f,NN ae];rfl⟩
 ·obtain rfl:i=a.length:=by omega
  rw[List.take_length] at f;refine bA ?_;refine aB 4 H ?_;exact⟨bn (by rw[C1,f];rfl),rfl⟩
def su(A:List al):Prop:=∀l∈A,∀x∈l,0<=x
def su.drop(h:su A)(x):su (iK x A):=λl a y c=>by
 obtain⟨_,g,j,f⟩:=G1 a c;exact h g j y f
def su.head(h:su A){i}(a:i<A.length)(c:0<(A.getD i default).length):0<=(A.getD i default).getD 0 default:=h _ (bH a) _ (bH c)
structure pj(A:List al)(i:Nat)(ox:Option Int)(n7:Bool):Prop where
 n7:ox=none->n7= !((A.take i).all List.isEmpty)
 no:ox=none->jc A A=jc A (A.drop i)
 yes:∀h,ox=some h->jc A A=some h/\0<=h/\∃l∈A,h∈l
def pj.begin(A):pj A 0 none false:=⟨λ_=>rfl,λ_=>rfl,λh e=>by cases e⟩
def pj.empty{a}(h:pj A i none a)(c:i<A.length)(f:A.getD i default= []):pj A (i+1) none a:=
 ⟨λ_=>by rw[zL c,f,h.n7 rfl];simp,λ_=>by rw[h.no rfl,u5 c,NG f],λh e=>by cases e⟩
def pj.aaM{n7}(h:pj A i none n7)(c:i<A.length)(a:0<(A.getD i default).length)(j:u2 A ((A.getD i default).getD 0 default)=false):pj A (i+1) none true:=
 ⟨λ_=>by rw[zL c,NK a,Bool.and_false];rfl,λ_=>by rw[h.no rfl,u5 c,NH a j],λh e=>by cases e⟩
def pj.aaN{g}(h:pj A i none g)(f:su A)(c:i<A.length)(a:0<(A.getD i default).length)(j:u2 A ((A.getD i default).getD 0 default)):pj A (i+1) (some ((A.getD i default).getD 0 default)) true:=
 ⟨λe=>(by cases e),λe=>(by cases e),λjV e=>by cases e;exact⟨by rw[h.no rfl,u5 c,NI a j],f.head c a,_,bH c,bH a⟩⟩
def aaO{h}(c:l∈A)(f:h∈l):total (iK h A)<total A:=by
 obtain⟨i,a,rfl⟩:=List.mem_iff_getElem.1 c;exact GV h A i a (by rw[List.getD_eq_getElem?_getD,List.getElem?_eq_getElem a];exact f)
def aaP(a)(bV:su a)(ht:total a<=1000)(W:a.length<=1000):aI prog 208 [.bp a] (.bj [.ints (lM a).1,.b (lM a).2]):=by
 intro H;refine aM func208 λB I bN=>?_;refine bS ?_;refine hi 4 3 1 ?_;refine bm (λm st=>∃(A:List al) (out:al) (n:Nat) (v:Value),st=⟨[(0,.bp A),(4,.as (.ints out) v)],.own 3 1 v::H⟩/\m=n/\total A<n/\pX n A out=lM a/\total A+out.length<=total a/\A.length=a.length/\su A) ⟨a,[],total a+1,_,rfl,rfl,aa,rfl,aT,rfl,bV⟩ ?_;rintro m _ ⟨A,out,n,v,rfl,rfl,hn,hm,ali,S,PS⟩;obtain⟨n,rfl⟩:∃q,m=q+1:=⟨m - 1,aa⟩;refine c6 ?_;refine bm (λm st=>∃(i:Nat) (ox:Option Int) (n7:Bool),st=⟨[(7,.i i),(5,.i (ox.getD (-1))),(6,.b n7),(0,.bp A),(4,.as (.ints out) v)],.own 3 1 v::H⟩/\m=A.length - i/\i<=A.length/\pj A i ox n7) ⟨0,none,false,rfl,rfl,aa,.begin A⟩ ?_;rintro m _ ⟨i,ox,n7,rfl,rfl,aN,j⟩;refine di ?_;refine bc (λaf=>?_) λaf=>?_
 ·rw[Bool.cond_false_right,Bool.and_eq_true,decide_eq_true_eq,decide_eq_true_eq] at af;obtain⟨af,uH⟩:=af;have f:i<A.length:=by omega
  obtain rfl:ox=none:=by
   cases ox with
   | none=>rfl
   | some h=>have:=(j.yes h rfl).2.1;simp[Option.getD_some] at uH;omega
  refine c6 ?_;refine az (λae=>?_) λae=>?_
  ·have s:0<(A.getD i default).length:=by omega
   refine c6 ?_;refine ag (.call .k (aaL A ((A.getD i default).getD 0 default))) ?_;refine aQ ?_;refine az (λak=>?_) λak=>?_
   ·refine iB ?_;exact aU (⟨i+1,some ((A.getD i default).getD 0 default),true,rfl,rfl,f,j.aaN PS f s ak⟩)
   ·refine aJ ?_;exact aU ⟨i+1,none,true,rfl,rfl,f,j.aaM f s ak⟩
  ·have F:(A.getD i default)= []:=List.eq_nil_of_length_eq_zero aa;refine aJ ?_;exact aU ⟨i+1,none,n7,rfl,rfl,f,j.empty f F⟩
 ·rw[Bool.cond_false_right,Bool.and_eq_false_iff,decide_eq_false_iff_not,decide_eq_false_iff_not] at af;refine bS ?_;refine az (λaL=>?_) λaL=>?_
  ·obtain rfl:ox=none:=by
    cases ox with
    | none=>rfl
    | some h=>have:=(j.yes h rfl).2.1;simp[Option.getD_some] at aL;omega
   obtain rfl:i=A.length:=by
    rcases af with af | af
    ·omega
    ·exact absurd aL af
   have PT:=j.no rfl;have C:=j.n7 rfl;rw[List.drop_length] at PT;rw[List.take_length] at C;refine c6 ?_;refine .cl (rs:=[.tmp 2,.tmp 3]) (H':=H) rfl q4 xc bE ?_;exact⟨by rw[<-hm,GY PT,C,Bool.not_not];rfl,rfl⟩
  ·obtain⟨h,rfl⟩:∃h,ox=some h:=by
    cases ox with
    | none=>simp at aL
    | some h=>exact⟨h,rfl⟩
   obtain⟨aaQ,R,hH,G,J⟩:=j.yes h rfl;rw[show (some h).getD (-1)=h from rfl];have k5:=aaO G J;have N:=CY h A;refine ay ?_;refine .cc (x:=.aj 1 [[.i h]]) rfl rfl rfl ie ?_;refine ai.dJ rfl rfl rfl rfl rfl rfl rfl rfl (aq.refl _) (rfl) (λ_=>dt) (by simp[List.length_map,List.length_singleton] at*;omega) (by simp[List.length_map,List.length_singleton] at*;omega) λHL=>?_;refine dW ?_;refine hi 8 23 1 ?_;refine bm (λm st=>∃(k:Nat) (w:Value),st=⟨[(9,.i k),(0,.bp A),(8,.as (.bp (iK h (A.take k))) w),(5,.i h),(4,.as (.aj 1 ((out.map λn=>[.i n])++[[.i h]])) HL)],.own 23 1 w::.own 3 1 HL::H⟩/\m=A.length - k/\k<=A.length) (⟨0,_,rfl,rfl,aa⟩) ?_;rintro m _ ⟨k,w,rfl,rfl,bD⟩;refine a8 ?_;refine az (λbo=>?_) λbo=>?_
   ·have o:k<A.length:=by omega
    have O:=CZ A k o;refine bA ?_;refine ag (.call .k (PR (A.getD k default) aa h)) ?_;refine .cc (x:=.aj 1 [[.ints ((A.getD k default).filter (· !=h))]]) rfl rfl rfl ie ?_;refine ai.dJ rfl rfl rfl rfl rfl rfl rfl rfl (aq.refl _) (rfl) (λ_=>dt) Bl Bl λaaR=>?_;refine a8 ?_;exact aU (⟨k+1,aaR,by rw[NJ _ o],rfl,o⟩)
   ·obtain rfl:k=A.length:=by omega
    rw[List.take_length];refine aS ?_;refine .le 8 (y:=.bp (iK h A)) rfl GO ?_;refine aS ?_;exact aU ⟨iK h A,out++[h],n,HL,by rw[GW],rfl,aa,by rw[<-hm,GX aaQ],By,by rw[EU,S],PS.drop h⟩
def aaS(O:List al)(k):O.getD k default=O.getD k []:=rfl
def aaT{g}(z:fZ g){O}(C:oo O)(D:O.length<3+g.length):aI prog 207 [.bp g,.bp O,.i O.length] (.bj [.bp ((kP O ((e7 g).getD O.length default)).getD []),.b (kP O ((e7 g).getD O.length default)).isSome]):=by
 intro H;refine aM func207 λB I bN=>?_;obtain⟨b5,tL⟩:∃b5,b5=((e7 g).getD O.length default):=iZ;have lj:=xj z O.length;have G:=u7 z;have HM:=aaJ aa D;rw[<-tL] at lj HM ⊢;have l3:=lj.1;refine dW ?_;refine ag (.call .k HM) ?_;refine bQ ?_;refine hi 8 23 1 ?_;refine bm (λm st=>∃(i:Nat) (v:Value),st=⟨[(10,.i i),(9,.ints b5),(1,.bp O),(8,.as (.bp ((b5.take i).map (λp=>lN (O.getD p.toNat [])))) v)],.own 23 1 v::H⟩/\m=b5.length - i/\i<=b5.length/\∀p∈b5.take i,O.getD p.toNat []≠ []) ⟨0,_,rfl,rfl,aa,aT⟩ ?_;rintro m _ ⟨i,v,rfl,rfl,M,f⟩;refine a8 ?_;refine az (λaf=>?_) λaf=>?_
 ·have c:i<b5.length:=by omega
  obtain⟨p,A⟩:∃p,p=b5.getD i default:=iZ;have xv:p∈b5:=A▸bH c;have HG:=lj.2 p xv;have J:=C.len p.toNat;have s7:b5.getD i default=p:=A.symm;refine bS ?_;refine ag K5 ?_;refine aS ?_;refine bc (λae=>?_) λae=>?_
  ·rw[s7] at ae;have w:O.getD p.toNat []= []:=List.eq_nil_of_length_eq_zero (by have:=beq_iff_eq.1 ae;exact Int.ofNat.inj this);refine di ?_;refine .cl (rs:=[.tmp 6,.tmp 7]) (H':=H) rfl q4 GN bE ?_;exact⟨by rw[NX xv w];rfl,rfl⟩
  ·rw[s7] at ae;have w:O.getD p.toNat []≠ []:=λe=>by
    rw[show O.getD p.toNat default= [] from e] at ae;simp at ae
   refine a8 ?_;refine ag K5 ?_;refine aR ?_;refine ag (.call .k ((by have h:=PR (O.getD p.toNat []) aa 0;rw[<-aaS, <-s7] at h;exact h))) ?_;rw[s7];refine .cc (x:=.aj 1 [[.ints (lN (O.getD p.toNat []))]]) rfl rfl rfl ie ?_;refine ai.dJ rfl rfl rfl rfl rfl rfl rfl rfl (aq.refl _) (rfl) (λ_=>dt) nc nc λaaU=>?_;refine a8 ?_;exact aU (⟨i+1,aaU,by rw[N6 (λp=>lN (O.getD p.toNat [])) b5 c,s7],rfl,c,λq cj=>by rw[<-c3 c,List.mem_append,List.mem_singleton,s7] at cj;rcases cj with cj | rfl;exact f q cj;exact w⟩)
 ·obtain rfl:i=b5.length:=by omega
  rw[List.take_length] at f ⊢;refine a8 ?_;refine .cc (x:=.aj 1 [[.ints b5]]) rfl rfl rfl ie ?_;refine ai.dJ rfl rfl rfl rfl rfl rfl rfl rfl (aq.refl _) (rfl) (λ_=>dt) nc nc λalj=>?_;refine aS ?_;refine .cl (rs:=[.tmp 6,.tmp 7]) (H':=H) rfl q4 xc bE ?_;exact⟨by rw[NY f];show _=ab.bj [.aj 1 (List.map _ (_++_)),_];rw[List.map_append];rfl,rfl⟩
def aaV{O}{f}{c}(o:oo O)(a:zO O.length f)(h:kP O f=some c):su c:=by
 obtain⟨rfl,_⟩:=G2 h;intro l j x g;rcases List.mem_append.1 j with h | h
 ·obtain⟨p,q,rfl⟩:=List.mem_map.1 h;have m:=a.2 p q;exact ((o p.toNat aa).zN x (List.mem_filter.1 g).1).1
 ·simp at h;subst h;have:=a.2 x g;omega
def aaW(l)(x):ab.bp (l++[x])= .aj 1 ((l.map λx=>[.ints x])++[[.ints x]]):=by
 show ab.aj 1 (List.map _ (_++_))=_;rw[List.map_append];rfl
def aaX{g}(s:fZ g):aI prog 182 [.bp g] (.bp (tC g)):=by
 intro H;refine aM func182 λB I bN=>?_;have G:=u7 s;refine aP ?_;refine .cc (x:=.aj 1 [[.i 0]]) rfl rfl rfl ie ?_;refine .uT rfl rfl rfl rfl cD rfl rfl rfl rfl rfl rfl rfl λv11=>?_;refine bQ ?_;refine bm (λm st=>∃(O:List al) (v:Value),st=⟨[(4,.i O.length),(3,.as (.bp O) v),(0,.bp g)],.own 23 1 v::H⟩/\m=3+g.length - O.length/\(1<=O.length/\O.length<=3+g.length)/\O=lg g O.length) ⟨[[0]],_,rfl,rfl,cF,rfl⟩ ?_;rintro m _ ⟨O,v,rfl,rfl,z,c⟩;refine bQ ?_;refine az (λaf=>?_) λaf=>?_
 ·have l:O.length<3+g.length:=by omega
  have r:oo O:=by have h:=zQ s O.length z.2;rwa [<-c] at h
  have lj:=xj s O.length;have mU:=(G3 r lj).len;have a:O.length≠0:=by omega
  have xx:=NZ l;rw[<-c] at xx;refine c6 ?_;refine ag (.tf .k (.cons ig xc) (aaT s r l)) ?_;refine aP ?_;refine .k7 (λst=>st=⟨[(5,.ints (jd O O.length ((e7 g).getD O.length default))),(4,.i O.length),(3,.as (.bp O) v),(0,.bp g)],.own 23 1 v::H⟩) ?_ ?_
  ·refine aS ?_;refine bc (λae=>?_) λae=>?_
   ·obtain⟨w,bq⟩:=Option.isSome_iff_exists.1 ae;obtain⟨vo,p7⟩:=NR r lj.1 bq;rw[bq,Option.getD_some];refine aH ?_;refine ag (.call .k (aaP w (aaV r lj bq) aa aa)) ?_;refine bS ?_;refine bc (λak=>?_) λak=>?_
    ·rw[C7 a bq ak] at mU;simp[List.length_cons,List.length_append,List.length_nil] at mU;refine aQ ?_;refine .uT rfl rfl rfl rfl cD rfl rfl rfl rfl rfl rfl rfl λHN=>?_;refine .le 34 (y:=.as (.aj 1 [[.i O.length]]) HN) rfl gx ?_;refine aR ?_;refine .dJ rfl rfl rfl rfl rfl rfl rfl rfl gx (si _) (λ_=>dt) cF cF λalk=>?_;refine .cc (x:=.aj 1 [[.i 0]]) rfl rfl rfl ie ?_;refine ai.dJ rfl rfl rfl rfl rfl rfl rfl rfl (aq.refl _) (rfl) (λ_=>dt) cF cF λPE=>?_;refine aQ ?_;refine .le 5 (y:=.ints (jd O O.length ((e7 g).getD O.length default))) rfl (by rw[C7 a bq ak,N2];exact .eY _ _) ?_;exact dm rfl
    ·refine aR ?_;refine .le 5 (y:=.ints (jd O O.length ((e7 g).getD O.length default))) rfl (by rw[N4 a bq ak];exact .nil 1) ?_;exact dm rfl
   ·have bq:kP O ((e7 g).getD O.length default)=none:=Option.not_isSome_iff_eq_none.1 (by rw[ae];simp);refine aR ?_;refine .le 5 (y:=.ints (jd O O.length ((e7 g).getD O.length default))) rfl (by rw[N3 a bq];exact .nil 1) ?_;exact dm rfl
  ·rintro _ rfl;refine aH ?_;refine .cc (x:=.aj 1 [[.ints (jd O O.length ((e7 g).getD O.length default))]]) rfl rfl rfl ie ?_;refine ai.dJ rfl rfl rfl rfl rfl rfl rfl rfl (aq.refl _) (rfl) (λ_=>dt) K6 K6 λAc=>?_;refine a8 ?_;exact aU (⟨O++[jd O O.length ((e7 g).getD O.length default)],Ac,by rw[aaW,List.length_append,List.length_singleton],by rw[List.length_append,List.length_singleton],By,by rw[List.length_append,List.length_singleton,xx]⟩)
 ·have hle:O.length=3+g.length:=by omega
  rw[hle,zP] at c;refine bS ?_;refine .cl (rs:=[.tmp 2]) (H':=H) rfl eR CN bE ?_;exact⟨by rw[c];rfl,rfl⟩
def PU{g}(a:fZ g){c:Int}(j:0<=c)(l:c<3+g.length):aI prog 145 [ab.bp g,.i c] (.bj [ab.ints (dH g c),.b (!(dH g c).isEmpty)]):=by
 intro H;refine aM func145 λB I m=>?_;have f:(tC g).length=3+g.length:=by have h:=tE (g:=g) (Nat.le_refl (3+g.length));rwa [zP] at h
 refine a8 ?_;refine ag (.call .k (aaX a)) ?_;refine gv ?_;refine dM [.tmp 4,.tmp 5] H ?_;exact⟨by rw[show (tC g).getD c.toNat default=dH g c from rfl];cases dH g c <;> simp[iG],rfl⟩
instance:tr prog 28 (4,1,.bool false):=⟨ax⟩
abbrev ab.dy(o:cY):ab:=.aj 1 (o.map λx=>[ab.b x])
def aaY{W:bx}(h:cy W){c:Int}(J:3<=c)(D:c<3+W.parents.length):aI prog 163 [ab.world W,.i c] (ab.dy (vg W c.toNat)):=by
 intro H;refine aM func163 λB I E=>?_;have F:=q8 h;refine aA.n9 (t:=0) (i:=0) rfl rfl (λgP=>?_);refine bS ?_;refine ai.pR (3+W.parents.length) rfl rfl rfl rfl rfl rfl rfl rfl aa aa yu (λDk=>?_);refine aV ?_;rw[OS];refine aH ?_;refine ag (ad.gX rfl rfl rfl rfl rfl aa) ?_;apply ai.gb rfl rfl rfl rfl rfl rfl rfl rfl rfl rfl
 (case hu=>repeat (first | exact bG.head _ _ _ | apply bG.tail));(case hfit=>exact sn (i:=c.toNat) cF);(case hds=>exact sm (i:=c.toNat) cF rfl)
 refine bQ ?_;refine bm (λm s=>∃(i:Int) (o:cY),s=⟨[(6,.i i),(5,.val (.slice (some ⟨Dk,0,none⟩) (3+W.parents.length) (3+W.parents.length))),(2,.ptr (cB W))],.au Dk 4 (kn o)::H⟩/\m=(i - 2).toNat/\2<=i/\i<=c/\o.length=3+W.parents.length/\rb W (i - 2).toNat o=vg W c.toNat) (⟨c,(List.replicate (3+W.parents.length) false).set c.toNat true,rfl,rfl,aa,aa,aT,by rw[vg,show (c - 2).toNat=c.toNat - 2 from by omega]⟩) ?_;rintro m _ ⟨i,o,rfl,rfl,A,w,q,g⟩;refine aP ?_;refine az (λaf=>?_) λaf=>?_
 ·have C:=p3 h (i:=(i - 3).toNat) aa;refine gv ?_;refine bm (λm s=>∃(j:Nat) (a:cY),s=⟨[(29,.i j),(28,.i (W.parents.getD (i - 3).toNat default).length),(27,ab.ints (W.parents.getD (i - 3).toNat default)),(6,.i i),(5,.val (.slice (some ⟨Dk,0,none⟩) (3+W.parents.length) (3+W.parents.length))),(2,.ptr (cB W))],.au Dk 4 (kn a)::H⟩/\m=(W.parents.getD (i - 3).toNat default).length - j/\j<=(W.parents.getD (i - 3).toNat default).length/\a.length=3+W.parents.length/\ov a i.toNat ((W.parents.getD (i - 3).toNat default).drop j)=ov o i.toNat (W.parents.getD (i - 3).toNat default)) (⟨0,o,rfl,rfl,aa,q,rfl⟩) ?_;rintro m _ ⟨j,a,rfl,rfl,G,l,f⟩;refine aR ?_;refine aA.ez (t:=27) rfl (λyP=>?_);refine aS ?_;refine az (λae=>?_) λae=>?_
  ·refine bA ?_;have z:3<=(W.parents.getD (i - 3).toNat default).getD j default/\(W.parents.getD (i - 3).toNat default).getD j default<i:=by
    have:=C ((W.parents.getD (i - 3).toNat default).getD j default) (hT aa);omega
   refine aS ?_;refine ag (ad.gX rfl rfl rfl rfl rfl aa) ?_;refine ag ((by first | exact ad.cE rfl rfl rfl rfl | (apply ad.iv rfl rfl rfl;(case hm=>repeat (first | exact .head _ | refine .tail _ ?_));(case hy=>exact xq (i:=((W.parents.getD (i - 3).toNat default).getD j default).toNat) aa)))) ?_;refine aH ?_;refine gw (λav=>ad.gX rfl rfl (cf av) rfl (cf av) aa) ?_;refine gw (λav=>(by first | exact ad.cE rfl rfl (cf av) rfl | (apply ad.iv rfl rfl (cf av);(case hm=>repeat (first | exact .head _ | refine .tail _ ?_));(case hy=>exact xq (i:=i.toNat) aa)))) ?_;refine aR ?_;refine ag (ad.gX rfl rfl rfl rfl rfl aa) ?_;apply ai.gb rfl rfl rfl rfl rfl rfl rfl rfl rfl rfl
   (case hu=>repeat (first | exact bG.head _ _ _ | apply bG.tail));(case hfit=>exact sn (i:=((W.parents.getD (i - 3).toNat default).getD j default).toNat) aa);(case hds=>exact sm (i:=((W.parents.getD (i - 3).toNat default).getD j default).toNat) aa rfl)
   refine aP ?_;exact aU (⟨j+1,a.set ((W.parents.getD (i - 3).toNat default).getD j default).toNat (bif a.getD ((W.parents.getD (i - 3).toNat default).getD j default).toNat false then true else a.getD i.toNat false),rfl,rfl,aa,by rw[List.length_set];exact l,by rw[<-YF aa];exact f⟩)
  ·obtain rfl:j=(W.parents.getD (i - 3).toNat default).length:=by omega
   rw[List.drop_length,ov] at f;refine bA ?_;exact aU (⟨i - 1,a,rfl,rfl,aa,aa,l,by rw[f, <-g,show (i - 2).toNat=(i - 3).toNat+1 from by omega,rb,show 3+(i - 3).toNat=i.toNat from by omega,show (i - 1 - 2).toNat=(i - 3).toNat from by omega]⟩)
 ·obtain rfl:i=2:=by omega
  rw[show ((2:Int) - 2).toNat=0 from rfl,rb] at g;subst g;refine ay ?_;rw[OR];refine aA.oW (d:=5) (k:=1) rfl na (by simp[q]) (by intro e B;obtain⟨x,_,rfl⟩:=List.mem_map.1 B;rfl) aa yu ?_;refine ay ?_;refine aB 4 (H) ?_;exact⟨cM,rfl⟩
def HO{W}(h:cy W){a b}(g:jr W a)(f:jr W b):aI prog 120 [ab.world W,.i a,.i b] (.b (jg W a b)):=by
 intro H;refine aM func120 λB I j=>?_;have l:=q8 h;simp[jr,Bool.and_eq_true,decide_eq_true_eq] at g f;refine jR ?_;refine az (λaf=>?_) λaf=>?_
 ·refine aP ?_;refine aB 6 H ?_;exact⟨bn (by rw[Hn];symm;rw[eO,Bool.or_eq_true,beq_iff_eq,beq_iff_eq] at af;rcases af with e | e;(· subst e;exact um h aa);(· subst e;exact Hl h aa)),rfl⟩
 ·refine a8 ?_;refine az (λae=>?_) λae=>?_
  ·refine aP ?_;refine aB 6 H ?_;exact⟨bn (by rw[Hn,ra aa];symm;rw[eO,Bool.or_eq_false_iff,beq_eq_false_iff_ne,beq_eq_false_iff_ne] at af;rw[Bool.or_eq_false_iff,beq_eq_false_iff_ne,beq_eq_false_iff_ne];omega),rfl⟩
  ·refine ay ?_;refine ag (.call .k (aaY h aa aa)) ?_;refine aP ?_;refine ag ((by first | exact .fC rfl rfl rfl rfl rfl (by simp[OQ];omega) | exact .ep rfl rfl rfl rfl rfl (by simp[OQ];omega))) ?_;refine aS ?_;refine aB 6 H ?_;exact⟨bn (by rw[eO,Bool.or_eq_false_iff,beq_eq_false_iff_ne,beq_eq_false_iff_ne] at af;exact YE h aa aa aa),rfl⟩
def aaZ(f)(q:∀k∈f.kids,∀n:Int,0<=n->n<=1000000->aI prog 183 [ab.fact k,.i n] (.i (min (cW k:Int) (n+1))))(n)(g:0<=n)(h:n<=1000000):aI prog 183 [ab.fact f,.i n] (.i (min (cW f:Int) (n+1))):=by
 intro H;refine aM func183 λB I w=>?_;refine .n9 (t:=0) (i:=5) rfl rfl λgP=>?_;refine jR ?_;refine bm (λm r=>∃(i:Nat) (x:Int),r=⟨[(6,.i i),(5,.i x),(2,.ptr (fy f)),(1,.i n)],H⟩/\m=f.kids.length - i/\i<=f.kids.length/\x=min (1+fk (f.kids.take i):Int) (n+1)) ⟨0,1,rfl,rfl,aa,by simp[fk];omega⟩ ?_;rintro m _ ⟨i,x,rfl,rfl,z,s⟩;refine dW ?_;refine bc (λaf=>?_) λaf=>?_
 ·simp[cond_true,Bool.cond_false_right,Bool.and_eq_true,decide_eq_true_eq] at af;have o:=YC (l:=f.kids) (j:=i) aa;refine c6 ?_;refine ag (ad.call .k (q (f.kids.getD i default) (hT aa) _ aa aa)) ?_;refine bQ ?_;exact aU (⟨i+1,x+min (cW (f.kids.getD i default):Int) (n - x+1),rfl,rfl,aa,aa⟩)
 ·simp only[Bool.cond_false_right,Bool.and_eq_false_iff,decide_eq_false_iff_not] at af;have o:=p2 f;have v:fk (f.kids.take i)<=fk f.kids:=YD _;have a:x=min (cW f:Int) (n+1):=by
   rcases af with e | e
   ·have:i=f.kids.length:=by omega
    rw[this,List.take_length] at s;omega
   ·omega
  refine bS ?_;refine aB 4 (H) ?_;exact⟨fJ a,rfl⟩
def aa0:∀(f:Fact) (n:Int),0<=n->n<=1000000->aI prog 183 [ab.fact f,.i n] (.i (min (cW f:Int) (n+1))):=Fact.mf aaZ
def aa1(f):aI prog 147 [ab.fact f] (.i (min (cW f:Int) 25)):=by
 intro H;refine aM func147 λB I a=>?_;refine a8 ?_;refine ag (.call .k (aa0 f 24 aa aa)) ?_;refine aV ?_;refine aB 2 (H) ?_;exact⟨cM,rfl⟩
def aa2(f)(hn:cW f<=1000000)(g:∀k∈f.kids,aI prog 148 [ab.fact k] (.i (ko k))):aI prog 148 [ab.fact f] (.i (ko f)):=by
 intro H;refine aM func148 λB I j=>?_;refine .n9 (t:=0) (i:=5) rfl rfl λgP=>?_;have l:=OU f;have c:=YH f;refine o8 ?_;refine bm (λm h=>∃(i:Nat) (x:Int),h=⟨[(9,.i i),(8,.i f.kids.length),(7,ab.facts f.kids),(3,.i x),(1,.ptr (fy f))],H⟩/\m=f.kids.length - i/\i<=f.kids.length/\x=kR (f.kids.take i)) ⟨0,0,rfl,rfl,aa,by simp[kR]⟩ ?_;rintro m _ ⟨i,x,rfl,rfl,o,a⟩;refine ay ?_;refine az (λaf=>?_) λaf=>?_
 ·refine aJ ?_;refine bT (λdN=>?_);refine ay ?_;refine ag (.call .k (g (f.kids.getD i default) gZ)) ?_;refine ag zC ?_;refine aJ ?_;exact aU (⟨i+1,if(ko (f.kids.getD i default):Int)>x then (ko (f.kids.getD i default):Int) else x,rfl,rfl,aa,by rw[<-c3 aa,OT];split <;> omega⟩)
 ·obtain rfl:i=f.kids.length:=by omega
  rw[List.take_length] at a;subst a;refine di ?_;refine aB 2 H ?_;exact⟨fJ aa,rfl⟩
def aa3:∀f:Fact,cW f<=1000000->aI prog 148 [ab.fact f] (.i (ko f)):=Fact.mf λf c g=>aa2 f g λk a=>c k a (by have:=OW a;omega)
def aa4(W)(l):aI prog 185 [ab.world W,.ints l] (.b (pe W l)):=by
 intro H;refine aM func185 λB I j=>?_;refine .n9 (t:=0) (i:=1) rfl rfl λgP=>?_;refine .ez (t:=1) rfl λvj=>?_;refine dW ?_;refine bm (λm g=>∃i:Nat,g=⟨[(9,.i i),(8,.i l.length),(7,.ints l),(2,.ptr (cB W)),(1,.ints l)],H⟩/\m=l.length - i/\i<=l.length/\(l.take i).all (pc W)=true) iI ?_;rintro m _ ⟨i,rfl,rfl,h,a⟩;refine ay ?_;refine az (λaf=>?_) λaf=>?_
 ·refine w9 ?_;refine bc (λae=>?_) λae=>?_
  ·have c:pc W (l.getD i default)=false:=by rw[eO] at ae;simp[Bool.or_eq_true,decide_eq_true_eq] at ae;simp[pc,Bool.and_eq_false_iff,decide_eq_false_iff_not];omega
   refine bA ?_;refine aB 4 H ?_;exact⟨bn (by rw[pe,YG aa c,Bool.and_false]),rfl⟩
  ·have c:pc W (l.getD i default)=true:=by rw[eO] at ae;simp[Bool.or_eq_false_iff,decide_eq_false_iff_not] at ae;simp[pc,Bool.and_eq_true,decide_eq_true_eq];omega
   refine aP ?_;exact aU ⟨i+1,rfl,rfl,aa,by rw[<-c3 aa,List.all_append,a];simpa using c⟩
 ·obtain rfl:i=l.length:=by omega
  rw[List.take_length] at a;refine c6 ?_;refine aB 4 H ?_;exact⟨bn (by rw[pe,a,Bool.and_true,Bool.eq_iff_iff,decide_eq_true_iff,decide_eq_true_iff];omega),rfl⟩
def aa5{W}(rh:W.parents.length<=60)(f)(fv:∀k∈f.kids,aI prog 149 [ab.world W,ab.fact k] (.b (dS W k))):aI prog 149 [ab.world W,ab.fact f] (.b (dS W f)):=by
 intro H;refine aM func149 λB I bN=>?_;refine .n9 (t:=1) (i:=5) rfl rfl λgP=>?_;refine .n9 (t:=1) (i:=2) rfl rfl λvj=>?_;refine bS ?_;refine .k7 (λst=>∃eL:Int,st=⟨[(5,.i eL),(3,.ptr (fy f)),(2,.ptr (cB W))],H⟩/\vh W f eL) ?_ ?_
 ·refine di ?_;refine az (λaf=>?_) λaf=>?_
  ·refine a8 ?_;refine ai.cG rfl rfl rfl rfl rfl rfl (λav=>.call (.mk' rfl rfl rfl rfl cU) (Zx W _ rh)) ?_;refine aV ?_;refine az (λae=>?_) λae=>?_
   ·refine aJ ?_;refine aB 4 H ?_;exact⟨bn (xr (YJ af ae)).symm,rfl⟩
   ·refine aQ ?_;exact dm ⟨0,rfl,YI af ae⟩
  ·refine aP ?_;refine az (λak=>?_) λak=>?_
   ·refine aQ ?_;refine bc (λaL=>?_) λaL=>?_
    ·replace aL:=dA aL;refine gv ?_;refine az (λbo=>?_) λbo=>?_
     ·refine aJ ?_;refine aB 4 H ?_;exact⟨bn (xr (OY (.inl ak) bo)).symm,rfl⟩
     ·refine aQ ?_;exact dm ⟨0,rfl,OX (.inl ak) bo⟩
    ·exact absurd ak (by simpa using aL)
   ·refine aS ?_;refine az (λcm=>?_) λcm=>?_
    ·refine gv ?_;refine az (λdx=>?_) λdx=>?_
     ·refine aJ ?_;refine aB 4 H ?_;exact⟨bn (xr (OY (.inr cm) dx)).symm,rfl⟩
     ·refine aQ ?_;exact dm ⟨0,rfl,OX (.inr cm) dx⟩
    ·refine ay ?_;refine az (λdF=>?_) λdF=>?_
     ·refine aQ ?_;exact dm ⟨0,rfl,De aa (by rw[dF];rfl)⟩
     ·refine ay ?_;refine az (λde=>?_) λde=>?_
      ·refine aV ?_;exact dm ⟨1,rfl,De aa (by rw[de];rfl)⟩
      ·refine aP ?_;refine az (λdc=>?_) λdc=>?_
       ·refine aQ ?_;refine bc (λhM=>?_) (λhM=>?_)
        ·replace hM:=dA hM;refine aV ?_;exact dm ⟨2,rfl,De aa (by rw[dc];rfl)⟩
        ·exact absurd dc (by simpa using hM)
       ·refine aS ?_;refine az (λh6=>?_) λh6=>?_
        ·refine aV ?_;exact dm ⟨2,rfl,De aa (by rw[h6];rfl)⟩
        ·refine aJ ?_;refine aB 4 (H) ?_;exact⟨bn (xr (YK aa)).symm,rfl⟩
 ·rintro _ ⟨eL,rfl,oy⟩;refine nz ?_;refine ai.cG rfl rfl rfl rfl rfl rfl (λav=>ad.call (.mk' rfl rfl rfl rfl cU) (aa4 W f.path)) ?_;refine aV ?_;refine az (λjA=>?_) λjA=>?_
  ·refine aP ?_;refine aB 4 (H) ?_;exact⟨bn (by rw[O0] at jA;exact (xr (by rw[OZ oy];simp only[Bool.not_eq_true'] at jA;rw[jA];rfl)).symm),rfl⟩
  ·have PV:((f.kids.length:Int)==eL && jx W f)=true:=by rw[O0] at jA;simpa using jA
   refine ay ?_;refine ag (ad.call .k (Pk f)) ?_;refine w9 ?_;refine az (λkq=>?_) λkq=>?_
   ·refine aP ?_;refine aB 4 (H) ?_;exact⟨bn (by rw[O1 oy PV] at kq;exact (xr (by simpa using kq)).symm),rfl⟩
   ·have jH:gS W f=true:=by rw[O1 oy PV] at kq;simpa using kq
    refine bS ?_;refine bm (λm st=>∃(i:Nat),st=⟨[(94,.i i),(93,.i f.kids.length),(92,ab.facts f.kids),(3,.ptr (fy f)),(2,.ptr (cB W))],H⟩/\m=f.kids.length - i/\i<=f.kids.length/\(f.kids.take i).all (dS W)=true) (⟨0,rfl,rfl,aa,rfl⟩) ?_;rintro m _ ⟨i,rfl,rfl,aN,y1⟩;refine ay ?_;refine az (λlP=>?_) λlP=>?_
    ·refine aJ ?_;refine bT (λdN=>?_);refine aP ?_;refine ag (ad.call .k (fv (f.kids.getD i default) (hT aa))) ?_;refine aH ?_;refine az (λmi=>?_) λmi=>?_
     ·refine bA ?_;refine aB 4 (H) ?_;exact⟨bn (YM (i:=i) aa (by simpa using mi)).symm,rfl⟩
     ·refine aP ?_;exact aU (⟨i+1,rfl,rfl,aa,by rw[<-c3 aa,List.all_append,y1];simpa using mi⟩)
    ·obtain rfl:i=f.kids.length:=by omega
     rw[List.take_length] at y1;refine bA ?_;refine aB 4 (H) ?_;exact⟨bn (YN jH y1).symm,rfl⟩
def aa6{W}(a:W.parents.length<=60):∀f:Fact,aI prog 149 [ab.world W,ab.fact f] (.b (dS W f)):=Fact.mf (aa5 a)
def aa7{W}(a:W.parents.length<=60)(f):aI prog 95 [ab.world W,ab.fact f] (.b (decide (cW f<=24) && decide (ko f<=12) && dS W f)):=by
 intro H;refine aM func95 λB I c=>?_;refine bQ ?_;refine ag (.call .k (aa1 f)) ?_;refine aH ?_;refine ai.cG rfl rfl rfl rfl rfl rfl (λav=>.call (.mk' rfl rfl rfl rfl cU) (aa3 f wx)) ?_;refine aS ?_;refine ai.cG rfl rfl rfl rfl rfl rfl (λav=>.call (.mk' rfl rfl rfl rfl cU) (aa6 a f)) ?_;refine aS ?_;refine aB 4 H ?_;exact⟨bn (by rw[show decide (min (cW f:Int) 25<=24)=decide (cW f<=24) from by rw[decide_eq_decide];omega,show decide ((ko f:Int)<=12)=decide (ko f<=12) from by rw[decide_eq_decide];omega];cases decide (cW f<=24) <;> cases decide (ko f<=12) <;> rfl),rfl⟩
def PW(h:cy W){s}(a:s<W.owner.length):3<=W.owner.getD s default/\W.owner.getD s default<3+W.parents.length:=by
 simp only[cy,Bool.and_eq_true] at h;have:=List.all_eq_true.1 h.2 _ (bH a);simpa only[sh,Bool.and_eq_true,decide_eq_true_eq] using this
def tO(W:Fc.bx)(c:Int)(s:Nat):Bool:=jg W c (W.owner.getD s default)
def ri(W:Fc.bx)(c:Int)(n:Nat):al:=((List.range n).filter (tO W c)).map λ(s:Nat)=>(s:Int)
def aa8(W:Fc.bx)(c):ri W c W.owner.length=eg W c:=rfl
def UY(W:Fc.bx)(c)(n):(ri W c n).length<=n:=by
 rw[ri,List.length_map];exact Nat.le_trans zE aT
def aa9{c}{n}(h:tO W c n):ab.ints (ri W c (n+1))= .aj 1 (((ri W c n).map λn=>[.i n])++[[.i (n:Int)]]):=by
 rw[ri,List.range_succ,List.filter_append,List.map_append];rw[show [n].filter (tO W c)= [n] by simp[h]];exact GW _ _
def aba{c}{n}(h:tO W c n=false):ri W c (n+1)=ri W c n:=by
 rw[ri,List.range_succ,List.filter_append,show [n].filter (tO W c)= [] by simp[h],List.append_nil];rfl
def Dl{c:Type}[Inhabited c]{l:List c}{i}{p}(f:i<l.length)(h:(l.take i).all p=true)(g:p (l.getD i default)=true):(l.take (i+1)).all p=true:=by rw[zL f,h,g];rfl
def HP{c:Type}[Inhabited c]{l:List c}{i}{p}(f:i<l.length)(g:p (l.getD i default)=false):l.all p=false:=by
 rw[List.all_eq_false];exact⟨_,bH f,by rw[g];simp⟩
def PX(h:cy W){c:Int}(g:3<=c)(l:c<3+W.parents.length){s}(f:s<W.owner.length):aI prog 85 [ab.world W,.i c,.i s] (.b (tO W c s)):=by
 intro H;refine aM func85 λB I m=>?_;have j:=PW h f;refine aP ?_;refine .cu mixed ?_;refine bS ?_;refine .dk 3 10 19 rfl ao rfl rfl ao ?_;refine a8 ?_;refine ai.cG rfl rfl rfl rfl rfl rfl (λav=>.call (.mk' rfl rfl rfl rfl cU) (HO h (a:=c) (b:=(W.owner.getD s default)) E8 E8)) ?_;refine aS ?_;refine aB 6 H ?_;exact⟨bn (by rw[decide_eq_true (show c>=3 from g)];rfl),rfl⟩
def abb(h:cy W){c:Int}(l:3<=c)(f:c<3+W.parents.length):aI prog 190 [ab.world W,.i c] (ab.ints (eg W c)):=by
 intro H;refine aM func190 λB I r=>?_;have j:=vn h;refine o8 ?_;refine hi 5 3 1 ?_;refine bm (λm o=>∃(i:Nat) (v:Value),o=⟨[(10,.i i),(9,.i W.owner.length),(5,.as (ab.ints (ri W c i)) v),(2,.ptr (cB W)),(1,.i c)],.own 3 1 v::H⟩/\m=W.owner.length - i/\i<=W.owner.length) (⟨0,_,rfl,rfl,aa⟩) ?_;rintro m _ ⟨i,v,rfl,rfl,s⟩;refine ay ?_;refine az (λaf=>?_) λaf=>?_
 ·have a:i<W.owner.length:=by omega
  refine dW ?_;refine ag (ad.call .k (PX h l f a)) ?_;refine aQ ?_;refine bc (λae=>?_) (λae=>?_)
  ·refine aH ?_;refine ai.cc (x:=.aj 1 [[.i i]]) rfl rfl rfl (ad.row rfl rfl cD rfl rfl rfl rfl rfl rfl) ?_;refine ai.dJ rfl rfl rfl rfl rfl rfl rfl rfl (aq.refl _) (rfl) (λ_=>dt) Ll Ll (λv20=>?_);refine aJ ?_;exact aU (⟨i+1,v20,by rw[aa9 ae],rfl,a⟩)
  ·refine aP ?_;exact aU (⟨i+1,v,by rw[aba ae],rfl,a⟩)
 ·obtain rfl:i=W.owner.length:=by omega
  rw[aa8];refine bS ?_;refine aZ.cl (rs:=[.tmp 4]) (H':=H) rfl (.tmp rfl (.nil)) (.cons (aq.eY _ _) .nil) bE ?_;exact⟨cM,rfl⟩
def abc(f)(s:nB f)(r:∀k∈f.kids,aI prog 96 [ab.fact k] (.i (nC k))):aI prog 96 [ab.fact f] (.i (nC f)):=by
 intro H;refine aM func96 λB I w=>?_;rw[C2];obtain⟨l,h,x⟩:=C3 s;refine bA ?_;refine .k7 (λst=>st=⟨[(3,.i (ha f)),(1,.ptr (fy f))],H⟩) ?_ ?_
 ·refine aH ?_;refine ag (.call .k (Pk f)) ?_;refine aQ ?_;refine bc (λaf=>?_) λaf=>?_
  ·have g:ha f=f.arg+1:=by unfold ha;rw[if_pos BJ]
   rw[g] at l h;refine ay ?_;refine .le 3 (y:=.i (ha f)) rfl (.b6 (by rw[g])) ?_;exact dm rfl
  ·have g:ha f=0:=by unfold ha;rw[if_neg BJ]
   refine aR ?_;refine .le 3 (y:=.i (ha f)) rfl (.b6 (by rw[g])) ?_;exact dm rfl
 ·rintro _ rfl;refine bQ ?_;refine aA.ez (t:=12) rfl (λalm=>?_);refine bm (λm st=>∃j:Nat,st=⟨[(14,.i j),(13,.i f.kids.length),(12,ab.facts f.kids),(3,.i (nD (f.kids.take j) (ha f)))],H⟩/\m=f.kids.length - j/\j<=f.kids.length) (⟨0,rfl,rfl,aa⟩) ?_;rintro m _ ⟨j,rfl,rfl,v⟩;refine ay ?_;refine az (λae=>?_) λae=>?_
  ·have c:j<f.kids.length:=by omega
   have o:=bH c;have a:=GZ (f.kids.getD j default) (f.kids.take j) (ha f);rw[c3 c] at a;refine aJ ?_;refine bT (λsr=>?_);refine aH ?_;refine eB 5 ?_;refine aH ?_;refine ag (ad.call .k (r _ o)) ?_;refine ag (ad.max2 rfl rfl rfl rfl rfl rfl) ?_;refine aV ?_;refine aA.le 3 (y:=.i (nD (f.kids.take (j+1)) (ha f))) rfl (aq.b6 (by rw[a,Int.max_def];split <;> (try split) <;> omega)) ?_;refine aV ?_;exact aU (⟨j+1,rfl,rfl,aa⟩)
  ·obtain rfl:j=f.kids.length:=by omega
   rw[List.take_length];refine bS ?_;refine aB 2 (H) ?_;exact⟨cM,rfl⟩
def abd:∀f:Fact,nB f=true->aI prog 96 [ab.fact f] (.i (nC f)):=Fact.mf λf g a=>abc f a λk c=>g k c ((C3 a).2.2 k c)
def abe(a:W.parents.length<=60)(f):aI prog 95 [ab.world W,ab.fact f] (.b (lL W f)):=by rw[<-YQ];exact aa7 a f
end Go.Proofs.YtodccgailpkgeaaGreat

