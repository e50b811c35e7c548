/- A part of the proof. No condition. -/
import Derived.Test.YtodccgailpkgeaaGreatKindInfersP24
set_option linter.defProp false
set_option maxHeartbeats 1000000
set_option linter.unusedVariables false
set_option linter.unusedSimpArgs false
set_option maxRecDepth 10000
namespace Go.Proofs.YtodccgailpkgeaaGreat
open Go.Proofs.Tryz
open Go.Eng
open Go.Eng.Fc
open Go.Eng.dN
variable{X:ni}{P:Program}{H:aA}{ρ:Nat->Option ab}{o:Oper}{t iN tx gT:Nat}{H':Value->aA}{x:Value->ab}{p:Prog}{y mw:ab}{A:List cW}{s z:Operand}{g1 g2:Bool}{α:Type}
def ed.lN{t e k l}[G:fF P t (e,k,l)](h:o.op= .buildSlice t 0 #[])(D:∀v,H' v= .own e k v::H)(F:∀v,x v= .as (.ai k []) v):ed X P H H' x ρ o:=λB I w r a c s A=>by
 obtain⟨i,z,K,E,N,O,J,L,M⟩:=oN G.h;have uo:(Instr.buildSlice t 0 #[]).run P w= .ok (.slice (some ⟨w.heap.size,0,none⟩) 0 0) (w.alloc (.cells #[] e)):=by
  simp[Instr.buildSlice,run_underlying K,sizeOf,typeInfo,E,Instr.fill,newRow,show Array.range 0= #[] from by decide+kernel]
 have m:=s.alloc c (.cells #[] e);have j:(w.alloc (.cells #[] e)).ownsRow B e k (.slice (some ⟨w.heap.size,0,none⟩) 0 0) 0 []:=⟨aS,.inr ⟨w.heap.size,0,#[],rfl,c.base,heap_alloc_new w _,Nat.le_refl _,by simp[maxLen],aS,aS⟩⟩;refine .e3 cf (v:=.slice (some ⟨w.heap.size,0,none⟩) 0 0) (w':=w.alloc (.cells #[] e)) yj ⟨I,c.alloc _,jB c _,?_,?_⟩
 ·rw[D];refine⟨λf g=>?_,List.pairwise_cons.2 ⟨λf g b q e=>?_,m.apart⟩⟩
  ·rcases List.mem_cons.1 g with rfl | g
   ·refine⟨0,[],j,λg C o _ A=>?_⟩;simp[Value.ownBlock] at C;subst C;exact absurd (c.lt A) MS
   ·exact m.ok f g
  ·simp[bn.dY,Value.ownBlock] at q;subst q;exact absurd (bn.lO (s.ok f g) e).2 (Nat.lt_irrefl _)
 ·rw[F];exact .as _ _ (.dQ _ _ _)
theorem Tz{p}{c}(i x):∀(L:ak) (g:GT),L.foldl (GT.begin p c) (g.bU i x)=(L.foldl (GT.begin p c) g).bU i x
 | [],g=>rfl
 | s::r,g=>by
  rw[List.foldl_cons,List.foldl_cons, <-Tz i x r];congr 1;show GT.mk _ _=GT.mk _ _;congr 1;exact Bool.or_right_comm _ _ _
def ah9(g:GT)(i x j y):(g.bU i x).eL j y=(g.eL j y).bU i x:=by
 show GT.mk _ _=GT.mk _ _;congr 1;exact Bool.or_right_comm _ _ _
def A1{g:GT}(h:bf p g.t)(i):g.bU i 0=g:=by
 have e:pe (g.t.nodes.getD i default) 0=g.t.nodes.getD i default:=by
  unfold pe;rw[Nat.or_zero];by_cases c:i<g.t.nodes.length
  ·exact (hT.1 (h.nb _ (bI c))).1.symm
  ·rw[List.getD_eq_getElem?_getD,List.getElem?_eq_none aa];rfl
 have a:kK g.t.nodes i 0=false:=by unfold kK;rw[e];simp
 have f:=QT a;unfold GT.bU;rw[a,f,Bool.or_false]
section
variable{p:Prog}{ah:Nat->Nat->Bool}{y:hi}{n:Nat}{env:ak}{m:Int}{cN:ak}{g:GT}
def aia(h:y.op=1\/(12<=y.op/\y.op<=16)):eF p ah y n env m cN g=g.bU n 2:=if_pos h
def aib(h:y.op=2):eF p ah y n env m cN g=g.bU n 4:=by simp[eF,h]
def aic(h:y.op=3):eF p ah y n env m cN g=g.bU n (env.getD y.n.toNat default).toNat:=by simp[eF,h]
def TA(h:y.op=4):eF p ah y n env m cN g=if su p (dy cN 0) y.n then g.bU n (g.t.av.getD y.n.toNat default).toNat else g:=by simp[eF,h]
def aid(h:y.op=5):eF p ah y n env m cN g=sw p n y.n cN g:=by simp[eF,h]
def aie(h:y.op=6):eF p ah y n env m cN g=vA p n y.n.toNat g:=by simp[eF,h]
def TB(h:y.op=7):eF p ah y n env m cN g=tT p n y.n (dy cN 0) (dy cN 1) g:=by simp[eF,h]
def aif(h:y.op=8):eF p ah y n env m cN g=pf p n y.n.toNat (dy cN 0) g:=by simp[eF,h]
def aih(h:y.op=9\/y.op=11):eF p ah y n env m cN g=g.bU n (dy cN 1):=by rcases h with h | h <;> simp[eF,h]
def aii(h:y.op=10):eF p ah y n env m cN g=g.bU n (dy cN 1 ||| dy cN 2):=by simp[eF,h]
def aij(h:y.op=17):eF p ah y n env m cN g=g.bU n (dy cN 0):=by simp[eF,h]
def TC(h:y.op=18):eF p ah y n env m cN g=if m<0 then g else sx p ah n m.toNat g:=by simp[eF,h]
end
def TD{y}{c}(a:(bw p).isSome)(hy:gC p y c)(h:y.op=6\/y.op=8):eH p y.n=true:=by
 rw[gC,if_neg aa,if_pos h] at hy;unfold eH;rw[a,Bool.and_true];exact hy
def kQ(l:ak):ak:=[l.getD 0 default,l.getD 1 default,l.getD 2 default]
def aik{KS:ak}{i}(g:i<3)(f:i<KS.length){v}(h:v=KS.getD i default):(kQ (KS.take i)).set i v=kQ (KS.take (i+1)):=by
 subst h
 match i,g with
 | 0,_=>
  cases KS with
  | nil=>simp at f
  | cons a r=>rfl
 | 1,_=>
  match KS,f with
  | a::b::r,_=>rfl
 | 2,_=>
  match KS,f with
  | a::b::c::r,_=>rfl
def ail:(List.replicate 3 (ab.val aX))=(kQ []).map ab.i:=rfl
def aim{q:gx}(ck:p.Small)(a1:jd p q)(dZ:vY p A){next:Bool}{eU:Int}(ain:eU<0\/∃k:Nat,eU=k/\k<p.methods.length){f:Nat}(fv:∀{n:Int} {env:ak} {g:GT} {Hx:aA},h4 p next f n env.length->env.length+f<=20->(∀k∈env,ct (aJ p) k=true)->bf p g.t->bO prog 112 [.p q.bx 0,.i n,ab.ints env,.i eU] (cR p A q g Hx) (λr H1=>r= .bk []/\H1=cR p A q (fQ p (bh p) eU f n env g) Hx) (λ_ _=>False)){N:Nat}{env:ak}{g:GT}{Hx:aA}(j1:h4 p next (f+1) N env.length)(b2:env.length+(f+1)<=20)(he:∀k∈env,ct (aJ p) k=true)(h:bf p g.t):bO prog 112 [.p q.bx 0,.i (N:Int),ab.ints env,.i eU] (cR p A q g Hx) (λr H1=>r= .bk []/\H1=cR p A q (fQ p (bh p) eU (f+1) N env g) Hx) (λ_ _=>False):=by
 refine aM (n:=246) func112 λB I bW=>?_;have aH:=a1.aH;have hm:=a1.many;have rL:=tS j1;have hn:N<p.nodes.length:=by omega
 have A2:=Ak j1;obtain⟨uc,vR⟩:=DF j1;obtain⟨sN,oj,_⟩:=Al j1;have TE:=j1.2.2;obtain⟨Y,hy⟩:∃Y,Y=js p (N:Int):=⟨_,rfl⟩;rw[<-hy] at A2 uc vR sN oj TE;have QM:Y.kids.length<=3:=S1 aH oj uc vR sN;have ak1:=JX oj;have uo:fQ p (bh p) eU (f+1) N env g=eF p (bh p) Y N env eU (mb (jP (fQ p (bh p) eU f) Y env 0 Y.kids g).t Y) (jP (fQ p (bh p) eU f) Y env 0 Y.kids g):=by rw[hy];rfl
 refine aI ?_;refine ag (lL) ?_;refine ag (ad.le (ad.rF rfl rfl rfl rfl) (show an _ (.agg (ia Y)) by rw[hy];exact an.refl _)) ?_;refine bK (λAm=>?_);refine aT ?_;refine eA 8 ?_;refine aT ?_;refine bo (λz st=>∃(i:Nat) (G:GT),st=⟨[(9,.i i),(8,.ptr (ia Y)),(3,.i eU),(2,ab.ints env),(1,.i N),(0,.p q.bx 0)],cR p A q G Hx⟩/\z=Y.kids.length - i/\i<=Y.kids.length/\bf p G.t/\jP (fQ p (bh p) eU f) Y env i (Y.kids.drop i) G=(jP (fQ p (bh p) eU f) Y env 0 Y.kids g)) (⟨0,g,rfl,rfl,aa,h,rfl⟩) ?_;rintro z _ ⟨i,G,rfl,rfl,aQ,m,hinv⟩;refine bY ?_;refine az (λaf=>?_) λaf=>?_
 ·have bT:i<Y.kids.length:=by omega
  have lp:=S0 (R:=(fQ p (bh p) eU f)) (y:=Y) (env:=env) (G:=G) bT;have V:=TE i bT;have DH:=m.nl;obtain⟨e,H⟩:∃e,e=(if Y.op=9/\i=1 then env++[G.t.nodes.getD (Y.kids.getD 0 default).toNat default] else env):=⟨_,rfl⟩;rw[<-H] at lp;have aio:=A2 _ (bI (l:=Y.kids) (k:=0) aa);have pd:=xE m aio;have BP:∀k∈e,ct (aJ p) k=true:=by
   intro k bD;rw[H] at bD;split at bD
   ·rcases List.mem_append.1 bD with bu | bu
    ·exact he k bu
    ·rw[List.mem_singleton.1 bu];exact pd
   ·exact he k bD
  have ac:e.length+f<=20:=by
   rw[H];split
   ·rw[List.length_append];show env.length+1+f<=20;omega
   ·omega
  have yz:h4 p next f (Y.kids.getD i default) e.length:=by
   rw[H];by_cases ah:Y.op=9/\i=1
   ·rw[if_pos ah] at V ⊢;simpa using V
   ·rw[if_neg ah] at V ⊢;exact V
  refine bY ?_;refine aB.kV (λst=>∃eE:aA,st=⟨[(10,ab.ints e),(9,.i i),(8,.ptr (ia Y)),(3,.i eU),(2,ab.ints env),(1,.i N),(0,.p q.bx 0)],cR p A q G eE⟩/\Hx.Sublist eE) ?_ ?_
  ·refine bE ?_;refine bc (λae=>?_) (λae=>?_)
   ·have aip:Y.op=9/\i=1:=by
     have c7:(Y.op==9)=true:=by
      cases a8:(Y.op==9) with
      | true=>rfl
      | false=>rw[a8] at ae;cases ae
     rw[c7] at ae;exact⟨by simpa using c7,by have:((i:Int)==1)=true:=ae;simp at this;omega⟩
    have fw:e=env++[G.t.nodes.getD (Y.kids.getD 0 default).toNat default]:=by rw[H,if_pos aip]
    subst fw;refine aB.cw mixed ?_;refine b0.r5 (X:=n2) [⟨0,39,false⟩,⟨2,41,false⟩] (λJ=>match J with | [some v,none]=>.own 3 1 v::cR p A q G Hx | [_,some u]=>.own 3 1 u::cR p A q G Hx | _=>cR p A q G Hx) (λj J=>match j,J with | 0,[some v,_]=>.as (.ai 1 []) v | 1,[_,some u]=>.as (.ai 1 ([]++env.map λn=>[ab.i n])) u | _,_=>.any) 0 15 246 rfl aq aq rfl rfl aq rfl (λ_ _ _ _ _ _ _ _ _ h=>h.elim) ?_;refine cH.j4 0 [[false,false]] rfl rfl rfl aq rfl rfl rfl ⟨λf=>⟨ed.lN rfl (λ_=>rfl) (λ_=>rfl),hI⟩,trivial⟩ ?_;refine cj [[true,false],[false,false]] ⟨λf=>ad.move rfl rfl rfl,λf=>ad.move rfl rfl rfl,trivial⟩ ?_;refine cH.j4 1 [[true,false]] rfl rfl rfl aq rfl rfl rfl ⟨λf=>⟨ed.own (news:=env.map λn=>[ab.i n]) rfl rfl rfl (an.refl _) rfl rfl (an.refl _) (sa env) cB cB (λ_=>df) (λ_=>rfl),hI⟩,trivial⟩ ?_;refine cj [[true,true],[true,false],[false,false]] ⟨λf=>ad.move rfl rfl rfl,λf=>ad.move rfl rfl rfl,λf=>ad.move rfl rfl rfl,trivial⟩ ?_;refine cj [[true,true],[true,false],[false,false]] ⟨λf=>fT,λf=>fT,λf=>fT,trivial⟩ ?_;refine cj [[true,true],[true,false],[false,false]] ⟨λf=>b5,λf=>b5,λf=>b5,trivial⟩ ?_;refine cj [[true,true],[true,false],[false,false]] ⟨λf=>b5,λf=>b5,λf=>b5,trivial⟩ ?_;refine cj [[true,true],[true,false],[false,false]] ⟨λf=>cJ,λf=>cJ,λf=>cJ,trivial⟩ ?_;refine cj [[true,true],[true,false],[false,false]] ⟨λf=>b5,λf=>b5,λf=>b5,trivial⟩ ?_;refine cj [[true,true],[true,false],[false,false]] ⟨λf=>cJ,λf=>cJ,λf=>cJ,trivial⟩ ?_;refine cj [[true,true],[true,false],[false,false]] ⟨λf=>EL,λf=>EL,λf=>EL,trivial⟩ ?_;refine cj [[true,true],[true,false],[false,false]] ⟨λf=>ad.le (ad.cF rfl rfl rfl rfl) (an.b4 (show _=Y.kids.getD 0 default from rfl)),λf=>ad.le (ad.cF rfl rfl rfl rfl) (an.b4 (show _=Y.kids.getD 0 default from rfl)),λf=>ad.le (ad.cF rfl rfl rfl rfl) (an.b4 (show _=Y.kids.getD 0 default from rfl)),trivial⟩ ?_;refine cj [[true,true],[true,false],[false,false]] ⟨λf=>EI,λf=>EI,λf=>EI,trivial⟩ ?_;refine cj [[true,true],[true,false],[false,false]] ⟨λf=>EJ,λf=>EJ,λf=>EJ,trivial⟩ ?_;refine cj [[true,true],[true,false],[false,false]] ⟨λf=>ad.r8 [(true,.i (G.t.nodes.getD (Y.kids.getD 0 default).toNat default))] rfl rfl rfl rfl rfl rfl rfl rfl,λf=>ad.r8 [(true,.i (G.t.nodes.getD (Y.kids.getD 0 default).toNat default))] rfl rfl rfl rfl rfl rfl rfl rfl,λf=>ad.r8 [(true,.i (G.t.nodes.getD (Y.kids.getD 0 default).toNat default))] rfl rfl rfl rfl rfl rfl rfl rfl,trivial⟩ ?_;refine cH.nil (λf=>?_);simp only[kD,List.map_cons,List.map_nil,List.cons_append,List.nil_append];refine aR ?_;refine aj.dJ rfl rfl rfl rfl rfl rfl rfl rfl (an.refl _) (rfl) (λ_=>df) cB cB (λEy=>?_);refine aO ?_;refine aZ.le 10 (y:=ab.ints (env++[G.t.nodes.getD (Y.kids.getD 0 default).toNat default])) rfl (by rw[show ab.ints (env++[G.t.nodes.getD (Y.kids.getD 0 default).toNat default])= .ai 1 ([]++env.map (λn=>[ab.i n])++[[ab.i (G.t.nodes.getD (Y.kids.getD 0 default).toNat default)]]) by show ab.ai 1 (List.map _ _)=_;rw[List.map_append];rfl];exact an.e2 _ _) ?_;refine aZ.perm (H':=lg p q A::(ih q G.t++(.own 3 1 Ey::Hx))) (List.perm_middle (l₁:=lg p q A::ih q G.t)).symm ?_;exact dh ⟨.own 3 1 Ey::Hx,rfl,List.sublist_cons_self _ _⟩
   ·have fw:e=env:=by
     rw[H,if_neg];rintro⟨dP,c7⟩;rw[dP,c7] at ae;cases ae
    subst fw;refine aR ?_;exact dh ⟨Hx,rfl,List.Sublist.refl _⟩
  ·rintro _ ⟨eE,rfl,aiq⟩;refine ba ?_;refine cE .k ((fv (Hx:=eE) yz ac BP m).b) ?_;rintro _ _ ⟨rfl,rfl⟩;refine aI ?_;refine aZ.Lu (⟨i+1,(fQ p (bh p) eU f) (Y.kids.getD i default) e G,rfl,rfl,bT,Ap f yz BP m,by rw[<-hinv,lp]⟩) ?_ ?_ ?_
   ·omega
   ·repeat (first | exact trivial | refine⟨rfl,?_⟩)
   ·exact List.Sublist.cons_cons _ (List.Sublist.append (List.Sublist.refl _) aiq)
 ·obtain rfl:i=Y.kids.length:=by omega
  have MR:G=(jP (fQ p (bh p) eU f) Y env 0 Y.kids g):=by rw[<-hinv,List.drop_length];rfl
  have DH:=m.nl;have air:(mb G.t Y).length=Y.kids.length:=List.length_map _;obtain⟨KS,T⟩:∃KS,KS=(mb G.t Y):=⟨_,rfl⟩;rw[<-T] at air;have vy:∀k∈KS,ct (aJ p) k=true:=λk bD=>DL m A2 k (by rw[<-T];exact bD);refine aP ?_;refine aj.pN (3) rfl rfl rfl rfl rfl rfl rfl rfl (rfl) aa h5 (λsh=>?_);refine bY ?_;rw[ail];refine bo (λz st=>∃i:Nat,st=⟨[(12,.i i),(11,fA sh 3),(8,.ptr (ia Y)),(3,.i eU),(2,ab.ints env),(1,.i N),(0,.p q.bx 0)],eZ sh (kQ (KS.take i))::cR p A q G Hx⟩/\z=Y.kids.length - i/\i<=Y.kids.length) (⟨0,rfl,rfl,aa⟩) ?_;rintro z _ ⟨i,rfl,rfl,aQ⟩;refine bY ?_;refine az (λao=>?_) λao=>?_
  ·have bT:i<Y.kids.length:=by omega
   have r0:=A2 _ (bI bT);have jG:KS.getD i default=G.t.nodes.getD (Y.kids.getD i default).toNat default:=by rw[T];exact sM bT
   refine aY ?_;refine bP 14 246 ?_;refine bR ?_;refine bg (ad.dX rfl rfl rfl rfl rfl (.tail _ (gP (i:=(Y.kids.getD i default).toNat) aa)) ⟨aa,aa⟩) ?_;refine bg (ad.gk rfl rfl rfl (.tail _ (gP (i:=(Y.kids.getD i default).toNat) aa)) (hK aa)) ?_;refine aO ?_;refine ag (ad.gU rfl rfl rfl rfl rfl aa) ?_;apply aj.fZ rfl rfl rfl rfl rfl rfl rfl rfl rfl rfl
   (case hu=>repeat (first | exact bG.head _ _ _ | apply bG.tail));(case hfit=>simp[kQ];omega);(case hds=>exact (ints_set (l:=kQ (KS.take i)) (j:=i) (by simp[kQ];omega) _).trans (by rw[aik (KS:=KS) (i:=i) aa aa jG.symm]))
   refine aI ?_;exact aW (⟨i+1,rfl,rfl,bT⟩)
  ·obtain rfl:i=Y.kids.length:=by omega
   rw[List.take_of_length_le (by omega:KS.length<=Y.kids.length)];refine ax ?_;rw[DB sh sh (kQ KS) 0];refine aB.oM (d:=11) (k:=1) rfl (fU.head _ _) (by rw[List.length_map];rfl) (λe he=>by obtain⟨y,_,rfl⟩:=List.mem_map.1 he;rfl) (Nat.le_refl _) h5 ?_;obtain⟨Ez,W⟩:=p9 vy 0;obtain⟨pd,E⟩:=p9 vy 1;obtain⟨ais,BQ⟩:=p9 vy 2;refine aY ?_;refine aB.kV (λst=>∃(a:Nat) (A3:GT),st=⟨[(13,.i (a:Int)),(1,.i N),(0,.p q.bx 0)],cR p A q A3 Hx⟩/\fo p a/\bf p A3.t/\A3.bU N a=eF p (bh p) Y N env eU KS G) ?_ ?_
   ·refine aP ?_;refine aB.kV (λst=>∃b:Bool,st=⟨[(89,.b b),(88,.i Y.op),(13,.i ((0:Nat):Int)),(11,ab.ints (kQ KS)),(8,.ptr (ia Y)),(3,.i eU),(2,ab.ints env),(1,.i N),(0,.p q.bx 0)],cR p A q G Hx⟩/\(b=true↔Y.op=1\/(12<=Y.op/\Y.op<=16))) ?_ ?_
    ·refine ax ?_;refine az (λaV=>?_) λaV=>?_
     ·refine aR ?_;exact dh ⟨Y.op==1,rfl,sX⟩
     ·refine ax ?_;refine az (λbu=>?_) λbu=>?_
      ·refine aR ?_;exact dh ⟨Y.op==12,rfl,sX⟩
      ·refine ax ?_;refine az (λcr=>?_) λcr=>?_
       ·refine aR ?_;exact dh ⟨Y.op==13,rfl,sX⟩
       ·refine ax ?_;refine az (λdK=>?_) λdK=>?_
        ·refine aR ?_;exact dh ⟨Y.op==14,rfl,sX⟩
        ·refine ax ?_;refine az (λdA=>?_) λdA=>?_
         ·refine aR ?_;exact dh ⟨Y.op==15,rfl,sX⟩
         ·refine aY ?_;exact dh ⟨Y.op==16,rfl,sX⟩
    ·rintro _ ⟨o9,rfl,a2⟩;refine bc (λdP=>?_) (λdP=>?_)
     ·have cd:=a2.1 dP;refine aY ?_;exact dh ⟨2,G,rfl,I6 p,m,(aia cd).symm⟩
     ·have cd: ¬(Y.op=1\/(12<=Y.op/\Y.op<=16)):=λe=>by rw[a2.2 e] at dP;cases dP
      refine ax ?_;refine az (λc7=>?_) λc7=>?_
      ·refine aY ?_;exact dh ⟨4,G,rfl,I7 p,m,(aib c7).symm⟩
      ·refine ax ?_;refine az (λhJ=>?_) λhJ=>?_
       ·have ak2:=SZ sN hJ;have TF:=hT.1 (he _ (bI (k:=Y.n.toNat) aa));refine aY ?_;refine ag (lL) ?_;refine ag (ad.le (ad.cF rfl rfl rfl rfl) (an.b4 TF.1)) ?_;refine aF ?_;exact dh ⟨(env.getD Y.n.toNat default).toNat,G,rfl,TF.2,m,(aic hJ).symm⟩
       ·refine ax ?_;refine az (λh1=>?_) λh1=>?_
        ·have ph:=AV sN (.inl h1);obtain⟨z7,Kb⟩:=DO m ph;have ra:=m.ai;refine aR ?_;refine bP 6 246 ?_;refine aO ?_;refine bg (ad.ep (enc:=λn=>[ab.i n]) (l:=kQ KS) (i:=0) rfl rfl rfl rfl rfl ⟨aa,Bt⟩) ?_;refine bg (ad.le (ad.cF rfl rfl rfl rfl) (an.b4 (show _=_ from Ez))) ?_;refine aY ?_;refine cE .k ((Tt (g:=G) ck a1 W.1 ph).b) ?_;rintro _ _ ⟨rfl,rfl⟩;refine aO ?_;refine bc (λjq=>?_) (λjq=>?_)
         ·refine bP 7 246 ?_;refine ba ?_;refine ag (ad.dX rfl rfl rfl rfl rfl (lh (i:=Y.n.toNat) aa) ⟨aa,aa⟩) ?_;refine ag (ad.le (ad.gk rfl rfl rfl (lh (i:=Y.n.toNat) aa) (hK aa)) (an.b4 z7)) ?_;refine aF ?_;exact dh ⟨(G.t.av.getD Y.n.toNat default).toNat,G,rfl,Kb,m,by rw[TA h1,if_pos jq]⟩
         ·refine aO ?_;exact dh ⟨0,G,rfl,vB p,m,by rw[A1 m,TA h1,if_neg (by rw[jq];decide)]⟩
        ·refine ax ?_;refine az (λkc=>?_) λkc=>?_
         ·obtain⟨C,O,M⟩:=po sN (.inl kc);obtain⟨c,P⟩:∃c:Nat,c=Y.n.toNat:=⟨_,rfl⟩;rw[<-P] at C O M;have bb:=TD aH sN (.inl kc);rw[C] at bb;obtain⟨⟨TG,TH⟩,_⟩:=ve bb;have ait:=(o7 bb).br;have TI:fH p c=cu p c:=by rw[fH,bb,if_pos rfl]
          refine aF ?_;refine ag (ad.le (ad.cF rfl rfl rfl rfl) (an.b4 C)) ?_;refine ag (ad.shift rfl rfl rfl rfl rfl aa (mO c ⟨aa,aa⟩)) ?_;refine aY ?_;refine bP 6 246 ?_;refine aT ?_;refine bg (ad.le (ad.cF rfl rfl rfl rfl) (an.b4 C)) ?_;refine aO ?_;refine ag (ad.call .k (HS ck aH TG TH)) ?_;refine ba ?_;refine bo (λz st=>∃j:Nat,st=⟨[(15,.i j),(14,ab.ints (cu p c)),(13,.i ((2^c:Nat):Int)),(8,.ptr (ia Y)),(3,.i eU),(2,ab.ints env),(1,.i N),(0,.p q.bx 0)],cR p A q (((cu p c).take j).foldl (GT.begin p c) G) Hx⟩/\z=(cu p c).length - j/\j<=(cu p c).length) (⟨0,rfl,rfl,aa⟩) ?_;rintro z _ ⟨j,rfl,rfl,cm⟩;refine ba ?_;refine az (λlE=>?_) λlE=>?_
          ·have dH:j<(cu p c).length:=by omega
           have bK:bf p (((cu p c).take j).foldl (GT.begin p c) G).t:=hU _ m λg s _ h=>vC h c s;have aiu:=xH (f:=GT.begin p c) dH G;refine aY ?_;refine bP 7 246 ?_;refine aO ?_;refine bg (ad.le (ad.cF rfl rfl rfl rfl) (an.b4 C)) ?_;refine ax ?_;refine cE .k ((Ts ck a1 bK bb (bI dH)).b) ?_;rintro _ _ ⟨rfl,rfl⟩;refine aI ?_;exact aW (⟨j+1,by rw[aiu],rfl,dH⟩)
          ·obtain rfl:j=(cu p c).length:=by omega
           rw[List.take_length];refine aT ?_;exact dh ⟨2^c,(cu p c).foldl (GT.begin p c) G,rfl,km O M,hU _ m λg s _ h=>vC h c s,by rw[aie kc, <-P,vA,TI,Tz]⟩
         ·refine ax ?_;refine az (λl8=>?_) λl8=>?_
          ·have ph:=AV sN (.inr l8);obtain⟨z7,Kb⟩:=DO m ph;have ra:=m.ai;have ap:=jt hm Kb;have TJ:=jt hm E;refine aF ?_;refine ag (ad.ep (enc:=λn=>[ab.i n]) (l:=kQ KS) (i:=1) rfl rfl rfl rfl rfl ⟨aa,Bu⟩) ?_;refine ag (ad.le (ad.cF rfl rfl rfl rfl) (an.b4 (show _=_ from pd))) ?_;refine aY ?_;refine bP 6 246 ?_;refine aO ?_;refine bg (ad.ep (enc:=λn=>[ab.i n]) (l:=kQ KS) (i:=0) rfl rfl rfl rfl rfl ⟨aa,Bt⟩) ?_;refine bg (ad.le (ad.cF rfl rfl rfl rfl) (an.b4 (show _=_ from Ez))) ?_;refine aY ?_;refine cE .k ((Tt (g:=G) ck a1 W.1 ph).b) ?_;rintro _ _ ⟨rfl,rfl⟩;refine aO ?_;refine bc (λsg=>?_) (λsg=>?_)
           ·refine bP 20 246 ?_;refine c4 ?_;refine bg (ad.dX rfl rfl rfl rfl rfl (lh (i:=Y.n.toNat) aa) ⟨aa,aa⟩) ?_;refine bg (ad.le (ad.gk rfl rfl rfl (lh (i:=Y.n.toNat) aa) (hK aa)) (an.b4 z7)) ?_;refine aR ?_;refine bg (ad.ep (enc:=λn=>[ab.i n]) (l:=kQ KS) (i:=1) rfl rfl rfl rfl rfl ⟨aa,Bu⟩) ?_;refine bg (ad.le (ad.cF rfl rfl rfl rfl) (an.b4 (show _=_ from pd))) ?_;refine bg (ad.bits rfl rfl rfl rfl rfl (kg _ _ aa aa)) ?_;refine aO ?_;refine ag (ad.dX rfl rfl rfl rfl rfl (lh (i:=Y.n.toNat) aa) ⟨aa,aa⟩) ?_;refine Ex (x:=dy KS 1) rfl rfl rfl rfl rfl rfl rfl aa rfl ?_;refine aO ?_;exact dh ⟨dy KS 1,G.eL Y.n.toNat (dy KS 1),rfl,E,m.eL _ E,by rw[TB l8,tT,if_pos sg,ah9]⟩
           ·refine aO ?_;exact dh ⟨dy KS 1,G,rfl,E,m,by rw[TB l8,tT,if_neg (by rw[sg];decide)]⟩
          ·refine ax ?_;refine az (λo4=>?_) λo4=>?_
           ·obtain⟨C,O,M⟩:=po sN (.inr o4);obtain⟨c,P⟩:∃c:Nat,c=Y.n.toNat:=⟨_,rfl⟩;rw[<-P] at C O M;have bb:=TD aH sN (.inr o4);rw[C] at bb;obtain⟨⟨TG,TH⟩,_⟩:=ve bb;have ait:=(o7 bb).br;have TI:fH p c=cu p c:=by rw[fH,bb,if_pos rfl]
            refine bP 7 246 ?_;refine aF ?_;refine bg (ad.ep (enc:=λn=>[ab.i n]) (l:=kQ KS) (i:=0) rfl rfl rfl rfl rfl ⟨aa,Bt⟩) ?_;refine bg (ad.le (ad.cF rfl rfl rfl rfl) (an.b4 (show _=_ from Ez))) ?_;refine aR ?_;refine bg (ad.le (ad.cF rfl rfl rfl rfl) (an.b4 C)) ?_;refine aO ?_;refine cE .k ((ahW ck a1 m hn W.1 bb).b) ?_;rintro _ _ ⟨rfl,rfl⟩;refine aO ?_;exact dh ⟨0,pf p N c (dy KS 0) G,rfl,vB p,IS m N O M _,by rw[A1 (IS m N O M _),aif o4, <-P]⟩
           ·refine aB.kV (λst=>∃b:Bool,st=⟨[(192,.b b),(88,.i Y.op),(13,.i ((0:Nat):Int)),(11,ab.ints (kQ KS)),(8,.ptr (ia Y)),(3,.i eU),(2,ab.ints env),(1,.i N),(0,.p q.bx 0)],cR p A q G Hx⟩/\(b=true↔Y.op=9\/Y.op=11)) ?_ ?_
            ·refine ax ?_;refine az (λzY=>?_) λzY=>?_
             ·refine aR ?_;exact dh ⟨Y.op==9,rfl,sX⟩
             ·refine aY ?_;exact dh ⟨Y.op==11,rfl,sX⟩
            ·rintro _ ⟨ak3,rfl,bF⟩;refine bc (λq9=>?_) (λq9=>?_)
             ·have TK:=bF.1 q9;refine aO ?_;refine ag (ad.ep (enc:=λn=>[ab.i n]) (l:=kQ KS) (i:=1) rfl rfl rfl rfl rfl ⟨aa,Bu⟩) ?_;refine ag (ad.le (ad.cF rfl rfl rfl rfl) (an.b4 (show _=_ from pd))) ?_;refine aF ?_;exact dh ⟨dy KS 1,G,rfl,E,m,(aih TK).symm⟩
             ·have TK: ¬(Y.op=9\/Y.op=11):=λe=>by rw[bF.2 e] at q9;cases q9
              refine ax ?_;refine az (λxu=>?_) λxu=>?_
              ·have ap:=jt hm E;have TJ:=jt hm BQ;refine bP 6 246 ?_;refine aR ?_;refine bg (ad.ep (enc:=λn=>[ab.i n]) (l:=kQ KS) (i:=1) rfl rfl rfl rfl rfl ⟨aa,Bu⟩) ?_;refine bg (ad.le (ad.cF rfl rfl rfl rfl) (an.b4 (show _=_ from pd))) ?_;refine aR ?_;refine bg (ad.ep (enc:=λn=>[ab.i n]) (l:=kQ KS) (i:=2) rfl rfl rfl rfl rfl ⟨aa,by show (2:Int)<((3:Nat):Int);omega⟩) ?_;refine bg (ad.le (ad.cF rfl rfl rfl rfl) (an.b4 (show _=_ from ais))) ?_;refine aO ?_;refine ag (ad.bits rfl rfl rfl rfl rfl (kg _ _ aa aa)) ?_;refine aF ?_;exact dh ⟨dy KS 1 ||| dy KS 2,G,rfl,xC E BQ,m,(aii xu).symm⟩
              ·refine ax ?_;refine az (λtI=>?_) λtI=>?_
               ·refine aO ?_;refine ag (ad.ep (enc:=λn=>[ab.i n]) (l:=kQ KS) (i:=0) rfl rfl rfl rfl rfl ⟨aa,Bt⟩) ?_;refine ag (ad.le (ad.cF rfl rfl rfl rfl) (an.b4 (show _=_ from Ez))) ?_;refine aF ?_;exact dh ⟨dy KS 0,G,rfl,W,m,(aij tI).symm⟩
               ·refine ax ?_;refine az (λvp=>?_) λvp=>?_
                ·refine aP ?_;refine cE .k ((ah5 ck a1 m hn (gen:=Y.n) A2 (uc (by rw[vp];rfl)) QM).b) ?_;rintro _ _ ⟨rfl,rfl⟩;refine aO ?_;exact dh ⟨0,sw p N Y.n KS G,by rw[T],vB p,IV m N Y.n vy,by rw[A1 (IV m N Y.n vy),aid vp]⟩
                ·refine ax ?_;refine az (λsj=>?_) λsj=>?_
                 ·refine ax ?_;refine az (λzZ=>?_) λzZ=>?_
                  ·obtain⟨k,rfl,bD⟩:=ain.resolve_left aa;refine aY ?_;refine cE .k ((ah6 ck a1 m hn bD dZ).b) ?_;rintro _ _ ⟨rfl,rfl⟩;refine aO ?_;exact dh ⟨0,sx p (bh p) N k G,rfl,vB p,IT m _ N k,by rw[A1 (IT m _ N k),TC sj,if_neg aa];rfl⟩
                  ·refine aO ?_;exact dh ⟨0,G,rfl,vB p,m,by rw[A1 m,TC sj,if_pos aa]⟩
                 ·refine aO ?_;exfalso;omega
   ·rintro _ ⟨a,A3,rfl,aiv,qy,a5⟩;have zM:=qy.nl;obtain⟨DV,mE⟩:=hT.1 (qy.nb _ (bI (k:=N) aa));have ap:=jt hm mE;have TJ:=jt hm aiv;refine bP 16 246 ?_;refine bR ?_;refine bg (ad.dX rfl rfl rfl rfl rfl (gP (i:=N) aa) ⟨aa,aa⟩) ?_;refine bg (ad.le (ad.gk rfl rfl rfl (gP (i:=N) aa) (hK aa)) (an.b4 DV)) ?_;refine aR ?_;refine bg (ad.bits rfl rfl rfl rfl rfl (kg _ _ aa aa)) ?_;refine aO ?_;refine ag (ad.dX rfl rfl rfl rfl rfl (gP (i:=N) aa) ⟨aa,aa⟩) ?_;refine AX (x:=a) rfl rfl rfl rfl rfl rfl rfl aa rfl ?_;refine aR ?_;rw[show A3.bU (N:Int).toNat a=eF p (bh p) Y N env eU KS G from a5];refine gM [] (cR p A q (eF p (bh p) Y N env eU KS G) Hx) ?_;exact⟨rfl,by rw[uo, <-MR, <-T]⟩
def Kc{p:Prog}{A:List cW}{q:gx}(ck:p.Small)(a1:jd p q)(dZ:vY p A){next:Bool}{eU:Int}(ain:eU<0\/∃k:Nat,eU=k/\k<p.methods.length):∀(f:Nat) {n:Int} {env:ak} {g:GT} {Hx:aA},h4 p next f n env.length->env.length+f<=20->(∀k∈env,ct (aJ p) k=true)->bf p g.t->
  bO prog 112 [.p q.bx 0,.i n,ab.ints env,.i eU] (cR p A q g Hx) (λr H1=>r= .bk []/\H1=cR p A q (fQ p (bh p) eU f n env g) Hx) (λ_ _=>False)
 | 0,n,env,g,Hx,j1,_,_,_=>j1.elim
 | f+1,n,env,g,Hx,j1,alb,he,h=>by
  have rL:=tS j1;obtain⟨N,rfl⟩:∃N:Nat,n=N:=⟨n.toNat,aa⟩;exact aim ck a1 dZ ain (f:=f) (λa b c d=>Kc ck a1 dZ ain f a b c d) j1 alb he h
def TL{B:Nat}{I:cp}{w:World}{r:Option Nat}{a:Act}{t tx e iN gT:Nat}{cs:bl}[dZ:fF P t (e,1,iN)][jZ:eC P tx gT](h:o.op= .call {callee:=.builtin .append,args:=#[s,z],argTypes:=#[t,tx]})
  (b6:aN ρ s=some (g1,mw)) (rS:g1=true) (yy:an mw .fl) (aH:aN ρ z=some (g2,y)) (rT:g2=true) (hy:an y (.ai 1 (cs.map λx=>[x]))) (ae:(cs.map λx=>[x]).all dB=true) (a8:cs.length*iN<=140737488355328) (wD:cs.length<=9223372036854775807)
  (hw:bV B I w) (aU:a7 B I w H) (bb:fm I w ρ a o):dt P r o a w (λv w'=>∃c3,bV B c3 w'/\Ext B I w c3 w'/\a7 B c3 w' ((if cs= [] then [] else [.row e 1 v cs.length cs])++H)/\(cs= []->∃gE c,v= .slice gE 0 c)/\v.oneCell'=true) (λ_ _=>False):=by
 obtain⟨i,zv,hu,aQ,lR,rW,wh,s5,Cm⟩:=oN dZ.h;obtain⟨e',_,aiw,_⟩:=nP jZ.h;obtain⟨gE,ur⟩:∃gE,a.eval s= .slice gE 0 0:=by
  have af:=yy _ _ _ (bb.get gB b6 rS);generalize a.eval s=u at af;cases af;exact⟨_,rfl⟩
 obtain⟨us,aC,gn⟩:=uD (P:=P) (tx:=tx) aiw (hy _ _ _ (bb.get gB aH rT)) ae;rw[List.length_map] at gn;rw[<-rW] at gn;have uT:∀l:bl,(l.map λx=>[x]).flatten=l:=λl=>by
  induction l with
  | nil=>rfl
  | cons x r fv=>rw[List.map_cons,List.flatten_cons,fv];rfl
 rw[uT] at aC;have ks:us.length=cs.length:=aC.length;by_cases EA:cs= []
 ·subst EA;have ks:us= []:=by cases aC;rfl
  subst ks;have bH:=run_append_nothing (P:=P) w t tx o.type e i hu aQ gE 0 0 (Nat.le_refl _) (a.eval z) gn;exact dt.e3 cf (pD h a w uq) ⟨I,hw,Ext.refl _ _ _,aU,λ_=>⟨_,_,rfl⟩,rfl⟩
 ·have hn:cs.length≠0:=λe=>EA (List.eq_nil_of_length_eq_zero e);have aix:(Builtin.firstCells i.size 0 (.slice gE 0 0)).run P w.drew= .ok (#[]:Array Value) w.drew:=by
   cases gE with
   | none=>simp[Builtin.firstCells]
   | some gE=>exact run_firstCells_some w.drew i.size 0 gE 0 0 [] aS aS
  have n4:Builtin.nextslicecap (0+cs.length) 0*i.bytes<=281474976710656:=growslice_fits aa (by rw[wh,Nat.zero_add];exact a8);have bH:=run_append_grow_src (P:=P) w t tx o.type e i zv hu aQ lR gE 0 0 [] aix (a.eval z) cs.length us gn aa aa n4;simp only[Nat.zero_add,List.nil_append] at bH;generalize fb:grownCap w cs.length 0 e=G at bH;have xw:cs.length<=G:=by rw[<-fb];exact grownCap_ge w cs.length 0 e
  have pK:G<=maxLen:=by rw[<-fb];exact grownCap_le_maxLen w cs.length 0 e h5
  have eJ:er I w I w.drew:=⟨λ_ _ x=>x,λ_ _ _=>rfl⟩;have pG:=hw.drew;have aV:=aU.drew.alloc pG (.cells (us.toArray++Builtin.zeroCells zv.cells (G - cs.length)) e);have rN:(w.drew.alloc (.cells (us.toArray++Builtin.zeroCells zv.cells (G - cs.length)) e)).ownsRow B e 1 (.slice (some ⟨w.drew.heap.size,0,none⟩) cs.length G) cs.length us:=
   ⟨by rw[ks];omega,.inr ⟨w.drew.heap.size,G,_,rfl,pG.base,heap_alloc_new w.drew _,xw,pK,by simp only[Array.size_append,List.size_toArray,size_zeroCells,s5,ks];omega,by
    rw[Array.toList_append,List.take_append_of_le_length (by simp[ks])];simp[<-ks]⟩⟩
  refine dt.e3 cf (pD h a w uq) ⟨I,pG.alloc _,Ext.trans ⟨eJ.il,eJ.cell,(Go.RowKit.Below.refl _ _).drew⟩ (jB pG _),?_,λe=>absurd e EA,rfl⟩;rw[if_neg EA];refine⟨λf b8=>?_,List.pairwise_cons.2 ⟨λf b8 b a8 e=>?_,aV.apart⟩⟩
  ·rcases List.mem_cons.1 b8 with rfl | b8
   ·refine⟨us,rN,(aC.bs eJ).bs (jB pG _).keeps,λg aw o bb=>?_⟩;simp[Value.ownBlock] at aw;subst aw;exact absurd (pG.lt bb) (Nat.lt_irrefl _)
   ·exact aV.ok f b8
  ·simp[bn.dY,Value.ownBlock] at a8;subst a8;exact absurd (bn.lO (aU.drew.ok f b8) e).2 (Nat.lt_irrefl _)
def ed.A4(l)[L:fF P t (3,1,iN)][M:eC P tx gT](h:o.op= .call {callee:=.builtin .append,args:=#[s,z],argTypes:=#[t,tx]})
  (F:aN ρ s=some (g1,mw)) (c:g1=true) (g:an mw .fl) (aH:aN ρ z=some (g2,y)) (j:g2=true) (hy:an y (.ai 1 (l.map λx=>[.i x]))) (C:l.length*iN<=140737488355328) (f:l.length<=9223372036854775807) (q:∀v,(c6 v l++H).Perm (H' v)) (aK:∀v,x v=jc l.isEmpty v):ed X P H H' x ρ o:=λB I w r a m D E=>
 (TL (cs:=l.map .i) (y:=y) h F c g aH j (by rw[List.map_map];exact hy) KM (by rw[List.length_map];exact C) (by rw[List.length_map];exact f) m D E).mono (λv J ⟨A,bF,a2,a3,a4,a5⟩=>by
  refine⟨A,bF,a2,?_,?_⟩
  ·refine a3.perm (.trans (.of_eq ?_) (q v));congr 1;unfold c6;by_cases e:l= []
   ·rw[if_pos e,e];rfl
   ·rw[if_neg e,if_neg (by simpa using e),List.length_map]
  ·rw[aK];cases l with
   | nil=>obtain⟨K,G,rfl⟩:=a4 rfl;exact .as _ _ (.dQ _ _ _)
   | cons b r=>exact .as _ _ (.single _ a5)) λ_ _ h=>h.elim
def ed.TM(l)[L:fF P t (4,1,iN)][M:eC P tx gT](h:o.op= .call {callee:=.builtin .append,args:=#[s,z],argTypes:=#[t,tx]})
  (F:aN ρ s=some (g1,mw)) (c:g1=true) (g:an mw .fl) (aH:aN ρ z=some (g2,y)) (j:g2=true) (hy:an y (.ai 1 (l.map λx=>[.b x]))) (C:l.length*iN<=140737488355328) (f:l.length<=9223372036854775807) (q:∀v,(fI v l++H).Perm (H' v)) (aK:∀v,x v=jc l.isEmpty v):ed X P H H' x ρ o:=λB I w r a m D E=>
 (TL (cs:=l.map .b) (y:=y) h F c g aH j (by rw[List.map_map];exact hy) KM (by rw[List.length_map];exact C) (by rw[List.length_map];exact f) m D E).mono (λv J ⟨A,bF,a2,a3,a4,a5⟩=>by
  refine⟨A,bF,a2,?_,?_⟩
  ·refine a3.perm (.trans (.of_eq ?_) (q v));congr 1;unfold fI;by_cases e:l= []
   ·rw[if_pos e,e];rfl
   ·rw[if_neg e,if_neg (by simpa using e),List.length_map]
  ·rw[aK];cases l with
   | nil=>obtain⟨K,G,rfl⟩:=a4 rfl;exact .as _ _ (.dQ _ _ _)
   | cons b r=>exact .as _ _ (.single _ a5)) λ_ _ h=>h.elim
def ad.aiy{t d}{b}{v}{F}[hR:jY P t (1,F)](h:o.op= .buildSlice t 1 #[(0,.tmp d)])(z:ρ d=some (jc b v)):ad P H ρ o (.ai 1 [[.val v]]):=λB I w r a m q A D C=>by
 have j:∀x∈o.op.operands,x= .tmp d:=by rw[h];simp[Op.operands]
 have E:=C (.tmp d) BE (jc b v) z;obtain⟨e,_,s⟩:=x0 E;have f:fa (.val v)=true:=s;have g:fm I w (λk=>if k=d then some (.val v) else none) a o:=λx l y c=>by
  have l:=j x l;subst l;have c:(if d=d then some (.val v) else none)=some y:=c;rw[if_pos rfl] at c;cases c;rw[e];exact .val _
 exact ad.r8 (ρ:=λk=>if k=d then some (.val v) else none) [(true,.val v)] h (by simp[jg,aN,iL,strip]) rfl rfl (by simp[f,cG]) rfl rfl rfl B I w r a m q A D g
def ad.TN{H:aA}{t d1 d2 d3:Nat}{b1 b2 b3:Bool}{v1 v2 v3:Value}[gS:hs P t ([aL,aL,aL,aL],[(0,1),(1,1),(2,1),(3,1)])](h:o.op= .build t #[(0,.tmp d1),(2,.tmp d2),(3,.tmp d3)])
  (ae:ρ d1=some (jc b1 v1)) (ao:ρ d2=some (jc b2 v2)) (aV:ρ d3=some (jc b3 v3)) (aiz:d2≠d1:=by decide) (aiA:d3≠d1:=by decide) (aiB:d3≠d2:=by decide):ad P H ρ o (.agg [.val v1,.val aL,.val v2,.val v3]):=λB I w r a m5 hw aU b6 bb=>by
 have oj:∀x∈o.op.operands,x= .tmp d1\/x= .tmp d2\/x= .tmp d3:=by rw[h];simp[Op.operands]
 obtain⟨bM,_,hO⟩:=x0 (bb (.tmp d1) BE (jc b1 v1) ae);obtain⟨bL,_,fO⟩:=x0 (bb (.tmp d2) BE (jc b2 v2) ao);obtain⟨fh,_,fi⟩:=x0 (bb (.tmp d3) BE (jc b3 v3) aV);obtain⟨rD,uL⟩:∃rD:Nat->Option ab,rD=λk=>if k=d1 then some (.val v1) else if k=d2 then some (.val v2) else if k=d3 then some (.val v3) else none:=⟨_,rfl⟩
 have gr:rD d1=some (.val v1):=by rw[uL];simp
 have cv:rD d2=some (.val v2):=by rw[uL];simp[aiz]
 have Jt:rD d3=some (.val v3):=by rw[uL];simp[aiA,aiB]
 have yY:fm I w rD a o:=λx aK y hy=>by
  rcases oj x aK with rfl | rfl | rfl
  ·have hy:rD d1=some y:=hy;rw[gr] at hy;cases hy;rw[bM];exact .val _
  ·have hy:rD d2=some y:=hy;rw[cv] at hy;cases hy;rw[bL];exact .val _
  ·have hy:rD d3=some y:=hy;rw[Jt] at hy;cases hy;rw[fh];exact .val _
 exact ad.yv (ρ:=rD) (ys:=[(true,.val v1),(true,.val v2),(true,.val v3)]) h (by simp[jg,aN,iL,strip,gr,cv,Jt]) rfl (by simp[nS,partsOf,fa,cG,hO,fO,fi];rfl) B I w r a m5 hw aU b6 yY
def TO(F D X:aA):(F++(D++([]++X))).Perm (D++(F++X)):=by classical exact List.perm_iff_count.2 λx=>by simp only[List.count_append,List.count_nil];omega
def TP(F D A X:aA):(F++(D++(A++([]++X)))).Perm (D++(A++(F++X))):=by classical exact List.perm_iff_count.2 λx=>by simp only[List.count_append,List.count_nil];omega
def TQ(F D A B X:aA):(F++(D++(A++(B++([]++X))))).Perm (D++(A++(B++(F++X)))):=by classical exact List.perm_iff_count.2 λx=>by simp only[List.count_append,List.count_nil];omega
def aiC(F:aA)(O E:bn)(X:aA):(F++(O::(E::([]++X)))).Perm (O::(E::(F++X))):=by classical exact List.perm_iff_count.2 λx=>by simp only[List.count_append,List.count_cons,List.count_nil];omega
def aiD{t:cI}(K:(bw p).isSome)(h:bf p t)(H:aA):bO prog 111 [ab.dx t] H (λy H'=>∃q:gx,y= .agg [.val q.de,.ai 1 (q.vs.map λv=>[ab.val v]),.val q.cY,.val q.cS]/\H'=ih q t++H/\jd p q) (λ_ _=>False):=by
 refine aM (n:=38) func111 λB I bW=>?_;have a3:=ki K;have bF:=h.ho;have a0:=h.pl;have Y:=h.nl;have Z:=h.ai;have V:=DQ K;have P:p.nodes.length<=120:=by
  obtain⟨o,bb⟩:=Option.isSome_iff_exists.1 K;exact (sb bb).2
 refine aF ?_;refine bK (λcV=>?_);refine aF ?_;refine aB.cw mixed ?_;refine b0.r5 (X:=n2) [⟨3,8,false⟩,⟨7,12,false⟩,⟨11,16,false⟩,⟨12,17,false⟩,⟨13,3,false⟩] (λJ=>(match J with | [_,_,_,_,some d]=>[bn.au (w2 d) 31 [.val aL,.val aL,.val aL,.val aL]] | _=>[])++((match J with | some a::_=>fI a t.bz | _=>[])++((match J with | [_,some b,_,_,_]=>c6 b t.nodes | _=>[])++((match J with | [_,_,some c,_,_]=>c6 c t.av | _=>[])++(.au cV 31 [.val aL,.val aL,.val aL,.val aL]::H))))) (λj J=>match j,J with | 0,some a::_=>jc t.bz.isEmpty a | 1,[_,some b,_,_,_]=>jc t.nodes.isEmpty b | 2,[_,_,some c,_,_]=>jc t.av.isEmpty c | 3,[some a,some b,some c,some _,_]=>.agg [.val a,.val aL,.val b,.val c] | 4,[_,_,_,_,some d]=>.p (w2 d) 0 | _,_=>.any) 0 14 38 rfl aq aq rfl rfl aq rfl (λ_ _ _ _ _ _ _ _ _ h=>h.elim) ?_;refine cj [[false,false,false,false,true],[false,false,false,false,false]] ⟨λf=>ad.lN rfl,λf=>ad.lN rfl,trivial⟩ ?_;refine cj [[false,false,false,false,true],[false,false,false,false,false]] ⟨λf=>b5,λf=>b5,trivial⟩ ?_;refine cj [[false,false,false,false,true],[false,false,false,false,false]] ⟨λf=>cJ,λf=>cJ,trivial⟩ ?_;refine cH.j4 0 [[false,false,false,false,true],[false,false,false,false,false]] rfl rfl rfl aq rfl rfl rfl ⟨λf=>⟨ed.TM t.bz rfl rfl rfl (an.refl _) rfl rfl (an.refl _) aa aa (λv=>TO _ _ _) (λ_=>rfl),hI⟩,λf=>⟨ed.TM t.bz rfl rfl rfl (an.refl _) rfl rfl (an.refl _) aa aa (λv=>TO _ _ _) (λ_=>rfl),hI⟩,trivial⟩ ?_;refine cj [[true,false,false,false,true],[true,false,false,false,false],[false,false,false,false,true],[false,false,false,false,false]] ⟨λf=>ad.lN rfl,λf=>ad.lN rfl,λf=>ad.lN rfl,λf=>ad.lN rfl,trivial⟩ ?_;refine cj [[true,false,false,false,true],[true,false,false,false,false],[false,false,false,false,true],[false,false,false,false,false]] ⟨λf=>b5,λf=>b5,λf=>b5,λf=>b5,trivial⟩ ?_;refine cj [[true,false,false,false,true],[true,false,false,false,false],[false,false,false,false,true],[false,false,false,false,false]] ⟨λf=>cJ,λf=>cJ,λf=>cJ,λf=>cJ,trivial⟩ ?_;refine cH.j4 1 [[true,false,false,false,true],[true,false,false,false,false]] rfl rfl rfl aq rfl rfl rfl ⟨λf=>⟨ed.A4 t.nodes rfl rfl rfl (an.refl _) rfl rfl (an.refl _) aa aa (λv=>TP _ _ _ _) (λ_=>rfl),hI⟩,λf=>⟨ed.A4 t.nodes rfl rfl rfl (an.refl _) rfl rfl (an.refl _) aa aa (λv=>TP _ _ _ _) (λ_=>rfl),hI⟩,trivial⟩ ?_;refine cj [[true,true,false,false,true],[true,true,false,false,false],[true,false,false,false,true],[true,false,false,false,false],[false,false,false,false,true],[false,false,false,false,false]] ⟨λf=>ad.lN rfl,λf=>ad.lN rfl,λf=>ad.lN rfl,λf=>ad.lN rfl,λf=>ad.lN rfl,λf=>ad.lN rfl,trivial⟩ ?_;refine cj [[true,true,false,false,true],[true,true,false,false,false],[true,false,false,false,true],[true,false,false,false,false],[false,false,false,false,true],[false,false,false,false,false]] ⟨λf=>b5,λf=>b5,λf=>b5,λf=>b5,λf=>b5,λf=>b5,trivial⟩ ?_;refine cj [[true,true,false,false,true],[true,true,false,false,false],[true,false,false,false,true],[true,false,false,false,false],[false,false,false,false,true],[false,false,false,false,false]] ⟨λf=>cJ,λf=>cJ,λf=>cJ,λf=>cJ,λf=>cJ,λf=>cJ,trivial⟩ ?_;refine cH.j4 2 [[true,true,false,false,true],[true,true,false,false,false]] rfl rfl rfl aq rfl rfl rfl ⟨λf=>⟨ed.A4 t.av rfl rfl rfl (an.refl _) rfl rfl (an.refl _) aa aa (λv=>TQ _ _ _ _ _) (λ_=>rfl),hI⟩,λf=>⟨ed.A4 t.av rfl rfl rfl (an.refl _) rfl rfl (an.refl _) aa aa (λv=>TQ _ _ _ _ _) (λ_=>rfl),hI⟩,trivial⟩ ?_;refine cH.j4 3 [[true,true,true,false,true],[true,true,true,false,false]] rfl rfl rfl aq rfl rfl rfl ⟨λf=>⟨ed.pop (ad.TN (d1:=8) (d2:=12) (d3:=16) (b1:=t.bz.isEmpty) (v1:=f 8) (b2:=t.nodes.isEmpty) (v2:=f 12) (b3:=t.av.isEmpty) (v3:=f 16) rfl rfl rfl rfl) (λ_=>rfl) (λ_=>rfl),hI⟩,λf=>⟨ed.pop (ad.TN (d1:=8) (d2:=12) (d3:=16) (b1:=t.bz.isEmpty) (v1:=f 8) (b2:=t.nodes.isEmpty) (v2:=f 12) (b3:=t.av.isEmpty) (v3:=f 16) rfl rfl rfl rfl) (λ_=>rfl) (λ_=>rfl),hI⟩,trivial⟩ ?_;refine cH.j4 4 [[true,true,true,true,false],[true,true,true,false,false],[true,true,false,false,false],[true,false,false,false,false],[false,false,false,false,false]] rfl rfl rfl aq rfl rfl rfl ⟨λf=>⟨ed.rP rfl (λv=>rfl) (λv=>rfl),hI⟩,λf=>⟨ed.rP rfl (λv=>rfl) (λv=>rfl),hI⟩,λf=>⟨ed.rP rfl (λv=>rfl) (λv=>rfl),hI⟩,λf=>⟨ed.rP rfl (λv=>rfl) (λv=>rfl),hI⟩,λf=>⟨ed.rP rfl (λv=>rfl) (λv=>rfl),hI⟩,trivial⟩ ?_;refine cH.nil (λf=>?_);simp only[kD,List.map_cons,List.map_nil,List.cons_append,List.nil_append];generalize w2 (f 3)=dF;refine aR ?_;generalize f 8=de;generalize f 12=cY;generalize f 16=cS;refine aj.dr (d:=8) (b:=t.bz.isEmpty) (v:=de) rfl (λrj F=>?_);refine aj.dr (d:=12) (b:=t.nodes.isEmpty) (v:=cY) rfl (λag3 M=>?_);refine aj.dr (d:=16) (b:=t.av.isEmpty) (v:=cS) rfl (λp8 E=>?_);apply aj.fZ rfl rfl rfl rfl rfl rfl rfl (by simp only[fa,F,M,E,show (Value.slice none 0 0).oneCell'=true from rfl]) (by simp[dB,cG,fa,F,M,E,show (Value.slice none 0 0).oneCell'=true from rfl]) rfl
 (case hu=>repeat (first | exact bG.head _ _ _ | apply bG.tail));(case hfit=>rfl);(case hds=>rfl)
 refine ba ?_;refine aB.pJ (b:=dF) (t:=31) 23 1 1 df rfl rfl ?_;refine bo (λz st=>∃(i:Nat) (vs:dg) (v1:Value),st=⟨[(4,.i i),(3,.p dF 0),(2,.p cV 0),(1,.ptr (ns t))],.own 23 1 v1::.au dF 31 [.val de,.as (.ai 1 (vs.map λv=>[ab.val v])) v1,.val cY,.val cS]::(fI de t.bz++(c6 cY t.nodes++(c6 cS t.av++(iv vs (t.params.take i)++(.au cV 31 [.val aL,.val aL,.val aL,.val aL]::H)))))⟩/\z=t.params.length - i/\i<=t.params.length/\vs.length=i/\∀v∈vs,v.oneCell'=true) (⟨0,[],_,rfl,rfl,aa,rfl,λv bd=>by cases bd⟩) ?_;rintro z _ ⟨i,vs,v1,rfl,rfl,aQ,Q,C⟩;refine bY ?_;refine az (λaf=>?_) λaf=>?_
 ·have B:i<t.params.length:=by omega
  obtain⟨L,R⟩:∃L,L=t.params.getD i default:=⟨_,rfl⟩;have a2:L.length<=10:=by
   rw[R,AY h aa];have:=Ka K (i:=i) aa;omega
  refine aY ?_;refine aB.cw mixed ?_;refine b0.r5 (X:=n2) [⟨8,33,false⟩,⟨9,34,false⟩] (λJ=>.own 23 1 v1::(.au dF 31 [.val de,.as (.ai 1 (vs.map λv=>[ab.val v])) v1,.val cY,.val cS]::((match J with | some v::_=>c6 v L | _=>[])++(fI de t.bz++(c6 cY t.nodes++(c6 cS t.av++(iv vs (t.params.take i)++(.au cV 31 [.val aL,.val aL,.val aL,.val aL]::H)))))))) (λj J=>match j,J with | 0,some v::_=>jc L.isEmpty v | 1,[some v,_]=>.ai 1 [[.val v]] | _,_=>.any) 0 10 38 rfl aq aq rfl rfl aq rfl (λ_ _ _ _ _ _ _ _ _ h=>h.elim) ?_;refine cj [[true,true],[true,false],[false,false]] ⟨λf=>b5,λf=>b5,λf=>b5,trivial⟩ ?_;refine cj [[true,true],[true,false],[false,false]] ⟨λf=>cJ,λf=>cJ,λf=>cJ,trivial⟩ ?_;refine cj [[false,false]] ⟨λf=>ad.lN rfl,trivial⟩ ?_;refine cj [[false,false]] ⟨λf=>b5,trivial⟩ ?_;refine cj [[false,false]] ⟨λf=>cJ,trivial⟩ ?_;refine cj [[false,false]] ⟨λf=>ad.move rfl rfl rfl,trivial⟩ ?_;refine cj [[false,false]] ⟨λf=>(by first | exact ad.fC rfl rfl rfl rfl rfl B | exact ad.ep rfl rfl rfl rfl rfl B),trivial⟩ ?_;refine cj [[false,false]] ⟨λf=>ad.le (ad.cF rfl rfl rfl rfl) (by rw[<-R];exact an.refl _),trivial⟩ ?_;refine cH.j4 0 [[false,false]] rfl rfl rfl aq rfl rfl rfl ⟨λf=>⟨ed.A4 L rfl rfl rfl (an.refl _) rfl rfl (an.refl _) aa aa (λv=>aiC _ _ _ _) (λ_=>rfl),hI⟩,trivial⟩ ?_;refine cH.j4 1 [[true,false]] rfl rfl rfl aq rfl rfl rfl ⟨λf=>⟨ed.pop (ad.aiy (d:=33) (b:=L.isEmpty) (v:=f 33) rfl rfl) (λ_=>rfl) (λ_=>rfl),hI⟩,trivial⟩ ?_;refine cH.nil (λf=>?_);simp only[kD,List.map_cons,List.map_nil,List.cons_append,List.nil_append];refine aR ?_;generalize f 33=v;refine aj.dr (d:=33) (b:=L.isEmpty) (v:=v) rfl (λak4 U=>?_);refine aj.dJ rfl rfl rfl rfl rfl rfl rfl rfl (an.refl _) (xI (vs:=[v]) (by intro u hu;simp at hu;rw[hu];exact U)) (λ_=>df) cB cB (λoC=>?_);refine aT ?_;have G:=c2 B;rw[<-R] at G;have O:iv (vs++[v]) (t.params.take (i+1))=iv vs (t.params.take i)++c6 v L:=by
   rw[<-G,S7 yi]
  have S:(vs++[v]).map (λv=>[ab.val v])=vs.map (λv=>[ab.val v])++[[.val v]]:=by rw[List.map_append];rfl
  refine aB.perm (H':=.own 23 1 oC::.au dF 31 [.val de,.as (.ai 1 ((vs++[v]).map λv=>[ab.val v])) oC,.val cY,.val cS]::(fI de t.bz++(c6 cY t.nodes++(c6 cS t.av++(iv (vs++[v]) (t.params.take (i+1))++(.au cV 31 [.val aL,.val aL,.val aL,.val aL]::H)))))) (by rw[O,S];exact (show (.own 23 1 oC::.au dF 31 [.val de,.as (.ai 1 (vs.map (λv=>[ab.val v])++[[.val v]])) oC,.val cY,.val cS]::(c6 v L++(fI de t.bz++(c6 cY t.nodes++(c6 cS t.av++(iv vs (t.params.take i)++(.au cV 31 [.val aL,.val aL,.val aL,.val aL]::H)))))):aA).Perm _ from by classical exact List.perm_iff_count.2 λx=>by simp only[List.count_append,List.count_cons,List.count_nil,List.cons_append,List.nil_append];omega)) ?_;refine aT ?_;exact aW (⟨i+1,vs++[v],oC,rfl,rfl,B,by simp[Q],λu hu=>(List.mem_append.1 hu).elim (C u) (λh=>by simp at h;rw[h];exact U)⟩)
 ·obtain rfl:i=t.params.length:=by omega
  rw[List.take_length];refine ax ?_;refine aB.Cu (.tail _ _ _ _ _ (.head _ _ _)) (.cons (.refl _) (.cons (an.e2 _ _) (.cons (.refl _) (.cons (.refl _) .nil)))) ?_;refine aB.perm (H':=.au cV 31 [.val aL,.val aL,.val aL,.val aL]::.own 23 1 v1::.au dF 31 [.val de,.ai 1 (vs.map λv=>[ab.val v]),.val cY,.val cS]::(ih ⟨0,de,vs,cY,cS,0,0,[]⟩ t++H)) (show _ from by classical exact List.perm_iff_count.2 λx=>by simp only[List.count_append,List.count_cons,List.count_nil,List.cons_append,List.nil_append,ih];omega) ?_;refine aO ?_;apply aj.fZ rfl rfl rfl rfl rfl rfl rfl (by simp[fa,F,M,E,C])  (by simp[dB,cG,fa,F,M,E,C]) rfl
  (case hu=>repeat (first | exact bG.head _ _ _ | apply bG.tail));(case hfit=>rfl);(case hds=>rfl)
  refine aF ?_;refine dL [.cell 2 31] (ih ⟨0,de,vs,cY,cS,0,0,[]⟩ t++H) ?_;exact⟨⟨0,de,vs,cY,cS,0,0,[]⟩,rfl,rfl,⟨K,by show vs.length=_;omega,λaf=>rj (List.isEmpty_iff.2 (List.eq_nil_of_length_eq_zero aa)),λaf=>p8 (List.isEmpty_iff.2 (List.eq_nil_of_length_eq_zero aa)),F,C,M,E⟩⟩
def jd.at{q}(h:jd p q)(b):jd p {q with bx:=b}:=⟨h.aH,h.oH,h.rj,h.p8,h.rk,h.sz,h.ow,h.mT⟩
def aiE{t}(O:p.Small)(j:(bw p).isSome)(h:bf p t)(Q:vY p A)(H):bO prog 73 [ab.prog p,ab.dx t,ab.gg A] H (λy H'=>∃q:gx,y= .agg [.val q.de,.ai 1 (q.vs.map λv=>[.val v]),.val q.cY,.val q.cS]/\H'=cR p A q (ft p (bh p) t) H/\jd p q) (λ_ _=>False):=by
 refine aM func73 λB I bW=>?_;have a3:=ki j;have o:∀i,i<=p.methods.length->bf p ((List.range i).foldl (kL p (bh p)) ⟨t,false⟩).t:=λi J=>J0 j (bh p) (g:=⟨t,false⟩) h J;refine aY ?_;refine bK (λcV=>?_);refine aF ?_;refine .cw mixed ?_;refine .MC (λJY r=>∃q:gx,JY= .agg [.val q.de,.ai 1 (q.vs.map λv=>[.val v]),.val q.cY,.val q.cS]/\r=ih q t++(.au cV 31 [.val aL,.val aL,.val aL,.val aL]::H)/\jd p q) 11 2 0 4 57 rfl aq aq rfl rfl aq ?_;refine bj.ly aq rfl rfl rfl rfl (λy r x=>nK) (λaf=>nK) ?_;refine bj.ly aq rfl rfl rfl rfl (λy r x=>nK) (λaf=>nK) ?_;refine bj.MD aq aq rfl rfl rfl .k (λB=>(aiD j h _).b) ?_;refine bj.ly aq rfl rfl rfl rfl (λy r x=>.move rfl rfl rfl) (λaf=>.move rfl rfl rfl) ?_;refine bj.nil λy r x=>?_;obtain⟨m,rfl,rfl,E⟩:=x;refine aO ?_;refine .qD rfl rfl rfl rfl rfl rfl rfl λcP=>?_;refine aT ?_;obtain⟨q,c⟩:∃q:gx,q={m with bx:=cP}:=iO;have a1:jd p q:=by rw[c];exact E.at cP
 have K:cP=q.bx:=by rw[c]
 have Z:m.de=q.de:=by rw[c]
 have Kd:m.vs=q.vs:=by rw[c]
 have X:m.cY=q.cY:=by rw[c]
 have U:m.cS=q.cS:=by rw[c]
 have C:ih m t=ih q t:=by rw[c];rfl
 clear c;subst K;rw[C];simp[Z,Kd,X,U];refine aT ?_;refine bo (λz T=>∃i:Nat,T=⟨[(8,.i i),(7,.p q.bx 0),(6,.p cV 0),(3,.ptr (cM p))],cR p A q ((List.range i).foldl (kL p (bh p)) ⟨t,false⟩) (.au cV 31 [.val aL,.val aL,.val aL,.val aL]::H)⟩/\z=p.methods.length - i/\i<=p.methods.length) tp ?_;rintro z _ ⟨i,rfl,rfl,J⟩;refine bY ?_;refine az (λaf=>?_) λaf=>?_
 ·have bT:i<p.methods.length:=by omega
  obtain⟨G,s⟩:∃G,G=((List.range i).foldl (kL p (bh p)) ⟨t,false⟩):=iO;have a:=o i J;rw[<-s] at a;have l:=lD (f:=kL p (bh p)) i ⟨t,false⟩;rw[<-s] at l;rw[<-s];have a2:=a.ho;have a0:=a.pl;obtain⟨B,D,L,W⟩:=AW j (bh p) a bT;have w:=tW j a bT;have P:=AY a bT;have bF:=Ka j bT;refine bR ?_;refine ag (.dX rfl rfl rfl rfl rfl (vX (i:=i) aa) lz) ?_;refine ag (ad.gk rfl rfl rfl (vX (i:=i) aa) (xZ aa)) ?_;refine aO ?_;refine bc (λae=>?_) (λae=>?_)
  ·have F:G.t.bz.getD i default=true:=ae;refine bP 18 57 ?_;refine c4 ?_;refine bg (wb) ?_;refine aR ?_;refine bg (ad.eq (ad.MM rfl rfl rfl (an.refl _) rfl rfl (qj (k:=i) (i:=0) aa aa) aS (by simpa using w) (S2 _) aa aa) (by rw[S3])) ?_;refine aF ?_;refine cE .k ((Kc O a1 Q (.inr ⟨i,rfl,bT⟩) 13 B D L a).b) ?_;rintro _ _ ⟨rfl,rfl⟩;refine aI ?_;exact aW (⟨i+1,by rw[l,kL,if_pos F],rfl,bT⟩)
  ·have F:G.t.bz.getD i default=false:=ae;refine aI ?_;exact aW (⟨i+1,by rw[l,kL,if_neg (by rw[F];decide)],rfl,bT⟩)
 ·obtain rfl:i=p.methods.length:=by omega
  have s:=o _ (Nat.le_refl _);refine bY ?_;refine cE ((gD.mk' rfl rfl rfl rfl rfl).le (.cons (.refl _) (.cons (.refl _) (.cons (an.nil 1) (.cons (.refl _) .nil))))) ((Kc O a1 Q (.inl c8) 13 (tR j).2.1 (env:=[]) c8 (λk Y=>by cases Y) s).b) ?_;rintro _ _ ⟨rfl,rfl⟩;refine aF ?_;refine aB.perm (H':=.au cV 31 [.val aL,.val aL,.val aL,.val aL]::cR p A q (ft p (bh p) t) H) (List.perm_middle (l₁:=lg p q A::ih q (ft p (bh p) t).t)) ?_;refine aT ?_;apply aj.fZ rfl rfl rfl rfl rfl rfl rfl (by simp[fa,a1.rk,a1.sz,a1.ow,a1.mT]) (by simp[dB,cG,fa,a1.rk,a1.sz,a1.ow,a1.mT]) rfl
  (case hu=>repeat (first | exact bG.head _ _ _ | apply bG.tail));(case hfit=>rfl);(case hds=>rfl)
  refine aF ?_;refine aZ.cg (rs:=[.cell 6 31]) (H':=cR p A q (ft p (bh p) t) H) rfl (sQ) (c0.refl _) (by exact List.sublist_cons_self _ _) ?_;exact⟨q,rfl,rfl,a1⟩
def aiF{t}(m:p.Small)(f:(bw p).isSome)(h:bf p t)(l:vY p A):aG prog 73 [ab.prog p,ab.dx t,ab.gg A] (ab.dx (ft p (bh p) t).t):=λH=>by
 refine bO.pO (aiE m f h l H) ?_;rintro _ _ ⟨q,rfl,rfl,o⟩ B I w v g r s;obtain⟨J,C,c,j,z⟩:=a7.front (F:=lg p q A::ih q (ft p (bh p) t).t) g r;refine⟨J,_,H,C,c,j,Tv (A:=A) o (Es f (bh p) h) c.keeps (λt v x a=>z t v x ?_) s,rfl,rfl⟩;have a:_∈lg p q A::(ih q _++[]):=a;rwa [List.append_nil] at a
def aiG(i):ab.ints ((List.range (i+1)).map λn:Nat=>(n:Int))= .ai 1 (((List.range i).map λn:Nat=>(n:Int)).map (λn=>[.i n])++[[.i (i:Int)]]):=by
 show ab.ai 1 (List.map _ _)=_;rw[List.range_succ,List.map_append,List.map_append];rfl
def ql(p:Prog)(m n:Nat):Bool:=(cA p m).gen==(cA p n).gen && (cA p m).kind==(cA p n).kind
def aiH(a b):(bif a then b else false)=(a && b):=by cases a <;> rfl
def aiI(f:(bw p).isSome):aG prog 75 [ab.prog p] (.ints ((List.range p.methods.length).map λn:Nat=>(n:Int))):=by
 intro H;refine aM func75 λB I j=>?_;have g:=ki f;refine jI ?_;refine hh 3 3 1 ?_;refine bo (λz c=>∃(i:Nat) (v:Value),c=⟨[(4,.i i),(3,.as (.ints ((List.range i).map λn:Nat=>(n:Int))) v),(1,.ptr (cM p))],.own 3 1 v::H⟩/\z=p.methods.length - i/\i<=p.methods.length) (⟨0,_,rfl,rfl,aa⟩) ?_;rintro z _ ⟨i,v,rfl,rfl,l⟩;refine bY ?_;refine az (λaf=>?_) λaf=>?_
 ·have a:i<p.methods.length:=by omega
  refine aP ?_;refine .cn (x:=.ai 1 [[.i (i:Int)]]) rfl rfl rfl h7 ?_;refine aj.dJ rfl rfl rfl rfl rfl rfl rfl rfl (an.refl _) (rfl) (λ_=>df) cB cB (λaiJ=>?_);refine ba ?_;exact aW (⟨i+1,aiJ,by rw[aiG],rfl,a⟩)
 ·obtain rfl:i=p.methods.length:=by omega
  refine bR ?_;refine aZ.cg (rs:=[.tmp 2]) (H':=H) rfl (.tmp rfl (.nil)) (.cons (an.e2 _ _) .nil) bC ?_;exact⟨cO,rfl⟩
def aiK{m n}(hm:m<p.methods.length)(hn:n<p.methods.length):aG prog 113 [ab.prog p,.i m,.i n] (.b (ql p m n)):=by
 intro H;refine aM func113 λB I a=>?_;refine aP ?_;refine bP 12 35 ?_;refine oX ?_;refine .dG 14 26 35 rfl aq rfl rfl aq ?_;refine jj ?_;refine aC 6 H ?_;exact⟨bq (aiH _ _),rfl⟩
def Ke[Inhabited α][DecidableEq α]{a b:List α}{i}(h:a.getD i default≠b.getD i default):decide (a=b)=false:=by
 rw[decide_eq_false_iff_not];intro e;rw[e] at h;exact h rfl
def Kf[DecidableEq α]{a b:List α}(h:a.length≠b.length):decide (a=b)=false:=by
 rw[decide_eq_false_iff_not];intro e;rw[e] at h;exact h rfl
def Kg[Inhabited α]{a b:List α}{i}(h:i<a.length)(j:a.length=b.length)(ht:a.take i=b.take i)(g:a.getD i default=b.getD i default):a.take (i+1)=b.take (i+1):=by
 rw[<-c2 h, <-c2 (by omega:i<b.length),ht,g]
def Kh[DecidableEq α]{a b:List α}(f:a.length=b.length)(ht:a.take a.length=b.take a.length):decide (a=b)=true:=by
 rw[List.take_length] at ht;rw[f,List.take_length] at ht;exact decide_eq_true ht
def TR(a b):aG prog 13 [ab.du a,ab.du b] (.b (decide (a=b))):=by
 intro H;refine aM func13 λB I o=>?_;refine .eG (t:=0) rfl λgV=>?_;refine ba ?_;refine ag xa ?_;refine aR ?_;refine ag xa ?_;refine aF ?_;refine az (λaf=>?_) λaf=>?_
 ·have g:a.length≠b.length:=by omega
  refine aP ?_;refine aC 4 H ?_;exact⟨bq (Kf g).symm,rfl⟩
 ·have h:a.length=b.length:=by omega
  refine ba ?_;refine bo (λz l=>∃i:Nat,l=⟨[(5,.i i),(0,ab.du a),(1,ab.du b)],H⟩/\z=a.length - i/\i<=a.length/\a.take i=b.take i) iA ?_;rintro z _ ⟨i,rfl,rfl,q,j⟩;refine ba ?_;refine az (λae=>?_) λae=>?_
  ·have c:i<a.length:=by omega
   refine aT ?_;refine bP 8 26 ?_;refine dk ?_;refine bc (λao=>?_) λao=>?_
   ·have f:a.getD i default≠b.getD i default:=by simpa using ao
    refine bE ?_;refine aC 4 H ?_;exact⟨bq (Ke f).symm,rfl⟩
   ·have f:a.getD i default=b.getD i default:=by simpa using ao
    refine aI ?_;exact aW ⟨i+1,rfl,rfl,c,Kg c h j f⟩
  ·obtain rfl:i=a.length:=by omega
   refine bE ?_;refine aC 4 H ?_;exact⟨bq (Kh h j).symm,rfl⟩
def EB(a b):aG prog 29 [.ints a,.ints b] (.b (decide (a=b))):=by
 intro H;refine aM func29 λB I o=>?_;refine .eG (t:=0) rfl λgV=>?_;refine ba ?_;refine ag xa ?_;refine aR ?_;refine ag xa ?_;refine aF ?_;refine az (λaf=>?_) λaf=>?_
 ·have g:a.length≠b.length:=by omega
  refine aP ?_;refine aC 4 H ?_;exact⟨bq (Kf g).symm,rfl⟩
 ·have h:a.length=b.length:=by omega
  refine bE ?_;refine bo (λz l=>∃i:Nat,l=⟨[(13,.i i),(12,.i a.length),(11,.ints a),(0,.ints a),(1,.ints b)],H⟩/\z=a.length - i/\i<=a.length/\a.take i=b.take i) iA ?_;rintro z _ ⟨i,rfl,rfl,q,j⟩;refine ax ?_;refine az (λae=>?_) λae=>?_
  ·have c:i<a.length:=by omega
   refine bE ?_;refine bP 8 26 ?_;refine dk ?_;refine bc (λao=>?_) λao=>?_
   ·have f:a.getD i default≠b.getD i default:=by simpa using ao
    refine bE ?_;refine aC 4 H ?_;exact⟨bq (Ke f).symm,rfl⟩
   ·have f:a.getD i default=b.getD i default:=by simpa using ao
    refine aP ?_;exact aW ⟨i+1,rfl,rfl,c,Kg c h j f⟩
  ·obtain rfl:i=a.length:=by omega
   refine bE ?_;refine aC 4 H ?_;exact⟨bq (Kh h j).symm,rfl⟩
def TS(a b):aG prog 30 [.bm a,.bm b] (.b (decide (a=b))):=by
 intro H;refine aM func30 λB I o=>?_;refine .eG (t:=0) rfl λgV=>?_;refine ba ?_;refine ag xa ?_;refine aR ?_;refine ag xa ?_;refine aF ?_;refine az (λaf=>?_) λaf=>?_
 ·have g:a.length≠b.length:=by omega
  refine aP ?_;refine aC 4 H ?_;exact⟨bq (Kf g).symm,rfl⟩
 ·have h:a.length=b.length:=by omega
  refine ba ?_;refine bo (λz l=>∃i:Nat,l=⟨[(5,.i i),(0,.bm a),(1,.bm b)],H⟩/\z=a.length - i/\i<=a.length/\a.take i=b.take i) iA ?_;rintro z _ ⟨i,rfl,rfl,q,j⟩;refine ba ?_;refine az (λae=>?_) λae=>?_
  ·have c:i<a.length:=by omega
   refine aT ?_;refine bP 8 27 ?_;refine bY ?_;refine ag (.call .k (EB _ _)) ?_;refine aF ?_;refine bc (λao=>?_) λao=>?_
   ·have f:a.getD i default≠b.getD i default:=by simpa using ao
    refine bE ?_;refine aC 4 H ?_;exact⟨bq (Ke f).symm,rfl⟩
   ·have f:a.getD i default=b.getD i default:=by simpa using ao
    refine aI ?_;exact aW ⟨i+1,rfl,rfl,c,Kg c h j f⟩
  ·obtain rfl:i=a.length:=by omega
   refine bE ?_;refine aC 4 H ?_;exact⟨bq (Kh h j).symm,rfl⟩
def A5(a b:cI):Bool:=decide (a.bz=b.bz) && decide (a.params=b.params) && decide (a.nodes=b.nodes) && decide (a.av=b.av)
def EC{a b}:A5 a b=true↔a=b:=by
 cases a;cases b;simp[A5,and_assoc]
def Ki(a b):aG prog 16 [ab.dx a,ab.dx b] (.b (A5 a b)):=by
 intro H;refine aM func16 λB I c=>?_;refine dk ?_;refine ag (.call .k (TR _ _)) ?_;refine aT ?_;refine aj.db rfl rfl rfl rfl rfl rfl (λaw=>.call (.mk' rfl rfl rfl rfl c9) (TS _ _)) ?_;refine ax ?_;refine aj.db rfl rfl rfl rfl rfl rfl (λaw=>.call (.mk' rfl rfl rfl rfl c9) (EB _ _)) ?_;refine ax ?_;refine aj.db rfl rfl rfl rfl rfl rfl (λaw=>.call (.mk' rfl rfl rfl rfl c9) (EB _ _)) ?_;refine aT ?_;refine aC 4 H ?_;exact⟨bq (by unfold A5;cases decide (a.bz=b.bz) <;> cases decide (a.params=b.params) <;> cases decide (a.nodes=b.nodes) <;> rfl),rfl⟩
end Go.Proofs.YtodccgailpkgeaaGreat

