/- A part of the proof. No condition. -/
import Derived.Test.YtodccgailpkgeaaGreatKindClosesP24
set_option linter.defProp false
set_option maxHeartbeats 1000000
set_option linter.unusedVariables false
set_option linter.unusedSimpArgs false
set_option maxRecDepth 10000
namespace Go.Proofs.YtodccgailpkgeaaGreat
open Go.Proofs.Tryz
open Go.Eng
open Go.Eng.Fc
open Go.Eng.dO
variable{X:nx}{P:Program}{H:aC}{ρ:Nat->Option ab}{o:Oper}{t iW tx gW:Nat}{H':Value->aC}{x:Value->ab}{p:Prog}{y lE:ab}{A:List cY}{s z:Operand}{g1 g2:Bool}{α:Type}
def ee.lW{t e k l}[G:fi P t (e,k,l)](h:o.op= .buildSlice t 0 #[])(D:∀v,H' v= .own e k v::H)(F:∀v,x v= .as (.aj k []) v):ee X P H H' x ρ o:=λB I w r a c s A=>by
 obtain⟨i,z,K,E,N,O,J,L,M⟩:=oX G.h;have uu:(Instr.buildSlice t 0 #[]).run P w= .ok (.slice (some ⟨w.heap.size,0,none⟩) 0 0) (w.alloc (.cells #[] e)):=by
  simp[Instr.buildSlice,run_underlying K,sizeOf,typeInfo,E,Instr.fill,newRow,show Array.range 0= #[] from by decide+kernel]
 have m:=s.alloc c (.cells #[] e);have j:(w.alloc (.cells #[] e)).ownsRow B e k (.slice (some ⟨w.heap.size,0,none⟩) 0 0) 0 []:=⟨aT,.inr ⟨w.heap.size,0,#[],rfl,c.base,heap_alloc_new w _,Nat.le_refl _,by simp[maxLen],aT,aT⟩⟩;refine .e4 ck (v:=.slice (some ⟨w.heap.size,0,none⟩) 0 0) (w':=w.alloc (.cells #[] e)) yt ⟨I,c.alloc _,jJ c _,?_,?_⟩
 ·rw[D];refine⟨λf g=>?_,List.pairwise_cons.2 ⟨λf g b q e=>?_,m.apart⟩⟩
  ·rcases List.mem_cons.1 g with rfl | g
   ·refine⟨0,[],j,λg C o _ A=>?_⟩;simp[Value.ownBlock] at C;subst C;exact absurd (c.lt A) Ni
   ·exact m.ok f g
  ·simp[br.dY,Value.ownBlock] at q;subst q;exact absurd (br.lX (s.ok f g) e).2 (Nat.lt_irrefl _)
 ·rw[F];exact .as _ _ (.dQ _ _ _)
theorem Ua{p}{c}(i x):∀(L:al) (g:GT),L.foldl (GT.begin p c) (g.bX i x)=(L.foldl (GT.begin p c) g).bX i x
 | [],g=>rfl
 | s::r,g=>by
  rw[List.foldl_cons,List.foldl_cons, <-Ua i x r];congr 1;show GT.mk _ _=GT.mk _ _;congr 1;exact Bool.or_right_comm _ _ _
def ai3(g:GT)(i x j y):(g.bX i x).eN j y=(g.eN j y).bX i x:=by
 show GT.mk _ _=GT.mk _ _;congr 1;exact Bool.or_right_comm _ _ _
def Bb{g:GT}(h:bf p g.t)(i):g.bX i 0=g:=by
 have e:pr (g.t.nodes.getD i default) 0=g.t.nodes.getD i default:=by
  unfold pr;rw[Nat.or_zero];by_cases c:i<g.t.nodes.length
  ·exact (hW.1 (h.nb _ (bH c))).1.symm
  ·rw[List.getD_eq_getElem?_getD,List.getElem?_eq_none aa];rfl
 have a:kU g.t.nodes i 0=false:=by unfold kU;rw[e];simp
 have f:=Rw a;unfold GT.bX;rw[a,f,Bool.or_false]
section
variable{p:Prog}{ah:Nat->Nat->Bool}{y:gR}{n:Nat}{env:al}{m:Int}{cO:al}{g:GT}
def ai4(h:y.op=1\/(12<=y.op/\y.op<=16)):eI p ah y n env m cO g=g.bX n 2:=if_pos h
def ai5(h:y.op=2):eI p ah y n env m cO g=g.bX n 4:=by simp[eI,h]
def ai6(h:y.op=3):eI p ah y n env m cO g=g.bX n (env.getD y.n.toNat default).toNat:=by simp[eI,h]
def Ub(h:y.op=4):eI p ah y n env m cO g=if sF p (dD cO 0) y.n then g.bX n (g.t.aw.getD y.n.toNat default).toNat else g:=by simp[eI,h]
def ai7(h:y.op=5):eI p ah y n env m cO g=sH p n y.n cO g:=by simp[eI,h]
def ai8(h:y.op=6):eI p ah y n env m cO g=vE p n y.n.toNat g:=by simp[eI,h]
def Uc(h:y.op=7):eI p ah y n env m cO g=tX p n y.n (dD cO 0) (dD cO 1) g:=by simp[eI,h]
def ai9(h:y.op=8):eI p ah y n env m cO g=ps p n y.n.toNat (dD cO 0) g:=by simp[eI,h]
def aja(h:y.op=9\/y.op=11):eI p ah y n env m cO g=g.bX n (dD cO 1):=by rcases h with h | h <;> simp[eI,h]
def ajb(h:y.op=10):eI p ah y n env m cO g=g.bX n (dD cO 1 ||| dD cO 2):=by simp[eI,h]
def ajc(h:y.op=17):eI p ah y n env m cO g=g.bX n (dD cO 0):=by simp[eI,h]
def Ud(h:y.op=18):eI p ah y n env m cO g=if m<0 then g else sI p ah n m.toNat g:=by simp[eI,h]
end
def Ue{y}{c}(a:(bu p).isSome)(hy:fW p y c)(h:y.op=6\/y.op=8):eJ p y.n=true:=by
 rw[fW,if_neg aa,if_pos h] at hy;unfold eJ;rw[a,Bool.and_true];exact hy
def k0(l:al):al:=[l.getD 0 default,l.getD 1 default,l.getD 2 default]
def ajd{KS:al}{i}(g:i<3)(f:i<KS.length){v}(h:v=KS.getD i default):(k0 (KS.take i)).set i v=k0 (KS.take (i+1)):=by
 subst h
 match i,g with
 | 0,_=>
  cases KS with
  | nil=>simp at f
  | cons a r=>rfl
 | 1,_=>
  match KS,f with
  | a::b::r,_=>rfl
 | 2,_=>
  match KS,f with
  | a::b::c::r,_=>rfl
def aje:(List.replicate 3 (ab.val aY))=(k0 []).map ab.i:=rfl
def ajf{q:gB}(bV:p.Small)(a1:jo p q)(df:wa p A){next:Bool}{eV:Int}(ajg:eV<0\/∃k:Nat,eV=k/\k<p.methods.length){f:Nat}(fv:∀{n:Int} {env:al} {g:GT} {Hx:aC},h9 p next f n env.length->env.length+f<=20->(∀k∈env,cq (aG p) k=true)->bf p g.t->bP prog 112 [.p q.bz 0,.i n,ab.ints env,.i eV] (cT p A q g Hx) (λr H1=>r= .bj []/\H1=cT p A q (fQ p (bk p) eV f n env g) Hx) (λ_ _=>False)){N:Nat}{env:al}{g:GT}{Hx:aC}(jt:h9 p next (f+1) N env.length)(b2:env.length+(f+1)<=20)(he:∀k∈env,cq (aG p) k=true)(h:bf p g.t):bP prog 112 [.p q.bz 0,.i (N:Int),ab.ints env,.i eV] (cT p A q g Hx) (λr H1=>r= .bj []/\H1=cT p A q (fQ p (bk p) eV (f+1) N env g) Hx) (λ_ _=>False):=by
 refine aM (n:=246) func112 λB I bN=>?_;have aD:=a1.aD;have hm:=a1.many;have rP:=tW jt;have hn:N<p.nodes.length:=by omega
 have Bc:=Au jt;obtain⟨ug,vV⟩:=DT jt;obtain⟨sZ,oy,_⟩:=xG jt;have Uf:=jt.2.2;obtain⟨Y,hy⟩:∃Y,Y=ji p (N:Int):=⟨_,rfl⟩;rw[<-hy] at Bc ug vV sZ oy Uf;have Aw:Y.kids.length<=3:=TD aD oy ug vV sZ;have alX:=Kj oy;have uu:fQ p (bk p) eV (f+1) N env g=eI p (bk p) Y N env eV (mo (j0 (fQ p (bk p) eV f) Y env 0 Y.kids g).t Y) (j0 (fQ p (bk p) eV f) Y env 0 Y.kids g):=by rw[hy];rfl
 refine aJ ?_;refine ag (k1) ?_;refine ag (ad.le (ad.qv rfl rfl rfl rfl) (show aq _ (.agg (hU Y)) by rw[hy];exact aq.refl _)) ?_;refine bT (λxI=>?_);refine aS ?_;refine eB 8 ?_;refine aS ?_;refine bm (λz st=>∃(i:Nat) (G:GT),st=⟨[(9,.i i),(8,.ptr (hU Y)),(3,.i eV),(2,ab.ints env),(1,.i N),(0,.p q.bz 0)],cT p A q G Hx⟩/\z=Y.kids.length - i/\i<=Y.kids.length/\bf p G.t/\j0 (fQ p (bk p) eV f) Y env i (Y.kids.drop i) G=(j0 (fQ p (bk p) eV f) Y env 0 Y.kids g)) (⟨0,g,rfl,rfl,aa,h,rfl⟩) ?_;rintro z _ ⟨i,G,rfl,rfl,aN,m,hinv⟩;refine bQ ?_;refine az (λaf=>?_) λaf=>?_
 ·have bF:i<Y.kids.length:=by omega
  have kc:=TC (R:=(fQ p (bk p) eV f)) (y:=Y) (env:=env) (G:=G) bF;have V:=Uf i bF;have Av:=m.nl;obtain⟨e,H⟩:∃e,e=(if Y.op=9/\i=1 then env++[G.t.nodes.getD (Y.kids.getD 0 default).toNat default] else env):=⟨_,rfl⟩;rw[<-H] at kc;have ajh:=Bc _ (bH (l:=Y.kids) (k:=0) aa);have mX:=xM m ajh;have B1:∀k∈e,cq (aG p) k=true:=by
   intro k bD;rw[H] at bD;split at bD
   ·rcases List.mem_append.1 bD with bo | bo
    ·exact he k bo
    ·rw[List.mem_singleton.1 bo];exact mX
   ·exact he k bD
  have ac:e.length+f<=20:=by
   rw[H];split
   ·rw[List.length_append];show env.length+1+f<=20;omega
   ·omega
  have yH:h9 p next f (Y.kids.getD i default) e.length:=by
   rw[H];by_cases ah:Y.op=9/\i=1
   ·rw[if_pos ah] at V ⊢;simpa using V
   ·rw[if_neg ah] at V ⊢;exact V
  refine bQ ?_;refine aA.k7 (λst=>∃eG:aC,st=⟨[(10,ab.ints e),(9,.i i),(8,.ptr (hU Y)),(3,.i eV),(2,ab.ints env),(1,.i N),(0,.p q.bz 0)],cT p A q G eG⟩/\Hx.Sublist eG) ?_ ?_
  ·refine bA ?_;refine bc (λae=>?_) (λae=>?_)
   ·have aji:Y.op=9/\i=1:=by
     have dc:(Y.op==9)=true:=by
      cases ba:(Y.op==9) with
      | true=>rfl
      | false=>rw[ba] at ae;cases ae
     rw[dc] at ae;exact⟨by simpa using dc,by have:((i:Int)==1)=true:=ae;simp at this;omega⟩
    have fw:e=env++[G.t.nodes.getD (Y.kids.getD 0 default).toNat default]:=by rw[H,if_pos aji]
    subst fw;refine aA.cu mixed ?_;refine bW.sd (X:=ob) [⟨0,39,false⟩,⟨2,41,false⟩] (λJ=>match J with | [some v,none]=>.own 3 1 v::cT p A q G Hx | [_,some u]=>.own 3 1 u::cT p A q G Hx | _=>cT p A q G Hx) (λj J=>match j,J with | 0,[some v,_]=>.as (.aj 1 []) v | 1,[_,some u]=>.as (.aj 1 ([]++env.map λn=>[ab.i n])) u | _,_=>.any) 0 15 246 rfl ao ao rfl rfl ao rfl (λ_ _ _ _ _ _ _ _ _ h=>h.elim) ?_;refine cN.kg 0 [[false,false]] rfl rfl rfl ao rfl rfl rfl ⟨λf=>⟨ee.lW rfl (λ_=>rfl) (λ_=>rfl),hL⟩,trivial⟩ ?_;refine cn [[true,false],[false,false]] ⟨λf=>ad.move rfl rfl rfl,λf=>ad.move rfl rfl rfl,trivial⟩ ?_;refine cN.kg 1 [[true,false]] rfl rfl rfl ao rfl rfl rfl ⟨λf=>⟨ee.own (news:=env.map λn=>[ab.i n]) rfl rfl rfl (aq.refl _) rfl rfl (aq.refl _) (si env) cF cF (λ_=>dt) (λ_=>rfl),hL⟩,trivial⟩ ?_;refine cn [[true,true],[true,false],[false,false]] ⟨λf=>ad.move rfl rfl rfl,λf=>ad.move rfl rfl rfl,λf=>ad.move rfl rfl rfl,trivial⟩ ?_;refine cn [[true,true],[true,false],[false,false]] ⟨λf=>fU,λf=>fU,λf=>fU,trivial⟩ ?_;refine cn [[true,true],[true,false],[false,false]] ⟨λf=>b9,λf=>b9,λf=>b9,trivial⟩ ?_;refine cn [[true,true],[true,false],[false,false]] ⟨λf=>b9,λf=>b9,λf=>b9,trivial⟩ ?_;refine cn [[true,true],[true,false],[false,false]] ⟨λf=>cP,λf=>cP,λf=>cP,trivial⟩ ?_;refine cn [[true,true],[true,false],[false,false]] ⟨λf=>b9,λf=>b9,λf=>b9,trivial⟩ ?_;refine cn [[true,true],[true,false],[false,false]] ⟨λf=>cP,λf=>cP,λf=>cP,trivial⟩ ?_;refine cn [[true,true],[true,false],[false,false]] ⟨λf=>EV,λf=>EV,λf=>EV,trivial⟩ ?_;refine cn [[true,true],[true,false],[false,false]] ⟨λf=>ad.le (ad.cE rfl rfl rfl rfl) (aq.b6 (show _=Y.kids.getD 0 default from rfl)),λf=>ad.le (ad.cE rfl rfl rfl rfl) (aq.b6 (show _=Y.kids.getD 0 default from rfl)),λf=>ad.le (ad.cE rfl rfl rfl rfl) (aq.b6 (show _=Y.kids.getD 0 default from rfl)),trivial⟩ ?_;refine cn [[true,true],[true,false],[false,false]] ⟨λf=>ES,λf=>ES,λf=>ES,trivial⟩ ?_;refine cn [[true,true],[true,false],[false,false]] ⟨λf=>ET,λf=>ET,λf=>ET,trivial⟩ ?_;refine cn [[true,true],[true,false],[false,false]] ⟨λf=>ad.sg [(true,.i (G.t.nodes.getD (Y.kids.getD 0 default).toNat default))] rfl rfl rfl rfl rfl rfl rfl rfl,λf=>ad.sg [(true,.i (G.t.nodes.getD (Y.kids.getD 0 default).toNat default))] rfl rfl rfl rfl rfl rfl rfl rfl,λf=>ad.sg [(true,.i (G.t.nodes.getD (Y.kids.getD 0 default).toNat default))] rfl rfl rfl rfl rfl rfl rfl rfl,trivial⟩ ?_;refine cN.nil (λf=>?_);simp only[kN,List.map_cons,List.map_nil,List.cons_append,List.nil_append];refine aR ?_;refine ai.dJ rfl rfl rfl rfl rfl rfl rfl rfl (aq.refl _) (rfl) (λ_=>dt) cF cF (λEI=>?_);refine aQ ?_;refine aZ.le 10 (y:=ab.ints (env++[G.t.nodes.getD (Y.kids.getD 0 default).toNat default])) rfl (by rw[show ab.ints (env++[G.t.nodes.getD (Y.kids.getD 0 default).toNat default])= .aj 1 ([]++env.map (λn=>[ab.i n])++[[ab.i (G.t.nodes.getD (Y.kids.getD 0 default).toNat default)]]) by show ab.aj 1 (List.map _ _)=_;rw[List.map_append];rfl];exact aq.eY _ _) ?_;refine aZ.perm (H':=ly p q A::(iu q G.t++(.own 3 1 EI::Hx))) (List.perm_middle (l₁:=ly p q A::iu q G.t)).symm ?_;exact dm ⟨.own 3 1 EI::Hx,rfl,List.sublist_cons_self _ _⟩
   ·have fw:e=env:=by
     rw[H,if_neg];rintro⟨de,dc⟩;rw[de,dc] at ae;cases ae
    subst fw;refine aR ?_;exact dm ⟨Hx,rfl,List.Sublist.refl _⟩
  ·rintro _ ⟨eG,rfl,ajj⟩;refine a8 ?_;refine cI .k ((fv (Hx:=eG) yH ac B1 m).b) ?_;rintro _ _ ⟨rfl,rfl⟩;refine aJ ?_;refine aZ.LR (⟨i+1,(fQ p (bk p) eV f) (Y.kids.getD i default) e G,rfl,rfl,bF,Az f yH B1 m,by rw[<-hinv,kc]⟩) ?_ ?_ ?_
   ·omega
   ·repeat (first | exact trivial | refine⟨rfl,?_⟩)
   ·exact List.Sublist.cons_cons _ (List.Sublist.append (List.Sublist.refl _) ajj)
 ·obtain rfl:i=Y.kids.length:=by omega
  have Nh:G=(j0 (fQ p (bk p) eV f) Y env 0 Y.kids g):=by rw[<-hinv,List.drop_length];rfl
  have Av:=m.nl;have ajk:(mo G.t Y).length=Y.kids.length:=List.length_map _;obtain⟨KS,T⟩:∃KS,KS=(mo G.t Y):=⟨_,rfl⟩;rw[<-T] at ajk;have vA:∀k∈KS,cq (aG p) k=true:=λk bD=>DY m Bc k (by rw[<-T];exact bD);refine aP ?_;refine ai.pR (3) rfl rfl rfl rfl rfl rfl rfl rfl (rfl) aa ia (λsr=>?_);refine bQ ?_;rw[aje];refine bm (λz st=>∃i:Nat,st=⟨[(12,.i i),(11,fA sr 3),(8,.ptr (hU Y)),(3,.i eV),(2,ab.ints env),(1,.i N),(0,.p q.bz 0)],e1 sr (k0 (KS.take i))::cT p A q G Hx⟩/\z=Y.kids.length - i/\i<=Y.kids.length) (⟨0,rfl,rfl,aa⟩) ?_;rintro z _ ⟨i,rfl,rfl,aN⟩;refine bQ ?_;refine az (λak=>?_) λak=>?_
  ·have bF:i<Y.kids.length:=by omega
   have r7:=Bc _ (bH bF);have jO:KS.getD i default=G.t.nodes.getD (Y.kids.getD i default).toNat default:=by rw[T];exact sY bF
   refine aV ?_;refine b0 14 246 ?_;refine bS ?_;refine bh (ad.dX rfl rfl rfl rfl rfl (.tail _ (gT (i:=(Y.kids.getD i default).toNat) aa)) ⟨aa,aa⟩) ?_;refine bh (ad.gm rfl rfl rfl (.tail _ (gT (i:=(Y.kids.getD i default).toNat) aa)) (hN aa)) ?_;refine aQ ?_;refine ag (ad.gX rfl rfl rfl rfl rfl aa) ?_;apply ai.gb rfl rfl rfl rfl rfl rfl rfl rfl rfl rfl
   (case hu=>repeat (first | exact bG.head _ _ _ | apply bG.tail));(case hfit=>simp[k0];omega);(case hds=>exact (ints_set (l:=k0 (KS.take i)) (j:=i) (by simp[k0];omega) _).trans (by rw[ajd (KS:=KS) (i:=i) aa aa jO.symm]))
   refine aJ ?_;exact aU (⟨i+1,rfl,rfl,bF⟩)
  ·obtain rfl:i=Y.kids.length:=by omega
   rw[List.take_of_length_le (by omega:KS.length<=Y.kids.length)];refine ay ?_;rw[DO sr sr (k0 KS) 0];refine aA.oW (d:=11) (k:=1) rfl (fV.head _ _) (by rw[List.length_map];rfl) (λe he=>by obtain⟨y,_,rfl⟩:=List.mem_map.1 he;rfl) (Nat.le_refl _) ia ?_;obtain⟨EJ,W⟩:=qg vA 0;obtain⟨mX,E⟩:=qg vA 1;obtain⟨ajl,B2⟩:=qg vA 2;refine aV ?_;refine aA.k7 (λst=>∃(a:Nat) (Bd:GT),st=⟨[(13,.i (a:Int)),(1,.i N),(0,.p q.bz 0)],cT p A q Bd Hx⟩/\fp p a/\bf p Bd.t/\Bd.bX N a=eI p (bk p) Y N env eV KS G) ?_ ?_
   ·refine aP ?_;refine aA.k7 (λst=>∃b:Bool,st=⟨[(89,.b b),(88,.i Y.op),(13,.i ((0:Nat):Int)),(11,ab.ints (k0 KS)),(8,.ptr (hU Y)),(3,.i eV),(2,ab.ints env),(1,.i N),(0,.p q.bz 0)],cT p A q G Hx⟩/\(b=true↔Y.op=1\/(12<=Y.op/\Y.op<=16))) ?_ ?_
    ·refine ay ?_;refine az (λaL=>?_) λaL=>?_
     ·refine aR ?_;exact dm ⟨Y.op==1,rfl,s9⟩
     ·refine ay ?_;refine az (λbo=>?_) λbo=>?_
      ·refine aR ?_;exact dm ⟨Y.op==12,rfl,s9⟩
      ·refine ay ?_;refine az (λcm=>?_) λcm=>?_
       ·refine aR ?_;exact dm ⟨Y.op==13,rfl,s9⟩
       ·refine ay ?_;refine az (λdx=>?_) λdx=>?_
        ·refine aR ?_;exact dm ⟨Y.op==14,rfl,s9⟩
        ·refine ay ?_;refine az (λdF=>?_) λdF=>?_
         ·refine aR ?_;exact dm ⟨Y.op==15,rfl,s9⟩
         ·refine aV ?_;exact dm ⟨Y.op==16,rfl,s9⟩
    ·rintro _ ⟨pn,rfl,a2⟩;refine bc (λde=>?_) (λde=>?_)
     ·have cj:=a2.1 de;refine aV ?_;exact dm ⟨2,G,rfl,Js p,m,(ai4 cj).symm⟩
     ·have cj: ¬(Y.op=1\/(12<=Y.op/\Y.op<=16)):=λe=>by rw[a2.2 e] at de;cases de
      refine ay ?_;refine az (λdc=>?_) λdc=>?_
      ·refine aV ?_;exact dm ⟨4,G,rfl,Jt p,m,(ai5 dc).symm⟩
      ·refine ay ?_;refine az (λhM=>?_) λhM=>?_
       ·have alY:=TB sZ hM;have Ug:=hW.1 (he _ (bH (k:=Y.n.toNat) aa));refine aV ?_;refine ag (k1) ?_;refine ag (ad.le (ad.cE rfl rfl rfl rfl) (aq.b6 Ug.1)) ?_;refine aH ?_;exact dm ⟨(env.getD Y.n.toNat default).toNat,G,rfl,Ug.2,m,(ai6 hM).symm⟩
       ·refine ay ?_;refine az (λh6=>?_) λh6=>?_
        ·have pw:=A5 sZ (.inl h6);obtain⟨Ah,Kx⟩:=D1 m pw;have nG:=m.aj;refine aR ?_;refine b0 6 246 ?_;refine aQ ?_;refine bh (ad.ep (enc:=λn=>[ab.i n]) (l:=k0 KS) (i:=0) rfl rfl rfl rfl rfl ⟨aa,BE⟩) ?_;refine bh (ad.le (ad.cE rfl rfl rfl rfl) (aq.b6 (show _=_ from EJ))) ?_;refine aV ?_;refine cI .k ((T4 (g:=G) bV a1 W.1 pw).b) ?_;rintro _ _ ⟨rfl,rfl⟩;refine aQ ?_;refine bc (λjA=>?_) (λjA=>?_)
         ·refine b0 7 246 ?_;refine a8 ?_;refine ag (ad.dX rfl rfl rfl rfl rfl (lz (i:=Y.n.toNat) aa) ⟨aa,aa⟩) ?_;refine ag (ad.le (ad.gm rfl rfl rfl (lz (i:=Y.n.toNat) aa) (hN aa)) (aq.b6 Ah)) ?_;refine aH ?_;exact dm ⟨(G.t.aw.getD Y.n.toNat default).toNat,G,rfl,Kx,m,by rw[Ub h6,if_pos jA]⟩
         ·refine aQ ?_;exact dm ⟨0,G,rfl,vF p,m,by rw[Bb m,Ub h6,if_neg (by rw[jA];decide)]⟩
        ·refine ay ?_;refine az (λkq=>?_) λkq=>?_
         ·obtain⟨C,O,M⟩:=pA sZ (.inl kq);obtain⟨c,P⟩:∃c:Nat,c=Y.n.toNat:=⟨_,rfl⟩;rw[<-P] at C O M;have bb:=Ue aD sZ (.inl kq);rw[C] at bb;obtain⟨⟨Uh,Ui⟩,_⟩:=vf bb;have ajm:=(pk bb).bq;have Uj:fG p c=cw p c:=by rw[fG,bb,if_pos rfl]
          refine aH ?_;refine ag (ad.le (ad.cE rfl rfl rfl rfl) (aq.b6 C)) ?_;refine ag (ad.shift rfl rfl rfl rfl rfl aa (ml c ⟨aa,aa⟩)) ?_;refine aV ?_;refine b0 6 246 ?_;refine aS ?_;refine bh (ad.le (ad.cE rfl rfl rfl rfl) (aq.b6 C)) ?_;refine aQ ?_;refine ag (ad.call .k (H7 bV aD Uh Ui)) ?_;refine a8 ?_;refine bm (λz st=>∃j:Nat,st=⟨[(15,.i j),(14,ab.ints (cw p c)),(13,.i ((2^c:Nat):Int)),(8,.ptr (hU Y)),(3,.i eV),(2,ab.ints env),(1,.i N),(0,.p q.bz 0)],cT p A q (((cw p c).take j).foldl (GT.begin p c) G) Hx⟩/\z=(cw p c).length - j/\j<=(cw p c).length) (⟨0,rfl,rfl,aa⟩) ?_;rintro z _ ⟨j,rfl,rfl,cp⟩;refine a8 ?_;refine az (λlP=>?_) λlP=>?_
          ·have dz:j<(cw p c).length:=by omega
           have bT:bf p (((cw p c).take j).foldl (GT.begin p c) G).t:=hX _ m λg s _ h=>vG h c s;have ajn:=xP (f:=GT.begin p c) dz G;refine aV ?_;refine b0 7 246 ?_;refine aQ ?_;refine bh (ad.le (ad.cE rfl rfl rfl rfl) (aq.b6 C)) ?_;refine ay ?_;refine cI .k ((T3 bV a1 bT bb (bH dz)).b) ?_;rintro _ _ ⟨rfl,rfl⟩;refine aJ ?_;exact aU (⟨j+1,by rw[ajn],rfl,dz⟩)
          ·obtain rfl:j=(cw p c).length:=by omega
           rw[List.take_length];refine aS ?_;exact dm ⟨2^c,(cw p c).foldl (GT.begin p c) G,rfl,kv O M,hX _ m λg s _ h=>vG h c s,by rw[ai8 kq, <-P,vE,Uj,Ua]⟩
         ·refine ay ?_;refine az (λmi=>?_) λmi=>?_
          ·have pw:=A5 sZ (.inr mi);obtain⟨Ah,Kx⟩:=D1 m pw;have nG:=m.aj;have ap:=jB hm Kx;have Uk:=jB hm E;refine aH ?_;refine ag (ad.ep (enc:=λn=>[ab.i n]) (l:=k0 KS) (i:=1) rfl rfl rfl rfl rfl ⟨aa,BF⟩) ?_;refine ag (ad.le (ad.cE rfl rfl rfl rfl) (aq.b6 (show _=_ from mX))) ?_;refine aV ?_;refine b0 6 246 ?_;refine aQ ?_;refine bh (ad.ep (enc:=λn=>[ab.i n]) (l:=k0 KS) (i:=0) rfl rfl rfl rfl rfl ⟨aa,BE⟩) ?_;refine bh (ad.le (ad.cE rfl rfl rfl rfl) (aq.b6 (show _=_ from EJ))) ?_;refine aV ?_;refine cI .k ((T4 (g:=G) bV a1 W.1 pw).b) ?_;rintro _ _ ⟨rfl,rfl⟩;refine aQ ?_;refine bc (λsq=>?_) (λsq=>?_)
           ·refine b0 20 246 ?_;refine c6 ?_;refine bh (ad.dX rfl rfl rfl rfl rfl (lz (i:=Y.n.toNat) aa) ⟨aa,aa⟩) ?_;refine bh (ad.le (ad.gm rfl rfl rfl (lz (i:=Y.n.toNat) aa) (hN aa)) (aq.b6 Ah)) ?_;refine aR ?_;refine bh (ad.ep (enc:=λn=>[ab.i n]) (l:=k0 KS) (i:=1) rfl rfl rfl rfl rfl ⟨aa,BF⟩) ?_;refine bh (ad.le (ad.cE rfl rfl rfl rfl) (aq.b6 (show _=_ from mX))) ?_;refine bh (ad.bits rfl rfl rfl rfl rfl (kt _ _ aa aa)) ?_;refine aQ ?_;refine ag (ad.dX rfl rfl rfl rfl rfl (lz (i:=Y.n.toNat) aa) ⟨aa,aa⟩) ?_;refine EH (x:=dD KS 1) rfl rfl rfl rfl rfl rfl rfl aa rfl ?_;refine aQ ?_;exact dm ⟨dD KS 1,G.eN Y.n.toNat (dD KS 1),rfl,E,m.eN _ E,by rw[Uc mi,tX,if_pos sq,ai3]⟩
           ·refine aQ ?_;exact dm ⟨dD KS 1,G,rfl,E,m,by rw[Uc mi,tX,if_neg (by rw[sq];decide)]⟩
          ·refine ay ?_;refine az (λpg=>?_) λpg=>?_
           ·obtain⟨C,O,M⟩:=pA sZ (.inr pg);obtain⟨c,P⟩:∃c:Nat,c=Y.n.toNat:=⟨_,rfl⟩;rw[<-P] at C O M;have bb:=Ue aD sZ (.inr pg);rw[C] at bb;obtain⟨⟨Uh,Ui⟩,_⟩:=vf bb;have ajm:=(pk bb).bq;have Uj:fG p c=cw p c:=by rw[fG,bb,if_pos rfl]
            refine b0 7 246 ?_;refine aH ?_;refine bh (ad.ep (enc:=λn=>[ab.i n]) (l:=k0 KS) (i:=0) rfl rfl rfl rfl rfl ⟨aa,BE⟩) ?_;refine bh (ad.le (ad.cE rfl rfl rfl rfl) (aq.b6 (show _=_ from EJ))) ?_;refine aR ?_;refine bh (ad.le (ad.cE rfl rfl rfl rfl) (aq.b6 C)) ?_;refine aQ ?_;refine cI .k ((aiQ bV a1 m hn W.1 bb).b) ?_;rintro _ _ ⟨rfl,rfl⟩;refine aQ ?_;exact dm ⟨0,ps p N c (dD KS 0) G,rfl,vF p,Je m N O M _,by rw[Bb (Je m N O M _),ai9 pg, <-P]⟩
           ·refine aA.k7 (λst=>∃b:Bool,st=⟨[(192,.b b),(88,.i Y.op),(13,.i ((0:Nat):Int)),(11,ab.ints (k0 KS)),(8,.ptr (hU Y)),(3,.i eV),(2,ab.ints env),(1,.i N),(0,.p q.bz 0)],cT p A q G Hx⟩/\(b=true↔Y.op=9\/Y.op=11)) ?_ ?_
            ·refine ay ?_;refine az (λAd=>?_) λAd=>?_
             ·refine aR ?_;exact dm ⟨Y.op==9,rfl,s9⟩
             ·refine aV ?_;exact dm ⟨Y.op==11,rfl,s9⟩
            ·rintro _ ⟨alZ,rfl,bI⟩;refine bc (λrj=>?_) (λrj=>?_)
             ·have Ul:=bI.1 rj;refine aQ ?_;refine ag (ad.ep (enc:=λn=>[ab.i n]) (l:=k0 KS) (i:=1) rfl rfl rfl rfl rfl ⟨aa,BF⟩) ?_;refine ag (ad.le (ad.cE rfl rfl rfl rfl) (aq.b6 (show _=_ from mX))) ?_;refine aH ?_;exact dm ⟨dD KS 1,G,rfl,E,m,(aja Ul).symm⟩
             ·have Ul: ¬(Y.op=9\/Y.op=11):=λe=>by rw[bI.2 e] at rj;cases rj
              refine ay ?_;refine az (λxy=>?_) λxy=>?_
              ·have ap:=jB hm E;have Uk:=jB hm B2;refine b0 6 246 ?_;refine aR ?_;refine bh (ad.ep (enc:=λn=>[ab.i n]) (l:=k0 KS) (i:=1) rfl rfl rfl rfl rfl ⟨aa,BF⟩) ?_;refine bh (ad.le (ad.cE rfl rfl rfl rfl) (aq.b6 (show _=_ from mX))) ?_;refine aR ?_;refine bh (ad.ep (enc:=λn=>[ab.i n]) (l:=k0 KS) (i:=2) rfl rfl rfl rfl rfl ⟨aa,by show (2:Int)<((3:Nat):Int);omega⟩) ?_;refine bh (ad.le (ad.cE rfl rfl rfl rfl) (aq.b6 (show _=_ from ajl))) ?_;refine aQ ?_;refine ag (ad.bits rfl rfl rfl rfl rfl (kt _ _ aa aa)) ?_;refine aH ?_;exact dm ⟨dD KS 1 ||| dD KS 2,G,rfl,xK E B2,m,(ajb xy).symm⟩
              ·refine ay ?_;refine az (λtP=>?_) λtP=>?_
               ·refine aQ ?_;refine ag (ad.ep (enc:=λn=>[ab.i n]) (l:=k0 KS) (i:=0) rfl rfl rfl rfl rfl ⟨aa,BE⟩) ?_;refine ag (ad.le (ad.cE rfl rfl rfl rfl) (aq.b6 (show _=_ from EJ))) ?_;refine aH ?_;exact dm ⟨dD KS 0,G,rfl,W,m,(ajc tP).symm⟩
               ·refine ay ?_;refine az (λvq=>?_) λvq=>?_
                ·refine aP ?_;refine cI .k ((aiZ bV a1 m hn (gen:=Y.n) Bc (ug (by rw[vq];rfl)) Aw).b) ?_;rintro _ _ ⟨rfl,rfl⟩;refine aQ ?_;exact dm ⟨0,sH p N Y.n KS G,by rw[T],vF p,Jh m N Y.n vA,by rw[Bb (Jh m N Y.n vA),ai7 vq]⟩
                ·refine ay ?_;refine az (λsv=>?_) λsv=>?_
                 ·refine ay ?_;refine az (λAe=>?_) λAe=>?_
                  ·obtain⟨k,rfl,bD⟩:=ajg.resolve_left aa;refine aV ?_;refine cI .k ((ai0 bV a1 m hn bD df).b) ?_;rintro _ _ ⟨rfl,rfl⟩;refine aQ ?_;exact dm ⟨0,sI p (bk p) N k G,rfl,vF p,Jf m _ N k,by rw[Bb (Jf m _ N k),Ud sv,if_neg aa];rfl⟩
                  ·refine aQ ?_;exact dm ⟨0,G,rfl,vF p,m,by rw[Bb m,Ud sv,if_pos aa]⟩
                 ·refine aQ ?_;exfalso;omega
   ·rintro _ ⟨a,Bd,rfl,ajo,qG,a5⟩;have zU:=qG.nl;obtain⟨D8,lH⟩:=hW.1 (qG.nb _ (bH (k:=N) aa));have ap:=jB hm lH;have Uk:=jB hm ajo;refine b0 16 246 ?_;refine bS ?_;refine bh (ad.dX rfl rfl rfl rfl rfl (gT (i:=N) aa) ⟨aa,aa⟩) ?_;refine bh (ad.le (ad.gm rfl rfl rfl (gT (i:=N) aa) (hN aa)) (aq.b6 D8)) ?_;refine aR ?_;refine bh (ad.bits rfl rfl rfl rfl rfl (kt _ _ aa aa)) ?_;refine aQ ?_;refine ag (ad.dX rfl rfl rfl rfl rfl (gT (i:=N) aa) ⟨aa,aa⟩) ?_;refine A8 (x:=a) rfl rfl rfl rfl rfl rfl rfl aa rfl ?_;refine aR ?_;rw[show Bd.bX (N:Int).toNat a=eI p (bk p) Y N env eV KS G from a5];refine gQ [] (cT p A q (eI p (bk p) Y N env eV KS G) Hx) ?_;exact⟨rfl,by rw[uu, <-Nh, <-T]⟩
def Ky{p:Prog}{A:List cY}{q:gB}(bV:p.Small)(a1:jo p q)(df:wa p A){next:Bool}{eV:Int}(ajg:eV<0\/∃k:Nat,eV=k/\k<p.methods.length):∀(f:Nat) {n:Int} {env:al} {g:GT} {Hx:aC},h9 p next f n env.length->env.length+f<=20->(∀k∈env,cq (aG p) k=true)->bf p g.t->
  bP prog 112 [.p q.bz 0,.i n,ab.ints env,.i eV] (cT p A q g Hx) (λr H1=>r= .bj []/\H1=cT p A q (fQ p (bk p) eV f n env g) Hx) (λ_ _=>False)
 | 0,n,env,g,Hx,jt,_,_,_=>jt.elim
 | f+1,n,env,g,Hx,jt,al8,he,h=>by
  have rP:=tW jt;obtain⟨N,rfl⟩:∃N:Nat,n=N:=⟨n.toNat,aa⟩;exact ajf bV a1 df ajg (f:=f) (λa b c d=>Ky bV a1 df ajg f a b c d) jt al8 he h
def Um{B:Nat}{I:cr}{w:World}{r:Option Nat}{a:Act}{t tx e iW gW:Nat}{cs:bl}[df:fi P t (e,1,iW)][ka:eE P tx gW](h:o.op= .call {callee:=.builtin .append,args:=#[s,z],argTypes:=#[t,tx]})
  (b4:aO ρ s=some (g1,lE)) (rY:g1=true) (yG:aq lE .fm) (aD:aO ρ z=some (g2,y)) (rZ:g2=true) (hy:aq y (.aj 1 (cs.map λx=>[x]))) (ae:(cs.map λx=>[x]).all dG=true) (ba:cs.length*iW<=140737488355328) (wG:cs.length<=9223372036854775807)
  (hw:bY B I w) (aW:a7 B I w H) (bb:fo I w ρ a o):dw P r o a w (λv w'=>∃c7,bY B c7 w'/\Ext B I w c7 w'/\a7 B c7 w' ((if cs= [] then [] else [.row e 1 v cs.length cs])++H)/\(cs= []->∃gH c,v= .slice gH 0 c)/\v.oneCell'=true) (λ_ _=>False):=by
 obtain⟨i,zv,hu,aN,l0,r2,wk,tg,w2⟩:=oX df.h;obtain⟨e',_,ajp,_⟩:=nY ka.h;obtain⟨gH,uw⟩:∃gH,a.eval s= .slice gH 0 0:=by
  have af:=yG _ _ _ (bb.get gF b4 rY);generalize a.eval s=u at af;cases af;exact⟨_,rfl⟩
 obtain⟨us,aB,fN⟩:=uF (P:=P) (tx:=tx) ajp (hy _ _ _ (bb.get gF aD rZ)) ae;rw[List.length_map] at fN;rw[<-r2] at fN;have uU:∀l:bl,(l.map λx=>[x]).flatten=l:=λl=>by
  induction l with
  | nil=>rfl
  | cons x r fv=>rw[List.map_cons,List.flatten_cons,fv];rfl
 rw[uU] at aB;have kF:us.length=cs.length:=aB.length;by_cases EK:cs= []
 ·subst EK;have kF:us= []:=by cases aB;rfl
  subst kF;have bK:=run_append_nothing (P:=P) w t tx o.type e i hu aN gH 0 0 (Nat.le_refl _) (a.eval z) fN;exact dw.e4 ck (pJ h a w uv) ⟨I,hw,Ext.refl _ _ _,aW,λ_=>⟨_,_,rfl⟩,rfl⟩
 ·have hn:cs.length≠0:=λe=>EK (List.eq_nil_of_length_eq_zero e);have ajq:(Builtin.firstCells i.size 0 (.slice gH 0 0)).run P w.drew= .ok (#[]:Array Value) w.drew:=by
   cases gH with
   | none=>simp[Builtin.firstCells]
   | some gH=>exact run_firstCells_some w.drew i.size 0 gH 0 0 [] aT aT
  have od:Builtin.nextslicecap (0+cs.length) 0*i.bytes<=281474976710656:=growslice_fits aa (by rw[wk,Nat.zero_add];exact ba);have bK:=run_append_grow_src (P:=P) w t tx o.type e i zv hu aN l0 gH 0 0 [] ajq (a.eval z) cs.length us fN aa aa od;simp only[Nat.zero_add,List.nil_append] at bK;generalize fb:grownCap w cs.length 0 e=G at bK;have xA:cs.length<=G:=by rw[<-fb];exact grownCap_ge w cs.length 0 e
  have o4:G<=maxLen:=by rw[<-fb];exact grownCap_le_maxLen w cs.length 0 e ia
  have eL:er I w I w.drew:=⟨λ_ _ x=>x,λ_ _ _=>rfl⟩;have pM:=hw.drew;have aL:=aW.drew.alloc pM (.cells (us.toArray++Builtin.zeroCells zv.cells (G - cs.length)) e);have rR:(w.drew.alloc (.cells (us.toArray++Builtin.zeroCells zv.cells (G - cs.length)) e)).ownsRow B e 1 (.slice (some ⟨w.drew.heap.size,0,none⟩) cs.length G) cs.length us:=
   ⟨by rw[kF];omega,.inr ⟨w.drew.heap.size,G,_,rfl,pM.base,heap_alloc_new w.drew _,xA,o4,by simp only[Array.size_append,List.size_toArray,size_zeroCells,tg,kF];omega,by
    rw[Array.toList_append,List.take_append_of_le_length (by simp[kF])];simp[<-kF]⟩⟩
  refine dw.e4 ck (pJ h a w uv) ⟨I,pM.alloc _,Ext.trans ⟨eL.ix,eL.cell,(Go.RowKit.Below.refl _ _).drew⟩ (jJ pM _),?_,λe=>absurd e EK,rfl⟩;rw[if_neg EK];refine⟨λf b7=>?_,List.pairwise_cons.2 ⟨λf b7 b ba e=>?_,aL.apart⟩⟩
  ·rcases List.mem_cons.1 b7 with rfl | b7
   ·refine⟨us,rR,(aB.bw eL).bw (jJ pM _).keeps,λg av o bb=>?_⟩;simp[Value.ownBlock] at av;subst av;exact absurd (pM.lt bb) (Nat.lt_irrefl _)
   ·exact aL.ok f b7
  ·simp[br.dY,Value.ownBlock] at ba;subst ba;exact absurd (br.lX (aW.drew.ok f b7) e).2 (Nat.lt_irrefl _)
def ee.Be(l)[L:fi P t (3,1,iW)][M:eE P tx gW](h:o.op= .call {callee:=.builtin .append,args:=#[s,z],argTypes:=#[t,tx]})
  (F:aO ρ s=some (g1,lE)) (c:g1=true) (g:aq lE .fm) (aD:aO ρ z=some (g2,y)) (j:g2=true) (hy:aq y (.aj 1 (l.map λx=>[.i x]))) (C:l.length*iW<=140737488355328) (f:l.length<=9223372036854775807) (q:∀v,(db v l++H).Perm (H' v)) (aK:∀v,x v=jn l.isEmpty v):ee X P H H' x ρ o:=λB I w r a m D E=>
 (Um (cs:=l.map .i) (y:=y) h F c g aD j (by rw[List.map_map];exact hy) K8 (by rw[List.length_map];exact C) (by rw[List.length_map];exact f) m D E).mono (λv J ⟨A,bI,a2,a3,a4,a5⟩=>by
  refine⟨A,bI,a2,?_,?_⟩
  ·refine a3.perm (.trans (.of_eq ?_) (q v));congr 1;unfold db;by_cases e:l= []
   ·rw[if_pos e,e];rfl
   ·rw[if_neg e,if_neg (by simpa using e),List.length_map]
  ·rw[aK];cases l with
   | nil=>obtain⟨K,G,rfl⟩:=a4 rfl;exact .as _ _ (.dQ _ _ _)
   | cons b r=>exact .as _ _ (.single _ a5)) λ_ _ h=>h.elim
def ee.Un(l)[L:fi P t (4,1,iW)][M:eE P tx gW](h:o.op= .call {callee:=.builtin .append,args:=#[s,z],argTypes:=#[t,tx]})
  (F:aO ρ s=some (g1,lE)) (c:g1=true) (g:aq lE .fm) (aD:aO ρ z=some (g2,y)) (j:g2=true) (hy:aq y (.aj 1 (l.map λx=>[.b x]))) (C:l.length*iW<=140737488355328) (f:l.length<=9223372036854775807) (q:∀v,(fH v l++H).Perm (H' v)) (aK:∀v,x v=jn l.isEmpty v):ee X P H H' x ρ o:=λB I w r a m D E=>
 (Um (cs:=l.map .b) (y:=y) h F c g aD j (by rw[List.map_map];exact hy) K8 (by rw[List.length_map];exact C) (by rw[List.length_map];exact f) m D E).mono (λv J ⟨A,bI,a2,a3,a4,a5⟩=>by
  refine⟨A,bI,a2,?_,?_⟩
  ·refine a3.perm (.trans (.of_eq ?_) (q v));congr 1;unfold fH;by_cases e:l= []
   ·rw[if_pos e,e];rfl
   ·rw[if_neg e,if_neg (by simpa using e),List.length_map]
  ·rw[aK];cases l with
   | nil=>obtain⟨K,G,rfl⟩:=a4 rfl;exact .as _ _ (.dQ _ _ _)
   | cons b r=>exact .as _ _ (.single _ a5)) λ_ _ h=>h.elim
def ad.ajr{t d}{b}{v}{F}[hR:j9 P t (1,F)](h:o.op= .buildSlice t 1 #[(0,.tmp d)])(z:ρ d=some (jn b v)):ad P H ρ o (.aj 1 [[.val v]]):=λB I w r a m q A D C=>by
 have j:∀x∈o.op.operands,x= .tmp d:=by rw[h];simp[Op.operands]
 have E:=C (.tmp d) BP (jn b v) z;obtain⟨e,_,s⟩:=x8 E;have f:fa (.val v)=true:=s;have g:fo I w (λk=>if k=d then some (.val v) else none) a o:=λx l y c=>by
  have l:=j x l;subst l;have c:(if d=d then some (.val v) else none)=some y:=c;rw[if_pos rfl] at c;cases c;rw[e];exact .val _
 exact ad.sg (ρ:=λk=>if k=d then some (.val v) else none) [(true,.val v)] h (by simp[js,aO,iU,strip]) rfl rfl (by simp[f,cJ]) rfl rfl rfl B I w r a m q A D g
def ad.Uo{H:aC}{t d1 d2 d3:Nat}{b1 b2 b3:Bool}{v1 v2 v3:Value}[eD:hv P t ([aX,aX,aX,aX],[(0,1),(1,1),(2,1),(3,1)])](h:o.op= .build t #[(0,.tmp d1),(2,.tmp d2),(3,.tmp d3)])
  (ae:ρ d1=some (jn b1 v1)) (ak:ρ d2=some (jn b2 v2)) (aL:ρ d3=some (jn b3 v3)) (ajs:d2≠d1:=by decide) (ajt:d3≠d1:=by decide) (aju:d3≠d2:=by decide):ad P H ρ o (.agg [.val v1,.val aX,.val v2,.val v3]):=λB I w r a ni hw aW b4 bb=>by
 have oy:∀x∈o.op.operands,x= .tmp d1\/x= .tmp d2\/x= .tmp d3:=by rw[h];simp[Op.operands]
 obtain⟨bM,_,gI⟩:=x8 (bb (.tmp d1) BP (jn b1 v1) ae);obtain⟨bJ,_,fF⟩:=x8 (bb (.tmp d2) BP (jn b2 v2) ak);obtain⟨e6,_,fc⟩:=x8 (bb (.tmp d3) BP (jn b3 v3) aL);obtain⟨rJ,uM⟩:∃rJ:Nat->Option ab,rJ=λk=>if k=d1 then some (.val v1) else if k=d2 then some (.val v2) else if k=d3 then some (.val v3) else none:=⟨_,rfl⟩
 have gu:rJ d1=some (.val v1):=by rw[uM];simp
 have cx:rJ d2=some (.val v2):=by rw[uM];simp[ajs]
 have JQ:rJ d3=some (.val v3):=by rw[uM];simp[ajt,aju]
 have y6:fo I w rJ a o:=λx aK y hy=>by
  rcases oy x aK with rfl | rfl | rfl
  ·have hy:rJ d1=some y:=hy;rw[gu] at hy;cases hy;rw[bM];exact .val _
  ·have hy:rJ d2=some y:=hy;rw[cx] at hy;cases hy;rw[bJ];exact .val _
  ·have hy:rJ d3=some y:=hy;rw[JQ] at hy;cases hy;rw[e6];exact .val _
 exact ad.BZ (ρ:=rJ) (ys:=[(true,.val v1),(true,.val v2),(true,.val v3)]) h (by simp[js,aO,iU,strip,gu,cx,JQ]) rfl (by simp[n1,partsOf,fa,cJ,gI,fF,fc];rfl) B I w r a ni hw aW b4 y6
def Up(F D X:aC):(F++(D++([]++X))).Perm (D++(F++X)):=by classical exact List.perm_iff_count.2 λx=>by simp only[List.count_append,List.count_nil];omega
def Uq(F D A X:aC):(F++(D++(A++([]++X)))).Perm (D++(A++(F++X))):=by classical exact List.perm_iff_count.2 λx=>by simp only[List.count_append,List.count_nil];omega
def Ur(F D A B X:aC):(F++(D++(A++(B++([]++X))))).Perm (D++(A++(B++(F++X)))):=by classical exact List.perm_iff_count.2 λx=>by simp only[List.count_append,List.count_nil];omega
def ajv(F:aC)(O E:br)(X:aC):(F++(O::(E::([]++X)))).Perm (O::(E::(F++X))):=by classical exact List.perm_iff_count.2 λx=>by simp only[List.count_append,List.count_cons,List.count_nil];omega
def ajw{t:cv}(K:(bu p).isSome)(h:bf p t)(H:aC):bP prog 111 [ab.dI t] H (λy H'=>∃q:gB,y= .agg [.val q.dh,.aj 1 (q.vs.map λv=>[ab.val v]),.val q.cZ,.val q.cV]/\H'=iu q t++H/\jo p q) (λ_ _=>False):=by
 refine aM (n:=38) func111 λB I bN=>?_;have a3:=jY K;have bI:=h.hp;have a0:=h.pl;have Y:=h.nl;have Z:=h.aj;have V:=D3 K;have P:p.nodes.length<=120:=by
  obtain⟨o,bb⟩:=Option.isSome_iff_exists.1 K;exact (sk bb).2
 refine aH ?_;refine bT (λdg=>?_);refine aH ?_;refine aA.cu mixed ?_;refine bW.sd (X:=ob) [⟨3,8,false⟩,⟨7,12,false⟩,⟨11,16,false⟩,⟨12,17,false⟩,⟨13,3,false⟩] (λJ=>(match J with | [_,_,_,_,some d]=>[br.au (w4 d) 31 [.val aX,.val aX,.val aX,.val aX]] | _=>[])++((match J with | some a::_=>fH a t.bC | _=>[])++((match J with | [_,some b,_,_,_]=>db b t.nodes | _=>[])++((match J with | [_,_,some c,_,_]=>db c t.aw | _=>[])++(.au dg 31 [.val aX,.val aX,.val aX,.val aX]::H))))) (λj J=>match j,J with | 0,some a::_=>jn t.bC.isEmpty a | 1,[_,some b,_,_,_]=>jn t.nodes.isEmpty b | 2,[_,_,some c,_,_]=>jn t.aw.isEmpty c | 3,[some a,some b,some c,some _,_]=>.agg [.val a,.val aX,.val b,.val c] | 4,[_,_,_,_,some d]=>.p (w4 d) 0 | _,_=>.any) 0 14 38 rfl ao ao rfl rfl ao rfl (λ_ _ _ _ _ _ _ _ _ h=>h.elim) ?_;refine cn [[false,false,false,false,true],[false,false,false,false,false]] ⟨λf=>ad.lW rfl,λf=>ad.lW rfl,trivial⟩ ?_;refine cn [[false,false,false,false,true],[false,false,false,false,false]] ⟨λf=>b9,λf=>b9,trivial⟩ ?_;refine cn [[false,false,false,false,true],[false,false,false,false,false]] ⟨λf=>cP,λf=>cP,trivial⟩ ?_;refine cN.kg 0 [[false,false,false,false,true],[false,false,false,false,false]] rfl rfl rfl ao rfl rfl rfl ⟨λf=>⟨ee.Un t.bC rfl rfl rfl (aq.refl _) rfl rfl (aq.refl _) aa aa (λv=>Up _ _ _) (λ_=>rfl),hL⟩,λf=>⟨ee.Un t.bC rfl rfl rfl (aq.refl _) rfl rfl (aq.refl _) aa aa (λv=>Up _ _ _) (λ_=>rfl),hL⟩,trivial⟩ ?_;refine cn [[true,false,false,false,true],[true,false,false,false,false],[false,false,false,false,true],[false,false,false,false,false]] ⟨λf=>ad.lW rfl,λf=>ad.lW rfl,λf=>ad.lW rfl,λf=>ad.lW rfl,trivial⟩ ?_;refine cn [[true,false,false,false,true],[true,false,false,false,false],[false,false,false,false,true],[false,false,false,false,false]] ⟨λf=>b9,λf=>b9,λf=>b9,λf=>b9,trivial⟩ ?_;refine cn [[true,false,false,false,true],[true,false,false,false,false],[false,false,false,false,true],[false,false,false,false,false]] ⟨λf=>cP,λf=>cP,λf=>cP,λf=>cP,trivial⟩ ?_;refine cN.kg 1 [[true,false,false,false,true],[true,false,false,false,false]] rfl rfl rfl ao rfl rfl rfl ⟨λf=>⟨ee.Be t.nodes rfl rfl rfl (aq.refl _) rfl rfl (aq.refl _) aa aa (λv=>Uq _ _ _ _) (λ_=>rfl),hL⟩,λf=>⟨ee.Be t.nodes rfl rfl rfl (aq.refl _) rfl rfl (aq.refl _) aa aa (λv=>Uq _ _ _ _) (λ_=>rfl),hL⟩,trivial⟩ ?_;refine cn [[true,true,false,false,true],[true,true,false,false,false],[true,false,false,false,true],[true,false,false,false,false],[false,false,false,false,true],[false,false,false,false,false]] ⟨λf=>ad.lW rfl,λf=>ad.lW rfl,λf=>ad.lW rfl,λf=>ad.lW rfl,λf=>ad.lW rfl,λf=>ad.lW rfl,trivial⟩ ?_;refine cn [[true,true,false,false,true],[true,true,false,false,false],[true,false,false,false,true],[true,false,false,false,false],[false,false,false,false,true],[false,false,false,false,false]] ⟨λf=>b9,λf=>b9,λf=>b9,λf=>b9,λf=>b9,λf=>b9,trivial⟩ ?_;refine cn [[true,true,false,false,true],[true,true,false,false,false],[true,false,false,false,true],[true,false,false,false,false],[false,false,false,false,true],[false,false,false,false,false]] ⟨λf=>cP,λf=>cP,λf=>cP,λf=>cP,λf=>cP,λf=>cP,trivial⟩ ?_;refine cN.kg 2 [[true,true,false,false,true],[true,true,false,false,false]] rfl rfl rfl ao rfl rfl rfl ⟨λf=>⟨ee.Be t.aw rfl rfl rfl (aq.refl _) rfl rfl (aq.refl _) aa aa (λv=>Ur _ _ _ _ _) (λ_=>rfl),hL⟩,λf=>⟨ee.Be t.aw rfl rfl rfl (aq.refl _) rfl rfl (aq.refl _) aa aa (λv=>Ur _ _ _ _ _) (λ_=>rfl),hL⟩,trivial⟩ ?_;refine cN.kg 3 [[true,true,true,false,true],[true,true,true,false,false]] rfl rfl rfl ao rfl rfl rfl ⟨λf=>⟨ee.pop (ad.Uo (d1:=8) (d2:=12) (d3:=16) (b1:=t.bC.isEmpty) (v1:=f 8) (b2:=t.nodes.isEmpty) (v2:=f 12) (b3:=t.aw.isEmpty) (v3:=f 16) rfl rfl rfl rfl) (λ_=>rfl) (λ_=>rfl),hL⟩,λf=>⟨ee.pop (ad.Uo (d1:=8) (d2:=12) (d3:=16) (b1:=t.bC.isEmpty) (v1:=f 8) (b2:=t.nodes.isEmpty) (v2:=f 12) (b3:=t.aw.isEmpty) (v3:=f 16) rfl rfl rfl rfl) (λ_=>rfl) (λ_=>rfl),hL⟩,trivial⟩ ?_;refine cN.kg 4 [[true,true,true,true,false],[true,true,true,false,false],[true,true,false,false,false],[true,false,false,false,false],[false,false,false,false,false]] rfl rfl rfl ao rfl rfl rfl ⟨λf=>⟨ee.rU rfl (λv=>rfl) (λv=>rfl),hL⟩,λf=>⟨ee.rU rfl (λv=>rfl) (λv=>rfl),hL⟩,λf=>⟨ee.rU rfl (λv=>rfl) (λv=>rfl),hL⟩,λf=>⟨ee.rU rfl (λv=>rfl) (λv=>rfl),hL⟩,λf=>⟨ee.rU rfl (λv=>rfl) (λv=>rfl),hL⟩,trivial⟩ ?_;refine cN.nil (λf=>?_);simp only[kN,List.map_cons,List.map_nil,List.cons_append,List.nil_append];generalize w4 (f 3)=dR;refine aR ?_;generalize f 8=dh;generalize f 12=cZ;generalize f 16=cV;refine ai.dv (d:=8) (b:=t.bC.isEmpty) (v:=dh) rfl (λrq F=>?_);refine ai.dv (d:=12) (b:=t.nodes.isEmpty) (v:=cZ) rfl (λahT M=>?_);refine ai.dv (d:=16) (b:=t.aw.isEmpty) (v:=cV) rfl (λqf E=>?_);apply ai.gb rfl rfl rfl rfl rfl rfl rfl (by simp only[fa,F,M,E,show (Value.slice none 0 0).oneCell'=true from rfl]) (by simp[dG,cJ,fa,F,M,E,show (Value.slice none 0 0).oneCell'=true from rfl]) rfl
 (case hu=>repeat (first | exact bG.head _ _ _ | apply bG.tail));(case hfit=>rfl);(case hds=>rfl)
 refine a8 ?_;refine aA.qM (b:=dR) (t:=31) 23 1 1 dt rfl rfl ?_;refine bm (λz st=>∃(i:Nat) (vs:dj) (v1:Value),st=⟨[(4,.i i),(3,.p dR 0),(2,.p dg 0),(1,.ptr (jU t))],.own 23 1 v1::.au dR 31 [.val dh,.as (.aj 1 (vs.map λv=>[ab.val v])) v1,.val cZ,.val cV]::(fH dh t.bC++(db cZ t.nodes++(db cV t.aw++(iD vs (t.params.take i)++(.au dg 31 [.val aX,.val aX,.val aX,.val aX]::H)))))⟩/\z=t.params.length - i/\i<=t.params.length/\vs.length=i/\∀v∈vs,v.oneCell'=true) (⟨0,[],_,rfl,rfl,aa,rfl,λv bd=>by cases bd⟩) ?_;rintro z _ ⟨i,vs,v1,rfl,rfl,aN,Q,C⟩;refine bQ ?_;refine az (λaf=>?_) λaf=>?_
 ·have B:i<t.params.length:=by omega
  obtain⟨L,R⟩:∃L,L=t.params.getD i default:=⟨_,rfl⟩;have a2:L.length<=10:=by
   rw[R,A9 h aa];have:=Kw K (i:=i) aa;omega
  refine aV ?_;refine aA.cu mixed ?_;refine bW.sd (X:=ob) [⟨8,33,false⟩,⟨9,34,false⟩] (λJ=>.own 23 1 v1::(.au dR 31 [.val dh,.as (.aj 1 (vs.map λv=>[ab.val v])) v1,.val cZ,.val cV]::((match J with | some v::_=>db v L | _=>[])++(fH dh t.bC++(db cZ t.nodes++(db cV t.aw++(iD vs (t.params.take i)++(.au dg 31 [.val aX,.val aX,.val aX,.val aX]::H)))))))) (λj J=>match j,J with | 0,some v::_=>jn L.isEmpty v | 1,[some v,_]=>.aj 1 [[.val v]] | _,_=>.any) 0 10 38 rfl ao ao rfl rfl ao rfl (λ_ _ _ _ _ _ _ _ _ h=>h.elim) ?_;refine cn [[true,true],[true,false],[false,false]] ⟨λf=>b9,λf=>b9,λf=>b9,trivial⟩ ?_;refine cn [[true,true],[true,false],[false,false]] ⟨λf=>cP,λf=>cP,λf=>cP,trivial⟩ ?_;refine cn [[false,false]] ⟨λf=>ad.lW rfl,trivial⟩ ?_;refine cn [[false,false]] ⟨λf=>b9,trivial⟩ ?_;refine cn [[false,false]] ⟨λf=>cP,trivial⟩ ?_;refine cn [[false,false]] ⟨λf=>ad.move rfl rfl rfl,trivial⟩ ?_;refine cn [[false,false]] ⟨λf=>(by first | exact ad.fC rfl rfl rfl rfl rfl B | exact ad.ep rfl rfl rfl rfl rfl B),trivial⟩ ?_;refine cn [[false,false]] ⟨λf=>ad.le (ad.cE rfl rfl rfl rfl) (by rw[<-R];exact aq.refl _),trivial⟩ ?_;refine cN.kg 0 [[false,false]] rfl rfl rfl ao rfl rfl rfl ⟨λf=>⟨ee.Be L rfl rfl rfl (aq.refl _) rfl rfl (aq.refl _) aa aa (λv=>ajv _ _ _ _) (λ_=>rfl),hL⟩,trivial⟩ ?_;refine cN.kg 1 [[true,false]] rfl rfl rfl ao rfl rfl rfl ⟨λf=>⟨ee.pop (ad.ajr (d:=33) (b:=L.isEmpty) (v:=f 33) rfl rfl) (λ_=>rfl) (λ_=>rfl),hL⟩,trivial⟩ ?_;refine cN.nil (λf=>?_);simp only[kN,List.map_cons,List.map_nil,List.cons_append,List.nil_append];refine aR ?_;generalize f 33=v;refine ai.dv (d:=33) (b:=L.isEmpty) (v:=v) rfl (λal0 U=>?_);refine ai.dJ rfl rfl rfl rfl rfl rfl rfl rfl (aq.refl _) (xQ (vs:=[v]) (by intro u hu;simp at hu;rw[hu];exact U)) (λ_=>dt) cF cF (λoL=>?_);refine aS ?_;have G:=c3 B;rw[<-R] at G;have O:iD (vs++[v]) (t.params.take (i+1))=iD vs (t.params.take i)++db v L:=by
   rw[<-G,TJ yr]
  have S:(vs++[v]).map (λv=>[ab.val v])=vs.map (λv=>[ab.val v])++[[.val v]]:=by rw[List.map_append];rfl
  refine aA.perm (H':=.own 23 1 oL::.au dR 31 [.val dh,.as (.aj 1 ((vs++[v]).map λv=>[ab.val v])) oL,.val cZ,.val cV]::(fH dh t.bC++(db cZ t.nodes++(db cV t.aw++(iD (vs++[v]) (t.params.take (i+1))++(.au dg 31 [.val aX,.val aX,.val aX,.val aX]::H)))))) (by rw[O,S];exact (show (.own 23 1 oL::.au dR 31 [.val dh,.as (.aj 1 (vs.map (λv=>[ab.val v])++[[.val v]])) oL,.val cZ,.val cV]::(db v L++(fH dh t.bC++(db cZ t.nodes++(db cV t.aw++(iD vs (t.params.take i)++(.au dg 31 [.val aX,.val aX,.val aX,.val aX]::H)))))):aC).Perm _ from by classical exact List.perm_iff_count.2 λx=>by simp only[List.count_append,List.count_cons,List.count_nil,List.cons_append,List.nil_append];omega)) ?_;refine aS ?_;exact aU (⟨i+1,vs++[v],oL,rfl,rfl,B,by simp[Q],λu hu=>(List.mem_append.1 hu).elim (C u) (λh=>by simp at h;rw[h];exact U)⟩)
 ·obtain rfl:i=t.params.length:=by omega
  rw[List.take_length];refine ay ?_;refine aA.GL (.tail _ _ _ _ _ (.head _ _ _)) (.cons (.refl _) (.cons (aq.eY _ _) (.cons (.refl _) (.cons (.refl _) .nil)))) ?_;refine aA.perm (H':=.au dg 31 [.val aX,.val aX,.val aX,.val aX]::.own 23 1 v1::.au dR 31 [.val dh,.aj 1 (vs.map λv=>[ab.val v]),.val cZ,.val cV]::(iu ⟨0,dh,vs,cZ,cV,0,0,[]⟩ t++H)) (show _ from by classical exact List.perm_iff_count.2 λx=>by simp only[List.count_append,List.count_cons,List.count_nil,List.cons_append,List.nil_append,iu];omega) ?_;refine aQ ?_;apply ai.gb rfl rfl rfl rfl rfl rfl rfl (by simp[fa,F,M,E,C])  (by simp[dG,cJ,fa,F,M,E,C]) rfl
  (case hu=>repeat (first | exact bG.head _ _ _ | apply bG.tail));(case hfit=>rfl);(case hds=>rfl)
  refine aH ?_;refine dM [.cell 2 31] (iu ⟨0,dh,vs,cZ,cV,0,0,[]⟩ t++H) ?_;exact⟨⟨0,dh,vs,cZ,cV,0,0,[]⟩,rfl,rfl,⟨K,by show vs.length=_;omega,λaf=>rq (List.isEmpty_iff.2 (List.eq_nil_of_length_eq_zero aa)),λaf=>qf (List.isEmpty_iff.2 (List.eq_nil_of_length_eq_zero aa)),F,C,M,E⟩⟩
def jo.at{q}(h:jo p q)(b):jo p {q with bz:=b}:=⟨h.aD,h.oQ,h.rq,h.qf,h.rr,h.sL,h.oF,h.m2⟩
def ajx{t}(O:p.Small)(j:(bu p).isSome)(h:bf p t)(Q:wa p A)(H):bP prog 73 [ab.prog p,ab.dI t,ab.gz A] H (λy H'=>∃q:gB,y= .agg [.val q.dh,.aj 1 (q.vs.map λv=>[.val v]),.val q.cZ,.val q.cV]/\H'=cT p A q (fR p (bk p) t) H/\jo p q) (λ_ _=>False):=by
 refine aM func73 λB I bN=>?_;have a3:=jY j;have o:∀i,i<=p.methods.length->bf p ((List.range i).foldl (kV p (bk p)) ⟨t,false⟩).t:=λi J=>Km j (bk p) (g:=⟨t,false⟩) h J;refine aV ?_;refine bT (λdg=>?_);refine aH ?_;refine .cu mixed ?_;refine .MZ (λKk r=>∃q:gB,Kk= .agg [.val q.dh,.aj 1 (q.vs.map λv=>[.val v]),.val q.cZ,.val q.cV]/\r=iu q t++(.au dg 31 [.val aX,.val aX,.val aX,.val aX]::H)/\jo p q) 11 2 0 4 57 rfl ao ao rfl rfl ao ?_;refine bg.lJ ao rfl rfl rfl rfl (λy r x=>nU) (λaf=>nU) ?_;refine bg.lJ ao rfl rfl rfl rfl (λy r x=>nU) (λaf=>nU) ?_;refine bg.M0 ao ao rfl rfl rfl .k (λB=>(ajw j h _).b) ?_;refine bg.lJ ao rfl rfl rfl rfl (λy r x=>.move rfl rfl rfl) (λaf=>.move rfl rfl rfl) ?_;refine bg.nil λy r x=>?_;obtain⟨m,rfl,rfl,E⟩:=x;refine aQ ?_;refine .r6 rfl rfl rfl rfl rfl rfl rfl λcR=>?_;refine aS ?_;obtain⟨q,c⟩:∃q:gB,q={m with bz:=cR}:=iZ;have a1:jo p q:=by rw[c];exact E.at cR
 have K:cR=q.bz:=by rw[c]
 have Z:m.dh=q.dh:=by rw[c]
 have Kz:m.vs=q.vs:=by rw[c]
 have X:m.cZ=q.cZ:=by rw[c]
 have U:m.cV=q.cV:=by rw[c]
 have C:iu m t=iu q t:=by rw[c];rfl
 clear c;subst K;rw[C];simp[Z,Kz,X,U];refine aS ?_;refine bm (λz T=>∃i:Nat,T=⟨[(8,.i i),(7,.p q.bz 0),(6,.p dg 0),(3,.ptr (cH p))],cT p A q ((List.range i).foldl (kV p (bk p)) ⟨t,false⟩) (.au dg 31 [.val aX,.val aX,.val aX,.val aX]::H)⟩/\z=p.methods.length - i/\i<=p.methods.length) tz ?_;rintro z _ ⟨i,rfl,rfl,J⟩;refine bQ ?_;refine az (λaf=>?_) λaf=>?_
 ·have bF:i<p.methods.length:=by omega
  obtain⟨G,s⟩:∃G,G=((List.range i).foldl (kV p (bk p)) ⟨t,false⟩):=iZ;have a:=o i J;rw[<-s] at a;have l:=lO (f:=kV p (bk p)) i ⟨t,false⟩;rw[<-s] at l;rw[<-s];have a2:=a.hp;have a0:=a.pl;obtain⟨B,D,L,W⟩:=A6 j (bk p) a bF;have w:=ua j a bF;have P:=A9 a bF;have bI:=Kw j bF;refine bS ?_;refine ag (.dX rfl rfl rfl rfl rfl (v8 (i:=i) aa) lK) ?_;refine ag (ad.gm rfl rfl rfl (v8 (i:=i) aa) (x7 aa)) ?_;refine aQ ?_;refine bc (λae=>?_) (λae=>?_)
  ·have F:G.t.bC.getD i default=true:=ae;refine b0 18 57 ?_;refine c6 ?_;refine bh (wh) ?_;refine aR ?_;refine bh (ad.eq (ad.Na rfl rfl rfl (aq.refl _) rfl rfl (qq (k:=i) (i:=0) aa aa) aT (by simpa using w) (TE _) aa aa) (by rw[TF])) ?_;refine aH ?_;refine cI .k ((Ky O a1 Q (.inr ⟨i,rfl,bF⟩) 13 B D L a).b) ?_;rintro _ _ ⟨rfl,rfl⟩;refine aJ ?_;exact aU (⟨i+1,by rw[l,kV,if_pos F],rfl,bF⟩)
  ·have F:G.t.bC.getD i default=false:=ae;refine aJ ?_;exact aU (⟨i+1,by rw[l,kV,if_neg (by rw[F];decide)],rfl,bF⟩)
 ·obtain rfl:i=p.methods.length:=by omega
  have s:=o _ (Nat.le_refl _);refine bQ ?_;refine cI ((gG.mk' rfl rfl rfl rfl rfl).le (.cons (.refl _) (.cons (.refl _) (.cons (aq.nil 1) (.cons (.refl _) .nil))))) ((Ky O a1 Q (.inl c8) 13 (sC j).2.1 (env:=[]) c8 (λk Y=>by cases Y) s).b) ?_;rintro _ _ ⟨rfl,rfl⟩;refine aH ?_;refine aA.perm (H':=.au dg 31 [.val aX,.val aX,.val aX,.val aX]::cT p A q (fR p (bk p) t) H) (List.perm_middle (l₁:=ly p q A::iu q (fR p (bk p) t).t)) ?_;refine aS ?_;apply ai.gb rfl rfl rfl rfl rfl rfl rfl (by simp[fa,a1.rr,a1.sL,a1.oF,a1.m2]) (by simp[dG,cJ,fa,a1.rr,a1.sL,a1.oF,a1.m2]) rfl
  (case hu=>repeat (first | exact bG.head _ _ _ | apply bG.tail));(case hfit=>rfl);(case hds=>rfl)
  refine aH ?_;refine aZ.cl (rs:=[.cell 6 31]) (H':=cT p A q (fR p (bk p) t) H) rfl (s4) (c5.refl _) (by exact List.sublist_cons_self _ _) ?_;exact⟨q,rfl,rfl,a1⟩
def ajy{t}(m:p.Small)(f:(bu p).isSome)(h:bf p t)(l:wa p A):aI prog 73 [ab.prog p,ab.dI t,ab.gz A] (ab.dI (fR p (bk p) t).t):=λH=>by
 refine bP.pS (ajx m f h l H) ?_;rintro _ _ ⟨q,rfl,rfl,o⟩ B I w v g r s;obtain⟨J,C,c,j,z⟩:=a7.front (F:=ly p q A::iu q (fR p (bk p) t).t) g r;refine⟨J,_,H,C,c,j,T6 (A:=A) o (Kn f (bk p) h) c.keeps (λt v x a=>z t v x ?_) s,rfl,rfl⟩;have a:_∈ly p q A::(iu q _++[]):=a;rwa [List.append_nil] at a
def ajz(i):ab.ints ((List.range (i+1)).map λn:Nat=>(n:Int))= .aj 1 (((List.range i).map λn:Nat=>(n:Int)).map (λn=>[.i n])++[[.i (i:Int)]]):=by
 show ab.aj 1 (List.map _ _)=_;rw[List.range_succ,List.map_append,List.map_append];rfl
def qt(p:Prog)(m n:Nat):Bool:=(cC p m).gen==(cC p n).gen && (cC p m).kind==(cC p n).kind
def ajA(a b):(bif a then b else false)=(a && b):=by cases a <;> rfl
def ajB(f:(bu p).isSome):aI prog 75 [ab.prog p] (.ints ((List.range p.methods.length).map λn:Nat=>(n:Int))):=by
 intro H;refine aM func75 λB I j=>?_;have g:=jY f;refine jR ?_;refine hi 3 3 1 ?_;refine bm (λz c=>∃(i:Nat) (v:Value),c=⟨[(4,.i i),(3,.as (.ints ((List.range i).map λn:Nat=>(n:Int))) v),(1,.ptr (cH p))],.own 3 1 v::H⟩/\z=p.methods.length - i/\i<=p.methods.length) (⟨0,_,rfl,rfl,aa⟩) ?_;rintro z _ ⟨i,v,rfl,rfl,l⟩;refine bQ ?_;refine az (λaf=>?_) λaf=>?_
 ·have a:i<p.methods.length:=by omega
  refine aP ?_;refine .cc (x:=.aj 1 [[.i (i:Int)]]) rfl rfl rfl ie ?_;refine ai.dJ rfl rfl rfl rfl rfl rfl rfl rfl (aq.refl _) (rfl) (λ_=>dt) cF cF (λajC=>?_);refine a8 ?_;exact aU (⟨i+1,ajC,by rw[ajz],rfl,a⟩)
 ·obtain rfl:i=p.methods.length:=by omega
  refine bS ?_;refine aZ.cl (rs:=[.tmp 2]) (H':=H) rfl (.tmp rfl (.nil)) (.cons (aq.eY _ _) .nil) bE ?_;exact⟨cM,rfl⟩
def ajD{m n}(hm:m<p.methods.length)(hn:n<p.methods.length):aI prog 113 [ab.prog p,.i m,.i n] (.b (qt p m n)):=by
 intro H;refine aM func113 λB I a=>?_;refine aP ?_;refine b0 12 35 ?_;refine o8 ?_;refine .dk 14 26 35 rfl ao rfl rfl ao ?_;refine iY ?_;refine aB 6 H ?_;exact⟨bn (ajA _ _),rfl⟩
def KA[Inhabited α][DecidableEq α]{a b:List α}{i}(h:a.getD i default≠b.getD i default):decide (a=b)=false:=by
 rw[decide_eq_false_iff_not];intro e;rw[e] at h;exact h rfl
def KB[DecidableEq α]{a b:List α}(h:a.length≠b.length):decide (a=b)=false:=by
 rw[decide_eq_false_iff_not];intro e;rw[e] at h;exact h rfl
def KC[Inhabited α]{a b:List α}{i}(h:i<a.length)(j:a.length=b.length)(ht:a.take i=b.take i)(g:a.getD i default=b.getD i default):a.take (i+1)=b.take (i+1):=by
 rw[<-c3 h, <-c3 (by omega:i<b.length),ht,g]
def KD[DecidableEq α]{a b:List α}(f:a.length=b.length)(ht:a.take a.length=b.take a.length):decide (a=b)=true:=by
 rw[List.take_length] at ht;rw[f,List.take_length] at ht;exact decide_eq_true ht
def Us(a b):aI prog 13 [ab.dy a,ab.dy b] (.b (decide (a=b))):=by
 intro H;refine aM func13 λB I o=>?_;refine .ez (t:=0) rfl λgP=>?_;refine a8 ?_;refine ag xd ?_;refine aR ?_;refine ag xd ?_;refine aH ?_;refine az (λaf=>?_) λaf=>?_
 ·have g:a.length≠b.length:=by omega
  refine aP ?_;refine aB 4 H ?_;exact⟨bn (KB g).symm,rfl⟩
 ·have h:a.length=b.length:=by omega
  refine a8 ?_;refine bm (λz l=>∃i:Nat,l=⟨[(5,.i i),(0,ab.dy a),(1,ab.dy b)],H⟩/\z=a.length - i/\i<=a.length/\a.take i=b.take i) iI ?_;rintro z _ ⟨i,rfl,rfl,q,j⟩;refine a8 ?_;refine az (λae=>?_) λae=>?_
  ·have c:i<a.length:=by omega
   refine aS ?_;refine b0 8 26 ?_;refine di ?_;refine bc (λak=>?_) λak=>?_
   ·have f:a.getD i default≠b.getD i default:=by simpa using ak
    refine bA ?_;refine aB 4 H ?_;exact⟨bn (KA f).symm,rfl⟩
   ·have f:a.getD i default=b.getD i default:=by simpa using ak
    refine aJ ?_;exact aU ⟨i+1,rfl,rfl,c,KC c h j f⟩
  ·obtain rfl:i=a.length:=by omega
   refine bA ?_;refine aB 4 H ?_;exact⟨bn (KD h j).symm,rfl⟩
def EL(a b):aI prog 29 [.ints a,.ints b] (.b (decide (a=b))):=by
 intro H;refine aM func29 λB I o=>?_;refine .ez (t:=0) rfl λgP=>?_;refine a8 ?_;refine ag xd ?_;refine aR ?_;refine ag xd ?_;refine aH ?_;refine az (λaf=>?_) λaf=>?_
 ·have g:a.length≠b.length:=by omega
  refine aP ?_;refine aB 4 H ?_;exact⟨bn (KB g).symm,rfl⟩
 ·have h:a.length=b.length:=by omega
  refine bA ?_;refine bm (λz l=>∃i:Nat,l=⟨[(13,.i i),(12,.i a.length),(11,.ints a),(0,.ints a),(1,.ints b)],H⟩/\z=a.length - i/\i<=a.length/\a.take i=b.take i) iI ?_;rintro z _ ⟨i,rfl,rfl,q,j⟩;refine ay ?_;refine az (λae=>?_) λae=>?_
  ·have c:i<a.length:=by omega
   refine bA ?_;refine b0 8 26 ?_;refine di ?_;refine bc (λak=>?_) λak=>?_
   ·have f:a.getD i default≠b.getD i default:=by simpa using ak
    refine bA ?_;refine aB 4 H ?_;exact⟨bn (KA f).symm,rfl⟩
   ·have f:a.getD i default=b.getD i default:=by simpa using ak
    refine aP ?_;exact aU ⟨i+1,rfl,rfl,c,KC c h j f⟩
  ·obtain rfl:i=a.length:=by omega
   refine bA ?_;refine aB 4 H ?_;exact⟨bn (KD h j).symm,rfl⟩
def Ut(a b):aI prog 30 [.bp a,.bp b] (.b (decide (a=b))):=by
 intro H;refine aM func30 λB I o=>?_;refine .ez (t:=0) rfl λgP=>?_;refine a8 ?_;refine ag xd ?_;refine aR ?_;refine ag xd ?_;refine aH ?_;refine az (λaf=>?_) λaf=>?_
 ·have g:a.length≠b.length:=by omega
  refine aP ?_;refine aB 4 H ?_;exact⟨bn (KB g).symm,rfl⟩
 ·have h:a.length=b.length:=by omega
  refine a8 ?_;refine bm (λz l=>∃i:Nat,l=⟨[(5,.i i),(0,.bp a),(1,.bp b)],H⟩/\z=a.length - i/\i<=a.length/\a.take i=b.take i) iI ?_;rintro z _ ⟨i,rfl,rfl,q,j⟩;refine a8 ?_;refine az (λae=>?_) λae=>?_
  ·have c:i<a.length:=by omega
   refine aS ?_;refine b0 8 27 ?_;refine bQ ?_;refine ag (.call .k (EL _ _)) ?_;refine aH ?_;refine bc (λak=>?_) λak=>?_
   ·have f:a.getD i default≠b.getD i default:=by simpa using ak
    refine bA ?_;refine aB 4 H ?_;exact⟨bn (KA f).symm,rfl⟩
   ·have f:a.getD i default=b.getD i default:=by simpa using ak
    refine aJ ?_;exact aU ⟨i+1,rfl,rfl,c,KC c h j f⟩
  ·obtain rfl:i=a.length:=by omega
   refine bA ?_;refine aB 4 H ?_;exact⟨bn (KD h j).symm,rfl⟩
def Bf(a b:cv):Bool:=decide (a.bC=b.bC) && decide (a.params=b.params) && decide (a.nodes=b.nodes) && decide (a.aw=b.aw)
def KE{a b}:Bf a b=true↔a=b:=by
 cases a;cases b;simp[Bf,and_assoc]
def Uu(a b):aI prog 16 [ab.dI a,ab.dI b] (.b (Bf a b)):=by
 intro H;refine aM func16 λB I c=>?_;refine di ?_;refine ag (.call .k (Us _ _)) ?_;refine aS ?_;refine ai.cG rfl rfl rfl rfl rfl rfl (λav=>.call (.mk' rfl rfl rfl rfl cU) (Ut _ _)) ?_;refine ay ?_;refine ai.cG rfl rfl rfl rfl rfl rfl (λav=>.call (.mk' rfl rfl rfl rfl cU) (EL _ _)) ?_;refine ay ?_;refine ai.cG rfl rfl rfl rfl rfl rfl (λav=>.call (.mk' rfl rfl rfl rfl cU) (EL _ _)) ?_;refine aS ?_;refine aB 4 H ?_;exact⟨bn (by unfold Bf;cases decide (a.bC=b.bC) <;> cases decide (a.params=b.params) <;> cases decide (a.nodes=b.nodes) <;> rfl),rfl⟩
end Go.Proofs.YtodccgailpkgeaaGreat

