/- A part of the proof. No condition. -/
import Derived.Test.YtodccgailpkgeaaGreatKindClosesP12
import Derived.Shelf.Sort.Plain
import Derived.Shelf.Slices.In.SortNone
import Derived.Sort.OwnSortedInts
set_option linter.defProp false
set_option maxHeartbeats 1000000
set_option linter.unusedVariables false
set_option linter.unusedSimpArgs false
set_option maxRecDepth 10000
namespace Go.Proofs.YtodccgailpkgeaaGreat
open Go.Proofs.Tryz
open Go.Eng
open Go.Eng.Fc
open Go.Eng.dO
variable{p:Prog}{i:Int}{x:dC}{l:List (Int×Int)}{o out:al}{more:bl}{next:Bool}{f:Nat}{H:aC}
def Bj(p:Prog)(x:gR):Int:=match iw x.op with
 | none=>-1
 | some none=>if 0<=x.n/\x.n<p.c2.length then p.c2.getD x.n.toNat default else -1
 | some (some k)=>k
def PY(p)(x)(c)(next):(bif bif (x.kids.length:Int) !=Bj p x then true else !fW p x c then true else bif x.op==18 then !next else false)= !pZ p next x c:=by
 unfold pZ Bj;rcases bD:iw x.op with _ | _ | k
 ·simp only[Bool.and_false,Bool.not_false];rw[show ((x.kids.length:Int) != -1)=true by rw[bne_iff_ne];omega];rfl
 ·simp only;cases hn:fW p x c with
  | false=>simp
  | true=>
   have f:=PB bD hn;rw[if_pos f];simp only[bne];generalize ((x.kids.length:Int)==p.c2.getD x.n.toNat default)=a;generalize (x.op==18)=b;cases a <;> cases b <;> cases next <;> rfl
 ·simp only;have e:((x.kids.length:Int) !=(k:Int))= !(x.kids.length==k):=by rw[Bool.eq_iff_iff];simp;omega
  rw[e];simp only[bne];generalize (x.kids.length==k)=a;generalize (x.op==18)=b;generalize fW p x c=d;cases a <;> cases b <;> cases next <;> cases d <;> rfl
def HQ(p)(l:p.aF.length<=4000000)(f:∀c∈p.aF,c.parents.length<=4000000):aI prog 119 [ab.prog p] (.bp (ca p)):=by
 intro H;refine aM func119 λB I o=>?_;refine jR ?_;refine hi 3 23 1 ?_;refine bm (λm g=>∃(i:Nat) (v:Value),g=⟨[(4,.i i),(3,.as (.bp ((p.aF.take i).map (·.parents))) v),(1,.ptr (cH p))],.own 23 1 v::H⟩/\m=p.aF.length - i/\i<=p.aF.length) (⟨0,_,rfl,rfl,aa⟩) ?_;rintro m _ ⟨i,v,rfl,rfl,q⟩;refine bQ ?_;refine az (λaf=>?_) λaf=>?_
 ·have a:i<p.aF.length:=by omega
  have h:=f _ (bH a);refine bS ?_;refine ag (.B0 rfl rfl rfl .Vq rfl rfl gx (si _) nV nV) ?_;refine ai.cc (x:=.aj 1 [[ab.ints (p.aF.getD i default).parents]]) rfl rfl rfl (ad.row rfl rfl cD rfl rfl rfl rfl rfl rfl) ?_;refine ai.dJ rfl rfl rfl rfl rfl rfl rfl rfl (aq.refl _) (rfl) (λ_=>dt) nc nc (λv21=>?_);refine a8 ?_;exact aU (⟨i+1,v21,by rw[NC a],rfl,a⟩)
 ·obtain rfl:i=p.aF.length:=by omega
  rw[List.take_length];refine bS ?_;refine aZ.cl (rs:=[.tmp 2]) (H':=H) rfl (.tmp rfl (.nil)) (.cons (aq.eY _ _) .nil) bE ?_;exact⟨cM,rfl⟩
def HR(p)(b4:p.aF.length<=1000)(a1:∀c∈p.aF,c.parents.length<=4000000/\c.aw.length<=1000):aI prog 83 [ab.prog p] (ab.world (bR p)):=by
 intro H;refine aM func83 λB I r=>?_;refine aH ?_;refine bT (λdg=>?_);refine aS ?_;refine ag (.call .k (HQ p aa (λc h=>(a1 c h).1))) ?_;refine aR ?_;refine bT (λda=>?_);refine aS ?_;refine .qM (b:=da) (t:=86) 3 1 1 dt rfl rfl ?_;refine aS ?_;refine bm (λm g=>∃(i:Nat) (v:Value),g=⟨[(4,.i i),(1,.ptr (cH p)),(3,.p da 0),(2,.p dg 0)],.own 3 1 v::.au da 86 [.bp (ca p),.as (.ints (mO p.aF i 0)) v]::.au dg 86 [.val aX,.val aX]::H⟩/\m=p.aF.length - i/\i<=p.aF.length) (⟨0,_,rfl,rfl,aa⟩) ?_;rintro m _ ⟨i,v,rfl,rfl,s⟩;refine bQ ?_;refine az (λaf=>?_) λaf=>?_
 ·have a:i<p.aF.length:=by omega
  have q:=a1 _ (bH a);refine bQ ?_;refine bm (λm g=>∃(k:Nat) (v:Value),g=⟨[(5,.i k),(4,.i i),(1,.ptr (cH p)),(3,.p da 0),(2,.p dg 0)],.own 3 1 v::.au da 86 [.bp (ca p),.as (.ints (mO p.aF i k)) v]::.au dg 86 [.val aX,.val aX]::H⟩/\m=(p.aF.getD i default).aw.length - k/\k<=(p.aF.getD i default).aw.length) (⟨0,_,rfl,rfl,aa⟩) ?_;rintro m _ ⟨k,v,rfl,rfl,w⟩;refine c6 ?_;refine az (λae=>?_) λae=>?_
  ·have j:k<(p.aF.getD i default).aw.length:=by omega
   refine a8 ?_;refine ai.cc (x:=.aj 1 [[.i ((i:Int)+3)]]) rfl rfl rfl ie ?_;refine ai.dJ rfl rfl rfl rfl rfl rfl rfl rfl (aq.refl _) (rfl) (λ_=>dt) pC pC (λPZ=>?_);refine bQ ?_;exact aU (⟨k+1,PZ,by rw[Nx],rfl,j⟩)
  ·obtain rfl:k=(p.aF.getD i default).aw.length:=by omega
   refine bA ?_;exact aU (⟨i+1,v,by rw[ND a],rfl,a⟩)
 ·obtain rfl:i=p.aF.length:=by omega
  rw[Ny];refine bS ?_;refine aZ.cl (rs:=[.cell 2 86]) (H':=H) rfl (s4) (.cons (aq.agg (.cons ig CN)) .nil) bE ?_;exact⟨dP,rfl⟩
def P0(n):aI prog 146 [.i n] (.b (om n)):=by
 intro H;refine aM func146 λB I a=>?_;refine gv ?_;refine aB 2 H ?_;exact⟨bn (by rw[om,Bool.cond_false_right]),rfl⟩
def abf(p)(f:p.aF.length<=4000000)(c):aI prog 211 [ab.prog p,.i c] (.b (decide (c>=3) && decide (c<3+p.aF.length))):=by
 intro H;refine aM func211 λB I a=>?_;refine nz ?_;refine aB 4 H ?_;exact⟨bn (by rw[Bool.cond_false_right]),rfl⟩
def abg(p:Prog)(x:gR):aI prog 151 [ab.prog p,ab.zJ x] (.i (Bj p x)):=by
 intro H;refine aM (n:=47) func151 λB I w=>?_;refine nz ?_;refine az (λaf=>?_) λaf=>?_
 ·refine aQ ?_;refine bc (λae=>?_) (λae=>?_)
  ·replace ae:=dA ae;refine aJ ?_;refine aB 4 (H) ?_;exact⟨fJ j6,rfl⟩
  ·simp_all
 ·refine ay ?_;refine az (λak=>?_) λak=>?_
  ·refine aQ ?_;refine bc (λaL=>?_) (λaL=>?_)
   ·replace aL:=dA aL;refine aJ ?_;refine aB 4 (H) ?_;exact⟨fJ j6,rfl⟩
   ·simp_all
  ·refine ay ?_;refine az (λbo=>?_) λbo=>?_
   ·refine aQ ?_;refine bc (λcm=>?_) (λcm=>?_)
    ·replace cm:=dA cm;refine aJ ?_;refine aB 4 (H) ?_;exact⟨fJ j6,rfl⟩
    ·simp_all
   ·refine ay ?_;refine az (λdx=>?_) λdx=>?_
    ·refine aQ ?_;refine bc (λdF=>?_) (λdF=>?_)
     ·replace dF:=dA dF;refine aJ ?_;refine aB 4 (H) ?_;exact⟨fJ j6,rfl⟩
     ·simp_all
    ·refine aS ?_;refine az (λde=>?_) λde=>?_
     ·refine aJ ?_;refine aB 4 (H) ?_;exact⟨fJ j6,rfl⟩
     ·refine aP ?_;refine az (λdc=>?_) λdc=>?_
      ·refine aQ ?_;refine bc (λhM=>?_) (λhM=>?_)
       ·replace hM:=dA hM;refine aJ ?_;refine aB 4 (H) ?_;exact⟨fJ j6,rfl⟩
       ·simp_all
      ·refine ay ?_;refine az (λh6=>?_) λh6=>?_
       ·refine aQ ?_;refine bc (λjA=>?_) (λjA=>?_)
        ·replace jA:=dA jA;refine aJ ?_;refine aB 4 (H) ?_;exact⟨fJ j6,rfl⟩
        ·simp_all
       ·refine aS ?_;refine az (λkq=>?_) λkq=>?_
        ·refine aJ ?_;refine aB 4 (H) ?_;exact⟨fJ j6,rfl⟩
        ·refine aP ?_;refine az (λlP=>?_) λlP=>?_
         ·refine aQ ?_;refine bc (λmi=>?_) (λmi=>?_)
          ·replace mi:=dA mi;refine aJ ?_;refine aB 4 (H) ?_;exact⟨fJ j6,rfl⟩
          ·simp_all
         ·refine ay ?_;refine az (λsq=>?_) λsq=>?_
          ·refine aQ ?_;refine bc (λpg=>?_) (λpg=>?_)
           ·replace pg:=dA pg;refine aJ ?_;refine aB 4 (H) ?_;exact⟨fJ j6,rfl⟩
           ·simp_all
          ·refine ay ?_;refine az (λAd=>?_) λAd=>?_
           ·refine aQ ?_;refine bc (λrj=>?_) (λrj=>?_)
            ·replace rj:=dA rj;refine aJ ?_;refine aB 4 (H) ?_;exact⟨fJ j6,rfl⟩
            ·simp_all
           ·refine ay ?_;refine az (λxy=>?_) λxy=>?_
            ·refine aQ ?_;refine bc (λtP=>?_) (λtP=>?_)
             ·replace tP:=dA tP;refine aJ ?_;refine aB 4 (H) ?_;exact⟨fJ j6,rfl⟩
             ·simp_all
            ·refine ay ?_;refine az (λvq=>?_) λvq=>?_
             ·refine aQ ?_;refine bc (λsv=>?_) (λsv=>?_)
              ·replace sv:=dA sv;refine aJ ?_;refine aB 4 (H) ?_;exact⟨fJ j6,rfl⟩
              ·simp_all
             ·refine ay ?_;refine az (λAe=>?_) λAe=>?_
              ·refine aQ ?_;refine bc (λAf=>?_) (λAf=>?_)
               ·replace Af:=dA Af;refine aJ ?_;refine aB 4 (H) ?_;exact⟨fJ j6,rfl⟩
               ·simp_all
              ·refine ay ?_;refine az (λHS=>?_) λHS=>?_
               ·refine aQ ?_;refine bc (λAg=>?_) (λAg=>?_)
                ·replace Ag:=dA Ag;refine aJ ?_;refine aB 4 (H) ?_;exact⟨fJ j6,rfl⟩
                ·simp_all
               ·refine aS ?_;refine az (λHT=>?_) λHT=>?_
                ·refine aJ ?_;refine aB 4 (H) ?_;exact⟨fJ j6,rfl⟩
                ·refine ay ?_;refine az (λHU=>?_) λHU=>?_
                 ·refine aJ ?_;refine aB 4 (H) ?_;exact⟨fJ j6,rfl⟩
                 ·refine ay ?_;refine az (λHV=>?_) λHV=>?_
                  ·refine dW ?_;refine bc (λwu=>?_) (λwu=>?_)
                   ·refine ay ?_;refine ag ((by first | exact ad.fC rfl rfl rfl rfl rfl Ln | exact ad.ep rfl rfl rfl rfl rfl Ln)) ?_;refine aP ?_;refine aB 4 (H) ?_;exact⟨fJ j6,rfl⟩
                   ·have wu: ¬(0<=x.n/\x.n<p.c2.length):=by
                     simp only[Bool.cond_false_right,Bool.and_eq_false_iff,decide_eq_false_iff_not] at wu;omega
                    refine a8 ?_;refine aB 4 (H) ?_;exact⟨fJ j6,rfl⟩
                  ·refine a8 ?_;refine aB 4 (H) ?_;exact⟨fJ j6,rfl⟩
def abh(p)(g:p.aF.length<=4000000)(x)(a):aI prog 152 [ab.prog p,ab.zJ x,.i a] (.b (fW p x a)):=by
 intro H;refine aM func152 λB I h=>?_;refine o8 ?_;refine az (λaf=>?_) λaf=>?_
 ·refine aV ?_;refine ag (.call .k (P0 x.n)) ?_;refine ay ?_;refine aB 6 H ?_;exact⟨bn uo,rfl⟩
 ·refine ay ?_;refine az (λae=>?_) λae=>?_
  ·refine gv ?_;refine aB 6 (H) ?_;exact⟨bn uo,rfl⟩
  ·refine aP ?_;refine az (λak=>?_) λak=>?_
   ·refine aQ ?_;refine bc (λaL=>?_) (λaL=>?_)
    ·replace aL:=dA aL;refine jR ?_;refine aB 6 (H) ?_;exact⟨bn uo,rfl⟩
    ·simp_all
   ·refine aS ?_;refine az (λbo=>?_) λbo=>?_
    ·refine jR ?_;refine aB 6 (H) ?_;exact⟨bn uo,rfl⟩
    ·refine ay ?_;refine az (λcm=>?_) λcm=>?_
     ·refine uW ?_;refine aB 6 (H) ?_;exact⟨bn uo,rfl⟩
     ·refine aP ?_;refine az (λdx=>?_) λdx=>?_
      ·refine aQ ?_;refine bc (λdF=>?_) (λdF=>?_)
       ·replace dF:=dA dF;refine iY ?_;refine aB 6 (H) ?_;exact⟨bn uo,rfl⟩
       ·simp_all
      ·refine aS ?_;refine az (λde=>?_) λde=>?_
       ·refine iY ?_;refine aB 6 (H) ?_;exact⟨bn uo,rfl⟩
       ·refine bS ?_;refine aB 6 (H) ?_;exact⟨bn (by unfold fW qw;simp_all;rw[Bool.eq_iff_iff];simp;omega),rfl⟩
def HW(k):aI prog 98 [.i k] (.b (k==1 || k==4)):=by
 intro H;refine aM func98 λB I a=>?_;refine gv ?_;refine aB 2 H ?_;exact⟨bn (by rw[Bool.cond_true_left]),rfl⟩
section
open Go.Shelf Go.Sort
def abi:Ren:={f:=λx=>match x with | 125=>202 | 128=>227 | 129=>228 | 189=>176 | 215=>251 | 216=>224 | 257=>201 | 294=>218 | 295=>219 | 296=>220 | 297=>221 | 298=>222 | 299=>223 | 300=>225 | 301=>226 | 328=>246 | 329=>247 | 330=>248 | 331=>249 | 332=>250 | 343=>264 | n=>n,t:=λx=>match x with | 0=>0 | 3=>3 | 4=>4 | 5=>5 | 9=>9 | 28=>23 | 46=>210 | 51=>239 | 53=>183 | 131=>138 | 182=>264 | 183=>265 | 218=>281 | 222=>146 | 228=>293 | 229=>294 | n=>n,g:=λx=>x}
def Dm:Lays.n189 prog abi where
 mixed:=by kernel_rfl
 f125:=func202.trans (congrArg some ax)
 f128:=func227.trans (congrArg some ax)
 f129:=func228.trans (congrArg some ax)
 f189:=func176.trans (congrArg some ax)
 f215:=func251.trans (congrArg some ax)
 f216:=func224.trans (congrArg some ax)
 f257:=func201.trans (congrArg some ax)
 f294:=func218.trans (congrArg some ax)
 f295:=func219.trans (congrArg some ax)
 f296:=func220.trans (congrArg some ax)
 f297:=func221.trans (congrArg some ax)
 f298:=func222.trans (congrArg some ax)
 f299:=func223.trans (congrArg some ax)
 f300:=func225.trans (congrArg some ax)
 f301:=func226.trans (congrArg some ax)
 f328:=func246.trans (congrArg some ax)
 f329:=func247.trans (congrArg some ax)
 f330:=func248.trans (congrArg some ax)
 f331:=func249.trans (congrArg some ax)
 f332:=func250.trans (congrArg some ax)
 f343:=func264.trans (congrArg some ax)
 t0:=underlying0
 a0:=Tryz.isAgg0
 z0:=Tryz.sizeOf0
 v0:=zeroValue0
 t3:=underlying3
 a3:=Tryz.isAgg3
 z3:=Tryz.sizeOf3
 v3:=zeroValue3
 t4:=underlying4
 a4:=Tryz.isAgg4
 z4:=Tryz.sizeOf4
 v4:=zeroValue4
 t5:=underlying5
 a5:=Tryz.isAgg5
 z5:=Tryz.sizeOf5
 v5:=zeroValue5
 t9:=underlying9
 a9:=Tryz.isAgg9
 z9:=Tryz.sizeOf9
 v9:=zeroValue9
 t28:=underlying23
 a28:=Tryz.isAgg23
 z28:=Tryz.sizeOf23
 v28:=zeroValue23
 t46:=underlying210
 a46:=Tryz.isAgg210
 z46:=Tryz.sizeOf210
 v46:=zeroValue210
 t51:=underlying239
 a51:=Tryz.isAgg239
 z51:=Tryz.sizeOf239
 v51:=zeroValue239
 t53:=underlying183
 a53:=Tryz.isAgg183
 z53:=Tryz.sizeOf183
 v53:=zeroValue183
 t131:=underlying138
 a131:=Tryz.isAgg138
 z131:=Tryz.sizeOf138
 v131:=zeroValue138
 t182:=underlying264
 a182:=Tryz.isAgg264
 z182:=Tryz.sizeOf264
 v182:=zeroValue264
 t183:=underlying265
 a183:=Tryz.isAgg265
 z183:=Tryz.sizeOf265
 v183:=zeroValue265
 t218:=underlying281
 a218:=Tryz.isAgg281
 z218:=Tryz.sizeOf281
 v218:=zeroValue281
 t222:=underlying146
 a222:=Tryz.isAgg146
 z222:=Tryz.sizeOf146
 v222:=zeroValue146
 t228:=underlying293
 a228:=Tryz.isAgg293
 z228:=Tryz.sizeOf293
 v228:=zeroValue293
 t229:=underlying294
 a229:=Tryz.isAgg294
 z229:=Tryz.sizeOf294
 v229:=zeroValue294
def Dn(l):(fj l).flatten=(l.map (.int .i64)).map .val:=by
 induction l with
 | nil=>rfl
 | cons x r a=>simp only[fj,List.map_cons,List.flatten_cons] at a ⊢;rw[a];rfl
def abj(B)(v)(l)(V:l.length<=1000000)(Hx):eM B prog 176 [.val v] (hD v l::Hx) (λy T=>y= .bj []/\T=hD v (hV l)::Hx) (λ_ _=>False):=by
 refine⟨ax,λI w M A D L=>?_⟩;obtain⟨u,rfl⟩:∃u,M= [u]:=by cases L with | cons _ u _ _ _ U=>cases U;exact⟨u,rfl⟩
 have P:u=v:=by cases L with | cons _ u _ _ K _=>exact bZ K
 subst P;obtain⟨Q,C,z,t⟩:=D.ok _ dB;have E:Q=l.map (.int .i64):=by
  rw[Dn] at z;exact o3 z
 subst E;rcases C.2 with⟨rfl,N⟩ | ⟨g,cap,cur,rfl,hBg,av,od,o4,hcs,lG⟩
 ·have:l= []:=by cases l with | nil=>rfl | cons x r=>simp[fj] at N
  subst this;refine (Any.slices_Sort_int_none Dm none 0 w).mono λe q ⟨J,oc⟩=>?_;subst oc;exact⟨I,_,A,.refl _ _ _,D,.inl ⟨_,_,J,.bj _ _ .nil,rfl,by simp[hV]⟩⟩
 ·have f:(fj l).length=l.length:=by simp[fj]
  rw[f] at od lG;rw[Nat.mul_one] at lG;have c:(hV l).length=l.length:=List.length_mergeSort _;refine ((f▸Any.slices_Sort_int Dm g 0 cap l w (holds_of_blockI av lG) (Array.getElem?_eq_some_iff.1 av).1 aa:Calls prog 176 #[.slice (some ⟨g,0,none⟩) (fj l).length cap] w _)).mono λe q ⟨J,n,os,oc⟩=>?_;have H:w.grownBy q (some g):=by subst oc;exact grownBy_sortedI _
  have O:q.ownsRow B 3 1 (.slice (some ⟨g,0,none⟩) l.length cap) l.length ((hV l).map (.int .i64)):=by
   subst oc;exact ownsRow_sortedI (ss:=l) c hBg av od o4 hcs
  have j:Go.RowKit.Below B w q:=(Go.RowKit.Below.refl B w).grown H A.base (λj S=>by cases S;exact hBg);have h:∀b i,I b i->q.cell? ⟨b,i,none⟩=w.cell? ⟨b,i,none⟩:=λb i s=>
   World.cell?_of_block (a:=⟨b,i,none⟩) (H.block b (A.lt s) (λe=>by cases e;exact t _ rfl i s))
  have m:er I w I q:=⟨λ_ _ x=>x,h⟩;refine⟨I,hD (.slice (some ⟨g,0,none⟩) (fj l).length cap) (hV l)::Hx,⟨Nat.le_trans A.base j.size,λb o s=>by rw[h b o s];exact A.there b o s⟩,⟨m.ix,m.cell,j⟩,?_,.inl ⟨_,_,J,.bj _ _ .nil,rfl,rfl⟩⟩;refine D.fE (.head _ _ _) m (λb G F=>H.block b G (λe=>F (by cases e;rfl))) (λb o K=>.inl K) ⟨(hV l).map (.int .i64),?_,?_,t⟩ λb R=>.inl R
  ·rw[f,show (fj (hV l)).length=l.length by simp[fj,c]];exact O
  ·rw[Dn];exact lA _
end
instance:q2 prog 128 (3,4):=⟨ax,ax⟩
instance:uV prog 4 (.bool false):=⟨ax⟩
def HX(p)(T:p.aF.length<=100)(C:∀c∈p.aF,c.aw.length<=1000)(F:∀c∈p.aF,∀x∈c.parents,fX x){k}(E:fX k)(N:k<3+p.aF.length):aI prog 139 [ab.prog p,.i k] (.ints (cw p k)):=by
 intro H;refine aM func139 λB I U=>?_;refine aJ ?_;refine .mkMap rfl rfl rfl rfl λbt=>?_;refine aR ?_;refine .iA (l:=[]) (u':=.b true) rfl rfl X0 rfl rfl rfl rfl rfl rfl gx CM .nil E ?_;refine gv ?_;refine .zc 3 1 ?_;have M: -9223372036854775808<=k:=E.1;refine bm (λm D=>∃(c:Int) (a:al) (v:Value) (l:List (Int×ab)) (S:al),D=⟨[(7,.i c),(6,.val v),(5,.val (.map (some bt))),(2,.ptr (cH p))],hD v a::dV bt l::H⟩/\m=(c - 2).toNat/\(c<=k/\(c=k\/2<=c))/\oq l S/\jT p (c - 2).toNat S a=jT p (k - 2).toNat [k] []/\a.length+1000*(c - 2).toNat<=1000*(k - 2).toNat) (⟨k,[],_,_,[k],rfl,rfl,⟨Int.le_refl _,.inl rfl⟩,oq.nil.put E,rfl,aT⟩) ?_;rintro m _ ⟨c,a,v,l,S,rfl,rfl,O,z,A,K⟩;refine aP ?_;refine az (λaf=>?_) λaf=>?_
 ·have G:3<=c:=by omega
  obtain⟨n,J⟩:∃n:Nat,c=n+3:=⟨(c - 3).toNat,aa⟩;have q:(c - 3).toNat<p.aF.length:=by omega
  have L:=C _ (bH q);have h:=F _ (bH q);refine aJ ?_;refine ag (.tw rfl rfl rfl rfl rfl uY z.ok ey) ?_;refine aQ ?_;refine .le 20 (y:=.b (S.contains c)) rfl (z.look c) ?_;refine az (λae=>?_) λae=>?_
  ·refine bQ ?_;refine .MX (fj (p.aF.getD (c - 3).toNat default).aw) rfl rfl rfl rfl rfl rfl rfl rfl gx (si _) (λv=>.head _ _ _) (by simp only[xk];omega) (by simp only[xk];omega) (λDp=>?_);refine aV ?_;refine aA.k9 (H':=hD Dp (a++(p.aF.getD (c - 3).toNat default).aw)::dV bt l::H) (congrArg (· ::_) (N7 _ _ _)) ?_;refine di ?_;refine aA.ez (t:=36) rfl (λaln=>?_);refine bm (λm D=>∃(j:Nat) (s:List (Int×ab)),D=⟨[(38,.i j),(37,.i (p.aF.getD (c - 3).toNat default).parents.length),(36,ab.ints (p.aF.getD (c - 3).toNat default).parents),(7,.i c),(6,.val Dp),(5,.val (.map (some bt))),(2,.ptr (cH p))],hD Dp (a++(p.aF.getD (c - 3).toNat default).aw)::dV bt s::H⟩/\m=(p.aF.getD (c - 3).toNat default).parents.length - j/\j<=(p.aF.getD (c - 3).toNat default).parents.length/\oq s (S++(p.aF.getD (c - 3).toNat default).parents.take j)) (⟨0,l,rfl,rfl,aa,by simpa using z⟩) ?_;rintro m _ ⟨j,s,rfl,rfl,V,g⟩;refine ay ?_;refine az (λak=>?_) λak=>?_
   ·have f:j<(p.aF.getD (c - 3).toNat default).parents.length:=by omega
    refine c6 ?_;refine ai.iA (u':=.b true) rfl rfl (.inl rfl) rfl rfl rfl rfl rfl rfl (aq.refl _) (.tail _ _ _ _ _ (.head _ _ _)) g.ok (h _ (bH f)) ?_;refine aP ?_;exact aU (⟨j+1,_,rfl,rfl,f,by rw[<-c3 f, <-List.append_assoc];exact g.put (h _ (bH f))⟩)
   ·obtain rfl:j=(p.aF.getD (c - 3).toNat default).parents.length:=by omega
    rw[List.take_length] at g;refine bA ?_;exact aU (⟨c - 1,a++(p.aF.getD (c - 3).toNat default).aw,Dp,s,S++(p.aF.getD (c - 3).toNat default).parents,rfl,rfl,⟨aa,.inr aa⟩,g,by rw[<-A,Ye J ae],by rw[List.length_append];omega⟩)
  ·refine aJ ?_;exact aU (⟨c - 1,a,v,l,S,rfl,rfl,⟨aa,.inr aa⟩,z,by rw[<-A,Yf J ae],aa⟩)
 ·have G:c<=2:=by omega
  rw[show (c - 2).toNat=0 by omega] at A;have r:a=jT p (k - 2).toNat [k] []:=A;refine aJ ?_;refine cI .k (abj B v a aa _) ?_;rintro y R ⟨rfl,rfl⟩;refine aH ?_;refine aA.tp (d:=6) (els:=fj (hV a)) rfl (.head _ _) (λe Q=>by obtain⟨y,_,rfl⟩:=List.mem_map.1 Q;rfl) ?_;refine aQ ?_;refine ag (ad.call .k (Zi _)) ?_;refine aV ?_;refine aB 4 (H) ?_;exact⟨by rw[r];rfl,rfl⟩
def abk(V:p.Small)(H:aC):bP prog 125 [ab.prog p] H (λ_ H'=>fO p=true/\H'=H) (λy H'=>y=tK/\fO p=false/\H'=H):=by
 refine aM (n:=112) func125 λB I bN=>?_;have a0:=V.aF;have N:=V.parents;refine bA ?_;rcases pY (decide (p.aF.length<=10)) with o | o
 ·refine ai.ma rfl rfl (.mk' rfl rfl rfl rfl rfl) (mh (by rw[<-o];by_cases h:p.aF.length<=10 <;> simp[h] <;> omega) _) eU ?_;intro a w s;exact kL (P:=prog) (fn:=Tryz.f125) eU bE ⟨rfl,Od o,rfl⟩ a w s
 ·refine ai.mL rfl rfl rfl (.mk' rfl rfl rfl rfl rfl) (mT (by simp at o;simp;omega) _) ?_;have o:=of_decide_eq_true o;refine gv ?_;refine bm (λm z=>∃i:Nat,z=⟨[(24,.i i),(23,.i p.aF.length),(22,.aj 3 (p.aF.map pf)),(2,.i (ek (p.aF.take i))),(1,.ptr (cH p))],H⟩/\m=p.aF.length - i/\i<=p.aF.length/\jz (p.aF.take i) 0=true) (⟨0,rfl,rfl,aa,rfl⟩) ?_;rintro m _ ⟨i,rfl,rfl,aN,L⟩;refine ay ?_;refine az (λaf=>?_) λaf=>?_
  ·have g:i<p.aF.length:=by omega
   have O:=bH g;have E:=zS _ _ L;rw[List.length_take] at E;refine aJ ?_;refine bT (λdN=>?_);refine a8 ?_;rcases pY (decide ((p.aF.getD i default).aw.length<=4)) with D | D
   ·refine ai.ma rfl rfl (.mk' rfl rfl rfl rfl rfl) (mh (by simp at D;simp;omega) _) eU ?_;intro a w s;exact kL (P:=prog) (fn:=Tryz.f125) eU bE ⟨rfl,G8 g (by rw[D];rfl),rfl⟩ a w s
   ·refine ai.mL rfl rfl rfl (.mk' rfl rfl rfl rfl rfl) (mT (by simp at D;simp;omega) _) ?_;refine bA ?_;refine aA.ez (t:=34) rfl (λalo=>?_);have W:=of_decide_eq_true D;refine bm (λm z=>∃j:Nat,z=⟨[(36,.i j),(35,.i (p.aF.getD i default).aw.length),(34,ab.ints (p.aF.getD i default).aw),(24,.i i),(23,.i p.aF.length),(22,.aj 3 (p.aF.map pf)),(2,.i ((ek (p.aF.take i))+j:Nat)),(1,.ptr (cH p))],H⟩/\m=(p.aF.getD i default).aw.length - j/\j<=(p.aF.getD i default).aw.length/\iL ((p.aF.getD i default).aw.take j) (ek (p.aF.take i))=true) (⟨0,rfl,rfl,aa,rfl⟩) ?_;rintro m _ ⟨j,rfl,rfl,Y,B⟩;refine ay ?_;refine az (λae=>?_) λae=>?_
    ·have r:j<(p.aF.getD i default).aw.length:=by omega
     refine iB ?_;rcases pY (((p.aF.getD i default).aw.getD j default==(((ek (p.aF.take i))+j:Nat):Int))) with G | G
     ·refine ai.ma rfl rfl (.mk' rfl rfl rfl rfl rfl) (mh (G) _) eU ?_;intro a w s;exact kL (P:=prog) (fn:=Tryz.f125) eU bE ⟨rfl,Oe g r G,rfl⟩ a w s
     ·refine ai.mL rfl rfl rfl (.mk' rfl rfl rfl rfl rfl) (mT (G) _) ?_;refine di ?_;exact aU (⟨j+1,cM,rfl,r,by rw[C8 _ _ _ r,B,G];rfl⟩)
    ·obtain rfl:j=(p.aF.getD i default).aw.length:=by omega
     rw[List.take_length] at B;refine bQ ?_;exact aU (⟨i+1,by rw[G5 g],rfl,g,by rw[zR _ _ _ g,L,D,Nat.zero_add,B];rfl⟩)
  ·obtain rfl:i=p.aF.length:=by omega
   rw[List.take_length] at L ⊢;refine aJ ?_;refine ag (ad.call .k (graph p aa N)) ?_;refine bA ?_;refine ai.cG rfl rfl rfl rfl rfl rfl (λav=>ad.call (.mk' rfl rfl rfl rfl cU) (Zg (ca p))) ?_;refine aQ ?_;rcases pY ((((ek p.aF:Int)==p.aw) && fZ (ca p))) with b7 | b7
   ·refine ai.ma rfl rfl (.mk' rfl rfl rfl rfl rfl) (mh Lk _) eU ?_;intro a w s;exact kL (P:=prog) (fn:=Tryz.f125) eU bE ⟨rfl,G9 b7,rfl⟩ a w s
   ·refine ai.mL rfl rfl rfl (.mk' rfl rfl rfl rfl rfl) (mT Lk _) ?_;rw[Bool.and_eq_true] at b7;obtain⟨Q,v⟩:=b7;obtain⟨_,R⟩:=Of v;have F:=va _ _ L;have bI:(ca p).length=p.aF.length:=by simp[ca]
    refine bA ?_;refine bm (λm z=>∃i:Nat,z=⟨[(63,.i i),(62,.i p.aF.length),(61,.aj 3 (p.aF.map pf)),(7,ab.bp (ca p)),(1,.ptr (cH p))],H⟩/\m=p.aF.length - i/\i<=p.aF.length/\(List.range i).all (nE p)=true) (⟨0,rfl,rfl,aa,rfl⟩) ?_;rintro m _ ⟨i,rfl,rfl,aN,T⟩;refine ay ?_;refine az (λak=>?_) λak=>?_
    ·have g:i<p.aF.length:=by omega
     have O:=bH g;refine a8 ?_;refine bT (λgK=>?_);refine a8 ?_;refine ag (ad.call .k (PF v (c:=(i:Int)+3) aa)) ?_;refine bA ?_;rcases pY ((dH (ca p) ((i:Int)+3)).isEmpty) with J | J
     ·refine ai.mL rfl rfl rfl (.mk' rfl rfl rfl rfl rfl) (mT (by rw[J];rfl) _) ?_;refine aP ?_;refine ag (ad.call .k (HX p aa (λc h=>by have:=(F c h).1;omega) R (k:=(i:Int)+3) ey aa)) ?_;refine ai.mkMap rfl rfl rfl rfl (λbt=>?_);refine di ?_;refine aA.vd (H':=dV bt []::H) (.cons_cons _ (.cons _ (.refl _))) ?_;obtain⟨f,q⟩:∃f,f=cw p ((i:Int)+3):=⟨_,rfl⟩;rw[<-q];refine aA.ez (t:=84) rfl (λalp=>?_);refine bm (λm z=>∃(j:Nat) (l:List (Int×ab)),z=⟨[(86,.i j),(85,.i (p.aF.getD i default).inits.length),(84,.aj 2 ((p.aF.getD i default).inits.map q5)),(12,ab.ints f),(13,.val (.map (some bt))),(63,.i i),(62,.i p.aF.length),(61,.aj 3 (p.aF.map pf)),(7,ab.bp (ca p)),(1,.ptr (cH p))],dV bt l::H⟩/\m=(p.aF.getD i default).inits.length - j/\j<=(p.aF.getD i default).inits.length/\oq l (((p.aF.getD i default).inits.take j).map (·.1))/\kQ f ((p.aF.getD i default).inits.take j) []=true) (⟨0,[],rfl,rfl,aa,oq.nil,rfl⟩) ?_;rintro m _ ⟨j,l,rfl,rfl,Y,S,A⟩;refine ay ?_;refine az (λaL=>?_) λaL=>?_
      ·have r:j<(p.aF.getD i default).inits.length:=by omega
       obtain⟨X,M⟩:∃X,X=(p.aF.getD i default).inits.getD j default:=⟨_,rfl⟩;have C:f.contains X.1=true->fX X.1:=λh=>by
        rw[q] at h;obtain⟨c,Z,ak⟩:=G7 (List.contains_iff_mem.1 h);have:=(F c Z).2 _ ak;unfold fX;omega
       refine aJ ?_;refine bT (λhk=>?_);refine aV ?_;rw[<-M];refine aV ?_;refine ag (ad.call .k (z8 f X.1)) ?_;refine aV ?_;refine gw (λav=>ad.Yg rfl rfl (cf av) rfl (cf av) (.tail _ (.head _)) S (C av)) ?_;refine aS ?_;refine ai.cG rfl rfl rfl rfl rfl rfl (λav=>ad.call (.mk' rfl rfl rfl rfl cU) (O9 X.2)) ?_;refine aR ?_;rcases pY ((f.contains X.1 && !(((p.aF.getD i default).inits.take j).map (·.1)).contains X.1 && om X.2)) with x | x
       ·refine ai.ma rfl rfl (.mk' rfl rfl rfl rfl rfl) (mh (by simp only[Bool.cond_false_right];exact x) _) eU ?_;intro a w s;exact kL (P:=prog) (fn:=Tryz.f125) eU bE ⟨rfl,zT g (by rw[q] at x;exact Ha r (by rw[<-M];exact x)),rfl⟩ a w s
       ·refine ai.mL rfl rfl rfl (.mk' rfl rfl rfl rfl rfl) (mT (by simp only[Bool.cond_false_right];exact x) _) ?_;have K:f.contains X.1=true:=by simp only[Bool.and_eq_true] at x;exact x.1.1
        refine ay ?_;refine ai.iA (u':=.b true) rfl rfl (.inl rfl) rfl rfl rfl rfl rfl rfl (aq.refl _) (.tail _ _ _ _ _ (.head _ _ _)) S.ok (C K) ?_;refine aP ?_;exact aU (⟨j+1,_,rfl,rfl,r,by rw[<-c3 r,List.map_append, <-M];exact S.put (C K),by rw[C9 f _ _ _ r,A, <-M,List.nil_append,x];rfl⟩)
      ·obtain rfl:j=(p.aF.getD i default).inits.length:=by omega
       rw[List.take_length] at A;refine bQ ?_;exact aU (⟨i+1,rfl,rfl,g,lO T (by unfold nE;rw[J, <-q,A];rfl)⟩)
     ·refine ai.ma rfl rfl (.mk' rfl rfl rfl rfl rfl) (mh (by rw[J];rfl) _) eU ?_;intro a w s;exact kL (P:=prog) (fn:=Tryz.f125) eU bE ⟨rfl,zT g (by unfold nE;rw[J];rfl),rfl⟩ a w s
    ·obtain rfl:i=p.aF.length:=by omega
     refine aV ?_;refine gQ [] (H) ?_;exact⟨by unfold fO;rw[decide_eq_true o,L,Q,v,T];rfl,rfl⟩
def abl{i}(a:i<p.aF.length):(ca p).getD i default=(p.aF.getD i default).parents:=by
 rw[ca,List.getD_eq_getElem?_getD,List.getElem?_map,List.getD_eq_getElem?_getD,List.getElem?_eq_getElem a];rfl
def abm{i}(a:i<p.aF.length)(h: ¬(p.aF.getD i default).parents.length<=3):fO p=false:=
 G9 (by rw[zM (g:=ca p) (i:=i) (by rw[ca,List.length_map];exact a) (by rw[abl a,decide_eq_false h];rfl),Bool.and_false])
def P1{W}{c x}:(eg W c).contains x=(decide (0<=x) && decide (x<W.owner.length) && tO W c x.toNat):=by
 rw[Bool.eq_iff_iff,List.contains_iff_mem,eg,List.mem_map];simp[Bool.and_eq_true,decide_eq_true_eq,List.mem_filter,List.mem_range];constructor
 ·rintro⟨s,⟨f,a⟩,rfl⟩;exact⟨lK,by rw[Int.toNat_natCast];exact a⟩
 ·rintro⟨⟨f,a⟩,g⟩;exact⟨x.toNat,⟨aa,g⟩,aa⟩
def abn{x}{q}(a:q<l.length)(h:((l.take q).map (·.1)).contains x=false)(c: ¬(l.getD q default).1=x):((l.take (q+1)).map (·.1)).contains x=false:=by
 rw[<-c3 a,List.map_append,List.contains_eq_any_beq,List.any_append, <-List.contains_eq_any_beq,h];simp;exact λe=>c (by rw[e,List.getD_eq_getElem?_getD])
def abo{x}{q j}(f:q<j)(c:j<=l.length)(a:(l.getD q default).1=x):((l.take j).map (·.1)).contains x=true:=by
 rw[List.contains_iff_mem,List.mem_map];refine⟨l.getD q default,?_,a⟩;rw[List.getD_eq_getElem?_getD,List.getElem?_eq_getElem aa];exact List.mem_take_iff_getElem.2 ⟨q,aa,rfl⟩
def abp{W}(h:cy W){c:Int}(a:3<=c)(j:c<3+W.parents.length){n:Nat}(hn:W.owner.length=n){x:Int}(g:(!bif decide (x<0) then true else decide (x>=n))=true):aI prog 85 [ab.world W,.i c,.i x] (.b (tO W c x.toNat)):=by
 have f:0<=x/\x<n:=by
  simp only[Bool.cond_true_left,Bool.not_eq_true',Bool.or_eq_false_iff,decide_eq_false_iff_not] at g;omega
 have h:=PX h a j (s:=x.toNat) aa;rwa [Int.toNat_of_nonneg f.1] at h
def abq(U:p.Small):aI prog 94 [ab.prog p] (.b (fO p)):=by
 intro H;refine aM func94 λB I bN=>?_;have a0:=U.aF;have B:=U.parents;refine dW ?_;refine az (λaf=>?_) λaf=>?_
 ·refine aP ?_;refine aB 2 (H) ?_;exact⟨bn (Od cF).symm,rfl⟩
 ·have F:p.aF.length<=10:=by omega
  refine c6 ?_;refine bm (λm q=>∃i:Nat,q=⟨[(4,.i i),(3,.i (ek (p.aF.take i))),(1,.ptr (cH p))],H⟩/\m=p.aF.length - i/\i<=p.aF.length/\jz (p.aF.take i) 0=true) iI ?_;rintro m _ ⟨i,rfl,rfl,aN,z⟩;refine bQ ?_;refine az (λae=>?_) λae=>?_
  ·have a:i<p.aF.length:=by omega
   have A:=zS _ _ z;rw[List.length_take] at A;refine Nf ?_;refine bc (λak=>?_) (λak=>?_)
   ·rw[Bool.cond_true_left,Bool.or_eq_true,decide_eq_true_eq,decide_eq_true_eq] at ak;have l:fO p=false:=by
     rcases ak with ak | ak
     ·exact G8 a (by rw[decide_eq_false aa];rfl)
     ·exact abm a aa
    refine bS ?_;refine aB 2 (H) ?_;exact⟨bn l.symm,rfl⟩
   ·rw[Bool.cond_true_left,Bool.or_eq_false_iff,decide_eq_false_iff_not,decide_eq_false_iff_not] at ak;have P:(p.aF.getD i default).aw.length<=4:=by omega
    refine aJ ?_;refine bm (λm q=>∃j:Nat,q=⟨[(6,.i j),(5,ab.ints (p.aF.getD i default).aw),(4,.i i),(3,.i ((ek (p.aF.take i))+j:Nat)),(1,.ptr (cH p))],H⟩/\m=(p.aF.getD i default).aw.length - j/\j<=(p.aF.getD i default).aw.length/\iL ((p.aF.getD i default).aw.take j) (ek (p.aF.take i))=true) iI ?_;rintro m _ ⟨j,rfl,rfl,Y,w⟩;refine a8 ?_;refine az (λaL=>?_) λaL=>?_
    ·have f:j<(p.aF.getD i default).aw.length:=by omega
     refine dW ?_;refine az (λbo=>?_) λbo=>?_
     ·have L:(p.aF.getD i default).aw.getD j default≠(((ek (p.aF.take i))+j:Nat):Int):=bo;refine iB ?_;refine aB 2 (H) ?_;exact⟨bn (Oe a f (by rw[beq_eq_false_iff_ne];exact L)).symm,rfl⟩
     ·have O:(p.aF.getD i default).aw.getD j default=(((ek (p.aF.take i))+j:Nat):Int):=bo;refine c6 ?_;exact aU (⟨j+1,cM,rfl,f,by rw[C8 _ _ _ f,w,O];simp⟩)
    ·obtain rfl:j=(p.aF.getD i default).aw.length:=by omega
     rw[List.take_length] at w;refine bA ?_;exact aU (⟨i+1,by rw[G5 a],rfl,a,by rw[zR _ _ _ a,z,decide_eq_true P,Nat.zero_add,w];rfl⟩)
  ·obtain rfl:i=p.aF.length:=by omega
   rw[List.take_length] at z ⊢;refine aJ ?_;refine ag (ad.call .k (HQ p aa B)) ?_;refine bS ?_;refine ai.cG rfl rfl rfl rfl rfl rfl (λav=>ad.call (.mk' rfl rfl rfl rfl cU) (aaI (ca p))) ?_;refine aV ?_;refine bc (λcm=>?_) (λcm=>?_)
   ·have l:fO p=false:=G9 (by revert cm;cases fZ (ca p) <;> cases cj:((ek p.aF:Int)==p.aw) <;> simp_all);refine aP ?_;refine aB 2 (H) ?_;exact⟨bn l.symm,rfl⟩
   ·have T:(((ek p.aF:Int)==p.aw) && fZ (ca p))=true:=by revert cm;cases fZ (ca p) <;> cases cj:((ek p.aF:Int)==p.aw) <;> simp_all
    rw[Bool.and_eq_true] at T;obtain⟨E,g⟩:=T;have R:ow p:=⟨F,z,beq_iff_eq.1 E,g⟩;have Z:=R.world;have bI:=rf p;have M:=tM p.aF 0;have o:(bR p).owner.length=ek p.aF:=M;have K:=va _ _ z;refine aS ?_;refine ag (ad.call .k (HR p aa (λc h=>⟨B c h,by have:=(K c h).1;omega⟩))) ?_;refine bT (λda=>?_);refine aS ?_;refine eB 8 ?_;refine aS ?_;refine bm (λm q=>∃i:Nat,q=⟨[(9,.i i),(8,.ptr (cB (bR p))),(7,ab.bp (ca p)),(3,.i (ek p.aF)),(1,.ptr (cH p))],H⟩/\m=p.aF.length - i/\i<=p.aF.length/\(List.range i).all (nE p)=true) iI ?_;rintro m _ ⟨i,rfl,rfl,aN,S⟩;refine bQ ?_;refine az (λdx=>?_) λdx=>?_
    ·have a:i<p.aF.length:=by omega
     have a2:(ca p).length=p.aF.length:=by simp[ca]
     have J:cw p ((i:Int)+3)=eg (bR p) ((i:Int)+3):=HK R aa aa;refine iB ?_;refine ag (ad.call .k (PU g (c:=(i:Int)+3) aa aa)) ?_;refine di ?_;refine bc (λdF=>?_) (λdF=>?_)
     ·have N:(dH (ca p) ((i:Int)+3)).isEmpty=true:=by revert dF;cases (dH (ca p) ((i:Int)+3)).isEmpty <;> simp
      refine bS ?_;refine aB 2 (H) ?_;exact⟨bn (zT a (by unfold nE;rw[N];rfl)).symm,rfl⟩
     ·have N:(dH (ca p) ((i:Int)+3)).isEmpty=false:=by revert dF;cases (dH (ca p) ((i:Int)+3)).isEmpty <;> simp
      refine uW ?_;refine aA.ez (t:=13) rfl (λalq=>?_);refine bm (λm q=>∃j:Nat,q=⟨[(14,.i j),(13,ab.mg (p.aF.getD i default).inits),(10,.i ((i:Int)+3)),(9,.i i),(8,.ptr (cB (bR p))),(7,ab.bp (ca p)),(3,.i (ek p.aF)),(1,.ptr (cH p))],H⟩/\m=(p.aF.getD i default).inits.length - j/\j<=(p.aF.getD i default).inits.length/\kQ (cw p ((i:Int)+3)) ((p.aF.getD i default).inits.take j) []=true) iI ?_;rintro m _ ⟨j,rfl,rfl,Y,v⟩;refine a8 ?_;refine az (λde=>?_) λde=>?_
      ·have f:j<(p.aF.getD i default).inits.length:=by omega
       have s:=P1 (W:=bR p) (c:=(i:Int)+3) (x:=((p.aF.getD i default).inits.getD j default).1);rw[<-J] at s;refine ay ?_;refine b0 2 153 ?_;refine o9 ?_;refine bW.dk 7 13 153 rfl ao rfl rfl ao ?_;refine uW ?_;refine bW.dk 16 23 153 rfl ao rfl rfl ao ?_;refine a8 ?_;refine gw (λav=>ad.call (.mk' rfl rfl rfl rfl cU) (abp Z (c:=(i:Int)+3) aa aa o av)) ?_;refine c6 ?_;refine bW.dk 27 29 153 rfl ao rfl rfl ao ?_;refine aP ?_;refine ai.cG rfl rfl rfl rfl rfl rfl (λav=>ad.call (.mk' rfl rfl rfl rfl cU) (P0 ((p.aF.getD i default).inits.getD j default).2)) ?_;refine aV ?_;refine bc (λdc=>?_) (λdc=>?_)
       ·have l:((cw p ((i:Int)+3)).contains ((p.aF.getD i default).inits.getD j default).1 && om ((p.aF.getD i default).inits.getD j default).2)=false:=by
         rw[s,o];simp only[Bool.cond_true_left] at dc;rw[<-Bool.not_eq_true,Bool.and_eq_true,Bool.and_eq_true,Bool.and_eq_true,decide_eq_true_eq,decide_eq_true_eq];rintro⟨⟨⟨gI,fF⟩,fc⟩,X⟩;rw[fc,X,decide_eq_false aa,decide_eq_false aa] at dc;cases dc
        refine iB ?_;refine aB 2 (H) ?_;exact⟨bn (zT a (Ha f (by revert l;cases (cw p ((i:Int)+3)).contains ((p.aF.getD i default).inits.getD j default).1 <;> cases om ((p.aF.getD i default).inits.getD j default).2 <;> simp))).symm,rfl⟩
       ·have r:(cw p ((i:Int)+3)).contains ((p.aF.getD i default).inits.getD j default).1=true/\om ((p.aF.getD i default).inits.getD j default).2=true:=by
         rw[s,o];simp only[Bool.cond_true_left,Bool.or_eq_false_iff,decide_eq_false_iff_not,Bool.not_eq_false'] at dc;rw[dc.1.2,decide_eq_true aa,decide_eq_true aa];exact⟨rfl,dc.2⟩
        refine aJ ?_;refine bm (λm q=>∃k:Nat,q=⟨[(15,.i k),(14,.i j),(13,ab.mg (p.aF.getD i default).inits),(10,.i ((i:Int)+3)),(9,.i i),(8,.ptr (cB (bR p))),(7,ab.bp (ca p)),(3,.i (ek p.aF)),(1,.ptr (cH p))],H⟩/\m=j - k/\k<=j/\(((p.aF.getD i default).inits.take k).map (·.1)).contains ((p.aF.getD i default).inits.getD j default).1=false) iI ?_;rintro m _ ⟨k,rfl,rfl,bD,V⟩;refine aJ ?_;refine az (λhM=>?_) λhM=>?_
        ·have C:k<j:=by omega
         refine aS ?_;refine b0 10 153 ?_;refine dW ?_;refine az (λh6=>?_) λh6=>?_
         ·refine uW ?_;refine aB 2 (H) ?_;exact⟨bn (zT a (Ha f (by rw[abo C aa h6];simp))).symm,rfl⟩
         ·refine aJ ?_;exact aU (⟨k+1,rfl,rfl,C,abn aa V h6⟩)
        ·obtain rfl:k=j:=by omega
         refine bA ?_;exact aU (⟨k+1,rfl,rfl,f,by rw[C9 _ _ _ _ f,v,List.nil_append,r.1,r.2,V];rfl⟩)
      ·obtain rfl:j=(p.aF.getD i default).inits.length:=by omega
       rw[List.take_length] at v;refine bA ?_;exact aU (⟨i+1,rfl,rfl,a,lO S (by unfold nE;rw[N,v];rfl)⟩)
    ·obtain rfl:i=p.aF.length:=by omega
     refine bA ?_;refine aB 2 (H) ?_;exact⟨bn (by unfold fO;rw[decide_eq_true F,z,E,g,S];rfl),rfl⟩
def P2(h:0<=i/\i<o.length):(o.map .i++more)[0+i.toNat*1]? =some (.i (o.getD i.toNat default)):=by
 rw[Nat.zero_add,Nat.mul_one,List.getElem?_append_left nV,List.getElem?_map,List.getD_eq_getElem?_getD,List.getElem?_eq_getElem aa];rfl
def abr(h:0<=i/\i<o.length):Nat.ble (0+i.toNat*1+1) (o.map ab.i++more).length=true:=by
 rw[Nat.ble_eq,List.length_append,List.length_map];omega
def abt{i v:Int}(h:0<=i/\i<o.length):(o.map ab.i++more).take (0+i.toNat*1)++[.i v]++(o.map ab.i++more).drop (0+i.toNat*1+1)=(o.set i.toNat v).map .i++more:=by
 rw[Nat.zero_add,Nat.mul_one,List.take_append_of_le_length nV,List.drop_append_of_le_length nV,List.map_set,List.set_eq_take_append_cons_drop,if_pos nV];simp
def HY(c:x.cu+f=14)(h:(visit p next f x out).2=some o):o.length=out.length:=by
 rw[(xm (p:=p) (next:=next) f x out c).end_ o h,xn]
def oz(p:Prog)(next:Bool)(f:Nat)(x:dC)(out:al)(nb:Nat)(more:bl)(H:aC)(y:ab)(H':aC):Prop:=match (visit p next f x out).2 with
 | some o=>y= .b true/\H'= .au nb 3 (o.map ab.i++more)::H
 | none=>y= .b false/\∃o':al,H'= .au nb 3 (o'.map ab.i++more)::H
def HZ{nb}(h:(visit p next f x out).2=none)(o':al):oz p next f x out nb more H (.b false) (.au nb 3 (o'.map .i++more)::H):=by
 unfold oz;rw[h];exact⟨rfl,o',rfl⟩
def abu{nb}(h:(visit p next f x out).2=some o):oz p next f x out nb more H (.b true) (.au nb 3 (o.map .i++more)::H):=by
 unfold oz;rw[h];exact⟨rfl,rfl⟩
def P3(p)(x)(a):(bif bif bif decide (x.n<0) then true else decide (x.n>=p.nodes.length) then true else decide (a.getD x.n.toNat default>=0) then true else decide (x.cu>12))= !mQ p x a:=by
 unfold mQ;simp only[Bool.cond_true_left];rw[Bool.eq_iff_iff];simp only[Bool.or_eq_true,decide_eq_true_eq,Bool.not_eq_true', <-Bool.not_eq_true,Bool.and_eq_true];omega
def P4(b4:p.aF.length<=4000000){next:Bool}{f:Nat}(fv:∀f',f=f'+1->∀(x:dC) (out:al) (nb cap:Nat) (more:bl) (H:aC),x.cu+f'=14->1<=x.cu->-1000<=x.bs/\x.bs<=1000+x.cu->out.length=p.nodes.length->
  bP prog 97 [ab.prog p,.i x.n,.i x.bs,.i x.cu,.b next,.val (.slice (some ⟨nb,0,none⟩) p.nodes.length cap)] (.au nb 3 (out.map ab.i++more)::H) (oz p next f' x out nb more H) (λ_ _=>False))
  (x:dC) (out:al) (nb cap:Nat) (more:bl) (H:aC) (a6:x.cu+f=14) (alr:1<=x.cu) (r2: -1000<=x.bs/\x.bs<=1000+x.cu) (bb:out.length=p.nodes.length):
  bP prog 97 [ab.prog p,.i x.n,.i x.bs,.i x.cu,.b next,.val (.slice (some ⟨nb,0,none⟩) p.nodes.length cap)] (.au nb 3 (out.map ab.i++more)::H) (oz p next f x out nb more H) (λ_ _=>False):=by
 refine aM (n:=98) func97 λB I bN=>?_;refine o8 ?_;refine gw (λav=>ad.gX rfl rfl (cf av) rfl (cf av) wx) ?_;refine gw (λav=>(by first | exact ad.cE rfl rfl (cf av) rfl | (apply ad.iv rfl rfl (cf av);(case hm=>repeat (first | exact .head _ | refine .tail _ ?_));(case hy=>exact P2 wx)))) ?_;refine aJ ?_;refine bc (λaf=>?_) (λaf=>?_)
 ·rw[P3,Bool.not_eq_true'] at af;have jH:fe p next x out=false:=by unfold fe;rw[af];rfl
  refine aP ?_;refine aB 12 (.au nb 3 (out.map ab.i++more)::H) ?_;exact HZ (by rw[tG jH]) out
 ·rw[P3,Bool.not_eq_false'] at af;obtain⟨wj,Bs⟩:=Ot af;refine aP ?_;refine ag (ad.gX rfl rfl rfl rfl rfl aa) ?_;apply ai.gb rfl rfl rfl rfl rfl rfl rfl rfl rfl rfl
  (case hu=>repeat (first | exact bG.head _ _ _ | apply bG.tail));(case hfit=>exact abr aa);(case hds=>exact abt aa)
  refine aP ?_;refine ag (Br) ?_;refine aR ?_;refine bT (λsr=>?_);refine aS ?_;obtain⟨K,eX⟩:∃K,K=fu p x:=⟨_,rfl⟩;rw[show p.nodes.getD x.n.toNat default=K from eX.symm];refine eB 13 ?_;refine b0 6 98 ?_;refine aS ?_;refine bh (ad.call .k (abg p K)) ?_;refine a8 ?_;refine bW.dk 8 11 98 rfl ao rfl rfl ao ?_;refine aS ?_;refine ai.cG rfl rfl rfl rfl rfl rfl (λav=>ad.call (.mk' rfl rfl rfl rfl cU) (abh p b4 K x.bs)) ?_;refine di ?_;refine bc (λae=>?_) (λae=>?_)
  ·rw[PY,Bool.not_eq_true'] at ae;have jH:fe p next x out=false:=by unfold fe;rw[af, <-eX,ae];rfl
   refine aP ?_;refine aB 12 (.au nb 3 ((out.set x.n.toNat x.bs).map ab.i++more)::H) ?_;exact HZ (by rw[tG jH]) _
  ·rw[PY,Bool.not_eq_false'] at ae;have hO:fe p next x out=true:=by unfold fe;rw[af, <-eX,ae];rfl
   obtain⟨f',rfl⟩:∃f',f=f'+1:=⟨f - 1,by have dc:=af;simp only[mQ,Bool.and_eq_true,decide_eq_true_eq] at dc;omega⟩;have zV:=vc (f:=f') hO;rw[<-eX] at zV;have als:x.cu<=12:=by have dc:=af;simp only[mQ,Bool.and_eq_true,decide_eq_true_eq] at dc;omega
   refine aA.ez (t:=46) rfl (λZM=>?_);refine a8 ?_;refine bm (λm st=>∃(i:Nat) (l:List dC) (o:al),st=⟨[(14,.i i),(13,.ptr (hU K)),(6,.ptr (cH p)),(2,.i x.bs),(3,.i x.cu),(4,.b next),(5,.val (.slice (some ⟨nb,0,none⟩) p.nodes.length cap))],.au nb 3 (o.map ab.i++more)::H⟩/\m=K.kids.length - i/\i<=K.kids.length/\eT (visit p next f') ((hE x K.op 0 K.kids).take i) (iM out x)=(l,some o)/\o.length=p.nodes.length) (⟨0,[],iM out x,rfl,rfl,aa,rfl,by rw[iM,List.length_set];exact bb⟩) ?_;rintro m _ ⟨i,l,o,rfl,rfl,aN,mI,mU⟩;refine bQ ?_;refine az (λak=>?_) λak=>?_
   ·have bF:i<K.kids.length:=by omega
    obtain⟨R,hR,zW,xl⟩:=Oj (Og (p:=p) (next:=next) f') (Ol x K.op bF) mI;refine bQ ?_;refine aA.k7 (λst=>st=⟨[(15,.i (gV x K.op i (K.kids.getD i default)).bs),(14,.i i),(13,.ptr (hU K)),(6,.ptr (cH p)),(2,.i x.bs),(3,.i x.cu),(4,.b next),(5,.val (.slice (some ⟨nb,0,none⟩) p.nodes.length cap))],.au nb 3 (o.map ab.i++more)::H⟩) ?_ ?_
    ·refine bA ?_;refine bc (λaL=>?_) (λaL=>?_)
     ·have H0:K.op=9/\i=1:=by simp only[Bool.cond_false_right,Bool.and_eq_true,beq_iff_eq] at aL;omega
      refine aS ?_;refine aZ.le 15 (y:=.i (gV x K.op i (K.kids.getD i default)).bs) rfl (aq.b6 (by simp only[gV];rw[if_pos H0])) ?_;exact dm rfl
     ·have H0: ¬(K.op=9/\i=1):=by simp only[Bool.cond_false_right,Bool.and_eq_false_iff,beq_eq_false_iff_ne] at aL;omega
      refine aR ?_;refine aZ.le 15 (y:=.i (gV x K.op i (K.kids.getD i default)).bs) rfl (aq.b6 (by simp only[gV];rw[if_neg H0])) ?_;exact dm rfl
    ·rintro _ rfl;refine aR ?_;rcases bd:(visit p next f' (gV x K.op i (K.kids.getD i default)) o).2 with _ | o'
     ·have hn:=(zW bd).2;refine b0 11 98 ?_;refine di ?_;refine cI .k ((bP.rV (fv f' rfl (gV x K.op i (K.kids.getD i default)) o nb cap more H rN rN BK mU) (λy H1 h=>by rw[oz,bd] at h;exact h) (λ_ _ h=>h)).b) ?_;rintro _ _ ⟨rfl,fx,rfl⟩;refine aH ?_;refine bc (λbo=>?_) (λbo=>?_)
      ·replace bo:=dA bo;refine bA ?_;refine aB 12 (.au nb 3 (fx.map ab.i++more)::H) ?_;exact HZ (by rw[zV];exact hn) fx
      ·cases bo
     ·have Ah:=(xl o' bd).1;have H3:=HY rN bd;refine b0 11 98 ?_;refine di ?_;refine cI .k ((bP.rV (fv f' rfl (gV x K.op i (K.kids.getD i default)) o nb cap more H rN rN BK mU) (λy H1 h=>by rw[oz,bd] at h;exact h) (λ_ _ h=>h)).b) ?_;rintro _ _ ⟨rfl,rfl⟩;refine aH ?_;refine bc (λcm=>?_) (λcm=>?_)
      ·cases cm
      ·replace cm:=dA cm;refine aJ ?_;exact aU (⟨i+1,_,o',rfl,rfl,bF,Ah,aa⟩)
   ·obtain rfl:i=K.kids.length:=by omega
    have abv:eT (visit p next f') (hE x K.op 0 K.kids) (iM out x)=(l,some o):=by rwa [List.take_of_length_le (by rw[Hc];omega)] at mI
    refine bA ?_;refine aB 12 (.au nb 3 (o.map ab.i++more)::H) ?_;exact abu (by rw[zV,abv])
def Ai{p}(j:p.aF.length<=4000000){next}:∀(f:Nat) (x:dC) (out:al) (l m:Nat) (a:bl) (H:aC),x.cu+f=14->1<=x.cu->-1000<=x.bs/\x.bs<=1000+x.cu->out.length=p.nodes.length->
  bP prog 97 [ab.prog p,.i x.n,.i x.bs,.i x.cu,.b next,.val (.slice (some ⟨l,0,none⟩) p.nodes.length m)] (.au l 3 (out.map .i++a)::H) (oz p next f x out l a H) (λ_ _=>False)
 | 0=>P4 j (λf' h=>by omega)
 | f+1=>P4 j (λf' h=>by(obtain rfl:f'=f:=by omega);exact Ai j f')
theorem P5{v}{Q:dC->Prop}:∀(l:List dC) (o:al),(∀z∈l,∀c,∀y∈(v z c).1,Q y)->∀y∈(eT v l o).1,Q y
 | [],o,_,y,a=>by simp[eT] at a
 | z::r,o,h,y,a=>by
  simp only[eT] at a;rcases bd:v z o with⟨ot,_ | hz⟩
  ·rw[bd] at a;exact h z dB o y (by rw[bd];exact a)
  ·rw[bd] at a;rcases List.mem_append.1 a with a | a
   ·exact h z dB o y (by rw[bd];exact a)
   ·exact P5 r hz (λw f=>h w (.tail _ f)) y a
theorem P6{x}{op}(h:0<=x.bs):∀(i:Nat) (l:al),∀y∈hE x op i l,0<=y.bs
 | _,[],y,a=>by cases a
 | i,k::r,y,a=>by
  rw[hE] at a;rcases List.mem_cons.1 a with rfl | a
  ·simp[gV];split <;> omega
  ·exact P6 h (i+1) r y a
theorem P7{p}{next}:∀(f:Nat) (x:dC) (c:al),0<=x.bs->∀y∈(visit p next f x c).1,0<=y.bs
 | 0,x,c,h,y,a=>by rw[show (visit p next 0 x c).1= [x] from rfl,List.mem_singleton] at a;rw[a];exact h
 | f+1,x,c,h,y,a=>by
  cases bD:fe p next x c with
  | false=>rw[tG bD,List.mem_singleton] at a;rw[a];exact h
  | true=>
   rw[vc bD] at a;rcases List.mem_cons.1 a with rfl | a
   ·exact h
   ·exact P5 _ _ (λz g j y a=>P7 f z j (P6 h _ _ z g) y a) y a
def xz(o:al):Prop:=∀y∈o,-1<=y
theorem P8:∀(L:List dC) (o:al),(∀x∈L,0<=x.bs)->xz o->xz (hG L o)
 | [],o,_,h=>h
 | x::r,o,f,h=>P8 r _ (λy a=>f y (.tail _ a)) (λy a=>by
  rcases List.mem_or_eq_of_mem_set a with c | c
  ·exact h y c
  ·have:=f x dB;omega)
def P9{o o'}(g:x.cu=1)(c:0<=x.bs)(h:(visit p next 13 x o).2=some o')(f:xz o):xz o':=by
 rw[(xm (p:=p) (next:=next) 13 x o aa).end_ o' h];exact P8 _ _ (P7 13 x o c) f
def abw(p):xz (je p):=λy a=>by rw[(List.mem_replicate.1 a).2];omega
def Qa(l:al):(l.map λn=>[ab.i n]).flatten=l.map ab.i:=by
 induction l with
 | nil=>rfl
 | cons x r a=>rw[List.map_cons,List.flatten_cons,a];rfl
def Qb{m:hC}(a:cy (bR p)):(bif bif bif bif bif decide (m.kind<1) then true else decide (m.kind>4) then true else decide (m.gen<0) then true else decide (m.gen>=p.c2.length) then true else !lL (bR p) m.fact then true else decide (nC m.fact>p.c2.getD m.gen.toNat default))= !(q6 p m && q7 p m):=by
 unfold q6 q7;rw[a];simp only[Bool.cond_true_left,Bool.true_and];cases lL (bR p) m.fact
 ·simp
 ·rw[Bool.eq_iff_iff];simp only[Bool.or_eq_true,decide_eq_true_eq,Bool.not_eq_true', <-Bool.not_eq_true,Bool.and_eq_true,Bool.not_true,Bool.false_eq_true,or_false,true_and];omega
def Qc(n):(bif decide (n<1) then true else decide (n>3))= !mR n:=by
 unfold mR;rw[Bool.cond_true_left,Bool.eq_iff_iff];simp only[Bool.or_eq_true,decide_eq_true_eq,Bool.not_eq_true', <-Bool.not_eq_true,Bool.and_eq_true];omega
def Qd(p)(b):(bif bif bif bif !b then true else decide ((p.c2.length:Int)>8) then true else decide ((p.methods.length:Int)>16) then true else decide ((p.nodes.length:Int)<1) then true else decide ((p.nodes.length:Int)>120))= !(b && p0 p):=by
 unfold p0;cases b
 ·simp
 ·simp[Bool.cond_true_left,Bool.true_and,Bool.not_true];rw[Bool.eq_iff_iff];simp only[Bool.or_eq_true,decide_eq_true_eq,Bool.not_eq_true', <-Bool.not_eq_true,Bool.and_eq_true,Bool.false_eq_true,false_or];omega
def abx(bV:p.Small):aI prog 44 [ab.prog p] (.bj [ab.ints ((bu p).getD []),.b (bu p).isSome]):=by
 intro H;refine aM (n:=156) func44 λB I bN=>?_;have HM:=bV.aF;have aby:=bV.parents;have vj:0=0:=rfl;refine bA ?_;refine ag (ad.call .k (abq bV)) ?_;refine Nd ?_;refine bc (λaf=>?_) (λaf=>?_)
 ·rw[Qd,Bool.not_eq_true',Bool.and_eq_false_iff] at af;have jH:bu p=none:=by
   rcases af with af | af
   ·exact Ox af
   ·exact Oy af
  refine aJ ?_;refine aZ.cl (rs:=[.tmp 2,.tmp 3]) (H':=H) rfl (.tmp rfl (.tmp rfl (.nil))) (.cons (aq.nil 1) (.cons (.refl _) .nil)) bE ?_;exact⟨oT,rfl⟩
 ·rw[Qd,Bool.not_eq_false',Bool.and_eq_true] at af;obtain⟨hI,Qe⟩:=af;have iV:=ow.of hI;have hM:=iV.dv;have hw:=iV.world;have p6:=rf p;have abz:=Qe;simp only[p0,Bool.and_eq_true,decide_eq_true_eq] at abz;have nG:=va _ _ iV.aj;refine a8 ?_;refine bm (λm st=>∃i:Nat,st=⟨[(4,.i i),(1,.ptr (cH p))],H⟩/\m=p.c2.length - i/\i<=p.c2.length/\(p.c2.take i).all mR=true) (⟨0,rfl,rfl,aa,rfl⟩) ?_;rintro m _ ⟨i,rfl,rfl,aN,n4⟩;refine bQ ?_;refine az (λae=>?_) λae=>?_
  ·have bF:i<p.c2.length:=by omega
   refine nz ?_;refine bc (λak=>?_) (λak=>?_)
   ·rw[Qc,Bool.not_eq_true'] at ak;have jH:bu p=none:=Oz (HP bF ak);refine bS ?_;refine aZ.cl (rs:=[.tmp 2,.tmp 3]) (H':=H) rfl (.tmp rfl (.tmp rfl (.nil))) (.cons (aq.nil 1) (.cons (.refl _) .nil)) bE ?_;exact⟨oT,rfl⟩
   ·rw[Qc,Bool.not_eq_false'] at ak;refine aJ ?_;exact aU (⟨i+1,rfl,rfl,bF,Dl bF n4 ak⟩)
  ·obtain rfl:i=p.c2.length:=by omega
   rw[List.take_length] at n4;refine gv ?_;refine aA.zc 3 1 ?_;refine bm (λm st=>∃(i:Nat) (v:Value),st=⟨[(6,.i i),(5,.val v),(1,.ptr (cH p))],hD v (List.replicate i (-1))::H⟩/\m=p.nodes.length - i/\i<=p.nodes.length) (⟨0,_,rfl,rfl,aa⟩) ?_;rintro m _ ⟨i,v,rfl,rfl,aN⟩;refine bQ ?_;refine az (λaL=>?_) λaL=>?_
   ·have bF:i<p.nodes.length:=by omega
    refine ay ?_;refine ai.cc (x:=.aj 1 [[.i (-1)]]) rfl rfl rfl (ad.row rfl rfl cD rfl rfl rfl rfl rfl rfl) ?_;refine ai.MX (fj [-1]) rfl rfl rfl rfl rfl rfl rfl rfl (aq.refl _) rfl (λv=>.head _ _ _) (by simp only[xk,List.length_replicate,List.length_singleton];omega) (by simp only[xk,List.length_replicate,List.length_singleton];omega) (λQf=>?_);refine aV ?_;refine aA.k9 (H':=hD Qf (List.replicate i (-1)++[-1])::H) (congrArg (· ::_) (N7 _ _ _)) ?_;refine aS ?_;exact aU (⟨i+1,Qf,by rw[List.replicate_succ'],rfl,bF⟩)
   ·obtain rfl:i=p.nodes.length:=by omega
    refine ay ?_;refine aA.Ct (t:=3) (by rw[xk,List.length_replicate];omega) (λb cap more=>.head _ _ _) (λnb cap more bM bJ e6 ns th=>?_);rw[xk,List.length_replicate] at bM bJ;subst bM;refine aA.k9 (H':=.au nb 3 ((je p).map ab.i++more)::H) (by rw[fj,Qa];rfl) ?_;refine aQ ?_;refine ag (ad.call .k (HR p aa (λc h=>⟨aby c h,by have:=(nG c h).1;omega⟩))) ?_;refine bT (λda=>?_);refine aS ?_;refine eB 7 ?_;refine aS ?_;refine bm (λm st=>∃(i:Nat) (o:al),st=⟨[(8,.i i),(7,.ptr (cB (bR p))),(5,.val (.slice (some ⟨nb,0,none⟩) p.nodes.length cap)),(1,.ptr (cH p))],.au nb 3 (o.map ab.i++more)::H⟩/\m=p.methods.length - i/\i<=p.methods.length/\hb p (p.methods.drop i) o=hb p p.methods (je p)/\o.length=p.nodes.length/\xz o) (⟨0,je p,rfl,rfl,aa,rfl,by simp[je],abw p⟩) ?_;rintro m _ ⟨i,o,rfl,rfl,aN,lk,mU,xA⟩;refine bQ ?_;refine az (λbo=>?_) λbo=>?_
    ·have bF:i<p.methods.length:=by omega
     obtain⟨M,c4⟩:∃M,M=(p.methods.getD i default):=⟨_,rfl⟩;refine bA ?_;refine bT (λbt=>?_);refine aS ?_;rw[<-c4];refine eB 9 ?_;refine aA.cu mixed ?_;refine XR ?_;refine bW.dk 14 19 156 rfl ao rfl rfl ao ?_;refine jR ?_;refine bW.dk 22 25 156 rfl ao rfl rfl ao ?_;refine aS ?_;refine ai.cG rfl rfl rfl rfl rfl rfl (λav=>ad.call (.mk' rfl rfl rfl rfl cU) (abe aa M.fact)) ?_;refine c6 ?_;refine bW.dk 29 38 156 rfl ao rfl rfl ao ?_;refine aQ ?_;refine ed.cG rfl rfl rfl rfl rfl (λav=>ad.call (.mk' rfl rfl rfl rfl cU) (abd M.fact (Ow (w:=bR p) (by revert av;cases lL (bR p) M.fact <;> simp)))) ?_;refine aV ?_;refine jS (λav=>(by first | exact ad.fC rfl rfl (cf av) rfl (cf av) La | exact ad.ep rfl rfl (cf av) rfl (cf av) La)) ?_;refine aP ?_;refine bc (λcm=>?_) (λcm=>?_)
     ·rw[Qb hw,Bool.not_eq_true'] at cm;have jH:bu p=none:=zX (by rw[<-lk];exact Hh bF c4 cm);refine di ?_;refine aZ.cl (rs:=[.tmp 2,.tmp 3]) (H':=H) rfl (.tmp rfl (.tmp rfl (.nil))) (.cons (aq.nil 1) (.cons (.refl _) .nil)) bE ?_;exact⟨oT,rfl⟩
     ·rw[Qb hw,Bool.not_eq_false'] at cm;have H4:=cm;simp only[q6,Bool.and_eq_true,decide_eq_true_eq] at H4;have abA:=List.all_eq_true.1 n4 _ (bH (l:=p.c2) (k:=M.gen.toNat) aa);simp only[mR,Bool.and_eq_true,decide_eq_true_eq] at abA;refine aH ?_;rcases bd:(visit p (lh M) 13 (mE p M) o).2 with _ | hz
      ·have jH:bu p=none:=zX (by rw[<-lk];exact OD bF c4 bd);refine b0 13 156 ?_;refine bA ?_;refine bh (ad.call .k (HW M.kind)) ?_;refine aH ?_;refine cI (.mk' rfl rfl rfl rfl rfl) ((bP.rV (Ai (next:=lh M) aa 13 (mE p M) o nb cap more H cM BN Bv mU) (λy H1 h=>by rw[oz,bd] at h;exact h) (λ_ _ h=>h)).b) ?_;rintro _ _ ⟨rfl,fx,rfl⟩;refine aH ?_;refine bc (λdx=>?_) (λdx=>?_)
       ·replace dx:=dA dx;refine bS ?_;refine aZ.cl (rs:=[.tmp 2,.tmp 3]) (H':=H) rfl (.tmp rfl (.tmp rfl (.nil))) (.cons (aq.nil 1) (.cons (.refl _) .nil)) bE ?_;exact⟨oT,rfl⟩
       ·cases dx
      ·have H3:=HY cM bd;have H5:=P9 cM (by simp only[mE];omega) bd xA;have Dq:=OE bF c4 cm bd;refine b0 13 156 ?_;refine bA ?_;refine bh (ad.call .k (HW M.kind)) ?_;refine aH ?_;refine cI (.mk' rfl rfl rfl rfl rfl) ((bP.rV (Ai (next:=lh M) aa 13 (mE p M) o nb cap more H cM BN Bv mU) (λy H1 h=>by rw[oz,bd] at h;exact h) (λ_ _ h=>h)).b) ?_;rintro _ _ ⟨rfl,rfl⟩;refine aH ?_;refine bc (λdF=>?_) (λdF=>?_)
       ·cases dF
       ·replace dF:=dA dF;refine aJ ?_;exact aU (⟨i+1,hz,rfl,rfl,bF,by rw[<-lk,Dq],aa,H5⟩)
    ·obtain rfl:i=p.methods.length:=by omega
     rw[List.drop_length,hb] at lk;have lk:=lk.symm;refine aP ?_;rcases bd:(visit p false 13 ⟨p.main,0,1⟩ o).2 with _ | hz
     ·have jH:bu p=none:=OA lk bd;refine aS ?_;refine cI (.mk' rfl rfl rfl rfl rfl) ((bP.rV (Ai (next:=false) aa 13 (⟨p.main,0,1⟩:dC) o nb cap more H cM BN Bv mU) (λy H1 h=>by rw[oz,bd] at h;exact h) (λ_ _ h=>h)).b) ?_;rintro _ _ ⟨rfl,fx,rfl⟩;refine aH ?_;refine bc (λde=>?_) (λde=>?_)
      ·replace de:=dA de;refine aJ ?_;refine aZ.cl (rs:=[.tmp 2,.tmp 3]) (H':=H) rfl (.tmp rfl (.tmp rfl (.nil))) (.cons (aq.nil 1) (.cons (.refl _) .nil)) bE ?_;exact⟨oT,rfl⟩
      ·cases de
     ·have H3:=HY cM bd;have H5:=P9 cM (by show (0:Int)<=0;omega) bd xA;refine aS ?_;refine cI (.mk' rfl rfl rfl rfl rfl) ((bP.rV (Ai (next:=false) aa 13 (⟨p.main,0,1⟩:dC) o nb cap more H cM BN Bv mU) (λy H1 h=>by rw[oz,bd] at h;exact h) (λ_ _ h=>h)).b) ?_;rintro _ _ ⟨rfl,rfl⟩;refine aH ?_;refine bc (λdc=>?_) (λdc=>?_)
      ·cases dc
      ·replace dc:=dA dc;refine a8 ?_;refine bm (λm st=>∃i:Nat,st=⟨[(10,.i i),(5,.val (.slice (some ⟨nb,0,none⟩) p.nodes.length cap))],.au nb 3 (hz.map ab.i++more)::H⟩/\m=p.nodes.length - i/\i<=p.nodes.length/\∀y∈hz.take i,0<=y) (⟨0,rfl,rfl,aa,aT⟩) ?_;rintro m _ ⟨i,rfl,rfl,aN,qW⟩;refine aS ?_;refine ag (ad.Bo rfl rfl rfl) ?_;refine aH ?_;refine az (λhM=>?_) λhM=>?_
       ·have bF:i<p.nodes.length:=by omega
        refine aJ ?_;refine ag (ad.gX rfl rfl rfl rfl rfl aa) ?_;refine ag ((by first | exact ad.cE rfl rfl rfl rfl | (apply ad.iv rfl rfl rfl;(case hm=>repeat (first | exact .head _ | refine .tail _ ?_));(case hy=>exact P2 aa)))) ?_;refine aH ?_;refine az (λh6=>?_) λh6=>?_
        ·have H4:hz.getD i default= -1:=by have:=H5 _ (bH (l:=hz) (k:=i) aa);rw[Int.toNat_natCast] at h6;omega
         have jH:bu p=none:=OB lk bd (by rw[<-H4];exact List.contains_iff_mem.2 (bH aa));refine bS ?_;refine aZ.cl (rs:=[.tmp 2,.tmp 3]) (H':=H) rfl (.tmp rfl (.tmp rfl (.nil))) (.cons (aq.nil 1) (.cons (.refl _) .nil)) bE ?_;exact⟨oT,rfl⟩
        ·refine aJ ?_;exact aU (⟨i+1,rfl,rfl,bF,λy hy=>by rw[<-c3 aa,List.mem_append,List.mem_singleton] at hy;rw[Int.toNat_natCast] at h6;rcases hy with hy | rfl;exact qW y hy;omega⟩)
       ·obtain rfl:i=p.nodes.length:=by omega
        rw[<-mU, <-H3,List.take_length] at qW;have H6:bu p=some hz:=OC hI Qe n4 lk bd (by rw[List.contains_eq_mem,decide_eq_false_iff_not];intro h;have:=qW _ h;omega);refine ay ?_;refine aA.k9 (H':=.au nb 3 ((hz.map λn=>[ab.i n]).flatten++more)::H) (by rw[Qa]) ?_;refine aA.oW (k:=1) (d:=5) rfl (.head _ _) nV (λe he=>by obtain⟨y,_,rfl⟩:=List.mem_map.1 he;rfl) bJ e6 ?_;refine aP ?_;refine dM [.tmp 2,.tmp 3] (H) ?_;exact⟨by rw[H6];rfl,rfl⟩
def Qg(a:p.Small):aI prog 17 [ab.prog p] (.b (bu p).isSome):=by
 intro H;refine aM func17 λB I c=>?_;refine a8 ?_;refine ag (.call .k (abx a)) ?_;refine c6 ?_;refine aB 2 H ?_;exact⟨cM,rfl⟩
def xB(a:(bu p).isSome):ow p:=by
 obtain⟨o,c⟩:=Option.isSome_iff_exists.1 a;exact ow.of (jf c).1
def vr(l:p.Small)(g:(bu p).isSome):aI prog 83 [ab.prog p] (ab.world (bR p)):=by
 have f:=xB g;have j:=f.dv;have a:=va _ _ f.aj;exact HR p aa (λc h=>⟨l.parents c h,by have:=(a c h).1;omega⟩)
def H7(j:p.Small)(f:(bu p).isSome){c:Int}(g:3<=c)(h:c<3+p.aF.length):aI prog 155 [ab.prog p,.i c] (ab.ints (cw p c)):=by
 intro H;refine aM func155 λB I l=>?_;have a:=xB f;rw[HK a g h];refine a8 ?_;refine ag (ad.call .k (vr j f)) ?_;refine aR ?_;refine ag (ad.call .k (abb a.world g (by rw[rf];exact h))) ?_;refine aV ?_;refine aB 4 (H) ?_;exact⟨dP,rfl⟩
end Go.Proofs.YtodccgailpkgeaaGreat

