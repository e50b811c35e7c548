/- A part of the proof. No condition. -/
import Derived.Test.YtodccgailpkgeaaGreatKindInfersP12
import Derived.Shelf.Sort.Plain
import Derived.Shelf.Slices.In.SortNone
import Derived.Sort.OwnSortedInts
set_option linter.defProp false
set_option maxHeartbeats 1000000
set_option linter.unusedVariables false
set_option linter.unusedSimpArgs false
set_option maxRecDepth 10000
namespace Go.Proofs.YtodccgailpkgeaaGreat
open Go.Proofs.Tryz
open Go.Eng
open Go.Eng.Fc
open Go.Eng.dN
variable{p:Prog}{i:Int}{x:dw}{l:List (Int×Int)}{o out:ak}{more:bl}{next:Bool}{f:Nat}{H:aA}
def A9(p:Prog)(x:hi):Int:=match ik x.op with
 | none=>-1
 | some none=>if 0<=x.n/\x.n<p.cT.length then p.cT.getD x.n.toNat default else -1
 | some (some k)=>k
def PB(p)(x)(c)(next):(bif bif (x.kids.length:Int) !=A9 p x then true else !gC p x c then true else bif x.op==18 then !next else false)= !pV p next x c:=by
 unfold pV A9;rcases bD:ik x.op with _ | _ | k
 ·simp only[Bool.and_false,Bool.not_false];rw[show ((x.kids.length:Int) != -1)=true by rw[bne_iff_ne];omega];rfl
 ·simp only;cases hn:gC p x c with
  | false=>simp
  | true=>
   have f:=Pd bD hn;rw[if_pos f];simp only[bne];generalize ((x.kids.length:Int)==p.cT.getD x.n.toNat default)=a;generalize (x.op==18)=b;cases a <;> cases b <;> cases next <;> rfl
 ·simp only;have e:((x.kids.length:Int) !=(k:Int))= !(x.kids.length==k):=by rw[Bool.eq_iff_iff];simp;omega
  rw[e];simp only[bne];generalize (x.kids.length==k)=a;generalize (x.op==18)=b;generalize gC p x c=d;cases a <;> cases b <;> cases next <;> cases d <;> rfl
def HD(p)(l:p.aE.length<=4000000)(f:∀c∈p.aE,c.parents.length<=4000000):aG prog 119 [ab.prog p] (.bm (b9 p)):=by
 intro H;refine aM func119 λB I o=>?_;refine jI ?_;refine hh 3 23 1 ?_;refine bo (λm g=>∃(i:Nat) (v:Value),g=⟨[(4,.i i),(3,.as (.bm ((p.aE.take i).map (·.parents))) v),(1,.ptr (cM p))],.own 23 1 v::H⟩/\m=p.aE.length - i/\i<=p.aE.length) (⟨0,_,rfl,rfl,aa⟩) ?_;rintro m _ ⟨i,v,rfl,rfl,q⟩;refine bY ?_;refine az (λaf=>?_) λaf=>?_
 ·have a:i<p.aE.length:=by omega
  have h:=f _ (bI a);refine bR ?_;refine ag (.BO rfl rfl rfl .UK rfl rfl gu (sa _) nL nL) ?_;refine aj.cn (x:=.ai 1 [[ab.ints (p.aE.getD i default).parents]]) rfl rfl rfl (ad.row rfl rfl cC rfl rfl rfl rfl rfl rfl) ?_;refine aj.dJ rfl rfl rfl rfl rfl rfl rfl rfl (an.refl _) (rfl) (λ_=>df) m1 m1 (λv21=>?_);refine ba ?_;exact aW (⟨i+1,v21,by rw[Nc a],rfl,a⟩)
 ·obtain rfl:i=p.aE.length:=by omega
  rw[List.take_length];refine bR ?_;refine aZ.cg (rs:=[.tmp 2]) (H':=H) rfl (.tmp rfl (.nil)) (.cons (an.e2 _ _) .nil) bC ?_;exact⟨cO,rfl⟩
def HE(p)(b6:p.aE.length<=1000)(a1:∀c∈p.aE,c.parents.length<=4000000/\c.av.length<=1000):aG prog 83 [ab.prog p] (ab.world (bS p)):=by
 intro H;refine aM func83 λB I r=>?_;refine aF ?_;refine bK (λcV=>?_);refine aT ?_;refine ag (.call .k (HD p aa (λc h=>(a1 c h).1))) ?_;refine aR ?_;refine bK (λdc=>?_);refine aT ?_;refine .pJ (b:=dc) (t:=86) 3 1 1 df rfl rfl ?_;refine aT ?_;refine bo (λm g=>∃(i:Nat) (v:Value),g=⟨[(4,.i i),(1,.ptr (cM p)),(3,.p dc 0),(2,.p cV 0)],.own 3 1 v::.au dc 86 [.bm (b9 p),.as (.ints (mG p.aE i 0)) v]::.au cV 86 [.val aL,.val aL]::H⟩/\m=p.aE.length - i/\i<=p.aE.length) (⟨0,_,rfl,rfl,aa⟩) ?_;rintro m _ ⟨i,v,rfl,rfl,s⟩;refine bY ?_;refine az (λaf=>?_) λaf=>?_
 ·have a:i<p.aE.length:=by omega
  have q:=a1 _ (bI a);refine bY ?_;refine bo (λm g=>∃(k:Nat) (v:Value),g=⟨[(5,.i k),(4,.i i),(1,.ptr (cM p)),(3,.p dc 0),(2,.p cV 0)],.own 3 1 v::.au dc 86 [.bm (b9 p),.as (.ints (mG p.aE i k)) v]::.au cV 86 [.val aL,.val aL]::H⟩/\m=(p.aE.getD i default).av.length - k/\k<=(p.aE.getD i default).av.length) (⟨0,_,rfl,rfl,aa⟩) ?_;rintro m _ ⟨k,v,rfl,rfl,w⟩;refine c4 ?_;refine az (λae=>?_) λae=>?_
  ·have j:k<(p.aE.getD i default).av.length:=by omega
   refine ba ?_;refine aj.cn (x:=.ai 1 [[.i ((i:Int)+3)]]) rfl rfl rfl h7 ?_;refine aj.dJ rfl rfl rfl rfl rfl rfl rfl rfl (an.refl _) (rfl) (λ_=>df) ps ps (λPC=>?_);refine bY ?_;exact aW (⟨k+1,PC,by rw[M7],rfl,j⟩)
  ·obtain rfl:k=(p.aE.getD i default).av.length:=by omega
   refine bE ?_;exact aW (⟨i+1,v,by rw[Nd a],rfl,a⟩)
 ·obtain rfl:i=p.aE.length:=by omega
  rw[M8];refine bR ?_;refine aZ.cg (rs:=[.cell 2 86]) (H':=H) rfl (sQ) (.cons (an.agg (.cons h8 CB)) .nil) bC ?_;exact⟨dO,rfl⟩
def PD(n):aG prog 146 [.i n] (.b (oa n)):=by
 intro H;refine aM func146 λB I a=>?_;refine gL ?_;refine aC 2 H ?_;exact⟨bq (by rw[oa,Bool.cond_false_right]),rfl⟩
def aat(p)(f:p.aE.length<=4000000)(c):aG prog 211 [ab.prog p,.i c] (.b (decide (c>=3) && decide (c<3+p.aE.length))):=by
 intro H;refine aM func211 λB I a=>?_;refine nk ?_;refine aC 4 H ?_;exact⟨bq (by rw[Bool.cond_false_right]),rfl⟩
def aau(p:Prog)(x:hi):aG prog 151 [ab.prog p,ab.zB x] (.i (A9 p x)):=by
 intro H;refine aM (n:=47) func151 λB I w=>?_;refine nk ?_;refine az (λaf=>?_) λaf=>?_
 ·refine aO ?_;refine bc (λae=>?_) (λae=>?_)
  ·replace ae:=dC ae;refine aI ?_;refine aC 4 (H) ?_;exact⟨fK jV,rfl⟩
  ·simp_all
 ·refine ax ?_;refine az (λao=>?_) λao=>?_
  ·refine aO ?_;refine bc (λaV=>?_) (λaV=>?_)
   ·replace aV:=dC aV;refine aI ?_;refine aC 4 (H) ?_;exact⟨fK jV,rfl⟩
   ·simp_all
  ·refine ax ?_;refine az (λbu=>?_) λbu=>?_
   ·refine aO ?_;refine bc (λcr=>?_) (λcr=>?_)
    ·replace cr:=dC cr;refine aI ?_;refine aC 4 (H) ?_;exact⟨fK jV,rfl⟩
    ·simp_all
   ·refine ax ?_;refine az (λdK=>?_) λdK=>?_
    ·refine aO ?_;refine bc (λdA=>?_) (λdA=>?_)
     ·replace dA:=dC dA;refine aI ?_;refine aC 4 (H) ?_;exact⟨fK jV,rfl⟩
     ·simp_all
    ·refine aT ?_;refine az (λdP=>?_) λdP=>?_
     ·refine aI ?_;refine aC 4 (H) ?_;exact⟨fK jV,rfl⟩
     ·refine aP ?_;refine az (λc7=>?_) λc7=>?_
      ·refine aO ?_;refine bc (λhJ=>?_) (λhJ=>?_)
       ·replace hJ:=dC hJ;refine aI ?_;refine aC 4 (H) ?_;exact⟨fK jV,rfl⟩
       ·simp_all
      ·refine ax ?_;refine az (λh1=>?_) λh1=>?_
       ·refine aO ?_;refine bc (λjq=>?_) (λjq=>?_)
        ·replace jq:=dC jq;refine aI ?_;refine aC 4 (H) ?_;exact⟨fK jV,rfl⟩
        ·simp_all
       ·refine aT ?_;refine az (λkc=>?_) λkc=>?_
        ·refine aI ?_;refine aC 4 (H) ?_;exact⟨fK jV,rfl⟩
        ·refine aP ?_;refine az (λlE=>?_) λlE=>?_
         ·refine aO ?_;refine bc (λl8=>?_) (λl8=>?_)
          ·replace l8:=dC l8;refine aI ?_;refine aC 4 (H) ?_;exact⟨fK jV,rfl⟩
          ·simp_all
         ·refine ax ?_;refine az (λsg=>?_) λsg=>?_
          ·refine aO ?_;refine bc (λo4=>?_) (λo4=>?_)
           ·replace o4:=dC o4;refine aI ?_;refine aC 4 (H) ?_;exact⟨fK jV,rfl⟩
           ·simp_all
          ·refine ax ?_;refine az (λzY=>?_) λzY=>?_
           ·refine aO ?_;refine bc (λq9=>?_) (λq9=>?_)
            ·replace q9:=dC q9;refine aI ?_;refine aC 4 (H) ?_;exact⟨fK jV,rfl⟩
            ·simp_all
           ·refine ax ?_;refine az (λxu=>?_) λxu=>?_
            ·refine aO ?_;refine bc (λtI=>?_) (λtI=>?_)
             ·replace tI:=dC tI;refine aI ?_;refine aC 4 (H) ?_;exact⟨fK jV,rfl⟩
             ·simp_all
            ·refine ax ?_;refine az (λvp=>?_) λvp=>?_
             ·refine aO ?_;refine bc (λsj=>?_) (λsj=>?_)
              ·replace sj:=dC sj;refine aI ?_;refine aC 4 (H) ?_;exact⟨fK jV,rfl⟩
              ·simp_all
             ·refine ax ?_;refine az (λzZ=>?_) λzZ=>?_
              ·refine aO ?_;refine bc (λz1=>?_) (λz1=>?_)
               ·replace z1:=dC z1;refine aI ?_;refine aC 4 (H) ?_;exact⟨fK jV,rfl⟩
               ·simp_all
              ·refine ax ?_;refine az (λHF=>?_) λHF=>?_
               ·refine aO ?_;refine bc (λz6=>?_) (λz6=>?_)
                ·replace z6:=dC z6;refine aI ?_;refine aC 4 (H) ?_;exact⟨fK jV,rfl⟩
                ·simp_all
               ·refine aT ?_;refine az (λHG=>?_) λHG=>?_
                ·refine aI ?_;refine aC 4 (H) ?_;exact⟨fK jV,rfl⟩
                ·refine ax ?_;refine az (λHH=>?_) λHH=>?_
                 ·refine aI ?_;refine aC 4 (H) ?_;exact⟨fK jV,rfl⟩
                 ·refine ax ?_;refine az (λHI=>?_) λHI=>?_
                  ·refine eb ?_;refine bc (λwm=>?_) (λwm=>?_)
                   ·refine ax ?_;refine ag ((by first | exact ad.fC rfl rfl rfl rfl rfl K2 | exact ad.ep rfl rfl rfl rfl rfl K2)) ?_;refine aP ?_;refine aC 4 (H) ?_;exact⟨fK jV,rfl⟩
                   ·have wm: ¬(0<=x.n/\x.n<p.cT.length):=by
                     simp only[Bool.cond_false_right,Bool.and_eq_false_iff,decide_eq_false_iff_not] at wm;omega
                    refine ba ?_;refine aC 4 (H) ?_;exact⟨fK jV,rfl⟩
                  ·refine ba ?_;refine aC 4 (H) ?_;exact⟨fK jV,rfl⟩
def aav(p)(g:p.aE.length<=4000000)(x)(a):aG prog 152 [ab.prog p,ab.zB x,.i a] (.b (gC p x a)):=by
 intro H;refine aM func152 λB I h=>?_;refine oX ?_;refine az (λaf=>?_) λaf=>?_
 ·refine aY ?_;refine ag (.call .k (PD x.n)) ?_;refine ax ?_;refine aC 6 H ?_;exact⟨bq uj,rfl⟩
 ·refine ax ?_;refine az (λae=>?_) λae=>?_
  ·refine gL ?_;refine aC 6 (H) ?_;exact⟨bq uj,rfl⟩
  ·refine aP ?_;refine az (λao=>?_) λao=>?_
   ·refine aO ?_;refine bc (λaV=>?_) (λaV=>?_)
    ·replace aV:=dC aV;refine jI ?_;refine aC 6 (H) ?_;exact⟨bq uj,rfl⟩
    ·simp_all
   ·refine aT ?_;refine az (λbu=>?_) λbu=>?_
    ·refine jI ?_;refine aC 6 (H) ?_;exact⟨bq uj,rfl⟩
    ·refine ax ?_;refine az (λcr=>?_) λcr=>?_
     ·refine uV ?_;refine aC 6 (H) ?_;exact⟨bq uj,rfl⟩
     ·refine aP ?_;refine az (λdK=>?_) λdK=>?_
      ·refine aO ?_;refine bc (λdA=>?_) (λdA=>?_)
       ·replace dA:=dC dA;refine jj ?_;refine aC 6 (H) ?_;exact⟨bq uj,rfl⟩
       ·simp_all
      ·refine aT ?_;refine az (λdP=>?_) λdP=>?_
       ·refine jj ?_;refine aC 6 (H) ?_;exact⟨bq uj,rfl⟩
       ·refine bR ?_;refine aC 6 (H) ?_;exact⟨bq (by unfold gC rG;simp_all;rw[Bool.eq_iff_iff];simp;omega),rfl⟩
def HJ(k):aG prog 98 [.i k] (.b (k==1 || k==4)):=by
 intro H;refine aM func98 λB I a=>?_;refine gL ?_;refine aC 2 H ?_;exact⟨bq (by rw[Bool.cond_true_left]),rfl⟩
section
open Go.Shelf Go.Sort
def aaw:Ren:={f:=λx=>match x with | 125=>202 | 128=>227 | 129=>228 | 189=>176 | 215=>251 | 216=>224 | 257=>201 | 294=>218 | 295=>219 | 296=>220 | 297=>221 | 298=>222 | 299=>223 | 300=>225 | 301=>226 | 328=>246 | 329=>247 | 330=>248 | 331=>249 | 332=>250 | 343=>264 | n=>n,t:=λx=>match x with | 0=>0 | 3=>3 | 4=>4 | 5=>5 | 9=>9 | 28=>23 | 46=>210 | 51=>239 | 53=>183 | 131=>138 | 182=>264 | 183=>265 | 218=>281 | 222=>146 | 228=>293 | 229=>294 | n=>n,g:=λx=>x}
def Dc:Lays.n189 prog aaw where
 mixed:=by kernel_rfl
 f125:=func202.trans (congrArg some ay)
 f128:=func227.trans (congrArg some ay)
 f129:=func228.trans (congrArg some ay)
 f189:=func176.trans (congrArg some ay)
 f215:=func251.trans (congrArg some ay)
 f216:=func224.trans (congrArg some ay)
 f257:=func201.trans (congrArg some ay)
 f294:=func218.trans (congrArg some ay)
 f295:=func219.trans (congrArg some ay)
 f296:=func220.trans (congrArg some ay)
 f297:=func221.trans (congrArg some ay)
 f298:=func222.trans (congrArg some ay)
 f299:=func223.trans (congrArg some ay)
 f300:=func225.trans (congrArg some ay)
 f301:=func226.trans (congrArg some ay)
 f328:=func246.trans (congrArg some ay)
 f329:=func247.trans (congrArg some ay)
 f330:=func248.trans (congrArg some ay)
 f331:=func249.trans (congrArg some ay)
 f332:=func250.trans (congrArg some ay)
 f343:=func264.trans (congrArg some ay)
 t0:=underlying0
 a0:=Tryz.isAgg0
 z0:=Tryz.sizeOf0
 v0:=zeroValue0
 t3:=underlying3
 a3:=Tryz.isAgg3
 z3:=Tryz.sizeOf3
 v3:=zeroValue3
 t4:=underlying4
 a4:=Tryz.isAgg4
 z4:=Tryz.sizeOf4
 v4:=zeroValue4
 t5:=underlying5
 a5:=Tryz.isAgg5
 z5:=Tryz.sizeOf5
 v5:=zeroValue5
 t9:=underlying9
 a9:=Tryz.isAgg9
 z9:=Tryz.sizeOf9
 v9:=zeroValue9
 t28:=underlying23
 a28:=Tryz.isAgg23
 z28:=Tryz.sizeOf23
 v28:=zeroValue23
 t46:=underlying210
 a46:=Tryz.isAgg210
 z46:=Tryz.sizeOf210
 v46:=zeroValue210
 t51:=underlying239
 a51:=Tryz.isAgg239
 z51:=Tryz.sizeOf239
 v51:=zeroValue239
 t53:=underlying183
 a53:=Tryz.isAgg183
 z53:=Tryz.sizeOf183
 v53:=zeroValue183
 t131:=underlying138
 a131:=Tryz.isAgg138
 z131:=Tryz.sizeOf138
 v131:=zeroValue138
 t182:=underlying264
 a182:=Tryz.isAgg264
 z182:=Tryz.sizeOf264
 v182:=zeroValue264
 t183:=underlying265
 a183:=Tryz.isAgg265
 z183:=Tryz.sizeOf265
 v183:=zeroValue265
 t218:=underlying281
 a218:=Tryz.isAgg281
 z218:=Tryz.sizeOf281
 v218:=zeroValue281
 t222:=underlying146
 a222:=Tryz.isAgg146
 z222:=Tryz.sizeOf146
 v222:=zeroValue146
 t228:=underlying293
 a228:=Tryz.isAgg293
 z228:=Tryz.sizeOf293
 v228:=zeroValue293
 t229:=underlying294
 a229:=Tryz.isAgg294
 z229:=Tryz.sizeOf294
 v229:=zeroValue294
def Dd(l):(fj l).flatten=(l.map (.int .i64)).map .val:=by
 induction l with
 | nil=>rfl
 | cons x r a=>simp only[fj,List.map_cons,List.flatten_cons] at a ⊢;rw[a];rfl
def aax(B)(v)(l)(V:l.length<=1000000)(Hx):eK B prog 176 [.val v] (hB v l::Hx) (λy T=>y= .bk []/\T=hB v (hS l)::Hx) (λ_ _=>False):=by
 refine⟨ay,λI w M A D L=>?_⟩;obtain⟨u,rfl⟩:∃u,M= [u]:=by cases L with | cons _ u _ _ _ U=>cases U;exact⟨u,rfl⟩
 have P:u=v:=by cases L with | cons _ u _ _ K _=>exact bX K
 subst P;obtain⟨Q,C,z,t⟩:=D.ok _ dv;have E:Q=l.map (.int .i64):=by
  rw[Dd] at z;exact oT z
 subst E;rcases C.2 with⟨rfl,N⟩ | ⟨g,cap,cur,rfl,hBg,aw,n4,pK,hcs,lr⟩
 ·have:l= []:=by cases l with | nil=>rfl | cons x r=>simp[fj] at N
  subst this;refine (Any.slices_Sort_int_none Dc none 0 w).mono λe q ⟨J,n3⟩=>?_;subst n3;exact⟨I,_,A,.refl _ _ _,D,.inl ⟨_,_,J,.bk _ _ .nil,rfl,by simp[hS]⟩⟩
 ·have f:(fj l).length=l.length:=by simp[fj]
  rw[f] at n4 lr;rw[Nat.mul_one] at lr;have c:(hS l).length=l.length:=List.length_mergeSort _;refine ((f▸Any.slices_Sort_int Dc g 0 cap l w (holds_of_blockI aw lr) (Array.getElem?_eq_some_iff.1 aw).1 aa:Calls prog 176 #[.slice (some ⟨g,0,none⟩) (fj l).length cap] w _)).mono λe q ⟨J,n,os,n3⟩=>?_;have H:w.grownBy q (some g):=by subst n3;exact grownBy_sortedI _
  have O:q.ownsRow B 3 1 (.slice (some ⟨g,0,none⟩) l.length cap) l.length ((hS l).map (.int .i64)):=by
   subst n3;exact ownsRow_sortedI (ss:=l) c hBg aw n4 pK hcs
  have j:Go.RowKit.Below B w q:=(Go.RowKit.Below.refl B w).grown H A.base (λj S=>by cases S;exact hBg);have h:∀b i,I b i->q.cell? ⟨b,i,none⟩=w.cell? ⟨b,i,none⟩:=λb i s=>
   World.cell?_of_block (a:=⟨b,i,none⟩) (H.block b (A.lt s) (λe=>by cases e;exact t _ rfl i s))
  have m:er I w I q:=⟨λ_ _ x=>x,h⟩;refine⟨I,hB (.slice (some ⟨g,0,none⟩) (fj l).length cap) (hS l)::Hx,⟨Nat.le_trans A.base j.size,λb o s=>by rw[h b o s];exact A.there b o s⟩,⟨m.il,m.cell,j⟩,?_,.inl ⟨_,_,J,.bk _ _ .nil,rfl,rfl⟩⟩;refine D.fE (.head _ _ _) m (λb G F=>H.block b G (λe=>F (by cases e;rfl))) (λb o K=>.inl K) ⟨(hS l).map (.int .i64),?_,?_,t⟩ λb R=>.inl R
  ·rw[f,show (fj (hS l)).length=l.length by simp[fj,c]];exact O
  ·rw[Dd];exact lj _
end
instance:qT prog 128 (3,4):=⟨ay,ay⟩
instance:uU prog 4 (.bool false):=⟨ay⟩
def HK(p)(T:p.aE.length<=100)(C:∀c∈p.aE,c.av.length<=1000)(F:∀c∈p.aE,∀x∈c.parents,fV x){k}(E:fV k)(N:k<3+p.aE.length):aG prog 139 [ab.prog p,.i k] (.ints (cu p k)):=by
 intro H;refine aM func139 λB I U=>?_;refine aI ?_;refine .mkMap rfl rfl rfl rfl λbp=>?_;refine aR ?_;refine .iu (l:=[]) (u':=.b true) rfl rfl Xm rfl rfl rfl rfl rfl rfl gu CA .nil E ?_;refine gL ?_;refine .y5 3 1 ?_;have M: -9223372036854775808<=k:=E.1;refine bo (λm D=>∃(c:Int) (a:ak) (v:Value) (l:List (Int×ab)) (S:ak),D=⟨[(7,.i c),(6,.val v),(5,.val (.map (some bp))),(2,.ptr (cM p))],hB v a::dW bp l::H⟩/\m=(c - 2).toNat/\(c<=k/\(c=k\/2<=c))/\oc l S/\jK p (c - 2).toNat S a=jK p (k - 2).toNat [k] []/\a.length+1000*(c - 2).toNat<=1000*(k - 2).toNat) (⟨k,[],_,_,[k],rfl,rfl,⟨Int.le_refl _,.inl rfl⟩,oc.nil.put E,rfl,aS⟩) ?_;rintro m _ ⟨c,a,v,l,S,rfl,rfl,O,z,A,K⟩;refine aP ?_;refine az (λaf=>?_) λaf=>?_
 ·have G:3<=c:=by omega
  obtain⟨n,J⟩:∃n:Nat,c=n+3:=⟨(c - 3).toNat,aa⟩;have q:(c - 3).toNat<p.aE.length:=by omega
  have L:=C _ (bI q);have h:=F _ (bI q);refine aI ?_;refine ag (.tm rfl rfl rfl rfl rfl uX z.ok ey) ?_;refine aO ?_;refine .le 20 (y:=.b (S.contains c)) rfl (z.look c) ?_;refine az (λae=>?_) λae=>?_
  ·refine bY ?_;refine .MA (fj (p.aE.getD (c - 3).toNat default).av) rfl rfl rfl rfl rfl rfl rfl rfl gu (sa _) (λv=>.head _ _ _) (by simp only[xh];omega) (by simp only[xh];omega) (λDe=>?_);refine aY ?_;refine aB.kX (H':=hB De (a++(p.aE.getD (c - 3).toNat default).av)::dW bp l::H) (congrArg (· ::_) (NJ _ _ _)) ?_;refine dk ?_;refine aB.eG (t:=36) rfl (λaky=>?_);refine bo (λm D=>∃(j:Nat) (s:List (Int×ab)),D=⟨[(38,.i j),(37,.i (p.aE.getD (c - 3).toNat default).parents.length),(36,ab.ints (p.aE.getD (c - 3).toNat default).parents),(7,.i c),(6,.val De),(5,.val (.map (some bp))),(2,.ptr (cM p))],hB De (a++(p.aE.getD (c - 3).toNat default).av)::dW bp s::H⟩/\m=(p.aE.getD (c - 3).toNat default).parents.length - j/\j<=(p.aE.getD (c - 3).toNat default).parents.length/\oc s (S++(p.aE.getD (c - 3).toNat default).parents.take j)) (⟨0,l,rfl,rfl,aa,by simpa using z⟩) ?_;rintro m _ ⟨j,s,rfl,rfl,V,g⟩;refine ax ?_;refine az (λao=>?_) λao=>?_
   ·have f:j<(p.aE.getD (c - 3).toNat default).parents.length:=by omega
    refine c4 ?_;refine aj.iu (u':=.b true) rfl rfl (.inl rfl) rfl rfl rfl rfl rfl rfl (an.refl _) (.tail _ _ _ _ _ (.head _ _ _)) g.ok (h _ (bI f)) ?_;refine aP ?_;exact aW (⟨j+1,_,rfl,rfl,f,by rw[<-c2 f, <-List.append_assoc];exact g.put (h _ (bI f))⟩)
   ·obtain rfl:j=(p.aE.getD (c - 3).toNat default).parents.length:=by omega
    rw[List.take_length] at g;refine bE ?_;exact aW (⟨c - 1,a++(p.aE.getD (c - 3).toNat default).av,De,s,S++(p.aE.getD (c - 3).toNat default).parents,rfl,rfl,⟨aa,.inr aa⟩,g,by rw[<-A,XA J ae],by rw[List.length_append];omega⟩)
  ·refine aI ?_;exact aW (⟨c - 1,a,v,l,S,rfl,rfl,⟨aa,.inr aa⟩,z,by rw[<-A,XB J ae],aa⟩)
 ·have G:c<=2:=by omega
  rw[show (c - 2).toNat=0 by omega] at A;have r:a=jK p (k - 2).toNat [k] []:=A;refine aI ?_;refine cE .k (aax B v a aa _) ?_;rintro y R ⟨rfl,rfl⟩;refine aF ?_;refine aB.tf (d:=6) (els:=fj (hS a)) rfl (.head _ _) (λe Q=>by obtain⟨y,_,rfl⟩:=List.mem_map.1 Q;rfl) ?_;refine aO ?_;refine ag (ad.call .k (Yw _)) ?_;refine aY ?_;refine aC 4 (H) ?_;exact⟨by rw[r];rfl,rfl⟩
def aay(V:p.Small)(H:aA):bO prog 125 [ab.prog p] H (λ_ H'=>fP p=true/\H'=H) (λy H'=>y=tD/\fP p=false/\H'=H):=by
 refine aM (n:=112) func125 λB I bW=>?_;have a0:=V.aE;have N:=V.parents;refine bE ?_;rcases pU (decide (p.aE.length<=10)) with o | o
 ·refine aj.l1 rfl rfl (.mk' rfl rfl rfl rfl rfl) (l7 (by rw[<-o];by_cases h:p.aE.length<=10 <;> simp[h] <;> omega) _) eT ?_;intro a w s;exact kC (P:=prog) (fn:=Tryz.f125) eT bC ⟨rfl,NP o,rfl⟩ a w s
 ·refine aj.mB rfl rfl rfl (.mk' rfl rfl rfl rfl rfl) (mL (by simp at o;simp;omega) _) ?_;have o:=of_decide_eq_true o;refine gL ?_;refine bo (λm z=>∃i:Nat,z=⟨[(24,.i i),(23,.i p.aE.length),(22,.ai 3 (p.aE.map o3)),(2,.i (ej (p.aE.take i))),(1,.ptr (cM p))],H⟩/\m=p.aE.length - i/\i<=p.aE.length/\jo (p.aE.take i) 0=true) (⟨0,rfl,rfl,aa,rfl⟩) ?_;rintro m _ ⟨i,rfl,rfl,aQ,L⟩;refine ax ?_;refine az (λaf=>?_) λaf=>?_
  ·have g:i<p.aE.length:=by omega
   have O:=bI g;have E:=zK _ _ L;rw[List.length_take] at E;refine aI ?_;refine bK (λdM=>?_);refine ba ?_;rcases pU (decide ((p.aE.getD i default).av.length<=4)) with D | D
   ·refine aj.l1 rfl rfl (.mk' rfl rfl rfl rfl rfl) (l7 (by simp at D;simp;omega) _) eT ?_;intro a w s;exact kC (P:=prog) (fn:=Tryz.f125) eT bC ⟨rfl,G0 g (by rw[D];rfl),rfl⟩ a w s
   ·refine aj.mB rfl rfl rfl (.mk' rfl rfl rfl rfl rfl) (mL (by simp at D;simp;omega) _) ?_;refine bE ?_;refine aB.eG (t:=34) rfl (λakz=>?_);have W:=of_decide_eq_true D;refine bo (λm z=>∃j:Nat,z=⟨[(36,.i j),(35,.i (p.aE.getD i default).av.length),(34,ab.ints (p.aE.getD i default).av),(24,.i i),(23,.i p.aE.length),(22,.ai 3 (p.aE.map o3)),(2,.i ((ej (p.aE.take i))+j:Nat)),(1,.ptr (cM p))],H⟩/\m=(p.aE.getD i default).av.length - j/\j<=(p.aE.getD i default).av.length/\iD ((p.aE.getD i default).av.take j) (ej (p.aE.take i))=true) (⟨0,rfl,rfl,aa,rfl⟩) ?_;rintro m _ ⟨j,rfl,rfl,Y,B⟩;refine ax ?_;refine az (λae=>?_) λae=>?_
    ·have r:j<(p.aE.getD i default).av.length:=by omega
     refine ji ?_;rcases pU (((p.aE.getD i default).av.getD j default==(((ej (p.aE.take i))+j:Nat):Int))) with G | G
     ·refine aj.l1 rfl rfl (.mk' rfl rfl rfl rfl rfl) (l7 (G) _) eT ?_;intro a w s;exact kC (P:=prog) (fn:=Tryz.f125) eT bC ⟨rfl,NQ g r G,rfl⟩ a w s
     ·refine aj.mB rfl rfl rfl (.mk' rfl rfl rfl rfl rfl) (mL (G) _) ?_;refine dk ?_;exact aW (⟨j+1,cO,rfl,r,by rw[CV _ _ _ r,B,G];rfl⟩)
    ·obtain rfl:j=(p.aE.getD i default).av.length:=by omega
     rw[List.take_length] at B;refine bY ?_;exact aW (⟨i+1,by rw[GX g],rfl,g,by rw[zJ _ _ _ g,L,D,Nat.zero_add,B];rfl⟩)
  ·obtain rfl:i=p.aE.length:=by omega
   rw[List.take_length] at L ⊢;refine aI ?_;refine ag (ad.call .k (graph p aa N)) ?_;refine bE ?_;refine aj.db rfl rfl rfl rfl rfl rfl (λaw=>ad.call (.mk' rfl rfl rfl rfl c9) (Yu (b9 p))) ?_;refine aO ?_;rcases pU ((((ej p.aE:Int)==p.av) && fX (b9 p))) with b8 | b8
   ·refine aj.l1 rfl rfl (.mk' rfl rfl rfl rfl rfl) (l7 KZ _) eT ?_;intro a w s;exact kC (P:=prog) (fn:=Tryz.f125) eT bC ⟨rfl,G1 b8,rfl⟩ a w s
   ·refine aj.mB rfl rfl rfl (.mk' rfl rfl rfl rfl rfl) (mL KZ _) ?_;rw[Bool.and_eq_true] at b8;obtain⟨Q,v⟩:=b8;obtain⟨_,R⟩:=NR v;have F:=u9 _ _ L;have bF:(b9 p).length=p.aE.length:=by simp[b9]
    refine bE ?_;refine bo (λm z=>∃i:Nat,z=⟨[(63,.i i),(62,.i p.aE.length),(61,.ai 3 (p.aE.map o3)),(7,ab.bm (b9 p)),(1,.ptr (cM p))],H⟩/\m=p.aE.length - i/\i<=p.aE.length/\(List.range i).all (nr p)=true) (⟨0,rfl,rfl,aa,rfl⟩) ?_;rintro m _ ⟨i,rfl,rfl,aQ,T⟩;refine ax ?_;refine az (λao=>?_) λao=>?_
    ·have g:i<p.aE.length:=by omega
     have O:=bI g;refine ba ?_;refine bK (λgG=>?_);refine ba ?_;refine ag (ad.call .k (Pg v (c:=(i:Int)+3) aa)) ?_;refine bE ?_;rcases pU ((dE (b9 p) ((i:Int)+3)).isEmpty) with J | J
     ·refine aj.mB rfl rfl rfl (.mk' rfl rfl rfl rfl rfl) (mL (by rw[J];rfl) _) ?_;refine aP ?_;refine ag (ad.call .k (HK p aa (λc h=>by have:=(F c h).1;omega) R (k:=(i:Int)+3) ey aa)) ?_;refine aj.mkMap rfl rfl rfl rfl (λbp=>?_);refine dk ?_;refine aB.vc (H':=dW bp []::H) (.cons_cons _ (.cons _ (.refl _))) ?_;obtain⟨f,q⟩:∃f,f=cu p ((i:Int)+3):=⟨_,rfl⟩;rw[<-q];refine aB.eG (t:=84) rfl (λakA=>?_);refine bo (λm z=>∃(j:Nat) (l:List (Int×ab)),z=⟨[(86,.i j),(85,.i (p.aE.getD i default).inits.length),(84,.ai 2 ((p.aE.getD i default).inits.map qW)),(12,ab.ints f),(13,.val (.map (some bp))),(63,.i i),(62,.i p.aE.length),(61,.ai 3 (p.aE.map o3)),(7,ab.bm (b9 p)),(1,.ptr (cM p))],dW bp l::H⟩/\m=(p.aE.getD i default).inits.length - j/\j<=(p.aE.getD i default).inits.length/\oc l (((p.aE.getD i default).inits.take j).map (·.1))/\kG f ((p.aE.getD i default).inits.take j) []=true) (⟨0,[],rfl,rfl,aa,oc.nil,rfl⟩) ?_;rintro m _ ⟨j,l,rfl,rfl,Y,S,A⟩;refine ax ?_;refine az (λaV=>?_) λaV=>?_
      ·have r:j<(p.aE.getD i default).inits.length:=by omega
       obtain⟨X,M⟩:∃X,X=(p.aE.getD i default).inits.getD j default:=⟨_,rfl⟩;have C:f.contains X.1=true->fV X.1:=λh=>by
        rw[q] at h;obtain⟨c,Z,ao⟩:=GZ (List.contains_iff_mem.1 h);have:=(F c Z).2 _ ao;unfold fV;omega
       refine aI ?_;refine bK (λhk=>?_);refine aY ?_;rw[<-M];refine aY ?_;refine ag (ad.call .k (zU f X.1)) ?_;refine aY ?_;refine gb (λaw=>ad.XC rfl rfl (cl aw) rfl (cl aw) (.tail _ (.head _)) S (C aw)) ?_;refine aT ?_;refine aj.db rfl rfl rfl rfl rfl rfl (λaw=>ad.call (.mk' rfl rfl rfl rfl c9) (OM X.2)) ?_;refine aR ?_;rcases pU ((f.contains X.1 && !(((p.aE.getD i default).inits.take j).map (·.1)).contains X.1 && oa X.2)) with x | x
       ·refine aj.l1 rfl rfl (.mk' rfl rfl rfl rfl rfl) (l7 (by simp only[Bool.cond_false_right];exact x) _) eT ?_;intro a w s;exact kC (P:=prog) (fn:=Tryz.f125) eT bC ⟨rfl,zL g (by rw[q] at x;exact G2 r (by rw[<-M];exact x)),rfl⟩ a w s
       ·refine aj.mB rfl rfl rfl (.mk' rfl rfl rfl rfl rfl) (mL (by simp only[Bool.cond_false_right];exact x) _) ?_;have K:f.contains X.1=true:=by simp only[Bool.and_eq_true] at x;exact x.1.1
        refine ax ?_;refine aj.iu (u':=.b true) rfl rfl (.inl rfl) rfl rfl rfl rfl rfl rfl (an.refl _) (.tail _ _ _ _ _ (.head _ _ _)) S.ok (C K) ?_;refine aP ?_;exact aW (⟨j+1,_,rfl,rfl,r,by rw[<-c2 r,List.map_append, <-M];exact S.put (C K),by rw[CW f _ _ _ r,A, <-M,List.nil_append,x];rfl⟩)
      ·obtain rfl:j=(p.aE.getD i default).inits.length:=by omega
       rw[List.take_length] at A;refine bY ?_;exact aW (⟨i+1,rfl,rfl,g,lD T (by unfold nr;rw[J, <-q,A];rfl)⟩)
     ·refine aj.l1 rfl rfl (.mk' rfl rfl rfl rfl rfl) (l7 (by rw[J];rfl) _) eT ?_;intro a w s;exact kC (P:=prog) (fn:=Tryz.f125) eT bC ⟨rfl,zL g (by unfold nr;rw[J];rfl),rfl⟩ a w s
    ·obtain rfl:i=p.aE.length:=by omega
     refine aY ?_;refine gM [] (H) ?_;exact⟨by unfold fP;rw[decide_eq_true o,L,Q,v,T];rfl,rfl⟩
def aaz{i}(a:i<p.aE.length):(b9 p).getD i default=(p.aE.getD i default).parents:=by
 rw[b9,List.getD_eq_getElem?_getD,List.getElem?_map,List.getD_eq_getElem?_getD,List.getElem?_eq_getElem a];rfl
def aaA{i}(a:i<p.aE.length)(h: ¬(p.aE.getD i default).parents.length<=3):fP p=false:=
 G1 (by rw[zE (g:=b9 p) (i:=i) (by rw[b9,List.length_map];exact a) (by rw[aaz a,decide_eq_false h];rfl),Bool.and_false])
def PE{W}{c x}:(ef W c).contains x=(decide (0<=x) && decide (x<W.owner.length) && tH W c x.toNat):=by
 rw[Bool.eq_iff_iff,List.contains_iff_mem,ef,List.mem_map];simp[Bool.and_eq_true,decide_eq_true_eq,List.mem_filter,List.mem_range];constructor
 ·rintro⟨s,⟨f,a⟩,rfl⟩;exact⟨lz,by rw[Int.toNat_natCast];exact a⟩
 ·rintro⟨⟨f,a⟩,g⟩;exact⟨x.toNat,⟨aa,g⟩,aa⟩
def aaB{x}{q}(a:q<l.length)(h:((l.take q).map (·.1)).contains x=false)(c: ¬(l.getD q default).1=x):((l.take (q+1)).map (·.1)).contains x=false:=by
 rw[<-c2 a,List.map_append,List.contains_eq_any_beq,List.any_append, <-List.contains_eq_any_beq,h];simp;exact λe=>c (by rw[e,List.getD_eq_getElem?_getD])
def aaC{x}{q j}(f:q<j)(c:j<=l.length)(a:(l.getD q default).1=x):((l.take j).map (·.1)).contains x=true:=by
 rw[List.contains_iff_mem,List.mem_map];refine⟨l.getD q default,?_,a⟩;rw[List.getD_eq_getElem?_getD,List.getElem?_eq_getElem aa];exact List.mem_take_iff_getElem.2 ⟨q,aa,rfl⟩
def aaD{W}(h:cx W){c:Int}(a:3<=c)(j:c<3+W.parents.length){n:Nat}(hn:W.owner.length=n){x:Int}(g:(!bif decide (x<0) then true else decide (x>=n))=true):aG prog 85 [ab.world W,.i c,.i x] (.b (tH W c x.toNat)):=by
 have f:0<=x/\x<n:=by
  simp only[Bool.cond_true_left,Bool.not_eq_true',Bool.or_eq_false_iff,decide_eq_false_iff_not] at g;omega
 have h:=PA h a j (s:=x.toNat) aa;rwa [Int.toNat_of_nonneg f.1] at h
def aaE(U:p.Small):aG prog 94 [ab.prog p] (.b (fP p)):=by
 intro H;refine aM func94 λB I bW=>?_;have a0:=U.aE;have B:=U.parents;refine eb ?_;refine az (λaf=>?_) λaf=>?_
 ·refine aP ?_;refine aC 2 (H) ?_;exact⟨bq (NP cB).symm,rfl⟩
 ·have F:p.aE.length<=10:=by omega
  refine c4 ?_;refine bo (λm q=>∃i:Nat,q=⟨[(4,.i i),(3,.i (ej (p.aE.take i))),(1,.ptr (cM p))],H⟩/\m=p.aE.length - i/\i<=p.aE.length/\jo (p.aE.take i) 0=true) iA ?_;rintro m _ ⟨i,rfl,rfl,aQ,z⟩;refine bY ?_;refine az (λae=>?_) λae=>?_
  ·have a:i<p.aE.length:=by omega
   have A:=zK _ _ z;rw[List.length_take] at A;refine W8 ?_;refine bc (λao=>?_) (λao=>?_)
   ·rw[Bool.cond_true_left,Bool.or_eq_true,decide_eq_true_eq,decide_eq_true_eq] at ao;have l:fP p=false:=by
     rcases ao with ao | ao
     ·exact G0 a (by rw[decide_eq_false aa];rfl)
     ·exact aaA a aa
    refine bR ?_;refine aC 2 (H) ?_;exact⟨bq l.symm,rfl⟩
   ·rw[Bool.cond_true_left,Bool.or_eq_false_iff,decide_eq_false_iff_not,decide_eq_false_iff_not] at ao;have P:(p.aE.getD i default).av.length<=4:=by omega
    refine aI ?_;refine bo (λm q=>∃j:Nat,q=⟨[(6,.i j),(5,ab.ints (p.aE.getD i default).av),(4,.i i),(3,.i ((ej (p.aE.take i))+j:Nat)),(1,.ptr (cM p))],H⟩/\m=(p.aE.getD i default).av.length - j/\j<=(p.aE.getD i default).av.length/\iD ((p.aE.getD i default).av.take j) (ej (p.aE.take i))=true) iA ?_;rintro m _ ⟨j,rfl,rfl,Y,w⟩;refine ba ?_;refine az (λaV=>?_) λaV=>?_
    ·have f:j<(p.aE.getD i default).av.length:=by omega
     refine eb ?_;refine az (λbu=>?_) λbu=>?_
     ·have L:(p.aE.getD i default).av.getD j default≠(((ej (p.aE.take i))+j:Nat):Int):=bu;refine ji ?_;refine aC 2 (H) ?_;exact⟨bq (NQ a f (by rw[beq_eq_false_iff_ne];exact L)).symm,rfl⟩
     ·have O:(p.aE.getD i default).av.getD j default=(((ej (p.aE.take i))+j:Nat):Int):=bu;refine c4 ?_;exact aW (⟨j+1,cO,rfl,f,by rw[CV _ _ _ f,w,O];simp⟩)
    ·obtain rfl:j=(p.aE.getD i default).av.length:=by omega
     rw[List.take_length] at w;refine bE ?_;exact aW (⟨i+1,by rw[GX a],rfl,a,by rw[zJ _ _ _ a,z,decide_eq_true P,Nat.zero_add,w];rfl⟩)
  ·obtain rfl:i=p.aE.length:=by omega
   rw[List.take_length] at z ⊢;refine aI ?_;refine ag (ad.call .k (HD p aa B)) ?_;refine bR ?_;refine aj.db rfl rfl rfl rfl rfl rfl (λaw=>ad.call (.mk' rfl rfl rfl rfl c9) (ZW (b9 p))) ?_;refine aY ?_;refine bc (λcr=>?_) (λcr=>?_)
   ·have l:fP p=false:=G1 (by revert cr;cases fX (b9 p) <;> cases cd:((ej p.aE:Int)==p.av) <;> simp_all);refine aP ?_;refine aC 2 (H) ?_;exact⟨bq l.symm,rfl⟩
   ·have T:(((ej p.aE:Int)==p.av) && fX (b9 p))=true:=by revert cr;cases fX (b9 p) <;> cases cd:((ej p.aE:Int)==p.av) <;> simp_all
    rw[Bool.and_eq_true] at T;obtain⟨E,g⟩:=T;have R:oh p:=⟨F,z,beq_iff_eq.1 E,g⟩;have Z:=R.world;have bF:=q6 p;have M:=tF p.aE 0;have o:(bS p).owner.length=ej p.aE:=M;have K:=u9 _ _ z;refine aT ?_;refine ag (ad.call .k (HE p aa (λc h=>⟨B c h,by have:=(K c h).1;omega⟩))) ?_;refine bK (λdc=>?_);refine aT ?_;refine eA 8 ?_;refine aT ?_;refine bo (λm q=>∃i:Nat,q=⟨[(9,.i i),(8,.ptr (cD (bS p))),(7,ab.bm (b9 p)),(3,.i (ej p.aE)),(1,.ptr (cM p))],H⟩/\m=p.aE.length - i/\i<=p.aE.length/\(List.range i).all (nr p)=true) iA ?_;rintro m _ ⟨i,rfl,rfl,aQ,S⟩;refine bY ?_;refine az (λdK=>?_) λdK=>?_
    ·have a:i<p.aE.length:=by omega
     have a2:(b9 p).length=p.aE.length:=by simp[b9]
     have J:cu p ((i:Int)+3)=ef (bS p) ((i:Int)+3):=Hy R aa aa;refine ji ?_;refine ag (ad.call .k (Pv g (c:=(i:Int)+3) aa aa)) ?_;refine dk ?_;refine bc (λdA=>?_) (λdA=>?_)
     ·have N:(dE (b9 p) ((i:Int)+3)).isEmpty=true:=by revert dA;cases (dE (b9 p) ((i:Int)+3)).isEmpty <;> simp
      refine bR ?_;refine aC 2 (H) ?_;exact⟨bq (zL a (by unfold nr;rw[N];rfl)).symm,rfl⟩
     ·have N:(dE (b9 p) ((i:Int)+3)).isEmpty=false:=by revert dA;cases (dE (b9 p) ((i:Int)+3)).isEmpty <;> simp
      refine uV ?_;refine aB.eG (t:=13) rfl (λakB=>?_);refine bo (λm q=>∃j:Nat,q=⟨[(14,.i j),(13,ab.l6 (p.aE.getD i default).inits),(10,.i ((i:Int)+3)),(9,.i i),(8,.ptr (cD (bS p))),(7,ab.bm (b9 p)),(3,.i (ej p.aE)),(1,.ptr (cM p))],H⟩/\m=(p.aE.getD i default).inits.length - j/\j<=(p.aE.getD i default).inits.length/\kG (cu p ((i:Int)+3)) ((p.aE.getD i default).inits.take j) []=true) iA ?_;rintro m _ ⟨j,rfl,rfl,Y,v⟩;refine ba ?_;refine az (λdP=>?_) λdP=>?_
      ·have f:j<(p.aE.getD i default).inits.length:=by omega
       have s:=PE (W:=bS p) (c:=(i:Int)+3) (x:=((p.aE.getD i default).inits.getD j default).1);rw[<-J] at s;refine ax ?_;refine bP 2 153 ?_;refine oY ?_;refine b0.dG 7 13 153 rfl aq rfl rfl aq ?_;refine uV ?_;refine b0.dG 16 23 153 rfl aq rfl rfl aq ?_;refine ba ?_;refine gb (λaw=>ad.call (.mk' rfl rfl rfl rfl c9) (aaD Z (c:=(i:Int)+3) aa aa o aw)) ?_;refine c4 ?_;refine b0.dG 27 29 153 rfl aq rfl rfl aq ?_;refine aP ?_;refine aj.db rfl rfl rfl rfl rfl rfl (λaw=>ad.call (.mk' rfl rfl rfl rfl c9) (PD ((p.aE.getD i default).inits.getD j default).2)) ?_;refine aY ?_;refine bc (λc7=>?_) (λc7=>?_)
       ·have l:((cu p ((i:Int)+3)).contains ((p.aE.getD i default).inits.getD j default).1 && oa ((p.aE.getD i default).inits.getD j default).2)=false:=by
         rw[s,o];simp only[Bool.cond_true_left] at c7;rw[<-Bool.not_eq_true,Bool.and_eq_true,Bool.and_eq_true,Bool.and_eq_true,decide_eq_true_eq,decide_eq_true_eq];rintro⟨⟨⟨hO,fO⟩,fi⟩,X⟩;rw[fi,X,decide_eq_false aa,decide_eq_false aa] at c7;cases c7
        refine ji ?_;refine aC 2 (H) ?_;exact⟨bq (zL a (G2 f (by revert l;cases (cu p ((i:Int)+3)).contains ((p.aE.getD i default).inits.getD j default).1 <;> cases oa ((p.aE.getD i default).inits.getD j default).2 <;> simp))).symm,rfl⟩
       ·have r:(cu p ((i:Int)+3)).contains ((p.aE.getD i default).inits.getD j default).1=true/\oa ((p.aE.getD i default).inits.getD j default).2=true:=by
         rw[s,o];simp only[Bool.cond_true_left,Bool.or_eq_false_iff,decide_eq_false_iff_not,Bool.not_eq_false'] at c7;rw[c7.1.2,decide_eq_true aa,decide_eq_true aa];exact⟨rfl,c7.2⟩
        refine aI ?_;refine bo (λm q=>∃k:Nat,q=⟨[(15,.i k),(14,.i j),(13,ab.l6 (p.aE.getD i default).inits),(10,.i ((i:Int)+3)),(9,.i i),(8,.ptr (cD (bS p))),(7,ab.bm (b9 p)),(3,.i (ej p.aE)),(1,.ptr (cM p))],H⟩/\m=j - k/\k<=j/\(((p.aE.getD i default).inits.take k).map (·.1)).contains ((p.aE.getD i default).inits.getD j default).1=false) iA ?_;rintro m _ ⟨k,rfl,rfl,bD,V⟩;refine aI ?_;refine az (λhJ=>?_) λhJ=>?_
        ·have C:k<j:=by omega
         refine aT ?_;refine bP 10 153 ?_;refine eb ?_;refine az (λh1=>?_) λh1=>?_
         ·refine uV ?_;refine aC 2 (H) ?_;exact⟨bq (zL a (G2 f (by rw[aaC C aa h1];simp))).symm,rfl⟩
         ·refine aI ?_;exact aW (⟨k+1,rfl,rfl,C,aaB aa V h1⟩)
        ·obtain rfl:k=j:=by omega
         refine bE ?_;exact aW (⟨k+1,rfl,rfl,f,by rw[CW _ _ _ _ f,v,List.nil_append,r.1,r.2,V];rfl⟩)
      ·obtain rfl:j=(p.aE.getD i default).inits.length:=by omega
       rw[List.take_length] at v;refine bE ?_;exact aW (⟨i+1,rfl,rfl,a,lD S (by unfold nr;rw[N,v];rfl)⟩)
    ·obtain rfl:i=p.aE.length:=by omega
     refine bE ?_;refine aC 2 (H) ?_;exact⟨bq (by unfold fP;rw[decide_eq_true F,z,E,g,S];rfl),rfl⟩
def PF(h:0<=i/\i<o.length):(o.map .i++more)[0+i.toNat*1]? =some (.i (o.getD i.toNat default)):=by
 rw[Nat.zero_add,Nat.mul_one,List.getElem?_append_left nL,List.getElem?_map,List.getD_eq_getElem?_getD,List.getElem?_eq_getElem aa];rfl
def aaF(h:0<=i/\i<o.length):Nat.ble (0+i.toNat*1+1) (o.map ab.i++more).length=true:=by
 rw[Nat.ble_eq,List.length_append,List.length_map];omega
def aaG{i v:Int}(h:0<=i/\i<o.length):(o.map ab.i++more).take (0+i.toNat*1)++[.i v]++(o.map ab.i++more).drop (0+i.toNat*1+1)=(o.set i.toNat v).map .i++more:=by
 rw[Nat.zero_add,Nat.mul_one,List.take_append_of_le_length nL,List.drop_append_of_le_length nL,List.map_set,List.set_eq_take_append_cons_drop,if_pos nL];simp
def HL(c:x.cw+f=14)(h:(visit p next f x out).2=some o):o.length=out.length:=by
 rw[(xj (p:=p) (next:=next) f x out c).end_ o h,xk]
def om(p:Prog)(next:Bool)(f:Nat)(x:dw)(out:ak)(nb:Nat)(more:bl)(H:aA)(y:ab)(H':aA):Prop:=match (visit p next f x out).2 with
 | some o=>y= .b true/\H'= .au nb 3 (o.map ab.i++more)::H
 | none=>y= .b false/\∃o':ak,H'= .au nb 3 (o'.map ab.i++more)::H
def HM{nb}(h:(visit p next f x out).2=none)(o':ak):om p next f x out nb more H (.b false) (.au nb 3 (o'.map .i++more)::H):=by
 unfold om;rw[h];exact⟨rfl,o',rfl⟩
def aaH{nb}(h:(visit p next f x out).2=some o):om p next f x out nb more H (.b true) (.au nb 3 (o.map .i++more)::H):=by
 unfold om;rw[h];exact⟨rfl,rfl⟩
def PG(p)(x)(a):(bif bif bif decide (x.n<0) then true else decide (x.n>=p.nodes.length) then true else decide (a.getD x.n.toNat default>=0) then true else decide (x.cw>12))= !mI p x a:=by
 unfold mI;simp only[Bool.cond_true_left];rw[Bool.eq_iff_iff];simp only[Bool.or_eq_true,decide_eq_true_eq,Bool.not_eq_true', <-Bool.not_eq_true,Bool.and_eq_true];omega
def PH(b6:p.aE.length<=4000000){next:Bool}{f:Nat}(fv:∀f',f=f'+1->∀(x:dw) (out:ak) (nb cap:Nat) (more:bl) (H:aA),x.cw+f'=14->1<=x.cw->-1000<=x.bB/\x.bB<=1000+x.cw->out.length=p.nodes.length->
  bO prog 97 [ab.prog p,.i x.n,.i x.bB,.i x.cw,.b next,.val (.slice (some ⟨nb,0,none⟩) p.nodes.length cap)] (.au nb 3 (out.map ab.i++more)::H) (om p next f' x out nb more H) (λ_ _=>False))
  (x:dw) (out:ak) (nb cap:Nat) (more:bl) (H:aA) (a6:x.cw+f=14) (akC:1<=x.cw) (rW: -1000<=x.bB/\x.bB<=1000+x.cw) (bb:out.length=p.nodes.length):
  bO prog 97 [ab.prog p,.i x.n,.i x.bB,.i x.cw,.b next,.val (.slice (some ⟨nb,0,none⟩) p.nodes.length cap)] (.au nb 3 (out.map ab.i++more)::H) (om p next f x out nb more H) (λ_ _=>False):=by
 refine aM (n:=98) func97 λB I bW=>?_;refine oX ?_;refine gb (λaw=>ad.gU rfl rfl (cl aw) rfl (cl aw) wq) ?_;refine gb (λaw=>(by first | exact ad.cF rfl rfl (cl aw) rfl | (apply ad.ij rfl rfl (cl aw);(case hm=>repeat (first | exact .head _ | refine .tail _ ?_));(case hy=>exact PF wq)))) ?_;refine aI ?_;refine bc (λaf=>?_) (λaf=>?_)
 ·rw[PG,Bool.not_eq_true'] at af;have jz:fc p next x out=false:=by unfold fc;rw[af];rfl
  refine aP ?_;refine aC 12 (.au nb 3 (out.map ab.i++more)::H) ?_;exact HM (by rw[tw jz]) out
 ·rw[PG,Bool.not_eq_false'] at af;obtain⟨wg,Bg⟩:=N1 af;refine aP ?_;refine ag (ad.gU rfl rfl rfl rfl rfl aa) ?_;apply aj.fZ rfl rfl rfl rfl rfl rfl rfl rfl rfl rfl
  (case hu=>repeat (first | exact bG.head _ _ _ | apply bG.tail));(case hfit=>exact aaF aa);(case hds=>exact aaG aa)
  refine aP ?_;refine ag (Bf) ?_;refine aR ?_;refine bK (λsh=>?_);refine aT ?_;obtain⟨K,eX⟩:∃K,K=fu p x:=⟨_,rfl⟩;rw[show p.nodes.getD x.n.toNat default=K from eX.symm];refine eA 13 ?_;refine bP 6 98 ?_;refine aT ?_;refine bg (ad.call .k (aau p K)) ?_;refine ba ?_;refine b0.dG 8 11 98 rfl aq rfl rfl aq ?_;refine aT ?_;refine aj.db rfl rfl rfl rfl rfl rfl (λaw=>ad.call (.mk' rfl rfl rfl rfl c9) (aav p b6 K x.bB)) ?_;refine dk ?_;refine bc (λae=>?_) (λae=>?_)
  ·rw[PB,Bool.not_eq_true'] at ae;have jz:fc p next x out=false:=by unfold fc;rw[af, <-eX,ae];rfl
   refine aP ?_;refine aC 12 (.au nb 3 ((out.set x.n.toNat x.bB).map ab.i++more)::H) ?_;exact HM (by rw[tw jz]) _
  ·rw[PB,Bool.not_eq_false'] at ae;have hL:fc p next x out=true:=by unfold fc;rw[af, <-eX,ae];rfl
   obtain⟨f',rfl⟩:∃f',f=f'+1:=⟨f - 1,by have c7:=af;simp only[mI,Bool.and_eq_true,decide_eq_true_eq] at c7;omega⟩;have zN:=vb (f:=f') hL;rw[<-eX] at zN;have akD:x.cw<=12:=by have c7:=af;simp only[mI,Bool.and_eq_true,decide_eq_true_eq] at c7;omega
   refine aB.eG (t:=46) rfl (λY0=>?_);refine ba ?_;refine bo (λm st=>∃(i:Nat) (l:List dw) (o:ak),st=⟨[(14,.i i),(13,.ptr (ia K)),(6,.ptr (cM p)),(2,.i x.bB),(3,.i x.cw),(4,.b next),(5,.val (.slice (some ⟨nb,0,none⟩) p.nodes.length cap))],.au nb 3 (o.map ab.i++more)::H⟩/\m=K.kids.length - i/\i<=K.kids.length/\eS (visit p next f') ((hC x K.op 0 K.kids).take i) (iE out x)=(l,some o)/\o.length=p.nodes.length) (⟨0,[],iE out x,rfl,rfl,aa,rfl,by rw[iE,List.length_set];exact bb⟩) ?_;rintro m _ ⟨i,l,o,rfl,rfl,aQ,my,mM⟩;refine bY ?_;refine az (λao=>?_) λao=>?_
   ·have bT:i<K.kids.length:=by omega
    obtain⟨R,hR,zO,xi⟩:=NV (NS (p:=p) (next:=next) f') (NW x K.op bT) my;refine bY ?_;refine aB.kV (λst=>st=⟨[(15,.i (gR x K.op i (K.kids.getD i default)).bB),(14,.i i),(13,.ptr (ia K)),(6,.ptr (cM p)),(2,.i x.bB),(3,.i x.cw),(4,.b next),(5,.val (.slice (some ⟨nb,0,none⟩) p.nodes.length cap))],.au nb 3 (o.map ab.i++more)::H⟩) ?_ ?_
    ·refine bE ?_;refine bc (λaV=>?_) (λaV=>?_)
     ·have HN:K.op=9/\i=1:=by simp only[Bool.cond_false_right,Bool.and_eq_true,beq_iff_eq] at aV;omega
      refine aT ?_;refine aZ.le 15 (y:=.i (gR x K.op i (K.kids.getD i default)).bB) rfl (an.b4 (by simp only[gR];rw[if_pos HN])) ?_;exact dh rfl
     ·have HN: ¬(K.op=9/\i=1):=by simp only[Bool.cond_false_right,Bool.and_eq_false_iff,beq_eq_false_iff_ne] at aV;omega
      refine aR ?_;refine aZ.le 15 (y:=.i (gR x K.op i (K.kids.getD i default)).bB) rfl (an.b4 (by simp only[gR];rw[if_neg HN])) ?_;exact dh rfl
    ·rintro _ rfl;refine aR ?_;rcases bd:(visit p next f' (gR x K.op i (K.kids.getD i default)) o).2 with _ | o'
     ·have hn:=(zO bd).2;refine bP 11 98 ?_;refine dk ?_;refine cE .k ((bO.rQ (fv f' rfl (gR x K.op i (K.kids.getD i default)) o nb cap more H rJ rJ Bz mM) (λy H1 h=>by rw[om,bd] at h;exact h) (λ_ _ h=>h)).b) ?_;rintro _ _ ⟨rfl,fx,rfl⟩;refine aF ?_;refine bc (λbu=>?_) (λbu=>?_)
      ·replace bu:=dC bu;refine bE ?_;refine aC 12 (.au nb 3 (fx.map ab.i++more)::H) ?_;exact HM (by rw[zN];exact hn) fx
      ·cases bu
     ·have z7:=(xi o' bd).1;have HO:=HL rJ bd;refine bP 11 98 ?_;refine dk ?_;refine cE .k ((bO.rQ (fv f' rfl (gR x K.op i (K.kids.getD i default)) o nb cap more H rJ rJ Bz mM) (λy H1 h=>by rw[om,bd] at h;exact h) (λ_ _ h=>h)).b) ?_;rintro _ _ ⟨rfl,rfl⟩;refine aF ?_;refine bc (λcr=>?_) (λcr=>?_)
      ·cases cr
      ·replace cr:=dC cr;refine aI ?_;exact aW (⟨i+1,_,o',rfl,rfl,bT,z7,aa⟩)
   ·obtain rfl:i=K.kids.length:=by omega
    have aaI:eS (visit p next f') (hC x K.op 0 K.kids) (iE out x)=(l,some o):=by rwa [List.take_of_length_le (by rw[G4];omega)] at my
    refine bE ?_;refine aC 12 (.au nb 3 (o.map ab.i++more)::H) ?_;exact aaH (by rw[zN,aaI])
def z8{p}(j:p.aE.length<=4000000){next}:∀(f:Nat) (x:dw) (out:ak) (l m:Nat) (a:bl) (H:aA),x.cw+f=14->1<=x.cw->-1000<=x.bB/\x.bB<=1000+x.cw->out.length=p.nodes.length->
  bO prog 97 [ab.prog p,.i x.n,.i x.bB,.i x.cw,.b next,.val (.slice (some ⟨l,0,none⟩) p.nodes.length m)] (.au l 3 (out.map .i++a)::H) (om p next f x out l a H) (λ_ _=>False)
 | 0=>PH j (λf' h=>by omega)
 | f+1=>PH j (λf' h=>by(obtain rfl:f'=f:=by omega);exact z8 j f')
theorem PI{v}{Q:dw->Prop}:∀(l:List dw) (o:ak),(∀z∈l,∀c,∀y∈(v z c).1,Q y)->∀y∈(eS v l o).1,Q y
 | [],o,_,y,a=>by simp[eS] at a
 | z::r,o,h,y,a=>by
  simp only[eS] at a;rcases bd:v z o with⟨od,_ | hx⟩
  ·rw[bd] at a;exact h z dv o y (by rw[bd];exact a)
  ·rw[bd] at a;rcases List.mem_append.1 a with a | a
   ·exact h z dv o y (by rw[bd];exact a)
   ·exact PI r hx (λw f=>h w (.tail _ f)) y a
theorem PJ{x}{op}(h:0<=x.bB):∀(i:Nat) (l:ak),∀y∈hC x op i l,0<=y.bB
 | _,[],y,a=>by cases a
 | i,k::r,y,a=>by
  rw[hC] at a;rcases List.mem_cons.1 a with rfl | a
  ·simp[gR];split <;> omega
  ·exact PJ h (i+1) r y a
theorem PK{p}{next}:∀(f:Nat) (x:dw) (c:ak),0<=x.bB->∀y∈(visit p next f x c).1,0<=y.bB
 | 0,x,c,h,y,a=>by rw[show (visit p next 0 x c).1= [x] from rfl,List.mem_singleton] at a;rw[a];exact h
 | f+1,x,c,h,y,a=>by
  cases bD:fc p next x c with
  | false=>rw[tw bD,List.mem_singleton] at a;rw[a];exact h
  | true=>
   rw[vb bD] at a;rcases List.mem_cons.1 a with rfl | a
   ·exact h
   ·exact PI _ _ (λz g j y a=>PK f z j (PJ h _ _ z g) y a) y a
def xv(o:ak):Prop:=∀y∈o,-1<=y
theorem PL:∀(L:List dw) (o:ak),(∀x∈L,0<=x.bB)->xv o->xv (hD L o)
 | [],o,_,h=>h
 | x::r,o,f,h=>PL r _ (λy a=>f y (.tail _ a)) (λy a=>by
  rcases List.mem_or_eq_of_mem_set a with c | c
  ·exact h y c
  ·have:=f x dv;omega)
def PM{o o'}(g:x.cw=1)(c:0<=x.bB)(h:(visit p next 13 x o).2=some o')(f:xv o):xv o':=by
 rw[(xj (p:=p) (next:=next) 13 x o aa).end_ o' h];exact PL _ _ (PK 13 x o c) f
def aaJ(p):xv (iT p):=λy a=>by rw[(List.mem_replicate.1 a).2];omega
def PN(l:ak):(l.map λn=>[ab.i n]).flatten=l.map ab.i:=by
 induction l with
 | nil=>rfl
 | cons x r a=>rw[List.map_cons,List.flatten_cons,a];rfl
def PO{m:jm}(a:cx (bS p)):(bif bif bif bif bif decide (m.kind<1) then true else decide (m.kind>4) then true else decide (m.gen<0) then true else decide (m.gen>=p.cT.length) then true else !lA (bS p) m.fact then true else decide (np m.fact>p.cT.getD m.gen.toNat default))= !(qX p m && qY p m):=by
 unfold qX qY;rw[a];simp only[Bool.cond_true_left,Bool.true_and];cases lA (bS p) m.fact
 ·simp
 ·rw[Bool.eq_iff_iff];simp only[Bool.or_eq_true,decide_eq_true_eq,Bool.not_eq_true', <-Bool.not_eq_true,Bool.and_eq_true,Bool.not_true,Bool.false_eq_true,or_false,true_and];omega
def PQ(n):(bif decide (n<1) then true else decide (n>3))= !mJ n:=by
 unfold mJ;rw[Bool.cond_true_left,Bool.eq_iff_iff];simp only[Bool.or_eq_true,decide_eq_true_eq,Bool.not_eq_true', <-Bool.not_eq_true,Bool.and_eq_true];omega
def PR(p)(b):(bif bif bif bif !b then true else decide ((p.cT.length:Int)>8) then true else decide ((p.methods.length:Int)>16) then true else decide ((p.nodes.length:Int)<1) then true else decide ((p.nodes.length:Int)>120))= !(b && pW p):=by
 unfold pW;cases b
 ·simp
 ·simp[Bool.cond_true_left,Bool.true_and,Bool.not_true];rw[Bool.eq_iff_iff];simp only[Bool.or_eq_true,decide_eq_true_eq,Bool.not_eq_true', <-Bool.not_eq_true,Bool.and_eq_true,Bool.false_eq_true,false_or];omega
def aaK(ck:p.Small):aG prog 44 [ab.prog p] (.bk [ab.ints ((bw p).getD []),.b (bw p).isSome]):=by
 intro H;refine aM (n:=156) func44 λB I bW=>?_;have HA:=ck.aE;have aaL:=ck.parents;have vi:0=0:=rfl;refine bE ?_;refine ag (ad.call .k (aaE ck)) ?_;refine MP ?_;refine bc (λaf=>?_) (λaf=>?_)
 ·rw[PR,Bool.not_eq_true',Bool.and_eq_false_iff] at af;have jz:bw p=none:=by
   rcases af with af | af
   ·exact N5 af
   ·exact N6 af
  refine aI ?_;refine aZ.cg (rs:=[.tmp 2,.tmp 3]) (H':=H) rfl (.tmp rfl (.tmp rfl (.nil))) (.cons (an.nil 1) (.cons (.refl _) .nil)) bC ?_;exact⟨oJ,rfl⟩
 ·rw[PR,Bool.not_eq_false',Bool.and_eq_true] at af;obtain⟨iW,PS⟩:=af;have iM:=oh.of iW;have hJ:=iM.dr;have hw:=iM.world;have q5:=q6 p;have aaM:=PS;simp only[pW,Bool.and_eq_true,decide_eq_true_eq] at aaM;have ra:=u9 _ _ iM.ai;refine ba ?_;refine bo (λm st=>∃i:Nat,st=⟨[(4,.i i),(1,.ptr (cM p))],H⟩/\m=p.cT.length - i/\i<=p.cT.length/\(p.cT.take i).all mJ=true) (⟨0,rfl,rfl,aa,rfl⟩) ?_;rintro m _ ⟨i,rfl,rfl,aQ,nV⟩;refine bY ?_;refine az (λae=>?_) λae=>?_
  ·have bT:i<p.cT.length:=by omega
   refine nk ?_;refine bc (λao=>?_) (λao=>?_)
   ·rw[PQ,Bool.not_eq_true'] at ao;have jz:bw p=none:=N7 (Pz bT ao);refine bR ?_;refine aZ.cg (rs:=[.tmp 2,.tmp 3]) (H':=H) rfl (.tmp rfl (.tmp rfl (.nil))) (.cons (an.nil 1) (.cons (.refl _) .nil)) bC ?_;exact⟨oJ,rfl⟩
   ·rw[PQ,Bool.not_eq_false'] at ao;refine aI ?_;exact aW (⟨i+1,rfl,rfl,bT,Py bT nV ao⟩)
  ·obtain rfl:i=p.cT.length:=by omega
   rw[List.take_length] at nV;refine gL ?_;refine aB.y5 3 1 ?_;refine bo (λm st=>∃(i:Nat) (v:Value),st=⟨[(6,.i i),(5,.val v),(1,.ptr (cM p))],hB v (List.replicate i (-1))::H⟩/\m=p.nodes.length - i/\i<=p.nodes.length) (⟨0,_,rfl,rfl,aa⟩) ?_;rintro m _ ⟨i,v,rfl,rfl,aQ⟩;refine bY ?_;refine az (λaV=>?_) λaV=>?_
   ·have bT:i<p.nodes.length:=by omega
    refine ax ?_;refine aj.cn (x:=.ai 1 [[.i (-1)]]) rfl rfl rfl (ad.row rfl rfl cC rfl rfl rfl rfl rfl rfl) ?_;refine aj.MA (fj [-1]) rfl rfl rfl rfl rfl rfl rfl rfl (an.refl _) rfl (λv=>.head _ _ _) (by simp only[xh,List.length_replicate,List.length_singleton];omega) (by simp only[xh,List.length_replicate,List.length_singleton];omega) (λPT=>?_);refine aY ?_;refine aB.kX (H':=hB PT (List.replicate i (-1)++[-1])::H) (congrArg (· ::_) (NJ _ _ _)) ?_;refine aT ?_;exact aW (⟨i+1,PT,by rw[List.replicate_succ'],rfl,bT⟩)
   ·obtain rfl:i=p.nodes.length:=by omega
    refine ax ?_;refine aB.Ch (t:=3) (by rw[xh,List.length_replicate];omega) (λb cap more=>.head _ _ _) (λnb cap more bM bL fh oO s6=>?_);rw[xh,List.length_replicate] at bM bL;subst bM;refine aB.kX (H':=.au nb 3 ((iT p).map ab.i++more)::H) (by rw[fj,PN];rfl) ?_;refine aO ?_;refine ag (ad.call .k (HE p aa (λc h=>⟨aaL c h,by have:=(ra c h).1;omega⟩))) ?_;refine bK (λdc=>?_);refine aT ?_;refine eA 7 ?_;refine aT ?_;refine bo (λm st=>∃(i:Nat) (o:ak),st=⟨[(8,.i i),(7,.ptr (cD (bS p))),(5,.val (.slice (some ⟨nb,0,none⟩) p.nodes.length cap)),(1,.ptr (cM p))],.au nb 3 (o.map ab.i++more)::H⟩/\m=p.methods.length - i/\i<=p.methods.length/\gZ p (p.methods.drop i) o=gZ p p.methods (iT p)/\o.length=p.nodes.length/\xv o) (⟨0,iT p,rfl,rfl,aa,rfl,by simp[iT],aaJ p⟩) ?_;rintro m _ ⟨i,o,rfl,rfl,aQ,oo,mM,xw⟩;refine bY ?_;refine az (λbu=>?_) λbu=>?_
    ·have bT:i<p.methods.length:=by omega
     obtain⟨M,da⟩:∃M,M=(p.methods.getD i default):=⟨_,rfl⟩;refine bE ?_;refine bK (λbp=>?_);refine aT ?_;rw[<-da];refine eA 9 ?_;refine aB.cw mixed ?_;refine Xd ?_;refine b0.dG 14 19 156 rfl aq rfl rfl aq ?_;refine jI ?_;refine b0.dG 22 25 156 rfl aq rfl rfl aq ?_;refine aT ?_;refine aj.db rfl rfl rfl rfl rfl rfl (λaw=>ad.call (.mk' rfl rfl rfl rfl c9) (aas aa M.fact)) ?_;refine c4 ?_;refine b0.dG 29 38 156 rfl aq rfl rfl aq ?_;refine aO ?_;refine eO.db rfl rfl rfl rfl rfl (λaw=>ad.call (.mk' rfl rfl rfl rfl c9) (aar M.fact (N4 (w:=bS p) (by revert aw;cases lA (bS p) M.fact <;> simp)))) ?_;refine aY ?_;refine jJ (λaw=>(by first | exact ad.fC rfl rfl (cl aw) rfl (cl aw) KO | exact ad.ep rfl rfl (cl aw) rfl (cl aw) KO)) ?_;refine aP ?_;refine bc (λcr=>?_) (λcr=>?_)
     ·rw[PO hw,Bool.not_eq_true'] at cr;have jz:bw p=none:=zP (by rw[<-oo];exact G9 bT da cr);refine dk ?_;refine aZ.cg (rs:=[.tmp 2,.tmp 3]) (H':=H) rfl (.tmp rfl (.tmp rfl (.nil))) (.cons (an.nil 1) (.cons (.refl _) .nil)) bC ?_;exact⟨oJ,rfl⟩
     ·rw[PO hw,Bool.not_eq_false'] at cr;have HP:=cr;simp only[qX,Bool.and_eq_true,decide_eq_true_eq] at HP;have aaN:=List.all_eq_true.1 nV _ (bI (l:=p.cT) (k:=M.gen.toNat) aa);simp only[mJ,Bool.and_eq_true,decide_eq_true_eq] at aaN;refine aF ?_;rcases bd:(visit p (k4 M) 13 (mr p M) o).2 with _ | hx
      ·have jz:bw p=none:=zP (by rw[<-oo];exact Ob bT da bd);refine bP 13 156 ?_;refine bE ?_;refine bg (ad.call .k (HJ M.kind)) ?_;refine aF ?_;refine cE (.mk' rfl rfl rfl rfl rfl) ((bO.rQ (z8 (next:=k4 M) aa 13 (mr p M) o nb cap more H cO BC Bj mM) (λy H1 h=>by rw[om,bd] at h;exact h) (λ_ _ h=>h)).b) ?_;rintro _ _ ⟨rfl,fx,rfl⟩;refine aF ?_;refine bc (λdK=>?_) (λdK=>?_)
       ·replace dK:=dC dK;refine bR ?_;refine aZ.cg (rs:=[.tmp 2,.tmp 3]) (H':=H) rfl (.tmp rfl (.tmp rfl (.nil))) (.cons (an.nil 1) (.cons (.refl _) .nil)) bC ?_;exact⟨oJ,rfl⟩
       ·cases dK
      ·have HO:=HL cO bd;have HQ:=PM cO (by simp only[mr];omega) bd xw;have Df:=Oc bT da cr bd;refine bP 13 156 ?_;refine bE ?_;refine bg (ad.call .k (HJ M.kind)) ?_;refine aF ?_;refine cE (.mk' rfl rfl rfl rfl rfl) ((bO.rQ (z8 (next:=k4 M) aa 13 (mr p M) o nb cap more H cO BC Bj mM) (λy H1 h=>by rw[om,bd] at h;exact h) (λ_ _ h=>h)).b) ?_;rintro _ _ ⟨rfl,rfl⟩;refine aF ?_;refine bc (λdA=>?_) (λdA=>?_)
       ·cases dA
       ·replace dA:=dC dA;refine aI ?_;exact aW (⟨i+1,hx,rfl,rfl,bT,by rw[<-oo,Df],aa,HQ⟩)
    ·obtain rfl:i=p.methods.length:=by omega
     rw[List.drop_length,gZ] at oo;have oo:=oo.symm;refine aP ?_;rcases bd:(visit p false 13 ⟨p.main,0,1⟩ o).2 with _ | hx
     ·have jz:bw p=none:=N8 oo bd;refine aT ?_;refine cE (.mk' rfl rfl rfl rfl rfl) ((bO.rQ (z8 (next:=false) aa 13 (⟨p.main,0,1⟩:dw) o nb cap more H cO BC Bj mM) (λy H1 h=>by rw[om,bd] at h;exact h) (λ_ _ h=>h)).b) ?_;rintro _ _ ⟨rfl,fx,rfl⟩;refine aF ?_;refine bc (λdP=>?_) (λdP=>?_)
      ·replace dP:=dC dP;refine aI ?_;refine aZ.cg (rs:=[.tmp 2,.tmp 3]) (H':=H) rfl (.tmp rfl (.tmp rfl (.nil))) (.cons (an.nil 1) (.cons (.refl _) .nil)) bC ?_;exact⟨oJ,rfl⟩
      ·cases dP
     ·have HO:=HL cO bd;have HQ:=PM cO (by show (0:Int)<=0;omega) bd xw;refine aT ?_;refine cE (.mk' rfl rfl rfl rfl rfl) ((bO.rQ (z8 (next:=false) aa 13 (⟨p.main,0,1⟩:dw) o nb cap more H cO BC Bj mM) (λy H1 h=>by rw[om,bd] at h;exact h) (λ_ _ h=>h)).b) ?_;rintro _ _ ⟨rfl,rfl⟩;refine aF ?_;refine bc (λc7=>?_) (λc7=>?_)
      ·cases c7
      ·replace c7:=dC c7;refine ba ?_;refine bo (λm st=>∃i:Nat,st=⟨[(10,.i i),(5,.val (.slice (some ⟨nb,0,none⟩) p.nodes.length cap))],.au nb 3 (hx.map ab.i++more)::H⟩/\m=p.nodes.length - i/\i<=p.nodes.length/\∀y∈hx.take i,0<=y) (⟨0,rfl,rfl,aa,aS⟩) ?_;rintro m _ ⟨i,rfl,rfl,aQ,qN⟩;refine aT ?_;refine ag (ad.Bb rfl rfl rfl) ?_;refine aF ?_;refine az (λhJ=>?_) λhJ=>?_
       ·have bT:i<p.nodes.length:=by omega
        refine aI ?_;refine ag (ad.gU rfl rfl rfl rfl rfl aa) ?_;refine ag ((by first | exact ad.cF rfl rfl rfl rfl | (apply ad.ij rfl rfl rfl;(case hm=>repeat (first | exact .head _ | refine .tail _ ?_));(case hy=>exact PF aa)))) ?_;refine aF ?_;refine az (λh1=>?_) λh1=>?_
        ·have HP:hx.getD i default= -1:=by have:=HQ _ (bI (l:=hx) (k:=i) aa);rw[Int.toNat_natCast] at h1;omega
         have jz:bw p=none:=N9 oo bd (by rw[<-HP];exact List.contains_iff_mem.2 (bI aa));refine bR ?_;refine aZ.cg (rs:=[.tmp 2,.tmp 3]) (H':=H) rfl (.tmp rfl (.tmp rfl (.nil))) (.cons (an.nil 1) (.cons (.refl _) .nil)) bC ?_;exact⟨oJ,rfl⟩
        ·refine aI ?_;exact aW (⟨i+1,rfl,rfl,bT,λy hy=>by rw[<-c2 aa,List.mem_append,List.mem_singleton] at hy;rw[Int.toNat_natCast] at h1;rcases hy with hy | rfl;exact qN y hy;omega⟩)
       ·obtain rfl:i=p.nodes.length:=by omega
        rw[<-mM, <-HO,List.take_length] at qN;have HR:bw p=some hx:=Oa iW PS nV oo bd (by rw[List.contains_eq_mem,decide_eq_false_iff_not];intro h;have:=qN _ h;omega);refine ax ?_;refine aB.kX (H':=.au nb 3 ((hx.map λn=>[ab.i n]).flatten++more)::H) (by rw[PN]) ?_;refine aB.oM (k:=1) (d:=5) rfl (.head _ _) nL (λe he=>by obtain⟨y,_,rfl⟩:=List.mem_map.1 he;rfl) bL fh ?_;refine aP ?_;refine dL [.tmp 2,.tmp 3] (H) ?_;exact⟨by rw[HR];rfl,rfl⟩
def aaO(a:p.Small):aG prog 17 [ab.prog p] (.b (bw p).isSome):=by
 intro H;refine aM func17 λB I c=>?_;refine ba ?_;refine ag (.call .k (aaK a)) ?_;refine c4 ?_;refine aC 2 H ?_;exact⟨cO,rfl⟩
def xx(a:(bw p).isSome):oh p:=by
 obtain⟨o,c⟩:=Option.isSome_iff_exists.1 a;exact oh.of (iF c).1
def Aa(l:p.Small)(g:(bw p).isSome):aG prog 83 [ab.prog p] (ab.world (bS p)):=by
 have f:=xx g;have j:=f.dr;have a:=u9 _ _ f.ai;exact HE p aa (λc h=>⟨l.parents c h,by have:=(a c h).1;omega⟩)
def HS(j:p.Small)(f:(bw p).isSome){c:Int}(g:3<=c)(h:c<3+p.aE.length):aG prog 155 [ab.prog p,.i c] (ab.ints (cu p c)):=by
 intro H;refine aM func155 λB I l=>?_;have a:=xx f;rw[Hy a g h];refine ba ?_;refine ag (ad.call .k (Aa j f)) ?_;refine aR ?_;refine ag (ad.call .k (aap a.world g (by rw[q6];exact h))) ?_;refine aY ?_;refine aC 4 (H) ?_;exact⟨dO,rfl⟩
end Go.Proofs.YtodccgailpkgeaaGreat

