/- Part 13 of the proof: contracts of functions of the program and what they need. No condition beyond those that each theorem names. -/
import Derived.Test.YtodccgailpkgeaaGreatKindLeastP12
import Derived.Shelf.Sort.Plain
import Derived.Shelf.Slices.In.SortNone
import Derived.Sort.OwnSortedInts
set_option maxHeartbeats 1000000
set_option linter.unusedVariables false
set_option linter.unusedSimpArgs false
set_option maxRecDepth 10000
namespace Go.Proofs.YtodccgailpkgeaaGreat
open Go.Eng
open Go.Eng.Fc
open Go.Eng.ei
variable{p:Prog}{i:Int}{x:cd}{l:List (Int×Int)}{o out:List Int}{more:List aa}{next:Bool}{f:Nat}{H:List aj}
def Cm(p:Prog)(x:ew):Int:=match jo x.op with
 | none=>-1
 | some none=>if 0<=x.n/\x.n<p.du.length then p.du.getD x.n.toNat default else -1
 | some (some k)=>k
theorem Rh(p:Prog)(x:ew)(bx:Int)(next:Bool):(bif bif (x.kids.length:Int) !=Cm p x then true else !hI p x bx then true else bif x.op==18 then !next else false)= !q0 p next x bx:=by
 unfold q0 Cm;rcases ao:jo x.op with _ | _ | k
 ·simp only[Bool.and_false,Bool.not_false];rw[show ((x.kids.length:Int) != -1)=true by rw[bne_iff_ne];omega];rfl
 ·simp only;cases hn:hI p x bx with
  | false=>simp
  | true=>
   have aK:=QR ao hn;rw[if_pos aK];simp only[bne];generalize ((x.kids.length:Int)==p.du.getD x.n.toNat default)=a;generalize (x.op==18)=b;cases a <;> cases b <;> cases next <;> rfl
 ·simp only;have e:((x.kids.length:Int) !=(k:Int))= !(x.kids.length==k):=by rw[Bool.eq_iff_iff];simp;omega
  rw[e];simp only[bne];generalize (x.kids.length==k)=a;generalize (x.op==18)=b;generalize hI p x bx=d;cases a <;> cases b <;> cases next <;> cases d <;> rfl
theorem Ri(p:Prog)(aH:p.aY.length<=4000000)(ak:∀c∈p.aY,c.parents.length<=4000000):ba Tryz.prog 119 [aa.prog p] (aa.bD (cZ p)):=by
 intro H;refine bh (n:=23) Tryz.func119 λB I aO=>?_;refine kC ?_;refine aq.iq 3 23 1 rfl ?_;refine cq (λm st=>∃(i:Nat) (v:Value),st=⟨[(4,.i i),(3,.as (aa.bD ((p.aY.take i).map (·.parents))) v),(1,.ptr (dF p))],.own 23 1 v::H⟩/\m=p.aY.length - i/\i<=p.aY.length) (⟨0,_,rfl,rfl,ad⟩) ?_;rintro m _ ⟨i,v,rfl,rfl,av⟩;refine c6 ?_;refine aZ (λai=>?_) λai=>?_
 ·have a1:i<p.aY.length:=by omega
  have nN:=ak _ (cp a1);refine cT ?_;refine aG (af.zN rfl rfl rfl aL.V5 rfl rfl (aL.refl _) (yo _) qn qn) ?_;refine au.bB (x:=.aF 1 [[aa.ints (p.aY.getD i default).parents]]) rfl rfl rfl (af.row rfl rfl c4 rfl rfl rfl rfl rfl rfl) ?_;refine au.gu rfl rfl rfl rfl rfl rfl rfl rfl (aL.refl _) (rfl) (λv=>by repeat (first | exact bu.head _ _ _ | apply bu.tail)) oc oc (λv21=>?_);refine bS ?_;exact bV (⟨i+1,v21,by rw[H2 a1],rfl,a1⟩)
 ·obtain rfl:i=p.aY.length:=by omega
  rw[List.take_length];refine cT ?_;refine aR.c5 (rs:=[.tmp 2]) (H':=H) rfl (.tmp rfl (.nil)) (.cons (aL.hb _ _) .nil) b8 ?_;exact⟨dJ,rfl⟩
theorem Rj(p:Prog)(aH:p.aY.length<=1000)(ak:∀c∈p.aY,c.parents.length<=4000000/\c.aJ.length<=1000):ba Tryz.prog 83 [aa.prog p] (aa.world (cH p)):=by
 intro H;refine bh (n:=35) Tryz.func83 λB I aO=>?_;refine bg ?_;refine au.cG rfl rfl rfl rfl (λer=>?_);refine bz ?_;refine aG (af.call .k (Ri p ad (λc h=>(ak c h).1))) ?_;refine bt ?_;refine au.cG rfl rfl rfl rfl (λcE=>?_);refine bz ?_;refine aq.sN (b:=cE) (t:=86) 3 1 1 pO rfl rfl ?_;refine bz ?_;refine cq (λm st=>∃(i:Nat) (v:Value),st=⟨[(4,.i i),(1,.ptr (dF p)),(3,.p cE 0),(2,.p er 0)],.own 3 1 v::.aI cE 86 [aa.bD (cZ p),.as (aa.ints (nR p.aY i 0)) v]::.aI er 86 [.val (.slice none 0 0),.val (.slice none 0 0)]::H⟩/\m=p.aY.length - i/\i<=p.aY.length) (⟨0,_,rfl,rfl,ad⟩) ?_;rintro m _ ⟨i,v,rfl,rfl,av⟩;refine c6 ?_;refine aZ (λai=>?_) λai=>?_
 ·have a1:i<p.aY.length:=by omega
  have nN:=ak _ (cp a1);refine c6 ?_;refine cq (λm st=>∃(k:Nat) (v:Value),st=⟨[(5,.i k),(4,.i i),(1,.ptr (dF p)),(3,.p cE 0),(2,.p er 0)],.own 3 1 v::.aI cE 86 [aa.bD (cZ p),.as (aa.ints (nR p.aY i k)) v]::.aI er 86 [.val (.slice none 0 0),.val (.slice none 0 0)]::H⟩/\m=(p.aY.getD i default).aJ.length - k/\k<=(p.aY.getD i default).aJ.length) (⟨0,_,rfl,rfl,ad⟩) ?_;rintro m _ ⟨k,v,rfl,rfl,ao⟩;refine eb ?_;refine aZ (λab=>?_) λab=>?_
  ·have dP:k<(p.aY.getD i default).aJ.length:=by omega
   refine bS ?_;refine au.bB (x:=.aF 1 [[.i ((i:Int)+3)]]) rfl rfl rfl (af.row rfl rfl c4 rfl rfl rfl rfl rfl rfl) ?_;refine au.gu rfl rfl rfl rfl rfl rfl rfl rfl (aL.refl _) (rfl) (λv=>by repeat (first | exact bu.head _ _ _ | apply bu.tail)) qm qm (λabB=>?_);refine c6 ?_;exact bV (⟨k+1,abB,by rw[OM],rfl,dP⟩)
  ·obtain rfl:k=(p.aY.getD i default).aJ.length:=by omega
   refine cw ?_;exact bV (⟨i+1,v,by rw[OR a1],rfl,a1⟩)
 ·obtain rfl:i=p.aY.length:=by omega
  rw[ON];refine cT ?_;refine aR.c5 (rs:=[.cell 2 86]) (H':=H) rfl (zf) (.cons (aL.agg (.cons (.refl _) (.cons (aL.hb _ _) .nil))) .nil) b8 ?_;exact⟨eg,rfl⟩
theorem Rk(n:Int):ba Tryz.prog 146 [.i n] (.b (ph n)):=by
 intro H;refine bh (n:=9) Tryz.func146 λB I aO=>?_;refine hB ?_;refine aS 2 (H) ?_;exact⟨bR (by rw[ph,Bool.cond_false_right]),rfl⟩
theorem abC(p:Prog)(x:ew):ba Tryz.prog 151 [aa.prog p,aa.AR x] (.i (Cm p x)):=by
 intro H;refine bh (n:=47) Tryz.func151 λB I aO=>?_;refine oz ?_;refine aZ (λai=>?_) λai=>?_
 ·refine bC ?_;refine aq.cond rfl (λab=>?_) (λab=>?_)
  ·replace ab:=dZ ab;refine bs ?_;refine aS 4 (H) ?_;exact⟨gp k8,rfl⟩
  ·simp_all
 ·refine aT ?_;refine aZ (λae=>?_) λae=>?_
  ·refine bC ?_;refine aq.cond rfl (λaD=>?_) (λaD=>?_)
   ·replace aD:=dZ aD;refine bs ?_;refine aS 4 (H) ?_;exact⟨gp k8,rfl⟩
   ·simp_all
  ·refine aT ?_;refine aZ (λaV=>?_) λaV=>?_
   ·refine bC ?_;refine aq.cond rfl (λbl=>?_) (λbl=>?_)
    ·replace bl:=dZ bl;refine bs ?_;refine aS 4 (H) ?_;exact⟨gp k8,rfl⟩
    ·simp_all
   ·refine aT ?_;refine aZ (λcP=>?_) λcP=>?_
    ·refine bC ?_;refine aq.cond rfl (λdi=>?_) (λdi=>?_)
     ·replace di:=dZ di;refine bs ?_;refine aS 4 (H) ?_;exact⟨gp k8,rfl⟩
     ·simp_all
    ·refine bz ?_;refine aZ (λeW=>?_) λeW=>?_
     ·refine bs ?_;refine aS 4 (H) ?_;exact⟨gp k8,rfl⟩
     ·refine bn ?_;refine aZ (λcQ=>?_) λcQ=>?_
      ·refine bC ?_;refine aq.cond rfl (λfC=>?_) (λfC=>?_)
       ·replace fC:=dZ fC;refine bs ?_;refine aS 4 (H) ?_;exact⟨gp k8,rfl⟩
       ·simp_all
      ·refine aT ?_;refine aZ (λk1=>?_) λk1=>?_
       ·refine bC ?_;refine aq.cond rfl (λnf=>?_) (λnf=>?_)
        ·replace nf:=dZ nf;refine bs ?_;refine aS 4 (H) ?_;exact⟨gp k8,rfl⟩
        ·simp_all
       ·refine bz ?_;refine aZ (λps=>?_) λps=>?_
        ·refine bs ?_;refine aS 4 (H) ?_;exact⟨gp k8,rfl⟩
        ·refine bn ?_;refine aZ (λtc=>?_) λtc=>?_
         ·refine bC ?_;refine aq.cond rfl (λq3=>?_) (λq3=>?_)
          ·replace q3:=dZ q3;refine bs ?_;refine aS 4 (H) ?_;exact⟨gp k8,rfl⟩
          ·simp_all
         ·refine aT ?_;refine aZ (λBh=>?_) λBh=>?_
          ·refine bC ?_;refine aq.cond rfl (λwy=>?_) (λwy=>?_)
           ·replace wy:=dZ wy;refine bs ?_;refine aS 4 (H) ?_;exact⟨gp k8,rfl⟩
           ·simp_all
          ·refine aT ?_;refine aZ (λI7=>?_) λI7=>?_
           ·refine bC ?_;refine aq.cond rfl (λBq=>?_) (λBq=>?_)
            ·replace Bq:=dZ Bq;refine bs ?_;refine aS 4 (H) ?_;exact⟨gp k8,rfl⟩
            ·simp_all
           ·refine aT ?_;refine aZ (λI8=>?_) λI8=>?_
            ·refine bC ?_;refine aq.cond rfl (λBr=>?_) (λBr=>?_)
             ·replace Br:=dZ Br;refine bs ?_;refine aS 4 (H) ?_;exact⟨gp k8,rfl⟩
             ·simp_all
            ·refine aT ?_;refine aZ (λI9=>?_) λI9=>?_
             ·refine bC ?_;refine aq.cond rfl (λBs=>?_) (λBs=>?_)
              ·replace Bs:=dZ Bs;refine bs ?_;refine aS 4 (H) ?_;exact⟨gp k8,rfl⟩
              ·simp_all
             ·refine aT ?_;refine aZ (λJa=>?_) λJa=>?_
              ·refine bC ?_;refine aq.cond rfl (λBt=>?_) (λBt=>?_)
               ·replace Bt:=dZ Bt;refine bs ?_;refine aS 4 (H) ?_;exact⟨gp k8,rfl⟩
               ·simp_all
              ·refine aT ?_;refine aZ (λJb=>?_) λJb=>?_
               ·refine bC ?_;refine aq.cond rfl (λBu=>?_) (λBu=>?_)
                ·replace Bu:=dZ Bu;refine bs ?_;refine aS 4 (H) ?_;exact⟨gp k8,rfl⟩
                ·simp_all
               ·refine bz ?_;refine aZ (λJc=>?_) λJc=>?_
                ·refine bs ?_;refine aS 4 (H) ?_;exact⟨gp k8,rfl⟩
                ·refine aT ?_;refine aZ (λJd=>?_) λJd=>?_
                 ·refine bs ?_;refine aS 4 (H) ?_;exact⟨gp k8,rfl⟩
                 ·refine aT ?_;refine aZ (λJe=>?_) λJe=>?_
                  ·refine fk ?_;refine aq.cond rfl (λxI=>?_) (λxI=>?_)
                   ·refine aT ?_;refine aG ((by first | exact af.iQ rfl rfl rfl rfl rfl Me | exact af.h1 rfl rfl rfl rfl rfl Me)) ?_;refine bn ?_;refine aS 4 (H) ?_;exact⟨gp k8,rfl⟩
                   ·have xI: ¬(0<=x.n/\x.n<p.du.length):=by
                     simp only[Bool.cond_false_right,Bool.and_eq_false_iff,decide_eq_false_iff_not] at xI;omega
                    refine bS ?_;refine aS 4 (H) ?_;exact⟨gp k8,rfl⟩
                  ·refine bS ?_;refine aS 4 (H) ?_;exact⟨gp k8,rfl⟩
theorem abD(p:Prog)(aH:p.aY.length<=4000000)(x:ew)(bx:Int):ba Tryz.prog 152 [aa.prog p,aa.AR x,.i bx] (.b (hI p x bx)):=by
 intro H;refine bh (n:=69) Tryz.func152 λB I aO=>?_;refine qW ?_;refine aZ (λai=>?_) λai=>?_
 ·refine bI ?_;refine aG (af.call .k (Rk x.n)) ?_;refine aT ?_;refine aS 6 (H) ?_;exact⟨bR vd,rfl⟩
 ·refine aT ?_;refine aZ (λab=>?_) λab=>?_
  ·refine hB ?_;refine aS 6 (H) ?_;exact⟨bR vd,rfl⟩
  ·refine bn ?_;refine aZ (λae=>?_) λae=>?_
   ·refine bC ?_;refine aq.cond rfl (λaD=>?_) (λaD=>?_)
    ·replace aD:=dZ aD;refine kC ?_;refine aS 6 (H) ?_;exact⟨bR vd,rfl⟩
    ·simp_all
   ·refine bz ?_;refine aZ (λaV=>?_) λaV=>?_
    ·refine kC ?_;refine aS 6 (H) ?_;exact⟨bR vd,rfl⟩
    ·refine aT ?_;refine aZ (λbl=>?_) λbl=>?_
     ·refine yk ?_;refine aS 6 (H) ?_;exact⟨bR vd,rfl⟩
     ·refine bn ?_;refine aZ (λcP=>?_) λcP=>?_
      ·refine bC ?_;refine aq.cond rfl (λdi=>?_) (λdi=>?_)
       ·replace di:=dZ di;refine ma ?_;refine aS 6 (H) ?_;exact⟨bR vd,rfl⟩
       ·simp_all
      ·refine bz ?_;refine aZ (λeW=>?_) λeW=>?_
       ·refine ma ?_;refine aS 6 (H) ?_;exact⟨bR vd,rfl⟩
       ·refine cT ?_;refine aS 6 (H) ?_;exact⟨bR (by unfold hI sl;simp_all;rw[Bool.eq_iff_iff];simp;omega),rfl⟩
theorem Rl(k:Int):ba Tryz.prog 98 [.i k] (.b (k==1 || k==4)):=by
 intro H;refine bh (n:=9) Tryz.func98 λB I aO=>?_;refine hB ?_;refine aS 2 (H) ?_;exact⟨bR (by rw[Bool.cond_true_left]),rfl⟩
section
open Go.Shelf Go.Sort
def abE:Ren:={f:=λx=>match x with | 125=>202 | 128=>227 | 129=>228 | 189=>176 | 215=>251 | 216=>224 | 257=>201 | 294=>218 | 295=>219 | 296=>220 | 297=>221 | 298=>222 | 299=>223 | 300=>225 | 301=>226 | 328=>246 | 329=>247 | 330=>248 | 331=>249 | 332=>250 | 343=>264 | n=>n,t:=λx=>match x with | 0=>0 | 3=>3 | 4=>4 | 5=>5 | 9=>9 | 28=>23 | 46=>210 | 51=>239 | 53=>183 | 131=>138 | 182=>264 | 183=>265 | 218=>281 | 222=>146 | 228=>293 | 229=>294 | n=>n,g:=λx=>x}
theorem Ei:Lays.n189 Tryz.prog abE where
 mixed:=by kernel_rfl
 f125:=Tryz.func202.trans (congrArg some aM)
 f128:=Tryz.func227.trans (congrArg some aM)
 f129:=Tryz.func228.trans (congrArg some aM)
 f189:=Tryz.func176.trans (congrArg some aM)
 f215:=Tryz.func251.trans (congrArg some aM)
 f216:=Tryz.func224.trans (congrArg some aM)
 f257:=Tryz.func201.trans (congrArg some aM)
 f294:=Tryz.func218.trans (congrArg some aM)
 f295:=Tryz.func219.trans (congrArg some aM)
 f296:=Tryz.func220.trans (congrArg some aM)
 f297:=Tryz.func221.trans (congrArg some aM)
 f298:=Tryz.func222.trans (congrArg some aM)
 f299:=Tryz.func223.trans (congrArg some aM)
 f300:=Tryz.func225.trans (congrArg some aM)
 f301:=Tryz.func226.trans (congrArg some aM)
 f328:=Tryz.func246.trans (congrArg some aM)
 f329:=Tryz.func247.trans (congrArg some aM)
 f330:=Tryz.func248.trans (congrArg some aM)
 f331:=Tryz.func249.trans (congrArg some aM)
 f332:=Tryz.func250.trans (congrArg some aM)
 f343:=Tryz.func264.trans (congrArg some aM)
 t0:=Tryz.underlying0
 a0:=Tryz.isAgg0
 z0:=Tryz.sizeOf0
 v0:=Tryz.zeroValue0
 t3:=Tryz.underlying3
 a3:=Tryz.isAgg3
 z3:=Tryz.sizeOf3
 v3:=Tryz.zeroValue3
 t4:=Tryz.underlying4
 a4:=Tryz.isAgg4
 z4:=Tryz.sizeOf4
 v4:=Tryz.zeroValue4
 t5:=Tryz.underlying5
 a5:=Tryz.isAgg5
 z5:=Tryz.sizeOf5
 v5:=Tryz.zeroValue5
 t9:=Tryz.underlying9
 a9:=Tryz.isAgg9
 z9:=Tryz.sizeOf9
 v9:=Tryz.zeroValue9
 t28:=Tryz.underlying23
 a28:=Tryz.isAgg23
 z28:=Tryz.sizeOf23
 v28:=Tryz.zeroValue23
 t46:=Tryz.underlying210
 a46:=Tryz.isAgg210
 z46:=Tryz.sizeOf210
 v46:=Tryz.zeroValue210
 t51:=Tryz.underlying239
 a51:=Tryz.isAgg239
 z51:=Tryz.sizeOf239
 v51:=Tryz.zeroValue239
 t53:=Tryz.underlying183
 a53:=Tryz.isAgg183
 z53:=Tryz.sizeOf183
 v53:=Tryz.zeroValue183
 t131:=Tryz.underlying138
 a131:=Tryz.isAgg138
 z131:=Tryz.sizeOf138
 v131:=Tryz.zeroValue138
 t182:=Tryz.underlying264
 a182:=Tryz.isAgg264
 z182:=Tryz.sizeOf264
 v182:=Tryz.zeroValue264
 t183:=Tryz.underlying265
 a183:=Tryz.isAgg265
 z183:=Tryz.sizeOf265
 v183:=Tryz.zeroValue265
 t218:=Tryz.underlying281
 a218:=Tryz.isAgg281
 z218:=Tryz.sizeOf281
 v218:=Tryz.zeroValue281
 t222:=Tryz.underlying146
 a222:=Tryz.isAgg146
 z222:=Tryz.sizeOf146
 v222:=Tryz.zeroValue146
 t228:=Tryz.underlying293
 a228:=Tryz.isAgg293
 z228:=Tryz.sizeOf293
 v228:=Tryz.zeroValue293
 t229:=Tryz.underlying294
 a229:=Tryz.isAgg294
 z229:=Tryz.sizeOf294
 v229:=Tryz.zeroValue294
theorem Rm(l:List Int):(fy l).flatten=(l.map (Value.int .i64)).map .val:=by
 induction l with
 | nil=>rfl
 | cons x r bm=>simp only[fy,List.map_cons,List.flatten_cons] at bm ⊢;rw[bm];rfl
theorem abF(B:Nat)(v:Value)(l:List Int)(ax:l.length<=1000000)(Hx:List aj):dC B Tryz.prog 176 [.val v] (iA v l::Hx) (λy H'=>y= .bJ []/\H'=iA v (iB l)::Hx) (λ_ _=>False):=by
 refine⟨aM,λI w vs hw az aC=>?_⟩;obtain⟨u,rfl⟩:∃u,vs= [u]:=by cases aC with | cons _ u _ _ _ ht=>cases ht;exact⟨u,rfl⟩
 have hu:u=v:=by cases aC with | cons _ u _ _ ag _=>exact ct ag
 subst hu;obtain⟨xs,fx,vK,cu⟩:=az.ok _ (.head _);have yi:xs=l.map (Value.int .i64):=by
  rw[Rm] at vK;exact p1 vK
 subst yi;rcases fx.2 with⟨rfl,hn⟩ | ⟨g,cap,cur,rfl,hBg,al,kT,im,j6,j7⟩
 ·have:l= []:=by cases l with | nil=>rfl | cons x r=>simp[fy] at hn
  subst this;refine (Any.slices_Sort_int_none Ei none 0 w).mono λe w' ⟨he,dc⟩=>?_;subst dc;exact⟨I,_,hw,Ext.refl _ _ _,az,.inl ⟨_,_,he,.bJ _ _ .nil,rfl,by simp[iB]⟩⟩
 ·have hlen:(fy l).length=l.length:=by simp[fy]
  rw[hlen] at kT j7;rw[Nat.mul_one] at j7;have Bv:(iB l).length=l.length:=List.length_mergeSort _;refine ((hlen▸Any.slices_Sort_int Ei g 0 cap l w (holds_of_blockI al j7) (Array.getElem?_eq_some_iff.1 al).1 ad:Calls Tryz.prog 176 #[.slice (some ⟨g,0,none⟩) (fy l).length cap] w _)).mono λe w' ⟨he,n,os,dc⟩=>?_;have cN:w.grownBy w' (some g):=by subst dc;exact grownBy_sortedI _
  have aW:w'.ownsRow B 3 1 (.slice (some ⟨g,0,none⟩) l.length cap) l.length ((iB l).map (Value.int .i64)):=by
   subst dc;exact ownsRow_sortedI (ss:=l) Bv hBg al kT im j6
  have ov:Go.RowKit.Below B w w':=(Go.RowKit.Below.refl B w).grown cN hw.base (λj aU=>by cases aU;exact hBg);have m2:∀b i,I b i->w'.cell? ⟨b,i,none⟩=w.cell? ⟨b,i,none⟩:=λb i b4=>
   World.cell?_of_block (a:=⟨b,i,none⟩) (cN.block b (hw.lt b4) (λe=>by cases e;exact cu _ rfl i b4))
  have iS:fb I w I w':=⟨λ_ _ x=>x,m2⟩;refine⟨I,iA (.slice (some ⟨g,0,none⟩) (fy l).length cap) (iB l)::Hx,⟨Nat.le_trans hw.base ov.size,λb o b4=>by rw[m2 b o b4];exact hw.there b o b4⟩,⟨iS.j0,iS.cell,ov⟩,?_,.inl ⟨_,_,he,.bJ _ _ .nil,rfl,rfl⟩⟩;refine az.gH (.head _ _ _) iS (λb cO bq=>cN.block b cO (λe=>bq (by cases e;rfl))) (λb o ag=>.inl ag) ⟨(iB l).map (Value.int .i64),?_,?_,cu⟩ (λb aw=>.inl aw)
  ·rw[hlen,show (fy (iB l)).length=l.length by simp[fy,Bv]];exact aW
  ·rw[Rm];exact l1 _
end
instance:rN Tryz.prog 128 (3,4):=⟨aM,aM⟩
instance:vT Tryz.prog 4 (.bool false):=⟨aM⟩
theorem Jf(p:Prog)(ak:p.aY.length<=100)(eZ:∀c∈p.aY,c.aJ.length<=1000)(yG:∀c∈p.aY,∀x∈c.parents,gL x){k:Int}(ao:gL k)(gD:k<3+p.aY.length):ba Tryz.prog 139 [aa.prog p,.i k] (aa.ints (ez p k)):=by
 intro H;refine bh (n:=49) Tryz.func139 λB I aO=>?_;refine bs ?_;refine au.mkMap rfl rfl rfl rfl (λbo=>?_);refine bt ?_;refine au.jE (l:=[]) (u':=.b true) rfl rfl (.inr rfl) rfl rfl rfl rfl rfl rfl (aL.refl _) (.head _ _ _) .nil ao ?_;refine hB ?_;refine aq.Ak 3 1 ?_;have k4: -9223372036854775808<=k:=ao.1;refine cq (λm st=>∃(c:Int) (out:List Int) (v:Value) (l:List (Int×aa)) (S:List Int),st=⟨[(7,.i c),(6,.val v),(5,.val (.map (some bo))),(2,.ptr (dF p))],iA v out::eu bo l::H⟩/\m=(c - 2).toNat/\(c<=k/\(c=k\/2<=c))/\pk l S/\k0 p (c - 2).toNat S out=k0 p (k - 2).toNat [k] []/\out.length+1000*(c - 2).toNat<=1000*(k - 2).toNat) (⟨k,[],_,_,[k],rfl,rfl,⟨Int.le_refl _,.inl rfl⟩,pk.nil.put ao,rfl,bj⟩) ?_;rintro m _ ⟨c,out,v,l,S,rfl,rfl,ak0,h9,lT,hlen⟩;refine bn ?_;refine aZ (λai=>?_) λai=>?_
 ·have Jg:3<=c:=by omega
  obtain⟨n,hn⟩:∃n:Nat,c=n+3:=⟨(c - 3).toNat,ad⟩;have a1:(c - 3).toNat<p.aY.length:=by omega
  have ak1:=eZ _ (cp a1);have Rn:=yG _ (cp a1);refine bs ?_;refine aG (af.ur rfl rfl rfl rfl rfl (.tail _ (.head _)) h9.ok eV) ?_;refine bC ?_;refine aq.le 20 (y:=.b (S.contains c)) rfl (h9.look c) ?_;refine aZ (λab=>?_) λab=>?_
  ·refine c6 ?_;refine au.Oe (fy (p.aY.getD (c - 3).toNat default).aJ) rfl rfl rfl rfl rfl rfl rfl rfl (aL.refl _) (yo _) (λv=>.head _ _ _) (by simp only[yt];omega) (by simp only[yt];omega) (λEj=>?_);refine bI ?_;refine aq.kz (H':=iA Ej (out++(p.aY.getD (c - 3).toNat default).aJ)::eu bo l::H) (congrArg (· ::_) (Pl _ _ _)) ?_;refine ev ?_;refine aq.fi (t:=36) rfl (λak2=>?_);refine cq (λm st=>∃(j:Nat) (jz:List (Int×aa)),st=⟨[(38,.i j),(37,.i (p.aY.getD (c - 3).toNat default).parents.length),(36,aa.ints (p.aY.getD (c - 3).toNat default).parents),(7,.i c),(6,.val Ej),(5,.val (.map (some bo))),(2,.ptr (dF p))],iA Ej (out++(p.aY.getD (c - 3).toNat default).aJ)::eu bo jz::H⟩/\m=(p.aY.getD (c - 3).toNat default).parents.length - j/\j<=(p.aY.getD (c - 3).toNat default).parents.length/\pk jz (S++(p.aY.getD (c - 3).toNat default).parents.take j)) (⟨0,l,rfl,rfl,ad,by simpa using h9⟩) ?_;rintro m _ ⟨j,jz,rfl,rfl,aU,Ek⟩;refine aT ?_;refine aZ (λae=>?_) λae=>?_
   ·have c3:j<(p.aY.getD (c - 3).toNat default).parents.length:=by omega
    refine eb ?_;refine au.jE (u':=.b true) rfl rfl (.inl rfl) rfl rfl rfl rfl rfl rfl (aL.refl _) (.tail _ _ _ _ _ (.head _ _ _)) Ek.ok (Rn _ (cp c3)) ?_;refine bn ?_;exact bV (⟨j+1,_,rfl,rfl,c3,by rw[<-eE c3, <-List.append_assoc];exact Ek.put (Rn _ (cp c3))⟩)
   ·obtain rfl:j=(p.aY.getD (c - 3).toNat default).parents.length:=by omega
    rw[List.take_length] at Ek;refine cw ?_;exact bV (⟨c - 1,out++(p.aY.getD (c - 3).toNat default).aJ,Ej,jz,S++(p.aY.getD (c - 3).toNat default).parents,rfl,rfl,⟨ad,.inr ad⟩,Ek,by rw[<-lT,YF hn ab],by rw[List.length_append];omega⟩)
  ·refine bs ?_;exact bV (⟨c - 1,out,v,l,S,rfl,rfl,⟨ad,.inr ad⟩,h9,by rw[<-lT,YG hn ab],ad⟩)
 ·have Jg:c<=2:=by omega
  rw[show (c - 2).toNat=0 by omega] at lT;have abG:out=k0 p (k - 2).toNat [k] []:=lT;refine bs ?_;refine dE .k (abF B v out ad _) ?_;rintro y H1 ⟨rfl,rfl⟩;refine bg ?_;refine aq.qN (d:=6) (els:=fy (iB out)) rfl (.head _ _) (λe he=>by obtain⟨y,_,rfl⟩:=List.mem_map.1 he;rfl) ?_;refine bC ?_;refine aG (af.call .k (ZB _)) ?_;refine bI ?_;refine aS 4 (H) ?_;exact⟨by rw[abG];rfl,rfl⟩
theorem abH(aB:p.Small)(H:List aj):b1 Tryz.prog 125 [aa.prog p] H (λ_ H'=>gS p=true/\H'=H) (λy H'=>y=uI/\gS p=false/\H'=H):=by
 refine bh (n:=112) Tryz.func125 λB I aO=>?_;have yF:=aB.aY;have yH:=aB.parents;refine cw ?_;rcases qZ (decide (p.aY.length<=10)) with hlen | hlen
 ·refine au.m7 rfl rfl (.mk' rfl rfl rfl rfl rfl) (nd (by rw[<-hlen];by_cases h:p.aY.length<=10 <;> simp[h] <;> omega) _) fm ?_;intro a w s;exact lG (P:=Tryz.prog) (fn:=Tryz.f125) fm b8 ⟨rfl,Pq hlen,rfl⟩ a w s
 ·refine au.nG rfl rfl rfl (.mk' rfl rfl rfl rfl rfl) (nW (by simp at hlen;simp;omega) _) ?_;have hlen:=of_decide_eq_true hlen;refine hB ?_;refine cq (λm st=>∃i:Nat,st=⟨[(24,.i i),(23,.i p.aY.length),(22,.aF 3 (p.aY.map qa)),(2,.i (eO (p.aY.take i))),(1,.ptr (dF p))],H⟩/\m=p.aY.length - i/\i<=p.aY.length/\kE (p.aY.take i) 0=true) (⟨0,rfl,rfl,ad,rfl⟩) ?_;rintro m _ ⟨i,rfl,rfl,av,cy⟩;refine aT ?_;refine aZ (λai=>?_) λai=>?_
  ·have a1:i<p.aY.length:=by omega
   have im:=cp a1;have Jh:=A4 _ _ cy;rw[List.length_take] at Jh;refine bs ?_;refine au.cG rfl rfl rfl rfl (λfo=>?_);refine bS ?_;rcases qZ (decide ((p.aY.getD i default).aJ.length<=4)) with aV | aV
   ·refine au.m7 rfl rfl (.mk' rfl rfl rfl rfl rfl) (nd (by simp at aV;simp;omega) _) fm ?_;intro a w s;exact lG (P:=Tryz.prog) (fn:=Tryz.f125) fm b8 ⟨rfl,Ih a1 (by rw[aV];rfl),rfl⟩ a w s
   ·refine au.nG rfl rfl rfl (.mk' rfl rfl rfl rfl rfl) (nW (by simp at aV;simp;omega) _) ?_;refine cw ?_;refine aq.fi (t:=34) rfl (λak3=>?_);have ak4:=of_decide_eq_true aV;refine cq (λm st=>∃j:Nat,st=⟨[(36,.i j),(35,.i (p.aY.getD i default).aJ.length),(34,aa.ints (p.aY.getD i default).aJ),(24,.i i),(23,.i p.aY.length),(22,.aF 3 (p.aY.map qa)),(2,.i ((eO (p.aY.take i))+j:Nat)),(1,.ptr (dF p))],H⟩/\m=(p.aY.getD i default).aJ.length - j/\j<=(p.aY.getD i default).aJ.length/\jT ((p.aY.getD i default).aJ.take j) (eO (p.aY.take i))=true) (⟨0,rfl,rfl,ad,rfl⟩) ?_;rintro m _ ⟨j,rfl,rfl,aU,oE⟩;refine aT ?_;refine aZ (λab=>?_) λab=>?_
    ·have c3:j<(p.aY.getD i default).aJ.length:=by omega
     refine lL ?_;rcases qZ (((p.aY.getD i default).aJ.getD j default==(((eO (p.aY.take i))+j:Nat):Int))) with he | he
     ·refine au.m7 rfl rfl (.mk' rfl rfl rfl rfl rfl) (nd (he) _) fm ?_;intro a w s;exact lG (P:=Tryz.prog) (fn:=Tryz.f125) fm b8 ⟨rfl,Pr a1 c3 he,rfl⟩ a w s
     ·refine au.nG rfl rfl rfl (.mk' rfl rfl rfl rfl rfl) (nW (he) _) ?_;refine ev ?_;exact bV (⟨j+1,dJ,rfl,c3,by rw[DX _ _ _ c3,oE,he];rfl⟩)
    ·obtain rfl:j=(p.aY.getD i default).aJ.length:=by omega
     rw[List.take_length] at oE;refine c6 ?_;exact bV (⟨i+1,by rw[Ic a1],rfl,a1,by rw[A3 _ _ _ a1,cy,aV,Nat.zero_add,oE];rfl⟩)
  ·obtain rfl:i=p.aY.length:=by omega
   rw[List.take_length] at cy ⊢;refine bs ?_;refine aG (af.call .k (graph p ad yH)) ?_;refine cw ?_;refine au.cb rfl rfl rfl rfl rfl rfl (λal=>af.call (.mk' rfl rfl rfl rfl dv) (Zz (cZ p))) ?_;refine bC ?_;rcases qZ ((((eO p.aY:Int)==p.aJ) && gM (cZ p))) with aP | aP
   ·refine au.m7 rfl rfl (.mk' rfl rfl rfl rfl rfl) (nd Mb _) fm ?_;intro a w s;exact lG (P:=Tryz.prog) (fn:=Tryz.f125) fm b8 ⟨rfl,Ii aP,rfl⟩ a w s
   ·refine au.nG rfl rfl rfl (.mk' rfl rfl rfl rfl rfl) (nW Mb _) ?_;rw[Bool.and_eq_true] at aP;obtain⟨AD,q7⟩:=aP;obtain⟨_,Bw⟩:=Ps q7;have eY:=yu _ _ cy;have ly:(cZ p).length=p.aY.length:=by simp[cZ]
    refine cw ?_;refine cq (λm st=>∃i:Nat,st=⟨[(63,.i i),(62,.i p.aY.length),(61,.aF 3 (p.aY.map qa)),(7,aa.bD (cZ p)),(1,.ptr (dF p))],H⟩/\m=p.aY.length - i/\i<=p.aY.length/\(List.range i).all (pn p)=true) (⟨0,rfl,rfl,ad,rfl⟩) ?_;rintro m _ ⟨i,rfl,rfl,av,hR⟩;refine aT ?_;refine aZ (λae=>?_) λae=>?_
    ·have a1:i<p.aY.length:=by omega
     have im:=cp a1;refine bS ?_;refine au.cG rfl rfl rfl rfl (λhx=>?_);refine bS ?_;refine aG (af.call .k (QW q7 (c:=(i:Int)+3) ad)) ?_;refine cw ?_;rcases qZ ((fI (cZ p) ((i:Int)+3)).isEmpty) with ax | ax
     ·refine au.nG rfl rfl rfl (.mk' rfl rfl rfl rfl rfl) (nW (by rw[ax];rfl) _) ?_;refine bn ?_;refine aG (af.call .k (Jf p ad (λc h=>by have:=(eY c h).1;omega) Bw (k:=(i:Int)+3) eV ad)) ?_;refine au.mkMap rfl rfl rfl rfl (λbo=>?_);refine ev ?_;refine aq.wi (H':=eu bo []::H) (.cons_cons _ (.cons _ (.refl _))) ?_;obtain⟨jk,El⟩:∃jk,jk=ez p ((i:Int)+3):=⟨_,rfl⟩;rw[<-El];refine aq.fi (t:=84) rfl (λak5=>?_);refine cq (λm st=>∃(j:Nat) (l:List (Int×aa)),st=⟨[(86,.i j),(85,.i (p.aY.getD i default).inits.length),(84,.aF 2 ((p.aY.getD i default).inits.map vY)),(12,aa.ints jk),(13,.val (.map (some bo))),(63,.i i),(62,.i p.aY.length),(61,.aF 3 (p.aY.map qa)),(7,aa.bD (cZ p)),(1,.ptr (dF p))],eu bo l::H⟩/\m=(p.aY.getD i default).inits.length - j/\j<=(p.aY.getD i default).inits.length/\pk l (((p.aY.getD i default).inits.take j).map (·.1))/\mG jk ((p.aY.getD i default).inits.take j) []=true) (⟨0,[],rfl,rfl,ad,pk.nil,rfl⟩) ?_;rintro m _ ⟨j,l,rfl,rfl,aU,h9,iH⟩;refine aT ?_;refine aZ (λaD=>?_) λaD=>?_
      ·have c3:j<(p.aY.getD i default).inits.length:=by omega
       obtain⟨X,je⟩:∃X,X=(p.aY.getD i default).inits.getD j default:=⟨_,rfl⟩;have Ji:jk.contains X.1=true->gL X.1:=λh=>by
        rw[El] at h;obtain⟨c,ab,ae⟩:=Ig (List.contains_iff_mem.1 h);have:=(eY c ab).2 _ ae;unfold gL;omega
       refine bs ?_;refine au.cG rfl rfl rfl rfl (λie=>?_);refine bI ?_;rw[<-je];refine bI ?_;refine aG (af.call .k (Bg jk X.1)) ?_;refine bI ?_;refine au.cb rfl rfl rfl rfl rfl rfl (λal=>af.YH rfl rfl (cL al) rfl (cL al) (.tail _ (.head _)) h9 (Ji al)) ?_;refine bz ?_;refine au.cb rfl rfl rfl rfl rfl rfl (λal=>af.call (.mk' rfl rfl rfl rfl dv) (Qp X.2)) ?_;refine bt ?_;rcases qZ ((jk.contains X.1 && !(((p.aY.getD i default).inits.take j).map (·.1)).contains X.1 && ph X.2)) with aw | aw
       ·refine au.m7 rfl rfl (.mk' rfl rfl rfl rfl rfl) (nd (by simp only[Bool.cond_false_right];exact aw) _) fm ?_;intro a w s;exact lG (P:=Tryz.prog) (fn:=Tryz.f125) fm b8 ⟨rfl,A5 a1 (by rw[El] at aw;exact Ij c3 (by rw[<-je];exact aw)),rfl⟩ a w s
       ·refine au.nG rfl rfl rfl (.mk' rfl rfl rfl rfl rfl) (nW (by simp only[Bool.cond_false_right];exact aw) _) ?_;have Bx:jk.contains X.1=true:=by simp only[Bool.and_eq_true] at aw;exact aw.1.1
        refine aT ?_;refine au.jE (u':=.b true) rfl rfl (.inl rfl) rfl rfl rfl rfl rfl rfl (aL.refl _) (.tail _ _ _ _ _ (.head _ _ _)) h9.ok (Ji Bx) ?_;refine bn ?_;exact bV (⟨j+1,_,rfl,rfl,c3,by rw[<-eE c3,List.map_append, <-je];exact h9.put (Ji Bx),by rw[DY jk _ _ _ c3,iH, <-je,List.nil_append,aw];rfl⟩)
      ·obtain rfl:j=(p.aY.getD i default).inits.length:=by omega
       rw[List.take_length] at iH;refine c6 ?_;exact bV (⟨i+1,rfl,rfl,a1,uB hR (by unfold pn;rw[ax, <-El,iH];rfl)⟩)
     ·refine au.m7 rfl rfl (.mk' rfl rfl rfl rfl rfl) (nd (by rw[ax];rfl) _) fm ?_;intro a w s;exact lG (P:=Tryz.prog) (fn:=Tryz.f125) fm b8 ⟨rfl,A5 a1 (by unfold pn;rw[ax];rfl),rfl⟩ a w s
    ·obtain rfl:i=p.aY.length:=by omega
     refine bI ?_;refine jj [] (H) ?_;exact⟨by unfold gS;rw[decide_eq_true hlen,cy,AD,q7,hR];rfl,rfl⟩
theorem abI{i:Nat}(av:i<p.aY.length):(cZ p).getD i default=(p.aY.getD i default).parents:=by
 rw[cZ,List.getD_eq_getElem?_getD,List.getElem?_map,List.getD_eq_getElem?_getD,List.getElem?_eq_getElem av];rfl
theorem abJ{i:Nat}(av:i<p.aY.length)(h: ¬(p.aY.getD i default).parents.length<=3):gS p=false:=
 Ii (by rw[AW (g:=cZ p) (i:=i) (by rw[cZ,List.length_map];exact av) (by rw[abI av,decide_eq_false h];rfl),Bool.and_false])
theorem Ro{W:Fc.bb}{c x:Int}:(uO W c).contains x=(decide (0<=x) && decide (x<W.owner.length) && uP W c x.toNat):=by
 rw[Bool.eq_iff_iff,List.contains_iff_mem,uO,List.mem_map];simp only[Bool.and_eq_true,decide_eq_true_eq,List.mem_filter,List.mem_range];constructor
 ·rintro⟨s,⟨ab,ae⟩,rfl⟩;exact⟨⟨ad,ad⟩,by rw[Int.toNat_natCast];exact ae⟩
 ·rintro⟨⟨ab,ae⟩,aD⟩;exact⟨x.toNat,⟨ad,aD⟩,ad⟩
theorem abK{x:Int}{q:Nat}(bd:q<l.length)(h:((l.take q).map (·.1)).contains x=false)(ag: ¬(l.getD q default).1=x):((l.take (q+1)).map (·.1)).contains x=false:=by
 rw[<-eE bd,List.map_append,List.contains_eq_any_beq,List.any_append, <-List.contains_eq_any_beq,h];simp;exact λe=>ag (by rw[e,List.getD_eq_getElem?_getD])
theorem abL{x:Int}{q j:Nat}(bd:q<j)(aU:j<=l.length)(ag:(l.getD q default).1=x):((l.take j).map (·.1)).contains x=true:=by
 rw[List.contains_iff_mem,List.mem_map];refine⟨l.getD q default,?_,ag⟩;rw[List.getD_eq_getElem?_getD,List.getElem?_eq_getElem ad];exact List.mem_take_iff_getElem.2 ⟨q,ad,rfl⟩
theorem abM{W:Fc.bb}(h:dm W=true){c:Int}(aD:3<=c)(ak:c<3+W.parents.length){n:Nat}(hn:W.owner.length=n){x:Int}(al:(!bif decide (x<0) then true else decide (x>=n))=true):ba Tryz.prog 85 [aa.world W,.i c,.i x] (.b (uP W c x.toNat)):=by
 have ag:0<=x/\x<n:=by
  simp only[Bool.cond_true_left,Bool.not_eq_true',Bool.or_eq_false_iff,decide_eq_false_iff_not] at al;omega
 have h:=Rg h aD ak (s:=x.toNat) ad;rwa [Int.toNat_of_nonneg ag.1] at h
theorem abN(aB:p.Small):ba Tryz.prog 94 [aa.prog p] (.b (gS p)):=by
 intro H;refine bh (n:=153) Tryz.func94 λB I aO=>?_;have yF:=aB.aY;have yH:=aB.parents;refine fk ?_;refine aZ (λai=>?_) λai=>?_
 ·refine bn ?_;refine aS 2 (H) ?_;exact⟨bR (Pq dj).symm,rfl⟩
 ·have fC:p.aY.length<=10:=by omega
  refine eb ?_;refine cq (λm st=>∃i:Nat,st=⟨[(4,.i i),(3,.i (eO (p.aY.take i))),(1,.ptr (dF p))],H⟩/\m=p.aY.length - i/\i<=p.aY.length/\kE (p.aY.take i) 0=true) (⟨0,rfl,rfl,ad,rfl⟩) ?_;rintro m _ ⟨i,rfl,rfl,av,cy⟩;refine c6 ?_;refine aZ (λab=>?_) λab=>?_
  ·have a1:i<p.aY.length:=by omega
   have Jh:=A4 _ _ cy;rw[List.length_take] at Jh;refine OB ?_;refine aq.cond rfl (λae=>?_) (λae=>?_)
   ·rw[Bool.cond_true_left,Bool.or_eq_true,decide_eq_true_eq,decide_eq_true_eq] at ae;have eF:gS p=false:=by
     rcases ae with ae | ae
     ·exact Ih a1 (by rw[decide_eq_false ad];rfl)
     ·exact abJ a1 ad
    refine cT ?_;refine aS 2 (H) ?_;exact⟨bR eF.symm,rfl⟩
   ·rw[Bool.cond_true_left,Bool.or_eq_false_iff,decide_eq_false_iff_not,decide_eq_false_iff_not] at ae;have abO:(p.aY.getD i default).aJ.length<=4:=by omega
    refine bs ?_;refine cq (λm st=>∃j:Nat,st=⟨[(6,.i j),(5,aa.ints (p.aY.getD i default).aJ),(4,.i i),(3,.i ((eO (p.aY.take i))+j:Nat)),(1,.ptr (dF p))],H⟩/\m=(p.aY.getD i default).aJ.length - j/\j<=(p.aY.getD i default).aJ.length/\jT ((p.aY.getD i default).aJ.take j) (eO (p.aY.take i))=true) (⟨0,rfl,rfl,ad,rfl⟩) ?_;rintro m _ ⟨j,rfl,rfl,aU,oE⟩;refine bS ?_;refine aZ (λaD=>?_) λaD=>?_
    ·have c3:j<(p.aY.getD i default).aJ.length:=by omega
     refine fk ?_;refine aZ (λaV=>?_) λaV=>?_
     ·have bq:(p.aY.getD i default).aJ.getD j default≠(((eO (p.aY.take i))+j:Nat):Int):=aV;refine lL ?_;refine aS 2 (H) ?_;exact⟨bR (Pr a1 c3 (by rw[beq_eq_false_iff_ne];exact bq)).symm,rfl⟩
     ·have heq:(p.aY.getD i default).aJ.getD j default=(((eO (p.aY.take i))+j:Nat):Int):=aV;refine eb ?_;exact bV (⟨j+1,dJ,rfl,c3,by rw[DX _ _ _ c3,oE,heq];simp⟩)
    ·obtain rfl:j=(p.aY.getD i default).aJ.length:=by omega
     rw[List.take_length] at oE;refine cw ?_;exact bV (⟨i+1,by rw[Ic a1],rfl,a1,by rw[A3 _ _ _ a1,cy,decide_eq_true abO,Nat.zero_add,oE];rfl⟩)
  ·obtain rfl:i=p.aY.length:=by omega
   rw[List.take_length] at cy ⊢;refine bs ?_;refine aG (af.call .k (Ri p ad yH)) ?_;refine cT ?_;refine au.cb rfl rfl rfl rfl rfl rfl (λal=>af.call (.mk' rfl rfl rfl rfl dv) (aa1 (cZ p))) ?_;refine bI ?_;refine aq.cond rfl (λbl=>?_) (λbl=>?_)
   ·have eF:gS p=false:=Ii (by revert bl;cases gM (cZ p) <;> cases bd:((eO p.aY:Int)==p.aJ) <;> simp_all);refine bn ?_;refine aS 2 (H) ?_;exact⟨bR eF.symm,rfl⟩
   ·have aP:(((eO p.aY:Int)==p.aJ) && gM (cZ p))=true:=by revert bl;cases gM (cZ p) <;> cases bd:((eO p.aY:Int)==p.aJ) <;> simp_all
    rw[Bool.and_eq_true] at aP;obtain⟨AD,q7⟩:=aP;have b0:pw p:=⟨fC,cy,beq_iff_eq.1 AD,q7⟩;have hw:=b0.world;have hL:=uM p;have gj:=uL p.aY 0;have By:(cH p).owner.length=eO p.aY:=gj;have eY:=yu _ _ cy;refine bz ?_;refine aG (af.call .k (Rj p ad (λc h=>⟨yH c h,by have:=(eY c h).1;omega⟩))) ?_;refine au.cG rfl rfl rfl rfl (λcE=>?_);refine bz ?_;refine aq.ep (d:=8) rfl ey ?_;refine bz ?_;refine cq (λm st=>∃i:Nat,st=⟨[(9,.i i),(8,.ptr (dH (cH p))),(7,aa.bD (cZ p)),(3,.i (eO p.aY)),(1,.ptr (dF p))],H⟩/\m=p.aY.length - i/\i<=p.aY.length/\(List.range i).all (pn p)=true) (⟨0,rfl,rfl,ad,rfl⟩) ?_;rintro m _ ⟨i,rfl,rfl,av,hR⟩;refine c6 ?_;refine aZ (λcP=>?_) λcP=>?_
    ·have a1:i<p.aY.length:=by omega
     have ly:(cZ p).length=p.aY.length:=by simp[cZ]
     have abP:ez p ((i:Int)+3)=uO (cH p) ((i:Int)+3):=Q6 b0 ad ad;refine lL ?_;refine aG (af.call .k (abj q7 (c:=(i:Int)+3) ad ad)) ?_;refine ev ?_;refine aq.cond rfl (λdi=>?_) (λdi=>?_)
     ·have ax:(fI (cZ p) ((i:Int)+3)).isEmpty=true:=by revert di;cases (fI (cZ p) ((i:Int)+3)).isEmpty <;> simp
      refine cT ?_;refine aS 2 (H) ?_;exact⟨bR (A5 a1 (by unfold pn;rw[ax];rfl)).symm,rfl⟩
     ·have ax:(fI (cZ p) ((i:Int)+3)).isEmpty=false:=by revert di;cases (fI (cZ p) ((i:Int)+3)).isEmpty <;> simp
      refine yk ?_;refine aq.fi (t:=13) rfl (λak6=>?_);refine cq (λm st=>∃j:Nat,st=⟨[(14,.i j),(13,aa.s7 (p.aY.getD i default).inits),(10,.i ((i:Int)+3)),(9,.i i),(8,.ptr (dH (cH p))),(7,aa.bD (cZ p)),(3,.i (eO p.aY)),(1,.ptr (dF p))],H⟩/\m=(p.aY.getD i default).inits.length - j/\j<=(p.aY.getD i default).inits.length/\mG (ez p ((i:Int)+3)) ((p.aY.getD i default).inits.take j) []=true) (⟨0,rfl,rfl,ad,rfl⟩) ?_;rintro m _ ⟨j,rfl,rfl,aU,iH⟩;refine bS ?_;refine aZ (λeW=>?_) λeW=>?_
      ·have c3:j<(p.aY.getD i default).inits.length:=by omega
       have pc:=Ro (W:=cH p) (c:=(i:Int)+3) (x:=((p.aY.getD i default).inits.getD j default).1);rw[<-abP] at pc;refine aT ?_;refine aq.bL mixed ?_;refine bk.b7 0 2 153 rfl ay rfl rfl ay ?_;refine p7 ?_;refine bk.b7 7 13 153 rfl ay rfl rfl ay ?_;refine yk ?_;refine bk.b7 16 23 153 rfl ay rfl rfl ay ?_;refine bS ?_;refine au.cb rfl rfl rfl rfl rfl rfl (λal=>af.call (.mk' rfl rfl rfl rfl dv) (abM hw (c:=(i:Int)+3) ad ad By al)) ?_;refine eb ?_;refine bk.b7 27 29 153 rfl ay rfl rfl ay ?_;refine bn ?_;refine au.cb rfl rfl rfl rfl rfl rfl (λal=>af.call (.mk' rfl rfl rfl rfl dv) (Rk ((p.aY.getD i default).inits.getD j default).2)) ?_;refine bI ?_;refine aq.cond rfl (λcQ=>?_) (λcQ=>?_)
       ·have eF:((ez p ((i:Int)+3)).contains ((p.aY.getD i default).inits.getD j default).1 && ph ((p.aY.getD i default).inits.getD j default).2)=false:=by
         rw[pc,By];simp only[Bool.cond_true_left] at cQ;rw[<-Bool.not_eq_true,Bool.and_eq_true,Bool.and_eq_true,Bool.and_eq_true,decide_eq_true_eq,decide_eq_true_eq];rintro⟨⟨⟨dg,dh⟩,ea⟩,gP⟩;rw[ea,gP,decide_eq_false ad,decide_eq_false ad] at cQ;cases cQ
        refine lL ?_;refine aS 2 (H) ?_;exact⟨bR (A5 a1 (Ij c3 (by revert eF;cases (ez p ((i:Int)+3)).contains ((p.aY.getD i default).inits.getD j default).1 <;> cases ph ((p.aY.getD i default).inits.getD j default).2 <;> simp))).symm,rfl⟩
       ·have wJ:(ez p ((i:Int)+3)).contains ((p.aY.getD i default).inits.getD j default).1=true/\ph ((p.aY.getD i default).inits.getD j default).2=true:=by
         rw[pc,By];simp only[Bool.cond_true_left,Bool.or_eq_false_iff,decide_eq_false_iff_not,Bool.not_eq_false'] at cQ;rw[cQ.1.2,decide_eq_true ad,decide_eq_true ad];exact⟨rfl,cQ.2⟩
        refine bs ?_;refine cq (λm st=>∃k:Nat,st=⟨[(15,.i k),(14,.i j),(13,aa.s7 (p.aY.getD i default).inits),(10,.i ((i:Int)+3)),(9,.i i),(8,.ptr (dH (cH p))),(7,aa.bD (cZ p)),(3,.i (eO p.aY)),(1,.ptr (dF p))],H⟩/\m=j - k/\k<=j/\(((p.aY.getD i default).inits.take k).map (·.1)).contains ((p.aY.getD i default).inits.getD j default).1=false) (⟨0,rfl,rfl,ad,rfl⟩) ?_;rintro m _ ⟨k,rfl,rfl,ao,ak⟩;refine bs ?_;refine aZ (λfC=>?_) λfC=>?_
        ·have dP:k<j:=by omega
         refine bz ?_;refine aq.bL mixed ?_;refine bk.b7 0 10 153 rfl ay rfl rfl ay ?_;refine fk ?_;refine aZ (λk1=>?_) λk1=>?_
         ·refine yk ?_;refine aS 2 (H) ?_;exact⟨bR (A5 a1 (Ij c3 (by rw[abL dP ad k1];simp))).symm,rfl⟩
         ·refine bs ?_;exact bV (⟨k+1,rfl,rfl,dP,abK ad ak k1⟩)
        ·obtain rfl:k=j:=by omega
         refine cw ?_;exact bV (⟨k+1,rfl,rfl,c3,by rw[DY _ _ _ _ c3,iH,List.nil_append,wJ.1,wJ.2,ak];rfl⟩)
      ·obtain rfl:j=(p.aY.getD i default).inits.length:=by omega
       rw[List.take_length] at iH;refine cw ?_;exact bV (⟨i+1,rfl,rfl,a1,uB hR (by unfold pn;rw[ax,iH];rfl)⟩)
    ·obtain rfl:i=p.aY.length:=by omega
     refine cw ?_;refine aS 2 (H) ?_;exact⟨bR (by unfold gS;rw[decide_eq_true fC,cy,AD,q7,hR];rfl),rfl⟩
theorem Rp(h:0<=i/\i<o.length):(o.map aa.i++more)[0+i.toNat*1]? =some (.i (o.getD i.toNat default)):=by
 rw[Nat.zero_add,Nat.mul_one,List.getElem?_append_left qn,List.getElem?_map,List.getD_eq_getElem?_getD,List.getElem?_eq_getElem ad];rfl
theorem abQ(h:0<=i/\i<o.length):Nat.ble (0+i.toNat*1+1) (o.map aa.i++more).length=true:=by
 rw[Nat.ble_eq,List.length_append,List.length_map];omega
theorem abR{i v:Int}(h:0<=i/\i<o.length):(o.map aa.i++more).take (0+i.toNat*1)++[aa.i v]++(o.map aa.i++more).drop (0+i.toNat*1+1)=(o.set i.toNat v).map aa.i++more:=by
 rw[Nat.zero_add,Nat.mul_one,List.take_append_of_le_length qn,List.drop_append_of_le_length qn,List.map_set,List.set_eq_take_append_cons_drop,if_pos qn];simp
theorem Jj(aN:x.bL+f=14)(h:(visit p next f x out).2=some o):o.length=out.length:=by
 rw[(yv (p:=p) (next:=next) f x out aN).end_ o h,yw]
def py(p:Prog)(next:Bool)(f:Nat)(x:cd)(out:List Int)(nb:Nat)(more:List aa)(H:List aj)(y:aa)(H':List aj):Prop:=match (visit p next f x out).2 with
 | some o=>y= .b true/\H'= .aI nb 3 (o.map aa.i++more)::H
 | none=>y= .b false/\∃o':List Int,H'= .aI nb 3 (o'.map aa.i++more)::H
theorem Jk{nb:Nat}(h:(visit p next f x out).2=none)(o':List Int):py p next f x out nb more H (.b false) (.aI nb 3 (o'.map aa.i++more)::H):=by
 unfold py;rw[h];exact⟨rfl,o',rfl⟩
theorem abS{nb:Nat}(h:(visit p next f x out).2=some o):py p next f x out nb more H (.b true) (.aI nb 3 (o.map aa.i++more)::H):=by
 unfold py;rw[h];exact⟨rfl,rfl⟩
theorem Rq(p:Prog)(x:cd)(out:List Int):(bif bif bif decide (x.n<0) then true else decide (x.n>=p.nodes.length) then true else decide (out.getD x.n.toNat default>=0) then true else decide (x.bL>12))= !nT p x out:=by
 unfold nT;simp only[Bool.cond_true_left];rw[Bool.eq_iff_iff];simp only[Bool.or_eq_true,decide_eq_true_eq,Bool.not_eq_true', <-Bool.not_eq_true,Bool.and_eq_true];omega
theorem Rr(aH:p.aY.length<=4000000){next:Bool}{f:Nat}(bm:∀f',f=f'+1->∀(x:cd) (out:List Int) (nb cap:Nat) (more:List aa) (H:List aj),x.bL+f'=14->1<=x.bL->-1000<=x.bx/\x.bx<=1000+x.bL->out.length=p.nodes.length->
  b1 Tryz.prog 97 [aa.prog p,.i x.n,.i x.bx,.i x.bL,.b next,.val (.slice (some ⟨nb,0,none⟩) p.nodes.length cap)] (.aI nb 3 (out.map aa.i++more)::H) (py p next f' x out nb more H) (λ_ _=>False))
  (x:cd) (out:List Int) (nb cap:Nat) (more:List aa) (H:List aj) (aN:x.bL+f=14) (Be:1<=x.bL) (eH: -1000<=x.bx/\x.bx<=1000+x.bL) (aA:out.length=p.nodes.length):
  b1 Tryz.prog 97 [aa.prog p,.i x.n,.i x.bx,.i x.bL,.b next,.val (.slice (some ⟨nb,0,none⟩) p.nodes.length cap)] (.aI nb 3 (out.map aa.i++more)::H) (py p next f x out nb more H) (λ_ _=>False):=by
 refine bh (n:=98) Tryz.func97 λB I aO=>?_;refine qW ?_;refine au.cb rfl rfl rfl rfl rfl rfl (λal=>af.m6 rfl rfl (cL al) rfl (cL al) tI) ?_;refine au.cb rfl rfl rfl rfl rfl rfl (λal=>(by first | exact af.eN rfl rfl (cL al) rfl | (apply af.lr rfl rfl (cL al);(case hm=>repeat (first | exact .head _ | refine .tail _ ?_));(case hy=>exact Rp tI)))) ?_;refine bs ?_;refine aq.cond rfl (λai=>?_) (λai=>?_)
 ·rw[Rq,Bool.not_eq_true'] at ai;have eF:fS p next x out=false:=by unfold fS;rw[ai];rfl
  refine bn ?_;refine aS 12 (.aI nb 3 (out.map aa.i++more)::H) ?_;exact Jk (by rw[uC eF]) out
 ·rw[Rq,Bool.not_eq_false'] at ai;obtain⟨vc,xF⟩:=PD ai;refine bn ?_;refine aG (af.m6 rfl rfl rfl rfl rfl ad) ?_;apply au.j9 rfl rfl rfl rfl rfl rfl rfl rfl rfl rfl
  (case hu=>repeat (first | exact bu.head _ _ _ | apply bu.tail));(case hfit=>exact abQ ad);(case hds=>exact abR ad)
  refine bn ?_;refine aG (Cw) ?_;refine bt ?_;refine au.cG rfl rfl rfl rfl (λuw=>?_);refine bz ?_;obtain⟨K,ca⟩:∃K,K=gq p x:=⟨_,rfl⟩;rw[show p.nodes.getD x.n.toNat default=K from ca.symm];refine aq.ep (d:=13) rfl ey ?_;refine aq.bL mixed ?_;refine bk.b7 0 6 98 rfl ay rfl rfl ay ?_;refine bz ?_;refine bU.bB rfl rfl rfl (af.call .k (abC p K)) ?_;refine bS ?_;refine bk.b7 8 11 98 rfl ay rfl rfl ay ?_;refine bz ?_;refine au.cb rfl rfl rfl rfl rfl rfl (λal=>af.call (.mk' rfl rfl rfl rfl dv) (abD p aH K x.bx)) ?_;refine ev ?_;refine aq.cond rfl (λab=>?_) (λab=>?_)
  ·rw[Rh,Bool.not_eq_true'] at ab;have eF:fS p next x out=false:=by unfold fS;rw[ai, <-ca,ab];rfl
   refine bn ?_;refine aS 12 (.aI nb 3 ((out.set x.n.toNat x.bx).map aa.i++more)::H) ?_;exact Jk (by rw[uC eF]) _
  ·rw[Rh,Bool.not_eq_false'] at ab;have cA:fS p next x out=true:=by unfold fS;rw[ai, <-ca,ab];rfl
   obtain⟨f',rfl⟩:∃f',f=f'+1:=⟨f - 1,by have cQ:=ai;simp only[nT,Bool.and_eq_true,decide_eq_true_eq] at cQ;omega⟩;have pq:=wh (f:=f') cA;rw[<-ca] at pq;have ak7:x.bL<=12:=by have cQ:=ai;simp only[nT,Bool.and_eq_true,decide_eq_true_eq] at cQ;omega
   refine aq.fi (t:=46) rfl (λDe=>?_);refine bS ?_;refine cq (λm st=>∃(i:Nat) (l:List cd) (o:List Int),st=⟨[(14,.i i),(13,.ptr (lN K)),(6,.ptr (dF p)),(2,.i x.bx),(3,.i x.bL),(4,.b next),(5,.val (.slice (some ⟨nb,0,none⟩) p.nodes.length cap))],.aI nb 3 (o.map aa.i++more)::H⟩/\m=K.kids.length - i/\i<=K.kids.length/\fl (visit p next f') ((iC x K.op 0 K.kids).take i) (jU out x)=(l,some o)/\o.length=p.nodes.length) (⟨0,[],jU out x,rfl,rfl,ad,rfl,by rw[jU,List.length_set];exact aA⟩) ?_;rintro m _ ⟨i,l,o,rfl,rfl,av,dT,gj⟩;refine c6 ?_;refine aZ (λae=>?_) λae=>?_
   ·have a1:i<K.kids.length:=by omega
    obtain⟨R,hR,s5,rP⟩:=Px (Pt (p:=p) (next:=next) f') (Py x K.op a1) dT;refine c6 ?_;refine aq.oV (λst=>st=⟨[(15,.i (hJ x K.op i (K.kids.getD i default)).bx),(14,.i i),(13,.ptr (lN K)),(6,.ptr (dF p)),(2,.i x.bx),(3,.i x.bL),(4,.b next),(5,.val (.slice (some ⟨nb,0,none⟩) p.nodes.length cap))],.aI nb 3 (o.map aa.i++more)::H⟩) ?_ ?_
    ·refine cw ?_;refine aq.cond rfl (λaD=>?_) (λaD=>?_)
     ·have Em:K.op=9/\i=1:=by simp only[Bool.cond_false_right,Bool.and_eq_true,beq_iff_eq] at aD;omega
      refine bz ?_;refine aR.le 15 (y:=.i (hJ x K.op i (K.kids.getD i default)).bx) rfl (aL.dx (by simp only[hJ];rw[if_pos Em])) ?_;exact gm rfl
     ·have Em: ¬(K.op=9/\i=1):=by simp only[Bool.cond_false_right,Bool.and_eq_false_iff,beq_eq_false_iff_ne] at aD;omega
      refine bt ?_;refine aR.le 15 (y:=.i (hJ x K.op i (K.kids.getD i default)).bx) rfl (aL.dx (by simp only[hJ];rw[if_neg Em])) ?_;exact gm rfl
    ·rintro _ rfl;refine bt ?_;rcases aC:(visit p next f' (hJ x K.op i (K.kids.getD i default)) o).2 with _ | o'
     ·have hn:=(s5 aC).2;refine aq.bL mixed ?_;refine bk.b7 0 11 98 rfl ay rfl rfl ay ?_;refine ev ?_;refine dE .k ((b1.qz (bm f' rfl (hJ x K.op i (K.kids.getD i default)) o nb cap more H so so CN gj) (λy H1 h=>by rw[py,aC] at h;exact h) (λ_ _ h=>h)).b) ?_;rintro _ _ ⟨rfl,c7,rfl⟩;refine bg ?_;refine aq.cond rfl (λaV=>?_) (λaV=>?_)
      ·replace aV:=dZ aV;refine cw ?_;refine aS 12 (.aI nb 3 (c7.map aa.i++more)::H) ?_;exact Jk (by rw[pq];exact hn) c7
      ·cases aV
     ·have oE:=(rP o' aC).1;have Jl:=Jj so aC;refine aq.bL mixed ?_;refine bk.b7 0 11 98 rfl ay rfl rfl ay ?_;refine ev ?_;refine dE .k ((b1.qz (bm f' rfl (hJ x K.op i (K.kids.getD i default)) o nb cap more H so so CN gj) (λy H1 h=>by rw[py,aC] at h;exact h) (λ_ _ h=>h)).b) ?_;rintro _ _ ⟨rfl,rfl⟩;refine bg ?_;refine aq.cond rfl (λbl=>?_) (λbl=>?_)
      ·cases bl
      ·replace bl:=dZ bl;refine bs ?_;exact bV (⟨i+1,_,o',rfl,rfl,a1,oE,ad⟩)
   ·obtain rfl:i=K.kids.length:=by omega
    have IZ:fl (visit p next f') (iC x K.op 0 K.kids) (jU out x)=(l,some o):=by rwa [List.take_of_length_le (by rw[Il];omega)] at dT
    refine cw ?_;refine aS 12 (.aI nb 3 (o.map aa.i++more)::H) ?_;exact abS (by rw[pq,IZ])
theorem Bz{p:Prog}(aH:p.aY.length<=4000000){next:Bool}:∀(f:Nat) (x:cd) (out:List Int) (nb cap:Nat) (more:List aa) (H:List aj),x.bL+f=14->1<=x.bL->-1000<=x.bx/\x.bx<=1000+x.bL->out.length=p.nodes.length->
  b1 Tryz.prog 97 [aa.prog p,.i x.n,.i x.bx,.i x.bL,.b next,.val (.slice (some ⟨nb,0,none⟩) p.nodes.length cap)] (.aI nb 3 (out.map aa.i++more)::H) (py p next f x out nb more H) (λ_ _=>False)
 | 0=>Rr aH (λf' h=>by omega)
 | f+1=>Rr aH (λf' h=>by(obtain rfl:f'=f:=by omega);exact Bz aH f')
theorem Rs{v:cd->List Int->List cd×Option (List Int)}{Q:cd->Prop}:∀(l:List cd) (o:List Int),(∀z∈l,∀o',∀y∈(v z o').1,Q y)->∀y∈(fl v l o).1,Q y
 | [],o,_,y,hy=>by simp[fl] at hy
 | z::r,o,h,y,hy=>by
  simp only[fl] at hy;rcases aC:v z o with⟨po,_ | cV⟩
  ·rw[aC] at hy;exact h z (.head _) o y (by rw[aC];exact hy)
  ·rw[aC] at hy;rcases List.mem_append.1 hy with hy | hy
   ·exact h z (.head _) o y (by rw[aC];exact hy)
   ·exact Rs r cV (λw hw=>h w (.tail _ hw)) y hy
theorem Rt{x:cd}{op:Int}(h:0<=x.bx):∀(i:Nat) (l:List Int),∀y∈iC x op i l,0<=y.bx
 | _,[],y,hy=>by cases hy
 | i,k::r,y,hy=>by
  rw[iC] at hy;rcases List.mem_cons.1 hy with rfl | hy
  ·simp only[hJ];split <;> omega
  ·exact Rt h (i+1) r y hy
theorem Ru{p:Prog}{next:Bool}:∀(f:Nat) (x:cd) (out:List Int),0<=x.bx->∀y∈(visit p next f x out).1,0<=y.bx
 | 0,x,out,h,y,hy=>by rw[show (visit p next 0 x out).1= [x] from rfl,List.mem_singleton] at hy;rw[hy];exact h
 | f+1,x,out,h,y,hy=>by
  cases ao:fS p next x out with
  | false=>rw[uC ao,List.mem_singleton] at hy;rw[hy];exact h
  | true=>
   rw[wh ao] at hy;rcases List.mem_cons.1 hy with rfl | hy
   ·exact h
   ·exact Rs _ _ (λz an o' y hy=>Ru f z o' (Rt h _ _ z an) y hy) y hy
def yI(o:List Int):Prop:=∀y∈o,-1<=y
theorem Rv:∀(L:List cd) (o:List Int),(∀x∈L,0<=x.bx)->yI o->yI (iD L o)
 | [],o,_,h=>h
 | x::r,o,df,h=>Rv r _ (λy hy=>df y (.tail _ hy)) (λy hy=>by
  rcases List.mem_or_eq_of_mem_set hy with ab | ab
  ·exact h y ab
  ·have:=df x (.head _);omega)
theorem Rw{o o':List Int}(aN:x.bL=1)(aH:0<=x.bx)(h:(visit p next 13 x o).2=some o')(al:yI o):yI o':=by
 rw[(yv (p:=p) (next:=next) 13 x o ad).end_ o' h];exact Rv _ _ (Ru 13 x o aH) al
theorem abT(p:Prog):yI (kn p):=λy hy=>by rw[(List.mem_replicate.1 hy).2];omega
theorem En(l:List Int):(l.map λn=>[aa.i n]).flatten=l.map aa.i:=by
 induction l with
 | nil=>rfl
 | cons x r bm=>rw[List.map_cons,List.flatten_cons,bm];rfl
theorem Rx{m:iz}(hw:dm (cH p)=true):(bif bif bif bif bif decide (m.kind<1) then true else decide (m.kind>4) then true else decide (m.gen<0) then true else decide (m.gen>=p.du.length) then true else !mD (cH p) m.fact then true else decide (oB m.fact>p.du.getD m.gen.toNat default))= !(rQ p m && rR p m):=by
 unfold rQ rR;rw[hw];simp only[Bool.cond_true_left,Bool.true_and];cases mD (cH p) m.fact
 ·simp
 ·rw[Bool.eq_iff_iff];simp only[Bool.or_eq_true,decide_eq_true_eq,Bool.not_eq_true', <-Bool.not_eq_true,Bool.and_eq_true,Bool.not_true,Bool.false_eq_true,or_false,true_and];omega
theorem Ry(n:Int):(bif decide (n<1) then true else decide (n>3))= !nU n:=by
 unfold nU;rw[Bool.cond_true_left,Bool.eq_iff_iff];simp only[Bool.or_eq_true,decide_eq_true_eq,Bool.not_eq_true', <-Bool.not_eq_true,Bool.and_eq_true];omega
theorem Rz(p:Prog)(b:Bool):(bif bif bif bif !b then true else decide ((p.du.length:Int)>8) then true else decide ((p.methods.length:Int)>16) then true else decide ((p.nodes.length:Int)<1) then true else decide ((p.nodes.length:Int)>120))= !(b && q1 p):=by
 unfold q1;cases b
 ·simp
 ·simp only[Bool.cond_true_left,Bool.true_and,Bool.not_true];rw[Bool.eq_iff_iff];simp only[Bool.or_eq_true,decide_eq_true_eq,Bool.not_eq_true', <-Bool.not_eq_true,Bool.and_eq_true,Bool.false_eq_true,false_or];omega
theorem abU(aB:p.Small):ba Tryz.prog 44 [aa.prog p] (.bJ [aa.ints ((bK p).getD []),.b (bK p).isSome]):=by
 intro H;refine bh (n:=156) Tryz.func44 λB I aO=>?_;have yF:=aB.aY;have yH:=aB.parents;have gn:0=0:=rfl;refine cw ?_;refine aG (af.call .k (abN aB)) ?_;refine OA ?_;refine aq.cond rfl (λai=>?_) (λai=>?_)
 ·rw[Rz,Bool.not_eq_true',Bool.and_eq_false_iff] at ai;have eF:bK p=none:=by
   rcases ai with ai | ai
   ·exact PH ai
   ·exact PI ai
  refine bs ?_;refine aR.c5 (rs:=[.tmp 2,.tmp 3]) (H':=H) rfl (.tmp rfl (.tmp rfl (.nil))) (.cons (aL.nil 1) (.cons (.refl _) .nil)) b8 ?_;exact⟨vh,rfl⟩
 ·rw[Rz,Bool.not_eq_false',Bool.and_eq_true] at ai;obtain⟨dp,RA⟩:=ai;have b0:=pw.of dp;have fC:=b0.dS;have hw:=b0.world;have hL:=uM p;have abV:=RA;simp only[q1,Bool.and_eq_true,decide_eq_true_eq] at abV;have eZ:=yu _ _ b0.aF;refine bS ?_;refine cq (λm st=>∃i:Nat,st=⟨[(4,.i i),(1,.ptr (dF p))],H⟩/\m=p.du.length - i/\i<=p.du.length/\(p.du.take i).all nU=true) (⟨0,rfl,rfl,ad,rfl⟩) ?_;rintro m _ ⟨i,rfl,rfl,av,bN⟩;refine c6 ?_;refine aZ (λab=>?_) λab=>?_
  ·have a1:i<p.du.length:=by omega
   refine oz ?_;refine aq.cond rfl (λae=>?_) (λae=>?_)
   ·rw[Ry,Bool.not_eq_true'] at ae;have eF:bK p=none:=PJ (Rf a1 ae);refine cT ?_;refine aR.c5 (rs:=[.tmp 2,.tmp 3]) (H':=H) rfl (.tmp rfl (.tmp rfl (.nil))) (.cons (aL.nil 1) (.cons (.refl _) .nil)) b8 ?_;exact⟨vh,rfl⟩
   ·rw[Ry,Bool.not_eq_false'] at ae;refine bs ?_;exact bV (⟨i+1,rfl,rfl,a1,Re a1 bN ae⟩)
  ·obtain rfl:i=p.du.length:=by omega
   rw[List.take_length] at bN;refine hB ?_;refine aq.Ak 3 1 ?_;refine cq (λm st=>∃(i:Nat) (v:Value),st=⟨[(6,.i i),(5,.val v),(1,.ptr (dF p))],iA v (List.replicate i (-1))::H⟩/\m=p.nodes.length - i/\i<=p.nodes.length) (⟨0,_,rfl,rfl,ad⟩) ?_;rintro m _ ⟨i,v,rfl,rfl,av⟩;refine c6 ?_;refine aZ (λaD=>?_) λaD=>?_
   ·have a1:i<p.nodes.length:=by omega
    refine aT ?_;refine au.bB (x:=.aF 1 [[.i (-1)]]) rfl rfl rfl (af.row rfl rfl c4 rfl rfl rfl rfl rfl rfl) ?_;refine au.Oe (fy [-1]) rfl rfl rfl rfl rfl rfl rfl rfl (aL.refl _) rfl (λv=>.head _ _ _) (by simp only[yt,List.length_replicate,List.length_singleton];omega) (by simp only[yt,List.length_replicate,List.length_singleton];omega) (λRB=>?_);refine bI ?_;refine aq.kz (H':=iA RB (List.replicate i (-1)++[-1])::H) (congrArg (· ::_) (Pl _ _ _)) ?_;refine bz ?_;exact bV (⟨i+1,RB,by rw[List.replicate_succ'],rfl,a1⟩)
   ·obtain rfl:i=p.nodes.length:=by omega
    refine aT ?_;refine aq.x7 (t:=3) (by rw[yt,List.length_replicate];omega) (λb cap more=>.head _ _ _) (λnb cap more a6 aW cN gO mv=>?_);rw[yt,List.length_replicate] at a6 aW;subst a6;refine aq.kz (H':=.aI nb 3 ((kn p).map aa.i++more)::H) (by rw[fy,En];rfl) ?_;refine bC ?_;refine aG (af.call .k (Rj p ad (λc h=>⟨yH c h,by have:=(eZ c h).1;omega⟩))) ?_;refine au.cG rfl rfl rfl rfl (λcE=>?_);refine bz ?_;refine aq.ep (d:=7) rfl ey ?_;refine bz ?_;refine cq (λm st=>∃(i:Nat) (o:List Int),st=⟨[(8,.i i),(7,.ptr (dH (cH p))),(5,.val (.slice (some ⟨nb,0,none⟩) p.nodes.length cap)),(1,.ptr (dF p))],.aI nb 3 (o.map aa.i++more)::H⟩/\m=p.methods.length - i/\i<=p.methods.length/\hS p (p.methods.drop i) o=hS p p.methods (kn p)/\o.length=p.nodes.length/\yI o) (⟨0,kn p,rfl,rfl,ad,rfl,by simp[kn],abT p⟩) ?_;rintro m _ ⟨i,o,rfl,rfl,av,ld,gj,oX⟩;refine c6 ?_;refine aZ (λaV=>?_) λaV=>?_
    ·have a1:i<p.methods.length:=by omega
     obtain⟨M,bT⟩:∃M,M=(p.methods.getD i default):=⟨_,rfl⟩;refine cw ?_;refine au.cG rfl rfl rfl rfl (λbo=>?_);refine bz ?_;rw[<-bT];refine aq.ep (d:=9) rfl ey ?_;refine aq.bL mixed ?_;refine Yt ?_;refine bk.b7 14 19 156 rfl ay rfl rfl ay ?_;refine kC ?_;refine bk.b7 22 25 156 rfl ay rfl rfl ay ?_;refine bz ?_;refine au.cb rfl rfl rfl rfl rfl rfl (λal=>af.call (.mk' rfl rfl rfl rfl dv) (abA ad M.fact)) ?_;refine eb ?_;refine bk.b7 29 38 156 rfl ay rfl rfl ay ?_;refine bC ?_;refine bU.cb rfl rfl rfl rfl rfl (λal=>af.call (.mk' rfl rfl rfl rfl dv) (abz M.fact (PG (w:=cH p) (by revert al;cases mD (cH p) M.fact <;> simp)))) ?_;refine bI ?_;refine bU.cb rfl rfl rfl rfl rfl (λal=>(by first | exact af.iQ rfl rfl (cL al) rfl (cL al) L2 | exact af.h1 rfl rfl (cL al) rfl (cL al) L2)) ?_;refine bn ?_;refine aq.cond rfl (λbl=>?_) (λbl=>?_)
     ·rw[Rx hw,Bool.not_eq_true'] at bl;have eF:bK p=none:=A8 (by rw[<-ld];exact Ir a1 bT bl);refine ev ?_;refine aR.c5 (rs:=[.tmp 2,.tmp 3]) (H':=H) rfl (.tmp rfl (.tmp rfl (.nil))) (.cons (aL.nil 1) (.cons (.refl _) .nil)) b8 ?_;exact⟨vh,rfl⟩
     ·rw[Rx hw,Bool.not_eq_false'] at bl;have rY:=bl;simp only[rQ,Bool.and_eq_true,decide_eq_true_eq] at rY;have oU:=List.all_eq_true.1 bN _ (cp (l:=p.du) (k:=M.gen.toNat) ad);simp only[nU,Bool.and_eq_true,decide_eq_true_eq] at oU;refine bg ?_;rcases aC:(visit p (me M) 13 (ns p M) o).2 with _ | cV
      ·have eF:bK p=none:=A8 (by rw[<-ld];exact PN a1 bT aC);refine aq.bL mixed ?_;refine bk.b7 0 13 156 rfl ay rfl rfl ay ?_;refine cw ?_;refine bU.bB rfl rfl rfl (af.call .k (Rl M.kind)) ?_;refine bg ?_;refine dE (.mk' rfl rfl rfl rfl rfl) ((b1.qz (Bz (next:=me M) ad 13 (ns p M) o nb cap more H dJ CP CA gj) (λy H1 h=>by rw[py,aC] at h;exact h) (λ_ _ h=>h)).b) ?_;rintro _ _ ⟨rfl,c7,rfl⟩;refine bg ?_;refine aq.cond rfl (λcP=>?_) (λcP=>?_)
       ·replace cP:=dZ cP;refine cT ?_;refine aR.c5 (rs:=[.tmp 2,.tmp 3]) (H':=H) rfl (.tmp rfl (.tmp rfl (.nil))) (.cons (aL.nil 1) (.cons (.refl _) .nil)) b8 ?_;exact⟨vh,rfl⟩
       ·cases cP
      ·have Jl:=Jj dJ aC;have Jm:=Rw dJ (by simp only[ns];omega) aC oX;have wK:=PO a1 bT bl aC;refine aq.bL mixed ?_;refine bk.b7 0 13 156 rfl ay rfl rfl ay ?_;refine cw ?_;refine bU.bB rfl rfl rfl (af.call .k (Rl M.kind)) ?_;refine bg ?_;refine dE (.mk' rfl rfl rfl rfl rfl) ((b1.qz (Bz (next:=me M) ad 13 (ns p M) o nb cap more H dJ CP CA gj) (λy H1 h=>by rw[py,aC] at h;exact h) (λ_ _ h=>h)).b) ?_;rintro _ _ ⟨rfl,rfl⟩;refine bg ?_;refine aq.cond rfl (λdi=>?_) (λdi=>?_)
       ·cases di
       ·replace di:=dZ di;refine bs ?_;exact bV (⟨i+1,cV,rfl,rfl,a1,by rw[<-ld,wK],ad,Jm⟩)
    ·obtain rfl:i=p.methods.length:=by omega
     rw[List.drop_length,hS] at ld;have ld:=ld.symm;refine bn ?_;rcases aC:(visit p false 13 ⟨p.main,0,1⟩ o).2 with _ | cV
     ·have eF:bK p=none:=PK ld aC;refine bz ?_;refine dE (.mk' rfl rfl rfl rfl rfl) ((b1.qz (Bz (next:=false) ad 13 (⟨p.main,0,1⟩:cd) o nb cap more H dJ CP CA gj) (λy H1 h=>by rw[py,aC] at h;exact h) (λ_ _ h=>h)).b) ?_;rintro _ _ ⟨rfl,c7,rfl⟩;refine bg ?_;refine aq.cond rfl (λeW=>?_) (λeW=>?_)
      ·replace eW:=dZ eW;refine bs ?_;refine aR.c5 (rs:=[.tmp 2,.tmp 3]) (H':=H) rfl (.tmp rfl (.tmp rfl (.nil))) (.cons (aL.nil 1) (.cons (.refl _) .nil)) b8 ?_;exact⟨vh,rfl⟩
      ·cases eW
     ·have Jl:=Jj dJ aC;have Jm:=Rw dJ (by show (0:Int)<=0;omega) aC oX;refine bz ?_;refine dE (.mk' rfl rfl rfl rfl rfl) ((b1.qz (Bz (next:=false) ad 13 (⟨p.main,0,1⟩:cd) o nb cap more H dJ CP CA gj) (λy H1 h=>by rw[py,aC] at h;exact h) (λ_ _ h=>h)).b) ?_;rintro _ _ ⟨rfl,rfl⟩;refine bg ?_;refine aq.cond rfl (λcQ=>?_) (λcQ=>?_)
      ·cases cQ
      ·replace cQ:=dZ cQ;refine bS ?_;refine cq (λm st=>∃i:Nat,st=⟨[(10,.i i),(5,.val (.slice (some ⟨nb,0,none⟩) p.nodes.length cap))],.aI nb 3 (cV.map aa.i++more)::H⟩/\m=p.nodes.length - i/\i<=p.nodes.length/\∀y∈cV.take i,0<=y) (⟨0,rfl,rfl,ad,bj⟩) ?_;rintro m _ ⟨i,rfl,rfl,av,ju⟩;refine bz ?_;refine aG (af.Cv rfl rfl rfl) ?_;refine bg ?_;refine aZ (λfC=>?_) λfC=>?_
       ·have a1:i<p.nodes.length:=by omega
        refine bs ?_;refine aG (af.m6 rfl rfl rfl rfl rfl ad) ?_;refine aG ((by first | exact af.eN rfl rfl rfl rfl | (apply af.lr rfl rfl rfl;(case hm=>repeat (first | exact .head _ | refine .tail _ ?_));(case hy=>exact Rp ad)))) ?_;refine bg ?_;refine aZ (λk1=>?_) λk1=>?_
        ·have rY:cV.getD i default= -1:=by have:=Jm _ (cp (l:=cV) (k:=i) ad);rw[Int.toNat_natCast] at k1;omega
         have eF:bK p=none:=PL ld aC (by rw[<-rY];exact List.contains_iff_mem.2 (cp ad));refine cT ?_;refine aR.c5 (rs:=[.tmp 2,.tmp 3]) (H':=H) rfl (.tmp rfl (.tmp rfl (.nil))) (.cons (aL.nil 1) (.cons (.refl _) .nil)) b8 ?_;exact⟨vh,rfl⟩
        ·refine bs ?_;exact bV (⟨i+1,rfl,rfl,a1,λy hy=>by rw[<-eE ad,List.mem_append,List.mem_singleton] at hy;rw[Int.toNat_natCast] at k1;rcases hy with hy | rfl;exact ju y hy;omega⟩)
       ·obtain rfl:i=p.nodes.length:=by omega
        rw[<-gj, <-Jl,List.take_length] at ju;have wJ:bK p=some cV:=PM dp RA bN ld aC (by rw[List.contains_eq_mem,decide_eq_false_iff_not];intro h;have:=ju _ h;omega);refine aT ?_;refine aq.kz (H':=.aI nb 3 ((cV.map λn=>[aa.i n]).flatten++more)::H) (by rw[En]) ?_;refine aq.qA (k:=1) (d:=5) rfl (.head _ _) qn (λe he=>by obtain⟨y,_,rfl⟩:=List.mem_map.1 he;rfl) aW cN ?_;refine bn ?_;refine fR [.tmp 2,.tmp 3] (H) ?_;exact⟨by rw[wJ];rfl,rfl⟩
theorem Jn(aB:p.Small):ba Tryz.prog 17 [aa.prog p] (.b (bK p).isSome):=by
 intro H;refine bh (n:=11) Tryz.func17 λB I aO=>?_;refine bS ?_;refine aG (af.call .k (abU aB)) ?_;refine eb ?_;refine aS 2 (H) ?_;exact⟨dJ,rfl⟩
theorem Jo(an:(bK p).isSome=true):pw p:=by
 obtain⟨o,aA⟩:=Option.isSome_iff_exists.1 an;exact pw.of (kF aA).1
end Go.Proofs.YtodccgailpkgeaaGreat

