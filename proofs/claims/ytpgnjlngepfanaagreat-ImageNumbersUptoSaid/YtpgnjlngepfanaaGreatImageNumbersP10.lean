/- Part 10 of the proof: contracts of functions of the program and what they need. No condition beyond those that each theorem names. -/
import Derived.Test.YtpgnjlngepfanaaGreatImageNumbersP9
import Derived.Shelf.Sort.Plain
import Derived.Shelf.Slices.In.SortNone
import Derived.Sort.OwnSortedInts
import Derived.Tactics
import Derived.Tactics2
import Derived.Laws.Pointers
import Derived.TacticsInMore
import Derived.RegionIn
import Derived.RecoverIn
set_option maxHeartbeats 1000000
set_option linter.unusedVariables false
set_option linter.unusedSimpArgs false
set_option maxRecDepth 10000
namespace Go.Proofs.YtpgnjlngepfanaaGreat
open Go.Eng
open Go.Eng.Fc
open Go.Eng.Bd
variable{p:Prog}{i:Int}{x:Vis}{l:List (Int×Int)}{o out:List Int}{more:List AV}{next:Bool}{f B tb:Nat}{H:List Ent}{I0:Imm}{w0 w:World}{env:List (Nat×AV)}{a:Act}{Φ E:AV->List Ent->Prop}
def kidsR(p:Prog)(x:Nd):Int:=match kindOf x.op with
 | none=>-1
 | some none=>if 0<=x.n/\x.n<p.gens.length then p.gens.getD x.n.toNat default else -1
 | some (some k)=>k
theorem kids_eq(p:Prog)(x:Nd)(sz:Int)(next:Bool):(bif bif (x.kids.length:Int) !=kidsR p x then true else !numP p x sz then true else bif x.op==18 then !next else false)= !goodN p next x sz:=by
 unfold goodN kidsR;rcases hk:kindOf x.op with _ | _ | k
 ·simp only[Bool.and_false,Bool.not_false];rw[show ((x.kids.length:Int) != -1)=true by rw[bne_iff_ne];omega];rfl
 ·simp only;cases hn:numP p x sz with
  | false=>simp
  | true=>
   have hr:=kind_arg hk hn;rw[if_pos hr];simp only[bne];generalize ((x.kids.length:Int)==p.gens.getD x.n.toNat default)=a;generalize (x.op==18)=b;cases a <;> cases b <;> cases next <;> rfl
 ·simp only;have e:((x.kids.length:Int) !=(k:Int))= !(x.kids.length==k):=by rw[Bool.eq_iff_iff];simp;omega
  rw[e];simp only[bne];generalize (x.kids.length==k)=a;generalize (x.op==18)=b;generalize numP p x sz=d;cases a <;> cases b <;> cases next <;> cases d <;> rfl
theorem rGraph(p:Prog)(hs:p.classes.length<=4000000)(hc:∀c∈p.classes,c.parents.length<=4000000):PCall Tryz.prog 179 [AV.prog p] (AV.intss (graphP p)):=by
 intro H;refine aC (n:=23) Tryz.func179 λB I w0=>?_;refine Z18 ?_;refine CW.ownNil 3 23 1 rfl ?_;refine lj (λm st=>∃(i:Nat) (v:Value),st=⟨[(4,.i i),(3,.as (AV.intss ((p.classes.take i).map (·.parents))) v),(1,.ptr (progC p))],.own 23 1 v::H⟩/\m=p.classes.length - i/\i<=p.classes.length) (⟨0,_,rfl,rfl,Ya⟩) ?_;rintro m _ ⟨i,v,rfl,rfl,hi⟩;refine Z10 ?_;refine cd (λh0=>?_) λh0=>?_
 ·have hil:i<p.classes.length:=by omega
  have hcc:=hc _ (getD_memB hil);refine Z12 ?_;refine oP (POp.appendI rfl rfl rfl AVle.nil0 rfl rfl (AVle.refl _) (one_ints _) Yaa Yaa) ?_;refine OL.popC (x:=.sl 1 [[AV.ints (p.classes.getD i default).parents]]) rfl rfl rfl (POp.row rfl rfl Yh rfl rfl rfl rfl rfl rfl) ?_;refine OL.appendC rfl rfl rfl rfl rfl rfl rfl rfl (AVle.refl _) (rfl) (λv=>by repeat (first | exact Upd.head _ _ _ | apply Upd.tail)) Yk Yk (λv21=>?_);refine Z9 ?_;exact ag (⟨i+1,v21,by rw[intss_snoc hil],rfl,hil⟩)
 ·obtain rfl:i=p.classes.length:=by omega
  rw[List.take_length];refine Z12 ?_;refine Done.retR (rs:=[.tmp 2]) (H':=H) rfl (.tmp rfl (.nil)) (.cons (AVle.asL _ _) .nil) Yc ?_;exact⟨YaI,rfl⟩
theorem rWorld(p:Prog)(hs:p.classes.length<=1000)(hc:∀c∈p.classes,c.parents.length<=4000000/\c.slots.length<=1000):PCall Tryz.prog 109 [AV.prog p] (AV.world (worldOf p)):=by
 intro H;refine aC (n:=35) Tryz.func109 λB I w0=>?_;refine Z3 ?_;refine OL.alC rfl rfl rfl rfl (λrb=>?_);refine Z5 ?_;refine oP (POp.call .k (rGraph p Ya (λc h=>(hc c h).1))) ?_;refine Z1 ?_;refine OL.alC rfl rfl rfl rfl (λwb=>?_);refine Z5 ?_;refine CW.ownNilB (b:=wb) (t:=151) 3 1 1 YC rfl rfl ?_;refine Z5 ?_;refine lj (λm st=>∃(i:Nat) (v:Value),st=⟨[(4,.i i),(1,.ptr (progC p)),(3,.p wb 0),(2,.p rb 0)],.own 3 1 v::.blk wb 151 [AV.intss (graphP p),.as (AV.ints (ownT p.classes i 0)) v]::.blk rb 151 [.val (.slice none 0 0),.val (.slice none 0 0)]::H⟩/\m=p.classes.length - i/\i<=p.classes.length) (⟨0,_,rfl,rfl,Ya⟩) ?_;rintro m _ ⟨i,v,rfl,rfl,hi⟩;refine Z10 ?_;refine cd (λh0=>?_) λh0=>?_
 ·have hil:i<p.classes.length:=by omega
  have hcc:=hc _ (getD_memB hil);refine Z10 ?_;refine lj (λm st=>∃(k:Nat) (v:Value),st=⟨[(5,.i k),(4,.i i),(1,.ptr (progC p)),(3,.p wb 0),(2,.p rb 0)],.own 3 1 v::.blk wb 151 [AV.intss (graphP p),.as (AV.ints (ownT p.classes i k)) v]::.blk rb 151 [.val (.slice none 0 0),.val (.slice none 0 0)]::H⟩/\m=(p.classes.getD i default).slots.length - k/\k<=(p.classes.getD i default).slots.length) (⟨0,_,rfl,rfl,Ya⟩) ?_;rintro m _ ⟨k,v,rfl,rfl,hk⟩;refine Z14 ?_;refine cd (λh1=>?_) λh1=>?_
  ·have hkl:k<(p.classes.getD i default).slots.length:=by omega
   refine Z9 ?_;refine OL.popC (x:=.sl 1 [[.i ((i:Int)+3)]]) rfl rfl rfl (POp.row rfl rfl Yh rfl rfl rfl rfl rfl rfl) ?_;refine OL.appendC rfl rfl rfl rfl rfl rfl rfl rfl (AVle.refl _) (rfl) (λv=>by repeat (first | exact Upd.head _ _ _ | apply Upd.tail)) Yx Yx (λv32=>?_);refine Z10 ?_;exact ag (⟨k+1,v32,by rw[ownT_snoc],rfl,hkl⟩)
  ·obtain rfl:k=(p.classes.getD i default).slots.length:=by omega
   refine Z11 ?_;exact ag (⟨i+1,v,by rw[ownT_next hil],rfl,hil⟩)
 ·obtain rfl:i=p.classes.length:=by omega
  rw[ownT_all];refine Z12 ?_;refine Done.retR (rs:=[.cell 2 151]) (H':=H) rfl (Ym) (.cons (AVle.agg (.cons (.refl _) (.cons (AVle.asL _ _) .nil))) .nil) Yc ?_;exact⟨Yg,rfl⟩
theorem rIn(n:Int):PCall Tryz.prog 236 [.i n] (.b (inP n)):=by
 intro H;refine aC (n:=9) Tryz.func236 λB I w0=>?_;refine Z17 ?_;refine r1 2 (H) ?_;exact⟨retB (by rw[inP,Bool.cond_false_right]),rfl⟩
theorem rKids(p:Prog)(x:Nd):PCall Tryz.prog 231 [AV.prog p,AV.nd x] (.i (kidsR p x)):=by
 intro H;refine aC (n:=47) Tryz.func231 λB I w0=>?_;refine Z22 ?_;refine cd (λh0=>?_) λh0=>?_
 ·refine Z2 ?_;refine CW.cond rfl (λh1=>?_) (λh1=>?_)
  ·replace h1:=nm h1;refine Z8 ?_;refine r1 4 (H) ?_;exact⟨retI Ys,rfl⟩
  ·simp_all
 ·refine Z6 ?_;refine cd (λh2=>?_) λh2=>?_
  ·refine Z2 ?_;refine CW.cond rfl (λh3=>?_) (λh3=>?_)
   ·replace h3:=nm h3;refine Z8 ?_;refine r1 4 (H) ?_;exact⟨retI Ys,rfl⟩
   ·simp_all
  ·refine Z6 ?_;refine cd (λh4=>?_) λh4=>?_
   ·refine Z2 ?_;refine CW.cond rfl (λh5=>?_) (λh5=>?_)
    ·replace h5:=nm h5;refine Z8 ?_;refine r1 4 (H) ?_;exact⟨retI Ys,rfl⟩
    ·simp_all
   ·refine Z6 ?_;refine cd (λh6=>?_) λh6=>?_
    ·refine Z2 ?_;refine CW.cond rfl (λh7=>?_) (λh7=>?_)
     ·replace h7:=nm h7;refine Z8 ?_;refine r1 4 (H) ?_;exact⟨retI Ys,rfl⟩
     ·simp_all
    ·refine Z5 ?_;refine cd (λh8=>?_) λh8=>?_
     ·refine Z8 ?_;refine r1 4 (H) ?_;exact⟨retI Ys,rfl⟩
     ·refine Z7 ?_;refine cd (λh9=>?_) λh9=>?_
      ·refine Z2 ?_;refine CW.cond rfl (λh10=>?_) (λh10=>?_)
       ·replace h10:=nm h10;refine Z8 ?_;refine r1 4 (H) ?_;exact⟨retI Ys,rfl⟩
       ·simp_all
      ·refine Z6 ?_;refine cd (λh11=>?_) λh11=>?_
       ·refine Z2 ?_;refine CW.cond rfl (λh12=>?_) (λh12=>?_)
        ·replace h12:=nm h12;refine Z8 ?_;refine r1 4 (H) ?_;exact⟨retI Ys,rfl⟩
        ·simp_all
       ·refine Z5 ?_;refine cd (λh13=>?_) λh13=>?_
        ·refine Z8 ?_;refine r1 4 (H) ?_;exact⟨retI Ys,rfl⟩
        ·refine Z7 ?_;refine cd (λh14=>?_) λh14=>?_
         ·refine Z2 ?_;refine CW.cond rfl (λh15=>?_) (λh15=>?_)
          ·replace h15:=nm h15;refine Z8 ?_;refine r1 4 (H) ?_;exact⟨retI Ys,rfl⟩
          ·simp_all
         ·refine Z6 ?_;refine cd (λh16=>?_) λh16=>?_
          ·refine Z2 ?_;refine CW.cond rfl (λh17=>?_) (λh17=>?_)
           ·replace h17:=nm h17;refine Z8 ?_;refine r1 4 (H) ?_;exact⟨retI Ys,rfl⟩
           ·simp_all
          ·refine Z6 ?_;refine cd (λh18=>?_) λh18=>?_
           ·refine Z2 ?_;refine CW.cond rfl (λh19=>?_) (λh19=>?_)
            ·replace h19:=nm h19;refine Z8 ?_;refine r1 4 (H) ?_;exact⟨retI Ys,rfl⟩
            ·simp_all
           ·refine Z6 ?_;refine cd (λh20=>?_) λh20=>?_
            ·refine Z2 ?_;refine CW.cond rfl (λh21=>?_) (λh21=>?_)
             ·replace h21:=nm h21;refine Z8 ?_;refine r1 4 (H) ?_;exact⟨retI Ys,rfl⟩
             ·simp_all
            ·refine Z6 ?_;refine cd (λh22=>?_) λh22=>?_
             ·refine Z2 ?_;refine CW.cond rfl (λh23=>?_) (λh23=>?_)
              ·replace h23:=nm h23;refine Z8 ?_;refine r1 4 (H) ?_;exact⟨retI Ys,rfl⟩
              ·simp_all
             ·refine Z6 ?_;refine cd (λh24=>?_) λh24=>?_
              ·refine Z2 ?_;refine CW.cond rfl (λh25=>?_) (λh25=>?_)
               ·replace h25:=nm h25;refine Z8 ?_;refine r1 4 (H) ?_;exact⟨retI Ys,rfl⟩
               ·simp_all
              ·refine Z6 ?_;refine cd (λh26=>?_) λh26=>?_
               ·refine Z2 ?_;refine CW.cond rfl (λh27=>?_) (λh27=>?_)
                ·replace h27:=nm h27;refine Z8 ?_;refine r1 4 (H) ?_;exact⟨retI Ys,rfl⟩
                ·simp_all
               ·refine Z5 ?_;refine cd (λh28=>?_) λh28=>?_
                ·refine Z8 ?_;refine r1 4 (H) ?_;exact⟨retI Ys,rfl⟩
                ·refine Z6 ?_;refine cd (λh29=>?_) λh29=>?_
                 ·refine Z8 ?_;refine r1 4 (H) ?_;exact⟨retI Ys,rfl⟩
                 ·refine Z6 ?_;refine cd (λh30=>?_) λh30=>?_
                  ·refine Z15 ?_;refine CW.cond rfl (λh31=>?_) (λh31=>?_)
                   ·refine Z6 ?_;refine oP ((by first | exact POp.ixM rfl rfl rfl rfl rfl Ya0 | exact POp.ixI rfl rfl rfl rfl rfl Ya0)) ?_;refine Z7 ?_;refine r1 4 (H) ?_;exact⟨retI Ys,rfl⟩
                   ·have h31: ¬(0<=x.n/\x.n<p.gens.length):=by
                     simp only[Bool.cond_false_right,Bool.and_eq_false_iff,decide_eq_false_iff_not] at h31;omega
                    refine Z9 ?_;refine r1 4 (H) ?_;exact⟨retI Ys,rfl⟩
                  ·refine Z9 ?_;refine r1 4 (H) ?_;exact⟨retI Ys,rfl⟩
theorem rNumber(p:Prog)(hs:p.classes.length<=4000000)(x:Nd)(sz:Int):PCall Tryz.prog 241 [AV.prog p,AV.nd x,.i sz] (.b (numP p x sz)):=by
 intro H;refine aC (n:=69) Tryz.func241 λB I w0=>?_;refine Z21 ?_;refine cd (λh0=>?_) λh0=>?_
 ·refine Z4 ?_;refine oP (POp.call .k (rIn x.n)) ?_;refine Z6 ?_;refine r1 6 (H) ?_;exact⟨retB YaP,rfl⟩
 ·refine Z6 ?_;refine cd (λh1=>?_) λh1=>?_
  ·refine Z17 ?_;refine r1 6 (H) ?_;exact⟨retB YaP,rfl⟩
  ·refine Z7 ?_;refine cd (λh2=>?_) λh2=>?_
   ·refine Z2 ?_;refine CW.cond rfl (λh3=>?_) (λh3=>?_)
    ·replace h3:=nm h3;refine Z18 ?_;refine r1 6 (H) ?_;exact⟨retB YaP,rfl⟩
    ·simp_all
   ·refine Z5 ?_;refine cd (λh4=>?_) λh4=>?_
    ·refine Z18 ?_;refine r1 6 (H) ?_;exact⟨retB YaP,rfl⟩
    ·refine Z6 ?_;refine cd (λh5=>?_) λh5=>?_
     ·refine Z19 ?_;refine r1 6 (H) ?_;exact⟨retB YaP,rfl⟩
     ·refine Z7 ?_;refine cd (λh6=>?_) λh6=>?_
      ·refine Z2 ?_;refine CW.cond rfl (λh7=>?_) (λh7=>?_)
       ·replace h7:=nm h7;refine Z20 ?_;refine r1 6 (H) ?_;exact⟨retB YaP,rfl⟩
       ·simp_all
      ·refine Z5 ?_;refine cd (λh8=>?_) λh8=>?_
       ·refine Z20 ?_;refine r1 6 (H) ?_;exact⟨retB YaP,rfl⟩
       ·refine Z12 ?_;refine r1 6 (H) ?_;exact⟨retB (by unfold numP mostP;simp_all;rw[Bool.eq_iff_iff];simp;omega),rfl⟩
theorem rNext(k:Int):PCall Tryz.prog 217 [.i k] (.b (k==1 || k==4)):=by
 intro H;refine aC (n:=9) Tryz.func217 λB I w0=>?_;refine Z17 ?_;refine r1 2 (H) ?_;exact⟨retB (by rw[Bool.cond_true_left]),rfl⟩
section
open Go.Shelf Go.Sort
def ren189:Ren:={f:=λx=>match x with | 125=>233 | 128=>261 | 129=>262 | 189=>211 | 215=>284 | 216=>258 | 257=>232 | 294=>252 | 295=>253 | 296=>254 | 297=>255 | 298=>256 | 299=>257 | 300=>259 | 301=>260 | 328=>279 | 329=>280 | 330=>281 | 331=>282 | 332=>283 | 343=>298 | n=>n,t:=λx=>match x with | 0=>0 | 3=>3 | 4=>4 | 5=>5 | 9=>9 | 28=>23 | 46=>212 | 51=>279 | 53=>282 | 131=>244 | 182=>288 | 183=>289 | 218=>314 | 222=>220 | 228=>325 | 229=>326 | n=>n,g:=λx=>x}
theorem lays189:Lays.n189 Tryz.prog ren189 where
 mixed:=by kernel_rfl
 f125:=Tryz.func233.trans (congrArg some Yf)
 f128:=Tryz.func261.trans (congrArg some Yf)
 f129:=Tryz.func262.trans (congrArg some Yf)
 f189:=Tryz.func211.trans (congrArg some Yf)
 f215:=Tryz.func284.trans (congrArg some Yf)
 f216:=Tryz.func258.trans (congrArg some Yf)
 f257:=Tryz.func232.trans (congrArg some Yf)
 f294:=Tryz.func252.trans (congrArg some Yf)
 f295:=Tryz.func253.trans (congrArg some Yf)
 f296:=Tryz.func254.trans (congrArg some Yf)
 f297:=Tryz.func255.trans (congrArg some Yf)
 f298:=Tryz.func256.trans (congrArg some Yf)
 f299:=Tryz.func257.trans (congrArg some Yf)
 f300:=Tryz.func259.trans (congrArg some Yf)
 f301:=Tryz.func260.trans (congrArg some Yf)
 f328:=Tryz.func279.trans (congrArg some Yf)
 f329:=Tryz.func280.trans (congrArg some Yf)
 f330:=Tryz.func281.trans (congrArg some Yf)
 f331:=Tryz.func282.trans (congrArg some Yf)
 f332:=Tryz.func283.trans (congrArg some Yf)
 f343:=Tryz.func298.trans (congrArg some Yf)
 t0:=Tryz.underlying0
 a0:=Tryz.isAgg0
 z0:=Tryz.sizeOf0
 v0:=Tryz.zeroValue0
 t3:=Tryz.underlying3
 a3:=Tryz.isAgg3
 z3:=Tryz.sizeOf3
 v3:=Tryz.zeroValue3
 t4:=Tryz.underlying4
 a4:=Tryz.isAgg4
 z4:=Tryz.sizeOf4
 v4:=Tryz.zeroValue4
 t5:=Tryz.underlying5
 a5:=Tryz.isAgg5
 z5:=Tryz.sizeOf5
 v5:=Tryz.zeroValue5
 t9:=Tryz.underlying9
 a9:=Tryz.isAgg9
 z9:=Tryz.sizeOf9
 v9:=Tryz.zeroValue9
 t28:=Tryz.underlying23
 a28:=Tryz.isAgg23
 z28:=Tryz.sizeOf23
 v28:=Tryz.zeroValue23
 t46:=Tryz.underlying212
 a46:=Tryz.isAgg212
 z46:=Tryz.sizeOf212
 v46:=Tryz.zeroValue212
 t51:=Tryz.underlying279
 a51:=Tryz.isAgg279
 z51:=Tryz.sizeOf279
 v51:=Tryz.zeroValue279
 t53:=Tryz.underlying282
 a53:=Tryz.isAgg282
 z53:=Tryz.sizeOf282
 v53:=Tryz.zeroValue282
 t131:=Tryz.underlying244
 a131:=Tryz.isAgg244
 z131:=Tryz.sizeOf244
 v131:=Tryz.zeroValue244
 t182:=Tryz.underlying288
 a182:=Tryz.isAgg288
 z182:=Tryz.sizeOf288
 v182:=Tryz.zeroValue288
 t183:=Tryz.underlying289
 a183:=Tryz.isAgg289
 z183:=Tryz.sizeOf289
 v183:=Tryz.zeroValue289
 t218:=Tryz.underlying314
 a218:=Tryz.isAgg314
 z218:=Tryz.sizeOf314
 v218:=Tryz.zeroValue314
 t222:=Tryz.underlying220
 a222:=Tryz.isAgg220
 z222:=Tryz.sizeOf220
 v222:=Tryz.zeroValue220
 t228:=Tryz.underlying325
 a228:=Tryz.isAgg325
 z228:=Tryz.sizeOf325
 v228:=Tryz.zeroValue325
 t229:=Tryz.underlying326
 a229:=Tryz.isAgg326
 z229:=Tryz.sizeOf326
 v229:=Tryz.zeroValue326
theorem intEls_flat(l:List Int):(intEls l).flatten=(l.map (Value.int .i64)).map .val:=by
 induction l with
 | nil=>rfl
 | cons x r ih=>simp only[intEls,List.map_cons,List.flatten_cons] at ih ⊢;rw[ih];rfl
theorem sortC(B:Nat)(v:Value)(l:List Int)(hl:l.length<=1000000)(Hx:List Ent):BCall B Tryz.prog 211 [.val v] (rowE v l::Hx) (λy H'=>y= .tup []/\H'=rowE v (sortI l)::Hx) (λ_ _=>False):=by
 refine⟨Yf,λI w vs hw hh hv=>?_⟩;obtain⟨u,rfl⟩:∃u,vs= [u]:=by cases hv with | cons _ u _ _ _ ht=>cases ht;exact⟨u,rfl⟩
 have hu:u=v:=by cases hv with | cons _ u _ _ hx _=>exact rel_val hx
 subst hu;obtain⟨xs,hrow,hrx,hni⟩:=hh.ok _ (.head _);have hxs:xs=l.map (Value.int .i64):=by
  rw[intEls_flat] at hrx;exact rel_vals hrx
 subst hxs;rcases hrow.2 with⟨rfl,hn⟩ | ⟨g,cap,cur,rfl,hBg,hg,hnc,hcm,hcs,htk⟩
 ·have:l= []:=by cases l with | nil=>rfl | cons x r=>simp[intEls] at hn
  subst this;refine (Any.slices_Sort_int_none lays189 none 0 w).mono λe w' ⟨he,hw'⟩=>?_;subst hw';exact⟨I,_,hw,Ext.refl _ _ _,hh,.inl ⟨_,_,he,.tup _ _ .nil,rfl,by simp[sortI]⟩⟩
 ·have hlen:(intEls l).length=l.length:=by simp[intEls]
  rw[hlen] at hnc htk;rw[Nat.mul_one] at htk;have hlen2:(sortI l).length=l.length:=List.length_mergeSort _;refine ((hlen▸Any.slices_Sort_int lays189 g 0 cap l w (holds_of_blockI hg htk) (Array.getElem?_eq_some_iff.1 hg).1 Ya:Calls Tryz.prog 211 #[.slice (some ⟨g,0,none⟩) (intEls l).length cap] w _)).mono λe w' ⟨he,n,os,hw'⟩=>?_;have e3:w.grownBy w' (some g):=by subst hw';exact grownBy_sortedI _
  have e2:w'.ownsRow B 3 1 (.slice (some ⟨g,0,none⟩) l.length cap) l.length ((sortI l).map (Value.int .i64)):=by
   subst hw';exact ownsRow_sortedI (ss:=l) hlen2 hBg hg hnc hcm hcs
  have hbel:Go.RowKit.Below B w w':=(Go.RowKit.Below.refl B w).grown e3 hw.base (λj hj=>by cases hj;exact hBg);have hcell:∀b i,I b i->w'.cell? ⟨b,i,none⟩=w.cell? ⟨b,i,none⟩:=λb i hI=>
   World.cell?_of_block (a:=⟨b,i,none⟩) (e3.block b (hw.lt hI) (λe=>by cases e;exact hni _ rfl i hI))
  have hkk:Keeps I w I w':=⟨λ_ _ x=>x,hcell⟩;refine⟨I,rowE (.slice (some ⟨g,0,none⟩) (intEls l).length cap) (sortI l)::Hx,⟨Nat.le_trans hw.base hbel.size,λb o hI=>by rw[hcell b o hI];exact hw.there b o hI⟩,⟨hkk.imm,hkk.cell,hbel⟩,?_,.inl ⟨_,_,he,.tup _ _ .nil,rfl,rfl⟩⟩;refine hh.upd (.head _ _ _) hkk (λb hlt hne=>e3.block b hlt (λe=>hne (by cases e;rfl))) (λb o hx=>.inl hx) ⟨(sortI l).map (Value.int .i64),?_,?_,hni⟩ (λb hb=>.inl hb)
  ·rw[hlen,show (intEls (sortI l)).length=l.length by simp[intEls,hlen2]];exact e2
  ·rw[intEls_flat];exact relL_val _
end
instance:HasMapI Tryz.prog 245 (3,4):=⟨Yf,Yf⟩
instance:HasZ Tryz.prog 4 (.bool false):=⟨Yf⟩
theorem hasC(p:Prog)(hc:p.classes.length<=100)(hsl:∀c∈p.classes,c.slots.length<=1000)(hpa:∀c∈p.classes,∀x∈c.parents,smallKey x){k:Int}(hk:smallKey k)(hk2:k<3+p.classes.length):PCall Tryz.prog 173 [AV.prog p,.i k] (AV.ints (hasP p k)):=by
 intro H;refine aC (n:=49) Tryz.func173 λB I w0=>?_;refine Z8 ?_;refine OL.mkMap rfl rfl rfl rfl (λmb=>?_);refine Z1 ?_;refine OL.mapPut (l:=[]) (u':=.b true) rfl rfl (.inr rfl) rfl rfl rfl rfl rfl rfl (AVle.refl _) (.head _ _ _) .nil hk ?_;refine Z17 ?_;refine CW.rowNil 3 1 ?_;have hk1: -9223372036854775808<=k:=hk.1;refine lj (λm st=>∃(c:Int) (out:List Int) (v:Value) (l:List (Int×AV)) (S:List Int),st=⟨[(7,.i c),(6,.val v),(5,.val (.map (some mb))),(2,.ptr (progC p))],rowE v out::imapE mb l::H⟩/\m=(c - 2).toNat/\(c<=k/\(c=k\/2<=c))/\MapSet l S/\hasN p (c - 2).toNat S out=hasN p (k - 2).toNat [k] []/\out.length+1000*(c - 2).toNat<=1000*(k - 2).toNat) (⟨k,[],_,_,[k],rfl,rfl,⟨Int.le_refl _,.inl rfl⟩,MapSet.nil.put hk,rfl,Yr⟩) ?_;rintro m _ ⟨c,out,v,l,S,rfl,rfl,hck,hS,hN,hlen⟩;refine Z7 ?_;refine cd (λh0=>?_) λh0=>?_
 ·have hc3:3<=c:=by omega
  obtain⟨n,hn⟩:∃n:Nat,c=n+3:=⟨(c - 3).toNat,Ya⟩;have hil:(c - 3).toNat<p.classes.length:=by omega
  have hsl1:=hsl _ (getD_memB hil);have hpa1:=hpa _ (getD_memB hil);refine Z8 ?_;refine oP (POp.lookupI rfl rfl rfl rfl rfl (.tail _ (.head _)) hS.ok Yax) ?_;refine Z2 ?_;refine CW.le 20 (y:=.b (S.contains c)) rfl (hS.look c) ?_;refine cd (λh1=>?_) λh1=>?_
  ·refine Z10 ?_;refine OL.appendRowAny (intEls (p.classes.getD (c - 3).toNat default).slots) rfl rfl rfl rfl rfl rfl rfl rfl (AVle.refl _) (one_ints _) (λv=>.head _ _ _) (by simp only[intEls_len];omega) (by simp only[intEls_len];omega) (λv29=>?_);refine Z4 ?_;refine CW.eqH (H':=rowE v29 (out++(p.classes.getD (c - 3).toNat default).slots)::imapE mb l::H) (congrArg (· ::_) (rowE_append _ _ _)) ?_;refine Z13 ?_;refine CW.boundM (t:=36) rfl (λhb36=>?_);refine lj (λm st=>∃(j:Nat) (l':List (Int×AV)),st=⟨[(38,.i j),(37,.i (p.classes.getD (c - 3).toNat default).parents.length),(36,AV.ints (p.classes.getD (c - 3).toNat default).parents),(7,.i c),(6,.val v29),(5,.val (.map (some mb))),(2,.ptr (progC p))],rowE v29 (out++(p.classes.getD (c - 3).toNat default).slots)::imapE mb l'::H⟩/\m=(p.classes.getD (c - 3).toNat default).parents.length - j/\j<=(p.classes.getD (c - 3).toNat default).parents.length/\MapSet l' (S++(p.classes.getD (c - 3).toNat default).parents.take j)) (⟨0,l,rfl,rfl,Ya,by simpa using hS⟩) ?_;rintro m _ ⟨j,l',rfl,rfl,hj,hS'⟩;refine Z6 ?_;refine cd (λh2=>?_) λh2=>?_
   ·have hjl:j<(p.classes.getD (c - 3).toNat default).parents.length:=by omega
    refine Z14 ?_;refine OL.mapPut (u':=.b true) rfl rfl (.inl rfl) rfl rfl rfl rfl rfl rfl (AVle.refl _) (.tail _ _ _ _ _ (.head _ _ _)) hS'.ok (hpa1 _ (getD_memB hjl)) ?_;refine Z7 ?_;exact ag (⟨j+1,_,rfl,rfl,hjl,by rw[<-take_getD hjl, <-List.append_assoc];exact hS'.put (hpa1 _ (getD_memB hjl))⟩)
   ·obtain rfl:j=(p.classes.getD (c - 3).toNat default).parents.length:=by omega
    rw[List.take_length] at hS';refine Z11 ?_;exact ag (⟨c - 1,out++(p.classes.getD (c - 3).toNat default).slots,v29,l',S++(p.classes.getD (c - 3).toNat default).parents,rfl,rfl,⟨Ya,.inr Ya⟩,hS',by rw[<-hN,hasN_in hn h1],Yaf⟩)
  ·refine Z8 ?_;exact ag (⟨c - 1,out,v,l,S,rfl,rfl,⟨Ya,.inr Ya⟩,hS,by rw[<-hN,hasN_out hn h1],Ya⟩)
 ·have hc3:c<=2:=by omega
  rw[show (c - 2).toNat=0 by omega] at hN;have hout:out=hasN p (k - 2).toNat [k] []:=hN;refine Z8 ?_;refine bC .k (sortC B v out Ya _) ?_;rintro y H1 ⟨rfl,rfl⟩;refine Z3 ?_;refine CW.freezeRow (d:=6) (els:=intEls (sortI out)) rfl (.head _ _) (λe he=>by obtain⟨y,_,rfl⟩:=List.mem_map.1 he;rfl) ?_;refine Z2 ?_;refine oP (POp.call .k (clipI _)) ?_;refine Z4 ?_;refine r1 4 (H) ?_;exact⟨by rw[hout];rfl,rfl⟩
theorem classesC(hp:p.Small)(H:List Ent):ACall Tryz.prog 194 [AV.prog p] H (λ_ H'=>classesP p=true/\H'=H) (λy H'=>y=unfA/\classesP p=false/\H'=H):=by
 refine aC (n:=112) Tryz.func194 λB I w0=>?_;have hpc:=hp.classes;have hpp:=hp.parents;refine Z11 ?_;rcases bool_or (decide (p.classes.length<=10)) with hlen | hlen
 ·refine OL.rcallN rfl rfl (.mk' rfl rfl rfl rfl rfl) (needF (by rw[<-hlen];by_cases h:p.classes.length<=10 <;> simp[h] <;> omega) _) unf_c ?_;intro a w s;exact outP (P:=Tryz.prog) (fn:=Tryz.f194) unf_c Yc ⟨rfl,cls_no1 hlen,rfl⟩ a w s
 ·refine OL.rcallS rfl rfl rfl (.mk' rfl rfl rfl rfl rfl) (needT (by simp at hlen;simp;omega) _) ?_;have hlen:=of_decide_eq_true hlen;refine Z17 ?_;refine lj (λm st=>∃i:Nat,st=⟨[(24,.i i),(23,.i p.classes.length),(22,.sl 3 (p.classes.map clsA)),(2,.i (slotsCnt (p.classes.take i))),(1,.ptr (progC p))],H⟩/\m=p.classes.length - i/\i<=p.classes.length/\slotsA (p.classes.take i) 0=true) (⟨0,rfl,rfl,Ya,rfl⟩) ?_;rintro m _ ⟨i,rfl,rfl,hi,hA⟩;refine Z6 ?_;refine cd (λh0=>?_) λh0=>?_
  ·have hil:i<p.classes.length:=by omega
   have hcm:=getD_memB hil;have hcnt:=slotsA_cnt _ _ hA;rw[List.length_take] at hcnt;refine Z8 ?_;refine OL.alC rfl rfl rfl rfl (λb0=>?_);refine Z9 ?_;rcases bool_or (decide ((p.classes.getD i default).slots.length<=4)) with h4 | h4
   ·refine OL.rcallN rfl rfl (.mk' rfl rfl rfl rfl rfl) (needF (by simp at h4;simp;omega) _) unf_c ?_;intro a w s;exact outP (P:=Tryz.prog) (fn:=Tryz.f194) unf_c Yc ⟨rfl,cls_no2 hil (by rw[h4];rfl),rfl⟩ a w s
   ·refine OL.rcallS rfl rfl rfl (.mk' rfl rfl rfl rfl rfl) (needT (by simp at h4;simp;omega) _) ?_;refine Z11 ?_;refine CW.boundM (t:=34) rfl (λhb34=>?_);have h44:=of_decide_eq_true h4;refine lj (λm st=>∃j:Nat,st=⟨[(36,.i j),(35,.i (p.classes.getD i default).slots.length),(34,AV.ints (p.classes.getD i default).slots),(24,.i i),(23,.i p.classes.length),(22,.sl 3 (p.classes.map clsA)),(2,.i ((slotsCnt (p.classes.take i))+j:Nat)),(1,.ptr (progC p))],H⟩/\m=(p.classes.getD i default).slots.length - j/\j<=(p.classes.getD i default).slots.length/\slots1 ((p.classes.getD i default).slots.take j) (slotsCnt (p.classes.take i))=true) (⟨0,rfl,rfl,Ya,rfl⟩) ?_;rintro m _ ⟨j,rfl,rfl,hj,hs1⟩;refine Z6 ?_;refine cd (λh1=>?_) λh1=>?_
    ·have hjl:j<(p.classes.getD i default).slots.length:=by omega
     refine Z16 ?_;rcases bool_or (((p.classes.getD i default).slots.getD j default==(((slotsCnt (p.classes.take i))+j:Nat):Int))) with he | he
     ·refine OL.rcallN rfl rfl (.mk' rfl rfl rfl rfl rfl) (needF (he) _) unf_c ?_;intro a w s;exact outP (P:=Tryz.prog) (fn:=Tryz.f194) unf_c Yc ⟨rfl,cls_no3 hil hjl he,rfl⟩ a w s
     ·refine OL.rcallS rfl rfl rfl (.mk' rfl rfl rfl rfl rfl) (needT (he) _) ?_;refine Z13 ?_;exact ag (⟨j+1,YaI,rfl,hjl,by rw[slots1_take _ _ _ hjl,hs1,he];rfl⟩)
    ·obtain rfl:j=(p.classes.getD i default).slots.length:=by omega
     rw[List.take_length] at hs1;refine Z10 ?_;exact ag (⟨i+1,by rw[slotsCnt_take hil],rfl,hil,by rw[slotsA_take _ _ _ hil,hA,h4,Nat.zero_add,hs1];rfl⟩)
  ·obtain rfl:i=p.classes.length:=by omega
   rw[List.take_length] at hA ⊢;refine Z8 ?_;refine oP (POp.call .k (graph p Ya hpp)) ?_;refine Z11 ?_;refine OL.guardC rfl rfl rfl rfl rfl rfl (λhg=>POp.call (.mk' rfl rfl rfl rfl Yd) (lineCheck (graphP p))) ?_;refine Z2 ?_;rcases bool_or ((((slotsCnt p.classes:Int)==p.slots) && fineP (graphP p))) with hf | hf
   ·refine OL.rcallN rfl rfl (.mk' rfl rfl rfl rfl rfl) (needF YaS _) unf_c ?_;intro a w s;exact outP (P:=Tryz.prog) (fn:=Tryz.f194) unf_c Yc ⟨rfl,cls_no4 hf,rfl⟩ a w s
   ·refine OL.rcallS rfl rfl rfl (.mk' rfl rfl rfl rfl rfl) (needT YaS _) ?_;rw[Bool.and_eq_true] at hf;obtain⟨hf1,hfine⟩:=hf;obtain⟨_,hpk⟩:=graph_fine hfine;have hsm:=slotsA_mem _ _ hA;have hgl:(graphP p).length=p.classes.length:=by simp[graphP]
    refine Z11 ?_;refine lj (λm st=>∃i:Nat,st=⟨[(63,.i i),(62,.i p.classes.length),(61,.sl 3 (p.classes.map clsA)),(7,AV.intss (graphP p)),(1,.ptr (progC p))],H⟩/\m=p.classes.length - i/\i<=p.classes.length/\(List.range i).all (clsOk p)=true) (⟨0,rfl,rfl,Ya,rfl⟩) ?_;rintro m _ ⟨i,rfl,rfl,hi,hR⟩;refine Z6 ?_;refine cd (λh2=>?_) λh2=>?_
    ·have hil:i<p.classes.length:=by omega
     have hcm:=getD_memB hil;refine Z9 ?_;refine OL.alC rfl rfl rfl rfl (λcb=>?_);refine Z9 ?_;refine oP (POp.call .k (linT hfine (c:=(i:Int)+3) Ya)) ?_;refine Z11 ?_;rcases bool_or ((linP (graphP p) ((i:Int)+3)).isEmpty) with hl | hl
     ·refine OL.rcallS rfl rfl rfl (.mk' rfl rfl rfl rfl rfl) (needT (by rw[hl];rfl) _) ?_;refine Z7 ?_;refine oP (POp.call .k (hasC p Ya (λc h=>by have:=(hsm c h).1;omega) hpk (k:=(i:Int)+3) Yax Ya)) ?_;refine OL.mkMap rfl rfl rfl rfl (λmb=>?_);refine Z13 ?_;refine CW.subH (H':=imapE mb []::H) (.cons_cons _ (.cons _ (.refl _))) ?_;obtain⟨mine,hmine⟩:∃mine,mine=hasP p ((i:Int)+3):=⟨_,rfl⟩;rw[<-hmine];refine CW.boundM (t:=84) rfl (λhb84=>?_);refine lj (λm st=>∃(j:Nat) (l:List (Int×AV)),st=⟨[(86,.i j),(85,.i (p.classes.getD i default).inits.length),(84,.sl 2 ((p.classes.getD i default).inits.map initA)),(12,AV.ints mine),(13,.val (.map (some mb))),(63,.i i),(62,.i p.classes.length),(61,.sl 3 (p.classes.map clsA)),(7,AV.intss (graphP p)),(1,.ptr (progC p))],imapE mb l::H⟩/\m=(p.classes.getD i default).inits.length - j/\j<=(p.classes.getD i default).inits.length/\MapSet l (((p.classes.getD i default).inits.take j).map (·.1))/\inits1 mine ((p.classes.getD i default).inits.take j) []=true) (⟨0,[],rfl,rfl,Ya,MapSet.nil,rfl⟩) ?_;rintro m _ ⟨j,l,rfl,rfl,hj,hS,hin⟩;refine Z6 ?_;refine cd (λh3=>?_) λh3=>?_
      ·have hjl:j<(p.classes.getD i default).inits.length:=by omega
       obtain⟨X,hX⟩:∃X,X=(p.classes.getD i default).inits.getD j default:=⟨_,rfl⟩;have hsx:mine.contains X.1=true->smallKey X.1:=λh=>by
        rw[hmine] at h;obtain⟨c,h1,h2⟩:=hasP_mem (List.contains_iff_mem.1 h);have:=(hsm c h1).2 _ h2;unfold smallKey;omega
       refine Z8 ?_;refine OL.alC rfl rfl rfl rfl (λib=>?_);refine Z4 ?_;rw[<-hX];refine Z4 ?_;refine oP (POp.call .k (sContains mine X.1)) ?_;refine Z4 ?_;refine OL.guardC rfl rfl rfl rfl rfl rfl (λhg=>POp.lookupS rfl rfl (gd hg) rfl (gd hg) (.tail _ (.head _)) hS (hsx hg)) ?_;refine Z5 ?_;refine OL.guardC rfl rfl rfl rfl rfl rfl (λhg=>POp.call (.mk' rfl rfl rfl rfl Yd) (between X.2)) ?_;refine Z1 ?_;rcases bool_or ((mine.contains X.1 && !(((p.classes.getD i default).inits.take j).map (·.1)).contains X.1 && inP X.2)) with hb | hb
       ·refine OL.rcallN rfl rfl (.mk' rfl rfl rfl rfl rfl) (needF (by simp only[Bool.cond_false_right];exact hb) _) unf_c ?_;intro a w s;exact outP (P:=Tryz.prog) (fn:=Tryz.f194) unf_c Yc ⟨rfl,cls_no5 hil (by rw[hmine] at hb;exact cls_in hjl (by rw[<-hX];exact hb)),rfl⟩ a w s
       ·refine OL.rcallS rfl rfl rfl (.mk' rfl rfl rfl rfl rfl) (needT (by simp only[Bool.cond_false_right];exact hb) _) ?_;have hcx:mine.contains X.1=true:=by simp only[Bool.and_eq_true] at hb;exact hb.1.1
        refine Z6 ?_;refine OL.mapPut (u':=.b true) rfl rfl (.inl rfl) rfl rfl rfl rfl rfl rfl (AVle.refl _) (.tail _ _ _ _ _ (.head _ _ _)) hS.ok (hsx hcx) ?_;refine Z7 ?_;exact ag (⟨j+1,_,rfl,rfl,hjl,by rw[<-take_getD hjl,List.map_append, <-hX];exact hS.put (hsx hcx),by rw[inits1_take mine _ _ _ hjl,hin, <-hX,List.nil_append,hb];rfl⟩)
      ·obtain rfl:j=(p.classes.getD i default).inits.length:=by omega
       rw[List.take_length] at hin;refine Z10 ?_;exact ag (⟨i+1,rfl,rfl,hil,range_step hR (by unfold clsOk;rw[hl, <-hmine,hin];rfl)⟩)
     ·refine OL.rcallN rfl rfl (.mk' rfl rfl rfl rfl rfl) (needF (by rw[hl];rfl) _) unf_c ?_;intro a w s;exact outP (P:=Tryz.prog) (fn:=Tryz.f194) unf_c Yc ⟨rfl,cls_no5 hil (by unfold clsOk;rw[hl];rfl),rfl⟩ a w s
    ·obtain rfl:i=p.classes.length:=by omega
     refine Z4 ?_;refine nR [] (H) ?_;exact⟨by unfold classesP;rw[decide_eq_true hlen,hA,hf1,hfine,hR];rfl,rfl⟩
theorem graph_get{i:Nat}(hi:i<p.classes.length):(graphP p).getD i default=(p.classes.getD i default).parents:=by
 rw[graphP,List.getD_eq_getElem?_getD,List.getElem?_map,List.getD_eq_getElem?_getD,List.getElem?_eq_getElem hi];rfl
theorem cls_noP{i:Nat}(hi:i<p.classes.length)(h: ¬(p.classes.getD i default).parents.length<=3):classesP p=false:=
 cls_no4 (by rw[fine_no2 (g:=graphP p) (i:=i) (by rw[graphP,List.length_map];exact hi) (by rw[graph_get hi,decide_eq_false h];rfl),Bool.and_false])
theorem has_in{W:Fc.FW}{c x:Int}:(slotsR W c).contains x=(decide (0<=x) && decide (x<W.owner.length) && hasR W c x.toNat):=by
 rw[Bool.eq_iff_iff,List.contains_iff_mem,slotsR,List.mem_map];simp only[Bool.and_eq_true,decide_eq_true_eq,List.mem_filter,List.mem_range];constructor
 ·rintro⟨s,⟨h1,h2⟩,rfl⟩;exact⟨⟨Ya,Ya⟩,by rw[Int.toNat_natCast];exact h2⟩
 ·rintro⟨⟨h1,h2⟩,h3⟩;exact⟨x.toNat,⟨Ya,h3⟩,Ya⟩
theorem seen_stepM{x:Int}{q:Nat}(hq:q<l.length)(h:((l.take q).map (·.1)).contains x=false)(hx: ¬(l.getD q default).1=x):((l.take (q+1)).map (·.1)).contains x=false:=by
 rw[<-take_getD hq,List.map_append,List.contains_eq_any_beq,List.any_append, <-List.contains_eq_any_beq,h];simp;exact λe=>hx (by rw[e,List.getD_eq_getElem?_getD])
theorem seen_yesM{x:Int}{q j:Nat}(hq:q<j)(hj:j<=l.length)(hx:(l.getD q default).1=x):((l.take j).map (·.1)).contains x=true:=by
 rw[List.contains_iff_mem,List.mem_map];refine⟨l.getD q default,?_,hx⟩;rw[List.getD_eq_getElem?_getD,List.getElem?_eq_getElem Ya];exact List.mem_take_iff_getElem.2 ⟨q,Ya,rfl⟩
theorem has_call{W:Fc.FW}(h:worldP W=true){c:Int}(h3:3<=c)(hc:c<3+W.parents.length){n:Nat}(hn:W.owner.length=n){x:Int}(hg:(!bif decide (x<0) then true else decide (x>=n))=true):PCall Tryz.prog 218 [AV.world W,.i c,.i x] (.b (hasR W c x.toNat)):=by
 have hx:0<=x/\x<n:=by
  simp only[Bool.cond_true_left,Bool.not_eq_true',Bool.or_eq_false_iff,decide_eq_false_iff_not] at hg;omega
 have h:=rHasS h h3 hc (s:=x.toNat) Ya;rwa [Int.toNat_of_nonneg hx.1] at h
theorem rClasses(hp:p.Small):PCall Tryz.prog 213 [AV.prog p] (.b (classesP p)):=by
 intro H;refine aC (n:=153) Tryz.func213 λB I w0=>?_;have hpc:=hp.classes;have hpp:=hp.parents;refine Z15 ?_;refine cd (λh0=>?_) λh0=>?_
 ·refine Z7 ?_;refine r1 2 (H) ?_;exact⟨retB (cls_no1 Yw).symm,rfl⟩
 ·have h10:p.classes.length<=10:=by omega
  refine Z14 ?_;refine lj (λm st=>∃i:Nat,st=⟨[(4,.i i),(3,.i (slotsCnt (p.classes.take i))),(1,.ptr (progC p))],H⟩/\m=p.classes.length - i/\i<=p.classes.length/\slotsA (p.classes.take i) 0=true) (⟨0,rfl,rfl,Ya,rfl⟩) ?_;rintro m _ ⟨i,rfl,rfl,hi,hA⟩;refine Z10 ?_;refine cd (λh1=>?_) λh1=>?_
  ·have hil:i<p.classes.length:=by omega
   have hcnt:=slotsA_cnt _ _ hA;rw[List.length_take] at hcnt;refine Z33 ?_;refine CW.cond rfl (λh2=>?_) (λh2=>?_)
   ·rw[Bool.cond_true_left,Bool.or_eq_true,decide_eq_true_eq,decide_eq_true_eq] at h2;have hno:classesP p=false:=by
     rcases h2 with h2 | h2
     ·exact cls_no2 hil (by rw[decide_eq_false Ya];rfl)
     ·exact cls_noP hil Ya
    refine Z12 ?_;refine r1 2 (H) ?_;exact⟨retB hno.symm,rfl⟩
   ·rw[Bool.cond_true_left,Bool.or_eq_false_iff,decide_eq_false_iff_not,decide_eq_false_iff_not] at h2;have hs4:(p.classes.getD i default).slots.length<=4:=by omega
    refine Z8 ?_;refine lj (λm st=>∃j:Nat,st=⟨[(6,.i j),(5,AV.ints (p.classes.getD i default).slots),(4,.i i),(3,.i ((slotsCnt (p.classes.take i))+j:Nat)),(1,.ptr (progC p))],H⟩/\m=(p.classes.getD i default).slots.length - j/\j<=(p.classes.getD i default).slots.length/\slots1 ((p.classes.getD i default).slots.take j) (slotsCnt (p.classes.take i))=true) (⟨0,rfl,rfl,Ya,rfl⟩) ?_;rintro m _ ⟨j,rfl,rfl,hj,hs1⟩;refine Z9 ?_;refine cd (λh3=>?_) λh3=>?_
    ·have hjl:j<(p.classes.getD i default).slots.length:=by omega
     refine Z15 ?_;refine cd (λh4=>?_) λh4=>?_
     ·have hne:(p.classes.getD i default).slots.getD j default≠(((slotsCnt (p.classes.take i))+j:Nat):Int):=h4;refine Z16 ?_;refine r1 2 (H) ?_;exact⟨retB (cls_no3 hil hjl (by rw[beq_eq_false_iff_ne];exact hne)).symm,rfl⟩
     ·have heq:(p.classes.getD i default).slots.getD j default=(((slotsCnt (p.classes.take i))+j:Nat):Int):=h4;refine Z14 ?_;exact ag (⟨j+1,YaI,rfl,hjl,by rw[slots1_take _ _ _ hjl,hs1,heq];simp⟩)
    ·obtain rfl:j=(p.classes.getD i default).slots.length:=by omega
     rw[List.take_length] at hs1;refine Z11 ?_;exact ag (⟨i+1,by rw[slotsCnt_take hil],rfl,hil,by rw[slotsA_take _ _ _ hil,hA,decide_eq_true hs4,Nat.zero_add,hs1];rfl⟩)
  ·obtain rfl:i=p.classes.length:=by omega
   rw[List.take_length] at hA ⊢;refine Z8 ?_;refine oP (POp.call .k (rGraph p Ya hpp)) ?_;refine Z12 ?_;refine OL.guardC rfl rfl rfl rfl rfl rfl (λhg=>POp.call (.mk' rfl rfl rfl rfl Yd) (rLine (graphP p))) ?_;refine Z4 ?_;refine CW.cond rfl (λh5=>?_) (λh5=>?_)
   ·have hno:classesP p=false:=cls_no4 (by revert h5;cases fineP (graphP p) <;> cases hq:((slotsCnt p.classes:Int)==p.slots) <;> simp_all);refine Z7 ?_;refine r1 2 (H) ?_;exact⟨retB hno.symm,rfl⟩
   ·have hf:(((slotsCnt p.classes:Int)==p.slots) && fineP (graphP p))=true:=by revert h5;cases fineP (graphP p) <;> cases hq:((slotsCnt p.classes:Int)==p.slots) <;> simp_all
    rw[Bool.and_eq_true] at hf;obtain⟨hf1,hfine⟩:=hf;have hH:Heads p:=⟨h10,hA,beq_iff_eq.1 hf1,hfine⟩;have hw:=hH.world;have hpl:=world_pl p;have hol:=owners_cnt p.classes 0;have hol2:(worldOf p).owner.length=slotsCnt p.classes:=hol;have hsm:=slotsA_mem _ _ hA;refine Z5 ?_;refine oP (POp.call .k (rWorld p Ya (λc h=>⟨hpp c h,by have:=(hsm c h).1;omega⟩))) ?_;refine OL.alC rfl rfl rfl rfl (λwb=>?_);refine Z5 ?_;refine CW.freezeP (d:=8) rfl Yl ?_;refine Z5 ?_;refine lj (λm st=>∃i:Nat,st=⟨[(9,.i i),(8,.ptr (Wcells (worldOf p))),(7,AV.intss (graphP p)),(3,.i (slotsCnt p.classes)),(1,.ptr (progC p))],H⟩/\m=p.classes.length - i/\i<=p.classes.length/\(List.range i).all (clsOk p)=true) (⟨0,rfl,rfl,Ya,rfl⟩) ?_;rintro m _ ⟨i,rfl,rfl,hi,hR⟩;refine Z10 ?_;refine cd (λh6=>?_) λh6=>?_
    ·have hil:i<p.classes.length:=by omega
     have hgl:(graphP p).length=p.classes.length:=by simp[graphP]
     have hms:hasP p ((i:Int)+3)=slotsR (worldOf p) ((i:Int)+3):=has_slots hH Ya Ya;refine Z16 ?_;refine oP (POp.call .k (rLin hfine (c:=(i:Int)+3) Ya Ya)) ?_;refine Z13 ?_;refine CW.cond rfl (λh7=>?_) (λh7=>?_)
     ·have hl:(linP (graphP p) ((i:Int)+3)).isEmpty=true:=by revert h7;cases (linP (graphP p) ((i:Int)+3)).isEmpty <;> simp
      refine Z12 ?_;refine r1 2 (H) ?_;exact⟨retB (cls_no5 hil (by unfold clsOk;rw[hl];rfl)).symm,rfl⟩
     ·have hl:(linP (graphP p) ((i:Int)+3)).isEmpty=false:=by revert h7;cases (linP (graphP p) ((i:Int)+3)).isEmpty <;> simp
      refine Z19 ?_;refine CW.boundM (t:=13) rfl (λhb13=>?_);refine lj (λm st=>∃j:Nat,st=⟨[(14,.i j),(13,AV.mvs (p.classes.getD i default).inits),(10,.i ((i:Int)+3)),(9,.i i),(8,.ptr (Wcells (worldOf p))),(7,AV.intss (graphP p)),(3,.i (slotsCnt p.classes)),(1,.ptr (progC p))],H⟩/\m=(p.classes.getD i default).inits.length - j/\j<=(p.classes.getD i default).inits.length/\inits1 (hasP p ((i:Int)+3)) ((p.classes.getD i default).inits.take j) []=true) (⟨0,rfl,rfl,Ya,rfl⟩) ?_;rintro m _ ⟨j,rfl,rfl,hj,hin⟩;refine Z9 ?_;refine cd (λh8=>?_) λh8=>?_
      ·have hjl:j<(p.classes.getD i default).inits.length:=by omega
       have hmi:=has_in (W:=worldOf p) (c:=(i:Int)+3) (x:=((p.classes.getD i default).inits.getD j default).1);rw[<-hms] at hmi;refine Z6 ?_;refine CW.dp mixed ?_;refine DP.anyC 0 2 153 rfl Ye rfl rfl Ye ?_;refine Z23 ?_;refine DP.anyC 7 13 153 rfl Ye rfl rfl Ye ?_;refine Z19 ?_;refine DP.anyC 16 23 153 rfl Ye rfl rfl Ye ?_;refine Z9 ?_;refine OL.guardC rfl rfl rfl rfl rfl rfl (λhg=>POp.call (.mk' rfl rfl rfl rfl Yd) (has_call hw (c:=(i:Int)+3) Ya Ya hol2 hg)) ?_;refine Z14 ?_;refine DP.anyC 27 29 153 rfl Ye rfl rfl Ye ?_;refine Z7 ?_;refine OL.guardC rfl rfl rfl rfl rfl rfl (λhg=>POp.call (.mk' rfl rfl rfl rfl Yd) (rIn ((p.classes.getD i default).inits.getD j default).2)) ?_;refine Z4 ?_;refine CW.cond rfl (λh9=>?_) (λh9=>?_)
       ·have hno:((hasP p ((i:Int)+3)).contains ((p.classes.getD i default).inits.getD j default).1 && inP ((p.classes.getD i default).inits.getD j default).2)=false:=by
         rw[hmi,hol2];simp only[Bool.cond_true_left] at h9;rw[<-Bool.not_eq_true,Bool.and_eq_true,Bool.and_eq_true,Bool.and_eq_true,decide_eq_true_eq,decide_eq_true_eq];rintro⟨⟨⟨q1,q2⟩,q3⟩,q4⟩;rw[q3,q4,decide_eq_false Ya,decide_eq_false Ya] at h9;cases h9
        refine Z16 ?_;refine r1 2 (H) ?_;exact⟨retB (cls_no5 hil (cls_in hjl (by revert hno;cases (hasP p ((i:Int)+3)).contains ((p.classes.getD i default).inits.getD j default).1 <;> cases inP ((p.classes.getD i default).inits.getD j default).2 <;> simp))).symm,rfl⟩
       ·have hyes:(hasP p ((i:Int)+3)).contains ((p.classes.getD i default).inits.getD j default).1=true/\inP ((p.classes.getD i default).inits.getD j default).2=true:=by
         rw[hmi,hol2];simp only[Bool.cond_true_left,Bool.or_eq_false_iff,decide_eq_false_iff_not,Bool.not_eq_false'] at h9;rw[h9.1.2,decide_eq_true Ya,decide_eq_true Ya];exact⟨rfl,h9.2⟩
        refine Z8 ?_;refine lj (λm st=>∃k:Nat,st=⟨[(15,.i k),(14,.i j),(13,AV.mvs (p.classes.getD i default).inits),(10,.i ((i:Int)+3)),(9,.i i),(8,.ptr (Wcells (worldOf p))),(7,AV.intss (graphP p)),(3,.i (slotsCnt p.classes)),(1,.ptr (progC p))],H⟩/\m=j - k/\k<=j/\(((p.classes.getD i default).inits.take k).map (·.1)).contains ((p.classes.getD i default).inits.getD j default).1=false) (⟨0,rfl,rfl,Ya,rfl⟩) ?_;rintro m _ ⟨k,rfl,rfl,hk,hc⟩;refine Z8 ?_;refine cd (λh10=>?_) λh10=>?_
        ·have hkl:k<j:=by omega
         refine Z5 ?_;refine CW.dp mixed ?_;refine DP.anyC 0 10 153 rfl Ye rfl rfl Ye ?_;refine Z15 ?_;refine cd (λh11=>?_) λh11=>?_
         ·refine Z19 ?_;refine r1 2 (H) ?_;exact⟨retB (cls_no5 hil (cls_in hjl (by rw[seen_yesM hkl Ya h11];simp))).symm,rfl⟩
         ·refine Z8 ?_;exact ag (⟨k+1,rfl,rfl,hkl,seen_stepM Ya hc h11⟩)
        ·obtain rfl:k=j:=by omega
         refine Z11 ?_;exact ag (⟨k+1,rfl,rfl,hjl,by rw[inits1_take _ _ _ _ hjl,hin,List.nil_append,hyes.1,hyes.2,hc];rfl⟩)
      ·obtain rfl:j=(p.classes.getD i default).inits.length:=by omega
       rw[List.take_length] at hin;refine Z11 ?_;exact ag (⟨i+1,rfl,rfl,hil,range_step hR (by unfold clsOk;rw[hl,hin];rfl)⟩)
    ·obtain rfl:i=p.classes.length:=by omega
     refine Z11 ?_;refine r1 2 (H) ?_;exact⟨retB (by unfold classesP;rw[decide_eq_true h10,hA,hf1,hfine,hR];rfl),rfl⟩
theorem cellM_get(h:0<=i/\i<o.length):(o.map AV.i++more)[0+i.toNat*1]? =some (.i (o.getD i.toNat default)):=by
 rw[Nat.zero_add,Nat.mul_one,List.getElem?_append_left Yaa,List.getElem?_map,List.getD_eq_getElem?_getD,List.getElem?_eq_getElem Ya];rfl
theorem cellM_fit(h:0<=i/\i<o.length):Nat.ble (0+i.toNat*1+1) (o.map AV.i++more).length=true:=by
 rw[Nat.ble_eq,List.length_append,List.length_map];omega
theorem cellM_set{i v:Int}(h:0<=i/\i<o.length):(o.map AV.i++more).take (0+i.toNat*1)++[AV.i v]++(o.map AV.i++more).drop (0+i.toNat*1+1)=(o.set i.toNat v).map AV.i++more:=by
 rw[Nat.zero_add,Nat.mul_one,List.take_append_of_le_length Yaa,List.drop_append_of_le_length Yaa,List.map_set,List.set_eq_take_append_cons_drop,if_pos Yaa];simp
theorem visit_lenR(hd:x.dp+f=14)(h:(visit p next f x out).2=some o):o.length=out.length:=by
 rw[(visit_vp (p:=p) (next:=next) f x out hd).end_ o h,outsV_len]
def walkQ(p:Prog)(next:Bool)(f:Nat)(x:Vis)(out:List Int)(nb:Nat)(more:List AV)(H:List Ent)(y:AV)(H':List Ent):Prop:=match (visit p next f x out).2 with
 | some o=>y= .b true/\H'= .blk nb 3 (o.map AV.i++more)::H
 | none=>y= .b false/\∃o':List Int,H'= .blk nb 3 (o'.map AV.i++more)::H
theorem walkQ_no{nb:Nat}(h:(visit p next f x out).2=none)(o':List Int):walkQ p next f x out nb more H (.b false) (.blk nb 3 (o'.map AV.i++more)::H):=by
 unfold walkQ;rw[h];exact⟨rfl,o',rfl⟩
theorem walkQ_yes{nb:Nat}(h:(visit p next f x out).2=some o):walkQ p next f x out nb more H (.b true) (.blk nb 3 (o.map AV.i++more)::H):=by
 unfold walkQ;rw[h];exact⟨rfl,rfl⟩
theorem place_bif(p:Prog)(x:Vis)(out:List Int):(bif bif bif decide (x.n<0) then true else decide (x.n>=p.nodes.length) then true else decide (out.getD x.n.toNat default>=0) then true else decide (x.dp>12))= !placeOk p x out:=by
 unfold placeOk;simp only[Bool.cond_true_left];rw[Bool.eq_iff_iff];simp only[Bool.or_eq_true,decide_eq_true_eq,Bool.not_eq_true', <-Bool.not_eq_true,Bool.and_eq_true];omega
theorem rWalk_step(hs:p.classes.length<=4000000){next:Bool}{f:Nat}(ih:∀f',f=f'+1->∀(x:Vis) (out:List Int) (nb cap:Nat) (more:List AV) (H:List Ent),x.dp+f'=14->1<=x.dp->-1000<=x.sz/\x.sz<=1000+x.dp->out.length=p.nodes.length->
  ACall Tryz.prog 216 [AV.prog p,.i x.n,.i x.sz,.i x.dp,.b next,.val (.slice (some ⟨nb,0,none⟩) p.nodes.length cap)] (.blk nb 3 (out.map AV.i++more)::H) (walkQ p next f' x out nb more H) (λ_ _=>False))
  (x:Vis) (out:List Int) (nb cap:Nat) (more:List AV) (H:List Ent) (hd:x.dp+f=14) (hd1:1<=x.dp) (hsz: -1000<=x.sz/\x.sz<=1000+x.dp) (ho:out.length=p.nodes.length):
  ACall Tryz.prog 216 [AV.prog p,.i x.n,.i x.sz,.i x.dp,.b next,.val (.slice (some ⟨nb,0,none⟩) p.nodes.length cap)] (.blk nb 3 (out.map AV.i++more)::H) (walkQ p next f x out nb more H) (λ_ _=>False):=by
 refine aC (n:=98) Tryz.func216 λB I w0=>?_;refine Z21 ?_;refine OL.guardC rfl rfl rfl rfl rfl rfl (λhg=>POp.ixC rfl rfl (gd hg) rfl (gd hg) Yat) ?_;refine OL.guardC rfl rfl rfl rfl rfl rfl (λhg=>(by first | exact POp.ld1 rfl rfl (gd hg) rfl | (apply POp.ld1H rfl rfl (gd hg);(case hm=>repeat (first | exact .head _ | refine .tail _ ?_));(case hy=>exact cellM_get Yat)))) ?_;refine Z8 ?_;refine CW.cond rfl (λh0=>?_) (λh0=>?_)
 ·rw[place_bif,Bool.not_eq_true'] at h0;have hno:okV p next x out=false:=by unfold okV;rw[h0];rfl
  refine Z7 ?_;refine r1 12 (.blk nb 3 (out.map AV.i++more)::H) ?_;exact walkQ_no (by rw[visit_no hno]) out
 ·rw[place_bif,Bool.not_eq_false'] at h0;obtain⟨hp0,hp1⟩:=placeOk_in h0;refine Z7 ?_;refine oP (POp.ixC rfl rfl rfl rfl rfl Ya) ?_;apply OL.stoC rfl rfl rfl rfl rfl rfl rfl rfl rfl rfl
  (case hu=>repeat (first | exact Upd.head _ _ _ | apply Upd.tail));(case hfit=>exact cellM_fit Ya);(case hds=>exact cellM_set Ya)
  refine Z7 ?_;refine oP (YV) ?_;refine Z1 ?_;refine OL.alC rfl rfl rfl rfl (λkb=>?_);refine Z5 ?_;obtain⟨K,hK⟩:∃K,K=ndOf p x:=⟨_,rfl⟩;rw[show p.nodes.getD x.n.toNat default=K from hK.symm];refine CW.freezeP (d:=13) rfl Yl ?_;refine CW.dp mixed ?_;refine DP.anyC 0 6 98 rfl Ye rfl rfl Ye ?_;refine Z5 ?_;refine AD.popC rfl rfl rfl (POp.call .k (rKids p K)) ?_;refine Z9 ?_;refine DP.anyC 8 11 98 rfl Ye rfl rfl Ye ?_;refine Z5 ?_;refine OL.guardC rfl rfl rfl rfl rfl rfl (λhg=>POp.call (.mk' rfl rfl rfl rfl Yd) (rNumber p hs K x.sz)) ?_;refine Z13 ?_;refine CW.cond rfl (λh1=>?_) (λh1=>?_)
  ·rw[kids_eq,Bool.not_eq_true'] at h1;have hno:okV p next x out=false:=by unfold okV;rw[h0, <-hK,h1];rfl
   refine Z7 ?_;refine r1 12 (.blk nb 3 ((out.set x.n.toNat x.sz).map AV.i++more)::H) ?_;exact walkQ_no (by rw[visit_no hno]) _
  ·rw[kids_eq,Bool.not_eq_false'] at h1;have hok:okV p next x out=true:=by unfold okV;rw[h0, <-hK,h1];rfl
   obtain⟨f',rfl⟩:∃f',f=f'+1:=⟨f - 1,by have h9:=h0;simp only[placeOk,Bool.and_eq_true,decide_eq_true_eq] at h9;omega⟩;have hvy:=visit_yes (f:=f') hok;rw[<-hK] at hvy;have hp12:x.dp<=12:=by have h9:=h0;simp only[placeOk,Bool.and_eq_true,decide_eq_true_eq] at h9;omega
   refine CW.boundM (t:=46) rfl (λhbk=>?_);refine Z9 ?_;refine lj (λm st=>∃(i:Nat) (l:List Vis) (o:List Int),st=⟨[(14,.i i),(13,.ptr (ndA K)),(6,.ptr (progC p)),(2,.i x.sz),(3,.i x.dp),(4,.b next),(5,.val (.slice (some ⟨nb,0,none⟩) p.nodes.length cap))],.blk nb 3 (o.map AV.i++more)::H⟩/\m=K.kids.length - i/\i<=K.kids.length/\visitsW (visit p next f') ((kidsV x K.op 0 K.kids).take i) (setV out x)=(l,some o)/\o.length=p.nodes.length) (⟨0,[],setV out x,rfl,rfl,Ya,rfl,by rw[setV,List.length_set];exact ho⟩) ?_;rintro m _ ⟨i,l,o,rfl,rfl,hi,hvs,hol⟩;refine Z10 ?_;refine cd (λh2=>?_) λh2=>?_
   ·have hil:i<K.kids.length:=by omega
    obtain⟨R,hR,hR1,hR2⟩:=kid_step (visit_ne (p:=p) (next:=next) f') (kidsV_get x K.op hil) hvs;refine Z10 ?_;refine CW.cutJ (λst=>st=⟨[(15,.i (kidV x K.op i (K.kids.getD i default)).sz),(14,.i i),(13,.ptr (ndA K)),(6,.ptr (progC p)),(2,.i x.sz),(3,.i x.dp),(4,.b next),(5,.val (.slice (some ⟨nb,0,none⟩) p.nodes.length cap))],.blk nb 3 (o.map AV.i++more)::H⟩) ?_ ?_
    ·refine Z11 ?_;refine CW.cond rfl (λh3=>?_) (λh3=>?_)
     ·have hif:K.op=9/\i=1:=by simp only[Bool.cond_false_right,Bool.and_eq_true,beq_iff_eq] at h3;omega
      refine Z5 ?_;refine Done.le 15 (y:=.i (kidV x K.op i (K.kids.getD i default)).sz) rfl (AVle.eqI (by simp only[kidV];rw[if_pos hif])) ?_;exact cj rfl
     ·have hif: ¬(K.op=9/\i=1):=by simp only[Bool.cond_false_right,Bool.and_eq_false_iff,beq_eq_false_iff_ne] at h3;omega
      refine Z1 ?_;refine Done.le 15 (y:=.i (kidV x K.op i (K.kids.getD i default)).sz) rfl (AVle.eqI (by simp only[kidV];rw[if_neg hif])) ?_;exact cj rfl
    ·rintro _ rfl;refine Z1 ?_;rcases hv:(visit p next f' (kidV x K.op i (K.kids.getD i default)) o).2 with _ | o'
     ·have hn:=(hR1 hv).2;refine CW.dp mixed ?_;refine DP.anyC 0 11 98 rfl Ye rfl rfl Ye ?_;refine Z13 ?_;refine bC .k ((ACall.weak (ih f' rfl (kidV x K.op i (K.kids.getD i default)) o nb cap more H YaE YaE Ya9 hol) (λy H1 h=>by rw[walkQ,hv] at h;exact h) (λ_ _ h=>h)).b) ?_;rintro _ _ ⟨rfl,o2,rfl⟩;refine Z3 ?_;refine CW.cond rfl (λh4=>?_) (λh4=>?_)
      ·replace h4:=nm h4;refine Z11 ?_;refine r1 12 (.blk nb 3 (o2.map AV.i++more)::H) ?_;exact walkQ_no (by rw[hvy];exact hn) o2
      ·cases h4
     ·have hs1:=(hR2 o' hv).1;have hol1:=visit_lenR YaE hv;refine CW.dp mixed ?_;refine DP.anyC 0 11 98 rfl Ye rfl rfl Ye ?_;refine Z13 ?_;refine bC .k ((ACall.weak (ih f' rfl (kidV x K.op i (K.kids.getD i default)) o nb cap more H YaE YaE Ya9 hol) (λy H1 h=>by rw[walkQ,hv] at h;exact h) (λ_ _ h=>h)).b) ?_;rintro _ _ ⟨rfl,rfl⟩;refine Z3 ?_;refine CW.cond rfl (λh5=>?_) (λh5=>?_)
      ·cases h5
      ·replace h5:=nm h5;refine Z8 ?_;exact ag (⟨i+1,_,o',rfl,rfl,hil,hs1,Ya⟩)
   ·obtain rfl:i=K.kids.length:=by omega
    have hvs2:visitsW (visit p next f') (kidsV x K.op 0 K.kids) (setV out x)=(l,some o):=by rwa [List.take_of_length_le (by rw[kidsV_len];omega)] at hvs
    refine Z11 ?_;refine r1 12 (.blk nb 3 (o.map AV.i++more)::H) ?_;exact walkQ_yes (by rw[hvy,hvs2])
theorem rWalk{p:Prog}(hs:p.classes.length<=4000000){next:Bool}:∀(f:Nat) (x:Vis) (out:List Int) (nb cap:Nat) (more:List AV) (H:List Ent),x.dp+f=14->1<=x.dp->-1000<=x.sz/\x.sz<=1000+x.dp->out.length=p.nodes.length->
  ACall Tryz.prog 216 [AV.prog p,.i x.n,.i x.sz,.i x.dp,.b next,.val (.slice (some ⟨nb,0,none⟩) p.nodes.length cap)] (.blk nb 3 (out.map AV.i++more)::H) (walkQ p next f x out nb more H) (λ_ _=>False)
 | 0=>rWalk_step hs (λf' h=>by omega)
 | f+1=>rWalk_step hs (λf' h=>by(obtain rfl:f'=f:=by omega);exact rWalk hs f')
theorem visitsW_all{v:Vis->List Int->List Vis×Option (List Int)}{Q:Vis->Prop}:∀(l:List Vis) (o:List Int),(∀z∈l,∀o',∀y∈(v z o').1,Q y)->∀y∈(visitsW v l o).1,Q y
 | [],o,_,y,hy=>by simp[visitsW] at hy
 | z::r,o,h,y,hy=>by
  simp only[visitsW] at hy;rcases hv:v z o with⟨l1,_ | o1⟩
  ·rw[hv] at hy;exact h z (.head _) o y (by rw[hv];exact hy)
  ·rw[hv] at hy;rcases List.mem_append.1 hy with hy | hy
   ·exact h z (.head _) o y (by rw[hv];exact hy)
   ·exact visitsW_all r o1 (λw hw=>h w (.tail _ hw)) y hy
theorem kidsV_ge{x:Vis}{op:Int}(h:0<=x.sz):∀(i:Nat) (l:List Int),∀y∈kidsV x op i l,0<=y.sz
 | _,[],y,hy=>by cases hy
 | i,k::r,y,hy=>by
  rw[kidsV] at hy;rcases List.mem_cons.1 hy with rfl | hy
  ·simp only[kidV];split <;> omega
  ·exact kidsV_ge h (i+1) r y hy
theorem visit_ge{p:Prog}{next:Bool}:∀(f:Nat) (x:Vis) (out:List Int),0<=x.sz->∀y∈(visit p next f x out).1,0<=y.sz
 | 0,x,out,h,y,hy=>by rw[show (visit p next 0 x out).1= [x] from rfl,List.mem_singleton] at hy;rw[hy];exact h
 | f+1,x,out,h,y,hy=>by
  cases hk:okV p next x out with
  | false=>rw[visit_no hk,List.mem_singleton] at hy;rw[hy];exact h
  | true=>
   rw[visit_yes hk] at hy;rcases List.mem_cons.1 hy with rfl | hy
   ·exact h
   ·exact visitsW_all _ _ (λz hz o' y hy=>visit_ge f z o' (kidsV_ge h _ _ z hz) y hy) y hy
def OutGe(o:List Int):Prop:=∀y∈o,-1<=y
theorem outsV_ge:∀(L:List Vis) (o:List Int),(∀x∈L,0<=x.sz)->OutGe o->OutGe (outsV L o)
 | [],o,_,h=>h
 | x::r,o,hL,h=>outsV_ge r _ (λy hy=>hL y (.tail _ hy)) (λy hy=>by
  rcases List.mem_or_eq_of_mem_set hy with h1 | h1
  ·exact h y h1
  ·have:=hL x (.head _);omega)
theorem visit_outGe{o o':List Int}(hd:x.dp=1)(hs:0<=x.sz)(h:(visit p next 13 x o).2=some o')(hg:OutGe o):OutGe o':=by
 rw[(visit_vp (p:=p) (next:=next) 13 x o Ya).end_ o' h];exact outsV_ge _ _ (visit_ge 13 x o hs) hg
theorem out0_ge(p:Prog):OutGe (out0 p):=λy hy=>by rw[(List.mem_replicate.1 hy).2];omega
theorem ints_flatR(l:List Int):(l.map λn=>[AV.i n]).flatten=l.map AV.i:=by
 induction l with
 | nil=>rfl
 | cons x r ih=>rw[List.map_cons,List.flatten_cons,ih];rfl
theorem meth_bif{m:Mth}(hw:worldP (worldOf p)=true):(bif bif bif bif bif decide (m.kind<1) then true else decide (m.kind>4) then true else decide (m.gen<0) then true else decide (m.gen>=p.gens.length) then true else !formedP (worldOf p) m.fact then true else decide (speaksP m.fact>p.gens.getD m.gen.toNat default))= !(mth1 p m && mth2 p m):=by
 unfold mth1 mth2;rw[hw];simp only[Bool.cond_true_left,Bool.true_and];cases formedP (worldOf p) m.fact
 ·simp
 ·rw[Bool.eq_iff_iff];simp only[Bool.or_eq_true,decide_eq_true_eq,Bool.not_eq_true', <-Bool.not_eq_true,Bool.and_eq_true,Bool.not_true,Bool.false_eq_true,or_false,true_and];omega
theorem gen_bif(n:Int):(bif decide (n<1) then true else decide (n>3))= !genP n:=by
 unfold genP;rw[Bool.cond_true_left,Bool.eq_iff_iff];simp only[Bool.or_eq_true,decide_eq_true_eq,Bool.not_eq_true', <-Bool.not_eq_true,Bool.and_eq_true];omega
theorem head_bif(p:Prog)(b:Bool):(bif bif bif bif !b then true else decide ((p.gens.length:Int)>8) then true else decide ((p.methods.length:Int)>16) then true else decide ((p.nodes.length:Int)<1) then true else decide ((p.nodes.length:Int)>120))= !(b && headP p):=by
 unfold headP;cases b
 ·simp
 ·simp only[Bool.cond_true_left,Bool.true_and,Bool.not_true];rw[Bool.eq_iff_iff];simp only[Bool.or_eq_true,decide_eq_true_eq,Bool.not_eq_true', <-Bool.not_eq_true,Bool.and_eq_true,Bool.false_eq_true,false_or];omega
theorem rLook(hp:p.Small):PCall Tryz.prog 176 [AV.prog p] (.tup [AV.ints ((sizesP p).getD []),.b (sizesP p).isSome]):=by
 intro H;refine aC (n:=156) Tryz.func176 λB I w0=>?_;have hpc:=hp.classes;have hpp:=hp.parents;have hb1:0=0:=rfl;refine Z11 ?_;refine oP (POp.call .k (rClasses hp)) ?_;refine Z27 ?_;refine CW.cond rfl (λh0=>?_) (λh0=>?_)
 ·rw[head_bif,Bool.not_eq_true',Bool.and_eq_false_iff] at h0;have hno:sizesP p=none:=by
   rcases h0 with h0 | h0
   ·exact szs_no1 h0
   ·exact szs_no2 h0
  refine Z8 ?_;refine Done.retR (rs:=[.tmp 2,.tmp 3]) (H':=H) rfl (.tmp rfl (.tmp rfl (.nil))) (.cons (AVle.nil 1) (.cons (.refl _) .nil)) Yc ?_;exact⟨Ybj,rfl⟩
 ·rw[head_bif,Bool.not_eq_false',Bool.and_eq_true] at h0;obtain⟨hcl,hhd⟩:=h0;have hH:=Heads.of hcl;have h10:=hH.cl;have hw:=hH.world;have hpl:=world_pl p;have hhd2:=hhd;simp only[headP,Bool.and_eq_true,decide_eq_true_eq] at hhd2;have hsl:=slotsA_mem _ _ hH.sl;refine Z9 ?_;refine lj (λm st=>∃i:Nat,st=⟨[(4,.i i),(1,.ptr (progC p))],H⟩/\m=p.gens.length - i/\i<=p.gens.length/\(p.gens.take i).all genP=true) (⟨0,rfl,rfl,Ya,rfl⟩) ?_;rintro m _ ⟨i,rfl,rfl,hi,ha⟩;refine Z10 ?_;refine cd (λh1=>?_) λh1=>?_
  ·have hil:i<p.gens.length:=by omega
   refine Z22 ?_;refine CW.cond rfl (λh2=>?_) (λh2=>?_)
   ·rw[gen_bif,Bool.not_eq_true'] at h2;have hno:sizesP p=none:=szs_no3 (all_no hil h2);refine Z12 ?_;refine Done.retR (rs:=[.tmp 2,.tmp 3]) (H':=H) rfl (.tmp rfl (.tmp rfl (.nil))) (.cons (AVle.nil 1) (.cons (.refl _) .nil)) Yc ?_;exact⟨Ybj,rfl⟩
   ·rw[gen_bif,Bool.not_eq_false'] at h2;refine Z8 ?_;exact ag (⟨i+1,rfl,rfl,hil,all_step hil ha h2⟩)
  ·obtain rfl:i=p.gens.length:=by omega
   rw[List.take_length] at ha;refine Z17 ?_;refine CW.rowNil 3 1 ?_;refine lj (λm st=>∃(i:Nat) (v:Value),st=⟨[(6,.i i),(5,.val v),(1,.ptr (progC p))],rowE v (List.replicate i (-1))::H⟩/\m=p.nodes.length - i/\i<=p.nodes.length) (⟨0,_,rfl,rfl,Ya⟩) ?_;rintro m _ ⟨i,v,rfl,rfl,hi⟩;refine Z10 ?_;refine cd (λh3=>?_) λh3=>?_
   ·have hil:i<p.nodes.length:=by omega
    refine Z6 ?_;refine OL.popC (x:=.sl 1 [[.i (-1)]]) rfl rfl rfl (POp.row rfl rfl Yh rfl rfl rfl rfl rfl rfl) ?_;refine OL.appendRowAny (intEls [-1]) rfl rfl rfl rfl rfl rfl rfl rfl (AVle.refl _) rfl (λv=>.head _ _ _) (by simp only[intEls_len,List.length_replicate,List.length_singleton];omega) (by simp only[intEls_len,List.length_replicate,List.length_singleton];omega) (λv68=>?_);refine Z4 ?_;refine CW.eqH (H':=rowE v68 (List.replicate i (-1)++[-1])::H) (congrArg (· ::_) (rowE_append _ _ _)) ?_;refine Z5 ?_;exact ag (⟨i+1,v68,by rw[List.replicate_succ'],rfl,hil⟩)
   ·obtain rfl:i=p.nodes.length:=by omega
    refine Z6 ?_;refine CW.rowBlk (t:=3) (by rw[intEls_len,List.length_replicate];omega) (λb cap more=>.head _ _ _) (λnb cap more e1 e2 e3 e4 e5=>?_);rw[intEls_len,List.length_replicate] at e1 e2;subst e1;refine CW.eqH (H':=.blk nb 3 ((out0 p).map AV.i++more)::H) (by rw[intEls,ints_flatR];rfl) ?_;refine Z2 ?_;refine oP (POp.call .k (rWorld p Ya (λc h=>⟨hpp c h,by have:=(hsl c h).1;omega⟩))) ?_;refine OL.alC rfl rfl rfl rfl (λwb=>?_);refine Z5 ?_;refine CW.freezeP (d:=7) rfl Yl ?_;refine Z5 ?_;refine lj (λm st=>∃(i:Nat) (o:List Int),st=⟨[(8,.i i),(7,.ptr (Wcells (worldOf p))),(5,.val (.slice (some ⟨nb,0,none⟩) p.nodes.length cap)),(1,.ptr (progC p))],.blk nb 3 (o.map AV.i++more)::H⟩/\m=p.methods.length - i/\i<=p.methods.length/\methodsN p (p.methods.drop i) o=methodsN p p.methods (out0 p)/\o.length=p.nodes.length/\OutGe o) (⟨0,out0 p,rfl,rfl,Ya,rfl,by simp[out0],out0_ge p⟩) ?_;rintro m _ ⟨i,o,rfl,rfl,hi,hmn,hol,hge⟩;refine Z10 ?_;refine cd (λh4=>?_) λh4=>?_
    ·have hil:i<p.methods.length:=by omega
     obtain⟨M,hM⟩:∃M,M=(p.methods.getD i default):=⟨_,rfl⟩;refine Z11 ?_;refine OL.alC rfl rfl rfl rfl (λmb=>?_);refine Z5 ?_;rw[<-hM];refine CW.freezeP (d:=9) rfl Yl ?_;refine CW.dp mixed ?_;refine Z56 ?_;refine DP.anyC 14 19 156 rfl Ye rfl rfl Ye ?_;refine Z18 ?_;refine DP.anyC 22 25 156 rfl Ye rfl rfl Ye ?_;refine Z5 ?_;refine OL.guardC rfl rfl rfl rfl rfl rfl (λhg=>POp.call (.mk' rfl rfl rfl rfl Yd) (rFormed Ya M.fact)) ?_;refine Z14 ?_;refine DP.anyC 29 38 156 rfl Ye rfl rfl Ye ?_;refine Z2 ?_;refine AD.guardC rfl rfl rfl rfl rfl (λhg=>POp.call (.mk' rfl rfl rfl rfl Yd) (rSpeaks M.fact (formed_smallA (w:=worldOf p) (by revert hg;cases formedP (worldOf p) M.fact <;> simp)))) ?_;refine Z4 ?_;refine AD.guardC rfl rfl rfl rfl rfl (λhg=>(by first | exact POp.ixM rfl rfl (gd hg) rfl (gd hg) YaG | exact POp.ixI rfl rfl (gd hg) rfl (gd hg) YaG)) ?_;refine Z7 ?_;refine CW.cond rfl (λh5=>?_) (λh5=>?_)
     ·rw[meth_bif hw,Bool.not_eq_true'] at h5;have hno:sizesP p=none:=szs_no4 (by rw[<-hmn];exact mths_no hil hM h5);refine Z13 ?_;refine Done.retR (rs:=[.tmp 2,.tmp 3]) (H':=H) rfl (.tmp rfl (.tmp rfl (.nil))) (.cons (AVle.nil 1) (.cons (.refl _) .nil)) Yc ?_;exact⟨Ybj,rfl⟩
     ·rw[meth_bif hw,Bool.not_eq_false'] at h5;have hm1:=h5;simp only[mth1,Bool.and_eq_true,decide_eq_true_eq] at hm1;have hgp:=List.all_eq_true.1 ha _ (getD_memB (l:=p.gens) (k:=M.gen.toNat) Ya);simp only[genP,Bool.and_eq_true,decide_eq_true_eq] at hgp;refine Z3 ?_;rcases hv:(visit p (nextM M) 13 (bodyV p M) o).2 with _ | o1
      ·have hno:sizesP p=none:=szs_no4 (by rw[<-hmn];exact mths_stop hil hM hv);refine CW.dp mixed ?_;refine DP.anyC 0 13 156 rfl Ye rfl rfl Ye ?_;refine Z11 ?_;refine AD.popC rfl rfl rfl (POp.call .k (rNext M.kind)) ?_;refine Z3 ?_;refine bC (.mk' rfl rfl rfl rfl rfl) ((ACall.weak (rWalk (next:=nextM M) Ya 13 (bodyV p M) o nb cap more H YaI Ybk Yai hol) (λy H1 h=>by rw[walkQ,hv] at h;exact h) (λ_ _ h=>h)).b) ?_;rintro _ _ ⟨rfl,o2,rfl⟩;refine Z3 ?_;refine CW.cond rfl (λh6=>?_) (λh6=>?_)
       ·replace h6:=nm h6;refine Z12 ?_;refine Done.retR (rs:=[.tmp 2,.tmp 3]) (H':=H) rfl (.tmp rfl (.tmp rfl (.nil))) (.cons (AVle.nil 1) (.cons (.refl _) .nil)) Yc ?_;exact⟨Ybj,rfl⟩
       ·cases h6
      ·have hol1:=visit_lenR YaI hv;have hge1:=visit_outGe YaI (by simp only[bodyV];omega) hv hge;have hmg:=mths_go hil hM h5 hv;refine CW.dp mixed ?_;refine DP.anyC 0 13 156 rfl Ye rfl rfl Ye ?_;refine Z11 ?_;refine AD.popC rfl rfl rfl (POp.call .k (rNext M.kind)) ?_;refine Z3 ?_;refine bC (.mk' rfl rfl rfl rfl rfl) ((ACall.weak (rWalk (next:=nextM M) Ya 13 (bodyV p M) o nb cap more H YaI Ybk Yai hol) (λy H1 h=>by rw[walkQ,hv] at h;exact h) (λ_ _ h=>h)).b) ?_;rintro _ _ ⟨rfl,rfl⟩;refine Z3 ?_;refine CW.cond rfl (λh7=>?_) (λh7=>?_)
       ·cases h7
       ·replace h7:=nm h7;refine Z8 ?_;exact ag (⟨i+1,o1,rfl,rfl,hil,by rw[<-hmn,hmg],Ya,hge1⟩)
    ·obtain rfl:i=p.methods.length:=by omega
     rw[List.drop_length,methodsN] at hmn;have hmn:=hmn.symm;refine Z7 ?_;rcases hv:(visit p false 13 ⟨p.main,0,1⟩ o).2 with _ | o1
     ·have hno:sizesP p=none:=szs_no5 hmn hv;refine Z5 ?_;refine bC (.mk' rfl rfl rfl rfl rfl) ((ACall.weak (rWalk (next:=false) Ya 13 (⟨p.main,0,1⟩:Vis) o nb cap more H YaI Ybk Yai hol) (λy H1 h=>by rw[walkQ,hv] at h;exact h) (λ_ _ h=>h)).b) ?_;rintro _ _ ⟨rfl,o2,rfl⟩;refine Z3 ?_;refine CW.cond rfl (λh8=>?_) (λh8=>?_)
      ·replace h8:=nm h8;refine Z8 ?_;refine Done.retR (rs:=[.tmp 2,.tmp 3]) (H':=H) rfl (.tmp rfl (.tmp rfl (.nil))) (.cons (AVle.nil 1) (.cons (.refl _) .nil)) Yc ?_;exact⟨Ybj,rfl⟩
      ·cases h8
     ·have hol1:=visit_lenR YaI hv;have hge1:=visit_outGe YaI (by show (0:Int)<=0;omega) hv hge;refine Z5 ?_;refine bC (.mk' rfl rfl rfl rfl rfl) ((ACall.weak (rWalk (next:=false) Ya 13 (⟨p.main,0,1⟩:Vis) o nb cap more H YaI Ybk Yai hol) (λy H1 h=>by rw[walkQ,hv] at h;exact h) (λ_ _ h=>h)).b) ?_;rintro _ _ ⟨rfl,rfl⟩;refine Z3 ?_;refine CW.cond rfl (λh9=>?_) (λh9=>?_)
      ·cases h9
      ·replace h9:=nm h9;refine Z9 ?_;refine lj (λm st=>∃i:Nat,st=⟨[(10,.i i),(5,.val (.slice (some ⟨nb,0,none⟩) p.nodes.length cap))],.blk nb 3 (o1.map AV.i++more)::H⟩/\m=p.nodes.length - i/\i<=p.nodes.length/\∀y∈o1.take i,0<=y) (⟨0,rfl,rfl,Ya,Yr⟩) ?_;rintro m _ ⟨i,rfl,rfl,hi,hpos⟩;refine Z5 ?_;refine oP (POp.lenV rfl rfl rfl) ?_;refine Z3 ?_;refine cd (λh10=>?_) λh10=>?_
       ·have hil:i<p.nodes.length:=by omega
        refine Z8 ?_;refine oP (POp.ixC rfl rfl rfl rfl rfl Ya) ?_;refine oP ((by first | exact POp.ld1 rfl rfl rfl rfl | (apply POp.ld1H rfl rfl rfl;(case hm=>repeat (first | exact .head _ | refine .tail _ ?_));(case hy=>exact cellM_get Ya)))) ?_;refine Z3 ?_;refine cd (λh11=>?_) λh11=>?_
        ·have hm1:o1.getD i default= -1:=by have:=hge1 _ (getD_memB (l:=o1) (k:=i) Ya);rw[Int.toNat_natCast] at h11;omega
         have hno:sizesP p=none:=szs_no6 hmn hv (by rw[<-hm1];exact List.contains_iff_mem.2 (getD_memB Ya));refine Z12 ?_;refine Done.retR (rs:=[.tmp 2,.tmp 3]) (H':=H) rfl (.tmp rfl (.tmp rfl (.nil))) (.cons (AVle.nil 1) (.cons (.refl _) .nil)) Yc ?_;exact⟨Ybj,rfl⟩
        ·refine Z8 ?_;exact ag (⟨i+1,rfl,rfl,hil,λy hy=>by rw[<-take_getD Ya,List.mem_append,List.mem_singleton] at hy;rw[Int.toNat_natCast] at h11;rcases hy with hy | rfl;exact hpos y hy;omega⟩)
       ·obtain rfl:i=p.nodes.length:=by omega
        rw[<-hol, <-hol1,List.take_length] at hpos;have hyes:sizesP p=some o1:=szs_yes hcl hhd ha hmn hv (by rw[List.contains_eq_mem,decide_eq_false_iff_not];intro h;have:=hpos _ h;omega);refine Z6 ?_;refine CW.eqH (H':=.blk nb 3 ((o1.map λn=>[AV.i n]).flatten++more)::H) (by rw[ints_flatR]) ?_;refine CW.freezeS (k:=1) (d:=5) rfl (.head _ _) Yaa (λe he=>by obtain⟨y,_,rfl⟩:=List.mem_map.1 he;rfl) e2 e3 ?_;refine Z7 ?_;refine rR [.tmp 2,.tmp 3] (H) ?_;exact⟨by rw[hyes];rfl,rfl⟩
theorem rProg(hp:p.Small):PCall Tryz.prog 107 [AV.prog p] (.b (sizesP p).isSome):=by
 intro H;refine aC (n:=11) Tryz.func107 λB I w0=>?_;refine Z9 ?_;refine oP (POp.call .k (rLook hp)) ?_;refine Z14 ?_;refine r1 2 (H) ?_;exact⟨YaI,rfl⟩
theorem thing_eqR(hz:(sizesP p).isSome=true)(n:Int)(t:Th):thingP p n t=thingQ (worldOf p) n t:=by
 obtain⟨o,ho⟩:=Option.isSome_iff_exists.1 hz;have hH:=Heads.of (sizes_parts ho).1;unfold thingP thingQ ownC ownP;rw[hz,Bool.and_true,world_pl];by_cases h:3<=t.cls/\t.cls<3+p.classes.length
 ·rw[has_slots hH h.1 h.2]
 ·have e:(decide (3<=t.cls) && decide (t.cls<3+(p.classes.length:Int)))=false:=by
   rw[<-Bool.not_eq_true,Bool.and_eq_true,decide_eq_true_eq,decide_eq_true_eq];exact h
  rw[e];rfl
theorem check_eqR(objs:List Th):(bif (sizesP p).isSome then objsR (worldOf p) objs else false)=checkP p objs:=by
 unfold checkP objsR;cases hz:(sizesP p).isSome with
 | false=>rfl
 | true=>
  rw[cond_true,Bool.true_and];congr 2;funext t;exact (thing_eqR hz _ t).symm
theorem heads_of(hz:(sizesP p).isSome=true):Heads p:=by
 obtain⟨o,ho⟩:=Option.isSome_iff_exists.1 hz;exact Heads.of (sizes_parts ho).1
theorem world_of(hp:p.Small)(hz:(sizesP p).isSome=true):PCall Tryz.prog 109 [AV.prog p] (AV.world (worldOf p)):=by
 have hH:=heads_of hz;have h10:=hH.cl;have hsl:=slotsA_mem _ _ hH.sl;exact rWorld p Ya (λc h=>⟨hp.parents c h,by have:=(hsl c h).1;omega⟩)
theorem rGood(hp:p.Small)(objs:List Th):PCall Tryz.prog 50 [AV.prog p,AV.ths objs] (.b (checkP p objs)):=by
 intro H;refine aC (n:=13) Tryz.func50 λB I w0=>?_;refine Z9 ?_;refine oP (POp.call .k (rProg hp)) ?_;refine Z2 ?_;refine OL.guardC rfl rfl rfl rfl rfl rfl (λhg=>POp.call (.mk' rfl rfl rfl rfl Yd) (world_of hp hg)) ?_;refine Z1 ?_;refine OL.guardC rfl rfl rfl rfl rfl rfl (λhg=>POp.call (.mk' rfl rfl rfl rfl Yd) (rObjs (heads_of hg).world objs)) ?_;refine Z5 ?_;refine r1 4 (H) ?_;exact⟨retB (check_eqR objs),rfl⟩
theorem speaksC:∀{f:Fact},smallA f=true->PCall Tryz.prog 203 [AV.fact f] (.i (speaksP f)):=λ{f}=>by
 refine Fact.ind1 (P:=λf=>smallA f=true->PCall Tryz.prog 203 [AV.fact f] (.i (speaksP f))) (λf ih hf=>speaks_step f hf λk hk=>ih k hk ((smallA_iff hf).2.2 k hk)) f
theorem factFormedC(W:Fc.FW)(f:Fact):PCall Tryz.prog 202 [AV.world W,AV.fact f] (.i (if worldP W && formedP W f then 0 else 2)):=by
 cases h:worldP W with
 | true=>simpa using factFormedT h f
 | false=>simpa using factFormedF h f
theorem sizes1(hp:p.Small)(ob:Nat)(H:List Ent):ACall Tryz.prog 193 [.ptr (progC p),.p ob 0] (.blk ob 23 [(.val (.slice none 0 0))]::H) (λ_ H'=>∃nb o,sizesP p=some o/\H'=outH ob nb p.nodes.length o++H) (λy H'=>y=unfA/\sizesP p=none/\∃v,H'= .blk ob 23 [.val v]::H):=by
 refine aC (n:=130) Tryz.func193 λB I w0=>?_;refine Z3 ?_;refine OL.bcall rfl rfl .k (classesC hp _).b ?_ ?_
 ·rintro y H1 ⟨hcl,rfl⟩;obtain⟨hc10,hcs⟩:=classes_small hcl;refine Z26 ?_;rcases bool_or (headP p) with hh | hh
  ·refine OL.rcallN rfl rfl (.mk' rfl rfl rfl rfl rfl) (needF (by simp only[Bool.cond_false_right];exact hh) _) unf_c ?_;intro a w s;exact outP (P:=Tryz.prog) (fn:=Tryz.f193) unf_c (.refl _) ⟨rfl,szs_no2 hh,_,rfl⟩ a w s
  ·refine OL.rcallS rfl rfl rfl (.mk' rfl rfl rfl rfl rfl) (needT (by simp only[Bool.cond_false_right];exact hh) _) ?_;have hh2:=hh;simp only[headP,Bool.and_eq_true,decide_eq_true_eq] at hh2;refine Z12 ?_;refine lj (λm st=>∃i:Nat,st=⟨[(36,.i i),(35,.i p.gens.length),(34,AV.ints p.gens),(0,.ptr (progC p)),(1,.p ob 0)],.blk ob 23 [(.val (.slice none 0 0))]::H⟩/\m=p.gens.length - i/\i<=p.gens.length/\(p.gens.take i).all genP=true) (⟨0,rfl,rfl,Ya,rfl⟩) ?_;rintro m _ ⟨i,rfl,rfl,hi,hga⟩;refine Z6 ?_;refine cd (λh0=>?_) λh0=>?_
   ·have hil:i<p.gens.length:=by omega
    refine Z18 ?_;rcases bool_or (genP (p.gens.getD i default)) with h1 | h1
    ·refine OL.rcallN rfl rfl (.mk' rfl rfl rfl rfl rfl) (needF YaW _) unf_c ?_;intro a w s;exact outP (P:=Tryz.prog) (fn:=Tryz.f193) unf_c (.refl _) ⟨rfl,szs_no3 (all_noG hil h1),_,rfl⟩ a w s
    ·refine OL.rcallS rfl rfl rfl (.mk' rfl rfl rfl rfl rfl) (needT YaW _) ?_;refine Z7 ?_;exact ag (⟨i+1,rfl,rfl,hil,by rw[<-take_getD hil,List.all_append,hga,List.all_cons,h1];rfl⟩)
   ·obtain rfl:i=p.gens.length:=by omega
    rw[List.take_length] at hga;refine Z7 ?_;refine OL.popC (x:=.sl 1 [[.i (-1)]]) rfl rfl rfl (POp.row rfl rfl Yh rfl rfl rfl rfl rfl rfl) ?_;refine Z3 ?_;refine bC .k (repeatI p.nodes.length Ya _).b ?_
    ·rintro _ _ ⟨nb,rfl,rfl⟩;refine Z4 ?_;refine CW.perm (H':=.blk ob 23 [(.val (.slice (some ⟨nb,0,none⟩) p.nodes.length p.nodes.length))]::.blk nb 3 (List.replicate p.nodes.length (.i (-1)))::H) (.swap _ _ _) ?_;refine CW.eqH (H':=outH ob nb p.nodes.length (out0 p)++H) (by rw[<-out0_map];rfl) ?_;refine Z8 ?_;refine oP (POp.call .k (worldB p Ya hcs)) ?_;refine OL.alC rfl rfl rfl rfl (λwb=>?_);refine Z5 ?_;refine CW.freezeP (d:=5) rfl Yl ?_;refine Z8 ?_;refine lj (λm st=>∃(i:Nat) (o:List Int),st=⟨[(59,.i i),(58,.i p.methods.length),(57,.sl 9 (p.methods.map mthA)),(5,.ptr (Wcells (worldOf p))),(4,(.fn (.func 197) [] [.ptr (progC p),.p ob 0])),(0,.ptr (progC p)),(1,.p ob 0)],outH ob nb p.nodes.length o++H⟩/\m=p.methods.length - i/\i<=p.methods.length/\methodsN p p.methods (out0 p)=methodsN p (p.methods.drop i) o/\o.length=p.nodes.length) (⟨0,out0 p,rfl,rfl,Ya,rfl,by simp[out0]⟩) ?_;rintro m _ ⟨i,o,rfl,rfl,hi,hmN,hol⟩;refine Z6 ?_;refine cd (λh1=>?_) λh1=>?_
     ·have hil:i<p.methods.length:=by omega
      obtain⟨M,hM⟩:∃M,M=(p.methods.getD i default):=⟨_,rfl⟩;refine Z8 ?_;refine OL.alC rfl rfl rfl rfl (λb1=>?_);refine Z4 ?_;rw[<-hM];refine CW.freezeP (d:=7) rfl Yl ?_;refine Z22 ?_;rcases bool_or (mth1 p M) with h1 | h1
      ·refine OL.rcallN rfl rfl (.mk' rfl rfl rfl rfl rfl) (needF YaW _) unf_c ?_;intro a w s;exact outP (P:=Tryz.prog) (fn:=Tryz.f193) unf_c (.cons_cons _ (.cons _ (.refl _))) ⟨rfl,szs_no4 (by rw[hmN];exact mths_no hil hM (by rw[h1];rfl)),_,rfl⟩ a w s
      ·refine OL.rcallS rfl rfl rfl (.mk' rfl rfl rfl rfl rfl) (needT YaW _) ?_;have hm1:=h1;simp only[mth1,Bool.and_eq_true,decide_eq_true_eq] at hm1;have hgm:M.gen.toNat<p.gens.length:=by omega
       have hgn:=gens_in hga (getD_memB hgm);refine Z3 ?_;refine CW.dp mixed ?_;refine DP.anyC 0 3 130 rfl Ye rfl rfl Ye ?_;refine Z5 ?_;refine oP (POp.call .k (factFormedC (worldOf p) M.fact)) ?_;refine Z10 ?_;refine DP.anyC 6 15 130 rfl Ye rfl rfl Ye ?_;refine Z2 ?_;refine AD.guardC rfl rfl rfl rfl rfl (λhg=>POp.call (.mk' rfl rfl rfl rfl Yd) (speaksC (formed_smallA (w:=worldOf p) (by have:=zero_of_if hg;rw[Bool.and_eq_true] at this;exact this.2)))) ?_;refine Z4 ?_;refine AD.guardC rfl rfl rfl rfl rfl (λhg=>(by first | exact POp.ixM rfl rfl (gd hg) rfl (gd hg) ⟨Ya,Ya⟩ | exact POp.ixI rfl rfl (gd hg) rfl (gd hg) ⟨Ya,Ya⟩)) ?_;refine Z5 ?_;rcases bool_or (mth2 p M) with h2 | h2
       ·refine OL.rcallN rfl rfl (.mk' rfl rfl rfl rfl rfl) (needF (by rw[Bool.cond_false_right,if_zero];exact h2) _) unf_c ?_;intro a w s;exact outP (P:=Tryz.prog) (fn:=Tryz.f193) unf_c (.cons_cons _ (.cons _ (.refl _))) ⟨rfl,szs_no4 (by rw[hmN];exact mths_no hil hM (by rw[h2,Bool.and_false])),_,rfl⟩ a w s
       ·refine OL.rcallS rfl rfl rfl (.mk' rfl rfl rfl rfl rfl) (needT (by rw[Bool.cond_false_right,if_zero];exact h2) _) ?_;refine Z2 ?_;refine CW.dp mixed ?_;refine DP.anyC 0 17 130 rfl Ye rfl rfl Ye ?_;refine Z7 ?_;refine AD.popC rfl rfl rfl ((by first | exact POp.ixM rfl rfl rfl rfl rfl ⟨Ya,Ya⟩ | exact POp.ixI rfl rfl rfl rfl rfl ⟨Ya,Ya⟩)) ?_;refine Z11 ?_;have hnx:(bif (M.kind==1) then true else (M.kind==4))=nextM M:=by unfold nextM;rw[Bool.cond_true_left]
        refine OL.bcall rfl rfl .k (bodyS rfl M.node (p.gens.getD M.gen.toNat default) _ Ya o hol Ya ob nb H).b ?_ ?_
        ·rintro y H1 ⟨hv,rfl⟩;rw[hnx] at hv ⊢;have hgo:=visit_end (p:=p) (next:=nextM M) (x:=bodyV p M) rfl hv;refine Z7 ?_;exact ag (⟨i+1,outsV (visit p (nextM M) 13 (bodyV p M) o).1 o,rfl,rfl,hil,by rw[hmN,mths_go hil hM (by rw[h1,h2];rfl) hgo],by rw[outsV_len,hol]⟩)
        ·rintro y H1 ⟨rfl,hv,o1,rfl⟩ a w s I v hv2;rw[unf_c.is _ _ _ hv2];rw[hnx] at hv;exact outP (P:=Tryz.prog) (fn:=Tryz.f193) unf_c (.cons_cons _ (.cons _ (.refl _))) ⟨rfl,szs_no4 (by rw[hmN];exact mths_stop hil hM (Option.isNone_iff_eq_none.1 hv)),_,rfl⟩ a w s
     ·obtain rfl:i=p.methods.length:=by omega
      rw[List.drop_length] at hmN;replace hmN:methodsN p p.methods (out0 p)=some o:=hmN;refine Z10 ?_;refine OL.bcall rfl rfl .k (bodyS rfl p.main 0 false Ya o hol Ya ob nb H).b ?_ ?_
      ·rintro y H1 ⟨hv,rfl⟩;have hgo:=visit_end (p:=p) (next:=false) (x:=⟨p.main,0,1⟩) rfl hv;obtain⟨o2,ho2⟩:∃o2,o2=outsV (visit p false 13 ⟨p.main,0,1⟩ o).1 o:=⟨_,rfl⟩;rw[<-ho2] at hgo ⊢;have hol2:o2.length=p.nodes.length:=by rw[ho2,outsV_len,hol]
       refine Z4 ?_;refine oP (POp.callB .k (Borrow.outs (pre:=[]) (.tail _ (.head _)) hol2 Ya) (sContains o2 (-1))) ?_;refine Z1 ?_;rcases bool_or (o2.contains (-1)) with h3 | h3
       ·refine OL.rcallS rfl rfl rfl (.mk' rfl rfl rfl rfl rfl) (needT (by rw[h3];rfl) _) ?_;refine Z1 ?_;refine nR [] (outH ob nb p.nodes.length o2++H) ?_;exact⟨nb,o2,szs_yes hcl hh hga hmN hgo h3,rfl⟩
       ·refine OL.rcallN rfl rfl (.mk' rfl rfl rfl rfl rfl) (needF (by rw[h3];rfl) _) unf_c ?_;intro a w s;exact outP (P:=Tryz.prog) (fn:=Tryz.f193) unf_c (.cons_cons _ (.cons _ (.refl _))) ⟨rfl,szs_no6 hmN hgo h3,_,rfl⟩ a w s
      ·rintro y H1 ⟨rfl,hv,o1,rfl⟩ a w s I v hv2;rw[unf_c.is _ _ _ hv2];exact outP (P:=Tryz.prog) (fn:=Tryz.f193) unf_c (.cons_cons _ (.cons _ (.refl _))) ⟨rfl,szs_no5 hmN (Option.isNone_iff_eq_none.1 hv),_,rfl⟩ a w s
 ·rintro y H1 ⟨rfl,hcl,rfl⟩ a w s I v hv;rw[unf_c.is _ _ _ hv];exact outP (P:=Tryz.prog) (fn:=Tryz.f193) unf_c (.refl _) ⟨rfl,szs_no1 hcl,_,rfl⟩ a w s
theorem assert_unf(w:World):(Instr.typeAssert unfV 20 253 true).run Tryz.prog w= .ok (.tuple #[.agg #[],.bool true]) w:=by
 simp[Instr.typeAssert,run_underlying (show Tryz.prog.underlying 253=some (.struct #[]) by kernel_rfl)]
theorem catch_panicking(b:Nat)(x:Bool)(w:World)(hc:w.cell? ⟨b,0,none⟩=some (.bool x))(hz:w.frozen? ⟨b,0,none⟩=false)(hb:b<w.heap.size):
  CallsDIn (Eng.FW none) 0 Tryz.prog 221 #[.pointer (some ⟨b,0,none⟩)] (.panicking [{v:=unfV,recovered:=false}]) w λe u' w'=>
   e= .returned (.tuple #[])/\u'= .panicking [{v:=unfV,recovered:=true}]/\w'=(w.alloc (.cells #[] 253)).setCell ⟨b,0,none⟩ (.bool false):=by
 have hc2:(w.alloc (.cells #[] 253)).cell? ⟨b,0,none⟩=some (.bool x):=by rw[World.cell?_alloc_lt w _ ⟨b,0,none⟩ hb];exact hc
 have hz2:(w.alloc (.cells #[] 253)).frozen? ⟨b,0,none⟩=false:=by rw[World.frozen?_of_block (Go.RowKit.Below.heap_alloc w _ b hb)];exact hz
 refine callsDIn_of_wpSIn Tryz.func221 rfl trivial λc₀ cs hu=>?_;apply wpSIn_seq;apply wpSIn_region;have hta:=λw=>assert_unf w;simp[wpOpsSIn,go_sem,recoverD,hu,Tryz.ntmps221,Exit.thenS,Eng.FW,hta];apply wpSIn_seq;apply wpSIn_region;simp[wpOpsSIn,go_sem,Exit.thenS];refine wpSIn_cond (t:=true) YaN ?_;simp only[if_true];apply wpSIn_seq;apply wpSIn_seq;apply wpSIn_region;simp[wpOpsSIn,go_sem,Exit.thenS,hta];apply wpSIn_seq;apply wpSIn_region;simp[wpOpsSIn,go_sem,Exit.thenS];refine wpSIn_cond (t:=false) YaN ?_;simp only[Bool.false_eq_true,if_false];refine wpSIn_of_wpIn rfl (wpIn_skip ?_);simp only[Exit.thenS];apply wpSIn_region;simp[wpOpsSIn,go_sem,hc2,hz2,bodyPostS,results,Tryz.results221]
theorem catch_idle(b:Nat)(w:World):
  CallsDIn (Eng.FW none) 0 Tryz.prog 221 #[.pointer (some ⟨b,0,none⟩)] .returning w λe u' w'=>e= .returned (.tuple #[])/\u'= .returning/\w'=w:=by
 refine callsDIn_of_wpSIn Tryz.func221 rfl trivial λc₀ cs hu=>?_;apply wpSIn_seq;apply wpSIn_region;simp[wpOpsSIn,go_sem,recoverD,hu,Tryz.ntmps221,Exit.thenS,Eng.FW];apply wpSIn_seq;apply wpSIn_region;simp[wpOpsSIn,go_sem,Exit.thenS];refine wpSIn_cond (t:=false) YaN ?_;simp only[Bool.false_eq_true,if_false];refine wpSIn_of_wpIn rfl (wpIn_skip ?_);cases c₀;simp_all [bodyPostS,results,Tryz.results221]
def dfr(tb:Nat):Deferred:={target:=.fn (.func 221) #[.pointer (some ⟨tb,0,none⟩)],args:=#[]}
theorem leave_formed{x:Bool}(hΦ:Φ (.b x) H)(hs:∃I,WOk B I w/\Ext B I0 w0 I w/\HeapOk B I w (.blk tb 4 [.b x]::H)/\EnvOk I w (envGet env) a)(ht:envGet env 2=some (.p tb 0)):
  LeavesIn (Eng.FW none) 0 Tryz.prog Tryz.f192 a.tmps (RetP B I0 w0 Φ E) [] .returning w:=by
 obtain⟨I,hw,he,hh,hv⟩:=hs;obtain⟨v,h1,h2⟩:=ResOk.res (P:=Tryz.prog) (c:=⟨B,I0,w0,0,[]⟩) (st:=⟨env,.blk tb 4 [.b x]::H⟩) hh hv (fn:=Tryz.f192) (rs:=[.cell 2 4]) rfl (.cell1 inferInstance ht (.head _) rfl .nil);exact⟨v,h1,I,H,hw,he,hh.tail,.inl ⟨v,_,rfl,h2,hΦ⟩⟩
theorem invoke_dfr(tb:Nat)(w:World):(invoke (.fn (.func 221) #[.pointer (some ⟨tb,0,none⟩)]) #[]).run Tryz.prog w= .ok (.enter 221 #[.pointer (some ⟨tb,0,none⟩)]) w:=by
 have:fnOk Tryz.prog 221=true:=by kernel_rfl
 have h:=run_callFunc this #[.pointer (some ⟨tb,0,none⟩)] w;simp[invoke]
theorem ret_formed{x:Bool}{n:Nat}(hΦ:Φ (.b x) H)(s:Sat ⟨B,I0,w0,n,[dfr tb]⟩ ⟨env,.blk tb 4 [.b x]::H⟩ a w)(ht:envGet env 2=some (.p tb 0)):
  bodyPostDIn (Eng.FW none) 0 Tryz.prog Tryz.f192 (RetP B I0 w0 Φ E) .ret a w:=by
 show LeavesIn _ _ _ _ _ _ a.defers .returning w;rw[s.ds];refine leavesIn_cons (f:=221) (args:=#[.pointer (some ⟨tb,0,none⟩)]) Yr (by simp[Eng.FW]) (invoke_dfr tb w) (λ_ _=>trivial) ?_;refine (catch_idle tb w).mono ?_;rintro e u' w' ⟨rfl,rfl,rfl⟩;exact leave_formed hΦ s.mem ht
theorem pan_formed{x:Bool}{n:Nat}(hΦ:Φ (.b false) H)(s:Sat ⟨B,I0,w0,n,[dfr tb]⟩ ⟨env,.blk tb 4 [.b x]::H⟩ a w)(ht:envGet env 2=some (.p tb 0)):
  bodyPostDIn (Eng.FW none) 0 Tryz.prog Tryz.f192 (RetP B I0 w0 Φ E) (.panic [{v:=unfV,recovered:=false}]) a w:=by
 show LeavesIn _ _ _ _ _ _ a.defers (.panicking [{v:=unfV,recovered:=false}]) w;rw[s.ds];obtain⟨I,hw,he,hh,hv⟩:=s.mem;obtain⟨hB,vs,hb,hr,hni⟩:=hh.ok _ (.head _);have hvs:vs= #[.bool x]:=by
  have h1:=rel_vals (vs:=[.bool x]) hr;exact Array.toList_inj.1 h1
 subst hvs;have hlt:tb<w.heap.size:=(Array.getElem?_eq_some_iff.1 hb).1;refine leavesIn_cons (f:=221) (args:=#[.pointer (some ⟨tb,0,none⟩)]) Yr (by simp[Eng.FW]) (invoke_dfr tb w) (λ_ _=>trivial) ?_;refine (catch_panicking tb x w (by rw[cell_of_blk hb];rfl) (by simp[World.frozen?,hb]) hlt).mono ?_;rintro e u' w' ⟨rfl,rfl,rfl⟩;have hw1:=hw.alloc (.cells #[] 253);have hh1:=hh.alloc hw (.cells #[] 253);have hb1:(w.alloc (.cells #[] 253)).heap[tb]? =some (.cells #[.bool x] 4 (0,0)):=by rw[Go.RowKit.Below.heap_alloc w _ tb hlt];exact hb
 have hk1:=keeps_alloc hw (.cells #[] 253);have he1:=he.trans (ext_alloc hw (.cells #[] 253));have hv1:=hv.keep hk1;generalize w.alloc (.cells #[] 253)=w1 at*;have hset:(w1.setCell ⟨tb,0,none⟩ (.bool false)).heap[tb]? =some (.cells #[.bool false] 4 (0,0)):=one_setCell hb1;have hcell:∀b i,I b i->(w1.setCell ⟨tb,0,none⟩ (.bool false)).cell? ⟨b,i,none⟩=w1.cell? ⟨b,i,none⟩:=λb i hI=>
  World.cell?_of_block (a:=⟨b,i,none⟩) (Go.RowKit.Below.heap_setCell _ _ _ _ (λe=>hni i (by rw[<-(show b=tb from e)];exact hI)))
 have hk2:Keeps I w1 I (w1.setCell ⟨tb,0,none⟩ (.bool false)):=⟨λ_ _ h=>h,hcell⟩;have hbel:=(Go.RowKit.Below.refl B w1).setCell (p:=⟨tb,0,none⟩) hB (.bool false);exact leave_formed (x:=false) (env:=env) hΦ ⟨I,⟨Nat.le_trans hw1.base hbel.size,λb i hI=>by rw[hcell b i hI];exact hw1.there b i hI⟩,he1.trans ⟨λ_ _ h=>h,hcell,hbel⟩,
  hh1.upd (.head _ _ _) hk2 (λb _ hne=>Go.RowKit.Below.heap_setCell _ _ _ _ (λe=>hne (by rw[show b=tb from e];rfl))) (λ_ _ h=>.inl h) ⟨hB,#[.bool false],hset,.cons _ _ _ _ (.val _) .nil,hni⟩ (λ_ h=>.inl h),hv1.keep hk2⟩ ht
theorem formedC{g:Fn}{gs gc:List AV}{A Bp:List Ent->Prop}(hdo:∀B Hy,VCall B Tryz.prog (.fn g gs gc) [] (H++Hy) (λ_ H'=>∃H1,H'=H1++Hy/\A H1) (λy H'=>y=unfA/\∃Hf,H'=Hf++Hy/\Bp Hf)):
  ACall Tryz.prog 192 [.fn g gs gc] H (λx H'=>(x= .b true/\A H')\/(x= .b false/\Bp H')) (λ_ _=>False):=by
 refine ACall.mkD (n:=6) Tryz.func192 rfl Yf rfl rfl (λB I w0=>?_);refine Z2 ?_;refine OL.alC rfl rfl rfl rfl (λtb=>?_);refine Z5 ?_;refine OL.deferC (vs:=[.pointer (some ⟨tb,0,none⟩)]) rfl rfl rfl rfl rfl rfl ?_;refine Z3 ?_;refine CW.perm (List.perm_append_singleton _ _).symm ?_;refine Z2 ?_;refine OL.vcall rfl rfl rfl rfl rfl rfl rfl (AVleL.refl _) (hdo B [.blk tb 4 [.b false]]) ?_ ?_
 ·rintro y _ ⟨H1,rfl,hA⟩;refine Z3 ?_;refine CW.perm (List.perm_append_singleton _ _) ?_;refine Z5 ?_;intro a w s;exact ret_formed (.inl ⟨rfl,hA⟩) s rfl
 ·rintro y H2 ⟨rfl,Hf,rfl,hB⟩ a w s I v hv;rw[unf_c.is _ _ _ hv];exact pan_formed (.inr ⟨rfl,hB⟩) (s.perm (List.perm_append_singleton _ _)) rfl
theorem sizesC(hp:p.Small)(H:List Ent):ACall Tryz.prog 144 [AV.prog p] H (λy H'=>H'=H/\((∃o,sizesP p=some o/\y= .tup [AV.ints o,.b true])\/(sizesP p=none/\∃v,y= .tup [.val v,.b false]))) (λ_ _=>False):=by
 refine aC (n:=10) Tryz.func144 λB I w0=>?_;refine Z9 ?_;refine OL.alC rfl rfl rfl rfl (λob=>?_);refine Z5 ?_;refine bC .k (formedC (H:=.blk ob 23 [.val (.slice none 0 0)]::H) (A:=λH1=>∃nb o,sizesP p=some o/\H1=outH ob nb p.nodes.length o++H) (Bp:=λHf=>sizesP p=none/\∃v,Hf= .blk ob 23 [.val v]::H)
  (λB Hy=>VCall.fn ((sizes1 hp ob (H++Hy)).imp (λy H'=>?_) (λy H'=>?_)))).b ?_
 ·rintro⟨nb,o,h1,rfl⟩;exact⟨outH ob nb p.nodes.length o++H,by rw[List.append_assoc],nb,o,h1,rfl⟩
 ·rintro⟨rfl,h1,v,rfl⟩;exact⟨rfl,.blk ob 23 [.val v]::H,rfl,h1,v,rfl⟩
 rintro y H1 (⟨rfl,nb,o,hs,rfl⟩ | ⟨rfl,hs,v,rfl⟩)
 ·have hol:=sizes_len hs;refine Z6 ?_
  first | (refine OL.eqH (H':=.blk ob 23 [(.val (.slice (some ⟨nb,0,none⟩) p.nodes.length p.nodes.length))]::.blk nb 3 ((o.map λn=>[AV.i n]).flatten++[])::H) (by rw[<-ints_flat];rfl) ?_;refine OL.freezeS (k:=1) (d:=8) rfl (.tail _ _ _ _ (.head _ _)) (by rw[List.length_map];exact hol.1) (λe he=>by obtain⟨y,_,rfl⟩:=List.mem_map.1 he;rfl) (Nat.le_refl _) YJ ?_) | skip
  refine Z6 ?_;refine rR [.tmp 2,.tmp 3] (H) ?_;exact⟨rfl,.inl ⟨o,hs,rfl⟩⟩
 ·refine Z6 ?_
  first | (refine OL.eqH (H':=.blk ob 23 [(.val (.slice (some ⟨nb,0,none⟩) p.nodes.length p.nodes.length))]::.blk nb 3 ((o.map λn=>[AV.i n]).flatten++[])::H) (by rw[<-ints_flat];rfl) ?_;refine OL.freezeS (k:=1) (d:=8) rfl (.tail _ _ _ _ (.head _ _)) (by rw[List.length_map];exact hol.1) (λe he=>by obtain⟨y,_,rfl⟩:=List.mem_map.1 he;rfl) (Nat.le_refl _) YJ ?_) | skip
  refine Z6 ?_;refine rR [.tmp 2,.tmp 3] (H) ?_;exact⟨rfl,.inr ⟨hs,v,rfl⟩⟩
end Go.Proofs.YtpgnjlngepfanaaGreat
