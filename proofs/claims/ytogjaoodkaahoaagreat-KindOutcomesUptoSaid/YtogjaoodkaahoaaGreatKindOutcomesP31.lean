/- Part 31 of the proof: contracts of functions of the program and what they need. No condition beyond those that each theorem names. -/
import Derived.Test.YtogjaoodkaahoaaGreatKindOutcomesP30
set_option maxHeartbeats 1000000
set_option linter.unusedVariables false
set_option linter.unusedSimpArgs false
set_option maxRecDepth 10000
namespace Go.Proofs.YtogjaoodkaahoaaGreat
open Go.Eng
open Go.Eng.Fc
open Go.Eng.Bd
variable{p:Prog}{t:Tbl}{k c:Nat}{l:List Int}
theorem hasCl_owner(hz:(sizesP p).isSome=true){c:Nat}(hc:c<manyC p){s:Int}(hs:0<=s/\s<p.slots):(bif decide ((c:Int)>=3) then belowP (worldOf p) c ((worldOf p).owner.getD s.toNat default) else false)=hasCl p c s:=by
 obtain⟨o,ho⟩:=Option.isSome_iff_exists.1 hz;have hH:=Heads.of (sizes_parts ho).1;have how:=owner_slots hz;unfold hasCl;by_cases h3:3<=c
 ·rw[show decide ((c:Int)>=3)=true by simp;omega,show decide (3<=c)=true by simp[h3],has_slots hH Yb (by unfold manyC at hc;omega),has_in];rw[show decide (0<=s)=true by simp;omega,show decide (s<((worldOf p).owner.length:Int))=true by simp;omega];rfl
 ·rw[show decide ((c:Int)>=3)=false by simp;omega,show decide (3<=c)=false by simp;omega];rfl
theorem rHasCl(hz:(sizesP p).isSome=true){c:Nat}(hc:c<manyC p){s:Int}(hs:0<=s/\s<p.slots):PCall Tryz.prog 174 [AV.world (worldOf p),.i c,.i s] (.b (hasCl p c s)):=by
 intro H;refine aC (n:=19) Tryz.func174 λB I w0=>?_;have hw:=(heads_of hz).world;have how:=owner_slots hz;have ho:=world_ownR hw (s:=s.toNat) Yb;refine Z7 ?_;refine CW.dp mixed ?_;refine Z12 ?_;refine DP.anyC 3 10 19 rfl Yf rfl rfl Yf ?_;refine Z5 ?_;refine AD.guardC rfl rfl rfl rfl rfl (λhg=>YS) ?_;refine Z3 ?_;refine OL.guardC rfl rfl rfl rfl rfl rfl (λhg=>POp.call (.mk' rfl rfl rfl rfl Yd) (p52 hw (a:=c) (b:=((worldOf p).owner.getD s.toNat default)) (class_many hc) Yac)) ?_;refine Z5 ?_;refine r1 6 (H) ?_;exact⟨retB (hasCl_owner hz hc hs),rfl⟩
theorem stand_even(h:SlotsOk p t){c:Nat}(hc:1<=c):∀path:List Int,(standK p t c path).1.testBit 0=false:=λpath=>by
 rcases List.eq_nil_or_concat path with rfl | ⟨q,s,rfl⟩
 ·show (2^((c:Int).toNat)).testBit 0=false;rw[Nat.testBit_two_pow];simp;omega
 ·rw[List.concat_eq_append,stand_snoc];unfold stepK;split
  ·exact (slot_kind h _).2.2
  ·exact Nat.zero_testBit 0
theorem bits_one(h:k.testBit 0=false):bitsTo k 1= []:=by rw[bitsTo_step,h];rfl
theorem bits_no(h:k.testBit c=false):bitsTo k (c+1)=bitsTo k c:=by rw[bitsTo_step,h];simp
theorem bits_yes(h:k.testBit c=true):bitsTo k (c+1)=bitsTo k c++[c]:=by rw[bitsTo_step,h];simp
theorem next_yes2{s:Int}(h:k.testBit c=true)(h2:hasCl p c s=true)(b:Bool):nextK p t s (bitsTo k c) ||| (t.slots.getD s.toNat default).toNat=nextK p t s (bitsTo k (c+1))/\lackK p s b (bitsTo k c)=lackK p s b (bitsTo k (c+1)):=by
 rw[bits_yes h];unfold nextK lackK;rw[List.any_append,List.any_append,List.any_cons,List.any_cons,h2];refine⟨?_,Yo⟩;rw[Bool.true_or,Bool.or_true,if_pos rfl];split <;> simp
theorem next_no2{s:Int}(h:k.testBit c=true)(h2:hasCl p c s=false)(b:Bool):nextK p t s (bitsTo k c)=nextK p t s (bitsTo k (c+1))/\true=lackK p s b (bitsTo k (c+1)):=by
 rw[bits_yes h];unfold nextK lackK;rw[List.any_append,List.any_append,List.any_cons,List.any_cons,h2];exact⟨Yo,Yo⟩
theorem rAt(hz:(sizesP p).isSome=true)(hs:SlotsOk p t)(hsl:(t.slots.length:Int)=p.slots){c:Nat}(hc:1<=c/\c<manyC p){path:List Int}(hpath:∀s∈path,0<=s/\s<p.slots):PCall Tryz.prog 146 [AV.world (worldOf p),AV.tbl t,.i c,AV.ints path] (.agg [.i (standK p t c path).1,.b (standK p t c path).2]):=by
 intro H;refine aC (n:=60) Tryz.func146 λB I w0=>?_;have hm:=many_le hz;have hpw:=pow_many hz;have hpl:=world_pl p;have hml:((worldOf p).parents.length:Int)+3=manyC p:=by rw[hpl];unfold manyC;omega
 refine CW.boundM (t:=3) rfl (λhb3=>?_);refine Z4 ?_;refine OL.alC rfl rfl rfl rfl (λob=>?_);refine Z5 ?_;refine oP (POp.shift rfl rfl rfl rfl rfl Yb (ish_left c ⟨Yb,Yb⟩)) ?_;refine Z1 ?_;refine OL.alC rfl rfl rfl rfl (λsb=>?_);refine Z10 ?_;refine lj (λm st=>∃(i:Nat) (k:Nat×Bool),st=⟨[(10,.i i),(9,.p sb 0),(8,.p ob 0),(3,AV.ints path),(4,.ptr (Wcells (worldOf p))),(5,.ptr (tblA t))],.blk sb 222 [.i k.1,.b k.2]::.blk ob 222 [.val (.int .i64 0),.val (.bool false)]::H⟩/\m=path.length - i/\i<=path.length/\k=standK p t c (path.take i)) (⟨0,(2^c,false),rfl,rfl,Yb,rfl⟩) ?_;rintro m _ ⟨i,k,rfl,rfl,hi,hk⟩;refine Z9 ?_;refine cd (λh0=>?_) λh0=>?_
 ·have hil:i<path.length:=by omega
  have hklt:k.1<2^manyC p:=by rw[hk];exact stand_lt hs (by simpa using hc.2) _
  have hke:k.1.testBit 0=false:=by rw[hk];exact stand_even hs hc.1 _
  have hsi:=path_in hpath hil;have hst:=stand_take p t c hil;rw[<-hk] at hst;obtain⟨s,hse⟩:∃s,s=path.getD i default:=⟨_,rfl⟩;rw[<-hse] at hsi hst;have hsv:=slot_kind hs s.toNat;have e0:nextK p t s (bitsTo k.1 1)=0/\lackK p s k.2 (bitsTo k.1 1)=k.2:=by rw[bits_one hke];exact⟨rfl,Bool.or_false _⟩
  refine Z9 ?_;refine OL.alC rfl rfl rfl rfl (λnb=>?_);refine Z10 ?_;refine lj (λm st=>∃d:Nat,st=⟨[(12,.i d),(11,.p nb 0),(10,.i i),(9,.p sb 0),(8,.p ob 0),(3,AV.ints path),(4,.ptr (Wcells (worldOf p))),(5,.ptr (tblA t))],.blk nb 222 [.i (nextK p t s (bitsTo k.1 d)),.b (lackK p s k.2 (bitsTo k.1 d))]::.blk sb 222 [.i k.1,.b k.2]::.blk ob 222 [.val (.int .i64 0),.val (.bool false)]::H⟩/\m=manyC p - d/\1<=d/\d<=manyC p) (⟨1,by rw[e0.1,e0.2],rfl,Yb,Yb⟩) ?_;rintro m _ ⟨d,rfl,rfl,hd1,hd⟩;refine Z11 ?_;refine cd (λh1=>?_) λh1=>?_
  ·have hdl:d<manyC p:=by omega
   refine Z10 ?_;refine oP (POp.call .k (rHasB k.1 d Yb)) ?_;refine Z3 ?_;refine CW.cond rfl (λh2=>?_) (λh2=>?_)
   ·have h2:k.1.testBit d=false:=by simpa using h2
    refine Z9 ?_;exact ag (⟨d+1,by rw[bits_no h2],rfl,Yb,hdl⟩)
   ·have h2:k.1.testBit d=true:=by simpa using h2
    refine Z3 ?_;refine CW.dp mixed ?_;refine DP.anyC 0 6 60 rfl Yf rfl rfl Yf ?_;refine Z5 ?_;refine AD.popC rfl rfl rfl (POp.le (POp.ld1 rfl rfl rfl rfl) (AVle.eqI hse.symm)) ?_;refine Z2 ?_;refine oP (POp.call .k (rHasCl hz hdl hsi)) ?_;refine Z2 ?_;refine CW.cond rfl (λh3=>?_) (λh3=>?_)
    ·refine CW.dp mixed ?_;refine DP.anyC 0 10 60 rfl Yf rfl rfl Yf ?_;refine Z7 ?_;refine AD.popC rfl rfl rfl (POp.le (POp.ld1 rfl rfl rfl rfl) (AVle.eqI hse.symm)) ?_;refine AD.popC rfl rfl rfl (Yz) ?_;refine AD.popC rfl rfl rfl (POp.le (POp.ld1 rfl rfl rfl rfl) (AVle.eqI hsv.1)) ?_;refine Z2 ?_;refine oP (POp.bits rfl rfl rfl rfl rfl (ibit_or _ _ (by unfold nextK;split <;> omega) Yb)) ?_;refine Z10 ?_;exact ag (⟨d+1,by rw[<-(next_yes2 h2 h3 k.2).1, <-(next_yes2 (t:=t) h2 h3 k.2).2],rfl,Yb,hdl⟩)
    ·refine Z11 ?_;exact ag (⟨d+1,by rw[<-(next_no2 h2 h3 k.2).1, <-(next_no2 (t:=t) h2 h3 k.2).2],rfl,Yb,hdl⟩)
  ·obtain rfl:d=manyC p:=by omega
   have e1:nextK p t s (bitsTo k.1 (manyC p))=(stepK p t s k).1:=by rw[bitsTo_all hklt Yb,step_bits hklt Yb];rfl
   have e2:lackK p s k.2 (bitsTo k.1 (manyC p))=(stepK p t s k).2:=by rw[bitsTo_all hklt Yb,step_bits hklt Yb];rfl
   rw[e1,e2];refine Z16 ?_;exact ag (⟨i+1,stepK p t s k,rfl,rfl,hil,hst.symm⟩)
 ·obtain rfl:i=path.length:=by omega
  rw[List.take_length] at hk;rw[<-hk];refine Z12 ?_;refine rR [.cell 8 222] (H) ?_;exact⟨Yaz,rfl⟩
theorem and_tup(x y:Bool×Bool):tupOf [AV.b (bif x.1 then y.1 else false),AV.b (bif bif bif x.1 then y.2 else false then true else bif x.2 then y.1 else false then true else bif x.2 then y.2 else false)]= .tup [.b (andO x y).1,.b (andO x y).2]:=by
 obtain⟨a,b⟩:=x;obtain⟨c,d⟩:=y;cases a <;> cases b <;> cases c <;> cases d <;> rfl
theorem or_tup(x y:Bool×Bool):tupOf [AV.b (bif bif bif x.1 then y.1 else false then true else bif x.1 then y.2 else false then true else bif x.2 then y.1 else false),AV.b (bif x.2 then y.2 else false)]= .tup [.b (orO x y).1,.b (orO x y).2]:=by
 obtain⟨a,b⟩:=x;obtain⟨c,d⟩:=y;cases a <;> cases b <;> cases c <;> cases d <;> rfl
theorem ocr_num{f:Fact}(h0:f.op≠1)(h1:f.op≠5)(h2:f.op≠6)(h3:f.op≠7)(h4:f.op≠2){k:Nat×Bool}(hk:k=standK p t (l.getD f.arg.toNat default) f.path):tupOf [AV.b (k.1.testBit 1),AV.b (bif ((k.1:Int) !=0) then true else k.2)]= .tup [.b (outK p t l f).1,.b (outK p t l f).2]:=by
 rw[<-oc_num h0 h1 h2 h3 h4 hk];show AV.tup _=_;cases k.2 <;> cases ((k.1:Int) !=0) <;> rfl
theorem belowO_snoc(p:Prog)(c:Int)(b:Bool)(pre:List Nat)(x:Nat):belowO p c b (pre++[x])=((belowO p c b pre).1 || belowP (worldOf p) x c,(belowO p c b pre).2 || !belowP (worldOf p) x c):=by
 unfold belowO;rw[List.any_append,List.any_append,List.any_cons,List.any_cons,List.any_nil,List.any_nil,Bool.or_false,Bool.or_false,Bool.or_assoc]
theorem rOutStep(hz:(sizesP p).isSome=true)(hs:SlotsOk p t)(hsl:(t.slots.length:Int)=p.slots)(hl:∀c∈l,1<=c/\c<manyC p){f:Fact}(hf:FOk p l f)(ih:∀k∈f.kids,PCall Tryz.prog 84 [AV.world (worldOf p),AV.tbl t,AV.fact k,AV.ints l] (.tup [.b (outK p t l k).1,.b (outK p t l k).2])):PCall Tryz.prog 84 [AV.world (worldOf p),AV.tbl t,AV.fact f,AV.ints l] (.tup [.b (outK p t l f).1,.b (outK p t l f).2]):=by
 intro H;refine aC (n:=175) Tryz.func84 λB I w0=>?_;have hm:=many_le hz;have hpw:=pow_many hz;have hpl:=world_pl p;have hml:((worldOf p).parents.length:Int)+3=manyC p:=by rw[hpl];unfold manyC;omega
 have hw:=(heads_of hz).world;refine Z23 ?_;refine cd (λh0=>?_) λh0=>?_
 ·refine Z9 ?_;refine rR [.tmp 8,.tmp 9] (H) ?_;exact⟨by rw[outK_one h0];rfl,rfl⟩
 ·refine Z6 ?_;refine cd (λh1=>?_) λh1=>?_
  ·have hk1:=hf.ops.1 h1;refine Z1 ?_;refine CW.dp mixed ?_;refine DP.anyC 0 7 175 rfl Yf rfl rfl Yf ?_;refine Z9 ?_;refine oP (POp.call .k (ih _ (getD_memB Yb))) ?_;refine Z6 ?_;refine DP.anyC 9 12 175 rfl Yf rfl rfl Yf ?_;refine Z19 ?_;refine rR [.tmp 8,.tmp 9] (H) ?_;exact⟨by rw[outK_five h1 hk1];rfl,rfl⟩
  ·refine Z6 ?_;refine cd (λh2=>?_) λh2=>?_
   ·have hk2:=hf.ops.2.1 (.inl h2);refine Z1 ?_;refine CW.dp mixed ?_;refine DP.anyC 0 7 175 rfl Yf rfl rfl Yf ?_;refine Z9 ?_;refine oP (POp.call .k (ih _ (getD_memB Yb))) ?_;refine Z6 ?_;refine DP.anyC 9 12 175 rfl Yf rfl rfl Yf ?_;refine Z9 ?_;refine CW.dp mixed ?_;refine DP.anyC 0 7 175 rfl Yf rfl rfl Yf ?_;refine Z9 ?_;refine oP (POp.call .k (ih _ (getD_memB Yb))) ?_;refine Z6 ?_;refine DP.anyC 9 12 175 rfl Yf rfl rfl Yf ?_;refine Z37 ?_;refine rR [.tmp 8,.tmp 9] (H) ?_;exact⟨by rw[outK_six h2 hk2];exact and_tup _ _,rfl⟩
   ·refine Z6 ?_;refine cd (λh3=>?_) λh3=>?_
    ·have hk2:=hf.ops.2.1 (.inr h3);refine Z1 ?_;refine CW.dp mixed ?_;refine DP.anyC 0 7 175 rfl Yf rfl rfl Yf ?_;refine Z9 ?_;refine oP (POp.call .k (ih _ (getD_memB Yb))) ?_;refine Z6 ?_;refine DP.anyC 9 12 175 rfl Yf rfl rfl Yf ?_;refine Z9 ?_;refine CW.dp mixed ?_;refine DP.anyC 0 7 175 rfl Yf rfl rfl Yf ?_;refine Z9 ?_;refine oP (POp.call .k (ih _ (getD_memB Yb))) ?_;refine Z6 ?_;refine DP.anyC 9 12 175 rfl Yf rfl rfl Yf ?_;refine Z37 ?_;refine rR [.tmp 8,.tmp 9] (H) ?_;exact⟨by rw[outK_seven h3 hk2];exact or_tup _ _,rfl⟩
    ·have hlf:=hf.ops.2.2 h0 h1 h2 h3;obtain⟨ha,hpa,_,hcl⟩:=hf.leaf hlf;have hcm:=hl _ (getD_memB (k:=f.arg.toNat) (l:=l) Yb);obtain⟨c,hc⟩:∃c:Nat,l.getD f.arg.toNat default=c:=⟨(l.getD f.arg.toNat default).toNat,Yb⟩;have hso:=owner_slots hz;have hst:PCall Tryz.prog 146 [AV.world (worldOf p),AV.tbl t,.i c,AV.ints f.path] _:=rAt hz hs hsl ⟨Yb,Yb⟩ (λs h=>⟨(hpa s h).1,by have:=(hpa s h).2;omega⟩);obtain⟨k,hk⟩:∃k,k=standK p t (l.getD f.arg.toNat default) f.path:=⟨_,rfl⟩;have hklt:k.1<2^manyC p:=by rw[hk];exact stand_lt hs Yb _
     have hke:k.1.testBit 0=false:=by rw[hk,hc];exact stand_even hs Yb _
     rw[<-hc, <-hk] at hst;refine Z4 ?_;refine CW.dp mixed ?_;refine DP.anyV [⟨10,20,222,[.int .i64 0,.bool false],11,[.i k.1,.b k.2]⟩] 0 12 175 rfl Yf Ya rfl rfl Yf ?_;refine UD.popV rfl rfl rfl rfl (YA) ?_;refine UD.popV rfl rfl rfl rfl (YA) ?_;refine UD.popV rfl rfl rfl rfl (POp.move rfl rfl rfl) ?_;refine UD.popV rfl rfl rfl rfl (YB) ?_;refine UD.popV rfl rfl rfl rfl (Yi) ?_;refine UD.popV rfl rfl rfl rfl (Yz) ?_;refine UD.popV rfl rfl rfl rfl (Yi) ?_;refine UD.popV rfl rfl rfl rfl (YB) ?_;refine UD.popV rfl rfl rfl rfl (Yi) ?_;refine UD.popV rfl rfl rfl rfl (POp.call .k (hst)) ?_;refine UD.effV [] [] ⟨10,20,222,[.int .i64 0,.bool false],11,[.i k.1,.b k.2]⟩ rfl ⟨0,12,Ya⟩ rfl rfl rfl rfl rfl rfl rfl ?_;refine UD.stoV [] [] ⟨10,20,222,[.int .i64 0,.bool false],11,[.i k.1,.b k.2]⟩ rfl ⟨0,12,Ya⟩ rfl rfl rfl (λb H1 H2 hu=>.store rfl rfl rfl rfl rfl rfl rfl rfl hu Yav Yav) ?_;refine UD.nil (λbs=>?_);simp only[List.map_cons,List.map_nil,List.cons_append,List.nil_append];refine DP.done rfl ?_;refine Z3 ?_;refine CW.freezeP (d:=20) rfl Ys ?_;refine Z6 ?_;refine cd (λh4=>?_) λh4=>?_
     ·refine Z1 ?_;refine CW.dp mixed ?_;refine DP.anyC 0 6 175 rfl Yf rfl rfl Yf ?_;refine Z2 ?_;refine AD.popC rfl rfl rfl (POp.call .k (rHasB _ 1 Yb)) ?_;refine Z8 ?_;refine DP.anyC 7 11 175 rfl Yf rfl rfl Yf ?_;refine Z11 ?_;refine rR [.tmp 8,.tmp 9] (H) ?_;exact⟨ocr_num h0 h1 h2 h3 h4 hk,rfl⟩
     ·have hcl2:=hcl h4;have hcp:classP (worldOf p) f.cls=true:=classP_iff.2 ⟨Yb,Yb⟩;refine Z3 ?_;refine CW.dp mixed ?_;refine DP.anyC 0 3 175 rfl Yf rfl rfl Yf ?_;refine Z15 ?_;refine lj (λm st=>∃(d:Nat) (y:Bool×Bool),st=⟨[(23,.i d),(21,.b y.1),(22,.b y.2),(20,.ptr [.i k.1,.b k.2]),(4,.ptr (Wcells (worldOf p))),(6,.ptr (Fcells f))],H⟩/\m=manyC p - d/\1<=d/\d<=manyC p/\y=belowO p f.cls k.2 (bitsTo k.1 d)) (⟨1,(false,k.2),rfl,rfl,Yb,Yb,by rw[bits_one hke];simp[belowO]⟩) ?_;rintro m _ ⟨d,y,rfl,rfl,hd1,hd,hy⟩;refine Z11 ?_;refine cd (λh5=>?_) λh5=>?_
      ·have hdl:d<manyC p:=by omega
       refine Z9 ?_;refine oP (POp.call .k (rHasB k.1 d Yb)) ?_;refine Z2 ?_;refine CW.cond rfl (λh6=>?_) (λh6=>?_)
       ·refine Z6 ?_;refine oP (POp.call .k (p52 hw (class_many hdl) hcp)) ?_;refine Z2 ?_;refine CW.cond rfl (λh7=>?_) (λh7=>?_)
        ·refine Z10 ?_;exact ag (⟨d+1,(true,y.2),rfl,rfl,Yb,hdl,by rw[bits_yes h6,belowO_snoc, <-hy,h7];simp⟩)
        ·refine Z10 ?_;exact ag (⟨d+1,(y.1,true),rfl,rfl,Yb,hdl,by rw[bits_yes h6,belowO_snoc, <-hy,h7];simp⟩)
       ·refine Z8 ?_;exact ag (⟨d+1,y,rfl,rfl,Yb,hdl,by rw[bits_no h6];exact hy⟩)
      ·obtain rfl:d=manyC p:=by omega
       rw[bitsTo_all hklt Yb,oc_is Yb h4 hk hklt] at hy;refine Z14 ?_;refine rR [.tmp 8,.tmp 9] (H) ?_;exact⟨by rw[<-hy];rfl,rfl⟩
theorem rOutC(hz:(sizesP p).isSome=true)(hs:SlotsOk p t)(hsl:(t.slots.length:Int)=p.slots)(hl:∀c∈l,1<=c/\c<manyC p):∀f:Fact,FOk p l f->PCall Tryz.prog 84 [AV.world (worldOf p),AV.tbl t,AV.fact f,AV.ints l] (.tup [.b (outK p t l f).1,.b (outK p t l f).2]):=Fact.ind1 λf ih hf=>rOutStep hz hs hsl hl hf λk hk=>ih k hk (hf.kid k hk)
theorem ask_bif2(Z T M E:Bool):(bif bif bif !Z then true else !T then true else !M then true else !E)= !(Z && T && M && E):=by cases Z <;> cases T <;> cases M <;> rfl
theorem hg_zm{Z T M:Bool}(h:(!bif bif !Z then true else !T then true else !M)=true):Z=true/\M=true:=by revert h;cases Z <;> cases T <;> cases M <;> simp
theorem class_bif(c:Int):(bif decide (c<1) then true else decide (c>=3+(p.classes.length:Int)))= !classOk p c:=by
 unfold classOk;rw[show decide (c<1)= !decide (c>0) by rw[Bool.eq_iff_iff];simp;omega,show decide (c>=3+(p.classes.length:Int))= !decide (c<manyC p) by rw[Bool.eq_iff_iff];unfold manyC;simp];cases decide (c>0) <;> rfl
theorem rOuts(hp:p.Small)(t:Tbl)(n:Int)(l:List Int):PCall Tryz.prog 20 [AV.prog p,AV.tbl t,.i n,AV.ints l] (outsP p t n l):=by
 intro H;refine aC (n:=82) Tryz.func20 λB I w0=>?_;refine CW.boundM (t:=3) rfl (λhb3=>?_);refine Z11 ?_;refine CW.dp mixed ?_;refine Z5 ?_;refine oP (POp.call .k (rProg hp)) ?_;refine Z10 ?_;refine DP.anyC 4 6 82 rfl Yf rfl rfl Yf ?_;refine Z4 ?_;refine OL.guardC rfl rfl rfl rfl rfl rfl (λhg=>POp.call (.mk' rfl rfl rfl rfl Yd) (rGoodT (by simpa using hg) t)) ?_;refine Z14 ?_;refine DP.anyC 10 12 82 rfl Yf rfl rfl Yf ?_;refine Z4 ?_;refine OL.guardC rfl rfl rfl rfl rfl rfl (λhg=>POp.call (.mk' rfl rfl rfl rfl Yd) (rMethodV p n)) ?_;refine Z14 ?_;refine DP.anyC 16 28 82 rfl Yf rfl rfl Yf ?_;refine Z7 ?_;refine AD.guardC rfl rfl rfl rfl rfl (λhg=>(by first | exact POp.ixM rfl rfl (gd hg) rfl (gd hg) ⟨Yat,Yat⟩ | exact POp.ixI rfl rfl (gd hg) rfl (gd hg) ⟨Yat,Yat⟩)) ?_;refine Z2 ?_;refine AD.guardC rfl rfl rfl rfl rfl (λhg=>(by first | exact POp.ixM rfl rfl (gd hg) rfl (gd hg) ⟨YX,YX⟩ | exact POp.ixI rfl rfl (gd hg) rfl (gd hg) ⟨YX,YX⟩)) ?_;refine Z7 ?_;rw[bne,ask_bif2];refine CW.cond rfl (λh0=>?_) (λh0=>?_)
 ·rw[Bool.not_eq_true'] at h0;have hk:askO p t n l=false:=by unfold askO tableP;rw[show ((l.length:Int)==argsM p n)=((l.length:Int)==p.gens.getD (p.methods.getD n.toNat default).gen.toNat default) from rfl,h0,Bool.false_and]
  refine Z9 ?_;refine rR [.tmp 8,.tmp 9,.tmp 10] (H) ?_;exact⟨by rw[ask_no hk];rfl,rfl⟩
 ·rw[Bool.not_eq_false'] at h0;have hk:askO p t n l=l.all (classOk p):=by unfold askO tableP;rw[show ((l.length:Int)==argsM p n)=((l.length:Int)==p.gens.getD (p.methods.getD n.toNat default).gen.toNat default) from rfl,h0,Bool.true_and]
  simp only[Bool.and_eq_true,beq_iff_eq] at h0;obtain⟨⟨⟨hz,ht⟩,hn⟩,hll⟩:=h0;have hll:(l.length:Int)=argsM p n:=hll;obtain⟨hs,hsl,_⟩:=tblOk_parts ht;have hn2:=mth_in hn;have hm:=many_le hz;have hcl13:(p.classes.length:Int)<=13:=by unfold manyC at hm;omega
  refine Z9 ?_;refine lj (λm st=>∃i:Nat,st=⟨[(11,.i i),(3,AV.ints l),(2,.i n),(4,.ptr (progC p)),(5,.ptr (tblA t))],H⟩/\m=l.length - i/\i<=l.length/\(l.take i).all (classOk p)=true) (⟨0,rfl,rfl,Yb,rfl⟩) ?_;rintro m _ ⟨i,rfl,rfl,hi,hA⟩;refine Z9 ?_;refine cd (λh1=>?_) λh1=>?_
  ·have hil:i<l.length:=by omega
   refine Z5 ?_;refine CW.dp mixed ?_;refine DP.anyC 0 2 82 rfl Yf rfl rfl Yf ?_;refine Z19 ?_;refine DP.anyC 6 14 82 rfl Yf rfl rfl Yf ?_;refine Z14 ?_;rw[class_bif];refine CW.cond rfl (λh2=>?_) (λh2=>?_)
   ·rw[Bool.not_eq_true'] at h2;refine Z13 ?_;refine rR [.tmp 8,.tmp 9,.tmp 10] (H) ?_;exact⟨by rw[ask_no (by rw[hk];exact all_no hil h2)];rfl,rfl⟩
   ·rw[Bool.not_eq_false'] at h2;refine Z8 ?_;exact ag (⟨i+1,rfl,rfl,hil,all_step hil hA h2⟩)
  ·obtain rfl:i=l.length:=by omega
   rw[List.take_length] at hA;rw[hA] at hk;have hcl:∀c∈l,1<=c/\c<manyC p:=λc hc=>classOk_iff.1 (List.all_eq_true.1 hA c hc);refine Z6 ?_;refine CW.dp mixed ?_;refine DP.anyC 0 10 82 rfl Yf rfl rfl Yf ?_;refine Z1 ?_;refine AD.popC rfl rfl rfl (POp.call .k (world_of hp hz)) ?_;refine Z4 ?_;refine AD.popC rfl rfl rfl (Yz) ?_;refine Z5 ?_;refine oP (POp.call .k (rOutC hz hs hsl hcl _ (mth_fact hz hn hll))) ?_;refine Z6 ?_;refine DP.anyC 12 15 82 rfl Yf rfl rfl Yf ?_;refine Z18 ?_;refine rR [.tmp 8,.tmp 9,.tmp 10] (H) ?_;exact⟨by rw[outsP,if_pos hk];rfl,rfl⟩
def largeP(t:Tbl):Bool:=decide (t.reached.length>60) || decide (t.params.length>60) || decide (t.nodes.length>200) || decide (t.slots.length>60) || t.params.any λl=>decide (l.length>10)
theorem any_step{α:Type}[Inhabited α]{l:List α}{i:Nat}{p:α->Bool}(hi:i<l.length)(h:(l.take i).any p=false)(h2:p (l.getD i default)=false):(l.take (i+1)).any p=false:=by rw[<-take_getD hi,List.any_append,h,List.any_cons,h2];rfl
theorem any_yes{α:Type}[Inhabited α]{l:List α}{i:Nat}{p:α->Bool}(hi:i<l.length)(h2:p (l.getD i default)=true):l.any p=true:=List.any_eq_true.2 ⟨_,getD_memB hi,h2⟩
theorem large_bif(A B C D:Bool):(bif bif bif A then true else B then true else C then true else D)=(A || B || C || D):=by cases A <;> cases B <;> cases C <;> rfl
theorem gt_cast(a:Nat)(b:Nat):decide ((a:Int)>(b:Int))=decide (a>b):=by rw[Bool.eq_iff_iff];simp
theorem largeC(t:Tbl):PCall Tryz.prog 17 [AV.tbl t] (.b (largeP t)):=by
 intro H;refine aC (n:=40) Tryz.func17 λB I w0=>?_;have e1:decide ((t.reached.length:Int)>60)=decide (t.reached.length>60):=gt_cast _ 60;have e2:decide ((t.params.length:Int)>60)=decide (t.params.length>60):=gt_cast _ 60;have e3:decide ((t.nodes.length:Int)>200)=decide (t.nodes.length>200):=gt_cast _ 200;have e4:decide ((t.slots.length:Int)>60)=decide (t.slots.length>60):=gt_cast _ 60;refine Z33 ?_;rw[large_bif,e1,e2,e3,e4];refine CW.cond rfl (λh0=>?_) (λh0=>?_)
 ·refine Z7 ?_;refine r1 2 (H) ?_;exact⟨retB (by unfold largeP;rw[h0];rfl),rfl⟩
 ·have hpl:t.params.length<=60:=by simp only[Bool.or_eq_false_iff,decide_eq_false_iff_not] at h0;omega
  refine Z9 ?_;refine lj (λm st=>∃i:Nat,st=⟨[(3,.i i),(1,.ptr (tblA t))],H⟩/\m=t.params.length - i/\i<=t.params.length/\((t.params.take i).any λl=>decide (l.length>10))=false) (⟨0,rfl,rfl,Yb,rfl⟩) ?_;rintro m _ ⟨i,rfl,rfl,hi,hA⟩;refine Z10 ?_;refine cd (λh1=>?_) λh1=>?_
  ·have hil:i<t.params.length:=by omega
   refine Z15 ?_;refine cd (λh2=>?_) λh2=>?_
   ·have h2:decide ((t.params.getD i default).length>10)=true:=by rw[decide_eq_true_eq];omega
    refine Z11 ?_;refine r1 2 (H) ?_;exact⟨retB (by unfold largeP;rw[any_yes hil h2,Bool.or_true]),rfl⟩
   ·have h2:decide ((t.params.getD i default).length>10)=false:=by rw[decide_eq_false_iff_not];omega
    refine Z8 ?_;exact ag (⟨i+1,rfl,rfl,hil,any_step hil hA h2⟩)
  ·obtain rfl:i=t.params.length:=by omega
   rw[List.take_length] at hA;refine Z11 ?_;refine r1 2 (H) ?_;exact⟨retB (by unfold largeP;rw[h0,hA];rfl),rfl⟩
theorem outs_tup(p:Prog)(t:Tbl)(n:Int)(l:List Int):∃a b e,outsP p t n l= .tup [.b a,.b b,.i e]:=by
 unfold outsP;split
 ·exact⟨_,_,_,rfl⟩
 ·exact⟨_,_,_,rfl⟩
theorem kindOutcomesC(hk:PCall Tryz.prog 18 [] (.b true)){p:Prog}(hp:p.Small)(t:Tbl)(n:Int)(l:List Int):PCall Tryz.prog 5 [AV.prog p,AV.tbl t,.i n,AV.ints l] (.b true):=by
 intro H;refine aC (n:=66) Tryz.func5 λB I w0=>?_;have h1:=outsCall hp t n l;have h2:=rOuts hp t n l;obtain⟨a,b,e,he⟩:=outs_tup p t n l;rw[he] at h1 h2;refine Z11 ?_;refine oP (POp.call .k (largeC t)) ?_;refine Z7 ?_;refine CW.cond rfl (λh0=>?_) (λh0=>?_)
 ·refine Z2 ?_;refine oP (POp.call .k (hk)) ?_;refine Z5 ?_;refine r1 8 (H) ?_;exact⟨Yaz,rfl⟩
 ·refine Z8 ?_;refine oP (POp.call .k (h1)) ?_;refine Z15 ?_;refine oP (POp.call .k (h2)) ?_;refine Z10 ?_;refine CW.dp mixed ?_;refine DP.anyC 0 5 66 rfl Yf rfl rfl Yf ?_;refine Z2 ?_;refine AD.popC rfl rfl rfl (POp.call .k (checkKd hp t)) ?_;refine Z4 ?_;refine oP (POp.call .k (rCheckT hp t)) ?_;refine Z10 ?_;refine DP.anyC 8 10 66 rfl Yf rfl rfl Yf ?_;refine Z15 ?_;refine DP.anyC 13 15 66 rfl Yf rfl rfl Yf ?_;refine Z15 ?_;refine DP.anyC 18 20 66 rfl Yf rfl rfl Yf ?_;refine Z7 ?_;refine OL.guardC rfl rfl rfl rfl rfl rfl (λhg=>POp.call .k (hk)) ?_;refine Z5 ?_;refine r1 8 (H) ?_;exact⟨retB Yo,rfl⟩
end Go.Proofs.YtogjaoodkaahoaaGreat
