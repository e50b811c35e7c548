/- Part 31 of the proof: contracts of functions of the program and what they need. No condition beyond those that each theorem names. -/
import Derived.Test.YtogjaoodkaahoaaGreatKindMaysP30
set_option maxHeartbeats 1000000
set_option linter.unusedVariables false
set_option linter.unusedSimpArgs false
set_option maxRecDepth 10000
namespace Go.Proofs.YtogjaoodkaahoaaGreat
open Go.Eng
open Go.Eng.Fc
open Go.Eng.Bd
variable{p:Prog}{t:Tbl}{k c B n j:Nat}{l kinds x:List Int}{α:Type}{L:List (List Int)}
theorem hasCl_owner(hz:(sizesP p).isSome=true){c:Nat}(hc:c<manyC p){s:Int}(hs:0<=s/\s<p.slots):(bif decide ((c:Int)>=3) then belowP (worldOf p) c ((worldOf p).owner.getD s.toNat default) else false)=hasCl p c s:=by
 obtain⟨o,ho⟩:=Option.isSome_iff_exists.1 hz;have hH:=Heads.of (sizes_parts ho).1;have how:=owner_slots hz;unfold hasCl;by_cases h3:3<=c
 ·rw[show decide ((c:Int)>=3)=true by simp;omega,show decide (3<=c)=true by simp[h3],has_slots hH Ya (by unfold manyC at hc;omega),has_in];rw[show decide (0<=s)=true by simp;omega,show decide (s<((worldOf p).owner.length:Int))=true by simp;omega];rfl
 ·rw[show decide ((c:Int)>=3)=false by simp;omega,show decide (3<=c)=false by simp;omega];rfl
theorem rHasCl(hz:(sizesP p).isSome=true){c:Nat}(hc:c<manyC p){s:Int}(hs:0<=s/\s<p.slots):PCall Tryz.prog 174 [AV.world (worldOf p),.i c,.i s] (.b (hasCl p c s)):=by
 intro H;refine aC (n:=19) Tryz.func174 λB I w0=>?_;have hw:=(heads_of hz).world;have how:=owner_slots hz;have ho:=world_ownR hw (s:=s.toNat) Ya;refine Z7 ?_;refine CW.dp mixed ?_;refine Z12 ?_;refine DP.anyC 3 10 19 rfl Yf rfl rfl Yf ?_;refine Z5 ?_;refine AD.guardC rfl rfl rfl rfl rfl (λhg=>Y1) ?_;refine Z3 ?_;refine OL.guardC rfl rfl rfl rfl rfl rfl (λhg=>POp.call (.mk' rfl rfl rfl rfl Yd) (p52 hw (a:=c) (b:=((worldOf p).owner.getD s.toNat default)) (class_many hc) Yal)) ?_;refine Z5 ?_;refine r1 6 (H) ?_;exact⟨retB (hasCl_owner hz hc hs),rfl⟩
theorem stand_even(h:SlotsOk p t){c:Nat}(hc:1<=c):∀path:List Int,(standK p t c path).1.testBit 0=false:=λpath=>by
 rcases List.eq_nil_or_concat path with rfl | ⟨q,s,rfl⟩
 ·show (2^((c:Int).toNat)).testBit 0=false;rw[Nat.testBit_two_pow];simp;omega
 ·rw[List.concat_eq_append,stand_snoc];unfold stepK;split
  ·exact (slot_kind h _).2.2
  ·exact Nat.zero_testBit 0
theorem bits_one(h:k.testBit 0=false):bitsTo k 1= []:=by rw[bitsTo_step,h];rfl
theorem bits_no(h:k.testBit c=false):bitsTo k (c+1)=bitsTo k c:=by rw[bitsTo_step,h];simp
theorem bits_yes(h:k.testBit c=true):bitsTo k (c+1)=bitsTo k c++[c]:=by rw[bitsTo_step,h];simp
theorem next_yes2{s:Int}(h:k.testBit c=true)(h2:hasCl p c s=true)(b:Bool):nextK p t s (bitsTo k c) ||| (t.slots.getD s.toNat default).toNat=nextK p t s (bitsTo k (c+1))/\lackK p s b (bitsTo k c)=lackK p s b (bitsTo k (c+1)):=by
 rw[bits_yes h];unfold nextK lackK;rw[List.any_append,List.any_append,List.any_cons,List.any_cons,h2];refine⟨?_,Yo⟩;rw[Bool.true_or,Bool.or_true,if_pos rfl];split <;> simp
theorem next_no2{s:Int}(h:k.testBit c=true)(h2:hasCl p c s=false)(b:Bool):nextK p t s (bitsTo k c)=nextK p t s (bitsTo k (c+1))/\true=lackK p s b (bitsTo k (c+1)):=by
 rw[bits_yes h];unfold nextK lackK;rw[List.any_append,List.any_append,List.any_cons,List.any_cons,h2];exact⟨Yo,Yo⟩
theorem rAt(hz:(sizesP p).isSome=true)(hs:SlotsOk p t)(hsl:(t.slots.length:Int)=p.slots){c:Nat}(hc:1<=c/\c<manyC p){path:List Int}(hpath:∀s∈path,0<=s/\s<p.slots):PCall Tryz.prog 146 [AV.world (worldOf p),AV.tbl t,.i c,AV.ints path] (.agg [.i (standK p t c path).1,.b (standK p t c path).2]):=by
 intro H;refine aC (n:=60) Tryz.func146 λB I w0=>?_;have hm:=many_le hz;have hpw:=pow_many hz;have hpl:=world_pl p;have hml:((worldOf p).parents.length:Int)+3=manyC p:=by rw[hpl];unfold manyC;omega
 refine CW.boundM (t:=3) rfl (λhb3=>?_);refine Z4 ?_;refine OL.alC rfl rfl rfl rfl (λob=>?_);refine Z5 ?_;refine oP (POp.shift rfl rfl rfl rfl rfl Ya (ish_left c ⟨Ya,Ya⟩)) ?_;refine Z1 ?_;refine OL.alC rfl rfl rfl rfl (λsb=>?_);refine Z10 ?_;refine lj (λm st=>∃(i:Nat) (k:Nat×Bool),st=⟨[(10,.i i),(9,.p sb 0),(8,.p ob 0),(3,AV.ints path),(4,.ptr (Wcells (worldOf p))),(5,.ptr (tblA t))],.blk sb 222 [.i k.1,.b k.2]::.blk ob 222 [.val (.int .i64 0),.val (.bool false)]::H⟩/\m=path.length - i/\i<=path.length/\k=standK p t c (path.take i)) (⟨0,(2^c,false),rfl,rfl,Ya,rfl⟩) ?_;rintro m _ ⟨i,k,rfl,rfl,hi,hk⟩;refine Z9 ?_;refine cd (λh0=>?_) λh0=>?_
 ·have hil:i<path.length:=by omega
  have hklt:k.1<2^manyC p:=by rw[hk];exact stand_lt hs (by simpa using hc.2) _
  have hke:k.1.testBit 0=false:=by rw[hk];exact stand_even hs hc.1 _
  have hsi:=path_in hpath hil;have hst:=stand_take p t c hil;rw[<-hk] at hst;obtain⟨s,hse⟩:∃s,s=path.getD i default:=⟨_,rfl⟩;rw[<-hse] at hsi hst;have hsv:=slot_kind hs s.toNat;have e0:nextK p t s (bitsTo k.1 1)=0/\lackK p s k.2 (bitsTo k.1 1)=k.2:=by rw[bits_one hke];exact⟨rfl,Bool.or_false _⟩
  refine Z9 ?_;refine OL.alC rfl rfl rfl rfl (λnb=>?_);refine Z10 ?_;refine lj (λm st=>∃d:Nat,st=⟨[(12,.i d),(11,.p nb 0),(10,.i i),(9,.p sb 0),(8,.p ob 0),(3,AV.ints path),(4,.ptr (Wcells (worldOf p))),(5,.ptr (tblA t))],.blk nb 222 [.i (nextK p t s (bitsTo k.1 d)),.b (lackK p s k.2 (bitsTo k.1 d))]::.blk sb 222 [.i k.1,.b k.2]::.blk ob 222 [.val (.int .i64 0),.val (.bool false)]::H⟩/\m=manyC p - d/\1<=d/\d<=manyC p) (⟨1,by rw[e0.1,e0.2],rfl,Ya,Ya⟩) ?_;rintro m _ ⟨d,rfl,rfl,hd1,hd⟩;refine Z11 ?_;refine cd (λh1=>?_) λh1=>?_
  ·have hdl:d<manyC p:=by omega
   refine Z10 ?_;refine oP (POp.call .k (rHasB k.1 d Ya)) ?_;refine Z3 ?_;refine CW.cond rfl (λh2=>?_) (λh2=>?_)
   ·have h2:k.1.testBit d=false:=by simpa using h2
    refine Z9 ?_;exact ag (⟨d+1,by rw[bits_no h2],rfl,Ya,hdl⟩)
   ·have h2:k.1.testBit d=true:=by simpa using h2
    refine Z3 ?_;refine CW.dp mixed ?_;refine DP.anyC 0 6 60 rfl Yf rfl rfl Yf ?_;refine Z5 ?_;refine AD.popC rfl rfl rfl (POp.le (POp.ld1 rfl rfl rfl rfl) (AVle.eqI hse.symm)) ?_;refine Z2 ?_;refine oP (POp.call .k (rHasCl hz hdl hsi)) ?_;refine Z2 ?_;refine CW.cond rfl (λh3=>?_) (λh3=>?_)
    ·refine CW.dp mixed ?_;refine DP.anyC 0 10 60 rfl Yf rfl rfl Yf ?_;refine Z7 ?_;refine AD.popC rfl rfl rfl (POp.le (POp.ld1 rfl rfl rfl rfl) (AVle.eqI hse.symm)) ?_;refine AD.popC rfl rfl rfl (YN) ?_;refine AD.popC rfl rfl rfl (POp.le (POp.ld1 rfl rfl rfl rfl) (AVle.eqI hsv.1)) ?_;refine Z2 ?_;refine oP (POp.bits rfl rfl rfl rfl rfl (ibit_or _ _ (by unfold nextK;split <;> omega) Ya)) ?_;refine Z10 ?_;exact ag (⟨d+1,by rw[<-(next_yes2 h2 h3 k.2).1, <-(next_yes2 (t:=t) h2 h3 k.2).2],rfl,Ya,hdl⟩)
    ·refine Z11 ?_;exact ag (⟨d+1,by rw[<-(next_no2 h2 h3 k.2).1, <-(next_no2 (t:=t) h2 h3 k.2).2],rfl,Ya,hdl⟩)
  ·obtain rfl:d=manyC p:=by omega
   have e1:nextK p t s (bitsTo k.1 (manyC p))=(stepK p t s k).1:=by rw[bitsTo_all hklt Ya,step_bits hklt Ya];rfl
   have e2:lackK p s k.2 (bitsTo k.1 (manyC p))=(stepK p t s k).2:=by rw[bitsTo_all hklt Ya,step_bits hklt Ya];rfl
   rw[e1,e2];refine Z16 ?_;exact ag (⟨i+1,stepK p t s k,rfl,rfl,hil,hst.symm⟩)
 ·obtain rfl:i=path.length:=by omega
  rw[List.take_length] at hk;rw[<-hk];refine Z12 ?_;refine rR [.cell 8 222] (H) ?_;exact⟨Yax,rfl⟩
theorem and_tup(x y:Bool×Bool):tupOf [AV.b (bif x.1 then y.1 else false),AV.b (bif bif bif x.1 then y.2 else false then true else bif x.2 then y.1 else false then true else bif x.2 then y.2 else false)]= .tup [.b (andO x y).1,.b (andO x y).2]:=by
 obtain⟨a,b⟩:=x;obtain⟨c,d⟩:=y;cases a <;> cases b <;> cases c <;> cases d <;> rfl
theorem or_tup(x y:Bool×Bool):tupOf [AV.b (bif bif bif x.1 then y.1 else false then true else bif x.1 then y.2 else false then true else bif x.2 then y.1 else false),AV.b (bif x.2 then y.2 else false)]= .tup [.b (orO x y).1,.b (orO x y).2]:=by
 obtain⟨a,b⟩:=x;obtain⟨c,d⟩:=y;cases a <;> cases b <;> cases c <;> cases d <;> rfl
theorem ocr_num{f:Fact}(h0:f.op≠1)(h1:f.op≠5)(h2:f.op≠6)(h3:f.op≠7)(h4:f.op≠2){k:Nat×Bool}(hk:k=standK p t (l.getD f.arg.toNat default) f.path):tupOf [AV.b (k.1.testBit 1),AV.b (bif ((k.1:Int) !=0) then true else k.2)]= .tup [.b (outK p t l f).1,.b (outK p t l f).2]:=by
 rw[<-oc_num h0 h1 h2 h3 h4 hk];show AV.tup _=_;cases k.2 <;> cases ((k.1:Int) !=0) <;> rfl
theorem belowO_snoc(p:Prog)(c:Int)(b:Bool)(pre:List Nat)(x:Nat):belowO p c b (pre++[x])=((belowO p c b pre).1 || belowP (worldOf p) x c,(belowO p c b pre).2 || !belowP (worldOf p) x c):=by
 unfold belowO;rw[List.any_append,List.any_append,List.any_cons,List.any_cons,List.any_nil,List.any_nil,Bool.or_false,Bool.or_false,Bool.or_assoc]
theorem rOutStep(hz:(sizesP p).isSome=true)(hs:SlotsOk p t)(hsl:(t.slots.length:Int)=p.slots)(hl:∀c∈l,1<=c/\c<manyC p){f:Fact}(hf:FOk p l f)(ih:∀k∈f.kids,PCall Tryz.prog 84 [AV.world (worldOf p),AV.tbl t,AV.fact k,AV.ints l] (.tup [.b (outK p t l k).1,.b (outK p t l k).2])):PCall Tryz.prog 84 [AV.world (worldOf p),AV.tbl t,AV.fact f,AV.ints l] (.tup [.b (outK p t l f).1,.b (outK p t l f).2]):=by
 intro H;refine aC (n:=175) Tryz.func84 λB I w0=>?_;have hm:=many_le hz;have hpw:=pow_many hz;have hpl:=world_pl p;have hml:((worldOf p).parents.length:Int)+3=manyC p:=by rw[hpl];unfold manyC;omega
 have hw:=(heads_of hz).world;refine Z23 ?_;refine cd (λh0=>?_) λh0=>?_
 ·refine Z9 ?_;refine rR [.tmp 8,.tmp 9] (H) ?_;exact⟨by rw[outK_one h0];rfl,rfl⟩
 ·refine Z6 ?_;refine cd (λh1=>?_) λh1=>?_
  ·have hk1:=hf.ops.1 h1;refine Z1 ?_;refine CW.dp mixed ?_;refine DP.anyC 0 7 175 rfl Yf rfl rfl Yf ?_;refine Z9 ?_;refine oP (POp.call .k (ih _ (getD_memB Ya))) ?_;refine Z6 ?_;refine DP.anyC 9 12 175 rfl Yf rfl rfl Yf ?_;refine Z19 ?_;refine rR [.tmp 8,.tmp 9] (H) ?_;exact⟨by rw[outK_five h1 hk1];rfl,rfl⟩
  ·refine Z6 ?_;refine cd (λh2=>?_) λh2=>?_
   ·have hk2:=hf.ops.2.1 (.inl h2);refine Z1 ?_;refine CW.dp mixed ?_;refine DP.anyC 0 7 175 rfl Yf rfl rfl Yf ?_;refine Z9 ?_;refine oP (POp.call .k (ih _ (getD_memB Ya))) ?_;refine Z6 ?_;refine DP.anyC 9 12 175 rfl Yf rfl rfl Yf ?_;refine Z9 ?_;refine CW.dp mixed ?_;refine DP.anyC 0 7 175 rfl Yf rfl rfl Yf ?_;refine Z9 ?_;refine oP (POp.call .k (ih _ (getD_memB Ya))) ?_;refine Z6 ?_;refine DP.anyC 9 12 175 rfl Yf rfl rfl Yf ?_;refine Z37 ?_;refine rR [.tmp 8,.tmp 9] (H) ?_;exact⟨by rw[outK_six h2 hk2];exact and_tup _ _,rfl⟩
   ·refine Z6 ?_;refine cd (λh3=>?_) λh3=>?_
    ·have hk2:=hf.ops.2.1 (.inr h3);refine Z1 ?_;refine CW.dp mixed ?_;refine DP.anyC 0 7 175 rfl Yf rfl rfl Yf ?_;refine Z9 ?_;refine oP (POp.call .k (ih _ (getD_memB Ya))) ?_;refine Z6 ?_;refine DP.anyC 9 12 175 rfl Yf rfl rfl Yf ?_;refine Z9 ?_;refine CW.dp mixed ?_;refine DP.anyC 0 7 175 rfl Yf rfl rfl Yf ?_;refine Z9 ?_;refine oP (POp.call .k (ih _ (getD_memB Ya))) ?_;refine Z6 ?_;refine DP.anyC 9 12 175 rfl Yf rfl rfl Yf ?_;refine Z37 ?_;refine rR [.tmp 8,.tmp 9] (H) ?_;exact⟨by rw[outK_seven h3 hk2];exact or_tup _ _,rfl⟩
    ·have hlf:=hf.ops.2.2 h0 h1 h2 h3;obtain⟨ha,hpa,_,hcl⟩:=hf.leaf hlf;have hcm:=hl _ (getD_memB (k:=f.arg.toNat) (l:=l) Ya);obtain⟨c,hc⟩:∃c:Nat,l.getD f.arg.toNat default=c:=⟨(l.getD f.arg.toNat default).toNat,Ya⟩;have hso:=owner_slots hz;have hst:PCall Tryz.prog 146 [AV.world (worldOf p),AV.tbl t,.i c,AV.ints f.path] _:=rAt hz hs hsl ⟨Ya,Ya⟩ (λs h=>⟨(hpa s h).1,by have:=(hpa s h).2;omega⟩);obtain⟨k,hk⟩:∃k,k=standK p t (l.getD f.arg.toNat default) f.path:=⟨_,rfl⟩;have hklt:k.1<2^manyC p:=by rw[hk];exact stand_lt hs Ya _
     have hke:k.1.testBit 0=false:=by rw[hk,hc];exact stand_even hs Ya _
     rw[<-hc, <-hk] at hst;refine Z4 ?_;refine CW.dp mixed ?_;refine DP.anyV [⟨10,20,222,[.int .i64 0,.bool false],11,[.i k.1,.b k.2]⟩] 0 12 175 rfl Yf Yb rfl rfl Yf ?_;refine UD.popV rfl rfl rfl rfl (YC) ?_;refine UD.popV rfl rfl rfl rfl (YC) ?_;refine UD.popV rfl rfl rfl rfl (POp.move rfl rfl rfl) ?_;refine UD.popV rfl rfl rfl rfl (YE) ?_;refine UD.popV rfl rfl rfl rfl (Yi) ?_;refine UD.popV rfl rfl rfl rfl (YN) ?_;refine UD.popV rfl rfl rfl rfl (Yi) ?_;refine UD.popV rfl rfl rfl rfl (YE) ?_;refine UD.popV rfl rfl rfl rfl (Yi) ?_;refine UD.popV rfl rfl rfl rfl (POp.call .k (hst)) ?_;refine UD.effV [] [] ⟨10,20,222,[.int .i64 0,.bool false],11,[.i k.1,.b k.2]⟩ rfl ⟨0,12,Yb⟩ rfl rfl rfl rfl rfl rfl rfl ?_;refine UD.stoV [] [] ⟨10,20,222,[.int .i64 0,.bool false],11,[.i k.1,.b k.2]⟩ rfl ⟨0,12,Yb⟩ rfl rfl rfl (λb H1 H2 hu=>.store rfl rfl rfl rfl rfl rfl rfl rfl hu YaI YaI) ?_;refine UD.nil (λbs=>?_);simp only[List.map_cons,List.map_nil,List.cons_append,List.nil_append];refine DP.done rfl ?_;refine Z3 ?_;refine CW.freezeP (d:=20) rfl Yq ?_;refine Z6 ?_;refine cd (λh4=>?_) λh4=>?_
     ·refine Z1 ?_;refine CW.dp mixed ?_;refine DP.anyC 0 6 175 rfl Yf rfl rfl Yf ?_;refine Z2 ?_;refine AD.popC rfl rfl rfl (POp.call .k (rHasB _ 1 Ya)) ?_;refine Z8 ?_;refine DP.anyC 7 11 175 rfl Yf rfl rfl Yf ?_;refine Z11 ?_;refine rR [.tmp 8,.tmp 9] (H) ?_;exact⟨ocr_num h0 h1 h2 h3 h4 hk,rfl⟩
     ·have hcl2:=hcl h4;have hcp:classP (worldOf p) f.cls=true:=classP_iff.2 ⟨Ya,Ya⟩;refine Z3 ?_;refine CW.dp mixed ?_;refine DP.anyC 0 3 175 rfl Yf rfl rfl Yf ?_;refine Z15 ?_;refine lj (λm st=>∃(d:Nat) (y:Bool×Bool),st=⟨[(23,.i d),(21,.b y.1),(22,.b y.2),(20,.ptr [.i k.1,.b k.2]),(4,.ptr (Wcells (worldOf p))),(6,.ptr (Fcells f))],H⟩/\m=manyC p - d/\1<=d/\d<=manyC p/\y=belowO p f.cls k.2 (bitsTo k.1 d)) (⟨1,(false,k.2),rfl,rfl,Ya,Ya,by rw[bits_one hke];simp[belowO]⟩) ?_;rintro m _ ⟨d,y,rfl,rfl,hd1,hd,hy⟩;refine Z11 ?_;refine cd (λh5=>?_) λh5=>?_
      ·have hdl:d<manyC p:=by omega
       refine Z9 ?_;refine oP (POp.call .k (rHasB k.1 d Ya)) ?_;refine Z2 ?_;refine CW.cond rfl (λh6=>?_) (λh6=>?_)
       ·refine Z6 ?_;refine oP (POp.call .k (p52 hw (class_many hdl) hcp)) ?_;refine Z2 ?_;refine CW.cond rfl (λh7=>?_) (λh7=>?_)
        ·refine Z10 ?_;exact ag (⟨d+1,(true,y.2),rfl,rfl,Ya,hdl,by rw[bits_yes h6,belowO_snoc, <-hy,h7];simp⟩)
        ·refine Z10 ?_;exact ag (⟨d+1,(y.1,true),rfl,rfl,Ya,hdl,by rw[bits_yes h6,belowO_snoc, <-hy,h7];simp⟩)
       ·refine Z8 ?_;exact ag (⟨d+1,y,rfl,rfl,Ya,hdl,by rw[bits_no h6];exact hy⟩)
      ·obtain rfl:d=manyC p:=by omega
       rw[bitsTo_all hklt Ya,oc_is Ya h4 hk hklt] at hy;refine Z14 ?_;refine rR [.tmp 8,.tmp 9] (H) ?_;exact⟨by rw[<-hy];rfl,rfl⟩
theorem rOutC(hz:(sizesP p).isSome=true)(hs:SlotsOk p t)(hsl:(t.slots.length:Int)=p.slots)(hl:∀c∈l,1<=c/\c<manyC p):∀f:Fact,FOk p l f->PCall Tryz.prog 84 [AV.world (worldOf p),AV.tbl t,AV.fact f,AV.ints l] (.tup [.b (outK p t l f).1,.b (outK p t l f).2]):=Fact.ind1 λf ih hf=>rOutStep hz hs hsl hl hf λk hk=>ih k hk (hf.kid k hk)
theorem hg_zm{Z T M:Bool}(h:(!bif bif !Z then true else !T then true else !M)=true):Z=true/\M=true:=by revert h;cases Z <;> cases T <;> cases M <;> simp
def largeP(t:Tbl):Bool:=decide (t.reached.length>60) || decide (t.params.length>60) || decide (t.nodes.length>200) || decide (t.slots.length>60) || t.params.any λl=>decide (l.length>10)
theorem any_step[Inhabited α]{l:List α}{i:Nat}{p:α->Bool}(hi:i<l.length)(h:(l.take i).any p=false)(h2:p (l.getD i default)=false):(l.take (i+1)).any p=false:=by rw[<-take_getD hi,List.any_append,h,List.any_cons,h2];rfl
theorem any_yes[Inhabited α]{l:List α}{i:Nat}{p:α->Bool}(hi:i<l.length)(h2:p (l.getD i default)=true):l.any p=true:=List.any_eq_true.2 ⟨_,getD_memB hi,h2⟩
theorem large_bif(A B C D:Bool):(bif bif bif A then true else B then true else C then true else D)=(A || B || C || D):=by cases A <;> cases B <;> cases C <;> rfl
theorem gt_cast(a:Nat)(b:Nat):decide ((a:Int)>(b:Int))=decide (a>b):=by rw[Bool.eq_iff_iff];simp
theorem largeC(t:Tbl):PCall Tryz.prog 17 [AV.tbl t] (.b (largeP t)):=by
 intro H;refine aC (n:=40) Tryz.func17 λB I w0=>?_;have e1:decide ((t.reached.length:Int)>60)=decide (t.reached.length>60):=gt_cast _ 60;have e2:decide ((t.params.length:Int)>60)=decide (t.params.length>60):=gt_cast _ 60;have e3:decide ((t.nodes.length:Int)>200)=decide (t.nodes.length>200):=gt_cast _ 200;have e4:decide ((t.slots.length:Int)>60)=decide (t.slots.length>60):=gt_cast _ 60;refine Z33 ?_;rw[large_bif,e1,e2,e3,e4];refine CW.cond rfl (λh0=>?_) (λh0=>?_)
 ·refine Z7 ?_;refine r1 2 (H) ?_;exact⟨retB (by unfold largeP;rw[h0];rfl),rfl⟩
 ·have hpl:t.params.length<=60:=by simp only[Bool.or_eq_false_iff,decide_eq_false_iff_not] at h0;omega
  refine Z9 ?_;refine lj (λm st=>∃i:Nat,st=⟨[(3,.i i),(1,.ptr (tblA t))],H⟩/\m=t.params.length - i/\i<=t.params.length/\((t.params.take i).any λl=>decide (l.length>10))=false) (⟨0,rfl,rfl,Ya,rfl⟩) ?_;rintro m _ ⟨i,rfl,rfl,hi,hA⟩;refine Z10 ?_;refine cd (λh1=>?_) λh1=>?_
  ·have hil:i<t.params.length:=by omega
   refine Z15 ?_;refine cd (λh2=>?_) λh2=>?_
   ·have h2:decide ((t.params.getD i default).length>10)=true:=by rw[decide_eq_true_eq];omega
    refine Z11 ?_;refine r1 2 (H) ?_;exact⟨retB (by unfold largeP;rw[any_yes hil h2,Bool.or_true]),rfl⟩
   ·have h2:decide ((t.params.getD i default).length>10)=false:=by rw[decide_eq_false_iff_not];omega
    refine Z8 ?_;exact ag (⟨i+1,rfl,rfl,hil,any_step hil hA h2⟩)
  ·obtain rfl:i=t.params.length:=by omega
   rw[List.take_length] at hA;refine Z11 ?_;refine r1 2 (H) ?_;exact⟨retB (by unfold largeP;rw[h0,hA];rfl),rfl⟩
abbrev lE(lb:Nat)(x:List Int):Ent:=.blk lb 3 (x.map AV.i)
abbrev lV(lb n:Nat):AV:=.val (.slice (some ⟨lb,0,none⟩) n n)
abbrev pickF(kinds:List Int)(gv:AV)(lb wb:Nat):AV:=.fn (.func 225) [] [.ptr [AV.ints kinds],.ptr [gv],.ptr [lV lb kinds.length],.p wb 0]
abbrev pickE(kinds:List Int)(gv:AV)(lb wb:Nat):Ent:=.blk wb 98 [pickF kinds gv lb wb]
abbrev chB(B:Nat)(kinds:List Int)(g:Fn)(gs gc:List AV)(L:List (List Int))(J Jx:List (List Int)->List Ent->Prop):Prop:=CbOkB B Tryz.prog (.fn g gs gc) (λb (_:List Int)=>lV b kinds.length) (λb x=>[lE b x]) L J Jx
def PickC(B:Nat)(kinds:List Int)(g:Fn)(gs gc:List AV)(L:List (List Int))(J Jx:List (List Int)->List Ent->Prop)(lb wb f:Nat):Prop:=
 ∀(i:Nat) (q tl:List Int) (pre:List (List Int)) (H0 Hx:List Ent),i+f=kinds.length->q.length=i->tl.length=f->pre++(choicesK (kinds.drop i)).map (λl=>q++l)<+:L->J pre H0->
  BCall B Tryz.prog 225 [.i i,.ptr [AV.ints kinds],.ptr [.fn g gs gc],.ptr [lV lb kinds.length],.p wb 0] (H0++(lE lb (q++tl)::pickE kinds (.fn g gs gc) lb wb::Hx))
   (λy H'=>∃r H1 tl',y= .b r/\tl'.length=f/\H'=H1++(lE lb (q++tl')::pickE kinds (.fn g gs gc) lb wb::Hx)/\(r=true->J (pre++(choicesK (kinds.drop i)).map (λl=>q++l)) H1)/\(r=false->∃p',p'<+:L/\Jx p' H1)) (λ_ _=>False)
theorem pk_in(r x p:Ent)(A X:List Ent):(r::(A++(x::p::X))).Perm (A++(x::r::p::X)):=List.perm_middle.symm.trans (.append_left _ (.swap _ _ _))
theorem pk_three(a b c d e:Ent)(A X:List Ent):([a,b,c,d,e]++(A++X)).Perm (A++([a,c,b,d,e]++X)):=(List.perm_append_comm_assoc _ _ _).trans (.append_left _ (List.Perm.append_right _ (.cons _ (.swap _ _ _))))
theorem pk_round(l d r x p:Ent)(A X:List Ent):(l::d::((r::(A++[x,p]))++([]++X))).Perm ([x,r,p,l,d]++(A++X)):=by
 have h1:(l::d::((r::(A++[x,p]))++([]++X)))= [l,d,r]++(A++([x,p]++X)):=by simp
 rw[h1];refine (List.Perm.append_left _ (List.perm_append_comm_assoc _ _ _)).trans ?_;show (l::d::r::x::p::(A++X)).Perm (x::r::p::l::d::(A++X));have h2:∀Y:List Ent,(l::d::r::x::p::Y).Perm (x::r::p::l::d::Y):=λY=>by
  have:=List.Perm.append_right Y (show [l,d,r,x,p].Perm [x,r,p,l,d] from by
   refine ((List.perm_append_comm (l₁:=[l,d]) (l₂:=[r,x,p])).trans ?_);exact .swap _ _ _)
  simpa using this
 exact h2 _
theorem pk_back(l d r x p:Ent)(A X:List Ent):(A++([x,p,r,l,d]++X)).Perm (l::d::((r::(A++[x,p]))++([]++X))):=
 (pk_three x r p l d A X).symm.trans (pk_round l d r x p A X).symm
theorem pre_flatK{α β:Type}{pre L:List β}{g:α->List β}{M bs:List α}{b:α}(h:pre++M.flatMap g<+:L)(hp:bs++[b]<+:M):(pre++bs.flatMap g)++g b<+:L:=by
 refine List.IsPrefix.trans ?_ h;rw[List.append_assoc];refine (List.prefix_append_right_inj pre).2 ?_;obtain⟨t,rfl⟩:=hp;exact⟨t.flatMap g,Yo⟩
theorem choices_drop{i:Nat}(hi:i<kinds.length){k:Nat}(hk:kinds.getD i default=(k:Int))(q:List Int):(choicesK (kinds.drop i)).map (λl=>q++l)=(bitsK k).flatMap λ(c:Nat)=>(choicesK (kinds.drop (i+1))).map λl=>(q++[(c:Int)])++l:=by
 have e:kinds.drop i=kinds.getD i default::kinds.drop (i+1):=by
  rw[List.drop_eq_getElem_cons hi,List.getD_eq_getElem?_getD,List.getElem?_eq_getElem hi];rfl
 rw[e,hk,choicesK,List.map_flatMap];congr 1;funext c;rw[List.map_map];congr 1;funext l;simp
theorem pick_set{q tl:List Int}{i:Nat}(hq:q.length=i)(t0 x:Int):((q++t0::tl).map AV.i).take (0+(i:Int).toNat*1)++bcells (.i x)++((q++t0::tl).map AV.i).drop (0+(i:Int).toNat*1+1)=((q++[x])++tl).map AV.i:=by
 subst hq;have e:0+((q.length:Nat):Int).toNat*1=(q.map AV.i).length:=by simp
 rw[e,List.map_append,List.take_left,List.map_cons];have e2:∀(a:List AV) (b:AV) (c:List AV),(a++b::c).drop (a.length+1)=c:=λa b c=>by rw[show a++b::c=(a++[b])++c by simp,show a.length+1=(a++[b]).length by simp,List.drop_left]
 rw[e2,List.map_append,List.map_append];rfl
theorem pick_step(hks:∀k∈kinds,0<=k/\k.toNat<2^60)(hkl:kinds.length<=1000){g:Fn}{gs gc:List AV}{L:List (List Int)}{J Jx:List (List Int)->List Ent->Prop}(hg:chB B kinds g gs gc L J Jx){lb wb f:Nat}(ih:∀f',f=f'+1->PickC B kinds g gs gc L J Jx lb wb f'):PickC B kinds g gs gc L J Jx lb wb f:=by
 intro i q tl pre H0 Hx hif hq htl hL hJ;refine BCall.ofM (n:=30) Tryz.func225 rfl Yb rfl rfl (λI w0=>?_);refine Z3 ?_;refine OL.alC rfl rfl rfl rfl (λrb=>?_);refine Z11 ?_;refine cd (λh0=>?_) λh0=>?_
 ·obtain rfl:f=0:=by omega
  obtain rfl:tl= []:=List.eq_nil_of_length_eq_zero htl;have eM:(choicesK (kinds.drop i)).map (λl=>q++l)= [q]:=by rw[List.drop_of_length_le Ya];simp[choicesK]
  rw[eM] at hL ⊢;rw[List.append_nil];refine Z1 ?_;refine CW.perm (pk_in _ _ _ _ _) ?_;refine Z3 ?_;refine OL.vcallC rfl rfl rfl rfl rfl rfl rfl rfl (AVleL.refl _) (hg lb pre q H0 (.blk rb 4 [.val (.bool false)]::pickE kinds (.fn g gs gc) lb wb::Hx) hL hJ) ?_;rintro _ _ ⟨r,H1,rfl,rfl,e1,e2⟩;refine OL.perm (pk_in _ _ _ _ _).symm ?_;refine Z5 ?_;refine Done.retMs [] (.blk rb 4 [.b r]::(H1++[lE lb q,pickE kinds (.fn g gs gc) lb wb])) Hx (rs:=[.cell 6 4]) (H':=H1++(lE lb q::pickE kinds (.fn g gs gc) lb wb::Hx)) rfl (by show ((_::(H1++[_,_]))++Hx).Sublist _;rw[List.cons_append,List.append_assoc];exact List.Sublist.refl _) (YI) (AVleL.refl _) YZ ?_;exact⟨r,H1,[],rfl,rfl,by rw[List.append_nil],e1,λh=>⟨_,hL,e2 h⟩⟩
 ·have hil:i<kinds.length:=by omega
  obtain⟨f',rfl⟩:∃f',f=f'+1:=⟨f - 1,Ya⟩;obtain⟨hk0,hk60⟩:=hks _ (getD_memB hil);obtain⟨k,hk⟩:∃k:Nat,kinds.getD i default=k:=⟨(kinds.getD i default).toNat,Ya⟩;have hk60:k<2^60:=by rw[hk] at hk60;simpa using hk60
  have hcd:=choices_drop hil hk q;rw[hcd] at hL ⊢;refine Z8 ?_;refine oP (POp.le (POp.ld1 rfl rfl rfl rfl) (AVle.eqI hk)) ?_;refine oP (POp.call .k ((classesK _))) ?_;refine Z3 ?_;refine CW.perm (H':=(.blk rb 4 [.val (.bool false)]::(H0++[lE lb (q++tl),pickE kinds (.fn g gs gc) lb wb]))++Hx) (.of_eq Yo) ?_;refine CW.weaken (st':=⟨[(19,.fn (.func 170) [] [.ptr [.i k]]),(5,.ptr [.i i]),(6,.p rb 0),(1,.ptr [AV.ints kinds]),(2,.ptr [.fn g gs gc]),(3,.ptr [lV lb kinds.length]),(4,.p wb 0)],(.blk rb 4 [.val (.bool false)]::(H0++[lE lb (q++tl),pickE kinds (.fn g gs gc) lb wb]))++(marksE []++Hx)⟩) YU Yv ?_;refine CW.rangeFuncM [] (λ_ (c:Nat)=>.i c) (λ_ _=>[]) (bitsK k) (λcs H=>∃H1 tl',H= .blk rb 4 [.val (.bool false)]::(H1++[lE lb (q++tl'),pickE kinds (.fn g gs gc) lb wb])/\tl'.length=f'+1/\J (pre++cs.flatMap (λ(c:Nat)=>(choicesK (kinds.drop (i+1))).map λl=>(q++[(c:Int)])++l)) H1) (λcode cs H=>code= .ret/\∃H1 tl',H= .blk rb 4 [.val (.bool false)]::(H1++[lE lb (q++tl'),pickE kinds (.fn g gs gc) lb wb])/\tl'.length=f'+1/\∃p',p'<+:L/\Jx p' H1) ((.blk rb 4 [.val (.bool false)]::(H0++[lE lb (q++tl),pickE kinds (.fn g gs gc) lb wb]))) (Hx) (λ_ x=>[(7,.i x),(20,.i x),(5,.ptr [.i i]),(6,.p rb 0),(1,.ptr [AV.ints kinds]),(2,.ptr [.fn g gs gc]),(3,.ptr [lV lb kinds.length]),(4,.p wb 0)]) rfl rfl rfl rfl ((classes_seq _ hk60).b) (⟨H0,tl,rfl,htl,by simpa using hJ⟩) ?_ ?_ ?_ ?_
  ·intro l0 I1 w1 b9 x Hy;refine Z3 ?_;exact λa w s=>⟨_,rfl,s.weaken (envLe_get YU) (List.Sublist.refl _)⟩
  ·intro l0 D0 lp pre b9 x H1 Hy I1 w1 hpre hJ;obtain⟨H1,tl',rfl,htl',hJ1⟩:=hJ;obtain⟨t0,tl2,rfl⟩:∃t0 tl2,tl'=t0::tl2:=by cases tl' with
    | nil=>cases htl'
    | cons a b=>exact⟨a,b,rfl⟩
   have htl2:tl2.length=f':=by simpa using htl'
   have hqx:(q++[(x:Int)]).length=i+1:=by simp[hq]
   have hLx:=pre_flatK (g:=(λ(c:Nat)=>(choicesK (kinds.drop (i+1))).map λl=>(q++[(c:Int)])++l)) hL hpre;refine Z2 ?_;refine CW.perm (pk_round _ _ _ _ _ _ _) ?_;refine Z4 ?_;refine oP (POp.ixC rfl rfl rfl rfl rfl Ya) ?_;apply OL.stoC rfl rfl rfl rfl rfl rfl rfl rfl rfl rfl
   (case hu=>repeat (first | exact Upd.head _ _ _ | apply Upd.tail));(case hfit=>simp;omega);(case hds=>exact pick_set hq t0 x)
   refine Z7 ?_;refine OL.perm (pk_three _ _ _ _ _ _ _) ?_;refine bC .k (ih f' rfl (i+1) (q++[(x:Int)]) tl2 _ H1 _ Ya hqx htl2 hLx hJ1) ?_;rintro _ _ ⟨r,H2,tl3,rfl,htl3,rfl,e1,e2⟩;refine Z3 ?_;refine CW.cond rfl (λh1=>?_) (λh1=>?_)
   ·have h1:r=false:=by simpa using h1
    refine Z1 ?_;refine CW.perm (pk_back _ _ _ _ _ _ _) ?_;refine Z6 ?_;exact Done.roundR (H:=.blk rb 4 [.val (.bool false)]::(H2++[lE lb ((q++[(x:Int)])++tl3),pickE kinds (.fn g gs gc) lb wb])) Ya1 ⟨rfl,H2,(x:Int)::tl3,by rw[show q++(x:Int)::tl3=(q++[(x:Int)])++tl3 by simp],by simp[htl3],e2 h1⟩
   ·have h1:r=true:=by simpa using h1
    refine Z2 ?_;refine Done.perm (pk_back _ _ _ _ _ _ _) ?_;exact Done.roundN (H:=.blk rb 4 [.val (.bool false)]::(H2++[lE lb ((q++[(x:Int)])++tl3),pickE kinds (.fn g gs gc) lb wb])) Ya1 ⟨H2,(x:Int)::tl3,by rw[show q++(x:Int)::tl3=(q++[(x:Int)])++tl3 by simp],by simp[htl3],by have:=e1 h1;rw[List.append_assoc] at this;rw[List.flatMap_append];simpa using this⟩
  ·intro D0 H1 hJ;obtain⟨H1,tl',rfl,htl',hJ1⟩:=hJ;refine Z8 ?_;refine Done.retMs (D0::[]) (.blk rb 4 [.b true]::(H1++[lE lb (q++tl'),pickE kinds (.fn g gs gc) lb wb])) Hx (rs:=[.cell 6 4]) (H':=H1++(lE lb (q++tl')::pickE kinds (.fn g gs gc) lb wb::Hx)) rfl Yv (YI) (AVleL.refl _) YZ ?_;exact⟨true,H1,tl',rfl,htl',rfl,λ_=>hJ1,λh=>by cases h⟩
  ·intro D0 code0 pre H1 hpre hJx;obtain⟨rfl,H1,tl',rfl,htl',p',hp',hJx1⟩:=hJx
   ·refine Z3 ?_;refine Done.retMs (D0::[]) (.blk rb 4 [.val (.bool false)]::(H1++[lE lb (q++tl'),pickE kinds (.fn g gs gc) lb wb])) Hx (rs:=[.cell 6 4]) (H':=H1++(lE lb (q++tl')::pickE kinds (.fn g gs gc) lb wb::Hx)) rfl Yv (YI) (AVleL.refl _) YZ ?_;exact⟨false,H1,tl',rfl,htl',rfl,(λh=>by cases h),λ_=>⟨p',hp',hJx1⟩⟩
theorem pick_all(hks:∀k∈kinds,0<=k/\k.toNat<2^60)(hkl:kinds.length<=1000){g:Fn}{gs gc:List AV}{L:List (List Int)}{J Jx:List (List Int)->List Ent->Prop}(hg:chB B kinds g gs gc L J Jx)(lb wb f:Nat):PickC B kinds g gs gc L J Jx lb wb f:=by
 induction f with
 | zero=>exact pick_step hks hkl hg λf' h=>by omega
 | succ n ih=>
  refine pick_step hks hkl hg λf' h=>?_;obtain rfl:f'=n:=by omega
  exact ih
theorem ch_perm{p:Ent}{lb n:Nat}(H Hx:List Ent):(p::.blk lb 3 (List.replicate n (AV.val (.int .i64 0)))::(H++Hx)).Perm (H++(lE lb ([]++List.replicate n 0)::p::Hx)):=by
 rw[show lE lb ([]++List.replicate n 0)= .blk lb 3 (List.replicate n (AV.val (.int .i64 0))) by rw[lE,List.nil_append,List.map_replicate]];exact (List.Perm.swap _ _ _).trans (List.perm_append_comm_assoc [_,_] H Hx)
theorem choices1(hks:∀k∈kinds,0<=k/\k.toNat<2^60)(hkl:kinds.length<=1000){g:Fn}{gs gc:List AV}{J Jx:List (List Int)->List Ent->Prop}(hg:chB B kinds g gs gc (choicesK kinds) J Jx)(H Hx:List Ent)(hJ:J [] H):
  BCall B Tryz.prog 224 [.fn g gs gc,.ptr [AV.ints kinds]] (H++Hx) (λ_ H'=>∃H1,H'=H1++Hx/\(J (choicesK kinds) H1\/∃pre,pre<+:choicesK kinds/\Jx pre H1)) (λ_ _=>False):=by
 refine BCall.of (n:=11) Tryz.func224 rfl Yb rfl rfl (λI w0=>?_);refine Z9 ?_;refine OL.mkSlC (kinds.length) rfl rfl rfl rfl rfl rfl rfl rfl (rfl) Ya Yw (λlb=>?_);refine OL.alC rfl rfl rfl rfl (λcb=>?_);refine Z4 ?_;refine CW.freezeP (d:=3) rfl Yq ?_;refine Z1 ?_;refine OL.alC rfl rfl rfl rfl (λwb=>?_);refine Z10 ?_;refine OL.perm (ch_perm H Hx) ?_;refine bC .k (pick_all hks hkl hg lb wb kinds.length 0 [] (List.replicate kinds.length 0) [] H Hx Ya rfl Yo Yo hJ) ?_;rintro _ _ ⟨r,H1,tl1,rfl,htl1,rfl,e1,e2⟩;refine Z1 ?_;refine Done.norR (rs:=[]) (H':=H1++Hx) rfl (.nil) (AVleL.refl _) (by exact (List.Sublist.refl H1).append (.cons _ (.cons _ (.refl _)))) ?_;exact⟨H1,rfl,by cases r with | true=>exact .inl (by simpa using e1 rfl) | false=>exact .inr (e2 rfl)⟩
theorem choicesC(kinds:List Int):PCall Tryz.prog 150 [AV.ints kinds] (.fn (.func 224) [] [.ptr [AV.ints kinds]]):=by
 intro H;refine aC (n:=4) Tryz.func150 λB I w0=>?_;refine Z13 ?_;refine r1 2 (H) ?_;exact⟨Ye,rfl⟩
theorem choices_seq(B:Nat){kinds:List Int}(hks:∀k∈kinds,0<=k/\k.toNat<2^60)(hkl:kinds.length<=1000):SeqB B Tryz.prog (.fn (.func 224) [] [.ptr [AV.ints kinds]]) (λb (_:List Int)=>lV b kinds.length) (λb x=>[lE b x]) (choicesK kinds):=
 λJ Jx g gs gc hg H Hx hJ=>VCall.fnB (choices1 hks hkl hg H Hx hJ)
theorem filter_yes{q:α->Bool}{pre:List α}{x:α}(h:q x=true):(pre++[x]).filter q=pre.filter q++[x]:=by rw[List.filter_append];simp[h]
theorem filter_no{q:α->Bool}{pre:List α}{x:α}(h:q x=false):(pre++[x]).filter q=pre.filter q:=by rw[List.filter_append];simp[h]
theorem choices_mem:∀{kinds x:List Int},x∈choicesK kinds->x.length=kinds.length/\∀i,i<kinds.length->∃c:Nat,x.getD i default=c/\(kinds.getD i default).toNat.testBit c=true
 | [],x,h=>by
  simp only[choicesK,List.mem_singleton] at h;subst h;exact⟨rfl,λi hi=>by simp at hi⟩
 | k::r,x,h=>by
  rw[choicesK,List.mem_flatMap] at h;obtain⟨c,hc,h⟩:=h;obtain⟨l,hl,rfl⟩:=List.mem_map.1 h;obtain⟨h1,h2⟩:=choices_mem hl;refine⟨by simp[h1],λi hi=>?_⟩;cases i with
  | zero=>exact⟨c,rfl,(mem_bits.1 hc).2⟩
  | succ i=>exact h2 i (by simpa using hi)
theorem kinds_small(hz:(sizesP p).isSome=true){kinds:List Int}(hk:∀k∈kinds,kindB (manyC p) k=true):∀k∈kinds,0<=k/\k.toNat<2^60:=λk h=>by
 obtain⟨h1,h2,_⟩:=kindB_nat (hk k h);have:=pow_many hz;exact⟨Ya,Ya⟩
theorem choices_cls(hk:∀k∈kinds,kindB (manyC p) k=true)(hx:x∈choicesK kinds):∀c∈x,1<=c/\c<manyC p:=λc hc=>by
 obtain⟨i,hi,rfl⟩:=List.getElem_of_mem hc;obtain⟨h1,h2⟩:=choices_mem hx;obtain⟨d,hd,hb⟩:=h2 i Ya;obtain⟨_,h4,h5⟩:=kindB_nat (hk _ (getD_memB (l:=kinds) (k:=i) Ya));rw[List.getD_eq_getElem?_getD,List.getElem?_eq_getElem hi] at hd;have hd:x[i]=(d:Int):=hd;rw[hd];have hd0:d≠0:=λe=>by subst e;rw[hb] at h5;cases h5
 have hdm:d<manyC p:=by
  apply Decidable.byContradiction;intro h6;rw[bit_high h4 Ya] at hb;cases hb
 omega
theorem getK_lt{m:Nat}(hm:m<=62){i:Nat}:∀(L:List (List Int)),(∀x∈L,x.getD i default<m)->(∀x∈L,0<=x.getD i default)->getK L i<2^62:=λL h h0=>by
 unfold getK;have:∀(L:List (List Int)) (a:Nat),a<2^62->(∀x∈L,x.getD i default<m)->(∀x∈L,0<=x.getD i default)->L.foldl (λa l=>a ||| 2^(l.getD i default).toNat) a<2^62:=by
  intro L
  induction L with
  | nil=>intro a ha _ _;exact ha
  | cons x r ih=>
   intro a ha h h0;refine ih _ (Nat.or_lt_two_pow ha (Nat.pow_lt_pow_right (by decide) ?_)) (λy hy=>h y (.tail _ hy)) λy hy=>h0 y (.tail _ hy);have:=h x (.head _);have:=h0 x (.head _);omega
 exact this L 0 (by decide) h h0
theorem getK_snoc(L:List (List Int))(x:List Int)(i:Nat):getK (L++[x]) i=getK L i ||| 2^(x.getD i default).toNat:=by unfold getK;rw[List.foldl_append];rfl
def getJ(L:List (List Int))(x:List Int)(n j:Nat):List Int:=(List.range n).map λi=>((if i<j then getK (L++[x]) i else getK L i:Nat):Int)
theorem getJ_len(L:List (List Int))(x:List Int)(n j:Nat):(getJ L x n j).length=n:=by simp[getJ]
theorem getJ_zero(L:List (List Int))(x:List Int)(n:Nat):getJ L x n 0=getsK L n:=by unfold getJ getsK;simp
theorem getJ_all(L:List (List Int))(x:List Int)(n:Nat):getJ L x n n=getsK (L++[x]) n:=by
 unfold getJ getsK;refine List.map_congr_left λi hi=>?_;rw[if_pos (List.mem_range.1 hi)]
theorem getJ_at(h:j<n):(getJ L x n j).getD j default=(getK L j:Int):=by
 rw[getJ,List.getD_eq_getElem?_getD,List.getElem?_map,List.getElem?_range h];show ((if j<j then _ else _:Nat):Int)=_;rw[if_neg (Nat.lt_irrefl _)]
theorem getJ_set(h:j<n):(getJ L x n j).set j ((getK L j ||| 2^(x.getD j default).toNat:Nat):Int)=getJ L x n (j+1):=by
 refine List.ext_getElem (by simp[getJ]) λi h1 h2=>?_;rw[List.getElem_set];simp only[getJ,List.getElem_map,List.getElem_range];by_cases e:j=i
 ·subst e;rw[if_pos rfl,if_pos (Nat.lt_succ_self _),getK_snoc]
 ·rw[if_neg e];by_cases e2:i<j
  ·rw[if_pos e2,if_pos Ya]
  ·rw[if_neg e2,if_neg Ya]
theorem ints_set(h:j<l.length)(v:Int):(l.map AV.i).take (0+(j:Int).toNat*1)++bcells (.i v)++(l.map AV.i).drop (0+(j:Int).toNat*1+1)=(l.set j v).map AV.i:=by
 have e:0+(j:Int).toNat*1=j:=by simp
 rw[e,List.set_eq_take_append_cons_drop,if_pos h,List.map_append,List.map_take,List.map_cons,List.map_drop];simp[bcells]
theorem ints_at(h:j<l.length):(l.map AV.i)[0+(j:Int).toNat*1]? =some (.i (l.getD j default)):=by
 have e:0+(j:Int).toNat*1=j:=by simp
 rw[e,List.getElem?_map,List.getD_eq_getElem?_getD,List.getElem?_eq_getElem h];rfl
section
variable{p:Prog}{t:Tbl}{gen:Int}{kinds:List Int}{m:Nat}
theorem mayN_succ:mayN p t gen kinds (m+1)=mayN p t gen kinds m++(if(p.methods.getD m default).gen=gen/\yesK p t (p.methods.getD m default).fact kinds≠ [] then [((m:Int),getsK (yesK p t (p.methods.getD m default).fact kinds) kinds.length)] else []):=by
 unfold mayN;rw[List.range_succ,List.filterMap_append];congr 1;rw[List.filterMap_cons];by_cases h:(p.methods.getD m default).gen=gen/\yesK p t (p.methods.getD m default).fact kinds≠ []
 ·rw[if_pos h,if_pos h];rfl
 ·rw[if_neg h,if_neg h];rfl
theorem mayN_gen(h:(p.methods.getD m default).gen≠gen):mayN p t gen kinds (m+1)=mayN p t gen kinds m:=by rw[mayN_succ,if_neg (λh2=>h h2.1),List.append_nil]
theorem mayN_no(h:yesK p t (p.methods.getD m default).fact kinds= []):mayN p t gen kinds (m+1)=mayN p t gen kinds m:=by rw[mayN_succ,if_neg (λh2=>h2.2 h),List.append_nil]
theorem mayN_yes(h:(p.methods.getD m default).gen=gen)(h2:yesK p t (p.methods.getD m default).fact kinds≠ []):mayN p t gen kinds (m+1)=mayN p t gen kinds m++[((m:Int),getsK (yesK p t (p.methods.getD m default).fact kinds) kinds.length)]:=by rw[mayN_succ,if_pos ⟨h,h2⟩]
theorem mayN_len(n:Nat):(mayN p t gen kinds n).length<=n:=by
 have:=List.length_filterMap_le (λm=>if(p.methods.getD m default).gen=gen/\yesK p t (p.methods.getD m default).fact kinds≠ [] then some ((m:Int),getsK (yesK p t (p.methods.getD m default).fact kinds) kinds.length) else none) (List.range n);rw[List.length_range] at this;exact this
end
theorem fst_snoc(A:List (Int×List Int))(m:Nat)(g:List Int):AV.ints ((A++[((m:Int),g)]).map (·.1))= .sl 1 ((A.map (·.1)).map (λn=>[AV.i n])++[[.i (m:Int)]]):=by
 show AV.sl 1 (List.map _ (List.map _ (_++_)))=_;rw[List.map_append,List.map_append];rfl
theorem snd_snoc(A:List (Int×List Int))(m:Nat)(g:List Int):AV.intss ((A++[((m:Int),g)]).map (·.2))= .sl 1 ((A.map (·.2)).map (λn=>[AV.ints n])++[[AV.ints g]]):=by
 show AV.sl 1 (List.map _ (List.map _ (_++_)))=_;rw[List.map_append,List.map_append];rfl
theorem rep_gets(n:Nat):List.replicate n (AV.val (.int .i64 0))=(getsK [] n).map AV.i:=by
 unfold getsK;rw[List.map_map];refine (List.ext_getElem Yo λi h1 h2=>?_);simp[getK]
theorem may_freeze(gb cb:Nat)(l:List Int)(n:Nat):lE gb l= .blk gb 3 ((l.map λx=>[AV.i x]).flatten++[]):=by
 rw[List.append_nil];show Ent.blk gb 3 _=_;congr 1
 induction l with
 | nil=>rfl
 | cons x r ih=>rw[List.map_cons,List.map_cons,List.flatten_cons,ih];rfl
theorem mayK(hz:(sizesP p).isSome=true)(hs:SlotsOk p t)(hsl:(t.slots.length:Int)=p.slots){gen:Int}{kinds:List Int}(hk:∀k∈kinds,kindB (manyC p) k=true)(hkl:(kinds.length:Int)=argsG p gen)(hk10:kinds.length<=1000):PCall Tryz.prog 87 [AV.eng p t,.i gen,AV.ints kinds] (.tup [AV.ints ((mayP p t gen kinds).map (·.1)),AV.intss ((mayP p t gen kinds).map (·.2))]):=by
 intro H;refine ACall.mkM (n:=71) Tryz.func87 rfl Yb rfl rfl (λB I w0=>?_);have hm13:=many_le hz;have hpw:=pow_many hz;have hml:=methods_le hz;have hks:=kinds_small hz hk;refine Z20 ?_;refine CW.ownNil 6 3 1 rfl ?_;refine CW.ownNil 7 23 1 rfl ?_;refine CW.loopM (λq st=>∃(m:Nat) (v1 v2:Value),st=⟨[(21,.i m),(20,.i p.methods.length),(19,.sl 9 (p.methods.map mthA)),(6,.as (AV.ints ((mayN p t gen kinds m).map (·.1))) v1),(7,.as (AV.intss ((mayN p t gen kinds m).map (·.2))) v2),(1,.i gen),(2,AV.ints kinds),(3,.ptr [AV.eng p t])],[.own 23 1 v2,.own 3 1 v1]⟩/\q=p.methods.length - m/\m<=p.methods.length) [] H ⟨_,_,⟨0,_,_,rfl,rfl,Ya⟩,YU,Yv⟩ ?_;intro Ds0;rintro q _ ⟨m,v1,v2,rfl,rfl,hm⟩;refine Z6 ?_;refine cd (λh0=>?_) λh0=>?_
 ·have hmn:m<p.methods.length:=by omega
  obtain⟨M,hM⟩:∃M,M=p.methods.getD m default:=⟨_,rfl⟩;have hmg:=mayN_gen (p:=p) (t:=t) (gen:=gen) (kinds:=kinds) (m:=m);have hmno:=mayN_no (p:=p) (t:=t) (gen:=gen) (kinds:=kinds) (m:=m);have hmy:=mayN_yes (p:=p) (t:=t) (gen:=gen) (kinds:=kinds) (m:=m);rw[<-hM] at hmg hmno hmy;refine Z9 ?_;refine OL.alC rfl rfl rfl rfl (λmb=>?_);refine Z6 ?_;rw[<-hM];refine CW.freezeP (d:=9) rfl Yq ?_;refine Z7 ?_;refine cd (λh1=>?_) λh1=>?_
  ·refine Z8 ?_;refine Done.againM Ds0 (⟨m+1,v1,v2,by rw[hmg h1],rfl,hmn⟩) ?_ ?_ ?_
   ·omega
   ·repeat (first | exact trivial | refine⟨rfl,?_⟩)
   ·repeat (first | exact List.Sublist.refl _ | apply List.Sublist.cons_cons | refine List.Sublist.cons _ ?_)
  ·have hfo:∀x∈choicesK kinds,FOk p x M.fact:=λx hx=>by
    have hmi:isMth p (m:Int)=true:=by unfold isMth;simp;omega
    have h5:=mth_fact hz hmi (l:=x) Yak;rw[show ((m:Int)).toNat=m from rfl, <-hM] at h5;exact h5
   refine Z6 ?_;refine OL.mkSlC (kinds.length) rfl rfl rfl rfl rfl rfl rfl rfl (rfl) Ya Yw (λgb=>?_);refine OL.alC rfl rfl rfl rfl (λcb=>?_);refine OL.alC rfl rfl rfl rfl (λib=>?_);refine Z6 ?_;rw[rep_gets];refine Z2 ?_;refine oP (POp.call .k ((choicesC _))) ?_;refine Z3 ?_;refine CW.weaken (st':=⟨[(34,.fn (.func 224) [] [.ptr [AV.ints kinds]]),(8,.i m),(9,.ptr (mthA M)),(10,.p cb 0),(11,.p ib 0),(21,.i m),(20,.i p.methods.length),(19,.sl 9 (p.methods.map mthA)),(6,.as (AV.ints ((mayN p t gen kinds m).map (·.1))) v1),(7,.as (AV.intss ((mayN p t gen kinds m).map (·.2))) v2),(1,.i gen),(2,AV.ints kinds),(3,.ptr [AV.eng p t])],[.blk ib 4 [.b false],.blk cb 23 [lV gb kinds.length],lE gb (getsK [] kinds.length),.own 23 1 v2,.own 3 1 v1]++(marksE Ds0++H)⟩) YU Yv ?_;refine CW.rangeFuncM Ds0 (λb (_:List Int)=>lV b kinds.length) (λb x=>[lE b x]) (choicesK kinds) (λpre H=>H= [.blk ib 4 [.b (!(pre.filter (λl=>(outK p t l M.fact).1)).isEmpty)],.blk cb 23 [lV gb kinds.length],lE gb (getsK (pre.filter (λl=>(outK p t l M.fact).1)) kinds.length),.own 23 1 v2,.own 3 1 v1]) (λ_ _ _=>False) ([.blk ib 4 [.b false],.blk cb 23 [lV gb kinds.length],lE gb (getsK [] kinds.length),.own 23 1 v2,.own 3 1 v1]) (H) (λb x=>[(12,lV b kinds.length),(35,lV b kinds.length),(9,.ptr (mthA M)),(10,.p cb 0),(11,.p ib 0),(3,.ptr [AV.eng p t])]) rfl rfl rfl rfl (choices_seq _ hks hk10) Yax ?_ ?_ ?_ ?_
   ·intro l0 I1 w1 b9 x Hy;refine Z3 ?_;exact λa w s=>⟨_,rfl,s.weaken (envLe_get YU) (List.Sublist.refl _)⟩
   ·intro l0 D0 lp pre b9 x H1 Hy I1 w1 hpre hJ;obtain rfl:=hJ;have hxm:x∈choicesK kinds:=hpre.subset Yo;obtain⟨hxl,hxc⟩:=choices_mem hxm;have hcl:=choices_cls hk hxm;obtain⟨A,hAe⟩:∃A,A=(pre.filter (λl=>(outK p t l M.fact).1)):=⟨_,rfl⟩;rw[<-hAe];have hAm:∀y∈A,y∈choicesK kinds:=λy hy=>by rw[hAe] at hy;exact hpre.subset (List.mem_append_left _ (List.mem_filter.1 hy).1)
    refine Z8 ?_;refine oP (POp.callB .k (Borrow.outs (pre:=[AV.eng p t,AV.fact M.fact]) (post:=[]) (nb:=b9) (o:=x) Yu hxl Ya) (outK_C hz hs hsl hcl _ (hfo x hxm))) ?_;refine oP (POp.call .k ((yesO _))) ?_;refine Z3 ?_;refine CW.cond rfl (λh2=>?_) (λh2=>?_)
    ·have h2:(outK p t x M.fact).1=false:=by simpa using h2
     refine Z3 ?_;exact Done.roundN (H:=[.blk ib 4 [.b (!A.isEmpty)],.blk cb 23 [lV gb kinds.length],lE gb (getsK A kinds.length),.own 23 1 v2,.own 3 1 v1]) Ya1 (by rw[filter_no (q:=(λl=>(outK p t l M.fact).1)) h2, <-hAe])
    ·have h2:(outK p t x M.fact).1=true:=by simpa using h2
     refine Z15 ?_;rw[<-getJ_zero A x];refine lj (λq st=>∃j:Nat,st=⟨[(45,.i j),(44,.i kinds.length),(43,lV b9 kinds.length),(12,lV b9 kinds.length),(9,.ptr (mthA M)),(10,.p cb 0),(11,.p ib 0),(3,.ptr [AV.eng p t])],.loop l0 lp (envGet [(34,.fn (.func 224) [] [.ptr [AV.ints kinds]]),(8,.i m),(9,.ptr (mthA M)),(10,.p cb 0),(11,.p ib 0),(21,.i m),(20,.i p.methods.length),(19,.sl 9 (p.methods.map mthA)),(6,.as (AV.ints ((mayN p t gen kinds m).map (·.1))) v1),(7,.as (AV.intss ((mayN p t gen kinds m).map (·.2))) v2),(1,.i gen),(2,AV.ints kinds),(3,.ptr [AV.eng p t])])::.obj D0 (.deferred (some []))::([.blk ib 4 [.b true],.blk cb 23 [lV gb kinds.length],lE gb (getJ A x kinds.length j),.own 23 1 v2,.own 3 1 v1]++([lE b9 x]++Hy))⟩/\q=kinds.length - j/\j<=kinds.length) (⟨0,rfl,rfl,Ya⟩) ?_;rintro q _ ⟨j,rfl,rfl,hj⟩;refine Z6 ?_;refine cd (λh3=>?_) λh3=>?_
     ·have hjl:j<kinds.length:=by omega
      obtain⟨c,hc,_⟩:=hxc j hjl;have hcm:=hcl _ (getD_memB (l:=x) (k:=j) Ya);rw[hc] at hcm;have hgl:getK A j<2^62:=getK_lt (m:=manyC p) Ya A (λy hy=>by have hyl:=(choices_mem (hAm y hy)).1;have h7:=choices_cls hk (hAm y hy) _ (getD_memB (l:=y) (k:=j) Ya);omega) (λy hy=>by have hyl:=(choices_mem (hAm y hy)).1;have h7:=choices_cls hk (hAm y hy) _ (getD_memB (l:=y) (k:=j) Ya);omega);have hset:=getJ_set (L:=A) (x:=x) hjl;rw[hc] at hset;refine Z7 ?_;refine oP (POp.ixC rfl rfl rfl rfl rfl Ya) ?_;refine oP (POp.le (by apply POp.ld1H rfl rfl rfl;(case hm=>repeat (first | exact .head _ | refine .tail _ ?_));(case hy=>exact ints_at Ya)) (AVle.eqI hc)) ?_;refine Z4 ?_;refine CW.dp mixed ?_;refine DP.anyC 0 6 71 rfl Yf rfl rfl Yf ?_;refine Z2 ?_;refine AD.popC rfl rfl rfl (POp.ixC rfl rfl rfl rfl rfl Ya) ?_;refine AD.popC rfl rfl rfl (POp.le Y0 (AVle.eqI (getJ_at hjl))) ?_;refine Z1 ?_;refine AD.popC rfl rfl rfl (POp.shift rfl rfl rfl rfl rfl Ya (ish_left c ⟨Ya,Ya⟩)) ?_;refine Z2 ?_;refine oP (POp.bits rfl rfl rfl rfl rfl (ibit_or _ _ Ya (Nat.pow_lt_pow_right (a:=2) (n:=63) (by decide) Ya))) ?_;refine oP (POp.ixC rfl rfl rfl rfl rfl Ya) ?_;apply OL.stoC rfl rfl rfl rfl rfl rfl rfl rfl rfl rfl
      (case hu=>repeat (first | exact Upd.head _ _ _ | apply Upd.tail));(case hfit=>simp[getJ_len];omega);(case hds=>exact (ints_set (by rw[getJ_len];exact hjl) _).trans YaE)
      refine Z7 ?_;exact ag (⟨j+1,rfl,rfl,hjl⟩)
     ·obtain rfl:j=kinds.length:=by omega
      rw[getJ_all];refine Z5 ?_;exact Done.roundN (H:=[.blk ib 4 [.b true],.blk cb 23 [lV gb kinds.length],lE gb (getsK (A++[x]) kinds.length),.own 23 1 v2,.own 3 1 v1]) Ya1 (by rw[filter_yes (q:=(λl=>(outK p t l M.fact).1)) h2, <-hAe,show (!(A++[x]).isEmpty)=true by simp])
   ·intro D1 H1 hJ;obtain rfl:=hJ;have hye:(choicesK kinds).filter (λl=>(outK p t l M.fact).1)=yesK p t M.fact kinds:=rfl;rw[hye];refine Z7 ?_;refine CW.cond rfl (λh4=>?_) (λh4=>?_)
    ·have hA:yesK p t M.fact kinds≠ []:=λe=>by rw[e] at h4;simp at h4
     obtain⟨G,hG⟩:∃G,G=getsK (yesK p t M.fact kinds) kinds.length:=⟨_,rfl⟩;rw[<-hG] at hmy ⊢;rw[may_freeze gb cb G 0];refine CW.perm (H':=.blk gb 3 ((G.map λx=>[AV.i x]).flatten++[])::.blk cb 23 ([]++lV gb kinds.length::[])::(.blk ib 4 [.b (!(yesK p t M.fact kinds).isEmpty)]::.own 23 1 v2::.own 3 1 v1::(marksE (D1::Ds0)++H))) (((List.Perm.swap _ _ _).trans (.cons _ (.swap _ _ _))).trans (.swap _ _ _)) ?_;refine CW.freezeCellC (k:=1) (by rw[List.length_map,hG];simp[getsK]) (λe he=>by obtain⟨y,_,rfl⟩:=List.mem_map.1 he;rfl) (Nat.le_refl _) Yw ?_;refine CW.freezeP (d:=10) rfl Yq ?_;refine CW.dp mixed ?_;refine DP.anyK (X:=noX) [⟨3,63,false⟩] (λJ=>match J with | [some a]=>.blk ib 4 [.b (!(yesK p t M.fact kinds).isEmpty)]::.own 23 1 v2::.own 3 1 a::(marksE (D1::Ds0)++H) | _=>.blk ib 4 [.b (!(yesK p t M.fact kinds).isEmpty)]::.own 23 1 v2::.own 3 1 v1::(marksE (D1::Ds0)++H)) (λq J=>match q,J with | 0,[some a]=>.as (.sl 1 (((mayN p t gen kinds m).map (·.1)).map (λn=>[AV.i n])++[[.i (m:Int)]])) a | _,_=>.any) 0 7 71 rfl Yf Yf rfl rfl Yf rfl (λ_ _ _ _ _ _ _ _ _ h=>h.elim) ?_;refine UD.popK [[false]] rfl Yf rfl rfl rfl ⟨λf=>POp.move rfl rfl rfl,trivial⟩ ?_;refine UD.popK [[false]] rfl Yf rfl rfl rfl ⟨λf=>POp.move rfl rfl rfl,trivial⟩ ?_;refine UD.popK [[false]] rfl Yf rfl rfl rfl ⟨λf=>POp.row (els:=[[.i (m:Int)]]) rfl rfl Yk rfl rfl rfl rfl rfl rfl,trivial⟩ ?_;refine UD.effK 0 [[false]] rfl rfl rfl Yf rfl rfl rfl ⟨λf=>⟨KOk.own (news:=[[.i (m:Int)]]) rfl rfl rfl (AVle.refl _) rfl rfl (AVle.refl _) rfl Yj Yj (λ_=>by repeat (first | exact Upd.head _ _ _ | apply Upd.tail)) (λ_=>rfl),YL⟩,trivial⟩ ?_;refine UD.popK [[true],[false]] rfl Yf rfl rfl rfl ⟨λf=>POp.move rfl rfl rfl,λf=>POp.move rfl rfl rfl,trivial⟩ ?_;refine UD.popK [[true],[false]] rfl Yf rfl rfl rfl ⟨λf=>Yi,λf=>Yi,trivial⟩ ?_;refine UD.popK [[true],[false]] rfl Yf rfl rfl rfl ⟨λf=>POp.row (els:=[[AV.ints G]]) rfl rfl Yk rfl rfl rfl rfl rfl rfl,λf=>POp.row (els:=[[AV.ints G]]) rfl rfl Yk rfl rfl rfl rfl rfl rfl,trivial⟩ ?_;refine UD.nil (λf=>?_);simp only[kvals,List.map_cons,List.map_nil,List.cons_append,List.nil_append];refine Z1 ?_;refine OL.appendC rfl rfl rfl rfl rfl rfl rfl rfl (AVle.refl _) (rfl) (λv=>by repeat (first | exact Upd.head _ _ _ | apply Upd.tail)) Yj Yj (λv67=>?_);refine Z9 ?_;refine Done.againM (D1::Ds0) (⟨m+1,f 63,v67,by rw[hmy h1 hA,fst_snoc,snd_snoc],rfl,hmn⟩) ?_ ?_ ?_
     ·omega
     ·repeat (first | exact trivial | refine⟨rfl,?_⟩)
     ·repeat (first | exact List.Sublist.refl _ | apply List.Sublist.cons_cons | refine List.Sublist.cons _ ?_)
    ·have hA:yesK p t M.fact kinds= []:=by simpa using h4
     refine Z7 ?_;refine Done.againM (D1::Ds0) (⟨m+1,v1,v2,by rw[hmno hA],rfl,hmn⟩) ?_ ?_ ?_
     ·omega
     ·repeat (first | exact trivial | refine⟨rfl,?_⟩)
     ·repeat (first | exact List.Sublist.refl _ | apply List.Sublist.cons_cons | refine List.Sublist.cons _ ?_)
   ·intro D1 code0 pre H1 hpre hJx;exact hJx.elim
 ·obtain rfl:m=p.methods.length:=by omega
  refine Z14 ?_;refine Done.retMs Ds0 ([]) H (rs:=[.tmp 6,.tmp 7]) (H':=H) rfl Yv (.tmp rfl (.tmp rfl (.nil))) (.cons (AVle.asL _ _) (.cons (AVle.asL _ _) .nil)) Yc ?_;exact⟨Yax,rfl⟩
def askM(p:Prog)(t:Tbl)(gen:Int)(kinds:List Int):Bool:=tableP p t && isGen p gen && ((kinds.length:Int)==argsG p gen) && kinds.all (kindB (manyC p))
def mayA(p:Prog)(t:Tbl)(gen:Int)(kinds:List Int):AV:=if askM p t gen kinds then .tup [AV.ints ((mayP p t gen kinds).map (·.1)),AV.intss ((mayP p t gen kinds).map (·.2)),.i 0] else .tup [AV.ints [],AV.intss [],.i 2]
theorem askM_no{gen:Int}(h:askM p t gen kinds=false):mayA p t gen kinds= .tup [AV.ints [],AV.intss [],.i 2]:=if_neg (by rw[h];decide)
theorem args_three(hz:(sizesP p).isSome=true){gen:Int}(hg:isGen p gen=true):argsG p gen<=3:=by
 obtain⟨o,ho⟩:=Option.isSome_iff_exists.1 hz;simp only[isGen,Bool.and_eq_true,decide_eq_true_eq] at hg;exact (gens_in (sizes_parts ho).2.2.1 (getD_memB (l:=p.gens) (k:=gen.toNat) Ya)).2
theorem askg_bif{gen:Int}(kinds:List Int):(bif bif bif !true then true else decide (gen<0) then true else decide (gen>=(p.gens.length:Int)) then true else (kinds.length:Int) !=p.gens.getD gen.toNat default)= !(isGen p gen && ((kinds.length:Int)==argsG p gen)):=by
 unfold isGen argsG;rw[bne,show decide (gen<0)= !decide (gen>=0) by rw[Bool.eq_iff_iff];simp,show decide (gen>=(p.gens.length:Int))= !decide (gen<(p.gens.length:Int)) by rw[Bool.eq_iff_iff];simp];cases decide (gen>=0) <;> cases decide (gen<(p.gens.length:Int)) <;> rfl
theorem gen_of(p:Prog){n:Int}(h:(!bif bif !true then true else decide (n<0) then true else decide (n>=(p.gens.length:Int)))=true):isGen p n=true:=by
 unfold isGen;simp at h ⊢;omega
theorem mayQ1(hz:(sizesP p).isSome=true)(t:Tbl)(k:Int):PCall Tryz.prog 86 [.i k,.ptr [AV.eng p t]] (.b (kindB (manyC p) k)):=by
 intro H;refine aC (n:=21) Tryz.func86 λB I w0=>?_;have hm:=many_le hz;have hbl:=belowT_len p;refine Z11 ?_;refine OL.guardC rfl rfl rfl rfl rfl rfl (λhg=>POp.div rfl rfl rfl (gd hg) rfl Ya (.inr ⟨rfl,rfl⟩)) ?_;refine Z9 ?_;refine OL.guardC rfl rfl rfl rfl rfl rfl (λhg=>POp.shift rfl rfl rfl rfl (gd hg) Ya (ish_left _ ⟨Ya,Ya⟩)) ?_;refine Z6 ?_;refine r1 3 (H) ?_;exact⟨retB (by rw[hbl];exact kindB_prog k),rfl⟩
theorem mayCA(hp:p.Small){t:Tbl}(hz:(sizesP p).isSome=false)(gen:Int)(kinds:List Int):PCall Tryz.prog 23 [AV.prog p,AV.tbl t,.i gen,AV.ints kinds] (mayA p t gen kinds):=by
 intro H;refine aC (n:=57) Tryz.func23 λB I w0=>?_;have hno:askM p t gen kinds=false:=by unfold askM tableP;rw[hz];rfl
 refine Z13 ?_;refine oP (POp.call .k (askedNo hp t hz)) ?_;refine Z3 ?_;refine OL.alC rfl rfl rfl rfl (λb0=>?_);refine Z6 ?_;refine CW.freezeP (d:=11) rfl Yq ?_;refine Z20 ?_;refine OL.guardC rfl rfl rfl rfl rfl rfl (λhg=>YV) ?_;refine Z5 ?_;refine CW.cond rfl (λh0=>?_) (λh0=>?_)
 ·refine Z9 ?_;refine Done.retR (rs:=[.tmp 8,.tmp 9,.tmp 10]) (H':=H) rfl (.tmp rfl (.tmp rfl (.tmp rfl (.nil)))) (.cons (AVle.nil 1) (.cons (AVle.nil 1) (.cons (.refl _) .nil))) Yc ?_;exact⟨by rw[askM_no hno];rfl,rfl⟩
 ·simp at h0
theorem mayCB(hp:p.Small){t:Tbl}(hz:(sizesP p).isSome=true)(ht:tblOk p t=false)(gen:Int)(kinds:List Int):PCall Tryz.prog 23 [AV.prog p,AV.tbl t,.i gen,AV.ints kinds] (mayA p t gen kinds):=by
 intro H;refine aC (n:=57) Tryz.func23 λB I w0=>?_;have hno:askM p t gen kinds=false:=by unfold askM tableP;rw[ht,Bool.and_false];rfl
 refine Z13 ?_;refine oP (POp.call .k (askedBad hp hz ht)) ?_;refine Z3 ?_;refine OL.alC rfl rfl rfl rfl (λb0=>?_);refine Z6 ?_;refine CW.freezeP (d:=11) rfl Yq ?_;refine Z20 ?_;refine OL.guardC rfl rfl rfl rfl rfl rfl (λhg=>YV) ?_;refine Z5 ?_;refine CW.cond rfl (λh0=>?_) (λh0=>?_)
 ·refine Z9 ?_;refine Done.retR (rs:=[.tmp 8,.tmp 9,.tmp 10]) (H':=H) rfl (.tmp rfl (.tmp rfl (.tmp rfl (.nil)))) (.cons (AVle.nil 1) (.cons (AVle.nil 1) (.cons (.refl _) .nil))) Yc ?_;exact⟨by rw[askM_no hno];rfl,rfl⟩
 ·simp at h0
theorem mayCC(hp:p.Small){t:Tbl}(hz:(sizesP p).isSome=true)(ht:tblOk p t=true)(gen:Int)(kinds:List Int):PCall Tryz.prog 23 [AV.prog p,AV.tbl t,.i gen,AV.ints kinds] (mayA p t gen kinds):=by
 intro H;refine aC (n:=57) Tryz.func23 λB I w0=>?_;obtain⟨hs,hsl,_⟩:=tblOk_parts ht;have hk:askM p t gen kinds=(isGen p gen && ((kinds.length:Int)==argsG p gen) && kinds.all (kindB (manyC p))):=by unfold askM tableP;rw[hz,ht];rfl
 refine Z13 ?_;refine oP (POp.call .k (askedYes hp hz ht)) ?_;refine Z3 ?_;refine OL.alC rfl rfl rfl rfl (λb0=>?_);refine Z6 ?_;refine CW.freezeP (d:=11) rfl Yq ?_;refine Z20 ?_;refine OL.guardC rfl rfl rfl rfl rfl rfl (λhg=>(by first | exact POp.ixM rfl rfl (gd hg) rfl (gd hg) ⟨Yaz,Yaz⟩ | exact POp.ixI rfl rfl (gd hg) rfl (gd hg) ⟨Yaz,Yaz⟩)) ?_;refine Z5 ?_;rw[askg_bif];refine CW.cond rfl (λh0=>?_) (λh0=>?_)
 ·rw[Bool.not_eq_true'] at h0;refine Z9 ?_;refine Done.retR (rs:=[.tmp 8,.tmp 9,.tmp 10]) (H':=H) rfl (.tmp rfl (.tmp rfl (.tmp rfl (.nil)))) (.cons (AVle.nil 1) (.cons (AVle.nil 1) (.cons (.refl _) .nil))) Yc ?_;exact⟨by rw[askM_no (by rw[hk,h0];rfl)];rfl,rfl⟩
 ·rw[Bool.not_eq_false'] at h0;rw[h0,Bool.true_and] at hk;rw[Bool.and_eq_true,beq_iff_eq] at h0;obtain⟨hgn,hll⟩:=h0;have h3:=args_three hz hgn;refine Z7 ?_;refine oP (POp.call .k (allK (.of (mayQ1 hz t)) _)) ?_;refine Z3 ?_;refine CW.cond rfl (λh1=>?_) (λh1=>?_)
  ·have h1:kinds.all (kindB (manyC p))=false:=by simpa using h1
   refine Z9 ?_;refine Done.retR (rs:=[.tmp 8,.tmp 9,.tmp 10]) (H':=H) rfl (.tmp rfl (.tmp rfl (.tmp rfl (.nil)))) (.cons (AVle.nil 1) (.cons (AVle.nil 1) (.cons (.refl _) .nil))) Yc ?_;exact⟨by rw[askM_no (by rw[hk,h1])];rfl,rfl⟩
  ·have h1:kinds.all (kindB (manyC p))=true:=by simpa using h1
   rw[h1] at hk;refine Z7 ?_;refine oP (POp.call .k (mayK hz hs hsl (List.all_eq_true.1 h1) hll Ya)) ?_;refine Z17 ?_;refine rR [.tmp 8,.tmp 9,.tmp 10] (H) ?_;exact⟨by rw[mayA,if_pos hk];rfl,rfl⟩
theorem mayCall(hp:p.Small)(t:Tbl)(gen:Int)(kinds:List Int):PCall Tryz.prog 23 [AV.prog p,AV.tbl t,.i gen,AV.ints kinds] (mayA p t gen kinds):=by
 cases hz:(sizesP p).isSome with
 | false=>exact mayCA hp hz gen kinds
 | true=>
  cases ht:tblOk p t with
  | false=>exact mayCB hp hz ht gen kinds
  | true=>exact mayCC hp hz ht gen kinds
def chF(k:Int)(l:List Int):List (List Int):=(bitsK k.toNat).map λ(c:Nat)=>l++[(c:Int)]
def chP(kinds:List Int):Nat->List (List Int)
 | 0=>[[]]
 | i+1=>(chP kinds i).flatMap (chF (kinds.getD i default))
theorem chP_inv{kinds:List Int}:∀{i:Nat},i<=kinds.length->(chP kinds i).flatMap (λq=>(choicesK (kinds.drop i)).map λl=>q++l)=choicesK kinds
 | 0,_=>by simp[chP]
 | i+1,h=>by
  refine Eq.trans ?_ (chP_inv (i:=i) Ya);rw[chP,List.flatMap_assoc];congr 1;funext q;have e:kinds.drop i=kinds.getD i default::kinds.drop (i+1):=by
   rw[List.drop_eq_getElem_cons Ya,List.getD_eq_getElem?_getD,List.getElem?_eq_getElem Ya];rfl
  rw[e,choicesK,List.map_flatMap,chF,List.flatMap_map];congr 1;funext c;rw[List.map_map];congr 1;funext l;simp
theorem chP_all(kinds:List Int):chP kinds kinds.length=choicesK kinds:=by
 have:=chP_inv (kinds:=kinds) (i:=kinds.length) (Nat.le_refl _);rw[<-this,List.drop_length];simp[choicesK]
theorem bits_len(k:Nat):(bitsK k).length<=62:=by
 have:=List.length_filter_le k.testBit (List.range 62);rwa [List.length_range] at this
theorem chP_len(kinds:List Int):∀i,(chP kinds i).length<=62^i
 | 0=>by simp[chP]
 | i+1=>by
  rw[chP,List.length_flatMap];have h1:∀(L:List (List Int)),(L.map λa=>(chF (kinds.getD i default) a).length).sum<=L.length*62:=by
   intro L
   induction L with
   | nil=>simp
   | cons x r ih=>
    rw[List.map_cons,List.sum_cons,List.length_cons];have:(chF (kinds.getD i default) x).length<=62:=by rw[chF,List.length_map];exact bits_len _
    omega
  have:=h1 (chP kinds i);have h2:=chP_len kinds i;rw[Nat.pow_succ];have:=Nat.mul_le_mul_right 62 h2;omega
theorem flat_take{F:List Int->List (List Int)}(h:k<L.length):(L.take (k+1)).flatMap F=(L.take k).flatMap F++F (L.getD k default):=by
 rw[<-take_getD h,List.flatMap_append];simp
theorem flat_len{x:Int}(h:L.length<=n):((L.take k).flatMap (chF x)).length<=n*62:=by
 rw[List.length_flatMap];have h1:∀(L:List (List Int)),(L.map λa=>(chF x a).length).sum<=L.length*62:=by
  intro L
  induction L with
  | nil=>simp
  | cons y r ih=>
   rw[List.map_cons,List.sum_cons,List.length_cons];have:(chF x y).length<=62:=by rw[chF,List.length_map];exact bits_len _
   omega
 have h2:=h1 (L.take k);have h3:(L.take k).length<=n:=by rw[List.length_take];omega
 have:=Nat.mul_le_mul_right 62 h3;omega
theorem ch_snoc(h:k.testBit c=true)(l:List Int)(X:List (List Int)):AV.intss (X++(bitsTo k (c+1)).map λ(d:Nat)=>l++[(d:Int)])= .sl 1 ((X++(bitsTo k c).map λ(d:Nat)=>l++[(d:Int)]).map (λn=>[AV.ints n])++[[AV.ints (l++[(c:Int)])]]):=by
 rw[bits_yes h,List.map_append, <-List.append_assoc];show AV.sl 1 (List.map _ (_++_))=_;rw[List.map_append];rfl
theorem bits_len2(k n:Nat)(h:n<=62):(bitsTo k n).length<=62:=by
 have:=List.length_filter_le k.testBit (List.range n);rw[List.length_range] at this;unfold bitsTo;omega
theorem rChoices(hz:(sizesP p).isSome=true){kinds:List Int}(hk:∀k∈kinds,kindB (manyC p) k=true)(hk3:kinds.length<=3):PCall Tryz.prog 152 [AV.ints kinds] (AV.intss (choicesK kinds)):=by
 intro H;refine aC (n:=45) Tryz.func152 λB I w0=>?_;have hm13:=many_le hz;have hpw:=pow_many hz;refine Z7 ?_;refine oP (POp.row rfl rfl Yk rfl rfl rfl rfl rfl rfl) ?_;refine Z10 ?_;refine CW.le 3 (y:=AV.intss (chP kinds 0)) rfl (AVle.sl (.cons (.cons (AVle.nil 1) .nil) .nil)) ?_;refine lj (λq st=>∃i:Nat,st=⟨[(4,.i i),(3,AV.intss (chP kinds i)),(0,AV.ints kinds)],H⟩/\q=kinds.length - i/\i<=kinds.length) (⟨0,rfl,rfl,Ya⟩) ?_;rintro q _ ⟨i,rfl,rfl,hi⟩;refine Z9 ?_;refine cd (λh0=>?_) λh0=>?_
 ·have hil:i<kinds.length:=by omega
  obtain⟨hkd1,hkd2,hkd3⟩:=kindB_nat (hk _ (getD_memB hil));obtain⟨kd,hkd⟩:∃kd,kd=(kinds.getD i default).toNat:=⟨_,rfl⟩;rw[<-hkd] at hkd1 hkd2 hkd3;have hcn:(chP kinds i).length<=4000000:=Nat.le_trans (chP_len kinds i) (Nat.le_trans (Nat.pow_le_pow_right (by decide) (show i<=3 by omega)) (by decide));have hcs:chP kinds (i+1)=(chP kinds i).flatMap (chF (kd:Int)):=by rw[chP, <-hkd1]
  refine Z16 ?_;refine CW.ownNil 5 23 1 rfl ?_;refine lj (λq st=>∃(k:Nat) (v:Value),st=⟨[(6,.i k),(5,.as (AV.intss (((chP kinds i).take k).flatMap (chF (kd:Int)))) v),(4,.i i),(3,AV.intss (chP kinds i)),(0,AV.ints kinds)],.own 23 1 v::H⟩/\q=(chP kinds i).length - k/\k<=(chP kinds i).length) (⟨0,_,rfl,rfl,Ya⟩) ?_;rintro q _ ⟨k,v,rfl,rfl,hkk⟩;refine Z9 ?_;refine cd (λh1=>?_) λh1=>?_
  ·have hkl:k<(chP kinds i).length:=by omega
   obtain⟨l,hl⟩:∃l,l=(chP kinds i).getD k default:=⟨_,rfl⟩;have hft:=flat_take (F:=chF (kd:Int)) hkl;rw[<-hl] at hft;have hll:l.length<=1000:=by
    have:∀j,∀y∈chP kinds j,y.length=j:=by
     intro j
     induction j with
     | zero=>intro y hy;simp[chP] at hy;rw[hy];rfl
     | succ j ih=>
      intro y hy;rw[chP,List.mem_flatMap] at hy;obtain⟨z,hz1,hz2⟩:=hy;obtain⟨c,_,rfl⟩:=List.mem_map.1 hz2;rw[List.length_append,ih z hz1];rfl
    have:=this i l (hl▸getD_memB hkl);omega
   refine Z10 ?_;refine lj (λq st=>∃(c:Nat) (v:Value),st=⟨[(7,.i c),(6,.i k),(5,.as (AV.intss (((chP kinds i).take k).flatMap (chF (kd:Int))++(bitsTo kd c).map λ(d:Nat)=>l++[(d:Int)])) v),(4,.i i),(3,AV.intss (chP kinds i)),(0,AV.ints kinds)],.own 23 1 v::H⟩/\q=40 - c/\1<=c/\c<=40) (⟨1,v,by rw[bits_one hkd3,List.map_nil,List.append_nil],rfl,Ya,Ya⟩) ?_;rintro q _ ⟨c,v,rfl,rfl,hc1,hc⟩;refine Z7 ?_;refine cd (λh2=>?_) λh2=>?_
   ·have hcl:c<40:=by omega
    refine Z9 ?_;refine oP (POp.le (POp.ld1 rfl rfl rfl rfl) (AVle.eqI hkd1)) ?_;refine Z1 ?_;refine oP (POp.call .k (rHasB kd c Ya)) ?_;refine Z2 ?_;refine CW.cond rfl (λh3=>?_) (λh3=>?_)
    ·refine Z2 ?_;refine OL.row0Own rfl rfl rfl rfl (λv32=>?_);refine Z3 ?_;refine oP (POp.le (POp.ld1 rfl rfl rfl rfl) (by rw[<-hl];exact AVle.refl _)) ?_;refine OL.appendC rfl rfl rfl rfl rfl rfl rfl rfl (AVle.refl _) (one_ints _) (λv=>by repeat (first | exact Upd.head _ _ _ | apply Upd.tail)) YG YG (λv37=>?_);refine Z1 ?_;refine OL.popC (x:=.sl 1 [[.i (c:Int)]]) rfl rfl rfl (POp.row rfl rfl Yk rfl rfl rfl rfl rfl rfl) ?_;refine OL.appendC rfl rfl rfl rfl rfl rfl rfl rfl (AVle.refl _) (rfl) (λv=>by repeat (first | exact Upd.head _ _ _ | apply Upd.tail)) YG YG (λv40=>?_);refine OL.le 40 (y:=AV.ints (l++[(c:Int)])) rfl (by rw[show AV.ints (l++[(c:Int)])= .sl 1 ([]++l.map (λn=>[AV.i n])++[[AV.i (c:Int)]]) by show AV.sl 1 (List.map _ _)=_;rw[List.map_append];rfl];exact AVle.asL _ _) ?_;refine OL.popC (x:=.sl 1 [[AV.ints (l++[(c:Int)])]]) rfl rfl rfl (POp.row rfl rfl Yk rfl rfl rfl rfl rfl rfl) ?_;refine OL.appendC rfl rfl rfl rfl rfl rfl rfl rfl (AVle.refl _) (rfl) (λv=>by repeat (first | exact Upd.head _ _ _ | apply Upd.tail)) YF YF (λv42=>?_);refine Z9 ?_;exact ag (⟨c+1,v42,by rw[ch_snoc h3],rfl,Ya,hcl⟩)
    ·refine Z8 ?_;exact ag (⟨c+1,v,by rw[bits_no h3],rfl,Ya,hcl⟩)
   ·obtain rfl:c=40:=by omega
    rw[bitsTo_all (k:=kd) (n:=40) (by have:2^manyC p<=2^40:=Nat.pow_le_pow_right (by decide) Ya;omega) (by decide),show (bitsK kd).map (λ(d:Nat)=>l++[(d:Int)])=chF (kd:Int) l from rfl, <-hft];refine Z11 ?_;exact ag (⟨k+1,v,rfl,rfl,hkl⟩)
  ·obtain rfl:k=(chP kinds i).length:=by omega
   rw[List.take_length, <-hcs];refine Z5 ?_;refine CW.le 5 (y:=AV.intss (chP kinds (i+1))) rfl (AVle.asL _ _) ?_;refine Z11 ?_;exact ag (⟨i+1,rfl,rfl,hil⟩)
 ·obtain rfl:i=kinds.length:=by omega
  rw[chP_all];refine Z12 ?_;refine r1 2 (H) ?_;exact⟨Yax,rfl⟩
theorem rGets(hz:(sizesP p).isSome=true)(hs:SlotsOk p t)(hsl:(t.slots.length:Int)=p.slots){kinds:List Int}(hk:∀k∈kinds,kindB (manyC p) k=true)(hk3:kinds.length<=3){f:Fact}(hfo:∀x∈choicesK kinds,FOk p x f):PCall Tryz.prog 153 [AV.world (worldOf p),AV.tbl t,AV.fact f,AV.ints kinds,AV.intss (choicesK kinds)] (.tup [AV.ints (getsK (yesK p t f kinds) kinds.length),.b (!(yesK p t f kinds).isEmpty)]):=by
 intro H;refine aC (n:=63) Tryz.func153 λB I w0=>?_;have hm13:=many_le hz;have hpw:=pow_many hz;obtain⟨L,hL⟩:∃L,L=choicesK kinds:=⟨_,rfl⟩;rw[<-hL] at hfo ⊢;refine CW.boundM (t:=4) rfl (λhb4=>?_);refine Z13 ?_;refine OL.mkSlC (kinds.length) rfl rfl rfl rfl rfl rfl rfl rfl (rfl) Ya Yw (λgb=>?_);refine Z15 ?_;rw[rep_gets];refine lj (λq st=>∃i:Nat,st=⟨[(13,.b (!((L.take i).filter (λl=>(outK p t l f).1)).isEmpty)),(14,.i i),(12,lV gb kinds.length),(3,AV.ints kinds),(4,AV.intss L),(5,.ptr (Wcells (worldOf p))),(6,.ptr (tblA t)),(7,.ptr (Fcells f))],lE gb (getsK ((L.take i).filter (λl=>(outK p t l f).1)) kinds.length)::H⟩/\q=L.length - i/\i<=L.length) (⟨0,rfl,rfl,Ya⟩) ?_;rintro q _ ⟨i,rfl,rfl,hi⟩;refine Z9 ?_;refine cd (λh0=>?_) λh0=>?_
 ·have hil:i<L.length:=by omega
  obtain⟨x,hx⟩:∃x,x=L.getD i default:=⟨_,rfl⟩;have hxL:x∈L:=hx▸getD_memB hil;have hxm:x∈choicesK kinds:=hL▸hxL;obtain⟨hxl,hxc⟩:=choices_mem hxm;have hcl:=choices_cls hk hxm;obtain⟨A,hAe⟩:∃A,A=((L.take i).filter (λl=>(outK p t l f).1)):=⟨_,rfl⟩;rw[<-hAe];have hAm:∀y∈A,y∈choicesK kinds:=λy hy=>by rw[hAe] at hy;exact hL▸List.mem_of_mem_take (List.mem_filter.1 hy).1
  have hfy:(outK p t x f).1=true->(L.take (i+1)).filter (λl=>(outK p t l f).1)=A++[x]:=λh=>by rw[<-take_getD hil, <-hx,filter_yes (q:=(λl=>(outK p t l f).1)) h, <-hAe]
  have hfn:(outK p t x f).1=false->(L.take (i+1)).filter (λl=>(outK p t l f).1)=A:=λh=>by rw[<-take_getD hil, <-hx,filter_no (q:=(λl=>(outK p t l f).1)) h, <-hAe]
  refine Z5 ?_;refine CW.dp mixed ?_;refine DP.anyC 0 7 63 rfl Yf rfl rfl Yf ?_;refine Z6 ?_;refine AD.popC rfl rfl rfl (POp.le (POp.ld1 rfl rfl rfl rfl) (by rw[<-hx];exact AVle.refl _)) ?_;refine Z2 ?_;refine oP (POp.call .k (rOutC hz hs hsl hcl _ (hfo x hxL))) ?_;refine Z6 ?_;refine DP.anyC 9 12 63 rfl Yf rfl rfl Yf ?_;refine Z13 ?_;refine CW.cond rfl (λh1=>?_) (λh1=>?_)
  ·have h1:(outK p t x f).1=true:=h1;refine Z11 ?_;rw[<-getJ_zero A x];refine lj (λq st=>∃j:Nat,st=⟨[(17,.i j),(13,.b true),(14,.i i),(12,lV gb kinds.length),(3,AV.ints kinds),(4,AV.intss L),(5,.ptr (Wcells (worldOf p))),(6,.ptr (tblA t)),(7,.ptr (Fcells f))],lE gb (getJ A x kinds.length j)::H⟩/\q=kinds.length - j/\j<=kinds.length) (⟨0,rfl,rfl,Ya⟩) ?_;rintro q _ ⟨j,rfl,rfl,hj⟩;refine Z9 ?_;refine cd (λh2=>?_) λh2=>?_
   ·have hjl:j<kinds.length:=by omega
    obtain⟨c,hc,_⟩:=hxc j hjl;have hcm:=hcl _ (getD_memB (l:=x) (k:=j) Ya);rw[hc] at hcm;have hgl:getK A j<2^62:=getK_lt (m:=manyC p) Ya A (λy hy=>by have hyl:=(choices_mem (hAm y hy)).1;have h7:=choices_cls hk (hAm y hy) _ (getD_memB (l:=y) (k:=j) Ya);omega) (λy hy=>by have hyl:=(choices_mem (hAm y hy)).1;have h7:=choices_cls hk (hAm y hy) _ (getD_memB (l:=y) (k:=j) Ya);omega);have hset:=getJ_set (L:=A) (x:=x) hjl;rw[hc] at hset;refine Z4 ?_;refine CW.dp mixed ?_;refine DP.anyC 0 15 63 rfl Yf rfl rfl Yf ?_;refine Z4 ?_;refine AD.popC rfl rfl rfl (POp.ixC rfl rfl rfl rfl rfl Ya) ?_;refine AD.popC rfl rfl rfl (POp.le Y0 (AVle.eqI (getJ_at hjl))) ?_;refine Z3 ?_;refine AD.popC rfl rfl rfl (POp.le (POp.ld1 rfl rfl rfl rfl) (by rw[<-hx];exact AVle.refl _)) ?_;refine Z2 ?_;refine AD.popC rfl rfl rfl (POp.le (POp.ld1 rfl rfl rfl rfl) (AVle.eqI hc)) ?_;refine AD.popC rfl rfl rfl (POp.shift rfl rfl rfl rfl rfl Ya (ish_left c ⟨Ya,Ya⟩)) ?_;refine AD.popC rfl rfl rfl (POp.bits rfl rfl rfl rfl rfl (ibit_or _ _ Ya (Nat.pow_lt_pow_right (a:=2) (n:=63) (by decide) Ya))) ?_;refine Z2 ?_;refine oP (POp.ixC rfl rfl rfl rfl rfl Ya) ?_;apply OL.stoC rfl rfl rfl rfl rfl rfl rfl rfl rfl rfl
    (case hu=>repeat (first | exact Upd.head _ _ _ | apply Upd.tail));(case hfit=>simp[getJ_len];omega);(case hds=>exact (ints_set (by rw[getJ_len];exact hjl) _).trans YaE)
    refine Z8 ?_;exact ag (⟨j+1,rfl,rfl,hjl⟩)
   ·obtain rfl:j=kinds.length:=by omega
    rw[getJ_all];refine Z11 ?_;exact ag (⟨i+1,by rw[hfy h1,show (!(A++[x]).isEmpty)=true by simp],rfl,hil⟩)
  ·have h1:(outK p t x f).1=false:=h1;refine Z8 ?_;exact ag (⟨i+1,by rw[hfn h1],rfl,hil⟩)
 ·obtain rfl:i=L.length:=by omega
  rw[List.take_length];have hye:L.filter (λl=>(outK p t l f).1)=yesK p t f kinds:=by rw[hL];rfl
  rw[hye];refine Z6 ?_;rw[may_freeze gb gb (getsK (yesK p t f kinds) kinds.length) 0];refine CW.freezeS (d:=12) (k:=1) rfl (Del.head _ _) (by rw[List.length_map];simp[getsK]) (λe he=>by obtain⟨y,_,rfl⟩:=List.mem_map.1 he;rfl) (Nat.le_refl _) Yw ?_;refine Z8 ?_;refine rR [.tmp 10,.tmp 11] (H) ?_;exact⟨Yax,rfl⟩
theorem rMayOf(hp:p.Small){t:Tbl}(hz:(sizesP p).isSome=true)(hs:SlotsOk p t)(hsl:(t.slots.length:Int)=p.slots){gen:Int}{kinds:List Int}(hk:∀k∈kinds,kindB (manyC p) k=true)(hkl:(kinds.length:Int)=argsG p gen)(hk3:kinds.length<=3):PCall Tryz.prog 90 [AV.prog p,AV.tbl t,.i gen,AV.ints kinds] (.tup [AV.ints ((mayP p t gen kinds).map (·.1)),AV.intss ((mayP p t gen kinds).map (·.2))]):=by
 intro H;refine aC (n:=61) Tryz.func90 λB I w0=>?_;have hml:=methods_le hz;refine Z21 ?_;refine oP (POp.call .k (world_of hp hz)) ?_;refine Z1 ?_;refine oP (POp.call .k (rChoices hz hk hk3)) ?_;refine OL.alC rfl rfl rfl rfl (λwb=>?_);refine Z6 ?_;refine CW.freezeP (d:=12) rfl Yq ?_;refine Z5 ?_;refine CW.ownNil 10 3 1 rfl ?_;refine CW.ownNil 11 23 1 rfl ?_;refine lj (λq st=>∃(m:Nat) (v1 v2:Value),st=⟨[(14,.i m),(13,AV.intss (choicesK kinds)),(12,.ptr (Wcells (worldOf p))),(10,.as (AV.ints ((mayN p t gen kinds m).map (·.1))) v1),(11,.as (AV.intss ((mayN p t gen kinds m).map (·.2))) v2),(2,.i gen),(3,AV.ints kinds),(4,.ptr (progC p)),(5,.ptr (tblA t))],.own 23 1 v2::.own 3 1 v1::H⟩/\q=p.methods.length - m/\m<=p.methods.length) (⟨0,_,_,rfl,rfl,Ya⟩) ?_;rintro q _ ⟨m,v1,v2,rfl,rfl,hm⟩;refine Z10 ?_;refine cd (λh0=>?_) λh0=>?_
 ·have hmn:m<p.methods.length:=by omega
  obtain⟨M,hM⟩:∃M,M=p.methods.getD m default:=⟨_,rfl⟩;have hmg:=mayN_gen (p:=p) (t:=t) (gen:=gen) (kinds:=kinds) (m:=m);have hmno:=mayN_no (p:=p) (t:=t) (gen:=gen) (kinds:=kinds) (m:=m);have hmy:=mayN_yes (p:=p) (t:=t) (gen:=gen) (kinds:=kinds) (m:=m);rw[<-hM] at hmg hmno hmy;refine Z12 ?_;refine oP (POp.le (POp.ld1 rfl rfl rfl rfl) (AVle.eqI (by rw[<-hM]))) ?_;refine Z4 ?_;refine cd (λh1=>?_) λh1=>?_
  ·refine Z9 ?_;exact ag (⟨m+1,v1,v2,by rw[hmg h1],rfl,hmn⟩)
  ·have hfo:∀x∈choicesK kinds,FOk p x M.fact:=λx hx=>by
    have hmi:isMth p (m:Int)=true:=by unfold isMth;simp;omega
    have h5:=mth_fact hz hmi (l:=x) Yak;rw[show ((m:Int)).toNat=m from rfl, <-hM] at h5;exact h5
   obtain⟨G,hG⟩:∃G,G=getsK (yesK p t M.fact kinds) kinds.length:=⟨_,rfl⟩;have hgt:=rGets hz hs hsl hk hk3 hfo;rw[<-hG] at hmy hgt;refine Z3 ?_;refine CW.dp mixed ?_;refine DP.anyC 0 10 61 rfl Yf rfl rfl Yf ?_;refine Z7 ?_;refine AD.popC rfl rfl rfl (POp.le (POp.ldA rfl rfl rfl rfl) (show AVle _ (AV.fact M.fact) by rw[hM];exact AVle.refl _)) ?_;refine Z4 ?_;refine oP (POp.call .k (hgt)) ?_;refine Z6 ?_;refine DP.anyC 12 15 61 rfl Yf rfl rfl Yf ?_;refine Z13 ?_;refine CW.cond rfl (λh2=>?_) (λh2=>?_)
   ·have hA:yesK p t M.fact kinds≠ []:=λe=>by rw[e] at h2;simp at h2
    refine Z4 ?_;refine OL.popC (x:=.sl 1 [[.i (m:Int)]]) rfl rfl rfl (POp.row rfl rfl Yk rfl rfl rfl rfl rfl rfl) ?_;refine OL.appendC rfl rfl rfl rfl rfl rfl rfl rfl (AVle.refl _) (rfl) (λv=>by repeat (first | exact Upd.head _ _ _ | apply Upd.tail)) Yj Yj (λv54=>?_);refine Z6 ?_;refine OL.popC (x:=.sl 1 [[AV.ints G]]) rfl rfl rfl (POp.row rfl rfl Yk rfl rfl rfl rfl rfl rfl) ?_;refine OL.appendC rfl rfl rfl rfl rfl rfl rfl rfl (AVle.refl _) (rfl) (λv=>by repeat (first | exact Upd.head _ _ _ | apply Upd.tail)) Yj Yj (λv58=>?_);refine Z9 ?_;exact ag (⟨m+1,v54,v58,by rw[hmy h1 hA,fst_snoc,snd_snoc],rfl,hmn⟩)
   ·have hA:yesK p t M.fact kinds= []:=by simpa using h2
    refine Z8 ?_;exact ag (⟨m+1,v1,v2,by rw[hmno hA],rfl,hmn⟩)
 ·obtain rfl:m=p.methods.length:=by omega
  refine Z14 ?_;refine Done.retR (rs:=[.tmp 8,.tmp 9]) (H':=H) rfl (.tmp rfl (.tmp rfl (.nil))) (.cons (AVle.asL _ _) (.cons (AVle.asL _ _) .nil)) Yc ?_;exact⟨Yax,rfl⟩
theorem askm_bif(Z T M E K:Bool):(bif bif bif bif !Z then true else !T then true else !M then true else !E then true else !K)= !(Z && T && M && E && K):=by cases Z <;> cases T <;> cases M <;> cases E <;> rfl
theorem hg_zmK{Z T M E:Bool}(h:(!bif bif bif !Z then true else !T then true else !M then true else !E)=true):Z=true:=by revert h;cases Z <;> simp
theorem rGenK(p:Prog)(n:Int):PCall Tryz.prog 88 [AV.prog p,.i n] (.b (isGen p n)):=by
 intro H;refine aC (n:=14) Tryz.func88 λB I w0=>?_;refine Z21 ?_;refine r1 4 (H) ?_;exact⟨retB (by unfold isGen;rw[Bool.cond_false_right]),rfl⟩
theorem rMay(hp:p.Small)(t:Tbl)(gen:Int)(kinds:List Int):PCall Tryz.prog 24 [AV.prog p,AV.tbl t,.i gen,AV.ints kinds] (mayA p t gen kinds):=by
 intro H;refine aC (n:=54) Tryz.func24 λB I w0=>?_;refine Z13 ?_;refine oP (POp.call .k (rProg hp)) ?_;refine Z4 ?_;refine OL.guardC rfl rfl rfl rfl rfl rfl (λhg=>POp.call (.mk' rfl rfl rfl rfl Yd) (rGoodT (by simpa using hg) t)) ?_;refine Z5 ?_;refine OL.guardC rfl rfl rfl rfl rfl rfl (λhg=>POp.call (.mk' rfl rfl rfl rfl Yd) (rGenK p gen)) ?_;refine Z8 ?_;refine OL.guardC rfl rfl rfl rfl rfl rfl (λhg=>(by first | exact POp.ixM rfl rfl (gd hg) rfl (gd hg) ⟨YaC,YaC⟩ | exact POp.ixI rfl rfl (gd hg) rfl (gd hg) ⟨YaC,YaC⟩)) ?_;refine Z6 ?_;refine OL.guardC rfl rfl rfl rfl rfl rfl (λhg=>POp.call (.mk' rfl rfl rfl rfl Yd) (rKindsB (hg_zmK (by rw[bne] at hg;exact hg)) _)) ?_;refine Z4 ?_;rw[bne,askm_bif];refine CW.cond rfl (λh0=>?_) (λh0=>?_)
 ·rw[Bool.not_eq_true'] at h0;have hno:askM p t gen kinds=false:=h0;refine Z9 ?_;refine Done.retR (rs:=[.tmp 8,.tmp 9,.tmp 10]) (H':=H) rfl (.tmp rfl (.tmp rfl (.tmp rfl (.nil)))) (.cons (AVle.nil 1) (.cons (AVle.nil 1) (.cons (.refl _) .nil))) Yc ?_;exact⟨by rw[askM_no hno];rfl,rfl⟩
 ·rw[Bool.not_eq_false'] at h0;have hyes:askM p t gen kinds=true:=h0;simp only[Bool.and_eq_true,beq_iff_eq] at h0;obtain⟨⟨⟨⟨hz,ht⟩,hgn⟩,hll⟩,hkk⟩:=h0;have hll:(kinds.length:Int)=argsG p gen:=hll;obtain⟨hs,hsl,_⟩:=tblOk_parts ht;have h3:=args_three hz hgn;refine Z8 ?_;refine oP (POp.call .k (rMayOf hp hz hs hsl (List.all_eq_true.1 hkk) hll Ya)) ?_;refine Z17 ?_;refine rR [.tmp 8,.tmp 9,.tmp 10] (H) ?_;exact⟨by rw[mayA,if_pos hyes];rfl,rfl⟩
theorem sameIK(a:List Int):PCall Tryz.prog 25 [AV.ints a,AV.ints a] (.b true):=by
 intro H;refine aC (n:=26) Tryz.func25 λB I w0=>?_;refine CW.boundM (t:=0) rfl (λhb0=>?_);refine Z15 ?_;refine CW.cond rfl (λh0=>?_) (λh0=>?_)
 ·exact absurd h0 Yo
 ·refine Z11 ?_;refine lj (λm st=>∃i:Nat,st=⟨[(13,.i i),(12,.i a.length),(0,AV.ints a),(1,AV.ints a)],H⟩/\m=a.length - i/\i<=a.length) (⟨0,rfl,rfl,Ya⟩) ?_;rintro m _ ⟨i,rfl,rfl,hi⟩;refine Z6 ?_;refine cd (λh1=>?_) λh1=>?_
  ·have hil:i<a.length:=by omega
   refine Z11 ?_;refine CW.dp mixed ?_;refine DP.anyC 0 8 26 rfl Yf rfl rfl Yf ?_;refine Z13 ?_;refine CW.cond rfl (λh2=>?_) (λh2=>?_)
   ·exact absurd h2 Yo
   ·refine Z7 ?_;exact ag (⟨i+1,rfl,rfl,hil⟩)
  ·refine Z11 ?_;refine r1 4 (H) ?_;exact⟨Yax,rfl⟩
theorem sameLK(a:List (List Int)):PCall Tryz.prog 26 [AV.intss a,AV.intss a] (.b true):=by
 intro H;refine aC (n:=27) Tryz.func26 λB I w0=>?_;refine CW.boundM (t:=0) rfl (λhb0=>?_);refine Z15 ?_;refine CW.cond rfl (λh0=>?_) (λh0=>?_)
 ·exact absurd h0 Yo
 ·refine Z9 ?_;refine lj (λm st=>∃i:Nat,st=⟨[(5,.i i),(0,AV.intss a),(1,AV.intss a)],H⟩/\m=a.length - i/\i<=a.length) (⟨0,rfl,rfl,Ya⟩) ?_;rintro m _ ⟨i,rfl,rfl,hi⟩;refine Z9 ?_;refine cd (λh1=>?_) λh1=>?_
  ·have hil:i<a.length:=by omega
   refine Z5 ?_;refine CW.dp mixed ?_;refine DP.anyC 0 8 27 rfl Yf rfl rfl Yf ?_;refine Z10 ?_;refine oP (POp.call .k (sameIK _)) ?_;refine Z3 ?_;refine CW.cond rfl (λh2=>?_) (λh2=>?_)
   ·exact absurd h2 Yo
   ·refine Z8 ?_;exact ag (⟨i+1,rfl,rfl,hil⟩)
  ·refine Z11 ?_;refine r1 4 (H) ?_;exact⟨Yax,rfl⟩
theorem may_tup(p:Prog)(t:Tbl)(n:Int)(l:List Int):∃a b e,mayA p t n l= .tup [AV.ints a,AV.intss b,.i e]:=by
 unfold mayA;split
 ·exact⟨_,_,_,rfl⟩
 ·exact⟨_,_,_,rfl⟩
theorem kindMaysC(hk:PCall Tryz.prog 18 [] (.b true)){p:Prog}(hp:p.Small)(t:Tbl)(n:Int)(l:List Int):PCall Tryz.prog 6 [AV.prog p,AV.tbl t,.i n,AV.ints l] (.b true):=by
 intro H;refine aC (n:=57) Tryz.func6 λB I w0=>?_;have h1:=mayCall hp t n l;have h2:=rMay hp t n l;obtain⟨a,b,e,he⟩:=may_tup p t n l;rw[he] at h1 h2;refine Z11 ?_;refine oP (POp.call .k (largeC t)) ?_;refine Z7 ?_;refine CW.cond rfl (λh0=>?_) (λh0=>?_)
 ·refine Z2 ?_;refine oP (POp.call .k (hk)) ?_;refine Z5 ?_;refine r1 8 (H) ?_;exact⟨Yax,rfl⟩
 ·refine Z8 ?_;refine oP (POp.call .k (h1)) ?_;refine Z15 ?_;refine oP (POp.call .k (h2)) ?_;refine Z13 ?_;refine oP (POp.call .k (sameIK a)) ?_;refine Z3 ?_;refine OL.guardC rfl rfl rfl rfl rfl rfl (λhg=>POp.call (.mk' rfl rfl rfl rfl Yd) (sameLK b)) ?_;refine Z7 ?_;refine OL.guardC rfl rfl rfl rfl rfl rfl (λhg=>POp.call .k (hk)) ?_;refine Z5 ?_;refine r1 8 (H) ?_;exact⟨retB Yo,rfl⟩
end Go.Proofs.YtogjaoodkaahoaaGreat
