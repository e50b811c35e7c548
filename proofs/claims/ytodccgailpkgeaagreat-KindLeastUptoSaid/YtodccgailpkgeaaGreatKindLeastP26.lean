/- Part 26 of the proof: contracts of functions of the program and what they need. No condition beyond those that each theorem names. -/
import Derived.Test.YtodccgailpkgeaaGreatKindLeastP25
set_option maxHeartbeats 1000000
set_option linter.unusedVariables false
set_option linter.unusedSimpArgs false
set_option maxRecDepth 10000
namespace Go.Proofs.YtodccgailpkgeaaGreat
open Go.Eng
open Go.Eng.Fc
open Go.Eng.ei
variable{p:Prog}{x y l S:List Int}{P:Program}{H:List aj}{ρ:Nat->Option aa}{v:Value}{R:List Bool}{Q:List (List Int)}
def FL(p:Prog)(a b:Nat):Bool:=aiJ p a b && xu p a b
def upto(i j a b:Nat):Bool:=decide (a<i) || (a==i && decide (b<j))
section
variable{c:Ctx}{r:Option Nat}{P:Program}{ops:Array Oper}{rest:List Oper}{o:Oper}{env:List (Nat×aa)}{Q:Exit->Act->World->Prop}
end
def kK:Prog:=⟨[⟨[],[0],[(0,7)]⟩,⟨[3],[],[]⟩],1,[1],[⟨1,0,.mk 2 0 [] 3 0 [],0⟩,⟨1,0,.mk 2 0 [] 4 0 [],2⟩],[⟨4,0,[1]⟩,⟨3,0,[]⟩,⟨18,0,[]⟩,⟨5,0,[4]⟩,⟨6,4,[]⟩],3⟩
def kL:bG:=⟨[true,true],[[16],[16]],[2,16,2,2,16],[2]⟩
def FM:bG:=⟨[true,false],[[16],[16]],[2,16,2,2,16],[2]⟩
theorem aiN:(bK kK).isSome=true:=by kernel_rfl
theorem aiO:kv kK (bW kK)=kL:=by kernel_rfl
theorem U8:(u7 kK kL,u7 kK FM)=(true,false):=by kernel_rfl
theorem aiP:J9 kK kL= [true,true,true,true,true]:=by kernel_rfl
theorem aiQ:hj kK kL 0 [30]= [(0,[24]),(1,[16])]:=by kernel_rfl
theorem aiR:ba Tryz.prog 26 [.i 4] (aa.prog kK):=by
 intro H;refine bh (n:=26) Tryz.func26 λB I aO=>?_;refine bC ?_;refine au.cG rfl rfl rfl rfl (λer=>?_);refine bI ?_;refine aG (af.row rfl rfl c4 rfl rfl rfl rfl rfl rfl) ?_;refine bt ?_;refine aG (af.row rfl rfl c4 rfl rfl rfl rfl rfl rfl) ?_;refine bt ?_;refine aG (af.row rfl rfl c4 rfl rfl rfl rfl rfl rfl) ?_;refine bt ?_;refine aG (af.row rfl rfl c4 rfl rfl rfl rfl rfl rfl) ?_;refine aG (af.row rfl rfl c4 rfl rfl rfl rfl rfl rfl) ?_;refine bI ?_;refine aG (af.row rfl rfl c4 rfl rfl rfl rfl rfl rfl) ?_;refine aG (af.row rfl rfl c4 rfl rfl rfl rfl rfl rfl) ?_;refine bg ?_;refine aG (af.row rfl rfl c4 rfl rfl rfl rfl rfl rfl) ?_;refine bg ?_;refine aG (af.row rfl rfl c4 rfl rfl rfl rfl rfl rfl) ?_;refine bz ?_;refine aR.c5 (rs:=[.cell 2 27]) (H':=H) rfl (zf) (.cons ((aL.agg (.cons (aL.aF (.cons (.cons (aL.nil 1) (.cons (.refl _) (.cons (.refl _) (.nil)))) (.cons (.cons (.refl _) (.cons (aL.nil 1) (.cons (aL.nil 2) (.nil)))) (.nil)))) (.cons (.refl _) (.cons (.refl _) (.cons (aL.aF (.cons (.cons (.refl _) (.cons (.refl _) (.cons (.refl _) (.cons (.refl _) (.cons (aL.nil 1) (.cons (.refl _) (.cons (.refl _) (.cons (aL.nil 6) (.cons (.refl _) (.nil)))))))))) (.cons (.cons (.refl _) (.cons (.refl _) (.cons (.refl _) (.cons (.refl _) (.cons (aL.nil 1) (.cons (.refl _) (.cons (.refl _) (.cons (aL.nil 6) (.cons (.refl _) (.nil)))))))))) (.nil)))) (.cons (aL.aF (.cons (.cons (.refl _) (.cons (.refl _) (.cons (.refl _) (.nil)))) (.cons (.cons (.refl _) (.cons (.refl _) (.cons (aL.nil 1) (.nil)))) (.cons (.cons (.refl _) (.cons (.refl _) (.cons (aL.nil 1) (.nil)))) (.cons (.cons (.refl _) (.cons (.refl _) (.cons (.refl _) (.nil)))) (.cons (.cons (.refl _) (.cons (.refl _) (.cons (aL.nil 1) (.nil)))) (.nil))))))) (.cons (.refl _) (.nil))))))):aL _ (aa.prog kK))) .nil) b8 ?_;exact⟨dJ,rfl⟩
theorem zc:ba Tryz.prog 27 [] (aa.ef kL):=by
 intro H;refine bh (n:=8) Tryz.func27 λB I aO=>?_;refine bC ?_;refine au.cG rfl rfl rfl rfl (λer=>?_);refine bI ?_;refine aG (af.row rfl rfl c4 rfl rfl rfl rfl rfl rfl) ?_;refine aG (af.row rfl rfl c4 rfl rfl rfl rfl rfl rfl) ?_;refine aG (af.row rfl rfl c4 rfl rfl rfl rfl rfl rfl) ?_;refine aG (af.row rfl rfl c4 rfl rfl rfl rfl rfl rfl) ?_;refine aG (af.row rfl rfl c4 rfl rfl rfl rfl rfl rfl) ?_;refine aG (af.row rfl rfl c4 rfl rfl rfl rfl rfl rfl) ?_;refine bz ?_;refine fR [.cell 0 31] (H) ?_;exact⟨dJ,rfl⟩
theorem zd:kK.Small:=⟨e3,e3⟩
theorem U9:lk kK kL=true:=by kernel_rfl
theorem aiS:lk kK FM=true:=by kernel_rfl
theorem aiT:ba Tryz.prog 14 [aa.prog kK] (.bJ [aa.ef kL,.i 0]):=by
 have:=aih zd;rwa [aiN,if_pos rfl,aiO] at this
theorem aiU:ba Tryz.prog 11 [aa.prog kK,aa.ef kL] (.bJ [aa.da [true,true,true,true,true],.i 0]):=by
 have:=aee zd kL;rwa [Kd,U9,if_pos rfl,aiP] at this
theorem aiV:ba Tryz.prog 28 [aa.prog kK,aa.ef kL,.i 0,aa.ints [30]] (.bJ [aa.ints [0,1],aa.bD [[24],[16]],.i 0]):=by
 have:=adR zd kL 0 [30];rwa [w6,if_pos (show tl kK kL 0 [30]=true by kernel_rfl),aiQ] at this
theorem aiW:ba Tryz.prog 31 [aa.prog kK,aa.ef kL,.i 0,aa.ints [1]] (.bJ [.b false,.b true,.i 0]):=by
 have:=adn zd kL 0 [1];rwa [w3,if_pos (show ti kK kL 0 [1]=true by kernel_rfl),show (e1 kK kL [1] (kK.methods.getD (0:Int).toNat default).fact)=(false,true) by kernel_rfl] at this
theorem aiX:ba Tryz.prog 9 [aa.prog kK,aa.ef kL] (.bJ [.b true,.i 0]):=by
 have:=B9 zd kL;rwa [U9,if_pos rfl,(Prod.mk.inj U8).1] at this
theorem aiY:ba Tryz.prog 9 [aa.prog kK,aa.ef FM] (.bJ [.b false,.i 0]):=by
 have:=B9 zd FM;rwa [aiS,if_pos rfl,(Prod.mk.inj U8).2] at this
theorem aiZ:ba Tryz.prog 16 [aa.ef kL,aa.ef kL] (.b true):=by
 have:=aiM kL kL;rwa [aiL.2 rfl] at this
theorem ai0(l:List Bool):ba Tryz.prog 13 [aa.da l,aa.da l] (.b true):=by
 have:=U6 l l;rwa [decide_eq_true rfl] at this
theorem ai1(l:List Int):ba Tryz.prog 29 [aa.ints l,aa.ints l] (.b true):=by
 have:=FJ l l;rwa [decide_eq_true rfl] at this
theorem ai2(l:List (List Int)):ba Tryz.prog 30 [aa.bD l,aa.bD l] (.b true):=by
 have:=U7 l l;rwa [decide_eq_true rfl] at this
theorem Ce:ba Tryz.prog 8 [] (.b true):=by
 intro H;refine bh (n:=117) Tryz.func8 λB I aO=>?_;refine bn ?_;refine aG (af.call .k (aiR)) ?_;refine au.cG rfl rfl rfl rfl (λkH=>?_);refine aT ?_;refine aG (af.call .k (aiT)) ?_;refine bg ?_;refine au.cG rfl rfl rfl rfl (λtb=>?_);refine bz ?_;refine aq.bL mixed ?_;refine bk.b7 0 2 117 rfl ay rfl rfl ay ?_;refine bt ?_;refine bU.bB rfl rfl rfl (af.call .k (zc)) ?_;refine bC ?_;refine aG (af.call .k (aiU)) ?_;refine aT ?_;refine bk.b7 4 7 117 rfl ay rfl rfl ay ?_;refine bS ?_;refine aq.bL mixed ?_;refine bk.b7 0 3 117 rfl ay rfl rfl ay ?_;refine bt ?_;refine bU.bB rfl rfl rfl (af.call .k (zc)) ?_;refine bU.bB rfl rfl rfl (af.row rfl rfl c4 rfl rfl rfl rfl rfl rfl) ?_;refine bC ?_;refine aG (af.call .k (aiV)) ?_;refine aT ?_;refine bk.b7 5 10 117 rfl ay rfl rfl ay ?_;refine cT ?_;refine aq.bL mixed ?_;refine Yq ?_;refine bk.b7 11 13 117 rfl ay rfl rfl ay ?_;refine bt ?_;refine bU.cb rfl rfl rfl rfl rfl (λal=>af.call .k (zc)) ?_;refine bC ?_;refine au.cb rfl rfl rfl rfl rfl rfl (λal=>af.call (.mk' rfl rfl rfl rfl dv) (aiZ)) ?_;refine eb ?_;refine bk.b7 17 19 117 rfl ay rfl rfl ay ?_;refine bt ?_;refine bU.cb rfl rfl rfl rfl rfl (λal=>af.row rfl rfl c4 rfl rfl rfl rfl rfl rfl) ?_;refine bC ?_;refine au.cb rfl rfl rfl rfl rfl rfl (λal=>af.call (.mk' rfl rfl rfl rfl dv) (ai0 _)) ?_;refine eb ?_;refine bk.b7 23 25 117 rfl ay rfl rfl ay ?_;refine bt ?_;refine bU.cb rfl rfl rfl rfl rfl (λal=>af.row rfl rfl c4 rfl rfl rfl rfl rfl rfl) ?_;refine bC ?_;refine au.cb rfl rfl rfl rfl rfl rfl (λal=>af.call (.mk' rfl rfl rfl rfl dv) (ai1 _)) ?_;refine eb ?_;refine bk.b7 29 33 117 rfl ay rfl rfl ay ?_;refine bt ?_;refine bU.cb rfl rfl rfl rfl rfl (λal=>af.row rfl rfl c4 rfl rfl rfl rfl rfl rfl) ?_;refine bU.cb rfl rfl rfl rfl rfl (λal=>af.row rfl rfl c4 rfl rfl rfl rfl rfl rfl) ?_;refine bU.cb rfl rfl rfl rfl rfl (λal=>af.row rfl rfl c4 rfl rfl rfl rfl rfl rfl) ?_;refine bC ?_;refine au.cb rfl rfl rfl rfl rfl rfl (λal=>af.call (.mk' rfl rfl rfl rfl dv) (ai2 _)) ?_;refine bI ?_;refine aq.cond rfl (λai=>?_) (λai=>?_)
 ·simp at ai
 ·refine bg ?_;refine aq.bL mixed ?_;refine bk.b7 0 3 117 rfl ay rfl rfl ay ?_;refine bt ?_;refine bU.bB rfl rfl rfl (af.call .k (zc)) ?_;refine bU.bB rfl rfl rfl (af.row rfl rfl c4 rfl rfl rfl rfl rfl rfl) ?_;refine bC ?_;refine aG (af.call .k (aiW)) ?_;refine aT ?_;refine bk.b7 5 10 117 rfl ay rfl rfl ay ?_;refine cT ?_;refine aG (af.call .k (zc)) ?_;refine au.cG rfl rfl rfl rfl (λcF=>?_);refine bz ?_;refine aG (af.row rfl rfl c4 rfl rfl rfl rfl rfl rfl) ?_;refine bs ?_;refine aG (af.call .k (aiY)) ?_;refine bs ?_;refine aq.bL mixed ?_;refine bk.b7 0 2 117 rfl ay rfl rfl ay ?_;refine bt ?_;refine bU.bB rfl rfl rfl (af.call .k (zc)) ?_;refine bC ?_;refine aG (af.call .k (aiX)) ?_;refine aT ?_;refine bk.b7 4 7 117 rfl ay rfl rfl ay ?_;refine Yo ?_;refine aS 0 (H) ?_;exact⟨dJ,rfl⟩
theorem ai3{m:Nat}(k:Int):(bif bif decide (k<0) then true else k.tmod 2 !=0 then true else decide (k>=((2^m:Nat):Int)))= !cr m k:=by
 rw[<-JL,show decide (k<0)= !decide (k>=0) by rw[Bool.eq_iff_iff];simp,show decide (k>=((2^m:Nat):Int))= !decide (k<((2^m:Nat):Int)) by rw[Bool.eq_iff_iff];simp,bne];cases decide (k>=0) <;> cases decide (k<((2^m:Nat):Int)) <;> cases (k.tmod 2==0) <;> rfl
theorem ai4{α:Type}(q:α->Bool)(l:List α):(l.any λx=>!q x)= !(l.all q):=by
 induction l with
 | nil=>rfl
 | cons x r bm=>rw[List.any_cons,List.all_cons,bm,Bool.not_and]
theorem ai5(A B C:Bool):(bif bif !A then true else !B then true else !C)= !(A && B && C):=by cases A <;> cases B <;> cases C <;> rfl
theorem ai6(an:(bK p).isSome=true)(k:Int):ba Tryz.prog 46 [.i k,.ptr (dF p)] (.b (!cr (a7 p) k)):=by
 intro H;refine bh (n:=20) Tryz.func46 λB I aO=>?_;have hm:=qg an;have he:(3+(p.aY.length:Int))=a7 p:=by unfold a7;omega
 have dp:(p.aY.length:Int)<=13:=by omega
 refine cw ?_;refine au.cb rfl rfl rfl rfl rfl rfl (λal=>af.div rfl rfl rfl (cL al) rfl ad (.inr ⟨rfl,rfl⟩)) ?_;refine bs ?_;refine au.cb rfl rfl rfl rfl rfl rfl (λal=>af.shift rfl rfl rfl rfl (cL al) ad (r1 _ ⟨ad,ad⟩)) ?_;refine aT ?_;refine aS 3 (H) ?_;exact⟨bR (by rw[he];exact ai3 k),rfl⟩
theorem Lu(an:(bK p).isSome=true)(l:List Int):ba Tryz.prog 45 [aa.ints l,.ptr (dF p)] (.b (!(l.all (cr (a7 p))))):=by
 intro H;refine bh (n:=7) Tryz.func45 λB I aO=>?_;refine bS ?_;refine aG (af.call .k (Qv (.of (ai6 an)) l)) ?_;refine bI ?_;refine aS 3 (H) ?_;exact⟨bR (ai4 _ _),rfl⟩
theorem FN(an:(bK p).isSome=true)(t:bG):ba Tryz.prog 18 [aa.prog p,aa.ef t] (.b (jG p t)):=by
 intro H;refine bh (n:=81) Tryz.func18 λB I aO=>?_;have heq:=JO p t;have en:=oF an;refine Ys ?_;refine au.cb rfl rfl rfl rfl rfl rfl (λal=>af.call (.mk' rfl rfl (cL al) rfl dv) (Lu an _)) ?_;refine bz ?_;refine au.cb rfl rfl rfl rfl rfl rfl (λal=>af.call (.mk' rfl rfl (cL al) rfl dv) (Lu an _)) ?_;refine bg ?_;rw[R2,ai5];refine aq.cond rfl (λai=>?_) (λai=>?_)
 ·have ai:(rb p t && t.nodes.all (cr (a7 p)) && t.aJ.all (cr (a7 p)))=false:=by rwa [Bool.not_eq_true'] at ai
  refine bn ?_;refine aS 4 (H) ?_;exact⟨bR (by rw[heq];revert ai;cases rb p t <;> cases yN p t <;> cases t.nodes.all (cr (a7 p)) <;> cases t.aJ.all (cr (a7 p)) <;> simp),rfl⟩
 ·have ai:(rb p t && t.nodes.all (cr (a7 p)) && t.aJ.all (cr (a7 p)))=true:=by rwa [Bool.not_eq_false'] at ai
  simp only[Bool.and_eq_true] at ai;obtain⟨⟨Va,lT⟩,h9⟩:=ai;obtain⟨JS,w1,JT,adg⟩:=JN.1 Va;rw[Va,lT,h9,Bool.true_and,Bool.and_true,Bool.and_true] at heq;refine cT ?_;refine aq.fi (t:=55) rfl (λhg=>?_);refine cq (λm st=>∃i:Nat,st=⟨[(57,.i i),(56,.i t.params.length),(55,aa.bD t.params),(5,.fn (.func 45) [] [.ptr (dF p)]),(3,.ptr (lQ t)),(2,.ptr (dF p))],H⟩/\m=t.params.length - i/\i<=t.params.length/\(List.range i).all (q2 p (a7 p) t)=true) (⟨0,rfl,rfl,ad,rfl⟩) ?_;rintro m _ ⟨i,rfl,rfl,av,cy⟩;refine aT ?_;refine aZ (λab=>?_) λab=>?_
  ·have a1:i<t.params.length:=by omega
   have Ep:=w0 an (i:=i) ad;refine eb ?_;refine aq.bL mixed ?_;refine bk.b7 0 12 81 rfl ay rfl rfl ay ?_;refine c6 ?_;refine bU.bB rfl rfl rfl (ob) ?_;refine c6 ?_;refine bk.b7 14 16 81 rfl ay rfl rfl ay ?_;refine bI ?_;refine au.cb rfl rfl rfl rfl rfl rfl (λal=>af.call (.mk' rfl rfl (cL al) rfl dv) (Lu an _)) ?_;refine bg ?_;rw[R3];refine aq.cond rfl (λae=>?_) (λae=>?_)
   ·have ae:q2 p (a7 p) t i=false:=by simpa using ae
    refine cw ?_;refine aS 4 (H) ?_;exact⟨bR (by rw[heq,yN,BJ a1 ae]),rfl⟩
   ·have ae:q2 p (a7 p) t i=true:=by simpa using ae
    refine bn ?_;exact bV (⟨i+1,rfl,rfl,a1,BI cy ae⟩)
  ·obtain rfl:i=t.params.length:=by omega
   have iG:yN p t=true:=cy;rw[iG] at heq;refine cw ?_;refine aS 4 (H) ?_;exact⟨bR heq.symm,rfl⟩
theorem ai7(s t:Nat)(aH:s<9223372036854775808):pT .andNot .i64 (s:Int) (t:Int)=some (lM s t:Int):=by
 show some (IntKind.i64.wrap _)=_;have e:∀n:Nat,BitVec.ofInt IntKind.i64.bits (n:Int)=BitVec.ofNat 64 n:=λn=>by simp[IntKind.bits]
 have cO:lM s t<9223372036854775808:=Nat.lt_of_le_of_lt (FD λc h=>by rw[T3] at h;simp only[Bool.and_eq_true] at h;exact h.1.2) aH;rw[e,e];exact congrArg some (Ev (lM s t) cO)
theorem ai8(Cf i n:Nat):(bif decide ((i:Int)>=(Cf:Int)) then true else (n:Int) !=0)= !(decide (i<Cf) && n==0):=by
 rw[show decide ((i:Int)>=(Cf:Int))= !decide (i<Cf) by rw[Bool.eq_iff_iff];simp,show ((n:Int) !=0)= !(n==0) by rw[Bool.eq_iff_iff];simp];cases decide (i<Cf) <;> rfl
def rm(x y:List Int):Bool:=(List.range x.length).all λi=>decide (i<y.length) && lM (x.getD i default).toNat (y.getD i default).toNat==0
theorem Lv(ax:x.length<=y.length)(h:fK x y):rm x y=true:=by
 unfold rm;rw[List.all_eq_true];intro i av;have av:=List.mem_range.1 av;rw[Bool.and_eq_true,decide_eq_true_eq,beq_iff_eq];refine⟨ad,Nat.eq_of_testBit_eq λc=>?_⟩;rw[T3,Nat.zero_testBit];have:=h i c;simp only[jK] at this;cases e:(x.getD i default).toNat.testBit c with
 | false=>simp
 | true=>rw[this e];simp
theorem Lw(ag:∀k∈x,k=(k.toNat:Int)/\k.toNat<9223372036854775808)(hy:∀k∈y,k=(k.toNat:Int)/\k.toNat<9223372036854775808):ba Tryz.prog 47 [aa.ints x,aa.ints y] (.b (rm x y)):=by
 intro H;refine bh (n:=28) Tryz.func47 λB I aO=>?_;refine eb ?_;refine aq.fi (t:=7) rfl (λhg=>?_);refine cq (λm st=>∃i:Nat,st=⟨[(9,.i i),(8,.i x.length),(7,aa.ints x),(1,aa.ints y)],H⟩/\m=x.length - i/\i<=x.length/\((List.range i).all λi=>decide (i<y.length) && lM (x.getD i default).toNat (y.getD i default).toNat==0)=true) (⟨0,rfl,rfl,ad,rfl⟩) ?_;rintro m _ ⟨i,rfl,rfl,av,cy⟩;refine aT ?_;refine aZ (λai=>?_) λai=>?_
 ·have a1:i<x.length:=by omega
  have Ac:=ag _ (cp a1);refine bs ?_;refine aG (af.le (af.eN rfl rfl rfl rfl) (aL.dx Ac.1)) ?_;refine eb ?_;refine au.cb rfl rfl rfl rfl rfl rfl (λal=>(by first | exact af.iQ rfl rfl (cL al) rfl (cL al) tI | exact af.h1 rfl rfl (cL al) rfl (cL al) tI)) ?_;refine au.cb rfl rfl rfl rfl rfl rfl (λal=>af.le (af.eN rfl rfl (cL al) rfl) (aL.dx (hy _ (cp tI)).1)) ?_;refine au.cb rfl rfl rfl rfl rfl rfl (λal=>af.bits rfl rfl rfl (cL al) (cL al) (ai7 _ _ Ac.2)) ?_;refine bI ?_;rw[ai8];refine aq.cond rfl (λab=>?_) (λab=>?_)
  ·have ab:(decide (i<y.length) && lM (x.getD i default).toNat (y.getD i default).toNat==0)=false:=by rwa [Bool.not_eq_true'] at ab
   refine cw ?_;refine aS 4 (H) ?_;exact⟨bR (by unfold rm;rw[BJ a1 ab]),rfl⟩
  ·have ab:(decide (i<y.length) && lM (x.getD i default).toNat (y.getD i default).toNat==0)=true:=by rwa [Bool.not_eq_false'] at ab
   refine bn ?_;exact bV (⟨i+1,rfl,rfl,a1,BI cy ab⟩)
 ·obtain rfl:i=x.length:=by omega
  refine cw ?_;refine aS 4 (H) ?_;exact⟨bR (by unfold rm;rw[cy]),rfl⟩
def xx(a b:bG):Bool:=(List.range a.bP.length).all (λm=>!a.bP.getD m default || b.bP.getD m default) && (List.range a.params.length).all (λm=>rm (a.params.getD m default) (b.params.getD m default)) && (rm a.nodes b.nodes && rm a.aJ b.aJ)
theorem ai9(x y:Bool):(bif x then !y else false)= !(!x || y):=by cases x <;> cases y <;> rfl
theorem ze(an:(bK p).isSome=true){l:List Int}(h:∀k∈l,cr (a7 p) k=true):∀k∈l,k=(k.toNat:Int)/\k.toNat<9223372036854775808:=λk ao=>by
 have ab:=k6.1 (h k ao);have:=qh an;exact⟨ab.1,ad⟩
theorem aja{a b:bG}(bN:bA p a)(aw:bA p b)(h:mL a b):xx a b=true:=by
 unfold xx;have a6:=bN.pl;have aW:=aw.pl;have cN:=bN.aF;have gO:=aw.aF;simp only[Bool.and_eq_true,List.all_eq_true,List.mem_range,Bool.or_eq_true,Bool.not_eq_true'];refine⟨⟨λm hm=>?_,λm hm=>Lv (by have:=bN.gT m ad;have:=aw.gT m ad;omega) (h.p m)⟩,Lv (by rw[bN.nl,aw.nl];exact Nat.le_refl _) h.n,Lv ad h.s⟩;cases e:a.bP.getD m default with
 | false=>exact .inl rfl
 | true=>exact .inr (h.r m e)
theorem Vb(an:(bK p).isSome=true){a b:bG}(bN:bA p a)(aw:bA p b):ba Tryz.prog 19 [aa.ef a,aa.ef b] (.b (xx a b)):=by
 intro H;refine bh (n:=94) Tryz.func19 λB I aO=>?_;have ar:=bN.jm;have alP:=aw.jm;have ap:=bN.pl;have alQ:=aw.pl;have alR:=bN.nl;have alS:=aw.nl;have alT:=bN.aF;have alU:=aw.aF;have yG:=λm hm=>ze an (bN.kH (a.params.getD m default) (cp (l:=a.params) (k:=m) hm));have ajb:=λm hm=>ze an (aw.kH (b.params.getD m default) (cp (l:=b.params) (k:=m) hm));refine Yr ?_;refine aq.cond rfl (λai=>?_) (λai=>?_)
 ·exfalso;simp at ai;omega
 ·refine hB ?_;refine aq.fi (t:=45) rfl (λhg=>?_);refine cq (λm st=>∃i:Nat,st=⟨[(47,.i i),(46,.i a.bP.length),(45,aa.da a.bP),(5,.fn (.func 47) [] []),(3,.ptr (lQ b)),(2,.ptr (lQ a))],H⟩/\m=a.bP.length - i/\i<=a.bP.length/\((List.range i).all λm=>!a.bP.getD m default || b.bP.getD m default)=true) (⟨0,rfl,rfl,ad,rfl⟩) ?_;rintro m _ ⟨i,rfl,rfl,av,cy⟩;refine aT ?_;refine aZ (λab=>?_) λab=>?_
  ·have a1:i<a.bP.length:=by omega
   refine AM ?_;rw[ai9];refine aq.cond rfl (λae=>?_) (λae=>?_)
   ·have ae:(!a.bP.getD i default || b.bP.getD i default)=false:=by rwa [Bool.not_eq_true'] at ae
    refine cw ?_;refine aS 4 (H) ?_;exact⟨bR (by unfold xx;rw[BJ a1 ae];rfl),rfl⟩
   ·have ae:(!a.bP.getD i default || b.bP.getD i default)=true:=by rwa [Bool.not_eq_false'] at ae
    refine bn ?_;exact bV (⟨i+1,rfl,rfl,a1,BI cy ae⟩)
  ·obtain rfl:i=a.bP.length:=by omega
   refine fk ?_;refine aq.fi (t:=63) rfl (λgn=>?_);refine cq (λm st=>∃i:Nat,st=⟨[(65,.i i),(64,.i a.params.length),(63,aa.bD a.params),(5,.fn (.func 47) [] []),(3,.ptr (lQ b)),(2,.ptr (lQ a))],H⟩/\m=a.params.length - i/\i<=a.params.length/\((List.range i).all λm=>rm (a.params.getD m default) (b.params.getD m default))=true) (⟨0,rfl,rfl,ad,rfl⟩) ?_;rintro m _ ⟨i,rfl,rfl,av,bE⟩;refine aT ?_;refine aZ (λaD=>?_) λaD=>?_
   ·have c3:i<a.params.length:=by omega
    refine oz ?_;refine aG (af.call .k (Lw (yG i ad) (ajb i ad))) ?_;refine bg ?_;refine aq.cond rfl (λaV=>?_) (λaV=>?_)
    ·have aV:rm (a.params.getD i default) (b.params.getD i default)=false:=by rwa [Bool.not_eq_true'] at aV
     refine cw ?_;refine aS 4 (H) ?_;exact⟨bR (by unfold xx;rw[cy,BJ c3 aV];rfl),rfl⟩
    ·have aV:rm (a.params.getD i default) (b.params.getD i default)=true:=by rwa [Bool.not_eq_false'] at aV
     refine bn ?_;exact bV (⟨i+1,rfl,rfl,c3,BI bE aV⟩)
   ·obtain rfl:i=a.params.length:=by omega
    refine cT ?_;refine aG (af.call .k (Lw (ze an bN.nb) (ze an aw.nb))) ?_;refine aT ?_;refine au.cb rfl rfl rfl rfl rfl rfl (λal=>af.call (.mk' rfl rfl (cL al) rfl dv) (Lw (ze an bN.fh) (ze an aw.fh))) ?_;refine bz ?_;refine aS 4 (H) ?_;exact⟨bR (by unfold xx;rw[cy,bE,Bool.cond_false_right];rfl),rfl⟩
def xy(k:Nat):Nat:=k &&& (k - 1)
theorem ajc{k:Nat}(h:k≠0):xy k<k:=Nat.lt_of_le_of_lt Nat.and_le_right ad
theorem ajd{k:Nat}(h:fj p k):fj p (xy k):=by
 refine⟨Nat.lt_of_le_of_lt Nat.and_le_left h.1,?_⟩;unfold xy;rw[Nat.testBit_and,h.2];rfl
def Cg(T:bG)(i:Nat):bG:={T with nodes:=T.nodes.set i ((xy (T.nodes.getD i default).toNat:Nat):Int)}
def Ch(T:bG)(i:Nat):bG:={T with aJ:=T.aJ.set i ((xy (T.aJ.getD i default).toNat:Nat):Int)}
theorem Vc(h:∀k∈l,cr (a7 p) k=true)(i:Nat):∀k∈l.set i ((xy (l.getD i default).toNat:Nat):Int),cr (a7 p) k=true:=λk ao=>by
 rcases List.mem_or_eq_of_mem_set ao with ab | rfl
 ·exact h k ab
 ·exact k6.2 ⟨rfl,ajd (iN h i)⟩
theorem Vd{i:Nat}(av:i<l.length)(ao:(l.getD i default).toNat≠0): ¬fK l (l.set i ((xy (l.getD i default).toNat:Nat):Int)):=λh=>by
 have ae:=FD (h i);rw[pG,if_pos ⟨rfl,av⟩,Int.toNat_natCast] at ae;have:=ajc ao;omega
section
variable{p:Prog}(an:(bK p).isSome=true){T:bG}(bX:bA p T){i:Nat}
include bX
theorem Ve:bA p (Cg T i):=⟨bX.jm,bX.pl,List.length_set.trans bX.nl,bX.aF,bX.gT,bX.kH,Vc bX.nb i,bX.fh⟩
theorem Vf:bA p (Ch T i):=⟨bX.jm,bX.pl,bX.nl,by rw[<-bX.aF];exact congrArg _ List.length_set,bX.gT,bX.kH,bX.nb,Vc bX.fh i⟩
end
theorem aje(an:(bK p).isSome=true)(ah:Nat->Nat->Bool){i:Nat}(av:i<p.nodes.length)(ao:((kv p ah).nodes.getD i default).toNat≠0):(gg p ah (Cg (kv p ah) i)).ch=true:=by
 cases e:(gg p ah (Cg (kv p ah) i)).ch with
 | true=>rfl
 | false=>exact absurd (Lp an ah (Ve (u9 an ah)) e).n (Vd (by rw[(u9 an ah).nl];exact av) ao)
theorem ajf(an:(bK p).isSome=true)(ah:Nat->Nat->Bool){i:Nat}(av:(i:Int)<p.aJ)(ao:((kv p ah).aJ.getD i default).toNat≠0):(gg p ah (Ch (kv p ah) i)).ch=true:=by
 cases e:(gg p ah (Ch (kv p ah) i)).ch with
 | true=>rfl
 | false=>exact absurd (Lp an ah (Vf (u9 an ah)) e).s (Vd (by have:=(u9 an ah).aF;omega) ao)
theorem Vg(aB:p.Small)(an:(bK p).isSome=true):ba Tryz.prog 9 [aa.prog p,aa.ef (kv p (bW p))] (.bJ [.b true,.i 0]):=by
 have h:=B9 aB (kv p (bW p));have ab:lk p (kv p (bW p))=true:=by unfold lk;rw[an,ts.2 (u9 an _)];rfl
 have ae:u7 p (kv p (bW p))=true:=by unfold u7;rw[aiG an];rfl
 rw[if_pos ab,ae] at h;exact h
theorem Vh(aB:p.Small)(an:(bK p).isSome=true){T:bG}(bX:bA p T)(ak:(gg p (bW p) T).ch=true):ba Tryz.prog 9 [aa.prog p,aa.ef T] (.bJ [.b false,.i 0]):=by
 have h:=B9 aB T;have ab:lk p T=true:=by unfold lk;rw[an,ts.2 bX];rfl
 have ae:u7 p T=false:=by unfold u7;rw[ak];rfl
 rw[if_pos ab,ae] at h;exact h
theorem Vi(aB:p.Small)(an:(bK p).isSome=true)(t:bG):∃b e,ba Tryz.prog 9 [aa.prog p,aa.ef t] (.bJ [.b b,.i e])/\(e=0->b=true->jG p t=true/\((h:bA p t)->xx (kv p (bW p)) t=true)):=by
 have h:=B9 aB t;cases ht:lk p t with
 | false=>
  rw[ht] at h;exact⟨_,_,h,λe=>by cases e⟩
 | true=>
  rw[ht] at h;refine⟨_,_,h,λ_ aw=>⟨by unfold lk at ht;rw[an] at ht;exact ht,λbX=>aja (u9 an _) bX (Lp an _ bX (by unfold u7 at aw;simpa using aw))⟩⟩
theorem af.Vj{H:List aj}{o:Oper}{t d0 d1 d2 d3:Nat}{b:Bool}[bE:h7 P t ([.slice none 0 0,.slice none 0 0,.slice none 0 0,.slice none 0 0],[(0,1),(1,1),(2,1),(3,1)])](h:o.op= .build t #[(0,.tmp d0),(2,.tmp d1),(3,.tmp d2),(1,.tmp d3)])
  (ai:ρ d0=some (aa.da R)) (ab:ρ d1=some (n9 b v)) (ae:ρ d2=some (aa.ints S)) (aD:ρ d3=some (aa.bD Q)) (Lx:d0≠d1:=by decide) (Ly:d2≠d1:=by decide) (Lz:d3≠d1:=by decide) (LA:d2≠d0:=by decide) (LB:d3≠d0:=by decide) (LC:d3≠d2:=by decide):af P H ρ o (.agg [aa.da R,aa.bD Q,.val v,aa.ints S]):=λB I w r a eo hw az aH aA=>by
 have jV:∀x∈o.op.operands,x= .tmp d0\/x= .tmp d1\/x= .tmp d2\/x= .tmp d3:=by rw[h];simp[Op.operands]
 obtain⟨a6,_,dg⟩:=FA (aA (.tmp d1) Mr (n9 b v) ab);obtain⟨gN,nz⟩:∃gN:Nat->Option aa,gN=λk=>if k=d1 then some (.val v) else if k=d0 then some (aa.da R) else if k=d2 then some (aa.ints S) else if k=d3 then some (aa.bD Q) else none:=⟨_,rfl⟩
 have lI:gN d1=some (.val v):=by rw[nz];simp
 have jJ:gN d0=some (aa.da R):=by rw[nz];simp[Lx]
 have c1:gN d2=some (aa.ints S):=by rw[nz];simp[Ly,LA]
 have y6:gN d3=some (aa.bD Q):=by rw[nz];simp[Lz,LB,LC]
 have o3:gi I w gN a o:=λx ag y hy=>by
  rcases jV x ag with rfl | rfl | rfl | rfl
  ·have hy:gN d0=some y:=hy;rw[jJ] at hy;cases hy;exact aA (.tmp d0) ag _ ai
  ·have hy:gN d1=some y:=hy;rw[lI] at hy;cases hy;rw[a6];exact .val _
  ·have hy:gN d2=some y:=hy;rw[c1] at hy;cases hy;exact aA (.tmp d2) ag _ ae
  ·have hy:gN d3=some y:=hy;rw[y6] at hy;cases hy;exact aA (.tmp d3) ag _ aD
 exact af.zJ (ρ:=gN) (ys:=[(true,aa.da R),(true,.val v),(true,aa.ints S),(true,aa.bD Q)]) h (by simp[j2,bf,kO,strip,jJ,lI,c1,y6]) rfl (by simp[nx,partsOf,ha,dq,dg];rfl) B I w r a eo hw az aH o3
theorem af.Vk{H:List aj}{o:Oper}{t d0 d1 d2 d3:Nat}{b:Bool}[bE:h7 P t ([.slice none 0 0,.slice none 0 0,.slice none 0 0,.slice none 0 0],[(0,1),(1,1),(2,1),(3,1)])](h:o.op= .build t #[(0,.tmp d0),(2,.tmp d1),(3,.tmp d2),(1,.tmp d3)])
  (ai:ρ d0=some (aa.da R)) (ab:ρ d1=some (aa.ints S)) (ae:ρ d2=some (n9 b v)) (aD:ρ d3=some (aa.bD Q)) (Lx:d0≠d1:=by decide) (Ly:d2≠d1:=by decide) (Lz:d3≠d1:=by decide) (LA:d2≠d0:=by decide) (LB:d3≠d0:=by decide) (LC:d3≠d2:=by decide):af P H ρ o (.agg [aa.da R,aa.bD Q,aa.ints S,.val v]):=λB I w r a eo hw az aH aA=>by
 have jV:∀x∈o.op.operands,x= .tmp d0\/x= .tmp d1\/x= .tmp d2\/x= .tmp d3:=by rw[h];simp[Op.operands]
 obtain⟨a6,_,dg⟩:=FA (aA (.tmp d2) Mr (n9 b v) ae);obtain⟨gN,nz⟩:∃gN:Nat->Option aa,gN=λk=>if k=d1 then some (aa.ints S) else if k=d0 then some (aa.da R) else if k=d2 then some (.val v) else if k=d3 then some (aa.bD Q) else none:=⟨_,rfl⟩
 have lI:gN d1=some (aa.ints S):=by rw[nz];simp
 have jJ:gN d0=some (aa.da R):=by rw[nz];simp[Lx]
 have c1:gN d2=some (.val v):=by rw[nz];simp[Ly,LA]
 have y6:gN d3=some (aa.bD Q):=by rw[nz];simp[Lz,LB,LC]
 have o3:gi I w gN a o:=λx ag y hy=>by
  rcases jV x ag with rfl | rfl | rfl | rfl
  ·have hy:gN d0=some y:=hy;rw[jJ] at hy;cases hy;exact aA (.tmp d0) ag _ ai
  ·have hy:gN d1=some y:=hy;rw[lI] at hy;cases hy;exact aA (.tmp d1) ag _ ab
  ·have hy:gN d2=some y:=hy;rw[c1] at hy;cases hy;rw[a6];exact .val _
  ·have hy:gN d3=some y:=hy;rw[y6] at hy;cases hy;exact aA (.tmp d3) ag _ aD
 exact af.zJ (ρ:=gN) (ys:=[(true,aa.da R),(true,aa.ints S),(true,.val v),(true,aa.bD Q)]) h (by simp[j2,bf,kO,strip,jJ,lI,c1,y6]) rfl (by simp[nx,partsOf,ha,dq,dg];rfl) B I w r a eo hw az aH o3
theorem Vl{n:Nat}(hn:n<65536):IntKind.i64.wrap (IntKind.u16.wrap ((n:Int) / 2))=((n / 2:Nat):Int):=by
 have ab:(n:Int) / 2=((n / 2:Nat):Int):=by simp
 have ae:IntKind.u16.wrap ((n / 2:Nat):Int)=((n / 2:Nat):Int):=by
  have:n / 2<65536:=by omega
  exact IntWalk.u16_in _ ad
 rw[ab,ae];exact wrap64 ad
theorem mT(h:l≠ []){H:List aj}:aj.row 3 1 v l.length (l.map aa.i)∈ec v l++H:=by rw[ec,if_neg h];exact .head _
theorem ajg(l:List Bool):(l.map λb=>[aa.b b]).all eG=true:=List.all_eq_true.2 λe he=>by obtain⟨x,_,rfl⟩:=List.mem_map.1 he;rfl
theorem Vm(an:(bK p).isSome=true):p.nodes.length<=120:=by
 obtain⟨o,aA⟩:=Option.isSome_iff_exists.1 an;exact (wk aA).2
theorem FO(l:List Bool)(ax:l.length<=4000000):ba Tryz.prog 20 [aa.da l] (aa.da l):=by
 intro H;refine bh (n:=8) Tryz.func20 λB I aO=>?_;refine bS ?_;refine au.tX rfl rfl rfl rfl rfl rfl rfl (aL.refl _) rfl rfl (λwz pt=>?_);refine bC ?_;refine aZ (λai=>?_) λai=>?_
 ·refine bn ?_;refine aR.c5 (rs:=[.tmp 2]) (H':=H) rfl (.tmp rfl (.nil)) (.cons (aL.nil 1) .nil) b8 ?_;exact⟨by show aa.aF 1 []=aa.aF 1 _;rw[pt ai],rfl⟩
 ·refine aT ?_;refine aG (af.zN rfl rfl rfl (aL.refl _) rfl rfl (aL.refl _) (ajg l) dj dj) ?_;refine bI ?_;refine aS 2 (H) ?_;exact⟨eg,rfl⟩
theorem ajh(aB:p.Small)(an:(bK p).isSome=true){t:bG}(ax:r3 t=false){n:Nat}(hn:n<65536)(mx: ¬(n%2=1/\0<p.aJ)):ba Tryz.prog 5 [aa.prog p,aa.ef t,.val (.int .u16 n)] (.b true):=by
 intro H;refine bh (n:=135) Tryz.func5 λB I aO=>?_;have e6:=u9 an (bW p);have Ci:=ts.2 e6;obtain⟨vR,cN,aD,Cj⟩:=Vi aB an t;obtain⟨O,Ck⟩:∃O,O=(kv p (bW p)):=⟨_,rfl⟩;have jQ:=Vg aB an;have hA:=Lk aB an;have xz:=FN an (kv p (bW p));rw[<-Ck] at e6 Ci Cj hA jQ xz;rw[Ci] at xz;have ja:=e6.jm;have ir:=e6.nl;have eZ:=e6.aF;have en:=oF an;have Ld:=Vm an;have Un:=BZ an;have bq:O.nodes≠ []:=λe=>by rw[e] at ir;have:=E0 an;simp at*;omega
 have sF:0<O.nodes.length:=List.length_pos_iff.2 bq;refine cw ?_;refine aG (af.call .k (JX t)) ?_;refine bC ?_;refine au.cb rfl rfl rfl rfl rfl rfl (λal=>af.call (.mk' rfl rfl rfl rfl dv) (Jn aB)) ?_;refine bI ?_;refine aq.cond rfl (λai=>?_) (λai=>?_)
 ·simp[ax,an] at ai
 ·refine bz ?_;refine aG (af.call .k (hA)) ?_;refine bg ?_;refine au.cG rfl rfl rfl rfl (λfo=>?_);refine bz ?_;refine aq.ep (d:=7) rfl ey ?_;refine bg ?_;refine aG (af.call .k (jQ)) ?_;refine p7 ?_;refine au.cb rfl rfl rfl rfl rfl rfl (λal=>af.call (.mk' rfl rfl rfl rfl dv) (xz)) ?_;refine bI ?_;refine aq.cond rfl (λab=>?_) (λab=>?_)
  ·simp at ab
  ·refine aT ?_;refine aG (af.call .k (aD)) ?_;refine kC ?_;refine au.cb rfl rfl rfl rfl rfl rfl (λal=>af.call (.mk' rfl rfl rfl rfl dv) (FN an t)) ?_;refine bI ?_;refine au.cb rfl rfl rfl rfl rfl rfl (λal=>af.call (.mk' rfl rfl rfl rfl dv) (Vb an e6 (ts.1 (by simp at al;exact al.2)))) ?_;refine bz ?_;refine aq.cond rfl (λae=>?_) (λae=>?_)
   ·exfalso;simp at ae;obtain⟨⟨he,aw⟩,bl⟩:=ae;obtain⟨cP,di⟩:=Cj he aw;rcases bl with bl | bl
    ·rw[cP] at bl;cases bl
    ·rw[di (ts.1 cP)] at bl;cases bl
   ·refine bg ?_;refine aq.bL mixed ?_;refine bk.uo (X:=p0) [⟨5,77,false⟩,⟨11,83,false⟩,⟨12,11,false⟩] (λJ=>match J with | [some a,_,some q]=>.aI (kc q) 31 [.val (.slice none 0 0),.val (.slice none 0 0),.val (.slice none 0 0),.val (.slice none 0 0)]::(ec a O.nodes++H) | [none,_,some q]=>.aI (kc q) 31 [.val (.slice none 0 0),.val (.slice none 0 0),.val (.slice none 0 0),.val (.slice none 0 0)]::H | [some a,_,none]=>ec a O.nodes++H | _=>H) (λj J=>match j,J with | 0,some a::_=>n9 O.nodes.isEmpty a | 1,some a::_=>.agg [aa.da O.bP,aa.bD O.params,.val a,aa.ints O.aJ] | 2,[_,_,some q]=>.p (kc q) 0 | _,_=>.any) 0 13 135 rfl ay ay rfl rfl ay rfl (λ_ _ _ _ _ _ _ _ _ h=>h.elim) ?_;refine bp.cS [[false,false,true],[false,false,false]] rfl ay rfl rfl rfl ⟨λf=>cK,λf=>cK,trivial⟩ ?_;refine bp.cS [[false,false,true],[false,false,false]] rfl ay rfl rfl rfl ⟨λf=>dI,λf=>dI,trivial⟩ ?_;refine bp.cS [[false,false,true],[false,false,false]] rfl ay rfl rfl rfl ⟨λf=>af.call .k (FO O.bP ad),λf=>af.call .k (FO O.bP ad),trivial⟩ ?_;refine bp.cS [[false,false,true],[false,false,false]] rfl ay rfl rfl rfl ⟨λf=>cK,λf=>cK,trivial⟩ ?_;refine bp.cS [[false,false,true],[false,false,false]] rfl ay rfl rfl rfl ⟨λf=>dI,λf=>dI,trivial⟩ ?_;refine bp.mC 0 [[false,false,true],[false,false,false]] rfl rfl rfl ay rfl rfl rfl ⟨λf=>⟨et.clone (b:=O.nodes.isEmpty) (F:=λv=>ec v O.nodes) .k (y9 ad) (λv=>by first | exact List.Perm.refl _ | exact List.perm_middle) (λ_=>rfl),jn⟩,λf=>⟨et.clone (b:=O.nodes.isEmpty) (F:=λv=>ec v O.nodes) .k (y9 ad) (λv=>by first | exact List.Perm.refl _ | exact List.perm_middle) (λ_=>rfl),jn⟩,trivial⟩ ?_;refine bp.cS [[true,false,true],[true,false,false],[false,false,true],[false,false,false]] rfl ay rfl rfl rfl ⟨λf=>cK,λf=>cK,λf=>cK,λf=>cK,trivial⟩ ?_;refine bp.cS [[true,false,true],[true,false,false],[false,false,true],[false,false,false]] rfl ay rfl rfl rfl ⟨λf=>dI,λf=>dI,λf=>dI,λf=>dI,trivial⟩ ?_;refine bp.cS [[true,false,true],[true,false,false]] rfl ay rfl rfl rfl ⟨λf=>af.call .k (yA O.aJ ad),λf=>af.call .k (yA O.aJ ad),trivial⟩ ?_;refine bp.cS [[true,false,true],[true,false,false],[false,false,true],[false,false,false]] rfl ay rfl rfl rfl ⟨λf=>cK,λf=>cK,λf=>cK,λf=>cK,trivial⟩ ?_;refine bp.cS [[true,false,true],[true,false,false],[false,false,true],[false,false,false]] rfl ay rfl rfl rfl ⟨λf=>dI,λf=>dI,λf=>dI,λf=>dI,trivial⟩ ?_;refine bp.mC 1 [[true,false,true],[true,false,false]] rfl rfl rfl ay rfl rfl rfl ⟨λf=>⟨et.pop (af.Vj (b:=O.nodes.isEmpty) rfl rfl rfl rfl rfl) (λ_=>rfl) (λ_=>rfl),jn⟩,λf=>⟨et.pop (af.Vj (b:=O.nodes.isEmpty) rfl rfl rfl rfl rfl) (λ_=>rfl) (λ_=>rfl),jn⟩,trivial⟩ ?_;refine bp.mC 2 [[true,true,false],[true,false,false],[false,false,false]] rfl rfl rfl ay rfl rfl rfl ⟨λf=>⟨et.mX rfl (λ_=>rfl) (λ_=>rfl),jn⟩,λf=>⟨et.mX rfl (λ_=>rfl) (λ_=>rfl),jn⟩,λf=>⟨et.mX rfl (λ_=>rfl) (λ_=>rfl),jn⟩,trivial⟩ ?_;refine bp.nil (λf=>?_);simp only[mB,List.map_cons,List.map_nil,List.cons_append,List.nil_append];refine bt ?_;generalize f 77=v;generalize f 11=q;refine au.dS (d:=77) (b:=O.nodes.isEmpty) (v:=v) rfl (λB6 n3=>?_);apply au.j9 rfl rfl rfl rfl rfl rfl rfl (by simp[ha,ud n3]) (by simp[eG,dq];exact⟨rfl,rfl,ud n3,rfl⟩) rfl
    (case hu=>repeat (first | exact bu.head _ _ _ | apply bu.tail));(case hfit=>rfl);(case hds=>rfl)
    refine ev ?_;refine aG (af.div rfl rfl rfl rfl rfl ad (.inr ⟨rfl,rfl⟩)) ?_;refine bS ?_;refine aq.cond rfl (λaD=>?_) (λaD=>?_)
    ·exfalso;rw[Bool.cond_false_right,Bool.and_eq_true,beq_iff_eq,decide_eq_true_eq,show ((n:Int).tmod 2)=((n%2:Nat):Int) from (Int.ofNat_tmod n 2).symm] at aD;exact mx ad
    ·refine bz ?_;refine aG (af.div rfl rfl rfl rfl rfl ad (.inl ⟨rfl,rfl⟩)) ?_;refine aG (af.zE rfl rfl rfl (Vl hn)) ?_;refine bt ?_;refine aG (af.Hk rfl rfl rfl (.tail _ (mT bq))) ?_;refine aG (af.div rfl rfl rfl rfl rfl ad (.inr ⟨rfl,rfl⟩)) ?_;refine bz ?_;obtain⟨i,av⟩:∃i,i=n / 2%O.nodes.length:=⟨_,rfl⟩;have a1:i<O.nodes.length:=by rw[av];exact Nat.mod_lt _ sF
     refine aq.le 13 (y:=.i i) rfl (aL.dx (by rw[av,Int.ofNat_tmod])) ?_;obtain⟨K,ca⟩:∃K:Nat,K=(O.nodes.getD i default).toNat:=⟨_,rfl⟩;have xA:O.nodes.getD i default=(K:Int):=by rw[ca];exact (k6.1 (e6.nb _ (cp a1))).1
     have aji:K<8192:=Nat.lt_of_lt_of_le (by rw[ca];exact (iN e6.nb i).1) (qh an);refine bg ?_;refine aG (af.jF rfl rfl rfl rfl rfl (.tail _ (mT bq)) ⟨ad,ad⟩) ?_;refine aG (af.le (af.m9 rfl rfl rfl (.tail _ (mT bq)) (pJ a1)) (aL.dx xA)) ?_;refine bg ?_;refine aq.cond rfl (λaV=>?_) (λaV=>?_)
     ·refine bC ?_;refine aG (af.call .k (Ce)) ?_;refine bz ?_;refine aR.kz (H':=.aI (kc q) 31 [aa.da O.bP,aa.bD O.params,.val v,aa.ints O.aJ]::.row 3 1 v O.nodes.length (O.nodes.map aa.i)::H) (by rw[ec,if_neg bq];rfl) ?_;refine aS 6 (H) ?_;exact⟨eg,rfl⟩
     ·replace aV:=dZ aV;have xB:K≠0:=λe=>by rw[e] at aV;simp at aV
      refine bg ?_;refine aq.bL mixed ?_;refine bk.b7 0 9 135 rfl ay rfl rfl ay ?_;refine bC ?_;refine bU.bB rfl rfl rfl (af.jF rfl rfl rfl rfl rfl (.tail _ (mT bq)) ⟨ad,ad⟩) ?_;refine bU.bB rfl rfl rfl (af.le (af.m9 rfl rfl rfl (.tail _ (mT bq)) (pJ a1)) (aL.dx xA)) ?_;refine bC ?_;refine bU.bB rfl rfl rfl (af.jF rfl rfl rfl rfl rfl (.tail _ (mT bq)) ⟨ad,ad⟩) ?_;refine bU.bB rfl rfl rfl (af.le (af.m9 rfl rfl rfl (.tail _ (mT bq)) (pJ a1)) (aL.dx xA)) ?_;refine bU.bB rfl rfl rfl (af.le (af.arith rfl rfl rfl rfl rfl rfl (wrap64 ad)) (aL.dx (show _=((K - 1:Nat):Int) by omega))) ?_;refine bC ?_;refine aG (af.bits rfl rfl rfl rfl rfl (BE K (K - 1) ad ad)) ?_;refine aG (af.jF rfl rfl rfl rfl rfl (.tail _ (mT bq)) ⟨ad,ad⟩) ?_;refine au.kz (H':=.aI (kc q) 31 [aa.da O.bP,aa.bD O.params,.val v,aa.ints O.aJ]::.row 3 1 v O.nodes.length (O.nodes.map aa.i)::H) (by rw[ec,if_neg bq];rfl) ?_;refine au.HU (i:=i) (v:=v) (n:=O.nodes.length) (H':=λe=>.aI (kc q) 31 [aa.da O.bP,aa.bD O.params,.val v,aa.ints O.aJ]::e::H) (ds:=(O.nodes.set i ((K &&& (K - 1):Nat):Int)).map aa.i) rfl rfl rfl rfl rfl rfl rfl rfl rfl rfl (λe=>.tail _ _ _ _ _ (.head _ _ _)) (λe e'=>.tail _ _ _ _ _ (.head _ _ _)) a1 bj (λmore=>Kk a1 _ more) bj ?_;refine bg ?_;have sf:ba Tryz.prog 9 [aa.prog p,aa.ef (Cg O i)] (.bJ [.b false,.i 0]):=by
       rw[ca] at xB;rw[ir] at a1;rw[Ck] at xB e6 ⊢;exact Vh aB an (Ve e6) (aje an _ a1 xB)
      obtain⟨M,bT⟩:∃M,M=O.nodes.set i ((K &&& (K - 1):Nat):Int):=⟨_,rfl⟩;have rv:M.length=O.nodes.length:=by rw[bT,List.length_set]
      have cO:aa.ef (Cg O i)=aa.agg [aa.da O.bP,aa.bD O.params,aa.ints M,aa.ints O.aJ]:=by rw[bT,ca];rfl
      rw[cO] at sf;rw[<-bT];refine aq.perm (H':=.row 3 1 v (M.map λn=>[aa.i n]).length (M.map λn=>[aa.i n]).flatten::.aI (kc q) 31 ([aa.da O.bP,aa.bD O.params]++.val v::[aa.ints O.aJ])::H) (by rw[En,List.length_map,rv];exact List.Perm.swap _ _ _) ?_;refine aq.yh (k:=1) (λe he=>by obtain⟨y,_,rfl⟩:=List.mem_map.1 he;rfl) ?_;refine bg ?_;refine aG (af.call .k (sf)) ?_;refine lL ?_;refine au.cb rfl rfl rfl rfl rfl rfl (λal=>af.call .k (Ce)) ?_;refine bz ?_;refine aS 6 (H) ?_;exact⟨eg,rfl⟩
theorem ajj(aB:p.Small)(an:(bK p).isSome=true){t:bG}(ax:r3 t=false){n:Nat}(hn:n<65536)(mx:n%2=1/\0<p.aJ):ba Tryz.prog 5 [aa.prog p,aa.ef t,.val (.int .u16 n)] (.b true):=by
 intro H;refine bh (n:=135) Tryz.func5 λB I aO=>?_;have e6:=u9 an (bW p);have Ci:=ts.2 e6;obtain⟨vR,cN,aD,Cj⟩:=Vi aB an t;obtain⟨O,Ck⟩:∃O,O=(kv p (bW p)):=⟨_,rfl⟩;have jQ:=Vg aB an;have hA:=Lk aB an;have xz:=FN an (kv p (bW p));rw[<-Ck] at e6 Ci Cj hA jQ xz;rw[Ci] at xz;have ja:=e6.jm;have ir:=e6.nl;have eZ:=e6.aF;have en:=oF an;have Ld:=Vm an;have Un:=BZ an;have bq:O.aJ≠ []:=λe=>by rw[e] at eZ;simp at eZ;omega
 have sF:0<O.aJ.length:=List.length_pos_iff.2 bq;refine cw ?_;refine aG (af.call .k (JX t)) ?_;refine bC ?_;refine au.cb rfl rfl rfl rfl rfl rfl (λal=>af.call (.mk' rfl rfl rfl rfl dv) (Jn aB)) ?_;refine bI ?_;refine aq.cond rfl (λai=>?_) (λai=>?_)
 ·simp[ax,an] at ai
 ·refine bz ?_;refine aG (af.call .k (hA)) ?_;refine bg ?_;refine au.cG rfl rfl rfl rfl (λfo=>?_);refine bz ?_;refine aq.ep (d:=7) rfl ey ?_;refine bg ?_;refine aG (af.call .k (jQ)) ?_;refine p7 ?_;refine au.cb rfl rfl rfl rfl rfl rfl (λal=>af.call (.mk' rfl rfl rfl rfl dv) (xz)) ?_;refine bI ?_;refine aq.cond rfl (λab=>?_) (λab=>?_)
  ·simp at ab
  ·refine aT ?_;refine aG (af.call .k (aD)) ?_;refine kC ?_;refine au.cb rfl rfl rfl rfl rfl rfl (λal=>af.call (.mk' rfl rfl rfl rfl dv) (FN an t)) ?_;refine bI ?_;refine au.cb rfl rfl rfl rfl rfl rfl (λal=>af.call (.mk' rfl rfl rfl rfl dv) (Vb an e6 (ts.1 (by simp at al;exact al.2)))) ?_;refine bz ?_;refine aq.cond rfl (λae=>?_) (λae=>?_)
   ·exfalso;simp at ae;obtain⟨⟨he,aw⟩,bl⟩:=ae;obtain⟨cP,di⟩:=Cj he aw;rcases bl with bl | bl
    ·rw[cP] at bl;cases bl
    ·rw[di (ts.1 cP)] at bl;cases bl
   ·refine bg ?_;refine aq.bL mixed ?_;refine bk.uo (X:=p0) [⟨8,80,false⟩,⟨11,83,false⟩,⟨12,11,false⟩] (λJ=>match J with | [some a,_,some q]=>.aI (kc q) 31 [.val (.slice none 0 0),.val (.slice none 0 0),.val (.slice none 0 0),.val (.slice none 0 0)]::(ec a O.aJ++H) | [none,_,some q]=>.aI (kc q) 31 [.val (.slice none 0 0),.val (.slice none 0 0),.val (.slice none 0 0),.val (.slice none 0 0)]::H | [some a,_,none]=>ec a O.aJ++H | _=>H) (λj J=>match j,J with | 0,some a::_=>n9 O.aJ.isEmpty a | 1,some a::_=>.agg [aa.da O.bP,aa.bD O.params,aa.ints O.nodes,.val a] | 2,[_,_,some q]=>.p (kc q) 0 | _,_=>.any) 0 13 135 rfl ay ay rfl rfl ay rfl (λ_ _ _ _ _ _ _ _ _ h=>h.elim) ?_;refine bp.cS [[false,false,true],[false,false,false]] rfl ay rfl rfl rfl ⟨λf=>cK,λf=>cK,trivial⟩ ?_;refine bp.cS [[false,false,true],[false,false,false]] rfl ay rfl rfl rfl ⟨λf=>dI,λf=>dI,trivial⟩ ?_;refine bp.cS [[false,false,true],[false,false,false]] rfl ay rfl rfl rfl ⟨λf=>af.call .k (FO O.bP ad),λf=>af.call .k (FO O.bP ad),trivial⟩ ?_;refine bp.cS [[false,false,true],[false,false,false]] rfl ay rfl rfl rfl ⟨λf=>cK,λf=>cK,trivial⟩ ?_;refine bp.cS [[false,false,true],[false,false,false]] rfl ay rfl rfl rfl ⟨λf=>dI,λf=>dI,trivial⟩ ?_;refine bp.cS [[false,false,true],[false,false,false]] rfl ay rfl rfl rfl ⟨λf=>af.call .k (yA O.nodes ad),λf=>af.call .k (yA O.nodes ad),trivial⟩ ?_;refine bp.cS [[false,false,true],[false,false,false]] rfl ay rfl rfl rfl ⟨λf=>cK,λf=>cK,trivial⟩ ?_;refine bp.cS [[false,false,true],[false,false,false]] rfl ay rfl rfl rfl ⟨λf=>dI,λf=>dI,trivial⟩ ?_;refine bp.mC 0 [[false,false,true],[false,false,false]] rfl rfl rfl ay rfl rfl rfl ⟨λf=>⟨et.clone (b:=O.aJ.isEmpty) (F:=λv=>ec v O.aJ) .k (y9 ad) (λv=>by first | exact List.Perm.refl _ | exact List.perm_middle) (λ_=>rfl),jn⟩,λf=>⟨et.clone (b:=O.aJ.isEmpty) (F:=λv=>ec v O.aJ) .k (y9 ad) (λv=>by first | exact List.Perm.refl _ | exact List.perm_middle) (λ_=>rfl),jn⟩,trivial⟩ ?_;refine bp.cS [[true,false,true],[true,false,false],[false,false,true],[false,false,false]] rfl ay rfl rfl rfl ⟨λf=>cK,λf=>cK,λf=>cK,λf=>cK,trivial⟩ ?_;refine bp.cS [[true,false,true],[true,false,false],[false,false,true],[false,false,false]] rfl ay rfl rfl rfl ⟨λf=>dI,λf=>dI,λf=>dI,λf=>dI,trivial⟩ ?_;refine bp.mC 1 [[true,false,true],[true,false,false]] rfl rfl rfl ay rfl rfl rfl ⟨λf=>⟨et.pop (af.Vk (b:=O.aJ.isEmpty) rfl rfl rfl rfl rfl) (λ_=>rfl) (λ_=>rfl),jn⟩,λf=>⟨et.pop (af.Vk (b:=O.aJ.isEmpty) rfl rfl rfl rfl rfl) (λ_=>rfl) (λ_=>rfl),jn⟩,trivial⟩ ?_;refine bp.mC 2 [[true,true,false],[true,false,false],[false,false,false]] rfl rfl rfl ay rfl rfl rfl ⟨λf=>⟨et.mX rfl (λ_=>rfl) (λ_=>rfl),jn⟩,λf=>⟨et.mX rfl (λ_=>rfl) (λ_=>rfl),jn⟩,λf=>⟨et.mX rfl (λ_=>rfl) (λ_=>rfl),jn⟩,trivial⟩ ?_;refine bp.nil (λf=>?_);simp only[mB,List.map_cons,List.map_nil,List.cons_append,List.nil_append];refine bt ?_;generalize f 80=v;generalize f 11=q;refine au.dS (d:=80) (b:=O.aJ.isEmpty) (v:=v) rfl (λB6 n3=>?_);apply au.j9 rfl rfl rfl rfl rfl rfl rfl (by simp[ha,ud n3]) (by simp[eG,dq];exact⟨rfl,rfl,rfl,ud n3⟩) rfl
    (case hu=>repeat (first | exact bu.head _ _ _ | apply bu.tail));(case hfit=>rfl);(case hds=>rfl)
    refine ev ?_;refine aG (af.div rfl rfl rfl rfl rfl ad (.inr ⟨rfl,rfl⟩)) ?_;refine bI ?_;refine au.cb rfl rfl rfl rfl rfl rfl (λal=>af.Hk rfl rfl al (.tail _ (mT bq))) ?_;refine bI ?_;refine aq.cond rfl (λaD=>?_) (λaD=>?_)
    ·refine bS ?_;refine aG (af.div rfl rfl rfl rfl rfl ad (.inl ⟨rfl,rfl⟩)) ?_;refine aG (af.zE rfl rfl rfl (Vl hn)) ?_;refine bt ?_;refine aG (af.Hk rfl rfl rfl (.tail _ (mT bq))) ?_;refine aG (af.div rfl rfl rfl rfl rfl ad (.inr ⟨rfl,rfl⟩)) ?_;refine bz ?_;obtain⟨i,av⟩:∃i,i=n / 2%O.aJ.length:=⟨_,rfl⟩;have a1:i<O.aJ.length:=by rw[av];exact Nat.mod_lt _ sF
     refine aq.le 13 (y:=.i i) rfl (aL.dx (by rw[av,Int.ofNat_tmod])) ?_;obtain⟨K,ca⟩:∃K:Nat,K=(O.aJ.getD i default).toNat:=⟨_,rfl⟩;have xA:O.aJ.getD i default=(K:Int):=by rw[ca];exact (k6.1 (e6.fh _ (cp a1))).1
     have aji:K<8192:=Nat.lt_of_lt_of_le (by rw[ca];exact (iN e6.fh i).1) (qh an);refine bg ?_;refine aG (af.jF rfl rfl rfl rfl rfl (.tail _ (mT bq)) ⟨ad,ad⟩) ?_;refine aG (af.le (af.m9 rfl rfl rfl (.tail _ (mT bq)) (pJ a1)) (aL.dx xA)) ?_;refine bg ?_;refine aq.cond rfl (λaV=>?_) (λaV=>?_)
     ·refine bC ?_;refine aG (af.call .k (Ce)) ?_;refine bz ?_;refine aR.kz (H':=.aI (kc q) 31 [aa.da O.bP,aa.bD O.params,aa.ints O.nodes,.val v]::.row 3 1 v O.aJ.length (O.aJ.map aa.i)::H) (by rw[ec,if_neg bq];rfl) ?_;refine aS 6 (H) ?_;exact⟨eg,rfl⟩
     ·replace aV:=dZ aV;have xB:K≠0:=λe=>by rw[e] at aV;simp at aV
      refine bg ?_;refine aq.bL mixed ?_;refine bk.b7 0 9 135 rfl ay rfl rfl ay ?_;refine bC ?_;refine bU.bB rfl rfl rfl (af.jF rfl rfl rfl rfl rfl (.tail _ (mT bq)) ⟨ad,ad⟩) ?_;refine bU.bB rfl rfl rfl (af.le (af.m9 rfl rfl rfl (.tail _ (mT bq)) (pJ a1)) (aL.dx xA)) ?_;refine bC ?_;refine bU.bB rfl rfl rfl (af.jF rfl rfl rfl rfl rfl (.tail _ (mT bq)) ⟨ad,ad⟩) ?_;refine bU.bB rfl rfl rfl (af.le (af.m9 rfl rfl rfl (.tail _ (mT bq)) (pJ a1)) (aL.dx xA)) ?_;refine bU.bB rfl rfl rfl (af.le (af.arith rfl rfl rfl rfl rfl rfl (wrap64 ad)) (aL.dx (show _=((K - 1:Nat):Int) by omega))) ?_;refine bC ?_;refine aG (af.bits rfl rfl rfl rfl rfl (BE K (K - 1) ad ad)) ?_;refine aG (af.jF rfl rfl rfl rfl rfl (.tail _ (mT bq)) ⟨ad,ad⟩) ?_;refine au.kz (H':=.aI (kc q) 31 [aa.da O.bP,aa.bD O.params,aa.ints O.nodes,.val v]::.row 3 1 v O.aJ.length (O.aJ.map aa.i)::H) (by rw[ec,if_neg bq];rfl) ?_;refine au.HU (i:=i) (v:=v) (n:=O.aJ.length) (H':=λe=>.aI (kc q) 31 [aa.da O.bP,aa.bD O.params,aa.ints O.nodes,.val v]::e::H) (ds:=(O.aJ.set i ((K &&& (K - 1):Nat):Int)).map aa.i) rfl rfl rfl rfl rfl rfl rfl rfl rfl rfl (λe=>.tail _ _ _ _ _ (.head _ _ _)) (λe e'=>.tail _ _ _ _ _ (.head _ _ _)) a1 bj (λmore=>Kk a1 _ more) bj ?_;refine bg ?_;have sf:ba Tryz.prog 9 [aa.prog p,aa.ef (Ch O i)] (.bJ [.b false,.i 0]):=by
       rw[ca] at xB;have ajk:(i:Int)<p.aJ:=by omega
       rw[Ck] at xB e6 ⊢;exact Vh aB an (Vf e6) (ajf an _ ajk xB)
      obtain⟨M,bT⟩:∃M,M=O.aJ.set i ((K &&& (K - 1):Nat):Int):=⟨_,rfl⟩;have rv:M.length=O.aJ.length:=by rw[bT,List.length_set]
      have cO:aa.ef (Ch O i)=aa.agg [aa.da O.bP,aa.bD O.params,aa.ints O.nodes,aa.ints M]:=by rw[bT,ca];rfl
      rw[cO] at sf;rw[<-bT];refine aq.perm (H':=.row 3 1 v (M.map λn=>[aa.i n]).length (M.map λn=>[aa.i n]).flatten::.aI (kc q) 31 ([aa.da O.bP,aa.bD O.params,aa.ints O.nodes]++.val v::[])::H) (by rw[En,List.length_map,rv];exact List.Perm.swap _ _ _) ?_;refine aq.yh (k:=1) (λe he=>by obtain⟨y,_,rfl⟩:=List.mem_map.1 he;rfl) ?_;refine bg ?_;refine aG (af.call .k (sf)) ?_;refine lL ?_;refine au.cb rfl rfl rfl rfl rfl rfl (λal=>af.call .k (Ce)) ?_;refine bz ?_;refine aS 6 (H) ?_;exact⟨eg,rfl⟩
    ·exfalso;rw[Bool.cond_false_right,Bool.and_eq_false_iff,beq_eq_false_iff_ne,decide_eq_false_iff_not,show ((n:Int).tmod 2)=((n%2:Nat):Int) from (Int.ofNat_tmod n 2).symm] at aD;omega
theorem ajl(aB:p.Small){t:bG}{n:Nat}(ak:(bif r3 t then true else !(bK p).isSome)=true):ba Tryz.prog 5 [aa.prog p,aa.ef t,.val (.int .u16 n)] (.b true):=by
 intro H;refine bh (n:=135) Tryz.func5 λB I aO=>?_;refine cw ?_;refine aG (af.call .k (JX t)) ?_;refine bC ?_;refine au.cb rfl rfl rfl rfl rfl rfl (λal=>af.call (.mk' rfl rfl rfl rfl dv) (Jn aB)) ?_;refine bI ?_;refine aq.cond rfl (λai=>?_) (λai=>?_)
 ·refine bC ?_;refine aG (af.call .k (Ce)) ?_;refine bz ?_;refine aS 6 (H) ?_;exact⟨dJ,rfl⟩
 ·exfalso;rw[ak] at ai;cases ai
theorem ajm(aB:p.Small)(t:bG){n:Nat}(hn:n<65536):ba Tryz.prog 5 [aa.prog p,aa.ef t,.val (.int .u16 n)] (.b true):=by
 cases ak:(bif r3 t then true else !(bK p).isSome) with
 | true=>exact ajl aB ak
 | false=>
  have ax:r3 t=false:=by cases h:r3 t with
   | true=>rw[h] at ak;cases ak
   | false=>rfl
  have an:(bK p).isSome=true:=by cases h:(bK p).isSome with
   | true=>rfl
   | false=>rw[ax,h] at ak;cases ak
  by_cases h:n%2=1/\0<p.aJ
  ·exact ajj aB an ax hn h
  ·exact ajh aB an ax hn h
end Go.Proofs.YtodccgailpkgeaaGreat

