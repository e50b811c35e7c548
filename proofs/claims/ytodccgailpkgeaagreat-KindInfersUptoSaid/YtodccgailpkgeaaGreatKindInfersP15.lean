/- A part of the proof. No condition. -/
import Derived.Test.YtodccgailpkgeaaGreatKindInfersP14
set_option linter.defProp false
set_option maxHeartbeats 1000000
set_option linter.unusedVariables false
set_option linter.unusedSimpArgs false
set_option maxRecDepth 10000
namespace Go.Proofs.YtodccgailpkgeaaGreat
open Go.Proofs.Tryz
open Go.Eng
open Go.Eng.Fc
open Go.Eng.dN
variable{U pre:dq}{W:Fc.bt}{t:cI}{x:Nat}{l:ak}
def e7(p:Prog):List cW:=(List.range (aJ p)).map λ(a:Nat)=>(List.range (aJ p)).map λ(b:Nat)=>iU (bS p) a b
def fg(p:Prog):List ak:=(List.range (aJ p)).map λ(a:Nat)=>if eH p a then cu p a else []
abbrev ab.gg(l:List cW):ab:=.ai 1 (l.map λx=>[ab.du x])
abbrev Qe(p:Prog)(t:cI):bl:=ns t++cM p++cD (bS p)++[ab.gg (e7 p),ab.bm (fg p),.any,.any,.any,.any]
abbrev ab.ew(p:Prog)(t:cI):ab:=.ptr (Qe p t)
def sS(p):(fg p).length=aJ p:=by simp[fg]
def qn(p):(e7 p).length=aJ p:=by simp[e7]
def pb{c:Type}[Inhabited c](f:Nat->c){n i}(h:i<n):((List.range n).map f).getD i default=f i:=by
 rw[List.getD_eq_getElem?_getD,List.getElem?_map,List.getElem?_range h];rfl
def H5{p}{a}(h:a<aJ p):(e7 p).getD a default=(List.range (aJ p)).map λ(b:Nat)=>iU (bS p) a b:=pb _ h
def Qf{p}{a}{b:Int}(h:a<aJ p)(c:0<=b/\b<aJ p):((e7 p).getD a default).getD b.toNat default=iU (bS p) a b:=by
 rw[H5 h,pb _ aa];congr 1;omega
def abr{p}(f:(bw p).isSome){a}(h:a<aJ p)(s):((fg p).getD a default).contains s=dT p a s:=by
 rw[fg,pb _ h,dT,eH,f,Bool.and_true];have e:decide ((a:Int)<3+p.aE.length)=true:=by unfold aJ at h;simp;omega
 rw[e,Bool.and_true];by_cases c:3<=a
 ·rw[if_pos cB];simp[c]
 ·rw[if_neg cB];simp[c]
def abt(s)(c)(a:0<=c)(f:s<18446744073709551616):aG prog 137 [ab.set s,.i c] (.b (s.testBit c.toNat)):=by
 intro H;refine aM func137 λB I g=>?_;refine ba ?_;refine ag (.shift rfl rfl rfl rfl rfl a (MX s c)) ?_;refine ag (.bits rfl rfl rfl rfl rfl (zA _ 1 (by have:=Nat.div_le_self s (2^min c.toNat 64);omega) c8)) ?_;refine aT ?_;refine aC 4 H ?_;exact⟨bq (GI s c f),rfl⟩
theorem Qg:∀(l:List ak) (i:Nat) (U:dq),(hA l i U).length=U.length
 | [],_,_=>rfl
 | x::r,i,U=>by rw[hA,Qg r];simp
def abu(W):(mF W).length=63:=by rw[mF,Qg];rfl
def abv(f:∀x∈U,x<18446744073709551616){i}(g:i<61)(l):o1 U i l<18446744073709551616:=by
 unfold o1;have:∀(l:ak) (s:Nat),s<18446744073709551616->l.foldl (λs (p:Int)=>s ||| U.getD p.toNat 0) s<18446744073709551616:=by
  intro l
  induction l with
  | nil=>intro s a;exact a
  | cons p r c=>intro s a;exact c _ (l9 a (vl f _))
 exact this l _ (l9 aa (q4 aa))
theorem Qh:∀(l:List ak) (i:Nat) (U:dq),i+l.length<=61->(∀x∈U,x<18446744073709551616)->∀x∈hA l i U,x<18446744073709551616
 | [],_,_,_,h=>h
 | y::r,i,U,a,h=>by
  rw[hA];simp[List.length_cons] at a;exact Qh r (i+1) _ aa (Hp h (abv h aa y))
def abw{W}(h:W.parents.length<=60):∀x∈mF W,x<18446744073709551616:=Qh _ _ _ aa c8
def abx{c}(h:c<U.length):(List.drop (c*1) (List.drop 2 (cD W++U.map λs=>ab.set s)))[0]? =some (ab.set (U.getD c 0)):=by
 rw[Nat.mul_one,List.drop_drop,List.getElem?_drop];exact Hn (W:=W) (U:=U) (i:=c) h
def Ds{c}:jf W c=true↔0<=c/\c<3+W.parents.length:=by simp[jf]
def aby(g:cx W){a b}(l:jf W a)(j:jf W b):aG prog 89 [ab.world W,.i a,.i b] (.bk [.b (iU W a b),.i 0]):=by
 intro H;refine aM func89 λB I r=>?_;have h:W.parents.length<=60:=by simp[cx,Bool.and_eq_true,decide_eq_true_eq] at g;exact g.1.1.1
 have m:=Ds.1 l;have o:=Ds.1 j;have f:=abw h;refine bY ?_;refine ag (.call .k (O6 g)) ?_;refine eb ?_;refine gb (λaw=>.call (.mk' rfl rfl rfl rfl c9) (Hl W a h)) ?_;refine aT ?_;refine aj.db rfl rfl rfl rfl rfl rfl (λaw=>ad.call (.mk' rfl rfl rfl rfl c9) (Hl W b h)) ?_;refine aY ?_;refine bc (λaf=>?_) (λaf=>?_)
 ·simp[l,j] at af
 ·refine aI ?_;refine ag (KH) ?_;refine ag (ad.cF rfl rfl rfl (abx (c:=a.toNat) (by rw[abu];omega))) ?_;refine aR ?_;refine ag (ad.call .k (abt _ b aa (vl f _))) ?_;refine aT ?_;refine dL [.tmp 6,.tmp 7] (H) ?_;exact⟨cO,rfl⟩
def Af{p}(t)(f:(bw p).isSome){c}(a:c<aJ p)(s):aG prog 38 [ab.ew p t,.i c,.i s] (.b (dT p c s)):=by
 intro H;refine aM func38 λB I g=>?_;refine bR ?_;refine ag ((by first | exact .fC rfl rfl rfl rfl rfl (by rw[sS];exact a) | exact .ep rfl rfl rfl rfl rfl (by rw[sS];exact a))) ?_;refine aO ?_;refine ag (.call .k ((zU _ _))) ?_;refine aY ?_;refine aC 6 H ?_;exact⟨bq (abr f a s),rfl⟩
def iX(p:Prog)(t:cI)(s:Int)(pre:dq):Nat:=if pre.any (λc=>dT p c s) then (t.av.getD s.toNat default).toNat else 0
def k8(p:Prog)(s:Int)(b:Bool)(pre:dq):Bool:=b || pre.any λc=>!dT p c s
abbrev Dt(p:Prog)(t:cI)(s:Int)(b:Bool)(bx nb:Nat)(pre:dq):aA:=[.au bx 3 [.i (iX p t s pre)],.au nb 4 [.b (k8 p s b pre)]]
def abz{p}{s}{b}{g nb x}(h:dT p x s): [.au g 3 [.i ((iX p t s pre ||| (t.av.getD s.toNat default).toNat:Nat):Int)],.au nb 4 [.b (k8 p s b pre)]]=Dt p t s b g nb (pre++[x]):=by
 have l:iX p t s pre ||| (t.av.getD s.toNat default).toNat=iX p t s (pre++[x]):=by
  unfold iX;rw[List.any_append,List.any_cons,h,Bool.true_or,Bool.or_true,if_pos rfl];split <;> simp
 have j:k8 p s b pre=k8 p s b (pre++[x]):=by unfold k8;rw[List.any_append,List.any_cons,h];simp
 rw[l,j]
def abA{p}{s}{b}{f nb x}(h:dT p x s=false): [.au f 3 [.i (iX p t s pre)],.au nb 4 [.b true]]=Dt p t s b f nb (pre++[x]):=by
 have j:iX p t s pre=iX p t s (pre++[x]):=by
  unfold iX;rw[List.any_append,List.any_cons,h];simp
 have g:true=k8 p s b (pre++[x]):=by unfold k8;rw[List.any_append,List.any_cons,h];simp
 show _= [bn.au f 3 [.i (iX p t s (pre++[x]))],bn.au nb 4 [.b (k8 p s b (pre++[x]))]];rw[<-j, <-g]
def Qi{p:Prog}{path:ak}(h:∀s∈path,0<=s/\s<p.av){i}(a:i<path.length):0<=path.getD i default/\path.getD i default<p.av:=h _ (bI a)
def Qj(p)(t)(c){path:ak}{i:Nat}(a:i<path.length):kb p t c (path.take (i+1))=nu p t (path.getD i default) (kb p t c (path.take i)):=by rw[<-c2 a,H3]
def abB{p}(aH:(bw p).isSome)(J:lF p t)(M:(t.av.length:Int)=p.av){c}(P:c<aJ p){path}(l:∀s∈path,0<=s/\s<p.av):aG prog 101 [ab.ew p t,.i c,.ints path] (.bk [.i (kb p t c path).1,.b (kb p t c path).2]):=by
 intro H;refine .qC func101 rfl ay rfl rfl λB I Y=>?_;have hm:=nx aH;have T:=o8 aH;refine aY ?_;refine bK (λnb=>?_);refine aT ?_;refine ag (.shift rfl rfl rfl rfl rfl aa (mO c lz)) ?_;refine bR ?_;refine .eG (t:=14) rfl λakI=>?_;refine .zo (λm R=>∃(i:Nat) (k:Nat×Bool),R=⟨[(16,.i i),(15,.i path.length),(14,.ints path),(6,.i k.1),(7,.p nb 0),(3,.ptr [ab.ew p t])],[.au nb 4 [.b k.2]]⟩/\m=path.length - i/\i<=path.length/\k=kb p t c (path.take i)) [] H ⟨_,_,⟨0,(2^c,false),rfl,rfl,aa,rfl⟩,hW,gA⟩ ?_;intro f;rintro m _ ⟨i,k,rfl,rfl,aQ,A⟩;refine ax ?_;refine az (λaf=>?_) λaf=>?_
 ·have j:i<path.length:=by omega
  have a:k.1<2^aJ p:=by rw[A];exact Dn J (by simpa using P) _
  have E:=Qi l j;have o:=Qj p t c j;rw[<-A] at o;obtain⟨s,q⟩:∃s,s=path.getD i default:=iO;rw[<-q] at E o;have C:=Dm J s.toNat;refine aI ?_;refine bK (λff=>?_);refine aY ?_;rw[<-q];refine eA 9 ?_;refine aR ?_;refine bK (λbx=>?_);refine aP ?_;refine ag GG ?_;refine aF ?_;refine .weaken (st':=⟨[(10,.p bx 0),(21,.fn (.func 76) [] [.ptr [.i k.1]]),(9,.ptr [.i s]),(16,.i i),(15,.i path.length),(14,.ints path),(6,.i k.1),(7,.p nb 0),(3,.ptr [ab.ew p t])],[.au bx 3 [.i 0],.au nb 4 [.b k.2]]++(gW f++H)⟩) hW gA ?_;refine .qU f (λ_ (c:Nat)=>.i c) (λ_ _=>[]) (gf k.1) (λpre H=>H=Dt p t s k.2 bx nb pre) (λ_ _ _=>False) ([.au bx 3 [.i 0],.au nb 4 [.b k.2]]) (H) (λ_ x=>[(11,.i x),(22,.i x),(10,.p bx 0),(9,.ptr [.i s]),(7,.p nb 0),(3,.ptr [ab.ew p t])]) rfl rfl rfl rfl ((vv _ aa).b) (by simp[k8,iX]) ?_ ?_ ?_ ?_
  ·intro O S U X x N;refine aF ?_;exact λa w s=>⟨_,rfl,s.weaken (lQ hW) (List.Sublist.refl _)⟩
  ·intro O xy Z pre X x K N S U g F;obtain rfl:=F;have V:x<aJ p:=tM a (g.subset aS);refine ax ?_;refine ag (ad.call .k (Af t aH V s)) ?_;refine aO ?_;refine bc (λae=>?_) (λae=>?_)
   ·have ae:=ae;refine bP 9 41 ?_;refine aP ?_;refine bg (lL) ?_;refine bg (ad.le (ad.cF rfl rfl rfl rfl) (an.b4 C.1)) ?_;refine aO ?_;refine ag (ad.bits rfl rfl rfl rfl rfl (kg _ _ (by unfold iX;split <;> omega) aa)) ?_;refine aF ?_;exact aZ.mx bC (abz ae)
   ·have ae:=ae;refine aY ?_;exact aZ.mx bC (abA ae)
  ·intro L K F;obtain rfl:=F;have W:iX p t s (gf k.1)=(nu p t s k).1:=by rw[Dp a aa];rfl
   have Q:k8 p s k.2 (gf k.1)=(nu p t s k).2:=by rw[Dp a aa];rfl
   simp only[Dt];rw[W,Q];refine bR ?_;refine aZ.n8 (L::f) (⟨i+1,nu p t s k,rfl,rfl,j,o.symm⟩) ?_ ?_ ?_
   ·omega
   ·repeat (first | exact trivial | refine⟨rfl,?_⟩)
   ·repeat (first | exact List.Sublist.refl _ | apply List.Sublist.cons_cons | refine List.Sublist.cons _ ?_)
  ·intro L D pre K g G;exact G.elim
 ·obtain rfl:i=path.length:=by omega
  rw[List.take_length] at A;refine ax ?_;refine aB.cw mixed ?_;refine b0.Mj (.i k.1) 6 2 0 3 41 rfl rfl aq aq rfl rfl aq ?_;refine bj.zd aq aq rfl rfl rfl rfl (ad.move rfl rfl rfl) ?_;refine bj.ze aq rfl rfl rfl rfl (cJ) ?_;refine bj.Ml aq aq rfl rfl rfl (ad.assign rfl rfl rfl) ?_;refine bj.nil ⟨rfl,?_⟩;refine aT ?_;refine aZ.k1 f ([.au nb 4 [.b k.2]]) H (rs:=[.tmp 6,.cell 7 4]) (H':=H) rfl gA (.tmp rfl (sR)) (c0.refl _) bC ?_;exact⟨by rw[A];rfl,rfl⟩
def oq(p:Prog)(c:Int)(b:Bool)(pre:dq):Bool×Bool:=(pre.any (λa=>iU (bS p) a c),b || pre.any λa=>!iU (bS p) a c)
def abC{p}{c}{b r:Bool}{a x:Nat}(h:r=iU (bS p) x c): [bn.au a 104 [ab.k7 ((oq p c b pre).1 || r,(oq p c b pre).2 || !r)]]= [bn.au a 104 [ab.k7 (oq p c b (pre++[x]))]]:=by
 subst h;unfold oq;rw[List.any_append,List.any_append,List.any_cons,List.any_cons,List.any_nil,List.any_nil,Bool.or_false,Bool.or_false,Bool.or_assoc]
def Du{p}(a:(bw p).isSome):((bS p).owner.length:Int)=p.av:=by
 obtain⟨o,c⟩:=Option.isSome_iff_exists.1 a;have:=(oh.of (iF c).1).ZK;show ((hj p.aE 0).length:Int)=_;rw[tF];exact this
def Qk{p}{f}(a:f.op≠1)(j:f.op≠5)(h:f.op≠6)(g:f.op≠7)(c:f.op≠2){k}(m:k=kb p t (l.getD f.arg.toNat default) f.path):(k.1.testBit 1,bif k.2 then true else ((k.1:Int) !=0))=di p t l f:=by
 rw[Qc a j h g, <-m,show (let k:=k;if f.op=2 then _ else _)=_ from if_neg c];have e:((k.1:Int) !=0)=decide (k.1≠0):=by rw[Bool.eq_iff_iff];simp
 rw[e,Bool.cond_true_left]
def Ql{p}{f}(hm:aJ p<=62)(g:f.op=2){k}(h:k=kb p t (l.getD f.arg.toNat default) f.path)(a:k.1<2^aJ p):oq p f.cls k.2 (gf k.1)=di p t l f:=by
 rw[Qc aa aa aa aa, <-h,show (let k:=k;if f.op=2 then _ else _)=_ from if_pos g,Dk a hm (λc=>iU (bS p) c f.cls),Dk a hm (λc=>!iU (bS p) c f.cls)];rfl
def abD{p}(A:(bw p).isSome)(Q:lF p t)(C:(t.av.length:Int)=p.av)(V:∀c∈l,1<=c/\c<aJ p){f}(o:ir p l f)(r:∀k∈f.kids,aG prog 55 [ab.ew p t,ab.fact k,.ints l] (ab.k7 (di p t l k))):aG prog 55 [ab.ew p t,ab.fact f,.ints l] (ab.k7 (di p t l f)):=by
 intro H;refine .qC func55 rfl ay rfl rfl λB I bW=>?_;have hm:=nx A;have bF:=o8 A;refine oX ?_;refine az (λaf=>?_) λaf=>?_
 ·refine aO ?_;refine ag (ad.call .k ((CG _ _))) ?_;refine ax ?_;refine .k1 [] [] H (rs:=[.tmp 6]) (H':=H) rfl gA eQ cL bC ?_;exact⟨vr (P8 af).symm,rfl⟩
 ·refine ax ?_;refine az (λae=>?_) λae=>?_
  ·have D:=o.ops.1 ae;refine aR ?_;refine bP 6 118 ?_;refine aI ?_;refine ag (.call .k (r _ nm)) ?_;refine ag (.call .k ((Dr _))) ?_;refine ax ?_;refine .k1 [] [] H (rs:=[.tmp 6]) (H':=H) rfl gA eQ cL bC ?_;exact⟨vr (P9 ae D).symm,rfl⟩
  ·refine ax ?_;refine az (λao=>?_) λao=>?_
   ·have j:=o.ops.2.1 (.inl ao);refine aR ?_;refine bP 13 118 ?_;refine ax ?_;refine bg (.call .k (r _ nm)) ?_;refine aI ?_;refine ag (.call .k (r _ nm)) ?_;refine ag (.call .k (Qd _ _)) ?_;refine ax ?_;refine .k1 [] [] H (rs:=[.tmp 6]) (H':=H) rfl gA eQ cL bC ?_;exact⟨vr (Qa ao j).symm,rfl⟩
   ·refine ax ?_;refine az (λaV=>?_) λaV=>?_
    ·have j:=o.ops.2.1 (.inr aV);refine aR ?_;refine bP 14 118 ?_;refine ax ?_;refine bg (.call .k (r _ nm)) ?_;refine bg (.call .k ((Dr _))) ?_;refine aI ?_;refine ag (.call .k (r _ nm)) ?_;refine ag (.call .k ((Dr _))) ?_;refine ag (.call .k (Qd _ _)) ?_;refine ag (.call .k ((Dr _))) ?_;refine ax ?_;refine .k1 [] [] H (rs:=[.tmp 6]) (H':=H) rfl gA eQ cL bC ?_;exact⟨vr ((abh _ _).trans (Qb aV j).symm),rfl⟩
    ·have L:=o.ops.2.2 af ae ao aV;obtain⟨nV,v,_,K⟩:=o.leaf L;have a2:=V _ (bI (k:=f.arg.toNat) (l:=l) aa);obtain⟨c,Y⟩:∃c:Nat,l.getD f.arg.toNat default=c:=⟨(l.getD f.arg.toNat default).toNat,aa⟩;have a0:=Du A;have m:aG prog 101 [ab.ew p t,.i c,.ints f.path] _:=abB A Q C aa (λs h=>⟨(v s h).1,by have:=(v s h).2;omega⟩);obtain⟨k,B⟩:∃k,k=kb p t (l.getD f.arg.toNat default) f.path:=iO;have a:k.1<2^aJ p:=by rw[B];exact Dn Q aa _
     rw[<-Y, <-B] at m;refine aY ?_;refine bP 8 118 ?_;refine aY ?_;refine bg (lL) ?_;refine aT ?_;refine ag (.call .k m) ?_;refine ax ?_;refine .dG 10 13 118 rfl aq rfl rfl aq ?_;refine ji ?_;refine az (λbu=>?_) λbu=>?_
     ·refine aF ?_;refine ag (.call .k (H4 _ 1 aa)) ?_;refine aT ?_;refine ag CF ?_;refine aT ?_;refine .k1 [] [] H (rs:=[.tmp 6]) (H':=H) rfl gA eQ cL bC ?_;exact⟨vr (Qk af ae ao aV bu B),rfl⟩
     ·have S:=K bu;refine aT ?_;refine ag CF ?_;refine bK (λdF=>?_);refine aP ?_;refine ag GG ?_;refine aF ?_;refine .weaken (st':=⟨[(89,.fn (.func 76) [] [.ptr [.i k.1]]),(9,.p dF 0),(3,.ptr [ab.ew p t]),(4,.ptr (fy f))],[.au dF 104 [ab.k7 (false,k.2)]]++(gW []++H)⟩) hW gA ?_;refine .qU [] (λ_ (c:Nat)=>.i c) (λ_ _=>[]) (gf k.1) (λpre H=>H= [.au dF 104 [ab.k7 (oq p f.cls k.2 pre)]]) (λ_ _ _=>False) ([.au dF 104 [ab.k7 (false,k.2)]]) H (λ_ x=>[(10,.i x),(90,.i x),(9,.p dF 0),(3,.ptr [ab.ew p t]),(4,.ptr (fy f))]) rfl rfl rfl rfl ((vv _ aa).b) (by simp[oq]) ?_ ?_ ?_ ?_
      ·intro X Z gd jN x W;refine aF ?_;exact λa w s=>⟨_,rfl,s.weaken xc w8⟩
      ·intro X F fD pre jN x R W Z gd g G;obtain rfl:=G;have aK:x<aJ p:=tM a (g.subset aS);have U:((e7 p).getD x default).length=aJ p:=by rw[H5 aK];simp
       refine aR ?_;refine bP 25 118 ?_;refine ax ?_;refine bg (KE) ?_;refine aF ?_;refine bg (lL) ?_;refine ax ?_;refine bg (KE) ?_;refine aF ?_;refine bg (lL) ?_;refine aO ?_;refine bg (.call .k (CG _ _)) ?_;refine aO ?_;refine ag (.bits rfl rfl rfl rfl rfl (abl _ _)) ?_;refine aF ?_;exact .mx bC (abC (Qf aK aa))
      ·intro F R G;obtain rfl:=G;refine ba ?_;refine .k1 (F::[]) [] H (rs:=[.tmp 6]) (H':=H) rfl gA eQ cL bC ?_;exact⟨vr (Ql aa bu B a),rfl⟩
      ·intro F E pre R g O;exact O.elim
def Dv{p}(q:(bw p).isSome)(o:lF p t)(a:(t.av.length:Int)=p.av)(m:∀c∈l,1<=c/\c<aJ p):∀f:Fact,ir p l f->aG prog 55 [ab.ew p t,ab.fact f,.ints l] (ab.k7 (di p t l f)):=Fact.l5 λf j h=>abD q o a m h λk g=>j k g (h.P7 k g)
def H6(p:Prog):Fc.bt:=if(bw p).isSome then bS p else⟨[],[]⟩
def H7{p}(h:(bw p).isSome):H6 p=bS p:=if_pos h
theorem Qm{p}:∀(l:List jm) (o:ak),(gZ p l o).isSome=true->∀m∈l,k6 p m.gen=true
 | x::r,o,h,m,a=>by
  rw[gZ] at h;split at h
  ·rename_i c;rw[Bool.and_eq_true] at c;have g:=c.1;simp[qX,Bool.and_eq_true,decide_eq_true_eq] at g;rcases List.mem_cons.1 a with rfl | a
   ·unfold k6;rw[Bool.and_eq_true,decide_eq_true_eq,decide_eq_true_eq];omega
   ·cases bd:(visit p (k4 x) 13 (mr p x) o).2 with
    | none=>rw[bd] at h;cases h
    | some f=>rw[bd] at h;exact Qm r f h m a
  ·cases h
def KR{p}(h:(bw p).isSome){n}(hn:jr p n):k6 p (p.methods.getD n.toNat default).gen=true:=by
 obtain⟨o,a⟩:=Option.isSome_iff_exists.1 h;obtain⟨f,c,_⟩:=(iF a).2.2.2;simp[jr,Bool.and_eq_true,decide_eq_true_eq] at hn;exact Qm _ _ (by rw[c];rfl) _ nm
def H8{p}(q:p.Small):aG prog 88 [ab.prog p] (.bk [ab.world (H6 p),.i (if(bw p).isSome then 0 else 2)]):=by
 intro H;refine aM func88 λB I r=>?_;refine aF ?_;refine bK (λdM=>?_);refine aP ?_;refine ag (.call .k (Dg q)) ?_;refine aF ?_;refine bc (λaf=>?_) λaf=>?_
 ·have a:(bw p).isSome=false:=by cases h:(bw p).isSome with
   | false=>rfl
   | true=>rw[h] at af;simp at af
  have g:H6 p=⟨[],[]⟩:=if_neg (by rw[a];simp);rw[a,g];refine ba ?_;refine .cg (rs:=[.cell 2 86,.tmp 3]) (H':=H) rfl sP (.cons (an.agg (.cons (an.nil 1) (.cons (an.nil 1) .nil))) (.cons (.refl _) .nil)) bC ?_;exact⟨cO,rfl⟩
 ·have a:(bw p).isSome=true:=by cases h:(bw p).isSome with
   | true=>rfl
   | false=>rw[h] at af;simp at af
  have j:=xx a;have l:=j.dr;obtain⟨o,m⟩:=Option.isSome_iff_exists.1 a;have f:=(CZ (iF m).1).2;rw[H7 a,a];refine aT ?_;refine ag (ad.call .k (OO p aa f)) ?_;refine aT ?_;refine aZ.cg (rs:=[.cell 2 86,.tmp 3]) (H':=H) rfl (sP) (c0.refl _) bC ?_;exact⟨cO,rfl⟩
end Go.Proofs.YtodccgailpkgeaaGreat

namespace Go.Eng.dN
open Go.Eng.Fc
structure sl(l:List (Int×ab))(L:ak):Prop where
 ok:lx l
 get:∀s,hz l s=if L.contains s then some (.b true) else none
def sl.nil:sl [] []:=⟨lx.nil,λs=>rfl⟩
def sl.put{l}{L}(h:sl l L){x}(a:fV x):sl (eP l x (.b true)) (L++[x]):=by
 refine⟨h.ok.put a _,λs=>?_⟩;rw[zm,h.get];by_cases e:s=x
 ·rw[if_pos e,e];simp
 ·rw[if_neg e,show (L++[x]).contains s=L.contains s by simp[e]]
abbrev gw(ms:List (Nat×List (Int×ab))):aA:=ms.map λx=>dW x.1 x.2
def p2(p:Prog)(ms:List (Nat×List (Int×ab)))(n:Nat):Prop:=ms.length=n/\∀a,a<n->sl (ms.getD a default).2 ((if eH p a then nv p a else []).map (·.1))
def p2.nil(p):p2 p [] 0:=⟨rfl,λa h=>by omega⟩
def p2.snoc{p}{c}{n g}{l}(h:p2 p c n)(f:sl l ((if eH p n then nv p n else []).map (·.1))):p2 p (c++[(g,l)]) (n+1):=by
 refine⟨by rw[List.length_append,h.1];rfl,λa j=>?_⟩;by_cases e:a<n
 ·rw[List.getD_eq_getElem?_getD,List.getElem?_append_left (by rw[h.1];exact e), <-List.getD_eq_getElem?_getD];exact h.2 a e
 ·obtain rfl:a=n:=by omega
  rw[List.getD_eq_getElem?_getD,List.getElem?_append_right (by rw[h.1];omega),h.1,Nat.sub_self];exact f
def abE{x:bn}(A M H:aA):(x::(A++(M++H))).Perm (A++((M++[x])++H)):=by
 have e:(M++[x])++H=M++(x::H):=by simp
 rw[e, <-List.append_assoc, <-List.append_assoc];exact List.perm_middle.symm
end Go.Eng.dN

namespace Go.Proofs.YtodccgailpkgeaaGreat
open Go.Proofs.Tryz
open Go.Eng
open Go.Eng.Fc
open Go.Eng.dN
variable{a c k:Nat}{l:ak}{t:cI}{q:Nat->Bool}{n:Int}
instance:qT prog 128 (3,4):=⟨ay,ay⟩
abbrev sm(p:Prog)(t:cI)(B S M A D X:ab):bl:=ns t++cM p++cD (bS p)++[B,S,M,A,D,X]
abbrev hG(x:Nat×List (Int×ab)):bl:=[.val (.map (some x.1))]
def abF{p}(h:a<aJ p):ab.gg ((e7 p).take (a+1))= .ai 1 (((e7 p).take a).map (λx=>[ab.du x])++[[ab.du ((e7 p).getD a default)]]):=by
 rw[<-c2 (by rw[qn];exact h)];show ab.ai 1 (List.map _ (_++_))=_;rw[List.map_append];rfl
def abG{p}(h:a<aJ p):ab.bm ((fg p).take (a+1))= .ai 1 (((fg p).take a).map (λx=>[.ints x])++[[.ints (if eH p a then cu p a else [])]]):=by
 rw[<-c2 (by rw[sS];exact h),show (fg p).getD a default=(if eH p a then cu p a else []) from pb _ h];show ab.ai 1 (List.map _ (_++_))=_;rw[List.map_append];rfl
def abH{l:cW}{b:Nat}(h:b<l.length):ab.du (l.take (b+1))= .ai 1 ((l.take b).map (λx=>[ab.b x])++[[.b (l.getD b default)]]):=by
 rw[<-c2 h];show ab.ai 1 (List.map _ (_++_))=_;rw[List.map_append];rfl
def abI(a)(c)(l):gw (a++[(c,l)])=gw a++[dW c l]:=by
 show List.map _ _=_;rw[List.map_append];rfl
def abJ(a)(c)(l):ab.ai 1 ((a++[(c,l)]).map hG)= .ai 1 (a.map hG++[[.val (.map (some c))]]):=by
 rw[List.map_append];rfl
def Dw{p}(h:a<aJ p):jf (bS p) a=true:=Ds.2 ⟨aa,by rw[q6];unfold aJ at h;omega⟩
def abK{p}{a b}(h:a<aJ p)(c:b<aJ p):((e7 p).getD a default).getD b default=iU (bS p) a b:=by
 have:=Qf h (b:=(b:Int)) lz;simpa using this
def map_take{l:List (Int×Int)}{j}(h:j<l.length):(l.take (j+1)).map (·.1)=(l.take j).map (·.1)++[(l.getD j default).1]:=by
 rw[<-c2 h,List.map_append];rfl
def abL{p}{c}(v:eH p c):∀x∈nv p c,fV x.1:=λx z=>by
 obtain⟨B,w,r,m,A,f,l,j,t,g,a,o⟩:=o7 v;obtain⟨s,q,h⟩:=List.mem_filterMap.1 z;cases br:e1 (kR p c) s with
 | none=>rw[br] at h;cases h
 | some n=>rw[br] at h;cases h;exact a s q
def abM{p}{c}(t:eH p c):(nv p c).length<=100000:=by
 obtain⟨w,j,q,m,v,a,l,g,r,f,h,o⟩:=o7 t;have:=List.length_filterMap_le (λs=>(e1 (kR p c) s).map λn=>(s,n)) (cu p c);unfold nv;omega
def abN{p}(f:p.Small){c}(a:eH p c=false):aG prog 91 [ab.prog p,.i c] (.bk [ab.l6 [],.i 2]):=by
 intro H;refine .qC func91 rfl ay rfl rfl λB I g=>?_;refine bR ?_;refine ag (.call .k (HT f c)) ?_;refine aF ?_;refine bc (λaf=>?_) λaf=>?_
 ·refine aI ?_;refine .U9 (rs:=[.tmp 4,.tmp 5]) (H':=H) rfl (.tmp rfl (.tmp rfl (.nil))) (.cons (an.nil 2) (.cons (.refl _) .nil)) bC ?_;exact⟨cO,rfl⟩
 ·simp[a] at af
def abO{p}(a:p.Small)(c):aG prog 91 [ab.prog p,.i c] (.bk [ab.l6 (if eH p c then nv p c else []),.i (if eH p c then 0 else 2)]):=by
 cases bb:eH p c with
 | true=>simpa using abf a bb
 | false=>simpa using abN a bb
def Dx{p:Prog}(M:p.Small)(G:(bw p).isSome)(t:cI)(H:aA):bO prog 42 [ab.prog p,ab.dx t] H (λy V=>∃bx c,y= .bk [.p bx 0,.b true]/\V= .au bx 92 (sm p t (ab.gg (e7 p)) (ab.bm (fg p)) (.ai 1 (c.map hG)) (.val (.map none)) (.val (.map none)) (.b false))::(gw c++H)/\p2 p c (aJ p)) (λ_ _=>False):=by
 refine aM (n:=113) func42 λB I bW=>?_;have hm:=nx G;have Q:=xx G;have hJ:=Q.dr;have W:=Q.world;have T:=H8 M;rw[H7 G,G] at T;refine bE ?_;refine ag (ad.call .k (T)) ?_;refine aF ?_;refine bK (λdc=>?_);refine ax ?_;refine eA 6 ?_;refine aT ?_;refine bc (λaf=>?_) (λaf=>?_)
 ·simp at af
 ·refine aI ?_;refine aj.qD rfl rfl rfl rfl rfl rfl rfl (λbx=>?_);refine c4 ?_;refine aB.le 9 (y:=.i (aJ p)) rfl (an.b4 (by unfold aJ;omega)) ?_;refine ax ?_;refine aB.pJ (b:=bx) (t:=92) 28 1 12 df rfl rfl ?_;refine aB.pJ (b:=bx) (t:=92) 23 1 13 df rfl rfl ?_;refine aB.pJ (b:=bx) (t:=92) 128 1 14 df rfl rfl ?_;refine bo (λm w=>∃(a:Nat) (c:List (Nat×List (Int×ab))) (v B o:Value),w=⟨[(39,.i a),(38,.i (aJ p)),(9,.i (aJ p)),(8,.p bx 0),(2,.ptr (cM p)),(6,.ptr (cD (bS p)))],.own 128 1 o::.own 23 1 B::.own 28 1 v::.au bx 92 (sm p t (.as (ab.gg ((e7 p).take a)) v) (.as (ab.bm ((fg p).take a)) B) (.as (.ai 1 (c.map hG)) o) (.val (.map none)) (.val (.map none)) (.b false))::(gw c++H)⟩/\m=aJ p - a/\a<=aJ p/\p2 p c a) (⟨0,[],_,_,_,rfl,rfl,aa,p2.nil p⟩) ?_;rintro m _ ⟨a,c,v,B,o,rfl,rfl,nV,je⟩;refine ax ?_;refine az (λae=>?_) λae=>?_
  ·have g:a<aJ p:=by omega
   obtain⟨R,J⟩:∃R,R=(e7 p).getD a default:=⟨_,rfl⟩;have a0:R.length=aJ p:=by rw[J,H5 g];simp
   refine oY ?_;refine hh 11 4 1 ?_;refine bo (λm w=>∃(b:Nat) (E:Value),w=⟨[(43,.i b),(42,.i (aJ p)),(11,.as (ab.du (R.take b)) E),(10,.i a),(39,.i a),(38,.i (aJ p)),(9,.i (aJ p)),(8,.p bx 0),(2,.ptr (cM p)),(6,.ptr (cD (bS p)))],.own 4 1 E::.own 128 1 o::.own 23 1 B::.own 28 1 v::.au bx 92 (sm p t (.as (ab.gg ((e7 p).take a)) v) (.as (ab.bm ((fg p).take a)) B) (.as (.ai 1 (c.map hG)) o) (.val (.map none)) (.val (.map none)) (.b false))::(gw c++H)⟩/\m=aJ p - b/\b<=aJ p) (⟨0,_,rfl,rfl,aa⟩) ?_;rintro m _ ⟨b,E,rfl,rfl,a8⟩;refine ax ?_;refine az (λao=>?_) λao=>?_
   ·have r:b<aJ p:=by omega
    have h:=abK g r;rw[<-J] at h;refine eb ?_;refine ag (ad.call .k (aby W (Dw g) (Dw r))) ?_;refine bY ?_;refine aj.cn (x:=.ai 1 [[.b (iU (bS p) a b)]]) rfl rfl rfl (ad.row rfl rfl cC rfl rfl rfl rfl rfl rfl) ?_;refine aj.dJ rfl rfl rfl rfl rfl rfl rfl rfl (an.refl _) (rfl) (λ_=>df) wa wa (λabP=>?_);refine aI ?_;exact aW (⟨b+1,abP,by rw[abH aa,h],rfl,r⟩)
   ·obtain rfl:b=aJ p:=by omega
    have O:R.take (aJ p)=R:=List.take_of_length_le aa;rw[O];refine ax ?_;refine aB.le 11 (y:=ab.du R) rfl (an.e2 _ _) ?_;refine aP ?_;refine aj.cn (x:=.ai 1 [[ab.du R]]) rfl rfl rfl (ad.row rfl rfl cC rfl rfl rfl rfl rfl rfl) ?_;refine aj.dJ rfl rfl rfl rfl rfl rfl rfl rfl (an.refl _) (rfl) (λ_=>df) wa wa (λH9=>?_);refine ba ?_;refine ag (ad.call .k (hasB M a)) ?_;refine eb ?_;refine aj.cn (x:=.ai 1 [[ab.ints (if eH p a then cu p a else [])]]) rfl rfl rfl (ad.row rfl rfl cC rfl rfl rfl rfl rfl rfl) ?_;refine aj.dJ rfl rfl rfl rfl rfl rfl rfl rfl (an.refl _) (rfl) (λ_=>df) wa wa (λIa=>?_);refine aP ?_;refine aj.mkMap rfl rfl rfl rfl (λbp=>?_);refine aP ?_;refine ag (ad.call .k (abO M a)) ?_;refine ba ?_;obtain⟨L,s⟩:∃L,L=(if eH p a then nv p a else []):=⟨_,rfl⟩;rw[<-s];have N:∀x∈L,fV x.1:=λx D=>by
     cases bb:eH p a with
     | true=>rw[s,if_pos bb] at D;exact abL bb x D
     | false=>rw[s,if_neg (by rw[bb];decide)] at D;cases D
    have Z:L.length<=100000:=by
     cases bb:eH p a with
     | true=>rw[s,if_pos bb];exact abM bb
     | false=>rw[s,if_neg (by rw[bb];decide)];exact Nat.zero_le _
    refine aP ?_;refine bo (λm w=>∃(j:Nat) (l:List (Int×ab)),w=⟨[(93,.i j),(92,.i L.length),(91,ab.l6 L),(17,.val (.map (some bp))),(10,.i a),(39,.i a),(38,.i (aJ p)),(9,.i (aJ p)),(8,.p bx 0),(2,.ptr (cM p)),(6,.ptr (cD (bS p)))],dW bp l::.own 4 1 E::.own 128 1 o::.own 23 1 Ia::.own 28 1 H9::.au bx 92 (sm p t (.as (.ai 1 (((e7 p).take a).map (λx=>[ab.du x])++[[ab.du R]])) H9) (.as (.ai 1 (((fg p).take a).map (λx=>[ab.ints x])++[[ab.ints (if eH p a then cu p a else [])]])) Ia) (.as (.ai 1 (c.map hG)) o) (.val (.map none)) (.val (.map none)) (.b false))::(gw c++H)⟩/\m=L.length - j/\j<=L.length/\sl l ((L.take j).map (·.1))) (⟨0,[],rfl,rfl,aa,sl.nil⟩) ?_;rintro m _ ⟨j,l,rfl,rfl,cm,F⟩;refine ax ?_;refine az (λaV=>?_) λaV=>?_
    ·have q:j<L.length:=by omega
     obtain⟨Y,P⟩:∃Y,Y=L.getD j default:=⟨_,rfl⟩;have C:fV Y.1:=N _ (P▸bI q);refine aI ?_;refine bK (λhk=>?_);refine aF ?_;rw[<-P];refine eA 21 ?_;refine aY ?_;refine aj.iu (u':=.b true) rfl rfl (.inl rfl) rfl rfl rfl rfl rfl rfl (an.refl _) (.head _ _ _) F.ok C ?_;refine aP ?_;exact aW (⟨j+1,_,rfl,rfl,q,by rw[map_take q, <-P];exact F.put C⟩)
    ·obtain rfl:j=L.length:=by omega
     rw[List.take_length,s] at F;refine bR ?_;refine aj.cn (x:=.ai 1 [[.val (.map (some bp))]]) rfl rfl rfl (ad.row rfl rfl cC rfl rfl rfl rfl rfl rfl) ?_;refine aj.dJ rfl rfl rfl rfl rfl rfl rfl rfl (an.refl _) (rfl) (λ_=>df) Kv Kv (λabQ=>?_);refine ax ?_;refine aB.perm (abE [_,_,_,_,_] (gw c) H) ?_;refine aY ?_;exact aW (⟨a+1,c++[(bp,l)],H9,Ia,abQ,by rw[abF g, <-J,abG g,abJ,abI],rfl,g,je.snoc F⟩)
  ·obtain rfl:a=aJ p:=by omega
   have X:(e7 p).take (aJ p)=e7 p:=List.take_of_length_le (by rw[qn];exact Nat.le_refl _);have bL:(fg p).take (aJ p)=fg p:=List.take_of_length_le (by rw[sS];exact Nat.le_refl _);rw[X,bL];refine ax ?_;refine aB.Cu (b:=bx) (t:=92) (ds:=sm p t (ab.gg (e7 p)) (ab.bm (fg p)) (.ai 1 (c.map hG)) (.val (.map none)) (.val (.map none)) (.b false)) df (by repeat (first | exact c0.nil | refine c0.cons (.refl _) ?_ | refine c0.cons (an.e2 _ _) ?_)) ?_;refine aP ?_;refine dL [.tmp 4,.tmp 5] (.au bx 92 (sm p t (ab.gg (e7 p)) (ab.bm (fg p)) (.ai 1 (c.map hG)) (.val (.map none)) (.val (.map none)) (.b false))::(gw c++H)) ?_;exact⟨bx,c,rfl,rfl,je⟩
def abR{p}(f:p.Small)(c:(bw p).isSome=false)(t):aG prog 42 [ab.prog p,ab.dx t] (.bk [.val (.pointer none),.b false]):=by
 intro H;refine aM func42 λB I h=>?_;have a:=H8 f;rw[c] at a;refine bE ?_;refine ag (.call .k a) ?_;refine aF ?_;refine bK (λdc=>?_);refine bE ?_;refine bc (λaf=>?_) (λaf=>?_)
 ·refine aI ?_;refine dL [.tmp 4,.tmp 5] (H) ?_;exact⟨cO,rfl⟩
 ·simp at af
def abS(A B C):(bif bif A then B else false then C else false)=(A && B && C):=by cases A <;> cases B <;> rfl
def Qn{m}(k):(bif bif decide (k>=0) then k.tmod 2==0 else false then decide (k<((2^m:Nat):Int)) else false)=ct m k:=by
 rw[abS,ct];by_cases h:0<=k
 ·have a:(k.tmod 2==0)=decide (k%2=0):=by rw[Int.tmod_eq_emod_of_nonneg h];rfl
  have c:((2^m:Nat):Int)=(2:Int)^m:=by simp
  rw[a,c]
 ·have e:decide (k>=0)=false:=by simp;omega
  rw[e];rfl
def tP(p:Prog)(t:cI):Bool:=decide (t.bz.length=p.methods.length) && decide (t.params.length=p.methods.length) && decide (t.nodes.length=p.nodes.length) && decide ((t.av.length:Int)=p.av)
def Ib(a b:Nat):((a:Int) !=(b:Int))= !decide (a=b):=by rw[Bool.eq_iff_iff];simp;omega
def abT(p)(t):(bif bif bif (t.bz.length:Int) !=(p.methods.length:Int) then true else (t.params.length:Int) !=(p.methods.length:Int) then true else (t.nodes.length:Int) !=(p.nodes.length:Int) then true else (t.av.length:Int) !=p.av)= !tP p t:=by
 rw[Ib,Ib,Ib,show ((t.av.length:Int) !=p.av)= !decide ((t.av.length:Int)=p.av) by rw[Bool.eq_iff_iff];simp];unfold tP;cases decide (t.bz.length=p.methods.length) <;> cases decide (t.params.length=p.methods.length) <;> cases decide (t.nodes.length=p.nodes.length) <;> rfl
def Qo{p}:tP p t=true↔t.bz.length=p.methods.length/\t.params.length=p.methods.length/\t.nodes.length=p.nodes.length/\(t.av.length:Int)=p.av:=by simp[tP,and_assoc]
def Ic(p:Prog)(t:cI):Bool:=(List.range t.params.length).all (tB p (aJ p) t)
def Qp(p)(t):iV p t=(tP p t && Ic p t && t.nodes.all (ct (aJ p)) && t.av.all (ct (aJ p))):=rfl
def abU(p)(m)(t)(i):(bif ((t.params.getD i default).length:Int) !=p.cT.getD (p.methods.getD i default).gen.toNat default then true else !((t.params.getD i default).all (ct m)))= !tB p m t i:=by
 unfold tB;rw[bne];cases (((t.params.getD i default).length:Int)==p.cT.getD (p.methods.getD i default).gen.toNat default) <;> rfl
def abV{i}(h:(List.range i).all q)(a:q i=true):(List.range (i+1)).all q=true:=by
 rw[List.range_succ,List.all_append,h,List.all_cons,a];rfl
def abW{n i}(a:i<n)(h:q i=false):(List.range n).all q=false:=by
 rw[List.all_eq_false];exact⟨i,List.mem_range.2 a,wv⟩
def tQ{p}(a:(bw p).isSome){i}(h:i<p.methods.length):0<=(p.methods.getD i default).gen/\(p.methods.getD i default).gen<p.cT.length:=by
 have:=KR a (n:=(i:Int)) (by unfold jr;simp;omega);rw[show ((i:Int)).toNat=i from rfl] at this;simpa only[k6,Bool.and_eq_true,decide_eq_true_eq] using this
def Ie{p}(M A D X):an (.ptr (sm p t (ab.gg (e7 p)) (.bm (fg p)) M A D X)) (ab.ew p t):=
 .ptr (by repeat (first | exact .nil | refine .cons h8 ?_ | refine .cons (λ_ _ v _=>.any v) ?_))
def Ig{p}(c:(bw p).isSome)(t)(k):aG prog 102 [.i k,.ptr [ab.ew p t]] (.b (ct (aJ p) k)):=by
 intro H;refine aM func102 λB I g=>?_;have h:=nx c;have a:=qn p;refine bE ?_;refine gb (λaw=>.div rfl rfl rfl (cl aw) rfl aa (.inr zr)) ?_;refine ba ?_;refine gb (λaw=>.shift rfl rfl rfl rfl (cl aw) aa (mO _ ⟨aa,aa⟩)) ?_;refine ax ?_;refine aC 3 H ?_;exact⟨bq (by rw[a];exact Qn k),rfl⟩
def Ag{f}{g cs}{q}(j:nX prog (.fn f g cs) .i q)(l):aG prog 51 [.ints l,.fn f g cs] (.b (l.all q)):=by
 intro H;refine aM func51 λB I s=>?_;refine .eG (t:=0) rfl λgV=>?_;refine c4 ?_;refine bo (λm o=>∃k:Nat,o=⟨[(9,.i k),(8,.i l.length),(7,.ints l),(1,.fn f g cs)],H⟩/\m=l.length - k/\k<=l.length/\(l.take k).all q=true) ⟨0,rfl,rfl,aS,rfl⟩ ?_;rintro m _ ⟨k,rfl,rfl,v,h⟩;refine ax ?_;refine az (λaf=>?_) λaf=>?_
 ·have a:k<l.length:=by omega
  refine eb ?_;refine .n1 rfl rfl rfl rfl rfl rfl rfl rfl cL (j B _ _) ?_;rintro _ r ⟨rfl,e⟩;replace e:=e.symm;subst e;refine aF ?_;refine bc (λae=>?_) λae=>?_
  ·have ae:q (l.getD k default)=false:=by simpa using ae
   refine bE ?_;refine aC 4 H ?_;exact⟨bq (Pz a ae).symm,rfl⟩
  ·have ae:q (l.getD k default)=true:=by simpa using ae
   refine aP ?_;exact aW ⟨k+1,rfl,rfl,a,Py a h ae⟩
 ·obtain rfl:k=l.length:=by omega
  rw[List.take_length] at h;refine bE ?_;refine aC 4 H ?_;exact⟨bq (by rw[h]),rfl⟩
def Ih{p}(h:(bw p).isSome)(t):aG prog 58 [ab.ew p t] (.b (iV p t)):=by
 intro H;refine aM func58 λB I x=>?_;have a:=Qp p t;refine c4 ?_;refine bP 12 117 ?_;refine oX ?_;refine .dG 14 26 117 rfl aq rfl rfl aq ?_;refine Cy ?_;refine .dG 29 41 117 rfl aq rfl rfl aq ?_;refine Cy ?_;refine .dG 44 55 117 rfl aq rfl rfl aq ?_;refine gL ?_;rw[abT];refine bc (λaf=>?_) λaf=>?_
 ·have af:tP p t=false:=by simpa using af
  refine aP ?_;refine aC 2 H ?_;exact⟨bq (by rw[a,af];rfl),rfl⟩
 ·have af:tP p t=true:=by simpa using af
  obtain⟨q,o,l,s⟩:=Qo.1 af;rw[af,Bool.true_and] at a;refine eb ?_;refine .eG (t:=68) rfl λgV=>?_;refine bo (λm v=>∃i:Nat,v=⟨[(70,.i i),(69,.i t.params.length),(68,.bm t.params),(3,.fn (.func 102) [] [.ptr [ab.ew p t]]),(1,.ptr [ab.ew p t])],H⟩/\m=t.params.length - i/\i<=t.params.length/\(List.range i).all (tB p (aJ p) t)=true) iA ?_;rintro m _ ⟨i,rfl,rfl,z,j⟩;refine ax ?_;refine az (λae=>?_) λae=>?_
  ·have f:i<t.params.length:=by omega
   have r:=tQ h (i:=i) aa;refine c4 ?_;refine bP 18 117 ?_;refine ji ?_;refine bg (lL) ?_;refine bY ?_;refine .dG 20 22 117 rfl aq rfl rfl aq ?_;refine aY ?_;refine aj.db rfl rfl rfl rfl rfl rfl (λaw=>.call (.mk' rfl rfl rfl rfl c9) (Ag (.of (Ig h t)) _)) ?_;refine aY ?_;rw[abU];refine bc (λao=>?_) λao=>?_
   ·have ao:tB p (aJ p) t i=false:=by simpa using ao
    refine bE ?_;refine aC 2 H ?_;exact⟨bq (by rw[a,Ic,abW f ao];rfl),rfl⟩
   ·have ao:tB p (aJ p) t i=true:=by simpa using ao
    refine aP ?_;exact aW ⟨i+1,rfl,rfl,f,abV j ao⟩
  ·obtain rfl:i=t.params.length:=by omega
   have w:Ic p t=true:=j;rw[w,Bool.true_and] at a;refine dk ?_;refine ag (.call .k (Ag (.of (Ig h t)) _)) ?_;refine aP ?_;refine aj.db rfl rfl rfl rfl rfl rfl (λaw=>.call (.mk' rfl rfl rfl rfl c9) (Ag (.of (Ig h t)) _)) ?_;refine aT ?_;refine aC 2 H ?_;exact⟨bq (by rw[a,Bool.cond_false_right]),rfl⟩
def Ii{p}(c:p.Small){t}(a:(bw p).isSome)(ht:iV p t):aG prog 32 [ab.prog p,ab.dx t] (.bk [ab.ew p t,.b true]):=by
 intro H;refine aM func32 λB I j=>?_;refine bR ?_;refine cE .k ((Dx c a t _).b) ?_;rintro _ _ ⟨l,g,rfl,rfl,f⟩;refine ba ?_;refine eA 6 ?_;refine .le 6 (y:=ab.ew p t) rfl (Ie _ _ _ _) ?_;refine aT ?_;refine gb (λaw=>ad.call (.mk' rfl rfl rfl rfl c9) (Ih a t)) ?_;refine aY ?_;refine bc (λaf=>?_) (λaf=>?_)
 ·simp[ht] at af
 ·refine bY ?_;refine aZ.cg (rs:=[.tmp 4,.tmp 5]) (H':=H) rfl (.tmp rfl (.tmp rfl (.nil))) (c0.refl _) (by exact List.sublist_append_right _ _) ?_;exact⟨cO,rfl⟩
def Dy{p}(c:p.Small)(t)(a:(bw p).isSome=false):aG prog 32 [ab.prog p,ab.dx t] (.bk [.val (.pointer none),.b false]):=by
 intro H;refine aM func32 λB I g=>?_;refine bR ?_;refine ag (.call .k (abR c a t)) ?_;refine c4 ?_;refine aj.db rfl rfl rfl rfl rfl rfl (λaw=>(absurd aw aS:ad _ _ _ _ (.b false))) ?_;refine aY ?_;refine bc (λaf=>?_) (λaf=>?_)
 ·refine aI ?_;refine dL [.tmp 4,.tmp 5] (H) ?_;exact⟨cO,rfl⟩
 ·simp at af
def Dz{p}(c:p.Small){t}(a:(bw p).isSome)(ht:iV p t=false):aG prog 32 [ab.prog p,ab.dx t] (.bk [.val (.pointer none),.b false]):=by
 intro H;refine aM func32 λB I j=>?_;refine bR ?_;refine cE .k ((Dx c a t _).b) ?_;rintro _ _ ⟨l,g,rfl,rfl,f⟩;refine ba ?_;refine eA 6 ?_;refine .le 6 (y:=ab.ew p t) rfl (Ie _ _ _ _) ?_;refine aT ?_;refine gb (λaw=>ad.call (.mk' rfl rfl rfl rfl c9) (Ih a t)) ?_;refine aY ?_;refine bc (λaf=>?_) (λaf=>?_)
 ·refine aI ?_;refine aZ.cg (rs:=[.tmp 4,.tmp 5]) (H':=H) rfl (.tmp rfl (.tmp rfl (.nil))) (c0.refl _) (by exact List.sublist_append_right _ _) ?_;exact⟨cO,rfl⟩
 ·simp[ht] at af
def K6{p}(h:jr p n):0<=n/\n<p.methods.length:=by simpa only[jr,Bool.and_eq_true,decide_eq_true_eq] using h
def KQ{p}(h:k6 p n):0<=n/\n<p.cT.length:=by simpa only[k6,Bool.and_eq_true,decide_eq_true_eq] using h
def ki{p}(a:(bw p).isSome):p.methods.length<=1000:=by
 obtain⟨o,c⟩:=Option.isSome_iff_exists.1 a;have:=(iF c).2.1;simp[pW,Bool.and_eq_true,decide_eq_true_eq] at this;omega
def vw(p:Prog)(c:Int):Bool:=decide (c>0) && decide (c<aJ p)
def sn(p:Prog)(t:cI)(n:Int)(l:ak):Bool:=nt p t && jr p n && ((l.length:Int)==sU p n) && l.all (vw p)
def vx(p:Prog)(t:cI)(n:Int)(l:ak):ab:=if sn p t n l then .bk [.b (di p t l (p.methods.getD n.toNat default).fact).1,.b (di p t l (p.methods.getD n.toNat default).fact).2,.i 0] else .bk [.b false,.b false,.i 2]
def Ij{p}(h:iV p t):lF p t/\(t.av.length:Int)=p.av/\tP p t=true:=by
 rw[Qp] at h;simp only[Bool.and_eq_true] at h;exact⟨List.all_eq_true.1 h.2,(Qo.1 h.1.1.1).2.2.2,h.1.1.1⟩
theorem Ik{p}:∀(l:List jm) (o:ak),(gZ p l o).isSome=true->∀m∈l,qY p m=true
 | x::r,o,h,m,a=>by
  rw[gZ] at h;split at h
  ·rename_i c;rw[Bool.and_eq_true] at c;rcases List.mem_cons.1 a with rfl | a
   ·exact c.2
   ·cases bd:(visit p (k4 x) 13 (mr p x) o).2 with
    | none=>rw[bd] at h;cases h
    | some f=>rw[bd] at h;exact Ik r f h m a
  ·cases h
def Ah{p}(g:(bw p).isSome){n}(hn:jr p n){l}(f:(l.length:Int)=sU p n):ir p l (p.methods.getD n.toNat default).fact:=by
 obtain⟨o,h⟩:=Option.isSome_iff_exists.1 g;obtain⟨m,j,_⟩:=(iF h).2.2.2;have c:=hn;simp[jr,Bool.and_eq_true,decide_eq_true_eq] at c;have a:=Ik _ _ (by rw[j];rfl) _ (bI (l:=p.methods) (k:=n.toNat) aa);simp[qY,Bool.and_eq_true,decide_eq_true_eq] at a;exact⟨(tz a.1.2).1,by rw[f];exact a.2⟩
def abX{p}(l:ak):(bif bif bif !true then true else decide (n<0) then true else decide (n>=(p.methods.length:Int)) then true else (l.length:Int) !=p.cT.getD (p.methods.getD n.toNat default).gen.toNat default)= !(jr p n && ((l.length:Int)==sU p n)):=by
 unfold jr sU fG;rw[bne,show decide (n<0)= !decide (n>=0) by rw[Bool.eq_iff_iff];simp,show decide (n>=(p.methods.length:Int))= !decide (n<(p.methods.length:Int)) by rw[Bool.eq_iff_iff];simp];cases decide (n>=0) <;> cases decide (n<(p.methods.length:Int)) <;> rfl
def DA{p}(h:sn p t n l=false):vx p t n l= .bk [.b false,.b false,.i 2]:=if_neg (by rw[h];decide)
def abY{p}{c}:vw p c=true↔1<=c/\c<aJ p:=by unfold vw;simp;omega
def KT(p){n}(h:(!bif bif !true then true else decide (n<0) then true else decide (n>=(p.methods.length:Int)))=true):jr p n=true:=by
 unfold jr;simp at h ⊢;omega
def abZ(p)(t)(c):aG prog 54 [.i c,.ptr [ab.ew p t]] (.b (vw p c)):=by
 intro H;refine aM func54 λB I f=>?_;have a:=qn p;refine nk ?_;refine aC 3 H ?_;exact⟨bq (by rw[a,Bool.cond_false_right];rfl),rfl⟩
def ab0{p}(f:p.Small){t}(c:(bw p).isSome=false)(n)(l):aG prog 31 [ab.prog p,ab.dx t,.i n,.ints l] (vx p t n l):=by
 intro H;refine aM func31 λB I h=>?_;have a:sn p t n l=false:=by unfold sn nt;rw[c];rfl
 refine dk ?_;refine ag (.call .k (Dy f t c)) ?_;refine aF ?_;refine bK (λdM=>?_);refine ax ?_;refine eA 11 ?_;refine .cw mixed ?_;refine GC ?_;refine .dG 7 11 65 rfl aq rfl rfl aq ?_;refine gL ?_;refine .dG 14 26 65 rfl aq rfl rfl aq ?_;refine aP ?_;refine jJ (λaw=>v8) ?_;refine aO ?_;refine jJ (λaw=>v8) ?_;refine aP ?_;refine bc (λaf=>?_) λaf=>?_
 ·refine ba ?_;refine dL [.tmp 8,.tmp 9,.tmp 10] H ?_;exact⟨by rw[DA a];rfl,rfl⟩
 ·simp at af
def ab1{p}(f:p.Small){t}(c:(bw p).isSome)(ht:iV p t=false)(n)(l):aG prog 31 [ab.prog p,ab.dx t,.i n,.ints l] (vx p t n l):=by
 intro H;refine aM func31 λB I h=>?_;have a:sn p t n l=false:=by unfold sn nt;rw[ht,Bool.and_false];rfl
 refine dk ?_;refine ag (.call .k (Dz f c ht)) ?_;refine aF ?_;refine bK (λdM=>?_);refine ax ?_;refine eA 11 ?_;refine .cw mixed ?_;refine GC ?_;refine .dG 7 11 65 rfl aq rfl rfl aq ?_;refine gL ?_;refine .dG 14 26 65 rfl aq rfl rfl aq ?_;refine aP ?_;refine jJ (λaw=>v8) ?_;refine aO ?_;refine jJ (λaw=>v8) ?_;refine aP ?_;refine bc (λaf=>?_) λaf=>?_
 ·refine ba ?_;refine dL [.tmp 8,.tmp 9,.tmp 10] H ?_;exact⟨by rw[DA a];rfl,rfl⟩
 ·simp at af
def ab2{p}(v:p.Small){t}(aH:(bw p).isSome)(ht:iV p t)(n)(l):aG prog 31 [ab.prog p,ab.dx t,.i n,.ints l] (vx p t n l):=by
 intro H;refine aM func31 λB I w=>?_;obtain⟨q,h,_⟩:=Ij ht;have g:sn p t n l=(jr p n && ((l.length:Int)==sU p n) && l.all (vw p)):=by unfold sn nt;rw[aH,ht];rfl
 refine dk ?_;refine ag (.call .k (Ii v aH ht)) ?_;refine aF ?_;refine bK (λdM=>?_);refine ax ?_;refine eA 11 ?_;refine .cw mixed ?_;refine GC ?_;refine .dG 7 11 65 rfl aq rfl rfl aq ?_;refine gL ?_;refine .dG 14 26 65 rfl aq rfl rfl aq ?_;refine aP ?_;refine jJ (λaw=>(by first | exact .fC rfl rfl (cl aw) rfl (cl aw) ⟨Bx,Bx⟩ | exact .ep rfl rfl (cl aw) rfl (cl aw) ⟨Bx,Bx⟩)) ?_;refine aO ?_;refine jJ (λaw=>(by first | exact .fC rfl rfl (cl aw) rfl (cl aw) ⟨Bo,Bo⟩ | exact .ep rfl rfl (cl aw) rfl (cl aw) ⟨Bo,Bo⟩)) ?_;refine aP ?_;rw[abX];refine bc (λaf=>?_) λaf=>?_
 ·rw[Bool.not_eq_true'] at af;refine ba ?_;refine dL [.tmp 8,.tmp 9,.tmp 10] H ?_;exact⟨by rw[DA (by rw[g,af];rfl)];rfl,rfl⟩
 ·have af:(jr p n && ((l.length:Int)==sU p n))=true:=by simpa using af
  rw[af,Bool.true_and] at g;rw[Bool.and_eq_true,beq_iff_eq] at af;obtain⟨o,m⟩:=af;have s:=K6 o;refine aP ?_;refine ag (.call .k (Ag (.of (abZ p t)) _)) ?_;refine aF ?_;refine bc (λae=>?_) λae=>?_
  ·have ae:l.all (vw p)=false:=by simpa using ae
   refine ba ?_;refine dL [.tmp 8,.tmp 9,.tmp 10] H ?_;exact⟨by rw[DA (by rw[g,ae])];rfl,rfl⟩
  ·have ae:l.all (vw p)=true:=by simpa using ae
   rw[ae] at g;have j:∀c∈l,1<=c/\c<aJ p:=λc r=>abY.1 (List.all_eq_true.1 ae c r);refine aF ?_;refine bP 8 65 ?_;refine aY ?_;refine bg (lL) ?_;refine aT ?_;refine ag (.call .k (Dv aH q h j _ (Ah aH o m))) ?_;refine ax ?_;refine ag zy ?_;refine aR ?_;refine ag (.call .k ((Dq _))) ?_;refine ax ?_;refine dL [.tmp 8,.tmp 9,.tmp 10] H ?_;exact⟨by rw[vx,if_pos g];rfl,rfl⟩
def ab3{p}(a:p.Small)(t)(n)(l):aG prog 31 [ab.prog p,ab.dx t,.i n,.ints l] (vx p t n l):=by
 cases aH:(bw p).isSome with
 | false=>exact ab0 a aH n l
 | true=>
  cases ht:iV p t with
  | false=>exact ab1 a aH ht n l
  | true=>exact ab2 a aH ht n l
def so(k c:Nat)(a:k<9223372036854775808):aG prog 84 [.i k,.i c] (.b (k.testBit c)):=by
 intro H;refine aM func84 λB I f=>?_;refine ba ?_;refine ag (.shift rfl rfl rfl rfl rfl aa (HZ k c)) ?_;refine ag (.bits rfl rfl rfl rfl rfl (HY _ 1 (by have:=Nat.div_le_self k (2^min (c:Int).toNat 64);omega) c8)) ?_;refine aT ?_;refine aC 4 H ?_;exact⟨bq (P3 k c a),rfl⟩
def ab4{p}(a:(bw p).isSome){c}(j:c<aJ p){s}(m:0<=s/\s<p.av):(bif decide ((c:Int)>=3) then iU (bS p) c ((bS p).owner.getD s.toNat default) else false)=dT p c s:=by
 obtain⟨o,h⟩:=Option.isSome_iff_exists.1 a;have f:=oh.of (iF h).1;have l:=Du a;unfold dT;by_cases g:3<=c
 ·rw[show decide ((c:Int)>=3)=true by simp;omega,show decide (3<=c)=true by simp[g],Hy f aa (by unfold aJ at j;omega),PE];rw[show decide (0<=s)=true by simp;omega,show decide (s<((bS p).owner.length:Int))=true by simp;omega];rfl
 ·rw[show decide ((c:Int)>=3)=false by simp;omega,show decide (3<=c)=false by simp;omega];rfl
def Il{p}(f:(bw p).isSome){c}(g:c<aJ p){s}(j:0<=s/\s<p.av):aG prog 85 [ab.world (bS p),.i c,.i s] (.b (dT p c s)):=by
 intro H;refine aM func85 λB I o=>?_;have h:=(xx f).world;have l:=Du f;have m:=Px h (s:=s.toNat) aa;refine aP ?_;refine .cw mixed ?_;refine bR ?_;refine .dG 3 10 19 rfl aq rfl rfl aq ?_;refine aT ?_;refine jJ (λaw=>KC) ?_;refine aF ?_;refine aj.db rfl rfl rfl rfl rfl rfl (λaw=>.call (.mk' rfl rfl rfl rfl c9) (HC h (a:=c) (b:=((bS p).owner.getD s.toNat default)) (Dw g) EZ)) ?_;refine aT ?_;refine aC 6 H ?_;exact⟨bq (ab4 f g j),rfl⟩
def Qq{p}(h:lF p t){c:Nat}(a:1<=c):∀path:ak,(kb p t c path).1.testBit 0=false:=λpath=>by
 rcases List.eq_nil_or_concat path with rfl | ⟨q,s,rfl⟩
 ·show (2^((c:Int).toNat)).testBit 0=false;rw[Nat.testBit_two_pow];simp;omega
 ·rw[List.concat_eq_append,H3];unfold nu;split
  ·exact (Dm h _).2.2
  ·exact Nat.zero_testBit 0
def Im(h:k.testBit 0=false):eN k 1= []:=by rw[tK,h];rfl
def Io(h:k.testBit c=false):eN k (c+1)=eN k c:=by rw[tK,h];simp
def Ai(h:k.testBit c=true):eN k (c+1)=eN k c++[c]:=by rw[tK,h];simp
def Qr{p}{s}(h:k.testBit c=true)(g:dT p c s)(b):iX p t s (eN k c) ||| (t.av.getD s.toNat default).toNat=iX p t s (eN k (c+1))/\k8 p s b (eN k c)=k8 p s b (eN k (c+1)):=by
 rw[Ai h];unfold iX k8;rw[List.any_append,List.any_append,List.any_cons,List.any_cons,g];refine⟨?_,aS⟩;rw[Bool.true_or,Bool.or_true,if_pos rfl];split <;> simp
def Qs{p}{s}(h:k.testBit c=true)(a:dT p c s=false)(b):iX p t s (eN k c)=iX p t s (eN k (c+1))/\true=k8 p s b (eN k (c+1)):=by
 rw[Ai h];unfold iX k8;rw[List.any_append,List.any_append,List.any_cons,List.any_cons,a];exact⟨aS,aS⟩
def ab5{p:Prog}(z:(bw p).isSome)(w:lF p t)(G:(t.av.length:Int)=p.av){c:Nat}(F:1<=c/\c<aJ p){path:ak}(j:∀s∈path,0<=s/\s<p.av):aG prog 164 [ab.world (bS p),ab.dx t,.i c,ab.ints path] (.agg [.i (kb p t c path).1,.b (kb p t c path).2]):=by
 intro H;refine aM (n:=60) func164 λB I P=>?_;have R:=nx z;have L:=o8 z;have C:=q6 p;have O:((bS p).parents.length:Int)+3=aJ p:=by rw[C];unfold aJ;omega
 refine aB.eG (t:=3) rfl (λakJ=>?_);refine aY ?_;refine bK (λdF=>?_);refine aT ?_;refine ag (ad.shift rfl rfl rfl rfl rfl aa (mO c ⟨aa,aa⟩)) ?_;refine aR ?_;refine bK (λff=>?_);refine bY ?_;refine bo (λm A=>∃(i:Nat) (k:Nat×Bool),A=⟨[(10,.i i),(9,.p ff 0),(8,.p dF 0),(3,ab.ints path),(4,.ptr (cD (bS p))),(5,.ptr (ns t))],.au ff 205 [.i k.1,.b k.2]::.au dF 205 [.val aX,.val (.bool false)]::H⟩/\m=path.length - i/\i<=path.length/\k=kb p t c (path.take i)) (⟨0,(2^c,false),rfl,rfl,aa,rfl⟩) ?_;rintro m _ ⟨i,k,rfl,rfl,Q,r⟩;refine ba ?_;refine az (λaf=>?_) λaf=>?_
 ·have h:i<path.length:=by omega
  have a:k.1<2^aJ p:=by rw[r];exact Dn w (by simpa using F.2) _
  have x:k.1.testBit 0=false:=by rw[r];exact Qq w F.1 _
  have q:=Qi j h;have l:=Qj p t c h;rw[<-r] at l;obtain⟨s,o⟩:∃s,s=path.getD i default:=⟨_,rfl⟩;rw[<-o] at q l;have B:=Dm w s.toNat;have fl:iX p t s (eN k.1 1)=0/\k8 p s k.2 (eN k.1 1)=k.2:=by rw[Im x];exact⟨rfl,Bool.or_false _⟩
  refine ba ?_;refine bK (λnb=>?_);refine bY ?_;refine bo (λm A=>∃d:Nat,A=⟨[(12,.i d),(11,.p nb 0),(10,.i i),(9,.p ff 0),(8,.p dF 0),(3,ab.ints path),(4,.ptr (cD (bS p))),(5,.ptr (ns t))],.au nb 205 [.i (iX p t s (eN k.1 d)),.b (k8 p s k.2 (eN k.1 d))]::.au ff 205 [.i k.1,.b k.2]::.au dF 205 [.val aX,.val (.bool false)]::H⟩/\m=aJ p - d/\1<=d/\d<=aJ p) (⟨1,by rw[fl.1,fl.2],rfl,aa,aa⟩) ?_;rintro m _ ⟨d,rfl,rfl,M,S⟩;refine bE ?_;refine az (λae=>?_) λae=>?_
  ·have f:d<aJ p:=by omega
   refine bY ?_;refine ag (ad.call .k (so k.1 d aa)) ?_;refine aF ?_;refine bc (λao=>?_) (λao=>?_)
   ·have ao:k.1.testBit d=false:=by simpa using ao
    refine ba ?_;exact aW (⟨d+1,by rw[Io ao],rfl,aa,f⟩)
   ·have ao:k.1.testBit d=true:=by simpa using ao
    refine aF ?_;refine bP 6 60 ?_;refine aT ?_;refine bg (ad.le (ad.cF rfl rfl rfl rfl) (an.b4 o.symm)) ?_;refine aO ?_;refine ag (ad.call .k (Il z f q)) ?_;refine aO ?_;refine bc (λaV=>?_) (λaV=>?_)
    ·refine bP 10 60 ?_;refine aP ?_;refine bg (ad.le (ad.cF rfl rfl rfl rfl) (an.b4 o.symm)) ?_;refine bg (lL) ?_;refine bg (ad.le (ad.cF rfl rfl rfl rfl) (an.b4 B.1)) ?_;refine aO ?_;refine ag (ad.bits rfl rfl rfl rfl rfl (kg _ _ (by unfold iX;split <;> omega) aa)) ?_;refine bY ?_;exact aW (⟨d+1,by rw[<-(Qr ao aV k.2).1, <-(Qr (t:=t) ao aV k.2).2],rfl,aa,f⟩)
    ·refine bE ?_;exact aW (⟨d+1,by rw[<-(Qs ao aV k.2).1, <-(Qs (t:=t) ao aV k.2).2],rfl,aa,f⟩)
  ·obtain rfl:d=aJ p:=by omega
   have N:iX p t s (eN k.1 (aJ p))=(nu p t s k).1:=by rw[Ac a aa,Dp a aa];rfl
   have K:k8 p s k.2 (eN k.1 (aJ p))=(nu p t s k).2:=by rw[Ac a aa,Dp a aa];rfl
   rw[N,K];refine ji ?_;exact aW (⟨i+1,nu p t s k,rfl,rfl,h,l.symm⟩)
 ·obtain rfl:i=path.length:=by omega
  rw[List.take_length] at r;rw[<-r];refine bR ?_;refine dL [.cell 8 205] (H) ?_;exact⟨cO,rfl⟩
def ab6(x y):iy [.b (bif x.1 then y.1 else false),.b (bif bif bif x.1 then y.2 else false then true else bif x.2 then y.1 else false then true else bif x.2 then y.2 else false)]= .bk [.b (Ad x y).1,.b (Ad x y).2]:=by
 obtain⟨a,b⟩:=x;obtain⟨c,d⟩:=y;cases a <;> cases b <;> cases c <;> cases d <;> rfl
def ab7(x y):iy [.b (bif bif bif x.1 then y.1 else false then true else bif x.1 then y.2 else false then true else bif x.2 then y.1 else false),.b (bif x.2 then y.2 else false)]= .bk [.b (Dl x y).1,.b (Dl x y).2]:=by
 obtain⟨a,b⟩:=x;obtain⟨c,d⟩:=y;cases a <;> cases b <;> cases c <;> cases d <;> rfl
def ab8{p}{f}(a:f.op≠1)(j:f.op≠5)(h:f.op≠6)(g:f.op≠7)(c:f.op≠2){k}(m:k=kb p t (l.getD f.arg.toNat default) f.path):iy [.b (k.1.testBit 1),.b (bif ((k.1:Int) !=0) then true else k.2)]= .bk [.b (di p t l f).1,.b (di p t l f).2]:=by
 rw[<-Qk a j h g c m];show ab.bk _=_;cases k.2 <;> cases ((k.1:Int) !=0) <;> rfl
def Qt(p)(c)(b)(pre)(x:Nat):oq p c b (pre++[x])=((oq p c b pre).1 || iU (bS p) x c,(oq p c b pre).2 || !iU (bS p) x c):=by
 unfold oq;rw[List.any_append,List.any_append,List.any_cons,List.any_cons,List.any_nil,List.any_nil,Bool.or_false,Bool.or_false,Bool.or_assoc]
def ab9{p}(v:(bw p).isSome)(F:lF p t)(D:(t.av.length:Int)=p.av)(Y:∀c∈l,1<=c/\c<aJ p){f}(q:ir p l f)(w:∀k∈f.kids,aG prog 122 [ab.world (bS p),ab.dx t,ab.fact k,.ints l] (.bk [.b (di p t l k).1,.b (di p t l k).2])):aG prog 122 [ab.world (bS p),ab.dx t,ab.fact f,.ints l] (.bk [.b (di p t l f).1,.b (di p t l f).2]):=by
 intro H;refine aM func122 λB I bW=>?_;have hm:=nx v;have Z:=o8 v;have G:=q6 p;have X:((bS p).parents.length:Int)+3=aJ p:=by rw[G];unfold aJ;omega
 have W:=(xx v).world;refine oY ?_;refine az (λaf=>?_) λaf=>?_
 ·refine ba ?_;refine dL [.tmp 8,.tmp 9] H ?_;exact⟨by rw[P8 af];rfl,rfl⟩
 ·refine ax ?_;refine az (λae=>?_) λae=>?_
  ·have E:=q.ops.1 ae;refine aR ?_;refine bP 7 175 ?_;refine ba ?_;refine ag (.call .k (w _ nm)) ?_;refine ax ?_;refine .dG 9 12 175 rfl aq rfl rfl aq ?_;refine uV ?_;refine dL [.tmp 8,.tmp 9] H ?_;exact⟨by rw[P9 ae E];rfl,rfl⟩
  ·refine ax ?_;refine az (λao=>?_) λao=>?_
   ·have j:=q.ops.2.1 (.inl ao);refine aR ?_;refine bP 7 175 ?_;refine ba ?_;refine ag (.call .k (w _ nm)) ?_;refine ax ?_;refine .dG 9 12 175 rfl aq rfl rfl aq ?_;refine ba ?_;refine bP 7 175 ?_;refine ba ?_;refine ag (.call .k (w _ nm)) ?_;refine ax ?_;refine .dG 9 12 175 rfl aq rfl rfl aq ?_;refine MQ ?_;refine dL [.tmp 8,.tmp 9] H ?_;exact⟨by rw[Qa ao j];exact ab6 _ _,rfl⟩
   ·refine ax ?_;refine az (λaV=>?_) λaV=>?_
    ·have j:=q.ops.2.1 (.inr aV);refine aR ?_;refine bP 7 175 ?_;refine ba ?_;refine ag (.call .k (w _ nm)) ?_;refine ax ?_;refine .dG 9 12 175 rfl aq rfl rfl aq ?_;refine ba ?_;refine bP 7 175 ?_;refine ba ?_;refine ag (.call .k (w _ nm)) ?_;refine ax ?_;refine .dG 9 12 175 rfl aq rfl rfl aq ?_;refine MQ ?_;refine dL [.tmp 8,.tmp 9] H ?_;exact⟨by rw[Qb aV j];exact ab7 _ _,rfl⟩
    ·have C:=q.ops.2.2 af ae ao aV;obtain⟨nV,x,_,J⟩:=q.leaf C;have V:=Y _ (bI (k:=f.arg.toNat) (l:=l) aa);obtain⟨c,P⟩:∃c:Nat,l.getD f.arg.toNat default=c:=⟨(l.getD f.arg.toNat default).toNat,aa⟩;have T:=Du v;have o:aG prog 164 [ab.world (bS p),ab.dx t,.i c,.ints f.path] _:=ab5 v F D ⟨aa,aa⟩ (λs h=>⟨(x s h).1,by have:=(x s h).2;omega⟩);obtain⟨k,r⟩:∃k,k=kb p t (l.getD f.arg.toNat default) f.path:=iO;have g:k.1<2^aJ p:=by rw[r];exact Dn F aa _
     have z:k.1.testBit 0=false:=by rw[r,P];exact Qq F aa _
     rw[<-P, <-r] at o;refine aY ?_;refine .cw mixed ?_;refine .za [⟨10,20,205,[aX,.bool false],11,[.i k.1,.b k.2]⟩] 0 12 175 rfl aq ay rfl rfl aq ?_;refine dD (nK) ?_;refine dD (nK) ?_;refine dD oZ ?_;refine dD (b5) ?_;refine dD (cJ) ?_;refine dD (lL) ?_;refine dD (cJ) ?_;refine dD (b5) ?_;refine dD (cJ) ?_;refine dD (.call .k o) ?_;refine .wX [] [] ⟨10,20,205,[aX,.bool false],11,[.i k.1,.b k.2]⟩ rfl ⟨0,12,ay⟩ rfl rfl rfl rfl rfl rfl rfl ?_;refine .wY [] [] ⟨10,20,205,[aX,.bool false],11,[.i k.1,.b k.2]⟩ rfl ⟨0,12,ay⟩ rfl rfl rfl (λb H1 H2 R=>.store rfl rfl rfl rfl rfl rfl rfl rfl R e9 e9) ?_;refine .nil λdR=>?_;simp[List.map_cons,List.map_nil,List.cons_append,List.nil_append];refine .done rfl ?_;refine aF ?_;refine eA 20 ?_;refine ax ?_;refine az (λbu=>?_) λbu=>?_
     ·refine aR ?_;refine bP 6 175 ?_;refine aO ?_;refine bg (.call .k (so _ 1 aa)) ?_;refine aI ?_;refine .dG 7 11 175 rfl aq rfl rfl aq ?_;refine bE ?_;refine dL [.tmp 8,.tmp 9] H ?_;exact⟨ab8 af ae ao aV bu r,rfl⟩
     ·have N:=J bu;have B:jf (bS p) f.cls=true:=Ds.2 lz;refine aF ?_;refine bP 3 175 ?_;refine eb ?_;refine bo (λm S=>∃(d:Nat) (y:Bool×Bool),S=⟨[(23,.i d),(21,.b y.1),(22,.b y.2),(20,.ptr [.i k.1,.b k.2]),(4,.ptr (cD (bS p))),(6,.ptr (fy f))],H⟩/\m=aJ p - d/\1<=d/\d<=aJ p/\y=oq p f.cls k.2 (eN k.1 d)) (⟨1,(false,k.2),rfl,rfl,aa,aa,by rw[Im z];simp[oq]⟩) ?_;rintro m _ ⟨d,y,rfl,rfl,U,a6,hy⟩;refine bE ?_;refine az (λcr=>?_) λcr=>?_
      ·have a:d<aJ p:=by omega
       refine ba ?_;refine ag (.call .k (so k.1 d aa)) ?_;refine aO ?_;refine bc (λdK=>?_) λdK=>?_
       ·refine ax ?_;refine ag (.call .k (HC W (Dw a) B)) ?_;refine aO ?_;refine bc (λdA=>?_) λdA=>?_
        ·refine bY ?_;exact aW (⟨d+1,(true,y.2),rfl,rfl,aa,a,by rw[Ai dK,Qt, <-hy,dA];simp⟩)
        ·refine bY ?_;exact aW (⟨d+1,(y.1,true),rfl,rfl,aa,a,by rw[Ai dK,Qt, <-hy,dA];simp⟩)
       ·refine aI ?_;exact aW ⟨d+1,y,rfl,rfl,aa,a,by rw[Io dK];exact hy⟩
      ·obtain rfl:d=aJ p:=by omega
       rw[Ac g aa,Ql aa bu r g] at hy;refine c4 ?_;refine dL [.tmp 8,.tmp 9] H ?_;exact⟨by rw[<-hy];rfl,rfl⟩
def aca{p}(q:(bw p).isSome)(o:lF p t)(a:(t.av.length:Int)=p.av)(m:∀c∈l,1<=c/\c<aJ p):∀f:Fact,ir p l f->aG prog 122 [ab.world (bS p),ab.dx t,ab.fact f,.ints l] (.bk [.b (di p t l f).1,.b (di p t l f).2]):=Fact.l5 λf j h=>ab9 q o a m h λk g=>j k g (h.P7 k g)
end Go.Proofs.YtodccgailpkgeaaGreat

