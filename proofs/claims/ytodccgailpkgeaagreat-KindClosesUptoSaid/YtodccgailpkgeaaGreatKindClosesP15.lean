/- A part of the proof. No condition. -/
import Derived.Test.YtodccgailpkgeaaGreatKindClosesP14
set_option linter.defProp false
set_option maxHeartbeats 1000000
set_option linter.unusedVariables false
set_option linter.unusedSimpArgs false
set_option maxRecDepth 10000
namespace Go.Proofs.YtodccgailpkgeaaGreat
open Go.Proofs.Tryz
open Go.Eng
open Go.Eng.Fc
open Go.Eng.dO
variable{U pre:du}{W:Fc.bx}{t:cv}{x:Nat}{l:al}
def e8(p:Prog):List cY:=(List.range (aG p)).map λ(a:Nat)=>(List.range (aG p)).map λ(b:Nat)=>jg (bR p) a b
def fh(p:Prog):List al:=(List.range (aG p)).map λ(a:Nat)=>if eJ p a then cw p a else []
abbrev ab.gz(l:List cY):ab:=.aj 1 (l.map λx=>[ab.dy x])
abbrev QC(p:Prog)(t:cv):bl:=jU t++cH p++cB (bR p)++[ab.gz (e8 p),ab.bp (fh p),.any,.any,.any,.any]
abbrev ab.ew(p:Prog)(t:cv):ab:=.ptr (QC p t)
def s6(p):(fh p).length=aG p:=by simp[fh]
def qx(p):(e8 p).length=aG p:=by simp[e8]
def po{c:Type}[Inhabited c](f:Nat->c){n i}(h:i<n):((List.range n).map f).getD i default=f i:=by
 rw[List.getD_eq_getElem?_getD,List.getElem?_map,List.getElem?_range h];rfl
def Ik{p}{a}(h:a<aG p):(e8 p).getD a default=(List.range (aG p)).map λ(b:Nat)=>jg (bR p) a b:=po _ h
def QD{p}{a}{b:Int}(h:a<aG p)(c:0<=b/\b<aG p):((e8 p).getD a default).getD b.toNat default=jg (bR p) a b:=by
 rw[Ik h,po _ aa];congr 1;omega
def acf{p}(f:(bu p).isSome){a}(h:a<aG p)(s):((fh p).getD a default).contains s=dK p a s:=by
 rw[fh,po _ h,dK,eJ,f,Bool.and_true];have e:decide ((a:Int)<3+p.aF.length)=true:=by unfold aG at h;simp;omega
 rw[e,Bool.and_true];by_cases c:3<=a
 ·rw[if_pos cF];simp[c]
 ·rw[if_neg cF];simp[c]
def acg(s)(c)(a:0<=c)(f:s<18446744073709551616):aI prog 137 [ab.set s,.i c] (.b (s.testBit c.toNat)):=by
 intro H;refine aM func137 λB I g=>?_;refine a8 ?_;refine ag (.shift rfl rfl rfl rfl rfl a (No s c)) ?_;refine ag (.bits rfl rfl rfl rfl rfl (zH _ 1 (by have:=Nat.div_le_self s (2^min c.toNat 64);omega) c8)) ?_;refine aS ?_;refine aB 4 H ?_;exact⟨bn (GR s c f),rfl⟩
theorem QE:∀(l:List al) (i:Nat) (U:du),(hB l i U).length=U.length
 | [],_,_=>rfl
 | x::r,i,U=>by rw[hB,QE r];simp
def ach(W):(mN W).length=63:=by rw[mN,QE];rfl
def aci(f:∀x∈U,x<18446744073709551616){i}(g:i<61)(l):pd U i l<18446744073709551616:=by
 unfold pd;have:∀(l:al) (s:Nat),s<18446744073709551616->l.foldl (λs (p:Int)=>s ||| U.getD p.toNat 0) s<18446744073709551616:=by
  intro l
  induction l with
  | nil=>intro s a;exact a
  | cons p r c=>intro s a;exact c _ (mj a (vm f _))
 exact this l _ (mj aa (re aa))
theorem QF:∀(l:List al) (i:Nat) (U:du),i+l.length<=61->(∀x∈U,x<18446744073709551616)->∀x∈hB l i U,x<18446744073709551616
 | [],_,_,_,h=>h
 | y::r,i,U,a,h=>by
  rw[hB];simp[List.length_cons] at a;exact QF r (i+1) _ aa (HD h (aci h aa y))
def acj{W}(h:W.parents.length<=60):∀x∈mN W,x<18446744073709551616:=QF _ _ _ aa c8
def ack{c}(h:c<U.length):(List.drop (c*1) (List.drop 2 (cB W++U.map λs=>ab.set s)))[0]? =some (ab.set (U.getD c 0)):=by
 rw[Nat.mul_one,List.drop_drop,List.getElem?_drop];exact HB (W:=W) (U:=U) (i:=c) h
def DB{c}:jr W c=true↔0<=c/\c<3+W.parents.length:=by simp[jr]
def acm(g:cy W){a b}(l:jr W a)(j:jr W b):aI prog 89 [ab.world W,.i a,.i b] (.bj [.b (jg W a b),.i 0]):=by
 intro H;refine aM func89 λB I r=>?_;have h:W.parents.length<=60:=by simp[cy,Bool.and_eq_true,decide_eq_true_eq] at g;exact g.1.1.1
 have m:=DB.1 l;have o:=DB.1 j;have f:=acj h;refine bQ ?_;refine ag (.call .k (Pu g)) ?_;refine dW ?_;refine gw (λav=>.call (.mk' rfl rfl rfl rfl cU) (Hz W a h)) ?_;refine aS ?_;refine ai.cG rfl rfl rfl rfl rfl rfl (λav=>ad.call (.mk' rfl rfl rfl rfl cU) (Hz W b h)) ?_;refine aV ?_;refine bc (λaf=>?_) (λaf=>?_)
 ·simp[l,j] at af
 ·refine aJ ?_;refine ag (K3) ?_;refine ag (ad.cE rfl rfl rfl (ack (c:=a.toNat) (by rw[ach];omega))) ?_;refine aR ?_;refine ag (ad.call .k (acg _ b aa (vm f _))) ?_;refine aS ?_;refine dM [.tmp 6,.tmp 7] (H) ?_;exact⟨cM,rfl⟩
def Ao{p}(t)(f:(bu p).isSome){c}(a:c<aG p)(s):aI prog 38 [ab.ew p t,.i c,.i s] (.b (dK p c s)):=by
 intro H;refine aM func38 λB I g=>?_;refine bS ?_;refine ag ((by first | exact .fC rfl rfl rfl rfl rfl (by rw[s6];exact a) | exact .ep rfl rfl rfl rfl rfl (by rw[s6];exact a))) ?_;refine aQ ?_;refine ag (.call .k ((z8 _ _))) ?_;refine aV ?_;refine aB 6 H ?_;exact⟨bn (acf f a s),rfl⟩
def jh(p:Prog)(t:cv)(s:Int)(pre:du):Nat:=if pre.any (λc=>dK p c s) then (t.aw.getD s.toNat default).toNat else 0
def lq(p:Prog)(s:Int)(b:Bool)(pre:du):Bool:=b || pre.any λc=>!dK p c s
abbrev DC(p:Prog)(t:cv)(s:Int)(b:Bool)(bz nb:Nat)(pre:du):aC:=[.au bz 3 [.i (jh p t s pre)],.au nb 4 [.b (lq p s b pre)]]
def acn{p}{s}{b}{g nb x}(h:dK p x s): [.au g 3 [.i ((jh p t s pre ||| (t.aw.getD s.toNat default).toNat:Nat):Int)],.au nb 4 [.b (lq p s b pre)]]=DC p t s b g nb (pre++[x]):=by
 have l:jh p t s pre ||| (t.aw.getD s.toNat default).toNat=jh p t s (pre++[x]):=by
  unfold jh;rw[List.any_append,List.any_cons,h,Bool.true_or,Bool.or_true,if_pos rfl];split <;> simp
 have j:lq p s b pre=lq p s b (pre++[x]):=by unfold lq;rw[List.any_append,List.any_cons,h];simp
 rw[l,j]
def aco{p}{s}{b}{f nb x}(h:dK p x s=false): [.au f 3 [.i (jh p t s pre)],.au nb 4 [.b true]]=DC p t s b f nb (pre++[x]):=by
 have j:jh p t s pre=jh p t s (pre++[x]):=by
  unfold jh;rw[List.any_append,List.any_cons,h];simp
 have g:true=lq p s b (pre++[x]):=by unfold lq;rw[List.any_append,List.any_cons,h];simp
 show _= [br.au f 3 [.i (jh p t s (pre++[x]))],br.au nb 4 [.b (lq p s b (pre++[x]))]];rw[<-j, <-g]
def QG{p:Prog}{path:al}(h:∀s∈path,0<=s/\s<p.aw){i}(a:i<path.length):0<=path.getD i default/\path.getD i default<p.aw:=h _ (bH a)
def QH(p)(t)(c){path:al}{i:Nat}(a:i<path.length):kp p t c (path.take (i+1))=nF p t (path.getD i default) (kp p t c (path.take i)):=by rw[<-c3 a,Ii]
def acp{p}(aD:(bu p).isSome)(J:ln p t)(M:(t.aw.length:Int)=p.aw){c}(P:c<aG p){path}(l:∀s∈path,0<=s/\s<p.aw):aI prog 101 [ab.ew p t,.i c,.ints path] (.bj [.i (kp p t c path).1,.b (kp p t c path).2]):=by
 intro H;refine .qK func101 rfl ax rfl rfl λB I Y=>?_;have hm:=mm aD;have T:=oA aD;refine aV ?_;refine bT (λnb=>?_);refine aS ?_;refine ag (.shift rfl rfl rfl rfl rfl aa (ml c lK)) ?_;refine bS ?_;refine .ez (t:=14) rfl λalA=>?_;refine .zw (λm R=>∃(i:Nat) (k:Nat×Bool),R=⟨[(16,.i i),(15,.i path.length),(14,.ints path),(6,.i k.1),(7,.p nb 0),(3,.ptr [ab.ew p t])],[.au nb 4 [.b k.2]]⟩/\m=path.length - i/\i<=path.length/\k=kp p t c (path.take i)) [] H ⟨_,_,⟨0,(2^c,false),rfl,rfl,aa,rfl⟩,h1,gE⟩ ?_;intro f;rintro m _ ⟨i,k,rfl,rfl,aN,A⟩;refine ay ?_;refine az (λaf=>?_) λaf=>?_
 ·have j:i<path.length:=by omega
  have a:k.1<2^aG p:=by rw[A];exact Dx J (by simpa using P) _
  have E:=QG l j;have o:=QH p t c j;rw[<-A] at o;obtain⟨s,q⟩:∃s,s=path.getD i default:=iZ;rw[<-q] at E o;have C:=Dw J s.toNat;refine aJ ?_;refine bT (λfg=>?_);refine aV ?_;rw[<-q];refine eB 9 ?_;refine aR ?_;refine bT (λbz=>?_);refine aP ?_;refine ag GP ?_;refine aH ?_;refine .weaken (st':=⟨[(10,.p bz 0),(21,.fn (.func 76) [] [.ptr [.i k.1]]),(9,.ptr [.i s]),(16,.i i),(15,.i path.length),(14,.ints path),(6,.i k.1),(7,.p nb 0),(3,.ptr [ab.ew p t])],[.au bz 3 [.i 0],.au nb 4 [.b k.2]]++(gY f++H)⟩) h1 gE ?_;refine .q3 f (λ_ (c:Nat)=>.i c) (λ_ _=>[]) (fP k.1) (λpre H=>H=DC p t s k.2 bz nb pre) (λ_ _ _=>False) ([.au bz 3 [.i 0],.au nb 4 [.b k.2]]) (H) (λ_ x=>[(11,.i x),(22,.i x),(10,.p bz 0),(9,.ptr [.i s]),(7,.p nb 0),(3,.ptr [ab.ew p t])]) rfl rfl rfl rfl ((vx _ aa).b) (by simp[lq,jh]) ?_ ?_ ?_ ?_
  ·intro O S U X x N;refine aH ?_;exact λa w s=>⟨_,rfl,s.weaken (lZ h1) (List.Sublist.refl _)⟩
  ·intro O xC Z pre X x K N S U g F;obtain rfl:=F;have V:x<aG p:=tT a (g.subset aT);refine ay ?_;refine ag (ad.call .k (Ao t aD V s)) ?_;refine aQ ?_;refine bc (λae=>?_) (λae=>?_)
   ·have ae:=ae;refine b0 9 41 ?_;refine aP ?_;refine bh (k1) ?_;refine bh (ad.le (ad.cE rfl rfl rfl rfl) (aq.b6 C.1)) ?_;refine aQ ?_;refine ag (ad.bits rfl rfl rfl rfl rfl (kt _ _ (by unfold jh;split <;> omega) aa)) ?_;refine aH ?_;exact aZ.mH bE (acn ae)
   ·have ae:=ae;refine aV ?_;exact aZ.mH bE (aco ae)
  ·intro L K F;obtain rfl:=F;have W:jh p t s (fP k.1)=(nF p t s k).1:=by rw[Dy a aa];rfl
   have Q:lq p s k.2 (fP k.1)=(nF p t s k).2:=by rw[Dy a aa];rfl
   simp only[DC];rw[W,Q];refine bS ?_;refine aZ.oi (L::f) (⟨i+1,nF p t s k,rfl,rfl,j,o.symm⟩) ?_ ?_ ?_
   ·omega
   ·repeat (first | exact trivial | refine⟨rfl,?_⟩)
   ·repeat (first | exact List.Sublist.refl _ | apply List.Sublist.cons_cons | refine List.Sublist.cons _ ?_)
  ·intro L D pre K g G;exact G.elim
 ·obtain rfl:i=path.length:=by omega
  rw[List.take_length] at A;refine ay ?_;refine aA.cu mixed ?_;refine bW.MG (.i k.1) 6 2 0 3 41 rfl rfl ao ao rfl rfl ao ?_;refine bg.zk ao ao rfl rfl rfl rfl (ad.move rfl rfl rfl) ?_;refine bg.zl ao rfl rfl rfl rfl (cP) ?_;refine bg.MI ao ao rfl rfl rfl (ad.assign rfl rfl rfl) ?_;refine bg.nil ⟨rfl,?_⟩;refine aS ?_;refine aZ.ld f ([.au nb 4 [.b k.2]]) H (rs:=[.tmp 6,.cell 7 4]) (H':=H) rfl gE (.tmp rfl (s5)) (c5.refl _) bE ?_;exact⟨by rw[A];rfl,rfl⟩
def oB(p:Prog)(c:Int)(b:Bool)(pre:du):Bool×Bool:=(pre.any (λa=>jg (bR p) a c),b || pre.any λa=>!jg (bR p) a c)
def acq{p}{c}{b r:Bool}{a x:Nat}(h:r=jg (bR p) x c): [br.au a 104 [ab.lp ((oB p c b pre).1 || r,(oB p c b pre).2 || !r)]]= [br.au a 104 [ab.lp (oB p c b (pre++[x]))]]:=by
 subst h;unfold oB;rw[List.any_append,List.any_append,List.any_cons,List.any_cons,List.any_nil,List.any_nil,Bool.or_false,Bool.or_false,Bool.or_assoc]
def DD{p}(a:(bu p).isSome):((bR p).owner.length:Int)=p.aw:=by
 obtain⟨o,c⟩:=Option.isSome_iff_exists.1 a;have:=(ow.of (jf c).1).aaw;show ((hj p.aF 0).length:Int)=_;rw[tM];exact this
def QI{p}{f}(a:f.op≠1)(j:f.op≠5)(h:f.op≠6)(g:f.op≠7)(c:f.op≠2){k}(m:k=kp p t (l.getD f.arg.toNat default) f.path):(k.1.testBit 1,bif k.2 then true else ((k.1:Int) !=0))=cX p t l f:=by
 rw[QA a j h g, <-m,show (let k:=k;if f.op=2 then _ else _)=_ from if_neg c];have e:((k.1:Int) !=0)=decide (k.1≠0):=by rw[Bool.eq_iff_iff];simp
 rw[e,Bool.cond_true_left]
def QJ{p}{f}(hm:aG p<=62)(g:f.op=2){k}(h:k=kp p t (l.getD f.arg.toNat default) f.path)(a:k.1<2^aG p):oB p f.cls k.2 (fP k.1)=cX p t l f:=by
 rw[QA aa aa aa aa, <-h,show (let k:=k;if f.op=2 then _ else _)=_ from if_pos g,Al a hm (λc=>jg (bR p) c f.cls),Al a hm (λc=>!jg (bR p) c f.cls)];rfl
def acr{p}(A:(bu p).isSome)(Q:ln p t)(C:(t.aw.length:Int)=p.aw)(V:∀c∈l,1<=c/\c<aG p){f}(o:ib p l f)(r:∀k∈f.kids,aI prog 55 [ab.ew p t,ab.fact k,.ints l] (ab.lp (cX p t l k))):aI prog 55 [ab.ew p t,ab.fact f,.ints l] (ab.lp (cX p t l f)):=by
 intro H;refine .qK func55 rfl ax rfl rfl λB I bN=>?_;have hm:=mm A;have bI:=oA A;refine o8 ?_;refine az (λaf=>?_) λaf=>?_
 ·refine aQ ?_;refine ag (ad.call .k ((CS _ _))) ?_;refine ay ?_;refine .ld [] [] H (rs:=[.tmp 6]) (H':=H) rfl gE eR cL bE ?_;exact⟨vu (Qw af).symm,rfl⟩
 ·refine ay ?_;refine az (λae=>?_) λae=>?_
  ·have D:=o.ops.1 ae;refine aR ?_;refine b0 6 118 ?_;refine aJ ?_;refine ag (.call .k (r _ nA)) ?_;refine ag (.call .k ((DA _))) ?_;refine ay ?_;refine .ld [] [] H (rs:=[.tmp 6]) (H':=H) rfl gE eR cL bE ?_;exact⟨vu (Qx ae D).symm,rfl⟩
  ·refine ay ?_;refine az (λak=>?_) λak=>?_
   ·have j:=o.ops.2.1 (.inl ak);refine aR ?_;refine b0 13 118 ?_;refine ay ?_;refine bh (.call .k (r _ nA)) ?_;refine aJ ?_;refine ag (.call .k (r _ nA)) ?_;refine ag (.call .k (QB _ _)) ?_;refine ay ?_;refine .ld [] [] H (rs:=[.tmp 6]) (H':=H) rfl gE eR cL bE ?_;exact⟨vu (Qy ak j).symm,rfl⟩
   ·refine ay ?_;refine az (λaL=>?_) λaL=>?_
    ·have j:=o.ops.2.1 (.inr aL);refine aR ?_;refine b0 14 118 ?_;refine ay ?_;refine bh (.call .k (r _ nA)) ?_;refine bh (.call .k ((DA _))) ?_;refine aJ ?_;refine ag (.call .k (r _ nA)) ?_;refine ag (.call .k ((DA _))) ?_;refine ag (.call .k (QB _ _)) ?_;refine ag (.call .k ((DA _))) ?_;refine ay ?_;refine .ld [] [] H (rs:=[.tmp 6]) (H':=H) rfl gE eR cL bE ?_;exact⟨vu ((ab4 _ _).trans (Qz aL j).symm),rfl⟩
    ·have L:=o.ops.2.2 af ae ak aL;obtain⟨n4,v,_,K⟩:=o.leaf L;have a2:=V _ (bH (k:=f.arg.toNat) (l:=l) aa);obtain⟨c,Y⟩:∃c:Nat,l.getD f.arg.toNat default=c:=⟨(l.getD f.arg.toNat default).toNat,aa⟩;have a0:=DD A;have m:aI prog 101 [ab.ew p t,.i c,.ints f.path] _:=acp A Q C aa (λs h=>⟨(v s h).1,by have:=(v s h).2;omega⟩);obtain⟨k,B⟩:∃k,k=kp p t (l.getD f.arg.toNat default) f.path:=iZ;have a:k.1<2^aG p:=by rw[B];exact Dx Q aa _
     rw[<-Y, <-B] at m;refine aV ?_;refine b0 8 118 ?_;refine aV ?_;refine bh (k1) ?_;refine aS ?_;refine ag (.call .k m) ?_;refine ay ?_;refine .dk 10 13 118 rfl ao rfl rfl ao ?_;refine iB ?_;refine az (λbo=>?_) λbo=>?_
     ·refine aH ?_;refine ag (.call .k (Ij _ 1 aa)) ?_;refine aS ?_;refine ag CR ?_;refine aS ?_;refine .ld [] [] H (rs:=[.tmp 6]) (H':=H) rfl gE eR cL bE ?_;exact⟨vu (QI af ae ak aL bo B),rfl⟩
     ·have S:=K bo;refine aS ?_;refine ag CR ?_;refine bT (λdR=>?_);refine aP ?_;refine ag GP ?_;refine aH ?_;refine .weaken (st':=⟨[(89,.fn (.func 76) [] [.ptr [.i k.1]]),(9,.p dR 0),(3,.ptr [ab.ew p t]),(4,.ptr (fy f))],[.au dR 104 [ab.lp (false,k.2)]]++(gY []++H)⟩) h1 gE ?_;refine .q3 [] (λ_ (c:Nat)=>.i c) (λ_ _=>[]) (fP k.1) (λpre H=>H= [.au dR 104 [ab.lp (oB p f.cls k.2 pre)]]) (λ_ _ _=>False) ([.au dR 104 [ab.lp (false,k.2)]]) H (λ_ x=>[(10,.i x),(90,.i x),(9,.p dR 0),(3,.ptr [ab.ew p t]),(4,.ptr (fy f))]) rfl rfl rfl rfl ((vx _ aa).b) (by simp[oB]) ?_ ?_ ?_ ?_
      ·intro X Z gf jX x W;refine aH ?_;exact λa w s=>⟨_,rfl,s.weaken xf xb⟩
      ·intro X F fD pre jX x R W Z gf g G;obtain rfl:=G;have aK:x<aG p:=tT a (g.subset aT);have U:((e8 p).getD x default).length=aG p:=by rw[Ik aK];simp
       refine aR ?_;refine b0 25 118 ?_;refine ay ?_;refine bh (K0) ?_;refine aH ?_;refine bh (k1) ?_;refine ay ?_;refine bh (K0) ?_;refine aH ?_;refine bh (k1) ?_;refine aQ ?_;refine bh (.call .k (CS _ _)) ?_;refine aQ ?_;refine ag (.bits rfl rfl rfl rfl rfl (ab8 _ _)) ?_;refine aH ?_;exact .mH bE (acq (QD aK aa))
      ·intro F R G;obtain rfl:=G;refine a8 ?_;refine .ld (F::[]) [] H (rs:=[.tmp 6]) (H':=H) rfl gE eR cL bE ?_;exact⟨vu (QJ aa bo B a),rfl⟩
      ·intro F E pre R g O;exact O.elim
def DE{p}(q:(bu p).isSome)(o:ln p t)(a:(t.aw.length:Int)=p.aw)(m:∀c∈l,1<=c/\c<aG p):∀f:Fact,ib p l f->aI prog 55 [ab.ew p t,ab.fact f,.ints l] (ab.lp (cX p t l f)):=Fact.mf λf j h=>acr q o a m h λk g=>j k g (h.Qv k g)
def Il(p:Prog):Fc.bx:=if(bu p).isSome then bR p else⟨[],[]⟩
def Im{p}(h:(bu p).isSome):Il p=bR p:=if_pos h
theorem QK{p}:∀(l:List hC) (o:al),(hb p l o).isSome=true->∀m∈l,ll p m.gen=true
 | x::r,o,h,m,a=>by
  rw[hb] at h;split at h
  ·rename_i c;rw[Bool.and_eq_true] at c;have g:=c.1;simp[q6,Bool.and_eq_true,decide_eq_true_eq] at g;rcases List.mem_cons.1 a with rfl | a
   ·unfold ll;rw[Bool.and_eq_true,decide_eq_true_eq,decide_eq_true_eq];omega
   ·cases bd:(visit p (lh x) 13 (mE p x) o).2 with
    | none=>rw[bd] at h;cases h
    | some f=>rw[bd] at h;exact QK r f h m a
  ·cases h
def Ld{p}(h:(bu p).isSome){n}(hn:iO p n):ll p (p.methods.getD n.toNat default).gen=true:=by
 obtain⟨o,a⟩:=Option.isSome_iff_exists.1 h;obtain⟨f,c,_⟩:=(jf a).2.2.2;simp[iO,Bool.and_eq_true,decide_eq_true_eq] at hn;exact QK _ _ (by rw[c];rfl) _ nA
def Io{p}(q:p.Small):aI prog 88 [ab.prog p] (.bj [ab.world (Il p),.i (if(bu p).isSome then 0 else 2)]):=by
 intro H;refine aM func88 λB I r=>?_;refine aH ?_;refine bT (λdN=>?_);refine aP ?_;refine ag (.call .k (Dr q)) ?_;refine aH ?_;refine bc (λaf=>?_) λaf=>?_
 ·have a:(bu p).isSome=false:=by cases h:(bu p).isSome with
   | false=>rfl
   | true=>rw[h] at af;simp at af
  have g:Il p=⟨[],[]⟩:=if_neg (by rw[a];simp);rw[a,g];refine a8 ?_;refine .cl (rs:=[.cell 2 86,.tmp 3]) (H':=H) rfl wc (.cons (aq.agg (.cons (aq.nil 1) (.cons (aq.nil 1) .nil))) (.cons (.refl _) .nil)) bE ?_;exact⟨cM,rfl⟩
 ·have a:(bu p).isSome=true:=by cases h:(bu p).isSome with
   | true=>rfl
   | false=>rw[h] at af;simp at af
  have j:=xB a;have l:=j.dv;obtain⟨o,m⟩:=Option.isSome_iff_exists.1 a;have f:=(Dc (jf m).1).2;rw[Im a,a];refine aS ?_;refine ag (ad.call .k (Pb p aa f)) ?_;refine aS ?_;refine aZ.cl (rs:=[.cell 2 86,.tmp 3]) (H':=H) rfl (wc) (c5.refl _) bE ?_;exact⟨cM,rfl⟩
end Go.Proofs.YtodccgailpkgeaaGreat

namespace Go.Eng.dO
open Go.Eng.Fc
structure sy(l:List (Int×ab))(L:al):Prop where
 ok:lI l
 get:∀s,hA l s=if L.contains s then some (.b true) else none
def sy.nil:sy [] []:=⟨lI.nil,λs=>rfl⟩
def sy.put{l}{L}(h:sy l L){x}(a:fX x):sy (eQ l x (.b true)) (L++[x]):=by
 refine⟨h.ok.put a _,λs=>?_⟩;rw[zt,h.get];by_cases e:s=x
 ·rw[if_pos e,e];simp
 ·rw[if_neg e,show (L++[x]).contains s=L.contains s by simp[e]]
abbrev gA(ms:List (Nat×List (Int×ab))):aC:=ms.map λx=>dV x.1 x.2
def p8(p:Prog)(ms:List (Nat×List (Int×ab)))(n:Nat):Prop:=ms.length=n/\∀a,a<n->sy (ms.getD a default).2 ((if eJ p a then nH p a else []).map (·.1))
def p8.nil(p):p8 p [] 0:=⟨rfl,λa h=>by omega⟩
def p8.snoc{p}{c}{n g}{l}(h:p8 p c n)(f:sy l ((if eJ p n then nH p n else []).map (·.1))):p8 p (c++[(g,l)]) (n+1):=by
 refine⟨by rw[List.length_append,h.1];rfl,λa j=>?_⟩;by_cases e:a<n
 ·rw[List.getD_eq_getElem?_getD,List.getElem?_append_left (by rw[h.1];exact e), <-List.getD_eq_getElem?_getD];exact h.2 a e
 ·obtain rfl:a=n:=by omega
  rw[List.getD_eq_getElem?_getD,List.getElem?_append_right (by rw[h.1];omega),h.1,Nat.sub_self];exact f
def acs{x:br}(A M H:aC):(x::(A++(M++H))).Perm (A++((M++[x])++H)):=by
 have e:(M++[x])++H=M++(x::H):=by simp
 rw[e, <-List.append_assoc, <-List.append_assoc];exact List.perm_middle.symm
end Go.Eng.dO

namespace Go.Proofs.YtodccgailpkgeaaGreat
open Go.Proofs.Tryz
open Go.Eng
open Go.Eng.Fc
open Go.Eng.dO
variable{a c k:Nat}{l:al}{t:cv}{q:Nat->Bool}{n:Int}
instance:q2 prog 128 (3,4):=⟨ax,ax⟩
abbrev sz(p:Prog)(t:cv)(B S M A D X:ab):bl:=jU t++cH p++cB (bR p)++[B,S,M,A,D,X]
abbrev hJ(x:Nat×List (Int×ab)):bl:=[.val (.map (some x.1))]
def acu{p}(h:a<aG p):ab.gz ((e8 p).take (a+1))= .aj 1 (((e8 p).take a).map (λx=>[ab.dy x])++[[ab.dy ((e8 p).getD a default)]]):=by
 rw[<-c3 (by rw[qx];exact h)];show ab.aj 1 (List.map _ (_++_))=_;rw[List.map_append];rfl
def acv{p}(h:a<aG p):ab.bp ((fh p).take (a+1))= .aj 1 (((fh p).take a).map (λx=>[.ints x])++[[.ints (if eJ p a then cw p a else [])]]):=by
 rw[<-c3 (by rw[s6];exact h),show (fh p).getD a default=(if eJ p a then cw p a else []) from po _ h];show ab.aj 1 (List.map _ (_++_))=_;rw[List.map_append];rfl
def acw{l:cY}{b:Nat}(h:b<l.length):ab.dy (l.take (b+1))= .aj 1 ((l.take b).map (λx=>[ab.b x])++[[.b (l.getD b default)]]):=by
 rw[<-c3 h];show ab.aj 1 (List.map _ (_++_))=_;rw[List.map_append];rfl
def acx(a)(c)(l):gA (a++[(c,l)])=gA a++[dV c l]:=by
 show List.map _ _=_;rw[List.map_append];rfl
def acy(a)(c)(l):ab.aj 1 ((a++[(c,l)]).map hJ)= .aj 1 (a.map hJ++[[.val (.map (some c))]]):=by
 rw[List.map_append];rfl
def DF{p}(h:a<aG p):jr (bR p) a=true:=DB.2 ⟨aa,by rw[rf];unfold aG at h;omega⟩
def acz{p}{a b}(h:a<aG p)(c:b<aG p):((e8 p).getD a default).getD b default=jg (bR p) a b:=by
 have:=QD h (b:=(b:Int)) lK;simpa using this
def map_take{l:List (Int×Int)}{j}(h:j<l.length):(l.take (j+1)).map (·.1)=(l.take j).map (·.1)++[(l.getD j default).1]:=by
 rw[<-c3 h,List.map_append];rfl
def acA{p}{c}(v:eJ p c):∀x∈nH p c,fX x.1:=λx z=>by
 obtain⟨B,w,r,m,A,f,l,j,t,g,a,o⟩:=pk v;obtain⟨s,q,h⟩:=List.mem_filterMap.1 z;cases bq:e3 (k3 p c) s with
 | none=>rw[bq] at h;cases h
 | some n=>rw[bq] at h;cases h;exact a s q
def acB{p}{c}(t:eJ p c):(nH p c).length<=100000:=by
 obtain⟨w,j,q,m,v,a,l,g,r,f,h,o⟩:=pk t;have:=List.length_filterMap_le (λs=>(e3 (k3 p c) s).map λn=>(s,n)) (cw p c);unfold nH;omega
def acC{p}(f:p.Small){c}(a:eJ p c=false):aI prog 91 [ab.prog p,.i c] (.bj [ab.mg [],.i 2]):=by
 intro H;refine .qK func91 rfl ax rfl rfl λB I g=>?_;refine bS ?_;refine ag (.call .k (H8 f c)) ?_;refine aH ?_;refine bc (λaf=>?_) λaf=>?_
 ·refine aJ ?_;refine .VO (rs:=[.tmp 4,.tmp 5]) (H':=H) rfl (.tmp rfl (.tmp rfl (.nil))) (.cons (aq.nil 2) (.cons (.refl _) .nil)) bE ?_;exact⟨cM,rfl⟩
 ·simp[a] at af
def acD{p}(a:p.Small)(c):aI prog 91 [ab.prog p,.i c] (.bj [ab.mg (if eJ p c then nH p c else []),.i (if eJ p c then 0 else 2)]):=by
 cases bb:eJ p c with
 | true=>simpa using ab1 a bb
 | false=>simpa using acC a bb
def DG{p:Prog}(M:p.Small)(G:(bu p).isSome)(t:cv)(H:aC):bP prog 42 [ab.prog p,ab.dI t] H (λy V=>∃bz c,y= .bj [.p bz 0,.b true]/\V= .au bz 92 (sz p t (ab.gz (e8 p)) (ab.bp (fh p)) (.aj 1 (c.map hJ)) (.val (.map none)) (.val (.map none)) (.b false))::(gA c++H)/\p8 p c (aG p)) (λ_ _=>False):=by
 refine aM (n:=113) func42 λB I bN=>?_;have hm:=mm G;have Q:=xB G;have hM:=Q.dv;have W:=Q.world;have T:=Io M;rw[Im G,G] at T;refine bA ?_;refine ag (ad.call .k (T)) ?_;refine aH ?_;refine bT (λda=>?_);refine ay ?_;refine eB 6 ?_;refine aS ?_;refine bc (λaf=>?_) (λaf=>?_)
 ·simp at af
 ·refine aJ ?_;refine ai.r6 rfl rfl rfl rfl rfl rfl rfl (λbz=>?_);refine c6 ?_;refine aA.le 9 (y:=.i (aG p)) rfl (aq.b6 (by unfold aG;omega)) ?_;refine ay ?_;refine aA.qM (b:=bz) (t:=92) 28 1 12 dt rfl rfl ?_;refine aA.qM (b:=bz) (t:=92) 23 1 13 dt rfl rfl ?_;refine aA.qM (b:=bz) (t:=92) 128 1 14 dt rfl rfl ?_;refine bm (λm w=>∃(a:Nat) (c:List (Nat×List (Int×ab))) (v B o:Value),w=⟨[(39,.i a),(38,.i (aG p)),(9,.i (aG p)),(8,.p bz 0),(2,.ptr (cH p)),(6,.ptr (cB (bR p)))],.own 128 1 o::.own 23 1 B::.own 28 1 v::.au bz 92 (sz p t (.as (ab.gz ((e8 p).take a)) v) (.as (ab.bp ((fh p).take a)) B) (.as (.aj 1 (c.map hJ)) o) (.val (.map none)) (.val (.map none)) (.b false))::(gA c++H)⟩/\m=aG p - a/\a<=aG p/\p8 p c a) (⟨0,[],_,_,_,rfl,rfl,aa,p8.nil p⟩) ?_;rintro m _ ⟨a,c,v,B,o,rfl,rfl,n4,jq⟩;refine ay ?_;refine az (λae=>?_) λae=>?_
  ·have g:a<aG p:=by omega
   obtain⟨R,J⟩:∃R,R=(e8 p).getD a default:=⟨_,rfl⟩;have a0:R.length=aG p:=by rw[J,Ik g];simp
   refine o9 ?_;refine hi 11 4 1 ?_;refine bm (λm w=>∃(b:Nat) (E:Value),w=⟨[(43,.i b),(42,.i (aG p)),(11,.as (ab.dy (R.take b)) E),(10,.i a),(39,.i a),(38,.i (aG p)),(9,.i (aG p)),(8,.p bz 0),(2,.ptr (cH p)),(6,.ptr (cB (bR p)))],.own 4 1 E::.own 128 1 o::.own 23 1 B::.own 28 1 v::.au bz 92 (sz p t (.as (ab.gz ((e8 p).take a)) v) (.as (ab.bp ((fh p).take a)) B) (.as (.aj 1 (c.map hJ)) o) (.val (.map none)) (.val (.map none)) (.b false))::(gA c++H)⟩/\m=aG p - b/\b<=aG p) (⟨0,_,rfl,rfl,aa⟩) ?_;rintro m _ ⟨b,E,rfl,rfl,ba⟩;refine ay ?_;refine az (λak=>?_) λak=>?_
   ·have r:b<aG p:=by omega
    have h:=acz g r;rw[<-J] at h;refine dW ?_;refine ag (ad.call .k (acm W (DF g) (DF r))) ?_;refine bQ ?_;refine ai.cc (x:=.aj 1 [[.b (jg (bR p) a b)]]) rfl rfl rfl (ad.row rfl rfl cD rfl rfl rfl rfl rfl rfl) ?_;refine ai.dJ rfl rfl rfl rfl rfl rfl rfl rfl (aq.refl _) (rfl) (λ_=>dt) wg wg (λacE=>?_);refine aJ ?_;exact aU (⟨b+1,acE,by rw[acw aa,h],rfl,r⟩)
   ·obtain rfl:b=aG p:=by omega
    have O:R.take (aG p)=R:=List.take_of_length_le aa;rw[O];refine ay ?_;refine aA.le 11 (y:=ab.dy R) rfl (aq.eY _ _) ?_;refine aP ?_;refine ai.cc (x:=.aj 1 [[ab.dy R]]) rfl rfl rfl (ad.row rfl rfl cD rfl rfl rfl rfl rfl rfl) ?_;refine ai.dJ rfl rfl rfl rfl rfl rfl rfl rfl (aq.refl _) (rfl) (λ_=>dt) wg wg (λIp=>?_);refine a8 ?_;refine ag (ad.call .k (hasB M a)) ?_;refine dW ?_;refine ai.cc (x:=.aj 1 [[ab.ints (if eJ p a then cw p a else [])]]) rfl rfl rfl (ad.row rfl rfl cD rfl rfl rfl rfl rfl rfl) ?_;refine ai.dJ rfl rfl rfl rfl rfl rfl rfl rfl (aq.refl _) (rfl) (λ_=>dt) wg wg (λIq=>?_);refine aP ?_;refine ai.mkMap rfl rfl rfl rfl (λbt=>?_);refine aP ?_;refine ag (ad.call .k (acD M a)) ?_;refine a8 ?_;obtain⟨L,s⟩:∃L,L=(if eJ p a then nH p a else []):=⟨_,rfl⟩;rw[<-s];have N:∀x∈L,fX x.1:=λx D=>by
     cases bb:eJ p a with
     | true=>rw[s,if_pos bb] at D;exact acA bb x D
     | false=>rw[s,if_neg (by rw[bb];decide)] at D;cases D
    have Z:L.length<=100000:=by
     cases bb:eJ p a with
     | true=>rw[s,if_pos bb];exact acB bb
     | false=>rw[s,if_neg (by rw[bb];decide)];exact Nat.zero_le _
    refine aP ?_;refine bm (λm w=>∃(j:Nat) (l:List (Int×ab)),w=⟨[(93,.i j),(92,.i L.length),(91,ab.mg L),(17,.val (.map (some bt))),(10,.i a),(39,.i a),(38,.i (aG p)),(9,.i (aG p)),(8,.p bz 0),(2,.ptr (cH p)),(6,.ptr (cB (bR p)))],dV bt l::.own 4 1 E::.own 128 1 o::.own 23 1 Iq::.own 28 1 Ip::.au bz 92 (sz p t (.as (.aj 1 (((e8 p).take a).map (λx=>[ab.dy x])++[[ab.dy R]])) Ip) (.as (.aj 1 (((fh p).take a).map (λx=>[ab.ints x])++[[ab.ints (if eJ p a then cw p a else [])]])) Iq) (.as (.aj 1 (c.map hJ)) o) (.val (.map none)) (.val (.map none)) (.b false))::(gA c++H)⟩/\m=L.length - j/\j<=L.length/\sy l ((L.take j).map (·.1))) (⟨0,[],rfl,rfl,aa,sy.nil⟩) ?_;rintro m _ ⟨j,l,rfl,rfl,cp,F⟩;refine ay ?_;refine az (λaL=>?_) λaL=>?_
    ·have q:j<L.length:=by omega
     obtain⟨Y,P⟩:∃Y,Y=L.getD j default:=⟨_,rfl⟩;have C:fX Y.1:=N _ (P▸bH q);refine aJ ?_;refine bT (λhk=>?_);refine aH ?_;rw[<-P];refine eB 21 ?_;refine aV ?_;refine ai.iA (u':=.b true) rfl rfl (.inl rfl) rfl rfl rfl rfl rfl rfl (aq.refl _) (.head _ _ _) F.ok C ?_;refine aP ?_;exact aU (⟨j+1,_,rfl,rfl,q,by rw[map_take q, <-P];exact F.put C⟩)
    ·obtain rfl:j=L.length:=by omega
     rw[List.take_length,s] at F;refine bS ?_;refine ai.cc (x:=.aj 1 [[.val (.map (some bt))]]) rfl rfl rfl (ad.row rfl rfl cD rfl rfl rfl rfl rfl rfl) ?_;refine ai.dJ rfl rfl rfl rfl rfl rfl rfl rfl (aq.refl _) (rfl) (λ_=>dt) KR KR (λacF=>?_);refine ay ?_;refine aA.perm (acs [_,_,_,_,_] (gA c) H) ?_;refine aV ?_;exact aU (⟨a+1,c++[(bt,l)],Ip,Iq,acF,by rw[acu g, <-J,acv g,acy,acx],rfl,g,jq.snoc F⟩)
  ·obtain rfl:a=aG p:=by omega
   have X:(e8 p).take (aG p)=e8 p:=List.take_of_length_le (by rw[qx];exact Nat.le_refl _);have bJ:(fh p).take (aG p)=fh p:=List.take_of_length_le (by rw[s6];exact Nat.le_refl _);rw[X,bJ];refine ay ?_;refine aA.GL (b:=bz) (t:=92) (ds:=sz p t (ab.gz (e8 p)) (ab.bp (fh p)) (.aj 1 (c.map hJ)) (.val (.map none)) (.val (.map none)) (.b false)) dt (by repeat (first | exact c5.nil | refine c5.cons (.refl _) ?_ | refine c5.cons (aq.eY _ _) ?_)) ?_;refine aP ?_;refine dM [.tmp 4,.tmp 5] (.au bz 92 (sz p t (ab.gz (e8 p)) (ab.bp (fh p)) (.aj 1 (c.map hJ)) (.val (.map none)) (.val (.map none)) (.b false))::(gA c++H)) ?_;exact⟨bz,c,rfl,rfl,jq⟩
def acG{p}(f:p.Small)(c:(bu p).isSome=false)(t):aI prog 42 [ab.prog p,ab.dI t] (.bj [.val (.pointer none),.b false]):=by
 intro H;refine aM func42 λB I h=>?_;have a:=Io f;rw[c] at a;refine bA ?_;refine ag (.call .k a) ?_;refine aH ?_;refine bT (λda=>?_);refine bA ?_;refine bc (λaf=>?_) (λaf=>?_)
 ·refine aJ ?_;refine dM [.tmp 4,.tmp 5] (H) ?_;exact⟨cM,rfl⟩
 ·simp at af
def acH(A B C):(bif bif A then B else false then C else false)=(A && B && C):=by cases A <;> cases B <;> rfl
def Ir{m}(k):(bif bif decide (k>=0) then k.tmod 2==0 else false then decide (k<((2^m:Nat):Int)) else false)=cq m k:=by
 rw[acH,cq];by_cases h:0<=k
 ·have a:(k.tmod 2==0)=decide (k%2=0):=by rw[Int.tmod_eq_emod_of_nonneg h];rfl
  have c:((2^m:Nat):Int)=(2:Int)^m:=by simp
  rw[a,c]
 ·have e:decide (k>=0)=false:=by simp;omega
  rw[e];rfl
def rl(p:Prog)(t:cv):Bool:=decide (t.bC.length=p.methods.length) && decide (t.params.length=p.methods.length) && decide (t.nodes.length=p.nodes.length) && decide ((t.aw.length:Int)=p.aw)
def Is(a b:Nat):((a:Int) !=(b:Int))= !decide (a=b):=by rw[Bool.eq_iff_iff];simp;omega
def QL(p)(t):(bif bif bif (t.bC.length:Int) !=(p.methods.length:Int) then true else (t.params.length:Int) !=(p.methods.length:Int) then true else (t.nodes.length:Int) !=(p.nodes.length:Int) then true else (t.aw.length:Int) !=p.aw)= !rl p t:=by
 rw[Is,Is,Is,show ((t.aw.length:Int) !=p.aw)= !decide ((t.aw.length:Int)=p.aw) by rw[Bool.eq_iff_iff];simp];unfold rl;cases decide (t.bC.length=p.methods.length) <;> cases decide (t.params.length=p.methods.length) <;> cases decide (t.nodes.length=p.nodes.length) <;> rfl
def It{p}:rl p t=true↔t.bC.length=p.methods.length/\t.params.length=p.methods.length/\t.nodes.length=p.nodes.length/\(t.aw.length:Int)=p.aw:=by simp[rl,and_assoc]
def Ap(p:Prog)(t:cv):Bool:=(List.range t.params.length).all (p4 p (aG p) t)
def Iu(p)(t):h5 p t=(rl p t && Ap p t && t.nodes.all (cq (aG p)) && t.aw.all (cq (aG p))):=rfl
def QM(p)(m)(t)(i):(bif ((t.params.getD i default).length:Int) !=p.c2.getD (p.methods.getD i default).gen.toNat default then true else !((t.params.getD i default).all (cq m)))= !p4 p m t i:=by
 unfold p4;rw[bne];cases (((t.params.getD i default).length:Int)==p.c2.getD (p.methods.getD i default).gen.toNat default) <;> rfl
def QN{i}(h:(List.range i).all q)(a:q i=true):(List.range (i+1)).all q=true:=by
 rw[List.range_succ,List.all_append,h,List.all_cons,a];rfl
def QO{n i}(a:i<n)(h:q i=false):(List.range n).all q=false:=by
 rw[List.all_eq_false];exact⟨i,List.mem_range.2 a,wz⟩
def tV{p}(a:(bu p).isSome){i}(h:i<p.methods.length):0<=(p.methods.getD i default).gen/\(p.methods.getD i default).gen<p.c2.length:=by
 have:=Ld a (n:=(i:Int)) (by unfold iO;simp;omega);rw[show ((i:Int)).toNat=i from rfl] at this;simpa only[ll,Bool.and_eq_true,decide_eq_true_eq] using this
def Iv{p}(M A D X):aq (.ptr (sz p t (ab.gz (e8 p)) (.bp (fh p)) M A D X)) (ab.ew p t):=
 .ptr (by repeat (first | exact .nil | refine .cons ig ?_ | refine .cons (λ_ _ v _=>.any v) ?_))
def Iw{p}(c:(bu p).isSome)(t)(k):aI prog 102 [.i k,.ptr [ab.ew p t]] (.b (cq (aG p) k)):=by
 intro H;refine aM func102 λB I g=>?_;have h:=mm c;have a:=qx p;refine bA ?_;refine gw (λav=>.div rfl rfl rfl (cf av) rfl aa (.inr zz)) ?_;refine a8 ?_;refine gw (λav=>.shift rfl rfl rfl rfl (cf av) aa (ml _ ⟨aa,aa⟩)) ?_;refine ay ?_;refine aB 3 H ?_;exact⟨bn (by rw[a];exact Ir k),rfl⟩
def Aq{f}{g cs}{q}(j:n6 prog (.fn f g cs) .i q)(l):aI prog 51 [.ints l,.fn f g cs] (.b (l.all q)):=by
 intro H;refine aM func51 λB I s=>?_;refine .ez (t:=0) rfl λgP=>?_;refine c6 ?_;refine bm (λm o=>∃k:Nat,o=⟨[(9,.i k),(8,.i l.length),(7,.ints l),(1,.fn f g cs)],H⟩/\m=l.length - k/\k<=l.length/\(l.take k).all q=true) ⟨0,rfl,rfl,aT,rfl⟩ ?_;rintro m _ ⟨k,rfl,rfl,v,h⟩;refine ay ?_;refine az (λaf=>?_) λaf=>?_
 ·have a:k<l.length:=by omega
  refine dW ?_;refine .oa rfl rfl rfl rfl rfl rfl rfl rfl cL (j B _ _) ?_;rintro _ r ⟨rfl,e⟩;replace e:=e.symm;subst e;refine aH ?_;refine bc (λae=>?_) λae=>?_
  ·have ae:q (l.getD k default)=false:=by simpa using ae
   refine bA ?_;refine aB 4 H ?_;exact⟨bn (HP a ae).symm,rfl⟩
  ·have ae:q (l.getD k default)=true:=by simpa using ae
   refine aP ?_;exact aU ⟨k+1,rfl,rfl,a,Dl a h ae⟩
 ·obtain rfl:k=l.length:=by omega
  rw[List.take_length] at h;refine bA ?_;refine aB 4 H ?_;exact⟨bn (by rw[h]),rfl⟩
def Ix{p}(h:(bu p).isSome)(t):aI prog 58 [ab.ew p t] (.b (h5 p t)):=by
 intro H;refine aM func58 λB I x=>?_;have a:=Iu p t;refine c6 ?_;refine b0 12 117 ?_;refine o8 ?_;refine .dk 14 26 117 rfl ao rfl rfl ao ?_;refine zy ?_;refine .dk 29 41 117 rfl ao rfl rfl ao ?_;refine zy ?_;refine .dk 44 55 117 rfl ao rfl rfl ao ?_;refine gv ?_;rw[QL];refine bc (λaf=>?_) λaf=>?_
 ·have af:rl p t=false:=by simpa using af
  refine aP ?_;refine aB 2 H ?_;exact⟨bn (by rw[a,af];rfl),rfl⟩
 ·have af:rl p t=true:=by simpa using af
  obtain⟨q,o,l,s⟩:=It.1 af;rw[af,Bool.true_and] at a;refine dW ?_;refine .ez (t:=68) rfl λgP=>?_;refine bm (λm v=>∃i:Nat,v=⟨[(70,.i i),(69,.i t.params.length),(68,.bp t.params),(3,.fn (.func 102) [] [.ptr [ab.ew p t]]),(1,.ptr [ab.ew p t])],H⟩/\m=t.params.length - i/\i<=t.params.length/\(List.range i).all (p4 p (aG p) t)=true) iI ?_;rintro m _ ⟨i,rfl,rfl,z,j⟩;refine ay ?_;refine az (λae=>?_) λae=>?_
  ·have f:i<t.params.length:=by omega
   have r:=tV h (i:=i) aa;refine c6 ?_;refine b0 18 117 ?_;refine iB ?_;refine bh (k1) ?_;refine bQ ?_;refine .dk 20 22 117 rfl ao rfl rfl ao ?_;refine aV ?_;refine ai.cG rfl rfl rfl rfl rfl rfl (λav=>.call (.mk' rfl rfl rfl rfl cU) (Aq (.of (Iw h t)) _)) ?_;refine aV ?_;rw[QM];refine bc (λak=>?_) λak=>?_
   ·have ak:p4 p (aG p) t i=false:=by simpa using ak
    refine bA ?_;refine aB 2 H ?_;exact⟨bn (by rw[a,Ap,QO f ak];rfl),rfl⟩
   ·have ak:p4 p (aG p) t i=true:=by simpa using ak
    refine aP ?_;exact aU ⟨i+1,rfl,rfl,f,QN j ak⟩
  ·obtain rfl:i=t.params.length:=by omega
   have w:Ap p t=true:=j;rw[w,Bool.true_and] at a;refine di ?_;refine ag (.call .k (Aq (.of (Iw h t)) _)) ?_;refine aP ?_;refine ai.cG rfl rfl rfl rfl rfl rfl (λav=>.call (.mk' rfl rfl rfl rfl cU) (Aq (.of (Iw h t)) _)) ?_;refine aS ?_;refine aB 2 H ?_;exact⟨bn (by rw[a,Bool.cond_false_right]),rfl⟩
def Iy{p}(c:p.Small){t}(a:(bu p).isSome)(ht:h5 p t):aI prog 32 [ab.prog p,ab.dI t] (.bj [ab.ew p t,.b true]):=by
 intro H;refine aM func32 λB I j=>?_;refine bS ?_;refine cI .k ((DG c a t _).b) ?_;rintro _ _ ⟨l,g,rfl,rfl,f⟩;refine a8 ?_;refine eB 6 ?_;refine .le 6 (y:=ab.ew p t) rfl (Iv _ _ _ _) ?_;refine aS ?_;refine gw (λav=>ad.call (.mk' rfl rfl rfl rfl cU) (Ix a t)) ?_;refine aV ?_;refine bc (λaf=>?_) (λaf=>?_)
 ·simp[ht] at af
 ·refine bQ ?_;refine aZ.cl (rs:=[.tmp 4,.tmp 5]) (H':=H) rfl (.tmp rfl (.tmp rfl (.nil))) (c5.refl _) (by exact List.sublist_append_right _ _) ?_;exact⟨cM,rfl⟩
def DH{p}(c:p.Small)(t)(a:(bu p).isSome=false):aI prog 32 [ab.prog p,ab.dI t] (.bj [.val (.pointer none),.b false]):=by
 intro H;refine aM func32 λB I g=>?_;refine bS ?_;refine ag (.call .k (acG c a t)) ?_;refine c6 ?_;refine ai.cG rfl rfl rfl rfl rfl rfl (λav=>(absurd av aT:ad _ _ _ _ (.b false))) ?_;refine aV ?_;refine bc (λaf=>?_) (λaf=>?_)
 ·refine aJ ?_;refine dM [.tmp 4,.tmp 5] (H) ?_;exact⟨cM,rfl⟩
 ·simp at af
def DI{p}(c:p.Small){t}(a:(bu p).isSome)(ht:h5 p t=false):aI prog 32 [ab.prog p,ab.dI t] (.bj [.val (.pointer none),.b false]):=by
 intro H;refine aM func32 λB I j=>?_;refine bS ?_;refine cI .k ((DG c a t _).b) ?_;rintro _ _ ⟨l,g,rfl,rfl,f⟩;refine a8 ?_;refine eB 6 ?_;refine .le 6 (y:=ab.ew p t) rfl (Iv _ _ _ _) ?_;refine aS ?_;refine gw (λav=>ad.call (.mk' rfl rfl rfl rfl cU) (Ix a t)) ?_;refine aV ?_;refine bc (λaf=>?_) (λaf=>?_)
 ·refine aJ ?_;refine aZ.cl (rs:=[.tmp 4,.tmp 5]) (H':=H) rfl (.tmp rfl (.tmp rfl (.nil))) (c5.refl _) (by exact List.sublist_append_right _ _) ?_;exact⟨cM,rfl⟩
 ·simp[ht] at af
def Lr{p}(h:iO p n):0<=n/\n<p.methods.length:=by simpa only[iO,Bool.and_eq_true,decide_eq_true_eq] using h
def Lc{p}(h:ll p n):0<=n/\n<p.c2.length:=by simpa only[ll,Bool.and_eq_true,decide_eq_true_eq] using h
def jY{p}(a:(bu p).isSome):p.methods.length<=1000:=by
 obtain⟨o,c⟩:=Option.isSome_iff_exists.1 a;have:=(jf c).2.1;simp[p0,Bool.and_eq_true,decide_eq_true_eq] at this;omega
def vy(p:Prog)(c:Int):Bool:=decide (c>0) && decide (c<aG p)
def sA(p:Prog)(t:cv)(n:Int)(l:al):Bool:=ij p t && iO p n && ((l.length:Int)==rL p n) && l.all (vy p)
def vz(p:Prog)(t:cv)(n:Int)(l:al):ab:=if sA p t n l then .bj [.b (cX p t l (p.methods.getD n.toNat default).fact).1,.b (cX p t l (p.methods.getD n.toNat default).fact).2,.i 0] else .bj [.b false,.b false,.i 2]
def DJ{p}(h:h5 p t):ln p t/\(t.aw.length:Int)=p.aw/\rl p t=true:=by
 rw[Iu] at h;simp only[Bool.and_eq_true] at h;exact⟨List.all_eq_true.1 h.2,(It.1 h.1.1.1).2.2.2,h.1.1.1⟩
theorem Iz{p}:∀(l:List hC) (o:al),(hb p l o).isSome=true->∀m∈l,q7 p m=true
 | x::r,o,h,m,a=>by
  rw[hb] at h;split at h
  ·rename_i c;rw[Bool.and_eq_true] at c;rcases List.mem_cons.1 a with rfl | a
   ·exact c.2
   ·cases bd:(visit p (lh x) 13 (mE p x) o).2 with
    | none=>rw[bd] at h;cases h
    | some f=>rw[bd] at h;exact Iz r f h m a
  ·cases h
def xD{p}(g:(bu p).isSome){n}(hn:iO p n){l}(f:(l.length:Int)=rL p n):ib p l (p.methods.getD n.toNat default).fact:=by
 obtain⟨o,h⟩:=Option.isSome_iff_exists.1 g;obtain⟨m,j,_⟩:=(jf h).2.2.2;have c:=hn;simp[iO,Bool.and_eq_true,decide_eq_true_eq] at c;have a:=Iz _ _ (by rw[j];rfl) _ (bH (l:=p.methods) (k:=n.toNat) aa);simp[q7,Bool.and_eq_true,decide_eq_true_eq] at a;exact⟨(tH a.1.2).1,by rw[f];exact a.2⟩
def acI{p}(l:al):(bif bif bif !true then true else decide (n<0) then true else decide (n>=(p.methods.length:Int)) then true else (l.length:Int) !=p.c2.getD (p.methods.getD n.toNat default).gen.toNat default)= !(iO p n && ((l.length:Int)==rL p n)):=by
 unfold iO rL gg;rw[bne,show decide (n<0)= !decide (n>=0) by rw[Bool.eq_iff_iff];simp,show decide (n>=(p.methods.length:Int))= !decide (n<(p.methods.length:Int)) by rw[Bool.eq_iff_iff];simp];cases decide (n>=0) <;> cases decide (n<(p.methods.length:Int)) <;> rfl
def DK{p}(h:sA p t n l=false):vz p t n l= .bj [.b false,.b false,.i 2]:=if_neg (by rw[h];decide)
def acJ{p}{c}:vy p c=true↔1<=c/\c<aG p:=by unfold vy;simp;omega
def Le(p){n}(h:(!bif bif !true then true else decide (n<0) then true else decide (n>=(p.methods.length:Int)))=true):iO p n=true:=by
 unfold iO;simp at h ⊢;omega
def acK(p)(t)(c):aI prog 54 [.i c,.ptr [ab.ew p t]] (.b (vy p c)):=by
 intro H;refine aM func54 λB I f=>?_;have a:=qx p;refine nz ?_;refine aB 3 H ?_;exact⟨bn (by rw[a,Bool.cond_false_right];rfl),rfl⟩
def acL{p}(f:p.Small){t}(c:(bu p).isSome=false)(n)(l):aI prog 31 [ab.prog p,ab.dI t,.i n,.ints l] (vz p t n l):=by
 intro H;refine aM func31 λB I h=>?_;have a:sA p t n l=false:=by unfold sA ij;rw[c];rfl
 refine di ?_;refine ag (.call .k (DH f t c)) ?_;refine aH ?_;refine bT (λdN=>?_);refine ay ?_;refine eB 11 ?_;refine .cu mixed ?_;refine GM ?_;refine .dk 7 11 65 rfl ao rfl rfl ao ?_;refine gv ?_;refine .dk 14 26 65 rfl ao rfl rfl ao ?_;refine aP ?_;refine jS (λav=>we) ?_;refine aQ ?_;refine jS (λav=>we) ?_;refine aP ?_;refine bc (λaf=>?_) λaf=>?_
 ·refine a8 ?_;refine dM [.tmp 8,.tmp 9,.tmp 10] H ?_;exact⟨by rw[DK a];rfl,rfl⟩
 ·simp at af
def acM{p}(f:p.Small){t}(c:(bu p).isSome)(ht:h5 p t=false)(n)(l):aI prog 31 [ab.prog p,ab.dI t,.i n,.ints l] (vz p t n l):=by
 intro H;refine aM func31 λB I h=>?_;have a:sA p t n l=false:=by unfold sA ij;rw[ht,Bool.and_false];rfl
 refine di ?_;refine ag (.call .k (DI f c ht)) ?_;refine aH ?_;refine bT (λdN=>?_);refine ay ?_;refine eB 11 ?_;refine .cu mixed ?_;refine GM ?_;refine .dk 7 11 65 rfl ao rfl rfl ao ?_;refine gv ?_;refine .dk 14 26 65 rfl ao rfl rfl ao ?_;refine aP ?_;refine jS (λav=>we) ?_;refine aQ ?_;refine jS (λav=>we) ?_;refine aP ?_;refine bc (λaf=>?_) λaf=>?_
 ·refine a8 ?_;refine dM [.tmp 8,.tmp 9,.tmp 10] H ?_;exact⟨by rw[DK a];rfl,rfl⟩
 ·simp at af
def acN{p}(v:p.Small){t}(aD:(bu p).isSome)(ht:h5 p t)(n)(l):aI prog 31 [ab.prog p,ab.dI t,.i n,.ints l] (vz p t n l):=by
 intro H;refine aM func31 λB I w=>?_;obtain⟨q,h,_⟩:=DJ ht;have g:sA p t n l=(iO p n && ((l.length:Int)==rL p n) && l.all (vy p)):=by unfold sA ij;rw[aD,ht];rfl
 refine di ?_;refine ag (.call .k (Iy v aD ht)) ?_;refine aH ?_;refine bT (λdN=>?_);refine ay ?_;refine eB 11 ?_;refine .cu mixed ?_;refine GM ?_;refine .dk 7 11 65 rfl ao rfl rfl ao ?_;refine gv ?_;refine .dk 14 26 65 rfl ao rfl rfl ao ?_;refine aP ?_;refine jS (λav=>(by first | exact .fC rfl rfl (cf av) rfl (cf av) ⟨BI,BI⟩ | exact .ep rfl rfl (cf av) rfl (cf av) ⟨BI,BI⟩)) ?_;refine aQ ?_;refine jS (λav=>(by first | exact .fC rfl rfl (cf av) rfl (cf av) ⟨BA,BA⟩ | exact .ep rfl rfl (cf av) rfl (cf av) ⟨BA,BA⟩)) ?_;refine aP ?_;rw[acI];refine bc (λaf=>?_) λaf=>?_
 ·rw[Bool.not_eq_true'] at af;refine a8 ?_;refine dM [.tmp 8,.tmp 9,.tmp 10] H ?_;exact⟨by rw[DK (by rw[g,af];rfl)];rfl,rfl⟩
 ·have af:(iO p n && ((l.length:Int)==rL p n))=true:=by simpa using af
  rw[af,Bool.true_and] at g;rw[Bool.and_eq_true,beq_iff_eq] at af;obtain⟨o,m⟩:=af;have s:=Lr o;refine aP ?_;refine ag (.call .k (Aq (.of (acK p t)) _)) ?_;refine aH ?_;refine bc (λae=>?_) λae=>?_
  ·have ae:l.all (vy p)=false:=by simpa using ae
   refine a8 ?_;refine dM [.tmp 8,.tmp 9,.tmp 10] H ?_;exact⟨by rw[DK (by rw[g,ae])];rfl,rfl⟩
  ·have ae:l.all (vy p)=true:=by simpa using ae
   rw[ae] at g;have j:∀c∈l,1<=c/\c<aG p:=λc r=>acJ.1 (List.all_eq_true.1 ae c r);refine aH ?_;refine b0 8 65 ?_;refine aV ?_;refine bh (k1) ?_;refine aS ?_;refine ag (.call .k (DE aD q h j _ (xD aD o m))) ?_;refine ay ?_;refine ag zF ?_;refine aR ?_;refine ag (.call .k ((Dz _))) ?_;refine ay ?_;refine dM [.tmp 8,.tmp 9,.tmp 10] H ?_;exact⟨by rw[vz,if_pos g];rfl,rfl⟩
def acO{p}(a:p.Small)(t)(n)(l):aI prog 31 [ab.prog p,ab.dI t,.i n,.ints l] (vz p t n l):=by
 cases aD:(bu p).isSome with
 | false=>exact acL a aD n l
 | true=>
  cases ht:h5 p t with
  | false=>exact acM a aD ht n l
  | true=>exact acN a aD ht n l
def p9(k c:Nat)(a:k<9223372036854775808):aI prog 84 [.i k,.i c] (.b (k.testBit c)):=by
 intro H;refine aM func84 λB I f=>?_;refine a8 ?_;refine ag (.shift rfl rfl rfl rfl rfl aa (Ig k c)) ?_;refine ag (.bits rfl rfl rfl rfl rfl (Ie _ 1 (by have:=Nat.div_le_self k (2^min (c:Int).toNat 64);omega) c8)) ?_;refine aS ?_;refine aB 4 H ?_;exact⟨bn (Qq k c a),rfl⟩
def acP{m:Nat}(k:Int):(bif bif decide (k>=0) then decide (k<((2^m:Nat):Int)) else false then k.tmod 2==0 else false)=cq m k:=by
 rw[<-Ir];cases decide (k>=0) <;> cases decide (k<((2^m:Nat):Int)) <;> cases (k.tmod 2==0) <;> rfl
def acQ{p:Prog}(aD:(bu p).isSome)(k:Int):aI prog 110 [ab.prog p,.i k] (.b (cq (aG p) k)):=by
 intro H;refine aM (n:=21) func110 λB I bN=>?_;have hm:=mm aD;have he:(3+(p.aF.length:Int))=aG p:=by unfold aG;omega
 have hI:(p.aF.length:Int)<=13:=by omega
 refine iB ?_;refine ai.cG rfl rfl rfl rfl rfl rfl (λav=>ad.shift rfl rfl rfl rfl (cf av) aa (ml _ ⟨aa,aa⟩)) ?_;refine aV ?_;refine ai.cG rfl rfl rfl rfl rfl rfl (λav=>ad.div rfl rfl rfl (cf av) rfl aa (.inr ⟨rfl,rfl⟩)) ?_;refine ay ?_;refine aB 4 (H) ?_;exact⟨bn (by rw[he];exact acP k),rfl⟩
def IA{p:Prog}(aD:(bu p).isSome)(l:al):aI prog 72 [ab.prog p,ab.ints l] (.b (l.all (cq (aG p)))):=by
 intro H;refine aM (n:=19) func72 λB I bN=>?_;refine aA.ez (t:=1) rfl (λgP=>?_);refine di ?_;refine bm (λm st=>∃k:Nat,st=⟨[(5,.i k),(1,ab.ints l),(2,.ptr (cH p))],H⟩/\m=l.length - k/\k<=l.length/\(l.take k).all (cq (aG p))=true) (⟨0,rfl,rfl,aa,rfl⟩) ?_;rintro m _ ⟨k,rfl,rfl,bD,df⟩;refine a8 ?_;refine az (λaf=>?_) λaf=>?_
 ·have lU:k<l.length:=by omega
  refine aS ?_;refine aA.cu mixed ?_;refine bW.dk 0 5 19 rfl ao rfl rfl ao ?_;refine aP ?_;refine ag (ad.call .k (acQ aD _)) ?_;refine aH ?_;refine aA.cond rfl (λae=>?_) (λae=>?_)
  ·have ae:cq (aG p) (l.getD k default)=false:=by simpa using ae
   refine bA ?_;refine aB 4 (H) ?_;exact⟨bn (HP lU ae).symm,rfl⟩
  ·have ae:cq (aG p) (l.getD k default)=true:=by simpa using ae
   refine aJ ?_;exact aU (⟨k+1,rfl,rfl,lU,Dl lU df ae⟩)
 ·obtain rfl:k=l.length:=by omega
  rw[List.take_length] at df;refine bA ?_;refine aB 4 (H) ?_;exact⟨bn (by rw[df]),rfl⟩
def QP{p:Prog}(aD:(bu p).isSome)(t:cv):aI prog 35 [ab.prog p,ab.dI t] (.b (h5 p t)):=by
 intro H;refine aM (n:=83) func35 λB I bN=>?_;have heq:=Iu p t;have gk:=jY aD;refine XQ ?_;rw[QL];refine aA.cond rfl (λaf=>?_) (λaf=>?_)
 ·have af:rl p t=false:=by simpa using af
  refine aP ?_;refine aB 4 (H) ?_;exact⟨bn (by rw[heq,af];rfl),rfl⟩
 ·have af:rl p t=true:=by simpa using af
  obtain⟨alB,QQ,alC,alD⟩:=It.1 af;rw[af,Bool.true_and] at heq;refine a8 ?_;refine bm (λm st=>∃i:Nat,st=⟨[(5,.i i),(3,.ptr (jU t)),(2,.ptr (cH p))],H⟩/\m=t.params.length - i/\i<=t.params.length/\(List.range i).all (p4 p (aG p) t)=true) (⟨0,rfl,rfl,aa,rfl⟩) ?_;rintro m _ ⟨i,rfl,rfl,aN,df⟩;refine bQ ?_;refine az (λae=>?_) λae=>?_
  ·have bF:i<t.params.length:=by omega
   have acR:=tV aD (i:=i) aa;refine aS ?_;refine aA.cu mixed ?_;refine bW.dk 0 16 83 rfl ao rfl rfl ao ?_;refine c6 ?_;refine ed.cc rfl rfl rfl (k1) ?_;refine bQ ?_;refine bW.dk 18 24 83 rfl ao rfl rfl ao ?_;refine aJ ?_;refine ai.cG rfl rfl rfl rfl rfl rfl (λav=>ad.call (.mk' rfl rfl rfl rfl cU) (IA aD _)) ?_;refine aV ?_;rw[QM];refine aA.cond rfl (λak=>?_) (λak=>?_)
   ·have ak:p4 p (aG p) t i=false:=by simpa using ak
    refine bA ?_;refine aB 4 (H) ?_;exact⟨bn (by rw[heq,Ap,QO bF ak];rfl),rfl⟩
   ·have ak:p4 p (aG p) t i=true:=by simpa using ak
    refine aJ ?_;exact aU (⟨i+1,rfl,rfl,bF,QN df ak⟩)
  ·obtain rfl:i=t.params.length:=by omega
   have IB:Ap p t=true:=df;rw[IB,Bool.true_and] at heq;refine bQ ?_;refine ag (ad.call .k (IA aD _)) ?_;refine aV ?_;refine ai.cG rfl rfl rfl rfl rfl rfl (λav=>ad.call (.mk' rfl rfl rfl rfl cU) (IA aD _)) ?_;refine aS ?_;refine aB 4 (H) ?_;exact⟨bn (by rw[heq,Bool.cond_false_right]),rfl⟩
def QR(Z T:Bool):(bif !Z then true else !T)= !(Z && T):=by cases Z <;> rfl
def acS{p}(a:(bu p).isSome){c}(j:c<aG p){s}(m:0<=s/\s<p.aw):(bif decide ((c:Int)>=3) then jg (bR p) c ((bR p).owner.getD s.toNat default) else false)=dK p c s:=by
 obtain⟨o,h⟩:=Option.isSome_iff_exists.1 a;have f:=ow.of (jf h).1;have l:=DD a;unfold dK;by_cases g:3<=c
 ·rw[show decide ((c:Int)>=3)=true by simp;omega,show decide (3<=c)=true by simp[g],HK f aa (by unfold aG at j;omega),P1];rw[show decide (0<=s)=true by simp;omega,show decide (s<((bR p).owner.length:Int))=true by simp;omega];rfl
 ·rw[show decide ((c:Int)>=3)=false by simp;omega,show decide (3<=c)=false by simp;omega];rfl
def DL{p}(f:(bu p).isSome){c}(g:c<aG p){s}(j:0<=s/\s<p.aw):aI prog 85 [ab.world (bR p),.i c,.i s] (.b (dK p c s)):=by
 intro H;refine aM func85 λB I o=>?_;have h:=(xB f).world;have l:=DD f;have m:=PW h (s:=s.toNat) aa;refine aP ?_;refine .cu mixed ?_;refine bS ?_;refine .dk 3 10 19 rfl ao rfl rfl ao ?_;refine aS ?_;refine jS (λav=>KY) ?_;refine aH ?_;refine ai.cG rfl rfl rfl rfl rfl rfl (λav=>.call (.mk' rfl rfl rfl rfl cU) (HO h (a:=c) (b:=((bR p).owner.getD s.toNat default)) (DF g) E8)) ?_;refine aS ?_;refine aB 6 H ?_;exact⟨bn (acS f g j),rfl⟩
def QS{p}(h:ln p t){c:Nat}(a:1<=c):∀path:al,(kp p t c path).1.testBit 0=false:=λpath=>by
 rcases List.eq_nil_or_concat path with rfl | ⟨q,s,rfl⟩
 ·show (2^((c:Int).toNat)).testBit 0=false;rw[Nat.testBit_two_pow];simp;omega
 ·rw[List.concat_eq_append,Ii];unfold nF;split
  ·exact (Dw h _).2.2
  ·exact Nat.zero_testBit 0
def IC(h:k.testBit 0=false):eP k 1= []:=by rw[tR,h];rfl
def ID(h:k.testBit c=false):eP k (c+1)=eP k c:=by rw[tR,h];simp
def Ar(h:k.testBit c=true):eP k (c+1)=eP k c++[c]:=by rw[tR,h];simp
def QT{p}{s}(h:k.testBit c=true)(g:dK p c s)(b):jh p t s (eP k c) ||| (t.aw.getD s.toNat default).toNat=jh p t s (eP k (c+1))/\lq p s b (eP k c)=lq p s b (eP k (c+1)):=by
 rw[Ar h];unfold jh lq;rw[List.any_append,List.any_append,List.any_cons,List.any_cons,g];refine⟨?_,aT⟩;rw[Bool.true_or,Bool.or_true,if_pos rfl];split <;> simp
def QU{p}{s}(h:k.testBit c=true)(a:dK p c s=false)(b):jh p t s (eP k c)=jh p t s (eP k (c+1))/\true=lq p s b (eP k (c+1)):=by
 rw[Ar h];unfold jh lq;rw[List.any_append,List.any_append,List.any_cons,List.any_cons,a];exact⟨aT,aT⟩
def acT{p:Prog}(z:(bu p).isSome)(w:ln p t)(G:(t.aw.length:Int)=p.aw){c:Nat}(F:1<=c/\c<aG p){path:al}(j:∀s∈path,0<=s/\s<p.aw):aI prog 164 [ab.world (bR p),ab.dI t,.i c,ab.ints path] (.agg [.i (kp p t c path).1,.b (kp p t c path).2]):=by
 intro H;refine aM (n:=60) func164 λB I P=>?_;have R:=mm z;have L:=oA z;have C:=rf p;have O:((bR p).parents.length:Int)+3=aG p:=by rw[C];unfold aG;omega
 refine aA.ez (t:=3) rfl (λalE=>?_);refine aV ?_;refine bT (λdR=>?_);refine aS ?_;refine ag (ad.shift rfl rfl rfl rfl rfl aa (ml c ⟨aa,aa⟩)) ?_;refine aR ?_;refine bT (λfg=>?_);refine bQ ?_;refine bm (λm A=>∃(i:Nat) (k:Nat×Bool),A=⟨[(10,.i i),(9,.p fg 0),(8,.p dR 0),(3,ab.ints path),(4,.ptr (cB (bR p))),(5,.ptr (jU t))],.au fg 205 [.i k.1,.b k.2]::.au dR 205 [.val aY,.val (.bool false)]::H⟩/\m=path.length - i/\i<=path.length/\k=kp p t c (path.take i)) (⟨0,(2^c,false),rfl,rfl,aa,rfl⟩) ?_;rintro m _ ⟨i,k,rfl,rfl,Q,r⟩;refine a8 ?_;refine az (λaf=>?_) λaf=>?_
 ·have h:i<path.length:=by omega
  have a:k.1<2^aG p:=by rw[r];exact Dx w (by simpa using F.2) _
  have x:k.1.testBit 0=false:=by rw[r];exact QS w F.1 _
  have q:=QG j h;have l:=QH p t c h;rw[<-r] at l;obtain⟨s,o⟩:∃s,s=path.getD i default:=⟨_,rfl⟩;rw[<-o] at q l;have B:=Dw w s.toNat;have fm:jh p t s (eP k.1 1)=0/\lq p s k.2 (eP k.1 1)=k.2:=by rw[IC x];exact⟨rfl,Bool.or_false _⟩
  refine a8 ?_;refine bT (λnb=>?_);refine bQ ?_;refine bm (λm A=>∃d:Nat,A=⟨[(12,.i d),(11,.p nb 0),(10,.i i),(9,.p fg 0),(8,.p dR 0),(3,ab.ints path),(4,.ptr (cB (bR p))),(5,.ptr (jU t))],.au nb 205 [.i (jh p t s (eP k.1 d)),.b (lq p s k.2 (eP k.1 d))]::.au fg 205 [.i k.1,.b k.2]::.au dR 205 [.val aY,.val (.bool false)]::H⟩/\m=aG p - d/\1<=d/\d<=aG p) (⟨1,by rw[fm.1,fm.2],rfl,aa,aa⟩) ?_;rintro m _ ⟨d,rfl,rfl,M,S⟩;refine bA ?_;refine az (λae=>?_) λae=>?_
  ·have f:d<aG p:=by omega
   refine bQ ?_;refine ag (ad.call .k (p9 k.1 d aa)) ?_;refine aH ?_;refine bc (λak=>?_) (λak=>?_)
   ·have ak:k.1.testBit d=false:=by simpa using ak
    refine a8 ?_;exact aU (⟨d+1,by rw[ID ak],rfl,aa,f⟩)
   ·have ak:k.1.testBit d=true:=by simpa using ak
    refine aH ?_;refine b0 6 60 ?_;refine aS ?_;refine bh (ad.le (ad.cE rfl rfl rfl rfl) (aq.b6 o.symm)) ?_;refine aQ ?_;refine ag (ad.call .k (DL z f q)) ?_;refine aQ ?_;refine bc (λaL=>?_) (λaL=>?_)
    ·refine b0 10 60 ?_;refine aP ?_;refine bh (ad.le (ad.cE rfl rfl rfl rfl) (aq.b6 o.symm)) ?_;refine bh (k1) ?_;refine bh (ad.le (ad.cE rfl rfl rfl rfl) (aq.b6 B.1)) ?_;refine aQ ?_;refine ag (ad.bits rfl rfl rfl rfl rfl (kt _ _ (by unfold jh;split <;> omega) aa)) ?_;refine bQ ?_;exact aU (⟨d+1,by rw[<-(QT ak aL k.2).1, <-(QT (t:=t) ak aL k.2).2],rfl,aa,f⟩)
    ·refine bA ?_;exact aU (⟨d+1,by rw[<-(QU ak aL k.2).1, <-(QU (t:=t) ak aL k.2).2],rfl,aa,f⟩)
  ·obtain rfl:d=aG p:=by omega
   have N:jh p t s (eP k.1 (aG p))=(nF p t s k).1:=by rw[Ak a aa,Dy a aa];rfl
   have K:lq p s k.2 (eP k.1 (aG p))=(nF p t s k).2:=by rw[Ak a aa,Dy a aa];rfl
   rw[N,K];refine iB ?_;exact aU (⟨i+1,nF p t s k,rfl,rfl,h,l.symm⟩)
 ·obtain rfl:i=path.length:=by omega
  rw[List.take_length] at r;rw[<-r];refine bS ?_;refine dM [.cell 8 205] (H) ?_;exact⟨cM,rfl⟩
def acU(x y):iG [.b (bif x.1 then y.1 else false),.b (bif bif bif x.1 then y.2 else false then true else bif x.2 then y.1 else false then true else bif x.2 then y.2 else false)]= .bj [.b (Am x y).1,.b (Am x y).2]:=by
 obtain⟨a,b⟩:=x;obtain⟨c,d⟩:=y;cases a <;> cases b <;> cases c <;> cases d <;> rfl
def acV(x y):iG [.b (bif bif bif x.1 then y.1 else false then true else bif x.1 then y.2 else false then true else bif x.2 then y.1 else false),.b (bif x.2 then y.2 else false)]= .bj [.b (Dv x y).1,.b (Dv x y).2]:=by
 obtain⟨a,b⟩:=x;obtain⟨c,d⟩:=y;cases a <;> cases b <;> cases c <;> cases d <;> rfl
def acW{p}{f}(a:f.op≠1)(j:f.op≠5)(h:f.op≠6)(g:f.op≠7)(c:f.op≠2){k}(m:k=kp p t (l.getD f.arg.toNat default) f.path):iG [.b (k.1.testBit 1),.b (bif ((k.1:Int) !=0) then true else k.2)]= .bj [.b (cX p t l f).1,.b (cX p t l f).2]:=by
 rw[<-QI a j h g c m];show ab.bj _=_;cases k.2 <;> cases ((k.1:Int) !=0) <;> rfl
def QV(p)(c)(b)(pre)(x:Nat):oB p c b (pre++[x])=((oB p c b pre).1 || jg (bR p) x c,(oB p c b pre).2 || !jg (bR p) x c):=by
 unfold oB;rw[List.any_append,List.any_append,List.any_cons,List.any_cons,List.any_nil,List.any_nil,Bool.or_false,Bool.or_false,Bool.or_assoc]
def acX{p}(v:(bu p).isSome)(F:ln p t)(D:(t.aw.length:Int)=p.aw)(Y:∀c∈l,1<=c/\c<aG p){f}(q:ib p l f)(w:∀k∈f.kids,aI prog 122 [ab.world (bR p),ab.dI t,ab.fact k,.ints l] (.bj [.b (cX p t l k).1,.b (cX p t l k).2])):aI prog 122 [ab.world (bR p),ab.dI t,ab.fact f,.ints l] (.bj [.b (cX p t l f).1,.b (cX p t l f).2]):=by
 intro H;refine aM func122 λB I bN=>?_;have hm:=mm v;have Z:=oA v;have G:=rf p;have X:((bR p).parents.length:Int)+3=aG p:=by rw[G];unfold aG;omega
 have W:=(xB v).world;refine o9 ?_;refine az (λaf=>?_) λaf=>?_
 ·refine a8 ?_;refine dM [.tmp 8,.tmp 9] H ?_;exact⟨by rw[Qw af];rfl,rfl⟩
 ·refine ay ?_;refine az (λae=>?_) λae=>?_
  ·have E:=q.ops.1 ae;refine aR ?_;refine b0 7 175 ?_;refine a8 ?_;refine ag (.call .k (w _ nA)) ?_;refine ay ?_;refine .dk 9 12 175 rfl ao rfl rfl ao ?_;refine uW ?_;refine dM [.tmp 8,.tmp 9] H ?_;exact⟨by rw[Qx ae E];rfl,rfl⟩
  ·refine ay ?_;refine az (λak=>?_) λak=>?_
   ·have j:=q.ops.2.1 (.inl ak);refine aR ?_;refine b0 7 175 ?_;refine a8 ?_;refine ag (.call .k (w _ nA)) ?_;refine ay ?_;refine .dk 9 12 175 rfl ao rfl rfl ao ?_;refine a8 ?_;refine b0 7 175 ?_;refine a8 ?_;refine ag (.call .k (w _ nA)) ?_;refine ay ?_;refine .dk 9 12 175 rfl ao rfl rfl ao ?_;refine Ng ?_;refine dM [.tmp 8,.tmp 9] H ?_;exact⟨by rw[Qy ak j];exact acU _ _,rfl⟩
   ·refine ay ?_;refine az (λaL=>?_) λaL=>?_
    ·have j:=q.ops.2.1 (.inr aL);refine aR ?_;refine b0 7 175 ?_;refine a8 ?_;refine ag (.call .k (w _ nA)) ?_;refine ay ?_;refine .dk 9 12 175 rfl ao rfl rfl ao ?_;refine a8 ?_;refine b0 7 175 ?_;refine a8 ?_;refine ag (.call .k (w _ nA)) ?_;refine ay ?_;refine .dk 9 12 175 rfl ao rfl rfl ao ?_;refine Ng ?_;refine dM [.tmp 8,.tmp 9] H ?_;exact⟨by rw[Qz aL j];exact acV _ _,rfl⟩
    ·have C:=q.ops.2.2 af ae ak aL;obtain⟨n4,x,_,J⟩:=q.leaf C;have V:=Y _ (bH (k:=f.arg.toNat) (l:=l) aa);obtain⟨c,P⟩:∃c:Nat,l.getD f.arg.toNat default=c:=⟨(l.getD f.arg.toNat default).toNat,aa⟩;have T:=DD v;have o:aI prog 164 [ab.world (bR p),ab.dI t,.i c,.ints f.path] _:=acT v F D ⟨aa,aa⟩ (λs h=>⟨(x s h).1,by have:=(x s h).2;omega⟩);obtain⟨k,r⟩:∃k,k=kp p t (l.getD f.arg.toNat default) f.path:=iZ;have g:k.1<2^aG p:=by rw[r];exact Dx F aa _
     have z:k.1.testBit 0=false:=by rw[r,P];exact QS F aa _
     rw[<-P, <-r] at o;refine aV ?_;refine .cu mixed ?_;refine .Cx [⟨10,20,205,[aY,.bool false],11,[.i k.1,.b k.2]⟩] 0 12 175 rfl ao ax rfl rfl ao ?_;refine eH (nU) ?_;refine eH (nU) ?_;refine eH pb ?_;refine eH (b9) ?_;refine eH (cP) ?_;refine eH (k1) ?_;refine eH (cP) ?_;refine eH (b9) ?_;refine eH (cP) ?_;refine eH (.call .k o) ?_;refine .zg [] [] ⟨10,20,205,[aY,.bool false],11,[.i k.1,.b k.2]⟩ rfl ⟨0,12,ax⟩ rfl rfl rfl rfl rfl rfl rfl ?_;refine .zh [] [] ⟨10,20,205,[aY,.bool false],11,[.i k.1,.b k.2]⟩ rfl ⟨0,12,ax⟩ rfl rfl rfl (λb H1 H2 R=>.store rfl rfl rfl rfl rfl rfl rfl rfl R fl fl) ?_;refine .nil λea=>?_;simp[List.map_cons,List.map_nil,List.cons_append,List.nil_append];refine .done rfl ?_;refine aH ?_;refine eB 20 ?_;refine ay ?_;refine az (λbo=>?_) λbo=>?_
     ·refine aR ?_;refine b0 6 175 ?_;refine aQ ?_;refine bh (.call .k (p9 _ 1 aa)) ?_;refine aJ ?_;refine .dk 7 11 175 rfl ao rfl rfl ao ?_;refine bA ?_;refine dM [.tmp 8,.tmp 9] H ?_;exact⟨acW af ae ak aL bo r,rfl⟩
     ·have N:=J bo;have B:jr (bR p) f.cls=true:=DB.2 lK;refine aH ?_;refine b0 3 175 ?_;refine dW ?_;refine bm (λm S=>∃(d:Nat) (y:Bool×Bool),S=⟨[(23,.i d),(21,.b y.1),(22,.b y.2),(20,.ptr [.i k.1,.b k.2]),(4,.ptr (cB (bR p))),(6,.ptr (fy f))],H⟩/\m=aG p - d/\1<=d/\d<=aG p/\y=oB p f.cls k.2 (eP k.1 d)) (⟨1,(false,k.2),rfl,rfl,aa,aa,by rw[IC z];simp[oB]⟩) ?_;rintro m _ ⟨d,y,rfl,rfl,U,a6,hy⟩;refine bA ?_;refine az (λcm=>?_) λcm=>?_
      ·have a:d<aG p:=by omega
       refine a8 ?_;refine ag (.call .k (p9 k.1 d aa)) ?_;refine aQ ?_;refine bc (λdx=>?_) λdx=>?_
       ·refine ay ?_;refine ag (.call .k (HO W (DF a) B)) ?_;refine aQ ?_;refine bc (λdF=>?_) λdF=>?_
        ·refine bQ ?_;exact aU (⟨d+1,(true,y.2),rfl,rfl,aa,a,by rw[Ar dx,QV, <-hy,dF];simp⟩)
        ·refine bQ ?_;exact aU (⟨d+1,(y.1,true),rfl,rfl,aa,a,by rw[Ar dx,QV, <-hy,dF];simp⟩)
       ·refine aJ ?_;exact aU ⟨d+1,y,rfl,rfl,aa,a,by rw[ID dx];exact hy⟩
      ·obtain rfl:d=aG p:=by omega
       rw[Ak g aa,QJ aa bo r g] at hy;refine c6 ?_;refine dM [.tmp 8,.tmp 9] H ?_;exact⟨by rw[<-hy];rfl,rfl⟩
def QW{p}(q:(bu p).isSome)(o:ln p t)(a:(t.aw.length:Int)=p.aw)(m:∀c∈l,1<=c/\c<aG p):∀f:Fact,ib p l f->aI prog 122 [ab.world (bR p),ab.dI t,ab.fact f,.ints l] (.bj [.b (cX p t l f).1,.b (cX p t l f).2]):=Fact.mf λf j h=>acX q o a m h λk g=>j k g (h.Qv k g)
def DM(t:cv):Bool:=decide (t.bC.length>60) || decide (t.params.length>60) || decide (t.nodes.length>200) || decide (t.aw.length>60) || t.params.any λl=>decide (l.length>10)
def acY{α:Type}[Inhabited α]{l:List α}{i:Nat}{p:α->Bool}(aN:i<l.length)(h:(l.take i).any p=false)(ak:p (l.getD i default)=false):(l.take (i+1)).any p=false:=by rw[<-c3 aN,List.any_append,h,List.any_cons,ak];rfl
def acZ{α:Type}[Inhabited α]{l:List α}{i:Nat}{p:α->Bool}(aN:i<l.length)(ak:p (l.getD i default)=true):l.any p=true:=List.any_eq_true.2 ⟨_,bH aN,ak⟩
def ac0(A B C D:Bool):(bif bif bif A then true else B then true else C then true else D)=(A || B || C || D):=by cases A <;> cases B <;> cases C <;> rfl
def DN(a:Nat)(b:Nat):decide ((a:Int)>(b:Int))=decide (a>b):=by rw[Bool.eq_iff_iff];simp
def ac1(t:cv):aI prog 7 [ab.dI t] (.b (DM t)):=by
 intro H;refine aM (n:=40) func7 λB I bN=>?_;have bM:decide ((t.bC.length:Int)>60)=decide (t.bC.length>60):=DN _ 60;have bJ:decide ((t.params.length:Int)>60)=decide (t.params.length>60):=DN _ 60;have e6:decide ((t.nodes.length:Int)>200)=decide (t.nodes.length>200):=DN _ 200;have ns:decide ((t.aw.length:Int)>60)=decide (t.aw.length>60):=DN _ 60;refine Nf ?_;rw[ac0,bM,bJ,e6,ns];refine aA.cond rfl (λaf=>?_) (λaf=>?_)
 ·refine aP ?_;refine aB 2 (H) ?_;exact⟨bn (by unfold DM;rw[af];rfl),rfl⟩
 ·have p6:t.params.length<=60:=by simp only[Bool.or_eq_false_iff,decide_eq_false_iff_not] at af;omega
  refine a8 ?_;refine bm (λm st=>∃i:Nat,st=⟨[(3,.i i),(1,.ptr (jU t))],H⟩/\m=t.params.length - i/\i<=t.params.length/\((t.params.take i).any λl=>decide (l.length>10))=false) (⟨0,rfl,rfl,aa,rfl⟩) ?_;rintro m _ ⟨i,rfl,rfl,aN,df⟩;refine bQ ?_;refine az (λae=>?_) λae=>?_
  ·have bF:i<t.params.length:=by omega
   refine dW ?_;refine az (λak=>?_) λak=>?_
   ·have ak:decide ((t.params.getD i default).length>10)=true:=by rw[decide_eq_true_eq];omega
    refine bA ?_;refine aB 2 (H) ?_;exact⟨bn (by unfold DM;rw[acZ bF ak,Bool.or_true]),rfl⟩
   ·have ak:decide ((t.params.getD i default).length>10)=false:=by rw[decide_eq_false_iff_not];omega
    refine aJ ?_;exact aU (⟨i+1,rfl,rfl,bF,acY bF df ak⟩)
  ·obtain rfl:i=t.params.length:=by omega
   rw[List.take_length] at df;refine bA ?_;refine aB 2 (H) ?_;exact⟨bn (by unfold DM;rw[af,df];rfl),rfl⟩
end Go.Proofs.YtodccgailpkgeaaGreat

