/- A part of the proof. No condition. -/
import Derived.Test.YtodccgailpkgeaaGreatKindInfersP21
set_option linter.defProp false
set_option maxHeartbeats 1000000
set_option linter.unusedVariables false
set_option linter.unusedSimpArgs false
set_option maxRecDepth 10000
namespace Go.Proofs.YtodccgailpkgeaaGreat
open Go.Proofs.Tryz
open Go.Eng
open Go.Eng.Fc
open Go.Eng.dN
variable{y:hi}{W:bt}{f:Fact}{B:List (List Fact)}{i k:Nat}{g:GT}{p:Prog}{ah:Nat->Nat->Bool}{q:gx}{Hx:aA}{l:cW}{env:ak}{bB:Int}
def cy(f:Fact)(c:Bool):List (List Fact):=(eh f c).map eV
def agh(l:List Fact)(x:Fact):l.contains x=l.any λy=>x==y:=by rw[List.contains_eq_any_beq]
def agi{x y}(j:x.f.op<=4)(hy:y.f.op<=4):(ju x==ju y)=(x.neg==y.neg && x.f==y.f):=by
 have a:=xX j;have c:=xX hy;rw[Bool.eq_iff_iff,beq_iff_eq,Bool.and_eq_true,beq_iff_eq,beq_iff_eq];constructor
 ·intro e;rw[e,c] at a;cases x;cases y;simp at a ⊢;exact⟨a.2.symm,a.1.symm⟩
 ·rintro⟨g,h⟩;rw[ju,ju,g,h]
theorem SN:∀(b a:List cZ),(∀l∈a,l.f.op<=4)->(∀l∈b,l.f.op<=4)->eV (fR a b)=gj (eV a) (eV b)
 | [],a,_,_=>rfl
 | x::r,a,g,j=>by
  show eV (fR (nE a x) r)=gj (qi (eV a) (ju x)) (eV r);have h:=j x dv;have e:eV (nE a x)=qi (eV a) (ju x):=by
   unfold nE qi;have e:(eV a).contains (ju x)=a.any λy=>x.neg==y.neg && x.f==y.f:=by
    rw[agh,eV,List.any_map];exact tA λy m=>agi h (g y m)
   rw[e];split
   ·rfl
   ·simp[eV]
  rw[SN r _ (λl c=>?_) (λl c=>j l (.tail _ c)),e];unfold nE at c;split at c
  ·exact g l c
  ·rcases List.mem_append.1 c with c | c
   ·exact g l c
   ·rw[List.mem_singleton.1 c];exact h
def SO(h:dS W f){c}{l}(a:l∈eh f c):∀x∈l,x.f.op<=4:=λx g=>by
 have:=(D3 f h c l a x g).2;simp[dm,Bool.and_eq_true,decide_eq_true_eq] at this;exact this.2
def all_true(h:f.op=1)(c):cy f c=if c then [] else [[]]:=by rw[cy,Au h];cases c <;> rfl
def agj(h:f.op=5)(a:0<f.kids.length)(c):cy f c=cy (f.kids.getD 0 default) (!c):=by rw[cy,Av h a,cy]
def SP(g: ¬f.op=1)(a: ¬f.op=5)(h:dm f)(c):cy f c= [[if c then ox f else f]]:=by rw[cy,Aw g a h];cases c <;> rfl
def agk(a: ¬f.op=1)(j: ¬f.op=5)(h:dm f=false){c}(g:(c==(f.op==6))=true)(l:1<f.kids.length):cy f c=cy (f.kids.getD 0 default) c++cy (f.kids.getD 1 default) c:=by
 rw[cy,Ax a j h g l,List.map_append,cy,cy]
def agl(A:dS W f)(v: ¬f.op=1)(s: ¬f.op=5)(z:dm f=false){c}(w:(c==(f.op==6))=false)(q:1<f.kids.length):cy f c=(cy (f.kids.getD 0 default) c).flatMap λa=>(cy (f.kids.getD 1 default) c).map (gj a):=by
 have g:=(mK.1 A).2;rw[cy,Ay v s z w q,cy,cy,List.map_flatMap,List.flatMap_map];have j:∀l:List (List cZ),(∀x∈l,x∈eh (f.kids.getD 0 default) c)->(l.flatMap λa=>((eh (f.kids.getD 1 default) c).map (fR a)).map eV)=l.flatMap λa=>((eh (f.kids.getD 1 default) c).map eV).map (gj (eV a)):=by
  intro l
  induction l with
  | nil=>intro _;rfl
  | cons x r t=>
   intro o;rw[List.flatMap_cons,List.flatMap_cons,t (λy m=>o y (.tail _ m)),List.map_map,List.map_map];congr 1;refine List.map_congr_left λy m=>?_;exact SN y x (SO (g _ gX) (o x dv)) (SO (g _ (hQ q)) m)
 exact j _ λ_ h=>h
def agm{a b}(h:1<=a)(g:1<=b):2^a+2^b<=2^(a+b):=by
 have f:2<=2^a:=by have:=Nat.pow_le_pow_right (n:=2) aa h;omega
 have c:2<=2^b:=by have:=Nat.pow_le_pow_right (n:=2) aa g;omega
 rw[Nat.pow_add];generalize 2^a=A at*;generalize 2^b=B at*;have l:A*2<=A*B:=Nat.mul_le_mul_left A c;have j:2*B<=A*B:=Nat.mul_le_mul_right B f;omega
def agn:∀f:Fact,okB f=true->∀c,(eh f c).length<=2^((cU f+1) / 2):=by
 refine Fact.l5 λf s h c=>?_;have t:=vE h;have H:=pY f;have w:1<=2^((cU f+1) / 2):=Nat.one_le_two_pow;by_cases o:f.op=1
 ·rw[Au o];cases c
  ·exact w
  ·simp
 by_cases j:f.op=5
 ·have C:=AB h j;rw[Av j aa];have E:=Rh f.kids aa;exact Nat.le_trans (s (f.kids.getD 0 default) gX (t.2.2.2.2 _ gX) (!c)) (Nat.pow_le_pow_right aa aa)
 by_cases m:dm f=true
 ·rw[Aw o j m];simpa using w
 ·have g:dm f=false:=by simpa using m
  have C:=Az h o j g;have D:=DU f.kids aa;have A:=s (f.kids.getD 0 default) gX (t.2.2.2.2 _ gX) c;have z:=s (f.kids.getD 1 default) gX (t.2.2.2.2 _ gX) c;have G:1<=cU (f.kids.getD 0 default):=by rw[pY];omega
  have F:1<=cU (f.kids.getD 1 default):=by rw[pY];omega
  have B:2^((cU (f.kids.getD 0 default)+1) / 2+(cU (f.kids.getD 1 default)+1) / 2)<=2^((cU f+1) / 2):=Nat.pow_le_pow_right aa aa;refine Nat.le_trans ?_ B;cases a1:(c==(f.op==6)) with
  | true=>
   rw[Ax o j g a1 aa,List.length_append];exact Nat.le_trans (Nat.add_le_add A z) (agm aa aa)
  | false=>
   rw[Ay o j g a1 aa,List.length_flatMap,Nat.pow_add];have v:∀l:List (List cZ),(l.map λa=>((eh (f.kids.getD 1 default) c).map (fR a)).length).sum=l.length*(eh (f.kids.getD 1 default) c).length:=by
    intro l
    induction l with
    | nil=>simp
    | cons x r q=>rw[List.map_cons,List.sum_cons,q,List.length_map,List.length_cons,Nat.add_mul];omega
   rw[v];exact Nat.mul_le_mul A z
def AT(a:okB f)(c):(cy f c).length<=2^((cU f+1) / 2):=by rw[cy,List.length_map];exact agn f a c
def JR(a:okB f)(c){x}(h:x∈cy f c):x.length<=cU f:=by
 obtain⟨l,g,rfl⟩:=List.mem_map.1 h;rw[eV,List.length_map];exact Ja f a c l g
def ago(l:List (List Fact))(x):ab.ai 1 ((l.map λx=>[ab.facts x])++[[ab.facts x]])=ab.jR (l++[x]):=by rw[ab.jR,List.map_append];rfl
def pn(A B:List (List Fact))(i:Nat):List (List Fact):=(A.take i).flatMap λa=>B.map (gj a)
def agp{A B}(h:i<A.length):pn A B (i+1)=pn A B i++B.map (gj (A.getD i default)):=by
 rw[pn, <-c2 h,List.flatMap_append];simp[pn]
def agq(A B)(i):(pn A B i).length=(A.take i).length*B.length:=by
 unfold pn;generalize A.take i=l
 induction l with
 | nil=>simp
 | cons x r a=>rw[List.flatMap_cons,List.length_append,a,List.length_map,List.length_cons,Nat.add_mul];omega
def agr{g:List Fact->List Fact}{j}(h:j<B.length)(R:List (List Fact)):R++(B.take (j+1)).map g=(R++(B.take j).map g)++[g (B.getD j default)]:=by
 rw[<-c2 h,List.map_append,List.append_assoc];rfl
def qO.ags{P}{f}{xs}{e k}{y}(h:qO P f xs e k y):aG P f xs y:=λH=>by
 refine⟨(h H).1,λB I w q o l j=>((h H).2 B I w q o l j).mono λe' s g=>?_⟩;obtain⟨m,r,a,b,d,g⟩:=g;rcases g with⟨v,x,rfl,c,u,rfl,rfl⟩ | ⟨v,x,_,_,jX⟩
 ·refine⟨m,H,a,b,d.sub MU,.inl ⟨v,y,rfl,?_,rfl,rfl⟩⟩
  match c with
  | .as _ _ c=>exact c
 ·exact jX.elim
def an.SQ{x y}{v}(h:an x y):an (.as x v) (.as y v):=λI w u c=>by
 match c with
 | .as _ _ a=>exact .as _ _ (h _ _ _ a)
def SR{c}(h:(f.op==6 || f.op==7)=true):(c !=(f.op==7))=(c==(f.op==6)):=by
 rw[Bool.or_eq_true,beq_iff_eq,beq_iff_eq] at h;rcases h with e | e <;> rw[e] <;> cases c <;> rfl
def agt(f)(K:dS W f)(hn:cU f<=52)(E:∀k∈f.kids,∀c,qO prog 194 [ab.fact k,.b c] 58 1 (ab.jR (cy k c)))(c):qO prog 194 [ab.fact f,.b c] 58 1 (ab.jR (cy f c)):=by
 intro H;refine aM func194 λB I bW=>?_;have r:=xN f K;have L:=vE r;have jX:=pY f;refine jj ?_;refine az (λaf=>?_) λaf=>?_
 ·refine ax ?_;refine az (λae=>?_) λae=>?_
  ·refine ba ?_;refine .qx 4 58 1 rfl ?_;refine aC 4 _ ?_;exact⟨_,by rw[all_true af,if_pos ae];rfl,rfl⟩
  ·refine aY ?_;refine .uS rfl rfl rfl rfl cC rfl rfl rfl rfl rfl rfl rfl λakQ=>?_;refine ax ?_;refine .cg (rs:=[.tmp 4]) (H':=_) rfl eQ (.cons (an.SQ (.ai (.cons (.cons (.nil 6) .nil) .nil))) .nil) bC ?_;exact⟨_,by rw[all_true af,if_neg rM];rfl,rfl⟩
 ·refine ax ?_;refine az (λao=>?_) λao=>?_
  ·have R:=AB r ao;refine aI ?_;refine cE .k ((E (f.kids.getD 0 default) gX (!c) H).b) ?_;rintro _ _ ⟨v,rfl,rfl⟩;refine ax ?_;refine aC 4 _ ?_;exact⟨_,by rw[agj ao aa];rfl,rfl⟩
  ·refine .kV (λst=>∃u:Bool,st=⟨[(27,.b u),(2,.ptr (fy f)),(1,.b c)],H⟩/\u=(f.op==6 || f.op==7)) ?_ ?_
   ·refine ax ?_;refine az (λaV=>?_) λaV=>?_
    ·refine aR ?_;exact dh ⟨f.op==6,rfl,by rw[aV];rfl⟩
    ·refine aY ?_;exact dh ⟨f.op==7,rfl,by rw[beq_eq_false_iff_ne.2 aV];rfl⟩
   ·rintro _ ⟨u,rfl,G⟩;refine az (λbu=>?_) λbu=>?_
    ·subst G;have s:=bu;have a:dm f=false:=by simp[dm,Bool.and_eq_false_iff,decide_eq_false_iff_not];simp[Bool.or_eq_true,beq_iff_eq] at s;omega
     have R:=Az r af ao a;have te:=DU f.kids aa;refine aR ?_;refine .cw mixed ?_;refine .Wa 58 1 (ab.jR (cy (f.kids.getD 0 default) c)) 35 5 0 11 79 rfl aq aq rfl rfl aq ?_;refine bj.qP aq rfl rfl rfl rfl rfl (λ_=>b5) ?_;refine bj.qP aq rfl rfl rfl rfl rfl (λ_=>cJ) ?_;refine bj.qP aq rfl rfl rfl rfl rfl (λ_=>KW) ?_;refine bj.qP aq rfl rfl rfl rfl rfl (λ_=>nK) ?_;refine bj.qP aq rfl rfl rfl rfl rfl (λ_=>.move rfl rfl rfl) ?_;refine bj.Wb aq aq rfl rfl rfl .k (E (f.kids.getD 0 default) (hQ aa) c) ?_;refine bj.qP aq rfl rfl rfl rfl rfl (λ_=>b5) ?_;refine bj.qP aq rfl rfl rfl rfl rfl (λ_=>cJ) ?_;refine bj.qP aq rfl rfl rfl rfl rfl (λ_=>KW) ?_;refine bj.qP aq rfl rfl rfl rfl rfl (λ_=>nK) ?_;refine bj.qP aq rfl rfl rfl rfl rfl (λ_=>ad.move rfl rfl rfl) ?_;refine bj.nil ⟨rfl,λoC=>?_⟩;refine aR ?_;refine cE .k ((E (f.kids.getD 1 default) (hQ aa) c _).b) ?_;rintro _ _ ⟨V,rfl,rfl⟩;refine ax ?_;have h:=L.2.2.2.2 (f.kids.getD 0 default) (hQ aa);have o:=L.2.2.2.2 (f.kids.getD 1 default) (hQ aa);have M:(cy (f.kids.getD 0 default) c).length<=1073741824:=Nat.le_trans (AT h c) (Nat.le_trans (Nat.pow_le_pow_right aa (show (cU (f.kids.getD 0 default)+1) / 2<=30 by omega)) c8);have N:(cy (f.kids.getD 1 default) c).length<=1073741824:=Nat.le_trans (AT o c) (Nat.le_trans (Nat.pow_le_pow_right aa (show (cU (f.kids.getD 1 default)+1) / 2<=30 by omega)) c8);have D:(cy (f.kids.getD 0 default) c).length*(cy (f.kids.getD 1 default) c).length<=1073741824:=Nat.le_trans (Nat.mul_le_mul (AT h c) (AT o c)) (by rw[<-Nat.pow_add];exact Nat.le_trans (Nat.pow_le_pow_right aa (show (cU (f.kids.getD 0 default)+1) / 2+(cU (f.kids.getD 1 default)+1) / 2<=30 by omega)) c8);refine aI ?_;refine bc (λcr=>?_) (λcr=>?_)
     ·have F:(c==(f.op==6))=true:=by rw[<-SR s];exact cr
      have g:=agk af ao a F aa;refine aY ?_;refine aj.dJ rfl rfl rfl rfl rfl rfl rfl rfl (an.e2 _ _) (DT (λ_=>rfl) _) (λ_=>df) (by simp only[List.length_map];omega) (by simp only[List.length_map];omega) (λv49=>?_);refine aP ?_;refine aC 4 (.own 58 1 v49::H) ?_;exact⟨_,by rw[g,ab.jR,List.map_append];rfl,rfl⟩
     ·have F:(c==(f.op==6))=false:=by rw[<-SR s];exact cr
      have g:=agl K af ao a F aa;refine ba ?_;refine hh 7 58 1 ?_;refine aB.le 5 (y:=ab.jR (cy (f.kids.getD 0 default) c)) rfl (an.e2 _ _) ?_;refine aB.le 6 (y:=ab.jR (cy (f.kids.getD 1 default) c)) rfl (an.e2 _ _) ?_;refine aP ?_;refine aB.Fk (λm st=>∃(i:Nat) (v:Value),st=⟨[(52,.i i),(51,.i (cy (f.kids.getD 0 default) c).length),(50,ab.jR (cy (f.kids.getD 0 default) c)),(7,.as (ab.jR (pn (cy (f.kids.getD 0 default) c) (cy (f.kids.getD 1 default) c) i)) v),(6,ab.jR (cy (f.kids.getD 1 default) c)),(5,ab.jR (cy (f.kids.getD 0 default) c)),(2,.ptr (fy f)),(1,.b c)],.own 58 1 v::H⟩/\m=(cy (f.kids.getD 0 default) c).length - i/\i<=(cy (f.kids.getD 0 default) c).length) ⟨_,_,⟨0,_,rfl,rfl,aa⟩,hW,(List.Sublist.cons_cons _ bC)⟩ ?_;rintro m _ ⟨i,v,rfl,rfl,Y⟩;refine ax ?_;refine az (λdK=>?_) λdK=>?_
      ·refine aT ?_;have t:=agq (cy (f.kids.getD 0 default) c) (cy (f.kids.getD 1 default) c) i;rw[List.length_take] at t;have q:min i (cy (f.kids.getD 0 default) c).length*(cy (f.kids.getD 1 default) c).length<=(cy (f.kids.getD 0 default) c).length*(cy (f.kids.getD 1 default) c).length:=Nat.mul_le_mul_right _ aa;have C:=hQ (l:=cy (f.kids.getD 0 default) c) (k:=i) aa;have X:=JR h c C;have J:(pn (cy (f.kids.getD 0 default) c) (cy (f.kids.getD 1 default) c) i).length<=1073741824:=by rw[t];exact Nat.le_trans q D
       clear t q;refine aP ?_;refine aB.le 7 (y:=.as (ab.jR (pn (cy (f.kids.getD 0 default) c) (cy (f.kids.getD 1 default) c) i++((cy (f.kids.getD 1 default) c).take 0).map (gj ((cy (f.kids.getD 0 default) c).getD i default)))) v) rfl (by rw[List.take_zero,List.map_nil,List.append_nil];exact an.refl _) ?_;refine aP ?_;refine bo (λm st=>∃(j:Nat) (v:Value),st=⟨[(58,.i j),(57,.i (cy (f.kids.getD 1 default) c).length),(56,ab.jR (cy (f.kids.getD 1 default) c)),(9,ab.facts ((cy (f.kids.getD 0 default) c).getD i default)),(52,.i i),(51,.i (cy (f.kids.getD 0 default) c).length),(50,ab.jR (cy (f.kids.getD 0 default) c)),(7,.as (ab.jR (pn (cy (f.kids.getD 0 default) c) (cy (f.kids.getD 1 default) c) i++((cy (f.kids.getD 1 default) c).take j).map (gj ((cy (f.kids.getD 0 default) c).getD i default)))) v),(6,ab.jR (cy (f.kids.getD 1 default) c)),(5,ab.jR (cy (f.kids.getD 0 default) c)),(2,.ptr (fy f)),(1,.b c)],.own 58 1 v::H⟩/\m=(cy (f.kids.getD 1 default) c).length - j/\j<=(cy (f.kids.getD 1 default) c).length) (⟨0,v,rfl,rfl,aa⟩) ?_;rintro m _ ⟨j,v,rfl,rfl,Z⟩;refine ax ?_;refine az (λdA=>?_) λdA=>?_
       ·refine aT ?_;have B:=hQ (l:=cy (f.kids.getD 1 default) c) (k:=j) aa;have O:=JR o c B;refine bY ?_;refine ag (ad.call .k (agf ((cy (f.kids.getD 0 default) c).getD i default) ((cy (f.kids.getD 1 default) c).getD j default) aa aa)) ?_;refine ag (ad.row rfl rfl cC rfl rfl rfl rfl rfl rfl) ?_;refine aj.dJ rfl rfl rfl rfl rfl rfl rfl rfl (an.refl _) (rfl) (λ_=>df) KB KB (λxz=>?_);refine aY ?_;refine aB.le 7 (y:=.as (ab.jR (pn (cy (f.kids.getD 0 default) c) (cy (f.kids.getD 1 default) c) i++((cy (f.kids.getD 1 default) c).take (j+1)).map (gj ((cy (f.kids.getD 0 default) c).getD i default)))) xz) rfl (by rw[agr aa, <-ago];exact an.refl _) ?_;refine aY ?_;exact aW (⟨j+1,xz,rfl,rfl,aa⟩)
       ·obtain rfl:j=(cy (f.kids.getD 1 default) c).length:=by omega
        rw[List.take_length];refine ax ?_;rw[<-agp aa];refine aY ?_;exact aW (⟨i+1,v,rfl,rfl,aa⟩)
      ·obtain rfl:i=(cy (f.kids.getD 0 default) c).length:=by omega
       rw[pn,List.take_length];refine c4 ?_;refine aC 4 (_) ?_;exact⟨_,by rw[g];rfl,rfl⟩
    ·subst G;have a:dm f=true:=by simp only[Bool.or_eq_false_iff,beq_eq_false_iff_ne] at bu;simp only[dm,Bool.and_eq_true,decide_eq_true_eq];omega
     refine ba ?_;refine az (λdP=>?_) λdP=>?_
     ·refine aF ?_;refine ag (ad.call .k (R0 f)) ?_;refine ag (ad.row rfl rfl cC rfl rfl rfl rfl rfl rfl) ?_;refine aj.uS rfl rfl rfl rfl cC rfl rfl rfl rfl rfl rfl rfl (λv75=>?_);refine aT ?_;refine aC 4 (_) ?_;exact⟨_,by rw[SP af ao a,if_pos dP];rfl,rfl⟩
     ·refine aT ?_;refine ag (ad.row rfl rfl cC rfl rfl rfl rfl rfl rfl) ?_;refine aj.uS rfl rfl rfl rfl cC rfl rfl rfl rfl rfl rfl rfl (λakR=>?_);refine aY ?_;refine aZ.cg (rs:=[.tmp 4]) (H':=_) rfl (.tmp rfl (.nil)) (.cons (an.SQ (an.ai (.cons (.cons (tr [f] rfl) .nil) .nil))) .nil) bC ?_;exact⟨_,by rw[SP af ao a,if_neg (by simp[dP])];rfl,rfl⟩
def agu:∀(f:Fact),dS W f=true->cU f<=52->∀c,qO prog 194 [ab.fact f,.b c] 58 1 (ab.jR (cy f c)):=
 Fact.l5 λf j g h=>agt f g h λk a c=>j k a ((mK.1 g).2 k a) (by have:=Oy a;omega) c
def JS(m:cx W){f}(o:dS W f){b}{c}(h:c∈eh f b):mo W c:=
 ⟨m,λl a=>let ⟨x,y⟩:=D3 f o b c h l a;RS m x y,λl a q=>by
  obtain⟨j,r⟩:=D3 f o b c h l a;simp[gN,Bool.and_eq_true] at j;have g:=j.2;rw[if_pos r] at g;simp[Bool.and_eq_true,kE,if_pos q,jf,decide_eq_true_eq] at g;exact g.2.2.2⟩
def mo.agv{ls}(h:mo W ls):∀x∈eV ls,ua W x:=λx j=>by
 obtain⟨l,f,rfl⟩:=List.mem_map.1 j;have c:=h.sp f;have a:=h.ok l f;refine⟨λcr=>?_,?_,?_,?_,?_⟩
 ·unfold ju at cr ⊢;split
  ·simp[ox,Fact.kids]
  ·rename_i o;rw[if_neg o] at cr;have:=a.op;omega
 ·rw[c];exact a.op
 ·rw[c];exact λao=>⟨(a.cls ao).1,h.cls l f ao⟩
 ·rw[c];exact a.n
 ·rw[c];exact a.path
def agw(h:cx W){f}(g:dS W f){b}{x}(j:x∈cy f b):∃c∈eh f b,x=eV c/\mo W c/\rz W x=vO W c:=by
 obtain⟨c,a,rfl⟩:=List.mem_map.1 j;exact⟨c,a,rfl,JS h g a,SL (JS h g a)⟩
def agx(g:cx W){f}(h:dS W f)(hn:cU f<=52){b}{x}(a:x∈cy f b):aG prog 195 [ab.world W,ab.facts x] (.b (rz W x)):=by
 obtain⟨c,l,rfl,j,_⟩:=agw g h a;exact afM W _ j.agv (by have:=JR (xN f h) b a;omega) g
def agy(a:cx W){f}(g:dS W f):(cy f false).any (rz W)=AI W f:=by
 rw[cy,List.any_map,AI];exact tA λc c=>SL (JS a g c)
def agz(h:cx W){f}(c:dS W f)(hn:cU f<=52):aG prog 160 [ab.world W,ab.fact f] (.b (AI W f)):=by
 intro H;refine aM func160 λB I s=>?_;rw[<-agy h c];have j:(cy f false).length<=1073741824:=Nat.le_trans (AT (xN f c) false) (Nat.le_trans (Nat.pow_le_pow_right aa (show (cU f+1) / 2<=30 by omega)) c8);refine bE ?_;refine ag (ad.call .k (qO.ags (agu f c hn false))) ?_;refine aT ?_;refine bo (λm o=>∃i:Nat,o=⟨[(10,.i i),(9,.i (cy f false).length),(8,ab.jR (cy f false)),(2,.ptr (cD W))],H⟩/\m=(cy f false).length - i/\i<=(cy f false).length/\((cy f false).take i).any (rz W)=false) (⟨0,rfl,rfl,aa,rfl⟩) ?_;rintro m _ ⟨i,rfl,rfl,r,a⟩;refine ax ?_;refine az (λaf=>?_) λaf=>?_
 ·have g:=hQ (l:=(cy f false)) (k:=i) aa;refine eb ?_;refine ag (ad.call .k (agx h c hn g)) ?_;refine aO ?_;refine bc (λae=>?_) (λae=>?_)
  ·refine bE ?_;refine aC 4 (H) ?_;exact⟨bq (R4 (i:=i) aa ae).symm,rfl⟩
  ·refine aP ?_;exact aW (⟨i+1,rfl,rfl,aa,by rw[Jv aa,a,ae];rfl⟩)
 ·obtain rfl:i=(cy f false).length:=by omega
  rw[List.take_length] at a;refine bE ?_;refine aC 4 (H) ?_;exact⟨bq a.symm,rfl⟩
def agA(g:cx W){a b}(j:dS W a)(h:dS W b)(c:cU a<=25)(f:cU b<=25):aG prog 114 [ab.world W,ab.fact a,ab.fact b] (.b (tZ W a b)):=by
 intro H;refine aM (n:=14) func114 λB I l=>?_;refine ba ?_;refine bP 5 14 ?_;refine aF ?_;refine bg (ad.call .k (R0 b)) ?_;refine bg (ad.call .k (afn a (ox b))) ?_;refine aO ?_;refine ag (ad.call .k (agz g (Jn j (Jm h)) (by rw[Jp,Jo];omega))) ?_;refine aT ?_;refine aC 6 (H) ?_;exact⟨dO,rfl⟩
def agB{a b}(h:pj W [a,b]):cx W=true/\dS W a=true/\cU a<=24/\dS W b=true/\cU b<=24:=by
 simp[pj,List.all_cons,List.all_nil,Bool.and_true,Bool.and_eq_true] at h;have f:=tz h.2.1;have c:=tz h.2.2;exact⟨h.1,f.1,f.2,c.1,c.2⟩
def agC{a b}(h:pj W [a,b]):aG prog 234 [ab.world W,ab.fact a,ab.fact b] (.bk [.b (tZ W a b),.i 0]):=by
 have c:=agB h;have:=afc h;rwa [imp_eq c.1 c.2.1 c.2.2.2.1 aa aa] at this
instance:MG prog 230:=⟨ay⟩
abbrev cA(p:Prog)(m:Nat):jm:=p.methods.getD m default
def sK(p:Prog)(m n:Nat):Bool:=tZ (bS p) (cA p m).fact (cA p n).fact
def bh(p:Prog)(m n:Nat):Bool:=sK p m n && !sK p n m
abbrev vW(p:Prog)(mh:Nat):bl:=cM p++cD (bS p)++[.val (.map (some mh))]
abbrev JT(p:Prog)(mh:Nat):bn:=.gm mh (ev prog 198) (kN (sK p))
def AU(c:(bw p).isSome){m}(hm:m<p.methods.length):cx (bS p)=true/\lA (bS p) (cA p m).fact=true:=by
 obtain⟨o,f⟩:=Option.isSome_iff_exists.1 c;obtain⟨g,a,_⟩:=(iF f).2.2.2;have:=Ik _ _ (by rw[a];rfl) _ (bI hm);simp[qY,Bool.and_eq_true] at this;exact this.1
def agD(a:(bw p).isSome){m n}(hm:m<p.methods.length)(hn:n<p.methods.length):pj (bS p) [(cA p m).fact,(cA p n).fact]=true:=by
 have c:=AU a hm;have f:=AU a hn;rw[pj,c.1,List.all_cons,List.all_cons,c.2,f.2];rfl
def Eo{m n}(hm:m<1000)(hn:n<1000):ev prog 198 (.agg (Aq m n).toArray):=
 WU (i:=3) (m:=348) ay ay ay ay ay ay (xL lz) (xL lz)
def agE(h:p.Small)(c:(bw p).isSome)(H):bO prog 186 [ab.prog p] H (λy g=>∃mh,y= .ptr (vW p mh)/\g= .map mh []::H) (λ_ _=>False):=by
 refine aM func186 λB I l=>?_;have f:=H8 h;rw[H7 c,c] at f;refine ba ?_;refine ag (.call .k f) ?_;refine aF ?_;refine bK (λdc=>?_);refine ax ?_;refine eA 3 ?_;refine aT ?_;refine bc (λaf=>?_) λaf=>?_
 ·simp at af
 ·refine ax ?_;refine .mkMap rfl rfl rfl rfl λmh=>?_;refine ax ?_;refine aC 2 (.map mh []::H) ?_;exact⟨mh,rfl,rfl⟩
def agF(h:p.Small)(c:(bw p).isSome)(H):bO prog 186 [ab.prog p] H (λy g=>∃a,y= .ptr (vW p a)/\g=JT p a::H) (λ_ _=>False):=
 (agE h c H).heap λy j ⟨a,bM,bL⟩=>⟨_,⟨a,bM,rfl⟩,λB I w f=>by subst bL;exact f.gm (.head _ _ _)⟩
def agG(p)(a)(x):aG prog 209 [.i x,.ptr [.ptr (vW p a)]] (.b (decide (x<0) || decide (x>=p.methods.length))):=by
 intro H;refine aM func209 λB I c=>?_;refine oY ?_;refine aC 3 H ?_;exact⟨bq (by cases decide (x<0) <;> rfl),rfl⟩
def agH(p)(a)(l)(c:∀x∈l,0<=x/\x<p.methods.length):aG prog 187 [.ptr (vW p a),.ints l] (.b true):=by
 intro H;refine aM func187 λB I g=>?_;refine ba ?_;refine ag (.WW rfl rfl rfl rfl rfl) ?_;refine aF ?_;refine gb (λaw=>.call (.mk' rfl rfl rfl rfl c9) (YF (nX.of (λx=>agG p a x)) l)) ?_;refine ax ?_;refine aC 4 H ?_;exact⟨bq (by show (!l.any _)=true;rw[Bool.not_eq_true',List.any_eq_false];intro x f;have:=c x f;simp;omega),rfl⟩
def agI(p:Prog)(f:Nat){m n:Nat}(hm:m<p.methods.length)(hn:n<p.methods.length):aG prog 188 [.ptr (vW p f),.i m,.i n] (.b ((cA p m).gen==(cA p n).gen && (cA p m).kind==(cA p n).kind)):=by
 intro H;refine aM (n:=37) func188 λB I h=>?_;refine ax ?_;refine aB.cw mixed ?_;refine b0.za [⟨16,7,62,[aX,aX,aX,aX,aL,aX,aX,aL,aX],18,eR (cA p m)⟩,⟨17,8,62,[aX,aX,aX,aX,aL,aX,aX,aL,aX],19,eR (cA p n)⟩] 0 20 37 rfl aq ay rfl rfl aq ?_;refine dD (ad.move rfl rfl rfl) ?_;refine dD (fT) ?_;refine dD (b5) ?_;refine dD (b5) ?_;refine dD (cJ) ?_;refine dD (ad.move rfl rfl rfl) ?_;refine dD ((by first | exact ad.fC rfl rfl rfl rfl rfl hm | exact ad.ep rfl rfl rfl rfl rfl hm)) ?_;refine dD (nK) ?_;refine dD (ad.move rfl rfl rfl) ?_;refine dD (fT) ?_;refine dD (b5) ?_;refine dD (b5) ?_;refine dD (cJ) ?_;refine dD (ad.move rfl rfl rfl) ?_;refine dD ((by first | exact ad.fC rfl rfl rfl rfl rfl hn | exact ad.ep rfl rfl rfl rfl rfl hn)) ?_;refine dD (nK) ?_;refine cH.wX [] [⟨17,8,62,[aX,aX,aX,aX,aL,aX,aX,aL,aX],19,eR (cA p n)⟩] ⟨16,7,62,[aX,aX,aX,aX,aL,aX,aX,aL,aX],18,eR (cA p m)⟩ rfl ⟨0,20,ay⟩ rfl rfl rfl rfl rfl rfl rfl ?_;refine cH.wX [⟨16,7,62,[aX,aX,aX,aX,aL,aX,aX,aL,aX],18,eR (cA p m)⟩] [] ⟨17,8,62,[aX,aX,aX,aX,aL,aX,aX,aL,aX],19,eR (cA p n)⟩ rfl ⟨0,20,ay⟩ rfl rfl rfl rfl rfl rfl rfl ?_;refine cH.wY [] [⟨17,8,62,[aX,aX,aX,aX,aL,aX,aX,aL,aX],19,eR (cA p n)⟩] ⟨16,7,62,[aX,aX,aX,aX,aL,aX,aX,aL,aX],18,eR (cA p m)⟩ rfl ⟨0,20,ay⟩ rfl rfl rfl (λb g c a=>.store rfl rfl rfl rfl rfl rfl rfl rfl a e9 e9) ?_;refine cH.wY [⟨16,7,62,[aX,aX,aX,aX,aL,aX,aX,aL,aX],18,eR (cA p m)⟩] [] ⟨17,8,62,[aX,aX,aX,aX,aL,aX,aX,aL,aX],19,eR (cA p n)⟩ rfl ⟨0,20,ay⟩ rfl rfl rfl (λb g c a=>.store rfl rfl rfl rfl rfl rfl rfl rfl a e9 e9) ?_;refine cH.nil (λdR=>?_);simp only[List.map_cons,List.map_nil,List.cons_append,List.nil_append];refine b0.done rfl ?_;refine aO ?_;refine eA 7 ?_;refine eA 8 ?_;refine gL ?_;refine aC 6 (H) ?_;exact⟨bq (by cases (cA p m).gen==(cA p n).gen <;> rfl),rfl⟩
def SS(c:(bw p).isSome)(f){m n:Nat}(hm:m<p.methods.length)(hn:n<p.methods.length):hP prog [JT p f] 210 [.ptr (vW p f),.i m,.i n] (.b (sK p m n)):=by
 intro H a;refine aM (n:=57) func210 λB I l=>?_;have g:=ki c;refine bY ?_;refine bK (λsh=>?_);refine aY ?_;refine eA 7 ?_;refine bP 5 57 ?_;refine aP ?_;refine aj.MH (vs:=Aq m n) (z:=sK p m n) rfl rfl rfl rfl rfl rfl rfl rfl (an.refl _) (a _ (.head _)) (Eo aa aa) rfl ?_ ?_
 ·refine ax ?_;refine b0.dG 7 10 57 rfl aq rfl rfl aq ?_;refine eb ?_;refine bc (λaf=>?_) (λaf=>?_)
  ·simp at af
  ·refine ba ?_;refine aC 6 (H) ?_;exact⟨cO,rfl⟩
 ·refine ax ?_;refine b0.dG 7 10 57 rfl aq rfl rfl aq ?_;refine eb ?_;refine bc (λae=>?_) (λae=>?_)
  ·refine aR ?_;refine bP 22 57 ?_;refine w7 ?_;refine ag (ad.call .k (agC (agD c hm hn))) ?_;refine ax ?_;refine b0.dG 24 27 57 rfl aq rfl rfl aq ?_;refine aY ?_;refine b0.done rfl ?_;refine aR ?_;refine bP 6 57 ?_;refine aI ?_;refine aj.MI (vs:=Aq m n) rfl rfl rfl rfl rfl rfl rfl (an.refl _) rfl rfl (an.refl _) (a _ (.head _)) (Eo aa aa) ?_;refine ba ?_;refine aC 6 (H) ?_;exact⟨cO,rfl⟩
  ·simp at ae
def agJ(g:(bw p).isSome)(c){m n}(hm:m<p.methods.length)(hn:n<p.methods.length):hP prog [JT p c] 189 [.ptr (vW p c),.i m,.i n] (.b (bh p m n)):=by
 intro H a;refine aM func189 λB I h=>?_;refine bY ?_;refine ag (.hX .k cL (SS g c hm hn) λe f=>a e f) ?_;refine aY ?_;refine aj.db rfl rfl rfl rfl rfl rfl (λaw=>.hX zs cL (SS g c hn hm) λe f=>a e f) ?_;refine ax ?_;refine aC 6 H ?_;exact⟨by rw[bh];cases sK p m n <;> rfl,rfl⟩
def agK(l:p.Small)(f:(bw p).isSome){m n}(hm:m<p.methods.length)(hn:n<p.methods.length)(a:(cA p m).gen=(cA p n).gen/\(cA p m).kind=(cA p n).kind):aG prog 153 [ab.prog p,.i m,.i n] (.bk [.b (bh p m n),.i 0]):=by
 intro H;refine aM (n:=26) func153 λB I q=>?_;refine bY ?_;refine cE .k ((agF l f _).b) ?_;rintro _ _ ⟨c,rfl,rfl⟩;refine ba ?_;refine ag (ad.row rfl rfl cC rfl rfl rfl rfl rfl rfl) ?_;refine ag (ad.call .k (agH p c [(m:Int),(n:Int)] (by intro x j;simp at j;omega))) ?_;refine aF ?_;refine bc (λaf=>?_) (λaf=>?_)
 ·simp at af
 ·refine aI ?_;refine ag (ad.call .k (agI p c hm hn)) ?_;refine aF ?_;refine bc (λae=>?_) (λae=>?_)
  ·rw[a.1,a.2,beq_self_eq_true,beq_self_eq_true] at ae;exact absurd ae c8
  ·refine aP ?_;refine ag (ad.hX .k (c0.refl _) (agJ f c hm hn) (λe g=>by rw[List.mem_singleton] at g;subst g;exact .head _)) ?_;refine aT ?_;refine dL [.tmp 6,.tmp 7] (H) ?_;exact⟨cO,rfl⟩
def SU:xG ah q∈bN p ah q g Hx:=.tail _ (List.mem_append_left _ dv)
def agL(c:fB p q)(l:p.Small){k j}(o:k<p.methods.length)(h:j<p.methods.length)(a:(cA p k).gen=(cA p j).gen/\(cA p k).kind=(cA p j).kind):bO prog 108 [.p q.bx 0,.i (k:Int),.i (j:Int)] (bN p (bh p) q g Hx) (λr f=>r= .b (bh p k j)/\f=bN p (bh p) q g Hx) (λ_ _=>False):=by
 refine aM func108 λB I v=>?_;have m:=ki c.aH;refine bY ?_;refine bK (λsh=>?_);refine aY ?_;refine eA 7 ?_;refine bP 5 41 ?_;refine aP ?_;refine aj.MH (vs:=Aq k j) (z:=bh p k j) rfl rfl rfl rfl rfl rfl rfl rfl (an.refl _) SU (Eo aa aa) rfl ?_ ?_
 ·refine ax ?_;refine b0.dG 7 10 41 rfl aq rfl rfl aq ?_;refine eb ?_;refine bc (λaf=>?_) (λaf=>?_)
  ·simp at af
  ·refine ba ?_;refine aC 6 (bN p (bh p) q g Hx) ?_;exact⟨rfl,rfl⟩
 ·refine ax ?_;refine b0.dG 7 10 41 rfl aq rfl rfl aq ?_;refine eb ?_;refine bc (λae=>?_) (λae=>?_)
  ·refine aI ?_;refine ag (ad.call .k (agK l c.aH o h a)) ?_;refine ax ?_;refine bP 6 41 ?_;refine aI ?_;refine aj.MI (vs:=Aq k j) rfl rfl rfl rfl rfl rfl rfl (an.refl _) rfl rfl (an.refl _) SU (Eo aa aa) ?_;refine ba ?_;refine aC 6 (bN p (bh p) q g Hx) ?_;exact⟨rfl,rfl⟩
  ·simp at ae
def xZ(h:i<l.length):(l.map ab.b)[i]? =some (.b (l.getD i default)):=by
 rw[List.getElem?_map,List.getD_eq_getElem?_getD,List.getElem?_eq_getElem h];rfl
section
variable{p:Prog}{ah:Nat->Nat->Bool}{n m o:Nat}{g:GT}
def SV(a:(bif !(g.t.bz.getD o default) then true else ((cA p o).gen !=(cA p m).gen))=true):jO p ah n m g o=g:=by
 unfold jO;simp only;rw[if_neg];intro h;simp only[Bool.and_eq_true] at h;rw[h.1.1] at a;have:=h.1.2;simp only[cA,Bool.not_true,cond_false,bne_iff_ne,ne_eq] at a;exact a (by simpa using this)
def SW(a:(bif !(g.t.bz.getD o default) then true else ((cA p o).gen !=(cA p m).gen))=false):(cA p m).gen=(cA p o).gen:=by
 cases bH:g.t.bz.getD o default with
 | false=>rw[bH] at a;cases a
 | true=>
  rw[bH] at a;have c:((cA p o).gen !=(cA p m).gen)=false:=a;exact (bne_eq_false_iff_eq.1 c).symm
def JU(a:(bif !(g.t.bz.getD o default) then true else ((cA p o).gen !=(cA p m).gen))=false){B}(h:B=(bif (bif (cA p o).kind==(cA p m).kind then (bif (cA p o).kind==(cA p m).kind then ah m o else false) else false) then true else (bif (cA p m).kind==4 then (cA p o).kind==1 else false))):jO p ah n m g o=if B=true then g.bU n (g.t.nodes.getD (cA p o).node.toNat default).toNat else g:=by
 have f:g.t.bz.getD o default=true/\((cA p o).gen==(cA p m).gen)=true:=by
  cases bH:g.t.bz.getD o default with
  | false=>rw[bH] at a;cases a
  | true=>rw[bH] at a;refine⟨rfl,?_⟩;simpa [bne] using a
 unfold jO;simp only;have e:(g.t.bz.getD o default && (p.methods.getD o default).gen==(p.methods.getD m default).gen && ((p.methods.getD o default).kind==(p.methods.getD m default).kind && ah m o || (p.methods.getD m default).kind==4 && (p.methods.getD o default).kind==1))=B:=by
  rw[f.1,show ((p.methods.getD o default).gen==(p.methods.getD m default).gen)=true from f.2,h];cases (cA p o).kind==(cA p m).kind <;> cases ah m o <;> cases (cA p m).kind==4 <;> rfl
 rw[e]
end
def Ep(c:(bw p).isSome){i}(a:i<p.methods.length):0<=(cA p i).node/\(cA p i).node<p.nodes.length:=tS ((tR c).1 _ (bI a))
def SX(h:bf p g.t)(ah)(n m i):bf p ((List.range i).foldl (jO p ah n m) g).t:=hU _ h λg o _ h=>by
 unfold jO;simp only;split
 ·exact h.bU _ (mc h.nb _)
 ·exact h
def Er{t}(h:bf p t){k:Int}(a:0<=k/\k<p.nodes.length):t.nodes.getD k.toNat default=((t.nodes.getD k.toNat default).toNat:Int)/\fo p (t.nodes.getD k.toNat default).toNat:=hT.1 (xE h a)
def agM(m:fB p q)(o:p.Small)(h:bf p g.t){n}(hn:n<p.nodes.length){y:hi}{j env:ak}{c:Int}(a:c<0):bO prog 70 [.p q.bx 0,ab.mU n y j env c] (bN p (bh p) q g Hx) (λr l=>r= .bk []/\l=bN p (bh p) q (g) Hx) (λ_ _=>False):=by
 refine aM (n:=81) func70 λB I s=>?_;refine dk ?_;refine bc (λaf=>?_) (λaf=>?_)
 ·refine aO ?_;refine dL [] (bN p (bh p) q g Hx) ?_;exact⟨rfl,rfl⟩
 ·rw[decide_eq_true a] at af;cases af
def agN(v:fB p q)(V:p.Small)(h:bf p g.t){n:Nat}(hn:n<p.nodes.length){y:hi}{cN env:ak}{eU:Int}{k:Nat}(F:eU=(k:Int))(Q:k<p.methods.length):bO prog 70 [.p q.bx 0,ab.mU n y cN env eU] (bN p (bh p) q g Hx) (λr M=>r= .bk []/\M=bN p (bh p) q (sx p (bh p) n k g) Hx) (λ_ _=>False):=by
 refine aM (n:=81) func70 λB I bW=>?_;subst F;have hm:=v.many;have R:=ki v.aH;have J:∀i,bf p ((List.range i).foldl (jO p (bh p) n k) g).t:=λi=>SX h (bh p) n k i;refine dk ?_;refine bc (λaf=>?_) (λaf=>?_)
 ·have X:=of_decide_eq_true af;omega
 ·refine aF ?_;refine aB.cw mixed ?_;refine b0.za [⟨9,4,62,[aX,aX,aX,aX,aL,aX,aX,aL,aX],10,eR (cA p k)⟩] 0 11 81 rfl aq ay rfl rfl aq ?_;refine dD (ad.move rfl rfl rfl) ?_;refine dD (fT) ?_;refine dD (b5) ?_;refine dD (b5) ?_;refine dD (cJ) ?_;refine dD (b5) ?_;refine dD (cJ) ?_;refine dD (lL) ?_;refine dD (nK) ?_;refine cH.wX [] [] ⟨9,4,62,[aX,aX,aX,aX,aL,aX,aX,aL,aX],10,eR (cA p k)⟩ rfl ⟨0,11,ay⟩ rfl rfl rfl rfl rfl rfl rfl ?_;refine cH.wY [] [] ⟨9,4,62,[aX,aX,aX,aX,aL,aX,aX,aL,aX],10,eR (cA p k)⟩ rfl ⟨0,11,ay⟩ rfl rfl rfl (λb M Y hu=>.store rfl rfl rfl rfl rfl rfl rfl rfl hu e9 e9) ?_;refine cH.nil (λdR=>?_);simp only[List.map_cons,List.map_nil,List.cons_append,List.nil_append];refine b0.done rfl ?_;refine aO ?_;refine eA 4 ?_;refine bE ?_;refine bo (λz st=>∃i:Nat,st=⟨[(25,.i i),(24,.i p.methods.length),(23,.ai 9 (p.methods.map eR)),(4,.ptr (eR (cA p k))),(0,.p q.bx 0),(3,.ptr (fJ n y cN env k))],bN p (bh p) q ((List.range i).foldl (jO p (bh p) n k) g) Hx⟩/\z=p.methods.length - i/\i<=p.methods.length) (⟨0,rfl,rfl,aa⟩) ?_;rintro z _ ⟨i,rfl,rfl,Z⟩;refine ax ?_;refine az (λae=>?_) λae=>?_
  ·have a:i<p.methods.length:=by omega
   obtain⟨G,K⟩:∃G,G=((List.range i).foldl (jO p (bh p) n k) g):=⟨_,rfl⟩;have c:=J i;rw[<-K] at c;have l:=lD (f:=jO p (bh p) n k) i g;rw[<-K] at l;rw[<-K];have W:=c.ho;have U:=c.nl;have H:0<=(p.methods.getD i default).node/\(p.methods.getD i default).node<p.nodes.length:=Ep v.aH a;have x:=Er c H;refine ba ?_;refine bK (λdM=>?_);refine ax ?_;refine eA 6 ?_;refine aP ?_;refine ag (ad.dX rfl rfl rfl rfl rfl (sy (i:=i) aa) ⟨aa,aa⟩) ?_;refine ag (ad.gk rfl rfl rfl (sy (i:=i) aa) (xZ aa)) ?_;refine bY ?_;refine bc (λao=>?_) (λao=>?_)
   ·have s:=SV (p:=p) (ah:=bh p) (n:=n) (m:=k) (o:=i) ao;refine aI ?_;exact aW (⟨i+1,by rw[l,s],rfl,a⟩)
   ·have w:=SW (p:=p) (m:=k) (o:=i) (g:=G) ao;refine c4 ?_;refine aj.LV rfl rfl rfl rfl rfl rfl (λaw=>gD.mk' rfl rfl rfl rfl c9) (λaw=>(agL v V Q a ⟨w,(beq_iff_eq.1 aw).symm⟩).b) ?_;intro r T vt vu;obtain⟨rfl,rfl⟩:r= .b (bif ((cA p i).kind==(cA p k).kind) then bh p k i else false)/\T=bN p (bh p) q G Hx:=by
     cases hG2:((cA p i).kind==(cA p k).kind) with
     | true=>exact vt hG2
     | false=>exact vu hG2
    refine dk ?_;refine bc (λaV=>?_) (λaV=>?_)
    ·have sL:=JU (p:=p) (ah:=bh p) (n:=n) (m:=k) (o:=i) ao aV.symm;refine bP 11 81 ?_;refine ba ?_;refine bg (ad.dX rfl rfl rfl rfl rfl (nD (i:=(p.methods.getD i default).node.toNat) aa) ⟨aa,aa⟩) ?_;refine bg (ad.le (ad.gk rfl rfl rfl (nD (i:=(p.methods.getD i default).node.toNat) aa) (hK aa)) (an.b4 x.1)) ?_;refine aO ?_;refine cE .k ((pg v c hn x.2 y cN env k).b) ?_;rintro _ _ ⟨rfl,rfl⟩;refine aP ?_;exact aW (⟨i+1,by rw[l,sL,if_pos rfl],rfl,a⟩)
    ·have sL:=JU (p:=p) (ah:=bh p) (n:=n) (m:=k) (o:=i) ao aV.symm;refine aP ?_;exact aW (⟨i+1,by rw[l,sL,if_neg c8],rfl,a⟩)
  ·obtain rfl:i=p.methods.length:=by omega
   refine aY ?_;refine gM [] (bN p (bh p) q (sx p (bh p) n k g) Hx) ?_;exact⟨rfl,rfl⟩
def agO{f env}{g}(h:f.length<=3):an (.ai 1 ((([.i (f.getD 0 default),.i (f.getD 1 default),.i (f.getD 2 default),.ints env,.i g]:bl).take f.length).map λc=>[c])) (.ints f):=by
 match f,h with
 | [],_=>exact .refl _
 | [a],_=>exact .refl _
 | [a,b],_=>exact .refl _
 | [a,b,c],_=>exact .refl _
 | a::b::c::d::r,h=>simp at h
def agP(a:k<g.t.bz.length)(h:g.t.bz.getD k default=true):g.reach k=g:=by
 unfold GT.reach;rw[h,(p7 a).2 h.symm];simp
def JV(h:k<l.length)(v)(more):(l.map .b++more).take k++cG (.b v)++(l.map ab.b++more).drop (k+1)=(l.set k v).map .b++more:=by
 rw[List.take_append_of_le_length cB,List.drop_append_of_le_length cB,List.set_eq_take_append_cons_drop,if_pos h,List.map_append,List.map_take,List.map_cons,List.map_drop];simp[cG]
def sM{c g:Type}[Inhabited c][Inhabited g]{f:c->g}{l:List c}{i:Nat}(h:i<l.length):(l.map f).getD i default=f (l.getD i default):=by
 rw[List.getD_eq_getElem?_getD,List.getElem?_map,List.getD_eq_getElem?_getD,List.getElem?_eq_getElem h];rfl
def SY(a:Int):(bif a==1 then true else a==4)=(a==1 || a==4):=by cases a==1 <;> rfl
def JW{t}(h:bf p t){k}(a:k<p.methods.length){gen}(c:(p.methods.getD k default).gen=gen):((t.params.getD k default).length:Int)=fG p gen:=by
 rw[h.jM k a,c];rfl
def agQ(a1:fB p q)(h:bf p g.t){n:Nat}(hn:n<p.nodes.length){y:hi}{a env:ak}{F:Int}(l:∀k∈a,ct (aJ p) k=true)(a0:a.length=y.kids.length)(Q:a.length<=3)(Z:(a.length:Int)=fG p y.n):bO prog 69 [.p q.bx 0,ab.mU n y a env F] (bN p ah q g Hx) (λr H1=>r= .bk []/\H1=bN p ah q (sw p n y.n a g) Hx) (λ_ _=>False):=by
 refine aM (n:=104) func69 λB I bW=>?_;have hm:=a1.many;have im:=ki a1.aH;have O:y.kids.length=a.length:=a0.symm;have ac:(eI p g.t y.n a).length<=p.methods.length:=A7 (p:=p) (t:=g.t) (gen:=y.n) (kinds:=a) p.methods.length;have a5:∀i,bf p (((eI p g.t y.n a).take i).foldl (mR p n) g).t:=λi=>hU _ h λg x aK h=>IU h n (xD l x (List.mem_of_mem_take aK)).2.2;refine ax ?_;refine bP 10 104 ?_;refine aI ?_;refine bg (ad.le (ad.qo rfl rfl rfl) (an.b4 (by rw[O]))) ?_;refine bg (ad.le (ad.WY (n:=a.length) rfl rfl rfl rfl rfl Q c8 (by show a.length<=5;omega)) (agO Q)) ?_;refine aO ?_;refine cE .k ((adL a1 h l Z aa).b) ?_;rintro _ _ ⟨rfl,rfl⟩;refine ax ?_;refine b0.dG 12 15 104 rfl aq rfl rfl aq ?_;refine ji ?_;refine aB.le 26 (y:=.i (eI p g.t y.n a).length) rfl (an.b4 (by rw[List.length_map])) ?_;refine bo (λz st=>∃i:Nat,st=⟨[(27,.i i),(26,.i (eI p g.t y.n a).length),(25,ab.ints ((eI p g.t y.n a).map (·.1))),(4,ab.ints ((eI p g.t y.n a).map (·.1))),(5,ab.bm ((eI p g.t y.n a).map (·.2))),(0,.p q.bx 0),(3,.ptr (fJ n y a env F))],bN p ah q (((eI p g.t y.n a).take i).foldl (mR p n) g) Hx⟩/\z=(eI p g.t y.n a).length - i/\i<=(eI p g.t y.n a).length) (⟨0,rfl,rfl,aa⟩) ?_;rintro z _ ⟨i,rfl,rfl,aQ⟩;refine ax ?_;refine az (λaf=>?_) λaf=>?_
 ·have bT:i<(eI p g.t y.n a).length:=by omega
  obtain⟨X,S⟩:∃X,X=((eI p g.t y.n a).getD i default):=⟨_,rfl⟩;obtain⟨⟨fw,T,J⟩,W,m⟩:=xD (t:=g.t) (gen:=y.n) l _ (bI bT);rw[<-S] at fw T J W m;obtain⟨M,da⟩:∃M,M=X.1.toNat:=⟨_,rfl⟩;have V:X.1=(M:Int):=by omega
  have rH:M<p.methods.length:=by omega
  have N:(p.methods.getD M default).gen=y.n:=by rw[da];exact J
  obtain⟨G,fb⟩:∃G,G=(((eI p g.t y.n a).take i).foldl (mR p n) g):=⟨_,rfl⟩;have w:=a5 i;rw[<-fb] at w;have v:=xH (f:=mR p n) bT g;rw[<-fb, <-S] at v;have E:mR p n G X=if sv (p.methods.getD M default)=true then (nA M X.2 (G.reach M)).bU n ((nA M X.2 (G.reach M)).t.nodes.getD (p.methods.getD M default).node.toNat default).toNat else (nA M X.2 (G.reach M)):=by rw[da];rfl
  rw[<-fb];have gE:=w.ho;have hR:=w.reach M;have c:∀j,bf p ((List.range j).foldl (λg k=>g.ic M k (X.2.getD k default).toNat) (G.reach M)).t:=λj=>hU _ hR λg k _ h=>h.ic M k (mc m k);have o:bf p (nA M X.2 (G.reach M)).t:=c _;have dV:=o.nl;have a4:0<=(p.methods.getD M default).node/\(p.methods.getD M default).node<p.nodes.length:=Ep a1.aH rH;have P:=Er o a4;have U:∀j,(((List.range j).foldl (λg k=>g.ic M k (X.2.getD k default).toNat) (G.reach M)).t.params.getD M default).length=X.2.length:=λj=>by have:=JW (c j) rH N;omega
  have a3:∀j,((List.range j).foldl (λg k=>g.ic M k (X.2.getD k default).toNat) (G.reach M)).t.params.length=p.methods.length:=λj=>(c j).pl;obtain⟨A,C,K⟩:=QX ah q G.t Hx;have a2:=K G.t.bz (ne_of_lt (i:=M) aa);have H:=K (G.t.bz.set M true) (ne_of_lt (i:=M) (by rw[List.length_set];omega));rw[List.length_set] at H;refine aP ?_;refine ag (uh) ?_;refine ag (ad.le (ad.cF rfl rfl rfl rfl) (an.b4 (show _=(M:Int) by rw[sM bT, <-S,V]))) ?_;refine aY ?_;refine aB.kV (λst=>st=⟨[(6,.i i),(7,.i (M:Int)),(27,.i i),(26,.i (eI p g.t y.n a).length),(25,ab.ints ((eI p g.t y.n a).map (·.1))),(4,ab.ints ((eI p g.t y.n a).map (·.1))),(5,ab.bm ((eI p g.t y.n a).map (·.2))),(0,.p q.bx 0),(3,.ptr (fJ n y a env F))],bN p ah q (G.reach M) Hx⟩) ?_ ?_
  ·refine aI ?_;refine ag (ad.dX rfl rfl rfl rfl rfl (sy (i:=M) aa) ⟨aa,aa⟩) ?_;refine ag (ad.gk rfl rfl rfl (sy (i:=M) aa) (xZ aa)) ?_;refine aF ?_;refine bc (λae=>?_) (λae=>?_)
   ·have Y:G.t.bz.getD M default=false:=by simpa using ae
    have L:eo p q true::(A++.row 4 1 q.de G.t.bz.length ((G.t.bz.set M true).map ab.b)::C)=bN p ah q (G.reach M) Hx:=by
     have e:(G.reach M).ch=true:=by unfold GT.reach;rw[Y];simp
     show _=eo p q (G.reach M).ch::(eg ah q (G.reach M).t++Hx);rw[e, <-H];rfl
    refine aI ?_;refine ag (ad.dX rfl rfl rfl rfl rfl (sy (i:=M) aa) ⟨aa,aa⟩) ?_;refine aj.kX (H':=eo p q G.ch::(A++.row 4 1 q.de G.t.bz.length (G.t.bz.map ab.b)::C)) (congrArg (eo p q G.ch::·) a2) ?_;refine aj.MK (i:=M) (H':=λe=>eo p q G.ch::(A++e::C)) (ds:=(G.t.bz.set M true).map ab.b) rfl rfl rfl rfl rfl rfl rfl rfl rfl rfl (λe=>.tail _ _ _ _ _ (bG.under A)) (λe e'=>.tail _ _ _ _ _ (bG.under A)) aa aS (λmore=>JV aa true more) aS ?_;refine aY ?_;refine aZ.perm (H':=bN p ah q (G.reach M) Hx) (.of_eq L) ?_;exact dh rfl
   ·have Y:G.t.bz.getD M default=true:=by simpa using ae
    refine aR ?_;refine aZ.perm (H':=bN p ah q (G.reach M) Hx) (.of_eq (by rw[agP aa Y])) ?_;exact dh rfl
  ·rintro _ rfl;refine aT ?_;refine ag (uh) ?_;refine ag (ad.le (ad.cF rfl rfl rfl rfl) (by rw[sM bT, <-S];exact an.refl _)) ?_;refine aT ?_;refine bo (λz st=>∃j:Nat,st=⟨[(56,.i j),(55,.i X.2.length),(54,ab.ints X.2),(6,.i i),(7,.i (M:Int)),(27,.i i),(26,.i (eI p g.t y.n a).length),(25,ab.ints ((eI p g.t y.n a).map (·.1))),(4,ab.ints ((eI p g.t y.n a).map (·.1))),(5,ab.bm ((eI p g.t y.n a).map (·.2))),(0,.p q.bx 0),(3,.ptr (fJ n y a env F))],bN p ah q ((List.range j).foldl (λg k=>g.ic M k (X.2.getD k default).toNat) (G.reach M)) Hx⟩/\z=X.2.length - j/\j<=X.2.length) (⟨0,rfl,rfl,aa⟩) ?_;rintro z _ ⟨j,rfl,rfl,cm⟩;refine ax ?_;refine az (λao=>?_) λao=>?_
   ·have B:j<X.2.length:=by omega
    have D:=hT.1 (m _ (bI B));have a9:=U j;have hN:=a3 j;refine aI ?_;refine ag (ad.le (ad.cF rfl rfl rfl rfl) (an.b4 D.1)) ?_;refine bR ?_;refine ag (EO) ?_;refine aO ?_;refine ag (ad.dX rfl rfl rfl rfl rfl (I2 (k:=M) (i:=j) aa aa) ⟨aa,aa⟩) ?_;refine aR ?_;refine cE .k ((Q1 (c j) hm rH aa D.2).b) ?_;rintro _ _ ⟨rfl,rfl⟩;refine aP ?_;exact aW (⟨j+1,by rw[lD],rfl,B⟩)
   ·obtain rfl:j=X.2.length:=by omega
    have bF:((List.range X.2.length).foldl (λg k=>g.ic M k (X.2.getD k default).toNat) (G.reach M))=(nA M X.2 (G.reach M)):=rfl;rw[bF];refine eb ?_;refine bK (λAm=>?_);refine aY ?_;refine eA 10 ?_;refine bE ?_;refine bc (λaV=>?_) (λaV=>?_)
    ·have s:sv (p.methods.getD M default)=true:=by rw[sv, <-SY];exact aV
     refine bP 11 104 ?_;refine ba ?_;refine bg (ad.dX rfl rfl rfl rfl rfl (nD (i:=(p.methods.getD M default).node.toNat) aa) ⟨aa,aa⟩) ?_;refine bg (ad.le (ad.gk rfl rfl rfl (nD (i:=(p.methods.getD M default).node.toNat) aa) (hK aa)) (an.b4 P.1)) ?_;refine aO ?_;refine cE .k ((pg a1 o hn P.2 y a env F).b) ?_;rintro _ _ ⟨rfl,rfl⟩;refine aP ?_;exact aW (⟨i+1,by rw[v,E,if_pos s],rfl,bT⟩)
    ·have s:sv (p.methods.getD M default)=false:=by rw[sv, <-SY];exact aV
     refine aP ?_;exact aW (⟨i+1,by rw[v,E,if_neg (by rw[s];decide)],rfl,bT⟩)
 ·obtain rfl:i=(eI p g.t y.n a).length:=by omega
  rw[List.take_length];refine aY ?_;refine gM [] (bN p ah q (sw p n y.n a g) Hx) ?_;exact⟨rfl,rfl⟩
def agR(els)(H):bO prog 109 [.ai 1 els] H (λy c=>∃gE,y= .as (.ai 1 els) (.slice gE els.length els.length)/\c=H) (λ_ _=>False):=by
 refine aM func109 λB I f=>?_;refine bR ?_;refine .clip rfl rfl rfl rfl rfl rfl rfl rfl rfl rfl λgE=>?_;refine aY ?_;refine aC 2 H ?_;exact⟨gE,rfl,rfl⟩
instance:qT prog 90 (50,106):=⟨ay,ay⟩
instance:uU prog 106 .nilFunc:=⟨ay⟩
def nJ(op:Int):Nat:=if op=1\/(12<=op/\op<=16) then 59 else if op=2 then 60 else if op=3 then 61 else if op=4 then 62 else if op=6 then 63 else if op=7 then 64 else if op=8 then 65 else if op=9\/op=11 then 66 else if op=10 then 67 else if op=17 then 68 else if op=5 then 69 else if op=18 then 70 else 0
def JX{op}(h:ik op≠none):1<=op/\op<=18:=by
 apply Decidable.byContradiction;intro a;apply h;unfold ik;rw[if_neg aa,if_neg aa,if_neg aa,if_neg aa,if_neg aa]
def agS{op}(h:1<=op/\op<=18):(hz ov op).getD (.val .nilFunc)= .fn (.func (nJ op)) [] []:=by
 rcases (show op=1\/op=2\/op=3\/op=4\/op=5\/op=6\/op=7\/op=8\/op=9\/op=10\/op=11\/op=12\/op=13\/op=14\/op=15\/op=16\/op=17\/op=18 by omega) with rfl | rfl | rfl | rfl | rfl | rfl | rfl | rfl | rfl | rfl | rfl | rfl | rfl | rfl | rfl | rfl | rfl | rfl <;> rfl
def agT:lx ov:=⟨λp a=>by
 have:p.1∈ov.map (·.1):=List.mem_map_of_mem a;have c:∀x∈ov.map (·.1),1<=x/\x<=18:=by decide
 have:=c _ this;unfold fV;omega,c8⟩
def SZ(hy:gC p y bB)(h:y.op=3):0<=y.n/\y.n<bB:=by
 rw[gC,if_neg aa,if_neg aa] at hy;simpa [rG,h] using hy
def AV(hy:gC p y bB)(h:y.op=4\/y.op=7):0<=y.n/\y.n<p.av:=by
 rw[gC,if_neg aa,if_neg aa,rG,if_neg aa,if_pos h] at hy;simpa using hy
def po(hy:gC p y bB)(h:y.op=6\/y.op=8):y.n=(y.n.toNat:Int)/\1<=y.n.toNat/\y.n.toNat<aJ p:=by
 rw[gC,if_neg aa,if_pos h] at hy;simp[Bool.and_eq_true,decide_eq_true_eq] at hy;unfold aJ;omega
def agU(x:fB p q)(N:p.Small)(h:bf p g.t){n:Nat}(hn:n<p.nodes.length){y:hi}{D env:ak}{G:Int}(hy:gC p y env.length)(I:ik y.op≠none)(O:∀k∈env,ct (aJ p) k=true)(o:∀k∈D,ct (aJ p) k=true)
  (H:D.length=y.kids.length) (J:D.length<=3) (L:y.op=5->(D.length:Int)=fG p y.n) (K:G<0\/∃k:Nat,G=k/\k<p.methods.length):
  bO prog (nJ y.op) [.p q.bx 0,ab.mU n y D env G] (bN p (bh p) q g Hx) (λr Q=>r= .bk []/\Q=bN p (bh p) q (eF p (bh p) y n env G D g) Hx) (λ_ _=>False):=by
 have M:=JX I;by_cases a:y.op=1\/(12<=y.op/\y.op<=16)
 ·rw[eF,nJ,if_pos a,if_pos a];exact adf x h hn
 by_cases f:y.op=2
 ·rw[eF,nJ,if_neg a,if_pos f,if_neg a,if_pos f];exact adg x h hn
 by_cases j:y.op=3
 ·rw[eF,nJ,if_neg a,if_neg f,if_pos j,if_neg a,if_neg f,if_pos j];exact adh x h hn (SZ hy j) O
 by_cases l:y.op=4
 ·rw[eF,nJ,if_neg a,if_neg f,if_neg j,if_pos l,if_neg a,if_neg f,if_neg j,if_pos l];exact adn x h hn o (AV hy (.inl l))
 by_cases m:y.op=6
 ·rw[eF,nJ,if_neg a,if_neg f,if_neg j,if_neg l,if_pos m,if_neg a,if_neg f,if_neg j,if_neg l,if_pos m];exact adz x h hn (c:=y.n.toNat) (po hy (.inl m)).1 (po hy (.inl m)).2.1 (po hy (.inl m)).2.2
 by_cases v:y.op=7
 ·rw[eF,nJ,if_neg a,if_neg f,if_neg j,if_neg l,if_neg m,if_pos v,if_neg a,if_neg f,if_neg j,if_neg l,if_neg m,if_pos v];exact ado x h hn o (AV hy (.inr v))
 by_cases s:y.op=8
 ·rw[eF,nJ,if_neg a,if_neg f,if_neg j,if_neg l,if_neg m,if_neg v,if_pos s,if_neg a,if_neg f,if_neg j,if_neg l,if_neg m,if_neg v,if_pos s];exact adJ x h hn o (to:=y.n.toNat) (po hy (.inr s)).1 (po hy (.inr s)).2.1 (po hy (.inr s)).2.2
 by_cases A:y.op=9\/y.op=11
 ·rw[eF,nJ,if_neg a,if_neg f,if_neg j,if_neg l,if_neg m,if_neg v,if_neg s,if_pos A,if_neg a,if_neg f,if_neg j,if_neg l,if_neg m,if_neg v,if_neg s,if_pos A];exact adi x h hn o
 by_cases B:y.op=10
 ·rw[eF,nJ,if_neg a,if_neg f,if_neg j,if_neg l,if_neg m,if_neg v,if_neg s,if_neg A,if_pos B,if_neg a,if_neg f,if_neg j,if_neg l,if_neg m,if_neg v,if_neg s,if_neg A,if_pos B];exact adk x h hn o
 by_cases C:y.op=17
 ·rw[eF,nJ,if_neg a,if_neg f,if_neg j,if_neg l,if_neg m,if_neg v,if_neg s,if_neg A,if_neg B,if_pos C,if_neg a,if_neg f,if_neg j,if_neg l,if_neg m,if_neg v,if_neg s,if_neg A,if_neg B,if_pos C];exact adj x h hn o
 by_cases z:y.op=5
 ·rw[eF,nJ,if_neg a,if_neg f,if_neg j,if_neg l,if_neg m,if_neg v,if_neg s,if_neg A,if_neg B,if_neg C,if_pos z,if_neg a,if_neg f,if_neg j,if_neg l,if_neg m,if_neg v,if_neg s,if_neg A,if_neg B,if_neg C,if_pos z];exact agQ x h hn o H J (L z)
 by_cases E:y.op=18
 ·rw[eF,nJ,if_neg a,if_neg f,if_neg j,if_neg l,if_neg m,if_neg v,if_neg s,if_neg A,if_neg B,if_neg C,if_neg z,if_pos E,if_neg a,if_neg f,if_neg j,if_neg l,if_neg m,if_neg v,if_neg s,if_neg A,if_neg B,if_neg C,if_neg z,if_pos E];rcases K with F | ⟨k,rfl,P⟩
  ·rw[if_pos F];exact agM x N h hn F
  ·rw[if_neg aa];exact agN x N h hn rfl P
 exfalso;omega
def S0{R}{G}(h:i<y.kids.length):jP R y env i (y.kids.drop i) G=jP R y env (i+1) (y.kids.drop (i+1)) (R (y.kids.getD i default) (if y.op=9/\i=1 then env++[G.t.nodes.getD (y.kids.getD 0 default).toNat default] else env) G):=by
 have e:y.kids.getD i default=y.kids[i]:=by rw[List.getD_eq_getElem?_getD,List.getElem?_eq_getElem h];rfl
 rw[e,List.drop_eq_getElem_cons h,jP]
def agV{n}{KS env:ak}{f v}(h:i<3)(g:i<KS.length)(j:v=KS.getD i default):(fJ n y (KS.take i) env f).take (4+i)++cG (.i v)++(fJ n y (KS.take i) env f).drop (4+i+1)=fJ n y (KS.take (i+1)) env f:=by
 subst j
 match i,h with
 | 0,_=>
  cases KS with
  | nil=>simp at g
  | cons a r=>rfl
 | 1,_=>
  match KS,g with
  | a::b::r,_=>rfl
 | 2,_=>
  match KS,g with
  | a::b::c::r,_=>rfl
def agW(l:ak)(v):ab.ai 1 ((l.map λn=>[.i n])++[[.i v]])=ab.ints (l++[v]):=by
 show _=ab.ai 1 (List.map _ (_++_));rw[List.map_append];rfl
def S1(j:(bw p).isSome){y}{q}(f:ik y.op≠none)(c:ik y.op=some none->(y.kids.length:Int)=p.cT.getD y.n.toNat default)(g:∀k,ik y.op=some (some k)->y.kids.length=k)(a:gC p y q):y.kids.length<=3:=by
 by_cases h:y.op=5
 ·have m:k6 p y.n=true:=by
   rw[gC,h] at a;simp[rG] at a;unfold k6;simp;omega
  have:=II j m;have:=c (by rw[h];rfl);unfold fG at*;omega
 ·have o:∃k,k<=3/\ik y.op=some (some k):=by
   revert f;unfold ik;rw[if_neg h];split
   ·exact λ_=>⟨0,aa,rfl⟩
   ·split
    ·exact λ_=>⟨1,aa,rfl⟩
    ·split
     ·exact λ_=>⟨2,aa,rfl⟩
     ·split
      ·exact λ_=>⟨3,aa,rfl⟩
      ·exact λh=>absurd rfl h
  obtain⟨k,r,l⟩:=o;have:=g k l;omega
def agX:dW q.mS ov∈bN p ah q g Hx:=.tail _ (List.mem_append_left _ uX)
def agY(a1:fB p q)(ck:p.Small){next:Bool}{c:Int}(a3:c<0\/∃k:Nat,c=k/\k<p.methods.length){f:Nat}(fv:∀{n:Int} {env:ak} {g:GT} {Hx:aA},h4 p next f n env.length->env.length+f<=20->(∀k∈env,ct (aJ p) k=true)->bf p g.t->bO prog 71 [.p q.bx 0,.i n,ab.ints env,.i c] (bN p (bh p) q g Hx) (λr j=>r= .bk []/\j=bN p (bh p) q (fQ p (bh p) c f n env g) Hx) (λ_ _=>False)){N:Nat}{env:ak}{g:GT}{Hx:aA}(L:h4 p next (f+1) N env.length)(a4:env.length+(f+1)<=20)(he:∀k∈env,ct (aJ p) k=true)(h:bf p g.t):bO prog 71 [.p q.bx 0,.i (N:Int),ab.ints env,.i c] (bN p (bh p) q g Hx) (λr j=>r= .bk []/\j=bN p (bh p) q (fQ p (bh p) c (f+1) N env g) Hx) (λ_ _=>False):=by
 refine aM (n:=98) func71 λB I bW=>?_;have hm:=a1.many;have fw:=tS L;have hn:N<p.nodes.length:=by omega
 have v:=Ak L;obtain⟨F,Q⟩:=DF L;obtain⟨A,B,_⟩:=Al L;have O:=L.2.2;obtain⟨Y,hy⟩:∃Y,Y=js p (N:Int):=⟨_,rfl⟩;rw[<-hy] at v F Q A B O;have gF:Y.kids.length<=3:=S1 a1.aH B F Q A;have V:=JX B;have W:fQ p (bh p) c (f+1) N env g=eF p (bh p) Y N env c (mb (jP (fQ p (bh p) c f) Y env 0 Y.kids g).t Y) (jP (fQ p (bh p) c f) Y env 0 Y.kids g):=by rw[hy];rfl
 refine ba ?_;refine ag (lL) ?_;refine ag (ad.le (ad.rF rfl rfl rfl rfl) (show an _ (.agg (ia Y)) by rw[hy];exact an.refl _)) ?_;refine aF ?_;refine bK (λmZ=>?_);refine c4 ?_;refine bo (λz st=>∃(i:Nat) (G:GT),st=⟨[(30,.i i),(29,.i Y.kids.length),(28,ab.ints Y.kids),(8,.p mZ 0),(0,.p q.bx 0),(2,ab.ints env),(3,.i c)],.au mZ 142 (fJ (N:Int) Y [] env c)::bN p (bh p) q G Hx⟩/\z=Y.kids.length - i/\i<=Y.kids.length/\bf p G.t/\jP (fQ p (bh p) c f) Y env i (Y.kids.drop i) G=(jP (fQ p (bh p) c f) Y env 0 Y.kids g)) (⟨0,g,rfl,rfl,aa,h,rfl⟩) ?_;rintro z _ ⟨i,G,rfl,rfl,aQ,s,E⟩;refine ax ?_;refine az (λaf=>?_) λaf=>?_
 ·have o:i<Y.kids.length:=by omega
  have U:=S0 (R:=(fQ p (bh p) c f)) (y:=Y) (env:=env) (G:=G) o;have C:=O i o;have bF:=s.nl;obtain⟨e,x⟩:∃e,e=(if Y.op=9/\i=1 then env++[G.t.nodes.getD (Y.kids.getD 0 default).toNat default] else env):=⟨_,rfl⟩;rw[<-x] at U;have X:=v _ (bI (l:=Y.kids) (k:=0) aa);have a0:=xE s X;have T:∀k∈e,ct (aJ p) k=true:=by
   intro k bD;rw[x] at bD;split at bD
   ·rcases List.mem_append.1 bD with bu | bu
    ·exact he k bu
    ·rw[List.mem_singleton.1 bu];exact a0
   ·exact he k bD
  have H:e.length+f<=20:=by
   rw[x];split
   ·rw[List.length_append];show env.length+1+f<=20;omega
   ·omega
  have Z:h4 p next f (Y.kids.getD i default) e.length:=by
   rw[x];by_cases P:Y.op=9/\i=1
   ·rw[if_pos P] at C ⊢;simpa using C
   ·rw[if_neg P] at C ⊢;exact C
  refine uV ?_;refine aB.kV (λst=>st=⟨[(9,.i i),(10,.i (Y.kids.getD i default)),(11,ab.ints e),(30,.i i),(29,.i Y.kids.length),(28,ab.ints Y.kids),(8,.p mZ 0),(0,.p q.bx 0),(2,ab.ints env),(3,.i c)],.au mZ 142 (fJ (N:Int) Y [] env c)::bN p (bh p) q G Hx⟩) ?_ ?_
  ·refine bR ?_;refine bc (λae=>?_) (λae=>?_)
   ·have S:Y.op=9/\i=1:=by
     have c7:(Y.op==9)=true:=by
      cases a8:(Y.op==9) with
      | true=>rfl
      | false=>rw[a8] at ae;cases ae
     rw[c7] at ae;exact⟨by simpa using c7,by have:((i:Int)==1)=true:=ae;simp at this;omega⟩
    have J:e=env++[G.t.nodes.getD (Y.kids.getD 0 default).toNat default]:=by rw[x,if_pos S]
    subst J;refine aB.cw mixed ?_;refine b0.MC (λJY j=>∃K,JY= .as (ab.ints env) (.slice K (env.map λn=>[ab.i n]).length (env.map λn=>[ab.i n]).length)/\j= .au mZ 142 (fJ (N:Int) Y [] env c)::bN p (bh p) q G Hx) 45 1 0 15 98 rfl aq aq rfl rfl aq ?_;refine bj.ly aq rfl rfl rfl rfl (λy j m=>ad.move rfl rfl rfl) (λaf=>ad.move rfl rfl rfl) ?_;refine bj.MD aq aq rfl rfl rfl .k (λB=>(agR _ _).b) ?_;refine bj.ly aq rfl rfl rfl rfl (λy j m=>ad.move rfl rfl rfl) (λaf=>ad.move rfl rfl rfl) ?_;refine bj.ly aq rfl rfl rfl rfl (λy j m=>fT) (λaf=>fT) ?_;refine bj.ly aq rfl rfl rfl rfl (λy j m=>b5) (λaf=>b5) ?_;refine bj.ly aq rfl rfl rfl rfl (λy j m=>b5) (λaf=>b5) ?_;refine bj.ly aq rfl rfl rfl rfl (λy j m=>(by obtain⟨K,_,rfl⟩:=m;apply ad.ij rfl rfl rfl;(case hm=>exact .tail _ (.head _));(case hy=>rfl))) (λaf=>cJ) ?_;refine bj.ly aq rfl rfl rfl rfl (λy j m=>b5) (λaf=>b5) ?_;refine bj.ly aq rfl rfl rfl rfl (λy j m=>b5) (λaf=>b5) ?_;refine bj.ly aq rfl rfl rfl rfl (λy j m=>(by obtain⟨K,_,rfl⟩:=m;apply ad.ij rfl rfl rfl;(case hm=>exact .head _);(case hy=>rfl))) (λaf=>cJ) ?_;refine bj.ly aq rfl rfl rfl rfl (λy j m=>ad.ep (enc:=λn=>[ab.i n]) (l:=Y.kids) (i:=0) rfl rfl rfl rfl rfl ⟨aa,KL⟩) (λaf=>ad.ep (enc:=λn=>[ab.i n]) (l:=Y.kids) (i:=0) rfl rfl rfl rfl rfl ⟨aa,KL⟩) ?_;refine bj.ly aq rfl rfl rfl rfl (λy j m=>ad.le (ad.cF rfl rfl rfl rfl) (an.b4 (show _=Y.kids.getD 0 default from rfl))) (λaf=>ad.le (ad.cF rfl rfl rfl rfl) (an.b4 (show _=Y.kids.getD 0 default from rfl))) ?_;refine bj.ly aq rfl rfl rfl rfl (λy j m=>(by obtain⟨K,_,rfl⟩:=m;exact ad.dX rfl rfl rfl rfl rfl (.tail _ (nD (i:=(Y.kids.getD 0 default).toNat) aa)) ⟨aa,aa⟩)) (λaf=>ad.dX rfl rfl rfl rfl rfl (.tail _ (nD (i:=(Y.kids.getD 0 default).toNat) aa)) ⟨aa,aa⟩) ?_;refine bj.ly aq rfl rfl rfl rfl (λy j m=>(by obtain⟨K,_,rfl⟩:=m;exact ad.gk rfl rfl rfl (.tail _ (nD (i:=(Y.kids.getD 0 default).toNat) aa)) (hK aa))) (λaf=>ad.gk rfl rfl rfl (.tail _ (nD (i:=(Y.kids.getD 0 default).toNat) aa)) (hK aa)) ?_;refine bj.ly aq rfl rfl rfl rfl (λy j m=>ad.row rfl rfl cC rfl rfl rfl rfl rfl rfl) (λaf=>ad.row rfl rfl cC rfl rfl rfl rfl rfl rfl) ?_;refine bj.nil (λy j m=>?_);obtain⟨K,rfl,rfl⟩:=m;refine aR ?_;refine ag (ad.eq (ad.W0 rfl rfl rfl rfl rfl (an.refl _) rfl (by simp[partsOf]) (by simp[partsOf];omega) (by simp[partsOf];omega)) (agW _ _)) ?_;refine aO ?_;exact dh rfl
   ·have J:e=env:=by
     rw[x,if_neg];rintro⟨dP,c7⟩;rw[dP,c7] at ae;cases ae
    subst J;refine aR ?_;exact dh rfl
  ·rintro _ rfl;refine aT ?_;refine aj.perm (show (.au mZ 142 (fJ (N:Int) Y [] env c)::((eo p q G.ch::eg (bh p) q G.t)++Hx)).Perm ((eo p q G.ch::eg (bh p) q G.t)++(.au mZ 142 (fJ (N:Int) Y [] env c)::Hx)) from List.perm_middle.symm) ?_;refine cE .k ((fv (Hx:=.au mZ 142 (fJ (N:Int) Y [] env c)::Hx) Z H T s).b) ?_;rintro _ _ ⟨rfl,rfl⟩;refine aj.perm (show ((eo p q ((fQ p (bh p) c f) (Y.kids.getD i default) e G).ch::eg (bh p) q ((fQ p (bh p) c f) (Y.kids.getD i default) e G).t)++(.au mZ 142 (fJ (N:Int) Y [] env c)::Hx)).Perm (.au mZ 142 (fJ (N:Int) Y [] env c)::((eo p q ((fQ p (bh p) c f) (Y.kids.getD i default) e G).ch::eg (bh p) q ((fQ p (bh p) c f) (Y.kids.getD i default) e G).t)++Hx)) from List.perm_middle) ?_;refine aP ?_;exact aW (⟨i+1,(fQ p (bh p) c f) (Y.kids.getD i default) e G,rfl,rfl,o,Ap f Z T s,by rw[<-E,U]⟩)
 ·obtain rfl:i=Y.kids.length:=by omega
  have a2:G=(jP (fQ p (bh p) c f) Y env 0 Y.kids g):=by rw[<-E,List.drop_length];rfl
  have bF:=s.nl;have D:(mb G.t Y).length=Y.kids.length:=List.length_map _;refine ji ?_;refine bo (λz st=>∃i:Nat,st=⟨[(70,.i i),(69,.i Y.kids.length),(68,ab.ints Y.kids),(8,.p mZ 0),(0,.p q.bx 0)],.au mZ 142 (fJ (N:Int) Y ((mb G.t Y).take i) env c)::bN p (bh p) q G Hx⟩/\z=Y.kids.length - i/\i<=Y.kids.length) (⟨0,rfl,rfl,aa⟩) ?_;rintro z _ ⟨i,rfl,rfl,aQ⟩;refine ax ?_;refine az (λao=>?_) λao=>?_
  ·have o:i<Y.kids.length:=by omega
   have a5:=v _ (bI o);refine oX ?_;refine ag (ad.dX rfl rfl rfl rfl rfl (.tail _ (nD (i:=(Y.kids.getD i default).toNat) aa)) ⟨aa,aa⟩) ?_;refine ag (ad.gk rfl rfl rfl (.tail _ (nD (i:=(Y.kids.getD i default).toNat) aa)) (hK aa)) ?_;refine aR ?_;refine ag (KH) ?_;apply aj.fZ rfl rfl rfl rfl rfl rfl rfl rfl rfl rfl
   (case hu=>repeat (first | exact bG.head _ _ _ | apply bG.tail));(case hfit=>exact Nat.ble_eq_true_of_le (show 4+(i:Int).toNat*1+1<=9 by omega));(case hds=>exact (show _=fJ (N:Int) Y ((mb G.t Y).take (i+1)) env c by rw[show 0+4+(i:Int).toNat*1=4+i by omega];exact agV (KS:=(mb G.t Y)) (i:=i) aa aa (show _=(List.map (λk=>G.t.nodes.getD k.toNat default) Y.kids).getD i default by rw[sM o])))
   refine aP ?_;exact aW (⟨i+1,rfl,rfl,o⟩)
  ·obtain rfl:i=Y.kids.length:=by omega
   rw[List.take_of_length_le (by omega:(mb G.t Y).length<=Y.kids.length)];refine aT ?_;refine bP 10 98 ?_;refine aP ?_;refine bg (ad.eq (ad.tm rfl rfl rfl rfl rfl (.tail _ agX) agT ey) (agS V)) ?_;refine aY ?_;refine aj.perm (show (.au mZ 142 (fJ (N:Int) Y (mb G.t Y) env c)::((eo p q G.ch::eg (bh p) q G.t)++Hx)).Perm ((eo p q G.ch::eg (bh p) q G.t)++(.au mZ 142 (fJ (N:Int) Y (mb G.t Y) env c)::Hx)) from List.perm_middle.symm) ?_;refine cE .k ((agU (Hx:=.au mZ 142 (fJ (N:Int) Y (mb G.t Y) env c)::Hx) a1 ck s hn A B he (DL s v) D aa (λcr=>by rw[D];exact F (by rw[cr];rfl)) a3).b) ?_;rintro _ _ ⟨rfl,rfl⟩;refine aR ?_;refine aZ.nU (rs:=[]) (H':=bN p (bh p) q (eF p (bh p) Y N env c (mb G.t Y) G) Hx) rfl (.nil) (c0.refl _) (by exact List.Sublist.cons_cons _ (List.Sublist.append (List.Sublist.refl _) (List.sublist_cons_self _ _))) ?_;exact⟨rfl,by rw[W,a2]⟩
def JZ{p:Prog}{q:gx}(a1:fB p q)(ck:p.Small){next:Bool}{eU:Int}(ain:eU<0\/∃k:Nat,eU=k/\k<p.methods.length):∀(f:Nat) {n:Int} {env:ak} {g:GT} {Hx:aA},h4 p next f n env.length->env.length+f<=20->(∀k∈env,ct (aJ p) k=true)->bf p g.t->
  bO prog 71 [.p q.bx 0,.i n,ab.ints env,.i eU] (bN p (bh p) q g Hx) (λr H1=>r= .bk []/\H1=bN p (bh p) q (fQ p (bh p) eU f n env g) Hx) (λ_ _=>False)
 | 0,n,env,g,Hx,j1,_,_,_=>j1.elim
 | f+1,n,env,g,Hx,j1,alb,he,h=>by
  have rL:=tS j1;obtain⟨N,rfl⟩:∃N:Nat,n=N:=⟨n.toNat,aa⟩;exact agY a1 ck ain (f:=f) (λa b c d=>JZ a1 ck ain f a b c d) j1 alb he h
def S2(l:ak):dB (l.map ab.i)=true:=by simp[dB,fa,Value.oneCell']
def S3(l:ak):(l.map ab.i).map (λc=>[c])=l.map λn=>[.i n]:=by rw[List.map_map];rfl
def agZ{l}{v}(c:l≠ [])(g:l.length<=100000):hP prog [.row 3 1 v l.length (l.map .i)] 21 [.val v] (.ints l):=by
 intro H a;refine aM func21 λB I j=>?_;have f:l.length≠0:=by simpa using c
 refine ba ?_;refine ag (.W2 rfl rfl rfl rfl rfl rfl (a _ dv) f) ?_;refine aO ?_;refine bc (λaf=>?_) λaf=>?_
 ·cases af
 ·refine ax ?_;refine ag (ad.eq (ad.MM rfl rfl rfl (an.refl _) rfl rfl (a _ (.head _)) aS (by simpa using c) (S2 l) aa aa) (by rw[S3])) ?_;refine aY ?_;refine aC 2 (H) ?_;exact⟨cO,rfl⟩
def AW(m:(bw p).isSome)(ah){g}(h:bf p g.t){i}(j:i<p.methods.length):h4 p (k4 (p.methods.getD i default)) 13 (p.methods.getD i default).node (g.t.params.getD i default).length/\(g.t.params.getD i default).length+13<=20/\(∀k∈g.t.params.getD i default,ct (aJ p) k=true)/\bf p (kL p ah g i).t:=by
 have q:=(tR m).1 _ (bI j);have s:=h.jM i j;rw[<-s] at q;have r:=h.kf _ (bI (by rw[h.pl];exact j));have w:=tQ m j;obtain⟨o,v⟩:=Option.isSome_iff_exists.1 m;have:=(qZ (iF v).2.2.1 (bI (l:=p.cT) (k:=(p.methods.getD i default).gen.toNat) aa)).2;refine⟨q,aa,r,?_⟩;unfold kL;split
 ·exact Ap 13 q r h
 ·exact h
def J0(a:(bw p).isSome)(ah){g}(h:bf p g.t){i}(f:i<=p.methods.length):bf p ((List.range i).foldl (kL p ah) g).t:=hU _ h λg m c h=>(AW a ah h (by have:=List.mem_range.1 c;omega)).2.2.2
def Es(a:(bw p).isSome)(ah){t}(h:bf p t):bf p (ft p ah t).t:=Ap 13 (tR a).2.1 (λk c=>by cases c) (J0 a ah (g:=⟨t,false⟩) h fs)
def S4(a1:fB p q)(ck:p.Small)(h:bf p g.t):bO prog 34 [.p q.bx 0] (bN p (bh p) q g Hx) (λr L=>r= .b (ft p (bh p) g.t).ch/\L=bN p (bh p) q (ft p (bh p) g.t) Hx) (λ_ _=>False):=by
 refine aM func34 λB I M=>?_;have H:=ki a1.aH;have l:∀i,i<=p.methods.length->bf p ((List.range i).foldl (kL p (bh p)) ⟨g.t,false⟩).t:=λi w=>J0 a1.aH (bh p) (g:=⟨g.t,false⟩) h w;refine zq ?_;refine bo (λz C=>∃i:Nat,C=⟨[(14,.i i),(13,.i p.methods.length),(12,.ai 9 (p.methods.map eR)),(0,.p q.bx 0)],bN p (bh p) q ((List.range i).foldl (kL p (bh p)) ⟨g.t,false⟩) Hx⟩/\z=p.methods.length - i/\i<=p.methods.length) tp ?_;rintro z _ ⟨i,rfl,rfl,w⟩;refine ax ?_;refine az (λaf=>?_) λaf=>?_
 ·have bT:i<p.methods.length:=by omega
  obtain⟨G,m⟩:∃G,G=((List.range i).foldl (kL p (bh p)) ⟨g.t,false⟩):=⟨_,rfl⟩;have a:=l i w;rw[<-m] at a;have j:=lD (f:=kL p (bh p)) i ⟨g.t,false⟩;rw[<-m] at j;rw[<-m];have K:=a.ho;have F:=a.pl;obtain⟨v,s,o,D⟩:=AW a1.aH (bh p) a bT;have c:=tW a1.aH a bT;refine ba ?_;refine bK (λAm=>?_);refine aT ?_;refine eA 4 ?_;refine aP ?_;refine ag (ad.dX rfl rfl rfl rfl rfl (sy (i:=i) aa) ⟨aa,aa⟩) ?_;refine ag (ad.gk rfl rfl rfl (sy (i:=i) aa) (xZ aa)) ?_;refine aO ?_;refine bc (λae=>?_) (λae=>?_)
  ·have x:G.t.bz.getD i default=true:=ae;refine bP 13 53 ?_;refine ba ?_;refine bg (wb) ?_;refine aR ?_;refine bg (ad.hX .k (c0.refl _) (agZ c aa) (λe A=>by rw[List.mem_singleton] at A;subst A;exact I5 aa c)) ?_;refine aF ?_;refine cE .k ((JZ a1 ck (.inr ⟨i,rfl,bT⟩) 13 v s o a).b) ?_;rintro _ _ ⟨rfl,rfl⟩;refine aP ?_;exact aW (⟨i+1,by rw[j,kL,if_pos x],rfl,bT⟩)
  ·have x:G.t.bz.getD i default=false:=ae;refine aP ?_;exact aW (⟨i+1,by rw[j,kL,if_neg (by rw[x];decide)],rfl,bT⟩)
 ·obtain rfl:i=p.methods.length:=by omega
  have m:=l _ (Nat.le_refl _);refine dk ?_;refine cE ((gD.mk' rfl rfl rfl rfl rfl).le (.cons (.refl _) (.cons (.refl _) (.cons (an.nil 1) (.cons (.refl _) .nil))))) ((JZ a1 ck (.inl c8) 13 (tR a1.aH).2.1 (env:=[]) c8 (λk E=>by cases E) m).b) ?_;rintro _ _ ⟨rfl,rfl⟩;refine bR ?_;refine aC 2 (bN p (bh p) q (ft p (bh p) g.t) Hx) ?_;exact⟨rfl,rfl⟩
end Go.Proofs.YtodccgailpkgeaaGreat

