/- A part of the proof. No condition. -/
import Derived.Test.YtodccgailpkgeaaGreatKindClosesP21
set_option linter.defProp false
set_option maxHeartbeats 1000000
set_option linter.unusedVariables false
set_option linter.unusedSimpArgs false
set_option maxRecDepth 10000
namespace Go.Proofs.YtodccgailpkgeaaGreat
open Go.Proofs.Tryz
open Go.Eng
open Go.Eng.Fc
open Go.Eng.dO
variable{y:gR}{W:bx}{f:Fact}{B:List (List Fact)}{i k:Nat}{g:GT}{p:Prog}{ah:Nat->Nat->Bool}{q:gB}{Hx:aC}{l:cY}{env:al}{bs:Int}
def cz(f:Fact)(c:Bool):List (List Fact):=(ei f c).map eW
def ag7(l:List Fact)(x:Fact):l.contains x=l.any λy=>x==y:=by rw[List.contains_eq_any_beq]
def ag8{x y}(j:x.f.op<=4)(hy:y.f.op<=4):(jC x==jC y)=(x.neg==y.neg && x.f==y.f):=by
 have a:=x5 j;have c:=x5 hy;rw[Bool.eq_iff_iff,beq_iff_eq,Bool.and_eq_true,beq_iff_eq,beq_iff_eq];constructor
 ·intro e;rw[e,c] at a;cases x;cases y;simp at a ⊢;exact⟨a.2.symm,a.1.symm⟩
 ·rintro⟨g,h⟩;rw[jC,jC,g,h]
theorem Tq:∀(b a:List c1),(∀l∈a,l.f.op<=4)->(∀l∈b,l.f.op<=4)->eW (fS a b)=gj (eW a) (eW b)
 | [],a,_,_=>rfl
 | x::r,a,g,j=>by
  show eW (fS (nO a x) r)=gj (qp (eW a) (jC x)) (eW r);have h:=j x dB;have e:eW (nO a x)=qp (eW a) (jC x):=by
   unfold nO qp;have e:(eW a).contains (jC x)=a.any λy=>x.neg==y.neg && x.f==y.f:=by
    rw[ag7,eW,List.any_map];exact tI λy m=>ag8 h (g y m)
   rw[e];split
   ·rfl
   ·simp[eW]
  rw[Tq r _ (λl c=>?_) (λl c=>j l (.tail _ c)),e];unfold nO at c;split at c
  ·exact g l c
  ·rcases List.mem_append.1 c with c | c
   ·exact g l c
   ·rw[List.mem_singleton.1 c];exact h
def Tr(h:dS W f){c}{l}(a:l∈ei f c):∀x∈l,x.f.op<=4:=λx g=>by
 have:=(Ef f h c l a x g).2;simp[dp,Bool.and_eq_true,decide_eq_true_eq] at this;exact this.2
def all_true(h:f.op=1)(c):cz f c=if c then [] else [[]]:=by rw[cz,AF h];cases c <;> rfl
def ag9(h:f.op=5)(a:0<f.kids.length)(c):cz f c=cz (f.kids.getD 0 default) (!c):=by rw[cz,AG h a,cz]
def Ts(g: ¬f.op=1)(a: ¬f.op=5)(h:dp f)(c):cz f c= [[if c then oG f else f]]:=by rw[cz,AH g a h];cases c <;> rfl
def aha(a: ¬f.op=1)(j: ¬f.op=5)(h:dp f=false){c}(g:(c==(f.op==6))=true)(l:1<f.kids.length):cz f c=cz (f.kids.getD 0 default) c++cz (f.kids.getD 1 default) c:=by
 rw[cz,AI a j h g l,List.map_append,cz,cz]
def ahb(A:dS W f)(v: ¬f.op=1)(s: ¬f.op=5)(z:dp f=false){c}(w:(c==(f.op==6))=false)(q:1<f.kids.length):cz f c=(cz (f.kids.getD 0 default) c).flatMap λa=>(cz (f.kids.getD 1 default) c).map (gj a):=by
 have g:=(mS.1 A).2;rw[cz,AJ v s z w q,cz,cz,List.map_flatMap,List.flatMap_map];have j:∀l:List (List c1),(∀x∈l,x∈ei (f.kids.getD 0 default) c)->(l.flatMap λa=>((ei (f.kids.getD 1 default) c).map (fS a)).map eW)=l.flatMap λa=>((ei (f.kids.getD 1 default) c).map eW).map (gj (eW a)):=by
  intro l
  induction l with
  | nil=>intro _;rfl
  | cons x r t=>
   intro o;rw[List.flatMap_cons,List.flatMap_cons,t (λy m=>o y (.tail _ m)),List.map_map,List.map_map];congr 1;refine List.map_congr_left λy m=>?_;exact Tq y x (Tr (g _ gZ) (o x dB)) (Tr (g _ (hT q)) m)
 exact j _ λ_ h=>h
def ahc{a b}(h:1<=a)(g:1<=b):2^a+2^b<=2^(a+b):=by
 have f:2<=2^a:=by have:=Nat.pow_le_pow_right (n:=2) aa h;omega
 have c:2<=2^b:=by have:=Nat.pow_le_pow_right (n:=2) aa g;omega
 rw[Nat.pow_add];generalize 2^a=A at*;generalize 2^b=B at*;have l:A*2<=A*B:=Nat.mul_le_mul_left A c;have j:2*B<=A*B:=Nat.mul_le_mul_right B f;omega
def ahd:∀f:Fact,okB f=true->∀c,(ei f c).length<=2^((cW f+1) / 2):=by
 refine Fact.mf λf s h c=>?_;have t:=vI h;have H:=p2 f;have w:1<=2^((cW f+1) / 2):=Nat.one_le_two_pow;by_cases o:f.op=1
 ·rw[AF o];cases c
  ·exact w
  ·simp
 by_cases j:f.op=5
 ·have C:=AL h j;rw[AG j aa];have E:=RT f.kids aa;exact Nat.le_trans (s (f.kids.getD 0 default) gZ (t.2.2.2.2 _ gZ) (!c)) (Nat.pow_le_pow_right aa aa)
 by_cases m:dp f=true
 ·rw[AH o j m];simpa using w
 ·have g:dp f=false:=by simpa using m
  have C:=AK h o j g;have D:=D7 f.kids aa;have A:=s (f.kids.getD 0 default) gZ (t.2.2.2.2 _ gZ) c;have z:=s (f.kids.getD 1 default) gZ (t.2.2.2.2 _ gZ) c;have G:1<=cW (f.kids.getD 0 default):=by rw[p2];omega
  have F:1<=cW (f.kids.getD 1 default):=by rw[p2];omega
  have B:2^((cW (f.kids.getD 0 default)+1) / 2+(cW (f.kids.getD 1 default)+1) / 2)<=2^((cW f+1) / 2):=Nat.pow_le_pow_right aa aa;refine Nat.le_trans ?_ B;cases a1:(c==(f.op==6)) with
  | true=>
   rw[AI o j g a1 aa,List.length_append];exact Nat.le_trans (Nat.add_le_add A z) (ahc aa aa)
  | false=>
   rw[AJ o j g a1 aa,List.length_flatMap,Nat.pow_add];have v:∀l:List (List c1),(l.map λa=>((ei (f.kids.getD 1 default) c).map (fS a)).length).sum=l.length*(ei (f.kids.getD 1 default) c).length:=by
    intro l
    induction l with
    | nil=>simp
    | cons x r q=>rw[List.map_cons,List.sum_cons,q,List.length_map,List.length_cons,Nat.add_mul];omega
   rw[v];exact Nat.mul_le_mul A z
def A3(a:okB f)(c):(cz f c).length<=2^((cW f+1) / 2):=by rw[cz,List.length_map];exact ahd f a c
def Kd(a:okB f)(c){x}(h:x∈cz f c):x.length<=cW f:=by
 obtain⟨l,g,rfl⟩:=List.mem_map.1 h;rw[eW,List.length_map];exact Jw f a c l g
def ahe(l:List (List Fact))(x):ab.aj 1 ((l.map λx=>[ab.facts x])++[[ab.facts x]])=ab.j2 (l++[x]):=by rw[ab.j2,List.map_append];rfl
def pz(A B:List (List Fact))(i:Nat):List (List Fact):=(A.take i).flatMap λa=>B.map (gj a)
def ahf{A B}(h:i<A.length):pz A B (i+1)=pz A B i++B.map (gj (A.getD i default)):=by
 rw[pz, <-c3 h,List.flatMap_append];simp[pz]
def ahg(A B)(i):(pz A B i).length=(A.take i).length*B.length:=by
 unfold pz;generalize A.take i=l
 induction l with
 | nil=>simp
 | cons x r a=>rw[List.flatMap_cons,List.length_append,a,List.length_map,List.length_cons,Nat.add_mul];omega
def ahh{g:List Fact->List Fact}{j}(h:j<B.length)(R:List (List Fact)):R++(B.take (j+1)).map g=(R++(B.take j).map g)++[g (B.getD j default)]:=by
 rw[<-c3 h,List.map_append,List.append_assoc];rfl
def qX.ahi{P}{f}{xs}{e k}{y}(h:qX P f xs e k y):aI P f xs y:=λH=>by
 refine⟨(h H).1,λB I w q o l j=>((h H).2 B I w q o l j).mono λe' s g=>?_⟩;obtain⟨m,r,a,b,d,g⟩:=g;rcases g with⟨v,x,rfl,c,u,rfl,rfl⟩ | ⟨v,x,_,_,j8⟩
 ·refine⟨m,H,a,b,d.sub Nk,.inl ⟨v,y,rfl,?_,rfl,rfl⟩⟩
  match c with
  | .as _ _ c=>exact c
 ·exact j8.elim
def aq.Tt{x y}{v}(h:aq x y):aq (.as x v) (.as y v):=λI w u c=>by
 match c with
 | .as _ _ a=>exact .as _ _ (h _ _ _ a)
def Tu{c}(h:(f.op==6 || f.op==7)=true):(c !=(f.op==7))=(c==(f.op==6)):=by
 rw[Bool.or_eq_true,beq_iff_eq,beq_iff_eq] at h;rcases h with e | e <;> rw[e] <;> cases c <;> rfl
def ahj(f)(K:dS W f)(hn:cW f<=52)(E:∀k∈f.kids,∀c,qX prog 194 [ab.fact k,.b c] 58 1 (ab.j2 (cz k c)))(c):qX prog 194 [ab.fact f,.b c] 58 1 (ab.j2 (cz f c)):=by
 intro H;refine aM func194 λB I bN=>?_;have r:=xV f K;have L:=vI r;have j8:=p2 f;refine iY ?_;refine az (λaf=>?_) λaf=>?_
 ·refine ay ?_;refine az (λae=>?_) λae=>?_
  ·refine a8 ?_;refine .oY 4 58 1 rfl ?_;refine aB 4 _ ?_;exact⟨_,by rw[all_true af,if_pos ae];rfl,rfl⟩
  ·refine aV ?_;refine .uT rfl rfl rfl rfl cD rfl rfl rfl rfl rfl rfl rfl λalN=>?_;refine ay ?_;refine .cl (rs:=[.tmp 4]) (H':=_) rfl eR (.cons (aq.Tt (.aj (.cons (.cons (.nil 6) .nil) .nil))) .nil) bE ?_;exact⟨_,by rw[all_true af,if_neg rQ];rfl,rfl⟩
 ·refine ay ?_;refine az (λak=>?_) λak=>?_
  ·have R:=AL r ak;refine aJ ?_;refine cI .k ((E (f.kids.getD 0 default) gZ (!c) H).b) ?_;rintro _ _ ⟨v,rfl,rfl⟩;refine ay ?_;refine aB 4 _ ?_;exact⟨_,by rw[ag9 ak aa];rfl,rfl⟩
  ·refine .k7 (λst=>∃u:Bool,st=⟨[(27,.b u),(2,.ptr (fy f)),(1,.b c)],H⟩/\u=(f.op==6 || f.op==7)) ?_ ?_
   ·refine ay ?_;refine az (λaL=>?_) λaL=>?_
    ·refine aR ?_;exact dm ⟨f.op==6,rfl,by rw[aL];rfl⟩
    ·refine aV ?_;exact dm ⟨f.op==7,rfl,by rw[beq_eq_false_iff_ne.2 aL];rfl⟩
   ·rintro _ ⟨u,rfl,G⟩;refine az (λbo=>?_) λbo=>?_
    ·subst G;have s:=bo;have a:dp f=false:=by simp[dp,Bool.and_eq_false_iff,decide_eq_false_iff_not];simp[Bool.or_eq_true,beq_iff_eq] at s;omega
     have R:=AK r af ak a;have tn:=D7 f.kids aa;refine aR ?_;refine .cu mixed ?_;refine .WQ 58 1 (ab.j2 (cz (f.kids.getD 0 default) c)) 35 5 0 11 79 rfl ao ao rfl rfl ao ?_;refine bg.qY ao rfl rfl rfl rfl rfl (λ_=>b9) ?_;refine bg.qY ao rfl rfl rfl rfl rfl (λ_=>cP) ?_;refine bg.qY ao rfl rfl rfl rfl rfl (λ_=>Lh) ?_;refine bg.qY ao rfl rfl rfl rfl rfl (λ_=>nU) ?_;refine bg.qY ao rfl rfl rfl rfl rfl (λ_=>.move rfl rfl rfl) ?_;refine bg.WR ao ao rfl rfl rfl .k (E (f.kids.getD 0 default) (hT aa) c) ?_;refine bg.qY ao rfl rfl rfl rfl rfl (λ_=>b9) ?_;refine bg.qY ao rfl rfl rfl rfl rfl (λ_=>cP) ?_;refine bg.qY ao rfl rfl rfl rfl rfl (λ_=>Lh) ?_;refine bg.qY ao rfl rfl rfl rfl rfl (λ_=>nU) ?_;refine bg.qY ao rfl rfl rfl rfl rfl (λ_=>ad.move rfl rfl rfl) ?_;refine bg.nil ⟨rfl,λoL=>?_⟩;refine aR ?_;refine cI .k ((E (f.kids.getD 1 default) (hT aa) c _).b) ?_;rintro _ _ ⟨V,rfl,rfl⟩;refine ay ?_;have h:=L.2.2.2.2 (f.kids.getD 0 default) (hT aa);have o:=L.2.2.2.2 (f.kids.getD 1 default) (hT aa);have M:(cz (f.kids.getD 0 default) c).length<=1073741824:=Nat.le_trans (A3 h c) (Nat.le_trans (Nat.pow_le_pow_right aa (show (cW (f.kids.getD 0 default)+1) / 2<=30 by omega)) c8);have N:(cz (f.kids.getD 1 default) c).length<=1073741824:=Nat.le_trans (A3 o c) (Nat.le_trans (Nat.pow_le_pow_right aa (show (cW (f.kids.getD 1 default)+1) / 2<=30 by omega)) c8);have D:(cz (f.kids.getD 0 default) c).length*(cz (f.kids.getD 1 default) c).length<=1073741824:=Nat.le_trans (Nat.mul_le_mul (A3 h c) (A3 o c)) (by rw[<-Nat.pow_add];exact Nat.le_trans (Nat.pow_le_pow_right aa (show (cW (f.kids.getD 0 default)+1) / 2+(cW (f.kids.getD 1 default)+1) / 2<=30 by omega)) c8);refine aJ ?_;refine bc (λcm=>?_) (λcm=>?_)
     ·have F:(c==(f.op==6))=true:=by rw[<-Tu s];exact cm
      have g:=aha af ak a F aa;refine aV ?_;refine ai.dJ rfl rfl rfl rfl rfl rfl rfl rfl (aq.eY _ _) (D6 (λ_=>rfl) _) (λ_=>dt) (by simp only[List.length_map];omega) (by simp only[List.length_map];omega) (λv49=>?_);refine aP ?_;refine aB 4 (.own 58 1 v49::H) ?_;exact⟨_,by rw[g,ab.j2,List.map_append];rfl,rfl⟩
     ·have F:(c==(f.op==6))=false:=by rw[<-Tu s];exact cm
      have g:=ahb K af ak a F aa;refine a8 ?_;refine hi 7 58 1 ?_;refine aA.le 5 (y:=ab.j2 (cz (f.kids.getD 0 default) c)) rfl (aq.eY _ _) ?_;refine aA.le 6 (y:=ab.j2 (cz (f.kids.getD 1 default) c)) rfl (aq.eY _ _) ?_;refine aP ?_;refine aA.Fu (λm st=>∃(i:Nat) (v:Value),st=⟨[(52,.i i),(51,.i (cz (f.kids.getD 0 default) c).length),(50,ab.j2 (cz (f.kids.getD 0 default) c)),(7,.as (ab.j2 (pz (cz (f.kids.getD 0 default) c) (cz (f.kids.getD 1 default) c) i)) v),(6,ab.j2 (cz (f.kids.getD 1 default) c)),(5,ab.j2 (cz (f.kids.getD 0 default) c)),(2,.ptr (fy f)),(1,.b c)],.own 58 1 v::H⟩/\m=(cz (f.kids.getD 0 default) c).length - i/\i<=(cz (f.kids.getD 0 default) c).length) ⟨_,_,⟨0,_,rfl,rfl,aa⟩,h1,(List.Sublist.cons_cons _ bE)⟩ ?_;rintro m _ ⟨i,v,rfl,rfl,Y⟩;refine ay ?_;refine az (λdx=>?_) λdx=>?_
      ·refine aS ?_;have t:=ahg (cz (f.kids.getD 0 default) c) (cz (f.kids.getD 1 default) c) i;rw[List.length_take] at t;have q:min i (cz (f.kids.getD 0 default) c).length*(cz (f.kids.getD 1 default) c).length<=(cz (f.kids.getD 0 default) c).length*(cz (f.kids.getD 1 default) c).length:=Nat.mul_le_mul_right _ aa;have C:=hT (l:=cz (f.kids.getD 0 default) c) (k:=i) aa;have X:=Kd h c C;have J:(pz (cz (f.kids.getD 0 default) c) (cz (f.kids.getD 1 default) c) i).length<=1073741824:=by rw[t];exact Nat.le_trans q D
       clear t q;refine aP ?_;refine aA.le 7 (y:=.as (ab.j2 (pz (cz (f.kids.getD 0 default) c) (cz (f.kids.getD 1 default) c) i++((cz (f.kids.getD 1 default) c).take 0).map (gj ((cz (f.kids.getD 0 default) c).getD i default)))) v) rfl (by rw[List.take_zero,List.map_nil,List.append_nil];exact aq.refl _) ?_;refine aP ?_;refine bm (λm st=>∃(j:Nat) (v:Value),st=⟨[(58,.i j),(57,.i (cz (f.kids.getD 1 default) c).length),(56,ab.j2 (cz (f.kids.getD 1 default) c)),(9,ab.facts ((cz (f.kids.getD 0 default) c).getD i default)),(52,.i i),(51,.i (cz (f.kids.getD 0 default) c).length),(50,ab.j2 (cz (f.kids.getD 0 default) c)),(7,.as (ab.j2 (pz (cz (f.kids.getD 0 default) c) (cz (f.kids.getD 1 default) c) i++((cz (f.kids.getD 1 default) c).take j).map (gj ((cz (f.kids.getD 0 default) c).getD i default)))) v),(6,ab.j2 (cz (f.kids.getD 1 default) c)),(5,ab.j2 (cz (f.kids.getD 0 default) c)),(2,.ptr (fy f)),(1,.b c)],.own 58 1 v::H⟩/\m=(cz (f.kids.getD 1 default) c).length - j/\j<=(cz (f.kids.getD 1 default) c).length) (⟨0,v,rfl,rfl,aa⟩) ?_;rintro m _ ⟨j,v,rfl,rfl,Z⟩;refine ay ?_;refine az (λdF=>?_) λdF=>?_
       ·refine aS ?_;have B:=hT (l:=cz (f.kids.getD 1 default) c) (k:=j) aa;have O:=Kd o c B;refine bQ ?_;refine ag (ad.call .k (ag6 ((cz (f.kids.getD 0 default) c).getD i default) ((cz (f.kids.getD 1 default) c).getD j default) aa aa)) ?_;refine ag (ad.row rfl rfl cD rfl rfl rfl rfl rfl rfl) ?_;refine ai.dJ rfl rfl rfl rfl rfl rfl rfl rfl (aq.refl _) (rfl) (λ_=>dt) KX KX (λxE=>?_);refine aV ?_;refine aA.le 7 (y:=.as (ab.j2 (pz (cz (f.kids.getD 0 default) c) (cz (f.kids.getD 1 default) c) i++((cz (f.kids.getD 1 default) c).take (j+1)).map (gj ((cz (f.kids.getD 0 default) c).getD i default)))) xE) rfl (by rw[ahh aa, <-ahe];exact aq.refl _) ?_;refine aV ?_;exact aU (⟨j+1,xE,rfl,rfl,aa⟩)
       ·obtain rfl:j=(cz (f.kids.getD 1 default) c).length:=by omega
        rw[List.take_length];refine ay ?_;rw[<-ahf aa];refine aV ?_;exact aU (⟨i+1,v,rfl,rfl,aa⟩)
      ·obtain rfl:i=(cz (f.kids.getD 0 default) c).length:=by omega
       rw[pz,List.take_length];refine c6 ?_;refine aB 4 (_) ?_;exact⟨_,by rw[g];rfl,rfl⟩
    ·subst G;have a:dp f=true:=by simp only[Bool.or_eq_false_iff,beq_eq_false_iff_ne] at bo;simp only[dp,Bool.and_eq_true,decide_eq_true_eq];omega
     refine a8 ?_;refine az (λde=>?_) λde=>?_
     ·refine aH ?_;refine ag (ad.call .k (SD f)) ?_;refine ag (ad.row rfl rfl cD rfl rfl rfl rfl rfl rfl) ?_;refine ai.uT rfl rfl rfl rfl cD rfl rfl rfl rfl rfl rfl rfl (λv75=>?_);refine aS ?_;refine aB 4 (_) ?_;exact⟨_,by rw[Ts af ak a,if_pos de];rfl,rfl⟩
     ·refine aS ?_;refine ag (ad.row rfl rfl cD rfl rfl rfl rfl rfl rfl) ?_;refine ai.uT rfl rfl rfl rfl cD rfl rfl rfl rfl rfl rfl rfl (λalO=>?_);refine aV ?_;refine aZ.cl (rs:=[.tmp 4]) (H':=_) rfl (.tmp rfl (.nil)) (.cons (aq.Tt (aq.aj (.cons (.cons (tB [f] rfl) .nil) .nil))) .nil) bE ?_;exact⟨_,by rw[Ts af ak a,if_neg (by simp[de])];rfl,rfl⟩
def ahk:∀(f:Fact),dS W f=true->cW f<=52->∀c,qX prog 194 [ab.fact f,.b c] 58 1 (ab.j2 (cz f c)):=
 Fact.mf λf j g h=>ahj f g h λk a c=>j k a ((mS.1 g).2 k a) (by have:=OW a;omega) c
def Ke(m:cy W){f}(o:dS W f){b}{c}(h:c∈ei f b):mC W c:=
 ⟨m,λl a=>let ⟨x,y⟩:=Ef f o b c h l a;Sv m x y,λl a q=>by
  obtain⟨j,r⟩:=Ef f o b c h l a;simp[gS,Bool.and_eq_true] at j;have g:=j.2;rw[if_pos r] at g;simp[Bool.and_eq_true,kO,if_pos q,jr,decide_eq_true_eq] at g;exact g.2.2.2⟩
def mC.ahl{ls}(h:mC W ls):∀x∈eW ls,ue W x:=λx j=>by
 obtain⟨l,f,rfl⟩:=List.mem_map.1 j;have c:=h.sp f;have a:=h.ok l f;refine⟨λcm=>?_,?_,?_,?_,?_⟩
 ·unfold jC at cm ⊢;split
  ·simp[oG,Fact.kids]
  ·rename_i o;rw[if_neg o] at cm;have:=a.op;omega
 ·rw[c];exact a.op
 ·rw[c];exact λak=>⟨(a.cls ak).1,h.cls l f ak⟩
 ·rw[c];exact a.n
 ·rw[c];exact a.path
def ahm(h:cy W){f}(g:dS W f){b}{x}(j:x∈cz f b):∃c∈ei f b,x=eW c/\mC W c/\rF W x=vS W c:=by
 obtain⟨c,a,rfl⟩:=List.mem_map.1 j;exact⟨c,a,rfl,Ke h g a,To (Ke h g a)⟩
def ahn(g:cy W){f}(h:dS W f)(hn:cW f<=52){b}{x}(a:x∈cz f b):aI prog 195 [ab.world W,ab.facts x] (.b (rF W x)):=by
 obtain⟨c,l,rfl,j,_⟩:=ahm g h a;exact agD W _ j.ahl (by have:=Kd (xV f h) b a;omega) g
def aho(a:cy W){f}(g:dS W f):(cz f false).any (rF W)=AR W f:=by
 rw[cz,List.any_map,AR];exact tI λc c=>To (Ke a g c)
def ahp(h:cy W){f}(c:dS W f)(hn:cW f<=52):aI prog 160 [ab.world W,ab.fact f] (.b (AR W f)):=by
 intro H;refine aM func160 λB I s=>?_;rw[<-aho h c];have j:(cz f false).length<=1073741824:=Nat.le_trans (A3 (xV f c) false) (Nat.le_trans (Nat.pow_le_pow_right aa (show (cW f+1) / 2<=30 by omega)) c8);refine bA ?_;refine ag (ad.call .k (qX.ahi (ahk f c hn false))) ?_;refine aS ?_;refine bm (λm o=>∃i:Nat,o=⟨[(10,.i i),(9,.i (cz f false).length),(8,ab.j2 (cz f false)),(2,.ptr (cB W))],H⟩/\m=(cz f false).length - i/\i<=(cz f false).length/\((cz f false).take i).any (rF W)=false) (⟨0,rfl,rfl,aa,rfl⟩) ?_;rintro m _ ⟨i,rfl,rfl,r,a⟩;refine ay ?_;refine az (λaf=>?_) λaf=>?_
 ·have g:=hT (l:=(cz f false)) (k:=i) aa;refine dW ?_;refine ag (ad.call .k (ahn h c hn g)) ?_;refine aQ ?_;refine bc (λae=>?_) (λae=>?_)
  ·refine bA ?_;refine aB 4 (H) ?_;exact⟨bn (SH (i:=i) aa ae).symm,rfl⟩
  ·refine aP ?_;exact aU (⟨i+1,rfl,rfl,aa,by rw[JS aa,a,ae];rfl⟩)
 ·obtain rfl:i=(cz f false).length:=by omega
  rw[List.take_length] at a;refine bA ?_;refine aB 4 (H) ?_;exact⟨bn a.symm,rfl⟩
def ahq(g:cy W){a b}(j:dS W a)(h:dS W b)(c:cW a<=25)(f:cW b<=25):aI prog 114 [ab.world W,ab.fact a,ab.fact b] (.b (ud W a b)):=by
 intro H;refine aM (n:=14) func114 λB I l=>?_;refine a8 ?_;refine b0 5 14 ?_;refine aH ?_;refine bh (ad.call .k (SD b)) ?_;refine bh (ad.call .k (agd a (oG b))) ?_;refine aQ ?_;refine ag (ad.call .k (ahp g (JK j (JJ h)) (by rw[JM,JL];omega))) ?_;refine aS ?_;refine aB 6 (H) ?_;exact⟨dP,rfl⟩
def ahr{a b}(h:px W [a,b]):cy W=true/\dS W a=true/\cW a<=24/\dS W b=true/\cW b<=24:=by
 simp[px,List.all_cons,List.all_nil,Bool.and_true,Bool.and_eq_true] at h;have f:=tH h.2.1;have c:=tH h.2.2;exact⟨h.1,f.1,f.2,c.1,c.2⟩
def ahs{a b}(h:px W [a,b]):aI prog 234 [ab.world W,ab.fact a,ab.fact b] (.bj [.b (ud W a b),.i 0]):=by
 have c:=ahr h;have:=af2 h;rwa [imp_eq c.1 c.2.1 c.2.2.2.1 aa aa] at this
instance:M4 prog 230:=⟨ax⟩
abbrev cC(p:Prog)(m:Nat):hC:=p.methods.getD m default
def sW(p:Prog)(m n:Nat):Bool:=ud (bR p) (cC p m).fact (cC p n).fact
def bk(p:Prog)(m n:Nat):Bool:=sW p m n && !sW p n m
abbrev v7(p:Prog)(mw:Nat):bl:=cH p++cB (bR p)++[.val (.map (some mw))]
abbrev Kf(p:Prog)(mw:Nat):br:=.gn mw (ev prog 198) (kX (sW p))
def A4(c:(bu p).isSome){m}(hm:m<p.methods.length):cy (bR p)=true/\lL (bR p) (cC p m).fact=true:=by
 obtain⟨o,f⟩:=Option.isSome_iff_exists.1 c;obtain⟨g,a,_⟩:=(jf f).2.2.2;have:=Iz _ _ (by rw[a];rfl) _ (bH hm);simp[q7,Bool.and_eq_true] at this;exact this.1
def aht(a:(bu p).isSome){m n}(hm:m<p.methods.length)(hn:n<p.methods.length):px (bR p) [(cC p m).fact,(cC p n).fact]=true:=by
 have c:=A4 a hm;have f:=A4 a hn;rw[px,c.1,List.all_cons,List.all_cons,c.2,f.2];rfl
def EB{m n}(hm:m<1000)(hn:n<1000):ev prog 198 (.agg (AB m n).toArray):=
 Xy (i:=3) (m:=348) ax ax ax ax ax ax (xT lK) (xT lK)
def ahu(h:p.Small)(c:(bu p).isSome)(H):bP prog 186 [ab.prog p] H (λy g=>∃mw,y= .ptr (v7 p mw)/\g= .map mw []::H) (λ_ _=>False):=by
 refine aM func186 λB I l=>?_;have f:=Io h;rw[Im c,c] at f;refine a8 ?_;refine ag (.call .k f) ?_;refine aH ?_;refine bT (λda=>?_);refine ay ?_;refine eB 3 ?_;refine aS ?_;refine bc (λaf=>?_) λaf=>?_
 ·simp at af
 ·refine ay ?_;refine .mkMap rfl rfl rfl rfl λmw=>?_;refine ay ?_;refine aB 2 (.map mw []::H) ?_;exact⟨mw,rfl,rfl⟩
def ahv(h:p.Small)(c:(bu p).isSome)(H):bP prog 186 [ab.prog p] H (λy g=>∃a,y= .ptr (v7 p a)/\g=Kf p a::H) (λ_ _=>False):=
 (ahu h c H).heap λy j ⟨a,bM,bJ⟩=>⟨_,⟨a,bM,rfl⟩,λB I w f=>by subst bJ;exact f.gn (.head _ _ _)⟩
def ahw(p)(a)(x):aI prog 209 [.i x,.ptr [.ptr (v7 p a)]] (.b (decide (x<0) || decide (x>=p.methods.length))):=by
 intro H;refine aM func209 λB I c=>?_;refine o9 ?_;refine aB 3 H ?_;exact⟨bn (by cases decide (x<0) <;> rfl),rfl⟩
def ahx(p)(a)(l)(c:∀x∈l,0<=x/\x<p.methods.length):aI prog 187 [.ptr (v7 p a),.ints l] (.b true):=by
 intro H;refine aM func187 λB I g=>?_;refine a8 ?_;refine ag (.XA rfl rfl rfl rfl rfl) ?_;refine aH ?_;refine gw (λav=>.call (.mk' rfl rfl rfl rfl cU) (Zr (n6.of (λx=>ahw p a x)) l)) ?_;refine ay ?_;refine aB 4 H ?_;exact⟨bn (by show (!l.any _)=true;rw[Bool.not_eq_true',List.any_eq_false];intro x f;have:=c x f;simp;omega),rfl⟩
def ahy(p:Prog)(f:Nat){m n:Nat}(hm:m<p.methods.length)(hn:n<p.methods.length):aI prog 188 [.ptr (v7 p f),.i m,.i n] (.b ((cC p m).gen==(cC p n).gen && (cC p m).kind==(cC p n).kind)):=by
 intro H;refine aM (n:=37) func188 λB I h=>?_;refine ay ?_;refine aA.cu mixed ?_;refine bW.Cx [⟨16,7,62,[aY,aY,aY,aY,aX,aY,aY,aX,aY],18,eS (cC p m)⟩,⟨17,8,62,[aY,aY,aY,aY,aX,aY,aY,aX,aY],19,eS (cC p n)⟩] 0 20 37 rfl ao ax rfl rfl ao ?_;refine eH (ad.move rfl rfl rfl) ?_;refine eH (fU) ?_;refine eH (b9) ?_;refine eH (b9) ?_;refine eH (cP) ?_;refine eH (ad.move rfl rfl rfl) ?_;refine eH ((by first | exact ad.fC rfl rfl rfl rfl rfl hm | exact ad.ep rfl rfl rfl rfl rfl hm)) ?_;refine eH (nU) ?_;refine eH (ad.move rfl rfl rfl) ?_;refine eH (fU) ?_;refine eH (b9) ?_;refine eH (b9) ?_;refine eH (cP) ?_;refine eH (ad.move rfl rfl rfl) ?_;refine eH ((by first | exact ad.fC rfl rfl rfl rfl rfl hn | exact ad.ep rfl rfl rfl rfl rfl hn)) ?_;refine eH (nU) ?_;refine cN.zg [] [⟨17,8,62,[aY,aY,aY,aY,aX,aY,aY,aX,aY],19,eS (cC p n)⟩] ⟨16,7,62,[aY,aY,aY,aY,aX,aY,aY,aX,aY],18,eS (cC p m)⟩ rfl ⟨0,20,ax⟩ rfl rfl rfl rfl rfl rfl rfl ?_;refine cN.zg [⟨16,7,62,[aY,aY,aY,aY,aX,aY,aY,aX,aY],18,eS (cC p m)⟩] [] ⟨17,8,62,[aY,aY,aY,aY,aX,aY,aY,aX,aY],19,eS (cC p n)⟩ rfl ⟨0,20,ax⟩ rfl rfl rfl rfl rfl rfl rfl ?_;refine cN.zh [] [⟨17,8,62,[aY,aY,aY,aY,aX,aY,aY,aX,aY],19,eS (cC p n)⟩] ⟨16,7,62,[aY,aY,aY,aY,aX,aY,aY,aX,aY],18,eS (cC p m)⟩ rfl ⟨0,20,ax⟩ rfl rfl rfl (λb g c a=>.store rfl rfl rfl rfl rfl rfl rfl rfl a fl fl) ?_;refine cN.zh [⟨16,7,62,[aY,aY,aY,aY,aX,aY,aY,aX,aY],18,eS (cC p m)⟩] [] ⟨17,8,62,[aY,aY,aY,aY,aX,aY,aY,aX,aY],19,eS (cC p n)⟩ rfl ⟨0,20,ax⟩ rfl rfl rfl (λb g c a=>.store rfl rfl rfl rfl rfl rfl rfl rfl a fl fl) ?_;refine cN.nil (λea=>?_);simp only[List.map_cons,List.map_nil,List.cons_append,List.nil_append];refine bW.done rfl ?_;refine aQ ?_;refine eB 7 ?_;refine eB 8 ?_;refine gv ?_;refine aB 6 (H) ?_;exact⟨bn (by cases (cC p m).gen==(cC p n).gen <;> rfl),rfl⟩
def Tv(c:(bu p).isSome)(f){m n:Nat}(hm:m<p.methods.length)(hn:n<p.methods.length):hS prog [Kf p f] 210 [.ptr (v7 p f),.i m,.i n] (.b (sW p m n)):=by
 intro H a;refine aM (n:=57) func210 λB I l=>?_;have g:=jY c;refine bQ ?_;refine bT (λsr=>?_);refine aV ?_;refine eB 7 ?_;refine b0 5 57 ?_;refine aP ?_;refine ai.M5 (vs:=AB m n) (z:=sW p m n) rfl rfl rfl rfl rfl rfl rfl rfl (aq.refl _) (a _ (.head _)) (EB aa aa) rfl ?_ ?_
 ·refine ay ?_;refine bW.dk 7 10 57 rfl ao rfl rfl ao ?_;refine dW ?_;refine bc (λaf=>?_) (λaf=>?_)
  ·simp at af
  ·refine a8 ?_;refine aB 6 (H) ?_;exact⟨cM,rfl⟩
 ·refine ay ?_;refine bW.dk 7 10 57 rfl ao rfl rfl ao ?_;refine dW ?_;refine bc (λae=>?_) (λae=>?_)
  ·refine aR ?_;refine b0 22 57 ?_;refine w9 ?_;refine ag (ad.call .k (ahs (aht c hm hn))) ?_;refine ay ?_;refine bW.dk 24 27 57 rfl ao rfl rfl ao ?_;refine aV ?_;refine bW.done rfl ?_;refine aR ?_;refine b0 6 57 ?_;refine aJ ?_;refine ai.M6 (vs:=AB m n) rfl rfl rfl rfl rfl rfl rfl (aq.refl _) rfl rfl (aq.refl _) (a _ (.head _)) (EB aa aa) ?_;refine a8 ?_;refine aB 6 (H) ?_;exact⟨cM,rfl⟩
  ·simp at ae
def ahz(g:(bu p).isSome)(c){m n}(hm:m<p.methods.length)(hn:n<p.methods.length):hS prog [Kf p c] 189 [.ptr (v7 p c),.i m,.i n] (.b (bk p m n)):=by
 intro H a;refine aM func189 λB I h=>?_;refine bQ ?_;refine ag (.h2 .k cL (Tv g c hm hn) λe f=>a e f) ?_;refine aV ?_;refine ai.cG rfl rfl rfl rfl rfl rfl (λav=>.h2 zA cL (Tv g c hn hm) λe f=>a e f) ?_;refine ay ?_;refine aB 6 H ?_;exact⟨by rw[bk];cases sW p m n <;> rfl,rfl⟩
def ahA(l:p.Small)(f:(bu p).isSome){m n}(hm:m<p.methods.length)(hn:n<p.methods.length)(a:(cC p m).gen=(cC p n).gen/\(cC p m).kind=(cC p n).kind):aI prog 153 [ab.prog p,.i m,.i n] (.bj [.b (bk p m n),.i 0]):=by
 intro H;refine aM (n:=26) func153 λB I q=>?_;refine bQ ?_;refine cI .k ((ahv l f _).b) ?_;rintro _ _ ⟨c,rfl,rfl⟩;refine a8 ?_;refine ag (ad.row rfl rfl cD rfl rfl rfl rfl rfl rfl) ?_;refine ag (ad.call .k (ahx p c [(m:Int),(n:Int)] (by intro x j;simp at j;omega))) ?_;refine aH ?_;refine bc (λaf=>?_) (λaf=>?_)
 ·simp at af
 ·refine aJ ?_;refine ag (ad.call .k (ahy p c hm hn)) ?_;refine aH ?_;refine bc (λae=>?_) (λae=>?_)
  ·rw[a.1,a.2,beq_self_eq_true,beq_self_eq_true] at ae;exact absurd ae c8
  ·refine aP ?_;refine ag (ad.h2 .k (c5.refl _) (ahz f c hm hn) (λe g=>by rw[List.mem_singleton] at g;subst g;exact .head _)) ?_;refine aS ?_;refine dM [.tmp 6,.tmp 7] (H) ?_;exact⟨cM,rfl⟩
def Tw:xO ah q∈bO p ah q g Hx:=.tail _ (List.mem_append_left _ dB)
def ahB(c:fB p q)(l:p.Small){k j}(o:k<p.methods.length)(h:j<p.methods.length)(a:(cC p k).gen=(cC p j).gen/\(cC p k).kind=(cC p j).kind):bP prog 108 [.p q.bz 0,.i (k:Int),.i (j:Int)] (bO p (bk p) q g Hx) (λr f=>r= .b (bk p k j)/\f=bO p (bk p) q g Hx) (λ_ _=>False):=by
 refine aM func108 λB I v=>?_;have m:=jY c.aD;refine bQ ?_;refine bT (λsr=>?_);refine aV ?_;refine eB 7 ?_;refine b0 5 41 ?_;refine aP ?_;refine ai.M5 (vs:=AB k j) (z:=bk p k j) rfl rfl rfl rfl rfl rfl rfl rfl (aq.refl _) Tw (EB aa aa) rfl ?_ ?_
 ·refine ay ?_;refine bW.dk 7 10 41 rfl ao rfl rfl ao ?_;refine dW ?_;refine bc (λaf=>?_) (λaf=>?_)
  ·simp at af
  ·refine a8 ?_;refine aB 6 (bO p (bk p) q g Hx) ?_;exact⟨rfl,rfl⟩
 ·refine ay ?_;refine bW.dk 7 10 41 rfl ao rfl rfl ao ?_;refine dW ?_;refine bc (λae=>?_) (λae=>?_)
  ·refine aJ ?_;refine ag (ad.call .k (ahA l c.aD o h a)) ?_;refine ay ?_;refine b0 6 41 ?_;refine aJ ?_;refine ai.M6 (vs:=AB k j) rfl rfl rfl rfl rfl rfl rfl (aq.refl _) rfl rfl (aq.refl _) Tw (EB aa aa) ?_;refine a8 ?_;refine aB 6 (bO p (bk p) q g Hx) ?_;exact⟨rfl,rfl⟩
  ·simp at ae
def x7(h:i<l.length):(l.map ab.b)[i]? =some (.b (l.getD i default)):=by
 rw[List.getElem?_map,List.getD_eq_getElem?_getD,List.getElem?_eq_getElem h];rfl
section
variable{p:Prog}{ah:Nat->Nat->Bool}{n m o:Nat}{g:GT}
def Tx(a:(bif !(g.t.bC.getD o default) then true else ((cC p o).gen !=(cC p m).gen))=true):jZ p ah n m g o=g:=by
 unfold jZ;simp only;rw[if_neg];intro h;simp only[Bool.and_eq_true] at h;rw[h.1.1] at a;have:=h.1.2;simp only[cC,Bool.not_true,cond_false,bne_iff_ne,ne_eq] at a;exact a (by simpa using this)
def Ty(a:(bif !(g.t.bC.getD o default) then true else ((cC p o).gen !=(cC p m).gen))=false):(cC p m).gen=(cC p o).gen:=by
 cases bK:g.t.bC.getD o default with
 | false=>rw[bK] at a;cases a
 | true=>
  rw[bK] at a;have c:((cC p o).gen !=(cC p m).gen)=false:=a;exact (bne_eq_false_iff_eq.1 c).symm
def Kg(a:(bif !(g.t.bC.getD o default) then true else ((cC p o).gen !=(cC p m).gen))=false){B}(h:B=(bif (bif (cC p o).kind==(cC p m).kind then (bif (cC p o).kind==(cC p m).kind then ah m o else false) else false) then true else (bif (cC p m).kind==4 then (cC p o).kind==1 else false))):jZ p ah n m g o=if B=true then g.bX n (g.t.nodes.getD (cC p o).node.toNat default).toNat else g:=by
 have f:g.t.bC.getD o default=true/\((cC p o).gen==(cC p m).gen)=true:=by
  cases bK:g.t.bC.getD o default with
  | false=>rw[bK] at a;cases a
  | true=>rw[bK] at a;refine⟨rfl,?_⟩;simpa [bne] using a
 unfold jZ;simp only;have e:(g.t.bC.getD o default && (p.methods.getD o default).gen==(p.methods.getD m default).gen && ((p.methods.getD o default).kind==(p.methods.getD m default).kind && ah m o || (p.methods.getD m default).kind==4 && (p.methods.getD o default).kind==1))=B:=by
  rw[f.1,show ((p.methods.getD o default).gen==(p.methods.getD m default).gen)=true from f.2,h];cases (cC p o).kind==(cC p m).kind <;> cases ah m o <;> cases (cC p m).kind==4 <;> rfl
 rw[e]
end
def EC(c:(bu p).isSome){i}(a:i<p.methods.length):0<=(cC p i).node/\(cC p i).node<p.nodes.length:=tW ((sC c).1 _ (bH a))
def Tz(h:bf p g.t)(ah)(n m i):bf p ((List.range i).foldl (jZ p ah n m) g).t:=hX _ h λg o _ h=>by
 unfold jZ;simp only;split
 ·exact h.bX _ (mq h.nb _)
 ·exact h
def ED{t}(h:bf p t){k:Int}(a:0<=k/\k<p.nodes.length):t.nodes.getD k.toNat default=((t.nodes.getD k.toNat default).toNat:Int)/\fp p (t.nodes.getD k.toNat default).toNat:=hW.1 (xM h a)
def ahC(m:fB p q)(o:p.Small)(h:bf p g.t){n}(hn:n<p.nodes.length){y:gR}{j env:al}{c:Int}(a:c<0):bP prog 70 [.p q.bz 0,ab.m3 n y j env c] (bO p (bk p) q g Hx) (λr l=>r= .bj []/\l=bO p (bk p) q (g) Hx) (λ_ _=>False):=by
 refine aM (n:=81) func70 λB I s=>?_;refine di ?_;refine bc (λaf=>?_) (λaf=>?_)
 ·refine aQ ?_;refine dM [] (bO p (bk p) q g Hx) ?_;exact⟨rfl,rfl⟩
 ·rw[decide_eq_true a] at af;cases af
def ahD(v:fB p q)(V:p.Small)(h:bf p g.t){n:Nat}(hn:n<p.nodes.length){y:gR}{cO env:al}{eV:Int}{k:Nat}(F:eV=(k:Int))(Q:k<p.methods.length):bP prog 70 [.p q.bz 0,ab.m3 n y cO env eV] (bO p (bk p) q g Hx) (λr M=>r= .bj []/\M=bO p (bk p) q (sI p (bk p) n k g) Hx) (λ_ _=>False):=by
 refine aM (n:=81) func70 λB I bN=>?_;subst F;have hm:=v.many;have R:=jY v.aD;have J:∀i,bf p ((List.range i).foldl (jZ p (bk p) n k) g).t:=λi=>Tz h (bk p) n k i;refine di ?_;refine bc (λaf=>?_) (λaf=>?_)
 ·have X:=of_decide_eq_true af;omega
 ·refine aH ?_;refine aA.cu mixed ?_;refine bW.Cx [⟨9,4,62,[aY,aY,aY,aY,aX,aY,aY,aX,aY],10,eS (cC p k)⟩] 0 11 81 rfl ao ax rfl rfl ao ?_;refine eH (ad.move rfl rfl rfl) ?_;refine eH (fU) ?_;refine eH (b9) ?_;refine eH (b9) ?_;refine eH (cP) ?_;refine eH (b9) ?_;refine eH (cP) ?_;refine eH (k1) ?_;refine eH (nU) ?_;refine cN.zg [] [] ⟨9,4,62,[aY,aY,aY,aY,aX,aY,aY,aX,aY],10,eS (cC p k)⟩ rfl ⟨0,11,ax⟩ rfl rfl rfl rfl rfl rfl rfl ?_;refine cN.zh [] [] ⟨9,4,62,[aY,aY,aY,aY,aX,aY,aY,aX,aY],10,eS (cC p k)⟩ rfl ⟨0,11,ax⟩ rfl rfl rfl (λb M Y hu=>.store rfl rfl rfl rfl rfl rfl rfl rfl hu fl fl) ?_;refine cN.nil (λea=>?_);simp only[List.map_cons,List.map_nil,List.cons_append,List.nil_append];refine bW.done rfl ?_;refine aQ ?_;refine eB 4 ?_;refine bA ?_;refine bm (λz st=>∃i:Nat,st=⟨[(25,.i i),(24,.i p.methods.length),(23,.aj 9 (p.methods.map eS)),(4,.ptr (eS (cC p k))),(0,.p q.bz 0),(3,.ptr (fI n y cO env k))],bO p (bk p) q ((List.range i).foldl (jZ p (bk p) n k) g) Hx⟩/\z=p.methods.length - i/\i<=p.methods.length) (⟨0,rfl,rfl,aa⟩) ?_;rintro z _ ⟨i,rfl,rfl,Z⟩;refine ay ?_;refine az (λae=>?_) λae=>?_
  ·have a:i<p.methods.length:=by omega
   obtain⟨G,K⟩:∃G,G=((List.range i).foldl (jZ p (bk p) n k) g):=⟨_,rfl⟩;have c:=J i;rw[<-K] at c;have l:=lO (f:=jZ p (bk p) n k) i g;rw[<-K] at l;rw[<-K];have W:=c.hp;have U:=c.nl;have H:0<=(p.methods.getD i default).node/\(p.methods.getD i default).node<p.nodes.length:=EC v.aD a;have x:=ED c H;refine a8 ?_;refine bT (λdN=>?_);refine ay ?_;refine eB 6 ?_;refine aP ?_;refine ag (ad.dX rfl rfl rfl rfl rfl (sK (i:=i) aa) ⟨aa,aa⟩) ?_;refine ag (ad.gm rfl rfl rfl (sK (i:=i) aa) (x7 aa)) ?_;refine bQ ?_;refine bc (λak=>?_) (λak=>?_)
   ·have s:=Tx (p:=p) (ah:=bk p) (n:=n) (m:=k) (o:=i) ak;refine aJ ?_;exact aU (⟨i+1,by rw[l,s],rfl,a⟩)
   ·have w:=Ty (p:=p) (m:=k) (o:=i) (g:=G) ak;refine c6 ?_;refine ai.Mh rfl rfl rfl rfl rfl rfl (λav=>gG.mk' rfl rfl rfl rfl cU) (λav=>(ahB v V Q a ⟨w,(beq_iff_eq.1 av).symm⟩).b) ?_;intro r T vv vw;obtain⟨rfl,rfl⟩:r= .b (bif ((cC p i).kind==(cC p k).kind) then bk p k i else false)/\T=bO p (bk p) q G Hx:=by
     cases hG2:((cC p i).kind==(cC p k).kind) with
     | true=>exact vv hG2
     | false=>exact vw hG2
    refine di ?_;refine bc (λaL=>?_) (λaL=>?_)
    ·have sX:=Kg (p:=p) (ah:=bk p) (n:=n) (m:=k) (o:=i) ak aL.symm;refine b0 11 81 ?_;refine a8 ?_;refine bh (ad.dX rfl rfl rfl rfl rfl (nN (i:=(p.methods.getD i default).node.toNat) aa) ⟨aa,aa⟩) ?_;refine bh (ad.le (ad.gm rfl rfl rfl (nN (i:=(p.methods.getD i default).node.toNat) aa) (hN aa)) (aq.b6 x.1)) ?_;refine aQ ?_;refine cI .k ((pt v c hn x.2 y cO env k).b) ?_;rintro _ _ ⟨rfl,rfl⟩;refine aP ?_;exact aU (⟨i+1,by rw[l,sX,if_pos rfl],rfl,a⟩)
    ·have sX:=Kg (p:=p) (ah:=bk p) (n:=n) (m:=k) (o:=i) ak aL.symm;refine aP ?_;exact aU (⟨i+1,by rw[l,sX,if_neg c8],rfl,a⟩)
  ·obtain rfl:i=p.methods.length:=by omega
   refine aV ?_;refine gQ [] (bO p (bk p) q (sI p (bk p) n k g) Hx) ?_;exact⟨rfl,rfl⟩
def ahE{f env}{g}(h:f.length<=3):aq (.aj 1 ((([.i (f.getD 0 default),.i (f.getD 1 default),.i (f.getD 2 default),.ints env,.i g]:bl).take f.length).map λc=>[c])) (.ints f):=by
 match f,h with
 | [],_=>exact .refl _
 | [a],_=>exact .refl _
 | [a,b],_=>exact .refl _
 | [a,b,c],_=>exact .refl _
 | a::b::c::d::r,h=>simp at h
def ahF(a:k<g.t.bC.length)(h:g.t.bC.getD k default=true):g.reach k=g:=by
 unfold GT.reach;rw[h,(qe a).2 h.symm];simp
def Kh(h:k<l.length)(v)(more):(l.map .b++more).take k++cJ (.b v)++(l.map ab.b++more).drop (k+1)=(l.set k v).map .b++more:=by
 rw[List.take_append_of_le_length cF,List.drop_append_of_le_length cF,List.set_eq_take_append_cons_drop,if_pos h,List.map_append,List.map_take,List.map_cons,List.map_drop];simp[cJ]
def sY{c g:Type}[Inhabited c][Inhabited g]{f:c->g}{l:List c}{i:Nat}(h:i<l.length):(l.map f).getD i default=f (l.getD i default):=by
 rw[List.getD_eq_getElem?_getD,List.getElem?_map,List.getD_eq_getElem?_getD,List.getElem?_eq_getElem h];rfl
def TA(a:Int):(bif a==1 then true else a==4)=(a==1 || a==4):=by cases a==1 <;> rfl
def Ki{t}(h:bf p t){k}(a:k<p.methods.length){gen}(c:(p.methods.getD k default).gen=gen):((t.params.getD k default).length:Int)=gg p gen:=by
 rw[h.jW k a,c];rfl
def ahG(a1:fB p q)(h:bf p g.t){n:Nat}(hn:n<p.nodes.length){y:gR}{a env:al}{F:Int}(l:∀k∈a,cq (aG p) k=true)(a0:a.length=y.kids.length)(Q:a.length<=3)(Z:(a.length:Int)=gg p y.n):bP prog 69 [.p q.bz 0,ab.m3 n y a env F] (bO p ah q g Hx) (λr H1=>r= .bj []/\H1=bO p ah q (sH p n y.n a g) Hx) (λ_ _=>False):=by
 refine aM (n:=104) func69 λB I bN=>?_;have hm:=a1.many;have iy:=jY a1.aD;have O:y.kids.length=a.length:=a0.symm;have ac:(eK p g.t y.n a).length<=p.methods.length:=Bh (p:=p) (t:=g.t) (gen:=y.n) (kinds:=a) p.methods.length;have a5:∀i,bf p (((eK p g.t y.n a).take i).foldl (m0 p n) g).t:=λi=>hX _ h λg x aK h=>Jg h n (xL l x (List.mem_of_mem_take aK)).2.2;refine ay ?_;refine b0 10 104 ?_;refine aJ ?_;refine bh (ad.le (ad.qy rfl rfl rfl) (aq.b6 (by rw[O]))) ?_;refine bh (ad.le (ad.XC (n:=a.length) rfl rfl rfl rfl rfl Q c8 (by show a.length<=5;omega)) (ahE Q)) ?_;refine aQ ?_;refine cI .k ((aeC a1 h l Z aa).b) ?_;rintro _ _ ⟨rfl,rfl⟩;refine ay ?_;refine bW.dk 12 15 104 rfl ao rfl rfl ao ?_;refine iB ?_;refine aA.le 26 (y:=.i (eK p g.t y.n a).length) rfl (aq.b6 (by rw[List.length_map])) ?_;refine bm (λz st=>∃i:Nat,st=⟨[(27,.i i),(26,.i (eK p g.t y.n a).length),(25,ab.ints ((eK p g.t y.n a).map (·.1))),(4,ab.ints ((eK p g.t y.n a).map (·.1))),(5,ab.bp ((eK p g.t y.n a).map (·.2))),(0,.p q.bz 0),(3,.ptr (fI n y a env F))],bO p ah q (((eK p g.t y.n a).take i).foldl (m0 p n) g) Hx⟩/\z=(eK p g.t y.n a).length - i/\i<=(eK p g.t y.n a).length) (⟨0,rfl,rfl,aa⟩) ?_;rintro z _ ⟨i,rfl,rfl,aN⟩;refine ay ?_;refine az (λaf=>?_) λaf=>?_
 ·have bF:i<(eK p g.t y.n a).length:=by omega
  obtain⟨X,S⟩:∃X,X=((eK p g.t y.n a).getD i default):=⟨_,rfl⟩;obtain⟨⟨fw,T,J⟩,W,m⟩:=xL (t:=g.t) (gen:=y.n) l _ (bH bF);rw[<-S] at fw T J W m;obtain⟨M,c4⟩:∃M,M=X.1.toNat:=⟨_,rfl⟩;have V:X.1=(M:Int):=by omega
  have rK:M<p.methods.length:=by omega
  have N:(p.methods.getD M default).gen=y.n:=by rw[c4];exact J
  obtain⟨G,fb⟩:∃G,G=(((eK p g.t y.n a).take i).foldl (m0 p n) g):=⟨_,rfl⟩;have w:=a5 i;rw[<-fb] at w;have v:=xP (f:=m0 p n) bF g;rw[<-fb, <-S] at v;have E:m0 p n G X=if sG (p.methods.getD M default)=true then (nL M X.2 (G.reach M)).bX n ((nL M X.2 (G.reach M)).t.nodes.getD (p.methods.getD M default).node.toNat default).toNat else (nL M X.2 (G.reach M)):=by rw[c4];rfl
  rw[<-fb];have gH:=w.hp;have hR:=w.reach M;have c:∀j,bf p ((List.range j).foldl (λg k=>g.im M k (X.2.getD k default).toNat) (G.reach M)).t:=λj=>hX _ hR λg k _ h=>h.im M k (mq m k);have o:bf p (nL M X.2 (G.reach M)).t:=c _;have dU:=o.nl;have a4:0<=(p.methods.getD M default).node/\(p.methods.getD M default).node<p.nodes.length:=EC a1.aD rK;have P:=ED o a4;have U:∀j,(((List.range j).foldl (λg k=>g.im M k (X.2.getD k default).toNat) (G.reach M)).t.params.getD M default).length=X.2.length:=λj=>by have:=Ki (c j) rK N;omega
  have a3:∀j,((List.range j).foldl (λg k=>g.im M k (X.2.getD k default).toNat) (G.reach M)).t.params.length=p.methods.length:=λj=>(c j).pl;obtain⟨A,C,K⟩:=RA ah q G.t Hx;have a2:=K G.t.bC (ne_of_lt (i:=M) aa);have H:=K (G.t.bC.set M true) (ne_of_lt (i:=M) (by rw[List.length_set];omega));rw[List.length_set] at H;refine aP ?_;refine ag (uk) ?_;refine ag (ad.le (ad.cE rfl rfl rfl rfl) (aq.b6 (show _=(M:Int) by rw[sY bF, <-S,V]))) ?_;refine aV ?_;refine aA.k7 (λst=>st=⟨[(6,.i i),(7,.i (M:Int)),(27,.i i),(26,.i (eK p g.t y.n a).length),(25,ab.ints ((eK p g.t y.n a).map (·.1))),(4,ab.ints ((eK p g.t y.n a).map (·.1))),(5,ab.bp ((eK p g.t y.n a).map (·.2))),(0,.p q.bz 0),(3,.ptr (fI n y a env F))],bO p ah q (G.reach M) Hx⟩) ?_ ?_
  ·refine aJ ?_;refine ag (ad.dX rfl rfl rfl rfl rfl (sK (i:=M) aa) ⟨aa,aa⟩) ?_;refine ag (ad.gm rfl rfl rfl (sK (i:=M) aa) (x7 aa)) ?_;refine aH ?_;refine bc (λae=>?_) (λae=>?_)
   ·have Y:G.t.bC.getD M default=false:=by simpa using ae
    have L:eo p q true::(A++.row 4 1 q.dh G.t.bC.length ((G.t.bC.set M true).map ab.b)::C)=bO p ah q (G.reach M) Hx:=by
     have e:(G.reach M).ch=true:=by unfold GT.reach;rw[Y];simp
     show _=eo p q (G.reach M).ch::(eh ah q (G.reach M).t++Hx);rw[e, <-H];rfl
    refine aJ ?_;refine ag (ad.dX rfl rfl rfl rfl rfl (sK (i:=M) aa) ⟨aa,aa⟩) ?_;refine ai.k9 (H':=eo p q G.ch::(A++.row 4 1 q.dh G.t.bC.length (G.t.bC.map ab.b)::C)) (congrArg (eo p q G.ch::·) a2) ?_;refine ai.M8 (i:=M) (H':=λe=>eo p q G.ch::(A++e::C)) (ds:=(G.t.bC.set M true).map ab.b) rfl rfl rfl rfl rfl rfl rfl rfl rfl rfl (λe=>.tail _ _ _ _ _ (bG.under A)) (λe e'=>.tail _ _ _ _ _ (bG.under A)) aa aT (λmore=>Kh aa true more) aT ?_;refine aV ?_;refine aZ.perm (H':=bO p ah q (G.reach M) Hx) (.of_eq L) ?_;exact dm rfl
   ·have Y:G.t.bC.getD M default=true:=by simpa using ae
    refine aR ?_;refine aZ.perm (H':=bO p ah q (G.reach M) Hx) (.of_eq (by rw[ahF aa Y])) ?_;exact dm rfl
  ·rintro _ rfl;refine aS ?_;refine ag (uk) ?_;refine ag (ad.le (ad.cE rfl rfl rfl rfl) (by rw[sY bF, <-S];exact aq.refl _)) ?_;refine aS ?_;refine bm (λz st=>∃j:Nat,st=⟨[(56,.i j),(55,.i X.2.length),(54,ab.ints X.2),(6,.i i),(7,.i (M:Int)),(27,.i i),(26,.i (eK p g.t y.n a).length),(25,ab.ints ((eK p g.t y.n a).map (·.1))),(4,ab.ints ((eK p g.t y.n a).map (·.1))),(5,ab.bp ((eK p g.t y.n a).map (·.2))),(0,.p q.bz 0),(3,.ptr (fI n y a env F))],bO p ah q ((List.range j).foldl (λg k=>g.im M k (X.2.getD k default).toNat) (G.reach M)) Hx⟩/\z=X.2.length - j/\j<=X.2.length) (⟨0,rfl,rfl,aa⟩) ?_;rintro z _ ⟨j,rfl,rfl,cp⟩;refine ay ?_;refine az (λak=>?_) λak=>?_
   ·have B:j<X.2.length:=by omega
    have D:=hW.1 (m _ (bH B));have a9:=U j;have hQ:=a3 j;refine aJ ?_;refine ag (ad.le (ad.cE rfl rfl rfl rfl) (aq.b6 D.1)) ?_;refine bS ?_;refine ag (EY) ?_;refine aQ ?_;refine ag (ad.dX rfl rfl rfl rfl rfl (Jo (k:=M) (i:=j) aa aa) ⟨aa,aa⟩) ?_;refine aR ?_;refine cI .k ((RE (c j) hm rK aa D.2).b) ?_;rintro _ _ ⟨rfl,rfl⟩;refine aP ?_;exact aU (⟨j+1,by rw[lO],rfl,B⟩)
   ·obtain rfl:j=X.2.length:=by omega
    have bI:((List.range X.2.length).foldl (λg k=>g.im M k (X.2.getD k default).toNat) (G.reach M))=(nL M X.2 (G.reach M)):=rfl;rw[bI];refine dW ?_;refine bT (λxI=>?_);refine aV ?_;refine eB 10 ?_;refine bA ?_;refine bc (λaL=>?_) (λaL=>?_)
    ·have s:sG (p.methods.getD M default)=true:=by rw[sG, <-TA];exact aL
     refine b0 11 104 ?_;refine a8 ?_;refine bh (ad.dX rfl rfl rfl rfl rfl (nN (i:=(p.methods.getD M default).node.toNat) aa) ⟨aa,aa⟩) ?_;refine bh (ad.le (ad.gm rfl rfl rfl (nN (i:=(p.methods.getD M default).node.toNat) aa) (hN aa)) (aq.b6 P.1)) ?_;refine aQ ?_;refine cI .k ((pt a1 o hn P.2 y a env F).b) ?_;rintro _ _ ⟨rfl,rfl⟩;refine aP ?_;exact aU (⟨i+1,by rw[v,E,if_pos s],rfl,bF⟩)
    ·have s:sG (p.methods.getD M default)=false:=by rw[sG, <-TA];exact aL
     refine aP ?_;exact aU (⟨i+1,by rw[v,E,if_neg (by rw[s];decide)],rfl,bF⟩)
 ·obtain rfl:i=(eK p g.t y.n a).length:=by omega
  rw[List.take_length];refine aV ?_;refine gQ [] (bO p ah q (sH p n y.n a g) Hx) ?_;exact⟨rfl,rfl⟩
def ahH(els)(H):bP prog 109 [.aj 1 els] H (λy c=>∃gH,y= .as (.aj 1 els) (.slice gH els.length els.length)/\c=H) (λ_ _=>False):=by
 refine aM func109 λB I f=>?_;refine bS ?_;refine .clip rfl rfl rfl rfl rfl rfl rfl rfl rfl rfl λgH=>?_;refine aV ?_;refine aB 2 H ?_;exact⟨gH,rfl,rfl⟩
instance:q2 prog 90 (50,106):=⟨ax,ax⟩
instance:uV prog 106 .nilFunc:=⟨ax⟩
def nT(op:Int):Nat:=if op=1\/(12<=op/\op<=16) then 59 else if op=2 then 60 else if op=3 then 61 else if op=4 then 62 else if op=6 then 63 else if op=7 then 64 else if op=8 then 65 else if op=9\/op=11 then 66 else if op=10 then 67 else if op=17 then 68 else if op=5 then 69 else if op=18 then 70 else 0
def Kj{op}(h:iw op≠none):1<=op/\op<=18:=by
 apply Decidable.byContradiction;intro a;apply h;unfold iw;rw[if_neg aa,if_neg aa,if_neg aa,if_neg aa,if_neg aa]
def ahI{op}(h:1<=op/\op<=18):(hA oE op).getD (.val .nilFunc)= .fn (.func (nT op)) [] []:=by
 rcases (show op=1\/op=2\/op=3\/op=4\/op=5\/op=6\/op=7\/op=8\/op=9\/op=10\/op=11\/op=12\/op=13\/op=14\/op=15\/op=16\/op=17\/op=18 by omega) with rfl | rfl | rfl | rfl | rfl | rfl | rfl | rfl | rfl | rfl | rfl | rfl | rfl | rfl | rfl | rfl | rfl | rfl <;> rfl
def ahJ:lI oE:=⟨λp a=>by
 have:p.1∈oE.map (·.1):=List.mem_map_of_mem a;have c:∀x∈oE.map (·.1),1<=x/\x<=18:=by decide
 have:=c _ this;unfold fX;omega,c8⟩
def TB(hy:fW p y bs)(h:y.op=3):0<=y.n/\y.n<bs:=by
 rw[fW,if_neg aa,if_neg aa] at hy;simpa [qw,h] using hy
def A5(hy:fW p y bs)(h:y.op=4\/y.op=7):0<=y.n/\y.n<p.aw:=by
 rw[fW,if_neg aa,if_neg aa,qw,if_neg aa,if_pos h] at hy;simpa using hy
def pA(hy:fW p y bs)(h:y.op=6\/y.op=8):y.n=(y.n.toNat:Int)/\1<=y.n.toNat/\y.n.toNat<aG p:=by
 rw[fW,if_neg aa,if_pos h] at hy;simp[Bool.and_eq_true,decide_eq_true_eq] at hy;unfold aG;omega
def ahK(x:fB p q)(N:p.Small)(h:bf p g.t){n:Nat}(hn:n<p.nodes.length){y:gR}{D env:al}{G:Int}(hy:fW p y env.length)(I:iw y.op≠none)(O:∀k∈env,cq (aG p) k=true)(o:∀k∈D,cq (aG p) k=true)
  (H:D.length=y.kids.length) (J:D.length<=3) (L:y.op=5->(D.length:Int)=gg p y.n) (K:G<0\/∃k:Nat,G=k/\k<p.methods.length):
  bP prog (nT y.op) [.p q.bz 0,ab.m3 n y D env G] (bO p (bk p) q g Hx) (λr Q=>r= .bj []/\Q=bO p (bk p) q (eI p (bk p) y n env G D g) Hx) (λ_ _=>False):=by
 have M:=Kj I;by_cases a:y.op=1\/(12<=y.op/\y.op<=16)
 ·rw[eI,nT,if_pos a,if_pos a];exact ad6 x h hn
 by_cases f:y.op=2
 ·rw[eI,nT,if_neg a,if_pos f,if_neg a,if_pos f];exact ad7 x h hn
 by_cases j:y.op=3
 ·rw[eI,nT,if_neg a,if_neg f,if_pos j,if_neg a,if_neg f,if_pos j];exact ad8 x h hn (TB hy j) O
 by_cases l:y.op=4
 ·rw[eI,nT,if_neg a,if_neg f,if_neg j,if_pos l,if_neg a,if_neg f,if_neg j,if_pos l];exact aee x h hn o (A5 hy (.inl l))
 by_cases m:y.op=6
 ·rw[eI,nT,if_neg a,if_neg f,if_neg j,if_neg l,if_pos m,if_neg a,if_neg f,if_neg j,if_neg l,if_pos m];exact aeq x h hn (c:=y.n.toNat) (pA hy (.inl m)).1 (pA hy (.inl m)).2.1 (pA hy (.inl m)).2.2
 by_cases v:y.op=7
 ·rw[eI,nT,if_neg a,if_neg f,if_neg j,if_neg l,if_neg m,if_pos v,if_neg a,if_neg f,if_neg j,if_neg l,if_neg m,if_pos v];exact aef x h hn o (A5 hy (.inr v))
 by_cases s:y.op=8
 ·rw[eI,nT,if_neg a,if_neg f,if_neg j,if_neg l,if_neg m,if_neg v,if_pos s,if_neg a,if_neg f,if_neg j,if_neg l,if_neg m,if_neg v,if_pos s];exact aeA x h hn o (to:=y.n.toNat) (pA hy (.inr s)).1 (pA hy (.inr s)).2.1 (pA hy (.inr s)).2.2
 by_cases A:y.op=9\/y.op=11
 ·rw[eI,nT,if_neg a,if_neg f,if_neg j,if_neg l,if_neg m,if_neg v,if_neg s,if_pos A,if_neg a,if_neg f,if_neg j,if_neg l,if_neg m,if_neg v,if_neg s,if_pos A];exact ad9 x h hn o
 by_cases B:y.op=10
 ·rw[eI,nT,if_neg a,if_neg f,if_neg j,if_neg l,if_neg m,if_neg v,if_neg s,if_neg A,if_pos B,if_neg a,if_neg f,if_neg j,if_neg l,if_neg m,if_neg v,if_neg s,if_neg A,if_pos B];exact aeb x h hn o
 by_cases C:y.op=17
 ·rw[eI,nT,if_neg a,if_neg f,if_neg j,if_neg l,if_neg m,if_neg v,if_neg s,if_neg A,if_neg B,if_pos C,if_neg a,if_neg f,if_neg j,if_neg l,if_neg m,if_neg v,if_neg s,if_neg A,if_neg B,if_pos C];exact aea x h hn o
 by_cases z:y.op=5
 ·rw[eI,nT,if_neg a,if_neg f,if_neg j,if_neg l,if_neg m,if_neg v,if_neg s,if_neg A,if_neg B,if_neg C,if_pos z,if_neg a,if_neg f,if_neg j,if_neg l,if_neg m,if_neg v,if_neg s,if_neg A,if_neg B,if_neg C,if_pos z];exact ahG x h hn o H J (L z)
 by_cases E:y.op=18
 ·rw[eI,nT,if_neg a,if_neg f,if_neg j,if_neg l,if_neg m,if_neg v,if_neg s,if_neg A,if_neg B,if_neg C,if_neg z,if_pos E,if_neg a,if_neg f,if_neg j,if_neg l,if_neg m,if_neg v,if_neg s,if_neg A,if_neg B,if_neg C,if_neg z,if_pos E];rcases K with F | ⟨k,rfl,P⟩
  ·rw[if_pos F];exact ahC x N h hn F
  ·rw[if_neg aa];exact ahD x N h hn rfl P
 exfalso;omega
def TC{R}{G}(h:i<y.kids.length):j0 R y env i (y.kids.drop i) G=j0 R y env (i+1) (y.kids.drop (i+1)) (R (y.kids.getD i default) (if y.op=9/\i=1 then env++[G.t.nodes.getD (y.kids.getD 0 default).toNat default] else env) G):=by
 have e:y.kids.getD i default=y.kids[i]:=by rw[List.getD_eq_getElem?_getD,List.getElem?_eq_getElem h];rfl
 rw[e,List.drop_eq_getElem_cons h,j0]
def ahL{n}{KS env:al}{f v}(h:i<3)(g:i<KS.length)(j:v=KS.getD i default):(fI n y (KS.take i) env f).take (4+i)++cJ (.i v)++(fI n y (KS.take i) env f).drop (4+i+1)=fI n y (KS.take (i+1)) env f:=by
 subst j
 match i,h with
 | 0,_=>
  cases KS with
  | nil=>simp at g
  | cons a r=>rfl
 | 1,_=>
  match KS,g with
  | a::b::r,_=>rfl
 | 2,_=>
  match KS,g with
  | a::b::c::r,_=>rfl
def ahM(l:al)(v):ab.aj 1 ((l.map λn=>[.i n])++[[.i v]])=ab.ints (l++[v]):=by
 show _=ab.aj 1 (List.map _ (_++_));rw[List.map_append];rfl
def TD(j:(bu p).isSome){y}{q}(f:iw y.op≠none)(c:iw y.op=some none->(y.kids.length:Int)=p.c2.getD y.n.toNat default)(g:∀k,iw y.op=some (some k)->y.kids.length=k)(a:fW p y q):y.kids.length<=3:=by
 by_cases h:y.op=5
 ·have m:ll p y.n=true:=by
   rw[fW,h] at a;simp[qw] at a;unfold ll;simp;omega
  have:=I1 j m;have:=c (by rw[h];rfl);unfold gg at*;omega
 ·have o:∃k,k<=3/\iw y.op=some (some k):=by
   revert f;unfold iw;rw[if_neg h];split
   ·exact λ_=>⟨0,aa,rfl⟩
   ·split
    ·exact λ_=>⟨1,aa,rfl⟩
    ·split
     ·exact λ_=>⟨2,aa,rfl⟩
     ·split
      ·exact λ_=>⟨3,aa,rfl⟩
      ·exact λh=>absurd rfl h
  obtain⟨k,r,l⟩:=o;have:=g k l;omega
def ahN:dV q.m1 oE∈bO p ah q g Hx:=.tail _ (List.mem_append_left _ uY)
def ahO(a1:fB p q)(bV:p.Small){next:Bool}{c:Int}(a3:c<0\/∃k:Nat,c=k/\k<p.methods.length){f:Nat}(fv:∀{n:Int} {env:al} {g:GT} {Hx:aC},h9 p next f n env.length->env.length+f<=20->(∀k∈env,cq (aG p) k=true)->bf p g.t->bP prog 71 [.p q.bz 0,.i n,ab.ints env,.i c] (bO p (bk p) q g Hx) (λr j=>r= .bj []/\j=bO p (bk p) q (fQ p (bk p) c f n env g) Hx) (λ_ _=>False)){N:Nat}{env:al}{g:GT}{Hx:aC}(L:h9 p next (f+1) N env.length)(a4:env.length+(f+1)<=20)(he:∀k∈env,cq (aG p) k=true)(h:bf p g.t):bP prog 71 [.p q.bz 0,.i (N:Int),ab.ints env,.i c] (bO p (bk p) q g Hx) (λr j=>r= .bj []/\j=bO p (bk p) q (fQ p (bk p) c (f+1) N env g) Hx) (λ_ _=>False):=by
 refine aM (n:=98) func71 λB I bN=>?_;have hm:=a1.many;have fw:=tW L;have hn:N<p.nodes.length:=by omega
 have v:=Au L;obtain⟨F,Q⟩:=DT L;obtain⟨A,B,_⟩:=xG L;have O:=L.2.2;obtain⟨Y,hy⟩:∃Y,Y=ji p (N:Int):=⟨_,rfl⟩;rw[<-hy] at v F Q A B O;have gJ:Y.kids.length<=3:=TD a1.aD B F Q A;have V:=Kj B;have W:fQ p (bk p) c (f+1) N env g=eI p (bk p) Y N env c (mo (j0 (fQ p (bk p) c f) Y env 0 Y.kids g).t Y) (j0 (fQ p (bk p) c f) Y env 0 Y.kids g):=by rw[hy];rfl
 refine a8 ?_;refine ag (k1) ?_;refine ag (ad.le (ad.qv rfl rfl rfl rfl) (show aq _ (.agg (hU Y)) by rw[hy];exact aq.refl _)) ?_;refine aH ?_;refine bT (λm8=>?_);refine c6 ?_;refine bm (λz st=>∃(i:Nat) (G:GT),st=⟨[(30,.i i),(29,.i Y.kids.length),(28,ab.ints Y.kids),(8,.p m8 0),(0,.p q.bz 0),(2,ab.ints env),(3,.i c)],.au m8 142 (fI (N:Int) Y [] env c)::bO p (bk p) q G Hx⟩/\z=Y.kids.length - i/\i<=Y.kids.length/\bf p G.t/\j0 (fQ p (bk p) c f) Y env i (Y.kids.drop i) G=(j0 (fQ p (bk p) c f) Y env 0 Y.kids g)) (⟨0,g,rfl,rfl,aa,h,rfl⟩) ?_;rintro z _ ⟨i,G,rfl,rfl,aN,s,E⟩;refine ay ?_;refine az (λaf=>?_) λaf=>?_
 ·have o:i<Y.kids.length:=by omega
  have U:=TC (R:=(fQ p (bk p) c f)) (y:=Y) (env:=env) (G:=G) o;have C:=O i o;have bI:=s.nl;obtain⟨e,x⟩:∃e,e=(if Y.op=9/\i=1 then env++[G.t.nodes.getD (Y.kids.getD 0 default).toNat default] else env):=⟨_,rfl⟩;rw[<-x] at U;have X:=v _ (bH (l:=Y.kids) (k:=0) aa);have a0:=xM s X;have T:∀k∈e,cq (aG p) k=true:=by
   intro k bD;rw[x] at bD;split at bD
   ·rcases List.mem_append.1 bD with bo | bo
    ·exact he k bo
    ·rw[List.mem_singleton.1 bo];exact a0
   ·exact he k bD
  have H:e.length+f<=20:=by
   rw[x];split
   ·rw[List.length_append];show env.length+1+f<=20;omega
   ·omega
  have Z:h9 p next f (Y.kids.getD i default) e.length:=by
   rw[x];by_cases P:Y.op=9/\i=1
   ·rw[if_pos P] at C ⊢;simpa using C
   ·rw[if_neg P] at C ⊢;exact C
  refine uW ?_;refine aA.k7 (λst=>st=⟨[(9,.i i),(10,.i (Y.kids.getD i default)),(11,ab.ints e),(30,.i i),(29,.i Y.kids.length),(28,ab.ints Y.kids),(8,.p m8 0),(0,.p q.bz 0),(2,ab.ints env),(3,.i c)],.au m8 142 (fI (N:Int) Y [] env c)::bO p (bk p) q G Hx⟩) ?_ ?_
  ·refine bS ?_;refine bc (λae=>?_) (λae=>?_)
   ·have S:Y.op=9/\i=1:=by
     have dc:(Y.op==9)=true:=by
      cases ba:(Y.op==9) with
      | true=>rfl
      | false=>rw[ba] at ae;cases ae
     rw[dc] at ae;exact⟨by simpa using dc,by have:((i:Int)==1)=true:=ae;simp at this;omega⟩
    have J:e=env++[G.t.nodes.getD (Y.kids.getD 0 default).toNat default]:=by rw[x,if_pos S]
    subst J;refine aA.cu mixed ?_;refine bW.MZ (λKk j=>∃K,Kk= .as (ab.ints env) (.slice K (env.map λn=>[ab.i n]).length (env.map λn=>[ab.i n]).length)/\j= .au m8 142 (fI (N:Int) Y [] env c)::bO p (bk p) q G Hx) 45 1 0 15 98 rfl ao ao rfl rfl ao ?_;refine bg.lJ ao rfl rfl rfl rfl (λy j m=>ad.move rfl rfl rfl) (λaf=>ad.move rfl rfl rfl) ?_;refine bg.M0 ao ao rfl rfl rfl .k (λB=>(ahH _ _).b) ?_;refine bg.lJ ao rfl rfl rfl rfl (λy j m=>ad.move rfl rfl rfl) (λaf=>ad.move rfl rfl rfl) ?_;refine bg.lJ ao rfl rfl rfl rfl (λy j m=>fU) (λaf=>fU) ?_;refine bg.lJ ao rfl rfl rfl rfl (λy j m=>b9) (λaf=>b9) ?_;refine bg.lJ ao rfl rfl rfl rfl (λy j m=>b9) (λaf=>b9) ?_;refine bg.lJ ao rfl rfl rfl rfl (λy j m=>(by obtain⟨K,_,rfl⟩:=m;apply ad.iv rfl rfl rfl;(case hm=>exact .tail _ (.head _));(case hy=>rfl))) (λaf=>cP) ?_;refine bg.lJ ao rfl rfl rfl rfl (λy j m=>b9) (λaf=>b9) ?_;refine bg.lJ ao rfl rfl rfl rfl (λy j m=>b9) (λaf=>b9) ?_;refine bg.lJ ao rfl rfl rfl rfl (λy j m=>(by obtain⟨K,_,rfl⟩:=m;apply ad.iv rfl rfl rfl;(case hm=>exact .head _);(case hy=>rfl))) (λaf=>cP) ?_;refine bg.lJ ao rfl rfl rfl rfl (λy j m=>ad.ep (enc:=λn=>[ab.i n]) (l:=Y.kids) (i:=0) rfl rfl rfl rfl rfl ⟨aa,K7⟩) (λaf=>ad.ep (enc:=λn=>[ab.i n]) (l:=Y.kids) (i:=0) rfl rfl rfl rfl rfl ⟨aa,K7⟩) ?_;refine bg.lJ ao rfl rfl rfl rfl (λy j m=>ad.le (ad.cE rfl rfl rfl rfl) (aq.b6 (show _=Y.kids.getD 0 default from rfl))) (λaf=>ad.le (ad.cE rfl rfl rfl rfl) (aq.b6 (show _=Y.kids.getD 0 default from rfl))) ?_;refine bg.lJ ao rfl rfl rfl rfl (λy j m=>(by obtain⟨K,_,rfl⟩:=m;exact ad.dX rfl rfl rfl rfl rfl (.tail _ (nN (i:=(Y.kids.getD 0 default).toNat) aa)) ⟨aa,aa⟩)) (λaf=>ad.dX rfl rfl rfl rfl rfl (.tail _ (nN (i:=(Y.kids.getD 0 default).toNat) aa)) ⟨aa,aa⟩) ?_;refine bg.lJ ao rfl rfl rfl rfl (λy j m=>(by obtain⟨K,_,rfl⟩:=m;exact ad.gm rfl rfl rfl (.tail _ (nN (i:=(Y.kids.getD 0 default).toNat) aa)) (hN aa))) (λaf=>ad.gm rfl rfl rfl (.tail _ (nN (i:=(Y.kids.getD 0 default).toNat) aa)) (hN aa)) ?_;refine bg.lJ ao rfl rfl rfl rfl (λy j m=>ad.row rfl rfl cD rfl rfl rfl rfl rfl rfl) (λaf=>ad.row rfl rfl cD rfl rfl rfl rfl rfl rfl) ?_;refine bg.nil (λy j m=>?_);obtain⟨K,rfl,rfl⟩:=m;refine aR ?_;refine ag (ad.eq (ad.XE rfl rfl rfl rfl rfl (aq.refl _) rfl (by simp[partsOf]) (by simp[partsOf];omega) (by simp[partsOf];omega)) (ahM _ _)) ?_;refine aQ ?_;exact dm rfl
   ·have J:e=env:=by
     rw[x,if_neg];rintro⟨de,dc⟩;rw[de,dc] at ae;cases ae
    subst J;refine aR ?_;exact dm rfl
  ·rintro _ rfl;refine aS ?_;refine ai.perm (show (.au m8 142 (fI (N:Int) Y [] env c)::((eo p q G.ch::eh (bk p) q G.t)++Hx)).Perm ((eo p q G.ch::eh (bk p) q G.t)++(.au m8 142 (fI (N:Int) Y [] env c)::Hx)) from List.perm_middle.symm) ?_;refine cI .k ((fv (Hx:=.au m8 142 (fI (N:Int) Y [] env c)::Hx) Z H T s).b) ?_;rintro _ _ ⟨rfl,rfl⟩;refine ai.perm (show ((eo p q ((fQ p (bk p) c f) (Y.kids.getD i default) e G).ch::eh (bk p) q ((fQ p (bk p) c f) (Y.kids.getD i default) e G).t)++(.au m8 142 (fI (N:Int) Y [] env c)::Hx)).Perm (.au m8 142 (fI (N:Int) Y [] env c)::((eo p q ((fQ p (bk p) c f) (Y.kids.getD i default) e G).ch::eh (bk p) q ((fQ p (bk p) c f) (Y.kids.getD i default) e G).t)++Hx)) from List.perm_middle) ?_;refine aP ?_;exact aU (⟨i+1,(fQ p (bk p) c f) (Y.kids.getD i default) e G,rfl,rfl,o,Az f Z T s,by rw[<-E,U]⟩)
 ·obtain rfl:i=Y.kids.length:=by omega
  have a2:G=(j0 (fQ p (bk p) c f) Y env 0 Y.kids g):=by rw[<-E,List.drop_length];rfl
  have bI:=s.nl;have D:(mo G.t Y).length=Y.kids.length:=List.length_map _;refine iB ?_;refine bm (λz st=>∃i:Nat,st=⟨[(70,.i i),(69,.i Y.kids.length),(68,ab.ints Y.kids),(8,.p m8 0),(0,.p q.bz 0)],.au m8 142 (fI (N:Int) Y ((mo G.t Y).take i) env c)::bO p (bk p) q G Hx⟩/\z=Y.kids.length - i/\i<=Y.kids.length) (⟨0,rfl,rfl,aa⟩) ?_;rintro z _ ⟨i,rfl,rfl,aN⟩;refine ay ?_;refine az (λak=>?_) λak=>?_
  ·have o:i<Y.kids.length:=by omega
   have a5:=v _ (bH o);refine o8 ?_;refine ag (ad.dX rfl rfl rfl rfl rfl (.tail _ (nN (i:=(Y.kids.getD i default).toNat) aa)) ⟨aa,aa⟩) ?_;refine ag (ad.gm rfl rfl rfl (.tail _ (nN (i:=(Y.kids.getD i default).toNat) aa)) (hN aa)) ?_;refine aR ?_;refine ag (K3) ?_;apply ai.gb rfl rfl rfl rfl rfl rfl rfl rfl rfl rfl
   (case hu=>repeat (first | exact bG.head _ _ _ | apply bG.tail));(case hfit=>exact Nat.ble_eq_true_of_le (show 4+(i:Int).toNat*1+1<=9 by omega));(case hds=>exact (show _=fI (N:Int) Y ((mo G.t Y).take (i+1)) env c by rw[show 0+4+(i:Int).toNat*1=4+i by omega];exact ahL (KS:=(mo G.t Y)) (i:=i) aa aa (show _=(List.map (λk=>G.t.nodes.getD k.toNat default) Y.kids).getD i default by rw[sY o])))
   refine aP ?_;exact aU (⟨i+1,rfl,rfl,o⟩)
  ·obtain rfl:i=Y.kids.length:=by omega
   rw[List.take_of_length_le (by omega:(mo G.t Y).length<=Y.kids.length)];refine aS ?_;refine b0 10 98 ?_;refine aP ?_;refine bh (ad.eq (ad.tw rfl rfl rfl rfl rfl (.tail _ ahN) ahJ ey) (ahI V)) ?_;refine aV ?_;refine ai.perm (show (.au m8 142 (fI (N:Int) Y (mo G.t Y) env c)::((eo p q G.ch::eh (bk p) q G.t)++Hx)).Perm ((eo p q G.ch::eh (bk p) q G.t)++(.au m8 142 (fI (N:Int) Y (mo G.t Y) env c)::Hx)) from List.perm_middle.symm) ?_;refine cI .k ((ahK (Hx:=.au m8 142 (fI (N:Int) Y (mo G.t Y) env c)::Hx) a1 bV s hn A B he (DY s v) D aa (λcm=>by rw[D];exact F (by rw[cm];rfl)) a3).b) ?_;rintro _ _ ⟨rfl,rfl⟩;refine aR ?_;refine aZ.n3 (rs:=[]) (H':=bO p (bk p) q (eI p (bk p) Y N env c (mo G.t Y) G) Hx) rfl (.nil) (c5.refl _) (by exact List.Sublist.cons_cons _ (List.Sublist.append (List.Sublist.refl _) (List.sublist_cons_self _ _))) ?_;exact⟨rfl,by rw[W,a2]⟩
def Kl{p:Prog}{q:gB}(a1:fB p q)(bV:p.Small){next:Bool}{eV:Int}(ajg:eV<0\/∃k:Nat,eV=k/\k<p.methods.length):∀(f:Nat) {n:Int} {env:al} {g:GT} {Hx:aC},h9 p next f n env.length->env.length+f<=20->(∀k∈env,cq (aG p) k=true)->bf p g.t->
  bP prog 71 [.p q.bz 0,.i n,ab.ints env,.i eV] (bO p (bk p) q g Hx) (λr H1=>r= .bj []/\H1=bO p (bk p) q (fQ p (bk p) eV f n env g) Hx) (λ_ _=>False)
 | 0,n,env,g,Hx,jt,_,_,_=>jt.elim
 | f+1,n,env,g,Hx,jt,al8,he,h=>by
  have rP:=tW jt;obtain⟨N,rfl⟩:∃N:Nat,n=N:=⟨n.toNat,aa⟩;exact ahO a1 bV ajg (f:=f) (λa b c d=>Kl a1 bV ajg f a b c d) jt al8 he h
def TE(l:al):dG (l.map ab.i)=true:=by simp[dG,fa,Value.oneCell']
def TF(l:al):(l.map ab.i).map (λc=>[c])=l.map λn=>[.i n]:=by rw[List.map_map];rfl
def ahP{l}{v}(c:l≠ [])(g:l.length<=100000):hS prog [.row 3 1 v l.length (l.map .i)] 21 [.val v] (.ints l):=by
 intro H a;refine aM func21 λB I j=>?_;have f:l.length≠0:=by simpa using c
 refine a8 ?_;refine ag (.XG rfl rfl rfl rfl rfl rfl (a _ dB) f) ?_;refine aQ ?_;refine bc (λaf=>?_) λaf=>?_
 ·cases af
 ·refine ay ?_;refine ag (ad.eq (ad.Na rfl rfl rfl (aq.refl _) rfl rfl (a _ (.head _)) aT (by simpa using c) (TE l) aa aa) (by rw[TF])) ?_;refine aV ?_;refine aB 2 (H) ?_;exact⟨cM,rfl⟩
def A6(m:(bu p).isSome)(ah){g}(h:bf p g.t){i}(j:i<p.methods.length):h9 p (lh (p.methods.getD i default)) 13 (p.methods.getD i default).node (g.t.params.getD i default).length/\(g.t.params.getD i default).length+13<=20/\(∀k∈g.t.params.getD i default,cq (aG p) k=true)/\bf p (kV p ah g i).t:=by
 have q:=(sC m).1 _ (bH j);have s:=h.jW i j;rw[<-s] at q;have r:=h.ks _ (bH (by rw[h.pl];exact j));have w:=tV m j;obtain⟨o,v⟩:=Option.isSome_iff_exists.1 m;have:=(sj (jf v).2.2.1 (bH (l:=p.c2) (k:=(p.methods.getD i default).gen.toNat) aa)).2;refine⟨q,aa,r,?_⟩;unfold kV;split
 ·exact Az 13 q r h
 ·exact h
def Km(a:(bu p).isSome)(ah){g}(h:bf p g.t){i}(f:i<=p.methods.length):bf p ((List.range i).foldl (kV p ah) g).t:=hX _ h λg m c h=>(A6 a ah h (by have:=List.mem_range.1 c;omega)).2.2.2
def Kn(a:(bu p).isSome)(ah){t}(h:bf p t):bf p (fR p ah t).t:=Az 13 (sC a).2.1 (λk c=>by cases c) (Km a ah (g:=⟨t,false⟩) h ft)
def TG(a1:fB p q)(bV:p.Small)(h:bf p g.t):bP prog 34 [.p q.bz 0] (bO p (bk p) q g Hx) (λr L=>r= .b (fR p (bk p) g.t).ch/\L=bO p (bk p) q (fR p (bk p) g.t) Hx) (λ_ _=>False):=by
 refine aM func34 λB I M=>?_;have H:=jY a1.aD;have l:∀i,i<=p.methods.length->bf p ((List.range i).foldl (kV p (bk p)) ⟨g.t,false⟩).t:=λi w=>Km a1.aD (bk p) (g:=⟨g.t,false⟩) h w;refine xa ?_;refine bm (λz C=>∃i:Nat,C=⟨[(14,.i i),(13,.i p.methods.length),(12,.aj 9 (p.methods.map eS)),(0,.p q.bz 0)],bO p (bk p) q ((List.range i).foldl (kV p (bk p)) ⟨g.t,false⟩) Hx⟩/\z=p.methods.length - i/\i<=p.methods.length) tz ?_;rintro z _ ⟨i,rfl,rfl,w⟩;refine ay ?_;refine az (λaf=>?_) λaf=>?_
 ·have bF:i<p.methods.length:=by omega
  obtain⟨G,m⟩:∃G,G=((List.range i).foldl (kV p (bk p)) ⟨g.t,false⟩):=⟨_,rfl⟩;have a:=l i w;rw[<-m] at a;have j:=lO (f:=kV p (bk p)) i ⟨g.t,false⟩;rw[<-m] at j;rw[<-m];have K:=a.hp;have F:=a.pl;obtain⟨v,s,o,D⟩:=A6 a1.aD (bk p) a bF;have c:=ua a1.aD a bF;refine a8 ?_;refine bT (λxI=>?_);refine aS ?_;refine eB 4 ?_;refine aP ?_;refine ag (ad.dX rfl rfl rfl rfl rfl (sK (i:=i) aa) ⟨aa,aa⟩) ?_;refine ag (ad.gm rfl rfl rfl (sK (i:=i) aa) (x7 aa)) ?_;refine aQ ?_;refine bc (λae=>?_) (λae=>?_)
  ·have x:G.t.bC.getD i default=true:=ae;refine b0 13 53 ?_;refine a8 ?_;refine bh (wh) ?_;refine aR ?_;refine bh (ad.h2 .k (c5.refl _) (ahP c aa) (λe A=>by rw[List.mem_singleton] at A;subst A;exact Jr aa c)) ?_;refine aH ?_;refine cI .k ((Kl a1 bV (.inr ⟨i,rfl,bF⟩) 13 v s o a).b) ?_;rintro _ _ ⟨rfl,rfl⟩;refine aP ?_;exact aU (⟨i+1,by rw[j,kV,if_pos x],rfl,bF⟩)
  ·have x:G.t.bC.getD i default=false:=ae;refine aP ?_;exact aU (⟨i+1,by rw[j,kV,if_neg (by rw[x];decide)],rfl,bF⟩)
 ·obtain rfl:i=p.methods.length:=by omega
  have m:=l _ (Nat.le_refl _);refine di ?_;refine cI ((gG.mk' rfl rfl rfl rfl rfl).le (.cons (.refl _) (.cons (.refl _) (.cons (aq.nil 1) (.cons (.refl _) .nil))))) ((Kl a1 bV (.inl c8) 13 (sC a1.aD).2.1 (env:=[]) c8 (λk E=>by cases E) m).b) ?_;rintro _ _ ⟨rfl,rfl⟩;refine bS ?_;refine aB 2 (bO p (bk p) q (fR p (bk p) g.t) Hx) ?_;exact⟨rfl,rfl⟩
end Go.Proofs.YtodccgailpkgeaaGreat

