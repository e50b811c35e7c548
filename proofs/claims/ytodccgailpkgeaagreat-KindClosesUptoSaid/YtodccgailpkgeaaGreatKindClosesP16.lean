/- A part of the proof. No condition. -/
import Derived.Test.YtodccgailpkgeaaGreatKindClosesP15
set_option linter.defProp false
set_option maxHeartbeats 1000000
set_option linter.unusedVariables false
set_option linter.unusedSimpArgs false
set_option maxRecDepth 10000
namespace Go.Proofs.YtodccgailpkgeaaGreat
open Go.Proofs.Tryz
open Go.Eng
open Go.Eng.Fc
open Go.Eng.dO
variable{α:Type}{L:List al}{kinds x l:al}{B n j k:Nat}{p:Prog}
abbrev e1(ff:Nat)(x:al):br:=.au ff 3 (x.map ab.i)
abbrev fA(ff n:Nat):ab:=.val (.slice (some ⟨ff,0,none⟩) n n)
abbrev ac2(kinds:al)(r1:ab)(ff da:Nat):ab:=.fn (.func 117) [] [.ptr [ab.ints kinds],.ptr [r1],.ptr [fA ff kinds.length],.p da 0]
abbrev mn(kinds:al)(r1:ab)(ff da:Nat):br:=.au da 65 [ac2 kinds r1 ff da]
abbrev IE(B:Nat)(kinds:al)(g:Fn)(gs gc:bl)(L:List al)(J Jx:List al->aC->Prop):Prop:=FD B prog (.fn g gs gc) (λb (_:al)=>fA b kinds.length) (λb x=>[e1 b x]) L J Jx
def IF(B:Nat)(kinds:al)(g:Fn)(gs gc:bl)(L:List al)(J Jx:List al->aC->Prop)(ff da f:Nat):Prop:=
 ∀(i:Nat) (q QX:al) (pre:List al) (pP Hx:aC),i+f=kinds.length->q.length=i->QX.length=f->pre++(eb (kinds.drop i)).map (λl=>q++l)<+:L->J pre pP->
  eM B prog 117 [.i i,.ptr [ab.ints kinds],.ptr [.fn g gs gc],.ptr [fA ff kinds.length],.p da 0] (pP++(e1 ff (q++QX)::mn kinds (.fn g gs gc) ff da::Hx))
   (λy H'=>∃r H1 QY,y= .b r/\QY.length=f/\H'=H1++(e1 ff (q++QY)::mn kinds (.fn g gs gc) ff da::Hx)/\(r=true->J (pre++(eb (kinds.drop i)).map (λl=>q++l)) H1)/\(r=false->∃rm,rm<+:L/\Jx rm H1)) (λ_ _=>False)
def QZ(r x p:br)(A X:aC):(r::(A++(x::p::X))).Perm (A++(x::r::p::X)):=List.perm_middle.symm.trans (.append_left _ (.swap _ _ _))
def Q0(a b c d e:br)(A X:aC):([a,b,c,d,e]++(A++X)).Perm (A++([a,c,b,d,e]++X)):=(List.perm_append_comm_assoc _ _ _).trans (.append_left _ (List.Perm.append_right _ (.cons _ (.swap _ _ _))))
def Q1(l d r x p:br)(A X:aC):(l::d::((r::(A++[x,p]))++([]++X))).Perm ([x,r,p,l,d]++(A++X)):=by
 have c:(l::d::((r::(A++[x,p]))++([]++X)))= [l,d,r]++(A++([x,p]++X)):=by simp
 rw[c];refine (List.Perm.append_left _ (List.perm_append_comm_assoc _ _ _)).trans ?_;show (l::d::r::x::p::(A++X)).Perm (x::r::p::l::d::(A++X));have a:∀Y:aC,(l::d::r::x::p::Y).Perm (x::r::p::l::d::Y):=λY=>by
  have:=List.Perm.append_right Y (show [l,d,r,x,p].Perm [x,r,p,l,d] from by
   refine ((List.perm_append_comm (l₁:=[l,d]) (l₂:=[r,x,p])).trans ?_);exact .swap _ _ _)
  simpa using this
 exact a _
def Q2(l d r x p:br)(A X:aC):(A++([x,p,r,l,d]++X)).Perm (l::d::((r::(A++[x,p]))++([]++X))):=
 (Q0 x r p l d A X).symm.trans (Q1 l d r x p A X).symm
def ac3{a c:Type}{pre L:List c}{g:a->List c}{M f:List a}{b:a}(h:pre++M.flatMap g<+:L)(j:f++[b]<+:M):(pre++f.flatMap g)++g b<+:L:=by
 refine List.IsPrefix.trans ?_ h;rw[List.append_assoc];refine (List.prefix_append_right_inj pre).2 ?_;obtain⟨t,rfl⟩:=j;exact⟨t.flatMap g,aT⟩
def ac4{i}(a:i<kinds.length){k:Nat}(f:kinds.getD i default=(k:Int))(q):(eb (kinds.drop i)).map (λl=>q++l)=(fP k).flatMap λ(c:Nat)=>(eb (kinds.drop (i+1))).map λl=>(q++[(c:Int)])++l:=by
 have e:kinds.drop i=kinds.getD i default::kinds.drop (i+1):=by
  rw[List.drop_eq_getElem_cons a,List.getD_eq_getElem?_getD,List.getElem?_eq_getElem a];rfl
 rw[e,f,eb,List.map_flatMap];congr 1;funext c;rw[List.map_map];congr 1;funext l;simp
def ac5{q f}{i:Nat}(j:q.length=i)(g x:Int):((q++g::f).map ab.i).take (0+(i:Int).toNat*1)++cJ (.i x)++((q++g::f).map ab.i).drop (0+(i:Int).toNat*1+1)=((q++[x])++f).map ab.i:=by
 subst j;have e:0+((q.length:Nat):Int).toNat*1=(q.map ab.i).length:=by simp
 rw[e,List.map_append,List.take_left,List.map_cons];have h:∀(a:bl) (b:ab) (c:bl),(a++b::c).drop (a.length+1)=c:=λa b c=>by rw[show a++b::c=(a++[b])++c by simp,show a.length+1=(a++[b]).length by simp,List.drop_left]
 rw[h,List.map_append,List.map_append];rfl
def Q3(a4:∀k∈kinds,0<=k/\k.toNat<2^60)(a9:kinds.length<=1000){g}{z v}{L}{J Jx}(av:IE B kinds g z v L J Jx){m A f}(fv:∀G,f=G+1->IF B kinds g z v L J Jx m A G):IF B kinds g z v L J Jx m A f:=by
 intro i q X K R F iy cj U Q P;refine .ofM func117 rfl ax rfl rfl λI bN=>?_;refine aH ?_;refine bT (λdg=>?_);refine bA ?_;refine az (λaf=>?_) λaf=>?_
 ·obtain rfl:f=0:=by omega
  obtain rfl:X= []:=List.eq_nil_of_length_eq_zero U;have ac6:(eb (kinds.drop i)).map (λl=>q++l)= [q]:=by rw[List.drop_of_length_le aa];simp[eb]
  rw[ac6] at Q ⊢;rw[List.append_nil];refine aR ?_;refine .perm (QZ _ _ _ _ _) ?_;refine aH ?_;refine .oa rfl rfl rfl rfl rfl rfl rfl rfl cL (av m K q R (.au dg 4 [.val (.bool false)]::mn kinds (.fn g z v) m A::F) Q P) ?_;rintro _ _ ⟨r,o,rfl,rfl,bM,bJ⟩;refine .perm (QZ _ _ _ _ _).symm ?_;refine aS ?_;refine .ld [] (.au dg 4 [.b r]::(o++[e1 m q,mn kinds (.fn g z v) m A])) F (rs:=[.cell 6 4]) (H':=o++(e1 m q::mn kinds (.fn g z v) m A::F)) rfl (by show ((_::(o++[_,_]))++F).Sublist _;rw[List.cons_append,List.append_assoc];exact List.Sublist.refl _) s5 cL E2 ?_;exact⟨r,o,[],rfl,rfl,by rw[List.append_nil],bM,λh=>⟨_,Q,bJ h⟩⟩
 ·have V:i<kinds.length:=by omega
  obtain⟨G,rfl⟩:∃G,f=G+1:=⟨f - 1,aa⟩;obtain⟨hQ,D⟩:=a4 _ (bH V);obtain⟨k,bD⟩:∃k:Nat,kinds.getD i default=k:=⟨(kinds.getD i default).toNat,aa⟩;have D:k<2^60:=by rw[bD] at D;simpa using D
  have fw:=ac4 V bD q;rw[fw] at Q ⊢;refine aJ ?_;refine ag (.le uX (.b6 bD)) ?_;refine ag GP ?_;refine aH ?_;refine .perm (H':=(.au dg 4 [.val (.bool false)]::(R++[e1 m (q++X),mn kinds (.fn g z v) m A]))++F) (.of_eq aT) ?_;refine .weaken (st':=⟨[(19,.fn (.func 76) [] [.ptr [.i k]]),(5,.ptr [.i i]),(6,.p dg 0),(1,.ptr [.ints kinds]),(2,.ptr [.fn g z v]),(3,.ptr [fA m kinds.length]),(4,.p A 0)],(.au dg 4 [.val (.bool false)]::(R++[e1 m (q++X),mn kinds (.fn g z v) m A]))++(gY []++F)⟩) h1 gE ?_;refine .q3 [] (λ_ (c:Nat)=>.i c) (λ_ _=>[]) (fP k) (λcs H=>∃o j,H= .au dg 4 [.val (.bool false)]::(o++[e1 m (q++j),mn kinds (.fn g z v) m A])/\j.length=G+1/\J (K++cs.flatMap (λ(c:Nat)=>(eb (kinds.drop (i+1))).map λl=>(q++[(c:Int)])++l)) o) (λcode cs H=>code= .ret/\∃o j,H= .au dg 4 [.val (.bool false)]::(o++[e1 m (q++j),mn kinds (.fn g z v) m A])/\j.length=G+1/\∃rm,rm<+:L/\Jx rm o) ((.au dg 4 [.val (.bool false)]::(R++[e1 m (q++X),mn kinds (.fn g z v) m A]))) F (λ_ x=>[(7,.i x),(20,.i x),(5,.ptr [.i i]),(6,.p dg 0),(1,.ptr [.ints kinds]),(2,.ptr [.fn g z v]),(3,.ptr [fA m kinds.length]),(4,.p A 0)]) rfl rfl rfl rfl ((vx _ D).b) ⟨R,X,rfl,U,by simpa using P⟩ ?_ ?_ ?_ ?_
  ·intro hH nI gf jX x eG;refine aH ?_;exact λa w s=>⟨_,rfl,s.weaken xf xb⟩
  ·intro hH Z fD K jX x o eG nI gf N P;obtain⟨o,j,rfl,t,O⟩:=P;obtain⟨t0,I,rfl⟩:∃t0 I,j=t0::I:=by cases j with
    | nil=>cases t
    | cons a b=>exact⟨a,b,rfl⟩
   have W:I.length=G:=by simpa using t
   have a0:(q++[(x:Int)]).length=i+1:=by simp[cj]
   have a3:=ac3 (g:=(λ(c:Nat)=>(eb (kinds.drop (i+1))).map λl=>(q++[(c:Int)])++l)) Q N;refine aQ ?_;refine .perm (Q1 _ _ _ _ _ _ _) ?_;refine aV ?_;refine ag CL ?_;apply ai.gb rfl rfl rfl rfl rfl rfl rfl rfl rfl rfl
   (case hu=>repeat (first | exact .head _ _ _ | apply .tail));(case hfit=>simp;omega);(case hds=>exact ac5 cj t0 x)
   refine aP ?_;refine .perm (Q0 _ _ _ _ _ _ _) ?_;refine cI .k (fv G rfl (i+1) (q++[(x:Int)]) I _ o _ aa a0 W a3 O) ?_;rintro _ _ ⟨r,Y,C,rfl,M,rfl,bM,bJ⟩;refine aH ?_;refine bc (λae=>?_) λae=>?_
   ·have ae:r=false:=by simpa using ae
    refine aR ?_;refine .perm (Q2 _ _ _ _ _ _ _) ?_;refine ay ?_;exact .FB (H:=.au dg 4 [.val (.bool false)]::(Y++[e1 m ((q++[(x:Int)])++C),mn kinds (.fn g z v) m A])) kD ⟨rfl,Y,(x:Int)::C,by rw[show q++(x:Int)::C=(q++[(x:Int)])++C by simp],by simp[M],bJ ae⟩
   ·have ae:r=true:=by simpa using ae
    refine aQ ?_;refine .perm (Q2 _ _ _ _ _ _ _) ?_;exact .mH (H:=.au dg 4 [.val (.bool false)]::(Y++[e1 m ((q++[(x:Int)])++C),mn kinds (.fn g z v) m A])) kD ⟨Y,(x:Int)::C,by rw[show q++(x:Int)::C=(q++[(x:Int)])++C by simp],by simp[M],by have:=bM ae;rw[List.append_assoc] at this;rw[List.flatMap_append];simpa using this⟩
  ·intro Z o P;obtain⟨o,j,rfl,t,O⟩:=P;refine aJ ?_;refine .ld (Z::[]) (.au dg 4 [.b true]::(o++[e1 m (q++j),mn kinds (.fn g z v) m A])) F (rs:=[.cell 6 4]) (H':=o++(e1 m (q++j)::mn kinds (.fn g z v) m A::F)) rfl gE s5 cL E2 ?_;exact⟨true,o,j,rfl,t,rfl,λ_=>O,λh=>by cases h⟩
  ·intro Z bI K o N a5;obtain⟨rfl,o,j,rfl,t,rm,a2,S⟩:=a5
   ·refine aH ?_;refine .ld (Z::[]) (.au dg 4 [.val (.bool false)]::(o++[e1 m (q++j),mn kinds (.fn g z v) m A])) F (rs:=[.cell 6 4]) (H':=o++(e1 m (q++j)::mn kinds (.fn g z v) m A::F)) rfl gE s5 cL E2 ?_;exact⟨false,o,j,rfl,t,rfl,(λh=>by cases h),λ_=>⟨rm,a2,S⟩⟩
def ac7(a:∀k∈kinds,0<=k/\k.toNat<2^60)(c:kinds.length<=1000){g}{l m}{L}{J Jx}(j:IE B kinds g l m L J Jx)(o q f):IF B kinds g l m L J Jx o q f:=by
 induction f with
 | zero=>exact Q3 a c j λf' h=>by omega
 | succ n r=>
  refine Q3 a c j λf' h=>?_;obtain rfl:f'=n:=by omega
  exact r
def ac8{p}{a n}(H Hx):(p::.au a 3 (List.replicate n (.val aY))::(H++Hx)).Perm (H++(e1 a ([]++List.replicate n 0)::p::Hx)):=by
 rw[show e1 a ([]++List.replicate n 0)= .au a 3 (List.replicate n (.val aY)) by rw[e1,List.nil_append,List.map_replicate]];exact (List.Perm.swap _ _ _).trans (List.perm_append_comm_assoc [_,_] H Hx)
def ac9(f:∀k∈kinds,0<=k/\k.toNat<2^60)(h:kinds.length<=1000){g}{j m}{J Jx}(o:IE B kinds g j m (eb kinds) J Jx)(H Hx)(t:J [] H):
  eM B prog 116 [.fn g j m,.ptr [.ints kinds]] (H++Hx) (λ_ H'=>∃a,H'=a++Hx/\(J (eb kinds) a\/∃c,c<+:eb kinds/\Jx c a)) (λ_ _=>False):=by
 refine .of func116 rfl ax rfl rfl λI z=>?_;refine a8 ?_;refine .pR (kinds.length) rfl rfl rfl rfl rfl rfl rfl rfl rfl aa ia λff=>?_;refine bT (λgK=>?_);refine aV ?_;refine eB 3 ?_;refine aR ?_;refine bT (λda=>?_);refine bQ ?_;refine .perm (ac8 H Hx) ?_;refine cI .k (ac7 f h o ff da kinds.length 0 [] (List.replicate kinds.length 0) [] H Hx aa rfl aT aT t) ?_;rintro _ _ ⟨r,a,s,rfl,l,rfl,q,v⟩;refine aR ?_;refine .n3 (rs:=[]) (H':=a++Hx) rfl (.nil) cL (by exact (List.Sublist.refl a).append (.cons _ X1)) ?_;exact⟨a,rfl,by cases r with | true=>exact .inl (by simpa using q rfl) | false=>exact .inr (v rfl)⟩
def IG(kinds):aI prog 79 [.ints kinds] (.fn (.func 116) [] [.ptr [.ints kinds]]):=by
 intro H;refine aM func79 λB I a=>?_;refine di ?_;refine aB 2 (H) ?_;exact⟨dP,rfl⟩
def IH(B){kinds}(a:∀k∈kinds,0<=k/\k.toNat<2^60)(c:kinds.length<=1000):B6 B prog (.fn (.func 116) [] [.ptr [.ints kinds]]) (λb (_:al)=>fA b kinds.length) (λb x=>[e1 b x]) (eb kinds):=
 λJ o g l m f H j h=>eZ.r0 (ac9 a c f H j h)
def xh{q:α->Bool}{pre:List α}{x:α}(h:q x=true):(pre++[x]).filter q=pre.filter q++[x]:=by rw[List.filter_append];simp[h]
def xi{q:α->Bool}{pre:List α}{x:α}(h:q x=false):(pre++[x]).filter q=pre.filter q:=by rw[List.filter_append];simp[h]
theorem nd:∀{a x:al},x∈eb a->x.length=a.length/\∀i,i<a.length->∃c:Nat,x.getD i default=c/\(a.getD i default).toNat.testBit c=true
 | [],x,h=>by
  simp[eb,List.mem_singleton] at h;subst h;exact⟨rfl,λi aN=>by simp at aN⟩
 | k::r,x,h=>by
  rw[eb,List.mem_flatMap] at h;obtain⟨c,g,h⟩:=h;obtain⟨l,f,rfl⟩:=List.mem_map.1 h;obtain⟨ae,j⟩:=nd f;refine⟨rQ,λi aN=>?_⟩;cases i with
  | zero=>exact⟨c,rfl,(tS.1 g).2⟩
  | succ i=>exact j i ng
def II(a:(bu p).isSome){kinds:al}(c:∀k∈kinds,cq (aG p) k=true):∀k∈kinds,0<=k/\k.toNat<2^60:=λk h=>by
 obtain⟨g,f,_⟩:=sx (c k h);have:=oA a;exact⟨aa,aa⟩
def qa(h:∀k∈kinds,cq (aG p) k=true)(t:x∈eb kinds):∀c∈x,1<=c/\c<aG p:=λc r=>by
 obtain⟨i,q,rfl⟩:=List.getElem_of_mem r;obtain⟨v,j⟩:=nd t;obtain⟨d,a,f⟩:=j i aa;obtain⟨_,m,g⟩:=sx (h _ (bH (l:=kinds) (k:=i) aa));rw[List.getD_eq_getElem?_getD,List.getElem?_eq_getElem q] at a;have a:x[i]=(d:Int):=a;rw[a];have o:d≠0:=λe=>by subst e;rw[f] at g;cases g
 have s:d<aG p:=by
  apply Decidable.byContradiction;intro w;rw[Du m aa] at f;cases f
 omega
def IJ{m:Nat}(hm:m<=62){i}:∀(L:List al),(∀x∈L,x.getD i default<m)->(∀x∈L,0<=x.getD i default)->lV L i<2^62:=λL h c=>by
 unfold lV;have:∀(L:List al) (a:Nat),a<2^62->(∀x∈L,x.getD i default<m)->(∀x∈L,0<=x.getD i default)->L.foldl (λa l=>a ||| 2^(l.getD i default).toNat) a<2^62:=by
  intro L
  induction L with
  | nil=>intro a g _ _;exact g
  | cons x r j=>
   intro a g h c;refine j _ (Nat.or_lt_two_pow g (Nat.pow_lt_pow_right c8 ?_)) (λy f=>h y (.tail _ f)) λy f=>c y (.tail _ f);have:=h x dB;have:=c x dB;omega
 exact this L 0 c8 h c
def ada(L)(x)(i):lV (L++[x]) i=lV L i ||| 2^(x.getD i default).toNat:=by unfold lV;rw[List.foldl_append];rfl
def mW(L:List al)(x:al)(n j:Nat):al:=(List.range n).map λi=>((if i<j then lV (L++[x]) i else lV L i:Nat):Int)
def yk(L)(x)(n j):(mW L x n j).length=n:=by simp[mW]
def IK(L)(x)(n):mW L x n 0=hl L n:=by unfold mW hl;simp
def IL(L)(x)(n):mW L x n n=hl (L++[x]) n:=by
 unfold mW hl;refine List.map_congr_left λi a=>?_;rw[if_pos (List.mem_range.1 a)]
def IM(h:j<n):(mW L x n j).getD j default=(lV L j:Int):=by
 rw[mW,List.getD_eq_getElem?_getD,List.getElem?_map,List.getElem?_range h];show ((if j<j then _ else _:Nat):Int)=_;rw[if_neg Ni]
def IN(h:j<n):(mW L x n j).set j ((lV L j ||| 2^(x.getD j default).toNat:Nat):Int)=mW L x n (j+1):=by
 refine List.ext_getElem (by simp[mW]) λi f c=>?_;rw[List.getElem_set];simp only[mW,List.getElem_map,List.getElem_range];by_cases e:j=i
 ·subst e;rw[if_pos rfl,if_pos (Nat.lt_succ_self _),ada]
 ·rw[if_neg e];by_cases a:i<j
  ·rw[if_pos a,if_pos aa]
  ·rw[if_neg a,if_neg aa]
def ints_set(h:j<l.length)(v):(l.map .i).take (0+(j:Int).toNat*1)++cJ (.i v)++(l.map .i).drop (0+(j:Int).toNat*1+1)=(l.set j v).map .i:=by
 have e:0+(j:Int).toNat*1=j:=by simp
 rw[e,List.set_eq_take_append_cons_drop,if_pos h,List.map_append,List.map_take,List.map_cons,List.map_drop];simp[cJ]
def ints_at(h:j<l.length):(l.map ab.i)[0+(j:Int).toNat*1]? =some (.i (l.getD j default)):=by
 have e:0+(j:Int).toNat*1=j:=by simp
 rw[e,List.getElem?_map,List.getD_eq_getElem?_getD,List.getElem?_eq_getElem h];rfl
section
variable{p:Prog}{t:cv}{gen:Int}{kinds:al}{m:Nat}
def IP:h8 p t gen kinds (m+1)=h8 p t gen kinds m++(if(p.methods.getD m default).gen=gen/\hd p t (p.methods.getD m default).fact kinds≠ [] then [((m:Int),hl (hd p t (p.methods.getD m default).fact kinds) kinds.length)] else []):=by
 unfold h8;rw[List.range_succ,List.filterMap_append];congr 1;rw[List.filterMap_cons];by_cases h:(p.methods.getD m default).gen=gen/\hd p t (p.methods.getD m default).fact kinds≠ []
 ·rw[if_pos h,if_pos h];rfl
 ·rw[if_neg h,if_neg h];rfl
def IQ(h:(p.methods.getD m default).gen≠gen):h8 p t gen kinds (m+1)=h8 p t gen kinds m:=by rw[IP,if_neg (λak=>h ak.1),List.append_nil]
def IS(h:hd p t (p.methods.getD m default).fact kinds= []):h8 p t gen kinds (m+1)=h8 p t gen kinds m:=by rw[IP,if_neg (λak=>ak.2 h),List.append_nil]
def IT(h:(p.methods.getD m default).gen=gen)(a:hd p t (p.methods.getD m default).fact kinds≠ []):h8 p t gen kinds (m+1)=h8 p t gen kinds m++[((m:Int),hl (hd p t (p.methods.getD m default).fact kinds) kinds.length)]:=by rw[IP,if_pos ⟨h,a⟩]
def Bh(n):(h8 p t gen kinds n).length<=n:=by
 have:=List.length_filterMap_le (λm=>if(p.methods.getD m default).gen=gen/\hd p t (p.methods.getD m default).fact kinds≠ [] then some ((m:Int),hl (hd p t (p.methods.getD m default).fact kinds) kinds.length) else none) (List.range n);rw[List.length_range] at this;exact this
end
def IU(A:List (Int×al))(m:Nat)(g:al):ab.ints ((A++[((m:Int),g)]).map (·.1))= .aj 1 ((A.map (·.1)).map (λn=>[.i n])++[[.i (m:Int)]]):=by
 show ab.aj 1 (List.map _ (List.map _ (_++_)))=_;rw[List.map_append,List.map_append];rfl
def IV(A)(m:Nat)(g:al):ab.bp ((A++[((m:Int),g)]).map (·.2))= .aj 1 ((A.map (·.2)).map (λn=>[ab.ints n])++[[ab.ints g]]):=by
 show ab.aj 1 (List.map _ (List.map _ (_++_)))=_;rw[List.map_append,List.map_append];rfl
def IW(n):List.replicate n (ab.val aY)=(hl [] n).map ab.i:=by
 unfold hl;rw[List.map_map];refine (List.ext_getElem aT λi c a=>?_);simp[lV]
def DO(a gK:Nat)(l)(n:Nat):e1 a l= .au a 3 ((l.map λx=>[.i x]).flatten++[]):=by
 rw[List.append_nil];show br.au a 3 _=_;congr 1
 induction l with
 | nil=>rfl
 | cons x r c=>rw[List.map_cons,List.map_cons,List.flatten_cons,c];rfl
def adb{t:cv}(aD:(bu p).isSome)(b4:ln p t)(nG:(t.aw.length:Int)=p.aw){gen:Int}{kinds}(bD:∀k∈kinds,cq (aG p) k=true)(lU:(kinds.length:Int)=gg p gen)(ade:kinds.length<=1000):aI prog 53 [ab.ew p t,.i gen,ab.ints kinds] (.bj [ab.ints ((eK p t gen kinds).map (·.1)),ab.bp ((eK p t gen kinds).map (·.2))]):=by
 intro H;refine bP.qK func53 rfl ax rfl rfl (λB I bN=>?_);have Q4:=mm aD;have IX:=oA aD;have gk:=jY aD;have vA:=II aD bD;refine iY ?_;refine hi 6 3 1 ?_;refine hi 7 23 1 ?_;refine aA.zw (λq st=>∃(m:Nat) (v1 v2:Value),st=⟨[(21,.i m),(20,.i p.methods.length),(19,.aj 9 (p.methods.map eS)),(6,.as (ab.ints ((h8 p t gen kinds m).map (·.1))) v1),(7,.as (ab.bp ((h8 p t gen kinds m).map (·.2))) v2),(1,.i gen),(2,ab.ints kinds),(3,.ptr [ab.ew p t])],[.own 23 1 v2,.own 3 1 v1]⟩/\q=p.methods.length - m/\m<=p.methods.length) [] H ⟨_,_,⟨0,_,_,rfl,rfl,aa⟩,h1,gE⟩ ?_;intro pq;rintro q _ ⟨m,v1,v2,rfl,rfl,hm⟩;refine ay ?_;refine az (λaf=>?_) λaf=>?_
 ·have lk:m<p.methods.length:=by omega
  obtain⟨M,c4⟩:∃M,M=p.methods.getD m default:=⟨_,rfl⟩;have Dq:=IQ (p:=p) (t:=t) (gen:=gen) (kinds:=kinds) (m:=m);have Q5:=IS (p:=p) (t:=t) (gen:=gen) (kinds:=kinds) (m:=m);have IY:=IT (p:=p) (t:=t) (gen:=gen) (kinds:=kinds) (m:=m);rw[<-c4] at Dq Q5 IY;refine a8 ?_;refine bT (λbt=>?_);refine ay ?_;rw[<-c4];refine eB 9 ?_;refine aP ?_;refine az (λae=>?_) λae=>?_
  ·refine aJ ?_;refine aZ.oi pq (⟨m+1,v1,v2,by rw[Dq ae],rfl,lk⟩) ?_ ?_ ?_
   ·omega
   ·repeat (first | exact trivial | refine⟨rfl,?_⟩)
   ·repeat (first | exact List.Sublist.refl _ | apply List.Sublist.cons_cons | refine List.Sublist.cons _ ?_)
  ·have DP:∀x∈eb kinds,ib p x M.fact:=λx aK=>by
    have IZ:iO p (m:Int)=true:=by unfold iO;simp;omega
    have cm:=xD aD IZ (l:=x) E3;rw[show ((m:Int)).toNat=m from rfl, <-c4] at cm;exact cm
   refine ay ?_;refine ai.pR (kinds.length) rfl rfl rfl rfl rfl rfl rfl rfl (rfl) aa ia (λcR=>?_);refine bT (λgK=>?_);refine bT (λhk=>?_);refine ay ?_;rw[IW];refine aQ ?_;refine ag (ad.call .k ((IG _))) ?_;refine aH ?_;refine aA.weaken (st':=⟨[(34,.fn (.func 116) [] [.ptr [ab.ints kinds]]),(8,.i m),(9,.ptr (eS M)),(10,.p gK 0),(11,.p hk 0),(21,.i m),(20,.i p.methods.length),(19,.aj 9 (p.methods.map eS)),(6,.as (ab.ints ((h8 p t gen kinds m).map (·.1))) v1),(7,.as (ab.bp ((h8 p t gen kinds m).map (·.2))) v2),(1,.i gen),(2,ab.ints kinds),(3,.ptr [ab.ew p t])],[.au hk 4 [.b false],.au gK 23 [fA cR kinds.length],e1 cR (hl [] kinds.length),.own 23 1 v2,.own 3 1 v1]++(gY pq++H)⟩) h1 gE ?_;refine aA.q3 pq (λb (_:al)=>fA b kinds.length) (λb x=>[e1 b x]) (eb kinds) (λpre H=>H= [.au hk 4 [.b (!(pre.filter (λl=>(cX p t l M.fact).1)).isEmpty)],.au gK 23 [fA cR kinds.length],e1 cR (hl (pre.filter (λl=>(cX p t l M.fact).1)) kinds.length),.own 23 1 v2,.own 3 1 v1]) (λ_ _ _=>False) ([.au hk 4 [.b false],.au gK 23 [fA cR kinds.length],e1 cR (hl [] kinds.length),.own 23 1 v2,.own 3 1 v1]) (H) (λb x=>[(12,fA b kinds.length),(35,fA b kinds.length),(9,.ptr (eS M)),(10,.p gK 0),(11,.p hk 0),(3,.ptr [ab.ew p t])]) rfl rfl rfl rfl (IH _ vA ade) cM ?_ ?_ ?_ ?_
   ·intro hH nI gf jX x eG;refine aH ?_;exact λa w s=>⟨_,rfl,s.weaken xf xb⟩
   ·intro hH xC fD pre jX x H1 eG nI gf l5 eF;obtain rfl:=eF;have wP:x∈eb kinds:=l5.subset aT;obtain⟨Ch,adf⟩:=nd wP;have hI:=qa bD wP;obtain⟨A,DQ⟩:∃A,A=(pre.filter (λl=>(cX p t l M.fact).1)):=⟨_,rfl⟩;rw[<-DQ];have DR:∀y∈A,y∈eb kinds:=λy hy=>by rw[DQ] at hy;exact l5.subset (List.mem_append_left _ (List.mem_filter.1 hy).1)
    refine aJ ?_;refine ag (ad.qO .k (fq.outs (pre:=[ab.ew p t,ab.fact M.fact]) (post:=[]) (nb:=jX) (o:=x) uj Ch aa) (DE aD b4 nG hI _ (DP x wP))) ?_;refine ag zF ?_;refine aH ?_;refine bc (λak=>?_) (λak=>?_)
    ·have ak:(cX p t x M.fact).1=false:=by simpa using ak
     refine aH ?_;exact aZ.mH (H:=[.au hk 4 [.b (!A.isEmpty)],.au gK 23 [fA cR kinds.length],e1 cR (hl A kinds.length),.own 23 1 v2,.own 3 1 v1]) kD (by rw[xi (q:=(λl=>(cX p t l M.fact).1)) ak, <-DQ])
    ·have ak:(cX p t x M.fact).1=true:=by simpa using ak
     refine dW ?_;rw[<-IK A x];refine bm (λq st=>∃j:Nat,st=⟨[(45,.i j),(44,.i kinds.length),(43,fA jX kinds.length),(12,fA jX kinds.length),(9,.ptr (eS M)),(10,.p gK 0),(11,.p hk 0),(3,.ptr [ab.ew p t])],.loop hH fD (aE [(34,.fn (.func 116) [] [.ptr [ab.ints kinds]]),(8,.i m),(9,.ptr (eS M)),(10,.p gK 0),(11,.p hk 0),(21,.i m),(20,.i p.methods.length),(19,.aj 9 (p.methods.map eS)),(6,.as (ab.ints ((h8 p t gen kinds m).map (·.1))) v1),(7,.as (ab.bp ((h8 p t gen kinds m).map (·.2))) v2),(1,.i gen),(2,ab.ints kinds),(3,.ptr [ab.ew p t])])::.obj xC (.deferred (some []))::([.au hk 4 [.b true],.au gK 23 [fA cR kinds.length],e1 cR (mW A x kinds.length j),.own 23 1 v2,.own 3 1 v1]++([e1 jX x]++eG))⟩/\q=kinds.length - j/\j<=kinds.length) tz ?_;rintro q _ ⟨j,rfl,rfl,cp⟩;refine ay ?_;refine az (λaL=>?_) λaL=>?_
     ·have dz:j<kinds.length:=by omega
      obtain⟨c,a1,_⟩:=adf j dz;have o4:=hI _ (bH (l:=x) (k:=j) aa);rw[a1] at o4;have BS:lV A j<2^62:=IJ (m:=aG p) aa A (λy hy=>by have I0:=(nd (DR y hy)).1;have dF:=qa bD (DR y hy) _ (bH (l:=y) (k:=j) aa);omega) (λy hy=>by have I0:=(nd (DR y hy)).1;have dF:=qa bD (DR y hy) _ (bH (l:=y) (k:=j) aa);omega);have wo:=IN (L:=A) (x:=x) dz;rw[a1] at wo;refine aP ?_;refine ag CL ?_;refine ag (ad.le (by apply ad.iv rfl rfl rfl;(case hm=>repeat (first | exact .head _ | refine .tail _ ?_));(case hy=>exact ints_at aa)) (aq.b6 a1)) ?_;refine aV ?_;refine b0 6 71 ?_;refine aQ ?_;refine bh CL ?_;refine bh (ad.le EW (aq.b6 (IM dz))) ?_;refine aR ?_;refine bh (ad.shift rfl rfl rfl rfl rfl aa (ml c ⟨aa,aa⟩)) ?_;refine aQ ?_;refine ag (ad.bits rfl rfl rfl rfl rfl (kt _ _ aa (Nat.pow_lt_pow_right (a:=2) (n:=63) c8 aa))) ?_;refine ag (ad.gX rfl rfl rfl rfl rfl aa) ?_;apply ai.gb rfl rfl rfl rfl rfl rfl rfl rfl rfl rfl
      (case hu=>repeat (first | exact bG.head _ _ _ | apply bG.tail));(case hfit=>simp[yk];omega);(case hds=>exact (ints_set Fa _).trans E6)
      refine aP ?_;exact aU (⟨j+1,rfl,rfl,dz⟩)
     ·obtain rfl:j=kinds.length:=by omega
      rw[IL];refine aS ?_;exact aZ.mH (H:=[.au hk 4 [.b true],.au gK 23 [fA cR kinds.length],e1 cR (hl (A++[x]) kinds.length),.own 23 1 v2,.own 3 1 v1]) kD (by rw[xh (q:=(λl=>(cX p t l M.fact).1)) ak, <-DQ,show (!(A++[x]).isEmpty)=true by simp])
   ·intro oC H1 eF;obtain rfl:=eF;have adg:(eb kinds).filter (λl=>(cX p t l M.fact).1)=hd p t M.fact kinds:=rfl;rw[adg];refine aP ?_;refine bc (λbo=>?_) (λbo=>?_)
    ·have df:hd p t M.fact kinds≠ []:=λe=>by rw[e] at bo;simp at bo
     obtain⟨G,fb⟩:∃G,G=hl (hd p t M.fact kinds) kinds.length:=⟨_,rfl⟩;rw[<-fb] at IY ⊢;rw[DO cR gK G 0];refine aA.perm (H':=.au cR 3 ((G.map λx=>[ab.i x]).flatten++[])::.au gK 23 ([]++fA cR kinds.length::[])::(.au hk 4 [.b (!(hd p t M.fact kinds).isEmpty)]::.own 23 1 v2::.own 3 1 v1::(gY (oC::pq)++H))) (((List.Perm.swap _ _ _).trans (.cons _ (.swap _ _ _))).trans (.swap _ _ _)) ?_;refine aA.M1 (k:=1) (by rw[List.length_map,fb];simp[hl]) (λe he=>by obtain⟨y,_,rfl⟩:=List.mem_map.1 he;rfl) (Nat.le_refl _) ia ?_;refine eB 10 ?_;refine aA.cu mixed ?_;refine bW.sd (X:=ob) [⟨3,63,false⟩] (λJ=>match J with | [some a]=>.au hk 4 [.b (!(hd p t M.fact kinds).isEmpty)]::.own 23 1 v2::.own 3 1 a::(gY (oC::pq)++H) | _=>.au hk 4 [.b (!(hd p t M.fact kinds).isEmpty)]::.own 23 1 v2::.own 3 1 v1::(gY (oC::pq)++H)) (λq J=>match q,J with | 0,[some a]=>.as (.aj 1 (((h8 p t gen kinds m).map (·.1)).map (λn=>[ab.i n])++[[.i (m:Int)]])) a | _,_=>.any) 0 7 71 rfl ao ao rfl rfl ao rfl (λ_ _ _ _ _ _ _ _ _ h=>h.elim) ?_;refine cn [[false]] ⟨λf=>ad.move rfl rfl rfl,trivial⟩ ?_;refine cn [[false]] ⟨λf=>ad.move rfl rfl rfl,trivial⟩ ?_;refine cn [[false]] ⟨λf=>ad.row (els:=[[.i (m:Int)]]) rfl rfl cD rfl rfl rfl rfl rfl rfl,trivial⟩ ?_;refine cN.kg 0 [[false]] rfl rfl rfl ao rfl rfl rfl ⟨λf=>⟨ee.own (news:=[[.i (m:Int)]]) rfl rfl rfl (aq.refl _) rfl rfl (aq.refl _) rfl s3 s3 (λ_=>dt) (λ_=>rfl),hL⟩,trivial⟩ ?_;refine cn [[true],[false]] ⟨λf=>ad.move rfl rfl rfl,λf=>ad.move rfl rfl rfl,trivial⟩ ?_;refine cn [[true],[false]] ⟨λf=>cP,λf=>cP,trivial⟩ ?_;refine cn [[true],[false]] ⟨λf=>ad.row (els:=[[ab.ints G]]) rfl rfl cD rfl rfl rfl rfl rfl rfl,λf=>ad.row (els:=[[ab.ints G]]) rfl rfl cD rfl rfl rfl rfl rfl rfl,trivial⟩ ?_;refine cN.nil (λf=>?_);simp only[kN,List.map_cons,List.map_nil,List.cons_append,List.nil_append];refine aR ?_;refine ai.dJ rfl rfl rfl rfl rfl rfl rfl rfl (aq.refl _) (rfl) (λ_=>dt) s3 s3 (λxE=>?_);refine a8 ?_;refine aZ.oi (oC::pq) (⟨m+1,f 63,xE,by rw[IY ae df,IU,IV],rfl,lk⟩) ?_ ?_ ?_
     ·omega
     ·repeat (first | exact trivial | refine⟨rfl,?_⟩)
     ·repeat (first | exact List.Sublist.refl _ | apply List.Sublist.cons_cons | refine List.Sublist.cons _ ?_)
    ·have df:hd p t M.fact kinds= []:=by simpa using bo
     refine aP ?_;refine aZ.oi (oC::pq) (⟨m+1,v1,v2,by rw[Q5 df],rfl,lk⟩) ?_ ?_ ?_
     ·omega
     ·repeat (first | exact trivial | refine⟨rfl,?_⟩)
     ·repeat (first | exact List.Sublist.refl _ | apply List.Sublist.cons_cons | refine List.Sublist.cons _ ?_)
   ·intro oC Q6 pre H1 l5 As;exact As.elim
 ·obtain rfl:m=p.methods.length:=by omega
  refine c6 ?_;refine aZ.ld pq ([]) H (rs:=[.tmp 6,.tmp 7]) (H':=H) rfl gE (.tmp rfl (.tmp rfl (.nil))) (.cons (aq.eY _ _) (.cons (aq.eY _ _) .nil)) bE ?_;exact⟨cM,rfl⟩
def sB(p:Prog)(t:cv)(gen:Int)(kinds:al):Bool:=ij p t && ll p gen && ((kinds.length:Int)==gg p gen) && kinds.all (cq (aG p))
def vB(p:Prog)(t:cv)(gen:Int)(kinds:al):ab:=if sB p t gen kinds then .bj [ab.ints ((eK p t gen kinds).map (·.1)),ab.bp ((eK p t gen kinds).map (·.2)),.i 0] else .bj [ab.ints [],ab.bp [],.i 2]
def DS{t}{gen}(h:sB p t gen kinds=false):vB p t gen kinds= .bj [.ints [],.bp [],.i 2]:=if_neg (by rw[h];decide)
def I1(f:(bu p).isSome){gen}(a:ll p gen):gg p gen<=3:=by
 obtain⟨o,c⟩:=Option.isSome_iff_exists.1 f;simp[ll,Bool.and_eq_true,decide_eq_true_eq] at a;exact (sj (jf c).2.2.1 (bH (l:=p.c2) (k:=gen.toNat) aa)).2
def adh{gen}(kinds:al):(bif bif bif !true then true else decide (gen<0) then true else decide (gen>=(p.c2.length:Int)) then true else (kinds.length:Int) !=p.c2.getD gen.toNat default)= !(ll p gen && ((kinds.length:Int)==gg p gen)):=by
 unfold ll gg;rw[bne,show decide (gen<0)= !decide (gen>=0) by rw[Bool.eq_iff_iff];simp,show decide (gen>=(p.c2.length:Int))= !decide (gen<(p.c2.length:Int)) by rw[Bool.eq_iff_iff];simp];cases decide (gen>=0) <;> cases decide (gen<(p.c2.length:Int)) <;> rfl
def U0(p){n}(h:(!bif bif !true then true else decide (n<0) then true else decide (n>=(p.c2.length:Int)))=true):ll p n=true:=by
 unfold ll;simp at h ⊢;omega
def adi(c:(bu p).isSome)(t)(k):aI prog 52 [.i k,.ptr [ab.ew p t]] (.b (cq (aG p) k)):=by
 intro H;refine aM func52 λB I g=>?_;have h:=mm c;have a:=qx p;refine bA ?_;refine gw (λav=>.div rfl rfl rfl (cf av) rfl aa (.inr zz)) ?_;refine a8 ?_;refine gw (λav=>.shift rfl rfl rfl rfl (cf av) aa (ml _ ⟨aa,aa⟩)) ?_;refine ay ?_;refine aB 3 H ?_;exact⟨bn (by rw[a];exact Ir k),rfl⟩
def adj(f:p.Small){t}(c:(bu p).isSome=false)(gen)(kinds):aI prog 28 [ab.prog p,ab.dI t,.i gen,.ints kinds] (vB p t gen kinds):=by
 intro H;refine aM func28 λB I h=>?_;have a:sB p t gen kinds=false:=by unfold sB ij;rw[c];rfl
 refine di ?_;refine ag (.call .k (DH f t c)) ?_;refine aH ?_;refine bT (λdN=>?_);refine ay ?_;refine eB 11 ?_;refine iY ?_;refine gw (λav=>we) ?_;refine aS ?_;refine bc (λaf=>?_) λaf=>?_
 ·refine a8 ?_;refine .cl (rs:=[.tmp 8,.tmp 9,.tmp 10]) (H':=H) rfl CP CO bE ?_;exact⟨by rw[DS a];rfl,rfl⟩
 ·simp at af
def adk(f:p.Small){t}(c:(bu p).isSome)(ht:h5 p t=false)(gen)(kinds):aI prog 28 [ab.prog p,ab.dI t,.i gen,.ints kinds] (vB p t gen kinds):=by
 intro H;refine aM func28 λB I h=>?_;have a:sB p t gen kinds=false:=by unfold sB ij;rw[ht,Bool.and_false];rfl
 refine di ?_;refine ag (.call .k (DI f c ht)) ?_;refine aH ?_;refine bT (λdN=>?_);refine ay ?_;refine eB 11 ?_;refine iY ?_;refine gw (λav=>we) ?_;refine aS ?_;refine bc (λaf=>?_) λaf=>?_
 ·refine a8 ?_;refine .cl (rs:=[.tmp 8,.tmp 9,.tmp 10]) (H':=H) rfl CP CO bE ?_;exact⟨by rw[DS a];rfl,rfl⟩
 ·simp at af
def adl(m:p.Small){t}(c:(bu p).isSome)(ht:h5 p t)(gen)(kinds):aI prog 28 [ab.prog p,ab.dI t,.i gen,.ints kinds] (vB p t gen kinds):=by
 intro H;refine aM func28 λB I r=>?_;obtain⟨o,h,_⟩:=DJ ht;have f:sB p t gen kinds=(ll p gen && ((kinds.length:Int)==gg p gen) && kinds.all (cq (aG p))):=by unfold sB ij;rw[c,ht];rfl
 refine di ?_;refine ag (.call .k (Iy m c ht)) ?_;refine aH ?_;refine bT (λdN=>?_);refine ay ?_;refine eB 11 ?_;refine iY ?_;refine gw (λav=>(by first | exact .fC rfl rfl (cf av) rfl (cf av) ⟨BH,BH⟩ | exact .ep rfl rfl (cf av) rfl (cf av) ⟨BH,BH⟩)) ?_;refine aS ?_;rw[adh];refine bc (λaf=>?_) λaf=>?_
 ·rw[Bool.not_eq_true'] at af;refine a8 ?_;refine .cl (rs:=[.tmp 8,.tmp 9,.tmp 10]) (H':=H) rfl CP CO bE ?_;exact⟨by rw[DS (by rw[f,af];rfl)];rfl,rfl⟩
 ·rw[Bool.not_eq_false'] at af;rw[af,Bool.true_and] at f;rw[Bool.and_eq_true,beq_iff_eq] at af;obtain⟨l,j⟩:=af;have q:=I1 c l;refine aP ?_;refine ag (.call .k (Aq (.of (adi c t)) _)) ?_;refine aH ?_;refine bc (λae=>?_) λae=>?_
  ·have ae:kinds.all (cq (aG p))=false:=by simpa using ae
   refine a8 ?_;refine .cl (rs:=[.tmp 8,.tmp 9,.tmp 10]) (H':=H) rfl CP CO bE ?_;exact⟨by rw[DS (by rw[f,ae])];rfl,rfl⟩
  ·have ae:kinds.all (cq (aG p))=true:=by simpa using ae
   rw[ae] at f;refine aP ?_;refine ag (.call .k (adb c o h (List.all_eq_true.1 ae) j aa)) ?_;refine gv ?_;refine dM [.tmp 8,.tmp 9,.tmp 10] H ?_;exact⟨by rw[vB,if_pos f];rfl,rfl⟩
def adm(a:p.Small)(t)(gen)(kinds):aI prog 28 [ab.prog p,ab.dI t,.i gen,.ints kinds] (vB p t gen kinds):=by
 cases aD:(bu p).isSome with
 | false=>exact adj a aD gen kinds
 | true=>
  cases ht:h5 p t with
  | false=>exact adk a aD ht gen kinds
  | true=>exact adl a aD ht gen kinds
def nJ(k:Int)(l:al):List al:=(fP k.toNat).map λ(c:Nat)=>l++[(c:Int)]
def hq(kinds:al):Nat->List al
 | 0=>[[]]
 | i+1=>(hq kinds i).flatMap (nJ (kinds.getD i default))
theorem Q7{kinds}:∀{i:Nat},i<=kinds.length->(hq kinds i).flatMap (λq=>(eb (kinds.drop i)).map λl=>q++l)=eb kinds
 | 0,_=>by simp[hq]
 | i+1,h=>by
  refine Eq.trans ?_ (Q7 (i:=i) aa);rw[hq,List.flatMap_assoc];congr 1;funext q;have e:kinds.drop i=kinds.getD i default::kinds.drop (i+1):=by
   rw[List.drop_eq_getElem_cons aa,List.getD_eq_getElem?_getD,List.getElem?_eq_getElem aa];rfl
  rw[e,eb,List.map_flatMap,nJ,List.flatMap_map];congr 1;funext c;rw[List.map_map];congr 1;funext l;simp
def adn(kinds):hq kinds kinds.length=eb kinds:=by
 have:=Q7 (kinds:=kinds) (i:=kinds.length) ft;rw[<-this,List.drop_length];simp[eb]
def Q8(k):(fP k).length<=62:=by
 have:=List.length_filter_le k.testBit (List.range 62);rwa [List.length_range] at this
theorem Q9(kinds):∀i,(hq kinds i).length<=62^i
 | 0=>by simp[hq]
 | i+1=>by
  rw[hq,List.length_flatMap];have f:∀(L:List al),(L.map λa=>(nJ (kinds.getD i default) a).length).sum<=L.length*62:=by
   intro L
   induction L with
   | nil=>simp
   | cons x r g=>
    rw[List.map_cons,List.sum_cons,List.length_cons];have:(nJ (kinds.getD i default) x).length<=62:=by rw[nJ,List.length_map];exact Q8 _
    omega
  have:=f (hq kinds i);have c:=Q9 kinds i;rw[Nat.pow_succ];have:=Nat.mul_le_mul_right 62 c;omega
def ado{F:al->List al}(h:k<L.length):(L.take (k+1)).flatMap F=(L.take k).flatMap F++F (L.getD k default):=by
 rw[<-c3 h,List.flatMap_append];simp
def UQ{x}(h:L.length<=n):((L.take k).flatMap (nJ x)).length<=n*62:=by
 rw[List.length_flatMap];have f:∀(L:List al),(L.map λa=>(nJ x a).length).sum<=L.length*62:=by
  intro L
  induction L with
  | nil=>simp
  | cons y r j=>
   rw[List.map_cons,List.sum_cons,List.length_cons];have:(nJ x y).length<=62:=by rw[nJ,List.length_map];exact Q8 _
   omega
 have g:=f (L.take k);have c:(L.take k).length<=n:=by rw[List.length_take];omega
 have:=Nat.mul_le_mul_right 62 c;omega
def adp{k c}(h:k.testBit c=true)(l)(X):ab.bp (X++(eP k (c+1)).map λ(d:Nat)=>l++[(d:Int)])= .aj 1 ((X++(eP k c).map λ(d:Nat)=>l++[(d:Int)]).map (λn=>[.ints n])++[[.ints (l++[(c:Int)])]]):=by
 rw[Ar h,List.map_append, <-List.append_assoc];show ab.aj 1 (List.map _ (_++_))=_;rw[List.map_append];rfl
def UR(k n)(h:n<=62):(eP k n).length<=62:=by
 have:=List.length_filter_le k.testBit (List.range n);rw[List.length_range] at this;unfold eP;omega
def Ra(G:(bu p).isSome){kinds}(J:∀k∈kinds,cq (aG p) k=true)(O:kinds.length<=3):aI prog 121 [.ints kinds] (.bp (eb kinds)):=by
 intro H;refine aM func121 λB I U=>?_;have E:=mm G;have R:=oA G;refine aP ?_;refine ag ie ?_;refine bQ ?_;refine .le 3 (y:=.bp (hq kinds 0)) rfl (.aj (.cons tA .nil)) ?_;refine bm (λq t=>∃i:Nat,t=⟨[(4,.i i),(3,.bp (hq kinds i)),(0,.ints kinds)],H⟩/\q=kinds.length - i/\i<=kinds.length) tz ?_;rintro q _ ⟨i,rfl,rfl,T⟩;refine a8 ?_;refine az (λaf=>?_) λaf=>?_
 ·have s:i<kinds.length:=by omega
  obtain⟨a,r,f⟩:=sx (J _ (bH s));obtain⟨eL,B⟩:∃eL,eL=(kinds.getD i default).toNat:=iZ;rw[<-B] at a r f;have yj:(hq kinds i).length<=4000000:=Nat.le_trans (Q9 kinds i) (Nat.le_trans (Nat.pow_le_pow_right c8 (show i<=3 by omega)) c8);have w:hq kinds (i+1)=(hq kinds i).flatMap (nJ (eL:Int)):=by rw[hq, <-a]
  refine iB ?_;refine hi 5 23 1 ?_;refine bm (λq t=>∃(k:Nat) (v:Value),t=⟨[(6,.i k),(5,.as (.bp (((hq kinds i).take k).flatMap (nJ (eL:Int)))) v),(4,.i i),(3,.bp (hq kinds i)),(0,.ints kinds)],.own 23 1 v::H⟩/\q=(hq kinds i).length - k/\k<=(hq kinds i).length) (⟨0,_,rfl,rfl,aa⟩) ?_;rintro q _ ⟨k,v,rfl,rfl,Q⟩;refine a8 ?_;refine az (λae=>?_) λae=>?_
  ·have g:k<(hq kinds i).length:=by omega
   obtain⟨l,D⟩:∃l,l=(hq kinds i).getD k default:=iZ;have o:=ado (F:=nJ (eL:Int)) g;rw[<-D] at o;have N:l.length<=1000:=by
    have:∀j,∀y∈hq kinds j,y.length=j:=by
     intro j
     induction j with
     | zero=>intro y m;simp[hq] at m;rw[m];rfl
     | succ j M=>
      intro y m;rw[hq,List.mem_flatMap] at m;obtain⟨z,C,A⟩:=m;obtain⟨c,_,rfl⟩:=List.mem_map.1 A;rw[List.length_append,M z C];rfl
    have:=this i l (D▸bH g);omega
   refine bQ ?_;refine bm (λq t=>∃(c:Nat) (v:Value),t=⟨[(7,.i c),(6,.i k),(5,.as (.bp (((hq kinds i).take k).flatMap (nJ (eL:Int))++(eP eL c).map λ(d:Nat)=>l++[(d:Int)])) v),(4,.i i),(3,.bp (hq kinds i)),(0,.ints kinds)],.own 23 1 v::H⟩/\q=40 - c/\1<=c/\c<=40) ⟨1,v,by rw[IC f,List.map_nil,List.append_nil],rfl,aa,aa⟩ ?_;rintro q _ ⟨c,v,rfl,rfl,P,V⟩;refine aP ?_;refine az (λak=>?_) λak=>?_
   ·have h:c<40:=by omega
    refine a8 ?_;refine ag (.le uX (.b6 a)) ?_;refine aR ?_;refine ag (.call .k (p9 eL c aa)) ?_;refine aQ ?_;refine bc (λaL=>?_) λaL=>?_
    ·refine aQ ?_;refine .y2 rfl rfl rfl rfl λPZ=>?_;refine aH ?_;refine ag (.le uX (by rw[<-D];exact .refl _)) ?_;refine .dJ rfl rfl rfl rfl rfl rfl rfl rfl gx (si _) (λ_=>dt) Bq Bq λv37=>?_;refine aR ?_;refine .cc (x:=.aj 1 [[.i (c:Int)]]) rfl rfl rfl ie ?_;refine ai.dJ rfl rfl rfl rfl rfl rfl rfl rfl (aq.refl _) (rfl) (λ_=>dt) Bq Bq λv40=>?_;refine .le 40 (y:=.ints (l++[(c:Int)])) rfl (by rw[show ab.ints (l++[(c:Int)])= .aj 1 ([]++l.map (λn=>[.i n])++[[.i (c:Int)]]) by show ab.aj 1 (List.map _ _)=_;rw[List.map_append];rfl];exact aq.eY _ _) ?_;refine ai.cc (x:=.aj 1 [[ab.ints (l++[(c:Int)])]]) rfl rfl rfl (ad.row rfl rfl cD rfl rfl rfl rfl rfl rfl) ?_;refine ai.dJ rfl rfl rfl rfl rfl rfl rfl rfl (aq.refl _) (rfl) (λ_=>dt) KN KN (λAc=>?_);refine a8 ?_;exact aU (⟨c+1,Ac,by rw[adp aL],rfl,aa,h⟩)
    ·refine aJ ?_;exact aU (⟨c+1,v,by rw[ID aL],rfl,aa,h⟩)
   ·obtain rfl:c=40:=by omega
    rw[Ak (k:=eL) (n:=40) (by have:2^aG p<=2^40:=Nat.pow_le_pow_right c8 aa;omega) c8,show (fP eL).map (λ(d:Nat)=>l++[(d:Int)])=nJ (eL:Int) l from rfl, <-o];refine bA ?_;exact aU (⟨k+1,v,rfl,rfl,g⟩)
  ·obtain rfl:k=(hq kinds i).length:=by omega
   rw[List.take_length, <-w];refine aS ?_;refine aA.le 5 (y:=ab.bp (hq kinds (i+1))) rfl (aq.eY _ _) ?_;refine bA ?_;exact aU (⟨i+1,rfl,rfl,s⟩)
 ·obtain rfl:i=kinds.length:=by omega
  rw[adn];refine bS ?_;refine aB 2 (H) ?_;exact⟨cM,rfl⟩
end Go.Proofs.YtodccgailpkgeaaGreat

namespace Go.Eng.dO
open Go.Eng.Fc
variable{p:Prog}{next:Bool}{a b c:al}
abbrev ji(p:Prog)(n:Int):gR:=p.nodes.getD n.toNat default
def h9(p:Prog)(next:Bool):Nat->Int->Int->Prop
 | 0,_,_=>False
 | f+1,n,bs=>(0<=n/\n<p.nodes.length)/\pZ p next (ji p n) bs=true/\∀i,i<(ji p n).kids.length->h9 p next f ((ji p n).kids.getD i default) (if(ji p n).op=9/\i=1 then bs+1 else bs)
def Seen(p:Prog)(next:Bool)(out o:al):Prop:=∀j,o.getD j default≠out.getD j default->∃f n bs,n.toNat=j/\h9 p next f n bs
def Seen.refl(o):Seen p next o o:=λj h=>absurd rfl h
def Seen.trans(g:Seen p next a b)(f:Seen p next b c):Seen p next a c:=λj h=>by
 by_cases e:b.getD j default=a.getD j default
 ·exact f j (by rw[e];exact h)
 ·exact g j e
theorem Rb(x)(op):∀(l:al) (j i:Nat),i<l.length->gV x op (j+i) (l.getD i default)∈hE x op j l
 | [],j,i,h=>by simp at h
 | k::r,j,0,h=>by rw[hE];exact .head _
 | k::r,j,i+1,h=>by
  rw[hE];have:=Rb x op r (j+1) i gU;rw[show j+1+i=j+(i+1) by omega] at this;exact .tail _ this
theorem Rc{p}{next}{f}(m:∀x a o,(visit p next f x a).2=some o->h9 p next f x.n x.bs/\Seen p next a o):∀(l:List dC) (a o:al),(eT (visit p next f) l a).2=some o->(∀y∈l,h9 p next f y.n y.bs)/\Seen p next a o
 | [],a,o,h=>by
  simp[eT,Option.some.injEq] at h;subst h;exact⟨λy c=>by(cases c),Seen.refl _⟩
 | y::r,a,o,h=>by
  simp[eT] at h;rcases c:visit p next f y a with⟨A,_ | j⟩
  ·rw[c] at h;simp at h
  ·rw[c] at h;simp only at h;obtain⟨t,s⟩:=m y a j (by rw[c]);obtain⟨v,w⟩:=Rc m r j o h;refine⟨λz g=>?_,s.trans w⟩;rcases List.mem_cons.1 g with rfl | g
   ·exact t
   ·exact v z g
theorem I2{p}{next}:∀(f:Nat) (x:dC) (a o:al),(visit p next f x a).2=some o->h9 p next f x.n x.bs/\Seen p next a o
 | 0,x,a,o,h=>by simp[visit] at h
 | f+1,x,a,o,h=>by
  rw[visit] at h;split at h
  ·rename_i c;obtain⟨r,q⟩:=Rc (I2 f) _ _ _ h;rw[fe,Bool.and_eq_true] at c;have g:=c.1;simp[mQ,Bool.and_eq_true,decide_eq_true_eq] at g;have l:h9 p next (f+1) x.n x.bs:=⟨⟨g.1.1.1,g.1.1.2⟩,c.2,λi s=>by
    have:=r _ (Rb x (fu p x).op (fu p x).kids 0 i s);rw[Nat.zero_add] at this;exact this⟩
   refine⟨l,Seen.trans (λj t=>?_) q⟩;by_cases e:x.n.toNat=j
   ·exact⟨_,_,_,e,l⟩
   ·exfalso;apply t;rw[iM,List.getD_eq_getElem?_getD,List.getElem?_set,if_neg e, <-List.getD_eq_getElem?_getD]
  ·cases h
def xF(p:Prog)(out o:al):Prop:=∀j,o.getD j default≠out.getD j default->∃next f n bs,n.toNat=j/\h9 p next f n bs
def Seen.any(h:Seen p next a b):xF p a b:=λj c=>⟨next,h j c⟩
def xF.trans(g:xF p a b)(f:xF p b c):xF p a c:=λj h=>by
 by_cases e:b.getD j default=a.getD j default
 ·exact f j (by rw[e];exact h)
 ·exact g j e
theorem Re{p}:∀(l:List hC) (a o:al),hb p l a=some o->(∀m∈l,h9 p (lh m) 13 m.node (p.c2.getD m.gen.toNat default))/\xF p a o
 | [],a,o,h=>by
  rw[hb] at h;cases h;exact⟨λy A=>by(cases A),(Seen.refl (next:=false) _).any⟩
 | m::r,a,o,h=>by
  rw[hb] at h;split at h
  ·cases bd:(visit p (lh m) 13 (mE p m) a).2 with
   | none=>rw[bd] at h;cases h
   | some s=>
    rw[bd] at h;obtain⟨v,t⟩:=I2 13 _ _ _ bd;obtain⟨w,x⟩:=Re r s o h;refine⟨λz c=>?_,t.any.trans x⟩;rcases List.mem_cons.1 c with rfl | c
    ·exact v
    ·exact w z c
  ·cases h
def sC(D:(bu p).isSome):(∀m∈p.methods,h9 p (lh m) 13 m.node (p.c2.getD m.gen.toNat default))/\h9 p false 13 p.main 0/\∀n,n<p.nodes.length->∃next f q,h9 p next f (n:Int) q:=by
 obtain⟨o,w⟩:=Option.isSome_iff_exists.1 D;obtain⟨_,_,_,K,J,E,x⟩:=jf w;obtain⟨F,A⟩:=Re _ _ _ J;obtain⟨B,G⟩:=I2 13 _ _ _ E;refine⟨F,B,λn C=>?_⟩;have L:=(sk w).1;have j:o.getD n default≠(je p).getD n default:=by
  have e:(je p).getD n default= -1:=by simp[je,C]
  rw[e];intro h;have c:o.getD n default∈o:=bH aa;rw[h] at c;rw[List.contains_eq_mem,decide_eq_false_iff_not] at x;exact x c
 obtain⟨next,f,m,q,I,s⟩:=(A.trans G.any) n j;have r:m=(n:Int):=by
  cases f with
  | zero=>exact s.elim
  | succ f=>have:=s.1.1;omega
 subst r;exact⟨next,f,q,s⟩
section
variable{p:Prog}{next:Bool}{f:Nat}{n bs:Int}
def tW(h:h9 p next f n bs):0<=n/\n<p.nodes.length:=by
 cases f with
 | zero=>exact h.elim
 | succ f=>exact h.1
def Rf(h:h9 p next f n bs):pZ p next (ji p n) bs=true:=by
 cases f with
 | zero=>exact h.elim
 | succ f=>exact h.2.1
def Au(h:h9 p next f n bs):∀k∈(ji p n).kids,0<=k/\k<p.nodes.length:=by
 cases f with
 | zero=>exact h.elim
 | succ f=>
  intro k c;obtain⟨i,a,rfl⟩:=List.getElem_of_mem c;have:=tW (h.2.2 i a);rwa [List.getD_eq_getElem?_getD,List.getElem?_eq_getElem a] at this
def DT(h:h9 p next f n bs):(iw (ji p n).op=some none->((ji p n).kids.length:Int)=p.c2.getD (ji p n).n.toNat default)/\∀k,iw (ji p n).op=some (some k)->(ji p n).kids.length=k:=by
 have a:=Rf h;simp only[pZ,Bool.and_eq_true] at a;refine⟨λe=>?_,λk e=>?_⟩
 ·have:=a.2;rw[e] at this;simpa using this
 ·have:=a.2;rw[e] at this;simpa using this
def xG(h:h9 p next f n bs):fW p (ji p n) bs=true/\iw (ji p n).op≠none/\((ji p n).op=18->next=true):=by
 have a:=Rf h;simp only[pZ,Bool.and_eq_true] at a;refine⟨a.1.1,λe=>?_,λe=>?_⟩
 ·have:=a.2;rw[e] at this;cases this
 ·have:=a.1.2;rw[e] at this;simpa using this
end
def qb(p:Prog)(t:cv)(gen:Int)(l:al):Bool:=p.methods.any λM=>M.gen==gen && M.kind==1 && cX p t l M.fact==(true,false)
def xH(p:Prog)(t:cv)(gen:Int)(kinds:al):Bool:=(eb kinds).all (qb p t gen)
def il(t:cv)(y:gR):al:=y.kids.map λk=>t.nodes.getD k.toNat default
def iP(p:Prog)(t:cv)(y:gR):Bool:=
 if y.op=4\/y.op=7 then (fP ((il t y).getD 0 default).toNat).all (λc=>dK p c y.n)
 else if y.op=8 then decide (((il t y).getD 0 default).toNat &&& 6=0)
 else if y.op=5 then xH p t y.n (il t y) else true
def DU(p:Prog)(t:cv):cY:=p.nodes.map (iP p t)
def adq(k:Nat):decide (k &&& 6=0)=(!k.testBit 1 && !k.testBit 2):=by
 have h:∀i,(k &&& 6).testBit i=(k.testBit i && (i==1 || i==2)):=λi=>by
  rw[Nat.testBit_and];congr 1
  match i with
  | 0=>rfl
  | 1=>rfl
  | 2=>rfl
  | i+3=>
   have:Nat.testBit 6 (i+3)=false:=Nat.testBit_lt_two_pow (Nat.lt_of_lt_of_le (by decide:6<2^3) (Nat.pow_le_pow_right c8 aa));rw[this];simp
 rw[Bool.eq_iff_iff,decide_eq_true_eq];constructor
 ·intro e;have ae:=h 1;have ak:=h 2;rw[e] at ae ak;simp at ae ak;simp[ae,ak]
 ·intro e;simp only[Bool.and_eq_true,Bool.not_eq_true'] at e;refine Nat.eq_of_testBit_eq λi=>?_;rw[h i,Nat.zero_testBit];by_cases ae:i=1
  ·subst ae;rw[e.1];rfl
  ·by_cases ak:i=2
   ·subst ak;rw[e.2];rfl
   ·simp[ae,ak]
end Go.Eng.dO

namespace Go.Proofs.YtodccgailpkgeaaGreat
open Go.Proofs.Tryz
open Go.Eng
open Go.Eng.Fc
open Go.Eng.dO
variable{f:Fn}{cA cs:bl}{iH:aC}{p:Prog}{l:List hC}{t:cv}{α:Type}{y:gR}{k c:Nat}
def adr{B}{F}{J Jx}(l)(h:uJ B prog (.fn f cA cs) (λM:hC=>.agg (eS M)) l F J Jx)(H Hx)(hF:F Hx)(o:J [] H):
  eM B prog 118 [.aj 9 (l.map eS),.fn f cA cs] (H++Hx) (wM J Jx l Hx) (λ_ _=>False):=by
 refine .of func118 rfl ax rfl rfl λI r=>?_;refine .ez (t:=0) rfl λgP=>?_;refine c6 ?_;refine bm (λm j=>∃(k:Nat) (c:aC),j=⟨[(8,.i k),(7,.i l.length),(0,.aj 9 (l.map eS)),(1,.fn f cA cs)],c++Hx⟩/\m=l.length - k/\k<=l.length/\J (l.take k) c) ⟨0,H,rfl,rfl,aT,o⟩ ?_;rintro m _ ⟨k,c,rfl,rfl,q,kE⟩;refine ay ?_;refine az (λaf=>?_) λaf=>?_
 ·refine gv ?_;refine .oa rfl rfl rfl rfl rfl rfl rfl rfl cL (h (l.take k) (l.getD k default) c Hx Bz hF kE) ?_;rintro _ _ ⟨b,g,rfl,rfl,a,qC⟩;rw[c3 aa] at a qC;refine aQ ?_;refine az (λae=>?_) λae=>?_
  ·refine bS ?_;refine .cl (rs:=[.tmp 4]) rfl eR cL bE ?_;exact⟨g,rfl,.inr ⟨l.take k,l.getD k default,l.drop (k+1),Dg aa,fJ BB,BG⟩⟩
  ·refine aP ?_;exact aU ⟨k+1,g,rfl,rfl,aa,a ae⟩
 ·refine bA ?_;refine .cl (rs:=[.tmp 4]) rfl eR cL bE ?_;exact⟨c,rfl,.inl ⟨rfl,Bu⟩⟩
def ads{p}(a:nu prog iH (.fn f cA cs) (λM:hC=>.agg (eS M)) l p):y0 prog iH 118 [.aj 9 (l.map eS),.fn f cA cs] (λy=>∃n:Int,y= .i n/\decide (n>=0)=l.any p):=
 FZ ax (λB F J m h H g j c=>adr l h H g j c) a
def adt{p}(c:nu prog iH (.fn f cA cs) (λM:hC=>.agg (eS M)) l p):hS prog iH 80 [.aj 9 (l.map eS),.fn f cA cs] (.b (l.any p)):=by
 intro H h;refine aM func80 λB I j=>?_;refine a8 ?_;refine .Gc rfl rfl rfl .k (ads c) h λy a=>?_;obtain⟨n,rfl,g⟩:=a;refine aS ?_;refine aB 4 H ?_;exact⟨bn g,rfl⟩
def adu(x y):(tU x==tU y)=(x==y):=by
 obtain⟨a,b⟩:=x;obtain⟨c,d⟩:=y;cases a <;> cases b <;> cases c <;> cases d <;> rfl
def adv(h:(bu p).isSome)(q:ln p t)(a:(t.aw.length:Int)=p.aw){gen}{x:al}(l:x.length<=1000)(g:∀c∈x,1<=c/\c<aG p){b n:Nat}(hn:x.length=n)(M:hC)(j:M.gen=gen->ib p x M.fact):hS prog [e1 b x] 81 [.agg (eS M),.ptr [.i gen],.ptr [ab.ew p t],.ptr [fA b n]] (.b (M.gen==gen && M.kind==1 && cX p t x M.fact==(true,false))):=by
 intro H m;refine aM (n:=24) func81 λB I r=>?_;refine nz ?_;refine ai.cG rfl rfl rfl rfl rfl rfl (λav=>ad.qO (.mk' rfl rfl rfl rfl cU) (fq.outs (pre:=[ab.ew p t,ab.fact M.fact]) (post:=[]) (nb:=b) (o:=x) (m _ (.head _)) hn aa) (DE h q a g _ (j (by have f:=av;simp at f;exact f.1)))) ?_;refine gw (λav=>ad.call .k (CS true false)) ?_;refine ay ?_;refine aB 5 (H) ?_;exact⟨bn (by rw[adu];cases M.gen==gen <;> cases M.kind==1 <;> rfl),rfl⟩
def adw{q:α->Bool}{pre:List α}{x:α}(h:pre.all q=true)(aK:q x=true):(pre++[x]).all q=true:=by rw[List.all_append,h,List.all_cons,aK];rfl
def Rg{q:α->Bool}{l:List α}{x:α}(aK:x∈l)(h:q x=false):l.all q=false:=by
 rw[List.all_eq_false];exact⟨x,aK,wz⟩
def adx(G:(bu p).isSome)(X:ln p t)(K:(t.aw.length:Int)=p.aw){gen}{kinds}(N:∀k∈kinds,cq (aG p) k=true)(L:(kinds.length:Int)=gg p gen)(h:kinds.length<=1000):aI prog 39 [ab.ew p t,.i gen,.ints kinds] (.b (xH p t gen kinds)):=by
 intro H;refine .qK func39 rfl ax rfl rfl λB I bN=>?_;have C:=II G N;refine aV ?_;refine bT (λdg=>?_);refine ay ?_;refine ag (.call .k ((IG _))) ?_;refine aH ?_;refine .weaken (st':=⟨[(9,.fn (.func 116) [] [.ptr [.ints kinds]]),(3,.ptr [ab.ew p t]),(4,.ptr [.i gen]),(6,.p dg 0)],[.au dg 4 [.b false]]++(gY []++H)⟩) h1 gE ?_;refine .q3 [] (λb (_:al)=>fA b kinds.length) (λb x=>[e1 b x]) (eb kinds) (λpre H=>H= [.au dg 4 [.b false]]/\pre.all (qb p t gen)=true) (λcode _ H=>code= .ret/\H= [.au dg 4 [.b false]]/\xH p t gen kinds=false) ([.au dg 4 [.b false]]) H (λb x=>[(7,.ptr [fA b kinds.length]),(10,fA b kinds.length),(3,.ptr [ab.ew p t]),(4,.ptr [.i gen]),(6,.p dg 0)]) rfl rfl rfl rfl (IH _ C h) (zz) ?_ ?_ ?_ ?_
 ·intro V W U O x Y;refine aR ?_;refine bT (λgK=>?_);refine aQ ?_;exact λa w s=>⟨_,rfl,(s.nr (d:=7) rfl na).weaken xf xb⟩
 ·intro V q fD pre O x Q Y W U c D;obtain⟨rfl,v⟩:=D;have f:x∈eb kinds:=c.subset aT;obtain⟨g,a0⟩:=nd f;have r:=qa N f;have J:∀M∈p.methods,M.gen=gen->ib p x M.fact:=λM B T=>by
   obtain⟨j,Z,rfl⟩:=List.getElem_of_mem B;have F:iO p (j:Int)=true:=by unfold iO;simp;omega
   have e:p.methods.getD ((j:Int)).toNat default=p.methods[j]:=by rw[show ((j:Int)).toNat=j from rfl,List.getD_eq_getElem?_getD,List.getElem?_eq_getElem Z];rfl
   have P:=xD G F (l:=x) (by rw[g,L];unfold rL;rw[e,T]);rw[e] at P;exact P
  refine a8 ?_;refine ag (.h2 .k (c5.refl _) (adt (.of (λM B=>adv (b:=O) G X K (x:=x) aa r g M (J M B)))) (λe S=>by rw[List.mem_singleton] at S;subst S;simp[e1])) ?_;refine aH ?_;refine bc (λaf=>?_) λaf=>?_
  ·have af:qb p t gen x=false:=by unfold qb;simpa using af
   refine aP ?_;exact .FB (H:=[.au dg 4 [.b false]]) kD ⟨rfl,rfl,Rg f af⟩
  ·have af:qb p t gen x=true:=by unfold qb;simpa using af
   refine aQ ?_;exact .mH (H:=[.au dg 4 [.b false]]) kD ⟨rfl,adw v af⟩
 ·intro q Q D;obtain⟨rfl,v⟩:=D;refine aJ ?_;refine .ld (q::[]) ([.au dg 4 [.b true]]) H (rs:=[.cell 6 4]) (H':=H) rfl gE s5 cL bE ?_;exact⟨bn v.symm,rfl⟩
 ·intro q A pre Q c E;obtain⟨rfl,rfl,z⟩:=E
  ·refine aH ?_;refine .ld (q::[]) ([.au dg 4 [.b false]]) H (rs:=[.cell 6 4]) (H':=H) rfl gE s5 cL bE ?_;exact⟨bn z.symm,rfl⟩
def Rh(q:(bu p).isSome)(ht:h5 p t){i}(A:i<p.nodes.length){y}(hy:y=p.nodes.getD i default):
  (∀k∈y.kids,0<=k/\k<t.nodes.length)/\(∀k∈il t y,cq (aG p) k=true)/\(y.op=4\/y.op=7\/y.op=8->0<y.kids.length)/\(y.op=5->(y.kids.length:Int)=gg p y.n)/\y.kids.length<=3:=by
 obtain⟨next,f,D,m⟩:=(sC q).2.2 i A;have e:ji p (i:Int)=y:=by rw[hy];rfl
 have r:=Au m;obtain⟨j,c⟩:=DT m;obtain⟨a,g,_⟩:=xG m;rw[e] at r j c a g;simp only[h5,Bool.and_eq_true,decide_eq_true_eq] at ht;have z:=ht.1.1.1.1.2;have o:=List.all_eq_true.1 ht.1.2;have l:∀k∈y.kids,0<=k/\k<t.nodes.length:=λk h=>by have:=r k h;omega
 have s:y.op=5->(y.kids.length:Int)=gg p y.n:=λh=>j (by rw[h];rfl);refine⟨l,λk h=>?_,λh=>?_,s,?_⟩
 ·obtain⟨x,C,rfl⟩:=List.mem_map.1 h;have:=l x C;exact o _ nA
 ·rcases h with h | h | h
  ·have:=c 1 (by rw[h];rfl);omega
  ·have:=c 2 (by rw[h];rfl);omega
  ·have:=c 1 (by rw[h];rfl);omega
 ·by_cases h:y.op=5
  ·have v:ll p y.n=true:=by
    rw[fW,h] at a;simp[qw] at a;unfold ll;simp;omega
   have:=I1 q v;have:=s h;omega
  ·have B:∃k,k<=3/\iw y.op=some (some k):=by
    revert g;unfold iw;rw[if_neg h];split
    ·exact λ_=>⟨0,aa,rfl⟩
    ·split
     ·exact λ_=>⟨1,aa,rfl⟩
     ·split
      ·exact λ_=>⟨2,aa,rfl⟩
      ·split
       ·exact λ_=>⟨3,aa,rfl⟩
       ·exact λh=>absurd rfl h
   obtain⟨k,E,w⟩:=B;have:=c k w;omega
def Ri:il t y=(y.kids.take y.kids.length).map λk=>t.nodes.getD k.toNat default:=by rw[List.take_length];rfl
def Rj(t)(y):(il t y).length=y.kids.length:=List.length_map _
def Rk{j}(h:j<y.kids.length):ab.ints ((y.kids.take (j+1)).map λk=>t.nodes.getD k.toNat default)= .aj 1 ((((y.kids.take j).map λk=>t.nodes.getD k.toNat default).map λn=>[.i n])++[[.i (t.nodes.getD (y.kids.getD j default).toNat default)]]):=by
 rw[<-c3 h,List.map_append];show ab.aj 1 (List.map _ (_++_))=_;rw[List.map_append];rfl
def Rl{i}(h:i<p.nodes.length){b}(a:b=iP p t (p.nodes.getD i default)):ab.dy ((p.nodes.take (i+1)).map (iP p t))= .aj 1 ((((p.nodes.take i).map (iP p t)).map λb=>[.b b])++[[.b b]]):=by
 subst a;rw[<-c3 h,List.map_append];show ab.aj 1 (List.map _ (_++_))=_;rw[List.map_append];rfl
def I3(h:y.op=4\/y.op=7){k:Nat}(a:(il t y).getD 0 default=(k:Int)):(fP k).all (λc=>dK p c y.n)=iP p t y:=by
 rw[iP,if_pos h,a];rfl
def ady(h:y.op=8){k:Nat}(a:(il t y).getD 0 default=(k:Int)):(((k &&& 6:Nat):Int)==0)=iP p t y:=by
 rw[iP,if_neg aa,if_pos h,a,Bool.eq_iff_iff];simp
def Rm(h:y.op=5):xH p t y.n (il t y)=iP p t y:=by
 rw[iP,if_neg aa,if_neg aa,if_pos h]
def adz(f: ¬y.op=4)(g: ¬y.op=7)(c: ¬y.op=8)(a: ¬y.op=5):true=iP p t y:=by
 rw[iP,if_neg aa,if_neg c,if_neg a]
def adA(c:p.Small){t}(a:(bu p).isSome=false):aI prog 11 [ab.prog p,ab.dI t] (.bj [ab.dy [],.i 2]):=by
 intro H;refine aM func11 λB I g=>?_;refine bS ?_;refine ag (.call .k (DH c t a)) ?_;refine aH ?_;refine bT (λdN=>?_);refine ay ?_;refine eB 6 ?_;refine aS ?_;refine bc (λaf=>?_) λaf=>?_
 ·refine aJ ?_;refine .cl (rs:=[.tmp 4,.tmp 5]) (H':=H) rfl (.tmp rfl (.tmp rfl (.nil))) (.cons (aq.nil 1) (.cons (.refl _) .nil)) bE ?_;exact⟨cM,rfl⟩
 ·simp at af
def adB(c:p.Small){t}(a:(bu p).isSome)(ht:h5 p t=false):aI prog 11 [ab.prog p,ab.dI t] (.bj [ab.dy [],.i 2]):=by
 intro H;refine aM func11 λB I g=>?_;refine bS ?_;refine ag (.call .k (DI c a ht)) ?_;refine aH ?_;refine bT (λdN=>?_);refine ay ?_;refine eB 6 ?_;refine aS ?_;refine bc (λaf=>?_) λaf=>?_
 ·refine aJ ?_;refine .cl (rs:=[.tmp 4,.tmp 5]) (H':=H) rfl (.tmp rfl (.tmp rfl (.nil))) (.cons (aq.nil 1) (.cons (.refl _) .nil)) bE ?_;exact⟨cM,rfl⟩
 ·simp at af
def adC(bV:p.Small){t:cv}(aD:(bu p).isSome)(ht:h5 p t):aI prog 11 [ab.prog p,ab.dI t] (.bj [ab.dy (DU p t),.i 0]):=by
 intro H;refine bP.qK (n:=85) func11 rfl ax rfl rfl (λB I bN=>?_);obtain⟨b4,nG,_⟩:=DJ ht;have IX:=oA aD;have Av:p.nodes.length<=120:=by
  obtain⟨o,bb⟩:=Option.isSome_iff_exists.1 aD;exact (sk bb).2
 refine bS ?_;refine ag (ad.call .k (Iy bV aD ht)) ?_;refine aH ?_;refine ai.qL rfl rfl rfl rfl (λdN=>?_);refine ay ?_;refine aA.nr (d:=6) rfl na ?_;refine aS ?_;refine aA.cond rfl (λaf=>?_) (λaf=>?_)
 ·simp at af
 ·refine gv ?_;refine aA.oY 8 4 1 rfl ?_;refine aA.zw (λq st=>∃(i:Nat) (v1:Value),st=⟨[(27,.i i),(26,.i p.nodes.length),(25,.aj 3 (p.nodes.map hU)),(8,.as (ab.dy ((p.nodes.take i).map (iP p t))) v1),(6,.ptr [ab.ew p t]),(3,.ptr (jU t))],[.own 4 1 v1]⟩/\q=p.nodes.length - i/\i<=p.nodes.length) [] H ⟨_,_,⟨0,_,rfl,rfl,aa⟩,h1,gE⟩ ?_;intro pq;rintro q _ ⟨i,v1,rfl,rfl,aN⟩;refine ay ?_;refine az (λae=>?_) λae=>?_
  ·have bF:i<p.nodes.length:=by omega
   obtain⟨y,hy⟩:∃y,y=p.nodes.getD i default:=⟨_,rfl⟩;obtain⟨I4,mX,vC,I5,Aw⟩:=Rh aD ht bF hy;have mY:=λb ba=>Rl (p:=p) (t:=t) bF (b:=b) ba;rw[<-hy] at mY;refine aJ ?_;refine ai.qL rfl rfl rfl rfl (λxI=>?_);refine aV ?_;rw[<-hy];refine aA.nr (d:=10) rfl na ?_;refine c6 ?_;refine aA.oY 11 3 1 rfl ?_;refine aA.zw (λq st=>∃(j:Nat) (v2:Value),st=⟨[(34,.i j),(33,.i y.kids.length),(32,ab.ints y.kids),(11,.as (ab.ints ((y.kids.take j).map λk=>t.nodes.getD k.toNat default)) v2),(10,.ptr (hU y)),(27,.i i),(26,.i p.nodes.length),(25,.aj 3 (p.nodes.map hU)),(8,.as (ab.dy ((p.nodes.take i).map (iP p t))) v1),(6,.ptr [ab.ew p t]),(3,.ptr (jU t))],[.own 3 1 v2,.own 4 1 v1]⟩/\q=y.kids.length - j/\j<=y.kids.length) pq H ⟨_,_,⟨0,_,rfl,rfl,aa⟩,h1,gE⟩ ?_;intro rn;rintro q _ ⟨j,v2,rfl,rfl,cp⟩;refine ay ?_;refine az (λak=>?_) λak=>?_
   ·have dz:j<y.kids.length:=by omega
    have r8:=I4 _ (bH dz);refine iB ?_;refine ag (k1) ?_;refine aR ?_;refine ai.cc (x:=.aj 1 [[.i (t.nodes.getD (y.kids.getD j default).toNat default)]]) rfl rfl rfl (ad.row rfl rfl cD rfl rfl rfl rfl rfl rfl) ?_;refine ai.dJ rfl rfl rfl rfl rfl rfl rfl rfl (aq.refl _) (rfl) (λv=>by repeat (first | exact bG.head _ _ _ | apply bG.tail)) k2 k2 (λI6=>?_);refine aJ ?_;refine aZ.oi rn (⟨j+1,I6,by rw[Rk dz],rfl,dz⟩) ?_ ?_ ?_
    ·omega
    ·repeat (first | exact trivial | refine⟨rfl,?_⟩)
    ·repeat (first | exact List.Sublist.refl _ | apply List.Sublist.cons_cons | refine List.Sublist.cons _ ?_)
   ·obtain rfl:j=y.kids.length:=by omega
    rw[<-Ri];refine aA.le 11 (y:=ab.ints (il t y)) rfl (aq.eY _ _) ?_;have lU:=Rj t y;refine aP ?_;refine ai.qL rfl rfl rfl rfl (λtb=>?_);refine jR ?_;refine aA.cond rfl (λaL=>?_) (λaL=>?_)
    ·replace aL:=dA aL;have bo:y.op=4:=aL;refine aQ ?_;refine aA.cond rfl (λbo=>?_) (λbo=>?_)
     ·replace bo:=dA bo;have oy:y.op=4\/y.op=7:=.inl bo;have w2:=vC (.inl bo);obtain⟨mZ,lH,_⟩:=sx (mX _ (bH (l:=il t y) (k:=0) aa));obtain⟨ho,Ax⟩:∃ho,ho=((il t y).getD 0 default).toNat:=⟨_,rfl⟩;rw[<-Ax] at mZ lH;refine aV ?_;refine ag (ad.le (ad.cE rfl rfl rfl rfl) (aq.b6 mZ)) ?_;refine ag (ad.call .k ((zD _))) ?_;refine aH ?_;refine aA.weaken (st':=⟨[(55,.fn (.func 76) [] [.ptr [.i ho]]),(14,.p tb 0),(11,ab.ints (il t y)),(10,.ptr (hU y)),(27,.i i),(26,.i p.nodes.length),(25,.aj 3 (p.nodes.map hU)),(8,.as (ab.dy ((p.nodes.take i).map (iP p t))) v1),(6,.ptr [ab.ew p t]),(3,.ptr (jU t))],[.au tb 4 [.b true],.own 4 1 v1]++(gY rn++H)⟩) h1 gE ?_;refine aA.q3 rn (λ_ (c:Nat)=>.i c) (λ_ _=>[]) (fP ho) (λpre H=>H= [.au tb 4 [.b (pre.all λc=>dK p c y.n)],.own 4 1 v1]) (λ_ _ _=>False) ([.au tb 4 [.b true],.own 4 1 v1]) (H) (λ_ x=>[(15,.i x),(56,.i x),(14,.p tb 0),(11,ab.ints (il t y)),(10,.ptr (hU y)),(27,.i i),(26,.i p.nodes.length),(25,.aj 3 (p.nodes.map hU)),(8,.as (ab.dy ((p.nodes.take i).map (iP p t))) v1),(6,.ptr [ab.ew p t]),(3,.ptr (jU t))]) rfl rfl rfl rfl ((vx _ aa).b) cM ?_ ?_ ?_ ?_
      ·intro hH nI gf jX x eG;refine aH ?_;exact λa w s=>⟨_,rfl,s.weaken (lZ h1) (List.Sublist.refl _)⟩
      ·intro hH xC fD pre jX x H1 eG nI gf l5 eF;obtain rfl:=eF;have aK:x<aG p:=tT lH (l5.subset aT);refine aJ ?_;refine ai.cG rfl rfl rfl rfl rfl rfl (λav=>ad.call (.mk' rfl rfl rfl rfl cU) (Ao t aD aK y.n)) ?_;refine aV ?_;exact aZ.mH (H:=[.au tb 4 [.b (bif pre.all λc=>dK p c y.n then dK p x y.n else false)],.own 4 1 v1]) kD Lm
      ·intro Rn H1 eF;obtain rfl:=eF;refine ay ?_;refine ai.cc (x:=.aj 1 [[.b _]]) rfl rfl rfl (ad.row rfl rfl cD rfl rfl rfl rfl rfl rfl) ?_;refine ai.dJ rfl rfl rfl rfl rfl rfl rfl rfl (aq.refl _) (rfl) (λv=>by repeat (first | exact bG.head _ _ _ | apply bG.tail)) k2 k2 (λsD=>?_);refine aJ ?_;refine aZ.oi (Rn::rn) (⟨i+1,sD,by rw[mY _ (I3 oy mZ)],rfl,bF⟩) ?_ ?_ ?_
       ·omega
       ·repeat (first | exact trivial | refine⟨rfl,?_⟩)
       ·repeat (first | exact List.Sublist.refl _ | apply List.Sublist.cons_cons | refine List.Sublist.cons _ ?_)
      ·intro Rn Q6 pre H1 l5 As;exact As.elim
     ·simp_all
    ·have bo: ¬y.op=4:=by simpa using aL
     refine aS ?_;refine aA.cond rfl (λcm=>?_) (λcm=>?_)
     ·replace cm:=dA cm;have dF:y.op=7:=cm;have oy:y.op=4\/y.op=7:=.inr dF;have w2:=vC (.inr (.inl dF));obtain⟨mZ,lH,_⟩:=sx (mX _ (bH (l:=il t y) (k:=0) aa));obtain⟨ho,Ax⟩:∃ho,ho=((il t y).getD 0 default).toNat:=⟨_,rfl⟩;rw[<-Ax] at mZ lH;refine aV ?_;refine ag (ad.le (ad.cE rfl rfl rfl rfl) (aq.b6 mZ)) ?_;refine ag (ad.call .k ((zD _))) ?_;refine aH ?_;refine aA.weaken (st':=⟨[(55,.fn (.func 76) [] [.ptr [.i ho]]),(14,.p tb 0),(11,ab.ints (il t y)),(10,.ptr (hU y)),(27,.i i),(26,.i p.nodes.length),(25,.aj 3 (p.nodes.map hU)),(8,.as (ab.dy ((p.nodes.take i).map (iP p t))) v1),(6,.ptr [ab.ew p t]),(3,.ptr (jU t))],[.au tb 4 [.b true],.own 4 1 v1]++(gY rn++H)⟩) h1 gE ?_;refine aA.q3 rn (λ_ (c:Nat)=>.i c) (λ_ _=>[]) (fP ho) (λpre H=>H= [.au tb 4 [.b (pre.all λc=>dK p c y.n)],.own 4 1 v1]) (λ_ _ _=>False) ([.au tb 4 [.b true],.own 4 1 v1]) (H) (λ_ x=>[(15,.i x),(56,.i x),(14,.p tb 0),(11,ab.ints (il t y)),(10,.ptr (hU y)),(27,.i i),(26,.i p.nodes.length),(25,.aj 3 (p.nodes.map hU)),(8,.as (ab.dy ((p.nodes.take i).map (iP p t))) v1),(6,.ptr [ab.ew p t]),(3,.ptr (jU t))]) rfl rfl rfl rfl ((vx _ aa).b) cM ?_ ?_ ?_ ?_
      ·intro hH nI gf jX x eG;refine aH ?_;exact λa w s=>⟨_,rfl,s.weaken (lZ h1) (List.Sublist.refl _)⟩
      ·intro hH xC fD pre jX x H1 eG nI gf l5 eF;obtain rfl:=eF;have aK:x<aG p:=tT lH (l5.subset aT);refine aJ ?_;refine ai.cG rfl rfl rfl rfl rfl rfl (λav=>ad.call (.mk' rfl rfl rfl rfl cU) (Ao t aD aK y.n)) ?_;refine aV ?_;exact aZ.mH (H:=[.au tb 4 [.b (bif pre.all λc=>dK p c y.n then dK p x y.n else false)],.own 4 1 v1]) kD Lm
      ·intro Ro H1 eF;obtain rfl:=eF;refine ay ?_;refine ai.cc (x:=.aj 1 [[.b _]]) rfl rfl rfl (ad.row rfl rfl cD rfl rfl rfl rfl rfl rfl) ?_;refine ai.dJ rfl rfl rfl rfl rfl rfl rfl rfl (aq.refl _) (rfl) (λv=>by repeat (first | exact bG.head _ _ _ | apply bG.tail)) k2 k2 (λsD=>?_);refine aJ ?_;refine aZ.oi (Ro::rn) (⟨i+1,sD,by rw[mY _ (I3 oy mZ)],rfl,bF⟩) ?_ ?_ ?_
       ·omega
       ·repeat (first | exact trivial | refine⟨rfl,?_⟩)
       ·repeat (first | exact List.Sublist.refl _ | apply List.Sublist.cons_cons | refine List.Sublist.cons _ ?_)
      ·intro Ro Q6 pre H1 l5 As;exact As.elim
     ·have adD: ¬y.op=7:=by simpa using cm
      refine ay ?_;refine aA.cond rfl (λdx=>?_) (λdx=>?_)
      ·replace dx:=dA dx;have de:y.op=8:=dx;have w2:=vC (.inr (.inr de));obtain⟨mZ,lH,_⟩:=sx (mX _ (bH (l:=il t y) (k:=0) aa));obtain⟨ho,Ax⟩:∃ho,ho=((il t y).getD 0 default).toNat:=⟨_,rfl⟩;rw[<-Ax] at mZ lH;refine aH ?_;refine ag (ad.le (ad.cE rfl rfl rfl rfl) (aq.b6 mZ)) ?_;refine ag (ad.bits rfl rfl rfl rfl rfl (Ie ho 6 aa c8)) ?_;refine aJ ?_;refine ai.cc (x:=.aj 1 [[.b _]]) rfl rfl rfl (ad.row rfl rfl cD rfl rfl rfl rfl rfl rfl) ?_;refine ai.dJ rfl rfl rfl rfl rfl rfl rfl rfl (aq.refl _) (rfl) (λv=>by repeat (first | exact bG.head _ _ _ | apply bG.tail)) k2 k2 (λsD=>?_);refine aJ ?_;refine aZ.oi rn (⟨i+1,sD,by rw[mY _ (ady de mZ)],rfl,bF⟩) ?_ ?_ ?_
       ·omega
       ·repeat (first | exact trivial | refine⟨rfl,?_⟩)
       ·repeat (first | exact List.Sublist.refl _ | apply List.Sublist.cons_cons | refine List.Sublist.cons _ ?_)
      ·have de: ¬y.op=8:=by simpa using dx
       refine ay ?_;refine aA.cond rfl (λdF=>?_) (λdF=>?_)
       ·replace dF:=dA dF;have sE:y.op=5:=dF;refine aS ?_;refine ag (ad.call .k (adx aD b4 nG mX (by rw[lU];exact I5 sE) aa)) ?_;refine aP ?_;refine ai.cc (x:=.aj 1 [[.b _]]) rfl rfl rfl (ad.row rfl rfl cD rfl rfl rfl rfl rfl rfl) ?_;refine ai.dJ rfl rfl rfl rfl rfl rfl rfl rfl (aq.refl _) (rfl) (λv=>by repeat (first | exact bG.head _ _ _ | apply bG.tail)) k2 k2 (λsD=>?_);refine aJ ?_;refine aZ.oi rn (⟨i+1,sD,by rw[mY _ (Rm sE)],rfl,bF⟩) ?_ ?_ ?_
        ·omega
        ·repeat (first | exact trivial | refine⟨rfl,?_⟩)
        ·repeat (first | exact List.Sublist.refl _ | apply List.Sublist.cons_cons | refine List.Sublist.cons _ ?_)
       ·have sE: ¬y.op=5:=by simpa using dF
        refine ay ?_;refine ai.cc (x:=.aj 1 [[.b _]]) rfl rfl rfl (ad.row rfl rfl cD rfl rfl rfl rfl rfl rfl) ?_;refine ai.dJ rfl rfl rfl rfl rfl rfl rfl rfl (aq.refl _) (rfl) (λv=>by repeat (first | exact bG.head _ _ _ | apply bG.tail)) k2 k2 (λsD=>?_);refine aJ ?_;refine aZ.oi rn (⟨i+1,sD,by rw[mY _ (adz bo adD de sE)],rfl,bF⟩) ?_ ?_ ?_
        ·omega
        ·repeat (first | exact trivial | refine⟨rfl,?_⟩)
        ·repeat (first | exact List.Sublist.refl _ | apply List.Sublist.cons_cons | refine List.Sublist.cons _ ?_)
  ·obtain rfl:i=p.nodes.length:=by omega
   rw[List.take_length];refine di ?_;refine aZ.ld pq ([]) H (rs:=[.tmp 4,.tmp 5]) (H':=H) rfl gE (.tmp rfl (.tmp rfl (.nil))) (.cons (aq.eY _ _) (.cons (.refl _) .nil)) bE ?_;exact⟨cM,rfl⟩
def vD(p:Prog)(t:cv):ab:=if ij p t then .bj [ab.dy (DU p t),.i 0] else .bj [ab.dy [],.i 2]
def Rp(a:p.Small)(t):aI prog 11 [ab.prog p,ab.dI t] (vD p t):=by
 unfold vD ij;cases aD:(bu p).isSome with
 | false=>exact adA a aD
 | true=>
  cases ht:h5 p t with
  | false=>exact adB a aD ht
  | true=>exact adC a aD ht
def adE[Inhabited α]{l:List α}{m:Nat}(h:m<l.length)(q:α->Bool):(l.take (m+1)).any q=((l.take m).any q || q (l.getD m default)):=by
 rw[<-c3 h,List.any_append,List.any_cons,List.any_nil,Bool.or_false]
def adF(A yes no:Bool):(bif A then true else bif yes then !no else false)=(A || ((yes,no)==(true,false))):=by cases A <;> cases yes <;> cases no <;> rfl
def adG(bV:p.Small){t:cv}(aD:(bu p).isSome)(b4:ln p t)(nG:(t.aw.length:Int)=p.aw){gen:Int}{kinds:al}(bD:∀k∈kinds,cq (aG p) k=true)(lU:(kinds.length:Int)=gg p gen)(Aw:kinds.length<=3):aI prog 86 [ab.prog p,ab.dI t,.i gen,ab.ints kinds] (.b (xH p t gen kinds)):=by
 intro H;refine aM (n:=76) func86 λB I bN=>?_;have gk:=jY aD;refine bQ ?_;refine ag (ad.call .k (vr bV aD)) ?_;refine aR ?_;refine ag (ad.call .k (Ra aD bD Aw)) ?_;refine ai.qL rfl rfl rfl rfl (λda=>?_);refine ay ?_;refine aA.nr (d:=9) rfl na ?_;obtain⟨L,e0⟩:∃L,L=eb kinds:=⟨_,rfl⟩;have DP:∀x∈eb kinds,∀M∈p.methods,M.gen=gen->ib p x M.fact:=λx aK M c4 av=>by
  obtain⟨j,cp,rfl⟩:=List.getElem_of_mem c4;have IZ:iO p (j:Int)=true:=by unfold iO;simp;omega
  have e:p.methods.getD ((j:Int)).toNat default=p.methods[j]:=by rw[show ((j:Int)).toNat=j from rfl,List.getD_eq_getElem?_getD,List.getElem?_eq_getElem cp];rfl
  have cm:=xD aD IZ (l:=x) (by rw[(nd aK).1,lU];unfold rL;rw[e,av]);rw[e] at cm;exact cm
 have Rq:=λx aK=>qa (p:=p) bD (x:=x) aK;rw[xH];rw[<-e0] at DP Rq ⊢;refine aA.ez (t:=10) rfl (λalF=>?_);refine aS ?_;refine bm (λq st=>∃i:Nat,st=⟨[(11,.i i),(10,ab.bp L),(9,.ptr (cB (bR p))),(5,.ptr (jU t)),(4,.ptr (cH p)),(2,.i gen)],H⟩/\q=L.length - i/\i<=L.length/\(L.take i).all (qb p t gen)=true) (⟨0,rfl,rfl,aa,rfl⟩) ?_;rintro q _ ⟨i,rfl,rfl,aN,df⟩;refine a8 ?_;refine az (λaf=>?_) λaf=>?_
 ·have bF:i<L.length:=by omega
  obtain⟨x,aK⟩:∃x,x=L.getD i default:=⟨_,rfl⟩;have I7:x∈L:=aK▸bH bF;refine iB ?_;refine bm (λq st=>∃m:Nat,st=⟨[(13,.i m),(12,.b ((p.methods.take m).any (λM:hC=>M.gen==gen && M.kind==1 && cX p t x M.fact==(true,false)))),(11,.i i),(10,ab.bp L),(9,.ptr (cB (bR p))),(5,.ptr (jU t)),(4,.ptr (cH p)),(2,.i gen)],H⟩/\q=p.methods.length - m/\m<=p.methods.length) (⟨0,rfl,rfl,aa⟩) ?_;rintro q _ ⟨m,rfl,rfl,hm⟩;refine bQ ?_;refine az (λae=>?_) λae=>?_
  ·have lk:m<p.methods.length:=by omega
   obtain⟨M,c4⟩:∃M,M=p.methods.getD m default:=⟨_,rfl⟩;have adH:M∈p.methods:=c4▸bH lk;have kc:(p.methods.take (m+1)).any (λM:hC=>M.gen==gen && M.kind==1 && cX p t x M.fact==(true,false))=((p.methods.take m).any (λM:hC=>M.gen==gen && M.kind==1 && cX p t x M.fact==(true,false)) || (M.gen==gen && M.kind==1 && cX p t x M.fact==(true,false))):=by rw[adE lk, <-c4]
   refine zy ?_;rw[<-c4];refine aA.cond rfl (λak=>?_) (λak=>?_)
   ·have ak:M.gen=gen/\M.kind=1:=by rw[Bool.cond_false_right,Bool.and_eq_true,beq_iff_eq,beq_iff_eq] at ak;exact ak
    have xJ:(p.methods.take (m+1)).any (λM:hC=>M.gen==gen && M.kind==1 && cX p t x M.fact==(true,false))=(bif (p.methods.take m).any (λM:hC=>M.gen==gen && M.kind==1 && cX p t x M.fact==(true,false)) then true else bif (cX p t x M.fact).1 then !(cX p t x M.fact).2 else false):=by rw[kc,ak.1,ak.2,adF];simp
    refine aR ?_;refine aA.cu mixed ?_;refine bW.dk 0 12 76 rfl ao rfl rfl ao ?_;refine aP ?_;refine ed.cc rfl rfl rfl (ad.le (ad.qv rfl rfl rfl rfl) (by rw[<-c4];exact aq.refl _)) ?_;refine aH ?_;refine ed.cc rfl rfl rfl (ad.le (ad.cE rfl rfl rfl rfl) (by rw[<-aK];exact aq.refl _)) ?_;refine aQ ?_;refine ag (ad.call .k (QW aD b4 nG (Rq x I7) M.fact (DP x I7 M adH ak.1))) ?_;refine ay ?_;refine bW.dk 14 17 76 rfl ao rfl rfl ao ?_;refine xa ?_;exact aU (⟨m+1,by rw[xJ],rfl,lk⟩)
   ·have ak:(M.gen==gen && M.kind==1)=false:=by rw[Bool.cond_false_right] at ak;exact ak
    have adI:(p.methods.take (m+1)).any (λM:hC=>M.gen==gen && M.kind==1 && cX p t x M.fact==(true,false))=(p.methods.take m).any (λM:hC=>M.gen==gen && M.kind==1 && cX p t x M.fact==(true,false)):=by rw[kc,ak];simp
    refine aJ ?_;exact aU (⟨m+1,by rw[adI],rfl,lk⟩)
  ·obtain rfl:m=p.methods.length:=by omega
   rw[List.take_length];refine bA ?_;refine aA.cond rfl (λaL=>?_) (λaL=>?_)
   ·have aL:qb p t gen x=false:=by unfold qb;simpa using aL
    refine bA ?_;refine aB 8 (H) ?_;exact⟨bn (Rg I7 aL).symm,rfl⟩
   ·have aL:qb p t gen x=true:=by unfold qb;simpa using aL
    refine aJ ?_;exact aU (⟨i+1,rfl,rfl,bF,Dl bF df (by rw[<-aK];exact aL)⟩)
 ·obtain rfl:i=L.length:=by omega
  rw[List.take_length] at df;refine bA ?_;refine aB 8 (H) ?_;exact⟨bn df.symm,rfl⟩
def iC(p:Prog)(y:gR)(k d:Nat):Bool:=(if y.op=4\/y.op=7 then !k.testBit d || dK p d y.n else true) && (if y.op=8 then !k.testBit d || decide (3<=d) else true)
def adJ{m k:Nat}(h:k<2^m)(hm:m<=62)(q:Nat->Bool):((List.range m).all λc=>!k.testBit c || q c)=(fP k).all q:=by
 have ae:=Al h hm (λc=>!q c);rw[<-Bool.not_inj_iff,List.not_all_eq_any_not,List.not_all_eq_any_not, <-ae];congr 1;funext c;cases k.testBit c <;> cases q c <;> rfl
def I8(q:Nat->Bool):(List.range (c+1)).all q=((List.range c).all q && q c):=by
 rw[List.range_succ,List.all_append,List.all_cons,List.all_nil,Bool.and_true]
def adK{k m:Nat}(hm:3<=m)(af:k.testBit 0=false):((List.range m).all λd=>!k.testBit d || decide (3<=d))=decide (k &&& 6=0):=by
 rw[adq,Bool.eq_iff_iff,List.all_eq_true];simp only[Bool.and_eq_true,Bool.not_eq_true',Bool.or_eq_true,decide_eq_true_eq,List.mem_range];constructor
 ·intro h;have ae:=h 1 aa;have ak:=h 2 aa;exact⟨by rcases ae with h | h;exact h;omega,by rcases ak with h | h;exact h;omega⟩
 ·rintro⟨ae,ak⟩ d _
  match d with
  | 0=>exact .inl af
  | 1=>exact .inl ae
  | 2=>exact .inl ak
  | d+3=>exact .inr aa
def adL(h:y.op=4\/y.op=7\/y.op=8->k.testBit 0=false):(List.range 1).all (iC p y k)=true:=by
 show (iC p y k 0 && true)=true;rw[Bool.and_true,iC];by_cases ae:y.op=4\/y.op=7
 ·rw[if_pos ae,if_neg aa,h aa];rfl
 ·rw[if_neg ae];by_cases ak:y.op=8
  ·rw[if_pos ak,h aa];rfl
  ·rw[if_neg ak];rfl
def adM(hm:aG p<=62)(bD:y.op=4\/y.op=7\/y.op=8->(il t y).getD 0 default=(k:Int)/\k<2^aG p/\k.testBit 0=false)(cm: ¬y.op=5):(List.range (aG p)).all (iC p y k)=iP p t y:=by
 by_cases ae:y.op=4\/y.op=7
 ·obtain⟨ak,aL,bo⟩:=bD aa;rw[<-I3 ae ak, <-adJ aL hm];congr 1;funext d;rw[iC,if_pos ae,if_neg aa,Bool.and_true]
 ·by_cases de:y.op=8
  ·obtain⟨ak,aL,bo⟩:=bD aa;rw[iP,if_neg ae,if_pos de,ak,Int.toNat_natCast, <-adK (m:=aG p) (by unfold aG;omega) bo];congr 1;funext d;rw[iC,if_neg ae,if_pos de,Bool.true_and]
  ·rw[iP,if_neg ae,if_neg de,if_neg cm,List.all_eq_true];intro d _;rw[iC,if_neg ae,if_neg de];rfl
def adN(ae:y.op=4\/y.op=7):(List.range (c+1)).all (iC p y k)=(bif (List.range c).all (iC p y k) then (bif !k.testBit c then true else dK p c y.n) else false):=by
 rw[I8,show iC p y k c=(!k.testBit c || dK p c y.n) by rw[iC,if_pos ae,if_neg aa,Bool.and_true]];cases (List.range c).all (iC p y k) <;> cases k.testBit c <;> rfl
def adO(ae: ¬(y.op=4\/y.op=7))(de:y.op=8):(List.range (c+1)).all (iC p y k)=(bif (List.range c).all (iC p y k) then (bif !k.testBit c then true else decide ((c:Int)>=3)) else false):=by
 rw[I8,show iC p y k c=(!k.testBit c || decide ((c:Int)>=3)) by rw[iC,if_neg ae,if_pos de,Bool.true_and];congr 1;rw[Bool.eq_iff_iff];simp;omega];cases (List.range c).all (iC p y k) <;> cases k.testBit c <;> rfl
def adP(ae: ¬(y.op=4\/y.op=7))(de: ¬y.op=8):(List.range (c+1)).all (iC p y k)=(List.range c).all (iC p y k):=by
 rw[I8,show iC p y k c=true by rw[iC,if_neg ae,if_neg de];rfl,Bool.and_true]
def adQ{bs:Int}(h:fW p y bs)(ae:y.op=4\/y.op=7):0<=y.n/\y.n<p.aw:=by
 rw[fW,if_neg aa,if_neg aa,qw,if_neg aa,if_pos ae,Bool.and_eq_true,decide_eq_true_eq,decide_eq_true_eq] at h;exact h
def adR(aD:(bu p).isSome){i:Nat}(aN:i<p.nodes.length){y:gR}(hy:y=p.nodes.getD i default)(ae:y.op=4\/y.op=7):0<=y.n/\y.n<p.aw:=by
 obtain⟨next,f,bs,jt⟩:=(sC aD).2.2 i aN;have e:ji p (i:Int)=y:=by rw[hy];rfl
 have h:=(xG jt).1;rw[e] at h;exact adQ h ae
def adS(bV:p.Small){t:cv}(aD:(bu p).isSome)(ht:h5 p t):aI prog 40 [ab.prog p,ab.dI t] (ab.dy (DU p t)):=by
 intro H;refine aM (n:=108) func40 λB I bN=>?_;obtain⟨b4,nG,_⟩:=DJ ht;have Q4:=mm aD;have IX:=oA aD;have alG:p.aF.length<=10:=by unfold aG at Q4;omega
 have Av:p.nodes.length<=120:=by
  obtain⟨o,bb⟩:=Option.isSome_iff_exists.1 aD;exact (sk bb).2
 refine bQ ?_;refine ag (ad.call .k (vr bV aD)) ?_;refine ai.qL rfl rfl rfl rfl (λda=>?_);refine aV ?_;refine aA.nr (d:=5) rfl na ?_;refine bA ?_;refine aA.oY 6 4 1 rfl ?_;refine bm (λq st=>∃(i:Nat) (v1:Value),st=⟨[(7,.i i),(6,.as (ab.dy ((p.nodes.take i).map (iP p t))) v1),(5,.ptr (cB (bR p))),(3,.ptr (jU t)),(2,.ptr (cH p))],.own 4 1 v1::H⟩/\q=p.nodes.length - i/\i<=p.nodes.length) (⟨0,_,rfl,rfl,aa⟩) ?_;rintro q _ ⟨i,v1,rfl,rfl,aN⟩;refine bQ ?_;refine az (λaf=>?_) λaf=>?_
 ·have bF:i<p.nodes.length:=by omega
  obtain⟨y,hy⟩:∃y,y=p.nodes.getD i default:=⟨_,rfl⟩;obtain⟨I4,mX,vC,I5,Aw⟩:=Rh aD ht bF hy;have xx:=adR aD bF hy;have mY:=λb ba=>Rl (p:=p) (t:=t) bF (b:=b) ba;rw[<-hy] at mY;have lU:=Rj t y;refine bA ?_;refine ai.qL rfl rfl rfl rfl (λxI=>?_);refine aV ?_;rw[<-hy];refine aA.nr (d:=8) rfl na ?_;refine iB ?_;refine aA.oY 10 3 1 rfl ?_;refine bm (λq st=>∃(j:Nat) (v2:Value),st=⟨[(11,.i j),(10,.as (ab.ints ((y.kids.take j).map λk=>t.nodes.getD k.toNat default)) v2),(9,.b true),(8,.ptr (hU y)),(7,.i i),(6,.as (ab.dy ((p.nodes.take i).map (iP p t))) v1),(5,.ptr (cB (bR p))),(3,.ptr (jU t)),(2,.ptr (cH p))],.own 3 1 v2::.own 4 1 v1::H⟩/\q=y.kids.length - j/\j<=y.kids.length) (⟨0,_,rfl,rfl,aa⟩) ?_;rintro q _ ⟨j,v2,rfl,rfl,cp⟩;refine bQ ?_;refine az (λae=>?_) λae=>?_
  ·have dz:j<y.kids.length:=by omega
   have r8:=I4 _ (bH dz);refine aV ?_;refine aA.cu mixed ?_;refine bW.dk 0 11 108 rfl ao rfl rfl ao ?_;refine aJ ?_;refine ed.cc rfl rfl rfl (k1) ?_;refine aR ?_;refine ed.cc (x:=.aj 1 [[.i (t.nodes.getD (y.kids.getD j default).toNat default)]]) rfl rfl rfl (ad.row rfl rfl cD rfl rfl rfl rfl rfl rfl) ?_;refine aQ ?_;refine ai.dJ rfl rfl rfl rfl rfl rfl rfl rfl (aq.refl _) (rfl) (λv=>by repeat (first | exact bG.head _ _ _ | apply bG.tail)) k2 k2 (λI6=>?_);refine a8 ?_;exact aU (⟨j+1,I6,by rw[Rk dz],rfl,dz⟩)
  ·obtain rfl:j=y.kids.length:=by omega
   rw[<-Ri];refine aA.le 10 (y:=ab.ints (il t y)) rfl (aq.eY _ _) ?_;obtain⟨ho,w2⟩:∃ho,ho=((il t y).getD 0 default).toNat:=⟨_,rfl⟩;have DV:y.op=4\/y.op=7\/y.op=8->(il t y).getD 0 default=(ho:Int)/\ho<2^aG p/\ho.testBit 0=false:=λh=>by
    have ae:=vC h;obtain⟨ak,aL,bo⟩:=sx (mX _ (bH (l:=il t y) (k:=0) aa));rw[<-w2] at ak aL bo;exact⟨ak,aL,bo⟩
   have I9:=adL (p:=p) (y:=y) (k:=ho) (λh=>(DV h).2.2);refine bS ?_;refine aA.le 9 (y:=.b ((List.range 1).all (iC p y ho))) rfl (by rw[I9];exact aq.refl _) ?_;refine bm (λq st=>∃c:Nat,st=⟨[(12,.i c),(9,.b ((List.range c).all (iC p y ho))),(10,ab.ints (il t y)),(8,.ptr (hU y)),(7,.i i),(6,.as (ab.dy ((p.nodes.take i).map (iP p t))) v1),(5,.ptr (cB (bR p))),(3,.ptr (jU t)),(2,.ptr (cH p))],.own 4 1 v1::H⟩/\q=aG p - c/\1<=c/\c<=aG p) (⟨1,rfl,rfl,aa,by unfold aG;omega⟩) ?_;rintro q _ ⟨c,rfl,rfl,alH,o4⟩;refine bA ?_;refine az (λak=>?_) λak=>?_
   ·have hI:c<aG p:=by unfold aG;omega
    refine gv ?_;refine aA.cond rfl (λaL=>?_) (λaL=>?_)
    ·have aL:y.op=4\/y.op=7:=by by_cases h:y.op=4;exact .inl h;exact .inr (by simpa [h] using aL)
     obtain⟨mZ,lH,adT⟩:=DV aa;have adU:=vC aa;refine aS ?_;refine ai.cG rfl rfl rfl rfl rfl rfl (λav=>ad.le (ad.cE rfl rfl (cf av) rfl) (aq.b6 mZ)) ?_;refine aR ?_;refine ai.cG rfl rfl rfl rfl rfl rfl (λav=>ad.call (.mk' rfl rfl rfl rfl cU) (p9 ho c aa)) ?_;refine ay ?_;refine ai.cG rfl rfl rfl rfl rfl rfl (λav=>ad.call (.mk' rfl rfl rfl rfl cU) (DL aD hI (xx aL))) ?_;refine ai.cG rfl rfl rfl rfl rfl rfl (λav=>ad.pick rfl rfl (cf av) rfl rfl (λ_=>rfl) (by intro h;revert h;revert av;cases (List.range c).all (iC p y ho) <;> cases ho.testBit c <;> simp)) ?_;refine bA ?_;refine aA.cond rfl (λbo=>?_) (λbo=>?_)
     ·have bo:y.op=8:=by simpa using bo
      omega
     ·refine aJ ?_;exact aU (⟨c+1,by rw[adN aL],rfl,aa,hI⟩)
    ·have aL: ¬(y.op=4\/y.op=7):=by simpa [Bool.or_eq_false_iff] using aL
     refine a8 ?_;refine aA.cond rfl (λcm=>?_) (λcm=>?_)
     ·replace cm:=dA cm;have de:y.op=8:=cm;obtain⟨mZ,lH,adT⟩:=DV aa;have adU:=vC aa;refine aS ?_;refine ai.cG rfl rfl rfl rfl rfl rfl (λav=>ad.le (ad.cE rfl rfl (cf av) rfl) (aq.b6 mZ)) ?_;refine aR ?_;refine ai.cG rfl rfl rfl rfl rfl rfl (λav=>ad.call (.mk' rfl rfl rfl rfl cU) (p9 ho c aa)) ?_;refine aV ?_;refine ai.cG rfl rfl rfl rfl rfl rfl (λav=>ad.pick rfl rfl (cf av) rfl rfl (λ_=>rfl) (by intro h;revert h;revert av;cases (List.range c).all (iC p y ho) <;> cases ho.testBit c <;> simp)) ?_;refine bQ ?_;exact aU (⟨c+1,by rw[adO aL de],rfl,aa,hI⟩)
     ·have de: ¬y.op=8:=by simpa using cm
      refine aJ ?_;exact aU (⟨c+1,by rw[adP aL de],rfl,aa,hI⟩)
   ·obtain rfl:c=aG p:=by unfold aG at*;omega
    refine di ?_;refine aA.cond rfl (λdx=>?_) (λdx=>?_)
    ·replace dx:=dA dx;have sE:y.op=5:=dx;refine ay ?_;refine ag (ad.call .k (adG bV aD b4 nG mX (by rw[lU];exact I5 sE) aa)) ?_;refine ay ?_;refine ai.cc (x:=.aj 1 [[.b _]]) rfl rfl rfl (ad.row rfl rfl cD rfl rfl rfl rfl rfl rfl) ?_;refine ai.dJ rfl rfl rfl rfl rfl rfl rfl rfl (aq.refl _) (rfl) (λv=>by repeat (first | exact bG.head _ _ _ | apply bG.tail)) k2 k2 (λJa=>?_);refine a8 ?_;exact aU (⟨i+1,Ja,by rw[mY _ (Rm sE)],rfl,bF⟩)
    ·have sE: ¬y.op=5:=by simpa using dx
     refine aS ?_;refine ai.cc (x:=.aj 1 [[.b _]]) rfl rfl rfl (ad.row rfl rfl cD rfl rfl rfl rfl rfl rfl) ?_;refine ai.dJ rfl rfl rfl rfl rfl rfl rfl rfl (aq.refl _) (rfl) (λv=>by repeat (first | exact bG.head _ _ _ | apply bG.tail)) k2 k2 (λJa=>?_);refine a8 ?_;exact aU (⟨i+1,Ja,by rw[mY _ (adM aa DV sE)],rfl,bF⟩)
 ·obtain rfl:i=p.nodes.length:=by omega
  rw[List.take_length];refine bS ?_;refine aZ.cl (rs:=[.tmp 4]) (H':=H) rfl (.tmp rfl (.nil)) (.cons (aq.eY _ _) .nil) bE ?_;exact⟨cM,rfl⟩
def adV(bV:p.Small)(t:cv):aI prog 12 [ab.prog p,ab.dI t] (vD p t):=by
 intro H;refine aM (n:=18) func12 λB I bN=>?_;unfold vD;refine bS ?_;refine ag (ad.call .k (Qg bV)) ?_;refine aV ?_;refine ai.cG rfl rfl rfl rfl rfl rfl (λav=>ad.call (.mk' rfl rfl rfl rfl cU) (QP (by simpa using av) t)) ?_;refine aV ?_;rw[QR];refine aA.cond rfl (λaf=>?_) (λaf=>?_)
 ·have af:ij p t=false:=by rwa [Bool.not_eq_true'] at af
  rw[af];refine aJ ?_;refine aZ.cl (rs:=[.tmp 4,.tmp 5]) (H':=H) rfl (.tmp rfl (.tmp rfl (.nil))) (.cons (aq.nil 1) (.cons (.refl _) .nil)) bE ?_;exact⟨cM,rfl⟩
 ·have af:ij p t=true:=by simpa [ij] using af
  have aD:(bu p).isSome=true:=by rw[ij,Bool.and_eq_true] at af;exact af.1
  have ht:h5 p t=true:=by rw[ij,Bool.and_eq_true] at af;exact af.2
  rw[af,if_pos rfl];refine ay ?_;refine ag (ad.call .k (adS bV aD ht)) ?_;refine aS ?_;refine dM [.tmp 4,.tmp 5] (H) ?_;exact⟨cM,rfl⟩
end Go.Proofs.YtodccgailpkgeaaGreat

