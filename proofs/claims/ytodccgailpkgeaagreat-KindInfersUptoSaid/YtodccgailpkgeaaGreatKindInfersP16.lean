/- A part of the proof. No condition. -/
import Derived.Test.YtodccgailpkgeaaGreatKindInfersP15
set_option linter.defProp false
set_option maxHeartbeats 1000000
set_option linter.unusedVariables false
set_option linter.unusedSimpArgs false
set_option maxRecDepth 10000
namespace Go.Proofs.YtodccgailpkgeaaGreat
open Go.Proofs.Tryz
open Go.Eng
open Go.Eng.Fc
open Go.Eng.dN
variable{α:Type}{L:List ak}{kinds x l:ak}{B n j k:Nat}{p:Prog}
abbrev eZ(fe:Nat)(x:ak):bn:=.au fe 3 (x.map ab.i)
abbrev fA(fe n:Nat):ab:=.val (.slice (some ⟨fe,0,none⟩) n n)
abbrev acb(kinds:ak)(rV:ab)(fe dc:Nat):ab:=.fn (.func 117) [] [.ptr [ab.ints kinds],.ptr [rV],.ptr [fA fe kinds.length],.p dc 0]
abbrev ma(kinds:ak)(rV:ab)(fe dc:Nat):bn:=.au dc 65 [acb kinds rV fe dc]
abbrev Ip(B:Nat)(kinds:ak)(g:Fn)(gs gc:bl)(L:List ak)(J Jx:List ak->aA->Prop):Prop:=Fv B prog (.fn g gs gc) (λb (_:ak)=>fA b kinds.length) (λb x=>[eZ b x]) L J Jx
def Iq(B:Nat)(kinds:ak)(g:Fn)(gs gc:bl)(L:List ak)(J Jx:List ak->aA->Prop)(fe dc f:Nat):Prop:=
 ∀(i:Nat) (q Qu:ak) (pre:List ak) (pL Hx:aA),i+f=kinds.length->q.length=i->Qu.length=f->pre++(en (kinds.drop i)).map (λl=>q++l)<+:L->J pre pL->
  eK B prog 117 [.i i,.ptr [ab.ints kinds],.ptr [.fn g gs gc],.ptr [fA fe kinds.length],.p dc 0] (pL++(eZ fe (q++Qu)::ma kinds (.fn g gs gc) fe dc::Hx))
   (λy H'=>∃r H1 Qv,y= .b r/\Qv.length=f/\H'=H1++(eZ fe (q++Qv)::ma kinds (.fn g gs gc) fe dc::Hx)/\(r=true->J (pre++(en (kinds.drop i)).map (λl=>q++l)) H1)/\(r=false->∃re,re<+:L/\Jx re H1)) (λ_ _=>False)
def Qw(r x p:bn)(A X:aA):(r::(A++(x::p::X))).Perm (A++(x::r::p::X)):=List.perm_middle.symm.trans (.append_left _ (.swap _ _ _))
def Qx(a b c d e:bn)(A X:aA):([a,b,c,d,e]++(A++X)).Perm (A++([a,c,b,d,e]++X)):=(List.perm_append_comm_assoc _ _ _).trans (.append_left _ (List.Perm.append_right _ (.cons _ (.swap _ _ _))))
def Qy(l d r x p:bn)(A X:aA):(l::d::((r::(A++[x,p]))++([]++X))).Perm ([x,r,p,l,d]++(A++X)):=by
 have c:(l::d::((r::(A++[x,p]))++([]++X)))= [l,d,r]++(A++([x,p]++X)):=by simp
 rw[c];refine (List.Perm.append_left _ (List.perm_append_comm_assoc _ _ _)).trans ?_;show (l::d::r::x::p::(A++X)).Perm (x::r::p::l::d::(A++X));have a:∀Y:aA,(l::d::r::x::p::Y).Perm (x::r::p::l::d::Y):=λY=>by
  have:=List.Perm.append_right Y (show [l,d,r,x,p].Perm [x,r,p,l,d] from by
   refine ((List.perm_append_comm (l₁:=[l,d]) (l₂:=[r,x,p])).trans ?_);exact .swap _ _ _)
  simpa using this
 exact a _
def Qz(l d r x p:bn)(A X:aA):(A++([x,p,r,l,d]++X)).Perm (l::d::((r::(A++[x,p]))++([]++X))):=
 (Qx x r p l d A X).symm.trans (Qy l d r x p A X).symm
def acd{a c:Type}{pre L:List c}{g:a->List c}{M f:List a}{b:a}(h:pre++M.flatMap g<+:L)(j:f++[b]<+:M):(pre++f.flatMap g)++g b<+:L:=by
 refine List.IsPrefix.trans ?_ h;rw[List.append_assoc];refine (List.prefix_append_right_inj pre).2 ?_;obtain⟨t,rfl⟩:=j;exact⟨t.flatMap g,aS⟩
def ace{i}(a:i<kinds.length){k:Nat}(f:kinds.getD i default=(k:Int))(q):(en (kinds.drop i)).map (λl=>q++l)=(gf k).flatMap λ(c:Nat)=>(en (kinds.drop (i+1))).map λl=>(q++[(c:Int)])++l:=by
 have e:kinds.drop i=kinds.getD i default::kinds.drop (i+1):=by
  rw[List.drop_eq_getElem_cons a,List.getD_eq_getElem?_getD,List.getElem?_eq_getElem a];rfl
 rw[e,f,en,List.map_flatMap];congr 1;funext c;rw[List.map_map];congr 1;funext l;simp
def acf{q f}{i:Nat}(j:q.length=i)(g x:Int):((q++g::f).map ab.i).take (0+(i:Int).toNat*1)++cG (.i x)++((q++g::f).map ab.i).drop (0+(i:Int).toNat*1+1)=((q++[x])++f).map ab.i:=by
 subst j;have e:0+((q.length:Nat):Int).toNat*1=(q.map ab.i).length:=by simp
 rw[e,List.map_append,List.take_left,List.map_cons];have h:∀(a:bl) (b:ab) (c:bl),(a++b::c).drop (a.length+1)=c:=λa b c=>by rw[show a++b::c=(a++[b])++c by simp,show a.length+1=(a++[b]).length by simp,List.drop_left]
 rw[h,List.map_append,List.map_append];rfl
def QA(a4:∀k∈kinds,0<=k/\k.toNat<2^60)(a9:kinds.length<=1000){g}{z v}{L}{J Jx}(aw:Ip B kinds g z v L J Jx){m A f}(fv:∀G,f=G+1->Iq B kinds g z v L J Jx m A G):Iq B kinds g z v L J Jx m A f:=by
 intro i q X K R F im cd U Q P;refine .ofM func117 rfl ay rfl rfl λI bW=>?_;refine aF ?_;refine bK (λcV=>?_);refine bE ?_;refine az (λaf=>?_) λaf=>?_
 ·obtain rfl:f=0:=by omega
  obtain rfl:X= []:=List.eq_nil_of_length_eq_zero U;have acg:(en (kinds.drop i)).map (λl=>q++l)= [q]:=by rw[List.drop_of_length_le aa];simp[en]
  rw[acg] at Q ⊢;rw[List.append_nil];refine aR ?_;refine .perm (Qw _ _ _ _ _) ?_;refine aF ?_;refine .n1 rfl rfl rfl rfl rfl rfl rfl rfl cL (aw m K q R (.au cV 4 [.val (.bool false)]::ma kinds (.fn g z v) m A::F) Q P) ?_;rintro _ _ ⟨r,o,rfl,rfl,bM,bL⟩;refine .perm (Qw _ _ _ _ _).symm ?_;refine aT ?_;refine .k1 [] (.au cV 4 [.b r]::(o++[eZ m q,ma kinds (.fn g z v) m A])) F (rs:=[.cell 6 4]) (H':=o++(eZ m q::ma kinds (.fn g z v) m A::F)) rfl (by show ((_::(o++[_,_]))++F).Sublist _;rw[List.cons_append,List.append_assoc];exact List.Sublist.refl _) sR cL ET ?_;exact⟨r,o,[],rfl,rfl,by rw[List.append_nil],bM,λh=>⟨_,Q,bL h⟩⟩
 ·have V:i<kinds.length:=by omega
  obtain⟨G,rfl⟩:∃G,f=G+1:=⟨f - 1,aa⟩;obtain⟨hN,D⟩:=a4 _ (bI V);obtain⟨k,bD⟩:∃k:Nat,kinds.getD i default=k:=⟨(kinds.getD i default).toNat,aa⟩;have D:k<2^60:=by rw[bD] at D;simpa using D
  have fw:=ace V bD q;rw[fw] at Q ⊢;refine aI ?_;refine ag (.le uW (.b4 bD)) ?_;refine ag GG ?_;refine aF ?_;refine .perm (H':=(.au cV 4 [.val (.bool false)]::(R++[eZ m (q++X),ma kinds (.fn g z v) m A]))++F) (.of_eq aS) ?_;refine .weaken (st':=⟨[(19,.fn (.func 76) [] [.ptr [.i k]]),(5,.ptr [.i i]),(6,.p cV 0),(1,.ptr [.ints kinds]),(2,.ptr [.fn g z v]),(3,.ptr [fA m kinds.length]),(4,.p A 0)],(.au cV 4 [.val (.bool false)]::(R++[eZ m (q++X),ma kinds (.fn g z v) m A]))++(gW []++F)⟩) hW gA ?_;refine .qU [] (λ_ (c:Nat)=>.i c) (λ_ _=>[]) (gf k) (λcs H=>∃o j,H= .au cV 4 [.val (.bool false)]::(o++[eZ m (q++j),ma kinds (.fn g z v) m A])/\j.length=G+1/\J (K++cs.flatMap (λ(c:Nat)=>(en (kinds.drop (i+1))).map λl=>(q++[(c:Int)])++l)) o) (λcode cs H=>code= .ret/\∃o j,H= .au cV 4 [.val (.bool false)]::(o++[eZ m (q++j),ma kinds (.fn g z v) m A])/\j.length=G+1/\∃re,re<+:L/\Jx re o) ((.au cV 4 [.val (.bool false)]::(R++[eZ m (q++X),ma kinds (.fn g z v) m A]))) F (λ_ x=>[(7,.i x),(20,.i x),(5,.ptr [.i i]),(6,.p cV 0),(1,.ptr [.ints kinds]),(2,.ptr [.fn g z v]),(3,.ptr [fA m kinds.length]),(4,.p A 0)]) rfl rfl rfl rfl ((vv _ D).b) ⟨R,X,rfl,U,by simpa using P⟩ ?_ ?_ ?_ ?_
  ·intro hE nw gd jN x eE;refine aF ?_;exact λa w s=>⟨_,rfl,s.weaken xc w8⟩
  ·intro hE Z fD K jN x o eE nw gd N P;obtain⟨o,j,rfl,t,O⟩:=P;obtain⟨t0,I,rfl⟩:∃t0 I,j=t0::I:=by cases j with
    | nil=>cases t
    | cons a b=>exact⟨a,b,rfl⟩
   have W:I.length=G:=by simpa using t
   have a0:(q++[(x:Int)]).length=i+1:=by simp[cd]
   have a3:=acd (g:=(λ(c:Nat)=>(en (kinds.drop (i+1))).map λl=>(q++[(c:Int)])++l)) Q N;refine aO ?_;refine .perm (Qy _ _ _ _ _ _ _) ?_;refine aY ?_;refine ag Cz ?_;apply aj.fZ rfl rfl rfl rfl rfl rfl rfl rfl rfl rfl
   (case hu=>repeat (first | exact .head _ _ _ | apply .tail));(case hfit=>simp;omega);(case hds=>exact acf cd t0 x)
   refine aP ?_;refine .perm (Qx _ _ _ _ _ _ _) ?_;refine cE .k (fv G rfl (i+1) (q++[(x:Int)]) I _ o _ aa a0 W a3 O) ?_;rintro _ _ ⟨r,Y,C,rfl,M,rfl,bM,bL⟩;refine aF ?_;refine bc (λae=>?_) λae=>?_
   ·have ae:r=false:=by simpa using ae
    refine aR ?_;refine .perm (Qz _ _ _ _ _ _ _) ?_;refine ax ?_;exact .Ft (H:=.au cV 4 [.val (.bool false)]::(Y++[eZ m ((q++[(x:Int)])++C),ma kinds (.fn g z v) m A])) kq ⟨rfl,Y,(x:Int)::C,by rw[show q++(x:Int)::C=(q++[(x:Int)])++C by simp],by simp[M],bL ae⟩
   ·have ae:r=true:=by simpa using ae
    refine aO ?_;refine .perm (Qz _ _ _ _ _ _ _) ?_;exact .mx (H:=.au cV 4 [.val (.bool false)]::(Y++[eZ m ((q++[(x:Int)])++C),ma kinds (.fn g z v) m A])) kq ⟨Y,(x:Int)::C,by rw[show q++(x:Int)::C=(q++[(x:Int)])++C by simp],by simp[M],by have:=bM ae;rw[List.append_assoc] at this;rw[List.flatMap_append];simpa using this⟩
  ·intro Z o P;obtain⟨o,j,rfl,t,O⟩:=P;refine aI ?_;refine .k1 (Z::[]) (.au cV 4 [.b true]::(o++[eZ m (q++j),ma kinds (.fn g z v) m A])) F (rs:=[.cell 6 4]) (H':=o++(eZ m (q++j)::ma kinds (.fn g z v) m A::F)) rfl gA sR cL ET ?_;exact⟨true,o,j,rfl,t,rfl,λ_=>O,λh=>by cases h⟩
  ·intro Z bF K o N a5;obtain⟨rfl,o,j,rfl,t,re,a2,S⟩:=a5
   ·refine aF ?_;refine .k1 (Z::[]) (.au cV 4 [.val (.bool false)]::(o++[eZ m (q++j),ma kinds (.fn g z v) m A])) F (rs:=[.cell 6 4]) (H':=o++(eZ m (q++j)::ma kinds (.fn g z v) m A::F)) rfl gA sR cL ET ?_;exact⟨false,o,j,rfl,t,rfl,(λh=>by cases h),λ_=>⟨re,a2,S⟩⟩
def ach(a:∀k∈kinds,0<=k/\k.toNat<2^60)(c:kinds.length<=1000){g}{l m}{L}{J Jx}(j:Ip B kinds g l m L J Jx)(o q f):Iq B kinds g l m L J Jx o q f:=by
 induction f with
 | zero=>exact QA a c j λf' h=>by omega
 | succ n r=>
  refine QA a c j λf' h=>?_;obtain rfl:f'=n:=by omega
  exact r
def aci{p}{a n}(H Hx):(p::.au a 3 (List.replicate n (.val aX))::(H++Hx)).Perm (H++(eZ a ([]++List.replicate n 0)::p::Hx)):=by
 rw[show eZ a ([]++List.replicate n 0)= .au a 3 (List.replicate n (.val aX)) by rw[eZ,List.nil_append,List.map_replicate]];exact (List.Perm.swap _ _ _).trans (List.perm_append_comm_assoc [_,_] H Hx)
def acj(f:∀k∈kinds,0<=k/\k.toNat<2^60)(h:kinds.length<=1000){g}{j m}{J Jx}(o:Ip B kinds g j m (en kinds) J Jx)(H Hx)(t:J [] H):
  eK B prog 116 [.fn g j m,.ptr [.ints kinds]] (H++Hx) (λ_ H'=>∃a,H'=a++Hx/\(J (en kinds) a\/∃c,c<+:en kinds/\Jx c a)) (λ_ _=>False):=by
 refine .of func116 rfl ay rfl rfl λI z=>?_;refine ba ?_;refine .pN (kinds.length) rfl rfl rfl rfl rfl rfl rfl rfl rfl aa h5 λfe=>?_;refine bK (λgG=>?_);refine aY ?_;refine eA 3 ?_;refine aR ?_;refine bK (λdc=>?_);refine bY ?_;refine .perm (aci H Hx) ?_;refine cE .k (ach f h o fe dc kinds.length 0 [] (List.replicate kinds.length 0) [] H Hx aa rfl aS aS t) ?_;rintro _ _ ⟨r,a,s,rfl,l,rfl,q,v⟩;refine aR ?_;refine .nU (rs:=[]) (H':=a++Hx) rfl (.nil) cL (by exact (List.Sublist.refl a).append (.cons _ Xn)) ?_;exact⟨a,rfl,by cases r with | true=>exact .inl (by simpa using q rfl) | false=>exact .inr (v rfl)⟩
def Ir(kinds):aG prog 79 [.ints kinds] (.fn (.func 116) [] [.ptr [.ints kinds]]):=by
 intro H;refine aM func79 λB I a=>?_;refine dk ?_;refine aC 2 (H) ?_;exact⟨dO,rfl⟩
def Is(B){kinds}(a:∀k∈kinds,0<=k/\k.toNat<2^60)(c:kinds.length<=1000):BU B prog (.fn (.func 116) [] [.ptr [.ints kinds]]) (λb (_:ak)=>fA b kinds.length) (λb x=>[eZ b x]) (en kinds):=
 λJ o g l m f H j h=>eY.rU (acj a c f H j h)
def xe{q:α->Bool}{pre:List α}{x:α}(h:q x=true):(pre++[x]).filter q=pre.filter q++[x]:=by rw[List.filter_append];simp[h]
def xf{q:α->Bool}{pre:List α}{x:α}(h:q x=false):(pre++[x]).filter q=pre.filter q:=by rw[List.filter_append];simp[h]
theorem nM:∀{a x:ak},x∈en a->x.length=a.length/\∀i,i<a.length->∃c:Nat,x.getD i default=c/\(a.getD i default).toNat.testBit c=true
 | [],x,h=>by
  simp[en,List.mem_singleton] at h;subst h;exact⟨rfl,λi aQ=>by simp at aQ⟩
 | k::r,x,h=>by
  rw[en,List.mem_flatMap] at h;obtain⟨c,g,h⟩:=h;obtain⟨l,f,rfl⟩:=List.mem_map.1 h;obtain⟨ae,j⟩:=nM f;refine⟨rM,λi aQ=>?_⟩;cases i with
  | zero=>exact⟨c,rfl,(tL.1 g).2⟩
  | succ i=>exact j i m3
def It(a:(bw p).isSome){kinds:ak}(c:∀k∈kinds,ct (aJ p) k=true):∀k∈kinds,0<=k/\k.toNat<2^60:=λk h=>by
 obtain⟨g,f,_⟩:=tN (c k h);have:=o8 a;exact⟨aa,aa⟩
def rf(h:∀k∈kinds,ct (aJ p) k=true)(t:x∈en kinds):∀c∈x,1<=c/\c<aJ p:=λc r=>by
 obtain⟨i,q,rfl⟩:=List.getElem_of_mem r;obtain⟨v,j⟩:=nM t;obtain⟨d,a,f⟩:=j i aa;obtain⟨_,m,g⟩:=tN (h _ (bI (l:=kinds) (k:=i) aa));rw[List.getD_eq_getElem?_getD,List.getElem?_eq_getElem q] at a;have a:x[i]=(d:Int):=a;rw[a];have o:d≠0:=λe=>by subst e;rw[f] at g;cases g
 have s:d<aJ p:=by
  apply Decidable.byContradiction;intro w;rw[Dj m aa] at f;cases f
 omega
def Iu{m:Nat}(hm:m<=62){i}:∀(L:List ak),(∀x∈L,x.getD i default<m)->(∀x∈L,0<=x.getD i default)->lM L i<2^62:=λL h c=>by
 unfold lM;have:∀(L:List ak) (a:Nat),a<2^62->(∀x∈L,x.getD i default<m)->(∀x∈L,0<=x.getD i default)->L.foldl (λa l=>a ||| 2^(l.getD i default).toNat) a<2^62:=by
  intro L
  induction L with
  | nil=>intro a g _ _;exact g
  | cons x r j=>
   intro a g h c;refine j _ (Nat.or_lt_two_pow g (Nat.pow_lt_pow_right c8 ?_)) (λy f=>h y (.tail _ f)) λy f=>c y (.tail _ f);have:=h x dv;have:=c x dv;omega
 exact this L 0 c8 h c
def ack(L)(x)(i):lM (L++[x]) i=lM L i ||| 2^(x.getD i default).toNat:=by unfold lM;rw[List.foldl_append];rfl
def mP(L:List ak)(x:ak)(n j:Nat):ak:=(List.range n).map λi=>((if i<j then lM (L++[x]) i else lM L i:Nat):Int)
def yb(L)(x)(n j):(mP L x n j).length=n:=by simp[mP]
def Iv(L)(x)(n):mP L x n 0=hl L n:=by unfold mP hl;simp
def Iw(L)(x)(n):mP L x n n=hl (L++[x]) n:=by
 unfold mP hl;refine List.map_congr_left λi a=>?_;rw[if_pos (List.mem_range.1 a)]
def Ix(h:j<n):(mP L x n j).getD j default=(lM L j:Int):=by
 rw[mP,List.getD_eq_getElem?_getD,List.getElem?_map,List.getElem?_range h];show ((if j<j then _ else _:Nat):Int)=_;rw[if_neg MS]
def Iy(h:j<n):(mP L x n j).set j ((lM L j ||| 2^(x.getD j default).toNat:Nat):Int)=mP L x n (j+1):=by
 refine List.ext_getElem (by simp[mP]) λi f c=>?_;rw[List.getElem_set];simp only[mP,List.getElem_map,List.getElem_range];by_cases e:j=i
 ·subst e;rw[if_pos rfl,if_pos (Nat.lt_succ_self _),ack]
 ·rw[if_neg e];by_cases a:i<j
  ·rw[if_pos a,if_pos aa]
  ·rw[if_neg a,if_neg aa]
def ints_set(h:j<l.length)(v):(l.map .i).take (0+(j:Int).toNat*1)++cG (.i v)++(l.map .i).drop (0+(j:Int).toNat*1+1)=(l.set j v).map .i:=by
 have e:0+(j:Int).toNat*1=j:=by simp
 rw[e,List.set_eq_take_append_cons_drop,if_pos h,List.map_append,List.map_take,List.map_cons,List.map_drop];simp[cG]
def ints_at(h:j<l.length):(l.map ab.i)[0+(j:Int).toNat*1]? =some (.i (l.getD j default)):=by
 have e:0+(j:Int).toNat*1=j:=by simp
 rw[e,List.getElem?_map,List.getD_eq_getElem?_getD,List.getElem?_eq_getElem h];rfl
section
variable{p:Prog}{t:cI}{gen:Int}{kinds:ak}{m:Nat}
def Iz:h3 p t gen kinds (m+1)=h3 p t gen kinds m++(if(p.methods.getD m default).gen=gen/\hb p t (p.methods.getD m default).fact kinds≠ [] then [((m:Int),hl (hb p t (p.methods.getD m default).fact kinds) kinds.length)] else []):=by
 unfold h3;rw[List.range_succ,List.filterMap_append];congr 1;rw[List.filterMap_cons];by_cases h:(p.methods.getD m default).gen=gen/\hb p t (p.methods.getD m default).fact kinds≠ []
 ·rw[if_pos h,if_pos h];rfl
 ·rw[if_neg h,if_neg h];rfl
def IA(h:(p.methods.getD m default).gen≠gen):h3 p t gen kinds (m+1)=h3 p t gen kinds m:=by rw[Iz,if_neg (λao=>h ao.1),List.append_nil]
def IB(h:hb p t (p.methods.getD m default).fact kinds= []):h3 p t gen kinds (m+1)=h3 p t gen kinds m:=by rw[Iz,if_neg (λao=>ao.2 h),List.append_nil]
def IC(h:(p.methods.getD m default).gen=gen)(a:hb p t (p.methods.getD m default).fact kinds≠ []):h3 p t gen kinds (m+1)=h3 p t gen kinds m++[((m:Int),hl (hb p t (p.methods.getD m default).fact kinds) kinds.length)]:=by rw[Iz,if_pos ⟨h,a⟩]
def A7(n):(h3 p t gen kinds n).length<=n:=by
 have:=List.length_filterMap_le (λm=>if(p.methods.getD m default).gen=gen/\hb p t (p.methods.getD m default).fact kinds≠ [] then some ((m:Int),hl (hb p t (p.methods.getD m default).fact kinds) kinds.length) else none) (List.range n);rw[List.length_range] at this;exact this
end
def ID(A:List (Int×ak))(m:Nat)(g:ak):ab.ints ((A++[((m:Int),g)]).map (·.1))= .ai 1 ((A.map (·.1)).map (λn=>[.i n])++[[.i (m:Int)]]):=by
 show ab.ai 1 (List.map _ (List.map _ (_++_)))=_;rw[List.map_append,List.map_append];rfl
def IE(A)(m:Nat)(g:ak):ab.bm ((A++[((m:Int),g)]).map (·.2))= .ai 1 ((A.map (·.2)).map (λn=>[ab.ints n])++[[ab.ints g]]):=by
 show ab.ai 1 (List.map _ (List.map _ (_++_)))=_;rw[List.map_append,List.map_append];rfl
def IF(n):List.replicate n (ab.val aX)=(hl [] n).map ab.i:=by
 unfold hl;rw[List.map_map];refine (List.ext_getElem aS λi c a=>?_);simp[lM]
def DB(a gG:Nat)(l)(n:Nat):eZ a l= .au a 3 ((l.map λx=>[.i x]).flatten++[]):=by
 rw[List.append_nil];show bn.au a 3 _=_;congr 1
 induction l with
 | nil=>rfl
 | cons x r c=>rw[List.map_cons,List.map_cons,List.flatten_cons,c];rfl
def acm{t:cI}(aH:(bw p).isSome)(b6:lF p t)(ra:(t.av.length:Int)=p.av){gen:Int}{kinds}(bD:∀k∈kinds,ct (aJ p) k=true)(sT:(kinds.length:Int)=fG p gen)(acn:kinds.length<=1000):aG prog 53 [ab.ew p t,.i gen,ab.ints kinds] (.bk [ab.ints ((eI p t gen kinds).map (·.1)),ab.bm ((eI p t gen kinds).map (·.2))]):=by
 intro H;refine bO.qC func53 rfl ay rfl rfl (λB I bW=>?_);have akK:=nx aH;have QB:=o8 aH;have gO:=ki aH;have vy:=It aH bD;refine jj ?_;refine hh 6 3 1 ?_;refine hh 7 23 1 ?_;refine aB.zo (λq st=>∃(m:Nat) (v1 v2:Value),st=⟨[(21,.i m),(20,.i p.methods.length),(19,.ai 9 (p.methods.map eR)),(6,.as (ab.ints ((h3 p t gen kinds m).map (·.1))) v1),(7,.as (ab.bm ((h3 p t gen kinds m).map (·.2))) v2),(1,.i gen),(2,ab.ints kinds),(3,.ptr [ab.ew p t])],[.own 23 1 v2,.own 3 1 v1]⟩/\q=p.methods.length - m/\m<=p.methods.length) [] H ⟨_,_,⟨0,_,_,rfl,rfl,aa⟩,hW,gA⟩ ?_;intro pc;rintro q _ ⟨m,v1,v2,rfl,rfl,hm⟩;refine ax ?_;refine az (λaf=>?_) λaf=>?_
 ·have oo:m<p.methods.length:=by omega
  obtain⟨M,da⟩:∃M,M=p.methods.getD m default:=⟨_,rfl⟩;have Df:=IA (p:=p) (t:=t) (gen:=gen) (kinds:=kinds) (m:=m);have QC:=IB (p:=p) (t:=t) (gen:=gen) (kinds:=kinds) (m:=m);have IG:=IC (p:=p) (t:=t) (gen:=gen) (kinds:=kinds) (m:=m);rw[<-da] at Df QC IG;refine ba ?_;refine bK (λbp=>?_);refine ax ?_;rw[<-da];refine eA 9 ?_;refine aP ?_;refine az (λae=>?_) λae=>?_
  ·refine aI ?_;refine aZ.n8 pc (⟨m+1,v1,v2,by rw[Df ae],rfl,oo⟩) ?_ ?_ ?_
   ·omega
   ·repeat (first | exact trivial | refine⟨rfl,?_⟩)
   ·repeat (first | exact List.Sublist.refl _ | apply List.Sublist.cons_cons | refine List.Sublist.cons _ ?_)
  ·have aco:∀x∈en kinds,ir p x M.fact:=λx aK=>by
    have acp:jr p (m:Int)=true:=by unfold jr;simp;omega
    have cr:=Ah aH acp (l:=x) EU;rw[show ((m:Int)).toNat=m from rfl, <-da] at cr;exact cr
   refine ax ?_;refine aj.pN (kinds.length) rfl rfl rfl rfl rfl rfl rfl rfl (rfl) aa h5 (λcP=>?_);refine bK (λgG=>?_);refine bK (λhk=>?_);refine ax ?_;rw[IF];refine aO ?_;refine ag (ad.call .k ((Ir _))) ?_;refine aF ?_;refine aB.weaken (st':=⟨[(34,.fn (.func 116) [] [.ptr [ab.ints kinds]]),(8,.i m),(9,.ptr (eR M)),(10,.p gG 0),(11,.p hk 0),(21,.i m),(20,.i p.methods.length),(19,.ai 9 (p.methods.map eR)),(6,.as (ab.ints ((h3 p t gen kinds m).map (·.1))) v1),(7,.as (ab.bm ((h3 p t gen kinds m).map (·.2))) v2),(1,.i gen),(2,ab.ints kinds),(3,.ptr [ab.ew p t])],[.au hk 4 [.b false],.au gG 23 [fA cP kinds.length],eZ cP (hl [] kinds.length),.own 23 1 v2,.own 3 1 v1]++(gW pc++H)⟩) hW gA ?_;refine aB.qU pc (λb (_:ak)=>fA b kinds.length) (λb x=>[eZ b x]) (en kinds) (λpre H=>H= [.au hk 4 [.b (!(pre.filter (λl=>(di p t l M.fact).1)).isEmpty)],.au gG 23 [fA cP kinds.length],eZ cP (hl (pre.filter (λl=>(di p t l M.fact).1)) kinds.length),.own 23 1 v2,.own 3 1 v1]) (λ_ _ _=>False) ([.au hk 4 [.b false],.au gG 23 [fA cP kinds.length],eZ cP (hl [] kinds.length),.own 23 1 v2,.own 3 1 v1]) (H) (λb x=>[(12,fA b kinds.length),(35,fA b kinds.length),(9,.ptr (eR M)),(10,.p gG 0),(11,.p hk 0),(3,.ptr [ab.ew p t])]) rfl rfl rfl rfl (Is _ vy acn) cO ?_ ?_ ?_ ?_
   ·intro hE nw gd jN x eE;refine aF ?_;exact λa w s=>⟨_,rfl,s.weaken xc w8⟩
   ·intro hE xy fD pre jN x H1 eE nw gd lW eD;obtain rfl:=eD;have wM:x∈en kinds:=lW.subset aS;obtain⟨B5,acq⟩:=nM wM;have iW:=rf bD wM;obtain⟨A,DC⟩:∃A,A=(pre.filter (λl=>(di p t l M.fact).1)):=⟨_,rfl⟩;rw[<-DC];have DD:∀y∈A,y∈en kinds:=λy hy=>by rw[DC] at hy;exact lW.subset (List.mem_append_left _ (List.mem_filter.1 hy).1)
    refine aI ?_;refine ag (ad.qF .k (fp.outs (pre:=[ab.ew p t,ab.fact M.fact]) (post:=[]) (nb:=jN) (o:=x) ug B5 aa) (Dv aH b6 ra iW _ (aco x wM))) ?_;refine ag zy ?_;refine aF ?_;refine bc (λao=>?_) (λao=>?_)
    ·have ao:(di p t x M.fact).1=false:=by simpa using ao
     refine aF ?_;exact aZ.mx (H:=[.au hk 4 [.b (!A.isEmpty)],.au gG 23 [fA cP kinds.length],eZ cP (hl A kinds.length),.own 23 1 v2,.own 3 1 v1]) kq (by rw[xf (q:=(λl=>(di p t l M.fact).1)) ao, <-DC])
    ·have ao:(di p t x M.fact).1=true:=by simpa using ao
     refine eb ?_;rw[<-Iv A x];refine bo (λq st=>∃j:Nat,st=⟨[(45,.i j),(44,.i kinds.length),(43,fA jN kinds.length),(12,fA jN kinds.length),(9,.ptr (eR M)),(10,.p gG 0),(11,.p hk 0),(3,.ptr [ab.ew p t])],.loop hE fD (aD [(34,.fn (.func 116) [] [.ptr [ab.ints kinds]]),(8,.i m),(9,.ptr (eR M)),(10,.p gG 0),(11,.p hk 0),(21,.i m),(20,.i p.methods.length),(19,.ai 9 (p.methods.map eR)),(6,.as (ab.ints ((h3 p t gen kinds m).map (·.1))) v1),(7,.as (ab.bm ((h3 p t gen kinds m).map (·.2))) v2),(1,.i gen),(2,ab.ints kinds),(3,.ptr [ab.ew p t])])::.obj xy (.deferred (some []))::([.au hk 4 [.b true],.au gG 23 [fA cP kinds.length],eZ cP (mP A x kinds.length j),.own 23 1 v2,.own 3 1 v1]++([eZ jN x]++eE))⟩/\q=kinds.length - j/\j<=kinds.length) tp ?_;rintro q _ ⟨j,rfl,rfl,cm⟩;refine ax ?_;refine az (λaV=>?_) λaV=>?_
     ·have dH:j<kinds.length:=by omega
      obtain⟨c,a1,_⟩:=acq j dH;have pK:=iW _ (bI (l:=x) (k:=j) aa);rw[a1] at pK;have BG:lM A j<2^62:=Iu (m:=aJ p) aa A (λy hy=>by have IH:=(nM (DD y hy)).1;have dA:=rf bD (DD y hy) _ (bI (l:=y) (k:=j) aa);omega) (λy hy=>by have IH:=(nM (DD y hy)).1;have dA:=rf bD (DD y hy) _ (bI (l:=y) (k:=j) aa);omega);have wj:=Iy (L:=A) (x:=x) dH;rw[a1] at wj;refine aP ?_;refine ag Cz ?_;refine ag (ad.le (by apply ad.ij rfl rfl rfl;(case hm=>repeat (first | exact .head _ | refine .tail _ ?_));(case hy=>exact ints_at aa)) (an.b4 a1)) ?_;refine aY ?_;refine bP 6 71 ?_;refine aO ?_;refine bg Cz ?_;refine bg (ad.le EM (an.b4 (Ix dH))) ?_;refine aR ?_;refine bg (ad.shift rfl rfl rfl rfl rfl aa (mO c ⟨aa,aa⟩)) ?_;refine aO ?_;refine ag (ad.bits rfl rfl rfl rfl rfl (kg _ _ aa (Nat.pow_lt_pow_right (a:=2) (n:=63) c8 aa))) ?_;refine ag (ad.gU rfl rfl rfl rfl rfl aa) ?_;apply aj.fZ rfl rfl rfl rfl rfl rfl rfl rfl rfl rfl
      (case hu=>repeat (first | exact bG.head _ _ _ | apply bG.tail));(case hfit=>simp[yb];omega);(case hds=>exact (ints_set E2 _).trans EX)
      refine aP ?_;exact aW (⟨j+1,rfl,rfl,dH⟩)
     ·obtain rfl:j=kinds.length:=by omega
      rw[Iw];refine aT ?_;exact aZ.mx (H:=[.au hk 4 [.b true],.au gG 23 [fA cP kinds.length],eZ cP (hl (A++[x]) kinds.length),.own 23 1 v2,.own 3 1 v1]) kq (by rw[xe (q:=(λl=>(di p t l M.fact).1)) ao, <-DC,show (!(A++[x]).isEmpty)=true by simp])
   ·intro ot H1 eD;obtain rfl:=eD;have acr:(en kinds).filter (λl=>(di p t l M.fact).1)=hb p t M.fact kinds:=rfl;rw[acr];refine aP ?_;refine bc (λbu=>?_) (λbu=>?_)
    ·have dZ:hb p t M.fact kinds≠ []:=λe=>by rw[e] at bu;simp at bu
     obtain⟨G,fb⟩:∃G,G=hl (hb p t M.fact kinds) kinds.length:=⟨_,rfl⟩;rw[<-fb] at IG ⊢;rw[DB cP gG G 0];refine aB.perm (H':=.au cP 3 ((G.map λx=>[ab.i x]).flatten++[])::.au gG 23 ([]++fA cP kinds.length::[])::(.au hk 4 [.b (!(hb p t M.fact kinds).isEmpty)]::.own 23 1 v2::.own 3 1 v1::(gW (ot::pc)++H))) (((List.Perm.swap _ _ _).trans (.cons _ (.swap _ _ _))).trans (.swap _ _ _)) ?_;refine aB.ME (k:=1) (by rw[List.length_map,fb];simp[hl]) (λe he=>by obtain⟨y,_,rfl⟩:=List.mem_map.1 he;rfl) (Nat.le_refl _) h5 ?_;refine eA 10 ?_;refine aB.cw mixed ?_;refine b0.r5 (X:=n2) [⟨3,63,false⟩] (λJ=>match J with | [some a]=>.au hk 4 [.b (!(hb p t M.fact kinds).isEmpty)]::.own 23 1 v2::.own 3 1 a::(gW (ot::pc)++H) | _=>.au hk 4 [.b (!(hb p t M.fact kinds).isEmpty)]::.own 23 1 v2::.own 3 1 v1::(gW (ot::pc)++H)) (λq J=>match q,J with | 0,[some a]=>.as (.ai 1 (((h3 p t gen kinds m).map (·.1)).map (λn=>[ab.i n])++[[.i (m:Int)]])) a | _,_=>.any) 0 7 71 rfl aq aq rfl rfl aq rfl (λ_ _ _ _ _ _ _ _ _ h=>h.elim) ?_;refine cj [[false]] ⟨λf=>ad.move rfl rfl rfl,trivial⟩ ?_;refine cj [[false]] ⟨λf=>ad.move rfl rfl rfl,trivial⟩ ?_;refine cj [[false]] ⟨λf=>ad.row (els:=[[.i (m:Int)]]) rfl rfl cC rfl rfl rfl rfl rfl rfl,trivial⟩ ?_;refine cH.j4 0 [[false]] rfl rfl rfl aq rfl rfl rfl ⟨λf=>⟨ed.own (news:=[[.i (m:Int)]]) rfl rfl rfl (an.refl _) rfl rfl (an.refl _) rfl sO sO (λ_=>df) (λ_=>rfl),hI⟩,trivial⟩ ?_;refine cj [[true],[false]] ⟨λf=>ad.move rfl rfl rfl,λf=>ad.move rfl rfl rfl,trivial⟩ ?_;refine cj [[true],[false]] ⟨λf=>cJ,λf=>cJ,trivial⟩ ?_;refine cj [[true],[false]] ⟨λf=>ad.row (els:=[[ab.ints G]]) rfl rfl cC rfl rfl rfl rfl rfl rfl,λf=>ad.row (els:=[[ab.ints G]]) rfl rfl cC rfl rfl rfl rfl rfl rfl,trivial⟩ ?_;refine cH.nil (λf=>?_);simp only[kD,List.map_cons,List.map_nil,List.cons_append,List.nil_append];refine aR ?_;refine aj.dJ rfl rfl rfl rfl rfl rfl rfl rfl (an.refl _) (rfl) (λ_=>df) sO sO (λxz=>?_);refine ba ?_;refine aZ.n8 (ot::pc) (⟨m+1,f 63,xz,by rw[IG ae dZ,ID,IE],rfl,oo⟩) ?_ ?_ ?_
     ·omega
     ·repeat (first | exact trivial | refine⟨rfl,?_⟩)
     ·repeat (first | exact List.Sublist.refl _ | apply List.Sublist.cons_cons | refine List.Sublist.cons _ ?_)
    ·have dZ:hb p t M.fact kinds= []:=by simpa using bu
     refine aP ?_;refine aZ.n8 (ot::pc) (⟨m+1,v1,v2,by rw[QC dZ],rfl,oo⟩) ?_ ?_ ?_
     ·omega
     ·repeat (first | exact trivial | refine⟨rfl,?_⟩)
     ·repeat (first | exact List.Sublist.refl _ | apply List.Sublist.cons_cons | refine List.Sublist.cons _ ?_)
   ·intro ot QD pre H1 lW Aj;exact Aj.elim
 ·obtain rfl:m=p.methods.length:=by omega
  refine c4 ?_;refine aZ.k1 pc ([]) H (rs:=[.tmp 6,.tmp 7]) (H':=H) rfl gA (.tmp rfl (.tmp rfl (.nil))) (.cons (an.e2 _ _) (.cons (an.e2 _ _) .nil)) bC ?_;exact⟨cO,rfl⟩
def sq(p:Prog)(t:cI)(gen:Int)(kinds:ak):Bool:=nt p t && k6 p gen && ((kinds.length:Int)==fG p gen) && kinds.all (ct (aJ p))
def vz(p:Prog)(t:cI)(gen:Int)(kinds:ak):ab:=if sq p t gen kinds then .bk [ab.ints ((eI p t gen kinds).map (·.1)),ab.bm ((eI p t gen kinds).map (·.2)),.i 0] else .bk [ab.ints [],ab.bm [],.i 2]
def DE{t}{gen}(h:sq p t gen kinds=false):vz p t gen kinds= .bk [.ints [],.bm [],.i 2]:=if_neg (by rw[h];decide)
def II(f:(bw p).isSome){gen}(a:k6 p gen):fG p gen<=3:=by
 obtain⟨o,c⟩:=Option.isSome_iff_exists.1 f;simp[k6,Bool.and_eq_true,decide_eq_true_eq] at a;exact (qZ (iF c).2.2.1 (bI (l:=p.cT) (k:=gen.toNat) aa)).2
def acs{gen}(kinds:ak):(bif bif bif !true then true else decide (gen<0) then true else decide (gen>=(p.cT.length:Int)) then true else (kinds.length:Int) !=p.cT.getD gen.toNat default)= !(k6 p gen && ((kinds.length:Int)==fG p gen)):=by
 unfold k6 fG;rw[bne,show decide (gen<0)= !decide (gen>=0) by rw[Bool.eq_iff_iff];simp,show decide (gen>=(p.cT.length:Int))= !decide (gen<(p.cT.length:Int)) by rw[Bool.eq_iff_iff];simp];cases decide (gen>=0) <;> cases decide (gen<(p.cT.length:Int)) <;> rfl
def Uk(p){n}(h:(!bif bif !true then true else decide (n<0) then true else decide (n>=(p.cT.length:Int)))=true):k6 p n=true:=by
 unfold k6;simp at h ⊢;omega
def acu(c:(bw p).isSome)(t)(k):aG prog 52 [.i k,.ptr [ab.ew p t]] (.b (ct (aJ p) k)):=by
 intro H;refine aM func52 λB I g=>?_;have h:=nx c;have a:=qn p;refine bE ?_;refine gb (λaw=>.div rfl rfl rfl (cl aw) rfl aa (.inr zr)) ?_;refine ba ?_;refine gb (λaw=>.shift rfl rfl rfl rfl (cl aw) aa (mO _ ⟨aa,aa⟩)) ?_;refine ax ?_;refine aC 3 H ?_;exact⟨bq (by rw[a];exact Qn k),rfl⟩
def acv(f:p.Small){t}(c:(bw p).isSome=false)(gen)(kinds):aG prog 28 [ab.prog p,ab.dx t,.i gen,.ints kinds] (vz p t gen kinds):=by
 intro H;refine aM func28 λB I h=>?_;have a:sq p t gen kinds=false:=by unfold sq nt;rw[c];rfl
 refine dk ?_;refine ag (.call .k (Dy f t c)) ?_;refine aF ?_;refine bK (λdM=>?_);refine ax ?_;refine eA 11 ?_;refine jj ?_;refine gb (λaw=>v8) ?_;refine aT ?_;refine bc (λaf=>?_) λaf=>?_
 ·refine ba ?_;refine .cg (rs:=[.tmp 8,.tmp 9,.tmp 10]) (H':=H) rfl CD CC bC ?_;exact⟨by rw[DE a];rfl,rfl⟩
 ·simp at af
def acw(f:p.Small){t}(c:(bw p).isSome)(ht:iV p t=false)(gen)(kinds):aG prog 28 [ab.prog p,ab.dx t,.i gen,.ints kinds] (vz p t gen kinds):=by
 intro H;refine aM func28 λB I h=>?_;have a:sq p t gen kinds=false:=by unfold sq nt;rw[ht,Bool.and_false];rfl
 refine dk ?_;refine ag (.call .k (Dz f c ht)) ?_;refine aF ?_;refine bK (λdM=>?_);refine ax ?_;refine eA 11 ?_;refine jj ?_;refine gb (λaw=>v8) ?_;refine aT ?_;refine bc (λaf=>?_) λaf=>?_
 ·refine ba ?_;refine .cg (rs:=[.tmp 8,.tmp 9,.tmp 10]) (H':=H) rfl CD CC bC ?_;exact⟨by rw[DE a];rfl,rfl⟩
 ·simp at af
def acx(m:p.Small){t}(c:(bw p).isSome)(ht:iV p t)(gen)(kinds):aG prog 28 [ab.prog p,ab.dx t,.i gen,.ints kinds] (vz p t gen kinds):=by
 intro H;refine aM func28 λB I r=>?_;obtain⟨o,h,_⟩:=Ij ht;have f:sq p t gen kinds=(k6 p gen && ((kinds.length:Int)==fG p gen) && kinds.all (ct (aJ p))):=by unfold sq nt;rw[c,ht];rfl
 refine dk ?_;refine ag (.call .k (Ii m c ht)) ?_;refine aF ?_;refine bK (λdM=>?_);refine ax ?_;refine eA 11 ?_;refine jj ?_;refine gb (λaw=>(by first | exact .fC rfl rfl (cl aw) rfl (cl aw) ⟨Bw,Bw⟩ | exact .ep rfl rfl (cl aw) rfl (cl aw) ⟨Bw,Bw⟩)) ?_;refine aT ?_;rw[acs];refine bc (λaf=>?_) λaf=>?_
 ·rw[Bool.not_eq_true'] at af;refine ba ?_;refine .cg (rs:=[.tmp 8,.tmp 9,.tmp 10]) (H':=H) rfl CD CC bC ?_;exact⟨by rw[DE (by rw[f,af];rfl)];rfl,rfl⟩
 ·rw[Bool.not_eq_false'] at af;rw[af,Bool.true_and] at f;rw[Bool.and_eq_true,beq_iff_eq] at af;obtain⟨l,j⟩:=af;have q:=II c l;refine aP ?_;refine ag (.call .k (Ag (.of (acu c t)) _)) ?_;refine aF ?_;refine bc (λae=>?_) λae=>?_
  ·have ae:kinds.all (ct (aJ p))=false:=by simpa using ae
   refine ba ?_;refine .cg (rs:=[.tmp 8,.tmp 9,.tmp 10]) (H':=H) rfl CD CC bC ?_;exact⟨by rw[DE (by rw[f,ae])];rfl,rfl⟩
  ·have ae:kinds.all (ct (aJ p))=true:=by simpa using ae
   rw[ae] at f;refine aP ?_;refine ag (.call .k (acm c o h (List.all_eq_true.1 ae) j aa)) ?_;refine gL ?_;refine dL [.tmp 8,.tmp 9,.tmp 10] H ?_;exact⟨by rw[vz,if_pos f];rfl,rfl⟩
def acy(a:p.Small)(t)(gen)(kinds):aG prog 28 [ab.prog p,ab.dx t,.i gen,.ints kinds] (vz p t gen kinds):=by
 cases aH:(bw p).isSome with
 | false=>exact acv a aH gen kinds
 | true=>
  cases ht:iV p t with
  | false=>exact acw a aH ht gen kinds
  | true=>exact acx a aH ht gen kinds
def ny(k:Int)(l:ak):List ak:=(gf k.toNat).map λ(c:Nat)=>l++[(c:Int)]
def hp(kinds:ak):Nat->List ak
 | 0=>[[]]
 | i+1=>(hp kinds i).flatMap (ny (kinds.getD i default))
theorem QE{kinds}:∀{i:Nat},i<=kinds.length->(hp kinds i).flatMap (λq=>(en (kinds.drop i)).map λl=>q++l)=en kinds
 | 0,_=>by simp[hp]
 | i+1,h=>by
  refine Eq.trans ?_ (QE (i:=i) aa);rw[hp,List.flatMap_assoc];congr 1;funext q;have e:kinds.drop i=kinds.getD i default::kinds.drop (i+1):=by
   rw[List.drop_eq_getElem_cons aa,List.getD_eq_getElem?_getD,List.getElem?_eq_getElem aa];rfl
  rw[e,en,List.map_flatMap,ny,List.flatMap_map];congr 1;funext c;rw[List.map_map];congr 1;funext l;simp
def acz(kinds):hp kinds kinds.length=en kinds:=by
 have:=QE (kinds:=kinds) (i:=kinds.length) fs;rw[<-this,List.drop_length];simp[en]
def QF(k):(gf k).length<=62:=by
 have:=List.length_filter_le k.testBit (List.range 62);rwa [List.length_range] at this
theorem QG(kinds):∀i,(hp kinds i).length<=62^i
 | 0=>by simp[hp]
 | i+1=>by
  rw[hp,List.length_flatMap];have f:∀(L:List ak),(L.map λa=>(ny (kinds.getD i default) a).length).sum<=L.length*62:=by
   intro L
   induction L with
   | nil=>simp
   | cons x r g=>
    rw[List.map_cons,List.sum_cons,List.length_cons];have:(ny (kinds.getD i default) x).length<=62:=by rw[ny,List.length_map];exact QF _
    omega
  have:=f (hp kinds i);have c:=QG kinds i;rw[Nat.pow_succ];have:=Nat.mul_le_mul_right 62 c;omega
def acA{F:ak->List ak}(h:k<L.length):(L.take (k+1)).flatMap F=(L.take k).flatMap F++F (L.getD k default):=by
 rw[<-c2 h,List.flatMap_append];simp
def Uc{x}(h:L.length<=n):((L.take k).flatMap (ny x)).length<=n*62:=by
 rw[List.length_flatMap];have f:∀(L:List ak),(L.map λa=>(ny x a).length).sum<=L.length*62:=by
  intro L
  induction L with
  | nil=>simp
  | cons y r j=>
   rw[List.map_cons,List.sum_cons,List.length_cons];have:(ny x y).length<=62:=by rw[ny,List.length_map];exact QF _
   omega
 have g:=f (L.take k);have c:(L.take k).length<=n:=by rw[List.length_take];omega
 have:=Nat.mul_le_mul_right 62 c;omega
def acB{k c}(h:k.testBit c=true)(l)(X):ab.bm (X++(eN k (c+1)).map λ(d:Nat)=>l++[(d:Int)])= .ai 1 ((X++(eN k c).map λ(d:Nat)=>l++[(d:Int)]).map (λn=>[.ints n])++[[.ints (l++[(c:Int)])]]):=by
 rw[Ai h,List.map_append, <-List.append_assoc];show ab.ai 1 (List.map _ (_++_))=_;rw[List.map_append];rfl
def Ud(k n)(h:n<=62):(eN k n).length<=62:=by
 have:=List.length_filter_le k.testBit (List.range n);rw[List.length_range] at this;unfold eN;omega
def acC(G:(bw p).isSome){kinds}(J:∀k∈kinds,ct (aJ p) k=true)(O:kinds.length<=3):aG prog 121 [.ints kinds] (.bm (en kinds)):=by
 intro H;refine aM func121 λB I U=>?_;have E:=nx G;have R:=o8 G;refine aP ?_;refine ag h7 ?_;refine bY ?_;refine .le 3 (y:=.bm (hp kinds 0)) rfl (.ai (.cons tq .nil)) ?_;refine bo (λq t=>∃i:Nat,t=⟨[(4,.i i),(3,.bm (hp kinds i)),(0,.ints kinds)],H⟩/\q=kinds.length - i/\i<=kinds.length) tp ?_;rintro q _ ⟨i,rfl,rfl,T⟩;refine ba ?_;refine az (λaf=>?_) λaf=>?_
 ·have s:i<kinds.length:=by omega
  obtain⟨a,r,f⟩:=tN (J _ (bI s));obtain⟨eJ,B⟩:∃eJ,eJ=(kinds.getD i default).toNat:=iO;rw[<-B] at a r f;have ya:(hp kinds i).length<=4000000:=Nat.le_trans (QG kinds i) (Nat.le_trans (Nat.pow_le_pow_right c8 (show i<=3 by omega)) c8);have w:hp kinds (i+1)=(hp kinds i).flatMap (ny (eJ:Int)):=by rw[hp, <-a]
  refine ji ?_;refine hh 5 23 1 ?_;refine bo (λq t=>∃(k:Nat) (v:Value),t=⟨[(6,.i k),(5,.as (.bm (((hp kinds i).take k).flatMap (ny (eJ:Int)))) v),(4,.i i),(3,.bm (hp kinds i)),(0,.ints kinds)],.own 23 1 v::H⟩/\q=(hp kinds i).length - k/\k<=(hp kinds i).length) (⟨0,_,rfl,rfl,aa⟩) ?_;rintro q _ ⟨k,v,rfl,rfl,Q⟩;refine ba ?_;refine az (λae=>?_) λae=>?_
  ·have g:k<(hp kinds i).length:=by omega
   obtain⟨l,D⟩:∃l,l=(hp kinds i).getD k default:=iO;have o:=acA (F:=ny (eJ:Int)) g;rw[<-D] at o;have N:l.length<=1000:=by
    have:∀j,∀y∈hp kinds j,y.length=j:=by
     intro j
     induction j with
     | zero=>intro y m;simp[hp] at m;rw[m];rfl
     | succ j M=>
      intro y m;rw[hp,List.mem_flatMap] at m;obtain⟨z,C,A⟩:=m;obtain⟨c,_,rfl⟩:=List.mem_map.1 A;rw[List.length_append,M z C];rfl
    have:=this i l (D▸bI g);omega
   refine bY ?_;refine bo (λq t=>∃(c:Nat) (v:Value),t=⟨[(7,.i c),(6,.i k),(5,.as (.bm (((hp kinds i).take k).flatMap (ny (eJ:Int))++(eN eJ c).map λ(d:Nat)=>l++[(d:Int)])) v),(4,.i i),(3,.bm (hp kinds i)),(0,.ints kinds)],.own 23 1 v::H⟩/\q=40 - c/\1<=c/\c<=40) ⟨1,v,by rw[Im f,List.map_nil,List.append_nil],rfl,aa,aa⟩ ?_;rintro q _ ⟨c,v,rfl,rfl,P,V⟩;refine aP ?_;refine az (λao=>?_) λao=>?_
   ·have h:c<40:=by omega
    refine ba ?_;refine ag (.le uW (.b4 a)) ?_;refine aR ?_;refine ag (.call .k (so eJ c aa)) ?_;refine aO ?_;refine bc (λaV=>?_) λaV=>?_
    ·refine aO ?_;refine .yU rfl rfl rfl rfl λPC=>?_;refine aF ?_;refine ag (.le uW (by rw[<-D];exact .refl _)) ?_;refine .dJ rfl rfl rfl rfl rfl rfl rfl rfl gu (sa _) (λ_=>df) Be Be λv37=>?_;refine aR ?_;refine .cn (x:=.ai 1 [[.i (c:Int)]]) rfl rfl rfl h7 ?_;refine aj.dJ rfl rfl rfl rfl rfl rfl rfl rfl (an.refl _) (rfl) (λ_=>df) Be Be λv40=>?_;refine .le 40 (y:=.ints (l++[(c:Int)])) rfl (by rw[show ab.ints (l++[(c:Int)])= .ai 1 ([]++l.map (λn=>[.i n])++[[.i (c:Int)]]) by show ab.ai 1 (List.map _ _)=_;rw[List.map_append];rfl];exact an.e2 _ _) ?_;refine aj.cn (x:=.ai 1 [[ab.ints (l++[(c:Int)])]]) rfl rfl rfl (ad.row rfl rfl cC rfl rfl rfl rfl rfl rfl) ?_;refine aj.dJ rfl rfl rfl rfl rfl rfl rfl rfl (an.refl _) (rfl) (λ_=>df) Kr Kr (λzX=>?_);refine ba ?_;exact aW (⟨c+1,zX,by rw[acB aV],rfl,aa,h⟩)
    ·refine aI ?_;exact aW (⟨c+1,v,by rw[Io aV],rfl,aa,h⟩)
   ·obtain rfl:c=40:=by omega
    rw[Ac (k:=eJ) (n:=40) (by have:2^aJ p<=2^40:=Nat.pow_le_pow_right c8 aa;omega) c8,show (gf eJ).map (λ(d:Nat)=>l++[(d:Int)])=ny (eJ:Int) l from rfl, <-o];refine bE ?_;exact aW (⟨k+1,v,rfl,rfl,g⟩)
  ·obtain rfl:k=(hp kinds i).length:=by omega
   rw[List.take_length, <-w];refine aT ?_;refine aB.le 5 (y:=ab.bm (hp kinds (i+1))) rfl (an.e2 _ _) ?_;refine bE ?_;exact aW (⟨i+1,rfl,rfl,s⟩)
 ·obtain rfl:i=kinds.length:=by omega
  rw[acz];refine bR ?_;refine aC 2 (H) ?_;exact⟨cO,rfl⟩
end Go.Proofs.YtodccgailpkgeaaGreat

namespace Go.Eng.dN
open Go.Eng.Fc
variable{p:Prog}{next:Bool}{a b c:ak}
abbrev js(p:Prog)(n:Int):hi:=p.nodes.getD n.toNat default
def h4(p:Prog)(next:Bool):Nat->Int->Int->Prop
 | 0,_,_=>False
 | f+1,n,bB=>(0<=n/\n<p.nodes.length)/\pV p next (js p n) bB=true/\∀i,i<(js p n).kids.length->h4 p next f ((js p n).kids.getD i default) (if(js p n).op=9/\i=1 then bB+1 else bB)
def Seen(p:Prog)(next:Bool)(out o:ak):Prop:=∀j,o.getD j default≠out.getD j default->∃f n bB,n.toNat=j/\h4 p next f n bB
def Seen.refl(o):Seen p next o o:=λj h=>absurd rfl h
def Seen.trans(g:Seen p next a b)(f:Seen p next b c):Seen p next a c:=λj h=>by
 by_cases e:b.getD j default=a.getD j default
 ·exact f j (by rw[e];exact h)
 ·exact g j e
theorem QH(x)(op):∀(l:ak) (j i:Nat),i<l.length->gR x op (j+i) (l.getD i default)∈hC x op j l
 | [],j,i,h=>by simp at h
 | k::r,j,0,h=>by rw[hC];exact .head _
 | k::r,j,i+1,h=>by
  rw[hC];have:=QH x op r (j+1) i gQ;rw[show j+1+i=j+(i+1) by omega] at this;exact .tail _ this
theorem QI{p}{next}{f}(m:∀x a o,(visit p next f x a).2=some o->h4 p next f x.n x.bB/\Seen p next a o):∀(l:List dw) (a o:ak),(eS (visit p next f) l a).2=some o->(∀y∈l,h4 p next f y.n y.bB)/\Seen p next a o
 | [],a,o,h=>by
  simp[eS,Option.some.injEq] at h;subst h;exact⟨λy c=>by(cases c),Seen.refl _⟩
 | y::r,a,o,h=>by
  simp[eS] at h;rcases c:visit p next f y a with⟨A,_ | j⟩
  ·rw[c] at h;simp at h
  ·rw[c] at h;simp only at h;obtain⟨t,s⟩:=m y a j (by rw[c]);obtain⟨v,w⟩:=QI m r j o h;refine⟨λz g=>?_,s.trans w⟩;rcases List.mem_cons.1 g with rfl | g
   ·exact t
   ·exact v z g
theorem IJ{p}{next}:∀(f:Nat) (x:dw) (a o:ak),(visit p next f x a).2=some o->h4 p next f x.n x.bB/\Seen p next a o
 | 0,x,a,o,h=>by simp[visit] at h
 | f+1,x,a,o,h=>by
  rw[visit] at h;split at h
  ·rename_i c;obtain⟨r,q⟩:=QI (IJ f) _ _ _ h;rw[fc,Bool.and_eq_true] at c;have g:=c.1;simp[mI,Bool.and_eq_true,decide_eq_true_eq] at g;have l:h4 p next (f+1) x.n x.bB:=⟨⟨g.1.1.1,g.1.1.2⟩,c.2,λi s=>by
    have:=r _ (QH x (fu p x).op (fu p x).kids 0 i s);rw[Nat.zero_add] at this;exact this⟩
   refine⟨l,Seen.trans (λj t=>?_) q⟩;by_cases e:x.n.toNat=j
   ·exact⟨_,_,_,e,l⟩
   ·exfalso;apply t;rw[iE,List.getD_eq_getElem?_getD,List.getElem?_set,if_neg e, <-List.getD_eq_getElem?_getD]
  ·cases h
def xA(p:Prog)(out o:ak):Prop:=∀j,o.getD j default≠out.getD j default->∃next f n bB,n.toNat=j/\h4 p next f n bB
def Seen.any(h:Seen p next a b):xA p a b:=λj c=>⟨next,h j c⟩
def xA.trans(g:xA p a b)(f:xA p b c):xA p a c:=λj h=>by
 by_cases e:b.getD j default=a.getD j default
 ·exact f j (by rw[e];exact h)
 ·exact g j e
theorem QJ{p}:∀(l:List jm) (a o:ak),gZ p l a=some o->(∀m∈l,h4 p (k4 m) 13 m.node (p.cT.getD m.gen.toNat default))/\xA p a o
 | [],a,o,h=>by
  rw[gZ] at h;cases h;exact⟨λy A=>by(cases A),(Seen.refl (next:=false) _).any⟩
 | m::r,a,o,h=>by
  rw[gZ] at h;split at h
  ·cases bd:(visit p (k4 m) 13 (mr p m) a).2 with
   | none=>rw[bd] at h;cases h
   | some s=>
    rw[bd] at h;obtain⟨v,t⟩:=IJ 13 _ _ _ bd;obtain⟨w,x⟩:=QJ r s o h;refine⟨λz c=>?_,t.any.trans x⟩;rcases List.mem_cons.1 c with rfl | c
    ·exact v
    ·exact w z c
  ·cases h
def tR(D:(bw p).isSome):(∀m∈p.methods,h4 p (k4 m) 13 m.node (p.cT.getD m.gen.toNat default))/\h4 p false 13 p.main 0/\∀n,n<p.nodes.length->∃next f q,h4 p next f (n:Int) q:=by
 obtain⟨o,w⟩:=Option.isSome_iff_exists.1 D;obtain⟨_,_,_,K,J,E,x⟩:=iF w;obtain⟨F,A⟩:=QJ _ _ _ J;obtain⟨B,G⟩:=IJ 13 _ _ _ E;refine⟨F,B,λn C=>?_⟩;have L:=(sb w).1;have j:o.getD n default≠(iT p).getD n default:=by
  have e:(iT p).getD n default= -1:=by simp[iT,C]
  rw[e];intro h;have c:o.getD n default∈o:=bI aa;rw[h] at c;rw[List.contains_eq_mem,decide_eq_false_iff_not] at x;exact x c
 obtain⟨next,f,m,q,I,s⟩:=(A.trans G.any) n j;have r:m=(n:Int):=by
  cases f with
  | zero=>exact s.elim
  | succ f=>have:=s.1.1;omega
 subst r;exact⟨next,f,q,s⟩
section
variable{p:Prog}{next:Bool}{f:Nat}{n bB:Int}
def tS(h:h4 p next f n bB):0<=n/\n<p.nodes.length:=by
 cases f with
 | zero=>exact h.elim
 | succ f=>exact h.1
def QK(h:h4 p next f n bB):pV p next (js p n) bB=true:=by
 cases f with
 | zero=>exact h.elim
 | succ f=>exact h.2.1
def Ak(h:h4 p next f n bB):∀k∈(js p n).kids,0<=k/\k<p.nodes.length:=by
 cases f with
 | zero=>exact h.elim
 | succ f=>
  intro k c;obtain⟨i,a,rfl⟩:=List.getElem_of_mem c;have:=tS (h.2.2 i a);rwa [List.getD_eq_getElem?_getD,List.getElem?_eq_getElem a] at this
def DF(h:h4 p next f n bB):(ik (js p n).op=some none->((js p n).kids.length:Int)=p.cT.getD (js p n).n.toNat default)/\∀k,ik (js p n).op=some (some k)->(js p n).kids.length=k:=by
 have a:=QK h;simp only[pV,Bool.and_eq_true] at a;refine⟨λe=>?_,λk e=>?_⟩
 ·have:=a.2;rw[e] at this;simpa using this
 ·have:=a.2;rw[e] at this;simpa using this
def Al(h:h4 p next f n bB):gC p (js p n) bB=true/\ik (js p n).op≠none/\((js p n).op=18->next=true):=by
 have a:=QK h;simp only[pV,Bool.and_eq_true] at a;refine⟨a.1.1,λe=>?_,λe=>?_⟩
 ·have:=a.2;rw[e] at this;cases this
 ·have:=a.1.2;rw[e] at this;simpa using this
end
def xB(p:Prog)(t:cI)(gen:Int)(l:ak):Bool:=p.methods.any λM=>M.gen==gen && M.kind==1 && di p t l M.fact==(true,false)
def DG(p:Prog)(t:cI)(gen:Int)(kinds:ak):Bool:=(en kinds).all (xB p t gen)
def kj(t:cI)(y:hi):ak:=y.kids.map λk=>t.nodes.getD k.toNat default
def k9(p:Prog)(t:cI)(y:hi):Bool:=
 if y.op=4\/y.op=7 then (gf ((kj t y).getD 0 default).toNat).all (λc=>dT p c y.n)
 else if y.op=8 then decide (((kj t y).getD 0 default).toNat &&& 6=0)
 else if y.op=5 then DG p t y.n (kj t y) else true
def IK(p:Prog)(t:cI):cW:=p.nodes.map (k9 p t)
end Go.Eng.dN

namespace Go.Proofs.YtodccgailpkgeaaGreat
open Go.Proofs.Tryz
open Go.Eng
open Go.Eng.Fc
open Go.Eng.dN
variable{f:Fn}{cz cs:bl}{iz:aA}{p:Prog}{l:List jm}{t:cI}{y:hi}
def acD{B}{F}{J Jx}(l)(h:uI B prog (.fn f cz cs) (λM:jm=>.agg (eR M)) l F J Jx)(H Hx)(hF:F Hx)(o:J [] H):
  eK B prog 118 [.ai 9 (l.map eR),.fn f cz cs] (H++Hx) (wJ J Jx l Hx) (λ_ _=>False):=by
 refine .of func118 rfl ay rfl rfl λI r=>?_;refine .eG (t:=0) rfl λgV=>?_;refine c4 ?_;refine bo (λm j=>∃(k:Nat) (c:aA),j=⟨[(8,.i k),(7,.i l.length),(0,.ai 9 (l.map eR)),(1,.fn f cz cs)],c++Hx⟩/\m=l.length - k/\k<=l.length/\J (l.take k) c) ⟨0,H,rfl,rfl,aS,o⟩ ?_;rintro m _ ⟨k,c,rfl,rfl,q,kr⟩;refine ax ?_;refine az (λaf=>?_) λaf=>?_
 ·refine gL ?_;refine .n1 rfl rfl rfl rfl rfl rfl rfl rfl cL (h (l.take k) (l.getD k default) c Hx Bn hF kr) ?_;rintro _ _ ⟨b,g,rfl,rfl,a,qt⟩;rw[c2 aa] at a qt;refine aO ?_;refine az (λae=>?_) λae=>?_
  ·refine bR ?_;refine .cg (rs:=[.tmp 4]) rfl eQ cL bC ?_;exact⟨g,rfl,.inr ⟨l.take k,l.getD k default,l.drop (k+1),C5 aa,fK Bq,Bv⟩⟩
  ·refine aP ?_;exact aW ⟨k+1,g,rfl,rfl,aa,a ae⟩
 ·refine bE ?_;refine .cg (rs:=[.tmp 4]) rfl eQ cL bC ?_;exact⟨c,rfl,.inl ⟨rfl,Bi⟩⟩
def acE{p}(a:nf prog iz (.fn f cz cs) (λM:jm=>.agg (eR M)) l p):yS prog iz 118 [.ai 9 (l.map eR),.fn f cz cs] (λy=>∃n:Int,y= .i n/\decide (n>=0)=l.any p):=
 FQ ay (λB F J m h H g j c=>acD l h H g j c) a
def acF{p}(c:nf prog iz (.fn f cz cs) (λM:jm=>.agg (eR M)) l p):hP prog iz 80 [.ai 9 (l.map eR),.fn f cz cs] (.b (l.any p)):=by
 intro H h;refine aM func80 λB I j=>?_;refine ba ?_;refine .F4 rfl rfl rfl .k (acE c) h λy a=>?_;obtain⟨n,rfl,g⟩:=a;refine aT ?_;refine aC 4 H ?_;exact⟨bq g,rfl⟩
def acG(x y):(tO x==tO y)=(x==y):=by
 obtain⟨a,b⟩:=x;obtain⟨c,d⟩:=y;cases a <;> cases b <;> cases c <;> cases d <;> rfl
def acH(h:(bw p).isSome)(q:lF p t)(a:(t.av.length:Int)=p.av){gen}{x:ak}(l:x.length<=1000)(g:∀c∈x,1<=c/\c<aJ p){b n:Nat}(hn:x.length=n)(M:jm)(j:M.gen=gen->ir p x M.fact):hP prog [eZ b x] 81 [.agg (eR M),.ptr [.i gen],.ptr [ab.ew p t],.ptr [fA b n]] (.b (M.gen==gen && M.kind==1 && di p t x M.fact==(true,false))):=by
 intro H m;refine aM (n:=24) func81 λB I r=>?_;refine nk ?_;refine aj.db rfl rfl rfl rfl rfl rfl (λaw=>ad.qF (.mk' rfl rfl rfl rfl c9) (fp.outs (pre:=[ab.ew p t,ab.fact M.fact]) (post:=[]) (nb:=b) (o:=x) (m _ (.head _)) hn aa) (Dv h q a g _ (j (by have f:=aw;simp at f;exact f.1)))) ?_;refine gb (λaw=>ad.call .k (CG true false)) ?_;refine ax ?_;refine aC 5 (H) ?_;exact⟨bq (by rw[acG];cases M.gen==gen <;> cases M.kind==1 <;> rfl),rfl⟩
def acI{a:Type}{q:a->Bool}{pre:List a}{x:a}(h:pre.all q=true)(c:q x=true):(pre++[x]).all q=true:=by rw[List.all_append,h,List.all_cons,c];rfl
def acJ{a:Type}{q}{l:List a}{x:a}(c:x∈l)(h:q x=false):l.all q=false:=by
 rw[List.all_eq_false];exact⟨x,c,wv⟩
def acK(G:(bw p).isSome)(X:lF p t)(K:(t.av.length:Int)=p.av){gen}{kinds}(N:∀k∈kinds,ct (aJ p) k=true)(L:(kinds.length:Int)=fG p gen)(h:kinds.length<=1000):aG prog 39 [ab.ew p t,.i gen,.ints kinds] (.b (DG p t gen kinds)):=by
 intro H;refine .qC func39 rfl ay rfl rfl λB I bW=>?_;have C:=It G N;refine aY ?_;refine bK (λcV=>?_);refine ax ?_;refine ag (.call .k ((Ir _))) ?_;refine aF ?_;refine .weaken (st':=⟨[(9,.fn (.func 116) [] [.ptr [.ints kinds]]),(3,.ptr [ab.ew p t]),(4,.ptr [.i gen]),(6,.p cV 0)],[.au cV 4 [.b false]]++(gW []++H)⟩) hW gA ?_;refine .qU [] (λb (_:ak)=>fA b kinds.length) (λb x=>[eZ b x]) (en kinds) (λpre H=>H= [.au cV 4 [.b false]]/\pre.all (xB p t gen)=true) (λcode _ H=>code= .ret/\H= [.au cV 4 [.b false]]/\DG p t gen kinds=false) ([.au cV 4 [.b false]]) H (λb x=>[(7,.ptr [fA b kinds.length]),(10,fA b kinds.length),(3,.ptr [ab.ew p t]),(4,.ptr [.i gen]),(6,.p cV 0)]) rfl rfl rfl rfl (Is _ C h) (zr) ?_ ?_ ?_ ?_
 ·intro V W U O x Y;refine aR ?_;refine bK (λgG=>?_);refine aO ?_;exact λa w s=>⟨_,rfl,(s.pC (d:=7) rfl pq).weaken xc w8⟩
 ·intro V q fD pre O x Q Y W U c D;obtain⟨rfl,v⟩:=D;have f:x∈en kinds:=c.subset aS;obtain⟨g,a0⟩:=nM f;have r:=rf N f;have J:∀M∈p.methods,M.gen=gen->ir p x M.fact:=λM B T=>by
   obtain⟨j,Z,rfl⟩:=List.getElem_of_mem B;have F:jr p (j:Int)=true:=by unfold jr;simp;omega
   have e:p.methods.getD ((j:Int)).toNat default=p.methods[j]:=by rw[show ((j:Int)).toNat=j from rfl,List.getD_eq_getElem?_getD,List.getElem?_eq_getElem Z];rfl
   have P:=Ah G F (l:=x) (by rw[g,L];unfold sU;rw[e,T]);rw[e] at P;exact P
  refine ba ?_;refine ag (.hX .k (c0.refl _) (acF (.of (λM B=>acH (b:=O) G X K (x:=x) aa r g M (J M B)))) (λe S=>by rw[List.mem_singleton] at S;subst S;simp[eZ])) ?_;refine aF ?_;refine bc (λaf=>?_) λaf=>?_
  ·have af:xB p t gen x=false:=by unfold xB;simpa using af
   refine aP ?_;exact .Ft (H:=[.au cV 4 [.b false]]) kq ⟨rfl,rfl,acJ f af⟩
  ·have af:xB p t gen x=true:=by unfold xB;simpa using af
   refine aO ?_;exact .mx (H:=[.au cV 4 [.b false]]) kq ⟨rfl,acI v af⟩
 ·intro q Q D;obtain⟨rfl,v⟩:=D;refine aI ?_;refine .k1 (q::[]) ([.au cV 4 [.b true]]) H (rs:=[.cell 6 4]) (H':=H) rfl gA sR cL bC ?_;exact⟨bq v.symm,rfl⟩
 ·intro q A pre Q c E;obtain⟨rfl,rfl,z⟩:=E
  ·refine aF ?_;refine .k1 (q::[]) ([.au cV 4 [.b false]]) H (rs:=[.cell 6 4]) (H':=H) rfl gA sR cL bC ?_;exact⟨bq z.symm,rfl⟩
def acL(q:(bw p).isSome)(ht:iV p t){i}(A:i<p.nodes.length){y}(hy:y=p.nodes.getD i default):
  (∀k∈y.kids,0<=k/\k<t.nodes.length)/\(∀k∈kj t y,ct (aJ p) k=true)/\(y.op=4\/y.op=7\/y.op=8->0<y.kids.length)/\(y.op=5->(y.kids.length:Int)=fG p y.n)/\y.kids.length<=3:=by
 obtain⟨next,f,D,m⟩:=(tR q).2.2 i A;have e:js p (i:Int)=y:=by rw[hy];rfl
 have r:=Ak m;obtain⟨j,c⟩:=DF m;obtain⟨a,g,_⟩:=Al m;rw[e] at r j c a g;simp only[iV,Bool.and_eq_true,decide_eq_true_eq] at ht;have z:=ht.1.1.1.1.2;have o:=List.all_eq_true.1 ht.1.2;have l:∀k∈y.kids,0<=k/\k<t.nodes.length:=λk h=>by have:=r k h;omega
 have s:y.op=5->(y.kids.length:Int)=fG p y.n:=λh=>j (by rw[h];rfl);refine⟨l,λk h=>?_,λh=>?_,s,?_⟩
 ·obtain⟨x,C,rfl⟩:=List.mem_map.1 h;have:=l x C;exact o _ nm
 ·rcases h with h | h | h
  ·have:=c 1 (by rw[h];rfl);omega
  ·have:=c 2 (by rw[h];rfl);omega
  ·have:=c 1 (by rw[h];rfl);omega
 ·by_cases h:y.op=5
  ·have v:k6 p y.n=true:=by
    rw[gC,h] at a;simp[rG] at a;unfold k6;simp;omega
   have:=II q v;have:=s h;omega
  ·have B:∃k,k<=3/\ik y.op=some (some k):=by
    revert g;unfold ik;rw[if_neg h];split
    ·exact λ_=>⟨0,aa,rfl⟩
    ·split
     ·exact λ_=>⟨1,aa,rfl⟩
     ·split
      ·exact λ_=>⟨2,aa,rfl⟩
      ·split
       ·exact λ_=>⟨3,aa,rfl⟩
       ·exact λh=>absurd rfl h
   obtain⟨k,E,w⟩:=B;have:=c k w;omega
def acM:kj t y=(y.kids.take y.kids.length).map λk=>t.nodes.getD k.toNat default:=by rw[List.take_length];rfl
def acN(t)(y):(kj t y).length=y.kids.length:=List.length_map _
def acO{j}(h:j<y.kids.length):ab.ints ((y.kids.take (j+1)).map λk=>t.nodes.getD k.toNat default)= .ai 1 ((((y.kids.take j).map λk=>t.nodes.getD k.toNat default).map λn=>[.i n])++[[.i (t.nodes.getD (y.kids.getD j default).toNat default)]]):=by
 rw[<-c2 h,List.map_append];show ab.ai 1 (List.map _ (_++_))=_;rw[List.map_append];rfl
def acP{i}(h:i<p.nodes.length){b}(a:b=k9 p t (p.nodes.getD i default)):ab.du ((p.nodes.take (i+1)).map (k9 p t))= .ai 1 ((((p.nodes.take i).map (k9 p t)).map λb=>[.b b])++[[.b b]]):=by
 subst a;rw[<-c2 h,List.map_append];show ab.ai 1 (List.map _ (_++_))=_;rw[List.map_append];rfl
def QL(h:y.op=4\/y.op=7){k:Nat}(a:(kj t y).getD 0 default=(k:Int)):(gf k).all (λc=>dT p c y.n)=k9 p t y:=by
 rw[k9,if_pos h,a];rfl
def acQ(h:y.op=8){k:Nat}(a:(kj t y).getD 0 default=(k:Int)):(((k &&& 6:Nat):Int)==0)=k9 p t y:=by
 rw[k9,if_neg aa,if_pos h,a,Bool.eq_iff_iff];simp
def acR(h:y.op=5):DG p t y.n (kj t y)=k9 p t y:=by
 rw[k9,if_neg aa,if_neg aa,if_pos h]
def acS(f: ¬y.op=4)(g: ¬y.op=7)(c: ¬y.op=8)(a: ¬y.op=5):true=k9 p t y:=by
 rw[k9,if_neg aa,if_neg c,if_neg a]
def acT(c:p.Small){t}(a:(bw p).isSome=false):aG prog 11 [ab.prog p,ab.dx t] (.bk [ab.du [],.i 2]):=by
 intro H;refine aM func11 λB I g=>?_;refine bR ?_;refine ag (.call .k (Dy c t a)) ?_;refine aF ?_;refine bK (λdM=>?_);refine ax ?_;refine eA 6 ?_;refine aT ?_;refine bc (λaf=>?_) λaf=>?_
 ·refine aI ?_;refine .cg (rs:=[.tmp 4,.tmp 5]) (H':=H) rfl (.tmp rfl (.tmp rfl (.nil))) (.cons (an.nil 1) (.cons (.refl _) .nil)) bC ?_;exact⟨cO,rfl⟩
 ·simp at af
def acU(c:p.Small){t}(a:(bw p).isSome)(ht:iV p t=false):aG prog 11 [ab.prog p,ab.dx t] (.bk [ab.du [],.i 2]):=by
 intro H;refine aM func11 λB I g=>?_;refine bR ?_;refine ag (.call .k (Dz c a ht)) ?_;refine aF ?_;refine bK (λdM=>?_);refine ax ?_;refine eA 6 ?_;refine aT ?_;refine bc (λaf=>?_) λaf=>?_
 ·refine aI ?_;refine .cg (rs:=[.tmp 4,.tmp 5]) (H':=H) rfl (.tmp rfl (.tmp rfl (.nil))) (.cons (an.nil 1) (.cons (.refl _) .nil)) bC ?_;exact⟨cO,rfl⟩
 ·simp at af
def acV(ck:p.Small){t:cI}(aH:(bw p).isSome)(ht:iV p t):aG prog 11 [ab.prog p,ab.dx t] (.bk [ab.du (IK p t),.i 0]):=by
 intro H;refine bO.qC (n:=85) func11 rfl ay rfl rfl (λB I bW=>?_);obtain⟨b6,ra,_⟩:=Ij ht;have QB:=o8 aH;have DH:p.nodes.length<=120:=by
  obtain⟨o,bb⟩:=Option.isSome_iff_exists.1 aH;exact (sb bb).2
 refine bR ?_;refine ag (ad.call .k (Ii ck aH ht)) ?_;refine aF ?_;refine aj.uP rfl rfl rfl rfl (λdM=>?_);refine ax ?_;refine aB.pC (d:=6) rfl pq ?_;refine aT ?_;refine aB.cond rfl (λaf=>?_) (λaf=>?_)
 ·simp at af
 ·refine gL ?_;refine aB.qx 8 4 1 rfl ?_;refine aB.zo (λq st=>∃(i:Nat) (v1:Value),st=⟨[(27,.i i),(26,.i p.nodes.length),(25,.ai 3 (p.nodes.map ia)),(8,.as (ab.du ((p.nodes.take i).map (k9 p t))) v1),(6,.ptr [ab.ew p t]),(3,.ptr (ns t))],[.own 4 1 v1]⟩/\q=p.nodes.length - i/\i<=p.nodes.length) [] H ⟨_,_,⟨0,_,rfl,rfl,aa⟩,hW,gA⟩ ?_;intro pc;rintro q _ ⟨i,v1,rfl,rfl,aQ⟩;refine ax ?_;refine az (λae=>?_) λae=>?_
  ·have bT:i<p.nodes.length:=by omega
   obtain⟨y,hy⟩:∃y,y=p.nodes.getD i default:=⟨_,rfl⟩;obtain⟨acW,pd,IL,acX,QM⟩:=acL aH ht bT hy;have p3:=λb a8=>acP (p:=p) (t:=t) bT (b:=b) a8;rw[<-hy] at p3;refine aI ?_;refine aj.uP rfl rfl rfl rfl (λAm=>?_);refine aY ?_;rw[<-hy];refine aB.pC (d:=10) rfl pq ?_;refine c4 ?_;refine aB.qx 11 3 1 rfl ?_;refine aB.zo (λq st=>∃(j:Nat) (v2:Value),st=⟨[(34,.i j),(33,.i y.kids.length),(32,ab.ints y.kids),(11,.as (ab.ints ((y.kids.take j).map λk=>t.nodes.getD k.toNat default)) v2),(10,.ptr (ia y)),(27,.i i),(26,.i p.nodes.length),(25,.ai 3 (p.nodes.map ia)),(8,.as (ab.du ((p.nodes.take i).map (k9 p t))) v1),(6,.ptr [ab.ew p t]),(3,.ptr (ns t))],[.own 3 1 v2,.own 4 1 v1]⟩/\q=y.kids.length - j/\j<=y.kids.length) pc H ⟨_,_,⟨0,_,rfl,rfl,aa⟩,hW,gA⟩ ?_;intro rh;rintro q _ ⟨j,v2,rfl,rfl,cm⟩;refine ax ?_;refine az (λao=>?_) λao=>?_
   ·have dH:j<y.kids.length:=by omega
    have tc:=acW _ (bI dH);refine ji ?_;refine ag (lL) ?_;refine aR ?_;refine aj.cn (x:=.ai 1 [[.i (t.nodes.getD (y.kids.getD j default).toNat default)]]) rfl rfl rfl (ad.row rfl rfl cC rfl rfl rfl rfl rfl rfl) ?_;refine aj.dJ rfl rfl rfl rfl rfl rfl rfl rfl (an.refl _) (rfl) (λv=>by repeat (first | exact bG.head _ _ _ | apply bG.tail)) oF oF (λacY=>?_);refine aI ?_;refine aZ.n8 rh (⟨j+1,acY,by rw[acO dH],rfl,dH⟩) ?_ ?_ ?_
    ·omega
    ·repeat (first | exact trivial | refine⟨rfl,?_⟩)
    ·repeat (first | exact List.Sublist.refl _ | apply List.Sublist.cons_cons | refine List.Sublist.cons _ ?_)
   ·obtain rfl:j=y.kids.length:=by omega
    rw[<-acM];refine aB.le 11 (y:=ab.ints (kj t y)) rfl (an.e2 _ _) ?_;have sT:=acN t y;refine aP ?_;refine aj.uP rfl rfl rfl rfl (λtb=>?_);refine jI ?_;refine aB.cond rfl (λaV=>?_) (λaV=>?_)
    ·replace aV:=dC aV;have bu:y.op=4:=aV;refine aO ?_;refine aB.cond rfl (λbu=>?_) (λbu=>?_)
     ·replace bu:=dC bu;have oj:y.op=4\/y.op=7:=.inl bu;have Cm:=IL (.inl bu);obtain⟨p4,mE,_⟩:=tN (pd _ (bI (l:=kj t y) (k:=0) aa));obtain⟨mQ,An⟩:∃mQ,mQ=((kj t y).getD 0 default).toNat:=⟨_,rfl⟩;rw[<-An] at p4 mE;refine aY ?_;refine ag (ad.le (ad.cF rfl rfl rfl rfl) (an.b4 p4)) ?_;refine ag (ad.call .k ((zw _))) ?_;refine aF ?_;refine aB.weaken (st':=⟨[(55,.fn (.func 76) [] [.ptr [.i mQ]]),(14,.p tb 0),(11,ab.ints (kj t y)),(10,.ptr (ia y)),(27,.i i),(26,.i p.nodes.length),(25,.ai 3 (p.nodes.map ia)),(8,.as (ab.du ((p.nodes.take i).map (k9 p t))) v1),(6,.ptr [ab.ew p t]),(3,.ptr (ns t))],[.au tb 4 [.b true],.own 4 1 v1]++(gW rh++H)⟩) hW gA ?_;refine aB.qU rh (λ_ (c:Nat)=>.i c) (λ_ _=>[]) (gf mQ) (λpre H=>H= [.au tb 4 [.b (pre.all λc=>dT p c y.n)],.own 4 1 v1]) (λ_ _ _=>False) ([.au tb 4 [.b true],.own 4 1 v1]) (H) (λ_ x=>[(15,.i x),(56,.i x),(14,.p tb 0),(11,ab.ints (kj t y)),(10,.ptr (ia y)),(27,.i i),(26,.i p.nodes.length),(25,.ai 3 (p.nodes.map ia)),(8,.as (ab.du ((p.nodes.take i).map (k9 p t))) v1),(6,.ptr [ab.ew p t]),(3,.ptr (ns t))]) rfl rfl rfl rfl ((vv _ aa).b) cO ?_ ?_ ?_ ?_
      ·intro hE nw gd jN x eE;refine aF ?_;exact λa w s=>⟨_,rfl,s.weaken (lQ hW) (List.Sublist.refl _)⟩
      ·intro hE xy fD pre jN x H1 eE nw gd lW eD;obtain rfl:=eD;have aK:x<aJ p:=tM mE (lW.subset aS);refine aI ?_;refine aj.db rfl rfl rfl rfl rfl rfl (λaw=>ad.call (.mk' rfl rfl rfl rfl c9) (Af t aH aK y.n)) ?_;refine aY ?_;exact aZ.mx (H:=[.au tb 4 [.b (bif pre.all λc=>dT p c y.n then dT p x y.n else false)],.own 4 1 v1]) kq K1
      ·intro QN H1 eD;obtain rfl:=eD;refine ax ?_;refine aj.cn (x:=.ai 1 [[.b _]]) rfl rfl rfl (ad.row rfl rfl cC rfl rfl rfl rfl rfl rfl) ?_;refine aj.dJ rfl rfl rfl rfl rfl rfl rfl rfl (an.refl _) (rfl) (λv=>by repeat (first | exact bG.head _ _ _ | apply bG.tail)) oF oF (λsr=>?_);refine aI ?_;refine aZ.n8 (QN::rh) (⟨i+1,sr,by rw[p3 _ (QL oj p4)],rfl,bT⟩) ?_ ?_ ?_
       ·omega
       ·repeat (first | exact trivial | refine⟨rfl,?_⟩)
       ·repeat (first | exact List.Sublist.refl _ | apply List.Sublist.cons_cons | refine List.Sublist.cons _ ?_)
      ·intro QN QD pre H1 lW Aj;exact Aj.elim
     ·simp_all
    ·have bu: ¬y.op=4:=by simpa using aV
     refine aT ?_;refine aB.cond rfl (λcr=>?_) (λcr=>?_)
     ·replace cr:=dC cr;have dA:y.op=7:=cr;have oj:y.op=4\/y.op=7:=.inr dA;have Cm:=IL (.inr (.inl dA));obtain⟨p4,mE,_⟩:=tN (pd _ (bI (l:=kj t y) (k:=0) aa));obtain⟨mQ,An⟩:∃mQ,mQ=((kj t y).getD 0 default).toNat:=⟨_,rfl⟩;rw[<-An] at p4 mE;refine aY ?_;refine ag (ad.le (ad.cF rfl rfl rfl rfl) (an.b4 p4)) ?_;refine ag (ad.call .k ((zw _))) ?_;refine aF ?_;refine aB.weaken (st':=⟨[(55,.fn (.func 76) [] [.ptr [.i mQ]]),(14,.p tb 0),(11,ab.ints (kj t y)),(10,.ptr (ia y)),(27,.i i),(26,.i p.nodes.length),(25,.ai 3 (p.nodes.map ia)),(8,.as (ab.du ((p.nodes.take i).map (k9 p t))) v1),(6,.ptr [ab.ew p t]),(3,.ptr (ns t))],[.au tb 4 [.b true],.own 4 1 v1]++(gW rh++H)⟩) hW gA ?_;refine aB.qU rh (λ_ (c:Nat)=>.i c) (λ_ _=>[]) (gf mQ) (λpre H=>H= [.au tb 4 [.b (pre.all λc=>dT p c y.n)],.own 4 1 v1]) (λ_ _ _=>False) ([.au tb 4 [.b true],.own 4 1 v1]) (H) (λ_ x=>[(15,.i x),(56,.i x),(14,.p tb 0),(11,ab.ints (kj t y)),(10,.ptr (ia y)),(27,.i i),(26,.i p.nodes.length),(25,.ai 3 (p.nodes.map ia)),(8,.as (ab.du ((p.nodes.take i).map (k9 p t))) v1),(6,.ptr [ab.ew p t]),(3,.ptr (ns t))]) rfl rfl rfl rfl ((vv _ aa).b) cO ?_ ?_ ?_ ?_
      ·intro hE nw gd jN x eE;refine aF ?_;exact λa w s=>⟨_,rfl,s.weaken (lQ hW) (List.Sublist.refl _)⟩
      ·intro hE xy fD pre jN x H1 eE nw gd lW eD;obtain rfl:=eD;have aK:x<aJ p:=tM mE (lW.subset aS);refine aI ?_;refine aj.db rfl rfl rfl rfl rfl rfl (λaw=>ad.call (.mk' rfl rfl rfl rfl c9) (Af t aH aK y.n)) ?_;refine aY ?_;exact aZ.mx (H:=[.au tb 4 [.b (bif pre.all λc=>dT p c y.n then dT p x y.n else false)],.own 4 1 v1]) kq K1
      ·intro QO H1 eD;obtain rfl:=eD;refine ax ?_;refine aj.cn (x:=.ai 1 [[.b _]]) rfl rfl rfl (ad.row rfl rfl cC rfl rfl rfl rfl rfl rfl) ?_;refine aj.dJ rfl rfl rfl rfl rfl rfl rfl rfl (an.refl _) (rfl) (λv=>by repeat (first | exact bG.head _ _ _ | apply bG.tail)) oF oF (λsr=>?_);refine aI ?_;refine aZ.n8 (QO::rh) (⟨i+1,sr,by rw[p3 _ (QL oj p4)],rfl,bT⟩) ?_ ?_ ?_
       ·omega
       ·repeat (first | exact trivial | refine⟨rfl,?_⟩)
       ·repeat (first | exact List.Sublist.refl _ | apply List.Sublist.cons_cons | refine List.Sublist.cons _ ?_)
      ·intro QO QD pre H1 lW Aj;exact Aj.elim
     ·have acZ: ¬y.op=7:=by simpa using cr
      refine ax ?_;refine aB.cond rfl (λdK=>?_) (λdK=>?_)
      ·replace dK:=dC dK;have dP:y.op=8:=dK;have Cm:=IL (.inr (.inr dP));obtain⟨p4,mE,_⟩:=tN (pd _ (bI (l:=kj t y) (k:=0) aa));obtain⟨mQ,An⟩:∃mQ,mQ=((kj t y).getD 0 default).toNat:=⟨_,rfl⟩;rw[<-An] at p4 mE;refine aF ?_;refine ag (ad.le (ad.cF rfl rfl rfl rfl) (an.b4 p4)) ?_;refine ag (ad.bits rfl rfl rfl rfl rfl (HY mQ 6 aa c8)) ?_;refine aI ?_;refine aj.cn (x:=.ai 1 [[.b _]]) rfl rfl rfl (ad.row rfl rfl cC rfl rfl rfl rfl rfl rfl) ?_;refine aj.dJ rfl rfl rfl rfl rfl rfl rfl rfl (an.refl _) (rfl) (λv=>by repeat (first | exact bG.head _ _ _ | apply bG.tail)) oF oF (λsr=>?_);refine aI ?_;refine aZ.n8 rh (⟨i+1,sr,by rw[p3 _ (acQ dP p4)],rfl,bT⟩) ?_ ?_ ?_
       ·omega
       ·repeat (first | exact trivial | refine⟨rfl,?_⟩)
       ·repeat (first | exact List.Sublist.refl _ | apply List.Sublist.cons_cons | refine List.Sublist.cons _ ?_)
      ·have dP: ¬y.op=8:=by simpa using dK
       refine ax ?_;refine aB.cond rfl (λdA=>?_) (λdA=>?_)
       ·replace dA:=dC dA;have DI:y.op=5:=dA;refine aT ?_;refine ag (ad.call .k (acK aH b6 ra pd (by rw[sT];exact acX DI) aa)) ?_;refine aP ?_;refine aj.cn (x:=.ai 1 [[.b _]]) rfl rfl rfl (ad.row rfl rfl cC rfl rfl rfl rfl rfl rfl) ?_;refine aj.dJ rfl rfl rfl rfl rfl rfl rfl rfl (an.refl _) (rfl) (λv=>by repeat (first | exact bG.head _ _ _ | apply bG.tail)) oF oF (λsr=>?_);refine aI ?_;refine aZ.n8 rh (⟨i+1,sr,by rw[p3 _ (acR DI)],rfl,bT⟩) ?_ ?_ ?_
        ·omega
        ·repeat (first | exact trivial | refine⟨rfl,?_⟩)
        ·repeat (first | exact List.Sublist.refl _ | apply List.Sublist.cons_cons | refine List.Sublist.cons _ ?_)
       ·have DI: ¬y.op=5:=by simpa using dA
        refine ax ?_;refine aj.cn (x:=.ai 1 [[.b _]]) rfl rfl rfl (ad.row rfl rfl cC rfl rfl rfl rfl rfl rfl) ?_;refine aj.dJ rfl rfl rfl rfl rfl rfl rfl rfl (an.refl _) (rfl) (λv=>by repeat (first | exact bG.head _ _ _ | apply bG.tail)) oF oF (λsr=>?_);refine aI ?_;refine aZ.n8 rh (⟨i+1,sr,by rw[p3 _ (acS bu acZ dP DI)],rfl,bT⟩) ?_ ?_ ?_
        ·omega
        ·repeat (first | exact trivial | refine⟨rfl,?_⟩)
        ·repeat (first | exact List.Sublist.refl _ | apply List.Sublist.cons_cons | refine List.Sublist.cons _ ?_)
  ·obtain rfl:i=p.nodes.length:=by omega
   rw[List.take_length];refine dk ?_;refine aZ.k1 pc ([]) H (rs:=[.tmp 4,.tmp 5]) (H':=H) rfl gA (.tmp rfl (.tmp rfl (.nil))) (.cons (an.e2 _ _) (.cons (.refl _) .nil)) bC ?_;exact⟨cO,rfl⟩
def IM(p:Prog)(t:cI):ab:=if nt p t then .bk [ab.du (IK p t),.i 0] else .bk [ab.du [],.i 2]
def ac0(a:p.Small)(t):aG prog 11 [ab.prog p,ab.dx t] (IM p t):=by
 unfold IM nt;cases aH:(bw p).isSome with
 | false=>exact acT a aH
 | true=>
  cases ht:iV p t with
  | false=>exact acU a aH ht
  | true=>exact acV a aH ht
end Go.Proofs.YtodccgailpkgeaaGreat

