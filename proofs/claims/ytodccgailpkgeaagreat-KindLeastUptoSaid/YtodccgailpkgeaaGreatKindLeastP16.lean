/- Part 16 of the proof: contracts of functions of the program and what they need. No condition beyond those that each theorem names. -/
import Derived.Test.YtodccgailpkgeaaGreatKindLeastP15
set_option maxHeartbeats 1000000
set_option linter.unusedVariables false
set_option linter.unusedSimpArgs false
set_option maxRecDepth 10000
namespace Go.Proofs.YtodccgailpkgeaaGreat
open Go.Eng
open Go.Eng.Fc
open Go.Eng.ei
variable{α:Type}{L:List (List Int)}{kinds x l:List Int}{B n j:Nat}{p:Prog}
abbrev fW(cF:Nat)(x:List Int):aj:=.aI cF 3 (x.map aa.i)
abbrev gV(cF n:Nat):aa:=.val (.slice (some ⟨cF,0,none⟩) n n)
abbrev adx(kinds:List Int)(jO:aa)(cF cE:Nat):aa:=.fn (.func 117) [] [.ptr [aa.ints kinds],.ptr [jO],.ptr [gV cF kinds.length],.p cE 0]
abbrev nj(kinds:List Int)(jO:aa)(cF cE:Nat):aj:=.aI cE 65 [adx kinds jO cF cE]
abbrev JY(B:Nat)(kinds:List Int)(g:Fn)(gs gc:List aa)(L:List (List Int))(J Jx:List (List Int)->List aj->Prop):Prop:=Gu B Tryz.prog (.fn g gs gc) (λb (_:List Int)=>gV b kinds.length) (λb x=>[fW b x]) L J Jx
def JZ(B:Nat)(kinds:List Int)(g:Fn)(gs gc:List aa)(L:List (List Int))(J Jx:List (List Int)->List aj->Prop)(cF cE f:Nat):Prop:=
 ∀(i:Nat) (q qi:List Int) (pre:List (List Int)) (iu Hx:List aj),i+f=kinds.length->q.length=i->qi.length=f->pre++(fU (kinds.drop i)).map (λl=>q++l)<+:L->J pre iu->
  dC B Tryz.prog 117 [.i i,.ptr [aa.ints kinds],.ptr [.fn g gs gc],.ptr [gV cF kinds.length],.p cE 0] (iu++(fW cF (q++qi)::nj kinds (.fn g gs gc) cF cE::Hx))
   (λy H'=>∃r H1 lU,y= .b r/\lU.length=f/\H'=H1++(fW cF (q++lU)::nj kinds (.fn g gs gc) cF cE::Hx)/\(r=true->J (pre++(fU (kinds.drop i)).map (λl=>q++l)) H1)/\(r=false->∃r4,r4<+:L/\Jx r4 H1)) (λ_ _=>False)
theorem Sa(r x p:aj)(A X:List aj):(r::(A++(x::p::X))).Perm (A++(x::r::p::X)):=List.perm_middle.symm.trans (.append_left _ (.swap _ _ _))
theorem Sb(a b c d e:aj)(A X:List aj):([a,b,c,d,e]++(A++X)).Perm (A++([a,c,b,d,e]++X)):=(List.perm_append_comm_assoc _ _ _).trans (.append_left _ (List.Perm.append_right _ (.cons _ (.swap _ _ _))))
theorem Sc(l d r x p:aj)(A X:List aj):(l::d::((r::(A++[x,p]))++([]++X))).Perm ([x,r,p,l,d]++(A++X)):=by
 have ab:(l::d::((r::(A++[x,p]))++([]++X)))= [l,d,r]++(A++([x,p]++X)):=by simp
 rw[ab];refine (List.Perm.append_left _ (List.perm_append_comm_assoc _ _ _)).trans ?_;show (l::d::r::x::p::(A++X)).Perm (x::r::p::l::d::(A++X));have ae:∀Y:List aj,(l::d::r::x::p::Y).Perm (x::r::p::l::d::Y):=λY=>by
  have:=List.Perm.append_right Y (show [l,d,r,x,p].Perm [x,r,p,l,d] from by
   refine ((List.perm_append_comm (l₁:=[l,d]) (l₂:=[r,x,p])).trans ?_);exact .swap _ _ _)
  simpa using this
 exact ae _
theorem Sd(l d r x p:aj)(A X:List aj):(A++([x,p,r,l,d]++X)).Perm (l::d::((r::(A++[x,p]))++([]++X))):=
 (Sb x r p l d A X).symm.trans (Sc l d r x p A X).symm
theorem ady{α β:Type}{pre L:List β}{g:α->List β}{M b9:List α}{b:α}(h:pre++M.flatMap g<+:L)(aB:b9++[b]<+:M):(pre++b9.flatMap g)++g b<+:L:=by
 refine List.IsPrefix.trans ?_ h;rw[List.append_assoc];refine (List.prefix_append_right_inj pre).2 ?_;obtain⟨t,rfl⟩:=aB;exact⟨t.flatMap g,bj⟩
theorem adz{i:Nat}(av:i<kinds.length){k:Nat}(ao:kinds.getD i default=(k:Int))(q:List Int):(fU (kinds.drop i)).map (λl=>q++l)=(hV k).flatMap λ(c:Nat)=>(fU (kinds.drop (i+1))).map λl=>(q++[(c:Int)])++l:=by
 have e:kinds.drop i=kinds.getD i default::kinds.drop (i+1):=by
  rw[List.drop_eq_getElem_cons av,List.getD_eq_getElem?_getD,List.getElem?_eq_getElem av];rfl
 rw[e,ao,fU,List.map_flatMap];congr 1;funext c;rw[List.map_map];congr 1;funext l;simp
theorem adA{q qi:List Int}{i:Nat}(bd:q.length=i)(t0 x:Int):((q++t0::qi).map aa.i).take (0+(i:Int).toNat*1)++dq (.i x)++((q++t0::qi).map aa.i).drop (0+(i:Int).toNat*1+1)=((q++[x])++qi).map aa.i:=by
 subst bd;have e:0+((q.length:Nat):Int).toNat*1=(q.map aa.i).length:=by simp
 rw[e,List.map_append,List.take_left,List.map_cons];have aW:∀(a:List aa) (b:aa) (c:List aa),(a++b::c).drop (a.length+1)=c:=λa b c=>by rw[show a++b::c=(a++[b])++c by simp,show a.length+1=(a++[b]).length by simp,List.drop_left]
 rw[aW,List.map_append,List.map_append];rfl
theorem Se(eD:∀k∈kinds,0<=k/\k.toNat<2^60)(dP:kinds.length<=1000){g:Fn}{gs gc:List aa}{L:List (List Int)}{J Jx:List (List Int)->List aj->Prop}(al:JY B kinds g gs gc L J Jx){cF cE f:Nat}(bm:∀f',f=f'+1->JZ B kinds g gs gc L J Jx cF cE f'):JZ B kinds g gs gc L J Jx cF cE f:=by
 intro i q qi pre iu Hx Em bd Sf df bF;refine dC.ofM (n:=30) Tryz.func117 rfl aM rfl rfl (λI aO=>?_);refine bg ?_;refine au.cG rfl rfl rfl rfl (λer=>?_);refine cw ?_;refine aZ (λai=>?_) λai=>?_
 ·obtain rfl:f=0:=by omega
  obtain rfl:qi= []:=List.eq_nil_of_length_eq_zero Sf;have adB:(fU (kinds.drop i)).map (λl=>q++l)= [q]:=by rw[List.drop_of_length_le ad];simp[fU]
  rw[adB] at df ⊢;rw[List.append_nil];refine bt ?_;refine aq.perm (Sa _ _ _ _ _) ?_;refine bg ?_;refine au.o1 rfl rfl rfl rfl rfl rfl rfl rfl (bO.refl _) (al cF pre q iu (.aI er 4 [.val (.bool false)]::nj kinds (.fn g gs gc) cF cE::Hx) df bF) ?_;rintro _ _ ⟨r,H1,rfl,rfl,a6,aW⟩;refine au.perm (Sa _ _ _ _ _).symm ?_;refine bz ?_;refine aR.l9 [] (.aI er 4 [.b r]::(H1++[fW cF q,nj kinds (.fn g gs gc) cF cE])) Hx (rs:=[.cell 6 4]) (H':=H1++(fW cF q::nj kinds (.fn g gs gc) cF cE::Hx)) rfl (by show ((_::(H1++[_,_]))++Hx).Sublist _;rw[List.cons_append,List.append_assoc];exact List.Sublist.refl _) (tC) (bO.refl _) FZ ?_;exact⟨r,H1,[],rfl,rfl,by rw[List.append_nil],a6,λh=>⟨_,df,aW h⟩⟩
 ·have a1:i<kinds.length:=by omega
  obtain⟨f',rfl⟩:∃f',f=f'+1:=⟨f - 1,ad⟩;obtain⟨jw,EL⟩:=eD _ (cp a1);obtain⟨k,ao⟩:∃k:Nat,kinds.getD i default=k:=⟨(kinds.getD i default).toNat,ad⟩;have EL:k<2^60:=by rw[ao] at EL;simpa using EL
  have adC:=adz a1 ao q;rw[adC] at df ⊢;refine bs ?_;refine aG (af.le (af.eN rfl rfl rfl rfl) (aL.dx ao)) ?_;refine aG (af.call .k ((wU _))) ?_;refine bg ?_;refine aq.perm (H':=(.aI er 4 [.val (.bool false)]::(iu++[fW cF (q++qi),nj kinds (.fn g gs gc) cF cE]))++Hx) (.of_eq bj) ?_;refine aq.weaken (st':=⟨[(19,.fn (.func 76) [] [.ptr [.i k]]),(5,.ptr [.i i]),(6,.p er 0),(1,.ptr [aa.ints kinds]),(2,.ptr [.fn g gs gc]),(3,.ptr [gV cF kinds.length]),(4,.p cE 0)],(.aI er 4 [.val (.bool false)]::(iu++[fW cF (q++qi),nj kinds (.fn g gs gc) cF cE]))++(hO []++Hx)⟩) h2 hp ?_;refine aq.rO [] (λ_ (c:Nat)=>.i c) (λ_ _=>[]) (hV k) (λcs H=>∃H1 lU,H= .aI er 4 [.val (.bool false)]::(H1++[fW cF (q++lU),nj kinds (.fn g gs gc) cF cE])/\lU.length=f'+1/\J (pre++cs.flatMap (λ(c:Nat)=>(fU (kinds.drop (i+1))).map λl=>(q++[(c:Int)])++l)) H1) (λcode cs H=>code= .ret/\∃H1 lU,H= .aI er 4 [.val (.bool false)]::(H1++[fW cF (q++lU),nj kinds (.fn g gs gc) cF cE])/\lU.length=f'+1/\∃r4,r4<+:L/\Jx r4 H1) ((.aI er 4 [.val (.bool false)]::(iu++[fW cF (q++qi),nj kinds (.fn g gs gc) cF cE]))) (Hx) (λ_ x=>[(7,.i x),(20,.i x),(5,.ptr [.i i]),(6,.p er 0),(1,.ptr [aa.ints kinds]),(2,.ptr [.fn g gs gc]),(3,.ptr [gV cF kinds.length]),(4,.p cE 0)]) rfl rfl rfl rfl ((wX _ EL).b) (⟨iu,qi,rfl,Sf,by simpa using bF⟩) ?_ ?_ ?_ ?_
  ·intro eJ iY fA iM x c0;refine bg ?_;exact λa w s=>⟨_,rfl,s.weaken (j3 h2) (List.Sublist.refl _)⟩
  ·intro eJ eK dw pre iM x H1 c0 iY fA e9 bF;obtain⟨H1,lU,rfl,yO,fp⟩:=bF;obtain⟨t0,EM,rfl⟩:∃t0 EM,lU=t0::EM:=by cases lU with
    | nil=>cases yO
    | cons a b=>exact⟨a,b,rfl⟩
   have adD:EM.length=f':=by simpa using yO
   have adE:(q++[(x:Int)]).length=i+1:=by simp[bd]
   have adF:=ady (g:=(λ(c:Nat)=>(fU (kinds.drop (i+1))).map λl=>(q++[(c:Int)])++l)) df e9;refine bC ?_;refine aq.perm (Sc _ _ _ _ _ _ _) ?_;refine bI ?_;refine aG (af.m6 rfl rfl rfl rfl rfl ad) ?_;apply au.j9 rfl rfl rfl rfl rfl rfl rfl rfl rfl rfl
   (case hu=>repeat (first | exact bu.head _ _ _ | apply bu.tail));(case hfit=>simp;omega);(case hds=>exact adA bd t0 x)
   refine bn ?_;refine au.perm (Sb _ _ _ _ _ _ _) ?_;refine dE .k (bm f' rfl (i+1) (q++[(x:Int)]) EM _ H1 _ ad adE adD adF fp) ?_;rintro _ _ ⟨r,db,uT,rfl,Sg,rfl,a6,aW⟩;refine bg ?_;refine aq.cond rfl (λab=>?_) (λab=>?_)
   ·have ab:r=false:=by simpa using ab
    refine bt ?_;refine aq.perm (Sd _ _ _ _ _ _ _) ?_;refine aT ?_;exact aR.Gs (H:=.aI er 4 [.val (.bool false)]::(db++[fW cF ((q++[(x:Int)])++uT),nj kinds (.fn g gs gc) cF cE])) lv ⟨rfl,db,(x:Int)::uT,by rw[show q++(x:Int)::uT=(q++[(x:Int)])++uT by simp],by simp[Sg],aW ab⟩
   ·have ab:r=true:=by simpa using ab
    refine bC ?_;refine aR.perm (Sd _ _ _ _ _ _ _) ?_;exact aR.nA (H:=.aI er 4 [.val (.bool false)]::(db++[fW cF ((q++[(x:Int)])++uT),nj kinds (.fn g gs gc) cF cE])) lv ⟨db,(x:Int)::uT,by rw[show q++(x:Int)::uT=(q++[(x:Int)])++uT by simp],by simp[Sg],by have:=a6 ab;rw[List.append_assoc] at this;rw[List.flatMap_append];simpa using this⟩
  ·intro eK H1 bF;obtain⟨H1,lU,rfl,yO,fp⟩:=bF;refine bs ?_;refine aR.l9 (eK::[]) (.aI er 4 [.b true]::(H1++[fW cF (q++lU),nj kinds (.fn g gs gc) cF cE])) Hx (rs:=[.cell 6 4]) (H':=H1++(fW cF (q++lU)::nj kinds (.fn g gs gc) cF cE::Hx)) rfl hp (tC) (bO.refl _) FZ ?_;exact⟨true,H1,lU,rfl,yO,rfl,λ_=>fp,λh=>by cases h⟩
  ·intro eK r2 pre H1 e9 k5;obtain⟨rfl,H1,lU,rfl,yO,r4,uh,adG⟩:=k5
   ·refine bg ?_;refine aR.l9 (eK::[]) (.aI er 4 [.val (.bool false)]::(H1++[fW cF (q++lU),nj kinds (.fn g gs gc) cF cE])) Hx (rs:=[.cell 6 4]) (H':=H1++(fW cF (q++lU)::nj kinds (.fn g gs gc) cF cE::Hx)) rfl hp (tC) (bO.refl _) FZ ?_;exact⟨false,H1,lU,rfl,yO,rfl,(λh=>by cases h),λ_=>⟨r4,uh,adG⟩⟩
theorem adH(eD:∀k∈kinds,0<=k/\k.toNat<2^60)(dP:kinds.length<=1000){g:Fn}{gs gc:List aa}{L:List (List Int)}{J Jx:List (List Int)->List aj->Prop}(al:JY B kinds g gs gc L J Jx)(cF cE f:Nat):JZ B kinds g gs gc L J Jx cF cE f:=by
 induction f with
 | zero=>exact Se eD dP al λf' h=>by omega
 | succ n bm=>
  refine Se eD dP al λf' h=>?_;obtain rfl:f'=n:=by omega
  exact bm
theorem adI{p:aj}{cF n:Nat}(H Hx:List aj):(p::.aI cF 3 (List.replicate n (aa.val (.int .i64 0)))::(H++Hx)).Perm (H++(fW cF ([]++List.replicate n 0)::p::Hx)):=by
 rw[show fW cF ([]++List.replicate n 0)= .aI cF 3 (List.replicate n (aa.val (.int .i64 0))) by rw[fW,List.nil_append,List.map_replicate]];exact (List.Perm.swap _ _ _).trans (List.perm_append_comm_assoc [_,_] H Hx)
theorem adJ(eD:∀k∈kinds,0<=k/\k.toNat<2^60)(dP:kinds.length<=1000){g:Fn}{gs gc:List aa}{J Jx:List (List Int)->List aj->Prop}(al:JY B kinds g gs gc (fU kinds) J Jx)(H Hx:List aj)(bF:J [] H):
  dC B Tryz.prog 116 [.fn g gs gc,.ptr [aa.ints kinds]] (H++Hx) (λ_ H'=>∃H1,H'=H1++Hx/\(J (fU kinds) H1\/∃pre,pre<+:fU kinds/\Jx pre H1)) (λ_ _=>False):=by
 refine dC.of (n:=11) Tryz.func116 rfl aM rfl rfl (λI aO=>?_);refine bS ?_;refine au.Ap (kinds.length) rfl rfl rfl rfl rfl rfl rfl rfl (rfl) ad lu (λcF=>?_);refine au.cG rfl rfl rfl rfl (λhx=>?_);refine bI ?_;refine aq.ep (d:=3) rfl ey ?_;refine bt ?_;refine au.cG rfl rfl rfl rfl (λcE=>?_);refine c6 ?_;refine au.perm (adI H Hx) ?_;refine dE .k (adH eD dP al cF cE kinds.length 0 [] (List.replicate kinds.length 0) [] H Hx ad rfl bj bj bF) ?_;rintro _ _ ⟨r,H1,ali,rfl,alj,rfl,a6,aW⟩;refine bt ?_;refine aR.oY (rs:=[]) (H':=H1++Hx) rfl (.nil) (bO.refl _) (by exact (List.Sublist.refl H1).append (.cons _ (.cons _ (.refl _)))) ?_;exact⟨H1,rfl,by cases r with | true=>exact .inl (by simpa using a6 rfl) | false=>exact .inr (aW rfl)⟩
theorem J0(kinds:List Int):ba Tryz.prog 79 [aa.ints kinds] (.fn (.func 116) [] [.ptr [aa.ints kinds]]):=by
 intro H;refine bh (n:=4) Tryz.func79 λB I aO=>?_;refine ev ?_;refine aS 2 (H) ?_;exact⟨eg,rfl⟩
theorem J1(B:Nat){kinds:List Int}(eD:∀k∈kinds,0<=k/\k.toNat<2^60)(dP:kinds.length<=1000):C1 B Tryz.prog (.fn (.func 116) [] [.ptr [aa.ints kinds]]) (λb (_:List Int)=>gV b kinds.length) (λb x=>[fW b x]) (fU kinds):=
 λJ Jx g gs gc al H Hx bF=>e4.sG (adJ eD dP al H Hx bF)
theorem AT{q:α->Bool}{pre:List α}{x:α}(h:q x=true):(pre++[x]).filter q=pre.filter q++[x]:=by rw[List.filter_append];simp[h]
theorem AU{q:α->Bool}{pre:List α}{x:α}(h:q x=false):(pre++[x]).filter q=pre.filter q:=by rw[List.filter_append];simp[h]
theorem rq:∀{kinds x:List Int},x∈fU kinds->x.length=kinds.length/\∀i,i<kinds.length->∃c:Nat,x.getD i default=c/\(kinds.getD i default).toNat.testBit c=true
 | [],x,h=>by
  simp only[fU,List.mem_singleton] at h;subst h;exact⟨rfl,λi av=>by simp at av⟩
 | k::r,x,h=>by
  rw[fU,List.mem_flatMap] at h;obtain⟨c,ak,h⟩:=h;obtain⟨l,ax,rfl⟩:=List.mem_map.1 h;obtain⟨ab,ae⟩:=rq ax;refine⟨tL,λi av=>?_⟩;cases i with
  | zero=>exact⟨c,rfl,(qf.1 ak).2⟩
  | succ i=>exact ae i rr
theorem J2(an:(bK p).isSome=true){kinds:List Int}(ao:∀k∈kinds,cr (a7 p) k=true):∀k∈kinds,0<=k/\k.toNat<2^60:=λk h=>by
 obtain⟨ab,ae,_⟩:=wR (ao k h);have:=qh an;exact⟨ad,ad⟩
theorem w4(ao:∀k∈kinds,cr (a7 p) k=true)(ag:x∈fU kinds):∀c∈x,1<=c/\c<a7 p:=λc ak=>by
 obtain⟨i,av,rfl⟩:=List.getElem_of_mem ak;obtain⟨ab,ae⟩:=rq ag;obtain⟨d,aN,aw⟩:=ae i ad;obtain⟨_,aV,bl⟩:=wR (ao _ (cp (l:=kinds) (k:=i) ad));rw[List.getD_eq_getElem?_getD,List.getElem?_eq_getElem av] at aN;have aN:x[i]=(d:Int):=aN;rw[aN];have alk:d≠0:=λe=>by subst e;rw[aw] at bl;cases bl
 have alm:d<a7 p:=by
  apply Decidable.byContradiction;intro cP;rw[Ew aV ad] at aw;cases aw
 omega
theorem Sh{m:Nat}(hm:m<=62){i:Nat}:∀(L:List (List Int)),(∀x∈L,x.getD i default<m)->(∀x∈L,0<=x.getD i default)->mn L i<2^62:=λL h ai=>by
 unfold mn;have:∀(L:List (List Int)) (a:Nat),a<2^62->(∀x∈L,x.getD i default<m)->(∀x∈L,0<=x.getD i default)->L.foldl (λa l=>a ||| 2^(l.getD i default).toNat) a<2^62:=by
  intro L
  induction L with
  | nil=>intro a bN _ _;exact bN
  | cons x r bm=>
   intro a bN h ai;refine bm _ (Nat.or_lt_two_pow bN (Nat.pow_lt_pow_right e3 ?_)) (λy hy=>h y (.tail _ hy)) λy hy=>ai y (.tail _ hy);have:=h x (.head _);have:=ai x (.head _);omega
 exact this L 0 e3 h ai
theorem adK(L:List (List Int))(x:List Int)(i:Nat):mn (L++[x]) i=mn L i ||| 2^(x.getD i default).toNat:=by unfold mn;rw[List.foldl_append];rfl
def oG(L:List (List Int))(x:List Int)(n j:Nat):List Int:=(List.range n).map λi=>((if i<j then mn (L++[x]) i else mn L i:Nat):Int)
theorem Cz(L:List (List Int))(x:List Int)(n j:Nat):(oG L x n j).length=n:=by simp[oG]
theorem Si(L:List (List Int))(x:List Int)(n:Nat):oG L x n 0=iL L n:=by unfold oG iL;simp
theorem Sj(L:List (List Int))(x:List Int)(n:Nat):oG L x n n=iL (L++[x]) n:=by
 unfold oG iL;refine List.map_congr_left λi av=>?_;rw[if_pos (List.mem_range.1 av)]
theorem Sk(h:j<n):(oG L x n j).getD j default=(mn L j:Int):=by
 rw[oG,List.getD_eq_getElem?_getD,List.getElem?_map,List.getElem?_range h];show ((if j<j then _ else _:Nat):Int)=_;rw[if_neg (Nat.lt_irrefl _)]
theorem Sl(h:j<n):(oG L x n j).set j ((mn L j ||| 2^(x.getD j default).toNat:Nat):Int)=oG L x n (j+1):=by
 refine List.ext_getElem (by simp[oG]) λi ab ae=>?_;rw[List.getElem_set];simp only[oG,List.getElem_map,List.getElem_range];by_cases e:j=i
 ·subst e;rw[if_pos rfl,if_pos (Nat.lt_succ_self _),adK]
 ·rw[if_neg e];by_cases aW:i<j
  ·rw[if_pos aW,if_pos ad]
  ·rw[if_neg aW,if_neg ad]
theorem ints_set(h:j<l.length)(v:Int):(l.map aa.i).take (0+(j:Int).toNat*1)++dq (.i v)++(l.map aa.i).drop (0+(j:Int).toNat*1+1)=(l.set j v).map aa.i:=by
 have e:0+(j:Int).toNat*1=j:=by simp
 rw[e,List.set_eq_take_append_cons_drop,if_pos h,List.map_append,List.map_take,List.map_cons,List.map_drop];simp[dq]
theorem ints_at(h:j<l.length):(l.map aa.i)[0+(j:Int).toNat*1]? =some (.i (l.getD j default)):=by
 have e:0+(j:Int).toNat*1=j:=by simp
 rw[e,List.getElem?_map,List.getD_eq_getElem?_getD,List.getElem?_eq_getElem h];rfl
section
variable{p:Prog}{t:bG}{gen:Int}{kinds:List Int}{m:Nat}
theorem J3:jH p t gen kinds (m+1)=jH p t gen kinds m++(if(p.methods.getD m default).gen=gen/\iZ p t (p.methods.getD m default).fact kinds≠ [] then [((m:Int),iL (iZ p t (p.methods.getD m default).fact kinds) kinds.length)] else []):=by
 unfold jH;rw[List.range_succ,List.filterMap_append];congr 1;rw[List.filterMap_cons];by_cases h:(p.methods.getD m default).gen=gen/\iZ p t (p.methods.getD m default).fact kinds≠ []
 ·rw[if_pos h,if_pos h];rfl
 ·rw[if_neg h,if_neg h];rfl
theorem Sm(h:(p.methods.getD m default).gen≠gen):jH p t gen kinds (m+1)=jH p t gen kinds m:=by rw[J3,if_neg (λae=>h ae.1),List.append_nil]
theorem Sn(h:iZ p t (p.methods.getD m default).fact kinds= []):jH p t gen kinds (m+1)=jH p t gen kinds m:=by rw[J3,if_neg (λae=>ae.2 h),List.append_nil]
theorem Sp(h:(p.methods.getD m default).gen=gen)(ae:iZ p t (p.methods.getD m default).fact kinds≠ []):jH p t gen kinds (m+1)=jH p t gen kinds m++[((m:Int),iL (iZ p t (p.methods.getD m default).fact kinds) kinds.length)]:=by rw[J3,if_pos ⟨h,ae⟩]
theorem FU(n:Nat):(jH p t gen kinds n).length<=n:=by
 have:=List.length_filterMap_le (λm=>if(p.methods.getD m default).gen=gen/\iZ p t (p.methods.getD m default).fact kinds≠ [] then some ((m:Int),iL (iZ p t (p.methods.getD m default).fact kinds) kinds.length) else none) (List.range n);rw[List.length_range] at this;exact this
end
theorem Sq(A:List (Int×List Int))(m:Nat)(g:List Int):aa.ints ((A++[((m:Int),g)]).map (·.1))= .aF 1 ((A.map (·.1)).map (λn=>[aa.i n])++[[.i (m:Int)]]):=by
 show aa.aF 1 (List.map _ (List.map _ (_++_)))=_;rw[List.map_append,List.map_append];rfl
theorem Sr(A:List (Int×List Int))(m:Nat)(g:List Int):aa.bD ((A++[((m:Int),g)]).map (·.2))= .aF 1 ((A.map (·.2)).map (λn=>[aa.ints n])++[[aa.ints g]]):=by
 show aa.aF 1 (List.map _ (List.map _ (_++_)))=_;rw[List.map_append,List.map_append];rfl
theorem Ss(n:Nat):List.replicate n (aa.val (.int .i64 0))=(iL [] n).map aa.i:=by
 unfold iL;rw[List.map_map];refine (List.ext_getElem bj λi ab ae=>?_);simp[mn]
theorem St(de hx:Nat)(l:List Int)(n:Nat):fW de l= .aI de 3 ((l.map λx=>[aa.i x]).flatten++[]):=by
 rw[List.append_nil];show aj.aI de 3 _=_;congr 1
 induction l with
 | nil=>rfl
 | cons x r bm=>rw[List.map_cons,List.map_cons,List.flatten_cons,bm];rfl
theorem adL{t:bG}(an:(bK p).isSome=true)(aH:pB p t)(eZ:(t.aJ.length:Int)=p.aJ){gen:Int}{kinds:List Int}(ao:∀k∈kinds,cr (a7 p) k=true)(dP:(kinds.length:Int)=gU p gen)(BL:kinds.length<=1000):ba Tryz.prog 53 [aa.e2 p t,.i gen,aa.ints kinds] (.bJ [aa.ints ((hj p t gen kinds).map (·.1)),aa.bD ((hj p t gen kinds).map (·.2))]):=by
 intro H;refine b1.rF (n:=71) Tryz.func53 rfl aM rfl rfl (λB I aO=>?_);have EN:=qg an;have wY:=qh an;have en:=oF an;have eD:=J2 an ao;refine ma ?_;refine aq.iq 6 3 1 rfl ?_;refine aq.iq 7 23 1 rfl ?_;refine aq.AK (λq st=>∃(m:Nat) (v1 v2:Value),st=⟨[(21,.i m),(20,.i p.methods.length),(19,.aF 9 (p.methods.map fw)),(6,.as (aa.ints ((jH p t gen kinds m).map (·.1))) v1),(7,.as (aa.bD ((jH p t gen kinds m).map (·.2))) v2),(1,.i gen),(2,aa.ints kinds),(3,.ptr [aa.e2 p t])],[.own 23 1 v2,.own 3 1 v1]⟩/\q=p.methods.length - m/\m<=p.methods.length) [] H ⟨_,_,⟨0,_,_,rfl,rfl,ad⟩,h2,hp⟩ ?_;intro hP;rintro q _ ⟨m,v1,v2,rfl,rfl,hm⟩;refine aT ?_;refine aZ (λai=>?_) λai=>?_
 ·have ld:m<p.methods.length:=by omega
  obtain⟨M,bT⟩:∃M,M=p.methods.getD m default:=⟨_,rfl⟩;have wK:=Sm (p:=p) (t:=t) (gen:=gen) (kinds:=kinds) (m:=m);have BM:=Sn (p:=p) (t:=t) (gen:=gen) (kinds:=kinds) (m:=m);have w5:=Sp (p:=p) (t:=t) (gen:=gen) (kinds:=kinds) (m:=m);rw[<-bT] at wK BM w5;refine bS ?_;refine au.cG rfl rfl rfl rfl (λbo=>?_);refine aT ?_;rw[<-bT];refine aq.ep (d:=9) rfl ey ?_;refine bn ?_;refine aZ (λab=>?_) λab=>?_
  ·refine bs ?_;refine aR.pe hP (⟨m+1,v1,v2,by rw[wK ab],rfl,ld⟩) ?_ ?_ ?_
   ·omega
   ·repeat (first | exact trivial | refine⟨rfl,?_⟩)
   ·repeat (first | exact List.Sublist.refl _ | apply List.Sublist.cons_cons | refine List.Sublist.cons _ ?_)
  ·have uv:∀x∈fU kinds,jD p x M.fact:=λx ag=>by
    have pc:ln p (m:Int)=true:=by unfold ln;simp;omega
    have bl:=EI an pc (l:=x) L9;rw[show ((m:Int)).toNat=m from rfl, <-bT] at bl;exact bl
   refine aT ?_;refine au.Ap (kinds.length) rfl rfl rfl rfl rfl rfl rfl rfl (rfl) ad lu (λde=>?_);refine au.cG rfl rfl rfl rfl (λhx=>?_);refine au.cG rfl rfl rfl rfl (λie=>?_);refine aT ?_;rw[Ss];refine bC ?_;refine aG (af.call .k ((J0 _))) ?_;refine bg ?_;refine aq.weaken (st':=⟨[(34,.fn (.func 116) [] [.ptr [aa.ints kinds]]),(8,.i m),(9,.ptr (fw M)),(10,.p hx 0),(11,.p ie 0),(21,.i m),(20,.i p.methods.length),(19,.aF 9 (p.methods.map fw)),(6,.as (aa.ints ((jH p t gen kinds m).map (·.1))) v1),(7,.as (aa.bD ((jH p t gen kinds m).map (·.2))) v2),(1,.i gen),(2,aa.ints kinds),(3,.ptr [aa.e2 p t])],[.aI ie 4 [.b false],.aI hx 23 [gV de kinds.length],fW de (iL [] kinds.length),.own 23 1 v2,.own 3 1 v1]++(hO hP++H)⟩) h2 hp ?_;refine aq.rO hP (λb (_:List Int)=>gV b kinds.length) (λb x=>[fW b x]) (fU kinds) (λpre H=>H= [.aI ie 4 [.b (!(pre.filter (λl=>(e1 p t l M.fact).1)).isEmpty)],.aI hx 23 [gV de kinds.length],fW de (iL (pre.filter (λl=>(e1 p t l M.fact).1)) kinds.length),.own 23 1 v2,.own 3 1 v1]) (λ_ _ _=>False) ([.aI ie 4 [.b false],.aI hx 23 [gV de kinds.length],fW de (iL [] kinds.length),.own 23 1 v2,.own 3 1 v1]) (H) (λb x=>[(12,gV b kinds.length),(35,gV b kinds.length),(9,.ptr (fw M)),(10,.p hx 0),(11,.p ie 0),(3,.ptr [aa.e2 p t])]) rfl rfl rfl rfl (J1 _ eD BL) dJ ?_ ?_ ?_ ?_
   ·intro eJ iY fA iM x c0;refine bg ?_;exact λa w s=>⟨_,rfl,s.weaken (j3 h2) (List.Sublist.refl _)⟩
   ·intro eJ eK dw pre iM x H1 c0 iY fA e9 bF;obtain rfl:=bF;have mz:x∈fU kinds:=e9.subset bj;obtain⟨my,EO⟩:=rq mz;have dp:=w4 ao mz;obtain⟨A,tj⟩:∃A,A=(pre.filter (λl=>(e1 p t l M.fact).1)):=⟨_,rfl⟩;rw[<-tj];have tk:∀y∈A,y∈fU kinds:=λy hy=>by rw[tj] at hy;exact e9.subset (List.mem_append_left _ (List.mem_filter.1 hy).1)
    refine bs ?_;refine aG (af.sR .k (gb.outs (pre:=[aa.e2 p t,aa.fact M.fact]) (post:=[]) (nb:=iM) (o:=x) va my ad) (EE an aH eZ dp _ (uv x mz))) ?_;refine aG (af.call .k ((yL _))) ?_;refine bg ?_;refine aq.cond rfl (λae=>?_) (λae=>?_)
    ·have ae:(e1 p t x M.fact).1=false:=by simpa using ae
     refine bg ?_;exact aR.nA (H:=[.aI ie 4 [.b (!A.isEmpty)],.aI hx 23 [gV de kinds.length],fW de (iL A kinds.length),.own 23 1 v2,.own 3 1 v1]) lv (by rw[AU (q:=(λl=>(e1 p t l M.fact).1)) ae, <-tj])
    ·have ae:(e1 p t x M.fact).1=true:=by simpa using ae
     refine fk ?_;rw[<-Si A x];refine cq (λq st=>∃j:Nat,st=⟨[(45,.i j),(44,.i kinds.length),(43,gV iM kinds.length),(12,gV iM kinds.length),(9,.ptr (fw M)),(10,.p hx 0),(11,.p ie 0),(3,.ptr [aa.e2 p t])],.loop eJ dw (aX [(34,.fn (.func 116) [] [.ptr [aa.ints kinds]]),(8,.i m),(9,.ptr (fw M)),(10,.p hx 0),(11,.p ie 0),(21,.i m),(20,.i p.methods.length),(19,.aF 9 (p.methods.map fw)),(6,.as (aa.ints ((jH p t gen kinds m).map (·.1))) v1),(7,.as (aa.bD ((jH p t gen kinds m).map (·.2))) v2),(1,.i gen),(2,aa.ints kinds),(3,.ptr [aa.e2 p t])])::.obj eK (.deferred (some []))::([.aI ie 4 [.b true],.aI hx 23 [gV de kinds.length],fW de (oG A x kinds.length j),.own 23 1 v2,.own 3 1 v1]++([fW iM x]++c0))⟩/\q=kinds.length - j/\j<=kinds.length) (⟨0,rfl,rfl,ad⟩) ?_;rintro q _ ⟨j,rfl,rfl,aU⟩;refine aT ?_;refine aZ (λaD=>?_) λaD=>?_
     ·have c3:j<kinds.length:=by omega
      obtain⟨c,ak,_⟩:=EO j c3;have im:=dp _ (cp (l:=x) (k:=j) ad);rw[ak] at im;have ly:mn A j<2^62:=Sh (m:=a7 p) ad A (λy hy=>by have J4:=(rq (tk y hy)).1;have di:=w4 ao (tk y hy) _ (cp (l:=y) (k:=j) ad);omega) (λy hy=>by have J4:=(rq (tk y hy)).1;have di:=w4 ao (tk y hy) _ (cp (l:=y) (k:=j) ad);omega);have h4:=Sl (L:=A) (x:=x) c3;rw[ak] at h4;refine bn ?_;refine aG (af.m6 rfl rfl rfl rfl rfl ad) ?_;refine aG (af.le (by apply af.lr rfl rfl rfl;(case hm=>repeat (first | exact .head _ | refine .tail _ ?_));(case hy=>exact ints_at ad)) (aL.dx ak)) ?_;refine bI ?_;refine aq.bL mixed ?_;refine bk.b7 0 6 71 rfl ay rfl rfl ay ?_;refine bC ?_;refine bU.bB rfl rfl rfl (af.m6 rfl rfl rfl rfl rfl ad) ?_;refine bU.bB rfl rfl rfl (af.le LR (aL.dx (Sk c3))) ?_;refine bt ?_;refine bU.bB rfl rfl rfl (af.shift rfl rfl rfl rfl rfl ad (r1 c ⟨ad,ad⟩)) ?_;refine bC ?_;refine aG (af.bits rfl rfl rfl rfl rfl (wO _ _ ad (Nat.pow_lt_pow_right (a:=2) (n:=63) e3 ad))) ?_;refine aG (af.m6 rfl rfl rfl rfl rfl ad) ?_;apply au.j9 rfl rfl rfl rfl rfl rfl rfl rfl rfl rfl
      (case hu=>repeat (first | exact bu.head _ _ _ | apply bu.tail));(case hfit=>simp[Cz];omega);(case hds=>exact (ints_set Mm _).trans Mj)
      refine bn ?_;exact bV (⟨j+1,rfl,rfl,c3⟩)
     ·obtain rfl:j=kinds.length:=by omega
      rw[Sj];refine bz ?_;exact aR.nA (H:=[.aI ie 4 [.b true],.aI hx 23 [gV de kinds.length],fW de (iL (A++[x]) kinds.length),.own 23 1 v2,.own 3 1 v1]) lv (by rw[AT (q:=(λl=>(e1 p t l M.fact).1)) ae, <-tj,show (!(A++[x]).isEmpty)=true by simp])
   ·intro ni H1 bF;obtain rfl:=bF;have J5:(fU kinds).filter (λl=>(e1 p t l M.fact).1)=iZ p t M.fact kinds:=rfl;rw[J5];refine bn ?_;refine aq.cond rfl (λaV=>?_) (λaV=>?_)
    ·have cy:iZ p t M.fact kinds≠ []:=λe=>by rw[e] at aV;simp at aV
     obtain⟨G,c8⟩:∃G,G=iL (iZ p t M.fact kinds) kinds.length:=⟨_,rfl⟩;rw[<-c8] at w5 ⊢;rw[St de hx G 0];refine aq.perm (H':=.aI de 3 ((G.map λx=>[aa.i x]).flatten++[])::.aI hx 23 ([]++gV de kinds.length::[])::(.aI ie 4 [.b (!(iZ p t M.fact kinds).isEmpty)]::.own 23 1 v2::.own 3 1 v1::(hO (ni::hP)++H))) (((List.Perm.swap _ _ _).trans (.cons _ (.swap _ _ _))).trans (.swap _ _ _)) ?_;refine aq.On (k:=1) (by rw[List.length_map,c8];simp[iL]) (λe he=>by obtain⟨y,_,rfl⟩:=List.mem_map.1 he;rfl) (Nat.le_refl _) lu ?_;refine aq.ep (d:=10) rfl ey ?_;refine aq.bL mixed ?_;refine bk.uo (X:=p0) [⟨3,63,false⟩] (λJ=>match J with | [some a]=>.aI ie 4 [.b (!(iZ p t M.fact kinds).isEmpty)]::.own 23 1 v2::.own 3 1 a::(hO (ni::hP)++H) | _=>.aI ie 4 [.b (!(iZ p t M.fact kinds).isEmpty)]::.own 23 1 v2::.own 3 1 v1::(hO (ni::hP)++H)) (λq J=>match q,J with | 0,[some a]=>.as (.aF 1 (((jH p t gen kinds m).map (·.1)).map (λn=>[aa.i n])++[[.i (m:Int)]])) a | _,_=>.any) 0 7 71 rfl ay ay rfl rfl ay rfl (λ_ _ _ _ _ _ _ _ _ h=>h.elim) ?_;refine bp.cS [[false]] rfl ay rfl rfl rfl ⟨λf=>af.move rfl rfl rfl,trivial⟩ ?_;refine bp.cS [[false]] rfl ay rfl rfl rfl ⟨λf=>af.move rfl rfl rfl,trivial⟩ ?_;refine bp.cS [[false]] rfl ay rfl rfl rfl ⟨λf=>af.row (els:=[[.i (m:Int)]]) rfl rfl c4 rfl rfl rfl rfl rfl rfl,trivial⟩ ?_;refine bp.mC 0 [[false]] rfl rfl rfl ay rfl rfl rfl ⟨λf=>⟨et.own (news:=[[.i (m:Int)]]) rfl rfl rfl (aL.refl _) rfl rfl (aL.refl _) rfl Co Co (λ_=>by repeat (first | exact bu.head _ _ _ | apply bu.tail)) (λ_=>rfl),jn⟩,trivial⟩ ?_;refine bp.cS [[true],[false]] rfl ay rfl rfl rfl ⟨λf=>af.move rfl rfl rfl,λf=>af.move rfl rfl rfl,trivial⟩ ?_;refine bp.cS [[true],[false]] rfl ay rfl rfl rfl ⟨λf=>dI,λf=>dI,trivial⟩ ?_;refine bp.cS [[true],[false]] rfl ay rfl rfl rfl ⟨λf=>af.row (els:=[[aa.ints G]]) rfl rfl c4 rfl rfl rfl rfl rfl rfl,λf=>af.row (els:=[[aa.ints G]]) rfl rfl c4 rfl rfl rfl rfl rfl rfl,trivial⟩ ?_;refine bp.nil (λf=>?_);simp only[mB,List.map_cons,List.map_nil,List.cons_append,List.nil_append];refine bt ?_;refine au.gu rfl rfl rfl rfl rfl rfl rfl rfl (aL.refl _) (rfl) (λv=>by repeat (first | exact bu.head _ _ _ | apply bu.tail)) Co Co (λJ6=>?_);refine bS ?_;refine aR.pe (ni::hP) (⟨m+1,f 63,J6,by rw[w5 ab cy,Sq,Sr],rfl,ld⟩) ?_ ?_ ?_
     ·omega
     ·repeat (first | exact trivial | refine⟨rfl,?_⟩)
     ·repeat (first | exact List.Sublist.refl _ | apply List.Sublist.cons_cons | refine List.Sublist.cons _ ?_)
    ·have cy:iZ p t M.fact kinds= []:=by simpa using aV
     refine bn ?_;refine aR.pe (ni::hP) (⟨m+1,v1,v2,by rw[BM cy],rfl,ld⟩) ?_ ?_ ?_
     ·omega
     ·repeat (first | exact trivial | refine⟨rfl,?_⟩)
     ·repeat (first | exact List.Sublist.refl _ | apply List.Sublist.cons_cons | refine List.Sublist.cons _ ?_)
   ·intro ni r2 pre H1 e9 k5;exact k5.elim
 ·obtain rfl:m=p.methods.length:=by omega
  refine eb ?_;refine aR.l9 hP ([]) H (rs:=[.tmp 6,.tmp 7]) (H':=H) rfl hp (.tmp rfl (.tmp rfl (.nil))) (.cons (aL.hb _ _) (.cons (aL.hb _ _) .nil)) b8 ?_;exact⟨dJ,rfl⟩
def tl(p:Prog)(t:bG)(gen:Int)(kinds:List Int):Bool:=lk p t && mg p gen && ((kinds.length:Int)==gU p gen) && kinds.all (cr (a7 p))
def w6(p:Prog)(t:bG)(gen:Int)(kinds:List Int):aa:=if tl p t gen kinds then .bJ [aa.ints ((hj p t gen kinds).map (·.1)),aa.bD ((hj p t gen kinds).map (·.2)),.i 0] else .bJ [aa.ints [],aa.bD [],.i 2]
theorem EP{t:bG}{gen:Int}(h:tl p t gen kinds=false):w6 p t gen kinds= .bJ [aa.ints [],aa.bD [],.i 2]:=if_neg (by rw[h];decide)
theorem J7(an:(bK p).isSome=true){gen:Int}(al:mg p gen=true):gU p gen<=3:=by
 obtain⟨o,aA⟩:=Option.isSome_iff_exists.1 an;simp only[mg,Bool.and_eq_true,decide_eq_true_eq] at al;exact (uE (kF aA).2.2.1 (cp (l:=p.du) (k:=gen.toNat) ad)).2
theorem adM{gen:Int}(kinds:List Int):(bif bif bif !true then true else decide (gen<0) then true else decide (gen>=(p.du.length:Int)) then true else (kinds.length:Int) !=p.du.getD gen.toNat default)= !(mg p gen && ((kinds.length:Int)==gU p gen)):=by
 unfold mg gU;rw[bne,show decide (gen<0)= !decide (gen>=0) by rw[Bool.eq_iff_iff];simp,show decide (gen>=(p.du.length:Int))= !decide (gen<(p.du.length:Int)) by rw[Bool.eq_iff_iff];simp];cases decide (gen>=0) <;> cases decide (gen<(p.du.length:Int)) <;> rfl
theorem Vy(p:Prog){n:Int}(h:(!bif bif !true then true else decide (n<0) then true else decide (n>=(p.du.length:Int)))=true):mg p n=true:=by
 unfold mg;simp at h ⊢;omega
theorem adN(an:(bK p).isSome=true)(t:bG)(k:Int):ba Tryz.prog 52 [.i k,.ptr [aa.e2 p t]] (.b (cr (a7 p) k)):=by
 intro H;refine bh (n:=21) Tryz.func52 λB I aO=>?_;have hm:=qg an;have mw:=rn p;refine cw ?_;refine au.cb rfl rfl rfl rfl rfl rfl (λal=>af.div rfl rfl rfl (cL al) rfl ad (.inr ⟨rfl,rfl⟩)) ?_;refine bS ?_;refine au.cb rfl rfl rfl rfl rfl rfl (λal=>af.shift rfl rfl rfl rfl (cL al) ad (r1 _ ⟨ad,ad⟩)) ?_;refine aT ?_;refine aS 3 (H) ?_;exact⟨bR (by rw[mw];exact JL k),rfl⟩
theorem adO(aB:p.Small){t:bG}(an:(bK p).isSome=false)(gen:Int)(kinds:List Int):ba Tryz.prog 28 [aa.prog p,aa.ef t,.i gen,aa.ints kinds] (w6 p t gen kinds):=by
 intro H;refine bh (n:=57) Tryz.func28 λB I aO=>?_;have eF:tl p t gen kinds=false:=by unfold tl lk;rw[an];rfl
 refine ev ?_;refine aG (af.call .k (EG aB t an)) ?_;refine bg ?_;refine au.cG rfl rfl rfl rfl (λfo=>?_);refine aT ?_;refine aq.ep (d:=11) rfl ey ?_;refine ma ?_;refine au.cb rfl rfl rfl rfl rfl rfl (λal=>xC) ?_;refine bz ?_;refine aq.cond rfl (λai=>?_) (λai=>?_)
 ·refine bS ?_;refine aR.c5 (rs:=[.tmp 8,.tmp 9,.tmp 10]) (H':=H) rfl (.tmp rfl (.tmp rfl (.tmp rfl (.nil)))) (.cons (aL.nil 1) (.cons (aL.nil 1) (.cons (.refl _) .nil))) b8 ?_;exact⟨by rw[EP eF];rfl,rfl⟩
 ·simp at ai
theorem adP(aB:p.Small){t:bG}(an:(bK p).isSome=true)(ht:jG p t=false)(gen:Int)(kinds:List Int):ba Tryz.prog 28 [aa.prog p,aa.ef t,.i gen,aa.ints kinds] (w6 p t gen kinds):=by
 intro H;refine bh (n:=57) Tryz.func28 λB I aO=>?_;have eF:tl p t gen kinds=false:=by unfold tl lk;rw[ht,Bool.and_false];rfl
 refine ev ?_;refine aG (af.call .k (EH aB an ht)) ?_;refine bg ?_;refine au.cG rfl rfl rfl rfl (λfo=>?_);refine aT ?_;refine aq.ep (d:=11) rfl ey ?_;refine ma ?_;refine au.cb rfl rfl rfl rfl rfl rfl (λal=>xC) ?_;refine bz ?_;refine aq.cond rfl (λai=>?_) (λai=>?_)
 ·refine bS ?_;refine aR.c5 (rs:=[.tmp 8,.tmp 9,.tmp 10]) (H':=H) rfl (.tmp rfl (.tmp rfl (.tmp rfl (.nil)))) (.cons (aL.nil 1) (.cons (aL.nil 1) (.cons (.refl _) .nil))) b8 ?_;exact⟨by rw[EP eF];rfl,rfl⟩
 ·simp at ai
theorem adQ(aB:p.Small){t:bG}(an:(bK p).isSome=true)(ht:jG p t=true)(gen:Int)(kinds:List Int):ba Tryz.prog 28 [aa.prog p,aa.ef t,.i gen,aa.ints kinds] (w6 p t gen kinds):=by
 intro H;refine bh (n:=57) Tryz.func28 λB I aO=>?_;obtain⟨aH,eZ,_⟩:=JV ht;have ao:tl p t gen kinds=(mg p gen && ((kinds.length:Int)==gU p gen) && kinds.all (cr (a7 p))):=by unfold tl lk;rw[an,ht];rfl
 refine ev ?_;refine aG (af.call .k (JU aB an ht)) ?_;refine bg ?_;refine au.cG rfl rfl rfl rfl (λfo=>?_);refine aT ?_;refine aq.ep (d:=11) rfl ey ?_;refine ma ?_;refine au.cb rfl rfl rfl rfl rfl rfl (λal=>(by first | exact af.iQ rfl rfl (cL al) rfl (cL al) ⟨CK,CK⟩ | exact af.h1 rfl rfl (cL al) rfl (cL al) ⟨CK,CK⟩)) ?_;refine bz ?_;rw[adM];refine aq.cond rfl (λai=>?_) (λai=>?_)
 ·rw[Bool.not_eq_true'] at ai;refine bS ?_;refine aR.c5 (rs:=[.tmp 8,.tmp 9,.tmp 10]) (H':=H) rfl (.tmp rfl (.tmp rfl (.tmp rfl (.nil)))) (.cons (aL.nil 1) (.cons (aL.nil 1) (.cons (.refl _) .nil))) b8 ?_;exact⟨by rw[EP (by rw[ao,ai];rfl)];rfl,rfl⟩
 ·rw[Bool.not_eq_false'] at ai;rw[ai,Bool.true_and] at ao;rw[Bool.and_eq_true,beq_iff_eq] at ai;obtain⟨Ep,Bn⟩:=ai;have aD:=J7 an Ep;refine bn ?_;refine aG (af.call .k (BK (.of (adN an t)) _)) ?_;refine bg ?_;refine aq.cond rfl (λab=>?_) (λab=>?_)
  ·have ab:kinds.all (cr (a7 p))=false:=by simpa using ab
   refine bS ?_;refine aR.c5 (rs:=[.tmp 8,.tmp 9,.tmp 10]) (H':=H) rfl (.tmp rfl (.tmp rfl (.tmp rfl (.nil)))) (.cons (aL.nil 1) (.cons (aL.nil 1) (.cons (.refl _) .nil))) b8 ?_;exact⟨by rw[EP (by rw[ao,ab])];rfl,rfl⟩
  ·have ab:kinds.all (cr (a7 p))=true:=by simpa using ab
   rw[ab] at ao;refine bn ?_;refine aG (af.call .k (adL an aH eZ (List.all_eq_true.1 ab) Bn ad)) ?_;refine hB ?_;refine fR [.tmp 8,.tmp 9,.tmp 10] (H) ?_;exact⟨by rw[w6,if_pos ao];rfl,rfl⟩
theorem adR(aB:p.Small)(t:bG)(gen:Int)(kinds:List Int):ba Tryz.prog 28 [aa.prog p,aa.ef t,.i gen,aa.ints kinds] (w6 p t gen kinds):=by
 cases an:(bK p).isSome with
 | false=>exact adO aB an gen kinds
 | true=>
  cases ht:jG p t with
  | false=>exact adP aB an ht gen kinds
  | true=>exact adQ aB an ht gen kinds
end Go.Proofs.YtodccgailpkgeaaGreat

namespace Go.Eng.ei
open Go.Eng.Fc
variable{p:Prog}{next:Bool}{a b c:List Int}
abbrev hl(p:Prog)(n:Int):ew:=p.nodes.getD n.toNat default
def jI(p:Prog)(next:Bool):Nat->Int->Int->Prop
 | 0,_,_=>False
 | f+1,n,bx=>(0<=n/\n<p.nodes.length)/\q0 p next (hl p n) bx=true/\∀i,i<(hl p n).kids.length->jI p next f ((hl p n).kids.getD i default) (if(hl p n).op=9/\i=1 then bx+1 else bx)
def Seen(p:Prog)(next:Bool)(out o:List Int):Prop:=∀j,o.getD j default≠out.getD j default->∃f n bx,n.toNat=j/\jI p next f n bx
theorem Seen.refl(o:List Int):Seen p next o o:=λj h=>absurd rfl h
theorem Seen.trans(ab:Seen p next a b)(ae:Seen p next b c):Seen p next a c:=λj h=>by
 by_cases e:b.getD j default=a.getD j default
 ·exact ae j (by rw[e];exact h)
 ·exact ab j e
theorem Su(x:cd)(op:Int):∀(l:List Int) (j i:Nat),i<l.length->hJ x op (j+i) (l.getD i default)∈iC x op j l
 | [],j,i,h=>by simp at h
 | k::r,j,0,h=>by rw[iC];exact .head _
 | k::r,j,i+1,h=>by
  rw[iC];have:=Su x op r (j+1) i h3;rw[show j+1+i=j+(i+1) by omega] at this;exact .tail _ this
theorem Sv{p:Prog}{next:Bool}{f:Nat}(aC:∀x out o,(visit p next f x out).2=some o->jI p next f x.n x.bx/\Seen p next out o):∀(l:List cd) (out o:List Int),(fl (visit p next f) l out).2=some o->(∀y∈l,jI p next f y.n y.bx)/\Seen p next out o
 | [],out,o,h=>by
  simp only[fl,Option.some.injEq] at h;subst h;exact⟨λy hy=>by(cases hy),Seen.refl _⟩
 | y::r,out,o,h=>by
  simp only[fl] at h;rcases hy:visit p next f y out with⟨po,_ | cV⟩
  ·rw[hy] at h;simp at h
  ·rw[hy] at h;simp only at h;obtain⟨ab,ae⟩:=aC y out cV (by rw[hy]);obtain⟨aD,aV⟩:=Sv aC r cV o h;refine⟨λz an=>?_,ae.trans aV⟩;rcases List.mem_cons.1 an with rfl | an
   ·exact ab
   ·exact aD z an
theorem J8{p:Prog}{next:Bool}:∀(f:Nat) (x:cd) (out o:List Int),(visit p next f x out).2=some o->jI p next f x.n x.bx/\Seen p next out o
 | 0,x,out,o,h=>by simp[visit] at h
 | f+1,x,out,o,h=>by
  rw[visit] at h;split at h
  ·rename_i cA;obtain⟨ab,ae⟩:=Sv (J8 f) _ _ _ h;rw[fS,Bool.and_eq_true] at cA;have aB:=cA.1;simp only[nT,Bool.and_eq_true,decide_eq_true_eq] at aB;have ht:jI p next (f+1) x.n x.bx:=⟨⟨aB.1.1.1,aB.1.1.2⟩,cA.2,λi av=>by
    have:=ab _ (Su x (gq p x).op (gq p x).kids 0 i av);rw[Nat.zero_add] at this;exact this⟩
   refine⟨ht,Seen.trans (λj aU=>?_) ae⟩;by_cases e:x.n.toNat=j
   ·exact⟨_,_,_,e,ht⟩
   ·exfalso;apply aU;rw[jU,List.getD_eq_getElem?_getD,List.getElem?_set,if_neg e, <-List.getD_eq_getElem?_getD]
  ·cases h
def yP(p:Prog)(out o:List Int):Prop:=∀j,o.getD j default≠out.getD j default->∃next f n bx,n.toNat=j/\jI p next f n bx
theorem Seen.any(h:Seen p next a b):yP p a b:=λj aU=>⟨next,h j aU⟩
theorem yP.trans(ab:yP p a b)(ae:yP p b c):yP p a c:=λj h=>by
 by_cases e:b.getD j default=a.getD j default
 ·exact ae j (by rw[e];exact h)
 ·exact ab j e
theorem Sw{p:Prog}:∀(l:List iz) (out o:List Int),hS p l out=some o->(∀m∈l,jI p (me m) 13 m.node (p.du.getD m.gen.toNat default))/\yP p out o
 | [],out,o,h=>by
  rw[hS] at h;cases h;exact⟨λy hy=>by(cases hy),(Seen.refl (next:=false) _).any⟩
 | m::r,out,o,h=>by
  rw[hS] at h;split at h
  ·cases aC:(visit p (me m) 13 (ns p m) out).2 with
   | none=>rw[aC] at h;cases h
   | some cV=>
    rw[aC] at h;obtain⟨ab,ae⟩:=J8 13 _ _ _ aC;obtain⟨aD,aV⟩:=Sw r cV o h;refine⟨λz an=>?_,ae.any.trans aV⟩;rcases List.mem_cons.1 an with rfl | an
    ·exact ab
    ·exact aD z an
  ·cases h
theorem tm(an:(bK p).isSome=true):(∀m∈p.methods,jI p (me m) 13 m.node (p.du.getD m.gen.toNat default))/\jI p false 13 p.main 0/\∀n,n<p.nodes.length->∃next f bx,jI p next f (n:Int) bx:=by
 obtain⟨o,aA⟩:=Option.isSome_iff_exists.1 an;obtain⟨_,_,_,cV,hm,aC,ak⟩:=kF aA;obtain⟨ab,ae⟩:=Sw _ _ _ hm;obtain⟨aD,aV⟩:=J8 13 _ _ _ aC;refine⟨ab,aD,λn hn=>?_⟩;have ax:=(wk aA).1;have bq:o.getD n default≠(kn p).getD n default:=by
  have e:(kn p).getD n default= -1:=by simp[kn,hn]
  rw[e];intro h;have Dj:o.getD n default∈o:=cp ad;rw[h] at Dj;rw[List.contains_eq_mem,decide_eq_false_iff_not] at ak;exact ak Dj
 obtain⟨next,f,m,bx,ld,ht⟩:=(ae.trans aV.any) n bq;have pC:m=(n:Int):=by
  cases f with
  | zero=>exact ht.elim
  | succ f=>have:=ht.1.1;omega
 subst pC;exact⟨next,f,bx,ht⟩
section
variable{p:Prog}{next:Bool}{f:Nat}{n bx:Int}
theorem w7(h:jI p next f n bx):0<=n/\n<p.nodes.length:=by
 cases f with
 | zero=>exact h.elim
 | succ f=>exact h.1
theorem Sx(h:jI p next f n bx):q0 p next (hl p n) bx=true:=by
 cases f with
 | zero=>exact h.elim
 | succ f=>exact h.2.1
theorem BN(h:jI p next f n bx):∀k∈(hl p n).kids,0<=k/\k<p.nodes.length:=by
 cases f with
 | zero=>exact h.elim
 | succ f=>
  intro k ao;obtain⟨i,av,rfl⟩:=List.getElem_of_mem ao;have:=w7 (h.2.2 i av);rwa [List.getD_eq_getElem?_getD,List.getElem?_eq_getElem av] at this
theorem ER(h:jI p next f n bx):(jo (hl p n).op=some none->((hl p n).kids.length:Int)=p.du.getD (hl p n).n.toNat default)/\∀k,jo (hl p n).op=some (some k)->(hl p n).kids.length=k:=by
 have al:=Sx h;simp only[q0,Bool.and_eq_true] at al;refine⟨λe=>?_,λk e=>?_⟩
 ·have:=al.2;rw[e] at this;simpa using this
 ·have:=al.2;rw[e] at this;simpa using this
theorem BO(h:jI p next f n bx):hI p (hl p n) bx=true/\jo (hl p n).op≠none/\((hl p n).op=18->next=true):=by
 have al:=Sx h;simp only[q0,Bool.and_eq_true] at al;refine⟨al.1.1,λe=>?_,λe=>?_⟩
 ·have:=al.2;rw[e] at this;cases this
 ·have:=al.1.2;rw[e] at this;simpa using this
end
def yQ(p:Prog)(t:bG)(gen:Int)(l:List Int):Bool:=p.methods.any λM=>M.gen==gen && M.kind==1 && e1 p t l M.fact==(true,false)
def ES(p:Prog)(t:bG)(gen:Int)(kinds:List Int):Bool:=(fU kinds).all (yQ p t gen)
def lo(t:bG)(y:ew):List Int:=y.kids.map λk=>t.nodes.getD k.toNat default
def mj(p:Prog)(t:bG)(y:ew):Bool:=
 if y.op=4\/y.op=7 then (hV ((lo t y).getD 0 default).toNat).all (λc=>fT p c y.n)
 else if y.op=8 then decide (((lo t y).getD 0 default).toNat &&& 6=0)
 else if y.op=5 then ES p t y.n (lo t y) else true
def J9(p:Prog)(t:bG):List Bool:=p.nodes.map (mj p t)
end Go.Eng.ei

namespace Go.Proofs.YtodccgailpkgeaaGreat
open Go.Eng
open Go.Eng.Fc
open Go.Eng.ei
variable{f:Fn}{bM cs:List aa}{ga:List aj}{p:Prog}{l:List iz}{t:bG}{y:ew}
theorem adS{B:Nat}{F:List aj->Prop}{J Jx:List iz->List aj->Prop}(l:List iz)(al:vA B Tryz.prog (.fn f bM cs) (λM:iz=>.agg (fw M)) l F J Jx)(H Hx:List aj)(hF:F Hx)(bF:J [] H):
  dC B Tryz.prog 118 [.aF 9 (l.map fw),.fn f bM cs] (H++Hx) (xY J Jx l Hx) (λ_ _=>False):=by
 refine dC.of (n:=19) Tryz.func118 rfl aM rfl rfl (λI aO=>?_);refine aq.fi (t:=0) rfl (λhg=>?_);refine eb ?_;refine cq (λm st=>∃(k:Nat) (H1:List aj),st=⟨[(8,.i k),(7,.i l.length),(0,.aF 9 (l.map fw)),(1,.fn f bM cs)],H1++Hx⟩/\m=l.length - k/\k<=l.length/\J (l.take k) H1) (⟨0,H,rfl,rfl,bj,bF⟩) ?_;rintro m _ ⟨k,H1,rfl,rfl,ao,fp⟩;refine aT ?_;refine aZ (λai=>?_) λai=>?_
 ·refine hB ?_;refine au.o1 rfl rfl rfl rfl rfl rfl rfl rfl (bO.refl _) (al (l.take k) (l.getD k default) H1 Hx CE hF fp) ?_;rintro _ _ ⟨b,db,rfl,rfl,gn,mU⟩;rw[eE ad] at gn mU;refine bC ?_;refine aZ (λab=>?_) λab=>?_
  ·refine cT ?_;refine aR.c5 (rs:=[.tmp 4]) rfl (.tmp rfl (.nil)) (bO.refl _) b8 ?_;exact⟨db,rfl,.inr ⟨l.take k,l.getD k default,l.drop (k+1),DK ad,gp CG,CJ⟩⟩
  ·refine bn ?_;exact bV (⟨k+1,db,rfl,rfl,ad,gn ab⟩)
 ·refine cw ?_;refine aR.c5 (rs:=[.tmp 4]) rfl (.tmp rfl (.nil)) (bO.refl _) b8 ?_;exact⟨H1,rfl,.inl ⟨rfl,Cy⟩⟩
theorem adT{p:iz->Bool}(al:oo Tryz.prog ga (.fn f bM cs) (λM:iz=>.agg (fw M)) l p):vH Tryz.prog ga 118 [.aF 9 (l.map fw),.fn f bM cs] (λy=>∃n:Int,y= .i n/\decide (n>=0)=l.any p):=
 GN aM (λB F J Jx h H Hx hF bF=>adS l h H Hx hF bF) al
theorem adU{p:iz->Bool}(al:oo Tryz.prog ga (.fn f bM cs) (λM:iz=>.agg (fw M)) l p):jf Tryz.prog ga 80 [.aF 9 (l.map fw),.fn f bM cs] (.b (l.any p)):=by
 intro H hm;refine bh (n:=9) Tryz.func80 λB I aO=>?_;refine bS ?_;refine au.G6 rfl rfl rfl .k (adT al) hm (λy hy=>?_);obtain⟨n,rfl,hn⟩:=hy;refine bz ?_;refine aS 4 (H) ?_;exact⟨bR hn,rfl⟩
theorem adV(x y:Bool×Bool):(uS x==uS y)=(x==y):=by
 obtain⟨a,b⟩:=x;obtain⟨c,d⟩:=y;cases a <;> cases b <;> cases c <;> cases d <;> rfl
theorem adW(an:(bK p).isSome=true)(aH:pB p t)(eZ:(t.aJ.length:Int)=p.aJ){gen:Int}{x:List Int}(w8:x.length<=1000)(ax:∀c∈x,1<=c/\c<a7 p){b n:Nat}(hn:x.length=n)(M:iz)(bT:M.gen=gen->jD p x M.fact):jf Tryz.prog [fW b x] 81 [.agg (fw M),.ptr [.i gen],.ptr [aa.e2 p t],.ptr [gV b n]] (.b (M.gen==gen && M.kind==1 && e1 p t x M.fact==(true,false))):=by
 intro H hm;refine bh (n:=24) Tryz.func81 λB I aO=>?_;refine oz ?_;refine au.cb rfl rfl rfl rfl rfl rfl (λal=>af.sR (.mk' rfl rfl rfl rfl dv) (gb.outs (pre:=[aa.e2 p t,aa.fact M.fact]) (post:=[]) (nb:=b) (o:=x) (hm _ (.head _)) hn ad) (EE an aH eZ ax _ (bT (by have cQ:=al;simp at cQ;exact cQ.1)))) ?_;refine au.cb rfl rfl rfl rfl rfl rfl (λal=>af.call .k (wT true false)) ?_;refine aT ?_;refine aS 5 (H) ?_;exact⟨bR (by rw[adV];cases M.gen==gen <;> cases M.kind==1 <;> rfl),rfl⟩
theorem adX{α:Type}{q:α->Bool}{pre:List α}{x:α}(h:pre.all q=true)(ag:q x=true):(pre++[x]).all q=true:=by rw[List.all_append,h,List.all_cons,ag];rfl
theorem adY{α:Type}{q:α->Bool}{l:List α}{x:α}(ag:x∈l)(h:q x=false):l.all q=false:=by
 rw[List.all_eq_false];exact⟨x,ag,zq⟩
theorem adZ(an:(bK p).isSome=true)(aH:pB p t)(eZ:(t.aJ.length:Int)=p.aJ){gen:Int}{kinds:List Int}(ao:∀k∈kinds,cr (a7 p) k=true)(dP:(kinds.length:Int)=gU p gen)(BL:kinds.length<=1000):ba Tryz.prog 39 [aa.e2 p t,.i gen,aa.ints kinds] (.b (ES p t gen kinds)):=by
 intro H;refine b1.rF (n:=19) Tryz.func39 rfl aM rfl rfl (λB I aO=>?_);have eD:=J2 an ao;refine bI ?_;refine au.cG rfl rfl rfl rfl (λer=>?_);refine aT ?_;refine aG (af.call .k ((J0 _))) ?_;refine bg ?_;refine aq.weaken (st':=⟨[(9,.fn (.func 116) [] [.ptr [aa.ints kinds]]),(3,.ptr [aa.e2 p t]),(4,.ptr [.i gen]),(6,.p er 0)],[.aI er 4 [.b false]]++(hO []++H)⟩) h2 hp ?_;refine aq.rO [] (λb (_:List Int)=>gV b kinds.length) (λb x=>[fW b x]) (fU kinds) (λpre H=>H= [.aI er 4 [.b false]]/\pre.all (yQ p t gen)=true) (λcode _ H=>code= .ret/\H= [.aI er 4 [.b false]]/\ES p t gen kinds=false) ([.aI er 4 [.b false]]) (H) (λb x=>[(7,.ptr [gV b kinds.length]),(10,gV b kinds.length),(3,.ptr [aa.e2 p t]),(4,.ptr [.i gen]),(6,.p er 0)]) rfl rfl rfl rfl (J1 _ eD BL) (⟨rfl,rfl⟩) ?_ ?_ ?_ ?_
 ·intro eJ iY fA iM x c0;refine bt ?_;refine au.cG rfl rfl rfl rfl (λhx=>?_);refine bC ?_;exact λa w s=>⟨_,rfl,(s.ep (d:=7) rfl ey).weaken (j3 h2) (List.Sublist.refl _)⟩
 ·intro eJ eK dw pre iM x H1 c0 iY fA e9 bF;obtain⟨rfl,cy⟩:=bF;have mz:x∈fU kinds:=e9.subset bj;obtain⟨my,EO⟩:=rq mz;have dp:=w4 ao mz;have uv:∀M∈p.methods,M.gen=gen->jD p x M.fact:=λM bT al=>by
   obtain⟨j,aU,rfl⟩:=List.getElem_of_mem bT;have pc:ln p (j:Int)=true:=by unfold ln;simp;omega
   have e:p.methods.getD ((j:Int)).toNat default=p.methods[j]:=by rw[show ((j:Int)).toNat=j from rfl,List.getD_eq_getElem?_getD,List.getElem?_eq_getElem aU];rfl
   have bl:=EI an pc (l:=x) (by rw[my,dP];unfold tH;rw[e,al]);rw[e] at bl;exact bl
  refine bS ?_;refine aG (af.jB .k (bO.refl _) (adU (.of (λM bT=>adW (b:=iM) an aH eZ (x:=x) ad dp my M (uv M bT)))) (λe he=>by rw[List.mem_singleton] at he;subst he;simp[fW])) ?_;refine bg ?_;refine aq.cond rfl (λai=>?_) (λai=>?_)
  ·have ai:yQ p t gen x=false:=by unfold yQ;simpa using ai
   refine bn ?_;exact aR.Gs (H:=[.aI er 4 [.b false]]) lv ⟨rfl,rfl,adY mz ai⟩
  ·have ai:yQ p t gen x=true:=by unfold yQ;simpa using ai
   refine bC ?_;exact aR.nA (H:=[.aI er 4 [.b false]]) lv ⟨rfl,adX cy ai⟩
 ·intro eK H1 bF;obtain⟨rfl,cy⟩:=bF;refine bs ?_;refine aR.l9 (eK::[]) ([.aI er 4 [.b true]]) H (rs:=[.cell 6 4]) (H':=H) rfl hp (tC) (bO.refl _) b8 ?_;exact⟨bR cy.symm,rfl⟩
 ·intro eK r2 pre H1 e9 k5;obtain⟨rfl,rfl,eF⟩:=k5
  ·refine bg ?_;refine aR.l9 (eK::[]) ([.aI er 4 [.b false]]) H (rs:=[.cell 6 4]) (H':=H) rfl hp (tC) (bO.refl _) b8 ?_;exact⟨bR eF.symm,rfl⟩
theorem ad0(an:(bK p).isSome=true)(ht:jG p t=true){i:Nat}(av:i<p.nodes.length){y:ew}(hy:y=p.nodes.getD i default):
  (∀k∈y.kids,0<=k/\k<t.nodes.length)/\(∀k∈lo t y,cr (a7 p) k=true)/\(y.op=4\/y.op=7\/y.op=8->0<y.kids.length)/\(y.op=5->(y.kids.length:Int)=gU p y.n)/\y.kids.length<=3:=by
 obtain⟨next,f,bx,bX⟩:=(tm an).2.2 i av;have e:hl p (i:Int)=y:=by rw[hy];rfl
 have ao:=BN bX;obtain⟨p6,ox⟩:=ER bX;obtain⟨pD,qd,_⟩:=BO bX;rw[e] at ao p6 ox pD qd;simp only[jG,Bool.and_eq_true,decide_eq_true_eq] at ht;have ir:=ht.1.1.1.1.2;have Ka:=List.all_eq_true.1 ht.1.2;have gD:∀k∈y.kids,0<=k/\k<t.nodes.length:=λk h=>by have:=ao k h;omega
 have bl:y.op=5->(y.kids.length:Int)=gU p y.n:=λh=>p6 (by rw[h];rfl);refine⟨gD,λk h=>?_,λh=>?_,bl,?_⟩
 ·obtain⟨x,ag,rfl⟩:=List.mem_map.1 h;have:=gD x ag;exact Ka _ (cp ad)
 ·rcases h with h | h | h
  ·have:=ox 1 (by rw[h];rfl);omega
  ·have:=ox 2 (by rw[h];rfl);omega
  ·have:=ox 1 (by rw[h];rfl);omega
 ·by_cases h:y.op=5
  ·have al:mg p y.n=true:=by
    rw[hI,h] at pD;simp[sl] at pD;unfold mg;simp;omega
   have:=J7 an al;have:=bl h;omega
  ·have ak:∃k,k<=3/\jo y.op=some (some k):=by
    revert qd;unfold jo;rw[if_neg h];split
    ·exact λ_=>⟨0,ad,rfl⟩
    ·split
     ·exact λ_=>⟨1,ad,rfl⟩
     ·split
      ·exact λ_=>⟨2,ad,rfl⟩
      ·split
       ·exact λ_=>⟨3,ad,rfl⟩
       ·exact λh=>absurd rfl h
   obtain⟨k,ab,ae⟩:=ak;have:=ox k ae;omega
theorem ad1:lo t y=(y.kids.take y.kids.length).map λk=>t.nodes.getD k.toNat default:=by rw[List.take_length];rfl
theorem ad2(t:bG)(y:ew):(lo t y).length=y.kids.length:=List.length_map _
theorem ad3{j:Nat}(h:j<y.kids.length):aa.ints ((y.kids.take (j+1)).map λk=>t.nodes.getD k.toNat default)= .aF 1 ((((y.kids.take j).map λk=>t.nodes.getD k.toNat default).map λn=>[aa.i n])++[[.i (t.nodes.getD (y.kids.getD j default).toNat default)]]):=by
 rw[<-eE h,List.map_append];show aa.aF 1 (List.map _ (_++_))=_;rw[List.map_append];rfl
theorem ad4{i:Nat}(h:i<p.nodes.length){b:Bool}(aw:b=mj p t (p.nodes.getD i default)):aa.da ((p.nodes.take (i+1)).map (mj p t))= .aF 1 ((((p.nodes.take i).map (mj p t)).map λb=>[aa.b b])++[[.b b]]):=by
 subst aw;rw[<-eE h,List.map_append];show aa.aF 1 (List.map _ (_++_))=_;rw[List.map_append];rfl
theorem Sy(h:y.op=4\/y.op=7){k:Nat}(ao:(lo t y).getD 0 default=(k:Int)):(hV k).all (λc=>fT p c y.n)=mj p t y:=by
 rw[mj,if_pos h,ao];rfl
theorem ad5(h:y.op=8){k:Nat}(ao:(lo t y).getD 0 default=(k:Int)):(((k &&& 6:Nat):Int)==0)=mj p t y:=by
 rw[mj,if_neg ad,if_pos h,ao,Bool.eq_iff_iff];simp
theorem ad6(h:y.op=5):ES p t y.n (lo t y)=mj p t y:=by
 rw[mj,if_neg ad,if_neg ad,if_pos h]
theorem ad7(aV: ¬y.op=4)(di: ¬y.op=7)(eW: ¬y.op=8)(bl: ¬y.op=5):true=mj p t y:=by
 rw[mj,if_neg ad,if_neg eW,if_neg bl]
theorem ad8(aB:p.Small){t:bG}(an:(bK p).isSome=false):ba Tryz.prog 11 [aa.prog p,aa.ef t] (.bJ [aa.da [],.i 2]):=by
 intro H;refine bh (n:=85) Tryz.func11 λB I aO=>?_;refine cT ?_;refine aG (af.call .k (EG aB t an)) ?_;refine bg ?_;refine au.cG rfl rfl rfl rfl (λfo=>?_);refine aT ?_;refine aq.ep (d:=6) rfl ey ?_;refine bz ?_;refine aq.cond rfl (λai=>?_) (λai=>?_)
 ·refine bs ?_;refine aR.c5 (rs:=[.tmp 4,.tmp 5]) (H':=H) rfl (.tmp rfl (.tmp rfl (.nil))) (.cons (aL.nil 1) (.cons (.refl _) .nil)) b8 ?_;exact⟨dJ,rfl⟩
 ·simp at ai
theorem ad9(aB:p.Small){t:bG}(an:(bK p).isSome=true)(ht:jG p t=false):ba Tryz.prog 11 [aa.prog p,aa.ef t] (.bJ [aa.da [],.i 2]):=by
 intro H;refine bh (n:=85) Tryz.func11 λB I aO=>?_;refine cT ?_;refine aG (af.call .k (EH aB an ht)) ?_;refine bg ?_;refine au.cG rfl rfl rfl rfl (λfo=>?_);refine aT ?_;refine aq.ep (d:=6) rfl ey ?_;refine bz ?_;refine aq.cond rfl (λai=>?_) (λai=>?_)
 ·refine bs ?_;refine aR.c5 (rs:=[.tmp 4,.tmp 5]) (H':=H) rfl (.tmp rfl (.tmp rfl (.nil))) (.cons (aL.nil 1) (.cons (.refl _) .nil)) b8 ?_;exact⟨dJ,rfl⟩
 ·simp at ai
theorem aea(aB:p.Small){t:bG}(an:(bK p).isSome=true)(ht:jG p t=true):ba Tryz.prog 11 [aa.prog p,aa.ef t] (.bJ [aa.da (J9 p t),.i 0]):=by
 intro H;refine b1.rF (n:=85) Tryz.func11 rfl aM rfl rfl (λB I aO=>?_);obtain⟨aH,eZ,_⟩:=JV ht;have wY:=qh an;have ir:p.nodes.length<=120:=by
  obtain⟨o,aA⟩:=Option.isSome_iff_exists.1 an;exact (wk aA).2
 refine cT ?_;refine aG (af.call .k (JU aB an ht)) ?_;refine bg ?_;refine au.cG rfl rfl rfl rfl (λfo=>?_);refine aT ?_;refine aq.ep (d:=6) rfl ey ?_;refine bz ?_;refine aq.cond rfl (λai=>?_) (λai=>?_)
 ·simp at ai
 ·refine hB ?_;refine aq.iq 8 4 1 rfl ?_;refine aq.AK (λq st=>∃(i:Nat) (v1:Value),st=⟨[(27,.i i),(26,.i p.nodes.length),(25,.aF 3 (p.nodes.map lN)),(8,.as (aa.da ((p.nodes.take i).map (mj p t))) v1),(6,.ptr [aa.e2 p t]),(3,.ptr (lQ t))],[.own 4 1 v1]⟩/\q=p.nodes.length - i/\i<=p.nodes.length) [] H ⟨_,_,⟨0,_,rfl,rfl,ad⟩,h2,hp⟩ ?_;intro hP;rintro q _ ⟨i,v1,rfl,rfl,av⟩;refine aT ?_;refine aZ (λab=>?_) λab=>?_
  ·have a1:i<p.nodes.length:=by omega
   obtain⟨y,hy⟩:∃y,y=p.nodes.getD i default:=⟨_,rfl⟩;obtain⟨RL,lf,Kb,aeb,yR⟩:=ad0 an ht a1 hy;have tn:=λb aw=>ad4 (p:=p) (t:=t) a1 (b:=b) aw;rw[<-hy] at tn;refine bs ?_;refine au.cG rfl rfl rfl rfl (λKc=>?_);refine bI ?_;rw[<-hy];refine aq.ep (d:=10) rfl ey ?_;refine eb ?_;refine aq.iq 11 3 1 rfl ?_;refine aq.AK (λq st=>∃(j:Nat) (v2:Value),st=⟨[(34,.i j),(33,.i y.kids.length),(32,aa.ints y.kids),(11,.as (aa.ints ((y.kids.take j).map λk=>t.nodes.getD k.toNat default)) v2),(10,.ptr (lN y)),(27,.i i),(26,.i p.nodes.length),(25,.aF 3 (p.nodes.map lN)),(8,.as (aa.da ((p.nodes.take i).map (mj p t))) v1),(6,.ptr [aa.e2 p t]),(3,.ptr (lQ t))],[.own 3 1 v2,.own 4 1 v1]⟩/\q=y.kids.length - j/\j<=y.kids.length) hP H ⟨_,_,⟨0,_,rfl,rfl,ad⟩,h2,hp⟩ ?_;intro r5;rintro q _ ⟨j,v2,rfl,rfl,aU⟩;refine aT ?_;refine aZ (λae=>?_) λae=>?_
   ·have c3:j<y.kids.length:=by omega
    have rH:=RL _ (cp c3);refine lL ?_;refine aG (ob) ?_;refine bt ?_;refine au.bB (x:=.aF 1 [[.i (t.nodes.getD (y.kids.getD j default).toNat default)]]) rfl rfl rfl (af.row rfl rfl c4 rfl rfl rfl rfl rfl rfl) ?_;refine au.gu rfl rfl rfl rfl rfl rfl rfl rfl (aL.refl _) (rfl) (λv=>by repeat (first | exact bu.head _ _ _ | apply bu.tail)) pN pN (λaec=>?_);refine bs ?_;refine aR.pe r5 (⟨j+1,aec,by rw[ad3 c3],rfl,c3⟩) ?_ ?_ ?_
    ·omega
    ·repeat (first | exact trivial | refine⟨rfl,?_⟩)
    ·repeat (first | exact List.Sublist.refl _ | apply List.Sublist.cons_cons | refine List.Sublist.cons _ ?_)
   ·obtain rfl:j=y.kids.length:=by omega
    rw[<-ad1];refine aq.le 11 (y:=aa.ints (lo t y)) rfl (aL.hb _ _) ?_;have dP:=ad2 t y;refine bn ?_;refine au.cG rfl rfl rfl rfl (λtb=>?_);refine kC ?_;refine aq.cond rfl (λaD=>?_) (λaD=>?_)
    ·replace aD:=dZ aD;have aV:y.op=4:=aD;refine bC ?_;refine aq.cond rfl (λaV=>?_) (λaV=>?_)
     ·replace aV:=dZ aV;have jV:y.op=4\/y.op=7:=.inl aV;have jw:=Kb (.inl aV);obtain⟨gw,gD,_⟩:=wR (lf _ (cp (l:=lo t y) (k:=0) ad));obtain⟨jJ,BP⟩:∃jJ,jJ=((lo t y).getD 0 default).toNat:=⟨_,rfl⟩;rw[<-BP] at gw gD;refine bI ?_;refine aG (af.le (af.eN rfl rfl rfl rfl) (aL.dx gw)) ?_;refine aG (af.call .k ((wU _))) ?_;refine bg ?_;refine aq.weaken (st':=⟨[(55,.fn (.func 76) [] [.ptr [.i jJ]]),(14,.p tb 0),(11,aa.ints (lo t y)),(10,.ptr (lN y)),(27,.i i),(26,.i p.nodes.length),(25,.aF 3 (p.nodes.map lN)),(8,.as (aa.da ((p.nodes.take i).map (mj p t))) v1),(6,.ptr [aa.e2 p t]),(3,.ptr (lQ t))],[.aI tb 4 [.b true],.own 4 1 v1]++(hO r5++H)⟩) h2 hp ?_;refine aq.rO r5 (λ_ (c:Nat)=>.i c) (λ_ _=>[]) (hV jJ) (λpre H=>H= [.aI tb 4 [.b (pre.all λc=>fT p c y.n)],.own 4 1 v1]) (λ_ _ _=>False) ([.aI tb 4 [.b true],.own 4 1 v1]) (H) (λ_ x=>[(15,.i x),(56,.i x),(14,.p tb 0),(11,aa.ints (lo t y)),(10,.ptr (lN y)),(27,.i i),(26,.i p.nodes.length),(25,.aF 3 (p.nodes.map lN)),(8,.as (aa.da ((p.nodes.take i).map (mj p t))) v1),(6,.ptr [aa.e2 p t]),(3,.ptr (lQ t))]) rfl rfl rfl rfl ((wX _ ad).b) dJ ?_ ?_ ?_ ?_
      ·intro eJ iY fA iM x c0;refine bg ?_;exact λa w s=>⟨_,rfl,s.weaken (j3 h2) (List.Sublist.refl _)⟩
      ·intro eJ eK dw pre iM x H1 c0 iY fA e9 bF;obtain rfl:=bF;have ag:x<a7 p:=wQ gD (e9.subset bj);refine bs ?_;refine au.cb rfl rfl rfl rfl rfl rfl (λal=>af.call (.mk' rfl rfl rfl rfl dv) (BH t an ag y.n)) ?_;refine bI ?_;exact aR.nA (H:=[.aI tb 4 [.b (bif pre.all λc=>fT p c y.n then fT p x y.n else false)],.own 4 1 v1]) lv Md
      ·intro Sz H1 bF;obtain rfl:=bF;refine aT ?_;refine au.bB (x:=.aF 1 [[.b _]]) rfl rfl rfl (af.row rfl rfl c4 rfl rfl rfl rfl rfl rfl) ?_;refine au.gu rfl rfl rfl rfl rfl rfl rfl rfl (aL.refl _) (rfl) (λv=>by repeat (first | exact bu.head _ _ _ | apply bu.tail)) pN pN (λtp=>?_);refine bs ?_;refine aR.pe (Sz::r5) (⟨i+1,tp,by rw[tn _ (Sy jV gw)],rfl,a1⟩) ?_ ?_ ?_
       ·omega
       ·repeat (first | exact trivial | refine⟨rfl,?_⟩)
       ·repeat (first | exact List.Sublist.refl _ | apply List.Sublist.cons_cons | refine List.Sublist.cons _ ?_)
      ·intro Sz r2 pre H1 e9 k5;exact k5.elim
     ·simp_all
    ·have aV: ¬y.op=4:=by simpa using aD
     refine bz ?_;refine aq.cond rfl (λbl=>?_) (λbl=>?_)
     ·replace bl:=dZ bl;have di:y.op=7:=bl;have jV:y.op=4\/y.op=7:=.inr di;have jw:=Kb (.inr (.inl di));obtain⟨gw,gD,_⟩:=wR (lf _ (cp (l:=lo t y) (k:=0) ad));obtain⟨jJ,BP⟩:∃jJ,jJ=((lo t y).getD 0 default).toNat:=⟨_,rfl⟩;rw[<-BP] at gw gD;refine bI ?_;refine aG (af.le (af.eN rfl rfl rfl rfl) (aL.dx gw)) ?_;refine aG (af.call .k ((wU _))) ?_;refine bg ?_;refine aq.weaken (st':=⟨[(55,.fn (.func 76) [] [.ptr [.i jJ]]),(14,.p tb 0),(11,aa.ints (lo t y)),(10,.ptr (lN y)),(27,.i i),(26,.i p.nodes.length),(25,.aF 3 (p.nodes.map lN)),(8,.as (aa.da ((p.nodes.take i).map (mj p t))) v1),(6,.ptr [aa.e2 p t]),(3,.ptr (lQ t))],[.aI tb 4 [.b true],.own 4 1 v1]++(hO r5++H)⟩) h2 hp ?_;refine aq.rO r5 (λ_ (c:Nat)=>.i c) (λ_ _=>[]) (hV jJ) (λpre H=>H= [.aI tb 4 [.b (pre.all λc=>fT p c y.n)],.own 4 1 v1]) (λ_ _ _=>False) ([.aI tb 4 [.b true],.own 4 1 v1]) (H) (λ_ x=>[(15,.i x),(56,.i x),(14,.p tb 0),(11,aa.ints (lo t y)),(10,.ptr (lN y)),(27,.i i),(26,.i p.nodes.length),(25,.aF 3 (p.nodes.map lN)),(8,.as (aa.da ((p.nodes.take i).map (mj p t))) v1),(6,.ptr [aa.e2 p t]),(3,.ptr (lQ t))]) rfl rfl rfl rfl ((wX _ ad).b) dJ ?_ ?_ ?_ ?_
      ·intro eJ iY fA iM x c0;refine bg ?_;exact λa w s=>⟨_,rfl,s.weaken (j3 h2) (List.Sublist.refl _)⟩
      ·intro eJ eK dw pre iM x H1 c0 iY fA e9 bF;obtain rfl:=bF;have ag:x<a7 p:=wQ gD (e9.subset bj);refine bs ?_;refine au.cb rfl rfl rfl rfl rfl rfl (λal=>af.call (.mk' rfl rfl rfl rfl dv) (BH t an ag y.n)) ?_;refine bI ?_;exact aR.nA (H:=[.aI tb 4 [.b (bif pre.all λc=>fT p c y.n then fT p x y.n else false)],.own 4 1 v1]) lv Md
      ·intro SA H1 bF;obtain rfl:=bF;refine aT ?_;refine au.bB (x:=.aF 1 [[.b _]]) rfl rfl rfl (af.row rfl rfl c4 rfl rfl rfl rfl rfl rfl) ?_;refine au.gu rfl rfl rfl rfl rfl rfl rfl rfl (aL.refl _) (rfl) (λv=>by repeat (first | exact bu.head _ _ _ | apply bu.tail)) pN pN (λtp=>?_);refine bs ?_;refine aR.pe (SA::r5) (⟨i+1,tp,by rw[tn _ (Sy jV gw)],rfl,a1⟩) ?_ ?_ ?_
       ·omega
       ·repeat (first | exact trivial | refine⟨rfl,?_⟩)
       ·repeat (first | exact List.Sublist.refl _ | apply List.Sublist.cons_cons | refine List.Sublist.cons _ ?_)
      ·intro SA r2 pre H1 e9 k5;exact k5.elim
     ·have aed: ¬y.op=7:=by simpa using bl
      refine aT ?_;refine aq.cond rfl (λcP=>?_) (λcP=>?_)
      ·replace cP:=dZ cP;have eW:y.op=8:=cP;have jw:=Kb (.inr (.inr eW));obtain⟨gw,gD,_⟩:=wR (lf _ (cp (l:=lo t y) (k:=0) ad));obtain⟨jJ,BP⟩:∃jJ,jJ=((lo t y).getD 0 default).toNat:=⟨_,rfl⟩;rw[<-BP] at gw gD;refine bg ?_;refine aG (af.le (af.eN rfl rfl rfl rfl) (aL.dx gw)) ?_;refine aG (af.bits rfl rfl rfl rfl rfl (BE jJ 6 ad e3)) ?_;refine bs ?_;refine au.bB (x:=.aF 1 [[.b _]]) rfl rfl rfl (af.row rfl rfl c4 rfl rfl rfl rfl rfl rfl) ?_;refine au.gu rfl rfl rfl rfl rfl rfl rfl rfl (aL.refl _) (rfl) (λv=>by repeat (first | exact bu.head _ _ _ | apply bu.tail)) pN pN (λtp=>?_);refine bs ?_;refine aR.pe r5 (⟨i+1,tp,by rw[tn _ (ad5 eW gw)],rfl,a1⟩) ?_ ?_ ?_
       ·omega
       ·repeat (first | exact trivial | refine⟨rfl,?_⟩)
       ·repeat (first | exact List.Sublist.refl _ | apply List.Sublist.cons_cons | refine List.Sublist.cons _ ?_)
      ·have eW: ¬y.op=8:=by simpa using cP
       refine aT ?_;refine aq.cond rfl (λdi=>?_) (λdi=>?_)
       ·replace di:=dZ di;have ET:y.op=5:=di;refine bz ?_;refine aG (af.call .k (adZ an aH eZ lf (by rw[dP];exact aeb ET) ad)) ?_;refine bn ?_;refine au.bB (x:=.aF 1 [[.b _]]) rfl rfl rfl (af.row rfl rfl c4 rfl rfl rfl rfl rfl rfl) ?_;refine au.gu rfl rfl rfl rfl rfl rfl rfl rfl (aL.refl _) (rfl) (λv=>by repeat (first | exact bu.head _ _ _ | apply bu.tail)) pN pN (λtp=>?_);refine bs ?_;refine aR.pe r5 (⟨i+1,tp,by rw[tn _ (ad6 ET)],rfl,a1⟩) ?_ ?_ ?_
        ·omega
        ·repeat (first | exact trivial | refine⟨rfl,?_⟩)
        ·repeat (first | exact List.Sublist.refl _ | apply List.Sublist.cons_cons | refine List.Sublist.cons _ ?_)
       ·have ET: ¬y.op=5:=by simpa using di
        refine aT ?_;refine au.bB (x:=.aF 1 [[.b _]]) rfl rfl rfl (af.row rfl rfl c4 rfl rfl rfl rfl rfl rfl) ?_;refine au.gu rfl rfl rfl rfl rfl rfl rfl rfl (aL.refl _) (rfl) (λv=>by repeat (first | exact bu.head _ _ _ | apply bu.tail)) pN pN (λtp=>?_);refine bs ?_;refine aR.pe r5 (⟨i+1,tp,by rw[tn _ (ad7 aV aed eW ET)],rfl,a1⟩) ?_ ?_ ?_
        ·omega
        ·repeat (first | exact trivial | refine⟨rfl,?_⟩)
        ·repeat (first | exact List.Sublist.refl _ | apply List.Sublist.cons_cons | refine List.Sublist.cons _ ?_)
  ·obtain rfl:i=p.nodes.length:=by omega
   rw[List.take_length];refine ev ?_;refine aR.l9 hP ([]) H (rs:=[.tmp 4,.tmp 5]) (H':=H) rfl hp (.tmp rfl (.tmp rfl (.nil))) (.cons (aL.hb _ _) (.cons (.refl _) .nil)) b8 ?_;exact⟨dJ,rfl⟩
def Kd(p:Prog)(t:bG):aa:=if lk p t then .bJ [aa.da (J9 p t),.i 0] else .bJ [aa.da [],.i 2]
theorem aee(aB:p.Small)(t:bG):ba Tryz.prog 11 [aa.prog p,aa.ef t] (Kd p t):=by
 unfold Kd lk;cases an:(bK p).isSome with
 | false=>exact ad8 aB an
 | true=>
  cases ht:jG p t with
  | false=>exact ad9 aB an ht
  | true=>exact aea aB an ht
end Go.Proofs.YtodccgailpkgeaaGreat

