/- Part 20 of the proof: contracts of functions of the program and what they need. No condition beyond those that each theorem names. -/
import Derived.Test.YtodccgailpkgeaaGreatKindLeastP19
set_option maxHeartbeats 1000000
set_option linter.unusedVariables false
set_option linter.unusedSimpArgs false
set_option maxRecDepth 10000
namespace Go.Proofs.YtodccgailpkgeaaGreat
open Go.Eng
open Go.Eng.Fc
variable{f:Fact}{a b fc:Int}{l:List Fact}{c ls:List cD}{left:List Int}{aE:Value->cm}{α:Type}{o:List Bool}{i:Nat}
theorem ba.qz{P:Program}{f:FuncId}{xs:List aa}{y z:aa}(h:ba P f xs y)(hle:aL y z):ba P f xs z:=λH=>
 ⟨(h H).1,λB I w vs hw az aC=>((h H).2 B I w vs hw az aC).mono λe w' ⟨aQ,H',a,b,d,aK⟩=>⟨aQ,H',a,b,d,aK.elim (λ⟨v,x,a6,aW,cN,gO⟩=>.inl ⟨v,z,a6,hle _ _ _ (cN▸aW),rfl,gO⟩) (λ⟨_,_,_,_,h⟩=>h.elim)⟩⟩
theorem na{W:bb}:eT W f=true↔fz W f=true/\∀k∈f.kids,eT W k=true:=by
 cases f;rw[eT,Bool.and_eq_true,Iu];rfl
theorem A9{W:bb}(h:fz W f=true)(ax:dO f=true):f.kids= []:=by
 simp only[fz,dO,Bool.and_eq_true,decide_eq_true_eq,beq_iff_eq] at h ax;have:kZ f.op=0:=by rw[kZ,if_neg ad,if_neg ad]
 rw[this] at h;exact List.eq_nil_of_length_eq_zero ad
theorem yx{W:bb}(h:mD W f=true):eT W f=true/\ej f<=24:=by
 have ab:=D2 W f 24 12 h;have ae:=(HZ W f 24 12).2 h;exact⟨ab.1,ad⟩
theorem KW{W:bb}:∀f:Fact,eT W f=true->okB f=true:=by
 refine Fact.p8 λf bm h=>?_;obtain⟨ab,ae⟩:=na.1 h;have aD:f.path.length<=1000:=by
  simp only[fz,Bool.and_eq_true] at ab;have:=ab.2;split at this
  ·simp only[iK,nQ,Bool.and_eq_true,Bool.not_eq_true',Bool.or_eq_false_iff,Bool.not_eq_false',decide_eq_true_eq] at this;have:=this.1.2.1;omega
  ·simp only[iX,Bool.not_eq_true',Bool.or_eq_false_iff,decide_eq_false_iff_not] at this;have:=this.1.1.2;omega
 simp only[fz,Bool.and_eq_true,decide_eq_true_eq,beq_iff_eq] at ab;have ao:∀l:List Fact,(∀k∈l,okB k=true)->y1 l=true:=by
  intro l
  induction l with
  | nil=>intro _;rfl
  | cons x r agx=>intro ag;rw[y1,ag x (.head _),agx (λk ao=>ag k (.tail _ ao))];rfl
 cases f;rw[okB];simp only[Fact.op,Fact.kids,Fact.path] at ab aD ae bm;simp only[Bool.and_eq_true,decide_eq_true_eq,beq_iff_eq];exact⟨⟨⟨⟨ab.1.1.1,ab.1.1.2⟩,ab.1.2⟩,aD⟩,ao _ (λk gv=>bm k gv (ae k gv))⟩
theorem agy{a b:List cD}{l:cD}(h:l∈hY a b):l∈a\/l∈b:=by
 unfold hY at h
 induction b generalizing a with
 | nil=>exact .inl h
 | cons x r bm=>
  rcases bm (a:=sb a x) h with h | h
  ·unfold sb at h;split at h
   ·exact .inl h
   ·rcases List.mem_append.1 h with h | h
    ·exact .inl h
    ·simp at h;subst h;exact .inr (.head _)
  ·exact .inr (.tail _ h)
theorem agz{W:bb}:∀f:Fact,eT W f=true->∀b,∀c∈fL f b,∀l∈c,fz W l.f=true/\dO l.f=true:=by
 refine Fact.p8 λf bm h b c ak l ax=>?_;obtain⟨hn,ao⟩:=na.1 h;have cA:=KW f h;by_cases ab:f.op=1
 ·rw[KB ab] at ak;cases b <;> simp at ak;subst ak;cases ax
 by_cases bl:f.op=5
 ·have k4:=KH cA bl;rw[KC bl ad] at ak;exact bm _ (hT ad) (ao _ (hT ad)) _ c ak l ax
 by_cases k2:dO f=true
 ·rw[KD ab bl k2] at ak;simp at ak;subst ak;simp at ax;subst ax;exact⟨hn,k2⟩
 ·have xi:dO f=false:=by simpa using k2
  have gD:=KG cA ab bl xi;have i0:=bm (f.kids.getD 0 default) (hT ad) (ao _ (hT ad)) b;have i1:=bm (f.kids.getD 1 default) (hT ad) (ao _ (hT ad)) b;cases nN:(b==(f.op==6)) with
  | true=>
   rw[KE ab bl xi nN ad] at ak;rcases List.mem_append.1 ak with h | h
   ·exact i0 c h l ax
   ·exact i1 c h l ax
  | false=>
   rw[KF ab bl xi nN ad] at ak;obtain⟨x,ag,ak⟩:=List.mem_flatMap.1 ak;obtain⟨y,hy,rfl⟩:=List.mem_map.1 ak;rcases agy ax with h | h
   ·exact i0 x ag l h
   ·exact i1 y hy l h
theorem agA{W:bb}(hw:dm W=true){l:cD}(h:fz W l.f=true)(ax:dO l.f=true):n6 W l:=by
 have iG:=wo hw;have agB:=A9 h ax;simp only[fz,Bool.and_eq_true] at h;have ae:=h.2;rw[if_pos ax] at ae;simp only[dO,Bool.and_eq_true,decide_eq_true_eq] at ax;simp only[iK,nQ,Bool.and_eq_true,Bool.not_eq_true',Bool.or_eq_false_iff,Bool.not_eq_false',decide_eq_true_eq,decide_eq_false_iff_not,List.all_eq_true,nO] at ae;obtain⟨⟨⟨D7,Bi⟩,xF,s4⟩,aA⟩:=ae;unfold kj at aA;refine⟨ax,λaD=>?_,?_,⟨ad,ad⟩,ad,s4,agB⟩
 ·rw[if_pos aD] at aA;simp only[jZ,Bool.and_eq_true,decide_eq_true_eq] at aA;exact⟨aA.2.1,by have:=aA.2.2;omega⟩
 ·split at aA
  ·simp only[Bool.and_eq_true,beq_iff_eq] at aA;omega
  ·simp only[Bool.and_eq_true,beq_iff_eq,decide_eq_true_eq] at aA;omega
theorem TI{W:bb}(hw:dm W=true){f:Fact}(h:eT W f=true)(hn:ej f<=300):KV W f:=
 ⟨KW f h,ad,λb c ak=>⟨λl ax=>let ⟨a,b⟩:=agz f h b c ak l ax;agA hw a b,Nat.le_trans (S8 f (KW f h) b c ak) hn⟩⟩
theorem TJ{W:bb}(h:eT W f=true):eT W (tv f)=true:=by
 rw[na];refine⟨dJ,λk ao=>?_⟩;simp[tv,Fact.kids] at ao;subst ao;exact h
theorem TK{W:bb}{f g:Fact}(h:eT W f=true)(cf:eT W g=true):eT W (tf f g)=true:=by
 rw[na];refine⟨dJ,λk ao=>?_⟩;simp[tf,Fact.kids] at ao;rcases ao with rfl | rfl <;> assumption
theorem TL(f:Fact):ej (tv f)=ej f+1:=by simp[tv,ej,gf];omega
theorem TM(f g:Fact):ej (tf f g)=ej f+ej g+1:=by simp[tf,ej,gf];omega
noncomputable def impF (W:bb) (a b:Fact):Bool:=!canF W (tf a (tv b))
def ql(W:bb)(l:List Fact):Bool:=dm W && l.all (mD W)
theorem agC{W:bb}(h:ql W l=true):ba Tryz.prog 171 [aa.world W,aa.facts l] (.bJ [kg W,.b true]):=by
 simp only[ql,Bool.and_eq_true] at h;have:=QK h.1 l;rwa [h.2] at this
theorem agD{W:bb}(hw:dm W=true){a b:Fact}(bN:eT W a=true)(aw:eT W b=true)(uG:ej a<=100)(Ka:ej b<=100):ba Tryz.prog 255 [kg W,aa.fact a,aa.fact b] (.b (impF W a b)):=by
 intro H;refine bh (n:=14) Tryz.func255 λB I aO=>?_;refine bs ?_;refine aq.bL mixed ?_;refine bk.b7 0 5 14 rfl ay rfl rfl ay ?_;refine bg ?_;refine bU.bB rfl rfl rfl (af.call .k (ae6 b)) ?_;refine bU.bB rfl rfl rfl (af.call .k (ae7 a (tv b))) ?_;refine bC ?_;refine aG (af.call .k (agv hw (TI hw (TK bN (TJ aw)) (by rw[TM,TL];omega)))) ?_;refine bz ?_;refine aS 6 (H) ?_;exact⟨eg,rfl⟩
theorem agE{W:bb}(h:ql W l=true):dm W=true:=by simp only[ql,Bool.and_eq_true] at h;exact h.1
theorem Fb{W:bb}(h:ql W l=true){f:Fact}(aP:f∈l):eT W f=true/\ej f<=24:=by
 simp only[ql,Bool.and_eq_true,List.all_eq_true] at h;exact yx (h.2 f aP)
theorem agF{W:bb}{a b:Fact}(h:ql W [a,b]=true):ba Tryz.prog 234 [aa.world W,aa.fact a,aa.fact b] (.bJ [.b (impF W a b),.i 0]):=by
 intro H;refine bh (n:=24) Tryz.func234 λB I aO=>?_;refine eb ?_;refine aG (af.row rfl rfl c4 rfl rfl rfl rfl rfl rfl) ?_;refine aG (af.vv .k (.cons (.refl _) (.cons (AP [a,b] rfl) .nil)) (agC h)) ?_;refine eb ?_;refine aq.cond rfl (λai=>?_) (λai=>?_)
 ·cases ai
 ·refine bn ?_;refine aG (af.call .k (agD (agE h) (Fb h (.head _)).1 (Fb h (.tail _ (.head _))).1 (Nat.le_trans (Fb h (.head _)).2 ad) (Nat.le_trans (Fb h (.tail _ (.head _))).2 ad))) ?_;refine bz ?_;refine fR [.tmp 6,.tmp 7] (H) ?_;exact⟨eg,rfl⟩
theorem aR.qA{c:Ctx}{st:dn}{Q:Exit->Act->World->Prop}{e:Exit}{d b n cap k:Nat}{t:TypeId}{els:List (List aa)}{more:List aa}{H':List aj}(aN:aX st.env d=some (.val (.slice (some ⟨b,0,none⟩) n cap)))(fZ:hq st.H (.aI b t (els.flatten++more)) H')
  (hn:els.length=n) (ao:∀e∈els,e.length=k) (ak:n<=cap) (hm:cap<=maxLen) (h:aR c ⟨(d,.aF k els)::st.env,H'⟩ e Q):aR c st e Q:=λa w s=>h a w (s.qA aN fZ hn ao ak hm)
theorem DP(l:List Int)(x:Int):(l++[x]).map (λn=>[aa.i n])=l.map (λn=>[aa.i n])++[[aa.i x]]:=by simp
theorem H2(l:List (List Int))(x:List Int):(l++[x]).map (λn=>[aa.ints n])=l.map (λn=>[aa.ints n])++[[aa.ints x]]:=by simp
structure u1(c:List cD)(k:Nat)(left:List Int):Prop where
 TN:∀x∈left,0<=x/\x<c.length
 len:left.length<=c.length
 has:∀m:Nat,k<=m->m<c.length->(m:Int)∈left
theorem u1.filter{c:List cD}{k:Nat}{left:List Int}(h:u1 c k left):u1 c (k+1) (left.filter λm=>!(m==(k:Int))):=
 ⟨λx ag=>h.TN x (List.mem_filter.1 ag).1,Nat.le_trans (List.length_filter_le _ _) h.len,λm ab ae=>List.mem_filter.2 ⟨h.has m ad ae,dj⟩⟩
theorem u1.same{k:Nat}(h:u1 c k left):u1 c (k+1) left:=⟨h.TN,h.len,λm ab ae=>h.has m ad ae⟩
theorem u1.ne{k:Nat}(h:u1 c k left)(ao:k<c.length):left≠ []:=λe=>by have:=h.has k (Nat.le_refl _) ao;rw[e] at this;cases this
theorem aL.dx(h:a=b):aL (.i a) (.i b):=h▸ .refl _
theorem TO:∀{l m:List Int},l.Pairwise (· <= ·)->m.Pairwise (· <= ·)->l.Perm m->l=m
 | [],m,_,_,h=>h.nil_eq
 | a::l,[],_,_,h=>absurd h.length_eq bj
 | a::l,b::m,ax,hm,h=>by
  have ab:=List.pairwise_cons.1 ax;have ae:=List.pairwise_cons.1 hm;have s3:a=b:=by
   have aw:b∈a::l:=h.mem_iff.2 (.head _);have bN:a∈b::m:=h.mem_iff.1 (.head _);rcases List.mem_cons.1 aw with e | aw
   ·exact e.symm
   ·rcases List.mem_cons.1 bN with e | bN
    ·exact e
    ·have:=ab.1 b aw;have:=ae.1 a bN;omega
  subst s3;rw[TO ab.2 ae.2 h.cons_inv]
def xp(x:Int):List Int->List Int
 | []=>[x]
 | y::r=>if x<=y then x::y::r else y::xp x r
def y4:List Int->List Int
 | []=>[]
 | x::r=>xp x (y4 r)
theorem KX(x:Int):∀l:List Int,(xp x l).Perm (x::l)
 | []=>.refl _
 | y::r=>by
  rw[xp];split
  ·exact .refl _
  ·exact ((KX x r).cons y).trans (.swap _ _ _)
theorem TP(x:Int):∀l:List Int,l.Pairwise (· <= ·)->(xp x l).Pairwise (· <= ·)
 | [],_=>by simp[xp]
 | y::r,h=>by
  rw[xp];have ab:=List.pairwise_cons.1 h;split
  ·rename_i rD;exact List.pairwise_cons.2 ⟨λz an=>by rcases List.mem_cons.1 an with rfl | an;exact rD;have:=ab.1 z an;omega,h⟩
  ·rename_i rD;exact List.pairwise_cons.2 ⟨λz an=>by rcases List.mem_cons.1 ((KX x r).mem_iff.1 an) with rfl | an;omega;exact ab.1 z an,TP x r ab.2⟩
theorem Fe:∀l:List Int,(y4 l).Perm l
 | []=>.refl _
 | x::r=>(KX x _).trans ((Fe r).cons x)
theorem KY:∀l:List Int,(y4 l).Pairwise (· <= ·)
 | []=>.nil
 | x::r=>TP x _ (KY r)
theorem agG(l:List Int):iB l=y4 l:=by
 refine TO ?_ (KY l) ((List.mergeSort_perm l _).trans (Fe l).symm);have:=List.pairwise_mergeSort (le:=λ(x y:Int)=>decide (x<=y)) (λa b c ab ae=>by simp at*;omega) (λa b=>by simp;omega) l;exact this.imp (λh=>by simpa using h)
abbrev cY:=Int->List Int->cm
def k7(aE:cY)(a:Int)(p:List Int)(k:cm):cY:=λfY r4=>if fY=a/\r4=p then k else aE fY r4
def ml(s:Int)(k:cm):cm:=if k.aJ.contains s then k else {k with aJ:=y4 (k.aJ++[s])}
theorem agH(s:Int)(k:cm):oL s k=ml s k:=by unfold oL ml;rw[agG]
def mQ(l:cD):cY->List Int->List Int->cY
 | aE,_,[]=>aE
 | aE,pre,s::r=>
  mQ l (k7 (k7 aE l.f.arg pre (ml s (aE l.f.arg pre))) l.f.arg (pre++[s]) (jM l (k7 aE l.f.arg pre (ml s (aE l.f.arg pre)) l.f.arg (pre++[s])))) (pre++[s]) r
def xq(aE:cY)(l:cD):cY:=
 k7 (mQ l (k7 aE l.f.arg [] (jM l (aE l.f.arg []))) [] l.f.path) l.f.arg l.f.path (gW (mQ l (k7 aE l.f.arg [] (jM l (aE l.f.arg []))) [] l.f.path l.f.arg l.f.path) l)
def oN(ls:List cD):cY:=ls.foldl xq (λ_ _=>lq)
theorem agI{p q:List Int}(aB:p.length<=2)(bd:q.length<=2)(h:b2 a p=b2 b q):a=b/\p=q:=by
 have key:∀i:Nat,∀x y:Int,(sc a p)[i]? =some (.int .i64 x)->(sc b q)[i]? =some (.int .i64 y)->x=y:=by
  intro i x y ab ae;have aD:(sc a p)=(sc b q):=by
   have:=congrArg (λv:Value=>match v with | .agg c=>c.toList | _=>[]) h;simpa using this
  rw[aD,ae] at ab;simpa using ab.symm
 have ai:=key 0 a b rfl rfl;have ab:=key 1 p.length q.length rfl rfl;have ae:=key 2 (p.getD 0 0) (q.getD 0 0) rfl rfl;have aD:=key 3 (p.getD 1 0) (q.getD 1 0) rfl rfl;refine⟨ai,?_⟩
 match p,q,aB,bd with
 | [],[],_,_=>rfl
 | [x],[y],_,_=>simp at ae;rw[ae]
 | [x,lb],[y,y'],_,_=>simp at ae aD;rw[ae,aD]
 | [],_::_,_,_=>simp at ab;omega
 | _::_,[],_,_=>simp at ab;omega
 | [_],_::_::_,_,_=>simp at ab;omega
 | _::_::_,[_],_,_=>simp at ab;omega
def kJ(aE:Value->cm)(c1:cY):Prop:=∀a p,p.length<=2->aE (b2 a p)=c1 a p
theorem kJ.gH{c1:cY}(h:kJ aE c1){a:Int}{p:List Int}(aB:p.length<=2)(k:cm):kJ (updK aE (b2 a p) k) (k7 c1 a p k):=by
 intro b q bd;unfold updK k7;by_cases e:b=a/\q=p
 ·rw[if_pos e,if_pos (by rw[e.1,e.2])]
 ·rw[if_neg e,if_neg (λcf=>e (agI bd aB cf))];exact h b q bd
theorem kJ.walk{l:cD}:∀(r:List Int) {aE:Value->cm} {c1:cY} (pre:List Int),kJ aE c1->pre.length+r.length<=2->kJ (walkK l aE pre r) (mQ l c1 pre r)
 | [],aE,c1,pre,h,_=>h
 | s::r,aE,c1,pre,h,aB=>by
  simp only[List.length_cons] at aB;rw[walkK,mQ];have ab:kJ (updK aE (b2 l.f.arg pre) (oL s (aE (b2 l.f.arg pre)))) (k7 c1 l.f.arg pre (ml s (c1 l.f.arg pre))):=by
   rw[agH,h _ _ ad];exact h.gH ad _
  have ae:=ab.gH (a:=l.f.arg) (p:=pre++[s]) dj (jM l (updK aE (b2 l.f.arg pre) (oL s (aE (b2 l.f.arg pre))) (b2 l.f.arg (pre++[s]))));rw[ab _ (pre++[s]) dj] at ae;have aD:=kJ.walk (l:=l) r (pre++[s]) ae dj;rw[ab _ (pre++[s]) dj];exact aD
theorem kJ.add{c1:cY}(h:kJ aE c1){l:cD}(aB:l.f.path.length<=2):kJ (addK aE l) (xq c1 l):=by
 unfold addK xq xn;have ai:=h.gH (a:=l.f.arg) (p:=[]) bj (jM l (aE (b2 l.f.arg [])));rw[h l.f.arg [] bj] at ai ⊢;have ab:=kJ.walk (l:=l) l.f.path [] ai dj;rw[ab _ _ aB];exact ab.gH aB _
theorem agJ{W:bb}(ax:∀l∈ls,n6 W l):kJ (stageK ls) (oN ls):=by
 unfold stageK oN;have:∀(ls:List cD) (aE:Value->cm) (c1:cY),kJ aE c1->(∀l∈ls,n6 W l)->kJ (ls.foldl addK aE) (ls.foldl xq c1):=by
  intro ls
  induction ls with
  | nil=>intro aE c1 h _;exact h
  | cons l ls bm=>intro aE c1 h ax;exact bm _ _ (h.add (ax l (.head _)).path) (λx ag=>ax x (.tail _ ag))
 exact this ls _ _ (λ_ _ _=>rfl) ax
def KZ(aE:cY)(arg:Int)(path:List Int):Bool:=(aE arg path).aJ.all λs=>!(aE arg (path++[s])).hE
def Ff(aE:cY)(arg:Int)(path:List Int)(cls:Int):Bool:=((lM (aE arg path).cn (xk cls):Int)==0) && ((((aE arg path).no &&& xk cls:Nat):Int)==0) && KZ aE arg path
def Fg(aE:cY)(arg:Int)(path:List Int):Bool:=decide (tB (aE arg path).c2 (aE arg path).low<=(aE arg path).high) && Ff aE arg path 1
def Fh(aE:cY)(arg:Int)(path:List Int):Bool:=!(aE arg path).whole && Ff aE arg path 2
def u2(W:bb)(aE:cY)(can:List Int->Bool)(arg:Int)(path:List Int):List Int->Nat->Nat->Option (Nat×Nat)
 | [],cn,no=>some (cn,no)
 | s::r,cn,no=>
  if(aE arg (path++[s])).hE && !can (path++[s]) then none
  else if(aE arg (path++[s])).hE then u2 W aE can arg path r (cn ||| 2^(W.owner.getD s.toNat default).toNat) no
  else if !can (path++[s]) then u2 W aE can arg path r cn (no ||| 2^(W.owner.getD s.toNat default).toNat)
  else u2 W aE can arg path r cn no
def Fi(W:bb)(aE:cY)(can:List Int->Bool)(arg:Int)(path:List Int):Nat×Bool:=
 if(aE arg path).whole || (aE arg path).cn.testBit 1 || (aE arg path).cn.testBit 2 || (aE arg path).no.testBit 0 then (0,false)
 else match u2 W aE can arg path (aE arg path).aJ (aE arg path).cn (aE arg path).no with
  | none=>(0,false)
  | some (cn,no)=>(lM (pK W W.parents.length 3 cn) 1,((lM (pK W W.parents.length 3 cn) 1 &&& no:Nat):Int)==0)
def xr(W:bb)(aE:cY):Nat->Int->List Int->Bool
 | 0,arg,path=>Fg aE arg path || Fh aE arg path || (Fi W aE (λ_=>false) arg path).2
 | d+1,arg,path=>Fg aE arg path || Fh aE arg path || (Fi W aE (xr W aE d arg) arg path).2
theorem agK{c1:cY}(h:kJ aE c1)(aN:∀a p,p.length=2->(aE (b2 a p)).aJ= []){arg:Int}{path:List Int}(aB:path.length<=2):KJ aE arg path=KZ c1 arg path:=by
 unfold KJ KZ;rw[h arg path aB];by_cases ae:path.length=2
 ·have:=aN arg path ae;rw[h arg path aB] at this;rw[this];rfl
 ·have key:∀s,aE (b2 arg (path++[s]))=c1 arg (path++[s]):=λs=>h _ _ dj;congr 1;funext s;rw[key]
theorem TQ{c1:cY}(h:kJ aE c1)(aN:∀a p,p.length=2->(aE (b2 a p)).aJ= []){arg:Int}{path:List Int}(aB:path.length<=2)(cls:Int):uZ aE arg path cls=Ff c1 arg path cls:=by
 unfold uZ Ff;rw[h arg path aB,agK h aN aB]
theorem TR{c1:cY}(h:kJ aE c1)(aN:∀a p,p.length=2->(aE (b2 a p)).aJ= []){arg:Int}{path:List Int}(aB:path.length<=2):xl aE arg path=Fg c1 arg path:=by
 unfold xl Fg;rw[h arg path aB,TQ h aN aB]
theorem TS{c1:cY}(h:kJ aE c1)(aN:∀a p,p.length=2->(aE (b2 a p)).aJ= []){arg:Int}{path:List Int}(aB:path.length<=2):xm aE arg path=Fh c1 arg path:=by
 unfold xm Fh;rw[h arg path aB,TQ h aN aB]
theorem Fj{W:bb}{aE:Value->cm}{c1:cY}(h:kJ aE c1){hA jQ:List Int->Bool}{arg:Int}{path:List Int}(aB:path.length<2)(ak:∀s,hA (path++[s])=jQ (path++[s])):∀(l:List Int) (cn no:Nat),jL W aE hA arg path l cn no=u2 W c1 jQ arg path l cn no
 | [],cn,no=>rfl
 | s::r,cn,no=>by
  rw[jL,u2];rw[h arg (path++[s]) dj,ak,Fj h aB ak r,Fj h aB ak r,Fj h aB ak r]
theorem TT{W:bb}{c1:cY}(h:kJ aE c1)(aN:∀a p,p.length=2->(aE (b2 a p)).aJ= []){hA jQ:List Int->Bool}{arg:Int}{path:List Int}(aB:path.length<=2)(ak:path.length<2->∀s,hA (path++[s])=jQ (path++[s])):pL W aE hA arg path=Fi W c1 jQ arg path:=by
 unfold pL Fi;simp only[];rw[h arg path aB];by_cases ae:path.length=2
 ·have:=aN arg path ae;rw[h arg path aB] at this;rw[this,jL,u2]
 ·rw[Fj h ad (ak ad)];generalize u2 W c1 jQ arg path (c1 arg path).aJ (c1 arg path).cn (c1 arg path).no=o;cases o <;> rfl
theorem Fk{W:bb}{aE:Value->cm}{c1:cY}(h:kJ aE c1)(aN:∀a p,p.length=2->(aE (b2 a p)).aJ= []){arg:Int}:∀(d:Nat) (path:List Int),path.length+d=2->se W aE d arg path=xr W c1 d arg path
 | 0,path,aB=>by rw[se,xr,TR h aN ad,TS h aN ad,TT h aN ad (λae=>absurd ae ad)]
 | d+1,path,aB=>by rw[se,xr,TR h aN ad,TS h aN ad,TT h aN ad (λae s=>Fk h aN d (path++[s]) dj)]
def Fl(W:bb)(ls:List cD):Bool:=xr W (oN ls) 2 0 [] && xr W (oN ls) 2 1 [] && xr W (oN ls) 2 2 []
theorem agL{W:bb}(ax:∀l∈ls,n6 W l):togetherK W ls=Fl W ls:=by
 have h:=agJ ax;have aN:=(ks.TB ax).deep;rw[togetherK,Fl];simp only[sg,List.range_succ,List.range_zero,List.nil_append,List.cons_append,List.all_cons,List.all_nil,Bool.and_true];rw[Fk h aN 2 [] rfl,Fk h aN 2 [] rfl,Fk h aN 2 [] rfl];simp[Bool.and_assoc]
def TU(W:bb)(f:Fact):Bool:=(fL f false).any (Fl W)
theorem any_eq{l:List α}{p q:α->Bool}(h:∀x∈l,p x=q x):l.any p=l.any q:=by
 induction l with
 | nil=>rfl
 | cons x r bm=>rw[List.any_cons,List.any_cons,h x (.head _),bm (λy hy=>h y (.tail _ hy))]
theorem agM{W:bb}(h:TH W c):togetherK W c=Fl W c:=agL h.1
theorem agN{W:bb}(h:KV W f):canF W f=TU W f:=any_eq λc ak=>agM (h.case false c ak)
def xt(W:bb)(a b:Fact):Bool:=!TU W (tf a (tv b))
theorem imp_eq{W:bb}(hw:dm W=true){a b:Fact}(bN:eT W a=true)(aw:eT W b=true)(uG:ej a<=100)(Ka:ej b<=100):impF W a b=xt W a b:=by
 rw[impF,xt,agN (TI hw (TK bN (TJ aw)) (by rw[TM,TL];omega))]
def K0:bb:=⟨[[],[3],[],[4,5]],[3,5]⟩
def y5(c:Int)(p:List Int):Fact:=.mk 2 0 p c 0 []
def agO(n:Int)(p:List Int):Fact:=.mk 3 0 p 0 n []
theorem lI:xt K0 (y5 4 []) (y5 3 [])=true:=by decide+kernel
theorem c1:xt K0 (tf (y5 4 []) (y5 5 [])) (y5 6 [])=false:=by decide+kernel
theorem y6:xt K0 (agO 7 [0]) (y5 3 [])=true:=by decide+kernel
theorem sB(l:List α)(i j:Nat)(x y:α):(l.set i x).getD j y=if i=j/\i<l.length then x else l.getD j y:=by
 simp only[List.getD_eq_getElem?_getD,List.getElem?_set];by_cases h:i=j
 ·by_cases ae:j<l.length
  ·simp[h,ae]
  ·simp[h,ae]
 ·simp[h]
theorem s8:∀(l:List (List Int)) (i:Nat) (U:List Nat) (j:Nat),j<3+i->(iy l i U).getD j 0=U.getD j 0
 | [],i,U,j,h=>by rw[iy]
 | x::r,i,U,j,h=>by
  rw[iy,s8 r (i+1) _ j ad,sB,if_neg ad]
theorem Bb{W:bb}(h:dm W=true):jR 0 W.parents=true:=by simp only[dm,Bool.and_eq_true] at h;exact h.1.2
theorem uF{W:bb}(h:dm W=true){i:Nat}(av:i<W.parents.length):∀p∈W.parents.getD i default,3<=p/\p<3+i:=by
 have:=Iv W.parents 0 i (Bb h) av;rw[Nat.zero_add] at this;exact Ba i _ _ this
theorem Bc:∀(l:List (List Int)) (i:Nat) (U:List Nat) (k:Nat),3+i+l.length<=U.length->jR i l=true->k<l.length->∀b,((iy l i U).getD (3+(i+k)) 0).testBit b=(b==0 || b==3+(i+k) || (l.getD k default).any λp=>((iy l i U).getD p.toNat 0).testBit b)
 | [],i,U,k,ax,_,ao,b=>by simp at ao
 | x::r,i,U,0,ax,h,ao,b=>by
  rw[jR,Bool.and_eq_true] at h;rw[iy,s8 r (i+1) _ _ ad,sB,if_pos ⟨ad,by simp at ax;omega⟩,PY];show _=(b==0 || b==3+(i+0) || x.any _);rw[Nat.add_zero];congr 1;refine PZ λp aB=>?_;have:=Ba i x [] h.1 p aB;rw[s8 r (i+1) _ _ ad,sB,if_neg ad]
 | x::r,i,U,k+1,ax,h,ao,b=>by
  rw[jR,Bool.and_eq_true] at h;have:=Bc r (i+1) (U.set (3+i) (p9 U i x)) k (by simp at ax ⊢;omega) h.2 (by simpa using ao) b;rw[iy,show i+(k+1)=i+1+k from by omega];exact this
theorem qb{W:bb}(h:dm W=true){i:Nat}(av:i<W.parents.length)(b:Nat):hi W (3+i) b=(b==0 || b==3+i || (W.parents.getD i default).any λp=>hi W p.toNat b):=by
 have:=Bc W.parents 0 ([1,3,5]++List.replicate 60 0) i (by have:=wo h;simp;omega) (Bb h) av b;rw[Nat.zero_add] at this;exact this
theorem rT{W:bb}{c:Nat}(ak:c<3)(b:Nat):hi W c b=(b==0 || b==c):=by
 rw[hi,nP,s8 _ _ _ _ ad];have:c=0\/c=1\/c=2:=by omega
 rcases this with rfl | rfl | rfl
 ·show Nat.testBit 1 b=_;rcases b with _ | b
  ·rfl
  ·rw[Nat.testBit_succ];simp
 ·show Nat.testBit 3 b=_;rcases b with _ | _ | b
  ·rfl
  ·rfl
  ·rw[Nat.testBit_succ,Nat.testBit_succ];simp
 ·show Nat.testBit 5 b=_;rcases b with _ | _ | _ | b
  ·rfl
  ·rfl
  ·rfl
  ·rw[Nat.testBit_succ,Nat.testBit_succ,Nat.testBit_succ];simp
theorem Iw{W:bb}(h:dm W=true){c:Nat}(ak:c<3+W.parents.length):hi W c 0=true:=by
 by_cases aD:c<3
 ·rw[rT aD];rfl
 ·rw[show c=3+(c - 3) from by omega,qb h ad];rfl
theorem tJ{W:bb}(h:dm W=true){c:Nat}(ak:c<3+W.parents.length):hi W c c=true:=by
 by_cases aD:c<3
 ·rw[rT aD];simp
 ·have e:c=3+(c - 3):=by omega
  have:=qb h (i:=c - 3) ad c;rw[<-e] at this;rw[this];simp
theorem D3{W:bb}:kG W a b=hi W a.toNat b.toNat:=rfl
theorem D4(i:Nat):∀(l:List Int) (o:List Bool) (b:Nat),(∀p∈l,0<=p/\p<i)->i<o.length->(nc o i l).getD b false=(o.getD b false || (o.getD i false && l.contains (b:Int)))
 | [],o,b,_,_=>by rw[nc];simp
 | p::r,o,b,h,av=>by
  have aB:=h p (.head _);rw[nc,D4 i r _ b (λq bd=>h q (.tail _ bd)) (by rw[List.length_set];exact av),sB,sB,if_neg (c:=p.toNat=i/\_) ad,List.contains_cons];by_cases aw:p.toNat=b
  ·rw[if_pos ⟨aw,ad⟩,show ((b:Int)==p)=true from by rw[beq_iff_eq];omega,aw];cases o.getD b false <;> cases o.getD i false <;> simp
  ·rw[if_neg (λe=>aw e.1),show ((b:Int)==p)=false from by rw[beq_eq_false_iff_ne];omega];simp
theorem P3{W:bb}(h:dm W=true){c:Nat}(aD:3<=c)(ak:c<3+W.parents.length){b:Nat}(aw:0<b):(s9 W c).getD b false=hi W c b:=by
 have al:∀x,((List.replicate (3+W.parents.length) false).set c true).getD x false=(c==x):=λx=>by
  rw[sB];by_cases e:c=x
  ·rw[if_pos ⟨e,by simpa using ak⟩];simp[e]
  ·rw[if_neg (λq=>e q.1)];have:(c==x)=false:=by rw[beq_eq_false_iff_ne];exact e
   rw[this,List.getD_eq_getElem?_getD,List.getElem?_replicate];split <;> rfl
 rw[s9,Iz h (c - 2) _ ad bj b aw,al,Bool.eq_iff_iff];simp only[Bool.or_eq_true,Bool.and_eq_true,List.any_eq_true,List.mem_range,beq_iff_eq,al];constructor
 ·rintro (rfl | ⟨i,av,e,ab⟩)
  ·exact tJ h ak
  ·rw[e];exact ab
 ·intro ab;exact .inr ⟨c - 3,ad,ad,by rw[show 3+(c - 3)=c from by omega];exact ab⟩
instance:ui Tryz.prog 28 (4,1,.bool false):=⟨aM⟩
theorem P7{W:bb}{l:List Int}(h:i<l.length)(aH:nO W (l.getD i default)=false):l.all (nO W)=false:=by
 rw[List.all_eq_false];exact⟨l.getD i default,hT h,by rw[aH];simp⟩
theorem Qb{W:bb}(ai:f.op=2)(ab:(bif f.n !=0 then true else !jZ W f.cls)=false):pr W f 0:=by
 rw[e7] at ab;simp only[Bool.or_eq_false_iff,bne_eq_false_iff_eq,Bool.not_eq_false'] at ab;exact⟨ad,ad,by rw[ai];rfl,λ_=>by simp[kj,ai,ab]⟩
theorem Qc{W:bb}(ai:f.op=2)(ab:(bif f.n !=0 then true else !jZ W f.cls)=true):fz W f=false:=by
 rw[e7] at ab;have ae:((f.n==0) && jZ W f.cls)=false:=by
  simp only[Bool.or_eq_true,bne_iff_ne,Bool.not_eq_true'] at ab;rw[Bool.and_eq_false_iff,beq_eq_false_iff_ne];exact ab
 have ax:dO f=true:=by simp[dO,ai]
 rw[fz,if_pos ax,kj,if_pos ai,ae];simp
theorem IA{W:bb}(ai:f.op=3\/f.op=4)(ab:(bif bif f.cls !=0 then true else decide (f.n< -1000000000) then true else decide (1000000000<f.n))=false):pr W f 0:=by
 rw[e7,e7] at ab;simp only[Bool.or_eq_false_iff,bne_eq_false_iff_eq,decide_eq_false_iff_not] at ab;refine⟨ad,ad,?_,λ_=>?_⟩
 ·rcases ai with e | e <;> rw[e] <;> rfl
 ·rw[kj,if_neg ad];simp only[Bool.and_eq_true,beq_iff_eq,decide_eq_true_eq];omega
theorem IB{W:bb}(ai:f.op=3\/f.op=4)(ab:(bif bif f.cls !=0 then true else decide (f.n< -1000000000) then true else decide (1000000000<f.n))=true):fz W f=false:=by
 rw[e7,e7] at ab;simp only[Bool.or_eq_true,bne_iff_ne,decide_eq_true_eq] at ab;have ae:kj W f=false:=by
  rw[kj,if_neg ad];simp only[Bool.and_eq_false_iff,beq_eq_false_iff_ne,decide_eq_false_iff_not];omega
 have ax:dO f=true:=by simp only[dO,Bool.and_eq_true,decide_eq_true_eq];omega
 rw[fz,if_pos ax,ae];simp
theorem Bd{W:bb}(h:f.op=1\/f.op=5\/f.op=6\/f.op=7)(ao:fc=kZ f.op):pr W f fc:=⟨ad,ad,ao,λax=>by simp only[dO,Bool.and_eq_true,decide_eq_true_eq] at ax;omega⟩
theorem Qd{W:bb}(h:f.op≠1/\f.op≠2/\f.op≠3/\f.op≠4/\f.op≠5/\f.op≠6/\f.op≠7):fz W f=false:=by
 have:(decide (1<=f.op) && decide (f.op<=7))=false:=by simp only[Bool.and_eq_false_iff,decide_eq_false_iff_not];omega
 rw[fz,this];simp
theorem IC{W:bb}(h:iX f=true):iK W f=true:=by
 simp only[iX,Bool.not_eq_true',Bool.or_eq_false_iff,bne_eq_false_iff_eq,decide_eq_false_iff_not] at h;have aB:f.path= []:=List.eq_nil_of_length_eq_zero ad;simp[iK,h.1.1.1,aB,nQ]
theorem D5{W:bb}(h:pr W f fc):fz W f=((f.kids.length:Int)==fc && iK W f && (dO f || iX f)):=by
 obtain⟨ab,ae,rfl,aV⟩:=h;rw[fz,decide_eq_true ab,decide_eq_true ae,Bool.true_and,Bool.true_and,Bool.and_assoc];congr 1;by_cases ax:dO f=true
 ·rw[if_pos ax,aV ax,ax];simp
 ·rw[if_neg ax,Bool.eq_false_iff.2 ax,Bool.false_or];cases aB:iX f with
  | false=>simp
  | true=>rw[IC aB];rfl
theorem wu{W:bb}(h:fz W f=false):eT W f=false:=by
 cases hw:eT W f with
 | false=>rfl
 | true=>rw[(na.1 hw).1] at h;cases h
theorem Qe{W:bb}(av:i<f.kids.length)(h:eT W (f.kids.getD i default)=false):eT W f=false:=by
 cases hw:eT W f with
 | false=>rfl
 | true=>rw[(na.1 hw).2 _ (hT av)] at h;cases h
theorem Qf{W:bb}(h:fz W f=true)(ao:f.kids.all (eT W)=true):eT W f=true:=na.2 ⟨h,List.all_eq_true.1 ao⟩
theorem ID{W:bb}(h:pr W f fc):(f.op==2 || f.op==3 || f.op==4)=dO f:=by
 rw[dO,Bool.eq_iff_iff];simp only[Bool.or_eq_true,beq_iff_eq,Bool.and_eq_true,decide_eq_true_eq];omega
theorem IE{W:bb}:(bif bif bif (f.kids.length:Int) !=fc then true else decide (f.arg<0) then true else decide (3<=f.arg) then true else !nQ W f.path)= !((f.kids.length:Int)==fc && iK W f):=by
 rw[e7,e7,e7,iK,bne];show (((_ || decide (f.arg<0)) || decide (3<=f.arg)) || _)= !(_ && !((decide (f.arg<0) || decide (3<=f.arg)) || _));generalize ((f.kids.length:Int)==fc)=a;generalize decide (f.arg<0)=b;generalize decide (3<=f.arg)=c;generalize nQ W f.path=d;cases a <;> cases b <;> cases c <;> cases d <;> rfl
theorem IF{W:bb}(jV:pr W f fc)(uG:((f.kids.length:Int)==fc && iK W f)=true):(bif !(f.op==2 || f.op==3 || f.op==4) then bif bif bif f.arg !=0 then true else decide (0<(f.path.length:Int)) then true else f.cls !=0 then true else f.n !=0 else false)= !fz W f:=by
 rw[Qg,ID jV,D5 jV,uG];cases dO f <;> cases iX f <;> rfl
structure TV where
 W:bb
 A:Fact
 B:Fact
 R4:List (Int×List (Int×Int))
 args:List (Int×Int)
 arg:Int
 path:List Int
abbrev aa.kS(l:List (Int×Int)):aa:=.aF 2 (l.map λv=>[aa.i v.1,aa.i v.2])
abbrev aa.agP(l:List (Int×List (Int×Int))):aa:=.aF 2 (l.map λo=>[aa.i o.1,aa.kS o.2])
def agQ(g:TV):List aa:=dH g.W++ix g.A++ix g.B++[aa.agP g.R4,aa.kS g.args,.i g.arg,aa.ints g.path]
abbrev aa.given(g:TV):aa:=.agg (agQ g)
def nq(x:Fact):Fact×Bool:=if x.op=5 then (x.kids.getD 0 default,true) else (x,false)
def agR(x:Fact):Prop:=x.op=5->x.kids≠ []
def rl(p w:List Int):Bool:=decide (p.length>=w.length) && p.take w.length==w
def agS(arg:Int)(path:List Int)(x:Fact):Bool:=(nq x).1.arg==arg && rl (nq x).1.path path
def uO(W:bb)(L:List Fact)(arg:Int)(path:List Int):List Int:=((List.range W.owner.length).map λ(n:Nat)=>(n:Int)).filter λs=>L.any (agS arg (path++[s]))
instance:Xk Tryz.prog 260 3 4:=⟨aM⟩
theorem yo(l:List Int):(l.map λn=>[aa.i n]).all eG=true:=S2 (λ_=>rfl) l
structure alC(W:bb)(x:Fact):Prop where
 split:agR x
 op:2<=(nq x).1.op/\(nq x).1.op<=4
 cls:(nq x).1.op=2->0<=(nq x).1.cls/\(nq x).1.cls<3+W.parents.length
 n: -1000000000<=(nq x).1.n/\(nq x).1.n<=1000000000
 path:(nq x).1.path.length<=2
def isNone(x:Fact):Bool:=(nq x).1.op==2 && ((nq x).1.cls==0 || (nq x).1.cls==2)
end Go.Proofs.YtodccgailpkgeaaGreat

