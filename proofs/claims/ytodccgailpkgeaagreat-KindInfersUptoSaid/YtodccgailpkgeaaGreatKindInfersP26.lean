/- A part of the proof. No condition. -/
import Derived.Test.YtodccgailpkgeaaGreatKindInfersP25
set_option linter.defProp false
set_option maxHeartbeats 1000000
set_option linter.unusedVariables false
set_option linter.unusedSimpArgs false
set_option maxRecDepth 10000
namespace Go.Proofs.YtodccgailpkgeaaGreat
open Go.Proofs.Tryz
open Go.Eng
open Go.Eng.Fc
open Go.Eng.dN
variable{us:dq}{ls:List cW}{n a b i j:Nat}{f g:Nat->Nat->Bool}{p:Prog}
def gz(us:dq)(ls:List cW):aA:=(List.range ls.length).map λi=>.au (us.getD i default) 4 ((ls.getD i default).map ab.b)
abbrev m0(n u:Nat):ab:=.val (.slice (some ⟨u,0,none⟩) n n)
def aiL(us:dq){ls:List cW}{k:Nat}(g:k<ls.length):∃A C,∀l,gz us (ls.set k l)=A++.au (us.getD k default) 4 (l.map ab.b)::C:=by
 have e:List.range ls.length=List.range k++k::(List.range' (k+1) (ls.length - k - 1)):=by
  have c:List.range' 0 k++List.range' (0+k) (ls.length - k)=List.range' 0 (k+(ls.length - k)):=List.range'_append_1;obtain⟨d,j⟩:∃d,ls.length - k=d+1:=⟨ls.length - k - 1,aa⟩;rw[show k+(ls.length - k)=ls.length by omega,Nat.zero_add,j,List.range'_succ] at c;rw[List.range_eq_range',List.range_eq_range', <-c,show ls.length - k - 1=d by omega]
 refine⟨(List.range k).map λi=>.au (us.getD i default) 4 ((ls.getD i default).map ab.b),(List.range' (k+1) (ls.length - k - 1)).map λi=>.au (us.getD i default) 4 ((ls.getD i default).map ab.b),λl=>?_⟩;unfold gz;rw[List.length_set,e,List.map_append,List.map_cons];have c:∀i,i≠k->(ls.set k l).getD i default=ls.getD i default:=λi a=>by rw[nC,if_neg (λh=>a h.1.symm)]
 have f:(ls.set k l).getD k default=l:=by rw[nC,if_pos ⟨rfl,g⟩]
 rw[f];congr 1
 ·exact List.map_congr_left λi a=>by rw[c i (by have:=List.mem_range.1 a;omega)]
 ·congr 1;exact List.map_congr_left λi a=>by rw[c i (by have:=List.mem_range'_1.1 a;omega)]
def TT{f:Type}[Inhabited f]{a b:List f}{i:Nat}(h:i<a.length):(a++b).getD i default=a.getD i default:=by rw[List.getD_eq_getElem?_getD,List.getElem?_append_left h,List.getD_eq_getElem?_getD]
def TU{f:Type}[Inhabited f]{a:List f}{x:f}{n:Nat}(h:n=a.length):(a++[x]).getD n default=x:=by subst h;rw[List.getD_eq_getElem?_getD,List.getElem?_append_right (Nat.le_refl _),Nat.sub_self];rfl
def aiM(c:us.length=ls.length)(u:Nat)(l:cW):gz (us++[u]) (ls++[l])=gz us ls++[.au u 4 (l.map ab.b)]:=by
 unfold gz;rw[List.length_append,List.length_singleton,List.range_succ,List.map_append,List.map_singleton];congr 1
 ·refine List.map_congr_left λi a=>?_;have a:=List.mem_range.1 a;rw[TT aa,TT a]
 ·rw[TU c.symm,TU rfl]
def Kj{k:Nat}(a:k<ls.length): .au (us.getD k default) 4 ((ls.getD k default).map ab.b)∈gz us ls:=List.mem_map.2 ⟨k,List.mem_range.2 a,rfl⟩
def e0(n:Nat)(f:Nat->Nat->Bool):List cW:=(List.range n).map λa=>(List.range n).map (f a)
def qm(n:Nat)(f:Nat->Nat->Bool):(e0 n f).length=n:=by simp[e0]
def qs(h:a<n):(e0 n f).getD a default=(List.range n).map (f a):=pb (λa=>(List.range n).map (f a)) h
def TV(h:a<n)(c:b<n):((e0 n f).getD a default).getD b default=f a b:=by rw[qs h];exact pb _ c
def vZ(h:∀a,a<n->∀b,b<n->f a b=g a b):e0 n f=e0 n g:=
 List.map_congr_left λa c=>List.map_congr_left λb j=>h a (List.mem_range.1 c) b (List.mem_range.1 j)
def aiN(q:i<n)(r:j<n){v:Bool}(o:∀a,a<n->∀b,b<n->g a b=if a=i/\b=j then v else f a b):(e0 n f).set i (((e0 n f).getD i default).set j v)=e0 n g:=by
 refine p6 (by rw[List.length_set,qm,qm]) λa l=>?_;rw[List.length_set,qm] at l;rw[nC,qm];by_cases e:i=a
 ·subst e;rw[if_pos ⟨rfl,l⟩,qs l,qs l];refine p6 aS λb c=>?_;rw[List.length_set,List.length_map,List.length_range] at c;rw[nC,List.length_map,List.length_range,pb _ c,pb _ c,o i l b c];by_cases m:j=b
  ·subst m;rw[if_pos ⟨rfl,c⟩,if_pos ⟨rfl,rfl⟩]
  ·rw[if_neg (λh=>m h.1),if_neg (λh=>m h.2.symm)]
 ·rw[if_neg (λh=>e h.1),qs l,qs l];refine p6 aS λb c=>?_;rw[List.length_map,List.length_range] at c;rw[pb _ c,pb _ c,o a l b c,if_neg (λh=>e h.1.symm)]
def TW{i n u:Nat}(h:us.length=i):gz (us++[u]) (List.replicate (i+1) (List.replicate n false))=gz us (List.replicate i (List.replicate n false))++[.au u 4 (List.replicate n (ab.val (.bool false)))]:=by
 have e:List.replicate n (ab.val (.bool false))=(List.replicate n false).map ab.b:=by rw[List.map_replicate]
 rw[List.replicate_succ',aiM (by rw[h,List.length_replicate]),e]
def dp(p:Prog)(a b:Nat):Bool:=ql p a b && sK p a b
def upto(i j a b:Nat):Bool:=decide (a<i) || (a==i && decide (b<j))
def Kk(i j a b:Nat):upto i (j+1) a b=(upto i j a b || (a==i && b==j)):=by
 unfold upto;rw[Bool.eq_iff_iff];simp only[Bool.or_eq_true,Bool.and_eq_true,decide_eq_true_eq,beq_iff_eq];omega
def TX(c:b<n):upto i n a b=upto (i+1) 0 a b:=by
 unfold upto;rw[Bool.eq_iff_iff];simp only[Bool.or_eq_true,Bool.and_eq_true,decide_eq_true_eq,beq_iff_eq];omega
def TY(c:a<n):upto n 0 a b=true:=by
 unfold upto;simp only[Bool.or_eq_true,decide_eq_true_eq];exact .inl c
def TZ(a b:Nat):upto 0 0 a b=false:=by
 unfold upto;simp
def x2(h:i<n):((List.range n).map λn:Nat=>(n:Int)).getD i default=(i:Int):=pb (λn:Nat=>(n:Int)) h
def aiO(n:Nat):List.replicate n (List.replicate n false)=e0 n (λ_ _=>false):=by
 unfold e0;rw[List.map_const',List.map_const',List.length_range]
section
variable{c:Ctx}{r:Option Nat}{P:Program}{ops:Array Oper}{rest:cc}{o:Oper}{env:List (Nat×ab)}{Q:Exit->Act->World->Prop}
def T0{agg:Bool}{t tb b off:Nat}{q z:Operand}{cs ds:bl}{y:ab}{v s:Bool}{A0 C0 H H2:aA}[ht:cX P t (agg,1)](j:o.guard=none)(E:o.dst=none)(h:o.op= .store t q z)(B:aN (aD env) q=some (v,.p b off))(a:v=true)(w:aN (aD env) z=some (s,y))(A:s=true)(x:fa y)(D:dB (cG y))(l:Nat.beq (cG y).length 1)(m:off<cs.length)
  (C:H=A0++.au b tb cs::C0) (hds:cs.take off++cG y++cs.drop (off+1)=ds) (f:A0++.au b tb ds::C0=H2) (next:aj c r P ops rest ⟨env,H2⟩ Q):aj c r P ops (o::rest) ⟨env,H⟩ Q:=by
 subst C;subst f;exact aj.fZ (tb:=tb) (cs:=cs) (ds:=ds) j E h B a w A x D l (bG.under A0) (Nat.ble_eq_true_of_le aa) hds next
end
def aiP(c:ql p i j):∀a,a<n->∀b,b<n->(upto i (j+1) a b && dp p a b)=if a=i/\b=j then sK p i j else (upto i j a b && dp p a b):=λa _ b _=>by
 rw[Kk];by_cases e:a=i/\b=j
 ·obtain⟨rfl,rfl⟩:=e;rw[if_pos ⟨rfl,rfl⟩,beq_self_eq_true,beq_self_eq_true,dp,c];simp
 ·rw[if_neg e];have:(a==i && b==j)=false:=by
   rw[Bool.and_eq_false_iff,beq_eq_false_iff_ne,beq_eq_false_iff_ne];by_cases h:a=i
   ·exact .inr λao=>e ⟨h,ao⟩
   ·exact .inl h
  rw[this,Bool.or_false]
def aiQ(c:ql p i j=false):e0 n (λa b=>upto i (j+1) a b && dp p a b)=e0 n (λa b=>upto i j a b && dp p a b):=vZ λa _ b _=>by
 rw[Kk];by_cases e:a=i/\b=j
 ·obtain⟨rfl,rfl⟩:=e;rw[dp,c];simp
 ·have:(a==i && b==j)=false:=by
   rw[Bool.and_eq_false_iff,beq_eq_false_iff_ne,beq_eq_false_iff_ne];by_cases h:a=i
   ·exact .inr λao=>e ⟨h,ao⟩
   ·exact .inl h
  rw[this,Bool.or_false]
def aiR:∀a,a<n->∀b,b<n->(upto i (j+1) a b && (dp p a b && !dp p b a))=if a=i/\b=j then (bif dp p i j then !dp p j i else false) else (upto i j a b && (dp p a b && !dp p b a)):=λa _ b _=>by
 rw[Kk];by_cases e:a=i/\b=j
 ·obtain⟨rfl,rfl⟩:=e;rw[if_pos ⟨rfl,rfl⟩,beq_self_eq_true,beq_self_eq_true];cases dp p a b <;> simp
 ·rw[if_neg e];have:(a==i && b==j)=false:=by
   rw[Bool.and_eq_false_iff,beq_eq_false_iff_ne,beq_eq_false_iff_ne];by_cases h:a=i
   ·exact .inr λao=>e ⟨h,ao⟩
   ·exact .inl h
  rw[this,Bool.or_false]
def T1(us:dq){n:Nat}{f g:Nat->Nat->Bool}{i j:Nat}(c:i<n)(m:j<n){v:Bool}(l:∀a,a<n->∀b,b<n->g a b=if a=i/\b=j then v else f a b):∃A C,gz us (e0 n f)=A++.au (us.getD i default) 4 (((e0 n f).getD i default).map ab.b)::C/\gz us (e0 n g)=A++.au (us.getD i default) 4 ((((e0 n f).getD i default).set j v).map ab.b)::C:=by
 obtain⟨A,C,h⟩:=aiL us (ls:=e0 n f) (k:=i) (by rw[qm];exact c);refine⟨A,C,?_,?_⟩
 ·have:=h ((e0 n f).getD i default);rwa [(p7 (by rw[qm];exact c)).2 rfl] at this
 ·rw[<-aiN c m l,h]
def Ui{l:cW}(h:j<l.length)(v:Bool):(l.map ab.b).take j++cG (.b v)++(l.map ab.b).drop (j+1)=(l.set j v).map ab.b:=by
 have:=JV h v [];simpa using this
def T2(h:a<n)(c:b<n):(((e0 n f).getD a default).map ab.b)[b]? =some (.b (f a b)):=by
 rw[xZ (by rw[qs h];simpa using c),TV h c]
def aiS(P:p.Small)(w:(bw p).isSome)(H:aA):bO prog 74 [ab.prog p,ab.ints ((List.range p.methods.length).map λn:Nat=>(n:Int))] H (λy H'=>∃ws:dq,y= .ai 1 (ws.map λu=>[m0 p.methods.length u])/\H'=gz ws (e0 p.methods.length (λa b=>dp p a b && !dp p b a))++H/\ws.length=p.methods.length) (λ_ _=>False):=by
 refine aM (n:=126) func74 λB I bW=>?_;have S:=ki w;refine ba ?_;refine ag (ad.call .k (Aa P w)) ?_;refine bK (λdc=>?_);refine aY ?_;refine eA 5 ?_;refine bR ?_;refine hh 6 28 1 ?_;refine hh 7 28 1 ?_;refine bo (λz o=>∃(i:Nat) (us ws:dq) (v1 v2:Value),o=⟨[(8,.i i),(7,.as (.ai 1 (ws.map λu=>[m0 p.methods.length u])) v2),(6,.as (.ai 1 (us.map λu=>[m0 p.methods.length u])) v1),(5,.ptr (cD (bS p))),(2,.ptr (cM p)),(1,ab.ints ((List.range p.methods.length).map λn:Nat=>(n:Int)))],.own 28 1 v2::.own 28 1 v1::(gz us (List.replicate i (List.replicate p.methods.length false))++(gz ws (List.replicate i (List.replicate p.methods.length false))++H))⟩/\z=p.methods.length - i/\i<=p.methods.length/\us.length=i/\ws.length=i) (⟨0,[],[],_,_,rfl,rfl,aa,rfl,rfl⟩) ?_;rintro z _ ⟨i,us,ws,v1,v2,rfl,rfl,N,ks,h⟩;refine bY ?_;refine az (λaf=>?_) λaf=>?_
 ·have bT:i<p.methods.length:=by omega
  refine bY ?_;refine aj.pN (p.methods.length) rfl rfl rfl rfl rfl rfl rfl rfl (rfl) aa h5 (λv7=>?_);refine aj.cn (x:=.ai 1 [[m0 p.methods.length v7]]) rfl rfl rfl (ad.row rfl rfl cC rfl rfl rfl rfl rfl rfl) ?_;refine aj.dJ rfl rfl rfl rfl rfl rfl rfl rfl (an.refl _) (xI (vs:=[.slice (some ⟨v7,0,none⟩) p.methods.length p.methods.length]) (by intro u v;simp at v;rw[v];rfl)) (λ_=>df) cB cB (λv28=>?_);refine aI ?_;refine aj.pN (p.methods.length) rfl rfl rfl rfl rfl rfl rfl rfl (rfl) aa h5 (λbx=>?_);refine aj.cn (x:=.ai 1 [[m0 p.methods.length bx]]) rfl rfl rfl (ad.row rfl rfl cC rfl rfl rfl rfl rfl rfl) ?_;refine aj.dJ rfl rfl rfl rfl rfl rfl rfl rfl (an.refl _) (xI (vs:=[.slice (some ⟨bx,0,none⟩) p.methods.length p.methods.length]) (by intro u v;simp at v;rw[v];rfl)) (λ_=>df) cB cB (λoC=>?_);refine aY ?_;have O:=TW (n:=p.methods.length) (u:=v7) ks;have T:=TW (n:=p.methods.length) (u:=bx) h;refine aB.perm (H':=.own 28 1 oC::.own 28 1 v28::(gz (us++[v7]) (List.replicate (i+1) (List.replicate p.methods.length false))++(gz (ws++[bx]) (List.replicate (i+1) (List.replicate p.methods.length false))++H))) (by rw[O,T];exact (show (.au bx 4 (List.replicate p.methods.length (ab.val (.bool false)))::.au v7 4 (List.replicate p.methods.length (ab.val (.bool false)))::.own 28 1 oC::.own 28 1 v28::(gz us (List.replicate i (List.replicate p.methods.length false))++(gz ws (List.replicate i (List.replicate p.methods.length false))++H)):aA).Perm _ from by classical exact List.perm_iff_count.2 λx=>by simp only[List.count_append,List.count_cons,List.count_nil,List.cons_append,List.nil_append];omega)) ?_;refine aT ?_;exact aW (⟨i+1,us++[v7],ws++[bx],v28,oC,by rw[List.map_append,List.map_append],rfl,bT,by simp[ks],by simp[h]⟩)
 ·obtain rfl:i=p.methods.length:=by omega
  refine aP ?_;refine aB.le 6 (y:=.ai 1 (us.map λu=>[m0 p.methods.length u])) rfl (an.e2 _ _) ?_;refine aB.le 7 (y:=.ai 1 (ws.map λu=>[m0 p.methods.length u])) rfl (an.e2 _ _) ?_;rw[aiO];refine aB.perm (H':=(gz us (e0 p.methods.length (λ_ _=>false))++(gz ws (e0 p.methods.length (λ_ _=>false))++(.own 28 1 v2::.own 28 1 v1::H)))) (show _ from by classical exact List.perm_iff_count.2 λx=>by simp only[List.count_append,List.count_cons,List.count_nil,List.cons_append,List.nil_append];omega) ?_;refine aT ?_;refine bo (λz o=>∃i:Nat,o=⟨[(9,.i i),(7,.ai 1 (ws.map λu=>[m0 p.methods.length u])),(6,.ai 1 (us.map λu=>[m0 p.methods.length u])),(5,.ptr (cD (bS p))),(2,.ptr (cM p)),(1,ab.ints ((List.range p.methods.length).map λn:Nat=>(n:Int)))],(gz us (e0 p.methods.length (λa b=>upto i 0 a b && dp p a b))++(gz ws (e0 p.methods.length (λ_ _=>false))++(.own 28 1 v2::.own 28 1 v1::H)))⟩/\z=p.methods.length - i/\i<=p.methods.length) (⟨0,by rw[vZ (f:=(λa b=>upto 0 0 a b && dp p a b)) (g:=λ_ _=>false) (λa _ b _=>by rw[TZ];rfl)],rfl,aa⟩) ?_;rintro z _ ⟨i,rfl,rfl,N⟩;refine aT ?_;refine ag (ad.le (ad.qo rfl rfl rfl) (an.b4 (show _=((p.methods.length:Nat):Int) by simp))) ?_;refine aF ?_;refine az (λae=>?_) λae=>?_
  ·have bT:i<p.methods.length:=by omega
   refine bY ?_;refine bo (λz o=>∃j:Nat,o=⟨[(10,.i j),(9,.i i),(7,.ai 1 (ws.map λu=>[m0 p.methods.length u])),(6,.ai 1 (us.map λu=>[m0 p.methods.length u])),(5,.ptr (cD (bS p))),(2,.ptr (cM p)),(1,ab.ints ((List.range p.methods.length).map λn:Nat=>(n:Int)))],(gz us (e0 p.methods.length (λa b=>upto i j a b && dp p a b))++(gz ws (e0 p.methods.length (λ_ _=>false))++(.own 28 1 v2::.own 28 1 v1::H)))⟩/\z=p.methods.length - j/\j<=p.methods.length) (⟨0,rfl,rfl,aa⟩) ?_;rintro z _ ⟨j,rfl,rfl,R⟩;refine aT ?_;refine ag (ad.le (ad.qo rfl rfl rfl) (an.b4 (show _=((p.methods.length:Nat):Int) by simp))) ?_;refine aF ?_;refine az (λao=>?_) λao=>?_
   ·have dH:j<p.methods.length:=by omega
    refine aT ?_;refine bP 9 126 ?_;refine aF ?_;refine bg (uh) ?_;refine bg (ad.le (ad.cF rfl rfl rfl rfl) (an.b4 (x2 bT))) ?_;refine aO ?_;refine bg (EP) ?_;refine bg (ad.le (ad.cF rfl rfl rfl rfl) (an.b4 (x2 dH))) ?_;refine aO ?_;refine ag (ad.call .k (aiK bT dH)) ?_;refine aO ?_;refine bc (λaV=>?_) (λaV=>?_)
    ·have s:ql p i j=true:=aV;obtain⟨A0,C0,r,q⟩:=T1 us bT dH (aiP (p:=p) (n:=p.methods.length) s);have J:=tz (AU w bT).2;have M:=tz (AU w dH).2;rw[r];refine bP 31 126 ?_;refine aF ?_;refine bg (uh) ?_;refine bg (ad.le (ad.cF rfl rfl rfl rfl) (an.b4 (x2 bT))) ?_;refine bg (KG) ?_;refine aF ?_;refine bg (EP) ?_;refine bg (ad.le (ad.cF rfl rfl rfl rfl) (an.b4 (x2 dH))) ?_;refine aT ?_;refine bg (uh) ?_;refine bg (ad.le (ad.cF rfl rfl rfl rfl) (an.b4 (x2 bT))) ?_;refine aO ?_;refine bg (ad.le (ad.rF rfl rfl rfl rfl) (show an _ (ab.fact (cA p i).fact) from an.refl _)) ?_;refine aY ?_;refine bg (EP) ?_;refine bg (ad.le (ad.cF rfl rfl rfl rfl) (an.b4 (x2 dH))) ?_;refine aO ?_;refine bg (ad.le (ad.rF rfl rfl rfl rfl) (show an _ (ab.fact (cA p j).fact) from an.refl _)) ?_;refine bg (ad.call .k (agA (AU w bT).1 J.1 M.1 aa aa)) ?_;refine aO ?_;refine ag (ad.gU rfl rfl rfl rfl rfl aa) ?_;refine T0 (off:=0+(j:Int).toNat*1) (cs:=((e0 p.methods.length (λa b=>upto i j a b && dp p a b)).getD i default).map ab.b) (ds:=(((e0 p.methods.length (λa b=>upto i j a b && dp p a b)).getD i default).set j (sK p i j)).map ab.b) (A0:=A0) (C0:=C0++(gz ws (e0 p.methods.length (λ_ _=>false))++(.own 28 1 v2::.own 28 1 v1::H))) rfl rfl rfl rfl rfl rfl rfl rfl rfl rfl (by rw[show 0+(j:Int).toNat*1=j by simp,qs bT];simpa using dH) (by rw[List.append_assoc,List.cons_append]) KX rfl ?_;refine aI ?_;exact aW (⟨j+1,by rw[q,List.append_assoc,List.cons_append],rfl,dH⟩)
    ·have s:ql p i j=false:=aV;refine aI ?_;exact aW (⟨j+1,by rw[aiQ s],rfl,dH⟩)
   ·obtain rfl:j=p.methods.length:=by omega
    rw[vZ (f:=(λa b=>upto i p.methods.length a b && dp p a b)) (g:=(λa b=>upto (i+1) 0 a b && dp p a b)) (λa _ b K=>by rw[TX K])];refine bE ?_;exact aW (⟨i+1,rfl,rfl,bT⟩)
  ·obtain rfl:i=p.methods.length:=by omega
   rw[vZ (f:=(λa b=>upto p.methods.length 0 a b && dp p a b)) (g:=dp p) (λa L b _=>by rw[TY L,Bool.true_and])];refine bR ?_;refine bo (λz o=>∃i:Nat,o=⟨[(11,.i i),(7,.ai 1 (ws.map λu=>[m0 p.methods.length u])),(6,.ai 1 (us.map λu=>[m0 p.methods.length u])),(5,.ptr (cD (bS p))),(2,.ptr (cM p)),(1,ab.ints ((List.range p.methods.length).map λn:Nat=>(n:Int)))],(gz us (e0 p.methods.length (dp p))++(gz ws (e0 p.methods.length (λa b=>upto i 0 a b && (dp p a b && !dp p b a)))++(.own 28 1 v2::.own 28 1 v1::H)))⟩/\z=p.methods.length - i/\i<=p.methods.length) (⟨0,by rw[vZ (f:=(λa b=>upto 0 0 a b && (dp p a b && !dp p b a))) (g:=λ_ _=>false) (λa _ b _=>by rw[TZ];rfl)],rfl,aa⟩) ?_;rintro z _ ⟨i,rfl,rfl,N⟩;refine aT ?_;refine ag (ad.le (ad.qo rfl rfl rfl) (an.b4 (show _=((p.methods.length:Nat):Int) by rw[h]))) ?_;refine aF ?_;refine az (λbu=>?_) λbu=>?_
   ·have bT:i<p.methods.length:=by omega
    refine bY ?_;refine bo (λz o=>∃j:Nat,o=⟨[(12,.i j),(11,.i i),(7,.ai 1 (ws.map λu=>[m0 p.methods.length u])),(6,.ai 1 (us.map λu=>[m0 p.methods.length u])),(5,.ptr (cD (bS p))),(2,.ptr (cM p)),(1,ab.ints ((List.range p.methods.length).map λn:Nat=>(n:Int)))],(gz us (e0 p.methods.length (dp p))++(gz ws (e0 p.methods.length (λa b=>upto i j a b && (dp p a b && !dp p b a)))++(.own 28 1 v2::.own 28 1 v1::H)))⟩/\z=p.methods.length - j/\j<=p.methods.length) (⟨0,rfl,rfl,aa⟩) ?_;rintro z _ ⟨j,rfl,rfl,R⟩;refine aT ?_;refine ag (ad.le (ad.qo rfl rfl rfl) (an.b4 (show _=((p.methods.length:Nat):Int) by rw[h]))) ?_;refine aF ?_;refine az (λcr=>?_) λcr=>?_
    ·have dH:j<p.methods.length:=by omega
     obtain⟨A0,C0,r,q⟩:=T1 ws bT dH (aiR (p:=p) (n:=p.methods.length) (i:=i) (j:=j));have E:=Kj (us:=us) (ls:=e0 p.methods.length (dp p)) (k:=i) (by rw[qm];exact bT);have D:=Kj (us:=us) (ls:=e0 p.methods.length (dp p)) (k:=j) (by rw[qm];exact dH);have G:=T2 (f:=dp p) bT dH;have F:=T2 (f:=dp p) dH bT;rw[r];refine aY ?_;refine bP 22 126 ?_;refine aO ?_;refine bg ((by first | exact ad.fC rfl rfl rfl rfl rfl (by rw[h];exact bT) | exact ad.ep rfl rfl rfl rfl rfl (by rw[h];exact bT))) ?_;refine aY ?_;refine bg (KG) ?_;refine aO ?_;refine bg (ad.gU rfl rfl rfl rfl rfl aa) ?_;refine bg ((by apply ad.ij rfl rfl rfl;(case hm=>exact List.mem_append_left _ E);(case hy=>exact (show (_:bl)[0+(j:Int).toNat*1]? =_ by rw[show 0+(j:Int).toNat*1=j by simp];exact G)))) ?_;refine aF ?_;refine jJ (λaw=>(by first | exact ad.fC rfl rfl (cl aw) rfl (cl aw) (by rw[ks];exact dH) | exact ad.ep rfl rfl (cl aw) rfl (cl aw) (by rw[ks];exact dH))) ?_;refine aO ?_;refine jJ (λaw=>ad.gU rfl rfl c9 rfl c9 aa) ?_;refine jJ (λaw=>(by apply ad.ij rfl rfl c9;(case hm=>exact List.mem_append_left _ D);(case hy=>exact (show (_:bl)[0+(i:Int).toNat*1]? =_ by rw[show 0+(i:Int).toNat*1=i by simp];exact F)))) ?_;refine aY ?_;refine ag (ad.gU rfl rfl rfl rfl rfl aa) ?_;refine T0 (off:=0+(j:Int).toNat*1) (cs:=((e0 p.methods.length (λa b=>upto i j a b && (dp p a b && !dp p b a))).getD i default).map ab.b) (ds:=(((e0 p.methods.length (λa b=>upto i j a b && (dp p a b && !dp p b a))).getD i default).set j (bif dp p i j then !dp p j i else false)).map ab.b) (A0:=gz us (e0 p.methods.length (dp p))++A0) (C0:=C0++(.own 28 1 v2::.own 28 1 v1::H)) rfl rfl rfl rfl rfl rfl rfl rfl rfl rfl (by rw[show 0+(j:Int).toNat*1=j by simp,qs bT];simpa using dH) (by rw[List.append_assoc,List.append_assoc,List.cons_append]) KX (H2:=(gz us (e0 p.methods.length (dp p))++(gz ws (e0 p.methods.length (λa b=>upto i (j+1) a b && (dp p a b && !dp p b a)))++(.own 28 1 v2::.own 28 1 v1::H)))) (by rw[q];simp only[List.append_assoc,List.cons_append]) ?_;refine aI ?_;exact aW (⟨j+1,rfl,rfl,dH⟩)
    ·obtain rfl:j=p.methods.length:=by omega
     rw[vZ (f:=(λa b=>upto i p.methods.length a b && (dp p a b && !dp p b a))) (g:=(λa b=>upto (i+1) 0 a b && (dp p a b && !dp p b a))) (λa _ b K=>by rw[TX K])];refine bE ?_;exact aW (⟨i+1,rfl,rfl,bT⟩)
   ·obtain rfl:i=p.methods.length:=by omega
    rw[vZ (f:=(λa b=>upto p.methods.length 0 a b && (dp p a b && !dp p b a))) (g:=λa b=>dp p a b && !dp p b a) (λa L b _=>by rw[TY L,Bool.true_and])];refine bR ?_;refine aZ.cg (rs:=[.tmp 4]) (H':=gz ws (e0 p.methods.length (λa b=>dp p a b && !dp p b a))++H) rfl (.tmp rfl (.nil)) (c0.refl _) (by exact List.Sublist.trans (List.Sublist.append (List.Sublist.refl _) (List.Sublist.cons _ (List.sublist_cons_self _ _))) (List.sublist_append_right _ _)) ?_;exact⟨ws,rfl,rfl,h⟩
def a7.aiT{B:Nat}{I:cp}{w:World}{F Hx:aA}(hw:bV B I w)(aU:a7 B I w (F++Hx)):∃J,bV B J w/\Ext B I w J w/\a7 B J w Hx/\∀t b cs,bn.au b t cs∈F->cs.length<=maxLen->Rel J w (.ai 1 (cs.map λx=>[x])) (.slice (some ⟨b,0,none⟩) cs.length cs.length):=by
 obtain⟨J,eD⟩:∃J:cp,J=λb o=>I b o\/((∃e∈F,e.dY=some b)/\∃c,w.cell? ⟨b,o,none⟩=some c):=⟨_,rfl⟩;have hq:er I w J w:=⟨λb o h=>by rw[eD];exact .inl h,λ_ _ _=>rfl⟩;refine⟨J,⟨hw.base,λb o h=>by rw[eD] at h;exact h.elim (hw.there b o) And.right⟩,⟨hq.il,hq.cell,Go.RowKit.Below.refl _ _⟩,?_,λt dM cs hm aiU=>?_⟩
 ·refine⟨λf b8=>bn.bs (aU.ok f (List.mem_append_right _ b8)) hq (λ_ _=>rfl) (λb a8 o bb=>?_),(List.pairwise_append.1 aU.apart).2.1⟩;rw[eD] at bb;rcases bb with bb | ⟨⟨e,he,aiV⟩,_⟩
  ·exact bb
  ·exact absurd a8 ((List.pairwise_append.1 aU.apart).2.2 e he f b8 b aiV)
 ·have hL:=aU.ok _ (List.mem_append_left Hx hm);have aiW:bn.ok B I w (.row t 1 (.slice (some ⟨dM,0,none⟩) cs.length cs.length) cs.length cs):=bn.Gd (more:=[]) (Nat.le_refl _) aiU aS aS (by rw[List.append_nil];exact hL);obtain⟨K,ae,ao,aV,bu⟩:=y3 (els:=cs.map λx=>[x]) (by rw[List.length_map,zp];exact aiW) (λx aK=>by obtain⟨y,_,rfl⟩:=List.mem_map.1 aK;rfl);refine bu.bs ⟨λb o a8=>?_,λ_ _ _=>rfl⟩;rw[eD];rcases ao b o a8 with q | q
  ·exact .inl q
  ·rcases aV b o a8 with fi | fi
   ·exact .inl fi
   ·exact .inr ⟨⟨_,hm,q⟩,fi⟩
def rE(p:Prog):List cW:=e0 p.methods.length (λa b=>dp p a b && !dp p b a)
def aiX(p:Prog)(a b:Nat):ql p a b=ql p b a:=by unfold ql;rw[Bool.beq_comm,Bool.beq_comm (a:=(cA p a).kind)]
def T3(p:Prog):vY p (rE p):=⟨qm _ _,λm c=>by rw[rE,qs c];simp,λm o c f h g=>by
 have a:ql p m o=true:=by unfold ql;rw[h,g,beq_self_eq_true,beq_self_eq_true];rfl
 rw[rE,TV c f,dp,dp,a,aiX,a,bh];simp⟩
def aiY(G:p.Small)(A:(bw p).isSome):aG prog 74 [ab.prog p,ab.ints ((List.range p.methods.length).map λn:Nat=>(n:Int))] (ab.gg (rE p)):=λH=>by
 refine bO.pO (aiS G A H) ?_;rintro _ _ ⟨m,rfl,rfl,t⟩ B I w v K N M;obtain⟨J,P,D,O,R⟩:=a7.aiT (F:=gz m (rE p)) K N;have L:=ki A;refine⟨J,_,H,P,D,O,(M.bs D.keeps).Ct (by rw[List.length_map,List.length_map,rE,qm,t]) λi x y f h=>?_,rfl,rfl⟩;rw[List.getElem?_map] at f h;cases aQ:(rE p)[i]? with
 | none=>rw[aQ] at h;cases h
 | some l=>
  have a:=(List.getElem?_eq_some_iff.1 aQ).1;have C:(rE p).getD i default=l:=by rw[List.getD_eq_getElem?_getD,aQ];rfl
  have j:i<p.methods.length:=by rw[rE,qm] at a;exact a
  have g:l.length=p.methods.length:=by rw[<-C];exact (T3 p).rows i j
  cases bd:m[i]? with
  | none=>rw[bd] at f;cases f
  | some u=>
   have z:m.getD i default=u:=by rw[List.getD_eq_getElem?_getD,bd];rfl
   rw[aQ] at h;rw[bd] at f;cases f;cases h;refine⟨rfl,λb o q=>?_⟩;cases q with
   | cons _ _ _ c _ r s f Q=>
    refine .cons _ _ _ c _ r s ?_ (by cases Q;exact .nil _ _);rw[bX f];have E:=Kj (us:=m) a;rw[C,z] at E;have:=R _ _ _ E (by rw[List.length_map,g];simp only[maxLen];omega);rw[List.length_map,g,List.map_map] at this;exact this
def aiZ(c:(bw p).isSome){t:cI}(h:bf p t):A5 (ft p (bh p) t).t t= !(ft p (bh p) t).ch:=by
 cases a1:(ft p (bh p) t).ch with
 | false=>rw[Te c (bh p) h a1];exact EC.2 rfl
 | true=>
  have f:=(J2 c (bh p) h).ch.1 a1;have a:(ft p (bh p) t).t≠t:=f.resolve_left aS;rw[Bool.not_true, <-Bool.not_eq_true,EC];exact a
def ai0(m:p.Small){t:cI}(c:(bw p).isSome)(ht:bf p t):aG prog 92 [ab.prog p,ab.dx t] (ab.dx (nB p (bh p) (lK p t+1) t)):=by
 intro H;refine aM (n:=20) func92 λB I s=>?_;refine aF ?_;refine aj.qD rfl rfl rfl rfl rfl rfl rfl (λtb=>?_);refine bK (λcV=>?_);refine aF ?_;refine bP 3 20 ?_;refine aO ?_;refine bg (ad.call .k (aiI c)) ?_;refine aO ?_;refine ag (ad.call .k (aiY m c)) ?_;refine aY ?_;refine bo (λz r=>∃T:cI,r=⟨[(5,ab.gg (rE p)),(4,.p cV 0),(3,.p tb 0),(2,.ptr (cM p))],.au cV 31 [.val aL,.val aL,.val aL,.val aL]::.au tb 31 (ns T)::H⟩/\z=lK p T/\bf p T/\nB p (bh p) (lK p T+1) T=nB p (bh p) (lK p t+1) t) (⟨t,rfl,rfl,ht,rfl⟩) ?_;rintro z _ ⟨T,rfl,rfl,g,h⟩;refine ax ?_;refine ag (ad.call .k (aiF m c g (T3 p))) ?_;refine bK (λnb=>?_);refine aI ?_;refine ag (ad.call .k (Ki _ _)) ?_;refine aO ?_;rw[aiZ c g];refine bc (λaf=>?_) (λaf=>?_)
 ·have a:(ft p (bh p) T).ch=false:=by simpa using af
  rw[nB,a] at h;rw[<-h];refine bE ?_;refine dL [.cell 4 31] (H) ?_;exact⟨cO,rfl⟩
 ·replace af:=dC af;have a:(ft p (bh p) T).ch=true:=by simpa using af
  have l:=J4 c (bh p) g a;have f:=Es c (bh p) g;rw[nB,a,if_pos rfl,Eu c (bh p) _ f l] at h;refine aP ?_;exact aW (⟨(ft p (bh p) T).t,rfl,rfl,f,h⟩)
def ai1(c:(bw p).isSome):aG prog 93 [ab.prog p] (ab.dx (eW p)):=by
 intro H;refine aM (n:=41) func93 λB I J=>?_;have v:=ki c;have C:=J8 c;have f:p.nodes.length<=120:=by
  obtain⟨o,g⟩:=Option.isSome_iff_exists.1 c;exact (sb g).2
 have j:(eW p).params.length=p.methods.length:=by simp[eW]
 refine aF ?_;refine bK (λcV=>?_);refine aF ?_;refine aB.cw mixed ?_;refine b0.za [⟨12,3,31,[aL,aL,aL,aL],13,[ab.du (eW p).bz,.val aL,ab.ints (eW p).nodes,ab.ints (eW p).av]⟩] 0 14 41 rfl aq ay rfl rfl aq ?_;refine dD (b5) ?_;refine dD (cJ) ?_;refine dD (wc) ?_;refine dD (ad.eq (ad.tn p.methods.length rfl rfl rfl rfl rfl rfl rfl aa sY) (Tg _)) ?_;refine dD (b5) ?_;refine dD (cJ) ?_;refine dD (wc) ?_;refine dD (ad.eq (ad.tn p.nodes.length rfl rfl rfl rfl rfl rfl rfl aa sY) (x1 _)) ?_;refine dD (b5) ?_;refine dD (cJ) ?_;refine dD (ad.eq (ad.tn p.av.toNat rfl rfl rfl rfl rfl aa aa aa sY) (x1 _)) ?_;refine dD (ad.yv rfl rfl cC rfl) ?_;refine cH.wX [] [] ⟨12,3,31,[aL,aL,aL,aL],13,[ab.du (eW p).bz,.val aL,ab.ints (eW p).nodes,ab.ints (eW p).av]⟩ rfl ⟨0,14,ay⟩ rfl rfl rfl rfl rfl rfl rfl ?_;refine cH.wY [] [] ⟨12,3,31,[aL,aL,aL,aL],13,[ab.du (eW p).bz,.val aL,ab.ints (eW p).nodes,ab.ints (eW p).av]⟩ rfl ⟨0,14,ay⟩ rfl rfl rfl (λb G L w=>.store rfl rfl rfl rfl rfl rfl rfl rfl w e9 e9) ?_;refine cH.nil (λdR=>?_);simp only[List.map_cons,List.map_nil,List.cons_append,List.nil_append];refine b0.done rfl ?_;refine aF ?_;generalize dR 3=dF;refine aT ?_;refine aB.pJ (b:=dF) (t:=31) 23 1 1 df rfl rfl ?_;refine bo (λz B=>∃(i:Nat) (h:Value),B=⟨[(4,.i i),(3,.p dF 0),(2,.p cV 0),(1,.ptr (cM p))],.own 23 1 h::.au dF 31 [ab.du (eW p).bz,.as (ab.bm ((eW p).params.take i)) h,ab.ints (eW p).nodes,ab.ints (eW p).av]::.au cV 31 [.val aL,.val aL,.val aL,.val aL]::H⟩/\z=p.methods.length - i/\i<=p.methods.length) (⟨0,_,rfl,rfl,aa⟩) ?_;rintro z _ ⟨i,h,rfl,rfl,K⟩;refine bY ?_;refine az (λaf=>?_) λaf=>?_
 ·have a:i<p.methods.length:=by omega
  obtain⟨M,da⟩:∃M,M=p.methods.getD i default:=⟨_,rfl⟩;have F:=tQ c a;obtain⟨A,m⟩:∃A,A=(fG p M.gen).toNat:=⟨_,rfl⟩;have q:A<=10/\0<=fG p M.gen/\(A:Int)=p.cT.getD M.gen.toNat default:=by
   obtain⟨o,g⟩:=Option.isSome_iff_exists.1 c;have E:=qZ (iF g).2.2.1 (bI (l:=p.cT) (k:=M.gen.toNat) E1);unfold fG at m ⊢;omega
  refine aY ?_;refine bP 14 41 ?_;refine ba ?_;refine bg (ad.le (ad.cF rfl rfl rfl rfl) (an.b4 (show _=M.gen by rw[da]))) ?_;refine bg (Kz) ?_;refine aR ?_;refine bg (ad.eq (ad.tn A rfl rfl rfl rfl rfl aa aa aa sY) (x1 _)) ?_;refine eO.cn (x:=.ai 1 [[ab.ints (List.replicate A 0)]]) rfl rfl rfl (ad.row rfl rfl cC rfl rfl rfl rfl rfl rfl) ?_;refine aO ?_;refine aj.dJ rfl rfl rfl rfl rfl rfl rfl rfl (an.refl _) (rfl) (λ_=>df) cB cB (λC7=>?_);refine bY ?_;exact aW (⟨i+1,C7,by rw[Th a, <-da, <-m],rfl,a⟩)
 ·obtain rfl:i=p.methods.length:=by omega
  rw[<-j,List.take_length];refine ax ?_;refine aB.Cu df (.cons (.refl _) (.cons (an.e2 _ _) (.cons (.refl _) (.cons (.refl _) .nil)))) ?_;refine ax ?_;refine dL [.cell 2 31] (H) ?_;exact⟨cO,rfl⟩
def ai2(c:p.Small)(a:(bw p).isSome):aG prog 43 [ab.prog p] (ab.dx (ue p (bh p))):=by
 intro H;refine aM (n:=7) func43 λB I f=>?_;refine aF ?_;refine bK (λcV=>?_);refine aF ?_;refine bP 3 7 ?_;refine aO ?_;refine bg (ad.call .k (ai1 a)) ?_;refine aO ?_;refine ag (ad.call .k (ai0 c a (J7 a))) ?_;refine aY ?_;refine dL [.cell 2 31] (H) ?_;exact⟨cO,rfl⟩
def ai3(c:p.Small):aG prog 15 [ab.prog p] (if(bw p).isSome then .bk [ab.dx (ue p (bh p)),.i 0] else .bk [ab.dx ⟨[],[],[],[]⟩,.i 2]):=by
 intro H;refine aM (n:=10) func15 λB I g=>?_;refine aF ?_;refine bK (λcV=>?_);refine aP ?_;refine ag (ad.call .k (aaO c)) ?_;refine aF ?_;refine bc (λaf=>?_) (λaf=>?_)
 ·have a:(bw p).isSome=false:=by simpa using af
  rw[a];refine ba ?_;refine aZ.cg (rs:=[.cell 2 31,.tmp 3]) (H':=H) rfl (sP) (.cons (an.agg (.cons (an.nil 1) (.cons (an.nil 1) (.cons (an.nil 1) (.cons (an.nil 1) .nil))))) (.cons (.refl _) .nil)) bC ?_;exact⟨cO,rfl⟩
 ·have a:(bw p).isSome=true:=by simpa using af
  rw[a,if_pos rfl];refine aT ?_;refine ag (ad.call .k (ai2 c a)) ?_;refine aT ?_;refine aZ.cg (rs:=[.cell 2 31,.tmp 3]) (H':=H) rfl (sP) (c0.refl _) bC ?_;exact⟨cO,rfl⟩
def jx:Prog:=⟨[⟨[],[0],[(0,7)]⟩,⟨[3],[],[]⟩],1,[1],[⟨1,0,.mk 2 0 [] 3 0 [],0⟩,⟨1,0,.mk 2 0 [] 4 0 [],2⟩],[⟨4,0,[1]⟩,⟨3,0,[]⟩,⟨18,0,[]⟩,⟨5,0,[4]⟩,⟨6,4,[]⟩],3⟩
def jy:cI:=⟨[true,true],[[16],[16]],[2,16,2,2,16],[2]⟩
def ED:cI:=⟨[true,false],[[16],[16]],[2,16,2,2,16],[2]⟩
def ai4:(bw jx).isSome=true:=by kernel_rfl
def ai5:ue jx (bh jx)=jy:=by kernel_rfl
def T4:(J5 jx jy,J5 jx ED)=(true,false):=by kernel_rfl
def ai6:IK jx jy= [true,true,true,true,true]:=by kernel_rfl
def ai7:eI jx jy 0 [30]= [(0,[24]),(1,[16])]:=by kernel_rfl
def ai8:aG prog 26 [.i 4] (ab.prog jx):=by
 intro H;refine aM (n:=26) func26 λB I a=>?_;refine aO ?_;refine bK (λcV=>?_);refine aY ?_;refine ag (ad.row rfl rfl cC rfl rfl rfl rfl rfl rfl) ?_;refine aR ?_;refine ag (ad.row rfl rfl cC rfl rfl rfl rfl rfl rfl) ?_;refine aR ?_;refine ag (ad.row rfl rfl cC rfl rfl rfl rfl rfl rfl) ?_;refine aR ?_;refine ag (ad.row rfl rfl cC rfl rfl rfl rfl rfl rfl) ?_;refine ag (ad.row rfl rfl cC rfl rfl rfl rfl rfl rfl) ?_;refine aY ?_;refine ag (ad.row rfl rfl cC rfl rfl rfl rfl rfl rfl) ?_;refine ag (ad.row rfl rfl cC rfl rfl rfl rfl rfl rfl) ?_;refine aF ?_;refine ag (ad.row rfl rfl cC rfl rfl rfl rfl rfl rfl) ?_;refine aF ?_;refine ag (ad.row rfl rfl cC rfl rfl rfl rfl rfl rfl) ?_;refine aT ?_;refine aZ.cg (rs:=[.cell 2 27]) (H':=H) rfl (sQ) (.cons ((an.agg (.cons (an.ai (.cons (.cons (an.nil 1) (.cons (.refl _) (.cons (.refl _) (.nil)))) (.cons (.cons (.refl _) (.cons (an.nil 1) (.cons (an.nil 2) (.nil)))) (.nil)))) (.cons (.refl _) (.cons (.refl _) (.cons (an.ai (.cons (.cons (.refl _) (.cons (.refl _) (.cons (.refl _) (.cons (.refl _) (.cons (an.nil 1) (.cons (.refl _) (.cons (.refl _) (.cons (an.nil 6) (.cons (.refl _) (.nil)))))))))) (.cons (.cons (.refl _) (.cons (.refl _) (.cons (.refl _) (.cons (.refl _) (.cons (an.nil 1) (.cons (.refl _) (.cons (.refl _) (.cons (an.nil 6) (.cons (.refl _) (.nil)))))))))) (.nil)))) (.cons (an.ai (.cons (.cons (.refl _) (.cons (.refl _) (.cons (.refl _) (.nil)))) (.cons (.cons (.refl _) (.cons (.refl _) (.cons (an.nil 1) (.nil)))) (.cons (.cons (.refl _) (.cons (.refl _) (.cons (an.nil 1) (.nil)))) (.cons (.cons (.refl _) (.cons (.refl _) (.cons (.refl _) (.nil)))) (.cons (.cons (.refl _) (.cons (.refl _) (.cons (an.nil 1) (.nil)))) (.nil))))))) (.cons (.refl _) (.nil))))))):an _ (ab.prog jx))) .nil) bC ?_;exact⟨cO,rfl⟩
def x3:aG prog 27 [] (ab.dx jy):=by
 intro H;refine aM (n:=8) func27 λB I a=>?_;refine aO ?_;refine bK (λcV=>?_);refine aY ?_;refine ag (ad.row rfl rfl cC rfl rfl rfl rfl rfl rfl) ?_;refine ag (ad.row rfl rfl cC rfl rfl rfl rfl rfl rfl) ?_;refine ag (ad.row rfl rfl cC rfl rfl rfl rfl rfl rfl) ?_;refine ag (ad.row rfl rfl cC rfl rfl rfl rfl rfl rfl) ?_;refine ag (ad.row rfl rfl cC rfl rfl rfl rfl rfl rfl) ?_;refine ag (ad.row rfl rfl cC rfl rfl rfl rfl rfl rfl) ?_;refine aT ?_;refine dL [.cell 0 31] (H) ?_;exact⟨cO,rfl⟩
def x4:jx.Small:=⟨c8,c8⟩
def T5:nt jx jy=true:=by kernel_rfl
def ai9:nt jx ED=true:=by kernel_rfl
def aja:aG prog 14 [ab.prog jx] (.bk [ab.dx jy,.i 0]):=by
 have:=Ti x4;rwa [ai4,if_pos rfl,ai5] at this
def ajb:aG prog 11 [ab.prog jx,ab.dx jy] (.bk [ab.du [true,true,true,true,true],.i 0]):=by
 have:=ac0 x4 jy;rwa [IM,T5,if_pos rfl,ai6] at this
def ajc:aG prog 28 [ab.prog jx,ab.dx jy,.i 0,ab.ints [30]] (.bk [ab.ints [0,1],ab.bm [[24],[16]],.i 0]):=by
 have:=acy x4 jy 0 [30];rwa [vz,if_pos (show sq jx jy 0 [30]=true by kernel_rfl),ai7] at this
def ajd:aG prog 31 [ab.prog jx,ab.dx jy,.i 0,ab.ints [1]] (.bk [.b false,.b true,.i 0]):=by
 have:=ab3 x4 jy 0 [1];rwa [vx,if_pos (show sn jx jy 0 [1]=true by kernel_rfl),show (di jx jy [1] (jx.methods.getD (0:Int).toNat default).fact)=(false,true) by kernel_rfl] at this
def aje:aG prog 9 [ab.prog jx,ab.dx jy] (.bk [.b true,.i 0]):=by
 have:=Tf x4 jy;rwa [T5,if_pos rfl,(Prod.mk.inj T4).1] at this
def ajf:aG prog 9 [ab.prog jx,ab.dx ED] (.bk [.b false,.i 0]):=by
 have:=Tf x4 ED;rwa [ai9,if_pos rfl,(Prod.mk.inj T4).2] at this
def ajg:aG prog 16 [ab.dx jy,ab.dx jy] (.b true):=by
 have:=Ki jy jy;rwa [EC.2 rfl] at this
def ajh(l:cW):aG prog 13 [ab.du l,ab.du l] (.b true):=by
 have:=TR l l;rwa [decide_eq_true rfl] at this
def aji(l:ak):aG prog 29 [ab.ints l,ab.ints l] (.b true):=by
 have:=EB l l;rwa [decide_eq_true rfl] at this
def ajj(l:List ak):aG prog 30 [ab.bm l,ab.bm l] (.b true):=by
 have:=TS l l;rwa [decide_eq_true rfl] at this
def ajk:aG prog 8 [] (.b true):=by
 intro H;refine aM (n:=117) func8 λB I a=>?_;refine aP ?_;refine ag (ad.call .k (ai8)) ?_;refine bK (λkf=>?_);refine ax ?_;refine ag (ad.call .k (aja)) ?_;refine aF ?_;refine bK (λtb=>?_);refine aT ?_;refine bP 2 117 ?_;refine aR ?_;refine bg (ad.call .k (x3)) ?_;refine aO ?_;refine ag (ad.call .k (ajb)) ?_;refine ax ?_;refine b0.dG 4 7 117 rfl aq rfl rfl aq ?_;refine ba ?_;refine bP 3 117 ?_;refine aR ?_;refine bg (ad.call .k (x3)) ?_;refine bg (ad.row rfl rfl cC rfl rfl rfl rfl rfl rfl) ?_;refine aO ?_;refine ag (ad.call .k (ajc)) ?_;refine ax ?_;refine b0.dG 5 10 117 rfl aq rfl rfl aq ?_;refine bR ?_;refine aB.cw mixed ?_;refine Xc ?_;refine b0.dG 11 13 117 rfl aq rfl rfl aq ?_;refine aR ?_;refine jJ (λaw=>ad.call .k (x3)) ?_;refine aO ?_;refine gb (λaw=>ad.call (.mk' rfl rfl rfl rfl c9) (ajg)) ?_;refine c4 ?_;refine b0.dG 17 19 117 rfl aq rfl rfl aq ?_;refine aR ?_;refine jJ (λaw=>ad.row rfl rfl cC rfl rfl rfl rfl rfl rfl) ?_;refine aO ?_;refine gb (λaw=>ad.call (.mk' rfl rfl rfl rfl c9) (ajh _)) ?_;refine c4 ?_;refine b0.dG 23 25 117 rfl aq rfl rfl aq ?_;refine aR ?_;refine jJ (λaw=>ad.row rfl rfl cC rfl rfl rfl rfl rfl rfl) ?_;refine aO ?_;refine gb (λaw=>ad.call (.mk' rfl rfl rfl rfl c9) (aji _)) ?_;refine c4 ?_;refine b0.dG 29 33 117 rfl aq rfl rfl aq ?_;refine aR ?_;refine jJ (λaw=>ad.row rfl rfl cC rfl rfl rfl rfl rfl rfl) ?_;refine jJ (λaw=>ad.row rfl rfl cC rfl rfl rfl rfl rfl rfl) ?_;refine jJ (λaw=>ad.row rfl rfl cC rfl rfl rfl rfl rfl rfl) ?_;refine aO ?_;refine gb (λaw=>ad.call (.mk' rfl rfl rfl rfl c9) (ajj _)) ?_;refine aY ?_;refine bc (λaf=>?_) (λaf=>?_)
 ·simp at af
 ·refine aF ?_;refine bP 3 117 ?_;refine aR ?_;refine bg (ad.call .k (x3)) ?_;refine bg (ad.row rfl rfl cC rfl rfl rfl rfl rfl rfl) ?_;refine aO ?_;refine ag (ad.call .k (ajd)) ?_;refine ax ?_;refine b0.dG 5 10 117 rfl aq rfl rfl aq ?_;refine bR ?_;refine ag (ad.call .k (x3)) ?_;refine bK (λfe=>?_);refine aT ?_;refine ag (ad.row rfl rfl cC rfl rfl rfl rfl rfl rfl) ?_;refine aI ?_;refine ag (ad.call .k (ajf)) ?_;refine aI ?_;refine bP 2 117 ?_;refine aR ?_;refine bg (ad.call .k (x3)) ?_;refine aO ?_;refine ag (ad.call .k (aje)) ?_;refine ax ?_;refine b0.dG 4 7 117 rfl aq rfl rfl aq ?_;refine W9 ?_;refine aC 0 (H) ?_;exact⟨cO,rfl⟩
def ajl(p:Prog):∃t e,(if(bw p).isSome then ab.bk [ab.dx (ue p (bh p)),.i 0] else .bk [ab.dx ⟨[],[],[],[]⟩,.i 2])= .bk [ab.dx t,.i e]:=by
 split
 ·exact⟨_,_,rfl⟩
 ·exact⟨_,_,rfl⟩
def ajm(t:cI):aG prog 16 [ab.dx t,ab.dx t] (.b true):=by
 have:=Ki t t;rwa [EC.2 rfl] at this
def ajn(c:p.Small):aG prog 4 [ab.prog p] (.b true):=by
 intro H;refine aM (n:=28) func4 λB I h=>?_;have f:=Ti c;have a:=ai3 c;obtain⟨t,e,g⟩:=ajl p;rw[g] at f a;refine ba ?_;refine ag (ad.call .k (f)) ?_;refine aF ?_;refine bK (λtb=>?_);refine aP ?_;refine ag (ad.call .k (a)) ?_;refine aF ?_;refine bK (λv7=>?_);refine aI ?_;refine ag (ad.call .k (ajm t)) ?_;refine ax ?_;refine gb (λaw=>ad.call .k (ajk)) ?_;refine aT ?_;refine aC 2 (H) ?_;exact⟨bq aS,rfl⟩
end Go.Proofs.YtodccgailpkgeaaGreat

