/- A part of the proof. No condition. -/
import Derived.Test.YtodccgailpkgeaaGreatKindClosesP25
set_option linter.defProp false
set_option maxHeartbeats 1000000
set_option linter.unusedVariables false
set_option linter.unusedSimpArgs false
set_option maxRecDepth 10000
namespace Go.Proofs.YtodccgailpkgeaaGreat
open Go.Proofs.Tryz
open Go.Eng
open Go.Eng.Fc
open Go.Eng.dO
variable{us:du}{ls:List cY}{n a b i j:Nat}{f g:Nat->Nat->Bool}{p:Prog}
def gD(us:du)(ls:List cY):aC:=(List.range ls.length).map λi=>.au (us.getD i default) 4 ((ls.getD i default).map ab.b)
abbrev m9(n u:Nat):ab:=.val (.slice (some ⟨u,0,none⟩) n n)
def ajE(us:du){ls:List cY}{k:Nat}(g:k<ls.length):∃A C,∀l,gD us (ls.set k l)=A++.au (us.getD k default) 4 (l.map ab.b)::C:=by
 have e:List.range ls.length=List.range k++k::(List.range' (k+1) (ls.length - k - 1)):=by
  have c:List.range' 0 k++List.range' (0+k) (ls.length - k)=List.range' 0 (k+(ls.length - k)):=List.range'_append_1;obtain⟨d,j⟩:∃d,ls.length - k=d+1:=⟨ls.length - k - 1,aa⟩;rw[show k+(ls.length - k)=ls.length by omega,Nat.zero_add,j,List.range'_succ] at c;rw[List.range_eq_range',List.range_eq_range', <-c,show ls.length - k - 1=d by omega]
 refine⟨(List.range k).map λi=>.au (us.getD i default) 4 ((ls.getD i default).map ab.b),(List.range' (k+1) (ls.length - k - 1)).map λi=>.au (us.getD i default) 4 ((ls.getD i default).map ab.b),λl=>?_⟩;unfold gD;rw[List.length_set,e,List.map_append,List.map_cons];have c:∀i,i≠k->(ls.set k l).getD i default=ls.getD i default:=λi a=>by rw[nM,if_neg (λh=>a h.1.symm)]
 have f:(ls.set k l).getD k default=l:=by rw[nM,if_pos ⟨rfl,g⟩]
 rw[f];congr 1
 ·exact List.map_congr_left λi a=>by rw[c i (by have:=List.mem_range.1 a;omega)]
 ·congr 1;exact List.map_congr_left λi a=>by rw[c i (by have:=List.mem_range'_1.1 a;omega)]
def Uv{f:Type}[Inhabited f]{a b:List f}{i:Nat}(h:i<a.length):(a++b).getD i default=a.getD i default:=by rw[List.getD_eq_getElem?_getD,List.getElem?_append_left h,List.getD_eq_getElem?_getD]
def Uw{f:Type}[Inhabited f]{a:List f}{x:f}{n:Nat}(h:n=a.length):(a++[x]).getD n default=x:=by subst h;rw[List.getD_eq_getElem?_getD,List.getElem?_append_right (Nat.le_refl _),Nat.sub_self];rfl
def ajF(c:us.length=ls.length)(u:Nat)(l:cY):gD (us++[u]) (ls++[l])=gD us ls++[.au u 4 (l.map ab.b)]:=by
 unfold gD;rw[List.length_append,List.length_singleton,List.range_succ,List.map_append,List.map_singleton];congr 1
 ·refine List.map_congr_left λi a=>?_;have a:=List.mem_range.1 a;rw[Uv aa,Uv a]
 ·rw[Uw c.symm,Uw rfl]
def KF{k:Nat}(a:k<ls.length): .au (us.getD k default) 4 ((ls.getD k default).map ab.b)∈gD us ls:=List.mem_map.2 ⟨k,List.mem_range.2 a,rfl⟩
def e2(n:Nat)(f:Nat->Nat->Bool):List cY:=(List.range n).map λa=>(List.range n).map (f a)
def qu(n:Nat)(f:Nat->Nat->Bool):(e2 n f).length=n:=by simp[e2]
def qB(h:a<n):(e2 n f).getD a default=(List.range n).map (f a):=po (λa=>(List.range n).map (f a)) h
def Ux(h:a<n)(c:b<n):((e2 n f).getD a default).getD b default=f a b:=by rw[qB h];exact po _ c
def wb(h:∀a,a<n->∀b,b<n->f a b=g a b):e2 n f=e2 n g:=
 List.map_congr_left λa c=>List.map_congr_left λb j=>h a (List.mem_range.1 c) b (List.mem_range.1 j)
def ajG(q:i<n)(r:j<n){v:Bool}(o:∀a,a<n->∀b,b<n->g a b=if a=i/\b=j then v else f a b):(e2 n f).set i (((e2 n f).getD i default).set j v)=e2 n g:=by
 refine qd (by rw[List.length_set,qu,qu]) λa l=>?_;rw[List.length_set,qu] at l;rw[nM,qu];by_cases e:i=a
 ·subst e;rw[if_pos ⟨rfl,l⟩,qB l,qB l];refine qd aT λb c=>?_;rw[List.length_set,List.length_map,List.length_range] at c;rw[nM,List.length_map,List.length_range,po _ c,po _ c,o i l b c];by_cases m:j=b
  ·subst m;rw[if_pos ⟨rfl,c⟩,if_pos ⟨rfl,rfl⟩]
  ·rw[if_neg (λh=>m h.1),if_neg (λh=>m h.2.symm)]
 ·rw[if_neg (λh=>e h.1),qB l,qB l];refine qd aT λb c=>?_;rw[List.length_map,List.length_range] at c;rw[po _ c,po _ c,o a l b c,if_neg (λh=>e h.1.symm)]
def Uy{i n u:Nat}(h:us.length=i):gD (us++[u]) (List.replicate (i+1) (List.replicate n false))=gD us (List.replicate i (List.replicate n false))++[.au u 4 (List.replicate n (ab.val (.bool false)))]:=by
 have e:List.replicate n (ab.val (.bool false))=(List.replicate n false).map ab.b:=by rw[List.map_replicate]
 rw[List.replicate_succ',ajF (by rw[h,List.length_replicate]),e]
def dr(p:Prog)(a b:Nat):Bool:=qt p a b && sW p a b
def upto(i j a b:Nat):Bool:=decide (a<i) || (a==i && decide (b<j))
def KG(i j a b:Nat):upto i (j+1) a b=(upto i j a b || (a==i && b==j)):=by
 unfold upto;rw[Bool.eq_iff_iff];simp only[Bool.or_eq_true,Bool.and_eq_true,decide_eq_true_eq,beq_iff_eq];omega
def Uz(c:b<n):upto i n a b=upto (i+1) 0 a b:=by
 unfold upto;rw[Bool.eq_iff_iff];simp only[Bool.or_eq_true,Bool.and_eq_true,decide_eq_true_eq,beq_iff_eq];omega
def UA(c:a<n):upto n 0 a b=true:=by
 unfold upto;simp only[Bool.or_eq_true,decide_eq_true_eq];exact .inl c
def UB(a b:Nat):upto 0 0 a b=false:=by
 unfold upto;simp
def ya(h:i<n):((List.range n).map λn:Nat=>(n:Int)).getD i default=(i:Int):=po (λn:Nat=>(n:Int)) h
def ajH(n:Nat):List.replicate n (List.replicate n false)=e2 n (λ_ _=>false):=by
 unfold e2;rw[List.map_const',List.map_const',List.length_range]
section
variable{c:Ctx}{r:Option Nat}{P:Program}{ops:Array Oper}{rest:cg}{o:Oper}{env:List (Nat×ab)}{Q:Exit->Act->World->Prop}
def UC{agg:Bool}{t tb b off:Nat}{q z:Operand}{cs ds:bl}{y:ab}{v s:Bool}{A0 C0 H H2:aC}[ht:cQ P t (agg,1)](j:o.guard=none)(E:o.dst=none)(h:o.op= .store t q z)(B:aO (aE env) q=some (v,.p b off))(a:v=true)(w:aO (aE env) z=some (s,y))(A:s=true)(x:fa y)(D:dG (cJ y))(l:Nat.beq (cJ y).length 1)(m:off<cs.length)
  (C:H=A0++.au b tb cs::C0) (hds:cs.take off++cJ y++cs.drop (off+1)=ds) (f:A0++.au b tb ds::C0=H2) (next:ai c r P ops rest ⟨env,H2⟩ Q):ai c r P ops (o::rest) ⟨env,H⟩ Q:=by
 subst C;subst f;exact ai.gb (tb:=tb) (cs:=cs) (ds:=ds) j E h B a w A x D l (bG.under A0) (Nat.ble_eq_true_of_le aa) hds next
end
def ajI(c:qt p i j):∀a,a<n->∀b,b<n->(upto i (j+1) a b && dr p a b)=if a=i/\b=j then sW p i j else (upto i j a b && dr p a b):=λa _ b _=>by
 rw[KG];by_cases e:a=i/\b=j
 ·obtain⟨rfl,rfl⟩:=e;rw[if_pos ⟨rfl,rfl⟩,beq_self_eq_true,beq_self_eq_true,dr,c];simp
 ·rw[if_neg e];have:(a==i && b==j)=false:=by
   rw[Bool.and_eq_false_iff,beq_eq_false_iff_ne,beq_eq_false_iff_ne];by_cases h:a=i
   ·exact .inr λak=>e ⟨h,ak⟩
   ·exact .inl h
  rw[this,Bool.or_false]
def ajJ(c:qt p i j=false):e2 n (λa b=>upto i (j+1) a b && dr p a b)=e2 n (λa b=>upto i j a b && dr p a b):=wb λa _ b _=>by
 rw[KG];by_cases e:a=i/\b=j
 ·obtain⟨rfl,rfl⟩:=e;rw[dr,c];simp
 ·have:(a==i && b==j)=false:=by
   rw[Bool.and_eq_false_iff,beq_eq_false_iff_ne,beq_eq_false_iff_ne];by_cases h:a=i
   ·exact .inr λak=>e ⟨h,ak⟩
   ·exact .inl h
  rw[this,Bool.or_false]
def ajK:∀a,a<n->∀b,b<n->(upto i (j+1) a b && (dr p a b && !dr p b a))=if a=i/\b=j then (bif dr p i j then !dr p j i else false) else (upto i j a b && (dr p a b && !dr p b a)):=λa _ b _=>by
 rw[KG];by_cases e:a=i/\b=j
 ·obtain⟨rfl,rfl⟩:=e;rw[if_pos ⟨rfl,rfl⟩,beq_self_eq_true,beq_self_eq_true];cases dr p a b <;> simp
 ·rw[if_neg e];have:(a==i && b==j)=false:=by
   rw[Bool.and_eq_false_iff,beq_eq_false_iff_ne,beq_eq_false_iff_ne];by_cases h:a=i
   ·exact .inr λak=>e ⟨h,ak⟩
   ·exact .inl h
  rw[this,Bool.or_false]
def UD(us:du){n:Nat}{f g:Nat->Nat->Bool}{i j:Nat}(c:i<n)(m:j<n){v:Bool}(l:∀a,a<n->∀b,b<n->g a b=if a=i/\b=j then v else f a b):∃A C,gD us (e2 n f)=A++.au (us.getD i default) 4 (((e2 n f).getD i default).map ab.b)::C/\gD us (e2 n g)=A++.au (us.getD i default) 4 ((((e2 n f).getD i default).set j v).map ab.b)::C:=by
 obtain⟨A,C,h⟩:=ajE us (ls:=e2 n f) (k:=i) (by rw[qu];exact c);refine⟨A,C,?_,?_⟩
 ·have:=h ((e2 n f).getD i default);rwa [(qe (by rw[qu];exact c)).2 rfl] at this
 ·rw[<-ajG c m l,h]
def UX{l:cY}(h:j<l.length)(v:Bool):(l.map ab.b).take j++cJ (.b v)++(l.map ab.b).drop (j+1)=(l.set j v).map ab.b:=by
 have:=Kh h v [];simpa using this
def UE(h:a<n)(c:b<n):(((e2 n f).getD a default).map ab.b)[b]? =some (.b (f a b)):=by
 rw[x7 (by rw[qB h];simpa using c),Ux h c]
def ajL(P:p.Small)(w:(bu p).isSome)(H:aC):bP prog 74 [ab.prog p,ab.ints ((List.range p.methods.length).map λn:Nat=>(n:Int))] H (λy H'=>∃ws:du,y= .aj 1 (ws.map λu=>[m9 p.methods.length u])/\H'=gD ws (e2 p.methods.length (λa b=>dr p a b && !dr p b a))++H/\ws.length=p.methods.length) (λ_ _=>False):=by
 refine aM (n:=126) func74 λB I bN=>?_;have S:=jY w;refine a8 ?_;refine ag (ad.call .k (vr P w)) ?_;refine bT (λda=>?_);refine aV ?_;refine eB 5 ?_;refine bS ?_;refine hi 6 28 1 ?_;refine hi 7 28 1 ?_;refine bm (λz o=>∃(i:Nat) (us ws:du) (v1 v2:Value),o=⟨[(8,.i i),(7,.as (.aj 1 (ws.map λu=>[m9 p.methods.length u])) v2),(6,.as (.aj 1 (us.map λu=>[m9 p.methods.length u])) v1),(5,.ptr (cB (bR p))),(2,.ptr (cH p)),(1,ab.ints ((List.range p.methods.length).map λn:Nat=>(n:Int)))],.own 28 1 v2::.own 28 1 v1::(gD us (List.replicate i (List.replicate p.methods.length false))++(gD ws (List.replicate i (List.replicate p.methods.length false))++H))⟩/\z=p.methods.length - i/\i<=p.methods.length/\us.length=i/\ws.length=i) (⟨0,[],[],_,_,rfl,rfl,aa,rfl,rfl⟩) ?_;rintro z _ ⟨i,us,ws,v1,v2,rfl,rfl,N,kF,h⟩;refine bQ ?_;refine az (λaf=>?_) λaf=>?_
 ·have bF:i<p.methods.length:=by omega
  refine bQ ?_;refine ai.pR (p.methods.length) rfl rfl rfl rfl rfl rfl rfl rfl (rfl) aa ia (λyb=>?_);refine ai.cc (x:=.aj 1 [[m9 p.methods.length yb]]) rfl rfl rfl (ad.row rfl rfl cD rfl rfl rfl rfl rfl rfl) ?_;refine ai.dJ rfl rfl rfl rfl rfl rfl rfl rfl (aq.refl _) (xQ (vs:=[.slice (some ⟨yb,0,none⟩) p.methods.length p.methods.length]) (by intro u v;simp at v;rw[v];rfl)) (λ_=>dt) cF cF (λv28=>?_);refine aJ ?_;refine ai.pR (p.methods.length) rfl rfl rfl rfl rfl rfl rfl rfl (rfl) aa ia (λbz=>?_);refine ai.cc (x:=.aj 1 [[m9 p.methods.length bz]]) rfl rfl rfl (ad.row rfl rfl cD rfl rfl rfl rfl rfl rfl) ?_;refine ai.dJ rfl rfl rfl rfl rfl rfl rfl rfl (aq.refl _) (xQ (vs:=[.slice (some ⟨bz,0,none⟩) p.methods.length p.methods.length]) (by intro u v;simp at v;rw[v];rfl)) (λ_=>dt) cF cF (λoL=>?_);refine aV ?_;have O:=Uy (n:=p.methods.length) (u:=yb) kF;have T:=Uy (n:=p.methods.length) (u:=bz) h;refine aA.perm (H':=.own 28 1 oL::.own 28 1 v28::(gD (us++[yb]) (List.replicate (i+1) (List.replicate p.methods.length false))++(gD (ws++[bz]) (List.replicate (i+1) (List.replicate p.methods.length false))++H))) (by rw[O,T];exact (show (.au bz 4 (List.replicate p.methods.length (ab.val (.bool false)))::.au yb 4 (List.replicate p.methods.length (ab.val (.bool false)))::.own 28 1 oL::.own 28 1 v28::(gD us (List.replicate i (List.replicate p.methods.length false))++(gD ws (List.replicate i (List.replicate p.methods.length false))++H)):aC).Perm _ from by classical exact List.perm_iff_count.2 λx=>by simp only[List.count_append,List.count_cons,List.count_nil,List.cons_append,List.nil_append];omega)) ?_;refine aS ?_;exact aU (⟨i+1,us++[yb],ws++[bz],v28,oL,by rw[List.map_append,List.map_append],rfl,bF,by simp[kF],by simp[h]⟩)
 ·obtain rfl:i=p.methods.length:=by omega
  refine aP ?_;refine aA.le 6 (y:=.aj 1 (us.map λu=>[m9 p.methods.length u])) rfl (aq.eY _ _) ?_;refine aA.le 7 (y:=.aj 1 (ws.map λu=>[m9 p.methods.length u])) rfl (aq.eY _ _) ?_;rw[ajH];refine aA.perm (H':=(gD us (e2 p.methods.length (λ_ _=>false))++(gD ws (e2 p.methods.length (λ_ _=>false))++(.own 28 1 v2::.own 28 1 v1::H)))) (show _ from by classical exact List.perm_iff_count.2 λx=>by simp only[List.count_append,List.count_cons,List.count_nil,List.cons_append,List.nil_append];omega) ?_;refine aS ?_;refine bm (λz o=>∃i:Nat,o=⟨[(9,.i i),(7,.aj 1 (ws.map λu=>[m9 p.methods.length u])),(6,.aj 1 (us.map λu=>[m9 p.methods.length u])),(5,.ptr (cB (bR p))),(2,.ptr (cH p)),(1,ab.ints ((List.range p.methods.length).map λn:Nat=>(n:Int)))],(gD us (e2 p.methods.length (λa b=>upto i 0 a b && dr p a b))++(gD ws (e2 p.methods.length (λ_ _=>false))++(.own 28 1 v2::.own 28 1 v1::H)))⟩/\z=p.methods.length - i/\i<=p.methods.length) (⟨0,by rw[wb (f:=(λa b=>upto 0 0 a b && dr p a b)) (g:=λ_ _=>false) (λa _ b _=>by rw[UB];rfl)],rfl,aa⟩) ?_;rintro z _ ⟨i,rfl,rfl,N⟩;refine aS ?_;refine ag (ad.le (ad.qy rfl rfl rfl) (aq.b6 (show _=((p.methods.length:Nat):Int) by simp))) ?_;refine aH ?_;refine az (λae=>?_) λae=>?_
  ·have bF:i<p.methods.length:=by omega
   refine bQ ?_;refine bm (λz o=>∃j:Nat,o=⟨[(10,.i j),(9,.i i),(7,.aj 1 (ws.map λu=>[m9 p.methods.length u])),(6,.aj 1 (us.map λu=>[m9 p.methods.length u])),(5,.ptr (cB (bR p))),(2,.ptr (cH p)),(1,ab.ints ((List.range p.methods.length).map λn:Nat=>(n:Int)))],(gD us (e2 p.methods.length (λa b=>upto i j a b && dr p a b))++(gD ws (e2 p.methods.length (λ_ _=>false))++(.own 28 1 v2::.own 28 1 v1::H)))⟩/\z=p.methods.length - j/\j<=p.methods.length) (⟨0,rfl,rfl,aa⟩) ?_;rintro z _ ⟨j,rfl,rfl,R⟩;refine aS ?_;refine ag (ad.le (ad.qy rfl rfl rfl) (aq.b6 (show _=((p.methods.length:Nat):Int) by simp))) ?_;refine aH ?_;refine az (λak=>?_) λak=>?_
   ·have dz:j<p.methods.length:=by omega
    refine aS ?_;refine b0 9 126 ?_;refine aH ?_;refine bh (uk) ?_;refine bh (ad.le (ad.cE rfl rfl rfl rfl) (aq.b6 (ya bF))) ?_;refine aQ ?_;refine bh (EZ) ?_;refine bh (ad.le (ad.cE rfl rfl rfl rfl) (aq.b6 (ya dz))) ?_;refine aQ ?_;refine ag (ad.call .k (ajD bF dz)) ?_;refine aQ ?_;refine bc (λaL=>?_) (λaL=>?_)
    ·have s:qt p i j=true:=aL;obtain⟨A0,C0,r,q⟩:=UD us bF dz (ajI (p:=p) (n:=p.methods.length) s);have J:=tH (A4 w bF).2;have M:=tH (A4 w dz).2;rw[r];refine b0 31 126 ?_;refine aH ?_;refine bh (uk) ?_;refine bh (ad.le (ad.cE rfl rfl rfl rfl) (aq.b6 (ya bF))) ?_;refine bh (K2) ?_;refine aH ?_;refine bh (EZ) ?_;refine bh (ad.le (ad.cE rfl rfl rfl rfl) (aq.b6 (ya dz))) ?_;refine aS ?_;refine bh (uk) ?_;refine bh (ad.le (ad.cE rfl rfl rfl rfl) (aq.b6 (ya bF))) ?_;refine aQ ?_;refine bh (ad.le (ad.qv rfl rfl rfl rfl) (show aq _ (ab.fact (cC p i).fact) from aq.refl _)) ?_;refine aV ?_;refine bh (EZ) ?_;refine bh (ad.le (ad.cE rfl rfl rfl rfl) (aq.b6 (ya dz))) ?_;refine aQ ?_;refine bh (ad.le (ad.qv rfl rfl rfl rfl) (show aq _ (ab.fact (cC p j).fact) from aq.refl _)) ?_;refine bh (ad.call .k (ahq (A4 w bF).1 J.1 M.1 aa aa)) ?_;refine aQ ?_;refine ag (ad.gX rfl rfl rfl rfl rfl aa) ?_;refine UC (off:=0+(j:Int).toNat*1) (cs:=((e2 p.methods.length (λa b=>upto i j a b && dr p a b)).getD i default).map ab.b) (ds:=(((e2 p.methods.length (λa b=>upto i j a b && dr p a b)).getD i default).set j (sW p i j)).map ab.b) (A0:=A0) (C0:=C0++(gD ws (e2 p.methods.length (λ_ _=>false))++(.own 28 1 v2::.own 28 1 v1::H))) rfl rfl rfl rfl rfl rfl rfl rfl rfl rfl (by rw[show 0+(j:Int).toNat*1=j by simp,qB bF];simpa using dz) (by rw[List.append_assoc,List.cons_append]) Li rfl ?_;refine aJ ?_;exact aU (⟨j+1,by rw[q,List.append_assoc,List.cons_append],rfl,dz⟩)
    ·have s:qt p i j=false:=aL;refine aJ ?_;exact aU (⟨j+1,by rw[ajJ s],rfl,dz⟩)
   ·obtain rfl:j=p.methods.length:=by omega
    rw[wb (f:=(λa b=>upto i p.methods.length a b && dr p a b)) (g:=(λa b=>upto (i+1) 0 a b && dr p a b)) (λa _ b K=>by rw[Uz K])];refine bA ?_;exact aU (⟨i+1,rfl,rfl,bF⟩)
  ·obtain rfl:i=p.methods.length:=by omega
   rw[wb (f:=(λa b=>upto p.methods.length 0 a b && dr p a b)) (g:=dr p) (λa L b _=>by rw[UA L,Bool.true_and])];refine bS ?_;refine bm (λz o=>∃i:Nat,o=⟨[(11,.i i),(7,.aj 1 (ws.map λu=>[m9 p.methods.length u])),(6,.aj 1 (us.map λu=>[m9 p.methods.length u])),(5,.ptr (cB (bR p))),(2,.ptr (cH p)),(1,ab.ints ((List.range p.methods.length).map λn:Nat=>(n:Int)))],(gD us (e2 p.methods.length (dr p))++(gD ws (e2 p.methods.length (λa b=>upto i 0 a b && (dr p a b && !dr p b a)))++(.own 28 1 v2::.own 28 1 v1::H)))⟩/\z=p.methods.length - i/\i<=p.methods.length) (⟨0,by rw[wb (f:=(λa b=>upto 0 0 a b && (dr p a b && !dr p b a))) (g:=λ_ _=>false) (λa _ b _=>by rw[UB];rfl)],rfl,aa⟩) ?_;rintro z _ ⟨i,rfl,rfl,N⟩;refine aS ?_;refine ag (ad.le (ad.qy rfl rfl rfl) (aq.b6 (show _=((p.methods.length:Nat):Int) by rw[h]))) ?_;refine aH ?_;refine az (λbo=>?_) λbo=>?_
   ·have bF:i<p.methods.length:=by omega
    refine bQ ?_;refine bm (λz o=>∃j:Nat,o=⟨[(12,.i j),(11,.i i),(7,.aj 1 (ws.map λu=>[m9 p.methods.length u])),(6,.aj 1 (us.map λu=>[m9 p.methods.length u])),(5,.ptr (cB (bR p))),(2,.ptr (cH p)),(1,ab.ints ((List.range p.methods.length).map λn:Nat=>(n:Int)))],(gD us (e2 p.methods.length (dr p))++(gD ws (e2 p.methods.length (λa b=>upto i j a b && (dr p a b && !dr p b a)))++(.own 28 1 v2::.own 28 1 v1::H)))⟩/\z=p.methods.length - j/\j<=p.methods.length) (⟨0,rfl,rfl,aa⟩) ?_;rintro z _ ⟨j,rfl,rfl,R⟩;refine aS ?_;refine ag (ad.le (ad.qy rfl rfl rfl) (aq.b6 (show _=((p.methods.length:Nat):Int) by rw[h]))) ?_;refine aH ?_;refine az (λcm=>?_) λcm=>?_
    ·have dz:j<p.methods.length:=by omega
     obtain⟨A0,C0,r,q⟩:=UD ws bF dz (ajK (p:=p) (n:=p.methods.length) (i:=i) (j:=j));have E:=KF (us:=us) (ls:=e2 p.methods.length (dr p)) (k:=i) (by rw[qu];exact bF);have D:=KF (us:=us) (ls:=e2 p.methods.length (dr p)) (k:=j) (by rw[qu];exact dz);have G:=UE (f:=dr p) bF dz;have F:=UE (f:=dr p) dz bF;rw[r];refine aV ?_;refine b0 22 126 ?_;refine aQ ?_;refine bh ((by first | exact ad.fC rfl rfl rfl rfl rfl (by rw[h];exact bF) | exact ad.ep rfl rfl rfl rfl rfl (by rw[h];exact bF))) ?_;refine aV ?_;refine bh (K2) ?_;refine aQ ?_;refine bh (ad.gX rfl rfl rfl rfl rfl aa) ?_;refine bh ((by apply ad.iv rfl rfl rfl;(case hm=>exact List.mem_append_left _ E);(case hy=>exact (show (_:bl)[0+(j:Int).toNat*1]? =_ by rw[show 0+(j:Int).toNat*1=j by simp];exact G)))) ?_;refine aH ?_;refine jS (λav=>(by first | exact ad.fC rfl rfl (cf av) rfl (cf av) (by rw[kF];exact dz) | exact ad.ep rfl rfl (cf av) rfl (cf av) (by rw[kF];exact dz))) ?_;refine aQ ?_;refine jS (λav=>ad.gX rfl rfl cU rfl cU aa) ?_;refine jS (λav=>(by apply ad.iv rfl rfl cU;(case hm=>exact List.mem_append_left _ D);(case hy=>exact (show (_:bl)[0+(i:Int).toNat*1]? =_ by rw[show 0+(i:Int).toNat*1=i by simp];exact F)))) ?_;refine aV ?_;refine ag (ad.gX rfl rfl rfl rfl rfl aa) ?_;refine UC (off:=0+(j:Int).toNat*1) (cs:=((e2 p.methods.length (λa b=>upto i j a b && (dr p a b && !dr p b a))).getD i default).map ab.b) (ds:=(((e2 p.methods.length (λa b=>upto i j a b && (dr p a b && !dr p b a))).getD i default).set j (bif dr p i j then !dr p j i else false)).map ab.b) (A0:=gD us (e2 p.methods.length (dr p))++A0) (C0:=C0++(.own 28 1 v2::.own 28 1 v1::H)) rfl rfl rfl rfl rfl rfl rfl rfl rfl rfl (by rw[show 0+(j:Int).toNat*1=j by simp,qB bF];simpa using dz) (by rw[List.append_assoc,List.append_assoc,List.cons_append]) Li (H2:=(gD us (e2 p.methods.length (dr p))++(gD ws (e2 p.methods.length (λa b=>upto i (j+1) a b && (dr p a b && !dr p b a)))++(.own 28 1 v2::.own 28 1 v1::H)))) (by rw[q];simp only[List.append_assoc,List.cons_append]) ?_;refine aJ ?_;exact aU (⟨j+1,rfl,rfl,dz⟩)
    ·obtain rfl:j=p.methods.length:=by omega
     rw[wb (f:=(λa b=>upto i p.methods.length a b && (dr p a b && !dr p b a))) (g:=(λa b=>upto (i+1) 0 a b && (dr p a b && !dr p b a))) (λa _ b K=>by rw[Uz K])];refine bA ?_;exact aU (⟨i+1,rfl,rfl,bF⟩)
   ·obtain rfl:i=p.methods.length:=by omega
    rw[wb (f:=(λa b=>upto p.methods.length 0 a b && (dr p a b && !dr p b a))) (g:=λa b=>dr p a b && !dr p b a) (λa L b _=>by rw[UA L,Bool.true_and])];refine bS ?_;refine aZ.cl (rs:=[.tmp 4]) (H':=gD ws (e2 p.methods.length (λa b=>dr p a b && !dr p b a))++H) rfl (.tmp rfl (.nil)) (c5.refl _) (by exact List.Sublist.trans (List.Sublist.append (List.Sublist.refl _) (List.Sublist.cons _ (List.sublist_cons_self _ _))) (List.sublist_append_right _ _)) ?_;exact⟨ws,rfl,rfl,h⟩
def a7.ajM{B:Nat}{I:cr}{w:World}{F Hx:aC}(hw:bY B I w)(aW:a7 B I w (F++Hx)):∃J,bY B J w/\Ext B I w J w/\a7 B J w Hx/\∀t b cs,br.au b t cs∈F->cs.length<=maxLen->Rel J w (.aj 1 (cs.map λx=>[x])) (.slice (some ⟨b,0,none⟩) cs.length cs.length):=by
 obtain⟨J,eF⟩:∃J:cr,J=λb o=>I b o\/((∃e∈F,e.dY=some b)/\∃c,w.cell? ⟨b,o,none⟩=some c):=⟨_,rfl⟩;have hr:er I w J w:=⟨λb o h=>by rw[eF];exact .inl h,λ_ _ _=>rfl⟩;refine⟨J,⟨hw.base,λb o h=>by rw[eF] at h;exact h.elim (hw.there b o) And.right⟩,⟨hr.ix,hr.cell,Go.RowKit.Below.refl _ _⟩,?_,λt dN cs hm ajN=>?_⟩
 ·refine⟨λf b7=>br.bw (aW.ok f (List.mem_append_right _ b7)) hr (λ_ _=>rfl) (λb ba o bb=>?_),(List.pairwise_append.1 aW.apart).2.1⟩;rw[eF] at bb;rcases bb with bb | ⟨⟨e,he,ajO⟩,_⟩
  ·exact bb
  ·exact absurd ba ((List.pairwise_append.1 aW.apart).2.2 e he f b7 b ajO)
 ·have hO:=aW.ok _ (List.mem_append_left Hx hm);have ajP:br.ok B I w (.row t 1 (.slice (some ⟨dN,0,none⟩) cs.length cs.length) cs.length cs):=br.Gl (more:=[]) (Nat.le_refl _) ajN aT aT (by rw[List.append_nil];exact hO);obtain⟨K,ae,ak,aL,bo⟩:=za (els:=cs.map λx=>[x]) (by rw[List.length_map,zx];exact ajP) (λx aK=>by obtain⟨y,_,rfl⟩:=List.mem_map.1 aK;rfl);refine bo.bw ⟨λb o ba=>?_,λ_ _ _=>rfl⟩;rw[eF];rcases ak b o ba with q | q
  ·exact .inl q
  ·rcases aL b o ba with fc | fc
   ·exact .inl fc
   ·exact .inr ⟨⟨_,hm,q⟩,fc⟩
def s0(p:Prog):List cY:=e2 p.methods.length (λa b=>dr p a b && !dr p b a)
def ajQ(p:Prog)(a b:Nat):qt p a b=qt p b a:=by unfold qt;rw[Bool.beq_comm,Bool.beq_comm (a:=(cC p a).kind)]
def UF(p:Prog):wa p (s0 p):=⟨qu _ _,λm c=>by rw[s0,qB c];simp,λm o c f h g=>by
 have a:qt p m o=true:=by unfold qt;rw[h,g,beq_self_eq_true,beq_self_eq_true];rfl
 rw[s0,Ux c f,dr,dr,a,ajQ,a,bk];simp⟩
def ajR(G:p.Small)(A:(bu p).isSome):aI prog 74 [ab.prog p,ab.ints ((List.range p.methods.length).map λn:Nat=>(n:Int))] (ab.gz (s0 p)):=λH=>by
 refine bP.pS (ajL G A H) ?_;rintro _ _ ⟨m,rfl,rfl,t⟩ B I w v K N M;obtain⟨J,P,D,O,R⟩:=a7.ajM (F:=gD m (s0 p)) K N;have L:=jY A;refine⟨J,_,H,P,D,O,(M.bw D.keeps).CG (by rw[List.length_map,List.length_map,s0,qu,t]) λi x y f h=>?_,rfl,rfl⟩;rw[List.getElem?_map] at f h;cases aN:(s0 p)[i]? with
 | none=>rw[aN] at h;cases h
 | some l=>
  have a:=(List.getElem?_eq_some_iff.1 aN).1;have C:(s0 p).getD i default=l:=by rw[List.getD_eq_getElem?_getD,aN];rfl
  have j:i<p.methods.length:=by rw[s0,qu] at a;exact a
  have g:l.length=p.methods.length:=by rw[<-C];exact (UF p).rows i j
  cases bd:m[i]? with
  | none=>rw[bd] at f;cases f
  | some u=>
   have z:m.getD i default=u:=by rw[List.getD_eq_getElem?_getD,bd];rfl
   rw[aN] at h;rw[bd] at f;cases f;cases h;refine⟨rfl,λb o q=>?_⟩;cases q with
   | cons _ _ _ c _ r s f Q=>
    refine .cons _ _ _ c _ r s ?_ (by cases Q;exact .nil _ _);rw[bZ f];have E:=KF (us:=m) a;rw[C,z] at E;have:=R _ _ _ E (by rw[List.length_map,g];simp only[maxLen];omega);rw[List.length_map,g,List.map_map] at this;exact this
def ajS(c:(bu p).isSome){t:cv}(h:bf p t):Bf (fR p (bk p) t).t t= !(fR p (bk p) t).ch:=by
 cases a1:(fR p (bk p) t).ch with
 | false=>rw[TQ c (bk p) h a1];exact KE.2 rfl
 | true=>
  have f:=(Kp c (bk p) h).ch.1 a1;have a:(fR p (bk p) t).t≠t:=f.resolve_left aT;rw[Bool.not_true, <-Bool.not_eq_true,KE];exact a
def ajT(bV:p.Small){t:cv}(aD:(bu p).isSome)(ht:bf p t):aI prog 36 [ab.prog p,ab.dI t] (.b (x9 p t)):=by
 intro H;refine aM (n:=14) func36 λB I bN=>?_;refine aJ ?_;refine aA.cu mixed ?_;refine bW.dk 0 8 14 rfl ao rfl rfl ao ?_;refine aV ?_;refine ed.cc rfl rfl rfl (ad.call .k (ajB aD)) ?_;refine ed.cc rfl rfl rfl (ad.call .k (ajR bV aD)) ?_;refine ed.cc rfl rfl rfl (ad.call .k (ajy bV aD ht (UF p))) ?_;refine aH ?_;refine ag (ad.call .k (Uu _ _)) ?_;refine aV ?_;refine aB 4 (H) ?_;exact⟨bn (ajS aD ht),rfl⟩
def ajU(bV:p.Small)(t:cv):aI prog 10 [ab.prog p,ab.dI t] (if ij p t then .bj [.b (x9 p t),.i 0] else .bj [.b false,.i 2]):=by
 intro H;refine aM (n:=18) func10 λB I bN=>?_;refine bS ?_;refine ag (ad.call .k (Qg bV)) ?_;refine aV ?_;refine ai.cG rfl rfl rfl rfl rfl rfl (λav=>ad.call (.mk' rfl rfl rfl rfl cU) (QP (by simpa using av) t)) ?_;refine aV ?_;rw[QR];refine aA.cond rfl (λaf=>?_) (λaf=>?_)
 ·have af:ij p t=false:=by rwa [Bool.not_eq_true'] at af
  rw[af];refine aJ ?_;refine dM [.tmp 4,.tmp 5] (H) ?_;exact⟨cM,rfl⟩
 ·have af:ij p t=true:=by simpa [ij] using af
  have aD:(bu p).isSome=true:=by rw[ij,Bool.and_eq_true] at af;exact af.1
  have ht:h5 p t=true:=by rw[ij,Bool.and_eq_true] at af;exact af.2
  rw[af,if_pos rfl];refine ay ?_;refine ag (ad.call .k (ajT bV aD (Rr.1 ht))) ?_;refine aS ?_;refine dM [.tmp 4,.tmp 5] (H) ?_;exact⟨cM,rfl⟩
def jF:Prog:=⟨[⟨[],[0],[(0,7)]⟩,⟨[3],[],[]⟩],1,[1],[⟨1,0,.mk 2 0 [] 3 0 [],0⟩,⟨1,0,.mk 2 0 [] 4 0 [],2⟩],[⟨4,0,[1]⟩,⟨3,0,[]⟩,⟨18,0,[]⟩,⟨5,0,[4]⟩,⟨6,4,[]⟩],3⟩
def jG:cv:=⟨[true,true],[[16],[16]],[2,16,2,2,16],[2]⟩
def EM:cv:=⟨[true,false],[[16],[16]],[2,16,2,2,16],[2]⟩
def ajV:(bu jF).isSome=true:=by kernel_rfl
def ajW:A7 jF (bk jF)=jG:=by kernel_rfl
def UG:(x9 jF jG,x9 jF EM)=(true,false):=by kernel_rfl
def ajX:DU jF jG= [true,true,true,true,true]:=by kernel_rfl
def ajY:eK jF jG 0 [30]= [(0,[24]),(1,[16])]:=by kernel_rfl
def ajZ:aI prog 26 [.i 4] (ab.prog jF):=by
 intro H;refine aM (n:=26) func26 λB I a=>?_;refine aQ ?_;refine bT (λdg=>?_);refine aV ?_;refine ag (ad.row rfl rfl cD rfl rfl rfl rfl rfl rfl) ?_;refine aR ?_;refine ag (ad.row rfl rfl cD rfl rfl rfl rfl rfl rfl) ?_;refine aR ?_;refine ag (ad.row rfl rfl cD rfl rfl rfl rfl rfl rfl) ?_;refine aR ?_;refine ag (ad.row rfl rfl cD rfl rfl rfl rfl rfl rfl) ?_;refine ag (ad.row rfl rfl cD rfl rfl rfl rfl rfl rfl) ?_;refine aV ?_;refine ag (ad.row rfl rfl cD rfl rfl rfl rfl rfl rfl) ?_;refine ag (ad.row rfl rfl cD rfl rfl rfl rfl rfl rfl) ?_;refine aH ?_;refine ag (ad.row rfl rfl cD rfl rfl rfl rfl rfl rfl) ?_;refine aH ?_;refine ag (ad.row rfl rfl cD rfl rfl rfl rfl rfl rfl) ?_;refine aS ?_;refine aZ.cl (rs:=[.cell 2 27]) (H':=H) rfl (s4) (.cons ((aq.agg (.cons (aq.aj (.cons (.cons (aq.nil 1) (.cons (.refl _) (.cons (.refl _) (.nil)))) (.cons (.cons (.refl _) (.cons (aq.nil 1) (.cons (aq.nil 2) (.nil)))) (.nil)))) (.cons (.refl _) (.cons (.refl _) (.cons (aq.aj (.cons (.cons (.refl _) (.cons (.refl _) (.cons (.refl _) (.cons (.refl _) (.cons (aq.nil 1) (.cons (.refl _) (.cons (.refl _) (.cons (aq.nil 6) (.cons (.refl _) (.nil)))))))))) (.cons (.cons (.refl _) (.cons (.refl _) (.cons (.refl _) (.cons (.refl _) (.cons (aq.nil 1) (.cons (.refl _) (.cons (.refl _) (.cons (aq.nil 6) (.cons (.refl _) (.nil)))))))))) (.nil)))) (.cons (aq.aj (.cons (.cons (.refl _) (.cons (.refl _) (.cons (.refl _) (.nil)))) (.cons (.cons (.refl _) (.cons (.refl _) (.cons (aq.nil 1) (.nil)))) (.cons (.cons (.refl _) (.cons (.refl _) (.cons (aq.nil 1) (.nil)))) (.cons (.cons (.refl _) (.cons (.refl _) (.cons (.refl _) (.nil)))) (.cons (.cons (.refl _) (.cons (.refl _) (.cons (aq.nil 1) (.nil)))) (.nil))))))) (.cons (.refl _) (.nil))))))):aq _ (ab.prog jF))) .nil) bE ?_;exact⟨cM,rfl⟩
def yc:aI prog 27 [] (ab.dI jG):=by
 intro H;refine aM (n:=8) func27 λB I a=>?_;refine aQ ?_;refine bT (λdg=>?_);refine aV ?_;refine ag (ad.row rfl rfl cD rfl rfl rfl rfl rfl rfl) ?_;refine ag (ad.row rfl rfl cD rfl rfl rfl rfl rfl rfl) ?_;refine ag (ad.row rfl rfl cD rfl rfl rfl rfl rfl rfl) ?_;refine ag (ad.row rfl rfl cD rfl rfl rfl rfl rfl rfl) ?_;refine ag (ad.row rfl rfl cD rfl rfl rfl rfl rfl rfl) ?_;refine ag (ad.row rfl rfl cD rfl rfl rfl rfl rfl rfl) ?_;refine aS ?_;refine dM [.cell 0 31] (H) ?_;exact⟨cM,rfl⟩
def yd:jF.Small:=⟨c8,c8⟩
def UH:ij jF jG=true:=by kernel_rfl
def aj0:ij jF EM=true:=by kernel_rfl
def aj1:aI prog 14 [ab.prog jF] (.bj [ab.dI jG,.i 0]):=by
 have:=aim yd;rwa [ajV,if_pos rfl,ajW] at this
def aj2:aI prog 11 [ab.prog jF,ab.dI jG] (.bj [ab.dy [true,true,true,true,true],.i 0]):=by
 have:=Rp yd jG;rwa [vD,UH,if_pos rfl,ajX] at this
def aj3:aI prog 28 [ab.prog jF,ab.dI jG,.i 0,ab.ints [30]] (.bj [ab.ints [0,1],ab.bp [[24],[16]],.i 0]):=by
 have:=adm yd jG 0 [30];rwa [vB,if_pos (show sB jF jG 0 [30]=true by kernel_rfl),ajY] at this
def aj4:aI prog 31 [ab.prog jF,ab.dI jG,.i 0,ab.ints [1]] (.bj [.b false,.b true,.i 0]):=by
 have:=acO yd jG 0 [1];rwa [vz,if_pos (show sA jF jG 0 [1]=true by kernel_rfl),show (cX jF jG [1] (jF.methods.getD (0:Int).toNat default).fact)=(false,true) by kernel_rfl] at this
def aj5:aI prog 9 [ab.prog jF,ab.dI jG] (.bj [.b true,.i 0]):=by
 have:=Ks yd jG;rwa [UH,if_pos rfl,(Prod.mk.inj UG).1] at this
def aj6:aI prog 9 [ab.prog jF,ab.dI EM] (.bj [.b false,.i 0]):=by
 have:=Ks yd EM;rwa [aj0,if_pos rfl,(Prod.mk.inj UG).2] at this
def aj7:aI prog 16 [ab.dI jG,ab.dI jG] (.b true):=by
 have:=Uu jG jG;rwa [KE.2 rfl] at this
def UI(l:cY):aI prog 13 [ab.dy l,ab.dy l] (.b true):=by
 have:=Us l l;rwa [decide_eq_true rfl] at this
def aj8(l:al):aI prog 29 [ab.ints l,ab.ints l] (.b true):=by
 have:=EL l l;rwa [decide_eq_true rfl] at this
def aj9(l:List al):aI prog 30 [ab.bp l,ab.bp l] (.b true):=by
 have:=Ut l l;rwa [decide_eq_true rfl] at this
def UJ:aI prog 8 [] (.b true):=by
 intro H;refine aM (n:=117) func8 λB I a=>?_;refine aP ?_;refine ag (ad.call .k (ajZ)) ?_;refine bT (λks=>?_);refine ay ?_;refine ag (ad.call .k (aj1)) ?_;refine aH ?_;refine bT (λtb=>?_);refine aS ?_;refine b0 2 117 ?_;refine aR ?_;refine bh (ad.call .k (yc)) ?_;refine aQ ?_;refine ag (ad.call .k (aj2)) ?_;refine ay ?_;refine bW.dk 4 7 117 rfl ao rfl rfl ao ?_;refine a8 ?_;refine b0 3 117 ?_;refine aR ?_;refine bh (ad.call .k (yc)) ?_;refine bh (ad.row rfl rfl cD rfl rfl rfl rfl rfl rfl) ?_;refine aQ ?_;refine ag (ad.call .k (aj3)) ?_;refine ay ?_;refine bW.dk 5 10 117 rfl ao rfl rfl ao ?_;refine bS ?_;refine aA.cu mixed ?_;refine XP ?_;refine bW.dk 11 13 117 rfl ao rfl rfl ao ?_;refine aR ?_;refine jS (λav=>ad.call .k (yc)) ?_;refine aQ ?_;refine gw (λav=>ad.call (.mk' rfl rfl rfl rfl cU) (aj7)) ?_;refine c6 ?_;refine bW.dk 17 19 117 rfl ao rfl rfl ao ?_;refine aR ?_;refine jS (λav=>ad.row rfl rfl cD rfl rfl rfl rfl rfl rfl) ?_;refine aQ ?_;refine gw (λav=>ad.call (.mk' rfl rfl rfl rfl cU) (UI _)) ?_;refine c6 ?_;refine bW.dk 23 25 117 rfl ao rfl rfl ao ?_;refine aR ?_;refine jS (λav=>ad.row rfl rfl cD rfl rfl rfl rfl rfl rfl) ?_;refine aQ ?_;refine gw (λav=>ad.call (.mk' rfl rfl rfl rfl cU) (aj8 _)) ?_;refine c6 ?_;refine bW.dk 29 33 117 rfl ao rfl rfl ao ?_;refine aR ?_;refine jS (λav=>ad.row rfl rfl cD rfl rfl rfl rfl rfl rfl) ?_;refine jS (λav=>ad.row rfl rfl cD rfl rfl rfl rfl rfl rfl) ?_;refine jS (λav=>ad.row rfl rfl cD rfl rfl rfl rfl rfl rfl) ?_;refine aQ ?_;refine gw (λav=>ad.call (.mk' rfl rfl rfl rfl cU) (aj9 _)) ?_;refine aV ?_;refine bc (λaf=>?_) (λaf=>?_)
 ·simp at af
 ·refine aH ?_;refine b0 3 117 ?_;refine aR ?_;refine bh (ad.call .k (yc)) ?_;refine bh (ad.row rfl rfl cD rfl rfl rfl rfl rfl rfl) ?_;refine aQ ?_;refine ag (ad.call .k (aj4)) ?_;refine ay ?_;refine bW.dk 5 10 117 rfl ao rfl rfl ao ?_;refine bS ?_;refine ag (ad.call .k (yc)) ?_;refine bT (λff=>?_);refine aS ?_;refine ag (ad.row rfl rfl cD rfl rfl rfl rfl rfl rfl) ?_;refine aJ ?_;refine ag (ad.call .k (aj6)) ?_;refine aJ ?_;refine b0 2 117 ?_;refine aR ?_;refine bh (ad.call .k (yc)) ?_;refine aQ ?_;refine ag (ad.call .k (aj5)) ?_;refine ay ?_;refine bW.dk 4 7 117 rfl ao rfl rfl ao ?_;refine XM ?_;refine aB 0 (H) ?_;exact⟨cM,rfl⟩
def aka(p:Prog)(t:cv):∃b e,(if ij p t then ab.bj [.b (x9 p t),.i 0] else .bj [.b false,.i 2])= .bj [.b b,.i e]:=by
 split
 ·exact⟨_,_,rfl⟩
 ·exact⟨_,_,rfl⟩
def akb(p:Prog)(t:cv):∃l e,vD p t= .bj [ab.dy l,.i e]:=by
 unfold vD;split
 ·exact⟨_,_,rfl⟩
 ·exact⟨_,_,rfl⟩
def akc(bV:p.Small)(t:cv):aI prog 3 [ab.prog p,ab.dI t] (.b true):=by
 intro H;refine aM (n:=61) func3 λB I bN=>?_;have ae:=Ks bV t;have ak:=ajU bV t;obtain⟨b,e,he⟩:=aka p t;rw[he] at ae ak;have aL:=Rp bV t;have bo:=adV bV t;obtain⟨l,bJ,akd⟩:=akb p t;rw[akd] at aL bo;refine bA ?_;refine ag (ad.call .k (ac1 t)) ?_;refine aQ ?_;refine aA.cond rfl (λaf=>?_) (λaf=>?_)
 ·refine aQ ?_;refine ag (ad.call .k (UJ)) ?_;refine aS ?_;refine aB 4 (H) ?_;exact⟨cM,rfl⟩
 ·refine ay ?_;refine ag (ad.call .k (ae)) ?_;refine bA ?_;refine ag (ad.call .k (ak)) ?_;refine bA ?_;refine ag (ad.call .k (aL)) ?_;refine bA ?_;refine ag (ad.call .k (bo)) ?_;refine iY ?_;refine ai.cG rfl rfl rfl rfl rfl rfl (λav=>ad.call (.mk' rfl rfl rfl rfl cU) (UI l)) ?_;refine aP ?_;refine ai.cG rfl rfl rfl rfl rfl rfl (λav=>ad.call .k (UJ)) ?_;refine aS ?_;refine aB 4 (H) ?_;exact⟨bn aT,rfl⟩
end Go.Proofs.YtodccgailpkgeaaGreat

