/- Part 15 of the proof: contracts of functions of the program and what they need. No condition beyond those that each theorem names. -/
import Derived.Test.YtpgnjlngepfanaaGreatImageLoadsP14
set_option maxHeartbeats 1000000
set_option linter.unusedVariables false
namespace Go.Eng.Bd
open Go.Eng.Fc
open Go.Eng.Im (U8 numberR manyR sumR splitR Sec)
variable{σ α:Type}{l l' r:List U8}
theorem thenR_inv{σ α β:Type}{R:Rd σ α}{k:α->Rd σ β}{s s':σ}{x:β}(h:thenR R k s l=some (x,s',l')):∃a s1 l1,R s l=some (a,s1,l1)/\k a s1 l1=some (x,s',l'):=by
 unfold thenR at h;split at h
 ·cases h
 ·rename_i a s1 l1 h1;exact⟨a,s1,l1,h1,h⟩
theorem needR_inv{b:Bool}{R:Rd σ α}{s s':σ}{x:α}(h:needR b R s l=some (x,s',l')):b=true/\R s l=some (x,s',l'):=by
 unfold needR at h;split at h
 ·rename_i h1;exact⟨h1,h⟩
 ·cases h
theorem byte_val(x:U8):Im.byteOf x.val=x:=by
 apply Fin.ext;show x.val%256=x.val;have:=x.isLt;omega
theorem numR_inv0:∀(g:Nat) (first:Bool) (l:List U8) (n:Nat) (r:List U8),Im.numR g first l=some (n,r)->l=numW n++r/\(first=false->0<n)
 | 0,_,_,_,_,h=>by simp[Im.numR] at h
 | g+1,first,[],n,r,h=>by simp[Im.numR] at h
 | g+1,first,x::l,n,r,h=>by
  rw[Im.numR] at h;split at h
  ·rename_i hx;split at h
   ·rename_i hf;cases h;refine⟨by rw[numW_lt hx,byte_val];rfl,λhff=>?_⟩;rw[hff] at hf;simpa using hf
   ·cases h
  ·rename_i hx;split at h
   ·rename_i m r' hm;cases h;obtain⟨h1,h2⟩:=numR_inv0 g false l m r hm;have h2:=h2 rfl;have hxl:=x.isLt;have hge: ¬x.val - 128+128*m<128:=by omega
    refine⟨?_,λ_=>by omega⟩;rw[numW_ge hge,show (x.val - 128+128*m) / 128=m by omega,show (x.val - 128+128*m)%128+128=x.val by omega,byte_val,h1];rfl
   ·cases h
theorem number_inv{n:Nat}(h:numberR l=some (n,r)):l=numW n++r:=(numR_inv0 5 true l n r h).1
theorem many_inv{n:Nat}(h:manyR l=some (n,r)):l=numW n++r:=by
 unfold manyR at h;rcases hq:numberR l with _ | ⟨a,b⟩ <;> rw[hq] at h
 ·cases h
 ·simp only at h;split at h
  ·cases h;exact number_inv hq
  ·cases h
theorem num_inv{s s':σ}{x:Int}(h:numR s l=some (x,s',l')):l=numI x++l'/\0<=x:=by
 unfold numR at h;split at h
 ·cases h
 ·rename_i n r h1;cases h;exact⟨number_inv h1,Yc⟩
theorem int_inv{s s':σ}{x:Int}(h:intR s l=some (x,s',l')):l=intW x++l':=by
 obtain⟨a,s1,l1,h1,h2⟩:=thenR_inv h;cases h2;obtain⟨h3,h4⟩:=num_inv h1;rw[h3,intW,znOf];congr 2;split
 ·rw[if_pos Yc];omega
 ·rw[if_neg Yc];omega
def Inv(R:Rd σ α)(f:α->List U8):Prop:=∀s l x s' l',R s l=some (x,s',l')->l=f x++l'
theorem Inv.times{σ α:Type}{R:Rd σ α}{f:α->List U8}(hR:Inv R f):∀(n:Nat) (s:σ) (l:List U8) (ys:List α) (s':σ) (l':List U8),timesR R n s l=some (ys,s',l')->l=ys.flatMap f++l'/\ys.length=n
 | 0,s,l,ys,s',l',h=>by cases h;exact⟨rfl,rfl⟩
 | n+1,s,l,ys,s',l',h=>by
  rw[timesR] at h;split at h
  ·cases h
  ·rename_i a s1 l1 h2;split at h
   ·cases h
   ·rename_i b s2 l2 h3;cases h;obtain⟨h4,h5⟩:=Inv.times hR n _ _ _ _ _ h3;exact⟨by rw[hR _ _ _ _ _ h2,h4,List.flatMap_cons,List.append_assoc],by simp[h5]⟩
theorem Inv.list{R:Rd σ α}{f:α->List U8}(hR:Inv R f):Inv (listR R) (listW f):=λs l x s' l' h=>by
 obtain⟨n,s1,l1,h1,h2⟩:=thenR_inv h;unfold manyRd at h1;split at h1
 ·cases h1
 ·rename_i h3;cases h1;obtain⟨h4,h5⟩:=hR.times _ _ _ _ _ _ h2;rw[many_inv h3,h4,listW,h5,List.append_assoc]
theorem inv_num:Inv (numR (σ:=σ)) numI:=λs l x s' l' h=>(num_inv h).1
theorem inv_init:Inv (initR (σ:=σ)) initW:=λs l x s' l' h=>by
 obtain⟨a,s1,l1,h1,h⟩:=thenR_inv h;obtain⟨b,s2,l2,h2,h⟩:=thenR_inv h;cases h;rw[inv_num _ _ _ _ _ h1,int_inv h2,initW,List.append_assoc]
theorem inv_cls:Inv clsR clsW:=λs l x s' l' h=>by
 obtain⟨ps,s1,l1,h1,h⟩:=thenR_inv h;obtain⟨n,s2,l2,h2,h⟩:=thenR_inv h;obtain⟨h3,h⟩:=needR_inv h;obtain⟨is,s3,l3,h4,h⟩:=thenR_inv h;cases h;obtain⟨h5,h6⟩:=num_inv h2;rw[inv_num.list _ _ _ _ _ h1,h5,inv_init.list _ _ _ _ _ h4,clsW];have:(slotsFrom s2 n.toNat).length=n.toNat:=by simp[slotsFrom]
 simp only[this,List.append_assoc];rfl
theorem inv_fact:∀f,Inv (factR f) factW
 | 0,s,l,x,s',l',h=>by cases h
 | f+1,0,l,x,s',l',h=>by cases h
 | f+1,s+1,l,x,s',l',h=>by
  rw[factR] at h;obtain⟨op,s1,l1,h1,h⟩:=thenR_inv h;obtain⟨hop,h⟩:=needR_inv h;obtain⟨h2,h3⟩:=num_inv h1;rw[opR,Bool.and_eq_true,decide_eq_true_eq,decide_eq_true_eq] at hop;unfold factB at h;split at h
  ·rename_i e;obtain⟨a,s2,l2,h4,h⟩:=thenR_inv h;obtain⟨ps,s3,l3,h5,h⟩:=thenR_inv h;obtain⟨c,s4,l4,h6,h⟩:=thenR_inv h;cases h;rw[h2,inv_num _ _ _ _ _ h4,inv_num.list _ _ _ _ _ h5,inv_num _ _ _ _ _ h6,factW,factsW,leafW,if_pos e];simp only[List.append_assoc,List.append_nil]
  ·split at h
   ·rename_i e1 e;obtain⟨a,s2,l2,h4,h⟩:=thenR_inv h;obtain⟨ps,s3,l3,h5,h⟩:=thenR_inv h;obtain⟨c,s4,l4,h6,h⟩:=thenR_inv h;cases h;rw[h2,inv_num _ _ _ _ _ h4,inv_num.list _ _ _ _ _ h5,int_inv h6,factW,factsW,leafW,if_neg e1,if_pos e];simp only[List.append_assoc,List.append_nil]
   ·rename_i e1 e2;obtain⟨ks,s2,l2,h4,h⟩:=thenR_inv h;cases h;obtain⟨h5,h6⟩:=(inv_fact f).times _ _ _ _ _ _ h4;rw[h2,h5,factW,factsW_map,leafW,if_neg e1,if_neg e2];simp only[List.append_assoc,List.nil_append]
theorem inv_mth:Inv (mthR (σ:=σ)) mthW:=λs l x s' l' h=>by
 obtain⟨k,s1,l1,h1,h⟩:=thenR_inv h;obtain⟨g,s2,l2,h2,h⟩:=thenR_inv h;split at h
 ·cases h
 ·rename_i f s3 l3 h3;obtain⟨n,s4,l4,h4,h⟩:=thenR_inv h;cases h;rw[inv_num _ _ _ _ _ h1,inv_num _ _ _ _ _ h2,inv_fact 24 _ _ _ _ _ h3,inv_num _ _ _ _ _ h4,mthW];simp only[List.append_assoc]
theorem inv_nd(gens:List Int):Inv (ndR (σ:=σ) gens) ndW:=λs l x s' l' h=>by
 obtain⟨op,s1,l1,h1,h⟩:=thenR_inv h;obtain⟨_,h⟩:=needR_inv h;obtain⟨n,s2,l2,h2,h⟩:=thenR_inv h;rcases hk:kidsN gens op n with _ | k
 ·rw[hk] at h;cases h
 ·rw[hk] at h;obtain⟨ks,s3,l3,h3,h⟩:=thenR_inv h;cases h;obtain⟨h5,h6⟩:=inv_num.times _ _ _ _ _ _ h3;have h4:l1=ndN ⟨op,n,ks⟩++l2:=by
   unfold ndNR at h2;unfold ndN;split at h2
   ·rename_i e;rw[if_pos (by exact e)];exact int_inv h2
   ·rename_i e;split at h2
    ·rename_i e2;rw[if_neg (by exact e),if_pos (by exact e2)];exact (num_inv h2).1
    ·rename_i e2;rw[if_neg (by exact e),if_neg (by exact e2)];cases h2;rfl
  rw[inv_num _ _ _ _ _ h1,h4,h5,ndW];simp only[List.append_assoc]
theorem inv_prog{p:Prog}(h:progR l=some (p,l')):l=progW p++l':=by
 rcases h1:listR clsR 0 l with _ | ⟨cs,s,l1⟩
 ·rw[progR,h1] at h;cases h
 ·rw[progR_some h1] at h;obtain⟨q,h2,h3⟩:=Option.map_eq_some_iff.1 h;obtain⟨x,u,l2⟩:=q;cases h3;unfold progT at h2;obtain⟨gs,s1,l3,h4,h2⟩:=thenR_inv h2;obtain⟨ms,s2,l4,h5,h2⟩:=thenR_inv h2;obtain⟨ns,s3,l5,h6,h2⟩:=thenR_inv h2;obtain⟨m,s4,l6,h7,h2⟩:=thenR_inv h2;cases h2;rw[inv_cls.list _ _ _ _ _ h1,inv_num.list _ _ _ _ _ h4,inv_mth.list _ _ _ _ _ h5,(inv_nd gs).list _ _ _ _ _ h6,inv_num _ _ _ _ _ h7,progW];simp only[List.append_assoc]
end Go.Eng.Bd

set_option linter.unusedSimpArgs false
set_option maxRecDepth 10000
namespace Go.Proofs.YtpgnjlngepfanaaGreat
open Go.Eng
open Go.Eng.Fc
open Go.Eng.Bd
open Go.Eng.Im (U8 u8 u8s sumR splitR Sec numberR manyR)
end Go.Proofs.YtpgnjlngepfanaaGreat

namespace Go.Eng.Bd
open Go.Eng.Fc
open Go.Eng.Im (U8 numberR manyR sumR splitR Sec)
variable{n:Nat}{σ α:Type}
theorem byte_of(h:n<256):(Im.byteOf n).val=n:=by
 show n%256=n;omega
theorem numR_fwd:∀(g:Nat) (first:Bool) (n:Nat) (r:List U8),n<128^(g+1)->(first=true\/0<n)->Im.numR (g+1) first (numW n++r)=some (n,r)
 | g,first,n,r,hn,hf=>by
  by_cases h:n<128
  ·rw[numW_lt h,List.singleton_append,Im.numR,byte_of Yc,if_pos h,if_pos (by simp only[Bool.or_eq_true,decide_eq_true_eq];exact hf)]
  ·cases g with
   | zero=>omega
   | succ g=>
    rw[numW_ge h,List.cons_append,Im.numR,byte_of Yc,if_neg Yc,numR_fwd g false (n / 128) r (by rw[Nat.pow_succ] at hn;omega) (.inr Yc)];simp only;rw[show n%128+128 - 128+128*(n / 128)=n by omega]
theorem number_fwd(hn:n<=30000000000)(r:List U8):numberR (numW n++r)=some (n,r):=numR_fwd 4 true n r Yc (.inl rfl)
theorem num_fwd{n:Int}(hn:okN n)(s:σ)(r:List U8):numR s (numI n++r)=some (n,s,r):=by
 rw[numI,numR_some (number_fwd (by have:=hn.2;omega) r),Int.toNat_of_nonneg hn.1]
theorem int_fwd{n:Int}(hn:okZ n)(s:σ)(r:List U8):intR s (intW n++r)=some (n,s,r):=by
 obtain⟨q,hq⟩:∃q,q=(if n<0 then -2*n - 1 else 2*n):=⟨_,rfl⟩;have hqo:okN q:=by
  have h1:=hn.1;have h2:=hn.2;rw[hq];split <;> (unfold okN;omega)
 rw[intW, <-hq,intR,thenR_some (num_fwd hqo s r)];show some (znOf q,s,r)=_;rw[znOf,hq];congr 2;split <;> split <;> omega
theorem many_fwd{r:List U8}(hn:n<=30000000000)(h:n<=r.length):manyR (numW n++r)=some (n,r):=by
 unfold manyR;rw[number_fwd hn r];simp only;rw[if_pos h]
def okAll{σ α:Type}(next:σ->α->σ)(ok:σ->α->Prop):σ->List α->Prop
 | _,[]=>True
 | s,x::l=>ok s x/\okAll next ok (next s x) l
theorem times_fwd{σ α:Type}{R:Rd σ α}{f:α->List U8}{next:σ->α->σ}{ok:σ->α->Prop}(hR:∀s x r,ok s x->R s (f x++r)=some (x,next s x,r)):∀(l:List α) (s:σ) (r:List U8),okAll next ok s l->timesR R l.length s (l.flatMap f++r)=some (l,l.foldl next s,r)
 | [],s,r,_=>rfl
 | x::l,s,r,h=>by
  rw[List.length_cons,timesR,List.flatMap_cons,List.append_assoc,hR s x _ h.1];simp only;rw[times_fwd hR l (next s x) r h.2];rfl
theorem flat_ge{α:Type}{f:α->List U8}:∀{l:List α},(∀x∈l,0<(f x).length)->l.length<=(l.flatMap f).length
 | [],_=>Nat.le_refl _
 | x::l,h=>by
  rw[List.flatMap_cons,List.length_append,List.length_cons];have:=h x (.head _);have:=flat_ge (l:=l) λy hy=>h y (.tail _ hy);omega
theorem list_fwd{R:Rd σ α}{f:α->List U8}{next:σ->α->σ}{ok:σ->α->Prop}(hR:∀s x r,ok s x->R s (f x++r)=some (x,next s x,r))(hf:∀x,0<(f x).length){l:List α}(hl:l.length<=1000000){s:σ}(h:okAll next ok s l)(r:List U8):listR R s (listW f l++r)=some (l,l.foldl next s,r):=by
 rw[listR,thenR_some (a:=l.length) (s':=s) (l':=l.flatMap f++r)]
 ·exact times_fwd hR l s r h
 ·rw[manyRd,listW,List.append_assoc,many_fwd Yc (by rw[List.length_append];have:=flat_ge (l:=l) (f:=f) (λx _=>hf x);omega)]
theorem okAll_still{σ α:Type}{ok:α->Prop}:∀(l:List α) (s:σ),(∀x∈l,ok x)->okAll (λs _=>s) (λ_ x=>ok x) s l
 | [],s,_=>trivial
 | x::l,s,h=>⟨h x (.head _),okAll_still l s λy hy=>h y (.tail _ hy)⟩
theorem fold_still{σ α:Type}:∀(l:List α) (s:σ),l.foldl (λs _=>s) s=s
 | [],s=>rfl
 | x::l,s=>fold_still l s
theorem list_fwd0{R:Rd σ α}{f:α->List U8}{ok:α->Prop}(hR:∀s x r,ok x->R s (f x++r)=some (x,s,r))(hf:∀x,0<(f x).length){l:List α}(hl:l.length<=1000000)(h:∀x∈l,ok x)(s:σ)(r:List U8):listR R s (listW f l++r)=some (l,s,r):=by
 have:=list_fwd (next:=λs _=>s) (ok:=λ_ x=>ok x) hR hf hl (okAll_still l s h) r;rwa [fold_still] at this
theorem times_fwd0{R:Rd σ α}{f:α->List U8}{ok:α->Prop}(hR:∀s x r,ok x->R s (f x++r)=some (x,s,r)){l:List α}(h:∀x∈l,ok x)(s:σ)(r:List U8):timesR R l.length s (l.flatMap f++r)=some (l,s,r):=by
 have:=times_fwd (next:=λs _=>s) (ok:=λ_ x=>ok x) hR l s r (okAll_still l s h);rwa [fold_still] at this
theorem numI_pos(n:Int):0<(numI n).length:=numW_pos _
theorem pos_left{a b:List U8}(h:0<a.length):0<(a++b).length:=by rw[List.length_append];omega
theorem init_fwd{x:Int×Int}(h:okN x.1/\okZ x.2)(s:σ)(r:List U8):initR s (initW x++r)=some (x,s,r):=by
 rw[initR,initW,List.append_assoc,thenR_some (num_fwd h.1 s _),thenR_some (int_fwd h.2 s r)];rfl
theorem cls_fwd{s:Int}{c:Cls}(hc:okC c)(h4:c.slots.length<=4)(hs:c.slots=slotsFrom s c.slots.length)(r:List U8):clsR s (clsW c++r)=some (c,s+c.slots.length,r):=by
 have hl:=hc.pl;have hi:=hc.il;have e:clsW c++r=listW numI c.parents++(numI (c.slots.length:Int)++(listW initW c.inits++r)):=by
  rw[clsW];simp only[List.append_assoc];rfl
 rw[e,clsR,thenR_some (list_fwd0 (ok:=okN) (λs x r h=>num_fwd h s r) numI_pos Yc hc.ps s _),thenR_some (num_fwd YX s _),needR_yes (by rw[decide_eq_true_eq];omega)];show thenR (listR initR) _ _ _=_;rw[thenR_some (list_fwd0 (ok:=λx=>okN x.1/\okZ x.2) (λs x r h=>init_fwd h s r) (λx=>pos_left (numI_pos _)) Yc hc.is _ r)];show some (_,_,_)=_;rw[Int.toNat_natCast, <-hs]
mutual
def wfF:Fact->Prop
 | .mk op arg path cls n kids=>(1<=op/\op<=7)/\(op=2->n=0/\kids= [])/\(op=3\/op=4->cls=0/\kids= [])/\(¬(2<=op/\op<=4)->arg=0/\path= []/\cls=0/\n=0/\kids.length=kidCnt op)/\wfFs kids
def wfFs:List Fact->Prop
 | []=>True
 | f::r=>wfF f/\wfFs r
end
mutual
theorem node_wfF{w:Fc.FW}:∀(f:Fact) (left deep:Int),(nodeP w f left deep).1=true->wfF f
 | .mk op arg path cls n kids,left,deep,h=>by
  rw[nodeP] at h;by_cases h1:badP (.mk op arg path cls n kids) (left - 1) deep=true
  ·rw[if_pos h1] at h;cases h
  rw[if_neg h1] at h;have h2:badP (.mk op arg path cls n kids) (left - 1) deep=false:=by simpa using h1
  have h2:((¬left - 1<0/\¬op<1)/\¬op>7)/\(kids.length:Int)=kidsP op:=by
   rw[badP,Bool.or_eq_false_iff,Bool.or_eq_false_iff,Bool.or_eq_false_iff,Bool.or_eq_false_iff] at h2;exact⟨⟨⟨of_decide_eq_false h2.1.1.1.1,of_decide_eq_false h2.1.1.2⟩,of_decide_eq_false h2.1.2⟩,bne_eq_false_iff_eq.1 h2.2⟩
  obtain⟨⟨⟨hl0,ho1⟩,ho2⟩,hk⟩:=h2;rw[wfF];by_cases hl:leafP (.mk op arg path cls n kids)=true
  ·rw[if_pos hl,Bool.and_eq_true] at h;have hl:2<=op/\op<=4:=by rw[leafP,Bool.and_eq_true] at hl;exact⟨of_decide_eq_true hl.1,of_decide_eq_true hl.2⟩
   have hk0:kids= []:=by
    have:kidsP op=0:=by unfold kidsP;rw[if_neg Yc,if_neg Yc]
    exact List.eq_nil_of_length_eq_zero Yc
   have hle:leafOkP w (.mk op arg path cls n kids)=true:=h.2;refine⟨Yc,λe=>⟨?_,hk0⟩,λe=>⟨?_,hk0⟩,λe=>absurd hl e,by rw[hk0];trivial⟩
   ·rw[leafOkP,if_pos (by exact e),Bool.and_eq_true] at hle;exact beq_iff_eq.1 hle.1
   ·rw[leafOkP,if_neg (by show ¬op=2;omega),Bool.and_eq_true,Bool.and_eq_true] at hle;exact beq_iff_eq.1 hle.1.1
  ·rw[if_neg hl] at h;have hl':leafP (.mk op arg path cls n kids)=false:=by simpa using hl
   have hl': ¬(2<=op/\op<=4):=by intro hc;rw[show leafP (.mk op arg path cls n kids)=true by rw[leafP,Bool.and_eq_true];exact⟨decide_eq_true hc.1,decide_eq_true hc.2⟩] at hl';cases hl'
   by_cases hp:plainP (.mk op arg path cls n kids)=true
   ·rw[if_pos hp] at h;rw[plainP,Bool.not_eq_true',Bool.or_eq_false_iff,Bool.or_eq_false_iff,Bool.or_eq_false_iff] at hp;have p1:arg=0:=bne_eq_false_iff_eq.1 hp.1.1.1;have p2: ¬(path.length:Int)>0:=of_decide_eq_false hp.1.1.2;have p3:cls=0:=bne_eq_false_iff_eq.1 hp.1.2;have p4:n=0:=bne_eq_false_iff_eq.1 hp.2;refine⟨Yc,λe=>by omega,λe=>by omega,λ_=>⟨p1,List.eq_nil_of_length_eq_zero Yc,p3,p4,?_⟩,nodes_wfF kids _ _ h⟩;unfold kidsP at hk;unfold kidCnt;split <;> (try split) <;> simp_all <;> omega
   ·rw[if_neg hp] at h;cases h
theorem nodes_wfF{w:Fc.FW}:∀(l:List Fact) (left deep:Int),(nodesP w l left deep).1=true->wfFs l
 | [],left,deep,h=>trivial
 | k::r,left,deep,h=>by
  rw[nodesP] at h;by_cases hk:(nodeP w k left deep).1=true
  ·rw[if_pos hk] at h;rw[wfFs];exact⟨node_wfF k _ _ hk,nodes_wfF r _ _ h⟩
  ·rw[if_neg hk] at h;exact absurd h hk
end
theorem facts_all{f:Nat}:∀(l:List Fact) (s:Nat),okFs l->wfFs l->cntNs l<=s->s<=f->okAll (λs x=>s - cntN x) (λs x=>okF x/\wfF x/\cntN x<=s/\s<=f) s l/\l.foldl (λs x=>s - cntN x) s=s - cntNs l
 | [],s,_,_,_,_=>⟨trivial,by simp[cntNs]⟩
 | x::l,s,h1,h2,h3,h4=>by
  rw[okFs] at h1;rw[wfFs] at h2;rw[cntNs] at h3;obtain⟨h5,h6⟩:=facts_all (f:=f) l (s - cntN x) h1.2 h2.2 Yc Yc;exact⟨⟨⟨h1.1,h2.1,Yc,h4⟩,h5⟩,by rw[List.foldl_cons,h6,cntNs];omega⟩
theorem fact_fwd:∀(f:Nat) (x:Fact) (left:Nat) (r:List U8),okF x->wfF x->cntN x<=left->left<=f->factR f left (factW x++r)=some (x,left - cntN x,r)
 | 0,.mk op arg path cls n kids,left,r,ho,hw,hc,hl=>by rw[cntN] at hc;omega
 | f+1,.mk op arg path cls n kids,left,r,ho,hw,hc,hl=>by
  rw[cntN] at hc;obtain⟨k,rfl⟩:∃k,left=k+1:=⟨left - 1,Yc⟩;rw[wfF] at hw;obtain⟨w1,w2,w3,w4,w5⟩:=hw;have h1:=okF_iff ho;rw[okF] at ho;have e:factW (.mk op arg path cls n kids)++r=numI op++(leafW op arg path cls n++(kids.flatMap factW++r)):=by
   rw[factW,factsW_map];simp only[List.append_assoc]
  rw[e,factR,thenR_some (num_fwd ho.1 k _),needR_yes Ya4,factB,cntN];by_cases e2:op=2
  ·obtain⟨rfl,rfl⟩:=w2 e2;obtain⟨a1,a2,a3⟩:=ho.2.2.2.1 Yc;rw[if_pos e2,leafW,if_pos e2];simp only[List.append_assoc,List.flatMap_nil,List.nil_append];rw[thenR_some (num_fwd a1 k _),thenR_some (list_fwd0 (ok:=okN) (λs x r h=>num_fwd h s r) numI_pos Yc a3 k _),thenR_some (num_fwd (ho.2.1 e2) k r)];simp[doneR,cntNs]
  ·by_cases e3:op=3\/op=4
   ·obtain⟨rfl,rfl⟩:=w3 e3;obtain⟨a1,a2,a3⟩:=ho.2.2.2.1 Yc;rw[if_neg e2,if_pos e3,leafW,if_neg e2,if_pos e3];simp only[List.append_assoc,List.flatMap_nil,List.nil_append];rw[thenR_some (num_fwd a1 k _),thenR_some (list_fwd0 (ok:=okN) (λs x r h=>num_fwd h s r) numI_pos Yc a3 k _),thenR_some (int_fwd (ho.2.2.1 e3) k r)];simp[doneR,cntNs]
   ·obtain⟨rfl,rfl,rfl,rfl,hkl⟩:=w4 Yc;rw[if_neg e2,if_neg e3,leafW,if_neg e2,if_neg e3,List.nil_append, <-hkl];obtain⟨h5,h6⟩:=facts_all (f:=f) kids k ho.2.2.2.2 w5 Yc Yc;rw[thenR_some (times_fwd (λs x r h=>fact_fwd f x s r h.1 h.2.1 h.2.2.1 h.2.2.2) kids k r h5),h6];show some (_,_,_)=_;congr 3;omega
end Go.Eng.Bd

namespace Go.Proofs.YtpgnjlngepfanaaGreat
open Go.Eng
open Go.Eng.Fc
open Go.Eng.Bd
open Go.Eng.Im (U8 u8 u8s sumR splitR Sec numberR manyR)
open Go.Eng.Im (U8 u8 u8s sumR splitR)
open Go.Eng.Im (U8 u8 u8s sumR)
variable{p:Prog}
theorem mth_fwd{σ:Type}{x:Mth}(h:okM x)(hw:wfF x.fact)(hc:cntN x.fact<=24)(s:σ)(r:List U8):mthR s (mthW x++r)=some (x,s,r):=by
 rw[mthR,mthW];simp only[List.append_assoc];rw[thenR_some (num_fwd h.kind s _),thenR_some (num_fwd h.gen s _),fact_fwd 24 x.fact 24 _ h.fact hw hc (Nat.le_refl _)];simp only;rw[thenR_some (num_fwd h.node s r)];rfl
theorem kidsN_of{x:Nd}{next:Bool}{sz:Int}(hg:∀n∈p.gens,1<=n/\n<=3)(h:goodN p next x sz=true):kidsN p.gens x.op x.n=some (x.kids.length:Int)/\(1<=x.op/\x.op<=18)/\(x.op≠1->nodeNum x.op=false->x.n=0):=by
 simp only[goodN,Bool.and_eq_true] at h;obtain⟨⟨h1,_⟩,h2⟩:=h;have hnn:∀{o:Int},nodeNum o=false->o≠3/\o≠4/\o≠5/\o≠6/\o≠7/\o≠8:=λ{o} e=>by
  simp only[nodeNum,List.contains_eq_mem,decide_eq_false_iff_not,List.mem_cons,List.not_mem_nil,or_false,not_or] at e;exact e
 have h3:x.op≠1->nodeNum x.op=false->x.n=0:=λe1 e2=>by
  have e2:=hnn e2;rw[numP,if_neg e1,if_neg Yc,Bool.and_eq_true,decide_eq_true_eq,decide_eq_true_eq,mostP,if_neg Yc,if_neg Yc,if_neg Yc] at h1;omega
 refine⟨?_,?_,h3⟩
 ·unfold kidsN;unfold kindOf at h2;by_cases c1:x.op=5
  ·rw[if_pos c1] at h2;simp only[beq_iff_eq] at h2;rw[if_neg Yc,if_neg Yc,if_neg Yc,if_pos c1];rw[numP,if_neg Yc,if_neg Yc,Bool.and_eq_true,decide_eq_true_eq,decide_eq_true_eq,mostP,if_neg Yc,if_neg Yc,if_pos c1] at h1;have:=hg _ (getD_memB (l:=p.gens) (k:=x.n.toNat) Yc);rw[if_pos ⟨h1.2,this.2⟩, <-h2]
  ·rw[if_neg c1] at h2;by_cases c2:x.op=1\/x.op=2\/x.op=3\/x.op=6\/x.op=18
   ·rw[if_pos c2] at h2 ⊢;simp only[beq_iff_eq] at h2;rw[h2];rfl
   ·rw[if_neg c2] at h2 ⊢;by_cases c3:x.op=4\/x.op=8\/x.op=17
    ·rw[if_pos c3] at h2 ⊢;simp only[beq_iff_eq] at h2;rw[h2];rfl
    ·rw[if_neg c3] at h2 ⊢;by_cases c4:x.op=7\/x.op=9\/x.op=11\/x.op=12\/x.op=13\/x.op=14\/x.op=15\/x.op=16
     ·rw[if_pos c4] at h2;simp only[beq_iff_eq] at h2;rw[if_neg Yc,if_neg c1,h2];rfl
     ·rw[if_neg c4] at h2;by_cases c5:x.op=10
      ·rw[if_pos c5] at h2 ⊢;simp only[beq_iff_eq] at h2;rw[h2];rfl
      ·rw[if_neg c5] at h2;cases h2
 ·unfold kindOf at h2;split at h2
  ·cases h2
  ·rename_i e;split at e
   ·omega
   ·split at e
    ·simp at e
    ·split at e
     ·simp at e
     ·split at e
      ·simp at e
      ·split at e <;> simp at e
  ·rename_i k e;split at e
   ·simp at e
   ·split at e
    ·omega
    ·split at e
     ·omega
     ·split at e
      ·omega
      ·split at e
       ·omega
       ·simp at e
theorem nd_fwd{σ:Type}{gens:List Int}{x:Nd}(h:okNd x)(hk:kidsN gens x.op x.n=some (x.kids.length:Int))(ho:1<=x.op/\x.op<=18)(hn:x.op≠1->nodeNum x.op=false->x.n=0)(s:σ)(r:List U8):ndR gens s (ndW x++r)=some (x,s,r):=by
 have h1:∀r,ndNR x.op s (ndN x++r)=some (x.n,s,r):=λr=>by
  unfold ndNR ndN;by_cases e:x.op=1
  ·rw[if_pos e,if_pos e];exact int_fwd (h.i e) s r
  ·rw[if_neg e,if_neg e];by_cases e2:nodeNum x.op=true
   ·rw[if_pos e2,if_pos e2];exact num_fwd (h.n e2) s r
   ·rw[if_neg e2,if_neg e2,hn e (by simpa using e2)];rfl
 rw[ndR,ndW];simp only[List.append_assoc];rw[thenR_some (num_fwd h.op s _),needR_yes (by rw[Bool.and_eq_true];exact⟨decide_eq_true ho.1,decide_eq_true ho.2⟩),thenR_some (h1 _),hk];simp only;rw[Int.toNat_natCast,thenR_some (times_fwd0 (ok:=okN) (λs x r h=>num_fwd h s r) h.kids s r)];rfl
theorem slots1_from:∀(l:List Int) (n:Nat),slots1 l n=true->l=slotsFrom n l.length
 | [],n,_=>rfl
 | x::r,n,h=>by
  simp only[slots1,Bool.and_eq_true,beq_iff_eq] at h;have:=slots1_from r (n+1) h.2;rw[List.length_cons,slotsFrom,List.range_succ_eq_map,List.map_cons,List.map_map,h.1];refine congr (congrArg List.cons Yx) ?_
  conv=>lhs;rw[this]
  rw[slotsFrom];refine List.map_congr_left λk _=>?_;show ((n+1:Nat):Int)+(k:Int)=(n:Int)+((k+1:Nat):Int);omega
theorem classes_all:∀(cs:List Cls) (n:Nat),slotsA cs n=true->(∀c∈cs,okC c)->okAll (λ(s:Int) (c:Cls)=>s+c.slots.length) (λs c=>okC c/\c.slots.length<=4/\c.slots=slotsFrom s c.slots.length) (n:Int) cs/\cs.foldl (λ(s:Int) (c:Cls)=>s+c.slots.length) (n:Int)=((n+slotsCnt cs:Nat):Int)
 | [],n,_,_=>⟨trivial,by simp[slotsCnt]⟩
 | c::r,n,h,hc=>by
  simp only[slotsA,Bool.and_eq_true,decide_eq_true_eq] at h;obtain⟨h1,h2⟩:=classes_all r (n+c.slots.length) h.2 λx hx=>hc x (.tail _ hx);refine⟨⟨⟨hc c (.head _),h.1.1,slots1_from _ _ h.1.2⟩,by show okAll _ _ ((n:Int)+c.slots.length) r;rw[show (n:Int)+c.slots.length=((n+c.slots.length:Nat):Int) by omega];exact h1⟩,?_⟩;rw[List.foldl_cons,show (n:Int)+c.slots.length=((n+c.slots.length:Nat):Int) by omega,h2];simp[slotsCnt];omega
mutual
theorem node_cnt{w:Fc.FW}:∀(f:Fact) (left deep:Int),(nodeP w f left deep).1=true->(nodeP w f left deep).2+cntN f=left/\0<=(nodeP w f left deep).2
 | .mk op arg path cls n kids,left,deep,h=>by
  rw[nodeP] at h ⊢;by_cases h1:badP (.mk op arg path cls n kids) (left - 1) deep=true
  ·rw[if_pos h1] at h;cases h
  rw[if_neg h1] at h ⊢;have h2:badP (.mk op arg path cls n kids) (left - 1) deep=false:=by simpa using h1
  have h2: ¬left - 1<0/\(kids.length:Int)=kidsP op:=by
   rw[badP,Bool.or_eq_false_iff,Bool.or_eq_false_iff,Bool.or_eq_false_iff,Bool.or_eq_false_iff] at h2;exact⟨of_decide_eq_false h2.1.1.1.1,bne_eq_false_iff_eq.1 h2.2⟩
  by_cases hl:leafP (.mk op arg path cls n kids)=true
  ·rw[if_pos hl];have hl:2<=op/\op<=4:=by rw[leafP,Bool.and_eq_true] at hl;exact⟨of_decide_eq_true hl.1,of_decide_eq_true hl.2⟩
   have hk0:kids= []:=by
    have:kidsP op=0:=by unfold kidsP;rw[if_neg Yc,if_neg Yc]
    exact List.eq_nil_of_length_eq_zero Yc
   subst hk0;exact⟨by simp only[cntN,cntNs];omega,by show 0<=left - 1;omega⟩
  ·rw[if_neg hl] at h ⊢;by_cases hp:plainP (.mk op arg path cls n kids)=true
   ·rw[if_pos hp] at h ⊢;obtain⟨h6,h7⟩:=nodes_cnt kids _ _ h Yc;have h6:(nodesP w kids (left - 1) (deep - 1)).2+cntNs kids=left - 1:=h6;exact⟨by simp only[cntN];omega,h7⟩
   ·rw[if_neg hp] at h;cases h
theorem nodes_cnt{w:Fc.FW}:∀(l:List Fact) (left deep:Int),(nodesP w l left deep).1=true->0<=left->(nodesP w l left deep).2+cntNs l=left/\0<=(nodesP w l left deep).2
 | [],left,deep,h,h0=>by rw[nodesP];exact⟨by simp[cntNs],h0⟩
 | k::r,left,deep,h,h0=>by
  rw[nodesP] at h ⊢;by_cases hk:(nodeP w k left deep).1=true
  ·rw[if_pos hk] at h ⊢;obtain⟨h2,h3⟩:=node_cnt k _ _ hk;obtain⟨h5,h6⟩:=nodes_cnt r _ _ h h3;exact⟨by simp only[cntNs];omega,h6⟩
  ·rw[if_neg hk] at h;exact absurd h hk
end
theorem methods_wf{p:Prog}:∀(l:List Mth) (o o':List Int),methodsN p l o=some o'->∀m∈l,wfF m.fact/\cntN m.fact<=24
 | [],o,o',h,m,hm=>by cases hm
 | y::r,o,o',h,m,hm=>by
  rw[methodsN] at h;split at h
  ·rename_i hy;rw[Bool.and_eq_true] at hy;split at h
   ·cases h
   ·rename_i o1 hv;rcases List.mem_cons.1 hm with rfl | hm
    ·have h2:=hy.2;simp only[mth2,Bool.and_eq_true] at h2;exact⟨node_wfF _ 24 12 h2.1.2,by have:=node_cnt m.fact 24 12 h2.1.2;omega⟩
    ·exact methods_wf r o1 o' h m hm
  ·cases h
theorem nodes_known(h:(sizesP p).isSome=true):(∀x∈p.nodes,NdKnown p x)/\(∀n∈p.gens,1<=n/\n<=3)/\(∀m∈p.methods,wfF m.fact/\cntN m.fact<=24):=by
 obtain⟨o,ho⟩:=Option.isSome_iff_exists.1 h;have hol:=sizes_len ho;obtain⟨hc,hh,hgs,o1,hm,hv,hn⟩:=sizes_parts ho;have hok:=okP_of h;have hg:∀n∈p.gens,1<=n/\n<=3:=λn hn=>gens_in hgs hn;simp only[headP,Bool.and_eq_true,decide_eq_true_eq] at hh;have hw:(worldOf p).parents.length<=1000/\(worldOf p).owner.length<=1000:=by
  obtain⟨hcl,hcs,hsl⟩:=okC_of hc;refine⟨by show (graphP p).length<=1000;simp[graphP];omega,?_⟩;have h1:slotsA p.classes 0=true:=by simp only[classesP,Bool.and_eq_true] at hc;exact hc.1.1.2
  have:∀(cs:List Cls) (i n:Nat),slotsA cs n=true->(ownersN cs i).length<=4*cs.length:=by
   intro cs
   induction cs with
   | nil=>intro i n _;simp[ownersN]
   | cons c r ih=>
    intro i n h;simp only[slotsA,Bool.and_eq_true,decide_eq_true_eq] at h;have:=ih (i+1) _ h.2;rw[ownersN,List.length_append,List.length_replicate,List.length_cons];omega
  have:=this p.classes 0 0 h1;show (ownersN p.classes 0).length<=1000;omega
 have hK0:OutKnown p (out0 p):=λi hi hne=>by
  exfalso;apply hne;rw[out0,List.getD_eq_getElem?_getD,List.getElem?_replicate];split <;> rfl
 obtain⟨hK1,hms⟩:=methods_known hg hw Yc Yc p.methods _ _ hm hK0;have hK2:=visit_outKnown (x:=⟨p.main,0,1⟩) rfl (by unfold smallV;simp only;omega) hv hK1;refine⟨λx hx=>?_,hg,methods_wf _ _ _ hm⟩;obtain⟨i,hi,rfl⟩:=List.mem_iff_getElem.1 hx;have e:p.nodes.getD i default=p.nodes[i]:=by rw[List.getD_eq_getElem?_getD,List.getElem?_eq_getElem hi];rfl
 rw[<-e];refine hK2 i hi ?_;have hio:i<o.length:=by rw[hol.1];exact hi
 intro hne;rw[List.getD_eq_getElem?_getD,List.getElem?_eq_getElem hio] at hne;have hmem:(-1:Int)∈o:=by rw[<-show o[i]= -1 from hne];exact List.getElem_mem _
 rw[List.contains_iff_mem.2 hmem] at hn;cases hn
theorem clsW_pos(c:Cls):0<(clsW c).length:=pos_left (pos_left (pos_left (numW_pos _)))
theorem prog_fwd(h:(sizesP p).isSome=true):progR (progW p)=some (p,[]):=by
 have hok:=okP_of h;obtain⟨hnk,hg,hms⟩:=nodes_known h;obtain⟨o,ho⟩:=Option.isSome_iff_exists.1 h;obtain⟨hc,hh,_⟩:=sizes_parts ho;have hsA:slotsA p.classes 0=true:=by simp only[classesP,Bool.and_eq_true] at hc;exact hc.1.1.2
 have hcnt:(slotsCnt p.classes:Int)=p.slots:=by simp only[classesP,Bool.and_eq_true,beq_iff_eq] at hc;exact hc.1.2.1
 obtain⟨hA,hF⟩:=classes_all p.classes 0 hsA hok.cs;have hcl:=hok.cl;have hgl:=hok.gl;have hml:=hok.ml;have hnl:=hok.nl;have e:progW p=listW clsW p.classes++(listW numI p.gens++(listW mthW p.methods++(listW ndW p.nodes++(numI p.main++[])))):=by
  rw[progW];simp only[List.append_assoc,List.append_nil]
 rw[e,progR_some (list_fwd (f:=clsW) (λs x r h=>cls_fwd h.1 h.2.1 h.2.2 r) clsW_pos Yc hA _),hF,progT];rw[thenR_some (list_fwd0 (ok:=okN) (λs x r h=>num_fwd h s r) numI_pos Yc hok.gs () _)];rw[thenR_some (list_fwd0 (ok:=λx=>okM x/\wfF x.fact/\cntN x.fact<=24) (λs x r h=>mth_fwd h.1 h.2.1 h.2.2 s r) (λx=>pos_left (pos_left (pos_left (numI_pos _)))) Yc (λx hx=>⟨hok.ms x hx,(hms x hx).1,(hms x hx).2⟩) () _)];rw[thenR_some (list_fwd0 (R:=ndR p.gens) (f:=ndW) (ok:=λx=>okNd x/\NdKnown p x) (λs x r h=>by
  obtain⟨⟨next,sz,_,hgd⟩,_⟩:=h.2;obtain⟨k1,k2,k3⟩:=kidsN_of hg hgd;exact nd_fwd h.1 k1 k2 k3 s r) (λx=>pos_left (pos_left (numI_pos _))) Yc (λx hx=>⟨hok.ns x hx,hnk x hx⟩) () _)]
 rw[thenR_some (num_fwd hok.main () [])];simp only[doneR,Option.map_some];rw[show ((0+slotsCnt p.classes:Nat):Int)=p.slots by rw[<-hcnt];simp]
theorem eqU8(a:List U8):PCall Tryz.prog 41 [u8s a,u8s a] (.b true):=by
 intro H;refine aC (n:=26) Tryz.func41 λB I w0=>?_;refine CW.boundM (t:=0) rfl (λhb0=>?_);refine Z15 ?_;refine CW.cond rfl (λh0=>?_) (λh0=>?_)
 ·exact absurd h0 Yx
 ·refine Z11 ?_;refine lj (λm st=>∃i:Nat,st=⟨[(13,.i i),(12,.i a.length),(0,u8s a),(1,u8s a)],H⟩/\m=a.length - i/\i<=a.length) (⟨0,rfl,rfl,Yc⟩) ?_;rintro m _ ⟨i,rfl,rfl,hi⟩;refine Z6 ?_;refine cd (λh1=>?_) λh1=>?_
  ·have hil:i<a.length:=by omega
   refine Z11 ?_;refine CW.dp mixed ?_;refine DP.anyC 0 8 26 rfl Ye rfl rfl Ye ?_;refine Z13 ?_;refine CW.cond rfl (λh2=>?_) (λh2=>?_)
   ·exact absurd h2 Yx
   ·refine Z7 ?_;exact ag (⟨i+1,rfl,rfl,hil⟩)
  ·refine Z11 ?_;refine r1 4 (H) ?_;exact⟨Yaw,rfl⟩
theorem sameT(a:List Th):PCall Tryz.prog 22 [AV.ths a,AV.ths a] (.b true):=by
 intro H;refine aC (n:=42) Tryz.func22 λB I w0=>?_;refine CW.boundM (t:=0) rfl (λhb0=>?_);refine Z15 ?_;refine CW.cond rfl (λh0=>?_) (λh0=>?_)
 ·exact absurd h0 Yx
 ·refine Z9 ?_;refine lj (λm st=>∃i:Nat,st=⟨[(5,.i i),(0,AV.ths a),(1,AV.ths a)],H⟩/\m=a.length - i/\i<=a.length) (⟨0,rfl,rfl,Yc⟩) ?_;rintro m _ ⟨i,rfl,rfl,hi⟩;refine Z9 ?_;refine cd (λh1=>?_) λh1=>?_
  ·have hil:i<a.length:=by omega
   refine Z5 ?_;refine CW.dp mixed ?_;refine DP.anyC 0 10 42 rfl Ye rfl rfl Ye ?_;refine Z19 ?_;refine DP.anyC 12 22 42 rfl Ye rfl rfl Ye ?_;refine Z12 ?_;refine OL.guardC rfl rfl rfl rfl rfl rfl (λhg=>POp.call (.mk' rfl rfl rfl rfl Yd) (sameV (a.getD i default).slots (a.getD i default).slots)) ?_;refine Z4 ?_;refine CW.cond rfl (λh2=>?_) (λh2=>?_)
   ·exact absurd h2 Yx
   ·refine Z8 ?_;exact ag (⟨i+1,rfl,rfl,hil⟩)
  ·refine Z11 ?_;refine r1 4 (H) ?_;exact⟨Yaw,rfl⟩
instance:HasEq Tryz.prog 143 2:=⟨Yg⟩
def ro(b:List U8):List Th:=match readR b with | some x=>x.2 | none=>[]
end Go.Proofs.YtpgnjlngepfanaaGreat

namespace Go.Proofs.YtpgnjlngepfanaaGreat
open Go.Eng
open Go.Eng.Fc
open Go.Eng.Bd
open Go.Eng.Im (U8 u8 u8s sumR)
open Go.Eng.Im
variable{L:List Int}
theorem idxB_in{l:List Int}{x:Int}:decide (idxB l x<0)= !l.contains x:=by
 rw[<-idxB_contains];by_cases h:idxB l x<0 <;> simp[h] <;> omega
theorem meetP_len:∀(vals:List (Int×Int)) (l:List Int),(meetP vals l).length<=l.length+vals.length
 | [],l=>by show l.length<=l.length+0;omega
 | v::r,l=>by
  have h:=meetP_len r (meet1 l v);have h1:(meet1 l v).length<=l.length+1:=by unfold meet1;split <;> simp
  rw[meetP_cons,List.length_cons];omega
theorem ints_snoc1(l:List Int)(n:Int):AV.sl 1 ((l.map λn=>[AV.i n])++[[AV.i n]])=AV.ints (l++[n]):=by
 show _=AV.sl 1 (List.map _ (_++_));rw[List.map_append];rfl
theorem move_in{v:Int×Int}(h:v.1=3->v.2∈L):move1 (idxB L) v=move1 (placeP L) v:=by
 unfold move1;split
 ·rename_i h3;rw[placeP,if_pos (h h3)]
 ·rfl
theorem rPlace(l:List Int)(v:Int):PCall Tryz.prog 210 [AV.ints l,.i v] (.i (idxB l v)):=by
 intro H;refine aC (n:=19) Tryz.func210 λB I w0=>?_;refine CW.boundM (t:=0) rfl (λhb0=>?_);refine Z14 ?_;refine lj (λm st=>∃k:Nat,st=⟨[(9,.i k),(8,.i l.length),(7,AV.ints l),(1,.i v)],H⟩/\m=l.length - k/\k<=l.length/\∀x∈l.take k,x≠v) (⟨0,rfl,rfl,Yx,Yx⟩) ?_;rintro m _ ⟨k,rfl,rfl,hk,hp⟩;refine Z6 ?_;refine cd (λh0=>?_) λh0=>?_
 ·refine Z20 ?_;refine cd (λh1=>?_) λh1=>?_
  ·refine Z12 ?_;refine r1 4 (H) ?_;exact⟨retI (idxB_at Yc hp h1.symm),rfl⟩
  ·refine Z7 ?_;exact ag (⟨k+1,rfl,rfl,Yc,ne_step Yc hp (Ne.symm h1)⟩)
 ·refine Z11 ?_;refine r1 4 (H) ?_;exact⟨retI (idxB_none Y7),rfl⟩
theorem rMet{l0:List Int}{vals:List (Int×Int)}(hb:l0.length+vals.length<=1000000)(v:Value)(H:List Ent):ACall Tryz.prog 160 [.as (AV.ints l0) v,AV.mvs vals] (.own 3 1 v::H) (λy H'=>∃v',y= .as (AV.ints (meetP vals l0)) v'/\H'= .own 3 1 v'::H) (λ_ _=>False):=by
 refine aC (n:=30) Tryz.func160 λB I w0=>?_;refine Z14 ?_;refine lj (λm st=>∃(i:Nat) (l:List Int) (v':Value),st=⟨[(9,.i i),(8,.i vals.length),(7,AV.mvs vals),(0,.as (AV.ints l) v')],.own 3 1 v'::H⟩/\m=vals.length - i/\i<=vals.length/\l=meetP (vals.take i) l0) (⟨0,l0,v,rfl,rfl,Yc,rfl⟩) ?_;rintro m _ ⟨i,l,v',rfl,rfl,hi,hl⟩;refine Z6 ?_;refine cd (λh0=>?_) λh0=>?_
 ·have hil:i<vals.length:=by omega
  obtain⟨X,hX⟩:∃X,X=vals.getD i default:=⟨_,rfl⟩;have hst:=meet_step hil l0;rw[<-hX, <-hl] at hst;have hll:l.length<=l0.length+i:=by have:=meetP_len (vals.take i) l0;rw[<-hl,List.length_take] at this;omega
  refine Z8 ?_;refine OL.alC rfl rfl rfl rfl (λxb=>?_);refine Z4 ?_;rw[<-hX];refine CW.freezeP (d:=6) rfl Yl ?_;refine Z8 ?_;refine OL.guardC rfl rfl rfl rfl rfl rfl (λhg=>POp.callLe (.mk' rfl rfl rfl rfl Yd) (.cons (AVle.asL _ _) (.cons (.refl _) .nil)) (rPlace l X.2)) ?_;refine Z4 ?_;refine CW.cond rfl (λh1=>?_) (λh1=>?_)
  ·rw[idxB_in] at h1;obtain⟨h3,h4⟩:=meet_if h1;rw[beq_iff_eq] at h3;rw[meet1_new h3 h4] at hst;refine Z4 ?_;refine OL.popC (x:=.sl 1 [[AV.i X.2]]) rfl rfl rfl (POp.row rfl rfl Yh rfl rfl rfl rfl rfl rfl) ?_;refine OL.appendC rfl rfl rfl rfl rfl rfl rfl rfl (AVle.refl _) (rfl) (λv=>by repeat (first | exact Upd.head _ _ _ | apply Upd.tail)) YP YP (λv27=>?_);refine Z8 ?_;rw[ints_snoc1];exact ag ⟨i+1,l++[X.2],v27,rfl,rfl,hil,hst.symm⟩
  ·rw[idxB_in] at h1;have hso:meet1 l X=l:=meet1_old ((meet_not h1).imp Yx id);rw[hso] at hst;refine Z7 ?_;exact ag (⟨i+1,l,v',rfl,rfl,hil,hst.symm⟩)
 ·obtain rfl:i=vals.length:=by omega
  rw[List.take_length] at hl;subst hl;refine Z12 ?_;refine r1 4 (.own 3 1 v'::H) ?_;exact⟨v',rfl,rfl⟩
theorem rMoved{l:List (Int×Int)}(hl:∀v∈l,v.1=3->v.2∈L)(hll:l.length<=1000000):PCall Tryz.prog 162 [AV.mvs l,AV.ints L] (AV.mvs (l.map (move1 (placeP L)))):=by
 intro H;refine aC (n:=28) Tryz.func162 λB I w0=>?_;refine Z12 ?_;refine CW.ownNil 5 60 2 rfl ?_;refine Z7 ?_;refine lj (λm st=>∃(i:Nat) (v:Value),st=⟨[(5,.as (AV.mvs ((l.take i).map (move1 (placeP L)))) v),(10,.i i),(9,.i l.length),(8,AV.mvs l),(1,AV.ints L)],.own 60 2 v::H⟩/\m=l.length - i/\i<=l.length) (⟨0,_,rfl,rfl,Yc⟩) ?_;rintro m _ ⟨i,v,rfl,rfl,hi⟩;refine Z6 ?_;refine cd (λh0=>?_) λh0=>?_
 ·have hil:i<l.length:=by omega
  obtain⟨X,hX⟩:∃X,X=l.getD i default:=⟨_,rfl⟩;have hXl:=move_in (hl X (hX▸getD_memB hil));have hmt:=map_take1 (move1 (placeP L)) hil;rw[<-hX] at hmt;refine Z8 ?_;refine OL.alC rfl rfl rfl rfl (λb7=>?_);refine Z3 ?_;refine CW.cutJ (λst=>st=⟨[(7,.p b7 0),(5,.as (AV.mvs ((l.take i).map (move1 (placeP L)))) v),(10,.i i),(9,.i l.length),(8,AV.mvs l),(1,AV.ints L)],.blk b7 60 (initA (move1 (placeP L) X))::.own 60 2 v::H⟩) ?_ ?_
  ·refine Z1 ?_;rw[<-hX];refine Z6 ?_;refine cd (λh1=>?_) λh1=>?_
   ·obtain⟨x1,x2⟩:=X;simp only at h1;subst h1;have he:move1 (placeP L) (3,x2)=(3,idxB L x2):=by rw[<-hXl,move1,if_pos rfl]
    refine Z4 ?_;refine oP (POp.call .k (rPlace L x2)) ?_;refine Z3 ?_;rw[he];exact cj rfl
   ·have he:move1 (placeP L) X=X:=by rw[move1,if_neg h1]
    refine Z1 ?_;rw[he];exact cj rfl
  ·rintro _ rfl;refine Z3 ?_;refine OL.popC (x:=.sl 2 [initA (move1 (placeP L) X)]) rfl rfl rfl (POp.row rfl rfl Yh rfl rfl rfl rfl rfl rfl) ?_;refine OL.appendC rfl rfl rfl rfl rfl rfl rfl rfl (AVle.refl _) (rfl) (λv=>by repeat (first | exact Upd.head _ _ _ | apply Upd.tail)) YC YC (λv25=>?_);refine Z8 ?_;exact ag (⟨i+1,v25,by rw[hmt,mvs_snoc],rfl,hil⟩)
 ·obtain rfl:i=l.length:=by omega
  rw[List.take_length];refine Z12 ?_;refine Done.retR (rs:=[.tmp 4]) (H':=H) rfl (.tmp rfl (.nil)) (.cons (AVle.asL _ _) .nil) Yb ?_;exact⟨Yaw,rfl⟩
theorem rRoots(l:List (Int×Int))(n:Int):PCall Tryz.prog 51 [AV.mvs l,.i n] (.b (rootedP n l)):=by
 intro H;refine aC (n:=13) Tryz.func51 λB I w0=>?_;refine Z13 ?_;refine OL.guardC rfl rfl rfl rfl rfl rfl (λhg=>POp.call (.mk' rfl rfl rfl rfl Yd) (rVals l n)) ?_;refine Z5 ?_;refine r1 4 (H) ?_;exact⟨retB (by rw[rootedP,Bool.cond_false_right];congr 1;rw[decide_eq_decide];omega),rfl⟩
theorem rReachOf{objs:List Th}{roots:List (Int×Int)}(hol:objs.length<=40)(hrl:roots.length<=20)(hr:roots.all (valueP objs.length)=true)(hv:∀t∈objs,t.slots.all (valueP objs.length)=true)(hsl:∀t∈objs,t.slots.length<=40):PCall Tryz.prog 83 [AV.ths objs,AV.mvs roots] (AV.ints (reachP objs roots)):=by
 intro H;refine aC (n:=26) Tryz.func83 λB I w0=>?_;refine Z6 ?_;refine CW.ownNil' 3 1 ?_;refine Z2 ?_;refine bC ((CallOk.mk' rfl rfl rfl rfl rfl).le (.cons (AVle.nilAs 1) (.cons (.refl _) .nil))) ((rMet (l0:=[]) (vals:=roots) (by show 0+_<=_;omega) _ H).b) ?_;rintro _ _ ⟨v,rfl,rfl⟩;refine Z10 ?_;refine lj (λm st=>∃(i q:Nat) (l:List Int) (v:Value),st=⟨[(6,.i i),(5,.as (AV.ints l) v),(0,AV.ths objs)],.own 3 1 v::H⟩/\m=q/\reachN objs q i l=reachP objs roots/\Reached objs roots i l/\objs.length<q+i) (⟨0,objs.length+1,meetP roots [],v,rfl,rfl,rfl,.begin hr,Yc⟩) ?_;rintro m _ ⟨i,q,l,v,rfl,rfl,hrn,hR,hf⟩;have hll:=hR.ok.len;refine Z9 ?_;refine cd (λh0=>?_) λh0=>?_
 ·have hil:i<l.length:=by simpa using h0
  obtain⟨g,rfl⟩:∃g,m=g+1:=⟨m - 1,Yc⟩;have hni:=hR.ok.in_ _ (getD_memB hil);have hRs:=hR.step hv hil;rw[reachN,if_pos hil] at hrn;obtain⟨n,hn⟩:∃n,n=l.getD i default:=⟨_,rfl⟩;rw[<-hn] at hni hRs hrn;have hTs:=hsl (thOf objs n) (getD_memB Yc);refine Z9 ?_;refine OL.le 17 (y:=AV.ints l) rfl (AVle.asL _ _) ?_;refine Z2 ?_;refine oP ((by first | exact POp.ixM rfl rfl rfl rfl rfl (by rw[<-hn];omega) | exact POp.ixI rfl rfl rfl rfl rfl (by rw[<-hn];omega))) ?_;refine Z2 ?_;refine bC ((CallOk.mk' rfl rfl rfl rfl rfl).le (by rw[hn];exact .cons (.refl _) (.cons (.refl _) .nil))) ((rMet (l0:=l) (vals:=(thOf objs n).slots) Yc _ H).b) ?_;rintro _ _ ⟨v2,rfl,rfl⟩;refine Z9 ?_;exact ag (⟨i+1,g,_,v2,rfl,rfl,hrn,hRs,Yc⟩)
 ·have hil: ¬i<l.length:=by simpa using h0
  have hlr:l=reachP objs roots:=by cases m with
   | zero=>exact hrn
   | succ q=>rw[reachN,if_neg hil] at hrn;exact hrn
  rw[hlr];refine Z12 ?_;refine Done.retR (rs:=[.tmp 4]) (H':=H) rfl (.tmp rfl (.nil)) (.cons (AVle.asL _ _) .nil) Yb ?_;exact⟨Yaw,rfl⟩
end Go.Proofs.YtpgnjlngepfanaaGreat

namespace Go.Proofs.YtpgnjlngepfanaaGreat
open Go.Eng
open Go.Eng.Fc
open Go.Eng.Bd
open Go.Eng.Im (U8 u8 u8s sumR splitR Sec)
variable{f:Int->Int}{objs objs2:List Th}{roots:List (Int×Int)}{L:List Int}
def mapT(f:Int->Int)(t:Th):Th:=⟨t.cls,t.slots.map (move1 f)⟩
theorem meet1_map{R l:List Int}{v:Int×Int}(hi:∀a∈R,∀b∈R,f a=f b->a=b)(hl:∀x∈l,x∈R)(hv:v.1=3->v.2∈R):meet1 (l.map f) (move1 f v)=(meet1 l v).map f:=by
 unfold meet1 move1;by_cases h3:v.1=3
 ·have hm:f v.2∈l.map f↔v.2∈l:=⟨λh=>by
   obtain⟨y,hy,e⟩:=List.mem_map.1 h;rw[<-hi y (hl y hy) v.2 (hv h3) e];exact hy,λh=>List.mem_map_of_mem h⟩
  rw[if_pos h3];by_cases hc:v.2∈l
  ·rw[if_neg (λh=>h.2 (hm.2 hc)),if_neg (λh=>h.2 hc)]
  ·rw[if_pos ⟨rfl,λh=>hc (hm.1 h)⟩,if_pos ⟨h3,hc⟩];simp
 ·rw[if_neg h3,if_neg (λh=>h3 h.1),if_neg (λh=>h3 h.1)]
theorem meetP_map{f:Int->Int}{R:List Int}(hi:∀a∈R,∀b∈R,f a=f b->a=b):∀(vals:List (Int×Int)) (l:List Int),(∀x∈meetP vals l,x∈R)->meetP (vals.map (move1 f)) (l.map f)=(meetP vals l).map f
 | [],l,_=>rfl
 | v::r,l,h=>by
  rw[List.map_cons,meetP_cons,meetP_cons,meet1_map hi (λx hx=>h x ((meetP_pre (v::r) l).subset hx)) (λh3=>h _ (meetP_has (v::r) l v (.head _) h3))];exact meetP_map hi r _ h
theorem reachN_pre(objs:List Th):∀(f i:Nat) (l:List Int),l<+:reachN objs f i l
 | 0,i,l=>List.prefix_refl _
 | f+1,i,l=>by
  rw[reachN];split
  ·exact (meetP_pre _ _).trans (reachN_pre objs f (i+1) _)
  ·exact List.prefix_refl _
theorem getD_mapI(f:Int->Int){l:List Int}{i:Nat}(hi:i<l.length):(l.map f).getD i default=f (l.getD i default):=by
 rw[List.getD_eq_getElem?_getD,List.getElem?_map,List.getD_eq_getElem?_getD,List.getElem?_eq_getElem hi];rfl
theorem reachN_map{f:Int->Int}{R:List Int}(hi:∀a∈R,∀b∈R,f a=f b->a=b){objs objs2:List Th}(hm:∀n∈R,thOf objs2 (f n)=mapT f (thOf objs n)):∀(g i:Nat) (l:List Int),(∀x∈reachN objs g i l,x∈R)->reachN objs2 g i (l.map f)=(reachN objs g i l).map f
 | 0,i,l,_=>rfl
 | g+1,i,l,h=>by
  simp only[reachN,List.length_map] at h ⊢;by_cases hl:i<l.length
  ·rw[if_pos hl] at h;rw[if_pos hl,if_pos hl,getD_mapI f hl];have hs:∀x∈meetP (thOf objs (l.getD i default)).slots l,x∈R:=λx hx=>h x ((reachN_pre objs g (i+1) _).subset hx);rw[hm _ (hs _ ((meetP_pre _ l).subset (getD_memB hl)))];show reachN objs2 g (i+1) (meetP ((thOf objs (l.getD i default)).slots.map (move1 f)) (l.map f))=_;rw[meetP_map hi _ _ hs];exact reachN_map hi hm g (i+1) _ h
  ·rw[if_neg hl,if_neg hl]
theorem reachN_more{objs:List Th}{roots:List (Int×Int)}(hv:∀t∈objs,t.slots.all (valueP objs.length)=true)(k:Nat):∀(f i:Nat) (l:List Int),Reached objs roots i l->objs.length<f+i->reachN objs (f+k) i l=reachN objs f i l
 | 0,i,l,h,hf=>by
  have:=h.ok.len;cases k with
  | zero=>rfl
  | succ k=>rw[Nat.zero_add,reachN,reachN,if_neg Yc]
 | f+1,i,l,h,hf=>by
  rw[show f+1+k=(f+k)+1 by omega,reachN,reachN];split
  ·rename_i hl;exact reachN_more hv k f (i+1) _ (h.step hv hl) Yc
  ·rfl
structure Iso(f:Int->Int)(objs objs2:List Th)(roots:List (Int×Int)):Prop where
 rs:roots.all (valueP objs.length)=true
 vs:∀t∈objs,t.slots.all (valueP objs.length)=true
 rs2:(roots.map (move1 f)).all (valueP objs2.length)=true
 vs2:∀t∈objs2,t.slots.all (valueP objs2.length)=true
 inj:∀a∈reachP objs roots,∀b∈reachP objs roots,f a=f b->a=b
 th:∀n∈reachP objs roots,thOf objs2 (f n)=mapT f (thOf objs n)
theorem Iso.reach(h:Iso f objs objs2 roots):reachP objs2 (roots.map (move1 f))=(reachP objs roots).map f:=by
 have h1:=reachN_more h.vs objs2.length (objs.length+1) 0 _ (Reached.begin h.rs) Yc;have h2:=reachN_more h.vs2 objs.length (objs2.length+1) 0 _ (Reached.begin h.rs2) Yc;have e:meetP (roots.map (move1 f)) []=(meetP roots []).map f:=meetP_map h.inj roots [] (λx hx=>(reachN_pre objs _ 0 _).subset hx);have hi:=h.inj;have ht:=h.th;unfold reachP at hi ht ⊢;rw[<-h1] at hi ht ⊢;rw[<-h2,e,show objs2.length+1+objs.length=objs.length+1+objs2.length by omega];exact reachN_map hi ht _ _ _ (λx hx=>hx)
theorem reach_closed(hr:roots.all (valueP objs.length)=true)(hv:∀t∈objs,t.slots.all (valueP objs.length)=true):RouteOk objs.length (reachP objs roots)/\(∀v∈roots,v.1=3->v.2∈reachP objs roots)/\∀n∈reachP objs roots,∀v∈(thOf objs n).slots,v.1=3->v.2∈reachP objs roots:=by
 obtain⟨i,h,hi⟩:=reach_ok hr hv;refine⟨h.ok,h.rts,λn hn v hv h3=>?_⟩;obtain⟨j,hj,rfl⟩:=List.mem_iff_getElem.1 hn;refine h.sls j Yc v ?_ h3;rwa [List.getD_eq_getElem?_getD,List.getElem?_eq_getElem hj]
theorem find_map{f:Int->Int}{n:Int}:∀L:List Int,(∀a∈L,f a=f n->a=n)->(L.map f).findIdx? (λx=>x==f n)=L.findIdx? (λx=>x==n)
 | [],_=>rfl
 | a::r,h=>by
  have e:(f a==f n)=(a==n):=by
   rw[Bool.eq_iff_iff,beq_iff_eq,beq_iff_eq];exact⟨h a (.head _),λe=>by rw[e]⟩
  rw[List.map_cons,List.findIdx?_cons,List.findIdx?_cons,find_map r (λa ha=>h a (.tail _ ha)),e]
theorem place_map(hi:∀a∈L,∀b∈L,f a=f b->a=b){n:Int}(hn:n∈L):placeP (L.map f) (f n)=placeP L n:=by
 rw[placeP,placeP,if_pos hn,if_pos (List.mem_map_of_mem hn),idxB,idxB,find_map L (λa ha e=>hi a ha n hn e)]
theorem moves_map(hi:∀a∈L,∀b∈L,f a=f b->a=b){l:List (Int×Int)}(hl:∀v∈l,v.1=3->v.2∈L):(l.map (move1 f)).map (move1 (placeP (L.map f)))=l.map (move1 (placeP L)):=by
 rw[List.map_map];refine List.map_congr_left λv hv=>?_;show move1 _ (move1 f v)=_;unfold move1;by_cases h3:v.1=3
 ·rw[if_pos h3,if_pos h3];show (3,placeP (L.map f) (f v.2))=_;rw[place_map hi (hl v hv h3)]
 ·rw[if_neg h3,if_neg h3,if_neg h3]
theorem Iso.part(h:Iso f objs objs2 roots)(p:Prog):partP p objs2 (roots.map (move1 f))=partP p objs roots:=by
 obtain⟨_,h1,h2⟩:=reach_closed h.rs h.vs;have e:partB p objs2 (roots.map (move1 f))=partB p objs roots:=by
  unfold partB;rw[h.reach,moves_map h.inj h1];congr 1;unfold listW;rw[List.length_map,List.flatMap_map];congr 1;have hg:∀n∈reachP objs roots,thW (objW ((reachP objs roots).map f) objs2 (f n))=thW (objW (reachP objs roots) objs n):=λn hn=>by
   rw[objW,objW,h.th n hn];show thW ⟨(thOf objs n).cls,((thOf objs n).slots.map (move1 f)).map _⟩=_;rw[moves_map h.inj (h2 n hn)]
  rw[List.flatMap_def,List.flatMap_def,List.map_congr_left hg]
 rw[partP,partP,e]
def ownP(objs:List Th)(roots:List (Int×Int)):List Th:=(reachP objs roots).map (objW (reachP objs roots) objs)
def ownR(objs:List Th)(roots:List (Int×Int)):List (Int×Int):=roots.map (move1 (placeP (reachP objs roots)))
def allP(others own:List Th):List Th:=others++own.map (shiftT others.length)
end Go.Proofs.YtpgnjlngepfanaaGreat

namespace Go.Proofs.YtpgnjlngepfanaaGreat
open Go.Eng
open Go.Eng.Fc
open Go.Eng.Bd
open Go.Eng.Im (U8 u8 u8s sumR)
open Go.Eng.Im
theorem listW_map{α β:Type}(f:β->List U8)(g:α->β)(l:List α):listW f (l.map g)=listW (λn=>f (g n)) l:=by
 unfold listW;rw[List.length_map,List.flatMap_map]
theorem partB_own(p:Prog)(objs:List Th)(roots:List (Int×Int)):partB p objs roots=sumR 1 (progW p)++numW (roots.map (move1 (placeP (reachP objs roots)))).length++(roots.map (move1 (placeP (reachP objs roots)))).flatMap valW++listW thW ((reachP objs roots).map (objW (reachP objs roots) objs)):=by
 rw[partB, <-listW_map thW (objW (reachP objs roots) objs)];simp only[listW,List.append_assoc]
theorem rSumO(k:U8)(l L:List U8)(hL:L=k::l)(hl:l.length<140737488355328)(H:List Ent):ACall Tryz.prog 154 [u8s L] H (λy H'=>∃v',y= .as (u8s (sumR k l)) v'/\H'= .own 5 1 v'::H) (λ_ _=>False):=by
 refine aC (n:=36) Tryz.func154 λB I w0=>?_;have hlen:L.length=l.length+1:=by rw[hL];rfl
 refine Z20 ?_;refine lj (λm st=>∃j:Nat,st=⟨[(9,.i j),(8,.i L.length),(7,u8s L),(3,.i (sumP (L.take j)).1),(4,.i (sumP (L.take j)).2)],H⟩/\m=L.length - j/\j<=L.length) (⟨0,rfl,rfl,Nat.zero_le _⟩) ?_;rintro m _ ⟨j,rfl,rfl,hj⟩;obtain⟨hb1,hb2⟩:=sumP_lt (L.take j);refine Z6 ?_;refine cd (λh0=>?_) λh0=>?_
 ·have hj':j<L.length:=Int.ofNat_lt.1 h0;obtain⟨x,hx⟩:∃x,x=L.getD j default:=⟨_,rfl⟩;have hst:=sumP_step hj';rw[<-hx] at hst;have hxl:=x.isLt;refine Z12 ?_;rw[<-hx];refine Z3 ?_;refine oP (POp.cv rfl rfl rfl (wrap64 Yc)) ?_;refine Z1 ?_;refine oP (POp.div rfl rfl rfl rfl rfl YL (.inr ⟨rfl,tm_sum _ _⟩)) ?_;refine Z7 ?_;refine oP (POp.div rfl rfl rfl rfl rfl YL (.inr ⟨rfl,tm_sum _ _⟩)) ?_;refine Z8 ?_;exact ag (⟨j+1,by rw[hst],rfl,hj'⟩)
 ·obtain rfl:j=L.length:=by omega
  rw[List.take_length] at hb1 hb2 ⊢;refine Z8 ?_;refine oP (POp.div rfl rfl rfl rfl rfl YL (.inl ⟨rfl,quo256 _ hb2⟩)) ?_;refine oP (POp.cv rfl rfl rfl (u8_wrap _)) ?_;refine Z1 ?_;refine oP (POp.div rfl rfl rfl rfl rfl YL (.inr ⟨rfl,rem256 _⟩)) ?_;refine oP (POp.cv rfl rfl rfl (u8_wrap _)) ?_;refine Z1 ?_;refine oP (POp.div rfl rfl rfl rfl rfl YL (.inl ⟨rfl,quo256 _ hb1⟩)) ?_;refine oP (POp.cv rfl rfl rfl (u8_wrap _)) ?_;refine Z1 ?_;refine oP (POp.div rfl rfl rfl rfl rfl YL (.inr ⟨rfl,rem256 _⟩)) ?_;refine oP (POp.cv rfl rfl rfl (u8_wrap _)) ?_;refine OL.rowOwn (els:=[[u8 (Im.byteOf ((sumP L).2 / 256))],[u8 (Im.byteOf ((sumP L).2%256))],[u8 (Im.byteOf ((sumP L).1 / 256))],[u8 (Im.byteOf ((sumP L).1%256))]]) rfl rfl rfl rfl Yh rfl rfl rfl rfl rfl rfl rfl (λv35=>?_);refine Z4 ?_;refine r1 2 (.own 5 1 v35::H) ?_;exact⟨v35,by rw[byteOf_mod,byteOf_mod,sumR, <-hL];rfl,rfl⟩
theorem rProgSum{p:Prog}(hp:okP p)(H:List Ent):ACall Tryz.prog 96 [AV.prog p] H (λy H'=>∃v',y= .as (u8s (sumR 1 (progW p))) v'/\H'= .own 5 1 v'::H) (λ_ _=>False):=by
 refine aC (n:=8) Tryz.func96 λB I w0=>?_;have hl1:=progW_len hp;refine Z8 ?_;refine OL.rowOwn (els:=[[u8 1]]) rfl rfl rfl rfl Yh rfl rfl rfl rfl rfl rfl rfl (λv3=>?_);refine Z1 ?_;refine oP (POp.call .k (rProgW hp)) ?_;refine OL.appendC rfl rfl rfl rfl rfl rfl rfl rfl (AVle.refl _) (one_map (λ_=>rfl) (progW p)) (λv=>by repeat (first | exact Upd.head _ _ _ | apply Upd.tail)) YC YC (λv6=>?_);refine bC ((CallOk.mk' rfl rfl rfl rfl rfl).le (.cons (AVle.asL _ _) .nil)) ((rSumO 1 (progW p) (1::progW p) rfl Yc _).b) ?_;rintro _ _ ⟨v7,rfl,rfl⟩;refine Z4 ?_;refine Done.retR (rs:=[.tmp 2]) (H':=.own 5 1 v7::H) rfl (.tmp rfl (.nil)) (AVleL.refl _) (by exact .cons_cons _ (.cons _ (.refl _))) ?_;exact⟨v7,rfl,rfl⟩
theorem rPartOf{p:Prog}{objs:List Th}{roots:List (Int×Int)}(hk:AskOk p objs roots):PCall Tryz.prog 84 [AV.prog p,AV.ths objs,AV.mvs roots] (u8s (partP p objs roots)):=by
 intro H;refine aC (n:=62) Tryz.func84 λB I w0=>?_;have hpl:=partL_len (p:=p) hk.po hk.rs hk.rl;have hsl:=secW_len (k:=3) (b:=partL p objs roots (reachP objs roots)) Yc;have hpo:=partB_own p objs roots;obtain⟨_,hc1,hc2⟩:=reach_closed hk.rs hk.po.vs;have hol:=hk.po.ol;have hrl:=hk.rl;have hPO:=hk.po;have hPe:partL p objs roots (reachP objs roots)=partB p objs roots:=rfl;rw[hPe] at hpl hsl;refine Z10 ?_;refine oP (POp.call .k (rReachOf hol hrl hk.rs hk.po.vs (λt ht=>(hk.po.os t ht).vl))) ?_;refine Z4 ?_;rw[partP];obtain⟨L,hL⟩:∃L,L=reachP objs roots:=⟨_,rfl⟩;rw[<-hL] at hpo hc1 hc2 hPO ⊢;have hLl:=hPO.rt.len;obtain⟨R,hR⟩:∃R,R=roots.map (move1 (placeP L)):=⟨_,rfl⟩;have hRl:R.length=roots.length:=by rw[hR,List.length_map]
 have hRo:∀x∈R,okVal x:=λx hx=>by
  rw[hR] at hx;obtain⟨y,hy,rfl⟩:=List.mem_map.1 hx;exact move_ok hPO (List.all_eq_true.1 hk.rs y hy)
 have hOo:∀x∈L.map (objW L objs),okT x:=λx hx=>by
  obtain⟨n,hn,rfl⟩:=List.mem_map.1 hx;exact obj_ok hPO hn
 rw[<-hR] at hpo;have hbl:=congrArg List.length hpo;simp only[List.length_append,sumR_len] at hbl;refine Z2 ?_;refine bC .k ((rProgSum hk.p H).b) ?_;rintro _ _ ⟨v1,rfl,rfl⟩;refine Z2 ?_;refine bC .k ((rNumW (n:=roots.length) YX (by rw[sumR_len,numI_nat, <-hRl];omega) _ H).b) ?_;rintro _ _ ⟨v2,rfl,rfl⟩;refine Z5 ?_;rw[numI_nat, <-hRl];refine Z3 ?_;refine oP (POp.call .k (rMoved hc1 Yc)) ?_;refine Z5 ?_;rw[<-hR];refine lj (λm st=>∃(i:Nat) (v8:Value),st=⟨[(26,.i i),(25,.i R.length),(24,AV.mvs R),(8,.as (u8s (sumR 1 (progW p)++numW R.length++(R.take i).flatMap valW)) v8),(7,AV.ints L),(1,AV.ths objs)],.own 5 1 v8::H⟩/\m=R.length - i/\i<=R.length) (⟨0,v2,Yv,rfl,Yc⟩) ?_;rintro m _ ⟨i,v8,rfl,rfl,hi⟩;refine Z6 ?_;refine cd (λh0=>?_) λh0=>?_
 ·have il:i<R.length:=by omega
  have hfi:=flat_take_len valW R (i+1);rw[flat_take valW il,List.length_append] at hfi;refine Z8 ?_;refine OL.alC rfl rfl rfl rfl (λrb=>?_);refine Z3 ?_;refine CW.freezeP (d:=10) rfl Yl ?_;refine Z3 ?_;refine bC .k ((rValW (hRo _ (getD_memB il)) (by simp only[List.length_append,sumR_len];omega) _ H).b) ?_;rintro _ _ ⟨v9,rfl,rfl⟩;refine Z8 ?_;exact ag (⟨i+1,v9,by rw[flat_take valW il, <-List.append_assoc],rfl,il⟩)
 ·obtain rfl:i=R.length:=by omega
  rw[List.take_length];obtain⟨O,hO⟩:∃O,O=sumR 1 (progW p)++numW R.length++R.flatMap valW:=⟨_,rfl⟩;rw[<-hO] at hpo ⊢;have hOl:=congrArg List.length hO;simp only[List.length_append,sumR_len] at hOl;refine Z19 ?_;refine CW.ownNil 11 65 2 rfl ?_;refine lj (λm st=>∃(i:Nat) (v:Value),st=⟨[(36,.i i),(35,.i L.length),(34,AV.ints L),(11,.as (AV.ths ((L.take i).map (objW L objs))) v),(8,.as (u8s O) v8),(7,AV.ints L),(1,AV.ths objs)],.own 65 2 v::.own 5 1 v8::H⟩/\m=L.length - i/\i<=L.length) (⟨0,_,rfl,rfl,Yc⟩) ?_;rintro m _ ⟨i,v,rfl,rfl,hi⟩;refine Z6 ?_;refine cd (λh1=>?_) λh1=>?_
  ·have il:i<L.length:=by omega
   obtain⟨n,hn⟩:∃n,n=L.getD i default:=⟨_,rfl⟩;have hnm:n∈L:=hn▸getD_memB il;have hni:=hPO.rt.in_ n hnm;have hnt:=hc2 n hnm;have hnl:=(hPO.os (thOf objs n) (getD_memB Yc)).vl;have hmt:=map_take1 (objW L objs) il;rw[<-hn] at hmt;refine Z11 ?_;rw[<-hn];refine CW.dp mixed ?_;refine DP.anyC 0 15 62 rfl Ye rfl rfl Ye ?_;refine Z12 ?_;refine AD.popC rfl rfl rfl (POp.call .k (rMoved (l:=(thOf objs n).slots) hnt Yc)) ?_;refine Z1 ?_;refine AD.popC rfl rfl rfl (POp.le (x:=.sl 2 [thA (objW L objs n)]) (POp.row rfl rfl Yh rfl rfl rfl rfl rfl rfl) (AVle.refl _)) ?_;refine Z2 ?_;refine OL.appendC rfl rfl rfl rfl rfl rfl rfl rfl (AVle.refl _) (rfl) (λv=>by repeat (first | exact Upd.head _ _ _ | apply Upd.tail)) YC YC (λv55=>?_);refine Z8 ?_;exact ag (⟨i+1,v55,by rw[hmt,ths_snoc],rfl,il⟩)
  ·obtain rfl:i=L.length:=by omega
   rw[List.take_length];refine Z7 ?_;refine OL.perm (List.Perm.swap _ _ _) ?_;refine OL.rowOwn (els:=[[u8 67],[u8 80]]) rfl rfl rfl rfl Yh rfl rfl rfl rfl rfl rfl rfl (λv57=>?_);refine Z2 ?_;refine OL.perm (List.Perm.swap _ _ _) ?_;refine bC ((CallOk.mk' rfl rfl rfl rfl rfl).le (.cons (.refl _) (.cons (AVle.asL _ _) .nil))) ((rObjsW (l:=L.map (objW L objs)) Yaa hOo Yc _ _).b) ?_;rintro _ _ ⟨v60,rfl,rfl⟩;refine OL.perm (List.Perm.swap _ _ _) ?_;refine bC ((CallOk.mk' rfl rfl rfl rfl rfl).le (.cons (.refl _) (.cons (.refl _) (.cons (AVle.asL _ _) .nil)))) ((rSecW (out:=[67,80]) 3 (by rw[<-hpo];show 2+_<=_;omega) _ _).b) ?_;rintro _ _ ⟨v61,rfl,rfl⟩;refine Z4 ?_;refine Done.retR (rs:=[.tmp 6]) (H':=H) rfl (.tmp rfl (.nil)) (.cons (AVle.asL _ _) .nil) Yb ?_;exact⟨by rw[hpo];rfl,rfl⟩
end Go.Proofs.YtpgnjlngepfanaaGreat

namespace Go.Proofs.YtpgnjlngepfanaaGreat
open Go.Eng
open Go.Eng.Fc
open Go.Eng.Bd
open Go.Eng.Im (U8 u8 u8s sumR)
end Go.Proofs.YtpgnjlngepfanaaGreat

namespace Go.Proofs.YtpgnjlngepfanaaGreat
open Go.Eng
open Go.Eng.Im
variable{l:List U8}
def pieA(l:List U8):AV:=match splitR l with
 | none=>.tup [.val (.int .u8 0),.sl 3 [],.b false]
 | some p=>.tup [u8 p.1,pies p.2,.b true]
theorem pie_no(h: ¬headR l):pieA l= .tup [.val (.int .u8 0),.sl 3 [],.b false]:=by rw[pieA,split_no h]
theorem pie_fail(h:headR l)(hs:(secsOf (l.drop 2)).2=false):pieA l= .tup [.val (.int .u8 0),.sl 3 [],.b false]:=by rw[pieA,split_head h,hs];rfl
theorem pie_good(h:headR l)(hs:(secsOf (l.drop 2)).2=true):pieA l= .tup [u8 (l.getD 1 default),pies (secsOf (l.drop 2)).1,.b true]:=by rw[pieA,split_head h,hs];rfl
theorem head_nb(l:List U8):(bif bif decide ((l.length:Int)<2) then true else (((l.getD (Int.toNat 0) default).val:Int) !=67) then true else bif (((l.getD (Int.toNat 1) default).val:Int) !=79) then (((l.getD (Int.toNat 1) default).val:Int) !=80) else false)=decide (¬headR l):=by
 have e:∀(n:Nat) (k:Nat),((n:Int) !=(k:Int))=(n !=k):=λn k=>by
  rw[Bool.eq_iff_iff];simp;omega
 have e0:Int.toNat 0=0:=rfl;have e1:Int.toNat 1=1:=rfl;rw[e0,e1,show (67:Int)=((67:Nat):Int) by rfl,show (79:Int)=((79:Nat):Int) by rfl,show (80:Int)=((80:Nat):Int) by rfl,e,e,e];have h1:decide ((l.length:Int)<2)= !decide (1<l.length):=by
  rw[Bool.eq_iff_iff];simp;omega
 rw[h1,Bool.eq_iff_iff,decide_eq_true_iff];unfold headR;generalize (l.getD 0 default).val=x;generalize (l.getD 1 default).val=y;generalize l.length=n;by_cases a:1<n <;> by_cases b:x=67 <;> by_cases c:y=79 <;> by_cases d:y=80 <;> simp_all
theorem part_take(l:List U8)(a n:Nat):(l.take (a+n)).drop a=(l.drop a).take n:=by rw[List.drop_take,Nat.add_sub_cancel_left]
theorem part_sum(l:List U8)(a n:Nat):(l.take (a+n+4)).drop (a+n)=((l.drop a).drop n).take 4:=by rw[List.drop_take,List.drop_drop,Nat.add_sub_cancel_left]
theorem part_rest(l:List U8)(a n:Nat):((l.drop a).drop n).drop 4=l.drop (a+(n+4)):=by rw[List.drop_drop,List.drop_drop,show a+(n+4)=a+n+4 by omega]
theorem q78(l:List U8)(hl:l.length<=1048576):PCall Tryz.prog 78 [u8s l] (pieA l):=by
 intro H;refine aC (n:=120) Tryz.func78 λB I w0=>?_;refine S2 ?_;refine Oas ?_;refine Oas ?_;refine Oas ?_;refine S5 ?_;refine Omv ?_;refine Oln ?_;refine Ocm ?_;refine Omv ?_;refine Pmv ?_;refine OL.guardC rfl rfl rfl rfl rfl rfl (λhg=>Yt) ?_;refine Pld ?_;refine Pcm ?_;refine Opk ?_;refine Omv ?_;refine Pmv ?_;refine OL.guardC rfl rfl rfl rfl rfl rfl (λhg=>Yt) ?_;refine Pld ?_;refine Pcm ?_;refine Pmv ?_;refine Pmv ?_;refine OL.guardC rfl rfl rfl rfl rfl rfl (λhg=>Yt) ?_;refine Pld ?_;refine Pcm ?_;refine Ppk ?_;refine Opk ?_;refine S2 ?_;rw[head_nb];refine CW.cond rfl (λh0=>?_) (λh0=>?_)
 ·have hh: ¬headR l:=of_decide_eq_true h0;refine S2 ?_;refine Oas ?_;refine Oas ?_;refine Oas ?_;refine S4 ?_;refine Done.retR (rs:=[.tmp 2,.tmp 3,.tmp 4]) (H':=H) rfl (.tmp rfl (.tmp rfl (.tmp rfl (.nil)))) (.cons (.refl _) (.cons (AVle.nil 3) (.cons (.refl _) .nil))) Yb ?_;exact⟨by rw[pie_no hh];rfl,rfl⟩
 ·have hh:headR l:=by simpa using h0
  refine S4 ?_;refine Omv ?_;refine Obd ?_;refine OL.boxC rfl rfl rfl rfl rfl rfl rfl (λrb=>?_);refine Oas ?_;refine S4 ?_;refine Oas ?_;refine S4 ?_;refine CW.ownNil 6 119 3 rfl ?_;refine CW.perm (List.Perm.swap _ _ _) ?_;refine lj (λm st=>∃(a:Nat) (pre:List Sec) (v6:Value),st=⟨[(5,.p rb 0),(6,.as (pies pre) v6),(0,u8s l)],rr rb l a false::.own 119 3 v6::H⟩/\m=l.length - a/\a<=l.length/\SecAt (l.drop 2) pre (l.drop a)) (⟨2,[],_,rfl,rfl,Ybr,.begin _⟩) ?_;rintro m _ ⟨a,pre,v6,rfl,rfl,ha,hA⟩;refine S3 ?_;refine Omv ?_;refine Onc ?_;refine Ofa ?_;refine Old ?_;refine Omv ?_;refine Oln ?_;refine Ocm ?_;refine S2 ?_;refine CW.cond rfl (λh1=>?_) (λh1=>?_)
  ·replace h1:=nm h1;have hal:a<l.length:=by omega
   obtain⟨k,hk⟩:∃k,k=l.getD a default:=⟨_,rfl⟩;have hdc:=drop_cons_at hal;rw[hdc, <-hk] at hA;have hkl:=k.isLt;refine S5 ?_;refine Omv ?_
   ·refine OL.rcallS rfl rfl rfl (.mk' rfl rfl rfl rfl rfl) (q153s rb l a hl hal (.own 119 3 v6::H)) ?_;rw[<-hk];refine Oas ?_;refine S4 ?_;refine Omv ?_;have hf:=numF_le 5 (l.drop (a+1));have hmv:=manyV_le (l.drop (a+1));rw[List.length_drop] at hf hmv
    ·refine OL.rcallS rfl rfl rfl (.mk' rfl rfl rfl rfl rfl) (q97 rb l (a+1) hl hal (.own 119 3 v6::H)) ?_;refine Oas ?_;refine S5 ?_;refine Omv ?_;refine Onc ?_;refine Ofa ?_;refine Old ?_;refine Omv ?_;refine Pmv ?_;refine Par ?_;refine Pmv ?_;refine Pln ?_;refine Pmv ?_;refine Pnc ?_;refine Pfa ?_;refine Pld ?_;refine Par ?_;refine Pcm ?_;refine Opk ?_;refine S2 ?_;refine CW.cond rfl (λh2=>?_) (λh2=>?_)
     ·have hs:=hA.fail Yx (piece_bad h2 hal);refine S2 ?_;refine Oas ?_;refine Oas ?_;refine Oas ?_;refine S8 ?_;refine Done.retR (rs:=[.tmp 2,.tmp 3,.tmp 4]) (H':=H) rfl (.tmp rfl (.tmp rfl (.tmp rfl (.nil)))) (.cons (.refl _) (.cons (AVle.nil 3) (.cons (.refl _) .nil))) Yb ?_;exact⟨by rw[pie_fail hh hs.2];rfl,rfl⟩
     ·obtain⟨n,hq,hmv2,hle⟩:=piece_good h2 hal;rw[hmv2,show (manyR (l.drop (a+1))).isNone=false by rw[hq];rfl];clear h2;have ha1:=Nat.le_add_right (a+1) (numF 5 (l.drop (a+1)));generalize a+1+numF 5 (l.drop (a+1))=a1 at hq hle ha1 ⊢;refine CW.weaken (st':=⟨[(8,.i n),(7,.i k.val),(5,.p rb 0),(6,.as (pies pre) v6),(0,u8s l)],rr rb l a1 false::.own 119 3 v6::H⟩) YaL (.refl _) ?_;refine S3 ?_;refine CW.dp mixed ?_;refine DP.anyK (X:=noX) [⟨15,9,false⟩] (λJ=>match J with | [some v]=>.blk (blkOf v) 119 [.val (.int .u8 0),.val (.slice none 0 0),.b false]::rr rb l a1 false::.own 119 3 v6::H | _=>rr rb l a1 false::.own 119 3 v6::H) (λq J=>match q,J with | 0,[some v]=>.p (blkOf v) 0 | _,_=>.any) 0 16 120 rfl Ye Ye rfl rfl Ye rfl (λ_ _ _ _ _ _ _ _ _ h=>h.elim) ?_;refine UD.popK [[true],[false]] rfl Ye rfl rfl rfl ⟨λf=>POp.move rfl rfl rfl,λf=>POp.move rfl rfl rfl,trivial⟩ ?_;refine UD.popK [[true],[false]] rfl Ye rfl rfl rfl ⟨λf=>(POp.cv rfl (show aev _ _=some (true,AV.i k.val) from rfl) rfl (u8_wrap8 k)),λf=>(POp.cv rfl (show aev _ _=some (true,AV.i k.val) from rfl) rfl (u8_wrap8 k)),trivial⟩ ?_;refine UD.popK [[true],[false]] rfl Ye rfl rfl rfl ⟨λf=>POp.move rfl rfl rfl,λf=>POp.move rfl rfl rfl,trivial⟩ ?_;refine UD.popK [[true],[false]] rfl Ye rfl rfl rfl ⟨λf=>POp.move rfl rfl rfl,λf=>POp.move rfl rfl rfl,trivial⟩ ?_;refine UD.popK [[true],[false]] rfl Ye rfl rfl rfl ⟨λf=>Yr,λf=>Yr,trivial⟩ ?_;refine UD.popK [[true],[false]] rfl Ye rfl rfl rfl ⟨λf=>Yf,λf=>Yf,trivial⟩ ?_;refine UD.popK [[true],[false]] rfl Ye rfl rfl rfl ⟨λf=>Ya,λf=>Ya,trivial⟩ ?_;refine UD.popK [[true],[false]] rfl Ye rfl rfl rfl ⟨λf=>POp.move rfl rfl rfl,λf=>POp.move rfl rfl rfl,trivial⟩ ?_;refine UD.popK [[true],[false]] rfl Ye rfl rfl rfl ⟨λf=>Yr,λf=>Yr,trivial⟩ ?_;refine UD.popK [[true],[false]] rfl Ye rfl rfl rfl ⟨λf=>Yf,λf=>Yf,trivial⟩ ?_;refine UD.popK [[true],[false]] rfl Ye rfl rfl rfl ⟨λf=>Ya,λf=>Ya,trivial⟩ ?_;refine UD.popK [[true],[false]] rfl Ye rfl rfl rfl ⟨λf=>POp.move rfl rfl rfl,λf=>POp.move rfl rfl rfl,trivial⟩ ?_;refine UD.popK [[true],[false]] rfl Ye rfl rfl rfl ⟨λf=>POp.arith rfl (show aev _ _=some (true,AV.i a1) from rfl) (show aev _ _=some (true,AV.i n) from rfl) rfl rfl rfl (addK Yc),λf=>POp.arith rfl (show aev _ _=some (true,AV.i a1) from rfl) (show aev _ _=some (true,AV.i n) from rfl) rfl rfl rfl (addK Yc),trivial⟩ ?_;refine UD.popK [[true],[false]] rfl Ye rfl rfl rfl ⟨λf=>POp.slM (xs:=l) (l:=a1) (n:=a1+n) (kl:=.i64) (kh:=.i64) rfl (show aev _ _=some (true,u8s l) from rfl) rfl (show aev _ _=some (true,AV.i a1) from rfl) rfl (show aev _ _=some (true,AV.i ((a1+n:Nat):Int)) from rfl) rfl Yc,λf=>POp.slM (xs:=l) (l:=a1) (n:=a1+n) (kl:=.i64) (kh:=.i64) rfl (show aev _ _=some (true,u8s l) from rfl) rfl (show aev _ _=some (true,AV.i a1) from rfl) rfl (show aev _ _=some (true,AV.i ((a1+n:Nat):Int)) from rfl) rfl Yc,trivial⟩ ?_;refine UD.popK [[true],[false]] rfl Ye rfl rfl rfl ⟨λf=>POp.build' rfl rfl Yh rfl,λf=>POp.build' rfl rfl Yh rfl,trivial⟩ ?_;refine UD.effK 0 [[false]] rfl rfl rfl Ye rfl rfl rfl ⟨λf=>⟨KOk.al rfl (λ_=>rfl) (λ_=>rfl),Yj⟩,trivial⟩ ?_;refine UD.nil (λf=>?_);simp only[kvals,List.map_cons,List.map_nil,List.cons_append,List.nil_append];generalize blkOf (f 9)=b9;refine DP.tailC 16 Ye rfl ?_;refine Sto ?_;refine S3 ?_;refine CW.dp mixed ?_;refine DP.anyC 0 14 120 rfl Ye rfl rfl Ye ?_;refine Amv ?_;refine Amv ?_;refine Anc ?_;refine Afa ?_;refine Ald ?_;refine Amv ?_;refine AD.popC rfl rfl rfl (POp.arith rfl rfl rfl rfl rfl rfl (addK Yc)) ?_;refine Amv ?_;refine Anc ?_;refine Afa ?_;refine Ald ?_;refine Amv ?_;refine AD.popC rfl rfl rfl (POp.arith rfl rfl rfl rfl rfl rfl (addK Yc)) ?_;refine AD.popC rfl rfl rfl (POp.arith rfl rfl rfl rfl rfl rfl (addK (m:=4) Yc)) ?_;refine AD.nil ?_;refine DP.tailC 14 Ye rfl ?_;refine oP (POp.slM (xs:=l) (l:=a1+n) (n:=a1+n+4) rfl rfl rfl rfl rfl rfl rfl Yc) ?_;refine Oas ?_;refine S3 ?_;obtain⟨body,hbody⟩:∃body,body=(l.drop a1).take n:=⟨_,rfl⟩;rw[part_take l a1 n,part_sum l a1 n, <-hbody];have hbl:body.length<=l.length:=by rw[hbody,List.length_take,List.length_drop];omega
      refine S1 ?_;refine Omv ?_;refine Ofa ?_;refine Old ?_;refine OL.rowOwn (els:=[[u8 k]]) rfl rfl rfl rfl Yh rfl rfl rfl rfl rfl rfl rfl (λv95=>?_);refine Ofa ?_;refine Old ?_;refine OL.appendC rfl rfl rfl rfl rfl rfl rfl rfl (AVle.refl _) (one_map (λ_=>rfl) body) (λv=>by repeat (first | exact Upd.head _ _ _ | apply Upd.tail)) YC YC (λv98=>?_);refine OL.le 98 (y:=u8s (k::body)) rfl (AVle.asL _ _) ?_;refine oP (POp.call .k (q154 k body (k::body) rfl Yc)) ?_;refine oP (POp.call .k (q17 _ _)) ?_;refine Ont ?_;refine Ofa ?_;refine Sto ?_;refine S4 ?_;refine Omv ?_;refine Onc ?_;refine Ofa ?_;refine Old ?_;refine Omv ?_;refine oP (POp.arith rfl rfl rfl rfl rfl rfl (addK (m:=4) Yc)) ?_;refine oP (POp.arith rfl rfl rfl rfl rfl rfl (addK Yc)) ?_;refine Onc ?_;refine Ofa ?_;refine Sto ?_;refine S2 ?_;have h4:4<=((l.drop a1).drop n).length:=by rw[List.length_drop,List.length_drop];omega
      have hst:=secR_good (k:=k) hq h4;rw[part_rest, <-hbody] at hst;have hA1:=hA.step hst;obtain⟨s,hs⟩:∃s:Sec,s=⟨k,body,!(((l.drop a1).drop n).take 4==sumR k body)⟩:=⟨_,rfl⟩;rw[<-hs] at hA1;have hpl:=hA1.pre.length_le;have hsc:=secs_count (l.drop 2);rw[List.length_append,List.length_singleton] at hpl;rw[List.length_drop] at hsc;refine S1 ?_;refine Omv ?_;refine Ola ?_;refine OL.popC (x:=.sl 3 [pieC s]) rfl rfl rfl (by rw[hs];exact POp.row rfl rfl Yh rfl rfl rfl rfl rfl rfl) ?_;refine OL.appendC rfl rfl rfl rfl rfl rfl rfl rfl (AVle.refl _) (rfl) (λv=>by repeat (first | exact Upd.head _ _ _ | apply Upd.tail)) Yp Yp (λv115=>?_);refine Oas ?_;refine S2 ?_;exact ag (⟨a1+(n+4),pre++[s],v115,by rw[show pies (pre++[s])= .sl 3 (pre.map pieC++[pieC s]) by rw[pies,List.map_append];rfl],rfl,Yc,hA1⟩)
  ·replace h1:=nm h1;obtain rfl:a=l.length:=by omega
   rw[List.drop_length] at hA;refine S7 ?_;refine Omv ?_;refine oP ((by first | exact POp.ixM rfl rfl rfl rfl rfl Ybr | exact POp.ixI rfl rfl rfl rfl rfl Ybr)) ?_;refine Old ?_;refine Omv ?_;refine Oas ?_;refine Oas ?_;refine Oas ?_;refine S3 ?_;refine Done.retR (rs:=[.tmp 2,.tmp 3,.tmp 4]) (H':=H) rfl (.tmp rfl (.tmp rfl (.tmp rfl (.nil)))) (.cons (.refl _) (.cons (AVle.asL _ _) (.cons (.refl _) .nil))) Yb ?_;exact⟨by rw[pie_good hh hA.stop.2,hA.stop.1];rfl,rfl⟩
end Go.Proofs.YtpgnjlngepfanaaGreat

namespace Go.Proofs.YtpgnjlngepfanaaGreat
open Go.Eng
open Go.Eng.Fc
open Go.Eng.Bd
open Go.Eng.Im (U8 u8 u8s sumR numberR manyR splitR Sec)
variable{σ:Type}{l:List U8}{p:Prog}
def factR2:Nat->Rd Nat Fact
 | 0=>λ_ _=>none
 | d+1=>thenR numR λop=>needR (opR op) (factB (factR2 d) op)
def mthR2:Rd σ Mth:=thenR numR λk=>thenR numR λg=>λs l=>match factR2 12 0 l with
 | none=>none
 | some (f,_,l1)=>(thenR numR λn=>doneR ⟨k,g,f,n⟩) s l1
def gensP(gens:List Int):Prog:=⟨[],0,gens,[],[],0⟩
def ndOk(gens:List Int)(op n:Int):Bool:=decide (1<=op) && decide (op<=18) && !(decide (op=5) && decide (n>=gens.length))
def ndR2(gens:List Int):Rd σ Nd:=thenR numR λop=>thenR (ndNR op) λn=>needR (ndOk gens op n) (thenR (timesR numR (kidsR (gensP gens) ⟨op,n,[]⟩).toNat) λks=>doneR ⟨op,n,ks⟩)
def progT2(cs:List Cls)(s:Int):Rd Unit Prog:=thenR (listR numR) λgs=>thenR (listR mthR2) λms=>needR (gs.all λg=>decide (g<=3)) (thenR (listR (ndR2 gs)) λns=>thenR numR λm=>doneR ((⟨cs,s,gs,ms,ns,m⟩:Prog)))
def progR2:List U8->Option (Prog×List U8):=λl=>match listR clsR 0 l with
 | none=>none
 | some (cs,s,l1)=>(progT2 cs s () l1).map λq=>(q.1,q.2.2)
theorem progR2_some{l l1:List U8}{cs:List Cls}{s:Int}(h:listR clsR 0 l=some (cs,s,l1)):progR2 l=(progT2 cs s () l1).map λq=>(q.1,q.2.2):=by rw[progR2,h]
def refR(b:List U8):Option (Prog×List Th):=match bodiesR b 79 [1,2] with
 | some [b1,b2]=>match progR2 b1 with
  | none=>none
  | some (p,l1)=>if l1= []/\(sizesP p).isSome=true then (match listR (thR p) () b2 with
   | none=>none
   | some (objs,_,l2)=>if l2= []/\checkP p objs=true then some (p,objs) else none) else none
 | _=>none
theorem kids_gens(p:Prog)(x:Nd):kidsR p x=kidsR (gensP p.gens) ⟨x.op,x.n,[]⟩:=rfl
theorem inv_fact2:∀d,Inv (factR2 d) factW
 | 0,s,l,x,s',l',h=>by cases h
 | d+1,s,l,x,s',l',h=>by
  rw[factR2] at h;obtain⟨op,s1,l1,h1,h⟩:=thenR_inv h;obtain⟨hop,h⟩:=needR_inv h;obtain⟨h2,h3⟩:=num_inv h1;unfold factB at h;split at h
  ·rename_i e;obtain⟨a,s2,l2,h4,h⟩:=thenR_inv h;obtain⟨ps,s3,l3,h5,h⟩:=thenR_inv h;obtain⟨c,s4,l4,h6,h⟩:=thenR_inv h;cases h;rw[h2,inv_num _ _ _ _ _ h4,inv_num.list _ _ _ _ _ h5,inv_num _ _ _ _ _ h6,factW,factsW,leafW,if_pos e];simp only[List.append_assoc,List.append_nil]
  ·split at h
   ·rename_i e1 e;obtain⟨a,s2,l2,h4,h⟩:=thenR_inv h;obtain⟨ps,s3,l3,h5,h⟩:=thenR_inv h;obtain⟨c,s4,l4,h6,h⟩:=thenR_inv h;cases h;rw[h2,inv_num _ _ _ _ _ h4,inv_num.list _ _ _ _ _ h5,int_inv h6,factW,factsW,leafW,if_neg e1,if_pos e];simp only[List.append_assoc,List.append_nil]
   ·rename_i e1 e2;obtain⟨ks,s2,l2,h4,h⟩:=thenR_inv h;cases h;obtain⟨h5,h6⟩:=(inv_fact2 d).times _ _ _ _ _ _ h4;rw[h2,h5,factW,factsW_map,leafW,if_neg e1,if_neg e2];simp only[List.append_assoc,List.nil_append]
theorem inv_mth2:Inv (mthR2 (σ:=σ)) mthW:=λs l x s' l' h=>by
 obtain⟨k,s1,l1,h1,h⟩:=thenR_inv h;obtain⟨g,s2,l2,h2,h⟩:=thenR_inv h;split at h
 ·cases h
 ·rename_i f s3 l3 h3;obtain⟨n,s4,l4,h4,h⟩:=thenR_inv h;cases h;rw[inv_num _ _ _ _ _ h1,inv_num _ _ _ _ _ h2,inv_fact2 12 _ _ _ _ _ h3,inv_num _ _ _ _ _ h4,mthW];simp only[List.append_assoc]
theorem inv_nd2(gens:List Int):Inv (ndR2 (σ:=σ) gens) ndW:=λs l x s' l' h=>by
 obtain⟨op,s1,l1,h1,h⟩:=thenR_inv h;obtain⟨n,s2,l2,h2,h⟩:=thenR_inv h;obtain⟨_,h⟩:=needR_inv h;obtain⟨ks,s3,l3,h3,h⟩:=thenR_inv h;cases h;obtain⟨h5,h6⟩:=inv_num.times _ _ _ _ _ _ h3;have h4:l1=ndN ⟨op,n,ks⟩++l2:=by
  unfold ndNR at h2;unfold ndN;split at h2
  ·rename_i e;rw[if_pos (by exact e)];exact int_inv h2
  ·rename_i e;split at h2
   ·rename_i e2;rw[if_neg (by exact e),if_pos (by exact e2)];exact (num_inv h2).1
   ·rename_i e2;rw[if_neg (by exact e),if_neg (by exact e2)];cases h2;rfl
 rw[inv_num _ _ _ _ _ h1,h4,h5,ndW];simp only[List.append_assoc]
theorem inv_prog2{l l':List U8}(h:progR2 l=some (p,l')):l=progW p++l':=by
 rcases h1:listR clsR 0 l with _ | ⟨cs,s,l1⟩
 ·rw[progR2,h1] at h;cases h
 ·rw[progR2_some h1] at h;obtain⟨q,h2,h3⟩:=Option.map_eq_some_iff.1 h;obtain⟨x,u,l2⟩:=q;cases h3;unfold progT2 at h2;obtain⟨gs,s1,l3,h4,h2⟩:=thenR_inv h2;obtain⟨ms,s2,l4,h5,h2⟩:=thenR_inv h2;obtain⟨_,h2⟩:=needR_inv h2;obtain⟨ns,s3,l5,h6,h2⟩:=thenR_inv h2;obtain⟨m,s4,l6,h7,h2⟩:=thenR_inv h2;cases h2;rw[inv_cls.list _ _ _ _ _ h1,inv_num.list _ _ _ _ _ h4,inv_mth2.list _ _ _ _ _ h5,(inv_nd2 gs).list _ _ _ _ _ h6,inv_num _ _ _ _ _ h7,progW];simp only[List.append_assoc]
mutual
def dpF:Fact->Nat
 | .mk _ _ _ _ _ kids=>1+dpFs kids
def dpFs:List Fact->Nat
 | []=>0
 | f::r=>max (dpF f) (dpFs r)
end
theorem dpFs_all:∀{l:List Fact} {f:Fact},f∈l->dpF f<=dpFs l
 | g::r,f,hf=>by
  rw[dpFs];rcases List.mem_cons.1 hf with rfl | hf
  ·omega
  ·have:=dpFs_all hf;omega
theorem wfFs_all:∀{l:List Fact},wfFs l->∀f∈l,wfF f
 | [],_,f,h=>by cases h
 | g::r,h,f,hf=>by
  rw[wfFs] at h;rcases List.mem_cons.1 hf with rfl | hf
  ·exact h.1
  ·exact wfFs_all h.2 f hf
mutual
theorem node_dp{w:Fc.FW}:∀(f:Fact) (left deep:Int),0<=deep->(nodeP w f left deep).1=true->(dpF f:Int)<=deep
 | .mk op arg path cls n kids,left,deep,h0,h=>by
  rw[nodeP] at h;by_cases h1:badP (.mk op arg path cls n kids) (left - 1) deep=true
  ·rw[if_pos h1] at h;cases h
  rw[if_neg h1] at h;have h2:badP (.mk op arg path cls n kids) (left - 1) deep=false:=by simpa using h1
  rw[badP,Bool.or_eq_false_iff,Bool.or_eq_false_iff,Bool.or_eq_false_iff,Bool.or_eq_false_iff] at h2;have hd:deep≠0:=beq_eq_false_iff_ne.1 h2.1.1.1.2;have hk:(kids.length:Int)=kidsP op:=bne_eq_false_iff_eq.1 h2.2;rw[dpF];by_cases hl:leafP (.mk op arg path cls n kids)=true
  ·have hl:2<=op/\op<=4:=by rw[leafP,Bool.and_eq_true] at hl;exact⟨of_decide_eq_true hl.1,of_decide_eq_true hl.2⟩
   have hk0:kids= []:=by
    have:kidsP op=0:=by unfold kidsP;rw[if_neg Yc,if_neg Yc]
    exact List.eq_nil_of_length_eq_zero Yc
   rw[hk0,dpFs];omega
  ·rw[if_neg hl] at h;by_cases hp:plainP (.mk op arg path cls n kids)=true
   ·rw[if_pos hp] at h;have:=nodes_dp kids (left - 1) (deep - 1) Yc h;omega
   ·rw[if_neg hp] at h;cases h
theorem nodes_dp{w:Fc.FW}:∀(l:List Fact) (left deep:Int),0<=deep->(nodesP w l left deep).1=true->(dpFs l:Int)<=deep
 | [],left,deep,h0,h=>by rw[dpFs];omega
 | k::r,left,deep,h0,h=>by
  rw[nodesP] at h;by_cases hk:(nodeP w k left deep).1=true
  ·rw[if_pos hk] at h;have h1:=node_dp k _ _ h0 hk;have h2:=nodes_dp r _ _ h0 h;rw[dpFs];omega
  ·rw[if_neg hk] at h;exact absurd h hk
end
theorem fact_fwd2:∀(d:Nat) (x:Fact) (k:Nat) (r:List U8),okF x->wfF x->dpF x<=d->factR2 d k (factW x++r)=some (x,k,r)
 | 0,.mk op arg path cls n kids,k,r,ho,hw,hc=>by rw[dpF] at hc;omega
 | d+1,.mk op arg path cls n kids,k,r,ho,hw,hc=>by
  rw[dpF] at hc;rw[wfF] at hw;obtain⟨w1,w2,w3,w4,w5⟩:=hw;have h1:=okF_iff ho;rw[okF] at ho;have e:factW (.mk op arg path cls n kids)++r=numI op++(leafW op arg path cls n++(kids.flatMap factW++r)):=by
   rw[factW,factsW_map];simp only[List.append_assoc]
  rw[e,factR2,thenR_some (num_fwd ho.1 k _),needR_yes Ya4,factB];by_cases e2:op=2
  ·obtain⟨rfl,rfl⟩:=w2 e2;obtain⟨a1,a2,a3⟩:=ho.2.2.2.1 Yc;rw[if_pos e2,leafW,if_pos e2];simp only[List.append_assoc,List.flatMap_nil,List.nil_append];rw[thenR_some (num_fwd a1 k _),thenR_some (list_fwd0 (ok:=okN) (λs x r h=>num_fwd h s r) numI_pos Yc a3 k _),thenR_some (num_fwd (ho.2.1 e2) k r)];rfl
  ·by_cases e3:op=3\/op=4
   ·obtain⟨rfl,rfl⟩:=w3 e3;obtain⟨a1,a2,a3⟩:=ho.2.2.2.1 Yc;rw[if_neg e2,if_pos e3,leafW,if_neg e2,if_pos e3];simp only[List.append_assoc,List.flatMap_nil,List.nil_append];rw[thenR_some (num_fwd a1 k _),thenR_some (list_fwd0 (ok:=okN) (λs x r h=>num_fwd h s r) numI_pos Yc a3 k _),thenR_some (int_fwd (ho.2.2.1 e3) k r)];rfl
   ·obtain⟨rfl,rfl,rfl,rfl,hkl⟩:=w4 Yc;rw[if_neg e2,if_neg e3,leafW,if_neg e2,if_neg e3,List.nil_append, <-hkl];have hks:∀x∈kids,okF x/\wfF x/\dpF x<=d:=λx hx=>⟨h1.kids x hx,wfFs_all w5 x hx,by have:=dpFs_all hx;omega⟩;rw[thenR_some (times_fwd0 (ok:=λx=>okF x/\wfF x/\dpF x<=d) (λs x r h=>fact_fwd2 d x s r h.1 h.2.1 h.2.2) hks k r)];rfl
theorem mth_fwd2{x:Mth}(h:okM x)(hw:wfF x.fact)(hc:dpF x.fact<=12)(s:σ)(r:List U8):mthR2 s (mthW x++r)=some (x,s,r):=by
 rw[mthR2,mthW];simp only[List.append_assoc];rw[thenR_some (num_fwd h.kind s _),thenR_some (num_fwd h.gen s _),fact_fwd2 12 x.fact 0 _ h.fact hw hc];simp only;rw[thenR_some (num_fwd h.node s r)];rfl
theorem nd_fwd2{gens:List Int}{x:Nd}(h:okNd x)(hk:kidsR (gensP gens) ⟨x.op,x.n,[]⟩=(x.kids.length:Int))(ho:ndOk gens x.op x.n=true)(hn:x.op≠1->nodeNum x.op=false->x.n=0)(s:σ)(r:List U8):ndR2 gens s (ndW x++r)=some (x,s,r):=by
 have h1:∀r,ndNR x.op s (ndN x++r)=some (x.n,s,r):=λr=>by
  unfold ndNR ndN;by_cases e:x.op=1
  ·rw[if_pos e,if_pos e];exact int_fwd (h.i e) s r
  ·rw[if_neg e,if_neg e];by_cases e2:nodeNum x.op=true
   ·rw[if_pos e2,if_pos e2];exact num_fwd (h.n e2) s r
   ·rw[if_neg e2,if_neg e2,hn e (by simpa using e2)];rfl
 rw[ndR2,ndW];simp only[List.append_assoc];rw[thenR_some (num_fwd h.op s _),thenR_some (h1 _),needR_yes ho,hk,Int.toNat_natCast,thenR_some (times_fwd0 (ok:=okN) (λs x r h=>num_fwd h s r) h.kids s r)];rfl
theorem good_kids{x:Nd}{next:Bool}{sz:Int}(hg:∀n∈p.gens,1<=n/\n<=3)(h:goodN p next x sz=true):kidsR (gensP p.gens) ⟨x.op,x.n,[]⟩=(x.kids.length:Int)/\ndOk p.gens x.op x.n=true/\(x.op≠1->nodeNum x.op=false->x.n=0):=by
 obtain⟨_,k2,k3⟩:=kidsN_of hg h;have h1:=kids_eq p x sz next;rw[h] at h1;have h2:((x.kids.length:Int) !=kidsR p x)=false:=by
  cases hc:((x.kids.length:Int) !=kidsR p x) with
  | false=>rfl
  | true=>rw[hc] at h1;cases h1
 refine⟨by rw[<-kids_gens];exact (bne_eq_false_iff_eq.1 h2).symm,?_,k3⟩;rw[ndOk,decide_eq_true k2.1,decide_eq_true k2.2,Bool.true_and,Bool.true_and];by_cases h5:x.op=5
 ·simp only[goodN,Bool.and_eq_true] at h;have h6:=h.1.1;rw[numP,if_neg Yc,if_neg Yc,Bool.and_eq_true,decide_eq_true_eq,decide_eq_true_eq,mostP,if_neg Yc,if_neg Yc,if_pos h5] at h6;rw[decide_eq_false (p:=x.n>=_) Yc,Bool.and_false];rfl
 ·rw[decide_eq_false h5];rfl
theorem methods_dp{p:Prog}:∀(l:List Mth) (o o':List Int),methodsN p l o=some o'->∀m∈l,dpF m.fact<=12
 | [],o,o',h,m,hm=>by cases hm
 | y::r,o,o',h,m,hm=>by
  rw[methodsN] at h;split at h
  ·rename_i hy;rw[Bool.and_eq_true] at hy;split at h
   ·cases h
   ·rename_i o1 hv;rcases List.mem_cons.1 hm with rfl | hm
    ·have h2:=hy.2;simp only[mth2,Bool.and_eq_true] at h2;have:=node_dp m.fact 24 12 YL h2.1.2;omega
    ·exact methods_dp r o1 o' h m hm
  ·cases h
theorem prog_fwd2(h:(sizesP p).isSome=true):progR2 (progW p)=some (p,[]):=by
 have hok:=okP_of h;obtain⟨hnk,hg,hms⟩:=nodes_known h;obtain⟨o,ho⟩:=Option.isSome_iff_exists.1 h;obtain⟨hc,hh,_,o1,hmn,_⟩:=sizes_parts ho;have hdp:=methods_dp _ _ _ hmn;have hsA:slotsA p.classes 0=true:=by simp only[classesP,Bool.and_eq_true] at hc;exact hc.1.1.2
 have hcnt:(slotsCnt p.classes:Int)=p.slots:=by simp only[classesP,Bool.and_eq_true,beq_iff_eq] at hc;exact hc.1.2.1
 obtain⟨hA,hF⟩:=classes_all p.classes 0 hsA hok.cs;have hcl:=hok.cl;have hgl:=hok.gl;have hml:=hok.ml;have hnl:=hok.nl;have e:progW p=listW clsW p.classes++(listW numI p.gens++(listW mthW p.methods++(listW ndW p.nodes++(numI p.main++[])))):=by
  rw[progW];simp only[List.append_assoc,List.append_nil]
 rw[e,progR2_some (list_fwd (f:=clsW) (λs x r h=>cls_fwd h.1 h.2.1 h.2.2 r) clsW_pos Yc hA _),hF,progT2];rw[thenR_some (list_fwd0 (ok:=okN) (λs x r h=>num_fwd h s r) numI_pos Yc hok.gs () _)];rw[thenR_some (list_fwd0 (ok:=λx=>okM x/\wfF x.fact/\dpF x.fact<=12) (λs x r h=>mth_fwd2 h.1 h.2.1 h.2.2 s r) (λx=>pos_left (pos_left (pos_left (numI_pos _)))) Yc (λx hx=>⟨hok.ms x hx,(hms x hx).1,hdp x hx⟩) () _)];rw[needR_yes (List.all_eq_true.2 λg hg'=>decide_eq_true (hg g hg').2)];rw[thenR_some (list_fwd0 (R:=ndR2 p.gens) (f:=ndW) (ok:=λx=>okNd x/\NdKnown p x) (λs x r h=>by
  obtain⟨⟨next,sz,_,hgd⟩,_⟩:=h.2;obtain⟨k1,k2,k3⟩:=good_kids hg hgd;exact nd_fwd2 h.1 k1 k2 k3 s r) (λx=>pos_left (pos_left (numI_pos _))) Yc (λx hx=>⟨hok.ns x hx,hnk x hx⟩) () _)]
 rw[thenR_some (num_fwd hok.main () [])];simp only[doneR,Option.map_some];rw[show ((0+slotsCnt p.classes:Nat):Int)=p.slots by rw[<-hcnt];simp]
theorem ref_prog{b:List U8}(h:(sizesP p).isSome=true)(hl:l= []):progR b=some (p,l)↔progR2 b=some (p,l):=by
 subst hl;constructor
 ·intro h1;have:=inv_prog h1;rw[List.append_nil] at this;rw[this];exact prog_fwd2 h
 ·intro h1;have:=inv_prog2 h1;rw[List.append_nil] at this;rw[this];exact prog_fwd h
theorem ref_read(b:List U8):refR b=readR b:=by
 unfold refR readR;split
 ·rename_i b1 b2 hb;rw[hb];simp only;rcases h1:progR b1 with _ | ⟨p,l1⟩
  ·rcases h2:progR2 b1 with _ | ⟨p2,l2⟩
   ·rfl
   ·simp only;rw[if_neg];rintro⟨h3,h4⟩;rw[(ref_prog h4 h3).2 h2] at h1;cases h1
  ·by_cases h3:l1= []/\(sizesP p).isSome=true
   ·rw[(ref_prog h3.2 h3.1).1 h1];rfl
   ·simp only;rw[if_neg h3];rcases h2:progR2 b1 with _ | ⟨p2,l2⟩
    ·rfl
    ·simp only;rw[if_neg];rintro⟨h4,h5⟩;rw[(ref_prog h5 h4).2 h2] at h1;cases h1;exact h3 ⟨h4,h5⟩
 ·rename_i hno;split
  ·rename_i b1 b2 hb;exact absurd hb (hno b1 b2)
  ·rfl
end Go.Proofs.YtpgnjlngepfanaaGreat

namespace Go.Proofs.YtpgnjlngepfanaaGreat
open Go.Eng
open Go.Eng.Fc
open Go.Eng.Bd
open Go.Eng.Im (U8 u8 u8s numberR manyR)
open Go.Eng.Im
variable{σ α:Type}{l:List U8}{i i' k i1:Nat}{b' b b1:Bool}{n:Int}
structure RTo{σ α:Type}(R:Rd σ α)(s:σ)(l:List U8)(i:Nat)(bad:Bool)(z:α)(s':σ)(i':Nat)(b':Bool):Prop where
 le:i'<=l.length
 go:b'=false->bad=false/\R s (l.drop i)=some (z,s',l.drop i')
 no:b'=true->bad=true\/R s (l.drop i)=none
theorem RTo.bad{σ α:Type}{R:Rd σ α}{s s':σ}{l:List U8}{i i':Nat}{bad:Bool}{z:α}(h:bad=true\/R s (l.drop i)=none)(hi:i'<=l.length):RTo R s l i bad z s' i' true:=⟨hi,λe=>Bool.noConfusion e,λ_=>h⟩
theorem RTo.stay{R:Rd σ α}{s s':σ}{z:α}(h:RTo R s l i true z s' i' b'):b'=true:=by
 cases b' with
 | true=>rfl
 | false=>cases (h.go rfl).1
theorem RTo.bind{σ α β:Type}{R:Rd σ α}{k:α->Rd σ β}{s s1 s2:σ}{i i1 i2:Nat}{b b1 b2:Bool}{a:α}{z:β}(h1:RTo R s l i b a s1 i1 b1)(h2:RTo (k a) s1 l i1 b1 z s2 i2 b2):RTo (thenR R k) s l i b z s2 i2 b2:=by
 refine⟨h2.le,λe=>?_,λe=>?_⟩
 ·obtain⟨e1,e2⟩:=h2.go e;obtain⟨e3,e4⟩:=h1.go e1;exact⟨e3,by rw[thenR_some e4,e2]⟩
 ·cases hb:b1 with
  | true=>
   rcases h1.no hb with h | h
   ·exact .inl h
   ·exact .inr (thenR_none h)
  | false=>
   obtain⟨_,e4⟩:=h1.go hb;rcases h2.no e with h | h
   ·rw[hb] at h;cases h
   ·exact .inr (by rw[thenR_some e4,h])
theorem RTo.done(z:α){s:σ}{l:List U8}{i:Nat}{b:Bool}(hi:i<=l.length):RTo (doneR z) s l i b z s i b:=⟨hi,λe=>⟨e,rfl⟩,λe=>.inl e⟩
theorem RTo.map{σ α β:Type}{R:Rd σ α}{s s1:σ}{a:α}(f:α->β)(h1:RTo R s l i b a s1 i1 b1):RTo (thenR R λx=>doneR (f x)) s l i b (f a) s1 i1 b1:=h1.bind (.done _ h1.le)
theorem RTo.need{R:Rd σ α}{s s':σ}{b b' c:Bool}{z:α}(hc:c=true)(h:RTo R s l i b z s' i' b'):RTo (needR c R) s l i b z s' i' b':=⟨h.le,λe=>by rw[needR_yes hc];exact h.go e,λe=>by rw[needR_yes hc];exact h.no e⟩
theorem RTo.needNo{R:Rd σ α}{s s':σ}{b c:Bool}{z:α}(hc:c=false)(hi:i'<=l.length):RTo (needR c R) s l i b z s' i' true:=.bad (.inr (needR_no hc)) hi
structure TTo{σ α:Type}(R:Rd σ α)(n:Nat)(s0:σ)(l:List U8)(i0:Nat)(bad0:Bool)(k:Nat)(out:List α)(s:σ)(i:Nat)(b:Bool):Prop where
 le:i<=l.length
 len:out.length=k
 go:b=false->bad0=false/\timesR R n s0 (l.drop i0)=(timesR R (n - k) s (l.drop i)).map λp=>(out++p.1,p.2.1,p.2.2)
 no:b=true->bad0=true\/timesR R n s0 (l.drop i0)=none
theorem TTo.begin(R:Rd σ α)(n:Nat)(s:σ){l:List U8}{i:Nat}(b:Bool)(hi:i<=l.length):TTo R n s l i b 0 [] s i b:=⟨hi,rfl,λe=>⟨e,times_begin _ _ _ _⟩,λe=>.inl e⟩
theorem TTo.step{R:Rd σ α}{n:Nat}{s0 s s':σ}{i0 i i' k:Nat}{b0 b':Bool}{out:List α}{z:α}(h:TTo R n s0 l i0 b0 k out s i false)(hk:k<n)(hr:RTo R s l i false z s' i' b'):TTo R n s0 l i0 b0 (k+1) (out++[z]) s' i' b':=by
 obtain⟨e1,e2⟩:=h.go rfl;obtain⟨t1,t2⟩:=times_snoc hk e2;refine⟨hr.le,by rw[List.length_append,h.len];rfl,λe=>⟨e1,t2 _ _ _ (hr.go e).2⟩,λe=>?_⟩;rcases hr.no e with h1 | h1
 ·cases h1
 ·exact .inr (t1 h1)
theorem TTo.fin{R:Rd σ α}{n:Nat}{s0 s:σ}{i0 i k:Nat}{b0 b:Bool}{out:List α}(h:TTo R n s0 l i0 b0 k out s i b)(hk:b=true\/k=n):RTo (timesR R n) s0 l i0 b0 out s i b:=by
 refine⟨h.le,λe=>?_,h.no⟩;rcases hk with hk | rfl
 ·rw[hk] at e;cases e
 ·obtain⟨e1,e2⟩:=h.go e;exact⟨e1,times_end e2⟩
abbrev RX(enc:α->AV)(R:Rd σ α)(s:σ)(rb:Nat)(l:List U8)(i:Nat)(bad:Bool)(H:List Ent)(q:α->Prop):AV->List Ent->Prop:=λy H'=>∃z s' i' b',y=enc z/\H'=rr rb l i' b'::H/\q z/\RTo R s l i bad z s' i' b'
abbrev isN(n:Int):Prop:=0<=n/\n<34359738368
theorem drop_plus(l:List U8)(i n:Nat):(l.drop i).drop n=l.drop (i+n):=by rw[List.drop_drop]
theorem q167b(rb:Nat)(l:List U8)(i:Nat)(hi:i<=1048576)(H:List Ent):ACall Tryz.prog 167 [.p rb 0] (rr rb l i true::H) (λy H'=>y= .i 0/\H'=rr rb l i true::H) (λ_ _=>False):=by
 refine aC (n:=34) Tryz.func167 λB I w0=>?_;refine Z18 ?_;refine lj (λm st=>st=⟨[(3,.i 0),(4,.i 1),(5,.i 0),(0,.p rb 0)],rr rb l i true::H⟩/\m=0) (⟨rfl,rfl⟩) ?_;rintro m _ ⟨rfl,rfl⟩;refine Z7 ?_;refine CW.cond rfl (λh0=>?_) (λh0=>?_)
 ·replace h0:=nm h0;refine Z7 ?_;refine bC .k (((q153f rb l i hi true (.inl rfl) H).ok).b) ?_;rintro _ _ ⟨rfl,rfl⟩;refine Z7 ?_;refine oP (POp.div rfl rfl rfl rfl rfl YL (.inr ⟨rfl,(by decide:(0:Int)=Int.tmod 0 128)⟩)) ?_;refine Z19 ?_;refine CW.cond rfl (λh1=>?_) (λh1=>?_)
  ·replace h1:=nm h1;refine Z11 ?_;refine CW.cond rfl (λh2=>?_) (λh2=>?_)
   ·exact absurd h2 Yx
   ·replace h2:=nm h2;refine Z14 ?_;refine r1 2 (rr rb l i true::H) ?_;exact⟨rfl,rfl⟩
  ·exact absurd h1 YL
 ·exact absurd h0 YL
theorem numX(s:σ)(rb:Nat)(l:List U8)(i:Nat)(bad:Bool)(hl:l.length<=1048576)(hi:i<=l.length)(H:List Ent):ACall Tryz.prog 167 [.p rb 0] (rr rb l i bad::H) (RX (λn=>.i n) numR s rb l i bad H isN) (λ_ _=>False):=by
 cases bad with
 | true=>exact ACall.weak (q167b rb l i Yc H) (λy H' ⟨e1,e2⟩=>⟨0,s,i,true,e1,e2,⟨YL,YL⟩,.bad (.inl rfl) hi⟩) (λ_ _ h=>h)
 | false=>
  refine ACall.weak (q167 rb l i hl hi H).ok (λy H' ⟨e1,e2⟩=>⟨_,s,_,_,e1,e2,⟨Yc,by have:=numV_lt (l.drop i);omega⟩,?_⟩) (λ_ _ h=>h);have hf:=numF_le 5 (l.drop i);rw[List.length_drop] at hf;rcases hn:numberR (l.drop i) with _ | ⟨n,r⟩
  ·exact .bad (.inr (numR_none hn)) Yc
  ·have h1:=numR_drop hn;refine⟨Yc,λ_=>⟨rfl,?_⟩,λe=>by cases e⟩;rw[numR_some hn,numV_some hn,h1,drop_plus]
theorem zn_odd(h:isN n)(h1:n.tmod 2=1):IntKind.i64.wrap ((0 - (n+1)).tdiv 2)=znOf n:=by
 have h0:=h.1;have h2:=h.2;rw[Int.tmod_eq_emod_of_nonneg h0] at h1;have e:(0 - (n+1)).tdiv 2= -((n+1) / 2):=by rw[Int.zero_sub,Int.neg_tdiv,Int.tdiv_eq_ediv_of_nonneg Yc]
 rw[e,znOf,if_pos h1,wrap64 Yc];omega
theorem zn_even(h:isN n)(h1: ¬n.tmod 2=1):IntKind.i64.wrap (n.tdiv 2)=znOf n:=by
 have h0:=h.1;have h2:=h.2;rw[Int.tmod_eq_emod_of_nonneg h0] at h1;rw[Int.tdiv_eq_ediv_of_nonneg h0,znOf,if_neg h1,wrap64 Yc]
theorem many_of{s s1:σ}(h:RTo numR s l i b n s1 i1 b1)(h0:0<=n)(hn:n<=(l.length:Int) - i1):RTo manyRd s l i b n.toNat s1 i1 b1:=by
 refine⟨h.le,λe=>?_,λe=>?_⟩
 ·obtain⟨e1,e2⟩:=h.go e;refine⟨e1,?_⟩;rcases hq:numberR (l.drop i) with _ | ⟨m,r⟩
  ·rw[numR_none hq] at e2;cases e2
  ·rw[numR_some hq] at e2;simp only[Option.some.injEq,Prod.mk.injEq] at e2;obtain⟨rfl,rfl,rfl⟩:=e2;rw[manyRd,manyR,hq];simp only;rw[if_pos Ybb,Int.toNat_natCast]
 ·rcases h.no e with h1 | h1
  ·exact .inl h1
  ·right;rcases hq:numberR (l.drop i) with _ | ⟨m,r⟩
   ·rw[manyRd,manyR,hq]
   ·rw[numR_some hq] at h1;cases h1
theorem many_no{s s1 s':σ}{z:Nat}(h:RTo numR s l i b n s1 i1 b1)(hn: ¬n<=(l.length:Int) - i1)(hi:i'<=l.length):RTo manyRd s l i b z s' i' true:=by
 refine .bad ?_ hi;cases hb:b1 with
 | true=>
  rcases h.no hb with h1 | h1
  ·exact .inl h1
  ·right;rcases hq:numberR (l.drop i) with _ | ⟨m,r⟩
   ·rw[manyRd,manyR,hq]
   ·rw[numR_some hq] at h1;cases h1
 | false=>
  obtain⟨e1,e2⟩:=h.go hb;right;rcases hq:numberR (l.drop i) with _ | ⟨m,r⟩
  ·rw[manyRd,manyR,hq]
  ·rw[numR_some hq] at e2;simp only[Option.some.injEq,Prod.mk.injEq] at e2;obtain⟨rfl,rfl,rfl⟩:=e2;rw[manyRd,manyR,hq];simp only;rw[if_neg (by rw[List.length_drop];have:=h.le;omega)]
theorem manyX(s:σ)(rb:Nat)(l:List U8)(i:Nat)(bad:Bool)(hl:l.length<=1048576)(hi:i<=l.length)(H:List Ent):ACall Tryz.prog 97 [.p rb 0] (rr rb l i bad::H) (RX (λ(n:Nat)=>.i n) (manyRd) s rb l i bad H (λn=>n<=l.length)) (λ_ _=>False):=by
 refine aC (n:=21) Tryz.func97 λB I w0=>?_;refine Z8 ?_;refine bC .k ((numX s rb l i bad hl hi _).b) ?_;rintro _ _ ⟨n,s1,i1,b1,rfl,rfl,q1,T1⟩;have L1:=T1.le;refine Z5 ?_;refine CW.dp mixed ?_;refine DP.anyC 0 11 21 rfl Ye rfl rfl Ye ?_;refine Z16 ?_;refine cd (λh0=>?_) λh0=>?_
 ·have hb: ¬n<=(l.length:Int) - i1:=by omega
  refine Z3 ?_;refine bC .k (((q168 rb l i1 b1 _).ok).b) ?_;rintro _ _ ⟨rfl,rfl⟩;refine Z5 ?_;refine r1 2 (rr rb l i1 true::H) ?_;exact⟨0,s1,i1,true,rfl,rfl,Yc,many_no T1 hb L1⟩
 ·have hb:n<=(l.length:Int) - i1:=by omega
  have h00:=q1.1;refine Z9 ?_;refine r1 2 (rr rb l i1 b1::H) ?_;exact⟨n.toNat,s1,i1,b1,by show AV.i n=AV.i n.toNat;rw[Int.toNat_of_nonneg h00],rfl,Yc,many_of T1 h00 hb⟩
theorem go_on{a b:Bool}(h:(bif a then !b else false)=true):a=true/\b=false:=by cases a <;> cases b <;> simp_all
theorem go_not{a b:Bool}(h:(bif a then !b else false)=false):b=true\/a=false:=by cases a <;> cases b <;> simp_all
theorem stop_at{k n:Nat}(h:(bif decide ((k:Int)<(n:Int)) then !b else false)=false)(hk:k<=n):b=true\/k=n:=(go_not h).imp id λe=>by have:=of_decide_eq_false e;omega
end Go.Proofs.YtpgnjlngepfanaaGreat
