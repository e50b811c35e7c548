/- Part 7 of the proof: contracts of functions of the program and what they need. No condition beyond those that each theorem names. -/
import Derived.Test.YtpgnjlngepfanaaGreatImageNumbersP6
import Derived.DeepKeys4
import Derived.Test.YtpgnjlngepfanaaGreatProg
import Derived.KernelRfl
import Derived.ProofKit
import Derived.Test.YtpgnjlngepfanaaGreatRows
set_option maxHeartbeats 1000000
set_option linter.unusedVariables false
namespace Go.Eng.Im
variable{i n j:Nat}
abbrev U8:=Fin 256
abbrev u8(x:U8):AV:=.val (.int .u8 (x.val:Int))
abbrev u8s(l:List U8):AV:=.sl 1 (l.map λx=>[u8 x])
def numR:Nat->Bool->List U8->Option (Nat×List U8)
 | 0,_,_=>none
 | _+1,_,[]=>none
 | g+1,first,x::r=>
  if x.val<128 then (if first || decide (0<x.val) then some (x.val,r) else none)
  else match numR g false r with
   | some (n,r')=>some (x.val - 128+128*n,r')
   | none=>none
def numberR(l:List U8):Option (Nat×List U8):=numR 5 true l
def manyR(l:List U8):Option (Nat×List U8):=
 match numberR l with
 | some (n,r)=>if n<=r.length then some (n,r) else none
 | none=>none
def sumStep(p:Nat×Nat)(x:U8):Nat×Nat:=((p.1+x.val)%65521,(p.2+(p.1+x.val)%65521)%65521)
def sumP(l:List U8):Nat×Nat:=l.foldl sumStep (1,0)
def byteOf(n:Nat):U8:=⟨n%256,Nat.mod_lt _ YO⟩
def sumR(kind:U8)(body:List U8):List U8:=
 let p:=sumP (kind::body)
 [byteOf (p.2 / 256),byteOf p.2,byteOf (p.1 / 256),byteOf p.1]
structure Sec where
 kind:U8
 body:List U8
 damaged:Bool
def secR:List U8->Option (Sec×List U8)
 | []=>none
 | k::r=>
  match manyR r with
  | some (n,r1)=>
   if 4<=(r1.drop n).length then some (⟨k,r1.take n,!((r1.drop n).take 4==sumR k (r1.take n))⟩,(r1.drop n).drop 4) else none
  | none=>none
def secsR:Nat->List U8->List Sec×Bool
 | 0,l=>([],decide (l= []))
 | _+1,[]=>([],true)
 | f+1,l=>match secR l with
  | some (s,r)=>(s::(secsR f r).1,(secsR f r).2)
  | none=>([],false)
def secsOf(l:List U8):List Sec×Bool:=secsR l.length l
def splitR:List U8->Option (U8×List Sec)
 | a::m::r=>if a.val=67/\(m.val=79\/m.val=80)/\(secsOf r).2=true then some (m,(secsOf r).1) else none
 | _=>none
theorem numR_len:∀{g:Nat} {first:Bool} {l:List U8} {n:Nat} {r:List U8},numR g first l=some (n,r)->r.length<l.length
 | 0,_,_,_,_,h=>by simp[numR] at h
 | g+1,_,[],_,_,h=>by simp[numR] at h
 | g+1,first,x::l,n,r,h=>by
  rw[numR] at h;split at h
  ·split at h
   ·simp at h;obtain⟨_,rfl⟩:=h;simp
   ·cases h
  ·split at h
   ·rename_i m r' h';simp at h;obtain⟨_,rfl⟩:=h;have:=numR_len h';simp;omega
   ·cases h
theorem numR_lt:∀{g:Nat} {first:Bool} {l:List U8} {n:Nat} {r:List U8},numR g first l=some (n,r)->n<128^g
 | 0,_,_,_,_,h=>by simp[numR] at h
 | g+1,_,[],_,_,h=>by simp[numR] at h
 | g+1,first,x::l,n,r,h=>by
  rw[numR] at h;have hx:=x.isLt;have hp:128^(g+1)=128^g*128:=rfl;have h0:0<128^g:=Nat.pow_pos YO;split at h
  ·split at h
   ·simp at h;obtain⟨rfl,_⟩:=h;omega
   ·cases h
  ·split at h
   ·rename_i m r' h';simp at h;obtain⟨rfl,_⟩:=h;have:=numR_lt h';omega
   ·cases h
theorem u8_and127:∀x:U8,bitI .and .u8 (x.val:Int) 127=some ((x.val%128:Nat):Int):=by decide+kernel
theorem p128(i:Nat):(128:Nat)^i=2^(7*i):=by rw[Nat.pow_mul]
theorem p128_le(hi:i<5):(128:Nat)^i<=268435456:=by
 have:i=0\/i=1\/i=2\/i=3\/i=4:=by omega
 rcases this with rfl | rfl | rfl | rfl | rfl <;> decide
theorem sh7{a i:Nat}(ha:a<128)(hi:i<5):shI .shl .i64 (a:Int) (7*(i:Int))=some ((a*128^i:Nat):Int):=by
 have e:min (7*(i:Int)).toNat IntKind.i64.bits=7*i:=by simp[IntKind.bits];omega
 have hm:a*128^i<=127*268435456:=Nat.mul_le_mul Ya (p128_le hi);show some (IntKind.i64.wrap _)=_;rw[e];have e2:(a:Int)*2^(7*i)=((a*128^i:Nat):Int):=by rw[p128];simp
 rw[e2,wrap64 Ya]
theorem bv64i(n:Nat)(h:n<18446744073709551616):(BitVec.ofInt IntKind.i64.bits (n:Int)).toNat=n:=by
 simp[IntKind.bits];omega
theorem or7{n a i:Nat}(hn:n<128^i)(ha:a<128)(hi:i<5):bitI .or .i64 (n:Int) ((a*128^i:Nat):Int)=some ((n+128^i*a:Nat):Int):=by
 have hp:=p128_le hi;have hm:a*128^i<=127*268435456:=Nat.mul_le_mul Ya hp;show some (IntKind.i64.wrap _)=_;rw[BitVec.toNat_or,bv64i n Ya,bv64i _ Ya];have e:n ||| a*128^i=n+128^i*a:=by
  rw[Nat.or_comm,Nat.mul_comm,Nat.add_comm n];rw[p128] at hn ⊢;exact (Nat.two_pow_add_eq_or_of_lt hn a).symm
 rw[e,wrap64 (by rw[Nat.mul_comm];omega)]
theorem numR_step{g:Nat}{first:Bool}{x:U8}{l:List U8}(hx: ¬x.val<128):numR (g+1) first (x::l)=(numR g false l).map λp=>(x.val - 128+128*p.1,p.2):=by
 rw[numR,if_neg hx];cases numR g false l <;> rfl
theorem numR_nil(g:Nat)(first:Bool):numR g first []=none:=by cases g <;> rfl
theorem numR_last{g:Nat}{first:Bool}{x:U8}{l:List U8}(hx:x.val<128):numR (g+1) first (x::l)=if(first || decide (0<x.val))=true then some (x.val,l) else none:=by
 rw[numR,if_pos hx]
structure NumAt(l:List U8)(i n:Nat)(l':List U8):Prop where
 le:i<=5
 lt:n<128^i
 eq:numberR l=(numR (5 - i) (decide (i=0)) l').map λp=>(n+128^i*p.1,p.2)
theorem NumAt.begin(l:List U8):NumAt l 0 0 l:=⟨Ya,YO,by rw[numberR];show _=(numR 5 true l).map _;cases numR 5 true l <;> simp⟩
theorem NumAt.empty{l:List U8}(h:NumAt l i n []):numberR l=none:=by rw[h.eq,numR_nil];rfl
theorem NumAt.long{l:List U8}{l':List U8}(h:NumAt l i n l')(hi: ¬i<5):numberR l=none:=by
 have:=h.le;rw[h.eq,show 5 - i=0 by omega];rfl
theorem NumAt.step{l:List U8}{x:U8}{r:List U8}(h:NumAt l i n (x::r))(hi:i<5)(hx: ¬x.val<128):NumAt l (i+1) (n+128^i*(x.val%128)) r:=by
 have h1:=h.lt;have hm:x.val%128<128:=Nat.mod_lt _ YO;have hp:128^(i+1)=128^i*128:=rfl;have hl:x.val<256:=x.isLt;refine⟨Ya,?_,?_⟩
 ·rw[hp];have:128^i*(x.val%128)<=128^i*127:=Nat.mul_le_mul_left _ Ya;omega
 ·rw[h.eq,show 5 - i=(5 - (i+1))+1 by omega,numR_step hx,show decide (i+1=0)=false by simp];cases numR (5 - (i+1)) false r with
  | none=>rfl
  | some p=>
   simp only[Option.map_some,Option.some.injEq,Prod.mk.injEq,and_true];rw[show x.val%128=x.val - 128 by omega,hp,Nat.mul_add,Nat.mul_assoc];omega
theorem NumAt.last{l:List U8}{x:U8}{r:List U8}(h:NumAt l i n (x::r))(hi:i<5)(hx:x.val<128)(hg:i=0\/0<x.val):numberR l=some (n+128^i*(x.val%128),r):=by
 rw[h.eq,show 5 - i=(5 - (i+1))+1 by omega,numR_last hx,if_pos (by simpa using hg),Nat.mod_eq_of_lt hx];rfl
theorem NumAt.bad{l:List U8}{x:U8}{r:List U8}(h:NumAt l i n (x::r))(hi:i<5)(hx:x.val<128)(hg: ¬(i=0\/0<x.val)):numberR l=none:=by
 rw[h.eq,show 5 - i=(5 - (i+1))+1 by omega,numR_last hx,if_neg (by simpa using hg)];rfl
theorem u8_wrap(m:Nat):IntKind.u8.wrap (m:Int)=((byteOf m).val:Int):=by
 simp only[IntKind.wrap,IntKind.bits,IntKind.signed,byteOf];simp
theorem u8_wrap8(x:U8):IntKind.u8.wrap (x.val:Int)=(x.val:Int):=by
 rw[u8_wrap];simp[byteOf,Nat.mod_eq_of_lt x.isLt]
theorem shr8(n:Nat):shI .shr .i64 (n:Int) 8=some ((n / 256:Nat):Int):=by
 show some ((n:Int).fdiv (2^8))=_;congr 1;exact (Int.ofNat_fdiv n 256).symm
theorem sum_lt:∀(l:List U8) (p:Nat×Nat),p.1<65521->p.2<65521->(l.foldl sumStep p).1<65521/\(l.foldl sumStep p).2<65521
 | [],_,h1,h2=>⟨h1,h2⟩
 | x::l,p,_,_=>sum_lt l _ (Nat.mod_lt _ YO) (Nat.mod_lt _ YO)
theorem sumP_lt(l:List U8):(sumP l).1<65521/\(sumP l).2<65521:=sum_lt l _ YO YO
theorem take_snoc{α:Type}[Inhabited α]{l:List α}{j:Nat}(h:j<l.length):l.take (j+1)=l.take j++[l.getD j default]:=by
 rw[List.take_succ_eq_append_getElem h,List.getD_eq_getElem?_getD,List.getElem?_eq_getElem h];rfl
theorem sumP_step{l:List U8}(h:j<l.length):sumP (l.take (j+1))=sumStep (sumP (l.take j)) (l.getD j default):=by
 rw[take_snoc h,sumP,List.foldl_append];rfl
theorem one_map{α:Type}{enc:α->List AV}(h:∀x,allOne (enc x)=true)(l:List α):(l.map enc).all allOne=true:=by
 rw[List.all_eq_true];intro x hx;obtain⟨a,_,rfl⟩:=List.mem_map.1 hx;exact h a
theorem tm_sum(a b:Nat):(((a+b)%65521:Nat):Int)=((a:Int)+(b:Int)).tmod 65521:=by
 rw[show (a:Int)+(b:Int)=((a+b:Nat):Int) by simp,show (65521:Int)=((65521:Nat):Int) by rfl, <-Int.ofNat_tmod]
abbrev secC(s:Sec):List AV:=[.i s.kind.val,u8s s.body,.b s.damaged]
abbrev secA(s:Sec):AV:=.agg (secC s)
theorem numberR_len{l:List U8}{r:List U8}(h:numberR l=some (n,r)):r.length<l.length:=numR_len h
theorem manyR_some{l:List U8}{r:List U8}(h:manyR l=some (n,r)):n<=r.length/\r.length<l.length:=by
 unfold manyR at h;split at h
 ·rename_i m r' h';split at h
  ·cases h;exact⟨Ybp,numberR_len h'⟩
  ·cases h
 ·cases h
theorem secR_len{l:List U8}{s:Sec}{r:List U8}(h:secR l=some (s,r)):r.length<l.length:=by
 unfold secR at h;split at h
 ·cases h
 ·split at h
  ·rename_i k r0 n r1 hm;split at h
   ·cases h;have:=manyR_some hm;simp;omega
   ·cases h
  ·cases h
theorem secsR_fuel:∀(f:Nat) (l:List U8),l.length<=f->secsR f l=secsR l.length l
 | 0,[],_=>rfl
 | 0,_::_,h=>by simp at h
 | f+1,[],_=>rfl
 | f+1,x::l,h=>by
  rw[secsR,List.length_cons,secsR]
  ·cases hs:secR (x::l) with
   | none=>rfl
   | some p=>
    have h1:=secR_len (s:=p.1) (r:=p.2) hs;simp only[List.length_cons] at h1 h;simp only;rw[secsR_fuel f p.2 Ya,secsR_fuel l.length p.2 Ya]
  ·intro e;cases e
  ·intro e;cases e
theorem secsOf_step{l:List U8}{s:Sec}{r:List U8}(h:secR l=some (s,r)):secsOf l=(s::(secsOf r).1,(secsOf r).2):=by
 have h1:=secR_len h;unfold secsOf;cases l with
 | nil=>cases h
 | cons x l=>
  rw[List.length_cons,secsR]
  ·rw[h];simp only[List.length_cons] at h1;simp only;rw[secsR_fuel l.length r Ya]
  ·intro e;cases e
theorem secsOf_fail{l:List U8}(hn:l≠ [])(h:secR l=none):secsOf l=([],false):=by
 unfold secsOf;cases l with
 | nil=>exact absurd rfl hn
 | cons x l=>
  rw[List.length_cons,secsR]
  ·rw[h]
  ·intro e;cases e
structure SecAt(l:List U8)(pre:List Sec)(l':List U8):Prop where
 all:(secsOf l).1=pre++(secsOf l').1
 ok:(secsOf l).2=(secsOf l').2
 len:l'.length<=l.length
theorem SecAt.begin(l:List U8):SecAt l [] l:=⟨rfl,rfl,Nat.le_refl _⟩
theorem SecAt.step{l l' r:List U8}{pre:List Sec}{s:Sec}(h:SecAt l pre l')(hs:secR l'=some (s,r)):SecAt l (pre++[s]) r:=by
 have e:=secsOf_step hs;exact⟨by rw[h.all,e];simp,by rw[h.ok,e],by have:=secR_len hs;have:=h.len;omega⟩
theorem SecAt.pre{l l':List U8}{pre:List Sec}(h:SecAt l pre l'):pre<+:(secsOf l).1:=⟨_,h.all.symm⟩
theorem SecAt.stop{l:List U8}{pre:List Sec}(h:SecAt l pre []):(secsOf l).1=pre/\(secsOf l).2=true:=⟨by rw[h.all];simp[secsOf,secsR],by rw[h.ok];simp[secsOf,secsR]⟩
theorem SecAt.fail{l l':List U8}{pre:List Sec}(h:SecAt l pre l')(hn:l'≠ [])(hs:secR l'=none):(secsOf l).1=pre/\(secsOf l).2=false:=by
 have e:=secsOf_fail hn hs;exact⟨by rw[h.all,e];simp,by rw[h.ok,e]⟩
theorem secR_many{k:U8}{r:List U8}(h:manyR r=none):secR (k::r)=none:=by simp[secR,h]
theorem secR_short{k:U8}{r r1:List U8}(h:manyR r=some (n,r1))(h4: ¬4<=(r1.drop n).length):secR (k::r)=none:=by simp only[secR,h];rw[if_neg h4]
theorem secR_good{k:U8}{r r1:List U8}(h:manyR r=some (n,r1))(h4:4<=(r1.drop n).length):secR (k::r)=some (⟨k,r1.take n,!((r1.drop n).take 4==sumR k (r1.take n))⟩,(r1.drop n).drop 4):=by simp only[secR,h];rw[if_pos h4]
theorem secsR_count:∀(f:Nat) (l:List U8),l.length<=f->(secsR f l).1.length<=l.length
 | 0,_,_=>by simp[secsR]
 | f+1,[],_=>by simp[secsR]
 | f+1,x::l,h=>by
  rw[secsR]
  ·cases hs:secR (x::l) with
   | none=>simp
   | some p=>
    have h1:=secR_len (s:=p.1) (r:=p.2) hs;have h2:=secsR_count f p.2 (by simp only[List.length_cons] at h1 h;omega);simp only[List.length_cons] at h1 ⊢;omega
  ·intro e;cases e
theorem secs_count(l:List U8):(secsOf l).1.length<=l.length:=secsR_count _ l (Nat.le_refl _)
instance:Inhabited Sec:=⟨⟨default,[],false⟩⟩
def kindsP(l:List Sec):List (List AV):=l.map λs=>[AV.i s.kind.val]
def damP(l:List Sec)(n:Nat):List Int:=((List.range n).filter λi=>(l.getD i default).damaged).map λ(i:Nat)=>(i:Int)
abbrev damA(l:List Sec)(n:Nat):AV:=.sl 1 ((damP l n).map λn=>[AV.i n])
theorem kinds_snoc{l:List Sec}(h:j<l.length):kindsP (l.take (j+1))=kindsP (l.take j)++[[AV.i (l.getD j default).kind.val]]:=by
 rw[take_snoc h,kindsP,List.map_append];rfl
theorem dam_yes{l:List Sec}(h:(l.getD j default).damaged=true):(damP l (j+1)).map (λn=>[AV.i n])=(damP l j).map (λn=>[AV.i n])++[[AV.i (j:Int)]]:=by
 rw[damP,List.range_succ,List.filter_append,List.map_append,List.map_append];have h':(l[j]?.getD default).damaged=true:=by simpa [List.getD_eq_getElem?_getD] using h
 simp[h',damP]
theorem dam_no{l:List Sec}(h:(l.getD j default).damaged=false):damP l (j+1)=damP l j:=by
 rw[damP,List.range_succ,List.filter_append,List.map_append];have h':(l[j]?.getD default).damaged=false:=by simpa [List.getD_eq_getElem?_getD] using h
 simp[h',damP]
theorem dam_len(l:List Sec)(n:Nat):(damP l n).length<=n:=by
 rw[damP,List.length_map];have:=List.length_filter_le (λi=>(l.getD i default).damaged) (List.range n);simpa using this
theorem kinds_len(l:List Sec):(kindsP l).length=l.length:=by simp[kindsP]
def numF:Nat->List U8->Nat
 | 0,_=>0
 | _+1,[]=>0
 | g+1,x::r=>if x.val<128 then 1 else 1+numF g r
def numV(l:List U8):Nat:=match numberR l with | some (n,_)=>n | none=>0
theorem numR_drop:∀{g:Nat} {first:Bool} {l:List U8} {n:Nat} {r:List U8},numR g first l=some (n,r)->r=l.drop (numF g l)
 | 0,_,_,_,_,h=>by simp[numR] at h
 | g+1,_,[],_,_,h=>by simp[numR] at h
 | g+1,first,x::l,n,r,h=>by
  rw[numR] at h;rw[numF];split at h
  ·rename_i hx;rw[if_pos hx];split at h
   ·simp at h;obtain⟨_,rfl⟩:=h;rfl
   ·cases h
  ·rename_i hx;rw[if_neg hx];split at h
   ·rename_i m r' h';simp at h;obtain⟨_,rfl⟩:=h;rw[Nat.add_comm,List.drop_succ_cons];exact numR_drop h'
   ·cases h
theorem numF_le:∀(g:Nat) (l:List U8),numF g l<=l.length/\numF g l<=g
 | 0,_=>by simp[numF]
 | g+1,[]=>by simp[numF]
 | g+1,x::l=>by
  rw[numF];have:=numF_le g l;split <;> simp <;> omega
structure NumPos(l:List U8)(i:Nat)(l':List U8):Prop where
 pos:numF 5 l=i+numF (5 - i) l'
theorem NumPos.begin(l:List U8):NumPos l 0 l:=⟨Yr⟩
theorem NumPos.empty{l:List U8}(h:NumPos l i []):numF 5 l=i:=by rw[h.pos];cases 5 - i <;> simp[numF]
theorem NumPos.long{l:List U8}{l':List U8}(h:NumPos l i l')(hi:i=5):numF 5 l=5:=by rw[h.pos,hi];simp[numF]
theorem NumPos.step{l:List U8}{x:U8}{r:List U8}(h:NumPos l i (x::r))(hi:i<5)(hx: ¬x.val<128):NumPos l (i+1) r:=⟨by
 rw[h.pos,show 5 - i=(5 - (i+1))+1 by omega,numF,if_neg hx];omega⟩
theorem NumPos.last{l:List U8}{x:U8}{r:List U8}(h:NumPos l i (x::r))(hi:i<5)(hx:x.val<128):numF 5 l=i+1:=by
 rw[h.pos,show 5 - i=(5 - (i+1))+1 by omega,numF,if_pos hx]
theorem numV_some{l:List U8}{r:List U8}(h:numberR l=some (n,r)):numV l=n:=by rw[numV,h]
theorem numV_lt(l:List U8):numV l<34359738368:=by
 unfold numV;split
 ·rename_i n r h;exact numR_lt h
 ·decide
abbrev pieC(s:Sec):List AV:=[u8 s.kind,u8s s.body,.b s.damaged]
abbrev pies(l:List Sec):AV:=.sl 3 (l.map pieC)
end Go.Eng.Im

namespace Go.Eng.Bd
open Go.Eng.Fc
structure Gv where
 p:Prog
 objs:List Th
 roots:List (Int×Int)
 others:List Th
 otherRoots:List (Int×Int)
 bytes:List Go.Eng.Im.U8
abbrev Gcells(g:Gv):List AV:=progC g.p++[AV.ths g.objs,AV.mvs g.roots,AV.ths g.others,AV.mvs g.otherRoots,Go.Eng.Im.u8s g.bytes]
abbrev AV.given(g:Gv):AV:=.agg (Gcells g)
theorem small_of{p:Prog}{n:Nat}(hn:n<=1048576)(h:p.classes.length<=n/\∀c∈p.classes,c.parents.length<=n):p.Small:=⟨Ya,λc hc=>by have:=h.2 c hc;omega⟩
end Go.Eng.Bd

set_option linter.unusedSimpArgs false
set_option maxRecDepth 10000
namespace Go.Proofs.YtpgnjlngepfanaaGreat
open Go.Eng
open Go.Eng.Fc
open Go.Eng.Bd
open Go.ChangeShapes Go.WideShapes
variable{α:Type}{B:Nat}{f:Fn}{fs cs:List AV}{F:List Ent->Prop}{J Jx:List Fact->List Ent->Prop}{Hm:List Ent}{l:List Int}{W:FW}{deep left:Int}{U:List Nat}
instance:HasTy Tryz.prog 3 (false,1):=⟨Yf⟩
instance:HasTy Tryz.prog 4 (false,1):=⟨Yf⟩
instance:HasTy Tryz.prog 5 (false,1):=⟨Yf⟩
instance:HasTy Tryz.prog 22 (false,1):=⟨Yf⟩
instance:HasTy Tryz.prog 23 (false,1):=⟨Yf⟩
instance:HasTy Tryz.prog 24 (false,1):=⟨Yf⟩
instance:HasTy Tryz.prog 25 (false,1):=⟨Yf⟩
instance:HasTy Tryz.prog 27 (true,6):=⟨Yf⟩
instance:HasTy Tryz.prog 28 (false,1):=⟨Yf⟩
instance:HasTy Tryz.prog 29 (false,1):=⟨Yf⟩
instance:HasTy Tryz.prog 30 (false,1):=⟨Yf⟩
instance:HasTy Tryz.prog 48 (false,1):=⟨Yf⟩
instance:HasTy Tryz.prog 58 (false,1):=⟨Yf⟩
instance:HasTy Tryz.prog 60 (true,2):=⟨Yf⟩
instance:HasTy Tryz.prog 65 (true,2):=⟨Yf⟩
instance:HasTy Tryz.prog 77 (false,1):=⟨Yf⟩
instance:HasTy Tryz.prog 79 (true,3):=⟨Yf⟩
instance:HasTy Tryz.prog 86 (false,1):=⟨Yf⟩
instance:HasTy Tryz.prog 89 (false,1):=⟨Yf⟩
instance:HasTy Tryz.prog 104 (false,1):=⟨Yf⟩
instance:HasTy Tryz.prog 110 (false,1):=⟨Yf⟩
instance:HasTy Tryz.prog 114 (true,3):=⟨Yf⟩
instance:HasTy Tryz.prog 119 (true,3):=⟨Yf⟩
instance:HasTy Tryz.prog 121 (false,1):=⟨Yf⟩
instance:HasTy Tryz.prog 124 (false,1):=⟨Yf⟩
instance:HasTy Tryz.prog 143 (true,2):=⟨Yf⟩
instance:HasTy Tryz.prog 144 (false,1):=⟨Yf⟩
instance:HasTy Tryz.prog 146 (true,3):=⟨Yf⟩
instance:HasTy Tryz.prog 149 (false,1):=⟨Yf⟩
instance:HasTy Tryz.prog 151 (true,2):=⟨Yf⟩
instance:HasTy Tryz.prog 162 (false,1):=⟨Yf⟩
instance:HasTy Tryz.prog 163 (false,1):=⟨Yf⟩
instance:HasTy Tryz.prog 164 (false,1):=⟨Yf⟩
instance:HasTy Tryz.prog 166 (true,6):=⟨Yf⟩
instance:HasTy Tryz.prog 168 (true,9):=⟨Yf⟩
instance:HasTy Tryz.prog 176 (true,0):=⟨Yf⟩
instance:HasTy Tryz.prog 220 (false,1):=⟨Yf⟩
instance:HasTy Tryz.prog 228 (true,2):=⟨Yf⟩
instance:HasTy Tryz.prog 253 (true,0):=⟨Yf⟩
instance:HasTy Tryz.prog 257 (false,1):=⟨Yf⟩
instance:HasTy Tryz.prog 260 (false,1):=⟨Yf⟩
instance:HasTy Tryz.prog 261 (false,1):=⟨Yf⟩
instance:HasTy Tryz.prog 269 (false,1):=⟨Yf⟩
instance:HasTy Tryz.prog 275 (false,1):=⟨Yf⟩
instance:HasTy Tryz.prog 276 (false,1):=⟨Yf⟩
instance:HasTy Tryz.prog 282 (false,1):=⟨Yf⟩
instance:HasTy Tryz.prog 303 (true,1):=⟨Yf⟩
instance:HasTy Tryz.prog 306 (false,1):=⟨Yf⟩
instance:HasTy Tryz.prog 314 (false,1):=⟨Yf⟩
instance:HasFld Tryz.prog 27 0 0:=⟨Yf⟩
instance:HasFld Tryz.prog 27 1 1:=⟨Yf⟩
instance:HasFld Tryz.prog 27 2 2:=⟨Yf⟩
instance:HasFld Tryz.prog 27 3 3:=⟨Yf⟩
instance:HasFld Tryz.prog 27 4 4:=⟨Yf⟩
instance:HasFld Tryz.prog 27 5 5:=⟨Yf⟩
instance:HasFld Tryz.prog 32 0 0:=⟨Yf⟩
instance:HasFld Tryz.prog 32 1 6:=⟨Yf⟩
instance:HasFld Tryz.prog 32 2 7:=⟨Yf⟩
instance:HasFld Tryz.prog 32 3 8:=⟨Yf⟩
instance:HasFld Tryz.prog 32 4 9:=⟨Yf⟩
instance:HasFld Tryz.prog 32 5 10:=⟨Yf⟩
instance:HasFld Tryz.prog 60 0 0:=⟨Yf⟩
instance:HasFld Tryz.prog 60 1 1:=⟨Yf⟩
instance:HasFld Tryz.prog 65 0 0:=⟨Yf⟩
instance:HasFld Tryz.prog 65 1 1:=⟨Yf⟩
instance:HasFld Tryz.prog 79 0 0:=⟨Yf⟩
instance:HasFld Tryz.prog 79 1 1:=⟨Yf⟩
instance:HasFld Tryz.prog 79 2 2:=⟨Yf⟩
instance:HasFld Tryz.prog 97 0 0:=⟨Yf⟩
instance:HasFld Tryz.prog 99 0 0:=⟨Yf⟩
instance:HasFld Tryz.prog 114 0 0:=⟨Yf⟩
instance:HasFld Tryz.prog 114 1 1:=⟨Yf⟩
instance:HasFld Tryz.prog 114 2 2:=⟨Yf⟩
instance:HasFld Tryz.prog 119 0 0:=⟨Yf⟩
instance:HasFld Tryz.prog 119 1 1:=⟨Yf⟩
instance:HasFld Tryz.prog 119 2 2:=⟨Yf⟩
instance:HasFld Tryz.prog 123 0 0:=⟨Yf⟩
instance:HasFld Tryz.prog 123 1 1:=⟨Yf⟩
instance:HasFld Tryz.prog 135 0 0:=⟨Yf⟩
instance:HasFld Tryz.prog 135 1 1:=⟨Yf⟩
instance:HasFld Tryz.prog 135 2 2:=⟨Yf⟩
instance:HasFld Tryz.prog 143 0 0:=⟨Yf⟩
instance:HasFld Tryz.prog 143 1 1:=⟨Yf⟩
instance:HasFld Tryz.prog 146 0 0:=⟨Yf⟩
instance:HasFld Tryz.prog 146 1 1:=⟨Yf⟩
instance:HasFld Tryz.prog 146 2 2:=⟨Yf⟩
instance:HasFld Tryz.prog 151 0 0:=⟨Yf⟩
instance:HasFld Tryz.prog 151 1 1:=⟨Yf⟩
instance:HasFld Tryz.prog 166 0 0:=⟨Yf⟩
instance:HasFld Tryz.prog 166 1 1:=⟨Yf⟩
instance:HasFld Tryz.prog 166 2 2:=⟨Yf⟩
instance:HasFld Tryz.prog 166 3 3:=⟨Yf⟩
instance:HasFld Tryz.prog 166 4 4:=⟨Yf⟩
instance:HasFld Tryz.prog 166 5 5:=⟨Yf⟩
instance:HasFld Tryz.prog 168 0 0:=⟨Yf⟩
instance:HasFld Tryz.prog 168 1 1:=⟨Yf⟩
instance:HasFld Tryz.prog 168 2 2:=⟨Yf⟩
instance:HasFld Tryz.prog 168 3 8:=⟨Yf⟩
instance:HasFld Tryz.prog 177 0 0:=⟨Yf⟩
instance:HasFld Tryz.prog 228 0 0:=⟨Yf⟩
instance:HasFld Tryz.prog 228 1 1:=⟨Yf⟩
instance:HasFld Tryz.prog 278 0 0:=⟨Yf⟩
instance:HasFld Tryz.prog 278 1 1:=⟨Yf⟩
instance:HasFld Tryz.prog 278 2 2:=⟨Yf⟩
instance:HasFld Tryz.prog 309 0 0:=⟨Yf⟩
instance:HasFld Tryz.prog 309 1 2:=⟨Yf⟩
instance:HasSl Tryz.prog 22 3:=⟨Yf⟩
instance:HasSl Tryz.prog 23 1:=⟨Yf⟩
instance:HasSl Tryz.prog 24 9:=⟨Yf⟩
instance:HasSl Tryz.prog 25 3:=⟨Yf⟩
instance:HasSl Tryz.prog 28 2:=⟨Yf⟩
instance:HasSl Tryz.prog 29 2:=⟨Yf⟩
instance:HasSl Tryz.prog 30 1:=⟨Yf⟩
instance:HasSl Tryz.prog 44 1:=⟨Yf⟩
instance:HasSl Tryz.prog 77 2:=⟨Yf⟩
instance:HasSl Tryz.prog 102 1:=⟨Yf⟩
instance:HasSl Tryz.prog 110 3:=⟨Yf⟩
instance:HasSl Tryz.prog 115 3:=⟨Yf⟩
instance:HasSl Tryz.prog 149 1:=⟨Yf⟩
instance:HasSl Tryz.prog 164 6:=⟨Yf⟩
instance:HasSl Tryz.prog 222 1:=⟨Yf⟩
instance:HasSl Tryz.prog 275 1:=⟨Yf⟩
instance:HasSl Tryz.prog 300 1:=⟨Yf⟩
instance:HasArr Tryz.prog 303 (1,1):=⟨Yf⟩
instance:HasArr Tryz.prog 307 (63,1):=⟨Yf⟩
instance:HasZero Tryz.prog 3 [.int .i64 0]:=⟨Yf⟩
instance:HasZero Tryz.prog 4 [.bool false]:=⟨Yf⟩
instance:HasZero Tryz.prog 23 [.slice none 0 0]:=⟨Yf⟩
instance:HasZero Tryz.prog 27 [.slice none 0 0,.int .i64 0,.slice none 0 0,.slice none 0 0,.slice none 0 0,.int .i64 0]:=⟨Yf⟩
instance:HasZero Tryz.prog 28 [.slice none 0 0]:=⟨Yf⟩
instance:HasZero Tryz.prog 29 [.slice none 0 0]:=⟨Yf⟩
instance:HasZero Tryz.prog 30 [.slice none 0 0]:=⟨Yf⟩
instance:HasZero Tryz.prog 60 [.int .i64 0,.int .i64 0]:=⟨Yf⟩
instance:HasZero Tryz.prog 65 [.int .i64 0,.slice none 0 0]:=⟨Yf⟩
instance:HasZero Tryz.prog 79 [.slice none 0 0,.slice none 0 0,.slice none 0 0]:=⟨Yf⟩
instance:HasZero Tryz.prog 86 [.nilFunc]:=⟨Yf⟩
instance:HasZero Tryz.prog 104 [.pointer none]:=⟨Yf⟩
instance:HasZero Tryz.prog 110 [.slice none 0 0]:=⟨Yf⟩
instance:HasZero Tryz.prog 114 [.int .i64 0,.slice none 0 0,.bool false]:=⟨Yf⟩
instance:HasZero Tryz.prog 119 [.int .u8 0,.slice none 0 0,.bool false]:=⟨Yf⟩
instance:HasZero Tryz.prog 124 [.pointer none]:=⟨Yf⟩
instance:HasZero Tryz.prog 143 [.int .i64 0,.int .i64 0]:=⟨Yf⟩
instance:HasZero Tryz.prog 146 [.int .i64 0,.int .i64 0,.slice none 0 0]:=⟨Yf⟩
instance:HasZero Tryz.prog 151 [.slice none 0 0,.slice none 0 0]:=⟨Yf⟩
instance:HasZero Tryz.prog 166 [.int .i64 0,.int .i64 0,.slice none 0 0,.int .i64 0,.int .i64 0,.slice none 0 0]:=⟨Yf⟩
instance:HasZero Tryz.prog 168 [.int .i64 0,.int .i64 0,.int .i64 0,.int .i64 0,.slice none 0 0,.int .i64 0,.int .i64 0,.slice none 0 0,.int .i64 0]:=⟨Yf⟩
instance:HasZero Tryz.prog 176 []:=⟨Yf⟩
instance:HasZero Tryz.prog 228 [.int .i64 0,.int .i64 0]:=⟨Yf⟩
instance:HasZero Tryz.prog 253 []:=⟨Yf⟩
instance:HasZero Tryz.prog 260 [.nilFunc]:=⟨Yf⟩
instance:HasZero Tryz.prog 303 [.int .u64 0]:=⟨Yf⟩
instance:HasZero Tryz.prog 314 [.int .u64 0]:=⟨Yf⟩
instance:IsB Tryz.prog 4:=⟨Yf⟩
instance:HasInt Tryz.prog 3 .i64:=⟨Yf⟩
instance:HasInt Tryz.prog 5 .u8:=⟨Yf⟩
instance:HasInt Tryz.prog 48 .i64:=⟨Yf⟩
instance:HasInt Tryz.prog 68 .u16:=⟨Yf⟩
instance:HasInt Tryz.prog 212 .u64:=⟨Yf⟩
instance:HasInt Tryz.prog 279 .u32:=⟨Yf⟩
instance:HasInt Tryz.prog 282 .u64:=⟨Yf⟩
instance:HasInt Tryz.prog 314 .u64:=⟨Yf⟩
instance:HasBuild Tryz.prog 27 ([.slice none 0 0,.int .i64 0,.slice none 0 0,.slice none 0 0,.slice none 0 0,.int .i64 0],[(0,1),(1,1),(2,1),(3,1),(4,1),(5,1)]):=⟨Yf⟩
instance:HasBuild Tryz.prog 60 ([.int .i64 0,.int .i64 0],[(0,1),(1,1)]):=⟨Yf⟩
instance:HasBuild Tryz.prog 65 ([.int .i64 0,.slice none 0 0],[(0,1),(1,1)]):=⟨Yf⟩
instance:HasBuild Tryz.prog 79 ([.slice none 0 0,.slice none 0 0,.slice none 0 0],[(0,1),(1,1),(2,1)]):=⟨Yf⟩
instance:HasBuild Tryz.prog 97 ([.slice none 0 0],[(0,1)]):=⟨Yf⟩
instance:HasBuild Tryz.prog 99 ([.slice none 0 0],[(0,1)]):=⟨Yf⟩
instance:HasBuild Tryz.prog 114 ([.int .i64 0,.slice none 0 0,.bool false],[(0,1),(1,1),(2,1)]):=⟨Yf⟩
instance:HasBuild Tryz.prog 119 ([.int .u8 0,.slice none 0 0,.bool false],[(0,1),(1,1),(2,1)]):=⟨Yf⟩
instance:HasBuild Tryz.prog 123 ([.slice none 0 0,.map none],[(0,1),(1,1)]):=⟨Yf⟩
instance:HasBuild Tryz.prog 135 ([.slice none 0 0,.int .i64 0,.bool false],[(0,1),(1,1),(2,1)]):=⟨Yf⟩
instance:HasBuild Tryz.prog 143 ([.int .i64 0,.int .i64 0],[(0,1),(1,1)]):=⟨Yf⟩
instance:HasBuild Tryz.prog 146 ([.int .i64 0,.int .i64 0,.slice none 0 0],[(0,1),(1,1),(2,1)]):=⟨Yf⟩
instance:HasBuild Tryz.prog 151 ([.slice none 0 0,.slice none 0 0],[(0,1),(1,1)]):=⟨Yf⟩
instance:HasBuild Tryz.prog 166 ([.int .i64 0,.int .i64 0,.slice none 0 0,.int .i64 0,.int .i64 0,.slice none 0 0],[(0,1),(1,1),(2,1),(3,1),(4,1),(5,1)]):=⟨Yf⟩
instance:HasBuild Tryz.prog 168 ([.int .i64 0,.int .i64 0,.int .i64 0,.int .i64 0,.slice none 0 0,.int .i64 0,.int .i64 0,.slice none 0 0,.int .i64 0],[(0,1),(1,1),(2,6),(8,1)]):=⟨Yf⟩
instance:HasBuild Tryz.prog 176 ([],[]):=⟨Yf⟩
instance:HasBuild Tryz.prog 177 ([.slice none 0 0],[(0,1)]):=⟨Yf⟩
instance:HasBuild Tryz.prog 228 ([.int .i64 0,.int .i64 0],[(0,1),(1,1)]):=⟨Yf⟩
instance:HasBuild Tryz.prog 234 ([],[]):=⟨Yf⟩
instance:HasBuild Tryz.prog 253 ([],[]):=⟨Yf⟩
instance:HasBuild Tryz.prog 278 ([.slice none 0 0,.slice none 0 0,.map none],[(0,1),(1,1),(2,1)]):=⟨Yf⟩
instance:HasBuild Tryz.prog 303 ([.int .u64 0],[(0,1)]):=⟨Yf⟩
instance:HasBuild Tryz.prog 309 ([.slice none 0 0,.slice none 0 0,.int .u64 0,.int .u64 0,.int .u64 0,.int .u64 0,.int .u64 0,.int .u64 0,.int .u64 0,.int .u64 0,.int .u64 0,.int .u64 0,.int .u64 0,.int .u64 0,.int .u64 0,.int .u64 0,.int .u64 0,.int .u64 0,.int .u64 0,.int .u64 0,.int .u64 0,.int .u64 0,.int .u64 0,.int .u64 0,.int .u64 0,.int .u64 0,.int .u64 0,.int .u64 0,.int .u64 0,.int .u64 0,.int .u64 0,.int .u64 0,.int .u64 0,.int .u64 0,.int .u64 0,.int .u64 0,.int .u64 0,.int .u64 0,.int .u64 0,.int .u64 0,.int .u64 0,.int .u64 0,.int .u64 0,.int .u64 0,.int .u64 0,.int .u64 0,.int .u64 0,.int .u64 0,.int .u64 0,.int .u64 0,.int .u64 0,.int .u64 0,.int .u64 0,.int .u64 0,.int .u64 0,.int .u64 0,.int .u64 0,.int .u64 0,.int .u64 0,.int .u64 0,.int .u64 0,.int .u64 0,.int .u64 0,.int .u64 0,.int .u64 0],[(0,2),(2,63)]):=⟨Yf⟩
instance:HasRow Tryz.prog 22 (3,[.slice none 0 0,.slice none 0 0,.slice none 0 0]):=⟨Yf⟩
instance:HasRow Tryz.prog 23 (1,[.int .i64 0]):=⟨Yf⟩
instance:HasRow Tryz.prog 24 (9,[.int .i64 0,.int .i64 0,.int .i64 0,.int .i64 0,.slice none 0 0,.int .i64 0,.int .i64 0,.slice none 0 0,.int .i64 0]):=⟨Yf⟩
instance:HasRow Tryz.prog 25 (3,[.int .i64 0,.int .i64 0,.slice none 0 0]):=⟨Yf⟩
instance:HasRow Tryz.prog 28 (2,[.int .i64 0,.slice none 0 0]):=⟨Yf⟩
instance:HasRow Tryz.prog 29 (2,[.int .i64 0,.int .i64 0]):=⟨Yf⟩
instance:HasRow Tryz.prog 30 (1,[.int .u8 0]):=⟨Yf⟩
instance:HasRow Tryz.prog 44 (1,[.int .i64 0]):=⟨Yf⟩
instance:HasRow Tryz.prog 77 (2,[.int .i64 0,.int .i64 0]):=⟨Yf⟩
instance:HasRow Tryz.prog 102 (1,[.pointer none]):=⟨Yf⟩
instance:HasRow Tryz.prog 110 (3,[.int .i64 0,.slice none 0 0,.bool false]):=⟨Yf⟩
instance:HasRow Tryz.prog 115 (3,[.int .u8 0,.slice none 0 0,.bool false]):=⟨Yf⟩
instance:HasRow Tryz.prog 149 (1,[.slice none 0 0]):=⟨Yf⟩
instance:HasRow Tryz.prog 164 (6,[.int .i64 0,.int .i64 0,.slice none 0 0,.int .i64 0,.int .i64 0,.slice none 0 0]):=⟨Yf⟩
instance:HasRow Tryz.prog 222 (1,[.int .i64 0]):=⟨Yf⟩
instance:HasRow Tryz.prog 275 (1,[.int .u64 0]):=⟨Yf⟩
instance:HasApp Tryz.prog 22 (79,3,72):=⟨Yf⟩
instance:HasApp Tryz.prog 23 (3,1,8):=⟨Yf⟩
instance:HasApp Tryz.prog 24 (168,9,104):=⟨Yf⟩
instance:HasApp Tryz.prog 25 (146,3,40):=⟨Yf⟩
instance:HasApp Tryz.prog 28 (65,2,32):=⟨Yf⟩
instance:HasApp Tryz.prog 29 (60,2,16):=⟨Yf⟩
instance:HasApp Tryz.prog 30 (5,1,1):=⟨Yf⟩
instance:HasApp Tryz.prog 44 (48,1,8):=⟨Yf⟩
instance:HasApp Tryz.prog 77 (143,2,16):=⟨Yf⟩
instance:HasApp Tryz.prog 102 (104,1,8):=⟨Yf⟩
instance:HasApp Tryz.prog 110 (114,3,40):=⟨Yf⟩
instance:HasApp Tryz.prog 115 (119,3,40):=⟨Yf⟩
instance:HasApp Tryz.prog 149 (23,1,24):=⟨Yf⟩
instance:HasApp Tryz.prog 164 (166,6,80):=⟨Yf⟩
instance:HasApp Tryz.prog 275 (303,1,8):=⟨Yf⟩
theorem mixed:Tryz.prog.follows .mixedOrders=true:=by kernel_rfl
section
variable{H:Type}{enc:TypeId×Value->H}{w:World}{base:Nat}{spare:Nat->Bool}{held:Bool}{sz:DataW H->Nat}
theorem rd_int(hB:Bulk sz)(n:Nat):ReadsB enc Tryz.prog w base spare held sz n 3 (λq:Int=>[AV.i q]) (λ_ _=>True):=(reads_int Tryz.underlying3).b
theorem rd_ints(hB:Bulk sz)(n:Nat):ReadsB enc Tryz.prog w base spare held sz n 23 (λl:List Int=>[AV.ints l]) (λ(l:List _) (b:Nat)=>l.length<=b):=λfuel hf cs x h=>by
 obtain⟨l,hl,hq⟩:=readsB_slice (n:=n) hB (k:=1) (Q:=λ_ _=>True) (λy a b=>λ_ _=>trivial) Tryz.underlying23 Yf Ya (λ_=>rfl) (rd_int hB n) fuel Ya cs x h;exact⟨l,hl,hq.1⟩
theorem rd_FormOp(hB:Bulk sz)(n:Nat):ReadsB enc Tryz.prog w base spare held sz n 144 (λq:Int=>[AV.i q]) (λ_ _=>True):=(reads_int Tryz.underlying144).b
theorem rd_FormKind(hB:Bulk sz)(n:Nat):ReadsB enc Tryz.prog w base spare held sz n 162 (λq:Int=>[AV.i q]) (λ_ _=>True):=(reads_int Tryz.underlying162).b
theorem rd_MeanKind(hB:Bulk sz)(n:Nat):ReadsB enc Tryz.prog w base spare held sz n 58 (λq:Int=>[AV.i q]) (λ_ _=>True):=(reads_int Tryz.underlying58).b
theorem rd_init(hB:Bulk sz)(n:Nat):ReadsB enc Tryz.prog w base spare held sz n 143 (initA) (λ_ _=>True):=λfuel hf cs x h=>by
 obtain⟨xs,m,rfl,hx,hl,hn,hg⟩:=DataW.trod_struct Tryz.underlying143 h;have hl:cs.length=2:=hl.trans Yf;have h0:=hg 0 _ rfl;have h1:=hg 1 _ rfl;rw[List.getElem?_eq_getElem Yak] at h0 h1;obtain⟨y0,r0,q0⟩:=rd_int hB m m (Nat.le_refl _) _ _ h0;obtain⟨y1,r1,q1⟩:=rd_int hB m m (Nat.le_refl _) _ _ h1;refine⟨⟨y0,y1⟩,?_,trivial⟩;have:=(relL_join (a:=0) (n:=1) (m:=1) r0 r1);rwa [List.drop_zero,List.take_of_length_le Ya] at this
theorem rd_inits(hB:Bulk sz)(n:Nat):ReadsB enc Tryz.prog w base spare held sz n 77 (λl:List (Int×Int)=>[AV.sl 2 (l.map initA)]) (λ_ _=>True):=λfuel hf cs x h=>by
 obtain⟨l,hl,_⟩:=readsB_slice (n:=n) hB (k:=2) (Q:=λ_ _=>True) (λy a b=>λ_ _=>trivial) Tryz.underlying77 Yf Ya (λ_=>rfl) (rd_init hB n) fuel Ya cs x h;exact⟨l,hl,trivial⟩
theorem rd_cls(hB:Bulk sz)(n:Nat):ReadsB enc Tryz.prog w base spare held sz n 79 (clsA) (λ(c:Cls) (b:Nat)=>c.parents.length<=b):=λfuel hf cs x h=>by
 obtain⟨xs,m,rfl,hx,hl,hn,hg⟩:=DataW.trod_struct Tryz.underlying79 h;have hl:cs.length=3:=hl.trans Yf;have h0:=hg 0 _ rfl;have h1:=hg 1 _ rfl;have h2:=hg 2 _ rfl;rw[List.getElem?_eq_getElem Yak] at h0 h1 h2;obtain⟨y0,r0,q0⟩:=rd_ints hB m m (Nat.le_refl _) _ _ h0;obtain⟨y1,r1,q1⟩:=rd_ints hB m m (Nat.le_refl _) _ _ h1;obtain⟨y2,r2,q2⟩:=rd_inits hB m m (Nat.le_refl _) _ _ h2;have hz0:sz (xs[0]'Yak).1<=sz x.1:=by rw[hx];exact hB.ag _ _ (List.mem_map.2 ⟨_,List.getElem_mem _,rfl⟩)
 replace q0:(λ(l:List _) (b:Nat)=>l.length<=b) y0 (sz x.1):=(λh1 h2=>Nat.le_trans h2 h1) hz0 q0;have hz1:sz (xs[1]'Yak).1<=sz x.1:=by rw[hx];exact hB.ag _ _ (List.mem_map.2 ⟨_,List.getElem_mem _,rfl⟩)
 replace q1:(λ(l:List _) (b:Nat)=>l.length<=b) y1 (sz x.1):=(λh1 h2=>Nat.le_trans h2 h1) hz1 q1;refine⟨⟨y0,y1,y2⟩,?_,q0⟩;have:=(relL_join (a:=0) (n:=2) (m:=1) (relL_join (a:=0) (n:=1) (m:=1) r0 r1) r2);rwa [List.drop_zero,List.take_of_length_le Ya] at this
theorem rd_clss(hB:Bulk sz)(n:Nat):ReadsB enc Tryz.prog w base spare held sz n 22 (λl:List Cls=>[AV.sl 3 (l.map clsA)]) (λ(l:List Cls) (b:Nat)=>l.length<=b/\∀c∈l,c.parents.length<=b):=λfuel hf cs x h=>by
 obtain⟨l,hl,hq⟩:=readsB_slice (n:=n) hB (k:=3) (Q:=λ(c:Cls) (b:Nat)=>c.parents.length<=b) (λy a b=>λh1 h2=>Nat.le_trans h2 h1) Tryz.underlying22 Yf Ya (λ_=>rfl) (rd_cls hB n) fuel Ya cs x h;exact⟨l,hl,hq⟩
theorem rd_factN:∀n:Nat,Reads enc Tryz.prog w base spare held n 166 Fcells
 | 0,fuel,hf,cs,x,h=>by
  obtain⟨xs,m,rfl,_⟩:=DataW.trod_struct Tryz.underlying166 h;omega
 | n+1,fuel,hf,cs,x,h=>by
  obtain⟨xs,m,rfl,_,hl,hn,hg⟩:=DataW.trod_struct Tryz.underlying166 h;have hl:cs.length=6:=hl.trans Yf;have h0:=hg 0 _ rfl;have h1:=hg 1 _ rfl;have h2:=hg 2 _ rfl;have h3:=hg 3 _ rfl;have h4:=hg 4 _ rfl;have h5:=hg 5 _ rfl;rw[List.getElem?_eq_getElem Yak] at h0 h1 h2 h3 h4 h5;have hi:Reads enc Tryz.prog w base spare held m 3 (λq:Int=>[AV.i q]):=reads_int Tryz.underlying3;obtain⟨y0,r0⟩:=reads_int (n:=m) Tryz.underlying163 m (Nat.le_refl _) _ _ h0;obtain⟨y1,r1⟩:=hi m (Nat.le_refl _) _ _ h1;obtain⟨y2,r2⟩:=reads_slice (n:=m) (k:=1) Tryz.underlying23 Yf Ya (λ_=>rfl) hi m Ya _ _ h2;obtain⟨y3,r3⟩:=hi m (Nat.le_refl _) _ _ h3;obtain⟨y4,r4⟩:=hi m (Nat.le_refl _) _ _ h4;obtain⟨y5,r5⟩:=reads_slice (n:=n) (k:=6) Tryz.underlying164 Yf Ya (λ_=>rfl) (rd_factN n) m Ya _ _ h5;refine⟨.mk y0 y1 y2 y3 y4 y5,?_⟩;have r5:RelL (allI w) w [AV.sl 6 (y5.map Fcells)] _:=r5;rw[<-encFs_map] at r5;have:=relL_join (a:=0) (n:=5) (m:=1) (relL_join (a:=0) (n:=4) (m:=1) (relL_join (a:=0) (n:=3) (m:=1) (relL_join (a:=0) (n:=2) (m:=1) (relL_join (a:=0) (n:=1) (m:=1) r0 r1) r2) r3) r4) r5;rwa [List.drop_zero,List.take_of_length_le Ya] at this
theorem rd_fact(hB:Bulk sz)(n:Nat):ReadsB enc Tryz.prog w base spare held sz n 166 Fcells (λ_ _=>True):=(rd_factN n).b
theorem rd_mth(hB:Bulk sz)(n:Nat):ReadsB enc Tryz.prog w base spare held sz n 168 (mthA) (λ_ _=>True):=λfuel hf cs x h=>by
 obtain⟨xs,m,rfl,hx,hl,hn,hg⟩:=DataW.trod_struct Tryz.underlying168 h;have hl:cs.length=9:=hl.trans Yf;have h0:=hg 0 _ rfl;have h1:=hg 1 _ rfl;have h2:=hg 2 _ rfl;have h3:=hg 3 _ rfl;rw[List.getElem?_eq_getElem Yak] at h0 h1 h2 h3;obtain⟨y0,r0,q0⟩:=rd_FormKind hB m m (Nat.le_refl _) _ _ h0;obtain⟨y1,r1,q1⟩:=rd_int hB m m (Nat.le_refl _) _ _ h1;obtain⟨y2,r2,q2⟩:=rd_fact hB m m (Nat.le_refl _) _ _ h2;obtain⟨y3,r3,q3⟩:=rd_int hB m m (Nat.le_refl _) _ _ h3;refine⟨⟨y0,y1,y2,y3⟩,?_,trivial⟩;have:=(relL_join (a:=0) (n:=8) (m:=1) (relL_join (a:=0) (n:=2) (m:=6) (relL_join (a:=0) (n:=1) (m:=1) r0 r1) r2) r3);rwa [List.drop_zero,List.take_of_length_le Ya] at this
theorem rd_mths(hB:Bulk sz)(n:Nat):ReadsB enc Tryz.prog w base spare held sz n 24 (λl:List Mth=>[AV.sl 9 (l.map mthA)]) (λ_ _=>True):=λfuel hf cs x h=>by
 obtain⟨l,hl,_⟩:=readsB_slice (n:=n) hB (k:=9) (Q:=λ_ _=>True) (λy a b=>λ_ _=>trivial) Tryz.underlying24 Yf Ya (λ_=>rfl) (rd_mth hB n) fuel Ya cs x h;exact⟨l,hl,trivial⟩
theorem rd_nd(hB:Bulk sz)(n:Nat):ReadsB enc Tryz.prog w base spare held sz n 146 (ndA) (λ_ _=>True):=λfuel hf cs x h=>by
 obtain⟨xs,m,rfl,hx,hl,hn,hg⟩:=DataW.trod_struct Tryz.underlying146 h;have hl:cs.length=3:=hl.trans Yf;have h0:=hg 0 _ rfl;have h1:=hg 1 _ rfl;have h2:=hg 2 _ rfl;rw[List.getElem?_eq_getElem Yak] at h0 h1 h2;obtain⟨y0,r0,q0⟩:=rd_FormOp hB m m (Nat.le_refl _) _ _ h0;obtain⟨y1,r1,q1⟩:=rd_int hB m m (Nat.le_refl _) _ _ h1;obtain⟨y2,r2,q2⟩:=rd_ints hB m m (Nat.le_refl _) _ _ h2;have hz2:sz (xs[2]'Yak).1<=sz x.1:=by rw[hx];exact hB.ag _ _ (List.mem_map.2 ⟨_,List.getElem_mem _,rfl⟩)
 replace q2:(λ(l:List _) (b:Nat)=>l.length<=b) y2 (sz x.1):=(λh1 h2=>Nat.le_trans h2 h1) hz2 q2;refine⟨⟨y0,y1,y2⟩,?_,trivial⟩;have:=(relL_join (a:=0) (n:=2) (m:=1) (relL_join (a:=0) (n:=1) (m:=1) r0 r1) r2);rwa [List.drop_zero,List.take_of_length_le Ya] at this
theorem rd_nds(hB:Bulk sz)(n:Nat):ReadsB enc Tryz.prog w base spare held sz n 25 (λl:List Nd=>[AV.sl 3 (l.map ndA)]) (λ_ _=>True):=λfuel hf cs x h=>by
 obtain⟨l,hl,_⟩:=readsB_slice (n:=n) hB (k:=3) (Q:=λ_ _=>True) (λy a b=>λ_ _=>trivial) Tryz.underlying25 Yf Ya (λ_=>rfl) (rd_nd hB n) fuel Ya cs x h;exact⟨l,hl,trivial⟩
theorem rd_prog(hB:Bulk sz)(n:Nat):ReadsB enc Tryz.prog w base spare held sz n 27 (progC) (λ(p:Prog) (b:Nat)=>p.classes.length<=b/\∀c∈p.classes,c.parents.length<=b):=λfuel hf cs x h=>by
 obtain⟨xs,m,rfl,hx,hl,hn,hg⟩:=DataW.trod_struct Tryz.underlying27 h;have hl:cs.length=6:=hl.trans Yf;have h0:=hg 0 _ rfl;have h1:=hg 1 _ rfl;have h2:=hg 2 _ rfl;have h3:=hg 3 _ rfl;have h4:=hg 4 _ rfl;have h5:=hg 5 _ rfl;rw[List.getElem?_eq_getElem Yak] at h0 h1 h2 h3 h4 h5;obtain⟨y0,r0,q0⟩:=rd_clss hB m m (Nat.le_refl _) _ _ h0;obtain⟨y1,r1,q1⟩:=rd_int hB m m (Nat.le_refl _) _ _ h1;obtain⟨y2,r2,q2⟩:=rd_ints hB m m (Nat.le_refl _) _ _ h2;obtain⟨y3,r3,q3⟩:=rd_mths hB m m (Nat.le_refl _) _ _ h3;obtain⟨y4,r4,q4⟩:=rd_nds hB m m (Nat.le_refl _) _ _ h4;obtain⟨y5,r5,q5⟩:=rd_int hB m m (Nat.le_refl _) _ _ h5;have hz0:sz (xs[0]'Yak).1<=sz x.1:=by rw[hx];exact hB.ag _ _ (List.mem_map.2 ⟨_,List.getElem_mem _,rfl⟩)
 replace q0:(λ(l:List Cls) (b:Nat)=>l.length<=b/\∀c∈l,c.parents.length<=b) y0 (sz x.1):=(λh1 h2=>⟨Nat.le_trans h2.1 h1,λc hc=>Nat.le_trans (h2.2 c hc) h1⟩) hz0 q0;have hz2:sz (xs[2]'Yak).1<=sz x.1:=by rw[hx];exact hB.ag _ _ (List.mem_map.2 ⟨_,List.getElem_mem _,rfl⟩)
 replace q2:(λ(l:List _) (b:Nat)=>l.length<=b) y2 (sz x.1):=(λh1 h2=>Nat.le_trans h2 h1) hz2 q2;refine⟨⟨y0,y1,y2,y3,y4,y5⟩,?_,q0⟩;have:=(relL_join (a:=0) (n:=5) (m:=1) (relL_join (a:=0) (n:=4) (m:=1) (relL_join (a:=0) (n:=3) (m:=1) (relL_join (a:=0) (n:=2) (m:=1) (relL_join (a:=0) (n:=1) (m:=1) r0 r1) r2) r3) r4) r5);rwa [List.drop_zero,List.take_of_length_le Ya] at this
theorem rd_val(hB:Bulk sz)(n:Nat):ReadsB enc Tryz.prog w base spare held sz n 60 (initA) (λ_ _=>True):=λfuel hf cs x h=>by
 obtain⟨xs,m,rfl,hx,hl,hn,hg⟩:=DataW.trod_struct Tryz.underlying60 h;have hl:cs.length=2:=hl.trans Yf;have h0:=hg 0 _ rfl;have h1:=hg 1 _ rfl;rw[List.getElem?_eq_getElem Yak] at h0 h1;obtain⟨y0,r0,q0⟩:=rd_MeanKind hB m m (Nat.le_refl _) _ _ h0;obtain⟨y1,r1,q1⟩:=rd_int hB m m (Nat.le_refl _) _ _ h1;refine⟨⟨y0,y1⟩,?_,trivial⟩;have:=(relL_join (a:=0) (n:=1) (m:=1) r0 r1);rwa [List.drop_zero,List.take_of_length_le Ya] at this
theorem rd_vals(hB:Bulk sz)(n:Nat):ReadsB enc Tryz.prog w base spare held sz n 29 (λl:List (Int×Int)=>[AV.mvs l]) (λ_ _=>True):=λfuel hf cs x h=>by
 obtain⟨l,hl,_⟩:=readsB_slice (n:=n) hB (k:=2) (Q:=λ_ _=>True) (λy a b=>λ_ _=>trivial) Tryz.underlying29 Yf Ya (λ_=>rfl) (rd_val hB n) fuel Ya cs x h;exact⟨l,hl,trivial⟩
theorem rd_th(hB:Bulk sz)(n:Nat):ReadsB enc Tryz.prog w base spare held sz n 65 (thA) (λ_ _=>True):=λfuel hf cs x h=>by
 obtain⟨xs,m,rfl,hx,hl,hn,hg⟩:=DataW.trod_struct Tryz.underlying65 h;have hl:cs.length=2:=hl.trans Yf;have h0:=hg 0 _ rfl;have h1:=hg 1 _ rfl;rw[List.getElem?_eq_getElem Yak] at h0 h1;obtain⟨y0,r0,q0⟩:=rd_int hB m m (Nat.le_refl _) _ _ h0;obtain⟨y1,r1,q1⟩:=rd_vals hB m m (Nat.le_refl _) _ _ h1;refine⟨⟨y0,y1⟩,?_,trivial⟩;have:=(relL_join (a:=0) (n:=1) (m:=1) r0 r1);rwa [List.drop_zero,List.take_of_length_le Ya] at this
theorem rd_ths(hB:Bulk sz)(n:Nat):ReadsB enc Tryz.prog w base spare held sz n 28 (λl:List Th=>[AV.ths l]) (λ_ _=>True):=λfuel hf cs x h=>by
 obtain⟨l,hl,_⟩:=readsB_slice (n:=n) hB (k:=2) (Q:=λ_ _=>True) (λy a b=>λ_ _=>trivial) Tryz.underlying28 Yf Ya (λ_=>rfl) (rd_th hB n) fuel Ya cs x h;exact⟨l,hl,trivial⟩
theorem rd_byte(hB:Bulk sz)(n:Nat):ReadsB enc Tryz.prog w base spare held sz n 5 (λq:Go.Eng.Im.U8=>[Go.Eng.Im.u8 q]) (λ_ _=>True):=λfuel _ cs x h=>by
 obtain⟨q,rfl,_,hw⟩:=DataW.trod_int Tryz.underlying5 h;simp[Lit.wf,IntKind.min,IntKind.max,IntKind.signed,IntKind.bits] at hw;exact⟨⟨q.toNat,Ya⟩,.cons _ _ _ _ (by rw[Go.Eng.Im.u8,Int.toNat_of_nonneg Ya];exact .val _) .nil,trivial⟩
theorem rd_bytes(hB:Bulk sz)(n:Nat):ReadsB enc Tryz.prog w base spare held sz n 30 (λl:List Go.Eng.Im.U8=>[Go.Eng.Im.u8s l]) (λ(l:List _) (b:Nat)=>l.length<=b):=λfuel hf cs x h=>by
 obtain⟨l,hl,hq⟩:=readsB_slice (n:=n) hB (k:=1) (Q:=λ_ _=>True) (λy a b=>λ_ _=>trivial) Tryz.underlying30 Yf Ya (λ_=>rfl) (rd_byte hB n) fuel Ya cs x h;exact⟨l,hl,hq.1⟩
theorem rd_given(hB:Bulk sz)(n:Nat):ReadsB enc Tryz.prog w base spare held sz n 32 (Gcells) (λ(g:Gv) (b:Nat)=>(g.p.classes.length<=b/\∀c∈g.p.classes,c.parents.length<=b)/\g.bytes.length<=b):=λfuel hf cs x h=>by
 obtain⟨xs,m,rfl,hx,hl,hn,hg⟩:=DataW.trod_struct Tryz.underlying32 h;have hl:cs.length=11:=hl.trans Yf;have h0:=hg 0 _ rfl;have h1:=hg 1 _ rfl;have h2:=hg 2 _ rfl;have h3:=hg 3 _ rfl;have h4:=hg 4 _ rfl;have h5:=hg 5 _ rfl;rw[List.getElem?_eq_getElem Yak] at h0 h1 h2 h3 h4 h5;obtain⟨y0,r0,q0⟩:=rd_prog hB m m (Nat.le_refl _) _ _ h0;obtain⟨y1,r1,q1⟩:=rd_ths hB m m (Nat.le_refl _) _ _ h1;obtain⟨y2,r2,q2⟩:=rd_vals hB m m (Nat.le_refl _) _ _ h2;obtain⟨y3,r3,q3⟩:=rd_ths hB m m (Nat.le_refl _) _ _ h3;obtain⟨y4,r4,q4⟩:=rd_vals hB m m (Nat.le_refl _) _ _ h4;obtain⟨y5,r5,q5⟩:=rd_bytes hB m m (Nat.le_refl _) _ _ h5;have hz0:sz (xs[0]'Yak).1<=sz x.1:=by rw[hx];exact hB.ag _ _ (List.mem_map.2 ⟨_,List.getElem_mem _,rfl⟩)
 replace q0:(λ(p:Prog) (b:Nat)=>p.classes.length<=b/\∀c∈p.classes,c.parents.length<=b) y0 (sz x.1):=(λh1 h2=>⟨Nat.le_trans h2.1 h1,λc hc=>Nat.le_trans (h2.2 c hc) h1⟩) hz0 q0;have hz5:sz (xs[5]'Yak).1<=sz x.1:=by rw[hx];exact hB.ag _ _ (List.mem_map.2 ⟨_,List.getElem_mem _,rfl⟩)
 replace q5:(λ(l:List _) (b:Nat)=>l.length<=b) y5 (sz x.1):=(λh1 h2=>Nat.le_trans h2 h1) hz5 q5;refine⟨⟨y0,y1,y2,y3,y4,y5⟩,?_,⟨q0,q5⟩⟩;have:=(relL_join (a:=0) (n:=10) (m:=1) (relL_join (a:=0) (n:=9) (m:=1) (relL_join (a:=0) (n:=8) (m:=1) (relL_join (a:=0) (n:=7) (m:=1) (relL_join (a:=0) (n:=6) (m:=1) r0 r1) r2) r3) r4) r5);rwa [List.drop_zero,List.take_of_length_le Ya] at this
end
section
variable{H:Type}{enc:TypeId×Value->H}{w:World}{v:Value}{d:DataW H}{ps:List MemPlace}{base base':Nat}{r:Reach}{sz:DataW H->Nat}
theorem given_of(hB:Bulk sz)(h:DataW.Trod enc Tryz.prog w base (λ_=>true) true 32 v d ps):∃g:Gv,Rel (allI w) w (AV.given g) v/\((g.p.classes.length<=sz d/\∀c∈g.p.classes,c.parents.length<=sz d)/\g.bytes.length<=sz d):=by
 obtain⟨fuel,h⟩:=h;obtain⟨g,hg,hq⟩:=rd_given hB fuel fuel (Nat.le_refl _) _ _ h;exact⟨g,rel_agg hg Yr,hq⟩
end
theorem bulk_pos{H:Type}(d:DataW H):1<=Rows.uptoBulk d:=by
 cases d with
 | lit l=>cases l <;> simp[Rows.uptoBulk]
 | _=>simp[Rows.uptoBulk]
theorem bulk_len{H:Type}:∀l:List (DataW H),l.length<=Rows.uptoBulkAll l
 | []=>by simp
 | d::r=>by
  have h1:=bulk_pos d;have h2:=bulk_len r;simp only[Rows.uptoBulkAll,List.length_cons];omega
theorem bulk_el{H:Type}:∀l:List (DataW H),∀e∈l,Rows.uptoBulk e<=Rows.uptoBulkAll l
 | d::r,e,he=>by
  simp only[Rows.uptoBulkAll];rcases List.mem_cons.1 he with rfl | he
  ·omega
  ·have:=bulk_el r e he;omega
theorem bulk{H:Type}:Bulk (Rows.uptoBulk (H:=H)):=
 ⟨λes sp=>by have:=bulk_len es;simp only[Rows.uptoBulk];omega,λes sp e he=>by have:=bulk_el es e he;simp only[Rows.uptoBulk];omega,λps e he=>by have:=bulk_el ps e he;simp only[Rows.uptoBulk];omega⟩
abbrev unfV:Value:=.iface 253 (.agg #[])
abbrev unfA:AV:=.iface 253 (.agg [])
theorem unf_c:unfA.Const unfV where
 is I w u h:=by
  cases h with
  | iface _ _ v h=>cases h with
   | agg _ vs h=>
    have:vs= #[]:=by cases vs with | mk l=>cases h;rfl
    rw[this]
 rel I w:=.iface _ _ _ (.agg _ _ .nil)
def kindA:Option (Option Nat)->AV
 | none=>.val .nilIface
 | some none=>.iface 234 (.agg [])
 | some (some k)=>.iface 233 (.i k)
theorem needT{b:Bool}(hb:b=true)(H:List Ent):RCall Tryz.prog 195 [.b b] H (some (.tup [],H)) H unfA:=by
 refine aC (n:=6) Tryz.func195 λB I w0=>?_;refine Z6 ?_;refine CW.cond rfl (λh0=>?_) (λh0=>?_)
 ·simp[hb] at h0
 ·replace h0:=nm h0;refine Z1 ?_;refine nR [] (H) ?_;exact rfl
theorem needF{b:Bool}(hb:b=false)(H:List Ent):RCall Tryz.prog 195 [.b b] H none H unfA:=by
 refine aC (n:=6) Tryz.func195 λB I w0=>?_;refine Z6 ?_;refine CW.cond rfl (λh0=>?_) (λh0=>?_)
 ·replace h0:=nm h0;refine Z2 ?_;refine oP (POp.makeIface rfl rfl rfl Yf) ?_;refine OL.panicC rfl rfl rfl rfl unf_c ?_;exact outP unf_c (.refl _) ⟨rfl,rfl,rfl⟩
 ·simp[hb] at h0
theorem between(n:Int):PCall Tryz.prog 225 [.i n] (.b (inP n)):=by
 intro H;refine aC (n:=9) Tryz.func225 λB I w0=>?_;refine Z17 ?_;refine r1 2 (H) ?_;exact⟨retB (by unfold inP;by_cases h: -1000000000<=n <;> simp[h]),rfl⟩
theorem sIndex(l:List Int)(v:Int):PCall Tryz.prog 103 [AV.ints l,.i v] (.i (idxB l v)):=by
 intro H;refine aC (n:=19) Tryz.func103 λB I w0=>?_;refine CW.boundM (t:=0) rfl (λhb0=>?_);refine Z14 ?_;refine lj (λm st=>∃k:Nat,st=⟨[(8,.i k),(7,.i l.length),(0,AV.ints l),(1,.i v)],H⟩/\m=l.length - k/\k<=l.length/\∀x∈l.take k,x≠v) (⟨0,rfl,rfl,Yr,Yr⟩) ?_;rintro m _ ⟨k,rfl,rfl,hk,hp⟩;refine Z6 ?_;refine cd (λh0=>?_) λh0=>?_
 ·refine Z20 ?_;refine cd (λh1=>?_) λh1=>?_
  ·refine Z12 ?_;refine r1 4 (H) ?_;exact⟨retI (idxB_at Ya hp h1),rfl⟩
  ·refine Z7 ?_;exact ag (⟨k+1,rfl,rfl,Ya,ne_step Ya hp h1⟩)
 ·refine Z11 ?_;refine r1 4 (H) ?_;exact⟨retI (idxB_none Yag),rfl⟩
theorem sContains(l:List Int)(v:Int):PCall Tryz.prog 38 [AV.ints l,.i v] (.b (l.contains v)):=by
 intro H;refine aC (n:=9) Tryz.func38 λB I w0=>?_;refine Z9 ?_;refine oP (POp.call .k ((sIndex _ _))) ?_;refine Z5 ?_;refine r1 4 (H) ?_;exact⟨retB (idxB_contains _ _),rfl⟩
theorem fine(g:List (List Int)):PCall Tryz.prog 246 [AV.intss g] (.b (fineP g)):=by
 intro H;refine aC (n:=44) Tryz.func246 λB I w0=>?_;refine CW.boundM (t:=0) rfl (λhb0=>?_);refine Z13 ?_;refine cd (λh0=>?_) λh0=>?_
 ·refine Z7 ?_;refine r1 2 (H) ?_;exact⟨retB (fine_no1 Ya).symm,rfl⟩
 ·refine Z11 ?_;refine lj (λm st=>∃i:Nat,st=⟨[(12,.i i),(11,.i g.length),(10,AV.intss g)],H⟩/\m=g.length - i/\i<=g.length/\fineG 0 (g.take i)=true) (⟨0,rfl,rfl,Ya,rfl⟩) ?_;rintro m _ ⟨i,rfl,rfl,hi,hg⟩;refine Z6 ?_;refine cd (λh1=>?_) λh1=>?_
  ·have hil:i<g.length:=by simpa using h1
   obtain⟨L,hL⟩:∃L,L=g.getD i default:=⟨_,rfl⟩;refine Z15 ?_;rw[<-hL];refine CW.boundM (t:=4) rfl (λhb4=>?_);refine Z6 ?_;refine cd (λh2=>?_) λh2=>?_
   ·refine Z12 ?_;refine r1 2 (H) ?_;exact⟨retB (fine_no2 hil (by rw[<-hL];have: ¬L.length<=3:=Ya;simp[this])).symm,rfl⟩
   ·refine Z10 ?_;refine lj (λm st=>∃k:Nat,st=⟨[(22,.i k),(21,.i L.length),(20,AV.ints L),(3,.i i),(4,AV.ints L),(12,.i i),(11,.i g.length),(10,AV.intss g)],H⟩/\m=L.length - k/\k<=L.length/\fineL i [] (L.take k)=true) (⟨0,rfl,rfl,Ya,rfl⟩) ?_;rintro m _ ⟨k,rfl,rfl,hk,hl⟩;refine Z6 ?_;refine cd (λh3=>?_) λh3=>?_
    ·have hkl:k<L.length:=by simpa using h3
     refine Z26 ?_;refine OL.guardC rfl rfl rfl rfl rfl rfl (λhg=>POp.slTo rfl rfl YY rfl YY Ya) ?_;refine Z1 ?_;refine OL.guardC rfl rfl rfl rfl rfl rfl (λhg=>POp.call (.mk' rfl rfl rfl rfl Yd) ((sContains _ _))) ?_;refine Z3 ?_;refine cd (λh4=>?_) λh4=>?_
     ·refine Z15 ?_;refine r1 2 (H) ?_;exact⟨retB (fine_no2 hil (by rw[<-hL,fine_no3 hkl Yt,Bool.and_false])).symm,rfl⟩
     ·refine Z7 ?_;exact ag (⟨k+1,rfl,rfl,hkl,by rw[fineL_take i L [] k hkl,hl];simp_all⟩)
    ·have e3:k=L.length:=by omega
     rw[e3,List.take_length] at hl;refine Z10 ?_;exact ag (⟨i+1,rfl,rfl,hil,by rw[fineG_take g 0 i hil,hg, <-hL,Nat.zero_add,hl];simp;omega⟩)
  ·have e1:i=g.length:=by omega
   rw[e1,List.take_length] at hg;refine Z11 ?_;refine r1 2 (H) ?_;exact⟨retB (by unfold fineP;rw[hg];simp;omega),rfl⟩
theorem lineCheck(g:List (List Int)):PCall Tryz.prog 223 [AV.intss g] (.i (if fineP g then 0 else 2)):=by
 intro H;refine aC (n:=6) Tryz.func223 λB I w0=>?_;refine Z9 ?_;refine oP (POp.call .k ((fine _))) ?_;refine Z3 ?_;refine cd (λh0=>?_) λh0=>?_
 ·refine Z7 ?_;refine r1 2 (H) ?_;exact⟨retI Yt,rfl⟩
 ·refine Z8 ?_;refine r1 2 (H) ?_;exact⟨retI Yt,rfl⟩
theorem kidsOf(op:Int):PCall Tryz.prog 200 [.i op] (kindA (kindOf op)):=by
 intro H;refine aC (n:=33) Tryz.func200 λB I w0=>?_;refine Z18 ?_;refine cd (λh0=>?_) λh0=>?_
 ·refine Z3 ?_;refine oP (POp.makeIface rfl rfl rfl Yf) ?_;refine Z6 ?_;refine r1 2 (H) ?_;exact⟨retX YaM,rfl⟩
 ·refine CW.cutJ (λst=>∃u:Bool,st=⟨[(8,.b u),(3,.i op)],H⟩/\u=decide (op=1\/op=2\/op=3\/op=6\/op=18)) ?_ ?_
  ·refine Z6 ?_;refine cd (λh1=>?_) λh1=>?_
   ·refine Z1 ?_;exact cj ⟨op==1,rfl,by by_cases hz:op=1 <;> simp_all⟩
   ·refine Z6 ?_;refine cd (λh2=>?_) λh2=>?_
    ·refine Z1 ?_;exact cj ⟨op==2,rfl,by by_cases hz:op=2 <;> simp_all⟩
    ·refine Z6 ?_;refine cd (λh3=>?_) λh3=>?_
     ·refine Z1 ?_;exact cj ⟨op==3,rfl,by by_cases hz:op=3 <;> simp_all⟩
     ·refine Z6 ?_;refine cd (λh4=>?_) λh4=>?_
      ·refine Z1 ?_;exact cj ⟨op==6,rfl,by by_cases hz:op=6 <;> simp_all⟩
      ·refine Z4 ?_;exact cj ⟨op==18,rfl,by by_cases hz:op=18 <;> simp_all⟩
  ·rintro _ ⟨u,rfl,hu4⟩;refine cd (λh5=>?_) λh5=>?_
   ·refine Z2 ?_;refine oP (POp.makeIface rfl rfl rfl Yf) ?_;refine Z6 ?_;refine r1 2 (H) ?_;exact⟨retX YaM,rfl⟩
   ·refine CW.cutJ (λst=>∃u:Bool,st=⟨[(15,.b u),(3,.i op)],H⟩/\u=decide (op=4\/op=8\/op=17)) ?_ ?_
    ·refine Z6 ?_;refine cd (λh6=>?_) λh6=>?_
     ·refine Z1 ?_;exact cj ⟨op==4,rfl,by by_cases hz:op=4 <;> simp_all⟩
     ·refine Z6 ?_;refine cd (λh7=>?_) λh7=>?_
      ·refine Z1 ?_;exact cj ⟨op==8,rfl,by by_cases hz:op=8 <;> simp_all⟩
      ·refine Z4 ?_;exact cj ⟨op==17,rfl,by by_cases hz:op=17 <;> simp_all⟩
    ·rintro _ ⟨u,rfl,hu10⟩;refine cd (λh8=>?_) λh8=>?_
     ·refine Z2 ?_;refine oP (POp.makeIface rfl rfl rfl Yf) ?_;refine Z6 ?_;refine r1 2 (H) ?_;exact⟨retX YaM,rfl⟩
     ·refine CW.cutJ (λst=>∃u:Bool,st=⟨[(20,.b u),(3,.i op)],H⟩/\u=decide (op=7\/op=9\/op=11\/op=12\/op=13\/op=14\/op=15\/op=16)) ?_ ?_
      ·refine Z6 ?_;refine cd (λh9=>?_) λh9=>?_
       ·refine Z1 ?_;exact cj ⟨op==7,rfl,by by_cases hz:op=7 <;> simp_all⟩
       ·refine Z6 ?_;refine cd (λh10=>?_) λh10=>?_
        ·refine Z1 ?_;exact cj ⟨op==9,rfl,by by_cases hz:op=9 <;> simp_all⟩
        ·refine Z6 ?_;refine cd (λh11=>?_) λh11=>?_
         ·refine Z1 ?_;exact cj ⟨op==11,rfl,by by_cases hz:op=11 <;> simp_all⟩
         ·refine Z6 ?_;refine cd (λh12=>?_) λh12=>?_
          ·refine Z1 ?_;exact cj ⟨op==12,rfl,by by_cases hz:op=12 <;> simp_all⟩
          ·refine Z6 ?_;refine cd (λh13=>?_) λh13=>?_
           ·refine Z1 ?_;exact cj ⟨op==13,rfl,by by_cases hz:op=13 <;> simp_all⟩
           ·refine Z6 ?_;refine cd (λh14=>?_) λh14=>?_
            ·refine Z1 ?_;exact cj ⟨op==14,rfl,by by_cases hz:op=14 <;> simp_all⟩
            ·refine Z6 ?_;refine cd (λh15=>?_) λh15=>?_
             ·refine Z1 ?_;exact cj ⟨op==15,rfl,by by_cases hz:op=15 <;> simp_all⟩
             ·refine Z4 ?_;exact cj ⟨op==16,rfl,by by_cases hz:op=16 <;> simp_all⟩
      ·rintro _ ⟨u,rfl,hu14⟩;refine cd (λh16=>?_) λh16=>?_
       ·refine Z2 ?_;refine oP (POp.makeIface rfl rfl rfl Yf) ?_;refine Z6 ?_;refine r1 2 (H) ?_;exact⟨retX YaM,rfl⟩
       ·refine Z6 ?_;refine cd (λh17=>?_) λh17=>?_
        ·refine Z2 ?_;refine oP (POp.makeIface rfl rfl rfl Yf) ?_;refine Z6 ?_;refine r1 2 (H) ?_;exact⟨retX YaM,rfl⟩
        ·refine Z9 ?_;refine r1 2 (H) ?_;exact⟨retX YaM,rfl⟩
theorem number(p:Prog)(hC:p.classes.length<=100)(x:Nd)(size:Int):PCall Tryz.prog 199 [AV.prog p,AV.nd x,.i size] (.b (numP p x size)):=by
 intro H;refine aC (n:=52) Tryz.func199 λB I w0=>?_;refine Z26 ?_;refine cd (λh0=>?_) λh0=>?_
 ·refine Z4 ?_;refine oP (POp.call .k (between x.n)) ?_;refine Z6 ?_;refine r1 6 (H) ?_;exact⟨retB (by simp[numP,h0]),rfl⟩
 ·refine Z6 ?_;refine cd (λh1=>?_) λh1=>?_
  ·refine Z21 ?_;refine r1 6 (H) ?_;exact⟨retB Yq,rfl⟩
  ·refine Z7 ?_;refine cd (λh2=>?_) λh2=>?_
   ·refine Z2 ?_;refine cd (λh3=>?_) λh3=>?_
    ·refine Z22 ?_;refine r1 6 (H) ?_;exact⟨retB Yq,rfl⟩
    ·refine Z7 ?_;refine cd (λh4=>?_) λh4=>?_
     ·refine Z2 ?_;refine cd (λh5=>?_) λh5=>?_
      ·refine Z20 ?_;refine r1 6 (H) ?_;exact⟨retB Yq,rfl⟩
      ·refine Z6 ?_;refine cd (λh6=>?_) λh6=>?_
       ·refine Z23 ?_;refine r1 6 (H) ?_;exact⟨retB Yq,rfl⟩
       ·refine Z18 ?_;refine r1 6 (H) ?_;exact⟨retB Yq,rfl⟩
     ·refine Z5 ?_;refine cd (λh7=>?_) λh7=>?_
      ·refine Z20 ?_;refine r1 6 (H) ?_;exact⟨retB Yq,rfl⟩
      ·refine Z6 ?_;refine cd (λh8=>?_) λh8=>?_
       ·refine Z23 ?_;refine r1 6 (H) ?_;exact⟨retB Yq,rfl⟩
       ·refine Z18 ?_;refine r1 6 (H) ?_;exact⟨retB Yq,rfl⟩
   ·refine Z5 ?_;refine cd (λh9=>?_) λh9=>?_
    ·refine Z22 ?_;refine r1 6 (H) ?_;exact⟨retB Yq,rfl⟩
    ·refine Z7 ?_;refine cd (λh10=>?_) λh10=>?_
     ·refine Z2 ?_;refine cd (λh11=>?_) λh11=>?_
      ·refine Z20 ?_;refine r1 6 (H) ?_;exact⟨retB Yq,rfl⟩
      ·refine Z6 ?_;refine cd (λh12=>?_) λh12=>?_
       ·refine Z23 ?_;refine r1 6 (H) ?_;exact⟨retB Yq,rfl⟩
       ·refine Z18 ?_;refine r1 6 (H) ?_;exact⟨retB Yq,rfl⟩
     ·refine Z5 ?_;refine cd (λh13=>?_) λh13=>?_
      ·refine Z20 ?_;refine r1 6 (H) ?_;exact⟨retB Yq,rfl⟩
      ·refine Z6 ?_;refine cd (λh14=>?_) λh14=>?_
       ·refine Z23 ?_;refine r1 6 (H) ?_;exact⟨retB Yq,rfl⟩
       ·refine Z18 ?_;refine r1 6 (H) ?_;exact⟨retB Yq,rfl⟩
theorem soMany(n:Int)(p:Prog)(x:Nd):PCall Tryz.prog 324 [.i n,AV.prog p,AV.nd x] (.i n):=by
 intro H;refine aC (n:=8) Tryz.func324 λB I w0=>?_;refine Z14 ?_;refine r1 6 (H) ?_;exact⟨Yg,rfl⟩
theorem argMany(p:Prog)(x:Nd)(h0:0<=x.n)(h1:x.n<p.gens.length):PCall Tryz.prog 325 [.agg [],AV.prog p,AV.nd x] (.i (p.gens.getD x.n.toNat default)):=by
 intro H;refine aC (n:=13) Tryz.func325 λB I w0=>?_;refine Z20 ?_;refine r1 6 (H) ?_;exact⟨Yg,rfl⟩
theorem cloneI(l:List Int)(hl:l.length<=4000000):PCall Tryz.prog 245 [AV.ints l] (AV.ints l):=by
 intro H;refine aC (n:=8) Tryz.func245 λB I w0=>?_;refine Z9 ?_;refine OL.isNilC rfl rfl rfl rfl rfl rfl rfl (AVle.refl _) rfl rfl (λn4 hn4=>?_);refine Z2 ?_;refine cd (λh0=>?_) λh0=>?_
 ·refine Z7 ?_;refine Done.retR (rs:=[.tmp 2]) (H':=H) rfl (.tmp rfl (.nil)) (.cons (AVle.nil 1) .nil) Yc ?_;exact⟨by show AV.sl 1 []=AV.sl 1 _;rw[hn4 h0],rfl⟩
 ·refine Z6 ?_;refine oP (POp.appendI rfl rfl rfl (AVle.refl _) rfl rfl (AVle.refl _) (one_ints l) Yw Yw) ?_;refine Z4 ?_;refine r1 2 (H) ?_;exact⟨Yg,rfl⟩
theorem clipS(els:List (List AV)):PCall Tryz.prog 269 [.sl 1 els] (.sl 1 els):=by
 intro H;refine aC (n:=9) Tryz.func269 λB I w0=>?_;refine Z12 ?_;refine oP (POp.slClip rfl rfl rfl rfl rfl rfl rfl) ?_;refine Z4 ?_;refine r1 2 (H) ?_;exact⟨Yg,rfl⟩
theorem clipI(els:List (List AV)):PCall Tryz.prog 212 [.sl 1 els] (.sl 1 els):=by
 intro H;refine aC (n:=9) Tryz.func212 λB I w0=>?_;refine Z12 ?_;refine oP (POp.slClip rfl rfl rfl rfl rfl rfl rfl) ?_;refine Z4 ?_;refine r1 2 (H) ?_;exact⟨Yg,rfl⟩
theorem graph1(c:Cls)(hc:c.parents.length<=4000000):PCall Tryz.prog 244 [AV.cls c] (AV.ints c.parents):=by
 intro H;refine aC (n:=6) Tryz.func244 λB I w0=>?_;refine Z10 ?_;refine oP (POp.call .k ((cloneI _ Ya))) ?_;refine Z4 ?_;refine r1 2 (H) ?_;exact⟨Yg,rfl⟩
theorem eachP(cs:List Cls)(hs:cs.length<=4000000)(hc:∀c∈cs,c.parents.length<=4000000):PCall Tryz.prog 243 [.sl 3 (cs.map clsA),.fn (.func 244) [] []] (AV.intss (cs.map (·.parents))):=by
 intro H;refine aC (n:=23) Tryz.func243 λB I w0=>?_;refine Z12 ?_;refine CW.ownNil 5 23 1 rfl ?_;refine Z7 ?_;refine lj (λm st=>∃(i:Nat) (v:Value),st=⟨[(10,.i i),(9,.i cs.length),(8,.sl 3 (cs.map clsA)),(1,.fn (.func 244) [] []),(5,.as (AV.intss ((cs.take i).map (·.parents))) v)],.own 23 1 v::H⟩/\m=cs.length - i/\i<=cs.length) (⟨0,_,rfl,rfl,Ya⟩) ?_;rintro m _ ⟨i,v,rfl,rfl,hi⟩;refine Z6 ?_;refine cd (λh0=>?_) λh0=>?_
 ·have hil:i<cs.length:=by omega
  have hcc:=hc _ (getD_memB hil);refine Z8 ?_;refine OL.alC rfl rfl rfl rfl (λb0=>?_);refine Z7 ?_;refine oP (POp.call .k (graph1 (cs.getD i default) hcc)) ?_;refine OL.popC (x:=.sl 1 [[AV.ints (cs.getD i default).parents]]) rfl rfl rfl (POp.row rfl rfl Yh rfl rfl rfl rfl rfl rfl) ?_;refine OL.appendC rfl rfl rfl rfl rfl rfl rfl rfl (AVle.refl _) (rfl) (λv=>by repeat (first | exact Upd.head _ _ _ | apply Upd.tail)) Yk Yk (λv19=>?_);refine Z8 ?_;exact ag (⟨i+1,v19,by rw[intss_snoc hil],rfl,hil⟩)
 ·obtain rfl:i=cs.length:=by omega
  rw[List.take_length];refine Z8 ?_;refine oP (POp.callLe .k (.cons (AVle.asL _ _) .nil) (clipS _)) ?_;refine Z4 ?_;refine r1 4 (H) ?_;exact⟨Yg,rfl⟩
theorem graph(p:Prog)(hs:p.classes.length<=4000000)(hc:∀c∈p.classes,c.parents.length<=4000000):PCall Tryz.prog 222 [AV.prog p] (AV.intss (graphP p)):=by
 intro H;refine aC (n:=6) Tryz.func222 λB I w0=>?_;refine Z10 ?_;refine oP (POp.call .k (eachP p.classes hs hc)) ?_;refine Z4 ?_;refine r1 2 (H) ?_;exact⟨Yg,rfl⟩
theorem speaks_step(f:Fact)(hf:smallA f=true)(ih:∀k∈f.kids,PCall Tryz.prog 203 [AV.fact k] (.i (speaksP k))):PCall Tryz.prog 203 [AV.fact f] (.i (speaksP f)):=by
 intro H;refine aC (n:=35) Tryz.func203 λB I w0=>?_;rw[speaksP_eq];obtain⟨ha1,ha2,hk⟩:=smallA_iff hf;refine Z11 ?_;refine CW.cutJ (λst=>st=⟨[(3,.i (argB f)),(1,.ptr (Fcells f))],H⟩) ?_ ?_
 ·refine Z17 ?_;refine CW.cond rfl (λh0=>?_) (λh0=>?_)
  ·have ha:argB f=f.arg+1:=by unfold argB;rw[if_pos Ya6]
   rw[ha] at ha1 ha2;refine Z6 ?_;refine Done.le 3 (y:=.i (argB f)) rfl (AVle.eqI (by rw[ha])) ?_;exact cj rfl
  ·have ha:argB f=0:=by unfold argB;rw[if_neg Ya6]
   refine Z1 ?_;refine Done.le 3 (y:=.i (argB f)) rfl (AVle.eqI (by rw[ha])) ?_;exact cj rfl
 ·rintro _ rfl;refine Z10 ?_;refine CW.boundM (t:=23) rfl (λhb23=>?_);refine lj (λm st=>∃j:Nat,st=⟨[(25,.i j),(24,.i f.kids.length),(23,AV.facts f.kids),(3,.i (speaksL (f.kids.take j) (argB f)))],H⟩/\m=f.kids.length - j/\j<=f.kids.length) (⟨0,rfl,rfl,Ya⟩) ?_;rintro m _ ⟨j,rfl,rfl,hj⟩;refine Z6 ?_;refine cd (λh1=>?_) λh1=>?_
  ·have hjl:j<f.kids.length:=by omega
   have hkm:=getD_memB hjl;have hsn:=speaksL_snoc (f.kids.getD j default) (f.kids.take j) (argB f);rw[take_getD hjl] at hsn;refine Z8 ?_;refine OL.alC rfl rfl rfl rfl (λb0=>?_);refine Z6 ?_;refine oP (POp.call .k (ih _ hkm)) ?_;refine oP (POp.max2 rfl rfl rfl rfl rfl rfl) ?_;refine Z4 ?_;refine CW.le 3 (y:=.i (speaksL (f.kids.take (j+1)) (argB f))) rfl (AVle.eqI (by rw[hsn,Int.max_def];split <;> split <;> omega)) ?_;refine Z4 ?_;exact ag (⟨j+1,rfl,rfl,Ya⟩)
  ·obtain rfl:j=f.kids.length:=by omega
   rw[List.take_length];refine Z12 ?_;refine r1 2 (H) ?_;exact⟨YaI,rfl⟩
theorem worldB(p:Prog)(hs:p.classes.length<=1000)(hc:∀c∈p.classes,c.parents.length<=4000000/\c.slots.length<=1000):PCall Tryz.prog 201 [AV.prog p] (.agg (Wcells (worldOf p))):=by
 intro H;refine aC (n:=32) Tryz.func201 λB I w0=>?_;refine Z3 ?_;refine OL.alC rfl rfl rfl rfl (λrb=>?_);refine Z5 ?_;refine oP (POp.call .k (graph p Ya (λc h=>(hc c h).1))) ?_;refine Z1 ?_;refine OL.alC rfl rfl rfl rfl (λwb=>?_);refine Z5 ?_;refine CW.ownNilB (b:=wb) (t:=151) 3 1 1 YC rfl rfl ?_;refine Z8 ?_;refine lj (λm st=>∃(i:Nat) (v:Value),st=⟨[(12,.i i),(11,.i p.classes.length),(10,.sl 3 (p.classes.map clsA)),(3,.p wb 0),(2,.p rb 0)],.own 3 1 v::.blk wb 151 [AV.intss (graphP p),.as (AV.ints (ownT p.classes i 0)) v]::.blk rb 151 [.val (.slice none 0 0),.val (.slice none 0 0)]::H⟩/\m=p.classes.length - i/\i<=p.classes.length) (⟨0,_,rfl,rfl,Ya⟩) ?_;rintro m _ ⟨i,v,rfl,rfl,hi⟩;refine Z6 ?_;refine cd (λh0=>?_) λh0=>?_
 ·have hil:i<p.classes.length:=by omega
  have hcc:=hc _ (getD_memB hil);obtain⟨L,hL⟩:∃L,L=p.classes.getD i default:=⟨_,rfl⟩;rw[<-hL] at hcc;refine Z9 ?_;refine OL.alC rfl rfl rfl rfl (λb2=>?_);refine Z5 ?_;rw[<-hL];refine Z8 ?_;refine lj (λm st=>∃(k:Nat) (v:Value),st=⟨[(20,.i k),(19,.i L.slots.length),(4,.i i),(12,.i i),(11,.i p.classes.length),(10,.sl 3 (p.classes.map clsA)),(3,.p wb 0),(2,.p rb 0)],.own 3 1 v::.blk wb 151 [AV.intss (graphP p),.as (AV.ints (ownT p.classes i k)) v]::.blk rb 151 [.val (.slice none 0 0),.val (.slice none 0 0)]::H⟩/\m=L.slots.length - k/\k<=L.slots.length) (⟨0,_,rfl,rfl,Ya⟩) ?_;rintro m _ ⟨k,v,rfl,rfl,hk⟩;refine Z6 ?_;refine cd (λh1=>?_) λh1=>?_
  ·have hkl:k<L.slots.length:=by omega
   refine Z9 ?_;refine OL.popC (x:=.sl 1 [[.i ((i:Int)+3)]]) rfl rfl rfl (POp.row rfl rfl Yh rfl rfl rfl rfl rfl rfl) ?_;refine OL.appendC rfl rfl rfl rfl rfl rfl rfl rfl (AVle.refl _) (rfl) (λv=>by repeat (first | exact Upd.head _ _ _ | apply Upd.tail)) Yx Yx (λv27=>?_);refine Z9 ?_;exact ag (⟨k+1,v27,by rw[ownT_snoc],rfl,hkl⟩)
  ·obtain rfl:k=L.slots.length:=by omega
   refine Z10 ?_;exact ag (⟨i+1,v,by rw[ownT_next hil, <-hL],rfl,hil⟩)
 ·obtain rfl:i=p.classes.length:=by omega
  rw[ownT_all];refine Z12 ?_;refine Done.retR (rs:=[.cell 2 151]) (H':=H) rfl (Ym) (.cons (AVle.agg (.cons (.refl _) (.cons (AVle.asL _ _) .nil))) .nil) Yc ?_;exact⟨Yg,rfl⟩
theorem take_getD[Inhabited α]{l:List α}{k:Nat}(h:k<l.length):l.take k++[l.getD k default]=l.take (k+1):=by
 rw[List.take_succ_eq_append_getElem h,List.getD_eq_getElem?_getD,List.getElem?_eq_getElem h];rfl
theorem split_getD[Inhabited α]{l:List α}{k:Nat}(h:k<l.length):l=l.take k++l.getD k default::l.drop (k+1):=by
 rw[List.getD_eq_getElem?_getD,List.getElem?_eq_getElem h];simp
theorem b150{J Jx:List Int->List Ent->Prop}(l:List Int)(hg:FindOk B Tryz.prog (.fn f fs cs) AV.i l F J Jx)(H Hx:List Ent)(hF:F Hx)(hJ:J [] H):
  BCall B Tryz.prog 305 [.sl 1 (l.map λn=>[AV.i n]),.fn f fs cs] (H++Hx) (FoundAt J Jx l Hx) (λ_ _=>False):=by
 refine BCall.of (n:=19) Tryz.func305 rfl Yf rfl rfl (λI w0=>?_);refine CW.boundM (t:=0) rfl (λhb0=>?_);refine Z14 ?_;refine lj (λm st=>∃(k:Nat) (H1:List Ent),st=⟨[(8,.i k),(7,.i l.length),(0,.sl 1 (l.map λn=>[AV.i n])),(1,.fn f fs cs)],H1++Hx⟩/\m=l.length - k/\k<=l.length/\J (l.take k) H1) (⟨0,H,rfl,rfl,Yr,hJ⟩) ?_;rintro m _ ⟨k,H1,rfl,rfl,hk,hJ1⟩;refine Z6 ?_;refine cd (λh0=>?_) λh0=>?_
 ·refine Z17 ?_;refine OL.vcallC rfl rfl rfl rfl rfl rfl rfl rfl (AVleL.refl _) (hg (l.take k) (l.getD k default) H1 Hx (by rw[take_getD Ya];exact List.take_prefix _ _) hF hJ1) ?_;rintro _ _ ⟨b,H2,rfl,rfl,hb1,hb2⟩;rw[take_getD Ya] at hb1 hb2;refine Z2 ?_;refine cd (λh1=>?_) λh1=>?_
  ·refine Z12 ?_;refine Done.retR (rs:=[.tmp 4]) rfl (.tmp rfl (.nil)) (AVleL.refl _) Yc ?_;exact⟨H2,rfl,.inr ⟨l.take k,l.getD k default,l.drop (k+1),split_getD Ya,retI (by rw[List.length_take,Nat.min_eq_left Ya]),by rw[take_getD Ya];exact hb2 h1⟩⟩
  ·refine Z7 ?_;exact ag (⟨k+1,H2,rfl,rfl,Ya,hb1 h1⟩)
 ·refine Z11 ?_;refine Done.retR (rs:=[.tmp 4]) rfl (.tmp rfl (.nil)) (AVleL.refl _) Yc ?_;exact⟨H1,rfl,.inl ⟨rfl,Ya2⟩⟩
theorem q150{p:Int->Bool}(hg:PredOn Tryz.prog Hm (.fn f fs cs) AV.i l p):QCallIn Tryz.prog Hm 305 [.sl 1 (l.map λn=>[AV.i n]),.fn f fs cs] (λy=>∃n:Int,y= .i n/\decide (n>=0)=l.any p):=
 find_pure Yf (λB F J Jx h H Hx hF hJ=>b150 l h H Hx hF hJ) hg
theorem pi193{p:Int->Bool}(hg:PredOn Tryz.prog Hm (.fn f fs cs) AV.i l p):PCallIn Tryz.prog Hm 289 [.sl 1 (l.map λn=>[AV.i n]),.fn f fs cs] (.b (l.any p)):=by
 intro H hm;refine aC (n:=9) Tryz.func289 λB I w0=>?_;refine Z9 ?_;refine OL.qcallIn rfl rfl rfl .k (q150 hg) hm (λy hy=>?_);obtain⟨n,rfl,hn⟩:=hy;refine Z5 ?_;refine r1 4 (H) ?_;exact⟨retB hn,rfl⟩
theorem pi194{p:Int->Bool}(hg:PredOn Tryz.prog Hm (.fn f fs cs) AV.i l p)(x:Int)(hx:x∈l):PCallIn Tryz.prog Hm 290 [AV.i x,.ptr [.fn f fs cs]] (.b (!p x)):=by
 intro H hm;refine aC (n:=8) Tryz.func290 λB I w0=>?_;refine Z9 ?_;refine OL.vcallC rfl rfl rfl rfl rfl rfl rfl rfl (AVleL.refl _) (hg x hx B H hm) ?_;rintro _ Hn ⟨rfl,hH⟩;have hH:=hH.symm;subst hH;refine Z5 ?_;refine r1 3 (H) ?_;exact⟨Yg,rfl⟩
theorem pi152{p:Int->Bool}(hg:PredOn Tryz.prog Hm (.fn f fs cs) AV.i l p):PCallIn Tryz.prog Hm 274 [.sl 1 (l.map λn=>[AV.i n]),.fn f fs cs] (.b (l.all p)):=by
 intro H hm;refine aC (n:=9) Tryz.func274 λB I w0=>?_;refine Z10 ?_;refine oP (POp.callIn .k (AVleL.refl _) (pi193 (.of (λx hx=>pi194 hg x hx))) (λe he=>by repeat (first | exact hm e he | apply List.mem_cons_of_mem))) ?_;refine Z5 ?_;refine r1 4 (H) ?_;exact⟨retB (by simp[List.not_any_eq_all_not]),rfl⟩
theorem p152{p:Int->Bool}(hg:PredOk Tryz.prog (.fn f fs cs) AV.i p)(l:List Int):PCall Tryz.prog 274 [.sl 1 (l.map λn=>[AV.i n]),.fn f fs cs] (.b (l.all p)):=(pi152 (hg.on l)).pure
theorem b130(l:List Fact)(hg:FindOk B Tryz.prog (.fn f fs cs) AV.fact l F J Jx)(H Hx:List Ent)(hF:F Hx)(hJ:J [] H):
  BCall B Tryz.prog 306 [.sl 6 (encFs l),.fn f fs cs] (H++Hx) (FoundAt J Jx l Hx) (λ_ _=>False):=by
 refine BCall.of (n:=19) Tryz.func306 rfl Yf rfl rfl (λI w0=>?_);refine CW.boundM (t:=0) rfl (λhb0=>?_);refine Z14 ?_;refine lj (λm st=>∃(k:Nat) (H1:List Ent),st=⟨[(8,.i k),(7,.i l.length),(0,.sl 6 (encFs l)),(1,.fn f fs cs)],H1++Hx⟩/\m=l.length - k/\k<=l.length/\J (l.take k) H1) (⟨0,H,rfl,rfl,Yr,hJ⟩) ?_;rintro m _ ⟨k,H1,rfl,rfl,hk,hJ1⟩;refine Z6 ?_;refine cd (λh0=>?_) λh0=>?_
 ·refine Z17 ?_;refine OL.vcallC rfl rfl rfl rfl rfl rfl rfl rfl (AVleL.refl _) (hg (l.take k) (l.getD k default) H1 Hx (by rw[take_getD Ya];exact List.take_prefix _ _) hF hJ1) ?_;rintro _ _ ⟨b,H2,rfl,rfl,hb1,hb2⟩;rw[take_getD Ya] at hb1 hb2;refine Z2 ?_;refine cd (λh1=>?_) λh1=>?_
  ·refine Z12 ?_;refine Done.retR (rs:=[.tmp 4]) rfl (.tmp rfl (.nil)) (AVleL.refl _) Yc ?_;exact⟨H2,rfl,.inr ⟨l.take k,l.getD k default,l.drop (k+1),split_getD Ya,retI (by rw[List.length_take,Nat.min_eq_left Ya]),by rw[take_getD Ya];exact hb2 h1⟩⟩
  ·refine Z7 ?_;exact ag (⟨k+1,H2,rfl,rfl,Ya,hb1 h1⟩)
 ·refine Z11 ?_;refine Done.retR (rs:=[.tmp 4]) rfl (.tmp rfl (.nil)) (AVleL.refl _) Yc ?_;exact⟨H1,rfl,.inl ⟨rfl,Ya2⟩⟩
theorem p151(s:Nat)(c:Int)(hc:0<=c/\c<64)(hs:s<18446744073709551616):PCall Tryz.prog 273 [AV.set s,.i c] (AV.set (s ||| 2^c.toNat)):=by
 intro H;refine aC (n:=9) Tryz.func273 λB I w0=>?_;refine Z9 ?_;refine oP (POp.shift rfl rfl rfl rfl rfl hc.1 (sh_left _ hc)) ?_;refine oP (POp.bits rfl rfl rfl rfl rfl (bit_or _ _ hs (Nat.pow_lt_pow_right (a:=2) (n:=64) Ya Ya))) ?_;refine Z4 ?_;refine r1 4 (H) ?_;exact⟨Yg,rfl⟩
theorem p109(b:Bool):PCall Tryz.prog 230 [.b b] (.i (if b then 0 else 2)):=by
 intro H;refine aC (n:=5) Tryz.func230 λB I w0=>?_;refine Z12 ?_;refine cd (λh0=>?_) λh0=>?_
 ·refine Z7 ?_;refine r1 2 (H) ?_;exact⟨retI Yt,rfl⟩
 ·refine Z8 ?_;refine r1 2 (H) ?_;exact⟨retI Yt,rfl⟩
theorem p134(f:Fact):PCall Tryz.prog 294 [AV.fact f] (.b (decide (2<=f.op) && decide (f.op<=4))):=by
 intro H;refine aC (n:=11) Tryz.func294 λB I w0=>?_;refine Z20 ?_;refine r1 2 (H) ?_;exact⟨retB (by by_cases h:2<=f.op <;> simp[h]),rfl⟩
theorem p125(f:Fact):PCall Tryz.prog 240 [AV.fact f] (.b (f.op==2 || f.op==3 || f.op==4)):=by
 intro H;refine aC (n:=16) Tryz.func240 λB I w0=>?_;refine Z25 ?_;refine r1 2 (H) ?_;exact⟨retB (by by_cases h:f.op=2 <;> by_cases h':f.op=3 <;> simp[h,h']),rfl⟩
theorem p210(op:Int):PCall Tryz.prog 293 [.i op] (.i (if op=5 then 1 else if op=6\/op=7 then 2 else 0)):=by
 intro H;refine aC (n:=9) Tryz.func293 λB I w0=>?_;refine Z18 ?_;refine cd (λh0=>?_) λh0=>?_
 ·refine Z8 ?_;refine r1 2 (H) ?_;exact⟨Yg,rfl⟩
 ·refine Z7 ?_;refine cd (λh1=>?_) λh1=>?_
  ·refine Z2 ?_;refine cd (λh2=>?_) λh2=>?_
   ·refine Z8 ?_;refine r1 2 (H) ?_;exact⟨Yg,rfl⟩
   ·refine Z9 ?_;refine r1 2 (H) ?_;exact⟨Yg,rfl⟩
  ·refine Z5 ?_;refine cd (λh3=>?_) λh3=>?_
   ·refine Z8 ?_;refine r1 2 (H) ?_;exact⟨Yg,rfl⟩
   ·refine Z9 ?_;refine r1 2 (H) ?_;exact⟨Yg,rfl⟩
theorem p153(W:FW)(c:Int)(hW:W.parents.length<=60):PCall Tryz.prog 275 [Wptr W,.i c] (.b (ownP W c)):=by
 intro H;refine aC (n:=18) Tryz.func275 λB I w0=>?_;unfold Wptr;refine CW.boundP (t:=0) (i:=0) rfl rfl (λhb=>?_);refine Z24 ?_;refine r1 4 (H) ?_;exact⟨retB (by unfold ownP;by_cases h:3<=c <;> simp[h]),rfl⟩
theorem p106(W:FW)(c:Int)(hW:W.parents.length<=60):PCall Tryz.prog 296 [Wptr W,.i c] (.b (classP W c)):=by
 intro H;refine aC (n:=18) Tryz.func296 λB I w0=>?_;unfold Wptr;refine CW.boundP (t:=0) (i:=0) rfl rfl (λhb=>?_);refine Z24 ?_;refine r1 4 (H) ?_;exact⟨retB (by unfold classP;by_cases h:0<=c <;> simp[h]),rfl⟩
theorem p177(W:FW)(c:Int):PCall Tryz.prog 307 [Wptr W,.i c] (.b (slotP W c)):=by
 intro H;refine aC (n:=17) Tryz.func307 λB I w0=>?_;unfold Wptr;refine Z23 ?_;refine r1 4 (H) ?_;exact⟨retB (by unfold slotP;by_cases h:0<=c <;> simp[h]),rfl⟩
theorem p85(W:FW)(c:Int)(hW:W.parents.length<=60):PCall Tryz.prog 177 [AV.world W,.i c] (.b (ownP W c)):=by
 intro H;refine aC (n:=15) Tryz.func177 λB I w0=>?_;refine CW.boundA (t:=0) (i:=0) rfl rfl (λhb=>?_);refine Z22 ?_;refine r1 4 (H) ?_;exact⟨retB (by unfold ownP;by_cases h:3<=c <;> simp[h]),rfl⟩
theorem p51(W:FW)(c:Int)(hW:W.parents.length<=60):PCall Tryz.prog 266 [AV.world W,.i c] (.b (classP W c)):=by
 intro H;refine aC (n:=15) Tryz.func266 λB I w0=>?_;refine CW.boundA (t:=0) (i:=0) rfl rfl (λhb=>?_);refine Z22 ?_;refine r1 4 (H) ?_;exact⟨retB (by unfold classP;by_cases h:0<=c <;> simp[h]),rfl⟩
theorem found_cases{J Jx:List α->List Ent->Prop}{l:List α}{Hx:List Ent}{y:AV}{H':List Ent}(h:FoundAt J Jx l Hx y H'):∃(n:Int) (H1:List Ent),y= .i n/\H'=H1++Hx/\(decide (n>=0)=false->J l H1)/\(decide (n>=0)=true->∃pre,pre<+:l/\Jx pre H1):=by
 obtain⟨H1,rfl,h⟩:=h;rcases h with⟨rfl,h⟩ | ⟨pre,x,rest,rfl,rfl,h⟩
 ·exact⟨-1,H1,rfl,rfl,λ_=>h,λh=>by simp at h⟩
 ·exact⟨pre.length,H1,rfl,rfl,λh=>by simp at h,λ_=>⟨pre++[x],⟨rest,Yr⟩,h⟩⟩
theorem b76(l:List Fact)(hg:FindOk B Tryz.prog (.fn f fs cs) AV.fact l F J Jx)(H Hx:List Ent)(hF:F Hx)(hJ:J [] H):
  BCall B Tryz.prog 291 [.sl 6 (encFs l),.fn f fs cs] (H++Hx) (λy H'=>∃b H1,y= .b b/\H'=H1++Hx/\(b=false->J l H1)/\(b=true->∃pre,pre<+:l/\Jx pre H1)) (λ_ _=>False):=by
 refine BCall.of (n:=9) Tryz.func291 rfl Yf rfl rfl (λI w0=>?_);refine Z9 ?_;refine bC .k (b130 l hg H Hx hF hJ) ?_;intro y H' hy;obtain⟨n,H1,rfl,rfl,hn⟩:=found_cases hy;refine Z5 ?_;refine Done.retR (rs:=[.tmp 4]) rfl (.tmp rfl (.nil)) (AVleL.refl _) Yc ?_;exact⟨decide (n>=0),H1,rfl,rfl,hn⟩
theorem b209{L:List Fact}(hg:CbOk B Tryz.prog (.fn f fs cs) AV.fact L (λ_=>True) J Jx)(pre:List Fact)(x:Fact)(H Hx:List Ent)(hpx:pre++[x]<+:L)(hJ:J pre H):
  BCall B Tryz.prog 292 [AV.fact x,.ptr [.fn f fs cs]] (H++Hx) (λy H'=>∃b H1,y= .b b/\H'=H1++Hx/\(b=false->J (pre++[x]) H1)/\(b=true->Jx (pre++[x]) H1)) (λ_ _=>False):=by
 refine BCall.of (n:=8) Tryz.func292 rfl Yf rfl rfl (λI w0=>?_);refine Z10 ?_;refine OL.vcallC rfl rfl rfl rfl rfl rfl rfl rfl (AVleL.refl _) (hg pre x H Hx hpx trivial hJ) ?_;rintro _ _ ⟨b,H1,rfl,rfl,h1,h2⟩;refine Z5 ?_;refine Done.retR (rs:=[.tmp 3]) rfl (.tmp rfl (.nil)) (AVleL.refl _) Yc ?_;exact⟨!b,H1,rfl,rfl,λh=>h1 Y5,λh=>h2 Y5⟩
theorem b180(l:List Fact)(hg:CbOk B Tryz.prog (.fn f fs cs) AV.fact l (λ_=>True) J Jx)(H Hx:List Ent)(hJ:J [] H):
  BCall B Tryz.prog 276 [.sl 6 (encFs l),.fn f fs cs] (H++Hx) (λy H'=>∃b H1,y= .b b/\H'=H1++Hx/\(b=true->J l H1)/\(b=false->∃pre,pre<+:l/\Jx pre H1)) (λ_ _=>False):=by
 refine BCall.of (n:=9) Tryz.func276 rfl Yf rfl rfl (λI w0=>?_);refine Z10 ?_;refine bC .k (b76 (F:=λ_=>True) (J:=J) (Jx:=Jx) l (λpre x H Hx hpx _ hJ=>VCall.fnB (b209 hg pre x H Hx hpx hJ)) H Hx trivial hJ) ?_;rintro _ _ ⟨b,H1,rfl,rfl,h1,h2⟩;refine Z5 ?_;refine Done.retR (rs:=[.tmp 4]) rfl (.tmp rfl (.nil)) (AVleL.refl _) Yc ?_;exact⟨!b,H1,rfl,rfl,λh=>h1 Y5,λh=>h2 Y5⟩
theorem p126(W:FW)(l:List Int):PCall Tryz.prog 295 [Wptr W,AV.ints l] (.b (pathP W l)):=by
 intro H;refine aC (n:=14) Tryz.func295 λB I w0=>?_;refine CW.boundM (t:=1) rfl (λhb=>?_);refine Z14 ?_;refine OL.guardC rfl rfl rfl rfl rfl rfl (λhg=>POp.call (.mk' rfl rfl rfl rfl Yd) (p152 (.of (p177 W)) l)) ?_;refine Z5 ?_;refine r1 4 (H) ?_;exact⟨retB (by unfold pathP;by_cases h:l.length<=2 <;> simp[h] <;> omega),rfl⟩
def NodeC(B:Nat)(W:FW)(deep:Int):Prop:=∀(f:Fact) (left:Int) (b:Nat) (Hx:List Ent),0<=left/\left<=1000->
 BCall B Tryz.prog 278 [Wptr W,AV.fact f,.p b 0,.i deep] (.blk b 3 [.i left]::Hx) (λy H'=>y= .b (nodeP W f left deep).1/\H'= .blk b 3 [.i (nodeP W f left deep).2]::Hx) (λ_ _=>False)
theorem b211(hd:0<deep/\deep<=1000)(ih:NodeC B W (deep - 1))(f:Fact)(left:Int)(b:Nat)(Hx:List Ent)(hl:0<=left/\left<=1000):
  BCall B Tryz.prog 297 [AV.fact f,.ptr [Wptr W],.ptr [.p b 0],.ptr [.i deep]] (.blk b 3 [.i left]::Hx) (λy H'=>y= .b (nodeP W f left (deep - 1)).1/\H'= .blk b 3 [.i (nodeP W f left (deep - 1)).2]::Hx) (λ_ _=>False):=by
 refine BCall.of (n:=12) Tryz.func297 rfl Yf rfl rfl (λI w0=>?_);refine Z13 ?_;refine bC .k (ih f left b Hx hl) ?_;rintro _ _ ⟨rfl,rfl⟩;refine Z4 ?_;refine Done.retR (rs:=[.tmp 5]) rfl (.tmp rfl (.nil)) (AVleL.refl _) Yc ?_;exact⟨rfl,rfl⟩
theorem nodesCb(hd:0<deep/\deep<=1000)(ih:NodeC B W (deep - 1))(left:Int)(hl:0<=left/\left<=1000)(b:Nat)(L:List Fact):
  CbOk B Tryz.prog (.fn (.func 297) [] [.ptr [Wptr W],.ptr [.p b 0],   .ptr [.i deep]]) AV.fact L (λ_=>True) (λpre H=>H= [.blk b 3 [.i (nodesP W pre left (deep - 1)).2]]/\(nodesP W pre left (deep - 1)).1=true) (λpre H=>H= [.blk b 3 [.i (nodesP W pre left (deep - 1)).2]]/\(nodesP W pre left (deep - 1)).1=false):=by
 rintro pre x H Hx _ _ ⟨rfl,hp⟩;have h1:=nodesP_left W pre left (deep - 1) hl.1;refine VCall.mono (VCall.fnB (b211 hd ih x _ b Hx ⟨h1.2 hp,Ya⟩)) ?_ (λ_ _ h=>h);rintro _ _ ⟨rfl,rfl⟩;have h2:=nodesP_snoc W (deep - 1) x pre left hp;exact⟨_,[.blk b 3 [.i (nodeP W x (nodesP W pre left (deep - 1)).2 (deep - 1)).2]],rfl,rfl,λh=>⟨by rw[h2],by rw[h2];exact h⟩,λh=>⟨by rw[h2],by rw[h2];exact h⟩⟩
theorem nodes_end{l:List Fact}{b:Nat}{bb:Bool}{H1:List Ent}(h1:bb=true->H1= [.blk b 3 [.i (nodesP W l left (deep - 1)).2]]/\(nodesP W l left (deep - 1)).1=true)
  (h2:bb=false->∃pre,pre<+:l/\H1= [.blk b 3 [.i (nodesP W pre left (deep - 1)).2]]/\(nodesP W pre left (deep - 1)).1=false):bb=(nodesP W l left (deep - 1)).1/\H1= [.blk b 3 [.i (nodesP W l left (deep - 1)).2]]:=by
 cases bb with
 | true=>obtain⟨e1,e2⟩:=h1 rfl;exact⟨e2.symm,e1⟩
 | false=>
  obtain⟨pre,⟨rest,rfl⟩,e1,e2⟩:=h2 rfl;rw[nodesP_stop W (deep - 1) rest pre left e2];exact⟨e2.symm,e1⟩
theorem bad_false{f:Fact}(h:badP f left deep=false)(hd:0<=deep)(hl:left<=1000):(0<=left/\left<=1000)/\0<deep:=by
 simp only[badP,Bool.or_eq_false_iff,decide_eq_false_iff_not,beq_eq_false_iff_ne,ne_eq] at h;omega
theorem node_bad{f:Fact}(h:badP f (left - 1) deep=true):nodeP W f left deep=(false,left - 1):=by rw[nodeP_eq,if_pos h]
theorem node_leaf{f:Fact}(h:badP f (left - 1) deep=false)(h1:leafP f=true):nodeP W f left deep=(argP W f && leafOkP W f,left - 1):=by rw[nodeP_eq,if_neg Yv,if_pos h1]
theorem node_notPlain{f:Fact}(h:badP f (left - 1) deep=false)(h1:leafP f=false)(h2:plainP f=false):nodeP W f left deep=(false,left - 1):=by rw[nodeP_eq,if_neg Yv,if_neg (by simp[h1]),if_neg (by simp[h2])]
theorem node_plain{f:Fact}(h:badP f (left - 1) deep=false)(h1:leafP f=false)(h2:plainP f=true):nodeP W f left deep=nodesP W f.kids (left - 1) (deep - 1):=by rw[nodeP_eq,if_neg Yv,if_neg (by simp[h1]),if_pos h2]
theorem leafOk_is{f:Fact}(h:f.op=2):leafOkP W f=((f.n==0) && classP W f.cls):=by rw[leafOkP,if_pos h]
theorem leafOk_not{f:Fact}(h: ¬f.op=2):leafOkP W f=((f.cls==0) && decide (f.n>= -1000000000) && decide (f.n<=1000000000)):=by rw[leafOkP,if_neg h]
theorem bif_and(a b:Bool):(bif a then b else false)=(a && b):=by cases a <;> rfl
theorem bif_or(a b:Bool):(bif a then true else b)=(a || b):=by cases a <;> rfl
theorem b182_step(hW:W.parents.length<=60)(hd:0<=deep/\deep<=1000)(ih:0<deep->NodeC B W (deep - 1)):NodeC B W deep:=by
 intro f left b Hx hl;refine BCall.of (n:=110) Tryz.func278 rfl Yf rfl rfl (λI w0=>?_);refine CW.boundA (t:=1) (i:=5) rfl rfl (λhbk=>?_);refine CW.boundA (t:=1) (i:=2) rfl rfl (λhbp=>?_);refine Z21 ?_;refine CW.dp mixed ?_;refine Z76 ?_;refine DP.anyC 19 25 110 rfl Ye rfl rfl Ye ?_;refine Z5 ?_;refine AD.guardC rfl rfl rfl rfl rfl (λhg=>POp.call (.mk' rfl rfl rfl rfl Yd) ((p210 _))) ?_;refine Z6 ?_;refine CW.cond rfl (λh0=>?_) (λh0=>?_)
 ·have hbad:badP f (left - 1) deep=true:=by simpa only[badP,bif_or,kidsP] using h0
  have hn:=node_bad (W:=W) hbad;refine Z7 ?_;refine Done.retR (rs:=[.tmp 8]) rfl (.tmp rfl (.nil)) (AVleL.refl _) Yc ?_;exact⟨retB (by rw[hn]),Ybo⟩
 ·have hbad:badP f (left - 1) deep=false:=by simpa only[badP,bif_or,kidsP] using h0
  obtain⟨hl1,hd1⟩:=bad_false hbad hd.1 Ya;refine Z7 ?_;refine oP (POp.call .k ((p134 _))) ?_;refine Z4 ?_;refine CW.cond rfl (λh1=>?_) (λh1=>?_)
  ·have hleaf:leafP f=false:=by simpa only[leafP,Bool.not_eq_true'] using h1
   refine Z23 ?_;refine CW.cond rfl (λh2=>?_) (λh2=>?_)
   ·have hplain:plainP f=false:=by rw[plainP,Bool.not_eq_false'];simpa only[bif_or] using h2
    have hn:=node_notPlain (W:=W) hbad hleaf hplain;refine Z8 ?_;refine Done.retR (rs:=[.tmp 8]) rfl (.tmp rfl (.nil)) (AVleL.refl _) Yc ?_;exact⟨retB (by rw[hn]),Ybo⟩
   ·have hplain:plainP f=true:=by rw[plainP,Bool.not_eq_true'];simpa only[bif_or] using h2
    have hn:=node_plain (W:=W) hbad hleaf hplain;refine Z8 ?_;refine bC .k (b180 f.kids (nodesCb ⟨hd1,hd.2⟩ (ih hd1) (left - 1) hl1 b _) [.blk b 3 [.i (left - 1)]] Hx ⟨rfl,rfl⟩) ?_;rintro _ _ ⟨bb,H1,rfl,rfl,e1,e2⟩;obtain⟨e3,e4⟩:=nodes_end e1 e2;subst e4;refine Z4 ?_;refine Done.retR (rs:=[.tmp 8]) rfl (.tmp rfl (.nil)) (AVleL.refl _) Yc ?_;exact⟨retB (by rw[hn];exact e3),Ybo⟩
  ·have hleaf:leafP f=true:=by simpa only[leafP,Bool.not_eq_false'] using h1
   have hn:=node_leaf (W:=W) hbad hleaf;refine Z14 ?_;refine OL.guardC rfl rfl rfl rfl rfl rfl (λhg=>POp.call (.mk' rfl rfl rfl rfl Yd) ((p126 _ _))) ?_;refine Z5 ?_;refine CW.cond rfl (λh3=>?_) (λh3=>?_)
   ·have harg:argP W f=false:=by rw[argP,Bool.not_eq_false'];simpa only[bif_or] using h3
    refine Z8 ?_;refine Done.retR (rs:=[.tmp 8]) rfl (.tmp rfl (.nil)) (AVleL.refl _) Yc ?_;exact⟨retB (by rw[hn,harg];rfl),Ybo⟩
   ·have harg:argP W f=true:=by rw[argP,Bool.not_eq_true'];simpa only[bif_or] using h3
    refine Z8 ?_;refine cd (λh4=>?_) λh4=>?_
    ·refine Z9 ?_;refine OL.guardC rfl rfl rfl rfl rfl rfl (λhg=>POp.call (.mk' rfl rfl rfl rfl Yd) ((p106 _ _ Ybp))) ?_;refine Z7 ?_;refine Done.retR (rs:=[.tmp 8]) rfl (.tmp rfl (.nil)) (AVleL.refl _) Yc ?_;exact⟨retB (by rw[hn,harg,leafOk_is h4,bif_and];rfl),Ybo⟩
    ·refine Z21 ?_;refine Done.retR (rs:=[.tmp 8]) rfl (.tmp rfl (.nil)) (AVleL.refl _) Yc ?_;exact⟨retB (by rw[hn,harg,leafOk_not h4,bif_and,bif_and];rfl),Ybo⟩
theorem nodeC_all{B:Nat}{W:FW}(hW:W.parents.length<=60):∀(n:Nat),n<=1000->NodeC B W n
 | 0,h=>b182_step hW ⟨Ya,Ya⟩ (λh=>by omega)
 | n+1,h=>b182_step hW ⟨Ya,Ya⟩ (λ_=>by
  have e:((n+1:Nat):Int) - 1=(n:Int):=by omega
  rw[e];exact nodeC_all hW n Ya)
theorem p180{p:Fact->Bool}(hg:PredOk Tryz.prog (.fn f fs cs) AV.fact p)(l:List Fact):PCall Tryz.prog 276 [.sl 6 (encFs l),.fn f fs cs] (.b (l.all p)):=by
 intro H;have h0:fnOk Tryz.prog 276=true:=(b180 (B:=0) l (hg.cb l) [] H ⟨rfl,Yr⟩).1;refine⟨h0,λB I w vs hw hh hvs=>((b180 (B:=B) l (hg.cb l) [] H ⟨rfl,Yr⟩).2 I w vs hw hh hvs).mono λe w' hr=>hr.mono (λy H' hy=>?_) λ_ _ h=>h⟩;obtain⟨b,H1,rfl,rfl,h1,h2⟩:=hy;cases b with
 | true=>
  obtain⟨rfl,h⟩:=h1 rfl;exact⟨congrArg AV.b (List.all_eq_true.2 h).symm,rfl⟩
 | false=>
  obtain⟨pre,⟨rest,rfl⟩,rfl,q,x,rfl,h⟩:=h2 rfl;refine⟨congrArg AV.b ?_,rfl⟩;symm;rw[List.all_eq_false];exact⟨x,Yr,Yv⟩
theorem p181(W:FW)(hW:W.parents.length<=60)(f:Fact):PCall Tryz.prog 277 [AV.fact f,.ptr [Wptr W]] (.b (formedP W f)):=by
 intro H;refine aC (n:=8) Tryz.func277 λB I w0=>?_;refine Z8 ?_;refine OL.alC rfl rfl rfl rfl (λb0=>?_);refine Z7 ?_;refine bC .k (nodeC_all hW 12 Ya f 24 b0 H ⟨Ya,Ya⟩) ?_;rintro _ _ ⟨rfl,rfl⟩;refine Z4 ?_;refine r1 3 (H) ?_;exact⟨retB rfl,rfl⟩
theorem p131(W:FW)(hW:W.parents.length<=60)(l:List Fact):PCall Tryz.prog 251 [Wptr W,AV.facts l] (.b (l.all (formedP W))):=by
 intro H;refine aC (n:=8) Tryz.func251 λB I w0=>?_;refine Z10 ?_;refine oP (POp.call .k (p180 (.of (p181 W hW)) l)) ?_;refine Z4 ?_;refine r1 4 (H) ?_;exact⟨Yg,rfl⟩
theorem up_get{i:Nat}(h:i<U.length):(Wcells W++U.map λs=>AV.set s)[2+i]? =some (AV.set (U.getD i 0)):=by
 show ([AV.intss W.parents,AV.ints W.owner]++_)[2+i]? =_;rw[List.getElem?_append_right Yr];simp[List.getElem?_map,List.getElem?_eq_getElem h,List.getD_eq_getElem?_getD]
theorem up_set{i s:Nat}(h:i<U.length):(Wcells W++U.map λs=>AV.set s).take (2+i)++[AV.set s]++(Wcells W++U.map λs=>AV.set s).drop (2+i+1)=Wcells W++(U.set i s).map λs=>AV.set s:=by
 have e:Wcells W= [AV.intss W.parents,AV.ints W.owner]:=rfl;have e1:(Wcells W++U.map λs=>AV.set s).take (2+i)=Wcells W++(U.take i).map λs=>AV.set s:=by
  rw[e,List.take_append,List.map_take];simp[List.take_of_length_le]
 have e2:(Wcells W++U.map λs=>AV.set s).drop (2+i+1)=(U.drop (i+1)).map λs=>AV.set s:=by
  rw[show 2+i+1=(i+1)+2 from by omega,List.map_drop];rfl
 rw[e1,e2,List.append_assoc,List.append_assoc];congr 1;rw[List.set_eq_take_append_cons_drop,if_pos h];simp
end Go.Proofs.YtpgnjlngepfanaaGreat
