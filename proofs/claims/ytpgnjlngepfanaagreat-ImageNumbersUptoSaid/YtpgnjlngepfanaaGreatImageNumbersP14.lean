/- Part 14 of the proof: contracts of functions of the program and what they need. No condition beyond those that each theorem names. -/
import Derived.Test.YtpgnjlngepfanaaGreatImageNumbersP13
set_option maxHeartbeats 1000000
set_option linter.unusedVariables false
set_option linter.unusedSimpArgs false
set_option maxRecDepth 10000
namespace Go.Proofs.YtpgnjlngepfanaaGreat
open Go.Eng
open Go.Eng.Fc
open Go.Eng.Bd
open Go.Eng.Im (U8 u8 u8s sumR splitR)
variable{α:Type}
theorem noneV:PCall Tryz.prog 57 [] (AV.mv (2,0)):=by
 intro H;refine aC (n:=2) Tryz.func57 λB I w0=>?_;refine Z2 ?_;refine OL.alC rfl rfl rfl rfl (λb0=>?_);refine Z9 ?_;refine rR [.cell 0 60] (H) ?_;exact⟨YaI,rfl⟩
theorem progK:PCall Tryz.prog 46 [] (AV.prog P0):=by
 intro H;refine aC (n:=9) Tryz.func46 λB I w0=>?_;refine Z2 ?_;refine OL.alC rfl rfl rfl rfl (λb0=>?_);refine Z4 ?_;refine oP (POp.row rfl rfl Yh rfl rfl rfl rfl rfl rfl) ?_;refine Z1 ?_;refine oP (POp.row rfl rfl Yh rfl rfl rfl rfl rfl rfl) ?_;refine Z1 ?_;refine OL.le 4 (y:=AV.cls ⟨[],[0],[(0,5)]⟩) rfl (AVle.agg (.cons (AVle.nil 1) (.cons (.refl _) (.cons (.refl _) .nil)))) ?_;refine oP (POp.row rfl rfl Yh rfl rfl rfl rfl rfl rfl) ?_;refine Z1 ?_;refine OL.le 6 (y:=AV.nd ⟨2,0,[]⟩) rfl (AVle.agg (.cons (.refl _) (.cons (.refl _) (.cons (AVle.nil 1) .nil)))) ?_;refine oP (POp.row rfl rfl Yh rfl rfl rfl rfl rfl rfl) ?_;refine Z1 ?_;refine OL.le 8 (y:=AV.prog P0) rfl (AVle.agg (.cons (.refl _) (.cons (.refl _) (.cons (AVle.nil 1) (.cons (AVle.nil 9) (.cons (.refl _) (.cons (.refl _) .nil))))))) ?_;refine Z4 ?_;refine rR [.cell 0 27] (H) ?_;exact⟨YaI,rfl⟩
theorem objsK:PCall Tryz.prog 47 [] (AV.ths O0):=by
 intro H;refine aC (n:=8) Tryz.func47 λB I w0=>?_;refine Z7 ?_;refine oP (POp.call .k ((noneV))) ?_;refine oP (POp.row rfl rfl Yh rfl rfl rfl rfl rfl rfl) ?_;refine Z1 ?_;refine oP (POp.call .k ((objI _))) ?_;refine oP (POp.row rfl rfl Yh rfl rfl rfl rfl rfl rfl) ?_;refine Z1 ?_;refine oP (POp.row rfl rfl Yh rfl rfl rfl rfl rfl rfl) ?_;refine Z4 ?_;refine r1 0 (H) ?_;exact⟨YaI,rfl⟩
theorem bytesK:PCall Tryz.prog 48 [] (u8s B0):=by
 intro H;refine aC (n:=2) Tryz.func48 λB I w0=>?_;refine Z7 ?_;refine oP (POp.row rfl rfl Yh rfl rfl rfl rfl rfl rfl) ?_;refine Z4 ?_;refine r1 0 (H) ?_;exact⟨YaI,rfl⟩
theorem bytesB(H:List Ent):ACall Tryz.prog 48 [] H (λy H'=>∃b,y= .val (.slice (some ⟨b,0,none⟩) 31 31)/\H'= .blk b 5 (B0.map λx=>u8 x)::H) (λ_ _=>False):=by
 refine aC (n:=2) Tryz.func48 λB I w0=>?_;refine Z7 ?_;refine OL.rowBlk (B0.map λx=>[u8 x]) rfl rfl rfl rfl rfl rfl rfl rfl rfl (λb=>?_);refine Z4 ?_;refine r1 0 (.blk b 5 (B0.map λx=>u8 x)::H) ?_;exact⟨b,rfl,rfl⟩
theorem sameB(l r:List U8):PCall Tryz.prog 17 [u8s l,u8s r] (.b (l==r)):=by
 intro H;refine aC (n:=10) Tryz.func17 λB I w0=>?_;refine Z8 ?_;refine oP (POp.bytesStr (ns:=l.map λx=>(x.val:Int)) rfl Ya8 rfl Yf) ?_;refine Z1 ?_;refine oP (POp.bytesStr (ns:=r.map λx=>(x.val:Int)) rfl Ya8 rfl Yf) ?_;refine oP (POp.eqS rfl rfl rfl rfl rfl) ?_;refine Z4 ?_;refine r1 4 (H) ?_;exact⟨retB (strOf_eq l r),rfl⟩
theorem same_take[Inhabited α]{a b:List α}(hl:a.length=b.length){i:Nat}(hi:i<a.length)(h:a.take i=b.take i)(hx:a.getD i default=b.getD i default):a.take (i+1)=b.take (i+1):=by
 rw[<-take_getD hi, <-take_getD Ya,h,hx]
theorem same_no[BEq α][LawfulBEq α][Inhabited α]{a b:List α}{i:Nat}(hx:a.getD i default≠b.getD i default):(a==b)=false:=by
 rw[beq_eq_false_iff_ne];rintro rfl;exact hx rfl
theorem same_len[BEq α][LawfulBEq α]{a b:List α}(h:a.length≠b.length):(a==b)=false:=by
 rw[beq_eq_false_iff_ne];rintro rfl;exact h rfl
theorem ne2(x y:Int×Int):([x.1,x.2] != [y.1,y.2])=(x !=y):=by rw[bne,bne,eq2]
theorem sameI(a b:List Int):PCall Tryz.prog 25 [AV.ints a,AV.ints b] (.b (a==b)):=by
 intro H;refine aC (n:=26) Tryz.func25 λB I w0=>?_;refine CW.boundM (t:=0) rfl (λhb0=>?_);refine Z15 ?_;refine cd (λh0=>?_) λh0=>?_
 ·have hne:a.length≠b.length:=by omega
  refine Z7 ?_;refine r1 4 (H) ?_;exact⟨retB (same_len hne).symm,rfl⟩
 ·have hl:a.length=b.length:=by omega
  refine Z11 ?_;refine lj (λm st=>∃i:Nat,st=⟨[(13,.i i),(12,.i a.length),(0,AV.ints a),(1,AV.ints b)],H⟩/\m=a.length - i/\i<=a.length/\a.take i=b.take i) (⟨0,rfl,rfl,Ya,Yr⟩) ?_;rintro m _ ⟨i,rfl,rfl,hi,ht⟩;refine Z6 ?_;refine cd (λh1=>?_) λh1=>?_
  ·have hil:i<a.length:=by omega
   refine Z11 ?_;refine CW.dp mixed ?_;refine DP.anyC 0 8 26 rfl Ye rfl rfl Ye ?_;refine Z13 ?_;refine cd (λh2=>?_) λh2=>?_
   ·have hx:a.getD i default≠b.getD i default:=h2;refine Z11 ?_;refine r1 4 (H) ?_;exact⟨retB (same_no hx).symm,rfl⟩
   ·have hx:a.getD i default=b.getD i default:=h2;refine Z7 ?_;exact ag (⟨i+1,rfl,rfl,hil,same_take hl hil ht hx⟩)
  ·refine Z11 ?_;refine r1 4 (H) ?_;exact⟨retB Yap,rfl⟩
theorem sameV(a b:List (Int×Int)):PCall Tryz.prog 32 [AV.mvs a,AV.mvs b] (.b (a==b)):=by
 intro H;refine aC (n:=26) Tryz.func32 λB I w0=>?_;refine CW.boundM (t:=0) rfl (λhb0=>?_);refine Z15 ?_;refine cd (λh0=>?_) λh0=>?_
 ·have hne:a.length≠b.length:=by omega
  refine Z7 ?_;refine r1 4 (H) ?_;exact⟨retB (same_len hne).symm,rfl⟩
 ·have hl:a.length=b.length:=by omega
  refine Z9 ?_;refine lj (λm st=>∃i:Nat,st=⟨[(5,.i i),(0,AV.mvs a),(1,AV.mvs b)],H⟩/\m=a.length - i/\i<=a.length/\a.take i=b.take i) (⟨0,rfl,rfl,Ya,Yr⟩) ?_;rintro m _ ⟨i,rfl,rfl,hi,ht⟩;refine Z9 ?_;refine cd (λh1=>?_) λh1=>?_
  ·have hil:i<a.length:=by omega
   refine Z5 ?_;refine CW.dp mixed ?_;refine DP.anyC 0 8 26 rfl Ye rfl rfl Ye ?_;refine Z10 ?_;refine oP (POp.neI [(a.getD i default).1,(a.getD i default).2] [(b.getD i default).1,(b.getD i default).2] rfl rfl rfl rfl rfl rfl rfl) ?_;refine Z2 ?_;refine CW.cond rfl (λh2=>?_) (λh2=>?_)
   ·rw[ne2] at h2;have hx:a.getD i default≠b.getD i default:=by simpa using h2
    refine Z11 ?_;refine r1 4 (H) ?_;exact⟨retB (same_no hx).symm,rfl⟩
   ·rw[ne2] at h2;have hx:a.getD i default=b.getD i default:=by simpa using h2
    refine Z8 ?_;exact ag (⟨i+1,rfl,rfl,hil,same_take hl hil ht hx⟩)
  ·refine Z11 ?_;refine r1 4 (H) ?_;exact⟨retB Yap,rfl⟩
theorem okG0:okG P0 O0:=by obtain⟨h1,h2,h3⟩:=ok_of k1;exact⟨h1,h2,h3⟩
theorem imageK:PCall Tryz.prog 15 [AV.prog P0,AV.ths O0] (.tup [u8s B0,.i 0]):=by
 have h:=imageC small0 O0 (λ_=>okG0);rwa [imageQ,k1,if_pos rfl,if_pos rfl,k2] at h
theorem sectK:PCall Tryz.prog 23 [u8s B0] (.tup [AV.ints [1,2],AV.ints [],.i 0]):=by
 have h:=q23 B0 YO;rwa [k11] at h
theorem sect9K:PCall Tryz.prog 23 [u8s B9] (.tup [AV.ints [1,2],AV.ints [0],.i 0]):=by
 have h:=q23 B9 YO;rwa [k12] at h
theorem readK:PCall Tryz.prog 19 [u8s B9] (.tup [AV.prog noProg,AV.ths [],.i 4]):=by
 have h:=readC B9 YO;rwa [readA,k7] at h
theorem reachK:PCall Tryz.prog 26 [AV.prog P0,AV.ths O0,AV.mvs [(3,1)]] (.tup [AV.ints [1,0],.i 0]):=by
 have h:=reachI small0 O0 [(3,1)];rwa [reachQ,k5,if_pos rfl,if_pos rfl,k6] at h
theorem partK:PCall Tryz.prog 27 [AV.prog P0,AV.ths O0,AV.mvs [(3,1)]] (.tup [u8s K0,.i 0]):=by
 have h:=partC small0 O0 [(3,1)];rwa [partQ,k5,if_pos rfl,if_pos rfl,k3] at h
theorem loadK:PCall Tryz.prog 30 [AV.prog P0,AV.ths O0,u8s K0] (.tup [AV.ths O4,AV.mvs [(3,2)],.i 0]):=by
 have h:=loadC small0 O0 K0 YO;rwa [k8] at h
theorem alikeK:PCall Tryz.prog 33 [AV.prog P0,AV.ths O0,AV.mvs [(3,0)],AV.ths O0,AV.mvs [(3,1)]] (.tup [.b false,.i 0]):=by
 have h:=alikeC small0 O0 [(3,0)] O0 [(3,1)];rwa [k10,k9,k5] at h
theorem knownC:PCall Tryz.prog 18 [] (.b true):=by
 intro H;refine aC (n:=187) Tryz.func18 λB I w0=>?_;refine Z7 ?_;refine oP (POp.call .k (progK)) ?_;refine oP (POp.call .k (objsK)) ?_;refine oP (POp.call .k (imageK)) ?_;refine Z9 ?_;refine oP (POp.call .k (bytesK)) ?_;refine oP (POp.call .k (sectK)) ?_;refine Z20 ?_;refine OL.guardC rfl rfl rfl rfl rfl rfl (λhg=>POp.call .k (bytesK)) ?_;refine OL.guardC rfl rfl rfl rfl rfl rfl (λhg=>POp.call (.mk' rfl rfl rfl rfl Yd) (sameB B0 B0)) ?_;refine Z14 ?_;refine OL.guardC rfl rfl rfl rfl rfl rfl (λhg=>YU) ?_;refine Z5 ?_;refine OL.guardC rfl rfl rfl rfl rfl rfl (λhg=>YU) ?_;refine Z5 ?_;refine CW.cond rfl (λh0=>?_) (λh0=>?_)
 ·exact absurd h0 Ye
 ·refine Z4 ?_;refine bC .k ((bytesB H).b) ?_;rintro y _ ⟨bb,rfl,rfl⟩;refine Z6 ?_;refine oP (POp.ixC rfl rfl rfl rfl rfl Ya) ?_;refine Z4 ?_;refine CW.eqH (H':=.blk bb 5 ((B9.map λx=>[u8 x]).flatten++[])::H) rfl ?_;refine CW.freezeS (k:=1) (d:=1) rfl (.head _ _) rfl (λe he=>by obtain⟨y,_,rfl⟩:=List.mem_map.1 he;rfl) (Nat.le_refl _) YJ ?_;refine CW.le 1 (y:=u8s B9) rfl (AVle.refl _) ?_;refine Z2 ?_;refine oP (POp.call .k (sect9K)) ?_;refine Z11 ?_;refine oP (POp.call .k (readK)) ?_;refine Z9 ?_;refine oP (POp.call .k (progK)) ?_;refine oP (POp.call .k (objsK)) ?_;refine oP (POp.call .k (objI 1)) ?_;refine oP (POp.le (x:=AV.mvs [(3,1)]) (POp.row rfl rfl Yh rfl rfl rfl rfl rfl rfl) (AVle.refl _)) ?_;refine oP (POp.call .k (reachK)) ?_;refine Z9 ?_;refine oP (POp.call .k (progK)) ?_;refine oP (POp.call .k (objsK)) ?_;refine oP (POp.call .k (objI 1)) ?_;refine oP (POp.le (x:=AV.mvs [(3,1)]) (POp.row rfl rfl Yh rfl rfl rfl rfl rfl rfl) (AVle.refl _)) ?_;refine oP (POp.call .k (partK)) ?_;refine Z26 ?_;refine OL.guardC rfl rfl rfl rfl rfl rfl (λhg=>POp.row rfl rfl Yh rfl rfl rfl rfl rfl rfl) ?_;refine OL.guardC rfl rfl rfl rfl rfl rfl (λhg=>POp.call (.mk' rfl rfl rfl rfl Yd) (sameI [0] [0])) ?_;refine Z4 ?_;refine OL.guardC rfl rfl rfl rfl rfl rfl (λhg=>POp.row rfl rfl Yh rfl rfl rfl rfl rfl rfl) ?_;refine OL.guardC rfl rfl rfl rfl rfl rfl (λhg=>POp.call (.mk' rfl rfl rfl rfl Yd) (sameI [1,0] [1,0])) ?_;refine Z9 ?_;refine CW.cond rfl (λh1=>?_) (λh1=>?_)
  ·exact absurd h1 Ye
  ·refine Z4 ?_;refine oP (POp.row rfl rfl Yh rfl rfl rfl rfl rfl rfl) ?_;refine Z5 ?_;refine oP (POp.call .k (progK)) ?_;refine oP (POp.call .k (objsK)) ?_;refine Z1 ?_;refine oP (POp.call .k (loadK)) ?_;refine Z11 ?_;refine oP (POp.call .k (progK)) ?_;refine oP (POp.call .k (objsK)) ?_;refine oP (POp.call .k (objI 0)) ?_;refine oP (POp.le (x:=AV.mvs [(3,0)]) (POp.row rfl rfl Yh rfl rfl rfl rfl rfl rfl) (AVle.refl _)) ?_;refine oP (POp.call .k (objsK)) ?_;refine oP (POp.call .k (objI 1)) ?_;refine oP (POp.le (x:=AV.mvs [(3,1)]) (POp.row rfl rfl Yh rfl rfl rfl rfl rfl rfl) (AVle.refl _)) ?_;refine oP (POp.call .k (alikeK)) ?_;refine Z8 ?_;refine CW.dp mixed ?_;refine Z28 ?_;refine DP.anyC 7 10 187 rfl Ye rfl rfl Ye ?_;refine Z1 ?_;refine AD.guardC rfl rfl rfl rfl rfl (λhg=>POp.slTo rfl rfl YY rfl YY YO) ?_;refine Z3 ?_;refine OL.guardC rfl rfl rfl rfl rfl rfl (λhg=>POp.call (.mk' rfl rfl rfl rfl Yd) (sameB T0 T0)) ?_;refine Z30 ?_;refine DP.anyC 18 24 187 rfl Ye rfl rfl Ye ?_;refine Z1 ?_;refine AD.guardC rfl rfl rfl rfl rfl (λhg=>YU) ?_;refine Z2 ?_;refine AD.guardC rfl rfl rfl rfl rfl (λhg=>POp.call .k (objI 3)) ?_;refine AD.guardC rfl rfl rfl rfl rfl (λhg=>POp.row rfl rfl Yh rfl rfl rfl rfl rfl rfl) ?_;refine Z2 ?_;refine OL.guardC rfl rfl rfl rfl rfl rfl (λhg=>POp.call (.mk' rfl rfl rfl rfl Yd) (sameV [(3,3)] [(3,3)])) ?_;refine Z10 ?_;refine DP.anyC 27 33 187 rfl Ye rfl rfl Ye ?_;refine Z1 ?_;refine AD.guardC rfl rfl rfl rfl rfl (λhg=>YU) ?_;refine Z2 ?_;refine AD.guardC rfl rfl rfl rfl rfl (λhg=>POp.call .k (noneV)) ?_;refine AD.guardC rfl rfl rfl rfl rfl (λhg=>POp.row rfl rfl Yh rfl rfl rfl rfl rfl rfl) ?_;refine Z2 ?_;refine OL.guardC rfl rfl rfl rfl rfl rfl (λhg=>POp.call (.mk' rfl rfl rfl rfl Yd) (sameV [(2,0)] [(2,0)])) ?_;refine Z10 ?_;refine DP.anyC 36 39 187 rfl Ye rfl rfl Ye ?_;refine Z1 ?_;refine AD.guardC rfl rfl rfl rfl rfl (λhg=>POp.call .k (objI 2)) ?_;refine AD.guardC rfl rfl rfl rfl rfl (λhg=>POp.row rfl rfl Yh rfl rfl rfl rfl rfl rfl) ?_;refine Z2 ?_;refine OL.guardC rfl rfl rfl rfl rfl rfl (λhg=>POp.call (.mk' rfl rfl rfl rfl Yd) (sameV [(3,2)] [(3,2)])) ?_;refine Z9 ?_;refine r1 0 (H) ?_;exact⟨retB Ye,rfl⟩
end Go.Proofs.YtpgnjlngepfanaaGreat

namespace Go.Eng.Bd
open Go.Eng.Fc
open Go.Eng.Im (U8 numberR manyR sumR splitR Sec)
variable{σ α:Type}{l:List U8}
theorem thenR_inv{σ α β:Type}{R:Rd σ α}{k:α->Rd σ β}{s s':σ}{l l':List U8}{x:β}(h:thenR R k s l=some (x,s',l')):∃a s1 l1,R s l=some (a,s1,l1)/\k a s1 l1=some (x,s',l'):=by
 unfold thenR at h;split at h
 ·cases h
 ·rename_i a s1 l1 h1;exact⟨a,s1,l1,h1,h⟩
theorem byte_val(x:U8):Im.byteOf x.val=x:=by
 apply Fin.ext;show x.val%256=x.val;have:=x.isLt;omega
theorem numR_inv0:∀(g:Nat) (first:Bool) (l:List U8) (n:Nat) (r:List U8),Im.numR g first l=some (n,r)->l=numW n++r/\(first=false->0<n)
 | 0,_,_,_,_,h=>by simp[Im.numR] at h
 | g+1,first,[],n,r,h=>by simp[Im.numR] at h
 | g+1,first,x::l,n,r,h=>by
  rw[Im.numR] at h;split at h
  ·rename_i hx;split at h
   ·rename_i hf;cases h;refine⟨by rw[numW_lt hx,byte_val];rfl,λhff=>?_⟩;rw[hff] at hf;simpa using hf
   ·cases h
  ·rename_i hx;split at h
   ·rename_i m r' hm;cases h;obtain⟨h1,h2⟩:=numR_inv0 g false l m r hm;have h2:=h2 rfl;have hxl:=x.isLt;have hge: ¬x.val - 128+128*m<128:=by omega
    refine⟨?_,λ_=>by omega⟩;rw[numW_ge hge,show (x.val - 128+128*m) / 128=m by omega,show (x.val - 128+128*m)%128+128=x.val by omega,byte_val,h1];rfl
   ·cases h
theorem number_inv{n:Nat}{r:List U8}(h:numberR l=some (n,r)):l=numW n++r:=(numR_inv0 5 true l n r h).1
theorem many_inv{n:Nat}{r:List U8}(h:manyR l=some (n,r)):l=numW n++r:=by
 unfold manyR at h;rcases hq:numberR l with _ | ⟨a,b⟩ <;> rw[hq] at h
 ·cases h
 ·simp only at h;split at h
  ·cases h;exact number_inv hq
  ·cases h
def Inv(R:Rd σ α)(f:α->List U8):Prop:=∀s l x s' l',R s l=some (x,s',l')->l=f x++l'
theorem Inv.times{σ α:Type}{R:Rd σ α}{f:α->List U8}(hR:Inv R f):∀(n:Nat) (s:σ) (l:List U8) (ys:List α) (s':σ) (l':List U8),timesR R n s l=some (ys,s',l')->l=ys.flatMap f++l'/\ys.length=n
 | 0,s,l,ys,s',l',h=>by cases h;exact⟨rfl,rfl⟩
 | n+1,s,l,ys,s',l',h=>by
  rw[timesR] at h;split at h
  ·cases h
  ·rename_i a s1 l1 h2;split at h
   ·cases h
   ·rename_i b s2 l2 h3;cases h;obtain⟨h4,h5⟩:=Inv.times hR n _ _ _ _ _ h3;exact⟨by rw[hR _ _ _ _ _ h2,h4,List.flatMap_cons,List.append_assoc],by simp[h5]⟩
theorem Inv.list{R:Rd σ α}{f:α->List U8}(hR:Inv R f):Inv (listR R) (listW f):=λs l x s' l' h=>by
 obtain⟨n,s1,l1,h1,h2⟩:=thenR_inv h;unfold manyRd at h1;split at h1
 ·cases h1
 ·rename_i h3;cases h1;obtain⟨h4,h5⟩:=hR.times _ _ _ _ _ _ h2;rw[many_inv h3,h4,listW,h5,List.append_assoc]
end Go.Eng.Bd

namespace Go.Proofs.YtpgnjlngepfanaaGreat
open Go.Eng
open Go.Eng.Fc
open Go.Eng.Bd
open Go.Eng.Im (U8 u8 u8s sumR splitR Sec numberR manyR)
end Go.Proofs.YtpgnjlngepfanaaGreat

namespace Go.Eng.Bd
open Go.Eng.Fc
open Go.Eng.Im (U8 numberR manyR sumR splitR Sec)
variable{n:Nat}{σ α:Type}
theorem byte_of(h:n<256):(Im.byteOf n).val=n:=by
 show n%256=n;omega
theorem numR_fwd:∀(g:Nat) (first:Bool) (n:Nat) (r:List U8),n<128^(g+1)->(first=true\/0<n)->Im.numR (g+1) first (numW n++r)=some (n,r)
 | g,first,n,r,hn,hf=>by
  by_cases h:n<128
  ·rw[numW_lt h,List.singleton_append,Im.numR,byte_of Ya,if_pos h,if_pos (by simp only[Bool.or_eq_true,decide_eq_true_eq];exact hf)]
  ·cases g with
   | zero=>omega
   | succ g=>
    rw[numW_ge h,List.cons_append,Im.numR,byte_of Ya,if_neg Ya,numR_fwd g false (n / 128) r (by rw[Nat.pow_succ] at hn;omega) (.inr Ya)];simp only;rw[show n%128+128 - 128+128*(n / 128)=n by omega]
theorem number_fwd(hn:n<=30000000000)(r:List U8):numberR (numW n++r)=some (n,r):=numR_fwd 4 true n r Ya (.inl rfl)
theorem num_fwd{n:Int}(hn:okN n)(s:σ)(r:List U8):numR s (numI n++r)=some (n,s,r):=by
 rw[numI,numR_some (number_fwd (by have:=hn.2;omega) r),Int.toNat_of_nonneg hn.1]
theorem int_fwd{n:Int}(hn:okZ n)(s:σ)(r:List U8):intR s (intW n++r)=some (n,s,r):=by
 obtain⟨q,hq⟩:∃q,q=(if n<0 then -2*n - 1 else 2*n):=⟨_,rfl⟩;have hqo:okN q:=by
  have h1:=hn.1;have h2:=hn.2;rw[hq];split <;> (unfold okN;omega)
 rw[intW, <-hq,intR,thenR_some (num_fwd hqo s r)];show some (znOf q,s,r)=_;rw[znOf,hq];congr 2;split <;> split <;> omega
theorem many_fwd{r:List U8}(hn:n<=30000000000)(h:n<=r.length):manyR (numW n++r)=some (n,r):=by
 unfold manyR;rw[number_fwd hn r];simp only;rw[if_pos h]
def okAll{σ α:Type}(next:σ->α->σ)(ok:σ->α->Prop):σ->List α->Prop
 | _,[]=>True
 | s,x::l=>ok s x/\okAll next ok (next s x) l
theorem times_fwd{σ α:Type}{R:Rd σ α}{f:α->List U8}{next:σ->α->σ}{ok:σ->α->Prop}(hR:∀s x r,ok s x->R s (f x++r)=some (x,next s x,r)):∀(l:List α) (s:σ) (r:List U8),okAll next ok s l->timesR R l.length s (l.flatMap f++r)=some (l,l.foldl next s,r)
 | [],s,r,_=>rfl
 | x::l,s,r,h=>by
  rw[List.length_cons,timesR,List.flatMap_cons,List.append_assoc,hR s x _ h.1];simp only;rw[times_fwd hR l (next s x) r h.2];rfl
theorem flat_ge{α:Type}{f:α->List U8}:∀{l:List α},(∀x∈l,0<(f x).length)->l.length<=(l.flatMap f).length
 | [],_=>Nat.le_refl _
 | x::l,h=>by
  rw[List.flatMap_cons,List.length_append,List.length_cons];have:=h x (.head _);have:=flat_ge (l:=l) λy hy=>h y (.tail _ hy);omega
theorem list_fwd{R:Rd σ α}{f:α->List U8}{next:σ->α->σ}{ok:σ->α->Prop}(hR:∀s x r,ok s x->R s (f x++r)=some (x,next s x,r))(hf:∀x,0<(f x).length){l:List α}(hl:l.length<=1000000){s:σ}(h:okAll next ok s l)(r:List U8):listR R s (listW f l++r)=some (l,l.foldl next s,r):=by
 rw[listR,thenR_some (a:=l.length) (s':=s) (l':=l.flatMap f++r)]
 ·exact times_fwd hR l s r h
 ·rw[manyRd,listW,List.append_assoc,many_fwd Ya (by rw[List.length_append];have:=flat_ge (l:=l) (f:=f) (λx _=>hf x);omega)]
theorem okAll_still{σ α:Type}{ok:α->Prop}:∀(l:List α) (s:σ),(∀x∈l,ok x)->okAll (λs _=>s) (λ_ x=>ok x) s l
 | [],s,_=>trivial
 | x::l,s,h=>⟨h x (.head _),okAll_still l s λy hy=>h y (.tail _ hy)⟩
theorem fold_still{σ α:Type}:∀(l:List α) (s:σ),l.foldl (λs _=>s) s=s
 | [],s=>rfl
 | x::l,s=>fold_still l s
theorem list_fwd0{R:Rd σ α}{f:α->List U8}{ok:α->Prop}(hR:∀s x r,ok x->R s (f x++r)=some (x,s,r))(hf:∀x,0<(f x).length){l:List α}(hl:l.length<=1000000)(h:∀x∈l,ok x)(s:σ)(r:List U8):listR R s (listW f l++r)=some (l,s,r):=by
 have:=list_fwd (next:=λs _=>s) (ok:=λ_ x=>ok x) hR hf hl (okAll_still l s h) r;rwa [fold_still] at this
theorem times_fwd0{R:Rd σ α}{f:α->List U8}{ok:α->Prop}(hR:∀s x r,ok x->R s (f x++r)=some (x,s,r)){l:List α}(h:∀x∈l,ok x)(s:σ)(r:List U8):timesR R l.length s (l.flatMap f++r)=some (l,s,r):=by
 have:=times_fwd (next:=λs _=>s) (ok:=λ_ x=>ok x) hR l s r (okAll_still l s h);rwa [fold_still] at this
theorem numI_pos(n:Int):0<(numI n).length:=numW_pos _
theorem pos_left{a b:List U8}(h:0<a.length):0<(a++b).length:=by rw[List.length_append];omega
theorem init_fwd{x:Int×Int}(h:okN x.1/\okZ x.2)(s:σ)(r:List U8):initR s (initW x++r)=some (x,s,r):=by
 rw[initR,initW,List.append_assoc,thenR_some (num_fwd h.1 s _),thenR_some (int_fwd h.2 s r)];rfl
theorem cls_fwd{s:Int}{c:Cls}(hc:okC c)(h4:c.slots.length<=4)(hs:c.slots=slotsFrom s c.slots.length)(r:List U8):clsR s (clsW c++r)=some (c,s+c.slots.length,r):=by
 have hl:=hc.pl;have hi:=hc.il;have e:clsW c++r=listW numI c.parents++(numI (c.slots.length:Int)++(listW initW c.inits++r)):=by
  rw[clsW];simp only[List.append_assoc];rfl
 rw[e,clsR,thenR_some (list_fwd0 (ok:=okN) (λs x r h=>num_fwd h s r) numI_pos Ya hc.ps s _),thenR_some (num_fwd Yal s _),needR_yes (by rw[decide_eq_true_eq];omega)];show thenR (listR initR) _ _ _=_;rw[thenR_some (list_fwd0 (ok:=λx=>okN x.1/\okZ x.2) (λs x r h=>init_fwd h s r) (λx=>pos_left (numI_pos _)) Ya hc.is _ r)];show some (_,_,_)=_;rw[Int.toNat_natCast, <-hs]
mutual
def wfF:Fact->Prop
 | .mk op arg path cls n kids=>(1<=op/\op<=7)/\(op=2->n=0/\kids= [])/\(op=3\/op=4->cls=0/\kids= [])/\(¬(2<=op/\op<=4)->arg=0/\path= []/\cls=0/\n=0/\kids.length=kidCnt op)/\wfFs kids
def wfFs:List Fact->Prop
 | []=>True
 | f::r=>wfF f/\wfFs r
end
mutual
theorem node_wfF{w:Fc.FW}:∀(f:Fact) (left deep:Int),(nodeP w f left deep).1=true->wfF f
 | .mk op arg path cls n kids,left,deep,h=>by
  rw[nodeP] at h;by_cases h1:badP (.mk op arg path cls n kids) (left - 1) deep=true
  ·rw[if_pos h1] at h;cases h
  rw[if_neg h1] at h;have h2:badP (.mk op arg path cls n kids) (left - 1) deep=false:=by simpa using h1
  have h2:((¬left - 1<0/\¬op<1)/\¬op>7)/\(kids.length:Int)=kidsP op:=by
   rw[badP,Bool.or_eq_false_iff,Bool.or_eq_false_iff,Bool.or_eq_false_iff,Bool.or_eq_false_iff] at h2;exact⟨⟨⟨of_decide_eq_false h2.1.1.1.1,of_decide_eq_false h2.1.1.2⟩,of_decide_eq_false h2.1.2⟩,bne_eq_false_iff_eq.1 h2.2⟩
  obtain⟨⟨⟨hl0,ho1⟩,ho2⟩,hk⟩:=h2;rw[wfF];by_cases hl:leafP (.mk op arg path cls n kids)=true
  ·rw[if_pos hl,Bool.and_eq_true] at h;have hl:2<=op/\op<=4:=by rw[leafP,Bool.and_eq_true] at hl;exact⟨of_decide_eq_true hl.1,of_decide_eq_true hl.2⟩
   have hk0:kids= []:=by
    have:kidsP op=0:=by unfold kidsP;rw[if_neg Ya,if_neg Ya]
    exact List.eq_nil_of_length_eq_zero Ya
   have hle:leafOkP w (.mk op arg path cls n kids)=true:=h.2;refine⟨Ya,λe=>⟨?_,hk0⟩,λe=>⟨?_,hk0⟩,λe=>absurd hl e,by rw[hk0];trivial⟩
   ·rw[leafOkP,if_pos (by exact e),Bool.and_eq_true] at hle;exact beq_iff_eq.1 hle.1
   ·rw[leafOkP,if_neg (by show ¬op=2;omega),Bool.and_eq_true,Bool.and_eq_true] at hle;exact beq_iff_eq.1 hle.1.1
  ·rw[if_neg hl] at h;have hl':leafP (.mk op arg path cls n kids)=false:=by simpa using hl
   have hl': ¬(2<=op/\op<=4):=by intro hc;rw[show leafP (.mk op arg path cls n kids)=true by rw[leafP,Bool.and_eq_true];exact⟨decide_eq_true hc.1,decide_eq_true hc.2⟩] at hl';cases hl'
   by_cases hp:plainP (.mk op arg path cls n kids)=true
   ·rw[if_pos hp] at h;rw[plainP,Bool.not_eq_true',Bool.or_eq_false_iff,Bool.or_eq_false_iff,Bool.or_eq_false_iff] at hp;have p1:arg=0:=bne_eq_false_iff_eq.1 hp.1.1.1;have p2: ¬(path.length:Int)>0:=of_decide_eq_false hp.1.1.2;have p3:cls=0:=bne_eq_false_iff_eq.1 hp.1.2;have p4:n=0:=bne_eq_false_iff_eq.1 hp.2;refine⟨Ya,λe=>by omega,λe=>by omega,λ_=>⟨p1,List.eq_nil_of_length_eq_zero Ya,p3,p4,?_⟩,nodes_wfF kids _ _ h⟩;unfold kidsP at hk;unfold kidCnt;split <;> (try split) <;> simp_all <;> omega
   ·rw[if_neg hp] at h;cases h
theorem nodes_wfF{w:Fc.FW}:∀(l:List Fact) (left deep:Int),(nodesP w l left deep).1=true->wfFs l
 | [],left,deep,h=>trivial
 | k::r,left,deep,h=>by
  rw[nodesP] at h;by_cases hk:(nodeP w k left deep).1=true
  ·rw[if_pos hk] at h;rw[wfFs];exact⟨node_wfF k _ _ hk,nodes_wfF r _ _ h⟩
  ·rw[if_neg hk] at h;exact absurd h hk
end
theorem facts_all{f:Nat}:∀(l:List Fact) (s:Nat),okFs l->wfFs l->cntNs l<=s->s<=f->okAll (λs x=>s - cntN x) (λs x=>okF x/\wfF x/\cntN x<=s/\s<=f) s l/\l.foldl (λs x=>s - cntN x) s=s - cntNs l
 | [],s,_,_,_,_=>⟨trivial,by simp[cntNs]⟩
 | x::l,s,h1,h2,h3,h4=>by
  rw[okFs] at h1;rw[wfFs] at h2;rw[cntNs] at h3;obtain⟨h5,h6⟩:=facts_all (f:=f) l (s - cntN x) h1.2 h2.2 Ya Ya;exact⟨⟨⟨h1.1,h2.1,Ya,h4⟩,h5⟩,by rw[List.foldl_cons,h6,cntNs];omega⟩
theorem fact_fwd:∀(f:Nat) (x:Fact) (left:Nat) (r:List U8),okF x->wfF x->cntN x<=left->left<=f->factR f left (factW x++r)=some (x,left - cntN x,r)
 | 0,.mk op arg path cls n kids,left,r,ho,hw,hc,hl=>by rw[cntN] at hc;omega
 | f+1,.mk op arg path cls n kids,left,r,ho,hw,hc,hl=>by
  rw[cntN] at hc;obtain⟨k,rfl⟩:∃k,left=k+1:=⟨left - 1,Ya⟩;rw[wfF] at hw;obtain⟨w1,w2,w3,w4,w5⟩:=hw;have h1:=okF_iff ho;rw[okF] at ho;have e:factW (.mk op arg path cls n kids)++r=numI op++(leafW op arg path cls n++(kids.flatMap factW++r)):=by
   rw[factW,factsW_map];simp only[List.append_assoc]
  rw[e,factR,thenR_some (num_fwd ho.1 k _),needR_yes (by rw[opR,Bool.and_eq_true];exact⟨decide_eq_true w1.1,decide_eq_true w1.2⟩),factB,cntN];by_cases e2:op=2
  ·obtain⟨rfl,rfl⟩:=w2 e2;obtain⟨a1,a2,a3⟩:=ho.2.2.2.1 Ya;rw[if_pos e2,leafW,if_pos e2];simp only[List.append_assoc,List.flatMap_nil,List.nil_append];rw[thenR_some (num_fwd a1 k _),thenR_some (list_fwd0 (ok:=okN) (λs x r h=>num_fwd h s r) numI_pos Ya a3 k _),thenR_some (num_fwd (ho.2.1 e2) k r)];simp[doneR,cntNs]
  ·by_cases e3:op=3\/op=4
   ·obtain⟨rfl,rfl⟩:=w3 e3;obtain⟨a1,a2,a3⟩:=ho.2.2.2.1 Ya;rw[if_neg e2,if_pos e3,leafW,if_neg e2,if_pos e3];simp only[List.append_assoc,List.flatMap_nil,List.nil_append];rw[thenR_some (num_fwd a1 k _),thenR_some (list_fwd0 (ok:=okN) (λs x r h=>num_fwd h s r) numI_pos Ya a3 k _),thenR_some (int_fwd (ho.2.2.1 e3) k r)];simp[doneR,cntNs]
   ·obtain⟨rfl,rfl,rfl,rfl,hkl⟩:=w4 Ya;rw[if_neg e2,if_neg e3,leafW,if_neg e2,if_neg e3,List.nil_append, <-hkl];obtain⟨h5,h6⟩:=facts_all (f:=f) kids k ho.2.2.2.2 w5 Ya Ya;rw[thenR_some (times_fwd (λs x r h=>fact_fwd f x s r h.1 h.2.1 h.2.2.1 h.2.2.2) kids k r h5),h6];show some (_,_,_)=_;congr 3;omega
end Go.Eng.Bd

namespace Go.Proofs.YtpgnjlngepfanaaGreat
open Go.Eng
open Go.Eng.Fc
open Go.Eng.Bd
open Go.Eng.Im (U8 u8 u8s sumR splitR Sec numberR manyR)
open Go.Eng.Im (U8 u8 u8s sumR splitR)
open Go.Eng.Im (U8 u8 u8s sumR)
variable{σ:Type}{p:Prog}
theorem mth_fwd{x:Mth}(h:okM x)(hw:wfF x.fact)(hc:cntN x.fact<=24)(s:σ)(r:List U8):mthR s (mthW x++r)=some (x,s,r):=by
 rw[mthR,mthW];simp only[List.append_assoc];rw[thenR_some (num_fwd h.kind s _),thenR_some (num_fwd h.gen s _),fact_fwd 24 x.fact 24 _ h.fact hw hc (Nat.le_refl _)];simp only;rw[thenR_some (num_fwd h.node s r)];rfl
theorem kidsN_of{x:Nd}{next:Bool}{sz:Int}(hg:∀n∈p.gens,1<=n/\n<=3)(h:goodN p next x sz=true):kidsN p.gens x.op x.n=some (x.kids.length:Int)/\(1<=x.op/\x.op<=18)/\(x.op≠1->nodeNum x.op=false->x.n=0):=by
 simp only[goodN,Bool.and_eq_true] at h;obtain⟨⟨h1,_⟩,h2⟩:=h;have hnn:∀{o:Int},nodeNum o=false->o≠3/\o≠4/\o≠5/\o≠6/\o≠7/\o≠8:=λ{o} e=>by
  simp only[nodeNum,List.contains_eq_mem,decide_eq_false_iff_not,List.mem_cons,List.not_mem_nil,or_false,not_or] at e;exact e
 have h3:x.op≠1->nodeNum x.op=false->x.n=0:=λe1 e2=>by
  have e2:=hnn e2;rw[numP,if_neg e1,if_neg Ya,Bool.and_eq_true,decide_eq_true_eq,decide_eq_true_eq,mostP,if_neg Ya,if_neg Ya,if_neg Ya] at h1;omega
 refine⟨?_,?_,h3⟩
 ·unfold kidsN;unfold kindOf at h2;by_cases c1:x.op=5
  ·rw[if_pos c1] at h2;simp only[beq_iff_eq] at h2;rw[if_neg Ya,if_neg Ya,if_neg Ya,if_pos c1];rw[numP,if_neg Ya,if_neg Ya,Bool.and_eq_true,decide_eq_true_eq,decide_eq_true_eq,mostP,if_neg Ya,if_neg Ya,if_pos c1] at h1;have:=hg _ (getD_memB (l:=p.gens) (k:=x.n.toNat) Ya);rw[if_pos ⟨h1.2,this.2⟩, <-h2]
  ·rw[if_neg c1] at h2;by_cases c2:x.op=1\/x.op=2\/x.op=3\/x.op=6\/x.op=18
   ·rw[if_pos c2] at h2 ⊢;simp only[beq_iff_eq] at h2;rw[h2];rfl
   ·rw[if_neg c2] at h2 ⊢;by_cases c3:x.op=4\/x.op=8\/x.op=17
    ·rw[if_pos c3] at h2 ⊢;simp only[beq_iff_eq] at h2;rw[h2];rfl
    ·rw[if_neg c3] at h2 ⊢;by_cases c4:x.op=7\/x.op=9\/x.op=11\/x.op=12\/x.op=13\/x.op=14\/x.op=15\/x.op=16
     ·rw[if_pos c4] at h2;simp only[beq_iff_eq] at h2;rw[if_neg Ya,if_neg c1,h2];rfl
     ·rw[if_neg c4] at h2;by_cases c5:x.op=10
      ·rw[if_pos c5] at h2 ⊢;simp only[beq_iff_eq] at h2;rw[h2];rfl
      ·rw[if_neg c5] at h2;cases h2
 ·unfold kindOf at h2;split at h2
  ·cases h2
  ·rename_i e;split at e
   ·omega
   ·split at e
    ·simp at e
    ·split at e
     ·simp at e
     ·split at e
      ·simp at e
      ·split at e <;> simp at e
  ·rename_i k e;split at e
   ·simp at e
   ·split at e
    ·omega
    ·split at e
     ·omega
     ·split at e
      ·omega
      ·split at e
       ·omega
       ·simp at e
theorem nd_fwd{gens:List Int}{x:Nd}(h:okNd x)(hk:kidsN gens x.op x.n=some (x.kids.length:Int))(ho:1<=x.op/\x.op<=18)(hn:x.op≠1->nodeNum x.op=false->x.n=0)(s:σ)(r:List U8):ndR gens s (ndW x++r)=some (x,s,r):=by
 have h1:∀r,ndNR x.op s (ndN x++r)=some (x.n,s,r):=λr=>by
  unfold ndNR ndN;by_cases e:x.op=1
  ·rw[if_pos e,if_pos e];exact int_fwd (h.i e) s r
  ·rw[if_neg e,if_neg e];by_cases e2:nodeNum x.op=true
   ·rw[if_pos e2,if_pos e2];exact num_fwd (h.n e2) s r
   ·rw[if_neg e2,if_neg e2,hn e (by simpa using e2)];rfl
 rw[ndR,ndW];simp only[List.append_assoc];rw[thenR_some (num_fwd h.op s _),needR_yes (by rw[Bool.and_eq_true];exact⟨decide_eq_true ho.1,decide_eq_true ho.2⟩),thenR_some (h1 _),hk];simp only;rw[Int.toNat_natCast,thenR_some (times_fwd0 (ok:=okN) (λs x r h=>num_fwd h s r) h.kids s r)];rfl
theorem slots1_from:∀(l:List Int) (n:Nat),slots1 l n=true->l=slotsFrom n l.length
 | [],n,_=>rfl
 | x::r,n,h=>by
  simp only[slots1,Bool.and_eq_true,beq_iff_eq] at h;have:=slots1_from r (n+1) h.2;rw[List.length_cons,slotsFrom,List.range_succ_eq_map,List.map_cons,List.map_map,h.1];refine congr (congrArg List.cons Yr) ?_
  conv=>lhs;rw[this]
  rw[slotsFrom];refine List.map_congr_left λk _=>?_;show ((n+1:Nat):Int)+(k:Int)=(n:Int)+((k+1:Nat):Int);omega
theorem classes_all:∀(cs:List Cls) (n:Nat),slotsA cs n=true->(∀c∈cs,okC c)->okAll (λ(s:Int) (c:Cls)=>s+c.slots.length) (λs c=>okC c/\c.slots.length<=4/\c.slots=slotsFrom s c.slots.length) (n:Int) cs/\cs.foldl (λ(s:Int) (c:Cls)=>s+c.slots.length) (n:Int)=((n+slotsCnt cs:Nat):Int)
 | [],n,_,_=>⟨trivial,by simp[slotsCnt]⟩
 | c::r,n,h,hc=>by
  simp only[slotsA,Bool.and_eq_true,decide_eq_true_eq] at h;obtain⟨h1,h2⟩:=classes_all r (n+c.slots.length) h.2 λx hx=>hc x (.tail _ hx);refine⟨⟨⟨hc c (.head _),h.1.1,slots1_from _ _ h.1.2⟩,by show okAll _ _ ((n:Int)+c.slots.length) r;rw[show (n:Int)+c.slots.length=((n+c.slots.length:Nat):Int) by omega];exact h1⟩,?_⟩;rw[List.foldl_cons,show (n:Int)+c.slots.length=((n+c.slots.length:Nat):Int) by omega,h2];simp[slotsCnt];omega
mutual
theorem node_cnt{w:Fc.FW}:∀(f:Fact) (left deep:Int),(nodeP w f left deep).1=true->(nodeP w f left deep).2+cntN f=left/\0<=(nodeP w f left deep).2
 | .mk op arg path cls n kids,left,deep,h=>by
  rw[nodeP] at h ⊢;by_cases h1:badP (.mk op arg path cls n kids) (left - 1) deep=true
  ·rw[if_pos h1] at h;cases h
  rw[if_neg h1] at h ⊢;have h2:badP (.mk op arg path cls n kids) (left - 1) deep=false:=by simpa using h1
  have h2: ¬left - 1<0/\(kids.length:Int)=kidsP op:=by
   rw[badP,Bool.or_eq_false_iff,Bool.or_eq_false_iff,Bool.or_eq_false_iff,Bool.or_eq_false_iff] at h2;exact⟨of_decide_eq_false h2.1.1.1.1,bne_eq_false_iff_eq.1 h2.2⟩
  by_cases hl:leafP (.mk op arg path cls n kids)=true
  ·rw[if_pos hl];have hl:2<=op/\op<=4:=by rw[leafP,Bool.and_eq_true] at hl;exact⟨of_decide_eq_true hl.1,of_decide_eq_true hl.2⟩
   have hk0:kids= []:=by
    have:kidsP op=0:=by unfold kidsP;rw[if_neg Ya,if_neg Ya]
    exact List.eq_nil_of_length_eq_zero Ya
   subst hk0;exact⟨by simp only[cntN,cntNs];omega,by show 0<=left - 1;omega⟩
  ·rw[if_neg hl] at h ⊢;by_cases hp:plainP (.mk op arg path cls n kids)=true
   ·rw[if_pos hp] at h ⊢;obtain⟨h6,h7⟩:=nodes_cnt kids _ _ h Ya;have h6:(nodesP w kids (left - 1) (deep - 1)).2+cntNs kids=left - 1:=h6;exact⟨by simp only[cntN];omega,h7⟩
   ·rw[if_neg hp] at h;cases h
theorem nodes_cnt{w:Fc.FW}:∀(l:List Fact) (left deep:Int),(nodesP w l left deep).1=true->0<=left->(nodesP w l left deep).2+cntNs l=left/\0<=(nodesP w l left deep).2
 | [],left,deep,h,h0=>by rw[nodesP];exact⟨by simp[cntNs],h0⟩
 | k::r,left,deep,h,h0=>by
  rw[nodesP] at h ⊢;by_cases hk:(nodeP w k left deep).1=true
  ·rw[if_pos hk] at h ⊢;obtain⟨h2,h3⟩:=node_cnt k _ _ hk;obtain⟨h5,h6⟩:=nodes_cnt r _ _ h h3;exact⟨by simp only[cntNs];omega,h6⟩
  ·rw[if_neg hk] at h;exact absurd h hk
end
theorem methods_wf{p:Prog}:∀(l:List Mth) (o o':List Int),methodsN p l o=some o'->∀m∈l,wfF m.fact/\cntN m.fact<=24
 | [],o,o',h,m,hm=>by cases hm
 | y::r,o,o',h,m,hm=>by
  rw[methodsN] at h;split at h
  ·rename_i hy;rw[Bool.and_eq_true] at hy;split at h
   ·cases h
   ·rename_i o1 hv;rcases List.mem_cons.1 hm with rfl | hm
    ·have h2:=hy.2;simp only[mth2,Bool.and_eq_true] at h2;exact⟨node_wfF _ 24 12 h2.1.2,by have:=node_cnt m.fact 24 12 h2.1.2;omega⟩
    ·exact methods_wf r o1 o' h m hm
  ·cases h
theorem nodes_known(h:(sizesP p).isSome=true):(∀x∈p.nodes,NdKnown p x)/\(∀n∈p.gens,1<=n/\n<=3)/\(∀m∈p.methods,wfF m.fact/\cntN m.fact<=24):=by
 obtain⟨o,ho⟩:=Option.isSome_iff_exists.1 h;have hol:=sizes_len ho;obtain⟨hc,hh,hgs,o1,hm,hv,hn⟩:=sizes_parts ho;have hok:=okP_of h;have hg:∀n∈p.gens,1<=n/\n<=3:=λn hn=>gens_in hgs hn;simp only[headP,Bool.and_eq_true,decide_eq_true_eq] at hh;have hw:(worldOf p).parents.length<=1000/\(worldOf p).owner.length<=1000:=by
  obtain⟨hcl,hcs,hsl⟩:=okC_of hc;refine⟨by show (graphP p).length<=1000;simp[graphP];omega,?_⟩;have h1:slotsA p.classes 0=true:=by simp only[classesP,Bool.and_eq_true] at hc;exact hc.1.1.2
  have:∀(cs:List Cls) (i n:Nat),slotsA cs n=true->(ownersN cs i).length<=4*cs.length:=by
   intro cs
   induction cs with
   | nil=>intro i n _;simp[ownersN]
   | cons c r ih=>
    intro i n h;simp only[slotsA,Bool.and_eq_true,decide_eq_true_eq] at h;have:=ih (i+1) _ h.2;rw[ownersN,List.length_append,List.length_replicate,List.length_cons];omega
  have:=this p.classes 0 0 h1;show (ownersN p.classes 0).length<=1000;omega
 have hK0:OutKnown p (out0 p):=λi hi hne=>by
  exfalso;apply hne;rw[out0,List.getD_eq_getElem?_getD,List.getElem?_replicate];split <;> rfl
 obtain⟨hK1,hms⟩:=methods_known hg hw Ya Ya p.methods _ _ hm hK0;have hK2:=visit_outKnown (x:=⟨p.main,0,1⟩) rfl (by unfold smallV;simp only;omega) hv hK1;refine⟨λx hx=>?_,hg,methods_wf _ _ _ hm⟩;obtain⟨i,hi,rfl⟩:=List.mem_iff_getElem.1 hx;have e:p.nodes.getD i default=p.nodes[i]:=by rw[List.getD_eq_getElem?_getD,List.getElem?_eq_getElem hi];rfl
 rw[<-e];refine hK2 i hi ?_;have hio:i<o.length:=by rw[hol.1];exact hi
 intro hne;rw[List.getD_eq_getElem?_getD,List.getElem?_eq_getElem hio] at hne;have hmem:(-1:Int)∈o:=by rw[<-show o[i]= -1 from hne];exact List.getElem_mem _
 rw[List.contains_iff_mem.2 hmem] at hn;cases hn
theorem clsW_pos(c:Cls):0<(clsW c).length:=pos_left (pos_left (pos_left (numW_pos _)))
theorem prog_fwd(h:(sizesP p).isSome=true):progR (progW p)=some (p,[]):=by
 have hok:=okP_of h;obtain⟨hnk,hg,hms⟩:=nodes_known h;obtain⟨o,ho⟩:=Option.isSome_iff_exists.1 h;obtain⟨hc,hh,_⟩:=sizes_parts ho;have hsA:slotsA p.classes 0=true:=by simp only[classesP,Bool.and_eq_true] at hc;exact hc.1.1.2
 have hcnt:(slotsCnt p.classes:Int)=p.slots:=by simp only[classesP,Bool.and_eq_true,beq_iff_eq] at hc;exact hc.1.2.1
 obtain⟨hA,hF⟩:=classes_all p.classes 0 hsA hok.cs;have hcl:=hok.cl;have hgl:=hok.gl;have hml:=hok.ml;have hnl:=hok.nl;have e:progW p=listW clsW p.classes++(listW numI p.gens++(listW mthW p.methods++(listW ndW p.nodes++(numI p.main++[])))):=by
  rw[progW];simp only[List.append_assoc,List.append_nil]
 rw[e,progR_some (list_fwd (f:=clsW) (λs x r h=>cls_fwd h.1 h.2.1 h.2.2 r) clsW_pos Ya hA _),hF,progT];rw[thenR_some (list_fwd0 (ok:=okN) (λs x r h=>num_fwd h s r) numI_pos Ya hok.gs () _)];rw[thenR_some (list_fwd0 (ok:=λx=>okM x/\wfF x.fact/\cntN x.fact<=24) (λs x r h=>mth_fwd h.1 h.2.1 h.2.2 s r) (λx=>pos_left (pos_left (pos_left (numI_pos _)))) Ya (λx hx=>⟨hok.ms x hx,(hms x hx).1,(hms x hx).2⟩) () _)];rw[thenR_some (list_fwd0 (R:=ndR p.gens) (f:=ndW) (ok:=λx=>okNd x/\NdKnown p x) (λs x r h=>by
  obtain⟨⟨next,sz,_,hgd⟩,_⟩:=h.2;obtain⟨k1,k2,k3⟩:=kidsN_of hg hgd;exact nd_fwd h.1 k1 k2 k3 s r) (λx=>pos_left (pos_left (numI_pos _))) Ya (λx hx=>⟨hok.ns x hx,hnk x hx⟩) () _)]
 rw[thenR_some (num_fwd hok.main () [])];simp only[doneR,Option.map_some];rw[show ((0+slotsCnt p.classes:Nat):Int)=p.slots by rw[<-hcnt];simp]
theorem val_fwd{n:Nat}(hn:n<=1000000){v:Int×Int}(h:valueP n v=true)(s:σ)(r:List U8):valR s (valW v++r)=some (v,s,r):=by
 have ho:=okVal_of hn h;rw[valR,valW,List.append_assoc,thenR_some (num_fwd ho.k s _)];by_cases h1:v.1=1
 ·rw[if_pos h1,if_pos h1,thenR_some (int_fwd (ho.i h1) s r)];rfl
 ·rw[if_neg h1,if_neg h1];by_cases h3:v.1=3
  ·rw[if_pos h3,if_pos h3,thenR_some (num_fwd (ho.n h3) s r)];rfl
  ·rw[if_neg h3,if_neg h3,List.nil_append];unfold valueP at h;rw[if_neg h1] at h;by_cases h2:v.1=2
   ·rw[if_pos h2,beq_iff_eq] at h;rw[needR_yes (by rw[h2];rfl)];show some ((v.1,0),s,r)=_;rw[<-h]
   ·rw[if_neg h2,if_neg h3] at h;cases h
theorem th_fwd{n:Nat}(hn:n<=1000000){t:Th}(h:thingP p n t=true)(s:σ)(r:List U8):thR p s (thW t++r)=some (t,s,r):=by
 have ho:=okT_of hn h;simp only[thingP,Bool.and_eq_true,beq_iff_eq] at h;rw[thR,thW,List.append_assoc,thenR_some (num_fwd ho.cls s _),needR_yes h.1.1,h.1.2,thenR_some (times_fwd0 (ok:=λv=>valueP n v=true) (λs x r h=>val_fwd hn h s r) (List.all_eq_true.1 h.2) s r)];rfl
theorem sec_fwd{k:U8}{b:List U8}(hb:b.length<=100000000)(r:List U8):Im.secR (secW k b++r)=some (⟨k,b,false⟩,r):=by
 have e:secW k b++r=k::(numW b.length++(b++(sumR k b++r))):=by rw[secW];simp only[List.append_assoc];rfl
 rw[e];have hm:manyR (numW b.length++(b++(sumR k b++r)))=some (b.length,b++(sumR k b++r)):=many_fwd Ya Yaf;have h4:4<=((b++(sumR k b++r)).drop b.length).length:=by rw[List.drop_left,List.length_append,sumR_len];omega
 rw[Im.secR_good hm h4,List.take_left,List.drop_left];have h5:(sumR k b++r).take 4=sumR k b:=by rw[show (4:Nat)=(sumR k b).length by rw[sumR_len],List.take_left]
 have h6:(sumR k b++r).drop 4=r:=by rw[show (4:Nat)=(sumR k b).length by rw[sumR_len],List.drop_left]
 rw[h5,h6];simp
theorem secs_fwd:∀(f:Nat) (L:List Sec),(∀s∈L,s.damaged=false/\s.body.length<=100000000)->(L.flatMap λs=>secW s.kind s.body).length<=f->Im.secsR f (L.flatMap λs=>secW s.kind s.body)=(L,true)
 | 0,[],_,_=>rfl
 | 0,s::r,h,hl=>by
  rw[List.flatMap_cons,List.length_append] at hl;have:0<(secW s.kind s.body).length:=by simp only[secW,List.length_append,List.length_singleton];omega
  omega
 | f+1,[],_,_=>rfl
 | f+1,s::r,h,hl=>by
  rw[List.flatMap_cons] at hl ⊢;have e:=sec_fwd (k:=s.kind) (h s (.head _)).2 (r.flatMap λs=>secW s.kind s.body);have hd:=(h s (.head _)).1;rw[List.length_append] at hl;have hp:0<(secW s.kind s.body).length:=by simp only[secW,List.length_append,List.length_singleton];omega
  have ih:=secs_fwd f r (λx hx=>h x (.tail _ hx)) Ya;obtain⟨a,t,ht⟩:∃a t,secW s.kind s.body++(r.flatMap λs=>secW s.kind s.body)=a::t:=⟨s.kind,_,rfl⟩;rw[ht] at e ⊢;unfold Im.secsR;rw[e];simp only;rw[ih];obtain⟨k,b,d⟩:=s;simp only at hd;rw[hd]
instance:HasEq Tryz.prog 143 2:=⟨Yf⟩
def ro(b:List U8):List Th:=match readR b with | some x=>x.2 | none=>[]
def re(b:List U8):Int:=match readR b with | some _=>0 | none=>4
end Go.Proofs.YtpgnjlngepfanaaGreat

namespace Go.Proofs.YtpgnjlngepfanaaGreat
open Go.Eng
open Go.Eng.Fc
open Go.Eng.Bd
open Go.Eng.Im (U8 u8 u8s sumR)
open Go.Eng.Im
theorem rRoots(l:List (Int×Int))(n:Int):PCall Tryz.prog 51 [AV.mvs l,.i n] (.b (rootedP n l)):=by
 intro H;refine aC (n:=13) Tryz.func51 λB I w0=>?_;refine Z13 ?_;refine OL.guardC rfl rfl rfl rfl rfl rfl (λhg=>POp.call (.mk' rfl rfl rfl rfl Yd) (rVals l n)) ?_;refine Z5 ?_;refine r1 4 (H) ?_;exact⟨retB (by rw[rootedP,Bool.cond_false_right];congr 1;rw[decide_eq_decide];omega),rfl⟩
end Go.Proofs.YtpgnjlngepfanaaGreat

namespace Go.Proofs.YtpgnjlngepfanaaGreat
open Go.Eng
open Go.Eng.Fc
open Go.Eng.Bd
open Go.Eng.Im (U8 u8 u8s sumR splitR Sec)
variable{f:Int->Int}{v:Int×Int}{objs objs2:List Th}{roots:List (Int×Int)}{L:List Int}
def mapT(f:Int->Int)(t:Th):Th:=⟨t.cls,t.slots.map (move1 f)⟩
theorem meet1_map{R l:List Int}(hi:∀a∈R,∀b∈R,f a=f b->a=b)(hl:∀x∈l,x∈R)(hv:v.1=3->v.2∈R):meet1 (l.map f) (move1 f v)=(meet1 l v).map f:=by
 unfold meet1 move1;by_cases h3:v.1=3
 ·have hm:f v.2∈l.map f↔v.2∈l:=⟨λh=>by
   obtain⟨y,hy,e⟩:=List.mem_map.1 h;rw[<-hi y (hl y hy) v.2 (hv h3) e];exact hy,λh=>List.mem_map_of_mem h⟩
  rw[if_pos h3];by_cases hc:v.2∈l
  ·rw[if_neg (λh=>h.2 (hm.2 hc)),if_neg (λh=>h.2 hc)]
  ·rw[if_pos ⟨rfl,λh=>hc (hm.1 h)⟩,if_pos ⟨h3,hc⟩];simp
 ·rw[if_neg h3,if_neg (λh=>h3 h.1),if_neg (λh=>h3 h.1)]
theorem meetP_map{f:Int->Int}{R:List Int}(hi:∀a∈R,∀b∈R,f a=f b->a=b):∀(vals:List (Int×Int)) (l:List Int),(∀x∈meetP vals l,x∈R)->meetP (vals.map (move1 f)) (l.map f)=(meetP vals l).map f
 | [],l,_=>rfl
 | v::r,l,h=>by
  rw[List.map_cons,meetP_cons,meetP_cons,meet1_map hi (λx hx=>h x ((meetP_pre (v::r) l).subset hx)) (λh3=>h _ (meetP_has (v::r) l v (.head _) h3))];exact meetP_map hi r _ h
theorem reachN_pre(objs:List Th):∀(f i:Nat) (l:List Int),l<+:reachN objs f i l
 | 0,i,l=>List.prefix_refl _
 | f+1,i,l=>by
  rw[reachN];split
  ·exact (meetP_pre _ _).trans (reachN_pre objs f (i+1) _)
  ·exact List.prefix_refl _
theorem getD_mapI(f:Int->Int){l:List Int}{i:Nat}(hi:i<l.length):(l.map f).getD i default=f (l.getD i default):=by
 rw[List.getD_eq_getElem?_getD,List.getElem?_map,List.getD_eq_getElem?_getD,List.getElem?_eq_getElem hi];rfl
theorem reachN_map{f:Int->Int}{R:List Int}(hi:∀a∈R,∀b∈R,f a=f b->a=b){objs objs2:List Th}(hm:∀n∈R,thOf objs2 (f n)=mapT f (thOf objs n)):∀(g i:Nat) (l:List Int),(∀x∈reachN objs g i l,x∈R)->reachN objs2 g i (l.map f)=(reachN objs g i l).map f
 | 0,i,l,_=>rfl
 | g+1,i,l,h=>by
  simp only[reachN,List.length_map] at h ⊢;by_cases hl:i<l.length
  ·rw[if_pos hl] at h;rw[if_pos hl,if_pos hl,getD_mapI f hl];have hs:∀x∈meetP (thOf objs (l.getD i default)).slots l,x∈R:=λx hx=>h x ((reachN_pre objs g (i+1) _).subset hx);rw[hm _ (hs _ ((meetP_pre _ l).subset (getD_memB hl)))];show reachN objs2 g (i+1) (meetP ((thOf objs (l.getD i default)).slots.map (move1 f)) (l.map f))=_;rw[meetP_map hi _ _ hs];exact reachN_map hi hm g (i+1) _ h
  ·rw[if_neg hl,if_neg hl]
theorem reachN_more{objs:List Th}{roots:List (Int×Int)}(hv:∀t∈objs,t.slots.all (valueP objs.length)=true)(k:Nat):∀(f i:Nat) (l:List Int),Reached objs roots i l->objs.length<f+i->reachN objs (f+k) i l=reachN objs f i l
 | 0,i,l,h,hf=>by
  have:=h.ok.len;cases k with
  | zero=>rfl
  | succ k=>rw[Nat.zero_add,reachN,reachN,if_neg Ya]
 | f+1,i,l,h,hf=>by
  rw[show f+1+k=(f+k)+1 by omega,reachN,reachN];split
  ·rename_i hl;exact reachN_more hv k f (i+1) _ (h.step hv hl) Ya
  ·rfl
structure Iso(f:Int->Int)(objs objs2:List Th)(roots:List (Int×Int)):Prop where
 rs:roots.all (valueP objs.length)=true
 vs:∀t∈objs,t.slots.all (valueP objs.length)=true
 rs2:(roots.map (move1 f)).all (valueP objs2.length)=true
 vs2:∀t∈objs2,t.slots.all (valueP objs2.length)=true
 inj:∀a∈reachP objs roots,∀b∈reachP objs roots,f a=f b->a=b
 th:∀n∈reachP objs roots,thOf objs2 (f n)=mapT f (thOf objs n)
theorem Iso.reach(h:Iso f objs objs2 roots):reachP objs2 (roots.map (move1 f))=(reachP objs roots).map f:=by
 have h1:=reachN_more h.vs objs2.length (objs.length+1) 0 _ (Reached.begin h.rs) Ya;have h2:=reachN_more h.vs2 objs.length (objs2.length+1) 0 _ (Reached.begin h.rs2) Ya;have e:meetP (roots.map (move1 f)) []=(meetP roots []).map f:=meetP_map h.inj roots [] (λx hx=>(reachN_pre objs _ 0 _).subset hx);have hi:=h.inj;have ht:=h.th;unfold reachP at hi ht ⊢;rw[<-h1] at hi ht ⊢;rw[<-h2,e,show objs2.length+1+objs.length=objs.length+1+objs2.length by omega];exact reachN_map hi ht _ _ _ (λx hx=>hx)
theorem reach_closed(hr:roots.all (valueP objs.length)=true)(hv:∀t∈objs,t.slots.all (valueP objs.length)=true):RouteOk objs.length (reachP objs roots)/\(∀v∈roots,v.1=3->v.2∈reachP objs roots)/\∀n∈reachP objs roots,∀v∈(thOf objs n).slots,v.1=3->v.2∈reachP objs roots:=by
 obtain⟨i,h,hi⟩:=reach_ok hr hv;refine⟨h.ok,h.rts,λn hn v hv h3=>?_⟩;obtain⟨j,hj,rfl⟩:=List.mem_iff_getElem.1 hn;refine h.sls j Ya v ?_ h3;rwa [List.getD_eq_getElem?_getD,List.getElem?_eq_getElem hj]
theorem find_map{f:Int->Int}{n:Int}:∀L:List Int,(∀a∈L,f a=f n->a=n)->(L.map f).findIdx? (λx=>x==f n)=L.findIdx? (λx=>x==n)
 | [],_=>rfl
 | a::r,h=>by
  have e:(f a==f n)=(a==n):=by
   rw[Bool.eq_iff_iff,beq_iff_eq,beq_iff_eq];exact⟨h a (.head _),λe=>by rw[e]⟩
  rw[List.map_cons,List.findIdx?_cons,List.findIdx?_cons,find_map r (λa ha=>h a (.tail _ ha)),e]
theorem place_map(hi:∀a∈L,∀b∈L,f a=f b->a=b){n:Int}(hn:n∈L):placeP (L.map f) (f n)=placeP L n:=by
 rw[placeP,placeP,if_pos hn,if_pos (List.mem_map_of_mem hn),idxB,idxB,find_map L (λa ha e=>hi a ha n hn e)]
theorem moves_map(hi:∀a∈L,∀b∈L,f a=f b->a=b){l:List (Int×Int)}(hl:∀v∈l,v.1=3->v.2∈L):(l.map (move1 f)).map (move1 (placeP (L.map f)))=l.map (move1 (placeP L)):=by
 rw[List.map_map];refine List.map_congr_left λv hv=>?_;show move1 _ (move1 f v)=_;unfold move1;by_cases h3:v.1=3
 ·rw[if_pos h3,if_pos h3];show (3,placeP (L.map f) (f v.2))=_;rw[place_map hi (hl v hv h3)]
 ·rw[if_neg h3,if_neg h3,if_neg h3]
theorem Iso.part(h:Iso f objs objs2 roots)(p:Prog):partP p objs2 (roots.map (move1 f))=partP p objs roots:=by
 obtain⟨_,h1,h2⟩:=reach_closed h.rs h.vs;have e:partB p objs2 (roots.map (move1 f))=partB p objs roots:=by
  unfold partB;rw[h.reach,moves_map h.inj h1];congr 1;unfold listW;rw[List.length_map,List.flatMap_map];congr 1;have hg:∀n∈reachP objs roots,thW (objW ((reachP objs roots).map f) objs2 (f n))=thW (objW (reachP objs roots) objs n):=λn hn=>by
   rw[objW,objW,h.th n hn];show thW ⟨(thOf objs n).cls,((thOf objs n).slots.map (move1 f)).map _⟩=_;rw[moves_map h.inj (h2 n hn)]
  rw[List.flatMap_def,List.flatMap_def,List.map_congr_left hg]
 rw[partP,partP,e]
def ownP(objs:List Th)(roots:List (Int×Int)):List Th:=(reachP objs roots).map (objW (reachP objs roots) objs)
def ownR(objs:List Th)(roots:List (Int×Int)):List (Int×Int):=roots.map (move1 (placeP (reachP objs roots)))
theorem place_at{n:Int}(hn:n∈L):∃i:Nat,i<L.length/\placeP L n=i/\L.getD i default=n:=by
 rw[placeP,if_pos hn,idxB];cases h:L.findIdx? (λx=>x==n) with
 | none=>rw[List.findIdx?_eq_none_iff] at h;have:=h n hn;simp at this
 | some i=>
  obtain⟨hi,h1,_⟩:=List.findIdx?_eq_some_iff_getElem.1 h;exact⟨i,hi,rfl,by rw[List.getD_eq_getElem?_getD,List.getElem?_eq_getElem hi];exact beq_iff_eq.1 h1⟩
theorem value_place{n:Nat}(hv:valueP n v=true)(h3:v.1=3->v.2∈L):valueP L.length (move1 (placeP L) v)=true:=by
 unfold move1;by_cases e:v.1=3
 ·rw[if_pos e];obtain⟨i,hi,h1,_⟩:=place_at (h3 e);rw[h1];simp only[valueP];simp;omega
 ·rw[if_neg e];unfold valueP at hv ⊢;rw[if_neg e] at hv ⊢;exact hv
theorem values_place{n:Nat}{l:List (Int×Int)}(hv:l.all (valueP n)=true)(h3:∀v∈l,v.1=3->v.2∈L):(l.map (move1 (placeP L))).all (valueP L.length)=true:=by
 rw[List.all_eq_true];intro x hx;obtain⟨v,hm,rfl⟩:=List.mem_map.1 hx;exact value_place (List.all_eq_true.1 hv v hm) (h3 v hm)
theorem th_own{n:Int}(hn:n∈reachP objs roots):thOf (ownP objs roots) (placeP (reachP objs roots) n)=mapT (placeP (reachP objs roots)) (thOf objs n):=by
 obtain⟨i,hi,h1,h2⟩:=place_at hn;rw[h1,thOf,Int.toNat_natCast,ownP,List.getD_eq_getElem?_getD,List.getElem?_map,List.getElem?_eq_getElem hi];rw[List.getD_eq_getElem?_getD,List.getElem?_eq_getElem hi] at h2;have h2:(reachP objs roots)[i]=n:=h2;rw[h2];rfl
theorem own_iso(hr:roots.all (valueP objs.length)=true)(hv:∀t∈objs,t.slots.all (valueP objs.length)=true):Iso (placeP (reachP objs roots)) objs (ownP objs roots) roots:=by
 obtain⟨h0,h1,h2⟩:=reach_closed hr hv;have hl:(ownP objs roots).length=(reachP objs roots).length:=by rw[ownP,List.length_map]
 refine⟨hr,hv,by rw[hl];exact values_place hr h1,λt ht=>?_,λa ha b hb e=>?_,λn hn=>th_own hn⟩
 ·rw[hl];obtain⟨n,hn,rfl⟩:=List.mem_map.1 ht;have hni:=h0.in_ n hn;exact values_place (hv _ (getD_memB Ya)) (h2 n hn)
 ·obtain⟨i,_,e1,e2⟩:=place_at ha;obtain⟨j,_,e3,e4⟩:=place_at hb;rw[e1,e3] at e;rw[<-e2, <-e4,show i=j by omega]
theorem own_asked{p:Prog}(h:askedP p objs roots=true):askedP p (ownP objs roots) (ownR objs roots)=true/\partP p (ownP objs roots) (ownR objs roots)=partP p objs roots/\(ownP objs roots).length=(reachP objs roots).length:=by
 obtain⟨h1,h2,h3,h4⟩:=asked_parts h;obtain⟨h5,h6,h7⟩:=reach_closed h3 h4;have hi:=own_iso h3 h4;have hl:(ownP objs roots).length=(reachP objs roots).length:=by rw[ownP,List.length_map]
 refine⟨?_,hi.part p,hl⟩;have h0:=h;simp only[askedP,checkP,rootedP,Bool.and_eq_true,decide_eq_true_eq] at h0 ⊢;have hrl:=h5.len;refine⟨⟨⟨h0.1.1.1,Ya⟩,List.all_eq_true.2 λt ht=>?_⟩,by rw[ownR,List.length_map];exact h2,hi.rs2⟩;have hs:=hi.vs2 t ht;obtain⟨n,hn,rfl⟩:=List.mem_map.1 ht;have hni:=h5.in_ n hn;have ht0:=List.all_eq_true.1 h0.1.2 _ (getD_memB (l:=objs) (k:=n.toNat) Ya);simp only[thingP,Bool.and_eq_true] at ht0 ⊢;refine⟨⟨ht0.1.1,?_⟩,hs⟩;rw[show (objW (reachP objs roots) objs n).slots.length=(objs.getD n.toNat default).slots.length by rw[objW,List.length_map];rfl];exact ht0.1.2
def allP(others own:List Th):List Th:=others++own.map (shiftT others.length)
end Go.Proofs.YtpgnjlngepfanaaGreat

namespace Go.Proofs.YtpgnjlngepfanaaGreat
open Go.Eng
open Go.Eng.Fc
open Go.Eng.Bd
open Go.Eng.Im (U8 u8 u8s sumR)
open Go.Eng.Im
end Go.Proofs.YtpgnjlngepfanaaGreat

namespace Go.Proofs.YtpgnjlngepfanaaGreat
open Go.Eng
open Go.Eng.Fc
open Go.Eng.Bd
open Go.Eng.Im (U8 u8 u8s sumR)
end Go.Proofs.YtpgnjlngepfanaaGreat

namespace Go.Proofs.YtpgnjlngepfanaaGreat
open Go.Eng
open Go.Eng.Im
end Go.Proofs.YtpgnjlngepfanaaGreat

namespace Go.Proofs.YtpgnjlngepfanaaGreat
open Go.Eng
open Go.Eng.Fc
open Go.Eng.Bd
open Go.Eng.Im (U8 u8 u8s sumR numberR manyR splitR Sec)
def factR2:Nat->Rd Nat Fact
 | 0=>λ_ _=>none
 | d+1=>thenR numR λop=>needR (opR op) (factB (factR2 d) op)
def mthR2{σ:Type}:Rd σ Mth:=thenR numR λk=>thenR numR λg=>λs l=>match factR2 12 0 l with
 | none=>none
 | some (f,_,l1)=>(thenR numR λn=>doneR ⟨k,g,f,n⟩) s l1
def gensP(gens:List Int):Prog:=⟨[],0,gens,[],[],0⟩
def ndOk(gens:List Int)(op n:Int):Bool:=decide (1<=op) && decide (op<=18) && !(decide (op=5) && decide (n>=gens.length))
def ndR2{σ:Type}(gens:List Int):Rd σ Nd:=thenR numR λop=>thenR (ndNR op) λn=>needR (ndOk gens op n) (thenR (timesR numR (kidsR (gensP gens) ⟨op,n,[]⟩).toNat) λks=>doneR ⟨op,n,ks⟩)
def progT2(cs:List Cls)(s:Int):Rd Unit Prog:=thenR (listR numR) λgs=>thenR (listR mthR2) λms=>needR (gs.all λg=>decide (g<=3)) (thenR (listR (ndR2 gs)) λns=>thenR numR λm=>doneR ((⟨cs,s,gs,ms,ns,m⟩:Prog)))
def progR2:List U8->Option (Prog×List U8):=λl=>match listR clsR 0 l with
 | none=>none
 | some (cs,s,l1)=>(progT2 cs s () l1).map λq=>(q.1,q.2.2)
end Go.Proofs.YtpgnjlngepfanaaGreat

namespace Go.Proofs.YtpgnjlngepfanaaGreat
open Go.Eng
open Go.Eng.Fc
open Go.Eng.Bd
open Go.Eng.Im (U8 u8 u8s numberR manyR)
open Go.Eng.Im
open Go.Eng.Im (U8 u8 u8s numberR manyR splitR Sec pies)
variable{σ α β:Type}{l:List U8}{i i' k i1 n i0:Nat}{b' b b1 c b0:Bool}{f:FuncId}{xs:List AV}{H:List Ent}{gs:List Int}
structure RTo{σ α:Type}(R:Rd σ α)(s:σ)(l:List U8)(i:Nat)(bad:Bool)(z:α)(s':σ)(i':Nat)(b':Bool):Prop where
 le:i'<=l.length
 go:b'=false->bad=false/\R s (l.drop i)=some (z,s',l.drop i')
 no:b'=true->bad=true\/R s (l.drop i)=none
theorem RTo.bad{σ α:Type}{R:Rd σ α}{s s':σ}{l:List U8}{i i':Nat}{bad:Bool}{z:α}(h:bad=true\/R s (l.drop i)=none)(hi:i'<=l.length):RTo R s l i bad z s' i' true:=⟨hi,λe=>Bool.noConfusion e,λ_=>h⟩
theorem RTo.stay{R:Rd σ α}{s s':σ}{z:α}(h:RTo R s l i true z s' i' b'):b'=true:=by
 cases b' with
 | true=>rfl
 | false=>cases (h.go rfl).1
theorem RTo.bind{R:Rd σ α}{k:α->Rd σ β}{s s1 s2:σ}{i i1 i2:Nat}{b b1 b2:Bool}{a:α}{z:β}(h1:RTo R s l i b a s1 i1 b1)(h2:RTo (k a) s1 l i1 b1 z s2 i2 b2):RTo (thenR R k) s l i b z s2 i2 b2:=by
 refine⟨h2.le,λe=>?_,λe=>?_⟩
 ·obtain⟨e1,e2⟩:=h2.go e;obtain⟨e3,e4⟩:=h1.go e1;exact⟨e3,by rw[thenR_some e4,e2]⟩
 ·cases hb:b1 with
  | true=>
   rcases h1.no hb with h | h
   ·exact .inl h
   ·exact .inr (thenR_none h)
  | false=>
   obtain⟨_,e4⟩:=h1.go hb;rcases h2.no e with h | h
   ·rw[hb] at h;cases h
   ·exact .inr (by rw[thenR_some e4,h])
theorem RTo.done(z:α){s:σ}{l:List U8}{i:Nat}{b:Bool}(hi:i<=l.length):RTo (doneR z) s l i b z s i b:=⟨hi,λe=>⟨e,rfl⟩,λe=>.inl e⟩
theorem RTo.map{R:Rd σ α}{s s1:σ}{a:α}(f:α->β)(h1:RTo R s l i b a s1 i1 b1):RTo (thenR R λx=>doneR (f x)) s l i b (f a) s1 i1 b1:=h1.bind (.done _ h1.le)
theorem RTo.need{R:Rd σ α}{s s':σ}{z:α}(hc:c=true)(h:RTo R s l i b z s' i' b'):RTo (needR c R) s l i b z s' i' b':=⟨h.le,λe=>by rw[needR_yes hc];exact h.go e,λe=>by rw[needR_yes hc];exact h.no e⟩
structure TTo{σ α:Type}(R:Rd σ α)(n:Nat)(s0:σ)(l:List U8)(i0:Nat)(bad0:Bool)(k:Nat)(out:List α)(s:σ)(i:Nat)(b:Bool):Prop where
 le:i<=l.length
 len:out.length=k
 go:b=false->bad0=false/\timesR R n s0 (l.drop i0)=(timesR R (n - k) s (l.drop i)).map λp=>(out++p.1,p.2.1,p.2.2)
 no:b=true->bad0=true\/timesR R n s0 (l.drop i0)=none
theorem TTo.begin(R:Rd σ α)(n:Nat)(s:σ){l:List U8}{i:Nat}(b:Bool)(hi:i<=l.length):TTo R n s l i b 0 [] s i b:=⟨hi,rfl,λe=>⟨e,times_begin _ _ _ _⟩,λe=>.inl e⟩
theorem TTo.step{R:Rd σ α}{s0 s s':σ}{out:List α}{z:α}(h:TTo R n s0 l i0 b0 k out s i false)(hk:k<n)(hr:RTo R s l i false z s' i' b'):TTo R n s0 l i0 b0 (k+1) (out++[z]) s' i' b':=by
 obtain⟨e1,e2⟩:=h.go rfl;obtain⟨t1,t2⟩:=times_snoc hk e2;refine⟨hr.le,by rw[List.length_append,h.len];rfl,λe=>⟨e1,t2 _ _ _ (hr.go e).2⟩,λe=>?_⟩;rcases hr.no e with h1 | h1
 ·cases h1
 ·exact .inr (t1 h1)
theorem TTo.fin{R:Rd σ α}{s0 s:σ}{out:List α}(h:TTo R n s0 l i0 b0 k out s i b)(hk:b=true\/k=n):RTo (timesR R n) s0 l i0 b0 out s i b:=by
 refine⟨h.le,λe=>?_,h.no⟩;rcases hk with hk | rfl
 ·rw[hk] at e;cases e
 ·obtain⟨e1,e2⟩:=h.go e;exact⟨e1,times_end e2⟩
abbrev RX(enc:α->AV)(R:Rd σ α)(s:σ)(rb:Nat)(l:List U8)(i:Nat)(bad:Bool)(H:List Ent)(q:α->Prop):AV->List Ent->Prop:=λy H'=>∃z s' i' b',y=enc z/\H'=rr rb l i' b'::H/\q z/\RTo R s l i bad z s' i' b'
abbrev isN(n:Int):Prop:=0<=n/\n<34359738368
theorem drop_plus(l:List U8)(i n:Nat):(l.drop i).drop n=l.drop (i+n):=by rw[List.drop_drop]
theorem many_of{s s1:σ}{n:Int}(h:RTo numR s l i b n s1 i1 b1)(h0:0<=n)(hn:n<=(l.length:Int) - i1):RTo manyRd s l i b n.toNat s1 i1 b1:=by
 refine⟨h.le,λe=>?_,λe=>?_⟩
 ·obtain⟨e1,e2⟩:=h.go e;refine⟨e1,?_⟩;rcases hq:numberR (l.drop i) with _ | ⟨m,r⟩
  ·rw[numR_none hq] at e2;cases e2
  ·rw[numR_some hq] at e2;simp only[Option.some.injEq,Prod.mk.injEq] at e2;obtain⟨rfl,rfl,rfl⟩:=e2;rw[manyRd,manyR,hq];simp only;rw[if_pos (by rw[List.length_drop];omega),Int.toNat_natCast]
 ·rcases h.no e with h1 | h1
  ·exact .inl h1
  ·right;rcases hq:numberR (l.drop i) with _ | ⟨m,r⟩
   ·rw[manyRd,manyR,hq]
   ·rw[numR_some hq] at h1;cases h1
theorem many_no{s s1 s':σ}{n:Int}{z:Nat}(h:RTo numR s l i b n s1 i1 b1)(hn: ¬n<=(l.length:Int) - i1)(hi:i'<=l.length):RTo manyRd s l i b z s' i' true:=by
 refine .bad ?_ hi;cases hb:b1 with
 | true=>
  rcases h.no hb with h1 | h1
  ·exact .inl h1
  ·right;rcases hq:numberR (l.drop i) with _ | ⟨m,r⟩
   ·rw[manyRd,manyR,hq]
   ·rw[numR_some hq] at h1;cases h1
 | false=>
  obtain⟨e1,e2⟩:=h.go hb;right;rcases hq:numberR (l.drop i) with _ | ⟨m,r⟩
  ·rw[manyRd,manyR,hq]
  ·rw[numR_some hq] at e2;simp only[Option.some.injEq,Prod.mk.injEq] at e2;obtain⟨rfl,rfl,rfl⟩:=e2;rw[manyRd,manyR,hq];simp only;rw[if_neg (by rw[List.length_drop];have:=h.le;omega)]
abbrev Gr(α:Type):=List U8->Nat->Bool->α×Nat×Bool
def bindG(R:Gr α)(k:α->Gr β):Gr β:=λl i b=>k (R l i b).1 l (R l i b).2.1 (R l i b).2.2
def doneG(a:α):Gr α:=λl i b=>(a,i,b)
def failG(a:α):Gr α:=λl i b=>(a,i,true)
def numG:Gr Int:=λl i b=>if b then (0,i,true) else ((numV (l.drop i):Int),i+numF 5 (l.drop i),(numberR (l.drop i)).isNone)
def intG:Gr Int:=bindG numG λn=>doneG (znOf n)
def timesG{α:Type}(R:Gr α):Nat->Gr (List α)
 | 0,l,i,b=>([],i,b)
 | n+1,l,i,b=>if b then ([],i,true) else bindG R (λx=>bindG (timesG R n) λxs=>doneG (x::xs)) l i b
def ROk(R:Rd σ α)(G:Gr α):Prop:=∀(s:σ) (l:List U8) (i:Nat) (b:Bool),i<=l.length->∃s',RTo R s l i b (G l i b).1 s' (G l i b).2.1 (G l i b).2.2
theorem ROk.bind{σ α β:Type}{R:Rd σ α}{G:Gr α}{k:α->Rd σ β}{g:α->Gr β}(h1:ROk R G)(h2:∀a,ROk (k a) (g a)):ROk (thenR R k) (bindG G g):=λs l i b hi=>by
 obtain⟨s1,h3⟩:=h1 s l i b hi;obtain⟨s2,h4⟩:=h2 (G l i b).1 s1 l _ (G l i b).2.2 h3.le;exact⟨s2,h3.bind h4⟩
theorem ROk.done{σ α:Type}(z:α):ROk (doneR (σ:=σ) z) (doneG z):=λs l i b hi=>⟨s,.done z hi⟩
theorem ROk.no{R:Rd σ α}(z:α)(h:∀s l,R s l=none):ROk R (failG z):=λs l i b hi=>⟨s,.bad (.inr (h _ _)) hi⟩
theorem ROk.num:ROk (numR (σ:=σ)) numG:=λs l i b hi=>by
 cases b with
 | true=>exact⟨s,.bad (.inl rfl) hi⟩
 | false=>
  refine⟨s,?_⟩;show RTo numR s l i false (numV (l.drop i):Int) s (i+numF 5 (l.drop i)) (numberR (l.drop i)).isNone;have hf:=numF_le 5 (l.drop i);rw[List.length_drop] at hf;rcases hn:numberR (l.drop i) with _ | ⟨n,r⟩
  ·exact .bad (.inr (numR_none hn)) Ya
  ·have h1:=numR_drop hn;refine⟨Ya,λ_=>⟨rfl,?_⟩,λe=>by cases e⟩;rw[numR_some hn,numV_some hn,h1,drop_plus]
theorem ROk.int:ROk (intR (σ:=σ)) intG:=ROk.num.bind λn=>.done _
theorem ROk.times{σ α:Type}{R:Rd σ α}{G:Gr α}(h:ROk R G):∀n,ROk (timesR R n) (timesG G n)
 | 0,s,l,i,b,hi=>⟨s,hi,λe=>⟨e,rfl⟩,λe=>.inl e⟩
 | n+1,s,l,i,b,hi=>by
  cases b with
  | true=>exact⟨s,.bad (.inl rfl) hi⟩
  | false=>
   obtain⟨s1,h1⟩:=h s l i false hi;obtain⟨s2,h2⟩:=ROk.times h n s1 l _ (G l i false).2.2 h1.le;refine⟨s2,h2.le,λe=>?_,λe=>?_⟩
   ·obtain⟨e1,e2⟩:=h2.go e;obtain⟨e3,e4⟩:=h1.go e1;refine⟨rfl,?_⟩;rw[timesR,e4];simp only;rw[e2];rfl
   ·right;rw[timesR];cases hb:(G l i false).2.2 with
    | true=>
     rcases h1.no hb with h3 | h3
     ·cases h3
     ·rw[h3]
    | false=>
     obtain⟨_,e4⟩:=h1.go hb;rw[e4];simp only;rcases h2.no e with h3 | h3
     ·rw[hb] at h3;cases h3
     ·rw[h3]
theorem numG_is(l:List U8)(i:Nat)(b:Bool):isN (numG l i b).1:=by
 cases b with
 | true=>show isN 0;exact⟨YO,YO⟩
 | false=>exact⟨by show (0:Int)<=(numV _:Nat);omega,by show ((numV (l.drop i):Nat):Int)<_;have:=numV_lt (l.drop i);omega⟩
abbrev RG(enc:α->AV)(G:Gr α)(rb:Nat)(l:List U8)(i:Nat)(bad:Bool)(H:List Ent):AV->List Ent->Prop:=λy H'=>y=enc (G l i bad).1/\H'=rr rb l (G l i bad).2.1 (G l i bad).2.2::H
theorem RG.r{enc:α->AV}{G:Gr α}{rb:Nat}{bad:Bool}(h:ACall Tryz.prog f xs (rr rb l i bad::H) (RG enc G rb l i bad H) (λ_ _=>False)):RCall Tryz.prog f xs (rr rb l i bad::H) (some (enc (G l i bad).1,rr rb l (G l i bad).2.1 (G l i bad).2.2::H)) [] wrongA:=.of h
theorem RG.e{f:FuncId}{xs:List AV}{α:Type}{enc:α->AV}{G:Gr α}{rb:Nat}{l:List U8}{i j:Nat}{bad c:Bool}{z:α}{H:List Ent}(h:ACall Tryz.prog f xs (rr rb l i bad::H) (RG enc G rb l i bad H) (λ_ _=>False))(e:G l i bad=(z,j,c)):ACall Tryz.prog f xs (rr rb l i bad::H) (λy H'=>y=enc z/\H'=rr rb l j c::H) (λ_ _=>False):=ACall.weak h (λy H' ⟨e1,e2⟩=>⟨by rw[e1,e],by rw[e2,e]⟩) (λ_ _ h=>h)
theorem RG.x{enc:α->AV}{R:Rd σ α}{G:Gr α}{q:α->Prop}{s:σ}{rb:Nat}{bad:Bool}(h:ACall Tryz.prog f xs (rr rb l i bad::H) (RG enc G rb l i bad H) (λ_ _=>False))(hi:i<=l.length)(hR:ROk R G)(hq:q (G l i bad).1):ACall Tryz.prog f xs (rr rb l i bad::H) (RX enc R s rb l i bad H q) (λ_ _=>False):=
 ACall.weak h (λy H' ⟨e1,e2⟩=>(hR s l i bad hi).elim λs' hT=>⟨_,s',_,_,e1,e2,hq,hT⟩) (λ_ _ h=>h)
def valG:Gr (Int×Int):=bindG numG λk=>if k=1 then bindG intG λn=>doneG (k,n) else if k=2 then doneG (k,0) else if k=3 then bindG numG λn=>doneG (k,n) else failG (k,0)
theorem ROk.val:ROk (valR (σ:=σ)) valG:=ROk.num.bind λk=>by
 by_cases h1:k=1
 ·rw[if_pos h1,if_pos h1];exact ROk.int.bind λn=>.done _
 ·rw[if_neg h1,if_neg h1];by_cases h2:k=2
  ·rw[if_pos h2,if_neg Ya];exact λs l i b hi=>⟨s,.need (by rw[h2];rfl) (.done _ hi)⟩
  ·rw[if_neg h2];by_cases h3:k=3
   ·rw[if_pos h3,if_pos h3];exact ROk.num.bind λn=>.done _
   ·rw[if_neg h3,if_neg h3];exact .no _ λs l=>needR_no Ya7
theorem RTo.z{σ α:Type}{R:Rd σ α}{s s' s2:σ}{l:List U8}{i i' i2:Nat}{b:Bool}{z z2:α}(h:RTo R s l i b z s' i' true)(hi:i2<=l.length):RTo R s l i b z2 s2 i2 true:=.bad (h.no rfl) hi
def initG:Gr (Int×Int):=bindG numG λa=>bindG intG λb=>doneG (a,b)
theorem ROk.init:ROk (initR (σ:=σ)) initG:=ROk.num.bind λa=>ROk.int.bind λb=>.done _
def manyG:Gr Nat:=λl i b=>if(numG l i b).1<=(l.length:Int) - ((numG l i b).2.1:Nat) then ((numG l i b).1.toNat,(numG l i b).2.1,(numG l i b).2.2) else (0,(numG l i b).2.1,true)
theorem ROk.many:ROk (manyRd (σ:=σ)) manyG:=λs l i b hi=>by
 obtain⟨s1,h⟩:=ROk.num s l i b hi;have h0:=(numG_is l i b).1;unfold manyG;split
 ·rename_i hc;exact⟨s1,many_of h h0 hc⟩
 ·rename_i hc;exact⟨s,many_no h hc h.le⟩
def listG(R:Gr α):Gr (List α):=bindG manyG λn=>timesG R n
theorem ROk.list{R:Rd σ α}{G:Gr α}(h:ROk R G):ROk (listR R) (listG G):=ROk.many.bind λn=>h.times n
def numsG:Gr (List Int):=listG numG
theorem ROk.nums:ROk (listR (numR (σ:=σ))) numsG:=ROk.num.list
structure TGo{α:Type}(G:Gr α)(n:Nat)(l:List U8)(i0:Nat)(b0:Bool)(k:Nat)(out:List α)(j:Nat)(b:Bool):Prop where
 le:j<=l.length
 len:out.length=k
 eq:timesG G n l i0 b0=(out++(timesG G (n - k) l j b).1,(timesG G (n - k) l j b).2)
theorem TGo.begin(G:Gr α)(n:Nat){l:List U8}{i:Nat}(b:Bool)(hi:i<=l.length):TGo G n l i b 0 [] i b:=⟨hi,rfl,rfl⟩
theorem TGo.step{G:Gr α}{i0 k j j':Nat}{out:List α}{z:α}(h:TGo G n l i0 b0 k out j false)(hk:k<n)(hz:G l j false=(z,j',b'))(hj:j'<=l.length):TGo G n l i0 b0 (k+1) (out++[z]) j' b':=by
 refine⟨hj,by rw[List.length_append,h.len];rfl,?_⟩;rw[h.eq,show n - k=n - (k+1)+1 by omega,timesG,if_neg Yr,bindG,hz];simp only[bindG,doneG,List.append_assoc,List.singleton_append]
theorem TGo.fin{G:Gr α}{i0 k j:Nat}{out:List α}(h:TGo G n l i0 b0 k out j b)(hk:b=true\/k=n):timesG G n l i0 b0=(out,j,b):=by
 have e:timesG G (n - k) l j b=([],j,b):=by
  rcases hk with rfl | rfl
  ·cases n - k <;> simp[timesG]
  ·rw[Nat.sub_self,timesG]
 rw[h.eq,e,List.append_nil]
def restG(R:Option (Gr Fact))(k:Nat)(f:List Fact->Fact):Gr Fact:=match R with
 | none=>failG (f [])
 | some R=>bindG (timesG R k) λks=>doneG (f ks)
def factK(R:Option (Gr Fact))(op:Int):Gr Fact:=
 if op=2 then bindG numG λa=>bindG numsG λps=>bindG numG λc=>restG R 0 λks=>.mk op a ps c 0 ks
 else if op=3\/op=4 then bindG numG λa=>bindG numsG λps=>bindG intG λn=>restG R 0 λks=>.mk op a ps 0 n ks
 else if opR op then restG R (kidCnt op) λks=>.mk op 0 [] 0 0 ks
 else bindG (failG ()) λ_=>restG R 0 λks=>.mk op 0 [] 0 0 ks
def factS(R:Option (Gr Fact)):Gr Fact:=bindG numG (factK R)
def factG:Nat->Gr Fact
 | 0=>factS none
 | d+1=>factS (some (factG d))
theorem ROk.need{σ α:Type}{R:Rd σ α}{G:Gr α}{c:Bool}(hc:c=true)(h:ROk R G):ROk (needR c R) G:=λs l i b hi=>(h s l i b hi).elim λs' h=>⟨s',h.need hc⟩
theorem ROk.dead{R:Rd σ α}{G:Gr α}(hR:∀s l,R s l=none)(hG:∀l i b,i<=l.length->(G l i b).2.1<=l.length/\(G l i b).2.2=true):ROk R G:=λs l i b hi=>by
 obtain⟨h1,h2⟩:=hG l i b hi;refine⟨s,?_⟩;rw[h2];exact .bad (.inr (hR _ _)) h1
theorem ROk.rest{R:Rd Nat Fact}{G:Gr Fact}(h:ROk R G)(k:Nat)(f:List Fact->Fact):ROk (thenR (timesR R k) λks=>doneR (f ks)) (restG (some G) k f):=(h.times k).bind λks=>.done _
theorem rest_no(k:Nat)(f:List Fact->Fact)(l:List U8)(i:Nat)(b:Bool)(hi:i<=l.length):(restG none k f l i b).2.1<=l.length/\(restG none k f l i b).2.2=true:=⟨hi,rfl⟩
theorem bind_dead{R:Rd Unit α}{G:Gr α}{g:α->Gr β}(h:ROk R G)(hg:∀a l i b,i<=l.length->(g a l i b).2.1<=l.length/\(g a l i b).2.2=true)(l:List U8)(i:Nat)(b:Bool)(hi:i<=l.length):(bindG G g l i b).2.1<=l.length/\(bindG G g l i b).2.2=true:=
 (h () l i b hi).elim λ_ hT=>hg _ l _ _ hT.le
theorem fact_none(l:List U8)(i:Nat)(b:Bool)(hi:i<=l.length):(factS none l i b).2.1<=l.length/\(factS none l i b).2.2=true:=by
 refine bind_dead .num (λop l i b hi=>?_) l i b hi;unfold factK;split
 ·exact bind_dead .num (λa l i b hi=>bind_dead .nums (λps l i b hi=>bind_dead .num (λc l i b hi=>rest_no _ _ _ _ _ hi) l i b hi) l i b hi) l i b hi
 ·split
  ·exact bind_dead .num (λa l i b hi=>bind_dead .nums (λps l i b hi=>bind_dead .int (λc l i b hi=>rest_no _ _ _ _ _ hi) l i b hi) l i b hi) l i b hi
  ·split
   ·exact rest_no _ _ _ _ _ hi
   ·exact⟨hi,rfl⟩
theorem ROk.fact:∀d,ROk (factR2 d) (factG d)
 | 0=>.dead (λ_ _=>rfl) fact_none
 | d+1=>ROk.num.bind λop=>by
  by_cases ho:opR op=true
  ·refine ROk.need ho ?_;unfold factB factK;by_cases h2:op=2
   ·rw[if_pos h2,if_pos h2];exact ROk.num.bind λa=>ROk.nums.bind λps=>ROk.num.bind λc=>.done _
   ·rw[if_neg h2,if_neg h2];by_cases h3:op=3\/op=4
    ·rw[if_pos h3,if_pos h3];exact ROk.num.bind λa=>ROk.nums.bind λps=>ROk.int.bind λc=>.done _
    ·rw[if_neg h3,if_neg h3,if_pos ho];exact (ROk.fact d).rest _ λks=>.mk op 0 [] 0 0 ks
  ·have hq:opR op=false:=by simpa using ho
   have hq2: ¬op=2:=by rintro rfl;exact ho rfl
   have hq3: ¬(op=3\/op=4):=by rintro (rfl | rfl) <;> exact ho rfl
   refine .dead (λs l=>needR_no hq) λl i b hi=>?_;unfold factK;rw[if_neg hq2,if_neg hq3,if_neg ho];exact⟨hi,rfl⟩
def ndNG(op:Int):Gr Int:=if op=1 then intG else if nodeNum op then numG else doneG 0
def ndK(gens:List Int)(op n:Int):Gr Nd:=if ndOk gens op n then bindG (timesG numG (kidsR (gensP gens) ⟨op,n,[]⟩).toNat) λks=>doneG ⟨op,n,ks⟩ else failG ⟨op,n,[]⟩
def ndG(gens:List Int):Gr Nd:=bindG numG λop=>bindG (ndNG op) λn=>ndK gens op n
theorem ROk.ndN(op:Int):ROk (ndNR (σ:=σ) op) (ndNG op):=by
 unfold ndNR ndNG;split
 ·exact .int
 ·split
  ·exact .num
  ·exact .done _
theorem ROk.nd(gens:List Int):ROk (ndR2 (σ:=σ) gens) (ndG gens):=ROk.num.bind λop=>(ROk.ndN op).bind λn=>by
 unfold ndK;by_cases h:ndOk gens op n=true
 ·rw[if_pos h];exact .need h ((ROk.num.times _).bind λks=>.done _)
 ·rw[if_neg h];exact .no _ λs l=>needR_no Y5
def GI(gs:List Int)(q:Nat)(c bb:Bool):Prop:=(bb=false->c=false/\∀g∈gs.take q,g<=3)/\(bb=true->c=true\/∃g∈gs.take q,¬g<=3)
theorem GI.begin(gs:List Int)(c:Bool):GI gs 0 c c:=⟨λe=>⟨e,Yr⟩,λe=>.inl e⟩
theorem GI.bad{q:Nat}{c bb:Bool}(hq:q<gs.length)(h3:gs.getD q default>3):GI gs (q+1) c true:=⟨λe=>Bool.noConfusion e,λ_=>.inr ⟨gs.getD q default,by rw[<-take_getD hq];exact List.mem_append_right _ (List.mem_singleton.2 rfl),Ya⟩⟩
theorem GI.ok{q:Nat}{c bb:Bool}(h:GI gs q c bb)(hq:q<gs.length)(h3: ¬gs.getD q default>3):GI gs (q+1) c bb:=by
 refine⟨λe=>⟨(h.1 e).1,λg hg=>?_⟩,λe=>(h.2 e).imp id λ⟨g,hg,hg3⟩=>⟨g,by rw[<-take_getD hq];simp[hg],hg3⟩⟩;rw[<-take_getD hq,List.mem_append,List.mem_singleton] at hg;rcases hg with hg | rfl
 ·exact (h.1 e).2 g hg
 ·omega
structure PTo(l:List U8)(i:Nat)(bad:Bool)(p:Prog)(i':Nat)(b':Bool):Prop where
 le:i'<=l.length
 small:p.Small
 go:b'=false->bad=false/\progR2 (l.drop i)=some (p,l.drop i')
 no:b'=true->bad=true\/progR2 (l.drop i)=none
end Go.Proofs.YtpgnjlngepfanaaGreat

namespace Go.Proofs.YtpgnjlngepfanaaGreat
open Go.Eng
open Go.Eng.Fc
open Go.Eng.Bd
open Go.Eng.Im (U8 u8 u8s sumR splitR Sec)
variable{p:Prog}{objs:List Th}{roots:List (Int×Int)}
theorem partP_eq(p:Prog)(objs:List Th)(roots:List (Int×Int)):partP p objs roots=67::80::([⟨3,partB p objs roots,false⟩]:List Sec).flatMap λs=>secW s.kind s.body:=by
 rw[partP];simp
theorem partB_eq(p:Prog)(objs:List Th)(roots:List (Int×Int)):partB p objs roots=sumR 1 (progW p)++(listW valW (ownR objs roots)++(listW thW (ownP objs roots)++[])):=by
 rw[partB,List.append_nil,List.append_assoc];congr 2;rw[ownP,listW,listW,List.length_map,List.flatMap_map]
theorem part_len(h:askedP p objs roots=true):(partP p objs roots).length<=100000/\(partB p objs roots).length<=20000:=by
 have hk:=ask_ok h;have hpl:(partB p objs roots).length<=20000:=partL_len (p:=p) hk.po hk.rs hk.rl;have hsl:=secW_len (k:=3) (b:=partB p objs roots) Ya;exact⟨by rw[partP,List.length_append];show 2+_<=_;omega,hpl⟩
theorem part_bodies(h:askedP p objs roots=true):bodiesR (partP p objs roots) 80 [3]=some [partB p objs roots]:=by
 obtain⟨_,h2⟩:=part_len h;have hs:=secs_fwd (([⟨3,partB p objs roots,false⟩]:List Sec).flatMap λs=>secW s.kind s.body).length [⟨3,partB p objs roots,false⟩] (λs hs=>by
   simp only[List.mem_cons,List.not_mem_nil,or_false] at hs;subst hs;exact⟨rfl,by show (partB p objs roots).length<=_;omega⟩) (Nat.le_refl _)
 have hsp:splitR (partP p objs roots)=some (80,[⟨3,partB p objs roots,false⟩]):=by
  rw[partP_eq,splitR,Im.secsOf,hs];rfl
 rw[bodies_yes hsp ⟨rfl,rfl⟩ YaI];rfl
theorem part_own(h:askedP p objs roots=true):part1R (partP p objs roots)=some (sumR 1 (progW p),listW valW (ownR objs roots)++(listW thW (ownP objs roots)++[]))/\part2R p (partP p objs roots) (listW valW (ownR objs roots)++(listW thW (ownP objs roots)++[]))=some (ownR objs roots,ownP objs roots):=by
 have e:=partB_eq p objs roots;obtain⟨h1,h2,h3⟩:=own_asked h;obtain⟨g1,g2,g3,g4⟩:=asked_parts h1;have hk:=ask_ok h1;refine⟨?_,?_⟩
 ·rw[part1R,part_bodies h];simp only;rw[e,List.length_append,sumR_len,if_pos Ya];rw[show (4:Nat)=(sumR 1 (progW p)).length by rw[sumR_len],List.take_left,List.drop_left]
 ·have v1:=list_fwd0 (R:=valR (σ:=Unit)) (f:=valW) (ok:=λv=>valueP (ownP objs roots).length v=true) (λs x r h=>val_fwd Ya h s r) (λx=>pos_left (numI_pos _)) (l:=ownR objs roots) Ya (List.all_eq_true.1 g3) () (listW thW (ownP objs roots)++[]);have v2:=list_fwd0 (R:=thR (σ:=Unit) p) (f:=thW) (ok:=λt=>thingP p (ownP objs roots).length t=true) (λs x r h=>th_fwd Ya h s r) (λx=>pos_left (numI_pos _)) (l:=ownP objs roots) Ya (by
   simp only[askedP,checkP,Bool.and_eq_true] at h1;exact List.all_eq_true.1 h1.1.2) () []
  rw[part2_go v1 v2];exact if_pos ⟨rfl,h1,h2.symm⟩
theorem load_part{objs others:List Th}(h:askedP p objs roots=true)(hc:checkP p others=true):loadR p others (partP p objs roots)=if others.length+(reachP objs roots).length<=40 then .ok (allP others (ownP objs roots)) ((ownR objs roots).map (move1 (· +(others.length:Int)))) else .long:=by
 obtain⟨h1,h2⟩:=part_own h;obtain⟨_,_,h3⟩:=own_asked h;rw[load_on hc h1 rfl,h2];simp only[h3];rfl
def lo:LoadE->List Th
 | .ok l _=>l
 | _=>[]
def lr:LoadE->List (Int×Int)
 | .ok _ l=>l
 | _=>[]
structure Saved(p:Prog)(objs others:List Th)(roots:List (Int×Int)):Prop where
 alike:alikeP p objs roots (allP others (ownP objs roots)) ((ownR objs roots).map (move1 (· +(others.length:Int))))=true
 asked:askedP p (allP others (ownP objs roots)) ((ownR objs roots).map (move1 (· +(others.length:Int))))=true
 part:partP p (allP others (ownP objs roots)) ((ownR objs roots).map (move1 (· +(others.length:Int))))=partP p objs roots
 check:checkP p (allP others (ownP objs roots))=true
 len:(allP others (ownP objs roots)).length=others.length+(reachP objs roots).length
end Go.Proofs.YtpgnjlngepfanaaGreat

namespace Go.Proofs.YtpgnjlngepfanaaGreat
open Go.Eng
open Go.Eng.Fc
open Go.Eng.Bd
open Go.Eng.Im (U8 u8 u8s numberR manyR)
open Go.Eng.Im
open Go.Eng.Im (U8 u8 u8s numberR manyR splitR Sec pies sumR)
end Go.Proofs.YtpgnjlngepfanaaGreat

namespace Go.Eng.Bd
open Go.Eng.Fc
open Go.Eng.Im (U8 numberR manyR sumR splitR Sec sumP sumStep)
variable{α:Type}{i:Nat}
structure Raw where
 kind:U8
 body:List U8
 sum:List U8
def rawW(s:Raw):List U8:=([s.kind]++numW s.body.length)++(s.body++s.sum)
def Raw.sec(s:Raw):Sec:=⟨s.kind,s.body,!(s.sum==sumR s.kind s.body)⟩
structure Raw.Ok(s:Raw):Prop where
 bl:s.body.length<=100000000
 sl:s.sum.length=4
theorem raw_fwd{s:Raw}(h:s.Ok)(r:List U8):Im.secR (rawW s++r)=some (s.sec,r):=by
 have e:rawW s++r=s.kind::(numW s.body.length++(s.body++(s.sum++r))):=by rw[rawW];simp only[List.append_assoc];rfl
 rw[e];have hbl:=h.bl;have hm:manyR (numW s.body.length++(s.body++(s.sum++r)))=some (s.body.length,s.body++(s.sum++r)):=many_fwd Ya Yaf;have h4:4<=((s.body++(s.sum++r)).drop s.body.length).length:=by rw[List.drop_left,List.length_append,h.sl];omega
 rw[Im.secR_good hm h4,List.take_left,List.drop_left];have h5:(s.sum++r).take 4=s.sum:=by rw[show (4:Nat)=s.sum.length from h.sl.symm,List.take_left]
 have h6:(s.sum++r).drop 4=r:=by rw[show (4:Nat)=s.sum.length from h.sl.symm,List.drop_left]
 rw[h5,h6];rfl
theorem raw_pos(s:Raw):0<(rawW s).length:=by simp only[rawW,List.length_append,List.length_singleton];omega
theorem raws_fwd:∀(f:Nat) (L:List Raw),(∀s∈L,s.Ok)->(L.flatMap rawW).length<=f->Im.secsR f (L.flatMap rawW)=(L.map Raw.sec,true)
 | 0,[],_,_=>rfl
 | 0,s::r,h,hl=>by
  rw[List.flatMap_cons,List.length_append] at hl;have:=raw_pos s;omega
 | f+1,[],_,_=>rfl
 | f+1,s::r,h,hl=>by
  rw[List.flatMap_cons] at hl ⊢;have e:=raw_fwd (h s (.head _)) (r.flatMap rawW);rw[List.length_append] at hl;have hp:=raw_pos s;have ih:=raws_fwd f r (λx hx=>h x (.tail _ hx)) Ya;obtain⟨a,t,ht⟩:∃a t,rawW s++r.flatMap rawW=a::t:=⟨s.kind,_,rfl⟩;rw[ht] at e ⊢;unfold Im.secsR;rw[e];simp only;rw[ih];rfl
def spot1(n:Nat)(s:Raw):List Int:=List.replicate (1+(numW s.body.length).length) (-1)++List.replicate (s.body.length+4) (n:Int)
def spotsN:Nat->List Raw->List Int
 | _,[]=>[]
 | n,s::r=>spot1 n s++spotsN (n+1) r
def spotsP(L:List Raw):List Int:=[-1,-1]++spotsN 0 L
theorem spot1_len(n:Nat){s:Raw}(h:s.Ok):(spot1 n s).length=(rawW s).length:=by
 have:=h.sl;simp only[spot1,rawW,List.length_append,List.length_replicate,List.length_singleton];omega
theorem spotsN_len:∀(L:List Raw) (n:Nat),(∀s∈L,s.Ok)->(spotsN n L).length=(L.flatMap rawW).length
 | [],_,_=>rfl
 | s::r,n,h=>by rw[spotsN,List.flatMap_cons,List.length_append,List.length_append,spot1_len n (h s (.head _)),spotsN_len r (n+1) λx hx=>h x (.tail _ hx)]
theorem getD_app1{a b:List α}{d:α}(h:i<a.length):(a++b).getD i d=a.getD i d:=by
 rw[List.getD_eq_getElem?_getD,List.getElem?_append_left h, <-List.getD_eq_getElem?_getD]
theorem getD_app2{a b:List α}{d:α}(h:a.length<=i):(a++b).getD i d=b.getD (i - a.length) d:=by
 rw[List.getD_eq_getElem?_getD,List.getElem?_append_right h, <-List.getD_eq_getElem?_getD]
theorem set_app1{a b:List α}{v:α}(h:i<a.length):(a++b).set i v=a.set i v++b:=List.set_append_left i v h
theorem set_app2{a b:List α}{v:α}(h:a.length<=i):(a++b).set i v=a++b.set (i - a.length) v:=List.set_append_right i v h
theorem getD_rep{n:Nat}{x d:Int}(h:i<n):(List.replicate n x).getD i d=x:=by
 rw[List.getD_eq_getElem?_getD,List.getElem?_replicate,if_pos h];rfl
theorem spot_split:∀(L:List Raw) (n i:Nat),(∀s∈L,s.Ok)->0<=(spotsN n L).getD i (-1)->∃L1 s L2 j,L=L1++s::L2/\(spotsN n L).getD i (-1)=((n+L1.length:Nat):Int)/\j<s.body.length+4/\(∀v,(L.flatMap rawW).set i v=L1.flatMap rawW++((([s.kind]++numW s.body.length)++(s.body++s.sum).set j v)++L2.flatMap rawW))/\(L.flatMap rawW).getD i default=(s.body++s.sum).getD j default
 | [],n,i,_,h=>by simp[spotsN] at h
 | s::r,n,i,hok,h=>by
  have hs:=hok s (.head _);have hl1:=spot1_len n hs;have hsl:=hs.sl;rw[spotsN] at h ⊢;have hhd:([s.kind]++numW s.body.length).length=1+(numW s.body.length).length:=by rw[List.length_append,List.length_singleton]
  have hbs:(s.body++s.sum).length=s.body.length+4:=by rw[List.length_append,hsl]
  have hrl:(rawW s).length=1+(numW s.body.length).length+(s.body.length+4):=by rw[rawW,List.length_append,hhd,hbs]
  by_cases h1:i<(rawW s).length
  ·rw[getD_app1 Ya] at h ⊢;by_cases h2:i<1+(numW s.body.length).length
   ·rw[spot1,getD_app1 (by rw[List.length_replicate];exact h2),getD_rep h2] at h;omega
   ·refine⟨[],s,r,i - (1+(numW s.body.length).length),rfl,?_,Ya,λv=>?_,?_⟩
    ·rw[spot1,getD_app2 (by rw[List.length_replicate];omega),List.length_replicate,getD_rep Ya];simp
    ·rw[List.flatMap_cons,set_app1 h1,rawW,set_app2 (by rw[hhd];omega),hhd];rfl
    ·rw[List.flatMap_cons,getD_app1 h1,rawW,getD_app2 (by rw[hhd];omega),hhd]
  ·rw[getD_app2 Ya,hl1] at h ⊢;obtain⟨L1,s2,L2,j,e1,e2,e3,e4,e5⟩:=spot_split r (n+1) (i - (rawW s).length) (λx hx=>hok x (.tail _ hx)) h;refine⟨s::L1,s2,L2,j,by rw[e1];rfl,by rw[e2,List.length_cons];omega,e3,λv=>?_,?_⟩
   ·rw[List.flatMap_cons,set_app2 Ya,e4 v,List.flatMap_cons];simp only[List.append_assoc]
   ·rw[List.flatMap_cons,getD_app2 Ya,e5]
def sumV:List U8->Nat
 | []=>0
 | x::r=>x.val+sumV r
theorem sum_fst:∀(l:List U8) (p:Nat×Nat),(l.foldl sumStep p).1%65521=(p.1+sumV l)%65521
 | [],p=>by simp[sumV]
 | x::r,p=>by
  rw[List.foldl_cons,sum_fst r,sumV];show ((p.1+x.val)%65521+sumV r)%65521=_;omega
theorem sum_set:∀(l:List U8) (j:Nat) (v:U8),j<l.length->sumV (l.set j v)+(l.getD j default).val=sumV l+v.val
 | [],j,v,h=>by simp at h
 | x::r,0,v,h=>by simp only[List.set_cons_zero,sumV,List.getD_cons_zero];omega
 | x::r,j+1,v,h=>by
  have:=sum_set r j v Y5;simp only[List.set_cons_succ,sumV,List.getD_cons_succ];omega
theorem byteOf_inj{a b:Nat}(ha:a<65536)(hb:b<65536)(h1:Im.byteOf (a / 256)=Im.byteOf (b / 256))(h2:Im.byteOf a=Im.byteOf b):a=b:=by
 have h1:a / 256%256=b / 256%256:=congrArg Fin.val h1;have h2:a%256=b%256:=congrArg Fin.val h2;omega
theorem sumR_set{k:U8}{l:List U8}{j:Nat}{v:U8}(hj:j<l.length)(hv:v≠l.getD j default):sumR k (l.set j v)≠sumR k l:=by
 intro h;have h0:∀a b c d a' b' c' d':U8,[a,b,c,d]= [a',b',c',d']->c=c'/\d=d':=by
  intro a b c d a' b' c' d' e;simp only[List.cons.injEq,and_true] at e;exact⟨e.2.2.1,e.2.2.2⟩
 obtain⟨h1,h2⟩:=h0 _ _ _ _ _ _ _ _ h;have b1:=(Im.sumP_lt (k::l.set j v)).1;have b2:=(Im.sumP_lt (k::l)).1;have e:=byteOf_inj Ya Ya h1 h2;have f1:=sum_fst (k::l.set j v) (1,0);have f2:=sum_fst (k::l) (1,0);have e2:((k::l.set j v).foldl sumStep (1,0)).1=((k::l).foldl sumStep (1,0)).1:=e;rw[e2,f2] at f1;simp only[sumV] at f1;have hs:=sum_set l j v hj;have x1:=v.isLt;have x2:=(l.getD j default).isLt;have hne:v.val≠(l.getD j default).val:=λe=>hv (Fin.ext e);omega
def dmg(s:Raw)(j:Nat)(v:U8):Raw:=⟨s.kind,((s.body++s.sum).set j v).take s.body.length,((s.body++s.sum).set j v).drop s.body.length⟩
theorem dmg_body{s:Raw}(h:s.Ok)(j:Nat)(v:U8):(dmg s j v).body.length=s.body.length:=by
 show (((s.body++s.sum).set j v).take s.body.length).length=_;rw[List.length_take,List.length_set,List.length_append];omega
theorem dmg_ok{s:Raw}(h:s.Ok)(j:Nat)(v:U8):(dmg s j v).Ok:=by
 refine⟨by rw[dmg_body h];exact h.bl,?_⟩;show (((s.body++s.sum).set j v).drop s.body.length).length=4;rw[List.length_drop,List.length_set,List.length_append,h.sl];omega
theorem dmg_raw{s:Raw}(h:s.Ok)(j:Nat)(v:U8):([s.kind]++numW s.body.length)++(s.body++s.sum).set j v=rawW (dmg s j v):=by
 rw[rawW,dmg_body h];show _=([s.kind]++numW s.body.length)++(((s.body++s.sum).set j v).take s.body.length++((s.body++s.sum).set j v).drop s.body.length);rw[List.take_append_drop]
theorem dmg_sec{s:Raw}(h:s.Ok)(hs:s.sum=sumR s.kind s.body){j:Nat}(hj:j<s.body.length+4){v:U8}(hv:v≠(s.body++s.sum).getD j default):(dmg s j v).sec.damaged=true:=by
 show (!(((s.body++s.sum).set j v).drop s.body.length==sumR s.kind (((s.body++s.sum).set j v).take s.body.length)))=true;rw[Bool.not_eq_true',beq_eq_false_iff_ne];have hsl:=h.sl;by_cases hb:j<s.body.length
 ·rw[set_app1 hb];have hl:s.body.length=(s.body.set j v).length:=by rw[List.length_set]
  rw[hl,List.take_left,List.drop_left,hs];rw[getD_app1 hb] at hv;exact λe=>sumR_set (k:=s.kind) hb hv e.symm
 ·rw[set_app2 Ya,List.take_left,List.drop_left, <-hs];intro e;apply hv;rw[getD_app2 Ya, <-e,List.getD_eq_getElem?_getD,List.getElem?_set_self Ya];rfl
theorem filter_one{p:Nat->Bool}:∀(n k:Nat),k<n->(∀i,i<n->p i=decide (i=k))->(List.range n).filter p= [k]
 | 0,k,h,_=>by omega
 | n+1,k,h,hp=>by
  rw[List.range_succ,List.filter_append];by_cases e:k=n
  ·subst e;have h1:(List.range k).filter p= []:=List.filter_eq_nil_iff.2 λi hi=>by
    have:=List.mem_range.1 hi;rw[hp i Ya];simp;omega
   rw[h1];simp[hp k Ya]
  ·rw[filter_one n k Ya λi hi=>hp i Ya];have:p n=false:=by rw[hp n Ya];simp;omega
   simp[this]
theorem damaged{x:U8}{L:List Raw}(hx:x=79\/x=80)(hok:∀s∈L,s.Ok)(hs:∀s∈L,s.sum=sumR s.kind s.body){i:Nat}{n:Int}(hn:(spotsP L).getD i (-1)=n)(h0:0<=n){v:U8}(hv:v≠(67::x::L.flatMap rawW).getD i default):∃(k:Nat) (M:List Sec),n=k/\k<L.length/\M.length=L.length/\splitR ((67::x::L.flatMap rawW).set i v)=some (x,M)/\∀j,j<M.length->(M.getD j default).damaged=decide (j=k):=by
 have hi:2<=i:=by
  rcases i with _ | _ | i
  ·rw[<-hn] at h0;exact absurd h0 (by simp[spotsP])
  ·rw[<-hn] at h0;exact absurd h0 (by simp[spotsP])
  ·omega
 obtain⟨i,rfl⟩:∃m,i=m+2:=⟨i - 2,Ya⟩;have hn':(spotsN 0 L).getD i (-1)=n:=by rw[<-hn,spotsP];rfl
 obtain⟨L1,s,L2,j,e1,e2,e3,e4,e5⟩:=spot_split L 0 i hok (by rw[hn'];exact h0);have hsm:s∈L:=by rw[e1];simp
 have hs0:=hok s hsm;have hset:(67::x::L.flatMap rawW).set (i+2) v=67::x::(L1++dmg s j v::L2).flatMap rawW:=by
  show 67::x::(L.flatMap rawW).set i v=_;rw[e4 v,dmg_raw hs0,List.flatMap_append,List.flatMap_cons]
 have hv':v≠(s.body++s.sum).getD j default:=by rw[<-e5];exact hv
 have hok':∀y∈L1++dmg s j v::L2,y.Ok:=λy hy=>by
  rcases List.mem_append.1 hy with hy | hy
  ·exact hok y (by rw[e1];exact List.mem_append_left _ hy)
  ·rcases List.mem_cons.1 hy with rfl | hy
   ·exact dmg_ok hs0 j v
   ·exact hok y (by rw[e1];exact List.mem_append_right _ (.tail _ hy))
 have hsec:∀y∈L,y.sec.damaged=false:=λy hy=>by
  show (!(y.sum==sumR y.kind y.body))=false;rw[hs y hy];simp
 refine⟨L1.length,(L1++dmg s j v::L2).map Raw.sec,by rw[<-hn',e2];simp,by rw[e1];simp,by rw[e1];simp,?_,λt ht=>?_⟩
 ·rw[hset,splitR,Im.secsOf,raws_fwd _ _ hok' (Nat.le_refl _)];have:(67:U8).val=67/\(x.val=79\/x.val=80)/\true=true:=⟨rfl,by rcases hx with rfl | rfl;exact .inl rfl;exact .inr rfl,rfl⟩;exact if_pos this
 ·rw[List.length_map] at ht;rw[List.getD_eq_getElem?_getD,List.getElem?_map];by_cases h1:t=L1.length
  ·subst h1;rw[List.getElem?_append_right (Nat.le_refl _),Nat.sub_self];simp only[List.getElem?_cons_zero,Option.map_some,Option.getD_some,decide_true];exact dmg_sec hs0 (hs s hsm) e3 hv'
  ·rw[decide_eq_false h1];by_cases h2:t<L1.length
   ·rw[List.getElem?_append_left h2,List.getElem?_eq_getElem h2];exact hsec _ (by rw[e1];exact List.mem_append_left _ (List.getElem_mem _))
   ·rw[List.getElem?_append_right Ya];rw[List.length_append,List.length_cons] at ht;obtain⟨u,hu⟩:∃u,t - L1.length=u+1:=⟨t - L1.length - 1,Ya⟩;rw[hu,List.getElem?_cons_succ,List.getElem?_eq_getElem Ya];exact hsec _ (by rw[e1];exact List.mem_append_right _ (.tail _ (List.getElem_mem _)))
end Go.Eng.Bd

namespace Go.Proofs.YtpgnjlngepfanaaGreat
open Go.Eng
open Go.Eng.Fc
open Go.Eng.Bd
open Go.Eng.Im (U8 u8 u8s sumR splitR Sec)
open Go.Eng.Im (U8 u8 u8s sumR splitR Sec kindsP damP damA)
open Go.Eng.Im (U8 u8 u8s sumR splitR Sec kindsP)
variable{B b:List U8}{p n:Nat}
instance:Inhabited Raw:=⟨⟨default,[],[]⟩⟩
def posN(L:List Raw)(i:Nat):Nat:=2+((L.take i).flatMap rawW).length
theorem spotsP_len{L:List Raw}(h:∀s∈L,s.Ok)(i:Nat):(spotsP (L.take i)).length=posN L i:=by
 rw[spotsP,List.length_append,spotsN_len _ _ (λs hs=>h s (List.mem_of_mem_take hs)),posN];rfl
theorem pos_all(L:List Raw)(x:U8):posN L L.length=(67::x::L.flatMap rawW).length:=by rw[posN,List.take_length];simp;omega
structure NumIn(B:List U8)(p n j size q:Nat)(r:List U8):Prop where
 jl:j<=2
 ql:q<128^(3 - j)
 eq:n=size+q*128^j
 dr:B.drop (p+j)=numW q++r
 ln:(numW n).length=j+(numW q).length
theorem NumIn.begin{r:List U8}(hn:n<128^3)(h:B.drop p=numW n++r):NumIn B p n 0 0 n r:=⟨Ya,hn,Yr,h,Yr⟩
theorem NumIn.at_{p n j size q:Nat}{r:List U8}(h:NumIn B p n j size q r):p+j<B.length/\B.getD (p+j) default=if q<128 then Im.byteOf q else Im.byteOf (q%128+128):=by
 have hd:=h.dr;have hp:=numW_pos q;have hl:=congrArg List.length hd;rw[List.length_drop,List.length_append] at hl;refine⟨Ya,?_⟩;have e:B.getD (p+j) default=(B.drop (p+j)).getD 0 default:=by
  rw[List.getD_eq_getElem?_getD,List.getD_eq_getElem?_getD,List.getElem?_drop,Nat.add_zero]
 rw[e,hd];split
 ·rename_i hq;rw[numW_lt hq];rfl
 ·rename_i hq;rw[numW_ge hq];rfl
theorem NumIn.val{B:List U8}{p n j size q:Nat}{r:List U8}(h:NumIn B p n j size q r):((B.getD (p+j) default).val<128↔q<128)/\(B.getD (p+j) default).val%128=q%128:=by
 rw[h.at_.2];split
 ·rename_i hq;show (q%256<128↔q<128)/\q%256%128=q%128;omega
 ·rename_i hq;show ((q%128+128)%256<128↔q<128)/\(q%128+128)%256%128=q%128;omega
theorem NumIn.step{p n j size q:Nat}{r:List U8}(h:NumIn B p n j size q r)(hq: ¬q<128):NumIn B p n (j+1) (size+q%128*128^j) (q / 128) r:=by
 have hj:j<=1:=by
  have h1:=h.ql;have h2:=h.jl;rcases Nat.lt_or_ge j 2 with h3 | h3
  ·omega
  ·obtain rfl:j=2:=by omega
   exact absurd h1 Yw
 refine⟨Ya,?_,?_,?_,?_⟩
 ·have h1:=h.ql;have:(128:Nat)^(3 - j)=128^(3 - (j+1))*128:=by rw[<-Nat.pow_succ];congr 1;omega
  omega
 ·rw[h.eq,Nat.add_assoc];congr 1;rw[Nat.pow_succ,show q / 128*(128^j*128)=(q / 128*128)*128^j by rw[Nat.mul_assoc,Nat.mul_comm 128]];rw[<-Nat.add_mul];congr 1;omega
 ·have hd:=h.dr;rw[numW_ge hq] at hd;rw[<-Nat.add_assoc, <-List.drop_drop,hd];rfl
 ·rw[h.ln,numW_ge hq,List.length_cons];omega
structure Dam(b:List U8)(x:U8)(L:List Raw):Prop where
 eq:b=67::x::L.flatMap rawW
 x:x=79\/x=80
 ok:∀s∈L,s.Ok
 sm:∀s∈L,s.sum=sumR s.kind s.body
 bl:∀s∈L,s.body.length<128^3
 len:b.length<=100000
theorem Dam.spots{x:U8}{L:List Raw}(h:Dam b x L):(spotsP L).length=b.length:=by
 have:=spotsP_len h.ok L.length;rw[List.take_length] at this;rw[this,pos_all L x,h.eq]
theorem getD_any{l:List Int}{i:Nat}(h:i<l.length)(d e:Int):l.getD i d=l.getD i e:=by
 rw[List.getD_eq_getElem?_getD,List.getD_eq_getElem?_getD,List.getElem?_eq_getElem h];rfl
theorem Dam.law{x:U8}{L:List Raw}(h:Dam b x L){i:Nat}(hi:i<b.length){n:Int}(hn:(spotsP L).getD i default=n)(h0:0<=n){v:U8}(hv:v≠b.getD i default):∃M:List Sec,M.length=L.length/\sectA (b.set i v)= .tup [.sl 1 (kindsP M),.sl 1 ([n].map λn=>[AV.i n]),.i 0]/\re (b.set i v)=4:=by
 have hs:=h.spots;rw[getD_any Ya default (-1)] at hn;have hv2:v≠(67::x::L.flatMap rawW).getD i default:=by rw[<-h.eq];exact hv
 obtain⟨k,M,e1,e2,e3,e4,e5⟩:=damaged h.x h.ok h.sm hn h0 hv2;rw[<-h.eq] at e4;refine⟨M,e3,?_,?_⟩
 ·rw[sectA,e4];have:damP M M.length= [n]:=by
   rw[damP,filter_one M.length k Ya e5,e1];rfl
  simp only[damA,this]
 ·have hb:bodiesR (b.set i v) 79 [1,2]=none:=bodies_no3 e4 (i:=k) Ya (by rw[kindOk,e5 k Ya];simp);rw[re,readR,hb]
theorem eqInts(a:List Int):PCall Tryz.prog 44 [AV.ints a,AV.ints a] (.b true):=by
 intro H;refine aC (n:=26) Tryz.func44 λB I w0=>?_;refine CW.boundM (t:=0) rfl (λhb0=>?_);refine Z15 ?_;refine CW.cond rfl (λh0=>?_) (λh0=>?_)
 ·exact absurd h0 Yr
 ·refine Z11 ?_;refine lj (λm st=>∃i:Nat,st=⟨[(13,.i i),(12,.i a.length),(0,AV.ints a),(1,AV.ints a)],H⟩/\m=a.length - i/\i<=a.length) (⟨0,rfl,rfl,Ya⟩) ?_;rintro m _ ⟨i,rfl,rfl,hi⟩;refine Z6 ?_;refine cd (λh1=>?_) λh1=>?_
  ·have hil:i<a.length:=by omega
   refine Z11 ?_;refine CW.dp mixed ?_;refine DP.anyC 0 8 26 rfl Ye rfl rfl Ye ?_;refine Z13 ?_;refine CW.cond rfl (λh2=>?_) (λh2=>?_)
   ·exact absurd h2 Yr
   ·refine Z7 ?_;exact ag (⟨i+1,rfl,rfl,hil⟩)
  ·refine Z11 ?_;refine r1 4 (H) ?_;exact⟨YaI,rfl⟩
end Go.Proofs.YtpgnjlngepfanaaGreat
