/- Part 15 of the proof: contracts of functions of the program and what they need. No condition beyond those that each theorem names. -/
import Derived.Test.YtpgnjlngepfanaaGreatImageNumbersP14
set_option maxHeartbeats 1000000
set_option linter.unusedVariables false
set_option linter.unusedSimpArgs false
set_option maxRecDepth 10000
namespace Go.Proofs.YtpgnjlngepfanaaGreat
open Go.Eng
open Go.Eng.Fc
open Go.Eng.Bd
open Go.Eng.Im (U8 u8 u8s)
variable{l roots:List (Int×Int)}{i m b2 n k:Nat}{x:Int×Int}{more:List AV}{H:List Ent}{v:Value}{ord:List Int}{els:List (List AV)}{objs:List Th}{p:Prog}{u:Nat->Option Addr×Nat}{a:Option Addr×Nat}
def insP(l:List Int)(i:Nat)(x:Int):List Int:=l.take i++x::l.drop i
theorem insP_len{l:List Int}{x:Int}(hi:i<=l.length):(insP l i x).length=l.length+1:=by simp[insP];omega
theorem insP_end{l:List Int}{x:Int}(hi:i=l.length):insP l i x=l++[x]:=by subst hi;simp[insP]
theorem ins_room{α:Type}{L M:List α}{x:α}(hi:i<L.length)(hM:1<=M.length):
  let C:=L++M;let C1:=C.take (i+1)++(C.drop i).take (L.length - i)++C.drop (i+1+(L.length - i));C1.take i++[x]++C1.drop (i+1)=(L.take i++x::L.drop i)++M.drop 1:=by
 intro C C1;have h1:C1.take i=L.take i:=by
  show ((C.take (i+1)++_)++_).take i=_;rw[List.append_assoc,List.take_append_of_le_length (by simp[C];omega),List.take_take,show min i (i+1)=i by omega];exact List.take_append_of_le_length Ya
 have h2:C1.drop (i+1)=L.drop i++M.drop 1:=by
  show ((C.take (i+1)++_)++_).drop (i+1)=_;rw[List.append_assoc,List.drop_left' (by simp[C];omega)];congr 1
  ·show ((L++M).drop i).take _=_;rw[List.drop_append_of_le_length Ya,List.take_left' Yr]
  ·show (L++M).drop _=_;rw[show i+1+(L.length - i)=L.length+1 by omega, <-List.drop_drop,List.drop_left]
 rw[h1,h2];simp
theorem ins_grow{α:Type}{L M N:List α}{x:α}(hi:i<L.length)(hN:L.length+1<=i+N.length):
  let C:=(L++M).take i++N;let C1:=C.take i++[x]++C.drop (i+1);C1.take (i+1)++((L++M).drop i).take (L.length - i)++C1.drop (i+1+(L.length - i))=(L.take i++x::L.drop i)++N.drop (L.length+1 - i):=by
 intro C C1;have h0:(L++M).take i=L.take i:=List.take_append_of_le_length Ya;have hl:(L.take i).length=i:=by rw[List.length_take];omega
 have h1:C.take i=L.take i:=by show ((L++M).take i++N).take i=_;rw[h0,List.take_left' hl]
 have h2:C.drop (i+1)=N.drop 1:=by show ((L++M).take i++N).drop _=_;rw[h0, <-List.drop_drop,List.drop_left' hl]
 have h3:C1=(L.take i++[x])++N.drop 1:=by show C.take i++[x]++C.drop (i+1)=_;rw[h1,h2]
 have h4:(L.take i++[x]).length=i+1:=by simp[hl]
 rw[h3,List.take_left' h4, <-List.drop_drop,List.drop_left' h4,List.drop_drop,List.drop_append_of_le_length Ya,List.take_left' Yr,show 1+(L.length - i)=L.length+1 - i by omega];simp
theorem one_part{l:List Int}{i m q:Nat}(h:i+m<=l.length)(hq:m<=q):allOne ((((l.map AV.i++more).drop i).take (q*1)).take (m*1))=true:=by
 rw[List.take_take,show min (m*1) (q*1)=m by omega,List.drop_append_of_le_length Yw,List.take_append_of_le_length Yw];refine List.all_eq_true.2 λx hx=>?_;obtain⟨n,_,rfl⟩:=List.mem_map.1 (List.mem_of_mem_drop (List.mem_of_mem_take hx));rfl
theorem grow_eq{l:List Int}{i b b' b2:Nat}{x:Int}{more more':List AV}(h1:i<l.length)(hN:l.length+1<=i+more'.length):
  Ent.blk b' 3 ((((l.map AV.i++more).take (i*1)++more').take i++(([AV.i x].drop 0).take (1*1)).take (1*1)++((l.map AV.i++more).take (i*1)++more').drop (i+1*1)).take (i+1)++(((l.map AV.i++more).drop i).take ((l.length - i)*1)).take ((l.length - i)*1)++(((l.map AV.i++more).take (i*1)++more').take i++(([AV.i x].drop 0).take (1*1)).take (1*1)++((l.map AV.i++more).take (i*1)++more').drop (i+1*1)).drop (i+1+(l.length - i)*1))::.blk b 3 (l.map AV.i++more)::.blk b2 3 [.i x]::H
   = .blk b' 3 ((insP l i x).map AV.i++more'.drop (l.length+1 - i))::.blk b 3 (l.map AV.i++more)::.blk b2 3 [.i x]::H:=by
 have:=ins_grow (L:=l.map AV.i) (M:=more) (N:=more') (i:=i) (x:=AV.i x) Yaw (by simpa using hN);simp only[List.length_map] at this;congr 2;simp only[Nat.mul_one,List.drop_zero,List.take_take,Nat.min_self];rw[show [AV.i x].take 1= [AV.i x] from rfl,this,insP,List.map_append,List.map_cons,List.map_take,List.map_drop]
theorem room_eq{l:List Int}{i b b2:Nat}{x:Int}(h1:i<l.length)(hM:1<=more.length):
  Ent.blk b 3 (((l.map AV.i++more).take (i+1)++(((l.map AV.i++more).drop i).take ((l.length+1 - i)*1)).take ((l.length - i)*1)++(l.map AV.i++more).drop (i+1+(l.length - i)*1)).take i++(([AV.i x].drop 0).take (1*1)).take (1*1)++((l.map AV.i++more).take (i+1)++(((l.map AV.i++more).drop i).take ((l.length+1 - i)*1)).take ((l.length - i)*1)++(l.map AV.i++more).drop (i+1+(l.length - i)*1)).drop (i+1*1))::.blk b2 3 [.i x]::H
   = .blk b 3 ((insP l i x).map AV.i++more.drop 1)::.blk b2 3 [.i x]::H:=by
 have:=ins_room (L:=l.map AV.i) (M:=more) (i:=i) (x:=AV.i x) Yaw hM;simp only[List.length_map] at this;congr 2;simp only[Nat.mul_one,List.drop_zero,List.take_take,Nat.min_self,show min (l.length - i) (l.length+1 - i)=l.length - i by omega];rw[show [AV.i x].take 1= [AV.i x] from rfl,this,insP,List.map_append,List.map_cons,List.map_take,List.map_drop]
theorem insertC{l:List Int}{x:Int}(hi:i<=l.length)(hl:l.length<=1000)(hne:l≠ [])(H:List Ent):ACall Tryz.prog 52 [.val v,.i i,.val (.slice (some ⟨b2,0,none⟩) 1 1)] (.row 3 1 v l.length (l.map AV.i)::.blk b2 3 [.i x]::H) (λy H'=>∃v',y= .val v'/\H'= .row 3 1 v' (insP l i x).length ((insP l i x).map AV.i)::H) (λ_ _=>False):=by
 have hn0:l.length≠0:=λe=>hne (List.eq_nil_of_length_eq_zero e);refine aC (n:=95) Tryz.func52 λB I w0=>?_;refine CW.rowBlk hn0 (λb cap more=>.head _ _ _) (λb cap more e1 e2 e3 e4 e5=>?_);subst e1;have e6:l.length+more.length=cap:=by simpa using e4
 refine Z9 ?_;refine oP (POp.slAny rfl rfl rfl rfl rfl hi e2) ?_;refine Z16 ?_;refine CW.cond rfl (λh0=>?_) (λh0=>?_)
 ·simp at h0
 ·refine Z17 ?_;refine CW.cond rfl (λh1=>?_) (λh1=>?_)
  ·have h1:i=l.length:=by simp at h1;omega
   refine Z1 ?_;refine CW.blkRow e2 e3 e4 e5 (.head _ _ _) ?_;refine CW.freezeS (d:=2) (k:=1) (els:=[[.i x]]) (more:=[]) rfl (by exact .tail _ _ _ _ (.head _ _)) rfl (by intro e he;simp at he;subst he;rfl) YO (by simp[maxLen]) ?_;refine Z3 ?_;refine OL.appendRow (news:=[[.i x]]) rfl rfl rfl rfl rfl rfl rfl rfl (AVle.refl _) Yr rfl (λv=>.head _ _ _) Yw Yw (λv7=>?_);refine Z5 ?_;refine Done.retR (rs:=[.tmp 6]) (H':=_) rfl (.tmp rfl (.nil)) (AVleL.refl _) YT ?_;exact⟨v7,rfl,by rw[insP_end h1];simp⟩
  ·have h1:i<l.length:=by simp at h1;omega
   refine Z9 ?_;refine oP (POp.capC rfl rfl rfl) ?_;refine Z3 ?_;refine CW.cond rfl (λh2=>?_) (λh2=>?_)
   ·have h2:cap<l.length+1:=by simp at h2;omega
    refine Z4 ?_;refine oP ((POp.slC (lo:=none) (l:=0) (m:=i) (kl:=.i64) (gl:=true) rfl rfl rfl rfl rfl rfl rfl Ya Ya Ya).eq (y:=.val (.slice (some ⟨b,0,none⟩) i cap)) Yr) ?_;refine Z4 ?_;refine oP ((POp.arith rfl rfl rfl rfl rfl rfl (wrap64 Ya)).eq (y:=.i ((l.length+1 - i:Nat):Int)) (by congr 2;omega)) ?_;refine OL.appendZ (n0:=i) (m:=l.length+1 - i) (c0:=cap) (tb:=3) (cs:=l.map AV.i++more) rfl rfl rfl rfl Tryz.underlying3 rfl rfl rfl rfl (.head _) Yw Ya Ya Ya Ya (λb' cap' more' q1 q2 q3=>?_);have q4:i+more'.length=cap':=by
     simp at q3;have:min i (l.length+more.length)=i:=by omega
     omega
    have q5:(((l.map AV.i++more).take (i*1))++more').length=cap':=by simpa using q3
    refine Z7 ?_;refine oP ((POp.slC (lo:=some (.tmp 42)) (hi:=none) (kh:=.i64) (gh:=true) (l:=i) (m:=i+(l.length+1 - i)) rfl rfl rfl rfl rfl rfl rfl Ya Ya Ya).eq (y:=.val (.slice (some ⟨b',i,none⟩) (l.length+1 - i) (cap' - i))) (by simp only[Nat.mul_one,Nat.zero_add,Nat.add_sub_cancel_left])) ?_;refine Z1 ?_;refine OL.copyC (k:=1) (b:=b') (o1:=i) (n2:=1) (tb:=3) 1 rfl rfl rfl rfl rfl rfl (SlReads.blk YaL rfl rfl (.tail _ (.tail _ (.head _))) Yr) rfl Ya (by rw[q5];omega) (.head _ _ _) ?_;refine Z3 ?_;refine CW.dp mixed ?_;refine DP.anyC 0 8 95 rfl Ye rfl rfl Ye ?_;refine Z4 ?_;refine AD.popC rfl rfl rfl ((POp.slC (lo:=some (.tmp 49)) (hi:=none) (kh:=.i64) (gh:=true) (l:=i+1) (m:=i+(l.length+1 - i)) rfl rfl rfl rfl rfl rfl rfl Ya Ya Ya).eq (y:=.val (.slice (some ⟨b',i+1,none⟩) (l.length - i) (cap' - (i+1)))) (by rw[show i+(l.length+1 - i) - (i+1)=l.length - i by omega];simp only[Nat.mul_one,Nat.zero_add])) ?_;refine Z2 ?_;refine AD.popC rfl rfl rfl ((POp.slC (lo:=some (.tmp 52)) (hi:=none) (kh:=.i64) (gh:=true) (l:=i) (m:=l.length) rfl rfl rfl rfl rfl rfl rfl Ya Ya Ya).eq (y:=.val (.slice (some ⟨b,i,none⟩) (l.length - i) (cap - i))) (by simp only[Nat.mul_one,Nat.zero_add])) ?_;refine Z2 ?_;refine OL.copyT (k:=1) (b:=b') (o1:=i+1) (n2:=l.length - i) (tb:=3) (l.length - i) rfl rfl rfl rfl rfl rfl (SlReads.blk YaL rfl rfl (.tail _ (.head _)) Yw) (one_part Ya Ya) Ya Yw (.head _ _ _) ?_;refine Z3 ?_;refine CW.eqH (H':=.blk b' 3 ((insP l i x).map AV.i++more'.drop (l.length+1 - i))::.blk b 3 (l.map AV.i++more)::.blk b2 3 [.i x]::H) (grow_eq (more':=more') h1 Ya) ?_;refine CW.blkRow (k:=1) (n:=(insP l i x).length) (by rw[insP_len hi];omega) q2 (by simp[insP_len hi];omega) Yr (.head _ _ _) ?_;refine Z7 ?_;refine Done.retR (rs:=[.tmp 6]) (H':=(.row 3 1 (.slice (some ⟨b',0,none⟩) (insP l i x).length cap') (insP l i x).length ((insP l i x).map AV.i)::H)) rfl (.tmp rfl (.nil)) (AVleL.refl _) YT ?_;exact⟨_,(by rw[insP_len hi];exact congrArg (λn=>AV.val (.slice (some ⟨b',0,none⟩) n cap')) Ya),rfl⟩
   ·have h2:l.length+1<=cap:=by simp at h2;omega
    refine Z8 ?_;refine oP ((POp.slC (lo:=none) (hi:=some (.tmp 59)) (l:=0) (m:=l.length+1) (kl:=.i64) (gl:=true) rfl rfl rfl rfl rfl rfl rfl Ya Ya Ya).eq (y:=.val (.slice (some ⟨b,0,none⟩) (l.length+1) cap)) Yr) ?_;refine Z5 ?_;refine CW.ne (b1:=b) (b2:=b2) (.head _ _) (.head _) (λhbb=>?_);refine Z6 ?_;refine oP ((POp.slC (lo:=some (.tmp 65)) (hi:=none) (kh:=.i64) (gh:=true) (l:=i+1) (m:=l.length+1) rfl rfl rfl rfl rfl rfl rfl Ya Ya Ya).eq (y:=.val (.slice (some ⟨b,i+1,none⟩) (l.length - i) (cap - (i+1)))) Yas) ?_;refine oP (POp.apart (t:=23) (tR:=4) rfl Tryz.func111 Yf rfl Yf Yf rfl rfl rfl rfl (.tail _ (.head _)) (.head _) (Ne.symm hbb) (by simp[hne])) ?_;refine Z3 ?_;refine CW.cond rfl (λh3=>?_) (λh3=>?_)
    ·refine Z1 ?_;refine CW.dp mixed ?_;refine DP.anyC 0 8 95 rfl Ye rfl rfl Ye ?_;refine Z4 ?_;refine AD.popC rfl rfl rfl ((POp.slC (lo:=some (.tmp 72)) (hi:=none) (kh:=.i64) (gh:=true) (l:=i+1) (m:=l.length+1) rfl rfl rfl rfl rfl rfl rfl Ya Ya Ya).eq (y:=.val (.slice (some ⟨b,i+1,none⟩) (l.length - i) (cap - (i+1)))) Yas) ?_;refine Z2 ?_;refine AD.popC rfl rfl rfl ((POp.slC (lo:=some (.tmp 75)) (hi:=none) (kh:=.i64) (gh:=true) (l:=i) (m:=l.length+1) rfl rfl rfl rfl rfl rfl rfl Ya Ya Ya).eq (y:=.val (.slice (some ⟨b,i,none⟩) (l.length+1 - i) (cap - i))) Yas) ?_;refine Z2 ?_;refine OL.copyT (k:=1) (b:=b) (o1:=i+1) (n2:=l.length+1 - i) (tb:=3) (l.length - i) rfl rfl rfl rfl rfl rfl (SlReads.blk YaL rfl rfl (.head _) Yw) (one_part Ya Ya) Ya Yw (.head _ _ _) ?_;refine Z6 ?_;refine oP ((POp.slC (lo:=some (.tmp 79)) (hi:=none) (kh:=.i64) (gh:=true) (l:=i) (m:=l.length+1) rfl rfl rfl rfl rfl rfl rfl Ya Ya Ya).eq (y:=.val (.slice (some ⟨b,i,none⟩) (l.length+1 - i) (cap - i))) Yas) ?_;refine Z1 ?_;refine OL.copyC (k:=1) (b:=b) (o1:=i) (n2:=1) (tb:=3) 1 rfl rfl rfl rfl rfl rfl (SlReads.blk YaL rfl rfl (.tail _ (.head _)) Yr) rfl Ya Yw (.head _ _ _) ?_;refine Z3 ?_;refine CW.eqH (H':=.blk b 3 ((insP l i x).map AV.i++more.drop 1)::.blk b2 3 [.i x]::H) (room_eq (more:=more) h1 Ya) ?_;refine CW.blkRow (k:=1) (n:=(insP l i x).length) (by rw[insP_len hi];omega) e3 (by simp[insP_len hi];omega) Yr (.head _ _ _) ?_;refine Z7 ?_;refine Done.retR (rs:=[.tmp 6]) (H':=(.row 3 1 (.slice (some ⟨b,0,none⟩) (insP l i x).length cap) (insP l i x).length ((insP l i x).map AV.i)::H)) rfl (.tmp rfl (.nil)) (AVleL.refl _) YT ?_;exact⟨_,(by rw[insP_len hi];rfl),rfl⟩
    ·exact absurd h3 Yr
theorem insert0{l:List Int}{x:Int}(hi:i<=l.length)(hl:l.length<=1000)(hv:v= .slice none 0 0)(hne:l= [])(H:List Ent):ACall Tryz.prog 52 [.val v,.i i,.val (.slice (some ⟨b2,0,none⟩) 1 1)] (.row 3 1 v l.length (l.map AV.i)::.blk b2 3 [.i x]::H) (λy H'=>∃v',y= .val v'/\H'= .row 3 1 v' (insP l i x).length ((insP l i x).map AV.i)::H) (λ_ _=>False):=by
 subst hv hne;obtain rfl:i=0:=by simpa using hi
 refine aC (n:=95) Tryz.func52 λB I w0=>?_;refine Z9 ?_;refine oP (POp.slNil rfl rfl rfl rfl rfl) ?_;refine Z16 ?_;refine CW.cond rfl (λh0=>?_) (λh0=>?_)
 ·simp at h0
 ·refine Z17 ?_;refine CW.cond rfl (λh1=>?_) (λh1=>?_)
  ·refine Z1 ?_;refine CW.freezeS (d:=2) (k:=1) (els:=[[.i x]]) (more:=[]) rfl (by exact .tail _ _ _ _ (.head _ _)) rfl (by intro e he;simp at he;subst he;rfl) YO (by simp[maxLen]) ?_;refine Z3 ?_;refine OL.appendRow (news:=[[.i x]]) rfl rfl rfl rfl rfl rfl rfl rfl (AVle.refl _) Yr rfl (λv=>.head _ _ _) Yr Yr (λv7=>?_);refine Z5 ?_;refine Done.retR (rs:=[.tmp 6]) (H':=_) rfl (.tmp rfl (.nil)) (AVleL.refl _) Ybn ?_;exact⟨v7,rfl,rfl⟩
  ·simp at h1
def ordF(ord:List Int)(n:Int):Int:=ord.getD n.toNat default
theorem moveN(hl:∀v∈l,v.1=3->0<=v.2/\v.2<ord.length)(hll:l.length<=1000000):PCall Tryz.prog 113 [AV.mvs l,.ptr [AV.ints ord]] (AV.mvs (l.map (move1 (ordF ord)))):=by
 intro H;refine aC (n:=28) Tryz.func113 λB I w0=>?_;refine Z12 ?_;refine CW.ownNil 4 60 2 rfl ?_;refine Z7 ?_;refine lj (λm st=>∃(i:Nat) (v:Value),st=⟨[(4,.as (AV.mvs ((l.take i).map (move1 (ordF ord)))) v),(9,.i i),(8,.i l.length),(7,AV.mvs l),(1,.ptr [AV.ints ord])],.own 60 2 v::H⟩/\m=l.length - i/\i<=l.length) (⟨0,_,rfl,rfl,Ya⟩) ?_;rintro m _ ⟨i,v,rfl,rfl,hi⟩;refine Z6 ?_;refine cd (λh0=>?_) λh0=>?_
 ·have hil:i<l.length:=by omega
  obtain⟨X,hX⟩:∃X,X=l.getD i default:=⟨_,rfl⟩;have hXl:=hl X (hX▸getD_memB hil);have hmt:=map_take1 (move1 (ordF ord)) hil;rw[<-hX] at hmt;refine Z8 ?_;refine OL.alC rfl rfl rfl rfl (λb6=>?_);refine Z3 ?_;refine CW.cutJ (λst=>st=⟨[(6,.p b6 0),(4,.as (AV.mvs ((l.take i).map (move1 (ordF ord)))) v),(9,.i i),(8,.i l.length),(7,AV.mvs l),(1,.ptr [AV.ints ord])],.blk b6 60 (initA (move1 (ordF ord) X))::.own 60 2 v::H⟩) ?_ ?_
  ·refine Z1 ?_;rw[<-hX];refine Z6 ?_;refine cd (λh1=>?_) λh1=>?_
   ·obtain⟨x1,x2⟩:=X;simp only at h1;subst h1;obtain⟨hx0,hx1⟩:=hXl rfl;obtain⟨n,rfl⟩:∃n:Nat,x2=n:=⟨x2.toNat,Ya⟩;have hn:n<ord.length:=by omega
    have he:move1 (ordF ord) (3,(n:Int))=(3,ord.getD n default):=by rw[move1,if_pos rfl];rfl
    refine Z9 ?_;rw[he];exact cj rfl
   ·have he:move1 (ordF ord) X=X:=by rw[move1,if_neg h1]
    refine Z1 ?_;rw[he];exact cj rfl
  ·rintro _ rfl;refine Z3 ?_;refine OL.popC (x:=.sl 2 [initA (move1 (ordF ord) X)]) rfl rfl rfl (POp.row rfl rfl Yh rfl rfl rfl rfl rfl rfl) ?_;refine OL.appendC rfl rfl rfl rfl rfl rfl rfl rfl (AVle.refl _) (rfl) (λv=>by repeat (first | exact Upd.head _ _ _ | apply Upd.tail)) Yw Yw (λv25=>?_);refine Z8 ?_;exact ag (⟨i+1,v25,by rw[hmt,mvs_snoc],rfl,hil⟩)
 ·obtain rfl:i=l.length:=by omega
  rw[List.take_length];refine Z12 ?_;refine Done.retR (rs:=[.tmp 3]) (H':=H) rfl (.tmp rfl (.nil)) (.cons (AVle.asL _ _) .nil) Yc ?_;exact⟨YaI,rfl⟩
theorem values_in(h:l.all (valueP n)=true)(ho:ord.length=n):∀v∈l,v.1=3->0<=v.2/\v.2<ord.length:=λv hv h3=>by
 have:=List.all_eq_true.1 h v hv;unfold valueP at this;simp[h3] at this;omega
theorem flat_set{k:Nat}:∀{els:List (List AV)} {i:Nat} {x:List AV},(∀e∈els,e.length=k)->i<els.length->els.flatten.take (i*k)++x++els.flatten.drop (i*k+k)=(els.set i x).flatten
 | e::r,0,x,h,_=>by
  have:=h e (.head _);simp[List.drop_left' this]
 | e::r,i+1,x,h,hi=>by
  have h1:=h e (.head _);have h2:=flat_set (els:=r) (i:=i) (x:=x) (λy hy=>h y (.tail _ hy)) (by simpa using hi);rw[List.set_cons_succ,List.flatten_cons,List.flatten_cons, <-h2,show (i+1)*k=e.length+i*k by rw[Nat.add_mul,h1];omega,List.take_length_add_append,Nat.add_assoc,List.drop_length_add_append];simp
theorem lay_eq{x:List AV}(h:∀e∈els,e.length=2)(hi:i<els.length):els.flatten.take (0+i*2)++x++els.flatten.drop (0+i*2+2)=(els.set i x).flatten:=by rw[Nat.zero_add];exact flat_set h hi
theorem flat_len(h:∀e∈els,e.length=k):els.flatten.length=els.length*k:=flatten_len h
structure PermI(ord:List Int)(n:Nat):Prop where
 perm:ord.Perm ((List.range n).map λ(i:Nat)=>(i:Int))
theorem PermI.len(h:PermI ord n):ord.length=n:=by simpa using h.perm.length_eq
theorem PermI.nodup(h:PermI ord n):ord.Nodup:=h.perm.nodup_iff.2 (by
 rw[List.Nodup,List.pairwise_map];exact (List.nodup_range (n:=n)).imp λh e=>h Ya)
theorem PermI.mem(h:PermI ord n)(x:Int):x∈ord↔0<=x/\x<n:=by
 rw[h.perm.mem_iff,List.mem_map];exact⟨λ⟨i,hi,e⟩=>by rw[List.mem_range] at hi;omega,λhx=>⟨x.toNat,by rw[List.mem_range];omega,Ya⟩⟩
theorem PermI.at_(h:PermI ord n){i:Nat}(hi:i<n):0<=ord.getD i default/\ord.getD i default<n:=(h.mem _).1 (getD_memB (by rw[h.len];exact hi))
theorem PermI.zero:PermI [] 0:=⟨.refl _⟩
theorem PermI.ins(h:PermI ord n):PermI (insP ord i n) (n+1):=⟨by
 refine List.perm_middle.trans ?_;rw[List.take_append_drop,List.range_succ,List.map_append];exact (List.Perm.cons _ h.perm).trans (List.perm_append_singleton _ _).symm⟩
theorem PermI.inj(h:PermI ord n){i j:Nat}(hi:i<n)(hj:j<n)(e:ord.getD i default=ord.getD j default):i=j:=by
 have h1:=h.len;rw[List.getD_eq_getElem?_getD,List.getD_eq_getElem?_getD,List.getElem?_eq_getElem Ya,List.getElem?_eq_getElem Ya] at e;exact (List.getElem_inj h.nodup).1 e
theorem PermI.onto(h:PermI ord n){i:Nat}(hi:i<n):∃j:Nat,j<n/\ord.getD j default=i:=by
 obtain⟨j,hj,e⟩:=List.mem_iff_getElem.1 ((h.mem i).2 Ya);exact⟨j,by rw[<-h.len];exact hj,by rw[List.getD_eq_getElem?_getD,List.getElem?_eq_getElem hj];exact e⟩
def renumP(objs:List Th)(ord:List Int):List Th:=(List.range objs.length).map λ(i:Nat)=>mapT (ordF ord) (thOf objs (idxB ord i))
theorem idx_at(h:PermI ord n){j:Nat}(hj:j<n):idxB ord (ord.getD j default)=j:=by
 have hl:=h.len;have hf:ord.findIdx? (λx=>x==ord.getD j default)=some j:=by
  rw[List.findIdx?_eq_some_iff_getElem];refine⟨Ya,by rw[List.getD_eq_getElem?_getD,List.getElem?_eq_getElem Ya];simp,λq hq=>?_⟩;have:q<ord.length:=by omega
  intro e;have e:=eq_of_beq e;have:=h.inj (i:=q) (j:=j) Ya hj (by rw[<-e,List.getD_eq_getElem?_getD,List.getElem?_eq_getElem this];rfl);omega
 rw[idxB,hf]
structure Laid(objs:List Th)(ord:List Int)(i:Nat)(els:List (List AV)):Prop where
 len:els.length=objs.length
 two:∀e∈els,e.length=2
 done:∀j,j<i->els[(ord.getD j default).toNat]? =some (thA (mapT (ordF ord) (objs.getD j default)))
theorem Laid.zero(objs:List Th)(ord:List Int):Laid objs ord 0 (List.replicate objs.length [.i 0,AV.mvs []]):=⟨Yr,λe he=>by rw[(List.mem_replicate.1 he).2];rfl,λj hj=>by omega⟩
theorem Laid.step(h:Laid objs ord i els)(hp:PermI ord objs.length)(hi:i<objs.length):Laid objs ord (i+1) (els.set (ord.getD i default).toNat (thA (mapT (ordF ord) (objs.getD i default)))):=by
 refine⟨by rw[List.length_set];exact h.len,λe he=>?_,λj hj=>?_⟩
 ·rcases List.mem_or_eq_of_mem_set he with he | he
  ·exact h.two e he
  ·rw[he];rfl
 ·rw[List.getElem?_set];have h1:=hp.at_ hi;have h2:=hp.at_ (i:=j) Ya;by_cases e:j=i
  ·subst e;rw[if_pos rfl,if_pos (by rw[h.len];omega)]
  ·rw[if_neg (λe2=>e (hp.inj Ya hi Ya))];exact h.done j Ya
theorem Laid.all(h:Laid objs ord objs.length els)(hp:PermI ord objs.length):els=(renumP objs ord).map thA:=by
 refine List.ext_getElem? λi=>?_;by_cases hi:i<objs.length
 ·obtain⟨j,hj,e⟩:=hp.onto hi;have h1:=h.done j hj;rw[e,Int.toNat_natCast] at h1;rw[h1,renumP,List.getElem?_map,List.getElem?_map,List.getElem?_range hi];show _=some (thA (mapT (ordF ord) (thOf objs (idxB ord i))));rw[<-e,idx_at hp hj,thOf,Int.toNat_natCast]
 ·rw[List.getElem?_eq_none (by rw[h.len];omega),List.getElem?_eq_none (by simp[renumP];omega)]
theorem renumC(hp:PermI ord objs.length)(hvs:∀t∈objs,t.slots.all (valueP objs.length)=true)(hr:roots.all (valueP objs.length)=true)(hn:objs.length<=1000)(hs:∀t∈objs,t.slots.length<=1000)(hrl:roots.length<=1000):PCall Tryz.prog 53 [AV.ths objs,AV.mvs roots,AV.ints ord] (.tup [AV.ths (renumP objs ord),AV.mvs (roots.map (move1 (ordF ord)))]):=by
 intro H;refine aC (n:=41) Tryz.func53 λB I w0=>?_;refine Z17 ?_;refine OL.mkSlK (n:=objs.length) [.i 0,AV.mvs []] rfl rfl rfl rfl rfl rfl rfl rfl Yr Yr Ya YJ (λI w=>.cons _ _ _ _ (.val _) (.cons _ _ _ _ (.sl0 _ _ _) .nil)) (λb9=>?_);refine Z12 ?_;refine lj (λm st=>∃(i:Nat) (els:List (List AV)),st=⟨[(18,.i i),(17,.i objs.length),(16,AV.ths objs),(9,.val (.slice (some ⟨b9,0,none⟩) objs.length objs.length)),(8,.fn (.func 113) [] [.ptr [AV.ints ord]]),(5,.ptr [AV.ints ord]),(1,AV.mvs roots)],.blk b9 65 els.flatten::H⟩/\m=objs.length - i/\i<=objs.length/\Laid objs ord i els) (⟨0,_,rfl,rfl,Ya,Laid.zero objs ord⟩) ?_;rintro m _ ⟨i,els,rfl,rfl,hi,hL⟩;refine Z6 ?_;refine cd (λh0=>?_) λh0=>?_
 ·have hil:i<objs.length:=by omega
  obtain⟨X,hX⟩:∃X,X=objs.getD i default:=⟨_,rfl⟩;have hXm:X∈objs:=hX▸getD_memB hil;have hXs:=hs X hXm;have hXv:=values_in (hvs X hXm) hp.len;have hst:=hL.step hp hil;rw[<-hX] at hst;have hoi:=hp.at_ hil;have hll:=hL.len;have hol:=hp.len;refine Z9 ?_;refine OL.alC rfl rfl rfl rfl (λb11=>?_);refine Z4 ?_;rw[<-hX];refine CW.dp mixed ?_;refine DP.anyC 0 12 41 rfl Ye rfl rfl Ye ?_;refine Z10 ?_;refine AD.popC rfl rfl rfl (POp.call .k (moveN hXv Ya)) ?_;refine Z3 ?_;refine oP (POp.ixC rfl rfl rfl rfl rfl Ya) ?_;apply OL.stoC rfl rfl rfl rfl rfl rfl rfl rfl rfl rfl
  (case hu=>repeat (first | exact Upd.head _ _ _ | apply Upd.tail));(case hfit=>exact Nat.ble_eq_true_of_le (by rw[flat_len hL.two];show 0+(ord.getD i default).toNat*2+2<=_;omega));(case hds=>exact lay_eq hL.two Ya)
  refine Z7 ?_;exact ag (⟨i+1,_,rfl,rfl,hil,hst⟩)
 ·obtain rfl:i=objs.length:=by omega
  have hee:=hL.all hp;subst hee;have hrl2:(renumP objs ord).length=objs.length:=by simp[renumP]
  refine Z6 ?_;refine CW.freezeS (d:=9) (k:=2) (els:=(renumP objs ord).map thA) (more:=[]) rfl (by rw[List.append_nil];exact .head _ _) (by simpa using hrl2) (by intro e he;obtain⟨t,_,rfl⟩:=List.mem_map.1 he;rfl) (Nat.le_refl _) YJ ?_;refine Z4 ?_;refine oP (POp.call .k (moveN (values_in hr hp.len) Ya)) ?_;refine Z5 ?_;refine rR [.tmp 6,.tmp 7] (H) ?_;exact⟨YaI,rfl⟩
theorem mem_renum(hp:PermI ord objs.length){t:Th}(h:t∈renumP objs ord):∃u∈objs,t=mapT (ordF ord) u:=by
 obtain⟨i,hi,rfl⟩:=List.mem_map.1 h;obtain⟨j,hj,e⟩:=hp.onto (List.mem_range.1 hi);refine⟨objs.getD j default,getD_memB hj,?_⟩;rw[<-e,idx_at hp hj,thOf,Int.toNat_natCast]
theorem value_ord(hp:PermI ord n){v:Int×Int}(h:valueP n v=true):valueP n (move1 (ordF ord) v)=true:=by
 unfold move1;by_cases e:v.1=3
 ·rw[if_pos e];have h1:=valueP_obj h e;have h2:=hp.at_ (i:=v.2.toNat) Ya;show valueP n (3,ord.getD v.2.toNat default)=true;generalize ord.getD v.2.toNat default=y at h2;simp only[valueP];simp;omega
 ·rw[if_neg e];exact h
theorem renum_iso(hp:PermI ord objs.length)(hr:roots.all (valueP objs.length)=true)(hv:∀t∈objs,t.slots.all (valueP objs.length)=true):Iso (ordF ord) objs (renumP objs ord) roots:=by
 have hl:(renumP objs ord).length=objs.length:=by simp[renumP]
 obtain⟨h0,_,_⟩:=reach_closed hr hv;have all:∀{l:List (Int×Int)},l.all (valueP objs.length)=true->(l.map (move1 (ordF ord))).all (valueP objs.length)=true:=λh=>List.all_eq_true.2 λx hx=>by
  obtain⟨v,hm,rfl⟩:=List.mem_map.1 hx;exact value_ord hp (List.all_eq_true.1 h v hm)
 refine⟨hr,hv,by rw[hl];exact all hr,λt ht=>?_,λa ha b hb e=>?_,λn hn=>?_⟩
 ·rw[hl];obtain⟨u,hu,rfl⟩:=mem_renum hp ht;exact all (hv u hu)
 ·have h1:=h0.in_ a ha;have h2:=h0.in_ b hb;have:=hp.inj (i:=a.toNat) (j:=b.toNat) Ya Ya e;omega
 ·have h1:=h0.in_ n hn;have h2:=hp.at_ (i:=n.toNat) Ya;show (renumP objs ord).getD (ordF ord n).toNat default=_;have h3:(ordF ord n).toNat<objs.length:=by rw[ordF];omega
  have h4:(((ordF ord n).toNat:Nat):Int)=ord.getD n.toNat default:=by rw[ordF];omega
  rw[renumP,List.getD_eq_getElem?_getD,List.getElem?_map,List.getElem?_range h3];show mapT (ordF ord) (thOf objs (idxB ord (((ordF ord n).toNat:Nat):Int)))=_;rw[h4,idx_at hp Ya,thOf,thOf,Int.toNat_natCast]
theorem thing_same{n:Int}{t u:Th}(h:thingP p n t=true)(hc:u.cls=t.cls)(hl:u.slots.length=t.slots.length)(hv:u.slots.all (valueP n)=true):thingP p n u=true:=by
 simp only[thingP,Bool.and_eq_true] at h ⊢;rw[hc,hl];exact⟨h.1,hv⟩
theorem renum_alike(hp:PermI ord objs.length)(h:askedP p objs roots=true):alikeP p objs roots (renumP objs ord) (roots.map (move1 (ordF ord)))=true/\askedP p (renumP objs ord) (roots.map (move1 (ordF ord)))=true:=by
 obtain⟨h1,h2,h3,h4⟩:=asked_parts h;have hi:=renum_iso hp h3 h4;have hl:(renumP objs ord).length=objs.length:=by simp[renumP]
 have ha:askedP p (renumP objs ord) (roots.map (move1 (ordF ord)))=true:=by
  have h0:=h;simp only[askedP,checkP,rootedP,Bool.and_eq_true,decide_eq_true_eq] at h0 ⊢;refine⟨⟨⟨h0.1.1.1,by rw[hl];exact h1⟩,List.all_eq_true.2 λt ht=>?_⟩,by rw[List.length_map];exact h2,hi.rs2⟩;have hs:=hi.vs2 t ht;obtain⟨u,hu,rfl⟩:=mem_renum hp ht;rw[hl] at hs ⊢;exact thing_same (List.all_eq_true.1 h0.1.2 u hu) rfl (List.length_map _) hs
 exact⟨by rw[alikeP,h,ha,hi.part p];simp,ha⟩
def setV(t:Th)(k:Nat)(x:Int×Int):Th:=⟨t.cls,t.slots.set k x⟩
def otherP(objs:List Th)(n k:Nat)(x:Int×Int):List Th:=objs.set n (setV (objs.getD n default) k x)
theorem meetP_set{x:Int×Int}(hx:x.1≠3):∀(l:List (Int×Int)) (k:Nat) (L:List Int),(∀v,l[k]? =some v->v.1≠3)->meetP (l.set k x) L=meetP l L
 | [],_,_,_=>rfl
 | v::r,0,L,h=>by
  have hv:=h v rfl;rw[List.set_cons_zero,meetP_cons,meetP_cons,meet1,meet1,if_neg (λh=>hx h.1),if_neg (λh=>hv h.1)]
 | v::r,k+1,L,h=>by rw[List.set_cons_succ,meetP_cons,meetP_cons,meetP_set hx r k _ (λu hu=>h u (by simpa using hu))]
structure OtherOk(objs:List Th)(n k:Nat)(x:Int×Int):Prop where
 hn:n<objs.length
 hk:k<(objs.getD n default).slots.length
 hv:((objs.getD n default).slots.getD k default).1≠3
 hx:x.1≠3
 ok:valueP objs.length x=true
 ne:x≠(objs.getD n default).slots.getD k default
theorem other_at(h:n<objs.length)(i:Int):thOf (otherP objs n k x) i=if i.toNat=n then setV (objs.getD n default) k x else thOf objs i:=by
 rw[thOf,otherP,List.getD_eq_getElem?_getD,List.getElem?_set];by_cases e:n=i.toNat
 ·rw[if_pos e,if_pos h,if_pos e.symm];rfl
 ·rw[if_neg e,if_neg (λh=>e h.symm)];rw[thOf,List.getD_eq_getElem?_getD]
theorem reachN_other{objs:List Th}{n k:Nat}{x:Int×Int}(h:OtherOk objs n k x):∀(f i:Nat) (L:List Int),reachN (otherP objs n k x) f i L=reachN objs f i L
 | 0,_,_=>rfl
 | f+1,i,L=>by
  have e:∀j,meetP (thOf (otherP objs n k x) j).slots L=meetP (thOf objs j).slots L:=λj=>by
   rw[other_at h.hn];split
   ·rename_i ej;rw[show thOf objs j=objs.getD n default by rw[thOf,ej]];exact meetP_set h.hx _ _ _ λv hv=>by
     have:=h.hv;rw[List.getD_eq_getElem?_getD,hv] at this;exact this
   ·rfl
  rw[reachN,reachN,e];split
  ·exact reachN_other h f (i+1) _
  ·rfl
theorem reach_other(h:OtherOk objs n k x)(roots:List (Int×Int)):reachP (otherP objs n k x) roots=reachP objs roots:=by
 rw[reachP,reachP,show (otherP objs n k x).length=objs.length by simp[otherP],reachN_other h]
theorem other_asked(h:OtherOk objs n k x)(ha:askedP p objs roots=true):askedP p (otherP objs n k x) roots=true:=by
 have hl:(otherP objs n k x).length=objs.length:=by simp[otherP]
 have h0:=ha;simp only[askedP,checkP,rootedP,Bool.and_eq_true,decide_eq_true_eq] at h0 ⊢;rw[hl];refine⟨⟨⟨h0.1.1.1,h0.1.1.2⟩,List.all_eq_true.2 λt ht=>?_⟩,h0.2⟩;rcases List.mem_or_eq_of_mem_set ht with ht | rfl
 ·exact List.all_eq_true.1 h0.1.2 t ht
 ·have h1:=List.all_eq_true.1 h0.1.2 _ (getD_memB h.hn);refine thing_same h1 rfl (List.length_set ..) (List.all_eq_true.2 λv hv=>?_);rcases List.mem_or_eq_of_mem_set hv with hv | rfl
  ·simp only[thingP,Bool.and_eq_true] at h1;exact List.all_eq_true.1 h1.2 v hv
  ·exact h.ok
theorem own_of_part{objs others:List Th}(h:askedP p objs roots=true)(h2:askedP p others roots=true)(e:partP p objs roots=partP p others roots):ownP objs roots=ownP others roots:=by
 have hn:checkP p []=true:=by
  have h0:=h;simp only[askedP,checkP,Bool.and_eq_true] at h0;simp[checkP,h0.1.1.1]
 have l1:=load_part h hn;have l2:=load_part h2 hn;have r1:(reachP objs roots).length<=40:=by
  obtain⟨a1,a2,a3,a4⟩:=asked_parts h;have:=(reach_closed a3 a4).1.len;omega
 have r2:(reachP others roots).length<=40:=by
  obtain⟨a1,a2,a3,a4⟩:=asked_parts h2;have:=(reach_closed a3 a4).1.len;omega
 rw[if_pos (by simpa using r1)] at l1;rw[if_pos (by simpa using r2), <-e,l1] at l2;injection l2 with l2
 simp only[allP,List.length_nil,List.nil_append] at l2;have hid:∀l:List Th,l.map (shiftT ((0:Nat):Int))=l:=λl=>by
  refine (List.map_congr_left λt _=>?_).trans (List.map_id l);cases t with
  | mk c s=>
   simp only[shiftT,id];congr 1;refine (List.map_congr_left λv _=>?_).trans (List.map_id s);unfold move1;split
   ·rename_i e3;cases v;simp only at e3;subst e3;simp
   ·rfl
 rwa [hid,hid] at l2
theorem other_alike(h:OtherOk objs n k x)(ha:askedP p objs roots=true)(hm:(n:Int)∈reachP objs roots):alikeP p objs roots (otherP objs n k x) roots=false:=by
 have h2:=other_asked h ha;rw[alikeP,ha,h2,Bool.true_and,Bool.true_and,beq_eq_false_iff_ne];intro e;have e2:=own_of_part ha h2 e;rw[ownP,ownP,reach_other h] at e2;have e3:objW (reachP objs roots) objs n=objW (reachP objs roots) (otherP objs n k x) n:=List.map_inj_left.1 e2 _ hm;rw[objW,objW,other_at h.hn,if_pos (Int.toNat_natCast n),show thOf objs (n:Int)=objs.getD n default by rw[thOf,Int.toNat_natCast]] at e3;injection e3 with _ e3
 have e4:=congrArg (λl=>l[k]?) e3;simp only[setV,List.getElem?_map,List.getElem?_set_self h.hk,List.getElem?_eq_getElem h.hk,Option.map_some,Option.some.injEq] at e4;have hv:=h.hv;have hne:=h.ne;rw[List.getD_eq_getElem?_getD,List.getElem?_eq_getElem h.hk,Option.getD_some] at hv hne;rw[move1,move1,if_neg hv,if_neg h.hx] at e4;exact hne e4.symm
abbrev slotsE(t:Th)(a:Option Addr×Nat):Ent:=.row 60 2 (.slice a.1 t.slots.length a.2) t.slots.length (t.slots.map initA).flatten
theorem inits_len(l:List (Int×Int)):(l.map initA).flatten.length=l.length*2:=by
 rw[flatten_len (k:=2) (λe he=>by obtain⟨v,_,rfl⟩:=List.mem_map.1 he;rfl),List.length_map]
theorem rCopyV0(cl:Int)(H:List Ent):ACall Tryz.prog 114 [AV.mvs []] H (λy H1=>∃a cap,y= .val (.slice a 0 cap)/\H1=slotsE ⟨cl,[]⟩ (a,cap)::H) (λ_ _=>False):=by
 refine aC (n:=5) Tryz.func114 λB I w0=>?_;refine Z8 ?_;refine oP (POp.appendNil0 rfl rfl rfl rfl rfl) ?_;refine Z4 ?_;refine Done.rowNil 60 2 ?_;refine Done.retR (rs:=[.tmp 2]) (H':=_) rfl (.tmp rfl (.nil)) (AVleL.refl _) Ybn ?_;exact⟨none,0,rfl,rfl⟩
theorem rCopyVR(t:Th)(hl:t.slots.length<=1000)(H:List Ent):ACall Tryz.prog 114 [AV.mvs t.slots] H (λy H1=>∃a cap,y= .val (.slice a t.slots.length cap)/\H1=slotsE t (a,cap)::H) (λ_ _=>False):=by
 by_cases hne:t.slots= []
 ·obtain⟨cl,sl⟩:=t;obtain rfl:sl= []:=hne;exact rCopyV0 cl H
 have hn0:t.slots.length≠0:=λe=>hne (List.eq_nil_of_length_eq_zero e);refine aC (n:=5) Tryz.func114 λB I w0=>?_;refine Z6 ?_;refine CW.rowNil 60 2 ?_;refine Z2 ?_;refine OL.appendRow (news:=t.slots.map initA) rfl rfl rfl rfl rfl rfl rfl rfl (AVle.refl _) (by simpa using hne) (one_mvs _) (λv=>.head _ _ _) Yw Yw (λv4=>?_);refine Z4 ?_;refine Done.eqH (H':=.row 60 2 v4 t.slots.length (t.slots.map initA).flatten::H) Yr ?_;refine Done.rowBlk hn0 (λb cap more=>.head _ _ _) (λb cap more e1 e2 e3 e4 e5=>?_);subst e1;refine Done.blkRow e2 e3 e4 e5 (.head _ _ _) ?_;refine Done.retR (rs:=[.tmp 2]) (H':=_) rfl (.tmp rfl (.nil)) (AVleL.refl _) Ybn ?_;exact⟨some ⟨b,0,none⟩,cap,rfl,rfl⟩
def nestC(l:List Th)(u:Nat->Option Addr×Nat)(i:Nat):List (List AV):=(List.range i).map λj=>[.i (l.getD j default).cls,.val (.slice (u j).1 (l.getD j default).slots.length (u j).2)]
def nestR(l:List Th)(u:Nat->Option Addr×Nat):Nat->List Ent
 | 0=>[]
 | i+1=>slotsE (l.getD i default) (u i)::nestR l u i
def updU(u:Nat->Option Addr×Nat)(i:Nat)(a:Option Addr×Nat):Nat->Option Addr×Nat:=λj=>if j=i then a else u j
theorem nestR_upd{l:List Th}{u:Nat->Option Addr×Nat}{i:Nat}{a:Option Addr×Nat}:∀{k:Nat},k<=i->nestR l (updU u i a) k=nestR l u k
 | 0,_=>rfl
 | k+1,h=>by rw[nestR,nestR,nestR_upd Ya,updU,if_neg Ya]
theorem nestR_step{l:List Th}:nestR l (updU u i a) (i+1)=slotsE (l.getD i default) a::nestR l u i:=by
 rw[nestR,nestR_upd (Nat.le_refl _),updU,if_pos rfl]
theorem nestC_step{l:List Th}:nestC l (updU u i a) (i+1)=nestC l u i++[[.i (l.getD i default).cls,.val (.slice a.1 (l.getD i default).slots.length a.2)]]:=by
 rw[nestC,List.range_succ,List.map_append];congr 1
 ·exact List.map_congr_left λj hj=>by rw[List.mem_range] at hj;rw[updU,if_neg Ya]
 ·simp[updU]
theorem nestC_len{l:List Th}:(nestC l u i).length=i:=by simp[nestC]
theorem rThingsR(l:List Th)(hl:l.length<=1000)(hs:∀t∈l,t.slots.length<=1000)(H:List Ent):ACall Tryz.prog 54 [AV.ths l] H (λy H1=>∃v u,y= .val v/\H1= .row 65 2 v l.length (nestC l u l.length).flatten::(nestR l u l.length++H)) (λ_ _=>False):=by
 refine aC (n:=27) Tryz.func54 λB I w0=>?_;refine Z12 ?_;refine CW.rowNil 65 2 ?_;refine Z5 ?_;refine lj (λm st=>∃(i:Nat) (v:Value) (u:Nat->Option Addr×Nat),st=⟨[(4,.i i),(3,.val v),(0,AV.ths l)],.row 65 2 v i (nestC l u i).flatten::(nestR l u i++H)⟩/\m=l.length - i/\i<=l.length) (⟨0,_,λ_=>(none,0),rfl,rfl,Ya⟩) ?_;rintro m _ ⟨i,v,u,rfl,rfl,hi⟩;refine Z9 ?_;refine cd (λh0=>?_) λh0=>?_
 ·have hil:i<l.length:=by omega
  have hxs:=hs _ (getD_memB hil);refine Z4 ?_;refine CW.dp mixed ?_;refine DP.anyK (X:=noX) [⟨11,22,false⟩,⟨12,23,false⟩,⟨13,24,false⟩] (λJ=>match J with | some v2::_=>slotsE (l.getD i default) (adOf v2,capOf v2)::.row 65 2 v i (nestC l u i).flatten::(nestR l u i++H) | _=>.row 65 2 v i (nestC l u i).flatten::(nestR l u i++H)) (λq J=>match q,J with | 0,some v2::_=>.val (.slice (adOf v2) (l.getD i default).slots.length (capOf v2)) | 1,some v2::_=>.agg [.i (l.getD i default).cls,.val (.slice (adOf v2) (l.getD i default).slots.length (capOf v2))] | 2,some v2::_=>.sl 2 [[.i (l.getD i default).cls,.val (.slice (adOf v2) (l.getD i default).slots.length (capOf v2))]] | _,_=>.any) 0 14 27 rfl Ye Ye rfl rfl Ye rfl (λ_ _ _ _ _ _ _ _ _ h=>h.elim) ?_;refine UD.popK [[true,true,true],[true,true,false],[true,false,false],[false,false,false]] rfl Ye rfl rfl rfl ⟨λf=>POp.move rfl rfl rfl,λf=>POp.move rfl rfl rfl,λf=>POp.move rfl rfl rfl,λf=>POp.move rfl rfl rfl,trivial⟩ ?_;refine UD.popK [[true,false,false],[false,false,false]] rfl Ye rfl rfl rfl ⟨λf=>POp.move rfl rfl rfl,λf=>POp.move rfl rfl rfl,trivial⟩ ?_;refine UD.popK [[true,false,false],[false,false,false]] rfl Ye rfl rfl rfl ⟨λf=>POp.move rfl rfl rfl,λf=>POp.move rfl rfl rfl,trivial⟩ ?_;refine UD.popK [[true,false,false],[false,false,false]] rfl Ye rfl rfl rfl ⟨λf=>Yan,λf=>Yan,trivial⟩ ?_;refine UD.popK [[true,false,false],[false,false,false]] rfl Ye rfl rfl rfl ⟨λf=>Yj,λf=>Yj,trivial⟩ ?_;refine UD.popK [[true,false,false],[false,false,false]] rfl Ye rfl rfl rfl ⟨λf=>Yb,λf=>Yb,trivial⟩ ?_;refine UD.popK [[false,false,false]] rfl Ye rfl rfl rfl ⟨λf=>POp.move rfl rfl rfl,trivial⟩ ?_;refine UD.popK [[false,false,false]] rfl Ye rfl rfl rfl ⟨λf=>POp.move rfl rfl rfl,trivial⟩ ?_;refine UD.popK [[false,false,false]] rfl Ye rfl rfl rfl ⟨λf=>Yan,trivial⟩ ?_;refine UD.popK [[false,false,false]] rfl Ye rfl rfl rfl ⟨λf=>Yj,trivial⟩ ?_;refine UD.popK [[false,false,false]] rfl Ye rfl rfl rfl ⟨λf=>Yb,trivial⟩ ?_;refine UD.effK 0 [[false,false,false]] rfl rfl rfl Ye rfl rfl rfl ⟨λf=>⟨KOk.slcall .k (λB=>(rCopyVR _ hxs _).b) (λ_=>rfl) (λ_=>rfl),Yn⟩,trivial⟩ ?_;refine UD.effK 1 [[true,false,false]] rfl rfl rfl Ye rfl rfl rfl ⟨λf=>⟨KOk.pop (y:=.agg [.i (l.getD i default).cls,.val (.slice (adOf (f 22)) (l.getD i default).slots.length (capOf (f 22)))]) (POp.build' rfl rfl rfl rfl) (λ_=>rfl) (λ_=>rfl),Yn⟩,trivial⟩ ?_;refine UD.effK 2 [[true,true,false]] rfl rfl rfl Ye rfl rfl rfl ⟨λf=>⟨KOk.pop (y:=.sl 2 [[.i (l.getD i default).cls,.val (.slice (adOf (f 22)) (l.getD i default).slots.length (capOf (f 22)))]]) (POp.row rfl rfl rfl rfl rfl rfl rfl rfl rfl) (λ_=>rfl) (λ_=>rfl),Yn⟩,trivial⟩ ?_;refine UD.nil (λf=>?_);simp only[kvals,List.map_cons,List.map_nil,List.cons_append,List.nil_append];refine Z1 ?_;obtain⟨A,hA⟩:∃A,A=(adOf (f 22),capOf (f 22)):=⟨_,rfl⟩;have hA1:adOf (f 22)=A.1:=by rw[hA]
  have hA2:capOf (f 22)=A.2:=by rw[hA]
  simp only[hA1,hA2];refine OL.appendRow (news:=[[.i (l.getD i default).cls,.val (.slice A.1 (l.getD i default).slots.length A.2)]]) rfl rfl rfl rfl rfl rfl rfl rfl (AVle.refl _) Yr rfl (λv=>.tail _ _ _ _ _ (.head _ _ _)) Yw Yw (λv24=>?_);refine Z4 ?_;refine CW.perm (.swap _ _ _) ?_;refine CW.eqH (H':=.row 65 2 v24 (i+1) (nestC l (updU u i A) (i+1)).flatten::(nestR l (updU u i A) (i+1)++H)) (by rw[nestC_step,nestR_step,List.flatten_append];rfl) ?_;refine Z5 ?_;exact ag (⟨i+1,v24,updU u i A,rfl,rfl,hil⟩)
 ·obtain rfl:i=l.length:=by omega
  refine Z12 ?_;refine Done.retR (rs:=[.tmp 2]) (H':=_) rfl (.tmp rfl (.nil)) (AVleL.refl _) Ybn ?_;exact⟨v,u,rfl,rfl⟩
def clampP(n:Int):Int:=if 1000000000<(if -1000000000>n then -1000000000 else n) then 1000000000 else if -1000000000>n then -1000000000 else n
theorem clamp_in(n:Int):inP (clampP n)=true:=by
 unfold clampP inP;split <;> simp <;> split <;> omega
theorem intV(n:Int):PCall Tryz.prog 55 [.i n] (AV.mv (1,n)):=by
 intro H;refine aC (n:=5) Tryz.func55 λB I w0=>?_;refine Z2 ?_;refine OL.alC rfl rfl rfl rfl (λb0=>?_);refine Z10 ?_;refine rR [.cell 2 60] (H) ?_;exact⟨YaI,rfl⟩
theorem clampV(n:Int):PCall Tryz.prog 56 [.i n] (.i (clampP n)):=by
 intro H;refine aC (n:=6) Tryz.func56 λB I w0=>?_;refine Z8 ?_;refine oP (POp.max2 rfl rfl rfl rfl rfl rfl) ?_;refine oP (POp.min2 rfl rfl rfl rfl rfl rfl) ?_;refine Z4 ?_;refine r1 2 (H) ?_;exact⟨YaI,rfl⟩
theorem ACall.ofPerm{f:FuncId}{xs:List AV}{H H':List Ent}{Φ E:AV->List Ent->Prop}(hp:H'.Perm H)(h:ACall Tryz.prog f xs H Φ E):ACall Tryz.prog f xs H' Φ E:=⟨h.1,λB I w vs hw hh hv=>h.2 B I w vs hw (hh.perm hp) hv⟩
theorem insertA{l:List Int}{x:Int}(hi:i<=l.length)(hl:l.length<=1000)(hv:l= []->v= .slice none 0 0)(H:List Ent):ACall Tryz.prog 52 [.val v,.i i,.val (.slice (some ⟨b2,0,none⟩) 1 1)] (.blk b2 3 [.i x]::.row 3 1 v l.length (l.map AV.i)::H) (λy H'=>∃v',y= .val v'/\H'= .row 3 1 v' (insP l i x).length ((insP l i x).map AV.i)::H) (λ_ _=>False):=
 ACall.ofPerm (.swap _ _ _) (by
  by_cases hne:l= []
  ·exact insert0 hi hl (hv hne) hne H
  ·exact insertC hi hl hne H)
theorem flat_one(l:List Int):(l.map λn=>[AV.i n]).flatten=l.map AV.i:=by
 induction l with
 | nil=>rfl
 | cons x r ih=>rw[List.map_cons,List.flatten_cons,ih];rfl
theorem slots_le(h:checkP p objs=true):∀t∈objs,t.slots.length<=1000:=λt ht=>by
 simp only[checkP,Bool.and_eq_true,decide_eq_true_eq] at h;have:=(okT_of (n:=objs.length) Ya (List.all_eq_true.1 h.2 t ht)).vl;omega
theorem flat_get{k:Nat}:∀{els:List (List AV)} {i j:Nat} {e:List AV},(∀e∈els,e.length=k)->els[i]? =some e->j<k->els.flatten[i*k+j]? =e[j]?
 | [],i,j,e,_,he,_=>by simp at he
 | x::r,0,j,e,h,he,hj=>by
  have h1:=h x (.head _);simp at he;subst he;rw[List.flatten_cons,Nat.zero_mul,Nat.zero_add,List.getElem?_append_left Ya]
 | x::r,i+1,j,e,h,he,hj=>by
  have h1:=h x (.head _);rw[List.flatten_cons,List.getElem?_append_right (by rw[Nat.add_mul];omega),show (i+1)*k+j - x.length=i*k+j by rw[Nat.add_mul];omega];exact flat_get (λy hy=>h y (.tail _ hy)) (by simpa using he) hj
def nestO(l:List Th)(u:Nat->Option Addr×Nat)(n:Nat):Nat->List Ent
 | 0=>[]
 | i+1=>if i=n then nestO l u n i else slotsE (l.getD i default) (u i)::nestO l u n i
theorem nestO_le{l:List Th}{u:Nat->Option Addr×Nat}{n:Nat}:∀{m:Nat},m<=n->nestO l u n m=nestR l u m
 | 0,_=>rfl
 | m+1,h=>by rw[nestO,if_neg Ya,nestO_le Ya];rfl
theorem nestR_perm{l:List Th}{u:Nat->Option Addr×Nat}{n:Nat}:∀{m:Nat},n<m->(nestR l u m).Perm (slotsE (l.getD n default) (u n)::nestO l u n m)
 | m+1,h=>by
  rw[nestR,nestO];by_cases e:m=n
  ·subst e;rw[if_pos rfl,nestO_le (Nat.le_refl _)]
  ·rw[if_neg e];exact ((nestR_perm Ya).cons _).trans (.swap _ _ _)
theorem rows_perm{l:List Th}{u:Nat->Option Addr×Nat}{F:Nat->Ent}{n:Nat}:∀{m:Nat},(∀j,j<m->j≠n->F j=slotsE (l.getD j default) (u j))->((List.range m).map F).Perm (if n<m then F n::nestO l u n m else nestO l u n m)
 | 0,_=>by rw[if_neg Ya];exact .refl _
 | m+1,h=>by
  have ih:=rows_perm (F:=F) (n:=n) (m:=m) λj hj hne=>h j Ya hne;rw[List.range_succ,List.map_append];refine (List.perm_append_singleton _ _).trans ?_;by_cases e:m=n
  ·subst e;rw[if_neg (Nat.lt_irrefl _)] at ih;rw[if_pos (Nat.lt_succ_self _),nestO,if_pos rfl];exact ih.cons _
  ·rw[h m (Nat.lt_succ_self _) e,nestO,if_neg e];by_cases hn:n<m
   ·rw[if_pos hn] at ih;rw[if_pos Ya];exact (ih.cons _).trans (.swap _ _ _)
   ·rw[if_neg hn] at ih;rw[if_neg Ya];exact ih.cons _
theorem nestC_two{l:List Th}:∀e∈nestC l u m,e.length=2:=λe he=>by
 obtain⟨j,_,rfl⟩:=List.mem_map.1 he;rfl
theorem nest_cell{l:List Th}(h:n<m):((nestC l u m).flatten++more)[0+((n:Nat):Int).toNat*2+1]? =some (.val (.slice (u n).1 (l.getD n default).slots.length (u n).2)):=by
 have hl:(nestC l u m).flatten.length=m*2:=by rw[flat_len nestC_two,nestC_len]
 rw[List.getElem?_append_left (by rw[hl,Int.toNat_natCast];omega),Int.toNat_natCast,Nat.zero_add,flat_get (e:=[.i (l.getD n default).cls,.val (.slice (u n).1 (l.getD n default).slots.length (u n).2)]) nestC_two (by rw[nestC,List.getElem?_map,List.getElem?_range h];rfl) Ya];rfl
theorem inits_two:∀e∈l.map initA,e.length=2:=λe he=>by obtain⟨v,_,rfl⟩:=List.mem_map.1 he;rfl
theorem slot_fit(h:k<l.length):Nat.ble (0+((k:Nat):Int).toNat*2+2) ((l.map initA).flatten++more).length=true:=Nat.ble_eq_true_of_le (by
 have:=inits_len l;simp only[List.length_append,Int.toNat_natCast];omega)
theorem slot_set(h:k<l.length):((l.map initA).flatten++more).take (0+((k:Nat):Int).toNat*2)++initA x++((l.map initA).flatten++more).drop (0+((k:Nat):Int).toNat*2+2)=((l.set k x).map initA).flatten++more:=by
 have hl:=inits_len l;rw[Int.toNat_natCast,Nat.zero_add,List.take_append_of_le_length Ya,List.drop_append_of_le_length Ya, <-List.append_assoc,flat_set inits_two Y5,List.map_set]
theorem slot_get(h:k<l.length):((((l.set k x).map initA).flatten++more).drop (0+((k:Nat):Int).toNat*2)).take 2=initA x:=by
 have hl:=inits_len (l.set k x);rw[List.length_set] at hl;refine List.ext_getElem? λj=>?_;rw[List.getElem?_take];split
 ·rename_i hj;rw[List.getElem?_drop,Int.toNat_natCast,Nat.zero_add,List.getElem?_append_left Ya,flat_get (e:=initA x) inits_two (by rw[List.getElem?_map,List.getElem?_set_self h];rfl) hj]
 ·rename_i hj;rw[List.getElem?_eq_none (by show 2<=j;omega)]
theorem div2{y:Int}(h: -1000000000<=y/\y<=1000000000): -1000000000<=y.tdiv 2/\y.tdiv 2<=1000000000:=by
 rcases Int.le_total 0 y with h0 | h0
 ·rw[Int.tdiv_eq_ediv_of_nonneg h0];omega
 ·obtain⟨z,rfl⟩:∃z,y= -z:=⟨-y,Ya⟩;rw[Int.neg_tdiv,Int.tdiv_eq_ediv_of_nonneg Ya];omega
theorem val_small{v:Int×Int}(h:valueP n v=true)(h3:v.1≠3): -1000000000<=v.2/\v.2<=1000000000:=by
 unfold valueP at h;split at h
 ·simp only[inP,Bool.and_eq_true,decide_eq_true_eq] at h;exact h
 ·split at h
  ·simp at h;omega
  ·cases h
def nestL(objs:List Th)(u:Nat->Option Addr×Nat)(n k:Nat)(x:Int×Int):List Nest:=(List.range objs.length).map λj=>([.i (objs.getD j default).cls],.slice (u j).1 (objs.getD j default).slots.length (u j).2,((otherP objs n k x).getD j default).slots.map initA)
theorem other_get(hn:n<objs.length)(j:Nat):(otherP objs n k x).getD j default=if j=n then setV (objs.getD n default) k x else objs.getD j default:=by
 have:=other_at (k:=k) (x:=x) hn (j:Int);rwa [thOf,thOf,Int.toNat_natCast] at this
theorem nestL_av(hn:n<objs.length):(nestL objs u n k x).map (λq=>q.1++[.sl 2 q.2.2])=(otherP objs n k x).map thA:=by
 refine List.ext_getElem? λj=>?_;have hl:(otherP objs n k x).length=objs.length:=by simp[otherP]
 by_cases hj:j<objs.length
 ·have h2:(otherP objs n k x)[j]? =some ((otherP objs n k x).getD j default):=by rw[List.getD_eq_getElem?_getD,List.getElem?_eq_getElem Ya];rfl
  have hc:((otherP objs n k x).getD j default).cls=(objs.getD j default).cls:=by
   rw[other_get hn];split
   ·rename_i e;rw[e];rfl
   ·rfl
  rw[List.getElem?_map,List.getElem?_map,h2,nestL,List.getElem?_map,List.getElem?_range hj];show some [_,_]=some [_,_];rw[hc]
 ·rw[List.getElem?_eq_none (by simp[nestL];omega),List.getElem?_eq_none (by rw[List.length_map,hl];omega)]
theorem nestL_cells:(nestL objs u n k x).map (λq=>q.1++[.val q.2.1])=nestC objs u objs.length:=by
 rw[nestL,List.map_map];rfl
theorem nestL_len:(nestL objs u n k x).length=objs.length:=by simp[nestL]
theorem nestL_perm(hn:n<objs.length):
  (.row 60 2 (.slice (u n).1 (objs.getD n default).slots.length (u n).2) (objs.getD n default).slots.length (((objs.getD n default).slots.set k x).map initA).flatten::.row 65 2 v objs.length (nestC objs u objs.length).flatten::(nestO objs u n objs.length++H)).Perm
   ((nestL objs u n k x).map (λq=>Ent.row 60 2 q.2.1 q.2.2.length q.2.2.flatten)++.row 65 2 v (nestL objs u n k x).length ((nestL objs u n k x).map λq=>q.1++[.val q.2.1]).flatten::H):=by
 rw[nestL_cells,nestL_len];refine List.Perm.trans ?_ List.perm_middle.symm;refine (List.Perm.swap _ _ _).trans (.cons _ ?_);rw[show ((.row 60 2 (.slice (u n).1 (objs.getD n default).slots.length (u n).2) (objs.getD n default).slots.length (((objs.getD n default).slots.set k x).map initA).flatten:Ent)::(nestO objs u n objs.length++H))=(.row 60 2 (.slice (u n).1 (objs.getD n default).slots.length (u n).2) (objs.getD n default).slots.length (((objs.getD n default).slots.set k x).map initA).flatten::nestO objs u n objs.length)++H from rfl];refine List.Perm.append_right _ ?_;rw[nestL,List.map_map];have h:=rows_perm (l:=objs) (u:=u) (n:=n) (m:=objs.length) (F:=(λq:Nest=>Ent.row 60 2 q.2.1 q.2.2.length q.2.2.flatten)∘λj=>(([.i (objs.getD j default).cls],.slice (u j).1 (objs.getD j default).slots.length (u j).2,((otherP objs n k x).getD j default).slots.map initA):Nest)) (λj _ hne=>by
  show Ent.row _ _ (.slice (u j).1 (objs.getD j default).slots.length (u j).2) (List.map initA ((otherP objs n k x).getD j default).slots).length (List.map initA ((otherP objs n k x).getD j default).slots).flatten=_;rw[other_get hn,if_neg hne,List.length_map])
 rw[if_pos hn] at h;refine List.Perm.trans ?_ h.symm;refine List.Perm.of_eq ?_;congr 1;show _=Ent.row _ _ (.slice (u n).1 (objs.getD n default).slots.length (u n).2) (List.map initA ((otherP objs n k x).getD n default).slots).length (List.map initA ((otherP objs n k x).getD n default).slots).flatten;rw[other_get hn,if_pos rfl,List.length_map,setV,List.length_set]
theorem numbersC{g:Gv}(hp:g.p.Small)(yb:List U8):PCall Tryz.prog 14 [AV.given g,u8s yb] (.b true):=by
 intro H;refine aC (n:=217) Tryz.func14 λB I w0=>?_;refine Z18 ?_;refine oP (POp.call .k (alikeC hp g.objs g.roots g.objs g.roots)) ?_;refine Z14 ?_;refine CW.cond rfl (λh0=>?_) (λh0=>?_)
 ·have ha:askedP g.p g.objs g.roots=false:=by cases h:askedP g.p g.objs g.roots <;> simp_all
  refine Z9 ?_;refine OL.guardC rfl rfl rfl rfl rfl rfl (λhg=>POp.call .k (knownC)) ?_;refine Z6 ?_;refine r1 4 (H) ?_;exact⟨retB (by rw[alikeP,ha];rfl),rfl⟩
 ·have ha:askedP g.p g.objs g.roots=true:=by cases h:askedP g.p g.objs g.roots <;> simp_all
  obtain⟨hol,hrl,hrs,hvs⟩:=asked_parts ha;have hac:checkP g.p g.objs=true/\rootedP g.objs.length g.roots=true:=by simpa only[askedP,Bool.and_eq_true] using ha
  have hsl:∀t∈g.objs,t.slots.length<=1000:=slots_le hac.1;have hself:alikeP g.p g.objs g.roots g.objs g.roots=true:=by rw[alikeP,ha];simp
  rw[hself];refine Z9 ?_;refine oP (POp.call .k (rGood hp g.objs)) ?_;refine Z7 ?_;refine OL.guardC rfl rfl rfl rfl rfl rfl (λhg=>POp.call (.mk' rfl rfl rfl rfl Yd) (rRoots g.roots g.objs.length)) ?_;refine Z4 ?_;refine CW.cond rfl (λh1=>?_) (λh1=>?_)
  ·rw[hac.1,hac.2] at h1;exact absurd h1 Yr
  ·refine Z9 ?_;refine CW.rowNil 3 1 ?_;refine Z8 ?_;refine lj (λm st=>∃(i:Nat) (v:Value) (ord:List Int),st=⟨[(65,.i i),(64,.i g.objs.length),(7,.val v),(5,.b true),(2,.ptr (Gcells g)),(1,u8s yb)],.row 3 1 v ord.length (ord.map AV.i)::H⟩/\m=g.objs.length - i/\i<=g.objs.length/\PermI ord i/\(ord= []->v= .slice none 0 0)) (⟨0,_,[],rfl,rfl,Ya,.zero,λ_=>rfl⟩) ?_;rintro m _ ⟨i,v,ord,rfl,rfl,hi,hP,hnil⟩;refine Z6 ?_;refine cd (λh2=>?_) λh2=>?_
   ·have hil:i<g.objs.length:=by omega
    have hol2:=hP.len;refine Z15 ?_;refine CW.cutJ (λst=>∃k:Nat,st=⟨[(9,.i k),(8,.i i),(65,.i i),(64,.i g.objs.length),(7,.val v),(5,.b true),(2,.ptr (Gcells g)),(1,u8s yb)],.row 3 1 v ord.length (ord.map AV.i)::H⟩/\k<=i) ?_ ?_
    ·refine Z8 ?_;refine CW.cond rfl (λh3=>?_) (λh3=>?_)
     ·replace h3:=nm h3;have hyl:i<yb.length:=by omega
      refine Z5 ?_;refine oP (POp.cv rfl rfl rfl (wrap64 (by have:=(yb.getD i default).isLt;omega))) ?_;refine Z2 ?_;refine oP (POp.div rfl rfl rfl rfl rfl Ya (.inr ⟨rfl,rfl⟩)) ?_;refine Z2 ?_;refine Done.le 9 (y:=.i (((yb.getD i default).val%(i+1):Nat):Int)) rfl (AVle.eqI (by rw[show ((i:Int)+1)=((i+1:Nat):Int) by omega,Int.ofNat_tmod])) ?_;exact cj ⟨(yb.getD i default).val%(i+1),rfl,Nat.lt_succ_iff.1 (Nat.mod_lt _ (Nat.succ_pos i))⟩
     ·refine Z1 ?_;exact cj ⟨0,rfl,Ya⟩
    ·rintro _ ⟨k,rfl,hk⟩;refine Z4 ?_;refine OL.rowBlk [[.i i]] rfl rfl rfl rfl rfl rfl rfl rfl rfl (λb2=>?_);refine bC .k ((insertA (l:=ord) (i:=k) (x:=i) Ya Ya hnil H).b) ?_;rintro y _ ⟨v2,rfl,rfl⟩;refine Z8 ?_;exact ag (⟨i+1,v2,insP ord k i,rfl,rfl,hil,hP.ins,λe=>by have:=insP_len (l:=ord) (i:=k) (x:=i) Ya;rw[e] at this;simp at this⟩)
   ·obtain rfl:i=g.objs.length:=by omega
    have hren:=renum_alike hP ha;refine Z6 ?_;refine CW.eqH (H':=.row 3 1 v (ord.map λn=>[AV.i n]).length (ord.map λn=>[AV.i n]).flatten::H) (by rw[List.length_map,flat_one]) ?_;refine CW.freezeRow (d:=7) rfl (.head _ _) (λe he=>by obtain⟨n,_,rfl⟩:=List.mem_map.1 he;rfl) ?_;refine CW.le 7 (y:=AV.ints ord) rfl (AVle.refl _) ?_;refine Z6 ?_;refine oP (POp.call .k (renumC hP hvs hrs Ya hsl Ya)) ?_;refine Z17 ?_;refine oP (POp.call .k (alikeC hp g.objs g.roots (renumP g.objs ord) (g.roots.map (move1 (ordF ord))))) ?_;refine Z15 ?_;refine oP (POp.call .k (reachI hp g.objs g.roots)) ?_;refine Z9 ?_;rw[hren.1,hren.2,ha,show reachQ g.p g.objs g.roots=reachP g.objs g.roots by rw[reachQ,if_pos ha]];refine Z17 ?_;refine CW.cond rfl (λh4=>?_) (λh4=>?_)
    ·exact absurd h4 Yr
    ·obtain⟨L,hL⟩:∃L,L=reachP g.objs g.roots:=⟨_,rfl⟩;have hRt:=(reach_closed hrs hvs).1;rw[<-hL] at hRt;have hLl:=hRt.len;rw[<-hL];refine Z11 ?_;refine lj (λm st=>∃(q:Nat),st=⟨[(133,.i q),(132,.i L.length),(131,AV.ints L),(5,.b true),(2,.ptr (Gcells g))],H⟩/\m=L.length - q/\q<=L.length) (⟨0,rfl,rfl,Ya⟩) ?_;rintro m _ ⟨q,rfl,rfl,hq⟩;refine Z6 ?_;refine CW.cond rfl (λh5=>?_) (λh5=>?_)
     ·replace h5:=nm h5;have hql:q<L.length:=by omega
      obtain⟨n,hn⟩:∃n:Nat,L.getD q default=n:=⟨(L.getD q default).toNat,by have:=hRt.in_ _ (getD_memB hql);omega⟩;have hnm:(n:Int)∈L:=hn▸getD_memB hql;have hno:n<g.objs.length:=by have:=hRt.in_ _ hnm;omega
      refine Z13 ?_;rw[hn];refine Z12 ?_;refine CW.cond rfl (λh6=>?_) (λh6=>?_)
      ·exfalso;rw[Bool.cond_true_left,Bool.or_eq_true,decide_eq_true_eq,decide_eq_true_eq] at h6;omega
      ·obtain⟨T,hT⟩:∃T,T=g.objs.getD n default:=⟨_,rfl⟩;have hTm:T∈g.objs:=hT▸getD_memB hno;have hTs:=hsl T hTm;refine Z15 ?_;rw[<-hT];refine lj (λm st=>∃(k:Nat),st=⟨[(153,.i k),(152,.i T.slots.length),(151,AV.mvs T.slots),(16,.i n),(133,.i q),(132,.i L.length),(131,AV.ints L),(5,.b true),(2,.ptr (Gcells g))],H⟩/\m=T.slots.length - k/\k<=T.slots.length) (⟨0,rfl,rfl,Ya⟩) ?_;rintro m _ ⟨k,rfl,rfl,hk⟩;refine Z6 ?_;refine CW.cond rfl (λh7=>?_) (λh7=>?_)
       ·replace h7:=nm h7;have hkl:k<T.slots.length:=by omega
        obtain⟨X,hX⟩:∃X,X=T.slots.getD k default:=⟨_,rfl⟩;refine Z9 ?_;refine OL.alC rfl rfl rfl rfl (λb18=>?_);refine Z6 ?_;rw[<-hX];refine Z6 ?_;refine cd (λh8=>?_) λh8=>?_
        ·refine Z8 ?_;exact ag (⟨k+1,rfl,rfl,hkl⟩)
        ·have hX3:X.1≠3:=h8;have hXs:=val_small (List.all_eq_true.1 (hvs T hTm) X (hX▸getD_memB hkl)) hX3;have hdv:=div2 hXs;have hT0:T.slots.length≠0:=by omega
         have hm0:g.objs.length≠0:=by omega
         refine Z6 ?_;refine bC .k ((rThingsR g.objs Ya hsl _).b) ?_;rintro y _ ⟨v,u,rfl,rfl⟩;refine Z4 ?_;refine CW.perm (H':=slotsE T (u n)::.row 65 2 v g.objs.length (nestC g.objs u g.objs.length).flatten::(nestO g.objs u n g.objs.length++_)) (by rw[hT];exact (List.Perm.cons _ ((nestR_perm hno).append_right _)).trans (.swap _ _ _)) ?_;refine CW.rowBlk hT0 (λb cap more=>.head _ _ _) (λbs cap more e1 e2 e3 e4 e5=>?_);have hu:u n=(some ⟨bs,0,none⟩,cap):=by
          injection e1 with a1 a2 a3
          exact Prod.ext a1 a3
         refine CW.rowBlk hm0 (λb cap more=>.tail _ _ _ _ _ (.head _ _ _)) (λbo capo moreo f1 f2 f3 f4 f5=>?_);subst f1;have hcell:((nestC g.objs u g.objs.length).flatten++moreo)[0+((n:Nat):Int).toNat*2+1]? =some (.val (.slice (some ⟨bs,0,none⟩) T.slots.length cap)):=by rw[nest_cell hno,hu, <-hT]
         refine CW.dp mixed ?_;refine DP.anyC 0 12 217 rfl Ye rfl rfl Ye ?_;refine Z2 ?_;refine AD.popC rfl rfl rfl (POp.ixC rfl rfl rfl rfl rfl Ya) ?_;refine Z1 ?_;refine AD.popC rfl rfl rfl (YN) ?_;refine Z2 ?_;refine AD.popC rfl rfl rfl ((by apply POp.ld1H rfl rfl rfl;(case hm=>exact .tail _ (.tail _ (List.mem_append_right _ (.head _))));(case hy=>rfl))) ?_;refine AD.popC rfl rfl rfl ((POp.div rfl rfl rfl rfl rfl Ya (.inl ⟨rfl,rfl⟩)).eq (y:=.i (X.2.tdiv 2)) (by rw[wrap64 Ya])) ?_;refine Z1 ?_;refine AD.popC rfl rfl rfl (POp.call .k ((clampV _))) ?_;refine AD.popC rfl rfl rfl (POp.call .k ((intV _))) ?_;refine Z2 ?_;refine oP (POp.ixC rfl rfl rfl rfl rfl Ya) ?_;apply OL.stoC rfl rfl rfl rfl rfl rfl rfl rfl rfl rfl
         (case hu=>repeat (first | exact Upd.head _ _ _ | apply Upd.tail));(case hfit=>exact slot_fit hkl);(case hds=>exact slot_set (x:=(1,clampP (X.2.tdiv 2+3))) hkl)
         refine Z2 ?_;refine CW.cutJ (λst=>∃(x:Int×Int) (e18:Ent),st=⟨[(19,.val (.slice (some ⟨bo,0,none⟩) g.objs.length capo)),(5,.b true),(2,.ptr (Gcells g))],.blk bs 60 (((T.slots.set k x).map initA).flatten++more)::.blk bo 65 ((nestC g.objs u g.objs.length).flatten++moreo)::(nestO g.objs u n g.objs.length++e18::H)⟩/\OtherOk g.objs n k x) ?_ ?_
         ·refine Z1 ?_;obtain⟨w,hw1⟩:∃w,w=((1,clampP (X.2.tdiv 2+3)):Int×Int):=⟨_,rfl⟩;rw[<-hw1];refine CW.dp mixed ?_;refine DP.anyC 0 9 217 rfl Ye rfl rfl Ye ?_;refine Z2 ?_;refine AD.popC rfl rfl rfl (POp.ixC rfl rfl rfl rfl rfl Ya) ?_;refine Z1 ?_;refine AD.popC rfl rfl rfl (YN) ?_;refine Z1 ?_;refine AD.popC rfl rfl rfl (POp.ixC rfl rfl rfl rfl rfl Ya) ?_;refine AD.popC rfl rfl rfl ((by first | exact POp.ldA rfl rfl rfl rfl | (apply POp.ldAH rfl rfl rfl;(case hm=>repeat (first | exact .head _ | refine .tail _ ?_));(case hy=>exact slot_get hkl);(case hn=>rfl)))) ?_;refine AD.popC rfl rfl rfl ((by apply POp.ldAH rfl rfl rfl;(case hm=>exact .tail _ (.tail _ (List.mem_append_right _ (.head _))));(case hy=>rfl);(case hn=>rfl))) ?_;refine Z2 ?_;refine oP (POp.eqI [w.1,w.2] [X.1,X.2] rfl rfl rfl rfl rfl rfl rfl) ?_;refine Z2 ?_;refine cd (λh9=>?_) λh9=>?_
          ·have h9: [w.1,w.2]= [X.1,X.2]:=by simpa using h9
           refine CW.dp mixed ?_;refine DP.anyC 0 7 217 rfl Ye rfl rfl Ye ?_;refine Z2 ?_;refine AD.popC rfl rfl rfl (POp.ixC rfl rfl rfl rfl rfl Ya) ?_;refine Z1 ?_;refine AD.popC rfl rfl rfl (YN) ?_;refine Z1 ?_;refine AD.popC rfl rfl rfl (POp.call .k ((noneV))) ?_;refine Z2 ?_;refine oP (POp.ixC rfl rfl rfl rfl rfl Ya) ?_;apply OL.stoC rfl rfl rfl rfl rfl rfl rfl rfl rfl rfl
           (case hu=>repeat (first | exact Upd.head _ _ _ | apply Upd.tail));(case hfit=>exact slot_fit (by rw[List.length_set];exact hkl));(case hds=>exact (slot_set (x:=(2,0)) (by rw[List.length_set];exact hkl)).trans (by rw[List.set_set]))
           refine Z1 ?_;exact cj ⟨(2,0),_,rfl,hno,by rw[<-hT];exact hkl,by rw[<-hT, <-hX];exact hX3,YO,rfl,by rw[<-hT, <-hX];intro e;rw[<-e,hw1] at h9;simp at h9⟩
          ·have h9: ¬ [w.1,w.2]= [X.1,X.2]:=by simpa using h9
           refine Z1 ?_;exact cj ⟨w,_,rfl,hno,by rw[<-hT];exact hkl,by rw[<-hT, <-hX];exact hX3,by rw[hw1];show (1:Int)≠3;decide,by rw[hw1,valueP,if_pos rfl];exact clamp_in _,by rw[<-hT, <-hX];intro e;exact h9 (by rw[e])⟩
         ·rintro _ ⟨x,e18,rfl,hO⟩;refine Z2 ?_;have hil2:=inits_len (T.slots.set k x);rw[List.length_set] at hil2;have hil3:=inits_len T.slots;refine CW.blkRow (k:=2) (n:=T.slots.length) (cs:=((T.slots.set k x).map initA).flatten) e2 e3 (by rw[List.length_append] at e4 ⊢;omega) Ya (.head _ _ _) ?_;refine CW.blkRow (k:=2) (n:=g.objs.length) (cs:=(nestC g.objs u g.objs.length).flatten) f2 f3 f4 f5 (.tail _ _ _ _ _ (.head _ _ _)) ?_;refine CW.freezeNest (d:=19) (t2:=65) (k2:=2) (t:=60) (k:=2) (nestL g.objs u n k x) rfl (by have:=nestL_perm (u:=u) (k:=k) (x:=x) (v:=.slice (some ⟨bo,0,none⟩) g.objs.length capo) (H:=e18::H) hno;rw[hu, <-hT] at this;exact this) (λq hq e he=>by obtain⟨j,_,rfl⟩:=List.mem_map.1 hq;exact inits_two e he) (λq hq=>by obtain⟨j,_,rfl⟩:=List.mem_map.1 hq;rfl) ?_;refine CW.le 19 (y:=AV.ths (otherP g.objs n k x)) rfl (by rw[nestL_av hno];exact AVle.refl _) ?_;refine Z10 ?_;refine oP (POp.call .k (alikeC hp g.objs g.roots (otherP g.objs n k x) g.roots)) ?_;refine Z8 ?_;rw[other_alike hO ha (by rw[<-hL];exact hnm),other_asked hO ha,ha];refine Z8 ?_;refine CW.cond rfl (λh10=>?_) (λh10=>?_)
          ·exact absurd h10 Yr
          ·refine Z4 ?_;refine oP (POp.call .k (knownC)) ?_;refine Z13 ?_;refine r1 4 (H) ?_;exact⟨Yg,rfl⟩
       ·refine Z10 ?_;exact ag (⟨q+1,rfl,rfl,hql⟩)
     ·refine Z7 ?_;refine oP (POp.call .k (knownC)) ?_;refine Z4 ?_;refine r1 4 (H) ?_;exact⟨Yg,rfl⟩
end Go.Proofs.YtpgnjlngepfanaaGreat
