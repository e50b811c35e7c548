/- Part 1 of the proof: contracts of functions of the program and what they need. No condition beyond those that each theorem names. -/
import Derived.WalkKit
import Derived.OwnWalkIn
import Derived.DefersIn
import Derived.OrdersIn
set_option maxHeartbeats 1000000
namespace Go
theorem Ya{p:Prop}(h:p:=by kernel_rfl):p:=h
theorem Yb{p:Prop}(h:p:=by omega):p:=h
theorem Yc{p:Prop}(h:p:=by first | rfl | ((repeat (first | exact hg | rfl | refine Bool.and_eq_true_iff.2 ⟨?_,?_⟩));done) | simp_all [strip,constAV]):p:=h
theorem Yd{p:Prop}(h:p:=by repeat (first | exact List.Sublist.refl _ | refine List.Sublist.cons _ ?_)):p:=h
theorem Ye{p:Prop}(h:p:=by first | rfl | exact retI (by simp_all) | exact retB (by simp_all) | simp_all):p:=h
theorem Yf{p:Prop}(h:p:=by decide+kernel):p:=h
theorem Yg{p:Prop}(h:p:=by simp only[List.length_map,List.length_take,List.length_singleton,List.length_cons,List.length_nil] at*;omega):p:=h
theorem Yh{p:Prop}(h:p:=by simp[h,Op.operands]):p:=h
theorem Yi{p:Prop}(h:p:=by unfold numP mostP;(repeat' split) <;> first | rfl | omega | (simp_all;done)):p:=h
theorem Yj{p:Prop}(h:p:=by first | rfl | simp_all [strip]):p:=h
theorem Yk{p:Prop}(h:p:=by simp[h]):p:=h
theorem Yl{p:Prop}(h:p:=by simp[h,Op.operands,Call.operands]):p:=h
theorem Ym{p:Prop}(h:p:=by unfold kidsR kindOf;simp_all <;> (intro a;omega)):p:=h
theorem Yn{p:Prop}(h:p:=by simp):p:=h
theorem Yo{p:Prop}(h:p:=by have:=ownT_len (cs:=p.classes) (i:=i) k (λc h=>(hc c h).2);have h1000:=Nat.mul_le_mul_left 1000 hs;simp only[List.length_map,List.length_singleton,List.length_cons,List.length_nil];omega):p:=h
theorem Yp{p:Prop}(h:p:=by simp[Op.operands]):p:=h
theorem Yq{p:Prop}(h:p:=by first | exact POp.ld1 rfl rfl rfl rfl | (apply POp.ld1H rfl rfl rfl;(case hm=>repeat (first | exact .head _ | refine .tail _ ?_));(case hy=>rfl))):p:=h
theorem Yr{p:Prop}(h:p:=by repeat (first | exact Del.head _ _ | apply Del.tail)):p:=h
theorem Ys{p:Prop}(h:p:=by simp_all):p:=h
theorem Yt{p:Prop}(h:p:=by have h9:=dropH_len h (A.take k);simp only[List.length_map,List.length_take,List.length_singleton,List.length_cons,List.length_nil] at*;omega):p:=h
theorem Yu{p:Prop}(h:p:=by first | exact POp.taYes rfl rfl rfl | exact POp.taNo rfl rfl rfl rfl | exact POp.taNil rfl rfl rfl):p:=h
theorem Yv{p:Prop}(h:p:=by repeat (first | exact .head _ | refine .tail _ ?_)):p:=h
theorem Yw{p:Prop}(h:p:=by first | exact POp.nilCheck rfl rfl rfl | exact POp.nilCheckP rfl rfl rfl | exact POp.nilCheckF rfl rfl rfl):p:=h
theorem Yx{p:Prop}(h:p:=by first | exact .cellA inferInstance rfl (by repeat (first | exact .head _ | refine .tail _ ?_)) rfl rfl (.tmp rfl (.nil)) | exact .ptrA inferInstance rfl rfl (.tmp rfl (.nil))):p:=h
theorem Yy{p:Prop}(h:p:=by simp only[maxLen];omega):p:=h
theorem Yz{p:Prop}(h:p:=by rw[hd];exact next):p:=h
theorem YA{p:Prop}(h:p:=by rw[tmps_put_size];exact s.size):p:=h
theorem YB{p:Prop}(h:p:=by simp;omega):p:=h
theorem YC{p:Prop}(h:p:=by first | exact POp.ixM rfl rfl rfl rfl rfl ⟨hp0,hp1⟩ | exact POp.ixI rfl rfl rfl rfl rfl ⟨hp0,hp1⟩):p:=h
theorem YD{p:Prop}(h:p:=by first | exact POp.ld1 rfl rfl rfl rfl | (apply POp.ld1H rfl rfl rfl;(case hm=>exact List.mem_append_right _ (.head _));(case hy=>rfl))):p:=h
theorem YE{p:Prop}(h:p:=by rw[put_defers];exact s.ds):p:=h
theorem YF{p:Prop}(h:p:=by first | exact POp.ld1 rfl rfl rfl rfl | (apply POp.ld1H rfl rfl rfl;(case hm=>exact .tail _ (hm _ (.head _)));(case hy=>rfl))):p:=h
theorem YG{p:Prop}(h:p:=by have e:k=l.length:=(by omega);rw[e,List.take_length] at hp;exact hp):p:=h
theorem YH{p:Prop}(h:p:=by first | exact λ_=>rfl | exact λh=>h | (intro h;rw[h];rfl) | (intro h;simp_all)):p:=h
theorem YI{p:Prop}(h:p:=by first | exact POp.call (.inv rfl rfl rfl (by kernel_rfl) rfl rfl) (argMany p (ndOf p x) hx0 hx1) | exact POp.call (.inv rfl rfl rfl (by kernel_rfl) rfl rfl) (soMany kk p (ndOf p x))):p:=h
theorem YJ{p:Prop}(h:p:=by first | exact POp.fa rfl rfl rfl rfl | exact POp.faP rfl rfl rfl rfl):p:=h
theorem YK{p:Prop}(h:p:=by have h9:=List.length_filter_le (· !=x) (l.take i);simp only[List.length_map,List.length_take,List.length_singleton,List.length_cons,List.length_nil] at*;omega):p:=h
theorem YL{p:Prop}(h:p:=by first | exact POp.ldA rfl rfl rfl rfl | (apply POp.ldAH rfl rfl rfl;(case hm=>exact List.mem_append_right _ (.tail _ (.head _)));(case hy=>rfl);(case hn=>rfl))):p:=h
theorem YM{p:Prop}(h:p:=by intro v q hq;rcases q with _ | _ | _ | _ | _ | _ | q <;> first | rfl | (cases hq)):p:=h
theorem YN{p:Prop}(h:p:=by simpa using h):p:=h
theorem YO{p:Prop}(h:p:=by have h9:=List.length_filter_le p (l.take i);simp only[List.length_map,List.length_take,List.length_singleton,List.length_cons,List.length_nil] at*;omega):p:=h
theorem YP{p:Prop}(h:p:=by rw[List.length_map];omega):p:=h
theorem YQ{p:Prop}(h:p:=by first | exact .cellA inferInstance rfl (by repeat (first | exact .head _ | refine .tail _ ?_)) rfl rfl (.nil) | exact .ptrA inferInstance rfl rfl (.nil)):p:=h
theorem YR{p:Prop}(h:p:=by show -1000<=_/\_<=1000+(1:Int);simp only[bodyV];omega):p:=h
theorem YS{p:Prop}(h:p:=by first | exact POp.ixM rfl rfl rfl rfl rfl (by rw[parsOf_len];exact hc) | exact POp.ixI rfl rfl rfl rfl rfl (by rw[parsOf_len];exact hc)):p:=h
theorem YT{p:Prop}(h:p:=by first | rfl | exact hg | simp_all):p:=h
theorem YU{p:Prop}(h:p:=by rw[List.cons_append,List.cons_append,List.append_assoc];exact .cons _ (.cons _ (.append_left _ (List.perm_append_comm_assoc _ _ _)))):p:=h
theorem YV{p:Prop}(h:p:=by rw[hn];decide):p:=h
theorem YW{p:Prop}(h:p:=by first | exact POp.ixM rfl rfl rfl rfl rfl ⟨by omega,by omega⟩ | exact POp.ixI rfl rfl rfl rfl rfl ⟨by omega,by omega⟩):p:=h
theorem YX{p:Prop}(h:p:=by first | exact POp.ixM rfl rfl rfl rfl rfl (by rw[hpi];omega) | exact POp.ixI rfl rfl rfl rfl rfl (by rw[hpi];omega)):p:=h
theorem YY{p:Prop}(h:p:=by simp only[List.length_map,List.length_singleton,List.length_append,List.length_cons,List.length_nil] at*;omega):p:=h
theorem YZ{p:Prop}(h:p:=by rw[s.size];exact hd):p:=h
theorem Y0{p:Prop}(h:p:=by have:=hg;simp only[Bool.not_eq_true',Bool.not_not,ownP,Bool.and_eq_true,decide_eq_true_eq] at this;omega):p:=h
theorem Y1{p:Prop}(h:p:=by simp only[kidV];omega):p:=h
theorem Y2{p:Prop}(h:p:=by subst hby;have:((i.bytes*n:Nat):Int)<=281474976710656:=(by omega);rwa [Int.natCast_mul] at this):p:=h
theorem Y3{p:Prop}(h:p:=by first | assumption | omega):p:=h
theorem Y4{p:Prop}(h:p:=by simp only[Bool.cond_true_left,Bool.not_eq_true',Bool.or_eq_false_iff,decide_eq_false_iff_not] at hg;omega):p:=h
theorem Y5{p:Prop}(h:p:=by rw[List.length_append,List.length_singleton];omega):p:=h
theorem Y6{p:Prop}(h:p:=by unfold smallKey;omega):p:=h
theorem Y7{p:Prop}(h:p:=by simpa using h1):p:=h
theorem Y8{p:Prop}(h:p:=by have:=run_indexSl ht b q n c kk (j:Int) (by omega) (by omega) w;simp[execOp,h,hu,hiv,this]):p:=h
theorem Y9{p:Prop}(h:p:=by simp_all [kindOf,kindA] <;> rfl):p:=h
theorem Yaa{p:Prop}(h:p:=by unfold numP mostP;simp_all):p:=h
theorem Yab{p:Prop}(h:p:=by cases h):p:=h
theorem Yac{p:Prop}(h:p:=by simp only[List.length_append,List.length_take,hx.2];omega):p:=h
theorem Yad{p:Prop}(h:p:=by revert hf;cases fineP (graphP p) <;> cases ((slotsCnt p.classes:Int)==p.slots) <;> simp):p:=h
theorem Yae{p:Prop}(h:p:=by rw[List.mem_take_iff_getElem];exact⟨j,by omega,rfl⟩):p:=h
theorem Yaf{p:Prop}(h:p:=by have h9:=slotsU_len W c i;simp only[List.length_map,List.length_singleton] at*;omega):p:=h
theorem Yag{p:Prop}(h:p:=by rw[tmps_put_size];exact sat.size):p:=h
theorem Yah{p:Prop}(h:p:=by simp[hop]):p:=h
theorem Yai{p:Prop}(h:p:=by simp only[Bool.cond_false_right];exact h1):p:=h
theorem Yaj{p:Prop}(h:p:=by simpa using h2):p:=h
theorem Yak{p:Prop}(h:p:=by simp only[Bool.cond_false_right,Bool.and_eq_true,decide_eq_true_eq] at h31;omega):p:=h
theorem Yal{p:Prop}(h:p:=by show (Nat.lor R0 R').testBit y=true;rw[lor_bit,Bool.or_eq_true];exact .inl hy):p:=h
theorem Yam{p:Prop}(h:p:=by repeat (first | exact Upd.head _ _ _ | apply Upd.tail)):p:=h
theorem Yan{p:Prop}(h:p:=by have h9:=hg;simp only[isGen,Bool.and_eq_true,decide_eq_true_eq] at h9;omega):p:=h
theorem Yao{p:Prop}(h:p:=by have e:k=l.length:=(by omega);rw[e,List.take_length] at hJ1;exact hJ1):p:=h
theorem Yap{p:Prop}(h:p:=by rcases hkey with⟨_,h2⟩ | ⟨h1,_⟩;exact h2;rw[hbb] at h1;cases h1):p:=h
theorem Yaq{p:Prop}(h:p:=by have:=(envOf_get xs 0 t y hy).2;simpa using this):p:=h
theorem Yar{p:Prop}(h:p:=by rw[put_defers];exact sat.ds):p:=h
theorem Yas{p:Prop}(h:p:=by simpa [or_assoc,and_assoc] using h0):p:=h
theorem Yat{p:Prop}(h:p:=by simp only[kidV];split <;> omega):p:=h
theorem Yau{p:Prop}(h:p:=by simp[execOp,h,Instr.box,newVar,newRow]):p:=h
theorem Yav{p:Prop}(h:p:=by rfl):p:=h
theorem Yaw{p:Prop}(h:p:=by exact rfl):p:=h
theorem Yax{p:Prop}(h:p:=by simpa using hw.base):p:=h
theorem Yay{p:Prop}(h:p:=by simpa [Nat.blt] using h):p:=h
theorem Yaz{p:Prop}(h:p:=by have:=p.len j k hk;omega):p:=h
theorem YaA{p:Prop}(h:p:=by show (1:Int)<=1;omega):p:=h
theorem YaB{p:Prop}(h:p:=by simp[hl2,hlen0]):p:=h
theorem YaC{p:Prop}(h:p:=by simpa using hx):p:=h
theorem YaD{p:Prop}(h:p:=by rw[hok] at hbb;exact hbb):p:=h
theorem YaE{p:Prop}(h:p:=by simp at h;exact h▸hx):p:=h
theorem YaF{p:Prop}(h:p:=by rw[parsOf_len];exact hc):p:=h
theorem YaG{p:Prop}(h:p:=by rw[hno];rfl):p:=h
theorem YaH{p:Prop}(h:p:=by rw[hn];rfl):p:=h
end Go
set_option linter.unusedVariables false
set_option linter.unusedSimpArgs false
set_option linter.unnecessarySimpa false
namespace Go.Eng
open Go.RowKit (Below)
inductive AV where
 | any
 | val (v:Value)
 | sl (k:Nat) (els:List (List AV))
 | as (x:AV) (v:Value)
 | opt (g:Bool) (x:AV)
 | agg (cs:List AV)
 | tup (xs:List AV)
 | fn (f:Fn) (first caps:List AV)
 | iface (t:TypeId) (x:AV)
 | ptr (cells:List AV)
 | e0
 | one
 deriving Inhabited
abbrev AV.i(n:Int):AV:=.val (.int .i64 n)
abbrev AV.b(x:Bool):AV:=.val (.bool x)
abbrev AV.p(b o:Nat):AV:=.val (.pointer (some ⟨b,o,none⟩))
abbrev Imm:=Nat->Nat->Prop
mutual
inductive Rel(I:Imm)(w:World):AV->Value->Prop
 | any (v:Value):Rel I w .any v
 | val (v:Value):Rel I w (.val v) v
 | sl0 (k:Nat) (a:Option Addr) (c:Nat):Rel I w (.sl k []) (.slice a 0 c)
 | sl (k:Nat) (els:List (List AV)) (b off len cap:Nat) (hl:els.length=len) (hc:len<=cap) (hm:cap<=maxLen) (h:Els I w k b off els):Rel I w (.sl k els) (.slice (some ⟨b,off,none⟩) len cap)
 | as (x:AV) (v:Value) (h:Rel I w x v):Rel I w (.as x v) v
 | opt (g:Bool) (x:AV) (v:Value) (h:g=true->Rel I w x v) (h0:g=false->v=undef):Rel I w (.opt g x) v
 | agg (cs:List AV) (vs:Array Value) (h:RelL I w cs vs.toList):Rel I w (.agg cs) (.agg vs)
 | tup (cs:List AV) (vs:Array Value) (h:RelL I w cs vs.toList):Rel I w (.tup cs) (.tuple vs)
 | fn (f:Fn) (fs cs:List AV) (vf vc:Array Value) (hf:RelL I w fs vf.toList) (hc:RelL I w cs vc.toList):Rel I w (.fn f fs cs) (.func f vf vc)
 | iface (t:TypeId) (x:AV) (v:Value) (h:Rel I w x v):Rel I w (.iface t x) (.iface t v)
 | ptr (cs:List AV) (b o:Nat) (h:Cells I w b o cs):Rel I w (.ptr cs) (.pointer (some ⟨b,o,none⟩))
 | e0 (a:Option Addr):Rel I w .e0 (.slice a 0 0)
 | single (v:Value) (h:v.oneCell'=true):Rel I w .one v
inductive RelL(I:Imm)(w:World):List AV->List Value->Prop
 | nil:RelL I w [] []
 | cons (x:AV) (v:Value) (xs:List AV) (vs:List Value) (h:Rel I w x v) (t:RelL I w xs vs):RelL I w (x::xs) (v::vs)
inductive Cells(I:Imm)(w:World):Nat->Nat->List AV->Prop
 | nil (b o:Nat):Cells I w b o []
 | cons (b o:Nat) (x:AV) (c:Value) (xs:List AV) (hc:w.cell? ⟨b,o,none⟩=some c) (hI:I b o) (h:Rel I w x c) (t:Cells I w b (o+1) xs):Cells I w b o (x::xs)
inductive Els(I:Imm)(w:World):Nat->Nat->Nat->List (List AV)->Prop
 | nil (k b o:Nat):Els I w k b o []
 | cons (k b o:Nat) (cs:List AV) (rest:List (List AV)) (hk:cs.length=k) (h:Cells I w b o cs) (t:Els I w k b (o+k) rest):Els I w k b o (cs::rest)
end
structure Ext(B:Nat)(I:Imm)(w:World)(I':Imm)(w':World):Prop where
 imm:∀b o,I b o->I' b o
 cell:∀b o,I b o->w'.cell? ⟨b,o,none⟩=w.cell? ⟨b,o,none⟩
 below:Below B w w'
theorem Ext.refl(B:Nat)(I:Imm)(w:World):Ext B I w I w:=⟨λ_ _ h=>h,λ_ _ _=>rfl,Below.refl _ _⟩
theorem Ext.trans{B:Nat}{I J K:Imm}{w w' w'':World}(h:Ext B I w J w')(h':Ext B J w' K w''):Ext B I w K w'':=
 ⟨λb o x=>h'.imm b o (h.imm b o x),λb o x=>(h'.cell b o (h.imm b o x)).trans (h.cell b o x),h.below.trans h'.below⟩
theorem Ext.drew{B:Nat}{I J:Imm}{w w':World}(h:Ext B I w J w'):Ext B I w J w'.drew:=⟨h.imm,h.cell,h.below.drew⟩
structure Keeps(I:Imm)(w:World)(I':Imm)(w':World):Prop where
 imm:∀b o,I b o->I' b o
 cell:∀b o,I b o->w'.cell? ⟨b,o,none⟩=w.cell? ⟨b,o,none⟩
theorem Ext.keeps{B:Nat}{I J:Imm}{w w':World}(h:Ext B I w J w'):Keeps I w J w':=⟨h.imm,h.cell⟩
mutual
theorem Rel.keep{I I':Imm}{w w':World}(h:Keeps I w I' w'):∀{x:AV} {v:Value},Rel I w x v->Rel I' w' x v
 | _,_,.any v=>.any v
 | _,_,.val v=>.val v
 | _,_,.sl0 k a c=>.sl0 k a c
 | _,_,.sl k els b off len cap hl hc hm he=>.sl k els b off len cap hl hc hm (Els.keep h he)
 | _,_,.as x v hx=>.as x v (Rel.keep h hx)
 | _,_,.opt g x v hx h0=>.opt g x v (λe=>Rel.keep h (hx e)) h0
 | _,_,.agg cs vs hl=>.agg cs vs (RelL.keep h hl)
 | _,_,.tup cs vs hl=>.tup cs vs (RelL.keep h hl)
 | _,_,.fn f fs cs vf vc hf hc=>.fn f fs cs vf vc (RelL.keep h hf) (RelL.keep h hc)
 | _,_,.iface t x v hx=>.iface t x v (Rel.keep h hx)
 | _,_,.ptr cs b o hc=>.ptr cs b o (Cells.keep h hc)
 | _,_,.e0 a=>.e0 a
 | _,_,.single v h=>.single v h
theorem RelL.keep{I I':Imm}{w w':World}(h:Keeps I w I' w'):∀{xs:List AV} {vs:List Value},RelL I w xs vs->RelL I' w' xs vs
 | _,_,.nil=>.nil
 | _,_,.cons x v xs vs hx ht=>.cons x v xs vs (Rel.keep h hx) (RelL.keep h ht)
theorem Cells.keep{I I':Imm}{w w':World}(h:Keeps I w I' w'):∀{b o:Nat} {xs:List AV},Cells I w b o xs->Cells I' w' b o xs
 | _,_,_,.nil b o=>.nil b o
 | _,_,_,.cons b o x c xs hc hI hx ht=>.cons b o x c xs ((h.cell b o hI).trans hc) (h.imm b o hI) (Rel.keep h hx) (Cells.keep h ht)
theorem Els.keep{I I':Imm}{w w':World}(h:Keeps I w I' w'):∀{k b o:Nat} {xs:List (List AV)},Els I w k b o xs->Els I' w' k b o xs
 | _,_,_,_,.nil k b o=>.nil k b o
 | _,_,_,_,.cons k b o cs rest hk hc ht=>.cons k b o cs rest hk (Cells.keep h hc) (Els.keep h ht)
end
theorem RelL.length{I:Imm}{w:World}:∀{xs:List AV} {vs:List Value},RelL I w xs vs->vs.length=xs.length
 | _,_,.nil=>rfl
 | _,_,.cons _ _ _ _ _ t=>by simp[RelL.length t]
theorem RelL.get{I:Imm}{w:World}:∀{xs:List AV} {vs:List Value},RelL I w xs vs->∀{i:Nat} {x:AV},xs[i]? =some x->∃v,vs[i]? =some v/\Rel I w x v
 | _,_,.nil,_,_,h=>by simp at h
 | _,_,.cons x v xs vs hx ht,0,y,h=>⟨v,Yn,YaE⟩
 | _,_,.cons x v xs vs hx ht,i+1,y,h=>by
  obtain⟨u,h1,h2⟩:=ht.get (i:=i) (x:=y) YN;exact⟨u,Y7,h2⟩
theorem Cells.get{I:Imm}{w:World}:∀{b o:Nat} {xs:List AV},Cells I w b o xs->∀{i:Nat} {x:AV},xs[i]? =some x->∃c,w.cell? ⟨b,o+i,none⟩=some c/\I b (o+i)/\Rel I w x c
 | _,_,_,.nil _ _,_,_,h=>by simp at h
 | _,_,_,.cons b o x c xs hc hI hx ht,0,y,h=>⟨c,by simpa using hc,by simpa using hI,YaE⟩
 | _,_,_,.cons b o x c xs hc hI hx ht,i+1,y,h=>by
  obtain⟨u,h1,h2,h3⟩:=ht.get (i:=i) (x:=y) YN;refine⟨u,?_,?_,h3⟩
  ·rw[<-h1];congr 2;omega
  ·have:o+(i+1)=o+1+i:=by omega
   rw[this];exact h2
theorem Cells.drop{I:Imm}{w:World}:∀(i:Nat) {b o:Nat} {xs:List AV},Cells I w b o xs->Cells I w b (o+i) (xs.drop i)
 | 0,_,_,_,h=>h
 | i+1,_,_,_,.nil b o=>.nil b _
 | i+1,_,_,_,.cons b o x c xs hc hI hx ht=>by
  have:=Cells.drop i ht;have e:o+(i+1)=o+1+i:=by omega
  rw[e];exact this
theorem Cells.take{I:Imm}{w:World}:∀(i:Nat) {b o:Nat} {xs:List AV},Cells I w b o xs->Cells I w b o (xs.take i)
 | 0,_,_,_,_=>.nil _ _
 | i+1,_,_,_,.nil b o=>.nil b o
 | i+1,_,_,_,.cons b o x c xs hc hI hx ht=>.cons b o x c _ hc hI hx (Cells.take i ht)
theorem Cells.append{I:Imm}{w:World}:∀{b o:Nat} {xs ys:List AV},Cells I w b o xs->Cells I w b (o+xs.length) ys->Cells I w b o (xs++ys)
 | _,_,_,_,.nil b o,h=>by simpa using h
 | _,_,_,ys,.cons b o x c xs hc hI hx ht,h=>by
  refine .cons b o x c _ hc hI hx (Cells.append ht ?_);have e:o+(x::xs).length=o+1+xs.length:=by simp;omega
  rw[<-e];exact h
theorem Els.get{I:Imm}{w:World}:∀{k b o:Nat} {xs:List (List AV)},Els I w k b o xs->∀{i:Nat} {cs:List AV},xs[i]? =some cs->cs.length=k/\Cells I w b (o+i*k) cs
 | _,_,_,_,.nil _ _ _,_,_,h=>by simp at h
 | _,_,_,_,.cons k b o cs rest hk hc ht,0,y,h=>by simp at h;subst h;exact⟨hk,by simpa using hc⟩
 | _,_,_,_,.cons k b o cs rest hk hc ht,i+1,y,h=>by
  obtain⟨h1,h2⟩:=ht.get (i:=i) (cs:=y) YN;refine⟨h1,?_⟩;have e:o+(i+1)*k=o+k+i*k:=by rw[Nat.add_mul];omega
  rw[e];exact h2
theorem Els.drop{I:Imm}{w:World}:∀(i:Nat) {k b o:Nat} {xs:List (List AV)},Els I w k b o xs->Els I w k b (o+i*k) (xs.drop i)
 | 0,_,_,_,_,h=>by simpa using h
 | i+1,_,_,_,_,.nil k b o=>.nil _ _ _
 | i+1,_,_,_,_,.cons k b o cs rest hk hc ht=>by
  have:=Els.drop i ht;have e:o+(i+1)*k=o+k+i*k:=by rw[Nat.add_mul];omega
  rw[e];exact this
theorem Els.take{I:Imm}{w:World}:∀(i:Nat) {k b o:Nat} {xs:List (List AV)},Els I w k b o xs->Els I w k b o (xs.take i)
 | 0,_,_,_,_,_=>.nil _ _ _
 | i+1,_,_,_,_,.nil k b o=>.nil _ _ _
 | i+1,_,_,_,_,.cons k b o cs rest hk hc ht=>.cons k b o cs _ hk hc (Els.take i ht)
theorem Els.append{I:Imm}{w:World}:∀{k b o:Nat} {xs ys:List (List AV)},Els I w k b o xs->Els I w k b (o+xs.length*k) ys->Els I w k b o (xs++ys)
 | _,_,_,_,_,.nil k b o,h=>by simpa using h
 | _,_,_,_,ys,.cons k b o cs rest hk hc ht,h=>by
  refine .cons k b o cs _ hk hc (Els.append ht ?_);have e:o+(cs::rest).length*k=o+k+rest.length*k:=by rw[List.length_cons,Nat.add_mul];omega
  rw[<-e];exact h
theorem Els.cells{I:Imm}{w:World}:∀{k b o:Nat} {xs:List (List AV)},Els I w k b o xs->Cells I w b o xs.flatten
 | _,_,_,_,.nil k b o=>.nil _ _
 | _,_,_,_,.cons k b o cs rest hk hc ht=>by
  rw[List.flatten_cons];exact Cells.append hc (by rw[hk];exact ht.cells)
theorem Els.flatten_length{I:Imm}{w:World}:∀{k b o:Nat} {xs:List (List AV)},Els I w k b o xs->xs.flatten.length=xs.length*k
 | _,_,_,_,.nil k b o=>by simp
 | _,_,_,_,.cons k b o cs rest hk hc ht=>by rw[List.flatten_cons,List.length_append,ht.flatten_length,hk,List.length_cons,Nat.add_mul];omega
theorem Cells.values{I:Imm}{w:World}:∀{b o:Nat} {xs:List AV},Cells I w b o xs->∃vs:List Value,RelL I w xs vs/\∀j v,vs[j]? =some v->w.cell? ⟨b,o+j,none⟩=some v
 | _,_,_,.nil b o=>⟨[],.nil,Yn⟩
 | _,_,_,.cons b o x c xs hc hI hx ht=>by
  obtain⟨vs,h1,h2⟩:=ht.values;refine⟨c::vs,.cons _ _ _ _ hx h1,λj v h=>?_⟩;cases j with
  | zero=>simp at h;subst h;simpa using hc
  | succ j=>
   have:=h2 j v YN;have e:o+(j+1)=o+1+j:=by omega
   rw[e];exact this
inductive Ent where
 | blk (b:Nat) (t:TypeId) (cs:List AV)
 | own (t:TypeId) (k:Nat) (v:Value)
 | row (t:TypeId) (k:Nat) (v:Value) (n:Nat) (cs:List AV)
 | obj (b:Nat) (o:Obj)
 | map (b:Nat) (es:List (Value×AV))
 | loop (b:Nat) (lp:Loop) (ρ:Nat->Option AV)
 | lmap (b:Nat) (good:Value->Prop) (κ:Value->List AV) (d:List AV)
 deriving Inhabited
def Ent.foot:Ent->Option Nat
 | .blk b _ _=>some b
 | .own _ _ v=>v.ownBlock
 | .row _ _ v _ _=>v.ownBlock
 | .obj b _=>some b
 | .map b _=>some b
 | .loop b _ _=>some b
 | .lmap b _ _ _=>some b
def Ent.ok(B:Nat)(I:Imm)(w:World):Ent->Prop
 | .blk b t cs=>B<=b/\∃vs:Array Value,w.heap[b]? =some (.cells vs t (0,0))/\RelL I w cs vs.toList/\∀o,¬I b o
 | .own t k v=>∃n xs,w.ownsRow B t k v n xs/\∀g,v.ownBlock=some g->∀o,n*k<=o->¬I g o
 | .row t k v n cs=>∃xs,w.ownsRow B t k v n xs/\RelL I w cs xs/\∀g,v.ownBlock=some g->∀o,¬I g o
 | .obj b ob=>B<=b/\w.heap[b]? =some ob/\∀o,¬I b o
 | .map b es=>B<=b/\(∃(entries:Array MapEntry) (clock:Nat),w.heap[b]? =some (.map entries clock)/\entries.toList.map (·.key)=es.map (·.1)/\RelL I w (es.map (·.2)) (entries.toList.map (·.val)))/\∀o,¬I b o
 | .lmap b good κ d=>B<=b/\(∃(entries:Array MapEntry) (clock:Nat),w.heap[b]? =some (.map entries clock)/\(∀e∈entries.toList,good e.key/\Rel I w (.ptr (κ e.key)) e.val)/\∀v,good v->(∀e∈entries.toList,e.key≠v)->κ v=d)/\∀o,¬I b o
 | .loop b lp ρ=>B<=b/\w.heap[b]? =some (.loop lp)/\(∀t x,ρ t=some x->Rel I w x (lp.tmps.getD t undef))/\∀o,¬I b o
structure HeapOk(B:Nat)(I:Imm)(w:World)(H:List Ent):Prop where
 ok:∀e∈H,e.ok B I w
 apart:H.Pairwise λe f=>∀b,e.foot=some b->f.foot≠some b
structure WOk(B:Nat)(I:Imm)(w:World):Prop where
 base:B<=w.heap.size
 there:∀b o,I b o->∃c,w.cell? ⟨b,o,none⟩=some c
theorem WOk.lt{B:Nat}{I:Imm}{w:World}(h:WOk B I w){b o:Nat}(hI:I b o):b<w.heap.size:=by
 obtain⟨c,hc⟩:=h.there b o hI;exact World.block_lt_of_cell? (a:=⟨b,o,none⟩) w hc
theorem WOk.drew{B:Nat}{I:Imm}{w:World}(h:WOk B I w):WOk B I w.drew:=⟨h.base,h.there⟩
theorem Ent.foot_lt{B:Nat}{I:Imm}{w:World}{e:Ent}(h:e.ok B I w){b:Nat}(hb:e.foot=some b):B<=b/\b<w.heap.size:=by
 cases e with
 | blk b' t cs=>
  obtain⟨h1,vs,h2,_⟩:=h;simp[Ent.foot] at hb;subst hb;exact⟨h1,(Array.getElem?_eq_some_iff.1 h2).1⟩
 | own t k v=>
  obtain⟨n,xs,h1,_⟩:=h;exact h1.lt b hb
 | row t k v n cs=>
  obtain⟨xs,h1,_⟩:=h;exact h1.lt b hb
 | obj b' o=>
  simp[Ent.foot] at hb;subst hb;exact⟨h.1,(Array.getElem?_eq_some_iff.1 h.2.1).1⟩
 | map b' es=>
  simp[Ent.foot] at hb;subst hb;obtain⟨h1,⟨en,cl,h2,_⟩,_⟩:=h;exact⟨h1,(Array.getElem?_eq_some_iff.1 h2).1⟩
 | loop b' lp ρ=>
  simp[Ent.foot] at hb;subst hb;exact⟨h.1,(Array.getElem?_eq_some_iff.1 h.2.1).1⟩
 | lmap b' good κ d=>
  simp[Ent.foot] at hb;subst hb;obtain⟨h1,⟨en,cl,h2,_⟩,_⟩:=h;exact⟨h1,(Array.getElem?_eq_some_iff.1 h2).1⟩
theorem HeapOk.nil{B:Nat}{I:Imm}{w:World}:HeapOk B I w []:=⟨Yn,.nil⟩
theorem HeapOk.tail{B:Nat}{I:Imm}{w:World}{e:Ent}{H:List Ent}(h:HeapOk B I w (e::H)):HeapOk B I w H:=
 ⟨λx hx=>h.ok x (.tail _ hx),(List.pairwise_cons.1 h.apart).2⟩
theorem HeapOk.sub{B:Nat}{I:Imm}{w:World}{H H':List Ent}(h:HeapOk B I w H)(hs:H'.Sublist H):HeapOk B I w H':=
 ⟨λx hx=>h.ok x (hs.subset hx),h.apart.sublist hs⟩
theorem Ent.keep{B:Nat}{I I':Imm}{w w':World}{e:Ent}(h:e.ok B I w)(hk:Keeps I w I' w')(hb:∀b,e.foot=some b->w'.heap[b]? =w.heap[b]?)
  (hi:∀b,e.foot=some b->∀o,I' b o->I b o):e.ok B I' w':=by
 cases e with
 | blk b t cs=>
  obtain⟨h1,vs,h2,h3,h4⟩:=h;exact⟨h1,vs,(hb b rfl).trans h2,h3.keep hk,λo ho=>h4 o (hi b rfl o ho)⟩
 | own t k v=>
  obtain⟨n,xs,h1,h2⟩:=h;refine⟨n,xs,?_,λg hg o ho hI=>h2 g hg o ho (hi g hg o hI)⟩;refine⟨h1.1,?_⟩;rcases h1.2 with hn | ⟨g,cap,cur,rfl,hbb,hgg,rest⟩
  ·exact .inl hn
  ·exact .inr ⟨g,cap,cur,rfl,hbb,(hb g rfl).trans hgg,rest⟩
 | row t k v n cs=>
  obtain⟨xs,h1,hr,h2⟩:=h;refine⟨xs,?_,hr.keep hk,λg hg o hI=>h2 g hg o (hi g hg o hI)⟩;refine⟨h1.1,?_⟩;rcases h1.2 with hn | ⟨g,cap,cur,rfl,hbb,hgg,rest⟩
  ·exact .inl hn
  ·exact .inr ⟨g,cap,cur,rfl,hbb,(hb g rfl).trans hgg,rest⟩
 | obj b o=>exact⟨h.1,(hb b rfl).trans h.2.1,λo' ho=>h.2.2 o' (hi b rfl o' ho)⟩
 | map b es=>
  obtain⟨h1,⟨en,cl,h2,h3,h4⟩,h5⟩:=h;exact⟨h1,⟨en,cl,(hb b rfl).trans h2,h3,h4.keep hk⟩,λo ho=>h5 o (hi b rfl o ho)⟩
 | lmap b good κ d=>
  obtain⟨h1,⟨en,cl,h2,h3,h4⟩,h5⟩:=h;exact⟨h1,⟨en,cl,(hb b rfl).trans h2,λe he=>⟨(h3 e he).1,(h3 e he).2.keep hk⟩,h4⟩,λo ho=>h5 o (hi b rfl o ho)⟩
 | loop b lp ρ=>exact⟨h.1,(hb b rfl).trans h.2.1,λt x ht=>(h.2.2.1 t x ht).keep hk,λo' ho=>h.2.2.2 o' (hi b rfl o' ho)⟩
theorem HeapOk.keep{B:Nat}{I I':Imm}{w w':World}{H:List Ent}(h:HeapOk B I w H)(hk:Keeps I w I' w')(hb:∀e∈H,∀b,e.foot=some b->w'.heap[b]? =w.heap[b]?)
  (hi:∀e∈H,∀b,e.foot=some b->∀o,I' b o->I b o):HeapOk B I' w' H:=
 ⟨λe he=>Ent.keep (h.ok e he) hk (hb e he) (hi e he),h.apart⟩
theorem HeapOk.drew{B:Nat}{I:Imm}{w:World}{H:List Ent}(h:HeapOk B I w H):HeapOk B I w.drew H:=
 h.keep ⟨λ_ _ x=>x,λ_ _ _=>rfl⟩ (λ_ _ _ _=>rfl) (λ_ _ _ _ _ x=>x)
theorem keeps_alloc{B:Nat}{I:Imm}{w:World}(h:WOk B I w)(o:Obj):Keeps I w I (w.alloc o):=
 ⟨λ_ _ x=>x,λb i x=>World.cell?_alloc_lt w o ⟨b,i,none⟩ (h.lt x)⟩
theorem ext_alloc{B:Nat}{I:Imm}{w:World}(h:WOk B I w)(o:Obj):Ext B I w I (w.alloc o):=
 ⟨λ_ _ x=>x,λb i x=>World.cell?_alloc_lt w o ⟨b,i,none⟩ (h.lt x),(Below.refl _ _).alloc h.base o⟩
theorem WOk.alloc{B:Nat}{I:Imm}{w:World}(h:WOk B I w)(o:Obj):WOk B I (w.alloc o):=
 ⟨by have:=h.base;simp;omega,λb i x=>by rw[(keeps_alloc h o).cell b i x];exact h.there b i x⟩
theorem HeapOk.alloc{B:Nat}{I:Imm}{w:World}{H:List Ent}(h:HeapOk B I w H)(hw:WOk B I w)(o:Obj):HeapOk B I (w.alloc o) H:=
 h.keep (keeps_alloc hw o) (λe he b hb=>Below.heap_alloc w o b (Ent.foot_lt (h.ok e he) hb).2) (λ_ _ _ _ _ x=>x)
theorem HeapOk.new{B:Nat}{I:Imm}{w:World}{H:List Ent}(h:HeapOk B I w H)(hw:WOk B I w)(t:TypeId)(cs:List AV)(vs:Array Value)(hv:RelL I w cs vs.toList):
  HeapOk B I (w.alloc (.cells vs t)) (.blk w.heap.size t cs::H):=by
 have h':=h.alloc hw (.cells vs t);refine⟨λe he=>?_,List.pairwise_cons.2 ⟨λf hf b hb=>?_,h'.apart⟩⟩
 ·rcases List.mem_cons.1 he with rfl | he
  ·refine⟨hw.base,vs,heap_alloc_new w _,hv.keep (keeps_alloc hw _),λo ho=>?_⟩;exact absurd (hw.lt ho) (Nat.lt_irrefl _)
  ·exact h'.ok e he
 ·simp[Ent.foot] at hb;subst hb;intro e;exact absurd (Ent.foot_lt (h.ok f hf) e).2 (Nat.lt_irrefl _)
def Imm.add(I:Imm)(b:Nat)(n:Nat):Imm:=λb' o=>I b' o\/(b'=b/\o<n)
theorem Imm.add_new{B:Nat}{I:Imm}{w:World}(hw:WOk B I w)(t:TypeId)(vs:Array Value):
  WOk B (I.add w.heap.size vs.size) (w.alloc (.cells vs t))/\Ext B I w (I.add w.heap.size vs.size) (w.alloc (.cells vs t))/\
  (∀H,HeapOk B I w H->HeapOk B (I.add w.heap.size vs.size) (w.alloc (.cells vs t)) H)/\
  (∀xs:List AV,RelL I w xs vs.toList->Cells (I.add w.heap.size vs.size) (w.alloc (.cells vs t)) w.heap.size 0 xs):=by
 have e:=ext_alloc hw (.cells vs t);have k:Keeps I w (I.add w.heap.size vs.size) (w.alloc (.cells vs t)):=⟨λ_ _ x=>.inl x,e.cell⟩;refine⟨⟨(hw.alloc _).base,λb o h=>?_⟩,⟨k.imm,k.cell,e.below⟩,λH h=>?_,λxs h=>?_⟩
 ·rcases h with h | ⟨rfl,h⟩
  ·exact (hw.alloc _).there b o h
  ·exact⟨vs[o],by rw[World.cell?_alloc_new];exact Array.getElem?_eq_getElem h⟩
 ·refine h.keep k (λe he b hb=>Below.heap_alloc w _ b (Ent.foot_lt (h.ok e he) hb).2) (λf hf b hb o ho=>?_);rcases ho with ho | ⟨rfl,_⟩
  ·exact ho
  ·exact absurd (Ent.foot_lt (h.ok f hf) hb).2 (Nat.lt_irrefl _)
 ·have key:∀(ys:List AV) (us:List Value) (o:Nat),RelL I w ys us->us=vs.toList.drop o->Cells (I.add w.heap.size vs.size) (w.alloc (.cells vs t)) w.heap.size o ys:=by
   intro ys
   induction ys with
   | nil=>intro us o _ _;exact .nil _ _
   | cons y ys ih=>
    intro us o hr hu;cases hr with
    | cons _ v _ us' hx ht=>
     have h0:vs.toList[o]? =some v:=by
      have:=congrArg (λl=>l[0]?) hu;simpa using this.symm
     have hlt:o<vs.size:=by
      have:=(List.getElem?_eq_some_iff.1 h0).1;simpa using this
     refine .cons _ _ _ v _ ?_ (.inr ⟨rfl,hlt⟩) (hx.keep k) (ih us' (o+1) ht ?_)
     ·rw[World.cell?_alloc_new];simpa using h0
     ·have:=congrArg List.tail hu;simpa [List.tail_drop] using this
  exact key xs vs.toList 0 h Yn
def FW(r:Option Nat):Fence:={fn:=λ_=>True,depth:=none,alive:=false,round:=r}
theorem callsIn_FW{r:Option Nat}{n:Nat}{P:Program}{f:FuncId}{args:Array Value}{w:World}{R:Ending->World->Prop}(h:Calls P f args w R):CallsIn (FW r) n P f args w R:=
 (callsIn_wide (n:=n)).2 h
theorem calls_of_FW{n:Nat}{P:Program}{f:FuncId}{args:Array Value}{w:World}{R:Ending->World->Prop}(h:CallsIn (FW none) n P f args w R):Calls P f args w R:=
 (callsIn_wide (n:=n)).1 h
def envGet:List (Nat×AV)->Nat->Option AV
 | [],_=>none
 | (s,x)::r,t=>bif Nat.beq t s then some x else envGet r t
theorem envGet_cons(s:Nat)(x:AV)(r:List (Nat×AV))(t:Nat):envGet ((s,x)::r) t=if t=s then some x else envGet r t:=by
 simp only[envGet];by_cases h:t=s
 ·subst h;simp
 ·have hb:Nat.beq t s=false:=by
   rw[Bool.eq_false_iff];intro e;exact h (Nat.eq_of_beq_eq_true e)
  simp[h,hb]
def putEnv(dst:Option Nat)(x:AV)(env:List (Nat×AV)):List (Nat×AV):=
 match dst with
 | some d=>(d,x)::env
 | none=>env
def dstOk(n:Nat):Option Nat->Bool
 | some d=>Nat.blt d n
 | none=>true
def constAV:Value->AV
 | .agg vs=>.agg (vs.toList.map .val)
 | v=>.val v
theorem relL_val{I:Imm}{w:World}:∀l:List Value,RelL I w (l.map .val) l
 | []=>.nil
 | v::r=>.cons _ _ _ _ (.val v) (relL_val r)
theorem rel_const{I:Imm}{w:World}(v:Value):Rel I w (constAV v) v:=by
 cases v <;> first | exact .val _ | exact .agg _ _ (relL_val _)
def aeval(ρ:Nat->Option AV):Operand->Option AV
 | .tmp t=>ρ t
 | .const v=>some (constAV v)
 | .global g=>some (.val (.pointer (some ⟨g,0,none⟩)))
 | .func f=>some (.fn (.func f) [] [])
def strip:AV->Bool×AV
 | .opt g x=>(g,x)
 | x=>(true,x)
def aev(ρ:Nat->Option AV)(x:Operand):Option (Bool×AV):=(aeval ρ x).map strip
def aevs(ρ:Nat->Option AV):List Operand->Option (List (Bool×AV))
 | []=>some []
 | x::r=>match aev ρ x,aevs ρ r with
  | some y,some l=>some (y::l)
  | _,_=>none
def EnvOk(I:Imm)(w:World)(ρ:Nat->Option AV)(a:Act):Prop:=∀t x,ρ t=some x->Rel I w x (a.tmps.getD t undef)
def OpsOk(I:Imm)(w:World)(ρ:Nat->Option AV)(a:Act)(o:Oper):Prop:=∀x∈o.op.operands,∀y,aeval ρ x=some y->Rel I w y (a.eval x)
theorem EnvOk.eval{I:Imm}{w:World}{ρ:Nat->Option AV}{a:Act}(h:EnvOk I w ρ a){x:Operand}{y:AV}(hx:aeval ρ x=some y):Rel I w y (a.eval x):=by
 cases x with
 | tmp t=>exact h t y hx
 | const v=>simp[aeval] at hx;subst hx;exact rel_const v
 | global g=>simp[aeval] at hx;subst hx;exact .val _
 | func f=>simp[aeval] at hx;subst hx;exact .fn _ _ _ _ _ .nil .nil
theorem EnvOk.ops{I:Imm}{w:World}{ρ:Nat->Option AV}{a:Act}(h:EnvOk I w ρ a)(o:Oper):OpsOk I w ρ a o:=λ_ _ _ hx=>h.eval hx
theorem EnvOk.keep{I I':Imm}{w w':World}{ρ:Nat->Option AV}{a:Act}(h:EnvOk I w ρ a)(k:Keeps I w I' w'):EnvOk I' w' ρ a:=λt x hx=>(h t x hx).keep k
theorem rel_strip{I:Imm}{w:World}{x y:AV}{g:Bool}{v:Value}(h:Rel I w x v)(hs:strip x=(g,y))(hg:g=true):Rel I w y v:=by
 cases x with
 | opt g' z=>simp[strip] at hs;obtain⟨rfl,rfl⟩:=hs;cases h with | opt _ _ _ h _=>exact h hg
 | _=>simp[strip] at hs;obtain⟨_,rfl⟩:=hs;exact h
theorem OpsOk.get{I:Imm}{w:World}{ρ:Nat->Option AV}{a:Act}{o:Oper}(h:OpsOk I w ρ a o){x:Operand}(hm:x∈o.op.operands){y:AV}{g:Bool}(hx:aev ρ x=some (g,y))(hg:g=true):Rel I w y (a.eval x):=by
 unfold aev at hx;cases he:aeval ρ x with
 | none=>simp[he] at hx
 | some z=>simp[he] at hx;exact rel_strip (h x hm z he) hx hg
theorem aevs_rel{I:Imm}{w:World}{ρ:Nat->Option AV}{a:Act}{o:Oper}(h:OpsOk I w ρ a o):∀(l:List Operand) (ys:List (Bool×AV)),(∀x∈l,x∈o.op.operands)->aevs ρ l=some ys->
  (∀y∈ys,y.1=true)->RelL I w (ys.map (·.2)) (l.map a.eval)
 | [],ys,_,hx,_=>by simp[aevs] at hx;subst hx;exact .nil
 | x::r,ys,hm,hx,hg=>by
  simp only[aevs] at hx;split at hx
  ·rename_i y l h1 h2;simp at hx;subst hx;exact .cons _ _ _ _ (h.get (hm x Yn) (y:=y.2) (g:=y.1) h1 (hg y Yn)) (aevs_rel h r l (λz hz=>hm z (by simp[hz])) h2 (λz hz=>hg z (by simp[hz])))
  ·cases hx
def Runs(P:Program)(r:Option Nat)(o:Oper)(a:Act)(w:World)(R:Value->World->Prop)(E:List PanicEntry->World->Prop):Prop:=
 ∀(K:Act->World->Prop) (Q:Exit->Act->World->Prop),(∀v w',R v w'->K (a.put o.dst v) w')->(∀ch w',E ch w'->Q (.panic ch) a w')->o.wpIn (FW r) 0 P a w K Q
section
variable{P:Program}{r:Option Nat}{o:Oper}{a:Act}{w w':World}{R:Value->World->Prop}{E:List PanicEntry->World->Prop}
theorem Runs.mono{R':Value->World->Prop}{E':List PanicEntry->World->Prop}(h:Runs P r o a w R E)(hR:∀v w',R v w'->R' v w')(hE:∀c w',E c w'->E' c w'):Runs P r o a w R' E':=
 λK Q h1 h2=>h K Q (λv w' x=>h1 v w' (hR v w' x)) (λv w' x=>h2 v w' (hE v w' x))
theorem Runs.of_value{v:Value}(hd:∀c,o.op≠ .defer c)(h:(execOp a.eval o).run P w= .ok (.value v) w')(hR:R v w'):Runs P r o a w R E:=by
 intro K Q hK _;refine⟨λ_ _=>trivial,?_⟩;rw[Oper.semAt_eq _ _ _ hd,h];exact hK v w' hR
theorem Runs.of_skip(hd:∀c,o.op≠ .defer c)(h:(execOp a.eval o).run P w= .ok .skip w')(hR:R undef w'):Runs P r o a w R E:=by
 intro K Q hK _;refine⟨λ_ _=>trivial,?_⟩;rw[Oper.semAt_eq _ _ _ hd,h];exact hK undef w' hR
theorem Runs.of_panic{v:Value}(hd:∀c,o.op≠ .defer c)(h:(execOp a.eval o).run P w= .halt (.panic v) w')(hE:E [{v,recovered:=false}] w'):Runs P r o a w R E:=by
 intro K Q _ hQ;refine⟨λ_ _=>trivial,?_⟩;rw[Oper.semAt_eq _ _ _ hd,h];exact hQ _ w' hE
theorem Runs.of_enter{f:FuncId}{args:Array Value}(hd:∀c,o.op≠ .defer c)(h:(execOp a.eval o).run P w= .ok (.enter f args) w')
  (hC:Calls P f args w' λe w''=>match e with | .returned v=>R v w'' | .panicked c=>E c w'' | .outgrown=>False):Runs P r o a w R E:=by
 intro K Q hK hQ;refine⟨λ_ _=>trivial,?_⟩;rw[Oper.semAt_eq _ _ _ hd,h,Oper.uponIn_enter];refine⟨λh=>by simp[FW] at h,callsIn_FW (hC.mono λe w'' h=>?_)⟩;cases e with
 | returned v=>exact hK v w'' h
 | panicked c=>exact hQ c w'' h
 | outgrown=>exact h.elim
theorem Runs.of_round{l:Nat}{f:FuncId}{tmps:Array Value}{assign body:Code}(hd:∀c,o.op≠ .defer c)(h:(execOp a.eval o).run P w= .ok (.round l f tmps assign body) w')
  (hC:RoundIn (FW r) 0 P l f tmps assign body w' λe w''=>match e with | .returned v=>R v w'' | .panicked c=>E c w'' | .outgrown=>False):Runs P r o a w R E:=by
 intro K Q hK hQ;refine⟨λ_ _=>trivial,?_⟩;rw[Oper.semAt_eq _ _ _ hd,h,Oper.uponIn_round];refine⟨λh=>by simp[FW] at h,hC.mono λe w'' h=>?_⟩;cases e with
 | returned v=>exact hK v w'' h
 | panicked c=>exact hQ c w'' h
 | outgrown=>exact h.elim
end
def POp(P:Program)(H:List Ent)(ρ:Nat->Option AV)(o:Oper)(x:AV):Prop:=
 ∀(B:Nat) (I:Imm) (w:World) (r:Option Nat) (a:Act) (Hc:List Ent),WOk B I w->HeapOk B I w Hc->(∀e∈H,e∈Hc)->OpsOk I w ρ a o->
  Runs P r o a w (λv w'=>∃I',WOk B I' w'/\Ext B I w I' w'/\HeapOk B I' w' Hc/\Rel I' w' x v) (λ_ _=>False)
structure Ctx where
 B:Nat
 I0:Imm
 w0:World
 n:Nat
 ds:List Deferred
structure St where
 env:List (Nat×AV)
 H:List Ent
structure Sat(c:Ctx)(st:St)(a:Act)(w:World):Prop where
 ds:a.defers=c.ds
 size:a.tmps.size=c.n
 mem:∃I,WOk c.B I w/\Ext c.B c.I0 c.w0 I w/\HeapOk c.B I w st.H/\EnvOk I w (envGet st.env) a
def OL(c:Ctx)(r:Option Nat)(P:Program)(ops:Array Oper)(l:List Oper)(st:St)(Q:Exit->Act->World->Prop):Prop:=
 ∀a w,Sat c st a w->wpListIn (FW r) 0 P ops Q l a w
def CW(c:Ctx)(r:Option Nat)(P:Program)(code:Code)(st:St)(Q:Exit->Act->World->Prop):Prop:=
 ∀a w,Sat c st a w->code.wpIn (FW r) 0 P Q a w
def Done(c:Ctx)(st:St)(e:Exit)(Q:Exit->Act->World->Prop):Prop:=∀a w,Sat c st a w->Q e a w
theorem tmps_put_same{a:Act}{d:Nat}{v:Value}(h:d<a.tmps.size):(a.put (some d) v).tmps.getD d undef=v:=by
 simp[Act.put,Array.getD,h]
theorem tmps_put_other{a:Act}{d t:Nat}{v:Value}(h:t≠d):(a.put (some d) v).tmps.getD t undef=a.tmps.getD t undef:=by
 simp only[Act.put,Array.getD_eq_getD_getElem?];rw[Array.getElem?_setIfInBounds_ne (Ne.symm h)]
theorem tmps_put_size{a:Act}{d:Option Nat}{v:Value}:(a.put d v).tmps.size=a.tmps.size:=by
 cases d <;> simp[Act.put]
theorem put_defers{a:Act}{d:Option Nat}{v:Value}:(a.put d v).defers=a.defers:=by
 cases d <;> rfl
theorem EnvOk.put{I:Imm}{w:World}{env:List (Nat×AV)}{a:Act}{dst:Option Nat}{x:AV}{v:Value}(h:EnvOk I w (envGet env) a)(hd:dstOk a.tmps.size dst=true)(hx:Rel I w x v):
  EnvOk I w (envGet (putEnv dst x env)) (a.put dst v):=by
 cases dst with
 | none=>exact h
 | some d=>
  intro t y hy;simp only[putEnv,envGet_cons] at hy;split at hy
  ·rename_i e;subst e;simp at hy;subst hy;rw[tmps_put_same (Nat.lt_of_succ_le (by simpa [dstOk,Nat.blt] using hd))];exact hx
  ·rename_i e;rw[tmps_put_other e];exact h t y hy
section
variable{c:Ctx}{r:Option Nat}{P:Program}{ops:Array Oper}{l rest:List Oper}{o:Oper}{st:St}{Q:Exit->Act->World->Prop}{x:AV}
theorem OL.nil(h:Done c st .normal Q):OL c r P ops [] st Q:=λa w s=>h a w s
theorem OL.pop(hg:o.guard=none)(hd:dstOk c.n o.dst=true)(h:POp P st.H (envGet st.env) o x)(next:OL c r P ops rest ⟨putEnv o.dst x st.env,st.H⟩ Q):OL c r P ops (o::rest) st Q:=by
 intro a w s;refine wpListIn_plain hg λK hK=>?_;obtain⟨I,hw,he,hh,hv⟩:=s.mem;refine h c.B I w r a st.H hw hh (λ_ x=>x) (hv.ops o) K Q ?_ (λ_ _ h=>h.elim);rintro v w' ⟨I',hw',he',hh',hx⟩;refine hK _ _ (next _ _ ⟨YE,YA,I',hw',he.trans he',hh',?_⟩);exact (hv.keep he'.keeps).put YZ hx
def mkG:Option AV->Bool->Option Bool
 | some (.val (.bool b)),true=>some b
 | some (.val (.bool b)),false=>some (!b)
 | some (.opt g (.val (.bool b))),true=>some (g && b)
 | some (.opt g (.val (.bool b))),false=>some (g && !b)
 | _,_=>none
theorem mkG_wanted{I:Imm}{w:World}{a:Act}{y:Option AV}{j d:Nat}{want G:Bool}(hj:(ops[j]?).bind (·.dst)=some d)(ho:o.guard=some (j,want))
  (hy:∀z,y=some z->Rel I w z (a.tmps.getD d undef)) (hG:mkG y want=some G) (hd:d<a.tmps.size):Region.wanted o (yielded ops a.tmps)=G:=by
 have hl:a.tmps[d]? =some (a.tmps.getD d undef):=by
  simp[Array.getD,hd]
 have hw:Region.wanted o (yielded ops a.tmps)=(yielded ops a.tmps j==some want):=by simp[Region.wanted,ho]
 rw[hw];unfold yielded;rw[hj];simp only[Option.bind_some,hl]
 match y,hy,hG with
 | some (.val (.bool b)),hy,hG=>
  have h0:=hy _ rfl;generalize a.tmps.getD d undef=u at h0;cases h0;cases want <;> cases b <;> simp[mkG] at hG <;> subst hG <;> rfl
 | some (.opt g (.val (.bool b))),hy,hG=>
  have h0:=hy _ rfl;generalize a.tmps.getD d undef=u at h0;cases h0 with
  | opt _ _ _ h1 h2=>
   cases g with
   | false=>rw[h2 rfl];cases want <;> simp[mkG] at hG <;> subst hG <;> rfl
   | true=>
    have h3:=h1 rfl;cases h3;cases want <;> cases b <;> simp[mkG] at hG <;> subst hG <;> rfl
theorem OL.guarded{j d:Nat}{want G:Bool}(hg:o.guard=some (j,want))(hj:(ops[j]?).bind (·.dst)=some d)(hdj:Nat.blt d c.n=true)(hG:mkG (envGet st.env d) want=some G)
  (hd:dstOk c.n o.dst=true) (h:G=true->POp P st.H (envGet st.env) o x) (next:OL c r P ops rest ⟨putEnv o.dst (.opt G x) st.env,st.H⟩ Q):OL c r P ops (o::rest) st Q:=by
 intro a w s;obtain⟨I,hw,he,hh,hv⟩:=s.mem;have hwant:=mkG_wanted (I:=I) (w:=w) (a:=a) hj hg (λz hz=>hv d z hz) hG (by rw[s.size];exact Nat.lt_of_succ_le (by simpa [Nat.blt] using hdj));unfold wpListIn;rw[hwant];cases G with
 | true=>
  rw[if_pos rfl];refine h rfl c.B I w r a st.H hw hh (λ_ x=>x) (hv.ops o) _ Q ?_ (λ_ _ h=>h.elim);rintro v w' ⟨I',hw',he',hh',hx⟩;refine next _ _ ⟨YE,YA,I',hw',he.trans he',hh',?_⟩;exact (hv.keep he'.keeps).put YZ (.opt _ _ _ (λ_=>hx) (λe=>by cases e))
 | false=>
  rw[if_neg Yn];refine⟨λ_ _=>trivial,next _ _ ⟨YE,YA,I,hw,he,hh,?_⟩⟩;exact hv.put YZ (.opt _ _ _ (λe=>by cases e) (λ_=>rfl))
theorem CW.seq{p q:Code}(h:CW c r P p st (Exit.then (q.wpIn (FW r) 0 P Q) Q)):CW c r P (.seq p q) st Q:=λa w s=>wpIn_seq (h a w s)
theorem CW.skip(h:Done c st .normal Q):CW c r P .skip st Q:=λa w s=>wpIn_skip (h a w s)
theorem CW.ret(h:Done c st .ret Q):CW c r P .ret st Q:=λa w s=>wpIn_ret (h a w s)
theorem CW.exit{id:Nat}(h:Done c st (.exit id) Q):CW c r P (.exit id) st Q:=λa w s=>wpIn_exit (h a w s)
theorem CW.block{id:Nat}{p:Code}(h:CW c r P p st (Exit.inBlock id Q)):CW c r P (.block id p) st Q:=λa w s=>wpIn_block (h a w s)
theorem CW.region{id:Nat}{l:List Oper}(h:OL c r P l.toArray l st Q):CW c r P (.region id l.toArray false) st Q:=λa w s=>wpIn_region_lit (h a w s)
theorem CW.cond{t:Nat}{b:Bool}{p q:Code}(ht:envGet st.env t=some (.val (.bool b)))(h1:b=true->CW c r P p st Q)(h2:b=false->CW c r P q st Q):CW c r P (.cond (.tmp t) p q) st Q:=by
 intro a w s;obtain⟨I,hw,he,hh,hv⟩:=s.mem;have h0:=hv t _ ht;have hb:a.eval (.tmp t)= .bool b:=by
  show a.tmps.getD t undef= .bool b;generalize a.tmps.getD t undef=u at h0;cases h0;rfl
 cases b with
 | true=>exact wpIn_cond_true hb (h1 rfl a w s)
 | false=>exact wpIn_cond_false hb (h2 rfl a w s)
theorem Done.seq{q:Code}(h:CW c r P q st Q):Done c st .normal (Exit.then (q.wpIn (FW r) 0 P Q) Q):=h
theorem Done.thenExit{id:Nat}{K:Act->World->Prop}(h:Done c st (.exit id) Q):Done c st (.exit id) (Exit.then K Q):=h
theorem Done.thenRet{K:Act->World->Prop}(h:Done c st .ret Q):Done c st .ret (Exit.then K Q):=h
theorem Done.blkNormal{id:Nat}(h:Done c st .normal Q):Done c st .normal (Exit.inBlock id Q):=h
theorem Done.blkRet{id:Nat}(h:Done c st .ret Q):Done c st .ret (Exit.inBlock id Q):=h
theorem Done.blkExit{id:Nat}(h:Done c st .normal Q):Done c st (.exit id) (Exit.inBlock id Q):=λa w s=>by
 simp only[Exit.inBlock,if_true];exact h a w s
theorem Done.blkOther{id id':Nat}(hne:Nat.beq id id'=false)(h:Done c st (.exit id) Q):Done c st (.exit id) (Exit.inBlock id' Q):=λa w s=>by
 have:id≠id':=λe=>by subst e;simp at hne
 simp only[Exit.inBlock,if_neg this];exact h a w s
theorem Sat.weaken{st':St}{a:Act}{w:World}(s:Sat c st a w)(he:∀t y,envGet st'.env t=some y->envGet st.env t=some y)(hH:st'.H.Sublist st.H):Sat c st' a w:=
 ⟨s.ds,s.size,let ⟨I,hw,hx,hh,hv⟩:=s.mem;⟨I,hw,hx,hh.sub hH,λt y h=>hv t y (he t y h)⟩⟩
def envLe:List (Nat×AV)->List (Nat×AV)->Prop
 | [],_=>True
 | (t,y)::r,env=>envGet env t=some y/\envLe r env
theorem envLe_get{e:List (Nat×AV)}:∀{e':List (Nat×AV)},envLe e' e->∀t y,envGet e' t=some y->envGet e t=some y
 | [],_,t,y,h=>by simp[envGet] at h
 | (s,z)::r,h,t,y,hy=>by
  rw[envGet_cons] at hy;split at hy
  ·rename_i e1;subst e1;simp at hy;subst hy;exact h.1
  ·exact envLe_get h.2 t y hy
theorem CW.weaken{p:Code}{st':St}(he:envLe st'.env st.env)(hH:st'.H.Sublist st.H)(h:CW c r P p st' Q):CW c r P p st Q:=
 λa w s=>h a w (s.weaken (envLe_get he) hH)
theorem OL.weaken{st':St}(he:envLe st'.env st.env)(hH:st'.H.Sublist st.H)(h:OL c r P ops l st' Q):OL c r P ops l st Q:=
 λa w s=>h a w (s.weaken (envLe_get he) hH)
theorem CW.loop{ι:Type}(inv:ι->St)(μ:ι->Nat)(i0:ι){p:Code}(he:envLe (inv i0).env st.env)(hH:(inv i0).H.Sublist st.H)
  (round:∀i,CW c r P p (inv i) (Exit.then (λa w=>∃j,μ j<μ i/\Sat c (inv j) a w) Q)):CW c r P (.loop p) st Q:=by
 intro a w s b k cs hro hb hr;have key:∀m i a w,μ i=m->Sat c (inv i) a w->
   ∃e a' w',Q e a' w'/\ArrivesIn (Machine.fenced P (FW r)) P (lone (b.atR a (.code p::.inLoop p::k)) cs w) b k cs e a' w':=by
  intro m
  induction m using Nat.strongRecOn with
  | _ m ih=>
   intro i a w hn hI;obtain⟨e,a₁,w₁,hq,harr⟩:=round i a w hI b (.inLoop p::k) cs hro hb hr;cases e with
   | normal=>
    obtain⟨j,hlt,hI₁⟩:=hq;obtain⟨e₂,a₂,w₂,hq₂,harr₂⟩:=ih (μ j) (hn▸hlt) j a₁ w₁ rfl hI₁;exact⟨e₂,a₂,w₂,hq₂,.of_steps (StepsIn.trans harr (.one (fenced_calm hb hr rfl) stepR_inLoop)) harr₂⟩
   | exit id=>exact⟨_,a₁,w₁,hq,.pass (x:=.inLoop p) rfl (λ_ _=>.inl Yn) harr⟩
   | goto l=>exact⟨_,a₁,w₁,hq,.pass (x:=.inLoop p) rfl (λ_ _=>.inl Yn) harr⟩
   | ret=>exact⟨_,a₁,w₁,hq,.pass (x:=.inLoop p) rfl (λ_ _=>.inl Yn) harr⟩
   | panic ch=>exact⟨_,a₁,w₁,hq,.pass (x:=.inLoop p) rfl (λ_ _=>.inl Yn) harr⟩
   | outgrown=>exact⟨_,a₁,w₁,hq,.pass (x:=.inLoop p) rfl (λ_ _=>.inl Yn) harr⟩
 obtain⟨e,a',w',hq,harr⟩:=key _ i0 a w rfl (s.weaken (envLe_get he) hH);exact⟨e,a',w',hq,.of_steps (.one (fenced_calm hb hr rfl) stepR_loop) harr⟩
theorem Done.again{ι:Type}{inv:ι->St}{μ:ι->Nat}{i:ι}(j:ι)(hμ:μ j<μ i)(he:envLe (inv j).env st.env)(hH:(inv j).H.Sublist st.H):
  Done c st .normal (Exit.then (λa w=>∃j,μ j<μ i/\Sat c (inv j) a w) Q):=
 λa w s=>⟨j,hμ,s.weaken (envLe_get he) hH⟩
end
section
variable{P:Program}{H:List Ent}{ρ:Nat->Option AV}{o:Oper}
theorem POp.same{y:AV}(hd:∀c,o.op≠ .defer c)(h:∀(I:Imm) (w:World) (a:Act),OpsOk I w ρ a o->∃v,(execOp a.eval o).run P w= .ok (.value v) w/\Rel I w y v):POp P H ρ o y:=by
 intro B I w r a Hc hw hh _ ho;obtain⟨v,h1,h2⟩:=h I w a ho;exact Runs.of_value hd h1 ⟨I,hw,Ext.refl _ _ _,hh,h2⟩
theorem POp.sameH{y:AV}(hd:∀c,o.op≠ .defer c)(h:∀(B:Nat) (I:Imm) (w:World) (a:Act),(∀e∈H,e.ok B I w)->OpsOk I w ρ a o->∃v,(execOp a.eval o).run P w= .ok (.value v) w/\Rel I w y v):POp P H ρ o y:=by
 intro B I w r a Hc hw hh hs ho;obtain⟨v,h1,h2⟩:=h B I w a (λe he=>hh.ok e (hs e he)) ho;exact Runs.of_value hd h1 ⟨I,hw,Ext.refl _ _ _,hh,h2⟩
theorem POp.move{x:Operand}{y:AV}{g:Bool}(h:o.op= .move x)(hx:aev ρ x=some (g,y))(hg:g=true):POp P H ρ o y:=
 .same Yk λI w a ho=>⟨a.eval x,by simp[execOp,h],ho.get Yh hx hg⟩
theorem POp.assign{x:Operand}{y:AV}{g:Bool}(h:o.op= .assign x)(hx:aev ρ x=some (g,y))(hg:g=true):POp P H ρ o y:=
 .same Yk λI w a ho=>⟨a.eval x,by simp[execOp,h],ho.get Yh hx hg⟩
theorem rel_val{I:Imm}{w:World}{u v:Value}(h:Rel I w (.val u) v):v=u:=by cases h;rfl
theorem POp.pick{c x y:Operand}{b p q:Bool}{gc gx gy:Bool}(h:o.op= .pick c x y)(hc:aev ρ c=some (gc,.b b))(hgc:gc=true)(hx:aev ρ x=some (gx,.b p))(hy:aev ρ y=some (gy,.b q))
  (hgx:b=true->gx=true) (hgy:b=false->gy=true):POp P H ρ o (.b (bif b then p else q)):=by
 refine .same Yk λI w a ho=>?_;have h1:=rel_val (ho.get Yh hc hgc);cases b with
 | true=>exact⟨a.eval x,by simp[execOp,h,h1,asBool],by rw[rel_val (ho.get Yh hx (hgx rfl))];exact .val _⟩
 | false=>exact⟨a.eval y,by simp[execOp,h,h1,asBool],by rw[rel_val (ho.get Yh hy (hgy rfl))];exact .val _⟩
def cmpI:BinOp->Int->Int->Option Bool
 | .eql,a,b=>some (a==b)
 | .neq,a,b=>some (a !=b)
 | .lss,a,b=>some (decide (a<b))
 | .leq,a,b=>some (decide (a<=b))
 | .gtr,a,b=>some (decide (a>b))
 | .geq,a,b=>some (decide (a>=b))
 | _,_,_=>none
theorem POp.cmp{op:BinOp}{t t':TypeId}{x y:Operand}{k:IntKind}{a b:Int}{gx gy c:Bool}(h:o.op= .binOp op t x y t')(hx:aev ρ x=some (gx,.val (.int k a)))(hy:aev ρ y=some (gy,.val (.int k b)))
  (hgx:gx=true) (hgy:gy=true) (hc:cmpI op a b=some c):POp P H ρ o (.b c):=by
 refine .same Yk λI w f ho=>?_;have h1:=rel_val (ho.get Yh hx hgx);have h2:=rel_val (ho.get Yh hy hgy);refine⟨.bool c,?_,.val _⟩;cases op <;> simp[cmpI] at hc <;> subst hc <;> simp[execOp,h,h1,h2,eqGuard,binOp,Op.intCmp]
def arI:BinOp->Int->Int->Option Int
 | .add,a,b=>some (a+b)
 | .sub,a,b=>some (a - b)
 | .mul,a,b=>some (a*b)
 | _,_,_=>none
theorem POp.arith{op:BinOp}{t t':TypeId}{x y:Operand}{k:IntKind}{a b c d:Int}{gx gy:Bool}(h:o.op= .binOp op t x y t')(hx:aev ρ x=some (gx,.val (.int k a)))(hy:aev ρ y=some (gy,.val (.int k b)))
  (hgx:gx=true) (hgy:gy=true) (hc:arI op a b=some c) (hw:k.wrap c=d):POp P H ρ o (.val (.int k d)):=by
 refine .same Yk λI w f ho=>?_;have h1:=rel_val (ho.get Yh hx hgx);have h2:=rel_val (ho.get Yh hy hgy);refine⟨.int k d,?_,.val _⟩;subst hw;cases op <;> simp[arI] at hc <;> subst hc <;> simp[execOp,h,h1,h2,eqGuard,binOp,Op.intArith]
theorem wrap64{n:Int}(h: -9223372036854775808<=n/\n<=9223372036854775807):IntKind.i64.wrap n=n:=IntWalk.i64_in n h
def bitI(op:BinOp)(k:IntKind)(x y:Int):Option Int:=
 match op with
 | .and=>some (k.wrap (BitVec.ofInt k.bits x &&& BitVec.ofInt k.bits y).toNat)
 | .or=>some (k.wrap (BitVec.ofInt k.bits x ||| BitVec.ofInt k.bits y).toNat)
 | .xor=>some (k.wrap (BitVec.ofInt k.bits x^^^BitVec.ofInt k.bits y).toNat)
 | .andNot=>some (k.wrap (BitVec.ofInt k.bits x &&& ~~~BitVec.ofInt k.bits y).toNat)
 | _=>none
theorem POp.bits{op:BinOp}{t t':TypeId}{x y:Operand}{k:IntKind}{a b c:Int}{gx gy:Bool}(h:o.op= .binOp op t x y t')(hx:aev ρ x=some (gx,.val (.int k a)))(hy:aev ρ y=some (gy,.val (.int k b)))
  (hgx:gx=true) (hgy:gy=true) (hc:bitI op k a b=some c):POp P H ρ o (.val (.int k c)):=by
 refine .same Yk λI w f ho=>?_;have h1:=rel_val (ho.get Yh hx hgx);have h2:=rel_val (ho.get Yh hy hgy);refine⟨.int k c,?_,.val _⟩;cases op <;> simp[bitI] at hc <;> subst hc <;> simp[execOp,h,h1,h2,eqGuard,binOp,Op.intBits]
def shI(op:BinOp)(k:IntKind)(x y:Int):Option Int:=
 match op with
 | .shl=>some (k.wrap (x*2^(min y.toNat k.bits)))
 | .shr=>some (x.fdiv (2^(min y.toNat k.bits)))
 | _=>none
theorem POp.shift{op:BinOp}{t t':TypeId}{x y:Operand}{k k':IntKind}{a b c:Int}{gx gy:Bool}(h:o.op= .binOp op t x y t')(hx:aev ρ x=some (gx,.val (.int k a)))(hy:aev ρ y=some (gy,.val (.int k' b)))
  (hgx:gx=true) (hgy:gy=true) (hb:0<=b) (hc:shI op k a b=some c):POp P H ρ o (.val (.int k c)):=by
 refine .same Yk λI w f ho=>?_;have h1:=rel_val (ho.get Yh hx hgx);have h2:=rel_val (ho.get Yh hy hgy);have hn: ¬b<0:=by omega
 refine⟨.int k c,?_,.val _⟩;cases op <;> simp[shI] at hc <;> subst hc <;> simp[execOp,h,h1,h2,eqGuard,binOp,Op.shift,hn]
theorem POp.eqb{op:BinOp}{t t':TypeId}{x y:Operand}{a b c:Bool}{gx gy:Bool}(h:o.op= .binOp op t x y t')(hx:aev ρ x=some (gx,.b a))(hy:aev ρ y=some (gy,.b b))
  (hgx:gx=true) (hgy:gy=true) (ht:P.underlying t=some .bool) (hc:(op= .eql/\c=(a==b))\/(op= .neq/\c=(a !=b))):POp P H ρ o (.b c):=by
 refine .same Yk λI w f ho=>?_;have h1:=rel_val (ho.get Yh hx hgx);have h2:=rel_val (ho.get Yh hy hgy);refine⟨.bool c,?_,.val _⟩;rcases hc with⟨rfl,rfl⟩ | ⟨rfl,rfl⟩
 ·simp[execOp,h,h1,h2,eqGuard,run_eql_bool w t a b ht]
 ·simp[execOp,h,h1,h2,eqGuard,run_neq_bool w t a b ht];cases a <;> cases b <;> rfl
theorem POp.not{t:TypeId}{x:Operand}{a g:Bool}(h:o.op= .unOp .not t x)(hx:aev ρ x=some (g,.b a))(hg:g=true):POp P H ρ o (.b (!a)):=by
 refine .same Yk λI w f ho=>?_;have h1:=rel_val (ho.get Yh hx hg);exact⟨.bool (!a),by simp[execOp,h,h1,Op.unary],.val _⟩
theorem POp.neg{t:TypeId}{x:Operand}{k:IntKind}{a d:Int}{g:Bool}(h:o.op= .unOp .neg t x)(hx:aev ρ x=some (g,.val (.int k a)))(hg:g=true)(hw:k.wrap (0 - a)=d):POp P H ρ o (.val (.int k d)):=by
 refine .same Yk λI w f ho=>?_;have h1:=rel_val (ho.get Yh hx hg);subst hw;exact⟨.int k (k.wrap (0 - a)),by simp[execOp,h,h1,Op.unary,Op.intArith],.val _⟩
theorem POp.extract{x:Operand}{i:Nat}{xs:List AV}{y:AV}{g:Bool}(h:o.op= .extract x i)(hx:aev ρ x=some (g,.tup xs))(hg:g=true)(hi:xs[i]? =some y):POp P H ρ o y:=by
 refine .same Yk λI w f ho=>?_;have h1:=ho.get Yh hx hg;generalize hv:f.eval x=u at h1;cases h1 with
 | tup _ vs hl=>
  obtain⟨v,h2,h3⟩:=hl.get hi;exact⟨v,by
   have h4:vs[i]? =some v:=by simpa using h2
   simp[execOp,h,hv,Instr.extract,h4],h3⟩
def isSl(P:Program)(t:TypeId):Bool:=match P.underlying t with | some (.slice _)=>true | _=>false
theorem isSl_elem{P:Program}{t:TypeId}(h:isSl P t=true):P.underlying t=some (.slice (P.elem t)):=by
 unfold isSl at h;unfold Program.elem;split at h
 ·rename_i e he;rw[he]
 ·cases h
theorem run_len_sl(t:TypeId)(a:Option Addr)(n c:Nat)(ht:isSl P t=true)(w:World)(ty:TypeId):(Builtin.len_ #[t] ty #[.slice a n c]).run P w= .ok (.int .i64 n) w:=
 run_len_slice w t ty a n c (isSl_elem ht)
theorem POp.len{x:Operand}{t:TypeId}{k:Nat}{els:List (List AV)}{g:Bool}(h:o.op= .call {callee:=.builtin .len,args:=#[x],argTypes:=#[t]})(hx:aev ρ x=some (g,.sl k els))(hg:g=true)(ht:isSl P t=true):
  POp P H ρ o (.i els.length):=by
 refine .same Yk λI w f ho=>?_;have h1:=ho.get Yl hx hg;generalize hv:f.eval x=u at h1;refine⟨.int .i64 els.length,?_,.val _⟩;cases h1 with
 | sl0 k a c=>simp[execOp,h,hv,resolve,invoke,builtin,run_len_sl t a 0 c ht w]
 | sl k els b off len cap hl hc hm he=>simp[execOp,h,hv,resolve,invoke,builtin,run_len_sl t _ len cap ht w,hl]
theorem POp.lenAs{x:Operand}{t:TypeId}{k:Nat}{els:List (List AV)}{v:Value}{g:Bool}(h:o.op= .call {callee:=.builtin .len,args:=#[x],argTypes:=#[t]})(hx:aev ρ x=some (g,.as (.sl k els) v))(hg:g=true)(ht:isSl P t=true):
  POp P H ρ o (.i els.length):=by
 refine .same Yk λI w f ho=>?_;have h1:=ho.get Yl hx hg;generalize hv:f.eval x=u at h1;refine⟨.int .i64 els.length,?_,.val _⟩;cases h1 with
 | as _ _ h1=>
 cases h1 with
 | sl0 k a c=>simp[execOp,h,hv,resolve,invoke,builtin,run_len_sl t a 0 c ht w]
 | sl k els b off len cap hl hc hm he=>simp[execOp,h,hv,resolve,invoke,builtin,run_len_sl t _ len cap ht w,hl]
theorem POp.lenVal{x:Operand}{t:TypeId}{a:Option Addr}{n c:Nat}{g:Bool}(h:o.op= .call {callee:=.builtin .len,args:=#[x],argTypes:=#[t]})(hx:aev ρ x=some (g,.val (.slice a n c)))(hg:g=true)(ht:isSl P t=true):
  POp P H ρ o (.i n):=by
 refine .same Yk λI w f ho=>?_;have h1:=rel_val (ho.get Yl hx hg);exact⟨.int .i64 n,by simp[execOp,h,h1,resolve,invoke,builtin,run_len_sl t a n c ht w],.val _⟩
def slSize(P:Program)(t:TypeId):Option Nat:=match P.underlying t with | some (.slice e)=>(P.info? e).map (·.size) | _=>none
theorem slSize_spec{P:Program}{t:TypeId}{k:Nat}(h:slSize P t=some k):∃e i,P.underlying t=some (.slice e)/\P.info? e=some i/\i.size=k:=by
 unfold slSize at h;split at h
 ·rename_i e he;cases hi:P.info? e with
  | none=>simp[hi] at h
  | some i=>simp[hi] at h;exact⟨e,i,he,hi,h⟩
 ·cases h
theorem run_indexSl{t:TypeId}{k:Nat}(ht:slSize P t=some k)(b off len cap:Nat)(kk:IntKind)(i:Int)(h0:0<=i)(h1:i<len)(w:World):
  (Instr.indexAt t (.slice (some ⟨b,off,none⟩) len cap) (.int kk i)).run P w= .ok (.pointer (some ⟨b,off+i.toNat*k,none⟩)) w:=by
 obtain⟨e,inf,hu,hi,hk⟩:=slSize_spec ht;have h2:0<=i/\i<(len:Int):=⟨h0,h1⟩;simp[Instr.indexAt,asIntOf,run_underlying hu,sizeOf,typeInfo,hi,hk,h2,Addr.add_lit]
theorem POp.index{t:TypeId}{x y:Operand}{k:Nat}{els:List (List AV)}{kk:IntKind}{i:Int}{cs:List AV}{gx gy:Bool}(h:o.op= .indexAddr t x y)(hx:aev ρ x=some (gx,.sl k els))(hy:aev ρ y=some (gy,.val (.int kk i)))
  (hgx:gx=true) (hgy:gy=true) (ht:slSize P t=some k) (h0:0<=i) (he:els[i.toNat]? =some cs):POp P H ρ o (.ptr cs):=by
 refine .same Yk λI w f ho=>?_;have h1:=ho.get Yh hx hgx;have h2:=rel_val (ho.get Yh hy hgy);generalize hv:f.eval x=u at h1;cases h1 with
 | sl0 k a c=>simp at he
 | sl k els b off len cap hl hc hm hE=>
  have hlt:i<(len:Int):=by
   have:=(List.getElem?_eq_some_iff.1 he).1;omega
  exact⟨.pointer (some ⟨b,off+i.toNat*k,none⟩),by simp[execOp,h,hv,h2,run_indexSl ht b off len cap kk i h0 hlt w],.ptr _ _ _ (hE.get he).2⟩
theorem getD_of_lt{α:Type}[Inhabited α]{l:List α}{i:Nat}(h:i<l.length):l[i]? =some (l.getD i default):=by
 simp[List.getD,h]
theorem POp.indexMap{α:Type}[Inhabited α]{enc:α->List AV}{l:List α}{t:TypeId}{x y:Operand}{k:Nat}{kk:IntKind}{i:Nat}{gx gy:Bool}(h:o.op= .indexAddr t x y)(hx:aev ρ x=some (gx,.sl k (l.map enc)))(hy:aev ρ y=some (gy,.val (.int kk (i:Int))))
  (hgx:gx=true) (hgy:gy=true) (ht:slSize P t=some k) (h0:i<l.length):POp P H ρ o (.ptr (enc (l.getD i default))):=
 .index h hx hy hgx hgy ht Yb (by rw[Int.toNat_natCast,List.getElem?_map,getD_of_lt h0];rfl)
theorem POp.indexMap0{α:Type}[Inhabited α]{enc:α->List AV}{l:List α}{t:TypeId}{x y:Operand}{k:Nat}{kk:IntKind}{i:Int}{gx gy:Bool}(h:o.op= .indexAddr t x y)(hx:aev ρ x=some (gx,.sl k (l.map enc)))(hy:aev ρ y=some (gy,.val (.int kk i)))
  (hgx:gx=true) (hgy:gy=true) (ht:slSize P t=some k) (hi0:0<=i) (h0:i<l.length):POp P H ρ o (.ptr (enc (l.getD i.toNat default))):=
 .index h hx hy hgx hgy ht hi0 (by rw[List.getElem?_map,getD_of_lt (show i.toNat<l.length by omega)];rfl)
theorem POp.slice{t:TypeId}{x:Operand}{lo hi:Option Operand}{k:Nat}{els:List (List AV)}{l n:Nat}{gx gl gh:Bool}{kl kh:IntKind}(h:o.op= .slice t x lo hi none)(hx:aev ρ x=some (gx,.sl k els))(hgx:gx=true)
  (hlo:match lo with | none=>l=0 | some y=>aev ρ y=some (gl,.val (.int kl (l:Int)))) (hgl:gl=true) (hhi:match hi with | none=>n=els.length | some y=>aev ρ y=some (gh,.val (.int kh (n:Int)))) (hgh:gh=true)
  (ht:slSize P t=some k) (h1:l<=n) (h2:n<=els.length):POp P H ρ o (.sl k ((els.take n).drop l)):=by
 refine .same Yk λI w f ho=>?_;have hr:=ho.get Yh hx hgx;have hl0:∀y,lo=some y->f.eval y= .int kl (l:Int):=λy e=>by
  subst e;exact rel_val (ho.get Yh hlo hgl)
 have hh0:∀y,hi=some y->f.eval y= .int kh (n:Int):=λy e=>by
  subst e;exact rel_val (ho.get Yh hhi hgh)
 obtain⟨e,inf,hu,hi',hk⟩:=slSize_spec ht;generalize hv:f.eval x=u at hr;have key:∀(a:Option Addr) (len cap:Nat),u= .slice a len cap->els.length=len->len<=cap->(execOp f.eval o).run P w= .ok (.value (.slice (if cap=l then a else a.map (·.add (l*k))) (n - l) (cap - l))) w:=by
  intro a len cap hua hle hc;rw[hua] at hv;have hn:n<=cap:=by omega
  have hln:l<=n:=by omega
  cases lo with
  | none=>
   simp only at hlo;subst hlo;cases hi with
   | none=>
    simp only at hhi;subst hhi;simp[execOp,h,hv,Instr.sliceAt,run_underlying hu,Instr.slice,Instr.sliceBounds,sizeOf,typeInfo,hi',hk,hle]
   | some y=>
    have:=hh0 y rfl;simp[execOp,h,hv,this,Instr.sliceAt,run_underlying hu,Instr.slice,Instr.sliceBounds,Instr.sliceBound,asIntOf,sizeOf,typeInfo,hi',hk,hn]
  | some z=>
   have hz:=hl0 z rfl;cases hi with
   | none=>
    simp only at hhi;subst hhi;have hlc:l<=len:=by omega
    simp[execOp,h,hv,hz,Instr.sliceAt,run_underlying hu,Instr.slice,Instr.sliceBounds,Instr.sliceBound,asIntOf,sizeOf,typeInfo,hi',hk,hle,hlc]
   | some y=>
    have:=hh0 y rfl;simp[execOp,h,hv,hz,this,Instr.sliceAt,run_underlying hu,Instr.slice,Instr.sliceBounds,Instr.sliceBound,asIntOf,sizeOf,typeInfo,hi',hk,hn,hln]
 cases hr with
 | sl0 k a c=>
  refine⟨_,key a 0 c rfl rfl (Nat.zero_le _),?_⟩;have:n=0:=by simpa using h2
  subst this;have:l=0:=by omega
  subst this;simp;exact .sl0 _ _ _
 | sl k els b off len cap hl hc hm hE=>
  refine⟨_,key _ len cap rfl hl hc,?_⟩;have hlen:((els.take n).drop l).length=n - l:=by simp;omega
  by_cases hz:n=l
  ·subst hz;have e0:(els.take n).drop n= []:=by simp
   rw[e0];simp;exact .sl0 _ _ _
  ·have hcl: ¬cap=l:=by omega
   simp only[if_neg hcl,Option.map_some,Addr.add_lit];exact .sl k _ b _ _ _ hlen Yb Yb ((hE.take n).drop l)
def tyInfo(P:Program)(t:TypeId):Option (Bool×Nat):=
 match P.underlying t,P.info? t with
 | some (.struct _),some i=>some (true,i.size)
 | some (.array _ _),some i=>some (true,i.size)
 | some _,some i=>some (false,i.size)
 | _,_=>none
theorem tyInfo_run{t:TypeId}{agg:Bool}{n:Nat}(h:tyInfo P t=some (agg,n))(w:World):(isAgg t).run P w= .ok agg w/\(sizeOf t).run P w= .ok n w:=by
 unfold tyInfo at h;split at h
 ·rename_i hu hi;simp at h;obtain⟨rfl,rfl⟩:=h;exact⟨by simp[isAgg,run_underlying hu],by simp[sizeOf,typeInfo,hi]⟩
 ·rename_i hu hi;simp at h;obtain⟨rfl,rfl⟩:=h;exact⟨by simp[isAgg,run_underlying hu],by simp[sizeOf,typeInfo,hi]⟩
 ·rename_i d i h1 h2 hu hi;simp at h;obtain⟨rfl,rfl⟩:=h;refine⟨?_,by simp[sizeOf,typeInfo,hi]⟩;simp only[isAgg,Sem.run_bind,run_underlying hu,Result.andThen_ok];cases d <;> first | rfl | (exfalso;exact h1 _ hu hi) | (exfalso;exact h2 _ _ hu hi) | simp_all
 ·cases h
theorem run_loadVar_agg{t:TypeId}{n:Nat}(h:tyInfo P t=some (true,n))(b o:Nat)(vs:List Value)(w:World)(hl:vs.length=n)(hc:∀j v,vs[j]? =some v->w.cell? ⟨b,o+j,none⟩=some v):
  (loadVar t ⟨b,o,none⟩).run P w= .ok (.agg vs.toArray) w:=by
 obtain⟨h1,h2⟩:=tyInfo_run h w;subst hl;have h3:=run_loadCells_list (P:=P) w ⟨b,o,none⟩ vs (λj v hj=>by rw[Addr.add_lit];exact hc j v hj);simp[loadVar,h1,h2,h3]
theorem run_loadVar_one{t:TypeId}{n:Nat}(h:tyInfo P t=some (false,n))(b o:Nat)(v:Value)(w:World)(hc:w.cell? ⟨b,o,none⟩=some v):(loadVar t ⟨b,o,none⟩).run P w= .ok v w:=by
 obtain⟨h1,h2⟩:=tyInfo_run h w;simp[loadVar,h1,hc]
theorem POp.loadAgg{t:TypeId}{x:Operand}{cs:List AV}{n:Nat}{g:Bool}(h:o.op= .load t x)(hx:aev ρ x=some (g,.ptr cs))(hg:g=true)(ht:tyInfo P t=some (true,n))(hn:Nat.ble n cs.length=true):POp P H ρ o (.agg (cs.take n)):=by
 refine .same Yk λI w f ho=>?_;have h1:=ho.get Yh hx hg;generalize hv:f.eval x=u at h1;cases h1 with
 | ptr _ b off hc=>
  obtain⟨vs,h2,h3⟩:=(hc.take n).values;have hl:vs.length=n:=by rw[h2.length,List.length_take];exact Nat.min_eq_left (Nat.le_of_ble_eq_true hn)
  refine⟨.agg vs.toArray,?_,.agg _ _ Yaj⟩;simp[execOp,h,hv,Instr.loadAt,Instr.sureAddr,run_loadVar_agg ht b off vs w hl h3]
theorem POp.loadOne{t:TypeId}{x:Operand}{cs:List AV}{y:AV}{n:Nat}{g:Bool}(h:o.op= .load t x)(hx:aev ρ x=some (g,.ptr cs))(hg:g=true)(ht:tyInfo P t=some (false,n))(hn:cs[0]? =some y):POp P H ρ o y:=by
 refine .same Yk λI w f ho=>?_;have h1:=ho.get Yh hx hg;generalize hv:f.eval x=u at h1;cases h1 with
 | ptr _ b off hc=>
  obtain⟨v,h2,_,h3⟩:=hc.get hn;exact⟨v,by simp[execOp,h,hv,Instr.loadAt,Instr.sureAddr,run_loadVar_one ht b off v w Yaj],h3⟩
theorem cell_of_blk{w:World}{b:Nat}{vs:Array Value}{t:TypeId}{fr:Nat×Nat}(h:w.heap[b]? =some (.cells vs t fr))(o:Nat):w.cell? ⟨b,o,none⟩=vs[o]? :=by
 simp[World.cell?,h]
theorem RelL.drop{I:Imm}{w:World}:∀(n:Nat) {xs:List AV} {vs:List Value},RelL I w xs vs->RelL I w (xs.drop n) (vs.drop n)
 | 0,_,_,h=>h
 | n+1,_,_,.nil=>.nil
 | n+1,_,_,.cons _ _ _ _ _ t=>RelL.drop n t
theorem RelL.take{I:Imm}{w:World}:∀(n:Nat) {xs:List AV} {vs:List Value},RelL I w xs vs->RelL I w (xs.take n) (vs.take n)
 | 0,_,_,_=>.nil
 | n+1,_,_,.nil=>.nil
 | n+1,_,_,.cons _ _ _ _ h t=>.cons _ _ _ _ h (RelL.take n t)
theorem RelL.append{I:Imm}{w:World}:∀{xs ys:List AV} {vs us:List Value},RelL I w xs vs->RelL I w ys us->RelL I w (xs++ys) (vs++us)
 | _,_,_,_,.nil,h=>h
 | _,_,_,_,.cons _ _ _ _ h t,h'=>.cons _ _ _ _ h (RelL.append t h')
theorem POp.loadAggH{t tb:TypeId}{x:Operand}{b off:Nat}{cs ys:List AV}{n:Nat}{g:Bool}(h:o.op= .load t x)(hx:aev ρ x=some (g,.p b off))(hg:g=true)(hm:Ent.blk b tb cs∈H)(ht:tyInfo P t=some (true,n))
  (hy:(cs.drop off).take n=ys) (hn:Nat.beq ys.length n=true):POp P H ρ o (.agg ys):=by
 refine .sameH Yk λB I w f hH ho=>?_;have h1:=rel_val (ho.get Yh hx hg);obtain⟨_,vs,h2,h3,_⟩:=hH _ hm;have h4:=(h3.drop off).take n;rw[hy] at h4;have hl:((vs.toList.drop off).take n).length=n:=by rw[h4.length];exact Nat.eq_of_beq_eq_true hn
 refine⟨.agg ((vs.toList.drop off).take n).toArray,?_,.agg _ _ (by simpa using h4)⟩;have:=run_loadVar_agg ht b off _ w hl (λj v hj=>by
  rw[cell_of_blk h2];rw[List.getElem?_take] at hj;split at hj
  ·rw[List.getElem?_drop] at hj;simpa using hj
  ·cases hj)
 simp[execOp,h,h1,Instr.loadAt,Instr.sureAddr,this]
theorem POp.loadOneH{t tb:TypeId}{x:Operand}{b off:Nat}{cs:List AV}{y:AV}{n:Nat}{g:Bool}(h:o.op= .load t x)(hx:aev ρ x=some (g,.p b off))(hg:g=true)(hm:Ent.blk b tb cs∈H)(ht:tyInfo P t=some (false,n))
  (hy:cs[off]? =some y):POp P H ρ o y:=by
 refine .sameH Yk λB I w f hH ho=>?_;have h1:=rel_val (ho.get Yh hx hg);obtain⟨_,vs,h2,h3,_⟩:=hH _ hm;obtain⟨v,h4,h5⟩:=h3.get hy;exact⟨v,by simp[execOp,h,h1,Instr.loadAt,Instr.sureAddr,run_loadVar_one ht b off v w (by rw[cell_of_blk h2];simpa using h4)],h5⟩
def fldOff(P:Program)(t:TypeId)(f:Nat):Option Nat:=
 match P.underlying t with
 | some (.struct fs)=>match fs[f]? with
  | some fd=>match P.info? fd.type with
   | some i=>if i.size=0 then none else some fd.offset
   | none=>none
  | none=>none
 | _=>none
theorem run_fieldAt{t:TypeId}{f off:Nat}(h:fldOff P t f=some off)(b o:Nat)(w:World):(Instr.fieldAt t (.pointer (some ⟨b,o,none⟩)) f).run P w= .ok (.pointer (some ⟨b,o+off,none⟩)) w:=by
 unfold fldOff at h;split at h
 ·rename_i fs hu;split at h
  ·rename_i fd hf;split at h
   ·rename_i i hi;split at h
    ·cases h
    ·rename_i hz;simp at h;subst h;simp[Instr.fieldAt,run_underlying hu,hf,Instr.sureAddr,fieldPlace,sizeOf,typeInfo,hi,hz,Addr.add_lit]
   ·cases h
  ·cases h
 ·cases h
theorem POp.field{t:TypeId}{x:Operand}{f off b o':Nat}{g:Bool}(h:o.op= .fieldAddr t x f)(hx:aev ρ x=some (g,.p b o'))(hg:g=true)(hf:fldOff P t f=some off):POp P H ρ o (.p b (o'+off)):=by
 refine .same Yk λI w a ho=>?_;have h1:=rel_val (ho.get Yh hx hg);exact⟨.pointer (some ⟨b,o'+off,none⟩),by simp[execOp,h,h1,run_fieldAt hf b o' w],.val _⟩
theorem POp.fieldP{t:TypeId}{x:Operand}{f off:Nat}{cs:List AV}{g:Bool}(h:o.op= .fieldAddr t x f)(hx:aev ρ x=some (g,.ptr cs))(hg:g=true)(hf:fldOff P t f=some off):POp P H ρ o (.ptr (cs.drop off)):=by
 refine .same Yk λI w a ho=>?_;have h1:=ho.get Yh hx hg;generalize hv:a.eval x=u at h1;cases h1 with
 | ptr _ b o' hc=>exact⟨.pointer (some ⟨b,o'+off,none⟩),by simp[execOp,h,hv,run_fieldAt hf b o' w],.ptr _ _ _ (hc.drop off)⟩
def arrInfo(P:Program)(t:TypeId):Option (Nat×Nat):=match P.underlying t with | some (.array n e)=>(P.info? e).map λi=>(n,i.size) | _=>none
theorem run_indexArr{t:TypeId}{n k:Nat}(ht:arrInfo P t=some (n,k))(b o:Nat)(kk:IntKind)(i:Int)(h0:0<=i)(h1:i<n)(w:World):
  (Instr.indexAt t (.pointer (some ⟨b,o,none⟩)) (.int kk i)).run P w= .ok (.pointer (some ⟨b,o+i.toNat*k,none⟩)) w:=by
 unfold arrInfo at ht;split at ht
 ·rename_i m e hu;cases hi:P.info? e with
  | none=>simp[hi] at ht
  | some inf=>
   simp[hi] at ht;obtain⟨rfl,rfl⟩:=ht;have h2:0<=i/\i<(m:Int):=⟨h0,h1⟩;simp[Instr.indexAt,asIntOf,run_underlying hu,Instr.sureAddr,sizeOf,typeInfo,hi,h2,Addr.add_lit]
 ·cases ht
theorem POp.indexArr{t:TypeId}{x y:Operand}{b o' n k:Nat}{kk:IntKind}{i:Int}{gx gy:Bool}(h:o.op= .indexAddr t x y)(hx:aev ρ x=some (gx,.p b o'))(hy:aev ρ y=some (gy,.val (.int kk i)))
  (hgx:gx=true) (hgy:gy=true) (ht:arrInfo P t=some (n,k)) (h0:0<=i) (h1:i<n):POp P H ρ o (.p b (o'+i.toNat*k)):=by
 refine .same Yk λI w a ho=>?_;have hp:=rel_val (ho.get Yh hx hgx);have hi:=rel_val (ho.get Yh hy hgy);exact⟨.pointer (some ⟨b,o'+i.toNat*k,none⟩),by simp[execOp,h,hp,hi,run_indexArr ht b o' kk i h0 h1 w],.val _⟩
theorem POp.indexArrP{t:TypeId}{x y:Operand}{cs:List AV}{n k:Nat}{kk:IntKind}{i:Int}{gx gy:Bool}(h:o.op= .indexAddr t x y)(hx:aev ρ x=some (gx,.ptr cs))(hy:aev ρ y=some (gy,.val (.int kk i)))
  (hgx:gx=true) (hgy:gy=true) (ht:arrInfo P t=some (n,k)) (h0:0<=i) (h1:i<n):POp P H ρ o (.ptr (cs.drop (i.toNat*k))):=by
 refine .same Yk λI w a ho=>?_;have hp:=ho.get Yh hx hgx;have hi:=rel_val (ho.get Yh hy hgy);generalize hv:a.eval x=u at hp;cases hp with
 | ptr _ b o' hc=>exact⟨.pointer (some ⟨b,o'+i.toNat*k,none⟩),by simp[execOp,h,hv,hi,run_indexArr ht b o' kk i h0 h1 w],.ptr _ _ _ (hc.drop _)⟩
theorem POp.nilCheck{x:Operand}{b off:Nat}{g:Bool}(h:o.op= .nilCheck x)(hx:aev ρ x=some (g,.p b off))(hg:g=true):POp P H ρ o (.p b off):=by
 refine .same Yk λI w a ho=>?_;have h1:=rel_val (ho.get Yh hx hg);exact⟨.pointer (some ⟨b,off,none⟩),by simp[execOp,h,h1],.val _⟩
theorem POp.nilCheckP{x:Operand}{cs:List AV}{g:Bool}(h:o.op= .nilCheck x)(hx:aev ρ x=some (g,.ptr cs))(hg:g=true):POp P H ρ o (.ptr cs):=by
 refine .same Yk λI w a ho=>?_;have h1:=ho.get Yh hx hg;generalize hv:a.eval x=u at h1;cases h1 with
 | ptr _ b o' hc=>exact⟨.pointer (some ⟨b,o',none⟩),by simp[execOp,h,hv],.ptr _ _ _ hc⟩
theorem POp.nilCheckF{x:Operand}{f:FuncId}{fs cs:List AV}{g:Bool}(h:o.op= .nilCheck x)(hx:aev ρ x=some (g,.fn (.func f) fs cs))(hg:g=true):POp P H ρ o (.fn (.func f) fs cs):=by
 refine .same Yk λI w a ho=>?_;have h1:=ho.get Yh hx hg;generalize hv:a.eval x=u at h1;cases h1 with
 | fn _ _ _ vf vc hf hc=>exact⟨.func (.func f) vf vc,by simp[execOp,h,hv],.fn _ _ _ _ _ hf hc⟩
theorem POp.makeFunc{f:Fn}{first caps:Array Operand}{fs cs:List (Bool×AV)}(h:o.op= .makeFunc f first caps)(hf:aevs ρ first.toList=some fs)(hc:aevs ρ caps.toList=some cs)(hgf:fs.all (·.1)=true)(hgc:cs.all (·.1)=true):
  POp P H ρ o (.fn f (fs.map (·.2)) (cs.map (·.2))):=by
 refine .same Yk λI w a ho=>?_;have h1:=aevs_rel ho first.toList fs (λx hx=>by simp[h,Op.operands];left;simpa using hx) hf (by simpa using hgf);have h2:=aevs_rel ho caps.toList cs (λx hx=>by simp[h,Op.operands];right;simpa using hx) hc (by simpa using hgc);exact⟨.func f (first.map a.eval) (caps.map a.eval),by simp[execOp,h,Instr.makeFunc],.fn _ _ _ _ _ Y7 Yaj⟩
theorem POp.convInt{s d:TypeId}{x:Operand}{k k':IntKind}{n m:Int}{g:Bool}(h:o.op= .convert s d x)(hx:aev ρ x=some (g,.val (.int k n)))(hg:g=true)(hs:(P.underlying s).isSome=true)(hd:P.underlying d=some (.int k'))(hw:k'.wrap n=m):
  POp P H ρ o (.val (.int k' m)):=by
 refine .same Yk λI w a ho=>?_;have h1:=rel_val (ho.get Yh hx hg);subst hw;obtain⟨ds,hds⟩:=Option.isSome_iff_exists.1 hs;refine⟨.int k' (k'.wrap n),?_,.val _⟩;simp[execOp,h,h1,convert,run_underlying hds,run_underlying hd,Conv.intToInt]
theorem POp.min2{x y:Operand}{ts:Array TypeId}{k k':IntKind}{a b c:Int}{gx gy:Bool}(h:o.op= .call {callee:=.builtin .min,args:=#[x,y],argTypes:=ts})(hx:aev ρ x=some (gx,.val (.int k a)))(hy:aev ρ y=some (gy,.val (.int k' b)))(hgx:gx=true)(hgy:gy=true)
  (hc:(if b<a then b else a)=c):POp P H ρ o (.val (.int k c)):=by
 refine .same Yk λI w f ho=>?_;have h1:=rel_val (ho.get Yl hx hgx);have h2:=rel_val (ho.get Yl hy hgy);subst hc;exact⟨.int k (if b<a then b else a),by simp[execOp,h,h1,h2,resolve,invoke,builtin,run_min_int2],.val _⟩
theorem POp.max2{x y:Operand}{ts:Array TypeId}{k k':IntKind}{a b c:Int}{gx gy:Bool}(h:o.op= .call {callee:=.builtin .max,args:=#[x,y],argTypes:=ts})(hx:aev ρ x=some (gx,.val (.int k a)))(hy:aev ρ y=some (gy,.val (.int k' b)))(hgx:gx=true)(hgy:gy=true)
  (hc:(if b>a then b else a)=c):POp P H ρ o (.val (.int k c)):=by
 refine .same Yk λI w f ho=>?_;have h1:=rel_val (ho.get Yl hx hgx);have h2:=rel_val (ho.get Yl hy hgy);subst hc;exact⟨.int k (if b>a then b else a),by simp[execOp,h,h1,h2,resolve,invoke,builtin,run_max_int2],.val _⟩
end
def fnOk(P:Program)(f:FuncId):Bool:=
 match P.funcs[f]? with
 | some fn=>fn.body.isSome && !(fn.name== "runtime.NumGoroutine")
 | none=>false
def RetP(B:Nat)(I0:Imm)(w0:World)(Φ:AV->List Ent->Prop)(E:AV->List Ent->Prop):Ending->World->Prop:=λe w'=>
 ∃I' H',WOk B I' w'/\Ext B I0 w0 I' w'/\HeapOk B I' w' H'/\
  ((∃v x,e= .returned v/\Rel I' w' x v/\Φ x H')\/(∃v x,e= .panicked [{v,recovered:=false}]/\Rel I' w' x v/\E x H'))
def ACall(P:Program)(f:FuncId)(xs:List AV)(H:List Ent)(Φ:AV->List Ent->Prop)(E:AV->List Ent->Prop):Prop:=
 fnOk P f=true/\∀(B:Nat) (I:Imm) (w:World) (vs:List Value),WOk B I w->HeapOk B I w H->RelL I w xs vs->Calls P f vs.toArray w (RetP B I w Φ E)
def PCall(P:Program)(f:FuncId)(xs:List AV)(y:AV):Prop:=∀H,ACall P f xs H (λx H'=>x=y/\H'=H) (λ_ _=>False)
def QCall(P:Program)(f:FuncId)(xs:List AV)(Φ:AV->Prop):Prop:=∀H,ACall P f xs H (λx H'=>Φ x/\H'=H) (λ_ _=>False)
section
variable{P:Program}{H:List Ent}{ρ:Nat->Option AV}{o:Oper}
theorem run_callFunc{f:FuncId}(h:fnOk P f=true)(args:Array Value)(w:World):(callFunc f args).run P w= .ok (.enter f args) w:=by
 unfold fnOk at h;split at h
 ·rename_i fn hf;simp only[Bool.and_eq_true,Bool.not_eq_true'] at h;obtain⟨h1,h2⟩:=h;have h3:fn.body.isNone=false:=by cases hb:fn.body <;> simp_all
  simp only[callFunc,Sem.run_bind,run_program,Result.andThen_ok,hf,h2,h3,Bool.false_eq_true,if_false,Sem.run_pure]
 ·cases h
theorem run_call{x:Operand}{args:Array Operand}{ts:Array TypeId}{f:FuncId}{vf vc:Array Value}(h:o.op= .call {callee:=.value x,args:=args,argTypes:=ts})(hf:fnOk P f=true)(a:Act)(w:World)
  (hx:a.eval x= .func (.func f) vf vc):(execOp a.eval o).run P w= .ok (.enter f (vf++args.map a.eval++vc)) w:=by
 simp[execOp,h,resolve,hx,Deferred.ofValue,invoke,run_callFunc hf]
structure CallOk(P:Program)(ρ:Nat->Option AV)(o:Oper)(f:FuncId)(xs:List AV):Prop where
 run:∀(I:Imm) (w:World) (a:Act),OpsOk I w ρ a o->∃vs:List Value,RelL I w xs vs/\(fnOk P f=true->(execOp a.eval o).run P w= .ok (.enter f vs.toArray) w)
 nodefer:∀c,o.op≠ .defer c
theorem CallOk.mk'{x:Operand}{args:Array Operand}{ts:Array TypeId}{f:FuncId}{fs cs:List AV}{ys:List (Bool×AV)}{g:Bool}(h:o.op= .call {callee:=.value x,args:=args,argTypes:=ts})
  (hx:aev ρ x=some (g,.fn (.func f) fs cs)) (hg:g=true) (ha:aevs ρ args.toList=some ys) (hys:ys.all (·.1)=true):CallOk P ρ o f (fs++ys.map (·.2)++cs):=by
 refine⟨λI w a ho=>?_,Yk⟩;have h1:=ho.get Yl hx hg;have h2:=aevs_rel ho args.toList ys (λz hz=>by simp[h,Op.operands,Call.operands];right;simpa using hz) ha (by simpa using hys);generalize hv:a.eval x=u at h1;cases h1 with
 | fn _ _ _ vf vc hf hc=>
  refine⟨vf.toList++args.toList.map a.eval++vc.toList,(hf.append h2).append hc,λhok=>?_⟩;rw[run_call h hok a w hv];congr 2;simp
theorem POp.call{f:FuncId}{xs:List AV}{y:AV}(hc:CallOk P ρ o f xs)(h:PCall P f xs y):POp P H ρ o y:=by
 intro B I w r a Hc hw hh hs ho;obtain⟨vs,h1,h2⟩:=hc.run I w a ho;obtain⟨hok,hcall⟩:=h Hc;refine Runs.of_enter hc.nodefer (h2 hok) ((hcall B I w vs hw hh h1).mono λe w' hr=>?_);obtain⟨I',H',hw',he',hh',hr⟩:=hr;rcases hr with⟨v,x,rfl,hx,rfl,rfl⟩ | ⟨v,x,rfl,_,hE⟩
 ·exact⟨I',hw',he',hh',hx⟩
 ·exact hE.elim
end
section
variable{c:Ctx}{r:Option Nat}{P:Program}{ops:Array Oper}{l rest:List Oper}{o:Oper}{st:St}{Q:Exit->Act->World->Prop}{x:AV}
theorem OL.call{f:FuncId}{xs:List AV}{Φ:AV->List Ent->Prop}{E:AV->List Ent->Prop}(hg:o.guard=none)(hd:dstOk c.n o.dst=true)(hc:CallOk P (envGet st.env) o f xs)(h:ACall P f xs st.H Φ E)
  (next:∀y H',Φ y H'->OL c r P ops rest ⟨putEnv o.dst y st.env,H'⟩ Q)
  (pan:∀y H',E y H'->∀a w,Sat c ⟨st.env,H'⟩ a w->∀I v,Rel I w y v->Q (.panic [{v,recovered:=false}]) a w):OL c r P ops (o::rest) st Q:=by
 intro a w s;refine wpListIn_plain hg λK hK=>?_;obtain⟨I,hw,he,hh,hv⟩:=s.mem;obtain⟨vs,h1,h2⟩:=hc.run I w a (hv.ops o);obtain⟨hok,hcall⟩:=h;refine Runs.of_enter (R:=λv w'=>∃I' H' x,WOk c.B I' w'/\Ext c.B I w I' w'/\HeapOk c.B I' w' H'/\Rel I' w' x v/\Φ x H')
  (E:=λch w'=>∃I' H' v x,WOk c.B I' w'/\Ext c.B I w I' w'/\HeapOk c.B I' w' H'/\ch= [{v,recovered:=false}]/\Rel I' w' x v/\E x H') hc.nodefer (h2 hok) ((hcall c.B I w vs hw hh h1).mono λe w' hr=>?_) K Q ?_ ?_
 ·obtain⟨I',H',hw',he',hh',hr⟩:=hr;rcases hr with⟨v,x,rfl,hx,hΦ⟩ | ⟨v,x,rfl,hx,hE⟩
  ·exact⟨I',H',x,hw',he',hh',hx,hΦ⟩
  ·exact⟨I',H',v,x,hw',he',hh',rfl,hx,hE⟩
 ·rintro v w' ⟨I',H',x,hw',he',hh',hx,hΦ⟩;refine hK _ _ (next x H' hΦ _ _ ⟨YE,YA,I',hw',he.trans he',hh',?_⟩);exact (hv.keep he'.keeps).put YZ hx
 ·rintro ch w' ⟨I',H',v,x,hw',he',hh',rfl,hx,hE⟩;exact pan x H' hE a w' ⟨s.ds,s.size,I',hw',he.trans he',hh',hv.keep he'.keeps⟩ I' v hx
def bcells:AV->List AV
 | .agg cs=>cs
 | x=>[x]
def bOk:AV->Bool
 | .any=>false
 | .as x _=>match x with | .sl _ _=>true | .fn _ _ _=>true | .ptr _=>true | .iface _ _=>true | _=>false
 | .opt _ _=>false
 | .val v=>v.oneCell'
 | .tup _=>false
 | _=>true
theorem Rel.one{I:Imm}{w:World}{x:AV}{v:Value}(h:Rel I w x v)(hb:bOk x=true)(hx:∀cs,x≠ .agg cs):v.oneCell'=true:=by
 cases h with
 | any=>simp[bOk] at hb
 | val v=>exact hb
 | sl0=>rfl
 | sl=>rfl
 | as y v h=>
  cases h <;> first | rfl | simp[bOk] at hb
 | opt=>simp[bOk] at hb
 | agg cs vs h=>exact absurd rfl (hx cs)
 | tup=>simp[bOk] at hb
 | fn=>rfl
 | iface=>rfl
 | ptr=>rfl
 | e0=>rfl
 | single v h=>exact h
theorem cells_one{v:Value}(h:v.oneCell'=true):v.cells= #[v]:=by
 cases v <;> first | rfl | simp[Value.oneCell'] at h
theorem bcells_rel{I:Imm}{w:World}{x:AV}{v:Value}(h:Rel I w x v)(hb:bOk x=true):RelL I w (bcells x) v.cells.toList:=by
 by_cases hx:∃cs,x= .agg cs
 ·obtain⟨cs,rfl⟩:=hx;cases h with
  | agg _ vs h=>exact h
 ·have hn:∀cs,x≠ .agg cs:=λcs e=>hx ⟨cs,e⟩;have h1:=h.one hb hn;rw[cells_one h1];have:bcells x= [x]:=by cases x <;> first | rfl | exact absurd rfl (hn _)
  rw[this];exact .cons _ _ _ _ h .nil
theorem OL.box{t:TypeId}{z:Operand}{y:AV}{g:Bool}(hgd:o.guard=none)(hd:dstOk c.n o.dst=true)(h:o.op= .box t z)(hz:aev (envGet st.env) z=some (g,y))(hg:g=true)(hb:bOk y=true)
  (next:∀b,OL c r P ops rest ⟨putEnv o.dst (.p b 0) st.env,.blk b t (bcells y)::st.H⟩ Q):OL c r P ops (o::rest) st Q:=by
 intro a w s;refine wpListIn_plain hgd λK hK=>?_;obtain⟨I,hw,he,hh,hv⟩:=s.mem;have h1:=bcells_rel ((hv.ops o).get Yh hz hg) hb;refine Runs.of_value (R:=λv w'=>v= .pointer (some ⟨w.heap.size,0,none⟩)/\w'=w.alloc (.cells (a.eval z).cells t)) (E:=λ_ _=>False) Yk
  (v:=.pointer (some ⟨w.heap.size,0,none⟩)) (w':=w.alloc (.cells (a.eval z).cells t)) Yau ⟨rfl,rfl⟩ K Q ?_ (λ_ _ h=>h.elim)
 rintro v w' ⟨rfl,rfl⟩;refine hK _ _ (next w.heap.size _ _ ⟨YE,YA,I,hw.alloc _,he.trans (ext_alloc hw _),hh.new hw t _ _ h1,?_⟩);exact (hv.keep (keeps_alloc hw _)).put YZ (.val _)
def zeroCells(P:Program)(t:TypeId):Option (List Value):=((P.info? t).bind (·.zero)).map λv=>v.cells.toList
theorem OL.alloc{t:TypeId}{zs:List Value}(hgd:o.guard=none)(hd:dstOk c.n o.dst=true)(h:o.op= .alloc t)(hz:zeroCells P t=some zs)
  (next:∀b,OL c r P ops rest ⟨putEnv o.dst (.p b 0) st.env,.blk b t (zs.map .val)::st.H⟩ Q):OL c r P ops (o::rest) st Q:=by
 intro a w s;refine wpListIn_plain hgd λK hK=>?_;obtain⟨I,hw,he,hh,hv⟩:=s.mem;unfold zeroCells at hz;cases hi:P.info? t with
 | none=>simp[hi] at hz
 | some inf=>
  cases hzz:inf.zero with
  | none=>simp[hi,hzz] at hz
  | some z=>
   simp[hi,hzz] at hz;have h1:RelL I w (zs.map .val) z.cells.toList:=by rw[hz];exact relL_val zs
   refine Runs.of_value (R:=λv w'=>v= .pointer (some ⟨w.heap.size,0,none⟩)/\w'=w.alloc (.cells z.cells t)) (E:=λ_ _=>False) Yk
    (v:=.pointer (some ⟨w.heap.size,0,none⟩)) (w':=w.alloc (.cells z.cells t)) (by simp[execOp,h,Instr.alloc,newVar,newRow,zeroValue,typeInfo,hi,hzz]) ⟨rfl,rfl⟩ K Q ?_ (λ_ _ h=>h.elim)
   rintro v w' ⟨rfl,rfl⟩;refine hK _ _ (next w.heap.size _ _ ⟨YE,YA,I,hw.alloc _,he.trans (ext_alloc hw _),hh.new hw t _ _ h1,?_⟩);exact (hv.keep (keeps_alloc hw _)).put YZ (.val _)
inductive Upd:List Ent->Ent->Ent->List Ent->Prop
 | head (e e':Ent) (H:List Ent):Upd (e::H) e e' (e'::H)
 | tail (f e e':Ent) (H H':List Ent) (h:Upd H e e' H'):Upd (f::H) e e' (f::H')
theorem Upd.mem{H H':List Ent}{e e':Ent}(h:Upd H e e' H'):e∈H:=by
 induction h with
 | head=>exact .head _
 | tail _ _ _ _ _ _ ih=>exact .tail _ ih
theorem Upd.foot{H H':List Ent}{e e':Ent}(h:Upd H e e' H'):∀f∈H',f=e'\/f∈H:=by
 induction h with
 | head=>intro f hf;rcases List.mem_cons.1 hf with rfl | h;exact .inl rfl;exact .inr (.tail _ h)
 | tail g _ _ _ _ _ ih=>
  intro f hf;rcases List.mem_cons.1 hf with rfl | h
  ·exact .inr (.head _)
  ·rcases ih f h with h | h
   ·exact .inl h
   ·exact .inr (.tail _ h)
theorem HeapOk.upd{B:Nat}{I I':Imm}{w w':World}{H H':List Ent}{e e':Ent}(h:HeapOk B I w H)(hu:Upd H e e' H')(hk:Keeps I w I' w')
  (hblk:∀b,b<w.heap.size->e.foot≠some b->w'.heap[b]? =w.heap[b]?) (himm:∀b o,I' b o->I b o\/e.foot=some b\/w.heap.size<=b)
  (hok:e'.ok B I' w') (hft:∀b,e'.foot=some b->e.foot=some b\/w.heap.size<=b):HeapOk B I' w' H':=by
 have keep:∀f:Ent,f.ok B I w->(∀b,f.foot=some b->e.foot≠some b)->f.ok B I' w':=λf hf hne=>
  Ent.keep hf hk (λb hb=>hblk b (Ent.foot_lt hf hb).2 (hne b hb)) (λb hb o ho=>by
   rcases himm b o ho with h | h | h
   ·exact h
   ·exact absurd h (hne b hb)
   ·exact absurd (Ent.foot_lt hf hb).2 (Nat.not_lt.2 h))
 induction hu with
 | head e e' H=>
  obtain⟨h1,h2⟩:=List.pairwise_cons.1 h.apart;refine⟨λf hf=>?_,List.pairwise_cons.2 ⟨λf hf b hb hfb=>?_,h2⟩⟩
  ·rcases List.mem_cons.1 hf with rfl | hf
   ·exact hok
   ·exact keep f (h.ok f (.tail _ hf)) (λb hb he=>h1 f hf b he hb)
  ·rcases hft b hb with h3 | h3
   ·exact h1 f hf b h3 hfb
   ·exact absurd (Ent.foot_lt (h.ok f (.tail _ hf)) hfb).2 (Nat.not_lt.2 h3)
 | tail f e e' H H' hu ih=>
  obtain⟨h1,h2⟩:=List.pairwise_cons.1 h.apart;have ih':=ih h.tail hblk himm hok hft keep;have hne:∀b,f.foot=some b->e.foot≠some b:=λb hb he=>h1 e hu.mem b hb he;refine⟨λg hg=>?_,List.pairwise_cons.2 ⟨λg hg b hb hgb=>?_,ih'.apart⟩⟩
  ·rcases List.mem_cons.1 hg with rfl | hg
   ·exact keep g (h.ok g (.head _)) hne
   ·exact ih'.ok g hg
  ·rcases hu.foot g hg with rfl | hg'
   ·rcases hft b hgb with h3 | h3
    ·exact hne b hb h3
    ·exact absurd (Ent.foot_lt (h.ok f (.head _)) hb).2 (Nat.not_lt.2 h3)
   ·exact h1 g hg' b hb hgb
def allOne(ys:List AV):Bool:=ys.all λy=>bOk y && (match y with | .agg _=>false | _=>true)
theorem relL_one{I:Imm}{w:World}:∀{ys:List AV} {vs:List Value},RelL I w ys vs->allOne ys=true->∀v∈vs,v.oneCell'=true
 | _,_,.nil,_,v,hv=>by cases hv
 | _,_,.cons y u ys vs h t,ha,v,hv=>by
  simp only[allOne,List.all_cons,Bool.and_eq_true] at ha;rcases List.mem_cons.1 hv with rfl | hv
  ·exact h.one ha.1.1 (λcs e=>by subst e;simp at ha)
  ·exact relL_one t ha.2 v hv
theorem OL.store{t tb:TypeId}{p z:Operand}{y:AV}{gp g:Bool}{b off:Nat}{cs:List AV}{H':List Ent}{agg:Bool}(hgd:o.guard=none)(hd:dstOk c.n o.dst=true)(h:o.op= .store t p z)
  (hp:aev (envGet st.env) p=some (gp,.p b off)) (hgp:gp=true) (hz:aev (envGet st.env) z=some (g,y)) (hg:g=true) (hb:bOk y=true) (h1:allOne (bcells y)=true)
  (ht:tyInfo P t=some (agg,(bcells y).length)) (hfit:Nat.ble (off+(bcells y).length) cs.length=true)
  (hu:Upd st.H (.blk b tb cs) (.blk b tb (cs.take off++bcells y++cs.drop (off+(bcells y).length))) H')
  (next:OL c r P ops rest ⟨putEnv o.dst .any st.env,H'⟩ Q):OL c r P ops (o::rest) st Q:=by
 intro a w s;refine wpListIn_plain hgd λK hK=>?_;obtain⟨I,hw,he,hh,hv⟩:=s.mem;have hpv:=rel_val ((hv.ops o).get Yh hp hgp);have hzv:=bcells_rel ((hv.ops o).get Yh hz hg) hb;obtain⟨hB,vs,hblk,hrel,hni⟩:=hh.ok _ hu.mem;have hone:=relL_one hzv h1;have hlen:(a.eval z).cells.toList.length=(bcells y).length:=hzv.length;have hcl:vs.size=cs.length:=by have:=hrel.length;simpa using this
 have hfit':off+0+(a.eval z).cells.toList.length<=vs.size:=by
  have:=Nat.le_of_ble_eq_true hfit;rw[hlen,hcl];omega
 have hrun:=run_storeCells_at P b off tb (a.eval z).cells.toList 0 vs w hblk hfit' hone;obtain⟨_,hsz⟩:=tyInfo_run ht w;generalize hcur:(vs.toList.take (off+0)++(a.eval z).cells.toList++vs.toList.drop (off+0+(a.eval z).cells.toList.length)).toArray=cur at hrun;have hsize:(a.eval z).cells.size=(bcells y).length:=by simpa using hlen
 have hexec:(execOp a.eval o).run P w= .ok .skip (w.setRow b cur):=by
  simp[execOp,h,Instr.storeAt,hpv,Instr.sureAddr,storeVar,hsz,hsize,hrun]
 have hkeep:Keeps I w I (w.setRow b cur):=⟨λ_ _ x=>x,λb' o' hI=>by
  have hne:b'≠b:=λe=>by subst e;exact hni o' hI
  exact World.cell?_of_block (a:=⟨b',o',none⟩) (setRow_other w b b' cur hne)⟩
 have hext:Ext c.B I w I (w.setRow b cur):=⟨hkeep.imm,hkeep.cell,⟨rfl,rfl,rfl,Yn,λk hk=>setRow_other w b k cur Yb⟩⟩;have hw':WOk c.B I (w.setRow b cur):=⟨Yax,λb' o' hI=>by rw[hkeep.cell b' o' hI];exact hw.there b' o' hI⟩;have hrel':RelL I w (cs.take off++bcells y++cs.drop (off+(bcells y).length)) cur.toList:=by
  rw[<-hcur];simp only[Nat.add_zero,hlen];exact ((hrel.take off).append hzv).append (hrel.drop _)
 have hh':HeapOk c.B I (w.setRow b cur) H':=by
  refine hh.upd hu hkeep (λk hk hne=>setRow_other w b k cur (λe=>hne (by subst e;rfl))) (λ_ _ x=>.inl x) ?_ (λk hk=>.inl hk);exact⟨hB,cur,setRow_heap w b vs cur tb (0,0) hblk,hrel'.keep hkeep,hni⟩
 refine Runs.of_skip (R:=λv w'=>v=undef/\w'=w.setRow b cur) (E:=λ_ _=>False) Yk hexec ⟨rfl,rfl⟩ K Q ?_ (λ_ _ h=>h.elim);rintro v w' ⟨rfl,rfl⟩;refine hK _ _ (next _ _ ⟨YE,YA,I,hw',he.trans hext,hh',?_⟩);exact (hv.keep hkeep).put YZ (.any _)
theorem ACall.of{f:FuncId}{fn:Func}{code:Code}{xs:List AV}{H:List Ent}{Φ:AV->List Ent->Prop}{E:AV->List Ent->Prop}{n:Nat}(hf:P.funcs[f]? =some fn)(hb:fn.body=some code)(hnm:(fn.name== "runtime.NumGoroutine")=false)
  (hn:fn.ntmps=n) (env:List (Nat×AV)) (henv:∀t y,envGet env t=some y->xs[t]? =some y) (hl:xs.length<=n)
  (h:∀B I w,CW ⟨B,I,w,n,[]⟩ none P code ⟨env,H⟩ (bodyPost P fn (RetP B I w Φ E))):ACall P f xs H Φ E:=by
 refine⟨by simp[fnOk,hf,hb,hnm],λB I w vs hw hh hv=>calls_of_FW (n:=0) (callsIn_of_wp hf hb trivial ?_ rfl)⟩;refine h B I w _ w ⟨rfl,?_,I,hw,Ext.refl _ _ _,hh,λt y hy=>?_⟩
 ·have:=hv.length;simp;omega
 ·obtain⟨v,h1,h2⟩:=hv.get (henv t y hy);have:(vs.toArray++Array.replicate (fn.ntmps - vs.toArray.size) undef).getD t undef=v:=by
   have hlt:=(List.getElem?_eq_some_iff.1 h1).1;simp only[Array.getD_eq_getD_getElem?];rw[Array.getElem?_append_left (by simpa using hlt)];simp[h1]
  rw[this];exact h2
end
def deps(o:Oper):List Nat:=o.after.toList.filterMap λe=>if Region.binds .any e then some e.on else none
def maskOf(acc:List Nat)(o:Oper):Nat:=(deps o).foldl (λs j=>s ||| 2^j ||| acc.getD j 0) 0
def masks:List Oper->List Nat->List Nat
 | [],acc=>acc
 | o::r,acc=>masks r (acc++[maskOf acc o])
theorem fold_mask(acc:List Nat):∀(l:List Nat) (s j:Nat),(l.foldl (λs j=>s ||| 2^j ||| acc.getD j 0) s).testBit j=true->s.testBit j=true\/∃k∈l,j=k\/(acc.getD k 0).testBit j=true
 | [],s,j,h=>.inl h
 | k::l,s,j,h=>by
  rcases fold_mask acc l _ j h with h | ⟨k',hk,h⟩
  ·simp only[Nat.testBit_or,Bool.or_eq_true,Nat.testBit_two_pow,decide_eq_true_eq] at h;rcases h with (h | h) | h
   ·exact .inl h
   ·exact .inr ⟨k,Yn,.inl h.symm⟩
   ·exact .inr ⟨k,Yn,.inr h⟩
  ·exact .inr ⟨k',by simp[hk],h⟩
def Closed(ops:List Oper)(L:Nat->Prop):Prop:=∀i o,L i->ops[i]? =some o->∀j∈deps o,L j
theorem masks_spec(ops:List Oper)(L:Nat->Prop)(hL:Closed ops L):∀(l:List Oper) (acc:List Nat),acc.length+l.length=ops.length->(∀k,l[k]? =ops[acc.length+k]?)->
  (∀(i m:Nat) (o:Oper),acc[i]? =some m->ops[i]? =some o->(∀k∈deps o,L k)->∀j,m.testBit j=true->L j)->
  ∀(i m:Nat) (o:Oper),(masks l acc)[i]? =some m->ops[i]? =some o->(∀k∈deps o,L k)->∀j,m.testBit j=true->L j
 | [],acc,_,_,h=>h
 | o::l,acc,hlen,hl,h=>by
  refine masks_spec ops L hL l (acc++[maskOf acc o]) (by simp at hlen ⊢;omega) (λk=>?_) ?_
  ·have:=hl (k+1);simp at this;rw[this];congr 1;simp;omega
  ·intro i m o' hi ho hd j hj;by_cases hlt:i<acc.length
   ·rw[List.getElem?_append_left hlt] at hi;exact h i m o' hi ho hd j hj
   ·have hi':i=acc.length:=by
     have:=(List.getElem?_eq_some_iff.1 hi).1;simp at this;omega
    subst hi';rw[List.getElem?_append_right (Nat.le_refl _)] at hi;simp at hi;subst hi;have ho':o'=o:=by
     have hh:=hl 0;simp at hh;rw[<-hh] at ho;exact (Option.some.inj ho).symm
    subst ho';rcases fold_mask acc (deps o') 0 j hj with h0 | ⟨k,hk,h0⟩
    ·simp at h0
    ·rcases h0 with rfl | h0
     ·exact hd j hk
     ·cases hak:acc[k]? with
      | none=>simp[List.getD,hak] at h0
      | some mk=>
       simp[List.getD,hak] at h0;have hkl:=(List.getElem?_eq_some_iff.1 hak).1;have hok:∃ok,ops[k]? =some ok:=⟨ops[k]'Yb,List.getElem?_eq_getElem Yb⟩;obtain⟨ok,hok⟩:=hok;exact h k mk ok hak hok (λk' hk'=>hL k ok (hd k hk) hok k' hk') j h0
def looks(ops:List Oper)(o:Oper):List Nat:=
 (o.op.operands.toList.filterMap λ| .tmp t=>some t | _=>none)++(match o.guard with | some (g,_)=>((ops[g]?).bind (·.dst)).toList | none=>[])
theorem mem_zipIdx_of{α:Type}{l:List α}{i:Nat}{x:α}(h:l[i]? =some x):(x,i)∈l.zipIdx:=by
 rw[List.mem_zipIdx_iff_getElem?];exact h
def AOk(P:Program)(H:List Ent)(ops:List Oper)(env:List (Nat×AV))(o:Oper)(y:AV):Prop:=
 (o.guard=none/\POp P H (envGet env) o y)\/
 (∃j want d G x,o.guard=some (j,want)/\(ops[j]?).bind (·.dst)=some d/\mkG (envGet env d) want=some G/\(G=true->POp P H (envGet env) o x)/\y= .opt G x)
def AD(P:Program)(H:List Ent)(ops:List Oper)(n:Nat):List Oper->List (Nat×AV)->(List (Nat×AV)->Prop)->Prop
 | [],env,K=>K env
 | o::rest,env,K=>∃x,AOk P H ops env o x/\dstOk n o.dst=true/\AD P H ops n rest (putEnv o.dst x env) K
def puts:List (Nat×AV)->List Oper->List AV->List (Nat×AV)
 | env,o::r,x::xs=>puts (putEnv o.dst x env) r xs
 | env,_,_=>env
theorem envGet_putEnv{dst:Option Nat}{x:AV}{env:List (Nat×AV)}{t:Nat}:envGet (putEnv dst x env) t=if dst=some t then some x else envGet env t:=by
 cases dst with
 | none=>simp[putEnv]
 | some d=>
  simp only[putEnv,envGet_cons,Option.some.injEq];by_cases h:t=d
  ·subst h;simp
  ·rw[if_neg h,if_neg (Ne.symm h)]
theorem puts_other:∀(l:List Oper) (xs:List AV) (env:List (Nat×AV)) (t:Nat),(∀(i:Nat) (o:Oper),l[i]? =some o->o.dst≠some t)->envGet (puts env l xs) t=envGet env t
 | [],_,_,_,_=>by simp[puts]
 | o::l,[],_,_,_=>by simp[puts]
 | o::l,x::xs,env,t,h=>by
  rw[puts,puts_other l xs _ t (λi o' ho'=>h (i+1) o' (by simpa using ho')),envGet_putEnv,if_neg (h 0 o Yn)]
theorem puts_at:∀(l:List Oper) (xs:List AV) (env:List (Nat×AV)) (i t:Nat) (o:Oper) (x:AV),l[i]? =some o->xs[i]? =some x->o.dst=some t->(∀j o',l[j]? =some o'->o'.dst=some t->j=i)->envGet (puts env l xs) t=some x
 | [],_,_,i,_,_,_,h,_,_,_=>by simp at h
 | o::l,[],_,i,_,_,_,_,h,_,_=>by simp at h
 | o::l,y::xs,env,0,t,o',x,ho,hx,hd,hu=>by
  simp at ho hx;subst ho;subst hx;rw[puts,puts_other l xs _ t (λi o' ho' e=>by have:=hu (i+1) o' (by simpa using ho') e;omega),envGet_putEnv,if_pos hd]
 | o::l,y::xs,env,i+1,t,o',x,ho,hx,hd,hu=>by
  rw[puts];exact puts_at l xs _ i t o' x (by simpa using ho) YaC hd (λj o2 h2 e=>by have:=hu (j+1) o2 Yaj e;omega)
theorem puts_split:∀(i:Nat) (l:List Oper) (xs:List AV) (env:List (Nat×AV)),xs.length=l.length->puts env l xs=puts (puts env (l.take i) (xs.take i)) (l.drop i) (xs.drop i)
 | 0,l,xs,env,_=>by simp[puts]
 | i+1,[],xs,env,h=>by simp[puts]
 | i+1,o::l,[],env,h=>by simp at h
 | i+1,o::l,x::xs,env,h=>by
  simp only[List.take_succ_cons,List.drop_succ_cons,puts];exact puts_split i l xs _ YN
theorem POp.congr{P:Program}{H:List Ent}{ρ ρ':Nat->Option AV}{o:Oper}{x:AV}(h:POp P H ρ o x)(he:∀t,.tmp t∈o.op.operands.toList->ρ t=ρ' t):POp P H ρ' o x:=by
 intro B I w r a Hc hw hh hs ho;refine h B I w r a Hc hw hh hs (λy hy z hz=>ho y hy z ?_);cases y with
 | tmp t=>rw[<-hz];exact (he t (by simpa using hy)).symm
 | _=>exact hz
theorem mem_looks{l:List Oper}{o:Oper}{t:Nat}(h: .tmp t∈o.op.operands.toList):t∈looks l o:=
 List.mem_append_left _ (List.mem_filterMap.2 ⟨.tmp t,h,rfl⟩)
theorem AOk.run{c:Ctx}{r:Option Nat}{P:Program}{l:List Oper}{H:List Ent}{env:List (Nat×AV)}{o:Oper}{y:AV}{Q:Exit->Act->World->Prop}(h:AOk P H l env o y){i:Nat}(hi:l[i]? =some o)
  {a:Act} {w:World} {I:Imm} (hw:WOk c.B I w) (hh:HeapOk c.B I w H) (hv:∀t∈looks l o,∀z,envGet env t=some z->Rel I w z (a.tmps.getD t undef)) (hn:∀t∈looks l o,t<a.tmps.size)
  {K:Act->World->Prop} (hK:∀v w' I',WOk c.B I' w'->Ext c.B I w I' w'->HeapOk c.B I' w' H->Rel I' w' y v->K (a.put o.dst v) w'):wpOpIn (FW r) 0 P l.toArray Q i K a w:=by
 have hops:OpsOk I w (envGet env) a o:=λx hx z hz=>by
  cases x with
  | tmp t=>exact hv t (mem_looks YaC) z hz
  | const v=>simp[aeval] at hz;subst hz;exact rel_const v
  | global g=>simp[aeval] at hz;subst hz;exact .val _
  | func f=>simp[aeval] at hz;subst hz;exact .fn _ _ _ _ _ .nil .nil
 have hio:l.toArray[i]? =some o:=by simpa using hi
 unfold wpOpIn;simp only[hio];rcases h with⟨hg,hp⟩ | ⟨j,want,d,G,x,hg,hj,hG,hp,rfl⟩
 ·have hwant:Region.wanted o (yielded l.toArray a.tmps)=true:=by simp[Region.wanted,hg]
  rw[if_pos hwant];exact hp c.B I w r a H hw hh (λ_ x=>x) hops K Q (λv w' ⟨I',h1,h2,h3,h4⟩=>hK v w' I' h1 h2 h3 h4) (λ_ _ h=>h.elim)
 ·have hdl:d∈looks l o:=List.mem_append_right _ (by simp[hg,hj]);have hwant:=mkG_wanted (ops:=l.toArray) (I:=I) (w:=w) (a:=a) (o:=o) (j:=j) (d:=d) (y:=envGet env d) (by simpa using hj) hg (λz hz=>hv d hdl z hz) hG (hn d hdl);rw[hwant];cases G with
  | true=>
   rw[if_pos rfl];exact hp rfl c.B I w r a H hw hh (λ_ x=>x) hops K Q (λv w' ⟨I',h1,h2,h3,h4⟩=>hK v w' I' h1 h2 h3 (.opt _ _ _ (λ_=>h4) (λe=>by cases e))) (λ_ _ h=>h.elim)
  | false=>
   rw[if_neg Yn];exact⟨λ_ _=>trivial,hK undef w I hw (Ext.refl _ _ _) hh (.opt _ _ _ (λe=>by cases e) (λ_=>rfl))⟩
theorem getD_set(listed:Array Bool)(i j:Nat)(h:i<listed.size):(listed.setIfInBounds i true).getD j false=if i=j then true else listed.getD j false:=by
 by_cases e:i=j
 ·subst e;simp[Array.getD,h]
 ·rw[if_neg e];exact getD_set_ne false e
theorem getD_true_iff{listed:Array Bool}{j:Nat}(h:j<listed.size)(d:Bool):listed.getD j d=listed.getD j false:=by
 simp[Array.getD,h]
theorem AD.nil{P:Program}{H:List Ent}{ops:List Oper}{n:Nat}{env:List (Nat×AV)}{K:List (Nat×AV)->Prop}(h:K env):AD P H ops n [] env K:=h
theorem AD.pop{P:Program}{H:List Ent}{ops:List Oper}{n:Nat}{env:List (Nat×AV)}{K:List (Nat×AV)->Prop}{o:Oper}{rest:List Oper}{x:AV}(hg:o.guard=none)(hd:dstOk n o.dst=true)(h:POp P H (envGet env) o x)
  (next:AD P H ops n rest (putEnv o.dst x env) K):AD P H ops n (o::rest) env K:=⟨x,.inl ⟨hg,h⟩,hd,next⟩
theorem AD.guarded{P:Program}{H:List Ent}{ops:List Oper}{n:Nat}{env:List (Nat×AV)}{K:List (Nat×AV)->Prop}{o:Oper}{rest:List Oper}{x:AV}{j d:Nat}{want G:Bool}(hg:o.guard=some (j,want))(hj:(ops[j]?).bind (·.dst)=some d)
  (hG:mkG (envGet env d) want=some G) (hd:dstOk n o.dst=true) (h:G=true->POp P H (envGet env) o x) (next:AD P H ops n rest (putEnv o.dst (.opt G x) env) K):AD P H ops n (o::rest) env K:=
 ⟨.opt G x,.inr ⟨j,want,d,G,x,hg,hj,hG,h,rfl⟩,hd,next⟩
class HasTy (P:Program) (t:Nat) (x:outParam (Bool×Nat)):Prop where h:tyInfo P t=some x
class HasFld (P:Program) (t f:Nat) (x:outParam Nat):Prop where h:fldOff P t f=some x
class HasSl (P:Program) (t:Nat) (x:outParam Nat):Prop where h:slSize P t=some x
class HasArr (P:Program) (t:Nat) (x:outParam (Nat×Nat)):Prop where h:arrInfo P t=some x
class HasZero (P:Program) (t:Nat) (x:outParam (List Value)):Prop where h:zeroCells P t=some x
class IsB (P:Program) (t:Nat):Prop where h:P.underlying t=some .bool
class HasInt (P:Program) (t:Nat) (k:outParam IntKind):Prop where h:P.underlying t=some (.int k)
class MapLike {α:Type} (F:List α->List (List AV)) (enc:outParam (α->List AV)):Prop where h:∀l,F l=l.map enc
instance{α:Type}(enc:α->List AV):MapLike (List.map enc) enc:=⟨λ_=>rfl⟩
theorem isSl_of{P:Program}{t k:Nat}(h:slSize P t=some k):isSl P t=true:=by
 obtain⟨e,i,hu,_⟩:=slSize_spec h;simp[isSl,hu]
section
variable{P:Program}{H:List Ent}{ρ:Nat->Option AV}{o:Oper}
theorem POp.len'{x:Operand}{t:TypeId}{k k':Nat}{els:List (List AV)}{g:Bool}[ht:HasSl P t k'](h:o.op= .call {callee:=.builtin .len,args:=#[x],argTypes:=#[t]})(hx:aev ρ x=some (g,.sl k els))(hg:g=true):POp P H ρ o (.i els.length):=
 .len h hx hg (isSl_of ht.h)
theorem POp.lenM{α:Type}{F:List α->List (List AV)}{enc:α->List AV}{l:List α}{x:Operand}{t:TypeId}{k k':Nat}{g:Bool}[ht:HasSl P t k'][hF:MapLike F enc](h:o.op= .call {callee:=.builtin .len,args:=#[x],argTypes:=#[t]})(hx:aev ρ x=some (g,.sl k (F l)))(hg:g=true):POp P H ρ o (.i l.length):=by
 rw[hF.h] at hx;have:=POp.len (H:=H) h hx hg (isSl_of ht.h);rw[List.length_map] at this;exact this
theorem POp.lenA{x:Operand}{t:TypeId}{k k':Nat}{els:List (List AV)}{v:Value}{g:Bool}[ht:HasSl P t k'](h:o.op= .call {callee:=.builtin .len,args:=#[x],argTypes:=#[t]})(hx:aev ρ x=some (g,.as (.sl k els) v))(hg:g=true):POp P H ρ o (.i els.length):=
 .lenAs h hx hg (isSl_of ht.h)
theorem POp.lenV{x:Operand}{t:TypeId}{k':Nat}{a:Option Addr}{n c:Nat}{g:Bool}[ht:HasSl P t k'](h:o.op= .call {callee:=.builtin .len,args:=#[x],argTypes:=#[t]})(hx:aev ρ x=some (g,.val (.slice a n c)))(hg:g=true):POp P H ρ o (.i n):=
 .lenVal h hx hg (isSl_of ht.h)
theorem POp.ixM{α:Type}[Inhabited α]{F:List α->List (List AV)}{enc:α->List AV}{l:List α}{t:TypeId}{x y:Operand}{k:Nat}{kk:IntKind}{i:Nat}{gx gy:Bool}[ht:HasSl P t k][hF:MapLike F enc](h:o.op= .indexAddr t x y)(hx:aev ρ x=some (gx,.sl k (F l)))(hgx:gx=true)
  (hy:aev ρ y=some (gy,.val (.int kk (i:Int)))) (hgy:gy=true) (h0:i<l.length):POp P H ρ o (.ptr (enc (l.getD i default))):=
 .indexMap h (by rw[hF.h] at hx;exact hx) hy hgx hgy ht.h h0
theorem POp.ixI{α:Type}[Inhabited α]{F:List α->List (List AV)}{enc:α->List AV}{l:List α}{t:TypeId}{x y:Operand}{k:Nat}{kk:IntKind}{i:Int}{gx gy:Bool}[ht:HasSl P t k][hF:MapLike F enc](h:o.op= .indexAddr t x y)(hx:aev ρ x=some (gx,.sl k (F l)))(hgx:gx=true)
  (hy:aev ρ y=some (gy,.val (.int kk i))) (hgy:gy=true) (h0:0<=i/\i<l.length):POp P H ρ o (.ptr (enc (l.getD i.toNat default))):=
 .indexMap0 h (by rw[hF.h] at hx;exact hx) hy hgx hgy ht.h h0.1 h0.2
theorem POp.ldA{t:TypeId}{x:Operand}{cs:List AV}{n:Nat}{g:Bool}[ht:HasTy P t (true,n)](h:o.op= .load t x)(hx:aev ρ x=some (g,.ptr cs))(hg:g=true)(hn:Nat.ble n cs.length=true):POp P H ρ o (.agg (cs.take n)):=.loadAgg h hx hg ht.h hn
theorem POp.ld1{t:TypeId}{x:Operand}{cs:List AV}{y:AV}{n:Nat}{g:Bool}[ht:HasTy P t (false,n)](h:o.op= .load t x)(hx:aev ρ x=some (g,.ptr cs))(hg:g=true)(hn:cs[0]? =some y):POp P H ρ o y:=.loadOne h hx hg ht.h hn
theorem POp.ldAH{t tb:TypeId}{x:Operand}{b off:Nat}{cs ys:List AV}{n:Nat}{g:Bool}[ht:HasTy P t (true,n)](h:o.op= .load t x)(hx:aev ρ x=some (g,.p b off))(hg:g=true)(hm:Ent.blk b tb cs∈H)(hy:(cs.drop off).take n=ys)(hn:Nat.beq ys.length n=true):POp P H ρ o (.agg ys):=.loadAggH h hx hg hm ht.h hy hn
theorem POp.ld1H{t tb:TypeId}{x:Operand}{b off:Nat}{cs:List AV}{y:AV}{n:Nat}{g:Bool}[ht:HasTy P t (false,n)](h:o.op= .load t x)(hx:aev ρ x=some (g,.p b off))(hg:g=true)(hm:Ent.blk b tb cs∈H)(hy:cs[off]? =some y):POp P H ρ o y:=.loadOneH h hx hg hm ht.h hy
theorem POp.fa{t:TypeId}{x:Operand}{f off b o' d:Nat}{g:Bool}[hf:HasFld P t f off](h:o.op= .fieldAddr t x f)(hx:aev ρ x=some (g,.p b o'))(hg:g=true)(hd:o'+off=d):POp P H ρ o (.p b d):=hd▸ .field h hx hg hf.h
theorem POp.faP{t:TypeId}{x:Operand}{f off:Nat}{cs ys:List AV}{g:Bool}[hf:HasFld P t f off](h:o.op= .fieldAddr t x f)(hx:aev ρ x=some (g,.ptr cs))(hg:g=true)(hd:cs.drop off=ys):POp P H ρ o (.ptr ys):=hd▸ .fieldP h hx hg hf.h
theorem POp.ia{t:TypeId}{x y:Operand}{b o' n k:Nat}{kk:IntKind}{i:Int}{gx gy:Bool}[ht:HasArr P t (n,k)](h:o.op= .indexAddr t x y)(hx:aev ρ x=some (gx,.p b o'))(hgx:gx=true)(hy:aev ρ y=some (gy,.val (.int kk i)))(hgy:gy=true)(h0:0<=i/\i<n):
  POp P H ρ o (.p b (o'+i.toNat*k)):=.indexArr h hx hy hgx hgy ht.h h0.1 h0.2
theorem POp.iaP{t:TypeId}{x y:Operand}{cs:List AV}{n k:Nat}{kk:IntKind}{i:Int}{gx gy:Bool}[ht:HasArr P t (n,k)](h:o.op= .indexAddr t x y)(hx:aev ρ x=some (gx,.ptr cs))(hgx:gx=true)(hy:aev ρ y=some (gy,.val (.int kk i)))(hgy:gy=true)(h0:0<=i/\i<n):
  POp P H ρ o (.ptr (cs.drop (i.toNat*k))):=.indexArrP h hx hy hgx hgy ht.h h0.1 h0.2
theorem POp.eqB{op:BinOp}{t t':TypeId}{x y:Operand}{a b:Bool}{gx gy:Bool}[ht:IsB P t](h:o.op= .binOp .eql t x y t')(hx:aev ρ x=some (gx,.b a))(hgx:gx=true)(hy:aev ρ y=some (gy,.b b))(hgy:gy=true):POp P H ρ o (.b (a==b)):=.eqb h hx hy hgx hgy ht.h (.inl ⟨rfl,rfl⟩)
theorem POp.cv{s d:TypeId}{x:Operand}{k ks kd:IntKind}{n m:Int}{g:Bool}[hs:HasInt P s ks][hd:HasInt P d kd](h:o.op= .convert s d x)(hx:aev ρ x=some (g,.val (.int k n)))(hg:g=true)(hw:kd.wrap n=m):POp P H ρ o (.val (.int kd m)):=.convInt h hx hg (by rw[hs.h];rfl) hd.h hw
theorem POp.sl'{t:TypeId}{x:Operand}{lo hi:Option Operand}{k:Nat}{els:List (List AV)}{l n:Nat}{gx gl gh:Bool}{kl kh:IntKind}[ht:HasSl P t k](h:o.op= .slice t x lo hi none)(hx:aev ρ x=some (gx,.sl k els))(hgx:gx=true)
  (hlo:match lo with | none=>l=0 | some y=>aev ρ y=some (gl,.val (.int kl (l:Int)))) (hgl:gl=true) (hhi:match hi with | none=>n=els.length | some y=>aev ρ y=some (gh,.val (.int kh (n:Int)))) (hgh:gh=true)
  (h1:l<=n/\n<=els.length):POp P H ρ o (.sl k ((els.take n).drop l)):=.slice h hx hgx hlo hgl hhi hgh ht.h h1.1 h1.2
end
section
variable{c:Ctx}{r:Option Nat}{P:Program}{ops:Array Oper}{l rest:List Oper}{o:Oper}{st:St}{Q:Exit->Act->World->Prop}{x:AV}
theorem OL.al{t:TypeId}{zs:List Value}[hz:HasZero P t zs](hgd:o.guard=none)(hd:dstOk c.n o.dst=true)(h:o.op= .alloc t)
  (next:∀b,OL c r P ops rest ⟨putEnv o.dst (.p b 0) st.env,.blk b t (zs.map .val)::st.H⟩ Q):OL c r P ops (o::rest) st Q:=OL.alloc hgd hd h hz.h next
theorem OL.sto{t tb:TypeId}{p z:Operand}{y:AV}{gp g:Bool}{b off n:Nat}{cs ds:List AV}{H':List Ent}{agg:Bool}[ht:HasTy P t (agg,n)](hgd:o.guard=none)(hd:dstOk c.n o.dst=true)(h:o.op= .store t p z)
  (hp:aev (envGet st.env) p=some (gp,.p b off)) (hgp:gp=true) (hz:aev (envGet st.env) z=some (g,y)) (hg:g=true) (hb:bOk y=true) (h1:allOne (bcells y)=true)
  (hn:Nat.beq (bcells y).length n=true) (hu:Upd st.H (.blk b tb cs) (.blk b tb ds) H') (hfit:Nat.ble (off+n) cs.length=true) (hds:cs.take off++bcells y++cs.drop (off+n)=ds)
  (next:OL c r P ops rest ⟨putEnv o.dst .any st.env,H'⟩ Q):OL c r P ops (o::rest) st Q:=by
 have hn':=Nat.eq_of_beq_eq_true hn;subst hds;subst hn';exact OL.store hgd hd h hp hgp hz hg hb h1 ht.h hfit hu next
theorem CW.cut{ι:Type}(inv:ι->St){p q:Code}(h:CW c r P p st (Exit.then (λa w=>∃i,Sat c (inv i) a w) Q))(hq:∀i,CW c r P q (inv i) Q):CW c r P (.seq p q) st Q:=by
 intro a w s;refine wpIn_seq (wpIn_mono (h a w s) λe a w hh=>?_);cases e with
 | normal=>obtain⟨i,hi⟩:=hh;exact hq i a w hi
 | _=>exact hh
theorem Done.cut{ι:Type}{inv:ι->St}(i:ι)(he:envLe (inv i).env st.env)(hH:(inv i).H.Sublist st.H):Done c st .normal (Exit.then (λa w=>∃i,Sat c (inv i) a w) Q):=
 λa w s=>⟨i,s.weaken (envLe_get he) hH⟩
theorem CW.bound{p:Code}{t k:Nat}{els:List (List AV)}(ht:envGet st.env t=some (.sl k els))(h:els.length<=maxLen->CW c r P p st Q):CW c r P p st Q:=by
 intro a w s;refine h ?_ a w s;obtain⟨I,hw,he,hh,hv⟩:=s.mem;have h0:=hv t _ ht;generalize a.tmps.getD t undef=u at h0;cases h0 with
 | sl0=>simp
 | sl k els b off len cap hl hc hm h=>omega
theorem CW.boundM{α:Type}{F:List α->List (List AV)}{enc:α->List AV}[hF:MapLike F enc]{xs:List α}{p:Code}{t k:Nat}(ht:envGet st.env t=some (.sl k (F xs)))(h:xs.length<=9223372036854775807->CW c r P p st Q):CW c r P p st Q:=
 CW.bound ht λhb=>h (by rw[hF.h,List.length_map] at hb;simpa [maxLen] using hb)
theorem CW.loopJ(J:Nat->St->Prop){p:Code}(h0:∃m st',J m st'/\envLe st'.env st.env/\st'.H.Sublist st.H)
  (round:∀m st',J m st'->CW c r P p st' (Exit.then (λa w=>∃m' st'',m'<m/\J m' st''/\Sat c st'' a w) Q)):CW c r P (.loop p) st Q:=by
 obtain⟨m,st',hJ,he,hH⟩:=h0;refine CW.loop (ι:={x:Nat×St // J x.1 x.2}) (λi=>i.1.2) (λi=>i.1.1) ⟨(m,st'),hJ⟩ he hH λ⟨⟨m,st'⟩,hJ⟩ a w s=>?_;refine wpIn_mono (round m st' hJ a w s) λe a w hh=>?_;cases e with
 | normal=>obtain⟨m',st'',h1,h2,h3⟩:=hh;exact⟨⟨(m',st''),h2⟩,h1,h3⟩
 | _=>exact hh
theorem Done.againJ{J:Nat->St->Prop}{m m':Nat}{st':St}(hJ:J m' st')(hm:m'<m)(he:envLe st'.env st.env)(hH:st'.H.Sublist st.H):
  Done c st .normal (Exit.then (λa w=>∃m' st'',m'<m/\J m' st''/\Sat c st'' a w) Q):=
 λa w s=>⟨m',st',hm,hJ,s.weaken (envLe_get he) hH⟩
theorem CW.cutJ(J:St->Prop){p q:Code}(h:CW c r P p st (Exit.then (λa w=>∃st',J st'/\Sat c st' a w) Q))(hq:∀st',J st'->CW c r P q st' Q):CW c r P (.seq p q) st Q:=by
 intro a w s;refine wpIn_seq (wpIn_mono (h a w s) λe a w hh=>?_);cases e with
 | normal=>obtain⟨i,hi,hs⟩:=hh;exact hq i hi a w hs
 | _=>exact hh
theorem Done.cutJ{J:St->Prop}{st':St}(hJ:J st')(he:envLe st'.env st.env)(hH:st'.H.Sublist st.H):Done c st .normal (Exit.then (λa w=>∃st',J st'/\Sat c st' a w) Q):=
 λa w s=>⟨st',hJ,s.weaken (envLe_get he) hH⟩
end
def envOf:Nat->List AV->List (Nat×AV)
 | _,[]=>[]
 | i,x::xs=>(i,x)::envOf (i+1) xs
theorem envOf_get:∀(xs:List AV) (i t:Nat) (y:AV),envGet (envOf i xs) t=some y->i<=t/\xs[t - i]? =some y
 | [],i,t,y,h=>by simp[envOf,envGet] at h
 | x::xs,i,t,y,h=>by
  rw[envOf,envGet_cons] at h;split at h
  ·rename_i e;subst e;simp at h;subst h;simp
  ·rename_i e;obtain⟨h1,h2⟩:=envOf_get xs (i+1) t y h;refine⟨Yb,?_⟩;have e1:t - i=(t - (i+1))+1:=by omega
   rw[e1];simpa using h2
theorem ACall.mk'{P:Program}{f:FuncId}{fn:Func}{code:Code}{xs:List AV}{H:List Ent}{Φ:AV->List Ent->Prop}{E:AV->List Ent->Prop}{n:Nat}(hf:P.funcs[f]? =some fn)(hb:fn.body=some code)(hnm:(fn.name== "runtime.NumGoroutine")=false)
  (hn:fn.ntmps=n) (hl:Nat.ble xs.length n=true) (h:∀B I w,CW ⟨B,I,w,n,[]⟩ none P code ⟨envOf 0 xs,H⟩ (bodyPost P fn (RetP B I w Φ E))):ACall P f xs H Φ E:=
 ACall.of hf hb hnm hn (envOf 0 xs) (λt y hy=>by have:=(envOf_get xs 0 t y hy).2;simpa using this) (Nat.le_of_ble_eq_true hl) h
theorem ACall.weak{P:Program}{f:FuncId}{xs:List AV}{H:List Ent}{Φ Φ':AV->List Ent->Prop}{E E':AV->List Ent->Prop}(h:ACall P f xs H Φ E)(h1:∀x H,Φ x H->Φ' x H)(h2:∀x H,E x H->E' x H):ACall P f xs H Φ' E':=
 ⟨h.1,λB I w vs hw hh hv=>(h.2 B I w vs hw hh hv).mono λe w' ⟨I',H',a,b,d,hr⟩=>⟨I',H',a,b,d,hr.elim (λ⟨v,x,e1,e2,e3⟩=>.inl ⟨v,x,e1,e2,h1 _ _ e3⟩) (λ⟨v,x,e1,e2,e3⟩=>.inr ⟨v,x,e1,e2,h2 _ _ e3⟩)⟩⟩
end Go.Eng
