/- Part 1 of the proof: contracts of functions of the program and what they need. No condition beyond those that each theorem names. -/
import Derived.WalkKit
import Derived.OwnWalkIn
import Derived.DefersIn
set_option maxHeartbeats 1000000
set_option linter.unusedVariables false
set_option linter.unusedSimpArgs false
namespace Go
theorem ad{p:Prop}(h:p:=by omega):p:=h
theorem dI{p:Prop}(h:p:=by first | exact af.eN rfl rfl rfl rfl | (apply af.lr rfl rfl rfl;(case hm=>repeat (first | exact .head _ | refine .tail _ ?_));(case hy=>rfl))):p:=h
theorem ay{p:Prop}(h:p:=by decide+kernel):p:=h
theorem dv{p:Prop}(h:p:=by first | rfl | ((repeat (first | exact al | rfl | refine Bool.and_eq_true_iff.2 ⟨?_,?_⟩));done) | simp_all [strip,FP]):p:=h
theorem b8{p:Prop}(h:p:=by repeat (first | exact List.Sublist.refl _ | refine List.Sublist.cons _ ?_)):p:=h
theorem cK{p:Prop}(h:p:=by first | exact af.FQ rfl rfl rfl rfl | exact af.FR rfl rfl rfl rfl):p:=h
theorem aM{p:Prop}(h:p:=by kernel_rfl):p:=h
theorem eg{p:Prop}(h:p:=by first | rfl | exact gp (by simp_all) | exact bR (by simp_all) | simp_all):p:=h
theorem hp{p:Prop}(h:p:=by repeat (first | exact List.Sublist.refl _ | apply List.Sublist.cons_cons | refine List.Sublist.cons _ ?_)):p:=h
theorem hH{p:Prop}(h:p:=by first | exact af.nilCheck rfl rfl rfl | exact af.LF rfl rfl rfl | exact af.LG rfl rfl rfl):p:=h
theorem c4{p:Prop}(h:p:=by first | rfl | simp_all [strip]):p:=h
theorem ey{p:Prop}(h:p:=by repeat (first | exact hq.head _ _ | apply hq.tail)):p:=h
theorem cx{p:Prop}(h:p:=by simp[h,Op.operands]):p:=h
theorem jn{p:Prop}(h:p:=by intro v q bd;rcases q with _ | _ | _ | _ | _ | _ | q <;> first | rfl | (cases bd)):p:=h
theorem ob{p:Prop}(h:p:=by first | exact af.iQ rfl rfl rfl rfl rfl ⟨by omega,by omega⟩ | exact af.h1 rfl rfl rfl rfl rfl ⟨by omega,by omega⟩):p:=h
theorem h2{p:Prop}(h:p:=by repeat (first | exact trivial | refine⟨rfl,?_⟩)):p:=h
theorem oc{p:Prop}(h:p:=by simp only[List.length_map,List.length_take,List.length_singleton,List.length_cons,List.length_nil] at*;omega):p:=h
theorem pN{p:Prop}(h:p:=by simp only[List.length_map,List.length_singleton,List.length_take,List.length_cons,List.length_nil] at*;omega):p:=h
theorem bj{p:Prop}(h:p:=by simp):p:=h
theorem va{p:Prop}(h:p:=by repeat (first | exact .head _ | refine .tail _ ?_)):p:=h
theorem tC{p:Prop}(h:p:=by first | exact .Cl inferInstance rfl (by repeat (first | exact .head _ | refine .tail _ ?_)) rfl (.nil) | exact .LH inferInstance rfl rfl (.nil)):p:=h
theorem nr{p:Prop}(h:p:=by unfold hI sl;(repeat' split) <;> first | rfl | omega | (simp_all;done)):p:=h
theorem eV{p:Prop}(h:p:=by unfold gL;omega):p:=h
theorem vb{p:Prop}(h:p:=by simp_all):p:=h
theorem ig{p:Prop}(h:p:=by simp[h,Op.operands,Call.operands]):p:=h
theorem k8{p:Prop}(h:p:=by unfold Cm jo;simp_all <;> (intro a;omega)):p:=h
theorem cB{p:Prop}(h:p:=by simp[h]):p:=h
theorem xC{p:Prop}(h:p:=by first | exact af.iQ rfl rfl (cL al) rfl (cL al) ⟨by simp at al,by simp at al⟩ | exact af.h1 rfl rfl (cL al) rfl (cL al) ⟨by simp at al,by simp at al⟩):p:=h
theorem dj{p:Prop}(h:p:=by simp;omega):p:=h
theorem xD{p:Prop}(h:p:=by have cQ:=fC;simp only[List.length_map,List.length_singleton,List.length_take,List.length_cons,List.length_nil,rn,tD] at*;omega):p:=h
theorem jq{p:Prop}(h:p:=by rw[FT];exact s.size):p:=h
theorem qm{p:Prop}(h:p:=by have:=Vo (cs:=p.aY) (i:=i) k (λc h=>(ak c h).2);have ajZ:=Nat.mul_le_mul_left 1000 aH;simp only[List.length_map,List.length_singleton,List.length_cons,List.length_nil];omega):p:=h
theorem zf{p:Prop}(h:p:=by first | exact .zg inferInstance rfl (by repeat (first | exact .head _ | refine .tail _ ?_)) rfl rfl (.nil) | exact .zh inferInstance rfl rfl (.nil)):p:=h
theorem Cn{p:Prop}(h:p:=by have cQ:=FU (p:=p) (t:=g.t) (gen:=gen) (kinds:=kinds) m;have eW:=en;simp only[List.length_map,List.length_singleton,List.length_cons,List.length_nil] at*;omega):p:=h
theorem Co{p:Prop}(h:p:=by have cQ:=FU (p:=p) (t:=t) (gen:=gen) (kinds:=kinds) m;have eW:=en;simp only[List.length_map,List.length_singleton,List.length_cons,List.length_nil] at*;omega):p:=h
theorem jr{p:Prop}(h:p:=by rw[put_defers];exact s.ds):p:=h
theorem Cp{p:Prop}(h:p:=by first | exact .zg inferInstance rfl (by repeat (first | exact .head _ | refine .tail _ ?_)) rfl rfl (.tmp rfl (.nil)) | exact .zh inferInstance rfl rfl (.tmp rfl (.nil))):p:=h
theorem Cq{p:Prop}(h:p:=by first | exact af.zi rfl rfl rfl rfl | (apply af.Cr rfl rfl rfl;(case hm=>repeat (first | exact .head _ | refine .tail _ ?_));(case hy=>rfl);(case hn=>rfl))):p:=h
theorem zj{p:Prop}(h:p:=by first | exact af.eN rfl rfl rfl rfl | (apply af.lr rfl rfl rfl;(case hm=>exact List.mem_append_right _ hm);(case hy=>rfl))):p:=h
theorem pO{p:Prop}(h:p:=by repeat (first | exact bu.head _ _ _ | apply bu.tail)):p:=h
theorem ih{p:Prop}(h:p:=by rw[aN];exact next):p:=h
theorem Cs{p:Prop}(h:p:=by have cQ:=FV h (A.take k);simp only[List.length_map,List.length_take,List.length_singleton,List.length_cons,List.length_nil] at*;omega):p:=h
theorem xE{p:Prop}(h:p:=by first | exact af.Vp rfl rfl rfl | exact af.Vq rfl rfl rfl rfl | exact af.Vr rfl rfl rfl):p:=h
theorem Ct{p:Prop}(h:p:=by first | exact af.eN rfl rfl rfl rfl | (apply af.lr rfl rfl rfl;(case hm=>exact List.mem_append_right _ (.head _));(case hy=>rfl))):p:=h
theorem lu{p:Prop}(h:p:=by simp only[maxLen];omega):p:=h
theorem lv{p:Prop}(h:p:=by exact List.Sublist.refl _):p:=h
theorem Cu{p:Prop}(h:p:=by first | exact af.sm rfl rfl rfl | exact af.LI rfl rfl rfl | exact af.Cv rfl rfl rfl | exact af.LJ rfl rfl rfl):p:=h
theorem h3{p:Prop}(h:p:=by simpa using h):p:=h
theorem fM{p:Prop}(h:p:=by exact rfl):p:=h
theorem Cw{p:Prop}(h:p:=by first | exact af.iQ rfl rfl rfl rfl rfl ⟨vc,xF⟩ | exact af.h1 rfl rfl rfl rfl rfl ⟨vc,xF⟩):p:=h
theorem LK{p:Prop}(h:p:=by simp only[List.length_map,List.length_singleton] at*;have cQ:=List.length_filterMap_le (λs=>(ky (mm p c) s).map λn=>(s,n)) ((ez p c).take k);rw[List.length_take] at cQ;omega):p:=h
theorem e3{p:Prop}(h:p:=by decide):p:=h
theorem FW{p:Prop}(h:p:=by first | exact af.eN rfl rfl rfl rfl | (apply af.lr rfl rfl rfl;(case hm=>exact .tail _ (hm _ (.head _)));(case hy=>rfl))):p:=h
theorem Cx{p:Prop}(h:p:=by first | exact λ_=>rfl | exact λh=>h | (intro h;rw[h];rfl) | (intro h;simp_all)):p:=h
theorem LL{p:Prop}(h:p:=by first | exact af.call (.inv rfl rfl rfl (by kernel_rfl) rfl rfl) (Vs p (gq p x) Vt sn) | exact af.call (.inv rfl rfl rfl (by kernel_rfl) rfl rfl) (Vu dV p (gq p x))):p:=h
theorem LM{p:Prop}(h:p:=by have cQ:=fC;have eW:=b4.1;simp only[List.length_map,List.length_singleton,List.length_take,List.length_cons,List.length_nil,rn,tD] at*;omega):p:=h
theorem LN{p:Prop}(h:p:=by have cQ:=List.length_filter_le (· !=x) (l.take i);simp only[List.length_map,List.length_take,List.length_singleton,List.length_cons,List.length_nil] at*;omega):p:=h
theorem LO{p:Prop}(h:p:=by first | exact af.zi rfl rfl rfl rfl | (apply af.Cr rfl rfl rfl;(case hm=>exact List.mem_append_right _ (.tail _ (.head _)));(case hy=>rfl);(case hn=>rfl))):p:=h
theorem LP{p:Prop}(h:p:=by obtain⟨a,b⟩:=x;obtain⟨c,d⟩:=y;revert ai;cases a <;> cases b <;> cases c <;> cases d <;> first | (intro;rfl) | (intro h;exact absurd h (by decide))):p:=h
theorem FX{p:Prop}(h:p:=by subst lx;have:((i.bytes*n:Nat):Int)<=281474976710656:=(by omega);rwa [Int.natCast_mul] at this):p:=h
theorem FY{p:Prop}(h:p:=by apply af.lr rfl rfl rfl;(case hm=>exact .tail _ (hu default).mem);(case hy=>exact Vv av more)):p:=h
theorem LQ{p:Prop}(h:p:=by have cQ:=List.length_filter_le p (l.take i);simp only[List.length_map,List.length_take,List.length_singleton,List.length_cons,List.length_nil] at*;omega):p:=h
theorem dJ{p:Prop}(h:p:=by rfl):p:=h
theorem Cy{p:Prop}(h:p:=by have e:k=l.length:=(by omega);rw[e,List.take_length] at fp;exact fp):p:=h
theorem qn{p:Prop}(h:p:=by rw[List.length_map];omega):p:=h
theorem FZ{p:Prop}(h:p:=by first | (rw[List.cons_append,List.append_assoc];exact List.Sublist.cons _ (List.Sublist.refl _))):p:=h
theorem LR{p:Prop}(h:p:=by apply af.lr rfl rfl rfl;(case hm=>repeat (first | exact .head _ | refine .tail _ ?_));(case hy=>exact ints_at (by rw[Cz];exact c3))):p:=h
theorem oQ{p:Prop}(h:p:=by rw[s.size];exact hn):p:=h
theorem LS{p:Prop}(h:p:=by first | exact af.iQ rfl rfl (cL al) rfl (cL al) ⟨by omega,by omega⟩ | exact af.h1 rfl rfl (cL al) rfl (cL al) ⟨by omega,by omega⟩):p:=h
theorem aj0{p:Prop}(h:p:=by simp at al):p:=h
theorem CA{p:Prop}(h:p:=by show -1000<=_/\_<=1000+(1:Int);simp only[ns];omega):p:=h
theorem LU{p:Prop}(h:p:=by first | exact af.iQ rfl rfl rfl rfl rfl (by rw[qo];exact ak) | exact af.h1 rfl rfl rfl rfl rfl (by rw[qo];exact ak)):p:=h
theorem LV{p:Prop}(h:p:=by first | exact af.iQ rfl rfl rfl rfl rfl (by rw[rn];exact ag) | exact af.h1 rfl rfl rfl rfl rfl (by rw[rn];exact ag)):p:=h
theorem tE{p:Prop}(h:p:=by first | rfl | exact al | simp_all):p:=h
theorem LW{p:Prop}(h:p:=by rw[List.cons_append,List.cons_append,List.append_assoc];exact .cons _ (.cons _ (.append_left _ (List.perm_append_comm_assoc _ _ _)))):p:=h
theorem F0{p:Prop}(h:p:=by have:=(zk (b2 l.f.arg (l.f.path.take j))).aJ;rw[<-xG] at this;simp;omega):p:=h
theorem zl{p:Prop}(h:p:=by have:=(F1 xs 0 t y hy).2;simpa using this):p:=h
theorem LX{p:Prop}(h:p:=by first | exact af.CB rfl rfl rfl rfl rfl ⟨by omega,by omega⟩ | exact af.CC rfl rfl rfl rfl rfl ⟨by omega,by omega⟩):p:=h
theorem LY{p:Prop}(h:p:=by first | exact af.iQ rfl rfl rfl rfl rfl (by rw[tF];omega) | exact af.h1 rfl rfl rfl rfl rfl (by rw[tF];omega)):p:=h
theorem LZ{p:Prop}(h:p:=by first | exact af.iQ rfl rfl rfl rfl rfl (by simpa using a1) | exact af.h1 rfl rfl rfl rfl rfl (by simpa using a1)):p:=h
theorem L0{p:Prop}(h:p:=by simp only[List.length_map,List.length_singleton,List.length_append,List.length_cons,List.length_nil] at*;omega):p:=h
theorem rp{p:Prop}(h:p:=by rw[s.size];exact aN):p:=h
theorem so{p:Prop}(h:p:=by simp only[hJ];omega):p:=h
theorem tG{p:Prop}(h:p:=by first | assumption | omega):p:=h
theorem L1{p:Prop}(h:p:=by first | exact af.makeFunc rfl rfl rfl (by first | rfl | simp_all [strip]) (by first | rfl | simp_all [strip])):p:=h
theorem L2{p:Prop}(h:p:=by simp only[Bool.cond_true_left,Bool.not_eq_true',Bool.or_eq_false_iff,decide_eq_false_iff_not] at al;omega):p:=h
theorem CD{p:Prop}(h:p:=by rw[List.length_append,List.length_singleton];omega):p:=h
theorem CE{p:Prop}(h:p:=by rw[eE (by omega)];exact List.take_prefix _ _):p:=h
theorem L3{p:Prop}(h:p:=by first | exact af.L4 rfl | exact af.row rfl rfl (by first | rfl | simp_all [strip]) rfl rfl rfl rfl rfl):p:=h
theorem CF{p:Prop}(h:p:=by have cQ:=L5 (L6 an (L7 p al));omega):p:=h
theorem pP{p:Prop}(h:p:=by rw[hn];decide):p:=h
theorem xH{p:Prop}(h:p:=by simp_all [jo,L8] <;> rfl):p:=h
theorem CG{p:Prop}(h:p:=by rw[List.length_take,Nat.min_eq_left (by omega)]):p:=h
theorem vd{p:Prop}(h:p:=by unfold hI sl;simp_all):p:=h
theorem L9{p:Prop}(h:p:=by rw[(rq ag).1,dP];unfold tH;rw[show ((m:Int)).toNat=m from rfl, <-bT,ab]):p:=h
theorem Ma{p:Prop}(h:p:=by first | exact af.CB rfl rfl rfl rfl rfl (by simp) | exact af.CC rfl rfl rfl rfl rfl (by simp)):p:=h
theorem pQ{p:Prop}(h:p:=by simpa using ab):p:=h
theorem CH{p:Prop}(h:p:=by rw[<-Array.length_toList,List.take_length]):p:=h
theorem F2{p:Prop}(h:p:=by simp only[jZ,Bool.and_eq_true,decide_eq_true_eq];omega):p:=h
theorem F3{p:Prop}(h:p:=by simp only[List.length_append,List.length_take,ag.2];omega):p:=h
theorem Mb{p:Prop}(h:p:=by revert aP;cases gM (cZ p) <;> cases ((eO p.aY:Int)==p.aJ) <;> simp):p:=h
theorem Mc{p:Prop}(h:p:=by have cQ:=Vw W c i;simp only[List.length_map,List.length_singleton] at*;omega):p:=h
theorem ve{p:Prop}(h:p:=by simp[nt,aP,aw,qp]):p:=h
theorem zm{p:Prop}(h:p:=by rw[FT];exact sat.size):p:=h
theorem sq{p:Prop}(h:p:=by rw[hn];exact iR):p:=h
theorem CI{p:Prop}(h:p:=by simp only[Bool.cond_false_right];exact ab):p:=h
theorem Md{p:Prop}(h:p:=by rw[List.all_append,List.all_cons,List.all_nil,Bool.and_true,Bool.cond_false_right]):p:=h
theorem Me{p:Prop}(h:p:=by simp only[Bool.cond_false_right,Bool.and_eq_true,decide_eq_true_eq] at xI;omega):p:=h
theorem zn{p:Prop}(h:p:=by simp[Act.eval,Array.replicate]):p:=h
theorem Vx{p:Prop}(h:p:=by first | exact af.iQ rfl rfl rfl rfl rfl ⟨by rw[bT];omega,by rw[bT];omega⟩ | exact af.h1 rfl rfl rfl rfl rfl ⟨by rw[bT];omega,by rw[bT];omega⟩):p:=h
theorem CJ{p:Prop}(h:p:=by rw[eE (by omega)];exact mU ab):p:=h
theorem CK{p:Prop}(h:p:=by have cQ:=L5 (Vy p al);omega):p:=h
theorem Mf{p:Prop}(h:p:=by intro q bd;rcases q with _ | _ | _ | _ | _ | _ | q <;> first | rfl | (cases bd)):p:=h
theorem rr{p:Prop}(h:p:=by simpa using av):p:=h
theorem Mg{p:Prop}(h:p:=by rcases vf with⟨_,ae⟩ | ⟨ab,_⟩;exact ae;rw[ru] at ab;cases ab):p:=h
theorem CL{p:Prop}(h:p:=by have cQ:=Mh (L7 p al);omega):p:=h
theorem Mi{p:Prop}(h:p:=by have e:k=l.length:=(by omega);rw[e,List.take_length] at aB;exact aB):p:=h
theorem Mj{p:Prop}(h:p:=by rw[show ((mn A j ||| 2^(c:Int).toNat:Nat):Int)=_ from rfl,h4]):p:=h
theorem Mk{p:Prop}(h:p:=by simp[execOp,h,Instr.alloc,newVar,newRow,zeroValue,typeInfo,iH,kM]):p:=h
theorem zo{p:Prop}(h:p:=by rw[put_defers];exact sat.ds):p:=h
theorem CM{p:Prop}(h:p:=by simpa [or_assoc,and_assoc] using ai):p:=h
theorem tI{p:Prop}(h:p:=by simp at al;omega):p:=h
theorem xJ{p:Prop}(h:p:=by simp[execOp,h,dW]):p:=h
theorem Vz{p:Prop}(h:p:=by rw[Int.toNat_natCast];exact tJ h (by have:=aB _ ae;omega)):p:=h
theorem CN{p:Prop}(h:p:=by simp only[hJ];split <;> omega):p:=h
theorem F4{p:Prop}(h:p:=by simp[execOp,h,Instr.box,newVar,newRow]):p:=h
theorem VA{p:Prop}(h:p:=by first | exact af.iQ rfl rfl rfl rfl rfl (by rw[ak.qq];exact rv) | exact af.h1 rfl rfl rfl rfl rfl (by rw[ak.qq];exact rv)):p:=h
theorem VB{p:Prop}(h:p:=by first | exact af.iQ rfl rfl rfl rfl rfl (by rw[ak.qq];exact a1) | exact af.h1 rfl rfl rfl rfl rfl (by rw[ak.qq];exact a1)):p:=h
theorem zp{p:Prop}(h:p:=by simpa [Nat.blt] using aw):p:=h
theorem Ml{p:Prop}(h:p:=by rintro _ ag;obtain⟨v,aC,rfl⟩:=List.mem_map.1 ag;rfl):p:=h
theorem xK{p:Prop}(h:p:=by simpa using hw.base):p:=h
theorem CO{p:Prop}(h:p:=by first | decide | omega | simp):p:=h
theorem CP{p:Prop}(h:p:=by show (1:Int)<=1;omega):p:=h
theorem vg{p:Prop}(h:p:=by rw[hn];rfl):p:=h
theorem CQ{p:Prop}(h:p:=by rw[cA] at ru;exact ru):p:=h
theorem aj1{p:Prop}(h:p:=by rw[qo];exact ak):p:=h
theorem aj2{p:Prop}(h:p:=by rw[rn];exact ag):p:=h
theorem vh{p:Prop}(h:p:=by rw[eF];rfl):p:=h
theorem Mm{p:Prop}(h:p:=by rw[Cz];exact c3):p:=h
theorem Mn{p:Prop}(h:p:=by rw[List.length_map,List.length_map,h.pl,ak.qq]):p:=h
theorem xL{p:Prop}(h:p:=by simpa using cO):p:=h
theorem xM{p:Prop}(h:p:=by simpa using ae):p:=h
theorem tK{p:Prop}(h:p:=by assumption):p:=h
theorem Mo{p:Prop}(h:p:=by rw[bT];omega):p:=h
theorem Mp{p:Prop}(h:p:=by show (0:Int)<(Y.kids.length:Int);omega):p:=h
theorem tL{p:Prop}(h:p:=by simp[ab]):p:=h
theorem CR{p:Prop}(h:p:=by unfold maxLen;omega):p:=h
theorem xN{p:Prop}(h:p:=by subst e;rfl):p:=h
theorem CS{p:Prop}(h:p:=by rw[lZ];exact aK):p:=h
theorem VC{p:Prop}(h:p:=by show List.length (List.map _ _)+1<=_;rw[List.length_map];omega):p:=h
theorem zq{p:Prop}(h:p:=by rw[h];simp):p:=h
theorem aj3{p:Prop}(h:p:=by simpa using a1):p:=h
theorem Mq{p:Prop}(h:p:=by rw[List.length_take];omega):p:=h
theorem Mr{p:Prop}(h:p:=by rw[h];simp[Op.operands]):p:=h
theorem VD{p:Prop}(h:p:=by rw[List.length_append,fx.1,vi,Nat.add_mul]):p:=h
theorem aj4{p:Prop}(h:p:=by rw[ak.qq];exact rv):p:=h
theorem aj5{p:Prop}(h:p:=by rw[ak.qq];exact a1):p:=h
theorem Ms{p:Prop}(h:p:=by simp[maxLen];omega):p:=h
end Go
namespace Go.Eng
open Go.RowKit (Below)
inductive aa where
 | any
 | val (v:Value)
 | aF (k:Nat) (els:List (List aa))
 | as (x:aa) (v:Value)
 | opt (g:Bool) (x:aa)
 | agg (cs:List aa)
 | bJ (xs:List aa)
 | fn (f:Fn) (first mo:List aa)
 | iface (t:TypeId) (x:aa)
 | ptr (cells:List aa)
 | gF
 | one
 deriving Inhabited
abbrev aa.i(n:Int):aa:=.val (.int .i64 n)
abbrev aa.b(x:Bool):aa:=.val (.bool x)
abbrev aa.p(b o:Nat):aa:=.val (.pointer (some ⟨b,o,none⟩))
abbrev a8:=Nat->Nat->Prop
mutual
inductive Rel(I:a8)(w:World):aa->Value->Prop
 | any (v:Value):Rel I w .any v
 | val (v:Value):Rel I w (.val v) v
 | eP (k:Nat) (a:Option Addr) (c:Nat):Rel I w (.aF k []) (.slice a 0 c)
 | aF (k:Nat) (els:List (List aa)) (b off len cap:Nat) (ax:els.length=len) (ak:len<=cap) (hm:cap<=maxLen) (h:fX I w k b off els):Rel I w (.aF k els) (.slice (some ⟨b,off,none⟩) len cap)
 | as (x:aa) (v:Value) (h:Rel I w x v):Rel I w (.as x v) v
 | opt (g:Bool) (x:aa) (v:Value) (h:g=true->Rel I w x v) (ai:g=false->v=undef):Rel I w (.opt g x) v
 | agg (cs:List aa) (vs:Array Value) (h:bZ I w cs vs.toList):Rel I w (.agg cs) (.agg vs)
 | bJ (cs:List aa) (vs:Array Value) (h:bZ I w cs vs.toList):Rel I w (.bJ cs) (.tuple vs)
 | fn (f:Fn) (bM cs:List aa) (fq eQ:Array Value) (aP:bZ I w bM fq.toList) (ak:bZ I w cs eQ.toList):Rel I w (.fn f bM cs) (.func f fq eQ)
 | iface (t:TypeId) (x:aa) (v:Value) (h:Rel I w x v):Rel I w (.iface t x) (.iface t v)
 | ptr (cs:List aa) (b o:Nat) (h:Cells I w b o cs):Rel I w (.ptr cs) (.pointer (some ⟨b,o,none⟩))
 | gF (a:Option Addr):Rel I w .gF (.slice a 0 0)
 | single (v:Value) (h:v.oneCell'=true):Rel I w .one v
inductive bZ(I:a8)(w:World):List aa->List Value->Prop
 | nil:bZ I w [] []
 | cons (x:aa) (v:Value) (xs:List aa) (vs:List Value) (h:Rel I w x v) (t:bZ I w xs vs):bZ I w (x::xs) (v::vs)
inductive Cells(I:a8)(w:World):Nat->Nat->List aa->Prop
 | nil (b o:Nat):Cells I w b o []
 | cons (b o:Nat) (x:aa) (c:Value) (xs:List aa) (ak:w.cell? ⟨b,o,none⟩=some c) (b4:I b o) (h:Rel I w x c) (t:Cells I w b (o+1) xs):Cells I w b o (x::xs)
inductive fX(I:a8)(w:World):Nat->Nat->Nat->List (List aa)->Prop
 | nil (k b o:Nat):fX I w k b o []
 | cons (k b o:Nat) (cs:List aa) (rest:List (List aa)) (ao:cs.length=k) (h:Cells I w b o cs) (t:fX I w k b (o+k) rest):fX I w k b o (cs::rest)
end
structure Ext(B:Nat)(I:a8)(w:World)(aQ:a8)(w':World):Prop where
 j0:∀b o,I b o->aQ b o
 cell:∀b o,I b o->w'.cell? ⟨b,o,none⟩=w.cell? ⟨b,o,none⟩
 below:Below B w w'
theorem Ext.refl(B:Nat)(I:a8)(w:World):Ext B I w I w:=⟨λ_ _ h=>h,λ_ _ _=>rfl,Below.refl _ _⟩
theorem Ext.trans{B:Nat}{I J K:a8}{w w' j1:World}(h:Ext B I w J w')(cf:Ext B J w' K j1):Ext B I w K j1:=
 ⟨λb o x=>cf.j0 b o (h.j0 b o x),λb o x=>(cf.cell b o (h.j0 b o x)).trans (h.cell b o x),h.below.trans cf.below⟩
theorem Ext.drew{B:Nat}{I J:a8}{w w':World}(h:Ext B I w J w'):Ext B I w J w'.drew:=⟨h.j0,h.cell,h.below.drew⟩
structure fb(I:a8)(w:World)(aQ:a8)(w':World):Prop where
 j0:∀b o,I b o->aQ b o
 cell:∀b o,I b o->w'.cell? ⟨b,o,none⟩=w.cell? ⟨b,o,none⟩
theorem Ext.keeps{B:Nat}{I J:a8}{w w':World}(h:Ext B I w J w'):fb I w J w':=⟨h.j0,h.cell⟩
mutual
theorem Rel.bQ{I aQ:a8}{w w':World}(h:fb I w aQ w'):∀{x:aa} {v:Value},Rel I w x v->Rel aQ w' x v
 | _,_,.any v=>.any v
 | _,_,.val v=>.val v
 | _,_,.eP k a c=>.eP k a c
 | _,_,.aF k els b off len cap ax ak hm he=>.aF k els b off len cap ax ak hm (fX.bQ h he)
 | _,_,.as x v ag=>.as x v (Rel.bQ h ag)
 | _,_,.opt g x v ag ai=>.opt g x v (λe=>Rel.bQ h (ag e)) ai
 | _,_,.agg cs vs ax=>.agg cs vs (bZ.bQ h ax)
 | _,_,.bJ cs vs ax=>.bJ cs vs (bZ.bQ h ax)
 | _,_,.fn f bM cs fq eQ aP ak=>.fn f bM cs fq eQ (bZ.bQ h aP) (bZ.bQ h ak)
 | _,_,.iface t x v ag=>.iface t x v (Rel.bQ h ag)
 | _,_,.ptr cs b o ak=>.ptr cs b o (Cells.bQ h ak)
 | _,_,.gF a=>.gF a
 | _,_,.single v h=>.single v h
theorem bZ.bQ{I aQ:a8}{w w':World}(h:fb I w aQ w'):∀{xs:List aa} {vs:List Value},bZ I w xs vs->bZ aQ w' xs vs
 | _,_,.nil=>.nil
 | _,_,.cons x v xs vs ag ht=>.cons x v xs vs (Rel.bQ h ag) (bZ.bQ h ht)
theorem Cells.bQ{I aQ:a8}{w w':World}(h:fb I w aQ w'):∀{b o:Nat} {xs:List aa},Cells I w b o xs->Cells aQ w' b o xs
 | _,_,_,.nil b o=>.nil b o
 | _,_,_,.cons b o x c xs ak b4 ag ht=>.cons b o x c xs ((h.cell b o b4).trans ak) (h.j0 b o b4) (Rel.bQ h ag) (Cells.bQ h ht)
theorem fX.bQ{I aQ:a8}{w w':World}(h:fb I w aQ w'):∀{k b o:Nat} {xs:List (List aa)},fX I w k b o xs->fX aQ w' k b o xs
 | _,_,_,_,.nil k b o=>.nil k b o
 | _,_,_,_,.cons k b o cs rest ao ak ht=>.cons k b o cs rest ao (Cells.bQ h ak) (fX.bQ h ht)
end
theorem bZ.length{I:a8}{w:World}:∀{xs:List aa} {vs:List Value},bZ I w xs vs->vs.length=xs.length
 | _,_,.nil=>rfl
 | _,_,.cons _ _ _ _ _ t=>by simp[bZ.length t]
theorem bZ.get{I:a8}{w:World}:∀{xs:List aa} {vs:List Value},bZ I w xs vs->∀{i:Nat} {x:aa},xs[i]? =some x->∃v,vs[i]? =some v/\Rel I w x v
 | _,_,.nil,_,_,h=>by simp at h
 | _,_,.cons x v xs vs ag ht,0,y,h=>⟨v,bj,by simp at h;exact h▸ag⟩
 | _,_,.cons x v xs vs ag ht,i+1,y,h=>by
  obtain⟨u,ab,ae⟩:=ht.get (i:=i) (x:=y) h3;exact⟨u,pQ,ae⟩
theorem Cells.get{I:a8}{w:World}:∀{b o:Nat} {xs:List aa},Cells I w b o xs->∀{i:Nat} {x:aa},xs[i]? =some x->∃c,w.cell? ⟨b,o+i,none⟩=some c/\I b (o+i)/\Rel I w x c
 | _,_,_,.nil _ _,_,_,h=>by simp at h
 | _,_,_,.cons b o x c xs ak b4 ag ht,0,y,h=>⟨c,by simpa using ak,by simpa using b4,by simp at h;exact h▸ag⟩
 | _,_,_,.cons b o x c xs ak b4 ag ht,i+1,y,h=>by
  obtain⟨u,ab,ae,aD⟩:=ht.get (i:=i) (x:=y) h3;refine⟨u,?_,?_,aD⟩
  ·rw[<-ab];congr 2;omega
  ·have:o+(i+1)=o+1+i:=by omega
   rw[this];exact ae
theorem Cells.drop{I:a8}{w:World}:∀(i:Nat) {b o:Nat} {xs:List aa},Cells I w b o xs->Cells I w b (o+i) (xs.drop i)
 | 0,_,_,_,h=>h
 | i+1,_,_,_,.nil b o=>.nil b _
 | i+1,_,_,_,.cons b o x c xs ak b4 ag ht=>by
  have:=Cells.drop i ht;have e:o+(i+1)=o+1+i:=by omega
  rw[e];exact this
theorem Cells.take{I:a8}{w:World}:∀(i:Nat) {b o:Nat} {xs:List aa},Cells I w b o xs->Cells I w b o (xs.take i)
 | 0,_,_,_,_=>.nil _ _
 | i+1,_,_,_,.nil b o=>.nil b o
 | i+1,_,_,_,.cons b o x c xs ak b4 ag ht=>.cons b o x c _ ak b4 ag (Cells.take i ht)
theorem Cells.append{I:a8}{w:World}:∀{b o:Nat} {xs ys:List aa},Cells I w b o xs->Cells I w b (o+xs.length) ys->Cells I w b o (xs++ys)
 | _,_,_,_,.nil b o,h=>by simpa using h
 | _,_,_,ys,.cons b o x c xs ak b4 ag ht,h=>by
  refine .cons b o x c _ ak b4 ag (Cells.append ht ?_);have e:o+(x::xs).length=o+1+xs.length:=by simp;omega
  rw[<-e];exact h
theorem fX.get{I:a8}{w:World}:∀{k b o:Nat} {xs:List (List aa)},fX I w k b o xs->∀{i:Nat} {cs:List aa},xs[i]? =some cs->cs.length=k/\Cells I w b (o+i*k) cs
 | _,_,_,_,.nil _ _ _,_,_,h=>by simp at h
 | _,_,_,_,.cons k b o cs rest ao ak ht,0,y,h=>by simp at h;subst h;exact⟨ao,by simpa using ak⟩
 | _,_,_,_,.cons k b o cs rest ao ak ht,i+1,y,h=>by
  obtain⟨ab,ae⟩:=ht.get (i:=i) (cs:=y) h3;refine⟨ab,?_⟩;have e:o+(i+1)*k=o+k+i*k:=by rw[Nat.add_mul];omega
  rw[e];exact ae
theorem fX.drop{I:a8}{w:World}:∀(i:Nat) {k b o:Nat} {xs:List (List aa)},fX I w k b o xs->fX I w k b (o+i*k) (xs.drop i)
 | 0,_,_,_,_,h=>by simpa using h
 | i+1,_,_,_,_,.nil k b o=>.nil _ _ _
 | i+1,_,_,_,_,.cons k b o cs rest ao ak ht=>by
  have:=fX.drop i ht;have e:o+(i+1)*k=o+k+i*k:=by rw[Nat.add_mul];omega
  rw[e];exact this
theorem fX.take{I:a8}{w:World}:∀(i:Nat) {k b o:Nat} {xs:List (List aa)},fX I w k b o xs->fX I w k b o (xs.take i)
 | 0,_,_,_,_,_=>.nil _ _ _
 | i+1,_,_,_,_,.nil k b o=>.nil _ _ _
 | i+1,_,_,_,_,.cons k b o cs rest ao ak ht=>.cons k b o cs _ ao ak (fX.take i ht)
theorem fX.append{I:a8}{w:World}:∀{k b o:Nat} {xs ys:List (List aa)},fX I w k b o xs->fX I w k b (o+xs.length*k) ys->fX I w k b o (xs++ys)
 | _,_,_,_,_,.nil k b o,h=>by simpa using h
 | _,_,_,_,ys,.cons k b o cs rest ao ak ht,h=>by
  refine .cons k b o cs _ ao ak (fX.append ht ?_);have e:o+(cs::rest).length*k=o+k+rest.length*k:=by rw[List.length_cons,Nat.add_mul];omega
  rw[<-e];exact h
theorem fX.cells{I:a8}{w:World}:∀{k b o:Nat} {xs:List (List aa)},fX I w k b o xs->Cells I w b o xs.flatten
 | _,_,_,_,.nil k b o=>.nil _ _
 | _,_,_,_,.cons k b o cs rest ao ak ht=>by
  rw[List.flatten_cons];exact Cells.append ak (by rw[ao];exact ht.cells)
theorem fX.Mt{I:a8}{w:World}:∀{k b o:Nat} {xs:List (List aa)},fX I w k b o xs->xs.flatten.length=xs.length*k
 | _,_,_,_,.nil k b o=>by simp
 | _,_,_,_,.cons k b o cs rest ao ak ht=>by rw[List.flatten_cons,List.length_append,ht.Mt,ao,List.length_cons,Nat.add_mul];omega
theorem Cells.values{I:a8}{w:World}:∀{b o:Nat} {xs:List aa},Cells I w b o xs->∃vs:List Value,bZ I w xs vs/\∀j v,vs[j]? =some v->w.cell? ⟨b,o+j,none⟩=some v
 | _,_,_,.nil b o=>⟨[],.nil,bj⟩
 | _,_,_,.cons b o x c xs ak b4 ag ht=>by
  obtain⟨vs,ab,ae⟩:=ht.values;refine⟨c::vs,.cons _ _ _ _ ag ab,λj v h=>?_⟩;cases j with
  | zero=>simp at h;subst h;simpa using ak
  | succ j=>
   have:=ae j v h3;have e:o+(j+1)=o+1+j:=by omega
   rw[e];exact this
inductive aj where
 | aI (b:Nat) (t:TypeId) (cs:List aa)
 | own (t:TypeId) (k:Nat) (v:Value)
 | row (t:TypeId) (k:Nat) (v:Value) (n:Nat) (cs:List aa)
 | obj (b:Nat) (o:Obj)
 | map (b:Nat) (es:List (Value×aa))
 | loop (b:Nat) (dw:Loop) (ρ:Nat->Option aa)
 | lmap (b:Nat) (js:Value->Prop) (κ:Value->List aa) (d:List aa)
 | gX (b:Nat) (js:Value->Prop) (κ:Value->aa)
 deriving Inhabited
def aj.eX:aj->Option Nat
 | .aI b _ _=>some b
 | .own _ _ v=>v.ownBlock
 | .row _ _ v _ _=>v.ownBlock
 | .obj b _=>some b
 | .map b _=>some b
 | .loop b _ _=>some b
 | .lmap b _ _ _=>some b
 | .gX b _ _=>some b
def aj.ok(B:Nat)(I:a8)(w:World):aj->Prop
 | .aI b t cs=>B<=b/\∃vs:Array Value,w.heap[b]? =some (.cells vs t (0,0))/\bZ I w cs vs.toList/\∀o,¬I b o
 | .own t k v=>∃n xs,w.ownsRow B t k v n xs/\∀g,v.ownBlock=some g->∀o,n*k<=o->¬I g o
 | .row t k v n cs=>∃xs,w.ownsRow B t k v n xs/\bZ I w cs xs/\∀g,v.ownBlock=some g->∀o,¬I g o
 | .obj b dL=>B<=b/\w.heap[b]? =some dL/\∀o,¬I b o
 | .map b es=>B<=b/\(∃(entries:Array MapEntry) (clock:Nat),w.heap[b]? =some (.map entries clock)/\entries.toList.map (·.key)=es.map (·.1)/\bZ I w (es.map (·.2)) (entries.toList.map (·.val)))/\∀o,¬I b o
 | .lmap b js κ d=>B<=b/\(∃(entries:Array MapEntry) (clock:Nat),w.heap[b]? =some (.map entries clock)/\(∀e∈entries.toList,js e.key/\Rel I w (.ptr (κ e.key)) e.val)/\∀v,js v->(∀e∈entries.toList,e.key≠v)->κ v=d)/\∀o,¬I b o
 | .gX b js κ=>B<=b/\(∃(entries:Array MapEntry) (clock:Nat),w.heap[b]? =some (.map entries clock)/\∀e∈entries.toList,js e.key/\Rel I w (κ e.key) e.val)/\∀o,¬I b o
 | .loop b dw ρ=>B<=b/\w.heap[b]? =some (.loop dw)/\(∀t x,ρ t=some x->Rel I w x (dw.tmps.getD t undef))/\∀o,¬I b o
structure br(B:Nat)(I:a8)(w:World)(H:List aj):Prop where
 ok:∀e∈H,e.ok B I w
 apart:H.Pairwise λe f=>∀b,e.eX=some b->f.eX≠some b
structure ck(B:Nat)(I:a8)(w:World):Prop where
 base:B<=w.heap.size
 there:∀b o,I b o->∃c,w.cell? ⟨b,o,none⟩=some c
theorem ck.lt{B:Nat}{I:a8}{w:World}(h:ck B I w){b o:Nat}(b4:I b o):b<w.heap.size:=by
 obtain⟨c,ak⟩:=h.there b o b4;exact World.block_lt_of_cell? (a:=⟨b,o,none⟩) w ak
theorem ck.drew{B:Nat}{I:a8}{w:World}(h:ck B I w):ck B I w.drew:=⟨h.base,h.there⟩
theorem aj.nu{B:Nat}{I:a8}{w:World}{e:aj}(h:e.ok B I w){b:Nat}(aw:e.eX=some b):B<=b/\b<w.heap.size:=by
 cases e with
 | aI dk t cs=>
  obtain⟨ab,vs,ae,_⟩:=h;simp[aj.eX] at aw;subst aw;exact⟨ab,(Array.getElem?_eq_some_iff.1 ae).1⟩
 | own t k v=>
  obtain⟨n,xs,ab,_⟩:=h;exact ab.lt b aw
 | row t k v n cs=>
  obtain⟨xs,ab,_⟩:=h;exact ab.lt b aw
 | obj dk o=>
  simp[aj.eX] at aw;subst aw;exact⟨h.1,(Array.getElem?_eq_some_iff.1 h.2.1).1⟩
 | map dk es=>
  simp[aj.eX] at aw;subst aw;obtain⟨ab,⟨cv,dS,ae,_⟩,_⟩:=h;exact⟨ab,(Array.getElem?_eq_some_iff.1 ae).1⟩
 | loop dk dw ρ=>
  simp[aj.eX] at aw;subst aw;exact⟨h.1,(Array.getElem?_eq_some_iff.1 h.2.1).1⟩
 | lmap dk js κ d=>
  simp[aj.eX] at aw;subst aw;obtain⟨ab,⟨cv,dS,ae,_⟩,_⟩:=h;exact⟨ab,(Array.getElem?_eq_some_iff.1 ae).1⟩
 | gX dk js κ=>
  simp[aj.eX] at aw;subst aw;obtain⟨ab,⟨cv,dS,ae,_⟩,_⟩:=h;exact⟨ab,(Array.getElem?_eq_some_iff.1 ae).1⟩
theorem br.nil{B:Nat}{I:a8}{w:World}:br B I w []:=⟨bj,.nil⟩
theorem br.tail{B:Nat}{I:a8}{w:World}{e:aj}{H:List aj}(h:br B I w (e::H)):br B I w H:=
 ⟨λx ag=>h.ok x (.tail _ ag),(List.pairwise_cons.1 h.apart).2⟩
theorem br.sub{B:Nat}{I:a8}{w:World}{H H':List aj}(h:br B I w H)(aH:H'.Sublist H):br B I w H':=
 ⟨λx ag=>h.ok x (aH.subset ag),h.apart.sublist aH⟩
theorem aj.bQ{B:Nat}{I aQ:a8}{w w':World}{e:aj}(h:e.ok B I w)(ao:fb I w aQ w')(aw:∀b,e.eX=some b->w'.heap[b]? =w.heap[b]?)
  (av:∀b,e.eX=some b->∀o,aQ b o->I b o):e.ok B aQ w':=by
 cases e with
 | aI b t cs=>
  obtain⟨ab,vs,ae,aD,aV⟩:=h;exact⟨ab,vs,(aw b rfl).trans ae,aD.bQ ao,λo aA=>aV o (av b rfl o aA)⟩
 | own t k v=>
  obtain⟨n,xs,ab,ae⟩:=h;refine⟨n,xs,?_,λg al o aA b4=>ae g al o aA (av g al o b4)⟩;refine⟨ab.1,?_⟩;rcases ab.2 with hn | ⟨g,cap,cur,rfl,ru,F5,rest⟩
  ·exact .inl hn
  ·exact .inr ⟨g,cap,cur,rfl,ru,(aw g rfl).trans F5,rest⟩
 | row t k v n cs=>
  obtain⟨xs,ab,aK,ae⟩:=h;refine⟨xs,?_,aK.bQ ao,λg al o b4=>ae g al o (av g al o b4)⟩;refine⟨ab.1,?_⟩;rcases ab.2 with hn | ⟨g,cap,cur,rfl,ru,F5,rest⟩
  ·exact .inl hn
  ·exact .inr ⟨g,cap,cur,rfl,ru,(aw g rfl).trans F5,rest⟩
 | obj b o=>exact⟨h.1,(aw b rfl).trans h.2.1,λo' aA=>h.2.2 o' (av b rfl o' aA)⟩
 | map b es=>
  obtain⟨ab,⟨cv,dS,ae,aD,aV⟩,bl⟩:=h;exact⟨ab,⟨cv,dS,(aw b rfl).trans ae,aD,aV.bQ ao⟩,λo aA=>bl o (av b rfl o aA)⟩
 | lmap b js κ d=>
  obtain⟨ab,⟨cv,dS,ae,aD,aV⟩,bl⟩:=h;exact⟨ab,⟨cv,dS,(aw b rfl).trans ae,λe he=>⟨(aD e he).1,(aD e he).2.bQ ao⟩,aV⟩,λo aA=>bl o (av b rfl o aA)⟩
 | gX b js κ=>
  obtain⟨ab,⟨cv,dS,ae,aD⟩,bl⟩:=h;exact⟨ab,⟨cv,dS,(aw b rfl).trans ae,λe he=>⟨(aD e he).1,(aD e he).2.bQ ao⟩⟩,λo aA=>bl o (av b rfl o aA)⟩
 | loop b dw ρ=>exact⟨h.1,(aw b rfl).trans h.2.1,λt x ht=>(h.2.2.1 t x ht).bQ ao,λo' aA=>h.2.2.2 o' (av b rfl o' aA)⟩
theorem br.bQ{B:Nat}{I aQ:a8}{w w':World}{H:List aj}(h:br B I w H)(ao:fb I w aQ w')(aw:∀e∈H,∀b,e.eX=some b->w'.heap[b]? =w.heap[b]?)
  (av:∀e∈H,∀b,e.eX=some b->∀o,aQ b o->I b o):br B aQ w' H:=
 ⟨λe he=>aj.bQ (h.ok e he) ao (aw e he) (av e he),h.apart⟩
theorem br.drew{B:Nat}{I:a8}{w:World}{H:List aj}(h:br B I w H):br B I w.drew H:=
 h.bQ ⟨λ_ _ x=>x,λ_ _ _=>rfl⟩ (λ_ _ _ _=>rfl) (λ_ _ _ _ _ x=>x)
theorem mq{B:Nat}{I:a8}{w:World}(h:ck B I w)(o:Obj):fb I w I (w.alloc o):=
 ⟨λ_ _ x=>x,λb i x=>World.cell?_alloc_lt w o ⟨b,i,none⟩ (h.lt x)⟩
theorem kN{B:Nat}{I:a8}{w:World}(h:ck B I w)(o:Obj):Ext B I w I (w.alloc o):=
 ⟨λ_ _ x=>x,λb i x=>World.cell?_alloc_lt w o ⟨b,i,none⟩ (h.lt x),(Below.refl _ _).alloc h.base o⟩
theorem ck.alloc{B:Nat}{I:a8}{w:World}(h:ck B I w)(o:Obj):ck B I (w.alloc o):=
 ⟨by have:=h.base;simp;omega,λb i x=>by rw[(mq h o).cell b i x];exact h.there b i x⟩
theorem br.alloc{B:Nat}{I:a8}{w:World}{H:List aj}(h:br B I w H)(hw:ck B I w)(o:Obj):br B I (w.alloc o) H:=
 h.bQ (mq hw o) (λe he b aw=>Below.heap_alloc w o b (aj.nu (h.ok e he) aw).2) (λ_ _ _ _ _ x=>x)
theorem br.new{B:Nat}{I:a8}{w:World}{H:List aj}(h:br B I w H)(hw:ck B I w)(t:TypeId)(cs:List aa)(vs:Array Value)(aC:bZ I w cs vs.toList):
  br B I (w.alloc (.cells vs t)) (.aI w.heap.size t cs::H):=by
 have cf:=h.alloc hw (.cells vs t);refine⟨λe he=>?_,List.pairwise_cons.2 ⟨λf aP b aw=>?_,cf.apart⟩⟩
 ·rcases List.mem_cons.1 he with rfl | he
  ·refine⟨hw.base,vs,heap_alloc_new w _,aC.bQ (mq hw _),λo aA=>?_⟩;exact absurd (hw.lt aA) (Nat.lt_irrefl _)
  ·exact cf.ok e he
 ·simp[aj.eX] at aw;subst aw;intro e;exact absurd (aj.nu (h.ok f aP) e).2 (Nat.lt_irrefl _)
def a8.add(I:a8)(b:Nat)(n:Nat):a8:=λdk o=>I dk o\/(dk=b/\o<n)
theorem a8.vj{B:Nat}{I:a8}{w:World}(hw:ck B I w)(t:TypeId)(vs:Array Value):
  ck B (I.add w.heap.size vs.size) (w.alloc (.cells vs t))/\Ext B I w (I.add w.heap.size vs.size) (w.alloc (.cells vs t))/\
  (∀H,br B I w H->br B (I.add w.heap.size vs.size) (w.alloc (.cells vs t)) H)/\
  (∀xs:List aa,bZ I w xs vs.toList->Cells (I.add w.heap.size vs.size) (w.alloc (.cells vs t)) w.heap.size 0 xs):=by
 have e:=kN hw (.cells vs t);have k:fb I w (I.add w.heap.size vs.size) (w.alloc (.cells vs t)):=⟨λ_ _ x=>.inl x,e.cell⟩;refine⟨⟨(hw.alloc _).base,λb o h=>?_⟩,⟨k.j0,k.cell,e.below⟩,λH h=>?_,λxs h=>?_⟩
 ·rcases h with h | ⟨rfl,h⟩
  ·exact (hw.alloc _).there b o h
  ·exact⟨vs[o],by rw[World.cell?_alloc_new];exact Array.getElem?_eq_getElem h⟩
 ·refine h.bQ k (λe he b aw=>Below.heap_alloc w _ b (aj.nu (h.ok e he) aw).2) (λf aP b aw o aA=>?_);rcases aA with aA | ⟨rfl,_⟩
  ·exact aA
  ·exact absurd (aj.nu (h.ok f aP) aw).2 (Nat.lt_irrefl _)
 ·have key:∀(ys:List aa) (us:List Value) (o:Nat),bZ I w ys us->us=vs.toList.drop o->Cells (I.add w.heap.size vs.size) (w.alloc (.cells vs t)) w.heap.size o ys:=by
   intro ys
   induction ys with
   | nil=>intro us o _ _;exact .nil _ _
   | cons y ys bm=>
    intro us o aK hu;cases aK with
    | cons _ v _ zr ag ht=>
     have ai:vs.toList[o]? =some v:=by
      have:=congrArg (λl=>l[0]?) hu;simpa using this.symm
     have cO:o<vs.size:=by
      have:=(List.getElem?_eq_some_iff.1 ai).1;simpa using this
     refine .cons _ _ _ v _ ?_ (.inr ⟨rfl,cO⟩) (ag.bQ k) (bm zr (o+1) ht ?_)
     ·rw[World.cell?_alloc_new];simpa using ai
     ·have:=congrArg List.tail hu;simpa [List.tail_drop] using this
  exact key xs vs.toList 0 h bj
def bb(r:Option Nat):Fence:={fn:=λ_=>True,depth:=none,alive:=false,round:=r}
theorem F6{r:Option Nat}{n:Nat}{P:Program}{f:FuncId}{args:Array Value}{w:World}{R:Ending->World->Prop}(h:Calls P f args w R):CallsIn (bb r) n P f args w R:=
 (callsIn_wide (n:=n)).2 h
theorem vk{n:Nat}{P:Program}{f:FuncId}{args:Array Value}{w:World}{R:Ending->World->Prop}(h:CallsIn (bb none) n P f args w R):Calls P f args w R:=
 (callsIn_wide (n:=n)).1 h
def aX:List (Nat×aa)->Nat->Option aa
 | [],_=>none
 | (s,x)::r,t=>bif Nat.beq t s then some x else aX r t
theorem l0(s:Nat)(x:aa)(r:List (Nat×aa))(t:Nat):aX ((s,x)::r) t=if t=s then some x else aX r t:=by
 simp only[aX];by_cases h:t=s
 ·subst h;simp
 ·have aw:Nat.beq t s=false:=by
   rw[Bool.eq_false_iff];intro e;exact h (Nat.eq_of_beq_eq_true e)
  simp[h,aw]
def jN(dst:Option Nat)(x:aa)(env:List (Nat×aa)):List (Nat×aa):=
 match dst with
 | some d=>(d,x)::env
 | none=>env
def jt(n:Nat):Option Nat->Bool
 | some d=>Nat.blt d n
 | none=>true
def FP:Value->aa
 | .agg vs=>.agg (vs.toList.map .val)
 | v=>.val v
theorem l1{I:a8}{w:World}:∀l:List Value,bZ I w (l.map .val) l
 | []=>.nil
 | v::r=>.cons _ _ _ _ (.val v) (l1 r)
theorem F7{I:a8}{w:World}(v:Value):Rel I w (FP v) v:=by
 cases v <;> first | exact .val _ | exact .agg _ _ (l1 _)
def kO(ρ:Nat->Option aa):Operand->Option aa
 | .tmp t=>ρ t
 | .const v=>some (FP v)
 | .global g=>some (.val (.pointer (some ⟨g,0,none⟩)))
 | .func f=>some (.fn (.func f) [] [])
def strip:aa->Bool×aa
 | .opt g x=>(g,x)
 | x=>(true,x)
def bf(ρ:Nat->Option aa)(x:Operand):Option (Bool×aa):=(kO ρ x).map strip
def j2(ρ:Nat->Option aa):List Operand->Option (List (Bool×aa))
 | []=>some []
 | x::r=>match bf ρ x,j2 ρ r with
  | some y,some l=>some (y::l)
  | _,_=>none
def fs(I:a8)(w:World)(ρ:Nat->Option aa)(a:Act):Prop:=∀t x,ρ t=some x->Rel I w x (a.tmps.getD t undef)
def gi(I:a8)(w:World)(ρ:Nat->Option aa)(a:Act)(o:Oper):Prop:=∀x∈o.op.operands,∀y,kO ρ x=some y->Rel I w y (a.eval x)
theorem fs.eval{I:a8}{w:World}{ρ:Nat->Option aa}{a:Act}(h:fs I w ρ a){x:Operand}{y:aa}(ag:kO ρ x=some y):Rel I w y (a.eval x):=by
 cases x with
 | tmp t=>exact h t y ag
 | const v=>simp[kO] at ag;subst ag;exact F7 v
 | global g=>simp[kO] at ag;subst ag;exact .val _
 | func f=>simp[kO] at ag;subst ag;exact .fn _ _ _ _ _ .nil .nil
theorem fs.ops{I:a8}{w:World}{ρ:Nat->Option aa}{a:Act}(h:fs I w ρ a)(o:Oper):gi I w ρ a o:=λ_ _ _ ag=>h.eval ag
theorem fs.bQ{I aQ:a8}{w w':World}{ρ:Nat->Option aa}{a:Act}(h:fs I w ρ a)(k:fb I w aQ w'):fs aQ w' ρ a:=λt x ag=>(h t x ag).bQ k
theorem Mu{I:a8}{w:World}{x y:aa}{g:Bool}{v:Value}(h:Rel I w x v)(aH:strip x=(g,y))(al:g=true):Rel I w y v:=by
 cases x with
 | opt jb z=>simp[strip] at aH;obtain⟨rfl,rfl⟩:=aH;cases h with | opt _ _ _ h _=>exact h al
 | _=>simp[strip] at aH;obtain⟨_,rfl⟩:=aH;exact h
theorem gi.get{I:a8}{w:World}{ρ:Nat->Option aa}{a:Act}{o:Oper}(h:gi I w ρ a o){x:Operand}(hm:x∈o.op.operands){y:aa}{g:Bool}(ag:bf ρ x=some (g,y))(al:g=true):Rel I w y (a.eval x):=by
 unfold bf at ag;cases he:kO ρ x with
 | none=>simp[he] at ag
 | some z=>simp[he] at ag;exact Mu (h x hm z he) ag al
theorem tM{I:a8}{w:World}{ρ:Nat->Option aa}{a:Act}{o:Oper}(h:gi I w ρ a o):∀(l:List Operand) (ys:List (Bool×aa)),(∀x∈l,x∈o.op.operands)->j2 ρ l=some ys->
  (∀y∈ys,y.1=true)->bZ I w (ys.map (·.2)) (l.map a.eval)
 | [],ys,_,ag,_=>by simp[j2] at ag;subst ag;exact .nil
 | x::r,ys,hm,ag,al=>by
  simp only[j2] at ag;split at ag
  ·rename_i y l ab ae;simp at ag;subst ag;exact .cons _ _ _ _ (h.get (hm x bj) (y:=y.2) (g:=y.1) ab (al y bj)) (tM h r l (λz an=>hm z (by simp[an])) ae (λz an=>al z (by simp[an])))
  ·cases ag
def cM(P:Program)(r:Option Nat)(o:Oper)(a:Act)(w:World)(R:Value->World->Prop)(E:List PanicEntry->World->Prop):Prop:=
 ∀(K:Act->World->Prop) (Q:Exit->Act->World->Prop),(∀v w',R v w'->K (a.put o.dst v) w')->(∀ch w',E ch w'->Q (.panic ch) a w')->o.wpIn (bb r) 0 P a w K Q
section
variable{P:Program}{r:Option Nat}{o:Oper}{a:Act}{w w':World}{R:Value->World->Prop}{E:List PanicEntry->World->Prop}
theorem cM.mono{zs:Value->World->Prop}{k9:List PanicEntry->World->Prop}(h:cM P r o a w R E)(hR:∀v w',R v w'->zs v w')(e5:∀c w',E c w'->k9 c w'):cM P r o a w zs k9:=
 λK Q ab ae=>h K Q (λv w' x=>ab v w' (hR v w' x)) (λv w' x=>ae v w' (e5 v w' x))
theorem cM.fN{v:Value}(aN:∀c,o.op≠ .defer c)(h:(execOp a.eval o).run P w= .ok (.value v) w')(hR:R v w'):cM P r o a w R E:=by
 intro K Q ca _;refine⟨λ_ _=>trivial,?_⟩;rw[Oper.semAt_eq _ _ _ aN,h];exact ca v w' hR
theorem cM.vl(aN:∀c,o.op≠ .defer c)(h:(execOp a.eval o).run P w= .ok .skip w')(hR:R undef w'):cM P r o a w R E:=by
 intro K Q ca _;refine⟨λ_ _=>trivial,?_⟩;rw[Oper.semAt_eq _ _ _ aN,h];exact ca undef w' hR
theorem cM.VE{v:Value}(aN:∀c,o.op≠ .defer c)(h:(execOp a.eval o).run P w= .halt (.panic v) w')(e5:E [{v,recovered:=false}] w'):cM P r o a w R E:=by
 intro K Q _ vm;refine⟨λ_ _=>trivial,?_⟩;rw[Oper.semAt_eq _ _ _ aN,h];exact vm _ w' e5
theorem cM.qs{f:FuncId}{args:Array Value}(aN:∀c,o.op≠ .defer c)(h:(execOp a.eval o).run P w= .ok (.enter f args) w')
  (sr:Calls P f args w' λe j1=>match e with | .returned v=>R v j1 | .panicked c=>E c j1 | .outgrown=>False):cM P r o a w R E:=by
 intro K Q ca vm;refine⟨λ_ _=>trivial,?_⟩;rw[Oper.semAt_eq _ _ _ aN,h,Oper.uponIn_enter];refine⟨λh=>by simp[bb] at h,F6 (sr.mono λe j1 h=>?_)⟩;cases e with
 | returned v=>exact ca v j1 h
 | panicked c=>exact vm c j1 h
 | outgrown=>exact h.elim
theorem cM.Mv{l:Nat}{f:FuncId}{tmps:Array Value}{assign body:Code}(aN:∀c,o.op≠ .defer c)(h:(execOp a.eval o).run P w= .ok (.round l f tmps assign body) w')
  (sr:RoundIn (bb r) 0 P l f tmps assign body w' λe j1=>match e with | .returned v=>R v j1 | .panicked c=>E c j1 | .outgrown=>False):cM P r o a w R E:=by
 intro K Q ca vm;refine⟨λ_ _=>trivial,?_⟩;rw[Oper.semAt_eq _ _ _ aN,h,Oper.uponIn_round];refine⟨λh=>by simp[bb] at h,sr.mono λe j1 h=>?_⟩;cases e with
 | returned v=>exact ca v j1 h
 | panicked c=>exact vm c j1 h
 | outgrown=>exact h.elim
end
def af(P:Program)(H:List aj)(ρ:Nat->Option aa)(o:Oper)(x:aa):Prop:=
 ∀(B:Nat) (I:a8) (w:World) (r:Option Nat) (a:Act) (eo:List aj),ck B I w->br B I w eo->(∀e∈H,e∈eo)->gi I w ρ a o->
  cM P r o a w (λv w'=>∃aQ,ck B aQ w'/\Ext B I w aQ w'/\br B aQ w' eo/\Rel aQ w' x v) (λ_ _=>False)
structure Ctx where
 B:Nat
 cl:a8
 aO:World
 n:Nat
 ds:List Deferred
structure dn where
 env:List (Nat×aa)
 H:List aj
structure Sat(c:Ctx)(st:dn)(a:Act)(w:World):Prop where
 ds:a.defers=c.ds
 size:a.tmps.size=c.n
 mem:∃I,ck c.B I w/\Ext c.B c.cl c.aO I w/\br c.B I w st.H/\fs I w (aX st.env) a
def au(c:Ctx)(r:Option Nat)(P:Program)(ops:Array Oper)(l:List Oper)(st:dn)(Q:Exit->Act->World->Prop):Prop:=
 ∀a w,Sat c st a w->wpListIn (bb r) 0 P ops Q l a w
def aq(c:Ctx)(r:Option Nat)(P:Program)(code:Code)(st:dn)(Q:Exit->Act->World->Prop):Prop:=
 ∀a w,Sat c st a w->code.wpIn (bb r) 0 P Q a w
def aR(c:Ctx)(st:dn)(e:Exit)(Q:Exit->Act->World->Prop):Prop:=∀a w,Sat c st a w->Q e a w
theorem tN{a:Act}{d:Nat}{v:Value}(h:d<a.tmps.size):(a.put (some d) v).tmps.getD d undef=v:=by
 simp[Act.put,Array.getD,h]
theorem oR{a:Act}{d t:Nat}{v:Value}(h:t≠d):(a.put (some d) v).tmps.getD t undef=a.tmps.getD t undef:=by
 simp only[Act.put,Array.getD_eq_getD_getElem?];rw[Array.getElem?_setIfInBounds_ne (Ne.symm h)]
theorem FT{a:Act}{d:Option Nat}{v:Value}:(a.put d v).tmps.size=a.tmps.size:=by
 cases d <;> simp[Act.put]
theorem put_defers{a:Act}{d:Option Nat}{v:Value}:(a.put d v).defers=a.defers:=by
 cases d <;> rfl
theorem fs.put{I:a8}{w:World}{env:List (Nat×aa)}{a:Act}{dst:Option Nat}{x:aa}{v:Value}(h:fs I w (aX env) a)(aN:jt a.tmps.size dst=true)(ag:Rel I w x v):
  fs I w (aX (jN dst x env)) (a.put dst v):=by
 cases dst with
 | none=>exact h
 | some d=>
  intro t y hy;simp only[jN,l0] at hy;split at hy
  ·rename_i e;subst e;simp at hy;subst hy;rw[tN (Nat.lt_of_succ_le (by simpa [jt,Nat.blt] using aN))];exact ag
  ·rename_i e;rw[oR e];exact h t y hy
section
variable{c:Ctx}{r:Option Nat}{P:Program}{ops:Array Oper}{l rest:List Oper}{o:Oper}{st:dn}{Q:Exit->Act->World->Prop}{x:aa}
theorem au.nil(h:aR c st .normal Q):au c r P ops [] st Q:=λa w s=>h a w s
theorem au.pop(al:o.guard=none)(aN:jt c.n o.dst=true)(h:af P st.H (aX st.env) o x)(next:au c r P ops rest ⟨jN o.dst x st.env,st.H⟩ Q):au c r P ops (o::rest) st Q:=by
 intro a w s;refine wpListIn_plain al λK ca=>?_;obtain⟨I,hw,he,az,aC⟩:=s.mem;refine h c.B I w r a st.H hw az (λ_ x=>x) (aC.ops o) K Q ?_ (λ_ _ h=>h.elim);rintro v w' ⟨aQ,dc,cc,cW,ag⟩;refine ca _ _ (next _ _ ⟨jr,jq,aQ,dc,he.trans cc,cW,?_⟩);exact (aC.bQ cc.keeps).put rp ag
def pR:Option aa->Bool->Option Bool
 | some (.val (.bool b)),true=>some b
 | some (.val (.bool b)),false=>some (!b)
 | some (.opt g (.val (.bool b))),true=>some (g && b)
 | some (.opt g (.val (.bool b))),false=>some (g && !b)
 | _,_=>none
theorem F8{I:a8}{w:World}{a:Act}{y:Option aa}{j d:Nat}{want G:Bool}(aU:(ops[j]?).bind (·.dst)=some d)(aA:o.guard=some (j,want))
  (hy:∀z,y=some z->Rel I w z (a.tmps.getD d undef)) (c8:pR y want=some G) (aN:d<a.tmps.size):Region.wanted o (yielded ops a.tmps)=G:=by
 have ax:a.tmps[d]? =some (a.tmps.getD d undef):=by
  simp[Array.getD,aN]
 have hw:Region.wanted o (yielded ops a.tmps)=(yielded ops a.tmps j==some want):=by simp[Region.wanted,aA]
 rw[hw];unfold yielded;rw[aU];simp only[Option.bind_some,ax]
 match y,hy,c8 with
 | some (.val (.bool b)),hy,c8=>
  have ai:=hy _ rfl;generalize a.tmps.getD d undef=u at ai;cases ai;cases want <;> cases b <;> simp[pR] at c8 <;> subst c8 <;> rfl
 | some (.opt g (.val (.bool b))),hy,c8=>
  have ai:=hy _ rfl;generalize a.tmps.getD d undef=u at ai;cases ai with
  | opt _ _ _ ab ae=>
   cases g with
   | false=>rw[ae rfl];cases want <;> simp[pR] at c8 <;> subst c8 <;> rfl
   | true=>
    have aD:=ab rfl;cases aD;cases want <;> cases b <;> simp[pR] at c8 <;> subst c8 <;> rfl
theorem au.guarded{j d:Nat}{want G:Bool}(al:o.guard=some (j,want))(aU:(ops[j]?).bind (·.dst)=some d)(su:Nat.blt d c.n=true)(c8:pR (aX st.env d) want=some G)
  (aN:jt c.n o.dst=true) (h:G=true->af P st.H (aX st.env) o x) (next:au c r P ops rest ⟨jN o.dst (.opt G x) st.env,st.H⟩ Q):au c r P ops (o::rest) st Q:=by
 intro a w s;obtain⟨I,hw,he,az,aC⟩:=s.mem;have nv:=F8 (I:=I) (w:=w) (a:=a) aU al (λz an=>aC d z an) c8 (by rw[s.size];exact Nat.lt_of_succ_le (by simpa [Nat.blt] using su));unfold wpListIn;rw[nv];cases G with
 | true=>
  rw[if_pos rfl];refine h rfl c.B I w r a st.H hw az (λ_ x=>x) (aC.ops o) _ Q ?_ (λ_ _ h=>h.elim);rintro v w' ⟨aQ,dc,cc,cW,ag⟩;refine next _ _ ⟨jr,jq,aQ,dc,he.trans cc,cW,?_⟩;exact (aC.bQ cc.keeps).put rp (.opt _ _ _ (λ_=>ag) (λe=>by cases e))
 | false=>
  rw[if_neg bj];refine⟨λ_ _=>trivial,next _ _ ⟨jr,jq,I,hw,he,az,?_⟩⟩;exact aC.put rp (.opt _ _ _ (λe=>by cases e) (λ_=>rfl))
theorem aq.seq{p q:Code}(h:aq c r P p st (Exit.then (q.wpIn (bb r) 0 P Q) Q)):aq c r P (.seq p q) st Q:=λa w s=>wpIn_seq (h a w s)
theorem aq.skip(h:aR c st .normal Q):aq c r P .skip st Q:=λa w s=>wpIn_skip (h a w s)
theorem aq.ret(h:aR c st .ret Q):aq c r P .ret st Q:=λa w s=>wpIn_ret (h a w s)
theorem aq.exit{id:Nat}(h:aR c st (.exit id) Q):aq c r P (.exit id) st Q:=λa w s=>wpIn_exit (h a w s)
theorem aq.block{id:Nat}{p:Code}(h:aq c r P p st (Exit.inBlock id Q)):aq c r P (.block id p) st Q:=λa w s=>wpIn_block (h a w s)
theorem aq.region{id:Nat}{l:List Oper}(h:au c r P l.toArray l st Q):aq c r P (.region id l.toArray false) st Q:=λa w s=>wpIn_region_lit (h a w s)
theorem aq.cond{t:Nat}{b:Bool}{p q:Code}(ht:aX st.env t=some (.val (.bool b)))(ab:b=true->aq c r P p st Q)(ae:b=false->aq c r P q st Q):aq c r P (.cond (.tmp t) p q) st Q:=by
 intro a w s;obtain⟨I,hw,he,az,aC⟩:=s.mem;have ai:=aC t _ ht;have aw:a.eval (.tmp t)= .bool b:=by
  show a.tmps.getD t undef= .bool b;generalize a.tmps.getD t undef=u at ai;cases ai;rfl
 cases b with
 | true=>exact wpIn_cond_true aw (ab rfl a w s)
 | false=>exact wpIn_cond_false aw (ae rfl a w s)
theorem aR.seq{q:Code}(h:aq c r P q st Q):aR c st .normal (Exit.then (q.wpIn (bb r) 0 P Q) Q):=h
theorem aR.VF{id:Nat}{K:Act->World->Prop}(h:aR c st (.exit id) Q):aR c st (.exit id) (Exit.then K Q):=h
theorem aR.VG{K:Act->World->Prop}(h:aR c st .ret Q):aR c st .ret (Exit.then K Q):=h
theorem aR.VH{id:Nat}(h:aR c st .normal Q):aR c st .normal (Exit.inBlock id Q):=h
theorem aR.VI{id:Nat}(h:aR c st .ret Q):aR c st .ret (Exit.inBlock id Q):=h
theorem aR.VJ{id:Nat}(h:aR c st .normal Q):aR c st (.exit id) (Exit.inBlock id Q):=λa w s=>by
 simp only[Exit.inBlock,if_true];exact h a w s
theorem aR.VK{id sv:Nat}(bq:Nat.beq id sv=false)(h:aR c st (.exit id) Q):aR c st (.exit id) (Exit.inBlock sv Q):=λa w s=>by
 have:id≠sv:=λe=>by subst e;simp at bq
 simp only[Exit.inBlock,if_neg this];exact h a w s
theorem Sat.weaken{st':dn}{a:Act}{w:World}(s:Sat c st a w)(he:∀t y,aX st'.env t=some y->aX st.env t=some y)(b0:st'.H.Sublist st.H):Sat c st' a w:=
 ⟨s.ds,s.size,let ⟨I,hw,ag,az,aC⟩:=s.mem;⟨I,hw,ag,az.sub b0,λt y h=>aC t y (he t y h)⟩⟩
def mV:List (Nat×aa)->List (Nat×aa)->Prop
 | [],_=>True
 | (t,y)::r,env=>aX env t=some y/\mV r env
theorem j3{e:List (Nat×aa)}:∀{e':List (Nat×aa)},mV e' e->∀t y,aX e' t=some y->aX e t=some y
 | [],_,t,y,h=>by simp[aX] at h
 | (s,z)::r,h,t,y,hy=>by
  rw[l0] at hy;split at hy
  ·rename_i a6;subst a6;simp at hy;subst hy;exact h.1
  ·exact j3 h.2 t y hy
theorem aq.weaken{p:Code}{st':dn}(he:mV st'.env st.env)(b0:st'.H.Sublist st.H)(h:aq c r P p st' Q):aq c r P p st Q:=
 λa w s=>h a w (s.weaken (j3 he) b0)
theorem au.weaken{st':dn}(he:mV st'.env st.env)(b0:st'.H.Sublist st.H)(h:au c r P ops l st' Q):au c r P ops l st Q:=
 λa w s=>h a w (s.weaken (j3 he) b0)
theorem aq.loop{ι:Type}(inv:ι->dn)(sw:ι->Nat)(i0:ι){p:Code}(he:mV (inv i0).env st.env)(b0:(inv i0).H.Sublist st.H)
  (round:∀i,aq c r P p (inv i) (Exit.then (λa w=>∃j,sw j<sw i/\Sat c (inv j) a w) Q)):aq c r P (.loop p) st Q:=by
 intro a w s b k cs mr aw aK;have key:∀m i a w,sw i=m->Sat c (inv i) a w->
   ∃e fY w',Q e fY w'/\ArrivesIn (Machine.fenced P (bb r)) P (lone (b.atR a (.code p::.inLoop p::k)) cs w) b k cs e fY w':=by
  intro m
  induction m using Nat.strongRecOn with
  | _ m bm=>
   intro i a w hn b4;obtain⟨e,gY,gG,bd,eR⟩:=round i a w b4 b (.inLoop p::k) cs mr aw aK;cases e with
   | normal=>
    obtain⟨j,cO,F9⟩:=bd;obtain⟨vn,qt,od,pS,qu⟩:=bm (sw j) (hn▸cO) j gY gG rfl F9;exact⟨vn,qt,od,pS,.of_steps (StepsIn.trans eR (.one (fenced_calm aw aK rfl) stepR_inLoop)) qu⟩
   | exit id=>exact⟨_,gY,gG,bd,.pass (x:=.inLoop p) rfl (λ_ _=>.inl bj) eR⟩
   | goto l=>exact⟨_,gY,gG,bd,.pass (x:=.inLoop p) rfl (λ_ _=>.inl bj) eR⟩
   | ret=>exact⟨_,gY,gG,bd,.pass (x:=.inLoop p) rfl (λ_ _=>.inl bj) eR⟩
   | panic ch=>exact⟨_,gY,gG,bd,.pass (x:=.inLoop p) rfl (λ_ _=>.inl bj) eR⟩
   | outgrown=>exact⟨_,gY,gG,bd,.pass (x:=.inLoop p) rfl (λ_ _=>.inl bj) eR⟩
 obtain⟨e,fY,w',bd,eR⟩:=key _ i0 a w rfl (s.weaken (j3 he) b0);exact⟨e,fY,w',bd,.of_steps (.one (fenced_calm aw aK rfl) stepR_loop) eR⟩
theorem aR.again{ι:Type}{inv:ι->dn}{sw:ι->Nat}{i:ι}(j:ι)(VL:sw j<sw i)(he:mV (inv j).env st.env)(b0:(inv j).H.Sublist st.H):
  aR c st .normal (Exit.then (λa w=>∃j,sw j<sw i/\Sat c (inv j) a w) Q):=
 λa w s=>⟨j,VL,s.weaken (j3 he) b0⟩
end
section
variable{P:Program}{H:List aj}{ρ:Nat->Option aa}{o:Oper}
theorem af.same{y:aa}(aN:∀c,o.op≠ .defer c)(h:∀(I:a8) (w:World) (a:Act),gi I w ρ a o->∃v,(execOp a.eval o).run P w= .ok (.value v) w/\Rel I w y v):af P H ρ o y:=by
 intro B I w r a eo hw az _ aA;obtain⟨v,ab,ae⟩:=h I w a aA;exact cM.fN aN ab ⟨I,hw,Ext.refl _ _ _,az,ae⟩
theorem af.xO{y:aa}(aN:∀c,o.op≠ .defer c)(h:∀(B:Nat) (I:a8) (w:World) (a:Act),(∀e∈H,e.ok B I w)->gi I w ρ a o->∃v,(execOp a.eval o).run P w= .ok (.value v) w/\Rel I w y v):af P H ρ o y:=by
 intro B I w r a eo hw az aH aA;obtain⟨v,ab,ae⟩:=h B I w a (λe he=>az.ok e (aH e he)) aA;exact cM.fN aN ab ⟨I,hw,Ext.refl _ _ _,az,ae⟩
theorem af.eq{x y:aa}(h:af P H ρ o x)(e:x=y):af P H ρ o y:=e▸h
theorem af.move{x:Operand}{y:aa}{g:Bool}(h:o.op= .move x)(ag:bf ρ x=some (g,y))(al:g=true):af P H ρ o y:=
 .same cB λI w a aA=>⟨a.eval x,by simp[execOp,h],aA.get cx ag al⟩
theorem af.assign{x:Operand}{y:aa}{g:Bool}(h:o.op= .assign x)(ag:bf ρ x=some (g,y))(al:g=true):af P H ρ o y:=
 .same cB λI w a aA=>⟨a.eval x,by simp[execOp,h],aA.get cx ag al⟩
theorem ct{I:a8}{w:World}{u v:Value}(h:Rel I w (.val u) v):v=u:=by cases h;rfl
theorem af.pick{c x y:Operand}{b p q:Bool}{gc cC cR:Bool}(h:o.op= .pick c x y)(ak:bf ρ c=some (gc,.b b))(Ga:gc=true)(ag:bf ρ x=some (cC,.b p))(hy:bf ρ y=some (cR,.b q))
  (dG:b=true->cC=true) (dX:b=false->cR=true):af P H ρ o (.b (bif b then p else q)):=by
 refine .same cB λI w a aA=>?_;have ab:=ct (aA.get cx ak Ga);cases b with
 | true=>exact⟨a.eval x,by simp[execOp,h,ab,asBool],by rw[ct (aA.get cx ag (dG rfl))];exact .val _⟩
 | false=>exact⟨a.eval y,by simp[execOp,h,ab,asBool],by rw[ct (aA.get cx hy (dX rfl))];exact .val _⟩
def Mw:BinOp->Int->Int->Option Bool
 | .eql,a,b=>some (a==b)
 | .neq,a,b=>some (a !=b)
 | .lss,a,b=>some (decide (a<b))
 | .leq,a,b=>some (decide (a<=b))
 | .gtr,a,b=>some (decide (a>b))
 | .geq,a,b=>some (decide (a>=b))
 | _,_,_=>none
theorem af.cmp{op:BinOp}{t dR:TypeId}{x y:Operand}{k:IntKind}{a b:Int}{cC cR c:Bool}(h:o.op= .binOp op t x y dR)(ag:bf ρ x=some (cC,.val (.int k a)))(hy:bf ρ y=some (cR,.val (.int k b)))
  (dG:cC=true) (dX:cR=true) (ak:Mw op a b=some c):af P H ρ o (.b c):=by
 refine .same cB λI w f aA=>?_;have ab:=ct (aA.get cx ag dG);have ae:=ct (aA.get cx hy dX);refine⟨.bool c,?_,.val _⟩;cases op <;> simp[Mw] at ak <;> subst ak <;> simp[execOp,h,ab,ae,eqGuard,binOp,Op.intCmp]
def Mx:BinOp->Int->Int->Option Int
 | .add,a,b=>some (a+b)
 | .sub,a,b=>some (a - b)
 | .mul,a,b=>some (a*b)
 | _,_,_=>none
theorem af.arith{op:BinOp}{t dR:TypeId}{x y:Operand}{k:IntKind}{a b c d:Int}{cC cR:Bool}(h:o.op= .binOp op t x y dR)(ag:bf ρ x=some (cC,.val (.int k a)))(hy:bf ρ y=some (cR,.val (.int k b)))
  (dG:cC=true) (dX:cR=true) (ak:Mx op a b=some c) (hw:k.wrap c=d):af P H ρ o (.val (.int k d)):=by
 refine .same cB λI w f aA=>?_;have ab:=ct (aA.get cx ag dG);have ae:=ct (aA.get cx hy dX);refine⟨.int k d,?_,.val _⟩;subst hw;cases op <;> simp[Mx] at ak <;> subst ak <;> simp[execOp,h,ab,ae,eqGuard,binOp,Op.intArith]
theorem wrap64{n:Int}(h: -9223372036854775808<=n/\n<=9223372036854775807):IntKind.i64.wrap n=n:=IntWalk.i64_in n h
def pT(op:BinOp)(k:IntKind)(x y:Int):Option Int:=
 match op with
 | .and=>some (k.wrap (BitVec.ofInt k.bits x &&& BitVec.ofInt k.bits y).toNat)
 | .or=>some (k.wrap (BitVec.ofInt k.bits x ||| BitVec.ofInt k.bits y).toNat)
 | .xor=>some (k.wrap (BitVec.ofInt k.bits x^^^BitVec.ofInt k.bits y).toNat)
 | .andNot=>some (k.wrap (BitVec.ofInt k.bits x &&& ~~~BitVec.ofInt k.bits y).toNat)
 | _=>none
theorem af.bits{op:BinOp}{t dR:TypeId}{x y:Operand}{k:IntKind}{a b c:Int}{cC cR:Bool}(h:o.op= .binOp op t x y dR)(ag:bf ρ x=some (cC,.val (.int k a)))(hy:bf ρ y=some (cR,.val (.int k b)))
  (dG:cC=true) (dX:cR=true) (ak:pT op k a b=some c):af P H ρ o (.val (.int k c)):=by
 refine .same cB λI w f aA=>?_;have ab:=ct (aA.get cx ag dG);have ae:=ct (aA.get cx hy dX);refine⟨.int k c,?_,.val _⟩;cases op <;> simp[pT] at ak <;> subst ak <;> simp[execOp,h,ab,ae,eqGuard,binOp,Op.intBits]
def vo(op:BinOp)(k:IntKind)(x y:Int):Option Int:=
 match op with
 | .shl=>some (k.wrap (x*2^(min y.toNat k.bits)))
 | .shr=>some (x.fdiv (2^(min y.toNat k.bits)))
 | _=>none
theorem af.shift{op:BinOp}{t dR:TypeId}{x y:Operand}{k cJ:IntKind}{a b c:Int}{cC cR:Bool}(h:o.op= .binOp op t x y dR)(ag:bf ρ x=some (cC,.val (.int k a)))(hy:bf ρ y=some (cR,.val (.int cJ b)))
  (dG:cC=true) (dX:cR=true) (aw:0<=b) (ak:vo op k a b=some c):af P H ρ o (.val (.int k c)):=by
 refine .same cB λI w f aA=>?_;have ab:=ct (aA.get cx ag dG);have ae:=ct (aA.get cx hy dX);have hn: ¬b<0:=by omega
 refine⟨.int k c,?_,.val _⟩;cases op <;> simp[vo] at ak <;> subst ak <;> simp[execOp,h,ab,ae,eqGuard,binOp,Op.shift,hn]
theorem af.div{op:BinOp}{t dR:TypeId}{x y:Operand}{k:IntKind}{a b c:Int}{cC cR:Bool}(h:o.op= .binOp op t x y dR)(ag:bf ρ x=some (cC,.val (.int k a)))(hy:bf ρ y=some (cR,.val (.int k b)))
  (dG:cC=true) (dX:cR=true) (aw:b≠0) (ak:(op= .quo/\c=k.wrap (a.tdiv b))\/(op= .rem/\c=a.tmod b)):af P H ρ o (.val (.int k c)):=by
 refine .same cB λI w f aA=>?_;have ab:=ct (aA.get cx ag dG);have ae:=ct (aA.get cx hy dX);refine⟨.int k c,?_,.val _⟩;rcases ak with⟨rfl,rfl⟩ | ⟨rfl,rfl⟩ <;> simp[execOp,h,ab,ae,eqGuard,binOp,Op.intDiv,aw]
theorem af.tO{op:BinOp}{t dR:TypeId}{x y:Operand}{a b c:Bool}{cC cR:Bool}(h:o.op= .binOp op t x y dR)(ag:bf ρ x=some (cC,.b a))(hy:bf ρ y=some (cR,.b b))
  (dG:cC=true) (dX:cR=true) (ht:P.underlying t=some .bool) (ak:(op= .eql/\c=(a==b))\/(op= .neq/\c=(a !=b))):af P H ρ o (.b c):=by
 refine .same cB λI w f aA=>?_;have ab:=ct (aA.get cx ag dG);have ae:=ct (aA.get cx hy dX);refine⟨.bool c,?_,.val _⟩;rcases ak with⟨rfl,rfl⟩ | ⟨rfl,rfl⟩
 ·simp[execOp,h,ab,ae,eqGuard,run_eql_bool w t a b ht]
 ·simp[execOp,h,ab,ae,eqGuard,run_neq_bool w t a b ht];cases a <;> cases b <;> rfl
theorem af.not{t:TypeId}{x:Operand}{a g:Bool}(h:o.op= .unOp .not t x)(ag:bf ρ x=some (g,.b a))(al:g=true):af P H ρ o (.b (!a)):=by
 refine .same cB λI w f aA=>?_;have ab:=ct (aA.get cx ag al);exact⟨.bool (!a),by simp[execOp,h,ab,Op.unary],.val _⟩
theorem af.neg{t:TypeId}{x:Operand}{k:IntKind}{a d:Int}{g:Bool}(h:o.op= .unOp .neg t x)(ag:bf ρ x=some (g,.val (.int k a)))(al:g=true)(hw:k.wrap (0 - a)=d):af P H ρ o (.val (.int k d)):=by
 refine .same cB λI w f aA=>?_;have ab:=ct (aA.get cx ag al);subst hw;exact⟨.int k (k.wrap (0 - a)),by simp[execOp,h,ab,Op.unary,Op.intArith],.val _⟩
theorem af.extract{x:Operand}{i:Nat}{xs:List aa}{y:aa}{g:Bool}(h:o.op= .extract x i)(ag:bf ρ x=some (g,.bJ xs))(al:g=true)(av:xs[i]? =some y):af P H ρ o y:=by
 refine .same cB λI w f aA=>?_;have ab:=aA.get cx ag al;generalize aC:f.eval x=u at ab;cases ab with
 | bJ _ vs ax=>
  obtain⟨v,ae,aD⟩:=ax.get av;exact⟨v,by
   have aV:vs[i]? =some v:=by simpa using ae
   simp[execOp,h,aC,Instr.extract,aV],aD⟩
def qv(P:Program)(t:TypeId):Bool:=match P.underlying t with | some (.slice _)=>true | _=>false
theorem Gb{P:Program}{t:TypeId}(h:qv P t=true):P.underlying t=some (.slice (P.elem t)):=by
 unfold qv at h;unfold Program.elem;split at h
 ·rename_i e he;rw[he]
 ·cases h
theorem vp(t:TypeId)(a:Option Addr)(n c:Nat)(ht:qv P t=true)(w:World)(ty:TypeId):(Builtin.len_ #[t] ty #[.slice a n c]).run P w= .ok (.int .i64 n) w:=
 run_len_slice w t ty a n c (Gb ht)
theorem af.len{x:Operand}{t:TypeId}{k:Nat}{els:List (List aa)}{g:Bool}(h:o.op= .call {callee:=.builtin .len,args:=#[x],argTypes:=#[t]})(ag:bf ρ x=some (g,.aF k els))(al:g=true)(ht:qv P t=true):
  af P H ρ o (.i els.length):=by
 refine .same cB λI w f aA=>?_;have ab:=aA.get ig ag al;generalize aC:f.eval x=u at ab;refine⟨.int .i64 els.length,?_,.val _⟩;cases ab with
 | eP k a c=>simp[execOp,h,aC,resolve,invoke,builtin,vp t a 0 c ht w]
 | aF k els b off len cap ax ak hm he=>simp[execOp,h,aC,resolve,invoke,builtin,vp t _ len cap ht w,ax]
theorem af.VM{x:Operand}{t:TypeId}{k:Nat}{els:List (List aa)}{v:Value}{g:Bool}(h:o.op= .call {callee:=.builtin .len,args:=#[x],argTypes:=#[t]})(ag:bf ρ x=some (g,.as (.aF k els) v))(al:g=true)(ht:qv P t=true):
  af P H ρ o (.i els.length):=by
 refine .same cB λI w f aA=>?_;have ab:=aA.get ig ag al;generalize aC:f.eval x=u at ab;refine⟨.int .i64 els.length,?_,.val _⟩;cases ab with
 | as _ _ ab=>
 cases ab with
 | eP k a c=>simp[execOp,h,aC,resolve,invoke,builtin,vp t a 0 c ht w]
 | aF k els b off len cap ax ak hm he=>simp[execOp,h,aC,resolve,invoke,builtin,vp t _ len cap ht w,ax]
theorem af.VN{x:Operand}{t:TypeId}{a:Option Addr}{n c:Nat}{g:Bool}(h:o.op= .call {callee:=.builtin .len,args:=#[x],argTypes:=#[t]})(ag:bf ρ x=some (g,.val (.slice a n c)))(al:g=true)(ht:qv P t=true):
  af P H ρ o (.i n):=by
 refine .same cB λI w f aA=>?_;have ab:=ct (aA.get ig ag al);exact⟨.int .i64 n,by simp[execOp,h,ab,resolve,invoke,builtin,vp t a n c ht w],.val _⟩
def ry(P:Program)(t:TypeId):Option Nat:=match P.underlying t with | some (.slice e)=>(P.info? e).map (·.size) | _=>none
theorem pU{P:Program}{t:TypeId}{k:Nat}(h:ry P t=some k):∃e i,P.underlying t=some (.slice e)/\P.info? e=some i/\i.size=k:=by
 unfold ry at h;split at h
 ·rename_i e he;cases av:P.info? e with
  | none=>simp[av] at h
  | some i=>simp[av] at h;exact⟨e,i,he,av,h⟩
 ·cases h
theorem Gc{t:TypeId}{k:Nat}(ht:ry P t=some k)(b off len cap:Nat)(dV:IntKind)(i:Int)(ai:0<=i)(ab:i<len)(w:World):
  (Instr.indexAt t (.slice (some ⟨b,off,none⟩) len cap) (.int dV i)).run P w= .ok (.pointer (some ⟨b,off+i.toNat*k,none⟩)) w:=by
 obtain⟨e,inf,hu,av,ao⟩:=pU ht;have ae:0<=i/\i<(len:Int):=⟨ai,ab⟩;simp[Instr.indexAt,asIntOf,run_underlying hu,sizeOf,typeInfo,av,ao,ae,Addr.add_lit]
theorem af.index{t:TypeId}{x y:Operand}{k:Nat}{els:List (List aa)}{dV:IntKind}{i:Int}{cs:List aa}{cC cR:Bool}(h:o.op= .indexAddr t x y)(ag:bf ρ x=some (cC,.aF k els))(hy:bf ρ y=some (cR,.val (.int dV i)))
  (dG:cC=true) (dX:cR=true) (ht:ry P t=some k) (ai:0<=i) (he:els[i.toNat]? =some cs):af P H ρ o (.ptr cs):=by
 refine .same cB λI w f aA=>?_;have ab:=aA.get cx ag dG;have ae:=ct (aA.get cx hy dX);generalize aC:f.eval x=u at ab;cases ab with
 | eP k a c=>simp at he
 | aF k els b off len cap ax ak hm e5=>
  have cO:i<(len:Int):=by
   have:=(List.getElem?_eq_some_iff.1 he).1;omega
  exact⟨.pointer (some ⟨b,off+i.toNat*k,none⟩),by simp[execOp,h,aC,ae,Gc ht b off len cap dV i ai cO w],.ptr _ _ _ (e5.get he).2⟩
theorem My{α:Type}[Inhabited α]{l:List α}{i:Nat}(h:i<l.length):l[i]? =some (l.getD i default):=by
 simp[List.getD,h]
theorem af.VO{α:Type}[Inhabited α]{enc:α->List aa}{l:List α}{t:TypeId}{x y:Operand}{k:Nat}{dV:IntKind}{i:Nat}{cC cR:Bool}(h:o.op= .indexAddr t x y)(ag:bf ρ x=some (cC,.aF k (l.map enc)))(hy:bf ρ y=some (cR,.val (.int dV (i:Int))))
  (dG:cC=true) (dX:cR=true) (ht:ry P t=some k) (ai:i<l.length):af P H ρ o (.ptr (enc (l.getD i default))):=
 .index h ag hy dG dX ht ad (by rw[Int.toNat_natCast,List.getElem?_map,My ai];rfl)
theorem af.VP{α:Type}[Inhabited α]{enc:α->List aa}{l:List α}{t:TypeId}{x y:Operand}{k:Nat}{dV:IntKind}{i:Int}{cC cR:Bool}(h:o.op= .indexAddr t x y)(ag:bf ρ x=some (cC,.aF k (l.map enc)))(hy:bf ρ y=some (cR,.val (.int dV i)))
  (dG:cC=true) (dX:cR=true) (ht:ry P t=some k) (xP:0<=i) (ai:i<l.length):af P H ρ o (.ptr (enc (l.getD i.toNat default))):=
 .index h ag hy dG dX ht xP (by rw[List.getElem?_map,My (show i.toNat<l.length by omega)];rfl)
theorem af.slice{t:TypeId}{x:Operand}{j4 av:Option Operand}{k:Nat}{els:List (List aa)}{l n:Nat}{cC gl gh:Bool}{kl kh:IntKind}(h:o.op= .slice t x j4 av none)(ag:bf ρ x=some (cC,.aF k els))(dG:cC=true)
  (oS:match j4 with | none=>l=0 | some y=>bf ρ y=some (gl,.val (.int kl (l:Int)))) (ly:gl=true) (mW:match av with | none=>n=els.length | some y=>bf ρ y=some (gh,.val (.int kh (n:Int)))) (qw:gh=true)
  (ht:ry P t=some k) (ab:l<=n) (ae:n<=els.length):af P H ρ o (.aF k ((els.take n).drop l)):=by
 refine .same cB λI w f aA=>?_;have aK:=aA.get cx ag dG;have rz:∀y,j4=some y->f.eval y= .int kl (l:Int):=λy e=>by
  subst e;exact ct (aA.get cx oS ly)
 have sx:∀y,av=some y->f.eval y= .int kh (n:Int):=λy e=>by
  subst e;exact ct (aA.get cx mW qw)
 obtain⟨e,inf,hu,kP,ao⟩:=pU ht;generalize aC:f.eval x=u at aK;have key:∀(a:Option Addr) (len cap:Nat),u= .slice a len cap->els.length=len->len<=cap->(execOp f.eval o).run P w= .ok (.value (.slice (if cap=l then a else a.map (·.add (l*k))) (n - l) (cap - l))) w:=by
  intro a len cap VQ hle ak;rw[VQ] at aC;have hn:n<=cap:=by omega
  have Gd:l<=n:=by omega
  cases j4 with
  | none=>
   simp only at oS;subst oS;cases av with
   | none=>
    simp only at mW;subst mW;simp[execOp,h,aC,Instr.sliceAt,run_underlying hu,Instr.slice,Instr.sliceBounds,sizeOf,typeInfo,kP,ao,hle]
   | some y=>
    have:=sx y rfl;simp[execOp,h,aC,this,Instr.sliceAt,run_underlying hu,Instr.slice,Instr.sliceBounds,Instr.sliceBound,asIntOf,sizeOf,typeInfo,kP,ao,hn]
  | some z=>
   have an:=rz z rfl;cases av with
   | none=>
    simp only at mW;subst mW;have VR:l<=len:=by omega
    simp[execOp,h,aC,an,Instr.sliceAt,run_underlying hu,Instr.slice,Instr.sliceBounds,Instr.sliceBound,asIntOf,sizeOf,typeInfo,kP,ao,hle,VR]
   | some y=>
    have:=sx y rfl;simp[execOp,h,aC,an,this,Instr.sliceAt,run_underlying hu,Instr.slice,Instr.sliceBounds,Instr.sliceBound,asIntOf,sizeOf,typeInfo,kP,ao,hn,Gd]
 cases aK with
 | eP k a c=>
  refine⟨_,key a 0 c rfl rfl (Nat.zero_le _),?_⟩;have:n=0:=by simpa using ae
  subst this;have:l=0:=by omega
  subst this;simp;exact .eP _ _ _
 | aF k els b off len cap ax ak hm e5=>
  refine⟨_,key _ len cap rfl ax ak,?_⟩;have hlen:((els.take n).drop l).length=n - l:=by simp;omega
  by_cases an:n=l
  ·subst an;have gF:(els.take n).drop n= []:=by simp
   rw[gF];simp;exact .eP _ _ _
  ·have dp: ¬cap=l:=by omega
   simp only[if_neg dp,Option.map_some,Addr.add_lit];exact .aF k _ b _ _ _ hlen ad ad ((e5.take n).drop l)
def oT(P:Program)(t:TypeId):Option (Bool×Nat):=
 match P.underlying t,P.info? t with
 | some (.struct _),some i=>some (true,i.size)
 | some (.array _ _),some i=>some (true,i.size)
 | some _,some i=>some (false,i.size)
 | _,_=>none
theorem zt{t:TypeId}{agg:Bool}{n:Nat}(h:oT P t=some (agg,n))(w:World):(isAgg t).run P w= .ok agg w/\(sizeOf t).run P w= .ok n w:=by
 unfold oT at h;split at h
 ·rename_i hu av;simp at h;obtain⟨rfl,rfl⟩:=h;exact⟨by simp[isAgg,run_underlying hu],by simp[sizeOf,typeInfo,av]⟩
 ·rename_i hu av;simp at h;obtain⟨rfl,rfl⟩:=h;exact⟨by simp[isAgg,run_underlying hu],by simp[sizeOf,typeInfo,av]⟩
 ·rename_i d i ab ae hu av;simp at h;obtain⟨rfl,rfl⟩:=h;refine⟨?_,by simp[sizeOf,typeInfo,av]⟩;simp only[isAgg,Sem.run_bind,run_underlying hu,Result.andThen_ok];cases d <;> first | rfl | (exfalso;exact ab _ hu av) | (exfalso;exact ae _ _ hu av) | simp_all
 ·cases h
theorem CT{t:TypeId}{n:Nat}(h:oT P t=some (true,n))(b o:Nat)(vs:List Value)(w:World)(ax:vs.length=n)(ak:∀j v,vs[j]? =some v->w.cell? ⟨b,o+j,none⟩=some v):
  (loadVar t ⟨b,o,none⟩).run P w= .ok (.agg vs.toArray) w:=by
 obtain⟨ab,ae⟩:=zt h w;subst ax;have aD:=run_loadCells_list (P:=P) w ⟨b,o,none⟩ vs (λj v aU=>by rw[Addr.add_lit];exact ak j v aU);simp[loadVar,ab,ae,aD]
theorem zu{t:TypeId}{n:Nat}(h:oT P t=some (false,n))(b o:Nat)(v:Value)(w:World)(ak:w.cell? ⟨b,o,none⟩=some v):(loadVar t ⟨b,o,none⟩).run P w= .ok v w:=by
 obtain⟨ab,ae⟩:=zt h w;simp[loadVar,ab,ak]
theorem af.VS{t:TypeId}{x:Operand}{cs:List aa}{n:Nat}{g:Bool}(h:o.op= .load t x)(ag:bf ρ x=some (g,.ptr cs))(al:g=true)(ht:oT P t=some (true,n))(hn:Nat.ble n cs.length=true):af P H ρ o (.agg (cs.take n)):=by
 refine .same cB λI w f aA=>?_;have ab:=aA.get cx ag al;generalize aC:f.eval x=u at ab;cases ab with
 | ptr _ b off ak=>
  obtain⟨vs,ae,aD⟩:=(ak.take n).values;have ax:vs.length=n:=by rw[ae.length,List.length_take];exact Nat.min_eq_left (Nat.le_of_ble_eq_true hn)
  refine⟨.agg vs.toArray,?_,.agg _ _ xM⟩;simp[execOp,h,aC,Instr.loadAt,Instr.sureAddr,CT ht b off vs w ax aD]
theorem af.VT{t:TypeId}{x:Operand}{cs:List aa}{y:aa}{n:Nat}{g:Bool}(h:o.op= .load t x)(ag:bf ρ x=some (g,.ptr cs))(al:g=true)(ht:oT P t=some (false,n))(hn:cs[0]? =some y):af P H ρ o y:=by
 refine .same cB λI w f aA=>?_;have ab:=aA.get cx ag al;generalize aC:f.eval x=u at ab;cases ab with
 | ptr _ b off ak=>
  obtain⟨v,ae,_,aD⟩:=ak.get hn;exact⟨v,by simp[execOp,h,aC,Instr.loadAt,Instr.sureAddr,zu ht b off v w xM],aD⟩
theorem kQ{w:World}{b:Nat}{vs:Array Value}{t:TypeId}{fr:Nat×Nat}(h:w.heap[b]? =some (.cells vs t fr))(o:Nat):w.cell? ⟨b,o,none⟩=vs[o]? :=by
 simp[World.cell?,h]
theorem bZ.drop{I:a8}{w:World}:∀(n:Nat) {xs:List aa} {vs:List Value},bZ I w xs vs->bZ I w (xs.drop n) (vs.drop n)
 | 0,_,_,h=>h
 | n+1,_,_,.nil=>.nil
 | n+1,_,_,.cons _ _ _ _ _ t=>bZ.drop n t
theorem bZ.take{I:a8}{w:World}:∀(n:Nat) {xs:List aa} {vs:List Value},bZ I w xs vs->bZ I w (xs.take n) (vs.take n)
 | 0,_,_,_=>.nil
 | n+1,_,_,.nil=>.nil
 | n+1,_,_,.cons _ _ _ _ h t=>.cons _ _ _ _ h (bZ.take n t)
theorem bZ.append{I:a8}{w:World}:∀{xs ys:List aa} {vs us:List Value},bZ I w xs vs->bZ I w ys us->bZ I w (xs++ys) (vs++us)
 | _,_,_,_,.nil,h=>h
 | _,_,_,_,.cons _ _ _ _ h t,cf=>.cons _ _ _ _ h (bZ.append t cf)
theorem af.VU{t tb:TypeId}{x:Operand}{b off:Nat}{cs ys:List aa}{n:Nat}{g:Bool}(h:o.op= .load t x)(ag:bf ρ x=some (g,.p b off))(al:g=true)(hm:aj.aI b tb cs∈H)(ht:oT P t=some (true,n))
  (hy:(cs.drop off).take n=ys) (hn:Nat.beq ys.length n=true):af P H ρ o (.agg ys):=by
 refine .xO cB λB I w f b0 aA=>?_;have ab:=ct (aA.get cx ag al);obtain⟨_,vs,ae,aD,_⟩:=b0 _ hm;have aV:=(aD.drop off).take n;rw[hy] at aV;have ax:((vs.toList.drop off).take n).length=n:=by rw[aV.length];exact Nat.eq_of_beq_eq_true hn
 refine⟨.agg ((vs.toList.drop off).take n).toArray,?_,.agg _ _ (by simpa using aV)⟩;have:=CT ht b off _ w ax (λj v aU=>by
  rw[kQ ae];rw[List.getElem?_take] at aU;split at aU
  ·rw[List.getElem?_drop] at aU;simpa using aU
  ·cases aU)
 simp[execOp,h,ab,Instr.loadAt,Instr.sureAddr,this]
theorem af.VV{t tb:TypeId}{x:Operand}{b off:Nat}{cs:List aa}{y:aa}{n:Nat}{g:Bool}(h:o.op= .load t x)(ag:bf ρ x=some (g,.p b off))(al:g=true)(hm:aj.aI b tb cs∈H)(ht:oT P t=some (false,n))
  (hy:cs[off]? =some y):af P H ρ o y:=by
 refine .xO cB λB I w f b0 aA=>?_;have ab:=ct (aA.get cx ag al);obtain⟨_,vs,ae,aD,_⟩:=b0 _ hm;obtain⟨v,aV,bl⟩:=aD.get hy;exact⟨v,by simp[execOp,h,ab,Instr.loadAt,Instr.sureAddr,zu ht b off v w (by rw[kQ ae];simpa using aV)],bl⟩
def zw(P:Program)(t:TypeId)(f:Nat):Option Nat:=
 match P.underlying t with
 | some (.struct bM)=>match bM[f]? with
  | some fd=>match P.info? fd.type with
   | some i=>if i.size=0 then none else some fd.offset
   | none=>none
  | none=>none
 | _=>none
theorem Mz{t:TypeId}{f off:Nat}(h:zw P t f=some off)(b o:Nat)(w:World):(Instr.fieldAt t (.pointer (some ⟨b,o,none⟩)) f).run P w= .ok (.pointer (some ⟨b,o+off,none⟩)) w:=by
 unfold zw at h;split at h
 ·rename_i bM hu;split at h
  ·rename_i fd aP;split at h
   ·rename_i i av;split at h
    ·cases h
    ·rename_i an;simp at h;subst h;simp[Instr.fieldAt,run_underlying hu,aP,Instr.sureAddr,fieldPlace,sizeOf,typeInfo,av,an,Addr.add_lit]
   ·cases h
  ·cases h
 ·cases h
theorem af.field{t:TypeId}{x:Operand}{f off b o':Nat}{g:Bool}(h:o.op= .fieldAddr t x f)(ag:bf ρ x=some (g,.p b o'))(al:g=true)(aP:zw P t f=some off):af P H ρ o (.p b (o'+off)):=by
 refine .same cB λI w a aA=>?_;have ab:=ct (aA.get cx ag al);exact⟨.pointer (some ⟨b,o'+off,none⟩),by simp[execOp,h,ab,Mz aP b o' w],.val _⟩
theorem af.VW{t:TypeId}{x:Operand}{f off:Nat}{cs:List aa}{g:Bool}(h:o.op= .fieldAddr t x f)(ag:bf ρ x=some (g,.ptr cs))(al:g=true)(aP:zw P t f=some off):af P H ρ o (.ptr (cs.drop off)):=by
 refine .same cB λI w a aA=>?_;have ab:=aA.get cx ag al;generalize aC:a.eval x=u at ab;cases ab with
 | ptr _ b o' ak=>exact⟨.pointer (some ⟨b,o'+off,none⟩),by simp[execOp,h,aC,Mz aP b o' w],.ptr _ _ _ (ak.drop off)⟩
def vq(P:Program)(t:TypeId):Option (Nat×Nat):=match P.underlying t with | some (.array n e)=>(P.info? e).map λi=>(n,i.size) | _=>none
theorem MA{t:TypeId}{n k:Nat}(ht:vq P t=some (n,k))(b o:Nat)(dV:IntKind)(i:Int)(ai:0<=i)(ab:i<n)(w:World):
  (Instr.indexAt t (.pointer (some ⟨b,o,none⟩)) (.int dV i)).run P w= .ok (.pointer (some ⟨b,o+i.toNat*k,none⟩)) w:=by
 unfold vq at ht;split at ht
 ·rename_i m e hu;cases av:P.info? e with
  | none=>simp[av] at ht
  | some inf=>
   simp[av] at ht;obtain⟨rfl,rfl⟩:=ht;have ae:0<=i/\i<(m:Int):=⟨ai,ab⟩;simp[Instr.indexAt,asIntOf,run_underlying hu,Instr.sureAddr,sizeOf,typeInfo,av,ae,Addr.add_lit]
 ·cases ht
theorem af.VX{t:TypeId}{x y:Operand}{b o' n k:Nat}{dV:IntKind}{i:Int}{cC cR:Bool}(h:o.op= .indexAddr t x y)(ag:bf ρ x=some (cC,.p b o'))(hy:bf ρ y=some (cR,.val (.int dV i)))
  (dG:cC=true) (dX:cR=true) (ht:vq P t=some (n,k)) (ai:0<=i) (ab:i<n):af P H ρ o (.p b (o'+i.toNat*k)):=by
 refine .same cB λI w a aA=>?_;have aB:=ct (aA.get cx ag dG);have av:=ct (aA.get cx hy dX);exact⟨.pointer (some ⟨b,o'+i.toNat*k,none⟩),by simp[execOp,h,aB,av,MA ht b o' dV i ai ab w],.val _⟩
theorem af.VY{t:TypeId}{x y:Operand}{cs:List aa}{n k:Nat}{dV:IntKind}{i:Int}{cC cR:Bool}(h:o.op= .indexAddr t x y)(ag:bf ρ x=some (cC,.ptr cs))(hy:bf ρ y=some (cR,.val (.int dV i)))
  (dG:cC=true) (dX:cR=true) (ht:vq P t=some (n,k)) (ai:0<=i) (ab:i<n):af P H ρ o (.ptr (cs.drop (i.toNat*k))):=by
 refine .same cB λI w a aA=>?_;have aB:=aA.get cx ag dG;have av:=ct (aA.get cx hy dX);generalize aC:a.eval x=u at aB;cases aB with
 | ptr _ b o' ak=>exact⟨.pointer (some ⟨b,o'+i.toNat*k,none⟩),by simp[execOp,h,aC,av,MA ht b o' dV i ai ab w],.ptr _ _ _ (ak.drop _)⟩
theorem af.nilCheck{x:Operand}{b off:Nat}{g:Bool}(h:o.op= .nilCheck x)(ag:bf ρ x=some (g,.p b off))(al:g=true):af P H ρ o (.p b off):=by
 refine .same cB λI w a aA=>?_;have ab:=ct (aA.get cx ag al);exact⟨.pointer (some ⟨b,off,none⟩),by simp[execOp,h,ab],.val _⟩
theorem af.LF{x:Operand}{cs:List aa}{g:Bool}(h:o.op= .nilCheck x)(ag:bf ρ x=some (g,.ptr cs))(al:g=true):af P H ρ o (.ptr cs):=by
 refine .same cB λI w a aA=>?_;have ab:=aA.get cx ag al;generalize aC:a.eval x=u at ab;cases ab with
 | ptr _ b o' ak=>exact⟨.pointer (some ⟨b,o',none⟩),by simp[execOp,h,aC],.ptr _ _ _ ak⟩
theorem af.LG{x:Operand}{f:FuncId}{bM cs:List aa}{g:Bool}(h:o.op= .nilCheck x)(ag:bf ρ x=some (g,.fn (.func f) bM cs))(al:g=true):af P H ρ o (.fn (.func f) bM cs):=by
 refine .same cB λI w a aA=>?_;have ab:=aA.get cx ag al;generalize aC:a.eval x=u at ab;cases ab with
 | fn _ _ _ fq eQ aP ak=>exact⟨.func (.func f) fq eQ,by simp[execOp,h,aC],.fn _ _ _ _ _ aP ak⟩
theorem af.makeFunc{f:Fn}{first mo:Array Operand}{bM cs:List (Bool×aa)}(h:o.op= .makeFunc f first mo)(aP:j2 ρ first.toList=some bM)(ak:j2 ρ mo.toList=some cs)(Ge:bM.all (·.1)=true)(Ga:cs.all (·.1)=true):
  af P H ρ o (.fn f (bM.map (·.2)) (cs.map (·.2))):=by
 refine .same cB λI w a aA=>?_;have ab:=tM aA first.toList bM (λx ag=>by simp[h,Op.operands];left;simpa using ag) aP (by simpa using Ge);have ae:=tM aA mo.toList cs (λx ag=>by simp[h,Op.operands];right;simpa using ag) ak (by simpa using Ga);exact⟨.func f (first.map a.eval) (mo.map a.eval),by simp[execOp,h,Instr.makeFunc],.fn _ _ _ _ _ pQ xM⟩
theorem af.VZ{s d:TypeId}{x:Operand}{k cJ:IntKind}{n m:Int}{g:Bool}(h:o.op= .convert s d x)(ag:bf ρ x=some (g,.val (.int k n)))(al:g=true)(aH:(P.underlying s).isSome=true)(aN:P.underlying d=some (.int cJ))(hw:cJ.wrap n=m):
  af P H ρ o (.val (.int cJ m)):=by
 refine .same cB λI w a aA=>?_;have ab:=ct (aA.get cx ag al);subst hw;obtain⟨ds,hds⟩:=Option.isSome_iff_exists.1 aH;refine⟨.int cJ (cJ.wrap n),?_,.val _⟩;simp[execOp,h,ab,convert,run_underlying hds,run_underlying aN,Conv.intToInt]
theorem af.min2{x y:Operand}{iI:Array TypeId}{k cJ:IntKind}{a b c:Int}{cC cR:Bool}(h:o.op= .call {callee:=.builtin .min,args:=#[x,y],argTypes:=iI})(ag:bf ρ x=some (cC,.val (.int k a)))(hy:bf ρ y=some (cR,.val (.int cJ b)))(dG:cC=true)(dX:cR=true)
  (ak:(if b<a then b else a)=c):af P H ρ o (.val (.int k c)):=by
 refine .same cB λI w f aA=>?_;have ab:=ct (aA.get ig ag dG);have ae:=ct (aA.get ig hy dX);subst ak;exact⟨.int k (if b<a then b else a),by simp[execOp,h,ab,ae,resolve,invoke,builtin,run_min_int2],.val _⟩
theorem af.max2{x y:Operand}{iI:Array TypeId}{k cJ:IntKind}{a b c:Int}{cC cR:Bool}(h:o.op= .call {callee:=.builtin .max,args:=#[x,y],argTypes:=iI})(ag:bf ρ x=some (cC,.val (.int k a)))(hy:bf ρ y=some (cR,.val (.int cJ b)))(dG:cC=true)(dX:cR=true)
  (ak:(if b>a then b else a)=c):af P H ρ o (.val (.int k c)):=by
 refine .same cB λI w f aA=>?_;have ab:=ct (aA.get ig ag dG);have ae:=ct (aA.get ig hy dX);subst ak;exact⟨.int k (if b>a then b else a),by simp[execOp,h,ab,ae,resolve,invoke,builtin,run_max_int2],.val _⟩
end
def nt(P:Program)(f:FuncId):Bool:=
 match P.funcs[f]? with
 | some fn=>fn.body.isSome && !(fn.name== "runtime.NumGoroutine")
 | none=>false
def fD(B:Nat)(cl:a8)(aO:World)(bw:aa->List aj->Prop)(E:aa->List aj->Prop):Ending->World->Prop:=λe w'=>
 ∃aQ H',ck B aQ w'/\Ext B cl aO aQ w'/\br B aQ w' H'/\
  ((∃v x,e= .returned v/\Rel aQ w' x v/\bw x H')\/(∃v x,e= .panicked [{v,recovered:=false}]/\Rel aQ w' x v/\E x H'))
def b1(P:Program)(f:FuncId)(xs:List aa)(H:List aj)(bw:aa->List aj->Prop)(E:aa->List aj->Prop):Prop:=
 nt P f=true/\∀(B:Nat) (I:a8) (w:World) (vs:List Value),ck B I w->br B I w H->bZ I w xs vs->Calls P f vs.toArray w (fD B I w bw E)
def ba(P:Program)(f:FuncId)(xs:List aa)(y:aa):Prop:=∀H,b1 P f xs H (λx H'=>x=y/\H'=H) (λ_ _=>False)
def V0(P:Program)(f:FuncId)(xs:List aa)(bw:aa->Prop):Prop:=∀H,b1 P f xs H (λx H'=>bw x/\H'=H) (λ_ _=>False)
section
variable{P:Program}{H:List aj}{ρ:Nat->Option aa}{o:Oper}
theorem xQ{f:FuncId}(h:nt P f=true)(args:Array Value)(w:World):(callFunc f args).run P w= .ok (.enter f args) w:=by
 unfold nt at h;split at h
 ·rename_i fn aP;simp only[Bool.and_eq_true,Bool.not_eq_true'] at h;obtain⟨ab,ae⟩:=h;have aD:fn.body.isNone=false:=by cases aw:fn.body <;> simp_all
  simp only[callFunc,Sem.run_bind,run_program,Result.andThen_ok,aP,ae,aD,Bool.false_eq_true,if_false,Sem.run_pure]
 ·cases h
theorem Gf{x:Operand}{args:Array Operand}{iI:Array TypeId}{f:FuncId}{fq eQ:Array Value}(h:o.op= .call {callee:=.value x,args:=args,argTypes:=iI})(aP:nt P f=true)(a:Act)(w:World)
  (ag:a.eval x= .func (.func f) fq eQ):(execOp a.eval o).run P w= .ok (.enter f (fq++args.map a.eval++eQ)) w:=by
 simp[execOp,h,resolve,ag,Deferred.ofValue,invoke,xQ aP]
structure gZ(P:Program)(ρ:Nat->Option aa)(o:Oper)(f:FuncId)(xs:List aa):Prop where
 run:∀(I:a8) (w:World) (a:Act),gi I w ρ a o->∃vs:List Value,bZ I w xs vs/\(nt P f=true->(execOp a.eval o).run P w= .ok (.enter f vs.toArray) w)
 rA:∀c,o.op≠ .defer c
theorem gZ.mk'{x:Operand}{args:Array Operand}{iI:Array TypeId}{f:FuncId}{bM cs:List aa}{ys:List (Bool×aa)}{g:Bool}(h:o.op= .call {callee:=.value x,args:=args,argTypes:=iI})
  (ag:bf ρ x=some (g,.fn (.func f) bM cs)) (al:g=true) (bN:j2 ρ args.toList=some ys) (nw:ys.all (·.1)=true):gZ P ρ o f (bM++ys.map (·.2)++cs):=by
 refine⟨λI w a aA=>?_,cB⟩;have ab:=aA.get ig ag al;have ae:=tM aA args.toList ys (λz an=>by simp[h,Op.operands,Call.operands];right;simpa using an) bN (by simpa using nw);generalize aC:a.eval x=u at ab;cases ab with
 | fn _ _ _ fq eQ aP ak=>
  refine⟨fq.toList++args.toList.map a.eval++eQ.toList,(aP.append ae).append ak,λcA=>?_⟩;rw[Gf h cA a w aC];congr 2;simp
theorem af.call{f:FuncId}{xs:List aa}{y:aa}(ak:gZ P ρ o f xs)(h:ba P f xs y):af P H ρ o y:=by
 intro B I w r a eo hw az aH aA;obtain⟨vs,ab,ae⟩:=ak.run I w a aA;obtain⟨cA,ij⟩:=h eo;refine cM.qs ak.rA (ae cA) ((ij B I w vs hw az ab).mono λe w' aK=>?_);obtain⟨aQ,H',dc,cc,cW,aK⟩:=aK;rcases aK with⟨v,x,rfl,ag,rfl,rfl⟩ | ⟨v,x,rfl,_,e5⟩
 ·exact⟨aQ,dc,cc,cW,ag⟩
 ·exact e5.elim
end
section
variable{c:Ctx}{r:Option Nat}{P:Program}{ops:Array Oper}{l rest:List Oper}{o:Oper}{st:dn}{Q:Exit->Act->World->Prop}{x:aa}
theorem au.call{f:FuncId}{xs:List aa}{bw:aa->List aj->Prop}{E:aa->List aj->Prop}(al:o.guard=none)(aN:jt c.n o.dst=true)(ak:gZ P (aX st.env) o f xs)(h:b1 P f xs st.H bw E)
  (next:∀y H',bw y H'->au c r P ops rest ⟨jN o.dst y st.env,H'⟩ Q)
  (oe:∀y H',E y H'->∀a w,Sat c ⟨st.env,H'⟩ a w->∀I v,Rel I w y v->Q (.panic [{v,recovered:=false}]) a w):au c r P ops (o::rest) st Q:=by
 intro a w s;refine wpListIn_plain al λK ca=>?_;obtain⟨I,hw,he,az,aC⟩:=s.mem;obtain⟨vs,ab,ae⟩:=ak.run I w a (aC.ops o);obtain⟨cA,ij⟩:=h;refine cM.qs (R:=λv w'=>∃aQ H' x,ck c.B aQ w'/\Ext c.B I w aQ w'/\br c.B aQ w' H'/\Rel aQ w' x v/\bw x H')
  (E:=λch w'=>∃aQ H' v x,ck c.B aQ w'/\Ext c.B I w aQ w'/\br c.B aQ w' H'/\ch= [{v,recovered:=false}]/\Rel aQ w' x v/\E x H') ak.rA (ae cA) ((ij c.B I w vs hw az ab).mono λe w' aK=>?_) K Q ?_ ?_
 ·obtain⟨aQ,H',dc,cc,cW,aK⟩:=aK;rcases aK with⟨v,x,rfl,ag,fE⟩ | ⟨v,x,rfl,ag,e5⟩
  ·exact⟨aQ,H',x,dc,cc,cW,ag,fE⟩
  ·exact⟨aQ,H',v,x,dc,cc,cW,rfl,ag,e5⟩
 ·rintro v w' ⟨aQ,H',x,dc,cc,cW,ag,fE⟩;refine ca _ _ (next x H' fE _ _ ⟨jr,jq,aQ,dc,he.trans cc,cW,?_⟩);exact (aC.bQ cc.keeps).put rp ag
 ·rintro ch w' ⟨aQ,H',v,x,dc,cc,cW,rfl,ag,e5⟩;exact oe x H' e5 a w' ⟨s.ds,s.size,aQ,dc,he.trans cc,cW,aC.bQ cc.keeps⟩ aQ v ag
def dq:aa->List aa
 | .agg cs=>cs
 | x=>[x]
def ha:aa->Bool
 | .any=>false
 | .as x _=>match x with | .aF _ _=>true | .fn _ _ _=>true | .ptr _=>true | .iface _ _=>true | _=>false
 | .opt _ _=>false
 | .val v=>v.oneCell'
 | .bJ _=>false
 | _=>true
theorem Rel.one{I:a8}{w:World}{x:aa}{v:Value}(h:Rel I w x v)(aw:ha x=true)(ag:∀cs,x≠ .agg cs):v.oneCell'=true:=by
 cases h with
 | any=>simp[ha] at aw
 | val v=>exact aw
 | eP=>rfl
 | aF=>rfl
 | as y v h=>
  cases h <;> first | rfl | simp[ha] at aw
 | opt=>simp[ha] at aw
 | agg cs vs h=>exact absurd rfl (ag cs)
 | bJ=>simp[ha] at aw
 | fn=>rfl
 | iface=>rfl
 | ptr=>rfl
 | gF=>rfl
 | single v h=>exact h
theorem V1{v:Value}(h:v.oneCell'=true):v.cells= #[v]:=by
 cases v <;> first | rfl | simp[Value.oneCell'] at h
theorem xR{I:a8}{w:World}{x:aa}{v:Value}(h:Rel I w x v)(aw:ha x=true):bZ I w (dq x) v.cells.toList:=by
 by_cases ag:∃cs,x= .agg cs
 ·obtain⟨cs,rfl⟩:=ag;cases h with
  | agg _ vs h=>exact h
 ·have hn:∀cs,x≠ .agg cs:=λcs e=>ag ⟨cs,e⟩;have ab:=h.one aw hn;rw[V1 ab];have:dq x= [x]:=by cases x <;> first | rfl | exact absurd rfl (hn _)
  rw[this];exact .cons _ _ _ _ h .nil
theorem au.box{t:TypeId}{z:Operand}{y:aa}{g:Bool}(cU:o.guard=none)(aN:jt c.n o.dst=true)(h:o.op= .box t z)(an:bf (aX st.env) z=some (g,y))(al:g=true)(aw:ha y=true)
  (next:∀b,au c r P ops rest ⟨jN o.dst (.p b 0) st.env,.aI b t (dq y)::st.H⟩ Q):au c r P ops (o::rest) st Q:=by
 intro a w s;refine wpListIn_plain cU λK ca=>?_;obtain⟨I,hw,he,az,aC⟩:=s.mem;have ab:=xR ((aC.ops o).get cx an al) aw;refine cM.fN (R:=λv w'=>v= .pointer (some ⟨w.heap.size,0,none⟩)/\w'=w.alloc (.cells (a.eval z).cells t)) (E:=λ_ _=>False) cB
  (v:=.pointer (some ⟨w.heap.size,0,none⟩)) (w':=w.alloc (.cells (a.eval z).cells t)) F4 ⟨rfl,rfl⟩ K Q ?_ (λ_ _ h=>h.elim)
 rintro v w' ⟨rfl,rfl⟩;refine ca _ _ (next w.heap.size _ _ ⟨jr,jq,I,hw.alloc _,he.trans (kN hw _),az.new hw t _ _ ab,?_⟩);exact (aC.bQ (mq hw _)).put rp (.val _)
def zeroCells(P:Program)(t:TypeId):Option (List Value):=((P.info? t).bind (·.zero)).map λv=>v.cells.toList
theorem au.alloc{t:TypeId}{bY:List Value}(cU:o.guard=none)(aN:jt c.n o.dst=true)(h:o.op= .alloc t)(an:zeroCells P t=some bY)
  (next:∀b,au c r P ops rest ⟨jN o.dst (.p b 0) st.env,.aI b t (bY.map .val)::st.H⟩ Q):au c r P ops (o::rest) st Q:=by
 intro a w s;refine wpListIn_plain cU λK ca=>?_;obtain⟨I,hw,he,az,aC⟩:=s.mem;unfold zeroCells at an;cases av:P.info? t with
 | none=>simp[av] at an
 | some inf=>
  cases l2:inf.zero with
  | none=>simp[av,l2] at an
  | some z=>
   simp[av,l2] at an;have ab:bZ I w (bY.map .val) z.cells.toList:=by rw[an];exact l1 bY
   refine cM.fN (R:=λv w'=>v= .pointer (some ⟨w.heap.size,0,none⟩)/\w'=w.alloc (.cells z.cells t)) (E:=λ_ _=>False) cB
    (v:=.pointer (some ⟨w.heap.size,0,none⟩)) (w':=w.alloc (.cells z.cells t)) (by simp[execOp,h,Instr.alloc,newVar,newRow,zeroValue,typeInfo,av,l2]) ⟨rfl,rfl⟩ K Q ?_ (λ_ _ h=>h.elim)
   rintro v w' ⟨rfl,rfl⟩;refine ca _ _ (next w.heap.size _ _ ⟨jr,jq,I,hw.alloc _,he.trans (kN hw _),az.new hw t _ _ ab,?_⟩);exact (aC.bQ (mq hw _)).put rp (.val _)
inductive bu:List aj->aj->aj->List aj->Prop
 | head (e e':aj) (H:List aj):bu (e::H) e e' (e'::H)
 | tail (f e e':aj) (H H':List aj) (h:bu H e e' H'):bu (f::H) e e' (f::H')
theorem bu.mem{H H':List aj}{e e':aj}(h:bu H e e' H'):e∈H:=by
 induction h with
 | head=>exact .head _
 | tail _ _ _ _ _ _ bm=>exact .tail _ bm
theorem bu.eX{H H':List aj}{e e':aj}(h:bu H e e' H'):∀f∈H',f=e'\/f∈H:=by
 induction h with
 | head=>intro f aP;rcases List.mem_cons.1 aP with rfl | h;exact .inl rfl;exact .inr (.tail _ h)
 | tail g _ _ _ _ _ bm=>
  intro f aP;rcases List.mem_cons.1 aP with rfl | h
  ·exact .inr (.head _)
  ·rcases bm f h with h | h
   ·exact .inl h
   ·exact .inr (.tail _ h)
theorem br.gH{B:Nat}{I aQ:a8}{w w':World}{H H':List aj}{e e':aj}(h:br B I w H)(hu:bu H e e' H')(ao:fb I w aQ w')
  (jc:∀b,b<w.heap.size->e.eX≠some b->w'.heap[b]? =w.heap[b]?) (MB:∀b o,aQ b o->I b o\/e.eX=some b\/w.heap.size<=b)
  (cA:e'.ok B aQ w') (zx:∀b,e'.eX=some b->e.eX=some b\/w.heap.size<=b):br B aQ w' H':=by
 have bQ:∀f:aj,f.ok B I w->(∀b,f.eX=some b->e.eX≠some b)->f.ok B aQ w':=λf aP bq=>
  aj.bQ aP ao (λb aw=>jc b (aj.nu aP aw).2 (bq b aw)) (λb aw o aA=>by
   rcases MB b o aA with h | h | h
   ·exact h
   ·exact absurd h (bq b aw)
   ·exact absurd (aj.nu aP aw).2 (Nat.not_lt.2 h))
 induction hu with
 | head e e' H=>
  obtain⟨ab,ae⟩:=List.pairwise_cons.1 h.apart;refine⟨λf aP=>?_,List.pairwise_cons.2 ⟨λf aP b aw kR=>?_,ae⟩⟩
  ·rcases List.mem_cons.1 aP with rfl | aP
   ·exact cA
   ·exact bQ f (h.ok f (.tail _ aP)) (λb aw he=>ab f aP b he aw)
  ·rcases zx b aw with aD | aD
   ·exact ab f aP b aD kR
   ·exact absurd (aj.nu (h.ok f (.tail _ aP)) kR).2 (Nat.not_lt.2 aD)
 | tail f e e' H H' hu bm=>
  obtain⟨ab,ae⟩:=List.pairwise_cons.1 h.apart;have MC:=bm h.tail jc MB cA zx bQ;have bq:∀b,f.eX=some b->e.eX≠some b:=λb aw he=>ab e hu.mem b aw he;refine⟨λg al=>?_,List.pairwise_cons.2 ⟨λg al b aw zy=>?_,MC.apart⟩⟩
  ·rcases List.mem_cons.1 al with rfl | al
   ·exact bQ g (h.ok g (.head _)) bq
   ·exact MC.ok g al
  ·rcases hu.eX g al with rfl | CU
   ·rcases zx b zy with aD | aD
    ·exact bq b aw aD
    ·exact absurd (aj.nu (h.ok f (.head _)) aw).2 (Nat.not_lt.2 aD)
   ·exact ab g CU b aw zy
def eG(ys:List aa):Bool:=ys.all λy=>ha y && (match y with | .agg _=>false | _=>true)
theorem vr{I:a8}{w:World}:∀{ys:List aa} {vs:List Value},bZ I w ys vs->eG ys=true->∀v∈vs,v.oneCell'=true
 | _,_,.nil,_,v,aC=>by cases aC
 | _,_,.cons y u ys vs h t,bN,v,aC=>by
  simp only[eG,List.all_cons,Bool.and_eq_true] at bN;rcases List.mem_cons.1 aC with rfl | aC
  ·exact h.one bN.1.1 (λcs e=>by subst e;simp at bN)
  ·exact vr t bN.2 v aC
theorem au.store{t tb:TypeId}{p z:Operand}{y:aa}{l3 g:Bool}{b off:Nat}{cs:List aa}{H':List aj}{agg:Bool}(cU:o.guard=none)(aN:jt c.n o.dst=true)(h:o.op= .store t p z)
  (aB:bf (aX st.env) p=some (l3,.p b off)) (oU:l3=true) (an:bf (aX st.env) z=some (g,y)) (al:g=true) (aw:ha y=true) (ab:eG (dq y)=true)
  (ht:oT P t=some (agg,(dq y).length)) (hfit:Nat.ble (off+(dq y).length) cs.length=true)
  (hu:bu st.H (.aI b tb cs) (.aI b tb (cs.take off++dq y++cs.drop (off+(dq y).length))) H')
  (next:au c r P ops rest ⟨jN o.dst .any st.env,H'⟩ Q):au c r P ops (o::rest) st Q:=by
 intro a w s;refine wpListIn_plain cU λK ca=>?_;obtain⟨I,hw,he,az,aC⟩:=s.mem;have vt:=ct ((aC.ops o).get cx aB oU);have ik:=xR ((aC.ops o).get cx an al) aw;obtain⟨bE,vs,jc,ed,cu⟩:=az.ok _ hu.mem;have qx:=vr ik ab;have hlen:(a.eval z).cells.toList.length=(dq y).length:=ik.length;have dp:vs.size=cs.length:=by have:=ed.length;simpa using this
 have zz:off+0+(a.eval z).cells.toList.length<=vs.size:=by
  have:=Nat.le_of_ble_eq_true hfit;rw[hlen,dp];omega
 have dW:=run_storeCells_at P b off tb (a.eval z).cells.toList 0 vs w jc zz qx;obtain⟨_,eH⟩:=zt ht w;generalize pV:(vs.toList.take (off+0)++(a.eval z).cells.toList++vs.toList.drop (off+0+(a.eval z).cells.toList.length)).toArray=cur at dW;have zA:(a.eval z).cells.size=(dq y).length:=by simpa using hlen
 have zB:(execOp a.eval o).run P w= .ok .skip (w.setRow b cur):=by
  simp[execOp,h,Instr.storeAt,vt,Instr.sureAddr,storeVar,eH,zA,dW]
 have hK:fb I w I (w.setRow b cur):=⟨λ_ _ x=>x,λdk o' b4=>by
  have bq:dk≠b:=λe=>by subst e;exact cu o' b4
  exact World.cell?_of_block (a:=⟨dk,o',none⟩) (setRow_other w b dk cur bq)⟩
 have sy:Ext c.B I w I (w.setRow b cur):=⟨hK.j0,hK.cell,⟨rfl,rfl,rfl,bj,λk ao=>setRow_other w b k cur ad⟩⟩;have dc:ck c.B I (w.setRow b cur):=⟨xK,λdk o' b4=>by rw[hK.cell dk o' b4];exact hw.there dk o' b4⟩;have sz:bZ I w (cs.take off++dq y++cs.drop (off+(dq y).length)) cur.toList:=by
  rw[<-pV];simp only[Nat.add_zero,hlen];exact ((ed.take off).append ik).append (ed.drop _)
 have cW:br c.B I (w.setRow b cur) H':=by
  refine az.gH hu hK (λk ao bq=>setRow_other w b k cur (λe=>bq xN)) (λ_ _ x=>.inl x) ?_ (λk ao=>.inl ao);exact⟨bE,cur,setRow_heap w b vs cur tb (0,0) jc,sz.bQ hK,cu⟩
 refine cM.vl (R:=λv w'=>v=undef/\w'=w.setRow b cur) (E:=λ_ _=>False) cB zB ⟨rfl,rfl⟩ K Q ?_ (λ_ _ h=>h.elim);rintro v w' ⟨rfl,rfl⟩;refine ca _ _ (next _ _ ⟨jr,jq,I,dc,he.trans sy,cW,?_⟩);exact (aC.bQ hK).put rp (.any _)
theorem b1.of{f:FuncId}{fn:Func}{code:Code}{xs:List aa}{H:List aj}{bw:aa->List aj->Prop}{E:aa->List aj->Prop}{n:Nat}(aP:P.funcs[f]? =some fn)(aw:fn.body=some code)(qp:(fn.name== "runtime.NumGoroutine")=false)
  (hn:fn.ntmps=n) (env:List (Nat×aa)) (sA:∀t y,aX env t=some y->xs[t]? =some y) (ax:xs.length<=n)
  (h:∀B I w,aq ⟨B,I,w,n,[]⟩ none P code ⟨env,H⟩ (bodyPost P fn (fD B I w bw E))):b1 P f xs H bw E:=by
 refine⟨ve,λB I w vs hw az aC=>vk (n:=0) (callsIn_of_wp aP aw trivial ?_ rfl)⟩;refine h B I w _ w ⟨rfl,?_,I,hw,Ext.refl _ _ _,az,λt y hy=>?_⟩
 ·have:=aC.length;simp;omega
 ·obtain⟨v,ab,ae⟩:=aC.get (sA t y hy);have:(vs.toArray++Array.replicate (fn.ntmps - vs.toArray.size) undef).getD t undef=v:=by
   have cO:=(List.getElem?_eq_some_iff.1 ab).1;simp only[Array.getD_eq_getD_getElem?];rw[Array.getElem?_append_left xL];simp[ab]
  rw[this];exact ae
end
end Go.Eng

