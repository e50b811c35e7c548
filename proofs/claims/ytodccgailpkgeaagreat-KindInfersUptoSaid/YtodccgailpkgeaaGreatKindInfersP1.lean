/- A part of the proof. No condition. -/
import Derived.WalkKit
import Derived.OwnWalkIn
import Derived.DefersIn
set_option linter.defProp false
set_option maxHeartbeats 1000000
set_option linter.unusedVariables false
set_option linter.unusedSimpArgs false
namespace Go
def aa{p:Prop}(h:p:=by omega):p:=h
def aq{p:Prop}(h:p:=by decide+kernel):p:=h
def cJ{p:Prop}(h:p:=by first | exact ad.cF rfl rfl rfl rfl | (apply ad.ij rfl rfl rfl;(case hm=>repeat (first | exact .head _ | refine .tail _ ?_));(case hy=>rfl))):p:=h
def bC{p:Prop}(h:p:=by repeat (first | exact List.Sublist.refl _ | refine List.Sublist.cons _ ?_)):p:=h
def c9{p:Prop}(h:p:=by first | rfl | ((repeat (first | exact aw | rfl | refine Bool.and_eq_true_iff.2 ⟨?_,?_⟩));done) | simp_all [strip,EE]):p:=h
def b5{p:Prop}(h:p:=by first | exact ad.EF rfl rfl rfl rfl | exact ad.EG rfl rfl rfl rfl):p:=h
def ay{p:Prop}(h:p:=by kernel_rfl):p:=h
def dO{p:Prop}(h:p:=by first | rfl | exact fK (by simp_all) | exact bq (by simp_all) | simp_all):p:=h
def fT{p:Prop}(h:p:=by first | exact ad.nilCheck rfl rfl rfl | exact ad.Km rfl rfl rfl | exact ad.Kn rfl rfl rfl):p:=h
def cC{p:Prop}(h:p:=by first | rfl | simp_all [strip]):p:=h
def gA{p:Prop}(h:p:=by repeat (first | exact List.Sublist.refl _ | apply List.Sublist.cons_cons | refine List.Sublist.cons _ ?_)):p:=h
def pq{p:Prop}(h:p:=by repeat (first | exact fU.head _ _ | apply fU.tail)):p:=h
def cb{p:Prop}(h:p:=by simp[h,Op.operands]):p:=h
def hI{p:Prop}(h:p:=by intro v q cd;rcases q with _ | _ | _ | _ | _ | _ | q <;> first | rfl | (cases cd)):p:=h
def nK{p:Prop}(h:p:=by first | exact ad.rF rfl rfl rfl rfl | (apply ad.A6 rfl rfl rfl;(case hm=>repeat (first | exact .head _ | refine .tail _ ?_));(case hy=>rfl);(case hn=>rfl))):p:=h
def lL{p:Prop}(h:p:=by first | exact ad.fC rfl rfl rfl rfl rfl ⟨by omega,by omega⟩ | exact ad.ep rfl rfl rfl rfl rfl ⟨by omega,by omega⟩):p:=h
def hW{p:Prop}(h:p:=by repeat (first | exact trivial | refine⟨rfl,?_⟩)):p:=h
def m1{p:Prop}(h:p:=by simp only[List.length_map,List.length_take,List.length_singleton,List.length_cons,List.length_nil] at*;omega):p:=h
def ug{p:Prop}(h:p:=by repeat (first | exact .head _ | refine .tail _ ?_)):p:=h
def sO{p:Prop}(h:p:=by have c7:=A7 (p:=p) (t:=t) (gen:=gen) (kinds:=kinds) m;have dP:=gO;simp only[List.length_map,List.length_singleton,List.length_cons,List.length_nil] at*;omega):p:=h
def aS{p:Prop}(h:p:=by simp):p:=h
def sP{p:Prop}(h:p:=by first | exact .x5 inferInstance rfl (by repeat (first | exact .head _ | refine .tail _ ?_)) rfl rfl (.tmp rfl (.nil)) | exact .x6 inferInstance rfl rfl (.tmp rfl (.nil))):p:=h
def oF{p:Prop}(h:p:=by simp only[List.length_map,List.length_singleton,List.length_take,List.length_cons,List.length_nil] at*;omega):p:=h
def x7{p:Prop}(h:p:=by first | exact⟨a8.1,a8.2.1,a8.2.2.1,a8.2.2.2.1,by omega⟩ | (simp only[oG,pr,List.length_append,List.length_cons,List.length_nil];split <;> (try split) <;> omega) | (simp only[oG,pr,List.length_append,List.length_cons,List.length_nil];omega)):p:=h
def sQ{p:Prop}(h:p:=by first | exact .x5 inferInstance rfl (by repeat (first | exact .head _ | refine .tail _ ?_)) rfl rfl (.nil) | exact .x6 inferInstance rfl rfl (.nil)):p:=h
def gB{p:Prop}(h:p:=by simp[h,Op.operands,Call.operands]):p:=h
def sR{p:Prop}(h:p:=by first | exact .A8 inferInstance rfl (by repeat (first | exact .head _ | refine .tail _ ?_)) rfl (.nil) | exact .Ko inferInstance rfl rfl (.nil)):p:=h
def mq{p:Prop}(h:p:=by unfold gC rG;(repeat' split) <;> first | rfl | omega | (simp_all;done)):p:=h
def ey{p:Prop}(h:p:=by unfold fV;omega):p:=h
def x8{p:Prop}(h:p:=by simp_all):p:=h
def cB{p:Prop}(h:p:=by simp;omega):p:=h
def cf{p:Prop}(h:p:=by simp[h]):p:=h
def jV{p:Prop}(h:p:=by unfold A9 ik;simp_all <;> (intro a;omega)):p:=h
def v8{p:Prop}(h:p:=by first | exact ad.fC rfl rfl (cl aw) rfl (cl aw) ⟨by simp at aw,by simp at aw⟩ | exact ad.ep rfl rfl (cl aw) rfl (cl aw) ⟨by simp at aw,by simp at aw⟩):p:=h
def wa{p:Prop}(h:p:=by have c7:=hJ;simp only[List.length_map,List.length_singleton,List.length_take,List.length_cons,List.length_nil,qn,sS] at*;omega):p:=h
def iI{p:Prop}(h:p:=by rw[EH];exact s.size):p:=h
def uh{p:Prop}(h:p:=by first | exact ad.fC rfl rfl rfl rfl rfl (by simpa using bT) | exact ad.ep rfl rfl rfl rfl rfl (by simpa using bT)):p:=h
def df{p:Prop}(h:p:=by repeat (first | exact bG.head _ _ _ | apply bG.tail)):p:=h
def ps{p:Prop}(h:p:=by have:=T8 (cs:=p.aE) (i:=i) k (λc h=>(a1 c h).2);have aj2:=Nat.mul_le_mul_left 1000 b6;simp only[List.length_map,List.length_singleton,List.length_cons,List.length_nil];omega):p:=h
def wb{p:Prop}(h:p:=by first | exact ad.fC rfl rfl rfl rfl rfl (by rw[a1.oH];exact bT) | exact ad.ep rfl rfl rfl rfl rfl (by rw[a1.oH];exact bT)):p:=h
def EI{p:Prop}(h:p:=by first | exact ad.dX rfl rfl rfl rfl rfl (gP (i:=(Y.kids.getD 0 default).toNat) (by omega)) ⟨by omega,by omega⟩ | exact ad.dX rfl rfl rfl rfl rfl (.tail _ (gP (i:=(Y.kids.getD 0 default).toNat) (by omega))) ⟨by omega,by omega⟩):p:=h
def Ba{p:Prop}(h:p:=by have c7:=A7 (p:=p) (t:=g.t) (gen:=gen) (kinds:=kinds) m;have dP:=gO;simp only[List.length_map,List.length_singleton,List.length_cons,List.length_nil] at*;omega):p:=h
def wc{p:Prop}(h:p:=by first | exact ad.qo rfl rfl rfl | exact ad.Kp rfl rfl rfl | exact ad.Bb rfl rfl rfl | exact ad.Kq rfl rfl rfl):p:=h
def EJ{p:Prop}(h:p:=by first | exact ad.gk rfl rfl rfl (gP (i:=(Y.kids.getD 0 default).toNat) (by omega)) (hK (by omega)) | exact ad.gk rfl rfl rfl (.tail _ (gP (i:=(Y.kids.getD 0 default).toNat) (by omega))) (hK (by omega))):p:=h
def iJ{p:Prop}(h:p:=by rw[put_defers];exact s.ds):p:=h
def fW{p:Prop}(h:p:=by rw[a6];exact next):p:=h
def h5{p:Prop}(h:p:=by simp only[maxLen];omega):p:=h
def x9{p:Prop}(h:p:=by first | exact ad.cF rfl rfl rfl rfl | (apply ad.ij rfl rfl rfl;(case hm=>exact List.mem_append_right _ hm);(case hy=>rfl))):p:=h
def Bc{p:Prop}(h:p:=by have c7:=EK h (A.take k);simp only[List.length_map,List.length_take,List.length_singleton,List.length_cons,List.length_nil] at*;omega):p:=h
def we{p:Prop}(h:p:=by first | exact ad.T9 rfl rfl rfl | exact ad.Ua rfl rfl rfl rfl | exact ad.Ub rfl rfl rfl):p:=h
def Bd{p:Prop}(h:p:=by first | exact ad.cF rfl rfl rfl rfl | (apply ad.ij rfl rfl rfl;(case hm=>exact List.mem_append_right _ (.head _));(case hy=>rfl))):p:=h
def c8{p:Prop}(h:p:=by decide):p:=h
def kq{p:Prop}(h:p:=by exact List.Sublist.refl _):p:=h
def Kr{p:Prop}(h:p:=by have c7:=ya;have dP:=Uc (L:=hp kinds i) (k:=k) (x:=(eJ:Int)) ya;have dA:=Ud eJ c (by omega);simp only[List.length_map,List.length_append,List.length_singleton,List.length_cons,List.length_nil] at*;omega):p:=h
def e9{p:Prop}(h:p:=by exact rfl):p:=h
def gQ{p:Prop}(h:p:=by simpa using h):p:=h
def Be{p:Prop}(h:p:=by simp only[List.length_map,List.length_append,List.length_singleton,List.length_cons,List.length_nil] at*;omega):p:=h
def EL{p:Prop}(h:p:=by first | exact ad.ep (enc:=λn=>[ab.i n]) (l:=Y.kids) (i:=0) rfl rfl rfl rfl rfl ⟨by omega,by show (0:Int)<(Y.kids.length:Int);omega⟩):p:=h
def EM{p:Prop}(h:p:=by apply ad.ij rfl rfl rfl;(case hm=>repeat (first | exact .head _ | refine .tail _ ?_));(case hy=>exact ints_at (by rw[yb];exact dH))):p:=h
def Bf{p:Prop}(h:p:=by first | exact ad.fC rfl rfl rfl rfl rfl ⟨wg,Bg⟩ | exact ad.ep rfl rfl rfl rfl rfl ⟨wg,Bg⟩):p:=h
def Ks{p:Prop}(h:p:=by simp only[List.length_map,List.length_singleton] at*;have c7:=List.length_filterMap_le (λs=>(e1 (kR p c) s).map λn=>(s,n)) ((cu p c).take k);rw[List.length_take] at c7;omega):p:=h
def EN{p:Prop}(h:p:=by first | exact ad.cF rfl rfl rfl rfl | (apply ad.ij rfl rfl rfl;(case hm=>exact .tail _ (hm _ (.head _)));(case hy=>rfl))):p:=h
def EO{p:Prop}(h:p:=by first | exact ad.fC rfl rfl rfl rfl rfl (by rw[a1.oH];exact rH) | exact ad.ep rfl rfl rfl rfl rfl (by rw[a1.oH];exact rH)):p:=h
def cO{p:Prop}(h:p:=by rfl):p:=h
def nL{p:Prop}(h:p:=by rw[List.length_map];omega):p:=h
def Bh{p:Prop}(h:p:=by first | exact λ_=>rfl | exact λh=>h | (intro h;rw[h];rfl) | (intro h;simp_all)):p:=h
def Kt{p:Prop}(h:p:=by first | exact ad.call (.inv rfl rfl rfl (by kernel_rfl) rfl rfl) (Ue p (fu p x) Uf yc) | exact ad.call (.inv rfl rfl rfl (by kernel_rfl) rfl rfl) (Ug hq p (fu p x))):p:=h
def EP{p:Prop}(h:p:=by first | exact ad.fC rfl rfl rfl rfl rfl (by simpa using dH) | exact ad.ep rfl rfl rfl rfl rfl (by simpa using dH)):p:=h
def Ku{p:Prop}(h:p:=by simp only[List.length_map,List.length_append,List.length_singleton] at*;have c7:=List.length_filter_le (λx=>x.1==s) (I.take j);rw[List.length_take] at c7;omega):p:=h
def qp{p:Prop}(h:p:=by first | rfl | exact aw | simp_all):p:=h
def Kv{p:Prop}(h:p:=by have c7:=hJ;have dP:=je.1;simp only[List.length_map,List.length_singleton,List.length_take,List.length_cons,List.length_nil,qn,sS] at*;omega):p:=h
def Kw{p:Prop}(h:p:=by have c7:=List.length_filter_le (· !=x) (l.take i);simp only[List.length_map,List.length_take,List.length_singleton,List.length_cons,List.length_nil] at*;omega):p:=h
def Kx{p:Prop}(h:p:=by first | exact ad.rF rfl rfl rfl rfl | (apply ad.A6 rfl rfl rfl;(case hm=>exact List.mem_append_right _ (.tail _ (.head _)));(case hy=>rfl);(case hn=>rfl))):p:=h
def Ky{p:Prop}(h:p:=by obtain⟨a,b⟩:=x;obtain⟨c,d⟩:=y;revert af;cases a <;> cases b <;> cases c <;> cases d <;> first | (intro;rfl) | (intro h;exact absurd h (by decide))):p:=h
def ER{p:Prop}(h:p:=by subst wh;have:((i.bytes*n:Nat):Int)<=281474976710656:=(by omega);rwa [Int.natCast_mul] at this):p:=h
def ES{p:Prop}(h:p:=by apply ad.ij rfl rfl rfl;(case hm=>exact .tail _ (hu default).mem);(case hy=>exact Uh aQ more)):p:=h
def Kz{p:Prop}(h:p:=by first | exact ad.fC rfl rfl rfl rfl rfl ⟨by rw[da];omega,by rw[da];omega⟩ | exact ad.ep rfl rfl rfl rfl rfl ⟨by rw[da];omega,by rw[da];omega⟩):p:=h
def KA{p:Prop}(h:p:=by have c7:=List.length_filter_le p (l.take i);simp only[List.length_map,List.length_take,List.length_singleton,List.length_cons,List.length_nil] at*;omega):p:=h
def Bi{p:Prop}(h:p:=by have e:k=l.length:=(by omega);rw[e,List.take_length] at kr;exact kr):p:=h
def KB{p:Prop}(h:p:=by simp only[partsOf,List.zip,List.zipWith,List.map,List.length_map,List.length_append,List.length_take,List.length_cons,List.length_nil];omega):p:=h
def ET{p:Prop}(h:p:=by first | (rw[List.cons_append,List.append_assoc];exact List.Sublist.cons _ (List.Sublist.refl _))):p:=h
def oI{p:Prop}(h:p:=by rw[s.size];exact hn):p:=h
def EU{p:Prop}(h:p:=by rw[(nM aK).1,sT];unfold sU;rw[show ((m:Int)).toNat=m from rfl, <-da,ae]):p:=h
def KC{p:Prop}(h:p:=by first | exact ad.fC rfl rfl (cl aw) rfl (cl aw) ⟨by omega,by omega⟩ | exact ad.ep rfl rfl (cl aw) rfl (cl aw) ⟨by omega,by omega⟩):p:=h
def aj3{p:Prop}(h:p:=by simp at aw):p:=h
def Bj{p:Prop}(h:p:=by show -1000<=_/\_<=1000+(1:Int);simp only[mr];omega):p:=h
def KD{p:Prop}(h:p:=by first | exact ad.fC rfl rfl rfl rfl rfl (by rw[pt];exact a1) | exact ad.ep rfl rfl rfl rfl rfl (by rw[pt];exact a1)):p:=h
def KE{p:Prop}(h:p:=by first | exact ad.fC rfl rfl rfl rfl rfl (by rw[qn];exact aK) | exact ad.ep rfl rfl rfl rfl rfl (by rw[qn];exact aK)):p:=h
def KF{p:Prop}(h:p:=by rw[List.cons_append,List.cons_append,List.append_assoc];exact .cons _ (.cons _ (.append_left _ (List.perm_append_comm_assoc _ _ _)))):p:=h
def aj4{p:Prop}(h:p:=by rw[a1.oH];exact bT):p:=h
def EV{p:Prop}(h:p:=by have:=(yd (bJ l.f.arg (l.f.path.take j))).av;rw[<-wi] at this;simp;omega):p:=h
def ye{p:Prop}(h:p:=by have:=(EW xs 0 t y hy).2;simpa using this):p:=h
def KG{p:Prop}(h:p:=by first | exact ad.fC rfl rfl rfl rfl rfl (by rw[ks];exact bT) | exact ad.ep rfl rfl rfl rfl rfl (by rw[ks];exact bT)):p:=h
def KH{p:Prop}(h:p:=by first | exact ad.Bk rfl rfl rfl rfl rfl ⟨by omega,by omega⟩ | exact ad.Bl rfl rfl rfl rfl rfl ⟨by omega,by omega⟩):p:=h
def KI{p:Prop}(h:p:=by rintro _ aK;obtain⟨v,bd,rfl⟩:=List.mem_map.1 aK;rfl):p:=h
def KJ{p:Prop}(h:p:=by first | exact ad.fC rfl rfl rfl rfl rfl (by rw[sV];omega) | exact ad.ep rfl rfl rfl rfl rfl (by rw[sV];omega)):p:=h
def KK{p:Prop}(h:p:=by simp only[List.length_map,List.length_singleton,List.length_append,List.length_cons,List.length_nil] at*;omega):p:=h
def aj5{p:Prop}(h:p:=by simpa using bT):p:=h
def EX{p:Prop}(h:p:=by rw[show ((lM A j ||| 2^(c:Int).toNat:Nat):Int)=_ from rfl,wj]):p:=h
def KL{p:Prop}(h:p:=by show (0:Int)<(Y.kids.length:Int);omega):p:=h
def rI{p:Prop}(h:p:=by rw[s.size];exact a6):p:=h
def KM{p:Prop}(h:p:=by rw[List.map_map];exact List.all_eq_true.2 (by rintro _ aK;obtain⟨v,bd,rfl⟩:=List.mem_map.1 aK;rfl)):p:=h
def rJ{p:Prop}(h:p:=by simp only[gR];omega):p:=h
def m2{p:Prop}(h:p:=by simpa using ae):p:=h
def m3{p:Prop}(h:p:=by simpa using aQ):p:=h
def sW{p:Prop}(h:p:=by first | assumption | omega):p:=h
def KN{p:Prop}(h:p:=by first | exact ad.makeFunc rfl rfl rfl (by first | rfl | simp_all [strip]) (by first | rfl | simp_all [strip])):p:=h
def KO{p:Prop}(h:p:=by simp only[Bool.cond_true_left,Bool.not_eq_true',Bool.or_eq_false_iff,decide_eq_false_iff_not] at aw;omega):p:=h
def qq{p:Prop}(h:p:=by rw[hn];exact mu):p:=h
def Bm{p:Prop}(h:p:=by rw[List.length_append,List.length_singleton];omega):p:=h
def Bn{p:Prop}(h:p:=by rw[c2 (by omega)];exact List.take_prefix _ _):p:=h
def KP{p:Prop}(h:p:=by first | exact ad.lN rfl | exact ad.row rfl rfl (by first | rfl | simp_all [strip]) rfl rfl rfl rfl rfl):p:=h
def Bo{p:Prop}(h:p:=by have c7:=KQ (KR aH (KT p aw));omega):p:=h
def EY{p:Prop}(h:p:=by show List.length (List.map _ _)+1<=_;rw[List.length_map];omega):p:=h
def KU{p:Prop}(h:p:=by rw[Int.toNat_natCast];exact ui h (by have:=ck _ ao;omega)):p:=h
def wk{p:Prop}(h:p:=by simp_all [ik,KV] <;> rfl):p:=h
def Bq{p:Prop}(h:p:=by rw[List.length_take,Nat.min_eq_left (by omega)]):p:=h
def uj{p:Prop}(h:p:=by unfold gC rG;simp_all):p:=h
def KW{p:Prop}(h:p:=by first | exact ad.fC rfl rfl rfl rfl rfl (by omega) | exact ad.ep rfl rfl rfl rfl rfl (by omega)):p:=h
def KX{p:Prop}(h:p:=by rw[show 0+(j:Int).toNat*1=j by simp];exact Ui (by rw[qs bT];simpa using dH) _):p:=h
def KY{p:Prop}(h:p:=by first | exact ad.Bk rfl rfl rfl rfl rfl (by simp) | exact ad.Bl rfl rfl rfl rfl rfl (by simp)):p:=h
def Br{p:Prop}(h:p:=by rw[<-Array.length_toList,List.take_length]):p:=h
def EZ{p:Prop}(h:p:=by simp only[jf,Bool.and_eq_true,decide_eq_true_eq];omega):p:=h
def sX{p:Prop}(h:p:=by rw[beq_iff_eq];omega):p:=h
def E0{p:Prop}(h:p:=by simp only[List.length_append,List.length_take,aK.2];omega):p:=h
def KZ{p:Prop}(h:p:=by revert b8;cases fX (b9 p) <;> cases ((ej p.aE:Int)==p.av) <;> simp):p:=h
def pw{p:Prop}(h:p:=by rw[hn];decide):p:=h
def K0{p:Prop}(h:p:=by have c7:=Uj W c i;simp only[List.length_map,List.length_singleton] at*;omega):p:=h
def uk{p:Prop}(h:p:=by simp[m4,b8,a8,rK]):p:=h
def yf{p:Prop}(h:p:=by rw[EH];exact sat.size):p:=h
def oJ{p:Prop}(h:p:=by rw[jz];rfl):p:=h
def Bs{p:Prop}(h:p:=by simp only[Bool.cond_false_right];exact ae):p:=h
def K1{p:Prop}(h:p:=by rw[List.all_append,List.all_cons,List.all_nil,Bool.and_true,Bool.cond_false_right]):p:=h
def sY{p:Prop}(h:p:=by unfold maxLen;omega):p:=h
def E1{p:Prop}(h:p:=by rw[da];omega):p:=h
def K2{p:Prop}(h:p:=by simp only[Bool.cond_false_right,Bool.and_eq_true,decide_eq_true_eq] at wm;omega):p:=h
def Bt{p:Prop}(h:p:=by show (0:Int)<((3:Nat):Int);omega):p:=h
def Bu{p:Prop}(h:p:=by show (1:Int)<((3:Nat):Int);omega):p:=h
def yg{p:Prop}(h:p:=by simp[Act.eval,Array.replicate]):p:=h
def Bv{p:Prop}(h:p:=by rw[c2 (by omega)];exact qt ae):p:=h
def Bw{p:Prop}(h:p:=by have c7:=KQ (Uk p aw);omega):p:=h
def K3{p:Prop}(h:p:=by rw[h.bA];exact List.any_eq_true.2 ⟨l,br.1,by simp[kS,br.2,bb,hn]⟩):p:=h
def K4{p:Prop}(h:p:=by intro q cd;rcases q with _ | _ | _ | _ | _ | _ | q <;> first | rfl | (cases cd)):p:=h
def K5{p:Prop}(h:p:=by rcases um with⟨_,ao⟩ | ⟨ae,_⟩;exact ao;rw[hbb] at ae;cases ae):p:=h
def Bx{p:Prop}(h:p:=by have c7:=K6 (KT p aw);omega):p:=h
def K7{p:Prop}(h:p:=by show ((kt _).length+1)*80<=_;rw[oK,List.length_map];omega):p:=h
def K8{p:Prop}(h:p:=by have e:k=l.length:=(by omega);rw[e,List.take_length] at ck;exact ck):p:=h
def K9{p:Prop}(h:p:=by simp[execOp,h,Instr.alloc,newVar,newRow,zeroValue,typeInfo,rL,hz2]):p:=h
def E2{p:Prop}(h:p:=by rw[yb];exact dH):p:=h
def E3{p:Prop}(h:p:=by rw[List.length_map,List.length_map,h.pl,a1.oH]):p:=h
def La{p:Prop}(h:p:=by show (List.length (List.map _ _)+1)*8<=_;rw[List.length_map];omega):p:=h
def yh{p:Prop}(h:p:=by rw[put_defers];exact sat.ds):p:=h
def By{p:Prop}(h:p:=by simpa [or_assoc,and_assoc] using af):p:=h
def yi{p:Prop}(h:p:=by rw[List.length_take];omega):p:=h
def yj{p:Prop}(h:p:=by simp[execOp,h,uo]):p:=h
def uq{p:Prop}(h:p:=by rw[ur];exact bH):p:=h
def Bz{p:Prop}(h:p:=by simp only[gR];split <;> omega):p:=h
def aj6{p:Prop}(h:p:=by rw[a1.oH];exact rH):p:=h
def Lb{p:Prop}(h:p:=by simp[execOp,h,Instr.box,newVar,newRow]):p:=h
def BA{p:Prop}(h:p:=by simpa [Nat.blt] using a8):p:=h
def sZ{p:Prop}(h:p:=by simpa using ao):p:=h
def wo{p:Prop}(h:p:=by simpa using hw.base):p:=h
def s0{p:Prop}(h:p:=by rw[hn];rfl):p:=h
def BB{p:Prop}(h:p:=by first | decide | omega | simp):p:=h
def BC{p:Prop}(h:p:=by show (1:Int)<=1;omega):p:=h
def wq{p:Prop}(h:p:=by simp at aw;omega):p:=h
def BD{p:Prop}(h:p:=by rw[hL] at hbb;exact hbb):p:=h
def BE{p:Prop}(h:p:=by rw[h];simp[Op.operands]):p:=h
def yk{p:Prop}(h:p:=by simp[maxLen];omega):p:=h
def aj7{p:Prop}(h:p:=by rw[pt];exact a1):p:=h
def aj8{p:Prop}(h:p:=by rw[qn];exact aK):p:=h
def wu{p:Prop}(h:p:=by simpa using kT):p:=h
def aj9{p:Prop}(h:p:=by simpa using dH):p:=h
def rM{p:Prop}(h:p:=by simp[ae]):p:=h
def wv{p:Prop}(h:p:=by rw[h];simp):p:=h
def wx{p:Prop}(h:p:=by assumption):p:=h
def wy{p:Prop}(h:p:=by subst e;rfl):p:=h
def Ul{p:Prop}(h:p:=by rw[List.length_append,rN.1,yl,Nat.add_mul]):p:=h
end Go
namespace Go.Eng
abbrev cc:=List Oper
abbrev dg:=List Value
abbrev cW:=List Bool
abbrev dq:=List Nat
abbrev ak:=List Int
open Go.RowKit (Below)
inductive ab where
 | any
 | val (v:Value)
 | ai (k:Nat) (els:List (List ab))
 | as (x:ab) (v:Value)
 | opt (g:Bool) (x:ab)
 | agg (cs:List ab)
 | bk (xs:List ab)
 | fn (f:Fn) (first wz:List ab)
 | iface (t:TypeId) (x:ab)
 | ptr (cells:List ab)
 | fl
 | one
 deriving Inhabited
abbrev bl:=List ab
abbrev ab.i(n:Int):ab:=.val (.int .i64 n)
abbrev ab.b(x:Bool):ab:=.val (.bool x)
abbrev ab.p(b o:Nat):ab:=.val (.pointer (some ⟨b,o,none⟩))
abbrev cp:=Nat->Nat->Prop
mutual
inductive Rel(I:cp)(w:World):ab->Value->Prop
 | any (v:Value):Rel I w .any v
 | val (v:Value):Rel I w (.val v) v
 | dQ (k:Nat) (a:Option Addr) (c:Nat):Rel I w (.ai k []) (.slice a 0 c)
 | ai (k:Nat) (els:List (List ab)) (b off len cap:Nat) (br:els.length=len) (a1:len<=cap) (hm:cap<=maxLen) (h:fL I w k b off els):Rel I w (.ai k els) (.slice (some ⟨b,off,none⟩) len cap)
 | as (x:ab) (v:Value) (h:Rel I w x v):Rel I w (.as x v) v
 | opt (g:Bool) (x:ab) (v:Value) (h:g=true->Rel I w x v) (af:g=false->v=undef):Rel I w (.opt g x) v
 | agg (cs:List ab) (vs:Array Value) (h:bQ I w cs vs.toList):Rel I w (.agg cs) (.agg vs)
 | bk (cs:List ab) (vs:Array Value) (h:bQ I w cs vs.toList):Rel I w (.bk cs) (.tuple vs)
 | fn (f:Fn) (cz cs:List ab) (jA hr:Array Value) (b8:bQ I w cz jA.toList) (a1:bQ I w cs hr.toList):Rel I w (.fn f cz cs) (.func f jA hr)
 | iface (t:TypeId) (x:ab) (v:Value) (h:Rel I w x v):Rel I w (.iface t x) (.iface t v)
 | ptr (cs:List ab) (b o:Nat) (h:Cells I w b o cs):Rel I w (.ptr cs) (.pointer (some ⟨b,o,none⟩))
 | fl (a:Option Addr):Rel I w .fl (.slice a 0 0)
 | single (v:Value) (h:v.oneCell'=true):Rel I w .one v
inductive bQ(I:cp)(w:World):List ab->List Value->Prop
 | nil:bQ I w [] []
 | cons (x:ab) (v:Value) (xs:List ab) (vs:List Value) (h:Rel I w x v) (t:bQ I w xs vs):bQ I w (x::xs) (v::vs)
inductive Cells(I:cp)(w:World):Nat->Nat->List ab->Prop
 | nil (b o:Nat):Cells I w b o []
 | cons (b o:Nat) (x:ab) (c:Value) (xs:List ab) (a1:w.cell? ⟨b,o,none⟩=some c) (je:I b o) (h:Rel I w x c) (t:Cells I w b (o+1) xs):Cells I w b o (x::xs)
inductive fL(I:cp)(w:World):Nat->Nat->Nat->List (List ab)->Prop
 | nil (k b o:Nat):fL I w k b o []
 | cons (k b o:Nat) (cs:List ab) (rest:List (List ab)) (bD:cs.length=k) (h:Cells I w b o cs) (t:fL I w k b (o+k) rest):fL I w k b o (cs::rest)
end
structure Ext(B:Nat)(I:cp)(w:World)(c3:cp)(w':World):Prop where
 il:∀b o,I b o->c3 b o
 cell:∀b o,I b o->w'.cell? ⟨b,o,none⟩=w.cell? ⟨b,o,none⟩
 below:Below B w w'
def Ext.refl(B)(I)(w):Ext B I w I w:=⟨λ_ _ h=>h,λ_ _ _=>rfl,Below.refl _ _⟩
def Ext.trans{B}{I J K}{w w' a}(h:Ext B I w J w')(c:Ext B J w' K a):Ext B I w K a:=
 ⟨λb o x=>c.il b o (h.il b o x),λb o x=>(c.cell b o (h.il b o x)).trans (h.cell b o x),h.below.trans c.below⟩
def Ext.drew{B}{I J}{w w'}(h:Ext B I w J w'):Ext B I w J w'.drew:=⟨h.il,h.cell,h.below.drew⟩
structure er(I:cp)(w:World)(c3:cp)(w':World):Prop where
 il:∀b o,I b o->c3 b o
 cell:∀b o,I b o->w'.cell? ⟨b,o,none⟩=w.cell? ⟨b,o,none⟩
def Ext.keeps{B}{I J}{w w'}(h:Ext B I w J w'):er I w J w':=⟨h.il,h.cell⟩
mutual
theorem Rel.bs{I A}{w w'}(h:er I w A w'):∀{x:ab} {v:Value},Rel I w x v->Rel A w' x v
 | _,_,.any v=>.any v
 | _,_,.val v=>.val v
 | _,_,.dQ k a c=>.dQ k a c
 | _,_,.ai k els b z len s q m B H=>.ai k els b z len s q m B (.bs h H)
 | _,_,.as x v l=>.as x v (.bs h l)
 | _,_,.opt g x v l D=>.opt g x v (λe=>.bs h (l e)) D
 | _,_,.agg j r q=>.agg j r (.bs h q)
 | _,_,.bk j r q=>.bk j r (.bs h q)
 | _,_,.fn f F j C E G m=>.fn f F j C E (.bs h G) (.bs h m)
 | _,_,.iface t x v l=>.iface t x v (.bs h l)
 | _,_,.ptr j b o m=>.ptr j b o (.bs h m)
 | _,_,.fl a=>.fl a
 | _,_,.single v h=>.single v h
theorem bQ.bs{I f}{w w'}(h:er I w f w'):∀{a:bl} {c:dg},bQ I w a c->bQ f w' a c
 | _,_,.nil=>.nil
 | _,_,.cons x v a c g j=>.cons x v a c (.bs h g) (.bs h j)
theorem Cells.bs{I g}{w w'}(h:er I w g w'):∀{b o:Nat} {a:bl},Cells I w b o a->Cells g w' b o a
 | _,_,_,.nil b o=>.nil b o
 | _,_,_,.cons b o x c a l f j m=>.cons b o x c a ((h.cell b o f).trans l) (h.il b o f) (.bs h j) (.bs h m)
theorem fL.bs{I c}{w w'}(h:er I w c w'):∀{k b o:Nat} {xs:List bl},fL I w k b o xs->fL c w' k b o xs
 | _,_,_,_,.nil k b o=>.nil k b o
 | _,_,_,_,.cons k b o j a g f l=>.cons k b o j a g (.bs h f) (.bs h l)
end
theorem bQ.length{I}{w}:∀{a:bl} {vs:dg},bQ I w a vs->vs.length=a.length
 | _,_,.nil=>rfl
 | _,_,.cons _ _ _ _ _ t=>by simp[bQ.length t]
theorem bQ.get{I}{w}:∀{c:bl} {a:dg},bQ I w c a->∀{i:Nat} {x:ab},c[i]? =some x->∃v,a[i]? =some v/\Rel I w x v
 | _,_,.nil,_,_,h=>by simp at h
 | _,_,.cons x v c a f g,0,y,h=>⟨v,aS,by simp at h;exact h▸f⟩
 | _,_,.cons x v c a f g,i+1,y,h=>by
  obtain⟨u,ae,j⟩:=g.get (i:=i) (x:=y) gQ;exact⟨u,m2,j⟩
theorem Cells.get{I}{w}:∀{b o:Nat} {a:bl},Cells I w b o a->∀{i:Nat} {x:ab},a[i]? =some x->∃c,w.cell? ⟨b,o+i,none⟩=some c/\I b (o+i)/\Rel I w x c
 | _,_,_,.nil _ _,_,_,h=>by simp at h
 | _,_,_,.cons b o x c a g j f l,0,y,h=>⟨c,by simpa using g,by simpa using j,by simp at h;exact h▸f⟩
 | _,_,_,.cons b o x c a g j f l,i+1,y,h=>by
  obtain⟨u,q,m,r⟩:=l.get (i:=i) (x:=y) gQ;refine⟨u,?_,?_,r⟩
  ·rw[<-q];congr 2;omega
  ·have:o+(i+1)=o+1+i:=by omega
   rw[this];exact m
theorem Cells.drop{I}{w}:∀(i:Nat) {b o:Nat} {a:bl},Cells I w b o a->Cells I w b (o+i) (a.drop i)
 | 0,_,_,_,h=>h
 | i+1,_,_,_,.nil b o=>.nil b _
 | i+1,_,_,_,.cons b o x c a j l g f=>by
  have:=Cells.drop i f;have e:o+(i+1)=o+1+i:=by omega
  rw[e];exact this
theorem Cells.take{I}{w}:∀(i:Nat) {b o:Nat} {a:bl},Cells I w b o a->Cells I w b o (a.take i)
 | 0,_,_,_,_=>.nil _ _
 | i+1,_,_,_,.nil b o=>.nil b o
 | i+1,_,_,_,.cons b o x c a g h f j=>.cons b o x c _ g h f (.take i j)
theorem Cells.append{I}{w}:∀{b o:Nat} {a f:bl},Cells I w b o a->Cells I w b (o+a.length) f->Cells I w b o (a++f)
 | _,_,_,_,.nil b o,h=>by simpa using h
 | _,_,_,f,.cons b o x c a j l g m,h=>by
  refine .cons b o x c _ j l g (.append m ?_);have e:o+(x::a).length=o+1+a.length:=by simp;omega
  rw[<-e];exact h
theorem fL.get{I}{w}:∀{k b o:Nat} {xs:List bl},fL I w k b o xs->∀{i:Nat} {cs:bl},xs[i]? =some cs->cs.length=k/\Cells I w b (o+i*k) cs
 | _,_,_,_,.nil _ _ _,_,_,h=>by simp at h
 | _,_,_,_,.cons k b o cs a f c g,0,y,h=>by simp at h;subst h;exact⟨f,by simpa using c⟩
 | _,_,_,_,.cons k b o cs a f c g,i+1,y,h=>by
  obtain⟨l,j⟩:=g.get (i:=i) (cs:=y) gQ;refine⟨l,?_⟩;have e:o+(i+1)*k=o+k+i*k:=by rw[Nat.add_mul];omega
  rw[e];exact j
theorem fL.drop{I}{w}:∀(i:Nat) {k b o:Nat} {xs:List bl},fL I w k b o xs->fL I w k b (o+i*k) (xs.drop i)
 | 0,_,_,_,_,h=>by simpa using h
 | i+1,_,_,_,_,.nil k b o=>.nil _ _ _
 | i+1,_,_,_,_,.cons k b o j a g f c=>by
  have:=fL.drop i c;have e:o+(i+1)*k=o+k+i*k:=by rw[Nat.add_mul];omega
  rw[e];exact this
theorem fL.take{I}{w}:∀(i:Nat) {k b o:Nat} {xs:List bl},fL I w k b o xs->fL I w k b o (xs.take i)
 | 0,_,_,_,_,_=>.nil _ _ _
 | i+1,_,_,_,_,.nil k b o=>.nil _ _ _
 | i+1,_,_,_,_,.cons k b o g a c f h=>.cons k b o g _ c f (.take i h)
theorem fL.append{I}{w}:∀{k b o:Nat} {xs c:List bl},fL I w k b o xs->fL I w k b (o+xs.length*k) c->fL I w k b o (xs++c)
 | _,_,_,_,_,.nil k b o,h=>by simpa using h
 | _,_,_,_,c,.cons k b o f a j g l,h=>by
  refine .cons k b o f _ j g (.append l ?_);have e:o+(f::a).length*k=o+k+a.length*k:=by rw[List.length_cons,Nat.add_mul];omega
  rw[<-e];exact h
theorem fL.cells{I}{w}:∀{k b o:Nat} {xs:List bl},fL I w k b o xs->Cells I w b o xs.flatten
 | _,_,_,_,.nil k b o=>.nil _ _
 | _,_,_,_,.cons k b o h a f c g=>by
  rw[List.flatten_cons];exact .append c (by rw[f];exact g.cells)
theorem fL.Lc{I}{w}:∀{k b o:Nat} {xs:List bl},fL I w k b o xs->xs.flatten.length=xs.length*k
 | _,_,_,_,.nil k b o=>by simp
 | _,_,_,_,.cons k b o h a c g f=>by rw[List.flatten_cons,List.length_append,f.Lc,c,List.length_cons,Nat.add_mul];omega
theorem Cells.values{I}{w}:∀{b o:Nat} {f:bl},Cells I w b o f->∃a:dg,bQ I w f a/\∀j v,a[j]? =some v->w.cell? ⟨b,o+j,none⟩=some v
 | _,_,_,.nil b o=>⟨[],.nil,aS⟩
 | _,_,_,.cons b o x c f l s g r=>by
  obtain⟨a,q,m⟩:=r.values;refine⟨c::a,.cons _ _ _ _ g q,λj v h=>?_⟩;cases j with
  | zero=>simp at h;subst h;simpa using l
  | succ j=>
   have:=m j v gQ;have e:o+(j+1)=o+1+j:=by omega
   rw[e];exact this
inductive bn where
 | au (b:Nat) (t:TypeId) (cs:List ab)
 | own (t:TypeId) (k:Nat) (v:Value)
 | row (t:TypeId) (k:Nat) (v:Value) (n:Nat) (cs:List ab)
 | obj (b:Nat) (o:Obj)
 | map (b:Nat) (es:List (Value×ab))
 | loop (b:Nat) (fD:Loop) (ρ:Nat->Option ab)
 | lmap (b:Nat) (nN:Value->Prop) (κ:Value->List ab) (d:List ab)
 | gm (b:Nat) (nN:Value->Prop) (κ:Value->ab)
 deriving Inhabited
abbrev aA:=List bn
def bn.dY:bn->Option Nat
 | .au b _ _=>some b
 | .own _ _ v=>v.ownBlock
 | .row _ _ v _ _=>v.ownBlock
 | .obj b _=>some b
 | .map b _=>some b
 | .loop b _ _=>some b
 | .lmap b _ _ _=>some b
 | .gm b _ _=>some b
def bn.ok(B:Nat)(I:cp)(w:World):bn->Prop
 | .au b t cs=>B<=b/\∃vs:Array Value,w.heap[b]? =some (.cells vs t (0,0))/\bQ I w cs vs.toList/\∀o,¬I b o
 | .own t k v=>∃n xs,w.ownsRow B t k v n xs/\∀g,v.ownBlock=some g->∀o,n*k<=o->¬I g o
 | .row t k v n cs=>∃xs,w.ownsRow B t k v n xs/\bQ I w cs xs/\∀g,v.ownBlock=some g->∀o,¬I g o
 | .obj b dF=>B<=b/\w.heap[b]? =some dF/\∀o,¬I b o
 | .map b es=>B<=b/\(∃(entries:Array MapEntry) (clock:Nat),w.heap[b]? =some (.map entries clock)/\entries.toList.map (·.key)=es.map (·.1)/\bQ I w (es.map (·.2)) (entries.toList.map (·.val)))/\∀o,¬I b o
 | .lmap b nN κ d=>B<=b/\(∃(entries:Array MapEntry) (clock:Nat),w.heap[b]? =some (.map entries clock)/\(∀e∈entries.toList,nN e.key/\Rel I w (.ptr (κ e.key)) e.val)/\∀v,nN v->(∀e∈entries.toList,e.key≠v)->κ v=d)/\∀o,¬I b o
 | .gm b nN κ=>B<=b/\(∃(entries:Array MapEntry) (clock:Nat),w.heap[b]? =some (.map entries clock)/\∀e∈entries.toList,nN e.key/\Rel I w (κ e.key) e.val)/\∀o,¬I b o
 | .loop b fD ρ=>B<=b/\w.heap[b]? =some (.loop fD)/\(∀t x,ρ t=some x->Rel I w x (fD.tmps.getD t undef))/\∀o,¬I b o
structure a7(B:Nat)(I:cp)(w:World)(H:aA):Prop where
 ok:∀e∈H,e.ok B I w
 apart:H.Pairwise λe f=>∀b,e.dY=some b->f.dY≠some b
structure bV(B:Nat)(I:cp)(w:World):Prop where
 base:B<=w.heap.size
 there:∀b o,I b o->∃c,w.cell? ⟨b,o,none⟩=some c
def bV.lt{B}{I}{w}(h:bV B I w){b o}(g:I b o):b<w.heap.size:=by
 obtain⟨c,f⟩:=h.there b o g;exact World.block_lt_of_cell? (a:=⟨b,o,none⟩) w f
def bV.drew{B}{I}{w}(h:bV B I w):bV B I w.drew:=⟨h.base,h.there⟩
def bn.lO{B}{I}{w}{e:bn}(h:e.ok B I w){b:Nat}(a:e.dY=some b):B<=b/\b<w.heap.size:=by
 cases e with
 | au j t q=>
  obtain⟨c,vs,f,_⟩:=h;simp[bn.dY] at a;subst a;exact⟨c,(Array.getElem?_eq_some_iff.1 f).1⟩
 | own t k v=>
  obtain⟨n,xs,c,_⟩:=h;exact c.lt b a
 | row t k v n q=>
  obtain⟨xs,c,_⟩:=h;exact c.lt b a
 | obj j o=>
  simp[bn.dY] at a;subst a;exact⟨h.1,(Array.getElem?_eq_some_iff.1 h.2.1).1⟩
 | map j z=>
  simp[bn.dY] at a;subst a;obtain⟨c,⟨cq,dr,f,_⟩,_⟩:=h;exact⟨c,(Array.getElem?_eq_some_iff.1 f).1⟩
 | loop j fD ρ=>
  simp[bn.dY] at a;subst a;exact⟨h.1,(Array.getElem?_eq_some_iff.1 h.2.1).1⟩
 | lmap j g κ d=>
  simp[bn.dY] at a;subst a;obtain⟨c,⟨cq,dr,f,_⟩,_⟩:=h;exact⟨c,(Array.getElem?_eq_some_iff.1 f).1⟩
 | gm j g κ=>
  simp[bn.dY] at a;subst a;obtain⟨c,⟨cq,dr,f,_⟩,_⟩:=h;exact⟨c,(Array.getElem?_eq_some_iff.1 f).1⟩
def a7.nil{B}{I}{w}:a7 B I w []:=⟨aS,.nil⟩
def a7.tail{B}{I}{w}{e}{H}(h:a7 B I w (e::H)):a7 B I w H:=
 ⟨λx a=>h.ok x (.tail _ a),(List.pairwise_cons.1 h.apart).2⟩
def a7.sub{B}{I}{w}{H H'}(h:a7 B I w H)(a:H'.Sublist H):a7 B I w H':=
 ⟨λx c=>h.ok x (a.subset c),h.apart.sublist a⟩
def bn.bs{B}{I M}{w w'}{e:bn}(h:e.ok B I w)(bD:er I w M w')(m:∀b,e.dY=some b->w'.heap[b]? =w.heap[b]?)
  (aQ:∀b,e.dY=some b->∀o,M b o->I b o):e.ok B M w':=by
 cases e with
 | au b t T=>
  obtain⟨c,vs,f,l,G⟩:=h;exact⟨c,vs,(m b rfl).trans f,l.bs bD,λo bb=>G o (aQ b rfl o bb)⟩
 | own t k v=>
  obtain⟨n,xs,c,f⟩:=h;refine⟨n,xs,?_,λg F o bb L=>f g F o bb (aQ g F o L)⟩;refine⟨c.1,?_⟩;rcases c.2 with hn | ⟨g,r,s,rfl,A,E4,rest⟩
  ·exact .inl hn
  ·exact .inr ⟨g,r,s,rfl,A,(m g rfl).trans E4,rest⟩
 | row t k v n T=>
  obtain⟨xs,c,bH,f⟩:=h;refine⟨xs,?_,bH.bs bD,λg F o L=>f g F o (aQ g F o L)⟩;refine⟨c.1,?_⟩;rcases c.2 with hn | ⟨g,r,s,rfl,A,E4,rest⟩
  ·exact .inl hn
  ·exact .inr ⟨g,r,s,rfl,A,(m g rfl).trans E4,rest⟩
 | obj b o=>exact⟨h.1,(m b rfl).trans h.2.1,λo' bb=>h.2.2 o' (aQ b rfl o' bb)⟩
 | map b W=>
  obtain⟨c,⟨cq,dr,f,l,G⟩,E⟩:=h;exact⟨c,⟨cq,dr,(m b rfl).trans f,l,G.bs bD⟩,λo bb=>E o (aQ b rfl o bb)⟩
 | lmap b D κ d=>
  obtain⟨c,⟨cq,dr,f,l,G⟩,E⟩:=h;exact⟨c,⟨cq,dr,(m b rfl).trans f,λe H=>⟨(l e H).1,(l e H).2.bs bD⟩,G⟩,λo bb=>E o (aQ b rfl o bb)⟩
 | gm b D κ=>
  obtain⟨c,⟨cq,dr,f,l⟩,E⟩:=h;exact⟨c,⟨cq,dr,(m b rfl).trans f,λe H=>⟨(l e H).1,(l e H).2.bs bD⟩⟩,λo bb=>E o (aQ b rfl o bb)⟩
 | loop b fD ρ=>exact⟨h.1,(m b rfl).trans h.2.1,λt x ht=>(h.2.2.1 t x ht).bs bD,λo' bb=>h.2.2.2 o' (aQ b rfl o' bb)⟩
def a7.bs{B}{I a}{w w'}{H}(h:a7 B I w H)(f:er I w a w')(g:∀e∈H,∀b,e.dY=some b->w'.heap[b]? =w.heap[b]?)
  (j:∀e∈H,∀b,e.dY=some b->∀o,a b o->I b o):a7 B a w' H:=
 ⟨λe c=>bn.bs (h.ok e c) f (g e c) (j e c),h.apart⟩
def a7.drew{B}{I}{w}{H}(h:a7 B I w H):a7 B I w.drew H:=
 h.bs ⟨λ_ _ x=>x,λ_ _ _=>rfl⟩ (λ_ _ _ _=>rfl) λ_ _ _ _ _ x=>x
def lP{B}{I}{w}(h:bV B I w)(o):er I w I (w.alloc o):=
 ⟨λ_ _ x=>x,λb i x=>World.cell?_alloc_lt w o ⟨b,i,none⟩ (h.lt x)⟩
def jB{B}{I}{w}(h:bV B I w)(o):Ext B I w I (w.alloc o):=
 ⟨λ_ _ x=>x,λb i x=>World.cell?_alloc_lt w o ⟨b,i,none⟩ (h.lt x),(Below.refl _ _).alloc h.base o⟩
def bV.alloc{B}{I}{w}(h:bV B I w)(o):bV B I (w.alloc o):=
 ⟨by have:=h.base;simp;omega,λb i x=>by rw[(lP h o).cell b i x];exact h.there b i x⟩
def a7.alloc{B}{I}{w}{H}(h:a7 B I w H)(c:bV B I w)(o):a7 B I (w.alloc o) H:=
 h.bs (lP c o) (λe f b a=>Below.heap_alloc w o b (bn.lO (h.ok e f) a).2) λ_ _ _ _ _ x=>x
def a7.new{B}{I}{w}{H}(h:a7 B I w H)(a:bV B I w)(t)(cs)(vs)(o:bQ I w cs vs.toList):
  a7 B I (w.alloc (.cells vs t)) (.au w.heap.size t cs::H):=by
 have j:=h.alloc a (.cells vs t);refine⟨λe c=>?_,List.pairwise_cons.2 ⟨λf m b g=>?_,j.apart⟩⟩
 ·rcases List.mem_cons.1 c with rfl | c
  ·refine⟨a.base,vs,heap_alloc_new w _,o.bs (lP a _),λo l=>?_⟩;exact absurd (a.lt l) (Nat.lt_irrefl _)
  ·exact j.ok e c
 ·simp[bn.dY] at g;subst g;intro e;exact absurd (bn.lO (h.ok f m) e).2 (Nat.lt_irrefl _)
def cp.add(I:cp)(b:Nat)(n:Nat):cp:=λdI o=>I dI o\/(dI=b/\o<n)
def cp.uu{B}{I}{w}(z:bV B I w)(t)(vs):
  bV B (I.add w.heap.size vs.size) (w.alloc (.cells vs t))/\Ext B I w (I.add w.heap.size vs.size) (w.alloc (.cells vs t))/\
  (∀H,a7 B I w H->a7 B (I.add w.heap.size vs.size) (w.alloc (.cells vs t)) H)/\
  (∀xs:bl,bQ I w xs vs.toList->Cells (I.add w.heap.size vs.size) (w.alloc (.cells vs t)) w.heap.size 0 xs):=by
 have e:=jB z (.cells vs t);have k:er I w (I.add w.heap.size vs.size) (w.alloc (.cells vs t)):=⟨λ_ _ x=>.inl x,e.cell⟩;refine⟨⟨(z.alloc _).base,λb o h=>?_⟩,⟨k.il,k.cell,e.below⟩,λH h=>?_,λxs h=>?_⟩
 ·rcases h with h | ⟨rfl,h⟩
  ·exact (z.alloc _).there b o h
  ·exact⟨vs[o],by rw[World.cell?_alloc_new];exact Array.getElem?_eq_getElem h⟩
 ·refine h.bs k (λe K b q=>Below.heap_alloc w _ b (bn.lO (h.ok e K) q).2) λf E b q o g=>?_;rcases g with g | ⟨rfl,_⟩
  ·exact g
  ·exact absurd (bn.lO (h.ok f E) q).2 (Nat.lt_irrefl _)
 ·have m:∀(a:bl) (c:dg) (o:Nat),bQ I w a c->c=vs.toList.drop o->Cells (I.add w.heap.size vs.size) (w.alloc (.cells vs t)) w.heap.size o a:=by
   intro a
   induction a with
   | nil=>intro c o _ _;exact .nil _ _
   | cons y a F=>
    intro c o G C;cases G with
    | cons _ v _ s D J=>
     have A:vs.toList[o]? =some v:=by
      have:=congrArg (λl=>l[0]?) C;simpa using this.symm
     have r:o<vs.size:=by
      have:=(List.getElem?_eq_some_iff.1 A).1;simpa using this
     refine .cons _ _ _ v _ ?_ (.inr ⟨rfl,r⟩) (D.bs k) (F s (o+1) J ?_)
     ·rw[World.cell?_alloc_new];simpa using A
     ·have:=congrArg List.tail C;simpa [List.tail_drop] using this
  exact m xs vs.toList 0 h aS
def bt(r:Option Nat):Fence:={fn:=λ_=>True,depth:=none,alive:=false,round:=r}
def E5{r}{n}{P}{f}{args}{w}{R}(h:Calls P f args w R):CallsIn (bt r) n P f args w R:=
 (callsIn_wide (n:=n)).2 h
def uv{n}{P}{f}{args}{w}{R}(h:CallsIn (bt none) n P f args w R):Calls P f args w R:=
 (callsIn_wide (n:=n)).1 h
def aD:List (Nat×ab)->Nat->Option ab
 | [],_=>none
 | (s,x)::r,t=>bif Nat.beq t s then some x else aD r t
def kU(s)(x)(r)(t:Nat):aD ((s,x)::r) t=if t=s then some x else aD r t:=by
 simp only[aD];by_cases h:t=s
 ·subst h;simp
 ·have a:Nat.beq t s=false:=by
   rw[Bool.eq_false_iff];intro e;exact h (Nat.eq_of_beq_eq_true e)
  simp[h,a]
def iK(dst:Option Nat)(x:ab)(env:List (Nat×ab)):List (Nat×ab):=
 match dst with
 | some d=>(d,x)::env
 | none=>env
def ix(n:Nat):Option Nat->Bool
 | some d=>Nat.blt d n
 | none=>true
def EE:Value->ab
 | .agg vs=>.agg (vs.toList.map .val)
 | v=>.val v
theorem lj{I}{w}:∀l:dg,bQ I w (l.map .val) l
 | []=>.nil
 | v::r=>.cons _ _ _ _ (.val v) (lj r)
def E6{I}{w}(v):Rel I w (EE v) v:=by
 cases v <;> first | exact .val _ | exact .agg _ _ (lj _)
def iL(ρ:Nat->Option ab):Operand->Option ab
 | .tmp t=>ρ t
 | .const v=>some (EE v)
 | .global g=>some (.val (.pointer (some ⟨g,0,none⟩)))
 | .func f=>some (.fn (.func f) [] [])
def strip:ab->Bool×ab
 | .opt g x=>(g,x)
 | x=>(true,x)
def aN(ρ:Nat->Option ab)(x:Operand):Option (Bool×ab):=(iL ρ x).map strip
def jg(ρ:Nat->Option ab):List Operand->Option (List (Bool×ab))
 | []=>some []
 | x::r=>match aN ρ x,jg ρ r with
  | some y,some l=>some (y::l)
  | _,_=>none
def fM(I:cp)(w:World)(ρ:Nat->Option ab)(a:Act):Prop:=∀t x,ρ t=some x->Rel I w x (a.tmps.getD t undef)
def fm(I:cp)(w:World)(ρ:Nat->Option ab)(a:Act)(o:Oper):Prop:=∀x∈o.op.operands,∀y,iL ρ x=some y->Rel I w y (a.eval x)
def fM.eval{I}{w}{ρ}{a}(h:fM I w ρ a){x}{y}(aK:iL ρ x=some y):Rel I w y (a.eval x):=by
 cases x with
 | tmp t=>exact h t y aK
 | const v=>simp[iL] at aK;subst aK;exact E6 v
 | global g=>simp[iL] at aK;subst aK;exact .val _
 | func f=>simp[iL] at aK;subst aK;exact .fn _ _ _ _ _ .nil .nil
def fM.ops{I}{w}{ρ}{a}(h:fM I w ρ a)(o):fm I w ρ a o:=λ_ _ _ c=>h.eval c
def fM.bs{I c}{w w'}{ρ}{a}(h:fM I w ρ a)(k:er I w c w'):fM c w' ρ a:=λt x f=>(h t x f).bs k
def Ld{I}{w}{x y}{g}{v}(h:Rel I w x v)(a:strip x=(g,y))(f:g=true):Rel I w y v:=by
 cases x with
 | opt j z=>simp[strip] at a;obtain⟨rfl,rfl⟩:=a;cases h with | opt _ _ _ h _=>exact h f
 | _=>simp[strip] at a;obtain⟨_,rfl⟩:=a;exact h
def fm.get{I}{w}{ρ}{a}{o}(h:fm I w ρ a o){x}(hm:x∈o.op.operands){y}{g}(c:aN ρ x=some (g,y))(f:g=true):Rel I w y (a.eval x):=by
 unfold aN at c;cases he:iL ρ x with
 | none=>simp[he] at c
 | some z=>simp[he] at c;exact Ld (h x hm z he) c f
def s3{I}{w}{ρ}{a}{o}(h:fm I w ρ a o):∀(l:List Operand) (f:List (Bool×ab)),(∀x∈l,x∈o.op.operands)->jg ρ l=some f->
  (∀y∈f,y.1=true)->bQ I w (f.map (·.2)) (l.map a.eval)
 | [],f,_,c,_=>by simp[jg] at c;subst c;exact .nil
 | x::r,f,m,c,q=>by
  simp[jg] at c;split at c
  ·rename_i y l s t;simp at c;subst c;exact .cons _ _ _ _ (h.get (m x aS) (y:=y.2) (g:=y.1) s (q y aS)) (s3 h r l (λz j=>m z (by simp[j])) t (λz j=>q z (by simp[j])))
  ·cases c
def dt(P:Program)(r:Option Nat)(o:Oper)(a:Act)(w:World)(R:Value->World->Prop)(E:List PanicEntry->World->Prop):Prop:=
 ∀(K:Act->World->Prop) (Q:Exit->Act->World->Prop),(∀v w',R v w'->K (a.put o.dst v) w')->(∀ch w',E ch w'->Q (.panic ch) a w')->o.wpIn (bt r) 0 P a w K Q
section
variable{P:Program}{r:Option Nat}{o:Oper}{a:Act}{w w':World}{R:Value->World->Prop}{E:List PanicEntry->World->Prop}
def dt.mono{g}{j}(h:dt P r o a w R E)(hR:∀v f,R v f->g v f)(m:∀c f,E c f->j c f):dt P r o a w g j:=
 λK Q l q=>h K Q (λv f x=>l v f (hR v f x)) (λv f x=>q v f (m v f x))
def dt.e3{v}(f:∀c,o.op≠ .defer c)(h:(execOp a.eval o).run P w= .ok (.value v) w')(hR:R v w'):dt P r o a w R E:=by
 intro K Q g _;refine⟨λ_ _=>trivial,?_⟩;rw[Oper.semAt_eq _ _ _ f,h];exact g v w' hR
def dt.uw(f:∀c,o.op≠ .defer c)(h:(execOp a.eval o).run P w= .ok .skip w')(hR:R undef w'):dt P r o a w R E:=by
 intro K Q g _;refine⟨λ_ _=>trivial,?_⟩;rw[Oper.semAt_eq _ _ _ f,h];exact g undef w' hR
def dt.Um{v}(f:∀c,o.op≠ .defer c)(h:(execOp a.eval o).run P w= .halt (.panic v) w')(j:E [{v,recovered:=false}] w'):dt P r o a w R E:=by
 intro K Q _ g;refine⟨λ_ _=>trivial,?_⟩;rw[Oper.semAt_eq _ _ _ f,h];exact g _ w' j
def dt.qu{f}{args}(x:∀c,o.op≠ .defer c)(h:(execOp a.eval o).run P w= .ok (.enter f args) w')
  (t:Calls P f args w' λe jW=>match e with | .returned v=>R v jW | .panicked c=>E c jW | .outgrown=>False):dt P r o a w R E:=by
 intro K Q s z;refine⟨λ_ _=>trivial,?_⟩;rw[Oper.semAt_eq _ _ _ x,h,Oper.uponIn_enter];refine⟨λh=>by simp[bt] at h,E5 (t.mono λe jW h=>?_)⟩;cases e with
 | returned v=>exact s v jW h
 | panicked c=>exact z c jW h
 | outgrown=>exact h.elim
def dt.Le{l}{f}{tmps}{assign j}(a6:∀c,o.op≠ .defer c)(h:(execOp a.eval o).run P w= .ok (.round l f tmps assign j) w')
  (z:RoundIn (bt r) 0 P l f tmps assign j w' λe jW=>match e with | .returned v=>R v jW | .panicked c=>E c jW | .outgrown=>False):dt P r o a w R E:=by
 intro K Q x B;refine⟨λ_ _=>trivial,?_⟩;rw[Oper.semAt_eq _ _ _ a6,h,Oper.uponIn_round];refine⟨λh=>by simp[bt] at h,z.mono λe jW h=>?_⟩;cases e with
 | returned v=>exact x v jW h
 | panicked c=>exact B c jW h
 | outgrown=>exact h.elim
end
def ad(P:Program)(H:aA)(ρ:Nat->Option ab)(o:Oper)(x:ab):Prop:=
 ∀(B:Nat) (I:cp) (w:World) (r:Option Nat) (a:Act) (m5:aA),bV B I w->a7 B I w m5->(∀e∈H,e∈m5)->fm I w ρ a o->
  dt P r o a w (λv w'=>∃c3,bV B c3 w'/\Ext B I w c3 w'/\a7 B c3 w' m5/\Rel c3 w' x v) (λ_ _=>False)
structure Ctx where
 B:Nat
 c5:cp
 bW:World
 n:Nat
 ds:List Deferred
structure dU where
 env:List (Nat×ab)
 H:aA
structure Sat(c:Ctx)(st:dU)(a:Act)(w:World):Prop where
 ds:a.defers=c.ds
 size:a.tmps.size=c.n
 mem:∃I,bV c.B I w/\Ext c.B c.c5 c.bW I w/\a7 c.B I w st.H/\fM I w (aD st.env) a
def aj(c:Ctx)(r:Option Nat)(P:Program)(ops:Array Oper)(l:cc)(st:dU)(Q:Exit->Act->World->Prop):Prop:=
 ∀a w,Sat c st a w->wpListIn (bt r) 0 P ops Q l a w
def aB(c:Ctx)(r:Option Nat)(P:Program)(code:Code)(st:dU)(Q:Exit->Act->World->Prop):Prop:=
 ∀a w,Sat c st a w->code.wpIn (bt r) 0 P Q a w
def aZ(c:Ctx)(st:dU)(e:Exit)(Q:Exit->Act->World->Prop):Prop:=∀a w,Sat c st a w->Q e a w
def px{a:Act}{d}{v}(h:d<a.tmps.size):(a.put (some d) v).tmps.getD d undef=v:=by
 simp[Act.put,Array.getD,h]
def lk{a:Act}{d t}{v}(h:t≠d):(a.put (some d) v).tmps.getD t undef=a.tmps.getD t undef:=by
 simp[Act.put,Array.getD_eq_getD_getElem?];rw[Array.getElem?_setIfInBounds_ne (Ne.symm h)]
def EH{a:Act}{d}{v}:(a.put d v).tmps.size=a.tmps.size:=by
 cases d <;> simp[Act.put]
def put_defers{a:Act}{d}{v}:(a.put d v).defers=a.defers:=by
 cases d <;> rfl
def fM.put{I}{w}{env}{a}{dst}{x}{v}(h:fM I w (aD env) a)(g:ix a.tmps.size dst)(f:Rel I w x v):
  fM I w (aD (iK dst x env)) (a.put dst v):=by
 cases dst with
 | none=>exact h
 | some d=>
  intro t y c;simp[iK,kU] at c;split at c
  ·rename_i e;subst e;simp at c;subst c;rw[px (Nat.lt_of_succ_le (by simpa [ix,Nat.blt] using g))];exact f
  ·rename_i e;rw[lk e];exact h t y c
section
variable{c:Ctx}{r:Option Nat}{P:Program}{ops:Array Oper}{l rest:cc}{o:Oper}{st:dU}{Q:Exit->Act->World->Prop}{x:ab}
def aj.nil(h:aZ c st .normal Q):aj c r P ops [] st Q:=λa w s=>h a w s
def aj.pop(A:o.guard=none)(a6:ix c.n o.dst)(h:ad P st.H (aD st.env) o x)(next:aj c r P ops rest ⟨iK o.dst x st.env,st.H⟩ Q):aj c r P ops (o::rest) st Q:=by
 intro a w s;refine wpListIn_plain A λK q=>?_;obtain⟨I,C,D,t,l⟩:=s.mem;refine h c.B I w r a st.H C t (λ_ x=>x) (l.ops o) K Q ?_ λ_ _ h=>h.elim;rintro v E ⟨z,j,f,g,m⟩;refine q _ _ (next _ _ ⟨iJ,iI,z,j,D.trans f,g,((l.bs f.keeps).put rI m)⟩)
def m6:Option ab->Bool->Option Bool
 | some (.val (.bool b)),true=>some b
 | some (.val (.bool b)),false=>some (!b)
 | some (.opt g (.val (.bool b))),true=>some (g && b)
 | some (.opt g (.val (.bool b))),false=>some (g && !b)
 | _,_=>none
def E7{I}{w}{a:Act}{y}{j d:Nat}{want G:Bool}(B:(ops[j]?).bind (·.dst)=some d)(q:o.guard=some (j,want))
  (hy:∀z,y=some z->Rel I w z (a.tmps.getD d undef)) (f:m6 y want=some G) (r:d<a.tmps.size):Region.wanted o (yielded ops a.tmps)=G:=by
 have s:a.tmps[d]? =some (a.tmps.getD d undef):=by
  simp[Array.getD,r]
 have hw:Region.wanted o (yielded ops a.tmps)=(yielded ops a.tmps j==some want):=by simp[Region.wanted,q]
 rw[hw];unfold yielded;rw[B];simp only[Option.bind_some,s]
 match y,hy,f with
 | some (.val (.bool b)),hy,f=>
  have h:=hy _ rfl;generalize a.tmps.getD d undef=u at h;cases h;cases want <;> cases b <;> simp[m6] at f <;> subst f <;> rfl
 | some (.opt g (.val (.bool b))),hy,f=>
  have h:=hy _ rfl;generalize a.tmps.getD d undef=u at h;cases h with
  | opt _ _ _ t m=>
   cases g with
   | false=>rw[m rfl];cases want <;> simp[m6] at f <;> subst f <;> rfl
   | true=>
    have x:=t rfl;cases x;cases want <;> cases b <;> simp[m6] at f <;> subst f <;> rfl
def aj.guarded{j d}{g G}(O:o.guard=some (j,g))(M:(ops[j]?).bind (·.dst)=some d)(C:Nat.blt d c.n)(L:m6 (aD st.env d) g=some G)
  (a6:ix c.n o.dst) (h:G=true->ad P st.H (aD st.env) o x) (next:aj c r P ops rest ⟨iK o.dst (.opt G x) st.env,st.H⟩ Q):aj c r P ops (o::rest) st Q:=by
 intro a w s;obtain⟨I,D,F,E,q⟩:=s.mem;have l:=E7 (I:=I) (w:=w) (a:=a) M O (λz K=>q d z K) L (by rw[s.size];exact Nat.lt_of_succ_le (by simpa [Nat.blt] using C));unfold wpListIn;rw[l];cases G with
 | true=>
  rw[if_pos rfl];refine h rfl c.B I w r a st.H D E (λ_ x=>x) (q.ops o) _ Q ?_ λ_ _ h=>h.elim;rintro v R ⟨N,A,m,t,J⟩;refine next _ _ ⟨iJ,iI,N,A,F.trans m,t,((q.bs m.keeps).put rI (.opt _ _ _ (λ_=>J) λe=>by cases e))⟩
 | false=>
  rw[if_neg aS];refine⟨λ_ _=>trivial,next _ _ ⟨iJ,iI,I,D,F,E,?_⟩⟩;exact q.put rI (.opt _ _ _ (λe=>by cases e) λ_=>rfl)
def aB.seq{p q}(h:aB c r P p st (Exit.then (q.wpIn (bt r) 0 P Q) Q)):aB c r P (.seq p q) st Q:=λa w s=>wpIn_seq (h a w s)
def aB.skip(h:aZ c st .normal Q):aB c r P .skip st Q:=λa w s=>wpIn_skip (h a w s)
def aB.ret(h:aZ c st .ret Q):aB c r P .ret st Q:=λa w s=>wpIn_ret (h a w s)
def aB.exit{id}(h:aZ c st (.exit id) Q):aB c r P (.exit id) st Q:=λa w s=>wpIn_exit (h a w s)
def aB.block{id}{p}(h:aB c r P p st (Exit.inBlock id Q)):aB c r P (.block id p) st Q:=λa w s=>wpIn_block (h a w s)
def aB.region{id}{l}(h:aj c r P l.toArray l st Q):aB c r P (.region id l.toArray false) st Q:=λa w s=>wpIn_region_lit (h a w s)
def aB.cond{t}{b}{p q}(ht:aD st.env t=some (.val (.bool b)))(h:b=true->aB c r P p st Q)(j:b=false->aB c r P q st Q):aB c r P (.cond (.tmp t) p q) st Q:=by
 intro a w s;obtain⟨I,o,v,m,l⟩:=s.mem;have f:=l t _ ht;have g:a.eval (.tmp t)= .bool b:=by
  show a.tmps.getD t undef= .bool b;generalize a.tmps.getD t undef=u at f;cases f;rfl
 cases b with
 | true=>exact wpIn_cond_true g (h rfl a w s)
 | false=>exact wpIn_cond_false g (j rfl a w s)
def aZ.seq{q}(h:aB c r P q st Q):aZ c st .normal (Exit.then (q.wpIn (bt r) 0 P Q) Q):=h
def aZ.Un{id}{K}(h:aZ c st (.exit id) Q):aZ c st (.exit id) (Exit.then K Q):=h
def aZ.Uo{K}(h:aZ c st .ret Q):aZ c st .ret (Exit.then K Q):=h
def aZ.Up{id}(h:aZ c st .normal Q):aZ c st .normal (Exit.inBlock id Q):=h
def aZ.Uq{id}(h:aZ c st .ret Q):aZ c st .ret (Exit.inBlock id Q):=h
def aZ.Ur{id}(h:aZ c st .normal Q):aZ c st (.exit id) (Exit.inBlock id Q):=λa w s=>by
 simp[Exit.inBlock,if_true];exact h a w s
def aZ.Us{id f}(g:Nat.beq id f=false)(h:aZ c st (.exit id) Q):aZ c st (.exit id) (Exit.inBlock f Q):=λa w s=>by
 have:id≠f:=λe=>by subst e;simp at g
 simp[Exit.inBlock,if_neg this];exact h a w s
def Sat.weaken{st'}{a}{w}(s:Sat c st a w)(f:∀t y,aD st'.env t=some y->aD st.env t=some y)(g:st'.H.Sublist st.H):Sat c st' a w:=
 ⟨s.ds,s.size,let ⟨I,hw,aK,aU,bd⟩:=s.mem;⟨I,hw,aK,aU.sub g,λt y h=>bd t y (f t y h)⟩⟩
def m7:List (Nat×ab)->List (Nat×ab)->Prop
 | [],_=>True
 | (t,y)::r,env=>aD env t=some y/\m7 r env
theorem lQ{e}:∀{c:List (Nat×ab)},m7 c e->∀t y,aD c t=some y->aD e t=some y
 | [],_,t,y,h=>by simp[aD] at h
 | (s,z)::r,h,t,y,a=>by
  rw[kU] at a;split at a
  ·rename_i f;subst f;simp at a;subst a;exact h.1
  ·exact lQ h.2 t y a
def aB.weaken{p}{st'}(g:m7 st'.env st.env)(f:st'.H.Sublist st.H)(h:aB c r P p st' Q):aB c r P p st Q:=
 λa w s=>h a w (s.weaken (lQ g) f)
def aB.loop{ι:Type}(inv:ι->dU)(BF:ι->Nat)(i0:ι){p}(he:m7 (inv i0).env st.env)(iM:(inv i0).H.Sublist st.H)
  (round:∀i,aB c r P p (inv i) (Exit.then (λa w=>∃j,BF j<BF i/\Sat c (inv j) a w) Q)):aB c r P (.loop p) st Q:=by
 intro a w s b k cs nO a8 bH;have key:∀m i a w,BF i=m->Sat c (inv i) a w->
   ∃e I w',Q e I w'/\ArrivesIn (Machine.fenced P (bt r)) P (lone (b.atR a (.code p::.inLoop p::k)) cs w) b k cs e I w':=by
  intro m
  induction m using Nat.strongRecOn with
  | _ m fv=>
   intro i a w hn je;obtain⟨e,h,fN,cd,et⟩:=round i a w je b (.inLoop p::k) cs nO a8 bH;cases e with
   | normal=>
    obtain⟨j,kT,E8⟩:=cd;obtain⟨ym,B,m8,oL,py⟩:=fv (BF j) (hn▸kT) j h fN rfl E8;exact⟨ym,B,m8,oL,.of_steps (StepsIn.trans et (.one (fenced_calm a8 bH rfl) stepR_inLoop)) py⟩
   | exit id=>exact⟨_,h,fN,cd,.pass (x:=.inLoop p) rfl (λ_ _=>.inl aS) et⟩
   | goto l=>exact⟨_,h,fN,cd,.pass (x:=.inLoop p) rfl (λ_ _=>.inl aS) et⟩
   | ret=>exact⟨_,h,fN,cd,.pass (x:=.inLoop p) rfl (λ_ _=>.inl aS) et⟩
   | panic ch=>exact⟨_,h,fN,cd,.pass (x:=.inLoop p) rfl (λ_ _=>.inl aS) et⟩
   | outgrown=>exact⟨_,h,fN,cd,.pass (x:=.inLoop p) rfl (λ_ _=>.inl aS) et⟩
 obtain⟨e,I,w',cd,et⟩:=key _ i0 a w rfl (s.weaken (lQ he) iM);exact⟨e,I,w',cd,.of_steps (.one (fenced_calm a8 bH rfl) stepR_loop) et⟩
def aZ.again{ι:Type}{inv:ι->dU}{f:ι->Nat}{i:ι}(j:ι)(g:f j<f i)(l:m7 (inv j).env st.env)(h:(inv j).H.Sublist st.H):
  aZ c st .normal (Exit.then (λa w=>∃j,f j<f i/\Sat c (inv j) a w) Q):=
 λa w s=>⟨j,g,s.weaken (lQ l) h⟩
end
section
variable{P:Program}{H:aA}{ρ:Nat->Option ab}{o:Oper}
def ad.same{y}(m:∀c,o.op≠ .defer c)(h:∀(I:cp) (w:World) (a:Act),fm I w ρ a o->∃v,(execOp a.eval o).run P w= .ok (.value v) w/\Rel I w y v):ad P H ρ o y:=by
 intro B I w r a s l j _ g;obtain⟨v,q,f⟩:=h I w a g;exact .e3 m q ⟨I,l,.refl _ _ _,j,f⟩
def ad.yn{y}(m:∀c,o.op≠ .defer c)(h:∀(B:Nat) (I:cp) (w:World) (a:Act),(∀e∈H,e.ok B I w)->fm I w ρ a o->∃v,(execOp a.eval o).run P w= .ok (.value v) w/\Rel I w y v):ad P H ρ o y:=by
 intro B I w r a x l f q j;obtain⟨v,s,g⟩:=h B I w a (λe t=>f.ok e (q e t)) j;exact .e3 m s ⟨I,l,.refl _ _ _,f,g⟩
def ad.eq{x y}(h:ad P H ρ o x)(e:x=y):ad P H ρ o y:=e▸h
def ad.move{x}{y}{g}(h:o.op= .move x)(c:aN ρ x=some (g,y))(j:g=true):ad P H ρ o y:=
 .same cf λI w a f=>⟨a.eval x,by simp[execOp,h],f.get cb c j⟩
def ad.assign{x}{y}{g}(h:o.op= .assign x)(c:aN ρ x=some (g,y))(j:g=true):ad P H ρ o y:=
 .same cf λI w a f=>⟨a.eval x,by simp[execOp,h],f.get cb c j⟩
def bX{I}{w}{u v}(h:Rel I w (.val u) v):v=u:=by cases h;rfl
def ad.pick{c x y}{b p q}{t s r}(h:o.op= .pick c x y)(z:aN ρ c=some (t,.b b))(g:t=true)(v:aN ρ x=some (s,.b p))(hy:aN ρ y=some (r,.b q))
  (l:b=true->s=true) (f:b=false->r=true):ad P H ρ o (.b (bif b then p else q)):=by
 refine .same cf λI w a j=>?_;have m:=bX (j.get cb z g);cases b with
 | true=>exact⟨a.eval x,by simp[execOp,h,m,asBool],by rw[bX (j.get cb v (l rfl))];exact .val _⟩
 | false=>exact⟨a.eval y,by simp[execOp,h,m,asBool],by rw[bX (j.get cb hy (f rfl))];exact .val _⟩
def Lf:BinOp->Int->Int->Option Bool
 | .eql,a,b=>some (a==b)
 | .neq,a,b=>some (a !=b)
 | .lss,a,b=>some (decide (a<b))
 | .leq,a,b=>some (decide (a<=b))
 | .gtr,a,b=>some (decide (a>b))
 | .geq,a,b=>some (decide (a>=b))
 | _,_,_=>none
def ad.cmp{op}{t z}{x y}{k}{a b}{q l c}(h:o.op= .binOp op t x y z)(s:aN ρ x=some (q,.val (.int k a)))(hy:aN ρ y=some (l,.val (.int k b)))
  (j:q=true) (g:l=true) (m:Lf op a b=some c):ad P H ρ o (.b c):=by
 refine .same cf λI w f r=>?_;have v:=bX (r.get cb s j);have A:=bX (r.get cb hy g);refine⟨.bool c,?_,.val _⟩;cases op <;> simp[Lf] at m <;> subst m <;> simp[execOp,h,v,A,eqGuard,binOp,Op.intCmp]
def Lg:BinOp->Int->Int->Option Int
 | .add,a,b=>some (a+b)
 | .sub,a,b=>some (a - b)
 | .mul,a,b=>some (a*b)
 | _,_,_=>none
def ad.arith{op}{t A}{x y}{k}{a b c d}{q l}(h:o.op= .binOp op t x y A)(v:aN ρ x=some (q,.val (.int k a)))(hy:aN ρ y=some (l,.val (.int k b)))
  (j:q=true) (g:l=true) (m:Lg op a b=some c) (s:k.wrap c=d):ad P H ρ o (.val (.int k d)):=by
 refine .same cf λI w f r=>?_;have z:=bX (r.get cb v j);have B:=bX (r.get cb hy g);refine⟨.int k d,?_,.val _⟩;subst s;cases op <;> simp[Lg] at m <;> subst m <;> simp[execOp,h,z,B,eqGuard,binOp,Op.intArith]
def wrap64{n}(h: -9223372036854775808<=n/\n<=9223372036854775807):IntKind.i64.wrap n=n:=IntWalk.i64_in n h
def pz(op:BinOp)(k:IntKind)(x y:Int):Option Int:=
 match op with
 | .and=>some (k.wrap (BitVec.ofInt k.bits x &&& BitVec.ofInt k.bits y).toNat)
 | .or=>some (k.wrap (BitVec.ofInt k.bits x ||| BitVec.ofInt k.bits y).toNat)
 | .xor=>some (k.wrap (BitVec.ofInt k.bits x^^^BitVec.ofInt k.bits y).toNat)
 | .andNot=>some (k.wrap (BitVec.ofInt k.bits x &&& ~~~BitVec.ofInt k.bits y).toNat)
 | _=>none
def ad.bits{op}{t z}{x y}{k}{a b c}{q l}(h:o.op= .binOp op t x y z)(s:aN ρ x=some (q,.val (.int k a)))(hy:aN ρ y=some (l,.val (.int k b)))
  (j:q=true) (g:l=true) (m:pz op k a b=some c):ad P H ρ o (.val (.int k c)):=by
 refine .same cf λI w f r=>?_;have v:=bX (r.get cb s j);have A:=bX (r.get cb hy g);refine⟨.int k c,?_,.val _⟩;cases op <;> simp[pz] at m <;> subst m <;> simp[execOp,h,v,A,eqGuard,binOp,Op.intBits]
def ux(op:BinOp)(k:IntKind)(x y:Int):Option Int:=
 match op with
 | .shl=>some (k.wrap (x*2^(min y.toNat k.bits)))
 | .shr=>some (x.fdiv (2^(min y.toNat k.bits)))
 | _=>none
def ad.shift{op}{t z}{x y}{k C}{a b c}{q l}(h:o.op= .binOp op t x y z)(s:aN ρ x=some (q,.val (.int k a)))(hy:aN ρ y=some (l,.val (.int C b)))
  (j:q=true) (g:l=true) (D:0<=b) (m:ux op k a b=some c):ad P H ρ o (.val (.int k c)):=by
 refine .same cf λI w f r=>?_;have v:=bX (r.get cb s j);have B:=bX (r.get cb hy g);have A: ¬b<0:=by omega
 refine⟨.int k c,?_,.val _⟩;cases op <;> simp[ux] at m <;> subst m <;> simp[execOp,h,v,B,eqGuard,binOp,Op.shift,A]
def ad.div{op}{t v}{x y}{k}{a b c}{m l}(h:o.op= .binOp op t x y v)(r:aN ρ x=some (m,.val (.int k a)))(hy:aN ρ y=some (l,.val (.int k b)))
  (j:m=true) (g:l=true) (B:b≠0) (z:(op= .quo/\c=k.wrap (a.tdiv b))\/(op= .rem/\c=a.tmod b)):ad P H ρ o (.val (.int k c)):=by
 refine .same cf λI w f q=>?_;have s:=bX (q.get cb r j);have A:=bX (q.get cb hy g);refine⟨.int k c,?_,.val _⟩;rcases z with⟨rfl,rfl⟩ | ⟨rfl,rfl⟩ <;> simp[execOp,h,s,A,eqGuard,binOp,Op.intDiv,B]
def ad.uy{op}{t z}{x y}{a b c}{q m}(h:o.op= .binOp op t x y z)(v:aN ρ x=some (q,.b a))(hy:aN ρ y=some (m,.b b))
  (j:q=true) (g:m=true) (ht:P.underlying t=some .bool) (A:(op= .eql/\c=(a==b))\/(op= .neq/\c=(a !=b))):ad P H ρ o (.b c):=by
 refine .same cf λI w f s=>?_;have l:=bX (s.get cb v j);have r:=bX (s.get cb hy g);refine⟨.bool c,?_,.val _⟩;rcases A with⟨rfl,rfl⟩ | ⟨rfl,rfl⟩
 ·simp[execOp,h,l,r,eqGuard,run_eql_bool w t a b ht]
 ·simp[execOp,h,l,r,eqGuard,run_neq_bool w t a b ht];cases a <;> cases b <;> rfl
def ad.not{t}{x}{a g}(h:o.op= .unOp .not t x)(c:aN ρ x=some (g,.b a))(l:g=true):ad P H ρ o (.b (!a)):=by
 refine .same cf λI w f m=>?_;have j:=bX (m.get cb c l);exact⟨.bool (!a),by simp[execOp,h,j,Op.unary],.val _⟩
def ad.neg{t}{x}{k}{a d}{g}(h:o.op= .unOp .neg t x)(c:aN ρ x=some (g,.val (.int k a)))(l:g=true)(q:k.wrap (0 - a)=d):ad P H ρ o (.val (.int k d)):=by
 refine .same cf λI w f m=>?_;have j:=bX (m.get cb c l);subst q;exact⟨.int k (k.wrap (0 - a)),by simp[execOp,h,j,Op.unary,Op.intArith],.val _⟩
def ad.extract{x}{i}{xs}{y}{g}(h:o.op= .extract x i)(c:aN ρ x=some (g,.bk xs))(s:g=true)(A:xs[i]? =some y):ad P H ρ o y:=by
 refine .same cf λI w f l=>?_;have a:=l.get cb c s;generalize q:f.eval x=u at a;cases a with
 | bk _ m r=>
  obtain⟨v,j,t⟩:=r.get A;exact⟨v,by
   have z:m[i]? =some v:=by simpa using j
   simp[execOp,h,q,Instr.extract,z],t⟩
def pA(P:Program)(t:TypeId):Bool:=match P.underlying t with | some (.slice _)=>true | _=>false
def E9{P}{t}(h:pA P t):P.underlying t=some (.slice (P.elem t)):=by
 unfold pA at h;unfold Program.elem;split at h
 ·rename_i e a;rw[a]
 ·cases h
def yo(t)(a)(n c)(ht:pA P t)(w)(f):(Builtin.len_ #[t] f #[.slice a n c]).run P w= .ok (.int .i64 n) w:=
 run_len_slice w t f a n c (E9 ht)
def ad.len{x}{t}{k}{els}{g}(h:o.op= .call {callee:=.builtin .len,args:=#[x],argTypes:=#[t]})(aK:aN ρ x=some (g,.ai k els))(z:g=true)(ht:pA P t):
  ad P H ρ o (.i els.length):=by
 refine .same cf λI w f r=>?_;have m:=r.get gB aK z;generalize l:f.eval x=u at m;refine⟨.int .i64 els.length,?_,.val _⟩;cases m with
 | dQ k a c=>simp[execOp,h,l,resolve,invoke,builtin,yo t a 0 c ht w]
 | ai k els b off len j s C B D=>simp[execOp,h,l,resolve,invoke,builtin,yo t _ len j ht w,s]
def ad.Ut{x}{t}{k}{els}{v}{g}(h:o.op= .call {callee:=.builtin .len,args:=#[x],argTypes:=#[t]})(aK:aN ρ x=some (g,.as (.ai k els) v))(aw:g=true)(ht:pA P t):
  ad P H ρ o (.i els.length):=by
 refine .same cf λI w f bb=>?_;have ae:=bb.get gB aK aw;generalize bd:f.eval x=u at ae;refine⟨.int .i64 els.length,?_,.val _⟩;cases ae with
 | as _ _ ae=>
 cases ae with
 | dQ k a c=>simp[execOp,h,bd,resolve,invoke,builtin,yo t a 0 c ht w]
 | ai k els b off len cap br a1 hm he=>simp[execOp,h,bd,resolve,invoke,builtin,yo t _ len cap ht w,br]
def ad.Uu{x}{t}{a}{n c}{g}(h:o.op= .call {callee:=.builtin .len,args:=#[x],argTypes:=#[t]})(j:aN ρ x=some (g,.val (.slice a n c)))(m:g=true)(ht:pA P t):
  ad P H ρ o (.i n):=by
 refine .same cf λI w f q=>?_;have l:=bX (q.get gB j m);exact⟨.int .i64 n,by simp[execOp,h,l,resolve,invoke,builtin,yo t a n c ht w],.val _⟩
def qv(P:Program)(t:TypeId):Option Nat:=match P.underlying t with | some (.slice e)=>(P.info? e).map (·.size) | _=>none
def nP{P}{t}{k}(h:qv P t=some k):∃e i,P.underlying t=some (.slice e)/\P.info? e=some i/\i.size=k:=by
 unfold qv at h;split at h
 ·rename_i e a;cases aQ:P.info? e with
  | none=>simp[aQ] at h
  | some i=>simp[aQ] at h;exact⟨e,i,a,aQ,h⟩
 ·cases h
def Fa{t}{k:Nat}(ht:qv P t=some k)(b off len cap:Nat)(h:IntKind)(i:Int)(a:0<=i)(f:i<len)(w:World):
  (Instr.indexAt t (.slice (some ⟨b,off,none⟩) len cap) (.int h i)).run P w= .ok (.pointer (some ⟨b,off+i.toNat*k,none⟩)) w:=by
 obtain⟨e,c,m,l,g⟩:=nP ht;have j:0<=i/\i<(len:Int):=⟨a,f⟩;simp[Instr.indexAt,asIntOf,run_underlying m,sizeOf,typeInfo,l,g,j,Addr.add_lit]
def ad.index{t}{x y}{k}{els}{hq}{i}{cs}{z B}(h:o.op= .indexAddr t x y)(aK:aN ρ x=some (z,.ai k els))(hy:aN ρ y=some (B,.val (.int hq i)))
  (j:z=true) (m:B=true) (ht:qv P t=some k) (D:0<=i) (r:els[i.toNat]? =some cs):ad P H ρ o (.ptr cs):=by
 refine .same cf λI w f v=>?_;have A:=v.get cb aK j;have E:=bX (v.get cb hy m);generalize bd:f.eval x=u at A;cases A with
 | dQ k a c=>simp at r
 | ai k els b off len l L K J I=>
  have q:i<(len:Int):=by
   have:=(List.getElem?_eq_some_iff.1 r).1;omega
  exact⟨.pointer (some ⟨b,off+i.toNat*k,none⟩),by simp[execOp,h,bd,E,Fa ht b off len l hq i D q w],.ptr _ _ _ (I.get r).2⟩
def Lh{c:Type}[Inhabited c]{l:List c}{i}(h:i<l.length):l[i]? =some (l.getD i default):=by
 simp[List.getD,h]
def ad.Uv{f:Type}[Inhabited f]{enc:f->bl}{l:List f}{t:TypeId}{x y:Operand}{k:Nat}{s:IntKind}{i:Nat}{m j:Bool}(h:o.op= .indexAddr t x y)(q:aN ρ x=some (m,.ai k (l.map enc)))(hy:aN ρ y=some (j,.val (.int s (i:Int))))
  (g:m=true) (c:j=true) (ht:qv P t=some k) (r:i<l.length):ad P H ρ o (.ptr (enc (l.getD i default))):=
 .index h q hy g c ht aa (by rw[Int.toNat_natCast,List.getElem?_map,Lh r];rfl)
def ad.Uw{f:Type}[Inhabited f]{enc:f->bl}{l:List f}{t:TypeId}{x y:Operand}{k:Nat}{s:IntKind}{i:Int}{q m:Bool}(h:o.op= .indexAddr t x y)(r:aN ρ x=some (q,.ai k (l.map enc)))(hy:aN ρ y=some (m,.val (.int s i)))
  (j:q=true) (c:m=true) (ht:qv P t=some k) (g:0<=i) (v:i<l.length):ad P H ρ o (.ptr (enc (l.getD i.toNat default))):=
 .index h r hy j c ht g (by rw[List.getElem?_map,Lh (show i.toNat<l.length by omega)];rfl)
def ad.slice{t}{x}{lo B}{k}{els}{l n:Nat}{V gl gh:Bool}{kl kh:IntKind}(h:o.op= .slice t x lo B none)(aK:aN ρ x=some (V,.ai k els))(L:V=true)
  (Fb:match lo with | none=>l=0 | some y=>aN ρ y=some (gl,.val (.int kl (l:Int)))) (BG:gl=true) (j:match B with | none=>n=els.length | some y=>aN ρ y=some (gh,.val (.int kh (n:Int)))) (O:gh=true)
  (ht:qv P t=some k) (ae:l<=n) (ao:n<=els.length):ad P H ρ o (.ai k ((els.take n).drop l)):=by
 refine .same cf λI w f bb=>?_;have bH:=bb.get cb aK L;have Q:∀y,lo=some y->f.eval y= .int kl (l:Int):=λy e=>by
  subst e;exact bX (bb.get cb Fb BG)
 have A:∀y,B=some y->f.eval y= .int kh (n:Int):=λy e=>by
  subst e;exact bX (bb.get cb j O)
 obtain⟨e,inf,hu,m,F⟩:=nP ht;generalize bd:f.eval x=u at bH;have key:∀(a:Option Addr) (len g:Nat),u= .slice a len g->els.length=len->len<=g->(execOp f.eval o).run P w= .ok (.value (.slice (if g=l then a else a.map (·.add (l*k))) (n - l) (g - l))) w:=by
  intro a len g Ux r T;rw[Ux] at bd;have hn:n<=g:=by omega
  have Uy:l<=n:=by omega
  cases lo with
  | none=>
   simp only at Fb;subst Fb;cases B with
   | none=>
    simp only at j;subst j;simp[execOp,h,bd,Instr.sliceAt,run_underlying hu,Instr.slice,Instr.sliceBounds,sizeOf,typeInfo,m,F,r]
   | some y=>
    have:=A y rfl;simp[execOp,h,bd,this,Instr.sliceAt,run_underlying hu,Instr.slice,Instr.sliceBounds,Instr.sliceBound,asIntOf,sizeOf,typeInfo,m,F,hn]
  | some z=>
   have aH:=Q z rfl;cases B with
   | none=>
    simp only at j;subst j;have R:l<=len:=by omega
    simp[execOp,h,bd,aH,Instr.sliceAt,run_underlying hu,Instr.slice,Instr.sliceBounds,Instr.sliceBound,asIntOf,sizeOf,typeInfo,m,F,r,R]
   | some y=>
    have:=A y rfl;simp[execOp,h,bd,aH,this,Instr.sliceAt,run_underlying hu,Instr.slice,Instr.sliceBounds,Instr.sliceBound,asIntOf,sizeOf,typeInfo,m,F,hn,Uy]
 cases bH with
 | dQ k a c=>
  refine⟨_,key a 0 c rfl rfl (Nat.zero_le _),?_⟩;have:n=0:=by simpa using ao
  subst this;have:l=0:=by omega
  subst this;simp;exact .dQ _ _ _
 | ai k els b off len g br T hm jX=>
  refine⟨_,key _ len g rfl br T,?_⟩;have hlen:((els.take n).drop l).length=n - l:=by simp;omega
  by_cases aH:n=l
  ·subst aH;have fl:(els.take n).drop n= []:=by simp
   rw[fl];simp;exact .dQ _ _ _
  ·have K: ¬g=l:=by omega
   simp only[if_neg K,Option.map_some,Addr.add_lit];exact .ai k _ b _ _ _ hlen aa aa ((jX.take n).drop l)
def nQ(P:Program)(t:TypeId):Option (Bool×Nat):=
 match P.underlying t,P.info? t with
 | some (.struct _),some i=>some (true,i.size)
 | some (.array _ _),some i=>some (true,i.size)
 | some _,some i=>some (false,i.size)
 | _,_=>none
def wA{t}{agg}{n}(h:nQ P t=some (agg,n))(w):(isAgg t).run P w= .ok agg w/\(sizeOf t).run P w= .ok n w:=by
 unfold nQ at h;split at h
 ·rename_i a c;simp at h;obtain⟨rfl,rfl⟩:=h;exact⟨by simp[isAgg,run_underlying a],by simp[sizeOf,typeInfo,c]⟩
 ·rename_i a c;simp at h;obtain⟨rfl,rfl⟩:=h;exact⟨by simp[isAgg,run_underlying a],by simp[sizeOf,typeInfo,c]⟩
 ·rename_i d i f g a c;simp at h;obtain⟨rfl,rfl⟩:=h;refine⟨?_,by simp[sizeOf,typeInfo,c]⟩;simp only[isAgg,Sem.run_bind,run_underlying a,Result.andThen_ok];cases d <;> first | rfl | (exfalso;exact f _ a c) | (exfalso;exact g _ _ a c) | simp_all
 ·cases h
def BH{t}{n}(h:nQ P t=some (true,n))(b o)(vs:dg)(w:World)(a:vs.length=n)(f:∀j v,vs[j]? =some v->w.cell? ⟨b,o+j,none⟩=some v):
  (loadVar t ⟨b,o,none⟩).run P w= .ok (.agg vs.toArray) w:=by
 obtain⟨c,g⟩:=wA h w;subst a;have l:=run_loadCells_list (P:=P) w ⟨b,o,none⟩ vs (λj v m=>by rw[Addr.add_lit];exact f j v m);simp[loadVar,c,g,l]
def yp{t}{n}(h:nQ P t=some (false,n))(b o)(v)(w)(a:w.cell? ⟨b,o,none⟩=some v):(loadVar t ⟨b,o,none⟩).run P w= .ok v w:=by
 obtain⟨c,f⟩:=wA h w;simp[loadVar,c,a]
def ad.Uz{t}{x}{cs}{n}{g}(h:o.op= .load t x)(l:aN ρ x=some (g,.ptr cs))(v:g=true)(ht:nQ P t=some (true,n))(hn:Nat.ble n cs.length):ad P H ρ o (.agg (cs.take n)):=by
 refine .same cf λI w f q=>?_;have j:=q.get cb l v;generalize r:f.eval x=u at j;cases j with
 | ptr _ b c m=>
  obtain⟨a,ao,z⟩:=(m.take n).values;have s:a.length=n:=by rw[ao.length,List.length_take];exact Nat.min_eq_left (Nat.le_of_ble_eq_true hn)
  refine⟨.agg a.toArray,?_,.agg _ _ sZ⟩;simp[execOp,h,r,Instr.loadAt,Instr.sureAddr,BH ht b c a w s z]
def ad.UA{t}{x}{cs}{y}{n}{g}(h:o.op= .load t x)(j:aN ρ x=some (g,.ptr cs))(r:g=true)(ht:nQ P t=some (false,n))(hn:cs[0]? =some y):ad P H ρ o y:=by
 refine .same cf λI w f m=>?_;have c:=m.get cb j r;generalize q:f.eval x=u at c;cases c with
 | ptr _ b a l=>
  obtain⟨v,ao,_,s⟩:=l.get hn;exact⟨v,by simp[execOp,h,q,Instr.loadAt,Instr.sureAddr,yp ht b a v w sZ],s⟩
def jC{w:World}{b}{vs}{t}{fr}(h:w.heap[b]? =some (.cells vs t fr))(o):w.cell? ⟨b,o,none⟩=vs[o]? :=by
 simp[World.cell?,h]
theorem bQ.drop{I}{w}:∀(n:Nat) {xs:bl} {vs:dg},bQ I w xs vs->bQ I w (xs.drop n) (vs.drop n)
 | 0,_,_,h=>h
 | n+1,_,_,.nil=>.nil
 | n+1,_,_,.cons _ _ _ _ _ t=>.drop n t
theorem bQ.take{I}{w}:∀(n:Nat) {xs:bl} {vs:dg},bQ I w xs vs->bQ I w (xs.take n) (vs.take n)
 | 0,_,_,_=>.nil
 | n+1,_,_,.nil=>.nil
 | n+1,_,_,.cons _ _ _ _ h t=>.cons _ _ _ _ h (.take n t)
theorem bQ.append{I}{w}:∀{a c:bl} {vs us:dg},bQ I w a vs->bQ I w c us->bQ I w (a++c) (vs++us)
 | _,_,_,_,.nil,h=>h
 | _,_,_,_,.cons _ _ _ _ h t,f=>.cons _ _ _ _ h (.append t f)
def ad.UB{t tb}{x}{b off}{cs ys}{n}{g}(h:o.op= .load t x)(l:aN ρ x=some (g,.p b off))(A:g=true)(hm:.au b tb cs∈H)(ht:nQ P t=some (true,n))
  (hy:(cs.drop off).take n=ys) (hn:Nat.beq ys.length n):ad P H ρ o (.agg ys):=by
 refine .yn cf λB I w f r q=>?_;have z:=bX (q.get cb l A);obtain⟨_,j,m,B,_⟩:=r _ hm;have c:=(B.drop off).take n;rw[hy] at c;have s:((j.toList.drop off).take n).length=n:=by rw[c.length];exact Nat.eq_of_beq_eq_true hn
 refine⟨.agg ((j.toList.drop off).take n).toArray,?_,.agg _ _ (by simpa using c)⟩;have:=BH ht b off _ w s (λj v a=>by
  rw[jC m];rw[List.getElem?_take] at a;split at a
  ·rw[List.getElem?_drop] at a;simpa using a
  ·cases a)
 simp[execOp,h,z,Instr.loadAt,Instr.sureAddr,this]
def ad.UC{t tb}{x}{b off}{cs}{y}{n}{g}(h:o.op= .load t x)(a:aN ρ x=some (g,.p b off))(l:g=true)(hm:.au b tb cs∈H)(ht:nQ P t=some (false,n))
  (hy:cs[off]? =some y):ad P H ρ o y:=by
 refine .yn cf λB I w f z r=>?_;have j:=bX (r.get cb a l);obtain⟨_,A,m,q,_⟩:=z _ hm;obtain⟨v,s,c⟩:=q.get hy;exact⟨v,by simp[execOp,h,j,Instr.loadAt,Instr.sureAddr,yp ht b off v w (by rw[jC m];simpa using s)],c⟩
def yq(P:Program)(t:TypeId)(f:Nat):Option Nat:=
 match P.underlying t with
 | some (.struct cz)=>match cz[f]? with
  | some fd=>match P.info? fd.type with
   | some i=>if i.size=0 then none else some fd.offset
   | none=>none
  | none=>none
 | _=>none
def Li{t}{f off}(h:yq P t f=some off)(b o)(w):(Instr.fieldAt t (.pointer (some ⟨b,o,none⟩)) f).run P w= .ok (.pointer (some ⟨b,o+off,none⟩)) w:=by
 unfold yq at h;split at h
 ·rename_i m g;split at h
  ·rename_i l c;split at h
   ·rename_i i j;split at h
    ·cases h
    ·rename_i a;simp at h;subst h;simp[Instr.fieldAt,run_underlying g,c,Instr.sureAddr,fieldPlace,sizeOf,typeInfo,j,a,Addr.add_lit]
   ·cases h
  ·cases h
 ·cases h
def ad.field{t}{x}{f off b o'}{g}(h:o.op= .fieldAddr t x f)(c:aN ρ x=some (g,.p b o'))(l:g=true)(q:yq P t f=some off):ad P H ρ o (.p b (o'+off)):=by
 refine .same cf λI w a m=>?_;have j:=bX (m.get cb c l);exact⟨.pointer (some ⟨b,o'+off,none⟩),by simp[execOp,h,j,Li q b o' w],.val _⟩
def ad.UD{t}{x}{f off}{cs}{g}(h:o.op= .fieldAddr t x f)(l:aN ρ x=some (g,.ptr cs))(q:g=true)(s:yq P t f=some off):ad P H ρ o (.ptr (cs.drop off)):=by
 refine .same cf λI w a r=>?_;have c:=r.get cb l q;generalize v:a.eval x=u at c;cases c with
 | ptr _ b j m=>exact⟨.pointer (some ⟨b,j+off,none⟩),by simp[execOp,h,v,Li s b j w],.ptr _ _ _ (m.drop off)⟩
def uz(P:Program)(t:TypeId):Option (Nat×Nat):=match P.underlying t with | some (.array n e)=>(P.info? e).map λi=>(n,i.size) | _=>none
def Lj{t}{n k}(ht:uz P t=some (n,k))(b o)(g)(i:Int)(a:0<=i)(f:i<n)(w):
  (Instr.indexAt t (.pointer (some ⟨b,o,none⟩)) (.int g i)).run P w= .ok (.pointer (some ⟨b,o+i.toNat*k,none⟩)) w:=by
 unfold uz at ht;split at ht
 ·rename_i m e j;cases aQ:P.info? e with
  | none=>simp[aQ] at ht
  | some c=>
   simp[aQ] at ht;obtain⟨rfl,rfl⟩:=ht;have h:0<=i/\i<(m:Int):=⟨a,f⟩;simp[Instr.indexAt,asIntOf,run_underlying j,Instr.sureAddr,sizeOf,typeInfo,aQ,h,Addr.add_lit]
 ·cases ht
def ad.UE{t}{x y}{b o' n k}{j}{i}{l g}(h:o.op= .indexAddr t x y)(q:aN ρ x=some (l,.p b o'))(hy:aN ρ y=some (g,.val (.int j i)))
  (f:l=true) (c:g=true) (ht:uz P t=some (n,k)) (r:0<=i) (v:i<n):ad P H ρ o (.p b (o'+i.toNat*k)):=by
 refine .same cf λI w a m=>?_;have s:=bX (m.get cb q f);have z:=bX (m.get cb hy c);exact⟨.pointer (some ⟨b,o'+i.toNat*k,none⟩),by simp[execOp,h,s,z,Lj ht b o' j i r v w],.val _⟩
def ad.UF{t}{x y}{cs}{n k}{j}{i}{q m}(h:o.op= .indexAddr t x y)(s:aN ρ x=some (q,.ptr cs))(hy:aN ρ y=some (m,.val (.int j i)))
  (c:q=true) (f:m=true) (ht:uz P t=some (n,k)) (v:0<=i) (B:i<n):ad P H ρ o (.ptr (cs.drop (i.toNat*k))):=by
 refine .same cf λI w a l=>?_;have g:=l.get cb s c;have C:=bX (l.get cb hy f);generalize A:a.eval x=u at g;cases g with
 | ptr _ b r z=>exact⟨.pointer (some ⟨b,r+i.toNat*k,none⟩),by simp[execOp,h,A,C,Lj ht b r j i v B w],.ptr _ _ _ (z.drop _)⟩
def ad.nilCheck{x}{b off}{g}(h:o.op= .nilCheck x)(c:aN ρ x=some (g,.p b off))(j:g=true):ad P H ρ o (.p b off):=by
 refine .same cf λI w a l=>?_;have f:=bX (l.get cb c j);exact⟨.pointer (some ⟨b,off,none⟩),by simp[execOp,h,f],.val _⟩
def ad.Km{x}{cs}{g}(h:o.op= .nilCheck x)(f:aN ρ x=some (g,.ptr cs))(l:g=true):ad P H ρ o (.ptr cs):=by
 refine .same cf λI w a m=>?_;have c:=m.get cb f l;generalize r:a.eval x=u at c;cases c with
 | ptr _ b q j=>exact⟨.pointer (some ⟨b,q,none⟩),by simp[execOp,h,r],.ptr _ _ _ j⟩
def ad.Kn{x}{f}{j cs}{g}(h:o.op= .nilCheck x)(m:aN ρ x=some (g,.fn (.func f) j cs))(v:g=true):ad P H ρ o (.fn (.func f) j cs):=by
 refine .same cf λI w a r=>?_;have c:=r.get cb m v;generalize s:a.eval x=u at c;cases c with
 | fn _ _ _ l t z q=>exact⟨.func (.func f) l t,by simp[execOp,h,s],.fn _ _ _ _ _ z q⟩
def ad.makeFunc{f}{first c}{g cs}(h:o.op= .makeFunc f first c)(s:jg ρ first.toList=some g)(r:jg ρ c.toList=some cs)(l:g.all (·.1)=true)(m:cs.all (·.1)=true):
  ad P H ρ o (.fn f (g.map (·.2)) (cs.map (·.2))):=by
 refine .same cf λI w a q=>?_;have ae:=s3 q first.toList g (λx j=>by simp[h,Op.operands];left;simpa using j) s (by simpa using l);have ao:=s3 q c.toList cs (λx j=>by simp[h,Op.operands];right;simpa using j) r (by simpa using m);exact⟨.func f (first.map a.eval) (c.map a.eval),by simp[execOp,h,Instr.makeFunc],.fn _ _ _ _ _ m2 sZ⟩
def ad.UG{s d}{x}{k c}{n m}{g}(h:o.op= .convert s d x)(j:aN ρ x=some (g,.val (.int k n)))(t:g=true)(q:(P.underlying s).isSome=true)(l:P.underlying d=some (.int c))(z:c.wrap n=m):
  ad P H ρ o (.val (.int c m)):=by
 refine .same cf λI w a v=>?_;have r:=bX (v.get cb j t);subst z;obtain⟨A,f⟩:=Option.isSome_iff_exists.1 q;refine⟨.int c (c.wrap n),?_,.val _⟩;simp[execOp,h,r,convert,run_underlying f,run_underlying l,Conv.intToInt]
def ad.min2{x y}{v}{k A}{a b c}{m l}(h:o.op= .call {callee:=.builtin .min,args:=#[x,y],argTypes:=v})(r:aN ρ x=some (m,.val (.int k a)))(hy:aN ρ y=some (l,.val (.int A b)))(j:m=true)(g:l=true)
  (t:(if b<a then b else a)=c):ad P H ρ o (.val (.int k c)):=by
 refine .same cf λI w f q=>?_;have s:=bX (q.get gB r j);have z:=bX (q.get gB hy g);subst t;exact⟨.int k (if b<a then b else a),by simp[execOp,h,s,z,resolve,invoke,builtin,run_min_int2],.val _⟩
def ad.max2{x y}{v}{k A}{a b c}{m l}(h:o.op= .call {callee:=.builtin .max,args:=#[x,y],argTypes:=v})(r:aN ρ x=some (m,.val (.int k a)))(hy:aN ρ y=some (l,.val (.int A b)))(j:m=true)(g:l=true)
  (t:(if b>a then b else a)=c):ad P H ρ o (.val (.int k c)):=by
 refine .same cf λI w f q=>?_;have s:=bX (q.get gB r j);have z:=bX (q.get gB hy g);subst t;exact⟨.int k (if b>a then b else a),by simp[execOp,h,s,z,resolve,invoke,builtin,run_max_int2],.val _⟩
end
def m4(P:Program)(f:FuncId):Bool:=
 match P.funcs[f]? with
 | some fn=>fn.body.isSome && !(fn.name== "runtime.NumGoroutine")
 | none=>false
def e4(B:Nat)(c5:cp)(bW:World)(eu:ab->aA->Prop)(E:ab->aA->Prop):Ending->World->Prop:=λe w'=>
 ∃c3 H',bV B c3 w'/\Ext B c5 bW c3 w'/\a7 B c3 w' H'/\
  ((∃v x,e= .returned v/\Rel c3 w' x v/\eu x H')\/(∃v x,e= .panicked [{v,recovered:=false}]/\Rel c3 w' x v/\E x H'))
def bO(P:Program)(f:FuncId)(xs:bl)(H:aA)(eu:ab->aA->Prop)(E:ab->aA->Prop):Prop:=
 m4 P f=true/\∀(B:Nat) (I:cp) (w:World) (vs:dg),bV B I w->a7 B I w H->bQ I w xs vs->Calls P f vs.toArray w (e4 B I w eu E)
def aG(P:Program)(f:FuncId)(xs:bl)(y:ab):Prop:=∀H,bO P f xs H (λx H'=>x=y/\H'=H) (λ_ _=>False)
section
variable{P:Program}{H:aA}{ρ:Nat->Option ab}{o:Oper}
def wB{f}(h:m4 P f)(args)(w):(callFunc f args).run P w= .ok (.enter f args) w:=by
 unfold m4 at h;split at h
 ·rename_i fn a;simp only[Bool.and_eq_true,Bool.not_eq_true'] at h;obtain⟨j,c⟩:=h;have g:fn.body.isNone=false:=by cases a8:fn.body <;> simp_all
  simp only[callFunc,Sem.run_bind,run_program,Result.andThen_ok,a,c,g,Bool.false_eq_true,if_false,Sem.run_pure]
 ·cases h
def Fe{x}{args}{l}{f}{c g}(h:o.op= .call {callee:=.value x,args:=args,argTypes:=l})(m:m4 P f)(a:Act)(w)
  (j:a.eval x= .func (.func f) c g):(execOp a.eval o).run P w= .ok (.enter f (c++args.map a.eval++g)) w:=by
 simp[execOp,h,resolve,j,Deferred.ofValue,invoke,wB m]
structure gD(P:Program)(ρ:Nat->Option ab)(o:Oper)(f:FuncId)(xs:bl):Prop where
 run:∀(I:cp) (w:World) (a:Act),fm I w ρ a o->∃vs:dg,bQ I w xs vs/\(m4 P f=true->(execOp a.eval o).run P w= .ok (.enter f vs.toArray) w)
 rO:∀c,o.op≠ .defer c
def gD.mk'{x}{args}{t}{f}{m cs}{ys}{g}(h:o.op= .call {callee:=.value x,args:=args,argTypes:=t})
  (r:aN ρ x=some (g,.fn (.func f) m cs)) (E:g=true) (z:jg ρ args.toList=some ys) (c:ys.all (·.1)=true):gD P ρ o f (m++ys.map (·.2)++cs):=by
 refine⟨λI w a j=>?_,cf⟩;have l:=j.get gB r E;have v:=s3 j args.toList ys (λz D=>by simp[h,Op.operands,Call.operands];right;simpa using D) z (by simpa using c);generalize A:a.eval x=u at l;cases l with
 | fn _ _ _ q B F s=>
  refine⟨q.toList++args.toList.map a.eval++B.toList,(F.append v).append s,λhL=>?_⟩;rw[Fe h hL a w A];congr 2;simp
def ad.call{f}{xs}{y}(s:gD P ρ o f xs)(h:aG P f xs y):ad P H ρ o y:=by
 intro B I w r a D G A K z;obtain⟨C,F,t⟩:=s.run I w a z;obtain⟨m,c⟩:=h D;refine .qu s.rO (t m) ((c B I w C G A F).mono λe J g=>?_);obtain⟨E,L,q,l,j,g⟩:=g;rcases g with⟨v,x,rfl,aK,rfl,rfl⟩ | ⟨v,x,rfl,_,jX⟩
 ·exact⟨E,q,l,j,aK⟩
 ·exact jX.elim
end
section
variable{c:Ctx}{r:Option Nat}{P:Program}{ops:Array Oper}{l rest:cc}{o:Oper}{st:dU}{Q:Exit->Act->World->Prop}{x:ab}
def cG:ab->bl
 | .agg cs=>cs
 | x=>[x]
def fa:ab->Bool
 | .any=>false
 | .as x _=>match x with | .ai _ _=>true | .fn _ _ _=>true | .ptr _=>true | .iface _ _=>true | _=>false
 | .opt _ _=>false
 | .val v=>v.oneCell'
 | .bk _=>false
 | _=>true
def Rel.one{I}{w}{x}{v}(h:Rel I w x v)(a8:fa x)(aK:∀cs,x≠ .agg cs):v.oneCell'=true:=by
 cases h with
 | any=>simp[fa] at a8
 | val v=>exact a8
 | dQ=>rfl
 | ai=>rfl
 | as y v h=>
  cases h <;> first | rfl | simp[fa] at a8
 | opt=>simp[fa] at a8
 | agg cs vs h=>exact absurd rfl (aK cs)
 | bk=>simp[fa] at a8
 | fn=>rfl
 | iface=>rfl
 | ptr=>rfl
 | fl=>rfl
 | single v h=>exact h
def UH{v:Value}(h:v.oneCell'=true):v.cells= #[v]:=by
 cases v <;> first | rfl | simp[Value.oneCell'] at h
def yr{I}{w}{x}{v}(h:Rel I w x v)(j:fa x):bQ I w (cG x) v.cells.toList:=by
 by_cases c:∃cs,x= .agg cs
 ·obtain⟨cs,rfl⟩:=c;cases h with
  | agg _ l h=>exact h
 ·have f:∀cs,x≠ .agg cs:=λcs e=>c ⟨cs,e⟩;have g:=h.one j f;rw[UH g];have:cG x= [x]:=by cases x <;> first | rfl | exact absurd rfl (f _)
  rw[this];exact .cons _ _ _ _ h .nil
def aj.box{t}{z}{y}{g}(j:o.guard=none)(a6:ix c.n o.dst)(h:o.op= .box t z)(m:aN (aD st.env) z=some (g,y))(C:g=true)(q:fa y)
  (next:∀b,aj c r P ops rest ⟨iK o.dst (.p b 0) st.env,.au b t (cG y)::st.H⟩ Q):aj c r P ops (o::rest) st Q:=by
 intro a w s;refine wpListIn_plain j λK x=>?_;obtain⟨I,f,D,A,l⟩:=s.mem;have B:=yr ((l.ops o).get cb m C) q;refine dt.e3 (R:=λv w'=>v= .pointer (some ⟨w.heap.size,0,none⟩)/\w'=w.alloc (.cells (a.eval z).cells t)) (E:=λ_ _=>False) cf
  (v:=.pointer (some ⟨w.heap.size,0,none⟩)) (w':=w.alloc (.cells (a.eval z).cells t)) Lb ⟨rfl,rfl⟩ K Q ?_ λ_ _ h=>h.elim
 rintro v w' ⟨rfl,rfl⟩;refine x _ _ (next w.heap.size _ _ ⟨iJ,iI,I,f.alloc _,D.trans (jB f _),A.new f t _ _ B,((l.bs (lP f _)).put rI (.val _))⟩)
def zeroCells(P:Program)(t:TypeId):Option dg:=((P.info? t).bind (·.zero)).map λv=>v.cells.toList
def aj.alloc{t}{g}(m:o.guard=none)(a6:ix c.n o.dst)(h:o.op= .alloc t)(f:zeroCells P t=some g)
  (next:∀b,aj c r P ops rest ⟨iK o.dst (.p b 0) st.env,.au b t (g.map .val)::st.H⟩ Q):aj c r P ops (o::rest) st Q:=by
 intro a w s;refine wpListIn_plain m λK q=>?_;obtain⟨I,j,C,x,A⟩:=s.mem;unfold zeroCells at f;cases aQ:P.info? t with
 | none=>simp[aQ] at f
 | some l=>
  cases lR:l.zero with
  | none=>simp[aQ,lR] at f
  | some z=>
   simp[aQ,lR] at f;have B:bQ I w (g.map .val) z.cells.toList:=by rw[f];exact lj g
   refine dt.e3 (R:=λv w'=>v= .pointer (some ⟨w.heap.size,0,none⟩)/\w'=w.alloc (.cells z.cells t)) (E:=λ_ _=>False) cf
    (v:=.pointer (some ⟨w.heap.size,0,none⟩)) (w':=w.alloc (.cells z.cells t)) (by simp[execOp,h,Instr.alloc,newVar,newRow,zeroValue,typeInfo,aQ,lR]) ⟨rfl,rfl⟩ K Q ?_ λ_ _ h=>h.elim
   rintro v w' ⟨rfl,rfl⟩;refine q _ _ (next w.heap.size _ _ ⟨iJ,iI,I,j.alloc _,C.trans (jB j _),x.new j t _ _ B,((A.bs (lP j _)).put rI (.val _))⟩)
inductive bG:List bn->bn->bn->List bn->Prop
 | head (e e':bn) (H:List bn):bG (e::H) e e' (e'::H)
 | tail (f e e':bn) (H H':List bn) (h:bG H e e' H'):bG (f::H) e e' (f::H')
def bG.mem{H H'}{e e'}(h:bG H e e' H'):e∈H:=by
 induction h with
 | head=>exact .head _
 | tail _ _ _ _ _ _ a=>exact .tail _ a
def bG.dY{H H'}{e e'}(h:bG H e e' H'):∀f∈H',f=e'\/f∈H:=by
 induction h with
 | head=>intro f a;rcases List.mem_cons.1 a with rfl | h;exact .inl rfl;exact .inr (.tail _ h)
 | tail g _ _ _ _ _ c=>
  intro f a;rcases List.mem_cons.1 a with rfl | h
  ·exact .inr (.head _)
  ·rcases c f h with h | h
   ·exact .inl h
   ·exact .inr (.tail _ h)
def a7.fE{B}{I v}{w w'}{H H'}{e e'}(h:a7 B I w H)(hu:bG H e e' H')(L:er I w v w')
  (l:∀b,b<w.heap.size->e.dY≠some b->w'.heap[b]? =w.heap[b]?) (m:∀b o,v b o->I b o\/e.dY=some b\/w.heap.size<=b)
  (s:e'.ok B v w') (q:∀b,e'.dY=some b->e.dY=some b\/w.heap.size<=b):a7 B v w' H':=by
 have bs:∀f:bn,f.ok B I w->(∀b,f.dY=some b->e.dY≠some b)->f.ok B v w':=λf j c=>
  bn.bs j L (λb a=>l b (bn.lO j a).2 (c b a)) (λb a o M=>by
   rcases m b o M with h | h | h
   ·exact h
   ·exact absurd h (c b a)
   ·exact absurd (bn.lO j a).2 (Nat.not_lt.2 h))
 induction hu with
 | head e e' H=>
  obtain⟨C,K⟩:=List.pairwise_cons.1 h.apart;refine⟨λf j=>?_,List.pairwise_cons.2 ⟨λf j b a x=>?_,K⟩⟩
  ·rcases List.mem_cons.1 j with rfl | j
   ·exact s
   ·exact bs f (h.ok f (.tail _ j)) λb a J=>C f j b J a
  ·rcases q b a with r | r
   ·exact C f j b r x
   ·exact absurd (bn.lO (h.ok f (.tail _ j)) x).2 (Nat.not_lt.2 r)
 | tail f e e' H H' hu N=>
  obtain⟨C,K⟩:=List.pairwise_cons.1 h.apart;have A:=N h.tail l m s q bs;have c:∀b,f.dY=some b->e.dY≠some b:=λb a J=>C e hu.mem b a J;refine⟨λg D=>?_,List.pairwise_cons.2 ⟨λg D b a z=>?_,A.apart⟩⟩
  ·rcases List.mem_cons.1 D with rfl | D
   ·exact bs g (h.ok g (.head _)) c
   ·exact A.ok g D
  ·rcases hu.dY g D with rfl | F
   ·rcases q b z with r | r
    ·exact c b a r
    ·exact absurd (bn.lO (h.ok f (.head _)) a).2 (Nat.not_lt.2 r)
   ·exact C g F b a z
def dB(ys:bl):Bool:=ys.all λy=>fa y && (match y with | .agg _=>false | _=>true)
theorem uA{I}{w}:∀{f:bl} {g:dg},bQ I w f g->dB f=true->∀v∈g,v.oneCell'=true
 | _,_,.nil,_,v,a=>by cases a
 | _,_,.cons y u f g h t,c,v,a=>by
  simp only[dB,List.all_cons,Bool.and_eq_true] at c;rcases List.mem_cons.1 a with rfl | a
  ·exact h.one c.1.1 (λcs e=>by subst e;simp at c)
  ·exact uA t c.2 v a
def aj.store{t tb}{p z}{y}{ll g}{b off}{cs}{H'}{agg:Bool}(a4:o.guard=none)(a6:ix c.n o.dst)(h:o.op= .store t p z)
  (ck:aN (aD st.env) p=some (ll,.p b off)) (Y:ll=true) (aH:aN (aD st.env) z=some (g,y)) (aw:g=true) (a8:fa y) (ae:dB (cG y))
  (ht:nQ P t=some (agg,(cG y).length)) (hfit:Nat.ble (off+(cG y).length) cs.length)
  (hu:bG st.H (.au b tb cs) (.au b tb (cs.take off++cG y++cs.drop (off+(cG y).length))) H')
  (next:aj c r P ops rest ⟨iK o.dst .any st.env,H'⟩ Q):aj c r P ops (o::rest) st Q:=by
 intro a w s;refine wpListIn_plain a4 λK eX=>?_;obtain⟨I,hw,he,aU,Z⟩:=s.mem;have a0:=bX ((Z.ops o).get cb ck Y);have A:=yr ((Z.ops o).get cb aH aw) a8;obtain⟨gS,L,q,j,U⟩:=aU.ok _ hu.mem;have S:=uA A ae;have l:(a.eval z).cells.toList.length=(cG y).length:=A.length;have X:L.size=cs.length:=by have:=j.length;simpa using this
 have C:off+0+(a.eval z).cells.toList.length<=L.size:=by
  have:=Nat.le_of_ble_eq_true hfit;rw[l,X];omega
 have m:=run_storeCells_at P b off tb (a.eval z).cells.toList 0 L w q C S;obtain⟨_,a3⟩:=wA ht w;generalize O:(L.toList.take (off+0)++(a.eval z).cells.toList++L.toList.drop (off+0+(a.eval z).cells.toList.length)).toArray=cur at m;have G:(a.eval z).cells.size=(cG y).length:=by simpa using l
 have J:(execOp a.eval o).run P w= .ok .skip (w.setRow b cur):=by
  simp[execOp,h,Instr.storeAt,a0,Instr.sureAddr,storeVar,a3,G,m]
 have f:er I w I (w.setRow b cur):=⟨λ_ _ x=>x,λdI N V=>by
  have F:dI≠b:=λe=>by subst e;exact U N V
  exact World.cell?_of_block (a:=⟨dI,N,none⟩) (setRow_other w b dI cur F)⟩
 have M:Ext c.B I w I (w.setRow b cur):=⟨f.il,f.cell,⟨rfl,rfl,rfl,aS,λk bD=>setRow_other w b k cur aa⟩⟩;have a2:bV c.B I (w.setRow b cur):=⟨wo,λdI N V=>by rw[f.cell dI N V];exact hw.there dI N V⟩;have D:bQ I w (cs.take off++cG y++cs.drop (off+(cG y).length)) cur.toList:=by
  rw[<-O];simp only[Nat.add_zero,l];exact ((j.take off).append A).append (j.drop _)
 have bF:a7 c.B I (w.setRow b cur) H':=by
  refine aU.fE hu f (λk bD F=>setRow_other w b k cur λe=>F wy) (λ_ _ x=>.inl x) ⟨gS,cur,setRow_heap w b L cur tb (0,0) q,D.bs f,U⟩ λk bD=>.inl bD
 refine dt.uw (R:=λv w'=>v=undef/\w'=w.setRow b cur) (E:=λ_ _=>False) cf J ⟨rfl,rfl⟩ K Q ?_ λ_ _ h=>h.elim;rintro v w' ⟨rfl,rfl⟩;refine eX _ _ (next _ _ ⟨iJ,iI,I,a2,he.trans M,bF,((Z.bs f).put rI (.any _))⟩)
def bO.of{f}{fn}{a}{xs}{H}{g}{E}{n}(b8:P.funcs[f]? =some fn)(a8:fn.body=some a)(rK:(fn.name== "runtime.NumGoroutine")=false)
  (hn:fn.ntmps=n) (env) (c:∀t y,aD env t=some y->xs[t]? =some y) (x:xs.length<=n)
  (h:∀B I w,aB ⟨B,I,w,n,[]⟩ none P a ⟨env,H⟩ (bodyPost P fn (e4 B I w g E))):bO P f xs H g E:=by
 refine⟨uk,λB I w j s r l=>uv (n:=0) (callsIn_of_wp b8 a8 trivial ?_ rfl)⟩;refine h B I w _ w ⟨rfl,?_,I,s,Ext.refl _ _ _,r,λt y o=>?_⟩
 ·have:=l.length;simp;omega
 ·obtain⟨v,m,q⟩:=l.get (c t y o);have:(j.toArray++Array.replicate (fn.ntmps - j.toArray.size) undef).getD t undef=v:=by
   have kT:=(List.getElem?_eq_some_iff.1 m).1;simp only[Array.getD_eq_getD_getElem?];rw[Array.getElem?_append_left wu];simp[m]
  rw[this];exact q
end
end Go.Eng

