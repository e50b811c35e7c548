/- A part of the proof. No condition. -/
import Derived.WalkKit
import Derived.OwnWalkIn
import Derived.DefersIn
set_option linter.defProp false
set_option maxHeartbeats 1000000
set_option linter.unusedVariables false
set_option linter.unusedSimpArgs false
namespace Go
def aa{p:Prop}(h:p:=by omega):p:=h
def ao{p:Prop}(h:p:=by decide+kernel):p:=h
def cP{p:Prop}(h:p:=by first | exact ad.cE rfl rfl rfl rfl | (apply ad.iv rfl rfl rfl;(case hm=>repeat (first | exact .head _ | refine .tail _ ?_));(case hy=>rfl))):p:=h
def bE{p:Prop}(h:p:=by repeat (first | exact List.Sublist.refl _ | refine List.Sublist.cons _ ?_)):p:=h
def cU{p:Prop}(h:p:=by first | rfl | ((repeat (first | exact av | rfl | refine Bool.and_eq_true_iff.2 ⟨?_,?_⟩));done) | simp_all [strip,EN]):p:=h
def b9{p:Prop}(h:p:=by first | exact ad.EO rfl rfl rfl rfl | exact ad.EP rfl rfl rfl rfl):p:=h
def ax{p:Prop}(h:p:=by kernel_rfl):p:=h
def dP{p:Prop}(h:p:=by first | rfl | exact fJ (by simp_all) | exact bn (by simp_all) | simp_all):p:=h
def fU{p:Prop}(h:p:=by first | exact ad.nilCheck rfl rfl rfl | exact ad.KI rfl rfl rfl | exact ad.KJ rfl rfl rfl):p:=h
def cD{p:Prop}(h:p:=by first | rfl | simp_all [strip]):p:=h
def gE{p:Prop}(h:p:=by repeat (first | exact List.Sublist.refl _ | apply List.Sublist.cons_cons | refine List.Sublist.cons _ ?_)):p:=h
def na{p:Prop}(h:p:=by repeat (first | exact fV.head _ _ | apply fV.tail)):p:=h
def cd{p:Prop}(h:p:=by simp[h,Op.operands]):p:=h
def hL{p:Prop}(h:p:=by intro v q cj;rcases q with _ | _ | _ | _ | _ | _ | q <;> first | rfl | (cases cj)):p:=h
def k1{p:Prop}(h:p:=by first | exact ad.fC rfl rfl rfl rfl rfl ⟨by omega,by omega⟩ | exact ad.ep rfl rfl rfl rfl rfl ⟨by omega,by omega⟩):p:=h
def nU{p:Prop}(h:p:=by first | exact ad.qv rfl rfl rfl rfl | (apply ad.Bg rfl rfl rfl;(case hm=>repeat (first | exact .head _ | refine .tail _ ?_));(case hy=>rfl);(case hn=>rfl))):p:=h
def k2{p:Prop}(h:p:=by simp only[List.length_map,List.length_singleton,List.length_take,List.length_cons,List.length_nil] at*;omega):p:=h
def h1{p:Prop}(h:p:=by repeat (first | exact trivial | refine⟨rfl,?_⟩)):p:=h
def nc{p:Prop}(h:p:=by simp only[List.length_map,List.length_take,List.length_singleton,List.length_cons,List.length_nil] at*;omega):p:=h
def uj{p:Prop}(h:p:=by repeat (first | exact .head _ | refine .tail _ ?_)):p:=h
def s3{p:Prop}(h:p:=by have dc:=Bh (p:=p) (t:=t) (gen:=gen) (kinds:=kinds) m;have de:=gk;simp only[List.length_map,List.length_singleton,List.length_cons,List.length_nil] at*;omega):p:=h
def aT{p:Prop}(h:p:=by simp):p:=h
def ye{p:Prop}(h:p:=by first | exact⟨ba.1,ba.2.1,ba.2.2.1,ba.2.2.2.1,by omega⟩ | (simp only[oP,pB,List.length_append,List.length_cons,List.length_nil];split <;> (try split) <;> omega) | (simp only[oP,pB,List.length_append,List.length_cons,List.length_nil];omega)):p:=h
def s4{p:Prop}(h:p:=by first | exact .yf inferInstance rfl (by repeat (first | exact .head _ | refine .tail _ ?_)) rfl rfl (.nil) | exact .yg inferInstance rfl rfl (.nil)):p:=h
def gF{p:Prop}(h:p:=by simp[h,Op.operands,Call.operands]):p:=h
def s5{p:Prop}(h:p:=by first | exact .Bi inferInstance rfl (by repeat (first | exact .head _ | refine .tail _ ?_)) rfl (.nil) | exact .KK inferInstance rfl rfl (.nil)):p:=h
def mD{p:Prop}(h:p:=by unfold fW qw;(repeat' split) <;> first | rfl | omega | (simp_all;done)):p:=h
def ey{p:Prop}(h:p:=by unfold fX;omega):p:=h
def yh{p:Prop}(h:p:=by simp_all):p:=h
def cF{p:Prop}(h:p:=by simp;omega):p:=h
def wc{p:Prop}(h:p:=by first | exact .yf inferInstance rfl (by repeat (first | exact .head _ | refine .tail _ ?_)) rfl rfl (.tmp rfl (.nil)) | exact .yg inferInstance rfl rfl (.tmp rfl (.nil))):p:=h
def ck{p:Prop}(h:p:=by simp[h]):p:=h
def j6{p:Prop}(h:p:=by unfold Bj iw;simp_all <;> (intro a;omega)):p:=h
def we{p:Prop}(h:p:=by first | exact ad.fC rfl rfl (cf av) rfl (cf av) ⟨by simp at av,by simp at av⟩ | exact ad.ep rfl rfl (cf av) rfl (cf av) ⟨by simp at av,by simp at av⟩):p:=h
def wg{p:Prop}(h:p:=by have dc:=hM;simp only[List.length_map,List.length_singleton,List.length_take,List.length_cons,List.length_nil,qx,s6] at*;omega):p:=h
def iR{p:Prop}(h:p:=by rw[ER];exact s.size):p:=h
def uk{p:Prop}(h:p:=by first | exact ad.fC rfl rfl rfl rfl rfl (by simpa using bF) | exact ad.ep rfl rfl rfl rfl rfl (by simpa using bF)):p:=h
def pC{p:Prop}(h:p:=by have:=UM (cs:=p.aF) (i:=i) k (λc h=>(a1 c h).2);have akQ:=Nat.mul_le_mul_left 1000 b4;simp only[List.length_map,List.length_singleton,List.length_cons,List.length_nil];omega):p:=h
def wh{p:Prop}(h:p:=by first | exact ad.fC rfl rfl rfl rfl rfl (by rw[a1.oQ];exact bF) | exact ad.ep rfl rfl rfl rfl rfl (by rw[a1.oQ];exact bF)):p:=h
def ES{p:Prop}(h:p:=by first | exact ad.dX rfl rfl rfl rfl rfl (gT (i:=(Y.kids.getD 0 default).toNat) (by omega)) ⟨by omega,by omega⟩ | exact ad.dX rfl rfl rfl rfl rfl (.tail _ (gT (i:=(Y.kids.getD 0 default).toNat) (by omega))) ⟨by omega,by omega⟩):p:=h
def Bk{p:Prop}(h:p:=by have dc:=Bh (p:=p) (t:=g.t) (gen:=gen) (kinds:=kinds) m;have de:=gk;simp only[List.length_map,List.length_singleton,List.length_cons,List.length_nil] at*;omega):p:=h
def ET{p:Prop}(h:p:=by first | exact ad.gm rfl rfl rfl (gT (i:=(Y.kids.getD 0 default).toNat) (by omega)) (hN (by omega)) | exact ad.gm rfl rfl rfl (.tail _ (gT (i:=(Y.kids.getD 0 default).toNat) (by omega))) (hN (by omega))):p:=h
def dt{p:Prop}(h:p:=by repeat (first | exact bG.head _ _ _ | apply bG.tail)):p:=h
def iS{p:Prop}(h:p:=by rw[put_defers];exact s.ds):p:=h
def fY{p:Prop}(h:p:=by rw[a6];exact next):p:=h
def ia{p:Prop}(h:p:=by simp only[maxLen];omega):p:=h
def yi{p:Prop}(h:p:=by first | exact ad.cE rfl rfl rfl rfl | (apply ad.iv rfl rfl rfl;(case hm=>exact List.mem_append_right _ hm);(case hy=>rfl))):p:=h
def Bl{p:Prop}(h:p:=by have dc:=EU h (A.take k);simp only[List.length_map,List.length_take,List.length_singleton,List.length_cons,List.length_nil] at*;omega):p:=h
def wi{p:Prop}(h:p:=by first | exact ad.UN rfl rfl rfl | exact ad.UO rfl rfl rfl rfl | exact ad.UP rfl rfl rfl):p:=h
def Bm{p:Prop}(h:p:=by first | exact ad.cE rfl rfl rfl rfl | (apply ad.iv rfl rfl rfl;(case hm=>exact List.mem_append_right _ (.head _));(case hy=>rfl))):p:=h
def c8{p:Prop}(h:p:=by decide):p:=h
def kD{p:Prop}(h:p:=by exact List.Sublist.refl _):p:=h
def Bn{p:Prop}(h:p:=by first | exact ad.qy rfl rfl rfl | exact ad.KL rfl rfl rfl | exact ad.Bo rfl rfl rfl | exact ad.KM rfl rfl rfl):p:=h
def KN{p:Prop}(h:p:=by have dc:=yj;have de:=UQ (L:=hq kinds i) (k:=k) (x:=(eL:Int)) yj;have dF:=UR eL c (by omega);simp only[List.length_map,List.length_append,List.length_singleton,List.length_cons,List.length_nil] at*;omega):p:=h
def gU{p:Prop}(h:p:=by simpa using h):p:=h
def Bq{p:Prop}(h:p:=by simp only[List.length_map,List.length_append,List.length_singleton,List.length_cons,List.length_nil] at*;omega):p:=h
def EV{p:Prop}(h:p:=by first | exact ad.ep (enc:=λn=>[ab.i n]) (l:=Y.kids) (i:=0) rfl rfl rfl rfl rfl ⟨by omega,by show (0:Int)<(Y.kids.length:Int);omega⟩):p:=h
def fl{p:Prop}(h:p:=by exact rfl):p:=h
def EW{p:Prop}(h:p:=by apply ad.iv rfl rfl rfl;(case hm=>repeat (first | exact .head _ | refine .tail _ ?_));(case hy=>exact ints_at (by rw[yk];exact dz))):p:=h
def Br{p:Prop}(h:p:=by first | exact ad.fC rfl rfl rfl rfl rfl ⟨wj,Bs⟩ | exact ad.ep rfl rfl rfl rfl rfl ⟨wj,Bs⟩):p:=h
def KO{p:Prop}(h:p:=by simp only[List.length_map,List.length_singleton] at*;have dc:=List.length_filterMap_le (λs=>(e3 (k3 p c) s).map λn=>(s,n)) ((cw p c).take k);rw[List.length_take] at dc;omega):p:=h
def EX{p:Prop}(h:p:=by first | exact ad.cE rfl rfl rfl rfl | (apply ad.iv rfl rfl rfl;(case hm=>exact .tail _ (hm _ (.head _)));(case hy=>rfl))):p:=h
def EY{p:Prop}(h:p:=by first | exact ad.fC rfl rfl rfl rfl rfl (by rw[a1.oQ];exact rK) | exact ad.ep rfl rfl rfl rfl rfl (by rw[a1.oQ];exact rK)):p:=h
def cM{p:Prop}(h:p:=by rfl):p:=h
def nV{p:Prop}(h:p:=by rw[List.length_map];omega):p:=h
def Bt{p:Prop}(h:p:=by first | exact λ_=>rfl | exact λh=>h | (intro h;rw[h];rfl) | (intro h;simp_all)):p:=h
def KP{p:Prop}(h:p:=by first | exact ad.call (.inv rfl rfl rfl (by kernel_rfl) rfl rfl) (US p (fu p x) UT yl) | exact ad.call (.inv rfl rfl rfl (by kernel_rfl) rfl rfl) (UU hr p (fu p x))):p:=h
def EZ{p:Prop}(h:p:=by first | exact ad.fC rfl rfl rfl rfl rfl (by simpa using dz) | exact ad.ep rfl rfl rfl rfl rfl (by simpa using dz)):p:=h
def KQ{p:Prop}(h:p:=by simp only[List.length_map,List.length_append,List.length_singleton] at*;have dc:=List.length_filter_le (λx=>x.1==s) (I.take j);rw[List.length_take] at dc;omega):p:=h
def qz{p:Prop}(h:p:=by first | rfl | exact av | simp_all):p:=h
def KR{p:Prop}(h:p:=by have dc:=hM;have de:=jq.1;simp only[List.length_map,List.length_singleton,List.length_take,List.length_cons,List.length_nil,qx,s6] at*;omega):p:=h
def KT{p:Prop}(h:p:=by have dc:=List.length_filter_le (· !=x) (l.take i);simp only[List.length_map,List.length_take,List.length_singleton,List.length_cons,List.length_nil] at*;omega):p:=h
def KU{p:Prop}(h:p:=by first | exact ad.qv rfl rfl rfl rfl | (apply ad.Bg rfl rfl rfl;(case hm=>exact List.mem_append_right _ (.tail _ (.head _)));(case hy=>rfl);(case hn=>rfl))):p:=h
def KV{p:Prop}(h:p:=by obtain⟨a,b⟩:=x;obtain⟨c,d⟩:=y;revert af;cases a <;> cases b <;> cases c <;> cases d <;> first | (intro;rfl) | (intro h;exact absurd h (by decide))):p:=h
def E0{p:Prop}(h:p:=by subst wk;have:((i.bytes*n:Nat):Int)<=281474976710656:=(by omega);rwa [Int.natCast_mul] at this):p:=h
def E1{p:Prop}(h:p:=by apply ad.iv rfl rfl rfl;(case hm=>exact .tail _ (hu default).mem);(case hy=>exact UW aN more)):p:=h
def KW{p:Prop}(h:p:=by have dc:=List.length_filter_le p (l.take i);simp only[List.length_map,List.length_take,List.length_singleton,List.length_cons,List.length_nil] at*;omega):p:=h
def Bu{p:Prop}(h:p:=by have e:k=l.length:=(by omega);rw[e,List.take_length] at kE;exact kE):p:=h
def KX{p:Prop}(h:p:=by simp only[partsOf,List.zip,List.zipWith,List.map,List.length_map,List.length_append,List.length_take,List.length_cons,List.length_nil];omega):p:=h
def E2{p:Prop}(h:p:=by first | (rw[List.cons_append,List.append_assoc];exact List.Sublist.cons _ (List.Sublist.refl _))):p:=h
def oR{p:Prop}(h:p:=by rw[s.size];exact hn):p:=h
def E3{p:Prop}(h:p:=by rw[(nd aK).1,lU];unfold rL;rw[show ((m:Int)).toNat=m from rfl, <-c4,ae]):p:=h
def KY{p:Prop}(h:p:=by first | exact ad.fC rfl rfl (cf av) rfl (cf av) ⟨by omega,by omega⟩ | exact ad.ep rfl rfl (cf av) rfl (cf av) ⟨by omega,by omega⟩):p:=h
def akR{p:Prop}(h:p:=by simp at av):p:=h
def Bv{p:Prop}(h:p:=by show -1000<=_/\_<=1000+(1:Int);simp only[mE];omega):p:=h
def KZ{p:Prop}(h:p:=by first | exact ad.fC rfl rfl rfl rfl rfl (by rw[pD];exact a1) | exact ad.ep rfl rfl rfl rfl rfl (by rw[pD];exact a1)):p:=h
def K0{p:Prop}(h:p:=by first | exact ad.fC rfl rfl rfl rfl rfl (by rw[qx];exact aK) | exact ad.ep rfl rfl rfl rfl rfl (by rw[qx];exact aK)):p:=h
def K1{p:Prop}(h:p:=by rw[List.cons_append,List.cons_append,List.append_assoc];exact .cons _ (.cons _ (.append_left _ (List.perm_append_comm_assoc _ _ _)))):p:=h
def akS{p:Prop}(h:p:=by rw[a1.oQ];exact bF):p:=h
def E4{p:Prop}(h:p:=by have:=(ym (bL l.f.arg (l.f.path.take j))).aw;rw[<-wm] at this;simp;omega):p:=h
def yn{p:Prop}(h:p:=by have:=(E5 xs 0 t y hy).2;simpa using this):p:=h
def K2{p:Prop}(h:p:=by first | exact ad.fC rfl rfl rfl rfl rfl (by rw[kF];exact bF) | exact ad.ep rfl rfl rfl rfl rfl (by rw[kF];exact bF)):p:=h
def K3{p:Prop}(h:p:=by first | exact ad.Bw rfl rfl rfl rfl rfl ⟨by omega,by omega⟩ | exact ad.Bx rfl rfl rfl rfl rfl ⟨by omega,by omega⟩):p:=h
def K4{p:Prop}(h:p:=by rintro _ aK;obtain⟨v,bd,rfl⟩:=List.mem_map.1 aK;rfl):p:=h
def K5{p:Prop}(h:p:=by first | exact ad.fC rfl rfl rfl rfl rfl (by rw[s7];omega) | exact ad.ep rfl rfl rfl rfl rfl (by rw[s7];omega)):p:=h
def K6{p:Prop}(h:p:=by simp only[List.length_map,List.length_singleton,List.length_append,List.length_cons,List.length_nil] at*;omega):p:=h
def akT{p:Prop}(h:p:=by simpa using bF):p:=h
def E6{p:Prop}(h:p:=by rw[show ((lV A j ||| 2^(c:Int).toNat:Nat):Int)=_ from rfl,wo]):p:=h
def K7{p:Prop}(h:p:=by show (0:Int)<(Y.kids.length:Int);omega):p:=h
def rM{p:Prop}(h:p:=by rw[s.size];exact a6):p:=h
def K8{p:Prop}(h:p:=by rw[List.map_map];exact List.all_eq_true.2 (by rintro _ aK;obtain⟨v,bd,rfl⟩:=List.mem_map.1 aK;rfl)):p:=h
def rN{p:Prop}(h:p:=by simp only[gV];omega):p:=h
def nf{p:Prop}(h:p:=by simpa using ae):p:=h
def ng{p:Prop}(h:p:=by simpa using aN):p:=h
def s8{p:Prop}(h:p:=by first | assumption | omega):p:=h
def K9{p:Prop}(h:p:=by first | exact ad.makeFunc rfl rfl rfl (by first | rfl | simp_all [strip]) (by first | rfl | simp_all [strip])):p:=h
def La{p:Prop}(h:p:=by simp only[Bool.cond_true_left,Bool.not_eq_true',Bool.or_eq_false_iff,decide_eq_false_iff_not] at av;omega):p:=h
def qA{p:Prop}(h:p:=by rw[hn];exact mF):p:=h
def By{p:Prop}(h:p:=by rw[List.length_append,List.length_singleton];omega):p:=h
def Bz{p:Prop}(h:p:=by rw[c3 (by omega)];exact List.take_prefix _ _):p:=h
def Lb{p:Prop}(h:p:=by first | exact ad.lW rfl | exact ad.row rfl rfl (by first | rfl | simp_all [strip]) rfl rfl rfl rfl rfl):p:=h
def BA{p:Prop}(h:p:=by have dc:=Lc (Ld aD (Le p av));omega):p:=h
def E7{p:Prop}(h:p:=by show List.length (List.map _ _)+1<=_;rw[List.length_map];omega):p:=h
def Lf{p:Prop}(h:p:=by rw[Int.toNat_natCast];exact um h (by have:=bV _ ak;omega)):p:=h
def oS{p:Prop}(h:p:=by rw[hn];decide):p:=h
def wq{p:Prop}(h:p:=by simp_all [iw,Lg] <;> rfl):p:=h
def BB{p:Prop}(h:p:=by rw[List.length_take,Nat.min_eq_left (by omega)]):p:=h
def uo{p:Prop}(h:p:=by unfold fW qw;simp_all):p:=h
def Lh{p:Prop}(h:p:=by first | exact ad.fC rfl rfl rfl rfl rfl (by omega) | exact ad.ep rfl rfl rfl rfl rfl (by omega)):p:=h
def Li{p:Prop}(h:p:=by rw[show 0+(j:Int).toNat*1=j by simp];exact UX (by rw[qB bF];simpa using dz) _):p:=h
def Lj{p:Prop}(h:p:=by first | exact ad.Bw rfl rfl rfl rfl rfl (by simp) | exact ad.Bx rfl rfl rfl rfl rfl (by simp)):p:=h
def BC{p:Prop}(h:p:=by rw[<-Array.length_toList,List.take_length]):p:=h
def E8{p:Prop}(h:p:=by simp only[jr,Bool.and_eq_true,decide_eq_true_eq];omega):p:=h
def s9{p:Prop}(h:p:=by rw[beq_iff_eq];omega):p:=h
def E9{p:Prop}(h:p:=by simp only[List.length_append,List.length_take,aK.2];omega):p:=h
def Lk{p:Prop}(h:p:=by revert b7;cases fZ (ca p) <;> cases ((ek p.aF:Int)==p.aw) <;> simp):p:=h
def Ll{p:Prop}(h:p:=by have dc:=UY W c i;simp only[List.length_map,List.length_singleton] at*;omega):p:=h
def uq{p:Prop}(h:p:=by simp[nh,b7,ba,rO]):p:=h
def yo{p:Prop}(h:p:=by rw[ER];exact sat.size):p:=h
def oT{p:Prop}(h:p:=by rw[jH];rfl):p:=h
def BD{p:Prop}(h:p:=by simp only[Bool.cond_false_right];exact ae):p:=h
def Lm{p:Prop}(h:p:=by rw[List.all_append,List.all_cons,List.all_nil,Bool.and_true,Bool.cond_false_right]):p:=h
def Ln{p:Prop}(h:p:=by simp only[Bool.cond_false_right,Bool.and_eq_true,decide_eq_true_eq] at wu;omega):p:=h
def BE{p:Prop}(h:p:=by show (0:Int)<((3:Nat):Int);omega):p:=h
def BF{p:Prop}(h:p:=by show (1:Int)<((3:Nat):Int);omega):p:=h
def yp{p:Prop}(h:p:=by simp[Act.eval,Array.replicate]):p:=h
def UZ{p:Prop}(h:p:=by first | exact ad.fC rfl rfl rfl rfl rfl ⟨by rw[c4];omega,by rw[c4];omega⟩ | exact ad.ep rfl rfl rfl rfl rfl ⟨by rw[c4];omega,by rw[c4];omega⟩):p:=h
def BG{p:Prop}(h:p:=by rw[c3 (by omega)];exact qC ae):p:=h
def BH{p:Prop}(h:p:=by have dc:=Lc (U0 p av);omega):p:=h
def Lo{p:Prop}(h:p:=by rw[h.bB];exact List.any_eq_true.2 ⟨l,bq.1,by simp[k4,bq.2,bb,hn]⟩):p:=h
def Lp{p:Prop}(h:p:=by intro q cj;rcases q with _ | _ | _ | _ | _ | _ | q <;> first | rfl | (cases cj)):p:=h
def Lq{p:Prop}(h:p:=by rcases ur with⟨_,ak⟩ | ⟨ae,_⟩;exact ak;rw[hbb] at ae;cases ae):p:=h
def BI{p:Prop}(h:p:=by have dc:=Lr (Le p av);omega):p:=h
def Ls{p:Prop}(h:p:=by show ((kG _).length+1)*80<=_;rw[oU,List.length_map];omega):p:=h
def Lt{p:Prop}(h:p:=by have e:k=l.length:=(by omega);rw[e,List.take_length] at bV;exact bV):p:=h
def Lu{p:Prop}(h:p:=by simp[execOp,h,Instr.alloc,newVar,newRow,zeroValue,typeInfo,rP,hz2]):p:=h
def Fa{p:Prop}(h:p:=by rw[yk];exact dz):p:=h
def Fb{p:Prop}(h:p:=by rw[List.length_map,List.length_map,h.pl,a1.oQ]):p:=h
def Lv{p:Prop}(h:p:=by show (List.length (List.map _ _)+1)*8<=_;rw[List.length_map];omega):p:=h
def yq{p:Prop}(h:p:=by rw[put_defers];exact sat.ds):p:=h
def BJ{p:Prop}(h:p:=by simpa [or_assoc,and_assoc] using af):p:=h
def yr{p:Prop}(h:p:=by rw[List.length_take];omega):p:=h
def yt{p:Prop}(h:p:=by simp[execOp,h,uu]):p:=h
def uv{p:Prop}(h:p:=by rw[uw];exact bK):p:=h
def BK{p:Prop}(h:p:=by simp only[gV];split <;> omega):p:=h
def akU{p:Prop}(h:p:=by rw[a1.oQ];exact rK):p:=h
def Lw{p:Prop}(h:p:=by simp[execOp,h,Instr.box,newVar,newRow]):p:=h
def BL{p:Prop}(h:p:=by simpa [Nat.blt] using ba):p:=h
def ta{p:Prop}(h:p:=by simpa using ak):p:=h
def wv{p:Prop}(h:p:=by simpa using hw.base):p:=h
def tc{p:Prop}(h:p:=by rw[hn];rfl):p:=h
def BM{p:Prop}(h:p:=by first | decide | omega | simp):p:=h
def BN{p:Prop}(h:p:=by show (1:Int)<=1;omega):p:=h
def wx{p:Prop}(h:p:=by simp at av;omega):p:=h
def BO{p:Prop}(h:p:=by rw[hO] at hbb;exact hbb):p:=h
def BP{p:Prop}(h:p:=by rw[h];simp[Op.operands]):p:=h
def yu{p:Prop}(h:p:=by simp[maxLen];omega):p:=h
def akV{p:Prop}(h:p:=by rw[pD];exact a1):p:=h
def akW{p:Prop}(h:p:=by rw[qx];exact aK):p:=h
def wy{p:Prop}(h:p:=by simpa using k5):p:=h
def akX{p:Prop}(h:p:=by simpa using dz):p:=h
def rQ{p:Prop}(h:p:=by simp[ae]):p:=h
def wz{p:Prop}(h:p:=by rw[h];simp):p:=h
def wA{p:Prop}(h:p:=by assumption):p:=h
def Lx{p:Prop}(h:p:=by rw[c4];omega):p:=h
def BQ{p:Prop}(h:p:=by unfold maxLen;omega):p:=h
def wB{p:Prop}(h:p:=by subst e;rfl):p:=h
def U1{p:Prop}(h:p:=by rw[List.length_append,rR.1,yv,Nat.add_mul]):p:=h
end Go
namespace Go.Eng
abbrev cg:=List Oper
abbrev dj:=List Value
abbrev cY:=List Bool
abbrev du:=List Nat
abbrev al:=List Int
open Go.RowKit (Below)
inductive ab where
 | any
 | val (v:Value)
 | aj (k:Nat) (els:List (List ab))
 | as (x:ab) (v:Value)
 | opt (g:Bool) (x:ab)
 | agg (cs:List ab)
 | bj (xs:List ab)
 | fn (f:Fn) (first wC:List ab)
 | iface (t:TypeId) (x:ab)
 | ptr (cells:List ab)
 | fm
 | one
 deriving Inhabited
abbrev bl:=List ab
abbrev ab.i(n:Int):ab:=.val (.int .i64 n)
abbrev ab.b(x:Bool):ab:=.val (.bool x)
abbrev ab.p(b o:Nat):ab:=.val (.pointer (some ⟨b,o,none⟩))
abbrev cr:=Nat->Nat->Prop
mutual
inductive Rel(I:cr)(w:World):ab->Value->Prop
 | any (v:Value):Rel I w .any v
 | val (v:Value):Rel I w (.val v) v
 | dQ (k:Nat) (a:Option Addr) (c:Nat):Rel I w (.aj k []) (.slice a 0 c)
 | aj (k:Nat) (els:List (List ab)) (b off len cap:Nat) (bq:els.length=len) (a1:len<=cap) (hm:cap<=maxLen) (h:fK I w k b off els):Rel I w (.aj k els) (.slice (some ⟨b,off,none⟩) len cap)
 | as (x:ab) (v:Value) (h:Rel I w x v):Rel I w (.as x v) v
 | opt (g:Bool) (x:ab) (v:Value) (h:g=true->Rel I w x v) (af:g=false->v=undef):Rel I w (.opt g x) v
 | agg (cs:List ab) (vs:Array Value) (h:bU I w cs vs.toList):Rel I w (.agg cs) (.agg vs)
 | bj (cs:List ab) (vs:Array Value) (h:bU I w cs vs.toList):Rel I w (.bj cs) (.tuple vs)
 | fn (f:Fn) (cA cs:List ab) (jI hs:Array Value) (b7:bU I w cA jI.toList) (a1:bU I w cs hs.toList):Rel I w (.fn f cA cs) (.func f jI hs)
 | iface (t:TypeId) (x:ab) (v:Value) (h:Rel I w x v):Rel I w (.iface t x) (.iface t v)
 | ptr (cs:List ab) (b o:Nat) (h:Cells I w b o cs):Rel I w (.ptr cs) (.pointer (some ⟨b,o,none⟩))
 | fm (a:Option Addr):Rel I w .fm (.slice a 0 0)
 | single (v:Value) (h:v.oneCell'=true):Rel I w .one v
inductive bU(I:cr)(w:World):List ab->List Value->Prop
 | nil:bU I w [] []
 | cons (x:ab) (v:Value) (xs:List ab) (vs:List Value) (h:Rel I w x v) (t:bU I w xs vs):bU I w (x::xs) (v::vs)
inductive Cells(I:cr)(w:World):Nat->Nat->List ab->Prop
 | nil (b o:Nat):Cells I w b o []
 | cons (b o:Nat) (x:ab) (c:Value) (xs:List ab) (a1:w.cell? ⟨b,o,none⟩=some c) (jq:I b o) (h:Rel I w x c) (t:Cells I w b (o+1) xs):Cells I w b o (x::xs)
inductive fK(I:cr)(w:World):Nat->Nat->Nat->List (List ab)->Prop
 | nil (k b o:Nat):fK I w k b o []
 | cons (k b o:Nat) (cs:List ab) (rest:List (List ab)) (bD:cs.length=k) (h:Cells I w b o cs) (t:fK I w k b (o+k) rest):fK I w k b o (cs::rest)
end
structure Ext(B:Nat)(I:cr)(w:World)(c7:cr)(w':World):Prop where
 ix:∀b o,I b o->c7 b o
 cell:∀b o,I b o->w'.cell? ⟨b,o,none⟩=w.cell? ⟨b,o,none⟩
 below:Below B w w'
def Ext.refl(B)(I)(w):Ext B I w I w:=⟨λ_ _ h=>h,λ_ _ _=>rfl,Below.refl _ _⟩
def Ext.trans{B}{I J K}{w w' a}(h:Ext B I w J w')(c:Ext B J w' K a):Ext B I w K a:=
 ⟨λb o x=>c.ix b o (h.ix b o x),λb o x=>(c.cell b o (h.ix b o x)).trans (h.cell b o x),h.below.trans c.below⟩
def Ext.drew{B}{I J}{w w'}(h:Ext B I w J w'):Ext B I w J w'.drew:=⟨h.ix,h.cell,h.below.drew⟩
structure er(I:cr)(w:World)(c7:cr)(w':World):Prop where
 ix:∀b o,I b o->c7 b o
 cell:∀b o,I b o->w'.cell? ⟨b,o,none⟩=w.cell? ⟨b,o,none⟩
def Ext.keeps{B}{I J}{w w'}(h:Ext B I w J w'):er I w J w':=⟨h.ix,h.cell⟩
mutual
theorem Rel.bw{I A}{w w'}(h:er I w A w'):∀{x:ab} {v:Value},Rel I w x v->Rel A w' x v
 | _,_,.any v=>.any v
 | _,_,.val v=>.val v
 | _,_,.dQ k a c=>.dQ k a c
 | _,_,.aj k els b z len s q m B H=>.aj k els b z len s q m B (.bw h H)
 | _,_,.as x v l=>.as x v (.bw h l)
 | _,_,.opt g x v l D=>.opt g x v (λe=>.bw h (l e)) D
 | _,_,.agg j r q=>.agg j r (.bw h q)
 | _,_,.bj j r q=>.bj j r (.bw h q)
 | _,_,.fn f F j C E G m=>.fn f F j C E (.bw h G) (.bw h m)
 | _,_,.iface t x v l=>.iface t x v (.bw h l)
 | _,_,.ptr j b o m=>.ptr j b o (.bw h m)
 | _,_,.fm a=>.fm a
 | _,_,.single v h=>.single v h
theorem bU.bw{I f}{w w'}(h:er I w f w'):∀{a:bl} {c:dj},bU I w a c->bU f w' a c
 | _,_,.nil=>.nil
 | _,_,.cons x v a c g j=>.cons x v a c (.bw h g) (.bw h j)
theorem Cells.bw{I g}{w w'}(h:er I w g w'):∀{b o:Nat} {a:bl},Cells I w b o a->Cells g w' b o a
 | _,_,_,.nil b o=>.nil b o
 | _,_,_,.cons b o x c a l f j m=>.cons b o x c a ((h.cell b o f).trans l) (h.ix b o f) (.bw h j) (.bw h m)
theorem fK.bw{I c}{w w'}(h:er I w c w'):∀{k b o:Nat} {xs:List bl},fK I w k b o xs->fK c w' k b o xs
 | _,_,_,_,.nil k b o=>.nil k b o
 | _,_,_,_,.cons k b o j a g f l=>.cons k b o j a g (.bw h f) (.bw h l)
end
theorem bU.length{I}{w}:∀{a:bl} {vs:dj},bU I w a vs->vs.length=a.length
 | _,_,.nil=>rfl
 | _,_,.cons _ _ _ _ _ t=>by simp[bU.length t]
theorem bU.get{I}{w}:∀{c:bl} {a:dj},bU I w c a->∀{i:Nat} {x:ab},c[i]? =some x->∃v,a[i]? =some v/\Rel I w x v
 | _,_,.nil,_,_,h=>by simp at h
 | _,_,.cons x v c a f g,0,y,h=>⟨v,aT,by simp at h;exact h▸f⟩
 | _,_,.cons x v c a f g,i+1,y,h=>by
  obtain⟨u,ae,j⟩:=g.get (i:=i) (x:=y) gU;exact⟨u,nf,j⟩
theorem Cells.get{I}{w}:∀{b o:Nat} {a:bl},Cells I w b o a->∀{i:Nat} {x:ab},a[i]? =some x->∃c,w.cell? ⟨b,o+i,none⟩=some c/\I b (o+i)/\Rel I w x c
 | _,_,_,.nil _ _,_,_,h=>by simp at h
 | _,_,_,.cons b o x c a g j f l,0,y,h=>⟨c,by simpa using g,by simpa using j,by simp at h;exact h▸f⟩
 | _,_,_,.cons b o x c a g j f l,i+1,y,h=>by
  obtain⟨u,q,m,r⟩:=l.get (i:=i) (x:=y) gU;refine⟨u,?_,?_,r⟩
  ·rw[<-q];congr 2;omega
  ·have:o+(i+1)=o+1+i:=by omega
   rw[this];exact m
theorem Cells.drop{I}{w}:∀(i:Nat) {b o:Nat} {a:bl},Cells I w b o a->Cells I w b (o+i) (a.drop i)
 | 0,_,_,_,h=>h
 | i+1,_,_,_,.nil b o=>.nil b _
 | i+1,_,_,_,.cons b o x c a j l g f=>by
  have:=Cells.drop i f;have e:o+(i+1)=o+1+i:=by omega
  rw[e];exact this
theorem Cells.take{I}{w}:∀(i:Nat) {b o:Nat} {a:bl},Cells I w b o a->Cells I w b o (a.take i)
 | 0,_,_,_,_=>.nil _ _
 | i+1,_,_,_,.nil b o=>.nil b o
 | i+1,_,_,_,.cons b o x c a g h f j=>.cons b o x c _ g h f (.take i j)
theorem Cells.append{I}{w}:∀{b o:Nat} {a f:bl},Cells I w b o a->Cells I w b (o+a.length) f->Cells I w b o (a++f)
 | _,_,_,_,.nil b o,h=>by simpa using h
 | _,_,_,f,.cons b o x c a j l g m,h=>by
  refine .cons b o x c _ j l g (.append m ?_);have e:o+(x::a).length=o+1+a.length:=by simp;omega
  rw[<-e];exact h
theorem fK.get{I}{w}:∀{k b o:Nat} {xs:List bl},fK I w k b o xs->∀{i:Nat} {cs:bl},xs[i]? =some cs->cs.length=k/\Cells I w b (o+i*k) cs
 | _,_,_,_,.nil _ _ _,_,_,h=>by simp at h
 | _,_,_,_,.cons k b o cs a f c g,0,y,h=>by simp at h;subst h;exact⟨f,by simpa using c⟩
 | _,_,_,_,.cons k b o cs a f c g,i+1,y,h=>by
  obtain⟨l,j⟩:=g.get (i:=i) (cs:=y) gU;refine⟨l,?_⟩;have e:o+(i+1)*k=o+k+i*k:=by rw[Nat.add_mul];omega
  rw[e];exact j
theorem fK.drop{I}{w}:∀(i:Nat) {k b o:Nat} {xs:List bl},fK I w k b o xs->fK I w k b (o+i*k) (xs.drop i)
 | 0,_,_,_,_,h=>by simpa using h
 | i+1,_,_,_,_,.nil k b o=>.nil _ _ _
 | i+1,_,_,_,_,.cons k b o j a g f c=>by
  have:=fK.drop i c;have e:o+(i+1)*k=o+k+i*k:=by rw[Nat.add_mul];omega
  rw[e];exact this
theorem fK.take{I}{w}:∀(i:Nat) {k b o:Nat} {xs:List bl},fK I w k b o xs->fK I w k b o (xs.take i)
 | 0,_,_,_,_,_=>.nil _ _ _
 | i+1,_,_,_,_,.nil k b o=>.nil _ _ _
 | i+1,_,_,_,_,.cons k b o g a c f h=>.cons k b o g _ c f (.take i h)
theorem fK.append{I}{w}:∀{k b o:Nat} {xs c:List bl},fK I w k b o xs->fK I w k b (o+xs.length*k) c->fK I w k b o (xs++c)
 | _,_,_,_,_,.nil k b o,h=>by simpa using h
 | _,_,_,_,c,.cons k b o f a j g l,h=>by
  refine .cons k b o f _ j g (.append l ?_);have e:o+(f::a).length*k=o+k+a.length*k:=by rw[List.length_cons,Nat.add_mul];omega
  rw[<-e];exact h
theorem fK.cells{I}{w}:∀{k b o:Nat} {xs:List bl},fK I w k b o xs->Cells I w b o xs.flatten
 | _,_,_,_,.nil k b o=>.nil _ _
 | _,_,_,_,.cons k b o h a f c g=>by
  rw[List.flatten_cons];exact .append c (by rw[f];exact g.cells)
theorem fK.Ly{I}{w}:∀{k b o:Nat} {xs:List bl},fK I w k b o xs->xs.flatten.length=xs.length*k
 | _,_,_,_,.nil k b o=>by simp
 | _,_,_,_,.cons k b o h a c g f=>by rw[List.flatten_cons,List.length_append,f.Ly,c,List.length_cons,Nat.add_mul];omega
theorem Cells.values{I}{w}:∀{b o:Nat} {f:bl},Cells I w b o f->∃a:dj,bU I w f a/\∀j v,a[j]? =some v->w.cell? ⟨b,o+j,none⟩=some v
 | _,_,_,.nil b o=>⟨[],.nil,aT⟩
 | _,_,_,.cons b o x c f l s g r=>by
  obtain⟨a,q,m⟩:=r.values;refine⟨c::a,.cons _ _ _ _ g q,λj v h=>?_⟩;cases j with
  | zero=>simp at h;subst h;simpa using l
  | succ j=>
   have:=m j v gU;have e:o+(j+1)=o+1+j:=by omega
   rw[e];exact this
inductive br where
 | au (b:Nat) (t:TypeId) (cs:List ab)
 | own (t:TypeId) (k:Nat) (v:Value)
 | row (t:TypeId) (k:Nat) (v:Value) (n:Nat) (cs:List ab)
 | obj (b:Nat) (o:Obj)
 | map (b:Nat) (es:List (Value×ab))
 | loop (b:Nat) (fD:Loop) (ρ:Nat->Option ab)
 | lmap (b:Nat) (nW:Value->Prop) (κ:Value->List ab) (d:List ab)
 | gn (b:Nat) (nW:Value->Prop) (κ:Value->ab)
 deriving Inhabited
abbrev aC:=List br
def br.dY:br->Option Nat
 | .au b _ _=>some b
 | .own _ _ v=>v.ownBlock
 | .row _ _ v _ _=>v.ownBlock
 | .obj b _=>some b
 | .map b _=>some b
 | .loop b _ _=>some b
 | .lmap b _ _ _=>some b
 | .gn b _ _=>some b
def br.ok(B:Nat)(I:cr)(w:World):br->Prop
 | .au b t cs=>B<=b/\∃vs:Array Value,w.heap[b]? =some (.cells vs t (0,0))/\bU I w cs vs.toList/\∀o,¬I b o
 | .own t k v=>∃n xs,w.ownsRow B t k v n xs/\∀g,v.ownBlock=some g->∀o,n*k<=o->¬I g o
 | .row t k v n cs=>∃xs,w.ownsRow B t k v n xs/\bU I w cs xs/\∀g,v.ownBlock=some g->∀o,¬I g o
 | .obj b dR=>B<=b/\w.heap[b]? =some dR/\∀o,¬I b o
 | .map b es=>B<=b/\(∃(entries:Array MapEntry) (clock:Nat),w.heap[b]? =some (.map entries clock)/\entries.toList.map (·.key)=es.map (·.1)/\bU I w (es.map (·.2)) (entries.toList.map (·.val)))/\∀o,¬I b o
 | .lmap b nW κ d=>B<=b/\(∃(entries:Array MapEntry) (clock:Nat),w.heap[b]? =some (.map entries clock)/\(∀e∈entries.toList,nW e.key/\Rel I w (.ptr (κ e.key)) e.val)/\∀v,nW v->(∀e∈entries.toList,e.key≠v)->κ v=d)/\∀o,¬I b o
 | .gn b nW κ=>B<=b/\(∃(entries:Array MapEntry) (clock:Nat),w.heap[b]? =some (.map entries clock)/\∀e∈entries.toList,nW e.key/\Rel I w (κ e.key) e.val)/\∀o,¬I b o
 | .loop b fD ρ=>B<=b/\w.heap[b]? =some (.loop fD)/\(∀t x,ρ t=some x->Rel I w x (fD.tmps.getD t undef))/\∀o,¬I b o
structure a7(B:Nat)(I:cr)(w:World)(H:aC):Prop where
 ok:∀e∈H,e.ok B I w
 apart:H.Pairwise λe f=>∀b,e.dY=some b->f.dY≠some b
structure bY(B:Nat)(I:cr)(w:World):Prop where
 base:B<=w.heap.size
 there:∀b o,I b o->∃c,w.cell? ⟨b,o,none⟩=some c
def bY.lt{B}{I}{w}(h:bY B I w){b o}(g:I b o):b<w.heap.size:=by
 obtain⟨c,f⟩:=h.there b o g;exact World.block_lt_of_cell? (a:=⟨b,o,none⟩) w f
def bY.drew{B}{I}{w}(h:bY B I w):bY B I w.drew:=⟨h.base,h.there⟩
def br.lX{B}{I}{w}{e:br}(h:e.ok B I w){b:Nat}(a:e.dY=some b):B<=b/\b<w.heap.size:=by
 cases e with
 | au j t q=>
  obtain⟨c,vs,f,_⟩:=h;simp[br.dY] at a;subst a;exact⟨c,(Array.getElem?_eq_some_iff.1 f).1⟩
 | own t k v=>
  obtain⟨n,xs,c,_⟩:=h;exact c.lt b a
 | row t k v n q=>
  obtain⟨xs,c,_⟩:=h;exact c.lt b a
 | obj j o=>
  simp[br.dY] at a;subst a;exact⟨h.1,(Array.getElem?_eq_some_iff.1 h.2.1).1⟩
 | map j z=>
  simp[br.dY] at a;subst a;obtain⟨c,⟨ct,dv,f,_⟩,_⟩:=h;exact⟨c,(Array.getElem?_eq_some_iff.1 f).1⟩
 | loop j fD ρ=>
  simp[br.dY] at a;subst a;exact⟨h.1,(Array.getElem?_eq_some_iff.1 h.2.1).1⟩
 | lmap j g κ d=>
  simp[br.dY] at a;subst a;obtain⟨c,⟨ct,dv,f,_⟩,_⟩:=h;exact⟨c,(Array.getElem?_eq_some_iff.1 f).1⟩
 | gn j g κ=>
  simp[br.dY] at a;subst a;obtain⟨c,⟨ct,dv,f,_⟩,_⟩:=h;exact⟨c,(Array.getElem?_eq_some_iff.1 f).1⟩
def a7.nil{B}{I}{w}:a7 B I w []:=⟨aT,.nil⟩
def a7.tail{B}{I}{w}{e}{H}(h:a7 B I w (e::H)):a7 B I w H:=
 ⟨λx a=>h.ok x (.tail _ a),(List.pairwise_cons.1 h.apart).2⟩
def a7.sub{B}{I}{w}{H H'}(h:a7 B I w H)(a:H'.Sublist H):a7 B I w H':=
 ⟨λx c=>h.ok x (a.subset c),h.apart.sublist a⟩
def br.bw{B}{I M}{w w'}{e:br}(h:e.ok B I w)(bD:er I w M w')(m:∀b,e.dY=some b->w'.heap[b]? =w.heap[b]?)
  (aN:∀b,e.dY=some b->∀o,M b o->I b o):e.ok B M w':=by
 cases e with
 | au b t T=>
  obtain⟨c,vs,f,l,G⟩:=h;exact⟨c,vs,(m b rfl).trans f,l.bw bD,λo bb=>G o (aN b rfl o bb)⟩
 | own t k v=>
  obtain⟨n,xs,c,f⟩:=h;refine⟨n,xs,?_,λg F o bb L=>f g F o bb (aN g F o L)⟩;refine⟨c.1,?_⟩;rcases c.2 with hn | ⟨g,r,s,rfl,A,Fe,rest⟩
  ·exact .inl hn
  ·exact .inr ⟨g,r,s,rfl,A,(m g rfl).trans Fe,rest⟩
 | row t k v n T=>
  obtain⟨xs,c,bK,f⟩:=h;refine⟨xs,?_,bK.bw bD,λg F o L=>f g F o (aN g F o L)⟩;refine⟨c.1,?_⟩;rcases c.2 with hn | ⟨g,r,s,rfl,A,Fe,rest⟩
  ·exact .inl hn
  ·exact .inr ⟨g,r,s,rfl,A,(m g rfl).trans Fe,rest⟩
 | obj b o=>exact⟨h.1,(m b rfl).trans h.2.1,λo' bb=>h.2.2 o' (aN b rfl o' bb)⟩
 | map b W=>
  obtain⟨c,⟨ct,dv,f,l,G⟩,E⟩:=h;exact⟨c,⟨ct,dv,(m b rfl).trans f,l,G.bw bD⟩,λo bb=>E o (aN b rfl o bb)⟩
 | lmap b D κ d=>
  obtain⟨c,⟨ct,dv,f,l,G⟩,E⟩:=h;exact⟨c,⟨ct,dv,(m b rfl).trans f,λe H=>⟨(l e H).1,(l e H).2.bw bD⟩,G⟩,λo bb=>E o (aN b rfl o bb)⟩
 | gn b D κ=>
  obtain⟨c,⟨ct,dv,f,l⟩,E⟩:=h;exact⟨c,⟨ct,dv,(m b rfl).trans f,λe H=>⟨(l e H).1,(l e H).2.bw bD⟩⟩,λo bb=>E o (aN b rfl o bb)⟩
 | loop b fD ρ=>exact⟨h.1,(m b rfl).trans h.2.1,λt x ht=>(h.2.2.1 t x ht).bw bD,λo' bb=>h.2.2.2 o' (aN b rfl o' bb)⟩
def a7.bw{B}{I a}{w w'}{H}(h:a7 B I w H)(f:er I w a w')(g:∀e∈H,∀b,e.dY=some b->w'.heap[b]? =w.heap[b]?)
  (j:∀e∈H,∀b,e.dY=some b->∀o,a b o->I b o):a7 B a w' H:=
 ⟨λe c=>br.bw (h.ok e c) f (g e c) (j e c),h.apart⟩
def a7.drew{B}{I}{w}{H}(h:a7 B I w H):a7 B I w.drew H:=
 h.bw ⟨λ_ _ x=>x,λ_ _ _=>rfl⟩ (λ_ _ _ _=>rfl) λ_ _ _ _ _ x=>x
def lY{B}{I}{w}(h:bY B I w)(o):er I w I (w.alloc o):=
 ⟨λ_ _ x=>x,λb i x=>World.cell?_alloc_lt w o ⟨b,i,none⟩ (h.lt x)⟩
def jJ{B}{I}{w}(h:bY B I w)(o):Ext B I w I (w.alloc o):=
 ⟨λ_ _ x=>x,λb i x=>World.cell?_alloc_lt w o ⟨b,i,none⟩ (h.lt x),(Below.refl _ _).alloc h.base o⟩
def bY.alloc{B}{I}{w}(h:bY B I w)(o):bY B I (w.alloc o):=
 ⟨by have:=h.base;simp;omega,λb i x=>by rw[(lY h o).cell b i x];exact h.there b i x⟩
def a7.alloc{B}{I}{w}{H}(h:a7 B I w H)(c:bY B I w)(o):a7 B I (w.alloc o) H:=
 h.bw (lY c o) (λe f b a=>Below.heap_alloc w o b (br.lX (h.ok e f) a).2) λ_ _ _ _ _ x=>x
def a7.new{B}{I}{w}{H}(h:a7 B I w H)(a:bY B I w)(t)(cs)(vs)(o:bU I w cs vs.toList):
  a7 B I (w.alloc (.cells vs t)) (.au w.heap.size t cs::H):=by
 have j:=h.alloc a (.cells vs t);refine⟨λe c=>?_,List.pairwise_cons.2 ⟨λf m b g=>?_,j.apart⟩⟩
 ·rcases List.mem_cons.1 c with rfl | c
  ·refine⟨a.base,vs,heap_alloc_new w _,o.bw (lY a _),λo l=>?_⟩;exact absurd (a.lt l) (Nat.lt_irrefl _)
  ·exact j.ok e c
 ·simp[br.dY] at g;subst g;intro e;exact absurd (br.lX (h.ok f m) e).2 (Nat.lt_irrefl _)
def cr.add(I:cr)(b:Nat)(n:Nat):cr:=λdL o=>I dL o\/(dL=b/\o<n)
def cr.ux{B}{I}{w}(z:bY B I w)(t)(vs):
  bY B (I.add w.heap.size vs.size) (w.alloc (.cells vs t))/\Ext B I w (I.add w.heap.size vs.size) (w.alloc (.cells vs t))/\
  (∀H,a7 B I w H->a7 B (I.add w.heap.size vs.size) (w.alloc (.cells vs t)) H)/\
  (∀xs:bl,bU I w xs vs.toList->Cells (I.add w.heap.size vs.size) (w.alloc (.cells vs t)) w.heap.size 0 xs):=by
 have e:=jJ z (.cells vs t);have k:er I w (I.add w.heap.size vs.size) (w.alloc (.cells vs t)):=⟨λ_ _ x=>.inl x,e.cell⟩;refine⟨⟨(z.alloc _).base,λb o h=>?_⟩,⟨k.ix,k.cell,e.below⟩,λH h=>?_,λxs h=>?_⟩
 ·rcases h with h | ⟨rfl,h⟩
  ·exact (z.alloc _).there b o h
  ·exact⟨vs[o],by rw[World.cell?_alloc_new];exact Array.getElem?_eq_getElem h⟩
 ·refine h.bw k (λe K b q=>Below.heap_alloc w _ b (br.lX (h.ok e K) q).2) λf E b q o g=>?_;rcases g with g | ⟨rfl,_⟩
  ·exact g
  ·exact absurd (br.lX (h.ok f E) q).2 (Nat.lt_irrefl _)
 ·have m:∀(a:bl) (c:dj) (o:Nat),bU I w a c->c=vs.toList.drop o->Cells (I.add w.heap.size vs.size) (w.alloc (.cells vs t)) w.heap.size o a:=by
   intro a
   induction a with
   | nil=>intro c o _ _;exact .nil _ _
   | cons y a F=>
    intro c o G C;cases G with
    | cons _ v _ s D J=>
     have A:vs.toList[o]? =some v:=by
      have:=congrArg (λl=>l[0]?) C;simpa using this.symm
     have r:o<vs.size:=by
      have:=(List.getElem?_eq_some_iff.1 A).1;simpa using this
     refine .cons _ _ _ v _ ?_ (.inr ⟨rfl,r⟩) (D.bw k) (F s (o+1) J ?_)
     ·rw[World.cell?_alloc_new];simpa using A
     ·have:=congrArg List.tail C;simpa [List.tail_drop] using this
  exact m xs vs.toList 0 h aT
def bx(r:Option Nat):Fence:={fn:=λ_=>True,depth:=none,alive:=false,round:=r}
def Ff{r}{n}{P}{f}{args}{w}{R}(h:Calls P f args w R):CallsIn (bx r) n P f args w R:=
 (callsIn_wide (n:=n)).2 h
def uy{n}{P}{f}{args}{w}{R}(h:CallsIn (bx none) n P f args w R):Calls P f args w R:=
 (callsIn_wide (n:=n)).1 h
def aE:List (Nat×ab)->Nat->Option ab
 | [],_=>none
 | (s,x)::r,t=>bif Nat.beq t s then some x else aE r t
def k6(s)(x)(r)(t:Nat):aE ((s,x)::r) t=if t=s then some x else aE r t:=by
 simp only[aE];by_cases h:t=s
 ·subst h;simp
 ·have a:Nat.beq t s=false:=by
   rw[Bool.eq_false_iff];intro e;exact h (Nat.eq_of_beq_eq_true e)
  simp[h,a]
def iT(dst:Option Nat)(x:ab)(env:List (Nat×ab)):List (Nat×ab):=
 match dst with
 | some d=>(d,x)::env
 | none=>env
def iF(n:Nat):Option Nat->Bool
 | some d=>Nat.blt d n
 | none=>true
def EN:Value->ab
 | .agg vs=>.agg (vs.toList.map .val)
 | v=>.val v
theorem lA{I}{w}:∀l:dj,bU I w (l.map .val) l
 | []=>.nil
 | v::r=>.cons _ _ _ _ (.val v) (lA r)
def Fg{I}{w}(v):Rel I w (EN v) v:=by
 cases v <;> first | exact .val _ | exact .agg _ _ (lA _)
def iU(ρ:Nat->Option ab):Operand->Option ab
 | .tmp t=>ρ t
 | .const v=>some (EN v)
 | .global g=>some (.val (.pointer (some ⟨g,0,none⟩)))
 | .func f=>some (.fn (.func f) [] [])
def strip:ab->Bool×ab
 | .opt g x=>(g,x)
 | x=>(true,x)
def aO(ρ:Nat->Option ab)(x:Operand):Option (Bool×ab):=(iU ρ x).map strip
def js(ρ:Nat->Option ab):List Operand->Option (List (Bool×ab))
 | []=>some []
 | x::r=>match aO ρ x,js ρ r with
  | some y,some l=>some (y::l)
  | _,_=>none
def fL(I:cr)(w:World)(ρ:Nat->Option ab)(a:Act):Prop:=∀t x,ρ t=some x->Rel I w x (a.tmps.getD t undef)
def fo(I:cr)(w:World)(ρ:Nat->Option ab)(a:Act)(o:Oper):Prop:=∀x∈o.op.operands,∀y,iU ρ x=some y->Rel I w y (a.eval x)
def fL.eval{I}{w}{ρ}{a}(h:fL I w ρ a){x}{y}(aK:iU ρ x=some y):Rel I w y (a.eval x):=by
 cases x with
 | tmp t=>exact h t y aK
 | const v=>simp[iU] at aK;subst aK;exact Fg v
 | global g=>simp[iU] at aK;subst aK;exact .val _
 | func f=>simp[iU] at aK;subst aK;exact .fn _ _ _ _ _ .nil .nil
def fL.ops{I}{w}{ρ}{a}(h:fL I w ρ a)(o):fo I w ρ a o:=λ_ _ _ c=>h.eval c
def fL.bw{I c}{w w'}{ρ}{a}(h:fL I w ρ a)(k:er I w c w'):fL c w' ρ a:=λt x f=>(h t x f).bw k
def Lz{I}{w}{x y}{g}{v}(h:Rel I w x v)(a:strip x=(g,y))(f:g=true):Rel I w y v:=by
 cases x with
 | opt j z=>simp[strip] at a;obtain⟨rfl,rfl⟩:=a;cases h with | opt _ _ _ h _=>exact h f
 | _=>simp[strip] at a;obtain⟨_,rfl⟩:=a;exact h
def fo.get{I}{w}{ρ}{a}{o}(h:fo I w ρ a o){x}(hm:x∈o.op.operands){y}{g}(c:aO ρ x=some (g,y))(f:g=true):Rel I w y (a.eval x):=by
 unfold aO at c;cases he:iU ρ x with
 | none=>simp[he] at c
 | some z=>simp[he] at c;exact Lz (h x hm z he) c f
def td{I}{w}{ρ}{a}{o}(h:fo I w ρ a o):∀(l:List Operand) (f:List (Bool×ab)),(∀x∈l,x∈o.op.operands)->js ρ l=some f->
  (∀y∈f,y.1=true)->bU I w (f.map (·.2)) (l.map a.eval)
 | [],f,_,c,_=>by simp[js] at c;subst c;exact .nil
 | x::r,f,m,c,q=>by
  simp[js] at c;split at c
  ·rename_i y l s t;simp at c;subst c;exact .cons _ _ _ _ (h.get (m x aT) (y:=y.2) (g:=y.1) s (q y aT)) (td h r l (λz j=>m z (by simp[j])) t (λz j=>q z (by simp[j])))
  ·cases c
def dw(P:Program)(r:Option Nat)(o:Oper)(a:Act)(w:World)(R:Value->World->Prop)(E:List PanicEntry->World->Prop):Prop:=
 ∀(K:Act->World->Prop) (Q:Exit->Act->World->Prop),(∀v w',R v w'->K (a.put o.dst v) w')->(∀ch w',E ch w'->Q (.panic ch) a w')->o.wpIn (bx r) 0 P a w K Q
section
variable{P:Program}{r:Option Nat}{o:Oper}{a:Act}{w w':World}{R:Value->World->Prop}{E:List PanicEntry->World->Prop}
def dw.mono{g}{j}(h:dw P r o a w R E)(hR:∀v f,R v f->g v f)(m:∀c f,E c f->j c f):dw P r o a w g j:=
 λK Q l q=>h K Q (λv f x=>l v f (hR v f x)) (λv f x=>q v f (m v f x))
def dw.e4{v}(f:∀c,o.op≠ .defer c)(h:(execOp a.eval o).run P w= .ok (.value v) w')(hR:R v w'):dw P r o a w R E:=by
 intro K Q g _;refine⟨λ_ _=>trivial,?_⟩;rw[Oper.semAt_eq _ _ _ f,h];exact g v w' hR
def dw.uz(f:∀c,o.op≠ .defer c)(h:(execOp a.eval o).run P w= .ok .skip w')(hR:R undef w'):dw P r o a w R E:=by
 intro K Q g _;refine⟨λ_ _=>trivial,?_⟩;rw[Oper.semAt_eq _ _ _ f,h];exact g undef w' hR
def dw.U2{v}(f:∀c,o.op≠ .defer c)(h:(execOp a.eval o).run P w= .halt (.panic v) w')(j:E [{v,recovered:=false}] w'):dw P r o a w R E:=by
 intro K Q _ g;refine⟨λ_ _=>trivial,?_⟩;rw[Oper.semAt_eq _ _ _ f,h];exact g _ w' j
def dw.qD{f}{args}(x:∀c,o.op≠ .defer c)(h:(execOp a.eval o).run P w= .ok (.enter f args) w')
  (t:Calls P f args w' λe j7=>match e with | .returned v=>R v j7 | .panicked c=>E c j7 | .outgrown=>False):dw P r o a w R E:=by
 intro K Q s z;refine⟨λ_ _=>trivial,?_⟩;rw[Oper.semAt_eq _ _ _ x,h,Oper.uponIn_enter];refine⟨λh=>by simp[bx] at h,Ff (t.mono λe j7 h=>?_)⟩;cases e with
 | returned v=>exact s v j7 h
 | panicked c=>exact z c j7 h
 | outgrown=>exact h.elim
def dw.LA{l}{f}{tmps}{assign j}(a6:∀c,o.op≠ .defer c)(h:(execOp a.eval o).run P w= .ok (.round l f tmps assign j) w')
  (z:RoundIn (bx r) 0 P l f tmps assign j w' λe j7=>match e with | .returned v=>R v j7 | .panicked c=>E c j7 | .outgrown=>False):dw P r o a w R E:=by
 intro K Q x B;refine⟨λ_ _=>trivial,?_⟩;rw[Oper.semAt_eq _ _ _ a6,h,Oper.uponIn_round];refine⟨λh=>by simp[bx] at h,z.mono λe j7 h=>?_⟩;cases e with
 | returned v=>exact x v j7 h
 | panicked c=>exact B c j7 h
 | outgrown=>exact h.elim
end
def ad(P:Program)(H:aC)(ρ:Nat->Option ab)(o:Oper)(x:ab):Prop:=
 ∀(B:Nat) (I:cr) (w:World) (r:Option Nat) (a:Act) (ni:aC),bY B I w->a7 B I w ni->(∀e∈H,e∈ni)->fo I w ρ a o->
  dw P r o a w (λv w'=>∃c7,bY B c7 w'/\Ext B I w c7 w'/\a7 B c7 w' ni/\Rel c7 w' x v) (λ_ _=>False)
structure Ctx where
 B:Nat
 c9:cr
 bN:World
 n:Nat
 ds:List Deferred
structure dT where
 env:List (Nat×ab)
 H:aC
structure Sat(c:Ctx)(st:dT)(a:Act)(w:World):Prop where
 ds:a.defers=c.ds
 size:a.tmps.size=c.n
 mem:∃I,bY c.B I w/\Ext c.B c.c9 c.bN I w/\a7 c.B I w st.H/\fL I w (aE st.env) a
def ai(c:Ctx)(r:Option Nat)(P:Program)(ops:Array Oper)(l:cg)(st:dT)(Q:Exit->Act->World->Prop):Prop:=
 ∀a w,Sat c st a w->wpListIn (bx r) 0 P ops Q l a w
def aA(c:Ctx)(r:Option Nat)(P:Program)(code:Code)(st:dT)(Q:Exit->Act->World->Prop):Prop:=
 ∀a w,Sat c st a w->code.wpIn (bx r) 0 P Q a w
def aZ(c:Ctx)(st:dT)(e:Exit)(Q:Exit->Act->World->Prop):Prop:=∀a w,Sat c st a w->Q e a w
def pE{a:Act}{d}{v}(h:d<a.tmps.size):(a.put (some d) v).tmps.getD d undef=v:=by
 simp[Act.put,Array.getD,h]
def lB{a:Act}{d t}{v}(h:t≠d):(a.put (some d) v).tmps.getD t undef=a.tmps.getD t undef:=by
 simp[Act.put,Array.getD_eq_getD_getElem?];rw[Array.getElem?_setIfInBounds_ne (Ne.symm h)]
def ER{a:Act}{d}{v}:(a.put d v).tmps.size=a.tmps.size:=by
 cases d <;> simp[Act.put]
def put_defers{a:Act}{d}{v}:(a.put d v).defers=a.defers:=by
 cases d <;> rfl
def fL.put{I}{w}{env}{a}{dst}{x}{v}(h:fL I w (aE env) a)(g:iF a.tmps.size dst)(f:Rel I w x v):
  fL I w (aE (iT dst x env)) (a.put dst v):=by
 cases dst with
 | none=>exact h
 | some d=>
  intro t y c;simp[iT,k6] at c;split at c
  ·rename_i e;subst e;simp at c;subst c;rw[pE (Nat.lt_of_succ_le (by simpa [iF,Nat.blt] using g))];exact f
  ·rename_i e;rw[lB e];exact h t y c
section
variable{c:Ctx}{r:Option Nat}{P:Program}{ops:Array Oper}{l rest:cg}{o:Oper}{st:dT}{Q:Exit->Act->World->Prop}{x:ab}
def ai.nil(h:aZ c st .normal Q):ai c r P ops [] st Q:=λa w s=>h a w s
def ai.pop(A:o.guard=none)(a6:iF c.n o.dst)(h:ad P st.H (aE st.env) o x)(next:ai c r P ops rest ⟨iT o.dst x st.env,st.H⟩ Q):ai c r P ops (o::rest) st Q:=by
 intro a w s;refine wpListIn_plain A λK q=>?_;obtain⟨I,C,D,t,l⟩:=s.mem;refine h c.B I w r a st.H C t (λ_ x=>x) (l.ops o) K Q ?_ λ_ _ h=>h.elim;rintro v E ⟨z,j,f,g,m⟩;refine q _ _ (next _ _ ⟨iS,iR,z,j,D.trans f,g,((l.bw f.keeps).put rM m)⟩)
def nj:Option ab->Bool->Option Bool
 | some (.val (.bool b)),true=>some b
 | some (.val (.bool b)),false=>some (!b)
 | some (.opt g (.val (.bool b))),true=>some (g && b)
 | some (.opt g (.val (.bool b))),false=>some (g && !b)
 | _,_=>none
def Fh{I}{w}{a:Act}{y}{j d:Nat}{want G:Bool}(B:(ops[j]?).bind (·.dst)=some d)(q:o.guard=some (j,want))
  (hy:∀z,y=some z->Rel I w z (a.tmps.getD d undef)) (f:nj y want=some G) (r:d<a.tmps.size):Region.wanted o (yielded ops a.tmps)=G:=by
 have s:a.tmps[d]? =some (a.tmps.getD d undef):=by
  simp[Array.getD,r]
 have hw:Region.wanted o (yielded ops a.tmps)=(yielded ops a.tmps j==some want):=by simp[Region.wanted,q]
 rw[hw];unfold yielded;rw[B];simp only[Option.bind_some,s]
 match y,hy,f with
 | some (.val (.bool b)),hy,f=>
  have h:=hy _ rfl;generalize a.tmps.getD d undef=u at h;cases h;cases want <;> cases b <;> simp[nj] at f <;> subst f <;> rfl
 | some (.opt g (.val (.bool b))),hy,f=>
  have h:=hy _ rfl;generalize a.tmps.getD d undef=u at h;cases h with
  | opt _ _ _ t m=>
   cases g with
   | false=>rw[m rfl];cases want <;> simp[nj] at f <;> subst f <;> rfl
   | true=>
    have x:=t rfl;cases x;cases want <;> cases b <;> simp[nj] at f <;> subst f <;> rfl
def ai.guarded{j d}{g G}(O:o.guard=some (j,g))(M:(ops[j]?).bind (·.dst)=some d)(C:Nat.blt d c.n)(L:nj (aE st.env d) g=some G)
  (a6:iF c.n o.dst) (h:G=true->ad P st.H (aE st.env) o x) (next:ai c r P ops rest ⟨iT o.dst (.opt G x) st.env,st.H⟩ Q):ai c r P ops (o::rest) st Q:=by
 intro a w s;obtain⟨I,D,F,E,q⟩:=s.mem;have l:=Fh (I:=I) (w:=w) (a:=a) M O (λz K=>q d z K) L (by rw[s.size];exact Nat.lt_of_succ_le (by simpa [Nat.blt] using C));unfold wpListIn;rw[l];cases G with
 | true=>
  rw[if_pos rfl];refine h rfl c.B I w r a st.H D E (λ_ x=>x) (q.ops o) _ Q ?_ λ_ _ h=>h.elim;rintro v R ⟨N,A,m,t,J⟩;refine next _ _ ⟨iS,iR,N,A,F.trans m,t,((q.bw m.keeps).put rM (.opt _ _ _ (λ_=>J) λe=>by cases e))⟩
 | false=>
  rw[if_neg aT];refine⟨λ_ _=>trivial,next _ _ ⟨iS,iR,I,D,F,E,?_⟩⟩;exact q.put rM (.opt _ _ _ (λe=>by cases e) λ_=>rfl)
def aA.seq{p q}(h:aA c r P p st (Exit.then (q.wpIn (bx r) 0 P Q) Q)):aA c r P (.seq p q) st Q:=λa w s=>wpIn_seq (h a w s)
def aA.skip(h:aZ c st .normal Q):aA c r P .skip st Q:=λa w s=>wpIn_skip (h a w s)
def aA.ret(h:aZ c st .ret Q):aA c r P .ret st Q:=λa w s=>wpIn_ret (h a w s)
def aA.exit{id}(h:aZ c st (.exit id) Q):aA c r P (.exit id) st Q:=λa w s=>wpIn_exit (h a w s)
def aA.block{id}{p}(h:aA c r P p st (Exit.inBlock id Q)):aA c r P (.block id p) st Q:=λa w s=>wpIn_block (h a w s)
def aA.region{id}{l}(h:ai c r P l.toArray l st Q):aA c r P (.region id l.toArray false) st Q:=λa w s=>wpIn_region_lit (h a w s)
def aA.cond{t}{b}{p q}(ht:aE st.env t=some (.val (.bool b)))(h:b=true->aA c r P p st Q)(j:b=false->aA c r P q st Q):aA c r P (.cond (.tmp t) p q) st Q:=by
 intro a w s;obtain⟨I,o,v,m,l⟩:=s.mem;have f:=l t _ ht;have g:a.eval (.tmp t)= .bool b:=by
  show a.tmps.getD t undef= .bool b;generalize a.tmps.getD t undef=u at f;cases f;rfl
 cases b with
 | true=>exact wpIn_cond_true g (h rfl a w s)
 | false=>exact wpIn_cond_false g (j rfl a w s)
def aZ.seq{q}(h:aA c r P q st Q):aZ c st .normal (Exit.then (q.wpIn (bx r) 0 P Q) Q):=h
def aZ.U3{id}{K}(h:aZ c st (.exit id) Q):aZ c st (.exit id) (Exit.then K Q):=h
def aZ.U4{K}(h:aZ c st .ret Q):aZ c st .ret (Exit.then K Q):=h
def aZ.U5{id}(h:aZ c st .normal Q):aZ c st .normal (Exit.inBlock id Q):=h
def aZ.U6{id}(h:aZ c st .ret Q):aZ c st .ret (Exit.inBlock id Q):=h
def aZ.U7{id}(h:aZ c st .normal Q):aZ c st (.exit id) (Exit.inBlock id Q):=λa w s=>by
 simp[Exit.inBlock,if_true];exact h a w s
def aZ.U8{id f}(g:Nat.beq id f=false)(h:aZ c st (.exit id) Q):aZ c st (.exit id) (Exit.inBlock f Q):=λa w s=>by
 have:id≠f:=λe=>by subst e;simp at g
 simp[Exit.inBlock,if_neg this];exact h a w s
def Sat.weaken{st'}{a}{w}(s:Sat c st a w)(f:∀t y,aE st'.env t=some y->aE st.env t=some y)(g:st'.H.Sublist st.H):Sat c st' a w:=
 ⟨s.ds,s.size,let ⟨I,hw,aK,aW,bd⟩:=s.mem;⟨I,hw,aK,aW.sub g,λt y h=>bd t y (f t y h)⟩⟩
def nk:List (Nat×ab)->List (Nat×ab)->Prop
 | [],_=>True
 | (t,y)::r,env=>aE env t=some y/\nk r env
theorem lZ{e}:∀{c:List (Nat×ab)},nk c e->∀t y,aE c t=some y->aE e t=some y
 | [],_,t,y,h=>by simp[aE] at h
 | (s,z)::r,h,t,y,a=>by
  rw[k6] at a;split at a
  ·rename_i f;subst f;simp at a;subst a;exact h.1
  ·exact lZ h.2 t y a
def aA.weaken{p}{st'}(g:nk st'.env st.env)(f:st'.H.Sublist st.H)(h:aA c r P p st' Q):aA c r P p st Q:=
 λa w s=>h a w (s.weaken (lZ g) f)
def aA.loop{ι:Type}(inv:ι->dT)(BR:ι->Nat)(i0:ι){p}(he:nk (inv i0).env st.env)(iV:(inv i0).H.Sublist st.H)
  (round:∀i,aA c r P p (inv i) (Exit.then (λa w=>∃j,BR j<BR i/\Sat c (inv j) a w) Q)):aA c r P (.loop p) st Q:=by
 intro a w s b k cs nX ba bK;have key:∀m i a w,BR i=m->Sat c (inv i) a w->
   ∃e I w',Q e I w'/\ArrivesIn (Machine.fenced P (bx r)) P (lone (b.atR a (.code p::.inLoop p::k)) cs w) b k cs e I w':=by
  intro m
  induction m using Nat.strongRecOn with
  | _ m fv=>
   intro i a w hn jq;obtain⟨e,h,fM,cj,et⟩:=round i a w jq b (.inLoop p::k) cs nX ba bK;cases e with
   | normal=>
    obtain⟨j,k5,Fi⟩:=cj;obtain⟨yw,B,nm,oV,pF⟩:=fv (BR j) (hn▸k5) j h fM rfl Fi;exact⟨yw,B,nm,oV,.of_steps (StepsIn.trans et (.one (fenced_calm ba bK rfl) stepR_inLoop)) pF⟩
   | exit id=>exact⟨_,h,fM,cj,.pass (x:=.inLoop p) rfl (λ_ _=>.inl aT) et⟩
   | goto l=>exact⟨_,h,fM,cj,.pass (x:=.inLoop p) rfl (λ_ _=>.inl aT) et⟩
   | ret=>exact⟨_,h,fM,cj,.pass (x:=.inLoop p) rfl (λ_ _=>.inl aT) et⟩
   | panic ch=>exact⟨_,h,fM,cj,.pass (x:=.inLoop p) rfl (λ_ _=>.inl aT) et⟩
   | outgrown=>exact⟨_,h,fM,cj,.pass (x:=.inLoop p) rfl (λ_ _=>.inl aT) et⟩
 obtain⟨e,I,w',cj,et⟩:=key _ i0 a w rfl (s.weaken (lZ he) iV);exact⟨e,I,w',cj,.of_steps (.one (fenced_calm ba bK rfl) stepR_loop) et⟩
def aZ.again{ι:Type}{inv:ι->dT}{f:ι->Nat}{i:ι}(j:ι)(g:f j<f i)(l:nk (inv j).env st.env)(h:(inv j).H.Sublist st.H):
  aZ c st .normal (Exit.then (λa w=>∃j,f j<f i/\Sat c (inv j) a w) Q):=
 λa w s=>⟨j,g,s.weaken (lZ l) h⟩
end
section
variable{P:Program}{H:aC}{ρ:Nat->Option ab}{o:Oper}
def ad.same{y}(m:∀c,o.op≠ .defer c)(h:∀(I:cr) (w:World) (a:Act),fo I w ρ a o->∃v,(execOp a.eval o).run P w= .ok (.value v) w/\Rel I w y v):ad P H ρ o y:=by
 intro B I w r a s l j _ g;obtain⟨v,q,f⟩:=h I w a g;exact .e4 m q ⟨I,l,.refl _ _ _,j,f⟩
def ad.yx{y}(m:∀c,o.op≠ .defer c)(h:∀(B:Nat) (I:cr) (w:World) (a:Act),(∀e∈H,e.ok B I w)->fo I w ρ a o->∃v,(execOp a.eval o).run P w= .ok (.value v) w/\Rel I w y v):ad P H ρ o y:=by
 intro B I w r a x l f q j;obtain⟨v,s,g⟩:=h B I w a (λe t=>f.ok e (q e t)) j;exact .e4 m s ⟨I,l,.refl _ _ _,f,g⟩
def ad.eq{x y}(h:ad P H ρ o x)(e:x=y):ad P H ρ o y:=e▸h
def ad.move{x}{y}{g}(h:o.op= .move x)(c:aO ρ x=some (g,y))(j:g=true):ad P H ρ o y:=
 .same ck λI w a f=>⟨a.eval x,by simp[execOp,h],f.get cd c j⟩
def ad.assign{x}{y}{g}(h:o.op= .assign x)(c:aO ρ x=some (g,y))(j:g=true):ad P H ρ o y:=
 .same ck λI w a f=>⟨a.eval x,by simp[execOp,h],f.get cd c j⟩
def bZ{I}{w}{u v}(h:Rel I w (.val u) v):v=u:=by cases h;rfl
def ad.pick{c x y}{b p q}{t s r}(h:o.op= .pick c x y)(z:aO ρ c=some (t,.b b))(g:t=true)(v:aO ρ x=some (s,.b p))(hy:aO ρ y=some (r,.b q))
  (l:b=true->s=true) (f:b=false->r=true):ad P H ρ o (.b (bif b then p else q)):=by
 refine .same ck λI w a j=>?_;have m:=bZ (j.get cd z g);cases b with
 | true=>exact⟨a.eval x,by simp[execOp,h,m,asBool],by rw[bZ (j.get cd v (l rfl))];exact .val _⟩
 | false=>exact⟨a.eval y,by simp[execOp,h,m,asBool],by rw[bZ (j.get cd hy (f rfl))];exact .val _⟩
def LB:BinOp->Int->Int->Option Bool
 | .eql,a,b=>some (a==b)
 | .neq,a,b=>some (a !=b)
 | .lss,a,b=>some (decide (a<b))
 | .leq,a,b=>some (decide (a<=b))
 | .gtr,a,b=>some (decide (a>b))
 | .geq,a,b=>some (decide (a>=b))
 | _,_,_=>none
def ad.cmp{op}{t z}{x y}{k}{a b}{q l c}(h:o.op= .binOp op t x y z)(s:aO ρ x=some (q,.val (.int k a)))(hy:aO ρ y=some (l,.val (.int k b)))
  (j:q=true) (g:l=true) (m:LB op a b=some c):ad P H ρ o (.b c):=by
 refine .same ck λI w f r=>?_;have v:=bZ (r.get cd s j);have A:=bZ (r.get cd hy g);refine⟨.bool c,?_,.val _⟩;cases op <;> simp[LB] at m <;> subst m <;> simp[execOp,h,v,A,eqGuard,binOp,Op.intCmp]
def LC:BinOp->Int->Int->Option Int
 | .add,a,b=>some (a+b)
 | .sub,a,b=>some (a - b)
 | .mul,a,b=>some (a*b)
 | _,_,_=>none
def ad.arith{op}{t A}{x y}{k}{a b c d}{q l}(h:o.op= .binOp op t x y A)(v:aO ρ x=some (q,.val (.int k a)))(hy:aO ρ y=some (l,.val (.int k b)))
  (j:q=true) (g:l=true) (m:LC op a b=some c) (s:k.wrap c=d):ad P H ρ o (.val (.int k d)):=by
 refine .same ck λI w f r=>?_;have z:=bZ (r.get cd v j);have B:=bZ (r.get cd hy g);refine⟨.int k d,?_,.val _⟩;subst s;cases op <;> simp[LC] at m <;> subst m <;> simp[execOp,h,z,B,eqGuard,binOp,Op.intArith]
def wrap64{n}(h: -9223372036854775808<=n/\n<=9223372036854775807):IntKind.i64.wrap n=n:=IntWalk.i64_in n h
def pG(op:BinOp)(k:IntKind)(x y:Int):Option Int:=
 match op with
 | .and=>some (k.wrap (BitVec.ofInt k.bits x &&& BitVec.ofInt k.bits y).toNat)
 | .or=>some (k.wrap (BitVec.ofInt k.bits x ||| BitVec.ofInt k.bits y).toNat)
 | .xor=>some (k.wrap (BitVec.ofInt k.bits x^^^BitVec.ofInt k.bits y).toNat)
 | .andNot=>some (k.wrap (BitVec.ofInt k.bits x &&& ~~~BitVec.ofInt k.bits y).toNat)
 | _=>none
def ad.bits{op}{t z}{x y}{k}{a b c}{q l}(h:o.op= .binOp op t x y z)(s:aO ρ x=some (q,.val (.int k a)))(hy:aO ρ y=some (l,.val (.int k b)))
  (j:q=true) (g:l=true) (m:pG op k a b=some c):ad P H ρ o (.val (.int k c)):=by
 refine .same ck λI w f r=>?_;have v:=bZ (r.get cd s j);have A:=bZ (r.get cd hy g);refine⟨.int k c,?_,.val _⟩;cases op <;> simp[pG] at m <;> subst m <;> simp[execOp,h,v,A,eqGuard,binOp,Op.intBits]
def uA(op:BinOp)(k:IntKind)(x y:Int):Option Int:=
 match op with
 | .shl=>some (k.wrap (x*2^(min y.toNat k.bits)))
 | .shr=>some (x.fdiv (2^(min y.toNat k.bits)))
 | _=>none
def ad.shift{op}{t z}{x y}{k C}{a b c}{q l}(h:o.op= .binOp op t x y z)(s:aO ρ x=some (q,.val (.int k a)))(hy:aO ρ y=some (l,.val (.int C b)))
  (j:q=true) (g:l=true) (D:0<=b) (m:uA op k a b=some c):ad P H ρ o (.val (.int k c)):=by
 refine .same ck λI w f r=>?_;have v:=bZ (r.get cd s j);have B:=bZ (r.get cd hy g);have A: ¬b<0:=by omega
 refine⟨.int k c,?_,.val _⟩;cases op <;> simp[uA] at m <;> subst m <;> simp[execOp,h,v,B,eqGuard,binOp,Op.shift,A]
def ad.div{op}{t v}{x y}{k}{a b c}{m l}(h:o.op= .binOp op t x y v)(r:aO ρ x=some (m,.val (.int k a)))(hy:aO ρ y=some (l,.val (.int k b)))
  (j:m=true) (g:l=true) (B:b≠0) (z:(op= .quo/\c=k.wrap (a.tdiv b))\/(op= .rem/\c=a.tmod b)):ad P H ρ o (.val (.int k c)):=by
 refine .same ck λI w f q=>?_;have s:=bZ (q.get cd r j);have A:=bZ (q.get cd hy g);refine⟨.int k c,?_,.val _⟩;rcases z with⟨rfl,rfl⟩ | ⟨rfl,rfl⟩ <;> simp[execOp,h,s,A,eqGuard,binOp,Op.intDiv,B]
def ad.te{op}{t z}{x y}{a b c}{q m}(h:o.op= .binOp op t x y z)(v:aO ρ x=some (q,.b a))(hy:aO ρ y=some (m,.b b))
  (j:q=true) (g:m=true) (ht:P.underlying t=some .bool) (A:(op= .eql/\c=(a==b))\/(op= .neq/\c=(a !=b))):ad P H ρ o (.b c):=by
 refine .same ck λI w f s=>?_;have l:=bZ (s.get cd v j);have r:=bZ (s.get cd hy g);refine⟨.bool c,?_,.val _⟩;rcases A with⟨rfl,rfl⟩ | ⟨rfl,rfl⟩
 ·simp[execOp,h,l,r,eqGuard,run_eql_bool w t a b ht]
 ·simp[execOp,h,l,r,eqGuard,run_neq_bool w t a b ht];cases a <;> cases b <;> rfl
def ad.not{t}{x}{a g}(h:o.op= .unOp .not t x)(c:aO ρ x=some (g,.b a))(l:g=true):ad P H ρ o (.b (!a)):=by
 refine .same ck λI w f m=>?_;have j:=bZ (m.get cd c l);exact⟨.bool (!a),by simp[execOp,h,j,Op.unary],.val _⟩
def ad.neg{t}{x}{k}{a d}{g}(h:o.op= .unOp .neg t x)(c:aO ρ x=some (g,.val (.int k a)))(l:g=true)(q:k.wrap (0 - a)=d):ad P H ρ o (.val (.int k d)):=by
 refine .same ck λI w f m=>?_;have j:=bZ (m.get cd c l);subst q;exact⟨.int k (k.wrap (0 - a)),by simp[execOp,h,j,Op.unary,Op.intArith],.val _⟩
def ad.extract{x}{i}{xs}{y}{g}(h:o.op= .extract x i)(c:aO ρ x=some (g,.bj xs))(s:g=true)(A:xs[i]? =some y):ad P H ρ o y:=by
 refine .same ck λI w f l=>?_;have a:=l.get cd c s;generalize q:f.eval x=u at a;cases a with
 | bj _ m r=>
  obtain⟨v,j,t⟩:=r.get A;exact⟨v,by
   have z:m[i]? =some v:=by simpa using j
   simp[execOp,h,q,Instr.extract,z],t⟩
def pH(P:Program)(t:TypeId):Bool:=match P.underlying t with | some (.slice _)=>true | _=>false
def Fj{P}{t}(h:pH P t):P.underlying t=some (.slice (P.elem t)):=by
 unfold pH at h;unfold Program.elem;split at h
 ·rename_i e a;rw[a]
 ·cases h
def yy(t)(a)(n c)(ht:pH P t)(w)(f):(Builtin.len_ #[t] f #[.slice a n c]).run P w= .ok (.int .i64 n) w:=
 run_len_slice w t f a n c (Fj ht)
def ad.len{x}{t}{k}{els}{g}(h:o.op= .call {callee:=.builtin .len,args:=#[x],argTypes:=#[t]})(aK:aO ρ x=some (g,.aj k els))(z:g=true)(ht:pH P t):
  ad P H ρ o (.i els.length):=by
 refine .same ck λI w f r=>?_;have m:=r.get gF aK z;generalize l:f.eval x=u at m;refine⟨.int .i64 els.length,?_,.val _⟩;cases m with
 | dQ k a c=>simp[execOp,h,l,resolve,invoke,builtin,yy t a 0 c ht w]
 | aj k els b off len j s C B D=>simp[execOp,h,l,resolve,invoke,builtin,yy t _ len j ht w,s]
def ad.U9{x}{t}{k}{els}{v}{g}(h:o.op= .call {callee:=.builtin .len,args:=#[x],argTypes:=#[t]})(aK:aO ρ x=some (g,.as (.aj k els) v))(av:g=true)(ht:pH P t):
  ad P H ρ o (.i els.length):=by
 refine .same ck λI w f bb=>?_;have ae:=bb.get gF aK av;generalize bd:f.eval x=u at ae;refine⟨.int .i64 els.length,?_,.val _⟩;cases ae with
 | as _ _ ae=>
 cases ae with
 | dQ k a c=>simp[execOp,h,bd,resolve,invoke,builtin,yy t a 0 c ht w]
 | aj k els b off len cap bq a1 hm he=>simp[execOp,h,bd,resolve,invoke,builtin,yy t _ len cap ht w,bq]
def ad.Va{x}{t}{a}{n c}{g}(h:o.op= .call {callee:=.builtin .len,args:=#[x],argTypes:=#[t]})(j:aO ρ x=some (g,.val (.slice a n c)))(m:g=true)(ht:pH P t):
  ad P H ρ o (.i n):=by
 refine .same ck λI w f q=>?_;have l:=bZ (q.get gF j m);exact⟨.int .i64 n,by simp[execOp,h,l,resolve,invoke,builtin,yy t a n c ht w],.val _⟩
def qE(P:Program)(t:TypeId):Option Nat:=match P.underlying t with | some (.slice e)=>(P.info? e).map (·.size) | _=>none
def nY{P}{t}{k}(h:qE P t=some k):∃e i,P.underlying t=some (.slice e)/\P.info? e=some i/\i.size=k:=by
 unfold qE at h;split at h
 ·rename_i e a;cases aN:P.info? e with
  | none=>simp[aN] at h
  | some i=>simp[aN] at h;exact⟨e,i,a,aN,h⟩
 ·cases h
def Fk{t}{k:Nat}(ht:qE P t=some k)(b off len cap:Nat)(h:IntKind)(i:Int)(a:0<=i)(f:i<len)(w:World):
  (Instr.indexAt t (.slice (some ⟨b,off,none⟩) len cap) (.int h i)).run P w= .ok (.pointer (some ⟨b,off+i.toNat*k,none⟩)) w:=by
 obtain⟨e,c,m,l,g⟩:=nY ht;have j:0<=i/\i<(len:Int):=⟨a,f⟩;simp[Instr.indexAt,asIntOf,run_underlying m,sizeOf,typeInfo,l,g,j,Addr.add_lit]
def ad.index{t}{x y}{k}{els}{hr}{i}{cs}{z B}(h:o.op= .indexAddr t x y)(aK:aO ρ x=some (z,.aj k els))(hy:aO ρ y=some (B,.val (.int hr i)))
  (j:z=true) (m:B=true) (ht:qE P t=some k) (D:0<=i) (r:els[i.toNat]? =some cs):ad P H ρ o (.ptr cs):=by
 refine .same ck λI w f v=>?_;have A:=v.get cd aK j;have E:=bZ (v.get cd hy m);generalize bd:f.eval x=u at A;cases A with
 | dQ k a c=>simp at r
 | aj k els b off len l L K J I=>
  have q:i<(len:Int):=by
   have:=(List.getElem?_eq_some_iff.1 r).1;omega
  exact⟨.pointer (some ⟨b,off+i.toNat*k,none⟩),by simp[execOp,h,bd,E,Fk ht b off len l hr i D q w],.ptr _ _ _ (I.get r).2⟩
def LD{c:Type}[Inhabited c]{l:List c}{i}(h:i<l.length):l[i]? =some (l.getD i default):=by
 simp[List.getD,h]
def ad.Vb{f:Type}[Inhabited f]{enc:f->bl}{l:List f}{t:TypeId}{x y:Operand}{k:Nat}{s:IntKind}{i:Nat}{m j:Bool}(h:o.op= .indexAddr t x y)(q:aO ρ x=some (m,.aj k (l.map enc)))(hy:aO ρ y=some (j,.val (.int s (i:Int))))
  (g:m=true) (c:j=true) (ht:qE P t=some k) (r:i<l.length):ad P H ρ o (.ptr (enc (l.getD i default))):=
 .index h q hy g c ht aa (by rw[Int.toNat_natCast,List.getElem?_map,LD r];rfl)
def ad.Vc{f:Type}[Inhabited f]{enc:f->bl}{l:List f}{t:TypeId}{x y:Operand}{k:Nat}{s:IntKind}{i:Int}{q m:Bool}(h:o.op= .indexAddr t x y)(r:aO ρ x=some (q,.aj k (l.map enc)))(hy:aO ρ y=some (m,.val (.int s i)))
  (j:q=true) (c:m=true) (ht:qE P t=some k) (g:0<=i) (v:i<l.length):ad P H ρ o (.ptr (enc (l.getD i.toNat default))):=
 .index h r hy j c ht g (by rw[List.getElem?_map,LD (show i.toNat<l.length by omega)];rfl)
def ad.slice{t}{x}{lo B}{k}{els}{l n:Nat}{V gl gh:Bool}{kl kh:IntKind}(h:o.op= .slice t x lo B none)(aK:aO ρ x=some (V,.aj k els))(L:V=true)
  (Fl:match lo with | none=>l=0 | some y=>aO ρ y=some (gl,.val (.int kl (l:Int)))) (BS:gl=true) (j:match B with | none=>n=els.length | some y=>aO ρ y=some (gh,.val (.int kh (n:Int)))) (O:gh=true)
  (ht:qE P t=some k) (ae:l<=n) (ak:n<=els.length):ad P H ρ o (.aj k ((els.take n).drop l)):=by
 refine .same ck λI w f bb=>?_;have bK:=bb.get cd aK L;have Q:∀y,lo=some y->f.eval y= .int kl (l:Int):=λy e=>by
  subst e;exact bZ (bb.get cd Fl BS)
 have A:∀y,B=some y->f.eval y= .int kh (n:Int):=λy e=>by
  subst e;exact bZ (bb.get cd j O)
 obtain⟨e,inf,hu,m,F⟩:=nY ht;generalize bd:f.eval x=u at bK;have key:∀(a:Option Addr) (len g:Nat),u= .slice a len g->els.length=len->len<=g->(execOp f.eval o).run P w= .ok (.value (.slice (if g=l then a else a.map (·.add (l*k))) (n - l) (g - l))) w:=by
  intro a len g Vd r T;rw[Vd] at bd;have hn:n<=g:=by omega
  have Ve:l<=n:=by omega
  cases lo with
  | none=>
   simp only at Fl;subst Fl;cases B with
   | none=>
    simp only at j;subst j;simp[execOp,h,bd,Instr.sliceAt,run_underlying hu,Instr.slice,Instr.sliceBounds,sizeOf,typeInfo,m,F,r]
   | some y=>
    have:=A y rfl;simp[execOp,h,bd,this,Instr.sliceAt,run_underlying hu,Instr.slice,Instr.sliceBounds,Instr.sliceBound,asIntOf,sizeOf,typeInfo,m,F,hn]
  | some z=>
   have aD:=Q z rfl;cases B with
   | none=>
    simp only at j;subst j;have R:l<=len:=by omega
    simp[execOp,h,bd,aD,Instr.sliceAt,run_underlying hu,Instr.slice,Instr.sliceBounds,Instr.sliceBound,asIntOf,sizeOf,typeInfo,m,F,r,R]
   | some y=>
    have:=A y rfl;simp[execOp,h,bd,aD,this,Instr.sliceAt,run_underlying hu,Instr.slice,Instr.sliceBounds,Instr.sliceBound,asIntOf,sizeOf,typeInfo,m,F,hn,Ve]
 cases bK with
 | dQ k a c=>
  refine⟨_,key a 0 c rfl rfl (Nat.zero_le _),?_⟩;have:n=0:=by simpa using ak
  subst this;have:l=0:=by omega
  subst this;simp;exact .dQ _ _ _
 | aj k els b off len g bq T hm j8=>
  refine⟨_,key _ len g rfl bq T,?_⟩;have hlen:((els.take n).drop l).length=n - l:=by simp;omega
  by_cases aD:n=l
  ·subst aD;have fm:(els.take n).drop n= []:=by simp
   rw[fm];simp;exact .dQ _ _ _
  ·have K: ¬g=l:=by omega
   simp only[if_neg K,Option.map_some,Addr.add_lit];exact .aj k _ b _ _ _ hlen aa aa ((j8.take n).drop l)
def nZ(P:Program)(t:TypeId):Option (Bool×Nat):=
 match P.underlying t,P.info? t with
 | some (.struct _),some i=>some (true,i.size)
 | some (.array _ _),some i=>some (true,i.size)
 | some _,some i=>some (false,i.size)
 | _,_=>none
def wD{t}{agg}{n}(h:nZ P t=some (agg,n))(w):(isAgg t).run P w= .ok agg w/\(sizeOf t).run P w= .ok n w:=by
 unfold nZ at h;split at h
 ·rename_i a c;simp at h;obtain⟨rfl,rfl⟩:=h;exact⟨by simp[isAgg,run_underlying a],by simp[sizeOf,typeInfo,c]⟩
 ·rename_i a c;simp at h;obtain⟨rfl,rfl⟩:=h;exact⟨by simp[isAgg,run_underlying a],by simp[sizeOf,typeInfo,c]⟩
 ·rename_i d i f g a c;simp at h;obtain⟨rfl,rfl⟩:=h;refine⟨?_,by simp[sizeOf,typeInfo,c]⟩;simp only[isAgg,Sem.run_bind,run_underlying a,Result.andThen_ok];cases d <;> first | rfl | (exfalso;exact f _ a c) | (exfalso;exact g _ _ a c) | simp_all
 ·cases h
def BT{t}{n}(h:nZ P t=some (true,n))(b o)(vs:dj)(w:World)(a:vs.length=n)(f:∀j v,vs[j]? =some v->w.cell? ⟨b,o+j,none⟩=some v):
  (loadVar t ⟨b,o,none⟩).run P w= .ok (.agg vs.toArray) w:=by
 obtain⟨c,g⟩:=wD h w;subst a;have l:=run_loadCells_list (P:=P) w ⟨b,o,none⟩ vs (λj v m=>by rw[Addr.add_lit];exact f j v m);simp[loadVar,c,g,l]
def yz{t}{n}(h:nZ P t=some (false,n))(b o)(v)(w)(a:w.cell? ⟨b,o,none⟩=some v):(loadVar t ⟨b,o,none⟩).run P w= .ok v w:=by
 obtain⟨c,f⟩:=wD h w;simp[loadVar,c,a]
def ad.Vf{t}{x}{cs}{n}{g}(h:o.op= .load t x)(l:aO ρ x=some (g,.ptr cs))(v:g=true)(ht:nZ P t=some (true,n))(hn:Nat.ble n cs.length):ad P H ρ o (.agg (cs.take n)):=by
 refine .same ck λI w f q=>?_;have j:=q.get cd l v;generalize r:f.eval x=u at j;cases j with
 | ptr _ b c m=>
  obtain⟨a,ak,z⟩:=(m.take n).values;have s:a.length=n:=by rw[ak.length,List.length_take];exact Nat.min_eq_left (Nat.le_of_ble_eq_true hn)
  refine⟨.agg a.toArray,?_,.agg _ _ ta⟩;simp[execOp,h,r,Instr.loadAt,Instr.sureAddr,BT ht b c a w s z]
def ad.Vg{t}{x}{cs}{y}{n}{g}(h:o.op= .load t x)(j:aO ρ x=some (g,.ptr cs))(r:g=true)(ht:nZ P t=some (false,n))(hn:cs[0]? =some y):ad P H ρ o y:=by
 refine .same ck λI w f m=>?_;have c:=m.get cd j r;generalize q:f.eval x=u at c;cases c with
 | ptr _ b a l=>
  obtain⟨v,ak,_,s⟩:=l.get hn;exact⟨v,by simp[execOp,h,q,Instr.loadAt,Instr.sureAddr,yz ht b a v w ta],s⟩
def jK{w:World}{b}{vs}{t}{fr}(h:w.heap[b]? =some (.cells vs t fr))(o):w.cell? ⟨b,o,none⟩=vs[o]? :=by
 simp[World.cell?,h]
theorem bU.drop{I}{w}:∀(n:Nat) {xs:bl} {vs:dj},bU I w xs vs->bU I w (xs.drop n) (vs.drop n)
 | 0,_,_,h=>h
 | n+1,_,_,.nil=>.nil
 | n+1,_,_,.cons _ _ _ _ _ t=>.drop n t
theorem bU.take{I}{w}:∀(n:Nat) {xs:bl} {vs:dj},bU I w xs vs->bU I w (xs.take n) (vs.take n)
 | 0,_,_,_=>.nil
 | n+1,_,_,.nil=>.nil
 | n+1,_,_,.cons _ _ _ _ h t=>.cons _ _ _ _ h (.take n t)
theorem bU.append{I}{w}:∀{a c:bl} {vs us:dj},bU I w a vs->bU I w c us->bU I w (a++c) (vs++us)
 | _,_,_,_,.nil,h=>h
 | _,_,_,_,.cons _ _ _ _ h t,f=>.cons _ _ _ _ h (.append t f)
def ad.Vh{t tb}{x}{b off}{cs ys}{n}{g}(h:o.op= .load t x)(l:aO ρ x=some (g,.p b off))(A:g=true)(hm:.au b tb cs∈H)(ht:nZ P t=some (true,n))
  (hy:(cs.drop off).take n=ys) (hn:Nat.beq ys.length n):ad P H ρ o (.agg ys):=by
 refine .yx ck λB I w f r q=>?_;have z:=bZ (q.get cd l A);obtain⟨_,j,m,B,_⟩:=r _ hm;have c:=(B.drop off).take n;rw[hy] at c;have s:((j.toList.drop off).take n).length=n:=by rw[c.length];exact Nat.eq_of_beq_eq_true hn
 refine⟨.agg ((j.toList.drop off).take n).toArray,?_,.agg _ _ (by simpa using c)⟩;have:=BT ht b off _ w s (λj v a=>by
  rw[jK m];rw[List.getElem?_take] at a;split at a
  ·rw[List.getElem?_drop] at a;simpa using a
  ·cases a)
 simp[execOp,h,z,Instr.loadAt,Instr.sureAddr,this]
def ad.Vi{t tb}{x}{b off}{cs}{y}{n}{g}(h:o.op= .load t x)(a:aO ρ x=some (g,.p b off))(l:g=true)(hm:.au b tb cs∈H)(ht:nZ P t=some (false,n))
  (hy:cs[off]? =some y):ad P H ρ o y:=by
 refine .yx ck λB I w f z r=>?_;have j:=bZ (r.get cd a l);obtain⟨_,A,m,q,_⟩:=z _ hm;obtain⟨v,s,c⟩:=q.get hy;exact⟨v,by simp[execOp,h,j,Instr.loadAt,Instr.sureAddr,yz ht b off v w (by rw[jK m];simpa using s)],c⟩
def yA(P:Program)(t:TypeId)(f:Nat):Option Nat:=
 match P.underlying t with
 | some (.struct cA)=>match cA[f]? with
  | some fd=>match P.info? fd.type with
   | some i=>if i.size=0 then none else some fd.offset
   | none=>none
  | none=>none
 | _=>none
def LF{t}{f off}(h:yA P t f=some off)(b o)(w):(Instr.fieldAt t (.pointer (some ⟨b,o,none⟩)) f).run P w= .ok (.pointer (some ⟨b,o+off,none⟩)) w:=by
 unfold yA at h;split at h
 ·rename_i m g;split at h
  ·rename_i l c;split at h
   ·rename_i i j;split at h
    ·cases h
    ·rename_i a;simp at h;subst h;simp[Instr.fieldAt,run_underlying g,c,Instr.sureAddr,fieldPlace,sizeOf,typeInfo,j,a,Addr.add_lit]
   ·cases h
  ·cases h
 ·cases h
def ad.field{t}{x}{f off b o'}{g}(h:o.op= .fieldAddr t x f)(c:aO ρ x=some (g,.p b o'))(l:g=true)(q:yA P t f=some off):ad P H ρ o (.p b (o'+off)):=by
 refine .same ck λI w a m=>?_;have j:=bZ (m.get cd c l);exact⟨.pointer (some ⟨b,o'+off,none⟩),by simp[execOp,h,j,LF q b o' w],.val _⟩
def ad.Vj{t}{x}{f off}{cs}{g}(h:o.op= .fieldAddr t x f)(l:aO ρ x=some (g,.ptr cs))(q:g=true)(s:yA P t f=some off):ad P H ρ o (.ptr (cs.drop off)):=by
 refine .same ck λI w a r=>?_;have c:=r.get cd l q;generalize v:a.eval x=u at c;cases c with
 | ptr _ b j m=>exact⟨.pointer (some ⟨b,j+off,none⟩),by simp[execOp,h,v,LF s b j w],.ptr _ _ _ (m.drop off)⟩
def uB(P:Program)(t:TypeId):Option (Nat×Nat):=match P.underlying t with | some (.array n e)=>(P.info? e).map λi=>(n,i.size) | _=>none
def LG{t}{n k}(ht:uB P t=some (n,k))(b o)(g)(i:Int)(a:0<=i)(f:i<n)(w):
  (Instr.indexAt t (.pointer (some ⟨b,o,none⟩)) (.int g i)).run P w= .ok (.pointer (some ⟨b,o+i.toNat*k,none⟩)) w:=by
 unfold uB at ht;split at ht
 ·rename_i m e j;cases aN:P.info? e with
  | none=>simp[aN] at ht
  | some c=>
   simp[aN] at ht;obtain⟨rfl,rfl⟩:=ht;have h:0<=i/\i<(m:Int):=⟨a,f⟩;simp[Instr.indexAt,asIntOf,run_underlying j,Instr.sureAddr,sizeOf,typeInfo,aN,h,Addr.add_lit]
 ·cases ht
def ad.Vk{t}{x y}{b o' n k}{j}{i}{l g}(h:o.op= .indexAddr t x y)(q:aO ρ x=some (l,.p b o'))(hy:aO ρ y=some (g,.val (.int j i)))
  (f:l=true) (c:g=true) (ht:uB P t=some (n,k)) (r:0<=i) (v:i<n):ad P H ρ o (.p b (o'+i.toNat*k)):=by
 refine .same ck λI w a m=>?_;have s:=bZ (m.get cd q f);have z:=bZ (m.get cd hy c);exact⟨.pointer (some ⟨b,o'+i.toNat*k,none⟩),by simp[execOp,h,s,z,LG ht b o' j i r v w],.val _⟩
def ad.Vl{t}{x y}{cs}{n k}{j}{i}{q m}(h:o.op= .indexAddr t x y)(s:aO ρ x=some (q,.ptr cs))(hy:aO ρ y=some (m,.val (.int j i)))
  (c:q=true) (f:m=true) (ht:uB P t=some (n,k)) (v:0<=i) (B:i<n):ad P H ρ o (.ptr (cs.drop (i.toNat*k))):=by
 refine .same ck λI w a l=>?_;have g:=l.get cd s c;have C:=bZ (l.get cd hy f);generalize A:a.eval x=u at g;cases g with
 | ptr _ b r z=>exact⟨.pointer (some ⟨b,r+i.toNat*k,none⟩),by simp[execOp,h,A,C,LG ht b r j i v B w],.ptr _ _ _ (z.drop _)⟩
def ad.nilCheck{x}{b off}{g}(h:o.op= .nilCheck x)(c:aO ρ x=some (g,.p b off))(j:g=true):ad P H ρ o (.p b off):=by
 refine .same ck λI w a l=>?_;have f:=bZ (l.get cd c j);exact⟨.pointer (some ⟨b,off,none⟩),by simp[execOp,h,f],.val _⟩
def ad.KI{x}{cs}{g}(h:o.op= .nilCheck x)(f:aO ρ x=some (g,.ptr cs))(l:g=true):ad P H ρ o (.ptr cs):=by
 refine .same ck λI w a m=>?_;have c:=m.get cd f l;generalize r:a.eval x=u at c;cases c with
 | ptr _ b q j=>exact⟨.pointer (some ⟨b,q,none⟩),by simp[execOp,h,r],.ptr _ _ _ j⟩
def ad.KJ{x}{f}{j cs}{g}(h:o.op= .nilCheck x)(m:aO ρ x=some (g,.fn (.func f) j cs))(v:g=true):ad P H ρ o (.fn (.func f) j cs):=by
 refine .same ck λI w a r=>?_;have c:=r.get cd m v;generalize s:a.eval x=u at c;cases c with
 | fn _ _ _ l t z q=>exact⟨.func (.func f) l t,by simp[execOp,h,s],.fn _ _ _ _ _ z q⟩
def ad.makeFunc{f}{first c}{g cs}(h:o.op= .makeFunc f first c)(s:js ρ first.toList=some g)(r:js ρ c.toList=some cs)(l:g.all (·.1)=true)(m:cs.all (·.1)=true):
  ad P H ρ o (.fn f (g.map (·.2)) (cs.map (·.2))):=by
 refine .same ck λI w a q=>?_;have ae:=td q first.toList g (λx j=>by simp[h,Op.operands];left;simpa using j) s (by simpa using l);have ak:=td q c.toList cs (λx j=>by simp[h,Op.operands];right;simpa using j) r (by simpa using m);exact⟨.func f (first.map a.eval) (c.map a.eval),by simp[execOp,h,Instr.makeFunc],.fn _ _ _ _ _ nf ta⟩
def ad.Vm{s d}{x}{k c}{n m}{g}(h:o.op= .convert s d x)(j:aO ρ x=some (g,.val (.int k n)))(t:g=true)(q:(P.underlying s).isSome=true)(l:P.underlying d=some (.int c))(z:c.wrap n=m):
  ad P H ρ o (.val (.int c m)):=by
 refine .same ck λI w a v=>?_;have r:=bZ (v.get cd j t);subst z;obtain⟨A,f⟩:=Option.isSome_iff_exists.1 q;refine⟨.int c (c.wrap n),?_,.val _⟩;simp[execOp,h,r,convert,run_underlying f,run_underlying l,Conv.intToInt]
def ad.min2{x y}{v}{k A}{a b c}{m l}(h:o.op= .call {callee:=.builtin .min,args:=#[x,y],argTypes:=v})(r:aO ρ x=some (m,.val (.int k a)))(hy:aO ρ y=some (l,.val (.int A b)))(j:m=true)(g:l=true)
  (t:(if b<a then b else a)=c):ad P H ρ o (.val (.int k c)):=by
 refine .same ck λI w f q=>?_;have s:=bZ (q.get gF r j);have z:=bZ (q.get gF hy g);subst t;exact⟨.int k (if b<a then b else a),by simp[execOp,h,s,z,resolve,invoke,builtin,run_min_int2],.val _⟩
def ad.max2{x y}{v}{k A}{a b c}{m l}(h:o.op= .call {callee:=.builtin .max,args:=#[x,y],argTypes:=v})(r:aO ρ x=some (m,.val (.int k a)))(hy:aO ρ y=some (l,.val (.int A b)))(j:m=true)(g:l=true)
  (t:(if b>a then b else a)=c):ad P H ρ o (.val (.int k c)):=by
 refine .same ck λI w f q=>?_;have s:=bZ (q.get gF r j);have z:=bZ (q.get gF hy g);subst t;exact⟨.int k (if b>a then b else a),by simp[execOp,h,s,z,resolve,invoke,builtin,run_max_int2],.val _⟩
end
def nh(P:Program)(f:FuncId):Bool:=
 match P.funcs[f]? with
 | some fn=>fn.body.isSome && !(fn.name== "runtime.NumGoroutine")
 | none=>false
def e5(B:Nat)(c9:cr)(bN:World)(eu:ab->aC->Prop)(E:ab->aC->Prop):Ending->World->Prop:=λe w'=>
 ∃c7 H',bY B c7 w'/\Ext B c9 bN c7 w'/\a7 B c7 w' H'/\
  ((∃v x,e= .returned v/\Rel c7 w' x v/\eu x H')\/(∃v x,e= .panicked [{v,recovered:=false}]/\Rel c7 w' x v/\E x H'))
def bP(P:Program)(f:FuncId)(xs:bl)(H:aC)(eu:ab->aC->Prop)(E:ab->aC->Prop):Prop:=
 nh P f=true/\∀(B:Nat) (I:cr) (w:World) (vs:dj),bY B I w->a7 B I w H->bU I w xs vs->Calls P f vs.toArray w (e5 B I w eu E)
def aI(P:Program)(f:FuncId)(xs:bl)(y:ab):Prop:=∀H,bP P f xs H (λx H'=>x=y/\H'=H) (λ_ _=>False)
section
variable{P:Program}{H:aC}{ρ:Nat->Option ab}{o:Oper}
def wE{f}(h:nh P f)(args)(w):(callFunc f args).run P w= .ok (.enter f args) w:=by
 unfold nh at h;split at h
 ·rename_i fn a;simp only[Bool.and_eq_true,Bool.not_eq_true'] at h;obtain⟨j,c⟩:=h;have g:fn.body.isNone=false:=by cases ba:fn.body <;> simp_all
  simp only[callFunc,Sem.run_bind,run_program,Result.andThen_ok,a,c,g,Bool.false_eq_true,if_false,Sem.run_pure]
 ·cases h
def Fm{x}{args}{l}{f}{c g}(h:o.op= .call {callee:=.value x,args:=args,argTypes:=l})(m:nh P f)(a:Act)(w)
  (j:a.eval x= .func (.func f) c g):(execOp a.eval o).run P w= .ok (.enter f (c++args.map a.eval++g)) w:=by
 simp[execOp,h,resolve,j,Deferred.ofValue,invoke,wE m]
structure gG(P:Program)(ρ:Nat->Option ab)(o:Oper)(f:FuncId)(xs:bl):Prop where
 run:∀(I:cr) (w:World) (a:Act),fo I w ρ a o->∃vs:dj,bU I w xs vs/\(nh P f=true->(execOp a.eval o).run P w= .ok (.enter f vs.toArray) w)
 rS:∀c,o.op≠ .defer c
def gG.mk'{x}{args}{t}{f}{m cs}{ys}{g}(h:o.op= .call {callee:=.value x,args:=args,argTypes:=t})
  (r:aO ρ x=some (g,.fn (.func f) m cs)) (E:g=true) (z:js ρ args.toList=some ys) (c:ys.all (·.1)=true):gG P ρ o f (m++ys.map (·.2)++cs):=by
 refine⟨λI w a j=>?_,ck⟩;have l:=j.get gF r E;have v:=td j args.toList ys (λz D=>by simp[h,Op.operands,Call.operands];right;simpa using D) z (by simpa using c);generalize A:a.eval x=u at l;cases l with
 | fn _ _ _ q B F s=>
  refine⟨q.toList++args.toList.map a.eval++B.toList,(F.append v).append s,λhO=>?_⟩;rw[Fm h hO a w A];congr 2;simp
def ad.call{f}{xs}{y}(s:gG P ρ o f xs)(h:aI P f xs y):ad P H ρ o y:=by
 intro B I w r a D G A K z;obtain⟨C,F,t⟩:=s.run I w a z;obtain⟨m,c⟩:=h D;refine .qD s.rS (t m) ((c B I w C G A F).mono λe J g=>?_);obtain⟨E,L,q,l,j,g⟩:=g;rcases g with⟨v,x,rfl,aK,rfl,rfl⟩ | ⟨v,x,rfl,_,j8⟩
 ·exact⟨E,q,l,j,aK⟩
 ·exact j8.elim
end
section
variable{c:Ctx}{r:Option Nat}{P:Program}{ops:Array Oper}{l rest:cg}{o:Oper}{st:dT}{Q:Exit->Act->World->Prop}{x:ab}
def cJ:ab->bl
 | .agg cs=>cs
 | x=>[x]
def fa:ab->Bool
 | .any=>false
 | .as x _=>match x with | .aj _ _=>true | .fn _ _ _=>true | .ptr _=>true | .iface _ _=>true | _=>false
 | .opt _ _=>false
 | .val v=>v.oneCell'
 | .bj _=>false
 | _=>true
def Rel.one{I}{w}{x}{v}(h:Rel I w x v)(ba:fa x)(aK:∀cs,x≠ .agg cs):v.oneCell'=true:=by
 cases h with
 | any=>simp[fa] at ba
 | val v=>exact ba
 | dQ=>rfl
 | aj=>rfl
 | as y v h=>
  cases h <;> first | rfl | simp[fa] at ba
 | opt=>simp[fa] at ba
 | agg cs vs h=>exact absurd rfl (aK cs)
 | bj=>simp[fa] at ba
 | fn=>rfl
 | iface=>rfl
 | ptr=>rfl
 | fm=>rfl
 | single v h=>exact h
def Vn{v:Value}(h:v.oneCell'=true):v.cells= #[v]:=by
 cases v <;> first | rfl | simp[Value.oneCell'] at h
def yB{I}{w}{x}{v}(h:Rel I w x v)(j:fa x):bU I w (cJ x) v.cells.toList:=by
 by_cases c:∃cs,x= .agg cs
 ·obtain⟨cs,rfl⟩:=c;cases h with
  | agg _ l h=>exact h
 ·have f:∀cs,x≠ .agg cs:=λcs e=>c ⟨cs,e⟩;have g:=h.one j f;rw[Vn g];have:cJ x= [x]:=by cases x <;> first | rfl | exact absurd rfl (f _)
  rw[this];exact .cons _ _ _ _ h .nil
def ai.box{t}{z}{y}{g}(j:o.guard=none)(a6:iF c.n o.dst)(h:o.op= .box t z)(m:aO (aE st.env) z=some (g,y))(C:g=true)(q:fa y)
  (next:∀b,ai c r P ops rest ⟨iT o.dst (.p b 0) st.env,.au b t (cJ y)::st.H⟩ Q):ai c r P ops (o::rest) st Q:=by
 intro a w s;refine wpListIn_plain j λK x=>?_;obtain⟨I,f,D,A,l⟩:=s.mem;have B:=yB ((l.ops o).get cd m C) q;refine dw.e4 (R:=λv w'=>v= .pointer (some ⟨w.heap.size,0,none⟩)/\w'=w.alloc (.cells (a.eval z).cells t)) (E:=λ_ _=>False) ck
  (v:=.pointer (some ⟨w.heap.size,0,none⟩)) (w':=w.alloc (.cells (a.eval z).cells t)) Lw ⟨rfl,rfl⟩ K Q ?_ λ_ _ h=>h.elim
 rintro v w' ⟨rfl,rfl⟩;refine x _ _ (next w.heap.size _ _ ⟨iS,iR,I,f.alloc _,D.trans (jJ f _),A.new f t _ _ B,((l.bw (lY f _)).put rM (.val _))⟩)
def zeroCells(P:Program)(t:TypeId):Option dj:=((P.info? t).bind (·.zero)).map λv=>v.cells.toList
def ai.alloc{t}{g}(m:o.guard=none)(a6:iF c.n o.dst)(h:o.op= .alloc t)(f:zeroCells P t=some g)
  (next:∀b,ai c r P ops rest ⟨iT o.dst (.p b 0) st.env,.au b t (g.map .val)::st.H⟩ Q):ai c r P ops (o::rest) st Q:=by
 intro a w s;refine wpListIn_plain m λK q=>?_;obtain⟨I,j,C,x,A⟩:=s.mem;unfold zeroCells at f;cases aN:P.info? t with
 | none=>simp[aN] at f
 | some l=>
  cases l0:l.zero with
  | none=>simp[aN,l0] at f
  | some z=>
   simp[aN,l0] at f;have B:bU I w (g.map .val) z.cells.toList:=by rw[f];exact lA g
   refine dw.e4 (R:=λv w'=>v= .pointer (some ⟨w.heap.size,0,none⟩)/\w'=w.alloc (.cells z.cells t)) (E:=λ_ _=>False) ck
    (v:=.pointer (some ⟨w.heap.size,0,none⟩)) (w':=w.alloc (.cells z.cells t)) (by simp[execOp,h,Instr.alloc,newVar,newRow,zeroValue,typeInfo,aN,l0]) ⟨rfl,rfl⟩ K Q ?_ λ_ _ h=>h.elim
   rintro v w' ⟨rfl,rfl⟩;refine q _ _ (next w.heap.size _ _ ⟨iS,iR,I,j.alloc _,C.trans (jJ j _),x.new j t _ _ B,((A.bw (lY j _)).put rM (.val _))⟩)
inductive bG:List br->br->br->List br->Prop
 | head (e e':br) (H:List br):bG (e::H) e e' (e'::H)
 | tail (f e e':br) (H H':List br) (h:bG H e e' H'):bG (f::H) e e' (f::H')
def bG.mem{H H'}{e e'}(h:bG H e e' H'):e∈H:=by
 induction h with
 | head=>exact .head _
 | tail _ _ _ _ _ _ a=>exact .tail _ a
def bG.dY{H H'}{e e'}(h:bG H e e' H'):∀f∈H',f=e'\/f∈H:=by
 induction h with
 | head=>intro f a;rcases List.mem_cons.1 a with rfl | h;exact .inl rfl;exact .inr (.tail _ h)
 | tail g _ _ _ _ _ c=>
  intro f a;rcases List.mem_cons.1 a with rfl | h
  ·exact .inr (.head _)
  ·rcases c f h with h | h
   ·exact .inl h
   ·exact .inr (.tail _ h)
def a7.fE{B}{I v}{w w'}{H H'}{e e'}(h:a7 B I w H)(hu:bG H e e' H')(L:er I w v w')
  (l:∀b,b<w.heap.size->e.dY≠some b->w'.heap[b]? =w.heap[b]?) (m:∀b o,v b o->I b o\/e.dY=some b\/w.heap.size<=b)
  (s:e'.ok B v w') (q:∀b,e'.dY=some b->e.dY=some b\/w.heap.size<=b):a7 B v w' H':=by
 have bw:∀f:br,f.ok B I w->(∀b,f.dY=some b->e.dY≠some b)->f.ok B v w':=λf j c=>
  br.bw j L (λb a=>l b (br.lX j a).2 (c b a)) (λb a o M=>by
   rcases m b o M with h | h | h
   ·exact h
   ·exact absurd h (c b a)
   ·exact absurd (br.lX j a).2 (Nat.not_lt.2 h))
 induction hu with
 | head e e' H=>
  obtain⟨C,K⟩:=List.pairwise_cons.1 h.apart;refine⟨λf j=>?_,List.pairwise_cons.2 ⟨λf j b a x=>?_,K⟩⟩
  ·rcases List.mem_cons.1 j with rfl | j
   ·exact s
   ·exact bw f (h.ok f (.tail _ j)) λb a J=>C f j b J a
  ·rcases q b a with r | r
   ·exact C f j b r x
   ·exact absurd (br.lX (h.ok f (.tail _ j)) x).2 (Nat.not_lt.2 r)
 | tail f e e' H H' hu N=>
  obtain⟨C,K⟩:=List.pairwise_cons.1 h.apart;have A:=N h.tail l m s q bw;have c:∀b,f.dY=some b->e.dY≠some b:=λb a J=>C e hu.mem b a J;refine⟨λg D=>?_,List.pairwise_cons.2 ⟨λg D b a z=>?_,A.apart⟩⟩
  ·rcases List.mem_cons.1 D with rfl | D
   ·exact bw g (h.ok g (.head _)) c
   ·exact A.ok g D
  ·rcases hu.dY g D with rfl | F
   ·rcases q b z with r | r
    ·exact c b a r
    ·exact absurd (br.lX (h.ok f (.head _)) a).2 (Nat.not_lt.2 r)
   ·exact C g F b a z
def dG(ys:bl):Bool:=ys.all λy=>fa y && (match y with | .agg _=>false | _=>true)
theorem uC{I}{w}:∀{f:bl} {g:dj},bU I w f g->dG f=true->∀v∈g,v.oneCell'=true
 | _,_,.nil,_,v,a=>by cases a
 | _,_,.cons y u f g h t,c,v,a=>by
  simp only[dG,List.all_cons,Bool.and_eq_true] at c;rcases List.mem_cons.1 a with rfl | a
  ·exact h.one c.1.1 (λcs e=>by subst e;simp at c)
  ·exact uC t c.2 v a
def ai.store{t tb}{p z}{y}{lC g}{b off}{cs}{H'}{agg:Bool}(a4:o.guard=none)(a6:iF c.n o.dst)(h:o.op= .store t p z)
  (bV:aO (aE st.env) p=some (lC,.p b off)) (Y:lC=true) (aD:aO (aE st.env) z=some (g,y)) (av:g=true) (ba:fa y) (ae:dG (cJ y))
  (ht:nZ P t=some (agg,(cJ y).length)) (hfit:Nat.ble (off+(cJ y).length) cs.length)
  (hu:bG st.H (.au b tb cs) (.au b tb (cs.take off++cJ y++cs.drop (off+(cJ y).length))) H')
  (next:ai c r P ops rest ⟨iT o.dst .any st.env,H'⟩ Q):ai c r P ops (o::rest) st Q:=by
 intro a w s;refine wpListIn_plain a4 λK eX=>?_;obtain⟨I,hw,he,aW,Z⟩:=s.mem;have a0:=bZ ((Z.ops o).get cd bV Y);have A:=yB ((Z.ops o).get cd aD av) ba;obtain⟨eD,L,q,j,U⟩:=aW.ok _ hu.mem;have S:=uC A ae;have l:(a.eval z).cells.toList.length=(cJ y).length:=A.length;have X:L.size=cs.length:=by have:=j.length;simpa using this
 have C:off+0+(a.eval z).cells.toList.length<=L.size:=by
  have:=Nat.le_of_ble_eq_true hfit;rw[l,X];omega
 have m:=run_storeCells_at P b off tb (a.eval z).cells.toList 0 L w q C S;obtain⟨_,a3⟩:=wD ht w;generalize O:(L.toList.take (off+0)++(a.eval z).cells.toList++L.toList.drop (off+0+(a.eval z).cells.toList.length)).toArray=cur at m;have G:(a.eval z).cells.size=(cJ y).length:=by simpa using l
 have J:(execOp a.eval o).run P w= .ok .skip (w.setRow b cur):=by
  simp[execOp,h,Instr.storeAt,a0,Instr.sureAddr,storeVar,a3,G,m]
 have f:er I w I (w.setRow b cur):=⟨λ_ _ x=>x,λdL N V=>by
  have F:dL≠b:=λe=>by subst e;exact U N V
  exact World.cell?_of_block (a:=⟨dL,N,none⟩) (setRow_other w b dL cur F)⟩
 have M:Ext c.B I w I (w.setRow b cur):=⟨f.ix,f.cell,⟨rfl,rfl,rfl,aT,λk bD=>setRow_other w b k cur aa⟩⟩;have a2:bY c.B I (w.setRow b cur):=⟨wv,λdL N V=>by rw[f.cell dL N V];exact hw.there dL N V⟩;have D:bU I w (cs.take off++cJ y++cs.drop (off+(cJ y).length)) cur.toList:=by
  rw[<-O];simp only[Nat.add_zero,l];exact ((j.take off).append A).append (j.drop _)
 have bI:a7 c.B I (w.setRow b cur) H':=by
  refine aW.fE hu f (λk bD F=>setRow_other w b k cur λe=>F wB) (λ_ _ x=>.inl x) ⟨eD,cur,setRow_heap w b L cur tb (0,0) q,D.bw f,U⟩ λk bD=>.inl bD
 refine dw.uz (R:=λv w'=>v=undef/\w'=w.setRow b cur) (E:=λ_ _=>False) ck J ⟨rfl,rfl⟩ K Q ?_ λ_ _ h=>h.elim;rintro v w' ⟨rfl,rfl⟩;refine eX _ _ (next _ _ ⟨iS,iR,I,a2,he.trans M,bI,((Z.bw f).put rM (.any _))⟩)
def bP.of{f}{fn}{a}{xs}{H}{g}{E}{n}(b7:P.funcs[f]? =some fn)(ba:fn.body=some a)(rO:(fn.name== "runtime.NumGoroutine")=false)
  (hn:fn.ntmps=n) (env) (c:∀t y,aE env t=some y->xs[t]? =some y) (x:xs.length<=n)
  (h:∀B I w,aA ⟨B,I,w,n,[]⟩ none P a ⟨env,H⟩ (bodyPost P fn (e5 B I w g E))):bP P f xs H g E:=by
 refine⟨uq,λB I w j s r l=>uy (n:=0) (callsIn_of_wp b7 ba trivial ?_ rfl)⟩;refine h B I w _ w ⟨rfl,?_,I,s,Ext.refl _ _ _,r,λt y o=>?_⟩
 ·have:=l.length;simp;omega
 ·obtain⟨v,m,q⟩:=l.get (c t y o);have:(j.toArray++Array.replicate (fn.ntmps - j.toArray.size) undef).getD t undef=v:=by
   have k5:=(List.getElem?_eq_some_iff.1 m).1;simp only[Array.getD_eq_getD_getElem?];rw[Array.getElem?_append_left wy];simp[m]
  rw[this];exact q
end
end Go.Eng

