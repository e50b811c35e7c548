/- A part of the proof. No condition. -/
import Derived.Test.YtodccgailpkgeaaGreatKindInfersP3
import Derived.Maps.Keyed
import Derived.Maps.AppendAt
import Derived.OneCell
import Derived.Scope
import Derived.OpenShut
import Derived.ProofKit
import Derived.Laws.MakeOwn
import Derived.Carry
import Derived.Laws.BytesString
set_option linter.defProp false
set_option maxHeartbeats 1000000
set_option linter.unusedVariables false
set_option linter.unusedSimpArgs false
namespace Go.Eng
open Go.RowKit (Below)
open Go.ChangeShapes Go.WideShapes Go.ChangeAt Go.RowKit
open Go.ChangeShapes Go.WideShapes
def ev(P:Program)(k:TypeId)(v:Value):Prop:=∃l,keyOf P k v=some l
class y2 (P:Program) (t:Nat) (x:outParam (Nat×Nat)):Prop where
 h:P.underlying t=some (.map x.1 x.2)
 key:Go.Maps.Keyed P x.1
 zero:((P.info? x.2).bind (·.zero))=some (.pointer none)
theorem oT{I:cp}{w:World}:∀{vs us:dg},bQ I w (vs.map .val) us->us=vs
 | [],_,.nil=>rfl
 | v::vs,_,.cons _ _ _ _ h t=>by rw[bX h,oT t]
def Vr{P}{k i ar m}(h:(P.underlying k).map (λd=>match d with | .struct E=>E.toList.map (λf=>(f.name,f.type,f.offset)) | _=>[])=some [("arg",i,0),("many",i,1),("path",ar,2)])(hm:P.types.size=m+2)(G:P.underlying i=some (.int .i64))(w:P.underlying ar=some (.array 2 i))
  (M:P.cellsOf k=4) (z:P.cellsOf ar=2) (N:P.cellsOf i=1) (Vs:P.keyType k=true) {a b c d} (nV:(Go.Lit.int .i64 a).wf=true) (X:(Go.Lit.int .i64 b).wf=true) (I:(Go.Lit.int .i64 c).wf=true) (O:(Go.Lit.int .i64 d).wf=true):
  ev P k (.agg #[.int .i64 a,.int .i64 b,.int .i64 c,.int .i64 d]):=by
 cases hu:P.underlying k with
 | none=>simp[hu] at h
 | some t=>
  simp[hu,Option.map_some,Option.some.injEq] at h;cases t with
  | struct E=>
   obtain⟨W⟩:=E;simp only at h;rcases W with _ | ⟨f0,_ | ⟨f1,_ | ⟨f2,_ | ⟨f3,r⟩⟩⟩⟩
   ·simp at h
   ·simp at h
   ·simp at h
   ·simp[List.map_cons,List.map_nil,List.cons.injEq,Prod.mk.injEq,and_true] at h;obtain⟨⟨Vt,t0,U⟩,⟨S,t1,hx⟩,⟨te,t2,Y⟩⟩:=h;have s:(Value.agg #[.int .i64 a,.int .i64 b,.int .i64 c,.int .i64 d]).formed P k=true:=by simp[Value.formed,hu,M]
    have H:∀(q:Nat) (x:Int),(Go.Lit.int .i64 x).wf=true->P.keyLits (q+1) i [.int .i64 x]=some [.int .i64 x]:=λq x R=>by simp[Program.keyLits,G,R]
    have K:P.keyLits (m+1+1) ar [.int .i64 c,.int .i64 d]=some [.int .i64 c,.int .i64 d]:=by
     simp[Program.keyLits,w,G,z,N,I,O,List.range,List.range.loop]
    have o:P.keyLits (P.types.size+1) k [.int .i64 a,.int .i64 b,.int .i64 c,.int .i64 d]=some [.int .i64 a,.int .i64 b,.int .i64 c,.int .i64 d]:=by
     rw[hm];simp[Program.keyLits,hu,w,G,M,Vt,S,te,t0,t1,t2,U,hx,Y,N,z,nV,X,I,O,List.range,List.range.loop]
    exact⟨.string (keyBytes [.int .i64 a,.int .i64 b,.int .i64 c,.int .i64 d]),by
     have F:(Value.agg #[.int .i64 a,.int .i64 b,.int .i64 c,.int .i64 d]).cells.toList= [.int .i64 a,.int .i64 b,.int .i64 c,.int .i64 d]:=rfl;simp[keyOf,hu,Vs,s,Bool.and_self,if_true,F,o,Option.map_some]⟩
   ·simp at h
  | _=>simp at h
def ad.hX{P}{H}{ρ}{o}{f}{xs ys}{y}{t}(z:gD P ρ o f xs)(j:c0 xs ys)(h:hP P t f ys y)(hm:∀e∈t,e∈H):ad P H ρ o y:=by
 intro B I w r a F L D J C;obtain⟨E,K,A⟩:=(z.le j).run I w a C;obtain⟨q,c⟩:=h F (λe M=>J e (hm e M));refine .qu z.rO (A q) ((c B I w E L D K).mono λe N g=>?_);obtain⟨G,O,s,m,l,g⟩:=g;rcases g with⟨v,x,rfl,aK,rfl,rfl⟩ | ⟨v,x,rfl,_,jX⟩
 ·exact⟨G,s,m,l,aK⟩
 ·exact jX.elim
section
variable{c:Ctx}{r:Option Nat}{P:Program}{ops:Array Oper}{l rest:cc}{o:Oper}{env:List (Nat×ab)}{H:aA}{Q:Exit->Act->World->Prop}{d:Nat}
def aj.F4{f}{xs}{g}{a}(q:o.guard=none)(j:o.dst=some d)(hn:Nat.blt d c.n)(m:gD P (aD env) o f xs)(h:yS P a f xs g)(hm:∀e∈a,e∈H)
  (next:∀y,g y->aj c r P ops rest ⟨(d,y)::env,H⟩ Q):aj c r P ops (o::rest) ⟨env,H⟩ Q:=
 .FR q j hn m (h H hm).b (λy s ⟨l,ao⟩=>by subst ao;exact next y l)
def aj.Vu{t}{x M}{b}{ke}{κ}{dd}{vs:dg}{y:ab}{g1 Z:Bool}[G:y2 P t ke](V:o.guard=none)(a6:o.dst=some d)(hn:Nat.blt d c.n)(h:o.op= .lookup t x M true)
  (aK:aN (aD env) x=some (g1,.val (.map (some b)))) (T:g1=true) (bD:aN (aD env) M=some (Z,y)) (W:Z=true) (hy:an y (.agg (vs.map .val))) (hm:.lmap b (ev P ke.1) κ dd∈H) (A:ev P ke.1 (.agg vs.toArray))
  (found:aj c r P ops rest ⟨(d,.bk [.ptr (κ (.agg vs.toArray)),.b true])::env,H⟩ Q)
  (g:κ (.agg vs.toArray)=dd->aj c r P ops rest ⟨(d,.bk [.val (.pointer none),.b false])::env,H⟩ Q):aj c r P ops (o::rest) ⟨env,H⟩ Q:=by
 intro a w s;refine wpListIn_plain V λK eX=>?_;obtain⟨I,Y,S,U,O⟩:=s.mem;have D:=bX ((O.ops o).get cb aK T);have J:a.eval M= .agg vs.toArray:=by
  have X:=hy _ _ _ ((O.ops o).get cb bD W);generalize a.eval M=u at X;cases X with
  | agg _ us N=>have:=oT N;rw[<-this]
 obtain⟨gS,⟨cq,dr,a8,z,L⟩,bF⟩:=U.ok _ hm;obtain⟨r2,B⟩:=A;have F:∀e∈cq.toList,∃l,keyOf P ke.1 e.key=some l:=λe S=>(z e S).1;have m:=G.key.check w cq.isEmpty B;have q:(getObj b).run P w= .ok (.map cq dr) w:=by simp[getObj,Sem.run,a8]
 rcases G.key.find w B cq.toList F with⟨b8,hv⟩ | ⟨j,e,b8,cm,jG⟩
 ·have aH:(zeroValue ke.2).run P w= .ok (.pointer none) w:=by
   have:=G.zero;cases aQ:P.info? ke.2 with
   | none=>simp[aQ] at this
   | some a0=>simp[aQ] at this;simp[zeroValue,typeInfo,aQ,this]
  have f:(execOp a.eval o).run P w= .ok (.value (.tuple #[.pointer none,.bool false])) w:=by
   simp[execOp,h,Instr.lookup,run_underlying G.h,D,J,q,m,b8,aH]
  refine dt.e3 (R:=λv C=>v= .tuple #[.pointer none,.bool false]/\C=w) (E:=λ_ _=>False) cf f ⟨rfl,rfl⟩ K Q ?_ λ_ _ h=>h.elim;rintro v C ⟨rfl,rfl⟩;refine eX _ _ (g (L _ ⟨r2,B⟩ hv) _ _ ⟨iJ,iI,I,Y,S,U,?_⟩);have:=O.put (dst:=some d) (x:=.bk [.val (.pointer none),.b false]) (v:=.tuple #[.pointer none,.bool false]) oI (.bk _ _ (.cons _ _ _ _ (.val _) (.cons _ _ _ _ (.val _) .nil)));rw[a6];exact this
 ·have f:(execOp a.eval o).run P w= .ok (.value (.tuple #[e.val,.bool true])) w:=by
   simp[execOp,h,Instr.lookup,run_underlying G.h,D,J,q,m,b8]
  refine dt.e3 (R:=λv C=>v= .tuple #[e.val,.bool true]/\C=w) (E:=λ_ _=>False) cf f ⟨rfl,rfl⟩ K Q ?_ λ_ _ h=>h.elim;rintro v C ⟨rfl,rfl⟩;refine eX _ _ (found _ _ ⟨iJ,iI,I,Y,S,U,?_⟩);have N:=(z e (List.mem_of_getElem? cm)).2;rw[jG] at N;have:=O.put (dst:=some d) (x:=.bk [.ptr (κ (.agg vs.toArray)),.b true]) (v:=.tuple #[e.val,.bool true]) oI (.bk _ _ (.cons _ _ _ _ N (.cons _ _ _ _ (.val _) .nil)));rw[a6];exact this
def aj.Vv{t}{x kx z}{b}{ke}{κ}{dd}{vs:dg}{y u:ab}{g1 g2 g3:Bool}[da:y2 P t ke](ah:o.guard=none)(a6:o.dst=none)(h:o.op= .mapUpdate t x kx z)
  (aK:aN (aD env) x=some (g1,.val (.map (some b)))) (dV:g1=true) (bD:aN (aD env) kx=some (g2,y)) (gE:g2=true) (hy:an y (.agg (vs.map .val))) (aH:aN (aD env) z=some (g3,u)) (pF:g3=true) (hu:an u (.ptr (κ (.agg vs.toArray))))
  (hm:bn.lmap b (ev P ke.1) κ dd∈H) (L:ev P ke.1 (.agg vs.toArray)) (next:aj c r P ops rest ⟨env,H⟩ Q):aj c r P ops (o::rest) ⟨env,H⟩ Q:=by
 intro a w s;refine wpListIn_plain ah λK eX=>?_;obtain⟨I,hw,F,aU,bd⟩:=s.mem;have gF:=bX ((bd.ops o).get cb aK dV);have fw:a.eval kx= .agg vs.toArray:=by
  have af:=hy _ _ _ ((bd.ops o).get cb bD gE);generalize a.eval kx=u at af;cases af with
  | agg _ us bH=>have:=oT bH;rw[<-this]
 have a3:=hu _ _ _ ((bd.ops o).get cb aH pF);obtain⟨gS,⟨cq,dr,a8,M,S⟩,N⟩:=aU.ok _ hm;have G:=L;obtain⟨r2,a0⟩:=L;have a5:∀e∈cq.toList,∃l,keyOf P ke.1 e.key=some l:=λe F=>(M e F).1;have T:=da.key.check w false a0;have U:(getObj b).run P w= .ok (.map cq dr) w:=by simp[getObj,Sem.run,a8]
 have V:∀o':Obj,(setObj b o').run P w= .ok () (w.putObj b o'):=λo'=>by simp[setObj,Sem.run,a8,World.putObj]
 have ac:b<w.heap.size:=(Array.getElem?_eq_some_iff.1 a8).1;have hN:∀(D:Array MapEntry) (J:Nat),(∀e∈D.toList,ev P ke.1 e.key/\Rel I w (.ptr (κ e.key)) e.val)->(∀v,ev P ke.1 v->(∀e∈D.toList,e.key≠v)->κ v=dd)->
   (execOp a.eval o).run P w= .ok .skip (w.putObj b (.map D J))->o.wpIn (bt r) 0 P a w K Q:=by
  intro D J ae ao a4;have bD:er I w I (w.putObj b (.map D J)):=pH (B:=c.B) N;refine dt.uw (R:=λv w'=>v=undef/\w'=w.putObj b (.map D J)) (E:=λ_ _=>False) cf a4 ⟨rfl,rfl⟩ K Q ?_ (λ_ _ h=>h.elim);rintro v w' ⟨rfl,rfl⟩;have qz:a7 c.B I (w.putObj b (.map D J)) H:=by
   refine⟨λf b8=>?_,aU.apart⟩;by_cases Y:f.dY=some b
   ·-- it is the map itself
    have:f= .lmap b (ev P ke.1) κ dd:=by
     refine Classical.byContradiction λhv=>?_;have ck:=aU.apart;obtain⟨i,aQ,X⟩:=List.mem_iff_getElem.1 b8;obtain⟨j,cm,O⟩:=List.mem_iff_getElem.1 hm;rw[List.pairwise_iff_getElem] at ck;rcases Nat.lt_trichotomy i j with C | C | C
     ·exact ck i j aQ cm C b (by rw[X];exact Y) (by rw[O];rfl)
     ·subst C;rw[X] at O;exact hv O
     ·exact ck j i cm aQ C b (by rw[O];rfl) (by rw[X];exact Y)
    subst this;exact⟨gS,⟨D,J,World.putObj_heap_same ac,λe F=>⟨(ae e F).1,(ae e F).2.bs bD⟩,ao⟩,N⟩
   ·exact bn.bs (aU.ok f b8) bD (λdI Cb=>World.putObj_heap_other (λe=>Y (by rw[<-e];exact Cb))) (λ_ _ _ x=>x)
  refine eX _ _ ?_;rw[a6];exact next _ _ ⟨s.ds,s.size,I,hw.putObj N,F.trans (Ext.putObj gS N),qz,bd.bs bD⟩
 rcases da.key.find w a0 cq.toList a5 with⟨b8,hv⟩ | ⟨j,e,b8,cm,jG⟩
 ·refine hN (cq.push {key:=.agg vs.toArray,val:=a.eval z,born:=dr}) (dr+1) ?_ ?_ ?_
  ·intro e F;rw[Array.toList_push] at F;rcases List.mem_append.1 F with F | F
   ·exact M e F
   ·simp at F;subst F;exact⟨G,a3⟩
  ·intro v Z hn;exact S v Z λe F=>hn e (by rw[Array.toList_push];exact List.mem_append_left _ F)
  ·simp[execOp,h,Instr.mapUpdate,run_underlying da.h,gF,fw,U,T,b8,V]
 ·have W:cq[j]? =some e:=by simpa using cm
  have a2:=da.key.stays w a0;refine hN (cq.modify j λe=>{e with key:=.agg vs.toArray,val:=a.eval z}) dr ?_ ?_ ?_
  ·intro e' bF;obtain⟨i,aQ⟩:=List.mem_iff_getElem?.1 bF;rw[Array.getElem?_toList,Array.getElem?_modify] at aQ;split at aQ
   ·cases aK:cq[i]? with
    | none=>simp[aK] at aQ
    | some bL=>simp[aK] at aQ;subst aQ;exact⟨G,a3⟩
   ·exact M e' (List.mem_of_getElem? m3)
  ·intro v Z hn;refine S v Z λe' bF=>?_;obtain⟨i,aQ⟩:=List.mem_iff_getElem?.1 bF;have aQ:cq[i]? =some e':=by simpa using aQ
   by_cases C:j=i
   ·subst C;rw[W] at aQ;cases aQ;rw[jG];have:=hn {e with key:=.agg vs.toArray,val:=a.eval z} (List.mem_of_getElem? (i:=j) (by rw[Array.getElem?_toList,Array.getElem?_modify,if_pos rfl,W];rfl));exact this
   ·exact hn e' (List.mem_of_getElem? (i:=i) (by rw[Array.getElem?_toList,Array.getElem?_modify,if_neg C];exact aQ))
  ·simp[execOp,h,Instr.mapUpdate,run_underlying da.h,gF,fw,U,T,b8,V,W,jG,a2]
end
def fp(H:aA)(xs ys:bl):Prop:=
 ∀(B:Nat) (I:cp) (w:World) (m5:aA) (vs:dg),bV B I w->a7 B I w m5->(∀e∈H,e∈m5)->bQ I w xs vs->
  ∃J:cp,(∀b o,J b o->∃c,w.cell? ⟨b,o,none⟩=some c)/\bQ J w ys vs
def bn.Vw{B}{I}{w w'}{e:bn}(h:e.ok B I w)(a:∀b o,I b o->w'.cell? ⟨b,o,none⟩=w.cell? ⟨b,o,none⟩)(f:∀b,b<w.heap.size->w'.heap[b]? =w.heap[b]?):e.ok B I w':=
 bn.bs h ⟨λ_ _ x=>x,a⟩ (λb c=>f b (bn.lO h c).2) (λ_ _ _ x=>x)
def Vx{w w':World}(f:∀b,b<w.heap.size->w'.heap[b]? =w.heap[b]?){b o}(c:b<w.heap.size):w'.cell? ⟨b,o,none⟩=w.cell? ⟨b,o,none⟩:=
 World.cell?_of_block (a:=⟨b,o,none⟩) (f b c)
section
variable{P:Program}{H:aA}{ρ:Nat->Option ab}{o:Oper}
def ad.qF{f}{xs ys}{v}(j:gD P ρ o f xs)(N:fp H xs ys)(h:aG P f ys (.val v)):ad P H ρ o (.val v):=by
 intro B I w r a G m A O E;obtain⟨C,Q,D⟩:=j.run I w a E;obtain⟨J,M,t⟩:=N B I w G C m A O Q;obtain⟨s,g⟩:=h [];refine .qu j.rO (D s) ((g w.heap.size J w C ⟨Nat.le_refl _,M⟩ .nil t).mono λe K z=>?_);obtain⟨T,U,L,c,F,z⟩:=z;rcases z with⟨u,x,rfl,aK,rfl,rfl⟩ | ⟨v,x,rfl,_,jX⟩
 ·have R:=bX aK;subst R;have l:=c.below.block;have j:∀b i,I b i->K.cell? ⟨b,i,none⟩=w.cell? ⟨b,i,none⟩:=λb i q=>Vx l (m.lt q);refine⟨I,⟨Nat.le_trans m.base c.below.size,λb i q=>by rw[j b i q];exact m.there b i q⟩,⟨λ_ _ x=>x,j,c.below.mono m.base⟩,⟨λe S=>bn.Vw (A.ok e S) j l,A.apart⟩,.val _⟩
 ·exact jX.elim
theorem bQ.qG{I}{w}:∀{j g:bl} {a:dg},bQ I w (j++g) a->∃c f,a=c++f/\bQ I w j c/\bQ I w g f
 | [],_,a,h=>⟨[],a,rfl,.nil,h⟩
 | x::j,g,_,.cons _ v _ a l q=>by
  obtain⟨c,f,rfl,o,m⟩:=bQ.qG q;exact⟨v::c,f,rfl,.cons _ _ _ _ l o,m⟩
def Vy{I}{w}{k b}{els}(a:∀e∈els,e.length=k)(h:Cells I w b 0 els.flatten):fL I w k b 0 els:=nc els 0 a h
def y3{B}{I}{w}{t k}{v}{els}(h:bn.ok B I w (.row t k v els.length els.flatten))(bD:∀e∈els,e.length=k):
  ∃J:cp,(∀b o,I b o->J b o)/\(∀b o,J b o->I b o\/v.ownBlock=some b)/\(∀b o,J b o->I b o\/∃c,w.cell? ⟨b,o,none⟩=some c)/\Rel J w (.ai k els) v:=by
 obtain⟨m,a,q,z⟩:=h;rcases a.2 with⟨rfl,hn⟩ | ⟨g,cap,cur,rfl,hBg,aw,n4,pK,hcs,lr⟩
 ·have:els= []:=List.eq_nil_of_length_eq_zero hn;subst this;exact⟨I,λ_ _ h=>h,λ_ _ h=>.inl h,λ_ _ h=>.inl h,.dQ _ _ _⟩
 ·have l:m.length=els.length*k:=a.1;have r:els.length*k<=cur.size:=by rw[hcs];exact Nat.mul_le_mul_right k n4
  let J:cp:=λb o=>I b o\/(b=g/\o<els.length*k)
  have s:er I w J w:=⟨λ_ _ x=>.inl x,λ_ _ _=>rfl⟩;refine⟨J,λ_ _ x=>.inl x,λb o x=>x.elim .inl (λx=>.inr (by rw[x.1];rfl)),λb o x=>?_,?_⟩
  ·rcases x with x | ⟨rfl,x⟩
   ·exact .inl x
   ·exact .inr ⟨cur[o]'aa,by rw[jC aw];exact Array.getElem?_eq_getElem aa⟩
  ·refine .ai _ _ _ _ _ _ rfl n4 pK (Vy bD (uF aw _ m 0 (q.bs s) (λj u f=>?_) λj A=>.inr ⟨rfl,?_⟩))
   ·rw[<-lr,List.getElem?_take] at f;split at f
    ·simpa using f
    ·cases f
   ·rw[pE bD] at A;omega
def fp.row{t k}{v}{els}{pre post}(hm:.row t k v els.length els.flatten∈H)(j:∀e∈els,e.length=k):fp H (pre++.val v::post) (pre++.ai k els::post):=by
 intro B I w G F C l m f;obtain⟨J,q,E,r,A⟩:=y3 (l.ok _ (m _ hm)) j;have a:er I w J w:=⟨q,λ_ _ _=>rfl⟩;refine⟨J,λb o z=>(r b o z).elim (λx=>C.there b o x) id,?_⟩;obtain⟨D,g,rfl,aC,h⟩:=f.qG;cases h with
 | cons _ u _ g c s=>
  have:=bX c;subst this;exact (aC.bs a).append (.cons _ _ _ _ A (s.bs a))
end
def bn.F5(B)(I)(w)(t k):bn.ok B I w (.row t k (.slice none 0 0) 0 []):=
 ⟨[],World.ownsRow_nil _ _ _ _,.nil,λg a=>by simp[Value.ownBlock] at a⟩
def a7.y4{B}{I}{w}{H}{e}(h:a7 B I w H)(j:e.ok B I w)(g:e.dY=none):a7 B I w (e::H):=
 ⟨λf c=>(List.mem_cons.1 c).elim (λq=>q▸j) (h.ok f),List.pairwise_cons.2 ⟨λf _ b a=>(by rw[g] at a;cases a),h.apart⟩⟩
section
variable{c:Ctx}{r:Option Nat}{P:Program}{ops:Array Oper}{l rest:cc}{o:Oper}{env:List (Nat×ab)}{H:aA}{Q:Exit->Act->World->Prop}{d:Nat}
def Sat.y4{st}{a}{w}{e}(s:Sat c st a w)(g:∀B I w,e.ok B I w)(f:e.dY=none):Sat c ⟨st.env,e::st.H⟩ a w:=
 let ⟨I,hw,aK,aU,bd⟩:=s.mem;⟨s.ds,s.size,I,hw,aK,aU.y4 (g _ _ _) f,bd⟩
def aB.y5{p}(t k)(h:aB c r P p ⟨env,.row t k (.slice none 0 0) 0 []::H⟩ Q):aB c r P p ⟨env,H⟩ Q:=λa w s=>h a w (s.y4 (λB I w=>bn.F5 B I w t k) rfl)
def aZ.y5{e}(t k)(h:aZ c ⟨env,.row t k (.slice none 0 0) 0 []::H⟩ e Q):aZ c ⟨env,H⟩ e Q:=λa w s=>h a w (s.y4 (λB I w=>bn.F5 B I w t k) rfl)
def Cc{B}{I}{w}{a}{ρ}{s z}{t e k D n}{cs}{news}{v}{y}{g1 g2}{H':Value->aA}[dZ:fF P t (e,k,D)]
  (h:o.op= .call {callee:=.builtin .append,args:=#[s,z],argTypes:=#[t,t]}) (b6:aN ρ s=some (g1,.val v)) (Q:g1=true) (aH:aN ρ z=some (g2,y)) (U:g2=true) (hy:an y (.ai k news)) (C:news≠ [])
  (ae:news.all dB=true) (hu:∀ez,bG H (.row e k v n cs) (.row e k ez (n+news.length) (cs++news.flatten)) (H' ez)) (N:(n+news.length)*D<=140737488355328) (a5:n+news.length<=9223372036854775807)
  (F:bV B I w) (aU:a7 B I w H) (bb:fm I w ρ a o):dt P r o a w (λx w'=>∃c3,bV B c3 w'/\Ext B I w c3 w'/\a7 B c3 w' (H' x)) (λ_ _=>False):=by
 obtain⟨i,zv,bF,aQ,lR,X,W,s5,T⟩:=oN dZ.h;have R:=bX (bb.get gB b6 Q);have rR:=hy _ _ _ (bb.get gB aH U);have a3:=rR.yx;obtain⟨xs,m,Y,K⟩:=aU.ok _ (hu v).mem;generalize Vz:a.eval z=zval at rR;cases rR with
 | dQ=>exact absurd rfl C
 | ai _ _ b off len G br a1 hm L=>
  obtain⟨us,aC,gn,uE⟩:=L.values;have V:us.length=news.length*k:=gn;obtain⟨ez,w',bM,bL,fh,_,s6⟩:=run_append_own_at (P:=P) w B t o.type e i zv k D bF aQ lR X W s5 T v n xs m ⟨b,off,none⟩ news.length G us V uE (uA aC (Ly ae)) h5 N F.base;have l:Below B w w':=(Below.refl B w).grown fh F.base (λj cm=>by
   rcases m.2 with⟨rfl,_⟩ | ⟨g,G,cur,rfl,hBg,_⟩
   ·simp[Value.ownBlock] at cm
   ·simp[Value.ownBlock] at cm;omega)
  have c:∀b i,I b i->w'.cell? ⟨b,i,none⟩=w.cell? ⟨b,i,none⟩:=λb i j=>
   World.cell?_of_block (a:=⟨b,i,none⟩) (fh.block b (F.lt j) (λe=>K b e.symm i j))
  have f:er I w I w':=⟨λ_ _ x=>x,c⟩;subst br;have bH:(Builtin.append_ #[t,t] o.type #[a.eval s,a.eval z]).run P w= .ok ez w':=by rw[R,Vz];exact bM
  have J:∀b,(Value.ownBlock ez)=some b->(Value.ownBlock v)=some b\/w.heap.size<=b:=λb N=>by
   rcases s6 with e | e
   ·exact .inl (by rw[<-e];exact N)
   ·rw[N] at e;cases e;exact .inr (Nat.le_refl _)
  refine dt.e3 cf (pD h a w bH) ⟨I,⟨Nat.le_trans F.base l.size,λb o j=>by rw[c b o j];exact F.there b o j⟩,⟨f.il,f.cell,l⟩,(aU.fE (hu ez) f (λb S C=>fh.block b S (λe=>C e.symm)) (λb o aK=>.inl aK) ⟨_,bL,(Y.append aC).bs f,λg aw o j=>?_⟩ J)⟩;rcases J g aw with aK | aK
  ·exact K g aK o j
  ·have:=F.lt j;omega
def aj.Cd{s z}{t e k f n}{cs}{news}{v}{y}{g1 C:Bool}{H':Value->aA}[W:fF P t (e,k,f)](q:o.guard=none)(O:o.dst=some d)(hn:Nat.blt d c.n)
  (h:o.op= .call {callee:=.builtin .append,args:=#[s,z],argTypes:=#[t,t]}) (R:aN (aD env) s=some (g1,.val v)) (j:g1=true) (E:aN (aD env) z=some (C,y)) (A:C=true) (hy:an y (.ai k news)) (l:news≠ [])
  (S:news.all dB=true) (hu:∀g,bG H (.row e k v n cs) (.row e k g (n+news.length) (cs++news.flatten)) (H' g)) (F:(n+news.length)*f<=140737488355328) (m:n+news.length<=9223372036854775807)
  (next:∀g,aj c r P ops rest ⟨(d,.val g)::env,H' g⟩ Q):aj c r P ops (o::rest) ⟨env,H⟩ Q:=by
 intro a w sat;refine wpListIn_plain q λK L=>?_;obtain⟨I,T,V,M,D⟩:=sat.mem;refine Cc h R j E A hy l S hu F m T M (D.ops o) K Q ?_ (λ_ _ h=>h.elim);rintro x X ⟨N,G,B,J⟩;refine L _ _ (next x _ _ ⟨yh,yf,N,G,V.trans B,J,?_⟩);rw[O];exact (D.bs B.keeps).put (dst:=some d) (by rw[sat.size];exact hn) (.val _)
def bn.row_one{B}{I}{w}{t k n}{v}{cs}(h:bn.ok B I w (.row t k v n cs)):v.oneCell'=true:=by
 obtain⟨c,a,_⟩:=h;rcases a.2 with⟨rfl,_⟩ | ⟨g,cap,cur,rfl,_⟩ <;> rfl
def aj.F6{t k n}{v}{cs}(hm:.row t k v n cs∈H)(h:v.oneCell'=true->aj c r P ops l ⟨env,H⟩ Q):aj c r P ops l ⟨env,H⟩ Q:=λa w s=>
 let ⟨I,_,_,aU,_⟩:=s.mem;h (bn.row_one (aU.ok _ hm)) a w s
def Ce{v}(h:v.oneCell'=true):fa (.val v)=true:=h
def Cf{v}(h:v.oneCell'=true):dB (cG (.val v))=true:=by simp[dB,cG,Ce h]
def VA{t}(h:o.op= .makeMap t none)(a:Act)(w):(execOp a.eval o).run P w= .ok (.value (.map (some w.heap.size))) (w.alloc (.map #[] 0)):=by
 simp[execOp,h,Instr.makeMap]
def aj.mkMap{t}(m:o.guard=none)(N:o.dst=some d)(hn:Nat.blt d c.n)(h:o.op= .makeMap t none)
  (next:∀b,aj c r P ops rest ⟨(d,.val (.map (some b)))::env,.map b []::H⟩ Q):aj c r P ops (o::rest) ⟨env,H⟩ Q:=by
 intro a w s;refine wpListIn_plain m λK L=>?_;obtain⟨I,g,l,D,M⟩:=s.mem;refine dt.e3 (R:=λv z=>v= .map (some w.heap.size)/\z=w.alloc (.map #[] 0)) (E:=λ_ _=>False) cf (VA h a w) ⟨rfl,rfl⟩ K Q ?_ λ_ _ h=>h.elim;rintro v z ⟨rfl,rfl⟩;have j:bn.ok c.B I (w.alloc (.map #[] 0)) (.map w.heap.size []):=⟨g.base,⟨#[],0,heap_alloc_new w _,rfl,.nil⟩,λo F=>absurd (g.lt F) (Nat.lt_irrefl _)⟩;have C:=D.alloc g (.map #[] 0);refine L _ _ (next w.heap.size _ _ ⟨iJ,iI,I,g.alloc _,l.trans (jB g _),⟨λe l=>?_,List.pairwise_cons.2 ⟨λf J b A=>?_,C.apart⟩⟩,?_⟩)
 ·rcases List.mem_cons.1 l with rfl | l
  ·exact j
  ·exact C.ok e l
 ·simp[bn.dY] at A;subst A;intro q;exact absurd (bn.lO (D.ok f J) q).2 (Nat.lt_irrefl _)
 ·have:=(M.bs (lP g (.map #[] 0))).put (dst:=some d) (x:=.val (.map (some w.heap.size))) (v:=.map (some w.heap.size)) oI (.val _);rw[N];exact this
theorem wR{I}{w}:∀{c:bl} {a:dg},bQ I w c a->∀{i:Nat} {v:Value},a[i]? =some v->∃x,c[i]? =some x/\Rel I w x v
 | _,_,.nil,i,v,h=>by simp at h
 | _,_,.cons x v c a f g,0,u,h=>⟨x,aS,by simp at h;exact h▸f⟩
 | _,_,.cons x v c a f g,i+1,u,h=>by
  obtain⟨y,ae,j⟩:=wR g (i:=i) (v:=u) gQ;exact⟨y,m2,j⟩
def aj.VB{t}{x U}{b}{ke:Nat×Nat}{es:List (Value×ab)}{vs:dg}{y:ab}{g1 g2:Bool}[O:y2 P t ke](a0:o.guard=none)(a6:o.dst=some d)(hn:Nat.blt d c.n)(h:o.op= .lookup t x U true)
  (aK:aN (aD env) x=some (g1,.val (.map (some b)))) (X:g1=true) (bD:aN (aD env) U=some (g2,y)) (a3:g2=true) (hy:an y (.agg (vs.map .val))) (hm:bn.map b es∈H) (C:ev P ke.1 (.agg vs.toArray)) (a2:∀p∈es,ev P ke.1 p.1)
  (found:∀u,(Value.agg vs.toArray,u)∈es->aj c r P ops rest ⟨(d,.bk [u,.b true])::env,H⟩ Q)
  (q:(∀p∈es,p.1≠ .agg vs.toArray)->aj c r P ops rest ⟨(d,.bk [.val (.pointer none),.b false])::env,H⟩ Q):aj c r P ops (o::rest) ⟨env,H⟩ Q:=by
 intro a w s;refine wpListIn_plain a0 λK eX=>?_;obtain⟨I,hw,G,Z,V⟩:=s.mem;have M:=bX ((V.ops o).get cb aK X);have S:a.eval U= .agg vs.toArray:=by
  have af:=hy _ _ _ ((V.ops o).get cb bD a3);generalize a.eval U=u at af;cases af with
  | agg _ us bH=>have:=oT bH;rw[<-this]
 obtain⟨gS,⟨cq,dr,a8,f,F⟩,a5⟩:=Z.ok _ hm;obtain⟨r2,T⟩:=C;have N:∀e∈cq.toList,∃l,keyOf P ke.1 e.key=some l:=λe G=>by
  have:e.key∈es.map (·.1):=by rw[<-f];exact List.mem_map_of_mem G
  obtain⟨p,z,D⟩:=List.mem_map.1 this;rw[<-D];exact a2 p z
 have A:=O.key.check w cq.isEmpty T;have B:(getObj b).run P w= .ok (.map cq dr) w:=by simp[getObj,Sem.run,a8]
 rcases O.key.find w T cq.toList N with⟨b8,hv⟩ | ⟨j,e,b8,cm,jG⟩
 ·have aH:(zeroValue ke.2).run P w= .ok (.pointer none) w:=by
   have:=O.zero;cases aQ:P.info? ke.2 with
   | none=>simp[aQ] at this
   | some a4=>simp[aQ] at this;simp[zeroValue,typeInfo,aQ,this]
  have m:(execOp a.eval o).run P w= .ok (.value (.tuple #[.pointer none,.bool false])) w:=by
   simp[execOp,h,Instr.lookup,run_underlying O.h,M,S,B,A,b8,aH]
  refine dt.e3 (R:=λv L=>v= .tuple #[.pointer none,.bool false]/\L=w) (E:=λ_ _=>False) cf m ⟨rfl,rfl⟩ K Q ?_ (λ_ _ h=>h.elim);rintro v L ⟨rfl,rfl⟩;refine eX _ _ (q (λp z D=>?_) _ _ ⟨iJ,iI,I,hw,G,Z,?_⟩)
  ·have:p.1∈cq.toList.map (·.key):=by rw[f];exact List.mem_map_of_mem z
   obtain⟨e,G,Y⟩:=List.mem_map.1 this;exact hv e G (by rw[Y,D])
  ·have:=V.put (dst:=some d) (x:=.bk [.val (.pointer none),.b false]) (v:=.tuple #[.pointer none,.bool false]) oI (.bk _ _ (.cons _ _ _ _ (.val _) (.cons _ _ _ _ (.val _) .nil)));rw[a6];exact this
 ·have m:(execOp a.eval o).run P w= .ok (.value (.tuple #[e.val,.bool true])) w:=by
   simp[execOp,h,Instr.lookup,run_underlying O.h,M,S,B,A,b8]
  refine dt.e3 (R:=λv L=>v= .tuple #[e.val,.bool true]/\L=w) (E:=λ_ _=>False) cf m ⟨rfl,rfl⟩ K Q ?_ (λ_ _ h=>h.elim);rintro v L ⟨rfl,rfl⟩;obtain⟨u,g,bF⟩:=wR F (i:=j) (v:=e.val) (by rw[List.getElem?_map,cm];rfl);have J:(Value.agg vs.toArray,u)∈es:=by
   rw[List.getElem?_map] at g;cases z:es[j]? with
   | none=>rw[z] at g;cases g
   | some p=>
    rw[z] at g;have W:(es.map (·.1))[j]? =some e.key:=by rw[<-f,List.getElem?_map,cm];rfl
    rw[List.getElem?_map,z] at W;simp at g W;have:p=(Value.agg vs.toArray,u):=Prod.ext (W.trans jG) g;rw[<-this];exact List.mem_of_getElem? z
  refine eX _ _ (found u J _ _ ⟨iJ,iI,I,hw,G,Z,?_⟩);have:=V.put (dst:=some d) (x:=.bk [u,.b true]) (v:=.tuple #[e.val,.bool true]) oI (.bk _ _ (.cons _ _ _ _ bF (.cons _ _ _ _ (.val _) .nil)));rw[a6];exact this
def aj.VC{t}{x X z}{b}{ke:Nat×Nat}{es:List (Value×ab)}{vs:dg}{y u:ab}{g1 g2 g3:Bool}{H':aA}[da:y2 P t ke](fw:o.guard=none)(a6:o.dst=none)(h:o.op= .mapUpdate t x X z)
  (aK:aN (aD env) x=some (g1,.val (.map (some b)))) (Z:g1=true) (D:aN (aD env) X=some (g2,y)) (a3:g2=true) (hy:an y (.agg (vs.map .val))) (aH:aN (aD env) z=some (g3,u)) (gF:g3=true)
  (hu:bG H (.map b es) (.map b (es++[(.agg vs.toArray,u)])) H') (m:ev P ke.1 (.agg vs.toArray)) (a2:∀p∈es,ev P ke.1 p.1) (V:∀p∈es,p.1≠ .agg vs.toArray) (next:aj c r P ops rest ⟨env,H'⟩ Q):aj c r P ops (o::rest) ⟨env,H⟩ Q:=by
 intro a w s;refine wpListIn_plain fw λK eX=>?_;obtain⟨I,hw,he,aU,W⟩:=s.mem;have a5:=bX ((W.ops o).get cb aK Z);have bF:a.eval X= .agg vs.toArray:=by
  have af:=hy _ _ _ ((W.ops o).get cb D a3);generalize a.eval X=u at af;cases af with
  | agg _ us bH=>have:=oT bH;rw[<-this]
 have Y:=(W.ops o).get cb aH gF;obtain⟨gS,⟨cq,dr,O,f,A⟩,g⟩:=aU.ok _ hu.mem;obtain⟨r2,L⟩:=m;have J:∀e∈cq.toList,∃l,keyOf P ke.1 e.key=some l:=λe he=>by
  have:e.key∈es.map (·.1):=by rw[<-f];exact List.mem_map_of_mem he
  obtain⟨p,ck,C⟩:=List.mem_map.1 this;rw[<-C];exact a2 p ck
 have M:=da.key.check w false L;have S:(getObj b).run P w= .ok (.map cq dr) w:=by simp[getObj,Sem.run,O]
 have U:∀o':Obj,(setObj b o').run P w= .ok () (w.putObj b o'):=λo'=>by simp[setObj,Sem.run,O,World.putObj]
 have a0:b<w.heap.size:=(Array.getElem?_eq_some_iff.1 O).1;rcases da.key.find w L cq.toList J with⟨b8,N⟩ | ⟨j,e,b8,cm,jG⟩
 ·generalize q:cq.push {key:=.agg vs.toArray,val:=a.eval z,born:=dr}=en';have G:(execOp a.eval o).run P w= .ok .skip (w.putObj b (.map en' (dr+1))):=by
   rw[<-q];simp[execOp,h,Instr.mapUpdate,run_underlying da.h,a5,bF,S,M,b8,U]
  have D:er I w I (w.putObj b (.map en' (dr+1))):=pH (B:=c.B) g;refine dt.uw (R:=λv w'=>v=undef/\w'=w.putObj b (.map en' (dr+1))) (E:=λ_ _=>False) cf G ⟨rfl,rfl⟩ K Q ?_ (λ_ _ h=>h.elim);rintro v w' ⟨rfl,rfl⟩;have a4:a7 c.B I (w.putObj b (.map en' (dr+1))) H':=by
   refine aU.fE hu D (λdI _ N=>World.putObj_heap_other (λe=>N (by rw[e];rfl))) (λ_ _ x=>.inl x) ⟨gS,⟨en',dr+1,World.putObj_heap_same a0,?_,?_⟩,g⟩ (λ_ O=>.inl O)
   ·subst q;simp[f]
   ·subst q;simp only[Array.toList_push,List.map_append,List.map_cons,List.map_nil];exact ((A.bs D).append (.cons _ _ _ _ (Y.bs D) .nil))
  refine eX _ _ ?_;rw[a6];exact next _ _ ⟨s.ds,s.size,I,hw.putObj g,he.trans (Ext.putObj gS g),a4,W.bs D⟩
 ·exfalso;have F:e.key∈cq.toList.map (·.key):=List.mem_map_of_mem (List.mem_of_getElem? cm);rw[f] at F;obtain⟨p,ck,C⟩:=List.mem_map.1 F;exact V p ck (C.trans jG)
def a7.lazy{B}{I}{w}{H}{b}{c}{κ}{dd}{es}(o:a7 B I w (.map b es::H))(r:∀p∈es,c p.1/\p.2= .ptr (κ p.1))(G:∀v,c v->(∀p∈es,p.1≠v)->κ v=dd):a7 B I w (.lmap b c κ dd::H):=by
 obtain⟨F,⟨cq,dr,L,g,h⟩,z⟩:=o.ok _ (.head _);refine⟨λf x=>?_,List.pairwise_cons.2 ⟨(List.pairwise_cons.1 o.apart).1,(List.pairwise_cons.1 o.apart).2⟩⟩;rcases List.mem_cons.1 x with rfl | x
 ·refine⟨F,⟨cq,dr,L,λe A=>?_,λv J K=>G v J λp l t=>?_⟩,z⟩
  ·obtain⟨j,C⟩:=List.mem_iff_getElem?.1 A;obtain⟨u,a,m⟩:=wR h (i:=j) (v:=e.val) (by rw[List.getElem?_map,C];rfl);rw[List.getElem?_map] at a;cases l:es[j]? with
   | none=>rw[l] at a;cases a
   | some p=>
    rw[l] at a;have q:(es.map (·.1))[j]? =some e.key:=by rw[<-g,List.getElem?_map,C];rfl
    rw[List.getElem?_map,l] at q;simp at a q;obtain⟨E,D⟩:=r p (List.mem_of_getElem? l);rw[q] at E D;rw[<-a,D] at m;exact⟨E,m⟩
  ·have:p.1∈cq.toList.map (·.key):=by rw[g];exact List.mem_map_of_mem l
   obtain⟨e,A,s⟩:=List.mem_map.1 this;exact K e A (by rw[s,t])
 ·exact o.ok f (.tail _ x)
def a7.tf{B}{I}{w}{H}{t k}{v}{els}(j:bV B I w)(a:a7 B I w (.row t k v els.length els.flatten::H))(l:∀e∈els,e.length=k):
  ∃J,bV B J w/\Ext B I w J w/\a7 B J w H/\Rel J w (.ai k els) v:=by
 obtain⟨J,g,q,r,z⟩:=y3 (a.ok _ (.head _)) l;have m:er I w J w:=⟨g,λ_ _ _=>rfl⟩;refine⟨J,⟨j.base,λb o c=>(r b o c).elim (j.there b o) id⟩,⟨g,λ_ _ _=>rfl,Below.refl _ _⟩,a.tail.bs m (λ_ _ _ _=>rfl) (λf x b c o s=>?_),z⟩;rcases q b o s with h | h
 ·exact h
 ·exact absurd c ((List.pairwise_cons.1 a.apart).1 f x b h)
def a7.VD{B}{I}{w}{H}{b t}{cs ds}(o:bV B I w)(f:a7 B I w (.au b t cs::H))(c:∀a,bQ I w cs a->bQ I w ds a):
  ∃J,bV B J w/\Ext B I w J w/\a7 B J w H/\Rel J w (.ptr ds) (.pointer (some ⟨b,0,none⟩)):=by
 obtain⟨s,a,m,j,r⟩:=f.ok _ (.head _);obtain⟨q,h,g,l⟩:=cp.freeze (n:=a.size) o f (.head _ _) (b:=b) rfl m (Nat.le_refl _);exact⟨_,q,h,g,.ptr _ _ _ (l ds a.toList (c _ j) Br)⟩
end
def qH(P:Program)(pL H1:aA)(ρ:Nat->Option ab)(o:Oper):Prop:=
 ∀(B:Nat) (I:cp) (w:World) (r:Option Nat) (a:Act),bV B I w->a7 B I w pL->fm I w ρ a o->dt P r o a w (λv w'=>∃c3,bV B c3 w'/\Ext B I w c3 w'/\a7 B c3 w' H1) (λ_ _=>False)
abbrev VE:=gI n2
def y6(l:cc)(ss:dq)(i:Nat):Nat:=ss.countP λs=>((hM l []).getD i 0).testBit s
def pM(l:cc)(ss:dq)(i:Nat):Nat:=ss.countP λs=>!((hM l []).getD s 0).testBit i && !Nat.beq s i
def kY(ss:dq)(i:Nat):Nat:=ss.countP λs=>Nat.beq s i
def VF(P:Program)(Hs:Nat->Mem)(l:cc)(ss:dq)(i:Nat)(env:List (Nat×ab))(o:Oper)(x:ab):Prop:=
 ∀j,y6 l ss i<=j->j<=pM l ss i->VE P (Hs j) (Hs (j+kY ss i)) l env o x
def bj(P:Program)(Hs:Nat->Mem)(l:cc)(ss:dq)(n:Nat):Nat->cc->List (Nat×ab)->(List (Nat×ab)->Prop)->Prop
 | _,[],env,K=>K env
 | i,o::rest,env,K=>∃x,VF P Hs l ss i env o x/\ix n o.dst=true/\bj P Hs l ss n (i+1) rest (iK o.dst x env) K
theorem bj.mono{P}{Hs}{ops}{ss}{n}{K f}(c:∀a,K a->f a):∀{k:Nat} {l:cc} {a:List (Nat×ab)},bj P Hs ops ss n k l a K->bj P Hs ops ss n k l a f
 | _,[],_,h=>c _ h
 | _,_::_,_,⟨x,g,j,m⟩=>⟨x,g,j,m.mono c⟩
def qI(ss:dq)(k m:Nat):Bool:=ss.all (λs=>Nat.ble k s && Nat.blt s m) && decide ss.Nodup
def LX{ss}{k m}(h:qI ss k m):(∀s∈ss,k<=s/\s<m)/\ss.Nodup:=by
 simp only[qI,Bool.and_eq_true,List.all_eq_true,decide_eq_true_eq] at h;exact⟨λs a=>⟨Nat.le_of_ble_eq_true (h.1 s a).1,Nat.lt_of_succ_le (by simpa [Nat.blt] using (h.1 s a).2)⟩,h.2⟩
theorem LY{S}{i}(g:S i=false):∀{a:dq},a.Nodup->a.countP (eL S i)=a.countP S+kY a i
 | [],_=>rfl
 | s::a,m=>by
  obtain⟨c,f⟩:=List.nodup_cons.1 m;have j:=LY g f;unfold kY at j ⊢;rw[List.countP_cons,List.countP_cons,List.countP_cons,j];by_cases e:s=i
  ·subst e;have:List.countP (λx=>Nat.beq x s) a=0:=List.countP_eq_zero.2 λx l o=>c (by have:=Nat.eq_of_beq_eq_true o;subst this;exact l);simp[wL,g,this]
  ·rw[kv e,show Nat.beq s i=false from Bool.eq_false_iff.2 λh=>e (Nat.eq_of_beq_eq_true h)];simp;omega
theorem bj.u{Hs}{ss}{P}{L}{n}(f:ss.Nodup)(c:∀s∈ss,s<L.length):∀{l:cc} {i:Nat} {env:List (Nat×ab)} {K:List (Nat×ab)->Prop},bj P Hs L ss n i l env K->jE n2 P (λS=>Hs (ss.countP S)) L n i l env K
 | [],_,_,_,h=>h
 | _::_,i,_,_,⟨x,r,o,t⟩=>⟨x,(λS a m g=>by
  show gI n2 P (Hs (ss.countP S)) (Hs (ss.countP (eL S i))) L _ _ x;rw[LY g f];refine r _ (List.countP_mono_left λs _ h=>m s h) (List.countP_mono_left λs q h=>?_);have j:s≠i:=λe=>by subst e;rw[g] at h;cases h
  rw[Bool.and_eq_true];refine⟨?_,by rw[show Nat.beq s i=false from Bool.eq_false_iff.2 λh=>j (Nat.eq_of_beq_eq_true h)];rfl⟩;cases a8:((hM L []).getD s 0).testBit i with
  | false=>rfl
  | true=>rw[a s _ (List.getElem?_eq_getElem (c s q)) h i a8] at g;cases g),o,t.u f c⟩
section
variable{c:Ctx}{r:Option Nat}{P:Program}{l:cc}{st:dU}{Q:Exit->Act->World->Prop}
def b0.anyS{k m}{Hs}{ss}(g:mz l k m)(C:qI ss k m)(x:k<=m)(z:m<=l.length)(v:(l.all λo=>(looks l o).all λt=>Nat.blt t c.n)=true)(G:∀B a I w,a7 B I w st.H->Hs 0 B a I w)
  (h:bj P Hs l ss c.n k ((l.drop k).take (m - k)) st.env λenv=>∀a w I,a.defers=c.ds->a.tmps.size=c.n->bV c.B I w->Ext c.B c.c5 c.bW I w->Hs ss.length c.B a I w->fM I w (aD env) a->gp c r P l Q m a w):b0 c r P l Q k st:=by
 obtain⟨f,A⟩:=LX C;refine .B8 (M:=λS=>Hs (ss.countP S)) g x z v (λB a I w F=>?_) (.mono (λenv J a w I R D E L K O=>J a w I R D E L ?_ O) (h.u A λs j=>by have:=(f s j).2;omega))
 ·rw[show ss.countP (λi=>Nat.blt i k)=0 from List.countP_eq_zero.2 λs j N=>by have:=(f s j).1;have:=ta N;omega];exact G _ _ _ _ F
 ·rwa [show ss.countP (λi=>Nat.blt i m)=ss.length from List.countP_eq_length.2 λs j=>LJ (f s j).2] at K
abbrev wS(Hs:Nat->aA):Nat->Mem:=λj B _ I w=>a7 B I w (Hs j)
def b0.LZ{env}{H}(Hs)(ss)(k m n)(hn:c.n=n)(g:mz l k m)(s:qI ss k m)(j:Nat.ble k m)(q:Nat.ble m l.length)(mu:(l.all λo=>(looks l o).all λt=>Nat.blt t n)=true)(A:H=Hs 0)
  (h:bj P (wS Hs) l ss c.n k ((l.drop k).take (m - k)) env λenv=>b0 c r P l Q m ⟨env,Hs ss.length⟩):b0 c r P l Q k ⟨env,H⟩:=
 .anyS (Hs:=wS Hs) g s (Nat.le_of_ble_eq_true j) (Nat.le_of_ble_eq_true q) qq (λB a I w z=>by show a7 B I w (Hs 0);rw[<-A];exact z) (h.mono λenv C a w I G v x E D F=>C a w ⟨G,v,I,x,E,D,F⟩)
abbrev tg(pL:aA)(oU:Value->aA)(gJ:Nat):Nat->Mem:=λj B a I w=>match j with
 | 0=>a7 B I w pL
 | _=>a7 B I w (oU (a.tmps.getD gJ undef))
def b0.VG{env}{H}(q)(j e)(k m n)(hn:c.n=n)(kB:mz l k m)(qJ:qI [e] k m)(lq:Nat.ble k m)(gO:Nat.ble m l.length)(mu:(l.all λo=>(looks l o).all λt=>Nat.blt t n)=true)
  (h:bj P (tg H q j) l [e] c.n k ((l.drop k).take (m - k)) env λenv=>∀Cg,b0 c r P l Q m ⟨(j,.val Cg)::env,q Cg⟩):b0 c r P l Q k ⟨env,H⟩:=
 .anyS (Hs:=tg H q j) kB qJ (Nat.le_of_ble_eq_true lq) (Nat.le_of_ble_eq_true gO) qq (λB a I w aU=>aU) (h.mono λenv a6 a w I hO fO fi jH kZ l0=>a6 (a.tmps.getD j undef) a w ⟨hO,fO,I,fi,jH,kZ,Sat.qw l0 (.val _)⟩)
end
section
variable{P:Program}{L rest:cc}{ss:dq}{n i d:Nat}{o:Oper}{env:List (Nat×ab)}{K:List (Nat×ab)->Prop}{x:ab}{M:Nat->Mem}{Hs:Nat->aA}
def bj.nil(h:K env):bj P M L ss n i [] env K:=h
def bj.cn(c f)(z:y6 L ss i=c)(v:pM L ss i=f)(m:kY ss i=0)(q:o.guard=none)(a6:o.dst=some d)(hn:Nat.blt d n)(h:∀j,c<=j->j<=f->ad P (Hs j) (aD env) o x)(next:bj P (wS Hs) L ss n (i+1) rest ((d,x)::env) K):bj P (wS Hs) L ss n i (o::rest) env K:=
 ⟨x,λj A t=>by
  rw[m];exact gI.of q λB I w r a s g l C=>h j aa aa B I w r a _ s g (λ_ h=>h) l,gH a6 hn,fW⟩
def bj.fZ(q)(z:y6 L ss i=q)(v:pM L ss i=q)(l:kY ss i=1)(m:o.guard=none)(a6:o.dst=none)(h:qH P (Hs q) (Hs (q+1)) (aD env) o)(next:bj P (wS Hs) L ss n (i+1) rest env K):bj P (wS Hs) L ss n i (o::rest) env K:=
 ⟨.any,λj A t=>by
  obtain rfl:j=q:=by omega
  rw[l];exact gI.of m λB I w r a s c f C=>(h B I w r a s c f).mono (λv x ⟨g,bF,a2,a3⟩=>⟨g,bF,a2,a3,.any _⟩) (λ_ _ h=>h),by rw[a6];rfl,fW⟩
variable{H:aA}{oU:Value->aA}{gJ:Nat}
def bj.r3(s:pM L ss i=0)(g:kY ss i=0)(l:o.guard=none)(a6:o.dst=some d)(hn:Nat.blt d n)(h:ad P H (aD env) o x)(next:bj P (tg H oU gJ) L ss n (i+1) rest ((d,x)::env) K):bj P (tg H oU gJ) L ss n i (o::rest) env K:=
 ⟨x,λj t q=>by
  obtain rfl:j=0:=by omega
  rw[g];exact gI.of l λB I w r a m c f v=>h B I w r a _ m c (λ_ h=>h) f,gH a6 hn,fW⟩
def bj.r4(s:kY ss i=0)(t:o.guard=none)(a6:o.dst=some d)(hn:Nat.blt d n)(c:Nat.beq d gJ=false)(h:∀H,ad P H (aD env) o x)(next:bj P (tg H oU gJ) L ss n (i+1) rest ((d,x)::env) K):bj P (tg H oU gJ) L ss n i (o::rest) env K:=
 ⟨x,λj A z=>by
  rw[s];refine gI.of t λB I w r a m f g C=>?_;cases j with
  | zero=>exact h H B I w r a _ m f (λ_ h=>h) g
  | succ j=>
   refine (h (oU (a.tmps.getD gJ undef)) B I w r a _ m f (λ_ h=>h) g).mono (λv q ⟨l,bF,a2,a3,a4⟩=>⟨l,bF,a2,?_,a4⟩) λ_ _ h=>h;have e:(a.put o.dst v).tmps.getD gJ undef=a.tmps.getD gJ undef:=by
    rw[a6];exact lk (λe=>by subst e;simp at c)
   show a7 B l q (oU ((a.put o.dst v).tmps.getD gJ undef));rw[e];exact a3,gH a6 hn,fW⟩
def bj.F7(A:pM L ss i=0)(m:kY ss i=1)(s:o.guard=none)(a6:o.dst=some gJ)(hn:Nat.blt gJ n)
  (h:∀(B:Nat) (I:cp) (w:World) (r:Option Nat) (a:Act),bV B I w->a7 B I w H->fm I w (aD env) a o->dt P r o a w (λx f=>∃c,bV B c f/\Ext B I w c f/\a7 B c f (oU x)) (λ_ _=>False))
  (next:bj P (tg H oU gJ) L ss n (i+1) rest ((gJ,.any)::env) K):bj P (tg H oU gJ) L ss n i (o::rest) env K:=
 ⟨.any,λj C z=>by
  obtain rfl:j=0:=by omega
  rw[m];refine gI.of s λB I w r a t g l q=>(h B I w r a t g l).mono (λv f ⟨c,bF,a2,a3⟩=>⟨c,bF,a2,?_,.any _⟩) λ_ _ h=>h;show a7 B c f (oU ((a.put o.dst v).tmps.getD gJ undef));rw[a6,px (q gJ a6)];exact a3,gH a6 hn,fW⟩
def qH.store{H H'}{ρ}{t tb}{p z}{y}{ll g}{b off m}{cs ds}{agg}[ht:cX P t (agg,m)](h:o.op= .store t p z)
  (ck:aN ρ p=some (ll,.p b off)) (U:ll=true) (aH:aN ρ z=some (g,y)) (aw:g=true) (a8:fa y) (ae:dB (cG y))
  (hm:Nat.beq (cG y).length m) (hu:bG H (.au b tb cs) (.au b tb ds) H') (hfit:Nat.ble (off+(cG y).length) cs.length) (hds:cs.take off++cG y++cs.drop (off+(cG y).length)=ds):qH P H H' ρ o:=by
 intro B I w r a hw aU bb;subst hds;have R:nQ P t=some (agg,(cG y).length):=by rw[Nat.eq_of_beq_eq_true hm];exact ht.h
 have Z:=bX (bb.get cb ck U);have s:=yr (bb.get cb aH aw) a8;obtain⟨gS,F,q,j,N⟩:=aU.ok _ hu.mem;have G:=uA s ae;have f:(a.eval z).cells.toList.length=(cG y).length:=s.length;have T:F.size=cs.length:=by have:=j.length;simpa using this
 have E:off+0+(a.eval z).cells.toList.length<=F.size:=by
  have:=Nat.le_of_ble_eq_true hfit;rw[f,T];omega
 have l:=run_storeCells_at P b off tb (a.eval z).cells.toList 0 F w q E G;obtain⟨_,X⟩:=wA R w;generalize M:(F.toList.take (off+0)++(a.eval z).cells.toList++F.toList.drop (off+0+(a.eval z).cells.toList.length)).toArray=cur at l;have C:(a.eval z).cells.size=(cG y).length:=by simpa using f
 have D:(execOp a.eval o).run P w= .ok .skip (w.setRow b cur):=by
  simp[execOp,h,Instr.storeAt,Z,Instr.sureAddr,storeVar,X,C,l]
 have c:er I w I (w.setRow b cur):=⟨λ_ _ x=>x,λdI L O=>by
  have A:dI≠b:=λe=>by subst e;exact N L O
  exact World.cell?_of_block (a:=⟨dI,L,none⟩) (setRow_other w b dI cur A)⟩
 have J:Ext B I w I (w.setRow b cur):=⟨c.il,c.cell,⟨rfl,rfl,rfl,aS,λk S=>setRow_other w b k cur aa⟩⟩;have W:bV B I (w.setRow b cur):=⟨wo,λdI L O=>by rw[c.cell dI L O];exact hw.there dI L O⟩;have v:bQ I w (cs.take off++cG y++cs.drop (off+(cG y).length)) cur.toList:=by
  rw[<-M];simp only[Nat.add_zero,f];exact ((j.take off).append s).append (j.drop _)
 have V:a7 B I (w.setRow b cur) H':=by
  refine aU.fE hu c (λk S A=>setRow_other w b k cur (λe=>A wy)) (λ_ _ x=>.inl x) ⟨gS,cur,setRow_heap w b F cur tb (0,0) q,v.bs c,N⟩ (λk S=>.inl S)
 exact dt.uw cf D ⟨I,W,J,V⟩
end
def F8(B:Nat)(c5:cp)(bW:World)(pv:Value)(H:aA):Ending->World->Prop:=λe w'=>e= .panicked [{v:=pv,recovered:=false}]/\∃c3,bV B c3 w'/\Ext B c5 bW c3 w'/\a7 B c3 w' H
def y7(B:Nat)(P:Program)(f:FuncId)(xs:bl)(H:aA)(pv:Value):Prop:=
 m4 P f=true/\∀(I:cp) (w:World) (vs:dg),bV B I w->a7 B I w H->bQ I w xs vs->Calls P f vs.toArray w (F8 B I w pv H)
section
variable{P:Program}
def L0{B}{I}{w}{n:Nat}{fn:Func}{xs}{vs}{H}(hn:fn.ntmps=n)(f:Nat.ble xs.length n)(j:bV B I w)(h:a7 B I w H)(c:bQ I w xs vs):
  Sat ⟨B,I,w,n,[]⟩ ⟨na 0 xs,H⟩ {tmps:=vs.toArray++Array.replicate (fn.ntmps - vs.toArray.size) undef,defers:=[]} w:=by
 refine⟨rfl,?_,I,j,.refl _ _ _,h,λt y hy=>?_⟩
 ·have:=c.length;have:=Nat.le_of_ble_eq_true f;simp;omega
 ·obtain⟨v,a,g⟩:=c.get ye;have:(vs.toArray++Array.replicate (fn.ntmps - vs.toArray.size) undef).getD t undef=v:=by
   have kT:=(List.getElem?_eq_some_iff.1 a).1;simp[Array.getD_eq_getD_getElem?];rw[Array.getElem?_append_left wu];simp[a]
  rw[this];exact g
def y7.of{B}{f}{fn}{a}{xs}{H}{c}{n}(b8:P.funcs[f]? =some fn)(a8:fn.body=some a)(rK:(fn.name== "runtime.NumGoroutine")=false)
  (hn:fn.ntmps=n) (j:Nat.ble xs.length n) (h:∀I w,aB ⟨B,I,w,n,[]⟩ none P a ⟨na 0 xs,H⟩ (bodyPost P fn (F8 B I w c H))):y7 B P f xs H c:=
 ⟨uk,λI w o g l m=>uv (callsIn_of_wp b8 a8 trivial (h I w _ w (L0 hn j g l m)) rfl)⟩
def bO.L1{f}{fn}{a}{xs}{H}{c}{E}{n}(b8:P.funcs[f]? =some fn)(a8:fn.body=some a)(rK:(fn.name== "runtime.NumGoroutine")=false)
  (hn:fn.ntmps=n) (j:Nat.ble xs.length n) (h:∀B I w,aB ⟨B,I,w,n,[]⟩ none P a ⟨na 0 xs,H⟩ (bodyPostDIn (bt none) 0 P fn (e4 B I w c E))):bO P f xs H c E:=
 ⟨uk,λB I w o g l m=>uv (callsIn_of_wp_defers b8 a8 trivial (h B I w _ w (L0 hn j g l m)) rfl)⟩
variable{c:Ctx}{r:Option Nat}{ops:Array Oper}{l rest:cc}{o:Oper}{env:List (Nat×ab)}{H:aA}{Q:Exit->Act->World->Prop}{d:Nat}
def L2(P:Program)(t:TypeId):Bool:=match P.underlying t with
 | some (.interface _)=>false
 | some _=>true
 | none=>false
def ad.VH{ρ}{t}{x}{y}{g}(h:o.op= .makeInterface t x)(c:aN ρ x=some (g,y))(j:g=true)(ht:L2 P t):ad P H ρ o (.iface t y):=by
 intro B I w r a v q m s l;have f:(execOp a.eval o).run P w= .ok (.value (.iface t (a.eval x))) w:=by
  unfold L2 at ht;cases hu:P.underlying t with
  | none=>simp[hu] at ht
  | some u=>cases u <;> simp[hu] at ht <;> simp[execOp,h,Instr.makeInterface,run_underlying hu]
 exact .e3 cf f ⟨I,q,.refl _ _ _,m,.iface _ _ _ (l.get cb c j)⟩
def ab.is(y:ab)(v:Value):Prop:=∀(I:cp) (w:World) (u:Value),Rel I w y u->u=v
def aj.L3{x}{y}{g}{t}{v}(f:o.guard=none)(h:o.op= .panic x)(m:aN (aD env) x=some (g,y))(B:g=true)(hy:y.is (.iface t v))
  (next:aZ c ⟨env,H⟩ (.panic [{v:=.iface t v,recovered:=false}]) Q):aj c r P ops (o::rest) ⟨env,H⟩ Q:=by
 intro a w s;refine wpListIn_plain f λK C=>?_;obtain⟨I,F,G,D,A⟩:=s.mem;have l:=hy _ _ _ ((A.ops o).get cb m B);have q:(execOp a.eval o).run P w= .halt (.panic (.iface t v)) w:=by
  simp[execOp,h,l,Instr.panic]
 refine dt.Um (R:=λ_ _=>False) (E:=λch j=>ch= [{v:=.iface t v,recovered:=false}]/\j=w) cf q ⟨rfl,rfl⟩ K Q (λ_ _ h=>h.elim) ?_;rintro ch j ⟨rfl,rfl⟩;exact next a j s
def VI{B}{g}{f}{n}{fn}{c}{a}{w}(s:Sat ⟨B,g,f,n,[]⟩ ⟨env,H⟩ a w):bodyPost P fn (F8 B g f c H) (.panic [{v:=c,recovered:=false}]) a w:=
 let ⟨I,hw,he,aU,_⟩:=s.mem;⟨s.ds,rfl,I,hw,he,aU⟩
def aj.VJ{f}{xs}{q}(O:o.guard=none)(x:gD P (aD env) o f xs)(h:y7 c.B P f xs H q)(next:aZ c ⟨env,H⟩ (.panic [{v:=q,recovered:=false}]) Q):aj c r P ops (o::rest) ⟨env,H⟩ Q:=by
 intro a w s;refine wpListIn_plain O λK V=>?_;obtain⟨I,S,T,M,A⟩:=s.mem;obtain⟨F,N,D⟩:=x.run I w a (A.ops o);obtain⟨m,g⟩:=h;refine dt.qu (R:=λ_ _=>False) (E:=λch j=>ch= [{v:=q,recovered:=false}]/\∃l,bV c.B l j/\Ext c.B I w l j/\a7 c.B l j H) x.rO (D m) ((g I w F S M N).mono λe j t=>?_) K Q (λ_ _ h=>h.elim) ?_
 ·obtain⟨rfl,t⟩:=t;exact⟨rfl,t⟩
 ·rintro ch j ⟨rfl,l,G,z,L⟩;exact next a j ⟨s.ds,s.size,l,G,T.trans z,L,A.bs z.keeps⟩
def aj.L4{x}{D}{k}{vs:dg}{g:Bool}(l:r=none)(j:o.guard=none)(L:o.dst=none)(h:o.op= .defer {callee:=.value x,args:=#[],argTypes:=D})(z:aN (aD env) x=some (g,.fn (.func k) [] (vs.map .val)))(O:g=true)
  (next:aj ⟨c.B,c.c5,c.bW,c.n,{target:=.fn (.func k) vs.toArray,args:=#[]}::c.ds⟩ r P ops rest ⟨env,H⟩ Q):aj c r P ops (o::rest) ⟨env,H⟩ Q:=by
 intro a w s;refine wpListIn_plain j λK J=>?_;obtain⟨I,R,S,K,q⟩:=s.mem;have f:a.eval x= .func (.func k) #[] vs.toArray:=by
  have m:=(q.ops o).get gB z O;generalize a.eval x=u at m;cases m with
  | fn _ _ _ v T F C=>
   have N:=oT C;have E:v.toList= []:=by
    have:=F.length;exact List.eq_nil_of_length_eq_zero this
   rw[<-N];congr;exact Array.toList_eq_nil_iff.1 E
 have G:(execOp a.eval o).run P w= .ok (.defer {target:=.fn (.func k) vs.toArray,args:=#[]}) w:=by
  simp[execOp,h,resolve,Deferred.ofValue,f]
 unfold Oper.wpIn;refine⟨λ_ _=>trivial,?_⟩;subst l;have M:o.semAt (bt none).round a.eval=execOp a.eval o:=rfl;rw[M,G,Oper.uponIn_defer];refine J _ _ ?_;rw[L];exact next _ _ ⟨by show _::a.defers=_;rw[s.ds],s.size,I,R,S,K,λt y A=>q t y A⟩
def aB.scope{st}{p}(h:aB c none P p st (Exit.noGoto Q)):aB c none P (.scope p) st Q:=λa w s=>
 (wpIn_wide).2 (wp_scope_straight ((wpIn_wide).1 (h a w s)))
def aB.label{st}{k}(h:aZ c st .normal Q):aB c r P (.label k) st Q:=λa w s=>wpIn_label (h a w s)
def aZ.wT{st}(h:aZ c st .ret Q):aZ c st .ret (Exit.noGoto Q):=h
def aZ.VK{st}{k}(h:aZ c st (.exit k) Q):aZ c st (.exit k) (Exit.noGoto Q):=h
end
section
variable{P:Program}{H:aA}{ρ:Nat->Option ab}{o:Oper}
def ad.gU{t}{x y}{k b off n cap}{l}{i}{m j}[ht:eC P t k](h:o.op= .indexAddr t x y)(r:aN ρ x=some (m,.val (.slice (some ⟨b,off,none⟩) n cap)))(c:m=true)(hy:aN ρ y=some (j,.val (.int l i)))(a:j=true)(g:0<=i/\i<n):ad P H ρ o (.p b (off+i.toNat*k)):=by
 refine .same cf λI w f q=>?_;have s:=bX (q.get cb r c);have v:=bX (q.get cb hy a);exact⟨.pointer (some ⟨b,off+i.toNat*k,none⟩),by simp[execOp,h,s,v,Fa ht.h b off n cap l i g.1 g.2 w],.val _⟩
def VL{t}{k:Nat}(ht:qv P t=some k)(b off n cap l m:Nat)(h j:Option Value)(kl kh:IntKind)(q:match h with | none=>l=0 | some v=>v= .int kl (l:Int))(o:match j with | none=>m=n | some v=>v= .int kh (m:Int))(A:l<=m)(s:m<=cap)(D:l<cap)(w:World):
  (Instr.sliceAt t (.slice (some ⟨b,off,none⟩) n cap) h j none).run P w= .ok (.slice (some ⟨b,off+l*k,none⟩) (m - l) (cap - l)) w:=by
 obtain⟨e,x,B,f,r⟩:=nP ht;have c: ¬(cap=l):=by omega
 cases h <;> cases j <;> simp only at q o <;> subst q <;> subst o <;>
  simp[Instr.sliceAt,Instr.slice,run_underlying B,Instr.sliceBounds,Instr.sliceBound,asIntOf,sizeOf,typeInfo,f,r,A,s,c,Addr.add] <;> omega
def ad.L5{t}{x}{g q}{k b off n cap l m:Nat}{I gl gh:Bool}{kl kh:IntKind}[ht:eC P t k](h:o.op= .slice t x g q none)(J:aN ρ x=some (I,.val (.slice (some ⟨b,off,none⟩) n cap)))(v:I=true)
  (j:match g with | none=>l=0 | some y=>aN ρ y=some (gl,.val (.int kl (l:Int)))) (r:gl=true) (c:match q with | none=>m=n | some y=>aN ρ y=some (gh,.val (.int kh (m:Int)))) (z:gh=true) (M:l<=m) (K:m<=cap) (N:l<cap):
  ad P H ρ o (.val (.slice (some ⟨b,off+l*k,none⟩) (m - l) (cap - l))):=by
 refine .same cf λI w f s=>?_;have L:=bX (s.get cb J v);have A:∀y,g=some y->f.eval y= .int kl (l:Int):=λy e=>by
  subst e;exact bX (s.get cb j r)
 have E:∀y,q=some y->f.eval y= .int kh (m:Int):=λy e=>by
  subst e;exact bX (s.get cb c z)
 refine⟨_,?_,.val (.slice (some ⟨b,off+l*k,none⟩) (m - l) (cap - l))⟩;have:=VL ht.h b off n cap l m (g.map f.eval) (q.map f.eval) kl kh (by cases g with | none=>exact j | some y=>exact A y rfl) (by cases q with | none=>exact c | some y=>exact E y rfl) M K N w;simp[execOp,h,L,this]
def fp.au{t b k cap}{els}{more}{pre post}(hm:.au b t (els.flatten++more)∈H)(o:∀e∈els,e.length=k)(z:els.length<=cap)(m:cap<=maxLen):fp H (pre++.val (.slice (some ⟨b,0,none⟩) els.length cap)::post) (pre++.ai k els::post):=by
 intro B I w Q P L F G D;obtain⟨R,l,r,f,C⟩:=F.ok _ (G _ hm)
 let J:cp:=λdI g=>I dI g\/(dI=b/\g<l.size)
 have q:er I w J w:=⟨λ_ _ h=>.inl h,λ_ _ _=>rfl⟩;refine⟨J,λdI g h=>?_,?_⟩
 ·rcases h with h | ⟨rfl,h⟩
  ·exact L.there dI g h
  ·exact⟨l[g],by rw[jC r];exact Array.getElem?_eq_getElem h⟩
 obtain⟨O,x,rfl,aC,E⟩:=D.qG;cases E with
 | cons _ u _ x v K=>
  have:=bX v;subst this;have c:=f.length;rw[List.length_append,pE o] at c;have A:l.size=els.length*k+more.length:=by simpa using c
  have a:Cells J w b 0 (els.flatten++more):=uF r _ l.toList 0 (f.bs q) (λj u M=>by simpa using M) (λj N=>.inr ⟨rfl,by rw[List.length_append,pE o] at N;omega⟩);have j:=a.take els.flatten.length;rw[List.take_left] at j;exact (aC.bs q).append (.cons _ _ _ _ (.ai _ _ _ _ _ _ rfl z m (nc els 0 o j)) (K.bs q))
end
section
variable{c:Ctx}{r:Option Nat}{P:Program}{ops:Array Oper}{l rest:cc}{o:Oper}{env:List (Nat×ab)}{H:aA}{Q:Exit->Act->World->Prop}{d:Nat}
end
section
variable{c:Ctx}{r:Option Nat}{P:Program}{l:cc}{Q:Exit->Act->World->Prop}
end
section
variable{P:Program}{L rest:cc}{ss:dq}{n i d:Nat}{o:Oper}{env:List (Nat×ab)}{K:List (Nat×ab)->Prop}{x:ab}{H:aA}{akb:Nat->Nat->aA}{gJ:Nat}
end
def VM{H}{enc}{P}{f:Func}{s:ChangeSpec}{apart w h again:Bool}{W z:World}{args:Array Value}{v:Value}{ds B:List (DataW H)}{a A D:List MemPlace}
  (E:DataW.Whole enc P f.params.toList s.vars apart W args.toList ds B a)
  (m:∀(b:Nat) (sp:Nat->Bool) (K:Bool),DataW.TrodAll enc P z b sp K f.resultTypes.toList (v.resultList f.resultTypes.size) (s.fn H (ds++B)).results [])
  (g:∀sp:Nat->Bool,(∀p∈a,sp p.block=true)->DataW.TrodAll enc P z 0 sp true f.params.toList args.toList (s.fn H (ds++B)).args A)
  (c:∀sp:Nat->Bool,(∀p∈a,sp p.block=true)->DataW.TrodVars enc P z sp s.vars (s.fn H (ds++B)).vars D)
  (q:a=A++D) (I:Below W.heap.size W z)
  (G:∀(j:Nat) (t:TypeId) (r:Value),f.resultTypes[j]? =some t->(v.resultList f.resultTypes.size)[j]? =some r->Value.okWide P z .any 0 t r):
  s.post enc P f apart w h again W args v z:=by
 have l:∀p∈a,(λb=>decide (b<W.heap.size)) p.block=true:=λp o=>by simpa using E.lt p o
 have F:∀p∈a,p.block<W.heap.size:=λp o=>E.lt p o;refine⟨ds,B,a,[],A,D,E,m _ _ _,g _ l,c _ l,I.frame _,λ_=>?_⟩;obtain⟨_,_,_,_,_,L,M⟩:=E;refine⟨G,_,_,([]++A)++D,⟨[]++A,D,trodAll_append (g _ (λ_ _=>rfl)) (m _ _ _),c _ (λ_ _=>rfl),rfl,?_,?_⟩,?_⟩
 ·intro b x o;have C:MemPlace.cell b x∈a:=by rw[q];simpa using o
  rw[I.frozen (p:=⟨b,x,none⟩) (F _ C)];exact L b x C
 ·intro J;have:=M J;rw[q] at this;simpa using this
 ·intro p o _;rw[q];simpa using o
def F9(P:Program)(t:TypeId):Option (TypeId×Nat×Value):=
 match P.underlying t with
 | some (.slice e)=>match P.info? e with
  | some i=>match i.zero with
   | some z=>match z.cells.toList with
    | [v]=>bif Nat.beq i.size 1 then some (e,i.bytes,v) else none
    | _=>none
   | none=>none
  | none=>none
 | _=>none
class th (P:Program) (t:Nat) (x:outParam (Nat×Nat×Value)):Prop where h:F9 P t=some x
def Ga{P}{t e a}{v}(h:F9 P t=some (e,a,v)):∃i z,P.underlying t=some (.slice e)/\P.info? e=some i/\i.zero=some z/\i.size=1/\i.bytes=a/\z.cells= #[v]:=by
 unfold F9 at h;split at h
 ·rename_i m g;split at h
  ·rename_i i j;split at h
   ·rename_i z c;split at h
    ·rename_i l f;cases a1:Nat.beq i.size 1 with
     | false=>simp[a1] at h
     | true=>
      simp[a1,cond_true,Option.some.injEq,Prod.mk.injEq] at h;obtain⟨rfl,rfl,rfl⟩:=h;exact⟨i,z,g,j,c,Nat.eq_of_beq_eq_true a1,rfl,by apply Array.ext';simpa using f⟩
    ·cases h
   ·cases h
  ·cases h
 ·cases h
def Gb(v)(n):madeCells #[v] n=(List.replicate n v).toArray:=by
 apply Array.ext';simp[madeCells,Array.toList_map,Array.toList_range,List.size_toArray,List.length_singleton,Nat.mod_one];apply List.ext_getElem
 ·simp
 ·intro i a c;simp
section
variable{P:Program}{c:Ctx}{r:Option Nat}{ops:Array Oper}{rest:cc}{env:List (Nat×ab)}{H:aA}{Q:Exit->Act->World->Prop}{o:Oper}{d:Nat}
def aj.VN{x y}{t e g n:Nat}{v}{A D}{g1 F:Bool}[O:th P t (e,g,v)](B:o.guard=none)(U:o.dst=some d)(hn:Nat.blt d c.n)(h:o.op= .makeSlice t x y)
  (G:aN (aD env) x=some (g1,.val (.int A (n:Int)))) (m:g1=true) (hy:aN (aD env) y=some (F,.val (.int D (n:Int)))) (C:F=true) (Z:g*n<=281474976710656) (hm:n<=maxLen)
  (next:∀b,aj c r P ops rest ⟨(d,.val (.slice (some ⟨b,0,none⟩) n n))::env,.au b e (List.replicate n (.val v))::H⟩ Q):aj c r P ops (o::rest) ⟨env,H⟩ Q:=by
 intro a w s;refine wpListIn_plain B λK S=>?_;obtain⟨I,l,X,T,j⟩:=s.mem;obtain⟨i,z,V,W,M,J,wh,q⟩:=Ga O.h;have Y:=j;have L:a.eval x= .int A (n:Int):=bX ((j.ops o).get cb G m);have N:a.eval y= .int D (n:Int):=bX ((j.ops o).get cb hy C);have f:=run_make (P:=P) w t e i z V W M A D (n:Int) (n:Int) aa (Int.le_refl _) ER (by simp[maxLen] at hm;omega);rw[q,J,Nat.mul_one,Int.toNat_natCast,Gb] at f;refine dt.e3 (R:=λu w'=>u= .slice (some ⟨w.heap.size,0,none⟩) n n/\w'=w.alloc (.cells (List.replicate n v).toArray e)) (E:=λ_ _=>False) cf (v:=.slice (some ⟨w.heap.size,0,none⟩) n n) (w':=w.alloc (.cells (List.replicate n v).toArray e)) (by simp[execOp,h,L,N,f]) ⟨rfl,rfl⟩ K Q ?_ (λ_ _ h=>h.elim);rintro u w' ⟨rfl,rfl⟩;have ae:bQ I w (List.replicate n (.val v)) (List.replicate n v):=by have:=lj (I:=I) (w:=w) (List.replicate n v);rwa [List.map_replicate] at this
 refine S _ _ (next w.heap.size _ _ ⟨iJ,iI,I,l.alloc _,X.trans (jB l _),T.new l e _ _ m2,?_⟩);rw[U];exact (j.bs (lP l _)).put (dst:=some d) oI (.val _)
def aj.pN{x y}{t e a}(n:Nat){m:Int}{v}{A w}{g1 l}[C:th P t (e,a,v)](g:o.guard=none)(q:o.dst=some d)(hn:Nat.blt d c.n)(h:o.op= .makeSlice t x y)
  (s:aN (aD env) x=some (g1,.val (.int A m))) (j:g1=true) (hy:aN (aD env) y=some (l,.val (.int w m))) (f:l=true) (B:m=(n:Int)) (z:a*n<=281474976710656) (hm:n<=maxLen)
  (next:∀b,aj c r P ops rest ⟨(d,.val (.slice (some ⟨b,0,none⟩) n n))::env,.au b e (List.replicate n (.val v))::H⟩ Q):aj c r P ops (o::rest) ⟨env,H⟩ Q:=by
 subst B;exact .VN g q hn h s j hy f z hm next
end
def allI(w:World):cp:=λb o=>∃c,w.cell? ⟨b,o,none⟩=some c
def VO(w):bV w.heap.size (allI w) w:=⟨Nat.le_refl _,λ_ _ h=>h⟩
section
variable{H:Type}{enc:TypeId×Value->H}{P:Program}{w:World}{base:Nat}{spare:Nat->Bool}{held:Bool}
def Reads(enc:TypeId×Value->H)(P:Program)(w:World)(base:Nat)(spare:Nat->Bool)(held:Bool)(n:Nat)(t:TypeId){α:Type}(e:α->bl):Prop:=
 ∀fuel,fuel<=n->∀cs x,DataW.trod enc P w base spare held fuel t cs=some x->∃y:α,bQ (allI w) w (e y) cs
def y8{n}{t}(ht:P.underlying t=some (.int .i64)):Reads enc P w base spare held n t (λq:Int=>[.i q]):=λfuel _ a x h=>by
 obtain⟨q,rfl,_⟩:=DataW.trod_int ht h;exact⟨q,.cons _ _ _ _ (.val _) .nil⟩
theorem Gc{b o}:∀{f:bl} {a:dg},bQ (allI w) w f a->(∀i,i<a.length->w.cell? ⟨b,o+i,none⟩=a[i]?)->Cells (allI w) w b o f
 | [],a,_,_=>.nil _ _
 | x::f,a,h,g=>by
  cases h with
  | cons _ v _ m j l=>
   have c:=g 0 aS;simp at c;exact .cons _ _ _ _ _ c ⟨v,c⟩ j (Gc l λi q=>by
    have:=g (i+1) cB;rw[Nat.add_assoc,Nat.add_comm 1 i];simpa using this)
def L6{n k}{t e}{E}{cq}(ht:P.underlying t=some (.slice e))(C:P.cellsOf e=k)(N:0<k)(A:∀y,(cq y).length=k)(R:Reads enc P w base spare held n e cq):
  Reads enc P w base spare held (n+1) t (λl:List E=>[.ai k (l.map cq)]):=λfuel U X x h=>by
 rcases DataW.trod_slice ht h with⟨rfl,_⟩ | ⟨a,len,cap,elems,rest,m,rfl,rfl,rfl,a8,a1,hm,br,hget,_⟩
 ·exact⟨[],.cons _ _ _ _ (.dQ _ _ _) .nil⟩
 ·have z:∀j,j<=len->∃l:List E,l.length=j/\(j=0\/a.spot=none)/\fL (allI w) w k a.block a.off (l.map cq):=by
   intro j
   induction j with
   | zero=>intro _;exact⟨[],rfl,.inl rfl,.nil _ _ _⟩
   | succ j I=>
    intro V;obtain⟨l,ae,f,B⟩:=I aa;have G:=hget j aa;rw[List.getElem?_eq_getElem aa] at G;obtain⟨r,Q,O⟩:=Option.bind_eq_some_iff.1 G;obtain⟨W,L,D⟩:=World.cells?_some Q;obtain⟨y,H⟩:=R m aa r _ O;have F:r.length=k:=by rw[L,C]
    have g:a.spot=none:=by
     by_cases s:j=0
     ·have c:=D 0 aa;rw[List.getElem?_eq_getElem aa,s,Nat.zero_mul] at c;have J:(a.add 0).add 0=a:=by simp[Addr.add]
      rw[J] at c;cases b6:a.spot with
      | none=>rfl
      | some q=>
       exfalso;unfold World.cell? at c;rw[b6] at c;split at c <;> simp at c
     ·exact f.resolve_left aa
    refine⟨l++[y],rM,.inr g,?_⟩;rw[List.map_append];have v:Cells (allI w) w a.block (a.off+j*k) (cq y):=Gc H λi Y=>by
     have c:=D i aa;have K:(a.add (j*P.cellsOf e)).add i=⟨a.block,a.off+j*k+i,none⟩:=by
      rw[Addr.add_add,C];unfold Addr.add;split
      ·obtain⟨S,T,M⟩:=a;simp at g;subst g;simp;omega
      ·simp <;> omega
     rw[K] at c;exact c
    exact B.append (.cons _ _ _ _ _ (A y) (by rw[List.length_map,ae];exact v) (.nil _ _ _))
  obtain⟨l,ae,f,B⟩:=z len (Nat.le_refl _);refine⟨l,.cons _ _ _ _ ?_ .nil⟩;rcases f with f | f
  ·have:l= []:=List.eq_nil_of_length_eq_zero aa;subst this f;exact .dQ _ _ _
  ·obtain⟨b,o,sp⟩:=a;simp at f;subst f;exact .ai _ _ _ _ _ _ rM a1 hm B
def k0{I}{xs ys}{cs:dg}{a n m}(c:bQ I w xs ((cs.drop a).take n))(f:bQ I w ys ((cs.drop (a+n)).take m)):bQ I w (xs++ys) ((cs.drop a).take (n+m)):=by
 rw[List.take_add,List.drop_drop];exact c.append f
def VP{I}{xs}{v}(h:bQ I w xs v.cells.toList)(hn:xs.length≠1):Rel I w (.agg xs) v:=by
 have a:=h.length;cases v with
 | agg c=>exact .agg _ _ h
 | _=>simp[Value.cells] at a;omega
end
def L7{H}{enc}{P}(s:laidOutB P){W q}(z:Below W.heap.size W q){sp}:
  ∀{g:List TypeId} {j:dg} {l:List (DataW H)} {f:List MemPlace},(∀t∈g,P.readableRec t=true/\t<P.types.size)->DataW.TrodAll enc P W 0 (λ_=>true) true g j l f->
   (∀p∈f,p.block<W.heap.size)->(∀p∈f,sp p.block=true)->DataW.TrodAll enc P q 0 sp true g j l f
 | [],j,l,f,_,h,_,_=>by
  obtain⟨rfl,rfl,rfl⟩:=trodAll_nil h;exact h
 | t::g,j,l,f,x,h,w,r=>by
  obtain⟨v,B,d,A,a,b,rfl,rfl,rfl,C,D⟩:=trodAll_cons h;have o:=x t (.head _);exact⟨a,b,Go.WideElems.Trod_stays s o.1 o.2 C (λp c=>z.same (w p (List.mem_append_left _ c))) (λp c=>r p (List.mem_append_left _ c)),
   L7 s z (λwK m=>x wK (.tail _ m)) D (λp c=>w p (List.mem_append_right _ c)) (λp c=>r p (List.mem_append_right _ c)),rfl⟩
structure lu{H:Type}(bB:DataW H->Nat):Prop where
 len:∀es sp,es.length<=bB (.slice es sp)
 el:∀es sp,∀e∈es,bB e<=bB (.slice es sp)
 aW:∀bZ,∀e∈bZ,bB e<=bB (.agg bZ)
section
variable{H:Type}{enc:TypeId×Value->H}{P:Program}{w:World}{base:Nat}{spare:Nat->Bool}{held:Bool}
def lv(enc:TypeId×Value->H)(P:Program)(w:World)(base:Nat)(spare:Nat->Bool)(held:Bool)(bB:DataW H->Nat)(n:Nat)(t:TypeId){α:Type}(e:α->bl)(Q:α->Nat->Prop):Prop:=
 ∀fuel,fuel<=n->∀cs x,DataW.trod enc P w base spare held fuel t cs=some x->∃y:α,bQ (allI w) w (e y) cs/\Q y (bB x.1)
def Reads.b{bB:DataW H->Nat}{n:Nat}{t:TypeId}{α:Type}{e:α->bl}(h:Reads enc P w base spare held n t e):lv enc P w base spare held bB n t e (λ_ _=>True):=λf b8 cs x aK=>
 let ⟨y,hy⟩:=h f b8 cs x aK;⟨y,hy,trivial⟩
def y9{A}(M:lu A){n k}{t e}{K}{cq}{Q}(Y:∀y a b,a<=b->Q y a->Q y b)(ht:P.underlying t=some (.slice e))(I:P.cellsOf e=k)(W:0<k)(F:∀y,(cq y).length=k)(U:lv enc P w base spare held A n e cq Q):
  lv enc P w base spare held A (n+1) t (λl:List K=>[.ai k (l.map cq)]) (λl b=>l.length<=b/\∀y∈l,Q y b):=λfuel b8 cs x h=>by
 rcases DataW.trod_slice ht h with⟨rfl,_⟩ | ⟨a,len,cap,elems,rest,m,rfl,rfl,rfl,a8,a1,hm,br,hget,_⟩
 ·exact⟨[],.cons _ _ _ _ (.dQ _ _ _) .nil,Nat.zero_le _,λy s=>by cases s⟩
 ·have E:∀j,j<=len->∃l:List K,l.length=j/\(j=0\/a.spot=none)/\fL (allI w) w k a.block a.off (l.map cq)/\∀y∈l,Q y (A (.slice (elems.map (·.1)) (rest.map (·.1)))):=by
   intro j
   induction j with
   | zero=>intro _;exact⟨[],rfl,.inl rfl,.nil _ _ _,λy s=>by cases s⟩
   | succ j O=>
    intro cm;obtain⟨l,ae,f,G,D⟩:=O aa;have N:=hget j aa;rw[List.getElem?_eq_getElem aa] at N;obtain⟨v,Z,X⟩:=Option.bind_eq_some_iff.1 N;obtain⟨dK,T,J⟩:=World.cells?_some Z;obtain⟨y,s,H⟩:=U m aa v _ X;have L:v.length=k:=by rw[T,I]
    have g:a.spot=none:=by
     by_cases B:j=0
     ·have c:=J 0 aa;rw[List.getElem?_eq_getElem aa,B,Nat.zero_mul] at c;have R:(a.add 0).add 0=a:=by simp[Addr.add]
      rw[R] at c;cases b6:a.spot with
      | none=>rfl
      | some q=>
       exfalso;unfold World.cell? at c;rw[b6] at c;split at c <;> simp at c
     ·exact f.resolve_left aa
    refine⟨l++[y],rM,.inr g,?_,λz r=>?_⟩
    rotate_left
    ·rcases List.mem_append.1 r with r | r
     ·exact D z r
     ·simp at r;subst r;exact Y _ _ _ (M.el _ _ _ (List.mem_map.2 ⟨_,List.getElem_mem _,rfl⟩)) H
    rw[List.map_append];have C:Cells (allI w) w a.block (a.off+j*k) (cq y):=Gc s λi aQ=>by
     have c:=J i aa;have S:(a.add (j*P.cellsOf e)).add i=⟨a.block,a.off+j*k+i,none⟩:=by
      rw[Addr.add_add,I];unfold Addr.add;split
      ·obtain⟨dV,BR,V⟩:=a;simp at g;subst g;simp;omega
      ·simp <;> omega
     rw[S] at c;exact c
    exact G.append (.cons _ _ _ _ _ (F y) (by rw[List.length_map,ae];exact C) (.nil _ _ _))
  obtain⟨l,ae,f,G,D⟩:=E len (Nat.le_refl _);refine⟨l,.cons _ _ _ _ ?_ .nil,by have c:=M.len (elems.map (·.1)) (rest.map (·.1));rw[List.length_map] at c;exact Nat.le_trans aa c,D⟩;rcases f with f | f
  ·have:l= []:=List.eq_nil_of_length_eq_zero aa;subst this f;exact .dQ _ _ _
  ·obtain⟨b,o,sp⟩:=a;simp at f;subst f;exact .ai _ _ _ _ _ _ rM a1 hm G
end
def fU.perm{H H'}{e}(h:fU H e H'):H.Perm (e::H'):=by
 induction h with
 | head=>exact .refl _
 | tail f e H H' _ c=>exact (c.cons f).trans (.swap _ _ _)
def a7.pO{B}{I}{w}{H H'}{e e'}(h:a7 B I w H)(hu:bG H e e' H')(a:e.ok B I w->e'.ok B I w)(c:∀b,e'.dY=some b->e.dY=some b):a7 B I w H':=
 h.fE hu ⟨λ_ _ x=>x,λ_ _ _=>rfl⟩ (λ_ _ _=>rfl) (λ_ _ x=>.inl x) (a (h.ok _ hu.mem)) (λb g=>.inl (c b g))
def bn.wU{B}{I}{w}{t k n}{v}{cs}(hn:n≠0)(h:bn.ok B I w (.row t k v n cs)):
  ∃b a c,v= .slice (some ⟨b,0,none⟩) n a/\n<=a/\a<=maxLen/\(cs++c).length=a*k/\cs.length=n*k/\bn.ok B I w (.au b t (cs++c)):=by
 obtain⟨A,f,m,l⟩:=h;rcases f.2 with⟨rfl,af⟩ | ⟨g,a,cur,rfl,hBg,aw,n4,pK,hcs,lr⟩
 ·exact absurd af hn
 ·have q:=m.length;have z:=f.1;have j:n*k<=cur.size:=by rw[hcs];exact Nat.mul_le_mul_right k n4
  refine⟨g,a,(cur.toList.drop (n*k)).map .val,rfl,n4,pK,?_,aa,hBg,cur,aw,?_,λo=>l g rfl o⟩
  ·have x:cs.length=n*k:=by omega
   have s:cur.toList.length=a*k:=hcs;rw[List.length_append,List.length_map,List.length_drop,x,s,Nat.add_sub_cancel' (hcs▸j)]
  ·have r:=m.append (lj (I:=I) (w:=w) (cur.toList.drop (n*k)));rw[<-lr] at r;rwa [List.take_append_drop] at r
def bn.Gd{B}{I}{w}{t k n b cap}{cs more}(s:n<=cap)(j:cap<=maxLen)(C:(cs++more).length=cap*k)(x:cs.length=n*k)(h:bn.ok B I w (.au b t (cs++more))):
  bn.ok B I w (.row t k (.slice (some ⟨b,0,none⟩) n cap) n cs):=by
 obtain⟨q,m,v,c,a⟩:=h;have r:=c.length;rw[Array.length_toList] at r;obtain⟨g,z,e,aC,A⟩:=c.qG;have l:=aC.length;refine⟨g,⟨aa,.inr ⟨b,cap,m,rfl,q,v,s,j,aa,?_⟩⟩,aC,λg f o=>by simp[Value.ownBlock] at f;subst f;exact a o⟩;rw[e, <-x, <-l,List.take_left]
def bn.VQ{B}{I}{w}{t k A}{v}(l:Rel I w (.ai A []) v)(h:bn.ok B I w (.own t k v)):bn.ok B I w (.row t k v 0 []):=by
 obtain⟨n,xs,a,f⟩:=h;have x:n=0:=by
  rcases a.2 with⟨rfl,af⟩ | ⟨g,c,cur,rfl,_⟩
  ·exact af
  ·cases l with
   | dQ=>rfl
   | ai _ _ b off len c q=>exact q.symm
 subst x;have j:xs= []:=List.eq_nil_of_length_eq_zero (by have:=a.1;omega);subst j;exact⟨[],a,.nil,λg s o=>f g s o aa⟩
section
variable{c:Ctx}{r:Option Nat}{P:Program}{ops:Array Oper}{l rest:cc}{o:Oper}{env:List (Nat×ab)}{H:aA}{Q:Exit->Act->World->Prop}{d:Nat}
def aj.L8{t k j}{v}{H'}(z:aD env d=some (.as (.ai j []) v))(hu:bG H (.own t k v) (.row t k v 0 []) H')(h:aj c r P ops l ⟨(d,.val v)::env,H'⟩ Q):aj c r P ops l ⟨env,H⟩ Q:=λa w s=>by
 obtain⟨I,B,D,q,m⟩:=s.mem;have g:=m d _ z;have A:Rel I w (.ai j []) v:=by
  generalize a.tmps.getD d undef=u at g;cases g with | as _ _ f=>exact f
 have o:a.tmps.getD d undef=v:=by
  generalize a.tmps.getD d undef=u at g;cases g;rfl
 exact h a w ⟨s.ds,s.size,I,B,D,q.pO hu (bn.VQ A) (λ_ x=>x),λt x f=>by
  rw[kU] at f;split at f
  ·rename_i e;cases f;subst e;rw[o];exact .val _
  ·exact m t x f⟩
def aB.Ch{p}{t k n}{v}{cs:bl}{H':Nat->Nat->bl->aA}(hn:n≠0)(hu:∀b g f,bG H (.row t k v n cs) (.au b t (cs++f)) (H' b g f))
  (h:∀b g f,v= .slice (some ⟨b,0,none⟩) n g->n<=g->g<=maxLen->(cs++f).length=g*k->cs.length=n*k->aB c r P p ⟨env,H' b g f⟩ Q):aB c r P p ⟨env,H⟩ Q:=λa w s=>by
 obtain⟨I,D,E,l,z⟩:=s.mem;obtain⟨b,g,f,j,o,C,x,B,A⟩:=bn.wU hn (l.ok _ (hu 0 0 []).mem);refine h b g f j o C x B a w ⟨s.ds,s.size,I,D,E,l.pO (hu b g f) (λ_=>A) (λx q=>?_),z⟩;subst j;exact q
def Sat.tf{t k}{v}{els}{H'}{a}{w}(s:Sat c ⟨env,H⟩ a w)(l:aD env d=some (.val v))(A:fU H (.row t k v els.length els.flatten) H')(o:∀e∈els,e.length=k):Sat c ⟨(d,.ai k els)::env,H'⟩ a w:=by
 obtain⟨I,B,r,z,h⟩:=s.mem;obtain⟨J,q,g,j,m⟩:=a7.tf B (z.perm A.perm) o;refine⟨s.ds,s.size,J,q,r.trans g,j,λt x f=>?_⟩;rw[kU] at f;split at f
 ·rename_i e;cases f;subst e;rw[bX (h _ _ l)];exact m
 ·exact (h t x f).bs g.keeps
def aB.tf{p}{t k}{v}{els}{H'}(f:aD env d=some (.val v))(g:fU H (.row t k v els.length els.flatten) H')(j:∀e∈els,e.length=k)
  (h:aB c r P p ⟨(d,.ai k els)::env,H'⟩ Q):aB c r P p ⟨env,H⟩ Q:=λa w s=>h a w (s.tf f g j)
end
section
variable{P:Program}{c:Ctx}{r:Option Nat}{ops:Array Oper}{l rest:cc}{o:Oper}{st:dU}{Q:Exit->Act->World->Prop}{x:ab}
def VR{B D}{q}{o}{n}{fn}{r}{E}{env}{H H' g}{y}{a}{w}{v}
  (h:fU H (.obj D (.deferred (some []))) g) (z:H'.Sublist g) (G:E y H') (s:Sat ⟨B,q,o,n,[mark D]⟩ ⟨env,H⟩ a w) (hy:∀J w,Rel J w y v):bodyPostM (bt none) 0 P fn (e4 B q o r E) (.panic [{v:=v,recovered:=false}]) a w:=by
 obtain⟨I,K,L,l,M⟩:=s.mem;obtain⟨F,C,c⟩:=l.ok _ h.mem;show LeavesInM _ _ _ _ _ _ a.defers _ _;rw[show a.defers= [mark D] from s.ds];have t:er I w I (w.putObj D (.deferred none)):=pH (B:=B) c;have j:a7 B I (w.putObj D (.deferred none)) g:=by
  refine (l.sub h.sub).bs t (λf A b m=>World.putObj_heap_other λe=>?_) λ_ _ _ _ _ x=>x;subst e;exact h.apart l.apart f A _ rfl m
 exact⟨aS,.inl ⟨D,_,rfl,run_takeDeferred C,I,H',K.putObj c,L.trans (.putObj F c),j.sub z,.inr ⟨v,y,rfl,hy _ _,G⟩⟩⟩
end
section
variable{P:Program}{c:Ctx}{r:Option Nat}{ops:Array Oper}{l rest:cc}{o:Oper}{env:List (Nat×ab)}{H:aA}{Q:Exit->Act->World->Prop}{d:Nat}
structure ab.Const(y:ab)(v:Value):Prop where
 is:∀(I:cp) (w:World) (u:Value),Rel I w y u->u=v
 rel:∀(I:cp) (w:World),Rel I w y v
def pP(P:Program)(f:FuncId)(xs:bl)(H:aA)(o:Option (ab×aA))(jD:aA)(pv:ab):Prop:=
 bO P f xs H (λy H'=>o=some (y,H')) (λy H'=>o=none/\y=pv/\H'=jD)
def pP.ok{f}{xs}{a g}{y pv}(h:pP P f xs H (some (y,a)) g pv):bO P f xs H (λy' c=>y'=y/\c=a) (λ_ _=>False):=
 .rQ h (λ_ _ e=>by cases e;exact⟨rfl,rfl⟩) λ_ _ ⟨e,_⟩=>by cases e
def aj.mB{f}{xs}{a m}{y q}(l:o.guard=none)(g:o.dst=some d)(hn:Nat.blt d c.n)(j:gD P (aD env) o f xs)(h:pP P f xs H (some (y,a)) m q)
  (next:aj c r P ops rest ⟨(d,y)::env,a⟩ Q):aj c r P ops (o::rest) ⟨env,H⟩ Q:=
 .FR l g hn j h.ok.b (λ_ _ ⟨e,e'⟩=>by subst e;subst e';exact next)
def aj.l1{f}{xs}{g}{j}{v}(q:o.guard=none)(l:ix c.n o.dst)(m:gD P (aD env) o f xs)(h:pP P f xs H none g j)(t:j.Const v)
  (next:aZ c ⟨env,g⟩ (.panic [{v:=v,recovered:=false}]) Q):aj c r P ops (o::rest) ⟨env,H⟩ Q:=
 .s9 q l m h.b (λ_ _ e=>by cases e) (λy x ⟨_,bM,bL⟩ a w s I u hu=>by
  subst bM;subst bL;rw[t.is I w u hu];exact next a w s)
def aj.VS{x}{y}{g}{t}{v}(a:o.guard=none)(h:o.op= .panic x)(f:aN (aD env) x=some (g,y))(j:g=true)(hy:y.Const (.iface t v))
  (next:aZ c ⟨env,H⟩ (.panic [{v:=.iface t v,recovered:=false}]) Q):aj c r P ops (o::rest) ⟨env,H⟩ Q:=.L3 a h f j hy.is next
def kC{B}{f}{g}{n}{fn}{j}{E}{c}{y}{v}(hy:y.Const v)(l:c.Sublist H)(h:E y c):
  ∀a w,Sat ⟨B,f,g,n,[]⟩ ⟨env,H⟩ a w->bodyPost P fn (e4 B f g j E) (.panic [{v:=v,recovered:=false}]) a w:=
 λa w s=>let ⟨J,hw,he,aU,_⟩:=s.mem;⟨s.ds,J,c,hw,he,aU.sub l,.inr ⟨v,y,rfl,hy.rel _ _,h⟩⟩
def VT{B D}{f}{g}{n}{fn}{m}{E}{h c}{y}{v}(hy:y.Const v)(j:fU H (.obj D (.deferred (some []))) c)(o:h.Sublist c)(l:E y h):
  ∀a w,Sat ⟨B,f,g,n,[mark D]⟩ ⟨env,H⟩ a w->bodyPostM (bt none) 0 P fn (e4 B f g m E) (.panic [{v:=v,recovered:=false}]) a w:=
 λa w s=>VR j o l s hy.rel
end
end Go.Eng

