/- A part of the proof. No condition. -/
import Derived.Test.YtodccgailpkgeaaGreatKindClosesP3
import Derived.Maps.Keyed
import Derived.Maps.AppendAt
import Derived.OneCell
import Derived.Scope
import Derived.OpenShut
import Derived.ProofKit
import Derived.Laws.MakeOwn
import Derived.Carry
import Derived.Laws.BytesString
set_option linter.defProp false
set_option maxHeartbeats 1000000
set_option linter.unusedVariables false
set_option linter.unusedSimpArgs false
namespace Go.Eng
open Go.RowKit (Below)
open Go.ChangeShapes Go.WideShapes Go.ChangeAt Go.RowKit
open Go.ChangeShapes Go.WideShapes
def ev(P:Program)(k:TypeId)(v:Value):Prop:=∃l,keyOf P k v=some l
class y9 (P:Program) (t:Nat) (x:outParam (Nat×Nat)):Prop where
 h:P.underlying t=some (.map x.1 x.2)
 key:Go.Maps.Keyed P x.1
 zero:((P.info? x.2).bind (·.zero))=some (.pointer none)
theorem o3{I:cr}{w:World}:∀{vs us:dj},bU I w (vs.map .val) us->us=vs
 | [],_,.nil=>rfl
 | v::vs,_,.cons _ _ _ _ h t=>by rw[bZ h,o3 t]
def V6{P}{k i ar m}(h:(P.underlying k).map (λd=>match d with | .struct E=>E.toList.map (λf=>(f.name,f.type,f.offset)) | _=>[])=some [("arg",i,0),("many",i,1),("path",ar,2)])(hm:P.types.size=m+2)(G:P.underlying i=some (.int .i64))(w:P.underlying ar=some (.array 2 i))
  (M:P.cellsOf k=4) (z:P.cellsOf ar=2) (N:P.cellsOf i=1) (V7:P.keyType k=true) {a b c d} (n4:(Go.Lit.int .i64 a).wf=true) (X:(Go.Lit.int .i64 b).wf=true) (I:(Go.Lit.int .i64 c).wf=true) (O:(Go.Lit.int .i64 d).wf=true):
  ev P k (.agg #[.int .i64 a,.int .i64 b,.int .i64 c,.int .i64 d]):=by
 cases hu:P.underlying k with
 | none=>simp[hu] at h
 | some t=>
  simp[hu,Option.map_some,Option.some.injEq] at h;cases t with
  | struct E=>
   obtain⟨W⟩:=E;simp only at h;rcases W with _ | ⟨f0,_ | ⟨f1,_ | ⟨f2,_ | ⟨f3,r⟩⟩⟩⟩
   ·simp at h
   ·simp at h
   ·simp at h
   ·simp[List.map_cons,List.map_nil,List.cons.injEq,Prod.mk.injEq,and_true] at h;obtain⟨⟨V8,t0,U⟩,⟨S,t1,hz⟩,⟨tn,t2,Y⟩⟩:=h;have s:(Value.agg #[.int .i64 a,.int .i64 b,.int .i64 c,.int .i64 d]).formed P k=true:=by simp[Value.formed,hu,M]
    have H:∀(q:Nat) (x:Int),(Go.Lit.int .i64 x).wf=true->P.keyLits (q+1) i [.int .i64 x]=some [.int .i64 x]:=λq x R=>by simp[Program.keyLits,G,R]
    have K:P.keyLits (m+1+1) ar [.int .i64 c,.int .i64 d]=some [.int .i64 c,.int .i64 d]:=by
     simp[Program.keyLits,w,G,z,N,I,O,List.range,List.range.loop]
    have o:P.keyLits (P.types.size+1) k [.int .i64 a,.int .i64 b,.int .i64 c,.int .i64 d]=some [.int .i64 a,.int .i64 b,.int .i64 c,.int .i64 d]:=by
     rw[hm];simp[Program.keyLits,hu,w,G,M,V8,S,tn,t0,t1,t2,U,hz,Y,N,z,n4,X,I,O,List.range,List.range.loop]
    exact⟨.string (keyBytes [.int .i64 a,.int .i64 b,.int .i64 c,.int .i64 d]),by
     have F:(Value.agg #[.int .i64 a,.int .i64 b,.int .i64 c,.int .i64 d]).cells.toList= [.int .i64 a,.int .i64 b,.int .i64 c,.int .i64 d]:=rfl;simp[keyOf,hu,V7,s,Bool.and_self,if_true,F,o,Option.map_some]⟩
   ·simp at h
  | _=>simp at h
def ad.h2{P}{H}{ρ}{o}{f}{xs ys}{y}{t}(z:gG P ρ o f xs)(j:c5 xs ys)(h:hS P t f ys y)(hm:∀e∈t,e∈H):ad P H ρ o y:=by
 intro B I w r a F L D J C;obtain⟨E,K,A⟩:=(z.le j).run I w a C;obtain⟨q,c⟩:=h F (λe M=>J e (hm e M));refine .qD z.rS (A q) ((c B I w E L D K).mono λe N g=>?_);obtain⟨G,O,s,m,l,g⟩:=g;rcases g with⟨v,x,rfl,aK,rfl,rfl⟩ | ⟨v,x,rfl,_,j8⟩
 ·exact⟨G,s,m,l,aK⟩
 ·exact j8.elim
section
variable{c:Ctx}{r:Option Nat}{P:Program}{ops:Array Oper}{l rest:cg}{o:Oper}{env:List (Nat×ab)}{H:aC}{Q:Exit->Act->World->Prop}{d:Nat}
def ai.Gc{f}{xs}{g}{a}(q:o.guard=none)(j:o.dst=some d)(hn:Nat.blt d c.n)(m:gG P (aE env) o f xs)(h:y0 P a f xs g)(hm:∀e∈a,e∈H)
  (next:∀y,g y->ai c r P ops rest ⟨(d,y)::env,H⟩ Q):ai c r P ops (o::rest) ⟨env,H⟩ Q:=
 .F0 q j hn m (h H hm).b (λy s ⟨l,ak⟩=>by subst ak;exact next y l)
def ai.V9{t}{x M}{b}{ke}{κ}{dd}{vs:dj}{y:ab}{g1 Z:Bool}[G:y9 P t ke](V:o.guard=none)(a6:o.dst=some d)(hn:Nat.blt d c.n)(h:o.op= .lookup t x M true)
  (aK:aO (aE env) x=some (g1,.val (.map (some b)))) (T:g1=true) (bD:aO (aE env) M=some (Z,y)) (W:Z=true) (hy:aq y (.agg (vs.map .val))) (hm:.lmap b (ev P ke.1) κ dd∈H) (A:ev P ke.1 (.agg vs.toArray))
  (found:ai c r P ops rest ⟨(d,.bj [.ptr (κ (.agg vs.toArray)),.b true])::env,H⟩ Q)
  (g:κ (.agg vs.toArray)=dd->ai c r P ops rest ⟨(d,.bj [.val (.pointer none),.b false])::env,H⟩ Q):ai c r P ops (o::rest) ⟨env,H⟩ Q:=by
 intro a w s;refine wpListIn_plain V λK eX=>?_;obtain⟨I,Y,S,U,O⟩:=s.mem;have D:=bZ ((O.ops o).get cd aK T);have J:a.eval M= .agg vs.toArray:=by
  have X:=hy _ _ _ ((O.ops o).get cd bD W);generalize a.eval M=u at X;cases X with
  | agg _ us N=>have:=o3 N;rw[<-this]
 obtain⟨eD,⟨ct,dv,ba,z,L⟩,bI⟩:=U.ok _ hm;obtain⟨sa,B⟩:=A;have F:∀e∈ct.toList,∃l,keyOf P ke.1 e.key=some l:=λe S=>(z e S).1;have m:=G.key.check w ct.isEmpty B;have q:(getObj b).run P w= .ok (.map ct dv) w:=by simp[getObj,Sem.run,ba]
 rcases G.key.find w B ct.toList F with⟨b7,hx⟩ | ⟨j,e,b7,cp,jO⟩
 ·have aD:(zeroValue ke.2).run P w= .ok (.pointer none) w:=by
   have:=G.zero;cases aN:P.info? ke.2 with
   | none=>simp[aN] at this
   | some a0=>simp[aN] at this;simp[zeroValue,typeInfo,aN,this]
  have f:(execOp a.eval o).run P w= .ok (.value (.tuple #[.pointer none,.bool false])) w:=by
   simp[execOp,h,Instr.lookup,run_underlying G.h,D,J,q,m,b7,aD]
  refine dw.e4 (R:=λv C=>v= .tuple #[.pointer none,.bool false]/\C=w) (E:=λ_ _=>False) ck f ⟨rfl,rfl⟩ K Q ?_ λ_ _ h=>h.elim;rintro v C ⟨rfl,rfl⟩;refine eX _ _ (g (L _ ⟨sa,B⟩ hx) _ _ ⟨iS,iR,I,Y,S,U,?_⟩);have:=O.put (dst:=some d) (x:=.bj [.val (.pointer none),.b false]) (v:=.tuple #[.pointer none,.bool false]) oR (.bj _ _ (.cons _ _ _ _ (.val _) (.cons _ _ _ _ (.val _) .nil)));rw[a6];exact this
 ·have f:(execOp a.eval o).run P w= .ok (.value (.tuple #[e.val,.bool true])) w:=by
   simp[execOp,h,Instr.lookup,run_underlying G.h,D,J,q,m,b7]
  refine dw.e4 (R:=λv C=>v= .tuple #[e.val,.bool true]/\C=w) (E:=λ_ _=>False) ck f ⟨rfl,rfl⟩ K Q ?_ λ_ _ h=>h.elim;rintro v C ⟨rfl,rfl⟩;refine eX _ _ (found _ _ ⟨iS,iR,I,Y,S,U,?_⟩);have N:=(z e (List.mem_of_getElem? cp)).2;rw[jO] at N;have:=O.put (dst:=some d) (x:=.bj [.ptr (κ (.agg vs.toArray)),.b true]) (v:=.tuple #[e.val,.bool true]) oR (.bj _ _ (.cons _ _ _ _ N (.cons _ _ _ _ (.val _) .nil)));rw[a6];exact this
def ai.Wa{t}{x kx z}{b}{ke}{κ}{dd}{vs:dj}{y u:ab}{g1 g2 g3:Bool}[c4:y9 P t ke](ah:o.guard=none)(a6:o.dst=none)(h:o.op= .mapUpdate t x kx z)
  (aK:aO (aE env) x=some (g1,.val (.map (some b)))) (dU:g1=true) (bD:aO (aE env) kx=some (g2,y)) (gH:g2=true) (hy:aq y (.agg (vs.map .val))) (aD:aO (aE env) z=some (g3,u)) (pL:g3=true) (hu:aq u (.ptr (κ (.agg vs.toArray))))
  (hm:br.lmap b (ev P ke.1) κ dd∈H) (L:ev P ke.1 (.agg vs.toArray)) (next:ai c r P ops rest ⟨env,H⟩ Q):ai c r P ops (o::rest) ⟨env,H⟩ Q:=by
 intro a w s;refine wpListIn_plain ah λK eX=>?_;obtain⟨I,hw,F,aW,bd⟩:=s.mem;have gJ:=bZ ((bd.ops o).get cd aK dU);have fw:a.eval kx= .agg vs.toArray:=by
  have af:=hy _ _ _ ((bd.ops o).get cd bD gH);generalize a.eval kx=u at af;cases af with
  | agg _ us bK=>have:=o3 bK;rw[<-this]
 have a3:=hu _ _ _ ((bd.ops o).get cd aD pL);obtain⟨eD,⟨ct,dv,ba,M,S⟩,N⟩:=aW.ok _ hm;have G:=L;obtain⟨sa,a0⟩:=L;have a5:∀e∈ct.toList,∃l,keyOf P ke.1 e.key=some l:=λe F=>(M e F).1;have T:=c4.key.check w false a0;have U:(getObj b).run P w= .ok (.map ct dv) w:=by simp[getObj,Sem.run,ba]
 have V:∀o':Obj,(setObj b o').run P w= .ok () (w.putObj b o'):=λo'=>by simp[setObj,Sem.run,ba,World.putObj]
 have ac:b<w.heap.size:=(Array.getElem?_eq_some_iff.1 ba).1;have hQ:∀(D:Array MapEntry) (J:Nat),(∀e∈D.toList,ev P ke.1 e.key/\Rel I w (.ptr (κ e.key)) e.val)->(∀v,ev P ke.1 v->(∀e∈D.toList,e.key≠v)->κ v=dd)->
   (execOp a.eval o).run P w= .ok .skip (w.putObj b (.map D J))->o.wpIn (bx r) 0 P a w K Q:=by
  intro D J ae ak a4;have bD:er I w I (w.putObj b (.map D J)):=pN (B:=c.B) N;refine dw.uz (R:=λv w'=>v=undef/\w'=w.putObj b (.map D J)) (E:=λ_ _=>False) ck a4 ⟨rfl,rfl⟩ K Q ?_ (λ_ _ h=>h.elim);rintro v w' ⟨rfl,rfl⟩;have qH:a7 c.B I (w.putObj b (.map D J)) H:=by
   refine⟨λf b7=>?_,aW.apart⟩;by_cases Y:f.dY=some b
   ·-- it is the map itself
    have:f= .lmap b (ev P ke.1) κ dd:=by
     refine Classical.byContradiction λhx=>?_;have bV:=aW.apart;obtain⟨i,aN,X⟩:=List.mem_iff_getElem.1 b7;obtain⟨j,cp,O⟩:=List.mem_iff_getElem.1 hm;rw[List.pairwise_iff_getElem] at bV;rcases Nat.lt_trichotomy i j with C | C | C
     ·exact bV i j aN cp C b (by rw[X];exact Y) (by rw[O];rfl)
     ·subst C;rw[X] at O;exact hx O
     ·exact bV j i cp aN C b (by rw[O];rfl) (by rw[X];exact Y)
    subst this;exact⟨eD,⟨D,J,World.putObj_heap_same ac,λe F=>⟨(ae e F).1,(ae e F).2.bw bD⟩,ak⟩,N⟩
   ·exact br.bw (aW.ok f b7) bD (λdL Cn=>World.putObj_heap_other (λe=>Y (by rw[<-e];exact Cn))) (λ_ _ _ x=>x)
  refine eX _ _ ?_;rw[a6];exact next _ _ ⟨s.ds,s.size,I,hw.putObj N,F.trans (Ext.putObj eD N),qH,bd.bw bD⟩
 rcases c4.key.find w a0 ct.toList a5 with⟨b7,hx⟩ | ⟨j,e,b7,cp,jO⟩
 ·refine hQ (ct.push {key:=.agg vs.toArray,val:=a.eval z,born:=dv}) (dv+1) ?_ ?_ ?_
  ·intro e F;rw[Array.toList_push] at F;rcases List.mem_append.1 F with F | F
   ·exact M e F
   ·simp at F;subst F;exact⟨G,a3⟩
  ·intro v Z hn;exact S v Z λe F=>hn e (by rw[Array.toList_push];exact List.mem_append_left _ F)
  ·simp[execOp,h,Instr.mapUpdate,run_underlying c4.h,gJ,fw,U,T,b7,V]
 ·have W:ct[j]? =some e:=by simpa using cp
  have a2:=c4.key.stays w a0;refine hQ (ct.modify j λe=>{e with key:=.agg vs.toArray,val:=a.eval z}) dv ?_ ?_ ?_
  ·intro e' bI;obtain⟨i,aN⟩:=List.mem_iff_getElem?.1 bI;rw[Array.getElem?_toList,Array.getElem?_modify] at aN;split at aN
   ·cases aK:ct[i]? with
    | none=>simp[aK] at aN
    | some bJ=>simp[aK] at aN;subst aN;exact⟨G,a3⟩
   ·exact M e' (List.mem_of_getElem? ng)
  ·intro v Z hn;refine S v Z λe' bI=>?_;obtain⟨i,aN⟩:=List.mem_iff_getElem?.1 bI;have aN:ct[i]? =some e':=by simpa using aN
   by_cases C:j=i
   ·subst C;rw[W] at aN;cases aN;rw[jO];have:=hn {e with key:=.agg vs.toArray,val:=a.eval z} (List.mem_of_getElem? (i:=j) (by rw[Array.getElem?_toList,Array.getElem?_modify,if_pos rfl,W];rfl));exact this
   ·exact hn e' (List.mem_of_getElem? (i:=i) (by rw[Array.getElem?_toList,Array.getElem?_modify,if_neg C];exact aN))
  ·simp[execOp,h,Instr.mapUpdate,run_underlying c4.h,gJ,fw,U,T,b7,V,W,jO,a2]
end
def fq(H:aC)(xs ys:bl):Prop:=
 ∀(B:Nat) (I:cr) (w:World) (ni:aC) (vs:dj),bY B I w->a7 B I w ni->(∀e∈H,e∈ni)->bU I w xs vs->
  ∃J:cr,(∀b o,J b o->∃c,w.cell? ⟨b,o,none⟩=some c)/\bU J w ys vs
def br.Wb{B}{I}{w w'}{e:br}(h:e.ok B I w)(a:∀b o,I b o->w'.cell? ⟨b,o,none⟩=w.cell? ⟨b,o,none⟩)(f:∀b,b<w.heap.size->w'.heap[b]? =w.heap[b]?):e.ok B I w':=
 br.bw h ⟨λ_ _ x=>x,a⟩ (λb c=>f b (br.lX h c).2) (λ_ _ _ x=>x)
def Wc{w w':World}(f:∀b,b<w.heap.size->w'.heap[b]? =w.heap[b]?){b o}(c:b<w.heap.size):w'.cell? ⟨b,o,none⟩=w.cell? ⟨b,o,none⟩:=
 World.cell?_of_block (a:=⟨b,o,none⟩) (f b c)
section
variable{P:Program}{H:aC}{ρ:Nat->Option ab}{o:Oper}
def ad.qO{f}{xs ys}{v}(j:gG P ρ o f xs)(N:fq H xs ys)(h:aI P f ys (.val v)):ad P H ρ o (.val v):=by
 intro B I w r a G m A O E;obtain⟨C,Q,D⟩:=j.run I w a E;obtain⟨J,M,t⟩:=N B I w G C m A O Q;obtain⟨s,g⟩:=h [];refine .qD j.rS (D s) ((g w.heap.size J w C ⟨Nat.le_refl _,M⟩ .nil t).mono λe K z=>?_);obtain⟨T,U,L,c,F,z⟩:=z;rcases z with⟨u,x,rfl,aK,rfl,rfl⟩ | ⟨v,x,rfl,_,j8⟩
 ·have R:=bZ aK;subst R;have l:=c.below.block;have j:∀b i,I b i->K.cell? ⟨b,i,none⟩=w.cell? ⟨b,i,none⟩:=λb i q=>Wc l (m.lt q);refine⟨I,⟨Nat.le_trans m.base c.below.size,λb i q=>by rw[j b i q];exact m.there b i q⟩,⟨λ_ _ x=>x,j,c.below.mono m.base⟩,⟨λe S=>br.Wb (A.ok e S) j l,A.apart⟩,.val _⟩
 ·exact j8.elim
theorem bU.qP{I}{w}:∀{j g:bl} {a:dj},bU I w (j++g) a->∃c f,a=c++f/\bU I w j c/\bU I w g f
 | [],_,a,h=>⟨[],a,rfl,.nil,h⟩
 | x::j,g,_,.cons _ v _ a l q=>by
  obtain⟨c,f,rfl,o,m⟩:=bU.qP q;exact⟨v::c,f,rfl,.cons _ _ _ _ l o,m⟩
def Wd{I}{w}{k b}{els}(a:∀e∈els,e.length=k)(h:Cells I w b 0 els.flatten):fK I w k b 0 els:=nq els 0 a h
def za{B}{I}{w}{t k}{v}{els}(h:br.ok B I w (.row t k v els.length els.flatten))(bD:∀e∈els,e.length=k):
  ∃J:cr,(∀b o,I b o->J b o)/\(∀b o,J b o->I b o\/v.ownBlock=some b)/\(∀b o,J b o->I b o\/∃c,w.cell? ⟨b,o,none⟩=some c)/\Rel J w (.aj k els) v:=by
 obtain⟨m,a,q,z⟩:=h;rcases a.2 with⟨rfl,hn⟩ | ⟨g,cap,cur,rfl,hBg,av,od,o4,hcs,lG⟩
 ·have:els= []:=List.eq_nil_of_length_eq_zero hn;subst this;exact⟨I,λ_ _ h=>h,λ_ _ h=>.inl h,λ_ _ h=>.inl h,.dQ _ _ _⟩
 ·have l:m.length=els.length*k:=a.1;have r:els.length*k<=cur.size:=by rw[hcs];exact Nat.mul_le_mul_right k od
  let J:cr:=λb o=>I b o\/(b=g/\o<els.length*k)
  have s:er I w J w:=⟨λ_ _ x=>.inl x,λ_ _ _=>rfl⟩;refine⟨J,λ_ _ x=>.inl x,λb o x=>x.elim .inl (λx=>.inr (by rw[x.1];rfl)),λb o x=>?_,?_⟩
  ·rcases x with x | ⟨rfl,x⟩
   ·exact .inl x
   ·exact .inr ⟨cur[o]'aa,by rw[jK av];exact Array.getElem?_eq_getElem aa⟩
  ·refine .aj _ _ _ _ _ _ rfl od o4 (Wd bD (uG av _ m 0 (q.bw s) (λj u f=>?_) λj A=>.inr ⟨rfl,?_⟩))
   ·rw[<-lG,List.getElem?_take] at f;split at f
    ·simpa using f
    ·cases f
   ·rw[pK bD] at A;omega
def fq.row{t k}{v}{els}{pre post}(hm:.row t k v els.length els.flatten∈H)(j:∀e∈els,e.length=k):fq H (pre++.val v::post) (pre++.aj k els::post):=by
 intro B I w G F C l m f;obtain⟨J,q,E,r,A⟩:=za (l.ok _ (m _ hm)) j;have a:er I w J w:=⟨q,λ_ _ _=>rfl⟩;refine⟨J,λb o z=>(r b o z).elim (λx=>C.there b o x) id,?_⟩;obtain⟨D,g,rfl,aB,h⟩:=f.qP;cases h with
 | cons _ u _ g c s=>
  have:=bZ c;subst this;exact (aB.bw a).append (.cons _ _ _ _ A (s.bw a))
end
def br.Gd(B)(I)(w)(t k):br.ok B I w (.row t k (.slice none 0 0) 0 []):=
 ⟨[],World.ownsRow_nil _ _ _ _,.nil,λg a=>by simp[Value.ownBlock] at a⟩
def a7.zb{B}{I}{w}{H}{e}(h:a7 B I w H)(j:e.ok B I w)(g:e.dY=none):a7 B I w (e::H):=
 ⟨λf c=>(List.mem_cons.1 c).elim (λq=>q▸j) (h.ok f),List.pairwise_cons.2 ⟨λf _ b a=>(by rw[g] at a;cases a),h.apart⟩⟩
section
variable{c:Ctx}{r:Option Nat}{P:Program}{ops:Array Oper}{l rest:cg}{o:Oper}{env:List (Nat×ab)}{H:aC}{Q:Exit->Act->World->Prop}{d:Nat}
def Sat.zb{st}{a}{w}{e}(s:Sat c st a w)(g:∀B I w,e.ok B I w)(f:e.dY=none):Sat c ⟨st.env,e::st.H⟩ a w:=
 let ⟨I,hw,aK,aW,bd⟩:=s.mem;⟨s.ds,s.size,I,hw,aK,aW.zb (g _ _ _) f,bd⟩
def aA.zc{p}(t k)(h:aA c r P p ⟨env,.row t k (.slice none 0 0) 0 []::H⟩ Q):aA c r P p ⟨env,H⟩ Q:=λa w s=>h a w (s.zb (λB I w=>br.Gd B I w t k) rfl)
def aZ.zc{e}(t k)(h:aZ c ⟨env,.row t k (.slice none 0 0) 0 []::H⟩ e Q):aZ c ⟨env,H⟩ e Q:=λa w s=>h a w (s.zb (λB I w=>br.Gd B I w t k) rfl)
def Co{B}{I}{w}{a}{ρ}{s z}{t e k D n}{cs}{news}{v}{y}{g1 g2}{H':Value->aC}[df:fi P t (e,k,D)]
  (h:o.op= .call {callee:=.builtin .append,args:=#[s,z],argTypes:=#[t,t]}) (b4:aO ρ s=some (g1,.val v)) (Q:g1=true) (aD:aO ρ z=some (g2,y)) (U:g2=true) (hy:aq y (.aj k news)) (C:news≠ [])
  (ae:news.all dG=true) (hu:∀eA,bG H (.row e k v n cs) (.row e k eA (n+news.length) (cs++news.flatten)) (H' eA)) (N:(n+news.length)*D<=140737488355328) (a5:n+news.length<=9223372036854775807)
  (F:bY B I w) (aW:a7 B I w H) (bb:fo I w ρ a o):dw P r o a w (λx w'=>∃c7,bY B c7 w'/\Ext B I w c7 w'/\a7 B c7 w' (H' x)) (λ_ _=>False):=by
 obtain⟨i,zv,bI,aN,l0,X,W,tg,T⟩:=oX df.h;have R:=bZ (bb.get gF b4 Q);have rX:=hy _ _ _ (bb.get gF aD U);have a3:=rX.yF;obtain⟨xs,m,Y,K⟩:=aW.ok _ (hu v).mem;generalize We:a.eval z=zval at rX;cases rX with
 | dQ=>exact absurd rfl C
 | aj _ _ b off len G bq a1 hm L=>
  obtain⟨us,aB,fN,rW⟩:=L.values;have V:us.length=news.length*k:=fN;obtain⟨eA,w',bM,bJ,e6,_,th⟩:=run_append_own_at (P:=P) w B t o.type e i zv k D bI aN l0 X W tg T v n xs m ⟨b,off,none⟩ news.length G us V rW (uC aB (LW ae)) ia N F.base;have l:Below B w w':=(Below.refl B w).grown e6 F.base (λj cp=>by
   rcases m.2 with⟨rfl,_⟩ | ⟨g,G,cur,rfl,hBg,_⟩
   ·simp[Value.ownBlock] at cp
   ·simp[Value.ownBlock] at cp;omega)
  have c:∀b i,I b i->w'.cell? ⟨b,i,none⟩=w.cell? ⟨b,i,none⟩:=λb i j=>
   World.cell?_of_block (a:=⟨b,i,none⟩) (e6.block b (F.lt j) (λe=>K b e.symm i j))
  have f:er I w I w':=⟨λ_ _ x=>x,c⟩;subst bq;have bK:(Builtin.append_ #[t,t] o.type #[a.eval s,a.eval z]).run P w= .ok eA w':=by rw[R,We];exact bM
  have J:∀b,(Value.ownBlock eA)=some b->(Value.ownBlock v)=some b\/w.heap.size<=b:=λb N=>by
   rcases th with e | e
   ·exact .inl (by rw[<-e];exact N)
   ·rw[N] at e;cases e;exact .inr (Nat.le_refl _)
  refine dw.e4 ck (pJ h a w bK) ⟨I,⟨Nat.le_trans F.base l.size,λb o j=>by rw[c b o j];exact F.there b o j⟩,⟨f.ix,f.cell,l⟩,(aW.fE (hu eA) f (λb S C=>e6.block b S (λe=>C e.symm)) (λb o aK=>.inl aK) ⟨_,bJ,(Y.append aB).bw f,λg av o j=>?_⟩ J)⟩;rcases J g av with aK | aK
  ·exact K g aK o j
  ·have:=F.lt j;omega
def ai.Cp{s z}{t e k f n}{cs}{news}{v}{y}{g1 C:Bool}{H':Value->aC}[W:fi P t (e,k,f)](q:o.guard=none)(O:o.dst=some d)(hn:Nat.blt d c.n)
  (h:o.op= .call {callee:=.builtin .append,args:=#[s,z],argTypes:=#[t,t]}) (R:aO (aE env) s=some (g1,.val v)) (j:g1=true) (E:aO (aE env) z=some (C,y)) (A:C=true) (hy:aq y (.aj k news)) (l:news≠ [])
  (S:news.all dG=true) (hu:∀g,bG H (.row e k v n cs) (.row e k g (n+news.length) (cs++news.flatten)) (H' g)) (F:(n+news.length)*f<=140737488355328) (m:n+news.length<=9223372036854775807)
  (next:∀g,ai c r P ops rest ⟨(d,.val g)::env,H' g⟩ Q):ai c r P ops (o::rest) ⟨env,H⟩ Q:=by
 intro a w sat;refine wpListIn_plain q λK L=>?_;obtain⟨I,T,V,M,D⟩:=sat.mem;refine Co h R j E A hy l S hu F m T M (D.ops o) K Q ?_ (λ_ _ h=>h.elim);rintro x X ⟨N,G,B,J⟩;refine L _ _ (next x _ _ ⟨yq,yo,N,G,V.trans B,J,?_⟩);rw[O];exact (D.bw B.keeps).put (dst:=some d) (by rw[sat.size];exact hn) (.val _)
def br.row_one{B}{I}{w}{t k n}{v}{cs}(h:br.ok B I w (.row t k v n cs)):v.oneCell'=true:=by
 obtain⟨c,a,_⟩:=h;rcases a.2 with⟨rfl,_⟩ | ⟨g,cap,cur,rfl,_⟩ <;> rfl
def ai.Ge{t k n}{v}{cs}(hm:.row t k v n cs∈H)(h:v.oneCell'=true->ai c r P ops l ⟨env,H⟩ Q):ai c r P ops l ⟨env,H⟩ Q:=λa w s=>
 let ⟨I,_,_,aW,_⟩:=s.mem;h (br.row_one (aW.ok _ hm)) a w s
def Cq{v}(h:v.oneCell'=true):fa (.val v)=true:=h
def Cr{v}(h:v.oneCell'=true):dG (cJ (.val v))=true:=by simp[dG,cJ,Cq h]
def Wf{t}(h:o.op= .makeMap t none)(a:Act)(w):(execOp a.eval o).run P w= .ok (.value (.map (some w.heap.size))) (w.alloc (.map #[] 0)):=by
 simp[execOp,h,Instr.makeMap]
def ai.mkMap{t}(m:o.guard=none)(N:o.dst=some d)(hn:Nat.blt d c.n)(h:o.op= .makeMap t none)
  (next:∀b,ai c r P ops rest ⟨(d,.val (.map (some b)))::env,.map b []::H⟩ Q):ai c r P ops (o::rest) ⟨env,H⟩ Q:=by
 intro a w s;refine wpListIn_plain m λK L=>?_;obtain⟨I,g,l,D,M⟩:=s.mem;refine dw.e4 (R:=λv z=>v= .map (some w.heap.size)/\z=w.alloc (.map #[] 0)) (E:=λ_ _=>False) ck (Wf h a w) ⟨rfl,rfl⟩ K Q ?_ λ_ _ h=>h.elim;rintro v z ⟨rfl,rfl⟩;have j:br.ok c.B I (w.alloc (.map #[] 0)) (.map w.heap.size []):=⟨g.base,⟨#[],0,heap_alloc_new w _,rfl,.nil⟩,λo F=>absurd (g.lt F) (Nat.lt_irrefl _)⟩;have C:=D.alloc g (.map #[] 0);refine L _ _ (next w.heap.size _ _ ⟨iS,iR,I,g.alloc _,l.trans (jJ g _),⟨λe l=>?_,List.pairwise_cons.2 ⟨λf J b A=>?_,C.apart⟩⟩,?_⟩)
 ·rcases List.mem_cons.1 l with rfl | l
  ·exact j
  ·exact C.ok e l
 ·simp[br.dY] at A;subst A;intro q;exact absurd (br.lX (D.ok f J) q).2 (Nat.lt_irrefl _)
 ·have:=(M.bw (lY g (.map #[] 0))).put (dst:=some d) (x:=.val (.map (some w.heap.size))) (v:=.map (some w.heap.size)) oR (.val _);rw[N];exact this
theorem wU{I}{w}:∀{c:bl} {a:dj},bU I w c a->∀{i:Nat} {v:Value},a[i]? =some v->∃x,c[i]? =some x/\Rel I w x v
 | _,_,.nil,i,v,h=>by simp at h
 | _,_,.cons x v c a f g,0,u,h=>⟨x,aT,by simp at h;exact h▸f⟩
 | _,_,.cons x v c a f g,i+1,u,h=>by
  obtain⟨y,ae,j⟩:=wU g (i:=i) (v:=u) gU;exact⟨y,nf,j⟩
def ai.Wg{t}{x U}{b}{ke:Nat×Nat}{es:List (Value×ab)}{vs:dj}{y:ab}{g1 g2:Bool}[O:y9 P t ke](a0:o.guard=none)(a6:o.dst=some d)(hn:Nat.blt d c.n)(h:o.op= .lookup t x U true)
  (aK:aO (aE env) x=some (g1,.val (.map (some b)))) (X:g1=true) (bD:aO (aE env) U=some (g2,y)) (a3:g2=true) (hy:aq y (.agg (vs.map .val))) (hm:br.map b es∈H) (C:ev P ke.1 (.agg vs.toArray)) (a2:∀p∈es,ev P ke.1 p.1)
  (found:∀u,(Value.agg vs.toArray,u)∈es->ai c r P ops rest ⟨(d,.bj [u,.b true])::env,H⟩ Q)
  (q:(∀p∈es,p.1≠ .agg vs.toArray)->ai c r P ops rest ⟨(d,.bj [.val (.pointer none),.b false])::env,H⟩ Q):ai c r P ops (o::rest) ⟨env,H⟩ Q:=by
 intro a w s;refine wpListIn_plain a0 λK eX=>?_;obtain⟨I,hw,G,Z,V⟩:=s.mem;have M:=bZ ((V.ops o).get cd aK X);have S:a.eval U= .agg vs.toArray:=by
  have af:=hy _ _ _ ((V.ops o).get cd bD a3);generalize a.eval U=u at af;cases af with
  | agg _ us bK=>have:=o3 bK;rw[<-this]
 obtain⟨eD,⟨ct,dv,ba,f,F⟩,a5⟩:=Z.ok _ hm;obtain⟨sa,T⟩:=C;have N:∀e∈ct.toList,∃l,keyOf P ke.1 e.key=some l:=λe G=>by
  have:e.key∈es.map (·.1):=by rw[<-f];exact List.mem_map_of_mem G
  obtain⟨p,z,D⟩:=List.mem_map.1 this;rw[<-D];exact a2 p z
 have A:=O.key.check w ct.isEmpty T;have B:(getObj b).run P w= .ok (.map ct dv) w:=by simp[getObj,Sem.run,ba]
 rcases O.key.find w T ct.toList N with⟨b7,hx⟩ | ⟨j,e,b7,cp,jO⟩
 ·have aD:(zeroValue ke.2).run P w= .ok (.pointer none) w:=by
   have:=O.zero;cases aN:P.info? ke.2 with
   | none=>simp[aN] at this
   | some a4=>simp[aN] at this;simp[zeroValue,typeInfo,aN,this]
  have m:(execOp a.eval o).run P w= .ok (.value (.tuple #[.pointer none,.bool false])) w:=by
   simp[execOp,h,Instr.lookup,run_underlying O.h,M,S,B,A,b7,aD]
  refine dw.e4 (R:=λv L=>v= .tuple #[.pointer none,.bool false]/\L=w) (E:=λ_ _=>False) ck m ⟨rfl,rfl⟩ K Q ?_ (λ_ _ h=>h.elim);rintro v L ⟨rfl,rfl⟩;refine eX _ _ (q (λp z D=>?_) _ _ ⟨iS,iR,I,hw,G,Z,?_⟩)
  ·have:p.1∈ct.toList.map (·.key):=by rw[f];exact List.mem_map_of_mem z
   obtain⟨e,G,Y⟩:=List.mem_map.1 this;exact hx e G (by rw[Y,D])
  ·have:=V.put (dst:=some d) (x:=.bj [.val (.pointer none),.b false]) (v:=.tuple #[.pointer none,.bool false]) oR (.bj _ _ (.cons _ _ _ _ (.val _) (.cons _ _ _ _ (.val _) .nil)));rw[a6];exact this
 ·have m:(execOp a.eval o).run P w= .ok (.value (.tuple #[e.val,.bool true])) w:=by
   simp[execOp,h,Instr.lookup,run_underlying O.h,M,S,B,A,b7]
  refine dw.e4 (R:=λv L=>v= .tuple #[e.val,.bool true]/\L=w) (E:=λ_ _=>False) ck m ⟨rfl,rfl⟩ K Q ?_ (λ_ _ h=>h.elim);rintro v L ⟨rfl,rfl⟩;obtain⟨u,g,bI⟩:=wU F (i:=j) (v:=e.val) (by rw[List.getElem?_map,cp];rfl);have J:(Value.agg vs.toArray,u)∈es:=by
   rw[List.getElem?_map] at g;cases z:es[j]? with
   | none=>rw[z] at g;cases g
   | some p=>
    rw[z] at g;have W:(es.map (·.1))[j]? =some e.key:=by rw[<-f,List.getElem?_map,cp];rfl
    rw[List.getElem?_map,z] at W;simp at g W;have:p=(Value.agg vs.toArray,u):=Prod.ext (W.trans jO) g;rw[<-this];exact List.mem_of_getElem? z
  refine eX _ _ (found u J _ _ ⟨iS,iR,I,hw,G,Z,?_⟩);have:=V.put (dst:=some d) (x:=.bj [u,.b true]) (v:=.tuple #[e.val,.bool true]) oR (.bj _ _ (.cons _ _ _ _ bI (.cons _ _ _ _ (.val _) .nil)));rw[a6];exact this
def ai.Wh{t}{x X z}{b}{ke:Nat×Nat}{es:List (Value×ab)}{vs:dj}{y u:ab}{g1 g2 g3:Bool}{H':aC}[c4:y9 P t ke](fw:o.guard=none)(a6:o.dst=none)(h:o.op= .mapUpdate t x X z)
  (aK:aO (aE env) x=some (g1,.val (.map (some b)))) (Z:g1=true) (D:aO (aE env) X=some (g2,y)) (a3:g2=true) (hy:aq y (.agg (vs.map .val))) (aD:aO (aE env) z=some (g3,u)) (gJ:g3=true)
  (hu:bG H (.map b es) (.map b (es++[(.agg vs.toArray,u)])) H') (m:ev P ke.1 (.agg vs.toArray)) (a2:∀p∈es,ev P ke.1 p.1) (V:∀p∈es,p.1≠ .agg vs.toArray) (next:ai c r P ops rest ⟨env,H'⟩ Q):ai c r P ops (o::rest) ⟨env,H⟩ Q:=by
 intro a w s;refine wpListIn_plain fw λK eX=>?_;obtain⟨I,hw,he,aW,W⟩:=s.mem;have a5:=bZ ((W.ops o).get cd aK Z);have bI:a.eval X= .agg vs.toArray:=by
  have af:=hy _ _ _ ((W.ops o).get cd D a3);generalize a.eval X=u at af;cases af with
  | agg _ us bK=>have:=o3 bK;rw[<-this]
 have Y:=(W.ops o).get cd aD gJ;obtain⟨eD,⟨ct,dv,O,f,A⟩,g⟩:=aW.ok _ hu.mem;obtain⟨sa,L⟩:=m;have J:∀e∈ct.toList,∃l,keyOf P ke.1 e.key=some l:=λe he=>by
  have:e.key∈es.map (·.1):=by rw[<-f];exact List.mem_map_of_mem he
  obtain⟨p,bV,C⟩:=List.mem_map.1 this;rw[<-C];exact a2 p bV
 have M:=c4.key.check w false L;have S:(getObj b).run P w= .ok (.map ct dv) w:=by simp[getObj,Sem.run,O]
 have U:∀o':Obj,(setObj b o').run P w= .ok () (w.putObj b o'):=λo'=>by simp[setObj,Sem.run,O,World.putObj]
 have a0:b<w.heap.size:=(Array.getElem?_eq_some_iff.1 O).1;rcases c4.key.find w L ct.toList J with⟨b7,N⟩ | ⟨j,e,b7,cp,jO⟩
 ·generalize q:ct.push {key:=.agg vs.toArray,val:=a.eval z,born:=dv}=en';have G:(execOp a.eval o).run P w= .ok .skip (w.putObj b (.map en' (dv+1))):=by
   rw[<-q];simp[execOp,h,Instr.mapUpdate,run_underlying c4.h,a5,bI,S,M,b7,U]
  have D:er I w I (w.putObj b (.map en' (dv+1))):=pN (B:=c.B) g;refine dw.uz (R:=λv w'=>v=undef/\w'=w.putObj b (.map en' (dv+1))) (E:=λ_ _=>False) ck G ⟨rfl,rfl⟩ K Q ?_ (λ_ _ h=>h.elim);rintro v w' ⟨rfl,rfl⟩;have a4:a7 c.B I (w.putObj b (.map en' (dv+1))) H':=by
   refine aW.fE hu D (λdL _ N=>World.putObj_heap_other (λe=>N (by rw[e];rfl))) (λ_ _ x=>.inl x) ⟨eD,⟨en',dv+1,World.putObj_heap_same a0,?_,?_⟩,g⟩ (λ_ O=>.inl O)
   ·subst q;simp[f]
   ·subst q;simp only[Array.toList_push,List.map_append,List.map_cons,List.map_nil];exact ((A.bw D).append (.cons _ _ _ _ (Y.bw D) .nil))
  refine eX _ _ ?_;rw[a6];exact next _ _ ⟨s.ds,s.size,I,hw.putObj g,he.trans (Ext.putObj eD g),a4,W.bw D⟩
 ·exfalso;have F:e.key∈ct.toList.map (·.key):=List.mem_map_of_mem (List.mem_of_getElem? cp);rw[f] at F;obtain⟨p,bV,C⟩:=List.mem_map.1 F;exact V p bV (C.trans jO)
def a7.lazy{B}{I}{w}{H}{b}{c}{κ}{dd}{es}(o:a7 B I w (.map b es::H))(r:∀p∈es,c p.1/\p.2= .ptr (κ p.1))(G:∀v,c v->(∀p∈es,p.1≠v)->κ v=dd):a7 B I w (.lmap b c κ dd::H):=by
 obtain⟨F,⟨ct,dv,L,g,h⟩,z⟩:=o.ok _ (.head _);refine⟨λf x=>?_,List.pairwise_cons.2 ⟨(List.pairwise_cons.1 o.apart).1,(List.pairwise_cons.1 o.apart).2⟩⟩;rcases List.mem_cons.1 x with rfl | x
 ·refine⟨F,⟨ct,dv,L,λe A=>?_,λv J K=>G v J λp l t=>?_⟩,z⟩
  ·obtain⟨j,C⟩:=List.mem_iff_getElem?.1 A;obtain⟨u,a,m⟩:=wU h (i:=j) (v:=e.val) (by rw[List.getElem?_map,C];rfl);rw[List.getElem?_map] at a;cases l:es[j]? with
   | none=>rw[l] at a;cases a
   | some p=>
    rw[l] at a;have q:(es.map (·.1))[j]? =some e.key:=by rw[<-g,List.getElem?_map,C];rfl
    rw[List.getElem?_map,l] at q;simp at a q;obtain⟨E,D⟩:=r p (List.mem_of_getElem? l);rw[q] at E D;rw[<-a,D] at m;exact⟨E,m⟩
  ·have:p.1∈ct.toList.map (·.key):=by rw[g];exact List.mem_map_of_mem l
   obtain⟨e,A,s⟩:=List.mem_map.1 this;exact K e A (by rw[s,t])
 ·exact o.ok f (.tail _ x)
def a7.tp{B}{I}{w}{H}{t k}{v}{els}(j:bY B I w)(a:a7 B I w (.row t k v els.length els.flatten::H))(l:∀e∈els,e.length=k):
  ∃J,bY B J w/\Ext B I w J w/\a7 B J w H/\Rel J w (.aj k els) v:=by
 obtain⟨J,g,q,r,z⟩:=za (a.ok _ (.head _)) l;have m:er I w J w:=⟨g,λ_ _ _=>rfl⟩;refine⟨J,⟨j.base,λb o c=>(r b o c).elim (j.there b o) id⟩,⟨g,λ_ _ _=>rfl,Below.refl _ _⟩,a.tail.bw m (λ_ _ _ _=>rfl) (λf x b c o s=>?_),z⟩;rcases q b o s with h | h
 ·exact h
 ·exact absurd c ((List.pairwise_cons.1 a.apart).1 f x b h)
def a7.Wi{B}{I}{w}{H}{b t}{cs ds}(o:bY B I w)(f:a7 B I w (.au b t cs::H))(c:∀a,bU I w cs a->bU I w ds a):
  ∃J,bY B J w/\Ext B I w J w/\a7 B J w H/\Rel J w (.ptr ds) (.pointer (some ⟨b,0,none⟩)):=by
 obtain⟨s,a,m,j,r⟩:=f.ok _ (.head _);obtain⟨q,h,g,l⟩:=cr.freeze (n:=a.size) o f (.head _ _) (b:=b) rfl m (Nat.le_refl _);exact⟨_,q,h,g,.ptr _ _ _ (l ds a.toList (c _ j) BC)⟩
end
def qQ(P:Program)(pP H1:aC)(ρ:Nat->Option ab)(o:Oper):Prop:=
 ∀(B:Nat) (I:cr) (w:World) (r:Option Nat) (a:Act),bY B I w->a7 B I w pP->fo I w ρ a o->dw P r o a w (λv w'=>∃c7,bY B c7 w'/\Ext B I w c7 w'/\a7 B c7 w' H1) (λ_ _=>False)
abbrev Wj:=gM ob
def zd(l:cg)(ss:du)(i:Nat):Nat:=ss.countP λs=>((hP l []).getD i 0).testBit s
def pQ(l:cg)(ss:du)(i:Nat):Nat:=ss.countP λs=>!((hP l []).getD s 0).testBit i && !Nat.beq s i
def la(ss:du)(i:Nat):Nat:=ss.countP λs=>Nat.beq s i
def Wk(P:Program)(Hs:Nat->Mem)(l:cg)(ss:du)(i:Nat)(env:List (Nat×ab))(o:Oper)(x:ab):Prop:=
 ∀j,zd l ss i<=j->j<=pQ l ss i->Wj P (Hs j) (Hs (j+la ss i)) l env o x
def bg(P:Program)(Hs:Nat->Mem)(l:cg)(ss:du)(n:Nat):Nat->cg->List (Nat×ab)->(List (Nat×ab)->Prop)->Prop
 | _,[],env,K=>K env
 | i,o::rest,env,K=>∃x,Wk P Hs l ss i env o x/\iF n o.dst=true/\bg P Hs l ss n (i+1) rest (iT o.dst x env) K
theorem bg.mono{P}{Hs}{ops}{ss}{n}{K f}(c:∀a,K a->f a):∀{k:Nat} {l:cg} {a:List (Nat×ab)},bg P Hs ops ss n k l a K->bg P Hs ops ss n k l a f
 | _,[],_,h=>c _ h
 | _,_::_,_,⟨x,g,j,m⟩=>⟨x,g,j,m.mono c⟩
def qR(ss:du)(k m:Nat):Bool:=ss.all (λs=>Nat.ble k s && Nat.blt s m) && decide ss.Nodup
def Mj{ss}{k m}(h:qR ss k m):(∀s∈ss,k<=s/\s<m)/\ss.Nodup:=by
 simp only[qR,Bool.and_eq_true,List.all_eq_true,decide_eq_true_eq] at h;exact⟨λs a=>⟨Nat.le_of_ble_eq_true (h.1 s a).1,Nat.lt_of_succ_le (by simpa [Nat.blt] using (h.1 s a).2)⟩,h.2⟩
theorem Mk{S}{i}(g:S i=false):∀{a:du},a.Nodup->a.countP (eN S i)=a.countP S+la a i
 | [],_=>rfl
 | s::a,m=>by
  obtain⟨c,f⟩:=List.nodup_cons.1 m;have j:=Mk g f;unfold la at j ⊢;rw[List.countP_cons,List.countP_cons,List.countP_cons,j];by_cases e:s=i
  ·subst e;have:List.countP (λx=>Nat.beq x s) a=0:=List.countP_eq_zero.2 λx l o=>c (by have:=Nat.eq_of_beq_eq_true o;subst this;exact l);simp[wO,g,this]
  ·rw[kI e,show Nat.beq s i=false from Bool.eq_false_iff.2 λh=>e (Nat.eq_of_beq_eq_true h)];simp;omega
theorem bg.u{Hs}{ss}{P}{L}{n}(f:ss.Nodup)(c:∀s∈ss,s<L.length):∀{l:cg} {i:Nat} {env:List (Nat×ab)} {K:List (Nat×ab)->Prop},bg P Hs L ss n i l env K->jM ob P (λS=>Hs (ss.countP S)) L n i l env K
 | [],_,_,_,h=>h
 | _::_,i,_,_,⟨x,r,o,t⟩=>⟨x,(λS a m g=>by
  show gM ob P (Hs (ss.countP S)) (Hs (ss.countP (eN S i))) L _ _ x;rw[Mk g f];refine r _ (List.countP_mono_left λs _ h=>m s h) (List.countP_mono_left λs q h=>?_);have j:s≠i:=λe=>by subst e;rw[g] at h;cases h
  rw[Bool.and_eq_true];refine⟨?_,by rw[show Nat.beq s i=false from Bool.eq_false_iff.2 λh=>j (Nat.eq_of_beq_eq_true h)];rfl⟩;cases ba:((hP L []).getD s 0).testBit i with
  | false=>rfl
  | true=>rw[a s _ (List.getElem?_eq_getElem (c s q)) h i ba] at g;cases g),o,t.u f c⟩
section
variable{c:Ctx}{r:Option Nat}{P:Program}{l:cg}{st:dT}{Q:Exit->Act->World->Prop}
def bW.anyS{k m}{Hs}{ss}(g:mJ l k m)(C:qR ss k m)(x:k<=m)(z:m<=l.length)(v:(l.all λo=>(looks l o).all λt=>Nat.blt t c.n)=true)(G:∀B a I w,a7 B I w st.H->Hs 0 B a I w)
  (h:bg P Hs l ss c.n k ((l.drop k).take (m - k)) st.env λenv=>∀a w I,a.defers=c.ds->a.tmps.size=c.n->bY c.B I w->Ext c.B c.c9 c.bN I w->Hs ss.length c.B a I w->fL I w (aE env) a->gq c r P l Q m a w):bW c r P l Q k st:=by
 obtain⟨f,A⟩:=Mj C;refine .Ck (M:=λS=>Hs (ss.countP S)) g x z v (λB a I w F=>?_) (.mono (λenv J a w I R D E L K O=>J a w I R D E L ?_ O) (h.u A λs j=>by have:=(f s j).2;omega))
 ·rw[show ss.countP (λi=>Nat.blt i k)=0 from List.countP_eq_zero.2 λs j N=>by have:=(f s j).1;have:=tl N;omega];exact G _ _ _ _ F
 ·rwa [show ss.countP (λi=>Nat.blt i m)=ss.length from List.countP_eq_length.2 λs j=>L6 (f s j).2] at K
abbrev wV(Hs:Nat->aC):Nat->Mem:=λj B _ I w=>a7 B I w (Hs j)
def bW.Ml{env}{H}(Hs)(ss)(k m n)(hn:c.n=n)(g:mJ l k m)(s:qR ss k m)(j:Nat.ble k m)(q:Nat.ble m l.length)(mF:(l.all λo=>(looks l o).all λt=>Nat.blt t n)=true)(A:H=Hs 0)
  (h:bg P (wV Hs) l ss c.n k ((l.drop k).take (m - k)) env λenv=>bW c r P l Q m ⟨env,Hs ss.length⟩):bW c r P l Q k ⟨env,H⟩:=
 .anyS (Hs:=wV Hs) g s (Nat.le_of_ble_eq_true j) (Nat.le_of_ble_eq_true q) qA (λB a I w z=>by show a7 B I w (Hs 0);rw[<-A];exact z) (h.mono λenv C a w I G v x E D F=>C a w ⟨G,v,I,x,E,D,F⟩)
abbrev tq(pP:aC)(o5:Value->aC)(gN:Nat):Nat->Mem:=λj B a I w=>match j with
 | 0=>a7 B I w pP
 | _=>a7 B I w (o5 (a.tmps.getD gN undef))
def bW.Wl{env}{H}(q)(j e)(k m n)(hn:c.n=n)(kK:mJ l k m)(qS:qR [e] k m)(lF:Nat.ble k m)(gk:Nat.ble m l.length)(mF:(l.all λo=>(looks l o).all λt=>Nat.blt t n)=true)
  (h:bg P (tq H q j) l [e] c.n k ((l.drop k).take (m - k)) env λenv=>∀Cs,bW c r P l Q m ⟨(j,.val Cs)::env,q Cs⟩):bW c r P l Q k ⟨env,H⟩:=
 .anyS (Hs:=tq H q j) kK qS (Nat.le_of_ble_eq_true lF) (Nat.le_of_ble_eq_true gk) qA (λB a I w aW=>aW) (h.mono λenv a6 a w I gI fF fc jP lb l9=>a6 (a.tmps.getD j undef) a w ⟨gI,fF,I,fc,jP,lb,Sat.qF l9 (.val _)⟩)
end
section
variable{P:Program}{L rest:cg}{ss:du}{n i d:Nat}{o:Oper}{env:List (Nat×ab)}{K:List (Nat×ab)->Prop}{x:ab}{M:Nat->Mem}{Hs:Nat->aC}
def bg.nil(h:K env):bg P M L ss n i [] env K:=h
def bg.cc(c f)(z:zd L ss i=c)(v:pQ L ss i=f)(m:la ss i=0)(q:o.guard=none)(a6:o.dst=some d)(hn:Nat.blt d n)(h:∀j,c<=j->j<=f->ad P (Hs j) (aE env) o x)(next:bg P (wV Hs) L ss n (i+1) rest ((d,x)::env) K):bg P (wV Hs) L ss n i (o::rest) env K:=
 ⟨x,λj A t=>by
  rw[m];exact gM.of q λB I w r a s g l C=>h j aa aa B I w r a _ s g (λ_ h=>h) l,gL a6 hn,fY⟩
def bg.gb(q)(z:zd L ss i=q)(v:pQ L ss i=q)(l:la ss i=1)(m:o.guard=none)(a6:o.dst=none)(h:qQ P (Hs q) (Hs (q+1)) (aE env) o)(next:bg P (wV Hs) L ss n (i+1) rest env K):bg P (wV Hs) L ss n i (o::rest) env K:=
 ⟨.any,λj A t=>by
  obtain rfl:j=q:=by omega
  rw[l];exact gM.of m λB I w r a s c f C=>(h B I w r a s c f).mono (λv x ⟨g,bI,a2,a3⟩=>⟨g,bI,a2,a3,.any _⟩) (λ_ _ h=>h),by rw[a6];rfl,fY⟩
variable{H:aC}{o5:Value->aC}{gN:Nat}
def bg.sb(s:pQ L ss i=0)(g:la ss i=0)(l:o.guard=none)(a6:o.dst=some d)(hn:Nat.blt d n)(h:ad P H (aE env) o x)(next:bg P (tq H o5 gN) L ss n (i+1) rest ((d,x)::env) K):bg P (tq H o5 gN) L ss n i (o::rest) env K:=
 ⟨x,λj t q=>by
  obtain rfl:j=0:=by omega
  rw[g];exact gM.of l λB I w r a m c f v=>h B I w r a _ m c (λ_ h=>h) f,gL a6 hn,fY⟩
def bg.sc(s:la ss i=0)(t:o.guard=none)(a6:o.dst=some d)(hn:Nat.blt d n)(c:Nat.beq d gN=false)(h:∀H,ad P H (aE env) o x)(next:bg P (tq H o5 gN) L ss n (i+1) rest ((d,x)::env) K):bg P (tq H o5 gN) L ss n i (o::rest) env K:=
 ⟨x,λj A z=>by
  rw[s];refine gM.of t λB I w r a m f g C=>?_;cases j with
  | zero=>exact h H B I w r a _ m f (λ_ h=>h) g
  | succ j=>
   refine (h (o5 (a.tmps.getD gN undef)) B I w r a _ m f (λ_ h=>h) g).mono (λv q ⟨l,bI,a2,a3,a4⟩=>⟨l,bI,a2,?_,a4⟩) λ_ _ h=>h;have e:(a.put o.dst v).tmps.getD gN undef=a.tmps.getD gN undef:=by
    rw[a6];exact lB (λe=>by subst e;simp at c)
   show a7 B l q (o5 ((a.put o.dst v).tmps.getD gN undef));rw[e];exact a3,gL a6 hn,fY⟩
def bg.Gf(A:pQ L ss i=0)(m:la ss i=1)(s:o.guard=none)(a6:o.dst=some gN)(hn:Nat.blt gN n)
  (h:∀(B:Nat) (I:cr) (w:World) (r:Option Nat) (a:Act),bY B I w->a7 B I w H->fo I w (aE env) a o->dw P r o a w (λx f=>∃c,bY B c f/\Ext B I w c f/\a7 B c f (o5 x)) (λ_ _=>False))
  (next:bg P (tq H o5 gN) L ss n (i+1) rest ((gN,.any)::env) K):bg P (tq H o5 gN) L ss n i (o::rest) env K:=
 ⟨.any,λj C z=>by
  obtain rfl:j=0:=by omega
  rw[m];refine gM.of s λB I w r a t g l q=>(h B I w r a t g l).mono (λv f ⟨c,bI,a2,a3⟩=>⟨c,bI,a2,?_,.any _⟩) λ_ _ h=>h;show a7 B c f (o5 ((a.put o.dst v).tmps.getD gN undef));rw[a6,pE (q gN a6)];exact a3,gL a6 hn,fY⟩
def qQ.store{H H'}{ρ}{t tb}{p z}{y}{lC g}{b off m}{cs ds}{agg}[ht:cQ P t (agg,m)](h:o.op= .store t p z)
  (bV:aO ρ p=some (lC,.p b off)) (U:lC=true) (aD:aO ρ z=some (g,y)) (av:g=true) (ba:fa y) (ae:dG (cJ y))
  (hm:Nat.beq (cJ y).length m) (hu:bG H (.au b tb cs) (.au b tb ds) H') (hfit:Nat.ble (off+(cJ y).length) cs.length) (hds:cs.take off++cJ y++cs.drop (off+(cJ y).length)=ds):qQ P H H' ρ o:=by
 intro B I w r a hw aW bb;subst hds;have R:nZ P t=some (agg,(cJ y).length):=by rw[Nat.eq_of_beq_eq_true hm];exact ht.h
 have Z:=bZ (bb.get cd bV U);have s:=yB (bb.get cd aD av) ba;obtain⟨eD,F,q,j,N⟩:=aW.ok _ hu.mem;have G:=uC s ae;have f:(a.eval z).cells.toList.length=(cJ y).length:=s.length;have T:F.size=cs.length:=by have:=j.length;simpa using this
 have E:off+0+(a.eval z).cells.toList.length<=F.size:=by
  have:=Nat.le_of_ble_eq_true hfit;rw[f,T];omega
 have l:=run_storeCells_at P b off tb (a.eval z).cells.toList 0 F w q E G;obtain⟨_,X⟩:=wD R w;generalize M:(F.toList.take (off+0)++(a.eval z).cells.toList++F.toList.drop (off+0+(a.eval z).cells.toList.length)).toArray=cur at l;have C:(a.eval z).cells.size=(cJ y).length:=by simpa using f
 have D:(execOp a.eval o).run P w= .ok .skip (w.setRow b cur):=by
  simp[execOp,h,Instr.storeAt,Z,Instr.sureAddr,storeVar,X,C,l]
 have c:er I w I (w.setRow b cur):=⟨λ_ _ x=>x,λdL L O=>by
  have A:dL≠b:=λe=>by subst e;exact N L O
  exact World.cell?_of_block (a:=⟨dL,L,none⟩) (setRow_other w b dL cur A)⟩
 have J:Ext B I w I (w.setRow b cur):=⟨c.ix,c.cell,⟨rfl,rfl,rfl,aT,λk S=>setRow_other w b k cur aa⟩⟩;have W:bY B I (w.setRow b cur):=⟨wv,λdL L O=>by rw[c.cell dL L O];exact hw.there dL L O⟩;have v:bU I w (cs.take off++cJ y++cs.drop (off+(cJ y).length)) cur.toList:=by
  rw[<-M];simp only[Nat.add_zero,f];exact ((j.take off).append s).append (j.drop _)
 have V:a7 B I (w.setRow b cur) H':=by
  refine aW.fE hu c (λk S A=>setRow_other w b k cur (λe=>A wB)) (λ_ _ x=>.inl x) ⟨eD,cur,setRow_heap w b F cur tb (0,0) q,v.bw c,N⟩ (λk S=>.inl S)
 exact dw.uz ck D ⟨I,W,J,V⟩
end
def Gg(B:Nat)(c9:cr)(bN:World)(pv:Value)(H:aC):Ending->World->Prop:=λe w'=>e= .panicked [{v:=pv,recovered:=false}]/\∃c7,bY B c7 w'/\Ext B c9 bN c7 w'/\a7 B c7 w' H
def ze(B:Nat)(P:Program)(f:FuncId)(xs:bl)(H:aC)(pv:Value):Prop:=
 nh P f=true/\∀(I:cr) (w:World) (vs:dj),bY B I w->a7 B I w H->bU I w xs vs->Calls P f vs.toArray w (Gg B I w pv H)
section
variable{P:Program}
def Mm{B}{I}{w}{n:Nat}{fn:Func}{xs}{vs}{H}(hn:fn.ntmps=n)(f:Nat.ble xs.length n)(j:bY B I w)(h:a7 B I w H)(c:bU I w xs vs):
  Sat ⟨B,I,w,n,[]⟩ ⟨np 0 xs,H⟩ {tmps:=vs.toArray++Array.replicate (fn.ntmps - vs.toArray.size) undef,defers:=[]} w:=by
 refine⟨rfl,?_,I,j,.refl _ _ _,h,λt y hy=>?_⟩
 ·have:=c.length;have:=Nat.le_of_ble_eq_true f;simp;omega
 ·obtain⟨v,a,g⟩:=c.get yn;have:(vs.toArray++Array.replicate (fn.ntmps - vs.toArray.size) undef).getD t undef=v:=by
   have k5:=(List.getElem?_eq_some_iff.1 a).1;simp[Array.getD_eq_getD_getElem?];rw[Array.getElem?_append_left wy];simp[a]
  rw[this];exact g
def ze.of{B}{f}{fn}{a}{xs}{H}{c}{n}(b7:P.funcs[f]? =some fn)(ba:fn.body=some a)(rO:(fn.name== "runtime.NumGoroutine")=false)
  (hn:fn.ntmps=n) (j:Nat.ble xs.length n) (h:∀I w,aA ⟨B,I,w,n,[]⟩ none P a ⟨np 0 xs,H⟩ (bodyPost P fn (Gg B I w c H))):ze B P f xs H c:=
 ⟨uq,λI w o g l m=>uy (callsIn_of_wp b7 ba trivial (h I w _ w (Mm hn j g l m)) rfl)⟩
def bP.Mn{f}{fn}{a}{xs}{H}{c}{E}{n}(b7:P.funcs[f]? =some fn)(ba:fn.body=some a)(rO:(fn.name== "runtime.NumGoroutine")=false)
  (hn:fn.ntmps=n) (j:Nat.ble xs.length n) (h:∀B I w,aA ⟨B,I,w,n,[]⟩ none P a ⟨np 0 xs,H⟩ (bodyPostDIn (bx none) 0 P fn (e5 B I w c E))):bP P f xs H c E:=
 ⟨uq,λB I w o g l m=>uy (callsIn_of_wp_defers b7 ba trivial (h B I w _ w (Mm hn j g l m)) rfl)⟩
variable{c:Ctx}{r:Option Nat}{ops:Array Oper}{l rest:cg}{o:Oper}{env:List (Nat×ab)}{H:aC}{Q:Exit->Act->World->Prop}{d:Nat}
def Mo(P:Program)(t:TypeId):Bool:=match P.underlying t with
 | some (.interface _)=>false
 | some _=>true
 | none=>false
def ad.Wm{ρ}{t}{x}{y}{g}(h:o.op= .makeInterface t x)(c:aO ρ x=some (g,y))(j:g=true)(ht:Mo P t):ad P H ρ o (.iface t y):=by
 intro B I w r a v q m s l;have f:(execOp a.eval o).run P w= .ok (.value (.iface t (a.eval x))) w:=by
  unfold Mo at ht;cases hu:P.underlying t with
  | none=>simp[hu] at ht
  | some u=>cases u <;> simp[hu] at ht <;> simp[execOp,h,Instr.makeInterface,run_underlying hu]
 exact .e4 ck f ⟨I,q,.refl _ _ _,m,.iface _ _ _ (l.get cd c j)⟩
def ab.is(y:ab)(v:Value):Prop:=∀(I:cr) (w:World) (u:Value),Rel I w y u->u=v
def ai.Mp{x}{y}{g}{t}{v}(f:o.guard=none)(h:o.op= .panic x)(m:aO (aE env) x=some (g,y))(B:g=true)(hy:y.is (.iface t v))
  (next:aZ c ⟨env,H⟩ (.panic [{v:=.iface t v,recovered:=false}]) Q):ai c r P ops (o::rest) ⟨env,H⟩ Q:=by
 intro a w s;refine wpListIn_plain f λK C=>?_;obtain⟨I,F,G,D,A⟩:=s.mem;have l:=hy _ _ _ ((A.ops o).get cd m B);have q:(execOp a.eval o).run P w= .halt (.panic (.iface t v)) w:=by
  simp[execOp,h,l,Instr.panic]
 refine dw.U2 (R:=λ_ _=>False) (E:=λch j=>ch= [{v:=.iface t v,recovered:=false}]/\j=w) ck q ⟨rfl,rfl⟩ K Q (λ_ _ h=>h.elim) ?_;rintro ch j ⟨rfl,rfl⟩;exact next a j s
def Wn{B}{g}{f}{n}{fn}{c}{a}{w}(s:Sat ⟨B,g,f,n,[]⟩ ⟨env,H⟩ a w):bodyPost P fn (Gg B g f c H) (.panic [{v:=c,recovered:=false}]) a w:=
 let ⟨I,hw,he,aW,_⟩:=s.mem;⟨s.ds,rfl,I,hw,he,aW⟩
def ai.Wo{f}{xs}{q}(O:o.guard=none)(x:gG P (aE env) o f xs)(h:ze c.B P f xs H q)(next:aZ c ⟨env,H⟩ (.panic [{v:=q,recovered:=false}]) Q):ai c r P ops (o::rest) ⟨env,H⟩ Q:=by
 intro a w s;refine wpListIn_plain O λK V=>?_;obtain⟨I,S,T,M,A⟩:=s.mem;obtain⟨F,N,D⟩:=x.run I w a (A.ops o);obtain⟨m,g⟩:=h;refine dw.qD (R:=λ_ _=>False) (E:=λch j=>ch= [{v:=q,recovered:=false}]/\∃l,bY c.B l j/\Ext c.B I w l j/\a7 c.B l j H) x.rS (D m) ((g I w F S M N).mono λe j t=>?_) K Q (λ_ _ h=>h.elim) ?_
 ·obtain⟨rfl,t⟩:=t;exact⟨rfl,t⟩
 ·rintro ch j ⟨rfl,l,G,z,L⟩;exact next a j ⟨s.ds,s.size,l,G,T.trans z,L,A.bw z.keeps⟩
def ai.Mq{x}{D}{k}{vs:dj}{g:Bool}(l:r=none)(j:o.guard=none)(L:o.dst=none)(h:o.op= .defer {callee:=.value x,args:=#[],argTypes:=D})(z:aO (aE env) x=some (g,.fn (.func k) [] (vs.map .val)))(O:g=true)
  (next:ai ⟨c.B,c.c9,c.bN,c.n,{target:=.fn (.func k) vs.toArray,args:=#[]}::c.ds⟩ r P ops rest ⟨env,H⟩ Q):ai c r P ops (o::rest) ⟨env,H⟩ Q:=by
 intro a w s;refine wpListIn_plain j λK J=>?_;obtain⟨I,R,S,K,q⟩:=s.mem;have f:a.eval x= .func (.func k) #[] vs.toArray:=by
  have m:=(q.ops o).get gF z O;generalize a.eval x=u at m;cases m with
  | fn _ _ _ v T F C=>
   have N:=o3 C;have E:v.toList= []:=by
    have:=F.length;exact List.eq_nil_of_length_eq_zero this
   rw[<-N];congr;exact Array.toList_eq_nil_iff.1 E
 have G:(execOp a.eval o).run P w= .ok (.defer {target:=.fn (.func k) vs.toArray,args:=#[]}) w:=by
  simp[execOp,h,resolve,Deferred.ofValue,f]
 unfold Oper.wpIn;refine⟨λ_ _=>trivial,?_⟩;subst l;have M:o.semAt (bx none).round a.eval=execOp a.eval o:=rfl;rw[M,G,Oper.uponIn_defer];refine J _ _ ?_;rw[L];exact next _ _ ⟨by show _::a.defers=_;rw[s.ds],s.size,I,R,S,K,λt y A=>q t y A⟩
def aA.scope{st}{p}(h:aA c none P p st (Exit.noGoto Q)):aA c none P (.scope p) st Q:=λa w s=>
 (wpIn_wide).2 (wp_scope_straight ((wpIn_wide).1 (h a w s)))
def aA.label{st}{k}(h:aZ c st .normal Q):aA c r P (.label k) st Q:=λa w s=>wpIn_label (h a w s)
def aZ.wW{st}(h:aZ c st .ret Q):aZ c st .ret (Exit.noGoto Q):=h
def aZ.Wp{st}{k}(h:aZ c st (.exit k) Q):aZ c st (.exit k) (Exit.noGoto Q):=h
end
section
variable{P:Program}{H:aC}{ρ:Nat->Option ab}{o:Oper}
def ad.gX{t}{x y}{k b off n cap}{l}{i}{m j}[ht:eE P t k](h:o.op= .indexAddr t x y)(r:aO ρ x=some (m,.val (.slice (some ⟨b,off,none⟩) n cap)))(c:m=true)(hy:aO ρ y=some (j,.val (.int l i)))(a:j=true)(g:0<=i/\i<n):ad P H ρ o (.p b (off+i.toNat*k)):=by
 refine .same ck λI w f q=>?_;have s:=bZ (q.get cd r c);have v:=bZ (q.get cd hy a);exact⟨.pointer (some ⟨b,off+i.toNat*k,none⟩),by simp[execOp,h,s,v,Fk ht.h b off n cap l i g.1 g.2 w],.val _⟩
def Wq{t}{k:Nat}(ht:qE P t=some k)(b off n cap l m:Nat)(h j:Option Value)(kl kh:IntKind)(q:match h with | none=>l=0 | some v=>v= .int kl (l:Int))(o:match j with | none=>m=n | some v=>v= .int kh (m:Int))(A:l<=m)(s:m<=cap)(D:l<cap)(w:World):
  (Instr.sliceAt t (.slice (some ⟨b,off,none⟩) n cap) h j none).run P w= .ok (.slice (some ⟨b,off+l*k,none⟩) (m - l) (cap - l)) w:=by
 obtain⟨e,x,B,f,r⟩:=nY ht;have c: ¬(cap=l):=by omega
 cases h <;> cases j <;> simp only at q o <;> subst q <;> subst o <;>
  simp[Instr.sliceAt,Instr.slice,run_underlying B,Instr.sliceBounds,Instr.sliceBound,asIntOf,sizeOf,typeInfo,f,r,A,s,c,Addr.add] <;> omega
def ad.Mr{t}{x}{g q}{k b off n cap l m:Nat}{I gl gh:Bool}{kl kh:IntKind}[ht:eE P t k](h:o.op= .slice t x g q none)(J:aO ρ x=some (I,.val (.slice (some ⟨b,off,none⟩) n cap)))(v:I=true)
  (j:match g with | none=>l=0 | some y=>aO ρ y=some (gl,.val (.int kl (l:Int)))) (r:gl=true) (c:match q with | none=>m=n | some y=>aO ρ y=some (gh,.val (.int kh (m:Int)))) (z:gh=true) (M:l<=m) (K:m<=cap) (N:l<cap):
  ad P H ρ o (.val (.slice (some ⟨b,off+l*k,none⟩) (m - l) (cap - l))):=by
 refine .same ck λI w f s=>?_;have L:=bZ (s.get cd J v);have A:∀y,g=some y->f.eval y= .int kl (l:Int):=λy e=>by
  subst e;exact bZ (s.get cd j r)
 have E:∀y,q=some y->f.eval y= .int kh (m:Int):=λy e=>by
  subst e;exact bZ (s.get cd c z)
 refine⟨_,?_,.val (.slice (some ⟨b,off+l*k,none⟩) (m - l) (cap - l))⟩;have:=Wq ht.h b off n cap l m (g.map f.eval) (q.map f.eval) kl kh (by cases g with | none=>exact j | some y=>exact A y rfl) (by cases q with | none=>exact c | some y=>exact E y rfl) M K N w;simp[execOp,h,L,this]
def fq.au{t b k cap}{els}{more}{pre post}(hm:.au b t (els.flatten++more)∈H)(o:∀e∈els,e.length=k)(z:els.length<=cap)(m:cap<=maxLen):fq H (pre++.val (.slice (some ⟨b,0,none⟩) els.length cap)::post) (pre++.aj k els::post):=by
 intro B I w Q P L F G D;obtain⟨R,l,r,f,C⟩:=F.ok _ (G _ hm)
 let J:cr:=λdL g=>I dL g\/(dL=b/\g<l.size)
 have q:er I w J w:=⟨λ_ _ h=>.inl h,λ_ _ _=>rfl⟩;refine⟨J,λdL g h=>?_,?_⟩
 ·rcases h with h | ⟨rfl,h⟩
  ·exact L.there dL g h
  ·exact⟨l[g],by rw[jK r];exact Array.getElem?_eq_getElem h⟩
 obtain⟨O,x,rfl,aB,E⟩:=D.qP;cases E with
 | cons _ u _ x v K=>
  have:=bZ v;subst this;have c:=f.length;rw[List.length_append,pK o] at c;have A:l.size=els.length*k+more.length:=by simpa using c
  have a:Cells J w b 0 (els.flatten++more):=uG r _ l.toList 0 (f.bw q) (λj u M=>by simpa using M) (λj N=>.inr ⟨rfl,by rw[List.length_append,pK o] at N;omega⟩);have j:=a.take els.flatten.length;rw[List.take_left] at j;exact (aB.bw q).append (.cons _ _ _ _ (.aj _ _ _ _ _ _ rfl z m (nq els 0 o j)) (K.bw q))
end
section
variable{c:Ctx}{r:Option Nat}{P:Program}{ops:Array Oper}{l rest:cg}{o:Oper}{env:List (Nat×ab)}{H:aC}{Q:Exit->Act->World->Prop}{d:Nat}
end
section
variable{c:Ctx}{r:Option Nat}{P:Program}{l:cg}{Q:Exit->Act->World->Prop}
end
section
variable{P:Program}{L rest:cg}{ss:du}{n i d:Nat}{o:Oper}{env:List (Nat×ab)}{K:List (Nat×ab)->Prop}{x:ab}{H:aC}{akZ:Nat->Nat->aC}{gN:Nat}
end
def Wr{H}{enc}{P}{f:Func}{s:ChangeSpec}{apart w h again:Bool}{W z:World}{args:Array Value}{v:Value}{ds B:List (DataW H)}{a A D:List MemPlace}
  (E:DataW.Whole enc P f.params.toList s.vars apart W args.toList ds B a)
  (m:∀(b:Nat) (sp:Nat->Bool) (K:Bool),DataW.TrodAll enc P z b sp K f.resultTypes.toList (v.resultList f.resultTypes.size) (s.fn H (ds++B)).results [])
  (g:∀sp:Nat->Bool,(∀p∈a,sp p.block=true)->DataW.TrodAll enc P z 0 sp true f.params.toList args.toList (s.fn H (ds++B)).args A)
  (c:∀sp:Nat->Bool,(∀p∈a,sp p.block=true)->DataW.TrodVars enc P z sp s.vars (s.fn H (ds++B)).vars D)
  (q:a=A++D) (I:Below W.heap.size W z)
  (G:∀(j:Nat) (t:TypeId) (r:Value),f.resultTypes[j]? =some t->(v.resultList f.resultTypes.size)[j]? =some r->Value.okWide P z .any 0 t r):
  s.post enc P f apart w h again W args v z:=by
 have l:∀p∈a,(λb=>decide (b<W.heap.size)) p.block=true:=λp o=>by simpa using E.lt p o
 have F:∀p∈a,p.block<W.heap.size:=λp o=>E.lt p o;refine⟨ds,B,a,[],A,D,E,m _ _ _,g _ l,c _ l,I.frame _,λ_=>?_⟩;obtain⟨_,_,_,_,_,L,M⟩:=E;refine⟨G,_,_,([]++A)++D,⟨[]++A,D,trodAll_append (g _ (λ_ _=>rfl)) (m _ _ _),c _ (λ_ _=>rfl),rfl,?_,?_⟩,?_⟩
 ·intro b x o;have C:MemPlace.cell b x∈a:=by rw[q];simpa using o
  rw[I.frozen (p:=⟨b,x,none⟩) (F _ C)];exact L b x C
 ·intro J;have:=M J;rw[q] at this;simpa using this
 ·intro p o _;rw[q];simpa using o
def Gh(P:Program)(t:TypeId):Option (TypeId×Nat×Value):=
 match P.underlying t with
 | some (.slice e)=>match P.info? e with
  | some i=>match i.zero with
   | some z=>match z.cells.toList with
    | [v]=>bif Nat.beq i.size 1 then some (e,i.bytes,v) else none
    | _=>none
   | none=>none
  | none=>none
 | _=>none
class tr (P:Program) (t:Nat) (x:outParam (Nat×Nat×Value)):Prop where h:Gh P t=some x
def Gi{P}{t e a}{v}(h:Gh P t=some (e,a,v)):∃i z,P.underlying t=some (.slice e)/\P.info? e=some i/\i.zero=some z/\i.size=1/\i.bytes=a/\z.cells= #[v]:=by
 unfold Gh at h;split at h
 ·rename_i m g;split at h
  ·rename_i i j;split at h
   ·rename_i z c;split at h
    ·rename_i l f;cases a1:Nat.beq i.size 1 with
     | false=>simp[a1] at h
     | true=>
      simp[a1,cond_true,Option.some.injEq,Prod.mk.injEq] at h;obtain⟨rfl,rfl,rfl⟩:=h;exact⟨i,z,g,j,c,Nat.eq_of_beq_eq_true a1,rfl,by apply Array.ext';simpa using f⟩
    ·cases h
   ·cases h
  ·cases h
 ·cases h
def Gj(v)(n):madeCells #[v] n=(List.replicate n v).toArray:=by
 apply Array.ext';simp[madeCells,Array.toList_map,Array.toList_range,List.size_toArray,List.length_singleton,Nat.mod_one];apply List.ext_getElem
 ·simp
 ·intro i a c;simp
section
variable{P:Program}{c:Ctx}{r:Option Nat}{ops:Array Oper}{rest:cg}{env:List (Nat×ab)}{H:aC}{Q:Exit->Act->World->Prop}{o:Oper}{d:Nat}
def ai.Ws{x y}{t e g n:Nat}{v}{A D}{g1 F:Bool}[O:tr P t (e,g,v)](B:o.guard=none)(U:o.dst=some d)(hn:Nat.blt d c.n)(h:o.op= .makeSlice t x y)
  (G:aO (aE env) x=some (g1,.val (.int A (n:Int)))) (m:g1=true) (hy:aO (aE env) y=some (F,.val (.int D (n:Int)))) (C:F=true) (Z:g*n<=281474976710656) (hm:n<=maxLen)
  (next:∀b,ai c r P ops rest ⟨(d,.val (.slice (some ⟨b,0,none⟩) n n))::env,.au b e (List.replicate n (.val v))::H⟩ Q):ai c r P ops (o::rest) ⟨env,H⟩ Q:=by
 intro a w s;refine wpListIn_plain B λK S=>?_;obtain⟨I,l,X,T,j⟩:=s.mem;obtain⟨i,z,V,W,M,J,wk,q⟩:=Gi O.h;have Y:=j;have L:a.eval x= .int A (n:Int):=bZ ((j.ops o).get cd G m);have N:a.eval y= .int D (n:Int):=bZ ((j.ops o).get cd hy C);have f:=run_make (P:=P) w t e i z V W M A D (n:Int) (n:Int) aa (Int.le_refl _) E0 (by simp[maxLen] at hm;omega);rw[q,J,Nat.mul_one,Int.toNat_natCast,Gj] at f;refine dw.e4 (R:=λu w'=>u= .slice (some ⟨w.heap.size,0,none⟩) n n/\w'=w.alloc (.cells (List.replicate n v).toArray e)) (E:=λ_ _=>False) ck (v:=.slice (some ⟨w.heap.size,0,none⟩) n n) (w':=w.alloc (.cells (List.replicate n v).toArray e)) (by simp[execOp,h,L,N,f]) ⟨rfl,rfl⟩ K Q ?_ (λ_ _ h=>h.elim);rintro u w' ⟨rfl,rfl⟩;have ae:bU I w (List.replicate n (.val v)) (List.replicate n v):=by have:=lA (I:=I) (w:=w) (List.replicate n v);rwa [List.map_replicate] at this
 refine S _ _ (next w.heap.size _ _ ⟨iS,iR,I,l.alloc _,X.trans (jJ l _),T.new l e _ _ nf,?_⟩);rw[U];exact (j.bw (lY l _)).put (dst:=some d) oR (.val _)
def ai.pR{x y}{t e a}(n:Nat){m:Int}{v}{A w}{g1 l}[C:tr P t (e,a,v)](g:o.guard=none)(q:o.dst=some d)(hn:Nat.blt d c.n)(h:o.op= .makeSlice t x y)
  (s:aO (aE env) x=some (g1,.val (.int A m))) (j:g1=true) (hy:aO (aE env) y=some (l,.val (.int w m))) (f:l=true) (B:m=(n:Int)) (z:a*n<=281474976710656) (hm:n<=maxLen)
  (next:∀b,ai c r P ops rest ⟨(d,.val (.slice (some ⟨b,0,none⟩) n n))::env,.au b e (List.replicate n (.val v))::H⟩ Q):ai c r P ops (o::rest) ⟨env,H⟩ Q:=by
 subst B;exact .Ws g q hn h s j hy f z hm next
end
def allI(w:World):cr:=λb o=>∃c,w.cell? ⟨b,o,none⟩=some c
def Wt(w):bY w.heap.size (allI w) w:=⟨Nat.le_refl _,λ_ _ h=>h⟩
section
variable{H:Type}{enc:TypeId×Value->H}{P:Program}{w:World}{base:Nat}{spare:Nat->Bool}{held:Bool}
def Reads(enc:TypeId×Value->H)(P:Program)(w:World)(base:Nat)(spare:Nat->Bool)(held:Bool)(n:Nat)(t:TypeId){α:Type}(e:α->bl):Prop:=
 ∀fuel,fuel<=n->∀cs x,DataW.trod enc P w base spare held fuel t cs=some x->∃y:α,bU (allI w) w (e y) cs
def zf{n}{t}(ht:P.underlying t=some (.int .i64)):Reads enc P w base spare held n t (λq:Int=>[.i q]):=λfuel _ a x h=>by
 obtain⟨q,rfl,_⟩:=DataW.trod_int ht h;exact⟨q,.cons _ _ _ _ (.val _) .nil⟩
theorem Gk{b o}:∀{f:bl} {a:dj},bU (allI w) w f a->(∀i,i<a.length->w.cell? ⟨b,o+i,none⟩=a[i]?)->Cells (allI w) w b o f
 | [],a,_,_=>.nil _ _
 | x::f,a,h,g=>by
  cases h with
  | cons _ v _ m j l=>
   have c:=g 0 aT;simp at c;exact .cons _ _ _ _ _ c ⟨v,c⟩ j (Gk l λi q=>by
    have:=g (i+1) cF;rw[Nat.add_assoc,Nat.add_comm 1 i];simpa using this)
def Ms{n k}{t e}{E}{ct}(ht:P.underlying t=some (.slice e))(C:P.cellsOf e=k)(N:0<k)(A:∀y,(ct y).length=k)(R:Reads enc P w base spare held n e ct):
  Reads enc P w base spare held (n+1) t (λl:List E=>[.aj k (l.map ct)]):=λfuel U X x h=>by
 rcases DataW.trod_slice ht h with⟨rfl,_⟩ | ⟨a,len,cap,elems,rest,m,rfl,rfl,rfl,ba,a1,hm,bq,hget,_⟩
 ·exact⟨[],.cons _ _ _ _ (.dQ _ _ _) .nil⟩
 ·have z:∀j,j<=len->∃l:List E,l.length=j/\(j=0\/a.spot=none)/\fK (allI w) w k a.block a.off (l.map ct):=by
   intro j
   induction j with
   | zero=>intro _;exact⟨[],rfl,.inl rfl,.nil _ _ _⟩
   | succ j I=>
    intro V;obtain⟨l,ae,f,B⟩:=I aa;have G:=hget j aa;rw[List.getElem?_eq_getElem aa] at G;obtain⟨r,Q,O⟩:=Option.bind_eq_some_iff.1 G;obtain⟨W,L,D⟩:=World.cells?_some Q;obtain⟨y,H⟩:=R m aa r _ O;have F:r.length=k:=by rw[L,C]
    have g:a.spot=none:=by
     by_cases s:j=0
     ·have c:=D 0 aa;rw[List.getElem?_eq_getElem aa,s,Nat.zero_mul] at c;have J:(a.add 0).add 0=a:=by simp[Addr.add]
      rw[J] at c;cases b4:a.spot with
      | none=>rfl
      | some q=>
       exfalso;unfold World.cell? at c;rw[b4] at c;split at c <;> simp at c
     ·exact f.resolve_left aa
    refine⟨l++[y],rQ,.inr g,?_⟩;rw[List.map_append];have v:Cells (allI w) w a.block (a.off+j*k) (ct y):=Gk H λi Y=>by
     have c:=D i aa;have K:(a.add (j*P.cellsOf e)).add i=⟨a.block,a.off+j*k+i,none⟩:=by
      rw[Addr.add_add,C];unfold Addr.add;split
      ·obtain⟨S,T,M⟩:=a;simp at g;subst g;simp;omega
      ·simp <;> omega
     rw[K] at c;exact c
    exact B.append (.cons _ _ _ _ _ (A y) (by rw[List.length_map,ae];exact v) (.nil _ _ _))
  obtain⟨l,ae,f,B⟩:=z len (Nat.le_refl _);refine⟨l,.cons _ _ _ _ ?_ .nil⟩;rcases f with f | f
  ·have:l= []:=List.eq_nil_of_length_eq_zero aa;subst this f;exact .dQ _ _ _
  ·obtain⟨b,o,sp⟩:=a;simp at f;subst f;exact .aj _ _ _ _ _ _ rQ a1 hm B
def jQ{I}{xs ys}{cs:dj}{a n m}(c:bU I w xs ((cs.drop a).take n))(f:bU I w ys ((cs.drop (a+n)).take m)):bU I w (xs++ys) ((cs.drop a).take (n+m)):=by
 rw[List.take_add,List.drop_drop];exact c.append f
def Mt{I}{xs}{v}(h:bU I w xs v.cells.toList)(hn:xs.length≠1):Rel I w (.agg xs) v:=by
 have a:=h.length;cases v with
 | agg c=>exact .agg _ _ h
 | _=>simp[Value.cells] at a;omega
end
def Mu{H}{enc}{P}(s:laidOutB P){W q}(z:Below W.heap.size W q){sp}:
  ∀{g:List TypeId} {j:dj} {l:List (DataW H)} {f:List MemPlace},(∀t∈g,P.readableRec t=true/\t<P.types.size)->DataW.TrodAll enc P W 0 (λ_=>true) true g j l f->
   (∀p∈f,p.block<W.heap.size)->(∀p∈f,sp p.block=true)->DataW.TrodAll enc P q 0 sp true g j l f
 | [],j,l,f,_,h,_,_=>by
  obtain⟨rfl,rfl,rfl⟩:=trodAll_nil h;exact h
 | t::g,j,l,f,x,h,w,r=>by
  obtain⟨v,B,d,A,a,b,rfl,rfl,rfl,C,D⟩:=trodAll_cons h;have o:=x t (.head _);exact⟨a,b,Go.WideElems.Trod_stays s o.1 o.2 C (λp c=>z.same (w p (List.mem_append_left _ c))) (λp c=>r p (List.mem_append_left _ c)),
   Mu s z (λwN m=>x wN (.tail _ m)) D (λp c=>w p (List.mem_append_right _ c)) (λp c=>r p (List.mem_append_right _ c)),rfl⟩
structure iX{H:Type}(bs:DataW H->Nat):Prop where
 len:∀es sp,es.length<=bs (.slice es sp)
 el:∀es sp,∀e∈es,bs e<=bs (.slice es sp)
 aU:∀b5,∀e∈b5,bs e<=bs (.agg b5)
section
variable{H:Type}{enc:TypeId×Value->H}{P:Program}{w:World}{base:Nat}{spare:Nat->Bool}{held:Bool}
def ju(enc:TypeId×Value->H)(P:Program)(w:World)(base:Nat)(spare:Nat->Bool)(held:Bool)(bs:DataW H->Nat)(n:Nat)(t:TypeId){α:Type}(e:α->bl)(Q:α->Nat->Prop):Prop:=
 ∀fuel,fuel<=n->∀cs x,DataW.trod enc P w base spare held fuel t cs=some x->∃y:α,bU (allI w) w (e y) cs/\Q y (bs x.1)
def Reads.b{bs:DataW H->Nat}{n:Nat}{t:TypeId}{α:Type}{e:α->bl}(h:Reads enc P w base spare held n t e):ju enc P w base spare held bs n t e (λ_ _=>True):=λf b7 cs x aK=>
 let ⟨y,hy⟩:=h f b7 cs x aK;⟨y,hy,trivial⟩
def uS{A}(M:iX A){n k}{t e}{K}{ct}{Q}(Y:∀y a b,a<=b->Q y a->Q y b)(ht:P.underlying t=some (.slice e))(I:P.cellsOf e=k)(W:0<k)(F:∀y,(ct y).length=k)(U:ju enc P w base spare held A n e ct Q):
  ju enc P w base spare held A (n+1) t (λl:List K=>[.aj k (l.map ct)]) (λl b=>l.length<=b/\∀y∈l,Q y b):=λfuel b7 cs x h=>by
 rcases DataW.trod_slice ht h with⟨rfl,_⟩ | ⟨a,len,cap,elems,rest,m,rfl,rfl,rfl,ba,a1,hm,bq,hget,_⟩
 ·exact⟨[],.cons _ _ _ _ (.dQ _ _ _) .nil,Nat.zero_le _,λy s=>by cases s⟩
 ·have E:∀j,j<=len->∃l:List K,l.length=j/\(j=0\/a.spot=none)/\fK (allI w) w k a.block a.off (l.map ct)/\∀y∈l,Q y (A (.slice (elems.map (·.1)) (rest.map (·.1)))):=by
   intro j
   induction j with
   | zero=>intro _;exact⟨[],rfl,.inl rfl,.nil _ _ _,λy s=>by cases s⟩
   | succ j O=>
    intro cp;obtain⟨l,ae,f,G,D⟩:=O aa;have N:=hget j aa;rw[List.getElem?_eq_getElem aa] at N;obtain⟨v,Z,X⟩:=Option.bind_eq_some_iff.1 N;obtain⟨dx,T,J⟩:=World.cells?_some Z;obtain⟨y,s,H⟩:=U m aa v _ X;have L:v.length=k:=by rw[T,I]
    have g:a.spot=none:=by
     by_cases B:j=0
     ·have c:=J 0 aa;rw[List.getElem?_eq_getElem aa,B,Nat.zero_mul] at c;have R:(a.add 0).add 0=a:=by simp[Addr.add]
      rw[R] at c;cases b4:a.spot with
      | none=>rfl
      | some q=>
       exfalso;unfold World.cell? at c;rw[b4] at c;split at c <;> simp at c
     ·exact f.resolve_left aa
    refine⟨l++[y],rQ,.inr g,?_,λz r=>?_⟩
    rotate_left
    ·rcases List.mem_append.1 r with r | r
     ·exact D z r
     ·simp at r;subst r;exact Y _ _ _ (M.el _ _ _ (List.mem_map.2 ⟨_,List.getElem_mem _,rfl⟩)) H
    rw[List.map_append];have C:Cells (allI w) w a.block (a.off+j*k) (ct y):=Gk s λi aN=>by
     have c:=J i aa;have S:(a.add (j*P.cellsOf e)).add i=⟨a.block,a.off+j*k+i,none⟩:=by
      rw[Addr.add_add,I];unfold Addr.add;split
      ·obtain⟨dU,B3,V⟩:=a;simp at g;subst g;simp;omega
      ·simp <;> omega
     rw[S] at c;exact c
    exact G.append (.cons _ _ _ _ _ (F y) (by rw[List.length_map,ae];exact C) (.nil _ _ _))
  obtain⟨l,ae,f,G,D⟩:=E len (Nat.le_refl _);refine⟨l,.cons _ _ _ _ ?_ .nil,by have c:=M.len (elems.map (·.1)) (rest.map (·.1));rw[List.length_map] at c;exact Nat.le_trans aa c,D⟩;rcases f with f | f
  ·have:l= []:=List.eq_nil_of_length_eq_zero aa;subst this f;exact .dQ _ _ _
  ·obtain⟨b,o,sp⟩:=a;simp at f;subst f;exact .aj _ _ _ _ _ _ rQ a1 hm G
end
def fV.perm{H H'}{e}(h:fV H e H'):H.Perm (e::H'):=by
 induction h with
 | head=>exact .refl _
 | tail f e H H' _ c=>exact (c.cons f).trans (.swap _ _ _)
def a7.pS{B}{I}{w}{H H'}{e e'}(h:a7 B I w H)(hu:bG H e e' H')(a:e.ok B I w->e'.ok B I w)(c:∀b,e'.dY=some b->e.dY=some b):a7 B I w H':=
 h.fE hu ⟨λ_ _ x=>x,λ_ _ _=>rfl⟩ (λ_ _ _=>rfl) (λ_ _ x=>.inl x) (a (h.ok _ hu.mem)) (λb g=>.inl (c b g))
def br.wX{B}{I}{w}{t k n}{v}{cs}(hn:n≠0)(h:br.ok B I w (.row t k v n cs)):
  ∃b a c,v= .slice (some ⟨b,0,none⟩) n a/\n<=a/\a<=maxLen/\(cs++c).length=a*k/\cs.length=n*k/\br.ok B I w (.au b t (cs++c)):=by
 obtain⟨A,f,m,l⟩:=h;rcases f.2 with⟨rfl,af⟩ | ⟨g,a,cur,rfl,hBg,av,od,o4,hcs,lG⟩
 ·exact absurd af hn
 ·have q:=m.length;have z:=f.1;have j:n*k<=cur.size:=by rw[hcs];exact Nat.mul_le_mul_right k od
  refine⟨g,a,(cur.toList.drop (n*k)).map .val,rfl,od,o4,?_,aa,hBg,cur,av,?_,λo=>l g rfl o⟩
  ·have x:cs.length=n*k:=by omega
   have s:cur.toList.length=a*k:=hcs;rw[List.length_append,List.length_map,List.length_drop,x,s,Nat.add_sub_cancel' (hcs▸j)]
  ·have r:=m.append (lA (I:=I) (w:=w) (cur.toList.drop (n*k)));rw[<-lG] at r;rwa [List.take_append_drop] at r
def br.Gl{B}{I}{w}{t k n b cap}{cs more}(s:n<=cap)(j:cap<=maxLen)(C:(cs++more).length=cap*k)(x:cs.length=n*k)(h:br.ok B I w (.au b t (cs++more))):
  br.ok B I w (.row t k (.slice (some ⟨b,0,none⟩) n cap) n cs):=by
 obtain⟨q,m,v,c,a⟩:=h;have r:=c.length;rw[Array.length_toList] at r;obtain⟨g,z,e,aB,A⟩:=c.qP;have l:=aB.length;refine⟨g,⟨aa,.inr ⟨b,cap,m,rfl,q,v,s,j,aa,?_⟩⟩,aB,λg f o=>by simp[Value.ownBlock] at f;subst f;exact a o⟩;rw[e, <-x, <-l,List.take_left]
def br.Wu{B}{I}{w}{t k A}{v}(l:Rel I w (.aj A []) v)(h:br.ok B I w (.own t k v)):br.ok B I w (.row t k v 0 []):=by
 obtain⟨n,xs,a,f⟩:=h;have x:n=0:=by
  rcases a.2 with⟨rfl,af⟩ | ⟨g,c,cur,rfl,_⟩
  ·exact af
  ·cases l with
   | dQ=>rfl
   | aj _ _ b off len c q=>exact q.symm
 subst x;have j:xs= []:=List.eq_nil_of_length_eq_zero (by have:=a.1;omega);subst j;exact⟨[],a,.nil,λg s o=>f g s o aa⟩
section
variable{c:Ctx}{r:Option Nat}{P:Program}{ops:Array Oper}{l rest:cg}{o:Oper}{env:List (Nat×ab)}{H:aC}{Q:Exit->Act->World->Prop}{d:Nat}
def ai.Mv{t k j}{v}{H'}(z:aE env d=some (.as (.aj j []) v))(hu:bG H (.own t k v) (.row t k v 0 []) H')(h:ai c r P ops l ⟨(d,.val v)::env,H'⟩ Q):ai c r P ops l ⟨env,H⟩ Q:=λa w s=>by
 obtain⟨I,B,D,q,m⟩:=s.mem;have g:=m d _ z;have A:Rel I w (.aj j []) v:=by
  generalize a.tmps.getD d undef=u at g;cases g with | as _ _ f=>exact f
 have o:a.tmps.getD d undef=v:=by
  generalize a.tmps.getD d undef=u at g;cases g;rfl
 exact h a w ⟨s.ds,s.size,I,B,D,q.pS hu (br.Wu A) (λ_ x=>x),λt x f=>by
  rw[k6] at f;split at f
  ·rename_i e;cases f;subst e;rw[o];exact .val _
  ·exact m t x f⟩
def aA.Ct{p}{t k n}{v}{cs:bl}{H':Nat->Nat->bl->aC}(hn:n≠0)(hu:∀b g f,bG H (.row t k v n cs) (.au b t (cs++f)) (H' b g f))
  (h:∀b g f,v= .slice (some ⟨b,0,none⟩) n g->n<=g->g<=maxLen->(cs++f).length=g*k->cs.length=n*k->aA c r P p ⟨env,H' b g f⟩ Q):aA c r P p ⟨env,H⟩ Q:=λa w s=>by
 obtain⟨I,D,E,l,z⟩:=s.mem;obtain⟨b,g,f,j,o,C,x,B,A⟩:=br.wX hn (l.ok _ (hu 0 0 []).mem);refine h b g f j o C x B a w ⟨s.ds,s.size,I,D,E,l.pS (hu b g f) (λ_=>A) (λx q=>?_),z⟩;subst j;exact q
def Sat.tp{t k}{v}{els}{H'}{a}{w}(s:Sat c ⟨env,H⟩ a w)(l:aE env d=some (.val v))(A:fV H (.row t k v els.length els.flatten) H')(o:∀e∈els,e.length=k):Sat c ⟨(d,.aj k els)::env,H'⟩ a w:=by
 obtain⟨I,B,r,z,h⟩:=s.mem;obtain⟨J,q,g,j,m⟩:=a7.tp B (z.perm A.perm) o;refine⟨s.ds,s.size,J,q,r.trans g,j,λt x f=>?_⟩;rw[k6] at f;split at f
 ·rename_i e;cases f;subst e;rw[bZ (h _ _ l)];exact m
 ·exact (h t x f).bw g.keeps
def aA.tp{p}{t k}{v}{els}{H'}(f:aE env d=some (.val v))(g:fV H (.row t k v els.length els.flatten) H')(j:∀e∈els,e.length=k)
  (h:aA c r P p ⟨(d,.aj k els)::env,H'⟩ Q):aA c r P p ⟨env,H⟩ Q:=λa w s=>h a w (s.tp f g j)
end
section
variable{P:Program}{c:Ctx}{r:Option Nat}{ops:Array Oper}{l rest:cg}{o:Oper}{st:dT}{Q:Exit->Act->World->Prop}{x:ab}
def Wv{B D}{q}{o}{n}{fn}{r}{E}{env}{H H' g}{y}{a}{w}{v}
  (h:fV H (.obj D (.deferred (some []))) g) (z:H'.Sublist g) (G:E y H') (s:Sat ⟨B,q,o,n,[mark D]⟩ ⟨env,H⟩ a w) (hy:∀J w,Rel J w y v):bodyPostM (bx none) 0 P fn (e5 B q o r E) (.panic [{v:=v,recovered:=false}]) a w:=by
 obtain⟨I,K,L,l,M⟩:=s.mem;obtain⟨F,C,c⟩:=l.ok _ h.mem;show LeavesInM _ _ _ _ _ _ a.defers _ _;rw[show a.defers= [mark D] from s.ds];have t:er I w I (w.putObj D (.deferred none)):=pN (B:=B) c;have j:a7 B I (w.putObj D (.deferred none)) g:=by
  refine (l.sub h.sub).bw t (λf A b m=>World.putObj_heap_other λe=>?_) λ_ _ _ _ _ x=>x;subst e;exact h.apart l.apart f A _ rfl m
 exact⟨aT,.inl ⟨D,_,rfl,run_takeDeferred C,I,H',K.putObj c,L.trans (.putObj F c),j.sub z,.inr ⟨v,y,rfl,hy _ _,G⟩⟩⟩
end
section
variable{P:Program}{c:Ctx}{r:Option Nat}{ops:Array Oper}{l rest:cg}{o:Oper}{env:List (Nat×ab)}{H:aC}{Q:Exit->Act->World->Prop}{d:Nat}
structure ab.Const(y:ab)(v:Value):Prop where
 is:∀(I:cr) (w:World) (u:Value),Rel I w y u->u=v
 rel:∀(I:cr) (w:World),Rel I w y v
def pT(P:Program)(f:FuncId)(xs:bl)(H:aC)(o:Option (ab×aC))(jL:aC)(pv:ab):Prop:=
 bP P f xs H (λy H'=>o=some (y,H')) (λy H'=>o=none/\y=pv/\H'=jL)
def pT.ok{f}{xs}{a g}{y pv}(h:pT P f xs H (some (y,a)) g pv):bP P f xs H (λy' c=>y'=y/\c=a) (λ_ _=>False):=
 .rV h (λ_ _ e=>by cases e;exact⟨rfl,rfl⟩) λ_ _ ⟨e,_⟩=>by cases e
def ai.mL{f}{xs}{a m}{y q}(l:o.guard=none)(g:o.dst=some d)(hn:Nat.blt d c.n)(j:gG P (aE env) o f xs)(h:pT P f xs H (some (y,a)) m q)
  (next:ai c r P ops rest ⟨(d,y)::env,a⟩ Q):ai c r P ops (o::rest) ⟨env,H⟩ Q:=
 .F0 l g hn j h.ok.b (λ_ _ ⟨e,e'⟩=>by subst e;subst e';exact next)
def ai.ma{f}{xs}{g}{j}{v}(q:o.guard=none)(l:iF c.n o.dst)(m:gG P (aE env) o f xs)(h:pT P f xs H none g j)(t:j.Const v)
  (next:aZ c ⟨env,g⟩ (.panic [{v:=v,recovered:=false}]) Q):ai c r P ops (o::rest) ⟨env,H⟩ Q:=
 .tk q l m h.b (λ_ _ e=>by cases e) (λy x ⟨_,bM,bJ⟩ a w s I u hu=>by
  subst bM;subst bJ;rw[t.is I w u hu];exact next a w s)
def ai.Ww{x}{y}{g}{t}{v}(a:o.guard=none)(h:o.op= .panic x)(f:aO (aE env) x=some (g,y))(j:g=true)(hy:y.Const (.iface t v))
  (next:aZ c ⟨env,H⟩ (.panic [{v:=.iface t v,recovered:=false}]) Q):ai c r P ops (o::rest) ⟨env,H⟩ Q:=.Mp a h f j hy.is next
def kL{B}{f}{g}{n}{fn}{j}{E}{c}{y}{v}(hy:y.Const v)(l:c.Sublist H)(h:E y c):
  ∀a w,Sat ⟨B,f,g,n,[]⟩ ⟨env,H⟩ a w->bodyPost P fn (e5 B f g j E) (.panic [{v:=v,recovered:=false}]) a w:=
 λa w s=>let ⟨J,hw,he,aW,_⟩:=s.mem;⟨s.ds,J,c,hw,he,aW.sub l,.inr ⟨v,y,rfl,hy.rel _ _,h⟩⟩
def Wx{B D}{f}{g}{n}{fn}{m}{E}{h c}{y}{v}(hy:y.Const v)(j:fV H (.obj D (.deferred (some []))) c)(o:h.Sublist c)(l:E y h):
  ∀a w,Sat ⟨B,f,g,n,[mark D]⟩ ⟨env,H⟩ a w->bodyPostM (bx none) 0 P fn (e5 B f g m E) (.panic [{v:=v,recovered:=false}]) a w:=
 λa w s=>Wv j o l s hy.rel
end
end Go.Eng

