/- Part 4 of the proof: contracts of functions of the program and what they need. No condition beyond those that each theorem names. -/
import Derived.Test.YtodccgailpkgeaaGreatKindLeastP3
import Derived.Maps.Keyed
import Derived.Maps.AppendAt
import Derived.OneCell
import Derived.Scope
import Derived.OpenShut
import Derived.ProofKit
import Derived.Laws.MakeOwn
import Derived.Carry
import Derived.Laws.BytesString
set_option maxHeartbeats 1000000
set_option linter.unusedVariables false
set_option linter.unusedSimpArgs false
namespace Go.Eng
open Go.RowKit (Below)
open Go.ChangeShapes Go.WideShapes Go.ChangeAt Go.RowKit
open Go.ChangeShapes Go.WideShapes
def e0(P:Program)(k:TypeId)(v:Value):Prop:=∃l,keyOf P k v=some l
class Af (P:Program) (t:Nat) (x:outParam (Nat×Nat)):Prop where
 h:P.underlying t=some (.map x.1 x.2)
 key:Go.Maps.Keyed P x.1
 zero:((P.info? x.2).bind (·.zero))=some (.pointer none)
theorem p1{I:a8}{w:World}:∀{vs us:List Value},bZ I w (vs.map .val) us->us=vs
 | [],_,.nil=>rfl
 | v::vs,_,.cons _ _ _ _ h t=>by rw[ct h,p1 t]
theorem WL{P:Program}{k i ar m:Nat}(aH:(P.underlying k).map (λd=>match d with | .struct bM=>bM.toList.map (λf=>(f.name,f.type,f.offset)) | _=>[])=some [("arg",i,0),("many",i,1),("path",ar,2)])(hm:P.types.size=m+2)(av:P.underlying i=some (.int .i64))(Nk:P.underlying ar=some (.array 2 i))
  (Ag:P.cellsOf k=4) (Nl:P.cellsOf ar=2) (ci:P.cellsOf i=1) (G3:P.keyType k=true) {a b c d:Int} (bN:(Go.Lit.int .i64 a).wf=true) (aw:(Go.Lit.int .i64 b).wf=true) (ak:(Go.Lit.int .i64 c).wf=true) (aN:(Go.Lit.int .i64 d).wf=true):
  e0 P k (.agg #[.int .i64 a,.int .i64 b,.int .i64 c,.int .i64 d]):=by
 cases hu:P.underlying k with
 | none=>simp[hu] at aH
 | some t=>
  simp only[hu,Option.map_some,Option.some.injEq] at aH;cases t with
  | struct bM=>
   obtain⟨WM⟩:=bM;simp only at aH;rcases WM with _ | ⟨f0,_ | ⟨f1,_ | ⟨f2,_ | ⟨f3,r⟩⟩⟩⟩
   ·simp at aH
   ·simp at aH
   ·simp at aH
   ·simp only[List.map_cons,List.map_nil,List.cons.injEq,Prod.mk.injEq,and_true] at aH;obtain⟨⟨Nn,t0,WN⟩,⟨hz,t1,cV⟩,⟨iV,t2,c7⟩⟩:=aH;have G4:(Value.agg #[.int .i64 a,.int .i64 b,.int .i64 c,.int .i64 d]).formed P k=true:=by simp[Value.formed,hu,Ag]
    have hint:∀(q:Nat) (x:Int),(Go.Lit.int .i64 x).wf=true->P.keyLits (q+1) i [.int .i64 x]=some [.int .i64 x]:=λq x ag=>by simp[Program.keyLits,av,ag]
    have eR:P.keyLits (m+1+1) ar [.int .i64 c,.int .i64 d]=some [.int .i64 c,.int .i64 d]:=by
     simp[Program.keyLits,Nk,av,Nl,ci,ak,aN,List.range,List.range.loop]
    have G5:P.keyLits (P.types.size+1) k [.int .i64 a,.int .i64 b,.int .i64 c,.int .i64 d]=some [.int .i64 a,.int .i64 b,.int .i64 c,.int .i64 d]:=by
     rw[hm];simp[Program.keyLits,hu,Nk,av,Ag,Nn,hz,iV,t0,t1,t2,WN,cV,c7,ci,Nl,bN,aw,ak,aN,List.range,List.range.loop]
    exact⟨.string (keyBytes [.int .i64 a,.int .i64 b,.int .i64 c,.int .i64 d]),by
     have WO:(Value.agg #[.int .i64 a,.int .i64 b,.int .i64 c,.int .i64 d]).cells.toList= [.int .i64 a,.int .i64 b,.int .i64 c,.int .i64 d]:=rfl;simp only[keyOf,hu,G3,G4,Bool.and_self,if_true,WO,G5,Option.map_some]⟩
   ·simp at aH
  | _=>simp at aH
theorem af.jB{P:Program}{H:List aj}{ρ:Nat->Option aa}{o:Oper}{f:FuncId}{xs ys:List aa}{y:aa}{ga:List aj}(ak:gZ P ρ o f xs)(hle:bO xs ys)(h:jf P ga f ys y)(hm:∀e∈ga,e∈H):af P H ρ o y:=by
 intro B I w r a eo hw az aH aA;obtain⟨vs,ab,ae⟩:=(ak.le hle).run I w a aA;obtain⟨cA,ij⟩:=h eo (λe he=>aH e (hm e he));refine cM.qs ak.rA (ae cA) ((ij B I w vs hw az ab).mono λe w' aK=>?_);obtain⟨aQ,H',dc,cc,cW,aK⟩:=aK;rcases aK with⟨v,x,rfl,ag,rfl,rfl⟩ | ⟨v,x,rfl,_,e5⟩
 ·exact⟨aQ,dc,cc,cW,ag⟩
 ·exact e5.elim
section
variable{c:Ctx}{r:Option Nat}{P:Program}{ops:Array Oper}{l rest:List Oper}{o:Oper}{env:List (Nat×aa)}{H:List aj}{Q:Exit->Act->World->Prop}{d:Nat}
theorem au.G6{f:FuncId}{xs:List aa}{bw:aa->Prop}{ga:List aj}(al:o.guard=none)(aN:o.dst=some d)(hn:Nat.blt d c.n=true)(ak:gZ P (aX env) o f xs)(h:vH P ga f xs bw)(hm:∀e∈ga,e∈H)
  (next:∀y,bw y->au c r P ops rest ⟨(d,y)::env,H⟩ Q):au c r P ops (o::rest) ⟨env,H⟩ Q:=
 au.GP al aN hn ak (h H hm).b (λy H' ⟨ab,ae⟩=>by subst ae;exact next y ab)
theorem au.WQ{t:TypeId}{x dN:Operand}{b:Nat}{ke:Nat×Nat}{κ:Value->List aa}{dd:List aa}{vs:List Value}{y:aa}{g1 g2:Bool}[bT:Af P t ke](cU:o.guard=none)(aN:o.dst=some d)(hn:Nat.blt d c.n=true)(h:o.op= .lookup t x dN true)
  (ag:bf (aX env) x=some (g1,.val (.map (some b)))) (dB:g1=true) (ao:bf (aX env) dN=some (g2,y)) (dY:g2=true) (hy:aL y (.agg (vs.map .val))) (hm:aj.lmap b (e0 P ke.1) κ dd∈H) (kB:e0 P ke.1 (.agg vs.toArray))
  (found:au c r P ops rest ⟨(d,.bJ [.ptr (κ (.agg vs.toArray)),.b true])::env,H⟩ Q)
  (Ah:κ (.agg vs.toArray)=dd->au c r P ops rest ⟨(d,.bJ [.val (.pointer none),.b false])::env,H⟩ Q):au c r P ops (o::rest) ⟨env,H⟩ Q:=by
 intro a w s;refine wpListIn_plain cU λK ca=>?_;obtain⟨I,hw,he,az,aC⟩:=s.mem;have hM:=ct ((aC.ops o).get cx ag dB);have gw:a.eval dN= .agg vs.toArray:=by
  have ai:=hy _ _ _ ((aC.ops o).get cx ao dY);generalize a.eval dN=u at ai;cases ai with
  | agg _ us aK=>have:=p1 aK;rw[<-this]
 obtain⟨bE,⟨cv,dS,aw,o4,p2⟩,cu⟩:=az.ok _ hm;obtain⟨sO,ia⟩:=kB;have fe:∀e∈cv.toList,∃l,keyOf P ke.1 e.key=some l:=λe he=>(o4 e he).1;have dQ:=bT.key.check w cv.isEmpty ia;have iv:(getObj b).run P w= .ok (.map cv dS) w:=by simp[getObj,Sem.run,aw]
 rcases bT.key.find w ia cv.toList fe with⟨aP,bq⟩ | ⟨j,e,aP,aU,kW⟩
 ·have an:(zeroValue ke.2).run P w= .ok (.pointer none) w:=by
   have:=bT.zero;cases av:P.info? ke.2 with
   | none=>simp[av] at this
   | some inf=>simp[av] at this;simp[zeroValue,typeInfo,av,this]
  have dW:(execOp a.eval o).run P w= .ok (.value (.tuple #[.pointer none,.bool false])) w:=by
   simp[execOp,h,Instr.lookup,run_underlying bT.h,hM,gw,iv,dQ,aP,an]
  refine cM.fN (R:=λv w'=>v= .tuple #[.pointer none,.bool false]/\w'=w) (E:=λ_ _=>False) cB dW ⟨rfl,rfl⟩ K Q ?_ (λ_ _ h=>h.elim);rintro v w' ⟨rfl,rfl⟩;refine ca _ _ (Ah (p2 _ ⟨sO,ia⟩ bq) _ _ ⟨jr,jq,I,hw,he,az,?_⟩);have:=aC.put (dst:=some d) (x:=.bJ [.val (.pointer none),.b false]) (v:=.tuple #[.pointer none,.bool false]) oQ (.bJ _ _ (.cons _ _ _ _ (.val _) (.cons _ _ _ _ (.val _) .nil)));rw[aN];exact this
 ·have dW:(execOp a.eval o).run P w= .ok (.value (.tuple #[e.val,.bool true])) w:=by
   simp[execOp,h,Instr.lookup,run_underlying bT.h,hM,gw,iv,dQ,aP]
  refine cM.fN (R:=λv w'=>v= .tuple #[e.val,.bool true]/\w'=w) (E:=λ_ _=>False) cB dW ⟨rfl,rfl⟩ K Q ?_ (λ_ _ h=>h.elim);rintro v w' ⟨rfl,rfl⟩;refine ca _ _ (found _ _ ⟨jr,jq,I,hw,he,az,?_⟩);have aK:=(o4 e (List.mem_of_getElem? aU)).2;rw[kW] at aK;have:=aC.put (dst:=some d) (x:=.bJ [.ptr (κ (.agg vs.toArray)),.b true]) (v:=.tuple #[e.val,.bool true]) oQ (.bJ _ _ (.cons _ _ _ _ aK (.cons _ _ _ _ (.val _) .nil)));rw[aN];exact this
theorem au.WR{t:TypeId}{x dN z:Operand}{b:Nat}{ke:Nat×Nat}{κ:Value->List aa}{dd:List aa}{vs:List Value}{y u:aa}{g1 g2 g3:Bool}[bT:Af P t ke](cU:o.guard=none)(aN:o.dst=none)(h:o.op= .mapUpdate t x dN z)
  (ag:bf (aX env) x=some (g1,.val (.map (some b)))) (dB:g1=true) (ao:bf (aX env) dN=some (g2,y)) (dY:g2=true) (hy:aL y (.agg (vs.map .val))) (an:bf (aX env) z=some (g3,u)) (sP:g3=true) (hu:aL u (.ptr (κ (.agg vs.toArray))))
  (hm:aj.lmap b (e0 P ke.1) κ dd∈H) (kB:e0 P ke.1 (.agg vs.toArray)) (next:au c r P ops rest ⟨env,H⟩ Q):au c r P ops (o::rest) ⟨env,H⟩ Q:=by
 intro a w s;refine wpListIn_plain cU λK ca=>?_;obtain⟨I,hw,he,az,aC⟩:=s.mem;have hM:=ct ((aC.ops o).get cx ag dB);have gw:a.eval dN= .agg vs.toArray:=by
  have ai:=hy _ _ _ ((aC.ops o).get cx ao dY);generalize a.eval dN=u at ai;cases ai with
  | agg _ us aK=>have:=p1 aK;rw[<-this]
 have ik:=hu _ _ _ ((aC.ops o).get cx an sP);obtain⟨bE,⟨cv,dS,aw,o4,p2⟩,cu⟩:=az.ok _ hm;have Ai:=kB;obtain⟨sO,ia⟩:=kB;have fe:∀e∈cv.toList,∃l,keyOf P ke.1 e.key=some l:=λe he=>(o4 e he).1;have dQ:=bT.key.check w false ia;have iv:(getObj b).run P w= .ok (.map cv dS) w:=by simp[getObj,Sem.run,aw]
 have h4:∀o':Obj,(setObj b o').run P w= .ok () (w.putObj b o'):=λo'=>by simp[setObj,Sem.run,aw,World.putObj]
 have cO:b<w.heap.size:=(Array.getElem?_eq_some_iff.1 aw).1;have fin:∀(iw:Array MapEntry) (l6:Nat),(∀e∈iw.toList,e0 P ke.1 e.key/\Rel I w (.ptr (κ e.key)) e.val)->(∀v,e0 P ke.1 v->(∀e∈iw.toList,e.key≠v)->κ v=dd)->
   (execOp a.eval o).run P w= .ok .skip (w.putObj b (.map iw l6))->o.wpIn (bb r) 0 P a w K Q:=by
  intro iw l6 ab ae dW;have ao:fb I w I (w.putObj b (.map iw l6)):=qJ (B:=c.B) cu;refine cM.vl (R:=λv w'=>v=undef/\w'=w.putObj b (.map iw l6)) (E:=λ_ _=>False) cB dW ⟨rfl,rfl⟩ K Q ?_ (λ_ _ h=>h.elim);rintro v w' ⟨rfl,rfl⟩;have cW:br c.B I (w.putObj b (.map iw l6)) H:=by
   refine⟨λf aP=>?_,az.apart⟩;by_cases kR:f.eX=some b
   ·-- it is the map itself
    have:f= .lmap b (e0 P ke.1) κ dd:=by
     refine Classical.byContradiction λbq=>?_;have aB:=az.apart;obtain⟨i,av,vJ⟩:=List.mem_iff_getElem.1 aP;obtain⟨j,aU,sQ⟩:=List.mem_iff_getElem.1 hm;rw[List.pairwise_iff_getElem] at aB;rcases Nat.lt_trichotomy i j with l7 | l7 | l7
     ·exact aB i j av aU l7 b (by rw[vJ];exact kR) (by rw[sQ];rfl)
     ·subst l7;rw[vJ] at sQ;exact bq sQ
     ·exact aB j i aU av l7 b (by rw[sQ];rfl) (by rw[vJ];exact kR)
    subst this;exact⟨bE,⟨iw,l6,World.putObj_heap_same cO,λe he=>⟨(ab e he).1,(ab e he).2.bQ ao⟩,ae⟩,cu⟩
   ·exact aj.bQ (az.ok f aP) ao (λdk gr=>World.putObj_heap_other (λe=>kR (by rw[<-e];exact gr))) (λ_ _ _ x=>x)
  refine ca _ _ ?_;rw[aN];exact next _ _ ⟨s.ds,s.size,I,hw.putObj cu,he.trans (Ext.putObj bE cu),cW,aC.bQ ao⟩
 rcases bT.key.find w ia cv.toList fe with⟨aP,bq⟩ | ⟨j,e,aP,aU,kW⟩
 ·refine fin (cv.push {key:=.agg vs.toArray,val:=a.eval z,born:=dS}) (dS+1) ?_ ?_ ?_
  ·intro e he;rw[Array.toList_push] at he;rcases List.mem_append.1 he with he | he
   ·exact o4 e he
   ·simp at he;subst he;exact⟨Ai,ik⟩
  ·intro v G7 hn;exact p2 v G7 λe he=>hn e (by rw[Array.toList_push];exact List.mem_append_left _ he)
  ·simp[execOp,h,Instr.mapUpdate,run_underlying bT.h,hM,gw,iv,dQ,aP,h4]
 ·have uc:cv[j]? =some e:=by simpa using aU
  have Aj:=bT.key.stays w ia;refine fin (cv.modify j λe=>{e with key:=.agg vs.toArray,val:=a.eval z}) dS ?_ ?_ ?_
  ·intro e' cc;obtain⟨i,av⟩:=List.mem_iff_getElem?.1 cc;rw[Array.getElem?_toList,Array.getElem?_modify] at av;split at av
   ·cases ag:cv[i]? with
    | none=>simp[ag] at av
    | some aW=>simp[ag] at av;subst av;exact⟨Ai,ik⟩
   ·exact o4 e' (List.mem_of_getElem? rr)
  ·intro v G7 hn;refine p2 v G7 λe' cc=>?_;obtain⟨i,av⟩:=List.mem_iff_getElem?.1 cc;have av:cv[i]? =some e':=by simpa using av
   by_cases l7:j=i
   ·subst l7;rw[uc] at av;cases av;rw[kW];have:=hn {e with key:=.agg vs.toArray,val:=a.eval z} (List.mem_of_getElem? (i:=j) (by rw[Array.getElem?_toList,Array.getElem?_modify,if_pos rfl,uc];rfl));exact this
   ·exact hn e' (List.mem_of_getElem? (i:=i) (by rw[Array.getElem?_toList,Array.getElem?_modify,if_neg l7];exact av))
  ·simp[execOp,h,Instr.mapUpdate,run_underlying bT.h,hM,gw,iv,dQ,aP,h4,uc,kW,Aj]
end
def gb(H:List aj)(xs ys:List aa):Prop:=
 ∀(B:Nat) (I:a8) (w:World) (eo:List aj) (vs:List Value),ck B I w->br B I w eo->(∀e∈H,e∈eo)->bZ I w xs vs->
  ∃J:a8,(∀b o,J b o->∃c,w.cell? ⟨b,o,none⟩=some c)/\bZ J w ys vs
theorem aj.WS{B:Nat}{I:a8}{w w':World}{e:aj}(h:e.ok B I w)(b4:∀b o,I b o->w'.cell? ⟨b,o,none⟩=w.cell? ⟨b,o,none⟩)(aw:∀b,b<w.heap.size->w'.heap[b]? =w.heap[b]?):e.ok B I w':=
 aj.bQ h ⟨λ_ _ x=>x,b4⟩ (λb aP=>aw b (aj.nu h aP).2) (λ_ _ _ x=>x)
theorem WT{w w':World}(aw:∀b,b<w.heap.size->w'.heap[b]? =w.heap[b]?){b o:Nat}(cO:b<w.heap.size):w'.cell? ⟨b,o,none⟩=w.cell? ⟨b,o,none⟩:=
 World.cell?_of_block (a:=⟨b,o,none⟩) (aw b cO)
section
variable{P:Program}{H:List aj}{ρ:Nat->Option aa}{o:Oper}
theorem af.sR{f:FuncId}{xs ys:List aa}{v:Value}(ak:gZ P ρ o f xs)(aw:gb H xs ys)(h:ba P f ys (.val v)):af P H ρ o (.val v):=by
 intro B I w r a eo hw az aH aA;obtain⟨vs,ab,ae⟩:=ak.run I w a aA;obtain⟨J,bF,nw⟩:=aw B I w eo vs hw az aH ab;obtain⟨cA,ij⟩:=h [];refine cM.qs ak.rA (ae cA) ((ij w.heap.size J w vs ⟨Nat.le_refl _,bF⟩ .nil nw).mono λe w' aK=>?_);obtain⟨aQ,H',dc,cc,cW,aK⟩:=aK;rcases aK with⟨u,x,rfl,ag,rfl,rfl⟩ | ⟨v,x,rfl,_,e5⟩
 ·have hu:=ct ag;subst hu;have De:=cc.below.block;have ak:∀b i,I b i->w'.cell? ⟨b,i,none⟩=w.cell? ⟨b,i,none⟩:=λb i av=>WT De (hw.lt av);refine⟨I,⟨Nat.le_trans hw.base cc.below.size,λb i av=>by rw[ak b i av];exact hw.there b i av⟩,⟨λ_ _ x=>x,ak,cc.below.mono hw.base⟩,⟨λe he=>aj.WS (az.ok e he) ak De,az.apart⟩,.val _⟩
 ·exact e5.elim
theorem bZ.sS{I:a8}{w:World}:∀{xs ys:List aa} {vs:List Value},bZ I w (xs++ys) vs->∃us bY,vs=us++bY/\bZ I w xs us/\bZ I w ys bY
 | [],_,vs,h=>⟨[],vs,rfl,.nil,h⟩
 | x::xs,ys,_,.cons _ v _ vs ag ht=>by
  obtain⟨us,bY,rfl,ab,ae⟩:=bZ.sS ht;exact⟨v::us,bY,rfl,.cons _ _ _ _ ag ab,ae⟩
theorem WU{I:a8}{w:World}{k b:Nat}{els:List (List aa)}(ao:∀e∈els,e.length=k)(h:Cells I w b 0 els.flatten):fX I w k b 0 els:=oj els 0 ao h
theorem Df{B:Nat}{I:a8}{w:World}{t k:Nat}{v:Value}{els:List (List aa)}(h:aj.ok B I w (.row t k v els.length els.flatten))(ao:∀e∈els,e.length=k):
  ∃J:a8,(∀b o,I b o->J b o)/\(∀b o,J b o->I b o\/v.ownBlock=some b)/\(∀b o,J b o->I b o\/∃c,w.cell? ⟨b,o,none⟩=some c)/\Rel J w (.aF k els) v:=by
 obtain⟨xs,fx,aK,cu⟩:=h;rcases fx.2 with⟨rfl,hn⟩ | ⟨g,cap,cur,rfl,hBg,al,kT,im,j6,j7⟩
 ·have:els= []:=List.eq_nil_of_length_eq_zero hn;subst this;exact⟨I,λ_ _ h=>h,λ_ _ h=>.inl h,λ_ _ h=>.inl h,.eP _ _ _⟩
 ·have hlen:xs.length=els.length*k:=fx.1;have eH:els.length*k<=cur.size:=by rw[j6];exact Nat.mul_le_mul_right k kT
  let J:a8:=λb o=>I b o\/(b=g/\o<els.length*k)
  have bF:fb I w J w:=⟨λ_ _ x=>.inl x,λ_ _ _=>rfl⟩;refine⟨J,λ_ _ x=>.inl x,λb o x=>x.elim .inl (λx=>.inr (by rw[x.1];rfl)),λb o x=>?_,?_⟩
  ·rcases x with x | ⟨rfl,x⟩
   ·exact .inl x
   ·exact .inr ⟨cur[o]'ad,by rw[kQ al];exact Array.getElem?_eq_getElem ad⟩
  ·refine .aF _ _ _ _ _ _ rfl kT im (WU ao (vy al _ xs 0 (aK.bQ bF) (λj u hu=>?_) (λj aU=>.inr ⟨rfl,?_⟩)))
   ·rw[<-j7,List.getElem?_take] at hu;split at hu
    ·simpa using hu
    ·cases hu
   ·rw[qE ao] at aU;omega
theorem gb.row{t k:Nat}{v:Value}{els:List (List aa)}{pre post:List aa}(hm:aj.row t k v els.length els.flatten∈H)(ao:∀e∈els,e.length=k):gb H (pre++.val v::post) (pre++.aF k els::post):=by
 intro B I w eo vs hw az aH aK;obtain⟨J,ab,ae,aD,aV⟩:=Df (az.ok _ (aH _ hm)) ao;have dV:fb I w J w:=⟨ab,λ_ _ _=>rfl⟩;refine⟨J,λb o aw=>(aD b o aw).elim (λx=>hw.there b o x) id,?_⟩;obtain⟨us,bY,rfl,aS,ee⟩:=aK.sS;cases ee with
 | cons _ u _ bY ag ht=>
  have:=ct ag;subst this;exact (aS.bQ dV).append (.cons _ _ _ _ aV (ht.bQ dV))
theorem gb.refl(xs:List aa):gb H xs xs:=λB I w eo vs hw _ _ aK=>⟨I,hw.there,aK⟩
theorem gb.le{xs ys bY:List aa}(h:gb H xs ys)(ax:bO ys bY):gb H xs bY:=λB I w eo vs hw az aH aK=>
 let ⟨J,ab,ae⟩:=h B I w eo vs hw az aH aK;⟨J,ab,ax.rel ae⟩
end
theorem aj.No(B:Nat)(I:a8)(w:World)(t k:Nat):aj.ok B I w (.row t k (.slice none 0 0) 0 []):=
 ⟨[],World.ownsRow_nil _ _ _ _,.nil,λg al=>by simp[Value.ownBlock] at al⟩
theorem br.Dg{B:Nat}{I:a8}{w:World}{H:List aj}{e:aj}(h:br B I w H)(he:e.ok B I w)(aP:e.eX=none):br B I w (e::H):=
 ⟨λf hm=>(List.mem_cons.1 hm).elim (λq=>q▸he) (h.ok f),List.pairwise_cons.2 ⟨λf _ b aw=>(by rw[aP] at aw;cases aw),h.apart⟩⟩
section
variable{c:Ctx}{r:Option Nat}{P:Program}{ops:Array Oper}{l rest:List Oper}{o:Oper}{env:List (Nat×aa)}{H:List aj}{Q:Exit->Act->World->Prop}{d:Nat}
theorem Sat.Dg{st:dn}{a:Act}{w:World}{e:aj}(s:Sat c st a w)(he:∀B I w,e.ok B I w)(aP:e.eX=none):Sat c ⟨st.env,e::st.H⟩ a w:=
 let ⟨I,hw,ag,az,aC⟩:=s.mem;⟨s.ds,s.size,I,hw,ag,az.Dg (he _ _ _) aP,aC⟩
theorem aq.Ak{p:Code}(t k:Nat)(h:aq c r P p ⟨env,.row t k (.slice none 0 0) 0 []::H⟩ Q):aq c r P p ⟨env,H⟩ Q:=λa w s=>h a w (s.Dg (λB I w=>aj.No B I w t k) rfl)
theorem aR.Ak{e:Exit}(t k:Nat)(h:aR c ⟨env,.row t k (.slice none 0 0) 0 []::H⟩ e Q):aR c ⟨env,H⟩ e Q:=λa w s=>h a w (s.Dg (λB I w=>aj.No B I w t k) rfl)
theorem G8{B:Nat}{I:a8}{w:World}{a:Act}{ρ:Nat->Option aa}{s z:Operand}{t e k dA n:Nat}{cs:List aa}{news:List (List aa)}{v:Value}{y:aa}{g1 g2:Bool}{H':Value->List aj}[cy:hv P t (e,k,dA)]
  (h:o.op= .call {callee:=.builtin .append,args:=#[s,z],argTypes:=#[t,t]}) (aH:bf ρ s=some (g1,.val v)) (dB:g1=true) (an:bf ρ z=some (g2,y)) (dY:g2=true) (hy:aL y (.aF k news)) (bq:news≠ [])
  (ab:news.all eG=true) (hu:∀dr,bu H (.row e k v n cs) (.row e k dr (n+news.length) (cs++news.flatten)) (H' dr)) (aw:(n+news.length)*dA<=140737488355328) (gr:n+news.length<=9223372036854775807)
  (hw:ck B I w) (az:br B I w H) (aA:gi I w ρ a o):cM P r o a w (λx w'=>∃aQ,ck B aQ w'/\Ext B I w aQ w'/\br B aQ w' (H' x)) (λ_ _=>False):=by
 obtain⟨i,zv,mY,av,l2,eH,lx,jv,jw⟩:=qB cy.h;have lZ:=ct (aA.get ig aH dB);have qF:=hy _ _ _ (aA.get ig an dY);have ir:=qF.zO;obtain⟨xs,fx,vK,cu⟩:=az.ok _ (hu v).mem;generalize ik:a.eval z=zval at qF;cases qF with
 | eP=>exact absurd rfl bq
 | aF _ _ b off len cap ax ak hm vx=>
  obtain⟨us,aS,ee,ny⟩:=vx.values;have vi:us.length=news.length*k:=ee;obtain⟨dr,w',a6,aW,cN,_,mv⟩:=run_append_own_at (P:=P) w B t o.type e i zv k dA mY av l2 eH lx jv jw v n xs fx ⟨b,off,none⟩ news.length cap us vi ny (vr aS (MT ab)) lu aw hw.base;have ov:Below B w w':=(Below.refl B w).grown cN hw.base (λj aU=>by
   rcases fx.2 with⟨rfl,_⟩ | ⟨g,cap,cur,rfl,hBg,_⟩
   ·simp[Value.ownBlock] at aU
   ·simp[Value.ownBlock] at aU;omega)
  have m2:∀b i,I b i->w'.cell? ⟨b,i,none⟩=w.cell? ⟨b,i,none⟩:=λb i b4=>
   World.cell?_of_block (a:=⟨b,i,none⟩) (cN.block b (hw.lt b4) (λe=>cu b e.symm i b4))
  have iS:fb I w I w':=⟨λ_ _ x=>x,m2⟩;subst ax;have aK:(Builtin.append_ #[t,t] o.type #[a.eval s,a.eval z]).run P w= .ok dr w':=by rw[lZ,ik];exact a6
  have Al:∀b,(Value.ownBlock dr)=some b->(Value.ownBlock v)=some b\/w.heap.size<=b:=λb aw=>by
   rcases mv with e | e
   ·exact .inl (by rw[<-e];exact aw)
   ·rw[aw] at e;cases e;exact .inr (Nat.le_refl _)
  refine cM.fN cB (tT h a w aK) ⟨I,⟨Nat.le_trans hw.base ov.size,λb o b4=>by rw[m2 b o b4];exact hw.there b o b4⟩,⟨iS.j0,iS.cell,ov⟩,?_⟩;refine az.gH (hu dr) iS (λb cO bq=>cN.block b cO (λe=>bq e.symm)) (λb o ag=>.inl ag) ⟨_,aW,(vK.append aS).bQ iS,λg al o b4=>?_⟩ Al;rcases Al g al with ag | ag
  ·exact cu g ag o b4
  ·have:=hw.lt b4;omega
theorem au.Dh{s z:Operand}{t e k dA n:Nat}{cs:List aa}{news:List (List aa)}{v:Value}{y:aa}{g1 g2:Bool}{H':Value->List aj}[cy:hv P t (e,k,dA)](cU:o.guard=none)(aN:o.dst=some d)(hn:Nat.blt d c.n=true)
  (h:o.op= .call {callee:=.builtin .append,args:=#[s,z],argTypes:=#[t,t]}) (aH:bf (aX env) s=some (g1,.val v)) (dB:g1=true) (an:bf (aX env) z=some (g2,y)) (dY:g2=true) (hy:aL y (.aF k news)) (bq:news≠ [])
  (ab:news.all eG=true) (hu:∀dr,bu H (.row e k v n cs) (.row e k dr (n+news.length) (cs++news.flatten)) (H' dr)) (aw:(n+news.length)*dA<=140737488355328) (gr:n+news.length<=9223372036854775807)
  (next:∀dr,au c r P ops rest ⟨(d,.val dr)::env,H' dr⟩ Q):au c r P ops (o::rest) ⟨env,H⟩ Q:=by
 intro a w sat;refine wpListIn_plain cU λK ca=>?_;obtain⟨I,hw,he,az,aC⟩:=sat.mem;refine G8 h aH dB an dY hy bq ab hu aw gr hw az (aC.ops o) K Q ?_ (λ_ _ h=>h.elim);rintro x w' ⟨aQ,dg,dh,ea⟩;refine ca _ _ (next x _ _ ⟨zo,zm,aQ,dg,he.trans dh,ea,?_⟩);rw[aN];exact (aC.bQ dh.keeps).put (dst:=some d) (by rw[sat.size];exact hn) (.val _)
theorem aj.row_one{B:Nat}{I:a8}{w:World}{t k n:Nat}{v:Value}{cs:List aa}(h:aj.ok B I w (.row t k v n cs)):v.oneCell'=true:=by
 obtain⟨xs,fx,_⟩:=h;rcases fx.2 with⟨rfl,_⟩ | ⟨g,cap,cur,rfl,_⟩ <;> rfl
theorem au.G9{t k n:Nat}{v:Value}{cs:List aa}(hm:aj.row t k v n cs∈H)(h:v.oneCell'=true->au c r P ops l ⟨env,H⟩ Q):au c r P ops l ⟨env,H⟩ Q:=λa w s=>
 let ⟨I,_,_,az,_⟩:=s.mem;h (aj.row_one (az.ok _ hm)) a w s
theorem ud{v:Value}(h:v.oneCell'=true):ha (.val v)=true:=h
theorem Di{v:Value}(h:v.oneCell'=true):eG (dq (.val v))=true:=by simp[eG,dq,ud h]
theorem WV{t:TypeId}(h:o.op= .makeMap t none)(a:Act)(w:World):(execOp a.eval o).run P w= .ok (.value (.map (some w.heap.size))) (w.alloc (.map #[] 0)):=by
 simp[execOp,h,Instr.makeMap]
theorem au.mkMap{t:TypeId}(cU:o.guard=none)(aN:o.dst=some d)(hn:Nat.blt d c.n=true)(h:o.op= .makeMap t none)
  (next:∀b,au c r P ops rest ⟨(d,.val (.map (some b)))::env,.map b []::H⟩ Q):au c r P ops (o::rest) ⟨env,H⟩ Q:=by
 intro a w s;refine wpListIn_plain cU λK ca=>?_;obtain⟨I,hw,he,az,aC⟩:=s.mem;refine cM.fN (R:=λv w'=>v= .map (some w.heap.size)/\w'=w.alloc (.map #[] 0)) (E:=λ_ _=>False) cB (WV h a w) ⟨rfl,rfl⟩ K Q ?_ (λ_ _ h=>h.elim);rintro v w' ⟨rfl,rfl⟩;have om:aj.ok c.B I (w.alloc (.map #[] 0)) (.map w.heap.size []):=⟨hw.base,⟨#[],0,heap_alloc_new w _,rfl,.nil⟩,λo aA=>absurd (hw.lt aA) (Nat.lt_irrefl _)⟩;have cf:=az.alloc hw (.map #[] 0);refine ca _ _ (next w.heap.size _ _ ⟨jr,jq,I,hw.alloc _,he.trans (kN hw _),⟨λe he=>?_,List.pairwise_cons.2 ⟨λf aP b aw=>?_,cf.apart⟩⟩,?_⟩)
 ·rcases List.mem_cons.1 he with rfl | he
  ·exact om
  ·exact cf.ok e he
 ·simp[aj.eX] at aw;subst aw;intro kR;exact absurd (aj.nu (az.ok f aP) kR).2 (Nat.lt_irrefl _)
 ·have:=(aC.bQ (mq hw (.map #[] 0))).put (dst:=some d) (x:=.val (.map (some w.heap.size))) (v:=.map (some w.heap.size)) oQ (.val _);rw[aN];exact this
theorem x4{I:a8}{w:World}:∀{xs:List aa} {vs:List Value},bZ I w xs vs->∀{i:Nat} {v:Value},vs[i]? =some v->∃x,xs[i]? =some x/\Rel I w x v
 | _,_,.nil,i,v,h=>by simp at h
 | _,_,.cons x v xs vs ag ht,0,u,h=>⟨x,bj,by simp at h;exact h▸ag⟩
 | _,_,.cons x v xs vs ag ht,i+1,u,h=>by
  obtain⟨y,ab,ae⟩:=x4 ht (i:=i) (v:=u) h3;exact⟨y,pQ,ae⟩
theorem au.WW{t:TypeId}{x dN:Operand}{b:Nat}{ke:Nat×Nat}{es:List (Value×aa)}{vs:List Value}{y:aa}{g1 g2:Bool}[bT:Af P t ke](cU:o.guard=none)(aN:o.dst=some d)(hn:Nat.blt d c.n=true)(h:o.op= .lookup t x dN true)
  (ag:bf (aX env) x=some (g1,.val (.map (some b)))) (dB:g1=true) (ao:bf (aX env) dN=some (g2,y)) (dY:g2=true) (hy:aL y (.agg (vs.map .val))) (hm:aj.map b es∈H) (kB:e0 P ke.1 (.agg vs.toArray)) (lC:∀p∈es,e0 P ke.1 p.1)
  (found:∀u,(Value.agg vs.toArray,u)∈es->au c r P ops rest ⟨(d,.bJ [u,.b true])::env,H⟩ Q)
  (Ah:(∀p∈es,p.1≠ .agg vs.toArray)->au c r P ops rest ⟨(d,.bJ [.val (.pointer none),.b false])::env,H⟩ Q):au c r P ops (o::rest) ⟨env,H⟩ Q:=by
 intro a w s;refine wpListIn_plain cU λK ca=>?_;obtain⟨I,hw,he,az,aC⟩:=s.mem;have hM:=ct ((aC.ops o).get cx ag dB);have gw:a.eval dN= .agg vs.toArray:=by
  have ai:=hy _ _ _ ((aC.ops o).get cx ao dY);generalize a.eval dN=u at ai;cases ai with
  | agg _ us aK=>have:=p1 aK;rw[<-this]
 obtain⟨bE,⟨cv,dS,aw,ka,p3⟩,cu⟩:=az.ok _ hm;obtain⟨sO,ia⟩:=kB;have fe:∀e∈cv.toList,∃l,keyOf P ke.1 e.key=some l:=λe he=>by
  have:e.key∈es.map (·.1):=by rw[<-ka];exact List.mem_map_of_mem he
  obtain⟨p,aB,o5⟩:=List.mem_map.1 this;rw[<-o5];exact lC p aB
 have dQ:=bT.key.check w cv.isEmpty ia;have iv:(getObj b).run P w= .ok (.map cv dS) w:=by simp[getObj,Sem.run,aw]
 rcases bT.key.find w ia cv.toList fe with⟨aP,bq⟩ | ⟨j,e,aP,aU,kW⟩
 ·have an:(zeroValue ke.2).run P w= .ok (.pointer none) w:=by
   have:=bT.zero;cases av:P.info? ke.2 with
   | none=>simp[av] at this
   | some inf=>simp[av] at this;simp[zeroValue,typeInfo,av,this]
  have dW:(execOp a.eval o).run P w= .ok (.value (.tuple #[.pointer none,.bool false])) w:=by
   simp[execOp,h,Instr.lookup,run_underlying bT.h,hM,gw,iv,dQ,aP,an]
  refine cM.fN (R:=λv w'=>v= .tuple #[.pointer none,.bool false]/\w'=w) (E:=λ_ _=>False) cB dW ⟨rfl,rfl⟩ K Q ?_ (λ_ _ h=>h.elim);rintro v w' ⟨rfl,rfl⟩;refine ca _ _ (Ah (λp aB o5=>?_) _ _ ⟨jr,jq,I,hw,he,az,?_⟩)
  ·have:p.1∈cv.toList.map (·.key):=by rw[ka];exact List.mem_map_of_mem aB
   obtain⟨e,he,m3⟩:=List.mem_map.1 this;exact bq e he (by rw[m3,o5])
  ·have:=aC.put (dst:=some d) (x:=.bJ [.val (.pointer none),.b false]) (v:=.tuple #[.pointer none,.bool false]) oQ (.bJ _ _ (.cons _ _ _ _ (.val _) (.cons _ _ _ _ (.val _) .nil)));rw[aN];exact this
 ·have dW:(execOp a.eval o).run P w= .ok (.value (.tuple #[e.val,.bool true])) w:=by
   simp[execOp,h,Instr.lookup,run_underlying bT.h,hM,gw,iv,dQ,aP]
  refine cM.fN (R:=λv w'=>v= .tuple #[e.val,.bool true]/\w'=w) (E:=λ_ _=>False) cB dW ⟨rfl,rfl⟩ K Q ?_ (λ_ _ h=>h.elim);rintro v w' ⟨rfl,rfl⟩;obtain⟨u,gQ,m4⟩:=x4 p3 (i:=j) (v:=e.val) (by rw[List.getElem?_map,aU];rfl);have Dj:(Value.agg vs.toArray,u)∈es:=by
   rw[List.getElem?_map] at gQ;cases aB:es[j]? with
   | none=>rw[aB] at gQ;cases gQ
   | some p=>
    rw[aB] at gQ;have ae:(es.map (·.1))[j]? =some e.key:=by rw[<-ka,List.getElem?_map,aU];rfl
    rw[List.getElem?_map,aB] at ae;simp at gQ ae;have:p=(Value.agg vs.toArray,u):=Prod.ext (ae.trans kW) gQ;rw[<-this];exact List.mem_of_getElem? aB
  refine ca _ _ (found u Dj _ _ ⟨jr,jq,I,hw,he,az,?_⟩);have:=aC.put (dst:=some d) (x:=.bJ [u,.b true]) (v:=.tuple #[e.val,.bool true]) oQ (.bJ _ _ (.cons _ _ _ _ m4 (.cons _ _ _ _ (.val _) .nil)));rw[aN];exact this
theorem au.WX{t:TypeId}{x dN z:Operand}{b:Nat}{ke:Nat×Nat}{es:List (Value×aa)}{vs:List Value}{y u:aa}{g1 g2 g3:Bool}{H':List aj}[bT:Af P t ke](cU:o.guard=none)(aN:o.dst=none)(h:o.op= .mapUpdate t x dN z)
  (ag:bf (aX env) x=some (g1,.val (.map (some b)))) (dB:g1=true) (ao:bf (aX env) dN=some (g2,y)) (dY:g2=true) (hy:aL y (.agg (vs.map .val))) (an:bf (aX env) z=some (g3,u)) (sP:g3=true)
  (hu:bu H (.map b es) (.map b (es++[(.agg vs.toArray,u)])) H') (kB:e0 P ke.1 (.agg vs.toArray)) (lC:∀p∈es,e0 P ke.1 p.1) (om:∀p∈es,p.1≠ .agg vs.toArray) (next:au c r P ops rest ⟨env,H'⟩ Q):au c r P ops (o::rest) ⟨env,H⟩ Q:=by
 intro a w s;refine wpListIn_plain cU λK ca=>?_;obtain⟨I,hw,he,az,aC⟩:=s.mem;have hM:=ct ((aC.ops o).get cx ag dB);have gw:a.eval dN= .agg vs.toArray:=by
  have ai:=hy _ _ _ ((aC.ops o).get cx ao dY);generalize a.eval dN=u at ai;cases ai with
  | agg _ us aK=>have:=p1 aK;rw[<-this]
 have ik:=(aC.ops o).get cx an sP;obtain⟨bE,⟨cv,dS,aw,ka,p3⟩,cu⟩:=az.ok _ hu.mem;obtain⟨sO,ia⟩:=kB;have fe:∀e∈cv.toList,∃l,keyOf P ke.1 e.key=some l:=λe he=>by
  have:e.key∈es.map (·.1):=by rw[<-ka];exact List.mem_map_of_mem he
  obtain⟨p,aB,o5⟩:=List.mem_map.1 this;rw[<-o5];exact lC p aB
 have dQ:=bT.key.check w false ia;have iv:(getObj b).run P w= .ok (.map cv dS) w:=by simp[getObj,Sem.run,aw]
 have h4:∀o':Obj,(setObj b o').run P w= .ok () (w.putObj b o'):=λo'=>by simp[setObj,Sem.run,aw,World.putObj]
 have cO:b<w.heap.size:=(Array.getElem?_eq_some_iff.1 aw).1;rcases bT.key.find w ia cv.toList fe with⟨aP,bq⟩ | ⟨j,e,aP,aU,kW⟩
 ·generalize lD:cv.push {key:=.agg vs.toArray,val:=a.eval z,born:=dS}=iw;have dW:(execOp a.eval o).run P w= .ok .skip (w.putObj b (.map iw (dS+1))):=by
   rw[<-lD];simp[execOp,h,Instr.mapUpdate,run_underlying bT.h,hM,gw,iv,dQ,aP,h4]
  have ao:fb I w I (w.putObj b (.map iw (dS+1))):=qJ (B:=c.B) cu;refine cM.vl (R:=λv w'=>v=undef/\w'=w.putObj b (.map iw (dS+1))) (E:=λ_ _=>False) cB dW ⟨rfl,rfl⟩ K Q ?_ (λ_ _ h=>h.elim);rintro v w' ⟨rfl,rfl⟩;have cW:br c.B I (w.putObj b (.map iw (dS+1))) H':=by
   refine az.gH hu ao (λdk _ bq=>World.putObj_heap_other (λe=>bq (by rw[e];rfl))) (λ_ _ x=>.inl x) ⟨bE,⟨iw,dS+1,World.putObj_heap_same cO,?_,?_⟩,cu⟩ (λ_ aw=>.inl aw)
   ·subst lD;simp[ka]
   ·subst lD;simp only[Array.toList_push,List.map_append,List.map_cons,List.map_nil];exact ((p3.bQ ao).append (.cons _ _ _ _ (ik.bQ ao) .nil))
  refine ca _ _ ?_;rw[aN];exact next _ _ ⟨s.ds,s.size,I,hw.putObj cu,he.trans (Ext.putObj bE cu),cW,aC.bQ ao⟩
 ·exfalso;have Np:e.key∈cv.toList.map (·.key):=List.mem_map_of_mem (List.mem_of_getElem? aU);rw[ka] at Np;obtain⟨p,aB,o5⟩:=List.mem_map.1 Np;exact om p aB (o5.trans kW)
theorem br.lazy{B:Nat}{I:a8}{w:World}{H:List aj}{b:Nat}{js:Value->Prop}{κ:Value->List aa}{dd:List aa}{es:List (Value×aa)}(az:br B I w (.map b es::H))(lC:∀p∈es,js p.1/\p.2= .ptr (κ p.1))(aN:∀v,js v->(∀p∈es,p.1≠v)->κ v=dd):br B I w (.lmap b js κ dd::H):=by
 obtain⟨bE,⟨cv,dS,aw,ka,p3⟩,cu⟩:=az.ok _ (.head _);refine⟨λf aP=>?_,List.pairwise_cons.2 ⟨(List.pairwise_cons.1 az.apart).1,(List.pairwise_cons.1 az.apart).2⟩⟩;rcases List.mem_cons.1 aP with rfl | aP
 ·refine⟨bE,⟨cv,dS,aw,λe he=>?_,λv al hn=>aN v al λp aB vt=>?_⟩,cu⟩
  ·obtain⟨j,aU⟩:=List.mem_iff_getElem?.1 he;obtain⟨u,gQ,m4⟩:=x4 p3 (i:=j) (v:=e.val) (by rw[List.getElem?_map,aU];rfl);rw[List.getElem?_map] at gQ;cases aB:es[j]? with
   | none=>rw[aB] at gQ;cases gQ
   | some p=>
    rw[aB] at gQ;have ae:(es.map (·.1))[j]? =some e.key:=by rw[<-ka,List.getElem?_map,aU];rfl
    rw[List.getElem?_map,aB] at ae;simp at gQ ae;obtain⟨dg,dh⟩:=lC p (List.mem_of_getElem? aB);rw[ae] at dg dh;rw[<-gQ,dh] at m4;exact⟨dg,m4⟩
  ·have:p.1∈cv.toList.map (·.key):=by rw[ka];exact List.mem_map_of_mem aB
   obtain⟨e,he,m3⟩:=List.mem_map.1 this;exact hn e he (by rw[m3,vt])
 ·exact az.ok f (.tail _ aP)
theorem br.qN{B:Nat}{I:a8}{w:World}{H:List aj}{t k:Nat}{v:Value}{els:List (List aa)}(hw:ck B I w)(az:br B I w (.row t k v els.length els.flatten::H))(ao:∀e∈els,e.length=k):
  ∃J,ck B J w/\Ext B I w J w/\br B J w H/\Rel J w (.aF k els) v:=by
 obtain⟨J,ab,ae,aD,aV⟩:=Df (az.ok _ (.head _)) ao;have dV:fb I w J w:=⟨ab,λ_ _ _=>rfl⟩;refine⟨J,⟨hw.base,λb o aw=>(aD b o aw).elim (hw.there b o) id⟩,⟨ab,λ_ _ _=>rfl,Below.refl _ _⟩,az.tail.bQ dV (λ_ _ _ _=>rfl) (λf aP b aw o aA=>?_),aV⟩;rcases ae b o aA with h | h
 ·exact h
 ·exact absurd aw ((List.pairwise_cons.1 az.apart).1 f aP b h)
theorem br.WY{B:Nat}{I:a8}{w:World}{H:List aj}{b t:Nat}{cs ds:List aa}(hw:ck B I w)(az:br B I w (.aI b t cs::H))(hle:∀vs,bZ I w cs vs->bZ I w ds vs):
  ∃J,ck B J w/\Ext B I w J w/\br B J w H/\Rel J w (.ptr ds) (.pointer (some ⟨b,0,none⟩)):=by
 obtain⟨bE,vs,aw,aK,cu⟩:=az.ok _ (.head _);obtain⟨cI,a2,a3,a4⟩:=a8.freeze (n:=vs.size) hw az (.head _ _) (b:=b) rfl aw (Nat.le_refl _);exact⟨_,cI,a2,a3,.ptr _ _ _ (a4 ds vs.toList (hle _ aK) CH)⟩
end
def ow(P:Program)(iu H1:List aj)(ρ:Nat->Option aa)(o:Oper):Prop:=
 ∀(B:Nat) (I:a8) (w:World) (r:Option Nat) (a:Act),ck B I w->br B I w iu->gi I w ρ a o->cM P r o a w (λv w'=>∃aQ,ck B aQ w'/\Ext B I w aQ w'/\br B aQ w' H1) (λ_ _=>False)
abbrev WZ:=iU p0
theorem ow.congr{P:Program}{H H1:List aj}{ρ gN:Nat->Option aa}{o:Oper}(h:ow P H H1 ρ o)(he:∀t,.tmp t∈o.op.operands.toList->ρ t=gN t):ow P H H1 gN o:=by
 intro B I w r a hw az aA;refine h B I w r a hw az (λy hy z an=>aA y hy z ?_);cases y with
 | tmp t=>rw[<-an];exact (he t (by simpa using hy)).symm
 | const v=>exact an
 | global g=>exact an
 | func f=>exact an
theorem gi.congr{I:a8}{w:World}{ρ gN:Nat->Option aa}{a:Act}{o:Oper}(aA:gi I w gN a o)(he:∀t,.tmp t∈o.op.operands.toList->ρ t=gN t):gi I w ρ a o:=λy hy z an=>aA y hy z (by
 cases y with
 | tmp t=>rw[<-an];exact (he t (by simpa using hy)).symm
 | const v=>exact an
 | global g=>exact an
 | func f=>exact an)
def Dk(l:List Oper)(ss:List Nat)(i:Nat):Nat:=ss.countP λs=>((h5 l []).getD i 0).testBit s
def ue(l:List Oper)(ss:List Nat)(i:Nat):Nat:=ss.countP λs=>!((h5 l []).getD s 0).testBit i && !Nat.beq s i
def o6(ss:List Nat)(i:Nat):Nat:=ss.countP λs=>Nat.beq s i
def W0(P:Program)(Hs:Nat->Mem)(l:List Oper)(ss:List Nat)(i:Nat)(env:List (Nat×aa))(o:Oper)(x:aa):Prop:=
 ∀j,Dk l ss i<=j->j<=ue l ss i->WZ P (Hs j) (Hs (j+o6 ss i)) l env o x
def b6(P:Program)(Hs:Nat->Mem)(l:List Oper)(ss:List Nat)(n:Nat):Nat->List Oper->List (Nat×aa)->(List (Nat×aa)->Prop)->Prop
 | _,[],env,K=>K env
 | i,o::rest,env,K=>∃x,W0 P Hs l ss i env o x/\jt n o.dst=true/\b6 P Hs l ss n (i+1) rest (jN o.dst x env) K
theorem b6.mono{P:Program}{Hs:Nat->Mem}{ops:List Oper}{ss:List Nat}{n:Nat}{K qM:List (Nat×aa)->Prop}(ao:∀env,K env->qM env):∀{k:Nat} {l:List Oper} {env:List (Nat×aa)},b6 P Hs ops ss n k l env K->b6 P Hs ops ss n k l env qM
 | _,[],_,h=>ao _ h
 | _,_::_,_,⟨x,ab,ae,aD⟩=>⟨x,ab,ae,aD.mono ao⟩
def uf(ss:List Nat)(k m:Nat):Bool:=ss.all (λs=>Nat.ble k s && Nat.blt s m) && decide ss.Nodup
theorem Nq{ss:List Nat}{k m:Nat}(h:uf ss k m=true):(∀s∈ss,k<=s/\s<m)/\ss.Nodup:=by
 simp only[uf,Bool.and_eq_true,List.all_eq_true,decide_eq_true_eq] at h;exact⟨λs aH=>⟨Nat.le_of_ble_eq_true (h.1 s aH).1,Nat.lt_of_succ_le (by simpa [Nat.blt] using (h.1 s aH).2)⟩,h.2⟩
theorem Nr{S:Nat->Bool}{i:Nat}(ab:S i=false):∀{ss:List Nat},ss.Nodup->ss.countP (fu S i)=ss.countP S+o6 ss i
 | [],_=>rfl
 | s::ss,hn=>by
  obtain⟨qO,lE⟩:=List.nodup_cons.1 hn;have bm:=Nr ab lE;unfold o6 at bm ⊢;rw[List.countP_cons,List.countP_cons,List.countP_cons,bm];by_cases e:s=i
  ·subst e;have:List.countP (λx=>Nat.beq x s) ss=0:=List.countP_eq_zero.2 λx aH aw=>qO (by have:=Nat.eq_of_beq_eq_true aw;subst this;exact aH);simp[xZ,ab,this]
  ·rw[lB e,show Nat.beq s i=false from Bool.eq_false_iff.2 λh=>e (Nat.eq_of_beq_eq_true h)];simp;omega
theorem b6.u{Hs:Nat->Mem}{ss:List Nat}{P:Program}{L:List Oper}{n:Nat}(o7:ss.Nodup)(eZ:∀s∈ss,s<L.length):∀{l:List Oper} {i:Nat} {env:List (Nat×aa)} {K:List (Nat×aa)->Prop},b6 P Hs L ss n i l env K->kA p0 P (λS=>Hs (ss.countP S)) L n i l env K
 | [],_,_,_,h=>h
 | _::_,i,_,_,⟨x,ab,ae,aD⟩=>⟨x,(λS m1 hm h9=>by
  show iU p0 P (Hs (ss.countP S)) (Hs (ss.countP (fu S i))) L _ _ x;rw[Nr h9 o7];refine ab _ (List.countP_mono_left λs _ h=>hm s h) (List.countP_mono_left λs aH h=>?_);have bq:s≠i:=λe=>by subst e;rw[h9] at h;cases h
  rw[Bool.and_eq_true];refine⟨?_,by rw[show Nat.beq s i=false from Bool.eq_false_iff.2 λh=>bq (Nat.eq_of_beq_eq_true h)];rfl⟩;cases aw:((h5 L []).getD s 0).testBit i with
  | false=>rfl
  | true=>rw[m1 s _ (List.getElem?_eq_getElem (eZ s aH)) h i aw] at h9;cases h9),ae,aD.u o7 eZ⟩
section
variable{c:Ctx}{r:Option Nat}{P:Program}{l:List Oper}{st:dn}{Q:Exit->Act->World->Prop}
theorem bk.anyS{k m:Nat}{Hs:Nat->Mem}{ss:List Nat}(dQ:o2 l k m=true)(p4:uf ss k m=true)(gv:k<=m)(en:m<=l.length)(iR:(l.all λo=>(looks l o).all λt=>Nat.blt t c.n)=true)(b0:∀B a I w,br B I w st.H->Hs 0 B a I w)
  (h:b6 P Hs l ss c.n k ((l.drop k).take (m - k)) st.env λenv=>∀a w I,a.defers=c.ds->a.tmps.size=c.n->ck c.B I w->Ext c.B c.cl c.aO I w->Hs ss.length c.B a I w->fs I w (aX env) a->hc c r P l Q m a w):bk c r P l Q k st:=by
 obtain⟨o8,o7⟩:=Nq p4;refine bk.Ae (M:=λS=>Hs (ss.countP S)) dQ gv en iR (λB a I w az=>?_) (kA.mono (λenv aN a w I dg dh ea gP jA kV=>aN a w I dg dh ea gP ?_ kV) (h.u o7 λs aH=>by have:=(o8 s aH).2;omega))
 ·rw[show ss.countP (λi=>Nat.blt i k)=0 from List.countP_eq_zero.2 λs aH aw=>by have:=(o8 s aH).1;have:=tZ aw;omega];exact b0 _ _ _ _ az
 ·rwa [show ss.countP (λi=>Nat.blt i m)=ss.length from List.countP_eq_length.2 λs aH=>M7 (o8 s aH).2] at jA
abbrev x5(Hs:Nat->List aj):Nat->Mem:=λj B _ I w=>br B I w (Hs j)
theorem bk.Ns{env:List (Nat×aa)}{H:List aj}(Hs:Nat->List aj)(ss:List Nat)(k m n:Nat)(hn:c.n=n)(dQ:o2 l k m=true)(p4:uf ss k m=true)(gv:Nat.ble k m=true)(en:Nat.ble m l.length=true)(iR:(l.all λo=>(looks l o).all λt=>Nat.blt t n)=true)(b0:H=Hs 0)
  (h:b6 P (x5 Hs) l ss c.n k ((l.drop k).take (m - k)) env λenv=>bk c r P l Q m ⟨env,Hs ss.length⟩):bk c r P l Q k ⟨env,H⟩:=
 bk.anyS (Hs:=x5 Hs) dQ p4 (Nat.le_of_ble_eq_true gv) (Nat.le_of_ble_eq_true en) sq (λB a I w az=>by show br B I w (Hs 0);rw[<-b0];exact az) (h.mono λenv aN a w I dg dh ea gP jA kV=>aN a w ⟨dg,dh,I,ea,gP,jA,kV⟩)
abbrev ug(iu:List aj)(m5:Value->List aj)(fG:Nat):Nat->Mem:=λj B a I w=>match j with
 | 0=>br B I w iu
 | _=>br B I w (m5 (a.tmps.getD fG undef))
theorem bk.W1{env:List (Nat×aa)}{H:List aj}(m5:Value->List aj)(fG e:Nat)(k m n:Nat)(hn:c.n=n)(dQ:o2 l k m=true)(p4:uf [e] k m=true)(gv:Nat.ble k m=true)(en:Nat.ble m l.length=true)(iR:(l.all λo=>(looks l o).all λt=>Nat.blt t n)=true)
  (h:b6 P (ug H m5 fG) l [e] c.n k ((l.drop k).take (m - k)) env λenv=>∀Nt,bk c r P l Q m ⟨(fG,.val Nt)::env,m5 Nt⟩):bk c r P l Q k ⟨env,H⟩:=
 bk.anyS (Hs:=ug H m5 fG) dQ p4 (Nat.le_of_ble_eq_true gv) (Nat.le_of_ble_eq_true en) sq (λB a I w az=>az) (h.mono λenv aN a w I dg dh ea gP jA kV=>aN (a.tmps.getD fG undef) a w ⟨dg,dh,I,ea,gP,jA,Sat.tS kV (.val _)⟩)
end
section
variable{P:Program}{L rest:List Oper}{ss:List Nat}{n i d:Nat}{o:Oper}{env:List (Nat×aa)}{K:List (Nat×aa)->Prop}{x:aa}{M:Nat->Mem}{Hs:Nat->List aj}
theorem b6.nil(h:K env):b6 P M L ss n i [] env K:=h
theorem b6.bB(j4 av:Nat)(ax:Dk L ss i=j4)(az:ue L ss i=av)(aH:o6 ss i=0)(al:o.guard=none)(aN:o.dst=some d)(hn:Nat.blt d n=true)(h:∀j,j4<=j->j<=av->af P (Hs j) (aX env) o x)(next:b6 P (x5 Hs) L ss n (i+1) rest ((d,x)::env) K):b6 P (x5 Hs) L ss n i (o::rest) env K:=
 ⟨x,λj ab ae=>by
  rw[aH];exact iU.of al λB I w r a hw hm aA an=>h j ad ad B I w r a _ hw hm (λ_ h=>h) aA,jg aN hn,ih⟩
theorem b6.j9(q:Nat)(ax:Dk L ss i=q)(az:ue L ss i=q)(aH:o6 ss i=1)(al:o.guard=none)(aN:o.dst=none)(h:ow P (Hs q) (Hs (q+1)) (aX env) o)(next:b6 P (x5 Hs) L ss n (i+1) rest env K):b6 P (x5 Hs) L ss n i (o::rest) env K:=
 ⟨.any,λj ab ae=>by
  obtain rfl:j=q:=by omega
  rw[aH];exact iU.of al λB I w r a hw hm aA an=>(h B I w r a hw hm aA).mono (λv w' ⟨aQ,cI,a2,a3⟩=>⟨aQ,cI,a2,a3,.any _⟩) (λ_ _ h=>h),by rw[aN];rfl,ih⟩
variable{H:List aj}{m5:Value->List aj}{fG:Nat}
theorem b6.sT(az:ue L ss i=0)(aH:o6 ss i=0)(al:o.guard=none)(aN:o.dst=some d)(hn:Nat.blt d n=true)(h:af P H (aX env) o x)(next:b6 P (ug H m5 fG) L ss n (i+1) rest ((d,x)::env) K):b6 P (ug H m5 fG) L ss n i (o::rest) env K:=
 ⟨x,λj ab ae=>by
  obtain rfl:j=0:=by omega
  rw[aH];exact iU.of al λB I w r a hw hm aA an=>h B I w r a _ hw hm (λ_ h=>h) aA,jg aN hn,ih⟩
theorem b6.sU(aH:o6 ss i=0)(al:o.guard=none)(aN:o.dst=some d)(hn:Nat.blt d n=true)(Ha:Nat.beq d fG=false)(h:∀H,af P H (aX env) o x)(next:b6 P (ug H m5 fG) L ss n (i+1) rest ((d,x)::env) K):b6 P (ug H m5 fG) L ss n i (o::rest) env K:=
 ⟨x,λj ab ae=>by
  rw[aH];refine iU.of al λB I w r a hw hm aA an=>?_;cases j with
  | zero=>exact h H B I w r a _ hw hm (λ_ h=>h) aA
  | succ j=>
   refine (h (m5 (a.tmps.getD fG undef)) B I w r a _ hw hm (λ_ h=>h) aA).mono (λv w' ⟨aQ,cI,a2,a3,a4⟩=>⟨aQ,cI,a2,?_,a4⟩) (λ_ _ h=>h);have e:(a.put o.dst v).tmps.getD fG undef=a.tmps.getD fG undef:=by
    rw[aN];exact oR (λe=>by subst e;simp at Ha)
   show br B aQ w' (m5 ((a.put o.dst v).tmps.getD fG undef));rw[e];exact a3,jg aN hn,ih⟩
theorem b6.Hb(az:ue L ss i=0)(aH:o6 ss i=1)(al:o.guard=none)(aN:o.dst=some fG)(hn:Nat.blt fG n=true)
  (h:∀(B:Nat) (I:a8) (w:World) (r:Option Nat) (a:Act),ck B I w->br B I w H->gi I w (aX env) a o->cM P r o a w (λx w'=>∃aQ,ck B aQ w'/\Ext B I w aQ w'/\br B aQ w' (m5 x)) (λ_ _=>False))
  (next:b6 P (ug H m5 fG) L ss n (i+1) rest ((fG,.any)::env) K):b6 P (ug H m5 fG) L ss n i (o::rest) env K:=
 ⟨.any,λj ab ae=>by
  obtain rfl:j=0:=by omega
  rw[aH];refine iU.of al λB I w r a hw hm aA an=>(h B I w r a hw hm aA).mono (λv w' ⟨aQ,cI,a2,a3⟩=>⟨aQ,cI,a2,?_,.any _⟩) (λ_ _ h=>h);show br B aQ w' (m5 ((a.put o.dst v).tmps.getD fG undef));rw[aN,tN (an fG aN)];exact a3,jg aN hn,ih⟩
theorem ow.store{H H':List aj}{ρ:Nat->Option aa}{t tb:TypeId}{p z:Operand}{y:aa}{l3 g:Bool}{b off m:Nat}{cs ds:List aa}{agg:Bool}[ht:dy P t (agg,m)](h:o.op= .store t p z)
  (aB:bf ρ p=some (l3,.p b off)) (oU:l3=true) (an:bf ρ z=some (g,y)) (al:g=true) (aw:ha y=true) (ab:eG (dq y)=true)
  (hm:Nat.beq (dq y).length m=true) (hu:bu H (.aI b tb cs) (.aI b tb ds) H') (hfit:Nat.ble (off+(dq y).length) cs.length=true) (hds:cs.take off++dq y++cs.drop (off+(dq y).length)=ds):ow P H H' ρ o:=by
 intro B I w r a hw az aA;subst hds;have Am:oT P t=some (agg,(dq y).length):=by rw[Nat.eq_of_beq_eq_true hm];exact ht.h
 have vt:=ct (aA.get cx aB oU);have ik:=xR (aA.get cx an al) aw;obtain⟨bE,vs,jc,ed,cu⟩:=az.ok _ hu.mem;have qx:=vr ik ab;have hlen:(a.eval z).cells.toList.length=(dq y).length:=ik.length;have dp:vs.size=cs.length:=by have:=ed.length;simpa using this
 have zz:off+0+(a.eval z).cells.toList.length<=vs.size:=by
  have:=Nat.le_of_ble_eq_true hfit;rw[hlen,dp];omega
 have dW:=run_storeCells_at P b off tb (a.eval z).cells.toList 0 vs w jc zz qx;obtain⟨_,eH⟩:=zt Am w;generalize pV:(vs.toList.take (off+0)++(a.eval z).cells.toList++vs.toList.drop (off+0+(a.eval z).cells.toList.length)).toArray=cur at dW;have zA:(a.eval z).cells.size=(dq y).length:=by simpa using hlen
 have zB:(execOp a.eval o).run P w= .ok .skip (w.setRow b cur):=by
  simp[execOp,h,Instr.storeAt,vt,Instr.sureAddr,storeVar,eH,zA,dW]
 have hK:fb I w I (w.setRow b cur):=⟨λ_ _ x=>x,λdk o' b4=>by
  have bq:dk≠b:=λe=>by subst e;exact cu o' b4
  exact World.cell?_of_block (a:=⟨dk,o',none⟩) (setRow_other w b dk cur bq)⟩
 have sy:Ext B I w I (w.setRow b cur):=⟨hK.j0,hK.cell,⟨rfl,rfl,rfl,bj,λk ao=>setRow_other w b k cur ad⟩⟩;have dc:ck B I (w.setRow b cur):=⟨xK,λdk o' b4=>by rw[hK.cell dk o' b4];exact hw.there dk o' b4⟩;have sz:bZ I w (cs.take off++dq y++cs.drop (off+(dq y).length)) cur.toList:=by
  rw[<-pV];simp only[Nat.add_zero,hlen];exact ((ed.take off).append ik).append (ed.drop _)
 have cW:br B I (w.setRow b cur) H':=by
  refine az.gH hu hK (λk ao bq=>setRow_other w b k cur (λe=>bq xN)) (λ_ _ x=>.inl x) ?_ (λk ao=>.inl ao);exact⟨bE,cur,setRow_heap w b vs cur tb (0,0) jc,sz.bQ hK,cu⟩
 exact cM.vl cB zB ⟨I,dc,sy,cW⟩
end
def Hc(B:Nat)(cl:a8)(aO:World)(pv:Value)(H:List aj):Ending->World->Prop:=λe w'=>e= .panicked [{v:=pv,recovered:=false}]/\∃aQ,ck B aQ w'/\Ext B cl aO aQ w'/\br B aQ w' H
def An(B:Nat)(P:Program)(f:FuncId)(xs:List aa)(H:List aj)(pv:Value):Prop:=
 nt P f=true/\∀(I:a8) (w:World) (vs:List Value),ck B I w->br B I w H->bZ I w xs vs->Calls P f vs.toArray w (Hc B I w pv H)
section
variable{P:Program}
theorem Nu{B:Nat}{I:a8}{w:World}{n:Nat}{fn:Func}{xs:List aa}{vs:List Value}{H:List aj}(hn:fn.ntmps=n)(ax:Nat.ble xs.length n=true)(hw:ck B I w)(az:br B I w H)(aC:bZ I w xs vs):
  Sat ⟨B,I,w,n,[]⟩ ⟨oi 0 xs,H⟩ {tmps:=vs.toArray++Array.replicate (fn.ntmps - vs.toArray.size) undef,defers:=[]} w:=by
 refine⟨rfl,?_,I,hw,Ext.refl _ _ _,az,λt y hy=>?_⟩
 ·have:=aC.length;have:=Nat.le_of_ble_eq_true ax;simp;omega
 ·obtain⟨v,ab,ae⟩:=aC.get zl;have:(vs.toArray++Array.replicate (fn.ntmps - vs.toArray.size) undef).getD t undef=v:=by
   have cO:=(List.getElem?_eq_some_iff.1 ab).1;simp only[Array.getD_eq_getD_getElem?];rw[Array.getElem?_append_left xL];simp[ab]
  rw[this];exact ae
theorem An.of{B:Nat}{f:FuncId}{fn:Func}{code:Code}{xs:List aa}{H:List aj}{pv:Value}{n:Nat}(aP:P.funcs[f]? =some fn)(aw:fn.body=some code)(qp:(fn.name== "runtime.NumGoroutine")=false)
  (hn:fn.ntmps=n) (ax:Nat.ble xs.length n=true) (h:∀I w,aq ⟨B,I,w,n,[]⟩ none P code ⟨oi 0 xs,H⟩ (bodyPost P fn (Hc B I w pv H))):An B P f xs H pv:=
 ⟨ve,λI w vs hw az aC=>vk (n:=0) (callsIn_of_wp aP aw trivial (h I w _ w (Nu hn ax hw az aC)) rfl)⟩
theorem b1.Nv{f:FuncId}{fn:Func}{code:Code}{xs:List aa}{H:List aj}{bw:aa->List aj->Prop}{E:aa->List aj->Prop}{n:Nat}(aP:P.funcs[f]? =some fn)(aw:fn.body=some code)(qp:(fn.name== "runtime.NumGoroutine")=false)
  (hn:fn.ntmps=n) (ax:Nat.ble xs.length n=true) (h:∀B I w,aq ⟨B,I,w,n,[]⟩ none P code ⟨oi 0 xs,H⟩ (bodyPostDIn (bb none) 0 P fn (fD B I w bw E))):b1 P f xs H bw E:=
 ⟨ve,λB I w vs hw az aC=>vk (n:=0) (callsIn_of_wp_defers aP aw trivial (h B I w _ w (Nu hn ax hw az aC)) rfl)⟩
variable{c:Ctx}{r:Option Nat}{ops:Array Oper}{l rest:List Oper}{o:Oper}{env:List (Nat×aa)}{H:List aj}{Q:Exit->Act->World->Prop}{d:Nat}
def Nw(P:Program)(t:TypeId):Bool:=match P.underlying t with
 | some (.interface _)=>false
 | some _=>true
 | none=>false
theorem af.vL{ρ:Nat->Option aa}{t:TypeId}{x:Operand}{y:aa}{g:Bool}(h:o.op= .makeInterface t x)(ag:bf ρ x=some (g,y))(al:g=true)(ht:Nw P t=true):af P H ρ o (.iface t y):=by
 intro B I w r a eo hw az aH aA;have aK:(execOp a.eval o).run P w= .ok (.value (.iface t (a.eval x))) w:=by
  unfold Nw at ht;cases hu:P.underlying t with
  | none=>simp[hu] at ht
  | some u=>cases u <;> simp[hu] at ht <;> simp[execOp,h,Instr.makeInterface,run_underlying hu]
 exact cM.fN cB aK ⟨I,hw,Ext.refl _ _ _,az,.iface _ _ _ (aA.get cx ag al)⟩
def aa.is(y:aa)(v:Value):Prop:=∀(I:a8) (w:World) (u:Value),Rel I w y u->u=v
theorem au.Nx{x:Operand}{y:aa}{g:Bool}{t:TypeId}{v:Value}(cU:o.guard=none)(h:o.op= .panic x)(ag:bf (aX env) x=some (g,y))(al:g=true)(hy:y.is (.iface t v))
  (next:aR c ⟨env,H⟩ (.panic [{v:=.iface t v,recovered:=false}]) Q):au c r P ops (o::rest) ⟨env,H⟩ Q:=by
 intro a w s;refine wpListIn_plain cU λK ca=>?_;obtain⟨I,hw,he,az,aC⟩:=s.mem;have hM:=hy _ _ _ ((aC.ops o).get cx ag al);have aK:(execOp a.eval o).run P w= .halt (.panic (.iface t v)) w:=by
  simp[execOp,h,hM,Instr.panic]
 refine cM.VE (R:=λ_ _=>False) (E:=λch w'=>ch= [{v:=.iface t v,recovered:=false}]/\w'=w) cB aK ⟨rfl,rfl⟩ K Q (λ_ _ h=>h.elim) ?_;rintro ch w' ⟨rfl,rfl⟩;exact next a w' s
theorem W2{B:Nat}{cl:a8}{aO:World}{n:Nat}{fn:Func}{pv:Value}{a:Act}{w:World}(s:Sat ⟨B,cl,aO,n,[]⟩ ⟨env,H⟩ a w):bodyPost P fn (Hc B cl aO pv H) (.panic [{v:=pv,recovered:=false}]) a w:=
 let ⟨I,hw,he,az,_⟩:=s.mem;⟨s.ds,rfl,I,hw,he,az⟩
theorem au.W3{f:FuncId}{xs:List aa}{pv:Value}(al:o.guard=none)(ak:gZ P (aX env) o f xs)(h:An c.B P f xs H pv)(next:aR c ⟨env,H⟩ (.panic [{v:=pv,recovered:=false}]) Q):au c r P ops (o::rest) ⟨env,H⟩ Q:=by
 intro a w s;refine wpListIn_plain al λK ca=>?_;obtain⟨I,hw,he,az,aC⟩:=s.mem;obtain⟨vs,ab,ae⟩:=ak.run I w a (aC.ops o);obtain⟨cA,ij⟩:=h;refine cM.qs (R:=λ_ _=>False) (E:=λch w'=>ch= [{v:=pv,recovered:=false}]/\∃aQ,ck c.B aQ w'/\Ext c.B I w aQ w'/\br c.B aQ w' H) ak.rA (ae cA) ((ij I w vs hw az ab).mono λe w' aK=>?_) K Q (λ_ _ h=>h.elim) ?_
 ·obtain⟨rfl,aK⟩:=aK;exact⟨rfl,aK⟩
 ·rintro ch w' ⟨rfl,aQ,dg,dh,ea⟩;exact next a w' ⟨s.ds,s.size,aQ,dg,he.trans dh,ea,aC.bQ dh.keeps⟩
theorem au.Ny{x:Operand}{iI:Array TypeId}{k:FuncId}{vs:List Value}{g:Bool}(Hd:r=none)(cU:o.guard=none)(aN:o.dst=none)(h:o.op= .defer {callee:=.value x,args:=#[],argTypes:=iI})(ag:bf (aX env) x=some (g,.fn (.func k) [] (vs.map .val)))(al:g=true)
  (next:au ⟨c.B,c.cl,c.aO,c.n,{target:=.fn (.func k) vs.toArray,args:=#[]}::c.ds⟩ r P ops rest ⟨env,H⟩ Q):au c r P ops (o::rest) ⟨env,H⟩ Q:=by
 intro a w s;refine wpListIn_plain cU λK ca=>?_;obtain⟨I,hw,he,az,aC⟩:=s.mem;have hM:a.eval x= .func (.func k) #[] vs.toArray:=by
  have ai:=(aC.ops o).get ig ag al;generalize a.eval x=u at ai;cases ai with
  | fn _ _ _ fq eQ aP ak=>
   have ab:=p1 ak;have ae:fq.toList= []:=by
    have:=aP.length;exact List.eq_nil_of_length_eq_zero this
   rw[<-ab];congr;exact Array.toList_eq_nil_iff.1 ae
 have aK:(execOp a.eval o).run P w= .ok (.defer {target:=.fn (.func k) vs.toArray,args:=#[]}) w:=by
  simp[execOp,h,resolve,Deferred.ofValue,hM]
 unfold Oper.wpIn;refine⟨λ_ _=>trivial,?_⟩;subst Hd;have aH:o.semAt (bb none).round a.eval=execOp a.eval o:=rfl;rw[aH,aK,Oper.uponIn_defer];refine ca _ _ ?_;rw[aN];exact next _ _ ⟨by show _::a.defers=_;rw[s.ds],s.size,I,hw,he,az,λt y hy=>aC t y hy⟩
theorem aq.scope{st:dn}{p:Code}(h:aq c none P p st (Exit.noGoto Q)):aq c none P (.scope p) st Q:=λa w s=>
 (wpIn_wide (n:=0)).2 (wp_scope_straight ((wpIn_wide (n:=0)).1 (h a w s)))
theorem aq.label{st:dn}{k:Nat}(h:aR c st .normal Q):aq c r P (.label k) st Q:=λa w s=>wpIn_label (h a w s)
theorem aR.x6{st:dn}(h:aR c st .ret Q):aR c st .ret (Exit.noGoto Q):=h
theorem aR.W4{st:dn}{k:Nat}(h:aR c st (.exit k) Q):aR c st (.exit k) (Exit.noGoto Q):=h
end
section
variable{P:Program}{H:List aj}{ρ:Nat->Option aa}{o:Oper}
theorem af.m6{t:TypeId}{x y:Operand}{k b off n cap:Nat}{dV:IntKind}{i:Int}{cC cR:Bool}[ht:ft P t k](h:o.op= .indexAddr t x y)(ag:bf ρ x=some (cC,.val (.slice (some ⟨b,off,none⟩) n cap)))(dG:cC=true)(hy:bf ρ y=some (cR,.val (.int dV i)))(dX:cR=true)(ai:0<=i/\i<n):af P H ρ o (.p b (off+i.toNat*k)):=by
 refine .same cB λI w f aA=>?_;have ab:=ct (aA.get cx ag dG);have ae:=ct (aA.get cx hy dX);exact⟨.pointer (some ⟨b,off+i.toNat*k,none⟩),by simp[execOp,h,ab,ae,Gc ht.h b off n cap dV i ai.1 ai.2 w],.val _⟩
theorem W5{t:TypeId}{k:Nat}(ht:ry P t=some k)(b off n cap l m:Nat)(j4 av:Option Value)(kl kh:IntKind)(ax:match j4 with | none=>l=0 | some v=>v= .int kl (l:Int))(az:match av with | none=>m=n | some v=>v= .int kh (m:Int))(ab:l<=m)(ae:m<=cap)(aD:l<cap)(w:World):
  (Instr.sliceAt t (.slice (some ⟨b,off,none⟩) n cap) j4 av none).run P w= .ok (.slice (some ⟨b,off+l*k,none⟩) (m - l) (cap - l)) w:=by
 obtain⟨e,inf,hu,kP,ao⟩:=pU ht;have bq: ¬(cap=l):=by omega
 cases j4 <;> cases av <;> simp only at ax az <;> subst ax <;> subst az <;>
  simp[Instr.sliceAt,Instr.slice,run_underlying hu,Instr.sliceBounds,Instr.sliceBound,asIntOf,sizeOf,typeInfo,kP,ao,ab,ae,bq,Addr.add] <;> omega
theorem af.Nz{t:TypeId}{x:Operand}{j4 av:Option Operand}{k b off n cap l m:Nat}{cC gl gh:Bool}{kl kh:IntKind}[ht:ft P t k](h:o.op= .slice t x j4 av none)(ag:bf ρ x=some (cC,.val (.slice (some ⟨b,off,none⟩) n cap)))(dG:cC=true)
  (oS:match j4 with | none=>l=0 | some y=>bf ρ y=some (gl,.val (.int kl (l:Int)))) (ly:gl=true) (mW:match av with | none=>m=n | some y=>bf ρ y=some (gh,.val (.int kh (m:Int)))) (qw:gh=true) (ab:l<=m) (ae:m<=cap) (aD:l<cap):
  af P H ρ o (.val (.slice (some ⟨b,off+l*k,none⟩) (m - l) (cap - l))):=by
 refine .same cB λI w f aA=>?_;have aK:=ct (aA.get cx ag dG);have rz:∀y,j4=some y->f.eval y= .int kl (l:Int):=λy e=>by
  subst e;exact ct (aA.get cx oS ly)
 have sx:∀y,av=some y->f.eval y= .int kh (m:Int):=λy e=>by
  subst e;exact ct (aA.get cx mW qw)
 refine⟨_,?_,.val (.slice (some ⟨b,off+l*k,none⟩) (m - l) (cap - l))⟩;have:=W5 ht.h b off n cap l m (j4.map f.eval) (av.map f.eval) kl kh (by cases j4 with | none=>exact oS | some y=>exact rz y rfl) (by cases av with | none=>exact mW | some y=>exact sx y rfl) ab ae aD w;simp[execOp,h,aK,this]
theorem gb.aI{t b k cap:Nat}{els:List (List aa)}{more:List aa}{pre post:List aa}(hm:aj.aI b t (els.flatten++more)∈H)(ao:∀e∈els,e.length=k)(ak:els.length<=cap)(im:cap<=maxLen):gb H (pre++.val (.slice (some ⟨b,0,none⟩) els.length cap)::post) (pre++.aF k els::post):=by
 intro B I w eo vs hw az aH aK;obtain⟨bE,us,aw,ed,cu⟩:=az.ok _ (aH _ hm)
 let J:a8:=λdk o'=>I dk o'\/(dk=b/\o'<us.size)
 have dV:fb I w J w:=⟨λ_ _ h=>.inl h,λ_ _ _=>rfl⟩;refine⟨J,λdk o' h=>?_,?_⟩
 ·rcases h with h | ⟨rfl,h⟩
  ·exact hw.there dk o' h
  ·exact⟨us[o'],by rw[kQ aw];exact Array.getElem?_eq_getElem h⟩
 obtain⟨as,bY,rfl,aS,ee⟩:=aK.sS;cases ee with
 | cons _ u _ bY ag ht=>
  have:=ct ag;subst this;have hlen:=ed.length;rw[List.length_append,qE ao] at hlen;have eH:us.size=els.length*k+more.length:=by simpa using hlen
  have sE:Cells J w b 0 (els.flatten++more):=vy aw _ us.toList 0 (ed.bQ dV) (λj u hu=>by simpa using hu) (λj aU=>.inr ⟨rfl,by rw[List.length_append,qE ao] at aU;omega⟩);have jx:=sE.take els.flatten.length;rw[List.take_left] at jx;exact (aS.bQ dV).append (.cons _ _ _ _ (.aF _ _ _ _ _ _ rfl ak im (oj els 0 ao jx)) (ht.bQ dV))
end
section
variable{c:Ctx}{r:Option Nat}{P:Program}{ops:Array Oper}{l rest:List Oper}{o:Oper}{env:List (Nat×aa)}{H:List aj}{Q:Exit->Act->World->Prop}{d:Nat}
end
section
variable{c:Ctx}{r:Option Nat}{P:Program}{l:List Oper}{Q:Exit->Act->World->Prop}
end
section
variable{P:Program}{L rest:List Oper}{ss:List Nat}{n i d:Nat}{o:Oper}{env:List (Nat×aa)}{K:List (Nat×aa)->Prop}{x:aa}{H:List aj}{aj6:Nat->Nat->List aj}{fG:Nat}
end
theorem W6{H:Type}{enc:TypeId×Value->H}{P:Program}{f:Func}{s:ChangeSpec}{apart fresh handsOn again:Bool}{W rI:World}{args:Array Value}{v:Value}{ds gs:List (DataW H)}{before pa pv:List MemPlace}
  (dD:DataW.Whole enc P f.params.toList s.vars apart W args.toList ds gs before)
  (Ao:∀(b:Nat) (sp:Nat->Bool) (aN:Bool),DataW.TrodAll enc P rI b sp aN f.resultTypes.toList (v.resultList f.resultTypes.size) (s.fn H (ds++gs)).results [])
  (NA:∀sp:Nat->Bool,(∀p∈before,sp p.block=true)->DataW.TrodAll enc P rI 0 sp true f.params.toList args.toList (s.fn H (ds++gs)).args pa)
  (NB:∀sp:Nat->Bool,(∀p∈before,sp p.block=true)->DataW.TrodVars enc P rI sp s.vars (s.fn H (ds++gs)).vars pv)
  (jh:before=pa++pv) (aw:Below W.heap.size W rI)
  (cA:∀(j:Nat) (t:TypeId) (r:Value),f.resultTypes[j]? =some t->(v.resultList f.resultTypes.size)[j]? =some r->Value.okWide P rI .any 0 t r):
  s.post enc P f apart fresh handsOn again W args v rI:=by
 have hold:∀p∈before,(λb=>decide (b<W.heap.size)) p.block=true:=λp aB=>by simpa using dD.lt p aB
 have cO:∀p∈before,p.block<W.heap.size:=λp aB=>dD.lt p aB;refine⟨ds,gs,before,[],pa,pv,dD,Ao _ _ _,NA _ hold,NB _ hold,aw.frame _,λ_=>?_⟩;obtain⟨_,_,_,_,_,an,hn⟩:=dD;refine⟨cA,_,_,([]++pa)++pv,⟨[]++pa,pv,trodAll_append (NA _ (λ_ _=>rfl)) (Ao _ _ _),NB _ (λ_ _=>rfl),rfl,?_,?_⟩,?_⟩
 ·intro b off aB;have uh:MemPlace.cell b off∈before:=by rw[jh];simpa using aB
  rw[aw.frozen (p:=⟨b,off,none⟩) (cO _ uh)];exact an b off uh
 ·intro bN;have:=hn bN;rw[jh] at this;simpa using this
 ·intro p aB _;rw[jh];simpa using aB
def He(P:Program)(t:TypeId):Option (TypeId×Nat×Value):=
 match P.underlying t with
 | some (.slice e)=>match P.info? e with
  | some i=>match i.zero with
   | some z=>match z.cells.toList with
    | [v]=>bif Nat.beq i.size 1 then some (e,i.bytes,v) else none
    | _=>none
   | none=>none
  | none=>none
 | _=>none
class ui (P:Program) (t:Nat) (x:outParam (Nat×Nat×Value)):Prop where h:He P t=some x
theorem Hf{P:Program}{t e dA:Nat}{v:Value}(h:He P t=some (e,dA,v)):∃i z,P.underlying t=some (.slice e)/\P.info? e=some i/\i.zero=some z/\i.size=1/\i.bytes=dA/\z.cells= #[v]:=by
 unfold He at h;split at h
 ·rename_i e' hu;split at h
  ·rename_i i av;split at h
   ·rename_i z an;split at h
    ·rename_i dr aC;cases ak:Nat.beq i.size 1 with
     | false=>simp[ak] at h
     | true=>
      simp only[ak,cond_true,Option.some.injEq,Prod.mk.injEq] at h;obtain⟨rfl,rfl,rfl⟩:=h;exact⟨i,z,hu,av,an,Nat.eq_of_beq_eq_true ak,rfl,by apply Array.ext';simpa using aC⟩
    ·cases h
   ·cases h
  ·cases h
 ·cases h
theorem Hg(v:Value)(n:Nat):madeCells #[v] n=(List.replicate n v).toArray:=by
 apply Array.ext';simp only[madeCells,Array.toList_map,Array.toList_range,List.size_toArray,List.length_singleton,Nat.mod_one];apply List.ext_getElem
 ·simp
 ·intro i ab ae;simp
section
variable{P:Program}{c:Ctx}{r:Option Nat}{ops:Array Oper}{rest:List Oper}{env:List (Nat×aa)}{H:List aj}{Q:Exit->Act->World->Prop}{o:Oper}{d:Nat}
theorem au.W7{x y:Operand}{t e dA n:Nat}{v:Value}{dN lF:IntKind}{g1 g2:Bool}[bT:ui P t (e,dA,v)](cU:o.guard=none)(aN:o.dst=some d)(hn:Nat.blt d c.n=true)(h:o.op= .makeSlice t x y)
  (ag:bf (aX env) x=some (g1,.val (.int dN (n:Int)))) (dB:g1=true) (hy:bf (aX env) y=some (g2,.val (.int lF (n:Int)))) (dY:g2=true) (aw:dA*n<=281474976710656) (hm:n<=maxLen)
  (next:∀b,au c r P ops rest ⟨(d,.val (.slice (some ⟨b,0,none⟩) n n))::env,.aI b e (List.replicate n (.val v))::H⟩ Q):au c r P ops (o::rest) ⟨env,H⟩ Q:=by
 intro a w s;refine wpListIn_plain cU λK ca=>?_;obtain⟨I,hw,he,az,aC⟩:=s.mem;obtain⟨i,z,hu,av,an,ao,lx,jv⟩:=Hf bT.h;have aA:=aC;have a6:a.eval x= .int dN (n:Int):=ct ((aC.ops o).get cx ag dB);have aW:a.eval y= .int lF (n:Int):=ct ((aC.ops o).get cx hy dY);have dW:=run_make (P:=P) w t e i z hu av an dN lF (n:Int) (n:Int) ad (Int.le_refl _) FX (by simp[maxLen] at hm;omega);rw[jv,ao,Nat.mul_one,Int.toNat_natCast,Hg] at dW;refine cM.fN (R:=λu w'=>u= .slice (some ⟨w.heap.size,0,none⟩) n n/\w'=w.alloc (.cells (List.replicate n v).toArray e)) (E:=λ_ _=>False) cB (v:=.slice (some ⟨w.heap.size,0,none⟩) n n) (w':=w.alloc (.cells (List.replicate n v).toArray e)) (by simp[execOp,h,a6,aW,dW]) ⟨rfl,rfl⟩ K Q ?_ (λ_ _ h=>h.elim);rintro u w' ⟨rfl,rfl⟩;have ab:bZ I w (List.replicate n (.val v)) (List.replicate n v):=by have:=l1 (I:=I) (w:=w) (List.replicate n v);rwa [List.map_replicate] at this
 refine ca _ _ (next w.heap.size _ _ ⟨jr,jq,I,hw.alloc _,he.trans (kN hw _),az.new hw e _ _ pQ,?_⟩);rw[aN];exact (aC.bQ (mq hw _)).put (dst:=some d) oQ (.val _)
theorem au.Ap{x y:Operand}{t e dA:Nat}(n:Nat){m:Int}{v:Value}{dN lF:IntKind}{g1 g2:Bool}[bT:ui P t (e,dA,v)](cU:o.guard=none)(aN:o.dst=some d)(hn:Nat.blt d c.n=true)(h:o.op= .makeSlice t x y)
  (ag:bf (aX env) x=some (g1,.val (.int dN m))) (dB:g1=true) (hy:bf (aX env) y=some (g2,.val (.int lF m))) (dY:g2=true) (he:m=(n:Int)) (aw:dA*n<=281474976710656) (hm:n<=maxLen)
  (next:∀b,au c r P ops rest ⟨(d,.val (.slice (some ⟨b,0,none⟩) n n))::env,.aI b e (List.replicate n (.val v))::H⟩ Q):au c r P ops (o::rest) ⟨env,H⟩ Q:=by
 subst he;exact au.W7 cU aN hn h ag dB hy dY aw hm next
end
def allI(w:World):a8:=λb o=>∃c,w.cell? ⟨b,o,none⟩=some c
theorem W8(w:World):ck w.heap.size (allI w) w:=⟨Nat.le_refl _,λ_ _ h=>h⟩
section
variable{H:Type}{enc:TypeId×Value->H}{P:Program}{w:World}{base:Nat}{spare:Nat->Bool}{held:Bool}
def Reads(enc:TypeId×Value->H)(P:Program)(w:World)(base:Nat)(spare:Nat->Bool)(held:Bool)(n:Nat)(t:TypeId){α:Type}(e:α->List aa):Prop:=
 ∀fuel,fuel<=n->∀cs x,DataW.trod enc P w base spare held fuel t cs=some x->∃y:α,bZ (allI w) w (e y) cs
theorem Reads.le{n m:Nat}{t:TypeId}{α:Type}{e:α->List aa}(h:Reads enc P w base spare held n t e)(hm:m<=n):Reads enc P w base spare held m t e:=λf aP=>h f (Nat.le_trans aP hm)
theorem Aq{n:Nat}{t:TypeId}(ht:P.underlying t=some (.int .i64)):Reads enc P w base spare held n t (λq:Int=>[aa.i q]):=λfuel _ cs x h=>by
 obtain⟨q,rfl,_⟩:=DataW.trod_int ht h;exact⟨q,.cons _ _ _ _ (.val _) .nil⟩
theorem Hh{b o:Nat}:∀{xs:List aa} {cs:List Value},bZ (allI w) w xs cs->(∀i,i<cs.length->w.cell? ⟨b,o+i,none⟩=cs[i]?)->Cells (allI w) w b o xs
 | [],cs,_,_=>.nil _ _
 | x::xs,cs,h,ak=>by
  cases h with
  | cons _ v _ vs ag ht=>
   have ai:=ak 0 bj;simp at ai;exact .cons _ _ _ _ _ ai ⟨v,ai⟩ ag (Hh ht λi av=>by
    have:=ak (i+1) dj;rw[Nat.add_assoc,Nat.add_comm 1 i];simpa using this)
theorem NC{n k:Nat}{t e:TypeId}{α:Type}{cv:α->List aa}(ht:P.underlying t=some (.slice e))(ao:P.cellsOf e=k)(jw:0<k)(lD:∀y,(cv y).length=k)(he:Reads enc P w base spare held n e cv):
  Reads enc P w base spare held (n+1) t (λl:List α=>[aa.aF k (l.map cv)]):=λfuel aP cs x h=>by
 rcases DataW.trod_slice ht h with⟨rfl,_⟩ | ⟨a,len,cap,elems,rest,m,rfl,rfl,rfl,aw,ak,hm,ax,iv,_⟩
 ·exact⟨[],.cons _ _ _ _ (.eP _ _ _) .nil⟩
 ·have key:∀j,j<=len->∃l:List α,l.length=j/\(j=0\/a.spot=none)/\fX (allI w) w k a.block a.off (l.map cv):=by
   intro j
   induction j with
   | zero=>intro _;exact⟨[],rfl,.inl rfl,.nil _ _ _⟩
   | succ j bm=>
    intro aU;obtain⟨l,ab,ae,aD⟩:=bm ad;have al:=iv j ad;rw[List.getElem?_eq_getElem ad] at al;obtain⟨tQ,aV,bl⟩:=Option.bind_eq_some_iff.1 al;obtain⟨cP,di,eW⟩:=World.cells?_some aV;obtain⟨y,hy⟩:=he m ad tQ _ bl;have hlen:tQ.length=k:=by rw[di,ao]
    have vM:a.spot=none:=by
     by_cases Hi:j=0
     ·have cQ:=eW 0 ad;rw[List.getElem?_eq_getElem ad,Hi,Nat.zero_mul] at cQ;have cN:(a.add 0).add 0=a:=by simp[Addr.add]
      rw[cN] at cQ;cases aH:a.spot with
      | none=>rfl
      | some q=>
       exfalso;unfold World.cell? at cQ;rw[aH] at cQ;split at cQ <;> simp at cQ
     ·exact ae.resolve_left ad
    refine⟨l++[y],tL,.inr vM,?_⟩;rw[List.map_append];have dp:Cells (allI w) w a.block (a.off+j*k) (cv y):=Hh hy λi av=>by
     have cQ:=eW i ad;have aW:(a.add (j*P.cellsOf e)).add i=⟨a.block,a.off+j*k+i,none⟩:=by
      rw[Addr.add_add,ao];unfold Addr.add;split
      ·obtain⟨fO,W9,Xa⟩:=a;simp at vM;subst vM;simp;omega
      ·simp <;> omega
     rw[aW] at cQ;exact cQ
    exact aD.append (.cons _ _ _ _ _ (lD y) (by rw[List.length_map,ab];exact dp) (.nil _ _ _))
  obtain⟨l,ab,ae,aD⟩:=key len (Nat.le_refl _);refine⟨l,.cons _ _ _ _ ?_ .nil⟩;rcases ae with ae | ae
  ·have:l= []:=List.eq_nil_of_length_eq_zero ad;subst this ae;exact .eP _ _ _
  ·obtain⟨b,o,sp⟩:=a;simp at ae;subst ae;exact .aF _ _ _ _ _ _ tL ak hm aD
theorem kX{I:a8}{xs ys:List aa}{cs:List Value}{a n m:Nat}(ab:bZ I w xs ((cs.drop a).take n))(ae:bZ I w ys ((cs.drop (a+n)).take m)):bZ I w (xs++ys) ((cs.drop a).take (n+m)):=by
 rw[List.take_add,List.drop_drop];exact ab.append ae
theorem ND{I:a8}{xs:List aa}{v:Value}(h:bZ I w xs v.cells.toList)(hn:xs.length≠1):Rel I w (.agg xs) v:=by
 have ax:=h.length;cases v with
 | agg vs=>exact .agg _ _ h
 | _=>simp[Value.cells] at ax;omega
end
theorem NF{H:Type}{enc:TypeId×Value->H}{P:Program}(ax:laidOutB P=true){W rI:World}(aw:Below W.heap.size W rI){sp:Nat->Bool}:
  ∀{iI:List TypeId} {vs:List Value} {ds:List (DataW H)} {bH:List MemPlace},(∀t∈iI,P.readableRec t=true/\t<P.types.size)->DataW.TrodAll enc P W 0 (λ_=>true) true iI vs ds bH->
   (∀p∈bH,p.block<W.heap.size)->(∀p∈bH,sp p.block=true)->DataW.TrodAll enc P rI 0 sp true iI vs ds bH
 | [],vs,ds,bH,_,h,_,_=>by
  obtain⟨rfl,rfl,rfl⟩:=trodAll_nil h;exact h
 | t::iI,vs,ds,bH,ht,h,ab,ae=>by
  obtain⟨v,aj7,d,aj8,a,b,rfl,rfl,rfl,aD,aV⟩:=trodAll_cons h;have aK:=ht t (.head _);exact⟨a,b,Go.WideElems.Trod_stays ax aK.1 aK.2 aD (λp aB=>aw.same (ab p (List.mem_append_left _ aB))) (λp aB=>ae p (List.mem_append_left _ aB)),
   NF ax aw (λdR Am=>ht dR (.tail _ Am)) aV (λp aB=>ab p (List.mem_append_right _ aB)) (λp aB=>ae p (List.mem_append_right _ aB)),rfl⟩
structure kb{H:Type}(bx:DataW H->Nat):Prop where
 len:∀es sp,es.length<=bx (.slice es sp)
 el:∀es sp,∀e∈es,bx e<=bx (.slice es sp)
 bV:∀bH,∀e∈bH,bx e<=bx (.agg bH)
section
variable{H:Type}{enc:TypeId×Value->H}{P:Program}{w:World}{base:Nat}{spare:Nat->Bool}{held:Bool}
def jC(enc:TypeId×Value->H)(P:Program)(w:World)(base:Nat)(spare:Nat->Bool)(held:Bool)(bx:DataW H->Nat)(n:Nat)(t:TypeId){α:Type}(e:α->List aa)(Q:α->Nat->Prop):Prop:=
 ∀fuel,fuel<=n->∀cs x,DataW.trod enc P w base spare held fuel t cs=some x->∃y:α,bZ (allI w) w (e y) cs/\Q y (bx x.1)
theorem Reads.b{bx:DataW H->Nat}{n:Nat}{t:TypeId}{α:Type}{e:α->List aa}(h:Reads enc P w base spare held n t e):jC enc P w base spare held bx n t e (λ_ _=>True):=λf aP cs x ag=>
 let ⟨y,hy⟩:=h f aP cs x ag;⟨y,hy,trivial⟩
theorem jC.le{bx:DataW H->Nat}{n m:Nat}{t:TypeId}{α:Type}{e:α->List aa}{Q:α->Nat->Prop}(h:jC enc P w base spare held bx n t e Q)(hm:m<=n):jC enc P w base spare held bx m t e Q:=λf aP=>h f (Nat.le_trans aP hm)
theorem vN{bx:DataW H->Nat}(bE:kb bx){n k:Nat}{t e:TypeId}{α:Type}{cv:α->List aa}{Q:α->Nat->Prop}(vm:∀y a b,a<=b->Q y a->Q y b)(ht:P.underlying t=some (.slice e))(ao:P.cellsOf e=k)(jw:0<k)(lD:∀y,(cv y).length=k)(he:jC enc P w base spare held bx n e cv Q):
  jC enc P w base spare held bx (n+1) t (λl:List α=>[aa.aF k (l.map cv)]) (λl b=>l.length<=b/\∀y∈l,Q y b):=λfuel aP cs x h=>by
 rcases DataW.trod_slice ht h with⟨rfl,_⟩ | ⟨a,len,cap,elems,rest,m,rfl,rfl,rfl,aw,ak,hm,ax,iv,_⟩
 ·exact⟨[],.cons _ _ _ _ (.eP _ _ _) .nil,Nat.zero_le _,λy hy=>by cases hy⟩
 ·have key:∀j,j<=len->∃l:List α,l.length=j/\(j=0\/a.spot=none)/\fX (allI w) w k a.block a.off (l.map cv)/\∀y∈l,Q y (bx (.slice (elems.map (·.1)) (rest.map (·.1)))):=by
   intro j
   induction j with
   | zero=>intro _;exact⟨[],rfl,.inl rfl,.nil _ _ _,λy hy=>by cases hy⟩
   | succ j bm=>
    intro aU;obtain⟨l,ab,ae,aD,bd⟩:=bm ad;have al:=iv j ad;rw[List.getElem?_eq_getElem ad] at al;obtain⟨tQ,aV,bl⟩:=Option.bind_eq_some_iff.1 al;obtain⟨cP,di,eW⟩:=World.cells?_some aV;obtain⟨y,hy,Xb⟩:=he m ad tQ _ bl;have hlen:tQ.length=k:=by rw[di,ao]
    have vM:a.spot=none:=by
     by_cases Hi:j=0
     ·have cQ:=eW 0 ad;rw[List.getElem?_eq_getElem ad,Hi,Nat.zero_mul] at cQ;have cN:(a.add 0).add 0=a:=by simp[Addr.add]
      rw[cN] at cQ;cases aH:a.spot with
      | none=>rfl
      | some q=>
       exfalso;unfold World.cell? at cQ;rw[aH] at cQ;split at cQ <;> simp at cQ
     ·exact ae.resolve_left ad
    refine⟨l++[y],tL,.inr vM,?_,λz an=>?_⟩
    rotate_left
    ·rcases List.mem_append.1 an with an | an
     ·exact bd z an
     ·simp at an;subst an;exact vm _ _ _ (bE.el _ _ _ (List.mem_map.2 ⟨_,List.getElem_mem _,rfl⟩)) Xb
    rw[List.map_append];have dp:Cells (allI w) w a.block (a.off+j*k) (cv y):=Hh hy λi av=>by
     have cQ:=eW i ad;have aW:(a.add (j*P.cellsOf e)).add i=⟨a.block,a.off+j*k+i,none⟩:=by
      rw[Addr.add_add,ao];unfold Addr.add;split
      ·obtain⟨fO,W9,Xa⟩:=a;simp at vM;subst vM;simp;omega
      ·simp <;> omega
     rw[aW] at cQ;exact cQ
    exact aD.append (.cons _ _ _ _ _ (lD y) (by rw[List.length_map,ab];exact dp) (.nil _ _ _))
  obtain⟨l,ab,ae,aD,bd⟩:=key len (Nat.le_refl _);refine⟨l,.cons _ _ _ _ ?_ .nil,by have cQ:=bE.len (elems.map (·.1)) (rest.map (·.1));rw[List.length_map] at cQ;exact Nat.le_trans ad cQ,bd⟩;rcases ae with ae | ae
  ·have:l= []:=List.eq_nil_of_length_eq_zero ad;subst this ae;exact .eP _ _ _
  ·obtain⟨b,o,sp⟩:=a;simp at ae;subst ae;exact .aF _ _ _ _ _ _ tL ak hm aD
end
theorem hq.perm{H H':List aj}{e:aj}(h:hq H e H'):H.Perm (e::H'):=by
 induction h with
 | head=>exact .refl _
 | tail f e H H' _ bm=>exact (bm.cons f).trans (.swap _ _ _)
theorem br.sV{B:Nat}{I:a8}{w:World}{H H':List aj}{e e':aj}(h:br B I w H)(hu:bu H e e' H')(cA:e.ok B I w->e'.ok B I w)(zx:∀b,e'.eX=some b->e.eX=some b):br B I w H':=
 h.gH hu ⟨λ_ _ x=>x,λ_ _ _=>rfl⟩ (λ_ _ _=>rfl) (λ_ _ x=>.inl x) (cA (h.ok _ hu.mem)) (λb aw=>.inl (zx b aw))
theorem aj.vO{B:Nat}{I:a8}{w:World}{t k n:Nat}{v:Value}{cs:List aa}(hn:n≠0)(h:aj.ok B I w (.row t k v n cs)):
  ∃b cap more,v= .slice (some ⟨b,0,none⟩) n cap/\n<=cap/\cap<=maxLen/\(cs++more).length=cap*k/\cs.length=n*k/\aj.ok B I w (.aI b t (cs++more)):=by
 obtain⟨xs,fx,aK,cu⟩:=h;rcases fx.2 with⟨rfl,ai⟩ | ⟨g,cap,cur,rfl,hBg,al,kT,im,j6,j7⟩
 ·exact absurd ai hn
 ·have hlen:=aK.length;have ag:=fx.1;have hle:n*k<=cur.size:=by rw[j6];exact Nat.mul_le_mul_right k kT
  refine⟨g,cap,(cur.toList.drop (n*k)).map .val,rfl,kT,im,?_,ad,hBg,cur,al,?_,λo=>cu g rfl o⟩
  ·have an:cs.length=n*k:=by omega
   have hy:cur.toList.length=cap*k:=j6;rw[List.length_append,List.length_map,List.length_drop,an,hy,Nat.add_sub_cancel' (j6▸hle)]
  ·have ae:=aK.append (l1 (I:=I) (w:=w) (cur.toList.drop (n*k)));rw[<-j7] at ae;rwa [List.take_append_drop] at ae
theorem aj.NG{B:Nat}{I:a8}{w:World}{t k n b cap:Nat}{cs more:List aa}(ab:n<=cap)(ae:cap<=maxLen)(aD:(cs++more).length=cap*k)(aV:cs.length=n*k)(h:aj.ok B I w (.aI b t (cs++more))):
  aj.ok B I w (.row t k (.slice (some ⟨b,0,none⟩) n cap) n cs):=by
 obtain⟨bE,vs,aw,aK,cu⟩:=h;have ax:=aK.length;rw[Array.length_toList] at ax;obtain⟨as,bY,e,aS,ee⟩:=aK.sS;have bN:=aS.length;refine⟨as,⟨ad,.inr ⟨b,cap,vs,rfl,bE,aw,ab,ae,ad,?_⟩⟩,aS,λg al o=>by simp[Value.ownBlock] at al;subst al;exact cu o⟩;rw[e, <-aV, <-bN,List.take_left]
theorem aj.Xc{B:Nat}{I:a8}{w:World}{t k cJ:Nat}{v:Value}(aC:Rel I w (.aF cJ []) v)(h:aj.ok B I w (.own t k v)):aj.ok B I w (.row t k v 0 []):=by
 obtain⟨n,xs,fx,cu⟩:=h;have hn:n=0:=by
  rcases fx.2 with⟨rfl,ai⟩ | ⟨g,cap,cur,rfl,_⟩
  ·exact ai
  ·cases aC with
   | eP=>rfl
   | aF _ _ b off len cap ax=>exact ax.symm
 subst hn;have ag:xs= []:=List.eq_nil_of_length_eq_zero (by have:=fx.1;omega);subst ag;exact⟨[],fx,.nil,λg al o=>cu g al o ad⟩
section
variable{c:Ctx}{r:Option Nat}{P:Program}{ops:Array Oper}{l rest:List Oper}{o:Oper}{env:List (Nat×aa)}{H:List aj}{Q:Exit->Act->World->Prop}{d:Nat}
theorem au.NH{t k cJ:Nat}{v:Value}{H':List aj}(aN:aX env d=some (.as (.aF cJ []) v))(hu:bu H (.own t k v) (.row t k v 0 []) H')(h:au c r P ops l ⟨(d,.val v)::env,H'⟩ Q):au c r P ops l ⟨env,H⟩ Q:=λa w s=>by
 obtain⟨I,hw,he,az,aC⟩:=s.mem;have ai:=aC d _ aN;have ab:Rel I w (.aF cJ []) v:=by
  generalize a.tmps.getD d undef=u at ai;cases ai with | as _ _ ag=>exact ag
 have ae:a.tmps.getD d undef=v:=by
  generalize a.tmps.getD d undef=u at ai;cases ai;rfl
 exact h a w ⟨s.ds,s.size,I,hw,he,az.sV hu (aj.Xc ab) (λ_ x=>x),λt x ag=>by
  rw[l0] at ag;split at ag
  ·rename_i e;cases ag;subst e;rw[ae];exact .val _
  ·exact aC t x ag⟩
theorem aq.x7{p:Code}{t k n:Nat}{v:Value}{cs:List aa}{H':Nat->Nat->List aa->List aj}(hn:n≠0)(hu:∀b cap more,bu H (.row t k v n cs) (.aI b t (cs++more)) (H' b cap more))
  (h:∀b cap more,v= .slice (some ⟨b,0,none⟩) n cap->n<=cap->cap<=maxLen->(cs++more).length=cap*k->cs.length=n*k->aq c r P p ⟨env,H' b cap more⟩ Q):aq c r P p ⟨env,H⟩ Q:=λa w s=>by
 obtain⟨I,hw,he,az,aC⟩:=s.mem;obtain⟨b,cap,more,a6,aW,cN,gO,mv,Hj⟩:=aj.vO hn (az.ok _ (hu 0 0 []).mem);refine h b cap more a6 aW cN gO mv a w ⟨s.ds,s.size,I,hw,he,az.sV (hu b cap more) (λ_=>Hj) (λx ag=>?_),aC⟩;subst a6;exact ag
theorem Sat.qN{t k:Nat}{v:Value}{els:List (List aa)}{H':List aj}{a:Act}{w:World}(s:Sat c ⟨env,H⟩ a w)(aN:aX env d=some (.val v))(fZ:hq H (.row t k v els.length els.flatten) H')(ao:∀e∈els,e.length=k):Sat c ⟨(d,.aF k els)::env,H'⟩ a w:=by
 obtain⟨I,hw,he,az,aC⟩:=s.mem;obtain⟨J,qP,nF,sW,qQ⟩:=br.qN hw (az.perm fZ.perm) ao;refine⟨s.ds,s.size,J,qP,he.trans nF,sW,λt x ag=>?_⟩;rw[l0] at ag;split at ag
 ·rename_i e;cases ag;subst e;rw[ct (aC _ _ aN)];exact qQ
 ·exact (aC t x ag).bQ nF.keeps
theorem aq.qN{p:Code}{t k:Nat}{v:Value}{els:List (List aa)}{H':List aj}(aN:aX env d=some (.val v))(fZ:hq H (.row t k v els.length els.flatten) H')(ao:∀e∈els,e.length=k)
  (h:aq c r P p ⟨(d,.aF k els)::env,H'⟩ Q):aq c r P p ⟨env,H⟩ Q:=λa w s=>h a w (s.qN aN fZ ao)
theorem aR.qN{ex:Exit}{t k:Nat}{v:Value}{els:List (List aa)}{H':List aj}(aN:aX env d=some (.val v))(fZ:hq H (.row t k v els.length els.flatten) H')(ao:∀e∈els,e.length=k)
  (h:aR c ⟨(d,.aF k els)::env,H'⟩ ex Q):aR c ⟨env,H⟩ ex Q:=λa w s=>h a w (s.qN aN fZ ao)
end
theorem af.Hk{P:Program}{H:List aj}{ρ:Nat->Option aa}{o:Oper}{x:Operand}{t e k cJ n:Nat}{v:Value}{cs:List aa}{g:Bool}[ht:ft P t cJ](h:o.op= .call {callee:=.builtin .len,args:=#[x],argTypes:=#[t]})(ag:bf ρ x=some (g,.val v))(al:g=true)(hm:aj.row e k v n cs∈H):af P H ρ o (.i n):=by
 refine .xO cB λB I w f b0 aA=>?_;have ab:=ct (aA.get ig ag al);obtain⟨xs,fx,_⟩:=b0 _ hm;rcases fx.2 with⟨rfl,rfl⟩ | ⟨b,cap,cur,rfl,_⟩
 ·exact⟨.int .i64 0,by simp[execOp,h,ab,resolve,invoke,builtin,vp t none 0 0 (xT ht.h) w],.val _⟩
 ·exact⟨.int .i64 n,by simp[execOp,h,ab,resolve,invoke,builtin,vp t (some ⟨b,0,none⟩) n cap (xT ht.h) w],.val _⟩
section
variable{P:Program}{c:Ctx}{r:Option Nat}{ops:Array Oper}{l rest:List Oper}{o:Oper}{st:dn}{Q:Exit->Act->World->Prop}{x:aa}
theorem Xd{B D:Nat}{cl:a8}{aO:World}{n:Nat}{fn:Func}{bw:aa->List aj->Prop}{E:aa->List aj->Prop}{env:List (Nat×aa)}{H H' nC:List aj}{y:aa}{a:Act}{w:World}{v:Value}
  (fZ:hq H (.obj D (.deferred (some []))) nC) (b0:H'.Sublist nC) (e5:E y H') (s:Sat ⟨B,cl,aO,n,[mark D]⟩ ⟨env,H⟩ a w) (hy:∀J w,Rel J w y v):bodyPostM (bb none) 0 P fn (fD B cl aO bw E) (.panic [{v:=v,recovered:=false}]) a w:=by
 obtain⟨I,hw,he,az,aC⟩:=s.mem;obtain⟨bE,aw,cu⟩:=az.ok _ fZ.mem;show LeavesInM _ _ _ _ _ _ a.defers _ _;rw[show a.defers= [mark D] from s.ds];have ao:fb I w I (w.putObj D (.deferred none)):=qJ (B:=B) cu;have cW:br B I (w.putObj D (.deferred none)) nC:=by
  refine (az.sub fZ.sub).bQ ao (λf aP b kR=>World.putObj_heap_other (λe=>?_)) (λ_ _ _ _ _ x=>x);subst e;exact fZ.apart az.apart f aP _ rfl kR
 exact⟨bj,.inl ⟨D,_,rfl,run_takeDeferred aw,I,H',hw.putObj cu,he.trans (Ext.putObj bE cu),cW.sub b0,.inr ⟨v,y,rfl,hy _ _,e5⟩⟩⟩
end
section
variable{P:Program}{c:Ctx}{r:Option Nat}{ops:Array Oper}{l rest:List Oper}{o:Oper}{env:List (Nat×aa)}{H:List aj}{Q:Exit->Act->World->Prop}{d:Nat}
structure aa.Const(y:aa)(v:Value):Prop where
 is:∀(I:a8) (w:World) (u:Value),Rel I w y u->u=v
 rel:∀(I:a8) (w:World),Rel I w y v
def o9(P:Program)(f:FuncId)(xs:List aa)(H:List aj)(o:Option (aa×List aj))(dK:List aj)(pv:aa):Prop:=
 b1 P f xs H (λy H'=>o=some (y,H')) (λy H'=>o=none/\y=pv/\H'=dK)
theorem o9.ok{f:FuncId}{xs:List aa}{H1 dK:List aj}{y pv:aa}(h:o9 P f xs H (some (y,H1)) dK pv):b1 P f xs H (λy' H'=>y'=y/\H'=H1) (λ_ _=>False):=
 b1.qz h (λ_ _ e=>by cases e;exact⟨rfl,rfl⟩) (λ_ _ ⟨e,_⟩=>by cases e)
theorem o9.of{f:FuncId}{xs:List aa}{H1 dK:List aj}{y pv:aa}(h:b1 P f xs H (λy' H'=>y'=y/\H'=H1) (λ_ _=>False)):o9 P f xs H (some (y,H1)) dK pv:=
 b1.qz h (λ_ _ ⟨e,e'⟩=>by rw[e,e']) (λ_ _ e=>e.elim)
theorem au.nG{f:FuncId}{xs:List aa}{H1 dK:List aj}{y pv:aa}(al:o.guard=none)(aN:o.dst=some d)(hn:Nat.blt d c.n=true)(ak:gZ P (aX env) o f xs)(h:o9 P f xs H (some (y,H1)) dK pv)
  (next:au c r P ops rest ⟨(d,y)::env,H1⟩ Q):au c r P ops (o::rest) ⟨env,H⟩ Q:=
 au.GP al aN hn ak h.ok.b (λ_ _ ⟨e,e'⟩=>by subst e;subst e';exact next)
theorem au.m7{f:FuncId}{xs:List aa}{dK:List aj}{pv:aa}{v:Value}(al:o.guard=none)(aN:jt c.n o.dst=true)(ak:gZ P (aX env) o f xs)(h:o9 P f xs H none dK pv)(aC:pv.Const v)
  (next:aR c ⟨env,dK⟩ (.panic [{v:=v,recovered:=false}]) Q):au c r P ops (o::rest) ⟨env,H⟩ Q:=
 au.qI al aN ak h.b (λ_ _ e=>by cases e) (λy H' ⟨_,a6,aW⟩ a w s I u hu=>by
  subst a6;subst aW;rw[aC.is I w u hu];exact next a w s)
theorem au.Xe{x:Operand}{y:aa}{g:Bool}{t:TypeId}{v:Value}(cU:o.guard=none)(h:o.op= .panic x)(ag:bf (aX env) x=some (g,y))(al:g=true)(hy:y.Const (.iface t v))
  (next:aR c ⟨env,H⟩ (.panic [{v:=.iface t v,recovered:=false}]) Q):au c r P ops (o::rest) ⟨env,H⟩ Q:=au.Nx cU h ag al hy.is next
theorem lG{B:Nat}{cl:a8}{aO:World}{n:Nat}{fn:Func}{bw:aa->List aj->Prop}{E:aa->List aj->Prop}{dK:List aj}{y:aa}{v:Value}(hy:y.Const v)(b0:dK.Sublist H)(e5:E y dK):
  ∀a w,Sat ⟨B,cl,aO,n,[]⟩ ⟨env,H⟩ a w->bodyPost P fn (fD B cl aO bw E) (.panic [{v:=v,recovered:=false}]) a w:=
 λa w s=>let ⟨J,hw,he,az,_⟩:=s.mem;⟨s.ds,J,dK,hw,he,az.sub b0,.inr ⟨v,y,rfl,hy.rel _ _,e5⟩⟩
theorem Xf{B D:Nat}{cl:a8}{aO:World}{n:Nat}{fn:Func}{bw:aa->List aj->Prop}{E:aa->List aj->Prop}{dK nC:List aj}{y:aa}{v:Value}(hy:y.Const v)(fZ:hq H (.obj D (.deferred (some []))) nC)(b0:dK.Sublist nC)(e5:E y dK):
  ∀a w,Sat ⟨B,cl,aO,n,[mark D]⟩ ⟨env,H⟩ a w->bodyPostM (bb none) 0 P fn (fD B cl aO bw E) (.panic [{v:=v,recovered:=false}]) a w:=
 λa w s=>Xd fZ b0 e5 s hy.rel
end
end Go.Eng

