/- Part 25 of the proof: contracts of functions of the program and what they need. No condition beyond those that each theorem names. -/
import Derived.Test.YtodccgailpkgeaaGreatKindLeastP24
set_option maxHeartbeats 1000000
set_option linter.unusedVariables false
set_option linter.unusedSimpArgs false
set_option maxRecDepth 10000
namespace Go.Proofs.YtodccgailpkgeaaGreat
open Go.Eng
open Go.Eng.Fc
open Go.Eng.ei
variable{α:Type}
theorem et.L4{X:jP}{P:Program}{H:List aj}{ρ:Nat->Option aa}{o:Oper}{t e k dA:Nat}{H':Value->List aj}{x:Value->aa}[cy:hv P t (e,k,dA)](h:o.op= .buildSlice t 0 #[])(b0:∀v,H' v= .own e k v::H)(ag:∀v,x v= .as (.aF k []) v):et X P H H' x ρ o:=λB I w r a hw az aA=>by
 obtain⟨i,z,hu,av,an,ao,lx,jv,jw⟩:=qB cy.h;have dW:(Instr.buildSlice t 0 #[]).run P w= .ok (.slice (some ⟨w.heap.size,0,none⟩) 0 0) (w.alloc (.cells #[] e)):=by
  simp[Instr.buildSlice,run_underlying hu,sizeOf,typeInfo,av,Instr.fill,newRow,show Array.range 0= #[] from by decide+kernel]
 have ab:=az.alloc hw (.cells #[] e);have fx:(w.alloc (.cells #[] e)).ownsRow B e k (.slice (some ⟨w.heap.size,0,none⟩) 0 0) 0 []:=⟨bj,.inr ⟨w.heap.size,0,#[],rfl,hw.base,heap_alloc_new w _,Nat.le_refl _,by simp[maxLen],bj,bj⟩⟩;refine cM.fN cB (v:=.slice (some ⟨w.heap.size,0,none⟩) 0 0) (w':=w.alloc (.cells #[] e)) xJ ⟨I,hw.alloc _,kN hw _,?_,?_⟩
 ·rw[b0];refine⟨λf aP=>?_,List.pairwise_cons.2 ⟨λf aP b aw e=>?_,ab.apart⟩⟩
  ·rcases List.mem_cons.1 aP with rfl | aP
   ·refine⟨0,[],fx,λg al o _ aA=>?_⟩;simp[Value.ownBlock] at al;subst al;exact absurd (hw.lt aA) (Nat.lt_irrefl _)
   ·exact ab.ok f aP
  ·simp[aj.eX,Value.ownBlock] at aw;subst aw;exact absurd (aj.nu (az.ok f aP) e).2 (Nat.lt_irrefl _)
 ·rw[ag];exact .as _ _ (.eP _ _ _)
section
variable{p:Prog}{ah:Nat->Nat->Bool}{y:ew}{n:Nat}{env:List Int}{m:Int}{bc:List Int}{g:GT}
end
theorem Cd.at{p:Prog}{q:fa}(h:Cd p q)(b:Nat):Cd p {q with b3:=b}:=⟨h.an,h.qq,h.uX,h.sa,h.yW,h.BU,h.n3,h.rh⟩
theorem aiI(i:Nat):aa.ints ((List.range (i+1)).map λn:Nat=>(n:Int))= .aF 1 (((List.range i).map λn:Nat=>(n:Int)).map (λn=>[aa.i n])++[[.i (i:Int)]]):=by
 show aa.aF 1 (List.map _ _)=_;rw[List.range_succ,List.map_append,List.map_append];rfl
def aiJ(p:Prog)(m n:Nat):Bool:=(dz p m).gen==(dz p n).gen && (dz p m).kind==(dz p n).kind
theorem alO{p:Prog}(an:(bK p).isSome=true):ba Tryz.prog 75 [aa.prog p] (aa.ints ((List.range p.methods.length).map λn:Nat=>(n:Int))):=by
 intro H;refine bh (n:=17) Tryz.func75 λB I aO=>?_;have en:=oF an;refine kC ?_;refine aq.iq 3 3 1 rfl ?_;refine cq (λz st=>∃(i:Nat) (v:Value),st=⟨[(4,.i i),(3,.as (aa.ints ((List.range i).map λn:Nat=>(n:Int))) v),(1,.ptr (dF p))],.own 3 1 v::H⟩/\z=p.methods.length - i/\i<=p.methods.length) (⟨0,_,rfl,rfl,ad⟩) ?_;rintro z _ ⟨i,v,rfl,rfl,av⟩;refine c6 ?_;refine aZ (λai=>?_) λai=>?_
 ·have a1:i<p.methods.length:=by omega
  refine bn ?_;refine au.bB (x:=.aF 1 [[.i (i:Int)]]) rfl rfl rfl (af.row rfl rfl c4 rfl rfl rfl rfl rfl rfl) ?_;refine au.gu rfl rfl rfl rfl rfl rfl rfl rfl (aL.refl _) (rfl) (λv=>by repeat (first | exact bu.head _ _ _ | apply bu.tail)) dj dj (λaiK=>?_);refine bS ?_;exact bV (⟨i+1,aiK,by rw[aiI],rfl,a1⟩)
 ·obtain rfl:i=p.methods.length:=by omega
  refine cT ?_;refine aR.c5 (rs:=[.tmp 2]) (H':=H) rfl (.tmp rfl (.nil)) (.cons (aL.hb _ _) .nil) b8 ?_;exact⟨dJ,rfl⟩
theorem Lq[Inhabited α][DecidableEq α]{a b:List α}{i:Nat}(h:a.getD i default≠b.getD i default):decide (a=b)=false:=by
 rw[decide_eq_false_iff_not];intro e;rw[e] at h;exact h rfl
theorem Lr[DecidableEq α]{a b:List α}(h:a.length≠b.length):decide (a=b)=false:=by
 rw[decide_eq_false_iff_not];intro e;rw[e] at h;exact h rfl
theorem Ls[Inhabited α]{a b:List α}{i:Nat}(h:i<a.length)(ax:a.length=b.length)(ht:a.take i=b.take i)(he:a.getD i default=b.getD i default):a.take (i+1)=b.take (i+1):=by
 rw[<-eE h, <-eE (by omega:i<b.length),ht,he]
theorem Lt[DecidableEq α]{a b:List α}(ax:a.length=b.length)(ht:a.take a.length=b.take a.length):decide (a=b)=true:=by
 rw[List.take_length] at ht;rw[ax,List.take_length] at ht;exact decide_eq_true ht
theorem U6(a b:List Bool):ba Tryz.prog 13 [aa.da a,aa.da b] (.b (decide (a=b))):=by
 intro H;refine bh (n:=26) Tryz.func13 λB I aO=>?_;refine aq.fi (t:=0) rfl (λhg=>?_);refine bS ?_;refine aG (af.sm rfl rfl rfl) ?_;refine bt ?_;refine aG (af.sm rfl rfl rfl) ?_;refine bg ?_;refine aZ (λai=>?_) λai=>?_
 ·have bq:a.length≠b.length:=by omega
  refine bn ?_;refine aS 4 (H) ?_;exact⟨bR (Lr bq).symm,rfl⟩
 ·have ax:a.length=b.length:=by omega
  refine bS ?_;refine cq (λz st=>∃i:Nat,st=⟨[(5,.i i),(0,aa.da a),(1,aa.da b)],H⟩/\z=a.length - i/\i<=a.length/\a.take i=b.take i) (⟨0,rfl,rfl,ad,rfl⟩) ?_;rintro z _ ⟨i,rfl,rfl,av,ht⟩;refine bS ?_;refine aZ (λab=>?_) λab=>?_
  ·have a1:i<a.length:=by omega
   refine bz ?_;refine aq.bL mixed ?_;refine bk.b7 0 8 26 rfl ay rfl rfl ay ?_;refine ev ?_;refine aq.cond rfl (λae=>?_) (λae=>?_)
   ·have hy:a.getD i default≠b.getD i default:=by simpa using ae
    refine cw ?_;refine aS 4 (H) ?_;exact⟨bR (Lq hy).symm,rfl⟩
   ·have hy:a.getD i default=b.getD i default:=by simpa using ae
    refine bs ?_;exact bV (⟨i+1,rfl,rfl,a1,Ls a1 ax ht hy⟩)
  ·obtain rfl:i=a.length:=by omega
   refine cw ?_;refine aS 4 (H) ?_;exact⟨bR (Lt ax ht).symm,rfl⟩
theorem FJ(a b:List Int):ba Tryz.prog 29 [aa.ints a,aa.ints b] (.b (decide (a=b))):=by
 intro H;refine bh (n:=26) Tryz.func29 λB I aO=>?_;refine aq.fi (t:=0) rfl (λhg=>?_);refine bS ?_;refine aG (af.sm rfl rfl rfl) ?_;refine bt ?_;refine aG (af.sm rfl rfl rfl) ?_;refine bg ?_;refine aZ (λai=>?_) λai=>?_
 ·have bq:a.length≠b.length:=by omega
  refine bn ?_;refine aS 4 (H) ?_;exact⟨bR (Lr bq).symm,rfl⟩
 ·have ax:a.length=b.length:=by omega
  refine cw ?_;refine cq (λz st=>∃i:Nat,st=⟨[(13,.i i),(12,.i a.length),(11,aa.ints a),(0,aa.ints a),(1,aa.ints b)],H⟩/\z=a.length - i/\i<=a.length/\a.take i=b.take i) (⟨0,rfl,rfl,ad,rfl⟩) ?_;rintro z _ ⟨i,rfl,rfl,av,ht⟩;refine aT ?_;refine aZ (λab=>?_) λab=>?_
  ·have a1:i<a.length:=by omega
   refine cw ?_;refine aq.bL mixed ?_;refine bk.b7 0 8 26 rfl ay rfl rfl ay ?_;refine ev ?_;refine aq.cond rfl (λae=>?_) (λae=>?_)
   ·have hy:a.getD i default≠b.getD i default:=by simpa using ae
    refine cw ?_;refine aS 4 (H) ?_;exact⟨bR (Lq hy).symm,rfl⟩
   ·have hy:a.getD i default=b.getD i default:=by simpa using ae
    refine bn ?_;exact bV (⟨i+1,rfl,rfl,a1,Ls a1 ax ht hy⟩)
  ·obtain rfl:i=a.length:=by omega
   refine cw ?_;refine aS 4 (H) ?_;exact⟨bR (Lt ax ht).symm,rfl⟩
theorem U7(a b:List (List Int)):ba Tryz.prog 30 [aa.bD a,aa.bD b] (.b (decide (a=b))):=by
 intro H;refine bh (n:=27) Tryz.func30 λB I aO=>?_;refine aq.fi (t:=0) rfl (λhg=>?_);refine bS ?_;refine aG (af.sm rfl rfl rfl) ?_;refine bt ?_;refine aG (af.sm rfl rfl rfl) ?_;refine bg ?_;refine aZ (λai=>?_) λai=>?_
 ·have bq:a.length≠b.length:=by omega
  refine bn ?_;refine aS 4 (H) ?_;exact⟨bR (Lr bq).symm,rfl⟩
 ·have ax:a.length=b.length:=by omega
  refine bS ?_;refine cq (λz st=>∃i:Nat,st=⟨[(5,.i i),(0,aa.bD a),(1,aa.bD b)],H⟩/\z=a.length - i/\i<=a.length/\a.take i=b.take i) (⟨0,rfl,rfl,ad,rfl⟩) ?_;rintro z _ ⟨i,rfl,rfl,av,ht⟩;refine bS ?_;refine aZ (λab=>?_) λab=>?_
  ·have a1:i<a.length:=by omega
   refine bz ?_;refine aq.bL mixed ?_;refine bk.b7 0 8 27 rfl ay rfl rfl ay ?_;refine c6 ?_;refine aG (af.call .k (FJ _ _)) ?_;refine bg ?_;refine aq.cond rfl (λae=>?_) (λae=>?_)
   ·have hy:a.getD i default≠b.getD i default:=by simpa using ae
    refine cw ?_;refine aS 4 (H) ?_;exact⟨bR (Lq hy).symm,rfl⟩
   ·have hy:a.getD i default=b.getD i default:=by simpa using ae
    refine bs ?_;exact bV (⟨i+1,rfl,rfl,a1,Ls a1 ax ht hy⟩)
  ·obtain rfl:i=a.length:=by omega
   refine cw ?_;refine aS 4 (H) ?_;exact⟨bR (Lt ax ht).symm,rfl⟩
def FK(a b:bG):Bool:=decide (a.bP=b.bP) && decide (a.params=b.params) && decide (a.nodes=b.nodes) && decide (a.aJ=b.aJ)
theorem aiL{a b:bG}:FK a b=true↔a=b:=by
 cases a;cases b;simp[FK,and_assoc]
theorem aiM(a b:bG):ba Tryz.prog 16 [aa.ef a,aa.ef b] (.b (FK a b)):=by
 intro H;refine bh (n:=31) Tryz.func16 λB I aO=>?_;refine ev ?_;refine aG (af.call .k (U6 _ _)) ?_;refine bz ?_;refine au.cb rfl rfl rfl rfl rfl rfl (λal=>af.call (.mk' rfl rfl rfl rfl dv) (U7 _ _)) ?_;refine aT ?_;refine au.cb rfl rfl rfl rfl rfl rfl (λal=>af.call (.mk' rfl rfl rfl rfl dv) (FJ _ _)) ?_;refine aT ?_;refine au.cb rfl rfl rfl rfl rfl rfl (λal=>af.call (.mk' rfl rfl rfl rfl dv) (FJ _ _)) ?_;refine bz ?_;refine aS 4 (H) ?_;exact⟨bR (by unfold FK;cases decide (a.bP=b.bP) <;> cases decide (a.params=b.params) <;> cases decide (a.nodes=b.nodes) <;> rfl),rfl⟩
end Go.Proofs.YtodccgailpkgeaaGreat

