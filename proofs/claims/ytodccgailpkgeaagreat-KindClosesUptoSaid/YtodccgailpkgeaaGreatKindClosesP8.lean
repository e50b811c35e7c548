/- A part of the proof. No condition. -/
import Derived.Test.YtodccgailpkgeaaGreatKindClosesP7
set_option linter.defProp false
set_option maxHeartbeats 1000000
set_option linter.unusedVariables false
namespace Go.Eng
section
variable{c:Ctx}{r:Option Nat}{P:Program}{ops:Array Oper}{l L:cg}{st:dT}{env:List (Nat×ab)}{H:aC}{Q:Exit->Act->World->Prop}{n k:Nat}{K:List (Nat×ab)->Prop}
def XH(h:ai c r P ops l st Q):ai c r P ops l st Q:=h
def XI(h:ed P H L n l env K):ed P H L n l env K:=h
def XJ(h:bW c r P l Q k st):bW c r P l Q k st:=h
end
def XK:Op->Nat
 | .move .. =>0
 | .assign .. =>0
 | .fieldAddr .. =>1
 | .load .. =>1
 | .binOp .. =>2
 | .call .. =>3
 | .indexAddr .. =>4
 | .extract .. =>5
 | .unOp .. =>6
 | .pick .. =>7
 | .nilCheck .. =>8
 | .box .. =>9
 | .buildSlice .. =>10
 | .build .. =>11
 | .makeFunc .. =>12
 | _=>99
def ic(n:Nat){P:Program}{H:aC}{ρ:Nat->Option ab}{o:Oper}{x:ab}(_:XK o.op=n)(h:ad P H ρ o x):ad P H ρ o x:=h
def Nb{p:Prop}(h:p:=by
  first
   | exact ic 0 fl (by first | exact ad.move rfl rfl rfl | exact ad.assign rfl rfl rfl)
   | exact ic 1 fl (by first | exact ad.EO rfl rfl rfl rfl | exact ad.EP rfl rfl rfl rfl | exact ad.cE rfl rfl rfl rfl | exact ad.iv rfl rfl rfl (hm:=uj) (hy:=by exact rfl) | exact ad.qv rfl rfl rfl rfl | exact ad.Bg rfl rfl rfl (hm:=uj) (hy:=by exact rfl) (hn:=by exact rfl))
   | exact ic 2 fl (by first | exact ad.cmp rfl rfl rfl rfl rfl rfl | exact ad.arith rfl rfl rfl rfl rfl rfl (wrap64 aa) | exact ad.LP (op:=.eql) rfl rfl rfl rfl rfl | exact ad.LQ (op:=.eql) rfl rfl rfl rfl rfl)
   | exact ic 3 fl Bn
   | exact ic 4 fl (by first | exact ad.fC rfl rfl rfl rfl rfl s8 | exact ad.ep rfl rfl rfl rfl rfl s8 | exact ad.Bw rfl rfl rfl rfl rfl s8 | exact ad.Bx rfl rfl rfl rfl rfl s8)
   | exact ic 5 fl (by first | exact ad.extract rfl rfl rfl rfl)
   | exact ic 6 fl (by first | exact ad.not rfl rfl rfl)
   | exact ic 7 fl (by first | exact ad.pick rfl rfl rfl rfl rfl Bt Bt)
   | exact ic 8 fl fU
   | exact ic 9 fl (by first | exact ad.BX rfl rfl rfl rfl)
   | exact ic 10 fl Lb
   | exact ic 11 fl (by first | exact ad.BZ rfl rfl cD rfl)
   | exact ic 12 fl K9):p:=h
def Nc{G p:Prop}(av:G)(h:G->p:=by
  intro av
  first
   | exact ic 0 fl (by first | exact ad.move rfl rfl (cf av) | exact ad.assign rfl rfl (cf av))
   | exact ic 1 fl (by first | exact ad.EO rfl rfl (cf av) rfl | exact ad.EP rfl rfl (cf av) rfl | exact ad.cE rfl rfl (cf av) rfl | exact ad.iv rfl rfl (cf av) (hm:=uj) (hy:=by exact rfl) | exact ad.qv rfl rfl (cf av) rfl | exact ad.Bg rfl rfl (cf av) (hm:=uj) (hy:=by exact rfl) (hn:=by exact rfl))
   | exact ic 2 fl (by first | exact ad.cmp rfl rfl rfl (cf av) (cf av) rfl | exact ad.arith rfl rfl rfl (cf av) (cf av) rfl (wrap64 aa) | exact ad.LP (op:=.eql) rfl rfl (cf av) rfl (cf av) | exact ad.LQ (op:=.eql) rfl rfl (cf av) rfl (cf av))
   | exact ic 3 fl (by first | exact ad.qy rfl rfl (cf av) | exact ad.KL rfl rfl (cf av) | exact ad.Bo rfl rfl (cf av) | exact ad.KM rfl rfl (cf av))
   | exact ic 4 fl (by first | exact ad.fC rfl rfl (cf av) rfl (cf av) s8 | exact ad.ep rfl rfl (cf av) rfl (cf av) s8 | exact ad.Bw rfl rfl (cf av) rfl (cf av) s8 | exact ad.Bx rfl rfl (cf av) rfl (cf av) s8)
   | exact ic 5 fl (by first | exact ad.extract rfl rfl (cf av) rfl)
   | exact ic 6 fl (by first | exact ad.not rfl rfl (cf av))
   | exact ic 7 fl (by first | exact ad.pick rfl rfl (cf av) rfl rfl Bt Bt)
   | exact ic 8 fl (by first | exact ad.nilCheck rfl rfl (cf av) | exact ad.KI rfl rfl (cf av) | exact ad.KJ rfl rfl (cf av))
   | exact ic 9 fl (by first | exact ad.BX rfl rfl (cf av) rfl)
   | exact ic 10 fl Lb
   | exact ic 11 fl (by first | exact ad.BZ rfl rfl cD rfl)
   | exact ic 12 fl K9):p:=h av
def aR{goal next:Prop}(k:next)(h:Hid next->goal:=by
  intro k
  first
   | ((with_reducible refine XH ?_);first | refine Xn ?_ | refine ai.cc rfl rfl rfl Nb ?_ | refine ai.cG rfl rfl rfl rfl rfl rfl (λav=>Nc av) ?_ | (with_reducible refine ai.nil ?_))
   | ((with_reducible refine XI ?_);first | refine ed.cc rfl rfl rfl Nb ?_ | refine ed.cG rfl rfl rfl rfl rfl (λav=>Nc av) ?_ | refine ed.nil ?_)
   | ((with_reducible refine XJ ?_);first | refine bW.V4 _ ao rfl ?_ | refine bW.one ao rfl ?_)
   | with_reducible refine aZ.cu ?_
   | refine og ?_
  exact k.out):goal:=h ⟨k⟩
def aQ{goal next:Prop}(k:next)(h:Hid next->goal:=by
  intro k
  iterate 2 refine aR ?_
  exact k.out):goal:=h ⟨k⟩
def aH{goal next:Prop}(k:next)(h:Hid next->goal:=by
  intro k
  iterate 3 refine aR ?_
  exact k.out):goal:=h ⟨k⟩
def aV{goal next:Prop}(k:next)(h:Hid next->goal:=by
  intro k
  iterate 4 refine aR ?_
  exact k.out):goal:=h ⟨k⟩
def aS{goal next:Prop}(k:next)(h:Hid next->goal:=by
  intro k
  iterate 5 refine aR ?_
  exact k.out):goal:=h ⟨k⟩
def ay{goal next:Prop}(k:next)(h:Hid next->goal:=by
  intro k
  iterate 6 refine aR ?_
  exact k.out):goal:=h ⟨k⟩
def aP{goal next:Prop}(k:next)(h:Hid next->goal:=by
  intro k
  iterate 7 refine aR ?_
  exact k.out):goal:=h ⟨k⟩
def aJ{goal next:Prop}(k:next)(h:Hid next->goal:=by
  intro k
  iterate 8 refine aR ?_
  exact k.out):goal:=h ⟨k⟩
def a8{goal next:Prop}(k:next)(h:Hid next->goal:=by
  intro k
  iterate 9 refine aR ?_
  exact k.out):goal:=h ⟨k⟩
def bQ{goal next:Prop}(k:next)(h:Hid next->goal:=by
  intro k
  iterate 10 refine aR ?_
  exact k.out):goal:=h ⟨k⟩
def bA{goal next:Prop}(k:next)(h:Hid next->goal:=by
  intro k
  iterate 11 refine aR ?_
  exact k.out):goal:=h ⟨k⟩
def bS{goal next:Prop}(k:next)(h:Hid next->goal:=by
  intro k
  iterate 12 refine aR ?_
  exact k.out):goal:=h ⟨k⟩
def di{goal next:Prop}(k:next)(h:Hid next->goal:=by
  intro k
  iterate 13 refine aR ?_
  exact k.out):goal:=h ⟨k⟩
def c6{goal next:Prop}(k:next)(h:Hid next->goal:=by
  intro k
  iterate 14 refine aR ?_
  exact k.out):goal:=h ⟨k⟩
def dW{goal next:Prop}(k:next)(h:Hid next->goal:=by
  intro k
  iterate 15 refine aR ?_
  exact k.out):goal:=h ⟨k⟩
def iB{goal next:Prop}(k:next)(h:Hid next->goal:=by
  intro k
  iterate 16 refine aR ?_
  exact k.out):goal:=h ⟨k⟩
def gv{goal next:Prop}(k:next)(h:Hid next->goal:=by
  intro k
  iterate 17 refine aR ?_
  exact k.out):goal:=h ⟨k⟩
def jR{goal next:Prop}(k:next)(h:Hid next->goal:=by
  intro k
  iterate 18 refine aR ?_
  exact k.out):goal:=h ⟨k⟩
def uW{goal next:Prop}(k:next)(h:Hid next->goal:=by
  intro k
  iterate 19 refine aR ?_
  exact k.out):goal:=h ⟨k⟩
def iY{goal next:Prop}(k:next)(h:Hid next->goal:=by
  intro k
  iterate 20 refine aR ?_
  exact k.out):goal:=h ⟨k⟩
def o8{goal next:Prop}(k:next)(h:Hid next->goal:=by
  intro k
  iterate 21 refine aR ?_
  exact k.out):goal:=h ⟨k⟩
def nz{goal next:Prop}(k:next)(h:Hid next->goal:=by
  intro k
  iterate 22 refine aR ?_
  exact k.out):goal:=h ⟨k⟩
def o9{goal next:Prop}(k:next)(h:Hid next->goal:=by
  intro k
  iterate 23 refine aR ?_
  exact k.out):goal:=h ⟨k⟩
def w9{goal next:Prop}(k:next)(h:Hid next->goal:=by
  intro k
  iterate 24 refine aR ?_
  exact k.out):goal:=h ⟨k⟩
def zy{goal next:Prop}(k:next)(h:Hid next->goal:=by
  intro k
  iterate 25 refine aR ?_
  exact k.out):goal:=h ⟨k⟩
def xa{goal next:Prop}(k:next)(h:Hid next->goal:=by
  intro k
  iterate 26 refine aR ?_
  exact k.out):goal:=h ⟨k⟩
def Nd{goal next:Prop}(k:next)(h:Hid next->goal:=by
  intro k
  iterate 27 refine aR ?_
  exact k.out):goal:=h ⟨k⟩
def GM{goal next:Prop}(k:next)(h:Hid next->goal:=by
  intro k
  iterate 28 refine aR ?_
  exact k.out):goal:=h ⟨k⟩
def XL{goal next:Prop}(k:next)(h:Hid next->goal:=by
  intro k
  iterate 29 refine aR ?_
  exact k.out):goal:=h ⟨k⟩
def Nf{goal next:Prop}(k:next)(h:Hid next->goal:=by
  intro k
  iterate 33 refine aR ?_
  exact k.out):goal:=h ⟨k⟩
def Ng{goal next:Prop}(k:next)(h:Hid next->goal:=by
  intro k
  iterate 37 refine aR ?_
  exact k.out):goal:=h ⟨k⟩
def XM{goal next:Prop}(k:next)(h:Hid next->goal:=by
  intro k
  iterate 38 refine aR ?_
  exact k.out):goal:=h ⟨k⟩
def XN{goal next:Prop}(k:next)(h:Hid next->goal:=by
  intro k
  iterate 40 refine aR ?_
  exact k.out):goal:=h ⟨k⟩
def XO{goal next:Prop}(k:next)(h:Hid next->goal:=by
  intro k
  iterate 41 refine aR ?_
  exact k.out):goal:=h ⟨k⟩
def XP{goal next:Prop}(k:next)(h:Hid next->goal:=by
  intro k
  iterate 44 refine aR ?_
  exact k.out):goal:=h ⟨k⟩
def XQ{goal next:Prop}(k:next)(h:Hid next->goal:=by
  intro k
  iterate 45 refine aR ?_
  exact k.out):goal:=h ⟨k⟩
def XR{goal next:Prop}(k:next)(h:Hid next->goal:=by
  intro k
  iterate 56 refine aR ?_
  exact k.out):goal:=h ⟨k⟩
def XS{goal next:Prop}(k:next)(h:Hid next->goal:=by
  intro k
  iterate 76 refine aR ?_
  exact k.out):goal:=h ⟨k⟩
def az{goal zr tn p q:Prop}(gu:p->zr)(cx:q->tn)(h:Hid (p->zr)->Hid (q->tn)->goal:=by
  intro gu cx;exact aA.cond rfl (λh=>gu.out (dA h)) (λh=>cx.out (dA h))):goal:=h ⟨gu⟩ ⟨cx⟩
def dM{P:Program}{st:dT}{fn:Func}{B:Nat}{c9:cr}{bN:World}{n:Nat}{eu E:ab->aC->Prop}{ys:bl}(rs:List ResultVar)(H':aC)(r9:eu (iG ys) H')(bK:fn.results=rs.toArray:=by exact rfl)(hy:iz P st rs ys:=by
  first | exact .nil | exact .tmp rfl .nil | exact .tmp rfl (.tmp rfl .nil) | exact .tmp rfl (.tmp rfl (.tmp rfl .nil)) | exact .yf inferInstance rfl uj rfl rfl .nil | exact .yg inferInstance rfl rfl .nil)
  (iV:H'.Sublist st.H:=by repeat (first | exact List.Sublist.refl _ | refine List.Sublist.cons _ ?_)):aZ ⟨B,c9,bN,n,[]⟩ st .ret (bodyPost P fn (e5 B c9 bN eu E)):=aZ.cl bK hy (c5.refl _) iV r9
def gQ{P:Program}{st:dT}{fn:Func}{B:Nat}{c9:cr}{bN:World}{n:Nat}{eu E:ab->aC->Prop}{ys:bl}(rs:List ResultVar)(H':aC)(r9:eu (iG ys) H')(bK:fn.results=rs.toArray:=by exact rfl)(hy:iz P st rs ys:=by
  first | exact .nil | exact .tmp rfl .nil | exact .tmp rfl (.tmp rfl .nil) | exact .tmp rfl (.tmp rfl (.tmp rfl .nil)) | exact .yf inferInstance rfl uj rfl rfl .nil | exact .yg inferInstance rfl rfl .nil)
  (iV:H'.Sublist st.H:=by repeat (first | exact List.Sublist.refl _ | refine List.Sublist.cons _ ?_)):aZ ⟨B,c9,bN,n,[]⟩ st .normal (bodyPost P fn (e5 B c9 bN eu E)):=aZ.n3 bK hy (c5.refl _) iV r9
def dm{c:Ctx}{st st':Go.Eng.dT}{Q:Exit->Act->World->Prop}{J:Go.Eng.dT->Prop}(eF:J st')(he:nk st'.env st.env:=by repeat (first | exact trivial | refine⟨rfl,?_⟩))
  (iV:st'.H.Sublist st.H:=by repeat (first | exact List.Sublist.refl _ | refine List.Sublist.cons _ ?_)):aZ c st .normal (Exit.then (λa w=>∃st',J st'/\Sat c st' a w) Q):=aZ.k7 eF he iV
def aM{P:Program}{f:FuncId}{fn:Func}{code:Code}{xs:bl}{H:aC}{eu:ab->aC->Prop}{E:ab->aC->Prop}{n:Nat}(b7:P.funcs[f]? =some fn)(h:∀B I w,aA ⟨B,I,w,n,[]⟩ none P code ⟨np 0 xs,H⟩ (bodyPost P fn (e5 B I w eu E)))(ba:fn.body=some code:=by exact rfl)(rO:(fn.name== "runtime.NumGoroutine")=false:=by kernel_rfl)(hn:fn.ntmps=n:=by exact rfl)(bq:Nat.ble xs.length n=true:=by exact rfl):bP P f xs H eu E:=bP.mk' b7 ba rO hn bq h
def gG.k{P:Program}{ρ:Nat->Option ab}{o:Oper}{x:Operand}{args:Array Operand}{XT:Array TypeId}{f:FuncId}{cA cs:bl}{ys:List (Bool×ab)}{g:Bool}{xs:bl}(h:o.op= .call {callee:=.value x,args:=args,argTypes:=XT}:=by exact rfl)(aK:aO ρ x=some (g,.fn (.func f) cA cs):=by exact rfl)(av:g=true:=by exact rfl)(n4:js ρ args.toList=some ys:=by exact rfl)(XU:ys.all (·.1)=true:=by exact rfl)(XV:cA++ys.map (·.2)++cs=xs:=by exact rfl):gG P ρ o f xs:=XV▸gG.mk' h aK av n4 XU
def ag{c:Ctx}{r:Option Nat}{P:Program}{ops:Array Oper}{rest:cg}{o:Oper}{d:Nat}{x:ab}{env:List (Nat×ab)}{H:aC}{Q:Exit->Act->World->Prop}(h:ad P H (aE env) o x)(next:ai c r P ops rest ⟨(d,x)::env,H⟩ Q)(av:o.guard=none:=by exact rfl)(a6:o.dst=some d:=by exact rfl)(hn:Nat.blt d c.n=true:=by exact rfl):ai c r P ops (o::rest) ⟨env,H⟩ Q:=ai.cc av a6 hn h next
def cI{c:Ctx}{r:Option Nat}{P:Program}{ops:Array Oper}{rest:cg}{o:Oper}{d:Nat}{env:List (Nat×ab)}{H:aC}{Q:Exit->Act->World->Prop}{f:FuncId}{xs:bl}{eu:ab->aC->Prop}(a1:gG P (aE env) o f xs)(h:eM c.B P f xs H eu (λ_ _=>False))(next:∀y H',eu y H'->ai c r P ops rest ⟨(d,y)::env,H'⟩ Q)(av:o.guard=none:=by exact rfl)(a6:o.dst=some d:=by exact rfl)(hn:Nat.blt d c.n=true:=by exact rfl):ai c r P ops (o::rest) ⟨env,H⟩ Q:=ai.F0 av a6 hn a1 h next
end Go.Eng

namespace Go.Eng
section
variable{P:Program}{H:aC}{env:List (Nat×ab)}{o:Oper}{rest:cg}{c:Ctx}{r:Option Nat}{ops:Array Oper}{Q:Exit->Act->World->Prop}{d:Nat}{x:ab}
def bh{L:cg}{n:Nat}{K:List (Nat×ab)->Prop}(h:ad P H (aE env) o x)(next:ed P H L n rest ((d,x)::env) K)(av:o.guard=none:=by exact rfl)(a6:o.dst=some d:=by exact rfl)(hn:Nat.blt d n=true:=by exact rfl):ed P H L n (o::rest) env K:=ed.cc av a6 hn h next
def gw{j k:Nat}{want G:Bool}(h:G=true->ad P H (aE env) o x)(next:ai c r P ops rest ⟨(d,.opt G x)::env,H⟩ Q)(av:o.guard=some (j,want):=by exact rfl)(cp:(ops[j]?).bind (·.dst)=some k:=by exact rfl)(XW:Nat.blt k c.n=true:=by exact rfl)(fb:nj (aE env k) want=some G:=by exact rfl)(a6:o.dst=some d:=by exact rfl)(hn:Nat.blt d c.n=true:=by exact rfl):ai c r P ops (o::rest) ⟨env,H⟩ Q:=ai.cG av cp XW fb a6 hn h next
def jS{L:cg}{n:Nat}{K:List (Nat×ab)->Prop}{j k:Nat}{want G:Bool}(h:G=true->ad P H (aE env) o x)(next:ed P H L n rest ((d,.opt G x)::env) K)(av:o.guard=some (j,want):=by exact rfl)(cp:(L[j]?).bind (·.dst)=some k:=by exact rfl)(fb:nj (aE env k) want=some G:=by exact rfl)(a6:o.dst=some d:=by exact rfl)(hn:Nat.blt d n=true:=by exact rfl):ed P H L n (o::rest) env K:=ed.cG av cp fb a6 hn h next
def bT{t:TypeId}{ga:dj}[aD:gp P t ga](next:∀b,ai c r P ops rest ⟨(d,.p b 0)::env,.au b t (ga.map .val)::H⟩ Q)(l2:o.guard=none:=by exact rfl)(a6:o.dst=some d:=by exact rfl)(hn:Nat.blt d c.n=true:=by exact rfl)(h:o.op= .alloc t:=by exact rfl):ai c r P ops (o::rest) ⟨env,H⟩ Q:=ai.qL l2 a6 hn h next
def Nh{s z:Operand}{t tx e k iW gW:Nat}{els news:List bl}{v:Value}{y:ab}{g1 g2:Bool}{H':Value->aC}[df:fi P t (e,k,iW)][ka:eE P tx gW](next:∀eA,ai c r P ops rest ⟨(d,.as (.aj k (els++news)) eA)::env,H' eA⟩ Q)(l2:o.guard=none:=by exact rfl)(a6:o.dst=some d:=by exact rfl)(hn:Nat.blt d c.n=true:=by exact rfl)(h:o.op= .call {callee:=.builtin .append,args:=#[s,z],argTypes:=#[t,tx]}:=by exact rfl)(b4:aO (aE env) s=some (g1,.as (.aj k els) v):=by exact rfl)(rY:g1=true:=by exact rfl)(aD:aO (aE env) z=some (g2,y):=by exact rfl)(rZ:g2=true:=by exact rfl)(hy:aq y (.aj k news):=by exact aq.refl _)(ae:news.all dG=true:=by exact rfl)(hu:∀eA,bG H (.own e k v) (.own e k eA) (H' eA):=by intro v;repeat (first | exact bG.head _ _ _ | apply bG.tail))(b:(els.length+news.length)*iW<=140737488355328/\els.length+news.length<=9223372036854775807):ai c r P ops (o::rest) ⟨env,H⟩ Q:=ai.dJ l2 a6 hn h b4 rY aD rZ hy ae hu b.1 b.2 next
def bc{st:dT}{t:Nat}{b:Bool}{p q:Code}(ae:b=true->aA c r P p st Q)(ak:b=false->aA c r P q st Q)(ht:aE st.env t=some (.val (.bool b)):=by exact rfl):aA c r P (.cond (.tmp t) p q) st Q:=aA.cond ht ae ak
def b0{id:Nat}{l:cg}(m n:Nat)(h:ed P H l c.n (l.take m) env λenv=>bW c r P l Q m ⟨env,H⟩)(hm:P.follows .mixedOrders=true:=by exact mixed)(hn:c.n=n:=by exact rfl)(kK:mJ l 0 m=true:=by decide+kernel)(gk:Nat.ble m l.length=true:=by exact rfl)(mF:(l.all λo=>(looks l o).all λt=>Nat.blt t n)=true:=by decide+kernel):aA c r P (.region id l.toArray true) ⟨env,H⟩ Q:=aA.cu hm (bW.dk 0 m n hn kK (Nat.ble_eq_true_of_le (Nat.zero_le _)) gk mF (by simpa using h))
def cn{es:List b8}{i n:Nat}{L:cg}{X:nx}{gO:tu->aC}{xs:Nat->tu->ab}{K:List (Nat×ab)->Prop}(zi:List cY)(h:qU zi λp=>∀f,ad P (gO (b8.inst es p f)) (aE (kN xs (b8.inst es p f) 0 es p++env)) o x)(next:jM X P (qZ gO xs es) L n (i+1) rest ((d,x)::env) K)(av:o.guard=none:=by exact rfl)(a6:o.dst=some d:=by exact rfl)(aN:(es.all λe=>!Nat.beq e.i i && !Nat.beq e.d d)=true:=by exact rfl)(b7:b8.fits L es i zi=true:=by decide+kernel)(hn:Nat.blt d n=true:=by exact rfl):jM X P (qZ gO xs es) L n i (o::rest) env K:=cN.WT zi aN b7 av a6 hn h next
def eH{vs:List dn}{i n:Nat}{L:cg}{K:List (Nat×ab)->Prop}(h:ad P H (aE env) o x)(next:cN P (qT H vs) L n (i+1) rest ((d,x)::env) K)(av:o.guard=none:=by exact rfl)(a6:o.dst=some d:=by exact rfl)(hn:Nat.blt d n=true:=by exact rfl)(aN:(vs.all λv=>!Nat.beq v.e i && !Nat.beq v.s i && !Nat.beq v.d d)=true:=by exact rfl):cN P (qT H vs) L n i (o::rest) env K:=cN.WA aN av a6 hn h next
def eB{st:dT}{p:Code}(d:Nat){b off:Nat}{t:TypeId}{cs:bl}{H':aC}(h:aA c r P p ⟨(d,.ptr (cs.drop off))::st.env,H'⟩ Q)(a6:aE st.env d=some (.p b off):=by exact rfl)(Cg:fV st.H (.au b t cs) H':=by repeat (first | exact fV.head _ _ | apply fV.tail)):aA c r P p st Q:=aA.nr a6 Cg h
def hi{st:dT}{p:Code}(d e k:Nat)(h:aA c r P p ⟨(d,.as (.aj k []) (.slice none 0 0))::st.env,.own e k (.slice none 0 0)::st.H⟩ Q)(a6:aE st.env d=some (.val (.slice none 0 0)):=by exact rfl):aA c r P p st Q:=aA.oY d e k a6 h
end
end Go.Eng

namespace Go
def ie{p:Prop}(h:p:=by exact (ad.row rfl rfl cD rfl rfl rfl rfl rfl rfl)):p:=h
def zz{p:Prop}(h:p:=by exact ⟨rfl,rfl⟩):p:=h
def gx{p:Prop}(h:p:=by exact (aq.refl _)):p:=h
def uX{p:Prop}(h:p:=by exact (ad.cE rfl rfl rfl rfl)):p:=h
def zA{p:Prop}(h:p:=by exact (.mk' rfl rfl rfl rfl cU)):p:=h
def eR{p:Prop}(h:p:=by exact (.tmp rfl (.nil))):p:=h
def cL{p:Prop}(h:p:=by exact (c5.refl _)):p:=h
def q4{p:Prop}(h:p:=by exact (.tmp rfl (.tmp rfl (.nil)))):p:=h
def GN{p:Prop}(h:p:=by exact (.cons (aq.nil 1) (.cons (.refl _) .nil))):p:=h
def ft{p:Prop}(h:p:=by exact (Nat.le_refl _)):p:=h
def CL{p:Prop}(h:p:=by exact (ad.gX rfl rfl rfl rfl rfl aa)):p:=h
def ig{p:Prop}(h:p:=by exact (.refl _)):p:=h
def XX{p:Prop}(h:p:=by exact (.cons (.refl _) .nil)):p:=h
def dB{p:Prop}(h:p:=by exact (.head _)):p:=h
def iZ{p:Prop}(h:p:=by exact ⟨_,rfl⟩):p:=h
def iI{p:Prop}(h:p:=by exact (⟨0,rfl,rfl,aa,rfl⟩)):p:=h
def lK{p:Prop}(h:p:=by exact ⟨aa,aa⟩):p:=h
def tz{p:Prop}(h:p:=by exact (⟨0,rfl,rfl,aa⟩)):p:=h
def GO{p:Prop}(h:p:=by exact (aq.eY _ _)):p:=h
def CM{p:Prop}(h:p:=by exact (.head _ _ _)):p:=h
def gZ{p:Prop}(h:p:=by exact (hT aa)):p:=h
def CN{p:Prop}(h:p:=by exact (.cons (aq.eY _ _) .nil)):p:=h
def pb{p:Prop}(h:p:=by exact (ad.move rfl rfl rfl)):p:=h
def Ni{p:Prop}(h:p:=by exact (Nat.lt_irrefl _)):p:=h
def xb{p:Prop}(h:p:=by exact (List.Sublist.refl _)):p:=h
def Nj{p:Prop}(h:p:=by exact (.tail _ _ _ _ _ (.head _ _ _))):p:=h
def xc{p:Prop}(h:p:=by exact (.cons (aq.eY _ _) (.cons (.refl _) .nil))):p:=h
def uY{p:Prop}(h:p:=by exact (.tail _ (.head _))):p:=h
def xd{p:Prop}(h:p:=by exact (ad.qy rfl rfl rfl)):p:=h
def zB{p:Prop}(h:p:=by exact (List.mem_map.2 ⟨_,List.getElem_mem _,rfl⟩)):p:=h
def tA{p:Prop}(h:p:=by exact (.cons (aq.nil 1) .nil)):p:=h
def zC{p:Prop}(h:p:=by exact (ad.max2 rfl rfl rfl rfl rfl rfl)):p:=h
def xe{p:Prop}(h:p:=by exact (.cons_cons _ (.cons _ (.refl _)))):p:=h
def CO{p:Prop}(h:p:=by exact (.cons (aq.nil 1) (.cons (aq.nil 1) (.cons (.refl _) .nil)))):p:=h
def Nk{p:Prop}(h:p:=by exact (List.sublist_cons_self _ _)):p:=h
def uZ{p:Prop}(h:p:=by exact (ad.Wm rfl rfl rfl ax)):p:=h
def nA{p:Prop}(h:p:=by exact (bH aa)):p:=h
def XY{p:Prop}(h:p:=by exact (.cons _ _ _ _ (.val _) (.cons _ _ _ _ (.val _) .nil))):p:=h
def GP{p:Prop}(h:p:=by exact (ad.call .k ((zD _)))):p:=h
def XZ{p:Prop}(h:p:=by exact ⟨rfl,rfl,rfl⟩):p:=h
def X0{p:Prop}(h:p:=by exact (.inr rfl)):p:=h
def X1{p:Prop}(h:p:=by exact (.cons _ (.refl _))):p:=h
def xf{p:Prop}(h:p:=by exact (lZ h1)):p:=h
def CP{p:Prop}(h:p:=by exact (.tmp rfl (.tmp rfl (.tmp rfl (.nil))))):p:=h
def zE{p:Prop}(h:p:=by exact (List.length_filter_le _ _)):p:=h
def GQ{p:Prop}(h:p:=by exact (.store rfl rfl rfl rfl rfl rfl rfl rfl dt fl fl)):p:=h
def CQ{p:Prop}(h:p:=by exact (ad.min2 rfl rfl rfl rfl rfl rfl)):p:=h
def X2{p:Prop}(h:p:=by exact (.tail _ _ _ _ _ (.tail _ _ _ _ _ (.head _ _ _)))):p:=h
def CR{p:Prop}(h:p:=by exact (ad.call .k ((CS _ _)))):p:=h
def zF{p:Prop}(h:p:=by exact (ad.call .k ((Nl _)))):p:=h
end Go
namespace Go
abbrev aX:Value:=.slice none 0 0
abbrev aY:Value:=.int .i64 0
abbrev c0:Value:=.int .u64 0
end Go
