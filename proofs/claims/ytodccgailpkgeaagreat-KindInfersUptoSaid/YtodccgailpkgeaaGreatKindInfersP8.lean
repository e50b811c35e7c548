/- A part of the proof. No condition. -/
import Derived.Test.YtodccgailpkgeaaGreatKindInfersP7
set_option linter.defProp false
set_option maxHeartbeats 1000000
set_option linter.unusedVariables false
namespace Go.Eng
section
variable{c:Ctx}{r:Option Nat}{P:Program}{ops:Array Oper}{l L:cc}{st:dU}{env:List (Nat×ab)}{H:aA}{Q:Exit->Act->World->Prop}{n k:Nat}{K:List (Nat×ab)->Prop}
def W3(h:aj c r P ops l st Q):aj c r P ops l st Q:=h
def W4(h:eO P H L n l env K):eO P H L n l env K:=h
def W5(h:b0 c r P l Q k st):b0 c r P l Q k st:=h
end
def W6:Op->Nat
 | .move .. =>0
 | .assign .. =>0
 | .fieldAddr .. =>1
 | .load .. =>1
 | .binOp .. =>2
 | .call .. =>3
 | .indexAddr .. =>4
 | .extract .. =>5
 | .unOp .. =>6
 | .pick .. =>7
 | .nilCheck .. =>8
 | .box .. =>9
 | .buildSlice .. =>10
 | .build .. =>11
 | .makeFunc .. =>12
 | _=>99
def h6(n:Nat){P:Program}{H:aA}{ρ:Nat->Option ab}{o:Oper}{x:ab}(_:W6 o.op=n)(h:ad P H ρ o x):ad P H ρ o x:=h
def MN{p:Prop}(h:p:=by
  first
   | exact h6 0 e9 (by first | exact ad.move rfl rfl rfl | exact ad.assign rfl rfl rfl)
   | exact h6 1 e9 (by first | exact ad.EF rfl rfl rfl rfl | exact ad.EG rfl rfl rfl rfl | exact ad.cF rfl rfl rfl rfl | exact ad.ij rfl rfl rfl (hm:=ug) (hy:=by exact rfl) | exact ad.rF rfl rfl rfl rfl | exact ad.A6 rfl rfl rfl (hm:=ug) (hy:=by exact rfl) (hn:=by exact rfl))
   | exact h6 2 e9 (by first | exact ad.cmp rfl rfl rfl rfl rfl rfl | exact ad.arith rfl rfl rfl rfl rfl rfl (wrap64 aa) | exact ad.Ls (op:=.eql) rfl rfl rfl rfl rfl | exact ad.Lt (op:=.eql) rfl rfl rfl rfl rfl)
   | exact h6 3 e9 wc
   | exact h6 4 e9 (by first | exact ad.fC rfl rfl rfl rfl rfl sW | exact ad.ep rfl rfl rfl rfl rfl sW | exact ad.Bk rfl rfl rfl rfl rfl sW | exact ad.Bl rfl rfl rfl rfl rfl sW)
   | exact h6 5 e9 (by first | exact ad.extract rfl rfl rfl rfl)
   | exact h6 6 e9 (by first | exact ad.not rfl rfl rfl)
   | exact h6 7 e9 (by first | exact ad.pick rfl rfl rfl rfl rfl Bh Bh)
   | exact h6 8 e9 fT
   | exact h6 9 e9 (by first | exact ad.BM rfl rfl rfl rfl)
   | exact h6 10 e9 KP
   | exact h6 11 e9 (by first | exact ad.yv rfl rfl cC rfl)
   | exact h6 12 e9 KN):p:=h
def MO{G p:Prop}(aw:G)(h:G->p:=by
  intro aw
  first
   | exact h6 0 e9 (by first | exact ad.move rfl rfl (cl aw) | exact ad.assign rfl rfl (cl aw))
   | exact h6 1 e9 (by first | exact ad.EF rfl rfl (cl aw) rfl | exact ad.EG rfl rfl (cl aw) rfl | exact ad.cF rfl rfl (cl aw) rfl | exact ad.ij rfl rfl (cl aw) (hm:=ug) (hy:=by exact rfl) | exact ad.rF rfl rfl (cl aw) rfl | exact ad.A6 rfl rfl (cl aw) (hm:=ug) (hy:=by exact rfl) (hn:=by exact rfl))
   | exact h6 2 e9 (by first | exact ad.cmp rfl rfl rfl (cl aw) (cl aw) rfl | exact ad.arith rfl rfl rfl (cl aw) (cl aw) rfl (wrap64 aa) | exact ad.Ls (op:=.eql) rfl rfl (cl aw) rfl (cl aw) | exact ad.Lt (op:=.eql) rfl rfl (cl aw) rfl (cl aw))
   | exact h6 3 e9 (by first | exact ad.qo rfl rfl (cl aw) | exact ad.Kp rfl rfl (cl aw) | exact ad.Bb rfl rfl (cl aw) | exact ad.Kq rfl rfl (cl aw))
   | exact h6 4 e9 (by first | exact ad.fC rfl rfl (cl aw) rfl (cl aw) sW | exact ad.ep rfl rfl (cl aw) rfl (cl aw) sW | exact ad.Bk rfl rfl (cl aw) rfl (cl aw) sW | exact ad.Bl rfl rfl (cl aw) rfl (cl aw) sW)
   | exact h6 5 e9 (by first | exact ad.extract rfl rfl (cl aw) rfl)
   | exact h6 6 e9 (by first | exact ad.not rfl rfl (cl aw))
   | exact h6 7 e9 (by first | exact ad.pick rfl rfl (cl aw) rfl rfl Bh Bh)
   | exact h6 8 e9 (by first | exact ad.nilCheck rfl rfl (cl aw) | exact ad.Km rfl rfl (cl aw) | exact ad.Kn rfl rfl (cl aw))
   | exact h6 9 e9 (by first | exact ad.BM rfl rfl (cl aw) rfl)
   | exact h6 10 e9 KP
   | exact h6 11 e9 (by first | exact ad.yv rfl rfl cC rfl)
   | exact h6 12 e9 KN):p:=h aw
def aR{goal next:Prop}(k:next)(h:Hid next->goal:=by
  intro k
  first
   | ((with_reducible refine W3 ?_);first | refine WI ?_ | refine aj.cn rfl rfl rfl MN ?_ | refine aj.db rfl rfl rfl rfl rfl rfl (λaw=>MO aw) ?_ | (with_reducible refine aj.nil ?_))
   | ((with_reducible refine W4 ?_);first | refine eO.cn rfl rfl rfl MN ?_ | refine eO.db rfl rfl rfl rfl rfl (λaw=>MO aw) ?_ | refine eO.nil ?_)
   | ((with_reducible refine W5 ?_);first | refine b0.Vp _ aq rfl ?_ | refine b0.one aq rfl ?_)
   | with_reducible refine aZ.cw ?_
   | refine n6 ?_
  exact k.out):goal:=h ⟨k⟩
def aO{goal next:Prop}(k:next)(h:Hid next->goal:=by
  intro k
  iterate 2 refine aR ?_
  exact k.out):goal:=h ⟨k⟩
def aF{goal next:Prop}(k:next)(h:Hid next->goal:=by
  intro k
  iterate 3 refine aR ?_
  exact k.out):goal:=h ⟨k⟩
def aY{goal next:Prop}(k:next)(h:Hid next->goal:=by
  intro k
  iterate 4 refine aR ?_
  exact k.out):goal:=h ⟨k⟩
def aT{goal next:Prop}(k:next)(h:Hid next->goal:=by
  intro k
  iterate 5 refine aR ?_
  exact k.out):goal:=h ⟨k⟩
def ax{goal next:Prop}(k:next)(h:Hid next->goal:=by
  intro k
  iterate 6 refine aR ?_
  exact k.out):goal:=h ⟨k⟩
def aP{goal next:Prop}(k:next)(h:Hid next->goal:=by
  intro k
  iterate 7 refine aR ?_
  exact k.out):goal:=h ⟨k⟩
def aI{goal next:Prop}(k:next)(h:Hid next->goal:=by
  intro k
  iterate 8 refine aR ?_
  exact k.out):goal:=h ⟨k⟩
def ba{goal next:Prop}(k:next)(h:Hid next->goal:=by
  intro k
  iterate 9 refine aR ?_
  exact k.out):goal:=h ⟨k⟩
def bY{goal next:Prop}(k:next)(h:Hid next->goal:=by
  intro k
  iterate 10 refine aR ?_
  exact k.out):goal:=h ⟨k⟩
def bE{goal next:Prop}(k:next)(h:Hid next->goal:=by
  intro k
  iterate 11 refine aR ?_
  exact k.out):goal:=h ⟨k⟩
def bR{goal next:Prop}(k:next)(h:Hid next->goal:=by
  intro k
  iterate 12 refine aR ?_
  exact k.out):goal:=h ⟨k⟩
def dk{goal next:Prop}(k:next)(h:Hid next->goal:=by
  intro k
  iterate 13 refine aR ?_
  exact k.out):goal:=h ⟨k⟩
def c4{goal next:Prop}(k:next)(h:Hid next->goal:=by
  intro k
  iterate 14 refine aR ?_
  exact k.out):goal:=h ⟨k⟩
def eb{goal next:Prop}(k:next)(h:Hid next->goal:=by
  intro k
  iterate 15 refine aR ?_
  exact k.out):goal:=h ⟨k⟩
def ji{goal next:Prop}(k:next)(h:Hid next->goal:=by
  intro k
  iterate 16 refine aR ?_
  exact k.out):goal:=h ⟨k⟩
def gL{goal next:Prop}(k:next)(h:Hid next->goal:=by
  intro k
  iterate 17 refine aR ?_
  exact k.out):goal:=h ⟨k⟩
def jI{goal next:Prop}(k:next)(h:Hid next->goal:=by
  intro k
  iterate 18 refine aR ?_
  exact k.out):goal:=h ⟨k⟩
def uV{goal next:Prop}(k:next)(h:Hid next->goal:=by
  intro k
  iterate 19 refine aR ?_
  exact k.out):goal:=h ⟨k⟩
def jj{goal next:Prop}(k:next)(h:Hid next->goal:=by
  intro k
  iterate 20 refine aR ?_
  exact k.out):goal:=h ⟨k⟩
def oX{goal next:Prop}(k:next)(h:Hid next->goal:=by
  intro k
  iterate 21 refine aR ?_
  exact k.out):goal:=h ⟨k⟩
def nk{goal next:Prop}(k:next)(h:Hid next->goal:=by
  intro k
  iterate 22 refine aR ?_
  exact k.out):goal:=h ⟨k⟩
def oY{goal next:Prop}(k:next)(h:Hid next->goal:=by
  intro k
  iterate 23 refine aR ?_
  exact k.out):goal:=h ⟨k⟩
def w7{goal next:Prop}(k:next)(h:Hid next->goal:=by
  intro k
  iterate 24 refine aR ?_
  exact k.out):goal:=h ⟨k⟩
def Cy{goal next:Prop}(k:next)(h:Hid next->goal:=by
  intro k
  iterate 25 refine aR ?_
  exact k.out):goal:=h ⟨k⟩
def zq{goal next:Prop}(k:next)(h:Hid next->goal:=by
  intro k
  iterate 26 refine aR ?_
  exact k.out):goal:=h ⟨k⟩
def MP{goal next:Prop}(k:next)(h:Hid next->goal:=by
  intro k
  iterate 27 refine aR ?_
  exact k.out):goal:=h ⟨k⟩
def GC{goal next:Prop}(k:next)(h:Hid next->goal:=by
  intro k
  iterate 28 refine aR ?_
  exact k.out):goal:=h ⟨k⟩
def W7{goal next:Prop}(k:next)(h:Hid next->goal:=by
  intro k
  iterate 29 refine aR ?_
  exact k.out):goal:=h ⟨k⟩
def W8{goal next:Prop}(k:next)(h:Hid next->goal:=by
  intro k
  iterate 33 refine aR ?_
  exact k.out):goal:=h ⟨k⟩
def MQ{goal next:Prop}(k:next)(h:Hid next->goal:=by
  intro k
  iterate 37 refine aR ?_
  exact k.out):goal:=h ⟨k⟩
def W9{goal next:Prop}(k:next)(h:Hid next->goal:=by
  intro k
  iterate 38 refine aR ?_
  exact k.out):goal:=h ⟨k⟩
def Xa{goal next:Prop}(k:next)(h:Hid next->goal:=by
  intro k
  iterate 40 refine aR ?_
  exact k.out):goal:=h ⟨k⟩
def Xb{goal next:Prop}(k:next)(h:Hid next->goal:=by
  intro k
  iterate 41 refine aR ?_
  exact k.out):goal:=h ⟨k⟩
def Xc{goal next:Prop}(k:next)(h:Hid next->goal:=by
  intro k
  iterate 44 refine aR ?_
  exact k.out):goal:=h ⟨k⟩
def Xd{goal next:Prop}(k:next)(h:Hid next->goal:=by
  intro k
  iterate 56 refine aR ?_
  exact k.out):goal:=h ⟨k⟩
def Xe{goal next:Prop}(k:next)(h:Hid next->goal:=by
  intro k
  iterate 76 refine aR ?_
  exact k.out):goal:=h ⟨k⟩
def az{goal zk te p q:Prop}(gr:p->zk)(cv:q->te)(h:Hid (p->zk)->Hid (q->te)->goal:=by
  intro gr cv;exact aB.cond rfl (λh=>gr.out (dC h)) (λh=>cv.out (dC h))):goal:=h ⟨gr⟩ ⟨cv⟩
def dL{P:Program}{st:dU}{fn:Func}{B:Nat}{c5:cp}{bW:World}{n:Nat}{eu E:ab->aA->Prop}{ys:bl}(rs:List ResultVar)(H':aA)(r1:eu (iy ys) H')(bH:fn.results=rs.toArray:=by exact rfl)(hy:iq P st rs ys:=by
  first | exact .nil | exact .tmp rfl .nil | exact .tmp rfl (.tmp rfl .nil) | exact .tmp rfl (.tmp rfl (.tmp rfl .nil)) | exact .x5 inferInstance rfl ug rfl rfl .nil | exact .x6 inferInstance rfl rfl .nil)
  (iM:H'.Sublist st.H:=by repeat (first | exact List.Sublist.refl _ | refine List.Sublist.cons _ ?_)):aZ ⟨B,c5,bW,n,[]⟩ st .ret (bodyPost P fn (e4 B c5 bW eu E)):=aZ.cg bH hy (c0.refl _) iM r1
def gM{P:Program}{st:dU}{fn:Func}{B:Nat}{c5:cp}{bW:World}{n:Nat}{eu E:ab->aA->Prop}{ys:bl}(rs:List ResultVar)(H':aA)(r1:eu (iy ys) H')(bH:fn.results=rs.toArray:=by exact rfl)(hy:iq P st rs ys:=by
  first | exact .nil | exact .tmp rfl .nil | exact .tmp rfl (.tmp rfl .nil) | exact .tmp rfl (.tmp rfl (.tmp rfl .nil)) | exact .x5 inferInstance rfl ug rfl rfl .nil | exact .x6 inferInstance rfl rfl .nil)
  (iM:H'.Sublist st.H:=by repeat (first | exact List.Sublist.refl _ | refine List.Sublist.cons _ ?_)):aZ ⟨B,c5,bW,n,[]⟩ st .normal (bodyPost P fn (e4 B c5 bW eu E)):=aZ.nU bH hy (c0.refl _) iM r1
def dh{c:Ctx}{st st':Go.Eng.dU}{Q:Exit->Act->World->Prop}{J:Go.Eng.dU->Prop}(eD:J st')(he:m7 st'.env st.env:=by repeat (first | exact trivial | refine⟨rfl,?_⟩))
  (iM:st'.H.Sublist st.H:=by repeat (first | exact List.Sublist.refl _ | refine List.Sublist.cons _ ?_)):aZ c st .normal (Exit.then (λa w=>∃st',J st'/\Sat c st' a w) Q):=aZ.kV eD he iM
def aM{P:Program}{f:FuncId}{fn:Func}{code:Code}{xs:bl}{H:aA}{eu:ab->aA->Prop}{E:ab->aA->Prop}{n:Nat}(b8:P.funcs[f]? =some fn)(h:∀B I w,aB ⟨B,I,w,n,[]⟩ none P code ⟨na 0 xs,H⟩ (bodyPost P fn (e4 B I w eu E)))(a8:fn.body=some code:=by exact rfl)(rK:(fn.name== "runtime.NumGoroutine")=false:=by kernel_rfl)(hn:fn.ntmps=n:=by exact rfl)(br:Nat.ble xs.length n=true:=by exact rfl):bO P f xs H eu E:=bO.mk' b8 a8 rK hn br h
def gD.k{P:Program}{ρ:Nat->Option ab}{o:Oper}{x:Operand}{args:Array Operand}{Xf:Array TypeId}{f:FuncId}{cz cs:bl}{ys:List (Bool×ab)}{g:Bool}{xs:bl}(h:o.op= .call {callee:=.value x,args:=args,argTypes:=Xf}:=by exact rfl)(aK:aN ρ x=some (g,.fn (.func f) cz cs):=by exact rfl)(aw:g=true:=by exact rfl)(nV:jg ρ args.toList=some ys:=by exact rfl)(Xg:ys.all (·.1)=true:=by exact rfl)(Xh:cz++ys.map (·.2)++cs=xs:=by exact rfl):gD P ρ o f xs:=Xh▸gD.mk' h aK aw nV Xg
def ag{c:Ctx}{r:Option Nat}{P:Program}{ops:Array Oper}{rest:cc}{o:Oper}{d:Nat}{x:ab}{env:List (Nat×ab)}{H:aA}{Q:Exit->Act->World->Prop}(h:ad P H (aD env) o x)(next:aj c r P ops rest ⟨(d,x)::env,H⟩ Q)(aw:o.guard=none:=by exact rfl)(a6:o.dst=some d:=by exact rfl)(hn:Nat.blt d c.n=true:=by exact rfl):aj c r P ops (o::rest) ⟨env,H⟩ Q:=aj.cn aw a6 hn h next
def cE{c:Ctx}{r:Option Nat}{P:Program}{ops:Array Oper}{rest:cc}{o:Oper}{d:Nat}{env:List (Nat×ab)}{H:aA}{Q:Exit->Act->World->Prop}{f:FuncId}{xs:bl}{eu:ab->aA->Prop}(a1:gD P (aD env) o f xs)(h:eK c.B P f xs H eu (λ_ _=>False))(next:∀y H',eu y H'->aj c r P ops rest ⟨(d,y)::env,H'⟩ Q)(aw:o.guard=none:=by exact rfl)(a6:o.dst=some d:=by exact rfl)(hn:Nat.blt d c.n=true:=by exact rfl):aj c r P ops (o::rest) ⟨env,H⟩ Q:=aj.FR aw a6 hn a1 h next
end Go.Eng

namespace Go.Eng
section
variable{P:Program}{H:aA}{env:List (Nat×ab)}{o:Oper}{rest:cc}{c:Ctx}{r:Option Nat}{ops:Array Oper}{Q:Exit->Act->World->Prop}{d:Nat}{x:ab}
def bg{L:cc}{n:Nat}{K:List (Nat×ab)->Prop}(h:ad P H (aD env) o x)(next:eO P H L n rest ((d,x)::env) K)(aw:o.guard=none:=by exact rfl)(a6:o.dst=some d:=by exact rfl)(hn:Nat.blt d n=true:=by exact rfl):eO P H L n (o::rest) env K:=eO.cn aw a6 hn h next
def gb{j k:Nat}{want G:Bool}(h:G=true->ad P H (aD env) o x)(next:aj c r P ops rest ⟨(d,.opt G x)::env,H⟩ Q)(aw:o.guard=some (j,want):=by exact rfl)(cm:(ops[j]?).bind (·.dst)=some k:=by exact rfl)(Xi:Nat.blt k c.n=true:=by exact rfl)(fb:m6 (aD env k) want=some G:=by exact rfl)(a6:o.dst=some d:=by exact rfl)(hn:Nat.blt d c.n=true:=by exact rfl):aj c r P ops (o::rest) ⟨env,H⟩ Q:=aj.db aw cm Xi fb a6 hn h next
def jJ{L:cc}{n:Nat}{K:List (Nat×ab)->Prop}{j k:Nat}{want G:Bool}(h:G=true->ad P H (aD env) o x)(next:eO P H L n rest ((d,.opt G x)::env) K)(aw:o.guard=some (j,want):=by exact rfl)(cm:(L[j]?).bind (·.dst)=some k:=by exact rfl)(fb:m6 (aD env k) want=some G:=by exact rfl)(a6:o.dst=some d:=by exact rfl)(hn:Nat.blt d n=true:=by exact rfl):eO P H L n (o::rest) env K:=eO.db aw cm fb a6 hn h next
def bK{t:TypeId}{fY:dg}[aH:hf P t fY](next:∀b,aj c r P ops rest ⟨(d,.p b 0)::env,.au b t (fY.map .val)::H⟩ Q)(lT:o.guard=none:=by exact rfl)(a6:o.dst=some d:=by exact rfl)(hn:Nat.blt d c.n=true:=by exact rfl)(h:o.op= .alloc t:=by exact rfl):aj c r P ops (o::rest) ⟨env,H⟩ Q:=aj.uP lT a6 hn h next
def MR{s z:Operand}{t tx e k iN gT:Nat}{els news:List bl}{v:Value}{y:ab}{g1 g2:Bool}{H':Value->aA}[dZ:fF P t (e,k,iN)][jZ:eC P tx gT](next:∀ez,aj c r P ops rest ⟨(d,.as (.ai k (els++news)) ez)::env,H' ez⟩ Q)(lT:o.guard=none:=by exact rfl)(a6:o.dst=some d:=by exact rfl)(hn:Nat.blt d c.n=true:=by exact rfl)(h:o.op= .call {callee:=.builtin .append,args:=#[s,z],argTypes:=#[t,tx]}:=by exact rfl)(b6:aN (aD env) s=some (g1,.as (.ai k els) v):=by exact rfl)(rS:g1=true:=by exact rfl)(aH:aN (aD env) z=some (g2,y):=by exact rfl)(rT:g2=true:=by exact rfl)(hy:an y (.ai k news):=by exact an.refl _)(ae:news.all dB=true:=by exact rfl)(hu:∀ez,bG H (.own e k v) (.own e k ez) (H' ez):=by intro v;repeat (first | exact bG.head _ _ _ | apply bG.tail))(b:(els.length+news.length)*iN<=140737488355328/\els.length+news.length<=9223372036854775807):aj c r P ops (o::rest) ⟨env,H⟩ Q:=aj.dJ lT a6 hn h b6 rS aH rT hy ae hu b.1 b.2 next
def bc{st:dU}{t:Nat}{b:Bool}{p q:Code}(ae:b=true->aB c r P p st Q)(ao:b=false->aB c r P q st Q)(ht:aD st.env t=some (.val (.bool b)):=by exact rfl):aB c r P (.cond (.tmp t) p q) st Q:=aB.cond ht ae ao
def bP{id:Nat}{l:cc}(m n:Nat)(h:eO P H l c.n (l.take m) env λenv=>b0 c r P l Q m ⟨env,H⟩)(hm:P.follows .mixedOrders=true:=by exact mixed)(hn:c.n=n:=by exact rfl)(kB:mz l 0 m=true:=by decide+kernel)(gO:Nat.ble m l.length=true:=by exact rfl)(mu:(l.all λo=>(looks l o).all λt=>Nat.blt t n)=true:=by decide+kernel):aB c r P (.region id l.toArray true) ⟨env,H⟩ Q:=aB.cw hm (b0.dG 0 m n hn kB (Nat.ble_eq_true_of_le (Nat.zero_le _)) gO mu (by simpa using h))
def cj{es:List b7}{i n:Nat}{L:cc}{X:ni}{gK:tk->aA}{xs:Nat->tk->ab}{K:List (Nat×ab)->Prop}(zb:List cW)(h:qL zb λp=>∀f,ad P (gK (b7.inst es p f)) (aD (kD xs (b7.inst es p f) 0 es p++env)) o x)(next:jE X P (qQ gK xs es) L n (i+1) rest ((d,x)::env) K)(aw:o.guard=none:=by exact rfl)(a6:o.dst=some d:=by exact rfl)(aQ:(es.all λe=>!Nat.beq e.i i && !Nat.beq e.d d)=true:=by exact rfl)(b8:b7.fits L es i zb=true:=by decide+kernel)(hn:Nat.blt d n=true:=by exact rfl):jE X P (qQ gK xs es) L n i (o::rest) env K:=cH.Wd zb aQ b8 aw a6 hn h next
def dD{vs:List dj}{i n:Nat}{L:cc}{K:List (Nat×ab)->Prop}(h:ad P H (aD env) o x)(next:cH P (qK H vs) L n (i+1) rest ((d,x)::env) K)(aw:o.guard=none:=by exact rfl)(a6:o.dst=some d:=by exact rfl)(hn:Nat.blt d n=true:=by exact rfl)(aQ:(vs.all λv=>!Nat.beq v.e i && !Nat.beq v.s i && !Nat.beq v.d d)=true:=by exact rfl):cH P (qK H vs) L n i (o::rest) env K:=cH.VW aQ aw a6 hn h next
def eA{st:dU}{p:Code}(d:Nat){b off:Nat}{t:TypeId}{cs:bl}{H':aA}(h:aB c r P p ⟨(d,.ptr (cs.drop off))::st.env,H'⟩ Q)(a6:aD st.env d=some (.p b off):=by exact rfl)(B4:fU st.H (.au b t cs) H':=by repeat (first | exact fU.head _ _ | apply fU.tail)):aB c r P p st Q:=aB.pC a6 B4 h
def hh{st:dU}{p:Code}(d e k:Nat)(h:aB c r P p ⟨(d,.as (.ai k []) (.slice none 0 0))::st.env,.own e k (.slice none 0 0)::st.H⟩ Q)(a6:aD st.env d=some (.val (.slice none 0 0)):=by exact rfl):aB c r P p st Q:=aB.qx d e k a6 h
end
end Go.Eng

namespace Go
def h7{p:Prop}(h:p:=by exact (ad.row rfl rfl cC rfl rfl rfl rfl rfl rfl)):p:=h
def zr{p:Prop}(h:p:=by exact ⟨rfl,rfl⟩):p:=h
def gu{p:Prop}(h:p:=by exact (an.refl _)):p:=h
def uW{p:Prop}(h:p:=by exact (ad.cF rfl rfl rfl rfl)):p:=h
def zs{p:Prop}(h:p:=by exact (.mk' rfl rfl rfl rfl c9)):p:=h
def eQ{p:Prop}(h:p:=by exact (.tmp rfl (.nil))):p:=h
def cL{p:Prop}(h:p:=by exact (c0.refl _)):p:=h
def qV{p:Prop}(h:p:=by exact (.tmp rfl (.tmp rfl (.nil)))):p:=h
def GD{p:Prop}(h:p:=by exact (.cons (an.nil 1) (.cons (.refl _) .nil))):p:=h
def fs{p:Prop}(h:p:=by exact (Nat.le_refl _)):p:=h
def Cz{p:Prop}(h:p:=by exact (ad.gU rfl rfl rfl rfl rfl aa)):p:=h
def h8{p:Prop}(h:p:=by exact (.refl _)):p:=h
def Xj{p:Prop}(h:p:=by exact (.cons (.refl _) .nil)):p:=h
def dv{p:Prop}(h:p:=by exact (.head _)):p:=h
def iO{p:Prop}(h:p:=by exact ⟨_,rfl⟩):p:=h
def iA{p:Prop}(h:p:=by exact (⟨0,rfl,rfl,aa,rfl⟩)):p:=h
def lz{p:Prop}(h:p:=by exact ⟨aa,aa⟩):p:=h
def tp{p:Prop}(h:p:=by exact (⟨0,rfl,rfl,aa⟩)):p:=h
def GF{p:Prop}(h:p:=by exact (an.e2 _ _)):p:=h
def CA{p:Prop}(h:p:=by exact (.head _ _ _)):p:=h
def gX{p:Prop}(h:p:=by exact (hQ aa)):p:=h
def CB{p:Prop}(h:p:=by exact (.cons (an.e2 _ _) .nil)):p:=h
def oZ{p:Prop}(h:p:=by exact (ad.move rfl rfl rfl)):p:=h
def MS{p:Prop}(h:p:=by exact (Nat.lt_irrefl _)):p:=h
def w8{p:Prop}(h:p:=by exact (List.Sublist.refl _)):p:=h
def MT{p:Prop}(h:p:=by exact (.tail _ _ _ _ _ (.head _ _ _))):p:=h
def w9{p:Prop}(h:p:=by exact (.cons (an.e2 _ _) (.cons (.refl _) .nil))):p:=h
def uX{p:Prop}(h:p:=by exact (.tail _ (.head _))):p:=h
def xa{p:Prop}(h:p:=by exact (ad.qo rfl rfl rfl)):p:=h
def zt{p:Prop}(h:p:=by exact (List.mem_map.2 ⟨_,List.getElem_mem _,rfl⟩)):p:=h
def tq{p:Prop}(h:p:=by exact (.cons (an.nil 1) .nil)):p:=h
def zu{p:Prop}(h:p:=by exact (ad.max2 rfl rfl rfl rfl rfl rfl)):p:=h
def xb{p:Prop}(h:p:=by exact (.cons_cons _ (.cons _ (.refl _)))):p:=h
def CC{p:Prop}(h:p:=by exact (.cons (an.nil 1) (.cons (an.nil 1) (.cons (.refl _) .nil)))):p:=h
def MU{p:Prop}(h:p:=by exact (List.sublist_cons_self _ _)):p:=h
def uY{p:Prop}(h:p:=by exact (ad.VH rfl rfl rfl ay)):p:=h
def nm{p:Prop}(h:p:=by exact (bI aa)):p:=h
def Xk{p:Prop}(h:p:=by exact (.cons _ _ _ _ (.val _) (.cons _ _ _ _ (.val _) .nil))):p:=h
def GG{p:Prop}(h:p:=by exact (ad.call .k ((zw _)))):p:=h
def Xl{p:Prop}(h:p:=by exact ⟨rfl,rfl,rfl⟩):p:=h
def Xm{p:Prop}(h:p:=by exact (.inr rfl)):p:=h
def Xn{p:Prop}(h:p:=by exact (.cons _ (.refl _))):p:=h
def xc{p:Prop}(h:p:=by exact (lQ hW)):p:=h
def CD{p:Prop}(h:p:=by exact (.tmp rfl (.tmp rfl (.tmp rfl (.nil))))):p:=h
def zx{p:Prop}(h:p:=by exact (List.length_filter_le _ _)):p:=h
def GH{p:Prop}(h:p:=by exact (.store rfl rfl rfl rfl rfl rfl rfl rfl df e9 e9)):p:=h
def CE{p:Prop}(h:p:=by exact (ad.min2 rfl rfl rfl rfl rfl rfl)):p:=h
def Xo{p:Prop}(h:p:=by exact (.tail _ _ _ _ _ (.tail _ _ _ _ _ (.head _ _ _)))):p:=h
def CF{p:Prop}(h:p:=by exact (ad.call .k ((CG _ _)))):p:=h
def zy{p:Prop}(h:p:=by exact (ad.call .k ((MV _)))):p:=h
end Go
namespace Go
abbrev aL:Value:=.slice none 0 0
abbrev aX:Value:=.int .i64 0
abbrev c1:Value:=.int .u64 0
end Go
