/- Part 8 of the proof: contracts of functions of the program and what they need. No condition beyond those that each theorem names. -/
import Derived.Test.YtodccgailpkgeaaGreatKindLeastP7
set_option maxHeartbeats 1000000
set_option linter.unusedVariables false
namespace Go.Eng
section
variable{c:Ctx}{r:Option Nat}{P:Program}{ops:Array Oper}{l L:List Oper}{st:dn}{env:List (Nat×aa)}{H:List aj}{Q:Exit->Act->World->Prop}{n k:Nat}{K:List (Nat×aa)->Prop}
theorem Yk(h:au c r P ops l st Q):au c r P ops l st Q:=h
theorem Yl(h:bU P H L n l env K):bU P H L n l env K:=h
theorem Ym(h:bk c r P l Q k st):bk c r P l Q k st:=h
end
def Yn:Op->Nat
 | .move .. =>0
 | .assign .. =>0
 | .fieldAddr .. =>1
 | .load .. =>1
 | .binOp .. =>2
 | .call .. =>3
 | .indexAddr .. =>4
 | .extract .. =>5
 | .unOp .. =>6
 | .pick .. =>7
 | .nilCheck .. =>8
 | .box .. =>9
 | .buildSlice .. =>10
 | .build .. =>11
 | .makeFunc .. =>12
 | _=>99
theorem ji(n:Nat){P:Program}{H:List aj}{ρ:Nat->Option aa}{o:Oper}{x:aa}(_:Yn o.op=n)(h:af P H ρ o x):af P H ρ o x:=h
theorem Oy{p:Prop}(h:p:=by
  first
   | exact ji 0 fM (by first | exact af.move rfl rfl rfl | exact af.assign rfl rfl rfl)
   | exact ji 1 fM (by first | exact af.FQ rfl rfl rfl rfl | exact af.FR rfl rfl rfl rfl | exact af.eN rfl rfl rfl rfl | exact af.lr rfl rfl rfl (hm:=va) (hy:=by exact rfl) | exact af.zi rfl rfl rfl rfl | exact af.Cr rfl rfl rfl (hm:=va) (hy:=by exact rfl) (hn:=by exact rfl))
   | exact ji 2 fM (by first | exact af.cmp rfl rfl rfl rfl rfl rfl | exact af.arith rfl rfl rfl rfl rfl rfl (wrap64 ad) | exact af.MK (op:=.eql) rfl rfl rfl rfl rfl | exact af.ML (op:=.eql) rfl rfl rfl rfl rfl)
   | exact ji 3 fM Cu
   | exact ji 4 fM (by first | exact af.iQ rfl rfl rfl rfl rfl tG | exact af.h1 rfl rfl rfl rfl rfl tG | exact af.CB rfl rfl rfl rfl rfl tG | exact af.CC rfl rfl rfl rfl rfl tG)
   | exact ji 5 fM (by first | exact af.extract rfl rfl rfl rfl)
   | exact ji 6 fM (by first | exact af.not rfl rfl rfl)
   | exact ji 7 fM (by first | exact af.pick rfl rfl rfl rfl rfl Cx Cx)
   | exact ji 8 fM hH
   | exact ji 9 fM (by first | exact af.MO rfl rfl rfl rfl)
   | exact ji 10 fM L3
   | exact ji 11 fM (by first | exact af.zJ rfl rfl c4 rfl)
   | exact ji 12 fM L1):p:=h
theorem Oz{G p:Prop}(al:G)(h:G->p:=by
  intro al
  first
   | exact ji 0 fM (by first | exact af.move rfl rfl (cL al) | exact af.assign rfl rfl (cL al))
   | exact ji 1 fM (by first | exact af.FQ rfl rfl (cL al) rfl | exact af.FR rfl rfl (cL al) rfl | exact af.eN rfl rfl (cL al) rfl | exact af.lr rfl rfl (cL al) (hm:=va) (hy:=by exact rfl) | exact af.zi rfl rfl (cL al) rfl | exact af.Cr rfl rfl (cL al) (hm:=va) (hy:=by exact rfl) (hn:=by exact rfl))
   | exact ji 2 fM (by first | exact af.cmp rfl rfl rfl (cL al) (cL al) rfl | exact af.arith rfl rfl rfl (cL al) (cL al) rfl (wrap64 ad) | exact af.MK (op:=.eql) rfl rfl (cL al) rfl (cL al) | exact af.ML (op:=.eql) rfl rfl (cL al) rfl (cL al))
   | exact ji 3 fM (by first | exact af.sm rfl rfl (cL al) | exact af.LI rfl rfl (cL al) | exact af.Cv rfl rfl (cL al) | exact af.LJ rfl rfl (cL al))
   | exact ji 4 fM (by first | exact af.iQ rfl rfl (cL al) rfl (cL al) tG | exact af.h1 rfl rfl (cL al) rfl (cL al) tG | exact af.CB rfl rfl (cL al) rfl (cL al) tG | exact af.CC rfl rfl (cL al) rfl (cL al) tG)
   | exact ji 5 fM (by first | exact af.extract rfl rfl (cL al) rfl)
   | exact ji 6 fM (by first | exact af.not rfl rfl (cL al))
   | exact ji 7 fM (by first | exact af.pick rfl rfl (cL al) rfl rfl Cx Cx)
   | exact ji 8 fM (by first | exact af.nilCheck rfl rfl (cL al) | exact af.LF rfl rfl (cL al) | exact af.LG rfl rfl (cL al))
   | exact ji 9 fM (by first | exact af.MO rfl rfl (cL al) rfl)
   | exact ji 10 fM L3
   | exact ji 11 fM (by first | exact af.zJ rfl rfl c4 rfl)
   | exact ji 12 fM L1):p:=h al
theorem bt{goal next:Prop}(k:next)(h:Hid next->goal:=by
  intro k
  first
   | ((with_reducible refine Yk ?_);first | refine XS ?_ | refine au.bB rfl rfl rfl Oy ?_ | refine au.cb rfl rfl rfl rfl rfl rfl (λal=>Oz al) ?_ | (with_reducible refine au.nil ?_))
   | ((with_reducible refine Yl ?_);first | refine bU.bB rfl rfl rfl Oy ?_ | refine bU.cb rfl rfl rfl rfl rfl (λal=>Oz al) ?_ | refine bU.nil ?_)
   | ((with_reducible refine Ym ?_);first | refine bk.WJ _ ay rfl ?_ | refine bk.one ay rfl ?_)
   | with_reducible refine aR.bL ?_
   | refine ib ?_
  exact k.out):goal:=h ⟨k⟩
theorem bC{goal next:Prop}(k:next)(h:Hid next->goal:=by
  intro k
  iterate 2 refine bt ?_
  exact k.out):goal:=h ⟨k⟩
theorem bg{goal next:Prop}(k:next)(h:Hid next->goal:=by
  intro k
  iterate 3 refine bt ?_
  exact k.out):goal:=h ⟨k⟩
theorem bI{goal next:Prop}(k:next)(h:Hid next->goal:=by
  intro k
  iterate 4 refine bt ?_
  exact k.out):goal:=h ⟨k⟩
theorem bz{goal next:Prop}(k:next)(h:Hid next->goal:=by
  intro k
  iterate 5 refine bt ?_
  exact k.out):goal:=h ⟨k⟩
theorem aT{goal next:Prop}(k:next)(h:Hid next->goal:=by
  intro k
  iterate 6 refine bt ?_
  exact k.out):goal:=h ⟨k⟩
theorem bn{goal next:Prop}(k:next)(h:Hid next->goal:=by
  intro k
  iterate 7 refine bt ?_
  exact k.out):goal:=h ⟨k⟩
theorem bs{goal next:Prop}(k:next)(h:Hid next->goal:=by
  intro k
  iterate 8 refine bt ?_
  exact k.out):goal:=h ⟨k⟩
theorem bS{goal next:Prop}(k:next)(h:Hid next->goal:=by
  intro k
  iterate 9 refine bt ?_
  exact k.out):goal:=h ⟨k⟩
theorem c6{goal next:Prop}(k:next)(h:Hid next->goal:=by
  intro k
  iterate 10 refine bt ?_
  exact k.out):goal:=h ⟨k⟩
theorem cw{goal next:Prop}(k:next)(h:Hid next->goal:=by
  intro k
  iterate 11 refine bt ?_
  exact k.out):goal:=h ⟨k⟩
theorem cT{goal next:Prop}(k:next)(h:Hid next->goal:=by
  intro k
  iterate 12 refine bt ?_
  exact k.out):goal:=h ⟨k⟩
theorem ev{goal next:Prop}(k:next)(h:Hid next->goal:=by
  intro k
  iterate 13 refine bt ?_
  exact k.out):goal:=h ⟨k⟩
theorem eb{goal next:Prop}(k:next)(h:Hid next->goal:=by
  intro k
  iterate 14 refine bt ?_
  exact k.out):goal:=h ⟨k⟩
theorem fk{goal next:Prop}(k:next)(h:Hid next->goal:=by
  intro k
  iterate 15 refine bt ?_
  exact k.out):goal:=h ⟨k⟩
theorem lL{goal next:Prop}(k:next)(h:Hid next->goal:=by
  intro k
  iterate 16 refine bt ?_
  exact k.out):goal:=h ⟨k⟩
theorem hB{goal next:Prop}(k:next)(h:Hid next->goal:=by
  intro k
  iterate 17 refine bt ?_
  exact k.out):goal:=h ⟨k⟩
theorem kC{goal next:Prop}(k:next)(h:Hid next->goal:=by
  intro k
  iterate 18 refine bt ?_
  exact k.out):goal:=h ⟨k⟩
theorem yk{goal next:Prop}(k:next)(h:Hid next->goal:=by
  intro k
  iterate 19 refine bt ?_
  exact k.out):goal:=h ⟨k⟩
theorem ma{goal next:Prop}(k:next)(h:Hid next->goal:=by
  intro k
  iterate 20 refine bt ?_
  exact k.out):goal:=h ⟨k⟩
theorem qW{goal next:Prop}(k:next)(h:Hid next->goal:=by
  intro k
  iterate 21 refine bt ?_
  exact k.out):goal:=h ⟨k⟩
theorem oz{goal next:Prop}(k:next)(h:Hid next->goal:=by
  intro k
  iterate 22 refine bt ?_
  exact k.out):goal:=h ⟨k⟩
theorem p7{goal next:Prop}(k:next)(h:Hid next->goal:=by
  intro k
  iterate 23 refine bt ?_
  exact k.out):goal:=h ⟨k⟩
theorem yl{goal next:Prop}(k:next)(h:Hid next->goal:=by
  intro k
  iterate 24 refine bt ?_
  exact k.out):goal:=h ⟨k⟩
theorem HW{goal next:Prop}(k:next)(h:Hid next->goal:=by
  intro k
  iterate 25 refine bt ?_
  exact k.out):goal:=h ⟨k⟩
theorem AM{goal next:Prop}(k:next)(h:Hid next->goal:=by
  intro k
  iterate 26 refine bt ?_
  exact k.out):goal:=h ⟨k⟩
theorem OA{goal next:Prop}(k:next)(h:Hid next->goal:=by
  intro k
  iterate 27 refine bt ?_
  exact k.out):goal:=h ⟨k⟩
theorem HX{goal next:Prop}(k:next)(h:Hid next->goal:=by
  intro k
  iterate 28 refine bt ?_
  exact k.out):goal:=h ⟨k⟩
theorem OB{goal next:Prop}(k:next)(h:Hid next->goal:=by
  intro k
  iterate 33 refine bt ?_
  exact k.out):goal:=h ⟨k⟩
theorem Yo{goal next:Prop}(k:next)(h:Hid next->goal:=by
  intro k
  iterate 38 refine bt ?_
  exact k.out):goal:=h ⟨k⟩
theorem Yp{goal next:Prop}(k:next)(h:Hid next->goal:=by
  intro k
  iterate 40 refine bt ?_
  exact k.out):goal:=h ⟨k⟩
theorem Yq{goal next:Prop}(k:next)(h:Hid next->goal:=by
  intro k
  iterate 44 refine bt ?_
  exact k.out):goal:=h ⟨k⟩
theorem Yr{goal next:Prop}(k:next)(h:Hid next->goal:=by
  intro k
  iterate 46 refine bt ?_
  exact k.out):goal:=h ⟨k⟩
theorem Ys{goal next:Prop}(k:next)(h:Hid next->goal:=by
  intro k
  iterate 53 refine bt ?_
  exact k.out):goal:=h ⟨k⟩
theorem Yt{goal next:Prop}(k:next)(h:Hid next->goal:=by
  intro k
  iterate 56 refine bt ?_
  exact k.out):goal:=h ⟨k⟩
theorem Yu{goal next:Prop}(k:next)(h:Hid next->goal:=by
  intro k
  iterate 76 refine bt ?_
  exact k.out):goal:=h ⟨k⟩
theorem aZ{goal hz iV p q:Prop}(lI:p->hz)(c1:q->iV)(h:Hid (p->hz)->Hid (q->iV)->goal:=by
  intro lI c1;exact aq.cond rfl (λh=>lI.out (dZ h)) (λh=>c1.out (dZ h))):goal:=h ⟨lI⟩ ⟨c1⟩
theorem fR{P:Program}{st:dn}{fn:Func}{B:Nat}{cl:a8}{aO:World}{n:Nat}{bw E:aa->List aj->Prop}{ys:List aa}(rs:List ResultVar)(H':List aj)(fE:bw (kU ys) H')(aK:fn.results=rs.toArray:=by exact rfl)(hy:jy P st rs ys:=by
  first | exact .nil | exact .tmp rfl .nil | exact .tmp rfl (.tmp rfl .nil) | exact .tmp rfl (.tmp rfl (.tmp rfl .nil)) | exact .zg inferInstance rfl va rfl rfl .nil | exact .zh inferInstance rfl rfl .nil)
  (b0:H'.Sublist st.H:=by repeat (first | exact List.Sublist.refl _ | refine List.Sublist.cons _ ?_)):aR ⟨B,cl,aO,n,[]⟩ st .ret (bodyPost P fn (fD B cl aO bw E)):=aR.c5 aK hy (bO.refl _) b0 fE
theorem jj{P:Program}{st:dn}{fn:Func}{B:Nat}{cl:a8}{aO:World}{n:Nat}{bw E:aa->List aj->Prop}{ys:List aa}(rs:List ResultVar)(H':List aj)(fE:bw (kU ys) H')(aK:fn.results=rs.toArray:=by exact rfl)(hy:jy P st rs ys:=by
  first | exact .nil | exact .tmp rfl .nil | exact .tmp rfl (.tmp rfl .nil) | exact .tmp rfl (.tmp rfl (.tmp rfl .nil)) | exact .zg inferInstance rfl va rfl rfl .nil | exact .zh inferInstance rfl rfl .nil)
  (b0:H'.Sublist st.H:=by repeat (first | exact List.Sublist.refl _ | refine List.Sublist.cons _ ?_)):aR ⟨B,cl,aO,n,[]⟩ st .normal (bodyPost P fn (fD B cl aO bw E)):=aR.oY aK hy (bO.refl _) b0 fE
theorem gm{c:Ctx}{st st':Go.Eng.dn}{Q:Exit->Act->World->Prop}{J:Go.Eng.dn->Prop}(bF:J st')(he:mV st'.env st.env:=by repeat (first | exact trivial | refine⟨rfl,?_⟩))
  (b0:st'.H.Sublist st.H:=by repeat (first | exact List.Sublist.refl _ | refine List.Sublist.cons _ ?_)):aR c st .normal (Exit.then (λa w=>∃st',J st'/\Sat c st' a w) Q):=aR.oV bF he b0
theorem bh{P:Program}{f:FuncId}{fn:Func}{code:Code}{xs:List aa}{H:List aj}{bw:aa->List aj->Prop}{E:aa->List aj->Prop}{n:Nat}(aP:P.funcs[f]? =some fn)(h:∀B I w,aq ⟨B,I,w,n,[]⟩ none P code ⟨oi 0 xs,H⟩ (bodyPost P fn (fD B I w bw E)))(aw:fn.body=some code:=by exact rfl)(qp:(fn.name== "runtime.NumGoroutine")=false:=by kernel_rfl)(hn:fn.ntmps=n:=by exact rfl)(ax:Nat.ble xs.length n=true:=by exact rfl):b1 P f xs H bw E:=b1.mk' aP aw qp hn ax h
theorem gZ.k{P:Program}{ρ:Nat->Option aa}{o:Oper}{x:Operand}{args:Array Operand}{iI:Array TypeId}{f:FuncId}{bM cs:List aa}{ys:List (Bool×aa)}{g:Bool}{xs:List aa}(h:o.op= .call {callee:=.value x,args:=args,argTypes:=iI}:=by exact rfl)(ag:bf ρ x=some (g,.fn (.func f) bM cs):=by exact rfl)(al:g=true:=by exact rfl)(bN:j2 ρ args.toList=some ys:=by exact rfl)(nw:ys.all (·.1)=true:=by exact rfl)(yi:bM++ys.map (·.2)++cs=xs:=by exact rfl):gZ P ρ o f xs:=yi▸gZ.mk' h ag al bN nw
theorem aG{c:Ctx}{r:Option Nat}{P:Program}{ops:Array Oper}{rest:List Oper}{o:Oper}{d:Nat}{x:aa}{env:List (Nat×aa)}{H:List aj}{Q:Exit->Act->World->Prop}(h:af P H (aX env) o x)(next:au c r P ops rest ⟨(d,x)::env,H⟩ Q)(al:o.guard=none:=by exact rfl)(aN:o.dst=some d:=by exact rfl)(hn:Nat.blt d c.n=true:=by exact rfl):au c r P ops (o::rest) ⟨env,H⟩ Q:=au.bB al aN hn h next
theorem dE{c:Ctx}{r:Option Nat}{P:Program}{ops:Array Oper}{rest:List Oper}{o:Oper}{d:Nat}{env:List (Nat×aa)}{H:List aj}{Q:Exit->Act->World->Prop}{f:FuncId}{xs:List aa}{bw:aa->List aj->Prop}(ak:gZ P (aX env) o f xs)(h:dC c.B P f xs H bw (λ_ _=>False))(next:∀y H',bw y H'->au c r P ops rest ⟨(d,y)::env,H'⟩ Q)(al:o.guard=none:=by exact rfl)(aN:o.dst=some d:=by exact rfl)(hn:Nat.blt d c.n=true:=by exact rfl):au c r P ops (o::rest) ⟨env,H⟩ Q:=au.GP al aN hn ak h next
end Go.Eng

