/- KindInfers holds where what it reads is of bulk at most 1048576: for every program, its table is as stated, and the examples are as stated -/
import Derived.Test.YtodccgailpkgeaaGreatKindInfersP26
import Derived.Test.YtodccgailpkgeaaGreatRows
import Derived.WalkKit
import Derived.ProofKit
import Derived.OpenShut
import Derived.JoinedCond
set_option linter.unusedVariables false
set_option maxRecDepth 100000
namespace Go.Proofs.YtodccgailpkgeaaGreat.kindInfers
open Go.ChangeShapes Go.WideShapes Go.ChangeAt Go.RowKit Go.Eng Go.Eng.Fc Go.Eng.dN
theorem own:ownKnob Tryz.prog.godebug=none:=by kernel_rfl
theorem ajo:laidOutB Tryz.prog=true:=by kernel_rfl
theorem walk(w:World){j3:Prog}(wg:j3.Small){v0:Value}(af:Rel (allI w) w (ab.prog j3) v0):
    Calls Tryz.prog 4 #[v0] w λe w'=>e= .returned (.bool true)/\Below w.heap.size w w':=by
  refine ((ajn wg []).2 w.heap.size (allI w) w [v0] (VO w) ⟨by simp,.nil⟩ (.cons _ _ _ _ af .nil)).mono λe w' h=>?_;obtain⟨c3,H',hw,aK,aU,h | ⟨v,x,_,_,h⟩⟩:=h
  · obtain⟨v,x,rfl,bH,rfl,rfl⟩:=h
    cases bH;exact⟨rfl,aK.below⟩
  · exact h.elim
abbrev sp:=Rows.OpenSpec.upto Rows.kindInfersSpec
def ajp:Array Value:=#[.slice none 0 0,.int .i64 0,.slice none 0 0,.slice none 0 0,.slice none 0 0,.int .i64 0]
set_option maxRecDepth 100000 in
theorem lifted(os:Os)(started:os.Started)(H:Type)(enc:TypeId×Value->H)(dp:Stop.Interp):
    ReturnsInHanded {} Tryz.checked os 4 .any (sp.pre6 enc Tryz.prog Tryz.f4 Rows.kindInfersUptoRow.domain false) ((sp.at dp).post enc Tryz.prog Tryz.f4 false true false false):=by
  refine returnsInHanded_of_cond (C:=Tryz.checked) (s:=sp) (k:=Rows.uptoSmall) rfl own started (by kernel_rfl) Tryz.func4
    (OpenSpec.witness (enc:=enc) (C:=Tryz.checked) (s:=sp) (k:=Rows.uptoSmall) rfl false ⟨#[],#[.agg ajp],[]⟩ 8 (by kernel_rfl) (by kernel_rfl) (by kernel_rfl)
      (x:=([.agg [.nil,.lit (.int .i64 0),.nil,.nil,.nil,.lit (.int .i64 0)]],[],[])) (by kernel_rfl) (by kernel_rfl) (by kernel_rfl)) ?_
  intro W base args ds gs before T6 q7 ak5 bD _;have ajq:∀(j:Nat) t v,Tryz.f4.params[j]? =some t->args[j]? =some v->Value.okWide Tryz.prog W .any base t v:=T6;have Kl:=q7;obtain⟨p,q,T7,Kd,rfl,ak6,JO⟩:=q7;have dZ:DataW.TrodAll enc Tryz.prog W 0 (λ_=>true) true Tryz.f4.params.toList args.toList ds p:=T7;have ajr:=dZ;rw[Tryz.params4] at dZ ajq;obtain⟨v0,d0,rfl,rfl,t0⟩:=trodAll_one dZ;obtain⟨rfl,rfl⟩:=trodVars_none Kd;clear T7 T6 dZ;simp only[List.append_nil] at Kl;obtain⟨j3,ajs,ajt⟩:=Yp OL t0;have aju:Rows.uptoBulk d0<=1048576:=by
    have ao:Rows.uptoBulkAll [d0]<=1048576:=of_decide_eq_true bD;simp only[Rows.uptoBulkAll] at ao;omega
  refine (walk W (Yq aju ajt) ajs).mono λe ak7 ⟨he,aw⟩=>?_;subst he;have kT:∀x∈p,x.block<W.heap.size:=λx aK=>Kl.lt x aK;exact⟨_,rfl,VM (A:=p) (D:=[]) Kl (λ_ _ _=>(trodAll_cons_mk (shut_bool Tryz.underlying4 _) trodAll_mk0)) (λsp b6=>L7 ajo aw (of_decide_eq_true (by kernel_rfl)) ajr kT b6) (λ_ _=>rfl) (by simp)
    aw (ok_one (by kernel_rfl) rfl (okWide_bool_mk Tryz.underlying4 _))⟩
theorem hd{a b:Bool}(ae:a=true)(ao:b=true):(a && b)=true:=by rw[ae,ao];rfl
theorem ajv{P:Program}{f:FuncId}{fn:Func}{s:ChangeSpec}{c:OpenClaim}(af:(c.wf (OpenSpec.ofChange s))=true)(ae:(laidOutB P)=true)(ao:(mapsRowed P)=true)(aV:(fn.params.all (P.readableRec ·))=true)(bu:(namedTie P c.named s.vars)=true)(cr:((c.stops== []))=true)(dK:((P.stops== []))=true)(dA:((c.knobs== []))=true)(dP:((P.stopKnobs== []))=true)(c7:((c.inPlace==P.inPlace f))=true)(hJ:((c.unfollowed==P.unfollowed f))=true)(h1:((c.recurses==P.recurses f))=true)(jq:((c.named==P.varsNamed f))=true)(kc:((c.maps==(fn.params.toList++s.plain.varTypes P).any (P.mapsRec ·)))=true)(lE:((c.ifaces==(fn.params.toList++s.plain.varTypes P).any (P.ifacesRec ·)))=true)(l8:((c.mapsOut==P.mapsAmong fn.resultTypes.toList))=true)(sg:((c.loops==(fn.params.toList++s.plain.varTypes P).any (P.loopsFrom ·)))=true)(o4:((c.wideKeys==(fn.params.toList++s.plain.varTypes P++fn.resultTypes.toList).any (P.wideKeysFrom ·)))=true)(zY:(s.vars.all (P.varReadable ·))=true)(q9:(fn.resultTypes.all (λt=>P.readableRec t && decide (t<P.types.size)))=true)(xu:((c.ifacesOut==fn.resultTypes.toList.any (P.ifacesRec ·)))=true)(tI:((c.loopsOut==fn.resultTypes.toList.any (P.loopsFrom ·)))=true)(vp:((c.plainKeys==P.plainKeys))=true)(sj:(c.shortTexts.isNone)=true)(zZ:(P.stopsHeard)=true)(z1:(P.mayEnter)=true)(HF:((c.lifted==P.liftsFinal))=true)(z6:((P.make==some c.make))=true)(HG:((c.kinds==(if c.domain.isEmpty then [] else fn.params.toList.map λt=>match P.underlying t with | some (.int k)=>some k | _=>none)))=true)(HH:((c.pinned==c.pinnedBy))=true)(HI:((c.veiled==(fn.params.toList++s.plain.varTypes P++fn.resultTypes.toList).any (P.veiledRec ·)))=true)(wm:(c.veiledFits P fn.params.toList (fn.params.toList++s.plain.varTypes P++fn.resultTypes.toList))=true):joinedFacts P f fn s c=true:=by
  unfold joinedFacts;exact (hd (hd (hd (hd (hd (hd (hd (hd (hd (hd (hd (hd (hd (hd (hd (hd (hd (hd (hd (hd (hd (hd (hd (hd (hd (hd (hd (hd (hd (hd (hd af ae) ao) aV) bu) cr) dK) dA) dP) c7) hJ) h1) jq) kc) lE) l8) sg) o4) zY) q9) xu) tI) vp) sj) zZ) z1) HF) z6) HG) HH) HI) wm)
theorem ajw:(Rows.kindInfersUptoRow.wf (OpenSpec.ofChange sp.bare))=true:=by kernel_rfl
theorem J6:(laidOutB Tryz.pinned.checked.prog)=true:=by kernel_rfl
theorem ajx:(mapsRowed Tryz.pinned.checked.prog)=true:=by kernel_rfl
theorem ajy:(Tryz.f4.params.all (Tryz.pinned.checked.prog.readableRec ·))=true:=by kernel_rfl
theorem ajz:(namedTie Tryz.pinned.checked.prog Rows.kindInfersUptoRow.named sp.bare.vars)=true:=by kernel_rfl
theorem ajA:((Rows.kindInfersUptoRow.stops== []))=true:=by kernel_rfl
theorem ajB:((Tryz.pinned.checked.prog.stops== []))=true:=by kernel_rfl
theorem ajC:((Rows.kindInfersUptoRow.knobs== []))=true:=by kernel_rfl
theorem ajD:((Tryz.pinned.checked.prog.stopKnobs== []))=true:=by kernel_rfl
theorem ajE:((Rows.kindInfersUptoRow.inPlace==Tryz.pinned.checked.prog.inPlace 4))=true:=by kernel_rfl
theorem ajF:((Rows.kindInfersUptoRow.unfollowed==Tryz.pinned.checked.prog.unfollowed 4))=true:=by kernel_rfl
theorem ajG:((Rows.kindInfersUptoRow.recurses==Tryz.pinned.checked.prog.recurses 4))=true:=by kernel_rfl
theorem ajH:((Rows.kindInfersUptoRow.named==Tryz.pinned.checked.prog.varsNamed 4))=true:=by kernel_rfl
theorem ajI:((Rows.kindInfersUptoRow.maps==(Tryz.f4.params.toList++sp.bare.plain.varTypes Tryz.pinned.checked.prog).any (Tryz.pinned.checked.prog.mapsRec ·)))=true:=by kernel_rfl
theorem ajJ:((Rows.kindInfersUptoRow.ifaces==(Tryz.f4.params.toList++sp.bare.plain.varTypes Tryz.pinned.checked.prog).any (Tryz.pinned.checked.prog.ifacesRec ·)))=true:=by kernel_rfl
theorem ajK:((Rows.kindInfersUptoRow.mapsOut==Tryz.pinned.checked.prog.mapsAmong Tryz.f4.resultTypes.toList))=true:=by kernel_rfl
theorem ajL:((Rows.kindInfersUptoRow.loops==(Tryz.f4.params.toList++sp.bare.plain.varTypes Tryz.pinned.checked.prog).any (Tryz.pinned.checked.prog.loopsFrom ·)))=true:=by kernel_rfl
theorem ajM:((Rows.kindInfersUptoRow.wideKeys==(Tryz.f4.params.toList++sp.bare.plain.varTypes Tryz.pinned.checked.prog++Tryz.f4.resultTypes.toList).any (Tryz.pinned.checked.prog.wideKeysFrom ·)))=true:=by kernel_rfl
theorem ajN:(sp.bare.vars.all (Tryz.pinned.checked.prog.varReadable ·))=true:=by kernel_rfl
theorem ajO:(Tryz.f4.resultTypes.all (λt=>Tryz.pinned.checked.prog.readableRec t && decide (t<Tryz.pinned.checked.prog.types.size)))=true:=by kernel_rfl
theorem ajP:((Rows.kindInfersUptoRow.ifacesOut==Tryz.f4.resultTypes.toList.any (Tryz.pinned.checked.prog.ifacesRec ·)))=true:=by kernel_rfl
theorem ajQ:((Rows.kindInfersUptoRow.loopsOut==Tryz.f4.resultTypes.toList.any (Tryz.pinned.checked.prog.loopsFrom ·)))=true:=by kernel_rfl
theorem ajR:((Rows.kindInfersUptoRow.plainKeys==Tryz.pinned.checked.prog.plainKeys))=true:=by kernel_rfl
theorem ajS:(Rows.kindInfersUptoRow.shortTexts.isNone)=true:=by kernel_rfl
theorem ajT:(Tryz.pinned.checked.prog.stopsHeard)=true:=by kernel_rfl
theorem ajU:(Tryz.pinned.checked.prog.mayEnter)=true:=by kernel_rfl
theorem ajV:((Rows.kindInfersUptoRow.lifted==Tryz.pinned.checked.prog.liftsFinal))=true:=by kernel_rfl
theorem ajW:((Tryz.pinned.checked.prog.make==some Rows.kindInfersUptoRow.make))=true:=by kernel_rfl
theorem ajX:((Rows.kindInfersUptoRow.kinds==(if Rows.kindInfersUptoRow.domain.isEmpty then [] else Tryz.f4.params.toList.map λt=>match Tryz.pinned.checked.prog.underlying t with | some (.int k)=>some k | _=>none)))=true:=by kernel_rfl
theorem ajY:((Rows.kindInfersUptoRow.pinned==Rows.kindInfersUptoRow.pinnedBy))=true:=by kernel_rfl
theorem ajZ:((Rows.kindInfersUptoRow.veiled==(Tryz.f4.params.toList++sp.bare.plain.varTypes Tryz.pinned.checked.prog++Tryz.f4.resultTypes.toList).any (Tryz.pinned.checked.prog.veiledRec ·)))=true:=by kernel_rfl
theorem aj0:(Rows.kindInfersUptoRow.veiledFits Tryz.pinned.checked.prog Tryz.f4.params.toList (Tryz.f4.params.toList++sp.bare.plain.varTypes Tryz.pinned.checked.prog++Tryz.f4.resultTypes.toList))=true:=by kernel_rfl
theorem aj1:joinedFacts Tryz.pinned.checked.prog 4 Tryz.f4 sp.bare Rows.kindInfersUptoRow=true:=
  ajv ajw J6 ajx ajy ajz ajA ajB ajC ajD ajE ajF ajG ajH ajI ajJ ajK ajL ajM ajN ajO ajP ajQ ajR ajS ajT ajU ajV ajW ajX ajY ajZ aj0
theorem Rf:Rows.kindInfersUptoRow.holds Tryz.pinned sp:=
  OpenClaim.holds_of_cond 4 Tryz.f4 rfl rfl rfl rfl rfl rfl rfl ⟨rfl,rfl,rfl,rfl,rfl⟩ rfl rfl rfl rfl rfl (by kernel_rfl) Tryz.func4 aj1
    (of_decide_eq_true (by kernel_rfl)) (by unfold Func.isWrapper;first | (rw[if_pos (by decide+kernel)];kernel_rfl) | (rw[if_neg (by decide+kernel)];exact⟨rfl,rfl⟩))
    (λos started H enc _ dp=>lifted os started H enc dp)
theorem proved:Rows.KindInfersUptoSaid:=
  Rf
#print axioms proved
end Go.Proofs.YtodccgailpkgeaaGreat.kindInfers
