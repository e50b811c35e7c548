/- KindCloses holds where what it reads is of bulk at most 1048576: for every program and every table, which tables are closed and which nodes are safe is as stated, and the examples are as stated -/
import Derived.Test.YtodccgailpkgeaaGreatKindClosesP26
import Derived.Test.YtodccgailpkgeaaGreatRows
import Derived.WalkKit
import Derived.ProofKit
import Derived.OpenShut
import Derived.JoinedCond
set_option linter.unusedVariables false
set_option maxRecDepth 100000
namespace Go.Proofs.YtodccgailpkgeaaGreat.kindCloses
open Go.ChangeShapes Go.WideShapes Go.ChangeAt Go.RowKit Go.Eng Go.Eng.Fc Go.Eng.dO
theorem own:ownKnob Tryz.prog.godebug=none:=by kernel_rfl
theorem ake:laidOutB Tryz.prog=true:=by kernel_rfl
theorem walk(w:World){kf:Prog}(wj:kf.Small){kM:cv}{v0 v1:Value}(af:Rel (allI w) w (ab.prog kf) v0)(ae:Rel (allI w) w (ab.dI kM) v1):
    Calls Tryz.prog 3 #[v0,v1] w λe w'=>e= .returned (.bool true)/\Below w.heap.size w w':=by
  refine ((akc wj kM []).2 w.heap.size (allI w) w [v0,v1] (Wt w) ⟨by simp,.nil⟩ (.cons _ _ _ _ af (.cons _ _ _ _ ae .nil))).mono λe w' h=>?_;obtain⟨c7,H',hw,aK,aW,h | ⟨v,x,_,_,h⟩⟩:=h
  · obtain⟨v,x,rfl,bK,rfl,rfl⟩:=h
    cases bK;exact⟨rfl,aK.below⟩
  · exact h.elim
abbrev sp:=Rows.OpenSpec.upto Rows.kindClosesSpec
def akf:Array Value:=#[.slice none 0 0,.int .i64 0,.slice none 0 0,.slice none 0 0,.slice none 0 0,.int .i64 0]
set_option maxRecDepth 100000 in
theorem lifted(os:Os)(started:os.Started)(H:Type)(enc:TypeId×Value->H)(dr:Stop.Interp):
    ReturnsInHanded {} Tryz.checked os 3 .any (sp.pre6 enc Tryz.prog Tryz.f3 Rows.kindClosesUptoRow.domain false) ((sp.at dr).post enc Tryz.prog Tryz.f3 false true false false):=by
  refine returnsInHanded_of_cond (C:=Tryz.checked) (s:=sp) (k:=Rows.uptoSmall) rfl own started (by kernel_rfl) Tryz.func3
    (OpenSpec.witness (enc:=enc) (C:=Tryz.checked) (s:=sp) (k:=Rows.uptoSmall) rfl false ⟨#[],#[.agg akf,.agg #[.slice none 0 0,.slice none 0 0,.slice none 0 0,.slice none 0 0]],[]⟩ 8 (by kernel_rfl) (by kernel_rfl) (by kernel_rfl)
      (x:=([.agg [.nil,.lit (.int .i64 0),.nil,.nil,.nil,.lit (.int .i64 0)],.agg [.nil,.nil,.nil,.nil]],[],[])) (by kernel_rfl) (by kernel_rfl) (by kernel_rfl)) ?_
  intro W base args ds gs before UK rh al1 bD _;have akg:∀(j:Nat) t v,Tryz.f3.params[j]? =some t->args[j]? =some v->Value.okWide Tryz.prog W .any base t v:=UK;have KH:=rh;obtain⟨p,q,UL,Kz,rfl,al2,Ka⟩:=rh;have df:DataW.TrodAll enc Tryz.prog W 0 (λ_=>true) true Tryz.f3.params.toList args.toList ds p:=UL;have akh:=df;rw[Tryz.params3] at df akg;obtain⟨v0,v1,d0,d1,Hr,gI,rfl,rfl,rfl,t0,t1⟩:=trodAll_two df;obtain⟨rfl,rfl⟩:=trodVars_none Kz;clear UL UK df;simp only[List.append_nil] at KH;obtain⟨kf,Hq,I9⟩:=Za Hu t0;obtain⟨kM,aB⟩:=Zc Hu t1;have aki:Rows.uptoBulk d0<=1048576:=by
    have ak:Rows.uptoBulkAll [d0,d1]<=1048576:=of_decide_eq_true bD;simp only[Rows.uptoBulkAll] at ak;omega
  have al3:Rows.uptoBulk d1<=1048576:=by
    have ak:Rows.uptoBulkAll [d0,d1]<=1048576:=of_decide_eq_true bD;simp only[Rows.uptoBulkAll] at ak;omega
  refine (walk W (Zb aki I9) Hq aB).mono λe al4 ⟨he,av⟩=>?_;subst he;have k5:∀x∈Hr++gI,x.block<W.heap.size:=λx aK=>KH.lt x aK;exact⟨_,rfl,Wr (A:=Hr++gI) (D:=[]) KH (λ_ _ _=>(trodAll_cons_mk (shut_bool Tryz.underlying4 _) trodAll_mk0)) (λsp b4=>Mu ake av (of_decide_eq_true (by kernel_rfl)) akh k5 b4) (λ_ _=>rfl) (by simp)
    av (ok_one (by kernel_rfl) rfl (okWide_bool_mk Tryz.underlying4 _))⟩
theorem hg{a b:Bool}(ae:a=true)(ak:b=true):(a && b)=true:=by rw[ae,ak];rfl
theorem akj{P:Program}{f:FuncId}{fn:Func}{s:ChangeSpec}{c:OpenClaim}(af:(c.wf (OpenSpec.ofChange s))=true)(ae:(laidOutB P)=true)(ak:(mapsRowed P)=true)(aL:(fn.params.all (P.readableRec ·))=true)(bo:(namedTie P c.named s.vars)=true)(cm:((c.stops== []))=true)(dx:((P.stops== []))=true)(dF:((c.knobs== []))=true)(de:((P.stopKnobs== []))=true)(dc:((c.inPlace==P.inPlace f))=true)(hM:((c.unfollowed==P.unfollowed f))=true)(h6:((c.recurses==P.recurses f))=true)(jA:((c.named==P.varsNamed f))=true)(kq:((c.maps==(fn.params.toList++s.plain.varTypes P).any (P.mapsRec ·)))=true)(lP:((c.ifaces==(fn.params.toList++s.plain.varTypes P).any (P.ifacesRec ·)))=true)(mi:((c.mapsOut==P.mapsAmong fn.resultTypes.toList))=true)(sq:((c.loops==(fn.params.toList++s.plain.varTypes P).any (P.loopsFrom ·)))=true)(pg:((c.wideKeys==(fn.params.toList++s.plain.varTypes P++fn.resultTypes.toList).any (P.wideKeysFrom ·)))=true)(Ad:(s.vars.all (P.varReadable ·))=true)(rj:(fn.resultTypes.all (λt=>P.readableRec t && decide (t<P.types.size)))=true)(xy:((c.ifacesOut==fn.resultTypes.toList.any (P.ifacesRec ·)))=true)(tP:((c.loopsOut==fn.resultTypes.toList.any (P.loopsFrom ·)))=true)(vq:((c.plainKeys==P.plainKeys))=true)(sv:(c.shortTexts.isNone)=true)(Ae:(P.stopsHeard)=true)(Af:(P.mayEnter)=true)(HS:((c.lifted==P.liftsFinal))=true)(Ag:((P.make==some c.make))=true)(HT:((c.kinds==(if c.domain.isEmpty then [] else fn.params.toList.map λt=>match P.underlying t with | some (.int k)=>some k | _=>none)))=true)(HU:((c.pinned==c.pinnedBy))=true)(HV:((c.veiled==(fn.params.toList++s.plain.varTypes P++fn.resultTypes.toList).any (P.veiledRec ·)))=true)(wu:(c.veiledFits P fn.params.toList (fn.params.toList++s.plain.varTypes P++fn.resultTypes.toList))=true):joinedFacts P f fn s c=true:=by
  unfold joinedFacts;exact (hg (hg (hg (hg (hg (hg (hg (hg (hg (hg (hg (hg (hg (hg (hg (hg (hg (hg (hg (hg (hg (hg (hg (hg (hg (hg (hg (hg (hg (hg (hg af ae) ak) aL) bo) cm) dx) dF) de) dc) hM) h6) jA) kq) lP) mi) sq) pg) Ad) rj) xy) tP) vq) sv) Ae) Af) HS) Ag) HT) HU) HV) wu)
theorem akk:(Rows.kindClosesUptoRow.wf (OpenSpec.ofChange sp.bare))=true:=by kernel_rfl
theorem Kt:(laidOutB Tryz.pinned.checked.prog)=true:=by kernel_rfl
theorem akl:(mapsRowed Tryz.pinned.checked.prog)=true:=by kernel_rfl
theorem akm:(Tryz.f3.params.all (Tryz.pinned.checked.prog.readableRec ·))=true:=by kernel_rfl
theorem akn:(namedTie Tryz.pinned.checked.prog Rows.kindClosesUptoRow.named sp.bare.vars)=true:=by kernel_rfl
theorem ako:((Rows.kindClosesUptoRow.stops== []))=true:=by kernel_rfl
theorem akp:((Tryz.pinned.checked.prog.stops== []))=true:=by kernel_rfl
theorem akq:((Rows.kindClosesUptoRow.knobs== []))=true:=by kernel_rfl
theorem akr:((Tryz.pinned.checked.prog.stopKnobs== []))=true:=by kernel_rfl
theorem aks:((Rows.kindClosesUptoRow.inPlace==Tryz.pinned.checked.prog.inPlace 3))=true:=by kernel_rfl
theorem akt:((Rows.kindClosesUptoRow.unfollowed==Tryz.pinned.checked.prog.unfollowed 3))=true:=by kernel_rfl
theorem aku:((Rows.kindClosesUptoRow.recurses==Tryz.pinned.checked.prog.recurses 3))=true:=by kernel_rfl
theorem akv:((Rows.kindClosesUptoRow.named==Tryz.pinned.checked.prog.varsNamed 3))=true:=by kernel_rfl
theorem akw:((Rows.kindClosesUptoRow.maps==(Tryz.f3.params.toList++sp.bare.plain.varTypes Tryz.pinned.checked.prog).any (Tryz.pinned.checked.prog.mapsRec ·)))=true:=by kernel_rfl
theorem akx:((Rows.kindClosesUptoRow.ifaces==(Tryz.f3.params.toList++sp.bare.plain.varTypes Tryz.pinned.checked.prog).any (Tryz.pinned.checked.prog.ifacesRec ·)))=true:=by kernel_rfl
theorem aky:((Rows.kindClosesUptoRow.mapsOut==Tryz.pinned.checked.prog.mapsAmong Tryz.f3.resultTypes.toList))=true:=by kernel_rfl
theorem akz:((Rows.kindClosesUptoRow.loops==(Tryz.f3.params.toList++sp.bare.plain.varTypes Tryz.pinned.checked.prog).any (Tryz.pinned.checked.prog.loopsFrom ·)))=true:=by kernel_rfl
theorem akA:((Rows.kindClosesUptoRow.wideKeys==(Tryz.f3.params.toList++sp.bare.plain.varTypes Tryz.pinned.checked.prog++Tryz.f3.resultTypes.toList).any (Tryz.pinned.checked.prog.wideKeysFrom ·)))=true:=by kernel_rfl
theorem akB:(sp.bare.vars.all (Tryz.pinned.checked.prog.varReadable ·))=true:=by kernel_rfl
theorem akC:(Tryz.f3.resultTypes.all (λt=>Tryz.pinned.checked.prog.readableRec t && decide (t<Tryz.pinned.checked.prog.types.size)))=true:=by kernel_rfl
theorem akD:((Rows.kindClosesUptoRow.ifacesOut==Tryz.f3.resultTypes.toList.any (Tryz.pinned.checked.prog.ifacesRec ·)))=true:=by kernel_rfl
theorem akE:((Rows.kindClosesUptoRow.loopsOut==Tryz.f3.resultTypes.toList.any (Tryz.pinned.checked.prog.loopsFrom ·)))=true:=by kernel_rfl
theorem akF:((Rows.kindClosesUptoRow.plainKeys==Tryz.pinned.checked.prog.plainKeys))=true:=by kernel_rfl
theorem akG:(Rows.kindClosesUptoRow.shortTexts.isNone)=true:=by kernel_rfl
theorem akH:(Tryz.pinned.checked.prog.stopsHeard)=true:=by kernel_rfl
theorem akI:(Tryz.pinned.checked.prog.mayEnter)=true:=by kernel_rfl
theorem akJ:((Rows.kindClosesUptoRow.lifted==Tryz.pinned.checked.prog.liftsFinal))=true:=by kernel_rfl
theorem akK:((Tryz.pinned.checked.prog.make==some Rows.kindClosesUptoRow.make))=true:=by kernel_rfl
theorem akL:((Rows.kindClosesUptoRow.kinds==(if Rows.kindClosesUptoRow.domain.isEmpty then [] else Tryz.f3.params.toList.map λt=>match Tryz.pinned.checked.prog.underlying t with | some (.int k)=>some k | _=>none)))=true:=by kernel_rfl
theorem akM:((Rows.kindClosesUptoRow.pinned==Rows.kindClosesUptoRow.pinnedBy))=true:=by kernel_rfl
theorem akN:((Rows.kindClosesUptoRow.veiled==(Tryz.f3.params.toList++sp.bare.plain.varTypes Tryz.pinned.checked.prog++Tryz.f3.resultTypes.toList).any (Tryz.pinned.checked.prog.veiledRec ·)))=true:=by kernel_rfl
theorem akO:(Rows.kindClosesUptoRow.veiledFits Tryz.pinned.checked.prog Tryz.f3.params.toList (Tryz.f3.params.toList++sp.bare.plain.varTypes Tryz.pinned.checked.prog++Tryz.f3.resultTypes.toList))=true:=by kernel_rfl
theorem akP:joinedFacts Tryz.pinned.checked.prog 3 Tryz.f3 sp.bare Rows.kindClosesUptoRow=true:=
  akj akk Kt akl akm akn ako akp akq akr aks akt aku akv akw akx aky akz akA akB akC akD akE akF akG akH akI akJ akK akL akM akN akO
theorem RR:Rows.kindClosesUptoRow.holds Tryz.pinned sp:=
  OpenClaim.holds_of_cond 3 Tryz.f3 rfl rfl rfl rfl rfl rfl rfl ⟨rfl,rfl,rfl,rfl,rfl⟩ rfl rfl rfl rfl rfl (by kernel_rfl) Tryz.func3 akP
    (of_decide_eq_true (by kernel_rfl)) (by unfold Func.isWrapper;first | (rw[if_pos (by decide+kernel)];kernel_rfl) | (rw[if_neg (by decide+kernel)];exact⟨rfl,rfl⟩))
    (λos started H enc _ dr=>lifted os started H enc dr)
theorem proved:Rows.KindClosesUptoSaid:=
  RR
#print axioms proved
end Go.Proofs.YtodccgailpkgeaaGreat.kindCloses
