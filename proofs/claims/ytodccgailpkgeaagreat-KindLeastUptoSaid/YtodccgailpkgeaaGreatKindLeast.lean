/- KindLeast holds where what it reads is of bulk at most 1048576: For every program, table and number: the table that Infer gives of a formed program is closed and within every closed table, and without one of its classes it is not closed (consortlaw18.KindLeast), at every argument that the bounds of the Upto form allow. -/
import Derived.Test.YtodccgailpkgeaaGreatKindLeastP26
import Derived.Test.YtodccgailpkgeaaGreatRows
import Derived.WalkKit
import Derived.ProofKit
import Derived.OpenShut
import Derived.JoinedCond

set_option linter.unusedVariables false
set_option maxRecDepth 100000
namespace Go.Proofs.YtodccgailpkgeaaGreat.kindLeast
open Go.ChangeShapes Go.WideShapes Go.ChangeAt Go.RowKit Go.Eng Go.Eng.Fc Go.Eng.ei

theorem own : ownKnob Tryz.prog.godebug = none := by kernel_rfl

theorem ajn : laidOutB Tryz.prog = true := by kernel_rfl
theorem walk (w : World) {hf : Prog} (vc : hf.Small) {kY : bG} {sZ : Nat} (lE : sZ < 65536) {v0 v1 v2 : Value} (ai : Rel (allI w) w (aa.prog hf) v0) (ab : Rel (allI w) w (aa.ef kY) v1) (ae : Rel (allI w) w (.val (.int .u16 (sZ : Int))) v2) :
    Calls Tryz.prog 5 #[v0, v1, v2] w fun e w' => e = .returned (.bool true) ∧ Below w.heap.size w w' := by
  refine ((ajm vc kY lE []).2 w.heap.size (allI w) w [v0, v1, v2] (W8 w) ⟨by simp, .nil⟩ (.cons _ _ _ _ ai (.cons _ _ _ _ ab (.cons _ _ _ _ ae .nil)))).mono fun e w' h => ?_
  obtain ⟨aQ, H', hw, ag, az, h | ⟨v, x, _, _, h⟩⟩ := h
  · obtain ⟨v, x, rfl, aK, rfl, rfl⟩ := h
    cases aK
    exact ⟨rfl, ag.below⟩
  · exact h.elim

/-! ### THE ROW's STEP -/
abbrev sp := Rows.OpenSpec.upto Rows.kindLeastSpec
def ajo : Array Value := #[.slice none 0 0, .int .i64 0, .slice none 0 0, .slice none 0 0, .slice none 0 0, .int .i64 0]
theorem ajp {w : World} {v : Value} {base : Nat} {r : Reach} {I : a8} {t : TypeId} {x : aa} (hu : (match Tryz.prog.underlying t with | some (.int _) => true | some (.slice _) => true | _ => false) = true) (aC : Value.okWide Tryz.prog w r base t v) (h : bZ I w [x] v.cells.toList) : Rel I w x v := by
  cases v with
  | agg vs =>
    exfalso
    unfold Value.okWide at aC
    split at aC
    · rename_i e; rw [e] at hu; cases hu
    · rename_i e; rw [e] at hu; cases hu
    · unfold Cell.okWide Cell.ok at aC
      split at aC <;> simp_all
  | _ => simp only [Value.cells] at h; cases h with | cons _ _ _ _ h _ => exact h
theorem ajq {H : Type} {enc : TypeId × Value → H} {w : World} {base : Nat} {spare : Nat → Bool} {held : Bool} (n : Nat) : Reads enc Tryz.prog w base spare held n 45 (fun q : Fin 65536 => [.val (.int .u16 (q.val : Int))]) := fun fuel _ cs x h => by
  obtain ⟨q, rfl, _, hw⟩ := DataW.trod_int Tryz.underlying45 h
  simp [Lit.wf, IntKind.min, IntKind.max, IntKind.signed, IntKind.bits] at hw
  exact ⟨⟨q.toNat, by omega⟩, .cons _ _ _ _ (by show Rel _ _ (.val (.int .u16 ((q.toNat : Nat) : Int))) _; rw [Int.toNat_of_nonneg (by omega)]; exact .val _) .nil⟩
theorem u16_in {H : Type} {enc : TypeId × Value → H} {w : World} {v : Value} {d : DataW H} {bH : List MemPlace} {base Qn : Nat} {r : Reach} (aC : Value.okWide Tryz.prog w r base 45 v) (h : DataW.Trod enc Tryz.prog w Qn (fun _ => true) true 45 v d bH) : ∃ n : Nat, n < 65536 ∧ Rel (allI w) w (.val (.int .u16 (n : Int))) v := by
  obtain ⟨fuel, h⟩ := h
  obtain ⟨n, hn⟩ := ajq fuel fuel (Nat.le_refl _) _ _ h
  exact ⟨n.val, n.isLt, ajp (by kernel_rfl) aC hn⟩
set_option maxRecDepth 100000 in
theorem lifted (os : Os) (started : os.Started) (H : Type) (enc : TypeId × Value → H) (FL : Stop.Interp) :
    ReturnsInHanded {} Tryz.checked os 5 .any (sp.pre6 enc Tryz.prog Tryz.f5 Rows.kindLeastUptoRow.domain false) ((sp.at FL).post enc Tryz.prog Tryz.f5 false true false false) := by
  refine returnsInHanded_of_cond (C := Tryz.checked) (s := sp) (k := Rows.uptoSmall) rfl own started (by kernel_rfl) Tryz.func5
    (OpenSpec.witness (enc := enc) (C := Tryz.checked) (s := sp) (k := Rows.uptoSmall) rfl false ⟨#[], #[.agg ajo, .agg #[.slice none 0 0, .slice none 0 0, .slice none 0 0, .slice none 0 0], .int .u16 0], []⟩ 8 (by kernel_rfl) (by kernel_rfl) (by kernel_rfl)
      (x := ([.agg [.nil, .lit (.int .i64 0), .nil, .nil, .nil, .lit (.int .i64 0)], .agg [.nil, .nil, .nil, .nil], .lit (.int .u16 0)], [], [])) (by kernel_rfl) (by kernel_rfl) (by kernel_rfl)) ?_
  intro W base args ds gs before Vn dD alV ao _
  have Av : ∀ (j : Nat) t v, Tryz.f5.params[j]? = some t → args[j]? = some v → Value.okWide Tryz.prog W .any base t v := Vn
  have LD := dD
  obtain ⟨p, q, Fw, ajr, rfl, alW, o7⟩ := dD
  have cy : DataW.TrodAll enc Tryz.prog W 0 (fun _ => true) true Tryz.f5.params.toList args.toList ds p := Fw
  have ajs := cy
  rw [Tryz.params5] at cy Av
  obtain ⟨v0, v1, v2, d0, d1, d2, oD, dg, dh, rfl, rfl, rfl, t0, t1, t2⟩ := trodAll_three cy
  obtain ⟨rfl, rfl⟩ := trodVars_none ajr
  clear Fw Vn cy
  simp only [List.append_nil] at LD
  obtain ⟨hf, nV, ajt⟩ := Zt IL t0
  obtain ⟨kY, aS⟩ := Zv IL t1
  obtain ⟨sZ, lE, ee⟩ := u16_in (Av 2 _ _ rfl rfl) t2
  have aju : Rows.uptoBulk d0 ≤ 1048576 := by
    have ae : Rows.uptoBulkAll [d0, d1, d2] ≤ 1048576 := of_decide_eq_true ao
    simp only [Rows.uptoBulkAll] at ae; omega
  have alX : Rows.uptoBulk d1 ≤ 1048576 := by
    have ae : Rows.uptoBulkAll [d0, d1, d2] ≤ 1048576 := of_decide_eq_true ao
    simp only [Rows.uptoBulkAll] at ae; omega
  have alY : Rows.uptoBulk d2 ≤ 1048576 := by
    have ae : Rows.uptoBulkAll [d0, d1, d2] ≤ 1048576 := of_decide_eq_true ao
    simp only [Rows.uptoBulkAll] at ae; omega
  refine (walk W (Zu aju ajt) lE nV aS ee).mono fun e rI ⟨he, al⟩ => ?_
  subst he
  have cO : ∀ x ∈ oD ++ dg ++ dh, x.block < W.heap.size := fun x ag => LD.lt x ag
  exact ⟨_, rfl, W6 (pa := oD ++ dg ++ dh) (pv := []) LD (fun _ _ _ => (trodAll_cons_mk (shut_bool Tryz.underlying4 _) trodAll_mk0)) (fun sp aH => NF ajn al (of_decide_eq_true (by kernel_rfl)) ajs cO aH) (fun _ _ => rfl) (by simp)
    al (ok_one (by kernel_rfl) rfl (okWide_bool_mk Tryz.underlying4 _))⟩

theorem h0 {a b : Bool} (ab : a = true) (ae : b = true) : (a && b) = true := by rw [ab, ae]; rfl
theorem ajv {P : Program} {f : FuncId} {fn : Func} {s : ChangeSpec} {c : OpenClaim} (ai : (c.wf (OpenSpec.ofChange s)) = true) (ab : (laidOutB P) = true) (ae : (mapsRowed P) = true) (aD : (fn.params.all (P.readableRec ·)) = true) (aV : (namedTie P c.named s.vars) = true) (bl : ((c.stops == [])) = true) (cP : ((P.stops == [])) = true) (di : ((c.knobs == [])) = true) (eW : ((P.stopKnobs == [])) = true) (cQ : ((c.inPlace == P.inPlace f)) = true) (fC : ((c.unfollowed == P.unfollowed f)) = true) (k1 : ((c.recurses == P.recurses f)) = true) (nf : ((c.named == P.varsNamed f)) = true) (ps : ((c.maps == (fn.params.toList ++ s.plain.varTypes P).any (P.mapsRec ·))) = true) (tc : ((c.ifaces == (fn.params.toList ++ s.plain.varTypes P).any (P.ifacesRec ·))) = true) (q3 : ((c.mapsOut == P.mapsAmong fn.resultTypes.toList)) = true) (Bh : ((c.loops == (fn.params.toList ++ s.plain.varTypes P).any (P.loopsFrom ·))) = true) (wy : ((c.wideKeys == (fn.params.toList ++ s.plain.varTypes P ++ fn.resultTypes.toList).any (P.wideKeysFrom ·))) = true) (I7 : (s.vars.all (P.varReadable ·)) = true) (Bq : (fn.resultTypes.all (fun t => P.readableRec t && decide (t < P.types.size))) = true) (I8 : ((c.ifacesOut == fn.resultTypes.toList.any (P.ifacesRec ·))) = true) (Br : ((c.loopsOut == fn.resultTypes.toList.any (P.loopsFrom ·))) = true) (I9 : ((c.plainKeys == P.plainKeys)) = true) (Bs : (c.shortTexts.isNone) = true) (Ja : (P.stopsHeard) = true) (Bt : (P.mayEnter) = true) (Jb : ((c.lifted == P.liftsFinal)) = true) (Bu : ((P.make == some c.make)) = true) (Jc : ((c.kinds == (if c.domain.isEmpty then [] else fn.params.toList.map fun t => match P.underlying t with | some (.int k) => some k | _ => none))) = true) (Jd : ((c.pinned == c.pinnedBy)) = true) (Je : ((c.veiled == (fn.params.toList ++ s.plain.varTypes P ++ fn.resultTypes.toList).any (P.veiledRec ·))) = true) (xI : (c.veiledFits P fn.params.toList (fn.params.toList ++ s.plain.varTypes P ++ fn.resultTypes.toList)) = true) : joinedFacts P f fn s c = true := by
  unfold joinedFacts
  exact (h0 (h0 (h0 (h0 (h0 (h0 (h0 (h0 (h0 (h0 (h0 (h0 (h0 (h0 (h0 (h0 (h0 (h0 (h0 (h0 (h0 (h0 (h0 (h0 (h0 (h0 (h0 (h0 (h0 (h0 (h0 ai ab) ae) aD) aV) bl) cP) di) eW) cQ) fC) k1) nf) ps) tc) q3) Bh) wy) I7) Bq) I8) Br) I9) Bs) Ja) Bt) Jb) Bu) Jc) Jd) Je) xI)
theorem ajw : (Rows.kindLeastUptoRow.wf (OpenSpec.ofChange sp.bare)) = true := by kernel_rfl
theorem qP : (laidOutB Tryz.pinned.checked.prog) = true := by kernel_rfl
theorem nF : (mapsRowed Tryz.pinned.checked.prog) = true := by kernel_rfl
theorem sW : (Tryz.f5.params.all (Tryz.pinned.checked.prog.readableRec ·)) = true := by kernel_rfl
theorem qQ : (namedTie Tryz.pinned.checked.prog Rows.kindLeastUptoRow.named sp.bare.vars) = true := by kernel_rfl
theorem ajx : ((Rows.kindLeastUptoRow.stops == [])) = true := by kernel_rfl
theorem ajy : ((Tryz.pinned.checked.prog.stops == [])) = true := by kernel_rfl
theorem ajz : ((Rows.kindLeastUptoRow.knobs == [])) = true := by kernel_rfl
theorem ajA : ((Tryz.pinned.checked.prog.stopKnobs == [])) = true := by kernel_rfl
theorem ajB : ((Rows.kindLeastUptoRow.inPlace == Tryz.pinned.checked.prog.inPlace 5)) = true := by kernel_rfl
theorem ajC : ((Rows.kindLeastUptoRow.unfollowed == Tryz.pinned.checked.prog.unfollowed 5)) = true := by kernel_rfl
theorem ajD : ((Rows.kindLeastUptoRow.recurses == Tryz.pinned.checked.prog.recurses 5)) = true := by kernel_rfl
theorem ajE : ((Rows.kindLeastUptoRow.named == Tryz.pinned.checked.prog.varsNamed 5)) = true := by kernel_rfl
theorem ajF : ((Rows.kindLeastUptoRow.maps == (Tryz.f5.params.toList ++ sp.bare.plain.varTypes Tryz.pinned.checked.prog).any (Tryz.pinned.checked.prog.mapsRec ·))) = true := by kernel_rfl
theorem ajG : ((Rows.kindLeastUptoRow.ifaces == (Tryz.f5.params.toList ++ sp.bare.plain.varTypes Tryz.pinned.checked.prog).any (Tryz.pinned.checked.prog.ifacesRec ·))) = true := by kernel_rfl
theorem ajH : ((Rows.kindLeastUptoRow.mapsOut == Tryz.pinned.checked.prog.mapsAmong Tryz.f5.resultTypes.toList)) = true := by kernel_rfl
theorem ajI : ((Rows.kindLeastUptoRow.loops == (Tryz.f5.params.toList ++ sp.bare.plain.varTypes Tryz.pinned.checked.prog).any (Tryz.pinned.checked.prog.loopsFrom ·))) = true := by kernel_rfl
theorem ajJ : ((Rows.kindLeastUptoRow.wideKeys == (Tryz.f5.params.toList ++ sp.bare.plain.varTypes Tryz.pinned.checked.prog ++ Tryz.f5.resultTypes.toList).any (Tryz.pinned.checked.prog.wideKeysFrom ·))) = true := by kernel_rfl
theorem ajK : (sp.bare.vars.all (Tryz.pinned.checked.prog.varReadable ·)) = true := by kernel_rfl
theorem ajL : (Tryz.f5.resultTypes.all (fun t => Tryz.pinned.checked.prog.readableRec t && decide (t < Tryz.pinned.checked.prog.types.size))) = true := by kernel_rfl
theorem ajM : ((Rows.kindLeastUptoRow.ifacesOut == Tryz.f5.resultTypes.toList.any (Tryz.pinned.checked.prog.ifacesRec ·))) = true := by kernel_rfl
theorem ajN : ((Rows.kindLeastUptoRow.loopsOut == Tryz.f5.resultTypes.toList.any (Tryz.pinned.checked.prog.loopsFrom ·))) = true := by kernel_rfl
theorem ajO : ((Rows.kindLeastUptoRow.plainKeys == Tryz.pinned.checked.prog.plainKeys)) = true := by kernel_rfl
theorem ajP : (Rows.kindLeastUptoRow.shortTexts.isNone) = true := by kernel_rfl
theorem ajQ : (Tryz.pinned.checked.prog.stopsHeard) = true := by kernel_rfl
theorem ajR : (Tryz.pinned.checked.prog.mayEnter) = true := by kernel_rfl
theorem ajS : ((Rows.kindLeastUptoRow.lifted == Tryz.pinned.checked.prog.liftsFinal)) = true := by kernel_rfl
theorem ajT : ((Tryz.pinned.checked.prog.make == some Rows.kindLeastUptoRow.make)) = true := by kernel_rfl
theorem ajU : ((Rows.kindLeastUptoRow.kinds == (if Rows.kindLeastUptoRow.domain.isEmpty then [] else Tryz.f5.params.toList.map fun t => match Tryz.pinned.checked.prog.underlying t with | some (.int k) => some k | _ => none))) = true := by kernel_rfl
theorem ajV : ((Rows.kindLeastUptoRow.pinned == Rows.kindLeastUptoRow.pinnedBy)) = true := by kernel_rfl
theorem ajW : ((Rows.kindLeastUptoRow.veiled == (Tryz.f5.params.toList ++ sp.bare.plain.varTypes Tryz.pinned.checked.prog ++ Tryz.f5.resultTypes.toList).any (Tryz.pinned.checked.prog.veiledRec ·))) = true := by kernel_rfl
theorem ajX : (Rows.kindLeastUptoRow.veiledFits Tryz.pinned.checked.prog Tryz.f5.params.toList (Tryz.f5.params.toList ++ sp.bare.plain.varTypes Tryz.pinned.checked.prog ++ Tryz.f5.resultTypes.toList)) = true := by kernel_rfl
theorem ajY : joinedFacts Tryz.pinned.checked.prog 5 Tryz.f5 sp.bare Rows.kindLeastUptoRow = true :=
  ajv ajw qP nF sW qQ ajx ajy ajz ajA ajB ajC ajD ajE ajF ajG ajH ajI ajJ ajK ajL ajM ajN ajO ajP ajQ ajR ajS ajT ajU ajV ajW ajX
theorem S5 : Rows.kindLeastUptoRow.holds Tryz.pinned sp :=
  OpenClaim.holds_of_cond 5 Tryz.f5 rfl rfl rfl rfl rfl rfl rfl ⟨rfl, rfl, rfl, rfl, rfl⟩ rfl rfl rfl rfl rfl (by kernel_rfl) Tryz.func5 ajY
    (of_decide_eq_true (by kernel_rfl)) (by unfold Func.isWrapper; first | (rw [if_pos (by decide +kernel)]; kernel_rfl) | (rw [if_neg (by decide +kernel)]; exact ⟨rfl, rfl⟩))
    (fun os started H enc _ FL => lifted os started H enc FL)

/-- the statement -/
theorem proved : Rows.KindLeastUptoSaid :=
  S5
#print axioms proved
end Go.Proofs.YtodccgailpkgeaaGreat.kindLeast
