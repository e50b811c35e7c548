/- FactProved holds: the proof that is given proves; with a number less it does not, and with one more it does. No condition. -/
import Derived.Test.YtiljpbljebfhnaaGreatPdP10
import Derived.Test.YtiljpbljebfhnaaGreatRows
import Derived.WalkKit
import Derived.ProofKit
import Derived.OpenShut

set_option linter.unusedVariables false
namespace Go.Proofs.YtiljpbljebfhnaaGreat.factProved
open Go.ChangeShapes Go.WideShapes Go.ChangeAt Go.RowKit Go.Eng Go.Eng.Fc

theorem own : ownKnob Tryz.prog.godebug = none := by kernel_rfl

theorem walk (w : World) (x0 : Gv) (x1 : U8) (x2 : U8) {v0 v1 v2 : Value} (h0 : Rel (allI w) w (AV.given x0) v0) (h1 : Rel (allI w) w (AV.u8 x1) v1) (h2 : Rel (allI w) w (AV.u8 x2) v2) :
    Calls Tryz.prog 12 #[v0, v1, v2] w fun e w' => e = .returned (.bool true) ∧ Below w.heap.size w w' := by
  refine ((p12 x0 x1 x2 []).2 w.heap.size (allI w) w [v0, v1, v2] (allI_ok w) ⟨by simp, .nil⟩ (.cons _ _ _ _ h0 (.cons _ _ _ _ h1 (.cons _ _ _ _ h2 .nil)))).mono fun e w' h => ?_
  obtain ⟨I', H', hw, hx, hh, h | ⟨v, x, _, _, h⟩⟩ := h
  · obtain ⟨v, x, rfl, hr, rfl, rfl⟩ := h
    cases hr
    exact ⟨rfl, hx.below⟩
  · exact h.elim

/-! ### THE ROW's STEP -/
set_option maxRecDepth 100000 in
theorem lifted (os : Os) (started : os.Started) (H : Type) (enc : TypeId × Value → H) :
    ReturnsInHanded {} Tryz.checked os 12 .any (Rows.factProvedSpec.pre6 enc Tryz.prog Tryz.f12 Rows.factProvedRow.domain false) (Rows.factProvedSpec.post enc Tryz.prog Tryz.f12 false true false false) := by
  refine returnsInHanded_of_change (C := Tryz.checked) own started (by kernel_rfl) Tryz.func12
    (ChangeSpec.witness6 (enc := enc) (C := Tryz.checked) false ⟨#[], #[.agg givenZero, .int .u8 0, .int .u8 0], []⟩ 8 (by kernel_rfl) (by kernel_rfl) (by kernel_rfl) (by kernel_rfl)) ?_
  intro W base args ds gs before hval0 hW hcnd _
  have hval : ∀ (j : Nat) t v, Tryz.f12.params[j]? = some t → args[j]? = some v → Value.okWide Tryz.prog W .any base t v := hval0
  have hW' := hW
  obtain ⟨p, q, hA0, hV, rfl, hfz, hnd⟩ := hW
  have hA : DataW.TrodAll enc Tryz.prog W 0 (fun _ => true) true Tryz.f12.params.toList args.toList ds p := hA0
  have hAk := hA
  rw [Tryz.params12] at hA hval
  obtain ⟨v0, v1, v2, d0, d1, d2, q0, q1, q2, rfl, rfl, rfl, t0, t1, t2⟩ := trodAll_three hA
  obtain ⟨rfl, rfl⟩ := trodVars_none hV
  clear hA0 hval0 hA
  simp only [List.append_nil] at hW'
  obtain ⟨x0, r0⟩ := given_of t0
  obtain ⟨x1, r1⟩ := u8_of (hval 1 _ _ rfl rfl) t1
  obtain ⟨x2, r2⟩ := u8_of (hval 2 _ _ rfl rfl) t2
  refine (walk W x0 x1 x2 r0 r1 r2).mono fun e W' ⟨he, hg⟩ => ?_
  subst he
  have hlt : ∀ x ∈ q0 ++ q1 ++ q2, x.block < W.heap.size := fun x hx => hW'.lt x hx
  exact ⟨_, rfl, post_of_below (pa := q0 ++ q1 ++ q2) (pv := []) hW' (fun _ _ _ => (trodAll_cons_mk (shut_bool Tryz.underlying4 _) trodAll_mk0)) (fun sp hs => args_stay laidOut hg (of_decide_eq_true (by kernel_rfl)) hAk hlt hs) (fun _ _ => rfl) (by simp)
    hg (ok_one (by kernel_rfl) rfl (okWide_bool_mk Tryz.underlying4 _))⟩

theorem over : Rows.factProvedRow.holds Tryz.pinned (OpenSpec.ofChange Rows.factProvedSpec) :=
  OpenClaim.holds_of_wide 12 Tryz.f12 rfl rfl rfl rfl rfl rfl rfl ⟨rfl, rfl, rfl, rfl, rfl⟩ rfl rfl rfl rfl rfl (by kernel_rfl) Tryz.func12 (by kernel_rfl)
    (of_decide_eq_true (by kernel_rfl)) (by unfold Func.isWrapper; first | (rw [if_pos (by decide +kernel)]; kernel_rfl) | (rw [if_neg (by decide +kernel)]; exact ⟨rfl, rfl⟩))
    (fun os started H enc _ => lifted os started H enc)

/-- the statement -/
theorem proved : Rows.FactProvedSaid :=
  over
#print axioms proved
end Go.Proofs.YtiljpbljebfhnaaGreat.factProved
