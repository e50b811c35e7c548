/- FactSound holds: what is implied holds wherever it should; what is not implied has a bigger world that shows it. No condition. -/
import Derived.Test.YtiljpbljebfhnaaGreatSdP13
import Derived.Test.YtiljpbljebfhnaaGreatRows
import Derived.WalkKit
import Derived.ProofKit
import Derived.OpenShut

set_option linter.unusedVariables false
namespace Go.Proofs.YtiljpbljebfhnaaGreat.factSound
open Go.ChangeShapes Go.WideShapes Go.ChangeAt Go.RowKit Go.Eng Go.Eng.Fc

theorem own : ownKnob Tryz.prog.godebug = none := by kernel_rfl

theorem walk (w : World) (x0 : Gv) {v0 : Value} (h0 : Rel (allI w) w (AV.given x0) v0) :
    Calls Tryz.prog 16 #[v0] w fun e w' => e = .returned (.bool true) ∧ Below w.heap.size w w' := by
  refine ((p16 x0 []).2 w.heap.size (allI w) w [v0] (allI_ok w) ⟨by simp, .nil⟩ (.cons _ _ _ _ h0 .nil)).mono fun e w' h => ?_
  obtain ⟨I', H', hw, hx, hh, h | ⟨v, x, _, _, h⟩⟩ := h
  · obtain ⟨v, x, rfl, hr, rfl, rfl⟩ := h
    cases hr
    exact ⟨rfl, hx.below⟩
  · exact h.elim

/-! ### THE ROW's STEP -/
set_option maxRecDepth 100000 in
theorem lifted (os : Os) (started : os.Started) (H : Type) (enc : TypeId × Value → H) :
    ReturnsInHanded {} Tryz.checked os 16 .any (Rows.factSoundSpec.pre6 enc Tryz.prog Tryz.f16 Rows.factSoundRow.domain false) (Rows.factSoundSpec.post enc Tryz.prog Tryz.f16 false true false false) := by
  refine returnsInHanded_of_change (C := Tryz.checked) own started (by kernel_rfl) Tryz.func16
    (ChangeSpec.witness6 (enc := enc) (C := Tryz.checked) false ⟨#[], #[.agg givenZero], []⟩ 8 (by kernel_rfl) (by kernel_rfl) (by kernel_rfl) (by kernel_rfl)) ?_
  intro W base args ds gs before hval0 hW hcnd _
  have hval : ∀ (j : Nat) t v, Tryz.f16.params[j]? = some t → args[j]? = some v → Value.okWide Tryz.prog W .any base t v := hval0
  have hW' := hW
  obtain ⟨p, q, hA0, hV, rfl, hfz, hnd⟩ := hW
  have hA : DataW.TrodAll enc Tryz.prog W 0 (fun _ => true) true Tryz.f16.params.toList args.toList ds p := hA0
  have hAk := hA
  rw [Tryz.params16] at hA hval
  obtain ⟨v0, d0, rfl, rfl, t0⟩ := trodAll_one hA
  obtain ⟨rfl, rfl⟩ := trodVars_none hV
  clear hA0 hval0 hA
  simp only [List.append_nil] at hW'
  obtain ⟨x0, r0⟩ := given_of t0
  refine (walk W x0 r0).mono fun e W' ⟨he, hg⟩ => ?_
  subst he
  have hlt : ∀ x ∈ p, x.block < W.heap.size := fun x hx => hW'.lt x hx
  exact ⟨_, rfl, post_of_below (pa := p) (pv := []) hW' (fun _ _ _ => (trodAll_cons_mk (shut_bool Tryz.underlying4 _) trodAll_mk0)) (fun sp hs => args_stay laidOut hg (of_decide_eq_true (by kernel_rfl)) hAk hlt hs) (fun _ _ => rfl) (by simp)
    hg (ok_one (by kernel_rfl) rfl (okWide_bool_mk Tryz.underlying4 _))⟩

theorem over : Rows.factSoundRow.holds Tryz.pinned (OpenSpec.ofChange Rows.factSoundSpec) :=
  OpenClaim.holds_of_wide 16 Tryz.f16 rfl rfl rfl rfl rfl rfl rfl ⟨rfl, rfl, rfl, rfl, rfl⟩ rfl rfl rfl rfl rfl (by kernel_rfl) Tryz.func16 (by kernel_rfl)
    (of_decide_eq_true (by kernel_rfl)) (by unfold Func.isWrapper; first | (rw [if_pos (by decide +kernel)]; kernel_rfl) | (rw [if_neg (by decide +kernel)]; exact ⟨rfl, rfl⟩))
    (fun os started H enc _ => lifted os started H enc)

/-- the statement -/
theorem proved : Rows.FactSoundSaid :=
  over
#print axioms proved
end Go.Proofs.YtiljpbljebfhnaaGreat.factSound
