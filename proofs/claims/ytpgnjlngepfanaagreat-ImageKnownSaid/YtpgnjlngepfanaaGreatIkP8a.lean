/- Forms of the definitions that the kernel runs fast, each proved equal. No condition. -/
import Derived.Test.YtpgnjlngepfanaaGreatIkP7
import Derived.KernelRfl
set_option linter.unusedVariables false
set_option linter.unusedSimpArgs false
set_option maxRecDepth 100000
namespace Go.EvK
open Go.Eng Go.Ev
abbrev t0 : Type := Bool → Bool
noncomputable def l0 : t0 := (fun x0 => (@Bool.rec (fun _ => Bool) Bool.false Bool.true x0))
theorem l0_eq : ∀ x0, (Eq (l0 x0) (@saysT._sparseCasesOn_1 (fun _ => Bool) x0 Bool.true (fun _ => Bool.false))) := by intro t; cases t <;> (intros; rfl)
abbrev t1 : Type := Value → Bool
noncomputable def l1 : t1 := (fun x0 => (@Value.rec (fun _ => Bool) (fun _ => PUnit.{1}) (fun _ => PUnit.{1}) (fun x1 => (l0 x1)) (fun _ _ => Bool.false) (fun _ _ => Bool.false) (fun _ _ _ => Bool.false) (fun _ => Bool.false) (fun _ => Bool.false) (fun _ _ _ => Bool.false) (fun _ => Bool.false) (fun _ => Bool.false) (fun _ _ _ _ _ => Bool.false) Bool.false (fun _ _ _ => Bool.false) Bool.false (fun _ _ => Bool.false) (fun _ _ => Bool.false) (fun _ _ => PUnit.unit.{1}) PUnit.unit.{1} (fun _ _ _ _ => PUnit.unit.{1}) x0))
theorem l1_eq : ∀ x0, (Eq (l1 x0) (@guardV._sparseCasesOn_2 (fun _ => Bool) x0 (fun x1 => (l0 x1)) (fun _ => Bool.false))) := by intro t; cases t <;> (intros; rfl)
abbrev t2 : Type := CV → Bool
noncomputable def l2 : t2 := (fun x0 => (@CV.rec (fun _ => Bool) (fun _ => PUnit.{1}) Bool.false (fun x1 => (l1 x1)) (fun _ _ => Bool.false) (fun _ _ _ _ _ => Bool.false) Bool.false (fun _ => Bool.false) (fun _ _ => Bool.false) (fun _ _ => Bool.false) (fun _ _ _ _ _ => Bool.false) (fun _ => Bool.false) (fun _ _ _ => Bool.false) PUnit.unit.{1} (fun _ _ _ _ => PUnit.unit.{1}) x0))
theorem l2_eq : ∀ x0, (Eq (l2 x0) (@codeD._sparseCasesOn_2 (fun _ => Bool) x0 (fun x1 => (l1 x1)) (fun _ => Bool.false))) := by intro t; cases t <;> (intros; rfl)
abbrev t3 : Type := Ret → Bool
noncomputable def l3 : t3 := (fun x0 => (@Ret.rec (fun _ => Bool) (fun x1 _ => (l2 x1)) (fun _ _ => Bool.false) x0))
theorem l3_eq : ∀ x0, (Eq (l3 x0) (@regP._sparseCasesOn_2 (fun _ => Bool) x0 (fun x1 _ => (l2 x1)) (fun _ => Bool.false))) := by intro t; cases t <;> (intros; rfl)
abbrev t4 : Type := Option Ret
abbrev t5 : Type := t4 → Bool
noncomputable def l4 : t5 := (fun x0 => (@Option.rec Ret (fun _ => Bool) Bool.false (fun x1 => (l3 x1)) x0))
theorem l4_eq : ∀ x0, (Eq (l4 x0) (@methV._sparseCasesOn_2 Ret (fun _ => Bool) x0 (fun x1 => (l3 x1)) (fun _ => Bool.false))) := by intro t; cases t <;> (intros; rfl)
abbrev t6 : Type := FuncId → Bool
abbrev t7 : Type := List CV
abbrev t8 : Type := S → t4
abbrev t9 : Type := t7 → t8
noncomputable def l5 : t9 := (fun x0 => (@List.rec CV (fun _ => t8) (fun x1 => (some (Ret.ok (CV.val (Value.bool Bool.true)) x1))) (fun _ _ _ _ => none) x0))
theorem l5_eq : ∀ x0 x1, (Eq (l5 x0 x1) (@methV._sparseCasesOn_1 CV (fun _ => t4) x0 (some (Ret.ok (CV.val (Value.bool Bool.true)) x1)) (fun _ => none))) := by intro t; cases t <;> (intros; rfl)
abbrev t10 : Type := t7 → CV
abbrev t11 : Type := CV → t10
abbrev t12 : Type := t7 → t11
noncomputable def l7 : t12 := (fun x0 => (@List.rec CV (fun _ => t11) (fun x1 _ => x1) (fun _ _ _ x4 x5 => (CV.tup (x4 :: x5))) x0))
theorem l7_eq : ∀ x0 x1 x2, (Eq (l7 x0 x1 x2) (@methV._sparseCasesOn_1 CV (fun _ => CV) x0 x1 (fun _ => (CV.tup (x1 :: x2))))) := by intro t; cases t <;> (intros; rfl)
abbrev t13 : Type := t7 → t10
noncomputable def l8 : t13 := (fun x0 => (@List.rec CV (fun _ => t10) (fun x1 => (CV.tup x1)) (fun x1 x2 _ _ => (l7 x2 x1 x2)) x0))
theorem l8_eq : ∀ x0 x1, (Eq (l8 x0 x1) (@setPs._sparseCasesOn_1 CV (fun _ => CV) x0 (fun x2 x3 => (l7 x3 x2 x3)) (fun _ => (CV.tup x1)))) := by intro t; cases t <;> (intros; rfl)
noncomputable def k_tupV : t10 := (fun x0 => (l8 x0 x0))
theorem k_tupV_eq : @k_tupV = tupV := by
  delta k_tupV tupV
  simp only [l8_eq, l7_eq]
  all_goals kernel_rfl

abbrev t14 : Type := Tr CV
abbrev t15 : Type := t9 → t4
abbrev t16 : Type := S → t15
abbrev t17 : Type := t14 → t16
abbrev t18 : Type := Program → t17
abbrev t19 : Type := CV → t4
abbrev t20 : Type := S → t19
abbrev t21 : Type := t18 → t20
abbrev t22 : Type := t9 → t21
abbrev t23 : Type := t14 → t22
abbrev t24 : Type := Program → t23
abbrev t25 : Type := t7 → t24
noncomputable def l9 : t25 := (fun x0 => (@List.rec CV (fun _ => t24) (fun x1 x2 x3 x4 x5 x6 => (x4 x1 x2 x5 (fun x7 x8 => (x3 (x6 :: x7) x8)))) (fun _ _ _ _ _ _ _ _ _ => none) x0))
theorem l9_eq : ∀ x0 x1 x2 x3 x4 x5 x6, (Eq (l9 x0 x1 x2 x3 x4 x5 x6) (@methV._sparseCasesOn_1 CV (fun _ => t4) x0 (x4 x1 x2 x5 (fun x7 x8 => (x3 (x6 :: x7) x8))) (fun _ => none))) := by intro t; cases t <;> (intros; rfl)
abbrev t26 : Type := t18 → t8
abbrev t27 : Type := t9 → t26
abbrev t28 : Type := t14 → t27
abbrev t29 : Type := Program → t28
abbrev t30 : Type := t7 → t29
noncomputable def l10 : t30 := (fun x0 => (@List.rec CV (fun _ => t29) (fun _ _ _ _ _ => none) (fun x1 x2 _ x4 x5 x6 x7 x8 => (l9 x2 x4 x5 x6 x7 x8 x1)) x0))
theorem l10_eq : ∀ x0 x1 x2 x3 x4 x5, (Eq (l10 x0 x1 x2 x3 x4 x5) (@setPs._sparseCasesOn_1 CV (fun _ => t4) x0 (fun x6 x7 => (l9 x7 x1 x2 x3 x4 x5 x6)) (fun _ => none))) := by intro t; cases t <;> (intros; rfl)
abbrev t31 : Type := Option t7
abbrev t32 : Type := t7 → t31
abbrev t33 : Type := Nat → t32
noncomputable def k_takeN : t33 := (fun x0 x1 => (@Nat.rec (fun _ => t32) (fun _ => (some [])) (fun _ x3 x4 => (@List.rec CV (fun _ => t31) none (fun x5 x6 _ => (@Option.rec t7 (fun _ => t31) none (fun x8 => (some (x5 :: x8))) (x3 x6))) x4)) x0 x1))
theorem k_takeN_law : ∀ x0 x1, (Eq (k_takeN x0 x1) (takeN x0 x1)) := by
  intro t
  induction t with
  | zero  =>
    intro z0
    show ((fun (_ : t7) => (some [])) z0) = _
    conv => rhs; rw [Ev.takeN.eq_def]
    all_goals kernel_rfl
  | succ y0 ih0 =>
    intro z0
    have e0 : (fun (x0 : t7) => (k_takeN y0 x0)) = (fun (x0 : t7) => (takeN y0 x0)) := by
      funext z0; exact ih0 z0
    show ((fun (_ : Nat) (x1 : t32) (x2 : t7) => (@List.rec CV (fun (_ : t7) => t31) none (fun (x3 : CV) (x4 : t7) (_ : t31) => (@Option.rec t7 (fun (_ : t31) => t31) none (fun (x6 : t7) => (some (x3 :: x6))) (x1 x4))) x2)) y0 (fun (x0 : t7) => (k_takeN y0 x0)) z0) = _
    rw [e0]
    conv => rhs; rw [Ev.takeN.eq_def]
    all_goals kernel_rfl
theorem k_takeN_eq : @k_takeN = takeN := by
  funext a0 a1; exact k_takeN_law a0 a1
noncomputable def k_dropN : t33 := (fun x0 x1 => (@Nat.rec (fun _ => t32) (fun x2 => (some x2)) (fun _ x3 x4 => (@List.rec CV (fun _ => t31) none (fun _ x6 _ => (x3 x6)) x4)) x0 x1))
theorem k_dropN_law : ∀ x0 x1, (Eq (k_dropN x0 x1) (dropN x0 x1)) := by
  intro t
  induction t with
  | zero  =>
    intro z0
    show ((fun (x0 : t7) => (some x0)) z0) = _
    conv => rhs; rw [Ev.dropN.eq_def]
    all_goals kernel_rfl
  | succ y0 ih0 =>
    intro z0
    have e0 : (fun (x0 : t7) => (k_dropN y0 x0)) = (fun (x0 : t7) => (dropN y0 x0)) := by
      funext z0; exact ih0 z0
    show ((fun (_ : Nat) (x1 : t32) (x2 : t7) => (@List.rec CV (fun (_ : t7) => t31) none (fun (_ : CV) (x4 : t7) (_ : t31) => (x1 x4)) x2)) y0 (fun (x0 : t7) => (k_dropN y0 x0)) z0) = _
    rw [e0]
    conv => rhs; rw [Ev.dropN.eq_def]
    all_goals kernel_rfl
theorem k_dropN_eq : @k_dropN = dropN := by
  funext a0 a1; exact k_dropN_law a0 a1
abbrev t34 : Type := Nat → t31
abbrev t35 : Type := Nat → t34
abbrev t36 : Type := t7 → t35
noncomputable def k_part : t36 := (fun x0 x1 x2 => (@Option.rec t7 (fun _ => t31) none (fun x3 => ((fun x4 => (k_takeN x2 x4)) x3)) (k_dropN x1 x0)))
theorem k_part_eq : @k_part = Ev.part := by
  delta k_part Ev.part
  rw [k_dropN_eq, k_takeN_eq]
  all_goals kernel_rfl

abbrev t37 : Type := t9 → t8
abbrev t38 : Type := Nat → t37
abbrev t39 : Type := Nat → t38
abbrev t40 : Type := CO → t39
noncomputable def l12 : t40 := (fun x0 => (@CO.rec (fun _ => t39) (fun _ x2 _ x4 x5 x6 x7 => (@Option.rec t7 (fun _ => t4) none (fun x8 => ((fun x9 => (x6 x9 x7)) x8)) (k_part x2 x4 x5))) (fun _ _ _ _ _ _ _ => none) (fun _ _ _ _ _ _ _ _ _ _ _ _ => none) (fun _ _ _ _ => none) (fun _ _ _ _ => none) x0))
theorem l12_eq : ∀ x0 x1 x2 x3 x4, (Eq (l12 x0 x1 x2 x3 x4) (@rdRow._sparseCasesOn_1 (fun _ => t4) x0 (fun _ x6 _ => (@Option.rec t7 (fun _ => t4) none (fun x8 => ((fun x9 => (x3 x9 x4)) x8)) (k_part x6 x1 x2))) (fun _ => none))) := by intro t; cases t <;> (intros; rfl)
abbrev t41 : Type := Nat → t4
abbrev t42 : Type := t41 → t4
abbrev t43 : Type := Nat → t42
noncomputable def k_fN_Ret : t43 := (fun x0 x1 => (@Nat.rec (fun _ => t4) (x1 (nat_lit 0)) (fun x2 _ => ((fun x4 => (x1 (Nat.add x4 (nat_lit 1)))) x2)) x0))
theorem k_fN_Ret_eq : @k_fN_Ret = (@fN Ret) := by
  delta k_fN_Ret fN
  all_goals kernel_rfl

abbrev t44 : Type := Option CO
abbrev t45 : Type := CO → t8
abbrev t46 : Type := Tr CO
abbrev t47 : Type := Nat → t41
abbrev t48 : Type := Nat → t47
abbrev t49 : Type := t46 → t48
abbrev t50 : Type := t45 → t49
abbrev t51 : Type := Nat → t50
abbrev t52 : Type := t44 → t51
noncomputable def l13 : t52 := (fun x0 => (@Option.rec CO (fun _ => t51) (fun _ _ _ _ _ _ => none) (fun x1 x2 x3 x4 x5 x6 x7 => ((fun x8 => (k_fN_Ret (Nat.lor x6 (Nat.shiftLeft (nat_lit 1) x2)) (fun x9 => (x3 x8 (S.mk x4 x5 x9 x7))))) x1)) x0))
theorem l13_eq : ∀ x0 x1 x2 x3 x4 x5 x6, (Eq (l13 x0 x1 x2 x3 x4 x5 x6) (@Option.rec CO (fun _ => t4) none (fun x7 => ((fun x8 => (k_fN_Ret (Nat.lor x5 (Nat.shiftLeft (nat_lit 1) x1)) (fun x9 => (x2 x8 (S.mk x3 x4 x9 x6))))) x7)) x0)) := by intro t; cases t <;> (intros; rfl)
abbrev t53 : Type := t45 → t4
abbrev t54 : Type := Nat → t53
abbrev t55 : Type := S → t54
noncomputable def l14 : t55 := (fun x0 => (@S.rec (fun _ => t54) (fun x1 x2 x3 x4 x5 x6 => ((fun x7 x8 x9 x10 => (l13 (getCO x7 x5) x5 x6 x7 x8 x9 x10)) x1 x2 x3 x4)) x0))
theorem l14_eq : ∀ x0 x1 x2, (Eq (l14 x0 x1 x2) (@S.rec (fun _ => t4) (fun x3 x4 x5 x6 => ((fun x7 x8 x9 x10 => (l13 (getCO x7 x1) x1 x2 x7 x8 x9 x10)) x3 x4 x5 x6)) x0)) := by intro t; cases t <;> (intros; rfl)
noncomputable def k_rd_Ret : t55 := (fun x0 x1 x2 => (l14 x0 x1 x2))
theorem k_rd_Ret_eq : @k_rd_Ret = (@rd Ret) := by
  delta k_rd_Ret rd
  simp only [l13_eq, l14_eq]
  rw [k_fN_Ret_eq, getCO_eq]
  all_goals kernel_rfl

abbrev t56 : Type := Nat → t15
abbrev t57 : Type := Nat → t56
abbrev t58 : Type := Nat → t57
abbrev t59 : Type := S → t58
noncomputable def k_rdRow : t59 := (fun x0 x1 x2 x3 x4 => (k_rd_Ret x0 x1 (fun x5 x6 => (l12 x5 x2 x3 x4 x6))))
theorem k_rdRow_eq : @k_rdRow = rdRow := by
  delta k_rdRow rdRow
  simp only [l12_eq]
  rw [k_rd_Ret_eq, k_part_eq]
  all_goals kernel_rfl

abbrev t60 : Type := t18 → t48
abbrev t61 : Type := t9 → t60
abbrev t62 : Type := S → t61
abbrev t63 : Type := t14 → t62
abbrev t64 : Type := Program → t63
abbrev t65 : Type := Bool → t64
noncomputable def l11 : t65 := (fun x0 => (@Bool.rec (fun _ => t64) (fun x1 x2 x3 x4 x5 x6 x7 _ => (k_rdRow x3 x6 x7 (nat_lit 1) (fun x9 x10 => (l10 x9 x1 x2 x4 x5 x10)))) (fun x1 x2 x3 x4 x5 x6 x7 x8 => (k_rdRow x3 x6 x7 x8 (fun x9 x10 => (x5 x1 x2 x10 (fun x11 x12 => (x4 ((CV.agg x9) :: x11) x12)))))) x0))
theorem l11_eq : ∀ x0 x1 x2 x3 x4 x5 x6 x7 x8, (Eq (l11 x0 x1 x2 x3 x4 x5 x6 x7 x8) (@Bool.rec (fun _ => t4) (k_rdRow x3 x6 x7 (nat_lit 1) (fun x9 x10 => (l10 x9 x1 x2 x4 x5 x10))) (k_rdRow x3 x6 x7 x8 (fun x9 x10 => (x5 x1 x2 x10 (fun x11 x12 => (x4 ((CV.agg x9) :: x11) x12))))) x0)) := by intro t; cases t <;> (intros; rfl)
abbrev t66 : Type := Prod Bool Nat
abbrev t67 : Type := Option t66
abbrev t68 : Type := t18 → t47
abbrev t69 : Type := t9 → t68
abbrev t70 : Type := S → t69
abbrev t71 : Type := t14 → t70
abbrev t72 : Type := Program → t71
abbrev t73 : Type := t67 → t72
noncomputable def l15 : t73 := (fun x0 => (@Option.rec t66 (fun _ => t72) (fun _ _ _ _ _ _ _ => none) (fun x1 x2 x3 x4 x5 x6 x7 x8 => (@Prod.rec Bool Nat (fun _ => t4) (fun x9 x10 => (l11 x9 x2 x3 x4 x5 x6 x7 x8 x10)) x1)) x0))
theorem l15_eq : ∀ x0 x1 x2 x3 x4 x5 x6 x7, (Eq (l15 x0 x1 x2 x3 x4 x5 x6 x7) (@methV._sparseCasesOn_2 t66 (fun _ => t4) x0 (fun x8 => (@Prod.rec Bool Nat (fun _ => t4) (fun x9 x10 => (l11 x9 x1 x2 x3 x4 x5 x6 x7 x10)) x8)) (fun _ => none))) := by intro t; cases t <;> (intros; rfl)
abbrev t74 : Type := TypeId → t4
abbrev t75 : Type := t18 → t74
abbrev t76 : Type := t9 → t75
abbrev t77 : Type := S → t76
abbrev t78 : Type := t14 → t77
abbrev t79 : Type := Program → t78
abbrev t80 : Type := CV → t79
noncomputable def l16 : t80 := (fun x0 => (@CV.rec (fun _ => t79) (fun _ => PUnit.{1}) (fun _ _ _ _ _ _ => none) (fun _ _ _ _ _ _ _ => none) (fun x1 x2 x3 x4 x5 x6 x7 x8 => (l15 (tyInfo x3 x8) x3 x4 x5 x6 x7 x1 x2)) (fun _ _ _ _ _ _ _ _ _ _ _ => none) (fun _ _ _ _ _ _ => none) (fun _ _ _ _ _ _ _ => none) (fun _ _ _ _ _ _ _ _ => none) (fun _ _ _ _ _ _ _ _ => none) (fun _ _ _ _ _ _ _ _ _ _ _ => none) (fun _ _ _ _ _ _ _ => none) (fun _ _ _ _ _ _ _ _ _ => none) PUnit.unit.{1} (fun _ _ _ _ => PUnit.unit.{1}) x0))
theorem l16_eq : ∀ x0 x1 x2 x3 x4 x5 x6, (Eq (l16 x0 x1 x2 x3 x4 x5 x6) (@resV._sparseCasesOn_3 (fun _ => t4) x0 (fun x7 x8 => (l15 (tyInfo x1 x6) x1 x2 x3 x4 x5 x7 x8)) (fun _ => none))) := by intro t; cases t <;> (intros; rfl)
abbrev t81 : Type := Option CV
abbrev t82 : Type := t81 → t79
noncomputable def l17 : t82 := (fun x0 => (@Option.rec CV (fun _ => t79) (fun _ _ _ _ _ _ => none) (fun x1 x2 x3 x4 x5 x6 x7 => (l16 x1 x2 x3 x4 x5 x6 x7)) x0))
theorem l17_eq : ∀ x0 x1 x2 x3 x4 x5 x6, (Eq (l17 x0 x1 x2 x3 x4 x5 x6) (@methV._sparseCasesOn_2 CV (fun _ => t4) x0 (fun x7 => (l16 x7 x1 x2 x3 x4 x5 x6)) (fun _ => none))) := by intro t; cases t <;> (intros; rfl)
abbrev t83 : Type := t18 → t4
abbrev t84 : Type := t9 → t83
abbrev t85 : Type := S → t84
abbrev t86 : Type := t14 → t85
abbrev t87 : Type := Program → t86
abbrev t88 : Type := ResultVar → t87
noncomputable def l18 : t88 := (fun x0 => (@ResultVar.rec (fun _ => t87) (fun x1 x2 x3 x4 x5 x6 => (@Option.rec CV (fun _ => t4) none (fun x7 => (x6 x2 x3 x4 (fun x8 x9 => (x5 (x7 :: x8) x9)))) (getCV x3 x1))) (fun x1 x2 x3 x4 x5 x6 x7 => (l17 (getCV x4 x1) x3 x4 x5 x6 x7 x2)) x0))
theorem l18_eq : ∀ x0 x1 x2 x3 x4 x5, (Eq (l18 x0 x1 x2 x3 x4 x5) (@ResultVar.rec (fun _ => t4) (fun x6 => (@Option.rec CV (fun _ => t4) none (fun x7 => (x5 x1 x2 x3 (fun x8 x9 => (x4 (x7 :: x8) x9)))) (getCV x2 x6))) (fun x6 x7 => (l17 (getCV x2 x6) x1 x2 x3 x4 x5 x7)) x0)) := by intro t; cases t <;> (intros; rfl)
abbrev t89 : Type := List ResultVar
abbrev t90 : Type := t89 → t16
abbrev t91 : Type := t14 → t90
abbrev t92 : Type := Program → t91
noncomputable def k_resV : t92 := (fun x0 x1 x2 x3 x4 => (@List.rec ResultVar (fun _ => t18) (fun _ _ x7 x8 => (x8 [] x7)) (fun x5 _ x7 x8 x9 x10 x11 => (l18 x5 x8 x9 x10 x11 x7)) x2 x0 x1 x3 x4))
theorem k_resV_law : ∀ x0 x1 x2 x3 x4, (Eq (k_resV x1 x2 x0 x3 x4) (resV x1 x2 x0 x3 x4)) := by
  intro t
  induction t with
  | nil  =>
    intro z0 z1 z2 z3
    show ((fun (_ : Program) (_ : t14) (x2 : S) (x3 : t9) => (x3 [] x2)) z0 z1 z2 z3) = _
    conv => rhs; rw [Ev.resV.eq_def]
    all_goals kernel_rfl
  | cons y0 y1 ih0 =>
    intro z0 z1 z2 z3
    have e0 : (fun (x0 : Program) (x1 : t14) (x2 : S) (x3 : t9) => (k_resV x0 x1 y1 x2 x3)) = (fun (x0 : Program) (x1 : t14) (x2 : S) (x3 : t9) => (resV x0 x1 y1 x2 x3)) := by
      funext z0 z1 z2 z3; exact ih0 z0 z1 z2 z3
    show ((fun (x0 : ResultVar) (_ : t89) (x2 : t18) (x3 : Program) (x4 : t14) (x5 : S) (x6 : t9) => (l18 x0 x3 x4 x5 x6 x2)) y0 y1 (fun (x0 : Program) (x1 : t14) (x2 : S) (x3 : t9) => (k_resV x0 x1 y1 x2 x3)) z0 z1 z2 z3) = _
    rw [e0]
    conv => rhs; rw [Ev.resV.eq_def]
    try simp only [l15_eq, l16_eq, l18_eq, l9_eq, l11_eq, l10_eq, l17_eq]
    try rw [k_rdRow_eq]
    try rw [getCV_eq]
    all_goals kernel_rfl
theorem k_resV_eq : @k_resV = resV := by
  funext a0 a1 a2 a3 a4; exact k_resV_law a2 a0 a1 a3 a4
abbrev t93 : Type := t8 → t49
abbrev t94 : Type := t44 → t93
abbrev t95 : Type := Nat → t94
abbrev t96 : Type := t44 → t95
noncomputable def l20 : t96 := (fun x0 => (@Option.rec CO (fun _ => t95) (fun _ _ _ _ _ _ _ => none) (fun x1 x2 x3 x4 x5 x6 x7 x8 => ((fun _ => (@Option.rec t46 (fun _ => t4) none (fun x10 => ((fun x11 => (k_fN_Ret (Nat.lor x8 (Nat.shiftLeft (nat_lit 1) x2)) (fun x12 => (x4 (S.mk x11 x6 x7 x12))))) x10)) (setCO (nat_lit 24) x5 x2 x3))) x1)) x0))
theorem l20_eq : ∀ x0 x1 x2 x3 x4 x5 x6 x7, (Eq (l20 x0 x1 x2 x3 x4 x5 x6 x7) (@Option.rec CO (fun _ => t4) none (fun x8 => ((fun _ => (@Option.rec t46 (fun _ => t4) none (fun x10 => ((fun x11 => (k_fN_Ret (Nat.lor x7 (Nat.shiftLeft (nat_lit 1) x1)) (fun x12 => (x3 (S.mk x11 x5 x6 x12))))) x10)) (setCO (nat_lit 24) x4 x1 x2))) x8)) x0)) := by intro t; cases t <;> (intros; rfl)
abbrev t97 : Type := t8 → t4
abbrev t98 : Type := t44 → t97
abbrev t99 : Type := Nat → t98
abbrev t100 : Type := S → t99
noncomputable def l21 : t100 := (fun x0 => (@S.rec (fun _ => t99) (fun x1 x2 x3 x4 x5 x6 x7 => ((fun x8 x9 x10 x11 => (l20 (getCO x8 x5) x5 x6 x7 x8 x9 x10 x11)) x1 x2 x3 x4)) x0))
theorem l21_eq : ∀ x0 x1 x2 x3, (Eq (l21 x0 x1 x2 x3) (@S.rec (fun _ => t4) (fun x4 x5 x6 x7 => ((fun x8 x9 x10 x11 => (l20 (getCO x8 x1) x1 x2 x3 x8 x9 x10 x11)) x4 x5 x6 x7)) x0)) := by intro t; cases t <;> (intros; rfl)
noncomputable def k_wr_Ret : t100 := (fun x0 x1 x2 x3 => (l21 x0 x1 x2 x3))
theorem k_wr_Ret_eq : @k_wr_Ret = (@wr Ret) := by
  delta k_wr_Ret wr
  simp only [l21_eq, l20_eq]
  rw [setCO_eq, k_fN_Ret_eq, getCO_eq]
  all_goals kernel_rfl

abbrev t101 : Type := t81 → t8
abbrev t102 : Type := t14 → t101
abbrev t103 : Type := Func → t102
abbrev t104 : Type := Run → t103
abbrev t105 : Type := Program → t104
abbrev t106 : Type := Nat → t8
abbrev t107 : Type := t105 → t106
abbrev t108 : Type := t81 → t107
abbrev t109 : Type := t14 → t108
abbrev t110 : Type := Func → t109
abbrev t111 : Type := Run → t110
abbrev t112 : Type := Program → t111
abbrev t113 : Type := CO → t112
noncomputable def l19 : t113 := (fun x0 => (@CO.rec (fun _ => t112) (fun _ _ _ _ _ _ _ _ _ _ _ => none) (fun _ _ _ _ _ _ _ _ _ _ _ => none) (fun _ _ _ _ _ _ _ _ _ _ _ _ _ _ _ _ => none) (fun x1 x2 x3 x4 x5 x6 x7 x8 => (k_wr_Ret x8 x7 (some CO.gone) (fun x9 => (x6 x1 x2 x3 x4 x5 x9)))) (fun _ _ _ _ _ _ _ _ => none) x0))
theorem l19_eq : ∀ x0 x1 x2 x3 x4 x5 x6 x7 x8, (Eq (l19 x0 x1 x2 x3 x4 x5 x6 x7 x8) (@leave._sparseCasesOn_1 (fun _ => t4) x0 (k_wr_Ret x8 x7 (some CO.gone) (fun x9 => (x6 x1 x2 x3 x4 x5 x9))) (fun _ => none))) := by intro t; cases t <;> (intros; rfl)
abbrev t114 : Type := Prod Bool S
abbrev t115 : Type := t105 → t4
abbrev t116 : Type := t81 → t115
abbrev t117 : Type := t14 → t116
abbrev t118 : Type := Func → t117
abbrev t119 : Type := Run → t118
abbrev t120 : Type := Program → t119
abbrev t121 : Type := t114 → t120
noncomputable def l22 : t121 := (fun x0 => (@Prod.rec Bool S (fun _ => t120) (fun x1 x2 x3 x4 x5 x6 x7 x8 => (@Bool.rec (fun _ => t4) (x8 x3 x4 x5 x6 x7 x2) (x8 x3 x4 x5 x6 none x2) x1)) x0))
theorem l22_eq : ∀ x0 x1 x2 x3 x4 x5 x6, (Eq (l22 x0 x1 x2 x3 x4 x5 x6) (@Prod.rec Bool S (fun _ => t4) (fun x7 x8 => (@Bool.rec (fun _ => t4) (x6 x1 x2 x3 x4 x5 x8) (x6 x1 x2 x3 x4 none x8) x7)) x0)) := by intro t; cases t <;> (intros; rfl)
abbrev t122 : Type := Option t114
abbrev t123 : Type := Dm → t122
abbrev t124 : Type := Ret → t123
noncomputable def l24 : t124 := (fun x0 => (@Ret.rec (fun _ => t123) (fun _ x2 x3 => (some ((Dm.back x3), x2))) (fun _ _ _ => none) x0))
theorem l24_eq : ∀ x0 x1, (Eq (l24 x0 x1) (@regP._sparseCasesOn_2 (fun _ => t122) x0 (fun _ x3 => (some ((Dm.back x1), x3))) (fun _ => none))) := by intro t; cases t <;> (intros; rfl)
abbrev t125 : Type := t4 → t123
noncomputable def l25 : t125 := (fun x0 => (@Option.rec Ret (fun _ => t123) (fun _ => none) (fun x1 x2 => (l24 x1 x2)) x0))
theorem l25_eq : ∀ x0 x1, (Eq (l25 x0 x1) (@methV._sparseCasesOn_2 Ret (fun _ => t122) x0 (fun x2 => (l24 x2 x1)) (fun _ => none))) := by intro t; cases t <;> (intros; rfl)
abbrev t126 : Type := Prod Dm S
abbrev t127 : Type := t14 → t122
abbrev t128 : Type := Func → t127
abbrev t129 : Type := Program → t128
abbrev t130 : Type := t126 → t129
noncomputable def l26 : t130 := (fun x0 => (@Prod.rec Dm S (fun _ => t129) (fun x1 x2 x3 x4 x5 => ((fun x6 x7 x8 => (l25 (k_resV x3 x6 (@Array.toList ResultVar (Func.results x4)) x8 (fun x9 x10 => (some (Ret.ok (k_tupV x9) x10)))) x7)) x5 x1 x2)) x0))
theorem l26_eq : ∀ x0 x1 x2 x3, (Eq (l26 x0 x1 x2 x3) (@Prod.rec Dm S (fun _ => t122) (fun x4 x5 => ((fun x6 x7 x8 => (l25 (k_resV x1 x6 (@Array.toList ResultVar (Func.results x2)) x8 (fun x9 x10 => (some (Ret.ok (k_tupV x9) x10)))) x7)) x3 x4 x5)) x0)) := by intro t; cases t <;> (intros; rfl)
noncomputable def l27 : t124 := (fun x0 => (@Ret.rec (fun _ => t123) (fun _ x2 x3 => (some ((Dm.back x3), x2))) (fun _ _ _ => none) x0))
theorem l27_eq : ∀ x0 x1, (Eq (l27 x0 x1) (@regP._sparseCasesOn_2 (fun _ => t122) x0 (fun _ x3 => (some ((Dm.back x1), x3))) (fun _ => none))) := by intro t; cases t <;> (intros; rfl)
noncomputable def l28 : t125 := (fun x0 => (@Option.rec Ret (fun _ => t123) (fun _ => none) (fun x1 x2 => (l27 x1 x2)) x0))
theorem l28_eq : ∀ x0 x1, (Eq (l28 x0 x1) (@methV._sparseCasesOn_2 Ret (fun _ => t122) x0 (fun x2 => (l27 x2 x1)) (fun _ => none))) := by intro t; cases t <;> (intros; rfl)
noncomputable def l29 : t130 := (fun x0 => (@Prod.rec Dm S (fun _ => t129) (fun x1 x2 x3 x4 x5 => ((fun x6 x7 x8 => (l28 (k_resV x3 x6 (@Array.toList ResultVar (Func.results x4)) x8 (fun x9 x10 => (some (Ret.ok (k_tupV x9) x10)))) x7)) x5 x1 x2)) x0))
theorem l29_eq : ∀ x0 x1 x2 x3, (Eq (l29 x0 x1 x2 x3) (@Prod.rec Dm S (fun _ => t122) (fun x4 x5 => ((fun x6 x7 x8 => (l28 (k_resV x1 x6 (@Array.toList ResultVar (Func.results x2)) x8 (fun x9 x10 => (some (Ret.ok (k_tupV x9) x10)))) x7)) x3 x4 x5)) x0)) := by intro t; cases t <;> (intros; rfl)
abbrev t131 : Type := Prod t14 t126
abbrev t132 : Type := t131 → t122
abbrev t133 : Type := Func → t132
abbrev t134 : Type := Program → t133
abbrev t135 : Type := Ex → t134
noncomputable def l30 : t135 := (fun x0 => (@Ex.rec (fun _ => t134) (fun x1 x2 x3 => (@Prod.rec t14 t126 (fun _ => t122) (fun x4 x5 => (l26 x5 x1 x2 x4)) x3)) (fun _ _ _ _ => none) (fun x1 x2 x3 => (@Prod.rec t14 t126 (fun _ => t122) (fun x4 x5 => (l29 x5 x1 x2 x4)) x3)) (fun _ _ _ _ => none) x0))
theorem l30_eq : ∀ x0 x1 x2 x3, (Eq (l30 x0 x1 x2 x3) (@callD._sparseCasesOn_1 (fun _ => t122) x0 (@Prod.rec t14 t126 (fun _ => t122) (fun x4 x5 => (l26 x5 x1 x2 x4)) x3) (@Prod.rec t14 t126 (fun _ => t122) (fun x4 x5 => (l29 x5 x1 x2 x4)) x3) (fun _ => none))) := by intro t; cases t <;> (intros; rfl)
abbrev t136 : Type := Prod Ex t131
abbrev t137 : Type := Option t136
abbrev t138 : Type := Func → t122
abbrev t139 : Type := Program → t138
abbrev t140 : Type := t137 → t139
noncomputable def l31 : t140 := (fun x0 => (@Option.rec t136 (fun _ => t139) (fun _ _ => none) (fun x1 x2 x3 => (@Prod.rec Ex t131 (fun _ => t122) (fun x4 x5 => (l30 x4 x2 x3 x5)) x1)) x0))
theorem l31_eq : ∀ x0 x1 x2, (Eq (l31 x0 x1 x2) (@methV._sparseCasesOn_2 t136 (fun _ => t122) x0 (fun x3 => (@Prod.rec Ex t131 (fun _ => t122) (fun x4 x5 => (l30 x4 x1 x2 x5)) x3)) (fun _ => none))) := by intro t; cases t <;> (intros; rfl)
abbrev t141 : Type := List SD
abbrev t142 : Type := t14 → t137
abbrev t143 : Type := S → t142
abbrev t144 : Type := Ex → t143
abbrev t145 : Type := Dm → t144
abbrev t146 : Type := t141 → t145
noncomputable def l33 : t146 := (fun x0 => (@List.rec SD (fun _ => t145) (fun x1 x2 x3 x4 => (some (x2, (x4, (x1, x3))))) (fun _ _ _ _ _ _ _ => none) x0))
theorem l33_eq : ∀ x0 x1 x2 x3 x4, (Eq (l33 x0 x1 x2 x3 x4) (@methV._sparseCasesOn_1 SD (fun _ => t137) x0 (some (x2, (x4, (x1, x3)))) (fun _ => none))) := by intro t; cases t <;> (intros; rfl)
abbrev t147 : Type := Prod Fr S
abbrev t148 : Type := Prod Ex t147
abbrev t149 : Type := Dm → t137
abbrev t150 : Type := t148 → t149
noncomputable def l34 : t150 := (fun x0 => (@Prod.rec Ex t147 (fun _ => t149) (fun x1 x2 x3 => (@Prod.rec Fr S (fun _ => t137) (fun x4 x5 => (@Fr.rec (fun _ => t137) (fun _ x7 x8 _ => (l33 x8 x3 x1 x5 x7)) x4)) x2)) x0))
theorem l34_eq : ∀ x0 x1, (Eq (l34 x0 x1) (@Prod.rec Ex t147 (fun _ => t137) (fun x2 x3 => (@Prod.rec Fr S (fun _ => t137) (fun x4 x5 => (@Fr.rec (fun _ => t137) (fun _ x7 x8 _ => (l33 x8 x1 x2 x5 x7)) x4)) x3)) x0)) := by intro t; cases t <;> (intros; rfl)
abbrev t151 : Type := Option t148
abbrev t152 : Type := t151 → t149
noncomputable def l35 : t152 := (fun x0 => (@Option.rec t148 (fun _ => t149) (fun _ => none) (fun x1 x2 => (l34 x1 x2)) x0))
theorem l35_eq : ∀ x0 x1, (Eq (l35 x0 x1) (@methV._sparseCasesOn_2 t148 (fun _ => t137) x0 (fun x2 => (l34 x2 x1)) (fun _ => none))) := by intro t; cases t <;> (intros; rfl)
noncomputable def l36 : t146 := (fun x0 => (@List.rec SD (fun _ => t145) (fun x1 x2 x3 x4 => (some (x2, (x4, (x1, x3))))) (fun _ _ _ _ _ _ _ => none) x0))
theorem l36_eq : ∀ x0 x1 x2 x3 x4, (Eq (l36 x0 x1 x2 x3 x4) (@methV._sparseCasesOn_1 SD (fun _ => t137) x0 (some (x2, (x4, (x1, x3)))) (fun _ => none))) := by intro t; cases t <;> (intros; rfl)
noncomputable def l37 : t150 := (fun x0 => (@Prod.rec Ex t147 (fun _ => t149) (fun x1 x2 x3 => (@Prod.rec Fr S (fun _ => t137) (fun x4 x5 => (@Fr.rec (fun _ => t137) (fun _ x7 x8 _ => (l36 x8 x3 x1 x5 x7)) x4)) x2)) x0))
theorem l37_eq : ∀ x0 x1, (Eq (l37 x0 x1) (@Prod.rec Ex t147 (fun _ => t137) (fun x2 x3 => (@Prod.rec Fr S (fun _ => t137) (fun x4 x5 => (@Fr.rec (fun _ => t137) (fun _ x7 x8 _ => (l36 x8 x1 x2 x5 x7)) x4)) x3)) x0)) := by intro t; cases t <;> (intros; rfl)
noncomputable def l38 : t152 := (fun x0 => (@Option.rec t148 (fun _ => t149) (fun _ => none) (fun x1 x2 => (l37 x1 x2)) x0))
theorem l38_eq : ∀ x0 x1, (Eq (l38 x0 x1) (@methV._sparseCasesOn_2 t148 (fun _ => t137) x0 (fun x2 => (l37 x2 x1)) (fun _ => none))) := by intro t; cases t <;> (intros; rfl)
abbrev t153 : Type := Bool → t137
abbrev t154 : Type := (Array Oper) → t153
abbrev t155 : Type := Nat → t154
abbrev t156 : Type := S → t155
abbrev t157 : Type := Dm → t156
abbrev t158 : Type := t14 → t157
abbrev t159 : Type := Nat → t158
abbrev t160 : Type := Run → t159
noncomputable def l39 : t160 := (fun x0 x1 x2 x3 x4 x5 x6 x7 => (l38 (Run.code x0 (Code.region x5 x6 x7) (Fr.mk x1 x2 [] none) x4) x3))
theorem l39_eq : ∀ x0 x1 x2 x3 x4 x5 x6 x7, (Eq (l39 x0 x1 x2 x3 x4 x5 x6 x7) (l38 (Run.code x0 (Code.region x5 x6 x7) (Fr.mk x1 x2 [] none) x4) x3)) := by intros; rfl
noncomputable def l40 : t146 := (fun x0 => (@List.rec SD (fun _ => t145) (fun x1 x2 x3 x4 => (some (x2, (x4, (x1, x3))))) (fun _ _ _ _ _ _ _ => none) x0))
theorem l40_eq : ∀ x0 x1 x2 x3 x4, (Eq (l40 x0 x1 x2 x3 x4) (@methV._sparseCasesOn_1 SD (fun _ => t137) x0 (some (x2, (x4, (x1, x3)))) (fun _ => none))) := by intro t; cases t <;> (intros; rfl)
noncomputable def l41 : t150 := (fun x0 => (@Prod.rec Ex t147 (fun _ => t149) (fun x1 x2 x3 => (@Prod.rec Fr S (fun _ => t137) (fun x4 x5 => (@Fr.rec (fun _ => t137) (fun _ x7 x8 _ => (l40 x8 x3 x1 x5 x7)) x4)) x2)) x0))
theorem l41_eq : ∀ x0 x1, (Eq (l41 x0 x1) (@Prod.rec Ex t147 (fun _ => t137) (fun x2 x3 => (@Prod.rec Fr S (fun _ => t137) (fun x4 x5 => (@Fr.rec (fun _ => t137) (fun _ x7 x8 _ => (l40 x8 x1 x2 x5 x7)) x4)) x3)) x0)) := by intro t; cases t <;> (intros; rfl)
noncomputable def l42 : t152 := (fun x0 => (@Option.rec t148 (fun _ => t149) (fun _ => none) (fun x1 x2 => (l41 x1 x2)) x0))
theorem l42_eq : ∀ x0 x1, (Eq (l42 x0 x1) (@methV._sparseCasesOn_2 t148 (fun _ => t137) x0 (fun x2 => (l41 x2 x1)) (fun _ => none))) := by intro t; cases t <;> (intros; rfl)
abbrev t161 : Type := List Oper
abbrev t162 : Type := Nat → Bool
abbrev t163 : Type := Nat → t162
noncomputable def k_Nat_blt : t163 := (fun x0 x1 => (Nat.ble (Nat.succ x0) x1))
theorem k_Nat_blt_eq : @k_Nat_blt = Nat.blt := by
  delta k_Nat_blt Nat.blt
  all_goals kernel_rfl

abbrev t164 : Type := Option Nat
abbrev t165 : Type := Option t14
abbrev t166 : Type := t14 → t165
abbrev t167 : Type := CV → t166
abbrev t168 : Type := t164 → t167
abbrev t169 : Type := Nat → t168
noncomputable def k_putE : t169 := (fun x0 x1 x2 x3 => (@Option.rec Nat (fun _ => t165) (some x3) (fun x4 => ((fun x5 => (@Bool.rec (fun _ => t165) none (setCV (nat_lit 24) x3 x5 (some x2)) (k_Nat_blt x5 x0))) x4)) x1))
theorem k_putE_eq : @k_putE = putE := by
  delta k_putE putE
  rw [k_Nat_blt_eq, setCV_eq]
  all_goals kernel_rfl

abbrev t170 : Type := Option t131
abbrev t171 : Type := S → t170
abbrev t172 : Type := Dm → t171
abbrev t173 : Type := t14 → t172
abbrev t174 : Type := t161 → t173
abbrev t175 : Type := Nat → t174
abbrev t176 : Type := Program → t175
abbrev t177 : Type := t176 → t170
abbrev t178 : Type := Oper → t177
abbrev t179 : Type := Dm → t178
abbrev t180 : Type := t14 → t179
abbrev t181 : Type := t161 → t180
abbrev t182 : Type := Nat → t181
abbrev t183 : Type := Program → t182
abbrev t184 : Type := Ret → t183
noncomputable def l44 : t184 := (fun x0 => (@Ret.rec (fun _ => t183) (fun x1 x2 x3 x4 x5 x6 x7 x8 x9 => (@Option.rec t14 (fun _ => t170) none (fun x10 => (x9 x3 x4 x5 x10 x7 x2)) (k_putE x4 (Oper.dst x8) x1 x6))) (fun _ _ _ _ _ _ _ _ _ => none) x0))
theorem l44_eq : ∀ x0 x1 x2 x3 x4 x5 x6 x7, (Eq (l44 x0 x1 x2 x3 x4 x5 x6 x7) (@regP._sparseCasesOn_2 (fun _ => t170) x0 (fun x8 x9 => (@Option.rec t14 (fun _ => t170) none (fun x10 => (x7 x1 x2 x3 x10 x5 x9)) (k_putE x2 (Oper.dst x6) x8 x4))) (fun _ => none))) := by intro t; cases t <;> (intros; rfl)
abbrev t185 : Type := t4 → t183
noncomputable def l45 : t185 := (fun x0 => (@Option.rec Ret (fun _ => t183) (fun _ _ _ _ _ _ _ => none) (fun x1 x2 x3 x4 x5 x6 x7 x8 => (l44 x1 x2 x3 x4 x5 x6 x7 x8)) x0))
theorem l45_eq : ∀ x0 x1 x2 x3 x4 x5 x6 x7, (Eq (l45 x0 x1 x2 x3 x4 x5 x6 x7) (@methV._sparseCasesOn_2 Ret (fun _ => t170) x0 (fun x8 => (l44 x8 x1 x2 x3 x4 x5 x6 x7)) (fun _ => none))) := by intro t; cases t <;> (intros; rfl)
abbrev t186 : Type := CV → t8
noncomputable def k_ok1 : t186 := (fun x0 x1 => (some (Ret.ok x0 x1)))
theorem k_ok1_eq : @k_ok1 = ok1 := by
  delta k_ok1 ok1
  all_goals kernel_rfl

abbrev t187 : Type := Value → CV
abbrev t188 : Type := Value → t187
noncomputable def l48 : t188 := (fun x0 => (@Value.rec (fun _ => t187) (fun _ => PUnit.{1}) (fun _ => PUnit.{1}) (fun _ x2 => (CV.val x2)) (fun _ _ x3 => (CV.val x3)) (fun _ _ x3 => (CV.val x3)) (fun _ _ _ x4 => (CV.val x4)) (fun _ x2 => (CV.val x2)) (fun _ x2 => (CV.val x2)) (fun _ _ _ x4 => (CV.val x4)) (fun _ x2 => (CV.val x2)) (fun _ x2 => (CV.val x2)) (fun _ _ _ _ _ x6 => (CV.val x6)) (fun x1 => (CV.val x1)) (fun _ _ _ x4 => (CV.val x4)) (fun x1 => (CV.val x1)) (fun x1 _ _ => (CV.agg (@List.map Value CV CV.val (@Array.toList Value x1)))) (fun _ _ x3 => (CV.val x3)) (fun _ _ => PUnit.unit.{1}) PUnit.unit.{1} (fun _ _ _ _ => PUnit.unit.{1}) x0))
theorem l48_eq : ∀ x0 x1, (Eq (l48 x0 x1) (@normV._sparseCasesOn_1 (fun _ => CV) x0 (fun x2 => (CV.agg (@List.map Value CV CV.val (@Array.toList Value x2)))) (fun _ => (CV.val x1)))) := by intro t; cases t <;> (intros; rfl)
noncomputable def k_normV : t187 := (fun x0 => (l48 x0 x0))
theorem k_normV_eq : @k_normV = normV := by
  delta k_normV normV
  simp only [l48_eq]
  all_goals kernel_rfl

abbrev t189 : Type := Operand → t81
abbrev t190 : Type := t14 → t189
noncomputable def k_ev : t190 := (fun x0 x1 => (@Operand.rec (fun _ => t81) (fun x2 => ((fun x3 => (getCV x0 x3)) x2)) (fun x2 => ((fun x3 => (some (k_normV x3))) x2)) (fun x2 => ((fun _ => none) x2)) (fun x2 => ((fun x3 => (some (CV.fn x3 [] []))) x2)) x1))
theorem k_ev_eq : @k_ev = ev := by
  delta k_ev ev
  rw [k_normV_eq, getCV_eq]
  all_goals kernel_rfl

abbrev t191 : Type := Operand → t8
abbrev t192 : Type := t14 → t191
abbrev t193 : Type := Program → t192
noncomputable def k_o_move : t193 := (fun _ x1 x2 x3 => (@Option.rec CV (fun _ => t4) none (fun x4 => ((fun x5 => (k_ok1 x5 x3)) x4)) (k_ev x1 x2)))
theorem k_o_move_eq : @k_o_move = o_move := by
  delta k_o_move o_move
  rw [k_ev_eq, k_ok1_eq]
  all_goals kernel_rfl

abbrev t194 : Type := Operand → t4
abbrev t195 : Type := S → t194
abbrev t196 : Type := Operand → t195
abbrev t197 : Type := t14 → t196
abbrev t198 : Type := Bool → t197
noncomputable def l49 : t198 := (fun x0 => (@Bool.rec (fun _ => t197) (fun x1 x2 x3 _ => (@Option.rec CV (fun _ => t4) none (fun x5 => ((fun x6 => (k_ok1 x6 x3)) x5)) (k_ev x1 x2))) (fun x1 _ x3 x4 => (@Option.rec CV (fun _ => t4) none (fun x5 => ((fun x6 => (k_ok1 x6 x3)) x5)) (k_ev x1 x4))) x0))
theorem l49_eq : ∀ x0 x1 x2 x3 x4, (Eq (l49 x0 x1 x2 x3 x4) (@Bool.rec (fun _ => t4) (@Option.rec CV (fun _ => t4) none (fun x5 => ((fun x6 => (k_ok1 x6 x3)) x5)) (k_ev x1 x2)) (@Option.rec CV (fun _ => t4) none (fun x5 => ((fun x6 => (k_ok1 x6 x3)) x5)) (k_ev x1 x4)) x0)) := by intro t; cases t <;> (intros; rfl)
abbrev t199 : Type := Operand → t191
abbrev t200 : Type := t14 → t199
abbrev t201 : Type := Value → t200
noncomputable def l50 : t201 := (fun x0 => (@Value.rec (fun _ => t200) (fun _ => PUnit.{1}) (fun _ => PUnit.{1}) (fun x1 x2 x3 x4 x5 => (l49 x1 x2 x4 x5 x3)) (fun _ _ _ _ _ _ => none) (fun _ _ _ _ _ _ => none) (fun _ _ _ _ _ _ _ => none) (fun _ _ _ _ _ => none) (fun _ _ _ _ _ => none) (fun _ _ _ _ _ _ _ => none) (fun _ _ _ _ _ => none) (fun _ _ _ _ _ => none) (fun _ _ _ _ _ _ _ _ _ => none) (fun _ _ _ _ => none) (fun _ _ _ _ _ _ _ => none) (fun _ _ _ _ => none) (fun _ _ _ _ _ _ => none) (fun _ _ _ _ _ _ => none) (fun _ _ => PUnit.unit.{1}) PUnit.unit.{1} (fun _ _ _ _ => PUnit.unit.{1}) x0))
theorem l50_eq : ∀ x0 x1 x2 x3 x4, (Eq (l50 x0 x1 x2 x3 x4) (@eqK._sparseCasesOn_3 (fun _ => t4) x0 (fun x5 => (l49 x5 x1 x3 x4 x2)) (fun _ => none))) := by intro t; cases t <;> (intros; rfl)
abbrev t202 : Type := CV → t200
noncomputable def l51 : t202 := (fun x0 => (@CV.rec (fun _ => t200) (fun _ => PUnit.{1}) (fun _ _ _ _ => none) (fun x1 x2 x3 x4 x5 => (l50 x1 x2 x3 x4 x5)) (fun _ _ _ _ _ _ => none) (fun _ _ _ _ _ _ _ _ _ => none) (fun _ _ _ _ => none) (fun _ _ _ _ _ => none) (fun _ _ _ _ _ _ => none) (fun _ _ _ _ _ _ => none) (fun _ _ _ _ _ _ _ _ _ => none) (fun _ _ _ _ _ => none) (fun _ _ _ _ _ _ _ => none) PUnit.unit.{1} (fun _ _ _ _ => PUnit.unit.{1}) x0))
theorem l51_eq : ∀ x0 x1 x2 x3 x4, (Eq (l51 x0 x1 x2 x3 x4) (@natOf._sparseCasesOn_1 (fun _ => t4) x0 (fun x5 => (l50 x5 x1 x2 x3 x4)) (fun _ => none))) := by intro t; cases t <;> (intros; rfl)
abbrev t203 : Type := t81 → t200
noncomputable def l52 : t203 := (fun x0 => (@Option.rec CV (fun _ => t200) (fun _ _ _ _ => none) (fun x1 x2 x3 x4 x5 => (l51 x1 x2 x3 x4 x5)) x0))
theorem l52_eq : ∀ x0 x1 x2 x3 x4, (Eq (l52 x0 x1 x2 x3 x4) (@elInfo._sparseCasesOn_3 CV (fun _ => t4) x0 (fun x5 => (l51 x5 x1 x2 x3 x4)) (fun _ => none))) := by intro t; cases t <;> (intros; rfl)
abbrev t204 : Type := Operand → t199
abbrev t205 : Type := t14 → t204
abbrev t206 : Type := Program → t205
noncomputable def k_o_pick : t206 := (fun _ x1 x2 x3 x4 x5 => (l52 (k_ev x1 x2) x1 x3 x4 x5))
theorem k_o_pick_eq : @k_o_pick = o_pick := by
  delta k_o_pick o_pick
  simp only [l49_eq, l51_eq, l50_eq, l52_eq]
  rw [k_ev_eq, k_ok1_eq]
  all_goals kernel_rfl

abbrev t207 : Type := Option t46
abbrev t208 : Type := t106 → t48
abbrev t209 : Type := t207 → t208
noncomputable def l54 : t209 := (fun x0 => (@Option.rec t46 (fun _ => t208) (fun _ _ _ _ => none) (fun x1 x2 x3 x4 x5 => ((fun x6 => (k_fN_Ret (Nat.add x3 (nat_lit 1)) (fun x7 => (k_fN_Ret (Nat.lor x5 (Nat.shiftLeft (nat_lit 1) x3)) (fun x8 => (x2 x3 (S.mk x6 x7 x4 x8))))))) x1)) x0))
theorem l54_eq : ∀ x0 x1 x2 x3 x4, (Eq (l54 x0 x1 x2 x3 x4) (@Option.rec t46 (fun _ => t4) none (fun x5 => ((fun x6 => (k_fN_Ret (Nat.add x2 (nat_lit 1)) (fun x7 => (k_fN_Ret (Nat.lor x4 (Nat.shiftLeft (nat_lit 1) x2)) (fun x8 => (x1 x2 (S.mk x6 x7 x3 x8))))))) x5)) x0)) := by intro t; cases t <;> (intros; rfl)
abbrev t210 : Type := t106 → t4
abbrev t211 : Type := CO → t210
abbrev t212 : Type := S → t211
noncomputable def l55 : t212 := (fun x0 => (@S.rec (fun _ => t211) (fun x1 x2 x3 x4 x5 x6 => ((fun x7 x8 x9 x10 => (l54 (setCO (nat_lit 24) x7 x8 (some x5)) x6 x8 x9 x10)) x1 x2 x3 x4)) x0))
theorem l55_eq : ∀ x0 x1 x2, (Eq (l55 x0 x1 x2) (@S.rec (fun _ => t4) (fun x3 x4 x5 x6 => ((fun x7 x8 x9 x10 => (l54 (setCO (nat_lit 24) x7 x8 (some x1)) x2 x8 x9 x10)) x3 x4 x5 x6)) x0)) := by intro t; cases t <;> (intros; rfl)
noncomputable def k_nw_Ret : t212 := (fun x0 x1 x2 => (l55 x0 x1 x2))
theorem k_nw_Ret_eq : @k_nw_Ret = (@nw Ret) := by
  delta k_nw_Ret nw
  simp only [l55_eq, l54_eq]
  rw [k_fN_Ret_eq, setCO_eq]
  all_goals kernel_rfl

abbrev t213 : Type := List Value
abbrev t214 : Type := t213 → t31
noncomputable def k_valL : t214 := (fun x0 => (@List.rec Value (fun _ => t31) (some []) (fun x1 _ x3 => (@Option.rec t7 (fun _ => t31) none (fun x4 => (some ((CV.val x1) :: x4))) x3)) x0))
theorem k_valL_law : ∀ x0, (Eq (k_valL x0) (valL x0)) := by
  intro t
  induction t with
  | nil  =>
    show (some []) = _
    conv => rhs; rw [Ev.valL.eq_def]
    all_goals kernel_rfl
  | cons y0 y1 ih0 =>
    have e0 : (k_valL y1) = (valL y1) := by
      exact ih0
    show ((fun (x0 : Value) (_ : t213) (x2 : t31) => (@Option.rec t7 (fun (_ : t31) => t31) none (fun (x3 : t7) => (some ((CV.val x0) :: x3))) x2)) y0 y1 (k_valL y1)) = _
    rw [e0]
    conv => rhs; rw [Ev.valL.eq_def]
    all_goals kernel_rfl
theorem k_valL_eq : @k_valL = valL := by
  funext a0; exact k_valL_law a0
abbrev t215 : Type := Option t213
abbrev t216 : Type := TypeId → t8
abbrev t217 : Type := t215 → t216
noncomputable def l53 : t217 := (fun x0 => (@Option.rec t213 (fun _ => t216) (fun _ _ => none) (fun x1 x2 x3 => ((fun x4 => (@Option.rec t7 (fun _ => t4) none (fun x5 => ((fun x6 => (k_nw_Ret x3 (CO.row x2 x6 Bool.false) (fun x7 x8 => (k_ok1 (CV.ptr x7 (nat_lit 0)) x8)))) x5)) (k_valL x4))) x1)) x0))
theorem l53_eq : ∀ x0 x1 x2, (Eq (l53 x0 x1 x2) (@Option.rec t213 (fun _ => t4) none (fun x3 => ((fun x4 => (@Option.rec t7 (fun _ => t4) none (fun x5 => ((fun x6 => (k_nw_Ret x2 (CO.row x1 x6 Bool.false) (fun x7 x8 => (k_ok1 (CV.ptr x7 (nat_lit 0)) x8)))) x5)) (k_valL x4))) x3)) x0)) := by intro t; cases t <;> (intros; rfl)
abbrev t218 : Type := t14 → t216
abbrev t219 : Type := Program → t218
noncomputable def k_o_alloc : t219 := (fun x0 _ x2 x3 => (l53 (zeroCells x0 x2) x2 x3))
theorem k_o_alloc_eq : @k_o_alloc = o_alloc := by
  delta k_o_alloc o_alloc
  simp only [l53_eq]
  rw [k_valL_eq, k_nw_Ret_eq, k_ok1_eq]
  all_goals kernel_rfl

noncomputable def l56 : t1 := (fun x0 => (@Value.rec (fun _ => Bool) (fun _ => PUnit.{1}) (fun _ => PUnit.{1}) (fun _ => Bool.true) (fun _ _ => Bool.true) (fun _ _ => Bool.true) (fun _ _ _ => Bool.true) (fun _ => Bool.true) (fun _ => Bool.true) (fun _ _ _ => Bool.true) (fun _ => Bool.true) (fun _ => Bool.true) (fun _ _ _ _ _ => Bool.true) Bool.true (fun _ _ _ => Bool.true) Bool.true (fun _ _ => Bool.false) (fun _ _ => Bool.true) (fun _ _ => PUnit.unit.{1}) PUnit.unit.{1} (fun _ _ _ _ => PUnit.unit.{1}) x0))
theorem l56_eq : ∀ x0, (Eq (l56 x0) (@bok._sparseCasesOn_2 (fun _ => Bool) x0 (fun _ => Bool.false) (fun _ => Bool.true))) := by intro t; cases t <;> (intros; rfl)
noncomputable def l57 : t2 := (fun x0 => (@CV.rec (fun _ => Bool) (fun _ => PUnit.{1}) Bool.false (fun x1 => (l56 x1)) (fun _ _ => Bool.true) (fun _ _ _ _ _ => Bool.true) Bool.true (fun _ => Bool.true) (fun _ _ => Bool.true) (fun _ _ => Bool.true) (fun _ _ _ _ _ => Bool.true) (fun _ => Bool.true) (fun _ _ _ => Bool.true) PUnit.unit.{1} (fun _ _ _ _ => PUnit.unit.{1}) x0))
theorem l57_eq : ∀ x0, (Eq (l57 x0) (@bok._sparseCasesOn_1 (fun _ => Bool) x0 Bool.false (fun x1 => (l56 x1)) (fun _ => Bool.true))) := by intro t; cases t <;> (intros; rfl)
noncomputable def k_bok : t2 := (fun x0 => (l57 x0))
theorem k_bok_eq : @k_bok = bok := by
  delta k_bok bok
  simp only [l56_eq, l57_eq]
  all_goals kernel_rfl

abbrev t220 : Type := CV → t7
abbrev t221 : Type := CV → t220
noncomputable def l58 : t221 := (fun x0 => (@CV.rec (fun _ => t220) (fun _ => PUnit.{1}) (fun x1 => (x1 :: [])) (fun _ x2 => (x2 :: [])) (fun _ _ x3 => (x3 :: [])) (fun _ _ _ _ _ x6 => (x6 :: [])) (fun x1 => (x1 :: [])) (fun _ x2 => (x2 :: [])) (fun x1 _ _ => x1) (fun _ _ x3 => (x3 :: [])) (fun _ _ _ _ _ x6 => (x6 :: [])) (fun _ x2 => (x2 :: [])) (fun _ _ _ x4 => (x4 :: [])) PUnit.unit.{1} (fun _ _ _ _ => PUnit.unit.{1}) x0))
theorem l58_eq : ∀ x0 x1, (Eq (l58 x0 x1) (@cells._sparseCasesOn_1 (fun _ => t7) x0 (fun x2 => x2) (fun _ => (x1 :: [])))) := by intro t; cases t <;> (intros; rfl)
noncomputable def k_cells : t220 := (fun x0 => (l58 x0 x0))
theorem k_cells_eq : @k_cells = cells := by
  delta k_cells cells
  simp only [l58_eq]
  all_goals kernel_rfl

abbrev t222 : Type := t4 → t4
abbrev t223 : Type := Bool → t222
noncomputable def k_ifT_Ret : t223 := (fun x0 x1 => (@Bool.rec (fun _ => t4) none x1 x0))
theorem k_ifT_Ret_eq : @k_ifT_Ret = (@ifT Ret) := by
  delta k_ifT_Ret ifT
  all_goals kernel_rfl

abbrev t224 : Type := TypeId → t191
abbrev t225 : Type := t14 → t224
abbrev t226 : Type := Program → t225
noncomputable def k_o_box : t226 := (fun _ x1 x2 x3 x4 => (@Option.rec CV (fun _ => t4) none (fun x5 => ((fun x6 => (k_ifT_Ret (k_bok x6) (k_nw_Ret x4 (CO.row x2 (k_cells x6) Bool.false) (fun x7 x8 => (k_ok1 (CV.ptr x7 (nat_lit 0)) x8))))) x5)) (k_ev x1 x3)))
theorem k_o_box_eq : @k_o_box = o_box := by
  delta k_o_box o_box
  rw [k_ev_eq, k_ifT_Ret_eq, k_nw_Ret_eq, k_ok1_eq, k_cells_eq, k_bok_eq]
  all_goals kernel_rfl

abbrev t227 : Type := t7 → Bool
noncomputable def k_bokL : t227 := (fun x0 => (@List.rec CV (fun _ => Bool) Bool.true (fun x1 _ x3 => (@Bool.rec (fun _ => Bool) Bool.false x3 (k_bok x1))) x0))
theorem k_bokL_law : ∀ x0, (Eq (k_bokL x0) (bokL x0)) := by
  intro t
  induction t with
  | nil  =>
    show Bool.true = _
    conv => rhs; rw [Ev.bokL.eq_def]
    all_goals kernel_rfl
  | cons y0 y1 ih0 =>
    have e0 : (k_bokL y1) = (bokL y1) := by
      exact ih0
    show ((fun (x0 : CV) (_ : t7) (x2 : Bool) => (@Bool.rec (fun (_ : Bool) => Bool) Bool.false x2 (k_bok x0))) y0 y1 (k_bokL y1)) = _
    rw [e0]
    conv => rhs; rw [Ev.bokL.eq_def]
    try rw [k_bok_eq]
    all_goals kernel_rfl
theorem k_bokL_eq : @k_bokL = bokL := by
  funext a0; exact k_bokL_law a0
abbrev t228 : Type := Prod Nat Nat
abbrev t229 : Type := List t228
abbrev t230 : Type := Option t228
abbrev t231 : Type := Nat → t230
abbrev t232 : Type := t229 → t231
noncomputable def k_List_get?Internal_364 : t232 := (fun x0 x1 => (@List.rec t228 (fun _ => t231) (fun _ => none) (fun x2 _ x4 x5 => (@Nat.rec (fun _ => t230) (some x2) (fun x6 _ => (x4 x6)) x5)) x0 x1))
theorem k_List_get?Internal_364_law : ∀ x0 x1, (Eq (k_List_get?Internal_364 x0 x1) (@List.get?Internal t228 x0 x1)) := by
  intro t
  induction t with
  | nil  =>
    intro z0
    show ((fun (_ : Nat) => none) z0) = _
    conv => rhs; rw [List.get?Internal.eq_def]
    all_goals kernel_rfl
  | cons y0 y1 ih0 =>
    intro z0
    have e0 : (fun (x0 : Nat) => (k_List_get?Internal_364 y1 x0)) = (fun (x0 : Nat) => (@List.get?Internal t228 y1 x0)) := by
      funext z0; exact ih0 z0
    show ((fun (x0 : t228) (_ : t229) (x2 : t231) (x3 : Nat) => (@Nat.rec (fun (_ : Nat) => t230) (some x0) (fun (x4 : Nat) (_ : t230) => (x2 x4)) x3)) y0 y1 (fun (x0 : Nat) => (k_List_get?Internal_364 y1 x0)) z0) = _
    rw [e0]
    conv => rhs; rw [List.get?Internal.eq_def]
    all_goals kernel_rfl
theorem k_List_get?Internal_364_eq : @k_List_get?Internal_364 = (@List.get?Internal t228) := by
  funext a0 a1; exact k_List_get?Internal_364_law a0 a1
abbrev t233 : Type := t33 → t31
abbrev t234 : Type := t7 → t233
abbrev t235 : Type := CV → t234
abbrev t236 : Type := t7 → t235
abbrev t237 : Type := Nat → t236
noncomputable def l61 : t237 := (fun x0 => (@Nat.rec (fun _ => t236) (fun x1 x2 x3 x4 => (@List.rec CV (fun _ => t31) (some (x2 :: x3)) (fun x5 x6 _ => (@Option.rec t7 (fun _ => t31) none (fun x8 => (some (x5 :: x8))) (x4 (nat_lit 0) x6))) x1)) (fun x1 _ x3 x4 _ x6 => (@Option.rec t7 (fun _ => t31) none (fun x7 => (some (x4 :: x7))) (x6 x1 x3))) x0))
theorem l61_eq : ∀ x0 x1 x2 x3 x4, (Eq (l61 x0 x1 x2 x3 x4) (@Nat.rec (fun _ => t31) (@List.rec CV (fun _ => t31) (some (x2 :: x3)) (fun x5 x6 _ => (@Option.rec t7 (fun _ => t31) none (fun x8 => (some (x5 :: x8))) (x4 (nat_lit 0) x6))) x1) (fun x5 _ => (@Option.rec t7 (fun _ => t31) none (fun x7 => (some (x2 :: x7))) (x4 x5 x1))) x0)) := by intro t; cases t <;> (intros; rfl)
abbrev t238 : Type := t7 → t32
abbrev t239 : Type := Nat → t238
noncomputable def k_putN : t239 := (fun x0 x1 x2 => (@List.rec CV (fun _ => t33) (fun x3 x4 => (@Nat.rec (fun _ => t31) (@List.rec CV (fun _ => t31) (some []) (fun _ _ _ => none) x4) (fun _ _ => none) x3)) (fun x3 x4 x5 x6 x7 => (l61 x6 x7 x3 x4 x5)) x2 x0 x1))
theorem k_putN_law : ∀ x0 x1 x2, (Eq (k_putN x1 x2 x0) (putN x1 x2 x0)) := by
  intro t
  induction t with
  | nil  =>
    intro z0 z1
    show ((fun (x0 : Nat) (x1 : t7) => (@Nat.rec (fun (_ : Nat) => t31) (@List.rec CV (fun (_ : t7) => t31) (some []) (fun (_ : CV) (_ : t7) (_ : t31) => none) x1) (fun (_ : Nat) (_ : t31) => none) x0)) z0 z1) = _
    conv => rhs; rw [Ev.putN.eq_def]
    all_goals kernel_rfl
  | cons y0 y1 ih0 =>
    intro z0 z1
    have e0 : (fun (x0 : Nat) (x1 : t7) => (k_putN x0 x1 y1)) = (fun (x0 : Nat) (x1 : t7) => (putN x0 x1 y1)) := by
      funext z0 z1; exact ih0 z0 z1
    show ((fun (x0 : CV) (x1 : t7) (x2 : t33) (x3 : Nat) (x4 : t7) => (l61 x3 x4 x0 x1 x2)) y0 y1 (fun (x0 : Nat) (x1 : t7) => (k_putN x0 x1 y1)) z0 z1) = _
    rw [e0]
    conv => rhs; rw [Ev.putN.eq_def]
    try simp only [l61_eq]
    all_goals kernel_rfl
theorem k_putN_eq : @k_putN = putN := by
  funext a0 a1 a2; exact k_putN_law a2 a0 a1
noncomputable def l62 : t1 := (fun x0 => (@Value.rec (fun _ => Bool) (fun _ => PUnit.{1}) (fun _ => PUnit.{1}) (fun _ => Bool.true) (fun _ _ => Bool.true) (fun _ _ => Bool.true) (fun _ _ _ => Bool.true) (fun _ => Bool.true) (fun _ => Bool.true) (fun _ _ _ => Bool.true) (fun _ => Bool.true) (fun _ => Bool.true) (fun _ _ _ _ _ => Bool.true) Bool.true (fun _ _ _ => Bool.true) Bool.true (fun _ _ => Bool.false) (fun _ _ => Bool.false) (fun _ _ => PUnit.unit.{1}) PUnit.unit.{1} (fun _ _ _ _ => PUnit.unit.{1}) x0))
theorem l62_eq : ∀ x0, (Eq (l62 x0) (@one._sparseCasesOn_2 (fun _ => Bool) x0 (fun _ => Bool.false) (fun _ => Bool.false) (fun _ => Bool.true))) := by intro t; cases t <;> (intros; rfl)
noncomputable def l63 : t2 := (fun x0 => (@CV.rec (fun _ => Bool) (fun _ => PUnit.{1}) Bool.false (fun x1 => (l62 x1)) (fun _ _ => Bool.true) (fun _ _ _ _ _ => Bool.true) Bool.true (fun _ => Bool.true) (fun _ _ => Bool.false) (fun _ _ => Bool.false) (fun _ _ _ _ _ => Bool.true) (fun _ => Bool.true) (fun _ _ _ => Bool.true) PUnit.unit.{1} (fun _ _ _ _ => PUnit.unit.{1}) x0))
theorem l63_eq : ∀ x0, (Eq (l63 x0) (@one._sparseCasesOn_1 (fun _ => Bool) x0 (fun x1 => (l62 x1)) (fun _ => Bool.false) (fun _ => Bool.false) Bool.false (fun _ => Bool.true))) := by intro t; cases t <;> (intros; rfl)
noncomputable def k_one : t2 := (fun x0 => (l63 x0))
theorem k_one_eq : @k_one = one := by
  delta k_one one
  simp only [l63_eq, l62_eq]
  all_goals kernel_rfl

noncomputable def k_allOne : t227 := (fun x0 => (@List.rec CV (fun _ => Bool) Bool.true (fun x1 _ x3 => (@Bool.rec (fun _ => Bool) Bool.false x3 (k_one x1))) x0))
theorem k_allOne_law : ∀ x0, (Eq (k_allOne x0) (Ev.allOne x0)) := by
  intro t
  induction t with
  | nil  =>
    show Bool.true = _
    conv => rhs; rw [Ev.allOne.eq_def]
    all_goals kernel_rfl
  | cons y0 y1 ih0 =>
    have e0 : (k_allOne y1) = (Ev.allOne y1) := by
      exact ih0
    show ((fun (x0 : CV) (_ : t7) (x2 : Bool) => (@Bool.rec (fun (_ : Bool) => Bool) Bool.false x2 (k_one x0))) y0 y1 (k_allOne y1)) = _
    rw [e0]
    conv => rhs; rw [Ev.allOne.eq_def]
    try rw [k_one_eq]
    all_goals kernel_rfl
theorem k_allOne_eq : @k_allOne = Ev.allOne := by
  funext a0; exact k_allOne_law a0
abbrev t240 : Type := t231 → t32
abbrev t241 : Type := CV → t31
abbrev t242 : Type := t240 → t241
abbrev t243 : Type := t7 → t242
abbrev t244 : Type := t231 → t243
abbrev t245 : Type := t228 → t244
noncomputable def l60 : t245 := (fun x0 => (@Prod.rec Nat Nat (fun _ => t244) (fun x1 x2 x3 x4 x5 x6 => (@Bool.rec (fun _ => t31) none (@Option.rec t7 (fun _ => t31) none (fun x7 => (x5 x3 x7)) (k_putN x1 (k_cells x6) x4)) (@Bool.rec (fun _ => Bool) Bool.false (Nat.beq (@List.length CV (k_cells x6)) x2) (k_allOne (k_cells x6))))) x0))
theorem l60_eq : ∀ x0 x1 x2 x3 x4, (Eq (l60 x0 x1 x2 x3 x4) (@Prod.rec Nat Nat (fun _ => t31) (fun x5 x6 => (@Bool.rec (fun _ => t31) none (@Option.rec t7 (fun _ => t31) none (fun x7 => (x3 x1 x7)) (k_putN x5 (k_cells x4) x2)) (@Bool.rec (fun _ => Bool) Bool.false (Nat.beq (@List.length CV (k_cells x4)) x6) (k_allOne (k_cells x4))))) x0)) := by intro t; cases t <;> (intros; rfl)
abbrev t246 : Type := Prod Nat CV
abbrev t247 : Type := List t246
abbrev t248 : Type := t247 → t31
abbrev t249 : Type := t7 → t248
abbrev t250 : Type := t231 → t249
noncomputable def k_fillC : t250 := (fun x0 x1 x2 => (@List.rec t246 (fun _ => t240) (fun _ x4 => (some x4)) (fun x3 _ x5 x6 x7 => (@Prod.rec Nat CV (fun _ => t31) (fun x8 x9 => (@Option.rec t228 (fun _ => t31) none (fun x10 => (l60 x10 x6 x7 x5 x9)) (x6 x8))) x3)) x2 x0 x1))
theorem k_fillC_law : ∀ x0 x1 x2, (Eq (k_fillC x1 x2 x0) (fillC x1 x2 x0)) := by
  intro t
  induction t with
  | nil  =>
    intro z0 z1
    show ((fun (_ : t231) (x1 : t7) => (some x1)) z0 z1) = _
    conv => rhs; rw [Ev.fillC.eq_def]
    all_goals kernel_rfl
  | cons y0 y1 ih0 =>
    intro z0 z1
    have e0 : (fun (x0 : t231) (x1 : t7) => (k_fillC x0 x1 y1)) = (fun (x0 : t231) (x1 : t7) => (fillC x0 x1 y1)) := by
      funext z0 z1; exact ih0 z0 z1
    show ((fun (x0 : t246) (_ : t247) (x2 : t240) (x3 : t231) (x4 : t7) => (@Prod.rec Nat CV (fun (_ : t246) => t31) (fun (x5 : Nat) (x6 : CV) => (@Option.rec t228 (fun (_ : t230) => t31) none (fun (x7 : t228) => (l60 x7 x3 x4 x2 x6)) (x3 x5))) x0)) y0 y1 (fun (x0 : t231) (x1 : t7) => (k_fillC x0 x1 y1)) z0 z1) = _
    rw [e0]
    conv => rhs; rw [Ev.fillC.eq_def]
    try simp only [l60_eq]
    try rw [k_allOne_eq]
    try rw [k_cells_eq]
    try rw [k_putN_eq]
    all_goals kernel_rfl
theorem k_fillC_eq : @k_fillC = fillC := by
  funext a0 a1 a2; exact k_fillC_law a2 a0 a1
abbrev t251 : Type := Option t247
abbrev t252 : Type := t7 → t4
abbrev t253 : Type := t7 → t252
abbrev t254 : Type := t229 → t253
abbrev t255 : Type := S → t254
abbrev t256 : Type := t251 → t255
noncomputable def l59 : t256 := (fun x0 => (@Option.rec t247 (fun _ => t255) (fun _ _ _ _ => none) (fun x1 x2 x3 x4 x5 => (k_ifT_Ret (k_bokL x4) (@Option.rec t7 (fun _ => t4) none (fun x6 => ((fun x7 => (k_ok1 (CV.agg x7) x2)) x6)) (k_fillC (fun x6 => (k_List_get?Internal_364 x3 x6)) x5 x1)))) x0))
theorem l59_eq : ∀ x0 x1 x2 x3 x4, (Eq (l59 x0 x1 x2 x3 x4) (@elInfo._sparseCasesOn_3 t247 (fun _ => t4) x0 (fun x5 => (k_ifT_Ret (k_bokL x3) (@Option.rec t7 (fun _ => t4) none (fun x6 => ((fun x7 => (k_ok1 (CV.agg x7) x1)) x6)) (k_fillC (fun x6 => (k_List_get?Internal_364 x2 x6)) x4 x5)))) (fun _ => none))) := by intro t; cases t <;> (intros; rfl)
abbrev t257 : Type := t7 → t251
noncomputable def l65 : t257 := (fun x0 => (@List.rec CV (fun _ => t251) (some []) (fun _ _ _ => none) x0))
theorem l65_eq : ∀ x0, (Eq (l65 x0) (@zipIx._sparseCasesOn_2 CV (fun _ => t251) x0 (some []) (fun _ => none))) := by intro t; cases t <;> (intros; rfl)
abbrev t258 : Type := Nat → t251
abbrev t259 : Type := t257 → t258
abbrev t260 : Type := t7 → t259
noncomputable def l66 : t260 := (fun x0 => (@List.rec CV (fun _ => t259) (fun _ _ => none) (fun x1 x2 _ x4 x5 => (@Option.rec t247 (fun _ => t251) none (fun x6 => (some ((x5, x1) :: x6))) (x4 x2))) x0))
theorem l66_eq : ∀ x0 x1 x2, (Eq (l66 x0 x1 x2) (@zipIx._sparseCasesOn_3 CV (fun _ => t251) x0 (fun x3 x4 => (@Option.rec t247 (fun _ => t251) none (fun x5 => (some ((x2, x3) :: x5))) (x1 x4))) (fun _ => none))) := by intro t; cases t <;> (intros; rfl)
abbrev t261 : Type := Prod Nat Operand
abbrev t262 : Type := List t261
abbrev t263 : Type := t262 → t257
noncomputable def k_zipIx : t263 := (fun x0 x1 => (@List.rec t261 (fun _ => t257) (fun x2 => (l65 x2)) (fun x2 _ x4 x5 => (@Prod.rec Nat Operand (fun _ => t251) (fun x6 _ => (l66 x5 x4 x6)) x2)) x0 x1))
theorem k_zipIx_law : ∀ x0 x1, (Eq (k_zipIx x0 x1) (zipIx x0 x1)) := by
  intro t
  induction t with
  | nil  =>
    intro z0
    show ((fun (x0 : t7) => (l65 x0)) z0) = _
    conv => rhs; rw [Ev.zipIx.eq_def]
    try simp only [l65_eq]
    all_goals kernel_rfl
  | cons y0 y1 ih0 =>
    intro z0
    have e0 : (fun (x0 : t7) => (k_zipIx y1 x0)) = (fun (x0 : t7) => (zipIx y1 x0)) := by
      funext z0; exact ih0 z0
    show ((fun (x0 : t261) (_ : t262) (x2 : t257) (x3 : t7) => (@Prod.rec Nat Operand (fun (_ : t261) => t251) (fun (x4 : Nat) (_ : Operand) => (l66 x3 x2 x4)) x0)) y0 y1 (fun (x0 : t7) => (k_zipIx y1 x0)) z0) = _
    rw [e0]
    conv => rhs; rw [Ev.zipIx.eq_def]
    try simp only [l66_eq]
    all_goals kernel_rfl
theorem k_zipIx_eq : @k_zipIx = zipIx := by
  funext a0 a1; exact k_zipIx_law a0 a1
abbrev t264 : Type := t229 → t252
abbrev t265 : Type := S → t264
abbrev t266 : Type := (Array t261) → t265
abbrev t267 : Type := t31 → t266
noncomputable def l64 : t267 := (fun x0 => (@Option.rec t7 (fun _ => t266) (fun _ _ _ _ => none) (fun x1 x2 x3 x4 x5 => (l59 (k_zipIx (@Array.toList t261 x2) x5) x3 x4 x5 x1)) x0))
theorem l64_eq : ∀ x0 x1 x2 x3 x4, (Eq (l64 x0 x1 x2 x3 x4) (@elInfo._sparseCasesOn_3 t7 (fun _ => t4) x0 (fun x5 => (l59 (k_zipIx (@Array.toList t261 x1) x4) x2 x3 x4 x5)) (fun _ => none))) := by intro t; cases t <;> (intros; rfl)
abbrev t268 : Type := t229 → t4
abbrev t269 : Type := t213 → t268
abbrev t270 : Type := S → t269
abbrev t271 : Type := (Array t261) → t270
abbrev t272 : Type := t31 → t271
noncomputable def l67 : t272 := (fun x0 => (@Option.rec t7 (fun _ => t271) (fun _ _ _ _ => none) (fun x1 x2 x3 x4 x5 => (l64 (k_valL x4) x2 x3 x5 x1)) x0))
theorem l67_eq : ∀ x0 x1 x2 x3 x4, (Eq (l67 x0 x1 x2 x3 x4) (@elInfo._sparseCasesOn_3 t7 (fun _ => t4) x0 (fun x5 => (l64 (k_valL x3) x1 x2 x4 x5)) (fun _ => none))) := by intro t; cases t <;> (intros; rfl)
abbrev t273 : Type := List Operand
abbrev t274 : Type := t14 → t31
abbrev t275 : Type := t273 → t31
abbrev t276 : Type := t14 → t275
noncomputable def k_evs : t276 := (fun x0 x1 => (@List.rec Operand (fun _ => t274) (fun _ => (some [])) (fun x2 _ x4 x5 => (@Option.rec CV (fun _ => t31) none (fun x6 => (@Option.rec t7 (fun _ => t31) none (fun x7 => (some (x6 :: x7))) (x4 x5))) (k_ev x5 x2))) x1 x0))
theorem k_evs_law : ∀ x0 x1, (Eq (k_evs x1 x0) (evs x1 x0)) := by
  intro t
  induction t with
  | nil  =>
    intro z0
    show ((fun (_ : t14) => (some [])) z0) = _
    conv => rhs; rw [Ev.evs.eq_def]
    all_goals kernel_rfl
  | cons y0 y1 ih0 =>
    intro z0
    have e0 : (fun (x0 : t14) => (k_evs x0 y1)) = (fun (x0 : t14) => (evs x0 y1)) := by
      funext z0; exact ih0 z0
    show ((fun (x0 : Operand) (_ : t273) (x2 : t274) (x3 : t14) => (@Option.rec CV (fun (_ : t81) => t31) none (fun (x4 : CV) => (@Option.rec t7 (fun (_ : t31) => t31) none (fun (x5 : t7) => (some (x4 :: x5))) (x2 x3))) (k_ev x3 x0))) y0 y1 (fun (x0 : t14) => (k_evs x0 y1)) z0) = _
    rw [e0]
    conv => rhs; rw [Ev.evs.eq_def]
    try rw [k_ev_eq]
    all_goals kernel_rfl
theorem k_evs_eq : @k_evs = evs := by
  funext a0 a1; exact k_evs_law a1 a0
abbrev t277 : Type := Prod t213 t229
abbrev t278 : Type := Option t277
abbrev t279 : Type := (Array t261) → t8
abbrev t280 : Type := t14 → t279
abbrev t281 : Type := t278 → t280
noncomputable def l68 : t281 := (fun x0 => (@Option.rec t277 (fun _ => t280) (fun _ _ _ => none) (fun x1 x2 x3 x4 => (@Prod.rec t213 t229 (fun _ => t4) (fun x5 x6 => (l67 (k_evs x2 (@List.map t261 Operand (fun x7 => (@Prod.snd Nat Operand x7)) (@Array.toList t261 x3))) x3 x4 x5 x6)) x1)) x0))
theorem l68_eq : ∀ x0 x1 x2 x3, (Eq (l68 x0 x1 x2 x3) (@elInfo._sparseCasesOn_3 t277 (fun _ => t4) x0 (fun x4 => (@Prod.rec t213 t229 (fun _ => t4) (fun x5 x6 => (l67 (k_evs x1 (@List.map t261 Operand (fun x7 => (@Prod.snd Nat Operand x7)) (@Array.toList t261 x2))) x2 x3 x5 x6)) x4)) (fun _ => none))) := by intro t; cases t <;> (intros; rfl)
abbrev t282 : Type := TypeId → t279
abbrev t283 : Type := t14 → t282
abbrev t284 : Type := Program → t283
noncomputable def k_o_build : t284 := (fun x0 x1 x2 x3 x4 => (l68 (buildInfo x0 x2) x1 x3 x4))
theorem k_o_build_eq : @k_o_build = o_build := by
  delta k_o_build o_build
  simp only [l67_eq, l68_eq, l64_eq, l59_eq]
  rw [k_ifT_Ret_eq, k_fillC_eq, k_List_get?Internal_364_eq, k_ok1_eq, k_bokL_eq, k_zipIx_eq, k_valL_eq, k_evs_eq]
  all_goals kernel_rfl

abbrev t285 : Type := TypeId → t41
abbrev t286 : Type := S → t285
abbrev t287 : Type := Nat → t286
abbrev t288 : Type := t31 → t287
noncomputable def l69 : t288 := (fun x0 => (@Option.rec t7 (fun _ => t287) (fun _ _ _ _ => none) (fun x1 x2 x3 x4 x5 => ((fun x6 => (k_nw_Ret x3 (CO.row x4 x6 Bool.false) (fun x7 x8 => (k_ok1 (CV.sl x7 (nat_lit 0) x2 (some x2) x5) x8)))) x1)) x0))
theorem l69_eq : ∀ x0 x1 x2 x3 x4, (Eq (l69 x0 x1 x2 x3 x4) (@Option.rec t7 (fun _ => t4) none (fun x5 => ((fun x6 => (k_nw_Ret x2 (CO.row x3 x6 Bool.false) (fun x7 x8 => (k_ok1 (CV.sl x7 (nat_lit 0) x1 (some x1) x4) x8)))) x5)) x0)) := by intro t; cases t <;> (intros; rfl)
abbrev t289 : Type := t7 → t286
noncomputable def l70 : t289 := (fun x0 => (@List.rec CV (fun _ => t286) (fun x1 x2 x3 => (k_nw_Ret x1 (CO.row x2 [] Bool.false) (fun x4 x5 => (k_ok1 (CV.sl x4 (nat_lit 0) (nat_lit 0) (some (nat_lit 0)) x3) x5)))) (fun _ _ _ _ _ _ => none) x0))
theorem l70_eq : ∀ x0 x1 x2 x3, (Eq (l70 x0 x1 x2 x3) (@zipIx._sparseCasesOn_2 CV (fun _ => t4) x0 (k_nw_Ret x1 (CO.row x2 [] Bool.false) (fun x4 x5 => (k_ok1 (CV.sl x4 (nat_lit 0) (nat_lit 0) (some (nat_lit 0)) x3) x5))) (fun _ => none))) := by intro t; cases t <;> (intros; rfl)
abbrev t290 : Type := t7 → Nat
noncomputable def k_len : t290 := (fun x0 => (@List.rec CV (fun _ => Nat) (nat_lit 0) (fun _ _ x3 => (Nat.add x3 (nat_lit 1))) x0))
theorem k_len_law : ∀ x0, (Eq (k_len x0) (len x0)) := by
  intro t
  induction t with
  | nil  =>
    show (nat_lit 0) = _
    conv => rhs; rw [Ev.len.eq_def]
    all_goals kernel_rfl
  | cons y0 y1 ih0 =>
    have e0 : (k_len y1) = (len y1) := by
      exact ih0
    show ((fun (_ : CV) (_ : t7) (x2 : Nat) => (Nat.add x2 (nat_lit 1))) y0 y1 (k_len y1)) = _
    rw [e0]
    conv => rhs; rw [Ev.len.eq_def]
    all_goals kernel_rfl
theorem k_len_eq : @k_len = len := by
  funext a0; exact k_len_law a0
abbrev t291 : Type := t7 → t7
abbrev t292 : Type := Nat → t291
noncomputable def k_repl : t292 := (fun x0 x1 => (@Nat.rec (fun _ => t291) (fun _ => []) (fun _ x3 x4 => (@List.append CV x4 (x3 x4))) x0 x1))
theorem k_repl_law : ∀ x0 x1, (Eq (k_repl x0 x1) (repl x0 x1)) := by
  intro t
  induction t with
  | zero  =>
    intro z0
    show ((fun (_ : t7) => []) z0) = _
    conv => rhs; rw [Ev.repl.eq_def]
    all_goals kernel_rfl
  | succ y0 ih0 =>
    intro z0
    have e0 : (fun (x0 : t7) => (k_repl y0 x0)) = (fun (x0 : t7) => (repl y0 x0)) := by
      funext z0; exact ih0 z0
    show ((fun (_ : Nat) (x1 : t291) (x2 : t7) => (@List.append CV x2 (x1 x2))) y0 (fun (x0 : t7) => (k_repl y0 x0)) z0) = _
    rw [e0]
    conv => rhs; rw [Ev.repl.eq_def]
    all_goals kernel_rfl
theorem k_repl_eq : @k_repl = repl := by
  funext a0 a1; exact k_repl_law a0 a1
abbrev t293 : Type := t247 → t4
abbrev t294 : Type := t7 → t293
abbrev t295 : Type := t7 → t294
abbrev t296 : Type := Nat → t295
abbrev t297 : Type := TypeId → t296
abbrev t298 : Type := S → t297
abbrev t299 : Type := Nat → t298
abbrev t300 : Type := Bool → t299
noncomputable def l71 : t300 := (fun x0 => (@Bool.rec (fun _ => t299) (fun x1 x2 x3 x4 x5 x6 x7 => (k_ifT_Ret (@Bool.rec (fun _ => Bool) Bool.false (k_Nat_blt (nat_lit 0) x4) (@Bool.rec (fun _ => Bool) Bool.false (Nat.beq (k_len x6) x4) (@Bool.rec (fun _ => Bool) Bool.false (Nat.ble (Nat.mul x1 x4) (nat_lit 16777216)) (k_bokL x5)))) (l69 (k_fillC (fun x8 => (some ((Nat.mul x8 x4), x4))) (k_repl x1 x6) x7) x1 x2 x3 x4))) (fun _ x2 x3 x4 x5 _ _ => (l70 x5 x2 x3 x4)) x0))
theorem l71_eq : ∀ x0 x1 x2 x3 x4 x5 x6 x7, (Eq (l71 x0 x1 x2 x3 x4 x5 x6 x7) (@Bool.rec (fun _ => t4) (k_ifT_Ret (@Bool.rec (fun _ => Bool) Bool.false (k_Nat_blt (nat_lit 0) x4) (@Bool.rec (fun _ => Bool) Bool.false (Nat.beq (k_len x6) x4) (@Bool.rec (fun _ => Bool) Bool.false (Nat.ble (Nat.mul x1 x4) (nat_lit 16777216)) (k_bokL x5)))) (l69 (k_fillC (fun x8 => (some ((Nat.mul x8 x4), x4))) (k_repl x1 x6) x7) x1 x2 x3 x4)) (l70 x5 x2 x3 x4) x0)) := by intro t; cases t <;> (intros; rfl)
abbrev t301 : Type := Nat → t253
abbrev t302 : Type := TypeId → t301
abbrev t303 : Type := S → t302
abbrev t304 : Type := Nat → t303
abbrev t305 : Type := t251 → t304
noncomputable def l72 : t305 := (fun x0 => (@Option.rec t247 (fun _ => t304) (fun _ _ _ _ _ _ => none) (fun x1 x2 x3 x4 x5 x6 x7 => (l71 (Nat.beq x2 (nat_lit 0)) x2 x3 x4 x5 x6 x7 x1)) x0))
theorem l72_eq : ∀ x0 x1 x2 x3 x4 x5 x6, (Eq (l72 x0 x1 x2 x3 x4 x5 x6) (@elInfo._sparseCasesOn_3 t247 (fun _ => t4) x0 (fun x7 => (l71 (Nat.beq x1 (nat_lit 0)) x1 x2 x3 x4 x5 x6 x7)) (fun _ => none))) := by intro t; cases t <;> (intros; rfl)
abbrev t306 : Type := Nat → t252
abbrev t307 : Type := TypeId → t306
abbrev t308 : Type := S → t307
abbrev t309 : Type := (Array t261) → t308
abbrev t310 : Type := Nat → t309
abbrev t311 : Type := t31 → t310
noncomputable def l73 : t311 := (fun x0 => (@Option.rec t7 (fun _ => t310) (fun _ _ _ _ _ _ => none) (fun x1 x2 x3 x4 x5 x6 x7 => (l72 (k_zipIx (@Array.toList t261 x3) x7) x2 x4 x5 x6 x7 x1)) x0))
theorem l73_eq : ∀ x0 x1 x2 x3 x4 x5 x6, (Eq (l73 x0 x1 x2 x3 x4 x5 x6) (@elInfo._sparseCasesOn_3 t7 (fun _ => t4) x0 (fun x7 => (l72 (k_zipIx (@Array.toList t261 x2) x6) x1 x3 x4 x5 x6 x7)) (fun _ => none))) := by intro t; cases t <;> (intros; rfl)
abbrev t312 : Type := t213 → t4
abbrev t313 : Type := Nat → t312
abbrev t314 : Type := TypeId → t313
abbrev t315 : Type := S → t314
abbrev t316 : Type := (Array t261) → t315
abbrev t317 : Type := Nat → t316
abbrev t318 : Type := t31 → t317
noncomputable def l74 : t318 := (fun x0 => (@Option.rec t7 (fun _ => t317) (fun _ _ _ _ _ _ => none) (fun x1 x2 x3 x4 x5 x6 x7 => (l73 (k_valL x7) x2 x3 x4 x5 x6 x1)) x0))
theorem l74_eq : ∀ x0 x1 x2 x3 x4 x5 x6, (Eq (l74 x0 x1 x2 x3 x4 x5 x6) (@elInfo._sparseCasesOn_3 t7 (fun _ => t4) x0 (fun x7 => (l73 (k_valL x6) x1 x2 x3 x4 x5 x7)) (fun _ => none))) := by intro t; cases t <;> (intros; rfl)
abbrev t319 : Type := Prod Nat t213
abbrev t320 : Type := Prod Nat t319
abbrev t321 : Type := S → t74
abbrev t322 : Type := (Array t261) → t321
abbrev t323 : Type := Nat → t322
abbrev t324 : Type := t14 → t323
abbrev t325 : Type := t320 → t324
noncomputable def l75 : t325 := (fun x0 => (@Prod.rec Nat t319 (fun _ => t324) (fun x1 x2 x3 x4 x5 x6 x7 => (@Prod.rec Nat t213 (fun _ => t4) (fun _ x9 => (l74 (k_evs x3 (@List.map t261 Operand (fun x10 => (@Prod.snd Nat Operand x10)) (@Array.toList t261 x5))) x4 x5 x6 x7 x1 x9)) x2)) x0))
theorem l75_eq : ∀ x0 x1 x2 x3 x4 x5, (Eq (l75 x0 x1 x2 x3 x4 x5) (@Prod.rec Nat t319 (fun _ => t4) (fun x6 x7 => (@Prod.rec Nat t213 (fun _ => t4) (fun _ x9 => (l74 (k_evs x1 (@List.map t261 Operand (fun x10 => (@Prod.snd Nat Operand x10)) (@Array.toList t261 x3))) x2 x3 x4 x5 x6 x9)) x7)) x0)) := by intro t; cases t <;> (intros; rfl)
abbrev t326 : Type := Prod TypeId t320
abbrev t327 : Type := Option t326
abbrev t328 : Type := Nat → t279
abbrev t329 : Type := t14 → t328
abbrev t330 : Type := t327 → t329
noncomputable def l76 : t330 := (fun x0 => (@Option.rec t326 (fun _ => t329) (fun _ _ _ _ => none) (fun x1 x2 x3 x4 x5 => (@Prod.rec TypeId t320 (fun _ => t4) (fun x6 x7 => (l75 x7 x2 x3 x4 x5 x6)) x1)) x0))
theorem l76_eq : ∀ x0 x1 x2 x3 x4, (Eq (l76 x0 x1 x2 x3 x4) (@elInfo._sparseCasesOn_3 t326 (fun _ => t4) x0 (fun x5 => (@Prod.rec TypeId t320 (fun _ => t4) (fun x6 x7 => (l75 x7 x1 x2 x3 x4 x6)) x5)) (fun _ => none))) := by intro t; cases t <;> (intros; rfl)
abbrev t331 : Type := Option TypeInfo
abbrev t332 : Type := TypeId → t327
abbrev t333 : Type := t331 → t332
noncomputable def l77 : t333 := (fun x0 => (@Option.rec TypeInfo (fun _ => t332) (fun _ => none) (fun x1 x2 => ((fun x3 => (@Option.rec Value (fun _ => t327) none (fun x4 => ((fun x5 => (some (x2, ((TypeInfo.size x3), ((TypeInfo.bytes x3), (@Array.toList Value (Value.cells x5))))))) x4)) (TypeInfo.zero x3))) x1)) x0))
theorem l77_eq : ∀ x0 x1, (Eq (l77 x0 x1) (@Option.rec TypeInfo (fun _ => t327) none (fun x2 => ((fun x3 => (@Option.rec Value (fun _ => t327) none (fun x4 => ((fun x5 => (some (x1, ((TypeInfo.size x3), ((TypeInfo.bytes x3), (@Array.toList Value (Value.cells x5))))))) x4)) (TypeInfo.zero x3))) x2)) x0)) := by intro t; cases t <;> (intros; rfl)
abbrev t334 : Type := Program → t327
abbrev t335 : Type := TypeDesc → t334
noncomputable def l78 : t335 := (fun x0 => (@TypeDesc.rec (fun _ => t334) (fun _ => none) (fun _ => none) (fun _ _ => none) (fun _ _ => none) (fun _ _ => none) (fun _ => none) (fun _ => none) (fun _ _ => none) (fun x1 x2 => (l77 (Tables.info? (Program.toTables x2) x1) x1)) (fun _ _ _ => none) (fun _ _ _ => none) (fun _ _ _ => none) (fun _ _ => none) (fun _ _ _ _ => none) (fun _ _ => none) (fun _ _ => none) (fun _ _ _ => none) x0))
theorem l78_eq : ∀ x0 x1, (Eq (l78 x0 x1) (@elInfo._sparseCasesOn_4 (fun _ => t327) x0 (fun x2 => (l77 (Tables.info? (Program.toTables x1) x2) x2)) (fun _ => none))) := by intro t; cases t <;> (intros; rfl)
abbrev t336 : Type := Option TypeDesc
abbrev t337 : Type := t336 → t334
noncomputable def l79 : t337 := (fun x0 => (@Option.rec TypeDesc (fun _ => t334) (fun _ => none) (fun x1 x2 => (l78 x1 x2)) x0))
theorem l79_eq : ∀ x0 x1, (Eq (l79 x0 x1) (@elInfo._sparseCasesOn_3 TypeDesc (fun _ => t327) x0 (fun x2 => (l78 x2 x1)) (fun _ => none))) := by intro t; cases t <;> (intros; rfl)
abbrev t338 : Type := Program → t332
noncomputable def k_elInfo : t338 := (fun x0 x1 => (l79 (Program.underlying x0 x1) x0))
theorem k_elInfo_eq : @k_elInfo = elInfo := by
  delta k_elInfo elInfo
  simp only [l79_eq, l77_eq, l78_eq]
  all_goals kernel_rfl

abbrev t339 : Type := TypeId → t328
abbrev t340 : Type := t14 → t339
abbrev t341 : Type := Program → t340
noncomputable def k_o_buildSlice : t341 := (fun x0 x1 x2 x3 x4 x5 => (l76 (k_elInfo x0 x2) x1 x3 x4 x5))
theorem k_o_buildSlice_eq : @k_o_buildSlice = o_buildSlice := by
  delta k_o_buildSlice o_buildSlice
  simp only [l70_eq, l74_eq, l76_eq, l75_eq, l71_eq, l73_eq, l69_eq, l72_eq]
  rw [k_elInfo_eq, k_nw_Ret_eq, k_ok1_eq, k_ifT_Ret_eq, k_fillC_eq, k_repl_eq, k_bokL_eq, k_len_eq, k_Nat_blt_eq, k_zipIx_eq, k_valL_eq, k_evs_eq]
  all_goals kernel_rfl

abbrev t342 : Type := Prod CV Nat
abbrev t343 : Type := Prod CV t342
abbrev t344 : Type := List t343
abbrev t345 : Type := Option t344
abbrev t346 : Type := CV → t345
abbrev t347 : Type := CV → t346
abbrev t348 : Type := t344 → t347
noncomputable def l81 : t348 := (fun x0 => (@List.rec t343 (fun _ => t347) (fun _ _ => none) (fun x1 x2 _ x4 x5 => (@Prod.rec CV t342 (fun _ => t345) (fun _ x7 => (@Prod.rec CV Nat (fun _ => t345) (fun _ x9 => (some ((x4, (x5, x9)) :: x2))) x7)) x1)) x0))
theorem l81_eq : ∀ x0 x1 x2, (Eq (l81 x0 x1 x2) (@List.rec t343 (fun _ => t345) none (fun x3 x4 _ => (@Prod.rec CV t342 (fun _ => t345) (fun _ x7 => (@Prod.rec CV Nat (fun _ => t345) (fun _ x9 => (some ((x1, (x2, x9)) :: x4))) x7)) x3)) x0)) := by intro t; cases t <;> (intros; rfl)
abbrev t349 : Type := t344 → t345
abbrev t350 : Type := CV → t349
abbrev t351 : Type := CV → t350
abbrev t352 : Type := t344 → t346
abbrev t353 : Type := t351 → t352
abbrev t354 : Type := CV → t353
abbrev t355 : Type := CV → t354
abbrev t356 : Type := t342 → t355
noncomputable def l82 : t356 := (fun x0 => (@Prod.rec CV Nat (fun _ => t355) (fun x1 x2 x3 x4 x5 x6 x7 => (@Option.rec t344 (fun _ => t345) none (fun x8 => (some ((x7, (x1, x2)) :: x8))) (x5 x3 x4 x6))) x0))
theorem l82_eq : ∀ x0 x1 x2 x3 x4 x5, (Eq (l82 x0 x1 x2 x3 x4 x5) (@Prod.rec CV Nat (fun _ => t345) (fun x6 x7 => (@Option.rec t344 (fun _ => t345) none (fun x8 => (some ((x5, (x6, x7)) :: x8))) (x3 x1 x2 x4))) x0)) := by intro t; cases t <;> (intros; rfl)
abbrev t357 : Type := Nat → t351
noncomputable def k_setE : t357 := (fun x0 x1 x2 x3 => (@Nat.rec (fun _ => t351) (fun x4 x5 x6 => (l81 x6 x4 x5)) (fun _ x5 x6 x7 x8 => (@List.rec t343 (fun _ => t345) none (fun x9 x10 _ => (@Prod.rec CV t342 (fun _ => t345) (fun x12 x13 => (l82 x13 x6 x7 x5 x10 x12)) x9)) x8)) x0 x1 x2 x3))
theorem k_setE_law : ∀ x0 x1 x2 x3, (Eq (k_setE x0 x1 x2 x3) (setE x0 x1 x2 x3)) := by
  intro t
  induction t with
  | zero  =>
    intro z0 z1 z2
    show ((fun (x0 : CV) (x1 : CV) (x2 : t344) => (l81 x2 x0 x1)) z0 z1 z2) = _
    conv => rhs; rw [Ev.setE.eq_def]
    try simp only [l81_eq]
    all_goals kernel_rfl
  | succ y0 ih0 =>
    intro z0 z1 z2
    have e0 : (fun (x0 : CV) (x1 : CV) (x2 : t344) => (k_setE y0 x0 x1 x2)) = (fun (x0 : CV) (x1 : CV) (x2 : t344) => (setE y0 x0 x1 x2)) := by
      funext z0 z1 z2; exact ih0 z0 z1 z2
    show ((fun (_ : Nat) (x1 : t351) (x2 : CV) (x3 : CV) (x4 : t344) => (@List.rec t343 (fun (_ : t344) => t345) none (fun (x5 : t343) (x6 : t344) (_ : t345) => (@Prod.rec CV t342 (fun (_ : t343) => t345) (fun (x8 : CV) (x9 : t342) => (l82 x9 x2 x3 x1 x6 x8)) x5)) x4)) y0 (fun (x0 : CV) (x1 : CV) (x2 : t344) => (k_setE y0 x0 x1 x2)) z0 z1 z2) = _
    rw [e0]
    conv => rhs; rw [Ev.setE.eq_def]
    try simp only [l82_eq]
    all_goals kernel_rfl
theorem k_setE_eq : @k_setE = setE := by
  funext a0 a1 a2 a3; exact k_setE_law a0 a1 a2 a3
abbrev t358 : Type := t344 → t41
abbrev t359 : Type := S → t358
abbrev t360 : Type := CV → t359
abbrev t361 : Type := CV → t360
abbrev t362 : Type := Nat → t361
abbrev t363 : Type := TypeId → t362
abbrev t364 : Type := t246 → t363
noncomputable def l80 : t364 := (fun x0 => (@Prod.rec Nat CV (fun _ => t363) (fun x1 x2 x3 x4 x5 x6 x7 x8 x9 => ((fun x10 _ => (@Option.rec t344 (fun _ => t4) none (fun x12 => ((fun x13 => (k_wr_Ret x7 x4 (some (CO.map x3 x13 x9)) (fun x14 => (k_ok1 (CV.tup []) x14)))) x12)) (k_setE x10 x5 x6 x8))) x1 x2)) x0))
theorem l80_eq : ∀ x0 x1 x2 x3 x4 x5 x6 x7, (Eq (l80 x0 x1 x2 x3 x4 x5 x6 x7) (@Prod.rec Nat CV (fun _ => t4) (fun x8 x9 => ((fun x10 _ => (@Option.rec t344 (fun _ => t4) none (fun x12 => ((fun x13 => (k_wr_Ret x5 x2 (some (CO.map x1 x13 x7)) (fun x14 => (k_ok1 (CV.tup []) x14)))) x12)) (k_setE x10 x3 x4 x6))) x8 x9)) x0)) := by intro t; cases t <;> (intros; rfl)
abbrev t365 : Type := t343 → t345
abbrev t366 : Type := t344 → t365
noncomputable def k_snoc_511 : t366 := (fun x0 x1 => (@List.rec t343 (fun _ => t365) (fun x2 => (some (x2 :: []))) (fun x2 _ x4 x5 => (@Option.rec t344 (fun _ => t345) none (fun x6 => (some (x2 :: x6))) (x4 x5))) x0 x1))
theorem k_snoc_511_law : ∀ x0 x1, (Eq (k_snoc_511 x0 x1) (@snoc t343 x0 x1)) := by
  intro t
  induction t with
  | nil  =>
    intro z0
    show ((fun (x0 : t343) => (some (x0 :: []))) z0) = _
    conv => rhs; rw [Ev.snoc.eq_def]
    all_goals kernel_rfl
  | cons y0 y1 ih0 =>
    intro z0
    have e0 : (fun (x0 : t343) => (k_snoc_511 y1 x0)) = (fun (x0 : t343) => (@snoc t343 y1 x0)) := by
      funext z0; exact ih0 z0
    show ((fun (x0 : t343) (_ : t344) (x2 : t365) (x3 : t343) => (@Option.rec t344 (fun (_ : t345) => t345) none (fun (x4 : t344) => (some (x0 :: x4))) (x2 x3))) y0 y1 (fun (x0 : t343) => (k_snoc_511 y1 x0)) z0) = _
    rw [e0]
    conv => rhs; rw [Ev.snoc.eq_def]
    all_goals kernel_rfl
theorem k_snoc_511_eq : @k_snoc_511 = (@snoc t343) := by
  funext a0 a1; exact k_snoc_511_law a0 a1
abbrev t367 : Type := Option t246
abbrev t368 : Type := t367 → t363
noncomputable def l83 : t368 := (fun x0 => (@Option.rec t246 (fun _ => t363) (fun x1 x2 x3 x4 x5 x6 x7 => (@Option.rec t344 (fun _ => t4) none (fun x8 => ((fun x9 => (k_wr_Ret x5 x2 (some (CO.map x1 x9 (Nat.add x7 (nat_lit 1)))) (fun x10 => (k_ok1 (CV.tup []) x10)))) x8)) (k_snoc_511 x6 (x3, (x4, x7))))) (fun x1 x2 x3 x4 x5 x6 x7 x8 => (l80 x1 x2 x3 x4 x5 x6 x7 x8)) x0))
theorem l83_eq : ∀ x0 x1 x2 x3 x4 x5 x6 x7, (Eq (l83 x0 x1 x2 x3 x4 x5 x6 x7) (@Option.rec t246 (fun _ => t4) (@Option.rec t344 (fun _ => t4) none (fun x8 => ((fun x9 => (k_wr_Ret x5 x2 (some (CO.map x1 x9 (Nat.add x7 (nat_lit 1)))) (fun x10 => (k_ok1 (CV.tup []) x10)))) x8)) (k_snoc_511 x6 (x3, (x4, x7)))) (fun x8 => (l80 x8 x1 x2 x3 x4 x5 x6 x7)) x0)) := by intro t; cases t <;> (intros; rfl)
abbrev t369 : Type := Option Bool
abbrev t370 : Type := Value → t369
noncomputable def l86 : t370 := (fun x0 => (@Value.rec (fun _ => t369) (fun _ => PUnit.{1}) (fun _ => PUnit.{1}) (fun _ => none) (fun _ _ => none) (fun _ _ => none) (fun _ _ _ => none) (fun _ => none) (fun _ => none) (fun _ _ _ => none) (fun _ => none) (fun _ => none) (fun _ _ _ _ _ => none) none (fun _ _ _ => none) none (fun _ _ => none) (fun _ _ => none) (fun _ _ => PUnit.unit.{1}) PUnit.unit.{1} (fun _ _ _ _ => PUnit.unit.{1}) x0))
theorem l86_eq : ∀ x0, (Eq (l86 x0) (@bok._sparseCasesOn_2 (fun _ => t369) x0 (fun _ => none) (fun _ => none))) := by intro t; cases t <;> (intros; rfl)
abbrev t371 : Type := CV → t369
noncomputable def l87 : t371 := (fun x0 => (@CV.rec (fun _ => t369) (fun _ => PUnit.{1}) none (fun x1 => (l86 x1)) (fun _ _ => none) (fun _ _ _ _ _ => none) none (fun _ => none) (fun _ _ => none) (fun _ _ => none) (fun _ _ _ _ _ => none) (fun _ => none) (fun _ _ _ => none) PUnit.unit.{1} (fun _ _ _ _ => PUnit.unit.{1}) x0))
theorem l87_eq : ∀ x0, (Eq (l87 x0) (@natOf._sparseCasesOn_1 (fun _ => t369) x0 (fun x1 => (l86 x1)) (fun _ => none))) := by intro t; cases t <;> (intros; rfl)
noncomputable def l88 : t370 := (fun x0 => (@Value.rec (fun _ => t369) (fun _ => PUnit.{1}) (fun _ => PUnit.{1}) (fun _ => none) (fun _ _ => none) (fun _ _ => none) (fun _ _ _ => none) (fun _ => none) (fun _ => none) (fun _ _ _ => none) (fun _ => none) (fun _ => none) (fun _ _ _ _ _ => none) none (fun _ _ _ => none) none (fun _ _ => none) (fun _ _ => none) (fun _ _ => PUnit.unit.{1}) PUnit.unit.{1} (fun _ _ _ _ => PUnit.unit.{1}) x0))
theorem l88_eq : ∀ x0, (Eq (l88 x0) (@bok._sparseCasesOn_2 (fun _ => t369) x0 (fun _ => none) (fun _ => none))) := by intro t; cases t <;> (intros; rfl)
abbrev t372 : Type := t7 → t369
noncomputable def l90 : t372 := (fun x0 => (@List.rec CV (fun _ => t369) (some Bool.true) (fun _ _ _ => none) x0))
theorem l90_eq : ∀ x0, (Eq (l90 x0) (@zipIx._sparseCasesOn_2 CV (fun _ => t369) x0 (some Bool.true) (fun _ => none))) := by intro t; cases t <;> (intros; rfl)
abbrev t373 : Type := Int → t162
noncomputable def l92 : t373 := (fun x0 => (@Int.rec (fun _ => t162) (fun x1 x2 => (Nat.beq x2 x1)) (fun _ _ => Bool.false) x0))
theorem l92_eq : ∀ x0 x1, (Eq (l92 x0 x1) (@iEq._sparseCasesOn_1 (fun _ => Bool) x0 (fun x2 => (Nat.beq x1 x2)) (fun _ => Bool.false))) := by intro t; cases t <;> (intros; rfl)
noncomputable def l93 : t373 := (fun x0 => (@Int.rec (fun _ => t162) (fun _ _ => Bool.false) (fun x1 x2 => (Nat.beq x2 x1)) x0))
theorem l93_eq : ∀ x0 x1, (Eq (l93 x0 x1) (@iEq._sparseCasesOn_2 (fun _ => Bool) x0 (fun x2 => (Nat.beq x1 x2)) (fun _ => Bool.false))) := by intro t; cases t <;> (intros; rfl)
abbrev t374 : Type := Int → Bool
abbrev t375 : Type := Int → t374
noncomputable def k_iEq : t375 := (fun x0 x1 => (@Int.rec (fun _ => Bool) (fun x2 => (l92 x1 x2)) (fun x2 => (l93 x1 x2)) x0))
theorem k_iEq_eq : @k_iEq = iEq := by
  delta k_iEq iEq
  simp only [l92_eq, l93_eq]
  all_goals kernel_rfl

abbrev t376 : Type := IntKind → Bool
noncomputable def l94 : t376 := (fun x0 => (@IntKind.rec (fun _ => Bool) Bool.true Bool.false Bool.false Bool.false Bool.false Bool.false Bool.false Bool.false x0))
theorem l94_eq : ∀ x0, (Eq (l94 x0) (@kEq._sparseCasesOn_1 (fun _ => Bool) x0 Bool.true (fun _ => Bool.false))) := by intro t; cases t <;> (intros; rfl)
noncomputable def l95 : t376 := (fun x0 => (@IntKind.rec (fun _ => Bool) Bool.false Bool.true Bool.false Bool.false Bool.false Bool.false Bool.false Bool.false x0))
theorem l95_eq : ∀ x0, (Eq (l95 x0) (@kEq._sparseCasesOn_2 (fun _ => Bool) x0 Bool.true (fun _ => Bool.false))) := by intro t; cases t <;> (intros; rfl)
noncomputable def l96 : t376 := (fun x0 => (@IntKind.rec (fun _ => Bool) Bool.false Bool.false Bool.true Bool.false Bool.false Bool.false Bool.false Bool.false x0))
theorem l96_eq : ∀ x0, (Eq (l96 x0) (@kEq._sparseCasesOn_3 (fun _ => Bool) x0 Bool.true (fun _ => Bool.false))) := by intro t; cases t <;> (intros; rfl)
noncomputable def l97 : t376 := (fun x0 => (@IntKind.rec (fun _ => Bool) Bool.false Bool.false Bool.false Bool.true Bool.false Bool.false Bool.false Bool.false x0))
theorem l97_eq : ∀ x0, (Eq (l97 x0) (@kEq._sparseCasesOn_4 (fun _ => Bool) x0 Bool.true (fun _ => Bool.false))) := by intro t; cases t <;> (intros; rfl)
noncomputable def l98 : t376 := (fun x0 => (@IntKind.rec (fun _ => Bool) Bool.false Bool.false Bool.false Bool.false Bool.true Bool.false Bool.false Bool.false x0))
theorem l98_eq : ∀ x0, (Eq (l98 x0) (@kEq._sparseCasesOn_5 (fun _ => Bool) x0 Bool.true (fun _ => Bool.false))) := by intro t; cases t <;> (intros; rfl)
noncomputable def l99 : t376 := (fun x0 => (@IntKind.rec (fun _ => Bool) Bool.false Bool.false Bool.false Bool.false Bool.false Bool.true Bool.false Bool.false x0))
theorem l99_eq : ∀ x0, (Eq (l99 x0) (@kEq._sparseCasesOn_6 (fun _ => Bool) x0 Bool.true (fun _ => Bool.false))) := by intro t; cases t <;> (intros; rfl)
noncomputable def l100 : t376 := (fun x0 => (@IntKind.rec (fun _ => Bool) Bool.false Bool.false Bool.false Bool.false Bool.false Bool.false Bool.true Bool.false x0))
theorem l100_eq : ∀ x0, (Eq (l100 x0) (@kEq._sparseCasesOn_7 (fun _ => Bool) x0 Bool.true (fun _ => Bool.false))) := by intro t; cases t <;> (intros; rfl)
noncomputable def l101 : t376 := (fun x0 => (@IntKind.rec (fun _ => Bool) Bool.false Bool.false Bool.false Bool.false Bool.false Bool.false Bool.false Bool.true x0))
theorem l101_eq : ∀ x0, (Eq (l101 x0) (@kEq._sparseCasesOn_8 (fun _ => Bool) x0 Bool.true (fun _ => Bool.false))) := by intro t; cases t <;> (intros; rfl)
abbrev t377 : Type := IntKind → t376
noncomputable def k_kEq : t377 := (fun x0 x1 => (@IntKind.rec (fun _ => Bool) (l94 x1) (l95 x1) (l96 x1) (l97 x1) (l98 x1) (l99 x1) (l100 x1) (l101 x1) x0))
theorem k_kEq_eq : @k_kEq = kEq := by
  delta k_kEq kEq
  simp only [l96_eq, l94_eq, l101_eq, l98_eq, l100_eq, l97_eq, l99_eq, l95_eq]
  all_goals kernel_rfl

abbrev t378 : Type := Int → t372
abbrev t379 : Type := IntKind → t378
abbrev t380 : Type := t372 → t379
abbrev t381 : Type := Value → t380
noncomputable def l91 : t381 := (fun x0 => (@Value.rec (fun _ => t380) (fun _ => PUnit.{1}) (fun _ => PUnit.{1}) (fun _ _ _ _ _ => none) (fun x1 x2 x3 x4 x5 x6 => (@Bool.rec (fun _ => t369) none (@Option.rec Bool (fun _ => t369) none (fun x7 => (some (@Bool.rec (fun _ => Bool) Bool.false x7 (k_iEq x5 x2)))) (x3 x6)) (k_kEq x4 x1))) (fun _ _ _ _ _ _ => none) (fun _ _ _ _ _ _ _ => none) (fun _ _ _ _ _ => none) (fun _ _ _ _ _ => none) (fun _ _ _ _ _ _ _ => none) (fun _ _ _ _ _ => none) (fun _ _ _ _ _ => none) (fun _ _ _ _ _ _ _ _ _ => none) (fun _ _ _ _ => none) (fun _ _ _ _ _ _ _ => none) (fun _ _ _ _ => none) (fun _ _ _ _ _ _ => none) (fun _ _ _ _ _ _ => none) (fun _ _ => PUnit.unit.{1}) PUnit.unit.{1} (fun _ _ _ _ => PUnit.unit.{1}) x0))
theorem l91_eq : ∀ x0 x1 x2 x3 x4, (Eq (l91 x0 x1 x2 x3 x4) (@natOf._sparseCasesOn_2 (fun _ => t369) x0 (fun x5 x6 => (@Bool.rec (fun _ => t369) none (@Option.rec Bool (fun _ => t369) none (fun x7 => (some (@Bool.rec (fun _ => Bool) Bool.false x7 (k_iEq x3 x6)))) (x1 x4)) (k_kEq x2 x5))) (fun _ => none))) := by intro t; cases t <;> (intros; rfl)
abbrev t382 : Type := CV → t380
noncomputable def l102 : t382 := (fun x0 => (@CV.rec (fun _ => t380) (fun _ => PUnit.{1}) (fun _ _ _ _ => none) (fun x1 x2 x3 x4 x5 => (l91 x1 x2 x3 x4 x5)) (fun _ _ _ _ _ _ => none) (fun _ _ _ _ _ _ _ _ _ => none) (fun _ _ _ _ => none) (fun _ _ _ _ _ => none) (fun _ _ _ _ _ _ => none) (fun _ _ _ _ _ _ => none) (fun _ _ _ _ _ _ _ _ _ => none) (fun _ _ _ _ _ => none) (fun _ _ _ _ _ _ _ => none) PUnit.unit.{1} (fun _ _ _ _ => PUnit.unit.{1}) x0))
theorem l102_eq : ∀ x0 x1 x2 x3 x4, (Eq (l102 x0 x1 x2 x3 x4) (@natOf._sparseCasesOn_1 (fun _ => t369) x0 (fun x5 => (l91 x5 x1 x2 x3 x4)) (fun _ => none))) := by intro t; cases t <;> (intros; rfl)
abbrev t383 : Type := Int → t369
abbrev t384 : Type := IntKind → t383
abbrev t385 : Type := t372 → t384
abbrev t386 : Type := t7 → t385
noncomputable def l103 : t386 := (fun x0 => (@List.rec CV (fun _ => t385) (fun _ _ _ => none) (fun x1 x2 _ x4 x5 x6 => (l102 x1 x4 x5 x6 x2)) x0))
theorem l103_eq : ∀ x0 x1 x2 x3, (Eq (l103 x0 x1 x2 x3) (@zipIx._sparseCasesOn_3 CV (fun _ => t369) x0 (fun x4 x5 => (l102 x4 x1 x2 x3 x5)) (fun _ => none))) := by intro t; cases t <;> (intros; rfl)
abbrev t387 : Type := Bool → t372
abbrev t388 : Type := t372 → t387
abbrev t389 : Type := Value → t388
noncomputable def l104 : t389 := (fun x0 => (@Value.rec (fun _ => t388) (fun _ => PUnit.{1}) (fun _ => PUnit.{1}) (fun x1 x2 x3 x4 => (@Option.rec Bool (fun _ => t369) none (fun x5 => (some (@Bool.rec (fun _ => Bool) Bool.false x5 (@Bool.rec (fun _ => Bool) (@Bool.rec (fun _ => Bool) Bool.true Bool.false x1) x1 x3)))) (x2 x4))) (fun _ _ _ _ _ => none) (fun _ _ _ _ _ => none) (fun _ _ _ _ _ _ => none) (fun _ _ _ _ => none) (fun _ _ _ _ => none) (fun _ _ _ _ _ _ => none) (fun _ _ _ _ => none) (fun _ _ _ _ => none) (fun _ _ _ _ _ _ _ _ => none) (fun _ _ _ => none) (fun _ _ _ _ _ _ => none) (fun _ _ _ => none) (fun _ _ _ _ _ => none) (fun _ _ _ _ _ => none) (fun _ _ => PUnit.unit.{1}) PUnit.unit.{1} (fun _ _ _ _ => PUnit.unit.{1}) x0))
theorem l104_eq : ∀ x0 x1 x2 x3, (Eq (l104 x0 x1 x2 x3) (@eqK._sparseCasesOn_3 (fun _ => t369) x0 (fun x4 => (@Option.rec Bool (fun _ => t369) none (fun x5 => (some (@Bool.rec (fun _ => Bool) Bool.false x5 (@Bool.rec (fun _ => Bool) (@Bool.rec (fun _ => Bool) Bool.true Bool.false x4) x4 x2)))) (x1 x3))) (fun _ => none))) := by intro t; cases t <;> (intros; rfl)
abbrev t390 : Type := CV → t388
noncomputable def l105 : t390 := (fun x0 => (@CV.rec (fun _ => t388) (fun _ => PUnit.{1}) (fun _ _ _ => none) (fun x1 x2 x3 x4 => (l104 x1 x2 x3 x4)) (fun _ _ _ _ _ => none) (fun _ _ _ _ _ _ _ _ => none) (fun _ _ _ => none) (fun _ _ _ _ => none) (fun _ _ _ _ _ => none) (fun _ _ _ _ _ => none) (fun _ _ _ _ _ _ _ _ => none) (fun _ _ _ _ => none) (fun _ _ _ _ _ _ => none) PUnit.unit.{1} (fun _ _ _ _ => PUnit.unit.{1}) x0))
theorem l105_eq : ∀ x0 x1 x2 x3, (Eq (l105 x0 x1 x2 x3) (@natOf._sparseCasesOn_1 (fun _ => t369) x0 (fun x4 => (l104 x4 x1 x2 x3)) (fun _ => none))) := by intro t; cases t <;> (intros; rfl)
abbrev t391 : Type := Bool → t369
abbrev t392 : Type := t372 → t391
abbrev t393 : Type := t7 → t392
noncomputable def l106 : t393 := (fun x0 => (@List.rec CV (fun _ => t392) (fun _ _ => none) (fun x1 x2 _ x4 x5 => (l105 x1 x4 x5 x2)) x0))
theorem l106_eq : ∀ x0 x1 x2, (Eq (l106 x0 x1 x2) (@zipIx._sparseCasesOn_3 CV (fun _ => t369) x0 (fun x3 x4 => (l105 x3 x1 x2 x4)) (fun _ => none))) := by intro t; cases t <;> (intros; rfl)
abbrev t394 : Type := List UInt8
abbrev t395 : Type := t394 → Bool
noncomputable def l108 : t395 := (fun x0 => (@List.rec UInt8 (fun _ => Bool) Bool.true (fun _ _ _ => Bool.false) x0))
theorem l108_eq : ∀ x0, (Eq (l108 x0) (@bytesEq._sparseCasesOn_1 UInt8 (fun _ => Bool) x0 Bool.true (fun _ => Bool.false))) := by intro t; cases t <;> (intros; rfl)
abbrev t396 : Type := t395 → Bool
abbrev t397 : Type := UInt8 → t396
abbrev t398 : Type := t394 → t397
noncomputable def l109 : t398 := (fun x0 => (@List.rec UInt8 (fun _ => t397) (fun _ _ => Bool.false) (fun x1 x2 _ x4 x5 => (@Bool.rec (fun _ => Bool) Bool.false (x5 x2) (Nat.beq (UInt8.toNat x4) (UInt8.toNat x1)))) x0))
theorem l109_eq : ∀ x0 x1 x2, (Eq (l109 x0 x1 x2) (@bytesEq._sparseCasesOn_2 UInt8 (fun _ => Bool) x0 (fun x3 x4 => (@Bool.rec (fun _ => Bool) Bool.false (x2 x4) (Nat.beq (UInt8.toNat x1) (UInt8.toNat x3)))) (fun _ => Bool.false))) := by intro t; cases t <;> (intros; rfl)
abbrev t399 : Type := t394 → t395
noncomputable def k_bytesEq : t399 := (fun x0 x1 => (@List.rec UInt8 (fun _ => t395) (fun x2 => (l108 x2)) (fun x2 _ x4 x5 => (l109 x5 x2 x4)) x0 x1))
theorem k_bytesEq_law : ∀ x0 x1, (Eq (k_bytesEq x0 x1) (bytesEq x0 x1)) := by
  intro t
  induction t with
  | nil  =>
    intro z0
    show ((fun (x0 : t394) => (l108 x0)) z0) = _
    conv => rhs; rw [Ev.bytesEq.eq_def]
    try simp only [l108_eq]
    all_goals kernel_rfl
  | cons y0 y1 ih0 =>
    intro z0
    have e0 : (fun (x0 : t394) => (k_bytesEq y1 x0)) = (fun (x0 : t394) => (bytesEq y1 x0)) := by
      funext z0; exact ih0 z0
    show ((fun (x0 : UInt8) (_ : t394) (x2 : t395) (x3 : t394) => (l109 x3 x0 x2)) y0 y1 (fun (x0 : t394) => (k_bytesEq y1 x0)) z0) = _
    rw [e0]
    conv => rhs; rw [Ev.bytesEq.eq_def]
    try simp only [l109_eq]
    all_goals kernel_rfl
theorem k_bytesEq_eq : @k_bytesEq = bytesEq := by
  funext a0 a1; exact k_bytesEq_law a0 a1
abbrev t400 : Type := ByteArray → t372
abbrev t401 : Type := t372 → t400
abbrev t402 : Type := Value → t401
noncomputable def l107 : t402 := (fun x0 => (@Value.rec (fun _ => t401) (fun _ => PUnit.{1}) (fun _ => PUnit.{1}) (fun _ _ _ _ => none) (fun _ _ _ _ _ => none) (fun _ _ _ _ _ => none) (fun _ _ _ _ _ _ => none) (fun x1 x2 x3 x4 => (@Option.rec Bool (fun _ => t369) none (fun x5 => (some (@Bool.rec (fun _ => Bool) Bool.false x5 (k_bytesEq (@Array.toList UInt8 (ByteArray.data x3)) (@Array.toList UInt8 (ByteArray.data x1)))))) (x2 x4))) (fun _ _ _ _ => none) (fun _ _ _ _ _ _ => none) (fun _ _ _ _ => none) (fun _ _ _ _ => none) (fun _ _ _ _ _ _ _ _ => none) (fun _ _ _ => none) (fun _ _ _ _ _ _ => none) (fun _ _ _ => none) (fun _ _ _ _ _ => none) (fun _ _ _ _ _ => none) (fun _ _ => PUnit.unit.{1}) PUnit.unit.{1} (fun _ _ _ _ => PUnit.unit.{1}) x0))
theorem l107_eq : ∀ x0 x1 x2 x3, (Eq (l107 x0 x1 x2 x3) (@eqK._sparseCasesOn_4 (fun _ => t369) x0 (fun x4 => (@Option.rec Bool (fun _ => t369) none (fun x5 => (some (@Bool.rec (fun _ => Bool) Bool.false x5 (k_bytesEq (@Array.toList UInt8 (ByteArray.data x2)) (@Array.toList UInt8 (ByteArray.data x4)))))) (x1 x3))) (fun _ => none))) := by intro t; cases t <;> (intros; rfl)
abbrev t403 : Type := CV → t401
noncomputable def l110 : t403 := (fun x0 => (@CV.rec (fun _ => t401) (fun _ => PUnit.{1}) (fun _ _ _ => none) (fun x1 x2 x3 x4 => (l107 x1 x2 x3 x4)) (fun _ _ _ _ _ => none) (fun _ _ _ _ _ _ _ _ => none) (fun _ _ _ => none) (fun _ _ _ _ => none) (fun _ _ _ _ _ => none) (fun _ _ _ _ _ => none) (fun _ _ _ _ _ _ _ _ => none) (fun _ _ _ _ => none) (fun _ _ _ _ _ _ => none) PUnit.unit.{1} (fun _ _ _ _ => PUnit.unit.{1}) x0))
theorem l110_eq : ∀ x0 x1 x2 x3, (Eq (l110 x0 x1 x2 x3) (@natOf._sparseCasesOn_1 (fun _ => t369) x0 (fun x4 => (l107 x4 x1 x2 x3)) (fun _ => none))) := by intro t; cases t <;> (intros; rfl)
abbrev t404 : Type := ByteArray → t369
abbrev t405 : Type := t372 → t404
abbrev t406 : Type := t7 → t405
noncomputable def l111 : t406 := (fun x0 => (@List.rec CV (fun _ => t405) (fun _ _ => none) (fun x1 x2 _ x4 x5 => (l110 x1 x4 x5 x2)) x0))
theorem l111_eq : ∀ x0 x1 x2, (Eq (l111 x0 x1 x2) (@zipIx._sparseCasesOn_3 CV (fun _ => t369) x0 (fun x3 x4 => (l110 x3 x1 x2 x4)) (fun _ => none))) := by intro t; cases t <;> (intros; rfl)
abbrev t407 : Type := t372 → t369
abbrev t408 : Type := t7 → t407
abbrev t409 : Type := Value → t408
noncomputable def l112 : t409 := (fun x0 => (@Value.rec (fun _ => t408) (fun _ => PUnit.{1}) (fun _ => PUnit.{1}) (fun x1 x2 x3 => (l106 x2 x3 x1)) (fun x1 x2 x3 x4 => (l103 x3 x4 x1 x2)) (fun _ _ _ _ => none) (fun _ _ _ _ _ => none) (fun x1 x2 x3 => (l111 x2 x3 x1)) (fun _ _ _ => none) (fun _ _ _ _ _ => none) (fun _ _ _ => none) (fun _ _ _ => none) (fun _ _ _ _ _ _ _ => none) (fun _ _ => none) (fun _ _ _ _ _ => none) (fun _ _ => none) (fun _ _ _ _ => none) (fun _ _ _ _ => none) (fun _ _ => PUnit.unit.{1}) PUnit.unit.{1} (fun _ _ _ _ => PUnit.unit.{1}) x0))
theorem l112_eq : ∀ x0 x1 x2, (Eq (l112 x0 x1 x2) (@eqK._sparseCasesOn_2 (fun _ => t369) x0 (fun x3 x4 => (l103 x1 x2 x3 x4)) (fun x3 => (l106 x1 x2 x3)) (fun x3 => (l111 x1 x2 x3)) (fun _ => none))) := by intro t; cases t <;> (intros; rfl)
abbrev t410 : Type := CV → t408
noncomputable def l113 : t410 := (fun x0 => (@CV.rec (fun _ => t408) (fun _ => PUnit.{1}) (fun _ _ => none) (fun x1 x2 x3 => (l112 x1 x2 x3)) (fun _ _ _ _ => none) (fun _ _ _ _ _ _ _ => none) (fun _ _ => none) (fun _ _ _ => none) (fun _ _ _ _ => none) (fun _ _ _ _ => none) (fun _ _ _ _ _ _ _ => none) (fun _ _ _ => none) (fun _ _ _ _ _ => none) PUnit.unit.{1} (fun _ _ _ _ => PUnit.unit.{1}) x0))
theorem l113_eq : ∀ x0 x1 x2, (Eq (l113 x0 x1 x2) (@natOf._sparseCasesOn_1 (fun _ => t369) x0 (fun x3 => (l112 x3 x1 x2)) (fun _ => none))) := by intro t; cases t <;> (intros; rfl)
abbrev t411 : Type := t7 → t372
noncomputable def k_eqK : t411 := (fun x0 x1 => (@List.rec CV (fun _ => t372) (fun x2 => (l90 x2)) (fun x2 _ x4 x5 => (l113 x2 x5 x4)) x0 x1))
theorem k_eqK_law : ∀ x0 x1, (Eq (k_eqK x0 x1) (eqK x0 x1)) := by
  intro t
  induction t with
  | nil  =>
    intro z0
    show ((fun (x0 : t7) => (l90 x0)) z0) = _
    conv => rhs; rw [Ev.eqK.eq_def]
    try simp only [l90_eq]
    all_goals kernel_rfl
  | cons y0 y1 ih0 =>
    intro z0
    have e0 : (fun (x0 : t7) => (k_eqK y1 x0)) = (fun (x0 : t7) => (eqK y1 x0)) := by
      funext z0; exact ih0 z0
    show ((fun (x0 : CV) (_ : t7) (x2 : t372) (x3 : t7) => (l113 x0 x3 x2)) y0 y1 (fun (x0 : t7) => (k_eqK y1 x0)) z0) = _
    rw [e0]
    conv => rhs; rw [Ev.eqK.eq_def]
    try simp only [l110_eq, l113_eq, l107_eq, l103_eq, l105_eq, l91_eq, l111_eq, l102_eq, l112_eq, l106_eq, l104_eq]
    try rw [k_kEq_eq]
    try rw [k_iEq_eq]
    try rw [k_bytesEq_eq]
    all_goals kernel_rfl
theorem k_eqK_eq : @k_eqK = eqK := by
  funext a0 a1; exact k_eqK_law a0 a1
abbrev t412 : Type := CV → t372
noncomputable def l89 : t412 := (fun x0 => (@CV.rec (fun _ => t372) (fun _ => PUnit.{1}) (fun _ => none) (fun x1 _ => (l88 x1)) (fun _ _ _ => none) (fun _ _ _ _ _ _ => none) (fun _ => none) (fun _ _ => none) (fun x1 _ x3 => (k_eqK x3 x1)) (fun _ _ _ => none) (fun _ _ _ _ _ _ => none) (fun _ _ => none) (fun _ _ _ _ => none) PUnit.unit.{1} (fun _ _ _ _ => PUnit.unit.{1}) x0))
theorem l89_eq : ∀ x0 x1, (Eq (l89 x0 x1) (@eqKey._sparseCasesOn_1 (fun _ => t369) x0 (fun x2 => (k_eqK x1 x2)) (fun x2 => (l88 x2)) (fun _ => none))) := by intro t; cases t <;> (intros; rfl)
abbrev t413 : Type := Value → t370
noncomputable def l114 : t413 := (fun x0 x1 => (k_eqK ((CV.val x0) :: []) ((CV.val x1) :: [])))
theorem l114_eq : ∀ x0 x1, (Eq (l114 x0 x1) (k_eqK ((CV.val x0) :: []) ((CV.val x1) :: []))) := by intros; rfl
abbrev t414 : Type := Value → t413
noncomputable def l115 : t414 := (fun x0 => (@Value.rec (fun _ => t413) (fun _ => PUnit.{1}) (fun _ => PUnit.{1}) (fun _ x2 x3 => (l114 x2 x3)) (fun _ _ x3 x4 => (l114 x3 x4)) (fun _ _ x3 x4 => (l114 x3 x4)) (fun _ _ _ x4 x5 => (l114 x4 x5)) (fun _ x2 x3 => (l114 x2 x3)) (fun _ x2 x3 => (l114 x2 x3)) (fun _ _ _ x4 x5 => (l114 x4 x5)) (fun _ x2 x3 => (l114 x2 x3)) (fun _ x2 x3 => (l114 x2 x3)) (fun _ _ _ _ _ x6 x7 => (l114 x6 x7)) (fun x1 x2 => (l114 x1 x2)) (fun _ _ _ x4 x5 => (l114 x4 x5)) (fun x1 x2 => (l114 x1 x2)) (fun _ _ _ _ => none) (fun _ _ x3 x4 => (l114 x3 x4)) (fun _ _ => PUnit.unit.{1}) PUnit.unit.{1} (fun _ _ _ _ => PUnit.unit.{1}) x0))
theorem l115_eq : ∀ x0 x1 x2, (Eq (l115 x0 x1 x2) (@bok._sparseCasesOn_2 (fun _ => t369) x0 (fun _ => none) (fun _ => (l114 x1 x2)))) := by intro t; cases t <;> (intros; rfl)
abbrev t415 : Type := CV → t370
noncomputable def l116 : t415 := (fun x0 => (@CV.rec (fun _ => t370) (fun _ => PUnit.{1}) (fun _ => none) (fun x1 x2 => (l115 x1 x2 x1)) (fun _ _ _ => none) (fun _ _ _ _ _ _ => none) (fun _ => none) (fun _ _ => none) (fun _ _ _ => none) (fun _ _ _ => none) (fun _ _ _ _ _ _ => none) (fun _ _ => none) (fun _ _ _ _ => none) PUnit.unit.{1} (fun _ _ _ _ => PUnit.unit.{1}) x0))
theorem l116_eq : ∀ x0 x1, (Eq (l116 x0 x1) (@natOf._sparseCasesOn_1 (fun _ => t369) x0 (fun x2 => (l115 x2 x1 x2)) (fun _ => none))) := by intro t; cases t <;> (intros; rfl)
abbrev t416 : Type := Value → t415
noncomputable def l117 : t416 := (fun x0 => (@Value.rec (fun _ => t415) (fun _ => PUnit.{1}) (fun _ => PUnit.{1}) (fun _ x2 x3 => (l116 x2 x3)) (fun _ _ x3 x4 => (l116 x3 x4)) (fun _ _ x3 x4 => (l116 x3 x4)) (fun _ _ _ x4 x5 => (l116 x4 x5)) (fun _ x2 x3 => (l116 x2 x3)) (fun _ x2 x3 => (l116 x2 x3)) (fun _ _ _ x4 x5 => (l116 x4 x5)) (fun _ x2 x3 => (l116 x2 x3)) (fun _ x2 x3 => (l116 x2 x3)) (fun _ _ _ _ _ x6 x7 => (l116 x6 x7)) (fun x1 x2 => (l116 x1 x2)) (fun _ _ _ x4 x5 => (l116 x4 x5)) (fun x1 x2 => (l116 x1 x2)) (fun _ _ _ _ => none) (fun _ _ x3 x4 => (l116 x3 x4)) (fun _ _ => PUnit.unit.{1}) PUnit.unit.{1} (fun _ _ _ _ => PUnit.unit.{1}) x0))
theorem l117_eq : ∀ x0 x1 x2, (Eq (l117 x0 x1 x2) (@bok._sparseCasesOn_2 (fun _ => t369) x0 (fun _ => none) (fun _ => (l116 x1 x2)))) := by intro t; cases t <;> (intros; rfl)
abbrev t417 : Type := CV → t371
noncomputable def l118 : t417 := (fun x0 => (@CV.rec (fun _ => t371) (fun _ => PUnit.{1}) (fun x1 => (l87 x1)) (fun x1 x2 => (l117 x1 x2 x1)) (fun _ _ x3 => (l87 x3)) (fun _ _ _ _ _ x6 => (l87 x6)) (fun x1 => (l87 x1)) (fun _ x2 => (l87 x2)) (fun x1 _ x3 => (l89 x3 x1)) (fun _ _ x3 => (l87 x3)) (fun _ _ _ _ _ x6 => (l87 x6)) (fun _ x2 => (l87 x2)) (fun _ _ _ x4 => (l87 x4)) PUnit.unit.{1} (fun _ _ _ _ => PUnit.unit.{1}) x0))
theorem l118_eq : ∀ x0 x1, (Eq (l118 x0 x1) (@eqKey._sparseCasesOn_1 (fun _ => t369) x0 (fun x2 => (l89 x1 x2)) (fun x2 => (l117 x2 x1 x2)) (fun _ => (l87 x1)))) := by intro t; cases t <;> (intros; rfl)
noncomputable def k_eqKey : t417 := (fun x0 x1 => (l118 x0 x1))
theorem k_eqKey_eq : @k_eqKey = eqKey := by
  delta k_eqKey eqKey
  simp only [l116_eq, l86_eq, l87_eq, l118_eq, l115_eq, l114_eq, l89_eq, l117_eq, l88_eq]
  rw [k_eqK_eq]
  all_goals kernel_rfl

abbrev t418 : Type := Option t367
abbrev t419 : Type := Nat → t418
abbrev t420 : Type := CV → t419
abbrev t421 : Type := CV → t418
abbrev t422 : Type := t420 → t421
abbrev t423 : Type := Nat → t422
abbrev t424 : Type := CV → t423
abbrev t425 : Type := t342 → t424
noncomputable def l85 : t425 := (fun x0 => (@Prod.rec CV Nat (fun _ => t424) (fun x1 _ x3 x4 x5 x6 => (@Option.rec Bool (fun _ => t418) none (fun x7 => (@Bool.rec (fun _ => t418) (x5 x3 (Nat.add x4 (nat_lit 1))) (some (some (x4, x1))) x7)) (k_eqKey x3 x6))) x0))
theorem l85_eq : ∀ x0 x1 x2 x3 x4, (Eq (l85 x0 x1 x2 x3 x4) (@Prod.rec CV Nat (fun _ => t418) (fun x5 _ => (@Option.rec Bool (fun _ => t418) none (fun x7 => (@Bool.rec (fun _ => t418) (x3 x1 (Nat.add x2 (nat_lit 1))) (some (some (x2, x5))) x7)) (k_eqKey x1 x4))) x0)) := by intro t; cases t <;> (intros; rfl)
abbrev t426 : Type := t344 → t419
abbrev t427 : Type := CV → t426
noncomputable def k_findE : t427 := (fun x0 x1 x2 => (@List.rec t343 (fun _ => t420) (fun _ _ => (some none)) (fun x3 _ x5 x6 x7 => (@Prod.rec CV t342 (fun _ => t418) (fun x8 x9 => (l85 x9 x6 x7 x5 x8)) x3)) x1 x0 x2))
theorem k_findE_law : ∀ x0 x1 x2, (Eq (k_findE x1 x0 x2) (findE x1 x0 x2)) := by
  intro t
  induction t with
  | nil  =>
    intro z0 z1
    show ((fun (_ : CV) (_ : Nat) => (some none)) z0 z1) = _
    conv => rhs; rw [Ev.findE.eq_def]
    all_goals kernel_rfl
  | cons y0 y1 ih0 =>
    intro z0 z1
    have e0 : (fun (x0 : CV) (x1 : Nat) => (k_findE x0 y1 x1)) = (fun (x0 : CV) (x1 : Nat) => (findE x0 y1 x1)) := by
      funext z0 z1; exact ih0 z0 z1
    show ((fun (x0 : t343) (_ : t344) (x2 : t420) (x3 : CV) (x4 : Nat) => (@Prod.rec CV t342 (fun (_ : t343) => t418) (fun (x5 : CV) (x6 : t342) => (l85 x6 x3 x4 x2 x5)) x0)) y0 y1 (fun (x0 : CV) (x1 : Nat) => (k_findE x0 y1 x1)) z0 z1) = _
    rw [e0]
    conv => rhs; rw [Ev.findE.eq_def]
    try simp only [l85_eq]
    try rw [k_eqKey_eq]
    all_goals kernel_rfl
theorem k_findE_eq : @k_findE = findE := by
  funext a0 a1 a2; exact k_findE_law a1 a0 a2
abbrev t428 : Type := CV → t186
abbrev t429 : Type := Nat → t428
abbrev t430 : Type := TypeId → t429
abbrev t431 : Type := CO → t430
noncomputable def l84 : t431 := (fun x0 => (@CO.rec (fun _ => t430) (fun _ _ _ _ _ _ _ _ => none) (fun x1 x2 x3 x4 x5 x6 x7 x8 => (@Bool.rec (fun _ => t4) (@Option.rec t367 (fun _ => t4) none (fun x9 => (l83 x9 x4 x5 x6 x7 x8 x2 x3)) (k_findE x6 x2 (nat_lit 0))) none (@Bool.rec (fun _ => Bool) Bool.true Bool.false (Nat.beq x1 x4)))) (fun _ _ _ _ _ _ _ _ _ _ _ _ _ => none) (fun _ _ _ _ _ => none) (fun _ _ _ _ _ => none) x0))
theorem l84_eq : ∀ x0 x1 x2 x3 x4 x5, (Eq (l84 x0 x1 x2 x3 x4 x5) (@lookupV._sparseCasesOn_2 (fun _ => t4) x0 (fun x6 x7 x8 => (@Bool.rec (fun _ => t4) (@Option.rec t367 (fun _ => t4) none (fun x9 => (l83 x9 x1 x2 x3 x4 x5 x7 x8)) (k_findE x3 x7 (nat_lit 0))) none (@Bool.rec (fun _ => Bool) Bool.true Bool.false (Nat.beq x6 x1)))) (fun _ => none))) := by intro t; cases t <;> (intros; rfl)
abbrev t432 : Type := Option Lit
abbrev t433 : Type := t432 → Bool
noncomputable def k_Option_isSome_Lit : t433 := (fun x0 => (@Option.rec Lit (fun _ => Bool) Bool.false (fun x1 => ((fun _ => Bool.true) x1)) x0))
theorem k_Option_isSome_Lit_eq : @k_Option_isSome_Lit = (@Option.isSome Lit) := by
  delta k_Option_isSome_Lit Option.isSome
  all_goals kernel_rfl

abbrev t434 : Type := t215 → t215
abbrev t435 : Type := CV → t434
noncomputable def l121 : t435 := (fun x0 => (@CV.rec (fun _ => t434) (fun _ => PUnit.{1}) (fun _ => none) (fun x1 x2 => (@Option.rec t213 (fun _ => t215) none (fun x3 => (some (x1 :: x3))) x2)) (fun _ _ _ => none) (fun _ _ _ _ _ _ => none) (fun _ => none) (fun _ _ => none) (fun _ _ _ => none) (fun _ _ _ => none) (fun _ _ _ _ _ _ => none) (fun _ _ => none) (fun _ _ _ _ => none) PUnit.unit.{1} (fun _ _ _ _ => PUnit.unit.{1}) x0))
theorem l121_eq : ∀ x0 x1, (Eq (l121 x0 x1) (@natOf._sparseCasesOn_1 (fun _ => t215) x0 (fun x2 => (@Option.rec t213 (fun _ => t215) none (fun x3 => (some (x2 :: x3))) x1)) (fun _ => none))) := by intro t; cases t <;> (intros; rfl)
abbrev t436 : Type := t7 → t215
noncomputable def k_toVals : t436 := (fun x0 => (@List.rec CV (fun _ => t215) (some []) (fun x1 _ x3 => (l121 x1 x3)) x0))
theorem k_toVals_law : ∀ x0, (Eq (k_toVals x0) (toVals x0)) := by
  intro t
  induction t with
  | nil  =>
    show (some []) = _
    conv => rhs; rw [Ev.toVals.eq_def]
    all_goals kernel_rfl
  | cons y0 y1 ih0 =>
    have e0 : (k_toVals y1) = (toVals y1) := by
      exact ih0
    show ((fun (x0 : CV) (_ : t7) (x2 : t215) => (l121 x0 x2)) y0 y1 (k_toVals y1)) = _
    rw [e0]
    conv => rhs; rw [Ev.toVals.eq_def]
    try simp only [l121_eq]
    all_goals kernel_rfl
theorem k_toVals_eq : @k_toVals = toVals := by
  funext a0; exact k_toVals_law a0
abbrev t437 : Type := Option Value
abbrev t438 : Type := CV → t437
noncomputable def l120 : t438 := (fun x0 => (@CV.rec (fun _ => t437) (fun _ => PUnit.{1}) none (fun x1 => (some x1)) (fun _ _ => none) (fun _ _ _ _ _ => none) none (fun _ => none) (fun x1 _ => (@Option.rec t213 (fun _ => t437) none (fun x3 => ((fun x4 => (some (Value.agg (@List.toArray Value x4)))) x3)) (k_toVals x1))) (fun _ _ => none) (fun _ _ _ _ _ => none) (fun _ => none) (fun _ _ _ => none) PUnit.unit.{1} (fun _ _ _ _ => PUnit.unit.{1}) x0))
theorem l120_eq : ∀ x0, (Eq (l120 x0) (@toVal._sparseCasesOn_1 (fun _ => t437) x0 (fun x1 => (some x1)) (fun x1 => (@Option.rec t213 (fun _ => t437) none (fun x2 => ((fun x3 => (some (Value.agg (@List.toArray Value x3)))) x2)) (k_toVals x1))) (fun _ => none))) := by intro t; cases t <;> (intros; rfl)
noncomputable def k_toVal : t438 := (fun x0 => (l120 x0))
theorem k_toVal_eq : @k_toVal = toVal := by
  delta k_toVal toVal
  simp only [l120_eq]
  rw [k_toVals_eq]
  all_goals kernel_rfl

abbrev t439 : Type := TypeId → Bool
abbrev t440 : Type := Program → t439
abbrev t441 : Type := TypeDesc → t440
noncomputable def l122 : t441 := (fun x0 => (@TypeDesc.rec (fun _ => t440) (fun _ _ => Bool.false) (fun _ _ => Bool.true) (fun _ _ _ => Bool.true) (fun _ _ _ => Bool.false) (fun _ _ _ => Bool.false) (fun _ _ => Bool.true) (fun _ _ => Bool.false) (fun _ _ _ => Bool.false) (fun _ _ _ => Bool.false) (fun _ _ x3 x4 => (@Bool.rec (fun _ => Bool) Bool.false (Program.keyTypeAt x3 (nat_lit 3) x4) (k_Nat_blt x4 (@Array.size TypeInfo (Tables.types (Program.toTables x3)))))) (fun _ _ _ _ => Bool.false) (fun _ _ _ _ => Bool.false) (fun _ x2 x3 => (@Bool.rec (fun _ => Bool) Bool.false (Program.keyTypeAt x2 (nat_lit 3) x3) (k_Nat_blt x3 (@Array.size TypeInfo (Tables.types (Program.toTables x2)))))) (fun _ _ _ _ _ => Bool.false) (fun _ _ _ => Bool.false) (fun _ _ _ => Bool.false) (fun _ _ _ _ => Bool.false) x0))
theorem l122_eq : ∀ x0 x1 x2, (Eq (l122 x0 x1 x2) (@keyedB._sparseCasesOn_1 (fun _ => Bool) x0 (fun _ => Bool.true) Bool.true Bool.true (fun _ => (@Bool.rec (fun _ => Bool) Bool.false (Program.keyTypeAt x1 (nat_lit 3) x2) (k_Nat_blt x2 (@Array.size TypeInfo (Tables.types (Program.toTables x1)))))) (fun _ _ => (@Bool.rec (fun _ => Bool) Bool.false (Program.keyTypeAt x1 (nat_lit 3) x2) (k_Nat_blt x2 (@Array.size TypeInfo (Tables.types (Program.toTables x1)))))) (fun _ => Bool.false))) := by intro t; cases t <;> (intros; rfl)
abbrev t442 : Type := t336 → t440
noncomputable def l123 : t442 := (fun x0 => (@Option.rec TypeDesc (fun _ => t440) (fun _ _ => Bool.false) (fun x1 x2 x3 => (l122 x1 x2 x3)) x0))
theorem l123_eq : ∀ x0 x1 x2, (Eq (l123 x0 x1 x2) (@elInfo._sparseCasesOn_3 TypeDesc (fun _ => Bool) x0 (fun x3 => (l122 x3 x1 x2)) (fun _ => Bool.false))) := by intro t; cases t <;> (intros; rfl)
noncomputable def k_keyedB : t440 := (fun x0 x1 => (l123 (Program.underlying x0 x1) x0 x1))
theorem k_keyedB_eq : @k_keyedB = keyedB := by
  delta k_keyedB keyedB
  simp only [l123_eq, l122_eq]
  rw [k_Nat_blt_eq]
  all_goals kernel_rfl

abbrev t443 : Type := TypeId → t2
abbrev t444 : Type := Program → t443
noncomputable def k_keyOk : t444 := (fun x0 x1 x2 => (@Bool.rec (fun _ => Bool) Bool.false (@Option.rec Value (fun _ => Bool) Bool.false (fun x3 => ((fun x4 => (k_Option_isSome_Lit (keyOf x0 x1 x4))) x3)) (k_toVal x2)) (k_keyedB x0 x1)))
theorem k_keyOk_eq : @k_keyOk = keyOk := by
  delta k_keyOk keyOk
  rw [k_keyedB_eq, k_toVal_eq, k_Option_isSome_Lit_eq]
  all_goals kernel_rfl

abbrev t445 : Type := Nat → t19
abbrev t446 : Type := TypeId → t445
abbrev t447 : Type := S → t446
abbrev t448 : Type := Program → t447
abbrev t449 : Type := t81 → t448
noncomputable def l119 : t449 := (fun x0 => (@Option.rec CV (fun _ => t448) (fun _ _ _ _ _ => none) (fun x1 x2 x3 x4 x5 x6 => (k_ifT_Ret (k_keyOk x2 x4 x6) (k_rd_Ret x3 x5 (fun x7 x8 => (l84 x7 x4 x5 x6 x1 x8))))) x0))
theorem l119_eq : ∀ x0 x1 x2 x3 x4 x5, (Eq (l119 x0 x1 x2 x3 x4 x5) (@elInfo._sparseCasesOn_3 CV (fun _ => t4) x0 (fun x6 => (k_ifT_Ret (k_keyOk x1 x3 x5) (k_rd_Ret x2 x4 (fun x7 x8 => (l84 x7 x3 x4 x5 x6 x8))))) (fun _ => none))) := by intro t; cases t <;> (intros; rfl)
abbrev t450 : Type := Operand → t286
abbrev t451 : Type := t14 → t450
abbrev t452 : Type := Program → t451
abbrev t453 : Type := t81 → t452
noncomputable def l124 : t453 := (fun x0 => (@Option.rec CV (fun _ => t452) (fun _ _ _ _ _ _ => none) (fun x1 x2 x3 x4 x5 x6 x7 => (l119 (k_ev x3 x4) x2 x5 x6 x7 x1)) x0))
theorem l124_eq : ∀ x0 x1 x2 x3 x4 x5 x6, (Eq (l124 x0 x1 x2 x3 x4 x5 x6) (@elInfo._sparseCasesOn_3 CV (fun _ => t4) x0 (fun x7 => (l119 (k_ev x2 x3) x1 x4 x5 x6 x7)) (fun _ => none))) := by intro t; cases t <;> (intros; rfl)
abbrev t454 : Type := Operand → t321
abbrev t455 : Type := Operand → t454
abbrev t456 : Type := t14 → t455
abbrev t457 : Type := Program → t456
abbrev t458 : Type := CV → t457
noncomputable def l125 : t458 := (fun x0 => (@CV.rec (fun _ => t457) (fun _ => PUnit.{1}) (fun _ _ _ _ _ _ => none) (fun _ _ _ _ _ _ _ => none) (fun _ _ _ _ _ _ _ _ => none) (fun _ _ _ _ _ _ _ _ _ _ _ => none) (fun _ _ _ _ _ _ => none) (fun x1 x2 x3 x4 x5 x6 x7 => (l124 (k_ev x3 x4) x2 x3 x5 x6 x7 x1)) (fun _ _ _ _ _ _ _ _ => none) (fun _ _ _ _ _ _ _ _ => none) (fun _ _ _ _ _ _ _ _ _ _ _ => none) (fun _ _ _ _ _ _ _ => none) (fun _ _ _ _ _ _ _ _ _ => none) PUnit.unit.{1} (fun _ _ _ _ => PUnit.unit.{1}) x0))
theorem l125_eq : ∀ x0 x1 x2 x3 x4 x5 x6, (Eq (l125 x0 x1 x2 x3 x4 x5 x6) (@o_mapUpdate._sparseCasesOn_1 (fun _ => t4) x0 (fun x7 => (l124 (k_ev x2 x3) x1 x2 x4 x5 x6 x7)) (fun _ => none))) := by intro t; cases t <;> (intros; rfl)
abbrev t459 : Type := t81 → t457
noncomputable def l126 : t459 := (fun x0 => (@Option.rec CV (fun _ => t457) (fun _ _ _ _ _ _ => none) (fun x1 x2 x3 x4 x5 x6 x7 => (l125 x1 x2 x3 x4 x5 x6 x7)) x0))
theorem l126_eq : ∀ x0 x1 x2 x3 x4 x5 x6, (Eq (l126 x0 x1 x2 x3 x4 x5 x6) (@elInfo._sparseCasesOn_3 CV (fun _ => t4) x0 (fun x7 => (l125 x7 x1 x2 x3 x4 x5 x6)) (fun _ => none))) := by intro t; cases t <;> (intros; rfl)
abbrev t460 : Type := Prod TypeId TypeId
abbrev t461 : Type := Option t460
abbrev t462 : Type := t461 → t206
noncomputable def l127 : t462 := (fun x0 => (@Option.rec t460 (fun _ => t206) (fun _ _ _ _ _ _ => none) (fun x1 x2 x3 x4 x5 x6 x7 => (@Prod.rec TypeId TypeId (fun _ => t4) (fun x8 _ => (l126 (k_ev x3 x4) x2 x3 x5 x6 x7 x8)) x1)) x0))
theorem l127_eq : ∀ x0 x1 x2 x3 x4 x5 x6, (Eq (l127 x0 x1 x2 x3 x4 x5 x6) (@elInfo._sparseCasesOn_3 t460 (fun _ => t4) x0 (fun x7 => (@Prod.rec TypeId TypeId (fun _ => t4) (fun x8 _ => (l126 (k_ev x2 x3) x1 x2 x4 x5 x6 x8)) x7)) (fun _ => none))) := by intro t; cases t <;> (intros; rfl)
abbrev t463 : Type := TypeDesc → t461
noncomputable def l128 : t463 := (fun x0 => (@TypeDesc.rec (fun _ => t461) none none (fun _ => none) (fun _ => none) (fun _ => none) none none (fun _ => none) (fun _ => none) (fun _ _ => none) (fun x1 x2 => (some (x1, x2))) (fun _ _ => none) (fun _ => none) (fun _ _ _ => none) (fun _ => none) (fun _ => none) (fun _ _ => none) x0))
theorem l128_eq : ∀ x0, (Eq (l128 x0) (@mapInfo._sparseCasesOn_1 (fun _ => t461) x0 (fun x1 x2 => (some (x1, x2))) (fun _ => none))) := by intro t; cases t <;> (intros; rfl)
abbrev t464 : Type := t336 → t461
noncomputable def l129 : t464 := (fun x0 => (@Option.rec TypeDesc (fun _ => t461) none (fun x1 => (l128 x1)) x0))
theorem l129_eq : ∀ x0, (Eq (l129 x0) (@elInfo._sparseCasesOn_3 TypeDesc (fun _ => t461) x0 (fun x1 => (l128 x1)) (fun _ => none))) := by intro t; cases t <;> (intros; rfl)
abbrev t465 : Type := TypeId → t461
abbrev t466 : Type := Program → t465
noncomputable def k_mapInfo : t466 := (fun x0 x1 => (l129 (Program.underlying x0 x1)))
theorem k_mapInfo_eq : @k_mapInfo = mapInfo := by
  delta k_mapInfo mapInfo
  simp only [l128_eq, l129_eq]
  all_goals kernel_rfl

abbrev t467 : Type := TypeId → t204
abbrev t468 : Type := t14 → t467
abbrev t469 : Type := Program → t468
noncomputable def k_o_mapUpdate : t469 := (fun x0 x1 x2 x3 x4 x5 x6 => (l127 (k_mapInfo x0 x2) x0 x1 x3 x4 x5 x6))
theorem k_o_mapUpdate_eq : @k_o_mapUpdate = o_mapUpdate := by
  delta k_o_mapUpdate o_mapUpdate
  simp only [l126_eq, l124_eq, l83_eq, l80_eq, l119_eq, l125_eq, l84_eq, l127_eq]
  rw [k_mapInfo_eq, k_setE_eq, k_wr_Ret_eq, k_ok1_eq, k_snoc_511_eq, k_findE_eq, k_ifT_Ret_eq, k_rd_Ret_eq, k_keyOk_eq, k_ev_eq]
  all_goals kernel_rfl

abbrev t470 : Type := t7 → t20
noncomputable def l130 : t470 := (fun x0 => (@List.rec CV (fun _ => t20) (fun x1 x2 => (k_ok1 x2 x1)) (fun _ _ _ _ _ => none) x0))
theorem l130_eq : ∀ x0 x1 x2, (Eq (l130 x0 x1 x2) (@zipIx._sparseCasesOn_2 CV (fun _ => t4) x0 (k_ok1 x2 x1) (fun _ => none))) := by intro t; cases t <;> (intros; rfl)
noncomputable def l131 : t9 := (fun x0 => (@List.rec CV (fun _ => t8) (fun _ => none) (fun x1 x2 _ x4 => (l130 x2 x4 x1)) x0))
theorem l131_eq : ∀ x0 x1, (Eq (l131 x0 x1) (@zipIx._sparseCasesOn_3 CV (fun _ => t4) x0 (fun x2 x3 => (l130 x3 x1 x2)) (fun _ => none))) := by intro t; cases t <;> (intros; rfl)
noncomputable def l132 : t186 := (fun x0 => (@CV.rec (fun _ => t8) (fun _ => PUnit.{1}) (fun _ => none) (fun _ _ => none) (fun x1 x2 x3 => (k_rdRow x3 x1 x2 (nat_lit 1) (fun x4 x5 => (l131 x4 x5)))) (fun _ _ _ _ _ _ => none) (fun _ => none) (fun _ _ => none) (fun _ _ _ => none) (fun _ _ _ => none) (fun _ _ _ _ _ _ => none) (fun _ _ => none) (fun _ _ _ _ => none) PUnit.unit.{1} (fun _ _ _ _ => PUnit.unit.{1}) x0))
theorem l132_eq : ∀ x0 x1, (Eq (l132 x0 x1) (@o_load._sparseCasesOn_2 (fun _ => t4) x0 (fun x2 x3 => (k_rdRow x1 x2 x3 (nat_lit 1) (fun x4 x5 => (l131 x4 x5)))) (fun _ => none))) := by intro t; cases t <;> (intros; rfl)
noncomputable def l133 : t101 := (fun x0 => (@Option.rec CV (fun _ => t8) (fun _ => none) (fun x1 x2 => (l132 x1 x2)) x0))
theorem l133_eq : ∀ x0 x1, (Eq (l133 x0 x1) (@elInfo._sparseCasesOn_3 CV (fun _ => t4) x0 (fun x2 => (l132 x2 x1)) (fun _ => none))) := by intro t; cases t <;> (intros; rfl)
abbrev t471 : Type := S → t41
abbrev t472 : Type := CV → t471
noncomputable def l134 : t472 := (fun x0 => (@CV.rec (fun _ => t471) (fun _ => PUnit.{1}) (fun _ _ => none) (fun _ _ _ => none) (fun x1 x2 x3 x4 => (k_rdRow x3 x1 x2 x4 (fun x5 x6 => (k_ok1 (CV.agg x5) x6)))) (fun _ _ _ _ _ _ _ => none) (fun _ _ => none) (fun _ _ _ => none) (fun _ _ _ _ => none) (fun _ _ _ _ => none) (fun _ _ _ _ _ _ _ => none) (fun _ _ _ => none) (fun _ _ _ _ _ => none) PUnit.unit.{1} (fun _ _ _ _ => PUnit.unit.{1}) x0))
theorem l134_eq : ∀ x0 x1 x2, (Eq (l134 x0 x1 x2) (@o_load._sparseCasesOn_2 (fun _ => t4) x0 (fun x3 x4 => (k_rdRow x1 x3 x4 x2 (fun x5 x6 => (k_ok1 (CV.agg x5) x6)))) (fun _ => none))) := by intro t; cases t <;> (intros; rfl)
abbrev t473 : Type := t81 → t471
noncomputable def l135 : t473 := (fun x0 => (@Option.rec CV (fun _ => t471) (fun _ _ => none) (fun x1 x2 x3 => (l134 x1 x2 x3)) x0))
theorem l135_eq : ∀ x0 x1 x2, (Eq (l135 x0 x1 x2) (@elInfo._sparseCasesOn_3 CV (fun _ => t4) x0 (fun x3 => (l134 x3 x1 x2)) (fun _ => none))) := by intro t; cases t <;> (intros; rfl)
abbrev t474 : Type := t67 → t192
noncomputable def l136 : t474 := (fun x0 => (@Option.rec t66 (fun _ => t192) (fun _ _ _ => none) (fun x1 x2 x3 x4 => (@Prod.rec Bool Nat (fun _ => t4) (fun x5 x6 => (@Bool.rec (fun _ => t4) (l133 (k_ev x2 x3) x4) (l135 (k_ev x2 x3) x4 x6) x5)) x1)) x0))
theorem l136_eq : ∀ x0 x1 x2 x3, (Eq (l136 x0 x1 x2 x3) (@elInfo._sparseCasesOn_3 t66 (fun _ => t4) x0 (fun x4 => (@Prod.rec Bool Nat (fun _ => t4) (fun x5 x6 => (@Bool.rec (fun _ => t4) (l133 (k_ev x1 x2) x3) (l135 (k_ev x1 x2) x3 x6) x5)) x4)) (fun _ => none))) := by intro t; cases t <;> (intros; rfl)
noncomputable def k_o_load : t226 := (fun x0 x1 x2 x3 x4 => (l136 (tyInfo x0 x2) x1 x3 x4))
theorem k_o_load_eq : @k_o_load = o_load := by
  delta k_o_load o_load
  simp only [l136_eq, l133_eq, l134_eq, l135_eq, l130_eq, l131_eq, l132_eq]
  rw [k_ok1_eq, k_rdRow_eq, k_ev_eq]
  all_goals kernel_rfl

abbrev t475 : Type := Nat → t186
abbrev t476 : Type := Nat → t475
abbrev t477 : Type := CO → t476
noncomputable def l137 : t477 := (fun x0 => (@CO.rec (fun _ => t476) (fun x1 x2 x3 x4 x5 x6 x7 => (@Option.rec t7 (fun _ => t4) none (fun x8 => ((fun x9 => (k_wr_Ret x7 x4 (some (CO.row x1 x9 x3)) (fun x10 => (k_ok1 (CV.tup []) x10)))) x8)) (k_putN x5 (k_cells x6) x2))) (fun _ _ _ _ _ _ _ => none) (fun _ _ _ _ _ _ _ _ _ _ _ _ => none) (fun _ _ _ _ => none) (fun _ _ _ _ => none) x0))
theorem l137_eq : ∀ x0 x1 x2 x3 x4, (Eq (l137 x0 x1 x2 x3 x4) (@rdRow._sparseCasesOn_1 (fun _ => t4) x0 (fun x5 x6 x7 => (@Option.rec t7 (fun _ => t4) none (fun x8 => ((fun x9 => (k_wr_Ret x4 x1 (some (CO.row x5 x9 x7)) (fun x10 => (k_ok1 (CV.tup []) x10)))) x8)) (k_putN x2 (k_cells x3) x6))) (fun _ => none))) := by intro t; cases t <;> (intros; rfl)
abbrev t478 : Type := S → t48
abbrev t479 : Type := t81 → t478
noncomputable def l138 : t479 := (fun x0 => (@Option.rec CV (fun _ => t478) (fun _ _ _ _ => none) (fun x1 x2 x3 x4 x5 => (k_ifT_Ret (@Bool.rec (fun _ => Bool) Bool.false (Nat.beq (k_len (k_cells x1)) x3) (@Bool.rec (fun _ => Bool) Bool.false (k_allOne (k_cells x1)) (k_bok x1))) (k_rd_Ret x2 x4 (fun x6 x7 => (l137 x6 x4 x5 x1 x7))))) x0))
theorem l138_eq : ∀ x0 x1 x2 x3 x4, (Eq (l138 x0 x1 x2 x3 x4) (@elInfo._sparseCasesOn_3 CV (fun _ => t4) x0 (fun x5 => (k_ifT_Ret (@Bool.rec (fun _ => Bool) Bool.false (Nat.beq (k_len (k_cells x5)) x2) (@Bool.rec (fun _ => Bool) Bool.false (k_allOne (k_cells x5)) (k_bok x5))) (k_rd_Ret x1 x3 (fun x6 x7 => (l137 x6 x3 x4 x5 x7))))) (fun _ => none))) := by intro t; cases t <;> (intros; rfl)
abbrev t480 : Type := Operand → t471
abbrev t481 : Type := t14 → t480
abbrev t482 : Type := CV → t481
noncomputable def l139 : t482 := (fun x0 => (@CV.rec (fun _ => t481) (fun _ => PUnit.{1}) (fun _ _ _ _ => none) (fun _ _ _ _ _ => none) (fun x1 x2 x3 x4 x5 x6 => (l138 (k_ev x3 x4) x5 x6 x1 x2)) (fun _ _ _ _ _ _ _ _ _ => none) (fun _ _ _ _ => none) (fun _ _ _ _ _ => none) (fun _ _ _ _ _ _ => none) (fun _ _ _ _ _ _ => none) (fun _ _ _ _ _ _ _ _ _ => none) (fun _ _ _ _ _ => none) (fun _ _ _ _ _ _ _ => none) PUnit.unit.{1} (fun _ _ _ _ => PUnit.unit.{1}) x0))
theorem l139_eq : ∀ x0 x1 x2 x3 x4, (Eq (l139 x0 x1 x2 x3 x4) (@o_load._sparseCasesOn_2 (fun _ => t4) x0 (fun x5 x6 => (l138 (k_ev x1 x2) x3 x4 x5 x6)) (fun _ => none))) := by intro t; cases t <;> (intros; rfl)
abbrev t483 : Type := t81 → t481
noncomputable def l140 : t483 := (fun x0 => (@Option.rec CV (fun _ => t481) (fun _ _ _ _ => none) (fun x1 x2 x3 x4 x5 => (l139 x1 x2 x3 x4 x5)) x0))
theorem l140_eq : ∀ x0 x1 x2 x3 x4, (Eq (l140 x0 x1 x2 x3 x4) (@elInfo._sparseCasesOn_3 CV (fun _ => t4) x0 (fun x5 => (l139 x5 x1 x2 x3 x4)) (fun _ => none))) := by intro t; cases t <;> (intros; rfl)
abbrev t484 : Type := t67 → t200
noncomputable def l141 : t484 := (fun x0 => (@Option.rec t66 (fun _ => t200) (fun _ _ _ _ => none) (fun x1 x2 x3 x4 x5 => (@Prod.rec Bool Nat (fun _ => t4) (fun _ x7 => (l140 (k_ev x2 x3) x2 x4 x5 x7)) x1)) x0))
theorem l141_eq : ∀ x0 x1 x2 x3 x4, (Eq (l141 x0 x1 x2 x3 x4) (@elInfo._sparseCasesOn_3 t66 (fun _ => t4) x0 (fun x5 => (@Prod.rec Bool Nat (fun _ => t4) (fun _ x7 => (l140 (k_ev x1 x2) x1 x3 x4 x7)) x5)) (fun _ => none))) := by intro t; cases t <;> (intros; rfl)
abbrev t485 : Type := TypeId → t199
abbrev t486 : Type := t14 → t485
abbrev t487 : Type := Program → t486
noncomputable def k_o_store : t487 := (fun x0 x1 x2 x3 x4 x5 => (l141 (tyInfo x0 x2) x1 x3 x4 x5))
theorem k_o_store_eq : @k_o_store = o_store := by
  delta k_o_store o_store
  simp only [l140_eq, l137_eq, l139_eq, l138_eq, l141_eq]
  rw [k_putN_eq, k_cells_eq, k_wr_Ret_eq, k_ok1_eq, k_ifT_Ret_eq, k_rd_Ret_eq, k_bok_eq, k_allOne_eq, k_len_eq, k_ev_eq]
  all_goals kernel_rfl

noncomputable def l142 : t186 := (fun x0 => (@CV.rec (fun _ => t8) (fun _ => PUnit.{1}) (fun _ => none) (fun _ _ => none) (fun x1 x2 x3 => (k_ok1 (CV.ptr x1 x2) x3)) (fun _ _ _ _ _ _ => none) (fun _ => none) (fun _ _ => none) (fun _ _ _ => none) (fun _ _ _ => none) (fun x1 x2 x3 _ _ x6 => (k_ok1 (CV.fn x1 x2 x3) x6)) (fun x1 x2 => (k_ok1 (CV.yld x1) x2)) (fun x1 x2 _ x4 => (k_ok1 (CV.iface x1 x2) x4)) PUnit.unit.{1} (fun _ _ _ _ => PUnit.unit.{1}) x0))
theorem l142_eq : ∀ x0 x1, (Eq (l142 x0 x1) (@o_nilCheck._sparseCasesOn_1 (fun _ => t4) x0 (fun x2 x3 => (k_ok1 (CV.ptr x2 x3) x1)) (fun x2 x3 x4 => (k_ok1 (CV.fn x2 x3 x4) x1)) (fun x2 x3 => (k_ok1 (CV.iface x2 x3) x1)) (fun x2 => (k_ok1 (CV.yld x2) x1)) (fun _ => none))) := by intro t; cases t <;> (intros; rfl)
noncomputable def l143 : t101 := (fun x0 => (@Option.rec CV (fun _ => t8) (fun _ => none) (fun x1 x2 => (l142 x1 x2)) x0))
theorem l143_eq : ∀ x0 x1, (Eq (l143 x0 x1) (@elInfo._sparseCasesOn_3 CV (fun _ => t4) x0 (fun x2 => (l142 x2 x1)) (fun _ => none))) := by intro t; cases t <;> (intros; rfl)
noncomputable def k_o_nilCheck : t193 := (fun _ x1 x2 x3 => (l143 (k_ev x1 x2) x3))
theorem k_o_nilCheck_eq : @k_o_nilCheck = o_nilCheck := by
  delta k_o_nilCheck o_nilCheck
  simp only [l143_eq, l142_eq]
  rw [k_ev_eq, k_ok1_eq]
  all_goals kernel_rfl

abbrev t488 : Type := Bool → t4
abbrev t489 : Type := S → t488
noncomputable def k_retB : t489 := (fun x0 x1 => (@Bool.rec (fun _ => t4) (some (Ret.ok (CV.val (Value.bool Bool.false)) x0)) (some (Ret.ok (CV.val (Value.bool Bool.true)) x0)) x1))
theorem k_retB_eq : @k_retB = retB := by
  delta k_retB retB
  all_goals kernel_rfl

abbrev t490 : Type := Value → t391
noncomputable def l147 : t490 := (fun x0 => (@Value.rec (fun _ => t391) (fun _ => PUnit.{1}) (fun _ => PUnit.{1}) (fun x1 x2 => (some (@Bool.rec (fun _ => Bool) (@Bool.rec (fun _ => Bool) Bool.true Bool.false x1) x1 x2))) (fun _ _ _ => none) (fun _ _ _ => none) (fun _ _ _ _ => none) (fun _ _ => none) (fun _ _ => none) (fun _ _ _ _ => none) (fun _ _ => none) (fun _ _ => none) (fun _ _ _ _ _ _ => none) (fun _ => none) (fun _ _ _ _ => none) (fun _ => none) (fun _ _ _ => none) (fun _ _ _ => none) (fun _ _ => PUnit.unit.{1}) PUnit.unit.{1} (fun _ _ _ _ => PUnit.unit.{1}) x0))
theorem l147_eq : ∀ x0 x1, (Eq (l147 x0 x1) (@eqV._sparseCasesOn_4 (fun _ => t369) x0 (fun x2 => (some (@Bool.rec (fun _ => Bool) (@Bool.rec (fun _ => Bool) Bool.true Bool.false x2) x2 x1))) (fun _ => none))) := by intro t; cases t <;> (intros; rfl)
abbrev t491 : Type := CV → t391
noncomputable def l148 : t491 := (fun x0 => (@CV.rec (fun _ => t391) (fun _ => PUnit.{1}) (fun _ => none) (fun x1 x2 => (l147 x1 x2)) (fun _ _ _ => none) (fun _ _ _ _ _ _ => none) (fun _ => none) (fun _ _ => none) (fun _ _ _ => none) (fun _ _ _ => none) (fun _ _ _ _ _ _ => none) (fun _ _ => none) (fun _ _ _ _ => none) PUnit.unit.{1} (fun _ _ _ _ => PUnit.unit.{1}) x0))
theorem l148_eq : ∀ x0 x1, (Eq (l148 x0 x1) (@eqV._sparseCasesOn_3 (fun _ => t369) x0 (fun x2 => (l147 x2 x1)) (fun _ => none))) := by intro t; cases t <;> (intros; rfl)
abbrev t492 : Type := Value → t371
noncomputable def l149 : t492 := (fun x0 => (@Value.rec (fun _ => t371) (fun _ => PUnit.{1}) (fun _ => PUnit.{1}) (fun x1 x2 => (l148 x2 x1)) (fun _ _ _ => none) (fun _ _ _ => none) (fun _ _ _ _ => none) (fun _ _ => none) (fun _ _ => none) (fun _ _ _ _ => none) (fun _ _ => none) (fun _ _ => none) (fun _ _ _ _ _ _ => none) (fun _ => none) (fun _ _ _ _ => none) (fun _ => none) (fun _ _ _ => none) (fun _ _ _ => none) (fun _ _ => PUnit.unit.{1}) PUnit.unit.{1} (fun _ _ _ _ => PUnit.unit.{1}) x0))
theorem l149_eq : ∀ x0 x1, (Eq (l149 x0 x1) (@eqV._sparseCasesOn_4 (fun _ => t369) x0 (fun x2 => (l148 x1 x2)) (fun _ => none))) := by intro t; cases t <;> (intros; rfl)
noncomputable def l150 : t417 := (fun x0 => (@CV.rec (fun _ => t371) (fun _ => PUnit.{1}) (fun _ => none) (fun x1 x2 => (l149 x1 x2)) (fun _ _ _ => none) (fun _ _ _ _ _ _ => none) (fun _ => none) (fun _ _ => none) (fun _ _ _ => none) (fun _ _ _ => none) (fun _ _ _ _ _ _ => none) (fun _ _ => none) (fun _ _ _ _ => none) PUnit.unit.{1} (fun _ _ _ _ => PUnit.unit.{1}) x0))
theorem l150_eq : ∀ x0 x1, (Eq (l150 x0 x1) (@eqV._sparseCasesOn_3 (fun _ => t369) x0 (fun x2 => (l149 x2 x1)) (fun _ => none))) := by intro t; cases t <;> (intros; rfl)
abbrev t493 : Type := Value → t384
noncomputable def l151 : t493 := (fun x0 => (@Value.rec (fun _ => t384) (fun _ => PUnit.{1}) (fun _ => PUnit.{1}) (fun _ _ _ => none) (fun x1 x2 x3 x4 => (@Bool.rec (fun _ => t369) none (some (k_iEq x4 x2)) (k_kEq x3 x1))) (fun _ _ _ _ => none) (fun _ _ _ _ _ => none) (fun _ _ _ => none) (fun _ _ _ => none) (fun _ _ _ _ _ => none) (fun _ _ _ => none) (fun _ _ _ => none) (fun _ _ _ _ _ _ _ => none) (fun _ _ => none) (fun _ _ _ _ _ => none) (fun _ _ => none) (fun _ _ _ _ => none) (fun _ _ _ _ => none) (fun _ _ => PUnit.unit.{1}) PUnit.unit.{1} (fun _ _ _ _ => PUnit.unit.{1}) x0))
theorem l151_eq : ∀ x0 x1 x2, (Eq (l151 x0 x1 x2) (@eqV._sparseCasesOn_5 (fun _ => t369) x0 (fun x3 x4 => (@Bool.rec (fun _ => t369) none (some (k_iEq x2 x4)) (k_kEq x1 x3))) (fun _ => none))) := by intro t; cases t <;> (intros; rfl)
abbrev t494 : Type := CV → t384
noncomputable def l152 : t494 := (fun x0 => (@CV.rec (fun _ => t384) (fun _ => PUnit.{1}) (fun _ _ => none) (fun x1 x2 x3 => (l151 x1 x2 x3)) (fun _ _ _ _ => none) (fun _ _ _ _ _ _ _ => none) (fun _ _ => none) (fun _ _ _ => none) (fun _ _ _ _ => none) (fun _ _ _ _ => none) (fun _ _ _ _ _ _ _ => none) (fun _ _ _ => none) (fun _ _ _ _ _ => none) PUnit.unit.{1} (fun _ _ _ _ => PUnit.unit.{1}) x0))
theorem l152_eq : ∀ x0 x1 x2, (Eq (l152 x0 x1 x2) (@eqV._sparseCasesOn_3 (fun _ => t369) x0 (fun x3 => (l151 x3 x1 x2)) (fun _ => none))) := by intro t; cases t <;> (intros; rfl)
noncomputable def l153 : t492 := (fun x0 => (@Value.rec (fun _ => t371) (fun _ => PUnit.{1}) (fun _ => PUnit.{1}) (fun _ _ => none) (fun x1 x2 x3 => (l152 x3 x1 x2)) (fun _ _ _ => none) (fun _ _ _ _ => none) (fun _ _ => none) (fun _ _ => none) (fun _ _ _ _ => none) (fun _ _ => none) (fun _ _ => none) (fun _ _ _ _ _ _ => none) (fun _ => none) (fun _ _ _ _ => none) (fun _ => none) (fun _ _ _ => none) (fun _ _ _ => none) (fun _ _ => PUnit.unit.{1}) PUnit.unit.{1} (fun _ _ _ _ => PUnit.unit.{1}) x0))
theorem l153_eq : ∀ x0 x1, (Eq (l153 x0 x1) (@eqV._sparseCasesOn_5 (fun _ => t369) x0 (fun x2 x3 => (l152 x1 x2 x3)) (fun _ => none))) := by intro t; cases t <;> (intros; rfl)
noncomputable def l154 : t417 := (fun x0 => (@CV.rec (fun _ => t371) (fun _ => PUnit.{1}) (fun _ => none) (fun x1 x2 => (l153 x1 x2)) (fun _ _ _ => none) (fun _ _ _ _ _ _ => none) (fun _ => none) (fun _ _ => none) (fun _ _ _ => none) (fun _ _ _ => none) (fun _ _ _ _ _ _ => none) (fun _ _ => none) (fun _ _ _ _ => none) PUnit.unit.{1} (fun _ _ _ _ => PUnit.unit.{1}) x0))
theorem l154_eq : ∀ x0 x1, (Eq (l154 x0 x1) (@eqV._sparseCasesOn_3 (fun _ => t369) x0 (fun x2 => (l153 x2 x1)) (fun _ => none))) := by intro t; cases t <;> (intros; rfl)
abbrev t495 : Type := Value → t404
noncomputable def l155 : t495 := (fun x0 => (@Value.rec (fun _ => t404) (fun _ => PUnit.{1}) (fun _ => PUnit.{1}) (fun _ _ => none) (fun _ _ _ => none) (fun _ _ _ => none) (fun _ _ _ _ => none) (fun x1 x2 => (some (k_bytesEq (@Array.toList UInt8 (ByteArray.data x2)) (@Array.toList UInt8 (ByteArray.data x1))))) (fun _ _ => none) (fun _ _ _ _ => none) (fun _ _ => none) (fun _ _ => none) (fun _ _ _ _ _ _ => none) (fun _ => none) (fun _ _ _ _ => none) (fun _ => none) (fun _ _ _ => none) (fun _ _ _ => none) (fun _ _ => PUnit.unit.{1}) PUnit.unit.{1} (fun _ _ _ _ => PUnit.unit.{1}) x0))
theorem l155_eq : ∀ x0 x1, (Eq (l155 x0 x1) (@eqV._sparseCasesOn_6 (fun _ => t369) x0 (fun x2 => (some (k_bytesEq (@Array.toList UInt8 (ByteArray.data x1)) (@Array.toList UInt8 (ByteArray.data x2))))) (fun _ => none))) := by intro t; cases t <;> (intros; rfl)
abbrev t496 : Type := CV → t404
noncomputable def l156 : t496 := (fun x0 => (@CV.rec (fun _ => t404) (fun _ => PUnit.{1}) (fun _ => none) (fun x1 x2 => (l155 x1 x2)) (fun _ _ _ => none) (fun _ _ _ _ _ _ => none) (fun _ => none) (fun _ _ => none) (fun _ _ _ => none) (fun _ _ _ => none) (fun _ _ _ _ _ _ => none) (fun _ _ => none) (fun _ _ _ _ => none) PUnit.unit.{1} (fun _ _ _ _ => PUnit.unit.{1}) x0))
theorem l156_eq : ∀ x0 x1, (Eq (l156 x0 x1) (@eqV._sparseCasesOn_3 (fun _ => t369) x0 (fun x2 => (l155 x2 x1)) (fun _ => none))) := by intro t; cases t <;> (intros; rfl)
noncomputable def l157 : t492 := (fun x0 => (@Value.rec (fun _ => t371) (fun _ => PUnit.{1}) (fun _ => PUnit.{1}) (fun _ _ => none) (fun _ _ _ => none) (fun _ _ _ => none) (fun _ _ _ _ => none) (fun x1 x2 => (l156 x2 x1)) (fun _ _ => none) (fun _ _ _ _ => none) (fun _ _ => none) (fun _ _ => none) (fun _ _ _ _ _ _ => none) (fun _ => none) (fun _ _ _ _ => none) (fun _ => none) (fun _ _ _ => none) (fun _ _ _ => none) (fun _ _ => PUnit.unit.{1}) PUnit.unit.{1} (fun _ _ _ _ => PUnit.unit.{1}) x0))
theorem l157_eq : ∀ x0 x1, (Eq (l157 x0 x1) (@eqV._sparseCasesOn_6 (fun _ => t369) x0 (fun x2 => (l156 x1 x2)) (fun _ => none))) := by intro t; cases t <;> (intros; rfl)
noncomputable def l158 : t417 := (fun x0 => (@CV.rec (fun _ => t371) (fun _ => PUnit.{1}) (fun _ => none) (fun x1 x2 => (l157 x1 x2)) (fun _ _ _ => none) (fun _ _ _ _ _ _ => none) (fun _ => none) (fun _ _ => none) (fun _ _ _ => none) (fun _ _ _ => none) (fun _ _ _ _ _ _ => none) (fun _ _ => none) (fun _ _ _ _ => none) PUnit.unit.{1} (fun _ _ _ _ => PUnit.unit.{1}) x0))
theorem l158_eq : ∀ x0 x1, (Eq (l158 x0 x1) (@eqV._sparseCasesOn_3 (fun _ => t369) x0 (fun x2 => (l157 x2 x1)) (fun _ => none))) := by intro t; cases t <;> (intros; rfl)
abbrev t497 : Type := Option Addr
abbrev t498 : Type := t497 → t369
noncomputable def l159 : t498 := (fun x0 => (@Option.rec Addr (fun _ => t369) (some Bool.true) (fun _ => none) x0))
theorem l159_eq : ∀ x0, (Eq (l159 x0) (@eqV._sparseCasesOn_9 Addr (fun _ => t369) x0 (some Bool.true) (fun _ => none))) := by intro t; cases t <;> (intros; rfl)
noncomputable def l160 : t370 := (fun x0 => (@Value.rec (fun _ => t369) (fun _ => PUnit.{1}) (fun _ => PUnit.{1}) (fun _ => none) (fun _ _ => none) (fun _ _ => none) (fun _ _ _ => none) (fun _ => none) (fun x1 => (l159 x1)) (fun _ _ _ => none) (fun _ => none) (fun _ => none) (fun _ _ _ _ _ => none) none (fun _ _ _ => none) none (fun _ _ => none) (fun _ _ => none) (fun _ _ => PUnit.unit.{1}) PUnit.unit.{1} (fun _ _ _ _ => PUnit.unit.{1}) x0))
theorem l160_eq : ∀ x0, (Eq (l160 x0) (@eqV._sparseCasesOn_8 (fun _ => t369) x0 (fun x1 => (l159 x1)) (fun _ => none))) := by intro t; cases t <;> (intros; rfl)
noncomputable def l161 : t371 := (fun x0 => (@CV.rec (fun _ => t369) (fun _ => PUnit.{1}) none (fun x1 => (l160 x1)) (fun _ _ => (some Bool.false)) (fun _ _ _ _ _ => none) none (fun _ => none) (fun _ _ => none) (fun _ _ => none) (fun _ _ _ _ _ => none) (fun _ => none) (fun _ _ _ => none) PUnit.unit.{1} (fun _ _ _ _ => PUnit.unit.{1}) x0))
theorem l161_eq : ∀ x0, (Eq (l161 x0) (@eqV._sparseCasesOn_7 (fun _ => t369) x0 (fun x1 => (l160 x1)) (fun _ _ => (some Bool.false)) (fun _ => none))) := by intro t; cases t <;> (intros; rfl)
abbrev t499 : Type := t497 → t371
noncomputable def l162 : t499 := (fun x0 => (@Option.rec Addr (fun _ => t371) (fun x1 => (l161 x1)) (fun _ _ => none) x0))
theorem l162_eq : ∀ x0 x1, (Eq (l162 x0 x1) (@eqV._sparseCasesOn_9 Addr (fun _ => t369) x0 (l161 x1) (fun _ => none))) := by intro t; cases t <;> (intros; rfl)
noncomputable def l163 : t492 := (fun x0 => (@Value.rec (fun _ => t371) (fun _ => PUnit.{1}) (fun _ => PUnit.{1}) (fun _ _ => none) (fun _ _ _ => none) (fun _ _ _ => none) (fun _ _ _ _ => none) (fun _ _ => none) (fun x1 x2 => (l162 x1 x2)) (fun _ _ _ _ => none) (fun _ _ => none) (fun _ _ => none) (fun _ _ _ _ _ _ => none) (fun _ => none) (fun _ _ _ _ => none) (fun _ => none) (fun _ _ _ => none) (fun _ _ _ => none) (fun _ _ => PUnit.unit.{1}) PUnit.unit.{1} (fun _ _ _ _ => PUnit.unit.{1}) x0))
theorem l163_eq : ∀ x0 x1, (Eq (l163 x0 x1) (@eqV._sparseCasesOn_8 (fun _ => t369) x0 (fun x2 => (l162 x2 x1)) (fun _ => none))) := by intro t; cases t <;> (intros; rfl)
noncomputable def l164 : t498 := (fun x0 => (@Option.rec Addr (fun _ => t369) (some Bool.false) (fun _ => none) x0))
theorem l164_eq : ∀ x0, (Eq (l164 x0) (@eqV._sparseCasesOn_9 Addr (fun _ => t369) x0 (some Bool.false) (fun _ => none))) := by intro t; cases t <;> (intros; rfl)
noncomputable def l165 : t370 := (fun x0 => (@Value.rec (fun _ => t369) (fun _ => PUnit.{1}) (fun _ => PUnit.{1}) (fun _ => none) (fun _ _ => none) (fun _ _ => none) (fun _ _ _ => none) (fun _ => none) (fun x1 => (l164 x1)) (fun _ _ _ => none) (fun _ => none) (fun _ => none) (fun _ _ _ _ _ => none) none (fun _ _ _ => none) none (fun _ _ => none) (fun _ _ => none) (fun _ _ => PUnit.unit.{1}) PUnit.unit.{1} (fun _ _ _ _ => PUnit.unit.{1}) x0))
theorem l165_eq : ∀ x0, (Eq (l165 x0) (@eqV._sparseCasesOn_8 (fun _ => t369) x0 (fun x1 => (l164 x1)) (fun _ => none))) := by intro t; cases t <;> (intros; rfl)
noncomputable def l166 : t371 := (fun x0 => (@CV.rec (fun _ => t369) (fun _ => PUnit.{1}) none (fun x1 => (l165 x1)) (fun _ _ => none) (fun _ _ _ _ _ => none) none (fun _ => none) (fun _ _ => none) (fun _ _ => none) (fun _ _ _ _ _ => none) (fun _ => none) (fun _ _ _ => none) PUnit.unit.{1} (fun _ _ _ _ => PUnit.unit.{1}) x0))
theorem l166_eq : ∀ x0, (Eq (l166 x0) (@eqV._sparseCasesOn_3 (fun _ => t369) x0 (fun x1 => (l165 x1)) (fun _ => none))) := by intro t; cases t <;> (intros; rfl)
noncomputable def l167 : t417 := (fun x0 => (@CV.rec (fun _ => t371) (fun _ => PUnit.{1}) (fun _ => none) (fun x1 x2 => (l163 x1 x2)) (fun _ _ x3 => (l166 x3)) (fun _ _ _ _ _ _ => none) (fun _ => none) (fun _ _ => none) (fun _ _ _ => none) (fun _ _ _ => none) (fun _ _ _ _ _ _ => none) (fun _ _ => none) (fun _ _ _ _ => none) PUnit.unit.{1} (fun _ _ _ _ => PUnit.unit.{1}) x0))
theorem l167_eq : ∀ x0 x1, (Eq (l167 x0 x1) (@eqV._sparseCasesOn_7 (fun _ => t369) x0 (fun x2 => (l163 x2 x1)) (fun _ _ => (l166 x1)) (fun _ => none))) := by intro t; cases t <;> (intros; rfl)
abbrev t500 : Type := Nat → t369
abbrev t501 : Type := Nat → t500
abbrev t502 : Type := TypeId → t501
abbrev t503 : Type := CV → t502
abbrev t504 : Type := t497 → t503
noncomputable def l168 : t504 := (fun x0 => (@Option.rec Addr (fun _ => t503) (fun x1 x2 x3 x4 => (@dite ((fun _ _ _ => t369) (some (TypeDesc.slice x2)) (CV.val (Value.slice none x3 x4)) x1) (Eq x3 (@OfNat.ofNat Nat (nat_lit 0) (instOfNatNat (nat_lit 0)))) (instDecidableEqNat x3 (@OfNat.ofNat Nat (nat_lit 0) (instOfNatNat (nat_lit 0)))) (@Eq.ndrec_symm Nat (@OfNat.ofNat Nat (nat_lit 0) (instOfNatNat (nat_lit 0))) (fun x5 => ((fun _ _ _ => t369) (some (TypeDesc.slice x2)) (CV.val (Value.slice none x5 x4)) x1)) (@dite ((fun _ _ _ => t369) (some (TypeDesc.slice x2)) (CV.val (Value.slice none (@OfNat.ofNat Nat (nat_lit 0) (instOfNatNat (nat_lit 0))) x4)) x1) (Eq x4 (@OfNat.ofNat Nat (nat_lit 0) (instOfNatNat (nat_lit 0)))) (instDecidableEqNat x4 (@OfNat.ofNat Nat (nat_lit 0) (instOfNatNat (nat_lit 0)))) (@Eq.ndrec_symm Nat (@OfNat.ofNat Nat (nat_lit 0) (instOfNatNat (nat_lit 0))) (fun x5 => ((fun _ _ _ => t369) (some (TypeDesc.slice x2)) (CV.val (Value.slice none (@OfNat.ofNat Nat (nat_lit 0) (instOfNatNat (nat_lit 0))) x5)) x1)) (@eqV._sparseCasesOn_10 (fun x5 => ((fun _ _ _ => t369) (some (TypeDesc.slice x2)) (CV.val (Value.slice none (@OfNat.ofNat Nat (nat_lit 0) (instOfNatNat (nat_lit 0))) (@OfNat.ofNat Nat (nat_lit 0) (instOfNatNat (nat_lit 0))))) x5)) x1 (fun x5 => (@eqV._sparseCasesOn_11 (fun x6 => ((fun _ _ _ => t369) (some (TypeDesc.slice x2)) (CV.val (Value.slice none (@OfNat.ofNat Nat (nat_lit 0) (instOfNatNat (nat_lit 0))) (@OfNat.ofNat Nat (nat_lit 0) (instOfNatNat (nat_lit 0))))) (CV.val x6))) x5 (fun x6 x7 x8 => (@eqV._sparseCasesOn_9 Addr (fun x9 => ((fun _ _ _ => t369) (some (TypeDesc.slice x2)) (CV.val (Value.slice none (@OfNat.ofNat Nat (nat_lit 0) (instOfNatNat (nat_lit 0))) (@OfNat.ofNat Nat (nat_lit 0) (instOfNatNat (nat_lit 0))))) (CV.val (Value.slice x9 x7 x8)))) x6 (@dite ((fun _ _ _ => t369) (some (TypeDesc.slice x2)) (CV.val (Value.slice none (@OfNat.ofNat Nat (nat_lit 0) (instOfNatNat (nat_lit 0))) (@OfNat.ofNat Nat (nat_lit 0) (instOfNatNat (nat_lit 0))))) (CV.val (Value.slice none x7 x8))) (Eq x7 (@OfNat.ofNat Nat (nat_lit 0) (instOfNatNat (nat_lit 0)))) (instDecidableEqNat x7 (@OfNat.ofNat Nat (nat_lit 0) (instOfNatNat (nat_lit 0)))) (@Eq.ndrec_symm Nat (@OfNat.ofNat Nat (nat_lit 0) (instOfNatNat (nat_lit 0))) (fun x9 => ((fun _ _ _ => t369) (some (TypeDesc.slice x2)) (CV.val (Value.slice none (@OfNat.ofNat Nat (nat_lit 0) (instOfNatNat (nat_lit 0))) (@OfNat.ofNat Nat (nat_lit 0) (instOfNatNat (nat_lit 0))))) (CV.val (Value.slice none x9 x8)))) (@dite ((fun _ _ _ => t369) (some (TypeDesc.slice x2)) (CV.val (Value.slice none (@OfNat.ofNat Nat (nat_lit 0) (instOfNatNat (nat_lit 0))) (@OfNat.ofNat Nat (nat_lit 0) (instOfNatNat (nat_lit 0))))) (CV.val (Value.slice none (@OfNat.ofNat Nat (nat_lit 0) (instOfNatNat (nat_lit 0))) x8))) (Eq x8 (@OfNat.ofNat Nat (nat_lit 0) (instOfNatNat (nat_lit 0)))) (instDecidableEqNat x8 (@OfNat.ofNat Nat (nat_lit 0) (instOfNatNat (nat_lit 0)))) (@Eq.ndrec_symm Nat (@OfNat.ofNat Nat (nat_lit 0) (instOfNatNat (nat_lit 0))) (fun x9 => ((fun _ _ _ => t369) (some (TypeDesc.slice x2)) (CV.val (Value.slice none (@OfNat.ofNat Nat (nat_lit 0) (instOfNatNat (nat_lit 0))) (@OfNat.ofNat Nat (nat_lit 0) (instOfNatNat (nat_lit 0))))) (CV.val (Value.slice none (@OfNat.ofNat Nat (nat_lit 0) (instOfNatNat (nat_lit 0))) x9)))) ((fun _ => (some Bool.true)) x2) x8) (fun _ => ((fun _ _ _ => none) (some (TypeDesc.slice x2)) (CV.val (Value.slice none (@OfNat.ofNat Nat (nat_lit 0) (instOfNatNat (nat_lit 0))) (@OfNat.ofNat Nat (nat_lit 0) (instOfNatNat (nat_lit 0))))) (CV.val (Value.slice none (@OfNat.ofNat Nat (nat_lit 0) (instOfNatNat (nat_lit 0))) x8))))) x7) (fun _ => ((fun _ _ _ => none) (some (TypeDesc.slice x2)) (CV.val (Value.slice none (@OfNat.ofNat Nat (nat_lit 0) (instOfNatNat (nat_lit 0))) (@OfNat.ofNat Nat (nat_lit 0) (instOfNatNat (nat_lit 0))))) (CV.val (Value.slice none x7 x8))))) (fun _ => ((fun _ _ _ => none) (some (TypeDesc.slice x2)) (CV.val (Value.slice none (@OfNat.ofNat Nat (nat_lit 0) (instOfNatNat (nat_lit 0))) (@OfNat.ofNat Nat (nat_lit 0) (instOfNatNat (nat_lit 0))))) (CV.val (Value.slice x6 x7 x8)))))) (fun _ => ((fun _ _ _ => none) (some (TypeDesc.slice x2)) (CV.val (Value.slice none (@OfNat.ofNat Nat (nat_lit 0) (instOfNatNat (nat_lit 0))) (@OfNat.ofNat Nat (nat_lit 0) (instOfNatNat (nat_lit 0))))) (CV.val x5))))) (fun x5 x6 x7 x8 x9 => ((fun _ _ _ _ _ _ => (some Bool.false)) x2 x5 x6 x7 x8 x9)) (fun _ => ((fun _ _ _ => none) (some (TypeDesc.slice x2)) (CV.val (Value.slice none (@OfNat.ofNat Nat (nat_lit 0) (instOfNatNat (nat_lit 0))) (@OfNat.ofNat Nat (nat_lit 0) (instOfNatNat (nat_lit 0))))) x1))) x4) (fun _ => ((fun _ _ _ => none) (some (TypeDesc.slice x2)) (CV.val (Value.slice none (@OfNat.ofNat Nat (nat_lit 0) (instOfNatNat (nat_lit 0))) x4)) x1))) x3) (fun _ => ((fun _ _ _ => none) (some (TypeDesc.slice x2)) (CV.val (Value.slice none x3 x4)) x1)))) (fun _ _ _ _ _ => none) x0))
theorem l168_eq : ∀ x0 x1 x2 x3 x4, (Eq (l168 x0 x1 x2 x3 x4) (@eqV._sparseCasesOn_9 Addr (fun _ => t369) x0 (@dite ((fun _ _ _ => t369) (some (TypeDesc.slice x2)) (CV.val (Value.slice none x3 x4)) x1) (Eq x3 (@OfNat.ofNat Nat (nat_lit 0) (instOfNatNat (nat_lit 0)))) (instDecidableEqNat x3 (@OfNat.ofNat Nat (nat_lit 0) (instOfNatNat (nat_lit 0)))) (@Eq.ndrec_symm Nat (@OfNat.ofNat Nat (nat_lit 0) (instOfNatNat (nat_lit 0))) (fun x5 => ((fun _ _ _ => t369) (some (TypeDesc.slice x2)) (CV.val (Value.slice none x5 x4)) x1)) (@dite ((fun _ _ _ => t369) (some (TypeDesc.slice x2)) (CV.val (Value.slice none (@OfNat.ofNat Nat (nat_lit 0) (instOfNatNat (nat_lit 0))) x4)) x1) (Eq x4 (@OfNat.ofNat Nat (nat_lit 0) (instOfNatNat (nat_lit 0)))) (instDecidableEqNat x4 (@OfNat.ofNat Nat (nat_lit 0) (instOfNatNat (nat_lit 0)))) (@Eq.ndrec_symm Nat (@OfNat.ofNat Nat (nat_lit 0) (instOfNatNat (nat_lit 0))) (fun x5 => ((fun _ _ _ => t369) (some (TypeDesc.slice x2)) (CV.val (Value.slice none (@OfNat.ofNat Nat (nat_lit 0) (instOfNatNat (nat_lit 0))) x5)) x1)) (@eqV._sparseCasesOn_10 (fun x5 => ((fun _ _ _ => t369) (some (TypeDesc.slice x2)) (CV.val (Value.slice none (@OfNat.ofNat Nat (nat_lit 0) (instOfNatNat (nat_lit 0))) (@OfNat.ofNat Nat (nat_lit 0) (instOfNatNat (nat_lit 0))))) x5)) x1 (fun x5 => (@eqV._sparseCasesOn_11 (fun x6 => ((fun _ _ _ => t369) (some (TypeDesc.slice x2)) (CV.val (Value.slice none (@OfNat.ofNat Nat (nat_lit 0) (instOfNatNat (nat_lit 0))) (@OfNat.ofNat Nat (nat_lit 0) (instOfNatNat (nat_lit 0))))) (CV.val x6))) x5 (fun x6 x7 x8 => (@eqV._sparseCasesOn_9 Addr (fun x9 => ((fun _ _ _ => t369) (some (TypeDesc.slice x2)) (CV.val (Value.slice none (@OfNat.ofNat Nat (nat_lit 0) (instOfNatNat (nat_lit 0))) (@OfNat.ofNat Nat (nat_lit 0) (instOfNatNat (nat_lit 0))))) (CV.val (Value.slice x9 x7 x8)))) x6 (@dite ((fun _ _ _ => t369) (some (TypeDesc.slice x2)) (CV.val (Value.slice none (@OfNat.ofNat Nat (nat_lit 0) (instOfNatNat (nat_lit 0))) (@OfNat.ofNat Nat (nat_lit 0) (instOfNatNat (nat_lit 0))))) (CV.val (Value.slice none x7 x8))) (Eq x7 (@OfNat.ofNat Nat (nat_lit 0) (instOfNatNat (nat_lit 0)))) (instDecidableEqNat x7 (@OfNat.ofNat Nat (nat_lit 0) (instOfNatNat (nat_lit 0)))) (@Eq.ndrec_symm Nat (@OfNat.ofNat Nat (nat_lit 0) (instOfNatNat (nat_lit 0))) (fun x9 => ((fun _ _ _ => t369) (some (TypeDesc.slice x2)) (CV.val (Value.slice none (@OfNat.ofNat Nat (nat_lit 0) (instOfNatNat (nat_lit 0))) (@OfNat.ofNat Nat (nat_lit 0) (instOfNatNat (nat_lit 0))))) (CV.val (Value.slice none x9 x8)))) (@dite ((fun _ _ _ => t369) (some (TypeDesc.slice x2)) (CV.val (Value.slice none (@OfNat.ofNat Nat (nat_lit 0) (instOfNatNat (nat_lit 0))) (@OfNat.ofNat Nat (nat_lit 0) (instOfNatNat (nat_lit 0))))) (CV.val (Value.slice none (@OfNat.ofNat Nat (nat_lit 0) (instOfNatNat (nat_lit 0))) x8))) (Eq x8 (@OfNat.ofNat Nat (nat_lit 0) (instOfNatNat (nat_lit 0)))) (instDecidableEqNat x8 (@OfNat.ofNat Nat (nat_lit 0) (instOfNatNat (nat_lit 0)))) (@Eq.ndrec_symm Nat (@OfNat.ofNat Nat (nat_lit 0) (instOfNatNat (nat_lit 0))) (fun x9 => ((fun _ _ _ => t369) (some (TypeDesc.slice x2)) (CV.val (Value.slice none (@OfNat.ofNat Nat (nat_lit 0) (instOfNatNat (nat_lit 0))) (@OfNat.ofNat Nat (nat_lit 0) (instOfNatNat (nat_lit 0))))) (CV.val (Value.slice none (@OfNat.ofNat Nat (nat_lit 0) (instOfNatNat (nat_lit 0))) x9)))) ((fun _ => (some Bool.true)) x2) x8) (fun _ => ((fun _ _ _ => none) (some (TypeDesc.slice x2)) (CV.val (Value.slice none (@OfNat.ofNat Nat (nat_lit 0) (instOfNatNat (nat_lit 0))) (@OfNat.ofNat Nat (nat_lit 0) (instOfNatNat (nat_lit 0))))) (CV.val (Value.slice none (@OfNat.ofNat Nat (nat_lit 0) (instOfNatNat (nat_lit 0))) x8))))) x7) (fun _ => ((fun _ _ _ => none) (some (TypeDesc.slice x2)) (CV.val (Value.slice none (@OfNat.ofNat Nat (nat_lit 0) (instOfNatNat (nat_lit 0))) (@OfNat.ofNat Nat (nat_lit 0) (instOfNatNat (nat_lit 0))))) (CV.val (Value.slice none x7 x8))))) (fun _ => ((fun _ _ _ => none) (some (TypeDesc.slice x2)) (CV.val (Value.slice none (@OfNat.ofNat Nat (nat_lit 0) (instOfNatNat (nat_lit 0))) (@OfNat.ofNat Nat (nat_lit 0) (instOfNatNat (nat_lit 0))))) (CV.val (Value.slice x6 x7 x8)))))) (fun _ => ((fun _ _ _ => none) (some (TypeDesc.slice x2)) (CV.val (Value.slice none (@OfNat.ofNat Nat (nat_lit 0) (instOfNatNat (nat_lit 0))) (@OfNat.ofNat Nat (nat_lit 0) (instOfNatNat (nat_lit 0))))) (CV.val x5))))) (fun x5 x6 x7 x8 x9 => ((fun _ _ _ _ _ _ => (some Bool.false)) x2 x5 x6 x7 x8 x9)) (fun _ => ((fun _ _ _ => none) (some (TypeDesc.slice x2)) (CV.val (Value.slice none (@OfNat.ofNat Nat (nat_lit 0) (instOfNatNat (nat_lit 0))) (@OfNat.ofNat Nat (nat_lit 0) (instOfNatNat (nat_lit 0))))) x1))) x4) (fun _ => ((fun _ _ _ => none) (some (TypeDesc.slice x2)) (CV.val (Value.slice none (@OfNat.ofNat Nat (nat_lit 0) (instOfNatNat (nat_lit 0))) x4)) x1))) x3) (fun _ => ((fun _ _ _ => none) (some (TypeDesc.slice x2)) (CV.val (Value.slice none x3 x4)) x1))) (fun _ => none))) := by intro t; cases t <;> (intros; rfl)
abbrev t505 : Type := TypeId → t369
abbrev t506 : Type := CV → t505
abbrev t507 : Type := Value → t506
noncomputable def l169 : t507 := (fun x0 => (@Value.rec (fun _ => t506) (fun _ => PUnit.{1}) (fun _ => PUnit.{1}) (fun _ _ _ => none) (fun _ _ _ _ => none) (fun _ _ _ _ => none) (fun _ _ _ _ _ => none) (fun _ _ _ => none) (fun _ _ _ => none) (fun x1 x2 x3 x4 x5 => (l168 x1 x4 x5 x2 x3)) (fun _ _ _ => none) (fun _ _ _ => none) (fun _ _ _ _ _ _ _ => none) (fun _ _ => none) (fun _ _ _ _ _ => none) (fun _ _ => none) (fun _ _ _ _ => none) (fun _ _ _ _ => none) (fun _ _ => PUnit.unit.{1}) PUnit.unit.{1} (fun _ _ _ _ => PUnit.unit.{1}) x0))
theorem l169_eq : ∀ x0 x1 x2, (Eq (l169 x0 x1 x2) (@eqV._sparseCasesOn_11 (fun _ => t369) x0 (fun x3 x4 x5 => (l168 x3 x1 x2 x4 x5)) (fun _ => none))) := by intro t; cases t <;> (intros; rfl)
abbrev t508 : Type := Nat → t501
abbrev t509 : Type := t164 → t508
abbrev t510 : Type := Nat → t509
abbrev t511 : Type := Nat → t510
abbrev t512 : Type := Nat → t511
abbrev t513 : Type := TypeId → t512
abbrev t514 : Type := t497 → t513
noncomputable def l170 : t514 := (fun x0 => (@Option.rec Addr (fun _ => t513) (fun x1 x2 x3 x4 x5 x6 x7 x8 => (@dite ((fun _ _ _ => t369) (some (TypeDesc.slice x1)) (CV.sl x2 x3 x4 x5 x6) (CV.val (Value.slice none x7 x8))) (Eq x7 (@OfNat.ofNat Nat (nat_lit 0) (instOfNatNat (nat_lit 0)))) (instDecidableEqNat x7 (@OfNat.ofNat Nat (nat_lit 0) (instOfNatNat (nat_lit 0)))) (@Eq.ndrec_symm Nat (@OfNat.ofNat Nat (nat_lit 0) (instOfNatNat (nat_lit 0))) (fun x9 => ((fun _ _ _ => t369) (some (TypeDesc.slice x1)) (CV.sl x2 x3 x4 x5 x6) (CV.val (Value.slice none x9 x8)))) (@dite ((fun _ _ _ => t369) (some (TypeDesc.slice x1)) (CV.sl x2 x3 x4 x5 x6) (CV.val (Value.slice none (@OfNat.ofNat Nat (nat_lit 0) (instOfNatNat (nat_lit 0))) x8))) (Eq x8 (@OfNat.ofNat Nat (nat_lit 0) (instOfNatNat (nat_lit 0)))) (instDecidableEqNat x8 (@OfNat.ofNat Nat (nat_lit 0) (instOfNatNat (nat_lit 0)))) (@Eq.ndrec_symm Nat (@OfNat.ofNat Nat (nat_lit 0) (instOfNatNat (nat_lit 0))) (fun x9 => ((fun _ _ _ => t369) (some (TypeDesc.slice x1)) (CV.sl x2 x3 x4 x5 x6) (CV.val (Value.slice none (@OfNat.ofNat Nat (nat_lit 0) (instOfNatNat (nat_lit 0))) x9)))) ((fun _ _ _ _ _ _ => (some Bool.false)) x1 x2 x3 x4 x5 x6) x8) (fun _ => ((fun _ _ _ => none) (some (TypeDesc.slice x1)) (CV.sl x2 x3 x4 x5 x6) (CV.val (Value.slice none (@OfNat.ofNat Nat (nat_lit 0) (instOfNatNat (nat_lit 0))) x8))))) x7) (fun _ => ((fun _ _ _ => none) (some (TypeDesc.slice x1)) (CV.sl x2 x3 x4 x5 x6) (CV.val (Value.slice none x7 x8)))))) (fun _ _ _ _ _ _ _ _ _ => none) x0))
theorem l170_eq : ∀ x0 x1 x2 x3 x4 x5 x6 x7 x8, (Eq (l170 x0 x1 x2 x3 x4 x5 x6 x7 x8) (@eqV._sparseCasesOn_9 Addr (fun _ => t369) x0 (@dite ((fun _ _ _ => t369) (some (TypeDesc.slice x1)) (CV.sl x2 x3 x4 x5 x6) (CV.val (Value.slice none x7 x8))) (Eq x7 (@OfNat.ofNat Nat (nat_lit 0) (instOfNatNat (nat_lit 0)))) (instDecidableEqNat x7 (@OfNat.ofNat Nat (nat_lit 0) (instOfNatNat (nat_lit 0)))) (@Eq.ndrec_symm Nat (@OfNat.ofNat Nat (nat_lit 0) (instOfNatNat (nat_lit 0))) (fun x9 => ((fun _ _ _ => t369) (some (TypeDesc.slice x1)) (CV.sl x2 x3 x4 x5 x6) (CV.val (Value.slice none x9 x8)))) (@dite ((fun _ _ _ => t369) (some (TypeDesc.slice x1)) (CV.sl x2 x3 x4 x5 x6) (CV.val (Value.slice none (@OfNat.ofNat Nat (nat_lit 0) (instOfNatNat (nat_lit 0))) x8))) (Eq x8 (@OfNat.ofNat Nat (nat_lit 0) (instOfNatNat (nat_lit 0)))) (instDecidableEqNat x8 (@OfNat.ofNat Nat (nat_lit 0) (instOfNatNat (nat_lit 0)))) (@Eq.ndrec_symm Nat (@OfNat.ofNat Nat (nat_lit 0) (instOfNatNat (nat_lit 0))) (fun x9 => ((fun _ _ _ => t369) (some (TypeDesc.slice x1)) (CV.sl x2 x3 x4 x5 x6) (CV.val (Value.slice none (@OfNat.ofNat Nat (nat_lit 0) (instOfNatNat (nat_lit 0))) x9)))) ((fun _ _ _ _ _ _ => (some Bool.false)) x1 x2 x3 x4 x5 x6) x8) (fun _ => ((fun _ _ _ => none) (some (TypeDesc.slice x1)) (CV.sl x2 x3 x4 x5 x6) (CV.val (Value.slice none (@OfNat.ofNat Nat (nat_lit 0) (instOfNatNat (nat_lit 0))) x8))))) x7) (fun _ => ((fun _ _ _ => none) (some (TypeDesc.slice x1)) (CV.sl x2 x3 x4 x5 x6) (CV.val (Value.slice none x7 x8))))) (fun _ => none))) := by intro t; cases t <;> (intros; rfl)
abbrev t515 : Type := t164 → t500
abbrev t516 : Type := Nat → t515
abbrev t517 : Type := Nat → t516
abbrev t518 : Type := Nat → t517
abbrev t519 : Type := TypeId → t518
abbrev t520 : Type := Value → t519
noncomputable def l171 : t520 := (fun x0 => (@Value.rec (fun _ => t519) (fun _ => PUnit.{1}) (fun _ => PUnit.{1}) (fun _ _ _ _ _ _ _ => none) (fun _ _ _ _ _ _ _ _ => none) (fun _ _ _ _ _ _ _ _ => none) (fun _ _ _ _ _ _ _ _ _ => none) (fun _ _ _ _ _ _ _ => none) (fun _ _ _ _ _ _ _ => none) (fun x1 x2 x3 x4 x5 x6 x7 x8 x9 => (l170 x1 x4 x5 x6 x7 x8 x9 x2 x3)) (fun _ _ _ _ _ _ _ => none) (fun _ _ _ _ _ _ _ => none) (fun _ _ _ _ _ _ _ _ _ _ _ => none) (fun _ _ _ _ _ _ => none) (fun _ _ _ _ _ _ _ _ _ => none) (fun _ _ _ _ _ _ => none) (fun _ _ _ _ _ _ _ _ => none) (fun _ _ _ _ _ _ _ _ => none) (fun _ _ => PUnit.unit.{1}) PUnit.unit.{1} (fun _ _ _ _ => PUnit.unit.{1}) x0))
theorem l171_eq : ∀ x0 x1 x2 x3 x4 x5 x6, (Eq (l171 x0 x1 x2 x3 x4 x5 x6) (@eqV._sparseCasesOn_11 (fun _ => t369) x0 (fun x7 x8 x9 => (l170 x7 x1 x2 x3 x4 x5 x6 x8 x9)) (fun _ => none))) := by intro t; cases t <;> (intros; rfl)
abbrev t521 : Type := CV → t519
noncomputable def l172 : t521 := (fun x0 => (@CV.rec (fun _ => t519) (fun _ => PUnit.{1}) (fun _ _ _ _ _ _ => none) (fun x1 x2 x3 x4 x5 x6 x7 => (l171 x1 x2 x3 x4 x5 x6 x7)) (fun _ _ _ _ _ _ _ _ => none) (fun _ _ _ _ _ _ _ _ _ _ _ => none) (fun _ _ _ _ _ _ => none) (fun _ _ _ _ _ _ _ => none) (fun _ _ _ _ _ _ _ _ => none) (fun _ _ _ _ _ _ _ _ => none) (fun _ _ _ _ _ _ _ _ _ _ _ => none) (fun _ _ _ _ _ _ _ => none) (fun _ _ _ _ _ _ _ _ _ => none) PUnit.unit.{1} (fun _ _ _ _ => PUnit.unit.{1}) x0))
theorem l172_eq : ∀ x0 x1 x2 x3 x4 x5 x6, (Eq (l172 x0 x1 x2 x3 x4 x5 x6) (@eqV._sparseCasesOn_3 (fun _ => t369) x0 (fun x7 => (l171 x7 x1 x2 x3 x4 x5 x6)) (fun _ => none))) := by intro t; cases t <;> (intros; rfl)
abbrev t522 : Type := CV → t506
noncomputable def l173 : t522 := (fun x0 => (@CV.rec (fun _ => t506) (fun _ => PUnit.{1}) (fun _ _ => none) (fun x1 x2 x3 => (l169 x1 x2 x3)) (fun _ _ _ _ => none) (fun x1 x2 x3 x4 x5 x6 x7 => (l172 x6 x7 x1 x2 x3 x4 x5)) (fun _ _ => none) (fun _ _ _ => none) (fun _ _ _ _ => none) (fun _ _ _ _ => none) (fun _ _ _ _ _ _ _ => none) (fun _ _ _ => none) (fun _ _ _ _ _ => none) PUnit.unit.{1} (fun _ _ _ _ => PUnit.unit.{1}) x0))
theorem l173_eq : ∀ x0 x1 x2, (Eq (l173 x0 x1 x2) (@eqV._sparseCasesOn_10 (fun _ => t369) x0 (fun x3 => (l169 x3 x1 x2)) (fun x3 x4 x5 x6 x7 => (l172 x1 x2 x3 x4 x5 x6 x7)) (fun _ => none))) := by intro t; cases t <;> (intros; rfl)
abbrev t523 : Type := t164 → t369
noncomputable def l174 : t523 := (fun x0 => (@Option.rec Nat (fun _ => t369) (some Bool.true) (fun _ => none) x0))
theorem l174_eq : ∀ x0, (Eq (l174 x0) (@eqV._sparseCasesOn_9 Nat (fun _ => t369) x0 (some Bool.true) (fun _ => none))) := by intro t; cases t <;> (intros; rfl)
noncomputable def l175 : t370 := (fun x0 => (@Value.rec (fun _ => t369) (fun _ => PUnit.{1}) (fun _ => PUnit.{1}) (fun _ => none) (fun _ _ => none) (fun _ _ => none) (fun _ _ _ => none) (fun _ => none) (fun _ => none) (fun _ _ _ => none) (fun x1 => (l174 x1)) (fun _ => none) (fun _ _ _ _ _ => none) none (fun _ _ _ => none) none (fun _ _ => none) (fun _ _ => none) (fun _ _ => PUnit.unit.{1}) PUnit.unit.{1} (fun _ _ _ _ => PUnit.unit.{1}) x0))
theorem l175_eq : ∀ x0, (Eq (l175 x0) (@eqV._sparseCasesOn_13 (fun _ => t369) x0 (fun x1 => (l174 x1)) (fun _ => none))) := by intro t; cases t <;> (intros; rfl)
noncomputable def l176 : t371 := (fun x0 => (@CV.rec (fun _ => t369) (fun _ => PUnit.{1}) none (fun x1 => (l175 x1)) (fun _ _ => none) (fun _ _ _ _ _ => none) none (fun _ => none) (fun _ _ => none) (fun _ _ => none) (fun _ _ _ _ _ => none) (fun _ => none) (fun _ _ _ => none) PUnit.unit.{1} (fun _ _ _ _ => PUnit.unit.{1}) x0))
theorem l176_eq : ∀ x0, (Eq (l176 x0) (@eqV._sparseCasesOn_3 (fun _ => t369) x0 (fun x1 => (l175 x1)) (fun _ => none))) := by intro t; cases t <;> (intros; rfl)
abbrev t524 : Type := t164 → t371
noncomputable def l177 : t524 := (fun x0 => (@Option.rec Nat (fun _ => t371) (fun x1 => (l176 x1)) (fun _ _ => none) x0))
theorem l177_eq : ∀ x0 x1, (Eq (l177 x0 x1) (@eqV._sparseCasesOn_9 Nat (fun _ => t369) x0 (l176 x1) (fun _ => none))) := by intro t; cases t <;> (intros; rfl)
noncomputable def l178 : t492 := (fun x0 => (@Value.rec (fun _ => t371) (fun _ => PUnit.{1}) (fun _ => PUnit.{1}) (fun _ _ => none) (fun _ _ _ => none) (fun _ _ _ => none) (fun _ _ _ _ => none) (fun _ _ => none) (fun _ _ => none) (fun _ _ _ _ => none) (fun x1 x2 => (l177 x1 x2)) (fun _ _ => none) (fun _ _ _ _ _ _ => none) (fun _ => none) (fun _ _ _ _ => none) (fun _ => none) (fun _ _ _ => none) (fun _ _ _ => none) (fun _ _ => PUnit.unit.{1}) PUnit.unit.{1} (fun _ _ _ _ => PUnit.unit.{1}) x0))
theorem l178_eq : ∀ x0 x1, (Eq (l178 x0 x1) (@eqV._sparseCasesOn_13 (fun _ => t369) x0 (fun x2 => (l177 x2 x1)) (fun _ => none))) := by intro t; cases t <;> (intros; rfl)
noncomputable def l179 : t523 := (fun x0 => (@Option.rec Nat (fun _ => t369) (some Bool.false) (fun _ => none) x0))
theorem l179_eq : ∀ x0, (Eq (l179 x0) (@eqV._sparseCasesOn_9 Nat (fun _ => t369) x0 (some Bool.false) (fun _ => none))) := by intro t; cases t <;> (intros; rfl)
noncomputable def l180 : t370 := (fun x0 => (@Value.rec (fun _ => t369) (fun _ => PUnit.{1}) (fun _ => PUnit.{1}) (fun _ => none) (fun _ _ => none) (fun _ _ => none) (fun _ _ _ => none) (fun _ => none) (fun _ => none) (fun _ _ _ => none) (fun x1 => (l179 x1)) (fun _ => none) (fun _ _ _ _ _ => none) none (fun _ _ _ => none) none (fun _ _ => none) (fun _ _ => none) (fun _ _ => PUnit.unit.{1}) PUnit.unit.{1} (fun _ _ _ _ => PUnit.unit.{1}) x0))
theorem l180_eq : ∀ x0, (Eq (l180 x0) (@eqV._sparseCasesOn_13 (fun _ => t369) x0 (fun x1 => (l179 x1)) (fun _ => none))) := by intro t; cases t <;> (intros; rfl)
noncomputable def l181 : t371 := (fun x0 => (@CV.rec (fun _ => t369) (fun _ => PUnit.{1}) none (fun x1 => (l180 x1)) (fun _ _ => none) (fun _ _ _ _ _ => none) none (fun _ => none) (fun _ _ => none) (fun _ _ => none) (fun _ _ _ _ _ => none) (fun _ => none) (fun _ _ _ => none) PUnit.unit.{1} (fun _ _ _ _ => PUnit.unit.{1}) x0))
theorem l181_eq : ∀ x0, (Eq (l181 x0) (@eqV._sparseCasesOn_3 (fun _ => t369) x0 (fun x1 => (l180 x1)) (fun _ => none))) := by intro t; cases t <;> (intros; rfl)
noncomputable def l182 : t417 := (fun x0 => (@CV.rec (fun _ => t371) (fun _ => PUnit.{1}) (fun _ => none) (fun x1 x2 => (l178 x1 x2)) (fun _ _ _ => none) (fun _ _ _ _ _ _ => none) (fun _ => none) (fun _ x2 => (l181 x2)) (fun _ _ _ => none) (fun _ _ _ => none) (fun _ _ _ _ _ _ => none) (fun _ _ => none) (fun _ _ _ _ => none) PUnit.unit.{1} (fun _ _ _ _ => PUnit.unit.{1}) x0))
theorem l182_eq : ∀ x0 x1, (Eq (l182 x0 x1) (@eqV._sparseCasesOn_12 (fun _ => t369) x0 (fun x2 => (l178 x2 x1)) (fun _ => (l181 x1)) (fun _ => none))) := by intro t; cases t <;> (intros; rfl)
noncomputable def l183 : t370 := (fun x0 => (@Value.rec (fun _ => t369) (fun _ => PUnit.{1}) (fun _ => PUnit.{1}) (fun _ => none) (fun _ _ => none) (fun _ _ => none) (fun _ _ _ => none) (fun _ => none) (fun _ => none) (fun _ _ _ => none) (fun _ => none) (fun _ => none) (fun _ _ _ _ _ => none) (some Bool.false) (fun _ _ _ => none) none (fun _ _ => none) (fun _ _ => none) (fun _ _ => PUnit.unit.{1}) PUnit.unit.{1} (fun _ _ _ _ => PUnit.unit.{1}) x0))
theorem l183_eq : ∀ x0, (Eq (l183 x0) (@eqV._sparseCasesOn_15 (fun _ => t369) x0 (some Bool.false) (fun _ => none))) := by intro t; cases t <;> (intros; rfl)
noncomputable def l184 : t371 := (fun x0 => (@CV.rec (fun _ => t369) (fun _ => PUnit.{1}) none (fun x1 => (l183 x1)) (fun _ _ => none) (fun _ _ _ _ _ => none) none (fun _ => none) (fun _ _ => none) (fun _ _ => none) (fun _ _ _ _ _ => none) (fun _ => none) (fun _ _ _ => none) PUnit.unit.{1} (fun _ _ _ _ => PUnit.unit.{1}) x0))
theorem l184_eq : ∀ x0, (Eq (l184 x0) (@eqV._sparseCasesOn_3 (fun _ => t369) x0 (fun x1 => (l183 x1)) (fun _ => none))) := by intro t; cases t <;> (intros; rfl)
noncomputable def l185 : t370 := (fun x0 => (@Value.rec (fun _ => t369) (fun _ => PUnit.{1}) (fun _ => PUnit.{1}) (fun _ => none) (fun _ _ => none) (fun _ _ => none) (fun _ _ _ => none) (fun _ => none) (fun _ => none) (fun _ _ _ => none) (fun _ => none) (fun _ => none) (fun _ _ _ _ _ => none) (some Bool.true) (fun _ _ _ => none) none (fun _ _ => none) (fun _ _ => none) (fun _ _ => PUnit.unit.{1}) PUnit.unit.{1} (fun _ _ _ _ => PUnit.unit.{1}) x0))
theorem l185_eq : ∀ x0, (Eq (l185 x0) (@eqV._sparseCasesOn_15 (fun _ => t369) x0 (some Bool.true) (fun _ => none))) := by intro t; cases t <;> (intros; rfl)
noncomputable def l186 : t371 := (fun x0 => (@CV.rec (fun _ => t369) (fun _ => PUnit.{1}) none (fun x1 => (l185 x1)) (fun _ _ => none) (fun _ _ _ _ _ => none) none (fun _ => none) (fun _ _ => none) (fun _ _ => none) (fun _ _ _ _ _ => none) (fun _ => none) (fun _ _ _ => none) PUnit.unit.{1} (fun _ _ _ _ => PUnit.unit.{1}) x0))
theorem l186_eq : ∀ x0, (Eq (l186 x0) (@eqV._sparseCasesOn_3 (fun _ => t369) x0 (fun x1 => (l185 x1)) (fun _ => none))) := by intro t; cases t <;> (intros; rfl)
noncomputable def l187 : t492 := (fun x0 => (@Value.rec (fun _ => t371) (fun _ => PUnit.{1}) (fun _ => PUnit.{1}) (fun _ _ => none) (fun _ _ _ => none) (fun _ _ _ => none) (fun _ _ _ _ => none) (fun _ _ => none) (fun _ _ => none) (fun _ _ _ _ => none) (fun _ _ => none) (fun _ _ => none) (fun _ _ _ _ _ _ => none) (fun x1 => (l186 x1)) (fun _ _ _ _ => none) (fun _ => none) (fun _ _ _ => none) (fun _ _ _ => none) (fun _ _ => PUnit.unit.{1}) PUnit.unit.{1} (fun _ _ _ _ => PUnit.unit.{1}) x0))
theorem l187_eq : ∀ x0 x1, (Eq (l187 x0 x1) (@eqV._sparseCasesOn_15 (fun _ => t369) x0 (l186 x1) (fun _ => none))) := by intro t; cases t <;> (intros; rfl)
noncomputable def l188 : t417 := (fun x0 => (@CV.rec (fun _ => t371) (fun _ => PUnit.{1}) (fun _ => none) (fun x1 x2 => (l187 x1 x2)) (fun _ _ _ => none) (fun _ _ _ _ _ _ => none) (fun _ => none) (fun _ _ => none) (fun _ _ _ => none) (fun _ _ _ => none) (fun _ _ _ _ _ x6 => (l184 x6)) (fun _ _ => none) (fun _ _ _ _ => none) PUnit.unit.{1} (fun _ _ _ _ => PUnit.unit.{1}) x0))
theorem l188_eq : ∀ x0 x1, (Eq (l188 x0 x1) (@eqV._sparseCasesOn_14 (fun _ => t369) x0 (fun _ _ _ => (l184 x1)) (fun x2 => (l187 x2 x1)) (fun _ => none))) := by intro t; cases t <;> (intros; rfl)
noncomputable def l189 : t370 := (fun x0 => (@Value.rec (fun _ => t369) (fun _ => PUnit.{1}) (fun _ => PUnit.{1}) (fun _ => none) (fun _ _ => none) (fun _ _ => none) (fun _ _ _ => none) (fun _ => none) (fun _ => none) (fun _ _ _ => none) (fun _ => none) (fun _ => none) (fun _ _ _ _ _ => none) none (fun _ _ _ => none) (some Bool.true) (fun _ _ => none) (fun _ _ => none) (fun _ _ => PUnit.unit.{1}) PUnit.unit.{1} (fun _ _ _ _ => PUnit.unit.{1}) x0))
theorem l189_eq : ∀ x0, (Eq (l189 x0) (@eqV._sparseCasesOn_17 (fun _ => t369) x0 (some Bool.true) (fun _ => none))) := by intro t; cases t <;> (intros; rfl)
noncomputable def l190 : t371 := (fun x0 => (@CV.rec (fun _ => t369) (fun _ => PUnit.{1}) none (fun x1 => (l189 x1)) (fun _ _ => none) (fun _ _ _ _ _ => none) none (fun _ => none) (fun _ _ => none) (fun _ _ => none) (fun _ _ _ _ _ => none) (fun _ => none) (fun _ _ _ => (some Bool.false)) PUnit.unit.{1} (fun _ _ _ _ => PUnit.unit.{1}) x0))
theorem l190_eq : ∀ x0, (Eq (l190 x0) (@eqV._sparseCasesOn_16 (fun _ => t369) x0 (fun x1 => (l189 x1)) (fun _ _ => (some Bool.false)) (fun _ => none))) := by intro t; cases t <;> (intros; rfl)
noncomputable def l191 : t492 := (fun x0 => (@Value.rec (fun _ => t371) (fun _ => PUnit.{1}) (fun _ => PUnit.{1}) (fun _ _ => none) (fun _ _ _ => none) (fun _ _ _ => none) (fun _ _ _ _ => none) (fun _ _ => none) (fun _ _ => none) (fun _ _ _ _ => none) (fun _ _ => none) (fun _ _ => none) (fun _ _ _ _ _ _ => none) (fun _ => none) (fun _ _ _ _ => none) (fun x1 => (l190 x1)) (fun _ _ _ => none) (fun _ _ _ => none) (fun _ _ => PUnit.unit.{1}) PUnit.unit.{1} (fun _ _ _ _ => PUnit.unit.{1}) x0))
theorem l191_eq : ∀ x0 x1, (Eq (l191 x0 x1) (@eqV._sparseCasesOn_17 (fun _ => t369) x0 (l190 x1) (fun _ => none))) := by intro t; cases t <;> (intros; rfl)
noncomputable def l192 : t370 := (fun x0 => (@Value.rec (fun _ => t369) (fun _ => PUnit.{1}) (fun _ => PUnit.{1}) (fun _ => none) (fun _ _ => none) (fun _ _ => none) (fun _ _ _ => none) (fun _ => none) (fun _ => none) (fun _ _ _ => none) (fun _ => none) (fun _ => none) (fun _ _ _ _ _ => none) none (fun _ _ _ => none) (some Bool.false) (fun _ _ => none) (fun _ _ => none) (fun _ _ => PUnit.unit.{1}) PUnit.unit.{1} (fun _ _ _ _ => PUnit.unit.{1}) x0))
theorem l192_eq : ∀ x0, (Eq (l192 x0) (@eqV._sparseCasesOn_17 (fun _ => t369) x0 (some Bool.false) (fun _ => none))) := by intro t; cases t <;> (intros; rfl)
noncomputable def l193 : t371 := (fun x0 => (@CV.rec (fun _ => t369) (fun _ => PUnit.{1}) none (fun x1 => (l192 x1)) (fun _ _ => none) (fun _ _ _ _ _ => none) none (fun _ => none) (fun _ _ => none) (fun _ _ => none) (fun _ _ _ _ _ => none) (fun _ => none) (fun _ _ _ => none) PUnit.unit.{1} (fun _ _ _ _ => PUnit.unit.{1}) x0))
theorem l193_eq : ∀ x0, (Eq (l193 x0) (@eqV._sparseCasesOn_3 (fun _ => t369) x0 (fun x1 => (l192 x1)) (fun _ => none))) := by intro t; cases t <;> (intros; rfl)
noncomputable def l194 : t417 := (fun x0 => (@CV.rec (fun _ => t371) (fun _ => PUnit.{1}) (fun _ => none) (fun x1 x2 => (l191 x1 x2)) (fun _ _ _ => none) (fun _ _ _ _ _ _ => none) (fun _ => none) (fun _ _ => none) (fun _ _ _ => none) (fun _ _ _ => none) (fun _ _ _ _ _ _ => none) (fun _ _ => none) (fun _ _ _ x4 => (l193 x4)) PUnit.unit.{1} (fun _ _ _ _ => PUnit.unit.{1}) x0))
theorem l194_eq : ∀ x0 x1, (Eq (l194 x0 x1) (@eqV._sparseCasesOn_16 (fun _ => t369) x0 (fun x2 => (l191 x2 x1)) (fun _ _ => (l193 x1)) (fun _ => none))) := by intro t; cases t <;> (intros; rfl)
abbrev t525 : Type := TypeDesc → t417
noncomputable def l195 : t525 := (fun x0 => (@TypeDesc.rec (fun _ => t417) (fun _ _ => none) (fun x1 x2 => (l150 x1 x2)) (fun _ x2 x3 => (l154 x2 x3)) (fun _ _ _ => none) (fun _ _ _ => none) (fun x1 x2 => (l158 x1 x2)) (fun _ _ => none) (fun _ x2 x3 => (l167 x2 x3)) (fun x1 x2 x3 => (l173 x2 x3 x1)) (fun _ _ _ _ => none) (fun _ _ x3 x4 => (l182 x3 x4)) (fun _ _ _ _ => none) (fun _ _ _ => none) (fun _ _ _ x4 x5 => (l188 x4 x5)) (fun _ x2 x3 => (l194 x2 x3)) (fun _ _ _ => none) (fun _ _ _ _ => none) x0))
theorem l195_eq : ∀ x0 x1 x2, (Eq (l195 x0 x1 x2) (@eqV._sparseCasesOn_2 (fun _ => t369) x0 (l150 x1 x2) (fun _ => (l154 x1 x2)) (l158 x1 x2) (fun _ => (l167 x1 x2)) (fun x3 => (l173 x1 x2 x3)) (fun _ _ => (l182 x1 x2)) (fun _ _ _ => (l188 x1 x2)) (fun _ => (l194 x1 x2)) (fun _ => none))) := by intro t; cases t <;> (intros; rfl)
abbrev t526 : Type := t336 → t417
noncomputable def l196 : t526 := (fun x0 => (@Option.rec TypeDesc (fun _ => t417) (fun _ _ => none) (fun x1 x2 x3 => (l195 x1 x2 x3)) x0))
theorem l196_eq : ∀ x0 x1 x2, (Eq (l196 x0 x1 x2) (@eqV._sparseCasesOn_1 TypeDesc (fun _ => t369) x0 (fun x3 => (l195 x3 x1 x2)) (fun _ => none))) := by intro t; cases t <;> (intros; rfl)
abbrev t527 : Type := TypeId → t417
abbrev t528 : Type := Program → t527
noncomputable def k_eqV : t528 := (fun x0 x1 x2 x3 => (l196 (Program.underlying x0 x1) x2 x3))
theorem k_eqV_eq : @k_eqV = eqV := by
  delta k_eqV eqV
  simp only [l158_eq, l160_eq, l149_eq, l179_eq, l161_eq, l162_eq, l191_eq, l148_eq, l182_eq, l159_eq, l153_eq, l174_eq, l150_eq, l157_eq, l166_eq, l196_eq, l186_eq, l147_eq, l163_eq, l192_eq, l195_eq, l152_eq, l185_eq, l175_eq, l167_eq, l165_eq, l187_eq, l154_eq, l193_eq, l156_eq, l184_eq, l171_eq, l188_eq, l169_eq, l190_eq, l155_eq, l173_eq, l170_eq, l183_eq, l178_eq, l194_eq, l168_eq, l180_eq, l164_eq, l177_eq, l176_eq, l189_eq, l151_eq, l181_eq, l172_eq]
  rw [k_kEq_eq, k_iEq_eq, k_bytesEq_eq]
  all_goals kernel_rfl

abbrev t529 : Type := TypeId → t428
abbrev t530 : Type := Program → t529
abbrev t531 : Type := BinOp → t530
noncomputable def l146 : t531 := (fun x0 => (@BinOp.rec (fun _ => t530) (fun _ _ _ _ _ => none) (fun _ _ _ _ _ => none) (fun _ _ _ _ _ => none) (fun _ _ _ _ _ => none) (fun _ _ _ _ _ => none) (fun _ _ _ _ _ => none) (fun _ _ _ _ _ => none) (fun _ _ _ _ _ => none) (fun _ _ _ _ _ => none) (fun _ _ _ _ _ => none) (fun _ _ _ _ _ => none) (fun x1 x2 x3 x4 x5 => (@Option.rec Bool (fun _ => t4) none (fun x6 => ((fun x7 => (k_retB x5 x7)) x6)) (k_eqV x1 x2 x3 x4))) (fun x1 x2 x3 x4 x5 => (@Option.rec Bool (fun _ => t4) none (fun x6 => ((fun x7 => (k_retB x5 (@Bool.rec (fun _ => Bool) Bool.true Bool.false x7))) x6)) (k_eqV x1 x2 x3 x4))) (fun _ _ _ _ _ => none) (fun _ _ _ _ _ => none) (fun _ _ _ _ _ => none) (fun _ _ _ _ _ => none) x0))
theorem l146_eq : ∀ x0 x1 x2 x3 x4 x5, (Eq (l146 x0 x1 x2 x3 x4 x5) (@binS._sparseCasesOn_1 (fun _ => t4) x0 (@Option.rec Bool (fun _ => t4) none (fun x6 => ((fun x7 => (k_retB x5 x7)) x6)) (k_eqV x1 x2 x3 x4)) (@Option.rec Bool (fun _ => t4) none (fun x6 => ((fun x7 => (k_retB x5 (@Bool.rec (fun _ => Bool) Bool.true Bool.false x7))) x6)) (k_eqV x1 x2 x3 x4)) (fun _ => none))) := by intro t; cases t <;> (intros; rfl)
noncomputable def l197 : t1 := (fun x0 => (@Value.rec (fun _ => Bool) (fun _ => PUnit.{1}) (fun _ => PUnit.{1}) (fun _ => Bool.false) (fun _ _ => Bool.false) (fun _ _ => Bool.false) (fun _ _ _ => Bool.false) (fun _ => Bool.false) (fun _ => Bool.false) (fun _ _ _ => Bool.false) (fun _ => Bool.false) (fun _ => Bool.false) (fun _ _ _ _ _ => Bool.false) Bool.false (fun _ _ _ => Bool.false) Bool.true (fun _ _ => Bool.false) (fun _ _ => Bool.false) (fun _ _ => PUnit.unit.{1}) PUnit.unit.{1} (fun _ _ _ _ => PUnit.unit.{1}) x0))
theorem l197_eq : ∀ x0, (Eq (l197 x0) (@bothNil._sparseCasesOn_1 (fun _ => Bool) x0 Bool.true (fun _ => Bool.false))) := by intro t; cases t <;> (intros; rfl)
noncomputable def l198 : t2 := (fun x0 => (@CV.rec (fun _ => Bool) (fun _ => PUnit.{1}) Bool.false (fun x1 => (l197 x1)) (fun _ _ => Bool.false) (fun _ _ _ _ _ => Bool.false) Bool.false (fun _ => Bool.false) (fun _ _ => Bool.false) (fun _ _ => Bool.false) (fun _ _ _ _ _ => Bool.false) (fun _ => Bool.false) (fun _ _ _ => Bool.false) PUnit.unit.{1} (fun _ _ _ _ => PUnit.unit.{1}) x0))
theorem l198_eq : ∀ x0, (Eq (l198 x0) (@natOf._sparseCasesOn_1 (fun _ => Bool) x0 (fun x1 => (l197 x1)) (fun _ => Bool.false))) := by intro t; cases t <;> (intros; rfl)
abbrev t532 : Type := Value → t2
noncomputable def l199 : t532 := (fun x0 => (@Value.rec (fun _ => t2) (fun _ => PUnit.{1}) (fun _ => PUnit.{1}) (fun _ _ => Bool.false) (fun _ _ _ => Bool.false) (fun _ _ _ => Bool.false) (fun _ _ _ _ => Bool.false) (fun _ _ => Bool.false) (fun _ _ => Bool.false) (fun _ _ _ _ => Bool.false) (fun _ _ => Bool.false) (fun _ _ => Bool.false) (fun _ _ _ _ _ _ => Bool.false) (fun _ => Bool.false) (fun _ _ _ _ => Bool.false) (fun x1 => (l198 x1)) (fun _ _ _ => Bool.false) (fun _ _ _ => Bool.false) (fun _ _ => PUnit.unit.{1}) PUnit.unit.{1} (fun _ _ _ _ => PUnit.unit.{1}) x0))
theorem l199_eq : ∀ x0 x1, (Eq (l199 x0 x1) (@bothNil._sparseCasesOn_1 (fun _ => Bool) x0 (l198 x1) (fun _ => Bool.false))) := by intro t; cases t <;> (intros; rfl)
abbrev t533 : Type := CV → t2
noncomputable def l200 : t533 := (fun x0 => (@CV.rec (fun _ => t2) (fun _ => PUnit.{1}) (fun _ => Bool.false) (fun x1 x2 => (l199 x1 x2)) (fun _ _ _ => Bool.false) (fun _ _ _ _ _ _ => Bool.false) (fun _ => Bool.false) (fun _ _ => Bool.false) (fun _ _ _ => Bool.false) (fun _ _ _ => Bool.false) (fun _ _ _ _ _ _ => Bool.false) (fun _ _ => Bool.false) (fun _ _ _ _ => Bool.false) PUnit.unit.{1} (fun _ _ _ _ => PUnit.unit.{1}) x0))
theorem l200_eq : ∀ x0 x1, (Eq (l200 x0 x1) (@natOf._sparseCasesOn_1 (fun _ => Bool) x0 (fun x2 => (l199 x2 x1)) (fun _ => Bool.false))) := by intro t; cases t <;> (intros; rfl)
noncomputable def k_bothNil : t533 := (fun x0 x1 => (l200 x0 x1))
theorem k_bothNil_eq : @k_bothNil = bothNil := by
  delta k_bothNil bothNil
  simp only [l199_eq, l198_eq, l200_eq, l197_eq]
  all_goals kernel_rfl

abbrev t534 : Type := BinOp → t529
abbrev t535 : Type := Bool → t534
abbrev t536 : Type := Program → t535
noncomputable def k_binO : t536 := (fun x0 x1 x2 x3 x4 x5 x6 => (k_ifT_Ret (@Bool.rec (fun _ => Bool) (@Bool.rec (fun _ => Bool) Bool.true Bool.false (k_bothNil x4 x5)) Bool.true x1) (l146 x2 x0 x3 x4 x5 x6)))
theorem k_binO_eq : @k_binO = binO := by
  delta k_binO binO
  simp only [l146_eq]
  rw [k_ifT_Ret_eq, k_bothNil_eq, k_eqV_eq, k_retB_eq]
  all_goals kernel_rfl

noncomputable def l145 : t536 := (fun x0 x1 x2 x3 x4 x5 x6 => (k_binO x0 x1 x2 x3 x4 x5 x6))
theorem l145_eq : ∀ x0 x1 x2 x3 x4 x5 x6, (Eq (l145 x0 x1 x2 x3 x4 x5 x6) (k_binO x0 x1 x2 x3 x4 x5 x6)) := by intros; rfl
abbrev t537 : Type := Value → t4
abbrev t538 : Type := S → t537
abbrev t539 : Type := CV → t538
abbrev t540 : Type := TypeId → t539
abbrev t541 : Type := BinOp → t540
abbrev t542 : Type := Bool → t541
abbrev t543 : Type := Program → t542
noncomputable def l201 : t543 := (fun x0 x1 x2 x3 x4 x5 x6 => (k_binO x0 x1 x2 x3 (CV.val x6) x4 x5))
theorem l201_eq : ∀ x0 x1 x2 x3 x4 x5 x6, (Eq (l201 x0 x1 x2 x3 x4 x5 x6) (k_binO x0 x1 x2 x3 (CV.val x6) x4 x5)) := by intros; rfl
abbrev t544 : Type := Int → t4
abbrev t545 : Type := IntKind → t544
abbrev t546 : Type := S → t545
abbrev t547 : Type := CV → t546
abbrev t548 : Type := TypeId → t547
abbrev t549 : Type := BinOp → t548
abbrev t550 : Type := Bool → t549
abbrev t551 : Type := Program → t550
noncomputable def l202 : t551 := (fun x0 x1 x2 x3 x4 x5 x6 x7 => (k_binO x0 x1 x2 x3 (CV.val (Value.int x6 x7)) x4 x5))
theorem l202_eq : ∀ x0 x1 x2 x3 x4 x5 x6 x7, (Eq (l202 x0 x1 x2 x3 x4 x5 x6 x7) (k_binO x0 x1 x2 x3 (CV.val (Value.int x6 x7)) x4 x5)) := by intros; rfl
abbrev t552 : Type := Int → t537
abbrev t553 : Type := IntKind → t552
abbrev t554 : Type := S → t553
abbrev t555 : Type := TypeId → t554
abbrev t556 : Type := BinOp → t555
abbrev t557 : Type := Bool → t556
abbrev t558 : Type := Program → t557
noncomputable def l203 : t558 := (fun x0 x1 x2 x3 x4 x5 x6 x7 => (k_binO x0 x1 x2 x3 (CV.val (Value.int x5 x6)) (CV.val x7) x4))
theorem l203_eq : ∀ x0 x1 x2 x3 x4 x5 x6 x7, (Eq (l203 x0 x1 x2 x3 x4 x5 x6 x7) (k_binO x0 x1 x2 x3 (CV.val (Value.int x5 x6)) (CV.val x7) x4)) := by intros; rfl
noncomputable def l207 : t375 := (fun x0 => (@Int.rec (fun _ => t374) (fun x1 x2 => (@Int.rec (fun _ => Bool) (fun x3 => ((fun x4 x5 => (k_Nat_blt x4 x5)) x1 x3)) (fun x3 => ((fun _ _ => Bool.false) x1 x3)) x2)) (fun x1 x2 => (@Int.rec (fun _ => Bool) (fun x3 => ((fun _ _ => Bool.true) x1 x3)) (fun x3 => ((fun x4 x5 => (k_Nat_blt x5 x4)) x1 x3)) x2)) x0))
theorem l207_eq : ∀ x0 x1, (Eq (l207 x0 x1) (@Int.rec (fun _ => Bool) (fun x2 => (@Int.rec (fun _ => Bool) (fun x3 => ((fun x4 x5 => (k_Nat_blt x4 x5)) x2 x3)) (fun x3 => ((fun _ _ => Bool.false) x2 x3)) x1)) (fun x2 => (@Int.rec (fun _ => Bool) (fun x3 => ((fun _ _ => Bool.true) x2 x3)) (fun x3 => ((fun x4 x5 => (k_Nat_blt x5 x4)) x2 x3)) x1)) x0)) := by intro t; cases t <;> (intros; rfl)
noncomputable def k_iLt : t375 := (fun x0 x1 => (l207 x0 x1))
theorem k_iLt_eq : @k_iLt = iLt := by
  delta k_iLt iLt
  simp only [l207_eq]
  rw [k_Nat_blt_eq]
  all_goals kernel_rfl

abbrev t559 : Type := Int → t383
abbrev t560 : Type := BinOp → t559
noncomputable def l206 : t560 := (fun x0 => (@BinOp.rec (fun _ => t559) (fun _ _ => none) (fun _ _ => none) (fun _ _ => none) (fun _ _ => none) (fun _ _ => none) (fun _ _ => none) (fun _ _ => none) (fun _ _ => none) (fun _ _ => none) (fun _ _ => none) (fun _ _ => none) (fun x1 x2 => (some (k_iEq x1 x2))) (fun x1 x2 => (some (@Bool.rec (fun _ => Bool) Bool.true Bool.false (k_iEq x1 x2)))) (fun x1 x2 => (some (k_iLt x1 x2))) (fun x1 x2 => (some (@Bool.rec (fun _ => Bool) Bool.true Bool.false (k_iLt x2 x1)))) (fun x1 x2 => (some (k_iLt x2 x1))) (fun x1 x2 => (some (@Bool.rec (fun _ => Bool) Bool.true Bool.false (k_iLt x1 x2)))) x0))
theorem l206_eq : ∀ x0 x1 x2, (Eq (l206 x0 x1 x2) (@cmpI'._sparseCasesOn_1 (fun _ => t369) x0 (some (k_iEq x1 x2)) (some (@Bool.rec (fun _ => Bool) Bool.true Bool.false (k_iEq x1 x2))) (some (k_iLt x1 x2)) (some (@Bool.rec (fun _ => Bool) Bool.true Bool.false (k_iLt x2 x1))) (some (k_iLt x2 x1)) (some (@Bool.rec (fun _ => Bool) Bool.true Bool.false (k_iLt x1 x2))) (fun _ => none))) := by intro t; cases t <;> (intros; rfl)
noncomputable def k_cmpI' : t560 := (fun x0 x1 x2 => (l206 x0 x1 x2))
theorem k_cmpI'_eq : @k_cmpI' = cmpI' := by
  delta k_cmpI' cmpI'
  simp only [l206_eq]
  rw [k_iLt_eq, k_iEq_eq]
  all_goals kernel_rfl

abbrev t561 : Type := Int → t8
abbrev t562 : Type := IntKind → t561
abbrev t563 : Type := Int → t562
abbrev t564 : Type := IntKind → t563
abbrev t565 : Type := BinOp → t564
noncomputable def l205 : t565 := (fun x0 x1 x2 x3 x4 x5 => (k_ifT_Ret (k_kEq x1 x3) (@Option.rec Bool (fun _ => t4) none (fun x6 => ((fun x7 => (k_retB x5 x7)) x6)) (k_cmpI' x0 x2 x4))))
theorem l205_eq : ∀ x0 x1 x2 x3 x4 x5, (Eq (l205 x0 x1 x2 x3 x4 x5) (k_ifT_Ret (k_kEq x1 x3) (@Option.rec Bool (fun _ => t4) none (fun x6 => ((fun x7 => (k_retB x5 x7)) x6)) (k_cmpI' x0 x2 x4)))) := by intros; rfl
abbrev t566 : Type := t544 → t4
abbrev t567 : Type := Int → t566
noncomputable def l209 : t567 := (fun x0 => (@Int.rec (fun _ => t566) (fun x1 x2 => ((fun x3 => (k_fN_Ret x3 (fun x4 => (x2 (Int.ofNat x4))))) x1)) (fun x1 x2 => ((fun x3 => (k_fN_Ret x3 (fun x4 => (x2 (Int.negSucc x4))))) x1)) x0))
theorem l209_eq : ∀ x0 x1, (Eq (l209 x0 x1) (@Int.rec (fun _ => t4) (fun x2 => ((fun x3 => (k_fN_Ret x3 (fun x4 => (x1 (Int.ofNat x4))))) x2)) (fun x2 => ((fun x3 => (k_fN_Ret x3 (fun x4 => (x1 (Int.negSucc x4))))) x2)) x0)) := by intro t; cases t <;> (intros; rfl)
noncomputable def k_fI_Ret : t567 := (fun x0 x1 => (l209 x0 x1))
theorem k_fI_Ret_eq : @k_fI_Ret = (@fI Ret) := by
  delta k_fI_Ret fI
  simp only [l209_eq]
  rw [k_fN_Ret_eq]
  all_goals kernel_rfl

noncomputable def k_retI : t546 := (fun x0 x1 x2 => (k_fI_Ret x2 (fun x3 => (some (Ret.ok (CV.val (Value.int x1 x3)) x0)))))
theorem k_retI_eq : @k_retI = retI := by
  delta k_retI retI
  rw [k_fI_Ret_eq]
  all_goals kernel_rfl

abbrev t568 : Type := Option Int
abbrev t569 : Type := Int → t568
abbrev t570 : Type := Int → t569
abbrev t571 : Type := BinOp → t570
noncomputable def l210 : t571 := (fun x0 => (@BinOp.rec (fun _ => t570) (fun x1 x2 => (some (Int.add x1 x2))) (fun x1 x2 => (some (Int.sub x1 x2))) (fun x1 x2 => (some (Int.mul x1 x2))) (fun _ _ => none) (fun _ _ => none) (fun _ _ => none) (fun _ _ => none) (fun _ _ => none) (fun _ _ => none) (fun _ _ => none) (fun _ _ => none) (fun _ _ => none) (fun _ _ => none) (fun _ _ => none) (fun _ _ => none) (fun _ _ => none) (fun _ _ => none) x0))
theorem l210_eq : ∀ x0 x1 x2, (Eq (l210 x0 x1 x2) (@arI._sparseCasesOn_1 (fun _ => t568) x0 (some (Int.add x1 x2)) (some (Int.sub x1 x2)) (some (Int.mul x1 x2)) (fun _ => none))) := by intro t; cases t <;> (intros; rfl)
noncomputable def k_Go_Eng_arI : t571 := (fun x0 x1 x2 => (l210 x0 x1 x2))
theorem k_Go_Eng_arI_eq : @k_Go_Eng_arI = arI := by
  delta k_Go_Eng_arI arI
  simp only [l210_eq]
  all_goals kernel_rfl

abbrev t572 : Type := BinOp → t565
noncomputable def l208 : t572 := (fun x0 => (@BinOp.rec (fun _ => t565) (fun x1 x2 x3 x4 x5 x6 => (k_ifT_Ret (k_kEq x2 x4) (@Option.rec Int (fun _ => t4) none (fun x7 => ((fun x8 => (k_retI x6 x2 (IntKind.wrap x2 x8))) x7)) (k_Go_Eng_arI x1 x3 x5)))) (fun x1 x2 x3 x4 x5 x6 => (k_ifT_Ret (k_kEq x2 x4) (@Option.rec Int (fun _ => t4) none (fun x7 => ((fun x8 => (k_retI x6 x2 (IntKind.wrap x2 x8))) x7)) (k_Go_Eng_arI x1 x3 x5)))) (fun x1 x2 x3 x4 x5 x6 => (k_ifT_Ret (k_kEq x2 x4) (@Option.rec Int (fun _ => t4) none (fun x7 => ((fun x8 => (k_retI x6 x2 (IntKind.wrap x2 x8))) x7)) (k_Go_Eng_arI x1 x3 x5)))) (fun _ x2 x3 x4 x5 x6 => (k_ifT_Ret (@Bool.rec (fun _ => Bool) Bool.false (@Bool.rec (fun _ => Bool) Bool.true Bool.false (k_iEq x5 (nat_lit 0))) (k_kEq x2 x4)) (k_retI x6 x2 (IntKind.wrap x2 (Int.tdiv x3 x5))))) (fun _ x2 x3 x4 x5 x6 => (k_ifT_Ret (@Bool.rec (fun _ => Bool) Bool.false (@Bool.rec (fun _ => Bool) Bool.true Bool.false (k_iEq x5 (nat_lit 0))) (k_kEq x2 x4)) (k_retI x6 x2 (Int.tmod x3 x5)))) (fun x1 x2 x3 x4 x5 x6 => (k_ifT_Ret (k_kEq x2 x4) (@Option.rec Int (fun _ => t4) none (fun x7 => ((fun x8 => (k_retI x6 x2 x8)) x7)) (bitI x1 x2 x3 x5)))) (fun x1 x2 x3 x4 x5 x6 => (k_ifT_Ret (k_kEq x2 x4) (@Option.rec Int (fun _ => t4) none (fun x7 => ((fun x8 => (k_retI x6 x2 x8)) x7)) (bitI x1 x2 x3 x5)))) (fun x1 x2 x3 x4 x5 x6 => (k_ifT_Ret (k_kEq x2 x4) (@Option.rec Int (fun _ => t4) none (fun x7 => ((fun x8 => (k_retI x6 x2 x8)) x7)) (bitI x1 x2 x3 x5)))) (fun x1 x2 x3 _ x5 x6 => (@Bool.rec (fun _ => t4) (@Option.rec Int (fun _ => t4) none (fun x7 => ((fun x8 => (k_retI x6 x2 x8)) x7)) (shI x1 x2 x3 x5)) none (k_iLt x5 (nat_lit 0)))) (fun x1 x2 x3 _ x5 x6 => (@Bool.rec (fun _ => t4) (@Option.rec Int (fun _ => t4) none (fun x7 => ((fun x8 => (k_retI x6 x2 x8)) x7)) (shI x1 x2 x3 x5)) none (k_iLt x5 (nat_lit 0)))) (fun x1 x2 x3 x4 x5 x6 => (k_ifT_Ret (k_kEq x2 x4) (@Option.rec Int (fun _ => t4) none (fun x7 => ((fun x8 => (k_retI x6 x2 x8)) x7)) (bitI x1 x2 x3 x5)))) (fun x1 x2 x3 x4 x5 x6 => (l205 x1 x2 x3 x4 x5 x6)) (fun x1 x2 x3 x4 x5 x6 => (l205 x1 x2 x3 x4 x5 x6)) (fun x1 x2 x3 x4 x5 x6 => (l205 x1 x2 x3 x4 x5 x6)) (fun x1 x2 x3 x4 x5 x6 => (l205 x1 x2 x3 x4 x5 x6)) (fun x1 x2 x3 x4 x5 x6 => (l205 x1 x2 x3 x4 x5 x6)) (fun x1 x2 x3 x4 x5 x6 => (l205 x1 x2 x3 x4 x5 x6)) x0))
theorem l208_eq : ∀ x0 x1 x2 x3 x4 x5 x6, (Eq (l208 x0 x1 x2 x3 x4 x5 x6) (@binI._sparseCasesOn_2 (fun _ => t4) x0 (@Bool.rec (fun _ => t4) (@Option.rec Int (fun _ => t4) none (fun x7 => ((fun x8 => (k_retI x6 x2 x8)) x7)) (shI x1 x2 x3 x5)) none (k_iLt x5 (nat_lit 0))) (@Bool.rec (fun _ => t4) (@Option.rec Int (fun _ => t4) none (fun x7 => ((fun x8 => (k_retI x6 x2 x8)) x7)) (shI x1 x2 x3 x5)) none (k_iLt x5 (nat_lit 0))) (k_ifT_Ret (@Bool.rec (fun _ => Bool) Bool.false (@Bool.rec (fun _ => Bool) Bool.true Bool.false (k_iEq x5 (nat_lit 0))) (k_kEq x2 x4)) (k_retI x6 x2 (IntKind.wrap x2 (Int.tdiv x3 x5)))) (k_ifT_Ret (@Bool.rec (fun _ => Bool) Bool.false (@Bool.rec (fun _ => Bool) Bool.true Bool.false (k_iEq x5 (nat_lit 0))) (k_kEq x2 x4)) (k_retI x6 x2 (Int.tmod x3 x5))) (k_ifT_Ret (k_kEq x2 x4) (@Option.rec Int (fun _ => t4) none (fun x7 => ((fun x8 => (k_retI x6 x2 (IntKind.wrap x2 x8))) x7)) (k_Go_Eng_arI x1 x3 x5))) (k_ifT_Ret (k_kEq x2 x4) (@Option.rec Int (fun _ => t4) none (fun x7 => ((fun x8 => (k_retI x6 x2 (IntKind.wrap x2 x8))) x7)) (k_Go_Eng_arI x1 x3 x5))) (k_ifT_Ret (k_kEq x2 x4) (@Option.rec Int (fun _ => t4) none (fun x7 => ((fun x8 => (k_retI x6 x2 (IntKind.wrap x2 x8))) x7)) (k_Go_Eng_arI x1 x3 x5))) (k_ifT_Ret (k_kEq x2 x4) (@Option.rec Int (fun _ => t4) none (fun x7 => ((fun x8 => (k_retI x6 x2 x8)) x7)) (bitI x1 x2 x3 x5))) (k_ifT_Ret (k_kEq x2 x4) (@Option.rec Int (fun _ => t4) none (fun x7 => ((fun x8 => (k_retI x6 x2 x8)) x7)) (bitI x1 x2 x3 x5))) (k_ifT_Ret (k_kEq x2 x4) (@Option.rec Int (fun _ => t4) none (fun x7 => ((fun x8 => (k_retI x6 x2 x8)) x7)) (bitI x1 x2 x3 x5))) (k_ifT_Ret (k_kEq x2 x4) (@Option.rec Int (fun _ => t4) none (fun x7 => ((fun x8 => (k_retI x6 x2 x8)) x7)) (bitI x1 x2 x3 x5))) (fun _ => (l205 x1 x2 x3 x4 x5 x6)))) := by intro t; cases t <;> (intros; rfl)
noncomputable def k_binI : t565 := (fun x0 x1 x2 x3 x4 x5 => (l208 x0 x0 x1 x2 x3 x4 x5))
theorem k_binI_eq : @k_binI = binI := by
  delta k_binI binI
  simp only [l205_eq, l208_eq]
  rw [k_ifT_Ret_eq, k_cmpI'_eq, k_retB_eq, k_kEq_eq, k_retI_eq, k_iLt_eq, k_iEq_eq, k_Go_Eng_arI_eq]
  all_goals kernel_rfl

abbrev t573 : Type := Value → t558
noncomputable def l204 : t573 := (fun x0 => (@Value.rec (fun _ => t558) (fun _ => PUnit.{1}) (fun _ => PUnit.{1}) (fun _ x2 x3 x4 x5 x6 x7 x8 x9 => (l203 x2 x3 x4 x5 x6 x7 x8 x9)) (fun x1 x2 _ _ x5 _ x7 x8 x9 _ => (k_binI x5 x8 x9 x1 x2 x7)) (fun _ _ x3 x4 x5 x6 x7 x8 x9 x10 => (l203 x3 x4 x5 x6 x7 x8 x9 x10)) (fun _ _ _ x4 x5 x6 x7 x8 x9 x10 x11 => (l203 x4 x5 x6 x7 x8 x9 x10 x11)) (fun _ x2 x3 x4 x5 x6 x7 x8 x9 => (l203 x2 x3 x4 x5 x6 x7 x8 x9)) (fun _ x2 x3 x4 x5 x6 x7 x8 x9 => (l203 x2 x3 x4 x5 x6 x7 x8 x9)) (fun _ _ _ x4 x5 x6 x7 x8 x9 x10 x11 => (l203 x4 x5 x6 x7 x8 x9 x10 x11)) (fun _ x2 x3 x4 x5 x6 x7 x8 x9 => (l203 x2 x3 x4 x5 x6 x7 x8 x9)) (fun _ x2 x3 x4 x5 x6 x7 x8 x9 => (l203 x2 x3 x4 x5 x6 x7 x8 x9)) (fun _ _ _ _ _ x6 x7 x8 x9 x10 x11 x12 x13 => (l203 x6 x7 x8 x9 x10 x11 x12 x13)) (fun x1 x2 x3 x4 x5 x6 x7 x8 => (l203 x1 x2 x3 x4 x5 x6 x7 x8)) (fun _ _ _ x4 x5 x6 x7 x8 x9 x10 x11 => (l203 x4 x5 x6 x7 x8 x9 x10 x11)) (fun x1 x2 x3 x4 x5 x6 x7 x8 => (l203 x1 x2 x3 x4 x5 x6 x7 x8)) (fun _ _ x3 x4 x5 x6 x7 x8 x9 x10 => (l203 x3 x4 x5 x6 x7 x8 x9 x10)) (fun _ _ x3 x4 x5 x6 x7 x8 x9 x10 => (l203 x3 x4 x5 x6 x7 x8 x9 x10)) (fun _ _ => PUnit.unit.{1}) PUnit.unit.{1} (fun _ _ _ _ => PUnit.unit.{1}) x0))
theorem l204_eq : ∀ x0 x1 x2 x3 x4 x5 x6 x7 x8, (Eq (l204 x0 x1 x2 x3 x4 x5 x6 x7 x8) (@natOf._sparseCasesOn_2 (fun _ => t4) x0 (fun x9 x10 => (k_binI x3 x6 x7 x9 x10 x5)) (fun _ => (l203 x1 x2 x3 x4 x5 x6 x7 x8)))) := by intro t; cases t <;> (intros; rfl)
abbrev t574 : Type := CV → t551
noncomputable def l211 : t574 := (fun x0 => (@CV.rec (fun _ => t551) (fun _ => PUnit.{1}) (fun x1 x2 x3 x4 x5 x6 x7 x8 => (l202 x1 x2 x3 x4 x5 x6 x7 x8)) (fun x1 x2 x3 x4 x5 _ x7 x8 x9 => (l204 x1 x2 x3 x4 x5 x7 x8 x9 x1)) (fun _ _ x3 x4 x5 x6 x7 x8 x9 x10 => (l202 x3 x4 x5 x6 x7 x8 x9 x10)) (fun _ _ _ _ _ x6 x7 x8 x9 x10 x11 x12 x13 => (l202 x6 x7 x8 x9 x10 x11 x12 x13)) (fun x1 x2 x3 x4 x5 x6 x7 x8 => (l202 x1 x2 x3 x4 x5 x6 x7 x8)) (fun _ x2 x3 x4 x5 x6 x7 x8 x9 => (l202 x2 x3 x4 x5 x6 x7 x8 x9)) (fun _ _ x3 x4 x5 x6 x7 x8 x9 x10 => (l202 x3 x4 x5 x6 x7 x8 x9 x10)) (fun _ _ x3 x4 x5 x6 x7 x8 x9 x10 => (l202 x3 x4 x5 x6 x7 x8 x9 x10)) (fun _ _ _ _ _ x6 x7 x8 x9 x10 x11 x12 x13 => (l202 x6 x7 x8 x9 x10 x11 x12 x13)) (fun _ x2 x3 x4 x5 x6 x7 x8 x9 => (l202 x2 x3 x4 x5 x6 x7 x8 x9)) (fun _ _ _ x4 x5 x6 x7 x8 x9 x10 x11 => (l202 x4 x5 x6 x7 x8 x9 x10 x11)) PUnit.unit.{1} (fun _ _ _ _ => PUnit.unit.{1}) x0))
theorem l211_eq : ∀ x0 x1 x2 x3 x4 x5 x6 x7 x8, (Eq (l211 x0 x1 x2 x3 x4 x5 x6 x7 x8) (@natOf._sparseCasesOn_1 (fun _ => t4) x0 (fun x9 => (l204 x9 x1 x2 x3 x4 x6 x7 x8 x9)) (fun _ => (l202 x1 x2 x3 x4 x5 x6 x7 x8)))) := by intro t; cases t <;> (intros; rfl)
abbrev t575 : Type := ByteArray → t4
abbrev t576 : Type := S → t575
abbrev t577 : Type := CV → t576
abbrev t578 : Type := TypeId → t577
abbrev t579 : Type := BinOp → t578
abbrev t580 : Type := Bool → t579
abbrev t581 : Type := Program → t580
noncomputable def l212 : t581 := (fun x0 x1 x2 x3 x4 x5 x6 => (k_binO x0 x1 x2 x3 (CV.val (Value.string x6)) x4 x5))
theorem l212_eq : ∀ x0 x1 x2 x3 x4 x5 x6, (Eq (l212 x0 x1 x2 x3 x4 x5 x6) (k_binO x0 x1 x2 x3 (CV.val (Value.string x6)) x4 x5)) := by intros; rfl
abbrev t582 : Type := ByteArray → t537
abbrev t583 : Type := S → t582
abbrev t584 : Type := TypeId → t583
abbrev t585 : Type := BinOp → t584
abbrev t586 : Type := Bool → t585
abbrev t587 : Type := Program → t586
noncomputable def l213 : t587 := (fun x0 x1 x2 x3 x4 x5 x6 => (k_binO x0 x1 x2 x3 (CV.val (Value.string x5)) (CV.val x6) x4))
theorem l213_eq : ∀ x0 x1 x2 x3 x4 x5 x6, (Eq (l213 x0 x1 x2 x3 x4 x5 x6) (k_binO x0 x1 x2 x3 (CV.val (Value.string x5)) (CV.val x6) x4)) := by intros; rfl
abbrev t588 : Type := ByteArray → t8
abbrev t589 : Type := ByteArray → t588
abbrev t590 : Type := BinOp → t589
noncomputable def l215 : t590 := (fun x0 => (@BinOp.rec (fun _ => t589) (fun _ _ _ => none) (fun _ _ _ => none) (fun _ _ _ => none) (fun _ _ _ => none) (fun _ _ _ => none) (fun _ _ _ => none) (fun _ _ _ => none) (fun _ _ _ => none) (fun _ _ _ => none) (fun _ _ _ => none) (fun _ _ _ => none) (fun x1 x2 x3 => (k_retB x3 (k_bytesEq (@Array.toList UInt8 (ByteArray.data x1)) (@Array.toList UInt8 (ByteArray.data x2))))) (fun x1 x2 x3 => (k_retB x3 (@Bool.rec (fun _ => Bool) Bool.true Bool.false (k_bytesEq (@Array.toList UInt8 (ByteArray.data x1)) (@Array.toList UInt8 (ByteArray.data x2)))))) (fun _ _ _ => none) (fun _ _ _ => none) (fun _ _ _ => none) (fun _ _ _ => none) x0))
theorem l215_eq : ∀ x0 x1 x2 x3, (Eq (l215 x0 x1 x2 x3) (@binS._sparseCasesOn_1 (fun _ => t4) x0 (k_retB x3 (k_bytesEq (@Array.toList UInt8 (ByteArray.data x1)) (@Array.toList UInt8 (ByteArray.data x2)))) (k_retB x3 (@Bool.rec (fun _ => Bool) Bool.true Bool.false (k_bytesEq (@Array.toList UInt8 (ByteArray.data x1)) (@Array.toList UInt8 (ByteArray.data x2))))) (fun _ => none))) := by intro t; cases t <;> (intros; rfl)
noncomputable def k_binS : t590 := (fun x0 x1 x2 x3 => (l215 x0 x1 x2 x3))
theorem k_binS_eq : @k_binS = binS := by
  delta k_binS binS
  simp only [l215_eq]
  rw [k_retB_eq, k_bytesEq_eq]
  all_goals kernel_rfl

abbrev t591 : Type := Value → t587
noncomputable def l214 : t591 := (fun x0 => (@Value.rec (fun _ => t587) (fun _ => PUnit.{1}) (fun _ => PUnit.{1}) (fun _ x2 x3 x4 x5 x6 x7 x8 => (l213 x2 x3 x4 x5 x6 x7 x8)) (fun _ _ x3 x4 x5 x6 x7 x8 x9 => (l213 x3 x4 x5 x6 x7 x8 x9)) (fun _ _ x3 x4 x5 x6 x7 x8 x9 => (l213 x3 x4 x5 x6 x7 x8 x9)) (fun _ _ _ x4 x5 x6 x7 x8 x9 x10 => (l213 x4 x5 x6 x7 x8 x9 x10)) (fun x1 _ _ x4 _ x6 x7 _ => (k_binS x4 x7 x1 x6)) (fun _ x2 x3 x4 x5 x6 x7 x8 => (l213 x2 x3 x4 x5 x6 x7 x8)) (fun _ _ _ x4 x5 x6 x7 x8 x9 x10 => (l213 x4 x5 x6 x7 x8 x9 x10)) (fun _ x2 x3 x4 x5 x6 x7 x8 => (l213 x2 x3 x4 x5 x6 x7 x8)) (fun _ x2 x3 x4 x5 x6 x7 x8 => (l213 x2 x3 x4 x5 x6 x7 x8)) (fun _ _ _ _ _ x6 x7 x8 x9 x10 x11 x12 => (l213 x6 x7 x8 x9 x10 x11 x12)) (fun x1 x2 x3 x4 x5 x6 x7 => (l213 x1 x2 x3 x4 x5 x6 x7)) (fun _ _ _ x4 x5 x6 x7 x8 x9 x10 => (l213 x4 x5 x6 x7 x8 x9 x10)) (fun x1 x2 x3 x4 x5 x6 x7 => (l213 x1 x2 x3 x4 x5 x6 x7)) (fun _ _ x3 x4 x5 x6 x7 x8 x9 => (l213 x3 x4 x5 x6 x7 x8 x9)) (fun _ _ x3 x4 x5 x6 x7 x8 x9 => (l213 x3 x4 x5 x6 x7 x8 x9)) (fun _ _ => PUnit.unit.{1}) PUnit.unit.{1} (fun _ _ _ _ => PUnit.unit.{1}) x0))
theorem l214_eq : ∀ x0 x1 x2 x3 x4 x5 x6 x7, (Eq (l214 x0 x1 x2 x3 x4 x5 x6 x7) (@eqK._sparseCasesOn_4 (fun _ => t4) x0 (fun x8 => (k_binS x3 x6 x8 x5)) (fun _ => (l213 x1 x2 x3 x4 x5 x6 x7)))) := by intro t; cases t <;> (intros; rfl)
abbrev t592 : Type := CV → t581
noncomputable def l216 : t592 := (fun x0 => (@CV.rec (fun _ => t581) (fun _ => PUnit.{1}) (fun x1 x2 x3 x4 x5 x6 x7 => (l212 x1 x2 x3 x4 x5 x6 x7)) (fun x1 x2 x3 x4 x5 _ x7 x8 => (l214 x1 x2 x3 x4 x5 x7 x8 x1)) (fun _ _ x3 x4 x5 x6 x7 x8 x9 => (l212 x3 x4 x5 x6 x7 x8 x9)) (fun _ _ _ _ _ x6 x7 x8 x9 x10 x11 x12 => (l212 x6 x7 x8 x9 x10 x11 x12)) (fun x1 x2 x3 x4 x5 x6 x7 => (l212 x1 x2 x3 x4 x5 x6 x7)) (fun _ x2 x3 x4 x5 x6 x7 x8 => (l212 x2 x3 x4 x5 x6 x7 x8)) (fun _ _ x3 x4 x5 x6 x7 x8 x9 => (l212 x3 x4 x5 x6 x7 x8 x9)) (fun _ _ x3 x4 x5 x6 x7 x8 x9 => (l212 x3 x4 x5 x6 x7 x8 x9)) (fun _ _ _ _ _ x6 x7 x8 x9 x10 x11 x12 => (l212 x6 x7 x8 x9 x10 x11 x12)) (fun _ x2 x3 x4 x5 x6 x7 x8 => (l212 x2 x3 x4 x5 x6 x7 x8)) (fun _ _ _ x4 x5 x6 x7 x8 x9 x10 => (l212 x4 x5 x6 x7 x8 x9 x10)) PUnit.unit.{1} (fun _ _ _ _ => PUnit.unit.{1}) x0))
theorem l216_eq : ∀ x0 x1 x2 x3 x4 x5 x6 x7, (Eq (l216 x0 x1 x2 x3 x4 x5 x6 x7) (@natOf._sparseCasesOn_1 (fun _ => t4) x0 (fun x8 => (l214 x8 x1 x2 x3 x4 x6 x7 x8)) (fun _ => (l212 x1 x2 x3 x4 x5 x6 x7)))) := by intro t; cases t <;> (intros; rfl)
abbrev t593 : Type := Value → t543
noncomputable def l217 : t593 := (fun x0 => (@Value.rec (fun _ => t543) (fun _ => PUnit.{1}) (fun _ => PUnit.{1}) (fun _ x2 x3 x4 x5 x6 x7 x8 => (l201 x2 x3 x4 x5 x6 x7 x8)) (fun x1 x2 x3 x4 x5 x6 x7 x8 _ => (l211 x7 x3 x4 x5 x6 x7 x8 x1 x2)) (fun _ _ x3 x4 x5 x6 x7 x8 x9 => (l201 x3 x4 x5 x6 x7 x8 x9)) (fun _ _ _ x4 x5 x6 x7 x8 x9 x10 => (l201 x4 x5 x6 x7 x8 x9 x10)) (fun x1 x2 x3 x4 x5 x6 x7 _ => (l216 x6 x2 x3 x4 x5 x6 x7 x1)) (fun _ x2 x3 x4 x5 x6 x7 x8 => (l201 x2 x3 x4 x5 x6 x7 x8)) (fun _ _ _ x4 x5 x6 x7 x8 x9 x10 => (l201 x4 x5 x6 x7 x8 x9 x10)) (fun _ x2 x3 x4 x5 x6 x7 x8 => (l201 x2 x3 x4 x5 x6 x7 x8)) (fun _ x2 x3 x4 x5 x6 x7 x8 => (l201 x2 x3 x4 x5 x6 x7 x8)) (fun _ _ _ _ _ x6 x7 x8 x9 x10 x11 x12 => (l201 x6 x7 x8 x9 x10 x11 x12)) (fun x1 x2 x3 x4 x5 x6 x7 => (l201 x1 x2 x3 x4 x5 x6 x7)) (fun _ _ _ x4 x5 x6 x7 x8 x9 x10 => (l201 x4 x5 x6 x7 x8 x9 x10)) (fun x1 x2 x3 x4 x5 x6 x7 => (l201 x1 x2 x3 x4 x5 x6 x7)) (fun _ _ x3 x4 x5 x6 x7 x8 x9 => (l201 x3 x4 x5 x6 x7 x8 x9)) (fun _ _ x3 x4 x5 x6 x7 x8 x9 => (l201 x3 x4 x5 x6 x7 x8 x9)) (fun _ _ => PUnit.unit.{1}) PUnit.unit.{1} (fun _ _ _ _ => PUnit.unit.{1}) x0))
theorem l217_eq : ∀ x0 x1 x2 x3 x4 x5 x6 x7, (Eq (l217 x0 x1 x2 x3 x4 x5 x6 x7) (@binV._sparseCasesOn_1 (fun _ => t4) x0 (fun x8 x9 => (l211 x5 x1 x2 x3 x4 x5 x6 x8 x9)) (fun x8 => (l216 x5 x1 x2 x3 x4 x5 x6 x8)) (fun _ => (l201 x1 x2 x3 x4 x5 x6 x7)))) := by intro t; cases t <;> (intros; rfl)
abbrev t594 : Type := S → t252
abbrev t595 : Type := CV → t594
abbrev t596 : Type := TypeId → t595
abbrev t597 : Type := BinOp → t596
abbrev t598 : Type := Bool → t597
abbrev t599 : Type := Program → t598
noncomputable def l218 : t599 := (fun x0 x1 x2 x3 x4 x5 x6 => (k_binO x0 x1 x2 x3 (CV.agg x6) x4 x5))
theorem l218_eq : ∀ x0 x1 x2 x3 x4 x5 x6, (Eq (l218 x0 x1 x2 x3 x4 x5 x6) (k_binO x0 x1 x2 x3 (CV.agg x6) x4 x5)) := by intros; rfl
abbrev t600 : Type := List Int
abbrev t601 : Type := t600 → Bool
noncomputable def l221 : t601 := (fun x0 => (@List.rec Int (fun _ => Bool) Bool.true (fun _ _ _ => Bool.false) x0))
theorem l221_eq : ∀ x0, (Eq (l221 x0) (@bytesEq._sparseCasesOn_1 Int (fun _ => Bool) x0 Bool.true (fun _ => Bool.false))) := by intro t; cases t <;> (intros; rfl)
abbrev t602 : Type := t601 → Bool
abbrev t603 : Type := Int → t602
abbrev t604 : Type := t600 → t603
noncomputable def l222 : t604 := (fun x0 => (@List.rec Int (fun _ => t603) (fun _ _ => Bool.false) (fun x1 x2 _ x4 x5 => (@Bool.rec (fun _ => Bool) Bool.false (x5 x2) (k_iEq x4 x1))) x0))
theorem l222_eq : ∀ x0 x1 x2, (Eq (l222 x0 x1 x2) (@bytesEq._sparseCasesOn_2 Int (fun _ => Bool) x0 (fun x3 x4 => (@Bool.rec (fun _ => Bool) Bool.false (x2 x4) (k_iEq x1 x3))) (fun _ => Bool.false))) := by intro t; cases t <;> (intros; rfl)
abbrev t605 : Type := t600 → t601
noncomputable def k_eqInts' : t605 := (fun x0 x1 => (@List.rec Int (fun _ => t601) (fun x2 => (l221 x2)) (fun x2 _ x4 x5 => (l222 x5 x2 x4)) x0 x1))
theorem k_eqInts'_law : ∀ x0 x1, (Eq (k_eqInts' x0 x1) (eqInts' x0 x1)) := by
  intro t
  induction t with
  | nil  =>
    intro z0
    show ((fun (x0 : t600) => (l221 x0)) z0) = _
    conv => rhs; rw [Ev.eqInts'.eq_def]
    try simp only [l221_eq]
    all_goals kernel_rfl
  | cons y0 y1 ih0 =>
    intro z0
    have e0 : (fun (x0 : t600) => (k_eqInts' y1 x0)) = (fun (x0 : t600) => (eqInts' y1 x0)) := by
      funext z0; exact ih0 z0
    show ((fun (x0 : Int) (_ : t600) (x2 : t601) (x3 : t600) => (l222 x3 x0 x2)) y0 y1 (fun (x0 : t600) => (k_eqInts' y1 x0)) z0) = _
    rw [e0]
    conv => rhs; rw [Ev.eqInts'.eq_def]
    try simp only [l222_eq]
    try rw [k_iEq_eq]
    all_goals kernel_rfl
theorem k_eqInts'_eq : @k_eqInts' = eqInts' := by
  funext a0 a1; exact k_eqInts'_law a0 a1
abbrev t606 : Type := t600 → t4
abbrev t607 : Type := t600 → t606
abbrev t608 : Type := S → t607
abbrev t609 : Type := BinOp → t608
noncomputable def l220 : t609 := (fun x0 => (@BinOp.rec (fun _ => t608) (fun _ _ _ => none) (fun _ _ _ => none) (fun _ _ _ => none) (fun _ _ _ => none) (fun _ _ _ => none) (fun _ _ _ => none) (fun _ _ _ => none) (fun _ _ _ => none) (fun _ _ _ => none) (fun _ _ _ => none) (fun _ _ _ => none) (fun x1 x2 x3 => (k_retB x1 (k_eqInts' x2 x3))) (fun x1 x2 x3 => (k_retB x1 (@Bool.rec (fun _ => Bool) Bool.true Bool.false (k_eqInts' x2 x3)))) (fun _ _ _ => none) (fun _ _ _ => none) (fun _ _ _ => none) (fun _ _ _ => none) x0))
theorem l220_eq : ∀ x0 x1 x2 x3, (Eq (l220 x0 x1 x2 x3) (@binS._sparseCasesOn_1 (fun _ => t4) x0 (k_retB x1 (k_eqInts' x2 x3)) (k_retB x1 (@Bool.rec (fun _ => Bool) Bool.true Bool.false (k_eqInts' x2 x3))) (fun _ => none))) := by intro t; cases t <;> (intros; rfl)
abbrev t610 : Type := Option t600
abbrev t611 : Type := S → t606
abbrev t612 : Type := TypeId → t611
abbrev t613 : Type := BinOp → t612
abbrev t614 : Type := Program → t613
abbrev t615 : Type := t610 → t614
noncomputable def l223 : t615 := (fun x0 => (@Option.rec t600 (fun _ => t614) (fun _ _ _ _ _ => none) (fun x1 x2 x3 x4 x5 x6 => (k_ifT_Ret (@Bool.rec (fun _ => Bool) Bool.false (Nat.beq (@List.length Int x6) (@List.length Int x1)) (eqInts x2 x4 (@List.length Int x6))) (l220 x3 x5 x6 x1))) x0))
theorem l223_eq : ∀ x0 x1 x2 x3 x4 x5, (Eq (l223 x0 x1 x2 x3 x4 x5) (@elInfo._sparseCasesOn_3 t600 (fun _ => t4) x0 (fun x6 => (k_ifT_Ret (@Bool.rec (fun _ => Bool) Bool.false (Nat.beq (@List.length Int x5) (@List.length Int x6)) (eqInts x1 x3 (@List.length Int x5))) (l220 x2 x4 x5 x6))) (fun _ => none))) := by intro t; cases t <;> (intros; rfl)
abbrev t616 : Type := Int → t610
abbrev t617 : Type := t610 → t616
abbrev t618 : Type := IntKind → t617
noncomputable def l225 : t618 := (fun x0 => (@IntKind.rec (fun _ => t617) (fun _ _ => none) (fun _ _ => none) (fun _ _ => none) (fun x1 x2 => (@Option.rec t600 (fun _ => t610) none (fun x3 => (some (x2 :: x3))) x1)) (fun _ _ => none) (fun _ _ => none) (fun _ _ => none) (fun _ _ => none) x0))
theorem l225_eq : ∀ x0 x1 x2, (Eq (l225 x0 x1 x2) (@kEq._sparseCasesOn_4 (fun _ => t610) x0 (@Option.rec t600 (fun _ => t610) none (fun x3 => (some (x2 :: x3))) x1) (fun _ => none))) := by intro t; cases t <;> (intros; rfl)
abbrev t619 : Type := t610 → t610
abbrev t620 : Type := Value → t619
noncomputable def l226 : t620 := (fun x0 => (@Value.rec (fun _ => t619) (fun _ => PUnit.{1}) (fun _ => PUnit.{1}) (fun _ _ => none) (fun x1 x2 x3 => (l225 x1 x3 x2)) (fun _ _ _ => none) (fun _ _ _ _ => none) (fun _ _ => none) (fun _ _ => none) (fun _ _ _ _ => none) (fun _ _ => none) (fun _ _ => none) (fun _ _ _ _ _ _ => none) (fun _ => none) (fun _ _ _ _ => none) (fun _ => none) (fun _ _ _ => none) (fun _ _ _ => none) (fun _ _ => PUnit.unit.{1}) PUnit.unit.{1} (fun _ _ _ _ => PUnit.unit.{1}) x0))
theorem l226_eq : ∀ x0 x1, (Eq (l226 x0 x1) (@eqV._sparseCasesOn_5 (fun _ => t610) x0 (fun x2 x3 => (l225 x2 x1 x3)) (fun _ => none))) := by intro t; cases t <;> (intros; rfl)
abbrev t621 : Type := CV → t619
noncomputable def l227 : t621 := (fun x0 => (@CV.rec (fun _ => t619) (fun _ => PUnit.{1}) (fun _ => none) (fun x1 x2 => (l226 x1 x2)) (fun _ _ _ => none) (fun _ _ _ _ _ _ => none) (fun _ => none) (fun _ _ => none) (fun _ _ _ => none) (fun _ _ _ => none) (fun _ _ _ _ _ _ => none) (fun _ _ => none) (fun _ _ _ _ => none) PUnit.unit.{1} (fun _ _ _ _ => PUnit.unit.{1}) x0))
theorem l227_eq : ∀ x0 x1, (Eq (l227 x0 x1) (@eqV._sparseCasesOn_3 (fun _ => t610) x0 (fun x2 => (l226 x2 x1)) (fun _ => none))) := by intro t; cases t <;> (intros; rfl)
abbrev t622 : Type := t7 → t610
noncomputable def k_intsOf : t622 := (fun x0 => (@List.rec CV (fun _ => t610) (some []) (fun x1 _ x3 => (l227 x1 x3)) x0))
theorem k_intsOf_law : ∀ x0, (Eq (k_intsOf x0) (intsOf x0)) := by
  intro t
  induction t with
  | nil  =>
    show (some []) = _
    conv => rhs; rw [Ev.intsOf.eq_def]
    all_goals kernel_rfl
  | cons y0 y1 ih0 =>
    have e0 : (k_intsOf y1) = (intsOf y1) := by
      exact ih0
    show ((fun (x0 : CV) (_ : t7) (x2 : t610) => (l227 x0 x2)) y0 y1 (k_intsOf y1)) = _
    rw [e0]
    conv => rhs; rw [Ev.intsOf.eq_def]
    try simp only [l226_eq, l225_eq, l227_eq]
    all_goals kernel_rfl
theorem k_intsOf_eq : @k_intsOf = intsOf := by
  funext a0; exact k_intsOf_law a0
abbrev t623 : Type := TypeId → t9
abbrev t624 : Type := BinOp → t623
abbrev t625 : Type := Program → t624
abbrev t626 : Type := t610 → t625
noncomputable def l224 : t626 := (fun x0 => (@Option.rec t600 (fun _ => t625) (fun _ _ _ _ _ => none) (fun x1 x2 x3 x4 x5 x6 => (l223 (k_intsOf x5) x2 x3 x4 x6 x1)) x0))
theorem l224_eq : ∀ x0 x1 x2 x3 x4 x5, (Eq (l224 x0 x1 x2 x3 x4 x5) (@elInfo._sparseCasesOn_3 t600 (fun _ => t4) x0 (fun x6 => (l223 (k_intsOf x4) x1 x2 x3 x5 x6)) (fun _ => none))) := by intro t; cases t <;> (intros; rfl)
abbrev t627 : Type := t7 → t9
abbrev t628 : Type := TypeId → t627
abbrev t629 : Type := BinOp → t628
abbrev t630 : Type := Program → t629
noncomputable def k_binA : t630 := (fun x0 x1 x2 x3 x4 x5 => (l224 (k_intsOf x3) x0 x1 x2 x4 x5))
theorem k_binA_eq : @k_binA = binA := by
  delta k_binA binA
  simp only [l223_eq, l224_eq, l220_eq]
  rw [k_intsOf_eq, k_retB_eq, k_eqInts'_eq, k_ifT_Ret_eq]
  all_goals kernel_rfl

abbrev t631 : Type := CV → t599
noncomputable def l219 : t631 := (fun x0 => (@CV.rec (fun _ => t599) (fun _ => PUnit.{1}) (fun x1 x2 x3 x4 x5 x6 x7 => (l218 x1 x2 x3 x4 x5 x6 x7)) (fun _ x2 x3 x4 x5 x6 x7 x8 => (l218 x2 x3 x4 x5 x6 x7 x8)) (fun _ _ x3 x4 x5 x6 x7 x8 x9 => (l218 x3 x4 x5 x6 x7 x8 x9)) (fun _ _ _ _ _ x6 x7 x8 x9 x10 x11 x12 => (l218 x6 x7 x8 x9 x10 x11 x12)) (fun x1 x2 x3 x4 x5 x6 x7 => (l218 x1 x2 x3 x4 x5 x6 x7)) (fun _ x2 x3 x4 x5 x6 x7 x8 => (l218 x2 x3 x4 x5 x6 x7 x8)) (fun x1 _ x3 _ x5 x6 _ x8 x9 => (k_binA x3 x5 x6 x9 x1 x8)) (fun _ _ x3 x4 x5 x6 x7 x8 x9 => (l218 x3 x4 x5 x6 x7 x8 x9)) (fun _ _ _ _ _ x6 x7 x8 x9 x10 x11 x12 => (l218 x6 x7 x8 x9 x10 x11 x12)) (fun _ x2 x3 x4 x5 x6 x7 x8 => (l218 x2 x3 x4 x5 x6 x7 x8)) (fun _ _ _ x4 x5 x6 x7 x8 x9 x10 => (l218 x4 x5 x6 x7 x8 x9 x10)) PUnit.unit.{1} (fun _ _ _ _ => PUnit.unit.{1}) x0))
theorem l219_eq : ∀ x0 x1 x2 x3 x4 x5 x6 x7, (Eq (l219 x0 x1 x2 x3 x4 x5 x6 x7) (@binV._sparseCasesOn_2 (fun _ => t4) x0 (fun x8 => (k_binA x1 x3 x4 x7 x8 x6)) (fun _ => (l218 x1 x2 x3 x4 x5 x6 x7)))) := by intro t; cases t <;> (intros; rfl)
abbrev t632 : Type := CV → t536
noncomputable def l228 : t632 := (fun x0 => (@CV.rec (fun _ => t536) (fun _ => PUnit.{1}) (fun x1 x2 x3 x4 x5 x6 x7 => (l145 x1 x2 x3 x4 x5 x6 x7)) (fun x1 x2 x3 x4 x5 _ x7 x8 => (l217 x1 x2 x3 x4 x5 x7 x8 x1)) (fun _ _ x3 x4 x5 x6 x7 x8 x9 => (l145 x3 x4 x5 x6 x7 x8 x9)) (fun _ _ _ _ _ x6 x7 x8 x9 x10 x11 x12 => (l145 x6 x7 x8 x9 x10 x11 x12)) (fun x1 x2 x3 x4 x5 x6 x7 => (l145 x1 x2 x3 x4 x5 x6 x7)) (fun _ x2 x3 x4 x5 x6 x7 x8 => (l145 x2 x3 x4 x5 x6 x7 x8)) (fun x1 _ x3 x4 x5 x6 _ x8 x9 => (l219 x8 x3 x4 x5 x6 x8 x9 x1)) (fun _ _ x3 x4 x5 x6 x7 x8 x9 => (l145 x3 x4 x5 x6 x7 x8 x9)) (fun _ _ _ _ _ x6 x7 x8 x9 x10 x11 x12 => (l145 x6 x7 x8 x9 x10 x11 x12)) (fun _ x2 x3 x4 x5 x6 x7 x8 => (l145 x2 x3 x4 x5 x6 x7 x8)) (fun _ _ _ x4 x5 x6 x7 x8 x9 x10 => (l145 x4 x5 x6 x7 x8 x9 x10)) PUnit.unit.{1} (fun _ _ _ _ => PUnit.unit.{1}) x0))
theorem l228_eq : ∀ x0 x1 x2 x3 x4 x5 x6 x7, (Eq (l228 x0 x1 x2 x3 x4 x5 x6 x7) (@toVal._sparseCasesOn_1 (fun _ => t4) x0 (fun x8 => (l217 x8 x1 x2 x3 x4 x6 x7 x8)) (fun x8 => (l219 x6 x1 x2 x3 x4 x6 x7 x8)) (fun _ => (l145 x1 x2 x3 x4 x5 x6 x7)))) := by intro t; cases t <;> (intros; rfl)
noncomputable def k_binV : t536 := (fun x0 x1 x2 x3 x4 x5 x6 => (l228 x4 x0 x1 x2 x3 x4 x5 x6))
theorem k_binV_eq : @k_binV = binV := by
  delta k_binV binV
  simp only [l214_eq, l203_eq, l211_eq, l213_eq, l145_eq, l212_eq, l217_eq, l228_eq, l204_eq, l219_eq, l218_eq, l202_eq, l201_eq, l216_eq]
  rw [k_binO_eq, k_binI_eq, k_binS_eq, k_binA_eq]
  all_goals kernel_rfl

abbrev t633 : Type := Operand → t20
abbrev t634 : Type := Operand → t633
abbrev t635 : Type := TypeId → t634
abbrev t636 : Type := BinOp → t635
abbrev t637 : Type := Program → t636
abbrev t638 : Type := t81 → t637
noncomputable def l144 : t638 := (fun x0 => (@Option.rec CV (fun _ => t637) (fun _ _ _ _ _ _ _ => none) (fun x1 x2 x3 x4 x5 x6 x7 x8 => (k_binV x2 (@Bool.rec (fun _ => Bool) (Region.isConst x6) Bool.true (Region.isConst x5)) x3 x4 x8 x1 x7)) x0))
theorem l144_eq : ∀ x0 x1 x2 x3 x4 x5 x6 x7, (Eq (l144 x0 x1 x2 x3 x4 x5 x6 x7) (@elInfo._sparseCasesOn_3 CV (fun _ => t4) x0 (fun x8 => (k_binV x1 (@Bool.rec (fun _ => Bool) (Region.isConst x5) Bool.true (Region.isConst x4)) x2 x3 x7 x8 x6)) (fun _ => none))) := by intro t; cases t <;> (intros; rfl)
abbrev t639 : Type := BinOp → t485
abbrev t640 : Type := t14 → t639
abbrev t641 : Type := Program → t640
abbrev t642 : Type := t81 → t641
noncomputable def l229 : t642 := (fun x0 => (@Option.rec CV (fun _ => t641) (fun _ _ _ _ _ _ _ => none) (fun x1 x2 x3 x4 x5 x6 x7 x8 => (l144 (k_ev x3 x7) x2 x4 x5 x6 x7 x8 x1)) x0))
theorem l229_eq : ∀ x0 x1 x2 x3 x4 x5 x6 x7, (Eq (l229 x0 x1 x2 x3 x4 x5 x6 x7) (@elInfo._sparseCasesOn_3 CV (fun _ => t4) x0 (fun x8 => (l144 (k_ev x2 x6) x1 x3 x4 x5 x6 x7 x8)) (fun _ => none))) := by intro t; cases t <;> (intros; rfl)
noncomputable def k_o_binOp : t641 := (fun x0 x1 x2 x3 x4 x5 x6 => (l229 (k_ev x1 x4) x0 x1 x2 x3 x4 x5 x6))
theorem k_o_binOp_eq : @k_o_binOp = o_binOp := by
  delta k_o_binOp o_binOp
  simp only [l144_eq, l229_eq]
  rw [k_ev_eq, k_binV_eq]
  all_goals kernel_rfl

abbrev t643 : Type := Value → t8
noncomputable def l230 : t643 := (fun x0 => (@Value.rec (fun _ => t8) (fun _ => PUnit.{1}) (fun _ => PUnit.{1}) (fun x1 x2 => (k_retB x2 (@Bool.rec (fun _ => Bool) Bool.true Bool.false x1))) (fun _ _ _ => none) (fun _ _ _ => none) (fun _ _ _ _ => none) (fun _ _ => none) (fun _ _ => none) (fun _ _ _ _ => none) (fun _ _ => none) (fun _ _ => none) (fun _ _ _ _ _ _ => none) (fun _ => none) (fun _ _ _ _ => none) (fun _ => none) (fun _ _ _ => none) (fun _ _ _ => none) (fun _ _ => PUnit.unit.{1}) PUnit.unit.{1} (fun _ _ _ _ => PUnit.unit.{1}) x0))
theorem l230_eq : ∀ x0 x1, (Eq (l230 x0 x1) (@eqK._sparseCasesOn_3 (fun _ => t4) x0 (fun x2 => (k_retB x1 (@Bool.rec (fun _ => Bool) Bool.true Bool.false x2))) (fun _ => none))) := by intro t; cases t <;> (intros; rfl)
noncomputable def l231 : t186 := (fun x0 => (@CV.rec (fun _ => t8) (fun _ => PUnit.{1}) (fun _ => none) (fun x1 x2 => (l230 x1 x2)) (fun _ _ _ => none) (fun _ _ _ _ _ _ => none) (fun _ => none) (fun _ _ => none) (fun _ _ _ => none) (fun _ _ _ => none) (fun _ _ _ _ _ _ => none) (fun _ _ => none) (fun _ _ _ _ => none) PUnit.unit.{1} (fun _ _ _ _ => PUnit.unit.{1}) x0))
theorem l231_eq : ∀ x0 x1, (Eq (l231 x0 x1) (@natOf._sparseCasesOn_1 (fun _ => t4) x0 (fun x2 => (l230 x2 x1)) (fun _ => none))) := by intro t; cases t <;> (intros; rfl)
noncomputable def l232 : t101 := (fun x0 => (@Option.rec CV (fun _ => t8) (fun _ => none) (fun x1 x2 => (l231 x1 x2)) x0))
theorem l232_eq : ∀ x0 x1, (Eq (l232 x0 x1) (@elInfo._sparseCasesOn_3 CV (fun _ => t4) x0 (fun x2 => (l231 x2 x1)) (fun _ => none))) := by intro t; cases t <;> (intros; rfl)
noncomputable def l233 : t643 := (fun x0 => (@Value.rec (fun _ => t8) (fun _ => PUnit.{1}) (fun _ => PUnit.{1}) (fun _ _ => none) (fun x1 x2 x3 => (k_retI x3 x1 (IntKind.wrap x1 (Int.sub (nat_lit 0) x2)))) (fun _ _ _ => none) (fun _ _ _ _ => none) (fun _ _ => none) (fun _ _ => none) (fun _ _ _ _ => none) (fun _ _ => none) (fun _ _ => none) (fun _ _ _ _ _ _ => none) (fun _ => none) (fun _ _ _ _ => none) (fun _ => none) (fun _ _ _ => none) (fun _ _ _ => none) (fun _ _ => PUnit.unit.{1}) PUnit.unit.{1} (fun _ _ _ _ => PUnit.unit.{1}) x0))
theorem l233_eq : ∀ x0 x1, (Eq (l233 x0 x1) (@natOf._sparseCasesOn_2 (fun _ => t4) x0 (fun x2 x3 => (k_retI x1 x2 (IntKind.wrap x2 (Int.sub (nat_lit 0) x3)))) (fun _ => none))) := by intro t; cases t <;> (intros; rfl)
noncomputable def l234 : t186 := (fun x0 => (@CV.rec (fun _ => t8) (fun _ => PUnit.{1}) (fun _ => none) (fun x1 x2 => (l233 x1 x2)) (fun _ _ _ => none) (fun _ _ _ _ _ _ => none) (fun _ => none) (fun _ _ => none) (fun _ _ _ => none) (fun _ _ _ => none) (fun _ _ _ _ _ _ => none) (fun _ _ => none) (fun _ _ _ _ => none) PUnit.unit.{1} (fun _ _ _ _ => PUnit.unit.{1}) x0))
theorem l234_eq : ∀ x0 x1, (Eq (l234 x0 x1) (@natOf._sparseCasesOn_1 (fun _ => t4) x0 (fun x2 => (l233 x2 x1)) (fun _ => none))) := by intro t; cases t <;> (intros; rfl)
noncomputable def l235 : t101 := (fun x0 => (@Option.rec CV (fun _ => t8) (fun _ => none) (fun x1 x2 => (l234 x1 x2)) x0))
theorem l235_eq : ∀ x0 x1, (Eq (l235 x0 x1) (@elInfo._sparseCasesOn_3 CV (fun _ => t4) x0 (fun x2 => (l234 x2 x1)) (fun _ => none))) := by intro t; cases t <;> (intros; rfl)
noncomputable def l236 : t643 := (fun x0 => (@Value.rec (fun _ => t8) (fun _ => PUnit.{1}) (fun _ => PUnit.{1}) (fun _ _ => none) (fun x1 x2 x3 => (@Option.rec Int (fun _ => t4) none (fun x4 => ((fun x5 => (k_retI x3 x1 x5)) x4)) (bitI BinOp.xor x1 (@Bool.rec (fun _ => Int) (IntKind.max x1) (Int.neg (nat_lit 1)) (IntKind.signed x1)) x2))) (fun _ _ _ => none) (fun _ _ _ _ => none) (fun _ _ => none) (fun _ _ => none) (fun _ _ _ _ => none) (fun _ _ => none) (fun _ _ => none) (fun _ _ _ _ _ _ => none) (fun _ => none) (fun _ _ _ _ => none) (fun _ => none) (fun _ _ _ => none) (fun _ _ _ => none) (fun _ _ => PUnit.unit.{1}) PUnit.unit.{1} (fun _ _ _ _ => PUnit.unit.{1}) x0))
theorem l236_eq : ∀ x0 x1, (Eq (l236 x0 x1) (@natOf._sparseCasesOn_2 (fun _ => t4) x0 (fun x2 x3 => (@Option.rec Int (fun _ => t4) none (fun x4 => ((fun x5 => (k_retI x1 x2 x5)) x4)) (bitI BinOp.xor x2 (@Bool.rec (fun _ => Int) (IntKind.max x2) (Int.neg (nat_lit 1)) (IntKind.signed x2)) x3))) (fun _ => none))) := by intro t; cases t <;> (intros; rfl)
noncomputable def l237 : t186 := (fun x0 => (@CV.rec (fun _ => t8) (fun _ => PUnit.{1}) (fun _ => none) (fun x1 x2 => (l236 x1 x2)) (fun _ _ _ => none) (fun _ _ _ _ _ _ => none) (fun _ => none) (fun _ _ => none) (fun _ _ _ => none) (fun _ _ _ => none) (fun _ _ _ _ _ _ => none) (fun _ _ => none) (fun _ _ _ _ => none) PUnit.unit.{1} (fun _ _ _ _ => PUnit.unit.{1}) x0))
theorem l237_eq : ∀ x0 x1, (Eq (l237 x0 x1) (@natOf._sparseCasesOn_1 (fun _ => t4) x0 (fun x2 => (l236 x2 x1)) (fun _ => none))) := by intro t; cases t <;> (intros; rfl)
noncomputable def l238 : t101 := (fun x0 => (@Option.rec CV (fun _ => t8) (fun _ => none) (fun x1 x2 => (l237 x1 x2)) x0))
theorem l238_eq : ∀ x0 x1, (Eq (l238 x0 x1) (@elInfo._sparseCasesOn_3 CV (fun _ => t4) x0 (fun x2 => (l237 x2 x1)) (fun _ => none))) := by intro t; cases t <;> (intros; rfl)
abbrev t644 : Type := UnOp → t192
noncomputable def l239 : t644 := (fun x0 => (@UnOp.rec (fun _ => t192) (fun x1 x2 x3 => (l235 (k_ev x1 x2) x3)) (fun x1 x2 x3 => (l238 (k_ev x1 x2) x3)) (fun x1 x2 x3 => (l232 (k_ev x1 x2) x3)) (fun _ _ _ => none) x0))
theorem l239_eq : ∀ x0 x1 x2 x3, (Eq (l239 x0 x1 x2 x3) (@o_unOp._sparseCasesOn_1 (fun _ => t4) x0 (l232 (k_ev x1 x2) x3) (l235 (k_ev x1 x2) x3) (l238 (k_ev x1 x2) x3) (fun _ => none))) := by intro t; cases t <;> (intros; rfl)
abbrev t645 : Type := UnOp → t191
abbrev t646 : Type := t14 → t645
abbrev t647 : Type := Program → t646
noncomputable def k_o_unOp : t647 := (fun _ x1 x2 x3 x4 => (l239 x2 x1 x3 x4))
theorem k_o_unOp_eq : @k_o_unOp = o_unOp := by
  delta k_o_unOp o_unOp
  simp only [l232_eq, l239_eq, l233_eq, l231_eq, l230_eq, l236_eq, l234_eq, l237_eq, l235_eq, l238_eq]
  rw [k_retB_eq, k_retI_eq, k_ev_eq]
  all_goals kernel_rfl

abbrev t648 : Type := IntKind → t4
abbrev t649 : Type := S → t648
abbrev t650 : Type := Value → t649
noncomputable def l240 : t650 := (fun x0 => (@Value.rec (fun _ => t649) (fun _ => PUnit.{1}) (fun _ => PUnit.{1}) (fun _ _ _ => none) (fun _ x2 x3 x4 => (k_retI x3 x4 (IntKind.wrap x4 x2))) (fun _ _ _ _ => none) (fun _ _ _ _ _ => none) (fun _ _ _ => none) (fun _ _ _ => none) (fun _ _ _ _ _ => none) (fun _ _ _ => none) (fun _ _ _ => none) (fun _ _ _ _ _ _ _ => none) (fun _ _ => none) (fun _ _ _ _ _ => none) (fun _ _ => none) (fun _ _ _ _ => none) (fun _ _ _ _ => none) (fun _ _ => PUnit.unit.{1}) PUnit.unit.{1} (fun _ _ _ _ => PUnit.unit.{1}) x0))
theorem l240_eq : ∀ x0 x1 x2, (Eq (l240 x0 x1 x2) (@natOf._sparseCasesOn_2 (fun _ => t4) x0 (fun _ x4 => (k_retI x1 x2 (IntKind.wrap x2 x4))) (fun _ => none))) := by intro t; cases t <;> (intros; rfl)
abbrev t651 : Type := CV → t649
noncomputable def l241 : t651 := (fun x0 => (@CV.rec (fun _ => t649) (fun _ => PUnit.{1}) (fun _ _ => none) (fun x1 x2 x3 => (l240 x1 x2 x3)) (fun _ _ _ _ => none) (fun _ _ _ _ _ _ _ => none) (fun _ _ => none) (fun _ _ _ => none) (fun _ _ _ _ => none) (fun _ _ _ _ => none) (fun _ _ _ _ _ _ _ => none) (fun _ _ _ => none) (fun _ _ _ _ _ => none) PUnit.unit.{1} (fun _ _ _ _ => PUnit.unit.{1}) x0))
theorem l241_eq : ∀ x0 x1 x2, (Eq (l241 x0 x1 x2) (@natOf._sparseCasesOn_1 (fun _ => t4) x0 (fun x3 => (l240 x3 x1 x2)) (fun _ => none))) := by intro t; cases t <;> (intros; rfl)
abbrev t652 : Type := t81 → t649
noncomputable def l242 : t652 := (fun x0 => (@Option.rec CV (fun _ => t649) (fun _ _ => none) (fun x1 x2 x3 => (l241 x1 x2 x3)) x0))
theorem l242_eq : ∀ x0 x1 x2, (Eq (l242 x0 x1 x2) (@elInfo._sparseCasesOn_3 CV (fun _ => t4) x0 (fun x3 => (l241 x3 x1 x2)) (fun _ => none))) := by intro t; cases t <;> (intros; rfl)
abbrev t653 : Type := TypeDesc → t192
noncomputable def l243 : t653 := (fun x0 => (@TypeDesc.rec (fun _ => t192) (fun _ _ _ => none) (fun _ _ _ => none) (fun x1 x2 x3 x4 => (l242 (k_ev x2 x3) x4 x1)) (fun _ _ _ _ => none) (fun _ _ _ _ => none) (fun _ _ _ => none) (fun _ _ _ => none) (fun _ _ _ _ => none) (fun _ _ _ _ => none) (fun _ _ _ _ _ => none) (fun _ _ _ _ _ => none) (fun _ _ _ _ _ => none) (fun _ _ _ _ => none) (fun _ _ _ _ _ _ => none) (fun _ _ _ _ => none) (fun _ _ _ _ => none) (fun _ _ _ _ _ => none) x0))
theorem l243_eq : ∀ x0 x1 x2 x3, (Eq (l243 x0 x1 x2 x3) (@o_convert._sparseCasesOn_1 (fun _ => t4) x0 (fun x4 => (l242 (k_ev x1 x2) x3 x4)) (fun _ => none))) := by intro t; cases t <;> (intros; rfl)
abbrev t654 : Type := t336 → t192
noncomputable def l244 : t654 := (fun x0 => (@Option.rec TypeDesc (fun _ => t192) (fun _ _ _ => none) (fun x1 x2 x3 x4 => (l243 x1 x2 x3 x4)) x0))
theorem l244_eq : ∀ x0 x1 x2 x3, (Eq (l244 x0 x1 x2 x3) (@elInfo._sparseCasesOn_3 TypeDesc (fun _ => t4) x0 (fun x4 => (l243 x4 x1 x2 x3)) (fun _ => none))) := by intro t; cases t <;> (intros; rfl)
noncomputable def l245 : t643 := (fun x0 => (@Value.rec (fun _ => t8) (fun _ => PUnit.{1}) (fun _ => PUnit.{1}) (fun _ _ => none) (fun _ _ _ => none) (fun _ _ _ => none) (fun _ _ _ _ => none) (fun x1 x2 => (k_ok1 (CV.val (Value.string x1)) x2)) (fun _ _ => none) (fun _ _ _ _ => none) (fun _ _ => none) (fun _ _ => none) (fun _ _ _ _ _ _ => none) (fun _ => none) (fun _ _ _ _ => none) (fun _ => none) (fun _ _ _ => none) (fun _ _ _ => none) (fun _ _ => PUnit.unit.{1}) PUnit.unit.{1} (fun _ _ _ _ => PUnit.unit.{1}) x0))
theorem l245_eq : ∀ x0 x1, (Eq (l245 x0 x1) (@eqK._sparseCasesOn_4 (fun _ => t4) x0 (fun x2 => (k_ok1 (CV.val (Value.string x2)) x1)) (fun _ => none))) := by intro t; cases t <;> (intros; rfl)
noncomputable def l246 : t186 := (fun x0 => (@CV.rec (fun _ => t8) (fun _ => PUnit.{1}) (fun _ => none) (fun x1 x2 => (l245 x1 x2)) (fun _ _ _ => none) (fun _ _ _ _ _ _ => none) (fun _ => none) (fun _ _ => none) (fun _ _ _ => none) (fun _ _ _ => none) (fun _ _ _ _ _ _ => none) (fun _ _ => none) (fun _ _ _ _ => none) PUnit.unit.{1} (fun _ _ _ _ => PUnit.unit.{1}) x0))
theorem l246_eq : ∀ x0 x1, (Eq (l246 x0 x1) (@natOf._sparseCasesOn_1 (fun _ => t4) x0 (fun x2 => (l245 x2 x1)) (fun _ => none))) := by intro t; cases t <;> (intros; rfl)
noncomputable def l247 : t101 := (fun x0 => (@Option.rec CV (fun _ => t8) (fun _ => none) (fun x1 x2 => (l246 x1 x2)) x0))
theorem l247_eq : ∀ x0 x1, (Eq (l247 x0 x1) (@elInfo._sparseCasesOn_3 CV (fun _ => t4) x0 (fun x2 => (l246 x2 x1)) (fun _ => none))) := by intro t; cases t <;> (intros; rfl)
noncomputable def l248 : t653 := (fun x0 => (@TypeDesc.rec (fun _ => t192) (fun _ _ _ => none) (fun _ _ _ => none) (fun _ _ _ _ => none) (fun _ _ _ _ => none) (fun _ _ _ _ => none) (fun x1 x2 x3 => (l247 (k_ev x1 x2) x3)) (fun _ _ _ => none) (fun _ _ _ _ => none) (fun _ _ _ _ => none) (fun _ _ _ _ _ => none) (fun _ _ _ _ _ => none) (fun _ _ _ _ _ => none) (fun _ _ _ _ => none) (fun _ _ _ _ _ _ => none) (fun _ _ _ _ => none) (fun _ _ _ _ => none) (fun _ _ _ _ _ => none) x0))
theorem l248_eq : ∀ x0 x1 x2 x3, (Eq (l248 x0 x1 x2 x3) (@o_convert._sparseCasesOn_3 (fun _ => t4) x0 (l247 (k_ev x1 x2) x3) (fun _ => none))) := by intro t; cases t <;> (intros; rfl)
noncomputable def l249 : t654 := (fun x0 => (@Option.rec TypeDesc (fun _ => t192) (fun _ _ _ => none) (fun x1 x2 x3 x4 => (l248 x1 x2 x3 x4)) x0))
theorem l249_eq : ∀ x0 x1 x2 x3, (Eq (l249 x0 x1 x2 x3) (@elInfo._sparseCasesOn_3 TypeDesc (fun _ => t4) x0 (fun x4 => (l248 x4 x1 x2 x3)) (fun _ => none))) := by intro t; cases t <;> (intros; rfl)
abbrev t655 : Type := TypeId → t47
abbrev t656 : Type := S → t655
abbrev t657 : Type := Program → t656
abbrev t658 : Type := t497 → t657
noncomputable def l250 : t658 := (fun x0 => (@Option.rec Addr (fun _ => t657) (fun x1 x2 x3 x4 x5 => (@dite ((fun _ _ _ => t4) (some (TypeDesc.slice x3)) (some TypeDesc.string) (some (CV.val (Value.slice none x4 x5)))) (Eq x4 (@OfNat.ofNat Nat (nat_lit 0) (instOfNatNat (nat_lit 0)))) (instDecidableEqNat x4 (@OfNat.ofNat Nat (nat_lit 0) (instOfNatNat (nat_lit 0)))) (@Eq.ndrec_symm Nat (@OfNat.ofNat Nat (nat_lit 0) (instOfNatNat (nat_lit 0))) (fun x6 => ((fun _ _ _ => t4) (some (TypeDesc.slice x3)) (some TypeDesc.string) (some (CV.val (Value.slice none x6 x5))))) (@dite ((fun _ _ _ => t4) (some (TypeDesc.slice x3)) (some TypeDesc.string) (some (CV.val (Value.slice none (@OfNat.ofNat Nat (nat_lit 0) (instOfNatNat (nat_lit 0))) x5)))) (Eq x5 (@OfNat.ofNat Nat (nat_lit 0) (instOfNatNat (nat_lit 0)))) (instDecidableEqNat x5 (@OfNat.ofNat Nat (nat_lit 0) (instOfNatNat (nat_lit 0)))) (@Eq.ndrec_symm Nat (@OfNat.ofNat Nat (nat_lit 0) (instOfNatNat (nat_lit 0))) (fun x6 => ((fun _ _ _ => t4) (some (TypeDesc.slice x3)) (some TypeDesc.string) (some (CV.val (Value.slice none (@OfNat.ofNat Nat (nat_lit 0) (instOfNatNat (nat_lit 0))) x6))))) ((fun x6 => (o_convert.match_1 (fun _ => t4) (Program.underlying x1 x6) (fun _ => (ok1 (CV.val (Value.string (ByteArray.mk (@List.toArray UInt8 [])))) x2)) (fun _ => none))) x3) x5) (fun _ => ((fun _ _ _ => none) (some (TypeDesc.slice x3)) (some TypeDesc.string) (some (CV.val (Value.slice none (@OfNat.ofNat Nat (nat_lit 0) (instOfNatNat (nat_lit 0))) x5)))))) x4) (fun _ => ((fun _ _ _ => none) (some (TypeDesc.slice x3)) (some TypeDesc.string) (some (CV.val (Value.slice none x4 x5))))))) (fun _ _ _ _ _ _ => none) x0))
theorem l250_eq : ∀ x0 x1 x2 x3 x4 x5, (Eq (l250 x0 x1 x2 x3 x4 x5) (@sliceV._sparseCasesOn_7 Addr (fun _ => t4) x0 (@dite ((fun _ _ _ => t4) (some (TypeDesc.slice x3)) (some TypeDesc.string) (some (CV.val (Value.slice none x4 x5)))) (Eq x4 (@OfNat.ofNat Nat (nat_lit 0) (instOfNatNat (nat_lit 0)))) (instDecidableEqNat x4 (@OfNat.ofNat Nat (nat_lit 0) (instOfNatNat (nat_lit 0)))) (@Eq.ndrec_symm Nat (@OfNat.ofNat Nat (nat_lit 0) (instOfNatNat (nat_lit 0))) (fun x6 => ((fun _ _ _ => t4) (some (TypeDesc.slice x3)) (some TypeDesc.string) (some (CV.val (Value.slice none x6 x5))))) (@dite ((fun _ _ _ => t4) (some (TypeDesc.slice x3)) (some TypeDesc.string) (some (CV.val (Value.slice none (@OfNat.ofNat Nat (nat_lit 0) (instOfNatNat (nat_lit 0))) x5)))) (Eq x5 (@OfNat.ofNat Nat (nat_lit 0) (instOfNatNat (nat_lit 0)))) (instDecidableEqNat x5 (@OfNat.ofNat Nat (nat_lit 0) (instOfNatNat (nat_lit 0)))) (@Eq.ndrec_symm Nat (@OfNat.ofNat Nat (nat_lit 0) (instOfNatNat (nat_lit 0))) (fun x6 => ((fun _ _ _ => t4) (some (TypeDesc.slice x3)) (some TypeDesc.string) (some (CV.val (Value.slice none (@OfNat.ofNat Nat (nat_lit 0) (instOfNatNat (nat_lit 0))) x6))))) ((fun x6 => (o_convert.match_1 (fun _ => t4) (Program.underlying x1 x6) (fun _ => (ok1 (CV.val (Value.string (ByteArray.mk (@List.toArray UInt8 [])))) x2)) (fun _ => none))) x3) x5) (fun _ => ((fun _ _ _ => none) (some (TypeDesc.slice x3)) (some TypeDesc.string) (some (CV.val (Value.slice none (@OfNat.ofNat Nat (nat_lit 0) (instOfNatNat (nat_lit 0))) x5)))))) x4) (fun _ => ((fun _ _ _ => none) (some (TypeDesc.slice x3)) (some TypeDesc.string) (some (CV.val (Value.slice none x4 x5)))))) (fun _ => none))) := by intro t; cases t <;> (intros; rfl)
abbrev t659 : Type := Program → t321
abbrev t660 : Type := Value → t659
noncomputable def l251 : t660 := (fun x0 => (@Value.rec (fun _ => t659) (fun _ => PUnit.{1}) (fun _ => PUnit.{1}) (fun _ _ _ _ => none) (fun _ _ _ _ _ => none) (fun _ _ _ _ _ => none) (fun _ _ _ _ _ _ => none) (fun _ _ _ _ => none) (fun _ _ _ _ => none) (fun x1 x2 x3 x4 x5 x6 => (l250 x1 x4 x5 x6 x2 x3)) (fun _ _ _ _ => none) (fun _ _ _ _ => none) (fun _ _ _ _ _ _ _ _ => none) (fun _ _ _ => none) (fun _ _ _ _ _ _ => none) (fun _ _ _ => none) (fun _ _ _ _ _ => none) (fun _ _ _ _ _ => none) (fun _ _ => PUnit.unit.{1}) PUnit.unit.{1} (fun _ _ _ _ => PUnit.unit.{1}) x0))
theorem l251_eq : ∀ x0 x1 x2 x3, (Eq (l251 x0 x1 x2 x3) (@sliceV._sparseCasesOn_6 (fun _ => t4) x0 (fun x4 x5 x6 => (l250 x4 x1 x2 x3 x5 x6)) (fun _ => none))) := by intro t; cases t <;> (intros; rfl)
abbrev t661 : Type := Option t394
abbrev t662 : Type := Int → t661
abbrev t663 : Type := t661 → t662
abbrev t664 : Type := IntKind → t663
noncomputable def l253 : t664 := (fun x0 => (@IntKind.rec (fun _ => t663) (fun _ _ => none) (fun _ _ => none) (fun _ _ => none) (fun _ _ => none) (fun x1 x2 => (@Option.rec t394 (fun _ => t661) none (fun x3 => (some ((UInt8.ofNat (Int.toNat x2)) :: x3))) x1)) (fun _ _ => none) (fun _ _ => none) (fun _ _ => none) x0))
theorem l253_eq : ∀ x0 x1 x2, (Eq (l253 x0 x1 x2) (@bytesOf._sparseCasesOn_2 (fun _ => t661) x0 (@Option.rec t394 (fun _ => t661) none (fun x3 => (some ((UInt8.ofNat (Int.toNat x2)) :: x3))) x1) (fun _ => none))) := by intro t; cases t <;> (intros; rfl)
abbrev t665 : Type := t661 → t661
abbrev t666 : Type := Value → t665
noncomputable def l254 : t666 := (fun x0 => (@Value.rec (fun _ => t665) (fun _ => PUnit.{1}) (fun _ => PUnit.{1}) (fun _ _ => none) (fun x1 x2 x3 => (l253 x1 x3 x2)) (fun _ _ _ => none) (fun _ _ _ _ => none) (fun _ _ => none) (fun _ _ => none) (fun _ _ _ _ => none) (fun _ _ => none) (fun _ _ => none) (fun _ _ _ _ _ _ => none) (fun _ => none) (fun _ _ _ _ => none) (fun _ => none) (fun _ _ _ => none) (fun _ _ _ => none) (fun _ _ => PUnit.unit.{1}) PUnit.unit.{1} (fun _ _ _ _ => PUnit.unit.{1}) x0))
theorem l254_eq : ∀ x0 x1, (Eq (l254 x0 x1) (@natOf._sparseCasesOn_2 (fun _ => t661) x0 (fun x2 x3 => (l253 x2 x1 x3)) (fun _ => none))) := by intro t; cases t <;> (intros; rfl)
abbrev t667 : Type := CV → t665
noncomputable def l255 : t667 := (fun x0 => (@CV.rec (fun _ => t665) (fun _ => PUnit.{1}) (fun _ => none) (fun x1 x2 => (l254 x1 x2)) (fun _ _ _ => none) (fun _ _ _ _ _ _ => none) (fun _ => none) (fun _ _ => none) (fun _ _ _ => none) (fun _ _ _ => none) (fun _ _ _ _ _ _ => none) (fun _ _ => none) (fun _ _ _ _ => none) PUnit.unit.{1} (fun _ _ _ _ => PUnit.unit.{1}) x0))
theorem l255_eq : ∀ x0 x1, (Eq (l255 x0 x1) (@natOf._sparseCasesOn_1 (fun _ => t661) x0 (fun x2 => (l254 x2 x1)) (fun _ => none))) := by intro t; cases t <;> (intros; rfl)
abbrev t668 : Type := t7 → t661
noncomputable def k_bytesOf : t668 := (fun x0 => (@List.rec CV (fun _ => t661) (some []) (fun x1 _ x3 => (l255 x1 x3)) x0))
theorem k_bytesOf_law : ∀ x0, (Eq (k_bytesOf x0) (bytesOf x0)) := by
  intro t
  induction t with
  | nil  =>
    show (some []) = _
    conv => rhs; rw [Ev.bytesOf.eq_def]
    all_goals kernel_rfl
  | cons y0 y1 ih0 =>
    have e0 : (k_bytesOf y1) = (bytesOf y1) := by
      exact ih0
    show ((fun (x0 : CV) (_ : t7) (x2 : t661) => (l255 x0 x2)) y0 y1 (k_bytesOf y1)) = _
    rw [e0]
    conv => rhs; rw [Ev.bytesOf.eq_def]
    try simp only [l255_eq, l254_eq, l253_eq]
    all_goals kernel_rfl
theorem k_bytesOf_eq : @k_bytesOf = bytesOf := by
  funext a0; exact k_bytesOf_law a0
abbrev t669 : Type := Nat → t48
abbrev t670 : Type := S → t669
abbrev t671 : Type := IntKind → t670
noncomputable def l252 : t671 := (fun x0 => (@IntKind.rec (fun _ => t670) (fun _ _ _ _ _ => none) (fun _ _ _ _ _ => none) (fun _ _ _ _ _ => none) (fun _ _ _ _ _ => none) (fun x1 x2 x3 x4 x5 => (k_ifT_Ret (Nat.beq x5 (nat_lit 1)) (k_rdRow x1 x2 x3 x4 (fun x6 x7 => (@Option.rec t394 (fun _ => t4) none (fun x8 => ((fun x9 => (k_ok1 (CV.val (Value.string (ByteArray.mk (@List.toArray UInt8 x9)))) x7)) x8)) (k_bytesOf x6)))))) (fun _ _ _ _ _ => none) (fun _ _ _ _ _ => none) (fun _ _ _ _ _ => none) x0))
theorem l252_eq : ∀ x0 x1 x2 x3 x4 x5, (Eq (l252 x0 x1 x2 x3 x4 x5) (@bytesOf._sparseCasesOn_2 (fun _ => t4) x0 (k_ifT_Ret (Nat.beq x5 (nat_lit 1)) (k_rdRow x1 x2 x3 x4 (fun x6 x7 => (@Option.rec t394 (fun _ => t4) none (fun x8 => ((fun x9 => (k_ok1 (CV.val (Value.string (ByteArray.mk (@List.toArray UInt8 x9)))) x7)) x8)) (k_bytesOf x6))))) (fun _ => none))) := by intro t; cases t <;> (intros; rfl)
abbrev t672 : Type := TypeDesc → t670
noncomputable def l256 : t672 := (fun x0 => (@TypeDesc.rec (fun _ => t670) (fun _ _ _ _ _ => none) (fun _ _ _ _ _ => none) (fun x1 x2 x3 x4 x5 x6 => (l252 x1 x2 x3 x4 x5 x6)) (fun _ _ _ _ _ _ => none) (fun _ _ _ _ _ _ => none) (fun _ _ _ _ _ => none) (fun _ _ _ _ _ => none) (fun _ _ _ _ _ _ => none) (fun _ _ _ _ _ _ => none) (fun _ _ _ _ _ _ _ => none) (fun _ _ _ _ _ _ _ => none) (fun _ _ _ _ _ _ _ => none) (fun _ _ _ _ _ _ => none) (fun _ _ _ _ _ _ _ _ => none) (fun _ _ _ _ _ _ => none) (fun _ _ _ _ _ _ => none) (fun _ _ _ _ _ _ _ => none) x0))
theorem l256_eq : ∀ x0 x1 x2 x3 x4 x5, (Eq (l256 x0 x1 x2 x3 x4 x5) (@o_convert._sparseCasesOn_1 (fun _ => t4) x0 (fun x6 => (l252 x6 x1 x2 x3 x4 x5)) (fun _ => none))) := by intro t; cases t <;> (intros; rfl)
abbrev t673 : Type := t336 → t670
noncomputable def l257 : t673 := (fun x0 => (@Option.rec TypeDesc (fun _ => t670) (fun _ _ _ _ _ => none) (fun x1 x2 x3 x4 x5 x6 => (l256 x1 x2 x3 x4 x5 x6)) x0))
theorem l257_eq : ∀ x0 x1 x2 x3 x4 x5, (Eq (l257 x0 x1 x2 x3 x4 x5) (@elInfo._sparseCasesOn_3 TypeDesc (fun _ => t4) x0 (fun x6 => (l256 x6 x1 x2 x3 x4 x5)) (fun _ => none))) := by intro t; cases t <;> (intros; rfl)
abbrev t674 : Type := CV → t659
noncomputable def l258 : t674 := (fun x0 => (@CV.rec (fun _ => t659) (fun _ => PUnit.{1}) (fun _ _ _ => none) (fun x1 x2 x3 x4 => (l251 x1 x2 x3 x4)) (fun _ _ _ _ _ => none) (fun x1 x2 x3 _ x5 x6 x7 x8 => (l257 (Program.underlying x6 x8) x7 x1 x2 x3 x5)) (fun _ _ _ => none) (fun _ _ _ _ => none) (fun _ _ _ _ _ => none) (fun _ _ _ _ _ => none) (fun _ _ _ _ _ _ _ _ => none) (fun _ _ _ _ => none) (fun _ _ _ _ _ _ => none) PUnit.unit.{1} (fun _ _ _ _ => PUnit.unit.{1}) x0))
theorem l258_eq : ∀ x0 x1 x2 x3, (Eq (l258 x0 x1 x2 x3) (@appendV._sparseCasesOn_2 (fun _ => t4) x0 (fun x4 => (l251 x4 x1 x2 x3)) (fun x4 x5 x6 _ x8 => (l257 (Program.underlying x1 x3) x2 x4 x5 x6 x8)) (fun _ => none))) := by intro t; cases t <;> (intros; rfl)
abbrev t675 : Type := t81 → t659
noncomputable def l259 : t675 := (fun x0 => (@Option.rec CV (fun _ => t659) (fun _ _ _ => none) (fun x1 x2 x3 x4 => (l258 x1 x2 x3 x4)) x0))
theorem l259_eq : ∀ x0 x1 x2 x3, (Eq (l259 x0 x1 x2 x3) (@elInfo._sparseCasesOn_3 CV (fun _ => t4) x0 (fun x4 => (l258 x4 x1 x2 x3)) (fun _ => none))) := by intro t; cases t <;> (intros; rfl)
abbrev t676 : Type := t14 → t454
abbrev t677 : Type := Program → t676
abbrev t678 : Type := TypeDesc → t677
noncomputable def l260 : t678 := (fun x0 => (@TypeDesc.rec (fun _ => t677) (fun _ _ _ _ _ => none) (fun _ _ _ _ _ => none) (fun _ _ _ _ _ _ => none) (fun _ _ _ _ _ _ => none) (fun _ _ _ _ _ _ => none) (fun x1 x2 x3 x4 x5 => (l259 (k_ev x2 x3) x1 x4 x5)) (fun _ _ _ _ _ => none) (fun _ _ _ _ _ _ => none) (fun _ _ _ _ _ _ => none) (fun _ _ _ _ _ _ _ => none) (fun _ _ _ _ _ _ _ => none) (fun _ _ _ _ _ _ _ => none) (fun _ _ _ _ _ _ => none) (fun _ _ _ _ _ _ _ _ => none) (fun _ _ _ _ _ _ => none) (fun _ _ _ _ _ _ => none) (fun _ _ _ _ _ _ _ => none) x0))
theorem l260_eq : ∀ x0 x1 x2 x3 x4 x5, (Eq (l260 x0 x1 x2 x3 x4 x5) (@o_convert._sparseCasesOn_3 (fun _ => t4) x0 (l259 (k_ev x2 x3) x1 x4 x5) (fun _ => none))) := by intro t; cases t <;> (intros; rfl)
abbrev t679 : Type := t336 → t677
noncomputable def l261 : t679 := (fun x0 => (@Option.rec TypeDesc (fun _ => t677) (fun _ _ _ _ _ => none) (fun x1 x2 x3 x4 x5 x6 => (l260 x1 x2 x3 x4 x5 x6)) x0))
theorem l261_eq : ∀ x0 x1 x2 x3 x4 x5, (Eq (l261 x0 x1 x2 x3 x4 x5) (@elInfo._sparseCasesOn_3 TypeDesc (fun _ => t4) x0 (fun x6 => (l260 x6 x1 x2 x3 x4 x5)) (fun _ => none))) := by intro t; cases t <;> (intros; rfl)
abbrev t680 : Type := TypeDesc → t226
noncomputable def l262 : t680 := (fun x0 => (@TypeDesc.rec (fun _ => t226) (fun _ _ _ _ _ => none) (fun _ _ _ _ _ => none) (fun _ x2 x3 x4 x5 x6 => (l244 (Program.underlying x2 x4) x3 x5 x6)) (fun _ _ _ _ _ _ => none) (fun _ _ _ _ _ _ => none) (fun x1 x2 x3 x4 x5 => (l249 (Program.underlying x1 x3) x2 x4 x5)) (fun _ _ _ _ _ => none) (fun _ _ _ _ _ _ => none) (fun x1 x2 x3 x4 x5 x6 => (l261 (Program.underlying x2 x4) x2 x3 x5 x6 x1)) (fun _ _ _ _ _ _ _ => none) (fun _ _ _ _ _ _ _ => none) (fun _ _ _ _ _ _ _ => none) (fun _ _ _ _ _ _ => none) (fun _ _ _ _ _ _ _ _ => none) (fun _ _ _ _ _ _ => none) (fun _ _ _ _ _ _ => none) (fun _ _ _ _ _ _ _ => none) x0))
theorem l262_eq : ∀ x0 x1 x2 x3 x4 x5, (Eq (l262 x0 x1 x2 x3 x4 x5) (@o_convert._sparseCasesOn_2 (fun _ => t4) x0 (fun _ => (l244 (Program.underlying x1 x3) x2 x4 x5)) (l249 (Program.underlying x1 x3) x2 x4 x5) (fun x6 => (l261 (Program.underlying x1 x3) x1 x2 x4 x5 x6)) (fun _ => none))) := by intro t; cases t <;> (intros; rfl)
abbrev t681 : Type := t336 → t226
noncomputable def l263 : t681 := (fun x0 => (@Option.rec TypeDesc (fun _ => t226) (fun _ _ _ _ _ => none) (fun x1 x2 x3 x4 x5 x6 => (l262 x1 x2 x3 x4 x5 x6)) x0))
theorem l263_eq : ∀ x0 x1 x2 x3 x4 x5, (Eq (l263 x0 x1 x2 x3 x4 x5) (@elInfo._sparseCasesOn_3 TypeDesc (fun _ => t4) x0 (fun x6 => (l262 x6 x1 x2 x3 x4 x5)) (fun _ => none))) := by intro t; cases t <;> (intros; rfl)
abbrev t682 : Type := TypeId → t224
abbrev t683 : Type := t14 → t682
abbrev t684 : Type := Program → t683
noncomputable def k_o_convert : t684 := (fun x0 x1 x2 x3 x4 x5 => (l263 (Program.underlying x0 x2) x0 x1 x3 x4 x5))
theorem k_o_convert_eq : @k_o_convert = o_convert := by
  delta k_o_convert o_convert
  simp only [l252_eq, l258_eq, l246_eq, l256_eq, l245_eq, l240_eq, l248_eq, l262_eq, l263_eq, l261_eq, l259_eq, l251_eq, l260_eq, l249_eq, l257_eq, l241_eq, l242_eq, l247_eq, l250_eq, l244_eq, l243_eq]
  rw [k_retI_eq, k_ev_eq, k_ok1_eq, k_ifT_Ret_eq, k_rdRow_eq, k_bytesOf_eq]
  all_goals kernel_rfl

abbrev t685 : Type := TypeDesc → Bool
noncomputable def l264 : t685 := (fun x0 => (@TypeDesc.rec (fun _ => Bool) Bool.true Bool.true (fun _ => Bool.true) (fun _ => Bool.true) (fun _ => Bool.true) Bool.true Bool.true (fun _ => Bool.true) (fun _ => Bool.true) (fun _ _ => Bool.true) (fun _ _ => Bool.true) (fun _ _ => Bool.true) (fun _ => Bool.true) (fun _ _ _ => Bool.true) (fun _ => Bool.false) (fun _ => Bool.true) (fun _ _ => Bool.true) x0))
theorem l264_eq : ∀ x0, (Eq (l264 x0) (@ifaceOk'._sparseCasesOn_1 (fun _ => Bool) x0 (fun _ => Bool.false) (fun _ => Bool.true))) := by intro t; cases t <;> (intros; rfl)
noncomputable def k_ifaceOk' : t440 := (fun x0 x1 => (@Option.rec TypeDesc (fun _ => Bool) Bool.false (fun x2 => (l264 x2)) (Program.underlying x0 x1)))
theorem k_ifaceOk'_eq : @k_ifaceOk' = ifaceOk' := by
  delta k_ifaceOk' ifaceOk'
  simp only [l264_eq]
  all_goals kernel_rfl

noncomputable def k_o_makeInterface : t226 := (fun x0 x1 x2 x3 x4 => (@Option.rec CV (fun _ => t4) none (fun x5 => ((fun x6 => (k_ifT_Ret (k_ifaceOk' x0 x2) (k_ok1 (CV.iface x2 x6) x4))) x5)) (k_ev x1 x3)))
theorem k_o_makeInterface_eq : @k_o_makeInterface = o_makeInterface := by
  delta k_o_makeInterface o_makeInterface
  rw [k_ev_eq, k_ifT_Ret_eq, k_ok1_eq, k_ifaceOk'_eq]
  all_goals kernel_rfl

abbrev t686 : Type := FuncId → t252
abbrev t687 : Type := S → t686
abbrev t688 : Type := t31 → t687
noncomputable def l265 : t688 := (fun x0 => (@Option.rec t7 (fun _ => t687) (fun _ _ _ => none) (fun x1 x2 x3 x4 => (k_ok1 (CV.fn x3 x4 x1) x2)) x0))
theorem l265_eq : ∀ x0 x1 x2 x3, (Eq (l265 x0 x1 x2 x3) (@elInfo._sparseCasesOn_3 t7 (fun _ => t4) x0 (fun x4 => (k_ok1 (CV.fn x2 x3 x4) x1)) (fun _ => none))) := by intro t; cases t <;> (intros; rfl)
abbrev t689 : Type := FuncId → t4
abbrev t690 : Type := S → t689
abbrev t691 : Type := (Array Operand) → t690
abbrev t692 : Type := t14 → t691
abbrev t693 : Type := t31 → t692
noncomputable def l266 : t693 := (fun x0 => (@Option.rec t7 (fun _ => t692) (fun _ _ _ _ => none) (fun x1 x2 x3 x4 x5 => (l265 (k_evs x2 (@Array.toList Operand x3)) x4 x5 x1)) x0))
theorem l266_eq : ∀ x0 x1 x2 x3 x4, (Eq (l266 x0 x1 x2 x3 x4) (@elInfo._sparseCasesOn_3 t7 (fun _ => t4) x0 (fun x5 => (l265 (k_evs x1 (@Array.toList Operand x2)) x3 x4 x5)) (fun _ => none))) := by intro t; cases t <;> (intros; rfl)
abbrev t694 : Type := (Array Operand) → t8
abbrev t695 : Type := (Array Operand) → t694
abbrev t696 : Type := t14 → t695
abbrev t697 : Type := Fn → t696
noncomputable def l267 : t697 := (fun x0 => (@Fn.rec (fun _ => t696) (fun x1 x2 x3 x4 x5 => (l266 (k_evs x2 (@Array.toList Operand x3)) x2 x4 x5 x1)) (fun _ _ _ _ _ => none) (fun _ _ _ _ _ _ => none) (fun _ _ _ _ _ _ _ _ => none) (fun _ _ _ _ _ => none) x0))
theorem l267_eq : ∀ x0 x1 x2 x3 x4, (Eq (l267 x0 x1 x2 x3 x4) (@o_makeFunc._sparseCasesOn_1 (fun _ => t4) x0 (fun x5 => (l266 (k_evs x1 (@Array.toList Operand x2)) x1 x3 x4 x5)) (fun _ => none))) := by intro t; cases t <;> (intros; rfl)
abbrev t698 : Type := Fn → t695
abbrev t699 : Type := t14 → t698
abbrev t700 : Type := Program → t699
noncomputable def k_o_makeFunc : t700 := (fun _ x1 x2 x3 x4 x5 => (l267 x2 x1 x3 x4 x5))
theorem k_o_makeFunc_eq : @k_o_makeFunc = o_makeFunc := by
  delta k_o_makeFunc o_makeFunc
  simp only [l265_eq, l267_eq, l266_eq]
  rw [k_ok1_eq, k_evs_eq]
  all_goals kernel_rfl

abbrev t701 : Type := t461 → t8
noncomputable def l268 : t701 := (fun x0 => (@Option.rec t460 (fun _ => t8) (fun _ => none) (fun x1 x2 => (@Prod.rec TypeId TypeId (fun _ => t4) (fun x3 x4 => ((fun x5 _ => (k_nw_Ret x2 (CO.map x5 [] (nat_lit 0)) (fun x7 x8 => (k_ok1 (CV.map x7) x8)))) x3 x4)) x1)) x0))
theorem l268_eq : ∀ x0 x1, (Eq (l268 x0 x1) (@Option.rec t460 (fun _ => t4) none (fun x2 => (@Prod.rec TypeId TypeId (fun _ => t4) (fun x3 x4 => ((fun x5 _ => (k_nw_Ret x1 (CO.map x5 [] (nat_lit 0)) (fun x7 x8 => (k_ok1 (CV.map x7) x8)))) x3 x4)) x2)) x0)) := by intro t; cases t <;> (intros; rfl)
noncomputable def k_o_makeMap0 : t219 := (fun x0 _ x2 x3 => (l268 (k_mapInfo x0 x2) x3))
theorem k_o_makeMap0_eq : @k_o_makeMap0 = o_makeMap0 := by
  delta k_o_makeMap0 o_makeMap0
  simp only [l268_eq]
  rw [k_mapInfo_eq, k_nw_Ret_eq, k_ok1_eq]
  all_goals kernel_rfl

abbrev t702 : Type := Value → t321
noncomputable def l269 : t702 := (fun x0 => (@Value.rec (fun _ => t321) (fun _ => PUnit.{1}) (fun _ => PUnit.{1}) (fun _ _ _ => none) (fun _ _ x3 x4 => (k_nw_Ret x3 (CO.map x4 [] (nat_lit 0)) (fun x5 x6 => (k_ok1 (CV.map x5) x6)))) (fun _ _ _ _ => none) (fun _ _ _ _ _ => none) (fun _ _ _ => none) (fun _ _ _ => none) (fun _ _ _ _ _ => none) (fun _ _ _ => none) (fun _ _ _ => none) (fun _ _ _ _ _ _ _ => none) (fun _ _ => none) (fun _ _ _ _ _ => none) (fun _ _ => none) (fun _ _ _ _ => none) (fun _ _ _ _ => none) (fun _ _ => PUnit.unit.{1}) PUnit.unit.{1} (fun _ _ _ _ => PUnit.unit.{1}) x0))
theorem l269_eq : ∀ x0 x1 x2, (Eq (l269 x0 x1 x2) (@natOf._sparseCasesOn_2 (fun _ => t4) x0 (fun _ _ => (k_nw_Ret x1 (CO.map x2 [] (nat_lit 0)) (fun x5 x6 => (k_ok1 (CV.map x5) x6)))) (fun _ => none))) := by intro t; cases t <;> (intros; rfl)
abbrev t703 : Type := CV → t321
noncomputable def l270 : t703 := (fun x0 => (@CV.rec (fun _ => t321) (fun _ => PUnit.{1}) (fun _ _ => none) (fun x1 x2 x3 => (l269 x1 x2 x3)) (fun _ _ _ _ => none) (fun _ _ _ _ _ _ _ => none) (fun _ _ => none) (fun _ _ _ => none) (fun _ _ _ _ => none) (fun _ _ _ _ => none) (fun _ _ _ _ _ _ _ => none) (fun _ _ _ => none) (fun _ _ _ _ _ => none) PUnit.unit.{1} (fun _ _ _ _ => PUnit.unit.{1}) x0))
theorem l270_eq : ∀ x0 x1 x2, (Eq (l270 x0 x1 x2) (@natOf._sparseCasesOn_1 (fun _ => t4) x0 (fun x3 => (l269 x3 x1 x2)) (fun _ => none))) := by intro t; cases t <;> (intros; rfl)
abbrev t704 : Type := t81 → t321
noncomputable def l271 : t704 := (fun x0 => (@Option.rec CV (fun _ => t321) (fun _ _ => none) (fun x1 x2 x3 => (l270 x1 x2 x3)) x0))
theorem l271_eq : ∀ x0 x1 x2, (Eq (l271 x0 x1 x2) (@elInfo._sparseCasesOn_3 CV (fun _ => t4) x0 (fun x3 => (l270 x3 x1 x2)) (fun _ => none))) := by intro t; cases t <;> (intros; rfl)
abbrev t705 : Type := t461 → t192
noncomputable def l272 : t705 := (fun x0 => (@Option.rec t460 (fun _ => t192) (fun _ _ _ => none) (fun x1 x2 x3 x4 => (@Prod.rec TypeId TypeId (fun _ => t4) (fun x5 _ => (l271 (k_ev x2 x3) x4 x5)) x1)) x0))
theorem l272_eq : ∀ x0 x1 x2 x3, (Eq (l272 x0 x1 x2 x3) (@elInfo._sparseCasesOn_3 t460 (fun _ => t4) x0 (fun x4 => (@Prod.rec TypeId TypeId (fun _ => t4) (fun x5 _ => (l271 (k_ev x1 x2) x3 x5)) x4)) (fun _ => none))) := by intro t; cases t <;> (intros; rfl)
noncomputable def k_o_makeMap1 : t226 := (fun x0 x1 x2 x3 x4 => (l272 (k_mapInfo x0 x2) x1 x3 x4))
theorem k_o_makeMap1_eq : @k_o_makeMap1 = o_makeMap1 := by
  delta k_o_makeMap1 o_makeMap1
  simp only [l271_eq, l272_eq, l269_eq, l270_eq]
  rw [k_mapInfo_eq, k_nw_Ret_eq, k_ok1_eq, k_ev_eq]
  all_goals kernel_rfl

abbrev t706 : Type := Option Operand
abbrev t707 : Type := t706 → t8
abbrev t708 : Type := TypeId → t707
abbrev t709 : Type := t14 → t708
abbrev t710 : Type := Program → t709
noncomputable def k_mapF : t710 := (fun x0 x1 x2 x3 x4 => (@Option.rec Operand (fun _ => t4) (k_o_makeMap0 x0 x1 x2 x4) (fun x5 => ((fun x6 => (k_o_makeMap1 x0 x1 x2 x6 x4)) x5)) x3))
theorem k_mapF_eq : @k_mapF = mapF := by
  delta k_mapF mapF
  rw [k_o_makeMap1_eq, k_o_makeMap0_eq]
  all_goals kernel_rfl

abbrev t711 : Type := TypeId → t669
abbrev t712 : Type := S → t711
abbrev t713 : Type := t31 → t712
noncomputable def l273 : t713 := (fun x0 => (@Option.rec t7 (fun _ => t712) (fun _ _ _ _ _ _ => none) (fun x1 x2 x3 x4 x5 x6 x7 => (k_ifT_Ret (@Bool.rec (fun _ => Bool) Bool.false (k_Nat_blt (nat_lit 0) x4) (@Bool.rec (fun _ => Bool) Bool.false (Nat.beq (k_len x1) x4) (@Bool.rec (fun _ => Bool) Bool.false (Nat.ble x7 (nat_lit 1000000)) (@Bool.rec (fun _ => Bool) Bool.false (Nat.ble (Nat.mul x7 x5) (nat_lit 140737488355328)) (Nat.ble x6 x7))))) (k_nw_Ret x2 (CO.row x3 (k_repl x7 x1) Bool.false) (fun x8 x9 => (k_ok1 (CV.sl x8 (nat_lit 0) x6 (some x7) x4) x9))))) x0))
theorem l273_eq : ∀ x0 x1 x2 x3 x4 x5 x6, (Eq (l273 x0 x1 x2 x3 x4 x5 x6) (@elInfo._sparseCasesOn_3 t7 (fun _ => t4) x0 (fun x7 => (k_ifT_Ret (@Bool.rec (fun _ => Bool) Bool.false (k_Nat_blt (nat_lit 0) x3) (@Bool.rec (fun _ => Bool) Bool.false (Nat.beq (k_len x7) x3) (@Bool.rec (fun _ => Bool) Bool.false (Nat.ble x6 (nat_lit 1000000)) (@Bool.rec (fun _ => Bool) Bool.false (Nat.ble (Nat.mul x6 x4) (nat_lit 140737488355328)) (Nat.ble x5 x6))))) (k_nw_Ret x1 (CO.row x2 (k_repl x6 x7) Bool.false) (fun x8 x9 => (k_ok1 (CV.sl x8 (nat_lit 0) x5 (some x6) x3) x9))))) (fun _ => none))) := by intro t; cases t <;> (intros; rfl)
abbrev t714 : Type := t213 → t41
abbrev t715 : Type := Nat → t714
abbrev t716 : Type := Nat → t715
abbrev t717 : Type := TypeId → t716
abbrev t718 : Type := S → t717
abbrev t719 : Type := t164 → t718
noncomputable def l274 : t719 := (fun x0 => (@Option.rec Nat (fun _ => t718) (fun _ _ _ _ _ _ => none) (fun x1 x2 x3 x4 x5 x6 x7 => (l273 (k_valL x6) x2 x3 x4 x5 x7 x1)) x0))
theorem l274_eq : ∀ x0 x1 x2 x3 x4 x5 x6, (Eq (l274 x0 x1 x2 x3 x4 x5 x6) (@elInfo._sparseCasesOn_3 Nat (fun _ => t4) x0 (fun x7 => (l273 (k_valL x5) x1 x2 x3 x4 x6 x7)) (fun _ => none))) := by intro t; cases t <;> (intros; rfl)
abbrev t720 : Type := Int → t164
noncomputable def l276 : t720 := (fun x0 => (@Int.rec (fun _ => t164) (fun x1 => (some x1)) (fun _ => none) x0))
theorem l276_eq : ∀ x0, (Eq (l276 x0) (@natOf._sparseCasesOn_4 (fun _ => t164) x0 (fun x1 => (some x1)) (fun _ => none))) := by intro t; cases t <;> (intros; rfl)
abbrev t721 : Type := IntKind → t720
noncomputable def l277 : t721 := (fun x0 => (@IntKind.rec (fun _ => t720) (fun _ => none) (fun _ => none) (fun _ => none) (fun x1 => (l276 x1)) (fun _ => none) (fun _ => none) (fun _ => none) (fun _ => none) x0))
theorem l277_eq : ∀ x0 x1, (Eq (l277 x0 x1) (@natOf._sparseCasesOn_3 (fun _ => t164) x0 (l276 x1) (fun _ => none))) := by intro t; cases t <;> (intros; rfl)
abbrev t722 : Type := Value → t164
noncomputable def l278 : t722 := (fun x0 => (@Value.rec (fun _ => t164) (fun _ => PUnit.{1}) (fun _ => PUnit.{1}) (fun _ => none) (fun x1 x2 => (l277 x1 x2)) (fun _ _ => none) (fun _ _ _ => none) (fun _ => none) (fun _ => none) (fun _ _ _ => none) (fun _ => none) (fun _ => none) (fun _ _ _ _ _ => none) none (fun _ _ _ => none) none (fun _ _ => none) (fun _ _ => none) (fun _ _ => PUnit.unit.{1}) PUnit.unit.{1} (fun _ _ _ _ => PUnit.unit.{1}) x0))
theorem l278_eq : ∀ x0, (Eq (l278 x0) (@natOf._sparseCasesOn_2 (fun _ => t164) x0 (fun x1 x2 => (l277 x1 x2)) (fun _ => none))) := by intro t; cases t <;> (intros; rfl)
abbrev t723 : Type := CV → t164
noncomputable def l279 : t723 := (fun x0 => (@CV.rec (fun _ => t164) (fun _ => PUnit.{1}) none (fun x1 => (l278 x1)) (fun _ _ => none) (fun _ _ _ _ _ => none) none (fun _ => none) (fun _ _ => none) (fun _ _ => none) (fun _ _ _ _ _ => none) (fun _ => none) (fun _ _ _ => none) PUnit.unit.{1} (fun _ _ _ _ => PUnit.unit.{1}) x0))
theorem l279_eq : ∀ x0, (Eq (l279 x0) (@natOf._sparseCasesOn_1 (fun _ => t164) x0 (fun x1 => (l278 x1)) (fun _ => none))) := by intro t; cases t <;> (intros; rfl)
noncomputable def k_natOf : t723 := (fun x0 => (l279 x0))
theorem k_natOf_eq : @k_natOf = natOf := by
  delta k_natOf natOf
  simp only [l277_eq, l276_eq, l279_eq, l278_eq]
  all_goals kernel_rfl

abbrev t724 : Type := t213 → t19
abbrev t725 : Type := Nat → t724
abbrev t726 : Type := Nat → t725
abbrev t727 : Type := TypeId → t726
abbrev t728 : Type := S → t727
abbrev t729 : Type := t164 → t728
noncomputable def l275 : t729 := (fun x0 => (@Option.rec Nat (fun _ => t728) (fun _ _ _ _ _ _ => none) (fun x1 x2 x3 x4 x5 x6 x7 => (l274 (k_natOf x7) x2 x3 x4 x5 x6 x1)) x0))
theorem l275_eq : ∀ x0 x1 x2 x3 x4 x5 x6, (Eq (l275 x0 x1 x2 x3 x4 x5 x6) (@elInfo._sparseCasesOn_3 Nat (fun _ => t4) x0 (fun x7 => (l274 (k_natOf x6) x1 x2 x3 x4 x5 x7)) (fun _ => none))) := by intro t; cases t <;> (intros; rfl)
abbrev t730 : Type := t81 → t728
noncomputable def l280 : t730 := (fun x0 => (@Option.rec CV (fun _ => t728) (fun _ _ _ _ _ _ => none) (fun x1 x2 x3 x4 x5 x6 x7 => (l275 (k_natOf x7) x2 x3 x4 x5 x6 x1)) x0))
theorem l280_eq : ∀ x0 x1 x2 x3 x4 x5 x6, (Eq (l280 x0 x1 x2 x3 x4 x5 x6) (@elInfo._sparseCasesOn_3 CV (fun _ => t4) x0 (fun x7 => (l275 (k_natOf x6) x1 x2 x3 x4 x5 x7)) (fun _ => none))) := by intro t; cases t <;> (intros; rfl)
abbrev t731 : Type := Nat → t313
abbrev t732 : Type := TypeId → t731
abbrev t733 : Type := S → t732
abbrev t734 : Type := Operand → t733
abbrev t735 : Type := t14 → t734
abbrev t736 : Type := t81 → t735
noncomputable def l281 : t736 := (fun x0 => (@Option.rec CV (fun _ => t735) (fun _ _ _ _ _ _ _ => none) (fun x1 x2 x3 x4 x5 x6 x7 x8 => (l280 (k_ev x2 x3) x4 x5 x6 x7 x8 x1)) x0))
theorem l281_eq : ∀ x0 x1 x2 x3 x4 x5 x6 x7, (Eq (l281 x0 x1 x2 x3 x4 x5 x6 x7) (@elInfo._sparseCasesOn_3 CV (fun _ => t4) x0 (fun x8 => (l280 (k_ev x1 x2) x3 x4 x5 x6 x7 x8)) (fun _ => none))) := by intro t; cases t <;> (intros; rfl)
abbrev t737 : Type := t320 → t456
noncomputable def l282 : t737 := (fun x0 => (@Prod.rec Nat t319 (fun _ => t456) (fun x1 x2 x3 x4 x5 x6 x7 => (@Prod.rec Nat t213 (fun _ => t4) (fun x8 x9 => (l281 (k_ev x3 x4) x3 x5 x6 x7 x1 x8 x9)) x2)) x0))
theorem l282_eq : ∀ x0 x1 x2 x3 x4 x5, (Eq (l282 x0 x1 x2 x3 x4 x5) (@Prod.rec Nat t319 (fun _ => t4) (fun x6 x7 => (@Prod.rec Nat t213 (fun _ => t4) (fun x8 x9 => (l281 (k_ev x1 x2) x1 x3 x4 x5 x6 x8 x9)) x7)) x0)) := by intro t; cases t <;> (intros; rfl)
abbrev t738 : Type := t327 → t200
noncomputable def l283 : t738 := (fun x0 => (@Option.rec t326 (fun _ => t200) (fun _ _ _ _ => none) (fun x1 x2 x3 x4 x5 => (@Prod.rec TypeId t320 (fun _ => t4) (fun x6 x7 => (l282 x7 x2 x3 x4 x5 x6)) x1)) x0))
theorem l283_eq : ∀ x0 x1 x2 x3 x4, (Eq (l283 x0 x1 x2 x3 x4) (@elInfo._sparseCasesOn_3 t326 (fun _ => t4) x0 (fun x5 => (@Prod.rec TypeId t320 (fun _ => t4) (fun x6 x7 => (l282 x7 x1 x2 x3 x4 x6)) x5)) (fun _ => none))) := by intro t; cases t <;> (intros; rfl)
noncomputable def k_o_makeSlice : t487 := (fun x0 x1 x2 x3 x4 x5 => (l283 (k_elInfo x0 x2) x1 x3 x4 x5))
theorem k_o_makeSlice_eq : @k_o_makeSlice = o_makeSlice := by
  delta k_o_makeSlice o_makeSlice
  simp only [l281_eq, l273_eq, l280_eq, l282_eq, l275_eq, l274_eq, l283_eq]
  rw [k_elInfo_eq, k_ifT_Ret_eq, k_nw_Ret_eq, k_ok1_eq, k_repl_eq, k_len_eq, k_Nat_blt_eq, k_valL_eq, k_natOf_eq, k_ev_eq]
  all_goals kernel_rfl

abbrev t739 : Type := t706 → Bool
noncomputable def k_Option_isSome_Operand : t739 := (fun x0 => (@Option.rec Operand (fun _ => Bool) Bool.false (fun x1 => ((fun _ => Bool.true) x1)) x0))
theorem k_Option_isSome_Operand_eq : @k_Option_isSome_Operand = (@Option.isSome Operand) := by
  delta k_Option_isSome_Operand Option.isSome
  all_goals kernel_rfl

abbrev t740 : Type := Nat → t81
abbrev t741 : Type := Nat → t740
abbrev t742 : Type := Nat → t741
abbrev t743 : Type := Nat → t742
abbrev t744 : Type := Nat → t743
abbrev t745 : Type := Nat → t744
abbrev t746 : Type := Nat → t745
abbrev t747 : Type := Bool → t746
noncomputable def l285 : t747 := (fun x0 => (@Bool.rec (fun _ => t746) (fun x1 x2 x3 x4 x5 x6 x7 => (@Bool.rec (fun _ => t81) (some CV.e0) (some (CV.sl x2 (Nat.add x3 (Nat.mul x6 x1)) (Nat.sub x7 x6) none x5)) (k_Nat_blt x6 x4))) (fun _ x2 x3 _ x5 _ x7 => (some (CV.sl x2 x3 x7 none x5))) x0))
theorem l285_eq : ∀ x0 x1 x2 x3 x4 x5 x6 x7, (Eq (l285 x0 x1 x2 x3 x4 x5 x6 x7) (@Bool.rec (fun _ => t81) (@Bool.rec (fun _ => t81) (some CV.e0) (some (CV.sl x2 (Nat.add x3 (Nat.mul x6 x1)) (Nat.sub x7 x6) none x5)) (k_Nat_blt x6 x4)) (some (CV.sl x2 x3 x7 none x5)) x0)) := by intro t; cases t <;> (intros; rfl)
noncomputable def l286 : t747 := (fun x0 => (@Bool.rec (fun _ => t746) (fun x1 x2 x3 x4 x5 x6 x7 => (some (CV.sl x2 (Nat.add x3 (Nat.mul x5 x1)) (Nat.sub x6 x5) (some (Nat.sub x7 x5)) x4))) (fun _ x2 x3 x4 _ _ _ => (some (CV.sl x2 x3 (nat_lit 0) (some (nat_lit 0)) x4))) x0))
theorem l286_eq : ∀ x0 x1 x2 x3 x4 x5 x6 x7, (Eq (l286 x0 x1 x2 x3 x4 x5 x6 x7) (@Bool.rec (fun _ => t81) (some (CV.sl x2 (Nat.add x3 (Nat.mul x5 x1)) (Nat.sub x6 x5) (some (Nat.sub x7 x5)) x4)) (some (CV.sl x2 x3 (nat_lit 0) (some (nat_lit 0)) x4)) x0)) := by intro t; cases t <;> (intros; rfl)
abbrev t748 : Type := t164 → t746
noncomputable def l287 : t748 := (fun x0 => (@Option.rec Nat (fun _ => t746) (fun _ _ _ _ _ _ _ => none) (fun x1 x2 x3 x4 x5 x6 x7 x8 => ((fun x9 => (@Bool.rec (fun _ => t81) none (l286 (Nat.beq x9 x7) x2 x3 x4 x6 x7 x8 x9) (@Bool.rec (fun _ => Bool) Bool.false (Nat.ble x9 x5) (@Bool.rec (fun _ => Bool) Bool.false (Nat.ble x8 x9) (Nat.ble x7 x8))))) x1)) x0))
theorem l287_eq : ∀ x0 x1 x2 x3 x4 x5 x6 x7, (Eq (l287 x0 x1 x2 x3 x4 x5 x6 x7) (@Option.rec Nat (fun _ => t81) none (fun x8 => ((fun x9 => (@Bool.rec (fun _ => t81) none (l286 (Nat.beq x9 x6) x1 x2 x3 x5 x6 x7 x9) (@Bool.rec (fun _ => Bool) Bool.false (Nat.ble x9 x4) (@Bool.rec (fun _ => Bool) Bool.false (Nat.ble x7 x9) (Nat.ble x6 x7))))) x8)) x0)) := by intro t; cases t <;> (intros; rfl)
noncomputable def l289 : t720 := (fun x0 => (@Int.rec (fun _ => t164) (fun x1 => (some x1)) (fun _ => none) x0))
theorem l289_eq : ∀ x0, (Eq (l289 x0) (@natOf._sparseCasesOn_4 (fun _ => t164) x0 (fun x1 => (some x1)) (fun _ => none))) := by intro t; cases t <;> (intros; rfl)
abbrev t749 : Type := t568 → t164
noncomputable def l290 : t749 := (fun x0 => (@Option.rec Int (fun _ => t164) none (fun x1 => (l289 x1)) x0))
theorem l290_eq : ∀ x0, (Eq (l290 x0) (@elInfo._sparseCasesOn_3 Int (fun _ => t164) x0 (fun x1 => (l289 x1)) (fun _ => none))) := by intro t; cases t <;> (intros; rfl)
abbrev t750 : Type := Value → t568
noncomputable def l291 : t750 := (fun x0 => (@Value.rec (fun _ => t568) (fun _ => PUnit.{1}) (fun _ => PUnit.{1}) (fun _ => none) (fun _ x2 => (some x2)) (fun _ _ => none) (fun _ _ _ => none) (fun _ => none) (fun _ => none) (fun _ _ _ => none) (fun _ => none) (fun _ => none) (fun _ _ _ _ _ => none) none (fun _ _ _ => none) none (fun _ _ => none) (fun _ _ => none) (fun _ _ => PUnit.unit.{1}) PUnit.unit.{1} (fun _ _ _ _ => PUnit.unit.{1}) x0))
theorem l291_eq : ∀ x0, (Eq (l291 x0) (@natOf._sparseCasesOn_2 (fun _ => t568) x0 (fun _ x2 => (some x2)) (fun _ => none))) := by intro t; cases t <;> (intros; rfl)
abbrev t751 : Type := CV → t568
noncomputable def l292 : t751 := (fun x0 => (@CV.rec (fun _ => t568) (fun _ => PUnit.{1}) none (fun x1 => (l291 x1)) (fun _ _ => none) (fun _ _ _ _ _ => none) none (fun _ => none) (fun _ _ => none) (fun _ _ => none) (fun _ _ _ _ _ => none) (fun _ => none) (fun _ _ _ => none) PUnit.unit.{1} (fun _ _ _ _ => PUnit.unit.{1}) x0))
theorem l292_eq : ∀ x0, (Eq (l292 x0) (@natOf._sparseCasesOn_1 (fun _ => t568) x0 (fun x1 => (l291 x1)) (fun _ => none))) := by intro t; cases t <;> (intros; rfl)
noncomputable def k_anyInt : t751 := (fun x0 => (l292 x0))
theorem k_anyInt_eq : @k_anyInt = anyInt := by
  delta k_anyInt anyInt
  simp only [l291_eq, l292_eq]
  all_goals kernel_rfl

noncomputable def k_natAny : t723 := (fun x0 => (l290 (k_anyInt x0)))
theorem k_natAny_eq : @k_natAny = natAny := by
  delta k_natAny natAny
  simp only [l289_eq, l290_eq]
  rw [k_anyInt_eq]
  all_goals kernel_rfl

abbrev t752 : Type := t81 → t746
noncomputable def l288 : t752 := (fun x0 => (@Option.rec CV (fun _ => t746) (fun x1 x2 x3 x4 x5 x6 x7 => (@Bool.rec (fun _ => t81) none (l285 (Nat.beq x6 (nat_lit 0)) x1 x2 x3 x4 x5 x6 x7) (@Bool.rec (fun _ => Bool) Bool.false (Nat.ble x7 x4) (Nat.ble x6 x7)))) (fun x1 x2 x3 x4 x5 x6 x7 x8 => ((fun x9 x10 x11 => (l287 (k_natAny x11) x2 x3 x4 x5 x6 x9 x10)) x7 x8 x1)) x0))
theorem l288_eq : ∀ x0 x1 x2 x3 x4 x5 x6 x7, (Eq (l288 x0 x1 x2 x3 x4 x5 x6 x7) (@Option.rec CV (fun _ => t81) (@Bool.rec (fun _ => t81) none (l285 (Nat.beq x6 (nat_lit 0)) x1 x2 x3 x4 x5 x6 x7) (@Bool.rec (fun _ => Bool) Bool.false (Nat.ble x7 x4) (Nat.ble x6 x7))) (fun x8 => ((fun x9 x10 x11 => (l287 (k_natAny x11) x1 x2 x3 x4 x5 x9 x10)) x6 x7 x8)) x0)) := by intro t; cases t <;> (intros; rfl)
abbrev t753 : Type := t81 → t744
abbrev t754 : Type := Nat → t753
abbrev t755 : Type := t164 → t754
noncomputable def l293 : t755 := (fun x0 => (@Option.rec Nat (fun _ => t754) (fun _ _ _ _ _ _ _ => none) (fun x1 x2 x3 x4 x5 x6 x7 x8 => (l288 x3 x2 x4 x5 x6 x7 x8 x1)) x0))
theorem l293_eq : ∀ x0 x1 x2 x3 x4 x5 x6 x7, (Eq (l293 x0 x1 x2 x3 x4 x5 x6 x7) (@elInfo._sparseCasesOn_3 Nat (fun _ => t81) x0 (fun x8 => (l288 x2 x1 x3 x4 x5 x6 x7 x8)) (fun _ => none))) := by intro t; cases t <;> (intros; rfl)
abbrev t756 : Type := t81 → t164
abbrev t757 : Type := Nat → t756
noncomputable def k_bound : t757 := (fun x0 x1 => (@Option.rec CV (fun _ => t164) (some x0) (fun x2 => ((fun x3 => (k_natAny x3)) x2)) x1))
theorem k_bound_eq : @k_bound = bound := by
  delta k_bound bound
  rw [k_natAny_eq]
  all_goals kernel_rfl

abbrev t758 : Type := t81 → t743
abbrev t759 : Type := t81 → t758
abbrev t760 : Type := Nat → t759
abbrev t761 : Type := t164 → t760
noncomputable def l294 : t761 := (fun x0 => (@Option.rec Nat (fun _ => t760) (fun _ _ _ _ _ _ _ => none) (fun x1 x2 x3 x4 x5 x6 x7 x8 => (l293 (k_bound x7 x3) x2 x4 x5 x6 x7 x8 x1)) x0))
theorem l294_eq : ∀ x0 x1 x2 x3 x4 x5 x6 x7, (Eq (l294 x0 x1 x2 x3 x4 x5 x6 x7) (@elInfo._sparseCasesOn_3 Nat (fun _ => t81) x0 (fun x8 => (l293 (k_bound x6 x2) x1 x3 x4 x5 x6 x7 x8)) (fun _ => none))) := by intro t; cases t <;> (intros; rfl)
noncomputable def l295 : t747 := (fun x0 => (@Bool.rec (fun _ => t746) (fun x1 x2 x3 x4 x5 x6 x7 => (some (CV.sl x2 (Nat.add x3 (Nat.mul x5 x1)) (Nat.sub x6 x5) (some (Nat.sub x7 x5)) x4))) (fun _ x2 x3 x4 _ _ _ => (some (CV.sl x2 x3 (nat_lit 0) (some (nat_lit 0)) x4))) x0))
theorem l295_eq : ∀ x0 x1 x2 x3 x4 x5 x6 x7, (Eq (l295 x0 x1 x2 x3 x4 x5 x6 x7) (@Bool.rec (fun _ => t81) (some (CV.sl x2 (Nat.add x3 (Nat.mul x5 x1)) (Nat.sub x6 x5) (some (Nat.sub x7 x5)) x4)) (some (CV.sl x2 x3 (nat_lit 0) (some (nat_lit 0)) x4)) x0)) := by intro t; cases t <;> (intros; rfl)
noncomputable def l296 : t748 := (fun x0 => (@Option.rec Nat (fun _ => t746) (fun _ _ _ _ _ _ _ => none) (fun x1 x2 x3 x4 x5 x6 x7 x8 => (@Bool.rec (fun _ => t81) none (l295 (Nat.beq x1 x7) x2 x3 x4 x6 x7 x8 x1) (@Bool.rec (fun _ => Bool) Bool.false (Nat.ble x1 x5) (@Bool.rec (fun _ => Bool) Bool.false (Nat.ble x8 x1) (Nat.ble x7 x8))))) x0))
theorem l296_eq : ∀ x0 x1 x2 x3 x4 x5 x6 x7, (Eq (l296 x0 x1 x2 x3 x4 x5 x6 x7) (@elInfo._sparseCasesOn_3 Nat (fun _ => t81) x0 (fun x8 => (@Bool.rec (fun _ => t81) none (l295 (Nat.beq x8 x6) x1 x2 x3 x5 x6 x7 x8) (@Bool.rec (fun _ => Bool) Bool.false (Nat.ble x8 x4) (@Bool.rec (fun _ => Bool) Bool.false (Nat.ble x7 x8) (Nat.ble x6 x7))))) (fun _ => none))) := by intro t; cases t <;> (intros; rfl)
noncomputable def l297 : t755 := (fun x0 => (@Option.rec Nat (fun _ => t754) (fun _ _ _ _ _ _ _ => none) (fun x1 x2 x3 x4 x5 x6 x7 x8 => (l296 (k_bound x6 x3) x2 x4 x5 x6 x7 x8 x1)) x0))
theorem l297_eq : ∀ x0 x1 x2 x3 x4 x5 x6 x7, (Eq (l297 x0 x1 x2 x3 x4 x5 x6 x7) (@elInfo._sparseCasesOn_3 Nat (fun _ => t81) x0 (fun x8 => (l296 (k_bound x5 x2) x1 x3 x4 x5 x6 x7 x8)) (fun _ => none))) := by intro t; cases t <;> (intros; rfl)
abbrev t762 : Type := t81 → t753
abbrev t763 : Type := Nat → t762
abbrev t764 : Type := t164 → t763
noncomputable def l298 : t764 := (fun x0 => (@Option.rec Nat (fun _ => t763) (fun _ _ _ _ _ _ _ _ => none) (fun x1 x2 x3 x4 x5 x6 x7 x8 x9 => (l297 (k_bound x7 x3) x2 x4 x5 x6 x8 x9 x1)) x0))
theorem l298_eq : ∀ x0 x1 x2 x3 x4 x5 x6 x7 x8, (Eq (l298 x0 x1 x2 x3 x4 x5 x6 x7 x8) (@elInfo._sparseCasesOn_3 Nat (fun _ => t81) x0 (fun x9 => (l297 (k_bound x6 x2) x1 x3 x4 x5 x7 x8 x9)) (fun _ => none))) := by intro t; cases t <;> (intros; rfl)
abbrev t765 : Type := t81 → t759
abbrev t766 : Type := Nat → t765
abbrev t767 : Type := t164 → t766
noncomputable def l299 : t767 := (fun x0 => (@Option.rec Nat (fun _ => t766) (fun x1 x2 x3 x4 x5 x6 x7 x8 => (@Bool.rec (fun _ => t81) none (l294 (k_bound (nat_lit 0) x2) x1 x3 x4 x5 x6 x7 x8) (Nat.beq x8 x1))) (fun x1 x2 x3 x4 x5 x6 x7 x8 x9 => ((fun x10 x11 x12 x13 x14 => (@Bool.rec (fun _ => t81) none (l298 (k_bound (nat_lit 0) x3) x2 x4 x5 x10 x11 x12 x13 x14) (Nat.beq x14 x2))) x6 x7 x8 x1 x9)) x0))
theorem l299_eq : ∀ x0 x1 x2 x3 x4 x5 x6 x7 x8, (Eq (l299 x0 x1 x2 x3 x4 x5 x6 x7 x8) (@Option.rec Nat (fun _ => t81) (@Bool.rec (fun _ => t81) none (l294 (k_bound (nat_lit 0) x2) x1 x3 x4 x5 x6 x7 x8) (Nat.beq x8 x1)) (fun x9 => ((fun x10 x11 x12 x13 x14 => (@Bool.rec (fun _ => t81) none (l298 (k_bound (nat_lit 0) x2) x1 x3 x4 x10 x11 x12 x13 x14) (Nat.beq x14 x1))) x5 x6 x7 x9 x8)) x0)) := by intro t; cases t <;> (intros; rfl)
abbrev t768 : Type := t81 → t81
abbrev t769 : Type := t81 → t768
abbrev t770 : Type := t164 → t769
end Go.EvK
