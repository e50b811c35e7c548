/- Forms of the definitions that the kernel runs fast, each proved equal. No condition. -/
import Derived.Test.YtdobapekmlihdabGreatIsP6
import Derived.KernelRfl
set_option linter.unusedVariables false
set_option linter.unusedSimpArgs false
set_option maxRecDepth 100000
namespace Go.EvK
open Go.Eng Go.Ev
noncomputable section
abbrev t0:=Bool → Bool
def l0 : t0 := (λx0=>(@Bool.rec (λ_=>Bool) Bool.false Bool.true x0))
theorem l0_eq : ∀ x0, (Eq (l0 x0) (@saysT._sparseCasesOn_1 (λ_=>Bool) x0 Bool.true (λ_=>Bool.false))) := by intro t; cases t <;> (intros; rfl)
abbrev t1:=Value → Bool
def l1 : t1 := (λx0=>(@Value.rec (λ_=>Bool) (λ_=>PUnit.{1}) (λ_=>PUnit.{1}) (λx1=>(l0 x1)) (λ_ _=>Bool.false) (λ_ _=>Bool.false) (λ_ _ _=>Bool.false) (λ_=>Bool.false) (λ_=>Bool.false) (λ_ _ _=>Bool.false) (λ_=>Bool.false) (λ_=>Bool.false) (λ_ _ _ _ _=>Bool.false) Bool.false (λ_ _ _=>Bool.false) Bool.false (λ_ _=>Bool.false) (λ_ _=>Bool.false) (λ_ _=>PUnit.unit.{1}) PUnit.unit.{1} (λ_ _ _ _=>PUnit.unit.{1}) x0))
theorem l1_eq : ∀ x0, (Eq (l1 x0) (@guardV._sparseCasesOn_2 (λ_=>Bool) x0 (λx1=>(l0 x1)) (λ_=>Bool.false))) := by intro t; cases t <;> (intros; rfl)
abbrev t2:=CV → Bool
def l2 : t2 := (λx0=>(@CV.rec (λ_=>Bool) (λ_=>PUnit.{1}) Bool.false (λx1=>(l1 x1)) (λ_ _=>Bool.false) (λ_ _ _ _ _=>Bool.false) Bool.false (λ_=>Bool.false) (λ_ _=>Bool.false) (λ_ _=>Bool.false) (λ_ _ _ _ _=>Bool.false) (λ_=>Bool.false) (λ_ _ _=>Bool.false) PUnit.unit.{1} (λ_ _ _ _=>PUnit.unit.{1}) x0))
theorem l2_eq : ∀ x0, (Eq (l2 x0) (@codeD._sparseCasesOn_2 (λ_=>Bool) x0 (λx1=>(l1 x1)) (λ_=>Bool.false))) := by intro t; cases t <;> (intros; rfl)
abbrev t3:=Ret → Bool
def l3 : t3 := (λx0=>(@Ret.rec (λ_=>Bool) (λx1 _=>(l2 x1)) (λ_ _=>Bool.false) x0))
theorem l3_eq : ∀ x0, (Eq (l3 x0) (@regP._sparseCasesOn_2 (λ_=>Bool) x0 (λx1 _=>(l2 x1)) (λ_=>Bool.false))) := by intro t; cases t <;> (intros; rfl)
abbrev t4:=Option Ret
abbrev t5:=t4 → Bool
def l4 : t5 := (λx0=>(@Option.rec Ret (λ_=>Bool) Bool.false (λx1=>(l3 x1)) x0))
theorem l4_eq : ∀ x0, (Eq (l4 x0) (@methV._sparseCasesOn_2 Ret (λ_=>Bool) x0 (λx1=>(l3 x1)) (λ_=>Bool.false))) := by intro t; cases t <;> (intros; rfl)
abbrev t6:=FuncId → Bool
abbrev t7:=List CV
abbrev t8:=S → t4
abbrev t9:=t7 → t8
def l5 : t9 := (λx0=>(@List.rec CV (λ_=>t8) (λx1=>(some (Ret.ok (CV.val (Value.bool Bool.true)) x1))) (λ_ _ _ _=>none) x0))
theorem l5_eq : ∀ x0 x1, (Eq (l5 x0 x1) (@methV._sparseCasesOn_1 CV (λ_=>t4) x0 (some (Ret.ok (CV.val (Value.bool Bool.true)) x1)) (λ_=>none))) := by intro t; cases t <;> (intros; rfl)
abbrev t10:=t7 → CV
abbrev t11:=CV → t10
abbrev t12:=t7 → t11
def l7 : t12 := (λx0=>(@List.rec CV (λ_=>t11) (λx1 _=>x1) (λ_ _ _ x4 x5=>(CV.tup (x4 :: x5))) x0))
theorem l7_eq : ∀ x0 x1 x2, (Eq (l7 x0 x1 x2) (@methV._sparseCasesOn_1 CV (λ_=>CV) x0 x1 (λ_=>(CV.tup (x1 :: x2))))) := by intro t; cases t <;> (intros; rfl)
abbrev t13:=t7 → t10
def l8 : t13 := (λx0=>(@List.rec CV (λ_=>t10) (λx1=>(CV.tup x1)) (λx1 x2 _ _=>(l7 x2 x1 x2)) x0))
theorem l8_eq : ∀ x0 x1, (Eq (l8 x0 x1) (@setPs._sparseCasesOn_1 CV (λ_=>CV) x0 (λx2 x3=>(l7 x3 x2 x3)) (λ_=>(CV.tup x1)))) := by intro t; cases t <;> (intros; rfl)
def k_tupV : t10 := (λx0=>(l8 x0 x0))
theorem k_tupV_eq : @k_tupV = tupV := by
  delta k_tupV tupV
  simp only [l8_eq, l7_eq]
  all_goals kernel_rfl

abbrev t14:=Tr CV
abbrev t15:=t9 → t4
abbrev t16:=S → t15
abbrev t17:=t14 → t16
abbrev t18:=Program → t17
abbrev t19:=CV → t4
abbrev t20:=S → t19
abbrev t21:=t18 → t20
abbrev t22:=t9 → t21
abbrev t23:=t14 → t22
abbrev t24:=Program → t23
abbrev t25:=t7 → t24
def l9 : t25 := (λx0=>(@List.rec CV (λ_=>t24) (λx1 x2 x3 x4 x5 x6=>(x4 x1 x2 x5 (λx7 x8=>(x3 (x6 :: x7) x8)))) (λ_ _ _ _ _ _ _ _ _=>none) x0))
theorem l9_eq : ∀ x0 x1 x2 x3 x4 x5 x6, (Eq (l9 x0 x1 x2 x3 x4 x5 x6) (@methV._sparseCasesOn_1 CV (λ_=>t4) x0 (x4 x1 x2 x5 (λx7 x8=>(x3 (x6 :: x7) x8))) (λ_=>none))) := by intro t; cases t <;> (intros; rfl)
abbrev t26:=t18 → t8
abbrev t27:=t9 → t26
abbrev t28:=t14 → t27
abbrev t29:=Program → t28
abbrev t30:=t7 → t29
def l10 : t30 := (λx0=>(@List.rec CV (λ_=>t29) (λ_ _ _ _ _=>none) (λx1 x2 _ x4 x5 x6 x7 x8=>(l9 x2 x4 x5 x6 x7 x8 x1)) x0))
theorem l10_eq : ∀ x0 x1 x2 x3 x4 x5, (Eq (l10 x0 x1 x2 x3 x4 x5) (@setPs._sparseCasesOn_1 CV (λ_=>t4) x0 (λx6 x7=>(l9 x7 x1 x2 x3 x4 x5 x6)) (λ_=>none))) := by intro t; cases t <;> (intros; rfl)
abbrev t31:=Option t7
abbrev t32:=t7 → t31
abbrev t33:=Nat → t32
def k_takeN : t33 := (λx0 x1=>(@Nat.rec (λ_=>t32) (λ_=>(some [])) (λ_ x3 x4=>(@List.rec CV (λ_=>t31) none (λx5 x6 _=>(@Option.rec t7 (λ_=>t31) none (λx8=>(some (x5 :: x8))) (x3 x6))) x4)) x0 x1))
theorem k_takeN_law : ∀ x0 x1, (Eq (k_takeN x0 x1) (takeN x0 x1)) := by
  intro t
  induction t with
  | zero  =>
    intro z0
    show ((fun (_ : t7) => (some [])) z0) = _
    conv => rhs; rw [Ev.takeN.eq_def]
    all_goals kernel_rfl
  | succ y0 ih0 =>
    intro z0
    have e0 : (fun (x0 : t7) => (k_takeN y0 x0)) = (fun (x0 : t7) => (takeN y0 x0)) := by
      funext z0; exact ih0 z0
    show ((fun (_ : Nat) (x1 : t32) (x2 : t7) => (@List.rec CV (fun (_ : t7) => t31) none (fun (x3 : CV) (x4 : t7) (_ : t31) => (@Option.rec t7 (fun (_ : t31) => t31) none (fun (x6 : t7) => (some (x3 :: x6))) (x1 x4))) x2)) y0 (fun (x0 : t7) => (k_takeN y0 x0)) z0) = _
    rw [e0]
    conv => rhs; rw [Ev.takeN.eq_def]
    all_goals kernel_rfl
theorem k_takeN_eq : @k_takeN = takeN := by
  funext a0 a1; exact k_takeN_law a0 a1
def k_dropN : t33 := (λx0 x1=>(@Nat.rec (λ_=>t32) (λx2=>(some x2)) (λ_ x3 x4=>(@List.rec CV (λ_=>t31) none (λ_ x6 _=>(x3 x6)) x4)) x0 x1))
theorem k_dropN_law : ∀ x0 x1, (Eq (k_dropN x0 x1) (dropN x0 x1)) := by
  intro t
  induction t with
  | zero  =>
    intro z0
    show ((fun (x0 : t7) => (some x0)) z0) = _
    conv => rhs; rw [Ev.dropN.eq_def]
    all_goals kernel_rfl
  | succ y0 ih0 =>
    intro z0
    have e0 : (fun (x0 : t7) => (k_dropN y0 x0)) = (fun (x0 : t7) => (dropN y0 x0)) := by
      funext z0; exact ih0 z0
    show ((fun (_ : Nat) (x1 : t32) (x2 : t7) => (@List.rec CV (fun (_ : t7) => t31) none (fun (_ : CV) (x4 : t7) (_ : t31) => (x1 x4)) x2)) y0 (fun (x0 : t7) => (k_dropN y0 x0)) z0) = _
    rw [e0]
    conv => rhs; rw [Ev.dropN.eq_def]
    all_goals kernel_rfl
theorem k_dropN_eq : @k_dropN = dropN := by
  funext a0 a1; exact k_dropN_law a0 a1
abbrev t34:=Nat → t31
abbrev t35:=Nat → t34
abbrev t36:=t7 → t35
def k_part : t36 := (λx0 x1 x2=>(@Option.rec t7 (λ_=>t31) none (λx3=>((λx4=>(k_takeN x2 x4)) x3)) (k_dropN x1 x0)))
theorem k_part_eq : @k_part = Ev.part := by
  delta k_part Ev.part
  rw [k_dropN_eq, k_takeN_eq]
  all_goals kernel_rfl

abbrev t37:=t9 → t8
abbrev t38:=Nat → t37
abbrev t39:=Nat → t38
abbrev t40:=CO → t39
def l12 : t40 := (λx0=>(@CO.rec (λ_=>t39) (λ_ x2 _ x4 x5 x6 x7=>(@Option.rec t7 (λ_=>t4) none (λx8=>((λx9=>(x6 x9 x7)) x8)) (k_part x2 x4 x5))) (λ_ _ _ _ _ _ _=>none) (λ_ _ _ _ _ _ _ _ _ _ _ _=>none) (λ_ _ _ _=>none) (λ_ _ _ _=>none) x0))
theorem l12_eq : ∀ x0 x1 x2 x3 x4, (Eq (l12 x0 x1 x2 x3 x4) (@rdRow._sparseCasesOn_1 (λ_=>t4) x0 (λ_ x6 _=>(@Option.rec t7 (λ_=>t4) none (λx8=>((λx9=>(x3 x9 x4)) x8)) (k_part x6 x1 x2))) (λ_=>none))) := by intro t; cases t <;> (intros; rfl)
abbrev t41:=Nat → t4
abbrev t42:=t41 → t4
abbrev t43:=Nat → t42
def k_fN_Ret : t43 := (λx0 x1=>(@Nat.rec (λ_=>t4) (x1 (nat_lit 0)) (λx2 _=>((λx4=>(x1 (Nat.add x4 (nat_lit 1)))) x2)) x0))
theorem k_fN_Ret_eq : @k_fN_Ret = (@fN Ret) := by
  delta k_fN_Ret fN
  all_goals kernel_rfl

abbrev t44:=Option CO
abbrev t45:=CO → t8
abbrev t46:=Tr CO
abbrev t47:=Nat → t41
abbrev t48:=Nat → t47
abbrev t49:=t46 → t48
abbrev t50:=t45 → t49
abbrev t51:=Nat → t50
abbrev t52:=t44 → t51
def l13 : t52 := (λx0=>(@Option.rec CO (λ_=>t51) (λ_ _ _ _ _ _=>none) (λx1 x2 x3 x4 x5 x6 x7=>((λx8=>(k_fN_Ret (Nat.lor x6 (Nat.shiftLeft (nat_lit 1) x2)) (λx9=>(x3 x8 (S.mk x4 x5 x9 x7))))) x1)) x0))
theorem l13_eq : ∀ x0 x1 x2 x3 x4 x5 x6, (Eq (l13 x0 x1 x2 x3 x4 x5 x6) (@Option.rec CO (λ_=>t4) none (λx7=>((λx8=>(k_fN_Ret (Nat.lor x5 (Nat.shiftLeft (nat_lit 1) x1)) (λx9=>(x2 x8 (S.mk x3 x4 x9 x6))))) x7)) x0)) := by intro t; cases t <;> (intros; rfl)
abbrev t53:=t45 → t4
abbrev t54:=Nat → t53
abbrev t55:=S → t54
def l14 : t55 := (λx0=>(@S.rec (λ_=>t54) (λx1 x2 x3 x4 x5 x6=>((λx7 x8 x9 x10=>(l13 (getCO x7 x5) x5 x6 x7 x8 x9 x10)) x1 x2 x3 x4)) x0))
theorem l14_eq : ∀ x0 x1 x2, (Eq (l14 x0 x1 x2) (@S.rec (λ_=>t4) (λx3 x4 x5 x6=>((λx7 x8 x9 x10=>(l13 (getCO x7 x1) x1 x2 x7 x8 x9 x10)) x3 x4 x5 x6)) x0)) := by intro t; cases t <;> (intros; rfl)
def k_rd_Ret : t55 := (λx0 x1 x2=>(l14 x0 x1 x2))
theorem k_rd_Ret_eq : @k_rd_Ret = (@rd Ret) := by
  delta k_rd_Ret rd
  simp only [l13_eq, l14_eq]
  rw [k_fN_Ret_eq, getCO_eq]
  all_goals kernel_rfl

abbrev t56:=Nat → t15
abbrev t57:=Nat → t56
abbrev t58:=Nat → t57
abbrev t59:=S → t58
def k_rdRow : t59 := (λx0 x1 x2 x3 x4=>(k_rd_Ret x0 x1 (λx5 x6=>(l12 x5 x2 x3 x4 x6))))
theorem k_rdRow_eq : @k_rdRow = rdRow := by
  delta k_rdRow rdRow
  simp only [l12_eq]
  rw [k_rd_Ret_eq, k_part_eq]
  all_goals kernel_rfl

abbrev t60:=t18 → t48
abbrev t61:=t9 → t60
abbrev t62:=S → t61
abbrev t63:=t14 → t62
abbrev t64:=Program → t63
abbrev t65:=Bool → t64
def l11 : t65 := (λx0=>(@Bool.rec (λ_=>t64) (λx1 x2 x3 x4 x5 x6 x7 _=>(k_rdRow x3 x6 x7 (nat_lit 1) (λx9 x10=>(l10 x9 x1 x2 x4 x5 x10)))) (λx1 x2 x3 x4 x5 x6 x7 x8=>(k_rdRow x3 x6 x7 x8 (λx9 x10=>(x5 x1 x2 x10 (λx11 x12=>(x4 ((CV.agg x9) :: x11) x12)))))) x0))
theorem l11_eq : ∀ x0 x1 x2 x3 x4 x5 x6 x7 x8, (Eq (l11 x0 x1 x2 x3 x4 x5 x6 x7 x8) (@Bool.rec (λ_=>t4) (k_rdRow x3 x6 x7 (nat_lit 1) (λx9 x10=>(l10 x9 x1 x2 x4 x5 x10))) (k_rdRow x3 x6 x7 x8 (λx9 x10=>(x5 x1 x2 x10 (λx11 x12=>(x4 ((CV.agg x9) :: x11) x12))))) x0)) := by intro t; cases t <;> (intros; rfl)
abbrev t66:=Prod Bool Nat
abbrev t67:=Option t66
abbrev t68:=t18 → t47
abbrev t69:=t9 → t68
abbrev t70:=S → t69
abbrev t71:=t14 → t70
abbrev t72:=Program → t71
abbrev t73:=t67 → t72
def l15 : t73 := (λx0=>(@Option.rec t66 (λ_=>t72) (λ_ _ _ _ _ _ _=>none) (λx1 x2 x3 x4 x5 x6 x7 x8=>(@Prod.rec Bool Nat (λ_=>t4) (λx9 x10=>(l11 x9 x2 x3 x4 x5 x6 x7 x8 x10)) x1)) x0))
theorem l15_eq : ∀ x0 x1 x2 x3 x4 x5 x6 x7, (Eq (l15 x0 x1 x2 x3 x4 x5 x6 x7) (@methV._sparseCasesOn_2 t66 (λ_=>t4) x0 (λx8=>(@Prod.rec Bool Nat (λ_=>t4) (λx9 x10=>(l11 x9 x1 x2 x3 x4 x5 x6 x7 x10)) x8)) (λ_=>none))) := by intro t; cases t <;> (intros; rfl)
abbrev t74:=TypeId → t4
abbrev t75:=t18 → t74
abbrev t76:=t9 → t75
abbrev t77:=S → t76
abbrev t78:=t14 → t77
abbrev t79:=Program → t78
abbrev t80:=CV → t79
def l16 : t80 := (λx0=>(@CV.rec (λ_=>t79) (λ_=>PUnit.{1}) (λ_ _ _ _ _ _=>none) (λ_ _ _ _ _ _ _=>none) (λx1 x2 x3 x4 x5 x6 x7 x8=>(l15 (tyInfo x3 x8) x3 x4 x5 x6 x7 x1 x2)) (λ_ _ _ _ _ _ _ _ _ _ _=>none) (λ_ _ _ _ _ _=>none) (λ_ _ _ _ _ _ _=>none) (λ_ _ _ _ _ _ _ _=>none) (λ_ _ _ _ _ _ _ _=>none) (λ_ _ _ _ _ _ _ _ _ _ _=>none) (λ_ _ _ _ _ _ _=>none) (λ_ _ _ _ _ _ _ _ _=>none) PUnit.unit.{1} (λ_ _ _ _=>PUnit.unit.{1}) x0))
theorem l16_eq : ∀ x0 x1 x2 x3 x4 x5 x6, (Eq (l16 x0 x1 x2 x3 x4 x5 x6) (@resV._sparseCasesOn_3 (λ_=>t4) x0 (λx7 x8=>(l15 (tyInfo x1 x6) x1 x2 x3 x4 x5 x7 x8)) (λ_=>none))) := by intro t; cases t <;> (intros; rfl)
abbrev t81:=Option CV
abbrev t82:=t81 → t79
def l17 : t82 := (λx0=>(@Option.rec CV (λ_=>t79) (λ_ _ _ _ _ _=>none) (λx1 x2 x3 x4 x5 x6 x7=>(l16 x1 x2 x3 x4 x5 x6 x7)) x0))
theorem l17_eq : ∀ x0 x1 x2 x3 x4 x5 x6, (Eq (l17 x0 x1 x2 x3 x4 x5 x6) (@methV._sparseCasesOn_2 CV (λ_=>t4) x0 (λx7=>(l16 x7 x1 x2 x3 x4 x5 x6)) (λ_=>none))) := by intro t; cases t <;> (intros; rfl)
abbrev t83:=t18 → t4
abbrev t84:=t9 → t83
abbrev t85:=S → t84
abbrev t86:=t14 → t85
abbrev t87:=Program → t86
abbrev t88:=ResultVar → t87
def l18 : t88 := (λx0=>(@ResultVar.rec (λ_=>t87) (λx1 x2 x3 x4 x5 x6=>(@Option.rec CV (λ_=>t4) none (λx7=>(x6 x2 x3 x4 (λx8 x9=>(x5 (x7 :: x8) x9)))) (getCV x3 x1))) (λx1 x2 x3 x4 x5 x6 x7=>(l17 (getCV x4 x1) x3 x4 x5 x6 x7 x2)) x0))
theorem l18_eq : ∀ x0 x1 x2 x3 x4 x5, (Eq (l18 x0 x1 x2 x3 x4 x5) (@ResultVar.rec (λ_=>t4) (λx6=>(@Option.rec CV (λ_=>t4) none (λx7=>(x5 x1 x2 x3 (λx8 x9=>(x4 (x7 :: x8) x9)))) (getCV x2 x6))) (λx6 x7=>(l17 (getCV x2 x6) x1 x2 x3 x4 x5 x7)) x0)) := by intro t; cases t <;> (intros; rfl)
abbrev t89:=List ResultVar
abbrev t90:=t89 → t16
abbrev t91:=t14 → t90
abbrev t92:=Program → t91
def k_resV : t92 := (λx0 x1 x2 x3 x4=>(@List.rec ResultVar (λ_=>t18) (λ_ _ x7 x8=>(x8 [] x7)) (λx5 _ x7 x8 x9 x10 x11=>(l18 x5 x8 x9 x10 x11 x7)) x2 x0 x1 x3 x4))
theorem k_resV_law : ∀ x0 x1 x2 x3 x4, (Eq (k_resV x1 x2 x0 x3 x4) (resV x1 x2 x0 x3 x4)) := by
  intro t
  induction t with
  | nil  =>
    intro z0 z1 z2 z3
    show ((fun (_ : Program) (_ : t14) (x2 : S) (x3 : t9) => (x3 [] x2)) z0 z1 z2 z3) = _
    conv => rhs; rw [Ev.resV.eq_def]
    all_goals kernel_rfl
  | cons y0 y1 ih0 =>
    intro z0 z1 z2 z3
    have e0 : (fun (x0 : Program) (x1 : t14) (x2 : S) (x3 : t9) => (k_resV x0 x1 y1 x2 x3)) = (fun (x0 : Program) (x1 : t14) (x2 : S) (x3 : t9) => (resV x0 x1 y1 x2 x3)) := by
      funext z0 z1 z2 z3; exact ih0 z0 z1 z2 z3
    show ((fun (x0 : ResultVar) (_ : t89) (x2 : t18) (x3 : Program) (x4 : t14) (x5 : S) (x6 : t9) => (l18 x0 x3 x4 x5 x6 x2)) y0 y1 (fun (x0 : Program) (x1 : t14) (x2 : S) (x3 : t9) => (k_resV x0 x1 y1 x2 x3)) z0 z1 z2 z3) = _
    rw [e0]
    conv => rhs; rw [Ev.resV.eq_def]
    try simp only [l15_eq, l16_eq, l18_eq, l9_eq, l11_eq, l10_eq, l17_eq]
    try rw [k_rdRow_eq]
    try rw [getCV_eq]
    all_goals kernel_rfl
theorem k_resV_eq : @k_resV = resV := by
  funext a0 a1 a2 a3 a4; exact k_resV_law a2 a0 a1 a3 a4
abbrev t93:=t8 → t49
abbrev t94:=t44 → t93
abbrev t95:=Nat → t94
abbrev t96:=t44 → t95
def l20 : t96 := (λx0=>(@Option.rec CO (λ_=>t95) (λ_ _ _ _ _ _ _=>none) (λx1 x2 x3 x4 x5 x6 x7 x8=>((λ_=>(@Option.rec t46 (λ_=>t4) none (λx10=>((λx11=>(k_fN_Ret (Nat.lor x8 (Nat.shiftLeft (nat_lit 1) x2)) (λx12=>(x4 (S.mk x11 x6 x7 x12))))) x10)) (setCO (nat_lit 24) x5 x2 x3))) x1)) x0))
theorem l20_eq : ∀ x0 x1 x2 x3 x4 x5 x6 x7, (Eq (l20 x0 x1 x2 x3 x4 x5 x6 x7) (@Option.rec CO (λ_=>t4) none (λx8=>((λ_=>(@Option.rec t46 (λ_=>t4) none (λx10=>((λx11=>(k_fN_Ret (Nat.lor x7 (Nat.shiftLeft (nat_lit 1) x1)) (λx12=>(x3 (S.mk x11 x5 x6 x12))))) x10)) (setCO (nat_lit 24) x4 x1 x2))) x8)) x0)) := by intro t; cases t <;> (intros; rfl)
abbrev t97:=t8 → t4
abbrev t98:=t44 → t97
abbrev t99:=Nat → t98
abbrev t100:=S → t99
def l21 : t100 := (λx0=>(@S.rec (λ_=>t99) (λx1 x2 x3 x4 x5 x6 x7=>((λx8 x9 x10 x11=>(l20 (getCO x8 x5) x5 x6 x7 x8 x9 x10 x11)) x1 x2 x3 x4)) x0))
theorem l21_eq : ∀ x0 x1 x2 x3, (Eq (l21 x0 x1 x2 x3) (@S.rec (λ_=>t4) (λx4 x5 x6 x7=>((λx8 x9 x10 x11=>(l20 (getCO x8 x1) x1 x2 x3 x8 x9 x10 x11)) x4 x5 x6 x7)) x0)) := by intro t; cases t <;> (intros; rfl)
def k_wr_Ret : t100 := (λx0 x1 x2 x3=>(l21 x0 x1 x2 x3))
theorem k_wr_Ret_eq : @k_wr_Ret = (@wr Ret) := by
  delta k_wr_Ret wr
  simp only [l21_eq, l20_eq]
  rw [setCO_eq, k_fN_Ret_eq, getCO_eq]
  all_goals kernel_rfl

abbrev t101:=t81 → t8
abbrev t102:=t14 → t101
abbrev t103:=Func → t102
abbrev t104:=Run → t103
abbrev t105:=Program → t104
abbrev t106:=Nat → t8
abbrev t107:=t105 → t106
abbrev t108:=t81 → t107
abbrev t109:=t14 → t108
abbrev t110:=Func → t109
abbrev t111:=Run → t110
abbrev t112:=Program → t111
abbrev t113:=CO → t112
def l19 : t113 := (λx0=>(@CO.rec (λ_=>t112) (λ_ _ _ _ _ _ _ _ _ _ _=>none) (λ_ _ _ _ _ _ _ _ _ _ _=>none) (λ_ _ _ _ _ _ _ _ _ _ _ _ _ _ _ _=>none) (λx1 x2 x3 x4 x5 x6 x7 x8=>(k_wr_Ret x8 x7 (some CO.gone) (λx9=>(x6 x1 x2 x3 x4 x5 x9)))) (λ_ _ _ _ _ _ _ _=>none) x0))
theorem l19_eq : ∀ x0 x1 x2 x3 x4 x5 x6 x7 x8, (Eq (l19 x0 x1 x2 x3 x4 x5 x6 x7 x8) (@leave._sparseCasesOn_1 (λ_=>t4) x0 (k_wr_Ret x8 x7 (some CO.gone) (λx9=>(x6 x1 x2 x3 x4 x5 x9))) (λ_=>none))) := by intro t; cases t <;> (intros; rfl)
abbrev t114:=Prod Bool S
abbrev t115:=t105 → t4
abbrev t116:=t81 → t115
abbrev t117:=t14 → t116
abbrev t118:=Func → t117
abbrev t119:=Run → t118
abbrev t120:=Program → t119
abbrev t121:=t114 → t120
def l22 : t121 := (λx0=>(@Prod.rec Bool S (λ_=>t120) (λx1 x2 x3 x4 x5 x6 x7 x8=>(@Bool.rec (λ_=>t4) (x8 x3 x4 x5 x6 x7 x2) (x8 x3 x4 x5 x6 none x2) x1)) x0))
theorem l22_eq : ∀ x0 x1 x2 x3 x4 x5 x6, (Eq (l22 x0 x1 x2 x3 x4 x5 x6) (@Prod.rec Bool S (λ_=>t4) (λx7 x8=>(@Bool.rec (λ_=>t4) (x6 x1 x2 x3 x4 x5 x8) (x6 x1 x2 x3 x4 none x8) x7)) x0)) := by intro t; cases t <;> (intros; rfl)
abbrev t122:=Option t114
abbrev t123:=Dm → t122
abbrev t124:=Ret → t123
def l24 : t124 := (λx0=>(@Ret.rec (λ_=>t123) (λ_ x2 x3=>(some ((Dm.back x3), x2))) (λ_ _ _=>none) x0))
theorem l24_eq : ∀ x0 x1, (Eq (l24 x0 x1) (@regP._sparseCasesOn_2 (λ_=>t122) x0 (λ_ x3=>(some ((Dm.back x1), x3))) (λ_=>none))) := by intro t; cases t <;> (intros; rfl)
abbrev t125:=t4 → t123
def l25 : t125 := (λx0=>(@Option.rec Ret (λ_=>t123) (λ_=>none) (λx1 x2=>(l24 x1 x2)) x0))
theorem l25_eq : ∀ x0 x1, (Eq (l25 x0 x1) (@methV._sparseCasesOn_2 Ret (λ_=>t122) x0 (λx2=>(l24 x2 x1)) (λ_=>none))) := by intro t; cases t <;> (intros; rfl)
abbrev t126:=Prod Dm S
abbrev t127:=t14 → t122
abbrev t128:=Func → t127
abbrev t129:=Program → t128
abbrev t130:=t126 → t129
def l26 : t130 := (λx0=>(@Prod.rec Dm S (λ_=>t129) (λx1 x2 x3 x4 x5=>((λx6 x7 x8=>(l25 (k_resV x3 x6 (@Array.toList ResultVar (Func.results x4)) x8 (λx9 x10=>(some (Ret.ok (k_tupV x9) x10)))) x7)) x5 x1 x2)) x0))
theorem l26_eq : ∀ x0 x1 x2 x3, (Eq (l26 x0 x1 x2 x3) (@Prod.rec Dm S (λ_=>t122) (λx4 x5=>((λx6 x7 x8=>(l25 (k_resV x1 x6 (@Array.toList ResultVar (Func.results x2)) x8 (λx9 x10=>(some (Ret.ok (k_tupV x9) x10)))) x7)) x3 x4 x5)) x0)) := by intro t; cases t <;> (intros; rfl)
def l27 : t124 := (λx0=>(@Ret.rec (λ_=>t123) (λ_ x2 x3=>(some ((Dm.back x3), x2))) (λ_ _ _=>none) x0))
theorem l27_eq : ∀ x0 x1, (Eq (l27 x0 x1) (@regP._sparseCasesOn_2 (λ_=>t122) x0 (λ_ x3=>(some ((Dm.back x1), x3))) (λ_=>none))) := by intro t; cases t <;> (intros; rfl)
def l28 : t125 := (λx0=>(@Option.rec Ret (λ_=>t123) (λ_=>none) (λx1 x2=>(l27 x1 x2)) x0))
theorem l28_eq : ∀ x0 x1, (Eq (l28 x0 x1) (@methV._sparseCasesOn_2 Ret (λ_=>t122) x0 (λx2=>(l27 x2 x1)) (λ_=>none))) := by intro t; cases t <;> (intros; rfl)
def l29 : t130 := (λx0=>(@Prod.rec Dm S (λ_=>t129) (λx1 x2 x3 x4 x5=>((λx6 x7 x8=>(l28 (k_resV x3 x6 (@Array.toList ResultVar (Func.results x4)) x8 (λx9 x10=>(some (Ret.ok (k_tupV x9) x10)))) x7)) x5 x1 x2)) x0))
theorem l29_eq : ∀ x0 x1 x2 x3, (Eq (l29 x0 x1 x2 x3) (@Prod.rec Dm S (λ_=>t122) (λx4 x5=>((λx6 x7 x8=>(l28 (k_resV x1 x6 (@Array.toList ResultVar (Func.results x2)) x8 (λx9 x10=>(some (Ret.ok (k_tupV x9) x10)))) x7)) x3 x4 x5)) x0)) := by intro t; cases t <;> (intros; rfl)
abbrev t131:=Prod t14 t126
abbrev t132:=t131 → t122
abbrev t133:=Func → t132
abbrev t134:=Program → t133
abbrev t135:=Ex → t134
def l30 : t135 := (λx0=>(@Ex.rec (λ_=>t134) (λx1 x2 x3=>(@Prod.rec t14 t126 (λ_=>t122) (λx4 x5=>(l26 x5 x1 x2 x4)) x3)) (λ_ _ _ _=>none) (λx1 x2 x3=>(@Prod.rec t14 t126 (λ_=>t122) (λx4 x5=>(l29 x5 x1 x2 x4)) x3)) (λ_ _ _ _=>none) x0))
theorem l30_eq : ∀ x0 x1 x2 x3, (Eq (l30 x0 x1 x2 x3) (@callD._sparseCasesOn_1 (λ_=>t122) x0 (@Prod.rec t14 t126 (λ_=>t122) (λx4 x5=>(l26 x5 x1 x2 x4)) x3) (@Prod.rec t14 t126 (λ_=>t122) (λx4 x5=>(l29 x5 x1 x2 x4)) x3) (λ_=>none))) := by intro t; cases t <;> (intros; rfl)
abbrev t136:=Prod Ex t131
abbrev t137:=Option t136
abbrev t138:=Func → t122
abbrev t139:=Program → t138
abbrev t140:=t137 → t139
def l31 : t140 := (λx0=>(@Option.rec t136 (λ_=>t139) (λ_ _=>none) (λx1 x2 x3=>(@Prod.rec Ex t131 (λ_=>t122) (λx4 x5=>(l30 x4 x2 x3 x5)) x1)) x0))
theorem l31_eq : ∀ x0 x1 x2, (Eq (l31 x0 x1 x2) (@methV._sparseCasesOn_2 t136 (λ_=>t122) x0 (λx3=>(@Prod.rec Ex t131 (λ_=>t122) (λx4 x5=>(l30 x4 x1 x2 x5)) x3)) (λ_=>none))) := by intro t; cases t <;> (intros; rfl)
abbrev t141:=List SD
abbrev t142:=t14 → t137
abbrev t143:=S → t142
abbrev t144:=Ex → t143
abbrev t145:=Dm → t144
abbrev t146:=t141 → t145
def l33 : t146 := (λx0=>(@List.rec SD (λ_=>t145) (λx1 x2 x3 x4=>(some (x2, (x4, (x1, x3))))) (λ_ _ _ _ _ _ _=>none) x0))
theorem l33_eq : ∀ x0 x1 x2 x3 x4, (Eq (l33 x0 x1 x2 x3 x4) (@methV._sparseCasesOn_1 SD (λ_=>t137) x0 (some (x2, (x4, (x1, x3)))) (λ_=>none))) := by intro t; cases t <;> (intros; rfl)
abbrev t147:=Prod Fr S
abbrev t148:=Prod Ex t147
abbrev t149:=Dm → t137
abbrev t150:=t148 → t149
def l34 : t150 := (λx0=>(@Prod.rec Ex t147 (λ_=>t149) (λx1 x2 x3=>(@Prod.rec Fr S (λ_=>t137) (λx4 x5=>(@Fr.rec (λ_=>t137) (λ_ x7 x8 _=>(l33 x8 x3 x1 x5 x7)) x4)) x2)) x0))
theorem l34_eq : ∀ x0 x1, (Eq (l34 x0 x1) (@Prod.rec Ex t147 (λ_=>t137) (λx2 x3=>(@Prod.rec Fr S (λ_=>t137) (λx4 x5=>(@Fr.rec (λ_=>t137) (λ_ x7 x8 _=>(l33 x8 x1 x2 x5 x7)) x4)) x3)) x0)) := by intro t; cases t <;> (intros; rfl)
abbrev t151:=Option t148
abbrev t152:=t151 → t149
def l35 : t152 := (λx0=>(@Option.rec t148 (λ_=>t149) (λ_=>none) (λx1 x2=>(l34 x1 x2)) x0))
theorem l35_eq : ∀ x0 x1, (Eq (l35 x0 x1) (@methV._sparseCasesOn_2 t148 (λ_=>t137) x0 (λx2=>(l34 x2 x1)) (λ_=>none))) := by intro t; cases t <;> (intros; rfl)
def l36 : t146 := (λx0=>(@List.rec SD (λ_=>t145) (λx1 x2 x3 x4=>(some (x2, (x4, (x1, x3))))) (λ_ _ _ _ _ _ _=>none) x0))
theorem l36_eq : ∀ x0 x1 x2 x3 x4, (Eq (l36 x0 x1 x2 x3 x4) (@methV._sparseCasesOn_1 SD (λ_=>t137) x0 (some (x2, (x4, (x1, x3)))) (λ_=>none))) := by intro t; cases t <;> (intros; rfl)
def l37 : t150 := (λx0=>(@Prod.rec Ex t147 (λ_=>t149) (λx1 x2 x3=>(@Prod.rec Fr S (λ_=>t137) (λx4 x5=>(@Fr.rec (λ_=>t137) (λ_ x7 x8 _=>(l36 x8 x3 x1 x5 x7)) x4)) x2)) x0))
theorem l37_eq : ∀ x0 x1, (Eq (l37 x0 x1) (@Prod.rec Ex t147 (λ_=>t137) (λx2 x3=>(@Prod.rec Fr S (λ_=>t137) (λx4 x5=>(@Fr.rec (λ_=>t137) (λ_ x7 x8 _=>(l36 x8 x1 x2 x5 x7)) x4)) x3)) x0)) := by intro t; cases t <;> (intros; rfl)
def l38 : t152 := (λx0=>(@Option.rec t148 (λ_=>t149) (λ_=>none) (λx1 x2=>(l37 x1 x2)) x0))
theorem l38_eq : ∀ x0 x1, (Eq (l38 x0 x1) (@methV._sparseCasesOn_2 t148 (λ_=>t137) x0 (λx2=>(l37 x2 x1)) (λ_=>none))) := by intro t; cases t <;> (intros; rfl)
abbrev t153:=Bool → t137
abbrev t154:=(Array Oper) → t153
abbrev t155:=Nat → t154
abbrev t156:=S → t155
abbrev t157:=Dm → t156
abbrev t158:=t14 → t157
abbrev t159:=Nat → t158
abbrev t160:=Run → t159
def l39 : t160 := (λx0 x1 x2 x3 x4 x5 x6 x7=>(l38 (Run.code x0 (Code.region x5 x6 x7) (Fr.mk x1 x2 [] none) x4) x3))
theorem l39_eq : ∀ x0 x1 x2 x3 x4 x5 x6 x7, (Eq (l39 x0 x1 x2 x3 x4 x5 x6 x7) (l38 (Run.code x0 (Code.region x5 x6 x7) (Fr.mk x1 x2 [] none) x4) x3)) := by intros; rfl
def l40 : t146 := (λx0=>(@List.rec SD (λ_=>t145) (λx1 x2 x3 x4=>(some (x2, (x4, (x1, x3))))) (λ_ _ _ _ _ _ _=>none) x0))
theorem l40_eq : ∀ x0 x1 x2 x3 x4, (Eq (l40 x0 x1 x2 x3 x4) (@methV._sparseCasesOn_1 SD (λ_=>t137) x0 (some (x2, (x4, (x1, x3)))) (λ_=>none))) := by intro t; cases t <;> (intros; rfl)
def l41 : t150 := (λx0=>(@Prod.rec Ex t147 (λ_=>t149) (λx1 x2 x3=>(@Prod.rec Fr S (λ_=>t137) (λx4 x5=>(@Fr.rec (λ_=>t137) (λ_ x7 x8 _=>(l40 x8 x3 x1 x5 x7)) x4)) x2)) x0))
theorem l41_eq : ∀ x0 x1, (Eq (l41 x0 x1) (@Prod.rec Ex t147 (λ_=>t137) (λx2 x3=>(@Prod.rec Fr S (λ_=>t137) (λx4 x5=>(@Fr.rec (λ_=>t137) (λ_ x7 x8 _=>(l40 x8 x1 x2 x5 x7)) x4)) x3)) x0)) := by intro t; cases t <;> (intros; rfl)
def l42 : t152 := (λx0=>(@Option.rec t148 (λ_=>t149) (λ_=>none) (λx1 x2=>(l41 x1 x2)) x0))
theorem l42_eq : ∀ x0 x1, (Eq (l42 x0 x1) (@methV._sparseCasesOn_2 t148 (λ_=>t137) x0 (λx2=>(l41 x2 x1)) (λ_=>none))) := by intro t; cases t <;> (intros; rfl)
abbrev t161:=List Oper
abbrev t162:=Nat → Bool
abbrev t163:=Nat → t162
def k_Nat_blt : t163 := (λx0 x1=>(Nat.ble (Nat.succ x0) x1))
theorem k_Nat_blt_eq : @k_Nat_blt = Nat.blt := by
  delta k_Nat_blt Nat.blt
  all_goals kernel_rfl

abbrev t164:=Option Nat
abbrev t165:=Option t14
abbrev t166:=t14 → t165
abbrev t167:=CV → t166
abbrev t168:=t164 → t167
abbrev t169:=Nat → t168
def k_putE : t169 := (λx0 x1 x2 x3=>(@Option.rec Nat (λ_=>t165) (some x3) (λx4=>((λx5=>(@Bool.rec (λ_=>t165) none (setCV (nat_lit 24) x3 x5 (some x2)) (k_Nat_blt x5 x0))) x4)) x1))
theorem k_putE_eq : @k_putE = putE := by
  delta k_putE putE
  rw [k_Nat_blt_eq, setCV_eq]
  all_goals kernel_rfl

abbrev t170:=Option t131
abbrev t171:=S → t170
abbrev t172:=Dm → t171
abbrev t173:=t14 → t172
abbrev t174:=t161 → t173
abbrev t175:=Nat → t174
abbrev t176:=Program → t175
abbrev t177:=t176 → t170
abbrev t178:=Oper → t177
abbrev t179:=Dm → t178
abbrev t180:=t14 → t179
abbrev t181:=t161 → t180
abbrev t182:=Nat → t181
abbrev t183:=Program → t182
abbrev t184:=Ret → t183
def l44 : t184 := (λx0=>(@Ret.rec (λ_=>t183) (λx1 x2 x3 x4 x5 x6 x7 x8 x9=>(@Option.rec t14 (λ_=>t170) none (λx10=>(x9 x3 x4 x5 x10 x7 x2)) (k_putE x4 (Oper.dst x8) x1 x6))) (λ_ _ _ _ _ _ _ _ _=>none) x0))
theorem l44_eq : ∀ x0 x1 x2 x3 x4 x5 x6 x7, (Eq (l44 x0 x1 x2 x3 x4 x5 x6 x7) (@regP._sparseCasesOn_2 (λ_=>t170) x0 (λx8 x9=>(@Option.rec t14 (λ_=>t170) none (λx10=>(x7 x1 x2 x3 x10 x5 x9)) (k_putE x2 (Oper.dst x6) x8 x4))) (λ_=>none))) := by intro t; cases t <;> (intros; rfl)
abbrev t185:=t4 → t183
def l45 : t185 := (λx0=>(@Option.rec Ret (λ_=>t183) (λ_ _ _ _ _ _ _=>none) (λx1 x2 x3 x4 x5 x6 x7 x8=>(l44 x1 x2 x3 x4 x5 x6 x7 x8)) x0))
theorem l45_eq : ∀ x0 x1 x2 x3 x4 x5 x6 x7, (Eq (l45 x0 x1 x2 x3 x4 x5 x6 x7) (@methV._sparseCasesOn_2 Ret (λ_=>t170) x0 (λx8=>(l44 x8 x1 x2 x3 x4 x5 x6 x7)) (λ_=>none))) := by intro t; cases t <;> (intros; rfl)
abbrev t186:=CV → t8
def k_ok1 : t186 := (λx0 x1=>(some (Ret.ok x0 x1)))
theorem k_ok1_eq : @k_ok1 = ok1 := by
  delta k_ok1 ok1
  all_goals kernel_rfl

abbrev t187:=Value → CV
abbrev t188:=Value → t187
def l48 : t188 := (λx0=>(@Value.rec (λ_=>t187) (λ_=>PUnit.{1}) (λ_=>PUnit.{1}) (λ_ x2=>(CV.val x2)) (λ_ _ x3=>(CV.val x3)) (λ_ _ x3=>(CV.val x3)) (λ_ _ _ x4=>(CV.val x4)) (λ_ x2=>(CV.val x2)) (λ_ x2=>(CV.val x2)) (λ_ _ _ x4=>(CV.val x4)) (λ_ x2=>(CV.val x2)) (λ_ x2=>(CV.val x2)) (λ_ _ _ _ _ x6=>(CV.val x6)) (λx1=>(CV.val x1)) (λ_ _ _ x4=>(CV.val x4)) (λx1=>(CV.val x1)) (λx1 _ _=>(CV.agg (@List.map Value CV CV.val (@Array.toList Value x1)))) (λ_ _ x3=>(CV.val x3)) (λ_ _=>PUnit.unit.{1}) PUnit.unit.{1} (λ_ _ _ _=>PUnit.unit.{1}) x0))
theorem l48_eq : ∀ x0 x1, (Eq (l48 x0 x1) (@normV._sparseCasesOn_1 (λ_=>CV) x0 (λx2=>(CV.agg (@List.map Value CV CV.val (@Array.toList Value x2)))) (λ_=>(CV.val x1)))) := by intro t; cases t <;> (intros; rfl)
def k_normV : t187 := (λx0=>(l48 x0 x0))
theorem k_normV_eq : @k_normV = normV := by
  delta k_normV normV
  simp only [l48_eq]
  all_goals kernel_rfl

abbrev t189:=Operand → t81
abbrev t190:=t14 → t189
def k_ev : t190 := (λx0 x1=>(@Operand.rec (λ_=>t81) (λx2=>((λx3=>(getCV x0 x3)) x2)) (λx2=>((λx3=>(some (k_normV x3))) x2)) (λx2=>((λ_=>none) x2)) (λx2=>((λx3=>(some (CV.fn x3 [] []))) x2)) x1))
theorem k_ev_eq : @k_ev = ev := by
  delta k_ev ev
  rw [k_normV_eq, getCV_eq]
  all_goals kernel_rfl

abbrev t191:=Operand → t8
abbrev t192:=t14 → t191
abbrev t193:=Program → t192
def k_o_move : t193 := (λ_ x1 x2 x3=>(@Option.rec CV (λ_=>t4) none (λx4=>((λx5=>(k_ok1 x5 x3)) x4)) (k_ev x1 x2)))
theorem k_o_move_eq : @k_o_move = o_move := by
  delta k_o_move o_move
  rw [k_ev_eq, k_ok1_eq]
  all_goals kernel_rfl

abbrev t194:=Operand → t4
abbrev t195:=S → t194
abbrev t196:=Operand → t195
abbrev t197:=t14 → t196
abbrev t198:=Bool → t197
def l49 : t198 := (λx0=>(@Bool.rec (λ_=>t197) (λx1 x2 x3 _=>(@Option.rec CV (λ_=>t4) none (λx5=>((λx6=>(k_ok1 x6 x3)) x5)) (k_ev x1 x2))) (λx1 _ x3 x4=>(@Option.rec CV (λ_=>t4) none (λx5=>((λx6=>(k_ok1 x6 x3)) x5)) (k_ev x1 x4))) x0))
theorem l49_eq : ∀ x0 x1 x2 x3 x4, (Eq (l49 x0 x1 x2 x3 x4) (@Bool.rec (λ_=>t4) (@Option.rec CV (λ_=>t4) none (λx5=>((λx6=>(k_ok1 x6 x3)) x5)) (k_ev x1 x2)) (@Option.rec CV (λ_=>t4) none (λx5=>((λx6=>(k_ok1 x6 x3)) x5)) (k_ev x1 x4)) x0)) := by intro t; cases t <;> (intros; rfl)
abbrev t199:=Operand → t191
abbrev t200:=t14 → t199
abbrev t201:=Value → t200
def l50 : t201 := (λx0=>(@Value.rec (λ_=>t200) (λ_=>PUnit.{1}) (λ_=>PUnit.{1}) (λx1 x2 x3 x4 x5=>(l49 x1 x2 x4 x5 x3)) (λ_ _ _ _ _ _=>none) (λ_ _ _ _ _ _=>none) (λ_ _ _ _ _ _ _=>none) (λ_ _ _ _ _=>none) (λ_ _ _ _ _=>none) (λ_ _ _ _ _ _ _=>none) (λ_ _ _ _ _=>none) (λ_ _ _ _ _=>none) (λ_ _ _ _ _ _ _ _ _=>none) (λ_ _ _ _=>none) (λ_ _ _ _ _ _ _=>none) (λ_ _ _ _=>none) (λ_ _ _ _ _ _=>none) (λ_ _ _ _ _ _=>none) (λ_ _=>PUnit.unit.{1}) PUnit.unit.{1} (λ_ _ _ _=>PUnit.unit.{1}) x0))
theorem l50_eq : ∀ x0 x1 x2 x3 x4, (Eq (l50 x0 x1 x2 x3 x4) (@eqK._sparseCasesOn_3 (λ_=>t4) x0 (λx5=>(l49 x5 x1 x3 x4 x2)) (λ_=>none))) := by intro t; cases t <;> (intros; rfl)
abbrev t202:=CV → t200
def l51 : t202 := (λx0=>(@CV.rec (λ_=>t200) (λ_=>PUnit.{1}) (λ_ _ _ _=>none) (λx1 x2 x3 x4 x5=>(l50 x1 x2 x3 x4 x5)) (λ_ _ _ _ _ _=>none) (λ_ _ _ _ _ _ _ _ _=>none) (λ_ _ _ _=>none) (λ_ _ _ _ _=>none) (λ_ _ _ _ _ _=>none) (λ_ _ _ _ _ _=>none) (λ_ _ _ _ _ _ _ _ _=>none) (λ_ _ _ _ _=>none) (λ_ _ _ _ _ _ _=>none) PUnit.unit.{1} (λ_ _ _ _=>PUnit.unit.{1}) x0))
theorem l51_eq : ∀ x0 x1 x2 x3 x4, (Eq (l51 x0 x1 x2 x3 x4) (@natOf._sparseCasesOn_1 (λ_=>t4) x0 (λx5=>(l50 x5 x1 x2 x3 x4)) (λ_=>none))) := by intro t; cases t <;> (intros; rfl)
abbrev t203:=t81 → t200
def l52 : t203 := (λx0=>(@Option.rec CV (λ_=>t200) (λ_ _ _ _=>none) (λx1 x2 x3 x4 x5=>(l51 x1 x2 x3 x4 x5)) x0))
theorem l52_eq : ∀ x0 x1 x2 x3 x4, (Eq (l52 x0 x1 x2 x3 x4) (@elInfo._sparseCasesOn_3 CV (λ_=>t4) x0 (λx5=>(l51 x5 x1 x2 x3 x4)) (λ_=>none))) := by intro t; cases t <;> (intros; rfl)
abbrev t204:=Operand → t199
abbrev t205:=t14 → t204
abbrev t206:=Program → t205
def k_o_pick : t206 := (λ_ x1 x2 x3 x4 x5=>(l52 (k_ev x1 x2) x1 x3 x4 x5))
theorem k_o_pick_eq : @k_o_pick = o_pick := by
  delta k_o_pick o_pick
  simp only [l49_eq, l51_eq, l50_eq, l52_eq]
  rw [k_ev_eq, k_ok1_eq]
  all_goals kernel_rfl

abbrev t207:=Option t46
abbrev t208:=t106 → t48
abbrev t209:=t207 → t208
def l54 : t209 := (λx0=>(@Option.rec t46 (λ_=>t208) (λ_ _ _ _=>none) (λx1 x2 x3 x4 x5=>((λx6=>(k_fN_Ret (Nat.add x3 (nat_lit 1)) (λx7=>(k_fN_Ret (Nat.lor x5 (Nat.shiftLeft (nat_lit 1) x3)) (λx8=>(x2 x3 (S.mk x6 x7 x4 x8))))))) x1)) x0))
theorem l54_eq : ∀ x0 x1 x2 x3 x4, (Eq (l54 x0 x1 x2 x3 x4) (@Option.rec t46 (λ_=>t4) none (λx5=>((λx6=>(k_fN_Ret (Nat.add x2 (nat_lit 1)) (λx7=>(k_fN_Ret (Nat.lor x4 (Nat.shiftLeft (nat_lit 1) x2)) (λx8=>(x1 x2 (S.mk x6 x7 x3 x8))))))) x5)) x0)) := by intro t; cases t <;> (intros; rfl)
abbrev t210:=t106 → t4
abbrev t211:=CO → t210
abbrev t212:=S → t211
def l55 : t212 := (λx0=>(@S.rec (λ_=>t211) (λx1 x2 x3 x4 x5 x6=>((λx7 x8 x9 x10=>(l54 (setCO (nat_lit 24) x7 x8 (some x5)) x6 x8 x9 x10)) x1 x2 x3 x4)) x0))
theorem l55_eq : ∀ x0 x1 x2, (Eq (l55 x0 x1 x2) (@S.rec (λ_=>t4) (λx3 x4 x5 x6=>((λx7 x8 x9 x10=>(l54 (setCO (nat_lit 24) x7 x8 (some x1)) x2 x8 x9 x10)) x3 x4 x5 x6)) x0)) := by intro t; cases t <;> (intros; rfl)
def k_nw_Ret : t212 := (λx0 x1 x2=>(l55 x0 x1 x2))
theorem k_nw_Ret_eq : @k_nw_Ret = (@nw Ret) := by
  delta k_nw_Ret nw
  simp only [l55_eq, l54_eq]
  rw [k_fN_Ret_eq, setCO_eq]
  all_goals kernel_rfl

abbrev t213:=List Value
abbrev t214:=t213 → t31
def k_valL : t214 := (λx0=>(@List.rec Value (λ_=>t31) (some []) (λx1 _ x3=>(@Option.rec t7 (λ_=>t31) none (λx4=>(some ((CV.val x1) :: x4))) x3)) x0))
theorem k_valL_law : ∀ x0, (Eq (k_valL x0) (valL x0)) := by
  intro t
  induction t with
  | nil  =>
    show (some []) = _
    conv => rhs; rw [Ev.valL.eq_def]
    all_goals kernel_rfl
  | cons y0 y1 ih0 =>
    have e0 : (k_valL y1) = (valL y1) := by
      exact ih0
    show ((fun (x0 : Value) (_ : t213) (x2 : t31) => (@Option.rec t7 (fun (_ : t31) => t31) none (fun (x3 : t7) => (some ((CV.val x0) :: x3))) x2)) y0 y1 (k_valL y1)) = _
    rw [e0]
    conv => rhs; rw [Ev.valL.eq_def]
    all_goals kernel_rfl
theorem k_valL_eq : @k_valL = valL := by
  funext a0; exact k_valL_law a0
abbrev t215:=Option t213
abbrev t216:=TypeId → t8
abbrev t217:=t215 → t216
def l53 : t217 := (λx0=>(@Option.rec t213 (λ_=>t216) (λ_ _=>none) (λx1 x2 x3=>((λx4=>(@Option.rec t7 (λ_=>t4) none (λx5=>((λx6=>(k_nw_Ret x3 (CO.row x2 x6 Bool.false) (λx7 x8=>(k_ok1 (CV.ptr x7 (nat_lit 0)) x8)))) x5)) (k_valL x4))) x1)) x0))
theorem l53_eq : ∀ x0 x1 x2, (Eq (l53 x0 x1 x2) (@Option.rec t213 (λ_=>t4) none (λx3=>((λx4=>(@Option.rec t7 (λ_=>t4) none (λx5=>((λx6=>(k_nw_Ret x2 (CO.row x1 x6 Bool.false) (λx7 x8=>(k_ok1 (CV.ptr x7 (nat_lit 0)) x8)))) x5)) (k_valL x4))) x3)) x0)) := by intro t; cases t <;> (intros; rfl)
abbrev t218:=t14 → t216
abbrev t219:=Program → t218
def k_o_alloc : t219 := (λx0 _ x2 x3=>(l53 (zeroCells x0 x2) x2 x3))
theorem k_o_alloc_eq : @k_o_alloc = o_alloc := by
  delta k_o_alloc o_alloc
  simp only [l53_eq]
  rw [k_valL_eq, k_nw_Ret_eq, k_ok1_eq]
  all_goals kernel_rfl

def l56 : t1 := (λx0=>(@Value.rec (λ_=>Bool) (λ_=>PUnit.{1}) (λ_=>PUnit.{1}) (λ_=>Bool.true) (λ_ _=>Bool.true) (λ_ _=>Bool.true) (λ_ _ _=>Bool.true) (λ_=>Bool.true) (λ_=>Bool.true) (λ_ _ _=>Bool.true) (λ_=>Bool.true) (λ_=>Bool.true) (λ_ _ _ _ _=>Bool.true) Bool.true (λ_ _ _=>Bool.true) Bool.true (λ_ _=>Bool.false) (λ_ _=>Bool.true) (λ_ _=>PUnit.unit.{1}) PUnit.unit.{1} (λ_ _ _ _=>PUnit.unit.{1}) x0))
theorem l56_eq : ∀ x0, (Eq (l56 x0) (@bok._sparseCasesOn_2 (λ_=>Bool) x0 (λ_=>Bool.false) (λ_=>Bool.true))) := by intro t; cases t <;> (intros; rfl)
def l57 : t2 := (λx0=>(@CV.rec (λ_=>Bool) (λ_=>PUnit.{1}) Bool.false (λx1=>(l56 x1)) (λ_ _=>Bool.true) (λ_ _ _ _ _=>Bool.true) Bool.true (λ_=>Bool.true) (λ_ _=>Bool.true) (λ_ _=>Bool.true) (λ_ _ _ _ _=>Bool.true) (λ_=>Bool.true) (λ_ _ _=>Bool.true) PUnit.unit.{1} (λ_ _ _ _=>PUnit.unit.{1}) x0))
theorem l57_eq : ∀ x0, (Eq (l57 x0) (@bok._sparseCasesOn_1 (λ_=>Bool) x0 Bool.false (λx1=>(l56 x1)) (λ_=>Bool.true))) := by intro t; cases t <;> (intros; rfl)
def k_bok : t2 := (λx0=>(l57 x0))
theorem k_bok_eq : @k_bok = bok := by
  delta k_bok bok
  simp only [l56_eq, l57_eq]
  all_goals kernel_rfl

abbrev t220:=CV → t7
abbrev t221:=CV → t220
def l58 : t221 := (λx0=>(@CV.rec (λ_=>t220) (λ_=>PUnit.{1}) (λx1=>(x1 :: [])) (λ_ x2=>(x2 :: [])) (λ_ _ x3=>(x3 :: [])) (λ_ _ _ _ _ x6=>(x6 :: [])) (λx1=>(x1 :: [])) (λ_ x2=>(x2 :: [])) (λx1 _ _=>x1) (λ_ _ x3=>(x3 :: [])) (λ_ _ _ _ _ x6=>(x6 :: [])) (λ_ x2=>(x2 :: [])) (λ_ _ _ x4=>(x4 :: [])) PUnit.unit.{1} (λ_ _ _ _=>PUnit.unit.{1}) x0))
theorem l58_eq : ∀ x0 x1, (Eq (l58 x0 x1) (@cells._sparseCasesOn_1 (λ_=>t7) x0 (λx2=>x2) (λ_=>(x1 :: [])))) := by intro t; cases t <;> (intros; rfl)
def k_cells : t220 := (λx0=>(l58 x0 x0))
theorem k_cells_eq : @k_cells = cells := by
  delta k_cells cells
  simp only [l58_eq]
  all_goals kernel_rfl

abbrev t222:=t4 → t4
abbrev t223:=Bool → t222
def k_ifT_Ret : t223 := (λx0 x1=>(@Bool.rec (λ_=>t4) none x1 x0))
theorem k_ifT_Ret_eq : @k_ifT_Ret = (@ifT Ret) := by
  delta k_ifT_Ret ifT
  all_goals kernel_rfl

abbrev t224:=TypeId → t191
abbrev t225:=t14 → t224
abbrev t226:=Program → t225
def k_o_box : t226 := (λ_ x1 x2 x3 x4=>(@Option.rec CV (λ_=>t4) none (λx5=>((λx6=>(k_ifT_Ret (k_bok x6) (k_nw_Ret x4 (CO.row x2 (k_cells x6) Bool.false) (λx7 x8=>(k_ok1 (CV.ptr x7 (nat_lit 0)) x8))))) x5)) (k_ev x1 x3)))
theorem k_o_box_eq : @k_o_box = o_box := by
  delta k_o_box o_box
  rw [k_ev_eq, k_ifT_Ret_eq, k_nw_Ret_eq, k_ok1_eq, k_cells_eq, k_bok_eq]
  all_goals kernel_rfl

abbrev t227:=t7 → Bool
def k_bokL : t227 := (λx0=>(@List.rec CV (λ_=>Bool) Bool.true (λx1 _ x3=>(@Bool.rec (λ_=>Bool) Bool.false x3 (k_bok x1))) x0))
theorem k_bokL_law : ∀ x0, (Eq (k_bokL x0) (bokL x0)) := by
  intro t
  induction t with
  | nil  =>
    show Bool.true = _
    conv => rhs; rw [Ev.bokL.eq_def]
    all_goals kernel_rfl
  | cons y0 y1 ih0 =>
    have e0 : (k_bokL y1) = (bokL y1) := by
      exact ih0
    show ((fun (x0 : CV) (_ : t7) (x2 : Bool) => (@Bool.rec (fun (_ : Bool) => Bool) Bool.false x2 (k_bok x0))) y0 y1 (k_bokL y1)) = _
    rw [e0]
    conv => rhs; rw [Ev.bokL.eq_def]
    try rw [k_bok_eq]
    all_goals kernel_rfl
theorem k_bokL_eq : @k_bokL = bokL := by
  funext a0; exact k_bokL_law a0
abbrev t228:=Prod Nat Nat
abbrev t229:=List t228
abbrev t230:=Option t228
abbrev t231:=Nat → t230
abbrev t232:=t229 → t231
def k_List_get?Internal_364 : t232 := (λx0 x1=>(@List.rec t228 (λ_=>t231) (λ_=>none) (λx2 _ x4 x5=>(@Nat.rec (λ_=>t230) (some x2) (λx6 _=>(x4 x6)) x5)) x0 x1))
theorem k_List_get?Internal_364_law : ∀ x0 x1, (Eq (k_List_get?Internal_364 x0 x1) (@List.get?Internal t228 x0 x1)) := by
  intro t
  induction t with
  | nil  =>
    intro z0
    show ((fun (_ : Nat) => none) z0) = _
    conv => rhs; rw [List.get?Internal.eq_def]
    all_goals kernel_rfl
  | cons y0 y1 ih0 =>
    intro z0
    have e0 : (fun (x0 : Nat) => (k_List_get?Internal_364 y1 x0)) = (fun (x0 : Nat) => (@List.get?Internal t228 y1 x0)) := by
      funext z0; exact ih0 z0
    show ((fun (x0 : t228) (_ : t229) (x2 : t231) (x3 : Nat) => (@Nat.rec (fun (_ : Nat) => t230) (some x0) (fun (x4 : Nat) (_ : t230) => (x2 x4)) x3)) y0 y1 (fun (x0 : Nat) => (k_List_get?Internal_364 y1 x0)) z0) = _
    rw [e0]
    conv => rhs; rw [List.get?Internal.eq_def]
    all_goals kernel_rfl
theorem k_List_get?Internal_364_eq : @k_List_get?Internal_364 = (@List.get?Internal t228) := by
  funext a0 a1; exact k_List_get?Internal_364_law a0 a1
abbrev t233:=t33 → t31
abbrev t234:=t7 → t233
abbrev t235:=CV → t234
abbrev t236:=t7 → t235
abbrev t237:=Nat → t236
def l61 : t237 := (λx0=>(@Nat.rec (λ_=>t236) (λx1 x2 x3 x4=>(@List.rec CV (λ_=>t31) (some (x2 :: x3)) (λx5 x6 _=>(@Option.rec t7 (λ_=>t31) none (λx8=>(some (x5 :: x8))) (x4 (nat_lit 0) x6))) x1)) (λx1 _ x3 x4 _ x6=>(@Option.rec t7 (λ_=>t31) none (λx7=>(some (x4 :: x7))) (x6 x1 x3))) x0))
theorem l61_eq : ∀ x0 x1 x2 x3 x4, (Eq (l61 x0 x1 x2 x3 x4) (@Nat.rec (λ_=>t31) (@List.rec CV (λ_=>t31) (some (x2 :: x3)) (λx5 x6 _=>(@Option.rec t7 (λ_=>t31) none (λx8=>(some (x5 :: x8))) (x4 (nat_lit 0) x6))) x1) (λx5 _=>(@Option.rec t7 (λ_=>t31) none (λx7=>(some (x2 :: x7))) (x4 x5 x1))) x0)) := by intro t; cases t <;> (intros; rfl)
abbrev t238:=t7 → t32
abbrev t239:=Nat → t238
def k_putN : t239 := (λx0 x1 x2=>(@List.rec CV (λ_=>t33) (λx3 x4=>(@Nat.rec (λ_=>t31) (@List.rec CV (λ_=>t31) (some []) (λ_ _ _=>none) x4) (λ_ _=>none) x3)) (λx3 x4 x5 x6 x7=>(l61 x6 x7 x3 x4 x5)) x2 x0 x1))
theorem k_putN_law : ∀ x0 x1 x2, (Eq (k_putN x1 x2 x0) (putN x1 x2 x0)) := by
  intro t
  induction t with
  | nil  =>
    intro z0 z1
    show ((fun (x0 : Nat) (x1 : t7) => (@Nat.rec (fun (_ : Nat) => t31) (@List.rec CV (fun (_ : t7) => t31) (some []) (fun (_ : CV) (_ : t7) (_ : t31) => none) x1) (fun (_ : Nat) (_ : t31) => none) x0)) z0 z1) = _
    conv => rhs; rw [Ev.putN.eq_def]
    all_goals kernel_rfl
  | cons y0 y1 ih0 =>
    intro z0 z1
    have e0 : (fun (x0 : Nat) (x1 : t7) => (k_putN x0 x1 y1)) = (fun (x0 : Nat) (x1 : t7) => (putN x0 x1 y1)) := by
      funext z0 z1; exact ih0 z0 z1
    show ((fun (x0 : CV) (x1 : t7) (x2 : t33) (x3 : Nat) (x4 : t7) => (l61 x3 x4 x0 x1 x2)) y0 y1 (fun (x0 : Nat) (x1 : t7) => (k_putN x0 x1 y1)) z0 z1) = _
    rw [e0]
    conv => rhs; rw [Ev.putN.eq_def]
    try simp only [l61_eq]
    all_goals kernel_rfl
theorem k_putN_eq : @k_putN = putN := by
  funext a0 a1 a2; exact k_putN_law a2 a0 a1
def l62 : t1 := (λx0=>(@Value.rec (λ_=>Bool) (λ_=>PUnit.{1}) (λ_=>PUnit.{1}) (λ_=>Bool.true) (λ_ _=>Bool.true) (λ_ _=>Bool.true) (λ_ _ _=>Bool.true) (λ_=>Bool.true) (λ_=>Bool.true) (λ_ _ _=>Bool.true) (λ_=>Bool.true) (λ_=>Bool.true) (λ_ _ _ _ _=>Bool.true) Bool.true (λ_ _ _=>Bool.true) Bool.true (λ_ _=>Bool.false) (λ_ _=>Bool.false) (λ_ _=>PUnit.unit.{1}) PUnit.unit.{1} (λ_ _ _ _=>PUnit.unit.{1}) x0))
theorem l62_eq : ∀ x0, (Eq (l62 x0) (@one._sparseCasesOn_2 (λ_=>Bool) x0 (λ_=>Bool.false) (λ_=>Bool.false) (λ_=>Bool.true))) := by intro t; cases t <;> (intros; rfl)
def l63 : t2 := (λx0=>(@CV.rec (λ_=>Bool) (λ_=>PUnit.{1}) Bool.false (λx1=>(l62 x1)) (λ_ _=>Bool.true) (λ_ _ _ _ _=>Bool.true) Bool.true (λ_=>Bool.true) (λ_ _=>Bool.false) (λ_ _=>Bool.false) (λ_ _ _ _ _=>Bool.true) (λ_=>Bool.true) (λ_ _ _=>Bool.true) PUnit.unit.{1} (λ_ _ _ _=>PUnit.unit.{1}) x0))
theorem l63_eq : ∀ x0, (Eq (l63 x0) (@one._sparseCasesOn_1 (λ_=>Bool) x0 (λx1=>(l62 x1)) (λ_=>Bool.false) (λ_=>Bool.false) Bool.false (λ_=>Bool.true))) := by intro t; cases t <;> (intros; rfl)
def k_one : t2 := (λx0=>(l63 x0))
theorem k_one_eq : @k_one = one := by
  delta k_one one
  simp only [l63_eq, l62_eq]
  all_goals kernel_rfl

def k_allOne : t227 := (λx0=>(@List.rec CV (λ_=>Bool) Bool.true (λx1 _ x3=>(@Bool.rec (λ_=>Bool) Bool.false x3 (k_one x1))) x0))
theorem k_allOne_law : ∀ x0, (Eq (k_allOne x0) (Ev.allOne x0)) := by
  intro t
  induction t with
  | nil  =>
    show Bool.true = _
    conv => rhs; rw [Ev.allOne.eq_def]
    all_goals kernel_rfl
  | cons y0 y1 ih0 =>
    have e0 : (k_allOne y1) = (Ev.allOne y1) := by
      exact ih0
    show ((fun (x0 : CV) (_ : t7) (x2 : Bool) => (@Bool.rec (fun (_ : Bool) => Bool) Bool.false x2 (k_one x0))) y0 y1 (k_allOne y1)) = _
    rw [e0]
    conv => rhs; rw [Ev.allOne.eq_def]
    try rw [k_one_eq]
    all_goals kernel_rfl
theorem k_allOne_eq : @k_allOne = Ev.allOne := by
  funext a0; exact k_allOne_law a0
abbrev t240:=t231 → t32
abbrev t241:=CV → t31
abbrev t242:=t240 → t241
abbrev t243:=t7 → t242
abbrev t244:=t231 → t243
abbrev t245:=t228 → t244
def l60 : t245 := (λx0=>(@Prod.rec Nat Nat (λ_=>t244) (λx1 x2 x3 x4 x5 x6=>(@Bool.rec (λ_=>t31) none (@Option.rec t7 (λ_=>t31) none (λx7=>(x5 x3 x7)) (k_putN x1 (k_cells x6) x4)) (@Bool.rec (λ_=>Bool) Bool.false (Nat.beq (@List.length CV (k_cells x6)) x2) (k_allOne (k_cells x6))))) x0))
theorem l60_eq : ∀ x0 x1 x2 x3 x4, (Eq (l60 x0 x1 x2 x3 x4) (@Prod.rec Nat Nat (λ_=>t31) (λx5 x6=>(@Bool.rec (λ_=>t31) none (@Option.rec t7 (λ_=>t31) none (λx7=>(x3 x1 x7)) (k_putN x5 (k_cells x4) x2)) (@Bool.rec (λ_=>Bool) Bool.false (Nat.beq (@List.length CV (k_cells x4)) x6) (k_allOne (k_cells x4))))) x0)) := by intro t; cases t <;> (intros; rfl)
abbrev t246:=Prod Nat CV
abbrev t247:=List t246
abbrev t248:=t247 → t31
abbrev t249:=t7 → t248
abbrev t250:=t231 → t249
def k_fillC : t250 := (λx0 x1 x2=>(@List.rec t246 (λ_=>t240) (λ_ x4=>(some x4)) (λx3 _ x5 x6 x7=>(@Prod.rec Nat CV (λ_=>t31) (λx8 x9=>(@Option.rec t228 (λ_=>t31) none (λx10=>(l60 x10 x6 x7 x5 x9)) (x6 x8))) x3)) x2 x0 x1))
theorem k_fillC_law : ∀ x0 x1 x2, (Eq (k_fillC x1 x2 x0) (fillC x1 x2 x0)) := by
  intro t
  induction t with
  | nil  =>
    intro z0 z1
    show ((fun (_ : t231) (x1 : t7) => (some x1)) z0 z1) = _
    conv => rhs; rw [Ev.fillC.eq_def]
    all_goals kernel_rfl
  | cons y0 y1 ih0 =>
    intro z0 z1
    have e0 : (fun (x0 : t231) (x1 : t7) => (k_fillC x0 x1 y1)) = (fun (x0 : t231) (x1 : t7) => (fillC x0 x1 y1)) := by
      funext z0 z1; exact ih0 z0 z1
    show ((fun (x0 : t246) (_ : t247) (x2 : t240) (x3 : t231) (x4 : t7) => (@Prod.rec Nat CV (fun (_ : t246) => t31) (fun (x5 : Nat) (x6 : CV) => (@Option.rec t228 (fun (_ : t230) => t31) none (fun (x7 : t228) => (l60 x7 x3 x4 x2 x6)) (x3 x5))) x0)) y0 y1 (fun (x0 : t231) (x1 : t7) => (k_fillC x0 x1 y1)) z0 z1) = _
    rw [e0]
    conv => rhs; rw [Ev.fillC.eq_def]
    try simp only [l60_eq]
    try rw [k_allOne_eq]
    try rw [k_cells_eq]
    try rw [k_putN_eq]
    all_goals kernel_rfl
theorem k_fillC_eq : @k_fillC = fillC := by
  funext a0 a1 a2; exact k_fillC_law a2 a0 a1
abbrev t251:=Option t247
abbrev t252:=t7 → t4
abbrev t253:=t7 → t252
abbrev t254:=t229 → t253
abbrev t255:=S → t254
abbrev t256:=t251 → t255
def l59 : t256 := (λx0=>(@Option.rec t247 (λ_=>t255) (λ_ _ _ _=>none) (λx1 x2 x3 x4 x5=>(k_ifT_Ret (k_bokL x4) (@Option.rec t7 (λ_=>t4) none (λx6=>((λx7=>(k_ok1 (CV.agg x7) x2)) x6)) (k_fillC (λx6=>(k_List_get?Internal_364 x3 x6)) x5 x1)))) x0))
theorem l59_eq : ∀ x0 x1 x2 x3 x4, (Eq (l59 x0 x1 x2 x3 x4) (@elInfo._sparseCasesOn_3 t247 (λ_=>t4) x0 (λx5=>(k_ifT_Ret (k_bokL x3) (@Option.rec t7 (λ_=>t4) none (λx6=>((λx7=>(k_ok1 (CV.agg x7) x1)) x6)) (k_fillC (λx6=>(k_List_get?Internal_364 x2 x6)) x4 x5)))) (λ_=>none))) := by intro t; cases t <;> (intros; rfl)
abbrev t257:=t7 → t251
def l65 : t257 := (λx0=>(@List.rec CV (λ_=>t251) (some []) (λ_ _ _=>none) x0))
theorem l65_eq : ∀ x0, (Eq (l65 x0) (@zipIx._sparseCasesOn_2 CV (λ_=>t251) x0 (some []) (λ_=>none))) := by intro t; cases t <;> (intros; rfl)
abbrev t258:=Nat → t251
abbrev t259:=t257 → t258
abbrev t260:=t7 → t259
def l66 : t260 := (λx0=>(@List.rec CV (λ_=>t259) (λ_ _=>none) (λx1 x2 _ x4 x5=>(@Option.rec t247 (λ_=>t251) none (λx6=>(some ((x5, x1) :: x6))) (x4 x2))) x0))
theorem l66_eq : ∀ x0 x1 x2, (Eq (l66 x0 x1 x2) (@zipIx._sparseCasesOn_3 CV (λ_=>t251) x0 (λx3 x4=>(@Option.rec t247 (λ_=>t251) none (λx5=>(some ((x2, x3) :: x5))) (x1 x4))) (λ_=>none))) := by intro t; cases t <;> (intros; rfl)
abbrev t261:=Prod Nat Operand
abbrev t262:=List t261
abbrev t263:=t262 → t257
def k_zipIx : t263 := (λx0 x1=>(@List.rec t261 (λ_=>t257) (λx2=>(l65 x2)) (λx2 _ x4 x5=>(@Prod.rec Nat Operand (λ_=>t251) (λx6 _=>(l66 x5 x4 x6)) x2)) x0 x1))
theorem k_zipIx_law : ∀ x0 x1, (Eq (k_zipIx x0 x1) (zipIx x0 x1)) := by
  intro t
  induction t with
  | nil  =>
    intro z0
    show ((fun (x0 : t7) => (l65 x0)) z0) = _
    conv => rhs; rw [Ev.zipIx.eq_def]
    try simp only [l65_eq]
    all_goals kernel_rfl
  | cons y0 y1 ih0 =>
    intro z0
    have e0 : (fun (x0 : t7) => (k_zipIx y1 x0)) = (fun (x0 : t7) => (zipIx y1 x0)) := by
      funext z0; exact ih0 z0
    show ((fun (x0 : t261) (_ : t262) (x2 : t257) (x3 : t7) => (@Prod.rec Nat Operand (fun (_ : t261) => t251) (fun (x4 : Nat) (_ : Operand) => (l66 x3 x2 x4)) x0)) y0 y1 (fun (x0 : t7) => (k_zipIx y1 x0)) z0) = _
    rw [e0]
    conv => rhs; rw [Ev.zipIx.eq_def]
    try simp only [l66_eq]
    all_goals kernel_rfl
theorem k_zipIx_eq : @k_zipIx = zipIx := by
  funext a0 a1; exact k_zipIx_law a0 a1
abbrev t264:=t229 → t252
abbrev t265:=S → t264
abbrev t266:=(Array t261) → t265
abbrev t267:=t31 → t266
def l64 : t267 := (λx0=>(@Option.rec t7 (λ_=>t266) (λ_ _ _ _=>none) (λx1 x2 x3 x4 x5=>(l59 (k_zipIx (@Array.toList t261 x2) x5) x3 x4 x5 x1)) x0))
theorem l64_eq : ∀ x0 x1 x2 x3 x4, (Eq (l64 x0 x1 x2 x3 x4) (@elInfo._sparseCasesOn_3 t7 (λ_=>t4) x0 (λx5=>(l59 (k_zipIx (@Array.toList t261 x1) x4) x2 x3 x4 x5)) (λ_=>none))) := by intro t; cases t <;> (intros; rfl)
abbrev t268:=t229 → t4
abbrev t269:=t213 → t268
abbrev t270:=S → t269
abbrev t271:=(Array t261) → t270
abbrev t272:=t31 → t271
def l67 : t272 := (λx0=>(@Option.rec t7 (λ_=>t271) (λ_ _ _ _=>none) (λx1 x2 x3 x4 x5=>(l64 (k_valL x4) x2 x3 x5 x1)) x0))
theorem l67_eq : ∀ x0 x1 x2 x3 x4, (Eq (l67 x0 x1 x2 x3 x4) (@elInfo._sparseCasesOn_3 t7 (λ_=>t4) x0 (λx5=>(l64 (k_valL x3) x1 x2 x4 x5)) (λ_=>none))) := by intro t; cases t <;> (intros; rfl)
abbrev t273:=List Operand
abbrev t274:=t14 → t31
abbrev t275:=t273 → t31
abbrev t276:=t14 → t275
def k_evs : t276 := (λx0 x1=>(@List.rec Operand (λ_=>t274) (λ_=>(some [])) (λx2 _ x4 x5=>(@Option.rec CV (λ_=>t31) none (λx6=>(@Option.rec t7 (λ_=>t31) none (λx7=>(some (x6 :: x7))) (x4 x5))) (k_ev x5 x2))) x1 x0))
theorem k_evs_law : ∀ x0 x1, (Eq (k_evs x1 x0) (evs x1 x0)) := by
  intro t
  induction t with
  | nil  =>
    intro z0
    show ((fun (_ : t14) => (some [])) z0) = _
    conv => rhs; rw [Ev.evs.eq_def]
    all_goals kernel_rfl
  | cons y0 y1 ih0 =>
    intro z0
    have e0 : (fun (x0 : t14) => (k_evs x0 y1)) = (fun (x0 : t14) => (evs x0 y1)) := by
      funext z0; exact ih0 z0
    show ((fun (x0 : Operand) (_ : t273) (x2 : t274) (x3 : t14) => (@Option.rec CV (fun (_ : t81) => t31) none (fun (x4 : CV) => (@Option.rec t7 (fun (_ : t31) => t31) none (fun (x5 : t7) => (some (x4 :: x5))) (x2 x3))) (k_ev x3 x0))) y0 y1 (fun (x0 : t14) => (k_evs x0 y1)) z0) = _
    rw [e0]
    conv => rhs; rw [Ev.evs.eq_def]
    try rw [k_ev_eq]
    all_goals kernel_rfl
theorem k_evs_eq : @k_evs = evs := by
  funext a0 a1; exact k_evs_law a1 a0
abbrev t277:=Prod t213 t229
abbrev t278:=Option t277
abbrev t279:=(Array t261) → t8
abbrev t280:=t14 → t279
abbrev t281:=t278 → t280
def l68 : t281 := (λx0=>(@Option.rec t277 (λ_=>t280) (λ_ _ _=>none) (λx1 x2 x3 x4=>(@Prod.rec t213 t229 (λ_=>t4) (λx5 x6=>(l67 (k_evs x2 (@List.map t261 Operand (λx7=>(@Prod.snd Nat Operand x7)) (@Array.toList t261 x3))) x3 x4 x5 x6)) x1)) x0))
theorem l68_eq : ∀ x0 x1 x2 x3, (Eq (l68 x0 x1 x2 x3) (@elInfo._sparseCasesOn_3 t277 (λ_=>t4) x0 (λx4=>(@Prod.rec t213 t229 (λ_=>t4) (λx5 x6=>(l67 (k_evs x1 (@List.map t261 Operand (λx7=>(@Prod.snd Nat Operand x7)) (@Array.toList t261 x2))) x2 x3 x5 x6)) x4)) (λ_=>none))) := by intro t; cases t <;> (intros; rfl)
abbrev t282:=TypeId → t279
abbrev t283:=t14 → t282
abbrev t284:=Program → t283
def k_o_build : t284 := (λx0 x1 x2 x3 x4=>(l68 (buildInfo x0 x2) x1 x3 x4))
theorem k_o_build_eq : @k_o_build = o_build := by
  delta k_o_build o_build
  simp only [l67_eq, l68_eq, l64_eq, l59_eq]
  rw [k_ifT_Ret_eq, k_fillC_eq, k_List_get?Internal_364_eq, k_ok1_eq, k_bokL_eq, k_zipIx_eq, k_valL_eq, k_evs_eq]
  all_goals kernel_rfl

abbrev t285:=TypeId → t41
abbrev t286:=S → t285
abbrev t287:=Nat → t286
abbrev t288:=t31 → t287
def l69 : t288 := (λx0=>(@Option.rec t7 (λ_=>t287) (λ_ _ _ _=>none) (λx1 x2 x3 x4 x5=>((λx6=>(k_nw_Ret x3 (CO.row x4 x6 Bool.false) (λx7 x8=>(k_ok1 (CV.sl x7 (nat_lit 0) x2 (some x2) x5) x8)))) x1)) x0))
theorem l69_eq : ∀ x0 x1 x2 x3 x4, (Eq (l69 x0 x1 x2 x3 x4) (@Option.rec t7 (λ_=>t4) none (λx5=>((λx6=>(k_nw_Ret x2 (CO.row x3 x6 Bool.false) (λx7 x8=>(k_ok1 (CV.sl x7 (nat_lit 0) x1 (some x1) x4) x8)))) x5)) x0)) := by intro t; cases t <;> (intros; rfl)
abbrev t289:=t7 → t286
def l70 : t289 := (λx0=>(@List.rec CV (λ_=>t286) (λx1 x2 x3=>(k_nw_Ret x1 (CO.row x2 [] Bool.false) (λx4 x5=>(k_ok1 (CV.sl x4 (nat_lit 0) (nat_lit 0) (some (nat_lit 0)) x3) x5)))) (λ_ _ _ _ _ _=>none) x0))
theorem l70_eq : ∀ x0 x1 x2 x3, (Eq (l70 x0 x1 x2 x3) (@zipIx._sparseCasesOn_2 CV (λ_=>t4) x0 (k_nw_Ret x1 (CO.row x2 [] Bool.false) (λx4 x5=>(k_ok1 (CV.sl x4 (nat_lit 0) (nat_lit 0) (some (nat_lit 0)) x3) x5))) (λ_=>none))) := by intro t; cases t <;> (intros; rfl)
abbrev t290:=t7 → Nat
def k_len : t290 := (λx0=>(@List.rec CV (λ_=>Nat) (nat_lit 0) (λ_ _ x3=>(Nat.add x3 (nat_lit 1))) x0))
theorem k_len_law : ∀ x0, (Eq (k_len x0) (len x0)) := by
  intro t
  induction t with
  | nil  =>
    show (nat_lit 0) = _
    conv => rhs; rw [Ev.len.eq_def]
    all_goals kernel_rfl
  | cons y0 y1 ih0 =>
    have e0 : (k_len y1) = (len y1) := by
      exact ih0
    show ((fun (_ : CV) (_ : t7) (x2 : Nat) => (Nat.add x2 (nat_lit 1))) y0 y1 (k_len y1)) = _
    rw [e0]
    conv => rhs; rw [Ev.len.eq_def]
    all_goals kernel_rfl
theorem k_len_eq : @k_len = len := by
  funext a0; exact k_len_law a0
abbrev t291:=t7 → t7
abbrev t292:=Nat → t291
def k_repl : t292 := (λx0 x1=>(@Nat.rec (λ_=>t291) (λ_=>[]) (λ_ x3 x4=>(@List.append CV x4 (x3 x4))) x0 x1))
theorem k_repl_law : ∀ x0 x1, (Eq (k_repl x0 x1) (repl x0 x1)) := by
  intro t
  induction t with
  | zero  =>
    intro z0
    show ((fun (_ : t7) => []) z0) = _
    conv => rhs; rw [Ev.repl.eq_def]
    all_goals kernel_rfl
  | succ y0 ih0 =>
    intro z0
    have e0 : (fun (x0 : t7) => (k_repl y0 x0)) = (fun (x0 : t7) => (repl y0 x0)) := by
      funext z0; exact ih0 z0
    show ((fun (_ : Nat) (x1 : t291) (x2 : t7) => (@List.append CV x2 (x1 x2))) y0 (fun (x0 : t7) => (k_repl y0 x0)) z0) = _
    rw [e0]
    conv => rhs; rw [Ev.repl.eq_def]
    all_goals kernel_rfl
theorem k_repl_eq : @k_repl = repl := by
  funext a0 a1; exact k_repl_law a0 a1
abbrev t293:=t247 → t4
abbrev t294:=t7 → t293
abbrev t295:=t7 → t294
abbrev t296:=Nat → t295
abbrev t297:=TypeId → t296
abbrev t298:=S → t297
abbrev t299:=Nat → t298
abbrev t300:=Bool → t299
def l71 : t300 := (λx0=>(@Bool.rec (λ_=>t299) (λx1 x2 x3 x4 x5 x6 x7=>(k_ifT_Ret (@Bool.rec (λ_=>Bool) Bool.false (k_Nat_blt (nat_lit 0) x4) (@Bool.rec (λ_=>Bool) Bool.false (Nat.beq (k_len x6) x4) (@Bool.rec (λ_=>Bool) Bool.false (Nat.ble (Nat.mul x1 x4) (nat_lit 16777216)) (k_bokL x5)))) (l69 (k_fillC (λx8=>(some ((Nat.mul x8 x4), x4))) (k_repl x1 x6) x7) x1 x2 x3 x4))) (λ_ x2 x3 x4 x5 _ _=>(l70 x5 x2 x3 x4)) x0))
theorem l71_eq : ∀ x0 x1 x2 x3 x4 x5 x6 x7, (Eq (l71 x0 x1 x2 x3 x4 x5 x6 x7) (@Bool.rec (λ_=>t4) (k_ifT_Ret (@Bool.rec (λ_=>Bool) Bool.false (k_Nat_blt (nat_lit 0) x4) (@Bool.rec (λ_=>Bool) Bool.false (Nat.beq (k_len x6) x4) (@Bool.rec (λ_=>Bool) Bool.false (Nat.ble (Nat.mul x1 x4) (nat_lit 16777216)) (k_bokL x5)))) (l69 (k_fillC (λx8=>(some ((Nat.mul x8 x4), x4))) (k_repl x1 x6) x7) x1 x2 x3 x4)) (l70 x5 x2 x3 x4) x0)) := by intro t; cases t <;> (intros; rfl)
abbrev t301:=Nat → t253
abbrev t302:=TypeId → t301
abbrev t303:=S → t302
abbrev t304:=Nat → t303
abbrev t305:=t251 → t304
def l72 : t305 := (λx0=>(@Option.rec t247 (λ_=>t304) (λ_ _ _ _ _ _=>none) (λx1 x2 x3 x4 x5 x6 x7=>(l71 (Nat.beq x2 (nat_lit 0)) x2 x3 x4 x5 x6 x7 x1)) x0))
theorem l72_eq : ∀ x0 x1 x2 x3 x4 x5 x6, (Eq (l72 x0 x1 x2 x3 x4 x5 x6) (@elInfo._sparseCasesOn_3 t247 (λ_=>t4) x0 (λx7=>(l71 (Nat.beq x1 (nat_lit 0)) x1 x2 x3 x4 x5 x6 x7)) (λ_=>none))) := by intro t; cases t <;> (intros; rfl)
abbrev t306:=Nat → t252
abbrev t307:=TypeId → t306
abbrev t308:=S → t307
abbrev t309:=(Array t261) → t308
abbrev t310:=Nat → t309
abbrev t311:=t31 → t310
def l73 : t311 := (λx0=>(@Option.rec t7 (λ_=>t310) (λ_ _ _ _ _ _=>none) (λx1 x2 x3 x4 x5 x6 x7=>(l72 (k_zipIx (@Array.toList t261 x3) x7) x2 x4 x5 x6 x7 x1)) x0))
theorem l73_eq : ∀ x0 x1 x2 x3 x4 x5 x6, (Eq (l73 x0 x1 x2 x3 x4 x5 x6) (@elInfo._sparseCasesOn_3 t7 (λ_=>t4) x0 (λx7=>(l72 (k_zipIx (@Array.toList t261 x2) x6) x1 x3 x4 x5 x6 x7)) (λ_=>none))) := by intro t; cases t <;> (intros; rfl)
abbrev t312:=t213 → t4
abbrev t313:=Nat → t312
abbrev t314:=TypeId → t313
abbrev t315:=S → t314
abbrev t316:=(Array t261) → t315
abbrev t317:=Nat → t316
abbrev t318:=t31 → t317
def l74 : t318 := (λx0=>(@Option.rec t7 (λ_=>t317) (λ_ _ _ _ _ _=>none) (λx1 x2 x3 x4 x5 x6 x7=>(l73 (k_valL x7) x2 x3 x4 x5 x6 x1)) x0))
theorem l74_eq : ∀ x0 x1 x2 x3 x4 x5 x6, (Eq (l74 x0 x1 x2 x3 x4 x5 x6) (@elInfo._sparseCasesOn_3 t7 (λ_=>t4) x0 (λx7=>(l73 (k_valL x6) x1 x2 x3 x4 x5 x7)) (λ_=>none))) := by intro t; cases t <;> (intros; rfl)
abbrev t319:=Prod Nat t213
abbrev t320:=Prod Nat t319
abbrev t321:=S → t74
abbrev t322:=(Array t261) → t321
abbrev t323:=Nat → t322
abbrev t324:=t14 → t323
abbrev t325:=t320 → t324
def l75 : t325 := (λx0=>(@Prod.rec Nat t319 (λ_=>t324) (λx1 x2 x3 x4 x5 x6 x7=>(@Prod.rec Nat t213 (λ_=>t4) (λ_ x9=>(l74 (k_evs x3 (@List.map t261 Operand (λx10=>(@Prod.snd Nat Operand x10)) (@Array.toList t261 x5))) x4 x5 x6 x7 x1 x9)) x2)) x0))
theorem l75_eq : ∀ x0 x1 x2 x3 x4 x5, (Eq (l75 x0 x1 x2 x3 x4 x5) (@Prod.rec Nat t319 (λ_=>t4) (λx6 x7=>(@Prod.rec Nat t213 (λ_=>t4) (λ_ x9=>(l74 (k_evs x1 (@List.map t261 Operand (λx10=>(@Prod.snd Nat Operand x10)) (@Array.toList t261 x3))) x2 x3 x4 x5 x6 x9)) x7)) x0)) := by intro t; cases t <;> (intros; rfl)
abbrev t326:=Prod TypeId t320
abbrev t327:=Option t326
abbrev t328:=Nat → t279
abbrev t329:=t14 → t328
abbrev t330:=t327 → t329
def l76 : t330 := (λx0=>(@Option.rec t326 (λ_=>t329) (λ_ _ _ _=>none) (λx1 x2 x3 x4 x5=>(@Prod.rec TypeId t320 (λ_=>t4) (λx6 x7=>(l75 x7 x2 x3 x4 x5 x6)) x1)) x0))
theorem l76_eq : ∀ x0 x1 x2 x3 x4, (Eq (l76 x0 x1 x2 x3 x4) (@elInfo._sparseCasesOn_3 t326 (λ_=>t4) x0 (λx5=>(@Prod.rec TypeId t320 (λ_=>t4) (λx6 x7=>(l75 x7 x1 x2 x3 x4 x6)) x5)) (λ_=>none))) := by intro t; cases t <;> (intros; rfl)
abbrev t331:=Option TypeInfo
abbrev t332:=TypeId → t327
abbrev t333:=t331 → t332
def l77 : t333 := (λx0=>(@Option.rec TypeInfo (λ_=>t332) (λ_=>none) (λx1 x2=>((λx3=>(@Option.rec Value (λ_=>t327) none (λx4=>((λx5=>(some (x2, ((TypeInfo.size x3), ((TypeInfo.bytes x3), (@Array.toList Value (Value.cells x5))))))) x4)) (TypeInfo.zero x3))) x1)) x0))
theorem l77_eq : ∀ x0 x1, (Eq (l77 x0 x1) (@Option.rec TypeInfo (λ_=>t327) none (λx2=>((λx3=>(@Option.rec Value (λ_=>t327) none (λx4=>((λx5=>(some (x1, ((TypeInfo.size x3), ((TypeInfo.bytes x3), (@Array.toList Value (Value.cells x5))))))) x4)) (TypeInfo.zero x3))) x2)) x0)) := by intro t; cases t <;> (intros; rfl)
abbrev t334:=Program → t327
abbrev t335:=TypeDesc → t334
def l78 : t335 := (λx0=>(@TypeDesc.rec (λ_=>t334) (λ_=>none) (λ_=>none) (λ_ _=>none) (λ_ _=>none) (λ_ _=>none) (λ_=>none) (λ_=>none) (λ_ _=>none) (λx1 x2=>(l77 (Tables.info? (Program.toTables x2) x1) x1)) (λ_ _ _=>none) (λ_ _ _=>none) (λ_ _ _=>none) (λ_ _=>none) (λ_ _ _ _=>none) (λ_ _=>none) (λ_ _=>none) (λ_ _ _=>none) x0))
theorem l78_eq : ∀ x0 x1, (Eq (l78 x0 x1) (@elInfo._sparseCasesOn_4 (λ_=>t327) x0 (λx2=>(l77 (Tables.info? (Program.toTables x1) x2) x2)) (λ_=>none))) := by intro t; cases t <;> (intros; rfl)
abbrev t336:=Option TypeDesc
abbrev t337:=t336 → t334
def l79 : t337 := (λx0=>(@Option.rec TypeDesc (λ_=>t334) (λ_=>none) (λx1 x2=>(l78 x1 x2)) x0))
theorem l79_eq : ∀ x0 x1, (Eq (l79 x0 x1) (@elInfo._sparseCasesOn_3 TypeDesc (λ_=>t327) x0 (λx2=>(l78 x2 x1)) (λ_=>none))) := by intro t; cases t <;> (intros; rfl)
abbrev t338:=Program → t332
def k_elInfo : t338 := (λx0 x1=>(l79 (Program.underlying x0 x1) x0))
theorem k_elInfo_eq : @k_elInfo = elInfo := by
  delta k_elInfo elInfo
  simp only [l79_eq, l77_eq, l78_eq]
  all_goals kernel_rfl

abbrev t339:=TypeId → t328
abbrev t340:=t14 → t339
abbrev t341:=Program → t340
def k_o_buildSlice : t341 := (λx0 x1 x2 x3 x4 x5=>(l76 (k_elInfo x0 x2) x1 x3 x4 x5))
theorem k_o_buildSlice_eq : @k_o_buildSlice = o_buildSlice := by
  delta k_o_buildSlice o_buildSlice
  simp only [l70_eq, l74_eq, l76_eq, l75_eq, l71_eq, l73_eq, l69_eq, l72_eq]
  rw [k_elInfo_eq, k_nw_Ret_eq, k_ok1_eq, k_ifT_Ret_eq, k_fillC_eq, k_repl_eq, k_bokL_eq, k_len_eq, k_Nat_blt_eq, k_zipIx_eq, k_valL_eq, k_evs_eq]
  all_goals kernel_rfl

abbrev t342:=Prod CV Nat
abbrev t343:=Prod CV t342
abbrev t344:=List t343
abbrev t345:=Option t344
abbrev t346:=CV → t345
abbrev t347:=CV → t346
abbrev t348:=t344 → t347
def l81 : t348 := (λx0=>(@List.rec t343 (λ_=>t347) (λ_ _=>none) (λx1 x2 _ x4 x5=>(@Prod.rec CV t342 (λ_=>t345) (λ_ x7=>(@Prod.rec CV Nat (λ_=>t345) (λ_ x9=>(some ((x4, (x5, x9)) :: x2))) x7)) x1)) x0))
theorem l81_eq : ∀ x0 x1 x2, (Eq (l81 x0 x1 x2) (@List.rec t343 (λ_=>t345) none (λx3 x4 _=>(@Prod.rec CV t342 (λ_=>t345) (λ_ x7=>(@Prod.rec CV Nat (λ_=>t345) (λ_ x9=>(some ((x1, (x2, x9)) :: x4))) x7)) x3)) x0)) := by intro t; cases t <;> (intros; rfl)
abbrev t349:=t344 → t345
abbrev t350:=CV → t349
abbrev t351:=CV → t350
abbrev t352:=t344 → t346
abbrev t353:=t351 → t352
abbrev t354:=CV → t353
abbrev t355:=CV → t354
abbrev t356:=t342 → t355
def l82 : t356 := (λx0=>(@Prod.rec CV Nat (λ_=>t355) (λx1 x2 x3 x4 x5 x6 x7=>(@Option.rec t344 (λ_=>t345) none (λx8=>(some ((x7, (x1, x2)) :: x8))) (x5 x3 x4 x6))) x0))
theorem l82_eq : ∀ x0 x1 x2 x3 x4 x5, (Eq (l82 x0 x1 x2 x3 x4 x5) (@Prod.rec CV Nat (λ_=>t345) (λx6 x7=>(@Option.rec t344 (λ_=>t345) none (λx8=>(some ((x5, (x6, x7)) :: x8))) (x3 x1 x2 x4))) x0)) := by intro t; cases t <;> (intros; rfl)
abbrev t357:=Nat → t351
def k_setE : t357 := (λx0 x1 x2 x3=>(@Nat.rec (λ_=>t351) (λx4 x5 x6=>(l81 x6 x4 x5)) (λ_ x5 x6 x7 x8=>(@List.rec t343 (λ_=>t345) none (λx9 x10 _=>(@Prod.rec CV t342 (λ_=>t345) (λx12 x13=>(l82 x13 x6 x7 x5 x10 x12)) x9)) x8)) x0 x1 x2 x3))
theorem k_setE_law : ∀ x0 x1 x2 x3, (Eq (k_setE x0 x1 x2 x3) (setE x0 x1 x2 x3)) := by
  intro t
  induction t with
  | zero  =>
    intro z0 z1 z2
    show ((fun (x0 : CV) (x1 : CV) (x2 : t344) => (l81 x2 x0 x1)) z0 z1 z2) = _
    conv => rhs; rw [Ev.setE.eq_def]
    try simp only [l81_eq]
    all_goals kernel_rfl
  | succ y0 ih0 =>
    intro z0 z1 z2
    have e0 : (fun (x0 : CV) (x1 : CV) (x2 : t344) => (k_setE y0 x0 x1 x2)) = (fun (x0 : CV) (x1 : CV) (x2 : t344) => (setE y0 x0 x1 x2)) := by
      funext z0 z1 z2; exact ih0 z0 z1 z2
    show ((fun (_ : Nat) (x1 : t351) (x2 : CV) (x3 : CV) (x4 : t344) => (@List.rec t343 (fun (_ : t344) => t345) none (fun (x5 : t343) (x6 : t344) (_ : t345) => (@Prod.rec CV t342 (fun (_ : t343) => t345) (fun (x8 : CV) (x9 : t342) => (l82 x9 x2 x3 x1 x6 x8)) x5)) x4)) y0 (fun (x0 : CV) (x1 : CV) (x2 : t344) => (k_setE y0 x0 x1 x2)) z0 z1 z2) = _
    rw [e0]
    conv => rhs; rw [Ev.setE.eq_def]
    try simp only [l82_eq]
    all_goals kernel_rfl
theorem k_setE_eq : @k_setE = setE := by
  funext a0 a1 a2 a3; exact k_setE_law a0 a1 a2 a3
abbrev t358:=t344 → t41
abbrev t359:=S → t358
abbrev t360:=CV → t359
abbrev t361:=CV → t360
abbrev t362:=Nat → t361
abbrev t363:=TypeId → t362
abbrev t364:=t246 → t363
def l80 : t364 := (λx0=>(@Prod.rec Nat CV (λ_=>t363) (λx1 x2 x3 x4 x5 x6 x7 x8 x9=>((λx10 _=>(@Option.rec t344 (λ_=>t4) none (λx12=>((λx13=>(k_wr_Ret x7 x4 (some (CO.map x3 x13 x9)) (λx14=>(k_ok1 (CV.tup []) x14)))) x12)) (k_setE x10 x5 x6 x8))) x1 x2)) x0))
theorem l80_eq : ∀ x0 x1 x2 x3 x4 x5 x6 x7, (Eq (l80 x0 x1 x2 x3 x4 x5 x6 x7) (@Prod.rec Nat CV (λ_=>t4) (λx8 x9=>((λx10 _=>(@Option.rec t344 (λ_=>t4) none (λx12=>((λx13=>(k_wr_Ret x5 x2 (some (CO.map x1 x13 x7)) (λx14=>(k_ok1 (CV.tup []) x14)))) x12)) (k_setE x10 x3 x4 x6))) x8 x9)) x0)) := by intro t; cases t <;> (intros; rfl)
abbrev t365:=t343 → t345
abbrev t366:=t344 → t365
def k_snoc_511 : t366 := (λx0 x1=>(@List.rec t343 (λ_=>t365) (λx2=>(some (x2 :: []))) (λx2 _ x4 x5=>(@Option.rec t344 (λ_=>t345) none (λx6=>(some (x2 :: x6))) (x4 x5))) x0 x1))
theorem k_snoc_511_law : ∀ x0 x1, (Eq (k_snoc_511 x0 x1) (@snoc t343 x0 x1)) := by
  intro t
  induction t with
  | nil  =>
    intro z0
    show ((fun (x0 : t343) => (some (x0 :: []))) z0) = _
    conv => rhs; rw [Ev.snoc.eq_def]
    all_goals kernel_rfl
  | cons y0 y1 ih0 =>
    intro z0
    have e0 : (fun (x0 : t343) => (k_snoc_511 y1 x0)) = (fun (x0 : t343) => (@snoc t343 y1 x0)) := by
      funext z0; exact ih0 z0
    show ((fun (x0 : t343) (_ : t344) (x2 : t365) (x3 : t343) => (@Option.rec t344 (fun (_ : t345) => t345) none (fun (x4 : t344) => (some (x0 :: x4))) (x2 x3))) y0 y1 (fun (x0 : t343) => (k_snoc_511 y1 x0)) z0) = _
    rw [e0]
    conv => rhs; rw [Ev.snoc.eq_def]
    all_goals kernel_rfl
theorem k_snoc_511_eq : @k_snoc_511 = (@snoc t343) := by
  funext a0 a1; exact k_snoc_511_law a0 a1
abbrev t367:=Option t246
abbrev t368:=t367 → t363
def l83 : t368 := (λx0=>(@Option.rec t246 (λ_=>t363) (λx1 x2 x3 x4 x5 x6 x7=>(@Option.rec t344 (λ_=>t4) none (λx8=>((λx9=>(k_wr_Ret x5 x2 (some (CO.map x1 x9 (Nat.add x7 (nat_lit 1)))) (λx10=>(k_ok1 (CV.tup []) x10)))) x8)) (k_snoc_511 x6 (x3, (x4, x7))))) (λx1 x2 x3 x4 x5 x6 x7 x8=>(l80 x1 x2 x3 x4 x5 x6 x7 x8)) x0))
theorem l83_eq : ∀ x0 x1 x2 x3 x4 x5 x6 x7, (Eq (l83 x0 x1 x2 x3 x4 x5 x6 x7) (@Option.rec t246 (λ_=>t4) (@Option.rec t344 (λ_=>t4) none (λx8=>((λx9=>(k_wr_Ret x5 x2 (some (CO.map x1 x9 (Nat.add x7 (nat_lit 1)))) (λx10=>(k_ok1 (CV.tup []) x10)))) x8)) (k_snoc_511 x6 (x3, (x4, x7)))) (λx8=>(l80 x8 x1 x2 x3 x4 x5 x6 x7)) x0)) := by intro t; cases t <;> (intros; rfl)
abbrev t369:=Option Bool
abbrev t370:=Value → t369
def l86 : t370 := (λx0=>(@Value.rec (λ_=>t369) (λ_=>PUnit.{1}) (λ_=>PUnit.{1}) (λ_=>none) (λ_ _=>none) (λ_ _=>none) (λ_ _ _=>none) (λ_=>none) (λ_=>none) (λ_ _ _=>none) (λ_=>none) (λ_=>none) (λ_ _ _ _ _=>none) none (λ_ _ _=>none) none (λ_ _=>none) (λ_ _=>none) (λ_ _=>PUnit.unit.{1}) PUnit.unit.{1} (λ_ _ _ _=>PUnit.unit.{1}) x0))
theorem l86_eq : ∀ x0, (Eq (l86 x0) (@bok._sparseCasesOn_2 (λ_=>t369) x0 (λ_=>none) (λ_=>none))) := by intro t; cases t <;> (intros; rfl)
abbrev t371:=CV → t369
def l87 : t371 := (λx0=>(@CV.rec (λ_=>t369) (λ_=>PUnit.{1}) none (λx1=>(l86 x1)) (λ_ _=>none) (λ_ _ _ _ _=>none) none (λ_=>none) (λ_ _=>none) (λ_ _=>none) (λ_ _ _ _ _=>none) (λ_=>none) (λ_ _ _=>none) PUnit.unit.{1} (λ_ _ _ _=>PUnit.unit.{1}) x0))
theorem l87_eq : ∀ x0, (Eq (l87 x0) (@natOf._sparseCasesOn_1 (λ_=>t369) x0 (λx1=>(l86 x1)) (λ_=>none))) := by intro t; cases t <;> (intros; rfl)
def l88 : t370 := (λx0=>(@Value.rec (λ_=>t369) (λ_=>PUnit.{1}) (λ_=>PUnit.{1}) (λ_=>none) (λ_ _=>none) (λ_ _=>none) (λ_ _ _=>none) (λ_=>none) (λ_=>none) (λ_ _ _=>none) (λ_=>none) (λ_=>none) (λ_ _ _ _ _=>none) none (λ_ _ _=>none) none (λ_ _=>none) (λ_ _=>none) (λ_ _=>PUnit.unit.{1}) PUnit.unit.{1} (λ_ _ _ _=>PUnit.unit.{1}) x0))
theorem l88_eq : ∀ x0, (Eq (l88 x0) (@bok._sparseCasesOn_2 (λ_=>t369) x0 (λ_=>none) (λ_=>none))) := by intro t; cases t <;> (intros; rfl)
abbrev t372:=t7 → t369
def l90 : t372 := (λx0=>(@List.rec CV (λ_=>t369) (some Bool.true) (λ_ _ _=>none) x0))
theorem l90_eq : ∀ x0, (Eq (l90 x0) (@zipIx._sparseCasesOn_2 CV (λ_=>t369) x0 (some Bool.true) (λ_=>none))) := by intro t; cases t <;> (intros; rfl)
abbrev t373:=Int → t162
def l92 : t373 := (λx0=>(@Int.rec (λ_=>t162) (λx1 x2=>(Nat.beq x2 x1)) (λ_ _=>Bool.false) x0))
theorem l92_eq : ∀ x0 x1, (Eq (l92 x0 x1) (@iEq._sparseCasesOn_1 (λ_=>Bool) x0 (λx2=>(Nat.beq x1 x2)) (λ_=>Bool.false))) := by intro t; cases t <;> (intros; rfl)
def l93 : t373 := (λx0=>(@Int.rec (λ_=>t162) (λ_ _=>Bool.false) (λx1 x2=>(Nat.beq x2 x1)) x0))
theorem l93_eq : ∀ x0 x1, (Eq (l93 x0 x1) (@iEq._sparseCasesOn_2 (λ_=>Bool) x0 (λx2=>(Nat.beq x1 x2)) (λ_=>Bool.false))) := by intro t; cases t <;> (intros; rfl)
abbrev t374:=Int → Bool
abbrev t375:=Int → t374
def k_iEq : t375 := (λx0 x1=>(@Int.rec (λ_=>Bool) (λx2=>(l92 x1 x2)) (λx2=>(l93 x1 x2)) x0))
theorem k_iEq_eq : @k_iEq = iEq := by
  delta k_iEq iEq
  simp only [l92_eq, l93_eq]
  all_goals kernel_rfl

abbrev t376:=IntKind → Bool
def l94 : t376 := (λx0=>(@IntKind.rec (λ_=>Bool) Bool.true Bool.false Bool.false Bool.false Bool.false Bool.false Bool.false Bool.false x0))
theorem l94_eq : ∀ x0, (Eq (l94 x0) (@kEq._sparseCasesOn_1 (λ_=>Bool) x0 Bool.true (λ_=>Bool.false))) := by intro t; cases t <;> (intros; rfl)
def l95 : t376 := (λx0=>(@IntKind.rec (λ_=>Bool) Bool.false Bool.true Bool.false Bool.false Bool.false Bool.false Bool.false Bool.false x0))
theorem l95_eq : ∀ x0, (Eq (l95 x0) (@kEq._sparseCasesOn_2 (λ_=>Bool) x0 Bool.true (λ_=>Bool.false))) := by intro t; cases t <;> (intros; rfl)
def l96 : t376 := (λx0=>(@IntKind.rec (λ_=>Bool) Bool.false Bool.false Bool.true Bool.false Bool.false Bool.false Bool.false Bool.false x0))
theorem l96_eq : ∀ x0, (Eq (l96 x0) (@kEq._sparseCasesOn_3 (λ_=>Bool) x0 Bool.true (λ_=>Bool.false))) := by intro t; cases t <;> (intros; rfl)
def l97 : t376 := (λx0=>(@IntKind.rec (λ_=>Bool) Bool.false Bool.false Bool.false Bool.true Bool.false Bool.false Bool.false Bool.false x0))
theorem l97_eq : ∀ x0, (Eq (l97 x0) (@kEq._sparseCasesOn_4 (λ_=>Bool) x0 Bool.true (λ_=>Bool.false))) := by intro t; cases t <;> (intros; rfl)
def l98 : t376 := (λx0=>(@IntKind.rec (λ_=>Bool) Bool.false Bool.false Bool.false Bool.false Bool.true Bool.false Bool.false Bool.false x0))
theorem l98_eq : ∀ x0, (Eq (l98 x0) (@kEq._sparseCasesOn_5 (λ_=>Bool) x0 Bool.true (λ_=>Bool.false))) := by intro t; cases t <;> (intros; rfl)
def l99 : t376 := (λx0=>(@IntKind.rec (λ_=>Bool) Bool.false Bool.false Bool.false Bool.false Bool.false Bool.true Bool.false Bool.false x0))
theorem l99_eq : ∀ x0, (Eq (l99 x0) (@kEq._sparseCasesOn_6 (λ_=>Bool) x0 Bool.true (λ_=>Bool.false))) := by intro t; cases t <;> (intros; rfl)
def l100 : t376 := (λx0=>(@IntKind.rec (λ_=>Bool) Bool.false Bool.false Bool.false Bool.false Bool.false Bool.false Bool.true Bool.false x0))
theorem l100_eq : ∀ x0, (Eq (l100 x0) (@kEq._sparseCasesOn_7 (λ_=>Bool) x0 Bool.true (λ_=>Bool.false))) := by intro t; cases t <;> (intros; rfl)
def l101 : t376 := (λx0=>(@IntKind.rec (λ_=>Bool) Bool.false Bool.false Bool.false Bool.false Bool.false Bool.false Bool.false Bool.true x0))
theorem l101_eq : ∀ x0, (Eq (l101 x0) (@kEq._sparseCasesOn_8 (λ_=>Bool) x0 Bool.true (λ_=>Bool.false))) := by intro t; cases t <;> (intros; rfl)
abbrev t377:=IntKind → t376
def k_kEq : t377 := (λx0 x1=>(@IntKind.rec (λ_=>Bool) (l94 x1) (l95 x1) (l96 x1) (l97 x1) (l98 x1) (l99 x1) (l100 x1) (l101 x1) x0))
theorem k_kEq_eq : @k_kEq = kEq := by
  delta k_kEq kEq
  simp only [l96_eq, l94_eq, l101_eq, l98_eq, l100_eq, l97_eq, l99_eq, l95_eq]
  all_goals kernel_rfl

abbrev t378:=Int → t372
abbrev t379:=IntKind → t378
abbrev t380:=t372 → t379
abbrev t381:=Value → t380
def l91 : t381 := (λx0=>(@Value.rec (λ_=>t380) (λ_=>PUnit.{1}) (λ_=>PUnit.{1}) (λ_ _ _ _ _=>none) (λx1 x2 x3 x4 x5 x6=>(@Bool.rec (λ_=>t369) none (@Option.rec Bool (λ_=>t369) none (λx7=>(some (@Bool.rec (λ_=>Bool) Bool.false x7 (k_iEq x5 x2)))) (x3 x6)) (k_kEq x4 x1))) (λ_ _ _ _ _ _=>none) (λ_ _ _ _ _ _ _=>none) (λ_ _ _ _ _=>none) (λ_ _ _ _ _=>none) (λ_ _ _ _ _ _ _=>none) (λ_ _ _ _ _=>none) (λ_ _ _ _ _=>none) (λ_ _ _ _ _ _ _ _ _=>none) (λ_ _ _ _=>none) (λ_ _ _ _ _ _ _=>none) (λ_ _ _ _=>none) (λ_ _ _ _ _ _=>none) (λ_ _ _ _ _ _=>none) (λ_ _=>PUnit.unit.{1}) PUnit.unit.{1} (λ_ _ _ _=>PUnit.unit.{1}) x0))
theorem l91_eq : ∀ x0 x1 x2 x3 x4, (Eq (l91 x0 x1 x2 x3 x4) (@natOf._sparseCasesOn_2 (λ_=>t369) x0 (λx5 x6=>(@Bool.rec (λ_=>t369) none (@Option.rec Bool (λ_=>t369) none (λx7=>(some (@Bool.rec (λ_=>Bool) Bool.false x7 (k_iEq x3 x6)))) (x1 x4)) (k_kEq x2 x5))) (λ_=>none))) := by intro t; cases t <;> (intros; rfl)
abbrev t382:=CV → t380
def l102 : t382 := (λx0=>(@CV.rec (λ_=>t380) (λ_=>PUnit.{1}) (λ_ _ _ _=>none) (λx1 x2 x3 x4 x5=>(l91 x1 x2 x3 x4 x5)) (λ_ _ _ _ _ _=>none) (λ_ _ _ _ _ _ _ _ _=>none) (λ_ _ _ _=>none) (λ_ _ _ _ _=>none) (λ_ _ _ _ _ _=>none) (λ_ _ _ _ _ _=>none) (λ_ _ _ _ _ _ _ _ _=>none) (λ_ _ _ _ _=>none) (λ_ _ _ _ _ _ _=>none) PUnit.unit.{1} (λ_ _ _ _=>PUnit.unit.{1}) x0))
theorem l102_eq : ∀ x0 x1 x2 x3 x4, (Eq (l102 x0 x1 x2 x3 x4) (@natOf._sparseCasesOn_1 (λ_=>t369) x0 (λx5=>(l91 x5 x1 x2 x3 x4)) (λ_=>none))) := by intro t; cases t <;> (intros; rfl)
abbrev t383:=Int → t369
abbrev t384:=IntKind → t383
abbrev t385:=t372 → t384
abbrev t386:=t7 → t385
def l103 : t386 := (λx0=>(@List.rec CV (λ_=>t385) (λ_ _ _=>none) (λx1 x2 _ x4 x5 x6=>(l102 x1 x4 x5 x6 x2)) x0))
theorem l103_eq : ∀ x0 x1 x2 x3, (Eq (l103 x0 x1 x2 x3) (@zipIx._sparseCasesOn_3 CV (λ_=>t369) x0 (λx4 x5=>(l102 x4 x1 x2 x3 x5)) (λ_=>none))) := by intro t; cases t <;> (intros; rfl)
abbrev t387:=Bool → t372
abbrev t388:=t372 → t387
abbrev t389:=Value → t388
def l104 : t389 := (λx0=>(@Value.rec (λ_=>t388) (λ_=>PUnit.{1}) (λ_=>PUnit.{1}) (λx1 x2 x3 x4=>(@Option.rec Bool (λ_=>t369) none (λx5=>(some (@Bool.rec (λ_=>Bool) Bool.false x5 (@Bool.rec (λ_=>Bool) (@Bool.rec (λ_=>Bool) Bool.true Bool.false x1) x1 x3)))) (x2 x4))) (λ_ _ _ _ _=>none) (λ_ _ _ _ _=>none) (λ_ _ _ _ _ _=>none) (λ_ _ _ _=>none) (λ_ _ _ _=>none) (λ_ _ _ _ _ _=>none) (λ_ _ _ _=>none) (λ_ _ _ _=>none) (λ_ _ _ _ _ _ _ _=>none) (λ_ _ _=>none) (λ_ _ _ _ _ _=>none) (λ_ _ _=>none) (λ_ _ _ _ _=>none) (λ_ _ _ _ _=>none) (λ_ _=>PUnit.unit.{1}) PUnit.unit.{1} (λ_ _ _ _=>PUnit.unit.{1}) x0))
theorem l104_eq : ∀ x0 x1 x2 x3, (Eq (l104 x0 x1 x2 x3) (@eqK._sparseCasesOn_3 (λ_=>t369) x0 (λx4=>(@Option.rec Bool (λ_=>t369) none (λx5=>(some (@Bool.rec (λ_=>Bool) Bool.false x5 (@Bool.rec (λ_=>Bool) (@Bool.rec (λ_=>Bool) Bool.true Bool.false x4) x4 x2)))) (x1 x3))) (λ_=>none))) := by intro t; cases t <;> (intros; rfl)
abbrev t390:=CV → t388
def l105 : t390 := (λx0=>(@CV.rec (λ_=>t388) (λ_=>PUnit.{1}) (λ_ _ _=>none) (λx1 x2 x3 x4=>(l104 x1 x2 x3 x4)) (λ_ _ _ _ _=>none) (λ_ _ _ _ _ _ _ _=>none) (λ_ _ _=>none) (λ_ _ _ _=>none) (λ_ _ _ _ _=>none) (λ_ _ _ _ _=>none) (λ_ _ _ _ _ _ _ _=>none) (λ_ _ _ _=>none) (λ_ _ _ _ _ _=>none) PUnit.unit.{1} (λ_ _ _ _=>PUnit.unit.{1}) x0))
theorem l105_eq : ∀ x0 x1 x2 x3, (Eq (l105 x0 x1 x2 x3) (@natOf._sparseCasesOn_1 (λ_=>t369) x0 (λx4=>(l104 x4 x1 x2 x3)) (λ_=>none))) := by intro t; cases t <;> (intros; rfl)
abbrev t391:=Bool → t369
abbrev t392:=t372 → t391
abbrev t393:=t7 → t392
def l106 : t393 := (λx0=>(@List.rec CV (λ_=>t392) (λ_ _=>none) (λx1 x2 _ x4 x5=>(l105 x1 x4 x5 x2)) x0))
theorem l106_eq : ∀ x0 x1 x2, (Eq (l106 x0 x1 x2) (@zipIx._sparseCasesOn_3 CV (λ_=>t369) x0 (λx3 x4=>(l105 x3 x1 x2 x4)) (λ_=>none))) := by intro t; cases t <;> (intros; rfl)
abbrev t394:=List UInt8
abbrev t395:=t394 → Bool
def l108 : t395 := (λx0=>(@List.rec UInt8 (λ_=>Bool) Bool.true (λ_ _ _=>Bool.false) x0))
theorem l108_eq : ∀ x0, (Eq (l108 x0) (@bytesEq._sparseCasesOn_1 UInt8 (λ_=>Bool) x0 Bool.true (λ_=>Bool.false))) := by intro t; cases t <;> (intros; rfl)
abbrev t396:=t395 → Bool
abbrev t397:=UInt8 → t396
abbrev t398:=t394 → t397
def l109 : t398 := (λx0=>(@List.rec UInt8 (λ_=>t397) (λ_ _=>Bool.false) (λx1 x2 _ x4 x5=>(@Bool.rec (λ_=>Bool) Bool.false (x5 x2) (Nat.beq (UInt8.toNat x4) (UInt8.toNat x1)))) x0))
theorem l109_eq : ∀ x0 x1 x2, (Eq (l109 x0 x1 x2) (@bytesEq._sparseCasesOn_2 UInt8 (λ_=>Bool) x0 (λx3 x4=>(@Bool.rec (λ_=>Bool) Bool.false (x2 x4) (Nat.beq (UInt8.toNat x1) (UInt8.toNat x3)))) (λ_=>Bool.false))) := by intro t; cases t <;> (intros; rfl)
abbrev t399:=t394 → t395
def k_bytesEq : t399 := (λx0 x1=>(@List.rec UInt8 (λ_=>t395) (λx2=>(l108 x2)) (λx2 _ x4 x5=>(l109 x5 x2 x4)) x0 x1))
theorem k_bytesEq_law : ∀ x0 x1, (Eq (k_bytesEq x0 x1) (bytesEq x0 x1)) := by
  intro t
  induction t with
  | nil  =>
    intro z0
    show ((fun (x0 : t394) => (l108 x0)) z0) = _
    conv => rhs; rw [Ev.bytesEq.eq_def]
    try simp only [l108_eq]
    all_goals kernel_rfl
  | cons y0 y1 ih0 =>
    intro z0
    have e0 : (fun (x0 : t394) => (k_bytesEq y1 x0)) = (fun (x0 : t394) => (bytesEq y1 x0)) := by
      funext z0; exact ih0 z0
    show ((fun (x0 : UInt8) (_ : t394) (x2 : t395) (x3 : t394) => (l109 x3 x0 x2)) y0 y1 (fun (x0 : t394) => (k_bytesEq y1 x0)) z0) = _
    rw [e0]
    conv => rhs; rw [Ev.bytesEq.eq_def]
    try simp only [l109_eq]
    all_goals kernel_rfl
theorem k_bytesEq_eq : @k_bytesEq = bytesEq := by
  funext a0 a1; exact k_bytesEq_law a0 a1
abbrev t400:=ByteArray → t372
abbrev t401:=t372 → t400
abbrev t402:=Value → t401
def l107 : t402 := (λx0=>(@Value.rec (λ_=>t401) (λ_=>PUnit.{1}) (λ_=>PUnit.{1}) (λ_ _ _ _=>none) (λ_ _ _ _ _=>none) (λ_ _ _ _ _=>none) (λ_ _ _ _ _ _=>none) (λx1 x2 x3 x4=>(@Option.rec Bool (λ_=>t369) none (λx5=>(some (@Bool.rec (λ_=>Bool) Bool.false x5 (k_bytesEq (@Array.toList UInt8 (ByteArray.data x3)) (@Array.toList UInt8 (ByteArray.data x1)))))) (x2 x4))) (λ_ _ _ _=>none) (λ_ _ _ _ _ _=>none) (λ_ _ _ _=>none) (λ_ _ _ _=>none) (λ_ _ _ _ _ _ _ _=>none) (λ_ _ _=>none) (λ_ _ _ _ _ _=>none) (λ_ _ _=>none) (λ_ _ _ _ _=>none) (λ_ _ _ _ _=>none) (λ_ _=>PUnit.unit.{1}) PUnit.unit.{1} (λ_ _ _ _=>PUnit.unit.{1}) x0))
theorem l107_eq : ∀ x0 x1 x2 x3, (Eq (l107 x0 x1 x2 x3) (@eqK._sparseCasesOn_4 (λ_=>t369) x0 (λx4=>(@Option.rec Bool (λ_=>t369) none (λx5=>(some (@Bool.rec (λ_=>Bool) Bool.false x5 (k_bytesEq (@Array.toList UInt8 (ByteArray.data x2)) (@Array.toList UInt8 (ByteArray.data x4)))))) (x1 x3))) (λ_=>none))) := by intro t; cases t <;> (intros; rfl)
abbrev t403:=CV → t401
def l110 : t403 := (λx0=>(@CV.rec (λ_=>t401) (λ_=>PUnit.{1}) (λ_ _ _=>none) (λx1 x2 x3 x4=>(l107 x1 x2 x3 x4)) (λ_ _ _ _ _=>none) (λ_ _ _ _ _ _ _ _=>none) (λ_ _ _=>none) (λ_ _ _ _=>none) (λ_ _ _ _ _=>none) (λ_ _ _ _ _=>none) (λ_ _ _ _ _ _ _ _=>none) (λ_ _ _ _=>none) (λ_ _ _ _ _ _=>none) PUnit.unit.{1} (λ_ _ _ _=>PUnit.unit.{1}) x0))
theorem l110_eq : ∀ x0 x1 x2 x3, (Eq (l110 x0 x1 x2 x3) (@natOf._sparseCasesOn_1 (λ_=>t369) x0 (λx4=>(l107 x4 x1 x2 x3)) (λ_=>none))) := by intro t; cases t <;> (intros; rfl)
abbrev t404:=ByteArray → t369
abbrev t405:=t372 → t404
abbrev t406:=t7 → t405
def l111 : t406 := (λx0=>(@List.rec CV (λ_=>t405) (λ_ _=>none) (λx1 x2 _ x4 x5=>(l110 x1 x4 x5 x2)) x0))
theorem l111_eq : ∀ x0 x1 x2, (Eq (l111 x0 x1 x2) (@zipIx._sparseCasesOn_3 CV (λ_=>t369) x0 (λx3 x4=>(l110 x3 x1 x2 x4)) (λ_=>none))) := by intro t; cases t <;> (intros; rfl)
abbrev t407:=t372 → t369
abbrev t408:=t7 → t407
abbrev t409:=Value → t408
def l112 : t409 := (λx0=>(@Value.rec (λ_=>t408) (λ_=>PUnit.{1}) (λ_=>PUnit.{1}) (λx1 x2 x3=>(l106 x2 x3 x1)) (λx1 x2 x3 x4=>(l103 x3 x4 x1 x2)) (λ_ _ _ _=>none) (λ_ _ _ _ _=>none) (λx1 x2 x3=>(l111 x2 x3 x1)) (λ_ _ _=>none) (λ_ _ _ _ _=>none) (λ_ _ _=>none) (λ_ _ _=>none) (λ_ _ _ _ _ _ _=>none) (λ_ _=>none) (λ_ _ _ _ _=>none) (λ_ _=>none) (λ_ _ _ _=>none) (λ_ _ _ _=>none) (λ_ _=>PUnit.unit.{1}) PUnit.unit.{1} (λ_ _ _ _=>PUnit.unit.{1}) x0))
theorem l112_eq : ∀ x0 x1 x2, (Eq (l112 x0 x1 x2) (@eqK._sparseCasesOn_2 (λ_=>t369) x0 (λx3 x4=>(l103 x1 x2 x3 x4)) (λx3=>(l106 x1 x2 x3)) (λx3=>(l111 x1 x2 x3)) (λ_=>none))) := by intro t; cases t <;> (intros; rfl)
abbrev t410:=CV → t408
def l113 : t410 := (λx0=>(@CV.rec (λ_=>t408) (λ_=>PUnit.{1}) (λ_ _=>none) (λx1 x2 x3=>(l112 x1 x2 x3)) (λ_ _ _ _=>none) (λ_ _ _ _ _ _ _=>none) (λ_ _=>none) (λ_ _ _=>none) (λ_ _ _ _=>none) (λ_ _ _ _=>none) (λ_ _ _ _ _ _ _=>none) (λ_ _ _=>none) (λ_ _ _ _ _=>none) PUnit.unit.{1} (λ_ _ _ _=>PUnit.unit.{1}) x0))
theorem l113_eq : ∀ x0 x1 x2, (Eq (l113 x0 x1 x2) (@natOf._sparseCasesOn_1 (λ_=>t369) x0 (λx3=>(l112 x3 x1 x2)) (λ_=>none))) := by intro t; cases t <;> (intros; rfl)
abbrev t411:=t7 → t372
def k_eqK : t411 := (λx0 x1=>(@List.rec CV (λ_=>t372) (λx2=>(l90 x2)) (λx2 _ x4 x5=>(l113 x2 x5 x4)) x0 x1))
theorem k_eqK_law : ∀ x0 x1, (Eq (k_eqK x0 x1) (eqK x0 x1)) := by
  intro t
  induction t with
  | nil  =>
    intro z0
    show ((fun (x0 : t7) => (l90 x0)) z0) = _
    conv => rhs; rw [Ev.eqK.eq_def]
    try simp only [l90_eq]
    all_goals kernel_rfl
  | cons y0 y1 ih0 =>
    intro z0
    have e0 : (fun (x0 : t7) => (k_eqK y1 x0)) = (fun (x0 : t7) => (eqK y1 x0)) := by
      funext z0; exact ih0 z0
    show ((fun (x0 : CV) (_ : t7) (x2 : t372) (x3 : t7) => (l113 x0 x3 x2)) y0 y1 (fun (x0 : t7) => (k_eqK y1 x0)) z0) = _
    rw [e0]
    conv => rhs; rw [Ev.eqK.eq_def]
    try simp only [l110_eq, l113_eq, l107_eq, l103_eq, l105_eq, l91_eq, l111_eq, l102_eq, l112_eq, l106_eq, l104_eq]
    try rw [k_kEq_eq]
    try rw [k_iEq_eq]
    try rw [k_bytesEq_eq]
    all_goals kernel_rfl
theorem k_eqK_eq : @k_eqK = eqK := by
  funext a0 a1; exact k_eqK_law a0 a1
abbrev t412:=CV → t372
def l89 : t412 := (λx0=>(@CV.rec (λ_=>t372) (λ_=>PUnit.{1}) (λ_=>none) (λx1 _=>(l88 x1)) (λ_ _ _=>none) (λ_ _ _ _ _ _=>none) (λ_=>none) (λ_ _=>none) (λx1 _ x3=>(k_eqK x3 x1)) (λ_ _ _=>none) (λ_ _ _ _ _ _=>none) (λ_ _=>none) (λ_ _ _ _=>none) PUnit.unit.{1} (λ_ _ _ _=>PUnit.unit.{1}) x0))
theorem l89_eq : ∀ x0 x1, (Eq (l89 x0 x1) (@eqKey._sparseCasesOn_1 (λ_=>t369) x0 (λx2=>(k_eqK x1 x2)) (λx2=>(l88 x2)) (λ_=>none))) := by intro t; cases t <;> (intros; rfl)
abbrev t413:=Value → t370
def l114 : t413 := (λx0 x1=>(k_eqK ((CV.val x0) :: []) ((CV.val x1) :: [])))
theorem l114_eq : ∀ x0 x1, (Eq (l114 x0 x1) (k_eqK ((CV.val x0) :: []) ((CV.val x1) :: []))) := by intros; rfl
abbrev t414:=Value → t413
def l115 : t414 := (λx0=>(@Value.rec (λ_=>t413) (λ_=>PUnit.{1}) (λ_=>PUnit.{1}) (λ_ x2 x3=>(l114 x2 x3)) (λ_ _ x3 x4=>(l114 x3 x4)) (λ_ _ x3 x4=>(l114 x3 x4)) (λ_ _ _ x4 x5=>(l114 x4 x5)) (λ_ x2 x3=>(l114 x2 x3)) (λ_ x2 x3=>(l114 x2 x3)) (λ_ _ _ x4 x5=>(l114 x4 x5)) (λ_ x2 x3=>(l114 x2 x3)) (λ_ x2 x3=>(l114 x2 x3)) (λ_ _ _ _ _ x6 x7=>(l114 x6 x7)) (λx1 x2=>(l114 x1 x2)) (λ_ _ _ x4 x5=>(l114 x4 x5)) (λx1 x2=>(l114 x1 x2)) (λ_ _ _ _=>none) (λ_ _ x3 x4=>(l114 x3 x4)) (λ_ _=>PUnit.unit.{1}) PUnit.unit.{1} (λ_ _ _ _=>PUnit.unit.{1}) x0))
theorem l115_eq : ∀ x0 x1 x2, (Eq (l115 x0 x1 x2) (@bok._sparseCasesOn_2 (λ_=>t369) x0 (λ_=>none) (λ_=>(l114 x1 x2)))) := by intro t; cases t <;> (intros; rfl)
abbrev t415:=CV → t370
def l116 : t415 := (λx0=>(@CV.rec (λ_=>t370) (λ_=>PUnit.{1}) (λ_=>none) (λx1 x2=>(l115 x1 x2 x1)) (λ_ _ _=>none) (λ_ _ _ _ _ _=>none) (λ_=>none) (λ_ _=>none) (λ_ _ _=>none) (λ_ _ _=>none) (λ_ _ _ _ _ _=>none) (λ_ _=>none) (λ_ _ _ _=>none) PUnit.unit.{1} (λ_ _ _ _=>PUnit.unit.{1}) x0))
theorem l116_eq : ∀ x0 x1, (Eq (l116 x0 x1) (@natOf._sparseCasesOn_1 (λ_=>t369) x0 (λx2=>(l115 x2 x1 x2)) (λ_=>none))) := by intro t; cases t <;> (intros; rfl)
abbrev t416:=Value → t415
def l117 : t416 := (λx0=>(@Value.rec (λ_=>t415) (λ_=>PUnit.{1}) (λ_=>PUnit.{1}) (λ_ x2 x3=>(l116 x2 x3)) (λ_ _ x3 x4=>(l116 x3 x4)) (λ_ _ x3 x4=>(l116 x3 x4)) (λ_ _ _ x4 x5=>(l116 x4 x5)) (λ_ x2 x3=>(l116 x2 x3)) (λ_ x2 x3=>(l116 x2 x3)) (λ_ _ _ x4 x5=>(l116 x4 x5)) (λ_ x2 x3=>(l116 x2 x3)) (λ_ x2 x3=>(l116 x2 x3)) (λ_ _ _ _ _ x6 x7=>(l116 x6 x7)) (λx1 x2=>(l116 x1 x2)) (λ_ _ _ x4 x5=>(l116 x4 x5)) (λx1 x2=>(l116 x1 x2)) (λ_ _ _ _=>none) (λ_ _ x3 x4=>(l116 x3 x4)) (λ_ _=>PUnit.unit.{1}) PUnit.unit.{1} (λ_ _ _ _=>PUnit.unit.{1}) x0))
theorem l117_eq : ∀ x0 x1 x2, (Eq (l117 x0 x1 x2) (@bok._sparseCasesOn_2 (λ_=>t369) x0 (λ_=>none) (λ_=>(l116 x1 x2)))) := by intro t; cases t <;> (intros; rfl)
abbrev t417:=CV → t371
def l118 : t417 := (λx0=>(@CV.rec (λ_=>t371) (λ_=>PUnit.{1}) (λx1=>(l87 x1)) (λx1 x2=>(l117 x1 x2 x1)) (λ_ _ x3=>(l87 x3)) (λ_ _ _ _ _ x6=>(l87 x6)) (λx1=>(l87 x1)) (λ_ x2=>(l87 x2)) (λx1 _ x3=>(l89 x3 x1)) (λ_ _ x3=>(l87 x3)) (λ_ _ _ _ _ x6=>(l87 x6)) (λ_ x2=>(l87 x2)) (λ_ _ _ x4=>(l87 x4)) PUnit.unit.{1} (λ_ _ _ _=>PUnit.unit.{1}) x0))
theorem l118_eq : ∀ x0 x1, (Eq (l118 x0 x1) (@eqKey._sparseCasesOn_1 (λ_=>t369) x0 (λx2=>(l89 x1 x2)) (λx2=>(l117 x2 x1 x2)) (λ_=>(l87 x1)))) := by intro t; cases t <;> (intros; rfl)
def k_eqKey : t417 := (λx0 x1=>(l118 x0 x1))
theorem k_eqKey_eq : @k_eqKey = eqKey := by
  delta k_eqKey eqKey
  simp only [l116_eq, l86_eq, l87_eq, l118_eq, l115_eq, l114_eq, l89_eq, l117_eq, l88_eq]
  rw [k_eqK_eq]
  all_goals kernel_rfl

abbrev t418:=Option t367
abbrev t419:=Nat → t418
abbrev t420:=CV → t419
abbrev t421:=CV → t418
abbrev t422:=t420 → t421
abbrev t423:=Nat → t422
abbrev t424:=CV → t423
abbrev t425:=t342 → t424
def l85 : t425 := (λx0=>(@Prod.rec CV Nat (λ_=>t424) (λx1 _ x3 x4 x5 x6=>(@Option.rec Bool (λ_=>t418) none (λx7=>(@Bool.rec (λ_=>t418) (x5 x3 (Nat.add x4 (nat_lit 1))) (some (some (x4, x1))) x7)) (k_eqKey x3 x6))) x0))
theorem l85_eq : ∀ x0 x1 x2 x3 x4, (Eq (l85 x0 x1 x2 x3 x4) (@Prod.rec CV Nat (λ_=>t418) (λx5 _=>(@Option.rec Bool (λ_=>t418) none (λx7=>(@Bool.rec (λ_=>t418) (x3 x1 (Nat.add x2 (nat_lit 1))) (some (some (x2, x5))) x7)) (k_eqKey x1 x4))) x0)) := by intro t; cases t <;> (intros; rfl)
abbrev t426:=t344 → t419
abbrev t427:=CV → t426
def k_findE : t427 := (λx0 x1 x2=>(@List.rec t343 (λ_=>t420) (λ_ _=>(some none)) (λx3 _ x5 x6 x7=>(@Prod.rec CV t342 (λ_=>t418) (λx8 x9=>(l85 x9 x6 x7 x5 x8)) x3)) x1 x0 x2))
theorem k_findE_law : ∀ x0 x1 x2, (Eq (k_findE x1 x0 x2) (findE x1 x0 x2)) := by
  intro t
  induction t with
  | nil  =>
    intro z0 z1
    show ((fun (_ : CV) (_ : Nat) => (some none)) z0 z1) = _
    conv => rhs; rw [Ev.findE.eq_def]
    all_goals kernel_rfl
  | cons y0 y1 ih0 =>
    intro z0 z1
    have e0 : (fun (x0 : CV) (x1 : Nat) => (k_findE x0 y1 x1)) = (fun (x0 : CV) (x1 : Nat) => (findE x0 y1 x1)) := by
      funext z0 z1; exact ih0 z0 z1
    show ((fun (x0 : t343) (_ : t344) (x2 : t420) (x3 : CV) (x4 : Nat) => (@Prod.rec CV t342 (fun (_ : t343) => t418) (fun (x5 : CV) (x6 : t342) => (l85 x6 x3 x4 x2 x5)) x0)) y0 y1 (fun (x0 : CV) (x1 : Nat) => (k_findE x0 y1 x1)) z0 z1) = _
    rw [e0]
    conv => rhs; rw [Ev.findE.eq_def]
    try simp only [l85_eq]
    try rw [k_eqKey_eq]
    all_goals kernel_rfl
theorem k_findE_eq : @k_findE = findE := by
  funext a0 a1 a2; exact k_findE_law a1 a0 a2
abbrev t428:=CV → t186
abbrev t429:=Nat → t428
abbrev t430:=TypeId → t429
abbrev t431:=CO → t430
def l84 : t431 := (λx0=>(@CO.rec (λ_=>t430) (λ_ _ _ _ _ _ _ _=>none) (λx1 x2 x3 x4 x5 x6 x7 x8=>(@Bool.rec (λ_=>t4) (@Option.rec t367 (λ_=>t4) none (λx9=>(l83 x9 x4 x5 x6 x7 x8 x2 x3)) (k_findE x6 x2 (nat_lit 0))) none (@Bool.rec (λ_=>Bool) Bool.true Bool.false (Nat.beq x1 x4)))) (λ_ _ _ _ _ _ _ _ _ _ _ _ _=>none) (λ_ _ _ _ _=>none) (λ_ _ _ _ _=>none) x0))
theorem l84_eq : ∀ x0 x1 x2 x3 x4 x5, (Eq (l84 x0 x1 x2 x3 x4 x5) (@lookupV._sparseCasesOn_2 (λ_=>t4) x0 (λx6 x7 x8=>(@Bool.rec (λ_=>t4) (@Option.rec t367 (λ_=>t4) none (λx9=>(l83 x9 x1 x2 x3 x4 x5 x7 x8)) (k_findE x3 x7 (nat_lit 0))) none (@Bool.rec (λ_=>Bool) Bool.true Bool.false (Nat.beq x6 x1)))) (λ_=>none))) := by intro t; cases t <;> (intros; rfl)
abbrev t432:=Option Lit
abbrev t433:=t432 → Bool
def k_Option_isSome_Lit : t433 := (λx0=>(@Option.rec Lit (λ_=>Bool) Bool.false (λx1=>((λ_=>Bool.true) x1)) x0))
theorem k_Option_isSome_Lit_eq : @k_Option_isSome_Lit = (@Option.isSome Lit) := by
  delta k_Option_isSome_Lit Option.isSome
  all_goals kernel_rfl

abbrev t434:=t215 → t215
abbrev t435:=CV → t434
def l121 : t435 := (λx0=>(@CV.rec (λ_=>t434) (λ_=>PUnit.{1}) (λ_=>none) (λx1 x2=>(@Option.rec t213 (λ_=>t215) none (λx3=>(some (x1 :: x3))) x2)) (λ_ _ _=>none) (λ_ _ _ _ _ _=>none) (λ_=>none) (λ_ _=>none) (λ_ _ _=>none) (λ_ _ _=>none) (λ_ _ _ _ _ _=>none) (λ_ _=>none) (λ_ _ _ _=>none) PUnit.unit.{1} (λ_ _ _ _=>PUnit.unit.{1}) x0))
theorem l121_eq : ∀ x0 x1, (Eq (l121 x0 x1) (@natOf._sparseCasesOn_1 (λ_=>t215) x0 (λx2=>(@Option.rec t213 (λ_=>t215) none (λx3=>(some (x2 :: x3))) x1)) (λ_=>none))) := by intro t; cases t <;> (intros; rfl)
abbrev t436:=t7 → t215
def k_toVals : t436 := (λx0=>(@List.rec CV (λ_=>t215) (some []) (λx1 _ x3=>(l121 x1 x3)) x0))
theorem k_toVals_law : ∀ x0, (Eq (k_toVals x0) (toVals x0)) := by
  intro t
  induction t with
  | nil  =>
    show (some []) = _
    conv => rhs; rw [Ev.toVals.eq_def]
    all_goals kernel_rfl
  | cons y0 y1 ih0 =>
    have e0 : (k_toVals y1) = (toVals y1) := by
      exact ih0
    show ((fun (x0 : CV) (_ : t7) (x2 : t215) => (l121 x0 x2)) y0 y1 (k_toVals y1)) = _
    rw [e0]
    conv => rhs; rw [Ev.toVals.eq_def]
    try simp only [l121_eq]
    all_goals kernel_rfl
theorem k_toVals_eq : @k_toVals = toVals := by
  funext a0; exact k_toVals_law a0
abbrev t437:=Option Value
abbrev t438:=CV → t437
def l120 : t438 := (λx0=>(@CV.rec (λ_=>t437) (λ_=>PUnit.{1}) none (λx1=>(some x1)) (λ_ _=>none) (λ_ _ _ _ _=>none) none (λ_=>none) (λx1 _=>(@Option.rec t213 (λ_=>t437) none (λx3=>((λx4=>(some (Value.agg (@List.toArray Value x4)))) x3)) (k_toVals x1))) (λ_ _=>none) (λ_ _ _ _ _=>none) (λ_=>none) (λ_ _ _=>none) PUnit.unit.{1} (λ_ _ _ _=>PUnit.unit.{1}) x0))
theorem l120_eq : ∀ x0, (Eq (l120 x0) (@toVal._sparseCasesOn_1 (λ_=>t437) x0 (λx1=>(some x1)) (λx1=>(@Option.rec t213 (λ_=>t437) none (λx2=>((λx3=>(some (Value.agg (@List.toArray Value x3)))) x2)) (k_toVals x1))) (λ_=>none))) := by intro t; cases t <;> (intros; rfl)
def k_toVal : t438 := (λx0=>(l120 x0))
theorem k_toVal_eq : @k_toVal = toVal := by
  delta k_toVal toVal
  simp only [l120_eq]
  rw [k_toVals_eq]
  all_goals kernel_rfl

abbrev t439:=TypeId → Bool
abbrev t440:=Program → t439
abbrev t441:=TypeDesc → t440
def l122 : t441 := (λx0=>(@TypeDesc.rec (λ_=>t440) (λ_ _=>Bool.false) (λ_ _=>Bool.true) (λ_ _ _=>Bool.true) (λ_ _ _=>Bool.false) (λ_ _ _=>Bool.false) (λ_ _=>Bool.true) (λ_ _=>Bool.false) (λ_ _ _=>Bool.false) (λ_ _ _=>Bool.false) (λ_ _ x3 x4=>(@Bool.rec (λ_=>Bool) Bool.false (Program.keyTypeAt x3 (nat_lit 3) x4) (k_Nat_blt x4 (@Array.size TypeInfo (Tables.types (Program.toTables x3)))))) (λ_ _ _ _=>Bool.false) (λ_ _ _ _=>Bool.false) (λ_ x2 x3=>(@Bool.rec (λ_=>Bool) Bool.false (Program.keyTypeAt x2 (nat_lit 3) x3) (k_Nat_blt x3 (@Array.size TypeInfo (Tables.types (Program.toTables x2)))))) (λ_ _ _ _ _=>Bool.false) (λ_ _ _=>Bool.false) (λ_ _ _=>Bool.false) (λ_ _ _ _=>Bool.false) x0))
theorem l122_eq : ∀ x0 x1 x2, (Eq (l122 x0 x1 x2) (@keyedB._sparseCasesOn_1 (λ_=>Bool) x0 (λ_=>Bool.true) Bool.true Bool.true (λ_=>(@Bool.rec (λ_=>Bool) Bool.false (Program.keyTypeAt x1 (nat_lit 3) x2) (k_Nat_blt x2 (@Array.size TypeInfo (Tables.types (Program.toTables x1)))))) (λ_ _=>(@Bool.rec (λ_=>Bool) Bool.false (Program.keyTypeAt x1 (nat_lit 3) x2) (k_Nat_blt x2 (@Array.size TypeInfo (Tables.types (Program.toTables x1)))))) (λ_=>Bool.false))) := by intro t; cases t <;> (intros; rfl)
abbrev t442:=t336 → t440
def l123 : t442 := (λx0=>(@Option.rec TypeDesc (λ_=>t440) (λ_ _=>Bool.false) (λx1 x2 x3=>(l122 x1 x2 x3)) x0))
theorem l123_eq : ∀ x0 x1 x2, (Eq (l123 x0 x1 x2) (@elInfo._sparseCasesOn_3 TypeDesc (λ_=>Bool) x0 (λx3=>(l122 x3 x1 x2)) (λ_=>Bool.false))) := by intro t; cases t <;> (intros; rfl)
def k_keyedB : t440 := (λx0 x1=>(l123 (Program.underlying x0 x1) x0 x1))
theorem k_keyedB_eq : @k_keyedB = keyedB := by
  delta k_keyedB keyedB
  simp only [l123_eq, l122_eq]
  rw [k_Nat_blt_eq]
  all_goals kernel_rfl

abbrev t443:=TypeId → t2
abbrev t444:=Program → t443
def k_keyOk : t444 := (λx0 x1 x2=>(@Bool.rec (λ_=>Bool) Bool.false (@Option.rec Value (λ_=>Bool) Bool.false (λx3=>((λx4=>(k_Option_isSome_Lit (keyOf x0 x1 x4))) x3)) (k_toVal x2)) (k_keyedB x0 x1)))
theorem k_keyOk_eq : @k_keyOk = keyOk := by
  delta k_keyOk keyOk
  rw [k_keyedB_eq, k_toVal_eq, k_Option_isSome_Lit_eq]
  all_goals kernel_rfl

abbrev t445:=Nat → t19
abbrev t446:=TypeId → t445
abbrev t447:=S → t446
abbrev t448:=Program → t447
abbrev t449:=t81 → t448
def l119 : t449 := (λx0=>(@Option.rec CV (λ_=>t448) (λ_ _ _ _ _=>none) (λx1 x2 x3 x4 x5 x6=>(k_ifT_Ret (k_keyOk x2 x4 x6) (k_rd_Ret x3 x5 (λx7 x8=>(l84 x7 x4 x5 x6 x1 x8))))) x0))
theorem l119_eq : ∀ x0 x1 x2 x3 x4 x5, (Eq (l119 x0 x1 x2 x3 x4 x5) (@elInfo._sparseCasesOn_3 CV (λ_=>t4) x0 (λx6=>(k_ifT_Ret (k_keyOk x1 x3 x5) (k_rd_Ret x2 x4 (λx7 x8=>(l84 x7 x3 x4 x5 x6 x8))))) (λ_=>none))) := by intro t; cases t <;> (intros; rfl)
abbrev t450:=Operand → t286
abbrev t451:=t14 → t450
abbrev t452:=Program → t451
abbrev t453:=t81 → t452
def l124 : t453 := (λx0=>(@Option.rec CV (λ_=>t452) (λ_ _ _ _ _ _=>none) (λx1 x2 x3 x4 x5 x6 x7=>(l119 (k_ev x3 x4) x2 x5 x6 x7 x1)) x0))
theorem l124_eq : ∀ x0 x1 x2 x3 x4 x5 x6, (Eq (l124 x0 x1 x2 x3 x4 x5 x6) (@elInfo._sparseCasesOn_3 CV (λ_=>t4) x0 (λx7=>(l119 (k_ev x2 x3) x1 x4 x5 x6 x7)) (λ_=>none))) := by intro t; cases t <;> (intros; rfl)
abbrev t454:=Operand → t321
abbrev t455:=Operand → t454
abbrev t456:=t14 → t455
abbrev t457:=Program → t456
abbrev t458:=CV → t457
def l125 : t458 := (λx0=>(@CV.rec (λ_=>t457) (λ_=>PUnit.{1}) (λ_ _ _ _ _ _=>none) (λ_ _ _ _ _ _ _=>none) (λ_ _ _ _ _ _ _ _=>none) (λ_ _ _ _ _ _ _ _ _ _ _=>none) (λ_ _ _ _ _ _=>none) (λx1 x2 x3 x4 x5 x6 x7=>(l124 (k_ev x3 x4) x2 x3 x5 x6 x7 x1)) (λ_ _ _ _ _ _ _ _=>none) (λ_ _ _ _ _ _ _ _=>none) (λ_ _ _ _ _ _ _ _ _ _ _=>none) (λ_ _ _ _ _ _ _=>none) (λ_ _ _ _ _ _ _ _ _=>none) PUnit.unit.{1} (λ_ _ _ _=>PUnit.unit.{1}) x0))
theorem l125_eq : ∀ x0 x1 x2 x3 x4 x5 x6, (Eq (l125 x0 x1 x2 x3 x4 x5 x6) (@o_mapUpdate._sparseCasesOn_1 (λ_=>t4) x0 (λx7=>(l124 (k_ev x2 x3) x1 x2 x4 x5 x6 x7)) (λ_=>none))) := by intro t; cases t <;> (intros; rfl)
abbrev t459:=t81 → t457
def l126 : t459 := (λx0=>(@Option.rec CV (λ_=>t457) (λ_ _ _ _ _ _=>none) (λx1 x2 x3 x4 x5 x6 x7=>(l125 x1 x2 x3 x4 x5 x6 x7)) x0))
theorem l126_eq : ∀ x0 x1 x2 x3 x4 x5 x6, (Eq (l126 x0 x1 x2 x3 x4 x5 x6) (@elInfo._sparseCasesOn_3 CV (λ_=>t4) x0 (λx7=>(l125 x7 x1 x2 x3 x4 x5 x6)) (λ_=>none))) := by intro t; cases t <;> (intros; rfl)
abbrev t460:=Prod TypeId TypeId
abbrev t461:=Option t460
abbrev t462:=t461 → t206
def l127 : t462 := (λx0=>(@Option.rec t460 (λ_=>t206) (λ_ _ _ _ _ _=>none) (λx1 x2 x3 x4 x5 x6 x7=>(@Prod.rec TypeId TypeId (λ_=>t4) (λx8 _=>(l126 (k_ev x3 x4) x2 x3 x5 x6 x7 x8)) x1)) x0))
theorem l127_eq : ∀ x0 x1 x2 x3 x4 x5 x6, (Eq (l127 x0 x1 x2 x3 x4 x5 x6) (@elInfo._sparseCasesOn_3 t460 (λ_=>t4) x0 (λx7=>(@Prod.rec TypeId TypeId (λ_=>t4) (λx8 _=>(l126 (k_ev x2 x3) x1 x2 x4 x5 x6 x8)) x7)) (λ_=>none))) := by intro t; cases t <;> (intros; rfl)
abbrev t463:=TypeDesc → t461
def l128 : t463 := (λx0=>(@TypeDesc.rec (λ_=>t461) none none (λ_=>none) (λ_=>none) (λ_=>none) none none (λ_=>none) (λ_=>none) (λ_ _=>none) (λx1 x2=>(some (x1, x2))) (λ_ _=>none) (λ_=>none) (λ_ _ _=>none) (λ_=>none) (λ_=>none) (λ_ _=>none) x0))
theorem l128_eq : ∀ x0, (Eq (l128 x0) (@mapInfo._sparseCasesOn_1 (λ_=>t461) x0 (λx1 x2=>(some (x1, x2))) (λ_=>none))) := by intro t; cases t <;> (intros; rfl)
abbrev t464:=t336 → t461
def l129 : t464 := (λx0=>(@Option.rec TypeDesc (λ_=>t461) none (λx1=>(l128 x1)) x0))
theorem l129_eq : ∀ x0, (Eq (l129 x0) (@elInfo._sparseCasesOn_3 TypeDesc (λ_=>t461) x0 (λx1=>(l128 x1)) (λ_=>none))) := by intro t; cases t <;> (intros; rfl)
abbrev t465:=TypeId → t461
abbrev t466:=Program → t465
def k_mapInfo : t466 := (λx0 x1=>(l129 (Program.underlying x0 x1)))
theorem k_mapInfo_eq : @k_mapInfo = mapInfo := by
  delta k_mapInfo mapInfo
  simp only [l128_eq, l129_eq]
  all_goals kernel_rfl

abbrev t467:=TypeId → t204
abbrev t468:=t14 → t467
abbrev t469:=Program → t468
def k_o_mapUpdate : t469 := (λx0 x1 x2 x3 x4 x5 x6=>(l127 (k_mapInfo x0 x2) x0 x1 x3 x4 x5 x6))
theorem k_o_mapUpdate_eq : @k_o_mapUpdate = o_mapUpdate := by
  delta k_o_mapUpdate o_mapUpdate
  simp only [l126_eq, l124_eq, l83_eq, l80_eq, l119_eq, l125_eq, l84_eq, l127_eq]
  rw [k_mapInfo_eq, k_setE_eq, k_wr_Ret_eq, k_ok1_eq, k_snoc_511_eq, k_findE_eq, k_ifT_Ret_eq, k_rd_Ret_eq, k_keyOk_eq, k_ev_eq]
  all_goals kernel_rfl

abbrev t470:=t7 → t20
def l130 : t470 := (λx0=>(@List.rec CV (λ_=>t20) (λx1 x2=>(k_ok1 x2 x1)) (λ_ _ _ _ _=>none) x0))
theorem l130_eq : ∀ x0 x1 x2, (Eq (l130 x0 x1 x2) (@zipIx._sparseCasesOn_2 CV (λ_=>t4) x0 (k_ok1 x2 x1) (λ_=>none))) := by intro t; cases t <;> (intros; rfl)
def l131 : t9 := (λx0=>(@List.rec CV (λ_=>t8) (λ_=>none) (λx1 x2 _ x4=>(l130 x2 x4 x1)) x0))
theorem l131_eq : ∀ x0 x1, (Eq (l131 x0 x1) (@zipIx._sparseCasesOn_3 CV (λ_=>t4) x0 (λx2 x3=>(l130 x3 x1 x2)) (λ_=>none))) := by intro t; cases t <;> (intros; rfl)
def l132 : t186 := (λx0=>(@CV.rec (λ_=>t8) (λ_=>PUnit.{1}) (λ_=>none) (λ_ _=>none) (λx1 x2 x3=>(k_rdRow x3 x1 x2 (nat_lit 1) (λx4 x5=>(l131 x4 x5)))) (λ_ _ _ _ _ _=>none) (λ_=>none) (λ_ _=>none) (λ_ _ _=>none) (λ_ _ _=>none) (λ_ _ _ _ _ _=>none) (λ_ _=>none) (λ_ _ _ _=>none) PUnit.unit.{1} (λ_ _ _ _=>PUnit.unit.{1}) x0))
theorem l132_eq : ∀ x0 x1, (Eq (l132 x0 x1) (@o_load._sparseCasesOn_2 (λ_=>t4) x0 (λx2 x3=>(k_rdRow x1 x2 x3 (nat_lit 1) (λx4 x5=>(l131 x4 x5)))) (λ_=>none))) := by intro t; cases t <;> (intros; rfl)
def l133 : t101 := (λx0=>(@Option.rec CV (λ_=>t8) (λ_=>none) (λx1 x2=>(l132 x1 x2)) x0))
theorem l133_eq : ∀ x0 x1, (Eq (l133 x0 x1) (@elInfo._sparseCasesOn_3 CV (λ_=>t4) x0 (λx2=>(l132 x2 x1)) (λ_=>none))) := by intro t; cases t <;> (intros; rfl)
abbrev t471:=S → t41
abbrev t472:=CV → t471
def l134 : t472 := (λx0=>(@CV.rec (λ_=>t471) (λ_=>PUnit.{1}) (λ_ _=>none) (λ_ _ _=>none) (λx1 x2 x3 x4=>(k_rdRow x3 x1 x2 x4 (λx5 x6=>(k_ok1 (CV.agg x5) x6)))) (λ_ _ _ _ _ _ _=>none) (λ_ _=>none) (λ_ _ _=>none) (λ_ _ _ _=>none) (λ_ _ _ _=>none) (λ_ _ _ _ _ _ _=>none) (λ_ _ _=>none) (λ_ _ _ _ _=>none) PUnit.unit.{1} (λ_ _ _ _=>PUnit.unit.{1}) x0))
theorem l134_eq : ∀ x0 x1 x2, (Eq (l134 x0 x1 x2) (@o_load._sparseCasesOn_2 (λ_=>t4) x0 (λx3 x4=>(k_rdRow x1 x3 x4 x2 (λx5 x6=>(k_ok1 (CV.agg x5) x6)))) (λ_=>none))) := by intro t; cases t <;> (intros; rfl)
abbrev t473:=t81 → t471
def l135 : t473 := (λx0=>(@Option.rec CV (λ_=>t471) (λ_ _=>none) (λx1 x2 x3=>(l134 x1 x2 x3)) x0))
theorem l135_eq : ∀ x0 x1 x2, (Eq (l135 x0 x1 x2) (@elInfo._sparseCasesOn_3 CV (λ_=>t4) x0 (λx3=>(l134 x3 x1 x2)) (λ_=>none))) := by intro t; cases t <;> (intros; rfl)
abbrev t474:=t67 → t192
def l136 : t474 := (λx0=>(@Option.rec t66 (λ_=>t192) (λ_ _ _=>none) (λx1 x2 x3 x4=>(@Prod.rec Bool Nat (λ_=>t4) (λx5 x6=>(@Bool.rec (λ_=>t4) (l133 (k_ev x2 x3) x4) (l135 (k_ev x2 x3) x4 x6) x5)) x1)) x0))
theorem l136_eq : ∀ x0 x1 x2 x3, (Eq (l136 x0 x1 x2 x3) (@elInfo._sparseCasesOn_3 t66 (λ_=>t4) x0 (λx4=>(@Prod.rec Bool Nat (λ_=>t4) (λx5 x6=>(@Bool.rec (λ_=>t4) (l133 (k_ev x1 x2) x3) (l135 (k_ev x1 x2) x3 x6) x5)) x4)) (λ_=>none))) := by intro t; cases t <;> (intros; rfl)
def k_o_load : t226 := (λx0 x1 x2 x3 x4=>(l136 (tyInfo x0 x2) x1 x3 x4))
theorem k_o_load_eq : @k_o_load = o_load := by
  delta k_o_load o_load
  simp only [l136_eq, l133_eq, l134_eq, l135_eq, l130_eq, l131_eq, l132_eq]
  rw [k_ok1_eq, k_rdRow_eq, k_ev_eq]
  all_goals kernel_rfl

abbrev t475:=Nat → t186
abbrev t476:=Nat → t475
abbrev t477:=CO → t476
def l137 : t477 := (λx0=>(@CO.rec (λ_=>t476) (λx1 x2 x3 x4 x5 x6 x7=>(@Option.rec t7 (λ_=>t4) none (λx8=>((λx9=>(k_wr_Ret x7 x4 (some (CO.row x1 x9 x3)) (λx10=>(k_ok1 (CV.tup []) x10)))) x8)) (k_putN x5 (k_cells x6) x2))) (λ_ _ _ _ _ _ _=>none) (λ_ _ _ _ _ _ _ _ _ _ _ _=>none) (λ_ _ _ _=>none) (λ_ _ _ _=>none) x0))
theorem l137_eq : ∀ x0 x1 x2 x3 x4, (Eq (l137 x0 x1 x2 x3 x4) (@rdRow._sparseCasesOn_1 (λ_=>t4) x0 (λx5 x6 x7=>(@Option.rec t7 (λ_=>t4) none (λx8=>((λx9=>(k_wr_Ret x4 x1 (some (CO.row x5 x9 x7)) (λx10=>(k_ok1 (CV.tup []) x10)))) x8)) (k_putN x2 (k_cells x3) x6))) (λ_=>none))) := by intro t; cases t <;> (intros; rfl)
abbrev t478:=S → t48
abbrev t479:=t81 → t478
def l138 : t479 := (λx0=>(@Option.rec CV (λ_=>t478) (λ_ _ _ _=>none) (λx1 x2 x3 x4 x5=>(k_ifT_Ret (@Bool.rec (λ_=>Bool) Bool.false (Nat.beq (k_len (k_cells x1)) x3) (@Bool.rec (λ_=>Bool) Bool.false (k_allOne (k_cells x1)) (k_bok x1))) (k_rd_Ret x2 x4 (λx6 x7=>(l137 x6 x4 x5 x1 x7))))) x0))
theorem l138_eq : ∀ x0 x1 x2 x3 x4, (Eq (l138 x0 x1 x2 x3 x4) (@elInfo._sparseCasesOn_3 CV (λ_=>t4) x0 (λx5=>(k_ifT_Ret (@Bool.rec (λ_=>Bool) Bool.false (Nat.beq (k_len (k_cells x5)) x2) (@Bool.rec (λ_=>Bool) Bool.false (k_allOne (k_cells x5)) (k_bok x5))) (k_rd_Ret x1 x3 (λx6 x7=>(l137 x6 x3 x4 x5 x7))))) (λ_=>none))) := by intro t; cases t <;> (intros; rfl)
abbrev t480:=Operand → t471
abbrev t481:=t14 → t480
abbrev t482:=CV → t481
def l139 : t482 := (λx0=>(@CV.rec (λ_=>t481) (λ_=>PUnit.{1}) (λ_ _ _ _=>none) (λ_ _ _ _ _=>none) (λx1 x2 x3 x4 x5 x6=>(l138 (k_ev x3 x4) x5 x6 x1 x2)) (λ_ _ _ _ _ _ _ _ _=>none) (λ_ _ _ _=>none) (λ_ _ _ _ _=>none) (λ_ _ _ _ _ _=>none) (λ_ _ _ _ _ _=>none) (λ_ _ _ _ _ _ _ _ _=>none) (λ_ _ _ _ _=>none) (λ_ _ _ _ _ _ _=>none) PUnit.unit.{1} (λ_ _ _ _=>PUnit.unit.{1}) x0))
theorem l139_eq : ∀ x0 x1 x2 x3 x4, (Eq (l139 x0 x1 x2 x3 x4) (@o_load._sparseCasesOn_2 (λ_=>t4) x0 (λx5 x6=>(l138 (k_ev x1 x2) x3 x4 x5 x6)) (λ_=>none))) := by intro t; cases t <;> (intros; rfl)
abbrev t483:=t81 → t481
def l140 : t483 := (λx0=>(@Option.rec CV (λ_=>t481) (λ_ _ _ _=>none) (λx1 x2 x3 x4 x5=>(l139 x1 x2 x3 x4 x5)) x0))
theorem l140_eq : ∀ x0 x1 x2 x3 x4, (Eq (l140 x0 x1 x2 x3 x4) (@elInfo._sparseCasesOn_3 CV (λ_=>t4) x0 (λx5=>(l139 x5 x1 x2 x3 x4)) (λ_=>none))) := by intro t; cases t <;> (intros; rfl)
abbrev t484:=t67 → t200
def l141 : t484 := (λx0=>(@Option.rec t66 (λ_=>t200) (λ_ _ _ _=>none) (λx1 x2 x3 x4 x5=>(@Prod.rec Bool Nat (λ_=>t4) (λ_ x7=>(l140 (k_ev x2 x3) x2 x4 x5 x7)) x1)) x0))
theorem l141_eq : ∀ x0 x1 x2 x3 x4, (Eq (l141 x0 x1 x2 x3 x4) (@elInfo._sparseCasesOn_3 t66 (λ_=>t4) x0 (λx5=>(@Prod.rec Bool Nat (λ_=>t4) (λ_ x7=>(l140 (k_ev x1 x2) x1 x3 x4 x7)) x5)) (λ_=>none))) := by intro t; cases t <;> (intros; rfl)
abbrev t485:=TypeId → t199
abbrev t486:=t14 → t485
abbrev t487:=Program → t486
def k_o_store : t487 := (λx0 x1 x2 x3 x4 x5=>(l141 (tyInfo x0 x2) x1 x3 x4 x5))
theorem k_o_store_eq : @k_o_store = o_store := by
  delta k_o_store o_store
  simp only [l140_eq, l137_eq, l139_eq, l138_eq, l141_eq]
  rw [k_putN_eq, k_cells_eq, k_wr_Ret_eq, k_ok1_eq, k_ifT_Ret_eq, k_rd_Ret_eq, k_bok_eq, k_allOne_eq, k_len_eq, k_ev_eq]
  all_goals kernel_rfl

def l142 : t186 := (λx0=>(@CV.rec (λ_=>t8) (λ_=>PUnit.{1}) (λ_=>none) (λ_ _=>none) (λx1 x2 x3=>(k_ok1 (CV.ptr x1 x2) x3)) (λ_ _ _ _ _ _=>none) (λ_=>none) (λ_ _=>none) (λ_ _ _=>none) (λ_ _ _=>none) (λx1 x2 x3 _ _ x6=>(k_ok1 (CV.fn x1 x2 x3) x6)) (λx1 x2=>(k_ok1 (CV.yld x1) x2)) (λx1 x2 _ x4=>(k_ok1 (CV.iface x1 x2) x4)) PUnit.unit.{1} (λ_ _ _ _=>PUnit.unit.{1}) x0))
theorem l142_eq : ∀ x0 x1, (Eq (l142 x0 x1) (@o_nilCheck._sparseCasesOn_1 (λ_=>t4) x0 (λx2 x3=>(k_ok1 (CV.ptr x2 x3) x1)) (λx2 x3 x4=>(k_ok1 (CV.fn x2 x3 x4) x1)) (λx2 x3=>(k_ok1 (CV.iface x2 x3) x1)) (λx2=>(k_ok1 (CV.yld x2) x1)) (λ_=>none))) := by intro t; cases t <;> (intros; rfl)
def l143 : t101 := (λx0=>(@Option.rec CV (λ_=>t8) (λ_=>none) (λx1 x2=>(l142 x1 x2)) x0))
theorem l143_eq : ∀ x0 x1, (Eq (l143 x0 x1) (@elInfo._sparseCasesOn_3 CV (λ_=>t4) x0 (λx2=>(l142 x2 x1)) (λ_=>none))) := by intro t; cases t <;> (intros; rfl)
def k_o_nilCheck : t193 := (λ_ x1 x2 x3=>(l143 (k_ev x1 x2) x3))
theorem k_o_nilCheck_eq : @k_o_nilCheck = o_nilCheck := by
  delta k_o_nilCheck o_nilCheck
  simp only [l143_eq, l142_eq]
  rw [k_ev_eq, k_ok1_eq]
  all_goals kernel_rfl

abbrev t488:=Bool → t4
abbrev t489:=S → t488
def k_retB : t489 := (λx0 x1=>(@Bool.rec (λ_=>t4) (some (Ret.ok (CV.val (Value.bool Bool.false)) x0)) (some (Ret.ok (CV.val (Value.bool Bool.true)) x0)) x1))
theorem k_retB_eq : @k_retB = retB := by
  delta k_retB retB
  all_goals kernel_rfl

abbrev t490:=Value → t391
def l147 : t490 := (λx0=>(@Value.rec (λ_=>t391) (λ_=>PUnit.{1}) (λ_=>PUnit.{1}) (λx1 x2=>(some (@Bool.rec (λ_=>Bool) (@Bool.rec (λ_=>Bool) Bool.true Bool.false x1) x1 x2))) (λ_ _ _=>none) (λ_ _ _=>none) (λ_ _ _ _=>none) (λ_ _=>none) (λ_ _=>none) (λ_ _ _ _=>none) (λ_ _=>none) (λ_ _=>none) (λ_ _ _ _ _ _=>none) (λ_=>none) (λ_ _ _ _=>none) (λ_=>none) (λ_ _ _=>none) (λ_ _ _=>none) (λ_ _=>PUnit.unit.{1}) PUnit.unit.{1} (λ_ _ _ _=>PUnit.unit.{1}) x0))
theorem l147_eq : ∀ x0 x1, (Eq (l147 x0 x1) (@eqV._sparseCasesOn_4 (λ_=>t369) x0 (λx2=>(some (@Bool.rec (λ_=>Bool) (@Bool.rec (λ_=>Bool) Bool.true Bool.false x2) x2 x1))) (λ_=>none))) := by intro t; cases t <;> (intros; rfl)
abbrev t491:=CV → t391
def l148 : t491 := (λx0=>(@CV.rec (λ_=>t391) (λ_=>PUnit.{1}) (λ_=>none) (λx1 x2=>(l147 x1 x2)) (λ_ _ _=>none) (λ_ _ _ _ _ _=>none) (λ_=>none) (λ_ _=>none) (λ_ _ _=>none) (λ_ _ _=>none) (λ_ _ _ _ _ _=>none) (λ_ _=>none) (λ_ _ _ _=>none) PUnit.unit.{1} (λ_ _ _ _=>PUnit.unit.{1}) x0))
theorem l148_eq : ∀ x0 x1, (Eq (l148 x0 x1) (@eqV._sparseCasesOn_3 (λ_=>t369) x0 (λx2=>(l147 x2 x1)) (λ_=>none))) := by intro t; cases t <;> (intros; rfl)
abbrev t492:=Value → t371
def l149 : t492 := (λx0=>(@Value.rec (λ_=>t371) (λ_=>PUnit.{1}) (λ_=>PUnit.{1}) (λx1 x2=>(l148 x2 x1)) (λ_ _ _=>none) (λ_ _ _=>none) (λ_ _ _ _=>none) (λ_ _=>none) (λ_ _=>none) (λ_ _ _ _=>none) (λ_ _=>none) (λ_ _=>none) (λ_ _ _ _ _ _=>none) (λ_=>none) (λ_ _ _ _=>none) (λ_=>none) (λ_ _ _=>none) (λ_ _ _=>none) (λ_ _=>PUnit.unit.{1}) PUnit.unit.{1} (λ_ _ _ _=>PUnit.unit.{1}) x0))
theorem l149_eq : ∀ x0 x1, (Eq (l149 x0 x1) (@eqV._sparseCasesOn_4 (λ_=>t369) x0 (λx2=>(l148 x1 x2)) (λ_=>none))) := by intro t; cases t <;> (intros; rfl)
def l150 : t417 := (λx0=>(@CV.rec (λ_=>t371) (λ_=>PUnit.{1}) (λ_=>none) (λx1 x2=>(l149 x1 x2)) (λ_ _ _=>none) (λ_ _ _ _ _ _=>none) (λ_=>none) (λ_ _=>none) (λ_ _ _=>none) (λ_ _ _=>none) (λ_ _ _ _ _ _=>none) (λ_ _=>none) (λ_ _ _ _=>none) PUnit.unit.{1} (λ_ _ _ _=>PUnit.unit.{1}) x0))
theorem l150_eq : ∀ x0 x1, (Eq (l150 x0 x1) (@eqV._sparseCasesOn_3 (λ_=>t369) x0 (λx2=>(l149 x2 x1)) (λ_=>none))) := by intro t; cases t <;> (intros; rfl)
abbrev t493:=Value → t384
def l151 : t493 := (λx0=>(@Value.rec (λ_=>t384) (λ_=>PUnit.{1}) (λ_=>PUnit.{1}) (λ_ _ _=>none) (λx1 x2 x3 x4=>(@Bool.rec (λ_=>t369) none (some (k_iEq x4 x2)) (k_kEq x3 x1))) (λ_ _ _ _=>none) (λ_ _ _ _ _=>none) (λ_ _ _=>none) (λ_ _ _=>none) (λ_ _ _ _ _=>none) (λ_ _ _=>none) (λ_ _ _=>none) (λ_ _ _ _ _ _ _=>none) (λ_ _=>none) (λ_ _ _ _ _=>none) (λ_ _=>none) (λ_ _ _ _=>none) (λ_ _ _ _=>none) (λ_ _=>PUnit.unit.{1}) PUnit.unit.{1} (λ_ _ _ _=>PUnit.unit.{1}) x0))
theorem l151_eq : ∀ x0 x1 x2, (Eq (l151 x0 x1 x2) (@eqV._sparseCasesOn_5 (λ_=>t369) x0 (λx3 x4=>(@Bool.rec (λ_=>t369) none (some (k_iEq x2 x4)) (k_kEq x1 x3))) (λ_=>none))) := by intro t; cases t <;> (intros; rfl)
abbrev t494:=CV → t384
def l152 : t494 := (λx0=>(@CV.rec (λ_=>t384) (λ_=>PUnit.{1}) (λ_ _=>none) (λx1 x2 x3=>(l151 x1 x2 x3)) (λ_ _ _ _=>none) (λ_ _ _ _ _ _ _=>none) (λ_ _=>none) (λ_ _ _=>none) (λ_ _ _ _=>none) (λ_ _ _ _=>none) (λ_ _ _ _ _ _ _=>none) (λ_ _ _=>none) (λ_ _ _ _ _=>none) PUnit.unit.{1} (λ_ _ _ _=>PUnit.unit.{1}) x0))
theorem l152_eq : ∀ x0 x1 x2, (Eq (l152 x0 x1 x2) (@eqV._sparseCasesOn_3 (λ_=>t369) x0 (λx3=>(l151 x3 x1 x2)) (λ_=>none))) := by intro t; cases t <;> (intros; rfl)
def l153 : t492 := (λx0=>(@Value.rec (λ_=>t371) (λ_=>PUnit.{1}) (λ_=>PUnit.{1}) (λ_ _=>none) (λx1 x2 x3=>(l152 x3 x1 x2)) (λ_ _ _=>none) (λ_ _ _ _=>none) (λ_ _=>none) (λ_ _=>none) (λ_ _ _ _=>none) (λ_ _=>none) (λ_ _=>none) (λ_ _ _ _ _ _=>none) (λ_=>none) (λ_ _ _ _=>none) (λ_=>none) (λ_ _ _=>none) (λ_ _ _=>none) (λ_ _=>PUnit.unit.{1}) PUnit.unit.{1} (λ_ _ _ _=>PUnit.unit.{1}) x0))
theorem l153_eq : ∀ x0 x1, (Eq (l153 x0 x1) (@eqV._sparseCasesOn_5 (λ_=>t369) x0 (λx2 x3=>(l152 x1 x2 x3)) (λ_=>none))) := by intro t; cases t <;> (intros; rfl)
def l154 : t417 := (λx0=>(@CV.rec (λ_=>t371) (λ_=>PUnit.{1}) (λ_=>none) (λx1 x2=>(l153 x1 x2)) (λ_ _ _=>none) (λ_ _ _ _ _ _=>none) (λ_=>none) (λ_ _=>none) (λ_ _ _=>none) (λ_ _ _=>none) (λ_ _ _ _ _ _=>none) (λ_ _=>none) (λ_ _ _ _=>none) PUnit.unit.{1} (λ_ _ _ _=>PUnit.unit.{1}) x0))
theorem l154_eq : ∀ x0 x1, (Eq (l154 x0 x1) (@eqV._sparseCasesOn_3 (λ_=>t369) x0 (λx2=>(l153 x2 x1)) (λ_=>none))) := by intro t; cases t <;> (intros; rfl)
abbrev t495:=Value → t404
def l155 : t495 := (λx0=>(@Value.rec (λ_=>t404) (λ_=>PUnit.{1}) (λ_=>PUnit.{1}) (λ_ _=>none) (λ_ _ _=>none) (λ_ _ _=>none) (λ_ _ _ _=>none) (λx1 x2=>(some (k_bytesEq (@Array.toList UInt8 (ByteArray.data x2)) (@Array.toList UInt8 (ByteArray.data x1))))) (λ_ _=>none) (λ_ _ _ _=>none) (λ_ _=>none) (λ_ _=>none) (λ_ _ _ _ _ _=>none) (λ_=>none) (λ_ _ _ _=>none) (λ_=>none) (λ_ _ _=>none) (λ_ _ _=>none) (λ_ _=>PUnit.unit.{1}) PUnit.unit.{1} (λ_ _ _ _=>PUnit.unit.{1}) x0))
theorem l155_eq : ∀ x0 x1, (Eq (l155 x0 x1) (@eqV._sparseCasesOn_6 (λ_=>t369) x0 (λx2=>(some (k_bytesEq (@Array.toList UInt8 (ByteArray.data x1)) (@Array.toList UInt8 (ByteArray.data x2))))) (λ_=>none))) := by intro t; cases t <;> (intros; rfl)
abbrev t496:=CV → t404
def l156 : t496 := (λx0=>(@CV.rec (λ_=>t404) (λ_=>PUnit.{1}) (λ_=>none) (λx1 x2=>(l155 x1 x2)) (λ_ _ _=>none) (λ_ _ _ _ _ _=>none) (λ_=>none) (λ_ _=>none) (λ_ _ _=>none) (λ_ _ _=>none) (λ_ _ _ _ _ _=>none) (λ_ _=>none) (λ_ _ _ _=>none) PUnit.unit.{1} (λ_ _ _ _=>PUnit.unit.{1}) x0))
theorem l156_eq : ∀ x0 x1, (Eq (l156 x0 x1) (@eqV._sparseCasesOn_3 (λ_=>t369) x0 (λx2=>(l155 x2 x1)) (λ_=>none))) := by intro t; cases t <;> (intros; rfl)
def l157 : t492 := (λx0=>(@Value.rec (λ_=>t371) (λ_=>PUnit.{1}) (λ_=>PUnit.{1}) (λ_ _=>none) (λ_ _ _=>none) (λ_ _ _=>none) (λ_ _ _ _=>none) (λx1 x2=>(l156 x2 x1)) (λ_ _=>none) (λ_ _ _ _=>none) (λ_ _=>none) (λ_ _=>none) (λ_ _ _ _ _ _=>none) (λ_=>none) (λ_ _ _ _=>none) (λ_=>none) (λ_ _ _=>none) (λ_ _ _=>none) (λ_ _=>PUnit.unit.{1}) PUnit.unit.{1} (λ_ _ _ _=>PUnit.unit.{1}) x0))
theorem l157_eq : ∀ x0 x1, (Eq (l157 x0 x1) (@eqV._sparseCasesOn_6 (λ_=>t369) x0 (λx2=>(l156 x1 x2)) (λ_=>none))) := by intro t; cases t <;> (intros; rfl)
def l158 : t417 := (λx0=>(@CV.rec (λ_=>t371) (λ_=>PUnit.{1}) (λ_=>none) (λx1 x2=>(l157 x1 x2)) (λ_ _ _=>none) (λ_ _ _ _ _ _=>none) (λ_=>none) (λ_ _=>none) (λ_ _ _=>none) (λ_ _ _=>none) (λ_ _ _ _ _ _=>none) (λ_ _=>none) (λ_ _ _ _=>none) PUnit.unit.{1} (λ_ _ _ _=>PUnit.unit.{1}) x0))
theorem l158_eq : ∀ x0 x1, (Eq (l158 x0 x1) (@eqV._sparseCasesOn_3 (λ_=>t369) x0 (λx2=>(l157 x2 x1)) (λ_=>none))) := by intro t; cases t <;> (intros; rfl)
abbrev t497:=Option Addr
abbrev t498:=t497 → t369
def l159 : t498 := (λx0=>(@Option.rec Addr (λ_=>t369) (some Bool.true) (λ_=>none) x0))
theorem l159_eq : ∀ x0, (Eq (l159 x0) (@eqV._sparseCasesOn_9 Addr (λ_=>t369) x0 (some Bool.true) (λ_=>none))) := by intro t; cases t <;> (intros; rfl)
def l160 : t370 := (λx0=>(@Value.rec (λ_=>t369) (λ_=>PUnit.{1}) (λ_=>PUnit.{1}) (λ_=>none) (λ_ _=>none) (λ_ _=>none) (λ_ _ _=>none) (λ_=>none) (λx1=>(l159 x1)) (λ_ _ _=>none) (λ_=>none) (λ_=>none) (λ_ _ _ _ _=>none) none (λ_ _ _=>none) none (λ_ _=>none) (λ_ _=>none) (λ_ _=>PUnit.unit.{1}) PUnit.unit.{1} (λ_ _ _ _=>PUnit.unit.{1}) x0))
theorem l160_eq : ∀ x0, (Eq (l160 x0) (@eqV._sparseCasesOn_8 (λ_=>t369) x0 (λx1=>(l159 x1)) (λ_=>none))) := by intro t; cases t <;> (intros; rfl)
def l161 : t371 := (λx0=>(@CV.rec (λ_=>t369) (λ_=>PUnit.{1}) none (λx1=>(l160 x1)) (λ_ _=>(some Bool.false)) (λ_ _ _ _ _=>none) none (λ_=>none) (λ_ _=>none) (λ_ _=>none) (λ_ _ _ _ _=>none) (λ_=>none) (λ_ _ _=>none) PUnit.unit.{1} (λ_ _ _ _=>PUnit.unit.{1}) x0))
theorem l161_eq : ∀ x0, (Eq (l161 x0) (@eqV._sparseCasesOn_7 (λ_=>t369) x0 (λx1=>(l160 x1)) (λ_ _=>(some Bool.false)) (λ_=>none))) := by intro t; cases t <;> (intros; rfl)
abbrev t499:=t497 → t371
def l162 : t499 := (λx0=>(@Option.rec Addr (λ_=>t371) (λx1=>(l161 x1)) (λ_ _=>none) x0))
theorem l162_eq : ∀ x0 x1, (Eq (l162 x0 x1) (@eqV._sparseCasesOn_9 Addr (λ_=>t369) x0 (l161 x1) (λ_=>none))) := by intro t; cases t <;> (intros; rfl)
def l163 : t492 := (λx0=>(@Value.rec (λ_=>t371) (λ_=>PUnit.{1}) (λ_=>PUnit.{1}) (λ_ _=>none) (λ_ _ _=>none) (λ_ _ _=>none) (λ_ _ _ _=>none) (λ_ _=>none) (λx1 x2=>(l162 x1 x2)) (λ_ _ _ _=>none) (λ_ _=>none) (λ_ _=>none) (λ_ _ _ _ _ _=>none) (λ_=>none) (λ_ _ _ _=>none) (λ_=>none) (λ_ _ _=>none) (λ_ _ _=>none) (λ_ _=>PUnit.unit.{1}) PUnit.unit.{1} (λ_ _ _ _=>PUnit.unit.{1}) x0))
theorem l163_eq : ∀ x0 x1, (Eq (l163 x0 x1) (@eqV._sparseCasesOn_8 (λ_=>t369) x0 (λx2=>(l162 x2 x1)) (λ_=>none))) := by intro t; cases t <;> (intros; rfl)
def l164 : t498 := (λx0=>(@Option.rec Addr (λ_=>t369) (some Bool.false) (λ_=>none) x0))
theorem l164_eq : ∀ x0, (Eq (l164 x0) (@eqV._sparseCasesOn_9 Addr (λ_=>t369) x0 (some Bool.false) (λ_=>none))) := by intro t; cases t <;> (intros; rfl)
def l165 : t370 := (λx0=>(@Value.rec (λ_=>t369) (λ_=>PUnit.{1}) (λ_=>PUnit.{1}) (λ_=>none) (λ_ _=>none) (λ_ _=>none) (λ_ _ _=>none) (λ_=>none) (λx1=>(l164 x1)) (λ_ _ _=>none) (λ_=>none) (λ_=>none) (λ_ _ _ _ _=>none) none (λ_ _ _=>none) none (λ_ _=>none) (λ_ _=>none) (λ_ _=>PUnit.unit.{1}) PUnit.unit.{1} (λ_ _ _ _=>PUnit.unit.{1}) x0))
theorem l165_eq : ∀ x0, (Eq (l165 x0) (@eqV._sparseCasesOn_8 (λ_=>t369) x0 (λx1=>(l164 x1)) (λ_=>none))) := by intro t; cases t <;> (intros; rfl)
def l166 : t371 := (λx0=>(@CV.rec (λ_=>t369) (λ_=>PUnit.{1}) none (λx1=>(l165 x1)) (λ_ _=>none) (λ_ _ _ _ _=>none) none (λ_=>none) (λ_ _=>none) (λ_ _=>none) (λ_ _ _ _ _=>none) (λ_=>none) (λ_ _ _=>none) PUnit.unit.{1} (λ_ _ _ _=>PUnit.unit.{1}) x0))
theorem l166_eq : ∀ x0, (Eq (l166 x0) (@eqV._sparseCasesOn_3 (λ_=>t369) x0 (λx1=>(l165 x1)) (λ_=>none))) := by intro t; cases t <;> (intros; rfl)
def l167 : t417 := (λx0=>(@CV.rec (λ_=>t371) (λ_=>PUnit.{1}) (λ_=>none) (λx1 x2=>(l163 x1 x2)) (λ_ _ x3=>(l166 x3)) (λ_ _ _ _ _ _=>none) (λ_=>none) (λ_ _=>none) (λ_ _ _=>none) (λ_ _ _=>none) (λ_ _ _ _ _ _=>none) (λ_ _=>none) (λ_ _ _ _=>none) PUnit.unit.{1} (λ_ _ _ _=>PUnit.unit.{1}) x0))
theorem l167_eq : ∀ x0 x1, (Eq (l167 x0 x1) (@eqV._sparseCasesOn_7 (λ_=>t369) x0 (λx2=>(l163 x2 x1)) (λ_ _=>(l166 x1)) (λ_=>none))) := by intro t; cases t <;> (intros; rfl)
abbrev t500:=Nat → t369
abbrev t501:=Nat → t500
abbrev t502:=TypeId → t501
abbrev t503:=CV → t502
abbrev t504:=t497 → t503
def l168 : t504 := (λx0=>(@Option.rec Addr (λ_=>t503) (λx1 x2 x3 x4=>(@dite ((λ_ _ _=>t369) (some (TypeDesc.slice x2)) (CV.val (Value.slice none x3 x4)) x1) (Eq x3 (@OfNat.ofNat Nat (nat_lit 0) (instOfNatNat (nat_lit 0)))) (instDecidableEqNat x3 (@OfNat.ofNat Nat (nat_lit 0) (instOfNatNat (nat_lit 0)))) (@Eq.ndrec_symm Nat (@OfNat.ofNat Nat (nat_lit 0) (instOfNatNat (nat_lit 0))) (λx5=>((λ_ _ _=>t369) (some (TypeDesc.slice x2)) (CV.val (Value.slice none x5 x4)) x1)) (@dite ((λ_ _ _=>t369) (some (TypeDesc.slice x2)) (CV.val (Value.slice none (@OfNat.ofNat Nat (nat_lit 0) (instOfNatNat (nat_lit 0))) x4)) x1) (Eq x4 (@OfNat.ofNat Nat (nat_lit 0) (instOfNatNat (nat_lit 0)))) (instDecidableEqNat x4 (@OfNat.ofNat Nat (nat_lit 0) (instOfNatNat (nat_lit 0)))) (@Eq.ndrec_symm Nat (@OfNat.ofNat Nat (nat_lit 0) (instOfNatNat (nat_lit 0))) (λx5=>((λ_ _ _=>t369) (some (TypeDesc.slice x2)) (CV.val (Value.slice none (@OfNat.ofNat Nat (nat_lit 0) (instOfNatNat (nat_lit 0))) x5)) x1)) (@eqV._sparseCasesOn_10 (λx5=>((λ_ _ _=>t369) (some (TypeDesc.slice x2)) (CV.val (Value.slice none (@OfNat.ofNat Nat (nat_lit 0) (instOfNatNat (nat_lit 0))) (@OfNat.ofNat Nat (nat_lit 0) (instOfNatNat (nat_lit 0))))) x5)) x1 (λx5=>(@eqV._sparseCasesOn_11 (λx6=>((λ_ _ _=>t369) (some (TypeDesc.slice x2)) (CV.val (Value.slice none (@OfNat.ofNat Nat (nat_lit 0) (instOfNatNat (nat_lit 0))) (@OfNat.ofNat Nat (nat_lit 0) (instOfNatNat (nat_lit 0))))) (CV.val x6))) x5 (λx6 x7 x8=>(@eqV._sparseCasesOn_9 Addr (λx9=>((λ_ _ _=>t369) (some (TypeDesc.slice x2)) (CV.val (Value.slice none (@OfNat.ofNat Nat (nat_lit 0) (instOfNatNat (nat_lit 0))) (@OfNat.ofNat Nat (nat_lit 0) (instOfNatNat (nat_lit 0))))) (CV.val (Value.slice x9 x7 x8)))) x6 (@dite ((λ_ _ _=>t369) (some (TypeDesc.slice x2)) (CV.val (Value.slice none (@OfNat.ofNat Nat (nat_lit 0) (instOfNatNat (nat_lit 0))) (@OfNat.ofNat Nat (nat_lit 0) (instOfNatNat (nat_lit 0))))) (CV.val (Value.slice none x7 x8))) (Eq x7 (@OfNat.ofNat Nat (nat_lit 0) (instOfNatNat (nat_lit 0)))) (instDecidableEqNat x7 (@OfNat.ofNat Nat (nat_lit 0) (instOfNatNat (nat_lit 0)))) (@Eq.ndrec_symm Nat (@OfNat.ofNat Nat (nat_lit 0) (instOfNatNat (nat_lit 0))) (λx9=>((λ_ _ _=>t369) (some (TypeDesc.slice x2)) (CV.val (Value.slice none (@OfNat.ofNat Nat (nat_lit 0) (instOfNatNat (nat_lit 0))) (@OfNat.ofNat Nat (nat_lit 0) (instOfNatNat (nat_lit 0))))) (CV.val (Value.slice none x9 x8)))) (@dite ((λ_ _ _=>t369) (some (TypeDesc.slice x2)) (CV.val (Value.slice none (@OfNat.ofNat Nat (nat_lit 0) (instOfNatNat (nat_lit 0))) (@OfNat.ofNat Nat (nat_lit 0) (instOfNatNat (nat_lit 0))))) (CV.val (Value.slice none (@OfNat.ofNat Nat (nat_lit 0) (instOfNatNat (nat_lit 0))) x8))) (Eq x8 (@OfNat.ofNat Nat (nat_lit 0) (instOfNatNat (nat_lit 0)))) (instDecidableEqNat x8 (@OfNat.ofNat Nat (nat_lit 0) (instOfNatNat (nat_lit 0)))) (@Eq.ndrec_symm Nat (@OfNat.ofNat Nat (nat_lit 0) (instOfNatNat (nat_lit 0))) (λx9=>((λ_ _ _=>t369) (some (TypeDesc.slice x2)) (CV.val (Value.slice none (@OfNat.ofNat Nat (nat_lit 0) (instOfNatNat (nat_lit 0))) (@OfNat.ofNat Nat (nat_lit 0) (instOfNatNat (nat_lit 0))))) (CV.val (Value.slice none (@OfNat.ofNat Nat (nat_lit 0) (instOfNatNat (nat_lit 0))) x9)))) ((λ_=>(some Bool.true)) x2) x8) (λ_=>((λ_ _ _=>none) (some (TypeDesc.slice x2)) (CV.val (Value.slice none (@OfNat.ofNat Nat (nat_lit 0) (instOfNatNat (nat_lit 0))) (@OfNat.ofNat Nat (nat_lit 0) (instOfNatNat (nat_lit 0))))) (CV.val (Value.slice none (@OfNat.ofNat Nat (nat_lit 0) (instOfNatNat (nat_lit 0))) x8))))) x7) (λ_=>((λ_ _ _=>none) (some (TypeDesc.slice x2)) (CV.val (Value.slice none (@OfNat.ofNat Nat (nat_lit 0) (instOfNatNat (nat_lit 0))) (@OfNat.ofNat Nat (nat_lit 0) (instOfNatNat (nat_lit 0))))) (CV.val (Value.slice none x7 x8))))) (λ_=>((λ_ _ _=>none) (some (TypeDesc.slice x2)) (CV.val (Value.slice none (@OfNat.ofNat Nat (nat_lit 0) (instOfNatNat (nat_lit 0))) (@OfNat.ofNat Nat (nat_lit 0) (instOfNatNat (nat_lit 0))))) (CV.val (Value.slice x6 x7 x8)))))) (λ_=>((λ_ _ _=>none) (some (TypeDesc.slice x2)) (CV.val (Value.slice none (@OfNat.ofNat Nat (nat_lit 0) (instOfNatNat (nat_lit 0))) (@OfNat.ofNat Nat (nat_lit 0) (instOfNatNat (nat_lit 0))))) (CV.val x5))))) (λx5 x6 x7 x8 x9=>((λ_ _ _ _ _ _=>(some Bool.false)) x2 x5 x6 x7 x8 x9)) (λ_=>((λ_ _ _=>none) (some (TypeDesc.slice x2)) (CV.val (Value.slice none (@OfNat.ofNat Nat (nat_lit 0) (instOfNatNat (nat_lit 0))) (@OfNat.ofNat Nat (nat_lit 0) (instOfNatNat (nat_lit 0))))) x1))) x4) (λ_=>((λ_ _ _=>none) (some (TypeDesc.slice x2)) (CV.val (Value.slice none (@OfNat.ofNat Nat (nat_lit 0) (instOfNatNat (nat_lit 0))) x4)) x1))) x3) (λ_=>((λ_ _ _=>none) (some (TypeDesc.slice x2)) (CV.val (Value.slice none x3 x4)) x1)))) (λ_ _ _ _ _=>none) x0))
theorem l168_eq : ∀ x0 x1 x2 x3 x4, (Eq (l168 x0 x1 x2 x3 x4) (@eqV._sparseCasesOn_9 Addr (λ_=>t369) x0 (@dite ((λ_ _ _=>t369) (some (TypeDesc.slice x2)) (CV.val (Value.slice none x3 x4)) x1) (Eq x3 (@OfNat.ofNat Nat (nat_lit 0) (instOfNatNat (nat_lit 0)))) (instDecidableEqNat x3 (@OfNat.ofNat Nat (nat_lit 0) (instOfNatNat (nat_lit 0)))) (@Eq.ndrec_symm Nat (@OfNat.ofNat Nat (nat_lit 0) (instOfNatNat (nat_lit 0))) (λx5=>((λ_ _ _=>t369) (some (TypeDesc.slice x2)) (CV.val (Value.slice none x5 x4)) x1)) (@dite ((λ_ _ _=>t369) (some (TypeDesc.slice x2)) (CV.val (Value.slice none (@OfNat.ofNat Nat (nat_lit 0) (instOfNatNat (nat_lit 0))) x4)) x1) (Eq x4 (@OfNat.ofNat Nat (nat_lit 0) (instOfNatNat (nat_lit 0)))) (instDecidableEqNat x4 (@OfNat.ofNat Nat (nat_lit 0) (instOfNatNat (nat_lit 0)))) (@Eq.ndrec_symm Nat (@OfNat.ofNat Nat (nat_lit 0) (instOfNatNat (nat_lit 0))) (λx5=>((λ_ _ _=>t369) (some (TypeDesc.slice x2)) (CV.val (Value.slice none (@OfNat.ofNat Nat (nat_lit 0) (instOfNatNat (nat_lit 0))) x5)) x1)) (@eqV._sparseCasesOn_10 (λx5=>((λ_ _ _=>t369) (some (TypeDesc.slice x2)) (CV.val (Value.slice none (@OfNat.ofNat Nat (nat_lit 0) (instOfNatNat (nat_lit 0))) (@OfNat.ofNat Nat (nat_lit 0) (instOfNatNat (nat_lit 0))))) x5)) x1 (λx5=>(@eqV._sparseCasesOn_11 (λx6=>((λ_ _ _=>t369) (some (TypeDesc.slice x2)) (CV.val (Value.slice none (@OfNat.ofNat Nat (nat_lit 0) (instOfNatNat (nat_lit 0))) (@OfNat.ofNat Nat (nat_lit 0) (instOfNatNat (nat_lit 0))))) (CV.val x6))) x5 (λx6 x7 x8=>(@eqV._sparseCasesOn_9 Addr (λx9=>((λ_ _ _=>t369) (some (TypeDesc.slice x2)) (CV.val (Value.slice none (@OfNat.ofNat Nat (nat_lit 0) (instOfNatNat (nat_lit 0))) (@OfNat.ofNat Nat (nat_lit 0) (instOfNatNat (nat_lit 0))))) (CV.val (Value.slice x9 x7 x8)))) x6 (@dite ((λ_ _ _=>t369) (some (TypeDesc.slice x2)) (CV.val (Value.slice none (@OfNat.ofNat Nat (nat_lit 0) (instOfNatNat (nat_lit 0))) (@OfNat.ofNat Nat (nat_lit 0) (instOfNatNat (nat_lit 0))))) (CV.val (Value.slice none x7 x8))) (Eq x7 (@OfNat.ofNat Nat (nat_lit 0) (instOfNatNat (nat_lit 0)))) (instDecidableEqNat x7 (@OfNat.ofNat Nat (nat_lit 0) (instOfNatNat (nat_lit 0)))) (@Eq.ndrec_symm Nat (@OfNat.ofNat Nat (nat_lit 0) (instOfNatNat (nat_lit 0))) (λx9=>((λ_ _ _=>t369) (some (TypeDesc.slice x2)) (CV.val (Value.slice none (@OfNat.ofNat Nat (nat_lit 0) (instOfNatNat (nat_lit 0))) (@OfNat.ofNat Nat (nat_lit 0) (instOfNatNat (nat_lit 0))))) (CV.val (Value.slice none x9 x8)))) (@dite ((λ_ _ _=>t369) (some (TypeDesc.slice x2)) (CV.val (Value.slice none (@OfNat.ofNat Nat (nat_lit 0) (instOfNatNat (nat_lit 0))) (@OfNat.ofNat Nat (nat_lit 0) (instOfNatNat (nat_lit 0))))) (CV.val (Value.slice none (@OfNat.ofNat Nat (nat_lit 0) (instOfNatNat (nat_lit 0))) x8))) (Eq x8 (@OfNat.ofNat Nat (nat_lit 0) (instOfNatNat (nat_lit 0)))) (instDecidableEqNat x8 (@OfNat.ofNat Nat (nat_lit 0) (instOfNatNat (nat_lit 0)))) (@Eq.ndrec_symm Nat (@OfNat.ofNat Nat (nat_lit 0) (instOfNatNat (nat_lit 0))) (λx9=>((λ_ _ _=>t369) (some (TypeDesc.slice x2)) (CV.val (Value.slice none (@OfNat.ofNat Nat (nat_lit 0) (instOfNatNat (nat_lit 0))) (@OfNat.ofNat Nat (nat_lit 0) (instOfNatNat (nat_lit 0))))) (CV.val (Value.slice none (@OfNat.ofNat Nat (nat_lit 0) (instOfNatNat (nat_lit 0))) x9)))) ((λ_=>(some Bool.true)) x2) x8) (λ_=>((λ_ _ _=>none) (some (TypeDesc.slice x2)) (CV.val (Value.slice none (@OfNat.ofNat Nat (nat_lit 0) (instOfNatNat (nat_lit 0))) (@OfNat.ofNat Nat (nat_lit 0) (instOfNatNat (nat_lit 0))))) (CV.val (Value.slice none (@OfNat.ofNat Nat (nat_lit 0) (instOfNatNat (nat_lit 0))) x8))))) x7) (λ_=>((λ_ _ _=>none) (some (TypeDesc.slice x2)) (CV.val (Value.slice none (@OfNat.ofNat Nat (nat_lit 0) (instOfNatNat (nat_lit 0))) (@OfNat.ofNat Nat (nat_lit 0) (instOfNatNat (nat_lit 0))))) (CV.val (Value.slice none x7 x8))))) (λ_=>((λ_ _ _=>none) (some (TypeDesc.slice x2)) (CV.val (Value.slice none (@OfNat.ofNat Nat (nat_lit 0) (instOfNatNat (nat_lit 0))) (@OfNat.ofNat Nat (nat_lit 0) (instOfNatNat (nat_lit 0))))) (CV.val (Value.slice x6 x7 x8)))))) (λ_=>((λ_ _ _=>none) (some (TypeDesc.slice x2)) (CV.val (Value.slice none (@OfNat.ofNat Nat (nat_lit 0) (instOfNatNat (nat_lit 0))) (@OfNat.ofNat Nat (nat_lit 0) (instOfNatNat (nat_lit 0))))) (CV.val x5))))) (λx5 x6 x7 x8 x9=>((λ_ _ _ _ _ _=>(some Bool.false)) x2 x5 x6 x7 x8 x9)) (λ_=>((λ_ _ _=>none) (some (TypeDesc.slice x2)) (CV.val (Value.slice none (@OfNat.ofNat Nat (nat_lit 0) (instOfNatNat (nat_lit 0))) (@OfNat.ofNat Nat (nat_lit 0) (instOfNatNat (nat_lit 0))))) x1))) x4) (λ_=>((λ_ _ _=>none) (some (TypeDesc.slice x2)) (CV.val (Value.slice none (@OfNat.ofNat Nat (nat_lit 0) (instOfNatNat (nat_lit 0))) x4)) x1))) x3) (λ_=>((λ_ _ _=>none) (some (TypeDesc.slice x2)) (CV.val (Value.slice none x3 x4)) x1))) (λ_=>none))) := by intro t; cases t <;> (intros; rfl)
abbrev t505:=TypeId → t369
abbrev t506:=CV → t505
abbrev t507:=Value → t506
def l169 : t507 := (λx0=>(@Value.rec (λ_=>t506) (λ_=>PUnit.{1}) (λ_=>PUnit.{1}) (λ_ _ _=>none) (λ_ _ _ _=>none) (λ_ _ _ _=>none) (λ_ _ _ _ _=>none) (λ_ _ _=>none) (λ_ _ _=>none) (λx1 x2 x3 x4 x5=>(l168 x1 x4 x5 x2 x3)) (λ_ _ _=>none) (λ_ _ _=>none) (λ_ _ _ _ _ _ _=>none) (λ_ _=>none) (λ_ _ _ _ _=>none) (λ_ _=>none) (λ_ _ _ _=>none) (λ_ _ _ _=>none) (λ_ _=>PUnit.unit.{1}) PUnit.unit.{1} (λ_ _ _ _=>PUnit.unit.{1}) x0))
theorem l169_eq : ∀ x0 x1 x2, (Eq (l169 x0 x1 x2) (@eqV._sparseCasesOn_11 (λ_=>t369) x0 (λx3 x4 x5=>(l168 x3 x1 x2 x4 x5)) (λ_=>none))) := by intro t; cases t <;> (intros; rfl)
abbrev t508:=Nat → t501
abbrev t509:=t164 → t508
abbrev t510:=Nat → t509
abbrev t511:=Nat → t510
abbrev t512:=Nat → t511
abbrev t513:=TypeId → t512
abbrev t514:=t497 → t513
def l170 : t514 := (λx0=>(@Option.rec Addr (λ_=>t513) (λx1 x2 x3 x4 x5 x6 x7 x8=>(@dite ((λ_ _ _=>t369) (some (TypeDesc.slice x1)) (CV.sl x2 x3 x4 x5 x6) (CV.val (Value.slice none x7 x8))) (Eq x7 (@OfNat.ofNat Nat (nat_lit 0) (instOfNatNat (nat_lit 0)))) (instDecidableEqNat x7 (@OfNat.ofNat Nat (nat_lit 0) (instOfNatNat (nat_lit 0)))) (@Eq.ndrec_symm Nat (@OfNat.ofNat Nat (nat_lit 0) (instOfNatNat (nat_lit 0))) (λx9=>((λ_ _ _=>t369) (some (TypeDesc.slice x1)) (CV.sl x2 x3 x4 x5 x6) (CV.val (Value.slice none x9 x8)))) (@dite ((λ_ _ _=>t369) (some (TypeDesc.slice x1)) (CV.sl x2 x3 x4 x5 x6) (CV.val (Value.slice none (@OfNat.ofNat Nat (nat_lit 0) (instOfNatNat (nat_lit 0))) x8))) (Eq x8 (@OfNat.ofNat Nat (nat_lit 0) (instOfNatNat (nat_lit 0)))) (instDecidableEqNat x8 (@OfNat.ofNat Nat (nat_lit 0) (instOfNatNat (nat_lit 0)))) (@Eq.ndrec_symm Nat (@OfNat.ofNat Nat (nat_lit 0) (instOfNatNat (nat_lit 0))) (λx9=>((λ_ _ _=>t369) (some (TypeDesc.slice x1)) (CV.sl x2 x3 x4 x5 x6) (CV.val (Value.slice none (@OfNat.ofNat Nat (nat_lit 0) (instOfNatNat (nat_lit 0))) x9)))) ((λ_ _ _ _ _ _=>(some Bool.false)) x1 x2 x3 x4 x5 x6) x8) (λ_=>((λ_ _ _=>none) (some (TypeDesc.slice x1)) (CV.sl x2 x3 x4 x5 x6) (CV.val (Value.slice none (@OfNat.ofNat Nat (nat_lit 0) (instOfNatNat (nat_lit 0))) x8))))) x7) (λ_=>((λ_ _ _=>none) (some (TypeDesc.slice x1)) (CV.sl x2 x3 x4 x5 x6) (CV.val (Value.slice none x7 x8)))))) (λ_ _ _ _ _ _ _ _ _=>none) x0))
theorem l170_eq : ∀ x0 x1 x2 x3 x4 x5 x6 x7 x8, (Eq (l170 x0 x1 x2 x3 x4 x5 x6 x7 x8) (@eqV._sparseCasesOn_9 Addr (λ_=>t369) x0 (@dite ((λ_ _ _=>t369) (some (TypeDesc.slice x1)) (CV.sl x2 x3 x4 x5 x6) (CV.val (Value.slice none x7 x8))) (Eq x7 (@OfNat.ofNat Nat (nat_lit 0) (instOfNatNat (nat_lit 0)))) (instDecidableEqNat x7 (@OfNat.ofNat Nat (nat_lit 0) (instOfNatNat (nat_lit 0)))) (@Eq.ndrec_symm Nat (@OfNat.ofNat Nat (nat_lit 0) (instOfNatNat (nat_lit 0))) (λx9=>((λ_ _ _=>t369) (some (TypeDesc.slice x1)) (CV.sl x2 x3 x4 x5 x6) (CV.val (Value.slice none x9 x8)))) (@dite ((λ_ _ _=>t369) (some (TypeDesc.slice x1)) (CV.sl x2 x3 x4 x5 x6) (CV.val (Value.slice none (@OfNat.ofNat Nat (nat_lit 0) (instOfNatNat (nat_lit 0))) x8))) (Eq x8 (@OfNat.ofNat Nat (nat_lit 0) (instOfNatNat (nat_lit 0)))) (instDecidableEqNat x8 (@OfNat.ofNat Nat (nat_lit 0) (instOfNatNat (nat_lit 0)))) (@Eq.ndrec_symm Nat (@OfNat.ofNat Nat (nat_lit 0) (instOfNatNat (nat_lit 0))) (λx9=>((λ_ _ _=>t369) (some (TypeDesc.slice x1)) (CV.sl x2 x3 x4 x5 x6) (CV.val (Value.slice none (@OfNat.ofNat Nat (nat_lit 0) (instOfNatNat (nat_lit 0))) x9)))) ((λ_ _ _ _ _ _=>(some Bool.false)) x1 x2 x3 x4 x5 x6) x8) (λ_=>((λ_ _ _=>none) (some (TypeDesc.slice x1)) (CV.sl x2 x3 x4 x5 x6) (CV.val (Value.slice none (@OfNat.ofNat Nat (nat_lit 0) (instOfNatNat (nat_lit 0))) x8))))) x7) (λ_=>((λ_ _ _=>none) (some (TypeDesc.slice x1)) (CV.sl x2 x3 x4 x5 x6) (CV.val (Value.slice none x7 x8))))) (λ_=>none))) := by intro t; cases t <;> (intros; rfl)
abbrev t515:=t164 → t500
abbrev t516:=Nat → t515
abbrev t517:=Nat → t516
abbrev t518:=Nat → t517
abbrev t519:=TypeId → t518
abbrev t520:=Value → t519
def l171 : t520 := (λx0=>(@Value.rec (λ_=>t519) (λ_=>PUnit.{1}) (λ_=>PUnit.{1}) (λ_ _ _ _ _ _ _=>none) (λ_ _ _ _ _ _ _ _=>none) (λ_ _ _ _ _ _ _ _=>none) (λ_ _ _ _ _ _ _ _ _=>none) (λ_ _ _ _ _ _ _=>none) (λ_ _ _ _ _ _ _=>none) (λx1 x2 x3 x4 x5 x6 x7 x8 x9=>(l170 x1 x4 x5 x6 x7 x8 x9 x2 x3)) (λ_ _ _ _ _ _ _=>none) (λ_ _ _ _ _ _ _=>none) (λ_ _ _ _ _ _ _ _ _ _ _=>none) (λ_ _ _ _ _ _=>none) (λ_ _ _ _ _ _ _ _ _=>none) (λ_ _ _ _ _ _=>none) (λ_ _ _ _ _ _ _ _=>none) (λ_ _ _ _ _ _ _ _=>none) (λ_ _=>PUnit.unit.{1}) PUnit.unit.{1} (λ_ _ _ _=>PUnit.unit.{1}) x0))
theorem l171_eq : ∀ x0 x1 x2 x3 x4 x5 x6, (Eq (l171 x0 x1 x2 x3 x4 x5 x6) (@eqV._sparseCasesOn_11 (λ_=>t369) x0 (λx7 x8 x9=>(l170 x7 x1 x2 x3 x4 x5 x6 x8 x9)) (λ_=>none))) := by intro t; cases t <;> (intros; rfl)
abbrev t521:=CV → t519
def l172 : t521 := (λx0=>(@CV.rec (λ_=>t519) (λ_=>PUnit.{1}) (λ_ _ _ _ _ _=>none) (λx1 x2 x3 x4 x5 x6 x7=>(l171 x1 x2 x3 x4 x5 x6 x7)) (λ_ _ _ _ _ _ _ _=>none) (λ_ _ _ _ _ _ _ _ _ _ _=>none) (λ_ _ _ _ _ _=>none) (λ_ _ _ _ _ _ _=>none) (λ_ _ _ _ _ _ _ _=>none) (λ_ _ _ _ _ _ _ _=>none) (λ_ _ _ _ _ _ _ _ _ _ _=>none) (λ_ _ _ _ _ _ _=>none) (λ_ _ _ _ _ _ _ _ _=>none) PUnit.unit.{1} (λ_ _ _ _=>PUnit.unit.{1}) x0))
theorem l172_eq : ∀ x0 x1 x2 x3 x4 x5 x6, (Eq (l172 x0 x1 x2 x3 x4 x5 x6) (@eqV._sparseCasesOn_3 (λ_=>t369) x0 (λx7=>(l171 x7 x1 x2 x3 x4 x5 x6)) (λ_=>none))) := by intro t; cases t <;> (intros; rfl)
abbrev t522:=CV → t506
def l173 : t522 := (λx0=>(@CV.rec (λ_=>t506) (λ_=>PUnit.{1}) (λ_ _=>none) (λx1 x2 x3=>(l169 x1 x2 x3)) (λ_ _ _ _=>none) (λx1 x2 x3 x4 x5 x6 x7=>(l172 x6 x7 x1 x2 x3 x4 x5)) (λ_ _=>none) (λ_ _ _=>none) (λ_ _ _ _=>none) (λ_ _ _ _=>none) (λ_ _ _ _ _ _ _=>none) (λ_ _ _=>none) (λ_ _ _ _ _=>none) PUnit.unit.{1} (λ_ _ _ _=>PUnit.unit.{1}) x0))
theorem l173_eq : ∀ x0 x1 x2, (Eq (l173 x0 x1 x2) (@eqV._sparseCasesOn_10 (λ_=>t369) x0 (λx3=>(l169 x3 x1 x2)) (λx3 x4 x5 x6 x7=>(l172 x1 x2 x3 x4 x5 x6 x7)) (λ_=>none))) := by intro t; cases t <;> (intros; rfl)
abbrev t523:=t164 → t369
def l174 : t523 := (λx0=>(@Option.rec Nat (λ_=>t369) (some Bool.true) (λ_=>none) x0))
theorem l174_eq : ∀ x0, (Eq (l174 x0) (@eqV._sparseCasesOn_9 Nat (λ_=>t369) x0 (some Bool.true) (λ_=>none))) := by intro t; cases t <;> (intros; rfl)
def l175 : t370 := (λx0=>(@Value.rec (λ_=>t369) (λ_=>PUnit.{1}) (λ_=>PUnit.{1}) (λ_=>none) (λ_ _=>none) (λ_ _=>none) (λ_ _ _=>none) (λ_=>none) (λ_=>none) (λ_ _ _=>none) (λx1=>(l174 x1)) (λ_=>none) (λ_ _ _ _ _=>none) none (λ_ _ _=>none) none (λ_ _=>none) (λ_ _=>none) (λ_ _=>PUnit.unit.{1}) PUnit.unit.{1} (λ_ _ _ _=>PUnit.unit.{1}) x0))
theorem l175_eq : ∀ x0, (Eq (l175 x0) (@eqV._sparseCasesOn_13 (λ_=>t369) x0 (λx1=>(l174 x1)) (λ_=>none))) := by intro t; cases t <;> (intros; rfl)
def l176 : t371 := (λx0=>(@CV.rec (λ_=>t369) (λ_=>PUnit.{1}) none (λx1=>(l175 x1)) (λ_ _=>none) (λ_ _ _ _ _=>none) none (λ_=>none) (λ_ _=>none) (λ_ _=>none) (λ_ _ _ _ _=>none) (λ_=>none) (λ_ _ _=>none) PUnit.unit.{1} (λ_ _ _ _=>PUnit.unit.{1}) x0))
theorem l176_eq : ∀ x0, (Eq (l176 x0) (@eqV._sparseCasesOn_3 (λ_=>t369) x0 (λx1=>(l175 x1)) (λ_=>none))) := by intro t; cases t <;> (intros; rfl)
abbrev t524:=t164 → t371
def l177 : t524 := (λx0=>(@Option.rec Nat (λ_=>t371) (λx1=>(l176 x1)) (λ_ _=>none) x0))
theorem l177_eq : ∀ x0 x1, (Eq (l177 x0 x1) (@eqV._sparseCasesOn_9 Nat (λ_=>t369) x0 (l176 x1) (λ_=>none))) := by intro t; cases t <;> (intros; rfl)
def l178 : t492 := (λx0=>(@Value.rec (λ_=>t371) (λ_=>PUnit.{1}) (λ_=>PUnit.{1}) (λ_ _=>none) (λ_ _ _=>none) (λ_ _ _=>none) (λ_ _ _ _=>none) (λ_ _=>none) (λ_ _=>none) (λ_ _ _ _=>none) (λx1 x2=>(l177 x1 x2)) (λ_ _=>none) (λ_ _ _ _ _ _=>none) (λ_=>none) (λ_ _ _ _=>none) (λ_=>none) (λ_ _ _=>none) (λ_ _ _=>none) (λ_ _=>PUnit.unit.{1}) PUnit.unit.{1} (λ_ _ _ _=>PUnit.unit.{1}) x0))
theorem l178_eq : ∀ x0 x1, (Eq (l178 x0 x1) (@eqV._sparseCasesOn_13 (λ_=>t369) x0 (λx2=>(l177 x2 x1)) (λ_=>none))) := by intro t; cases t <;> (intros; rfl)
def l179 : t523 := (λx0=>(@Option.rec Nat (λ_=>t369) (some Bool.false) (λ_=>none) x0))
theorem l179_eq : ∀ x0, (Eq (l179 x0) (@eqV._sparseCasesOn_9 Nat (λ_=>t369) x0 (some Bool.false) (λ_=>none))) := by intro t; cases t <;> (intros; rfl)
def l180 : t370 := (λx0=>(@Value.rec (λ_=>t369) (λ_=>PUnit.{1}) (λ_=>PUnit.{1}) (λ_=>none) (λ_ _=>none) (λ_ _=>none) (λ_ _ _=>none) (λ_=>none) (λ_=>none) (λ_ _ _=>none) (λx1=>(l179 x1)) (λ_=>none) (λ_ _ _ _ _=>none) none (λ_ _ _=>none) none (λ_ _=>none) (λ_ _=>none) (λ_ _=>PUnit.unit.{1}) PUnit.unit.{1} (λ_ _ _ _=>PUnit.unit.{1}) x0))
theorem l180_eq : ∀ x0, (Eq (l180 x0) (@eqV._sparseCasesOn_13 (λ_=>t369) x0 (λx1=>(l179 x1)) (λ_=>none))) := by intro t; cases t <;> (intros; rfl)
def l181 : t371 := (λx0=>(@CV.rec (λ_=>t369) (λ_=>PUnit.{1}) none (λx1=>(l180 x1)) (λ_ _=>none) (λ_ _ _ _ _=>none) none (λ_=>none) (λ_ _=>none) (λ_ _=>none) (λ_ _ _ _ _=>none) (λ_=>none) (λ_ _ _=>none) PUnit.unit.{1} (λ_ _ _ _=>PUnit.unit.{1}) x0))
theorem l181_eq : ∀ x0, (Eq (l181 x0) (@eqV._sparseCasesOn_3 (λ_=>t369) x0 (λx1=>(l180 x1)) (λ_=>none))) := by intro t; cases t <;> (intros; rfl)
def l182 : t417 := (λx0=>(@CV.rec (λ_=>t371) (λ_=>PUnit.{1}) (λ_=>none) (λx1 x2=>(l178 x1 x2)) (λ_ _ _=>none) (λ_ _ _ _ _ _=>none) (λ_=>none) (λ_ x2=>(l181 x2)) (λ_ _ _=>none) (λ_ _ _=>none) (λ_ _ _ _ _ _=>none) (λ_ _=>none) (λ_ _ _ _=>none) PUnit.unit.{1} (λ_ _ _ _=>PUnit.unit.{1}) x0))
theorem l182_eq : ∀ x0 x1, (Eq (l182 x0 x1) (@eqV._sparseCasesOn_12 (λ_=>t369) x0 (λx2=>(l178 x2 x1)) (λ_=>(l181 x1)) (λ_=>none))) := by intro t; cases t <;> (intros; rfl)
def l183 : t370 := (λx0=>(@Value.rec (λ_=>t369) (λ_=>PUnit.{1}) (λ_=>PUnit.{1}) (λ_=>none) (λ_ _=>none) (λ_ _=>none) (λ_ _ _=>none) (λ_=>none) (λ_=>none) (λ_ _ _=>none) (λ_=>none) (λ_=>none) (λ_ _ _ _ _=>none) (some Bool.false) (λ_ _ _=>none) none (λ_ _=>none) (λ_ _=>none) (λ_ _=>PUnit.unit.{1}) PUnit.unit.{1} (λ_ _ _ _=>PUnit.unit.{1}) x0))
theorem l183_eq : ∀ x0, (Eq (l183 x0) (@eqV._sparseCasesOn_15 (λ_=>t369) x0 (some Bool.false) (λ_=>none))) := by intro t; cases t <;> (intros; rfl)
def l184 : t371 := (λx0=>(@CV.rec (λ_=>t369) (λ_=>PUnit.{1}) none (λx1=>(l183 x1)) (λ_ _=>none) (λ_ _ _ _ _=>none) none (λ_=>none) (λ_ _=>none) (λ_ _=>none) (λ_ _ _ _ _=>none) (λ_=>none) (λ_ _ _=>none) PUnit.unit.{1} (λ_ _ _ _=>PUnit.unit.{1}) x0))
theorem l184_eq : ∀ x0, (Eq (l184 x0) (@eqV._sparseCasesOn_3 (λ_=>t369) x0 (λx1=>(l183 x1)) (λ_=>none))) := by intro t; cases t <;> (intros; rfl)
def l185 : t370 := (λx0=>(@Value.rec (λ_=>t369) (λ_=>PUnit.{1}) (λ_=>PUnit.{1}) (λ_=>none) (λ_ _=>none) (λ_ _=>none) (λ_ _ _=>none) (λ_=>none) (λ_=>none) (λ_ _ _=>none) (λ_=>none) (λ_=>none) (λ_ _ _ _ _=>none) (some Bool.true) (λ_ _ _=>none) none (λ_ _=>none) (λ_ _=>none) (λ_ _=>PUnit.unit.{1}) PUnit.unit.{1} (λ_ _ _ _=>PUnit.unit.{1}) x0))
theorem l185_eq : ∀ x0, (Eq (l185 x0) (@eqV._sparseCasesOn_15 (λ_=>t369) x0 (some Bool.true) (λ_=>none))) := by intro t; cases t <;> (intros; rfl)
def l186 : t371 := (λx0=>(@CV.rec (λ_=>t369) (λ_=>PUnit.{1}) none (λx1=>(l185 x1)) (λ_ _=>none) (λ_ _ _ _ _=>none) none (λ_=>none) (λ_ _=>none) (λ_ _=>none) (λ_ _ _ _ _=>none) (λ_=>none) (λ_ _ _=>none) PUnit.unit.{1} (λ_ _ _ _=>PUnit.unit.{1}) x0))
theorem l186_eq : ∀ x0, (Eq (l186 x0) (@eqV._sparseCasesOn_3 (λ_=>t369) x0 (λx1=>(l185 x1)) (λ_=>none))) := by intro t; cases t <;> (intros; rfl)
def l187 : t492 := (λx0=>(@Value.rec (λ_=>t371) (λ_=>PUnit.{1}) (λ_=>PUnit.{1}) (λ_ _=>none) (λ_ _ _=>none) (λ_ _ _=>none) (λ_ _ _ _=>none) (λ_ _=>none) (λ_ _=>none) (λ_ _ _ _=>none) (λ_ _=>none) (λ_ _=>none) (λ_ _ _ _ _ _=>none) (λx1=>(l186 x1)) (λ_ _ _ _=>none) (λ_=>none) (λ_ _ _=>none) (λ_ _ _=>none) (λ_ _=>PUnit.unit.{1}) PUnit.unit.{1} (λ_ _ _ _=>PUnit.unit.{1}) x0))
theorem l187_eq : ∀ x0 x1, (Eq (l187 x0 x1) (@eqV._sparseCasesOn_15 (λ_=>t369) x0 (l186 x1) (λ_=>none))) := by intro t; cases t <;> (intros; rfl)
def l188 : t417 := (λx0=>(@CV.rec (λ_=>t371) (λ_=>PUnit.{1}) (λ_=>none) (λx1 x2=>(l187 x1 x2)) (λ_ _ _=>none) (λ_ _ _ _ _ _=>none) (λ_=>none) (λ_ _=>none) (λ_ _ _=>none) (λ_ _ _=>none) (λ_ _ _ _ _ x6=>(l184 x6)) (λ_ _=>none) (λ_ _ _ _=>none) PUnit.unit.{1} (λ_ _ _ _=>PUnit.unit.{1}) x0))
theorem l188_eq : ∀ x0 x1, (Eq (l188 x0 x1) (@eqV._sparseCasesOn_14 (λ_=>t369) x0 (λ_ _ _=>(l184 x1)) (λx2=>(l187 x2 x1)) (λ_=>none))) := by intro t; cases t <;> (intros; rfl)
def l189 : t370 := (λx0=>(@Value.rec (λ_=>t369) (λ_=>PUnit.{1}) (λ_=>PUnit.{1}) (λ_=>none) (λ_ _=>none) (λ_ _=>none) (λ_ _ _=>none) (λ_=>none) (λ_=>none) (λ_ _ _=>none) (λ_=>none) (λ_=>none) (λ_ _ _ _ _=>none) none (λ_ _ _=>none) (some Bool.true) (λ_ _=>none) (λ_ _=>none) (λ_ _=>PUnit.unit.{1}) PUnit.unit.{1} (λ_ _ _ _=>PUnit.unit.{1}) x0))
theorem l189_eq : ∀ x0, (Eq (l189 x0) (@eqV._sparseCasesOn_17 (λ_=>t369) x0 (some Bool.true) (λ_=>none))) := by intro t; cases t <;> (intros; rfl)
def l190 : t371 := (λx0=>(@CV.rec (λ_=>t369) (λ_=>PUnit.{1}) none (λx1=>(l189 x1)) (λ_ _=>none) (λ_ _ _ _ _=>none) none (λ_=>none) (λ_ _=>none) (λ_ _=>none) (λ_ _ _ _ _=>none) (λ_=>none) (λ_ _ _=>(some Bool.false)) PUnit.unit.{1} (λ_ _ _ _=>PUnit.unit.{1}) x0))
theorem l190_eq : ∀ x0, (Eq (l190 x0) (@eqV._sparseCasesOn_16 (λ_=>t369) x0 (λx1=>(l189 x1)) (λ_ _=>(some Bool.false)) (λ_=>none))) := by intro t; cases t <;> (intros; rfl)
def l191 : t492 := (λx0=>(@Value.rec (λ_=>t371) (λ_=>PUnit.{1}) (λ_=>PUnit.{1}) (λ_ _=>none) (λ_ _ _=>none) (λ_ _ _=>none) (λ_ _ _ _=>none) (λ_ _=>none) (λ_ _=>none) (λ_ _ _ _=>none) (λ_ _=>none) (λ_ _=>none) (λ_ _ _ _ _ _=>none) (λ_=>none) (λ_ _ _ _=>none) (λx1=>(l190 x1)) (λ_ _ _=>none) (λ_ _ _=>none) (λ_ _=>PUnit.unit.{1}) PUnit.unit.{1} (λ_ _ _ _=>PUnit.unit.{1}) x0))
theorem l191_eq : ∀ x0 x1, (Eq (l191 x0 x1) (@eqV._sparseCasesOn_17 (λ_=>t369) x0 (l190 x1) (λ_=>none))) := by intro t; cases t <;> (intros; rfl)
def l192 : t370 := (λx0=>(@Value.rec (λ_=>t369) (λ_=>PUnit.{1}) (λ_=>PUnit.{1}) (λ_=>none) (λ_ _=>none) (λ_ _=>none) (λ_ _ _=>none) (λ_=>none) (λ_=>none) (λ_ _ _=>none) (λ_=>none) (λ_=>none) (λ_ _ _ _ _=>none) none (λ_ _ _=>none) (some Bool.false) (λ_ _=>none) (λ_ _=>none) (λ_ _=>PUnit.unit.{1}) PUnit.unit.{1} (λ_ _ _ _=>PUnit.unit.{1}) x0))
theorem l192_eq : ∀ x0, (Eq (l192 x0) (@eqV._sparseCasesOn_17 (λ_=>t369) x0 (some Bool.false) (λ_=>none))) := by intro t; cases t <;> (intros; rfl)
def l193 : t371 := (λx0=>(@CV.rec (λ_=>t369) (λ_=>PUnit.{1}) none (λx1=>(l192 x1)) (λ_ _=>none) (λ_ _ _ _ _=>none) none (λ_=>none) (λ_ _=>none) (λ_ _=>none) (λ_ _ _ _ _=>none) (λ_=>none) (λ_ _ _=>none) PUnit.unit.{1} (λ_ _ _ _=>PUnit.unit.{1}) x0))
theorem l193_eq : ∀ x0, (Eq (l193 x0) (@eqV._sparseCasesOn_3 (λ_=>t369) x0 (λx1=>(l192 x1)) (λ_=>none))) := by intro t; cases t <;> (intros; rfl)
def l194 : t417 := (λx0=>(@CV.rec (λ_=>t371) (λ_=>PUnit.{1}) (λ_=>none) (λx1 x2=>(l191 x1 x2)) (λ_ _ _=>none) (λ_ _ _ _ _ _=>none) (λ_=>none) (λ_ _=>none) (λ_ _ _=>none) (λ_ _ _=>none) (λ_ _ _ _ _ _=>none) (λ_ _=>none) (λ_ _ _ x4=>(l193 x4)) PUnit.unit.{1} (λ_ _ _ _=>PUnit.unit.{1}) x0))
theorem l194_eq : ∀ x0 x1, (Eq (l194 x0 x1) (@eqV._sparseCasesOn_16 (λ_=>t369) x0 (λx2=>(l191 x2 x1)) (λ_ _=>(l193 x1)) (λ_=>none))) := by intro t; cases t <;> (intros; rfl)
abbrev t525:=TypeDesc → t417
def l195 : t525 := (λx0=>(@TypeDesc.rec (λ_=>t417) (λ_ _=>none) (λx1 x2=>(l150 x1 x2)) (λ_ x2 x3=>(l154 x2 x3)) (λ_ _ _=>none) (λ_ _ _=>none) (λx1 x2=>(l158 x1 x2)) (λ_ _=>none) (λ_ x2 x3=>(l167 x2 x3)) (λx1 x2 x3=>(l173 x2 x3 x1)) (λ_ _ _ _=>none) (λ_ _ x3 x4=>(l182 x3 x4)) (λ_ _ _ _=>none) (λ_ _ _=>none) (λ_ _ _ x4 x5=>(l188 x4 x5)) (λ_ x2 x3=>(l194 x2 x3)) (λ_ _ _=>none) (λ_ _ _ _=>none) x0))
theorem l195_eq : ∀ x0 x1 x2, (Eq (l195 x0 x1 x2) (@eqV._sparseCasesOn_2 (λ_=>t369) x0 (l150 x1 x2) (λ_=>(l154 x1 x2)) (l158 x1 x2) (λ_=>(l167 x1 x2)) (λx3=>(l173 x1 x2 x3)) (λ_ _=>(l182 x1 x2)) (λ_ _ _=>(l188 x1 x2)) (λ_=>(l194 x1 x2)) (λ_=>none))) := by intro t; cases t <;> (intros; rfl)
abbrev t526:=t336 → t417
def l196 : t526 := (λx0=>(@Option.rec TypeDesc (λ_=>t417) (λ_ _=>none) (λx1 x2 x3=>(l195 x1 x2 x3)) x0))
theorem l196_eq : ∀ x0 x1 x2, (Eq (l196 x0 x1 x2) (@eqV._sparseCasesOn_1 TypeDesc (λ_=>t369) x0 (λx3=>(l195 x3 x1 x2)) (λ_=>none))) := by intro t; cases t <;> (intros; rfl)
abbrev t527:=TypeId → t417
abbrev t528:=Program → t527
def k_eqV : t528 := (λx0 x1 x2 x3=>(l196 (Program.underlying x0 x1) x2 x3))
theorem k_eqV_eq : @k_eqV = eqV := by
  delta k_eqV eqV
  simp only [l158_eq, l160_eq, l149_eq, l179_eq, l161_eq, l162_eq, l191_eq, l148_eq, l182_eq, l159_eq, l153_eq, l174_eq, l150_eq, l157_eq, l166_eq, l196_eq, l186_eq, l147_eq, l163_eq, l192_eq, l195_eq, l152_eq, l185_eq, l175_eq, l167_eq, l165_eq, l187_eq, l154_eq, l193_eq, l156_eq, l184_eq, l171_eq, l188_eq, l169_eq, l190_eq, l155_eq, l173_eq, l170_eq, l183_eq, l178_eq, l194_eq, l168_eq, l180_eq, l164_eq, l177_eq, l176_eq, l189_eq, l151_eq, l181_eq, l172_eq]
  rw [k_kEq_eq, k_iEq_eq, k_bytesEq_eq]
  all_goals kernel_rfl

abbrev t529:=TypeId → t428
abbrev t530:=Program → t529
abbrev t531:=BinOp → t530
def l146 : t531 := (λx0=>(@BinOp.rec (λ_=>t530) (λ_ _ _ _ _=>none) (λ_ _ _ _ _=>none) (λ_ _ _ _ _=>none) (λ_ _ _ _ _=>none) (λ_ _ _ _ _=>none) (λ_ _ _ _ _=>none) (λ_ _ _ _ _=>none) (λ_ _ _ _ _=>none) (λ_ _ _ _ _=>none) (λ_ _ _ _ _=>none) (λ_ _ _ _ _=>none) (λx1 x2 x3 x4 x5=>(@Option.rec Bool (λ_=>t4) none (λx6=>((λx7=>(k_retB x5 x7)) x6)) (k_eqV x1 x2 x3 x4))) (λx1 x2 x3 x4 x5=>(@Option.rec Bool (λ_=>t4) none (λx6=>((λx7=>(k_retB x5 (@Bool.rec (λ_=>Bool) Bool.true Bool.false x7))) x6)) (k_eqV x1 x2 x3 x4))) (λ_ _ _ _ _=>none) (λ_ _ _ _ _=>none) (λ_ _ _ _ _=>none) (λ_ _ _ _ _=>none) x0))
theorem l146_eq : ∀ x0 x1 x2 x3 x4 x5, (Eq (l146 x0 x1 x2 x3 x4 x5) (@binA._sparseCasesOn_1 (λ_=>t4) x0 (@Option.rec Bool (λ_=>t4) none (λx6=>((λx7=>(k_retB x5 x7)) x6)) (k_eqV x1 x2 x3 x4)) (@Option.rec Bool (λ_=>t4) none (λx6=>((λx7=>(k_retB x5 (@Bool.rec (λ_=>Bool) Bool.true Bool.false x7))) x6)) (k_eqV x1 x2 x3 x4)) (λ_=>none))) := by intro t; cases t <;> (intros; rfl)
def l197 : t1 := (λx0=>(@Value.rec (λ_=>Bool) (λ_=>PUnit.{1}) (λ_=>PUnit.{1}) (λ_=>Bool.false) (λ_ _=>Bool.false) (λ_ _=>Bool.false) (λ_ _ _=>Bool.false) (λ_=>Bool.false) (λ_=>Bool.false) (λ_ _ _=>Bool.false) (λ_=>Bool.false) (λ_=>Bool.false) (λ_ _ _ _ _=>Bool.false) Bool.false (λ_ _ _=>Bool.false) Bool.true (λ_ _=>Bool.false) (λ_ _=>Bool.false) (λ_ _=>PUnit.unit.{1}) PUnit.unit.{1} (λ_ _ _ _=>PUnit.unit.{1}) x0))
theorem l197_eq : ∀ x0, (Eq (l197 x0) (@bothNil._sparseCasesOn_1 (λ_=>Bool) x0 Bool.true (λ_=>Bool.false))) := by intro t; cases t <;> (intros; rfl)
def l198 : t2 := (λx0=>(@CV.rec (λ_=>Bool) (λ_=>PUnit.{1}) Bool.false (λx1=>(l197 x1)) (λ_ _=>Bool.false) (λ_ _ _ _ _=>Bool.false) Bool.false (λ_=>Bool.false) (λ_ _=>Bool.false) (λ_ _=>Bool.false) (λ_ _ _ _ _=>Bool.false) (λ_=>Bool.false) (λ_ _ _=>Bool.false) PUnit.unit.{1} (λ_ _ _ _=>PUnit.unit.{1}) x0))
theorem l198_eq : ∀ x0, (Eq (l198 x0) (@natOf._sparseCasesOn_1 (λ_=>Bool) x0 (λx1=>(l197 x1)) (λ_=>Bool.false))) := by intro t; cases t <;> (intros; rfl)
abbrev t532:=Value → t2
def l199 : t532 := (λx0=>(@Value.rec (λ_=>t2) (λ_=>PUnit.{1}) (λ_=>PUnit.{1}) (λ_ _=>Bool.false) (λ_ _ _=>Bool.false) (λ_ _ _=>Bool.false) (λ_ _ _ _=>Bool.false) (λ_ _=>Bool.false) (λ_ _=>Bool.false) (λ_ _ _ _=>Bool.false) (λ_ _=>Bool.false) (λ_ _=>Bool.false) (λ_ _ _ _ _ _=>Bool.false) (λ_=>Bool.false) (λ_ _ _ _=>Bool.false) (λx1=>(l198 x1)) (λ_ _ _=>Bool.false) (λ_ _ _=>Bool.false) (λ_ _=>PUnit.unit.{1}) PUnit.unit.{1} (λ_ _ _ _=>PUnit.unit.{1}) x0))
theorem l199_eq : ∀ x0 x1, (Eq (l199 x0 x1) (@bothNil._sparseCasesOn_1 (λ_=>Bool) x0 (l198 x1) (λ_=>Bool.false))) := by intro t; cases t <;> (intros; rfl)
abbrev t533:=CV → t2
def l200 : t533 := (λx0=>(@CV.rec (λ_=>t2) (λ_=>PUnit.{1}) (λ_=>Bool.false) (λx1 x2=>(l199 x1 x2)) (λ_ _ _=>Bool.false) (λ_ _ _ _ _ _=>Bool.false) (λ_=>Bool.false) (λ_ _=>Bool.false) (λ_ _ _=>Bool.false) (λ_ _ _=>Bool.false) (λ_ _ _ _ _ _=>Bool.false) (λ_ _=>Bool.false) (λ_ _ _ _=>Bool.false) PUnit.unit.{1} (λ_ _ _ _=>PUnit.unit.{1}) x0))
theorem l200_eq : ∀ x0 x1, (Eq (l200 x0 x1) (@natOf._sparseCasesOn_1 (λ_=>Bool) x0 (λx2=>(l199 x2 x1)) (λ_=>Bool.false))) := by intro t; cases t <;> (intros; rfl)
def k_bothNil : t533 := (λx0 x1=>(l200 x0 x1))
theorem k_bothNil_eq : @k_bothNil = bothNil := by
  delta k_bothNil bothNil
  simp only [l199_eq, l198_eq, l200_eq, l197_eq]
  all_goals kernel_rfl

abbrev t534:=BinOp → t529
abbrev t535:=Bool → t534
abbrev t536:=Program → t535
def k_binO : t536 := (λx0 x1 x2 x3 x4 x5 x6=>(k_ifT_Ret (@Bool.rec (λ_=>Bool) (@Bool.rec (λ_=>Bool) Bool.true Bool.false (k_bothNil x4 x5)) Bool.true x1) (l146 x2 x0 x3 x4 x5 x6)))
theorem k_binO_eq : @k_binO = binO := by
  delta k_binO binO
  simp only [l146_eq]
  rw [k_ifT_Ret_eq, k_bothNil_eq, k_eqV_eq, k_retB_eq]
  all_goals kernel_rfl

def l145 : t536 := (λx0 x1 x2 x3 x4 x5 x6=>(k_binO x0 x1 x2 x3 x4 x5 x6))
theorem l145_eq : ∀ x0 x1 x2 x3 x4 x5 x6, (Eq (l145 x0 x1 x2 x3 x4 x5 x6) (k_binO x0 x1 x2 x3 x4 x5 x6)) := by intros; rfl
abbrev t537:=Value → t4
abbrev t538:=S → t537
abbrev t539:=CV → t538
abbrev t540:=TypeId → t539
abbrev t541:=BinOp → t540
abbrev t542:=Bool → t541
abbrev t543:=Program → t542
def l201 : t543 := (λx0 x1 x2 x3 x4 x5 x6=>(k_binO x0 x1 x2 x3 (CV.val x6) x4 x5))
theorem l201_eq : ∀ x0 x1 x2 x3 x4 x5 x6, (Eq (l201 x0 x1 x2 x3 x4 x5 x6) (k_binO x0 x1 x2 x3 (CV.val x6) x4 x5)) := by intros; rfl
abbrev t544:=Int → t4
abbrev t545:=IntKind → t544
abbrev t546:=S → t545
abbrev t547:=CV → t546
abbrev t548:=TypeId → t547
abbrev t549:=BinOp → t548
abbrev t550:=Bool → t549
abbrev t551:=Program → t550
def l202 : t551 := (λx0 x1 x2 x3 x4 x5 x6 x7=>(k_binO x0 x1 x2 x3 (CV.val (Value.int x6 x7)) x4 x5))
theorem l202_eq : ∀ x0 x1 x2 x3 x4 x5 x6 x7, (Eq (l202 x0 x1 x2 x3 x4 x5 x6 x7) (k_binO x0 x1 x2 x3 (CV.val (Value.int x6 x7)) x4 x5)) := by intros; rfl
abbrev t552:=Int → t537
abbrev t553:=IntKind → t552
abbrev t554:=S → t553
abbrev t555:=TypeId → t554
abbrev t556:=BinOp → t555
abbrev t557:=Bool → t556
abbrev t558:=Program → t557
def l203 : t558 := (λx0 x1 x2 x3 x4 x5 x6 x7=>(k_binO x0 x1 x2 x3 (CV.val (Value.int x5 x6)) (CV.val x7) x4))
theorem l203_eq : ∀ x0 x1 x2 x3 x4 x5 x6 x7, (Eq (l203 x0 x1 x2 x3 x4 x5 x6 x7) (k_binO x0 x1 x2 x3 (CV.val (Value.int x5 x6)) (CV.val x7) x4)) := by intros; rfl
def l207 : t375 := (λx0=>(@Int.rec (λ_=>t374) (λx1 x2=>(@Int.rec (λ_=>Bool) (λx3=>((λx4 x5=>(k_Nat_blt x4 x5)) x1 x3)) (λx3=>((λ_ _=>Bool.false) x1 x3)) x2)) (λx1 x2=>(@Int.rec (λ_=>Bool) (λx3=>((λ_ _=>Bool.true) x1 x3)) (λx3=>((λx4 x5=>(k_Nat_blt x5 x4)) x1 x3)) x2)) x0))
theorem l207_eq : ∀ x0 x1, (Eq (l207 x0 x1) (@Int.rec (λ_=>Bool) (λx2=>(@Int.rec (λ_=>Bool) (λx3=>((λx4 x5=>(k_Nat_blt x4 x5)) x2 x3)) (λx3=>((λ_ _=>Bool.false) x2 x3)) x1)) (λx2=>(@Int.rec (λ_=>Bool) (λx3=>((λ_ _=>Bool.true) x2 x3)) (λx3=>((λx4 x5=>(k_Nat_blt x5 x4)) x2 x3)) x1)) x0)) := by intro t; cases t <;> (intros; rfl)
def k_iLt : t375 := (λx0 x1=>(l207 x0 x1))
theorem k_iLt_eq : @k_iLt = iLt := by
  delta k_iLt iLt
  simp only [l207_eq]
  rw [k_Nat_blt_eq]
  all_goals kernel_rfl

abbrev t559:=Int → t383
abbrev t560:=BinOp → t559
def l206 : t560 := (λx0=>(@BinOp.rec (λ_=>t559) (λ_ _=>none) (λ_ _=>none) (λ_ _=>none) (λ_ _=>none) (λ_ _=>none) (λ_ _=>none) (λ_ _=>none) (λ_ _=>none) (λ_ _=>none) (λ_ _=>none) (λ_ _=>none) (λx1 x2=>(some (k_iEq x1 x2))) (λx1 x2=>(some (@Bool.rec (λ_=>Bool) Bool.true Bool.false (k_iEq x1 x2)))) (λx1 x2=>(some (k_iLt x1 x2))) (λx1 x2=>(some (@Bool.rec (λ_=>Bool) Bool.true Bool.false (k_iLt x2 x1)))) (λx1 x2=>(some (k_iLt x2 x1))) (λx1 x2=>(some (@Bool.rec (λ_=>Bool) Bool.true Bool.false (k_iLt x1 x2)))) x0))
theorem l206_eq : ∀ x0 x1 x2, (Eq (l206 x0 x1 x2) (@cmpI'._sparseCasesOn_1 (λ_=>t369) x0 (some (k_iEq x1 x2)) (some (@Bool.rec (λ_=>Bool) Bool.true Bool.false (k_iEq x1 x2))) (some (k_iLt x1 x2)) (some (@Bool.rec (λ_=>Bool) Bool.true Bool.false (k_iLt x2 x1))) (some (k_iLt x2 x1)) (some (@Bool.rec (λ_=>Bool) Bool.true Bool.false (k_iLt x1 x2))) (λ_=>none))) := by intro t; cases t <;> (intros; rfl)
def k_cmpI' : t560 := (λx0 x1 x2=>(l206 x0 x1 x2))
theorem k_cmpI'_eq : @k_cmpI' = cmpI' := by
  delta k_cmpI' cmpI'
  simp only [l206_eq]
  rw [k_iLt_eq, k_iEq_eq]
  all_goals kernel_rfl

abbrev t561:=Int → t8
abbrev t562:=IntKind → t561
abbrev t563:=Int → t562
abbrev t564:=IntKind → t563
abbrev t565:=BinOp → t564
def l205 : t565 := (λx0 x1 x2 x3 x4 x5=>(k_ifT_Ret (k_kEq x1 x3) (@Option.rec Bool (λ_=>t4) none (λx6=>((λx7=>(k_retB x5 x7)) x6)) (k_cmpI' x0 x2 x4))))
theorem l205_eq : ∀ x0 x1 x2 x3 x4 x5, (Eq (l205 x0 x1 x2 x3 x4 x5) (k_ifT_Ret (k_kEq x1 x3) (@Option.rec Bool (λ_=>t4) none (λx6=>((λx7=>(k_retB x5 x7)) x6)) (k_cmpI' x0 x2 x4)))) := by intros; rfl
abbrev t566:=t544 → t4
abbrev t567:=Int → t566
def l209 : t567 := (λx0=>(@Int.rec (λ_=>t566) (λx1 x2=>((λx3=>(k_fN_Ret x3 (λx4=>(x2 (Int.ofNat x4))))) x1)) (λx1 x2=>((λx3=>(k_fN_Ret x3 (λx4=>(x2 (Int.negSucc x4))))) x1)) x0))
theorem l209_eq : ∀ x0 x1, (Eq (l209 x0 x1) (@Int.rec (λ_=>t4) (λx2=>((λx3=>(k_fN_Ret x3 (λx4=>(x1 (Int.ofNat x4))))) x2)) (λx2=>((λx3=>(k_fN_Ret x3 (λx4=>(x1 (Int.negSucc x4))))) x2)) x0)) := by intro t; cases t <;> (intros; rfl)
def k_fI_Ret : t567 := (λx0 x1=>(l209 x0 x1))
theorem k_fI_Ret_eq : @k_fI_Ret = (@fI Ret) := by
  delta k_fI_Ret fI
  simp only [l209_eq]
  rw [k_fN_Ret_eq]
  all_goals kernel_rfl

def k_retI : t546 := (λx0 x1 x2=>(k_fI_Ret x2 (λx3=>(some (Ret.ok (CV.val (Value.int x1 x3)) x0)))))
theorem k_retI_eq : @k_retI = retI := by
  delta k_retI retI
  rw [k_fI_Ret_eq]
  all_goals kernel_rfl

abbrev t568:=Option Int
abbrev t569:=Int → t568
abbrev t570:=Int → t569
abbrev t571:=BinOp → t570
def l210 : t571 := (λx0=>(@BinOp.rec (λ_=>t570) (λx1 x2=>(some (Int.add x1 x2))) (λx1 x2=>(some (Int.sub x1 x2))) (λx1 x2=>(some (Int.mul x1 x2))) (λ_ _=>none) (λ_ _=>none) (λ_ _=>none) (λ_ _=>none) (λ_ _=>none) (λ_ _=>none) (λ_ _=>none) (λ_ _=>none) (λ_ _=>none) (λ_ _=>none) (λ_ _=>none) (λ_ _=>none) (λ_ _=>none) (λ_ _=>none) x0))
theorem l210_eq : ∀ x0 x1 x2, (Eq (l210 x0 x1 x2) (@arI._sparseCasesOn_1 (λ_=>t568) x0 (some (Int.add x1 x2)) (some (Int.sub x1 x2)) (some (Int.mul x1 x2)) (λ_=>none))) := by intro t; cases t <;> (intros; rfl)
def k_Go_Eng_arI : t571 := (λx0 x1 x2=>(l210 x0 x1 x2))
theorem k_Go_Eng_arI_eq : @k_Go_Eng_arI = arI := by
  delta k_Go_Eng_arI arI
  simp only [l210_eq]
  all_goals kernel_rfl

abbrev t572:=BinOp → t565
def l208 : t572 := (λx0=>(@BinOp.rec (λ_=>t565) (λx1 x2 x3 x4 x5 x6=>(k_ifT_Ret (k_kEq x2 x4) (@Option.rec Int (λ_=>t4) none (λx7=>((λx8=>(k_retI x6 x2 (IntKind.wrap x2 x8))) x7)) (k_Go_Eng_arI x1 x3 x5)))) (λx1 x2 x3 x4 x5 x6=>(k_ifT_Ret (k_kEq x2 x4) (@Option.rec Int (λ_=>t4) none (λx7=>((λx8=>(k_retI x6 x2 (IntKind.wrap x2 x8))) x7)) (k_Go_Eng_arI x1 x3 x5)))) (λx1 x2 x3 x4 x5 x6=>(k_ifT_Ret (k_kEq x2 x4) (@Option.rec Int (λ_=>t4) none (λx7=>((λx8=>(k_retI x6 x2 (IntKind.wrap x2 x8))) x7)) (k_Go_Eng_arI x1 x3 x5)))) (λ_ x2 x3 x4 x5 x6=>(k_ifT_Ret (@Bool.rec (λ_=>Bool) Bool.false (@Bool.rec (λ_=>Bool) Bool.true Bool.false (k_iEq x5 (nat_lit 0))) (k_kEq x2 x4)) (k_retI x6 x2 (IntKind.wrap x2 (Int.tdiv x3 x5))))) (λ_ x2 x3 x4 x5 x6=>(k_ifT_Ret (@Bool.rec (λ_=>Bool) Bool.false (@Bool.rec (λ_=>Bool) Bool.true Bool.false (k_iEq x5 (nat_lit 0))) (k_kEq x2 x4)) (k_retI x6 x2 (Int.tmod x3 x5)))) (λx1 x2 x3 x4 x5 x6=>(k_ifT_Ret (k_kEq x2 x4) (@Option.rec Int (λ_=>t4) none (λx7=>((λx8=>(k_retI x6 x2 x8)) x7)) (bitI x1 x2 x3 x5)))) (λx1 x2 x3 x4 x5 x6=>(k_ifT_Ret (k_kEq x2 x4) (@Option.rec Int (λ_=>t4) none (λx7=>((λx8=>(k_retI x6 x2 x8)) x7)) (bitI x1 x2 x3 x5)))) (λx1 x2 x3 x4 x5 x6=>(k_ifT_Ret (k_kEq x2 x4) (@Option.rec Int (λ_=>t4) none (λx7=>((λx8=>(k_retI x6 x2 x8)) x7)) (bitI x1 x2 x3 x5)))) (λx1 x2 x3 _ x5 x6=>(@Bool.rec (λ_=>t4) (@Option.rec Int (λ_=>t4) none (λx7=>((λx8=>(k_retI x6 x2 x8)) x7)) (shI x1 x2 x3 x5)) none (k_iLt x5 (nat_lit 0)))) (λx1 x2 x3 _ x5 x6=>(@Bool.rec (λ_=>t4) (@Option.rec Int (λ_=>t4) none (λx7=>((λx8=>(k_retI x6 x2 x8)) x7)) (shI x1 x2 x3 x5)) none (k_iLt x5 (nat_lit 0)))) (λx1 x2 x3 x4 x5 x6=>(k_ifT_Ret (k_kEq x2 x4) (@Option.rec Int (λ_=>t4) none (λx7=>((λx8=>(k_retI x6 x2 x8)) x7)) (bitI x1 x2 x3 x5)))) (λx1 x2 x3 x4 x5 x6=>(l205 x1 x2 x3 x4 x5 x6)) (λx1 x2 x3 x4 x5 x6=>(l205 x1 x2 x3 x4 x5 x6)) (λx1 x2 x3 x4 x5 x6=>(l205 x1 x2 x3 x4 x5 x6)) (λx1 x2 x3 x4 x5 x6=>(l205 x1 x2 x3 x4 x5 x6)) (λx1 x2 x3 x4 x5 x6=>(l205 x1 x2 x3 x4 x5 x6)) (λx1 x2 x3 x4 x5 x6=>(l205 x1 x2 x3 x4 x5 x6)) x0))
theorem l208_eq : ∀ x0 x1 x2 x3 x4 x5 x6, (Eq (l208 x0 x1 x2 x3 x4 x5 x6) (@binI._sparseCasesOn_2 (λ_=>t4) x0 (@Bool.rec (λ_=>t4) (@Option.rec Int (λ_=>t4) none (λx7=>((λx8=>(k_retI x6 x2 x8)) x7)) (shI x1 x2 x3 x5)) none (k_iLt x5 (nat_lit 0))) (@Bool.rec (λ_=>t4) (@Option.rec Int (λ_=>t4) none (λx7=>((λx8=>(k_retI x6 x2 x8)) x7)) (shI x1 x2 x3 x5)) none (k_iLt x5 (nat_lit 0))) (k_ifT_Ret (@Bool.rec (λ_=>Bool) Bool.false (@Bool.rec (λ_=>Bool) Bool.true Bool.false (k_iEq x5 (nat_lit 0))) (k_kEq x2 x4)) (k_retI x6 x2 (IntKind.wrap x2 (Int.tdiv x3 x5)))) (k_ifT_Ret (@Bool.rec (λ_=>Bool) Bool.false (@Bool.rec (λ_=>Bool) Bool.true Bool.false (k_iEq x5 (nat_lit 0))) (k_kEq x2 x4)) (k_retI x6 x2 (Int.tmod x3 x5))) (k_ifT_Ret (k_kEq x2 x4) (@Option.rec Int (λ_=>t4) none (λx7=>((λx8=>(k_retI x6 x2 (IntKind.wrap x2 x8))) x7)) (k_Go_Eng_arI x1 x3 x5))) (k_ifT_Ret (k_kEq x2 x4) (@Option.rec Int (λ_=>t4) none (λx7=>((λx8=>(k_retI x6 x2 (IntKind.wrap x2 x8))) x7)) (k_Go_Eng_arI x1 x3 x5))) (k_ifT_Ret (k_kEq x2 x4) (@Option.rec Int (λ_=>t4) none (λx7=>((λx8=>(k_retI x6 x2 (IntKind.wrap x2 x8))) x7)) (k_Go_Eng_arI x1 x3 x5))) (k_ifT_Ret (k_kEq x2 x4) (@Option.rec Int (λ_=>t4) none (λx7=>((λx8=>(k_retI x6 x2 x8)) x7)) (bitI x1 x2 x3 x5))) (k_ifT_Ret (k_kEq x2 x4) (@Option.rec Int (λ_=>t4) none (λx7=>((λx8=>(k_retI x6 x2 x8)) x7)) (bitI x1 x2 x3 x5))) (k_ifT_Ret (k_kEq x2 x4) (@Option.rec Int (λ_=>t4) none (λx7=>((λx8=>(k_retI x6 x2 x8)) x7)) (bitI x1 x2 x3 x5))) (k_ifT_Ret (k_kEq x2 x4) (@Option.rec Int (λ_=>t4) none (λx7=>((λx8=>(k_retI x6 x2 x8)) x7)) (bitI x1 x2 x3 x5))) (λ_=>(l205 x1 x2 x3 x4 x5 x6)))) := by intro t; cases t <;> (intros; rfl)
def k_binI : t565 := (λx0 x1 x2 x3 x4 x5=>(l208 x0 x0 x1 x2 x3 x4 x5))
theorem k_binI_eq : @k_binI = binI := by
  delta k_binI binI
  simp only [l205_eq, l208_eq]
  rw [k_ifT_Ret_eq, k_cmpI'_eq, k_retB_eq, k_kEq_eq, k_retI_eq, k_iLt_eq, k_iEq_eq, k_Go_Eng_arI_eq]
  all_goals kernel_rfl

abbrev t573:=Value → t558
def l204 : t573 := (λx0=>(@Value.rec (λ_=>t558) (λ_=>PUnit.{1}) (λ_=>PUnit.{1}) (λ_ x2 x3 x4 x5 x6 x7 x8 x9=>(l203 x2 x3 x4 x5 x6 x7 x8 x9)) (λx1 x2 _ _ x5 _ x7 x8 x9 _=>(k_binI x5 x8 x9 x1 x2 x7)) (λ_ _ x3 x4 x5 x6 x7 x8 x9 x10=>(l203 x3 x4 x5 x6 x7 x8 x9 x10)) (λ_ _ _ x4 x5 x6 x7 x8 x9 x10 x11=>(l203 x4 x5 x6 x7 x8 x9 x10 x11)) (λ_ x2 x3 x4 x5 x6 x7 x8 x9=>(l203 x2 x3 x4 x5 x6 x7 x8 x9)) (λ_ x2 x3 x4 x5 x6 x7 x8 x9=>(l203 x2 x3 x4 x5 x6 x7 x8 x9)) (λ_ _ _ x4 x5 x6 x7 x8 x9 x10 x11=>(l203 x4 x5 x6 x7 x8 x9 x10 x11)) (λ_ x2 x3 x4 x5 x6 x7 x8 x9=>(l203 x2 x3 x4 x5 x6 x7 x8 x9)) (λ_ x2 x3 x4 x5 x6 x7 x8 x9=>(l203 x2 x3 x4 x5 x6 x7 x8 x9)) (λ_ _ _ _ _ x6 x7 x8 x9 x10 x11 x12 x13=>(l203 x6 x7 x8 x9 x10 x11 x12 x13)) (λx1 x2 x3 x4 x5 x6 x7 x8=>(l203 x1 x2 x3 x4 x5 x6 x7 x8)) (λ_ _ _ x4 x5 x6 x7 x8 x9 x10 x11=>(l203 x4 x5 x6 x7 x8 x9 x10 x11)) (λx1 x2 x3 x4 x5 x6 x7 x8=>(l203 x1 x2 x3 x4 x5 x6 x7 x8)) (λ_ _ x3 x4 x5 x6 x7 x8 x9 x10=>(l203 x3 x4 x5 x6 x7 x8 x9 x10)) (λ_ _ x3 x4 x5 x6 x7 x8 x9 x10=>(l203 x3 x4 x5 x6 x7 x8 x9 x10)) (λ_ _=>PUnit.unit.{1}) PUnit.unit.{1} (λ_ _ _ _=>PUnit.unit.{1}) x0))
theorem l204_eq : ∀ x0 x1 x2 x3 x4 x5 x6 x7 x8, (Eq (l204 x0 x1 x2 x3 x4 x5 x6 x7 x8) (@natOf._sparseCasesOn_2 (λ_=>t4) x0 (λx9 x10=>(k_binI x3 x6 x7 x9 x10 x5)) (λ_=>(l203 x1 x2 x3 x4 x5 x6 x7 x8)))) := by intro t; cases t <;> (intros; rfl)
abbrev t574:=CV → t551
def l211 : t574 := (λx0=>(@CV.rec (λ_=>t551) (λ_=>PUnit.{1}) (λx1 x2 x3 x4 x5 x6 x7 x8=>(l202 x1 x2 x3 x4 x5 x6 x7 x8)) (λx1 x2 x3 x4 x5 _ x7 x8 x9=>(l204 x1 x2 x3 x4 x5 x7 x8 x9 x1)) (λ_ _ x3 x4 x5 x6 x7 x8 x9 x10=>(l202 x3 x4 x5 x6 x7 x8 x9 x10)) (λ_ _ _ _ _ x6 x7 x8 x9 x10 x11 x12 x13=>(l202 x6 x7 x8 x9 x10 x11 x12 x13)) (λx1 x2 x3 x4 x5 x6 x7 x8=>(l202 x1 x2 x3 x4 x5 x6 x7 x8)) (λ_ x2 x3 x4 x5 x6 x7 x8 x9=>(l202 x2 x3 x4 x5 x6 x7 x8 x9)) (λ_ _ x3 x4 x5 x6 x7 x8 x9 x10=>(l202 x3 x4 x5 x6 x7 x8 x9 x10)) (λ_ _ x3 x4 x5 x6 x7 x8 x9 x10=>(l202 x3 x4 x5 x6 x7 x8 x9 x10)) (λ_ _ _ _ _ x6 x7 x8 x9 x10 x11 x12 x13=>(l202 x6 x7 x8 x9 x10 x11 x12 x13)) (λ_ x2 x3 x4 x5 x6 x7 x8 x9=>(l202 x2 x3 x4 x5 x6 x7 x8 x9)) (λ_ _ _ x4 x5 x6 x7 x8 x9 x10 x11=>(l202 x4 x5 x6 x7 x8 x9 x10 x11)) PUnit.unit.{1} (λ_ _ _ _=>PUnit.unit.{1}) x0))
theorem l211_eq : ∀ x0 x1 x2 x3 x4 x5 x6 x7 x8, (Eq (l211 x0 x1 x2 x3 x4 x5 x6 x7 x8) (@natOf._sparseCasesOn_1 (λ_=>t4) x0 (λx9=>(l204 x9 x1 x2 x3 x4 x6 x7 x8 x9)) (λ_=>(l202 x1 x2 x3 x4 x5 x6 x7 x8)))) := by intro t; cases t <;> (intros; rfl)
abbrev t575:=ByteArray → t4
abbrev t576:=S → t575
abbrev t577:=CV → t576
abbrev t578:=TypeId → t577
abbrev t579:=BinOp → t578
abbrev t580:=Bool → t579
abbrev t581:=Program → t580
def l212 : t581 := (λx0 x1 x2 x3 x4 x5 x6=>(k_binO x0 x1 x2 x3 (CV.val (Value.string x6)) x4 x5))
theorem l212_eq : ∀ x0 x1 x2 x3 x4 x5 x6, (Eq (l212 x0 x1 x2 x3 x4 x5 x6) (k_binO x0 x1 x2 x3 (CV.val (Value.string x6)) x4 x5)) := by intros; rfl
abbrev t582:=ByteArray → t537
abbrev t583:=S → t582
abbrev t584:=TypeId → t583
abbrev t585:=BinOp → t584
abbrev t586:=Bool → t585
abbrev t587:=Program → t586
def l213 : t587 := (λx0 x1 x2 x3 x4 x5 x6=>(k_binO x0 x1 x2 x3 (CV.val (Value.string x5)) (CV.val x6) x4))
theorem l213_eq : ∀ x0 x1 x2 x3 x4 x5 x6, (Eq (l213 x0 x1 x2 x3 x4 x5 x6) (k_binO x0 x1 x2 x3 (CV.val (Value.string x5)) (CV.val x6) x4)) := by intros; rfl
abbrev t588:=t394 → Nat
def k_lenB : t588 := (λx0=>(@List.rec UInt8 (λ_=>Nat) (nat_lit 0) (λ_ _ x3=>(Nat.add x3 (nat_lit 1))) x0))
theorem k_lenB_law : ∀ x0, (Eq (k_lenB x0) (lenB x0)) := by
  intro t
  induction t with
  | nil  =>
    show (nat_lit 0) = _
    conv => rhs; rw [Ev.lenB.eq_def]
    all_goals kernel_rfl
  | cons y0 y1 ih0 =>
    have e0 : (k_lenB y1) = (lenB y1) := by
      exact ih0
    show ((fun (_ : UInt8) (_ : t394) (x2 : Nat) => (Nat.add x2 (nat_lit 1))) y0 y1 (k_lenB y1)) = _
    rw [e0]
    conv => rhs; rw [Ev.lenB.eq_def]
    all_goals kernel_rfl
theorem k_lenB_eq : @k_lenB = lenB := by
  funext a0; exact k_lenB_law a0
abbrev t589:=Option t394
abbrev t590:=t394 → t589
abbrev t591:=t394 → t590
def k_cat_UInt8 : t591 := (λx0 x1=>(@List.rec UInt8 (λ_=>t590) (λx2=>(some x2)) (λx2 _ x4 x5=>(@Option.rec t394 (λ_=>t589) none (λx6=>(some (x2 :: x6))) (x4 x5))) x0 x1))
theorem k_cat_UInt8_law : ∀ x0 x1, (Eq (k_cat_UInt8 x0 x1) (@cat UInt8 x0 x1)) := by
  intro t
  induction t with
  | nil  =>
    intro z0
    show ((fun (x0 : t394) => (some x0)) z0) = _
    conv => rhs; rw [Ev.cat.eq_def]
    all_goals kernel_rfl
  | cons y0 y1 ih0 =>
    intro z0
    have e0 : (fun (x0 : t394) => (k_cat_UInt8 y1 x0)) = (fun (x0 : t394) => (@cat UInt8 y1 x0)) := by
      funext z0; exact ih0 z0
    show ((fun (x0 : UInt8) (_ : t394) (x2 : t590) (x3 : t394) => (@Option.rec t394 (fun (_ : t589) => t589) none (fun (x4 : t394) => (some (x0 :: x4))) (x2 x3))) y0 y1 (fun (x0 : t394) => (k_cat_UInt8 y1 x0)) z0) = _
    rw [e0]
    conv => rhs; rw [Ev.cat.eq_def]
    all_goals kernel_rfl
theorem k_cat_UInt8_eq : @k_cat_UInt8 = (@cat UInt8) := by
  funext a0 a1; exact k_cat_UInt8_law a0 a1
abbrev t592:=ByteArray → t8
abbrev t593:=ByteArray → t592
abbrev t594:=BinOp → t593
def l215 : t594 := (λx0=>(@BinOp.rec (λ_=>t593) (λx1 x2 x3=>(@Option.rec t394 (λ_=>t4) none (λx4=>((λx5=>(k_ifT_Ret (Nat.ble (k_lenB x5) (nat_lit 8388608)) (k_ok1 (CV.val (Value.string (ByteArray.mk (@List.toArray UInt8 x5)))) x3))) x4)) (k_cat_UInt8 (@Array.toList UInt8 (ByteArray.data x1)) (@Array.toList UInt8 (ByteArray.data x2))))) (λ_ _ _=>none) (λ_ _ _=>none) (λ_ _ _=>none) (λ_ _ _=>none) (λ_ _ _=>none) (λ_ _ _=>none) (λ_ _ _=>none) (λ_ _ _=>none) (λ_ _ _=>none) (λ_ _ _=>none) (λx1 x2 x3=>(k_retB x3 (k_bytesEq (@Array.toList UInt8 (ByteArray.data x1)) (@Array.toList UInt8 (ByteArray.data x2))))) (λx1 x2 x3=>(k_retB x3 (@Bool.rec (λ_=>Bool) Bool.true Bool.false (k_bytesEq (@Array.toList UInt8 (ByteArray.data x1)) (@Array.toList UInt8 (ByteArray.data x2)))))) (λ_ _ _=>none) (λ_ _ _=>none) (λ_ _ _=>none) (λ_ _ _=>none) x0))
theorem l215_eq : ∀ x0 x1 x2 x3, (Eq (l215 x0 x1 x2 x3) (@binS._sparseCasesOn_1 (λ_=>t4) x0 (@Option.rec t394 (λ_=>t4) none (λx4=>((λx5=>(k_ifT_Ret (Nat.ble (k_lenB x5) (nat_lit 8388608)) (k_ok1 (CV.val (Value.string (ByteArray.mk (@List.toArray UInt8 x5)))) x3))) x4)) (k_cat_UInt8 (@Array.toList UInt8 (ByteArray.data x1)) (@Array.toList UInt8 (ByteArray.data x2)))) (k_retB x3 (k_bytesEq (@Array.toList UInt8 (ByteArray.data x1)) (@Array.toList UInt8 (ByteArray.data x2)))) (k_retB x3 (@Bool.rec (λ_=>Bool) Bool.true Bool.false (k_bytesEq (@Array.toList UInt8 (ByteArray.data x1)) (@Array.toList UInt8 (ByteArray.data x2))))) (λ_=>none))) := by intro t; cases t <;> (intros; rfl)
def k_binS : t594 := (λx0 x1 x2 x3=>(l215 x0 x1 x2 x3))
theorem k_binS_eq : @k_binS = binS := by
  delta k_binS binS
  simp only [l215_eq]
  rw [k_retB_eq, k_bytesEq_eq, k_cat_UInt8_eq, k_ifT_Ret_eq, k_ok1_eq, k_lenB_eq]
  all_goals kernel_rfl

abbrev t595:=Value → t587
def l214 : t595 := (λx0=>(@Value.rec (λ_=>t587) (λ_=>PUnit.{1}) (λ_=>PUnit.{1}) (λ_ x2 x3 x4 x5 x6 x7 x8=>(l213 x2 x3 x4 x5 x6 x7 x8)) (λ_ _ x3 x4 x5 x6 x7 x8 x9=>(l213 x3 x4 x5 x6 x7 x8 x9)) (λ_ _ x3 x4 x5 x6 x7 x8 x9=>(l213 x3 x4 x5 x6 x7 x8 x9)) (λ_ _ _ x4 x5 x6 x7 x8 x9 x10=>(l213 x4 x5 x6 x7 x8 x9 x10)) (λx1 _ _ x4 _ x6 x7 _=>(k_binS x4 x7 x1 x6)) (λ_ x2 x3 x4 x5 x6 x7 x8=>(l213 x2 x3 x4 x5 x6 x7 x8)) (λ_ _ _ x4 x5 x6 x7 x8 x9 x10=>(l213 x4 x5 x6 x7 x8 x9 x10)) (λ_ x2 x3 x4 x5 x6 x7 x8=>(l213 x2 x3 x4 x5 x6 x7 x8)) (λ_ x2 x3 x4 x5 x6 x7 x8=>(l213 x2 x3 x4 x5 x6 x7 x8)) (λ_ _ _ _ _ x6 x7 x8 x9 x10 x11 x12=>(l213 x6 x7 x8 x9 x10 x11 x12)) (λx1 x2 x3 x4 x5 x6 x7=>(l213 x1 x2 x3 x4 x5 x6 x7)) (λ_ _ _ x4 x5 x6 x7 x8 x9 x10=>(l213 x4 x5 x6 x7 x8 x9 x10)) (λx1 x2 x3 x4 x5 x6 x7=>(l213 x1 x2 x3 x4 x5 x6 x7)) (λ_ _ x3 x4 x5 x6 x7 x8 x9=>(l213 x3 x4 x5 x6 x7 x8 x9)) (λ_ _ x3 x4 x5 x6 x7 x8 x9=>(l213 x3 x4 x5 x6 x7 x8 x9)) (λ_ _=>PUnit.unit.{1}) PUnit.unit.{1} (λ_ _ _ _=>PUnit.unit.{1}) x0))
theorem l214_eq : ∀ x0 x1 x2 x3 x4 x5 x6 x7, (Eq (l214 x0 x1 x2 x3 x4 x5 x6 x7) (@eqK._sparseCasesOn_4 (λ_=>t4) x0 (λx8=>(k_binS x3 x6 x8 x5)) (λ_=>(l213 x1 x2 x3 x4 x5 x6 x7)))) := by intro t; cases t <;> (intros; rfl)
abbrev t596:=CV → t581
def l216 : t596 := (λx0=>(@CV.rec (λ_=>t581) (λ_=>PUnit.{1}) (λx1 x2 x3 x4 x5 x6 x7=>(l212 x1 x2 x3 x4 x5 x6 x7)) (λx1 x2 x3 x4 x5 _ x7 x8=>(l214 x1 x2 x3 x4 x5 x7 x8 x1)) (λ_ _ x3 x4 x5 x6 x7 x8 x9=>(l212 x3 x4 x5 x6 x7 x8 x9)) (λ_ _ _ _ _ x6 x7 x8 x9 x10 x11 x12=>(l212 x6 x7 x8 x9 x10 x11 x12)) (λx1 x2 x3 x4 x5 x6 x7=>(l212 x1 x2 x3 x4 x5 x6 x7)) (λ_ x2 x3 x4 x5 x6 x7 x8=>(l212 x2 x3 x4 x5 x6 x7 x8)) (λ_ _ x3 x4 x5 x6 x7 x8 x9=>(l212 x3 x4 x5 x6 x7 x8 x9)) (λ_ _ x3 x4 x5 x6 x7 x8 x9=>(l212 x3 x4 x5 x6 x7 x8 x9)) (λ_ _ _ _ _ x6 x7 x8 x9 x10 x11 x12=>(l212 x6 x7 x8 x9 x10 x11 x12)) (λ_ x2 x3 x4 x5 x6 x7 x8=>(l212 x2 x3 x4 x5 x6 x7 x8)) (λ_ _ _ x4 x5 x6 x7 x8 x9 x10=>(l212 x4 x5 x6 x7 x8 x9 x10)) PUnit.unit.{1} (λ_ _ _ _=>PUnit.unit.{1}) x0))
theorem l216_eq : ∀ x0 x1 x2 x3 x4 x5 x6 x7, (Eq (l216 x0 x1 x2 x3 x4 x5 x6 x7) (@natOf._sparseCasesOn_1 (λ_=>t4) x0 (λx8=>(l214 x8 x1 x2 x3 x4 x6 x7 x8)) (λ_=>(l212 x1 x2 x3 x4 x5 x6 x7)))) := by intro t; cases t <;> (intros; rfl)
abbrev t597:=Value → t543
def l217 : t597 := (λx0=>(@Value.rec (λ_=>t543) (λ_=>PUnit.{1}) (λ_=>PUnit.{1}) (λ_ x2 x3 x4 x5 x6 x7 x8=>(l201 x2 x3 x4 x5 x6 x7 x8)) (λx1 x2 x3 x4 x5 x6 x7 x8 _=>(l211 x7 x3 x4 x5 x6 x7 x8 x1 x2)) (λ_ _ x3 x4 x5 x6 x7 x8 x9=>(l201 x3 x4 x5 x6 x7 x8 x9)) (λ_ _ _ x4 x5 x6 x7 x8 x9 x10=>(l201 x4 x5 x6 x7 x8 x9 x10)) (λx1 x2 x3 x4 x5 x6 x7 _=>(l216 x6 x2 x3 x4 x5 x6 x7 x1)) (λ_ x2 x3 x4 x5 x6 x7 x8=>(l201 x2 x3 x4 x5 x6 x7 x8)) (λ_ _ _ x4 x5 x6 x7 x8 x9 x10=>(l201 x4 x5 x6 x7 x8 x9 x10)) (λ_ x2 x3 x4 x5 x6 x7 x8=>(l201 x2 x3 x4 x5 x6 x7 x8)) (λ_ x2 x3 x4 x5 x6 x7 x8=>(l201 x2 x3 x4 x5 x6 x7 x8)) (λ_ _ _ _ _ x6 x7 x8 x9 x10 x11 x12=>(l201 x6 x7 x8 x9 x10 x11 x12)) (λx1 x2 x3 x4 x5 x6 x7=>(l201 x1 x2 x3 x4 x5 x6 x7)) (λ_ _ _ x4 x5 x6 x7 x8 x9 x10=>(l201 x4 x5 x6 x7 x8 x9 x10)) (λx1 x2 x3 x4 x5 x6 x7=>(l201 x1 x2 x3 x4 x5 x6 x7)) (λ_ _ x3 x4 x5 x6 x7 x8 x9=>(l201 x3 x4 x5 x6 x7 x8 x9)) (λ_ _ x3 x4 x5 x6 x7 x8 x9=>(l201 x3 x4 x5 x6 x7 x8 x9)) (λ_ _=>PUnit.unit.{1}) PUnit.unit.{1} (λ_ _ _ _=>PUnit.unit.{1}) x0))
theorem l217_eq : ∀ x0 x1 x2 x3 x4 x5 x6 x7, (Eq (l217 x0 x1 x2 x3 x4 x5 x6 x7) (@binV._sparseCasesOn_1 (λ_=>t4) x0 (λx8 x9=>(l211 x5 x1 x2 x3 x4 x5 x6 x8 x9)) (λx8=>(l216 x5 x1 x2 x3 x4 x5 x6 x8)) (λ_=>(l201 x1 x2 x3 x4 x5 x6 x7)))) := by intro t; cases t <;> (intros; rfl)
abbrev t598:=S → t252
abbrev t599:=CV → t598
abbrev t600:=TypeId → t599
abbrev t601:=BinOp → t600
abbrev t602:=Bool → t601
abbrev t603:=Program → t602
def l218 : t603 := (λx0 x1 x2 x3 x4 x5 x6=>(k_binO x0 x1 x2 x3 (CV.agg x6) x4 x5))
theorem l218_eq : ∀ x0 x1 x2 x3 x4 x5 x6, (Eq (l218 x0 x1 x2 x3 x4 x5 x6) (k_binO x0 x1 x2 x3 (CV.agg x6) x4 x5)) := by intros; rfl
abbrev t604:=List Int
abbrev t605:=t604 → Bool
def l221 : t605 := (λx0=>(@List.rec Int (λ_=>Bool) Bool.true (λ_ _ _=>Bool.false) x0))
theorem l221_eq : ∀ x0, (Eq (l221 x0) (@bytesEq._sparseCasesOn_1 Int (λ_=>Bool) x0 Bool.true (λ_=>Bool.false))) := by intro t; cases t <;> (intros; rfl)
abbrev t606:=t605 → Bool
abbrev t607:=Int → t606
abbrev t608:=t604 → t607
def l222 : t608 := (λx0=>(@List.rec Int (λ_=>t607) (λ_ _=>Bool.false) (λx1 x2 _ x4 x5=>(@Bool.rec (λ_=>Bool) Bool.false (x5 x2) (k_iEq x4 x1))) x0))
theorem l222_eq : ∀ x0 x1 x2, (Eq (l222 x0 x1 x2) (@bytesEq._sparseCasesOn_2 Int (λ_=>Bool) x0 (λx3 x4=>(@Bool.rec (λ_=>Bool) Bool.false (x2 x4) (k_iEq x1 x3))) (λ_=>Bool.false))) := by intro t; cases t <;> (intros; rfl)
abbrev t609:=t604 → t605
def k_eqInts' : t609 := (λx0 x1=>(@List.rec Int (λ_=>t605) (λx2=>(l221 x2)) (λx2 _ x4 x5=>(l222 x5 x2 x4)) x0 x1))
theorem k_eqInts'_law : ∀ x0 x1, (Eq (k_eqInts' x0 x1) (eqInts' x0 x1)) := by
  intro t
  induction t with
  | nil  =>
    intro z0
    show ((fun (x0 : t604) => (l221 x0)) z0) = _
    conv => rhs; rw [Ev.eqInts'.eq_def]
    try simp only [l221_eq]
    all_goals kernel_rfl
  | cons y0 y1 ih0 =>
    intro z0
    have e0 : (fun (x0 : t604) => (k_eqInts' y1 x0)) = (fun (x0 : t604) => (eqInts' y1 x0)) := by
      funext z0; exact ih0 z0
    show ((fun (x0 : Int) (_ : t604) (x2 : t605) (x3 : t604) => (l222 x3 x0 x2)) y0 y1 (fun (x0 : t604) => (k_eqInts' y1 x0)) z0) = _
    rw [e0]
    conv => rhs; rw [Ev.eqInts'.eq_def]
    try simp only [l222_eq]
    try rw [k_iEq_eq]
    all_goals kernel_rfl
theorem k_eqInts'_eq : @k_eqInts' = eqInts' := by
  funext a0 a1; exact k_eqInts'_law a0 a1
abbrev t610:=t604 → t4
abbrev t611:=t604 → t610
abbrev t612:=S → t611
abbrev t613:=BinOp → t612
def l220 : t613 := (λx0=>(@BinOp.rec (λ_=>t612) (λ_ _ _=>none) (λ_ _ _=>none) (λ_ _ _=>none) (λ_ _ _=>none) (λ_ _ _=>none) (λ_ _ _=>none) (λ_ _ _=>none) (λ_ _ _=>none) (λ_ _ _=>none) (λ_ _ _=>none) (λ_ _ _=>none) (λx1 x2 x3=>(k_retB x1 (k_eqInts' x2 x3))) (λx1 x2 x3=>(k_retB x1 (@Bool.rec (λ_=>Bool) Bool.true Bool.false (k_eqInts' x2 x3)))) (λ_ _ _=>none) (λ_ _ _=>none) (λ_ _ _=>none) (λ_ _ _=>none) x0))
theorem l220_eq : ∀ x0 x1 x2 x3, (Eq (l220 x0 x1 x2 x3) (@binA._sparseCasesOn_1 (λ_=>t4) x0 (k_retB x1 (k_eqInts' x2 x3)) (k_retB x1 (@Bool.rec (λ_=>Bool) Bool.true Bool.false (k_eqInts' x2 x3))) (λ_=>none))) := by intro t; cases t <;> (intros; rfl)
abbrev t614:=Option t604
abbrev t615:=S → t610
abbrev t616:=TypeId → t615
abbrev t617:=BinOp → t616
abbrev t618:=Program → t617
abbrev t619:=t614 → t618
def l223 : t619 := (λx0=>(@Option.rec t604 (λ_=>t618) (λ_ _ _ _ _=>none) (λx1 x2 x3 x4 x5 x6=>(k_ifT_Ret (@Bool.rec (λ_=>Bool) Bool.false (Nat.beq (@List.length Int x6) (@List.length Int x1)) (eqInts x2 x4 (@List.length Int x6))) (l220 x3 x5 x6 x1))) x0))
theorem l223_eq : ∀ x0 x1 x2 x3 x4 x5, (Eq (l223 x0 x1 x2 x3 x4 x5) (@elInfo._sparseCasesOn_3 t604 (λ_=>t4) x0 (λx6=>(k_ifT_Ret (@Bool.rec (λ_=>Bool) Bool.false (Nat.beq (@List.length Int x5) (@List.length Int x6)) (eqInts x1 x3 (@List.length Int x5))) (l220 x2 x4 x5 x6))) (λ_=>none))) := by intro t; cases t <;> (intros; rfl)
abbrev t620:=Int → t614
abbrev t621:=t614 → t620
abbrev t622:=IntKind → t621
def l225 : t622 := (λx0=>(@IntKind.rec (λ_=>t621) (λ_ _=>none) (λ_ _=>none) (λ_ _=>none) (λx1 x2=>(@Option.rec t604 (λ_=>t614) none (λx3=>(some (x2 :: x3))) x1)) (λ_ _=>none) (λ_ _=>none) (λ_ _=>none) (λ_ _=>none) x0))
theorem l225_eq : ∀ x0 x1 x2, (Eq (l225 x0 x1 x2) (@kEq._sparseCasesOn_4 (λ_=>t614) x0 (@Option.rec t604 (λ_=>t614) none (λx3=>(some (x2 :: x3))) x1) (λ_=>none))) := by intro t; cases t <;> (intros; rfl)
abbrev t623:=t614 → t614
abbrev t624:=Value → t623
def l226 : t624 := (λx0=>(@Value.rec (λ_=>t623) (λ_=>PUnit.{1}) (λ_=>PUnit.{1}) (λ_ _=>none) (λx1 x2 x3=>(l225 x1 x3 x2)) (λ_ _ _=>none) (λ_ _ _ _=>none) (λ_ _=>none) (λ_ _=>none) (λ_ _ _ _=>none) (λ_ _=>none) (λ_ _=>none) (λ_ _ _ _ _ _=>none) (λ_=>none) (λ_ _ _ _=>none) (λ_=>none) (λ_ _ _=>none) (λ_ _ _=>none) (λ_ _=>PUnit.unit.{1}) PUnit.unit.{1} (λ_ _ _ _=>PUnit.unit.{1}) x0))
theorem l226_eq : ∀ x0 x1, (Eq (l226 x0 x1) (@eqV._sparseCasesOn_5 (λ_=>t614) x0 (λx2 x3=>(l225 x2 x1 x3)) (λ_=>none))) := by intro t; cases t <;> (intros; rfl)
abbrev t625:=CV → t623
def l227 : t625 := (λx0=>(@CV.rec (λ_=>t623) (λ_=>PUnit.{1}) (λ_=>none) (λx1 x2=>(l226 x1 x2)) (λ_ _ _=>none) (λ_ _ _ _ _ _=>none) (λ_=>none) (λ_ _=>none) (λ_ _ _=>none) (λ_ _ _=>none) (λ_ _ _ _ _ _=>none) (λ_ _=>none) (λ_ _ _ _=>none) PUnit.unit.{1} (λ_ _ _ _=>PUnit.unit.{1}) x0))
theorem l227_eq : ∀ x0 x1, (Eq (l227 x0 x1) (@eqV._sparseCasesOn_3 (λ_=>t614) x0 (λx2=>(l226 x2 x1)) (λ_=>none))) := by intro t; cases t <;> (intros; rfl)
abbrev t626:=t7 → t614
def k_intsOf : t626 := (λx0=>(@List.rec CV (λ_=>t614) (some []) (λx1 _ x3=>(l227 x1 x3)) x0))
theorem k_intsOf_law : ∀ x0, (Eq (k_intsOf x0) (intsOf x0)) := by
  intro t
  induction t with
  | nil  =>
    show (some []) = _
    conv => rhs; rw [Ev.intsOf.eq_def]
    all_goals kernel_rfl
  | cons y0 y1 ih0 =>
    have e0 : (k_intsOf y1) = (intsOf y1) := by
      exact ih0
    show ((fun (x0 : CV) (_ : t7) (x2 : t614) => (l227 x0 x2)) y0 y1 (k_intsOf y1)) = _
    rw [e0]
    conv => rhs; rw [Ev.intsOf.eq_def]
    try simp only [l226_eq, l225_eq, l227_eq]
    all_goals kernel_rfl
theorem k_intsOf_eq : @k_intsOf = intsOf := by
  funext a0; exact k_intsOf_law a0
abbrev t627:=TypeId → t9
abbrev t628:=BinOp → t627
abbrev t629:=Program → t628
abbrev t630:=t614 → t629
def l224 : t630 := (λx0=>(@Option.rec t604 (λ_=>t629) (λ_ _ _ _ _=>none) (λx1 x2 x3 x4 x5 x6=>(l223 (k_intsOf x5) x2 x3 x4 x6 x1)) x0))
theorem l224_eq : ∀ x0 x1 x2 x3 x4 x5, (Eq (l224 x0 x1 x2 x3 x4 x5) (@elInfo._sparseCasesOn_3 t604 (λ_=>t4) x0 (λx6=>(l223 (k_intsOf x4) x1 x2 x3 x5 x6)) (λ_=>none))) := by intro t; cases t <;> (intros; rfl)
abbrev t631:=t7 → t9
abbrev t632:=TypeId → t631
abbrev t633:=BinOp → t632
abbrev t634:=Program → t633
def k_binA : t634 := (λx0 x1 x2 x3 x4 x5=>(l224 (k_intsOf x3) x0 x1 x2 x4 x5))
theorem k_binA_eq : @k_binA = binA := by
  delta k_binA binA
  simp only [l223_eq, l224_eq, l220_eq]
  rw [k_intsOf_eq, k_retB_eq, k_eqInts'_eq, k_ifT_Ret_eq]
  all_goals kernel_rfl

abbrev t635:=CV → t603
def l219 : t635 := (λx0=>(@CV.rec (λ_=>t603) (λ_=>PUnit.{1}) (λx1 x2 x3 x4 x5 x6 x7=>(l218 x1 x2 x3 x4 x5 x6 x7)) (λ_ x2 x3 x4 x5 x6 x7 x8=>(l218 x2 x3 x4 x5 x6 x7 x8)) (λ_ _ x3 x4 x5 x6 x7 x8 x9=>(l218 x3 x4 x5 x6 x7 x8 x9)) (λ_ _ _ _ _ x6 x7 x8 x9 x10 x11 x12=>(l218 x6 x7 x8 x9 x10 x11 x12)) (λx1 x2 x3 x4 x5 x6 x7=>(l218 x1 x2 x3 x4 x5 x6 x7)) (λ_ x2 x3 x4 x5 x6 x7 x8=>(l218 x2 x3 x4 x5 x6 x7 x8)) (λx1 _ x3 _ x5 x6 _ x8 x9=>(k_binA x3 x5 x6 x9 x1 x8)) (λ_ _ x3 x4 x5 x6 x7 x8 x9=>(l218 x3 x4 x5 x6 x7 x8 x9)) (λ_ _ _ _ _ x6 x7 x8 x9 x10 x11 x12=>(l218 x6 x7 x8 x9 x10 x11 x12)) (λ_ x2 x3 x4 x5 x6 x7 x8=>(l218 x2 x3 x4 x5 x6 x7 x8)) (λ_ _ _ x4 x5 x6 x7 x8 x9 x10=>(l218 x4 x5 x6 x7 x8 x9 x10)) PUnit.unit.{1} (λ_ _ _ _=>PUnit.unit.{1}) x0))
theorem l219_eq : ∀ x0 x1 x2 x3 x4 x5 x6 x7, (Eq (l219 x0 x1 x2 x3 x4 x5 x6 x7) (@binV._sparseCasesOn_2 (λ_=>t4) x0 (λx8=>(k_binA x1 x3 x4 x7 x8 x6)) (λ_=>(l218 x1 x2 x3 x4 x5 x6 x7)))) := by intro t; cases t <;> (intros; rfl)
abbrev t636:=CV → t536
def l228 : t636 := (λx0=>(@CV.rec (λ_=>t536) (λ_=>PUnit.{1}) (λx1 x2 x3 x4 x5 x6 x7=>(l145 x1 x2 x3 x4 x5 x6 x7)) (λx1 x2 x3 x4 x5 _ x7 x8=>(l217 x1 x2 x3 x4 x5 x7 x8 x1)) (λ_ _ x3 x4 x5 x6 x7 x8 x9=>(l145 x3 x4 x5 x6 x7 x8 x9)) (λ_ _ _ _ _ x6 x7 x8 x9 x10 x11 x12=>(l145 x6 x7 x8 x9 x10 x11 x12)) (λx1 x2 x3 x4 x5 x6 x7=>(l145 x1 x2 x3 x4 x5 x6 x7)) (λ_ x2 x3 x4 x5 x6 x7 x8=>(l145 x2 x3 x4 x5 x6 x7 x8)) (λx1 _ x3 x4 x5 x6 _ x8 x9=>(l219 x8 x3 x4 x5 x6 x8 x9 x1)) (λ_ _ x3 x4 x5 x6 x7 x8 x9=>(l145 x3 x4 x5 x6 x7 x8 x9)) (λ_ _ _ _ _ x6 x7 x8 x9 x10 x11 x12=>(l145 x6 x7 x8 x9 x10 x11 x12)) (λ_ x2 x3 x4 x5 x6 x7 x8=>(l145 x2 x3 x4 x5 x6 x7 x8)) (λ_ _ _ x4 x5 x6 x7 x8 x9 x10=>(l145 x4 x5 x6 x7 x8 x9 x10)) PUnit.unit.{1} (λ_ _ _ _=>PUnit.unit.{1}) x0))
theorem l228_eq : ∀ x0 x1 x2 x3 x4 x5 x6 x7, (Eq (l228 x0 x1 x2 x3 x4 x5 x6 x7) (@toVal._sparseCasesOn_1 (λ_=>t4) x0 (λx8=>(l217 x8 x1 x2 x3 x4 x6 x7 x8)) (λx8=>(l219 x6 x1 x2 x3 x4 x6 x7 x8)) (λ_=>(l145 x1 x2 x3 x4 x5 x6 x7)))) := by intro t; cases t <;> (intros; rfl)
def k_binV : t536 := (λx0 x1 x2 x3 x4 x5 x6=>(l228 x4 x0 x1 x2 x3 x4 x5 x6))
theorem k_binV_eq : @k_binV = binV := by
  delta k_binV binV
  simp only [l214_eq, l203_eq, l211_eq, l213_eq, l145_eq, l212_eq, l217_eq, l228_eq, l204_eq, l219_eq, l218_eq, l202_eq, l201_eq, l216_eq]
  rw [k_binO_eq, k_binI_eq, k_binS_eq, k_binA_eq]
  all_goals kernel_rfl

abbrev t637:=Operand → t20
abbrev t638:=Operand → t637
abbrev t639:=TypeId → t638
abbrev t640:=BinOp → t639
abbrev t641:=Program → t640
abbrev t642:=t81 → t641
def l144 : t642 := (λx0=>(@Option.rec CV (λ_=>t641) (λ_ _ _ _ _ _ _=>none) (λx1 x2 x3 x4 x5 x6 x7 x8=>(k_binV x2 (@Bool.rec (λ_=>Bool) (Region.isConst x6) Bool.true (Region.isConst x5)) x3 x4 x8 x1 x7)) x0))
theorem l144_eq : ∀ x0 x1 x2 x3 x4 x5 x6 x7, (Eq (l144 x0 x1 x2 x3 x4 x5 x6 x7) (@elInfo._sparseCasesOn_3 CV (λ_=>t4) x0 (λx8=>(k_binV x1 (@Bool.rec (λ_=>Bool) (Region.isConst x5) Bool.true (Region.isConst x4)) x2 x3 x7 x8 x6)) (λ_=>none))) := by intro t; cases t <;> (intros; rfl)
abbrev t643:=BinOp → t485
abbrev t644:=t14 → t643
abbrev t645:=Program → t644
abbrev t646:=t81 → t645
def l229 : t646 := (λx0=>(@Option.rec CV (λ_=>t645) (λ_ _ _ _ _ _ _=>none) (λx1 x2 x3 x4 x5 x6 x7 x8=>(l144 (k_ev x3 x7) x2 x4 x5 x6 x7 x8 x1)) x0))
theorem l229_eq : ∀ x0 x1 x2 x3 x4 x5 x6 x7, (Eq (l229 x0 x1 x2 x3 x4 x5 x6 x7) (@elInfo._sparseCasesOn_3 CV (λ_=>t4) x0 (λx8=>(l144 (k_ev x2 x6) x1 x3 x4 x5 x6 x7 x8)) (λ_=>none))) := by intro t; cases t <;> (intros; rfl)
def k_o_binOp : t645 := (λx0 x1 x2 x3 x4 x5 x6=>(l229 (k_ev x1 x4) x0 x1 x2 x3 x4 x5 x6))
theorem k_o_binOp_eq : @k_o_binOp = o_binOp := by
  delta k_o_binOp o_binOp
  simp only [l144_eq, l229_eq]
  rw [k_ev_eq, k_binV_eq]
  all_goals kernel_rfl

abbrev t647:=Value → t8
def l230 : t647 := (λx0=>(@Value.rec (λ_=>t8) (λ_=>PUnit.{1}) (λ_=>PUnit.{1}) (λx1 x2=>(k_retB x2 (@Bool.rec (λ_=>Bool) Bool.true Bool.false x1))) (λ_ _ _=>none) (λ_ _ _=>none) (λ_ _ _ _=>none) (λ_ _=>none) (λ_ _=>none) (λ_ _ _ _=>none) (λ_ _=>none) (λ_ _=>none) (λ_ _ _ _ _ _=>none) (λ_=>none) (λ_ _ _ _=>none) (λ_=>none) (λ_ _ _=>none) (λ_ _ _=>none) (λ_ _=>PUnit.unit.{1}) PUnit.unit.{1} (λ_ _ _ _=>PUnit.unit.{1}) x0))
theorem l230_eq : ∀ x0 x1, (Eq (l230 x0 x1) (@eqK._sparseCasesOn_3 (λ_=>t4) x0 (λx2=>(k_retB x1 (@Bool.rec (λ_=>Bool) Bool.true Bool.false x2))) (λ_=>none))) := by intro t; cases t <;> (intros; rfl)
def l231 : t186 := (λx0=>(@CV.rec (λ_=>t8) (λ_=>PUnit.{1}) (λ_=>none) (λx1 x2=>(l230 x1 x2)) (λ_ _ _=>none) (λ_ _ _ _ _ _=>none) (λ_=>none) (λ_ _=>none) (λ_ _ _=>none) (λ_ _ _=>none) (λ_ _ _ _ _ _=>none) (λ_ _=>none) (λ_ _ _ _=>none) PUnit.unit.{1} (λ_ _ _ _=>PUnit.unit.{1}) x0))
theorem l231_eq : ∀ x0 x1, (Eq (l231 x0 x1) (@natOf._sparseCasesOn_1 (λ_=>t4) x0 (λx2=>(l230 x2 x1)) (λ_=>none))) := by intro t; cases t <;> (intros; rfl)
def l232 : t101 := (λx0=>(@Option.rec CV (λ_=>t8) (λ_=>none) (λx1 x2=>(l231 x1 x2)) x0))
theorem l232_eq : ∀ x0 x1, (Eq (l232 x0 x1) (@elInfo._sparseCasesOn_3 CV (λ_=>t4) x0 (λx2=>(l231 x2 x1)) (λ_=>none))) := by intro t; cases t <;> (intros; rfl)
def l233 : t647 := (λx0=>(@Value.rec (λ_=>t8) (λ_=>PUnit.{1}) (λ_=>PUnit.{1}) (λ_ _=>none) (λx1 x2 x3=>(k_retI x3 x1 (IntKind.wrap x1 (Int.sub (nat_lit 0) x2)))) (λ_ _ _=>none) (λ_ _ _ _=>none) (λ_ _=>none) (λ_ _=>none) (λ_ _ _ _=>none) (λ_ _=>none) (λ_ _=>none) (λ_ _ _ _ _ _=>none) (λ_=>none) (λ_ _ _ _=>none) (λ_=>none) (λ_ _ _=>none) (λ_ _ _=>none) (λ_ _=>PUnit.unit.{1}) PUnit.unit.{1} (λ_ _ _ _=>PUnit.unit.{1}) x0))
theorem l233_eq : ∀ x0 x1, (Eq (l233 x0 x1) (@natOf._sparseCasesOn_2 (λ_=>t4) x0 (λx2 x3=>(k_retI x1 x2 (IntKind.wrap x2 (Int.sub (nat_lit 0) x3)))) (λ_=>none))) := by intro t; cases t <;> (intros; rfl)
def l234 : t186 := (λx0=>(@CV.rec (λ_=>t8) (λ_=>PUnit.{1}) (λ_=>none) (λx1 x2=>(l233 x1 x2)) (λ_ _ _=>none) (λ_ _ _ _ _ _=>none) (λ_=>none) (λ_ _=>none) (λ_ _ _=>none) (λ_ _ _=>none) (λ_ _ _ _ _ _=>none) (λ_ _=>none) (λ_ _ _ _=>none) PUnit.unit.{1} (λ_ _ _ _=>PUnit.unit.{1}) x0))
theorem l234_eq : ∀ x0 x1, (Eq (l234 x0 x1) (@natOf._sparseCasesOn_1 (λ_=>t4) x0 (λx2=>(l233 x2 x1)) (λ_=>none))) := by intro t; cases t <;> (intros; rfl)
def l235 : t101 := (λx0=>(@Option.rec CV (λ_=>t8) (λ_=>none) (λx1 x2=>(l234 x1 x2)) x0))
theorem l235_eq : ∀ x0 x1, (Eq (l235 x0 x1) (@elInfo._sparseCasesOn_3 CV (λ_=>t4) x0 (λx2=>(l234 x2 x1)) (λ_=>none))) := by intro t; cases t <;> (intros; rfl)
def l236 : t647 := (λx0=>(@Value.rec (λ_=>t8) (λ_=>PUnit.{1}) (λ_=>PUnit.{1}) (λ_ _=>none) (λx1 x2 x3=>(@Option.rec Int (λ_=>t4) none (λx4=>((λx5=>(k_retI x3 x1 x5)) x4)) (bitI BinOp.xor x1 (@Bool.rec (λ_=>Int) (IntKind.max x1) (Int.neg (nat_lit 1)) (IntKind.signed x1)) x2))) (λ_ _ _=>none) (λ_ _ _ _=>none) (λ_ _=>none) (λ_ _=>none) (λ_ _ _ _=>none) (λ_ _=>none) (λ_ _=>none) (λ_ _ _ _ _ _=>none) (λ_=>none) (λ_ _ _ _=>none) (λ_=>none) (λ_ _ _=>none) (λ_ _ _=>none) (λ_ _=>PUnit.unit.{1}) PUnit.unit.{1} (λ_ _ _ _=>PUnit.unit.{1}) x0))
theorem l236_eq : ∀ x0 x1, (Eq (l236 x0 x1) (@natOf._sparseCasesOn_2 (λ_=>t4) x0 (λx2 x3=>(@Option.rec Int (λ_=>t4) none (λx4=>((λx5=>(k_retI x1 x2 x5)) x4)) (bitI BinOp.xor x2 (@Bool.rec (λ_=>Int) (IntKind.max x2) (Int.neg (nat_lit 1)) (IntKind.signed x2)) x3))) (λ_=>none))) := by intro t; cases t <;> (intros; rfl)
def l237 : t186 := (λx0=>(@CV.rec (λ_=>t8) (λ_=>PUnit.{1}) (λ_=>none) (λx1 x2=>(l236 x1 x2)) (λ_ _ _=>none) (λ_ _ _ _ _ _=>none) (λ_=>none) (λ_ _=>none) (λ_ _ _=>none) (λ_ _ _=>none) (λ_ _ _ _ _ _=>none) (λ_ _=>none) (λ_ _ _ _=>none) PUnit.unit.{1} (λ_ _ _ _=>PUnit.unit.{1}) x0))
theorem l237_eq : ∀ x0 x1, (Eq (l237 x0 x1) (@natOf._sparseCasesOn_1 (λ_=>t4) x0 (λx2=>(l236 x2 x1)) (λ_=>none))) := by intro t; cases t <;> (intros; rfl)
def l238 : t101 := (λx0=>(@Option.rec CV (λ_=>t8) (λ_=>none) (λx1 x2=>(l237 x1 x2)) x0))
theorem l238_eq : ∀ x0 x1, (Eq (l238 x0 x1) (@elInfo._sparseCasesOn_3 CV (λ_=>t4) x0 (λx2=>(l237 x2 x1)) (λ_=>none))) := by intro t; cases t <;> (intros; rfl)
abbrev t648:=UnOp → t192
def l239 : t648 := (λx0=>(@UnOp.rec (λ_=>t192) (λx1 x2 x3=>(l235 (k_ev x1 x2) x3)) (λx1 x2 x3=>(l238 (k_ev x1 x2) x3)) (λx1 x2 x3=>(l232 (k_ev x1 x2) x3)) (λ_ _ _=>none) x0))
theorem l239_eq : ∀ x0 x1 x2 x3, (Eq (l239 x0 x1 x2 x3) (@o_unOp._sparseCasesOn_1 (λ_=>t4) x0 (l232 (k_ev x1 x2) x3) (l235 (k_ev x1 x2) x3) (l238 (k_ev x1 x2) x3) (λ_=>none))) := by intro t; cases t <;> (intros; rfl)
abbrev t649:=UnOp → t191
abbrev t650:=t14 → t649
abbrev t651:=Program → t650
def k_o_unOp : t651 := (λ_ x1 x2 x3 x4=>(l239 x2 x1 x3 x4))
theorem k_o_unOp_eq : @k_o_unOp = o_unOp := by
  delta k_o_unOp o_unOp
  simp only [l232_eq, l239_eq, l233_eq, l231_eq, l230_eq, l236_eq, l234_eq, l237_eq, l235_eq, l238_eq]
  rw [k_retB_eq, k_retI_eq, k_ev_eq]
  all_goals kernel_rfl

abbrev t652:=IntKind → t4
abbrev t653:=S → t652
abbrev t654:=Value → t653
def l240 : t654 := (λx0=>(@Value.rec (λ_=>t653) (λ_=>PUnit.{1}) (λ_=>PUnit.{1}) (λ_ _ _=>none) (λ_ x2 x3 x4=>(k_retI x3 x4 (IntKind.wrap x4 x2))) (λ_ _ _ _=>none) (λ_ _ _ _ _=>none) (λ_ _ _=>none) (λ_ _ _=>none) (λ_ _ _ _ _=>none) (λ_ _ _=>none) (λ_ _ _=>none) (λ_ _ _ _ _ _ _=>none) (λ_ _=>none) (λ_ _ _ _ _=>none) (λ_ _=>none) (λ_ _ _ _=>none) (λ_ _ _ _=>none) (λ_ _=>PUnit.unit.{1}) PUnit.unit.{1} (λ_ _ _ _=>PUnit.unit.{1}) x0))
theorem l240_eq : ∀ x0 x1 x2, (Eq (l240 x0 x1 x2) (@natOf._sparseCasesOn_2 (λ_=>t4) x0 (λ_ x4=>(k_retI x1 x2 (IntKind.wrap x2 x4))) (λ_=>none))) := by intro t; cases t <;> (intros; rfl)
abbrev t655:=CV → t653
def l241 : t655 := (λx0=>(@CV.rec (λ_=>t653) (λ_=>PUnit.{1}) (λ_ _=>none) (λx1 x2 x3=>(l240 x1 x2 x3)) (λ_ _ _ _=>none) (λ_ _ _ _ _ _ _=>none) (λ_ _=>none) (λ_ _ _=>none) (λ_ _ _ _=>none) (λ_ _ _ _=>none) (λ_ _ _ _ _ _ _=>none) (λ_ _ _=>none) (λ_ _ _ _ _=>none) PUnit.unit.{1} (λ_ _ _ _=>PUnit.unit.{1}) x0))
theorem l241_eq : ∀ x0 x1 x2, (Eq (l241 x0 x1 x2) (@natOf._sparseCasesOn_1 (λ_=>t4) x0 (λx3=>(l240 x3 x1 x2)) (λ_=>none))) := by intro t; cases t <;> (intros; rfl)
abbrev t656:=t81 → t653
def l242 : t656 := (λx0=>(@Option.rec CV (λ_=>t653) (λ_ _=>none) (λx1 x2 x3=>(l241 x1 x2 x3)) x0))
theorem l242_eq : ∀ x0 x1 x2, (Eq (l242 x0 x1 x2) (@elInfo._sparseCasesOn_3 CV (λ_=>t4) x0 (λx3=>(l241 x3 x1 x2)) (λ_=>none))) := by intro t; cases t <;> (intros; rfl)
def l243 : t561 := (λx0=>(@Int.rec (λ_=>t8) (λx1 x2=>(k_ifT_Ret (k_Nat_blt x1 (nat_lit 128)) (k_ok1 (CV.val (Value.string (ByteArray.mk (@List.toArray UInt8 ((UInt8.ofNat x1) :: []))))) x2))) (λ_ _=>none) x0))
theorem l243_eq : ∀ x0 x1, (Eq (l243 x0 x1) (@natOf._sparseCasesOn_4 (λ_=>t4) x0 (λx2=>(k_ifT_Ret (k_Nat_blt x2 (nat_lit 128)) (k_ok1 (CV.val (Value.string (ByteArray.mk (@List.toArray UInt8 ((UInt8.ofNat x2) :: []))))) x1))) (λ_=>none))) := by intro t; cases t <;> (intros; rfl)
def l244 : t647 := (λx0=>(@Value.rec (λ_=>t8) (λ_=>PUnit.{1}) (λ_=>PUnit.{1}) (λ_ _=>none) (λ_ x2 x3=>(l243 x2 x3)) (λ_ _ _=>none) (λ_ _ _ _=>none) (λ_ _=>none) (λ_ _=>none) (λ_ _ _ _=>none) (λ_ _=>none) (λ_ _=>none) (λ_ _ _ _ _ _=>none) (λ_=>none) (λ_ _ _ _=>none) (λ_=>none) (λ_ _ _=>none) (λ_ _ _=>none) (λ_ _=>PUnit.unit.{1}) PUnit.unit.{1} (λ_ _ _ _=>PUnit.unit.{1}) x0))
theorem l244_eq : ∀ x0 x1, (Eq (l244 x0 x1) (@natOf._sparseCasesOn_2 (λ_=>t4) x0 (λ_ x3=>(l243 x3 x1)) (λ_=>none))) := by intro t; cases t <;> (intros; rfl)
def l245 : t186 := (λx0=>(@CV.rec (λ_=>t8) (λ_=>PUnit.{1}) (λ_=>none) (λx1 x2=>(l244 x1 x2)) (λ_ _ _=>none) (λ_ _ _ _ _ _=>none) (λ_=>none) (λ_ _=>none) (λ_ _ _=>none) (λ_ _ _=>none) (λ_ _ _ _ _ _=>none) (λ_ _=>none) (λ_ _ _ _=>none) PUnit.unit.{1} (λ_ _ _ _=>PUnit.unit.{1}) x0))
theorem l245_eq : ∀ x0 x1, (Eq (l245 x0 x1) (@natOf._sparseCasesOn_1 (λ_=>t4) x0 (λx2=>(l244 x2 x1)) (λ_=>none))) := by intro t; cases t <;> (intros; rfl)
def l246 : t101 := (λx0=>(@Option.rec CV (λ_=>t8) (λ_=>none) (λx1 x2=>(l245 x1 x2)) x0))
theorem l246_eq : ∀ x0 x1, (Eq (l246 x0 x1) (@elInfo._sparseCasesOn_3 CV (λ_=>t4) x0 (λx2=>(l245 x2 x1)) (λ_=>none))) := by intro t; cases t <;> (intros; rfl)
abbrev t657:=TypeDesc → t192
def l247 : t657 := (λx0=>(@TypeDesc.rec (λ_=>t192) (λ_ _ _=>none) (λ_ _ _=>none) (λx1 x2 x3 x4=>(l242 (k_ev x2 x3) x4 x1)) (λ_ _ _ _=>none) (λ_ _ _ _=>none) (λx1 x2 x3=>(l246 (k_ev x1 x2) x3)) (λ_ _ _=>none) (λ_ _ _ _=>none) (λ_ _ _ _=>none) (λ_ _ _ _ _=>none) (λ_ _ _ _ _=>none) (λ_ _ _ _ _=>none) (λ_ _ _ _=>none) (λ_ _ _ _ _ _=>none) (λ_ _ _ _=>none) (λ_ _ _ _=>none) (λ_ _ _ _ _=>none) x0))
theorem l247_eq : ∀ x0 x1 x2 x3, (Eq (l247 x0 x1 x2 x3) (@o_convert._sparseCasesOn_3 (λ_=>t4) x0 (λx4=>(l242 (k_ev x1 x2) x3 x4)) (l246 (k_ev x1 x2) x3) (λ_=>none))) := by intro t; cases t <;> (intros; rfl)
abbrev t658:=t336 → t192
def l248 : t658 := (λx0=>(@Option.rec TypeDesc (λ_=>t192) (λ_ _ _=>none) (λx1 x2 x3 x4=>(l247 x1 x2 x3 x4)) x0))
theorem l248_eq : ∀ x0 x1 x2 x3, (Eq (l248 x0 x1 x2 x3) (@elInfo._sparseCasesOn_3 TypeDesc (λ_=>t4) x0 (λx4=>(l247 x4 x1 x2 x3)) (λ_=>none))) := by intro t; cases t <;> (intros; rfl)
def l249 : t647 := (λx0=>(@Value.rec (λ_=>t8) (λ_=>PUnit.{1}) (λ_=>PUnit.{1}) (λ_ _=>none) (λ_ _ _=>none) (λ_ _ _=>none) (λ_ _ _ _=>none) (λx1 x2=>(k_ok1 (CV.val (Value.string x1)) x2)) (λ_ _=>none) (λ_ _ _ _=>none) (λ_ _=>none) (λ_ _=>none) (λ_ _ _ _ _ _=>none) (λ_=>none) (λ_ _ _ _=>none) (λ_=>none) (λ_ _ _=>none) (λ_ _ _=>none) (λ_ _=>PUnit.unit.{1}) PUnit.unit.{1} (λ_ _ _ _=>PUnit.unit.{1}) x0))
theorem l249_eq : ∀ x0 x1, (Eq (l249 x0 x1) (@eqK._sparseCasesOn_4 (λ_=>t4) x0 (λx2=>(k_ok1 (CV.val (Value.string x2)) x1)) (λ_=>none))) := by intro t; cases t <;> (intros; rfl)
def l250 : t186 := (λx0=>(@CV.rec (λ_=>t8) (λ_=>PUnit.{1}) (λ_=>none) (λx1 x2=>(l249 x1 x2)) (λ_ _ _=>none) (λ_ _ _ _ _ _=>none) (λ_=>none) (λ_ _=>none) (λ_ _ _=>none) (λ_ _ _=>none) (λ_ _ _ _ _ _=>none) (λ_ _=>none) (λ_ _ _ _=>none) PUnit.unit.{1} (λ_ _ _ _=>PUnit.unit.{1}) x0))
theorem l250_eq : ∀ x0 x1, (Eq (l250 x0 x1) (@natOf._sparseCasesOn_1 (λ_=>t4) x0 (λx2=>(l249 x2 x1)) (λ_=>none))) := by intro t; cases t <;> (intros; rfl)
def l251 : t101 := (λx0=>(@Option.rec CV (λ_=>t8) (λ_=>none) (λx1 x2=>(l250 x1 x2)) x0))
theorem l251_eq : ∀ x0 x1, (Eq (l251 x0 x1) (@elInfo._sparseCasesOn_3 CV (λ_=>t4) x0 (λx2=>(l250 x2 x1)) (λ_=>none))) := by intro t; cases t <;> (intros; rfl)
def l252 : t657 := (λx0=>(@TypeDesc.rec (λ_=>t192) (λ_ _ _=>none) (λ_ _ _=>none) (λ_ _ _ _=>none) (λ_ _ _ _=>none) (λ_ _ _ _=>none) (λx1 x2 x3=>(l251 (k_ev x1 x2) x3)) (λ_ _ _=>none) (λ_ _ _ _=>none) (λ_ _ _ _=>none) (λ_ _ _ _ _=>none) (λ_ _ _ _ _=>none) (λ_ _ _ _ _=>none) (λ_ _ _ _=>none) (λ_ _ _ _ _ _=>none) (λ_ _ _ _=>none) (λ_ _ _ _=>none) (λ_ _ _ _ _=>none) x0))
theorem l252_eq : ∀ x0 x1 x2 x3, (Eq (l252 x0 x1 x2 x3) (@o_convert._sparseCasesOn_4 (λ_=>t4) x0 (l251 (k_ev x1 x2) x3) (λ_=>none))) := by intro t; cases t <;> (intros; rfl)
def l253 : t658 := (λx0=>(@Option.rec TypeDesc (λ_=>t192) (λ_ _ _=>none) (λx1 x2 x3 x4=>(l252 x1 x2 x3 x4)) x0))
theorem l253_eq : ∀ x0 x1 x2 x3, (Eq (l253 x0 x1 x2 x3) (@elInfo._sparseCasesOn_3 TypeDesc (λ_=>t4) x0 (λx4=>(l252 x4 x1 x2 x3)) (λ_=>none))) := by intro t; cases t <;> (intros; rfl)
abbrev t659:=TypeId → t47
abbrev t660:=S → t659
abbrev t661:=Program → t660
abbrev t662:=t497 → t661
def l254 : t662 := (λx0=>(@Option.rec Addr (λ_=>t661) (λx1 x2 x3 x4 x5=>(@dite ((λ_ _ _=>t4) (some (TypeDesc.slice x3)) (some TypeDesc.string) (some (CV.val (Value.slice none x4 x5)))) (Eq x4 (@OfNat.ofNat Nat (nat_lit 0) (instOfNatNat (nat_lit 0)))) (instDecidableEqNat x4 (@OfNat.ofNat Nat (nat_lit 0) (instOfNatNat (nat_lit 0)))) (@Eq.ndrec_symm Nat (@OfNat.ofNat Nat (nat_lit 0) (instOfNatNat (nat_lit 0))) (λx6=>((λ_ _ _=>t4) (some (TypeDesc.slice x3)) (some TypeDesc.string) (some (CV.val (Value.slice none x6 x5))))) (@dite ((λ_ _ _=>t4) (some (TypeDesc.slice x3)) (some TypeDesc.string) (some (CV.val (Value.slice none (@OfNat.ofNat Nat (nat_lit 0) (instOfNatNat (nat_lit 0))) x5)))) (Eq x5 (@OfNat.ofNat Nat (nat_lit 0) (instOfNatNat (nat_lit 0)))) (instDecidableEqNat x5 (@OfNat.ofNat Nat (nat_lit 0) (instOfNatNat (nat_lit 0)))) (@Eq.ndrec_symm Nat (@OfNat.ofNat Nat (nat_lit 0) (instOfNatNat (nat_lit 0))) (λx6=>((λ_ _ _=>t4) (some (TypeDesc.slice x3)) (some TypeDesc.string) (some (CV.val (Value.slice none (@OfNat.ofNat Nat (nat_lit 0) (instOfNatNat (nat_lit 0))) x6))))) ((λx6=>(o_convert.match_1 (λ_=>t4) (Program.underlying x1 x6) (λ_=>(ok1 (CV.val (Value.string (ByteArray.mk (@List.toArray UInt8 [])))) x2)) (λ_=>none))) x3) x5) (λ_=>((λ_ _ _=>none) (some (TypeDesc.slice x3)) (some TypeDesc.string) (some (CV.val (Value.slice none (@OfNat.ofNat Nat (nat_lit 0) (instOfNatNat (nat_lit 0))) x5)))))) x4) (λ_=>((λ_ _ _=>none) (some (TypeDesc.slice x3)) (some TypeDesc.string) (some (CV.val (Value.slice none x4 x5))))))) (λ_ _ _ _ _ _=>none) x0))
theorem l254_eq : ∀ x0 x1 x2 x3 x4 x5, (Eq (l254 x0 x1 x2 x3 x4 x5) (@sliceV._sparseCasesOn_7 Addr (λ_=>t4) x0 (@dite ((λ_ _ _=>t4) (some (TypeDesc.slice x3)) (some TypeDesc.string) (some (CV.val (Value.slice none x4 x5)))) (Eq x4 (@OfNat.ofNat Nat (nat_lit 0) (instOfNatNat (nat_lit 0)))) (instDecidableEqNat x4 (@OfNat.ofNat Nat (nat_lit 0) (instOfNatNat (nat_lit 0)))) (@Eq.ndrec_symm Nat (@OfNat.ofNat Nat (nat_lit 0) (instOfNatNat (nat_lit 0))) (λx6=>((λ_ _ _=>t4) (some (TypeDesc.slice x3)) (some TypeDesc.string) (some (CV.val (Value.slice none x6 x5))))) (@dite ((λ_ _ _=>t4) (some (TypeDesc.slice x3)) (some TypeDesc.string) (some (CV.val (Value.slice none (@OfNat.ofNat Nat (nat_lit 0) (instOfNatNat (nat_lit 0))) x5)))) (Eq x5 (@OfNat.ofNat Nat (nat_lit 0) (instOfNatNat (nat_lit 0)))) (instDecidableEqNat x5 (@OfNat.ofNat Nat (nat_lit 0) (instOfNatNat (nat_lit 0)))) (@Eq.ndrec_symm Nat (@OfNat.ofNat Nat (nat_lit 0) (instOfNatNat (nat_lit 0))) (λx6=>((λ_ _ _=>t4) (some (TypeDesc.slice x3)) (some TypeDesc.string) (some (CV.val (Value.slice none (@OfNat.ofNat Nat (nat_lit 0) (instOfNatNat (nat_lit 0))) x6))))) ((λx6=>(o_convert.match_1 (λ_=>t4) (Program.underlying x1 x6) (λ_=>(ok1 (CV.val (Value.string (ByteArray.mk (@List.toArray UInt8 [])))) x2)) (λ_=>none))) x3) x5) (λ_=>((λ_ _ _=>none) (some (TypeDesc.slice x3)) (some TypeDesc.string) (some (CV.val (Value.slice none (@OfNat.ofNat Nat (nat_lit 0) (instOfNatNat (nat_lit 0))) x5)))))) x4) (λ_=>((λ_ _ _=>none) (some (TypeDesc.slice x3)) (some TypeDesc.string) (some (CV.val (Value.slice none x4 x5)))))) (λ_=>none))) := by intro t; cases t <;> (intros; rfl)
abbrev t663:=Program → t321
abbrev t664:=Value → t663
def l255 : t664 := (λx0=>(@Value.rec (λ_=>t663) (λ_=>PUnit.{1}) (λ_=>PUnit.{1}) (λ_ _ _ _=>none) (λ_ _ _ _ _=>none) (λ_ _ _ _ _=>none) (λ_ _ _ _ _ _=>none) (λ_ _ _ _=>none) (λ_ _ _ _=>none) (λx1 x2 x3 x4 x5 x6=>(l254 x1 x4 x5 x6 x2 x3)) (λ_ _ _ _=>none) (λ_ _ _ _=>none) (λ_ _ _ _ _ _ _ _=>none) (λ_ _ _=>none) (λ_ _ _ _ _ _=>none) (λ_ _ _=>none) (λ_ _ _ _ _=>none) (λ_ _ _ _ _=>none) (λ_ _=>PUnit.unit.{1}) PUnit.unit.{1} (λ_ _ _ _=>PUnit.unit.{1}) x0))
theorem l255_eq : ∀ x0 x1 x2 x3, (Eq (l255 x0 x1 x2 x3) (@sliceV._sparseCasesOn_6 (λ_=>t4) x0 (λx4 x5 x6=>(l254 x4 x1 x2 x3 x5 x6)) (λ_=>none))) := by intro t; cases t <;> (intros; rfl)
abbrev t665:=Int → t589
abbrev t666:=t589 → t665
abbrev t667:=IntKind → t666
def l257 : t667 := (λx0=>(@IntKind.rec (λ_=>t666) (λ_ _=>none) (λ_ _=>none) (λ_ _=>none) (λ_ _=>none) (λx1 x2=>(@Option.rec t394 (λ_=>t589) none (λx3=>(some ((UInt8.ofNat (Int.toNat x2)) :: x3))) x1)) (λ_ _=>none) (λ_ _=>none) (λ_ _=>none) x0))
theorem l257_eq : ∀ x0 x1 x2, (Eq (l257 x0 x1 x2) (@bytesOf._sparseCasesOn_2 (λ_=>t589) x0 (@Option.rec t394 (λ_=>t589) none (λx3=>(some ((UInt8.ofNat (Int.toNat x2)) :: x3))) x1) (λ_=>none))) := by intro t; cases t <;> (intros; rfl)
abbrev t668:=t589 → t589
abbrev t669:=Value → t668
def l258 : t669 := (λx0=>(@Value.rec (λ_=>t668) (λ_=>PUnit.{1}) (λ_=>PUnit.{1}) (λ_ _=>none) (λx1 x2 x3=>(l257 x1 x3 x2)) (λ_ _ _=>none) (λ_ _ _ _=>none) (λ_ _=>none) (λ_ _=>none) (λ_ _ _ _=>none) (λ_ _=>none) (λ_ _=>none) (λ_ _ _ _ _ _=>none) (λ_=>none) (λ_ _ _ _=>none) (λ_=>none) (λ_ _ _=>none) (λ_ _ _=>none) (λ_ _=>PUnit.unit.{1}) PUnit.unit.{1} (λ_ _ _ _=>PUnit.unit.{1}) x0))
theorem l258_eq : ∀ x0 x1, (Eq (l258 x0 x1) (@natOf._sparseCasesOn_2 (λ_=>t589) x0 (λx2 x3=>(l257 x2 x1 x3)) (λ_=>none))) := by intro t; cases t <;> (intros; rfl)
abbrev t670:=CV → t668
def l259 : t670 := (λx0=>(@CV.rec (λ_=>t668) (λ_=>PUnit.{1}) (λ_=>none) (λx1 x2=>(l258 x1 x2)) (λ_ _ _=>none) (λ_ _ _ _ _ _=>none) (λ_=>none) (λ_ _=>none) (λ_ _ _=>none) (λ_ _ _=>none) (λ_ _ _ _ _ _=>none) (λ_ _=>none) (λ_ _ _ _=>none) PUnit.unit.{1} (λ_ _ _ _=>PUnit.unit.{1}) x0))
theorem l259_eq : ∀ x0 x1, (Eq (l259 x0 x1) (@natOf._sparseCasesOn_1 (λ_=>t589) x0 (λx2=>(l258 x2 x1)) (λ_=>none))) := by intro t; cases t <;> (intros; rfl)
abbrev t671:=t7 → t589
def k_bytesOf : t671 := (λx0=>(@List.rec CV (λ_=>t589) (some []) (λx1 _ x3=>(l259 x1 x3)) x0))
theorem k_bytesOf_law : ∀ x0, (Eq (k_bytesOf x0) (bytesOf x0)) := by
  intro t
  induction t with
  | nil  =>
    show (some []) = _
    conv => rhs; rw [Ev.bytesOf.eq_def]
    all_goals kernel_rfl
  | cons y0 y1 ih0 =>
    have e0 : (k_bytesOf y1) = (bytesOf y1) := by
      exact ih0
    show ((fun (x0 : CV) (_ : t7) (x2 : t589) => (l259 x0 x2)) y0 y1 (k_bytesOf y1)) = _
    rw [e0]
    conv => rhs; rw [Ev.bytesOf.eq_def]
    try simp only [l258_eq, l259_eq, l257_eq]
    all_goals kernel_rfl
theorem k_bytesOf_eq : @k_bytesOf = bytesOf := by
  funext a0; exact k_bytesOf_law a0
abbrev t672:=Nat → t48
abbrev t673:=S → t672
abbrev t674:=IntKind → t673
def l256 : t674 := (λx0=>(@IntKind.rec (λ_=>t673) (λ_ _ _ _ _=>none) (λ_ _ _ _ _=>none) (λ_ _ _ _ _=>none) (λ_ _ _ _ _=>none) (λx1 x2 x3 x4 x5=>(k_ifT_Ret (Nat.beq x5 (nat_lit 1)) (k_rdRow x1 x2 x3 x4 (λx6 x7=>(@Option.rec t394 (λ_=>t4) none (λx8=>((λx9=>(k_ok1 (CV.val (Value.string (ByteArray.mk (@List.toArray UInt8 x9)))) x7)) x8)) (k_bytesOf x6)))))) (λ_ _ _ _ _=>none) (λ_ _ _ _ _=>none) (λ_ _ _ _ _=>none) x0))
theorem l256_eq : ∀ x0 x1 x2 x3 x4 x5, (Eq (l256 x0 x1 x2 x3 x4 x5) (@bytesOf._sparseCasesOn_2 (λ_=>t4) x0 (k_ifT_Ret (Nat.beq x5 (nat_lit 1)) (k_rdRow x1 x2 x3 x4 (λx6 x7=>(@Option.rec t394 (λ_=>t4) none (λx8=>((λx9=>(k_ok1 (CV.val (Value.string (ByteArray.mk (@List.toArray UInt8 x9)))) x7)) x8)) (k_bytesOf x6))))) (λ_=>none))) := by intro t; cases t <;> (intros; rfl)
abbrev t675:=TypeDesc → t673
def l260 : t675 := (λx0=>(@TypeDesc.rec (λ_=>t673) (λ_ _ _ _ _=>none) (λ_ _ _ _ _=>none) (λx1 x2 x3 x4 x5 x6=>(l256 x1 x2 x3 x4 x5 x6)) (λ_ _ _ _ _ _=>none) (λ_ _ _ _ _ _=>none) (λ_ _ _ _ _=>none) (λ_ _ _ _ _=>none) (λ_ _ _ _ _ _=>none) (λ_ _ _ _ _ _=>none) (λ_ _ _ _ _ _ _=>none) (λ_ _ _ _ _ _ _=>none) (λ_ _ _ _ _ _ _=>none) (λ_ _ _ _ _ _=>none) (λ_ _ _ _ _ _ _ _=>none) (λ_ _ _ _ _ _=>none) (λ_ _ _ _ _ _=>none) (λ_ _ _ _ _ _ _=>none) x0))
theorem l260_eq : ∀ x0 x1 x2 x3 x4 x5, (Eq (l260 x0 x1 x2 x3 x4 x5) (@o_convert._sparseCasesOn_1 (λ_=>t4) x0 (λx6=>(l256 x6 x1 x2 x3 x4 x5)) (λ_=>none))) := by intro t; cases t <;> (intros; rfl)
abbrev t676:=t336 → t673
def l261 : t676 := (λx0=>(@Option.rec TypeDesc (λ_=>t673) (λ_ _ _ _ _=>none) (λx1 x2 x3 x4 x5 x6=>(l260 x1 x2 x3 x4 x5 x6)) x0))
theorem l261_eq : ∀ x0 x1 x2 x3 x4 x5, (Eq (l261 x0 x1 x2 x3 x4 x5) (@elInfo._sparseCasesOn_3 TypeDesc (λ_=>t4) x0 (λx6=>(l260 x6 x1 x2 x3 x4 x5)) (λ_=>none))) := by intro t; cases t <;> (intros; rfl)
abbrev t677:=CV → t663
def l262 : t677 := (λx0=>(@CV.rec (λ_=>t663) (λ_=>PUnit.{1}) (λ_ _ _=>none) (λx1 x2 x3 x4=>(l255 x1 x2 x3 x4)) (λ_ _ _ _ _=>none) (λx1 x2 x3 _ x5 x6 x7 x8=>(l261 (Program.underlying x6 x8) x7 x1 x2 x3 x5)) (λ_ _ _=>none) (λ_ _ _ _=>none) (λ_ _ _ _ _=>none) (λ_ _ _ _ _=>none) (λ_ _ _ _ _ _ _ _=>none) (λ_ _ _ _=>none) (λ_ _ _ _ _ _=>none) PUnit.unit.{1} (λ_ _ _ _=>PUnit.unit.{1}) x0))
theorem l262_eq : ∀ x0 x1 x2 x3, (Eq (l262 x0 x1 x2 x3) (@appendV._sparseCasesOn_2 (λ_=>t4) x0 (λx4=>(l255 x4 x1 x2 x3)) (λx4 x5 x6 _ x8=>(l261 (Program.underlying x1 x3) x2 x4 x5 x6 x8)) (λ_=>none))) := by intro t; cases t <;> (intros; rfl)
abbrev t678:=t81 → t663
def l263 : t678 := (λx0=>(@Option.rec CV (λ_=>t663) (λ_ _ _=>none) (λx1 x2 x3 x4=>(l262 x1 x2 x3 x4)) x0))
theorem l263_eq : ∀ x0 x1 x2 x3, (Eq (l263 x0 x1 x2 x3) (@elInfo._sparseCasesOn_3 CV (λ_=>t4) x0 (λx4=>(l262 x4 x1 x2 x3)) (λ_=>none))) := by intro t; cases t <;> (intros; rfl)
abbrev t679:=t14 → t454
abbrev t680:=Program → t679
abbrev t681:=TypeDesc → t680
def l264 : t681 := (λx0=>(@TypeDesc.rec (λ_=>t680) (λ_ _ _ _ _=>none) (λ_ _ _ _ _=>none) (λ_ _ _ _ _ _=>none) (λ_ _ _ _ _ _=>none) (λ_ _ _ _ _ _=>none) (λx1 x2 x3 x4 x5=>(l263 (k_ev x2 x3) x1 x4 x5)) (λ_ _ _ _ _=>none) (λ_ _ _ _ _ _=>none) (λ_ _ _ _ _ _=>none) (λ_ _ _ _ _ _ _=>none) (λ_ _ _ _ _ _ _=>none) (λ_ _ _ _ _ _ _=>none) (λ_ _ _ _ _ _=>none) (λ_ _ _ _ _ _ _ _=>none) (λ_ _ _ _ _ _=>none) (λ_ _ _ _ _ _=>none) (λ_ _ _ _ _ _ _=>none) x0))
theorem l264_eq : ∀ x0 x1 x2 x3 x4 x5, (Eq (l264 x0 x1 x2 x3 x4 x5) (@o_convert._sparseCasesOn_4 (λ_=>t4) x0 (l263 (k_ev x2 x3) x1 x4 x5) (λ_=>none))) := by intro t; cases t <;> (intros; rfl)
abbrev t682:=t336 → t680
def l265 : t682 := (λx0=>(@Option.rec TypeDesc (λ_=>t680) (λ_ _ _ _ _=>none) (λx1 x2 x3 x4 x5 x6=>(l264 x1 x2 x3 x4 x5 x6)) x0))
theorem l265_eq : ∀ x0 x1 x2 x3 x4 x5, (Eq (l265 x0 x1 x2 x3 x4 x5) (@elInfo._sparseCasesOn_3 TypeDesc (λ_=>t4) x0 (λx6=>(l264 x6 x1 x2 x3 x4 x5)) (λ_=>none))) := by intro t; cases t <;> (intros; rfl)
abbrev t683:=TypeDesc → t226
def l266 : t683 := (λx0=>(@TypeDesc.rec (λ_=>t226) (λ_ _ _ _ _=>none) (λ_ _ _ _ _=>none) (λ_ x2 x3 x4 x5 x6=>(l248 (Program.underlying x2 x4) x3 x5 x6)) (λ_ _ _ _ _ _=>none) (λ_ _ _ _ _ _=>none) (λx1 x2 x3 x4 x5=>(l253 (Program.underlying x1 x3) x2 x4 x5)) (λ_ _ _ _ _=>none) (λ_ _ _ _ _ _=>none) (λx1 x2 x3 x4 x5 x6=>(l265 (Program.underlying x2 x4) x2 x3 x5 x6 x1)) (λ_ _ _ _ _ _ _=>none) (λ_ _ _ _ _ _ _=>none) (λ_ _ _ _ _ _ _=>none) (λ_ _ _ _ _ _=>none) (λ_ _ _ _ _ _ _ _=>none) (λ_ _ _ _ _ _=>none) (λ_ _ _ _ _ _=>none) (λ_ _ _ _ _ _ _=>none) x0))
theorem l266_eq : ∀ x0 x1 x2 x3 x4 x5, (Eq (l266 x0 x1 x2 x3 x4 x5) (@o_convert._sparseCasesOn_2 (λ_=>t4) x0 (λ_=>(l248 (Program.underlying x1 x3) x2 x4 x5)) (l253 (Program.underlying x1 x3) x2 x4 x5) (λx6=>(l265 (Program.underlying x1 x3) x1 x2 x4 x5 x6)) (λ_=>none))) := by intro t; cases t <;> (intros; rfl)
abbrev t684:=t336 → t226
def l267 : t684 := (λx0=>(@Option.rec TypeDesc (λ_=>t226) (λ_ _ _ _ _=>none) (λx1 x2 x3 x4 x5 x6=>(l266 x1 x2 x3 x4 x5 x6)) x0))
theorem l267_eq : ∀ x0 x1 x2 x3 x4 x5, (Eq (l267 x0 x1 x2 x3 x4 x5) (@elInfo._sparseCasesOn_3 TypeDesc (λ_=>t4) x0 (λx6=>(l266 x6 x1 x2 x3 x4 x5)) (λ_=>none))) := by intro t; cases t <;> (intros; rfl)
abbrev t685:=TypeId → t224
abbrev t686:=t14 → t685
abbrev t687:=Program → t686
def k_o_convert : t687 := (λx0 x1 x2 x3 x4 x5=>(l267 (Program.underlying x0 x2) x0 x1 x3 x4 x5))
theorem k_o_convert_eq : @k_o_convert = o_convert := by
  delta k_o_convert o_convert
  simp only [l265_eq, l252_eq, l267_eq, l255_eq, l246_eq, l256_eq, l245_eq, l240_eq, l248_eq, l262_eq, l263_eq, l261_eq, l251_eq, l264_eq, l260_eq, l249_eq, l254_eq, l266_eq, l253_eq, l241_eq, l242_eq, l247_eq, l250_eq, l244_eq, l243_eq]
  rw [k_retI_eq, k_ifT_Ret_eq, k_ok1_eq, k_Nat_blt_eq, k_ev_eq, k_rdRow_eq, k_bytesOf_eq]
  all_goals kernel_rfl

abbrev t688:=TypeDesc → Bool
def l268 : t688 := (λx0=>(@TypeDesc.rec (λ_=>Bool) Bool.true Bool.true (λ_=>Bool.true) (λ_=>Bool.true) (λ_=>Bool.true) Bool.true Bool.true (λ_=>Bool.true) (λ_=>Bool.true) (λ_ _=>Bool.true) (λ_ _=>Bool.true) (λ_ _=>Bool.true) (λ_=>Bool.true) (λ_ _ _=>Bool.true) (λ_=>Bool.false) (λ_=>Bool.true) (λ_ _=>Bool.true) x0))
theorem l268_eq : ∀ x0, (Eq (l268 x0) (@ifaceOk'._sparseCasesOn_1 (λ_=>Bool) x0 (λ_=>Bool.false) (λ_=>Bool.true))) := by intro t; cases t <;> (intros; rfl)
def k_ifaceOk' : t440 := (λx0 x1=>(@Option.rec TypeDesc (λ_=>Bool) Bool.false (λx2=>(l268 x2)) (Program.underlying x0 x1)))
theorem k_ifaceOk'_eq : @k_ifaceOk' = ifaceOk' := by
  delta k_ifaceOk' ifaceOk'
  simp only [l268_eq]
  all_goals kernel_rfl

def k_o_makeInterface : t226 := (λx0 x1 x2 x3 x4=>(@Option.rec CV (λ_=>t4) none (λx5=>((λx6=>(k_ifT_Ret (k_ifaceOk' x0 x2) (k_ok1 (CV.iface x2 x6) x4))) x5)) (k_ev x1 x3)))
theorem k_o_makeInterface_eq : @k_o_makeInterface = o_makeInterface := by
  delta k_o_makeInterface o_makeInterface
  rw [k_ev_eq, k_ifT_Ret_eq, k_ok1_eq, k_ifaceOk'_eq]
  all_goals kernel_rfl

abbrev t689:=FuncId → t252
abbrev t690:=S → t689
abbrev t691:=t31 → t690
def l269 : t691 := (λx0=>(@Option.rec t7 (λ_=>t690) (λ_ _ _=>none) (λx1 x2 x3 x4=>(k_ok1 (CV.fn x3 x4 x1) x2)) x0))
theorem l269_eq : ∀ x0 x1 x2 x3, (Eq (l269 x0 x1 x2 x3) (@elInfo._sparseCasesOn_3 t7 (λ_=>t4) x0 (λx4=>(k_ok1 (CV.fn x2 x3 x4) x1)) (λ_=>none))) := by intro t; cases t <;> (intros; rfl)
abbrev t692:=FuncId → t4
abbrev t693:=S → t692
abbrev t694:=(Array Operand) → t693
abbrev t695:=t14 → t694
abbrev t696:=t31 → t695
def l270 : t696 := (λx0=>(@Option.rec t7 (λ_=>t695) (λ_ _ _ _=>none) (λx1 x2 x3 x4 x5=>(l269 (k_evs x2 (@Array.toList Operand x3)) x4 x5 x1)) x0))
theorem l270_eq : ∀ x0 x1 x2 x3 x4, (Eq (l270 x0 x1 x2 x3 x4) (@elInfo._sparseCasesOn_3 t7 (λ_=>t4) x0 (λx5=>(l269 (k_evs x1 (@Array.toList Operand x2)) x3 x4 x5)) (λ_=>none))) := by intro t; cases t <;> (intros; rfl)
abbrev t697:=(Array Operand) → t8
abbrev t698:=(Array Operand) → t697
abbrev t699:=t14 → t698
abbrev t700:=Fn → t699
def l271 : t700 := (λx0=>(@Fn.rec (λ_=>t699) (λx1 x2 x3 x4 x5=>(l270 (k_evs x2 (@Array.toList Operand x3)) x2 x4 x5 x1)) (λ_ _ _ _ _=>none) (λ_ _ _ _ _ _=>none) (λ_ _ _ _ _ _ _ _=>none) (λ_ _ _ _ _=>none) x0))
theorem l271_eq : ∀ x0 x1 x2 x3 x4, (Eq (l271 x0 x1 x2 x3 x4) (@o_makeFunc._sparseCasesOn_1 (λ_=>t4) x0 (λx5=>(l270 (k_evs x1 (@Array.toList Operand x2)) x1 x3 x4 x5)) (λ_=>none))) := by intro t; cases t <;> (intros; rfl)
abbrev t701:=Fn → t698
abbrev t702:=t14 → t701
abbrev t703:=Program → t702
def k_o_makeFunc : t703 := (λ_ x1 x2 x3 x4 x5=>(l271 x2 x1 x3 x4 x5))
theorem k_o_makeFunc_eq : @k_o_makeFunc = o_makeFunc := by
  delta k_o_makeFunc o_makeFunc
  simp only [l271_eq, l269_eq, l270_eq]
  rw [k_ok1_eq, k_evs_eq]
  all_goals kernel_rfl

abbrev t704:=t461 → t8
def l272 : t704 := (λx0=>(@Option.rec t460 (λ_=>t8) (λ_=>none) (λx1 x2=>(@Prod.rec TypeId TypeId (λ_=>t4) (λx3 x4=>((λx5 _=>(k_nw_Ret x2 (CO.map x5 [] (nat_lit 0)) (λx7 x8=>(k_ok1 (CV.map x7) x8)))) x3 x4)) x1)) x0))
theorem l272_eq : ∀ x0 x1, (Eq (l272 x0 x1) (@Option.rec t460 (λ_=>t4) none (λx2=>(@Prod.rec TypeId TypeId (λ_=>t4) (λx3 x4=>((λx5 _=>(k_nw_Ret x1 (CO.map x5 [] (nat_lit 0)) (λx7 x8=>(k_ok1 (CV.map x7) x8)))) x3 x4)) x2)) x0)) := by intro t; cases t <;> (intros; rfl)
def k_o_makeMap0 : t219 := (λx0 _ x2 x3=>(l272 (k_mapInfo x0 x2) x3))
theorem k_o_makeMap0_eq : @k_o_makeMap0 = o_makeMap0 := by
  delta k_o_makeMap0 o_makeMap0
  simp only [l272_eq]
  rw [k_mapInfo_eq, k_nw_Ret_eq, k_ok1_eq]
  all_goals kernel_rfl

abbrev t705:=Value → t321
def l273 : t705 := (λx0=>(@Value.rec (λ_=>t321) (λ_=>PUnit.{1}) (λ_=>PUnit.{1}) (λ_ _ _=>none) (λ_ _ x3 x4=>(k_nw_Ret x3 (CO.map x4 [] (nat_lit 0)) (λx5 x6=>(k_ok1 (CV.map x5) x6)))) (λ_ _ _ _=>none) (λ_ _ _ _ _=>none) (λ_ _ _=>none) (λ_ _ _=>none) (λ_ _ _ _ _=>none) (λ_ _ _=>none) (λ_ _ _=>none) (λ_ _ _ _ _ _ _=>none) (λ_ _=>none) (λ_ _ _ _ _=>none) (λ_ _=>none) (λ_ _ _ _=>none) (λ_ _ _ _=>none) (λ_ _=>PUnit.unit.{1}) PUnit.unit.{1} (λ_ _ _ _=>PUnit.unit.{1}) x0))
theorem l273_eq : ∀ x0 x1 x2, (Eq (l273 x0 x1 x2) (@natOf._sparseCasesOn_2 (λ_=>t4) x0 (λ_ _=>(k_nw_Ret x1 (CO.map x2 [] (nat_lit 0)) (λx5 x6=>(k_ok1 (CV.map x5) x6)))) (λ_=>none))) := by intro t; cases t <;> (intros; rfl)
abbrev t706:=CV → t321
def l274 : t706 := (λx0=>(@CV.rec (λ_=>t321) (λ_=>PUnit.{1}) (λ_ _=>none) (λx1 x2 x3=>(l273 x1 x2 x3)) (λ_ _ _ _=>none) (λ_ _ _ _ _ _ _=>none) (λ_ _=>none) (λ_ _ _=>none) (λ_ _ _ _=>none) (λ_ _ _ _=>none) (λ_ _ _ _ _ _ _=>none) (λ_ _ _=>none) (λ_ _ _ _ _=>none) PUnit.unit.{1} (λ_ _ _ _=>PUnit.unit.{1}) x0))
theorem l274_eq : ∀ x0 x1 x2, (Eq (l274 x0 x1 x2) (@natOf._sparseCasesOn_1 (λ_=>t4) x0 (λx3=>(l273 x3 x1 x2)) (λ_=>none))) := by intro t; cases t <;> (intros; rfl)
abbrev t707:=t81 → t321
def l275 : t707 := (λx0=>(@Option.rec CV (λ_=>t321) (λ_ _=>none) (λx1 x2 x3=>(l274 x1 x2 x3)) x0))
theorem l275_eq : ∀ x0 x1 x2, (Eq (l275 x0 x1 x2) (@elInfo._sparseCasesOn_3 CV (λ_=>t4) x0 (λx3=>(l274 x3 x1 x2)) (λ_=>none))) := by intro t; cases t <;> (intros; rfl)
abbrev t708:=t461 → t192
def l276 : t708 := (λx0=>(@Option.rec t460 (λ_=>t192) (λ_ _ _=>none) (λx1 x2 x3 x4=>(@Prod.rec TypeId TypeId (λ_=>t4) (λx5 _=>(l275 (k_ev x2 x3) x4 x5)) x1)) x0))
theorem l276_eq : ∀ x0 x1 x2 x3, (Eq (l276 x0 x1 x2 x3) (@elInfo._sparseCasesOn_3 t460 (λ_=>t4) x0 (λx4=>(@Prod.rec TypeId TypeId (λ_=>t4) (λx5 _=>(l275 (k_ev x1 x2) x3 x5)) x4)) (λ_=>none))) := by intro t; cases t <;> (intros; rfl)
def k_o_makeMap1 : t226 := (λx0 x1 x2 x3 x4=>(l276 (k_mapInfo x0 x2) x1 x3 x4))
theorem k_o_makeMap1_eq : @k_o_makeMap1 = o_makeMap1 := by
  delta k_o_makeMap1 o_makeMap1
  simp only [l273_eq, l276_eq, l275_eq, l274_eq]
  rw [k_mapInfo_eq, k_nw_Ret_eq, k_ok1_eq, k_ev_eq]
  all_goals kernel_rfl

abbrev t709:=Option Operand
abbrev t710:=t709 → t8
abbrev t711:=TypeId → t710
abbrev t712:=t14 → t711
abbrev t713:=Program → t712
def k_mapF : t713 := (λx0 x1 x2 x3 x4=>(@Option.rec Operand (λ_=>t4) (k_o_makeMap0 x0 x1 x2 x4) (λx5=>((λx6=>(k_o_makeMap1 x0 x1 x2 x6 x4)) x5)) x3))
theorem k_mapF_eq : @k_mapF = mapF := by
  delta k_mapF mapF
  rw [k_o_makeMap1_eq, k_o_makeMap0_eq]
  all_goals kernel_rfl

abbrev t714:=TypeId → t672
abbrev t715:=S → t714
abbrev t716:=t31 → t715
def l277 : t716 := (λx0=>(@Option.rec t7 (λ_=>t715) (λ_ _ _ _ _ _=>none) (λx1 x2 x3 x4 x5 x6 x7=>(k_ifT_Ret (@Bool.rec (λ_=>Bool) Bool.false (k_Nat_blt (nat_lit 0) x4) (@Bool.rec (λ_=>Bool) Bool.false (Nat.beq (k_len x1) x4) (@Bool.rec (λ_=>Bool) Bool.false (Nat.ble x7 (nat_lit 1000000)) (@Bool.rec (λ_=>Bool) Bool.false (Nat.ble (Nat.mul x7 x5) (nat_lit 140737488355328)) (Nat.ble x6 x7))))) (k_nw_Ret x2 (CO.row x3 (k_repl x7 x1) Bool.false) (λx8 x9=>(k_ok1 (CV.sl x8 (nat_lit 0) x6 (some x7) x4) x9))))) x0))
theorem l277_eq : ∀ x0 x1 x2 x3 x4 x5 x6, (Eq (l277 x0 x1 x2 x3 x4 x5 x6) (@elInfo._sparseCasesOn_3 t7 (λ_=>t4) x0 (λx7=>(k_ifT_Ret (@Bool.rec (λ_=>Bool) Bool.false (k_Nat_blt (nat_lit 0) x3) (@Bool.rec (λ_=>Bool) Bool.false (Nat.beq (k_len x7) x3) (@Bool.rec (λ_=>Bool) Bool.false (Nat.ble x6 (nat_lit 1000000)) (@Bool.rec (λ_=>Bool) Bool.false (Nat.ble (Nat.mul x6 x4) (nat_lit 140737488355328)) (Nat.ble x5 x6))))) (k_nw_Ret x1 (CO.row x2 (k_repl x6 x7) Bool.false) (λx8 x9=>(k_ok1 (CV.sl x8 (nat_lit 0) x5 (some x6) x3) x9))))) (λ_=>none))) := by intro t; cases t <;> (intros; rfl)
abbrev t717:=t213 → t41
abbrev t718:=Nat → t717
abbrev t719:=Nat → t718
abbrev t720:=TypeId → t719
abbrev t721:=S → t720
abbrev t722:=t164 → t721
def l278 : t722 := (λx0=>(@Option.rec Nat (λ_=>t721) (λ_ _ _ _ _ _=>none) (λx1 x2 x3 x4 x5 x6 x7=>(l277 (k_valL x6) x2 x3 x4 x5 x7 x1)) x0))
theorem l278_eq : ∀ x0 x1 x2 x3 x4 x5 x6, (Eq (l278 x0 x1 x2 x3 x4 x5 x6) (@elInfo._sparseCasesOn_3 Nat (λ_=>t4) x0 (λx7=>(l277 (k_valL x5) x1 x2 x3 x4 x6 x7)) (λ_=>none))) := by intro t; cases t <;> (intros; rfl)
abbrev t723:=Int → t164
def l280 : t723 := (λx0=>(@Int.rec (λ_=>t164) (λx1=>(some x1)) (λ_=>none) x0))
theorem l280_eq : ∀ x0, (Eq (l280 x0) (@natOf._sparseCasesOn_4 (λ_=>t164) x0 (λx1=>(some x1)) (λ_=>none))) := by intro t; cases t <;> (intros; rfl)
abbrev t724:=IntKind → t723
def l281 : t724 := (λx0=>(@IntKind.rec (λ_=>t723) (λ_=>none) (λ_=>none) (λ_=>none) (λx1=>(l280 x1)) (λ_=>none) (λ_=>none) (λ_=>none) (λ_=>none) x0))
theorem l281_eq : ∀ x0 x1, (Eq (l281 x0 x1) (@natOf._sparseCasesOn_3 (λ_=>t164) x0 (l280 x1) (λ_=>none))) := by intro t; cases t <;> (intros; rfl)
abbrev t725:=Value → t164
def l282 : t725 := (λx0=>(@Value.rec (λ_=>t164) (λ_=>PUnit.{1}) (λ_=>PUnit.{1}) (λ_=>none) (λx1 x2=>(l281 x1 x2)) (λ_ _=>none) (λ_ _ _=>none) (λ_=>none) (λ_=>none) (λ_ _ _=>none) (λ_=>none) (λ_=>none) (λ_ _ _ _ _=>none) none (λ_ _ _=>none) none (λ_ _=>none) (λ_ _=>none) (λ_ _=>PUnit.unit.{1}) PUnit.unit.{1} (λ_ _ _ _=>PUnit.unit.{1}) x0))
theorem l282_eq : ∀ x0, (Eq (l282 x0) (@natOf._sparseCasesOn_2 (λ_=>t164) x0 (λx1 x2=>(l281 x1 x2)) (λ_=>none))) := by intro t; cases t <;> (intros; rfl)
abbrev t726:=CV → t164
def l283 : t726 := (λx0=>(@CV.rec (λ_=>t164) (λ_=>PUnit.{1}) none (λx1=>(l282 x1)) (λ_ _=>none) (λ_ _ _ _ _=>none) none (λ_=>none) (λ_ _=>none) (λ_ _=>none) (λ_ _ _ _ _=>none) (λ_=>none) (λ_ _ _=>none) PUnit.unit.{1} (λ_ _ _ _=>PUnit.unit.{1}) x0))
theorem l283_eq : ∀ x0, (Eq (l283 x0) (@natOf._sparseCasesOn_1 (λ_=>t164) x0 (λx1=>(l282 x1)) (λ_=>none))) := by intro t; cases t <;> (intros; rfl)
def k_natOf : t726 := (λx0=>(l283 x0))
theorem k_natOf_eq : @k_natOf = natOf := by
  delta k_natOf natOf
  simp only [l281_eq, l280_eq, l282_eq, l283_eq]
  all_goals kernel_rfl

abbrev t727:=t213 → t19
abbrev t728:=Nat → t727
abbrev t729:=Nat → t728
abbrev t730:=TypeId → t729
abbrev t731:=S → t730
abbrev t732:=t164 → t731
def l279 : t732 := (λx0=>(@Option.rec Nat (λ_=>t731) (λ_ _ _ _ _ _=>none) (λx1 x2 x3 x4 x5 x6 x7=>(l278 (k_natOf x7) x2 x3 x4 x5 x6 x1)) x0))
theorem l279_eq : ∀ x0 x1 x2 x3 x4 x5 x6, (Eq (l279 x0 x1 x2 x3 x4 x5 x6) (@elInfo._sparseCasesOn_3 Nat (λ_=>t4) x0 (λx7=>(l278 (k_natOf x6) x1 x2 x3 x4 x5 x7)) (λ_=>none))) := by intro t; cases t <;> (intros; rfl)
abbrev t733:=t81 → t731
def l284 : t733 := (λx0=>(@Option.rec CV (λ_=>t731) (λ_ _ _ _ _ _=>none) (λx1 x2 x3 x4 x5 x6 x7=>(l279 (k_natOf x7) x2 x3 x4 x5 x6 x1)) x0))
theorem l284_eq : ∀ x0 x1 x2 x3 x4 x5 x6, (Eq (l284 x0 x1 x2 x3 x4 x5 x6) (@elInfo._sparseCasesOn_3 CV (λ_=>t4) x0 (λx7=>(l279 (k_natOf x6) x1 x2 x3 x4 x5 x7)) (λ_=>none))) := by intro t; cases t <;> (intros; rfl)
abbrev t734:=Nat → t313
abbrev t735:=TypeId → t734
abbrev t736:=S → t735
abbrev t737:=Operand → t736
abbrev t738:=t14 → t737
abbrev t739:=t81 → t738
def l285 : t739 := (λx0=>(@Option.rec CV (λ_=>t738) (λ_ _ _ _ _ _ _=>none) (λx1 x2 x3 x4 x5 x6 x7 x8=>(l284 (k_ev x2 x3) x4 x5 x6 x7 x8 x1)) x0))
theorem l285_eq : ∀ x0 x1 x2 x3 x4 x5 x6 x7, (Eq (l285 x0 x1 x2 x3 x4 x5 x6 x7) (@elInfo._sparseCasesOn_3 CV (λ_=>t4) x0 (λx8=>(l284 (k_ev x1 x2) x3 x4 x5 x6 x7 x8)) (λ_=>none))) := by intro t; cases t <;> (intros; rfl)
abbrev t740:=t320 → t456
def l286 : t740 := (λx0=>(@Prod.rec Nat t319 (λ_=>t456) (λx1 x2 x3 x4 x5 x6 x7=>(@Prod.rec Nat t213 (λ_=>t4) (λx8 x9=>(l285 (k_ev x3 x4) x3 x5 x6 x7 x1 x8 x9)) x2)) x0))
theorem l286_eq : ∀ x0 x1 x2 x3 x4 x5, (Eq (l286 x0 x1 x2 x3 x4 x5) (@Prod.rec Nat t319 (λ_=>t4) (λx6 x7=>(@Prod.rec Nat t213 (λ_=>t4) (λx8 x9=>(l285 (k_ev x1 x2) x1 x3 x4 x5 x6 x8 x9)) x7)) x0)) := by intro t; cases t <;> (intros; rfl)
abbrev t741:=t327 → t200
def l287 : t741 := (λx0=>(@Option.rec t326 (λ_=>t200) (λ_ _ _ _=>none) (λx1 x2 x3 x4 x5=>(@Prod.rec TypeId t320 (λ_=>t4) (λx6 x7=>(l286 x7 x2 x3 x4 x5 x6)) x1)) x0))
theorem l287_eq : ∀ x0 x1 x2 x3 x4, (Eq (l287 x0 x1 x2 x3 x4) (@elInfo._sparseCasesOn_3 t326 (λ_=>t4) x0 (λx5=>(@Prod.rec TypeId t320 (λ_=>t4) (λx6 x7=>(l286 x7 x1 x2 x3 x4 x6)) x5)) (λ_=>none))) := by intro t; cases t <;> (intros; rfl)
def k_o_makeSlice : t487 := (λx0 x1 x2 x3 x4 x5=>(l287 (k_elInfo x0 x2) x1 x3 x4 x5))
theorem k_o_makeSlice_eq : @k_o_makeSlice = o_makeSlice := by
  delta k_o_makeSlice o_makeSlice
  simp only [l284_eq, l277_eq, l285_eq, l279_eq, l286_eq, l278_eq, l287_eq]
  rw [k_elInfo_eq, k_ifT_Ret_eq, k_nw_Ret_eq, k_ok1_eq, k_repl_eq, k_len_eq, k_Nat_blt_eq, k_valL_eq, k_natOf_eq, k_ev_eq]
  all_goals kernel_rfl

abbrev t742:=t709 → Bool
def k_Option_isSome_Operand : t742 := (λx0=>(@Option.rec Operand (λ_=>Bool) Bool.false (λx1=>((λ_=>Bool.true) x1)) x0))
theorem k_Option_isSome_Operand_eq : @k_Option_isSome_Operand = (@Option.isSome Operand) := by
  delta k_Option_isSome_Operand Option.isSome
  all_goals kernel_rfl

abbrev t743:=Nat → t81
abbrev t744:=Nat → t743
abbrev t745:=Nat → t744
abbrev t746:=Nat → t745
abbrev t747:=Nat → t746
abbrev t748:=Nat → t747
abbrev t749:=Nat → t748
abbrev t750:=Bool → t749
def l290 : t750 := (λx0=>(@Bool.rec (λ_=>t749) (λx1 x2 x3 x4 x5 x6 x7=>(@Bool.rec (λ_=>t81) (some CV.e0) (some (CV.sl x2 (Nat.add x3 (Nat.mul x6 x1)) (Nat.sub x7 x6) none x5)) (k_Nat_blt x6 x4))) (λ_ x2 x3 _ x5 _ x7=>(some (CV.sl x2 x3 x7 none x5))) x0))
theorem l290_eq : ∀ x0 x1 x2 x3 x4 x5 x6 x7, (Eq (l290 x0 x1 x2 x3 x4 x5 x6 x7) (@Bool.rec (λ_=>t81) (@Bool.rec (λ_=>t81) (some CV.e0) (some (CV.sl x2 (Nat.add x3 (Nat.mul x6 x1)) (Nat.sub x7 x6) none x5)) (k_Nat_blt x6 x4)) (some (CV.sl x2 x3 x7 none x5)) x0)) := by intro t; cases t <;> (intros; rfl)
def l291 : t750 := (λx0=>(@Bool.rec (λ_=>t749) (λx1 x2 x3 x4 x5 x6 x7=>(some (CV.sl x2 (Nat.add x3 (Nat.mul x5 x1)) (Nat.sub x6 x5) (some (Nat.sub x7 x5)) x4))) (λ_ x2 x3 x4 _ _ _=>(some (CV.sl x2 x3 (nat_lit 0) (some (nat_lit 0)) x4))) x0))
theorem l291_eq : ∀ x0 x1 x2 x3 x4 x5 x6 x7, (Eq (l291 x0 x1 x2 x3 x4 x5 x6 x7) (@Bool.rec (λ_=>t81) (some (CV.sl x2 (Nat.add x3 (Nat.mul x5 x1)) (Nat.sub x6 x5) (some (Nat.sub x7 x5)) x4)) (some (CV.sl x2 x3 (nat_lit 0) (some (nat_lit 0)) x4)) x0)) := by intro t; cases t <;> (intros; rfl)
abbrev t751:=t164 → t749
def l292 : t751 := (λx0=>(@Option.rec Nat (λ_=>t749) (λ_ _ _ _ _ _ _=>none) (λx1 x2 x3 x4 x5 x6 x7 x8=>((λx9=>(@Bool.rec (λ_=>t81) none (l291 (Nat.beq x9 x7) x2 x3 x4 x6 x7 x8 x9) (@Bool.rec (λ_=>Bool) Bool.false (Nat.ble x9 x5) (@Bool.rec (λ_=>Bool) Bool.false (Nat.ble x8 x9) (Nat.ble x7 x8))))) x1)) x0))
theorem l292_eq : ∀ x0 x1 x2 x3 x4 x5 x6 x7, (Eq (l292 x0 x1 x2 x3 x4 x5 x6 x7) (@Option.rec Nat (λ_=>t81) none (λx8=>((λx9=>(@Bool.rec (λ_=>t81) none (l291 (Nat.beq x9 x6) x1 x2 x3 x5 x6 x7 x9) (@Bool.rec (λ_=>Bool) Bool.false (Nat.ble x9 x4) (@Bool.rec (λ_=>Bool) Bool.false (Nat.ble x7 x9) (Nat.ble x6 x7))))) x8)) x0)) := by intro t; cases t <;> (intros; rfl)
def l294 : t723 := (λx0=>(@Int.rec (λ_=>t164) (λx1=>(some x1)) (λ_=>none) x0))
theorem l294_eq : ∀ x0, (Eq (l294 x0) (@natOf._sparseCasesOn_4 (λ_=>t164) x0 (λx1=>(some x1)) (λ_=>none))) := by intro t; cases t <;> (intros; rfl)
abbrev t752:=t568 → t164
def l295 : t752 := (λx0=>(@Option.rec Int (λ_=>t164) none (λx1=>(l294 x1)) x0))
theorem l295_eq : ∀ x0, (Eq (l295 x0) (@elInfo._sparseCasesOn_3 Int (λ_=>t164) x0 (λx1=>(l294 x1)) (λ_=>none))) := by intro t; cases t <;> (intros; rfl)
abbrev t753:=Value → t568
def l296 : t753 := (λx0=>(@Value.rec (λ_=>t568) (λ_=>PUnit.{1}) (λ_=>PUnit.{1}) (λ_=>none) (λ_ x2=>(some x2)) (λ_ _=>none) (λ_ _ _=>none) (λ_=>none) (λ_=>none) (λ_ _ _=>none) (λ_=>none) (λ_=>none) (λ_ _ _ _ _=>none) none (λ_ _ _=>none) none (λ_ _=>none) (λ_ _=>none) (λ_ _=>PUnit.unit.{1}) PUnit.unit.{1} (λ_ _ _ _=>PUnit.unit.{1}) x0))
theorem l296_eq : ∀ x0, (Eq (l296 x0) (@natOf._sparseCasesOn_2 (λ_=>t568) x0 (λ_ x2=>(some x2)) (λ_=>none))) := by intro t; cases t <;> (intros; rfl)
abbrev t754:=CV → t568
def l297 : t754 := (λx0=>(@CV.rec (λ_=>t568) (λ_=>PUnit.{1}) none (λx1=>(l296 x1)) (λ_ _=>none) (λ_ _ _ _ _=>none) none (λ_=>none) (λ_ _=>none) (λ_ _=>none) (λ_ _ _ _ _=>none) (λ_=>none) (λ_ _ _=>none) PUnit.unit.{1} (λ_ _ _ _=>PUnit.unit.{1}) x0))
theorem l297_eq : ∀ x0, (Eq (l297 x0) (@natOf._sparseCasesOn_1 (λ_=>t568) x0 (λx1=>(l296 x1)) (λ_=>none))) := by intro t; cases t <;> (intros; rfl)
def k_anyInt : t754 := (λx0=>(l297 x0))
theorem k_anyInt_eq : @k_anyInt = anyInt := by
  delta k_anyInt anyInt
  simp only [l297_eq, l296_eq]
  all_goals kernel_rfl

def k_natAny : t726 := (λx0=>(l295 (k_anyInt x0)))
theorem k_natAny_eq : @k_natAny = natAny := by
  delta k_natAny natAny
  simp only [l294_eq, l295_eq]
  rw [k_anyInt_eq]
  all_goals kernel_rfl

abbrev t755:=t81 → t749
def l293 : t755 := (λx0=>(@Option.rec CV (λ_=>t749) (λx1 x2 x3 x4 x5 x6 x7=>(@Bool.rec (λ_=>t81) none (l290 (Nat.beq x6 (nat_lit 0)) x1 x2 x3 x4 x5 x6 x7) (@Bool.rec (λ_=>Bool) Bool.false (Nat.ble x7 x4) (Nat.ble x6 x7)))) (λx1 x2 x3 x4 x5 x6 x7 x8=>((λx9 x10 x11=>(l292 (k_natAny x11) x2 x3 x4 x5 x6 x9 x10)) x7 x8 x1)) x0))
theorem l293_eq : ∀ x0 x1 x2 x3 x4 x5 x6 x7, (Eq (l293 x0 x1 x2 x3 x4 x5 x6 x7) (@Option.rec CV (λ_=>t81) (@Bool.rec (λ_=>t81) none (l290 (Nat.beq x6 (nat_lit 0)) x1 x2 x3 x4 x5 x6 x7) (@Bool.rec (λ_=>Bool) Bool.false (Nat.ble x7 x4) (Nat.ble x6 x7))) (λx8=>((λx9 x10 x11=>(l292 (k_natAny x11) x1 x2 x3 x4 x5 x9 x10)) x6 x7 x8)) x0)) := by intro t; cases t <;> (intros; rfl)
abbrev t756:=t81 → t747
abbrev t757:=Nat → t756
abbrev t758:=t164 → t757
def l298 : t758 := (λx0=>(@Option.rec Nat (λ_=>t757) (λ_ _ _ _ _ _ _=>none) (λx1 x2 x3 x4 x5 x6 x7 x8=>(l293 x3 x2 x4 x5 x6 x7 x8 x1)) x0))
theorem l298_eq : ∀ x0 x1 x2 x3 x4 x5 x6 x7, (Eq (l298 x0 x1 x2 x3 x4 x5 x6 x7) (@elInfo._sparseCasesOn_3 Nat (λ_=>t81) x0 (λx8=>(l293 x2 x1 x3 x4 x5 x6 x7 x8)) (λ_=>none))) := by intro t; cases t <;> (intros; rfl)
abbrev t759:=t81 → t164
abbrev t760:=Nat → t759
def k_bound : t760 := (λx0 x1=>(@Option.rec CV (λ_=>t164) (some x0) (λx2=>((λx3=>(k_natAny x3)) x2)) x1))
theorem k_bound_eq : @k_bound = bound := by
  delta k_bound bound
  rw [k_natAny_eq]
  all_goals kernel_rfl

abbrev t761:=t81 → t746
abbrev t762:=t81 → t761
abbrev t763:=Nat → t762
abbrev t764:=t164 → t763
def l299 : t764 := (λx0=>(@Option.rec Nat (λ_=>t763) (λ_ _ _ _ _ _ _=>none) (λx1 x2 x3 x4 x5 x6 x7 x8=>(l298 (k_bound x7 x3) x2 x4 x5 x6 x7 x8 x1)) x0))
theorem l299_eq : ∀ x0 x1 x2 x3 x4 x5 x6 x7, (Eq (l299 x0 x1 x2 x3 x4 x5 x6 x7) (@elInfo._sparseCasesOn_3 Nat (λ_=>t81) x0 (λx8=>(l298 (k_bound x6 x2) x1 x3 x4 x5 x6 x7 x8)) (λ_=>none))) := by intro t; cases t <;> (intros; rfl)
def l300 : t750 := (λx0=>(@Bool.rec (λ_=>t749) (λx1 x2 x3 x4 x5 x6 x7=>(some (CV.sl x2 (Nat.add x3 (Nat.mul x5 x1)) (Nat.sub x6 x5) (some (Nat.sub x7 x5)) x4))) (λ_ x2 x3 x4 _ _ _=>(some (CV.sl x2 x3 (nat_lit 0) (some (nat_lit 0)) x4))) x0))
theorem l300_eq : ∀ x0 x1 x2 x3 x4 x5 x6 x7, (Eq (l300 x0 x1 x2 x3 x4 x5 x6 x7) (@Bool.rec (λ_=>t81) (some (CV.sl x2 (Nat.add x3 (Nat.mul x5 x1)) (Nat.sub x6 x5) (some (Nat.sub x7 x5)) x4)) (some (CV.sl x2 x3 (nat_lit 0) (some (nat_lit 0)) x4)) x0)) := by intro t; cases t <;> (intros; rfl)
def l301 : t751 := (λx0=>(@Option.rec Nat (λ_=>t749) (λ_ _ _ _ _ _ _=>none) (λx1 x2 x3 x4 x5 x6 x7 x8=>(@Bool.rec (λ_=>t81) none (l300 (Nat.beq x1 x7) x2 x3 x4 x6 x7 x8 x1) (@Bool.rec (λ_=>Bool) Bool.false (Nat.ble x1 x5) (@Bool.rec (λ_=>Bool) Bool.false (Nat.ble x8 x1) (Nat.ble x7 x8))))) x0))
theorem l301_eq : ∀ x0 x1 x2 x3 x4 x5 x6 x7, (Eq (l301 x0 x1 x2 x3 x4 x5 x6 x7) (@elInfo._sparseCasesOn_3 Nat (λ_=>t81) x0 (λx8=>(@Bool.rec (λ_=>t81) none (l300 (Nat.beq x8 x6) x1 x2 x3 x5 x6 x7 x8) (@Bool.rec (λ_=>Bool) Bool.false (Nat.ble x8 x4) (@Bool.rec (λ_=>Bool) Bool.false (Nat.ble x7 x8) (Nat.ble x6 x7))))) (λ_=>none))) := by intro t; cases t <;> (intros; rfl)
def l302 : t758 := (λx0=>(@Option.rec Nat (λ_=>t757) (λ_ _ _ _ _ _ _=>none) (λx1 x2 x3 x4 x5 x6 x7 x8=>(l301 (k_bound x6 x3) x2 x4 x5 x6 x7 x8 x1)) x0))
theorem l302_eq : ∀ x0 x1 x2 x3 x4 x5 x6 x7, (Eq (l302 x0 x1 x2 x3 x4 x5 x6 x7) (@elInfo._sparseCasesOn_3 Nat (λ_=>t81) x0 (λx8=>(l301 (k_bound x5 x2) x1 x3 x4 x5 x6 x7 x8)) (λ_=>none))) := by intro t; cases t <;> (intros; rfl)
abbrev t765:=t81 → t756
abbrev t766:=Nat → t765
abbrev t767:=t164 → t766
def l303 : t767 := (λx0=>(@Option.rec Nat (λ_=>t766) (λ_ _ _ _ _ _ _ _=>none) (λx1 x2 x3 x4 x5 x6 x7 x8 x9=>(l302 (k_bound x7 x3) x2 x4 x5 x6 x8 x9 x1)) x0))
theorem l303_eq : ∀ x0 x1 x2 x3 x4 x5 x6 x7 x8, (Eq (l303 x0 x1 x2 x3 x4 x5 x6 x7 x8) (@elInfo._sparseCasesOn_3 Nat (λ_=>t81) x0 (λx9=>(l302 (k_bound x6 x2) x1 x3 x4 x5 x7 x8 x9)) (λ_=>none))) := by intro t; cases t <;> (intros; rfl)
abbrev t768:=t81 → t762
abbrev t769:=Nat → t768
abbrev t770:=t164 → t769
def l304 : t770 := (λx0=>(@Option.rec Nat (λ_=>t769) (λx1 x2 x3 x4 x5 x6 x7 x8=>(@Bool.rec (λ_=>t81) none (l299 (k_bound (nat_lit 0) x2) x1 x3 x4 x5 x6 x7 x8) (Nat.beq x8 x1))) (λx1 x2 x3 x4 x5 x6 x7 x8 x9=>((λx10 x11 x12 x13 x14=>(@Bool.rec (λ_=>t81) none (l303 (k_bound (nat_lit 0) x3) x2 x4 x5 x10 x11 x12 x13 x14) (Nat.beq x14 x2))) x6 x7 x8 x1 x9)) x0))
theorem l304_eq : ∀ x0 x1 x2 x3 x4 x5 x6 x7 x8, (Eq (l304 x0 x1 x2 x3 x4 x5 x6 x7 x8) (@Option.rec Nat (λ_=>t81) (@Bool.rec (λ_=>t81) none (l299 (k_bound (nat_lit 0) x2) x1 x3 x4 x5 x6 x7 x8) (Nat.beq x8 x1)) (λx9=>((λx10 x11 x12 x13 x14=>(@Bool.rec (λ_=>t81) none (l303 (k_bound (nat_lit 0) x2) x1 x3 x4 x10 x11 x12 x13 x14) (Nat.beq x14 x1))) x5 x6 x7 x9 x8)) x0)) := by intro t; cases t <;> (intros; rfl)
abbrev t771:=t81 → t81
abbrev t772:=t81 → t771
abbrev t773:=t164 → t772
def l305 : t773 := (λx0=>(@Option.rec Nat (λ_=>t772) (λ_ _=>none) (λx1 x2 x3=>(@dite ((λ_ _ _=>t81) (some x1) (bound (@OfNat.ofNat Nat (nat_lit 0) (instOfNatNat (nat_lit 0))) x2) (bound (@OfNat.ofNat Nat (nat_lit 0) (instOfNatNat (nat_lit 0))) x3)) (Eq x1 (@OfNat.ofNat Nat (nat_lit 0) (instOfNatNat (nat_lit 0)))) (instDecidableEqNat x1 (@OfNat.ofNat Nat (nat_lit 0) (instOfNatNat (nat_lit 0)))) (@Eq.ndrec_symm Nat (@OfNat.ofNat Nat (nat_lit 0) (instOfNatNat (nat_lit 0))) (λx4=>((λ_ _ _=>t81) (some x4) (bound (@OfNat.ofNat Nat (nat_lit 0) (instOfNatNat (nat_lit 0))) x2) (bound (@OfNat.ofNat Nat (nat_lit 0) (instOfNatNat (nat_lit 0))) x3))) (@elInfo._sparseCasesOn_3 Nat (λx4=>((λ_ _ _=>t81) (some (@OfNat.ofNat Nat (nat_lit 0) (instOfNatNat (nat_lit 0)))) x4 (bound (@OfNat.ofNat Nat (nat_lit 0) (instOfNatNat (nat_lit 0))) x3))) (bound (@OfNat.ofNat Nat (nat_lit 0) (instOfNatNat (nat_lit 0))) x2) (λx4=>(@dite ((λ_ _ _=>t81) (some (@OfNat.ofNat Nat (nat_lit 0) (instOfNatNat (nat_lit 0)))) (some x4) (bound (@OfNat.ofNat Nat (nat_lit 0) (instOfNatNat (nat_lit 0))) x3)) (Eq x4 (@OfNat.ofNat Nat (nat_lit 0) (instOfNatNat (nat_lit 0)))) (instDecidableEqNat x4 (@OfNat.ofNat Nat (nat_lit 0) (instOfNatNat (nat_lit 0)))) (@Eq.ndrec_symm Nat (@OfNat.ofNat Nat (nat_lit 0) (instOfNatNat (nat_lit 0))) (λx5=>((λ_ _ _=>t81) (some (@OfNat.ofNat Nat (nat_lit 0) (instOfNatNat (nat_lit 0)))) (some x5) (bound (@OfNat.ofNat Nat (nat_lit 0) (instOfNatNat (nat_lit 0))) x3))) (@elInfo._sparseCasesOn_3 Nat (λx5=>((λ_ _ _=>t81) (some (@OfNat.ofNat Nat (nat_lit 0) (instOfNatNat (nat_lit 0)))) (some (@OfNat.ofNat Nat (nat_lit 0) (instOfNatNat (nat_lit 0)))) x5)) (bound (@OfNat.ofNat Nat (nat_lit 0) (instOfNatNat (nat_lit 0))) x3) (λx5=>(@dite ((λ_ _ _=>t81) (some (@OfNat.ofNat Nat (nat_lit 0) (instOfNatNat (nat_lit 0)))) (some (@OfNat.ofNat Nat (nat_lit 0) (instOfNatNat (nat_lit 0)))) (some x5)) (Eq x5 (@OfNat.ofNat Nat (nat_lit 0) (instOfNatNat (nat_lit 0)))) (instDecidableEqNat x5 (@OfNat.ofNat Nat (nat_lit 0) (instOfNatNat (nat_lit 0)))) (@Eq.ndrec_symm Nat (@OfNat.ofNat Nat (nat_lit 0) (instOfNatNat (nat_lit 0))) (λx6=>((λ_ _ _=>t81) (some (@OfNat.ofNat Nat (nat_lit 0) (instOfNatNat (nat_lit 0)))) (some (@OfNat.ofNat Nat (nat_lit 0) (instOfNatNat (nat_lit 0)))) (some x6))) ((λ_=>(some CV.e0)) Unit.unit) x5) (λ_=>((λ_ _ _=>none) (some (@OfNat.ofNat Nat (nat_lit 0) (instOfNatNat (nat_lit 0)))) (some (@OfNat.ofNat Nat (nat_lit 0) (instOfNatNat (nat_lit 0)))) (some x5))))) (λ_=>((λ_ _ _=>none) (some (@OfNat.ofNat Nat (nat_lit 0) (instOfNatNat (nat_lit 0)))) (some (@OfNat.ofNat Nat (nat_lit 0) (instOfNatNat (nat_lit 0)))) (bound (@OfNat.ofNat Nat (nat_lit 0) (instOfNatNat (nat_lit 0))) x3)))) x4) (λ_=>((λ_ _ _=>none) (some (@OfNat.ofNat Nat (nat_lit 0) (instOfNatNat (nat_lit 0)))) (some x4) (bound (@OfNat.ofNat Nat (nat_lit 0) (instOfNatNat (nat_lit 0))) x3))))) (λ_=>((λ_ _ _=>none) (some (@OfNat.ofNat Nat (nat_lit 0) (instOfNatNat (nat_lit 0)))) (bound (@OfNat.ofNat Nat (nat_lit 0) (instOfNatNat (nat_lit 0))) x2) (bound (@OfNat.ofNat Nat (nat_lit 0) (instOfNatNat (nat_lit 0))) x3)))) x1) (λ_=>((λ_ _ _=>none) (some x1) (bound (@OfNat.ofNat Nat (nat_lit 0) (instOfNatNat (nat_lit 0))) x2) (bound (@OfNat.ofNat Nat (nat_lit 0) (instOfNatNat (nat_lit 0))) x3))))) x0))
theorem l305_eq : ∀ x0 x1 x2, (Eq (l305 x0 x1 x2) (@elInfo._sparseCasesOn_3 Nat (λ_=>t81) x0 (λx3=>(@dite ((λ_ _ _=>t81) (some x3) (bound (@OfNat.ofNat Nat (nat_lit 0) (instOfNatNat (nat_lit 0))) x1) (bound (@OfNat.ofNat Nat (nat_lit 0) (instOfNatNat (nat_lit 0))) x2)) (Eq x3 (@OfNat.ofNat Nat (nat_lit 0) (instOfNatNat (nat_lit 0)))) (instDecidableEqNat x3 (@OfNat.ofNat Nat (nat_lit 0) (instOfNatNat (nat_lit 0)))) (@Eq.ndrec_symm Nat (@OfNat.ofNat Nat (nat_lit 0) (instOfNatNat (nat_lit 0))) (λx4=>((λ_ _ _=>t81) (some x4) (bound (@OfNat.ofNat Nat (nat_lit 0) (instOfNatNat (nat_lit 0))) x1) (bound (@OfNat.ofNat Nat (nat_lit 0) (instOfNatNat (nat_lit 0))) x2))) (@elInfo._sparseCasesOn_3 Nat (λx4=>((λ_ _ _=>t81) (some (@OfNat.ofNat Nat (nat_lit 0) (instOfNatNat (nat_lit 0)))) x4 (bound (@OfNat.ofNat Nat (nat_lit 0) (instOfNatNat (nat_lit 0))) x2))) (bound (@OfNat.ofNat Nat (nat_lit 0) (instOfNatNat (nat_lit 0))) x1) (λx4=>(@dite ((λ_ _ _=>t81) (some (@OfNat.ofNat Nat (nat_lit 0) (instOfNatNat (nat_lit 0)))) (some x4) (bound (@OfNat.ofNat Nat (nat_lit 0) (instOfNatNat (nat_lit 0))) x2)) (Eq x4 (@OfNat.ofNat Nat (nat_lit 0) (instOfNatNat (nat_lit 0)))) (instDecidableEqNat x4 (@OfNat.ofNat Nat (nat_lit 0) (instOfNatNat (nat_lit 0)))) (@Eq.ndrec_symm Nat (@OfNat.ofNat Nat (nat_lit 0) (instOfNatNat (nat_lit 0))) (λx5=>((λ_ _ _=>t81) (some (@OfNat.ofNat Nat (nat_lit 0) (instOfNatNat (nat_lit 0)))) (some x5) (bound (@OfNat.ofNat Nat (nat_lit 0) (instOfNatNat (nat_lit 0))) x2))) (@elInfo._sparseCasesOn_3 Nat (λx5=>((λ_ _ _=>t81) (some (@OfNat.ofNat Nat (nat_lit 0) (instOfNatNat (nat_lit 0)))) (some (@OfNat.ofNat Nat (nat_lit 0) (instOfNatNat (nat_lit 0)))) x5)) (bound (@OfNat.ofNat Nat (nat_lit 0) (instOfNatNat (nat_lit 0))) x2) (λx5=>(@dite ((λ_ _ _=>t81) (some (@OfNat.ofNat Nat (nat_lit 0) (instOfNatNat (nat_lit 0)))) (some (@OfNat.ofNat Nat (nat_lit 0) (instOfNatNat (nat_lit 0)))) (some x5)) (Eq x5 (@OfNat.ofNat Nat (nat_lit 0) (instOfNatNat (nat_lit 0)))) (instDecidableEqNat x5 (@OfNat.ofNat Nat (nat_lit 0) (instOfNatNat (nat_lit 0)))) (@Eq.ndrec_symm Nat (@OfNat.ofNat Nat (nat_lit 0) (instOfNatNat (nat_lit 0))) (λx6=>((λ_ _ _=>t81) (some (@OfNat.ofNat Nat (nat_lit 0) (instOfNatNat (nat_lit 0)))) (some (@OfNat.ofNat Nat (nat_lit 0) (instOfNatNat (nat_lit 0)))) (some x6))) ((λ_=>(some CV.e0)) Unit.unit) x5) (λ_=>((λ_ _ _=>none) (some (@OfNat.ofNat Nat (nat_lit 0) (instOfNatNat (nat_lit 0)))) (some (@OfNat.ofNat Nat (nat_lit 0) (instOfNatNat (nat_lit 0)))) (some x5))))) (λ_=>((λ_ _ _=>none) (some (@OfNat.ofNat Nat (nat_lit 0) (instOfNatNat (nat_lit 0)))) (some (@OfNat.ofNat Nat (nat_lit 0) (instOfNatNat (nat_lit 0)))) (bound (@OfNat.ofNat Nat (nat_lit 0) (instOfNatNat (nat_lit 0))) x2)))) x4) (λ_=>((λ_ _ _=>none) (some (@OfNat.ofNat Nat (nat_lit 0) (instOfNatNat (nat_lit 0)))) (some x4) (bound (@OfNat.ofNat Nat (nat_lit 0) (instOfNatNat (nat_lit 0))) x2))))) (λ_=>((λ_ _ _=>none) (some (@OfNat.ofNat Nat (nat_lit 0) (instOfNatNat (nat_lit 0)))) (bound (@OfNat.ofNat Nat (nat_lit 0) (instOfNatNat (nat_lit 0))) x1) (bound (@OfNat.ofNat Nat (nat_lit 0) (instOfNatNat (nat_lit 0))) x2)))) x3) (λ_=>((λ_ _ _=>none) (some x3) (bound (@OfNat.ofNat Nat (nat_lit 0) (instOfNatNat (nat_lit 0))) x1) (bound (@OfNat.ofNat Nat (nat_lit 0) (instOfNatNat (nat_lit 0))) x2))))) (λ_=>none))) := by intro t; cases t <;> (intros; rfl)
abbrev t774:=t81 → t744
abbrev t775:=t81 → t774
abbrev t776:=t81 → t775
abbrev t777:=t497 → t776
def l306 : t777 := (λx0=>(@Option.rec Addr (λ_=>t776) (λx1 x2 x3 x4 x5=>(@dite ((λ_=>t81) (CV.val (Value.slice none x4 x5))) (Eq x4 (@OfNat.ofNat Nat (nat_lit 0) (instOfNatNat (nat_lit 0)))) (instDecidableEqNat x4 (@OfNat.ofNat Nat (nat_lit 0) (instOfNatNat (nat_lit 0)))) (@Eq.ndrec_symm Nat (@OfNat.ofNat Nat (nat_lit 0) (instOfNatNat (nat_lit 0))) (λx6=>((λ_=>t81) (CV.val (Value.slice none x6 x5)))) (@dite ((λ_=>t81) (CV.val (Value.slice none (@OfNat.ofNat Nat (nat_lit 0) (instOfNatNat (nat_lit 0))) x5))) (Eq x5 (@OfNat.ofNat Nat (nat_lit 0) (instOfNatNat (nat_lit 0)))) (instDecidableEqNat x5 (@OfNat.ofNat Nat (nat_lit 0) (instOfNatNat (nat_lit 0)))) (@Eq.ndrec_symm Nat (@OfNat.ofNat Nat (nat_lit 0) (instOfNatNat (nat_lit 0))) (λx6=>((λ_=>t81) (CV.val (Value.slice none (@OfNat.ofNat Nat (nat_lit 0) (instOfNatNat (nat_lit 0))) x6)))) ((λ_=>(sliceV.match_4 (λ_ _ _=>t81) (bound (@OfNat.ofNat Nat (nat_lit 0) (instOfNatNat (nat_lit 0))) x1) (bound (@OfNat.ofNat Nat (nat_lit 0) (instOfNatNat (nat_lit 0))) x2) (bound (@OfNat.ofNat Nat (nat_lit 0) (instOfNatNat (nat_lit 0))) x3) (λ_=>(some (CV.val (Value.slice none (@OfNat.ofNat Nat (nat_lit 0) (instOfNatNat (nat_lit 0))) (@OfNat.ofNat Nat (nat_lit 0) (instOfNatNat (nat_lit 0))))))) (λ_ _ _=>none))) Unit.unit) x5) (λ_=>((λ_=>none) (CV.val (Value.slice none (@OfNat.ofNat Nat (nat_lit 0) (instOfNatNat (nat_lit 0))) x5))))) x4) (λ_=>((λ_=>none) (CV.val (Value.slice none x4 x5)))))) (λ_ _ _ _ _ _=>none) x0))
theorem l306_eq : ∀ x0 x1 x2 x3 x4 x5, (Eq (l306 x0 x1 x2 x3 x4 x5) (@sliceV._sparseCasesOn_7 Addr (λ_=>t81) x0 (@dite ((λ_=>t81) (CV.val (Value.slice none x4 x5))) (Eq x4 (@OfNat.ofNat Nat (nat_lit 0) (instOfNatNat (nat_lit 0)))) (instDecidableEqNat x4 (@OfNat.ofNat Nat (nat_lit 0) (instOfNatNat (nat_lit 0)))) (@Eq.ndrec_symm Nat (@OfNat.ofNat Nat (nat_lit 0) (instOfNatNat (nat_lit 0))) (λx6=>((λ_=>t81) (CV.val (Value.slice none x6 x5)))) (@dite ((λ_=>t81) (CV.val (Value.slice none (@OfNat.ofNat Nat (nat_lit 0) (instOfNatNat (nat_lit 0))) x5))) (Eq x5 (@OfNat.ofNat Nat (nat_lit 0) (instOfNatNat (nat_lit 0)))) (instDecidableEqNat x5 (@OfNat.ofNat Nat (nat_lit 0) (instOfNatNat (nat_lit 0)))) (@Eq.ndrec_symm Nat (@OfNat.ofNat Nat (nat_lit 0) (instOfNatNat (nat_lit 0))) (λx6=>((λ_=>t81) (CV.val (Value.slice none (@OfNat.ofNat Nat (nat_lit 0) (instOfNatNat (nat_lit 0))) x6)))) ((λ_=>(sliceV.match_4 (λ_ _ _=>t81) (bound (@OfNat.ofNat Nat (nat_lit 0) (instOfNatNat (nat_lit 0))) x1) (bound (@OfNat.ofNat Nat (nat_lit 0) (instOfNatNat (nat_lit 0))) x2) (bound (@OfNat.ofNat Nat (nat_lit 0) (instOfNatNat (nat_lit 0))) x3) (λ_=>(some (CV.val (Value.slice none (@OfNat.ofNat Nat (nat_lit 0) (instOfNatNat (nat_lit 0))) (@OfNat.ofNat Nat (nat_lit 0) (instOfNatNat (nat_lit 0))))))) (λ_ _ _=>none))) Unit.unit) x5) (λ_=>((λ_=>none) (CV.val (Value.slice none (@OfNat.ofNat Nat (nat_lit 0) (instOfNatNat (nat_lit 0))) x5))))) x4) (λ_=>((λ_=>none) (CV.val (Value.slice none x4 x5))))) (λ_=>none))) := by intro t; cases t <;> (intros; rfl)
abbrev t778:=t81 → t772
abbrev t779:=Value → t778
def l307 : t779 := (λx0=>(@Value.rec (λ_=>t778) (λ_=>PUnit.{1}) (λ_=>PUnit.{1}) (λ_ _ _ _=>none) (λ_ _ _ _ _=>none) (λ_ _ _ _ _=>none) (λ_ _ _ _ _ _=>none) (λ_ _ _ _=>none) (λ_ _ _ _=>none) (λx1 x2 x3 x4 x5 x6=>(l306 x1 x4 x5 x6 x2 x3)) (λ_ _ _ _=>none) (λ_ _ _ _=>none) (λ_ _ _ _ _ _ _ _=>none) (λ_ _ _=>none) (λ_ _ _ _ _ _=>none) (λ_ _ _=>none) (λ_ _ _ _ _=>none) (λ_ _ _ _ _=>none) (λ_ _=>PUnit.unit.{1}) PUnit.unit.{1} (λ_ _ _ _=>PUnit.unit.{1}) x0))
theorem l307_eq : ∀ x0 x1 x2 x3, (Eq (l307 x0 x1 x2 x3) (@sliceV._sparseCasesOn_6 (λ_=>t81) x0 (λx4 x5 x6=>(l306 x4 x1 x2 x3 x5 x6)) (λ_=>none))) := by intro t; cases t <;> (intros; rfl)
abbrev t780:=t81 → t743
abbrev t781:=t81 → t780
abbrev t782:=t81 → t781
abbrev t783:=CV → t782
def l308 : t783 := (λx0=>(@CV.rec (λ_=>t782) (λ_=>PUnit.{1}) (λ_ _ _ _=>none) (λx1 x2 x3 x4 _=>(l307 x1 x2 x3 x4)) (λ_ _ _ _ _ _=>none) (λx1 x2 x3 x4 x5 x6 x7 x8 x9=>(l304 x4 x9 x6 x7 x8 x1 x2 x3 x5)) (λx1 x2 x3 _=>(l305 (k_bound (nat_lit 0) x1) x2 x3)) (λ_ _ _ _ _=>none) (λ_ _ _ _ _ _=>none) (λ_ _ _ _ _ _=>none) (λ_ _ _ _ _ _ _ _ _=>none) (λ_ _ _ _ _=>none) (λ_ _ _ _ _ _ _=>none) PUnit.unit.{1} (λ_ _ _ _=>PUnit.unit.{1}) x0))
theorem l308_eq : ∀ x0 x1 x2 x3 x4, (Eq (l308 x0 x1 x2 x3 x4) (@sliceV._sparseCasesOn_5 (λ_=>t81) x0 (λx5 x6 x7 x8 x9=>(l304 x8 x4 x1 x2 x3 x5 x6 x7 x9)) (l305 (k_bound (nat_lit 0) x1) x2 x3) (λx5=>(l307 x5 x1 x2 x3)) (λ_=>none))) := by intro t; cases t <;> (intros; rfl)
abbrev t784:=CV → t778
abbrev t785:=Nat → t784
def k_sliceV : t785 := (λx0 x1 x2 x3 x4=>(l308 x1 x2 x3 x4 x0))
theorem k_sliceV_eq : @k_sliceV = sliceV := by
  delta k_sliceV sliceV
  simp only [l300_eq, l299_eq, l304_eq, l303_eq, l308_eq, l302_eq, l305_eq, l293_eq, l301_eq, l291_eq, l298_eq, l306_eq, l290_eq, l292_eq, l307_eq]
  rw [k_Nat_blt_eq, k_natAny_eq, k_bound_eq]
  all_goals kernel_rfl

abbrev t786:=Bool → t8
abbrev t787:=t81 → t786
abbrev t788:=t81 → t787
abbrev t789:=t81 → t788
abbrev t790:=CV → t789
abbrev t791:=t164 → t790
def l289 : t791 := (λx0=>(@Option.rec Nat (λ_=>t790) (λ_ _ _ _ _ _=>none) (λx1 x2 x3 x4 x5 x6 x7=>((λx8=>(k_ifT_Ret x6 (@Option.rec CV (λ_=>t4) none (λx9=>((λx10=>(k_ok1 x10 x7)) x9)) (k_sliceV x8 x2 x3 x4 x5)))) x1)) x0))
theorem l289_eq : ∀ x0 x1 x2 x3 x4 x5 x6, (Eq (l289 x0 x1 x2 x3 x4 x5 x6) (@Option.rec Nat (λ_=>t4) none (λx7=>((λx8=>(k_ifT_Ret x5 (@Option.rec CV (λ_=>t4) none (λx9=>((λx10=>(k_ok1 x10 x6)) x9)) (k_sliceV x8 x1 x2 x3 x4)))) x7)) x0)) := by intro t; cases t <;> (intros; rfl)
abbrev t792:=TypeId → t790
abbrev t793:=Program → t792
def k_o_sliceS : t793 := (λx0 x1 x2 x3 x4 x5 x6 x7=>(l289 (slSize x0 x1) x2 x3 x4 x5 x6 x7))
theorem k_o_sliceS_eq : @k_o_sliceS = o_sliceS := by
  delta k_o_sliceS o_sliceS
  simp only [l289_eq]
  rw [k_ifT_Ret_eq, k_sliceV_eq, k_ok1_eq]
  all_goals kernel_rfl

abbrev t794:=Option t81
abbrev t795:=t81 → t4
abbrev t796:=t81 → t795
abbrev t797:=CV → t796
abbrev t798:=S → t797
abbrev t799:=t709 → t798
abbrev t800:=t709 → t799
abbrev t801:=TypeId → t800
abbrev t802:=Program → t801
abbrev t803:=t794 → t802
def l288 : t803 := (λx0=>(@Option.rec t81 (λ_=>t802) (λ_ _ _ _ _ _ _ _=>none) (λx1 x2 x3 x4 x5 x6 x7 x8 x9=>(k_o_sliceS x2 x3 x7 x8 x9 x1 (@Bool.rec (λ_=>Bool) (@Bool.rec (λ_=>Bool) Bool.true Bool.false (k_Option_isSome_Operand x5)) Bool.true (k_Option_isSome_Operand x4)) x6)) x0))
theorem l288_eq : ∀ x0 x1 x2 x3 x4 x5 x6 x7 x8, (Eq (l288 x0 x1 x2 x3 x4 x5 x6 x7 x8) (@elInfo._sparseCasesOn_3 t81 (λ_=>t4) x0 (λx9=>(k_o_sliceS x1 x2 x6 x7 x8 x9 (@Bool.rec (λ_=>Bool) (@Bool.rec (λ_=>Bool) Bool.true Bool.false (k_Option_isSome_Operand x4)) Bool.true (k_Option_isSome_Operand x3)) x5)) (λ_=>none))) := by intro t; cases t <;> (intros; rfl)
abbrev t804:=t709 → t794
abbrev t805:=t14 → t804
def k_evO : t805 := (λx0 x1=>(@Option.rec Operand (λ_=>t794) (some none) (λx2=>((λx3=>(@Option.rec CV (λ_=>t794) none (λx4=>((λx5=>(some (some x5))) x4)) (k_ev x0 x3))) x2)) x1))
theorem k_evO_eq : @k_evO = evO := by
  delta k_evO evO
  rw [k_ev_eq]
  all_goals kernel_rfl

abbrev t806:=CV → t795
abbrev t807:=S → t806
abbrev t808:=t709 → t807
abbrev t809:=t709 → t808
abbrev t810:=TypeId → t809
abbrev t811:=t14 → t810
abbrev t812:=Program → t811
abbrev t813:=t794 → t812
def l309 : t813 := (λx0=>(@Option.rec t81 (λ_=>t812) (λ_ _ _ _ _ _ _ _=>none) (λx1 x2 x3 x4 x5 x6 x7 x8 x9=>(l288 (k_evO x3 x6) x2 x4 x5 x6 x7 x8 x9 x1)) x0))
theorem l309_eq : ∀ x0 x1 x2 x3 x4 x5 x6 x7 x8, (Eq (l309 x0 x1 x2 x3 x4 x5 x6 x7 x8) (@elInfo._sparseCasesOn_3 t81 (λ_=>t4) x0 (λx9=>(l288 (k_evO x2 x5) x1 x3 x4 x5 x6 x7 x8 x9)) (λ_=>none))) := by intro t; cases t <;> (intros; rfl)
abbrev t814:=t709 → t20
abbrev t815:=t709 → t814
abbrev t816:=TypeId → t815
abbrev t817:=t14 → t816
abbrev t818:=Program → t817
abbrev t819:=t794 → t818
def l310 : t819 := (λx0=>(@Option.rec t81 (λ_=>t818) (λ_ _ _ _ _ _ _=>none) (λx1 x2 x3 x4 x5 x6 x7 x8=>(l309 (k_evO x3 x5) x2 x3 x4 x5 x6 x7 x8 x1)) x0))
theorem l310_eq : ∀ x0 x1 x2 x3 x4 x5 x6 x7, (Eq (l310 x0 x1 x2 x3 x4 x5 x6 x7) (@elInfo._sparseCasesOn_3 t81 (λ_=>t4) x0 (λx8=>(l309 (k_evO x2 x4) x1 x2 x3 x4 x5 x6 x7 x8)) (λ_=>none))) := by intro t; cases t <;> (intros; rfl)
abbrev t820:=t709 → t815
abbrev t821:=TypeId → t820
abbrev t822:=t14 → t821
abbrev t823:=Program → t822
def l311 : t823 := (λx0 x1 x2 x3 x4 x5 x6 x7=>(l310 (k_evO x1 x3) x0 x1 x2 x4 x5 x6 x7))
theorem l311_eq : ∀ x0 x1 x2 x3 x4 x5 x6 x7, (Eq (l311 x0 x1 x2 x3 x4 x5 x6 x7) (l310 (k_evO x1 x3) x0 x1 x2 x4 x5 x6 x7)) := by intros; rfl
abbrev t824:=Nat → t789
abbrev t825:=Nat → t824
abbrev t826:=t228 → t825
def l313 : t826 := (λx0=>(@Prod.rec Nat Nat (λ_=>t825) (λx1 x2 x3 x4 x5 x6 x7 x8 x9=>((λx10 x11=>(k_ifT_Ret x8 (@Option.rec CV (λ_=>t4) none (λx12=>((λx13=>(k_ok1 x13 x9)) x12)) (k_sliceV x11 (CV.sl x3 x4 x10 (some x10) x11) x5 x6 x7)))) x1 x2)) x0))
theorem l313_eq : ∀ x0 x1 x2 x3 x4 x5 x6 x7, (Eq (l313 x0 x1 x2 x3 x4 x5 x6 x7) (@Prod.rec Nat Nat (λ_=>t4) (λx8 x9=>((λx10 x11=>(k_ifT_Ret x6 (@Option.rec CV (λ_=>t4) none (λx12=>((λx13=>(k_ok1 x13 x7)) x12)) (k_sliceV x11 (CV.sl x1 x2 x10 (some x10) x11) x3 x4 x5)))) x8 x9)) x0)) := by intro t; cases t <;> (intros; rfl)
abbrev t827:=TypeId → t825
abbrev t828:=Program → t827
def k_o_sliceA : t828 := (λx0 x1 x2 x3 x4 x5 x6 x7 x8=>(@Option.rec t228 (λ_=>t4) none (λx9=>(l313 x9 x2 x3 x4 x5 x6 x7 x8)) (arrInfo x0 x1)))
theorem k_o_sliceA_eq : @k_o_sliceA = o_sliceA := by
  delta k_o_sliceA o_sliceA
  simp only [l313_eq]
  rw [k_ifT_Ret_eq, k_sliceV_eq, k_ok1_eq]
  all_goals kernel_rfl

abbrev t829:=Nat → t796
abbrev t830:=Nat → t829
abbrev t831:=S → t830
abbrev t832:=t709 → t831
abbrev t833:=t709 → t832
abbrev t834:=TypeId → t833
abbrev t835:=Program → t834
abbrev t836:=t794 → t835
def l312 : t836 := (λx0=>(@Option.rec t81 (λ_=>t835) (λ_ _ _ _ _ _ _ _ _=>none) (λx1 x2 x3 x4 x5 x6 x7 x8 x9 x10=>(k_o_sliceA x2 x3 x7 x8 x9 x10 x1 (@Bool.rec (λ_=>Bool) (@Bool.rec (λ_=>Bool) Bool.true Bool.false (k_Option_isSome_Operand x5)) Bool.true (k_Option_isSome_Operand x4)) x6)) x0))
theorem l312_eq : ∀ x0 x1 x2 x3 x4 x5 x6 x7 x8 x9, (Eq (l312 x0 x1 x2 x3 x4 x5 x6 x7 x8 x9) (@elInfo._sparseCasesOn_3 t81 (λ_=>t4) x0 (λx10=>(k_o_sliceA x1 x2 x6 x7 x8 x9 x10 (@Bool.rec (λ_=>Bool) (@Bool.rec (λ_=>Bool) Bool.true Bool.false (k_Option_isSome_Operand x4)) Bool.true (k_Option_isSome_Operand x3)) x5)) (λ_=>none))) := by intro t; cases t <;> (intros; rfl)
abbrev t837:=Nat → t795
abbrev t838:=Nat → t837
abbrev t839:=S → t838
abbrev t840:=t709 → t839
abbrev t841:=t709 → t840
abbrev t842:=TypeId → t841
abbrev t843:=t14 → t842
abbrev t844:=Program → t843
abbrev t845:=t794 → t844
def l314 : t845 := (λx0=>(@Option.rec t81 (λ_=>t844) (λ_ _ _ _ _ _ _ _ _=>none) (λx1 x2 x3 x4 x5 x6 x7 x8 x9 x10=>(l312 (k_evO x3 x6) x2 x4 x5 x6 x7 x8 x9 x10 x1)) x0))
theorem l314_eq : ∀ x0 x1 x2 x3 x4 x5 x6 x7 x8 x9, (Eq (l314 x0 x1 x2 x3 x4 x5 x6 x7 x8 x9) (@elInfo._sparseCasesOn_3 t81 (λ_=>t4) x0 (λx10=>(l312 (k_evO x2 x5) x1 x3 x4 x5 x6 x7 x8 x9 x10)) (λ_=>none))) := by intro t; cases t <;> (intros; rfl)
abbrev t846:=S → t47
abbrev t847:=t709 → t846
abbrev t848:=t709 → t847
abbrev t849:=TypeId → t848
abbrev t850:=t14 → t849
abbrev t851:=Program → t850
abbrev t852:=t794 → t851
def l315 : t852 := (λx0=>(@Option.rec t81 (λ_=>t851) (λ_ _ _ _ _ _ _ _=>none) (λx1 x2 x3 x4 x5 x6 x7 x8 x9=>(l314 (k_evO x3 x5) x2 x3 x4 x5 x6 x7 x8 x9 x1)) x0))
theorem l315_eq : ∀ x0 x1 x2 x3 x4 x5 x6 x7 x8, (Eq (l315 x0 x1 x2 x3 x4 x5 x6 x7 x8) (@elInfo._sparseCasesOn_3 t81 (λ_=>t4) x0 (λx9=>(l314 (k_evO x2 x4) x1 x2 x3 x4 x5 x6 x7 x8 x9)) (λ_=>none))) := by intro t; cases t <;> (intros; rfl)
abbrev t853:=CV → t823
def l316 : t853 := (λx0=>(@CV.rec (λ_=>t823) (λ_=>PUnit.{1}) (λx1 x2 x3 x4 x5 x6 x7 x8=>(l311 x1 x2 x3 x4 x5 x6 x7 x8)) (λ_ x2 x3 x4 x5 x6 x7 x8 x9=>(l311 x2 x3 x4 x5 x6 x7 x8 x9)) (λx1 x2 x3 x4 x5 x6 x7 x8 x9 _=>(l315 (k_evO x4 x6) x3 x4 x5 x7 x8 x9 x1 x2)) (λ_ _ _ _ _ x6 x7 x8 x9 x10 x11 x12 x13=>(l311 x6 x7 x8 x9 x10 x11 x12 x13)) (λx1 x2 x3 x4 x5 x6 x7 x8=>(l311 x1 x2 x3 x4 x5 x6 x7 x8)) (λ_ x2 x3 x4 x5 x6 x7 x8 x9=>(l311 x2 x3 x4 x5 x6 x7 x8 x9)) (λ_ _ x3 x4 x5 x6 x7 x8 x9 x10=>(l311 x3 x4 x5 x6 x7 x8 x9 x10)) (λ_ _ x3 x4 x5 x6 x7 x8 x9 x10=>(l311 x3 x4 x5 x6 x7 x8 x9 x10)) (λ_ _ _ _ _ x6 x7 x8 x9 x10 x11 x12 x13=>(l311 x6 x7 x8 x9 x10 x11 x12 x13)) (λ_ x2 x3 x4 x5 x6 x7 x8 x9=>(l311 x2 x3 x4 x5 x6 x7 x8 x9)) (λ_ _ _ x4 x5 x6 x7 x8 x9 x10 x11=>(l311 x4 x5 x6 x7 x8 x9 x10 x11)) PUnit.unit.{1} (λ_ _ _ _=>PUnit.unit.{1}) x0))
theorem l316_eq : ∀ x0 x1 x2 x3 x4 x5 x6 x7 x8, (Eq (l316 x0 x1 x2 x3 x4 x5 x6 x7 x8) (@o_load._sparseCasesOn_2 (λ_=>t4) x0 (λx9 x10=>(l315 (k_evO x2 x4) x1 x2 x3 x5 x6 x7 x9 x10)) (λ_=>(l311 x1 x2 x3 x4 x5 x6 x7 x8)))) := by intro t; cases t <;> (intros; rfl)
abbrev t854:=t709 → t710
abbrev t855:=t709 → t854
abbrev t856:=TypeId → t855
abbrev t857:=t14 → t856
abbrev t858:=Program → t857
abbrev t859:=t81 → t858
def l317 : t859 := (λx0=>(@Option.rec CV (λ_=>t858) (λ_ _ _ _ _ _ _=>none) (λx1 x2 x3 x4 x5 x6 x7 x8=>(l316 x1 x2 x3 x4 x5 x6 x7 x8 x1)) x0))
theorem l317_eq : ∀ x0 x1 x2 x3 x4 x5 x6 x7, (Eq (l317 x0 x1 x2 x3 x4 x5 x6 x7) (@elInfo._sparseCasesOn_3 CV (λ_=>t4) x0 (λx8=>(l316 x8 x1 x2 x3 x4 x5 x6 x7 x8)) (λ_=>none))) := by intro t; cases t <;> (intros; rfl)
abbrev t860:=Operand → t855
abbrev t861:=TypeId → t860
abbrev t862:=t14 → t861
abbrev t863:=Program → t862
def k_o_slice : t863 := (λx0 x1 x2 x3 x4 x5 x6 x7=>(l317 (k_ev x1 x3) x0 x1 x2 x4 x5 x6 x7))
theorem k_o_slice_eq : @k_o_slice = o_slice := by
  delta k_o_slice o_slice
  simp only [l314_eq, l315_eq, l316_eq, l309_eq, l312_eq, l310_eq, l311_eq, l317_eq, l288_eq]
  rw [k_ev_eq, k_o_sliceS_eq, k_Option_isSome_Operand_eq, k_evO_eq, k_o_sliceA_eq]
  all_goals kernel_rfl

def l318 : t472 := (λx0=>(@CV.rec (λ_=>t471) (λ_=>PUnit.{1}) (λ_ _=>none) (λ_ _ _=>none) (λx1 x2 x3 x4=>(k_ok1 (CV.ptr x1 (Nat.add x2 x4)) x3)) (λ_ _ _ _ _ _ _=>none) (λ_ _=>none) (λ_ _ _=>none) (λ_ _ _ _=>none) (λ_ _ _ _=>none) (λ_ _ _ _ _ _ _=>none) (λ_ _ _=>none) (λ_ _ _ _ _=>none) PUnit.unit.{1} (λ_ _ _ _=>PUnit.unit.{1}) x0))
theorem l318_eq : ∀ x0 x1 x2, (Eq (l318 x0 x1 x2) (@o_load._sparseCasesOn_2 (λ_=>t4) x0 (λx3 x4=>(k_ok1 (CV.ptr x3 (Nat.add x4 x2)) x1)) (λ_=>none))) := by intro t; cases t <;> (intros; rfl)
def l319 : t473 := (λx0=>(@Option.rec CV (λ_=>t471) (λ_ _=>none) (λx1 x2 x3=>(l318 x1 x2 x3)) x0))
theorem l319_eq : ∀ x0 x1 x2, (Eq (l319 x0 x1 x2) (@elInfo._sparseCasesOn_3 CV (λ_=>t4) x0 (λx3=>(l318 x3 x1 x2)) (λ_=>none))) := by intro t; cases t <;> (intros; rfl)
abbrev t864:=t164 → t192
def l320 : t864 := (λx0=>(@Option.rec Nat (λ_=>t192) (λ_ _ _=>none) (λx1 x2 x3 x4=>(l319 (k_ev x2 x3) x4 x1)) x0))
theorem l320_eq : ∀ x0 x1 x2 x3, (Eq (l320 x0 x1 x2 x3) (@elInfo._sparseCasesOn_3 Nat (λ_=>t4) x0 (λx4=>(l319 (k_ev x1 x2) x3 x4)) (λ_=>none))) := by intro t; cases t <;> (intros; rfl)
abbrev t865:=Operand → t106
abbrev t866:=TypeId → t865
abbrev t867:=t14 → t866
abbrev t868:=Program → t867
def k_o_fieldAddr : t868 := (λx0 x1 x2 x3 x4 x5=>(l320 (fldOff x0 x2 x4) x1 x3 x5))
theorem k_o_fieldAddr_eq : @k_o_fieldAddr = o_fieldAddr := by
  delta k_o_fieldAddr o_fieldAddr
  simp only [l320_eq, l318_eq, l319_eq]
  rw [k_ok1_eq, k_ev_eq]
  all_goals kernel_rfl

def l321 : t470 := (λx0=>(@List.rec CV (λ_=>t20) (λx1 x2=>(k_ok1 x2 x1)) (λ_ _ _ _ _=>none) x0))
theorem l321_eq : ∀ x0 x1 x2, (Eq (l321 x0 x1 x2) (@zipIx._sparseCasesOn_2 CV (λ_=>t4) x0 (k_ok1 x2 x1) (λ_=>none))) := by intro t; cases t <;> (intros; rfl)
def l322 : t9 := (λx0=>(@List.rec CV (λ_=>t8) (λ_=>none) (λx1 x2 _ x4=>(l321 x2 x4 x1)) x0))
theorem l322_eq : ∀ x0 x1, (Eq (l322 x0 x1) (@zipIx._sparseCasesOn_3 CV (λ_=>t4) x0 (λx2 x3=>(l321 x3 x1 x2)) (λ_=>none))) := by intro t; cases t <;> (intros; rfl)
abbrev t869:=t31 → t8
def l323 : t869 := (λx0=>(@Option.rec t7 (λ_=>t8) (λ_=>none) (λx1 x2=>(l322 x1 x2)) x0))
theorem l323_eq : ∀ x0 x1, (Eq (l323 x0 x1) (@elInfo._sparseCasesOn_3 t7 (λ_=>t4) x0 (λx2=>(l322 x2 x1)) (λ_=>none))) := by intro t; cases t <;> (intros; rfl)
def l324 : t472 := (λx0=>(@CV.rec (λ_=>t471) (λ_=>PUnit.{1}) (λ_ _=>none) (λ_ _ _=>none) (λ_ _ _ _=>none) (λ_ _ _ _ _ _ _=>none) (λ_ _=>none) (λ_ _ _=>none) (λx1 _ x3 x4=>(l323 (k_part x1 x4 (nat_lit 1)) x3)) (λ_ _ _ _=>none) (λ_ _ _ _ _ _ _=>none) (λ_ _ _=>none) (λ_ _ _ _ _=>none) PUnit.unit.{1} (λ_ _ _ _=>PUnit.unit.{1}) x0))
theorem l324_eq : ∀ x0 x1 x2, (Eq (l324 x0 x1 x2) (@binV._sparseCasesOn_2 (λ_=>t4) x0 (λx3=>(l323 (k_part x3 x2 (nat_lit 1)) x1)) (λ_=>none))) := by intro t; cases t <;> (intros; rfl)
def l325 : t473 := (λx0=>(@Option.rec CV (λ_=>t471) (λ_ _=>none) (λx1 x2 x3=>(l324 x1 x2 x3)) x0))
theorem l325_eq : ∀ x0 x1 x2, (Eq (l325 x0 x1 x2) (@elInfo._sparseCasesOn_3 CV (λ_=>t4) x0 (λx3=>(l324 x3 x1 x2)) (λ_=>none))) := by intro t; cases t <;> (intros; rfl)
abbrev t870:=CV → t846
def l326 : t870 := (λx0=>(@CV.rec (λ_=>t846) (λ_=>PUnit.{1}) (λ_ _ _=>none) (λ_ _ _ _=>none) (λ_ _ _ _ _=>none) (λ_ _ _ _ _ _ _ _=>none) (λ_ _ _=>none) (λ_ _ _ _=>none) (λx1 _ x3 x4 x5=>(@Option.rec t7 (λ_=>t4) none (λx6=>((λx7=>(k_ok1 (CV.agg x7) x3)) x6)) (k_part x1 x4 x5))) (λ_ _ _ _ _=>none) (λ_ _ _ _ _ _ _ _=>none) (λ_ _ _ _=>none) (λ_ _ _ _ _ _=>none) PUnit.unit.{1} (λ_ _ _ _=>PUnit.unit.{1}) x0))
theorem l326_eq : ∀ x0 x1 x2 x3, (Eq (l326 x0 x1 x2 x3) (@binV._sparseCasesOn_2 (λ_=>t4) x0 (λx4=>(@Option.rec t7 (λ_=>t4) none (λx5=>((λx6=>(k_ok1 (CV.agg x6) x1)) x5)) (k_part x4 x2 x3))) (λ_=>none))) := by intro t; cases t <;> (intros; rfl)
abbrev t871:=t81 → t846
def l327 : t871 := (λx0=>(@Option.rec CV (λ_=>t846) (λ_ _ _=>none) (λx1 x2 x3 x4=>(l326 x1 x2 x3 x4)) x0))
theorem l327_eq : ∀ x0 x1 x2 x3, (Eq (l327 x0 x1 x2 x3) (@elInfo._sparseCasesOn_3 CV (λ_=>t4) x0 (λx4=>(l326 x4 x1 x2 x3)) (λ_=>none))) := by intro t; cases t <;> (intros; rfl)
abbrev t872:=t228 → t4
abbrev t873:=S → t872
abbrev t874:=Operand → t873
abbrev t875:=t14 → t874
abbrev t876:=Bool → t875
def l328 : t876 := (λx0=>(@Bool.rec (λ_=>t875) (λx1 x2 x3 x4=>(@Prod.rec Nat Nat (λ_=>t4) (λx5 _=>(l325 (k_ev x1 x2) x3 x5)) x4)) (λx1 x2 x3 x4=>(@Prod.rec Nat Nat (λ_=>t4) (λx5 x6=>(l327 (k_ev x1 x2) x3 x5 x6)) x4)) x0))
theorem l328_eq : ∀ x0 x1 x2 x3 x4, (Eq (l328 x0 x1 x2 x3 x4) (@Bool.rec (λ_=>t4) (@Prod.rec Nat Nat (λ_=>t4) (λx5 _=>(l325 (k_ev x1 x2) x3 x5)) x4) (@Prod.rec Nat Nat (λ_=>t4) (λx5 x6=>(l327 (k_ev x1 x2) x3 x5 x6)) x4) x0)) := by intro t; cases t <;> (intros; rfl)
abbrev t877:=Prod Bool t228
abbrev t878:=Option t877
abbrev t879:=t878 → t192
def l329 : t879 := (λx0=>(@Option.rec t877 (λ_=>t192) (λ_ _ _=>none) (λx1 x2 x3 x4=>(@Prod.rec Bool t228 (λ_=>t4) (λx5 x6=>(l328 x5 x2 x3 x4 x6)) x1)) x0))
theorem l329_eq : ∀ x0 x1 x2 x3, (Eq (l329 x0 x1 x2 x3) (@elInfo._sparseCasesOn_3 t877 (λ_=>t4) x0 (λx4=>(@Prod.rec Bool t228 (λ_=>t4) (λx5 x6=>(l328 x5 x1 x2 x3 x6)) x4)) (λ_=>none))) := by intro t; cases t <;> (intros; rfl)
abbrev t880:=Field → t878
abbrev t881:=t67 → t880
def l330 : t881 := (λx0=>(@Option.rec t66 (λ_=>t880) (λ_=>none) (λx1 x2=>(@Prod.rec Bool Nat (λ_=>t878) (λx3 x4=>((λx5 x6=>(some (x5, ((Field.offset x2), x6)))) x3 x4)) x1)) x0))
theorem l330_eq : ∀ x0 x1, (Eq (l330 x0 x1) (@Option.rec t66 (λ_=>t878) none (λx2=>(@Prod.rec Bool Nat (λ_=>t878) (λx3 x4=>((λx5 x6=>(some (x5, ((Field.offset x1), x6)))) x3 x4)) x2)) x0)) := by intro t; cases t <;> (intros; rfl)
abbrev t882:=Nat → t878
abbrev t883:=Program → t882
abbrev t884:=TypeDesc → t883
def l331 : t884 := (λx0=>(@TypeDesc.rec (λ_=>t883) (λ_ _=>none) (λ_ _=>none) (λ_ _ _=>none) (λ_ _ _=>none) (λ_ _ _=>none) (λ_ _=>none) (λ_ _=>none) (λ_ _ _=>none) (λ_ _ _=>none) (λ_ _ _ _=>none) (λ_ _ _ _=>none) (λ_ _ _ _=>none) (λx1 x2 x3=>(@Option.rec Field (λ_=>t878) none (λx4=>((λx5=>(l330 (tyInfo x2 (Field.type x5)) x5)) x4)) (@GetElem?.getElem? (Array Field) Nat Field (λx4 x5=>(@LT.lt Nat instLTNat x5 (@Array.size Field x4))) (@Array.instGetElem?NatLtSize Field) x1 x3))) (λ_ _ _ _ _=>none) (λ_ _ _=>none) (λ_ _ _=>none) (λ_ _ _ _=>none) x0))
theorem l331_eq : ∀ x0 x1 x2, (Eq (l331 x0 x1 x2) (@fldI._sparseCasesOn_3 (λ_=>t878) x0 (λx3=>(@Option.rec Field (λ_=>t878) none (λx4=>((λx5=>(l330 (tyInfo x1 (Field.type x5)) x5)) x4)) (@GetElem?.getElem? (Array Field) Nat Field (λx4 x5=>(@LT.lt Nat instLTNat x5 (@Array.size Field x4))) (@Array.instGetElem?NatLtSize Field) x3 x2))) (λ_=>none))) := by intro t; cases t <;> (intros; rfl)
abbrev t885:=t336 → t883
def l332 : t885 := (λx0=>(@Option.rec TypeDesc (λ_=>t883) (λ_ _=>none) (λx1 x2 x3=>(l331 x1 x2 x3)) x0))
theorem l332_eq : ∀ x0 x1 x2, (Eq (l332 x0 x1 x2) (@elInfo._sparseCasesOn_3 TypeDesc (λ_=>t878) x0 (λx3=>(l331 x3 x1 x2)) (λ_=>none))) := by intro t; cases t <;> (intros; rfl)
abbrev t886:=TypeId → t882
abbrev t887:=Program → t886
def k_fldI : t887 := (λx0 x1 x2=>(l332 (Program.underlying x0 x1) x0 x2))
theorem k_fldI_eq : @k_fldI = fldI := by
  delta k_fldI fldI
  simp only [l331_eq, l330_eq, l332_eq]
  all_goals kernel_rfl

def k_o_field : t868 := (λx0 x1 x2 x3 x4 x5=>(l329 (k_fldI x0 x2 x4) x1 x3 x5))
theorem k_o_field_eq : @k_o_field = o_field := by
  delta k_o_field o_field
  simp only [l328_eq, l327_eq, l325_eq, l323_eq, l329_eq, l321_eq, l326_eq, l324_eq, l322_eq]
  rw [k_fldI_eq, k_ok1_eq, k_part_eq, k_ev_eq]
  all_goals kernel_rfl

abbrev t888:=Nat → t672
abbrev t889:=S → t888
abbrev t890:=t164 → t889
end
end Go.EvK
