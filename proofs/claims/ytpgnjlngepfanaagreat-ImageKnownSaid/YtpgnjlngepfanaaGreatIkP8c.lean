/- Forms of the definitions that the kernel runs fast, each proved equal. No condition. -/
import Derived.Test.YtpgnjlngepfanaaGreatIkP8b
import Derived.KernelRfl
set_option linter.unusedVariables false
set_option linter.unusedSimpArgs false
set_option maxRecDepth 100000
namespace Go.EvK
open Go.Eng Go.Ev
noncomputable def l548 : t1733 := (fun x0 => (@Bool.rec (fun _ => t1732) (fun _ _ _ _ _ _ => Bool.false) (fun x1 x2 x3 x4 x5 x6 => (x5 x1 (Nat.add x2 (nat_lit 1)) x6 ((Tm.mk x2 (k_tmBits (looks x1 x4)) (k_dstBit (Oper.dst x4))) :: x3))) x0))
theorem l548_eq : ∀ x0 x1 x2 x3 x4 x5 x6, (Eq (l548 x0 x1 x2 x3 x4 x5 x6) (@Bool.rec (fun _ => Bool) Bool.false (x5 x1 (Nat.add x2 (nat_lit 1)) x6 ((Tm.mk x2 (k_tmBits (looks x1 x4)) (k_dstBit (Oper.dst x4))) :: x3)) x0)) := by intro t; cases t <;> (intros; rfl)
abbrev t1734 : Type := Tm → t1429
noncomputable def l550 : t1734 := (fun x0 => (@Tm.rec (fun _ => t1429) (fun x1 x2 x3 x4 x5 x6 x7 => (@Bool.rec (fun _ => Bool) Bool.false (x7 x4 x5 x6) (@Bool.rec (fun _ => Bool) (@Bool.rec (fun _ => Bool) Bool.false (Nat.beq (Nat.land x6 x2) (nat_lit 0)) (Nat.beq (Nat.land x3 (Nat.lor x5 x6)) (nat_lit 0))) Bool.true (Nat.testBit x4 x1)))) x0))
theorem l550_eq : ∀ x0 x1 x2 x3 x4, (Eq (l550 x0 x1 x2 x3 x4) (@Tm.rec (fun _ => Bool) (fun x5 x6 x7 => (@Bool.rec (fun _ => Bool) Bool.false (x4 x1 x2 x3) (@Bool.rec (fun _ => Bool) (@Bool.rec (fun _ => Bool) Bool.false (Nat.beq (Nat.land x3 x6) (nat_lit 0)) (Nat.beq (Nat.land x7 (Nat.lor x2 x3)) (nat_lit 0))) Bool.true (Nat.testBit x1 x5)))) x0)) := by intro t; cases t <;> (intros; rfl)
abbrev t1735 : Type := Nat → t1723
abbrev t1736 : Type := Nat → t1735
abbrev t1737 : Type := Nat → t1736
noncomputable def k_tmApart : t1737 := (fun x0 x1 x2 x3 => (@List.rec Tm (fun _ => t1425) (fun _ _ _ => Bool.true) (fun x4 _ x6 x7 x8 x9 => (l550 x4 x7 x8 x9 x6)) x3 x0 x1 x2))
theorem k_tmApart_law : ∀ x0 x1 x2 x3, (Eq (k_tmApart x1 x2 x3 x0) (tmApart x1 x2 x3 x0)) := by
  intro t
  induction t with
  | nil  =>
    intro z0 z1 z2
    show ((fun (_ : Nat) (_ : Nat) (_ : Nat) => Bool.true) z0 z1 z2) = _
    conv => rhs; rw [Ev.tmApart.eq_def]
    all_goals kernel_rfl
  | cons y0 y1 ih0 =>
    intro z0 z1 z2
    have e0 : (fun (x0 : Nat) (x1 : Nat) (x2 : Nat) => (k_tmApart x0 x1 x2 y1)) = (fun (x0 : Nat) (x1 : Nat) (x2 : Nat) => (tmApart x0 x1 x2 y1)) := by
      funext z0 z1 z2; exact ih0 z0 z1 z2
    show ((fun (x0 : Tm) (_ : t1720) (x2 : t1425) (x3 : Nat) (x4 : Nat) (x5 : Nat) => (l550 x0 x3 x4 x5 x2)) y0 y1 (fun (x0 : Nat) (x1 : Nat) (x2 : Nat) => (k_tmApart x0 x1 x2 y1)) z0 z1 z2) = _
    rw [e0]
    conv => rhs; rw [Ev.tmApart.eq_def]
    try simp only [l550_eq]
    all_goals kernel_rfl
theorem k_tmApart_eq : @k_tmApart = tmApart := by
  funext a0 a1 a2 a3; exact k_tmApart_law a3 a0 a1 a2
abbrev t1738 : Type := t1726 → Bool
abbrev t1739 : Type := Oper → t1738
abbrev t1740 : Type := t1720 → t1739
abbrev t1741 : Type := Nat → t1740
abbrev t1742 : Type := t161 → t1741
abbrev t1743 : Type := t1370 → t1742
noncomputable def l549 : t1743 := (fun x0 => (@List.rec Nat (fun _ => t1742) (fun _ _ _ _ _ => Bool.false) (fun x1 x2 _ x4 x5 x6 x7 x8 => (l548 (@Bool.rec (fun _ => Bool) Bool.false (@List.all Nat (deps x7) (fun x9 => (k_Nat_blt x9 x5))) (k_tmApart x1 (k_tmBits (looks x4 x7)) (k_dstBit (Oper.dst x7)) x6)) x4 x5 x6 x7 x8 x2)) x0))
theorem l549_eq : ∀ x0 x1 x2 x3 x4 x5, (Eq (l549 x0 x1 x2 x3 x4 x5) (@List.rec Nat (fun _ => Bool) Bool.false (fun x6 x7 _ => (l548 (@Bool.rec (fun _ => Bool) Bool.false (@List.all Nat (deps x4) (fun x9 => (k_Nat_blt x9 x2))) (k_tmApart x6 (k_tmBits (looks x1 x4)) (k_dstBit (Oper.dst x4)) x3)) x1 x2 x3 x4 x5 x7)) x0)) := by intro t; cases t <;> (intros; rfl)
abbrev t1744 : Type := t161 → t1726
noncomputable def k_tmOk : t1744 := (fun x0 x1 x2 x3 x4 => (@List.rec Oper (fun _ => t1726) (fun _ _ _ _ => Bool.true) (fun x5 _ x7 x8 x9 x10 x11 => (l549 x10 x8 x9 x11 x5 x7)) x1 x0 x2 x3 x4))
theorem k_tmOk_law : ∀ x0 x1 x2 x3 x4, (Eq (k_tmOk x1 x0 x2 x3 x4) (tmOk x1 x0 x2 x3 x4)) := by
  intro t
  induction t with
  | nil  =>
    intro z0 z1 z2 z3
    show ((fun (_ : t161) (_ : Nat) (_ : t1370) (_ : t1720) => Bool.true) z0 z1 z2 z3) = _
    conv => rhs; rw [Ev.tmOk.eq_def]
    all_goals kernel_rfl
  | cons y0 y1 ih0 =>
    intro z0 z1 z2 z3
    have e0 : (fun (x0 : t161) (x1 : Nat) (x2 : t1370) (x3 : t1720) => (k_tmOk x0 y1 x1 x2 x3)) = (fun (x0 : t161) (x1 : Nat) (x2 : t1370) (x3 : t1720) => (tmOk x0 y1 x1 x2 x3)) := by
      funext z0 z1 z2 z3; exact ih0 z0 z1 z2 z3
    show ((fun (x0 : Oper) (_ : t161) (x2 : t1726) (x3 : t161) (x4 : Nat) (x5 : t1370) (x6 : t1720) => (l549 x5 x3 x4 x6 x0 x2)) y0 y1 (fun (x0 : t161) (x1 : Nat) (x2 : t1370) (x3 : t1720) => (k_tmOk x0 y1 x1 x2 x3)) z0 z1 z2 z3) = _
    rw [e0]
    conv => rhs; rw [Ev.tmOk.eq_def]
    try simp only [l548_eq, l549_eq]
    try rw [k_dstBit_eq]
    try rw [k_tmBits_eq]
    try rw [k_tmApart_eq]
    try rw [k_Nat_blt_eq]
    all_goals kernel_rfl
theorem k_tmOk_eq : @k_tmOk = tmOk := by
  funext a0 a1 a2 a3 a4; exact k_tmOk_law a1 a0 a2 a3 a4
noncomputable def k_drawOk : t1153 := (fun x0 => (k_tmOk x0 x0 (nat_lit 0) (masks x0 []) []))
theorem k_drawOk_eq : @k_drawOk = drawOk := by
  delta k_drawOk drawOk
  rw [k_tmOk_eq]
  all_goals kernel_rfl

abbrev t1745 : Type := (Array Oper) → t1268
abbrev t1746 : Type := Run → t1745
abbrev t1747 : Type := Program → t1746
abbrev t1748 : Type := Bool → t1747
noncomputable def l492 : t1748 := (fun x0 => (@Bool.rec (fun _ => t1747) (fun x1 x2 x3 x4 x5 => (k_regS' x1 x2 (@Array.toList Oper x3) (@Array.toList Oper x3) x4 x5)) (fun x1 x2 x3 x4 x5 => (@Bool.rec (fun _ => t151) none (k_regD x1 x2 (@Array.toList Oper x3) (@Array.toList Oper x3) (nat_lit 0) (masks (@Array.toList Oper x3) []) [] x4 x5) (k_drawOk (@Array.toList Oper x3)))) x0))
theorem l492_eq : ∀ x0 x1 x2 x3 x4 x5, (Eq (l492 x0 x1 x2 x3 x4 x5) (@Bool.rec (fun _ => t151) (k_regS' x1 x2 (@Array.toList Oper x3) (@Array.toList Oper x3) x4 x5) (@Bool.rec (fun _ => t151) none (k_regD x1 x2 (@Array.toList Oper x3) (@Array.toList Oper x3) (nat_lit 0) (masks (@Array.toList Oper x3) []) [] x4 x5) (k_drawOk (@Array.toList Oper x3))) x0)) := by intro t; cases t <;> (intros; rfl)
abbrev t1749 : Type := Bool → t1268
abbrev t1750 : Type := (Array Oper) → t1749
abbrev t1751 : Type := Run → t1750
abbrev t1752 : Type := Program → t1751
noncomputable def k_codeReg : t1752 := (fun x0 x1 x2 x3 x4 x5 => (l492 x3 x0 x1 x2 x4 x5))
theorem k_codeReg_eq : @k_codeReg = codeReg := by
  delta k_codeReg codeReg
  simp only [l492_eq]
  rw [k_drawOk_eq, k_regD_eq, k_regS_eq]
  all_goals kernel_rfl

abbrev t1753 : Type := Ex → t151
abbrev t1754 : Type := t147 → t1753
abbrev t1755 : Type := Code → t1754
abbrev t1756 : Type := Run → t1755
abbrev t1757 : Type := Ex → t1756
noncomputable def l551 : t1757 := (fun x0 => (@Ex.rec (fun _ => t1756) (fun x1 x2 x3 _ => (@Prod.rec Fr S (fun _ => t151) (fun x5 x6 => ((fun x7 x8 => (Run.code x1 x2 x7 x8)) x5 x6)) x3)) (fun _ _ _ x4 x5 => (some (x5, x4))) (fun _ _ x3 x4 => (some (x4, x3))) (fun _ _ _ x4 x5 => (some (x5, x4))) x0))
theorem l551_eq : ∀ x0 x1 x2 x3 x4, (Eq (l551 x0 x1 x2 x3 x4) (@codeSeq._sparseCasesOn_1 (fun _ => t151) x0 (@Prod.rec Fr S (fun _ => t151) (fun x5 x6 => ((fun x7 x8 => (Run.code x1 x2 x7 x8)) x5 x6)) x3) (fun _ => (some (x4, x3))))) := by intro t; cases t <;> (intros; rfl)
abbrev t1758 : Type := Code → t151
abbrev t1759 : Type := S → t1758
abbrev t1760 : Type := Fr → t1759
abbrev t1761 : Type := Code → t1760
abbrev t1762 : Type := Run → t1761
abbrev t1763 : Type := t151 → t1762
noncomputable def l552 : t1763 := (fun x0 => (@Option.rec t148 (fun _ => t1762) (fun x1 x2 x3 x4 _ => (Run.code x1 x2 x3 x4)) (fun x1 x2 _ _ _ x6 => (@Prod.rec Ex t147 (fun _ => t151) (fun x7 x8 => (l551 x7 x2 x6 x8 x7)) x1)) x0))
theorem l552_eq : ∀ x0 x1 x2 x3 x4 x5, (Eq (l552 x0 x1 x2 x3 x4 x5) (@stepC._sparseCasesOn_1 t148 (fun _ => t151) x0 (fun x6 => (@Prod.rec Ex t147 (fun _ => t151) (fun x7 x8 => (l551 x7 x1 x5 x8 x7)) x6)) (fun _ => (Run.code x1 x2 x3 x4)))) := by intro t; cases t <;> (intros; rfl)
abbrev t1764 : Type := Code → t1268
abbrev t1765 : Type := Code → t1764
abbrev t1766 : Type := Run → t1765
noncomputable def k_codeSeq : t1766 := (fun x0 x1 x2 x3 x4 => (l552 (Run.code x0 x1 x3 x4) x0 x1 x3 x4 x2))
theorem k_codeSeq_eq : @k_codeSeq = codeSeq := by
  delta k_codeSeq codeSeq
  simp only [l551_eq, l552_eq]
  all_goals kernel_rfl

abbrev t1767 : Type := Value → t1766
noncomputable def l553 : t1767 := (fun x0 => (@Value.rec (fun _ => t1766) (fun _ => PUnit.{1}) (fun _ => PUnit.{1}) (fun x1 x2 x3 x4 x5 x6 => (@Bool.rec (fun _ => t151) (Run.code x2 x4 x5 x6) (Run.code x2 x3 x5 x6) x1)) (fun _ _ _ _ _ _ _ => none) (fun _ _ _ _ _ _ _ => none) (fun _ _ _ _ _ _ _ _ => none) (fun _ _ _ _ _ _ => none) (fun _ _ _ _ _ _ => none) (fun _ _ _ _ _ _ _ _ => none) (fun _ _ _ _ _ _ => none) (fun _ _ _ _ _ _ => none) (fun _ _ _ _ _ _ _ _ _ _ => none) (fun _ _ _ _ _ => none) (fun _ _ _ _ _ _ _ _ => none) (fun _ _ _ _ _ => none) (fun _ _ _ _ _ _ _ => none) (fun _ _ _ _ _ _ _ => none) (fun _ _ => PUnit.unit.{1}) PUnit.unit.{1} (fun _ _ _ _ => PUnit.unit.{1}) x0))
theorem l553_eq : ∀ x0 x1 x2 x3 x4 x5, (Eq (l553 x0 x1 x2 x3 x4 x5) (@codeCond._sparseCasesOn_2 (fun _ => t151) x0 (fun x6 => (@Bool.rec (fun _ => t151) (Run.code x1 x3 x4 x5) (Run.code x1 x2 x4 x5) x6)) (fun _ => none))) := by intro t; cases t <;> (intros; rfl)
abbrev t1768 : Type := CV → t1766
noncomputable def l554 : t1768 := (fun x0 => (@CV.rec (fun _ => t1766) (fun _ => PUnit.{1}) (fun _ _ _ _ _ => none) (fun x1 x2 x3 x4 x5 x6 => (l553 x1 x2 x3 x4 x5 x6)) (fun _ _ _ _ _ _ _ => none) (fun _ _ _ _ _ _ _ _ _ _ => none) (fun _ _ _ _ _ => none) (fun _ _ _ _ _ _ => none) (fun _ _ _ _ _ _ _ => none) (fun _ _ _ _ _ _ _ => none) (fun _ _ _ _ _ _ _ _ _ _ => none) (fun _ _ _ _ _ _ => none) (fun _ _ _ _ _ _ _ _ => none) PUnit.unit.{1} (fun _ _ _ _ => PUnit.unit.{1}) x0))
theorem l554_eq : ∀ x0 x1 x2 x3 x4 x5, (Eq (l554 x0 x1 x2 x3 x4 x5) (@codeCond._sparseCasesOn_1 (fun _ => t151) x0 (fun x6 => (l553 x6 x1 x2 x3 x4 x5)) (fun _ => none))) := by intro t; cases t <;> (intros; rfl)
abbrev t1769 : Type := t81 → t1766
noncomputable def l555 : t1769 := (fun x0 => (@Option.rec CV (fun _ => t1766) (fun _ _ _ _ _ => none) (fun x1 x2 x3 x4 x5 x6 => (l554 x1 x2 x3 x4 x5 x6)) x0))
theorem l555_eq : ∀ x0 x1 x2 x3 x4 x5, (Eq (l555 x0 x1 x2 x3 x4 x5) (@stepC._sparseCasesOn_1 CV (fun _ => t151) x0 (fun x6 => (l554 x6 x1 x2 x3 x4 x5)) (fun _ => none))) := by intro t; cases t <;> (intros; rfl)
abbrev t1770 : Type := Operand → t1765
abbrev t1771 : Type := Run → t1770
noncomputable def k_codeCond : t1771 := (fun x0 x1 x2 x3 x4 x5 => (l555 (k_ev (Fr.env x4) x1) x0 x2 x3 x4 x5))
theorem k_codeCond_eq : @k_codeCond = codeCond := by
  delta k_codeCond codeCond
  simp only [l555_eq, l554_eq, l553_eq]
  rw [k_ev_eq]
  all_goals kernel_rfl

abbrev t1772 : Type := t147 → t1393
noncomputable def l556 : t1772 := (fun x0 => (@Prod.rec Fr S (fun _ => t1393) (fun x1 x2 x3 x4 => ((fun x5 x6 x7 => (@Bool.rec (fun _ => t151) (some ((Ex.exit x5), (x6, x7))) (some (Ex.normal, (x6, x7))) (Nat.beq x5 x3))) x4 x1 x2)) x0))
theorem l556_eq : ∀ x0 x1 x2, (Eq (l556 x0 x1 x2) (@Prod.rec Fr S (fun _ => t151) (fun x3 x4 => ((fun x5 x6 x7 => (@Bool.rec (fun _ => t151) (some ((Ex.exit x5), (x6, x7))) (some (Ex.normal, (x6, x7))) (Nat.beq x5 x1))) x2 x3 x4)) x0)) := by intro t; cases t <;> (intros; rfl)
abbrev t1773 : Type := t147 → t1390
abbrev t1774 : Type := Ex → t1773
abbrev t1775 : Type := Ex → t1774
noncomputable def l557 : t1775 := (fun x0 => (@Ex.rec (fun _ => t1774) (fun x1 x2 _ => (some (x1, x2))) (fun x1 _ x3 x4 => (l556 x3 x4 x1)) (fun x1 x2 _ => (some (x1, x2))) (fun _ x2 x3 _ => (some (x2, x3))) x0))
theorem l557_eq : ∀ x0 x1 x2 x3, (Eq (l557 x0 x1 x2 x3) (@codeBlock._sparseCasesOn_1 (fun _ => t151) x0 (fun x4 => (l556 x2 x3 x4)) (fun _ => (some (x1, x2))))) := by intro t; cases t <;> (intros; rfl)
abbrev t1776 : Type := S → t1390
abbrev t1777 : Type := Fr → t1776
abbrev t1778 : Type := Code → t1777
abbrev t1779 : Type := Run → t1778
abbrev t1780 : Type := t151 → t1779
noncomputable def l558 : t1780 := (fun x0 => (@Option.rec t148 (fun _ => t1779) (fun x1 x2 x3 x4 _ => (Run.code x1 x2 x3 x4)) (fun x1 _ _ _ _ x6 => (@Prod.rec Ex t147 (fun _ => t151) (fun x7 x8 => (l557 x7 x7 x8 x6)) x1)) x0))
theorem l558_eq : ∀ x0 x1 x2 x3 x4 x5, (Eq (l558 x0 x1 x2 x3 x4 x5) (@stepC._sparseCasesOn_1 t148 (fun _ => t151) x0 (fun x6 => (@Prod.rec Ex t147 (fun _ => t151) (fun x7 x8 => (l557 x7 x7 x8 x5)) x6)) (fun _ => (Run.code x1 x2 x3 x4)))) := by intro t; cases t <;> (intros; rfl)
abbrev t1781 : Type := Nat → t1764
abbrev t1782 : Type := Run → t1781
noncomputable def k_codeBlock : t1782 := (fun x0 x1 x2 x3 x4 => (l558 (Run.code x0 x2 x3 x4) x0 x2 x3 x4 x1))
theorem k_codeBlock_eq : @k_codeBlock = codeBlock := by
  delta k_codeBlock codeBlock
  simp only [l557_eq, l556_eq, l558_eq]
  all_goals kernel_rfl

noncomputable def l559 : t1757 := (fun x0 => (@Ex.rec (fun _ => t1756) (fun x1 x2 x3 _ => (@Prod.rec Fr S (fun _ => t151) (fun x5 x6 => ((fun x7 x8 => (Run.code x1 (Code.loop x2) x7 x8)) x5 x6)) x3)) (fun _ _ _ x4 x5 => (some (x5, x4))) (fun _ _ x3 x4 => (some (x4, x3))) (fun _ _ _ x4 x5 => (some (x5, x4))) x0))
theorem l559_eq : ∀ x0 x1 x2 x3 x4, (Eq (l559 x0 x1 x2 x3 x4) (@codeSeq._sparseCasesOn_1 (fun _ => t151) x0 (@Prod.rec Fr S (fun _ => t151) (fun x5 x6 => ((fun x7 x8 => (Run.code x1 (Code.loop x2) x7 x8)) x5 x6)) x3) (fun _ => (some (x4, x3))))) := by intro t; cases t <;> (intros; rfl)
abbrev t1783 : Type := Run → t1764
abbrev t1784 : Type := t151 → t1783
noncomputable def l560 : t1784 := (fun x0 => (@Option.rec t148 (fun _ => t1783) (fun x1 x2 x3 x4 => (Run.code x1 x2 x3 x4)) (fun x1 x2 x3 _ _ => (@Prod.rec Ex t147 (fun _ => t151) (fun x6 x7 => (l559 x6 x2 x3 x7 x6)) x1)) x0))
theorem l560_eq : ∀ x0 x1 x2 x3 x4, (Eq (l560 x0 x1 x2 x3 x4) (@stepC._sparseCasesOn_1 t148 (fun _ => t151) x0 (fun x5 => (@Prod.rec Ex t147 (fun _ => t151) (fun x6 x7 => (l559 x6 x1 x2 x7 x6)) x5)) (fun _ => (Run.code x1 x2 x3 x4)))) := by intro t; cases t <;> (intros; rfl)
noncomputable def k_codeLoop : t1783 := (fun x0 x1 x2 x3 => (l560 (Run.code x0 x1 x2 x3) x0 x1 x2 x3))
theorem k_codeLoop_eq : @k_codeLoop = codeLoop := by
  delta k_codeLoop codeLoop
  simp only [l560_eq, l559_eq]
  all_goals kernel_rfl

abbrev t1785 : Type := t1267 → t1395
abbrev t1786 : Type := t44 → t1785
abbrev t1787 : Type := Nat → t1786
abbrev t1788 : Type := t44 → t1787
noncomputable def l562 : t1788 := (fun x0 => (@Option.rec CO (fun _ => t1787) (fun _ _ _ _ _ _ _ => none) (fun x1 x2 x3 x4 x5 x6 x7 x8 => ((fun _ => (@Option.rec t46 (fun _ => t151) none (fun x10 => ((fun x11 => (k_fN_433 (Nat.lor x8 (Nat.shiftLeft (nat_lit 1) x2)) (fun x12 => (x4 (S.mk x11 x6 x7 x12))))) x10)) (setCO (nat_lit 24) x5 x2 x3))) x1)) x0))
theorem l562_eq : ∀ x0 x1 x2 x3 x4 x5 x6 x7, (Eq (l562 x0 x1 x2 x3 x4 x5 x6 x7) (@Option.rec CO (fun _ => t151) none (fun x8 => ((fun _ => (@Option.rec t46 (fun _ => t151) none (fun x10 => ((fun x11 => (k_fN_433 (Nat.lor x7 (Nat.shiftLeft (nat_lit 1) x1)) (fun x12 => (x3 (S.mk x11 x5 x6 x12))))) x10)) (setCO (nat_lit 24) x4 x1 x2))) x8)) x0)) := by intro t; cases t <;> (intros; rfl)
abbrev t1789 : Type := t1267 → t151
abbrev t1790 : Type := t44 → t1789
abbrev t1791 : Type := Nat → t1790
abbrev t1792 : Type := S → t1791
noncomputable def l563 : t1792 := (fun x0 => (@S.rec (fun _ => t1791) (fun x1 x2 x3 x4 x5 x6 x7 => ((fun x8 x9 x10 x11 => (l562 (getCO x8 x5) x5 x6 x7 x8 x9 x10 x11)) x1 x2 x3 x4)) x0))
theorem l563_eq : ∀ x0 x1 x2 x3, (Eq (l563 x0 x1 x2 x3) (@S.rec (fun _ => t151) (fun x4 x5 x6 x7 => ((fun x8 x9 x10 x11 => (l562 (getCO x8 x1) x1 x2 x3 x8 x9 x10 x11)) x4 x5 x6 x7)) x0)) := by intro t; cases t <;> (intros; rfl)
noncomputable def k_wr_433 : t1792 := (fun x0 x1 x2 x3 => (l563 x0 x1 x2 x3))
theorem k_wr_433_eq : @k_wr_433 = (@wr t148) := by
  delta k_wr_433 wr
  simp only [l563_eq, l562_eq]
  rw [setCO_eq, k_fN_433_eq, getCO_eq]
  all_goals kernel_rfl

abbrev t1793 : Type := Code → t1390
abbrev t1794 : Type := Code → t1793
abbrev t1795 : Type := t1370 → t1794
abbrev t1796 : Type := Nat → t1795
abbrev t1797 : Type := t14 → t1796
abbrev t1798 : Type := S → t1797
abbrev t1799 : Type := Nat → t1798
abbrev t1800 : Type := Nat → t1799
abbrev t1801 : Type := t164 → t1800
abbrev t1802 : Type := t141 → t1801
abbrev t1803 : Type := t14 → t1802
abbrev t1804 : Type := Nat → t1803
abbrev t1805 : Type := t1197 → t1804
noncomputable def l561 : t1805 := (fun x0 => (@Option.rec Code (fun _ => t1804) (fun x1 x2 x3 x4 x5 x6 x7 x8 x9 x10 x11 x12 x13 => (k_wr_433 x7 x6 (some (CO.loop LoopState.exhausted none x8 x9 x10 x11 x12 x13)) (fun x14 => (some (Ex.normal, ((Fr.mk x1 x2 ((SD.mark x5) :: x3) x4), x14)))))) (fun _ _ _ _ _ _ _ _ _ _ _ _ _ _ => none) x0))
theorem l561_eq : ∀ x0 x1 x2 x3 x4 x5 x6 x7 x8 x9 x10 x11 x12 x13, (Eq (l561 x0 x1 x2 x3 x4 x5 x6 x7 x8 x9 x10 x11 x12 x13) (@rangeN._sparseCasesOn_2 Code (fun _ => t151) x0 (k_wr_433 x7 x6 (some (CO.loop LoopState.exhausted none x8 x9 x10 x11 x12 x13)) (fun x14 => (some (Ex.normal, ((Fr.mk x1 x2 ((SD.mark x5) :: x3) x4), x14))))) (fun _ => none))) := by intro t; cases t <;> (intros; rfl)
abbrev t1806 : Type := Run → t1804
abbrev t1807 : Type := t1197 → t1806
noncomputable def l564 : t1807 := (fun x0 => (@Option.rec Code (fun _ => t1806) (fun _ _ _ _ _ _ _ _ _ _ _ _ _ _ => none) (fun x1 x2 x3 x4 x5 x6 x7 x8 x9 x10 x11 x12 x13 x14 x15 => (k_wr_433 x9 x8 (some (CO.loop LoopState.exhausted (some x1) x10 x11 x12 x13 x14 x15)) (fun x16 => (Run.code x2 x1 (Fr.mk x3 x4 ((SD.mark x7) :: x5) x6) x16)))) x0))
theorem l564_eq : ∀ x0 x1 x2 x3 x4 x5 x6 x7 x8 x9 x10 x11 x12 x13 x14, (Eq (l564 x0 x1 x2 x3 x4 x5 x6 x7 x8 x9 x10 x11 x12 x13 x14) (@methV._sparseCasesOn_2 Code (fun _ => t151) x0 (fun x15 => (k_wr_433 x8 x7 (some (CO.loop LoopState.exhausted (some x15) x9 x10 x11 x12 x13 x14)) (fun x16 => (Run.code x1 x15 (Fr.mk x2 x3 ((SD.mark x6) :: x4) x5) x16)))) (fun _ => none))) := by intro t; cases t <;> (intros; rfl)
abbrev t1808 : Type := Run → t151
abbrev t1809 : Type := Nat → t1808
abbrev t1810 : Type := Code → t1809
abbrev t1811 : Type := Code → t1810
abbrev t1812 : Type := t1370 → t1811
abbrev t1813 : Type := Nat → t1812
abbrev t1814 : Type := t14 → t1813
abbrev t1815 : Type := t1197 → t1814
abbrev t1816 : Type := S → t1815
abbrev t1817 : Type := Nat → t1816
abbrev t1818 : Type := Nat → t1817
abbrev t1819 : Type := t164 → t1818
abbrev t1820 : Type := t141 → t1819
abbrev t1821 : Type := t14 → t1820
abbrev t1822 : Type := Nat → t1821
abbrev t1823 : Type := LoopState → t1822
noncomputable def l565 : t1823 := (fun x0 => (@LoopState.rec (fun _ => t1822) (fun x1 x2 x3 x4 x5 x6 x7 x8 x9 x10 x11 x12 x13 x14 _ => (l561 x8 x1 x2 x3 x4 x5 x6 x7 x9 x10 x11 x12 x13 x14)) (fun _ _ _ _ _ _ _ _ _ _ _ _ _ _ _ => none) (fun x1 x2 x3 x4 x5 x6 x7 x8 x9 x10 x11 x12 x13 x14 x15 => (l564 x8 x15 x1 x2 x3 x4 x5 x6 x7 x9 x10 x11 x12 x13 x14)) (fun _ _ _ _ _ _ _ _ _ _ _ _ _ _ _ => none) x0))
theorem l565_eq : ∀ x0 x1 x2 x3 x4 x5 x6 x7 x8 x9 x10 x11 x12 x13 x14 x15, (Eq (l565 x0 x1 x2 x3 x4 x5 x6 x7 x8 x9 x10 x11 x12 x13 x14 x15) (@rangeN._sparseCasesOn_1 (fun _ => t151) x0 (l561 x8 x1 x2 x3 x4 x5 x6 x7 x9 x10 x11 x12 x13 x14) (l564 x8 x15 x1 x2 x3 x4 x5 x6 x7 x9 x10 x11 x12 x13 x14) (fun _ => none))) := by intro t; cases t <;> (intros; rfl)
abbrev t1824 : Type := Nat → t1267
abbrev t1825 : Type := Nat → t1824
abbrev t1826 : Type := t164 → t1825
abbrev t1827 : Type := t141 → t1826
abbrev t1828 : Type := t14 → t1827
abbrev t1829 : Type := Nat → t1828
abbrev t1830 : Type := Run → t1829
abbrev t1831 : Type := CO → t1830
noncomputable def l566 : t1831 := (fun x0 => (@CO.rec (fun _ => t1830) (fun _ _ _ _ _ _ _ _ _ _ _ => none) (fun _ _ _ _ _ _ _ _ _ _ _ => none) (fun x1 x2 x3 x4 x5 x6 x7 x8 x9 x10 x11 x12 x13 x14 x15 x16 => (l565 x1 x10 x11 x12 x13 x14 x15 x16 x2 x3 x4 x5 x6 x7 x8 x9)) (fun _ _ _ _ _ _ _ _ => none) (fun _ _ _ _ _ _ _ _ => none) x0))
theorem l566_eq : ∀ x0 x1 x2 x3 x4 x5 x6 x7 x8, (Eq (l566 x0 x1 x2 x3 x4 x5 x6 x7 x8) (@roundN._sparseCasesOn_1 (fun _ => t151) x0 (fun x9 x10 x11 x12 x13 x14 x15 x16 => (l565 x9 x2 x3 x4 x5 x6 x7 x8 x10 x11 x12 x13 x14 x15 x16 x1)) (fun _ => none))) := by intro t; cases t <;> (intros; rfl)
abbrev t1832 : Type := CO → t1267
abbrev t1833 : Type := t1832 → t1395
abbrev t1834 : Type := Nat → t1833
abbrev t1835 : Type := t44 → t1834
noncomputable def l568 : t1835 := (fun x0 => (@Option.rec CO (fun _ => t1834) (fun _ _ _ _ _ _ => none) (fun x1 x2 x3 x4 x5 x6 x7 => ((fun x8 => (k_fN_433 (Nat.lor x6 (Nat.shiftLeft (nat_lit 1) x2)) (fun x9 => (x3 x8 (S.mk x4 x5 x9 x7))))) x1)) x0))
theorem l568_eq : ∀ x0 x1 x2 x3 x4 x5 x6, (Eq (l568 x0 x1 x2 x3 x4 x5 x6) (@Option.rec CO (fun _ => t151) none (fun x7 => ((fun x8 => (k_fN_433 (Nat.lor x5 (Nat.shiftLeft (nat_lit 1) x1)) (fun x9 => (x2 x8 (S.mk x3 x4 x9 x6))))) x7)) x0)) := by intro t; cases t <;> (intros; rfl)
abbrev t1836 : Type := t1832 → t151
abbrev t1837 : Type := Nat → t1836
abbrev t1838 : Type := S → t1837
noncomputable def l569 : t1838 := (fun x0 => (@S.rec (fun _ => t1837) (fun x1 x2 x3 x4 x5 x6 => ((fun x7 x8 x9 x10 => (l568 (getCO x7 x5) x5 x6 x7 x8 x9 x10)) x1 x2 x3 x4)) x0))
theorem l569_eq : ∀ x0 x1 x2, (Eq (l569 x0 x1 x2) (@S.rec (fun _ => t151) (fun x3 x4 x5 x6 => ((fun x7 x8 x9 x10 => (l568 (getCO x7 x1) x1 x2 x7 x8 x9 x10)) x3 x4 x5 x6)) x0)) := by intro t; cases t <;> (intros; rfl)
noncomputable def k_rd_433 : t1838 := (fun x0 x1 x2 => (l569 x0 x1 x2))
theorem k_rd_433_eq : @k_rd_433 = (@rd t148) := by
  delta k_rd_433 rd
  simp only [l568_eq, l569_eq]
  rw [k_fN_433_eq, getCO_eq]
  all_goals kernel_rfl

abbrev t1839 : Type := t164 → t1393
abbrev t1840 : Type := t141 → t1839
abbrev t1841 : Type := t14 → t1840
abbrev t1842 : Type := Nat → t1841
abbrev t1843 : Type := Run → t1842
abbrev t1844 : Type := Ret → t1843
noncomputable def l567 : t1844 := (fun x0 => (@Ret.rec (fun _ => t1843) (fun x1 x2 x3 x4 x5 x6 x7 x8 x9 => ((fun _ x11 => (k_rd_433 x11 x9 (fun x12 x13 => (l566 x12 x3 x4 x5 x6 x7 x8 x9 x13)))) x1 x2)) (fun x1 x2 _ x4 x5 x6 x7 x8 _ => ((fun x10 x11 => (some ((Ex.pan x10), ((Fr.mk x4 x5 ((SD.mark x8) :: x6) x7), x11)))) x1 x2)) x0))
theorem l567_eq : ∀ x0 x1 x2 x3 x4 x5 x6 x7, (Eq (l567 x0 x1 x2 x3 x4 x5 x6 x7) (@Ret.rec (fun _ => t151) (fun x8 x9 => ((fun _ x11 => (k_rd_433 x11 x7 (fun x12 x13 => (l566 x12 x1 x2 x3 x4 x5 x6 x7 x13)))) x8 x9)) (fun x8 x9 => ((fun x10 x11 => (some ((Ex.pan x10), ((Fr.mk x2 x3 ((SD.mark x6) :: x4) x5), x11)))) x8 x9)) x0)) := by intro t; cases t <;> (intros; rfl)
abbrev t1845 : Type := FuncId → t1825
abbrev t1846 : Type := t164 → t1845
abbrev t1847 : Type := t141 → t1846
abbrev t1848 : Type := t14 → t1847
abbrev t1849 : Type := Nat → t1848
abbrev t1850 : Type := Run → t1849
abbrev t1851 : Type := t31 → t1850
noncomputable def l570 : t1851 := (fun x0 => (@Option.rec t7 (fun _ => t1850) (fun _ _ _ _ _ _ _ _ _ => none) (fun x1 x2 x3 x4 x5 x6 x7 x8 x9 x10 => ((fun x11 => (@Option.rec Ret (fun _ => t151) none (fun x12 => (l567 x12 x2 x3 x4 x5 x6 x8 x9)) (Run.call x2 x7 x11 x10))) x1)) x0))
theorem l570_eq : ∀ x0 x1 x2 x3 x4 x5 x6 x7 x8 x9, (Eq (l570 x0 x1 x2 x3 x4 x5 x6 x7 x8 x9) (@Option.rec t7 (fun _ => t151) none (fun x10 => ((fun x11 => (@Option.rec Ret (fun _ => t151) none (fun x12 => (l567 x12 x1 x2 x3 x4 x5 x7 x8)) (Run.call x1 x6 x11 x9))) x10)) x0)) := by intro t; cases t <;> (intros; rfl)
abbrev t1852 : Type := t141 → t1799
abbrev t1853 : Type := t164 → t1852
abbrev t1854 : Type := t14 → t1853
abbrev t1855 : Type := Nat → t1854
abbrev t1856 : Type := t1197 → t1855
noncomputable def l571 : t1856 := (fun x0 => (@Option.rec Code (fun _ => t1855) (fun x1 x2 x3 x4 x5 x6 x7 x8 x9 x10 x11 x12 => (k_wr_433 x6 x5 (some (CO.loop LoopState.exhausted none x7 x8 x9 x10 x11 x12)) (fun x13 => (some (Ex.normal, ((Fr.mk x1 x2 x4 x3), x13)))))) (fun _ _ _ _ _ _ _ _ _ _ _ _ _ => none) x0))
theorem l571_eq : ∀ x0 x1 x2 x3 x4 x5 x6 x7 x8 x9 x10 x11 x12, (Eq (l571 x0 x1 x2 x3 x4 x5 x6 x7 x8 x9 x10 x11 x12) (@rangeN._sparseCasesOn_2 Code (fun _ => t151) x0 (k_wr_433 x6 x5 (some (CO.loop LoopState.exhausted none x7 x8 x9 x10 x11 x12)) (fun x13 => (some (Ex.normal, ((Fr.mk x1 x2 x4 x3), x13))))) (fun _ => none))) := by intro t; cases t <;> (intros; rfl)
abbrev t1857 : Type := Run → t1855
abbrev t1858 : Type := t1197 → t1857
noncomputable def l572 : t1858 := (fun x0 => (@Option.rec Code (fun _ => t1857) (fun _ _ _ _ _ _ _ _ _ _ _ _ _ => none) (fun x1 x2 x3 x4 x5 x6 x7 x8 x9 x10 x11 x12 x13 x14 => (k_wr_433 x8 x7 (some (CO.loop LoopState.exhausted (some x1) x9 x10 x11 x12 x13 x14)) (fun x15 => (Run.code x2 x1 (Fr.mk x3 x4 x6 x5) x15)))) x0))
theorem l572_eq : ∀ x0 x1 x2 x3 x4 x5 x6 x7 x8 x9 x10 x11 x12 x13, (Eq (l572 x0 x1 x2 x3 x4 x5 x6 x7 x8 x9 x10 x11 x12 x13) (@methV._sparseCasesOn_2 Code (fun _ => t151) x0 (fun x14 => (k_wr_433 x7 x6 (some (CO.loop LoopState.exhausted (some x14) x8 x9 x10 x11 x12 x13)) (fun x15 => (Run.code x1 x14 (Fr.mk x2 x3 x5 x4) x15)))) (fun _ => none))) := by intro t; cases t <;> (intros; rfl)
abbrev t1859 : Type := t141 → t1817
abbrev t1860 : Type := t164 → t1859
abbrev t1861 : Type := t14 → t1860
abbrev t1862 : Type := Nat → t1861
abbrev t1863 : Type := LoopState → t1862
noncomputable def l573 : t1863 := (fun x0 => (@LoopState.rec (fun _ => t1862) (fun x1 x2 x3 x4 x5 x6 x7 x8 x9 x10 x11 x12 x13 _ => (l571 x7 x1 x2 x3 x4 x5 x6 x8 x9 x10 x11 x12 x13)) (fun _ _ _ _ _ _ _ _ _ _ _ _ _ _ => none) (fun x1 x2 x3 x4 x5 x6 x7 x8 x9 x10 x11 x12 x13 x14 => (l572 x7 x14 x1 x2 x3 x4 x5 x6 x8 x9 x10 x11 x12 x13)) (fun _ _ _ _ _ _ _ _ _ _ _ _ _ _ => none) x0))
theorem l573_eq : ∀ x0 x1 x2 x3 x4 x5 x6 x7 x8 x9 x10 x11 x12 x13 x14, (Eq (l573 x0 x1 x2 x3 x4 x5 x6 x7 x8 x9 x10 x11 x12 x13 x14) (@rangeN._sparseCasesOn_1 (fun _ => t151) x0 (l571 x7 x1 x2 x3 x4 x5 x6 x8 x9 x10 x11 x12 x13) (l572 x7 x14 x1 x2 x3 x4 x5 x6 x8 x9 x10 x11 x12 x13) (fun _ => none))) := by intro t; cases t <;> (intros; rfl)
abbrev t1864 : Type := t141 → t1824
abbrev t1865 : Type := t164 → t1864
abbrev t1866 : Type := t14 → t1865
abbrev t1867 : Type := Nat → t1866
abbrev t1868 : Type := Run → t1867
abbrev t1869 : Type := CO → t1868
noncomputable def l574 : t1869 := (fun x0 => (@CO.rec (fun _ => t1868) (fun _ _ _ _ _ _ _ _ _ _ => none) (fun _ _ _ _ _ _ _ _ _ _ => none) (fun x1 x2 x3 x4 x5 x6 x7 x8 x9 x10 x11 x12 x13 x14 x15 => (l573 x1 x10 x11 x12 x13 x14 x15 x2 x3 x4 x5 x6 x7 x8 x9)) (fun _ _ _ _ _ _ _ => none) (fun _ _ _ _ _ _ _ => none) x0))
theorem l574_eq : ∀ x0 x1 x2 x3 x4 x5 x6 x7, (Eq (l574 x0 x1 x2 x3 x4 x5 x6 x7) (@roundN._sparseCasesOn_1 (fun _ => t151) x0 (fun x8 x9 x10 x11 x12 x13 x14 x15 => (l573 x8 x2 x3 x4 x5 x6 x7 x9 x10 x11 x12 x13 x14 x15 x1)) (fun _ => none))) := by intro t; cases t <;> (intros; rfl)
abbrev t1870 : Type := t141 → t1390
abbrev t1871 : Type := t164 → t1870
abbrev t1872 : Type := t14 → t1871
abbrev t1873 : Type := Nat → t1872
abbrev t1874 : Type := Run → t1873
abbrev t1875 : Type := Ret → t1874
noncomputable def l575 : t1875 := (fun x0 => (@Ret.rec (fun _ => t1874) (fun x1 x2 x3 x4 x5 x6 x7 x8 => ((fun _ x10 => (k_rd_433 x10 x8 (fun x11 x12 => (l574 x11 x3 x4 x5 x6 x7 x8 x12)))) x1 x2)) (fun x1 x2 _ x4 x5 x6 x7 _ => ((fun x9 x10 => (some ((Ex.pan x9), ((Fr.mk x4 x5 x7 x6), x10)))) x1 x2)) x0))
theorem l575_eq : ∀ x0 x1 x2 x3 x4 x5 x6, (Eq (l575 x0 x1 x2 x3 x4 x5 x6) (@Ret.rec (fun _ => t151) (fun x7 x8 => ((fun _ x10 => (k_rd_433 x10 x6 (fun x11 x12 => (l574 x11 x1 x2 x3 x4 x5 x6 x12)))) x7 x8)) (fun x7 x8 => ((fun x9 x10 => (some ((Ex.pan x9), ((Fr.mk x2 x3 x5 x4), x10)))) x7 x8)) x0)) := by intro t; cases t <;> (intros; rfl)
abbrev t1876 : Type := FuncId → t1864
abbrev t1877 : Type := t164 → t1876
abbrev t1878 : Type := t14 → t1877
abbrev t1879 : Type := Nat → t1878
abbrev t1880 : Type := Run → t1879
abbrev t1881 : Type := t31 → t1880
noncomputable def l576 : t1881 := (fun x0 => (@Option.rec t7 (fun _ => t1880) (fun _ _ _ _ _ _ _ _ => none) (fun x1 x2 x3 x4 x5 x6 x7 x8 x9 => ((fun x10 => (@Option.rec Ret (fun _ => t151) none (fun x11 => (l575 x11 x2 x3 x4 x5 x7 x8)) (Run.call x2 x6 x10 x9))) x1)) x0))
theorem l576_eq : ∀ x0 x1 x2 x3 x4 x5 x6 x7 x8, (Eq (l576 x0 x1 x2 x3 x4 x5 x6 x7 x8) (@Option.rec t7 (fun _ => t151) none (fun x9 => ((fun x10 => (@Option.rec Ret (fun _ => t151) none (fun x11 => (l575 x11 x1 x2 x3 x4 x6 x7)) (Run.call x1 x5 x10 x8))) x9)) x0)) := by intro t; cases t <;> (intros; rfl)
abbrev t1882 : Type := t1824 → t1394
abbrev t1883 : Type := t207 → t1882
noncomputable def l578 : t1883 := (fun x0 => (@Option.rec t46 (fun _ => t1882) (fun _ _ _ _ => none) (fun x1 x2 x3 x4 x5 => ((fun x6 => (k_fN_433 (Nat.add x3 (nat_lit 1)) (fun x7 => (k_fN_433 (Nat.lor x5 (Nat.shiftLeft (nat_lit 1) x3)) (fun x8 => (x2 x3 (S.mk x6 x7 x4 x8))))))) x1)) x0))
theorem l578_eq : ∀ x0 x1 x2 x3 x4, (Eq (l578 x0 x1 x2 x3 x4) (@Option.rec t46 (fun _ => t151) none (fun x5 => ((fun x6 => (k_fN_433 (Nat.add x2 (nat_lit 1)) (fun x7 => (k_fN_433 (Nat.lor x4 (Nat.shiftLeft (nat_lit 1) x2)) (fun x8 => (x1 x2 (S.mk x6 x7 x3 x8))))))) x5)) x0)) := by intro t; cases t <;> (intros; rfl)
abbrev t1884 : Type := t1824 → t151
abbrev t1885 : Type := CO → t1884
abbrev t1886 : Type := S → t1885
noncomputable def l579 : t1886 := (fun x0 => (@S.rec (fun _ => t1885) (fun x1 x2 x3 x4 x5 x6 => ((fun x7 x8 x9 x10 => (l578 (setCO (nat_lit 24) x7 x8 (some x5)) x6 x8 x9 x10)) x1 x2 x3 x4)) x0))
theorem l579_eq : ∀ x0 x1 x2, (Eq (l579 x0 x1 x2) (@S.rec (fun _ => t151) (fun x3 x4 x5 x6 => ((fun x7 x8 x9 x10 => (l578 (setCO (nat_lit 24) x7 x8 (some x1)) x2 x8 x9 x10)) x3 x4 x5 x6)) x0)) := by intro t; cases t <;> (intros; rfl)
noncomputable def k_nw_433 : t1886 := (fun x0 x1 x2 => (l579 x0 x1 x2))
theorem k_nw_433_eq : @k_nw_433 = (@nw t148) := by
  delta k_nw_433 nw
  simp only [l579_eq, l578_eq]
  rw [k_fN_433_eq, setCO_eq]
  all_goals kernel_rfl

abbrev t1887 : Type := t7 → t1267
abbrev t1888 : Type := t7 → t1887
abbrev t1889 : Type := FuncId → t1888
abbrev t1890 : Type := t164 → t1889
abbrev t1891 : Type := t141 → t1890
abbrev t1892 : Type := t14 → t1891
abbrev t1893 : Type := Nat → t1892
abbrev t1894 : Type := Code → t1893
abbrev t1895 : Type := Code → t1894
abbrev t1896 : Type := t1370 → t1895
abbrev t1897 : Type := Run → t1896
abbrev t1898 : Type := CO → t1897
noncomputable def l577 : t1898 := (fun x0 => (@CO.rec (fun _ => t1897) (fun _ _ _ _ _ _ _ _ _ _ _ _ _ _ _ => none) (fun _ _ _ _ _ _ _ _ _ _ _ _ _ _ _ => none) (fun _ _ _ _ _ _ _ x8 x9 x10 x11 x12 x13 x14 x15 x16 x17 x18 x19 x20 => ((fun x21 x22 x23 => (k_nw_433 x23 (CO.loop LoopState.ready none x14 x13 x10 x11 x12 x21) (fun x24 x25 => (l576 (k_app2 x18 ((CV.yld x24) :: []) x19) x9 x13 x14 x16 x17 x22 x24 x25)))) x8 x15 x20)) (fun _ _ _ _ _ _ _ _ _ _ _ _ => none) (fun _ _ _ _ _ _ _ _ _ _ _ _ => none) x0))
theorem l577_eq : ∀ x0 x1 x2 x3 x4 x5 x6 x7 x8 x9 x10 x11 x12, (Eq (l577 x0 x1 x2 x3 x4 x5 x6 x7 x8 x9 x10 x11 x12) (@roundN._sparseCasesOn_1 (fun _ => t151) x0 (fun _ _ _ _ _ _ _ x20 => ((fun x21 x22 x23 => (k_nw_433 x23 (CO.loop LoopState.ready none x6 x5 x2 x3 x4 x21) (fun x24 x25 => (l576 (k_app2 x10 ((CV.yld x24) :: []) x11) x1 x5 x6 x8 x9 x22 x24 x25)))) x20 x7 x12)) (fun _ => none))) := by intro t; cases t <;> (intros; rfl)
abbrev t1899 : Type := t7 → t151
abbrev t1900 : Type := t7 → t1899
abbrev t1901 : Type := FuncId → t1900
abbrev t1902 : Type := t164 → t1901
abbrev t1903 : Type := t141 → t1902
abbrev t1904 : Type := t14 → t1903
abbrev t1905 : Type := Nat → t1904
abbrev t1906 : Type := S → t1905
abbrev t1907 : Type := Code → t1906
abbrev t1908 : Type := Code → t1907
abbrev t1909 : Type := t1370 → t1908
abbrev t1910 : Type := Run → t1909
abbrev t1911 : Type := t164 → t1910
noncomputable def l580 : t1911 := (fun x0 => (@Option.rec Nat (fun _ => t1910) (fun x1 x2 x3 x4 x5 x6 x7 x8 x9 x10 x11 x12 => (k_nw_433 x5 CO.dfr (fun x13 x14 => (k_nw_433 x14 (CO.loop LoopState.ready none x7 x6 x2 x3 x4 x13) (fun x15 x16 => (l570 (k_app2 x11 ((CV.yld x15) :: []) x12) x1 x6 x7 x8 x9 x10 x13 x15 x16)))))) (fun x1 x2 x3 x4 x5 x6 x7 x8 x9 x10 x11 x12 x13 => ((fun x14 => (k_rd_433 x6 x14 (fun x15 x16 => (l577 x15 x2 x3 x4 x5 x7 x8 x9 x10 x11 x12 x13 x16)))) x1)) x0))
theorem l580_eq : ∀ x0 x1 x2 x3 x4 x5 x6 x7 x8 x9 x10 x11 x12, (Eq (l580 x0 x1 x2 x3 x4 x5 x6 x7 x8 x9 x10 x11 x12) (@Option.rec Nat (fun _ => t151) (k_nw_433 x5 CO.dfr (fun x13 x14 => (k_nw_433 x14 (CO.loop LoopState.ready none x7 x6 x2 x3 x4 x13) (fun x15 x16 => (l570 (k_app2 x11 ((CV.yld x15) :: []) x12) x1 x6 x7 x8 x9 x10 x13 x15 x16))))) (fun x13 => ((fun x14 => (k_rd_433 x5 x14 (fun x15 x16 => (l577 x15 x1 x2 x3 x4 x6 x7 x8 x9 x10 x11 x12 x16)))) x13)) x0)) := by intro t; cases t <;> (intros; rfl)
abbrev t1912 : Type := S → t1275
abbrev t1913 : Type := Code → t1912
abbrev t1914 : Type := Code → t1913
abbrev t1915 : Type := t1370 → t1914
abbrev t1916 : Type := Run → t1915
abbrev t1917 : Type := CV → t1916
noncomputable def l581 : t1917 := (fun x0 => (@CV.rec (fun _ => t1916) (fun _ => PUnit.{1}) (fun _ _ _ _ _ _ _ _ _ => none) (fun _ _ _ _ _ _ _ _ _ _ => none) (fun _ _ _ _ _ _ _ _ _ _ _ => none) (fun _ _ _ _ _ _ _ _ _ _ _ _ _ _ => none) (fun _ _ _ _ _ _ _ _ _ => none) (fun _ _ _ _ _ _ _ _ _ _ => none) (fun _ _ _ _ _ _ _ _ _ _ _ => none) (fun _ _ _ _ _ _ _ _ _ _ _ => none) (fun x1 x2 x3 _ _ x6 x7 x8 x9 x10 x11 x12 x13 x14 => (l580 x14 x6 x7 x8 x9 x10 x11 x12 x13 x14 x1 x2 x3)) (fun _ _ _ _ _ _ _ _ _ _ => none) (fun _ _ _ _ _ _ _ _ _ _ _ _ => none) PUnit.unit.{1} (fun _ _ _ _ => PUnit.unit.{1}) x0))
theorem l581_eq : ∀ x0 x1 x2 x3 x4 x5 x6 x7 x8 x9, (Eq (l581 x0 x1 x2 x3 x4 x5 x6 x7 x8 x9) (@deferV._sparseCasesOn_1 (fun _ => t151) x0 (fun x10 x11 x12 => (l580 x9 x1 x2 x3 x4 x5 x6 x7 x8 x9 x10 x11 x12)) (fun _ => none))) := by intro t; cases t <;> (intros; rfl)
abbrev t1918 : Type := t81 → t1916
noncomputable def l582 : t1918 := (fun x0 => (@Option.rec CV (fun _ => t1916) (fun _ _ _ _ _ _ _ _ _ => none) (fun x1 x2 x3 x4 x5 x6 x7 x8 x9 x10 => (l581 x1 x2 x3 x4 x5 x6 x7 x8 x9 x10)) x0))
theorem l582_eq : ∀ x0 x1 x2 x3 x4 x5 x6 x7 x8 x9, (Eq (l582 x0 x1 x2 x3 x4 x5 x6 x7 x8 x9) (@methV._sparseCasesOn_2 CV (fun _ => t151) x0 (fun x10 => (l581 x10 x1 x2 x3 x4 x5 x6 x7 x8 x9)) (fun _ => none))) := by intro t; cases t <;> (intros; rfl)
abbrev t1919 : Type := Code → t1267
abbrev t1920 : Type := Code → t1919
abbrev t1921 : Type := t1370 → t1920
abbrev t1922 : Type := Operand → t1921
abbrev t1923 : Type := Run → t1922
abbrev t1924 : Type := Fr → t1923
noncomputable def l583 : t1924 := (fun x0 => (@Fr.rec (fun _ => t1923) (fun x1 x2 x3 x4 x5 x6 x7 x8 x9 x10 => ((fun x11 x12 x13 x14 => (l582 (k_ev x12 x6) x5 x7 x8 x9 x10 x11 x12 x13 x14)) x1 x2 x3 x4)) x0))
theorem l583_eq : ∀ x0 x1 x2 x3 x4 x5 x6, (Eq (l583 x0 x1 x2 x3 x4 x5 x6) (@Fr.rec (fun _ => t151) (fun x7 x8 x9 x10 => ((fun x11 x12 x13 x14 => (l582 (k_ev x12 x2) x1 x3 x4 x5 x6 x11 x12 x13 x14)) x7 x8 x9 x10)) x0)) := by intro t; cases t <;> (intros; rfl)
abbrev t1925 : Type := t1370 → t1765
abbrev t1926 : Type := Operand → t1925
abbrev t1927 : Type := Run → t1926
abbrev t1928 : Type := Program → t1927
noncomputable def k_rangeN : t1928 := (fun _ x1 x2 x3 x4 x5 x6 x7 => (l583 x6 x1 x2 x3 x4 x5 x7))
theorem k_rangeN_eq : @k_rangeN = rangeN := by
  delta k_rangeN rangeN
  simp only [l573_eq, l582_eq, l583_eq, l565_eq, l571_eq, l564_eq, l566_eq, l570_eq, l567_eq, l575_eq, l572_eq, l577_eq, l561_eq, l576_eq, l580_eq, l574_eq, l581_eq]
  rw [k_wr_433_eq, k_rd_433_eq, k_nw_433_eq, k_app2_eq, k_ev_eq]
  all_goals kernel_rfl

noncomputable def k_codeScope : t1783 := (fun x0 x1 x2 x3 => (@Option.rec Nat (fun _ => t151) (Run.code x0 x1 x2 x3) (fun x4 => ((fun _ => none) x4)) (Fr.rd x2)))
theorem k_codeScope_eq : @k_codeScope = codeScope := by
  delta k_codeScope codeScope
  all_goals kernel_rfl

abbrev t1929 : Type := Run → t1268
abbrev t1930 : Type := Program → t1929
abbrev t1931 : Type := Code → t1930
noncomputable def l491 : t1931 := (fun x0 => (@Code.rec (fun _ => t1930) (fun _ _ x3 x4 => (some (Ex.normal, (x3, x4)))) (fun _ x2 x3 x4 x5 x6 x7 => (k_codeReg x4 x5 x2 x3 x6 x7)) (fun x1 x2 _ _ _ x6 x7 x8 => (k_codeSeq x6 x1 x2 x7 x8)) (fun x1 x2 x3 _ _ _ x7 x8 x9 => (k_codeCond x7 x1 x2 x3 x8 x9)) (fun x1 x2 _ _ x5 x6 x7 => (k_codeBlock x5 x1 x2 x6 x7)) (fun x1 _ _ x4 x5 x6 => (k_codeLoop x4 x1 x5 x6)) (fun x1 x2 x3 x4 _ _ x7 x8 x9 x10 => (k_rangeN x7 x8 x1 (@Array.toList Tmp x2) x3 x4 x9 x10)) (fun x1 _ _ x4 x5 => (some ((Ex.exit x1), (x4, x5)))) (fun x1 _ _ x4 x5 x6 => (k_codeScope x4 x1 x5 x6)) (fun _ _ _ x4 x5 => (some (Ex.normal, (x4, x5)))) (fun _ _ _ _ _ => none) (fun _ _ x3 x4 => (some (Ex.ret, (x3, x4)))) (fun _ _ _ _ _ => none) x0))
theorem l491_eq : ∀ x0, (Eq (l491 x0) (@codeF._sparseCasesOn_1 (fun _ => t1930) x0 (fun _ _ x3 x4 => (some (Ex.normal, (x3, x4)))) (fun _ _ _ x4 x5 => (some (Ex.normal, (x4, x5)))) (fun _ _ x3 x4 => (some (Ex.ret, (x3, x4)))) (fun x1 _ _ x4 x5 => (some ((Ex.exit x1), (x4, x5)))) (fun _ x2 x3 x4 x5 x6 x7 => (k_codeReg x4 x5 x2 x3 x6 x7)) (fun x1 x2 _ x4 x5 x6 => (k_codeSeq x4 x1 x2 x5 x6)) (fun x1 x2 x3 _ x5 x6 x7 => (k_codeCond x5 x1 x2 x3 x6 x7)) (fun x1 x2 _ x4 x5 x6 => (k_codeBlock x4 x1 x2 x5 x6)) (fun x1 _ x3 x4 x5 => (k_codeLoop x3 x1 x4 x5)) (fun x1 _ x3 x4 x5 => (k_codeScope x3 x1 x4 x5)) (fun x1 x2 x3 x4 x5 x6 x7 x8 => (k_rangeN x5 x6 x1 (@Array.toList Tmp x2) x3 x4 x7 x8)) (fun _ _ _ _ _ => none))) := by intro t; cases t <;> (intros; rfl)
noncomputable def k_codeF : t1931 := (fun x0 => (l491 x0))
theorem k_codeF_eq : @k_codeF = codeF := by
  delta k_codeF codeF
  simp only [l491_eq]
  rw [k_codeScope_eq, k_rangeN_eq, k_codeLoop_eq, k_codeBlock_eq, k_codeCond_eq, k_codeSeq_eq, k_codeReg_eq]
  all_goals kernel_rfl

abbrev t1932 : Type := Program → t1783
noncomputable def k_codeN' : t1932 := (fun x0 x1 x2 x3 x4 => (k_codeF x2 x0 x1 x3 x4))
theorem k_codeN'_eq : @k_codeN' = codeN' := by
  delta k_codeN' codeN'
  rw [k_codeF_eq]
  all_goals kernel_rfl

theorem k_codeN_eq : @k_codeN' = @codeN := k_codeN'_eq.trans codeN'_eq
abbrev t1933 : Type := CO → t106
noncomputable def l584 : t1933 := (fun x0 => (@CO.rec (fun _ => t106) (fun _ _ _ _ _ => none) (fun _ _ _ _ _ => none) (fun _ _ x3 x4 x5 x6 x7 x8 x9 x10 => (k_wr_Ret x10 x9 (some (CO.loop LoopState.ready none x3 x4 x5 x6 x7 x8)) (fun x11 => (some (Ret.ok (CV.val (Value.bool Bool.true)) x11))))) (fun _ _ => none) (fun _ _ => none) x0))
theorem l584_eq : ∀ x0 x1 x2, (Eq (l584 x0 x1 x2) (@roundN._sparseCasesOn_1 (fun _ => t4) x0 (fun _ _ x5 x6 x7 x8 x9 x10 => (k_wr_Ret x2 x1 (some (CO.loop LoopState.ready none x5 x6 x7 x8 x9 x10)) (fun x11 => (some (Ret.ok (CV.val (Value.bool Bool.true)) x11))))) (fun _ => none))) := by intro t; cases t <;> (intros; rfl)
noncomputable def l585 : t1933 := (fun x0 => (@CO.rec (fun _ => t106) (fun _ _ _ _ _ => none) (fun _ _ _ _ _ => none) (fun _ _ x3 x4 x5 x6 x7 x8 x9 x10 => (k_wr_Ret x10 x9 (some (CO.loop LoopState.done (some Code.ret) x3 x4 x5 x6 x7 x8)) (fun x11 => (some (Ret.ok (CV.val (Value.bool Bool.false)) x11))))) (fun _ _ => none) (fun _ _ => none) x0))
theorem l585_eq : ∀ x0 x1 x2, (Eq (l585 x0 x1 x2) (@roundN._sparseCasesOn_1 (fun _ => t4) x0 (fun _ _ x5 x6 x7 x8 x9 x10 => (k_wr_Ret x2 x1 (some (CO.loop LoopState.done (some Code.ret) x5 x6 x7 x8 x9 x10)) (fun x11 => (some (Ret.ok (CV.val (Value.bool Bool.false)) x11))))) (fun _ => none))) := by intro t; cases t <;> (intros; rfl)
abbrev t1934 : Type := CO → t925
noncomputable def l586 : t1934 := (fun x0 => (@CO.rec (fun _ => t925) (fun _ _ _ _ _ _ => none) (fun _ _ _ _ _ _ => none) (fun _ _ x3 x4 x5 x6 x7 x8 x9 x10 x11 => (k_wr_Ret x11 x9 (some (CO.loop LoopState.done (some (Code.exit x10)) x3 x4 x5 x6 x7 x8)) (fun x12 => (some (Ret.ok (CV.val (Value.bool Bool.false)) x12))))) (fun _ _ _ => none) (fun _ _ _ => none) x0))
theorem l586_eq : ∀ x0 x1 x2 x3, (Eq (l586 x0 x1 x2 x3) (@roundN._sparseCasesOn_1 (fun _ => t4) x0 (fun _ _ x6 x7 x8 x9 x10 x11 => (k_wr_Ret x3 x1 (some (CO.loop LoopState.done (some (Code.exit x2)) x6 x7 x8 x9 x10 x11)) (fun x12 => (some (Ret.ok (CV.val (Value.bool Bool.false)) x12))))) (fun _ => none))) := by intro t; cases t <;> (intros; rfl)
abbrev t1935 : Type := t147 → t47
noncomputable def l587 : t1935 := (fun x0 => (@Prod.rec Fr S (fun _ => t47) (fun x1 x2 x3 x4 => ((fun x5 _ x7 => (k_rd_Ret x7 x3 (fun x8 x9 => (l586 x8 x3 x5 x9)))) x4 x1 x2)) x0))
theorem l587_eq : ∀ x0 x1 x2, (Eq (l587 x0 x1 x2) (@Prod.rec Fr S (fun _ => t4) (fun x3 x4 => ((fun x5 _ x7 => (k_rd_Ret x7 x1 (fun x8 x9 => (l586 x8 x1 x5 x9)))) x2 x3 x4)) x0)) := by intro t; cases t <;> (intros; rfl)
abbrev t1936 : Type := Nat → t1239
abbrev t1937 : Type := Ex → t1936
noncomputable def l588 : t1937 := (fun x0 => (@Ex.rec (fun _ => t1936) (fun x1 x2 => (@Prod.rec Fr S (fun _ => t4) (fun x3 x4 => ((fun _ x6 => (k_rd_Ret x6 x1 (fun x7 x8 => (l584 x7 x1 x8)))) x3 x4)) x2)) (fun x1 x2 x3 => (l587 x3 x2 x1)) (fun x1 x2 => (@Prod.rec Fr S (fun _ => t4) (fun x3 x4 => ((fun _ x6 => (k_rd_Ret x6 x1 (fun x7 x8 => (l585 x7 x1 x8)))) x3 x4)) x2)) (fun _ _ _ => none) x0))
theorem l588_eq : ∀ x0 x1 x2, (Eq (l588 x0 x1 x2) (@roundN._sparseCasesOn_2 (fun _ => t4) x0 (@Prod.rec Fr S (fun _ => t4) (fun x3 x4 => ((fun _ x6 => (k_rd_Ret x6 x1 (fun x7 x8 => (l584 x7 x1 x8)))) x3 x4)) x2) (@Prod.rec Fr S (fun _ => t4) (fun x3 x4 => ((fun _ x6 => (k_rd_Ret x6 x1 (fun x7 x8 => (l585 x7 x1 x8)))) x3 x4)) x2) (fun x3 => (l587 x2 x1 x3)) (fun _ => none))) := by intro t; cases t <;> (intros; rfl)
abbrev t1938 : Type := t151 → t41
noncomputable def l589 : t1938 := (fun x0 => (@Option.rec t148 (fun _ => t41) (fun _ => none) (fun x1 x2 => (@Prod.rec Ex t147 (fun _ => t4) (fun x3 x4 => (l588 x3 x2 x4)) x1)) x0))
theorem l589_eq : ∀ x0 x1, (Eq (l589 x0 x1) (@methV._sparseCasesOn_2 t148 (fun _ => t4) x0 (fun x2 => (@Prod.rec Ex t147 (fun _ => t4) (fun x3 x4 => (l588 x3 x1 x4)) x2)) (fun _ => none))) := by intro t; cases t <;> (intros; rfl)
abbrev t1939 : Type := Code → t41
abbrev t1940 : Type := Code → t1939
abbrev t1941 : Type := t1370 → t1940
abbrev t1942 : Type := Nat → t1941
abbrev t1943 : Type := t14 → t1942
abbrev t1944 : Type := t1197 → t1943
abbrev t1945 : Type := S → t1944
abbrev t1946 : Type := t14 → t1945
abbrev t1947 : Type := Code → t1946
abbrev t1948 : Type := Nat → t1947
abbrev t1949 : Type := Nat → t1948
abbrev t1950 : Type := Run → t1949
abbrev t1951 : Type := LoopState → t1950
noncomputable def l590 : t1951 := (fun x0 => (@LoopState.rec (fun _ => t1950) (fun x1 x2 x3 x4 x5 x6 x7 x8 x9 x10 x11 x12 x13 => (k_wr_Ret x6 x2 (some (CO.loop LoopState.busy x7 x8 x9 x10 x11 x12 x13)) (fun x14 => (l589 (Run.code x1 x4 (Fr.mk x3 x5 [] (some x2)) x14) x2)))) (fun _ _ _ _ _ _ _ _ _ _ _ _ _ => none) (fun _ _ _ _ _ _ _ _ _ _ _ _ _ => none) (fun _ _ _ _ _ _ _ _ _ _ _ _ _ => none) x0))
theorem l590_eq : ∀ x0 x1 x2 x3 x4 x5 x6 x7 x8 x9 x10 x11 x12 x13, (Eq (l590 x0 x1 x2 x3 x4 x5 x6 x7 x8 x9 x10 x11 x12 x13) (@roundN._sparseCasesOn_3 (fun _ => t4) x0 (k_wr_Ret x6 x2 (some (CO.loop LoopState.busy x7 x8 x9 x10 x11 x12 x13)) (fun x14 => (l589 (Run.code x1 x4 (Fr.mk x3 x5 [] (some x2)) x14) x2))) (fun _ => none))) := by intro t; cases t <;> (intros; rfl)
abbrev t1952 : Type := Code → t1083
abbrev t1953 : Type := Nat → t1952
abbrev t1954 : Type := Nat → t1953
abbrev t1955 : Type := Run → t1954
abbrev t1956 : Type := CO → t1955
noncomputable def l591 : t1956 := (fun x0 => (@CO.rec (fun _ => t1955) (fun _ _ _ _ _ _ _ _ _ => none) (fun _ _ _ _ _ _ _ _ _ => none) (fun x1 x2 x3 x4 x5 x6 x7 x8 x9 x10 x11 x12 x13 x14 => (l590 x1 x9 x10 x11 x12 x13 x14 x2 x3 x4 x5 x6 x7 x8)) (fun _ _ _ _ _ _ => none) (fun _ _ _ _ _ _ => none) x0))
theorem l591_eq : ∀ x0 x1 x2 x3 x4 x5 x6, (Eq (l591 x0 x1 x2 x3 x4 x5 x6) (@roundN._sparseCasesOn_1 (fun _ => t4) x0 (fun x7 x8 x9 x10 x11 x12 x13 x14 => (l590 x7 x1 x2 x3 x4 x5 x6 x8 x9 x10 x11 x12 x13 x14)) (fun _ => none))) := by intro t; cases t <;> (intros; rfl)
abbrev t1957 : Type := t14 → t4
abbrev t1958 : Type := S → t1957
abbrev t1959 : Type := Code → t1958
abbrev t1960 : Type := Nat → t1959
abbrev t1961 : Type := Nat → t1960
abbrev t1962 : Type := Run → t1961
abbrev t1963 : Type := t141 → t1962
noncomputable def l592 : t1963 := (fun x0 => (@List.rec SD (fun _ => t1962) (fun x1 x2 x3 x4 x5 x6 => (k_rd_Ret x5 x2 (fun x7 x8 => (l591 x7 x1 x2 x3 x4 x6 x8)))) (fun _ _ _ _ _ _ _ _ _ => none) x0))
theorem l592_eq : ∀ x0 x1 x2 x3 x4 x5 x6, (Eq (l592 x0 x1 x2 x3 x4 x5 x6) (@methV._sparseCasesOn_1 SD (fun _ => t4) x0 (k_rd_Ret x5 x2 (fun x7 x8 => (l591 x7 x1 x2 x3 x4 x6 x8))) (fun _ => none))) := by intro t; cases t <;> (intros; rfl)
abbrev t1964 : Type := Nat → t1248
abbrev t1965 : Type := Nat → t1964
abbrev t1966 : Type := Run → t1965
abbrev t1967 : Type := t147 → t1966
noncomputable def l593 : t1967 := (fun x0 => (@Prod.rec Fr S (fun _ => t1966) (fun x1 x2 x3 x4 x5 x6 => (@Fr.rec (fun _ => t4) (fun _ x8 x9 _ => (l592 x9 x3 x4 x5 x6 x2 x8)) x1)) x0))
theorem l593_eq : ∀ x0 x1 x2 x3 x4, (Eq (l593 x0 x1 x2 x3 x4) (@Prod.rec Fr S (fun _ => t4) (fun x5 x6 => (@Fr.rec (fun _ => t4) (fun _ x8 x9 _ => (l592 x9 x1 x2 x3 x4 x6 x8)) x5)) x0)) := by intro t; cases t <;> (intros; rfl)
abbrev t1968 : Type := Code → t1239
abbrev t1969 : Type := Nat → t1968
abbrev t1970 : Type := Nat → t1969
abbrev t1971 : Type := Run → t1970
abbrev t1972 : Type := Ex → t1971
noncomputable def l594 : t1972 := (fun x0 => (@Ex.rec (fun _ => t1971) (fun x1 x2 x3 x4 x5 => (l593 x5 x1 x2 x3 x4)) (fun _ _ _ _ _ _ => none) (fun _ _ _ _ _ => none) (fun _ _ _ _ _ _ => none) x0))
theorem l594_eq : ∀ x0 x1 x2 x3 x4 x5, (Eq (l594 x0 x1 x2 x3 x4 x5) (@codeD._sparseCasesOn_1 (fun _ => t4) x0 (l593 x5 x1 x2 x3 x4) (fun _ => none))) := by intro t; cases t <;> (intros; rfl)
abbrev t1973 : Type := t151 → t1966
noncomputable def l595 : t1973 := (fun x0 => (@Option.rec t148 (fun _ => t1966) (fun _ _ _ _ => none) (fun x1 x2 x3 x4 x5 => (@Prod.rec Ex t147 (fun _ => t4) (fun x6 x7 => (l594 x6 x2 x3 x4 x5 x7)) x1)) x0))
theorem l595_eq : ∀ x0 x1 x2 x3 x4, (Eq (l595 x0 x1 x2 x3 x4) (@methV._sparseCasesOn_2 t148 (fun _ => t4) x0 (fun x5 => (@Prod.rec Ex t147 (fun _ => t4) (fun x6 x7 => (l594 x6 x1 x2 x3 x4 x7)) x5)) (fun _ => none))) := by intro t; cases t <;> (intros; rfl)
abbrev t1974 : Type := Code → t1248
abbrev t1975 : Type := Nat → t1974
abbrev t1976 : Type := S → t1975
abbrev t1977 : Type := Nat → t1976
abbrev t1978 : Type := Run → t1977
abbrev t1979 : Type := t165 → t1978
noncomputable def l596 : t1979 := (fun x0 => (@Option.rec t14 (fun _ => t1978) (fun _ _ _ _ _ _ => none) (fun x1 x2 x3 x4 x5 x6 x7 => ((fun x8 => (l595 (Run.code x2 x6 (Fr.mk x5 x8 [] (some x3)) x4) x2 x3 x5 x7)) x1)) x0))
theorem l596_eq : ∀ x0 x1 x2 x3 x4 x5 x6, (Eq (l596 x0 x1 x2 x3 x4 x5 x6) (@Option.rec t14 (fun _ => t4) none (fun x7 => ((fun x8 => (l595 (Run.code x1 x5 (Fr.mk x4 x8 [] (some x2)) x3) x1 x2 x4 x6)) x7)) x0)) := by intro t; cases t <;> (intros; rfl)
noncomputable def l598 : t1195 := (fun x0 => (@List.rec CV (fun _ => t166) (fun x1 => (some x1)) (fun _ _ _ _ => none) x0))
theorem l598_eq : ∀ x0 x1, (Eq (l598 x0 x1) (@methV._sparseCasesOn_1 CV (fun _ => t165) x0 (some x1) (fun _ => none))) := by intro t; cases t <;> (intros; rfl)
abbrev t1980 : Type := t1196 → t165
abbrev t1981 : Type := Nat → t1980
abbrev t1982 : Type := t14 → t1981
abbrev t1983 : Type := Nat → t1982
abbrev t1984 : Type := t7 → t1983
noncomputable def l599 : t1984 := (fun x0 => (@List.rec CV (fun _ => t1983) (fun _ _ _ _ => none) (fun x1 x2 _ x4 x5 x6 x7 => (@Bool.rec (fun _ => t165) none (@Option.rec t14 (fun _ => t165) none (fun x8 => (x7 x4 x2 x8)) (setCV (nat_lit 24) x5 x6 (some x1))) (k_Nat_blt x6 x4))) x0))
theorem l599_eq : ∀ x0 x1 x2 x3 x4, (Eq (l599 x0 x1 x2 x3 x4) (@setPs._sparseCasesOn_1 CV (fun _ => t165) x0 (fun x5 x6 => (@Bool.rec (fun _ => t165) none (@Option.rec t14 (fun _ => t165) none (fun x7 => (x4 x1 x6 x7)) (setCV (nat_lit 24) x2 x3 (some x5))) (k_Nat_blt x3 x1))) (fun _ => none))) := by intro t; cases t <;> (intros; rfl)
abbrev t1985 : Type := t1370 → t1195
abbrev t1986 : Type := Nat → t1985
noncomputable def k_setPs : t1986 := (fun x0 x1 x2 x3 => (@List.rec Nat (fun _ => t1196) (fun _ x5 x6 => (l598 x5 x6)) (fun x4 _ x6 x7 x8 x9 => (l599 x8 x7 x9 x4 x6)) x1 x0 x2 x3))
theorem k_setPs_law : ∀ x0 x1 x2 x3, (Eq (k_setPs x1 x0 x2 x3) (setPs x1 x0 x2 x3)) := by
  intro t
  induction t with
  | nil  =>
    intro z0 z1 z2
    show ((fun (_ : Nat) (x1 : t7) (x2 : t14) => (l598 x1 x2)) z0 z1 z2) = _
    conv => rhs; rw [Ev.setPs.eq_def]
    try simp only [l598_eq]
    all_goals kernel_rfl
  | cons y0 y1 ih0 =>
    intro z0 z1 z2
    have e0 : (fun (x0 : Nat) (x1 : t7) (x2 : t14) => (k_setPs x0 y1 x1 x2)) = (fun (x0 : Nat) (x1 : t7) (x2 : t14) => (setPs x0 y1 x1 x2)) := by
      funext z0 z1 z2; exact ih0 z0 z1 z2
    show ((fun (x0 : Nat) (_ : t1370) (x2 : t1196) (x3 : Nat) (x4 : t7) (x5 : t14) => (l599 x4 x3 x5 x0 x2)) y0 y1 (fun (x0 : Nat) (x1 : t7) (x2 : t14) => (k_setPs x0 y1 x1 x2)) z0 z1 z2) = _
    rw [e0]
    conv => rhs; rw [Ev.setPs.eq_def]
    try simp only [l599_eq]
    try rw [k_Nat_blt_eq]
    try rw [setCV_eq]
    all_goals kernel_rfl
theorem k_setPs_eq : @k_setPs = setPs := by
  funext a0 a1 a2 a3; exact k_setPs_law a1 a0 a2 a3
abbrev t1987 : Type := Run → t1044
abbrev t1988 : Type := CO → t1987
noncomputable def l597 : t1988 := (fun x0 => (@CO.rec (fun _ => t1987) (fun _ _ _ _ _ _ _ => none) (fun _ _ _ _ _ _ _ => none) (fun _ _ x3 x4 x5 x6 x7 _ x9 x10 x11 x12 => (l596 (k_setPs x4 x5 x11 x3) x9 x10 x12 x4 x6 x7)) (fun _ _ _ _ => none) (fun _ _ _ _ => none) x0))
theorem l597_eq : ∀ x0 x1 x2 x3 x4, (Eq (l597 x0 x1 x2 x3 x4) (@roundN._sparseCasesOn_1 (fun _ => t4) x0 (fun _ _ x7 x8 x9 x10 x11 _ => (l596 (k_setPs x8 x9 x3 x7) x1 x2 x4 x8 x10 x11)) (fun _ => none))) := by intro t; cases t <;> (intros; rfl)
abbrev t1989 : Type := Program → t1987
noncomputable def k_roundN : t1989 := (fun _ x1 x2 x3 x4 => (k_rd_Ret x4 x2 (fun x5 x6 => (l597 x5 x1 x2 x3 x6))))
theorem k_roundN_eq : @k_roundN = roundN := by
  delta k_roundN roundN
  simp only [l597_eq, l586_eq, l589_eq, l592_eq, l588_eq, l593_eq, l584_eq, l594_eq, l585_eq, l587_eq, l590_eq, l595_eq, l596_eq, l591_eq]
  rw [k_rd_Ret_eq, k_wr_Ret_eq, k_setPs_eq]
  all_goals kernel_rfl

abbrev t1990 : Type := t6 → Run
abbrev t1991 : Type := Program → t1990
abbrev t1992 : Type := Nat → Run
abbrev t1993 : Type := t6 → t1992
abbrev t1994 : Type := Program → t1993
noncomputable def k_runT : t1994 := (fun x0 x1 x2 => (@Nat.rec (fun _ => t1991) (fun _ _ => (Run.mk (fun _ _ _ => none) (fun _ _ _ => none) (fun _ _ _ => none))) (fun _ x4 x5 x6 => (Run.mk (k_callT x5 x6 (x4 x5 x6)) (k_codeN' x5 (x4 x5 x6)) (k_roundN x5 (x4 x5 x6)))) x2 x0 x1))
theorem k_runT_law : ∀ x0 x1 x2, (Eq (k_runT x1 x2 x0) (Ev.runT x1 x2 x0)) := by
  intro t
  induction t with
  | zero  =>
    intro z0 z1
    show ((fun (_ : Program) (_ : t6) => (Run.mk (fun (_ : FuncId) (_ : t7) (_ : S) => none) (fun (_ : Code) (_ : Fr) (_ : S) => none) (fun (_ : Nat) (_ : t7) (_ : S) => none))) z0 z1) = _
    conv => rhs; rw [Ev.runT.eq_def]
    all_goals kernel_rfl
  | succ y0 ih0 =>
    intro z0 z1
    have e0 : (fun (x0 : Program) (x1 : t6) => (k_runT x0 x1 y0)) = (fun (x0 : Program) (x1 : t6) => (Ev.runT x0 x1 y0)) := by
      funext z0 z1; exact ih0 z0 z1
    show ((fun (_ : Nat) (x1 : t1991) (x2 : Program) (x3 : t6) => (Run.mk (k_callT x2 x3 (x1 x2 x3)) (k_codeN' x2 (x1 x2 x3)) (k_roundN x2 (x1 x2 x3)))) y0 (fun (x0 : Program) (x1 : t6) => (k_runT x0 x1 y0)) z0 z1) = _
    rw [e0]
    conv => rhs; rw [Ev.runT.eq_def]
    try rw [k_roundN_eq]
    try rw [k_codeN_eq]
    try rw [k_callT_eq]
    all_goals kernel_rfl
theorem k_runT_eq : @k_runT = Ev.runT := by
  funext a0 a1 a2; exact k_runT_law a2 a0 a1
noncomputable def k_S0 : S := (S.mk (@Tr.nil CO) (nat_lit 0) (nat_lit 0) (nat_lit 0))
theorem k_S0_eq : @k_S0 = S0 := by
  delta k_S0 S0
  all_goals kernel_rfl

abbrev t1995 : Type := Nat → t6
abbrev t1996 : Type := t6 → t1995
abbrev t1997 : Type := Program → t1996
noncomputable def k_saysT : t1997 := (fun x0 x1 x2 x3 => (l4 (Run.call (k_runT x0 x1 x2) x3 [] k_S0)))
theorem k_saysT_eq : @k_saysT = saysT := by
  delta k_saysT saysT
  simp only [l2_eq, l4_eq, l0_eq, l1_eq, l3_eq]
  rw [k_S0_eq, k_runT_eq]
  all_goals kernel_rfl

end Go.EvK
