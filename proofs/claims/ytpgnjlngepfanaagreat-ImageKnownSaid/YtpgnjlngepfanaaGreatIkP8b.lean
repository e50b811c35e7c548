/- Forms of the definitions that the kernel runs fast, each proved equal. No condition. -/
import Derived.Test.YtpgnjlngepfanaaGreatIkP8a
import Derived.KernelRfl
set_option linter.unusedVariables false
set_option linter.unusedSimpArgs false
set_option maxRecDepth 100000
namespace Go.EvK
open Go.Eng Go.Ev
noncomputable def l300 : t770 := (fun x0 => (@Option.rec Nat (fun _ => t769) (fun _ _ => none) (fun x1 x2 x3 => (@dite ((fun _ _ _ => t81) (some x1) (bound (@OfNat.ofNat Nat (nat_lit 0) (instOfNatNat (nat_lit 0))) x2) (bound (@OfNat.ofNat Nat (nat_lit 0) (instOfNatNat (nat_lit 0))) x3)) (Eq x1 (@OfNat.ofNat Nat (nat_lit 0) (instOfNatNat (nat_lit 0)))) (instDecidableEqNat x1 (@OfNat.ofNat Nat (nat_lit 0) (instOfNatNat (nat_lit 0)))) (@Eq.ndrec_symm Nat (@OfNat.ofNat Nat (nat_lit 0) (instOfNatNat (nat_lit 0))) (fun x4 => ((fun _ _ _ => t81) (some x4) (bound (@OfNat.ofNat Nat (nat_lit 0) (instOfNatNat (nat_lit 0))) x2) (bound (@OfNat.ofNat Nat (nat_lit 0) (instOfNatNat (nat_lit 0))) x3))) (@elInfo._sparseCasesOn_3 Nat (fun x4 => ((fun _ _ _ => t81) (some (@OfNat.ofNat Nat (nat_lit 0) (instOfNatNat (nat_lit 0)))) x4 (bound (@OfNat.ofNat Nat (nat_lit 0) (instOfNatNat (nat_lit 0))) x3))) (bound (@OfNat.ofNat Nat (nat_lit 0) (instOfNatNat (nat_lit 0))) x2) (fun x4 => (@dite ((fun _ _ _ => t81) (some (@OfNat.ofNat Nat (nat_lit 0) (instOfNatNat (nat_lit 0)))) (some x4) (bound (@OfNat.ofNat Nat (nat_lit 0) (instOfNatNat (nat_lit 0))) x3)) (Eq x4 (@OfNat.ofNat Nat (nat_lit 0) (instOfNatNat (nat_lit 0)))) (instDecidableEqNat x4 (@OfNat.ofNat Nat (nat_lit 0) (instOfNatNat (nat_lit 0)))) (@Eq.ndrec_symm Nat (@OfNat.ofNat Nat (nat_lit 0) (instOfNatNat (nat_lit 0))) (fun x5 => ((fun _ _ _ => t81) (some (@OfNat.ofNat Nat (nat_lit 0) (instOfNatNat (nat_lit 0)))) (some x5) (bound (@OfNat.ofNat Nat (nat_lit 0) (instOfNatNat (nat_lit 0))) x3))) (@elInfo._sparseCasesOn_3 Nat (fun x5 => ((fun _ _ _ => t81) (some (@OfNat.ofNat Nat (nat_lit 0) (instOfNatNat (nat_lit 0)))) (some (@OfNat.ofNat Nat (nat_lit 0) (instOfNatNat (nat_lit 0)))) x5)) (bound (@OfNat.ofNat Nat (nat_lit 0) (instOfNatNat (nat_lit 0))) x3) (fun x5 => (@dite ((fun _ _ _ => t81) (some (@OfNat.ofNat Nat (nat_lit 0) (instOfNatNat (nat_lit 0)))) (some (@OfNat.ofNat Nat (nat_lit 0) (instOfNatNat (nat_lit 0)))) (some x5)) (Eq x5 (@OfNat.ofNat Nat (nat_lit 0) (instOfNatNat (nat_lit 0)))) (instDecidableEqNat x5 (@OfNat.ofNat Nat (nat_lit 0) (instOfNatNat (nat_lit 0)))) (@Eq.ndrec_symm Nat (@OfNat.ofNat Nat (nat_lit 0) (instOfNatNat (nat_lit 0))) (fun x6 => ((fun _ _ _ => t81) (some (@OfNat.ofNat Nat (nat_lit 0) (instOfNatNat (nat_lit 0)))) (some (@OfNat.ofNat Nat (nat_lit 0) (instOfNatNat (nat_lit 0)))) (some x6))) ((fun _ => (some CV.e0)) Unit.unit) x5) (fun _ => ((fun _ _ _ => none) (some (@OfNat.ofNat Nat (nat_lit 0) (instOfNatNat (nat_lit 0)))) (some (@OfNat.ofNat Nat (nat_lit 0) (instOfNatNat (nat_lit 0)))) (some x5))))) (fun _ => ((fun _ _ _ => none) (some (@OfNat.ofNat Nat (nat_lit 0) (instOfNatNat (nat_lit 0)))) (some (@OfNat.ofNat Nat (nat_lit 0) (instOfNatNat (nat_lit 0)))) (bound (@OfNat.ofNat Nat (nat_lit 0) (instOfNatNat (nat_lit 0))) x3)))) x4) (fun _ => ((fun _ _ _ => none) (some (@OfNat.ofNat Nat (nat_lit 0) (instOfNatNat (nat_lit 0)))) (some x4) (bound (@OfNat.ofNat Nat (nat_lit 0) (instOfNatNat (nat_lit 0))) x3))))) (fun _ => ((fun _ _ _ => none) (some (@OfNat.ofNat Nat (nat_lit 0) (instOfNatNat (nat_lit 0)))) (bound (@OfNat.ofNat Nat (nat_lit 0) (instOfNatNat (nat_lit 0))) x2) (bound (@OfNat.ofNat Nat (nat_lit 0) (instOfNatNat (nat_lit 0))) x3)))) x1) (fun _ => ((fun _ _ _ => none) (some x1) (bound (@OfNat.ofNat Nat (nat_lit 0) (instOfNatNat (nat_lit 0))) x2) (bound (@OfNat.ofNat Nat (nat_lit 0) (instOfNatNat (nat_lit 0))) x3))))) x0))
theorem l300_eq : ∀ x0 x1 x2, (Eq (l300 x0 x1 x2) (@elInfo._sparseCasesOn_3 Nat (fun _ => t81) x0 (fun x3 => (@dite ((fun _ _ _ => t81) (some x3) (bound (@OfNat.ofNat Nat (nat_lit 0) (instOfNatNat (nat_lit 0))) x1) (bound (@OfNat.ofNat Nat (nat_lit 0) (instOfNatNat (nat_lit 0))) x2)) (Eq x3 (@OfNat.ofNat Nat (nat_lit 0) (instOfNatNat (nat_lit 0)))) (instDecidableEqNat x3 (@OfNat.ofNat Nat (nat_lit 0) (instOfNatNat (nat_lit 0)))) (@Eq.ndrec_symm Nat (@OfNat.ofNat Nat (nat_lit 0) (instOfNatNat (nat_lit 0))) (fun x4 => ((fun _ _ _ => t81) (some x4) (bound (@OfNat.ofNat Nat (nat_lit 0) (instOfNatNat (nat_lit 0))) x1) (bound (@OfNat.ofNat Nat (nat_lit 0) (instOfNatNat (nat_lit 0))) x2))) (@elInfo._sparseCasesOn_3 Nat (fun x4 => ((fun _ _ _ => t81) (some (@OfNat.ofNat Nat (nat_lit 0) (instOfNatNat (nat_lit 0)))) x4 (bound (@OfNat.ofNat Nat (nat_lit 0) (instOfNatNat (nat_lit 0))) x2))) (bound (@OfNat.ofNat Nat (nat_lit 0) (instOfNatNat (nat_lit 0))) x1) (fun x4 => (@dite ((fun _ _ _ => t81) (some (@OfNat.ofNat Nat (nat_lit 0) (instOfNatNat (nat_lit 0)))) (some x4) (bound (@OfNat.ofNat Nat (nat_lit 0) (instOfNatNat (nat_lit 0))) x2)) (Eq x4 (@OfNat.ofNat Nat (nat_lit 0) (instOfNatNat (nat_lit 0)))) (instDecidableEqNat x4 (@OfNat.ofNat Nat (nat_lit 0) (instOfNatNat (nat_lit 0)))) (@Eq.ndrec_symm Nat (@OfNat.ofNat Nat (nat_lit 0) (instOfNatNat (nat_lit 0))) (fun x5 => ((fun _ _ _ => t81) (some (@OfNat.ofNat Nat (nat_lit 0) (instOfNatNat (nat_lit 0)))) (some x5) (bound (@OfNat.ofNat Nat (nat_lit 0) (instOfNatNat (nat_lit 0))) x2))) (@elInfo._sparseCasesOn_3 Nat (fun x5 => ((fun _ _ _ => t81) (some (@OfNat.ofNat Nat (nat_lit 0) (instOfNatNat (nat_lit 0)))) (some (@OfNat.ofNat Nat (nat_lit 0) (instOfNatNat (nat_lit 0)))) x5)) (bound (@OfNat.ofNat Nat (nat_lit 0) (instOfNatNat (nat_lit 0))) x2) (fun x5 => (@dite ((fun _ _ _ => t81) (some (@OfNat.ofNat Nat (nat_lit 0) (instOfNatNat (nat_lit 0)))) (some (@OfNat.ofNat Nat (nat_lit 0) (instOfNatNat (nat_lit 0)))) (some x5)) (Eq x5 (@OfNat.ofNat Nat (nat_lit 0) (instOfNatNat (nat_lit 0)))) (instDecidableEqNat x5 (@OfNat.ofNat Nat (nat_lit 0) (instOfNatNat (nat_lit 0)))) (@Eq.ndrec_symm Nat (@OfNat.ofNat Nat (nat_lit 0) (instOfNatNat (nat_lit 0))) (fun x6 => ((fun _ _ _ => t81) (some (@OfNat.ofNat Nat (nat_lit 0) (instOfNatNat (nat_lit 0)))) (some (@OfNat.ofNat Nat (nat_lit 0) (instOfNatNat (nat_lit 0)))) (some x6))) ((fun _ => (some CV.e0)) Unit.unit) x5) (fun _ => ((fun _ _ _ => none) (some (@OfNat.ofNat Nat (nat_lit 0) (instOfNatNat (nat_lit 0)))) (some (@OfNat.ofNat Nat (nat_lit 0) (instOfNatNat (nat_lit 0)))) (some x5))))) (fun _ => ((fun _ _ _ => none) (some (@OfNat.ofNat Nat (nat_lit 0) (instOfNatNat (nat_lit 0)))) (some (@OfNat.ofNat Nat (nat_lit 0) (instOfNatNat (nat_lit 0)))) (bound (@OfNat.ofNat Nat (nat_lit 0) (instOfNatNat (nat_lit 0))) x2)))) x4) (fun _ => ((fun _ _ _ => none) (some (@OfNat.ofNat Nat (nat_lit 0) (instOfNatNat (nat_lit 0)))) (some x4) (bound (@OfNat.ofNat Nat (nat_lit 0) (instOfNatNat (nat_lit 0))) x2))))) (fun _ => ((fun _ _ _ => none) (some (@OfNat.ofNat Nat (nat_lit 0) (instOfNatNat (nat_lit 0)))) (bound (@OfNat.ofNat Nat (nat_lit 0) (instOfNatNat (nat_lit 0))) x1) (bound (@OfNat.ofNat Nat (nat_lit 0) (instOfNatNat (nat_lit 0))) x2)))) x3) (fun _ => ((fun _ _ _ => none) (some x3) (bound (@OfNat.ofNat Nat (nat_lit 0) (instOfNatNat (nat_lit 0))) x1) (bound (@OfNat.ofNat Nat (nat_lit 0) (instOfNatNat (nat_lit 0))) x2))))) (fun _ => none))) := by intro t; cases t <;> (intros; rfl)
abbrev t771 : Type := t81 → t741
abbrev t772 : Type := t81 → t771
abbrev t773 : Type := t81 → t772
abbrev t774 : Type := t497 → t773
noncomputable def l301 : t774 := (fun x0 => (@Option.rec Addr (fun _ => t773) (fun x1 x2 x3 x4 x5 => (@dite ((fun _ => t81) (CV.val (Value.slice none x4 x5))) (Eq x4 (@OfNat.ofNat Nat (nat_lit 0) (instOfNatNat (nat_lit 0)))) (instDecidableEqNat x4 (@OfNat.ofNat Nat (nat_lit 0) (instOfNatNat (nat_lit 0)))) (@Eq.ndrec_symm Nat (@OfNat.ofNat Nat (nat_lit 0) (instOfNatNat (nat_lit 0))) (fun x6 => ((fun _ => t81) (CV.val (Value.slice none x6 x5)))) (@dite ((fun _ => t81) (CV.val (Value.slice none (@OfNat.ofNat Nat (nat_lit 0) (instOfNatNat (nat_lit 0))) x5))) (Eq x5 (@OfNat.ofNat Nat (nat_lit 0) (instOfNatNat (nat_lit 0)))) (instDecidableEqNat x5 (@OfNat.ofNat Nat (nat_lit 0) (instOfNatNat (nat_lit 0)))) (@Eq.ndrec_symm Nat (@OfNat.ofNat Nat (nat_lit 0) (instOfNatNat (nat_lit 0))) (fun x6 => ((fun _ => t81) (CV.val (Value.slice none (@OfNat.ofNat Nat (nat_lit 0) (instOfNatNat (nat_lit 0))) x6)))) ((fun _ => (sliceV.match_4 (fun _ _ _ => t81) (bound (@OfNat.ofNat Nat (nat_lit 0) (instOfNatNat (nat_lit 0))) x1) (bound (@OfNat.ofNat Nat (nat_lit 0) (instOfNatNat (nat_lit 0))) x2) (bound (@OfNat.ofNat Nat (nat_lit 0) (instOfNatNat (nat_lit 0))) x3) (fun _ => (some (CV.val (Value.slice none (@OfNat.ofNat Nat (nat_lit 0) (instOfNatNat (nat_lit 0))) (@OfNat.ofNat Nat (nat_lit 0) (instOfNatNat (nat_lit 0))))))) (fun _ _ _ => none))) Unit.unit) x5) (fun _ => ((fun _ => none) (CV.val (Value.slice none (@OfNat.ofNat Nat (nat_lit 0) (instOfNatNat (nat_lit 0))) x5))))) x4) (fun _ => ((fun _ => none) (CV.val (Value.slice none x4 x5)))))) (fun _ _ _ _ _ _ => none) x0))
theorem l301_eq : ∀ x0 x1 x2 x3 x4 x5, (Eq (l301 x0 x1 x2 x3 x4 x5) (@sliceV._sparseCasesOn_7 Addr (fun _ => t81) x0 (@dite ((fun _ => t81) (CV.val (Value.slice none x4 x5))) (Eq x4 (@OfNat.ofNat Nat (nat_lit 0) (instOfNatNat (nat_lit 0)))) (instDecidableEqNat x4 (@OfNat.ofNat Nat (nat_lit 0) (instOfNatNat (nat_lit 0)))) (@Eq.ndrec_symm Nat (@OfNat.ofNat Nat (nat_lit 0) (instOfNatNat (nat_lit 0))) (fun x6 => ((fun _ => t81) (CV.val (Value.slice none x6 x5)))) (@dite ((fun _ => t81) (CV.val (Value.slice none (@OfNat.ofNat Nat (nat_lit 0) (instOfNatNat (nat_lit 0))) x5))) (Eq x5 (@OfNat.ofNat Nat (nat_lit 0) (instOfNatNat (nat_lit 0)))) (instDecidableEqNat x5 (@OfNat.ofNat Nat (nat_lit 0) (instOfNatNat (nat_lit 0)))) (@Eq.ndrec_symm Nat (@OfNat.ofNat Nat (nat_lit 0) (instOfNatNat (nat_lit 0))) (fun x6 => ((fun _ => t81) (CV.val (Value.slice none (@OfNat.ofNat Nat (nat_lit 0) (instOfNatNat (nat_lit 0))) x6)))) ((fun _ => (sliceV.match_4 (fun _ _ _ => t81) (bound (@OfNat.ofNat Nat (nat_lit 0) (instOfNatNat (nat_lit 0))) x1) (bound (@OfNat.ofNat Nat (nat_lit 0) (instOfNatNat (nat_lit 0))) x2) (bound (@OfNat.ofNat Nat (nat_lit 0) (instOfNatNat (nat_lit 0))) x3) (fun _ => (some (CV.val (Value.slice none (@OfNat.ofNat Nat (nat_lit 0) (instOfNatNat (nat_lit 0))) (@OfNat.ofNat Nat (nat_lit 0) (instOfNatNat (nat_lit 0))))))) (fun _ _ _ => none))) Unit.unit) x5) (fun _ => ((fun _ => none) (CV.val (Value.slice none (@OfNat.ofNat Nat (nat_lit 0) (instOfNatNat (nat_lit 0))) x5))))) x4) (fun _ => ((fun _ => none) (CV.val (Value.slice none x4 x5))))) (fun _ => none))) := by intro t; cases t <;> (intros; rfl)
abbrev t775 : Type := t81 → t769
abbrev t776 : Type := Value → t775
noncomputable def l302 : t776 := (fun x0 => (@Value.rec (fun _ => t775) (fun _ => PUnit.{1}) (fun _ => PUnit.{1}) (fun _ _ _ _ => none) (fun _ _ _ _ _ => none) (fun _ _ _ _ _ => none) (fun _ _ _ _ _ _ => none) (fun _ _ _ _ => none) (fun _ _ _ _ => none) (fun x1 x2 x3 x4 x5 x6 => (l301 x1 x4 x5 x6 x2 x3)) (fun _ _ _ _ => none) (fun _ _ _ _ => none) (fun _ _ _ _ _ _ _ _ => none) (fun _ _ _ => none) (fun _ _ _ _ _ _ => none) (fun _ _ _ => none) (fun _ _ _ _ _ => none) (fun _ _ _ _ _ => none) (fun _ _ => PUnit.unit.{1}) PUnit.unit.{1} (fun _ _ _ _ => PUnit.unit.{1}) x0))
theorem l302_eq : ∀ x0 x1 x2 x3, (Eq (l302 x0 x1 x2 x3) (@sliceV._sparseCasesOn_6 (fun _ => t81) x0 (fun x4 x5 x6 => (l301 x4 x1 x2 x3 x5 x6)) (fun _ => none))) := by intro t; cases t <;> (intros; rfl)
abbrev t777 : Type := t81 → t740
abbrev t778 : Type := t81 → t777
abbrev t779 : Type := t81 → t778
abbrev t780 : Type := CV → t779
noncomputable def l303 : t780 := (fun x0 => (@CV.rec (fun _ => t779) (fun _ => PUnit.{1}) (fun _ _ _ _ => none) (fun x1 x2 x3 x4 _ => (l302 x1 x2 x3 x4)) (fun _ _ _ _ _ _ => none) (fun x1 x2 x3 x4 x5 x6 x7 x8 x9 => (l299 x4 x9 x6 x7 x8 x1 x2 x3 x5)) (fun x1 x2 x3 _ => (l300 (k_bound (nat_lit 0) x1) x2 x3)) (fun _ _ _ _ _ => none) (fun _ _ _ _ _ _ => none) (fun _ _ _ _ _ _ => none) (fun _ _ _ _ _ _ _ _ _ => none) (fun _ _ _ _ _ => none) (fun _ _ _ _ _ _ _ => none) PUnit.unit.{1} (fun _ _ _ _ => PUnit.unit.{1}) x0))
theorem l303_eq : ∀ x0 x1 x2 x3 x4, (Eq (l303 x0 x1 x2 x3 x4) (@sliceV._sparseCasesOn_5 (fun _ => t81) x0 (fun x5 x6 x7 x8 x9 => (l299 x8 x4 x1 x2 x3 x5 x6 x7 x9)) (l300 (k_bound (nat_lit 0) x1) x2 x3) (fun x5 => (l302 x5 x1 x2 x3)) (fun _ => none))) := by intro t; cases t <;> (intros; rfl)
abbrev t781 : Type := CV → t775
abbrev t782 : Type := Nat → t781
noncomputable def k_sliceV : t782 := (fun x0 x1 x2 x3 x4 => (l303 x1 x2 x3 x4 x0))
theorem k_sliceV_eq : @k_sliceV = sliceV := by
  delta k_sliceV sliceV
  simp only [l300_eq, l299_eq, l294_eq, l303_eq, l285_eq, l302_eq, l293_eq, l301_eq, l286_eq, l298_eq, l287_eq, l297_eq, l288_eq, l296_eq, l295_eq]
  rw [k_Nat_blt_eq, k_natAny_eq, k_bound_eq]
  all_goals kernel_rfl

abbrev t783 : Type := Option t81
abbrev t784 : Type := t81 → t4
abbrev t785 : Type := t81 → t784
abbrev t786 : Type := CV → t785
abbrev t787 : Type := Nat → t786
abbrev t788 : Type := S → t787
abbrev t789 : Type := t706 → t788
abbrev t790 : Type := t706 → t789
abbrev t791 : Type := t783 → t790
noncomputable def l284 : t791 := (fun x0 => (@Option.rec t81 (fun _ => t790) (fun _ _ _ _ _ _ _ => none) (fun x1 x2 x3 x4 x5 x6 x7 x8 => (k_ifT_Ret (@Bool.rec (fun _ => Bool) (@Bool.rec (fun _ => Bool) Bool.true Bool.false (k_Option_isSome_Operand x3)) Bool.true (k_Option_isSome_Operand x2)) (@Option.rec CV (fun _ => t4) none (fun x9 => ((fun x10 => (k_ok1 x10 x4)) x9)) (k_sliceV x5 x6 x7 x8 x1)))) x0))
theorem l284_eq : ∀ x0 x1 x2 x3 x4 x5 x6 x7, (Eq (l284 x0 x1 x2 x3 x4 x5 x6 x7) (@elInfo._sparseCasesOn_3 t81 (fun _ => t4) x0 (fun x8 => (k_ifT_Ret (@Bool.rec (fun _ => Bool) (@Bool.rec (fun _ => Bool) Bool.true Bool.false (k_Option_isSome_Operand x2)) Bool.true (k_Option_isSome_Operand x1)) (@Option.rec CV (fun _ => t4) none (fun x9 => ((fun x10 => (k_ok1 x10 x3)) x9)) (k_sliceV x4 x5 x6 x7 x8)))) (fun _ => none))) := by intro t; cases t <;> (intros; rfl)
abbrev t792 : Type := t706 → t783
abbrev t793 : Type := t14 → t792
noncomputable def k_evO : t793 := (fun x0 x1 => (@Option.rec Operand (fun _ => t783) (some none) (fun x2 => ((fun x3 => (@Option.rec CV (fun _ => t783) none (fun x4 => ((fun x5 => (some (some x5))) x4)) (k_ev x0 x3))) x2)) x1))
theorem k_evO_eq : @k_evO = evO := by
  delta k_evO evO
  rw [k_ev_eq]
  all_goals kernel_rfl

abbrev t794 : Type := CV → t784
abbrev t795 : Type := Nat → t794
abbrev t796 : Type := S → t795
abbrev t797 : Type := t706 → t796
abbrev t798 : Type := t706 → t797
abbrev t799 : Type := t14 → t798
abbrev t800 : Type := t783 → t799
noncomputable def l304 : t800 := (fun x0 => (@Option.rec t81 (fun _ => t799) (fun _ _ _ _ _ _ _ => none) (fun x1 x2 x3 x4 x5 x6 x7 x8 => (l284 (k_evO x2 x4) x3 x4 x5 x6 x7 x8 x1)) x0))
theorem l304_eq : ∀ x0 x1 x2 x3 x4 x5 x6 x7, (Eq (l304 x0 x1 x2 x3 x4 x5 x6 x7) (@elInfo._sparseCasesOn_3 t81 (fun _ => t4) x0 (fun x8 => (l284 (k_evO x1 x3) x2 x3 x4 x5 x6 x7 x8)) (fun _ => none))) := by intro t; cases t <;> (intros; rfl)
abbrev t801 : Type := S → t445
abbrev t802 : Type := t706 → t801
abbrev t803 : Type := t706 → t802
abbrev t804 : Type := t14 → t803
abbrev t805 : Type := t783 → t804
noncomputable def l305 : t805 := (fun x0 => (@Option.rec t81 (fun _ => t804) (fun _ _ _ _ _ _ => none) (fun x1 x2 x3 x4 x5 x6 x7 => (l304 (k_evO x2 x3) x2 x3 x4 x5 x6 x7 x1)) x0))
theorem l305_eq : ∀ x0 x1 x2 x3 x4 x5 x6, (Eq (l305 x0 x1 x2 x3 x4 x5 x6) (@elInfo._sparseCasesOn_3 t81 (fun _ => t4) x0 (fun x7 => (l304 (k_evO x1 x2) x1 x2 x3 x4 x5 x6 x7)) (fun _ => none))) := by intro t; cases t <;> (intros; rfl)
abbrev t806 : Type := t706 → t471
abbrev t807 : Type := t706 → t806
abbrev t808 : Type := t706 → t807
abbrev t809 : Type := t14 → t808
abbrev t810 : Type := t81 → t809
noncomputable def l306 : t810 := (fun x0 => (@Option.rec CV (fun _ => t809) (fun _ _ _ _ _ _ => none) (fun x1 x2 x3 x4 x5 x6 x7 => (l305 (k_evO x2 x3) x2 x4 x5 x6 x7 x1)) x0))
theorem l306_eq : ∀ x0 x1 x2 x3 x4 x5 x6, (Eq (l306 x0 x1 x2 x3 x4 x5 x6) (@elInfo._sparseCasesOn_3 CV (fun _ => t4) x0 (fun x7 => (l305 (k_evO x1 x2) x1 x3 x4 x5 x6 x7)) (fun _ => none))) := by intro t; cases t <;> (intros; rfl)
abbrev t811 : Type := t706 → t707
abbrev t812 : Type := t706 → t811
abbrev t813 : Type := Operand → t812
abbrev t814 : Type := t14 → t813
abbrev t815 : Type := t164 → t814
noncomputable def l307 : t815 := (fun x0 => (@Option.rec Nat (fun _ => t814) (fun _ _ _ _ _ _ => none) (fun x1 x2 x3 x4 x5 x6 x7 => (l306 (k_ev x2 x3) x2 x4 x5 x6 x7 x1)) x0))
theorem l307_eq : ∀ x0 x1 x2 x3 x4 x5 x6, (Eq (l307 x0 x1 x2 x3 x4 x5 x6) (@elInfo._sparseCasesOn_3 Nat (fun _ => t4) x0 (fun x7 => (l306 (k_ev x1 x2) x1 x3 x4 x5 x6 x7)) (fun _ => none))) := by intro t; cases t <;> (intros; rfl)
abbrev t816 : Type := TypeId → t813
abbrev t817 : Type := t14 → t816
abbrev t818 : Type := Program → t817
noncomputable def k_o_slice : t818 := (fun x0 x1 x2 x3 x4 x5 x6 x7 => (l307 (slSize x0 x2) x1 x3 x4 x5 x6 x7))
theorem k_o_slice_eq : @k_o_slice = o_slice := by
  delta k_o_slice o_slice
  simp only [l284_eq, l304_eq, l305_eq, l306_eq, l307_eq]
  rw [k_ifT_Ret_eq, k_sliceV_eq, k_ok1_eq, k_Option_isSome_Operand_eq, k_evO_eq, k_ev_eq]
  all_goals kernel_rfl

noncomputable def l308 : t472 := (fun x0 => (@CV.rec (fun _ => t471) (fun _ => PUnit.{1}) (fun _ _ => none) (fun _ _ _ => none) (fun x1 x2 x3 x4 => (k_ok1 (CV.ptr x1 (Nat.add x2 x4)) x3)) (fun _ _ _ _ _ _ _ => none) (fun _ _ => none) (fun _ _ _ => none) (fun _ _ _ _ => none) (fun _ _ _ _ => none) (fun _ _ _ _ _ _ _ => none) (fun _ _ _ => none) (fun _ _ _ _ _ => none) PUnit.unit.{1} (fun _ _ _ _ => PUnit.unit.{1}) x0))
theorem l308_eq : ∀ x0 x1 x2, (Eq (l308 x0 x1 x2) (@o_load._sparseCasesOn_2 (fun _ => t4) x0 (fun x3 x4 => (k_ok1 (CV.ptr x3 (Nat.add x4 x2)) x1)) (fun _ => none))) := by intro t; cases t <;> (intros; rfl)
noncomputable def l309 : t473 := (fun x0 => (@Option.rec CV (fun _ => t471) (fun _ _ => none) (fun x1 x2 x3 => (l308 x1 x2 x3)) x0))
theorem l309_eq : ∀ x0 x1 x2, (Eq (l309 x0 x1 x2) (@elInfo._sparseCasesOn_3 CV (fun _ => t4) x0 (fun x3 => (l308 x3 x1 x2)) (fun _ => none))) := by intro t; cases t <;> (intros; rfl)
abbrev t819 : Type := t164 → t192
noncomputable def l310 : t819 := (fun x0 => (@Option.rec Nat (fun _ => t192) (fun _ _ _ => none) (fun x1 x2 x3 x4 => (l309 (k_ev x2 x3) x4 x1)) x0))
theorem l310_eq : ∀ x0 x1 x2 x3, (Eq (l310 x0 x1 x2 x3) (@elInfo._sparseCasesOn_3 Nat (fun _ => t4) x0 (fun x4 => (l309 (k_ev x1 x2) x3 x4)) (fun _ => none))) := by intro t; cases t <;> (intros; rfl)
abbrev t820 : Type := Operand → t106
abbrev t821 : Type := TypeId → t820
abbrev t822 : Type := t14 → t821
abbrev t823 : Type := Program → t822
noncomputable def k_o_fieldAddr : t823 := (fun x0 x1 x2 x3 x4 x5 => (l310 (fldOff x0 x2 x4) x1 x3 x5))
theorem k_o_fieldAddr_eq : @k_o_fieldAddr = o_fieldAddr := by
  delta k_o_fieldAddr o_fieldAddr
  simp only [l308_eq, l309_eq, l310_eq]
  rw [k_ok1_eq, k_ev_eq]
  all_goals kernel_rfl

abbrev t824 : Type := Nat → t669
abbrev t825 : Type := S → t824
abbrev t826 : Type := t164 → t825
noncomputable def l311 : t826 := (fun x0 => (@Option.rec Nat (fun _ => t825) (fun _ _ _ _ _ _ => none) (fun x1 x2 x3 x4 x5 x6 x7 => (k_ifT_Ret (@Bool.rec (fun _ => Bool) Bool.false (k_Nat_blt x1 x5) (Nat.beq x6 x7)) (k_ok1 (CV.ptr x3 (Nat.add x4 (Nat.mul x1 x7))) x2))) x0))
theorem l311_eq : ∀ x0 x1 x2 x3 x4 x5 x6, (Eq (l311 x0 x1 x2 x3 x4 x5 x6) (@elInfo._sparseCasesOn_3 Nat (fun _ => t4) x0 (fun x7 => (k_ifT_Ret (@Bool.rec (fun _ => Bool) Bool.false (k_Nat_blt x7 x4) (Nat.beq x5 x6)) (k_ok1 (CV.ptr x2 (Nat.add x3 (Nat.mul x7 x6))) x1))) (fun _ => none))) := by intro t; cases t <;> (intros; rfl)
abbrev t827 : Type := Nat → t445
abbrev t828 : Type := Nat → t827
abbrev t829 : Type := Nat → t828
abbrev t830 : Type := S → t829
abbrev t831 : Type := t164 → t830
noncomputable def l312 : t831 := (fun x0 => (@Option.rec Nat (fun _ => t830) (fun _ _ _ _ _ _ => none) (fun x1 x2 x3 x4 x5 x6 x7 => (l311 (k_natAny x7) x2 x3 x4 x5 x6 x1)) x0))
theorem l312_eq : ∀ x0 x1 x2 x3 x4 x5 x6, (Eq (l312 x0 x1 x2 x3 x4 x5 x6) (@elInfo._sparseCasesOn_3 Nat (fun _ => t4) x0 (fun x7 => (l311 (k_natAny x6) x1 x2 x3 x4 x5 x7)) (fun _ => none))) := by intro t; cases t <;> (intros; rfl)
abbrev t832 : Type := TypeId → t670
abbrev t833 : Type := Program → t832
abbrev t834 : Type := t81 → t833
noncomputable def l313 : t834 := (fun x0 => (@Option.rec CV (fun _ => t833) (fun _ _ _ _ _ _ _ => none) (fun x1 x2 x3 x4 x5 x6 x7 x8 => (l312 (slSize x2 x3) x4 x5 x6 x7 x8 x1)) x0))
theorem l313_eq : ∀ x0 x1 x2 x3 x4 x5 x6 x7, (Eq (l313 x0 x1 x2 x3 x4 x5 x6 x7) (@elInfo._sparseCasesOn_3 CV (fun _ => t4) x0 (fun x8 => (l312 (slSize x1 x2) x3 x4 x5 x6 x7 x8)) (fun _ => none))) := by intro t; cases t <;> (intros; rfl)
abbrev t835 : Type := t164 → t670
noncomputable def l314 : t835 := (fun x0 => (@Option.rec Nat (fun _ => t670) (fun _ _ _ _ _ => none) (fun x1 x2 x3 x4 x5 x6 => (k_ifT_Ret (k_Nat_blt x1 x5) (k_ok1 (CV.ptr x3 (Nat.add x4 (Nat.mul x1 x6))) x2))) x0))
theorem l314_eq : ∀ x0 x1 x2 x3 x4 x5, (Eq (l314 x0 x1 x2 x3 x4 x5) (@elInfo._sparseCasesOn_3 Nat (fun _ => t4) x0 (fun x6 => (k_ifT_Ret (k_Nat_blt x6 x4) (k_ok1 (CV.ptr x2 (Nat.add x3 (Nat.mul x6 x5))) x1))) (fun _ => none))) := by intro t; cases t <;> (intros; rfl)
abbrev t836 : Type := S → t827
abbrev t837 : Type := t230 → t836
noncomputable def l315 : t837 := (fun x0 => (@Option.rec t228 (fun _ => t836) (fun _ _ _ _ => none) (fun x1 x2 x3 x4 x5 => (@Prod.rec Nat Nat (fun _ => t4) (fun x6 x7 => (l314 (k_natAny x5) x2 x3 x4 x6 x7)) x1)) x0))
theorem l315_eq : ∀ x0 x1 x2 x3 x4, (Eq (l315 x0 x1 x2 x3 x4) (@elInfo._sparseCasesOn_3 t228 (fun _ => t4) x0 (fun x5 => (@Prod.rec Nat Nat (fun _ => t4) (fun x6 x7 => (l314 (k_natAny x4) x1 x2 x3 x6 x7)) x5)) (fun _ => none))) := by intro t; cases t <;> (intros; rfl)
abbrev t838 : Type := S → t47
abbrev t839 : Type := TypeId → t838
abbrev t840 : Type := Program → t839
abbrev t841 : Type := t81 → t840
noncomputable def l316 : t841 := (fun x0 => (@Option.rec CV (fun _ => t840) (fun _ _ _ _ _ => none) (fun x1 x2 x3 x4 x5 x6 => (l315 (arrInfo x2 x3) x4 x5 x6 x1)) x0))
theorem l316_eq : ∀ x0 x1 x2 x3 x4 x5, (Eq (l316 x0 x1 x2 x3 x4 x5) (@elInfo._sparseCasesOn_3 CV (fun _ => t4) x0 (fun x6 => (l315 (arrInfo x1 x2) x3 x4 x5 x6)) (fun _ => none))) := by intro t; cases t <;> (intros; rfl)
abbrev t842 : Type := CV → t226
noncomputable def l317 : t842 := (fun x0 => (@CV.rec (fun _ => t226) (fun _ => PUnit.{1}) (fun _ _ _ _ _ => none) (fun _ _ _ _ _ _ => none) (fun x1 x2 x3 x4 x5 x6 x7 => (l316 (k_ev x4 x6) x3 x5 x7 x1 x2)) (fun x1 x2 x3 _ x5 x6 x7 x8 x9 x10 => (l313 (k_ev x7 x9) x6 x8 x10 x1 x2 x3 x5)) (fun _ _ _ _ _ => none) (fun _ _ _ _ _ _ => none) (fun _ _ _ _ _ _ _ => none) (fun _ _ _ _ _ _ _ => none) (fun _ _ _ _ _ _ _ _ _ _ => none) (fun _ _ _ _ _ _ => none) (fun _ _ _ _ _ _ _ _ => none) PUnit.unit.{1} (fun _ _ _ _ => PUnit.unit.{1}) x0))
theorem l317_eq : ∀ x0 x1 x2 x3 x4 x5, (Eq (l317 x0 x1 x2 x3 x4 x5) (@o_indexAddr._sparseCasesOn_3 (fun _ => t4) x0 (fun x6 x7 x8 _ x10 => (l313 (k_ev x2 x4) x1 x3 x5 x6 x7 x8 x10)) (fun x6 x7 => (l316 (k_ev x2 x4) x1 x3 x5 x6 x7)) (fun _ => none))) := by intro t; cases t <;> (intros; rfl)
abbrev t843 : Type := t81 → t226
noncomputable def l318 : t843 := (fun x0 => (@Option.rec CV (fun _ => t226) (fun _ _ _ _ _ => none) (fun x1 x2 x3 x4 x5 x6 => (l317 x1 x2 x3 x4 x5 x6)) x0))
theorem l318_eq : ∀ x0 x1 x2 x3 x4 x5, (Eq (l318 x0 x1 x2 x3 x4 x5) (@elInfo._sparseCasesOn_3 CV (fun _ => t4) x0 (fun x6 => (l317 x6 x1 x2 x3 x4 x5)) (fun _ => none))) := by intro t; cases t <;> (intros; rfl)
noncomputable def k_o_indexAddr : t487 := (fun x0 x1 x2 x3 x4 x5 => (l318 (k_ev x1 x3) x0 x1 x2 x4 x5))
theorem k_o_indexAddr_eq : @k_o_indexAddr = o_indexAddr := by
  delta k_o_indexAddr o_indexAddr
  simp only [l314_eq, l318_eq, l315_eq, l316_eq, l312_eq, l313_eq, l311_eq, l317_eq]
  rw [k_ev_eq, k_ifT_Ret_eq, k_ok1_eq, k_Nat_blt_eq, k_natAny_eq]
  all_goals kernel_rfl

abbrev t844 : Type := Option UInt8
abbrev t845 : Type := Nat → t844
abbrev t846 : Type := t394 → t845
noncomputable def k_List_get?Internal_UInt8 : t846 := (fun x0 x1 => (@List.rec UInt8 (fun _ => t845) (fun _ => none) (fun x2 _ x4 x5 => (@Nat.rec (fun _ => t844) (some x2) (fun x6 _ => (x4 x6)) x5)) x0 x1))
theorem k_List_get?Internal_UInt8_law : ∀ x0 x1, (Eq (k_List_get?Internal_UInt8 x0 x1) (@List.get?Internal UInt8 x0 x1)) := by
  intro t
  induction t with
  | nil  =>
    intro z0
    show ((fun (_ : Nat) => none) z0) = _
    conv => rhs; rw [List.get?Internal.eq_def]
    all_goals kernel_rfl
  | cons y0 y1 ih0 =>
    intro z0
    have e0 : (fun (x0 : Nat) => (k_List_get?Internal_UInt8 y1 x0)) = (fun (x0 : Nat) => (@List.get?Internal UInt8 y1 x0)) := by
      funext z0; exact ih0 z0
    show ((fun (x0 : UInt8) (_ : t394) (x2 : t845) (x3 : Nat) => (@Nat.rec (fun (_ : Nat) => t844) (some x0) (fun (x4 : Nat) (_ : t844) => (x2 x4)) x3)) y0 y1 (fun (x0 : Nat) => (k_List_get?Internal_UInt8 y1 x0)) z0) = _
    rw [e0]
    conv => rhs; rw [List.get?Internal.eq_def]
    all_goals kernel_rfl
theorem k_List_get?Internal_UInt8_eq : @k_List_get?Internal_UInt8 = (@List.get?Internal UInt8) := by
  funext a0 a1; exact k_List_get?Internal_UInt8_law a0 a1
abbrev t847 : Type := t164 → t576
noncomputable def l319 : t847 := (fun x0 => (@Option.rec Nat (fun _ => t576) (fun _ _ => none) (fun x1 x2 x3 => ((fun x4 => (@Option.rec UInt8 (fun _ => t4) none (fun x5 => ((fun x6 => (k_retI x2 IntKind.u8 (@Nat.cast Int (@NatCast.mk Int (fun x7 => (Int.ofNat x7))) (UInt8.toNat x6)))) x5)) (k_List_get?Internal_UInt8 (@Array.toList UInt8 (ByteArray.data x3)) x4))) x1)) x0))
theorem l319_eq : ∀ x0 x1 x2, (Eq (l319 x0 x1 x2) (@Option.rec Nat (fun _ => t4) none (fun x3 => ((fun x4 => (@Option.rec UInt8 (fun _ => t4) none (fun x5 => ((fun x6 => (k_retI x1 IntKind.u8 (@Nat.cast Int (@NatCast.mk Int (fun x7 => (Int.ofNat x7))) (UInt8.toNat x6)))) x5)) (k_List_get?Internal_UInt8 (@Array.toList UInt8 (ByteArray.data x2)) x4))) x3)) x0)) := by intro t; cases t <;> (intros; rfl)
abbrev t848 : Type := t81 → t576
noncomputable def l320 : t848 := (fun x0 => (@Option.rec CV (fun _ => t576) (fun _ _ => none) (fun x1 x2 x3 => (l319 (k_natAny x1) x2 x3)) x0))
theorem l320_eq : ∀ x0 x1 x2, (Eq (l320 x0 x1 x2) (@elInfo._sparseCasesOn_3 CV (fun _ => t4) x0 (fun x3 => (l319 (k_natAny x3) x1 x2)) (fun _ => none))) := by intro t; cases t <;> (intros; rfl)
abbrev t849 : Type := Value → t192
noncomputable def l321 : t849 := (fun x0 => (@Value.rec (fun _ => t192) (fun _ => PUnit.{1}) (fun _ => PUnit.{1}) (fun _ _ _ _ => none) (fun _ _ _ _ _ => none) (fun _ _ _ _ _ => none) (fun _ _ _ _ _ _ => none) (fun x1 x2 x3 x4 => (l320 (k_ev x2 x3) x4 x1)) (fun _ _ _ _ => none) (fun _ _ _ _ _ _ => none) (fun _ _ _ _ => none) (fun _ _ _ _ => none) (fun _ _ _ _ _ _ _ _ => none) (fun _ _ _ => none) (fun _ _ _ _ _ _ => none) (fun _ _ _ => none) (fun _ _ _ _ _ => none) (fun _ _ _ _ _ => none) (fun _ _ => PUnit.unit.{1}) PUnit.unit.{1} (fun _ _ _ _ => PUnit.unit.{1}) x0))
theorem l321_eq : ∀ x0 x1 x2 x3, (Eq (l321 x0 x1 x2 x3) (@eqK._sparseCasesOn_4 (fun _ => t4) x0 (fun x4 => (l320 (k_ev x1 x2) x3 x4)) (fun _ => none))) := by intro t; cases t <;> (intros; rfl)
abbrev t850 : Type := CV → t192
noncomputable def l322 : t850 := (fun x0 => (@CV.rec (fun _ => t192) (fun _ => PUnit.{1}) (fun _ _ _ => none) (fun x1 x2 x3 x4 => (l321 x1 x2 x3 x4)) (fun _ _ _ _ _ => none) (fun _ _ _ _ _ _ _ _ => none) (fun _ _ _ => none) (fun _ _ _ _ => none) (fun _ _ _ _ _ => none) (fun _ _ _ _ _ => none) (fun _ _ _ _ _ _ _ _ => none) (fun _ _ _ _ => none) (fun _ _ _ _ _ _ => none) PUnit.unit.{1} (fun _ _ _ _ => PUnit.unit.{1}) x0))
theorem l322_eq : ∀ x0 x1 x2 x3, (Eq (l322 x0 x1 x2 x3) (@natOf._sparseCasesOn_1 (fun _ => t4) x0 (fun x4 => (l321 x4 x1 x2 x3)) (fun _ => none))) := by intro t; cases t <;> (intros; rfl)
abbrev t851 : Type := t81 → t192
noncomputable def l323 : t851 := (fun x0 => (@Option.rec CV (fun _ => t192) (fun _ _ _ => none) (fun x1 x2 x3 x4 => (l322 x1 x2 x3 x4)) x0))
theorem l323_eq : ∀ x0 x1 x2 x3, (Eq (l323 x0 x1 x2 x3) (@elInfo._sparseCasesOn_3 CV (fun _ => t4) x0 (fun x4 => (l322 x4 x1 x2 x3)) (fun _ => none))) := by intro t; cases t <;> (intros; rfl)
abbrev t852 : Type := TypeDesc → t200
noncomputable def l324 : t852 := (fun x0 => (@TypeDesc.rec (fun _ => t200) (fun _ _ _ _ => none) (fun _ _ _ _ => none) (fun _ _ _ _ _ => none) (fun _ _ _ _ _ => none) (fun _ _ _ _ _ => none) (fun x1 x2 x3 x4 => (l323 (k_ev x1 x2) x1 x3 x4)) (fun _ _ _ _ => none) (fun _ _ _ _ _ => none) (fun _ _ _ _ _ => none) (fun _ _ _ _ _ _ => none) (fun _ _ _ _ _ _ => none) (fun _ _ _ _ _ _ => none) (fun _ _ _ _ _ => none) (fun _ _ _ _ _ _ _ => none) (fun _ _ _ _ _ => none) (fun _ _ _ _ _ => none) (fun _ _ _ _ _ _ => none) x0))
theorem l324_eq : ∀ x0 x1 x2 x3 x4, (Eq (l324 x0 x1 x2 x3 x4) (@o_convert._sparseCasesOn_3 (fun _ => t4) x0 (l323 (k_ev x1 x2) x1 x3 x4) (fun _ => none))) := by intro t; cases t <;> (intros; rfl)
abbrev t853 : Type := t336 → t200
noncomputable def l325 : t853 := (fun x0 => (@Option.rec TypeDesc (fun _ => t200) (fun _ _ _ _ => none) (fun x1 x2 x3 x4 x5 => (l324 x1 x2 x3 x4 x5)) x0))
theorem l325_eq : ∀ x0 x1 x2 x3 x4, (Eq (l325 x0 x1 x2 x3 x4) (@elInfo._sparseCasesOn_3 TypeDesc (fun _ => t4) x0 (fun x5 => (l324 x5 x1 x2 x3 x4)) (fun _ => none))) := by intro t; cases t <;> (intros; rfl)
noncomputable def k_o_index : t487 := (fun x0 x1 x2 x3 x4 x5 => (l325 (Program.underlying x0 x2) x1 x3 x4 x5))
theorem k_o_index_eq : @k_o_index = o_index := by
  delta k_o_index o_index
  simp only [l320_eq, l325_eq, l323_eq, l321_eq, l324_eq, l319_eq, l322_eq]
  rw [k_List_get?Internal_UInt8_eq, k_retI_eq, k_natAny_eq, k_ev_eq]
  all_goals kernel_rfl

abbrev t854 : Type := Bool → t8
abbrev t855 : Type := CV → t854
abbrev t856 : Type := t164 → t855
noncomputable def l327 : t856 := (fun x0 => (@Option.rec Nat (fun _ => t855) (fun x1 x2 x3 => (k_ok1 (@Bool.rec (fun _ => CV) x1 (CV.tup (x1 :: ((CV.val (Value.bool Bool.false)) :: []))) x2) x3)) (fun _ _ _ _ => none) x0))
theorem l327_eq : ∀ x0 x1 x2 x3, (Eq (l327 x0 x1 x2 x3) (@sliceV._sparseCasesOn_7 Nat (fun _ => t4) x0 (k_ok1 (@Bool.rec (fun _ => CV) x1 (CV.tup (x1 :: ((CV.val (Value.bool Bool.false)) :: []))) x2) x3) (fun _ => none))) := by intro t; cases t <;> (intros; rfl)
abbrev t857 : Type := Value → t855
noncomputable def l328 : t857 := (fun x0 => (@Value.rec (fun _ => t855) (fun _ => PUnit.{1}) (fun _ => PUnit.{1}) (fun _ _ _ _ => none) (fun _ _ _ _ _ => none) (fun _ _ _ _ _ => none) (fun _ _ _ _ _ _ => none) (fun _ _ _ _ => none) (fun _ _ _ _ => none) (fun _ _ _ _ _ _ => none) (fun x1 x2 x3 x4 => (l327 x1 x2 x3 x4)) (fun _ _ _ _ => none) (fun _ _ _ _ _ _ _ _ => none) (fun _ _ _ => none) (fun _ _ _ _ _ _ => none) (fun _ _ _ => none) (fun _ _ _ _ _ => none) (fun _ _ _ _ _ => none) (fun _ _ => PUnit.unit.{1}) PUnit.unit.{1} (fun _ _ _ _ => PUnit.unit.{1}) x0))
theorem l328_eq : ∀ x0 x1 x2 x3, (Eq (l328 x0 x1 x2 x3) (@lookupV._sparseCasesOn_4 (fun _ => t4) x0 (fun x4 => (l327 x4 x1 x2 x3)) (fun _ => none))) := by intro t; cases t <;> (intros; rfl)
abbrev t858 : Type := t367 → t855
noncomputable def l329 : t858 := (fun x0 => (@Option.rec t246 (fun _ => t855) (fun x1 x2 x3 => (k_ok1 (@Bool.rec (fun _ => CV) x1 (CV.tup (x1 :: ((CV.val (Value.bool Bool.false)) :: []))) x2) x3)) (fun x1 _ x3 x4 => (@Prod.rec Nat CV (fun _ => t4) (fun x5 x6 => ((fun _ x8 => (k_ok1 (@Bool.rec (fun _ => CV) x8 (CV.tup (x8 :: ((CV.val (Value.bool Bool.true)) :: []))) x3) x4)) x5 x6)) x1)) x0))
theorem l329_eq : ∀ x0 x1 x2 x3, (Eq (l329 x0 x1 x2 x3) (@Option.rec t246 (fun _ => t4) (k_ok1 (@Bool.rec (fun _ => CV) x1 (CV.tup (x1 :: ((CV.val (Value.bool Bool.false)) :: []))) x2) x3) (fun x4 => (@Prod.rec Nat CV (fun _ => t4) (fun x5 x6 => ((fun _ x8 => (k_ok1 (@Bool.rec (fun _ => CV) x8 (CV.tup (x8 :: ((CV.val (Value.bool Bool.true)) :: []))) x2) x3)) x5 x6)) x4)) x0)) := by intro t; cases t <;> (intros; rfl)
abbrev t859 : Type := CV → t855
abbrev t860 : Type := TypeId → t859
abbrev t861 : Type := CO → t860
noncomputable def l330 : t861 := (fun x0 => (@CO.rec (fun _ => t860) (fun _ _ _ _ _ _ _ _ => none) (fun x1 x2 _ x4 x5 x6 x7 x8 => (@Bool.rec (fun _ => t4) (@Option.rec t367 (fun _ => t4) none (fun x9 => (l329 x9 x5 x7 x8)) (k_findE x6 x2 (nat_lit 0))) none (@Bool.rec (fun _ => Bool) Bool.true Bool.false (Nat.beq x1 x4)))) (fun _ _ _ _ _ _ _ _ _ _ _ _ _ => none) (fun _ _ _ _ _ => none) (fun _ _ _ _ _ => none) x0))
theorem l330_eq : ∀ x0 x1 x2 x3 x4 x5, (Eq (l330 x0 x1 x2 x3 x4 x5) (@lookupV._sparseCasesOn_2 (fun _ => t4) x0 (fun x6 x7 _ => (@Bool.rec (fun _ => t4) (@Option.rec t367 (fun _ => t4) none (fun x9 => (l329 x9 x2 x4 x5)) (k_findE x3 x7 (nat_lit 0))) none (@Bool.rec (fun _ => Bool) Bool.true Bool.false (Nat.beq x6 x1)))) (fun _ => none))) := by intro t; cases t <;> (intros; rfl)
abbrev t862 : Type := TypeId → t19
abbrev t863 : Type := S → t862
abbrev t864 : Type := Bool → t863
abbrev t865 : Type := CV → t864
abbrev t866 : Type := CV → t865
noncomputable def l331 : t866 := (fun x0 => (@CV.rec (fun _ => t865) (fun _ => PUnit.{1}) (fun _ _ _ _ _ => none) (fun x1 x2 x3 x4 _ _ => (l328 x1 x2 x3 x4)) (fun _ _ _ _ _ _ _ => none) (fun _ _ _ _ _ _ _ _ _ _ => none) (fun _ _ _ _ _ => none) (fun x1 x2 x3 x4 x5 x6 => (k_rd_Ret x4 x1 (fun x7 x8 => (l330 x7 x5 x2 x6 x3 x8)))) (fun _ _ _ _ _ _ _ => none) (fun _ _ _ _ _ _ _ => none) (fun _ _ _ _ _ _ _ _ _ _ => none) (fun _ _ _ _ _ _ => none) (fun _ _ _ _ _ _ _ _ => none) PUnit.unit.{1} (fun _ _ _ _ => PUnit.unit.{1}) x0))
theorem l331_eq : ∀ x0 x1 x2 x3 x4 x5, (Eq (l331 x0 x1 x2 x3 x4 x5) (@lookupV._sparseCasesOn_3 (fun _ => t4) x0 (fun x6 => (l328 x6 x1 x2 x3)) (fun x6 => (k_rd_Ret x3 x6 (fun x7 x8 => (l330 x7 x4 x1 x5 x2 x8)))) (fun _ => none))) := by intro t; cases t <;> (intros; rfl)
abbrev t867 : Type := Bool → t186
abbrev t868 : Type := CV → t867
abbrev t869 : Type := CV → t868
abbrev t870 : Type := TypeId → t869
noncomputable def k_lookupV : t870 := (fun x0 x1 x2 x3 x4 x5 => (l331 x4 x1 x3 x5 x0 x2))
theorem k_lookupV_eq : @k_lookupV = lookupV := by
  delta k_lookupV lookupV
  simp only [l328_eq, l327_eq, l331_eq, l329_eq, l330_eq]
  rw [k_ok1_eq, k_findE_eq, k_rd_Ret_eq]
  all_goals kernel_rfl

abbrev t871 : Type := Value → t81
abbrev t872 : Type := Value → t871
noncomputable def l332 : t872 := (fun x0 => (@Value.rec (fun _ => t871) (fun _ => PUnit.{1}) (fun _ => PUnit.{1}) (fun _ x2 => (some (CV.val x2))) (fun _ _ x3 => (some (CV.val x3))) (fun _ _ x3 => (some (CV.val x3))) (fun _ _ _ x4 => (some (CV.val x4))) (fun _ x2 => (some (CV.val x2))) (fun _ x2 => (some (CV.val x2))) (fun _ _ _ x4 => (some (CV.val x4))) (fun _ x2 => (some (CV.val x2))) (fun _ x2 => (some (CV.val x2))) (fun _ _ _ _ _ x6 => (some (CV.val x6))) (fun x1 => (some (CV.val x1))) (fun _ _ _ x4 => (some (CV.val x4))) (fun x1 => (some (CV.val x1))) (fun x1 _ _ => (@Option.rec t7 (fun _ => t81) none (fun x4 => ((fun x5 => (some (CV.agg x5))) x4)) (k_valL (@Array.toList Value x1)))) (fun _ _ x3 => (some (CV.val x3))) (fun _ _ => PUnit.unit.{1}) PUnit.unit.{1} (fun _ _ _ _ => PUnit.unit.{1}) x0))
theorem l332_eq : ∀ x0 x1, (Eq (l332 x0 x1) (@bok._sparseCasesOn_2 (fun _ => t81) x0 (fun x2 => (@Option.rec t7 (fun _ => t81) none (fun x3 => ((fun x4 => (some (CV.agg x4))) x3)) (k_valL (@Array.toList Value x2)))) (fun _ => (some (CV.val x1))))) := by intro t; cases t <;> (intros; rfl)
abbrev t873 : Type := TypeId → t81
abbrev t874 : Type := Program → t873
noncomputable def k_oneZ : t874 := (fun x0 x1 => (@Option.rec TypeInfo (fun _ => t81) none (fun x2 => ((fun x3 => (@Option.rec Value (fun _ => t81) none (fun x4 => (l332 x4 x4)) (TypeInfo.zero x3))) x2)) (Tables.info? (Program.toTables x0) x1)))
theorem k_oneZ_eq : @k_oneZ = oneZ := by
  delta k_oneZ oneZ
  simp only [l332_eq]
  rw [k_valL_eq]
  all_goals kernel_rfl

abbrev t875 : Type := TypeId → t862
abbrev t876 : Type := S → t875
abbrev t877 : Type := Bool → t876
abbrev t878 : Type := Program → t877
abbrev t879 : Type := t81 → t878
noncomputable def l326 : t879 := (fun x0 => (@Option.rec CV (fun _ => t878) (fun _ _ _ _ _ _ => none) (fun x1 x2 x3 x4 x5 x6 x7 => (@Option.rec CV (fun _ => t4) none (fun x8 => ((fun x9 => (k_ifT_Ret (k_keyOk x2 x5 x1) (k_lookupV x5 x9 x1 x3 x7 x4))) x8)) (k_oneZ x2 x6))) x0))
theorem l326_eq : ∀ x0 x1 x2 x3 x4 x5 x6, (Eq (l326 x0 x1 x2 x3 x4 x5 x6) (@elInfo._sparseCasesOn_3 CV (fun _ => t4) x0 (fun x7 => (@Option.rec CV (fun _ => t4) none (fun x8 => ((fun x9 => (k_ifT_Ret (k_keyOk x1 x4 x7) (k_lookupV x4 x9 x7 x2 x6 x3))) x8)) (k_oneZ x1 x5))) (fun _ => none))) := by intro t; cases t <;> (intros; rfl)
abbrev t880 : Type := TypeId → t74
abbrev t881 : Type := S → t880
abbrev t882 : Type := Bool → t881
abbrev t883 : Type := Operand → t882
abbrev t884 : Type := t14 → t883
abbrev t885 : Type := Program → t884
abbrev t886 : Type := t81 → t885
noncomputable def l333 : t886 := (fun x0 => (@Option.rec CV (fun _ => t885) (fun _ _ _ _ _ _ _ => none) (fun x1 x2 x3 x4 x5 x6 x7 x8 => (l326 (k_ev x3 x4) x2 x5 x6 x7 x8 x1)) x0))
theorem l333_eq : ∀ x0 x1 x2 x3 x4 x5 x6 x7, (Eq (l333 x0 x1 x2 x3 x4 x5 x6 x7) (@elInfo._sparseCasesOn_3 CV (fun _ => t4) x0 (fun x8 => (l326 (k_ev x2 x3) x1 x4 x5 x6 x7 x8)) (fun _ => none))) := by intro t; cases t <;> (intros; rfl)
abbrev t887 : Type := Operand → t854
abbrev t888 : Type := Operand → t887
abbrev t889 : Type := t14 → t888
abbrev t890 : Type := Program → t889
abbrev t891 : Type := t461 → t890
noncomputable def l334 : t891 := (fun x0 => (@Option.rec t460 (fun _ => t890) (fun _ _ _ _ _ _ => none) (fun x1 x2 x3 x4 x5 x6 x7 => (@Prod.rec TypeId TypeId (fun _ => t4) (fun x8 x9 => (l333 (k_ev x3 x4) x2 x3 x5 x6 x7 x8 x9)) x1)) x0))
theorem l334_eq : ∀ x0 x1 x2 x3 x4 x5 x6, (Eq (l334 x0 x1 x2 x3 x4 x5 x6) (@elInfo._sparseCasesOn_3 t460 (fun _ => t4) x0 (fun x7 => (@Prod.rec TypeId TypeId (fun _ => t4) (fun x8 x9 => (l333 (k_ev x2 x3) x1 x2 x4 x5 x6 x8 x9)) x7)) (fun _ => none))) := by intro t; cases t <;> (intros; rfl)
abbrev t892 : Type := TypeId → t888
abbrev t893 : Type := t14 → t892
abbrev t894 : Type := Program → t893
noncomputable def k_o_lookup : t894 := (fun x0 x1 x2 x3 x4 x5 x6 => (l334 (k_mapInfo x0 x2) x0 x1 x3 x4 x5 x6))
theorem k_o_lookup_eq : @k_o_lookup = o_lookup := by
  delta k_o_lookup o_lookup
  simp only [l334_eq, l333_eq, l326_eq]
  rw [k_mapInfo_eq, k_oneZ_eq, k_ifT_Ret_eq, k_lookupV_eq, k_keyOk_eq, k_ev_eq]
  all_goals kernel_rfl

abbrev t895 : Type := TypeId → t854
abbrev t896 : Type := Program → t895
abbrev t897 : Type := Value → t896
noncomputable def l335 : t897 := (fun x0 => (@Value.rec (fun _ => t896) (fun _ => PUnit.{1}) (fun _ => PUnit.{1}) (fun _ _ _ _ _ => none) (fun _ _ _ _ _ _ => none) (fun _ _ _ _ _ _ => none) (fun _ _ _ _ _ _ _ => none) (fun _ _ _ _ _ => none) (fun _ _ _ _ _ => none) (fun _ _ _ _ _ _ _ => none) (fun _ _ _ _ _ => none) (fun _ _ _ _ _ => none) (fun _ _ _ _ _ _ _ _ _ => none) (fun _ _ _ _ => none) (fun _ _ _ _ _ _ _ => none) (fun x1 x2 x3 x4 => (@Bool.rec (fun _ => t4) none (@Option.rec CV (fun _ => t4) none (fun x5 => ((fun x6 => (k_ok1 (CV.tup (x6 :: ((CV.val (Value.bool Bool.false)) :: []))) x4)) x5)) (k_oneZ x1 x2)) x3)) (fun _ _ _ _ _ _ => none) (fun _ _ _ _ _ _ => none) (fun _ _ => PUnit.unit.{1}) PUnit.unit.{1} (fun _ _ _ _ => PUnit.unit.{1}) x0))
theorem l335_eq : ∀ x0 x1 x2 x3 x4, (Eq (l335 x0 x1 x2 x3 x4) (@bothNil._sparseCasesOn_1 (fun _ => t4) x0 (@Bool.rec (fun _ => t4) none (@Option.rec CV (fun _ => t4) none (fun x5 => ((fun x6 => (k_ok1 (CV.tup (x6 :: ((CV.val (Value.bool Bool.false)) :: []))) x4)) x5)) (k_oneZ x1 x2)) x3) (fun _ => none))) := by intro t; cases t <;> (intros; rfl)
abbrev t898 : Type := Bool → t20
abbrev t899 : Type := TypeId → t898
abbrev t900 : Type := Program → t899
abbrev t901 : Type := Bool → t900
noncomputable def l336 : t901 := (fun x0 => (@Bool.rec (fun _ => t900) (fun x1 x2 x3 x4 _ => (@Bool.rec (fun _ => t4) none (@Option.rec CV (fun _ => t4) none (fun x6 => ((fun x7 => (k_ok1 (CV.tup (x7 :: ((CV.val (Value.bool Bool.false)) :: []))) x4)) x6)) (k_oneZ x1 x2)) x3)) (fun _ _ x3 x4 x5 => (k_ok1 (@Bool.rec (fun _ => CV) x5 (CV.tup (x5 :: ((CV.val (Value.bool Bool.true)) :: []))) x3) x4)) x0))
theorem l336_eq : ∀ x0 x1 x2 x3 x4 x5, (Eq (l336 x0 x1 x2 x3 x4 x5) (@Bool.rec (fun _ => t4) (@Bool.rec (fun _ => t4) none (@Option.rec CV (fun _ => t4) none (fun x6 => ((fun x7 => (k_ok1 (CV.tup (x7 :: ((CV.val (Value.bool Bool.false)) :: []))) x4)) x6)) (k_oneZ x1 x2)) x3) (k_ok1 (@Bool.rec (fun _ => CV) x5 (CV.tup (x5 :: ((CV.val (Value.bool Bool.true)) :: []))) x3) x4) x0)) := by intro t; cases t <;> (intros; rfl)
abbrev t902 : Type := CV → t896
noncomputable def l337 : t902 := (fun x0 => (@CV.rec (fun _ => t896) (fun _ => PUnit.{1}) (fun _ _ _ _ => none) (fun x1 x2 x3 x4 x5 => (l335 x1 x2 x3 x4 x5)) (fun _ _ _ _ _ _ => none) (fun _ _ _ _ _ _ _ _ _ => none) (fun _ _ _ _ => none) (fun _ _ _ _ _ => none) (fun _ _ _ _ _ _ => none) (fun _ _ _ _ _ _ => none) (fun _ _ _ _ _ _ _ _ _ => none) (fun _ _ _ _ _ => none) (fun x1 x2 _ x4 x5 x6 x7 => (l336 (Nat.beq x1 x5) x4 x5 x6 x7 x2)) PUnit.unit.{1} (fun _ _ _ _ => PUnit.unit.{1}) x0))
theorem l337_eq : ∀ x0 x1 x2 x3 x4, (Eq (l337 x0 x1 x2 x3 x4) (@o_typeAssert._sparseCasesOn_1 (fun _ => t4) x0 (fun x5 => (l335 x5 x1 x2 x3 x4)) (fun x5 x6 => (l336 (Nat.beq x5 x2) x1 x2 x3 x4 x6)) (fun _ => none))) := by intro t; cases t <;> (intros; rfl)
abbrev t903 : Type := t81 → t896
noncomputable def l338 : t903 := (fun x0 => (@Option.rec CV (fun _ => t896) (fun _ _ _ _ => none) (fun x1 x2 x3 x4 x5 => (l337 x1 x2 x3 x4 x5)) x0))
theorem l338_eq : ∀ x0 x1 x2 x3 x4, (Eq (l338 x0 x1 x2 x3 x4) (@elInfo._sparseCasesOn_3 CV (fun _ => t4) x0 (fun x5 => (l337 x5 x1 x2 x3 x4)) (fun _ => none))) := by intro t; cases t <;> (intros; rfl)
abbrev t904 : Type := Operand → t895
abbrev t905 : Type := t14 → t904
abbrev t906 : Type := Program → t905
noncomputable def l339 : t906 := (fun x0 x1 x2 x3 x4 x5 => (l338 (k_ev x1 x2) x0 x3 x4 x5))
theorem l339_eq : ∀ x0 x1 x2 x3 x4 x5, (Eq (l339 x0 x1 x2 x3 x4 x5) (l338 (k_ev x1 x2) x0 x3 x4 x5)) := by intros; rfl
abbrev t907 : Type := TypeDesc → t906
noncomputable def l340 : t907 := (fun x0 => (@TypeDesc.rec (fun _ => t906) (fun x1 x2 x3 x4 x5 x6 => (l339 x1 x2 x3 x4 x5 x6)) (fun x1 x2 x3 x4 x5 x6 => (l339 x1 x2 x3 x4 x5 x6)) (fun _ x2 x3 x4 x5 x6 x7 => (l339 x2 x3 x4 x5 x6 x7)) (fun _ x2 x3 x4 x5 x6 x7 => (l339 x2 x3 x4 x5 x6 x7)) (fun _ x2 x3 x4 x5 x6 x7 => (l339 x2 x3 x4 x5 x6 x7)) (fun x1 x2 x3 x4 x5 x6 => (l339 x1 x2 x3 x4 x5 x6)) (fun x1 x2 x3 x4 x5 x6 => (l339 x1 x2 x3 x4 x5 x6)) (fun _ x2 x3 x4 x5 x6 x7 => (l339 x2 x3 x4 x5 x6 x7)) (fun _ x2 x3 x4 x5 x6 x7 => (l339 x2 x3 x4 x5 x6 x7)) (fun _ _ x3 x4 x5 x6 x7 x8 => (l339 x3 x4 x5 x6 x7 x8)) (fun _ _ x3 x4 x5 x6 x7 x8 => (l339 x3 x4 x5 x6 x7 x8)) (fun _ _ x3 x4 x5 x6 x7 x8 => (l339 x3 x4 x5 x6 x7 x8)) (fun _ x2 x3 x4 x5 x6 x7 => (l339 x2 x3 x4 x5 x6 x7)) (fun _ _ _ x4 x5 x6 x7 x8 x9 => (l339 x4 x5 x6 x7 x8 x9)) (fun _ _ _ _ _ _ _ => none) (fun _ x2 x3 x4 x5 x6 x7 => (l339 x2 x3 x4 x5 x6 x7)) (fun _ _ x3 x4 x5 x6 x7 x8 => (l339 x3 x4 x5 x6 x7 x8)) x0))
theorem l340_eq : ∀ x0 x1 x2 x3 x4 x5 x6, (Eq (l340 x0 x1 x2 x3 x4 x5 x6) (@ifaceOk'._sparseCasesOn_1 (fun _ => t4) x0 (fun _ => none) (fun _ => (l339 x1 x2 x3 x4 x5 x6)))) := by intro t; cases t <;> (intros; rfl)
abbrev t908 : Type := t336 → t906
noncomputable def l341 : t908 := (fun x0 => (@Option.rec TypeDesc (fun _ => t906) (fun _ _ _ _ _ _ => none) (fun x1 x2 x3 x4 x5 x6 x7 => (l340 x1 x2 x3 x4 x5 x6 x7)) x0))
theorem l341_eq : ∀ x0 x1 x2 x3 x4 x5 x6, (Eq (l341 x0 x1 x2 x3 x4 x5 x6) (@elInfo._sparseCasesOn_3 TypeDesc (fun _ => t4) x0 (fun x7 => (l340 x7 x1 x2 x3 x4 x5 x6)) (fun _ => none))) := by intro t; cases t <;> (intros; rfl)
noncomputable def k_o_typeAssert : t906 := (fun x0 x1 x2 x3 x4 x5 => (l341 (Program.underlying x0 x3) x0 x1 x2 x3 x4 x5))
theorem k_o_typeAssert_eq : @k_o_typeAssert = o_typeAssert := by
  delta k_o_typeAssert o_typeAssert
  simp only [l337_eq, l336_eq, l335_eq, l341_eq, l339_eq, l340_eq, l338_eq]
  rw [k_oneZ_eq, k_ok1_eq, k_ev_eq]
  all_goals kernel_rfl

abbrev t909 : Type := t7 → t740
noncomputable def k_List_get?Internal_CV : t909 := (fun x0 x1 => (@List.rec CV (fun _ => t740) (fun _ => none) (fun x2 _ x4 x5 => (@Nat.rec (fun _ => t81) (some x2) (fun x6 _ => (x4 x6)) x5)) x0 x1))
theorem k_List_get?Internal_CV_law : ∀ x0 x1, (Eq (k_List_get?Internal_CV x0 x1) (@List.get?Internal CV x0 x1)) := by
  intro t
  induction t with
  | nil  =>
    intro z0
    show ((fun (_ : Nat) => none) z0) = _
    conv => rhs; rw [List.get?Internal.eq_def]
    all_goals kernel_rfl
  | cons y0 y1 ih0 =>
    intro z0
    have e0 : (fun (x0 : Nat) => (k_List_get?Internal_CV y1 x0)) = (fun (x0 : Nat) => (@List.get?Internal CV y1 x0)) := by
      funext z0; exact ih0 z0
    show ((fun (x0 : CV) (_ : t7) (x2 : t740) (x3 : Nat) => (@Nat.rec (fun (_ : Nat) => t81) (some x0) (fun (x4 : Nat) (_ : t81) => (x2 x4)) x3)) y0 y1 (fun (x0 : Nat) => (k_List_get?Internal_CV y1 x0)) z0) = _
    rw [e0]
    conv => rhs; rw [List.get?Internal.eq_def]
    all_goals kernel_rfl
theorem k_List_get?Internal_CV_eq : @k_List_get?Internal_CV = (@List.get?Internal CV) := by
  funext a0 a1; exact k_List_get?Internal_CV_law a0 a1
abbrev t910 : Type := CV → t106
noncomputable def l342 : t910 := (fun x0 => (@CV.rec (fun _ => t106) (fun _ => PUnit.{1}) (fun _ _ => none) (fun _ _ _ => none) (fun _ _ _ _ => none) (fun _ _ _ _ _ _ _ => none) (fun _ _ => none) (fun _ _ _ => none) (fun _ _ _ _ => none) (fun x1 _ x3 x4 => (@Option.rec CV (fun _ => t4) none (fun x5 => ((fun x6 => (k_ok1 x6 x4)) x5)) (k_List_get?Internal_CV x1 x3))) (fun _ _ _ _ _ _ _ => none) (fun _ _ _ => none) (fun _ _ _ _ _ => none) PUnit.unit.{1} (fun _ _ _ _ => PUnit.unit.{1}) x0))
theorem l342_eq : ∀ x0 x1 x2, (Eq (l342 x0 x1 x2) (@o_extract._sparseCasesOn_1 (fun _ => t4) x0 (fun x3 => (@Option.rec CV (fun _ => t4) none (fun x4 => ((fun x5 => (k_ok1 x5 x2)) x4)) (k_List_get?Internal_CV x3 x1))) (fun _ => none))) := by intro t; cases t <;> (intros; rfl)
abbrev t911 : Type := t81 → t106
noncomputable def l343 : t911 := (fun x0 => (@Option.rec CV (fun _ => t106) (fun _ _ => none) (fun x1 x2 x3 => (l342 x1 x2 x3)) x0))
theorem l343_eq : ∀ x0 x1 x2, (Eq (l343 x0 x1 x2) (@elInfo._sparseCasesOn_3 CV (fun _ => t4) x0 (fun x3 => (l342 x3 x1 x2)) (fun _ => none))) := by intro t; cases t <;> (intros; rfl)
abbrev t912 : Type := t14 → t820
abbrev t913 : Type := Program → t912
noncomputable def k_o_extract : t913 := (fun _ x1 x2 x3 x4 => (l343 (k_ev x1 x2) x3 x4))
theorem k_o_extract_eq : @k_o_extract = o_extract := by
  delta k_o_extract o_extract
  simp only [l342_eq, l343_eq]
  rw [k_ev_eq, k_List_get?Internal_CV_eq, k_ok1_eq]
  all_goals kernel_rfl

abbrev t914 : Type := Nat → t838
abbrev t915 : Type := t7 → t914
abbrev t916 : Type := Nat → t915
abbrev t917 : Type := Nat → t916
abbrev t918 : Type := TypeId → t917
abbrev t919 : Type := t497 → t918
noncomputable def l346 : t919 := (fun x0 => (@Option.rec Addr (fun _ => t918) (fun x1 x2 x3 x4 x5 x6 x7 x8 => (@dite ((fun _ => t4) (CV.val (Value.slice none x7 x8))) (Eq x7 (@OfNat.ofNat Nat (nat_lit 0) (instOfNatNat (nat_lit 0)))) (instDecidableEqNat x7 (@OfNat.ofNat Nat (nat_lit 0) (instOfNatNat (nat_lit 0)))) (@Eq.ndrec_symm Nat (@OfNat.ofNat Nat (nat_lit 0) (instOfNatNat (nat_lit 0))) (fun x9 => ((fun _ => t4) (CV.val (Value.slice none x9 x8)))) (@dite ((fun _ => t4) (CV.val (Value.slice none (@OfNat.ofNat Nat (nat_lit 0) (instOfNatNat (nat_lit 0))) x8))) (Eq x8 (@OfNat.ofNat Nat (nat_lit 0) (instOfNatNat (nat_lit 0)))) (instDecidableEqNat x8 (@OfNat.ofNat Nat (nat_lit 0) (instOfNatNat (nat_lit 0)))) (@Eq.ndrec_symm Nat (@OfNat.ofNat Nat (nat_lit 0) (instOfNatNat (nat_lit 0))) (fun x9 => ((fun _ => t4) (CV.val (Value.slice none (@OfNat.ofNat Nat (nat_lit 0) (instOfNatNat (nat_lit 0))) x9)))) ((fun _ => (@cond t4 (Nat.beq x5 (@OfNat.ofNat Nat (nat_lit 0) (instOfNatNat (nat_lit 0)))) (some (Ret.ok (CV.val (Value.slice none (@OfNat.ofNat Nat (nat_lit 0) (instOfNatNat (nat_lit 0))) (@OfNat.ofNat Nat (nat_lit 0) (instOfNatNat (nat_lit 0))))) x6)) (@cond t4 (Bool.and (Nat.ble (@HMul.hMul Nat Nat Nat (@instHMul Nat instMulNat) x5 x3) (@OfNat.ofNat Nat (nat_lit 140737488355328) (instOfNatNat (nat_lit 140737488355328)))) (Nat.ble x5 (@OfNat.ofNat Nat (nat_lit 9223372036854775807) (instOfNatNat (nat_lit 9223372036854775807))))) (@nw Ret x6 (CO.row x1 x4 Bool.true) (fun x10 x11 => (some (Ret.ok (CV.sl x10 (@OfNat.ofNat Nat (nat_lit 0) (instOfNatNat (nat_lit 0))) x5 none x2) x11)))) none))) Unit.unit) x8) (fun _ => ((fun _ => none) (CV.val (Value.slice none (@OfNat.ofNat Nat (nat_lit 0) (instOfNatNat (nat_lit 0))) x8))))) x7) (fun _ => ((fun _ => none) (CV.val (Value.slice none x7 x8)))))) (fun _ _ _ _ _ _ _ _ _ => none) x0))
theorem l346_eq : ∀ x0 x1 x2 x3 x4 x5 x6 x7 x8, (Eq (l346 x0 x1 x2 x3 x4 x5 x6 x7 x8) (@sliceV._sparseCasesOn_7 Addr (fun _ => t4) x0 (@dite ((fun _ => t4) (CV.val (Value.slice none x7 x8))) (Eq x7 (@OfNat.ofNat Nat (nat_lit 0) (instOfNatNat (nat_lit 0)))) (instDecidableEqNat x7 (@OfNat.ofNat Nat (nat_lit 0) (instOfNatNat (nat_lit 0)))) (@Eq.ndrec_symm Nat (@OfNat.ofNat Nat (nat_lit 0) (instOfNatNat (nat_lit 0))) (fun x9 => ((fun _ => t4) (CV.val (Value.slice none x9 x8)))) (@dite ((fun _ => t4) (CV.val (Value.slice none (@OfNat.ofNat Nat (nat_lit 0) (instOfNatNat (nat_lit 0))) x8))) (Eq x8 (@OfNat.ofNat Nat (nat_lit 0) (instOfNatNat (nat_lit 0)))) (instDecidableEqNat x8 (@OfNat.ofNat Nat (nat_lit 0) (instOfNatNat (nat_lit 0)))) (@Eq.ndrec_symm Nat (@OfNat.ofNat Nat (nat_lit 0) (instOfNatNat (nat_lit 0))) (fun x9 => ((fun _ => t4) (CV.val (Value.slice none (@OfNat.ofNat Nat (nat_lit 0) (instOfNatNat (nat_lit 0))) x9)))) ((fun _ => (@cond t4 (Nat.beq x5 (@OfNat.ofNat Nat (nat_lit 0) (instOfNatNat (nat_lit 0)))) (some (Ret.ok (CV.val (Value.slice none (@OfNat.ofNat Nat (nat_lit 0) (instOfNatNat (nat_lit 0))) (@OfNat.ofNat Nat (nat_lit 0) (instOfNatNat (nat_lit 0))))) x6)) (@cond t4 (Bool.and (Nat.ble (@HMul.hMul Nat Nat Nat (@instHMul Nat instMulNat) x5 x3) (@OfNat.ofNat Nat (nat_lit 140737488355328) (instOfNatNat (nat_lit 140737488355328)))) (Nat.ble x5 (@OfNat.ofNat Nat (nat_lit 9223372036854775807) (instOfNatNat (nat_lit 9223372036854775807))))) (@nw Ret x6 (CO.row x1 x4 Bool.true) (fun x10 x11 => (some (Ret.ok (CV.sl x10 (@OfNat.ofNat Nat (nat_lit 0) (instOfNatNat (nat_lit 0))) x5 none x2) x11)))) none))) Unit.unit) x8) (fun _ => ((fun _ => none) (CV.val (Value.slice none (@OfNat.ofNat Nat (nat_lit 0) (instOfNatNat (nat_lit 0))) x8))))) x7) (fun _ => ((fun _ => none) (CV.val (Value.slice none x7 x8))))) (fun _ => none))) := by intro t; cases t <;> (intros; rfl)
abbrev t920 : Type := t7 → t106
abbrev t921 : Type := Nat → t920
abbrev t922 : Type := Nat → t921
abbrev t923 : Type := TypeId → t922
abbrev t924 : Type := Value → t923
noncomputable def l347 : t924 := (fun x0 => (@Value.rec (fun _ => t923) (fun _ => PUnit.{1}) (fun _ => PUnit.{1}) (fun _ _ _ _ _ _ _ => none) (fun _ _ _ _ _ _ _ _ => none) (fun _ _ _ _ _ _ _ _ => none) (fun _ _ _ _ _ _ _ _ _ => none) (fun _ _ _ _ _ _ _ => none) (fun _ _ _ _ _ _ _ => none) (fun x1 x2 x3 x4 x5 x6 x7 x8 x9 => (l346 x1 x4 x5 x6 x7 x8 x9 x2 x3)) (fun _ _ _ _ _ _ _ => none) (fun _ _ _ _ _ _ _ => none) (fun _ _ _ _ _ _ _ _ _ _ _ => none) (fun _ _ _ _ _ _ => none) (fun _ _ _ _ _ _ _ _ _ => none) (fun _ _ _ _ _ _ => none) (fun _ _ _ _ _ _ _ _ => none) (fun _ _ _ _ _ _ _ _ => none) (fun _ _ => PUnit.unit.{1}) PUnit.unit.{1} (fun _ _ _ _ => PUnit.unit.{1}) x0))
theorem l347_eq : ∀ x0 x1 x2 x3 x4 x5 x6, (Eq (l347 x0 x1 x2 x3 x4 x5 x6) (@sliceV._sparseCasesOn_6 (fun _ => t4) x0 (fun x7 x8 x9 => (l346 x7 x1 x2 x3 x4 x5 x6 x8 x9)) (fun _ => none))) := by intro t; cases t <;> (intros; rfl)
abbrev t925 : Type := Nat → t106
abbrev t926 : Type := Nat → t925
abbrev t927 : Type := Nat → t926
abbrev t928 : Type := TypeId → t927
abbrev t929 : Type := t31 → t928
noncomputable def l348 : t929 := (fun x0 => (@Option.rec t7 (fun _ => t928) (fun _ _ _ _ _ _ => none) (fun x1 x2 x3 x4 x5 x6 x7 => ((fun x8 => (k_wr_Ret x7 x5 none (fun x9 => (k_nw_Ret x9 (CO.row x2 x8 Bool.true) (fun x10 x11 => (some (Ret.ok (CV.sl x10 (nat_lit 0) (Nat.add x6 x4) none x3) x11))))))) x1)) x0))
theorem l348_eq : ∀ x0 x1 x2 x3 x4 x5 x6, (Eq (l348 x0 x1 x2 x3 x4 x5 x6) (@Option.rec t7 (fun _ => t4) none (fun x7 => ((fun x8 => (k_wr_Ret x6 x4 none (fun x9 => (k_nw_Ret x9 (CO.row x1 x8 Bool.true) (fun x10 x11 => (some (Ret.ok (CV.sl x10 (nat_lit 0) (Nat.add x5 x3) none x2) x11))))))) x7)) x0)) := by intro t; cases t <;> (intros; rfl)
noncomputable def k_cat_CV : t238 := (fun x0 x1 => (@List.rec CV (fun _ => t32) (fun x2 => (some x2)) (fun x2 _ x4 x5 => (@Option.rec t7 (fun _ => t31) none (fun x6 => (some (x2 :: x6))) (x4 x5))) x0 x1))
theorem k_cat_CV_law : ∀ x0 x1, (Eq (k_cat_CV x0 x1) (@cat CV x0 x1)) := by
  intro t
  induction t with
  | nil  =>
    intro z0
    show ((fun (x0 : t7) => (some x0)) z0) = _
    conv => rhs; rw [Ev.cat.eq_def]
    all_goals kernel_rfl
  | cons y0 y1 ih0 =>
    intro z0
    have e0 : (fun (x0 : t7) => (k_cat_CV y1 x0)) = (fun (x0 : t7) => (@cat CV y1 x0)) := by
      funext z0; exact ih0 z0
    show ((fun (x0 : CV) (_ : t7) (x2 : t32) (x3 : t7) => (@Option.rec t7 (fun (_ : t31) => t31) none (fun (x4 : t7) => (some (x0 :: x4))) (x2 x3))) y0 y1 (fun (x0 : t7) => (k_cat_CV y1 x0)) z0) = _
    rw [e0]
    conv => rhs; rw [Ev.cat.eq_def]
    all_goals kernel_rfl
theorem k_cat_CV_eq : @k_cat_CV = (@cat CV) := by
  funext a0 a1; exact k_cat_CV_law a0 a1
abbrev t930 : Type := TypeId → t252
abbrev t931 : Type := S → t930
abbrev t932 : Type := Nat → t931
abbrev t933 : Type := Nat → t932
abbrev t934 : Type := Nat → t933
abbrev t935 : Type := t7 → t934
abbrev t936 : Type := Nat → t935
abbrev t937 : Type := TypeId → t936
abbrev t938 : Type := Bool → t937
noncomputable def l349 : t938 := (fun x0 => (@Bool.rec (fun _ => t937) (fun _ _ _ _ _ _ _ _ _ => none) (fun x1 x2 x3 x4 x5 x6 x7 x8 x9 => (@Bool.rec (fun _ => t4) none (l348 (k_cat_CV x9 x3) x1 x2 x4 x5 x6 x7) (@Bool.rec (fun _ => Bool) Bool.false (Nat.beq (k_len x9) (Nat.mul x6 x2)) (Nat.beq x8 x1)))) x0))
theorem l349_eq : ∀ x0 x1 x2 x3 x4 x5 x6 x7 x8 x9, (Eq (l349 x0 x1 x2 x3 x4 x5 x6 x7 x8 x9) (@appendV._sparseCasesOn_1 (fun _ => t4) x0 (@Bool.rec (fun _ => t4) none (l348 (k_cat_CV x9 x3) x1 x2 x4 x5 x6 x7) (@Bool.rec (fun _ => Bool) Bool.false (Nat.beq (k_len x9) (Nat.mul x6 x2)) (Nat.beq x8 x1))) (fun _ => none))) := by intro t; cases t <;> (intros; rfl)
abbrev t939 : Type := t7 → t926
abbrev t940 : Type := Nat → t939
abbrev t941 : Type := TypeId → t940
abbrev t942 : Type := CO → t941
noncomputable def l350 : t942 := (fun x0 => (@CO.rec (fun _ => t941) (fun x1 x2 x3 x4 x5 x6 x7 x8 x9 x10 => (l349 x3 x4 x5 x6 x7 x8 x9 x10 x1 x2)) (fun _ _ _ _ _ _ _ _ _ _ => none) (fun _ _ _ _ _ _ _ _ _ _ _ _ _ _ _ => none) (fun _ _ _ _ _ _ _ => none) (fun _ _ _ _ _ _ _ => none) x0))
theorem l350_eq : ∀ x0 x1 x2 x3 x4 x5 x6 x7, (Eq (l350 x0 x1 x2 x3 x4 x5 x6 x7) (@rdRow._sparseCasesOn_1 (fun _ => t4) x0 (fun x8 x9 x10 => (l349 x10 x1 x2 x3 x4 x5 x6 x7 x8 x9)) (fun _ => none))) := by intro t; cases t <;> (intros; rfl)
abbrev t943 : Type := Bool → t918
noncomputable def l351 : t943 := (fun x0 => (@Bool.rec (fun _ => t918) (fun x1 x2 x3 x4 x5 x6 x7 x8 => (@Bool.rec (fun _ => t4) none (k_rd_Ret x6 x7 (fun x9 x10 => (l350 x9 x1 x2 x4 x5 x7 x8 x10))) (@Bool.rec (fun _ => Bool) Bool.false (Nat.ble (Nat.add x8 x5) (nat_lit 9223372036854775807)) (Nat.ble (Nat.mul (Nat.add x8 x5) x3) (nat_lit 140737488355328))))) (fun _ _ _ _ _ _ _ _ => none) x0))
theorem l351_eq : ∀ x0 x1 x2 x3 x4 x5 x6 x7 x8, (Eq (l351 x0 x1 x2 x3 x4 x5 x6 x7 x8) (@Bool.rec (fun _ => t4) (@Bool.rec (fun _ => t4) none (k_rd_Ret x6 x7 (fun x9 x10 => (l350 x9 x1 x2 x4 x5 x7 x8 x10))) (@Bool.rec (fun _ => Bool) Bool.false (Nat.ble (Nat.add x8 x5) (nat_lit 9223372036854775807)) (Nat.ble (Nat.mul (Nat.add x8 x5) x3) (nat_lit 140737488355328)))) none x0)) := by intro t; cases t <;> (intros; rfl)
abbrev t944 : Type := TypeId → t926
abbrev t945 : Type := t31 → t944
noncomputable def l352 : t945 := (fun x0 => (@Option.rec t7 (fun _ => t944) (fun _ _ _ _ _ => none) (fun x1 x2 x3 x4 x5 x6 => ((fun x7 => (k_nw_Ret x6 (CO.row x2 x7 Bool.true) (fun x8 x9 => (some (Ret.ok (CV.sl x8 (nat_lit 0) (Nat.add x5 x4) none x3) x9))))) x1)) x0))
theorem l352_eq : ∀ x0 x1 x2 x3 x4 x5, (Eq (l352 x0 x1 x2 x3 x4 x5) (@Option.rec t7 (fun _ => t4) none (fun x6 => ((fun x7 => (k_nw_Ret x5 (CO.row x1 x7 Bool.true) (fun x8 x9 => (some (Ret.ok (CV.sl x8 (nat_lit 0) (Nat.add x4 x3) none x2) x9))))) x6)) x0)) := by intro t; cases t <;> (intros; rfl)
abbrev t946 : Type := Nat → t478
abbrev t947 : Type := t7 → t946
abbrev t948 : Type := Nat → t947
abbrev t949 : Type := TypeId → t948
abbrev t950 : Type := Bool → t949
noncomputable def l353 : t950 := (fun x0 => (@Bool.rec (fun _ => t949) (fun _ _ _ _ _ _ _ _ => none) (fun x1 x2 x3 x4 x5 x6 x7 x8 => (k_rdRow x5 x6 x7 (Nat.mul x8 x2) (fun x9 x10 => (l352 (k_cat_CV x9 x3) x1 x2 x4 x8 x10)))) x0))
theorem l353_eq : ∀ x0 x1 x2 x3 x4 x5 x6 x7 x8, (Eq (l353 x0 x1 x2 x3 x4 x5 x6 x7 x8) (@Bool.rec (fun _ => t4) none (k_rdRow x5 x6 x7 (Nat.mul x8 x2) (fun x9 x10 => (l352 (k_cat_CV x9 x3) x1 x2 x4 x8 x10))) x0)) := by intro t; cases t <;> (intros; rfl)
abbrev t951 : Type := TypeId → t488
abbrev t952 : Type := S → t951
abbrev t953 : Type := Nat → t952
abbrev t954 : Type := Nat → t953
abbrev t955 : Type := Nat → t954
abbrev t956 : Type := Nat → t955
abbrev t957 : Type := Nat → t956
abbrev t958 : Type := Nat → t957
abbrev t959 : Type := t31 → t958
noncomputable def l354 : t959 := (fun x0 => (@Option.rec t7 (fun _ => t958) (fun _ _ _ _ _ _ _ _ _ => none) (fun x1 x2 x3 x4 x5 x6 x7 x8 x9 x10 => ((fun x11 => (k_wr_Ret x8 x3 (some (CO.row x9 x11 x10)) (fun x12 => (some (Ret.ok (CV.sl x3 x4 (Nat.add x5 x2) (some x6) x7) x12))))) x1)) x0))
theorem l354_eq : ∀ x0 x1 x2 x3 x4 x5 x6 x7 x8 x9, (Eq (l354 x0 x1 x2 x3 x4 x5 x6 x7 x8 x9) (@Option.rec t7 (fun _ => t4) none (fun x10 => ((fun x11 => (k_wr_Ret x7 x2 (some (CO.row x8 x11 x9)) (fun x12 => (some (Ret.ok (CV.sl x2 x3 (Nat.add x4 x1) (some x5) x6) x12))))) x10)) x0)) := by intro t; cases t <;> (intros; rfl)
abbrev t960 : Type := Nat → t927
abbrev t961 : Type := Nat → t960
abbrev t962 : Type := t7 → t961
abbrev t963 : Type := Nat → t962
abbrev t964 : Type := CO → t963
noncomputable def l355 : t964 := (fun x0 => (@CO.rec (fun _ => t963) (fun x1 x2 x3 x4 x5 x6 x7 x8 x9 x10 x11 x12 => (l354 (k_putN (Nat.add x8 (Nat.mul x9 x4)) x5 x2) x6 x7 x8 x9 x10 x11 x12 x1 x3)) (fun _ _ _ _ _ _ _ _ _ _ _ _ => none) (fun _ _ _ _ _ _ _ _ _ _ _ _ _ _ _ _ _ => none) (fun _ _ _ _ _ _ _ _ _ => none) (fun _ _ _ _ _ _ _ _ _ => none) x0))
theorem l355_eq : ∀ x0 x1 x2 x3 x4 x5 x6 x7 x8 x9, (Eq (l355 x0 x1 x2 x3 x4 x5 x6 x7 x8 x9) (@rdRow._sparseCasesOn_1 (fun _ => t4) x0 (fun x10 x11 x12 => (l354 (k_putN (Nat.add x5 (Nat.mul x6 x1)) x2 x11) x3 x4 x5 x6 x7 x8 x9 x10 x12)) (fun _ => none))) := by intro t; cases t <;> (intros; rfl)
abbrev t965 : Type := Nat → t825
abbrev t966 : Type := t7 → t965
abbrev t967 : Type := Nat → t966
abbrev t968 : Type := Nat → t967
abbrev t969 : Type := TypeId → t968
abbrev t970 : Type := Bool → t969
noncomputable def l356 : t970 := (fun x0 => (@Bool.rec (fun _ => t969) (fun x1 x2 x3 x4 x5 x6 x7 x8 x9 _ _ => (l353 (@Bool.rec (fun _ => Bool) Bool.false (Nat.ble (Nat.add x9 x5) (nat_lit 9223372036854775807)) (Nat.ble (Nat.mul (Nat.add x9 x5) x3) (nat_lit 140737488355328))) x1 x2 x4 x5 x6 x7 x8 x9)) (fun _ x2 _ x4 x5 x6 x7 x8 x9 x10 x11 => (k_rd_Ret x6 x7 (fun x12 x13 => (l355 x12 x2 x4 x5 x7 x8 x9 x10 x11 x13)))) x0))
theorem l356_eq : ∀ x0 x1 x2 x3 x4 x5 x6 x7 x8 x9 x10 x11, (Eq (l356 x0 x1 x2 x3 x4 x5 x6 x7 x8 x9 x10 x11) (@Bool.rec (fun _ => t4) (l353 (@Bool.rec (fun _ => Bool) Bool.false (Nat.ble (Nat.add x9 x5) (nat_lit 9223372036854775807)) (Nat.ble (Nat.mul (Nat.add x9 x5) x3) (nat_lit 140737488355328))) x1 x2 x4 x5 x6 x7 x8 x9) (k_rd_Ret x6 x7 (fun x12 x13 => (l355 x12 x2 x4 x5 x7 x8 x9 x10 x11 x13))) x0)) := by intro t; cases t <;> (intros; rfl)
noncomputable def l357 : t970 := (fun x0 => (@Bool.rec (fun _ => t969) (fun x1 x2 x3 x4 x5 x6 x7 x8 x9 x10 x11 => (l356 (Nat.ble (Nat.add x9 x5) x10) x1 x2 x3 x4 x5 x6 x7 x8 x9 x10 x11)) (fun _ _ _ _ _ _ _ _ _ _ _ => none) x0))
theorem l357_eq : ∀ x0 x1 x2 x3 x4 x5 x6 x7 x8 x9 x10 x11, (Eq (l357 x0 x1 x2 x3 x4 x5 x6 x7 x8 x9 x10 x11) (@Bool.rec (fun _ => t4) (l356 (Nat.ble (Nat.add x9 x5) x10) x1 x2 x3 x4 x5 x6 x7 x8 x9 x10 x11) none x0)) := by intro t; cases t <;> (intros; rfl)
abbrev t971 : Type := Nat → t670
abbrev t972 : Type := t7 → t971
abbrev t973 : Type := Nat → t972
abbrev t974 : Type := Nat → t973
abbrev t975 : Type := TypeId → t974
abbrev t976 : Type := t164 → t975
noncomputable def l358 : t976 := (fun x0 => (@Option.rec Nat (fun _ => t975) (fun x1 x2 x3 x4 x5 x6 x7 x8 x9 x10 => (l351 (@Bool.rec (fun _ => Bool) Bool.true Bool.false (@Bool.rec (fun _ => Bool) Bool.false (Nat.beq x8 (nat_lit 0)) (Nat.beq x10 x2))) x1 x2 x3 x4 x5 x6 x7 x9)) (fun x1 x2 x3 x4 x5 x6 x7 x8 x9 x10 x11 => ((fun x12 x13 x14 x15 x16 => (l357 (@Bool.rec (fun _ => Bool) Bool.true Bool.false (Nat.beq x16 x3)) x2 x3 x4 x5 x6 x7 x12 x13 x14 x15 x16)) x8 x9 x10 x1 x11)) x0))
theorem l358_eq : ∀ x0 x1 x2 x3 x4 x5 x6 x7 x8 x9 x10, (Eq (l358 x0 x1 x2 x3 x4 x5 x6 x7 x8 x9 x10) (@Option.rec Nat (fun _ => t4) (l351 (@Bool.rec (fun _ => Bool) Bool.true Bool.false (@Bool.rec (fun _ => Bool) Bool.false (Nat.beq x8 (nat_lit 0)) (Nat.beq x10 x2))) x1 x2 x3 x4 x5 x6 x7 x9) (fun x11 => ((fun x12 x13 x14 x15 x16 => (l357 (@Bool.rec (fun _ => Bool) Bool.true Bool.false (Nat.beq x16 x2)) x1 x2 x3 x4 x5 x6 x12 x13 x14 x15 x16)) x7 x8 x9 x11 x10)) x0)) := by intro t; cases t <;> (intros; rfl)
abbrev t977 : Type := CV → t923
noncomputable def l359 : t977 := (fun x0 => (@CV.rec (fun _ => t923) (fun _ => PUnit.{1}) (fun _ _ _ _ _ _ => none) (fun x1 x2 x3 x4 x5 x6 x7 => (l347 x1 x2 x3 x4 x5 x6 x7)) (fun _ _ _ _ _ _ _ _ => none) (fun x1 x2 x3 x4 x5 x6 x7 x8 x9 x10 x11 => (l358 x4 x6 x7 x8 x9 x10 x11 x1 x2 x3 x5)) (fun _ _ _ _ _ _ => none) (fun _ _ _ _ _ _ _ => none) (fun _ _ _ _ _ _ _ _ => none) (fun _ _ _ _ _ _ _ _ => none) (fun _ _ _ _ _ _ _ _ _ _ _ => none) (fun _ _ _ _ _ _ _ => none) (fun _ _ _ _ _ _ _ _ _ => none) PUnit.unit.{1} (fun _ _ _ _ => PUnit.unit.{1}) x0))
theorem l359_eq : ∀ x0 x1 x2 x3 x4 x5 x6, (Eq (l359 x0 x1 x2 x3 x4 x5 x6) (@appendV._sparseCasesOn_2 (fun _ => t4) x0 (fun x7 => (l347 x7 x1 x2 x3 x4 x5 x6)) (fun x7 x8 x9 x10 x11 => (l358 x10 x1 x2 x3 x4 x5 x6 x7 x8 x9 x11)) (fun _ => none))) := by intro t; cases t <;> (intros; rfl)
abbrev t978 : Type := t920 → t47
abbrev t979 : Type := S → t978
abbrev t980 : Type := t497 → t979
noncomputable def l361 : t980 := (fun x0 => (@Option.rec Addr (fun _ => t979) (fun x1 x2 x3 x4 => (@dite ((fun _ => t4) (CV.val (Value.slice none x3 x4))) (Eq x3 (@OfNat.ofNat Nat (nat_lit 0) (instOfNatNat (nat_lit 0)))) (instDecidableEqNat x3 (@OfNat.ofNat Nat (nat_lit 0) (instOfNatNat (nat_lit 0)))) (@Eq.ndrec_symm Nat (@OfNat.ofNat Nat (nat_lit 0) (instOfNatNat (nat_lit 0))) (fun x5 => ((fun _ => t4) (CV.val (Value.slice none x5 x4)))) (@dite ((fun _ => t4) (CV.val (Value.slice none (@OfNat.ofNat Nat (nat_lit 0) (instOfNatNat (nat_lit 0))) x4))) (Eq x4 (@OfNat.ofNat Nat (nat_lit 0) (instOfNatNat (nat_lit 0)))) (instDecidableEqNat x4 (@OfNat.ofNat Nat (nat_lit 0) (instOfNatNat (nat_lit 0)))) (@Eq.ndrec_symm Nat (@OfNat.ofNat Nat (nat_lit 0) (instOfNatNat (nat_lit 0))) (fun x5 => ((fun _ => t4) (CV.val (Value.slice none (@OfNat.ofNat Nat (nat_lit 0) (instOfNatNat (nat_lit 0))) x5)))) ((fun _ => (x2 [] (@OfNat.ofNat Nat (nat_lit 0) (instOfNatNat (nat_lit 0))) x1)) Unit.unit) x4) (fun _ => ((fun _ => none) (CV.val (Value.slice none (@OfNat.ofNat Nat (nat_lit 0) (instOfNatNat (nat_lit 0))) x4))))) x3) (fun _ => ((fun _ => none) (CV.val (Value.slice none x3 x4)))))) (fun _ _ _ _ _ => none) x0))
theorem l361_eq : ∀ x0 x1 x2 x3 x4, (Eq (l361 x0 x1 x2 x3 x4) (@sliceV._sparseCasesOn_7 Addr (fun _ => t4) x0 (@dite ((fun _ => t4) (CV.val (Value.slice none x3 x4))) (Eq x3 (@OfNat.ofNat Nat (nat_lit 0) (instOfNatNat (nat_lit 0)))) (instDecidableEqNat x3 (@OfNat.ofNat Nat (nat_lit 0) (instOfNatNat (nat_lit 0)))) (@Eq.ndrec_symm Nat (@OfNat.ofNat Nat (nat_lit 0) (instOfNatNat (nat_lit 0))) (fun x5 => ((fun _ => t4) (CV.val (Value.slice none x5 x4)))) (@dite ((fun _ => t4) (CV.val (Value.slice none (@OfNat.ofNat Nat (nat_lit 0) (instOfNatNat (nat_lit 0))) x4))) (Eq x4 (@OfNat.ofNat Nat (nat_lit 0) (instOfNatNat (nat_lit 0)))) (instDecidableEqNat x4 (@OfNat.ofNat Nat (nat_lit 0) (instOfNatNat (nat_lit 0)))) (@Eq.ndrec_symm Nat (@OfNat.ofNat Nat (nat_lit 0) (instOfNatNat (nat_lit 0))) (fun x5 => ((fun _ => t4) (CV.val (Value.slice none (@OfNat.ofNat Nat (nat_lit 0) (instOfNatNat (nat_lit 0))) x5)))) ((fun _ => (x2 [] (@OfNat.ofNat Nat (nat_lit 0) (instOfNatNat (nat_lit 0))) x1)) Unit.unit) x4) (fun _ => ((fun _ => none) (CV.val (Value.slice none (@OfNat.ofNat Nat (nat_lit 0) (instOfNatNat (nat_lit 0))) x4))))) x3) (fun _ => ((fun _ => none) (CV.val (Value.slice none x3 x4))))) (fun _ => none))) := by intro t; cases t <;> (intros; rfl)
abbrev t981 : Type := t920 → t4
abbrev t982 : Type := S → t981
abbrev t983 : Type := Value → t982
noncomputable def l362 : t983 := (fun x0 => (@Value.rec (fun _ => t982) (fun _ => PUnit.{1}) (fun _ => PUnit.{1}) (fun _ _ _ => none) (fun _ _ _ _ => none) (fun _ _ _ _ => none) (fun _ _ _ _ _ => none) (fun _ _ _ => none) (fun _ _ _ => none) (fun x1 x2 x3 x4 x5 => (l361 x1 x4 x5 x2 x3)) (fun _ _ _ => none) (fun _ _ _ => none) (fun _ _ _ _ _ _ _ => none) (fun _ _ => none) (fun _ _ _ _ _ => none) (fun _ _ => none) (fun _ _ _ _ => none) (fun _ _ _ _ => none) (fun _ _ => PUnit.unit.{1}) PUnit.unit.{1} (fun _ _ _ _ => PUnit.unit.{1}) x0))
theorem l362_eq : ∀ x0 x1 x2, (Eq (l362 x0 x1 x2) (@sliceV._sparseCasesOn_6 (fun _ => t4) x0 (fun x3 x4 x5 => (l361 x3 x1 x2 x4 x5)) (fun _ => none))) := by intro t; cases t <;> (intros; rfl)
abbrev t984 : Type := t920 → t41
abbrev t985 : Type := S → t984
abbrev t986 : Type := CV → t985
noncomputable def l363 : t986 := (fun x0 => (@CV.rec (fun _ => t985) (fun _ => PUnit.{1}) (fun _ _ _ => none) (fun x1 x2 x3 _ => (l362 x1 x2 x3)) (fun _ _ _ _ _ => none) (fun x1 x2 x3 _ x5 x6 x7 x8 => (@Bool.rec (fun _ => t4) none (k_rdRow x6 x1 x2 (Nat.mul x3 x8) (fun x9 x10 => (x7 x9 x3 x10))) (Nat.beq x5 x8))) (fun x1 x2 _ => (x2 [] (nat_lit 0) x1)) (fun _ _ _ _ => none) (fun _ _ _ _ _ => none) (fun _ _ _ _ _ => none) (fun _ _ _ _ _ _ _ _ => none) (fun _ _ _ _ => none) (fun _ _ _ _ _ _ => none) PUnit.unit.{1} (fun _ _ _ _ => PUnit.unit.{1}) x0))
theorem l363_eq : ∀ x0 x1 x2 x3, (Eq (l363 x0 x1 x2 x3) (@sliceV._sparseCasesOn_5 (fun _ => t4) x0 (fun x4 x5 x6 _ x8 => (@Bool.rec (fun _ => t4) none (k_rdRow x1 x4 x5 (Nat.mul x6 x3) (fun x9 x10 => (x2 x9 x6 x10))) (Nat.beq x8 x3))) (x2 [] (nat_lit 0) x1) (fun x4 => (l362 x4 x1 x2)) (fun _ => none))) := by intro t; cases t <;> (intros; rfl)
abbrev t987 : Type := CV → t982
abbrev t988 : Type := Nat → t987
noncomputable def k_srcCells : t988 := (fun x0 x1 x2 x3 => (l363 x1 x2 x3 x0))
theorem k_srcCells_eq : @k_srcCells = srcCells := by
  delta k_srcCells srcCells
  simp only [l361_eq, l363_eq, l362_eq]
  rw [k_rdRow_eq]
  all_goals kernel_rfl

abbrev t989 : Type := CV → t656
abbrev t990 : Type := CV → t989
abbrev t991 : Type := Bool → t990
noncomputable def l360 : t991 := (fun x0 => (@Bool.rec (fun _ => t990) (fun x1 x2 x3 x4 x5 x6 => (k_srcCells x5 x2 x3 (fun x7 x8 x9 => (@Bool.rec (fun _ => t4) (l359 x1 x4 x5 x6 x7 x8 x9) none (@Bool.rec (fun _ => Bool) Bool.true Bool.false (k_allOne x7)))))) (fun _ _ _ _ _ _ => none) x0))
theorem l360_eq : ∀ x0 x1 x2 x3 x4 x5 x6, (Eq (l360 x0 x1 x2 x3 x4 x5 x6) (@Bool.rec (fun _ => t4) (k_srcCells x5 x2 x3 (fun x7 x8 x9 => (@Bool.rec (fun _ => t4) (l359 x1 x4 x5 x6 x7 x8 x9) none (@Bool.rec (fun _ => Bool) Bool.true Bool.false (k_allOne x7))))) none x0)) := by intro t; cases t <;> (intros; rfl)
abbrev t992 : Type := CV → t286
abbrev t993 : Type := CV → t992
abbrev t994 : Type := t319 → t993
noncomputable def l364 : t994 := (fun x0 => (@Prod.rec Nat t213 (fun _ => t993) (fun x1 x2 x3 x4 x5 x6 x7 => ((fun x8 x9 x10 x11 => (l360 (@Bool.rec (fun _ => Bool) Bool.true Bool.false (@Bool.rec (fun _ => Bool) Bool.false (Nat.beq (@List.length Value x11) x9) (k_Nat_blt (nat_lit 0) x9))) x3 x4 x5 x8 x9 x10)) x6 x7 x1 x2)) x0))
theorem l364_eq : ∀ x0 x1 x2 x3 x4 x5, (Eq (l364 x0 x1 x2 x3 x4 x5) (@Prod.rec Nat t213 (fun _ => t4) (fun x6 x7 => ((fun x8 x9 x10 x11 => (l360 (@Bool.rec (fun _ => Bool) Bool.true Bool.false (@Bool.rec (fun _ => Bool) Bool.false (Nat.beq (@List.length Value x11) x9) (k_Nat_blt (nat_lit 0) x9))) x1 x2 x3 x8 x9 x10)) x4 x5 x6 x7)) x0)) := by intro t; cases t <;> (intros; rfl)
abbrev t995 : Type := t327 → t428
noncomputable def l365 : t995 := (fun x0 => (@Option.rec t326 (fun _ => t428) (fun _ _ _ => none) (fun x1 x2 x3 x4 => (@Prod.rec TypeId t320 (fun _ => t4) (fun x5 x6 => (@Prod.rec Nat t319 (fun _ => t4) (fun x7 x8 => (l364 x8 x2 x3 x4 x5 x7)) x6)) x1)) x0))
theorem l365_eq : ∀ x0 x1 x2 x3, (Eq (l365 x0 x1 x2 x3) (@Option.rec t326 (fun _ => t4) none (fun x4 => (@Prod.rec TypeId t320 (fun _ => t4) (fun x5 x6 => (@Prod.rec Nat t319 (fun _ => t4) (fun x7 x8 => (l364 x8 x1 x2 x3 x5 x7)) x6)) x4)) x0)) := by intro t; cases t <;> (intros; rfl)
noncomputable def k_appendV : t530 := (fun x0 x1 x2 x3 x4 => (l365 (k_elInfo x0 x1) x2 x3 x4))
theorem k_appendV_eq : @k_appendV = appendV := by
  delta k_appendV appendV
  simp only [l346_eq, l348_eq, l351_eq, l365_eq, l356_eq, l360_eq, l353_eq, l357_eq, l350_eq, l352_eq, l359_eq, l358_eq, l355_eq, l349_eq, l354_eq, l347_eq, l364_eq]
  rw [k_elInfo_eq, k_wr_Ret_eq, k_nw_Ret_eq, k_len_eq, k_cat_CV_eq, k_rd_Ret_eq, k_rdRow_eq, k_putN_eq, k_srcCells_eq, k_allOne_eq, k_Nat_blt_eq]
  all_goals kernel_rfl

abbrev t996 : Type := Program → t863
abbrev t997 : Type := t81 → t996
noncomputable def l345 : t997 := (fun x0 => (@Option.rec CV (fun _ => t996) (fun _ _ _ _ => none) (fun x1 x2 x3 x4 x5 => (k_appendV x2 x4 x5 x1 x3)) x0))
theorem l345_eq : ∀ x0 x1 x2 x3 x4, (Eq (l345 x0 x1 x2 x3 x4) (@elInfo._sparseCasesOn_3 CV (fun _ => t4) x0 (fun x5 => (k_appendV x1 x3 x4 x5 x2)) (fun _ => none))) := by intro t; cases t <;> (intros; rfl)
abbrev t998 : Type := Operand → t74
abbrev t999 : Type := S → t998
abbrev t1000 : Type := t14 → t999
abbrev t1001 : Type := Program → t1000
abbrev t1002 : Type := t81 → t1001
noncomputable def l366 : t1002 := (fun x0 => (@Option.rec CV (fun _ => t1001) (fun _ _ _ _ _ => none) (fun x1 x2 x3 x4 x5 x6 => (l345 (k_ev x3 x5) x2 x4 x6 x1)) x0))
theorem l366_eq : ∀ x0 x1 x2 x3 x4 x5, (Eq (l366 x0 x1 x2 x3 x4 x5) (@elInfo._sparseCasesOn_3 CV (fun _ => t4) x0 (fun x6 => (l345 (k_ev x2 x4) x1 x3 x5 x6)) (fun _ => none))) := by intro t; cases t <;> (intros; rfl)
abbrev t1003 : Type := Operand → t998
abbrev t1004 : Type := S → t1003
abbrev t1005 : Type := t14 → t1004
abbrev t1006 : Type := Program → t1005
abbrev t1007 : Type := TypeDesc → t1006
noncomputable def l367 : t1007 := (fun x0 => (@TypeDesc.rec (fun _ => t1006) (fun _ _ _ _ _ _ => none) (fun _ _ _ _ _ _ => none) (fun _ _ _ _ _ _ _ => none) (fun _ _ _ _ _ _ _ => none) (fun _ _ _ _ _ _ _ => none) (fun _ _ _ _ _ _ => none) (fun _ _ _ _ _ _ => none) (fun _ _ _ _ _ _ _ => none) (fun _ x2 x3 x4 x5 x6 x7 => (l366 (k_ev x3 x5) x2 x3 x4 x6 x7)) (fun _ _ _ _ _ _ _ _ => none) (fun _ _ _ _ _ _ _ _ => none) (fun _ _ _ _ _ _ _ _ => none) (fun _ _ _ _ _ _ _ => none) (fun _ _ _ _ _ _ _ _ _ => none) (fun _ _ _ _ _ _ _ => none) (fun _ _ _ _ _ _ _ => none) (fun _ _ _ _ _ _ _ _ => none) x0))
theorem l367_eq : ∀ x0 x1 x2 x3 x4 x5 x6, (Eq (l367 x0 x1 x2 x3 x4 x5 x6) (@elInfo._sparseCasesOn_4 (fun _ => t4) x0 (fun _ => (l366 (k_ev x2 x4) x1 x2 x3 x5 x6)) (fun _ => none))) := by intro t; cases t <;> (intros; rfl)
abbrev t1008 : Type := t336 → t1006
noncomputable def l368 : t1008 := (fun x0 => (@Option.rec TypeDesc (fun _ => t1006) (fun _ _ _ _ _ _ => none) (fun x1 x2 x3 x4 x5 x6 x7 => (l367 x1 x2 x3 x4 x5 x6 x7)) x0))
theorem l368_eq : ∀ x0 x1 x2 x3 x4 x5 x6, (Eq (l368 x0 x1 x2 x3 x4 x5 x6) (@elInfo._sparseCasesOn_3 TypeDesc (fun _ => t4) x0 (fun x7 => (l367 x7 x1 x2 x3 x4 x5 x6)) (fun _ => none))) := by intro t; cases t <;> (intros; rfl)
abbrev t1009 : Type := List TypeId
abbrev t1010 : Type := Operand → t880
abbrev t1011 : Type := Operand → t1010
abbrev t1012 : Type := S → t1011
abbrev t1013 : Type := t14 → t1012
abbrev t1014 : Type := Program → t1013
abbrev t1015 : Type := t1009 → t1014
noncomputable def l369 : t1015 := (fun x0 => (@List.rec TypeId (fun _ => t1014) (fun x1 x2 x3 x4 x5 x6 x7 => (l368 (Program.underlying x1 x7) x1 x2 x3 x4 x5 x6)) (fun _ _ _ _ _ _ _ _ _ _ => none) x0))
theorem l369_eq : ∀ x0 x1 x2 x3 x4 x5 x6 x7, (Eq (l369 x0 x1 x2 x3 x4 x5 x6 x7) (@zipIx._sparseCasesOn_2 TypeId (fun _ => t4) x0 (l368 (Program.underlying x1 x7) x1 x2 x3 x4 x5 x6) (fun _ => none))) := by intro t; cases t <;> (intros; rfl)
abbrev t1016 : Type := t1009 → t1006
noncomputable def l370 : t1016 := (fun x0 => (@List.rec TypeId (fun _ => t1006) (fun _ _ _ _ _ _ => none) (fun x1 x2 _ x4 x5 x6 x7 x8 x9 => (l369 x2 x4 x5 x6 x7 x8 x9 x1)) x0))
theorem l370_eq : ∀ x0 x1 x2 x3 x4 x5 x6, (Eq (l370 x0 x1 x2 x3 x4 x5 x6) (@zipIx._sparseCasesOn_3 TypeId (fun _ => t4) x0 (fun x7 x8 => (l369 x8 x1 x2 x3 x4 x5 x6 x7)) (fun _ => none))) := by intro t; cases t <;> (intros; rfl)
abbrev t1017 : Type := Operand → t194
abbrev t1018 : Type := S → t1017
abbrev t1019 : Type := t14 → t1018
abbrev t1020 : Type := Program → t1019
abbrev t1021 : Type := t1009 → t1020
noncomputable def l371 : t1021 := (fun x0 => (@List.rec TypeId (fun _ => t1020) (fun _ _ _ _ _ => none) (fun x1 x2 _ x4 x5 x6 x7 x8 => (l370 x2 x4 x5 x6 x7 x8 x1)) x0))
theorem l371_eq : ∀ x0 x1 x2 x3 x4 x5, (Eq (l371 x0 x1 x2 x3 x4 x5) (@zipIx._sparseCasesOn_3 TypeId (fun _ => t4) x0 (fun x6 x7 => (l370 x7 x1 x2 x3 x4 x5 x6)) (fun _ => none))) := by intro t; cases t <;> (intros; rfl)
abbrev t1022 : Type := Call → t1018
abbrev t1023 : Type := t14 → t1022
abbrev t1024 : Type := Program → t1023
abbrev t1025 : Type := t273 → t1024
noncomputable def l372 : t1025 := (fun x0 => (@List.rec Operand (fun _ => t1024) (fun x1 x2 x3 x4 x5 x6 => (l371 (@Array.toList TypeId (Call.argTypes x3)) x1 x2 x4 x5 x6)) (fun _ _ _ _ _ _ _ _ _ => none) x0))
theorem l372_eq : ∀ x0 x1 x2 x3 x4 x5 x6, (Eq (l372 x0 x1 x2 x3 x4 x5 x6) (@zipIx._sparseCasesOn_2 Operand (fun _ => t4) x0 (l371 (@Array.toList TypeId (Call.argTypes x3)) x1 x2 x4 x5 x6) (fun _ => none))) := by intro t; cases t <;> (intros; rfl)
abbrev t1026 : Type := Call → t195
abbrev t1027 : Type := t14 → t1026
abbrev t1028 : Type := Program → t1027
abbrev t1029 : Type := t273 → t1028
noncomputable def l373 : t1029 := (fun x0 => (@List.rec Operand (fun _ => t1028) (fun _ _ _ _ _ => none) (fun x1 x2 _ x4 x5 x6 x7 x8 => (l372 x2 x4 x5 x6 x7 x8 x1)) x0))
theorem l373_eq : ∀ x0 x1 x2 x3 x4 x5, (Eq (l373 x0 x1 x2 x3 x4 x5) (@zipIx._sparseCasesOn_3 Operand (fun _ => t4) x0 (fun x6 x7 => (l372 x7 x1 x2 x3 x4 x5 x6)) (fun _ => none))) := by intro t; cases t <;> (intros; rfl)
abbrev t1030 : Type := Call → t8
abbrev t1031 : Type := t14 → t1030
abbrev t1032 : Type := Program → t1031
abbrev t1033 : Type := t273 → t1032
noncomputable def l374 : t1033 := (fun x0 => (@List.rec Operand (fun _ => t1032) (fun _ _ _ _ => none) (fun x1 x2 _ x4 x5 x6 x7 => (l373 x2 x4 x5 x6 x7 x1)) x0))
theorem l374_eq : ∀ x0 x1 x2 x3 x4, (Eq (l374 x0 x1 x2 x3 x4) (@zipIx._sparseCasesOn_3 Operand (fun _ => t4) x0 (fun x5 x6 => (l373 x6 x1 x2 x3 x4 x5)) (fun _ => none))) := by intro t; cases t <;> (intros; rfl)
noncomputable def k_o_append : t1032 := (fun x0 x1 x2 x3 => (l374 (@Array.toList Operand (Call.args x2)) x0 x1 x2 x3))
theorem k_o_append_eq : @k_o_append = o_append := by
  delta k_o_append o_append
  simp only [l345_eq, l367_eq, l369_eq, l374_eq, l373_eq, l371_eq, l368_eq, l372_eq, l370_eq, l366_eq]
  rw [k_appendV_eq, k_ev_eq]
  all_goals kernel_rfl

abbrev t1034 : Type := t497 → t163
noncomputable def l378 : t1034 := (fun x0 => (@Option.rec Addr (fun _ => t163) (fun x1 x2 => (@dite ((fun _ => Bool) (CV.val (Value.slice none x1 x2))) (Eq x1 (@OfNat.ofNat Nat (nat_lit 0) (instOfNatNat (nat_lit 0)))) (instDecidableEqNat x1 (@OfNat.ofNat Nat (nat_lit 0) (instOfNatNat (nat_lit 0)))) (@Eq.ndrec_symm Nat (@OfNat.ofNat Nat (nat_lit 0) (instOfNatNat (nat_lit 0))) (fun x3 => ((fun _ => Bool) (CV.val (Value.slice none x3 x2)))) (@dite ((fun _ => Bool) (CV.val (Value.slice none (@OfNat.ofNat Nat (nat_lit 0) (instOfNatNat (nat_lit 0))) x2))) (Eq x2 (@OfNat.ofNat Nat (nat_lit 0) (instOfNatNat (nat_lit 0)))) (instDecidableEqNat x2 (@OfNat.ofNat Nat (nat_lit 0) (instOfNatNat (nat_lit 0)))) (@Eq.ndrec_symm Nat (@OfNat.ofNat Nat (nat_lit 0) (instOfNatNat (nat_lit 0))) (fun x3 => ((fun _ => Bool) (CV.val (Value.slice none (@OfNat.ofNat Nat (nat_lit 0) (instOfNatNat (nat_lit 0))) x3)))) ((fun _ => Bool.true) Unit.unit) x2) (fun _ => ((fun _ => Bool.false) (CV.val (Value.slice none (@OfNat.ofNat Nat (nat_lit 0) (instOfNatNat (nat_lit 0))) x2))))) x1) (fun _ => ((fun _ => Bool.false) (CV.val (Value.slice none x1 x2)))))) (fun _ _ _ => Bool.false) x0))
theorem l378_eq : ∀ x0 x1 x2, (Eq (l378 x0 x1 x2) (@sliceV._sparseCasesOn_7 Addr (fun _ => Bool) x0 (@dite ((fun _ => Bool) (CV.val (Value.slice none x1 x2))) (Eq x1 (@OfNat.ofNat Nat (nat_lit 0) (instOfNatNat (nat_lit 0)))) (instDecidableEqNat x1 (@OfNat.ofNat Nat (nat_lit 0) (instOfNatNat (nat_lit 0)))) (@Eq.ndrec_symm Nat (@OfNat.ofNat Nat (nat_lit 0) (instOfNatNat (nat_lit 0))) (fun x3 => ((fun _ => Bool) (CV.val (Value.slice none x3 x2)))) (@dite ((fun _ => Bool) (CV.val (Value.slice none (@OfNat.ofNat Nat (nat_lit 0) (instOfNatNat (nat_lit 0))) x2))) (Eq x2 (@OfNat.ofNat Nat (nat_lit 0) (instOfNatNat (nat_lit 0)))) (instDecidableEqNat x2 (@OfNat.ofNat Nat (nat_lit 0) (instOfNatNat (nat_lit 0)))) (@Eq.ndrec_symm Nat (@OfNat.ofNat Nat (nat_lit 0) (instOfNatNat (nat_lit 0))) (fun x3 => ((fun _ => Bool) (CV.val (Value.slice none (@OfNat.ofNat Nat (nat_lit 0) (instOfNatNat (nat_lit 0))) x3)))) ((fun _ => Bool.true) Unit.unit) x2) (fun _ => ((fun _ => Bool.false) (CV.val (Value.slice none (@OfNat.ofNat Nat (nat_lit 0) (instOfNatNat (nat_lit 0))) x2))))) x1) (fun _ => ((fun _ => Bool.false) (CV.val (Value.slice none x1 x2))))) (fun _ => Bool.false))) := by intro t; cases t <;> (intros; rfl)
noncomputable def l379 : t1 := (fun x0 => (@Value.rec (fun _ => Bool) (fun _ => PUnit.{1}) (fun _ => PUnit.{1}) (fun _ => Bool.false) (fun _ _ => Bool.false) (fun _ _ => Bool.false) (fun _ _ _ => Bool.false) (fun _ => Bool.false) (fun _ => Bool.false) (fun x1 x2 x3 => (l378 x1 x2 x3)) (fun _ => Bool.false) (fun _ => Bool.false) (fun _ _ _ _ _ => Bool.false) Bool.false (fun _ _ _ => Bool.false) Bool.false (fun _ _ => Bool.false) (fun _ _ => Bool.false) (fun _ _ => PUnit.unit.{1}) PUnit.unit.{1} (fun _ _ _ _ => PUnit.unit.{1}) x0))
theorem l379_eq : ∀ x0, (Eq (l379 x0) (@sliceV._sparseCasesOn_6 (fun _ => Bool) x0 (fun x1 x2 x3 => (l378 x1 x2 x3)) (fun _ => Bool.false))) := by intro t; cases t <;> (intros; rfl)
noncomputable def l380 : t2 := (fun x0 => (@CV.rec (fun _ => Bool) (fun _ => PUnit.{1}) Bool.false (fun x1 => (l379 x1)) (fun _ _ => Bool.false) (fun _ _ _ _ _ => Bool.false) Bool.true (fun _ => Bool.false) (fun _ _ => Bool.false) (fun _ _ => Bool.false) (fun _ _ _ _ _ => Bool.false) (fun _ => Bool.false) (fun _ _ _ => Bool.false) PUnit.unit.{1} (fun _ _ _ _ => PUnit.unit.{1}) x0))
theorem l380_eq : ∀ x0, (Eq (l380 x0) (@noSl._sparseCasesOn_1 (fun _ => Bool) x0 Bool.true (fun x1 => (l379 x1)) (fun _ => Bool.false))) := by intro t; cases t <;> (intros; rfl)
noncomputable def k_noSl : t2 := (fun x0 => (l380 x0))
theorem k_noSl_eq : @k_noSl = noSl := by
  delta k_noSl noSl
  simp only [l378_eq, l379_eq, l380_eq]
  all_goals kernel_rfl

noncomputable def l377 : t533 := (fun x0 => (@CV.rec (fun _ => t2) (fun _ => PUnit.{1}) (fun x1 => (k_noSl x1)) (fun _ x2 => (k_noSl x2)) (fun _ _ x3 => (k_noSl x3)) (fun _ _ _ _ _ _ => Bool.true) (fun x1 => (k_noSl x1)) (fun _ x2 => (k_noSl x2)) (fun _ _ x3 => (k_noSl x3)) (fun _ _ x3 => (k_noSl x3)) (fun _ _ _ _ _ x6 => (k_noSl x6)) (fun _ x2 => (k_noSl x2)) (fun _ _ _ x4 => (k_noSl x4)) PUnit.unit.{1} (fun _ _ _ _ => PUnit.unit.{1}) x0))
theorem l377_eq : ∀ x0 x1, (Eq (l377 x0 x1) (@anySl._sparseCasesOn_1 (fun _ => Bool) x0 (fun _ _ _ _ _ => Bool.true) (fun _ => (k_noSl x1)))) := by intro t; cases t <;> (intros; rfl)
noncomputable def k_anySl : t2 := (fun x0 => (l377 x0 x0))
theorem k_anySl_eq : @k_anySl = anySl := by
  delta k_anySl anySl
  simp only [l377_eq]
  rw [k_noSl_eq]
  all_goals kernel_rfl

noncomputable def l376 : t428 := (fun x0 x1 x2 => (@Bool.rec (fun _ => t4) none (k_retI x2 IntKind.i64 (nat_lit 0)) (@Bool.rec (fun _ => Bool) Bool.false (k_anySl x1) (@Bool.rec (fun _ => Bool) Bool.false (k_anySl x0) (@Bool.rec (fun _ => Bool) (k_noSl x1) Bool.true (k_noSl x0))))))
theorem l376_eq : ∀ x0 x1 x2, (Eq (l376 x0 x1 x2) (@Bool.rec (fun _ => t4) none (k_retI x2 IntKind.i64 (nat_lit 0)) (@Bool.rec (fun _ => Bool) Bool.false (k_anySl x1) (@Bool.rec (fun _ => Bool) Bool.false (k_anySl x0) (@Bool.rec (fun _ => Bool) (k_noSl x1) Bool.true (k_noSl x0)))))) := by intros; rfl
abbrev t1035 : Type := t164 → t41
abbrev t1036 : Type := Nat → t1035
abbrev t1037 : Type := Nat → t1036
abbrev t1038 : Type := Nat → t1037
abbrev t1039 : Type := S → t1038
abbrev t1040 : Type := CV → t1039
noncomputable def l381 : t1040 := (fun x0 x1 x2 x3 x4 x5 x6 => (@Bool.rec (fun _ => t4) none (k_retI x1 IntKind.i64 (nat_lit 0)) (@Bool.rec (fun _ => Bool) Bool.false (k_anySl x0) (@Bool.rec (fun _ => Bool) Bool.false (k_anySl (CV.sl x2 x3 x4 x5 x6)) (@Bool.rec (fun _ => Bool) (k_noSl x0) Bool.true (k_noSl (CV.sl x2 x3 x4 x5 x6)))))))
theorem l381_eq : ∀ x0 x1 x2 x3 x4 x5 x6, (Eq (l381 x0 x1 x2 x3 x4 x5 x6) (@Bool.rec (fun _ => t4) none (k_retI x1 IntKind.i64 (nat_lit 0)) (@Bool.rec (fun _ => Bool) Bool.false (k_anySl x0) (@Bool.rec (fun _ => Bool) Bool.false (k_anySl (CV.sl x2 x3 x4 x5 x6)) (@Bool.rec (fun _ => Bool) (k_noSl x0) Bool.true (k_noSl (CV.sl x2 x3 x4 x5 x6))))))) := by intros; rfl
abbrev t1041 : Type := Nat → Nat
abbrev t1042 : Type := Nat → t1041
noncomputable def k_minN : t1042 := (fun x0 x1 => (@Bool.rec (fun _ => Nat) x1 x0 (Nat.ble x0 x1)))
theorem k_minN_eq : @k_minN = minN := by
  delta k_minN minN
  all_goals kernel_rfl

abbrev t1043 : Type := t31 → t955
noncomputable def l382 : t1043 := (fun x0 => (@Option.rec t7 (fun _ => t955) (fun _ _ _ _ _ _ => none) (fun x1 x2 x3 x4 x5 x6 x7 => ((fun x8 => (k_wr_Ret x5 x2 (some (CO.row x6 x8 x7)) (fun x9 => (k_retI x9 IntKind.i64 (@Nat.cast Int (@NatCast.mk Int (fun x10 => (Int.ofNat x10))) (k_minN x3 x4)))))) x1)) x0))
theorem l382_eq : ∀ x0 x1 x2 x3 x4 x5 x6, (Eq (l382 x0 x1 x2 x3 x4 x5 x6) (@Option.rec t7 (fun _ => t4) none (fun x7 => ((fun x8 => (k_wr_Ret x4 x1 (some (CO.row x5 x8 x6)) (fun x9 => (k_retI x9 IntKind.i64 (@Nat.cast Int (@NatCast.mk Int (fun x10 => (Int.ofNat x10))) (k_minN x2 x3)))))) x7)) x0)) := by intro t; cases t <;> (intros; rfl)
abbrev t1044 : Type := Nat → t9
abbrev t1045 : Type := Nat → t1044
abbrev t1046 : Type := Nat → t1045
abbrev t1047 : Type := Nat → t1046
abbrev t1048 : Type := CO → t1047
noncomputable def l383 : t1048 := (fun x0 => (@CO.rec (fun _ => t1047) (fun x1 x2 x3 x4 x5 x6 x7 x8 x9 => (l382 (k_putN x5 x8 x2) x4 x6 x7 x9 x1 x3)) (fun _ _ _ _ _ _ _ _ _ => none) (fun _ _ _ _ _ _ _ _ _ _ _ _ _ _ => none) (fun _ _ _ _ _ _ => none) (fun _ _ _ _ _ _ => none) x0))
theorem l383_eq : ∀ x0 x1 x2 x3 x4 x5 x6, (Eq (l383 x0 x1 x2 x3 x4 x5 x6) (@rdRow._sparseCasesOn_1 (fun _ => t4) x0 (fun x7 x8 x9 => (l382 (k_putN x2 x5 x8) x1 x3 x4 x6 x7 x9)) (fun _ => none))) := by intro t; cases t <;> (intros; rfl)
abbrev t1049 : Type := Nat → t824
abbrev t1050 : Type := Nat → t1049
abbrev t1051 : Type := S → t1050
abbrev t1052 : Type := Bool → t1051
noncomputable def l384 : t1052 := (fun x0 => (@Bool.rec (fun _ => t1051) (fun _ _ _ _ _ _ _ _ => none) (fun x1 x2 x3 x4 x5 x6 x7 x8 => (k_rdRow x1 x6 x7 (Nat.mul (k_minN x5 x8) x2) (fun x9 x10 => (@Bool.rec (fun _ => t4) none (k_rd_Ret x10 x3 (fun x11 x12 => (l383 x11 x3 x4 x5 x8 x9 x12))) (k_allOne x9))))) x0))
theorem l384_eq : ∀ x0 x1 x2 x3 x4 x5 x6 x7 x8, (Eq (l384 x0 x1 x2 x3 x4 x5 x6 x7 x8) (@Bool.rec (fun _ => t4) none (k_rdRow x1 x6 x7 (Nat.mul (k_minN x5 x8) x2) (fun x9 x10 => (@Bool.rec (fun _ => t4) none (k_rd_Ret x10 x3 (fun x11 x12 => (l383 x11 x3 x4 x5 x8 x9 x12))) (k_allOne x9)))) x0)) := by intro t; cases t <;> (intros; rfl)
abbrev t1053 : Type := t164 → t47
abbrev t1054 : Type := Nat → t1053
abbrev t1055 : Type := Nat → t1054
abbrev t1056 : Type := Nat → t1055
abbrev t1057 : Type := S → t1056
abbrev t1058 : Type := CV → t1057
abbrev t1059 : Type := CV → t1058
noncomputable def l385 : t1059 := (fun x0 => (@CV.rec (fun _ => t1058) (fun _ => PUnit.{1}) (fun x1 x2 x3 x4 x5 x6 x7 _ => (l381 x1 x2 x3 x4 x5 x6 x7)) (fun _ x2 x3 x4 x5 x6 x7 x8 _ => (l381 x2 x3 x4 x5 x6 x7 x8)) (fun _ _ x3 x4 x5 x6 x7 x8 x9 _ => (l381 x3 x4 x5 x6 x7 x8 x9)) (fun x1 x2 x3 _ x5 _ x7 x8 x9 x10 _ x12 x13 => (l384 (@Bool.rec (fun _ => Bool) Bool.false (Nat.beq x5 x13) (Nat.beq x12 x13)) x7 x13 x8 x9 x10 x1 x2 x3)) (fun x1 x2 x3 x4 x5 x6 x7 _ => (l381 x1 x2 x3 x4 x5 x6 x7)) (fun _ x2 x3 x4 x5 x6 x7 x8 _ => (l381 x2 x3 x4 x5 x6 x7 x8)) (fun _ _ x3 x4 x5 x6 x7 x8 x9 _ => (l381 x3 x4 x5 x6 x7 x8 x9)) (fun _ _ x3 x4 x5 x6 x7 x8 x9 _ => (l381 x3 x4 x5 x6 x7 x8 x9)) (fun _ _ _ _ _ x6 x7 x8 x9 x10 x11 x12 _ => (l381 x6 x7 x8 x9 x10 x11 x12)) (fun _ x2 x3 x4 x5 x6 x7 x8 _ => (l381 x2 x3 x4 x5 x6 x7 x8)) (fun _ _ _ x4 x5 x6 x7 x8 x9 x10 _ => (l381 x4 x5 x6 x7 x8 x9 x10)) PUnit.unit.{1} (fun _ _ _ _ => PUnit.unit.{1}) x0))
theorem l385_eq : ∀ x0 x1 x2 x3 x4 x5 x6 x7 x8, (Eq (l385 x0 x1 x2 x3 x4 x5 x6 x7 x8) (@anySl._sparseCasesOn_1 (fun _ => t4) x0 (fun x9 x10 x11 _ x13 => (l384 (@Bool.rec (fun _ => Bool) Bool.false (Nat.beq x13 x8) (Nat.beq x7 x8)) x2 x8 x3 x4 x5 x9 x10 x11)) (fun _ => (l381 x1 x2 x3 x4 x5 x6 x7)))) := by intro t; cases t <;> (intros; rfl)
abbrev t1060 : Type := CV → t472
abbrev t1061 : Type := CV → t1060
noncomputable def l386 : t1061 := (fun x0 => (@CV.rec (fun _ => t1060) (fun _ => PUnit.{1}) (fun x1 x2 x3 _ => (l376 x1 x2 x3)) (fun _ x2 x3 x4 _ => (l376 x2 x3 x4)) (fun _ _ x3 x4 x5 _ => (l376 x3 x4 x5)) (fun x1 x2 x3 x4 x5 _ x7 x8 x9 => (l385 x7 x7 x8 x1 x2 x3 x4 x5 x9)) (fun x1 x2 x3 _ => (l376 x1 x2 x3)) (fun _ x2 x3 x4 _ => (l376 x2 x3 x4)) (fun _ _ x3 x4 x5 _ => (l376 x3 x4 x5)) (fun _ _ x3 x4 x5 _ => (l376 x3 x4 x5)) (fun _ _ _ _ _ x6 x7 x8 _ => (l376 x6 x7 x8)) (fun _ x2 x3 x4 _ => (l376 x2 x3 x4)) (fun _ _ _ x4 x5 x6 _ => (l376 x4 x5 x6)) PUnit.unit.{1} (fun _ _ _ _ => PUnit.unit.{1}) x0))
theorem l386_eq : ∀ x0 x1 x2 x3 x4, (Eq (l386 x0 x1 x2 x3 x4) (@anySl._sparseCasesOn_1 (fun _ => t4) x0 (fun x5 x6 x7 x8 x9 => (l385 x2 x2 x3 x5 x6 x7 x8 x9 x4)) (fun _ => (l376 x1 x2 x3)))) := by intro t; cases t <;> (intros; rfl)
noncomputable def k_copyV : t530 := (fun x0 x1 x2 x3 x4 => (@Option.rec Nat (fun _ => t4) none (fun x5 => ((fun x6 => (l386 x2 x2 x3 x4 x6)) x5)) (slSize x0 x1)))
theorem k_copyV_eq : @k_copyV = copyV := by
  delta k_copyV copyV
  simp only [l386_eq, l376_eq, l384_eq, l383_eq, l381_eq, l382_eq, l385_eq]
  rw [k_noSl_eq, k_anySl_eq, k_retI_eq, k_wr_Ret_eq, k_minN_eq, k_putN_eq, k_rdRow_eq, k_allOne_eq, k_rd_Ret_eq]
  all_goals kernel_rfl

noncomputable def l375 : t997 := (fun x0 => (@Option.rec CV (fun _ => t996) (fun _ _ _ _ => none) (fun x1 x2 x3 x4 x5 => (k_copyV x2 x4 x5 x1 x3)) x0))
theorem l375_eq : ∀ x0 x1 x2 x3 x4, (Eq (l375 x0 x1 x2 x3 x4) (@elInfo._sparseCasesOn_3 CV (fun _ => t4) x0 (fun x5 => (k_copyV x1 x3 x4 x5 x2)) (fun _ => none))) := by intro t; cases t <;> (intros; rfl)
noncomputable def l387 : t1002 := (fun x0 => (@Option.rec CV (fun _ => t1001) (fun _ _ _ _ _ => none) (fun x1 x2 x3 x4 x5 x6 => (l375 (k_ev x3 x5) x2 x4 x6 x1)) x0))
theorem l387_eq : ∀ x0 x1 x2 x3 x4 x5, (Eq (l387 x0 x1 x2 x3 x4 x5) (@elInfo._sparseCasesOn_3 CV (fun _ => t4) x0 (fun x6 => (l375 (k_ev x2 x4) x1 x3 x5 x6)) (fun _ => none))) := by intro t; cases t <;> (intros; rfl)
noncomputable def l388 : t1016 := (fun x0 => (@List.rec TypeId (fun _ => t1006) (fun x1 x2 x3 x4 x5 x6 => (l387 (k_ev x2 x4) x1 x2 x3 x5 x6)) (fun _ _ _ _ _ _ _ _ _ => none) x0))
theorem l388_eq : ∀ x0 x1 x2 x3 x4 x5 x6, (Eq (l388 x0 x1 x2 x3 x4 x5 x6) (@zipIx._sparseCasesOn_2 TypeId (fun _ => t4) x0 (l387 (k_ev x2 x4) x1 x2 x3 x5 x6) (fun _ => none))) := by intro t; cases t <;> (intros; rfl)
noncomputable def l389 : t1016 := (fun x0 => (@List.rec TypeId (fun _ => t1006) (fun _ _ _ _ _ _ => none) (fun _ x2 _ x4 x5 x6 x7 x8 x9 => (l388 x2 x4 x5 x6 x7 x8 x9)) x0))
theorem l389_eq : ∀ x0 x1 x2 x3 x4 x5 x6, (Eq (l389 x0 x1 x2 x3 x4 x5 x6) (@zipIx._sparseCasesOn_3 TypeId (fun _ => t4) x0 (fun _ x8 => (l388 x8 x1 x2 x3 x4 x5 x6)) (fun _ => none))) := by intro t; cases t <;> (intros; rfl)
noncomputable def l390 : t1021 := (fun x0 => (@List.rec TypeId (fun _ => t1020) (fun _ _ _ _ _ => none) (fun x1 x2 _ x4 x5 x6 x7 x8 => (l389 x2 x4 x5 x6 x7 x8 x1)) x0))
theorem l390_eq : ∀ x0 x1 x2 x3 x4 x5, (Eq (l390 x0 x1 x2 x3 x4 x5) (@zipIx._sparseCasesOn_3 TypeId (fun _ => t4) x0 (fun x6 x7 => (l389 x7 x1 x2 x3 x4 x5 x6)) (fun _ => none))) := by intro t; cases t <;> (intros; rfl)
noncomputable def l391 : t1025 := (fun x0 => (@List.rec Operand (fun _ => t1024) (fun x1 x2 x3 x4 x5 x6 => (l390 (@Array.toList TypeId (Call.argTypes x3)) x1 x2 x4 x5 x6)) (fun _ _ _ _ _ _ _ _ _ => none) x0))
theorem l391_eq : ∀ x0 x1 x2 x3 x4 x5 x6, (Eq (l391 x0 x1 x2 x3 x4 x5 x6) (@zipIx._sparseCasesOn_2 Operand (fun _ => t4) x0 (l390 (@Array.toList TypeId (Call.argTypes x3)) x1 x2 x4 x5 x6) (fun _ => none))) := by intro t; cases t <;> (intros; rfl)
noncomputable def l392 : t1029 := (fun x0 => (@List.rec Operand (fun _ => t1028) (fun _ _ _ _ _ => none) (fun x1 x2 _ x4 x5 x6 x7 x8 => (l391 x2 x4 x5 x6 x7 x8 x1)) x0))
theorem l392_eq : ∀ x0 x1 x2 x3 x4 x5, (Eq (l392 x0 x1 x2 x3 x4 x5) (@zipIx._sparseCasesOn_3 Operand (fun _ => t4) x0 (fun x6 x7 => (l391 x7 x1 x2 x3 x4 x5 x6)) (fun _ => none))) := by intro t; cases t <;> (intros; rfl)
noncomputable def l393 : t1033 := (fun x0 => (@List.rec Operand (fun _ => t1032) (fun _ _ _ _ => none) (fun x1 x2 _ x4 x5 x6 x7 => (l392 x2 x4 x5 x6 x7 x1)) x0))
theorem l393_eq : ∀ x0 x1 x2 x3 x4, (Eq (l393 x0 x1 x2 x3 x4) (@zipIx._sparseCasesOn_3 Operand (fun _ => t4) x0 (fun x5 x6 => (l392 x6 x1 x2 x3 x4 x5)) (fun _ => none))) := by intro t; cases t <;> (intros; rfl)
noncomputable def k_o_copy : t1032 := (fun x0 x1 x2 x3 => (l393 (@Array.toList Operand (Call.args x2)) x0 x1 x2 x3))
theorem k_o_copy_eq : @k_o_copy = o_copy := by
  delta k_o_copy o_copy
  simp only [l392_eq, l387_eq, l388_eq, l391_eq, l375_eq, l390_eq, l389_eq, l393_eq]
  rw [k_copyV_eq, k_ev_eq]
  all_goals kernel_rfl

noncomputable def l394 : t45 := (fun x0 => (@CO.rec (fun _ => t8) (fun _ _ _ _ => none) (fun _ x2 _ x4 => (k_retI x4 IntKind.i64 (@Nat.cast Int (@NatCast.mk Int (fun x5 => (Int.ofNat x5))) (@List.length t343 x2)))) (fun _ _ _ _ _ _ _ _ _ => none) (fun _ => none) (fun _ => none) x0))
theorem l394_eq : ∀ x0 x1, (Eq (l394 x0 x1) (@lookupV._sparseCasesOn_2 (fun _ => t4) x0 (fun _ x3 _ => (k_retI x1 IntKind.i64 (@Nat.cast Int (@NatCast.mk Int (fun x5 => (Int.ofNat x5))) (@List.length t343 x3)))) (fun _ => none))) := by intro t; cases t <;> (intros; rfl)
abbrev t1062 : Type := t164 → t8
noncomputable def l395 : t1062 := (fun x0 => (@Option.rec Nat (fun _ => t8) (fun x1 => (k_retI x1 IntKind.i64 (nat_lit 0))) (fun _ _ => none) x0))
theorem l395_eq : ∀ x0 x1, (Eq (l395 x0 x1) (@sliceV._sparseCasesOn_7 Nat (fun _ => t4) x0 (k_retI x1 IntKind.i64 (nat_lit 0)) (fun _ => none))) := by intro t; cases t <;> (intros; rfl)
noncomputable def l396 : t643 := (fun x0 => (@Value.rec (fun _ => t8) (fun _ => PUnit.{1}) (fun _ => PUnit.{1}) (fun _ _ => none) (fun _ _ _ => none) (fun _ _ _ => none) (fun _ _ _ _ => none) (fun _ _ => none) (fun _ _ => none) (fun _ _ _ _ => none) (fun x1 x2 => (l395 x1 x2)) (fun _ _ => none) (fun _ _ _ _ _ _ => none) (fun _ => none) (fun _ _ _ _ => none) (fun _ => none) (fun _ _ _ => none) (fun _ _ _ => none) (fun _ _ => PUnit.unit.{1}) PUnit.unit.{1} (fun _ _ _ _ => PUnit.unit.{1}) x0))
theorem l396_eq : ∀ x0 x1, (Eq (l396 x0 x1) (@lookupV._sparseCasesOn_4 (fun _ => t4) x0 (fun x2 => (l395 x2 x1)) (fun _ => none))) := by intro t; cases t <;> (intros; rfl)
noncomputable def l397 : t186 := (fun x0 => (@CV.rec (fun _ => t8) (fun _ => PUnit.{1}) (fun _ => none) (fun x1 x2 => (l396 x1 x2)) (fun _ _ _ => none) (fun _ _ _ _ _ _ => none) (fun _ => none) (fun x1 x2 => (k_rd_Ret x2 x1 (fun x3 x4 => (l394 x3 x4)))) (fun _ _ _ => none) (fun _ _ _ => none) (fun _ _ _ _ _ _ => none) (fun _ _ => none) (fun _ _ _ _ => none) PUnit.unit.{1} (fun _ _ _ _ => PUnit.unit.{1}) x0))
theorem l397_eq : ∀ x0 x1, (Eq (l397 x0 x1) (@o_len._sparseCasesOn_2 (fun _ => t4) x0 (fun x2 => (k_rd_Ret x1 x2 (fun x3 x4 => (l394 x3 x4)))) (fun x2 => (l396 x2 x1)) (fun _ => none))) := by intro t; cases t <;> (intros; rfl)
noncomputable def l398 : t101 := (fun x0 => (@Option.rec CV (fun _ => t8) (fun _ => none) (fun x1 x2 => (l397 x1 x2)) x0))
theorem l398_eq : ∀ x0 x1, (Eq (l398 x0 x1) (@elInfo._sparseCasesOn_3 CV (fun _ => t4) x0 (fun x2 => (l397 x2 x1)) (fun _ => none))) := by intro t; cases t <;> (intros; rfl)
noncomputable def l399 : t643 := (fun x0 => (@Value.rec (fun _ => t8) (fun _ => PUnit.{1}) (fun _ => PUnit.{1}) (fun _ _ => none) (fun _ _ _ => none) (fun _ _ _ => none) (fun _ _ _ _ => none) (fun _ _ => none) (fun _ _ => none) (fun _ x2 _ x4 => (k_retI x4 IntKind.i64 (@Nat.cast Int (@NatCast.mk Int (fun x5 => (Int.ofNat x5))) x2))) (fun _ _ => none) (fun _ _ => none) (fun _ _ _ _ _ _ => none) (fun _ => none) (fun _ _ _ _ => none) (fun _ => none) (fun _ _ _ => none) (fun _ _ _ => none) (fun _ _ => PUnit.unit.{1}) PUnit.unit.{1} (fun _ _ _ _ => PUnit.unit.{1}) x0))
theorem l399_eq : ∀ x0 x1, (Eq (l399 x0 x1) (@sliceV._sparseCasesOn_6 (fun _ => t4) x0 (fun _ x3 _ => (k_retI x1 IntKind.i64 (@Nat.cast Int (@NatCast.mk Int (fun x5 => (Int.ofNat x5))) x3))) (fun _ => none))) := by intro t; cases t <;> (intros; rfl)
noncomputable def l400 : t186 := (fun x0 => (@CV.rec (fun _ => t8) (fun _ => PUnit.{1}) (fun _ => none) (fun x1 x2 => (l399 x1 x2)) (fun _ _ _ => none) (fun _ _ x3 _ _ x6 => (k_retI x6 IntKind.i64 (@Nat.cast Int (@NatCast.mk Int (fun x7 => (Int.ofNat x7))) x3))) (fun x1 => (k_retI x1 IntKind.i64 (nat_lit 0))) (fun _ _ => none) (fun _ _ _ => none) (fun _ _ _ => none) (fun _ _ _ _ _ _ => none) (fun _ _ => none) (fun _ _ _ _ => none) PUnit.unit.{1} (fun _ _ _ _ => PUnit.unit.{1}) x0))
theorem l400_eq : ∀ x0 x1, (Eq (l400 x0 x1) (@sliceV._sparseCasesOn_5 (fun _ => t4) x0 (fun _ _ x4 _ _ => (k_retI x1 IntKind.i64 (@Nat.cast Int (@NatCast.mk Int (fun x7 => (Int.ofNat x7))) x4))) (k_retI x1 IntKind.i64 (nat_lit 0)) (fun x2 => (l399 x2 x1)) (fun _ => none))) := by intro t; cases t <;> (intros; rfl)
noncomputable def l401 : t101 := (fun x0 => (@Option.rec CV (fun _ => t8) (fun _ => none) (fun x1 x2 => (l400 x1 x2)) x0))
theorem l401_eq : ∀ x0 x1, (Eq (l401 x0 x1) (@elInfo._sparseCasesOn_3 CV (fun _ => t4) x0 (fun x2 => (l400 x2 x1)) (fun _ => none))) := by intro t; cases t <;> (intros; rfl)
noncomputable def l402 : t643 := (fun x0 => (@Value.rec (fun _ => t8) (fun _ => PUnit.{1}) (fun _ => PUnit.{1}) (fun _ _ => none) (fun _ _ _ => none) (fun _ _ _ => none) (fun _ _ _ _ => none) (fun x1 x2 => (k_retI x2 IntKind.i64 (@Nat.cast Int (@NatCast.mk Int (fun x3 => (Int.ofNat x3))) (@List.length UInt8 (@Array.toList UInt8 (ByteArray.data x1)))))) (fun _ _ => none) (fun _ _ _ _ => none) (fun _ _ => none) (fun _ _ => none) (fun _ _ _ _ _ _ => none) (fun _ => none) (fun _ _ _ _ => none) (fun _ => none) (fun _ _ _ => none) (fun _ _ _ => none) (fun _ _ => PUnit.unit.{1}) PUnit.unit.{1} (fun _ _ _ _ => PUnit.unit.{1}) x0))
theorem l402_eq : ∀ x0 x1, (Eq (l402 x0 x1) (@eqK._sparseCasesOn_4 (fun _ => t4) x0 (fun x2 => (k_retI x1 IntKind.i64 (@Nat.cast Int (@NatCast.mk Int (fun x3 => (Int.ofNat x3))) (@List.length UInt8 (@Array.toList UInt8 (ByteArray.data x2)))))) (fun _ => none))) := by intro t; cases t <;> (intros; rfl)
noncomputable def l403 : t186 := (fun x0 => (@CV.rec (fun _ => t8) (fun _ => PUnit.{1}) (fun _ => none) (fun x1 x2 => (l402 x1 x2)) (fun _ _ _ => none) (fun _ _ _ _ _ _ => none) (fun _ => none) (fun _ _ => none) (fun _ _ _ => none) (fun _ _ _ => none) (fun _ _ _ _ _ _ => none) (fun _ _ => none) (fun _ _ _ _ => none) PUnit.unit.{1} (fun _ _ _ _ => PUnit.unit.{1}) x0))
theorem l403_eq : ∀ x0 x1, (Eq (l403 x0 x1) (@natOf._sparseCasesOn_1 (fun _ => t4) x0 (fun x2 => (l402 x2 x1)) (fun _ => none))) := by intro t; cases t <;> (intros; rfl)
noncomputable def l404 : t101 := (fun x0 => (@Option.rec CV (fun _ => t8) (fun _ => none) (fun x1 x2 => (l403 x1 x2)) x0))
theorem l404_eq : ∀ x0 x1, (Eq (l404 x0 x1) (@elInfo._sparseCasesOn_3 CV (fun _ => t4) x0 (fun x2 => (l403 x2 x1)) (fun _ => none))) := by intro t; cases t <;> (intros; rfl)
abbrev t1063 : Type := t14 → t195
abbrev t1064 : Type := TypeDesc → t1063
noncomputable def l405 : t1064 := (fun x0 => (@TypeDesc.rec (fun _ => t1063) (fun _ _ _ => none) (fun _ _ _ => none) (fun _ _ _ _ => none) (fun _ _ _ _ => none) (fun _ _ _ _ => none) (fun x1 x2 x3 => (l404 (k_ev x1 x3) x2)) (fun _ _ _ => none) (fun _ _ _ _ => none) (fun _ x2 x3 x4 => (l401 (k_ev x2 x4) x3)) (fun _ _ _ _ _ => none) (fun _ _ x3 x4 x5 => (l398 (k_ev x3 x5) x4)) (fun _ _ _ _ _ => none) (fun _ _ _ _ => none) (fun _ _ _ _ _ _ => none) (fun _ _ _ _ => none) (fun _ _ _ _ => none) (fun _ _ _ _ _ => none) x0))
theorem l405_eq : ∀ x0 x1 x2 x3, (Eq (l405 x0 x1 x2 x3) (@o_len._sparseCasesOn_1 (fun _ => t4) x0 (fun _ _ => (l398 (k_ev x1 x3) x2)) (fun _ => (l401 (k_ev x1 x3) x2)) (l404 (k_ev x1 x3) x2) (fun _ => none))) := by intro t; cases t <;> (intros; rfl)
abbrev t1065 : Type := t336 → t1063
noncomputable def l406 : t1065 := (fun x0 => (@Option.rec TypeDesc (fun _ => t1063) (fun _ _ _ => none) (fun x1 x2 x3 x4 => (l405 x1 x2 x3 x4)) x0))
theorem l406_eq : ∀ x0 x1 x2 x3, (Eq (l406 x0 x1 x2 x3) (@elInfo._sparseCasesOn_3 TypeDesc (fun _ => t4) x0 (fun x4 => (l405 x4 x1 x2 x3)) (fun _ => none))) := by intro t; cases t <;> (intros; rfl)
abbrev t1066 : Type := t1009 → t1001
noncomputable def l407 : t1066 := (fun x0 => (@List.rec TypeId (fun _ => t1001) (fun x1 x2 x3 x4 x5 => (l406 (Program.underlying x1 x5) x2 x3 x4)) (fun _ _ _ _ _ _ _ _ => none) x0))
theorem l407_eq : ∀ x0 x1 x2 x3 x4 x5, (Eq (l407 x0 x1 x2 x3 x4 x5) (@zipIx._sparseCasesOn_2 TypeId (fun _ => t4) x0 (l406 (Program.underlying x1 x5) x2 x3 x4) (fun _ => none))) := by intro t; cases t <;> (intros; rfl)
abbrev t1067 : Type := Program → t1063
abbrev t1068 : Type := t1009 → t1067
noncomputable def l408 : t1068 := (fun x0 => (@List.rec TypeId (fun _ => t1067) (fun _ _ _ _ => none) (fun x1 x2 _ x4 x5 x6 x7 => (l407 x2 x4 x5 x6 x7 x1)) x0))
theorem l408_eq : ∀ x0 x1 x2 x3 x4, (Eq (l408 x0 x1 x2 x3 x4) (@zipIx._sparseCasesOn_3 TypeId (fun _ => t4) x0 (fun x5 x6 => (l407 x6 x1 x2 x3 x4 x5)) (fun _ => none))) := by intro t; cases t <;> (intros; rfl)
noncomputable def l409 : t1029 := (fun x0 => (@List.rec Operand (fun _ => t1028) (fun x1 x2 x3 x4 x5 => (l408 (@Array.toList TypeId (Call.argTypes x3)) x1 x2 x4 x5)) (fun _ _ _ _ _ _ _ _ => none) x0))
theorem l409_eq : ∀ x0 x1 x2 x3 x4 x5, (Eq (l409 x0 x1 x2 x3 x4 x5) (@zipIx._sparseCasesOn_2 Operand (fun _ => t4) x0 (l408 (@Array.toList TypeId (Call.argTypes x3)) x1 x2 x4 x5) (fun _ => none))) := by intro t; cases t <;> (intros; rfl)
noncomputable def l410 : t1033 := (fun x0 => (@List.rec Operand (fun _ => t1032) (fun _ _ _ _ => none) (fun x1 x2 _ x4 x5 x6 x7 => (l409 x2 x4 x5 x6 x7 x1)) x0))
theorem l410_eq : ∀ x0 x1 x2 x3 x4, (Eq (l410 x0 x1 x2 x3 x4) (@zipIx._sparseCasesOn_3 Operand (fun _ => t4) x0 (fun x5 x6 => (l409 x6 x1 x2 x3 x4 x5)) (fun _ => none))) := by intro t; cases t <;> (intros; rfl)
noncomputable def k_o_len : t1032 := (fun x0 x1 x2 x3 => (l410 (@Array.toList Operand (Call.args x2)) x0 x1 x2 x3))
theorem k_o_len_eq : @k_o_len = o_len := by
  delta k_o_len o_len
  simp only [l401_eq, l403_eq, l395_eq, l404_eq, l410_eq, l402_eq, l397_eq, l396_eq, l408_eq, l407_eq, l405_eq, l399_eq, l394_eq, l398_eq, l400_eq, l406_eq, l409_eq]
  rw [k_retI_eq, k_rd_Ret_eq, k_ev_eq]
  all_goals kernel_rfl

abbrev t1069 : Type := Int → t544
abbrev t1070 : Type := IntKind → t1069
abbrev t1071 : Type := S → t1070
abbrev t1072 : Type := t7 → t1071
noncomputable def l411 : t1072 := (fun x0 => (@List.rec CV (fun _ => t1071) (fun x1 x2 x3 x4 => (k_retI x1 x2 (@Bool.rec (fun _ => Int) x3 x4 (k_iLt x3 x4)))) (fun _ _ _ _ _ _ _ => none) x0))
theorem l411_eq : ∀ x0 x1 x2 x3 x4, (Eq (l411 x0 x1 x2 x3 x4) (@zipIx._sparseCasesOn_2 CV (fun _ => t4) x0 (k_retI x1 x2 (@Bool.rec (fun _ => Int) x3 x4 (k_iLt x3 x4))) (fun _ => none))) := by intro t; cases t <;> (intros; rfl)
abbrev t1073 : Type := Int → t252
abbrev t1074 : Type := IntKind → t1073
abbrev t1075 : Type := S → t1074
abbrev t1076 : Type := Value → t1075
noncomputable def l412 : t1076 := (fun x0 => (@Value.rec (fun _ => t1075) (fun _ => PUnit.{1}) (fun _ => PUnit.{1}) (fun _ _ _ _ _ => none) (fun _ x2 x3 x4 x5 x6 => (l411 x6 x3 x4 x5 x2)) (fun _ _ _ _ _ _ => none) (fun _ _ _ _ _ _ _ => none) (fun _ _ _ _ _ => none) (fun _ _ _ _ _ => none) (fun _ _ _ _ _ _ _ => none) (fun _ _ _ _ _ => none) (fun _ _ _ _ _ => none) (fun _ _ _ _ _ _ _ _ _ => none) (fun _ _ _ _ => none) (fun _ _ _ _ _ _ _ => none) (fun _ _ _ _ => none) (fun _ _ _ _ _ _ => none) (fun _ _ _ _ _ _ => none) (fun _ _ => PUnit.unit.{1}) PUnit.unit.{1} (fun _ _ _ _ => PUnit.unit.{1}) x0))
theorem l412_eq : ∀ x0 x1 x2 x3 x4, (Eq (l412 x0 x1 x2 x3 x4) (@natOf._sparseCasesOn_2 (fun _ => t4) x0 (fun _ x6 => (l411 x4 x1 x2 x3 x6)) (fun _ => none))) := by intro t; cases t <;> (intros; rfl)
abbrev t1077 : Type := CV → t1075
noncomputable def l413 : t1077 := (fun x0 => (@CV.rec (fun _ => t1075) (fun _ => PUnit.{1}) (fun _ _ _ _ => none) (fun x1 x2 x3 x4 x5 => (l412 x1 x2 x3 x4 x5)) (fun _ _ _ _ _ _ => none) (fun _ _ _ _ _ _ _ _ _ => none) (fun _ _ _ _ => none) (fun _ _ _ _ _ => none) (fun _ _ _ _ _ _ => none) (fun _ _ _ _ _ _ => none) (fun _ _ _ _ _ _ _ _ _ => none) (fun _ _ _ _ _ => none) (fun _ _ _ _ _ _ _ => none) PUnit.unit.{1} (fun _ _ _ _ => PUnit.unit.{1}) x0))
theorem l413_eq : ∀ x0 x1 x2 x3 x4, (Eq (l413 x0 x1 x2 x3 x4) (@natOf._sparseCasesOn_1 (fun _ => t4) x0 (fun x5 => (l412 x5 x1 x2 x3 x4)) (fun _ => none))) := by intro t; cases t <;> (intros; rfl)
abbrev t1078 : Type := t7 → t546
noncomputable def l414 : t1078 := (fun x0 => (@List.rec CV (fun _ => t546) (fun _ _ _ => none) (fun x1 x2 _ x4 x5 x6 => (l413 x1 x4 x5 x6 x2)) x0))
theorem l414_eq : ∀ x0 x1 x2 x3, (Eq (l414 x0 x1 x2 x3) (@zipIx._sparseCasesOn_3 CV (fun _ => t4) x0 (fun x4 x5 => (l413 x4 x1 x2 x3 x5)) (fun _ => none))) := by intro t; cases t <;> (intros; rfl)
abbrev t1079 : Type := Value → t594
noncomputable def l415 : t1079 := (fun x0 => (@Value.rec (fun _ => t594) (fun _ => PUnit.{1}) (fun _ => PUnit.{1}) (fun _ _ _ => none) (fun x1 x2 x3 x4 => (l414 x4 x3 x1 x2)) (fun _ _ _ _ => none) (fun _ _ _ _ _ => none) (fun _ _ _ => none) (fun _ _ _ => none) (fun _ _ _ _ _ => none) (fun _ _ _ => none) (fun _ _ _ => none) (fun _ _ _ _ _ _ _ => none) (fun _ _ => none) (fun _ _ _ _ _ => none) (fun _ _ => none) (fun _ _ _ _ => none) (fun _ _ _ _ => none) (fun _ _ => PUnit.unit.{1}) PUnit.unit.{1} (fun _ _ _ _ => PUnit.unit.{1}) x0))
theorem l415_eq : ∀ x0 x1 x2, (Eq (l415 x0 x1 x2) (@natOf._sparseCasesOn_2 (fun _ => t4) x0 (fun x3 x4 => (l414 x2 x1 x3 x4)) (fun _ => none))) := by intro t; cases t <;> (intros; rfl)
noncomputable def l416 : t595 := (fun x0 => (@CV.rec (fun _ => t594) (fun _ => PUnit.{1}) (fun _ _ => none) (fun x1 x2 x3 => (l415 x1 x2 x3)) (fun _ _ _ _ => none) (fun _ _ _ _ _ _ _ => none) (fun _ _ => none) (fun _ _ _ => none) (fun _ _ _ _ => none) (fun _ _ _ _ => none) (fun _ _ _ _ _ _ _ => none) (fun _ _ _ => none) (fun _ _ _ _ _ => none) PUnit.unit.{1} (fun _ _ _ _ => PUnit.unit.{1}) x0))
theorem l416_eq : ∀ x0 x1 x2, (Eq (l416 x0 x1 x2) (@natOf._sparseCasesOn_1 (fun _ => t4) x0 (fun x3 => (l415 x3 x1 x2)) (fun _ => none))) := by intro t; cases t <;> (intros; rfl)
noncomputable def l417 : t9 := (fun x0 => (@List.rec CV (fun _ => t8) (fun _ => none) (fun x1 x2 _ x4 => (l416 x1 x4 x2)) x0))
theorem l417_eq : ∀ x0 x1, (Eq (l417 x0 x1) (@zipIx._sparseCasesOn_3 CV (fun _ => t4) x0 (fun x2 x3 => (l416 x2 x1 x3)) (fun _ => none))) := by intro t; cases t <;> (intros; rfl)
abbrev t1080 : Type := t31 → t8
noncomputable def l418 : t1080 := (fun x0 => (@Option.rec t7 (fun _ => t8) (fun _ => none) (fun x1 x2 => (l417 x1 x2)) x0))
theorem l418_eq : ∀ x0 x1, (Eq (l418 x0 x1) (@elInfo._sparseCasesOn_3 t7 (fun _ => t4) x0 (fun x2 => (l417 x2 x1)) (fun _ => none))) := by intro t; cases t <;> (intros; rfl)
noncomputable def k_o_max : t1032 := (fun _ x1 x2 x3 => (l418 (k_evs x1 (@Array.toList Operand (Call.args x2))) x3))
theorem k_o_max_eq : @k_o_max = o_max := by
  delta k_o_max o_max
  simp only [l417_eq, l414_eq, l412_eq, l416_eq, l418_eq, l411_eq, l413_eq, l415_eq]
  rw [k_evs_eq, k_retI_eq, k_iLt_eq]
  all_goals kernel_rfl

noncomputable def l419 : t1072 := (fun x0 => (@List.rec CV (fun _ => t1071) (fun x1 x2 x3 x4 => (k_retI x1 x2 (@Bool.rec (fun _ => Int) x3 x4 (k_iLt x4 x3)))) (fun _ _ _ _ _ _ _ => none) x0))
theorem l419_eq : ∀ x0 x1 x2 x3 x4, (Eq (l419 x0 x1 x2 x3 x4) (@zipIx._sparseCasesOn_2 CV (fun _ => t4) x0 (k_retI x1 x2 (@Bool.rec (fun _ => Int) x3 x4 (k_iLt x4 x3))) (fun _ => none))) := by intro t; cases t <;> (intros; rfl)
noncomputable def l420 : t1076 := (fun x0 => (@Value.rec (fun _ => t1075) (fun _ => PUnit.{1}) (fun _ => PUnit.{1}) (fun _ _ _ _ _ => none) (fun _ x2 x3 x4 x5 x6 => (l419 x6 x3 x4 x5 x2)) (fun _ _ _ _ _ _ => none) (fun _ _ _ _ _ _ _ => none) (fun _ _ _ _ _ => none) (fun _ _ _ _ _ => none) (fun _ _ _ _ _ _ _ => none) (fun _ _ _ _ _ => none) (fun _ _ _ _ _ => none) (fun _ _ _ _ _ _ _ _ _ => none) (fun _ _ _ _ => none) (fun _ _ _ _ _ _ _ => none) (fun _ _ _ _ => none) (fun _ _ _ _ _ _ => none) (fun _ _ _ _ _ _ => none) (fun _ _ => PUnit.unit.{1}) PUnit.unit.{1} (fun _ _ _ _ => PUnit.unit.{1}) x0))
theorem l420_eq : ∀ x0 x1 x2 x3 x4, (Eq (l420 x0 x1 x2 x3 x4) (@natOf._sparseCasesOn_2 (fun _ => t4) x0 (fun _ x6 => (l419 x4 x1 x2 x3 x6)) (fun _ => none))) := by intro t; cases t <;> (intros; rfl)
noncomputable def l421 : t1077 := (fun x0 => (@CV.rec (fun _ => t1075) (fun _ => PUnit.{1}) (fun _ _ _ _ => none) (fun x1 x2 x3 x4 x5 => (l420 x1 x2 x3 x4 x5)) (fun _ _ _ _ _ _ => none) (fun _ _ _ _ _ _ _ _ _ => none) (fun _ _ _ _ => none) (fun _ _ _ _ _ => none) (fun _ _ _ _ _ _ => none) (fun _ _ _ _ _ _ => none) (fun _ _ _ _ _ _ _ _ _ => none) (fun _ _ _ _ _ => none) (fun _ _ _ _ _ _ _ => none) PUnit.unit.{1} (fun _ _ _ _ => PUnit.unit.{1}) x0))
theorem l421_eq : ∀ x0 x1 x2 x3 x4, (Eq (l421 x0 x1 x2 x3 x4) (@natOf._sparseCasesOn_1 (fun _ => t4) x0 (fun x5 => (l420 x5 x1 x2 x3 x4)) (fun _ => none))) := by intro t; cases t <;> (intros; rfl)
noncomputable def l422 : t1078 := (fun x0 => (@List.rec CV (fun _ => t546) (fun _ _ _ => none) (fun x1 x2 _ x4 x5 x6 => (l421 x1 x4 x5 x6 x2)) x0))
theorem l422_eq : ∀ x0 x1 x2 x3, (Eq (l422 x0 x1 x2 x3) (@zipIx._sparseCasesOn_3 CV (fun _ => t4) x0 (fun x4 x5 => (l421 x4 x1 x2 x3 x5)) (fun _ => none))) := by intro t; cases t <;> (intros; rfl)
noncomputable def l423 : t1079 := (fun x0 => (@Value.rec (fun _ => t594) (fun _ => PUnit.{1}) (fun _ => PUnit.{1}) (fun _ _ _ => none) (fun x1 x2 x3 x4 => (l422 x4 x3 x1 x2)) (fun _ _ _ _ => none) (fun _ _ _ _ _ => none) (fun _ _ _ => none) (fun _ _ _ => none) (fun _ _ _ _ _ => none) (fun _ _ _ => none) (fun _ _ _ => none) (fun _ _ _ _ _ _ _ => none) (fun _ _ => none) (fun _ _ _ _ _ => none) (fun _ _ => none) (fun _ _ _ _ => none) (fun _ _ _ _ => none) (fun _ _ => PUnit.unit.{1}) PUnit.unit.{1} (fun _ _ _ _ => PUnit.unit.{1}) x0))
theorem l423_eq : ∀ x0 x1 x2, (Eq (l423 x0 x1 x2) (@natOf._sparseCasesOn_2 (fun _ => t4) x0 (fun x3 x4 => (l422 x2 x1 x3 x4)) (fun _ => none))) := by intro t; cases t <;> (intros; rfl)
noncomputable def l424 : t595 := (fun x0 => (@CV.rec (fun _ => t594) (fun _ => PUnit.{1}) (fun _ _ => none) (fun x1 x2 x3 => (l423 x1 x2 x3)) (fun _ _ _ _ => none) (fun _ _ _ _ _ _ _ => none) (fun _ _ => none) (fun _ _ _ => none) (fun _ _ _ _ => none) (fun _ _ _ _ => none) (fun _ _ _ _ _ _ _ => none) (fun _ _ _ => none) (fun _ _ _ _ _ => none) PUnit.unit.{1} (fun _ _ _ _ => PUnit.unit.{1}) x0))
theorem l424_eq : ∀ x0 x1 x2, (Eq (l424 x0 x1 x2) (@natOf._sparseCasesOn_1 (fun _ => t4) x0 (fun x3 => (l423 x3 x1 x2)) (fun _ => none))) := by intro t; cases t <;> (intros; rfl)
noncomputable def l425 : t9 := (fun x0 => (@List.rec CV (fun _ => t8) (fun _ => none) (fun x1 x2 _ x4 => (l424 x1 x4 x2)) x0))
theorem l425_eq : ∀ x0 x1, (Eq (l425 x0 x1) (@zipIx._sparseCasesOn_3 CV (fun _ => t4) x0 (fun x2 x3 => (l424 x2 x1 x3)) (fun _ => none))) := by intro t; cases t <;> (intros; rfl)
noncomputable def l426 : t1080 := (fun x0 => (@Option.rec t7 (fun _ => t8) (fun _ => none) (fun x1 x2 => (l425 x1 x2)) x0))
theorem l426_eq : ∀ x0 x1, (Eq (l426 x0 x1) (@elInfo._sparseCasesOn_3 t7 (fun _ => t4) x0 (fun x2 => (l425 x2 x1)) (fun _ => none))) := by intro t; cases t <;> (intros; rfl)
noncomputable def k_o_min : t1032 := (fun _ x1 x2 x3 => (l426 (k_evs x1 (@Array.toList Operand (Call.args x2))) x3))
theorem k_o_min_eq : @k_o_min = o_min := by
  delta k_o_min o_min
  simp only [l420_eq, l425_eq, l426_eq, l424_eq, l422_eq, l421_eq, l419_eq, l423_eq]
  rw [k_evs_eq, k_retI_eq, k_iLt_eq]
  all_goals kernel_rfl

abbrev t1081 : Type := Builtin → t1032
noncomputable def l344 : t1081 := (fun x0 => (@Builtin.rec (fun _ => t1032) (fun x1 x2 x3 x4 => (k_o_append x1 x2 x3 x4)) (fun _ _ _ _ => none) (fun _ _ _ _ => none) (fun _ _ _ _ => none) (fun _ _ _ _ => none) (fun x1 x2 x3 x4 => (k_o_copy x1 x2 x3 x4)) (fun _ _ _ _ => none) (fun _ _ _ _ => none) (fun x1 x2 x3 x4 => (k_o_len x1 x2 x3 x4)) (fun _ _ _ _ => none) (fun x1 x2 x3 x4 => (k_o_max x1 x2 x3 x4)) (fun x1 x2 x3 x4 => (k_o_min x1 x2 x3 x4)) (fun _ _ _ _ => none) (fun _ _ _ _ => none) (fun _ _ _ _ => none) (fun _ _ _ _ => none) (fun _ _ _ _ => none) (fun _ _ _ _ => none) (fun _ _ _ _ => none) (fun _ _ _ _ => none) (fun _ _ _ _ => none) (fun _ _ _ _ => none) (fun _ _ _ _ => none) (fun _ _ _ _ => none) (fun _ _ _ _ => none) (fun _ _ _ _ => none) x0))
theorem l344_eq : ∀ x0 x1 x2 x3 x4, (Eq (l344 x0 x1 x2 x3 x4) (@o_call._sparseCasesOn_2 (fun _ => t4) x0 (k_o_len x1 x2 x3 x4) (k_o_append x1 x2 x3 x4) (k_o_copy x1 x2 x3 x4) (k_o_min x1 x2 x3 x4) (k_o_max x1 x2 x3 x4) (fun _ => none))) := by intro t; cases t <;> (intros; rfl)
abbrev t1082 : Type := Callee → t1032
noncomputable def l427 : t1082 := (fun x0 => (@Callee.rec (fun _ => t1032) (fun _ _ _ _ _ => none) (fun _ _ _ _ _ _ => none) (fun x1 x2 x3 x4 x5 => (l344 x1 x2 x3 x4 x5)) x0))
theorem l427_eq : ∀ x0 x1 x2 x3 x4, (Eq (l427 x0 x1 x2 x3 x4) (@o_call._sparseCasesOn_1 (fun _ => t4) x0 (fun x5 => (l344 x5 x1 x2 x3 x4)) (fun _ => none))) := by intro t; cases t <;> (intros; rfl)
noncomputable def k_o_call : t1032 := (fun x0 x1 x2 x3 => (l427 (Call.callee x2) x0 x1 x2 x3))
theorem k_o_call_eq : @k_o_call = o_call := by
  delta k_o_call o_call
  simp only [l344_eq, l427_eq]
  rw [k_o_min_eq, k_o_max_eq, k_o_len_eq, k_o_copy_eq, k_o_append_eq]
  all_goals kernel_rfl

abbrev t1083 : Type := t14 → t8
abbrev t1084 : Type := Program → t1083
abbrev t1085 : Type := Op → t1084
noncomputable def l47 : t1085 := (fun x0 => (@Op.rec (fun _ => t1084) (fun x1 x2 x3 x4 => (k_o_move x2 x3 x1 x4)) (fun x1 x2 x3 x4 => (k_o_move x2 x3 x1 x4)) (fun x1 x2 x3 x4 x5 x6 => (k_o_pick x4 x5 x1 x2 x3 x6)) (fun x1 x2 x3 x4 => (k_o_alloc x2 x3 x1 x4)) (fun x1 x2 x3 x4 x5 => (k_o_box x3 x4 x1 x2 x5)) (fun x1 x2 x3 x4 x5 => (k_o_build x3 x4 x1 x2 x5)) (fun x1 x2 x3 x4 x5 x6 => (k_o_buildSlice x4 x5 x1 x2 x3 x6)) (fun x1 x2 x3 x4 x5 x6 x7 => (k_o_mapUpdate x5 x6 x1 x2 x3 x4 x7)) (fun x1 x2 x3 x4 x5 => (k_o_load x3 x4 x1 x2 x5)) (fun x1 x2 x3 x4 x5 x6 => (k_o_store x4 x5 x1 x2 x3 x6)) (fun _ _ _ _ => none) (fun _ _ _ _ => none) (fun x1 x2 x3 x4 => (k_o_nilCheck x2 x3 x1 x4)) (fun x1 x2 x3 x4 _ x6 x7 x8 => (k_o_binOp x6 x7 x1 x2 x3 x4 x8)) (fun x1 _ x3 x4 x5 x6 => (k_o_unOp x4 x5 x1 x3 x6)) (fun x1 x2 x3 x4 x5 x6 => (k_o_convert x4 x5 x1 x2 x3 x6)) (fun _ _ _ _ _ => none) (fun x1 x2 x3 x4 x5 => (k_o_makeInterface x3 x4 x1 x2 x5)) (fun x1 x2 x3 x4 x5 x6 => (k_o_makeFunc x4 x5 x1 x2 x3 x6)) (fun x1 x2 x3 x4 x5 => (k_mapF x3 x4 x1 x2 x5)) (fun _ _ _ _ _ => none) (fun x1 x2 x3 x4 x5 x6 => (k_o_makeSlice x4 x5 x1 x2 x3 x6)) (fun x1 x2 x3 x4 x5 x6 x7 x8 => (k_o_slice x6 x7 x1 x2 x3 x4 x5 x8)) (fun x1 x2 x3 x4 x5 x6 => (k_o_fieldAddr x4 x5 x1 x2 x3 x6)) (fun _ _ _ _ _ _ => none) (fun x1 x2 x3 x4 x5 x6 => (k_o_indexAddr x4 x5 x1 x2 x3 x6)) (fun x1 x2 x3 x4 x5 x6 => (k_o_index x4 x5 x1 x2 x3 x6)) (fun x1 x2 x3 x4 x5 x6 x7 => (k_o_lookup x5 x6 x1 x2 x3 x4 x7)) (fun x1 x2 x3 x4 x5 x6 x7 => (k_o_mapUpdate x5 x6 x1 x2 x3 x4 x7)) (fun _ _ _ _ _ _ => none) (fun _ _ _ _ _ _ _ => none) (fun _ _ _ _ _ => none) (fun _ _ _ _ _ => none) (fun _ _ _ _ => none) (fun x1 _ x3 x4 x5 x6 x7 => (k_o_typeAssert x5 x6 x1 x3 x4 x7)) (fun x1 x2 x3 x4 x5 => (k_o_extract x3 x4 x1 x2 x5)) (fun x1 x2 x3 x4 => (k_o_call x2 x3 x1 x4)) (fun _ _ _ _ => none) (fun _ _ _ _ => none) (fun _ _ _ _ => none) (fun _ _ _ _ _ => none) (fun _ _ _ _ _ _ => none) (fun _ _ _ _ _ => none) x0))
theorem l47_eq : ∀ x0, (Eq (l47 x0) (@opF._sparseCasesOn_1 (fun _ => t1084) x0 (fun x1 x2 x3 x4 => (k_o_call x2 x3 x1 x4)) (fun x1 x2 x3 x4 => (k_o_move x2 x3 x1 x4)) (fun x1 x2 x3 x4 => (k_o_move x2 x3 x1 x4)) (fun x1 x2 x3 x4 x5 x6 => (k_o_pick x4 x5 x1 x2 x3 x6)) (fun x1 x2 x3 x4 => (k_o_alloc x2 x3 x1 x4)) (fun x1 x2 x3 x4 x5 => (k_o_box x3 x4 x1 x2 x5)) (fun x1 x2 x3 x4 x5 => (k_o_build x3 x4 x1 x2 x5)) (fun x1 x2 x3 x4 x5 x6 => (k_o_buildSlice x4 x5 x1 x2 x3 x6)) (fun x1 x2 x3 x4 x5 => (k_o_load x3 x4 x1 x2 x5)) (fun x1 x2 x3 x4 x5 x6 => (k_o_store x4 x5 x1 x2 x3 x6)) (fun x1 x2 x3 x4 => (k_o_nilCheck x2 x3 x1 x4)) (fun x1 x2 x3 x4 _ x6 x7 x8 => (k_o_binOp x6 x7 x1 x2 x3 x4 x8)) (fun x1 _ x3 x4 x5 x6 => (k_o_unOp x4 x5 x1 x3 x6)) (fun x1 x2 x3 x4 x5 x6 => (k_o_convert x4 x5 x1 x2 x3 x6)) (fun x1 x2 x3 x4 x5 => (k_o_makeInterface x3 x4 x1 x2 x5)) (fun x1 x2 x3 x4 x5 x6 => (k_o_makeFunc x4 x5 x1 x2 x3 x6)) (fun x1 x2 x3 x4 x5 => (k_mapF x3 x4 x1 x2 x5)) (fun x1 x2 x3 x4 x5 x6 => (k_o_makeSlice x4 x5 x1 x2 x3 x6)) (fun x1 x2 x3 x4 x5 x6 x7 x8 => (k_o_slice x6 x7 x1 x2 x3 x4 x5 x8)) (fun x1 x2 x3 x4 x5 x6 => (k_o_fieldAddr x4 x5 x1 x2 x3 x6)) (fun x1 x2 x3 x4 x5 x6 => (k_o_indexAddr x4 x5 x1 x2 x3 x6)) (fun x1 x2 x3 x4 x5 x6 => (k_o_index x4 x5 x1 x2 x3 x6)) (fun x1 x2 x3 x4 x5 x6 x7 => (k_o_lookup x5 x6 x1 x2 x3 x4 x7)) (fun x1 x2 x3 x4 x5 x6 x7 => (k_o_mapUpdate x5 x6 x1 x2 x3 x4 x7)) (fun x1 x2 x3 x4 x5 x6 x7 => (k_o_mapUpdate x5 x6 x1 x2 x3 x4 x7)) (fun x1 x2 x3 x4 x5 => (k_o_extract x3 x4 x1 x2 x5)) (fun x1 _ x3 x4 x5 x6 x7 => (k_o_typeAssert x5 x6 x1 x3 x4 x7)) (fun _ _ _ _ => none))) := by intro t; cases t <;> (intros; rfl)
noncomputable def k_opF : t1085 := (fun x0 => (l47 x0))
theorem k_opF_eq : @k_opF = opF := by
  delta k_opF opF
  simp only [l47_eq]
  rw [k_o_call_eq, k_o_extract_eq, k_o_typeAssert_eq, k_o_mapUpdate_eq, k_o_lookup_eq, k_o_index_eq, k_o_indexAddr_eq, k_o_fieldAddr_eq, k_o_slice_eq, k_o_makeSlice_eq, k_mapF_eq, k_o_makeFunc_eq, k_o_makeInterface_eq, k_o_convert_eq, k_o_unOp_eq, k_o_binOp_eq, k_o_nilCheck_eq, k_o_store_eq, k_o_load_eq, k_o_buildSlice_eq, k_o_build_eq, k_o_box_eq, k_o_alloc_eq, k_o_pick_eq, k_o_move_eq]
  all_goals kernel_rfl

abbrev t1086 : Type := Op → t8
abbrev t1087 : Type := t14 → t1086
abbrev t1088 : Type := Program → t1087
noncomputable def k_opV' : t1088 := (fun x0 x1 x2 x3 => (k_opF x2 x0 x1 x3))
theorem k_opV'_eq : @k_opV' = opV' := by
  delta k_opV' opV'
  rw [k_opF_eq]
  all_goals kernel_rfl

theorem k_opV_eq : @k_opV' = @opV := k_opV'_eq.trans opV'_eq
abbrev t1089 : Type := S → t178
abbrev t1090 : Type := Dm → t1089
abbrev t1091 : Type := t14 → t1090
abbrev t1092 : Type := t161 → t1091
abbrev t1093 : Type := Nat → t1092
abbrev t1094 : Type := Program → t1093
noncomputable def l46 : t1094 := (fun x0 x1 x2 x3 x4 x5 x6 x7 => (l45 (k_opV' x0 x3 (Oper.op x6) x5) x0 x1 x2 x3 x4 x6 x7))
theorem l46_eq : ∀ x0 x1 x2 x3 x4 x5 x6 x7, (Eq (l46 x0 x1 x2 x3 x4 x5 x6 x7) (l45 (k_opV' x0 x3 (Oper.op x6) x5) x0 x1 x2 x3 x4 x6 x7)) := by intros; rfl
noncomputable def l428 : t184 := (fun x0 => (@Ret.rec (fun _ => t183) (fun x1 x2 x3 x4 x5 x6 x7 x8 x9 => (@Option.rec t14 (fun _ => t170) none (fun x10 => (x9 x3 x4 x5 x10 x7 x2)) (k_putE x4 (Oper.dst x8) x1 x6))) (fun _ _ _ _ _ _ _ _ _ => none) x0))
theorem l428_eq : ∀ x0 x1 x2 x3 x4 x5 x6 x7, (Eq (l428 x0 x1 x2 x3 x4 x5 x6 x7) (@regP._sparseCasesOn_2 (fun _ => t170) x0 (fun x8 x9 => (@Option.rec t14 (fun _ => t170) none (fun x10 => (x7 x1 x2 x3 x10 x5 x9)) (k_putE x2 (Oper.dst x6) x8 x4))) (fun _ => none))) := by intro t; cases t <;> (intros; rfl)
noncomputable def l429 : t185 := (fun x0 => (@Option.rec Ret (fun _ => t183) (fun _ _ _ _ _ _ _ => none) (fun x1 x2 x3 x4 x5 x6 x7 x8 => (l428 x1 x2 x3 x4 x5 x6 x7 x8)) x0))
theorem l429_eq : ∀ x0 x1 x2 x3 x4 x5 x6 x7, (Eq (l429 x0 x1 x2 x3 x4 x5 x6 x7) (@methV._sparseCasesOn_2 Ret (fun _ => t170) x0 (fun x8 => (l428 x8 x1 x2 x3 x4 x5 x6 x7)) (fun _ => none))) := by intro t; cases t <;> (intros; rfl)
noncomputable def l430 : t1094 := (fun x0 x1 x2 x3 x4 x5 x6 x7 => (l429 (k_opV' x0 x3 (Oper.op x6) x5) x0 x1 x2 x3 x4 x6 x7))
theorem l430_eq : ∀ x0 x1 x2 x3 x4 x5 x6 x7, (Eq (l430 x0 x1 x2 x3 x4 x5 x6 x7) (l429 (k_opV' x0 x3 (Oper.op x6) x5) x0 x1 x2 x3 x4 x6 x7)) := by intros; rfl
noncomputable def l431 : t184 := (fun x0 => (@Ret.rec (fun _ => t183) (fun x1 x2 x3 x4 x5 x6 x7 x8 x9 => (@Option.rec t14 (fun _ => t170) none (fun x10 => (x9 x3 x4 x5 x10 x7 x2)) (k_putE x4 (Oper.dst x8) x1 x6))) (fun _ _ _ _ _ _ _ _ _ => none) x0))
theorem l431_eq : ∀ x0 x1 x2 x3 x4 x5 x6 x7, (Eq (l431 x0 x1 x2 x3 x4 x5 x6 x7) (@regP._sparseCasesOn_2 (fun _ => t170) x0 (fun x8 x9 => (@Option.rec t14 (fun _ => t170) none (fun x10 => (x7 x1 x2 x3 x10 x5 x9)) (k_putE x2 (Oper.dst x6) x8 x4))) (fun _ => none))) := by intro t; cases t <;> (intros; rfl)
noncomputable def l432 : t185 := (fun x0 => (@Option.rec Ret (fun _ => t183) (fun _ _ _ _ _ _ _ => none) (fun x1 x2 x3 x4 x5 x6 x7 x8 => (l431 x1 x2 x3 x4 x5 x6 x7 x8)) x0))
theorem l432_eq : ∀ x0 x1 x2 x3 x4 x5 x6 x7, (Eq (l432 x0 x1 x2 x3 x4 x5 x6 x7) (@methV._sparseCasesOn_2 Ret (fun _ => t170) x0 (fun x8 => (l431 x8 x1 x2 x3 x4 x5 x6 x7)) (fun _ => none))) := by intro t; cases t <;> (intros; rfl)
noncomputable def l433 : t1094 := (fun x0 x1 x2 x3 x4 x5 x6 x7 => (l432 (k_opV' x0 x3 (Oper.op x6) x5) x0 x1 x2 x3 x4 x6 x7))
theorem l433_eq : ∀ x0 x1 x2 x3 x4 x5 x6 x7, (Eq (l433 x0 x1 x2 x3 x4 x5 x6 x7) (l432 (k_opV' x0 x3 (Oper.op x6) x5) x0 x1 x2 x3 x4 x6 x7)) := by intros; rfl
abbrev t1095 : Type := Bool → t170
abbrev t1096 : Type := t81 → t1095
abbrev t1097 : Type := t176 → t1096
abbrev t1098 : Type := Oper → t1097
abbrev t1099 : Type := S → t1098
abbrev t1100 : Type := t14 → t1099
abbrev t1101 : Type := t161 → t1100
abbrev t1102 : Type := Nat → t1101
abbrev t1103 : Type := Program → t1102
noncomputable def l434 : t1103 := (fun x0 x1 x2 x3 x4 x5 x6 x7 x8 => (@Option.rec t14 (fun _ => t170) none (fun x9 => (x6 x0 x1 x2 x9 (Dm.mk x7 x8) x4)) (k_putE x1 (Oper.dst x5) (CV.val Value.nilIface) x3)))
theorem l434_eq : ∀ x0 x1 x2 x3 x4 x5 x6 x7 x8, (Eq (l434 x0 x1 x2 x3 x4 x5 x6 x7 x8) (@Option.rec t14 (fun _ => t170) none (fun x9 => (x6 x0 x1 x2 x9 (Dm.mk x7 x8) x4)) (k_putE x1 (Oper.dst x5) (CV.val Value.nilIface) x3))) := by intros; rfl
abbrev t1104 : Type := CV → t170
abbrev t1105 : Type := Bool → t1104
abbrev t1106 : Type := t176 → t1105
abbrev t1107 : Type := Oper → t1106
abbrev t1108 : Type := S → t1107
abbrev t1109 : Type := t14 → t1108
abbrev t1110 : Type := t161 → t1109
abbrev t1111 : Type := Nat → t1110
abbrev t1112 : Type := Program → t1111
noncomputable def l435 : t1112 := (fun x0 x1 x2 x3 x4 x5 x6 x7 x8 => (@Option.rec t14 (fun _ => t170) none (fun x9 => (x6 x0 x1 x2 x9 (Dm.mk (some x8) x7) x4)) (k_putE x1 (Oper.dst x5) (CV.val Value.nilIface) x3)))
theorem l435_eq : ∀ x0 x1 x2 x3 x4 x5 x6 x7 x8, (Eq (l435 x0 x1 x2 x3 x4 x5 x6 x7 x8) (@Option.rec t14 (fun _ => t170) none (fun x9 => (x6 x0 x1 x2 x9 (Dm.mk (some x8) x7) x4)) (k_putE x1 (Oper.dst x5) (CV.val Value.nilIface) x3))) := by intros; rfl
abbrev t1113 : Type := CV → t1095
abbrev t1114 : Type := t176 → t1113
abbrev t1115 : Type := Oper → t1114
abbrev t1116 : Type := S → t1115
abbrev t1117 : Type := t14 → t1116
abbrev t1118 : Type := t161 → t1117
abbrev t1119 : Type := Nat → t1118
abbrev t1120 : Type := Program → t1119
abbrev t1121 : Type := Bool → t1120
noncomputable def l436 : t1121 := (fun x0 => (@Bool.rec (fun _ => t1120) (fun x1 x2 x3 x4 x5 x6 x7 x8 _ => (@Option.rec t14 (fun _ => t170) none (fun x10 => (x7 x1 x2 x3 x10 (Dm.mk (some x8) Bool.true) x5)) (k_putE x2 (Oper.dst x6) x8 x4))) (fun x1 x2 x3 x4 x5 x6 x7 x8 x9 => (l435 x1 x2 x3 x4 x5 x6 x7 x9 x8)) x0))
theorem l436_eq : ∀ x0 x1 x2 x3 x4 x5 x6 x7 x8 x9, (Eq (l436 x0 x1 x2 x3 x4 x5 x6 x7 x8 x9) (@regR._sparseCasesOn_1 (fun _ => t170) x0 (@Option.rec t14 (fun _ => t170) none (fun x10 => (x7 x1 x2 x3 x10 (Dm.mk (some x8) Bool.true) x5)) (k_putE x2 (Oper.dst x6) x8 x4)) (fun _ => (l435 x1 x2 x3 x4 x5 x6 x7 x9 x8)))) := by intro t; cases t <;> (intros; rfl)
abbrev t1122 : Type := t81 → t1103
noncomputable def l437 : t1122 := (fun x0 => (@Option.rec CV (fun _ => t1103) (fun x1 x2 x3 x4 x5 x6 x7 x8 x9 => (l434 x1 x2 x3 x4 x5 x6 x7 x8 x9)) (fun x1 x2 x3 x4 x5 x6 x7 x8 _ x10 => (l436 x10 x2 x3 x4 x5 x6 x7 x8 x1 x10)) x0))
theorem l437_eq : ∀ x0 x1 x2 x3 x4 x5 x6 x7 x8 x9, (Eq (l437 x0 x1 x2 x3 x4 x5 x6 x7 x8 x9) (@methV._sparseCasesOn_2 CV (fun _ => t170) x0 (fun x10 => (l436 x9 x1 x2 x3 x4 x5 x6 x7 x10 x9)) (fun _ => (l434 x1 x2 x3 x4 x5 x6 x7 x8 x9)))) := by intro t; cases t <;> (intros; rfl)
abbrev t1123 : Type := Builtin → t1094
noncomputable def l438 : t1123 := (fun x0 => (@Builtin.rec (fun _ => t1094) (fun x1 x2 x3 x4 x5 x6 x7 x8 => (l433 x1 x2 x3 x4 x5 x6 x7 x8)) (fun x1 x2 x3 x4 x5 x6 x7 x8 => (l433 x1 x2 x3 x4 x5 x6 x7 x8)) (fun x1 x2 x3 x4 x5 x6 x7 x8 => (l433 x1 x2 x3 x4 x5 x6 x7 x8)) (fun x1 x2 x3 x4 x5 x6 x7 x8 => (l433 x1 x2 x3 x4 x5 x6 x7 x8)) (fun x1 x2 x3 x4 x5 x6 x7 x8 => (l433 x1 x2 x3 x4 x5 x6 x7 x8)) (fun x1 x2 x3 x4 x5 x6 x7 x8 => (l433 x1 x2 x3 x4 x5 x6 x7 x8)) (fun x1 x2 x3 x4 x5 x6 x7 x8 => (l433 x1 x2 x3 x4 x5 x6 x7 x8)) (fun x1 x2 x3 x4 x5 x6 x7 x8 => (l433 x1 x2 x3 x4 x5 x6 x7 x8)) (fun x1 x2 x3 x4 x5 x6 x7 x8 => (l433 x1 x2 x3 x4 x5 x6 x7 x8)) (fun x1 x2 x3 x4 x5 x6 x7 x8 => (l433 x1 x2 x3 x4 x5 x6 x7 x8)) (fun x1 x2 x3 x4 x5 x6 x7 x8 => (l433 x1 x2 x3 x4 x5 x6 x7 x8)) (fun x1 x2 x3 x4 x5 x6 x7 x8 => (l433 x1 x2 x3 x4 x5 x6 x7 x8)) (fun x1 x2 x3 x4 x5 x6 x7 x8 => (l433 x1 x2 x3 x4 x5 x6 x7 x8)) (fun x1 x2 x3 x4 x5 x6 x7 x8 => (l433 x1 x2 x3 x4 x5 x6 x7 x8)) (fun x1 x2 x3 x4 x5 x6 x7 x8 => (l433 x1 x2 x3 x4 x5 x6 x7 x8)) (fun x1 x2 x3 x4 x5 x6 x7 x8 => (l433 x1 x2 x3 x4 x5 x6 x7 x8)) (fun x1 x2 x3 x4 x5 x6 x7 x8 => (l433 x1 x2 x3 x4 x5 x6 x7 x8)) (fun x1 x2 x3 x4 x5 x6 x7 x8 => (@Dm.rec (fun _ => t170) (fun x9 x10 => (l437 x9 x1 x2 x3 x4 x6 x7 x8 x9 x10)) x5)) (fun x1 x2 x3 x4 x5 x6 x7 x8 => (l433 x1 x2 x3 x4 x5 x6 x7 x8)) (fun x1 x2 x3 x4 x5 x6 x7 x8 => (l433 x1 x2 x3 x4 x5 x6 x7 x8)) (fun x1 x2 x3 x4 x5 x6 x7 x8 => (l433 x1 x2 x3 x4 x5 x6 x7 x8)) (fun x1 x2 x3 x4 x5 x6 x7 x8 => (l433 x1 x2 x3 x4 x5 x6 x7 x8)) (fun x1 x2 x3 x4 x5 x6 x7 x8 => (l433 x1 x2 x3 x4 x5 x6 x7 x8)) (fun x1 x2 x3 x4 x5 x6 x7 x8 => (l433 x1 x2 x3 x4 x5 x6 x7 x8)) (fun x1 x2 x3 x4 x5 x6 x7 x8 => (l433 x1 x2 x3 x4 x5 x6 x7 x8)) (fun x1 x2 x3 x4 x5 x6 x7 x8 => (l433 x1 x2 x3 x4 x5 x6 x7 x8)) x0))
theorem l438_eq : ∀ x0 x1 x2 x3 x4 x5 x6 x7 x8, (Eq (l438 x0 x1 x2 x3 x4 x5 x6 x7 x8) (@regR._sparseCasesOn_4 (fun _ => t170) x0 (@Dm.rec (fun _ => t170) (fun x9 x10 => (l437 x9 x1 x2 x3 x4 x6 x7 x8 x9 x10)) x5) (fun _ => (l433 x1 x2 x3 x4 x5 x6 x7 x8)))) := by intro t; cases t <;> (intros; rfl)
abbrev t1124 : Type := Callee → t1094
noncomputable def l439 : t1124 := (fun x0 => (@Callee.rec (fun _ => t1094) (fun _ x2 x3 x4 x5 x6 x7 x8 x9 => (l430 x2 x3 x4 x5 x6 x7 x8 x9)) (fun _ _ x3 x4 x5 x6 x7 x8 x9 x10 => (l430 x3 x4 x5 x6 x7 x8 x9 x10)) (fun x1 x2 x3 x4 x5 x6 x7 x8 x9 => (l438 x1 x2 x3 x4 x5 x6 x7 x8 x9)) x0))
theorem l439_eq : ∀ x0 x1 x2 x3 x4 x5 x6 x7 x8, (Eq (l439 x0 x1 x2 x3 x4 x5 x6 x7 x8) (@regR._sparseCasesOn_3 (fun _ => t170) x0 (fun x9 => (l438 x9 x1 x2 x3 x4 x5 x6 x7 x8)) (fun _ => (l430 x1 x2 x3 x4 x5 x6 x7 x8)))) := by intro t; cases t <;> (intros; rfl)
abbrev t1125 : Type := Op → t1094
noncomputable def l440 : t1125 := (fun x0 => (@Op.rec (fun _ => t1094) (fun _ x2 x3 x4 x5 x6 x7 x8 x9 => (l46 x2 x3 x4 x5 x6 x7 x8 x9)) (fun _ x2 x3 x4 x5 x6 x7 x8 x9 => (l46 x2 x3 x4 x5 x6 x7 x8 x9)) (fun _ _ _ x4 x5 x6 x7 x8 x9 x10 x11 => (l46 x4 x5 x6 x7 x8 x9 x10 x11)) (fun _ x2 x3 x4 x5 x6 x7 x8 x9 => (l46 x2 x3 x4 x5 x6 x7 x8 x9)) (fun _ _ x3 x4 x5 x6 x7 x8 x9 x10 => (l46 x3 x4 x5 x6 x7 x8 x9 x10)) (fun _ _ x3 x4 x5 x6 x7 x8 x9 x10 => (l46 x3 x4 x5 x6 x7 x8 x9 x10)) (fun _ _ _ x4 x5 x6 x7 x8 x9 x10 x11 => (l46 x4 x5 x6 x7 x8 x9 x10 x11)) (fun _ _ _ _ x5 x6 x7 x8 x9 x10 x11 x12 => (l46 x5 x6 x7 x8 x9 x10 x11 x12)) (fun _ _ x3 x4 x5 x6 x7 x8 x9 x10 => (l46 x3 x4 x5 x6 x7 x8 x9 x10)) (fun _ _ _ x4 x5 x6 x7 x8 x9 x10 x11 => (l46 x4 x5 x6 x7 x8 x9 x10 x11)) (fun _ x2 x3 x4 x5 x6 x7 x8 x9 => (l46 x2 x3 x4 x5 x6 x7 x8 x9)) (fun _ x2 x3 x4 x5 x6 x7 x8 x9 => (l46 x2 x3 x4 x5 x6 x7 x8 x9)) (fun _ x2 x3 x4 x5 x6 x7 x8 x9 => (l46 x2 x3 x4 x5 x6 x7 x8 x9)) (fun _ _ _ _ _ x6 x7 x8 x9 x10 x11 x12 x13 => (l46 x6 x7 x8 x9 x10 x11 x12 x13)) (fun _ _ _ x4 x5 x6 x7 x8 x9 x10 x11 => (l46 x4 x5 x6 x7 x8 x9 x10 x11)) (fun _ _ _ x4 x5 x6 x7 x8 x9 x10 x11 => (l46 x4 x5 x6 x7 x8 x9 x10 x11)) (fun _ _ x3 x4 x5 x6 x7 x8 x9 x10 => (l46 x3 x4 x5 x6 x7 x8 x9 x10)) (fun _ _ x3 x4 x5 x6 x7 x8 x9 x10 => (l46 x3 x4 x5 x6 x7 x8 x9 x10)) (fun _ _ _ x4 x5 x6 x7 x8 x9 x10 x11 => (l46 x4 x5 x6 x7 x8 x9 x10 x11)) (fun _ _ x3 x4 x5 x6 x7 x8 x9 x10 => (l46 x3 x4 x5 x6 x7 x8 x9 x10)) (fun _ _ x3 x4 x5 x6 x7 x8 x9 x10 => (l46 x3 x4 x5 x6 x7 x8 x9 x10)) (fun _ _ _ x4 x5 x6 x7 x8 x9 x10 x11 => (l46 x4 x5 x6 x7 x8 x9 x10 x11)) (fun _ _ _ _ _ x6 x7 x8 x9 x10 x11 x12 x13 => (l46 x6 x7 x8 x9 x10 x11 x12 x13)) (fun _ _ _ x4 x5 x6 x7 x8 x9 x10 x11 => (l46 x4 x5 x6 x7 x8 x9 x10 x11)) (fun _ _ _ x4 x5 x6 x7 x8 x9 x10 x11 => (l46 x4 x5 x6 x7 x8 x9 x10 x11)) (fun _ _ _ x4 x5 x6 x7 x8 x9 x10 x11 => (l46 x4 x5 x6 x7 x8 x9 x10 x11)) (fun _ _ _ x4 x5 x6 x7 x8 x9 x10 x11 => (l46 x4 x5 x6 x7 x8 x9 x10 x11)) (fun _ _ _ _ x5 x6 x7 x8 x9 x10 x11 x12 => (l46 x5 x6 x7 x8 x9 x10 x11 x12)) (fun _ _ _ _ x5 x6 x7 x8 x9 x10 x11 x12 => (l46 x5 x6 x7 x8 x9 x10 x11 x12)) (fun _ _ _ x4 x5 x6 x7 x8 x9 x10 x11 => (l46 x4 x5 x6 x7 x8 x9 x10 x11)) (fun _ _ _ _ x5 x6 x7 x8 x9 x10 x11 x12 => (l46 x5 x6 x7 x8 x9 x10 x11 x12)) (fun _ _ x3 x4 x5 x6 x7 x8 x9 x10 => (l46 x3 x4 x5 x6 x7 x8 x9 x10)) (fun _ _ x3 x4 x5 x6 x7 x8 x9 x10 => (l46 x3 x4 x5 x6 x7 x8 x9 x10)) (fun _ x2 x3 x4 x5 x6 x7 x8 x9 => (l46 x2 x3 x4 x5 x6 x7 x8 x9)) (fun _ _ _ _ x5 x6 x7 x8 x9 x10 x11 x12 => (l46 x5 x6 x7 x8 x9 x10 x11 x12)) (fun _ _ x3 x4 x5 x6 x7 x8 x9 x10 => (l46 x3 x4 x5 x6 x7 x8 x9 x10)) (fun x1 x2 x3 x4 x5 x6 x7 x8 x9 => (l439 (Call.callee x1) x2 x3 x4 x5 x6 x7 x8 x9)) (fun _ x2 x3 x4 x5 x6 x7 x8 x9 => (l46 x2 x3 x4 x5 x6 x7 x8 x9)) (fun _ x2 x3 x4 x5 x6 x7 x8 x9 => (l46 x2 x3 x4 x5 x6 x7 x8 x9)) (fun _ x2 x3 x4 x5 x6 x7 x8 x9 => (l46 x2 x3 x4 x5 x6 x7 x8 x9)) (fun _ _ x3 x4 x5 x6 x7 x8 x9 x10 => (l46 x3 x4 x5 x6 x7 x8 x9 x10)) (fun _ _ _ x4 x5 x6 x7 x8 x9 x10 x11 => (l46 x4 x5 x6 x7 x8 x9 x10 x11)) (fun _ _ x3 x4 x5 x6 x7 x8 x9 x10 => (l46 x3 x4 x5 x6 x7 x8 x9 x10)) x0))
theorem l440_eq : ∀ x0 x1 x2 x3 x4 x5 x6 x7 x8, (Eq (l440 x0 x1 x2 x3 x4 x5 x6 x7 x8) (@regR._sparseCasesOn_5 (fun _ => t170) x0 (fun x9 => (l439 (Call.callee x9) x1 x2 x3 x4 x5 x6 x7 x8)) (fun _ => (l46 x1 x2 x3 x4 x5 x6 x7 x8)))) := by intro t; cases t <;> (intros; rfl)
abbrev t1126 : Type := Bool → t1094
noncomputable def l441 : t1126 := (fun x0 => (@Bool.rec (fun _ => t1094) (fun x1 x2 x3 x4 x5 x6 x7 x8 => (@Option.rec t14 (fun _ => t170) none (fun x9 => (x8 x1 x2 x3 x9 x5 x6)) (k_putE x2 (Oper.dst x7) (CV.tup []) x4))) (fun x1 x2 x3 x4 x5 x6 x7 x8 => (l440 (Oper.op x7) x1 x2 x3 x4 x5 x6 x7 x8)) x0))
theorem l441_eq : ∀ x0 x1 x2 x3 x4 x5 x6 x7 x8, (Eq (l441 x0 x1 x2 x3 x4 x5 x6 x7 x8) (@Bool.rec (fun _ => t170) (@Option.rec t14 (fun _ => t170) none (fun x9 => (x8 x1 x2 x3 x9 x5 x6)) (k_putE x2 (Oper.dst x7) (CV.tup []) x4)) (l440 (Oper.op x7) x1 x2 x3 x4 x5 x6 x7 x8) x0)) := by intro t; cases t <;> (intros; rfl)
noncomputable def l442 : t490 := (fun x0 => (@Value.rec (fun _ => t391) (fun _ => PUnit.{1}) (fun _ => PUnit.{1}) (fun x1 x2 => (@Bool.rec (fun _ => t369) (some (@Bool.rec (fun _ => Bool) Bool.true Bool.false x2)) (some x2) x1)) (fun _ _ _ => none) (fun _ _ _ => none) (fun _ _ _ _ => none) (fun _ _ => none) (fun _ _ => none) (fun _ _ _ _ => none) (fun _ _ => none) (fun _ _ => none) (fun _ _ _ _ _ _ => none) (fun _ => none) (fun _ _ _ _ => none) (fun _ => none) (fun _ _ _ => none) (fun _ _ _ => none) (fun _ _ => PUnit.unit.{1}) PUnit.unit.{1} (fun _ _ _ _ => PUnit.unit.{1}) x0))
theorem l442_eq : ∀ x0 x1, (Eq (l442 x0 x1) (@guardV._sparseCasesOn_2 (fun _ => t369) x0 (fun x2 => (@Bool.rec (fun _ => t369) (some (@Bool.rec (fun _ => Bool) Bool.true Bool.false x1)) (some x1) x2)) (fun _ => none))) := by intro t; cases t <;> (intros; rfl)
noncomputable def l443 : t372 := (fun x0 => (@List.rec CV (fun _ => t369) (some Bool.false) (fun _ _ _ => none) x0))
theorem l443_eq : ∀ x0, (Eq (l443 x0) (@methV._sparseCasesOn_1 CV (fun _ => t369) x0 (some Bool.false) (fun _ => none))) := by intro t; cases t <;> (intros; rfl)
noncomputable def l444 : t491 := (fun x0 => (@CV.rec (fun _ => t391) (fun _ => PUnit.{1}) (fun _ => none) (fun x1 x2 => (l442 x1 x2)) (fun _ _ _ => none) (fun _ _ _ _ _ _ => none) (fun _ => none) (fun _ _ => none) (fun _ _ _ => none) (fun x1 _ _ => (l443 x1)) (fun _ _ _ _ _ _ => none) (fun _ _ => none) (fun _ _ _ _ => none) PUnit.unit.{1} (fun _ _ _ _ => PUnit.unit.{1}) x0))
theorem l444_eq : ∀ x0 x1, (Eq (l444 x0 x1) (@guardV._sparseCasesOn_1 (fun _ => t369) x0 (fun x2 => (l442 x2 x1)) (fun x2 => (l443 x2)) (fun _ => none))) := by intro t; cases t <;> (intros; rfl)
abbrev t1127 : Type := t81 → t391
noncomputable def l445 : t1127 := (fun x0 => (@Option.rec CV (fun _ => t391) (fun _ => none) (fun x1 x2 => (l444 x1 x2)) x0))
theorem l445_eq : ∀ x0 x1, (Eq (l445 x0 x1) (@methV._sparseCasesOn_2 CV (fun _ => t369) x0 (fun x2 => (l444 x2 x1)) (fun _ => none))) := by intro t; cases t <;> (intros; rfl)
abbrev t1128 : Type := Option Oper
abbrev t1129 : Type := Nat → t1128
abbrev t1130 : Type := t161 → t1129
noncomputable def k_List_get?Internal_Oper : t1130 := (fun x0 x1 => (@List.rec Oper (fun _ => t1129) (fun _ => none) (fun x2 _ x4 x5 => (@Nat.rec (fun _ => t1128) (some x2) (fun x6 _ => (x4 x6)) x5)) x0 x1))
theorem k_List_get?Internal_Oper_law : ∀ x0 x1, (Eq (k_List_get?Internal_Oper x0 x1) (@List.get?Internal Oper x0 x1)) := by
  intro t
  induction t with
  | nil  =>
    intro z0
    show ((fun (_ : Nat) => none) z0) = _
    conv => rhs; rw [List.get?Internal.eq_def]
    all_goals kernel_rfl
  | cons y0 y1 ih0 =>
    intro z0
    have e0 : (fun (x0 : Nat) => (k_List_get?Internal_Oper y1 x0)) = (fun (x0 : Nat) => (@List.get?Internal Oper y1 x0)) := by
      funext z0; exact ih0 z0
    show ((fun (x0 : Oper) (_ : t161) (x2 : t1129) (x3 : Nat) => (@Nat.rec (fun (_ : Nat) => t1128) (some x0) (fun (x4 : Nat) (_ : t1128) => (x2 x4)) x3)) y0 y1 (fun (x0 : Nat) => (k_List_get?Internal_Oper y1 x0)) z0) = _
    rw [e0]
    conv => rhs; rw [List.get?Internal.eq_def]
    all_goals kernel_rfl
theorem k_List_get?Internal_Oper_eq : @k_List_get?Internal_Oper = (@List.get?Internal Oper) := by
  funext a0 a1; exact k_List_get?Internal_Oper_law a0 a1
abbrev t1131 : Type := Prod Nat Bool
abbrev t1132 : Type := t14 → t369
abbrev t1133 : Type := t161 → t1132
abbrev t1134 : Type := t1131 → t1133
noncomputable def l446 : t1134 := (fun x0 => (@Prod.rec Nat Bool (fun _ => t1133) (fun x1 x2 x3 x4 => ((fun x5 x6 => (@Option.rec Oper (fun _ => t369) none (fun x7 => ((fun x8 => (@Option.rec Tmp (fun _ => t369) none (fun x9 => ((fun x10 => (l445 (getCV x4 x10) x6)) x9)) (Oper.dst x8))) x7)) (k_List_get?Internal_Oper x3 x5))) x1 x2)) x0))
theorem l446_eq : ∀ x0 x1 x2, (Eq (l446 x0 x1 x2) (@Prod.rec Nat Bool (fun _ => t369) (fun x3 x4 => ((fun x5 x6 => (@Option.rec Oper (fun _ => t369) none (fun x7 => ((fun x8 => (@Option.rec Tmp (fun _ => t369) none (fun x9 => ((fun x10 => (l445 (getCV x2 x10) x6)) x9)) (Oper.dst x8))) x7)) (k_List_get?Internal_Oper x1 x5))) x3 x4)) x0)) := by intro t; cases t <;> (intros; rfl)
abbrev t1135 : Type := Oper → t369
abbrev t1136 : Type := t14 → t1135
abbrev t1137 : Type := t161 → t1136
noncomputable def k_guardV : t1137 := (fun x0 x1 x2 => (@Option.rec t1131 (fun _ => t369) (some Bool.true) (fun x3 => (l446 x3 x0 x1)) (Oper.guard x2)))
theorem k_guardV_eq : @k_guardV = guardV := by
  delta k_guardV guardV
  simp only [l444_eq, l446_eq, l445_eq, l442_eq, l443_eq]
  rw [k_List_get?Internal_Oper_eq, getCV_eq]
  all_goals kernel_rfl

abbrev t1138 : Type := t161 → t174
abbrev t1139 : Type := Nat → t1138
abbrev t1140 : Type := Program → t1139
noncomputable def k_regR : t1140 := (fun x0 x1 x2 x3 x4 x5 x6 => (@List.rec Oper (fun _ => t176) (fun _ _ _ x10 x11 x12 => (some (x10, (x11, x12)))) (fun x7 _ x9 x10 x11 x12 x13 x14 x15 => (@Option.rec Bool (fun _ => t170) none (fun x16 => (l441 x16 x10 x11 x12 x13 x14 x15 x7 x9)) (k_guardV x12 x13 x7))) x3 x0 x1 x2 x4 x5 x6))
theorem k_regR_law : ∀ x0 x1 x2 x3 x4 x5 x6, (Eq (k_regR x1 x2 x3 x0 x4 x5 x6) (regR x1 x2 x3 x0 x4 x5 x6)) := by
  intro t
  induction t with
  | nil  =>
    intro z0 z1 z2 z3 z4 z5
    show ((fun (_ : Program) (_ : Nat) (_ : t161) (x3 : t14) (x4 : Dm) (x5 : S) => (some (x3, (x4, x5)))) z0 z1 z2 z3 z4 z5) = _
    conv => rhs; rw [Ev.regR.eq_def]
    all_goals kernel_rfl
  | cons y0 y1 ih0 =>
    intro z0 z1 z2 z3 z4 z5
    have e0 : (fun (x0 : Program) (x1 : Nat) (x2 : t161) (x3 : t14) (x4 : Dm) (x5 : S) => (k_regR x0 x1 x2 y1 x3 x4 x5)) = (fun (x0 : Program) (x1 : Nat) (x2 : t161) (x3 : t14) (x4 : Dm) (x5 : S) => (regR x0 x1 x2 y1 x3 x4 x5)) := by
      funext z0 z1 z2 z3 z4 z5; exact ih0 z0 z1 z2 z3 z4 z5
    show ((fun (x0 : Oper) (_ : t161) (x2 : t176) (x3 : Program) (x4 : Nat) (x5 : t161) (x6 : t14) (x7 : Dm) (x8 : S) => (@Option.rec Bool (fun (_ : t369) => t170) none (fun (x9 : Bool) => (l441 x9 x3 x4 x5 x6 x7 x8 x0 x2)) (k_guardV x5 x6 x0))) y0 y1 (fun (x0 : Program) (x1 : Nat) (x2 : t161) (x3 : t14) (x4 : Dm) (x5 : S) => (k_regR x0 x1 x2 y1 x3 x4 x5)) z0 z1 z2 z3 z4 z5) = _
    rw [e0]
    conv => rhs; rw [Ev.regR.eq_def]
    try simp only [l436_eq, l428_eq, l438_eq, l430_eq, l439_eq, l437_eq, l46_eq, l440_eq, l429_eq, l45_eq, l441_eq, l431_eq, l434_eq, l435_eq, l432_eq, l44_eq, l433_eq]
    try rw [k_guardV_eq]
    try rw [k_putE_eq]
    try rw [k_opV_eq]
    all_goals kernel_rfl
theorem k_regR_eq : @k_regR = regR := by
  funext a0 a1 a2 a3 a4 a5 a6; exact k_regR_law a3 a0 a1 a2 a4 a5 a6
abbrev t1141 : Type := Program → t137
abbrev t1142 : Type := (Array Oper) → t1141
abbrev t1143 : Type := Nat → t1142
abbrev t1144 : Type := S → t1143
abbrev t1145 : Type := Dm → t1144
abbrev t1146 : Type := t14 → t1145
abbrev t1147 : Type := Nat → t1146
abbrev t1148 : Type := Run → t1147
abbrev t1149 : Type := Bool → t1148
noncomputable def l43 : t1149 := (fun x0 => (@Bool.rec (fun _ => t1148) (fun x1 x2 x3 x4 x5 x6 x7 _ => (l42 (Run.code x1 (Code.region x6 x7 Bool.false) (Fr.mk x2 x3 [] none) x5) x4)) (fun _ x2 x3 x4 x5 _ x7 x8 => (@Option.rec t131 (fun _ => t137) none (fun x9 => (@Prod.rec t14 t126 (fun _ => t137) (fun x10 x11 => (@Prod.rec Dm S (fun _ => t137) (fun x12 x13 => (some (Ex.normal, (x10, (x12, x13))))) x11)) x9)) (k_regR x8 x2 (@Array.toList Oper x7) (@Array.toList Oper x7) x3 x4 x5))) x0))
theorem l43_eq : ∀ x0 x1 x2 x3 x4 x5 x6 x7 x8, (Eq (l43 x0 x1 x2 x3 x4 x5 x6 x7 x8) (@Bool.rec (fun _ => t137) (l42 (Run.code x1 (Code.region x6 x7 Bool.false) (Fr.mk x2 x3 [] none) x5) x4) (@Option.rec t131 (fun _ => t137) none (fun x9 => (@Prod.rec t14 t126 (fun _ => t137) (fun x10 x11 => (@Prod.rec Dm S (fun _ => t137) (fun x12 x13 => (some (Ex.normal, (x10, (x12, x13))))) x11)) x9)) (k_regR x8 x2 (@Array.toList Oper x7) (@Array.toList Oper x7) x3 x4 x5)) x0)) := by intro t; cases t <;> (intros; rfl)
abbrev t1150 : Type := Builtin → Bool
noncomputable def l448 : t1150 := (fun x0 => (@Builtin.rec (fun _ => Bool) Bool.false Bool.false Bool.false Bool.false Bool.false Bool.false Bool.false Bool.false Bool.false Bool.false Bool.false Bool.false Bool.false Bool.false Bool.false Bool.false Bool.false Bool.true Bool.false Bool.false Bool.false Bool.false Bool.false Bool.false Bool.false Bool.false x0))
theorem l448_eq : ∀ x0, (Eq (l448 x0) (@regR._sparseCasesOn_4 (fun _ => Bool) x0 Bool.true (fun _ => Bool.false))) := by intro t; cases t <;> (intros; rfl)
abbrev t1151 : Type := Callee → Bool
noncomputable def l449 : t1151 := (fun x0 => (@Callee.rec (fun _ => Bool) (fun _ => Bool.false) (fun _ _ => Bool.false) (fun x1 => (l448 x1)) x0))
theorem l449_eq : ∀ x0, (Eq (l449 x0) (@regR._sparseCasesOn_3 (fun _ => Bool) x0 (fun x1 => (l448 x1)) (fun _ => Bool.false))) := by intro t; cases t <;> (intros; rfl)
abbrev t1152 : Type := Op → Bool
noncomputable def l450 : t1152 := (fun x0 => (@Op.rec (fun _ => Bool) (fun _ => Bool.false) (fun _ => Bool.false) (fun _ _ _ => Bool.false) (fun _ => Bool.false) (fun _ _ => Bool.false) (fun _ _ => Bool.false) (fun _ _ _ => Bool.false) (fun _ _ _ _ => Bool.false) (fun _ _ => Bool.false) (fun _ _ _ => Bool.false) (fun _ => Bool.false) (fun _ => Bool.false) (fun _ => Bool.false) (fun _ _ _ _ _ => Bool.false) (fun _ _ _ => Bool.false) (fun _ _ _ => Bool.false) (fun _ _ => Bool.false) (fun _ _ => Bool.false) (fun _ _ _ => Bool.false) (fun _ _ => Bool.false) (fun _ _ => Bool.false) (fun _ _ _ => Bool.false) (fun _ _ _ _ _ => Bool.false) (fun _ _ _ => Bool.false) (fun _ _ _ => Bool.false) (fun _ _ _ => Bool.false) (fun _ _ _ => Bool.false) (fun _ _ _ _ => Bool.false) (fun _ _ _ _ => Bool.false) (fun _ _ _ => Bool.false) (fun _ _ _ _ => Bool.false) (fun _ _ => Bool.false) (fun _ _ => Bool.false) (fun _ => Bool.false) (fun _ _ _ _ => Bool.false) (fun _ _ => Bool.false) (fun x1 => (l449 (Call.callee x1))) (fun _ => Bool.false) (fun _ => Bool.false) (fun _ => Bool.false) (fun _ _ => Bool.false) (fun _ _ _ => Bool.false) (fun _ _ => Bool.false) x0))
theorem l450_eq : ∀ x0, (Eq (l450 x0) (@regR._sparseCasesOn_5 (fun _ => Bool) x0 (fun x1 => (l449 (Call.callee x1))) (fun _ => Bool.false))) := by intro t; cases t <;> (intros; rfl)
abbrev t1153 : Type := t161 → Bool
noncomputable def k_hasRec : t1153 := (fun x0 => (@List.any Oper x0 (fun x1 => (l450 (Oper.op x1)))))
theorem k_hasRec_eq : @k_hasRec = hasRec := by
  delta k_hasRec hasRec
  simp only [l449_eq, l448_eq, l450_eq]
  all_goals kernel_rfl

abbrev t1154 : Type := Program → t160
abbrev t1155 : Type := Bool → t1154
noncomputable def l447 : t1155 := (fun x0 => (@Bool.rec (fun _ => t1154) (fun x1 x2 x3 x4 x5 x6 x7 x8 _ => (l43 (k_hasRec (@Array.toList Oper x8)) x2 x3 x4 x5 x6 x7 x8 x1)) (fun _ x2 x3 x4 x5 x6 x7 x8 x9 => (l39 x2 x3 x4 x5 x6 x7 x8 x9)) x0))
theorem l447_eq : ∀ x0 x1 x2 x3 x4 x5 x6 x7 x8 x9, (Eq (l447 x0 x1 x2 x3 x4 x5 x6 x7 x8 x9) (@regR._sparseCasesOn_1 (fun _ => t137) x0 (l43 (k_hasRec (@Array.toList Oper x8)) x2 x3 x4 x5 x6 x7 x8 x1) (fun _ => (l39 x2 x3 x4 x5 x6 x7 x8 x9)))) := by intro t; cases t <;> (intros; rfl)
abbrev t1156 : Type := S → t137
abbrev t1157 : Type := Dm → t1156
abbrev t1158 : Type := t14 → t1157
abbrev t1159 : Type := Nat → t1158
abbrev t1160 : Type := Run → t1159
abbrev t1161 : Type := Program → t1160
abbrev t1162 : Type := Ex → t137
abbrev t1163 : Type := t131 → t1162
abbrev t1164 : Type := t1161 → t1163
abbrev t1165 : Type := Nat → t1164
abbrev t1166 : Type := Run → t1165
abbrev t1167 : Type := Program → t1166
abbrev t1168 : Type := Ex → t1167
noncomputable def l451 : t1168 := (fun x0 => (@Ex.rec (fun _ => t1167) (fun x1 x2 x3 x4 x5 _ => (@Prod.rec t14 t126 (fun _ => t137) (fun x7 x8 => (@Prod.rec Dm S (fun _ => t137) (fun x9 x10 => (x4 x1 x2 x3 x7 x9 x10)) x8)) x5)) (fun _ _ _ _ _ x6 x7 => (some (x7, x6))) (fun _ _ _ _ x5 x6 => (some (x6, x5))) (fun _ _ _ _ _ x6 x7 => (some (x7, x6))) x0))
theorem l451_eq : ∀ x0 x1 x2 x3 x4 x5 x6, (Eq (l451 x0 x1 x2 x3 x4 x5 x6) (@codeD._sparseCasesOn_1 (fun _ => t137) x0 (@Prod.rec t14 t126 (fun _ => t137) (fun x7 x8 => (@Prod.rec Dm S (fun _ => t137) (fun x9 x10 => (x4 x1 x2 x3 x7 x9 x10)) x8)) x5) (fun _ => (some (x6, x5))))) := by intro t; cases t <;> (intros; rfl)
abbrev t1169 : Type := t1161 → t137
abbrev t1170 : Type := t1161 → t1169
abbrev t1171 : Type := S → t1170
abbrev t1172 : Type := Dm → t1171
abbrev t1173 : Type := t14 → t1172
abbrev t1174 : Type := Nat → t1173
abbrev t1175 : Type := Run → t1174
abbrev t1176 : Type := Program → t1175
abbrev t1177 : Type := t137 → t1176
noncomputable def l452 : t1177 := (fun x0 => (@Option.rec t136 (fun _ => t1176) (fun x1 x2 x3 x4 x5 x6 x7 _ => (x7 x1 x2 x3 x4 x5 x6)) (fun x1 x2 x3 x4 _ _ _ _ x9 => (@Prod.rec Ex t131 (fun _ => t137) (fun x10 x11 => (l451 x10 x2 x3 x4 x9 x11 x10)) x1)) x0))
theorem l452_eq : ∀ x0 x1 x2 x3 x4 x5 x6 x7 x8, (Eq (l452 x0 x1 x2 x3 x4 x5 x6 x7 x8) (@methV._sparseCasesOn_2 t136 (fun _ => t137) x0 (fun x9 => (@Prod.rec Ex t131 (fun _ => t137) (fun x10 x11 => (l451 x10 x1 x2 x3 x8 x11 x10)) x9)) (fun _ => (x7 x1 x2 x3 x4 x5 x6)))) := by intro t; cases t <;> (intros; rfl)
abbrev t1178 : Type := Value → t1176
noncomputable def l453 : t1178 := (fun x0 => (@Value.rec (fun _ => t1176) (fun _ => PUnit.{1}) (fun _ => PUnit.{1}) (fun x1 x2 x3 x4 x5 x6 x7 x8 x9 => (@Bool.rec (fun _ => t137) (x9 x2 x3 x4 x5 x6 x7) (x8 x2 x3 x4 x5 x6 x7) x1)) (fun _ _ _ _ _ _ _ _ _ _ => none) (fun _ _ _ _ _ _ _ _ _ _ => none) (fun _ _ _ _ _ _ _ _ _ _ _ => none) (fun _ _ _ _ _ _ _ _ _ => none) (fun _ _ _ _ _ _ _ _ _ => none) (fun _ _ _ _ _ _ _ _ _ _ _ => none) (fun _ _ _ _ _ _ _ _ _ => none) (fun _ _ _ _ _ _ _ _ _ => none) (fun _ _ _ _ _ _ _ _ _ _ _ _ _ => none) (fun _ _ _ _ _ _ _ _ => none) (fun _ _ _ _ _ _ _ _ _ _ _ => none) (fun _ _ _ _ _ _ _ _ => none) (fun _ _ _ _ _ _ _ _ _ _ => none) (fun _ _ _ _ _ _ _ _ _ _ => none) (fun _ _ => PUnit.unit.{1}) PUnit.unit.{1} (fun _ _ _ _ => PUnit.unit.{1}) x0))
theorem l453_eq : ∀ x0 x1 x2 x3 x4 x5 x6 x7 x8, (Eq (l453 x0 x1 x2 x3 x4 x5 x6 x7 x8) (@guardV._sparseCasesOn_2 (fun _ => t137) x0 (fun x9 => (@Bool.rec (fun _ => t137) (x8 x1 x2 x3 x4 x5 x6) (x7 x1 x2 x3 x4 x5 x6) x9)) (fun _ => none))) := by intro t; cases t <;> (intros; rfl)
abbrev t1179 : Type := CV → t1176
noncomputable def l454 : t1179 := (fun x0 => (@CV.rec (fun _ => t1176) (fun _ => PUnit.{1}) (fun _ _ _ _ _ _ _ _ => none) (fun x1 x2 x3 x4 x5 x6 x7 x8 x9 => (l453 x1 x2 x3 x4 x5 x6 x7 x8 x9)) (fun _ _ _ _ _ _ _ _ _ _ => none) (fun _ _ _ _ _ _ _ _ _ _ _ _ _ => none) (fun _ _ _ _ _ _ _ _ => none) (fun _ _ _ _ _ _ _ _ _ => none) (fun _ _ _ _ _ _ _ _ _ _ => none) (fun _ _ _ _ _ _ _ _ _ _ => none) (fun _ _ _ _ _ _ _ _ _ _ _ _ _ => none) (fun _ _ _ _ _ _ _ _ _ => none) (fun _ _ _ _ _ _ _ _ _ _ _ => none) PUnit.unit.{1} (fun _ _ _ _ => PUnit.unit.{1}) x0))
theorem l454_eq : ∀ x0 x1 x2 x3 x4 x5 x6 x7 x8, (Eq (l454 x0 x1 x2 x3 x4 x5 x6 x7 x8) (@codeD._sparseCasesOn_2 (fun _ => t137) x0 (fun x9 => (l453 x9 x1 x2 x3 x4 x5 x6 x7 x8)) (fun _ => none))) := by intro t; cases t <;> (intros; rfl)
abbrev t1180 : Type := t81 → t1176
noncomputable def l455 : t1180 := (fun x0 => (@Option.rec CV (fun _ => t1176) (fun _ _ _ _ _ _ _ _ => none) (fun x1 x2 x3 x4 x5 x6 x7 x8 x9 => (l454 x1 x2 x3 x4 x5 x6 x7 x8 x9)) x0))
theorem l455_eq : ∀ x0 x1 x2 x3 x4 x5 x6 x7 x8, (Eq (l455 x0 x1 x2 x3 x4 x5 x6 x7 x8) (@methV._sparseCasesOn_2 CV (fun _ => t137) x0 (fun x9 => (l454 x9 x1 x2 x3 x4 x5 x6 x7 x8)) (fun _ => none))) := by intro t; cases t <;> (intros; rfl)
noncomputable def l456 : t146 := (fun x0 => (@List.rec SD (fun _ => t145) (fun x1 x2 x3 x4 => (some (x2, (x4, (x1, x3))))) (fun _ _ _ _ _ _ _ => none) x0))
theorem l456_eq : ∀ x0 x1 x2 x3 x4, (Eq (l456 x0 x1 x2 x3 x4) (@methV._sparseCasesOn_1 SD (fun _ => t137) x0 (some (x2, (x4, (x1, x3)))) (fun _ => none))) := by intro t; cases t <;> (intros; rfl)
noncomputable def l457 : t150 := (fun x0 => (@Prod.rec Ex t147 (fun _ => t149) (fun x1 x2 x3 => (@Prod.rec Fr S (fun _ => t137) (fun x4 x5 => (@Fr.rec (fun _ => t137) (fun _ x7 x8 _ => (l456 x8 x3 x1 x5 x7)) x4)) x2)) x0))
theorem l457_eq : ∀ x0 x1, (Eq (l457 x0 x1) (@Prod.rec Ex t147 (fun _ => t137) (fun x2 x3 => (@Prod.rec Fr S (fun _ => t137) (fun x4 x5 => (@Fr.rec (fun _ => t137) (fun _ x7 x8 _ => (l456 x8 x1 x2 x5 x7)) x4)) x3)) x0)) := by intro t; cases t <;> (intros; rfl)
noncomputable def l458 : t152 := (fun x0 => (@Option.rec t148 (fun _ => t149) (fun _ => none) (fun x1 x2 => (l457 x1 x2)) x0))
theorem l458_eq : ∀ x0 x1, (Eq (l458 x0 x1) (@methV._sparseCasesOn_2 t148 (fun _ => t137) x0 (fun x2 => (l457 x2 x1)) (fun _ => none))) := by intro t; cases t <;> (intros; rfl)
noncomputable def l459 : t146 := (fun x0 => (@List.rec SD (fun _ => t145) (fun x1 x2 x3 x4 => (some (x2, (x4, (x1, x3))))) (fun _ _ _ _ _ _ _ => none) x0))
theorem l459_eq : ∀ x0 x1 x2 x3 x4, (Eq (l459 x0 x1 x2 x3 x4) (@methV._sparseCasesOn_1 SD (fun _ => t137) x0 (some (x2, (x4, (x1, x3)))) (fun _ => none))) := by intro t; cases t <;> (intros; rfl)
noncomputable def l460 : t150 := (fun x0 => (@Prod.rec Ex t147 (fun _ => t149) (fun x1 x2 x3 => (@Prod.rec Fr S (fun _ => t137) (fun x4 x5 => (@Fr.rec (fun _ => t137) (fun _ x7 x8 _ => (l459 x8 x3 x1 x5 x7)) x4)) x2)) x0))
theorem l460_eq : ∀ x0 x1, (Eq (l460 x0 x1) (@Prod.rec Ex t147 (fun _ => t137) (fun x2 x3 => (@Prod.rec Fr S (fun _ => t137) (fun x4 x5 => (@Fr.rec (fun _ => t137) (fun _ x7 x8 _ => (l459 x8 x1 x2 x5 x7)) x4)) x3)) x0)) := by intro t; cases t <;> (intros; rfl)
noncomputable def l461 : t152 := (fun x0 => (@Option.rec t148 (fun _ => t149) (fun _ => none) (fun x1 x2 => (l460 x1 x2)) x0))
theorem l461_eq : ∀ x0 x1, (Eq (l461 x0 x1) (@methV._sparseCasesOn_2 t148 (fun _ => t137) x0 (fun x2 => (l460 x2 x1)) (fun _ => none))) := by intro t; cases t <;> (intros; rfl)
noncomputable def l462 : t146 := (fun x0 => (@List.rec SD (fun _ => t145) (fun x1 x2 x3 x4 => (some (x2, (x4, (x1, x3))))) (fun _ _ _ _ _ _ _ => none) x0))
theorem l462_eq : ∀ x0 x1 x2 x3 x4, (Eq (l462 x0 x1 x2 x3 x4) (@methV._sparseCasesOn_1 SD (fun _ => t137) x0 (some (x2, (x4, (x1, x3)))) (fun _ => none))) := by intro t; cases t <;> (intros; rfl)
noncomputable def l463 : t150 := (fun x0 => (@Prod.rec Ex t147 (fun _ => t149) (fun x1 x2 x3 => (@Prod.rec Fr S (fun _ => t137) (fun x4 x5 => (@Fr.rec (fun _ => t137) (fun _ x7 x8 _ => (l462 x8 x3 x1 x5 x7)) x4)) x2)) x0))
theorem l463_eq : ∀ x0 x1, (Eq (l463 x0 x1) (@Prod.rec Ex t147 (fun _ => t137) (fun x2 x3 => (@Prod.rec Fr S (fun _ => t137) (fun x4 x5 => (@Fr.rec (fun _ => t137) (fun _ x7 x8 _ => (l462 x8 x1 x2 x5 x7)) x4)) x3)) x0)) := by intro t; cases t <;> (intros; rfl)
noncomputable def l464 : t152 := (fun x0 => (@Option.rec t148 (fun _ => t149) (fun _ => none) (fun x1 x2 => (l463 x1 x2)) x0))
theorem l464_eq : ∀ x0 x1, (Eq (l464 x0 x1) (@methV._sparseCasesOn_2 t148 (fun _ => t137) x0 (fun x2 => (l463 x2 x1)) (fun _ => none))) := by intro t; cases t <;> (intros; rfl)
noncomputable def l465 : t146 := (fun x0 => (@List.rec SD (fun _ => t145) (fun x1 x2 x3 x4 => (some (x2, (x4, (x1, x3))))) (fun _ _ _ _ _ _ _ => none) x0))
theorem l465_eq : ∀ x0 x1 x2 x3 x4, (Eq (l465 x0 x1 x2 x3 x4) (@methV._sparseCasesOn_1 SD (fun _ => t137) x0 (some (x2, (x4, (x1, x3)))) (fun _ => none))) := by intro t; cases t <;> (intros; rfl)
noncomputable def l466 : t150 := (fun x0 => (@Prod.rec Ex t147 (fun _ => t149) (fun x1 x2 x3 => (@Prod.rec Fr S (fun _ => t137) (fun x4 x5 => (@Fr.rec (fun _ => t137) (fun _ x7 x8 _ => (l465 x8 x3 x1 x5 x7)) x4)) x2)) x0))
theorem l466_eq : ∀ x0 x1, (Eq (l466 x0 x1) (@Prod.rec Ex t147 (fun _ => t137) (fun x2 x3 => (@Prod.rec Fr S (fun _ => t137) (fun x4 x5 => (@Fr.rec (fun _ => t137) (fun _ x7 x8 _ => (l465 x8 x1 x2 x5 x7)) x4)) x3)) x0)) := by intro t; cases t <;> (intros; rfl)
noncomputable def l467 : t152 := (fun x0 => (@Option.rec t148 (fun _ => t149) (fun _ => none) (fun x1 x2 => (l466 x1 x2)) x0))
theorem l467_eq : ∀ x0 x1, (Eq (l467 x0 x1) (@methV._sparseCasesOn_2 t148 (fun _ => t137) x0 (fun x2 => (l466 x2 x1)) (fun _ => none))) := by intro t; cases t <;> (intros; rfl)
noncomputable def l468 : t146 := (fun x0 => (@List.rec SD (fun _ => t145) (fun x1 x2 x3 x4 => (some (x2, (x4, (x1, x3))))) (fun _ _ _ _ _ _ _ => none) x0))
theorem l468_eq : ∀ x0 x1 x2 x3 x4, (Eq (l468 x0 x1 x2 x3 x4) (@methV._sparseCasesOn_1 SD (fun _ => t137) x0 (some (x2, (x4, (x1, x3)))) (fun _ => none))) := by intro t; cases t <;> (intros; rfl)
noncomputable def l469 : t150 := (fun x0 => (@Prod.rec Ex t147 (fun _ => t149) (fun x1 x2 x3 => (@Prod.rec Fr S (fun _ => t137) (fun x4 x5 => (@Fr.rec (fun _ => t137) (fun _ x7 x8 _ => (l468 x8 x3 x1 x5 x7)) x4)) x2)) x0))
theorem l469_eq : ∀ x0 x1, (Eq (l469 x0 x1) (@Prod.rec Ex t147 (fun _ => t137) (fun x2 x3 => (@Prod.rec Fr S (fun _ => t137) (fun x4 x5 => (@Fr.rec (fun _ => t137) (fun _ x7 x8 _ => (l468 x8 x1 x2 x5 x7)) x4)) x3)) x0)) := by intro t; cases t <;> (intros; rfl)
noncomputable def l470 : t152 := (fun x0 => (@Option.rec t148 (fun _ => t149) (fun _ => none) (fun x1 x2 => (l469 x1 x2)) x0))
theorem l470_eq : ∀ x0 x1, (Eq (l470 x0 x1) (@methV._sparseCasesOn_2 t148 (fun _ => t137) x0 (fun x2 => (l469 x2 x1)) (fun _ => none))) := by intro t; cases t <;> (intros; rfl)
noncomputable def l471 : t146 := (fun x0 => (@List.rec SD (fun _ => t145) (fun x1 x2 x3 x4 => (some (x2, (x4, (x1, x3))))) (fun _ _ _ _ _ _ _ => none) x0))
theorem l471_eq : ∀ x0 x1 x2 x3 x4, (Eq (l471 x0 x1 x2 x3 x4) (@methV._sparseCasesOn_1 SD (fun _ => t137) x0 (some (x2, (x4, (x1, x3)))) (fun _ => none))) := by intro t; cases t <;> (intros; rfl)
noncomputable def l472 : t150 := (fun x0 => (@Prod.rec Ex t147 (fun _ => t149) (fun x1 x2 x3 => (@Prod.rec Fr S (fun _ => t137) (fun x4 x5 => (@Fr.rec (fun _ => t137) (fun _ x7 x8 _ => (l471 x8 x3 x1 x5 x7)) x4)) x2)) x0))
theorem l472_eq : ∀ x0 x1, (Eq (l472 x0 x1) (@Prod.rec Ex t147 (fun _ => t137) (fun x2 x3 => (@Prod.rec Fr S (fun _ => t137) (fun x4 x5 => (@Fr.rec (fun _ => t137) (fun _ x7 x8 _ => (l471 x8 x1 x2 x5 x7)) x4)) x3)) x0)) := by intro t; cases t <;> (intros; rfl)
noncomputable def l473 : t152 := (fun x0 => (@Option.rec t148 (fun _ => t149) (fun _ => none) (fun x1 x2 => (l472 x1 x2)) x0))
theorem l473_eq : ∀ x0 x1, (Eq (l473 x0 x1) (@methV._sparseCasesOn_2 t148 (fun _ => t137) x0 (fun x2 => (l472 x2 x1)) (fun _ => none))) := by intro t; cases t <;> (intros; rfl)
noncomputable def l474 : t146 := (fun x0 => (@List.rec SD (fun _ => t145) (fun x1 x2 x3 x4 => (some (x2, (x4, (x1, x3))))) (fun _ _ _ _ _ _ _ => none) x0))
theorem l474_eq : ∀ x0 x1 x2 x3 x4, (Eq (l474 x0 x1 x2 x3 x4) (@methV._sparseCasesOn_1 SD (fun _ => t137) x0 (some (x2, (x4, (x1, x3)))) (fun _ => none))) := by intro t; cases t <;> (intros; rfl)
noncomputable def l475 : t150 := (fun x0 => (@Prod.rec Ex t147 (fun _ => t149) (fun x1 x2 x3 => (@Prod.rec Fr S (fun _ => t137) (fun x4 x5 => (@Fr.rec (fun _ => t137) (fun _ x7 x8 _ => (l474 x8 x3 x1 x5 x7)) x4)) x2)) x0))
theorem l475_eq : ∀ x0 x1, (Eq (l475 x0 x1) (@Prod.rec Ex t147 (fun _ => t137) (fun x2 x3 => (@Prod.rec Fr S (fun _ => t137) (fun x4 x5 => (@Fr.rec (fun _ => t137) (fun _ x7 x8 _ => (l474 x8 x1 x2 x5 x7)) x4)) x3)) x0)) := by intro t; cases t <;> (intros; rfl)
noncomputable def l476 : t152 := (fun x0 => (@Option.rec t148 (fun _ => t149) (fun _ => none) (fun x1 x2 => (l475 x1 x2)) x0))
theorem l476_eq : ∀ x0 x1, (Eq (l476 x0 x1) (@methV._sparseCasesOn_2 t148 (fun _ => t137) x0 (fun x2 => (l475 x2 x1)) (fun _ => none))) := by intro t; cases t <;> (intros; rfl)
noncomputable def l477 : t146 := (fun x0 => (@List.rec SD (fun _ => t145) (fun x1 x2 x3 x4 => (some (x2, (x4, (x1, x3))))) (fun _ _ _ _ _ _ _ => none) x0))
theorem l477_eq : ∀ x0 x1 x2 x3 x4, (Eq (l477 x0 x1 x2 x3 x4) (@methV._sparseCasesOn_1 SD (fun _ => t137) x0 (some (x2, (x4, (x1, x3)))) (fun _ => none))) := by intro t; cases t <;> (intros; rfl)
noncomputable def l478 : t150 := (fun x0 => (@Prod.rec Ex t147 (fun _ => t149) (fun x1 x2 x3 => (@Prod.rec Fr S (fun _ => t137) (fun x4 x5 => (@Fr.rec (fun _ => t137) (fun _ x7 x8 _ => (l477 x8 x3 x1 x5 x7)) x4)) x2)) x0))
theorem l478_eq : ∀ x0 x1, (Eq (l478 x0 x1) (@Prod.rec Ex t147 (fun _ => t137) (fun x2 x3 => (@Prod.rec Fr S (fun _ => t137) (fun x4 x5 => (@Fr.rec (fun _ => t137) (fun _ x7 x8 _ => (l477 x8 x1 x2 x5 x7)) x4)) x3)) x0)) := by intro t; cases t <;> (intros; rfl)
noncomputable def l479 : t152 := (fun x0 => (@Option.rec t148 (fun _ => t149) (fun _ => none) (fun x1 x2 => (l478 x1 x2)) x0))
theorem l479_eq : ∀ x0 x1, (Eq (l479 x0 x1) (@methV._sparseCasesOn_2 t148 (fun _ => t137) x0 (fun x2 => (l478 x2 x1)) (fun _ => none))) := by intro t; cases t <;> (intros; rfl)
noncomputable def l480 : t146 := (fun x0 => (@List.rec SD (fun _ => t145) (fun x1 x2 x3 x4 => (some (x2, (x4, (x1, x3))))) (fun _ _ _ _ _ _ _ => none) x0))
theorem l480_eq : ∀ x0 x1 x2 x3 x4, (Eq (l480 x0 x1 x2 x3 x4) (@methV._sparseCasesOn_1 SD (fun _ => t137) x0 (some (x2, (x4, (x1, x3)))) (fun _ => none))) := by intro t; cases t <;> (intros; rfl)
noncomputable def l481 : t150 := (fun x0 => (@Prod.rec Ex t147 (fun _ => t149) (fun x1 x2 x3 => (@Prod.rec Fr S (fun _ => t137) (fun x4 x5 => (@Fr.rec (fun _ => t137) (fun _ x7 x8 _ => (l480 x8 x3 x1 x5 x7)) x4)) x2)) x0))
theorem l481_eq : ∀ x0 x1, (Eq (l481 x0 x1) (@Prod.rec Ex t147 (fun _ => t137) (fun x2 x3 => (@Prod.rec Fr S (fun _ => t137) (fun x4 x5 => (@Fr.rec (fun _ => t137) (fun _ x7 x8 _ => (l480 x8 x1 x2 x5 x7)) x4)) x3)) x0)) := by intro t; cases t <;> (intros; rfl)
noncomputable def l482 : t152 := (fun x0 => (@Option.rec t148 (fun _ => t149) (fun _ => none) (fun x1 x2 => (l481 x1 x2)) x0))
theorem l482_eq : ∀ x0 x1, (Eq (l482 x0 x1) (@methV._sparseCasesOn_2 t148 (fun _ => t137) x0 (fun x2 => (l481 x2 x1)) (fun _ => none))) := by intro t; cases t <;> (intros; rfl)
abbrev t1181 : Type := Code → t1158
abbrev t1182 : Type := Nat → t1181
abbrev t1183 : Type := Run → t1182
abbrev t1184 : Type := Program → t1183
noncomputable def k_codeD : t1184 := (fun x0 x1 x2 x3 x4 x5 x6 => (@Code.rec (fun _ => t1161) (fun _ x8 x9 x10 x11 x12 => (l35 (Run.code x8 Code.skip (Fr.mk x9 x10 [] none) x12) x11)) (fun x7 x8 x9 x10 x11 x12 x13 x14 x15 => (l447 x9 x10 x11 x12 x13 x14 x15 x7 x8 x9)) (fun _ _ x9 x10 x11 x12 x13 x14 x15 x16 => (l452 (x9 x11 x12 x13 x14 x15 x16) x11 x12 x13 x14 x15 x16 x9 x10)) (fun x7 _ _ x10 x11 x12 x13 x14 x15 x16 x17 => (l455 (k_ev x15 x7) x12 x13 x14 x15 x16 x17 x10 x11)) (fun x7 x8 _ _ x11 x12 x13 x14 x15 => (l458 (Run.code x11 (Code.block x7 x8) (Fr.mk x12 x13 [] none) x15) x14)) (fun x7 _ _ x10 x11 x12 x13 x14 => (l461 (Run.code x10 (Code.loop x7) (Fr.mk x11 x12 [] none) x14) x13)) (fun x7 x8 x9 x10 _ _ _ x14 x15 x16 x17 x18 => (l464 (Run.code x14 (Code.rangeFunc x7 x8 x9 x10) (Fr.mk x15 x16 [] none) x18) x17)) (fun x7 _ x9 x10 x11 x12 x13 => (l467 (Run.code x9 (Code.exit x7) (Fr.mk x10 x11 [] none) x13) x12)) (fun x7 _ _ x10 x11 x12 x13 x14 => (l470 (Run.code x10 (Code.scope x7) (Fr.mk x11 x12 [] none) x14) x13)) (fun x7 _ x9 x10 x11 x12 x13 => (l473 (Run.code x9 (Code.label x7) (Fr.mk x10 x11 [] none) x13) x12)) (fun x7 _ x9 x10 x11 x12 x13 => (l476 (Run.code x9 (Code.goto x7) (Fr.mk x10 x11 [] none) x13) x12)) (fun _ x8 x9 x10 x11 x12 => (l479 (Run.code x8 Code.ret (Fr.mk x9 x10 [] none) x12) x11)) (fun x7 _ x9 x10 x11 x12 x13 => (l482 (Run.code x9 (Code.refuse x7) (Fr.mk x10 x11 [] none) x13) x12)) x3 x0 x1 x2 x4 x5 x6))
theorem k_codeD_law : ∀ x0 x1 x2 x3 x4 x5 x6, (Eq (k_codeD x1 x2 x3 x0 x4 x5 x6) (codeD x1 x2 x3 x0 x4 x5 x6)) := by
  intro t
  induction t with
  | skip  =>
    intro z0 z1 z2 z3 z4 z5
    show ((fun (_ : Program) (x1 : Run) (x2 : Nat) (x3 : t14) (x4 : Dm) (x5 : S) => (l35 (Run.code x1 Code.skip (Fr.mk x2 x3 [] none) x5) x4)) z0 z1 z2 z3 z4 z5) = _
    conv => rhs; rw [Ev.codeD.eq_def]
    try simp only [l33_eq, l34_eq, l35_eq]
    all_goals kernel_rfl
  | region y0 y1 y2 =>
    intro z0 z1 z2 z3 z4 z5
    show ((fun (x0 : Nat) (x1 : (Array Oper)) (x2 : Bool) (x3 : Program) (x4 : Run) (x5 : Nat) (x6 : t14) (x7 : Dm) (x8 : S) => (l447 x2 x3 x4 x5 x6 x7 x8 x0 x1 x2)) y0 y1 y2 z0 z1 z2 z3 z4 z5) = _
    conv => rhs; rw [Ev.codeD.eq_def]
    try simp only [l41_eq, l39_eq, l447_eq, l38_eq, l40_eq, l36_eq, l43_eq, l37_eq, l42_eq]
    try rw [k_regR_eq]
    try rw [k_hasRec_eq]
    all_goals kernel_rfl
  | seq y0 y1 ih0 ih1 =>
    intro z0 z1 z2 z3 z4 z5
    have e0 : (fun (x0 : Program) (x1 : Run) (x2 : Nat) (x3 : t14) (x4 : Dm) (x5 : S) => (k_codeD x0 x1 x2 y0 x3 x4 x5)) = (fun (x0 : Program) (x1 : Run) (x2 : Nat) (x3 : t14) (x4 : Dm) (x5 : S) => (codeD x0 x1 x2 y0 x3 x4 x5)) := by
      funext z0 z1 z2 z3 z4 z5; exact ih0 z0 z1 z2 z3 z4 z5
    have e1 : (fun (x0 : Program) (x1 : Run) (x2 : Nat) (x3 : t14) (x4 : Dm) (x5 : S) => (k_codeD x0 x1 x2 y1 x3 x4 x5)) = (fun (x0 : Program) (x1 : Run) (x2 : Nat) (x3 : t14) (x4 : Dm) (x5 : S) => (codeD x0 x1 x2 y1 x3 x4 x5)) := by
      funext z0 z1 z2 z3 z4 z5; exact ih1 z0 z1 z2 z3 z4 z5
    show ((fun (_ : Code) (_ : Code) (x2 : t1161) (x3 : t1161) (x4 : Program) (x5 : Run) (x6 : Nat) (x7 : t14) (x8 : Dm) (x9 : S) => (l452 (x2 x4 x5 x6 x7 x8 x9) x4 x5 x6 x7 x8 x9 x2 x3)) y0 y1 (fun (x0 : Program) (x1 : Run) (x2 : Nat) (x3 : t14) (x4 : Dm) (x5 : S) => (k_codeD x0 x1 x2 y0 x3 x4 x5)) (fun (x0 : Program) (x1 : Run) (x2 : Nat) (x3 : t14) (x4 : Dm) (x5 : S) => (k_codeD x0 x1 x2 y1 x3 x4 x5)) z0 z1 z2 z3 z4 z5) = _
    rw [e0, e1]
    conv => rhs; rw [Ev.codeD.eq_def]
    try simp only [l451_eq, l452_eq]
    all_goals kernel_rfl
  | cond y0 y1 y2 ih0 ih1 =>
    intro z0 z1 z2 z3 z4 z5
    have e0 : (fun (x0 : Program) (x1 : Run) (x2 : Nat) (x3 : t14) (x4 : Dm) (x5 : S) => (k_codeD x0 x1 x2 y1 x3 x4 x5)) = (fun (x0 : Program) (x1 : Run) (x2 : Nat) (x3 : t14) (x4 : Dm) (x5 : S) => (codeD x0 x1 x2 y1 x3 x4 x5)) := by
      funext z0 z1 z2 z3 z4 z5; exact ih0 z0 z1 z2 z3 z4 z5
    have e1 : (fun (x0 : Program) (x1 : Run) (x2 : Nat) (x3 : t14) (x4 : Dm) (x5 : S) => (k_codeD x0 x1 x2 y2 x3 x4 x5)) = (fun (x0 : Program) (x1 : Run) (x2 : Nat) (x3 : t14) (x4 : Dm) (x5 : S) => (codeD x0 x1 x2 y2 x3 x4 x5)) := by
      funext z0 z1 z2 z3 z4 z5; exact ih1 z0 z1 z2 z3 z4 z5
    show ((fun (x0 : Operand) (_ : Code) (_ : Code) (x3 : t1161) (x4 : t1161) (x5 : Program) (x6 : Run) (x7 : Nat) (x8 : t14) (x9 : Dm) (x10 : S) => (l455 (k_ev x8 x0) x5 x6 x7 x8 x9 x10 x3 x4)) y0 y1 y2 (fun (x0 : Program) (x1 : Run) (x2 : Nat) (x3 : t14) (x4 : Dm) (x5 : S) => (k_codeD x0 x1 x2 y1 x3 x4 x5)) (fun (x0 : Program) (x1 : Run) (x2 : Nat) (x3 : t14) (x4 : Dm) (x5 : S) => (k_codeD x0 x1 x2 y2 x3 x4 x5)) z0 z1 z2 z3 z4 z5) = _
    rw [e0, e1]
    conv => rhs; rw [Ev.codeD.eq_def]
    try simp only [l454_eq, l453_eq, l455_eq]
    try rw [k_ev_eq]
    all_goals kernel_rfl
  | block y0 y1 ih0 =>
    intro z0 z1 z2 z3 z4 z5
    have e0 : (fun (x0 : Program) (x1 : Run) (x2 : Nat) (x3 : t14) (x4 : Dm) (x5 : S) => (k_codeD x0 x1 x2 y1 x3 x4 x5)) = (fun (x0 : Program) (x1 : Run) (x2 : Nat) (x3 : t14) (x4 : Dm) (x5 : S) => (codeD x0 x1 x2 y1 x3 x4 x5)) := by
      funext z0 z1 z2 z3 z4 z5; exact ih0 z0 z1 z2 z3 z4 z5
    show ((fun (x0 : Nat) (x1 : Code) (_ : t1161) (_ : Program) (x4 : Run) (x5 : Nat) (x6 : t14) (x7 : Dm) (x8 : S) => (l458 (Run.code x4 (Code.block x0 x1) (Fr.mk x5 x6 [] none) x8) x7)) y0 y1 (fun (x0 : Program) (x1 : Run) (x2 : Nat) (x3 : t14) (x4 : Dm) (x5 : S) => (k_codeD x0 x1 x2 y1 x3 x4 x5)) z0 z1 z2 z3 z4 z5) = _
    rw [e0]
    conv => rhs; rw [Ev.codeD.eq_def]
    try simp only [l458_eq, l457_eq, l456_eq]
    all_goals kernel_rfl
  | loop y0 ih0 =>
    intro z0 z1 z2 z3 z4 z5
    have e0 : (fun (x0 : Program) (x1 : Run) (x2 : Nat) (x3 : t14) (x4 : Dm) (x5 : S) => (k_codeD x0 x1 x2 y0 x3 x4 x5)) = (fun (x0 : Program) (x1 : Run) (x2 : Nat) (x3 : t14) (x4 : Dm) (x5 : S) => (codeD x0 x1 x2 y0 x3 x4 x5)) := by
      funext z0 z1 z2 z3 z4 z5; exact ih0 z0 z1 z2 z3 z4 z5
    show ((fun (x0 : Code) (_ : t1161) (_ : Program) (x3 : Run) (x4 : Nat) (x5 : t14) (x6 : Dm) (x7 : S) => (l461 (Run.code x3 (Code.loop x0) (Fr.mk x4 x5 [] none) x7) x6)) y0 (fun (x0 : Program) (x1 : Run) (x2 : Nat) (x3 : t14) (x4 : Dm) (x5 : S) => (k_codeD x0 x1 x2 y0 x3 x4 x5)) z0 z1 z2 z3 z4 z5) = _
    rw [e0]
    conv => rhs; rw [Ev.codeD.eq_def]
    try simp only [l460_eq, l461_eq, l459_eq]
    all_goals kernel_rfl
  | rangeFunc y0 y1 y2 y3 ih0 ih1 =>
    intro z0 z1 z2 z3 z4 z5
    have e0 : (fun (x0 : Program) (x1 : Run) (x2 : Nat) (x3 : t14) (x4 : Dm) (x5 : S) => (k_codeD x0 x1 x2 y2 x3 x4 x5)) = (fun (x0 : Program) (x1 : Run) (x2 : Nat) (x3 : t14) (x4 : Dm) (x5 : S) => (codeD x0 x1 x2 y2 x3 x4 x5)) := by
      funext z0 z1 z2 z3 z4 z5; exact ih0 z0 z1 z2 z3 z4 z5
    have e1 : (fun (x0 : Program) (x1 : Run) (x2 : Nat) (x3 : t14) (x4 : Dm) (x5 : S) => (k_codeD x0 x1 x2 y3 x3 x4 x5)) = (fun (x0 : Program) (x1 : Run) (x2 : Nat) (x3 : t14) (x4 : Dm) (x5 : S) => (codeD x0 x1 x2 y3 x3 x4 x5)) := by
      funext z0 z1 z2 z3 z4 z5; exact ih1 z0 z1 z2 z3 z4 z5
    show ((fun (x0 : Operand) (x1 : (Array Tmp)) (x2 : Code) (x3 : Code) (_ : t1161) (_ : t1161) (_ : Program) (x7 : Run) (x8 : Nat) (x9 : t14) (x10 : Dm) (x11 : S) => (l464 (Run.code x7 (Code.rangeFunc x0 x1 x2 x3) (Fr.mk x8 x9 [] none) x11) x10)) y0 y1 y2 y3 (fun (x0 : Program) (x1 : Run) (x2 : Nat) (x3 : t14) (x4 : Dm) (x5 : S) => (k_codeD x0 x1 x2 y2 x3 x4 x5)) (fun (x0 : Program) (x1 : Run) (x2 : Nat) (x3 : t14) (x4 : Dm) (x5 : S) => (k_codeD x0 x1 x2 y3 x3 x4 x5)) z0 z1 z2 z3 z4 z5) = _
    rw [e0, e1]
    conv => rhs; rw [Ev.codeD.eq_def]
    try simp only [l463_eq, l464_eq, l462_eq]
    all_goals kernel_rfl
  | exit y0 =>
    intro z0 z1 z2 z3 z4 z5
    show ((fun (x0 : Nat) (_ : Program) (x2 : Run) (x3 : Nat) (x4 : t14) (x5 : Dm) (x6 : S) => (l467 (Run.code x2 (Code.exit x0) (Fr.mk x3 x4 [] none) x6) x5)) y0 z0 z1 z2 z3 z4 z5) = _
    conv => rhs; rw [Ev.codeD.eq_def]
    try simp only [l467_eq, l466_eq, l465_eq]
    all_goals kernel_rfl
  | scope y0 ih0 =>
    intro z0 z1 z2 z3 z4 z5
    have e0 : (fun (x0 : Program) (x1 : Run) (x2 : Nat) (x3 : t14) (x4 : Dm) (x5 : S) => (k_codeD x0 x1 x2 y0 x3 x4 x5)) = (fun (x0 : Program) (x1 : Run) (x2 : Nat) (x3 : t14) (x4 : Dm) (x5 : S) => (codeD x0 x1 x2 y0 x3 x4 x5)) := by
      funext z0 z1 z2 z3 z4 z5; exact ih0 z0 z1 z2 z3 z4 z5
    show ((fun (x0 : Code) (_ : t1161) (_ : Program) (x3 : Run) (x4 : Nat) (x5 : t14) (x6 : Dm) (x7 : S) => (l470 (Run.code x3 (Code.scope x0) (Fr.mk x4 x5 [] none) x7) x6)) y0 (fun (x0 : Program) (x1 : Run) (x2 : Nat) (x3 : t14) (x4 : Dm) (x5 : S) => (k_codeD x0 x1 x2 y0 x3 x4 x5)) z0 z1 z2 z3 z4 z5) = _
    rw [e0]
    conv => rhs; rw [Ev.codeD.eq_def]
    try simp only [l468_eq, l469_eq, l470_eq]
    all_goals kernel_rfl
  | label y0 =>
    intro z0 z1 z2 z3 z4 z5
    show ((fun (x0 : Nat) (_ : Program) (x2 : Run) (x3 : Nat) (x4 : t14) (x5 : Dm) (x6 : S) => (l473 (Run.code x2 (Code.label x0) (Fr.mk x3 x4 [] none) x6) x5)) y0 z0 z1 z2 z3 z4 z5) = _
    conv => rhs; rw [Ev.codeD.eq_def]
    try simp only [l471_eq, l473_eq, l472_eq]
    all_goals kernel_rfl
  | goto y0 =>
    intro z0 z1 z2 z3 z4 z5
    show ((fun (x0 : Nat) (_ : Program) (x2 : Run) (x3 : Nat) (x4 : t14) (x5 : Dm) (x6 : S) => (l476 (Run.code x2 (Code.goto x0) (Fr.mk x3 x4 [] none) x6) x5)) y0 z0 z1 z2 z3 z4 z5) = _
    conv => rhs; rw [Ev.codeD.eq_def]
    try simp only [l475_eq, l474_eq, l476_eq]
    all_goals kernel_rfl
  | ret  =>
    intro z0 z1 z2 z3 z4 z5
    show ((fun (_ : Program) (x1 : Run) (x2 : Nat) (x3 : t14) (x4 : Dm) (x5 : S) => (l479 (Run.code x1 Code.ret (Fr.mk x2 x3 [] none) x5) x4)) z0 z1 z2 z3 z4 z5) = _
    conv => rhs; rw [Ev.codeD.eq_def]
    try simp only [l479_eq, l477_eq, l478_eq]
    all_goals kernel_rfl
  | refuse y0 =>
    intro z0 z1 z2 z3 z4 z5
    show ((fun (x0 : String) (_ : Program) (x2 : Run) (x3 : Nat) (x4 : t14) (x5 : Dm) (x6 : S) => (l482 (Run.code x2 (Code.refuse x0) (Fr.mk x3 x4 [] none) x6) x5)) y0 z0 z1 z2 z3 z4 z5) = _
    conv => rhs; rw [Ev.codeD.eq_def]
    try simp only [l482_eq, l480_eq, l481_eq]
    all_goals kernel_rfl
theorem k_codeD_eq : @k_codeD = codeD := by
  funext a0 a1 a2 a3 a4 a5 a6; exact k_codeD_law a3 a0 a1 a2 a4 a5 a6
abbrev t1185 : Type := Code → t122
abbrev t1186 : Type := Func → t1185
abbrev t1187 : Type := S → t1186
abbrev t1188 : Type := t81 → t1187
abbrev t1189 : Type := t7 → t1188
abbrev t1190 : Type := FuncId → t1189
abbrev t1191 : Type := Run → t1190
abbrev t1192 : Type := Program → t1191
abbrev t1193 : Type := t165 → t1192
noncomputable def l32 : t1193 := (fun x0 => (@Option.rec t14 (fun _ => t1192) (fun _ _ _ _ _ _ _ _ => none) (fun x1 x2 x3 x4 x5 x6 x7 x8 x9 => (@Bool.rec (fun _ => t122) none (l31 (k_codeD x2 x3 (Func.ntmps x8) x9 x1 (Dm.mk x6 Bool.false) x7) x2 x8) (@Bool.rec (fun _ => Bool) Bool.false (Nat.ble (k_len x5) (Func.ntmps x8)) (fnOk x2 x4)))) x0))
theorem l32_eq : ∀ x0 x1 x2 x3 x4 x5 x6 x7 x8, (Eq (l32 x0 x1 x2 x3 x4 x5 x6 x7 x8) (@methV._sparseCasesOn_2 t14 (fun _ => t122) x0 (fun x9 => (@Bool.rec (fun _ => t122) none (l31 (k_codeD x1 x2 (Func.ntmps x7) x8 x9 (Dm.mk x5 Bool.false) x6) x1 x7) (@Bool.rec (fun _ => Bool) Bool.false (Nat.ble (k_len x4) (Func.ntmps x7)) (fnOk x1 x3)))) (fun _ => none))) := by intro t; cases t <;> (intros; rfl)
abbrev t1194 : Type := Nat → t166
abbrev t1195 : Type := t7 → t166
abbrev t1196 : Type := Nat → t1195
noncomputable def k_setArgs : t1196 := (fun x0 x1 x2 => (@List.rec CV (fun _ => t1194) (fun _ x4 => (some x4)) (fun x3 _ x5 x6 x7 => (@Option.rec t14 (fun _ => t165) none (fun x8 => (x5 (Nat.add x6 (nat_lit 1)) x8)) (setCV (nat_lit 24) x7 x6 (some x3)))) x1 x0 x2))
theorem k_setArgs_law : ∀ x0 x1 x2, (Eq (k_setArgs x1 x0 x2) (setArgs x1 x0 x2)) := by
  intro t
  induction t with
  | nil  =>
    intro z0 z1
    show ((fun (_ : Nat) (x1 : t14) => (some x1)) z0 z1) = _
    conv => rhs; rw [Ev.setArgs.eq_def]
    all_goals kernel_rfl
  | cons y0 y1 ih0 =>
    intro z0 z1
    have e0 : (fun (x0 : Nat) (x1 : t14) => (k_setArgs x0 y1 x1)) = (fun (x0 : Nat) (x1 : t14) => (setArgs x0 y1 x1)) := by
      funext z0 z1; exact ih0 z0 z1
    show ((fun (x0 : CV) (_ : t7) (x2 : t1194) (x3 : Nat) (x4 : t14) => (@Option.rec t14 (fun (_ : t165) => t165) none (fun (x5 : t14) => (x2 (Nat.add x3 (nat_lit 1)) x5)) (setCV (nat_lit 24) x4 x3 (some x0)))) y0 y1 (fun (x0 : Nat) (x1 : t14) => (k_setArgs x0 y1 x1)) z0 z1) = _
    rw [e0]
    conv => rhs; rw [Ev.setArgs.eq_def]
    try rw [setCV_eq]
    all_goals kernel_rfl
theorem k_setArgs_eq : @k_setArgs = setArgs := by
  funext a0 a1 a2; exact k_setArgs_law a1 a0 a2
abbrev t1197 : Type := Option Code
abbrev t1198 : Type := S → t138
abbrev t1199 : Type := t81 → t1198
abbrev t1200 : Type := t7 → t1199
abbrev t1201 : Type := FuncId → t1200
abbrev t1202 : Type := Run → t1201
abbrev t1203 : Type := Program → t1202
abbrev t1204 : Type := t1197 → t1203
noncomputable def l483 : t1204 := (fun x0 => (@Option.rec Code (fun _ => t1203) (fun _ _ _ _ _ _ _ => none) (fun x1 x2 x3 x4 x5 x6 x7 x8 => (l32 (k_setArgs (nat_lit 0) x5 (@Tr.nil CV)) x2 x3 x4 x5 x6 x7 x8 x1)) x0))
theorem l483_eq : ∀ x0 x1 x2 x3 x4 x5 x6 x7, (Eq (l483 x0 x1 x2 x3 x4 x5 x6 x7) (@methV._sparseCasesOn_2 Code (fun _ => t122) x0 (fun x8 => (l32 (k_setArgs (nat_lit 0) x4 (@Tr.nil CV)) x1 x2 x3 x4 x5 x6 x7 x8)) (fun _ => none))) := by intro t; cases t <;> (intros; rfl)
abbrev t1205 : Type := S → t122
abbrev t1206 : Type := t81 → t1205
abbrev t1207 : Type := t7 → t1206
abbrev t1208 : Type := FuncId → t1207
abbrev t1209 : Type := Run → t1208
abbrev t1210 : Type := Program → t1209
noncomputable def k_callD : t1210 := (fun x0 x1 x2 x3 x4 x5 => (@Option.rec Func (fun _ => t122) none (fun x6 => ((fun x7 => (l483 (Func.body x7) x0 x1 x2 x3 x4 x5 x7)) x6)) (@GetElem?.getElem? (Array Func) FuncId Func (fun x6 x7 => (@LT.lt Nat instLTNat x7 (@Array.size Func x6))) (@Array.instGetElem?NatLtSize Func) (Program.funcs x0) x2)))
theorem k_callD_eq : @k_callD = callD := by
  delta k_callD callD
  simp only [l26_eq, l27_eq, l28_eq, l483_eq, l30_eq, l31_eq, l29_eq, l32_eq, l25_eq, l24_eq]
  rw [k_resV_eq, k_tupV_eq, k_len_eq, k_codeD_eq, k_setArgs_eq]
  all_goals kernel_rfl

abbrev t1211 : Type := t105 → t689
abbrev t1212 : Type := S → t1211
abbrev t1213 : Type := t81 → t1212
abbrev t1214 : Type := t14 → t1213
abbrev t1215 : Type := Func → t1214
abbrev t1216 : Type := Run → t1215
abbrev t1217 : Type := Program → t1216
abbrev t1218 : Type := t31 → t1217
noncomputable def l23 : t1218 := (fun x0 => (@Option.rec t7 (fun _ => t1217) (fun _ _ _ _ _ _ _ _ => none) (fun x1 x2 x3 x4 x5 x6 x7 x8 x9 => (@Option.rec t114 (fun _ => t4) none (fun x10 => (l22 x10 x2 x3 x4 x5 x6 x8)) (k_callD x2 x3 x9 x1 x6 x7))) x0))
theorem l23_eq : ∀ x0 x1 x2 x3 x4 x5 x6 x7 x8, (Eq (l23 x0 x1 x2 x3 x4 x5 x6 x7 x8) (@Option.rec t7 (fun _ => t4) none (fun x9 => (@Option.rec t114 (fun _ => t4) none (fun x10 => (l22 x10 x1 x2 x3 x4 x5 x7)) (k_callD x1 x2 x8 x9 x5 x6))) x0)) := by intro t; cases t <;> (intros; rfl)
abbrev t1219 : Type := S → t115
abbrev t1220 : Type := t81 → t1219
abbrev t1221 : Type := t14 → t1220
abbrev t1222 : Type := Func → t1221
abbrev t1223 : Type := Run → t1222
abbrev t1224 : Type := Program → t1223
abbrev t1225 : Type := SD → t1224
noncomputable def l484 : t1225 := (fun x0 => (@SD.rec (fun _ => t1224) (fun x1 x2 x3 x4 x5 x6 x7 x8 => (k_rd_Ret x7 x1 (fun x9 x10 => (l19 x9 x2 x3 x4 x5 x6 x8 x1 x10)))) (fun x1 x2 x3 x4 x5 x6 x7 x8 x9 x10 => (l23 (k_cat_CV x2 x3) x4 x5 x6 x7 x8 x9 x10 x1)) x0))
theorem l484_eq : ∀ x0 x1 x2 x3 x4 x5 x6 x7, (Eq (l484 x0 x1 x2 x3 x4 x5 x6 x7) (@SD.rec (fun _ => t4) (fun x8 => (k_rd_Ret x6 x8 (fun x9 x10 => (l19 x9 x1 x2 x3 x4 x5 x7 x8 x10)))) (fun x8 x9 x10 => (l23 (k_cat_CV x9 x10) x1 x2 x3 x4 x5 x6 x7 x8)) x0)) := by intro t; cases t <;> (intros; rfl)
abbrev t1226 : Type := t141 → t101
abbrev t1227 : Type := t14 → t1226
abbrev t1228 : Type := Func → t1227
abbrev t1229 : Type := Run → t1228
abbrev t1230 : Type := Program → t1229
noncomputable def k_leave : t1230 := (fun x0 x1 x2 x3 x4 x5 x6 => (@List.rec SD (fun _ => t105) (fun x7 _ x9 x10 x11 x12 => (@Option.rec CV (fun _ => t4) (k_resV x7 x10 (@Array.toList ResultVar (Func.results x9)) x12 (fun x13 x14 => (some (Ret.ok (k_tupV x13) x14)))) (fun x13 => (some (Ret.pan x13 x12))) x11)) (fun x7 _ x9 x10 x11 x12 x13 x14 x15 => (l484 x7 x10 x11 x12 x13 x14 x15 x9)) x4 x0 x1 x2 x3 x5 x6))
theorem k_leave_law : ∀ x0 x1 x2 x3 x4 x5 x6, (Eq (k_leave x1 x2 x3 x4 x0 x5 x6) (leave x1 x2 x3 x4 x0 x5 x6)) := by
  intro t
  induction t with
  | nil  =>
    intro z0 z1 z2 z3 z4 z5
    show ((fun (x0 : Program) (_ : Run) (x2 : Func) (x3 : t14) (x4 : t81) (x5 : S) => (@Option.rec CV (fun (_ : t81) => t4) (k_resV x0 x3 (@Array.toList ResultVar (Func.results x2)) x5 (fun (x6 : t7) (x7 : S) => (some (Ret.ok (k_tupV x6) x7)))) (fun (x6 : CV) => (some (Ret.pan x6 x5))) x4)) z0 z1 z2 z3 z4 z5) = _
    conv => rhs; rw [Ev.leave.eq_def]
    try rw [k_resV_eq]
    try rw [k_tupV_eq]
    all_goals kernel_rfl
  | cons y0 y1 ih0 =>
    intro z0 z1 z2 z3 z4 z5
    have e0 : (fun (x0 : Program) (x1 : Run) (x2 : Func) (x3 : t14) (x4 : t81) (x5 : S) => (k_leave x0 x1 x2 x3 y1 x4 x5)) = (fun (x0 : Program) (x1 : Run) (x2 : Func) (x3 : t14) (x4 : t81) (x5 : S) => (leave x0 x1 x2 x3 y1 x4 x5)) := by
      funext z0 z1 z2 z3 z4 z5; exact ih0 z0 z1 z2 z3 z4 z5
    show ((fun (x0 : SD) (_ : t141) (x2 : t105) (x3 : Program) (x4 : Run) (x5 : Func) (x6 : t14) (x7 : t81) (x8 : S) => (l484 x0 x3 x4 x5 x6 x7 x8 x2)) y0 y1 (fun (x0 : Program) (x1 : Run) (x2 : Func) (x3 : t14) (x4 : t81) (x5 : S) => (k_leave x0 x1 x2 x3 y1 x4 x5)) z0 z1 z2 z3 z4 z5) = _
    rw [e0]
    conv => rhs; rw [Ev.leave.eq_def]
    try simp only [l23_eq, l484_eq, l19_eq, l22_eq]
    try rw [k_wr_Ret_eq]
    try rw [k_callD_eq]
    try rw [k_cat_CV_eq]
    try rw [k_rd_Ret_eq]
    all_goals kernel_rfl
theorem k_leave_eq : @k_leave = leave := by
  funext a0 a1 a2 a3 a4 a5 a6; exact k_leave_law a4 a0 a1 a2 a3 a5 a6
abbrev t1231 : Type := Func → t8
abbrev t1232 : Type := Run → t1231
abbrev t1233 : Type := Program → t1232
abbrev t1234 : Type := Fr → t1233
noncomputable def l6 : t1234 := (fun x0 => (@Fr.rec (fun _ => t1233) (fun x1 x2 x3 x4 x5 x6 x7 x8 => ((fun _ x10 x11 _ x13 => (k_leave x5 x6 x7 x10 x11 none x13)) x1 x2 x3 x4 x8)) x0))
theorem l6_eq : ∀ x0 x1 x2 x3 x4, (Eq (l6 x0 x1 x2 x3 x4) (@Fr.rec (fun _ => t4) (fun x5 x6 x7 x8 => ((fun _ x10 x11 _ x13 => (k_leave x1 x2 x3 x10 x11 none x13)) x5 x6 x7 x8 x4)) x0)) := by intro t; cases t <;> (intros; rfl)
noncomputable def l485 : t1234 := (fun x0 => (@Fr.rec (fun _ => t1233) (fun x1 x2 x3 x4 x5 x6 x7 x8 => ((fun _ x10 x11 _ x13 => (k_leave x5 x6 x7 x10 x11 none x13)) x1 x2 x3 x4 x8)) x0))
theorem l485_eq : ∀ x0 x1 x2 x3 x4, (Eq (l485 x0 x1 x2 x3 x4) (@Fr.rec (fun _ => t4) (fun x5 x6 x7 x8 => ((fun _ x10 x11 _ x13 => (k_leave x1 x2 x3 x10 x11 none x13)) x5 x6 x7 x8 x4)) x0)) := by intro t; cases t <;> (intros; rfl)
abbrev t1235 : Type := Func → t186
abbrev t1236 : Type := Run → t1235
abbrev t1237 : Type := Program → t1236
abbrev t1238 : Type := Fr → t1237
noncomputable def l486 : t1238 := (fun x0 => (@Fr.rec (fun _ => t1237) (fun x1 x2 x3 x4 x5 x6 x7 x8 x9 => ((fun x10 _ x12 x13 _ x15 => (k_leave x5 x6 x7 x12 x13 (some x10) x15)) x8 x1 x2 x3 x4 x9)) x0))
theorem l486_eq : ∀ x0 x1 x2 x3 x4 x5, (Eq (l486 x0 x1 x2 x3 x4 x5) (@Fr.rec (fun _ => t4) (fun x6 x7 x8 x9 => ((fun x10 _ x12 x13 _ x15 => (k_leave x1 x2 x3 x12 x13 (some x10) x15)) x4 x6 x7 x8 x9 x5)) x0)) := by intro t; cases t <;> (intros; rfl)
abbrev t1239 : Type := t147 → t4
abbrev t1240 : Type := Func → t1239
abbrev t1241 : Type := Run → t1240
abbrev t1242 : Type := Program → t1241
abbrev t1243 : Type := Ex → t1242
noncomputable def l487 : t1243 := (fun x0 => (@Ex.rec (fun _ => t1242) (fun x1 x2 x3 x4 => (@Prod.rec Fr S (fun _ => t4) (fun x5 x6 => (l6 x5 x1 x2 x3 x6)) x4)) (fun _ _ _ _ _ => none) (fun x1 x2 x3 x4 => (@Prod.rec Fr S (fun _ => t4) (fun x5 x6 => (l485 x5 x1 x2 x3 x6)) x4)) (fun x1 x2 x3 x4 x5 => (@Prod.rec Fr S (fun _ => t4) (fun x6 x7 => (l486 x6 x2 x3 x4 x1 x7)) x5)) x0))
theorem l487_eq : ∀ x0 x1 x2 x3 x4, (Eq (l487 x0 x1 x2 x3 x4) (@callN._sparseCasesOn_1 (fun _ => t4) x0 (@Prod.rec Fr S (fun _ => t4) (fun x5 x6 => (l6 x5 x1 x2 x3 x6)) x4) (@Prod.rec Fr S (fun _ => t4) (fun x5 x6 => (l485 x5 x1 x2 x3 x6)) x4) (fun x5 => (@Prod.rec Fr S (fun _ => t4) (fun x6 x7 => (l486 x6 x1 x2 x3 x5 x7)) x4)) (fun _ => none))) := by intro t; cases t <;> (intros; rfl)
abbrev t1244 : Type := Func → t4
abbrev t1245 : Type := Run → t1244
abbrev t1246 : Type := Program → t1245
abbrev t1247 : Type := t151 → t1246
noncomputable def l488 : t1247 := (fun x0 => (@Option.rec t148 (fun _ => t1246) (fun _ _ _ => none) (fun x1 x2 x3 x4 => (@Prod.rec Ex t147 (fun _ => t4) (fun x5 x6 => (l487 x5 x2 x3 x4 x6)) x1)) x0))
theorem l488_eq : ∀ x0 x1 x2 x3, (Eq (l488 x0 x1 x2 x3) (@methV._sparseCasesOn_2 t148 (fun _ => t4) x0 (fun x4 => (@Prod.rec Ex t147 (fun _ => t4) (fun x5 x6 => (l487 x5 x1 x2 x3 x6)) x4)) (fun _ => none))) := by intro t; cases t <;> (intros; rfl)
abbrev t1248 : Type := Code → t4
abbrev t1249 : Type := Func → t1248
abbrev t1250 : Type := S → t1249
abbrev t1251 : Type := t7 → t1250
abbrev t1252 : Type := FuncId → t1251
abbrev t1253 : Type := Run → t1252
abbrev t1254 : Type := Program → t1253
abbrev t1255 : Type := t165 → t1254
noncomputable def l489 : t1255 := (fun x0 => (@Option.rec t14 (fun _ => t1254) (fun _ _ _ _ _ _ _ => none) (fun x1 x2 x3 x4 x5 x6 x7 x8 => (@Bool.rec (fun _ => t4) none (l488 (Run.code x3 x8 (Fr.mk (Func.ntmps x7) x1 [] none) x6) x2 x3 x7) (@Bool.rec (fun _ => Bool) Bool.false (Nat.ble (k_len x5) (Func.ntmps x7)) (fnOk x2 x4)))) x0))
theorem l489_eq : ∀ x0 x1 x2 x3 x4 x5 x6 x7, (Eq (l489 x0 x1 x2 x3 x4 x5 x6 x7) (@methV._sparseCasesOn_2 t14 (fun _ => t4) x0 (fun x8 => (@Bool.rec (fun _ => t4) none (l488 (Run.code x2 x7 (Fr.mk (Func.ntmps x6) x8 [] none) x5) x1 x2 x6) (@Bool.rec (fun _ => Bool) Bool.false (Nat.ble (k_len x4) (Func.ntmps x6)) (fnOk x1 x3)))) (fun _ => none))) := by intro t; cases t <;> (intros; rfl)
abbrev t1256 : Type := S → t1244
abbrev t1257 : Type := t7 → t1256
abbrev t1258 : Type := FuncId → t1257
abbrev t1259 : Type := Run → t1258
abbrev t1260 : Type := Program → t1259
abbrev t1261 : Type := t1197 → t1260
noncomputable def l490 : t1261 := (fun x0 => (@Option.rec Code (fun _ => t1260) (fun _ _ _ _ _ _ => none) (fun x1 x2 x3 x4 x5 x6 x7 => (l489 (k_setArgs (nat_lit 0) x5 (@Tr.nil CV)) x2 x3 x4 x5 x6 x7 x1)) x0))
theorem l490_eq : ∀ x0 x1 x2 x3 x4 x5 x6, (Eq (l490 x0 x1 x2 x3 x4 x5 x6) (@methV._sparseCasesOn_2 Code (fun _ => t4) x0 (fun x7 => (l489 (k_setArgs (nat_lit 0) x4 (@Tr.nil CV)) x1 x2 x3 x4 x5 x6 x7)) (fun _ => none))) := by intro t; cases t <;> (intros; rfl)
abbrev t1262 : Type := FuncId → t9
abbrev t1263 : Type := Run → t1262
abbrev t1264 : Type := Program → t1263
noncomputable def k_callN : t1264 := (fun x0 x1 x2 x3 x4 => (@Option.rec Func (fun _ => t4) none (fun x5 => ((fun x6 => (l490 (Func.body x6) x0 x1 x2 x3 x4 x6)) x5)) (@GetElem?.getElem? (Array Func) FuncId Func (fun x5 x6 => (@LT.lt Nat instLTNat x6 (@Array.size Func x5))) (@Array.instGetElem?NatLtSize Func) (Program.funcs x0) x2)))
theorem k_callN_eq : @k_callN = callN := by
  delta k_callN callN
  simp only [l490_eq, l486_eq, l489_eq, l485_eq, l488_eq, l6_eq, l487_eq]
  rw [k_leave_eq, k_len_eq, k_setArgs_eq]
  all_goals kernel_rfl

abbrev t1265 : Type := t6 → t1263
abbrev t1266 : Type := Program → t1265
noncomputable def k_callT : t1266 := (fun x0 x1 x2 x3 x4 x5 => (@Bool.rec (fun _ => t4) (k_callN x0 x2 x3 x4 x5) (l5 x4 x5) (x1 x3)))
theorem k_callT_eq : @k_callT = callT := by
  delta k_callT callT
  simp only [l5_eq]
  rw [k_callN_eq]
  all_goals kernel_rfl

abbrev t1267 : Type := S → t151
abbrev t1268 : Type := Fr → t1267
abbrev t1269 : Type := t161 → t1268
abbrev t1270 : Type := Run → t1269
abbrev t1271 : Type := Program → t1270
abbrev t1272 : Type := t164 → t151
abbrev t1273 : Type := t141 → t1272
abbrev t1274 : Type := t14 → t1273
abbrev t1275 : Type := Nat → t1274
abbrev t1276 : Type := t1271 → t1275
abbrev t1277 : Type := Oper → t1276
abbrev t1278 : Type := t161 → t1277
abbrev t1279 : Type := Run → t1278
abbrev t1280 : Type := Program → t1279
abbrev t1281 : Type := Ret → t1280
noncomputable def l493 : t1281 := (fun x0 => (@Ret.rec (fun _ => t1280) (fun x1 x2 x3 x4 x5 x6 x7 x8 x9 x10 x11 => (@Option.rec t14 (fun _ => t151) none (fun x12 => (x7 x3 x4 x5 (Fr.mk x8 x12 x10 x11) x2)) (k_putE x8 (Oper.dst x6) x1 x9))) (fun x1 x2 _ _ _ _ _ x8 x9 x10 x11 => (some ((Ex.pan x1), ((Fr.mk x8 x9 x10 x11), x2)))) x0))
theorem l493_eq : ∀ x0 x1 x2 x3 x4 x5 x6 x7 x8 x9, (Eq (l493 x0 x1 x2 x3 x4 x5 x6 x7 x8 x9) (@Ret.rec (fun _ => t151) (fun x10 x11 => (@Option.rec t14 (fun _ => t151) none (fun x12 => (x5 x1 x2 x3 (Fr.mk x6 x12 x8 x9) x11)) (k_putE x6 (Oper.dst x4) x10 x7))) (fun x10 x11 => (some ((Ex.pan x10), ((Fr.mk x6 x7 x8 x9), x11)))) x0)) := by intro t; cases t <;> (intros; rfl)
abbrev t1282 : Type := Option SD
abbrev t1283 : Type := t164 → t1267
abbrev t1284 : Type := t141 → t1283
abbrev t1285 : Type := t14 → t1284
abbrev t1286 : Type := Nat → t1285
abbrev t1287 : Type := t1268 → t1286
abbrev t1288 : Type := Oper → t1287
abbrev t1289 : Type := t1282 → t1288
noncomputable def l495 : t1289 := (fun x0 => (@Option.rec SD (fun _ => t1288) (fun _ _ _ _ _ _ _ => none) (fun x1 x2 x3 x4 x5 x6 x7 x8 => ((fun x9 => (@Option.rec t14 (fun _ => t151) none (fun x10 => ((fun x11 => (x3 (Fr.mk x4 x11 (x9 :: x6) x7) x8)) x10)) (k_putE x4 (Oper.dst x2) (CV.tup []) x5))) x1)) x0))
theorem l495_eq : ∀ x0 x1 x2 x3 x4 x5 x6 x7, (Eq (l495 x0 x1 x2 x3 x4 x5 x6 x7) (@Option.rec SD (fun _ => t151) none (fun x8 => ((fun x9 => (@Option.rec t14 (fun _ => t151) none (fun x10 => ((fun x11 => (x2 (Fr.mk x3 x11 (x9 :: x5) x6) x7)) x10)) (k_putE x3 (Oper.dst x1) (CV.tup []) x4))) x8)) x0)) := by intro t; cases t <;> (intros; rfl)
abbrev t1290 : Type := t7 → t1282
abbrev t1291 : Type := t7 → t1290
abbrev t1292 : Type := FuncId → t1291
abbrev t1293 : Type := t31 → t1292
noncomputable def l497 : t1293 := (fun x0 => (@Option.rec t7 (fun _ => t1292) (fun _ _ _ => none) (fun x1 x2 x3 x4 => (@Option.rec t7 (fun _ => t1282) none (fun x5 => ((fun x6 => (some (SD.call x2 x6 x4))) x5)) (k_cat_CV x3 x1))) x0))
theorem l497_eq : ∀ x0 x1 x2 x3, (Eq (l497 x0 x1 x2 x3) (@methV._sparseCasesOn_2 t7 (fun _ => t1282) x0 (fun x4 => (@Option.rec t7 (fun _ => t1282) none (fun x5 => ((fun x6 => (some (SD.call x1 x6 x3))) x5)) (k_cat_CV x2 x4))) (fun _ => none))) := by intro t; cases t <;> (intros; rfl)
abbrev t1294 : Type := Call → t1282
abbrev t1295 : Type := t14 → t1294
abbrev t1296 : Type := CV → t1295
noncomputable def l498 : t1296 := (fun x0 => (@CV.rec (fun _ => t1295) (fun _ => PUnit.{1}) (fun _ _ => none) (fun _ _ _ => none) (fun _ _ _ _ => none) (fun _ _ _ _ _ _ _ => none) (fun _ _ => none) (fun _ _ _ => none) (fun _ _ _ _ => none) (fun _ _ _ _ => none) (fun x1 x2 x3 _ _ x6 x7 => (l497 (k_evs x6 (@Array.toList Operand (Call.args x7))) x1 x2 x3)) (fun _ _ _ => none) (fun _ _ _ _ _ => none) PUnit.unit.{1} (fun _ _ _ _ => PUnit.unit.{1}) x0))
theorem l498_eq : ∀ x0 x1 x2, (Eq (l498 x0 x1 x2) (@deferV._sparseCasesOn_1 (fun _ => t1282) x0 (fun x3 x4 x5 => (l497 (k_evs x1 (@Array.toList Operand (Call.args x2))) x3 x4 x5)) (fun _ => none))) := by intro t; cases t <;> (intros; rfl)
abbrev t1297 : Type := t81 → t1295
noncomputable def l499 : t1297 := (fun x0 => (@Option.rec CV (fun _ => t1295) (fun _ _ => none) (fun x1 x2 x3 => (l498 x1 x2 x3)) x0))
theorem l499_eq : ∀ x0 x1 x2, (Eq (l499 x0 x1 x2) (@methV._sparseCasesOn_2 CV (fun _ => t1282) x0 (fun x3 => (l498 x3 x1 x2)) (fun _ => none))) := by intro t; cases t <;> (intros; rfl)
abbrev t1298 : Type := Callee → t1295
noncomputable def l500 : t1298 := (fun x0 => (@Callee.rec (fun _ => t1295) (fun x1 x2 x3 => (l499 (k_ev x2 x1) x2 x3)) (fun _ _ _ _ => none) (fun _ _ _ => none) x0))
theorem l500_eq : ∀ x0 x1 x2, (Eq (l500 x0 x1 x2) (@deferV._sparseCasesOn_2 (fun _ => t1282) x0 (fun x3 => (l499 (k_ev x1 x3) x1 x2)) (fun _ => none))) := by intro t; cases t <;> (intros; rfl)
noncomputable def k_deferV : t1295 := (fun x0 x1 => (l500 (Call.callee x1) x0 x1))
theorem k_deferV_eq : @k_deferV = deferV := by
  delta k_deferV deferV
  simp only [l499_eq, l497_eq, l498_eq, l500_eq]
  rw [k_cat_CV_eq, k_evs_eq, k_ev_eq]
  all_goals kernel_rfl

abbrev t1299 : Type := Op → t1288
noncomputable def l496 : t1299 := (fun x0 => (@Op.rec (fun _ => t1288) (fun _ _ _ _ _ _ _ _ => none) (fun _ _ _ _ _ _ _ _ => none) (fun _ _ _ _ _ _ _ _ _ _ => none) (fun _ _ _ _ _ _ _ _ => none) (fun _ _ _ _ _ _ _ _ _ => none) (fun _ _ _ _ _ _ _ _ _ => none) (fun _ _ _ _ _ _ _ _ _ _ => none) (fun _ _ _ _ _ _ _ _ _ _ _ => none) (fun _ _ _ _ _ _ _ _ _ => none) (fun _ _ _ _ _ _ _ _ _ _ => none) (fun _ _ _ _ _ _ _ _ => none) (fun _ _ _ _ _ _ _ _ => none) (fun _ _ _ _ _ _ _ _ => none) (fun _ _ _ _ _ _ _ _ _ _ _ _ => none) (fun _ _ _ _ _ _ _ _ _ _ => none) (fun _ _ _ _ _ _ _ _ _ _ => none) (fun _ _ _ _ _ _ _ _ _ => none) (fun _ _ _ _ _ _ _ _ _ => none) (fun _ _ _ _ _ _ _ _ _ _ => none) (fun _ _ _ _ _ _ _ _ _ => none) (fun _ _ _ _ _ _ _ _ _ => none) (fun _ _ _ _ _ _ _ _ _ _ => none) (fun _ _ _ _ _ _ _ _ _ _ _ _ => none) (fun _ _ _ _ _ _ _ _ _ _ => none) (fun _ _ _ _ _ _ _ _ _ _ => none) (fun _ _ _ _ _ _ _ _ _ _ => none) (fun _ _ _ _ _ _ _ _ _ _ => none) (fun _ _ _ _ _ _ _ _ _ _ _ => none) (fun _ _ _ _ _ _ _ _ _ _ _ => none) (fun _ _ _ _ _ _ _ _ _ _ => none) (fun _ _ _ _ _ _ _ _ _ _ _ => none) (fun _ _ _ _ _ _ _ _ _ => none) (fun _ _ _ _ _ _ _ _ _ => none) (fun _ _ _ _ _ _ _ _ => none) (fun _ _ _ _ _ _ _ _ _ _ _ => none) (fun _ _ _ _ _ _ _ _ _ => none) (fun _ _ _ _ _ _ _ _ => none) (fun _ _ _ _ _ _ _ _ => none) (fun x1 x2 x3 x4 x5 x6 x7 x8 => (@Option.rec Nat (fun _ => t151) (l495 (k_deferV x5 x1) x2 x3 x4 x5 x6 x7 x8) (fun x9 => ((fun _ => none) x9)) x7)) (fun _ _ _ _ _ _ _ _ => none) (fun _ _ _ _ _ _ _ _ _ => none) (fun _ _ _ _ _ _ _ _ _ _ => none) (fun _ _ _ _ _ _ _ _ _ => none) x0))
theorem l496_eq : ∀ x0 x1 x2 x3 x4 x5 x6 x7, (Eq (l496 x0 x1 x2 x3 x4 x5 x6 x7) (@regQ._sparseCasesOn_4 (fun _ => t151) x0 (fun x8 => (@Option.rec Nat (fun _ => t151) (l495 (k_deferV x4 x8) x1 x2 x3 x4 x5 x6 x7) (fun x9 => ((fun _ => none) x9)) x6)) (fun _ => none))) := by intro t; cases t <;> (intros; rfl)
noncomputable def k_regQ : t1288 := (fun x0 x1 x2 x3 x4 x5 x6 => (l496 (Oper.op x0) x0 x1 x2 x3 x4 x5 x6))
theorem k_regQ_eq : @k_regQ = regQ := by
  delta k_regQ regQ
  simp only [l496_eq, l495_eq]
  rw [k_putE_eq, k_deferV_eq]
  all_goals kernel_rfl

abbrev t1300 : Type := S → t1277
abbrev t1301 : Type := t161 → t1300
abbrev t1302 : Type := Run → t1301
abbrev t1303 : Type := Program → t1302
abbrev t1304 : Type := t4 → t1303
noncomputable def l494 : t1304 := (fun x0 => (@Option.rec Ret (fun _ => t1303) (fun x1 x2 x3 x4 x5 x6 x7 x8 x9 x10 => (k_regQ x5 (fun x11 x12 => (x6 x1 x2 x3 x11 x12)) x7 x8 x9 x10 x4)) (fun x1 x2 x3 x4 _ x6 x7 x8 x9 x10 x11 => (l493 x1 x2 x3 x4 x6 x7 x8 x9 x10 x11)) x0))
theorem l494_eq : ∀ x0 x1 x2 x3 x4 x5 x6 x7 x8 x9 x10, (Eq (l494 x0 x1 x2 x3 x4 x5 x6 x7 x8 x9 x10) (@Option.rec Ret (fun _ => t151) (k_regQ x5 (fun x11 x12 => (x6 x1 x2 x3 x11 x12)) x7 x8 x9 x10 x4) (fun x11 => (l493 x11 x1 x2 x3 x5 x6 x7 x8 x9 x10)) x0)) := by intro t; cases t <;> (intros; rfl)
abbrev t1305 : Type := t7 → t238
noncomputable def k_app2 : t1305 := (fun x0 x1 x2 => (@Option.rec t7 (fun _ => t31) none (fun x3 => ((fun x4 => (k_cat_CV x0 x4)) x3)) (k_cat_CV x1 x2)))
theorem k_app2_eq : @k_app2 = app2 := by
  delta k_app2 app2
  rw [k_cat_CV_eq]
  all_goals kernel_rfl

abbrev t1306 : Type := Run → t9
abbrev t1307 : Type := CV → t1306
noncomputable def l504 : t1307 := (fun x0 => (@CV.rec (fun _ => t1306) (fun _ => PUnit.{1}) (fun _ _ _ => none) (fun _ _ _ _ => none) (fun _ _ _ _ _ => none) (fun _ _ _ _ _ _ _ _ => none) (fun _ _ _ => none) (fun _ _ _ _ => none) (fun _ _ _ _ _ => none) (fun _ _ _ _ _ => none) (fun x1 x2 x3 _ _ x6 x7 x8 => (@Option.rec t7 (fun _ => t4) none (fun x9 => ((fun x10 => (Run.call x6 x1 x10 x8)) x9)) (k_app2 x2 x7 x3))) (fun x1 x2 x3 x4 => (Run.round x2 x1 x3 x4)) (fun _ _ _ _ _ _ => none) PUnit.unit.{1} (fun _ _ _ _ => PUnit.unit.{1}) x0))
theorem l504_eq : ∀ x0 x1 x2 x3, (Eq (l504 x0 x1 x2 x3) (@callV._sparseCasesOn_1 (fun _ => t4) x0 (fun x4 x5 x6 => (@Option.rec t7 (fun _ => t4) none (fun x7 => ((fun x8 => (Run.call x1 x4 x8 x3)) x7)) (k_app2 x5 x2 x6))) (fun x4 => (Run.round x1 x4 x2 x3)) (fun _ => none))) := by intro t; cases t <;> (intros; rfl)
abbrev t1308 : Type := CV → t9
abbrev t1309 : Type := Run → t1308
noncomputable def k_callV : t1309 := (fun x0 x1 x2 x3 => (l504 x1 x0 x2 x3))
theorem k_callV_eq : @k_callV = callV := by
  delta k_callV callV
  simp only [l504_eq]
  rw [k_app2_eq]
  all_goals kernel_rfl

abbrev t1310 : Type := Run → t20
abbrev t1311 : Type := t31 → t1310
noncomputable def l503 : t1311 := (fun x0 => (@Option.rec t7 (fun _ => t1310) (fun _ _ _ => none) (fun x1 x2 x3 x4 => (k_callV x2 x4 x1 x3)) x0))
theorem l503_eq : ∀ x0 x1 x2 x3, (Eq (l503 x0 x1 x2 x3) (@stepC._sparseCasesOn_1 t7 (fun _ => t4) x0 (fun x4 => (k_callV x1 x3 x4 x2)) (fun _ => none))) := by intro t; cases t <;> (intros; rfl)
abbrev t1312 : Type := Run → t1031
abbrev t1313 : Type := t81 → t1312
noncomputable def l505 : t1313 := (fun x0 => (@Option.rec CV (fun _ => t1312) (fun _ _ _ _ => none) (fun x1 x2 x3 x4 x5 => (l503 (k_evs x3 (@Array.toList Operand (Call.args x4))) x2 x5 x1)) x0))
theorem l505_eq : ∀ x0 x1 x2 x3 x4, (Eq (l505 x0 x1 x2 x3 x4) (@stepC._sparseCasesOn_1 CV (fun _ => t4) x0 (fun x5 => (l503 (k_evs x2 (@Array.toList Operand (Call.args x3))) x1 x4 x5)) (fun _ => none))) := by intro t; cases t <;> (intros; rfl)
abbrev t1314 : Type := Option FuncId
abbrev t1315 : Type := FuncId → t1314
abbrev t1316 : Type := TypeDesc → t1315
noncomputable def l507 : t1316 := (fun x0 => (@TypeDesc.rec (fun _ => t1315) (fun x1 => (some x1)) (fun x1 => (some x1)) (fun _ x2 => (some x2)) (fun _ x2 => (some x2)) (fun _ x2 => (some x2)) (fun x1 => (some x1)) (fun x1 => (some x1)) (fun _ _ => none) (fun _ x2 => (some x2)) (fun _ _ x3 => (some x3)) (fun _ _ x3 => (some x3)) (fun _ _ x3 => (some x3)) (fun _ x2 => (some x2)) (fun _ _ _ x4 => (some x4)) (fun _ x2 => (some x2)) (fun _ x2 => (some x2)) (fun _ _ x3 => (some x3)) x0))
theorem l507_eq : ∀ x0 x1, (Eq (l507 x0 x1) (@methV._sparseCasesOn_3 (fun _ => t1314) x0 (fun _ => none) (fun _ => (some x1)))) := by intro t; cases t <;> (intros; rfl)
abbrev t1317 : Type := t336 → t1315
noncomputable def l508 : t1317 := (fun x0 => (@Option.rec TypeDesc (fun _ => t1315) (fun _ => none) (fun x1 x2 => (l507 x1 x2)) x0))
theorem l508_eq : ∀ x0 x1, (Eq (l508 x0 x1) (@methV._sparseCasesOn_2 TypeDesc (fun _ => t1314) x0 (fun x2 => (l507 x2 x1)) (fun _ => none))) := by intro t; cases t <;> (intros; rfl)
noncomputable def l509 : t1316 := (fun x0 => (@TypeDesc.rec (fun _ => t1315) (fun _ => none) (fun _ => none) (fun _ _ => none) (fun _ _ => none) (fun _ _ => none) (fun _ => none) (fun _ => none) (fun _ x2 => (some x2)) (fun _ _ => none) (fun _ _ _ => none) (fun _ _ _ => none) (fun _ _ _ => none) (fun _ _ => none) (fun _ _ _ _ => none) (fun _ _ => none) (fun _ _ => none) (fun _ _ _ => none) x0))
theorem l509_eq : ∀ x0 x1, (Eq (l509 x0 x1) (@methV._sparseCasesOn_3 (fun _ => t1314) x0 (fun _ => (some x1)) (fun _ => none))) := by intro t; cases t <;> (intros; rfl)
noncomputable def l510 : t1317 := (fun x0 => (@Option.rec TypeDesc (fun _ => t1315) (fun _ => none) (fun x1 x2 => (l509 x1 x2)) x0))
theorem l510_eq : ∀ x0 x1, (Eq (l510 x0 x1) (@methV._sparseCasesOn_2 TypeDesc (fun _ => t1314) x0 (fun x2 => (l509 x2 x1)) (fun _ => none))) := by intro t; cases t <;> (intros; rfl)
abbrev t1318 : Type := Prod FuncId Bool
abbrev t1319 : Type := Option t1318
abbrev t1320 : Type := TypeId → t1314
abbrev t1321 : Type := Program → t1320
abbrev t1322 : Type := t1319 → t1321
noncomputable def l511 : t1322 := (fun x0 => (@Option.rec t1318 (fun _ => t1321) (fun _ _ => none) (fun x1 x2 x3 => (@Prod.rec FuncId Bool (fun _ => t1314) (fun x4 x5 => (@Bool.rec (fun _ => t1314) (l508 (Program.underlying x2 x3) x4) (l510 (Program.underlying x2 x3) x4) x5)) x1)) x0))
theorem l511_eq : ∀ x0 x1 x2, (Eq (l511 x0 x1 x2) (@methV._sparseCasesOn_2 t1318 (fun _ => t1314) x0 (fun x3 => (@Prod.rec FuncId Bool (fun _ => t1314) (fun x4 x5 => (@Bool.rec (fun _ => t1314) (l508 (Program.underlying x1 x2) x4) (l510 (Program.underlying x1 x2) x4) x5)) x3)) (fun _ => none))) := by intro t; cases t <;> (intros; rfl)
abbrev t1323 : Type := List FieldStep
abbrev t1324 : Type := Method → t1314
abbrev t1325 : Type := TypeId → t1324
abbrev t1326 : Type := Program → t1325
abbrev t1327 : Type := t1323 → t1326
noncomputable def l512 : t1327 := (fun x0 => (@List.rec FieldStep (fun _ => t1326) (fun x1 x2 x3 => (l511 (Method.func x3) x1 x2)) (fun _ _ _ _ _ _ => none) x0))
theorem l512_eq : ∀ x0 x1 x2 x3, (Eq (l512 x0 x1 x2 x3) (@methV._sparseCasesOn_1 FieldStep (fun _ => t1314) x0 (l511 (Method.func x3) x1 x2) (fun _ => none))) := by intro t; cases t <;> (intros; rfl)
abbrev t1328 : Type := String → t1314
abbrev t1329 : Type := TypeId → t1328
abbrev t1330 : Type := Program → t1329
abbrev t1331 : Type := t331 → t1330
noncomputable def l513 : t1331 := (fun x0 => (@Option.rec TypeInfo (fun _ => t1330) (fun _ _ _ => none) (fun x1 x2 x3 x4 => ((fun x5 => (@Option.rec Method (fun _ => t1314) none (fun x6 => ((fun x7 => (l512 (@Array.toList FieldStep (Method.path x7)) x2 x3 x7)) x6)) (@Array.find? Method (fun x6 => (@BEq.beq String (@instBEqOfDecidableEq String instDecidableEqString) (Method.name x6) x4)) (TypeInfo.methods x5)))) x1)) x0))
theorem l513_eq : ∀ x0 x1 x2 x3, (Eq (l513 x0 x1 x2 x3) (@Option.rec TypeInfo (fun _ => t1314) none (fun x4 => ((fun x5 => (@Option.rec Method (fun _ => t1314) none (fun x6 => ((fun x7 => (l512 (@Array.toList FieldStep (Method.path x7)) x1 x2 x7)) x6)) (@Array.find? Method (fun x6 => (@BEq.beq String (@instBEqOfDecidableEq String instDecidableEqString) (Method.name x6) x3)) (TypeInfo.methods x5)))) x4)) x0)) := by intro t; cases t <;> (intros; rfl)
noncomputable def k_methV : t1330 := (fun x0 x1 x2 => (l513 (Tables.info? (Program.toTables x0) x1) x0 x1 x2))
theorem k_methV_eq : @k_methV = methV := by
  delta k_methV methV
  simp only [l507_eq, l512_eq, l513_eq, l511_eq, l509_eq, l510_eq, l508_eq]
  all_goals kernel_rfl

abbrev t1332 : Type := String → t862
abbrev t1333 : Type := S → t1332
abbrev t1334 : Type := Run → t1333
abbrev t1335 : Type := Program → t1334
abbrev t1336 : Type := t31 → t1335
noncomputable def l506 : t1336 := (fun x0 => (@Option.rec t7 (fun _ => t1335) (fun _ _ _ _ _ _ => none) (fun x1 x2 x3 x4 x5 x6 x7 => (@Option.rec FuncId (fun _ => t4) none (fun x8 => ((fun x9 => (k_callV x3 (CV.fn x9 [] []) (x7 :: x1) x4)) x8)) (k_methV x2 x6 x5))) x0))
theorem l506_eq : ∀ x0 x1 x2 x3 x4 x5 x6, (Eq (l506 x0 x1 x2 x3 x4 x5 x6) (@stepC._sparseCasesOn_1 t7 (fun _ => t4) x0 (fun x7 => (@Option.rec FuncId (fun _ => t4) none (fun x8 => ((fun x9 => (k_callV x2 (CV.fn x9 [] []) (x6 :: x7) x3)) x8)) (k_methV x1 x5 x4))) (fun _ => none))) := by intro t; cases t <;> (intros; rfl)
abbrev t1337 : Type := String → t4
abbrev t1338 : Type := S → t1337
abbrev t1339 : Type := Call → t1338
abbrev t1340 : Type := t14 → t1339
abbrev t1341 : Type := Run → t1340
abbrev t1342 : Type := Program → t1341
abbrev t1343 : Type := CV → t1342
noncomputable def l514 : t1343 := (fun x0 => (@CV.rec (fun _ => t1342) (fun _ => PUnit.{1}) (fun _ _ _ _ _ _ => none) (fun _ _ _ _ _ _ _ => none) (fun _ _ _ _ _ _ _ _ => none) (fun _ _ _ _ _ _ _ _ _ _ _ => none) (fun _ _ _ _ _ _ => none) (fun _ _ _ _ _ _ _ => none) (fun _ _ _ _ _ _ _ _ => none) (fun _ _ _ _ _ _ _ _ => none) (fun _ _ _ _ _ _ _ _ _ _ _ => none) (fun _ _ _ _ _ _ _ => none) (fun x1 x2 _ x4 x5 x6 x7 x8 x9 => (l506 (k_evs x6 (@Array.toList Operand (Call.args x7))) x4 x5 x8 x9 x1 x2)) PUnit.unit.{1} (fun _ _ _ _ => PUnit.unit.{1}) x0))
theorem l514_eq : ∀ x0 x1 x2 x3 x4 x5 x6, (Eq (l514 x0 x1 x2 x3 x4 x5 x6) (@stepC._sparseCasesOn_3 (fun _ => t4) x0 (fun x7 x8 => (l506 (k_evs x3 (@Array.toList Operand (Call.args x4))) x1 x2 x5 x6 x7 x8)) (fun _ => none))) := by intro t; cases t <;> (intros; rfl)
abbrev t1344 : Type := t81 → t1342
noncomputable def l515 : t1344 := (fun x0 => (@Option.rec CV (fun _ => t1342) (fun _ _ _ _ _ _ => none) (fun x1 x2 x3 x4 x5 x6 x7 => (l514 x1 x2 x3 x4 x5 x6 x7)) x0))
theorem l515_eq : ∀ x0 x1 x2 x3 x4 x5 x6, (Eq (l515 x0 x1 x2 x3 x4 x5 x6) (@stepC._sparseCasesOn_1 CV (fun _ => t4) x0 (fun x7 => (l514 x7 x1 x2 x3 x4 x5 x6)) (fun _ => none))) := by intro t; cases t <;> (intros; rfl)
abbrev t1345 : Type := Program → t4
abbrev t1346 : Type := S → t1345
abbrev t1347 : Type := Call → t1346
abbrev t1348 : Type := t14 → t1347
abbrev t1349 : Type := Run → t1348
abbrev t1350 : Type := Callee → t1349
noncomputable def l516 : t1350 := (fun x0 => (@Callee.rec (fun _ => t1349) (fun x1 x2 x3 x4 x5 _ => (l505 (k_ev x3 x1) x2 x3 x4 x5)) (fun x1 x2 x3 x4 x5 x6 x7 => (l515 (k_ev x4 x1) x7 x3 x4 x5 x6 x2)) (fun _ _ x3 x4 x5 x6 => (k_o_call x6 x3 x4 x5)) x0))
theorem l516_eq : ∀ x0 x1 x2 x3 x4 x5, (Eq (l516 x0 x1 x2 x3 x4 x5) (@stepC._sparseCasesOn_4 (fun _ => t4) x0 (fun x6 => (l505 (k_ev x2 x6) x1 x2 x3 x4)) (fun x6 x7 => (l515 (k_ev x2 x6) x5 x1 x2 x3 x4 x7)) (fun _ => (k_o_call x5 x2 x3 x4)))) := by intro t; cases t <;> (intros; rfl)
abbrev t1351 : Type := Program → t1312
noncomputable def k_stepC : t1351 := (fun x0 x1 x2 x3 x4 => (l516 (Call.callee x3) x1 x2 x3 x4 x0))
theorem k_stepC_eq : @k_stepC = stepC := by
  delta k_stepC stepC
  simp only [l516_eq, l514_eq, l515_eq, l503_eq, l505_eq, l506_eq]
  rw [k_callV_eq, k_evs_eq, k_methV_eq, k_o_call_eq, k_ev_eq]
  all_goals kernel_rfl

noncomputable def l517 : t186 := (fun x0 => (@CV.rec (fun _ => t8) (fun _ => PUnit.{1}) (fun _ => none) (fun _ _ => none) (fun _ _ _ => none) (fun _ _ _ _ _ _ => none) (fun _ => none) (fun _ _ => none) (fun _ _ _ => none) (fun _ _ _ => none) (fun _ _ _ _ _ _ => none) (fun _ _ => none) (fun x1 x2 _ x4 => (some (Ret.pan (CV.iface x1 x2) x4))) PUnit.unit.{1} (fun _ _ _ _ => PUnit.unit.{1}) x0))
theorem l517_eq : ∀ x0 x1, (Eq (l517 x0 x1) (@stepC._sparseCasesOn_3 (fun _ => t4) x0 (fun x2 x3 => (some (Ret.pan (CV.iface x2 x3) x1))) (fun _ => none))) := by intro t; cases t <;> (intros; rfl)
noncomputable def l518 : t101 := (fun x0 => (@Option.rec CV (fun _ => t8) (fun _ => none) (fun x1 x2 => (l517 x1 x2)) x0))
theorem l518_eq : ∀ x0 x1, (Eq (l518 x0 x1) (@stepC._sparseCasesOn_1 CV (fun _ => t4) x0 (fun x2 => (l517 x2 x1)) (fun _ => none))) := by intro t; cases t <;> (intros; rfl)
noncomputable def k_stepPan : t192 := (fun x0 x1 x2 => (l518 (k_ev x0 x1) x2))
theorem k_stepPan_eq : @k_stepPan = stepPan := by
  delta k_stepPan stepPan
  simp only [l518_eq, l517_eq]
  rw [k_ev_eq]
  all_goals kernel_rfl

abbrev t1352 : Type := Run → t1083
abbrev t1353 : Type := Program → t1352
abbrev t1354 : Type := Op → t1353
noncomputable def l502 : t1354 := (fun x0 => (@Op.rec (fun _ => t1353) (fun x1 x2 _ x4 x5 => (k_o_move x2 x4 x1 x5)) (fun x1 x2 _ x4 x5 => (k_o_move x2 x4 x1 x5)) (fun x1 x2 x3 x4 _ x6 x7 => (k_o_pick x4 x6 x1 x2 x3 x7)) (fun x1 x2 _ x4 x5 => (k_o_alloc x2 x4 x1 x5)) (fun x1 x2 x3 _ x5 x6 => (k_o_box x3 x5 x1 x2 x6)) (fun x1 x2 x3 _ x5 x6 => (k_o_build x3 x5 x1 x2 x6)) (fun x1 x2 x3 x4 _ x6 x7 => (k_o_buildSlice x4 x6 x1 x2 x3 x7)) (fun x1 x2 x3 x4 x5 _ x7 x8 => (k_o_mapUpdate x5 x7 x1 x2 x3 x4 x8)) (fun x1 x2 x3 _ x5 x6 => (k_o_load x3 x5 x1 x2 x6)) (fun x1 x2 x3 x4 _ x6 x7 => (k_o_store x4 x6 x1 x2 x3 x7)) (fun _ _ _ _ _ => none) (fun _ _ _ _ _ => none) (fun x1 x2 _ x4 x5 => (k_o_nilCheck x2 x4 x1 x5)) (fun x1 x2 x3 x4 _ x6 _ x8 x9 => (k_o_binOp x6 x8 x1 x2 x3 x4 x9)) (fun x1 _ x3 x4 _ x6 x7 => (k_o_unOp x4 x6 x1 x3 x7)) (fun x1 x2 x3 x4 _ x6 x7 => (k_o_convert x4 x6 x1 x2 x3 x7)) (fun _ _ _ _ _ _ => none) (fun x1 x2 x3 _ x5 x6 => (k_o_makeInterface x3 x5 x1 x2 x6)) (fun x1 x2 x3 x4 _ x6 x7 => (k_o_makeFunc x4 x6 x1 x2 x3 x7)) (fun x1 x2 x3 _ x5 x6 => (k_mapF x3 x5 x1 x2 x6)) (fun _ _ _ _ _ _ => none) (fun x1 x2 x3 x4 _ x6 x7 => (k_o_makeSlice x4 x6 x1 x2 x3 x7)) (fun x1 x2 x3 x4 x5 x6 _ x8 x9 => (k_o_slice x6 x8 x1 x2 x3 x4 x5 x9)) (fun x1 x2 x3 x4 _ x6 x7 => (k_o_fieldAddr x4 x6 x1 x2 x3 x7)) (fun _ _ _ _ _ _ _ => none) (fun x1 x2 x3 x4 _ x6 x7 => (k_o_indexAddr x4 x6 x1 x2 x3 x7)) (fun x1 x2 x3 x4 _ x6 x7 => (k_o_index x4 x6 x1 x2 x3 x7)) (fun x1 x2 x3 x4 x5 _ x7 x8 => (k_o_lookup x5 x7 x1 x2 x3 x4 x8)) (fun x1 x2 x3 x4 x5 _ x7 x8 => (k_o_mapUpdate x5 x7 x1 x2 x3 x4 x8)) (fun _ _ _ _ _ _ _ => none) (fun _ _ _ _ _ _ _ _ => none) (fun _ _ _ _ _ _ => none) (fun _ _ _ _ _ _ => none) (fun _ _ _ _ _ => none) (fun x1 _ x3 x4 x5 _ x7 x8 => (k_o_typeAssert x5 x7 x1 x3 x4 x8)) (fun x1 x2 x3 _ x5 x6 => (k_o_extract x3 x5 x1 x2 x6)) (fun x1 x2 x3 x4 x5 => (k_stepC x2 x3 x4 x1 x5)) (fun _ _ _ _ _ => none) (fun _ _ _ _ _ => none) (fun x1 _ _ x4 x5 => (k_stepPan x4 x1 x5)) (fun _ _ _ _ _ _ => none) (fun _ _ _ _ _ _ _ => none) (fun _ _ _ _ _ _ => none) x0))
theorem l502_eq : ∀ x0, (Eq (l502 x0) (@stepF._sparseCasesOn_1 (fun _ => t1353) x0 (fun x1 x2 x3 x4 x5 => (k_stepC x2 x3 x4 x1 x5)) (fun x1 _ _ x4 x5 => (k_stepPan x4 x1 x5)) (fun x1 x2 _ x4 x5 => (k_o_move x2 x4 x1 x5)) (fun x1 x2 _ x4 x5 => (k_o_move x2 x4 x1 x5)) (fun x1 x2 x3 x4 _ x6 x7 => (k_o_pick x4 x6 x1 x2 x3 x7)) (fun x1 x2 _ x4 x5 => (k_o_alloc x2 x4 x1 x5)) (fun x1 x2 x3 _ x5 x6 => (k_o_box x3 x5 x1 x2 x6)) (fun x1 x2 x3 _ x5 x6 => (k_o_build x3 x5 x1 x2 x6)) (fun x1 x2 x3 x4 _ x6 x7 => (k_o_buildSlice x4 x6 x1 x2 x3 x7)) (fun x1 x2 x3 _ x5 x6 => (k_o_load x3 x5 x1 x2 x6)) (fun x1 x2 x3 x4 _ x6 x7 => (k_o_store x4 x6 x1 x2 x3 x7)) (fun x1 x2 _ x4 x5 => (k_o_nilCheck x2 x4 x1 x5)) (fun x1 x2 x3 x4 _ x6 _ x8 x9 => (k_o_binOp x6 x8 x1 x2 x3 x4 x9)) (fun x1 _ x3 x4 _ x6 x7 => (k_o_unOp x4 x6 x1 x3 x7)) (fun x1 x2 x3 x4 _ x6 x7 => (k_o_convert x4 x6 x1 x2 x3 x7)) (fun x1 x2 x3 _ x5 x6 => (k_o_makeInterface x3 x5 x1 x2 x6)) (fun x1 x2 x3 x4 _ x6 x7 => (k_o_makeFunc x4 x6 x1 x2 x3 x7)) (fun x1 x2 x3 _ x5 x6 => (k_mapF x3 x5 x1 x2 x6)) (fun x1 x2 x3 x4 _ x6 x7 => (k_o_makeSlice x4 x6 x1 x2 x3 x7)) (fun x1 x2 x3 x4 x5 x6 _ x8 x9 => (k_o_slice x6 x8 x1 x2 x3 x4 x5 x9)) (fun x1 x2 x3 x4 _ x6 x7 => (k_o_fieldAddr x4 x6 x1 x2 x3 x7)) (fun x1 x2 x3 x4 _ x6 x7 => (k_o_indexAddr x4 x6 x1 x2 x3 x7)) (fun x1 x2 x3 x4 _ x6 x7 => (k_o_index x4 x6 x1 x2 x3 x7)) (fun x1 x2 x3 x4 x5 _ x7 x8 => (k_o_lookup x5 x7 x1 x2 x3 x4 x8)) (fun x1 x2 x3 x4 x5 _ x7 x8 => (k_o_mapUpdate x5 x7 x1 x2 x3 x4 x8)) (fun x1 x2 x3 x4 x5 _ x7 x8 => (k_o_mapUpdate x5 x7 x1 x2 x3 x4 x8)) (fun x1 x2 x3 _ x5 x6 => (k_o_extract x3 x5 x1 x2 x6)) (fun x1 _ x3 x4 x5 _ x7 x8 => (k_o_typeAssert x5 x7 x1 x3 x4 x8)) (fun _ _ _ _ _ => none))) := by intro t; cases t <;> (intros; rfl)
noncomputable def k_stepF : t1354 := (fun x0 => (l502 x0))
theorem k_stepF_eq : @k_stepF = stepF := by
  delta k_stepF stepF
  simp only [l502_eq]
  rw [k_stepPan_eq, k_stepC_eq, k_o_extract_eq, k_o_typeAssert_eq, k_o_mapUpdate_eq, k_o_lookup_eq, k_o_index_eq, k_o_indexAddr_eq, k_o_fieldAddr_eq, k_o_slice_eq, k_o_makeSlice_eq, k_mapF_eq, k_o_makeFunc_eq, k_o_makeInterface_eq, k_o_convert_eq, k_o_unOp_eq, k_o_binOp_eq, k_o_nilCheck_eq, k_o_store_eq, k_o_load_eq, k_o_buildSlice_eq, k_o_build_eq, k_o_box_eq, k_o_alloc_eq, k_o_pick_eq, k_o_move_eq]
  all_goals kernel_rfl

abbrev t1355 : Type := Oper → t8
abbrev t1356 : Type := t14 → t1355
abbrev t1357 : Type := Run → t1356
abbrev t1358 : Type := Program → t1357
noncomputable def k_stepOp' : t1358 := (fun x0 x1 x2 x3 x4 => (k_stepF (Oper.op x3) x0 x1 x2 x4))
theorem k_stepOp'_eq : @k_stepOp' = stepOp' := by
  delta k_stepOp' stepOp'
  rw [k_stepF_eq]
  all_goals kernel_rfl

theorem k_stepOp_eq : @k_stepOp' = @stepOp := k_stepOp'_eq.trans stepOp'_eq
abbrev t1359 : Type := Bool → t1303
noncomputable def l501 : t1359 := (fun x0 => (@Bool.rec (fun _ => t1303) (fun x1 x2 x3 x4 x5 x6 x7 x8 x9 x10 => (@Option.rec t14 (fun _ => t151) none (fun x11 => (x6 x1 x2 x3 (Fr.mk x7 x11 x9 x10) x4)) (k_putE x7 (Oper.dst x5) (CV.tup []) x8))) (fun x1 x2 x3 x4 x5 x6 x7 x8 x9 x10 => (l494 (k_stepOp' x1 x2 x8 x5 x4) x1 x2 x3 x4 x5 x6 x7 x8 x9 x10)) x0))
theorem l501_eq : ∀ x0 x1 x2 x3 x4 x5 x6 x7 x8 x9 x10, (Eq (l501 x0 x1 x2 x3 x4 x5 x6 x7 x8 x9 x10) (@Bool.rec (fun _ => t151) (@Option.rec t14 (fun _ => t151) none (fun x11 => (x6 x1 x2 x3 (Fr.mk x7 x11 x9 x10) x4)) (k_putE x7 (Oper.dst x5) (CV.tup []) x8)) (l494 (k_stepOp' x1 x2 x8 x5 x4) x1 x2 x3 x4 x5 x6 x7 x8 x9 x10) x0)) := by intro t; cases t <;> (intros; rfl)
abbrev t1360 : Type := t1271 → t151
abbrev t1361 : Type := Oper → t1360
abbrev t1362 : Type := S → t1361
abbrev t1363 : Type := t161 → t1362
abbrev t1364 : Type := Run → t1363
abbrev t1365 : Type := Program → t1364
abbrev t1366 : Type := Fr → t1365
noncomputable def l519 : t1366 := (fun x0 => (@Fr.rec (fun _ => t1365) (fun x1 x2 x3 x4 x5 x6 x7 x8 x9 x10 => (@Option.rec Bool (fun _ => t151) none (fun x11 => (l501 x11 x5 x6 x7 x8 x9 x10 x1 x2 x3 x4)) (k_guardV x7 x2 x9))) x0))
theorem l519_eq : ∀ x0 x1 x2 x3 x4 x5 x6, (Eq (l519 x0 x1 x2 x3 x4 x5 x6) (@Fr.rec (fun _ => t151) (fun x7 x8 x9 x10 => (@Option.rec Bool (fun _ => t151) none (fun x11 => (l501 x11 x1 x2 x3 x4 x5 x6 x7 x8 x9 x10)) (k_guardV x3 x8 x5))) x0)) := by intro t; cases t <;> (intros; rfl)
abbrev t1367 : Type := t161 → t1269
abbrev t1368 : Type := Run → t1367
abbrev t1369 : Type := Program → t1368
noncomputable def k_regS' : t1369 := (fun x0 x1 x2 x3 x4 x5 => (@List.rec Oper (fun _ => t1271) (fun _ _ _ x9 x10 => (some (Ex.normal, (x9, x10)))) (fun x6 _ x8 x9 x10 x11 x12 x13 => (l519 x12 x9 x10 x11 x13 x6 x8)) x3 x0 x1 x2 x4 x5))
theorem k_regS'_law : ∀ x0 x1 x2 x3 x4 x5, (Eq (k_regS' x1 x2 x3 x0 x4 x5) (regS' x1 x2 x3 x0 x4 x5)) := by
  intro t
  induction t with
  | nil  =>
    intro z0 z1 z2 z3 z4
    show ((fun (_ : Program) (_ : Run) (_ : t161) (x3 : Fr) (x4 : S) => (some (Ex.normal, (x3, x4)))) z0 z1 z2 z3 z4) = _
    conv => rhs; rw [Ev.regS'.eq_def]
    all_goals kernel_rfl
  | cons y0 y1 ih0 =>
    intro z0 z1 z2 z3 z4
    have e0 : (fun (x0 : Program) (x1 : Run) (x2 : t161) (x3 : Fr) (x4 : S) => (k_regS' x0 x1 x2 y1 x3 x4)) = (fun (x0 : Program) (x1 : Run) (x2 : t161) (x3 : Fr) (x4 : S) => (regS' x0 x1 x2 y1 x3 x4)) := by
      funext z0 z1 z2 z3 z4; exact ih0 z0 z1 z2 z3 z4
    show ((fun (x0 : Oper) (_ : t161) (x2 : t1271) (x3 : Program) (x4 : Run) (x5 : t161) (x6 : Fr) (x7 : S) => (l519 x6 x3 x4 x5 x7 x0 x2)) y0 y1 (fun (x0 : Program) (x1 : Run) (x2 : t161) (x3 : Fr) (x4 : S) => (k_regS' x0 x1 x2 y1 x3 x4)) z0 z1 z2 z3 z4) = _
    rw [e0]
    conv => rhs; rw [Ev.regS'.eq_def]
    try simp only [l494_eq, l501_eq, l493_eq, l519_eq]
    try rw [k_putE_eq]
    try rw [k_regQ_eq]
    try rw [k_stepOp_eq]
    try rw [k_guardV_eq]
    all_goals kernel_rfl
theorem k_regS'_eq : @k_regS' = regS' := by
  funext a0 a1 a2 a3 a4 a5; exact k_regS'_law a3 a0 a1 a2 a4 a5
theorem k_regS_eq : @k_regS' = @regS := k_regS'_eq.trans regS'_eq
abbrev t1370 : Type := List Nat
abbrev t1371 : Type := List Lg
abbrev t1372 : Type := t1371 → t1268
abbrev t1373 : Type := t1370 → t1372
abbrev t1374 : Type := Nat → t1373
abbrev t1375 : Type := t161 → t1374
abbrev t1376 : Type := Run → t1375
abbrev t1377 : Type := Program → t1376
abbrev t1378 : Type := t1370 → t151
abbrev t1379 : Type := t164 → t1378
abbrev t1380 : Type := t141 → t1379
abbrev t1381 : Type := Nat → t1380
abbrev t1382 : Type := t1377 → t1381
abbrev t1383 : Type := S → t1382
abbrev t1384 : Type := t1371 → t1383
abbrev t1385 : Type := Nat → t1384
abbrev t1386 : Type := t161 → t1385
abbrev t1387 : Type := Run → t1386
abbrev t1388 : Type := Program → t1387
abbrev t1389 : Type := t165 → t1388
noncomputable def l520 : t1389 := (fun x0 => (@Option.rec t14 (fun _ => t1388) (fun _ _ _ _ _ _ _ _ _ _ _ => none) (fun x1 x2 x3 x4 x5 x6 x7 x8 x9 x10 x11 x12 => (x8 x2 x3 x4 (Nat.add x5 (nat_lit 1)) x12 x6 (Fr.mk x9 x1 x10 x11) x7)) x0))
theorem l520_eq : ∀ x0 x1 x2 x3 x4 x5 x6 x7 x8 x9 x10 x11, (Eq (l520 x0 x1 x2 x3 x4 x5 x6 x7 x8 x9 x10 x11) (@Option.rec t14 (fun _ => t151) none (fun x12 => (x7 x1 x2 x3 (Nat.add x4 (nat_lit 1)) x11 x5 (Fr.mk x8 x12 x9 x10) x6)) x0)) := by intro t; cases t <;> (intros; rfl)
abbrev t1390 : Type := Nat → t151
abbrev t1391 : Type := t1390 → t151
abbrev t1392 : Type := Nat → t1391
noncomputable def k_fN_433 : t1392 := (fun x0 x1 => (@Nat.rec (fun _ => t151) (x1 (nat_lit 0)) (fun x2 _ => ((fun x4 => (x1 (Nat.add x4 (nat_lit 1)))) x2)) x0))
theorem k_fN_433_eq : @k_fN_433 = (@fN t148) := by
  delta k_fN_433 fN
  all_goals kernel_rfl

abbrev t1393 : Type := Nat → t1390
abbrev t1394 : Type := Nat → t1393
abbrev t1395 : Type := t46 → t1394
abbrev t1396 : Type := Nat → t1395
abbrev t1397 : Type := Nat → t1396
abbrev t1398 : Type := t1370 → t1397
abbrev t1399 : Type := t164 → t1398
abbrev t1400 : Type := t141 → t1399
abbrev t1401 : Type := Nat → t1400
abbrev t1402 : Type := t1377 → t1401
abbrev t1403 : Type := t1371 → t1402
abbrev t1404 : Type := Nat → t1403
abbrev t1405 : Type := t161 → t1404
abbrev t1406 : Type := Run → t1405
abbrev t1407 : Type := Program → t1406
abbrev t1408 : Type := t165 → t1407
noncomputable def l521 : t1408 := (fun x0 => (@Option.rec t14 (fun _ => t1407) (fun _ _ _ _ _ _ _ _ _ _ _ _ _ _ _ _ => none) (fun x1 x2 x3 x4 x5 x6 x7 x8 x9 x10 x11 x12 x13 x14 x15 x16 x17 => (k_fN_433 (Nat.lor x12 x16) (fun x18 => (k_fN_433 (Nat.lor x13 x17) (fun x19 => (x7 x2 x3 x4 (Nat.add x5 (nat_lit 1)) x11 (@Bool.rec (fun _ => t1371) ((Lg.mk x5 x16 x17) :: x6) x6 (Nat.beq (Nat.lor x16 x17) (nat_lit 0))) (Fr.mk x8 x1 x9 x10) (S.mk x14 x15 x18 x19))))))) x0))
theorem l521_eq : ∀ x0 x1 x2 x3 x4 x5 x6 x7 x8 x9 x10 x11 x12 x13 x14 x15 x16, (Eq (l521 x0 x1 x2 x3 x4 x5 x6 x7 x8 x9 x10 x11 x12 x13 x14 x15 x16) (@Option.rec t14 (fun _ => t151) none (fun x17 => (k_fN_433 (Nat.lor x11 x15) (fun x18 => (k_fN_433 (Nat.lor x12 x16) (fun x19 => (x6 x1 x2 x3 (Nat.add x4 (nat_lit 1)) x10 (@Bool.rec (fun _ => t1371) ((Lg.mk x4 x15 x16) :: x5) x5 (Nat.beq (Nat.lor x15 x16) (nat_lit 0))) (Fr.mk x7 x17 x8 x9) (S.mk x13 x14 x18 x19))))))) x0)) := by intro t; cases t <;> (intros; rfl)
abbrev t1409 : Type := CV → t1395
abbrev t1410 : Type := Nat → t1409
abbrev t1411 : Type := Nat → t1410
abbrev t1412 : Type := t1370 → t1411
abbrev t1413 : Type := t164 → t1412
abbrev t1414 : Type := t141 → t1413
abbrev t1415 : Type := t14 → t1414
abbrev t1416 : Type := Nat → t1415
abbrev t1417 : Type := t1377 → t1416
abbrev t1418 : Type := Oper → t1417
abbrev t1419 : Type := t1371 → t1418
abbrev t1420 : Type := Nat → t1419
abbrev t1421 : Type := t161 → t1420
abbrev t1422 : Type := Run → t1421
abbrev t1423 : Type := Program → t1422
abbrev t1424 : Type := Bool → t1423
noncomputable def l522 : t1424 := (fun x0 => (@Bool.rec (fun _ => t1423) (fun _ _ _ _ _ _ _ _ _ _ _ _ _ _ _ _ _ _ _ => none) (fun x1 x2 x3 x4 x5 x6 x7 x8 x9 x10 x11 x12 x13 x14 x15 x16 x17 x18 x19 => (l521 (k_putE x8 (Oper.dst x6) x15 x9) x1 x2 x3 x4 x5 x7 x8 x10 x11 x12 x13 x14 x16 x17 x18 x19)) x0))
theorem l522_eq : ∀ x0 x1 x2 x3 x4 x5 x6 x7 x8 x9 x10 x11 x12 x13 x14 x15 x16 x17 x18 x19, (Eq (l522 x0 x1 x2 x3 x4 x5 x6 x7 x8 x9 x10 x11 x12 x13 x14 x15 x16 x17 x18 x19) (@Bool.rec (fun _ => t151) none (l521 (k_putE x8 (Oper.dst x6) x15 x9) x1 x2 x3 x4 x5 x7 x8 x10 x11 x12 x13 x14 x16 x17 x18 x19) x0)) := by intro t; cases t <;> (intros; rfl)
abbrev t1425 : Type := Nat → t163
abbrev t1426 : Type := t1425 → Bool
abbrev t1427 : Type := Nat → t1426
abbrev t1428 : Type := Nat → t1427
abbrev t1429 : Type := Nat → t1428
abbrev t1430 : Type := Lg → t1429
noncomputable def l524 : t1430 := (fun x0 => (@Lg.rec (fun _ => t1429) (fun x1 x2 x3 x4 x5 x6 x7 => (@Bool.rec (fun _ => Bool) Bool.false (x7 x4 x5 x6) (@Bool.rec (fun _ => Bool) (@Bool.rec (fun _ => Bool) Bool.false (Nat.beq (Nat.land x5 x3) (nat_lit 0)) (Nat.beq (Nat.land x6 (Nat.lor x2 x3)) (nat_lit 0))) Bool.true (Nat.testBit x4 x1)))) x0))
theorem l524_eq : ∀ x0 x1 x2 x3 x4, (Eq (l524 x0 x1 x2 x3 x4) (@Lg.rec (fun _ => Bool) (fun x5 x6 x7 => (@Bool.rec (fun _ => Bool) Bool.false (x4 x1 x2 x3) (@Bool.rec (fun _ => Bool) (@Bool.rec (fun _ => Bool) Bool.false (Nat.beq (Nat.land x2 x7) (nat_lit 0)) (Nat.beq (Nat.land x3 (Nat.lor x6 x7)) (nat_lit 0))) Bool.true (Nat.testBit x1 x5)))) x0)) := by intro t; cases t <;> (intros; rfl)
abbrev t1431 : Type := t1371 → Bool
abbrev t1432 : Type := Nat → t1431
abbrev t1433 : Type := Nat → t1432
abbrev t1434 : Type := Nat → t1433
noncomputable def k_apart : t1434 := (fun x0 x1 x2 x3 => (@List.rec Lg (fun _ => t1425) (fun _ _ _ => Bool.true) (fun x4 _ x6 x7 x8 x9 => (l524 x4 x7 x8 x9 x6)) x3 x0 x1 x2))
theorem k_apart_law : ∀ x0 x1 x2 x3, (Eq (k_apart x1 x2 x3 x0) (apart x1 x2 x3 x0)) := by
  intro t
  induction t with
  | nil  =>
    intro z0 z1 z2
    show ((fun (_ : Nat) (_ : Nat) (_ : Nat) => Bool.true) z0 z1 z2) = _
    conv => rhs; rw [Ev.apart.eq_def]
    all_goals kernel_rfl
  | cons y0 y1 ih0 =>
    intro z0 z1 z2
    have e0 : (fun (x0 : Nat) (x1 : Nat) (x2 : Nat) => (k_apart x0 x1 x2 y1)) = (fun (x0 : Nat) (x1 : Nat) (x2 : Nat) => (apart x0 x1 x2 y1)) := by
      funext z0 z1 z2; exact ih0 z0 z1 z2
    show ((fun (x0 : Lg) (_ : t1371) (x2 : t1425) (x3 : Nat) (x4 : Nat) (x5 : Nat) => (l524 x0 x3 x4 x5 x2)) y0 y1 (fun (x0 : Nat) (x1 : Nat) (x2 : Nat) => (k_apart x0 x1 x2 y1)) z0 z1 z2) = _
    rw [e0]
    conv => rhs; rw [Ev.apart.eq_def]
    try simp only [l524_eq]
    all_goals kernel_rfl
theorem k_apart_eq : @k_apart = apart := by
  funext a0 a1 a2 a3; exact k_apart_law a3 a0 a1 a2
abbrev t1435 : Type := CV → t151
abbrev t1436 : Type := Nat → t1435
abbrev t1437 : Type := Nat → t1436
abbrev t1438 : Type := t1370 → t1437
abbrev t1439 : Type := Nat → t1438
abbrev t1440 : Type := t164 → t1439
abbrev t1441 : Type := t141 → t1440
abbrev t1442 : Type := t14 → t1441
abbrev t1443 : Type := Nat → t1442
abbrev t1444 : Type := t1377 → t1443
abbrev t1445 : Type := Oper → t1444
abbrev t1446 : Type := t1371 → t1445
abbrev t1447 : Type := Nat → t1446
abbrev t1448 : Type := t161 → t1447
abbrev t1449 : Type := Run → t1448
abbrev t1450 : Type := Program → t1449
abbrev t1451 : Type := S → t1450
noncomputable def l523 : t1451 := (fun x0 => (@S.rec (fun _ => t1450) (fun x1 x2 x3 x4 x5 x6 x7 x8 x9 x10 x11 x12 x13 x14 x15 x16 x17 x18 x19 x20 => (l522 (k_apart x16 x3 x4 x9) x5 x6 x7 x8 x9 x10 x11 x12 x13 x14 x15 x17 x18 x19 x20 x1 x2 x3 x4)) x0))
theorem l523_eq : ∀ x0 x1 x2 x3 x4 x5 x6 x7 x8 x9 x10 x11 x12 x13 x14 x15 x16, (Eq (l523 x0 x1 x2 x3 x4 x5 x6 x7 x8 x9 x10 x11 x12 x13 x14 x15 x16) (@S.rec (fun _ => t151) (fun x17 x18 x19 x20 => (l522 (k_apart x12 x19 x20 x5) x1 x2 x3 x4 x5 x6 x7 x8 x9 x10 x11 x13 x14 x15 x16 x17 x18 x19 x20)) x0)) := by intro t; cases t <;> (intros; rfl)
abbrev t1452 : Type := t164 → t1409
abbrev t1453 : Type := t141 → t1452
abbrev t1454 : Type := Nat → t1453
abbrev t1455 : Type := t165 → t1454
noncomputable def l525 : t1455 := (fun x0 => (@Option.rec t14 (fun _ => t1454) (fun _ _ _ _ _ _ _ _ => none) (fun x1 x2 x3 x4 x5 x6 x7 x8 x9 => (some ((Ex.pan x5), ((Fr.mk x2 x1 x3 x4), (S.mk x6 x7 x9 x8))))) x0))
theorem l525_eq : ∀ x0 x1 x2 x3 x4 x5 x6 x7 x8, (Eq (l525 x0 x1 x2 x3 x4 x5 x6 x7 x8) (@methV._sparseCasesOn_2 t14 (fun _ => t151) x0 (fun x9 => (some ((Ex.pan x4), ((Fr.mk x1 x9 x2 x3), (S.mk x5 x6 x8 x7))))) (fun _ => none))) := by intro t; cases t <;> (intros; rfl)
abbrev t1456 : Type := Option Tmp
abbrev t1457 : Type := t161 → t166
noncomputable def k_wipe : t1457 := (fun x0 x1 => (@List.rec Oper (fun _ => t166) (fun x2 => (some x2)) (fun x2 _ x4 x5 => (@Option.rec Tmp (fun _ => t165) (x4 x5) (fun x6 => (@Option.rec t14 (fun _ => t165) none (fun x7 => (x4 x7)) (setCV (nat_lit 24) x5 x6 none))) (Oper.dst x2))) x0 x1))
theorem k_wipe_law : ∀ x0 x1, (Eq (k_wipe x0 x1) (wipe x0 x1)) := by
  intro t
  induction t with
  | nil  =>
    intro z0
    show ((fun (x0 : t14) => (some x0)) z0) = _
    conv => rhs; rw [Ev.wipe.eq_def]
    all_goals kernel_rfl
  | cons y0 y1 ih0 =>
    intro z0
    have e0 : (fun (x0 : t14) => (k_wipe y1 x0)) = (fun (x0 : t14) => (wipe y1 x0)) := by
      funext z0; exact ih0 z0
    show ((fun (x0 : Oper) (_ : t161) (x2 : t166) (x3 : t14) => (@Option.rec Tmp (fun (_ : t1456) => t165) (x2 x3) (fun (x4 : Tmp) => (@Option.rec t14 (fun (_ : t165) => t165) none (fun (x5 : t14) => (x2 x5)) (setCV (nat_lit 24) x3 x4 none))) (Oper.dst x0))) y0 y1 (fun (x0 : t14) => (k_wipe y1 x0)) z0) = _
    rw [e0]
    conv => rhs; rw [Ev.wipe.eq_def]
    try rw [setCV_eq]
    all_goals kernel_rfl
theorem k_wipe_eq : @k_wipe = wipe := by
  funext a0 a1; exact k_wipe_law a0 a1
abbrev t1458 : Type := t46 → t1393
abbrev t1459 : Type := CV → t1458
abbrev t1460 : Type := t164 → t1459
abbrev t1461 : Type := t141 → t1460
abbrev t1462 : Type := t14 → t1461
abbrev t1463 : Type := Nat → t1462
abbrev t1464 : Type := t161 → t1463
abbrev t1465 : Type := t164 → t1464
noncomputable def l526 : t1465 := (fun x0 => (@Option.rec Nat (fun _ => t1464) (fun _ _ _ _ _ _ _ _ _ => none) (fun x1 x2 x3 x4 x5 x6 x7 x8 x9 x10 => (l525 (k_wipe x2 x4) x3 x5 x6 x7 x8 x9 x10 x1)) x0))
theorem l526_eq : ∀ x0 x1 x2 x3 x4 x5 x6 x7 x8 x9, (Eq (l526 x0 x1 x2 x3 x4 x5 x6 x7 x8 x9) (@methV._sparseCasesOn_2 Nat (fun _ => t151) x0 (fun x10 => (l525 (k_wipe x1 x3) x2 x4 x5 x6 x7 x8 x9 x10)) (fun _ => none))) := by intro t; cases t <;> (intros; rfl)
abbrev t1466 : Type := Nat → t164
abbrev t1467 : Type := t1466 → t164
abbrev t1468 : Type := Nat → t1467
noncomputable def k_fN_Nat : t1468 := (fun x0 x1 => (@Nat.rec (fun _ => t164) (x1 (nat_lit 0)) (fun x2 _ => ((fun x4 => (x1 (Nat.add x4 (nat_lit 1)))) x2)) x0))
theorem k_fN_Nat_eq : @k_fN_Nat = (@fN Nat) := by
  delta k_fN_Nat fN
  all_goals kernel_rfl

abbrev t1469 : Type := S → t164
abbrev t1470 : Type := t14 → t1469
abbrev t1471 : Type := Nat → t1470
abbrev t1472 : Type := t1371 → t1471
abbrev t1473 : Type := t1370 → t1472
abbrev t1474 : Type := Nat → t1473
abbrev t1475 : Type := Nat → t1474
abbrev t1476 : Type := t161 → t1475
abbrev t1477 : Type := Run → t1476
abbrev t1478 : Type := Program → t1477
abbrev t1479 : Type := Nat → t1466
abbrev t1480 : Type := Nat → t1479
abbrev t1481 : Type := Nat → t1480
abbrev t1482 : Type := Nat → t1481
abbrev t1483 : Type := t46 → t1482
abbrev t1484 : Type := t1370 → t1483
abbrev t1485 : Type := t1478 → t1484
abbrev t1486 : Type := Nat → t1485
abbrev t1487 : Type := t1371 → t1486
abbrev t1488 : Type := Nat → t1487
abbrev t1489 : Type := Nat → t1488
abbrev t1490 : Type := t161 → t1489
abbrev t1491 : Type := Run → t1490
abbrev t1492 : Type := Program → t1491
abbrev t1493 : Type := t165 → t1492
noncomputable def l528 : t1493 := (fun x0 => (@Option.rec t14 (fun _ => t1492) (fun _ _ _ _ _ _ _ _ _ _ _ _ _ _ _ => none) (fun x1 x2 x3 x4 x5 x6 x7 x8 x9 x10 x11 x12 x13 x14 x15 x16 => (k_fN_Nat (Nat.lor x13 x15) (fun x17 => (x9 x2 x3 x4 x5 (Nat.add x6 (nat_lit 1)) x10 (@Bool.rec (fun _ => t1371) ((Lg.mk x6 x15 x16) :: x7) x7 (Nat.beq x15 (nat_lit 0))) x8 x1 (S.mk x11 x12 x17 x14))))) x0))
theorem l528_eq : ∀ x0 x1 x2 x3 x4 x5 x6 x7 x8 x9 x10 x11 x12 x13 x14 x15, (Eq (l528 x0 x1 x2 x3 x4 x5 x6 x7 x8 x9 x10 x11 x12 x13 x14 x15) (@Option.rec t14 (fun _ => t164) none (fun x16 => (k_fN_Nat (Nat.lor x12 x14) (fun x17 => (x8 x1 x2 x3 x4 (Nat.add x5 (nat_lit 1)) x9 (@Bool.rec (fun _ => t1371) ((Lg.mk x5 x14 x15) :: x6) x6 (Nat.beq x14 (nat_lit 0))) x7 x16 (S.mk x10 x11 x17 x13))))) x0)) := by intro t; cases t <;> (intros; rfl)
abbrev t1494 : Type := CV → t1479
abbrev t1495 : Type := Nat → t1494
abbrev t1496 : Type := Nat → t1495
abbrev t1497 : Type := Nat → t1496
abbrev t1498 : Type := t46 → t1497
abbrev t1499 : Type := t1370 → t1498
abbrev t1500 : Type := t1478 → t1499
abbrev t1501 : Type := Oper → t1500
abbrev t1502 : Type := t14 → t1501
abbrev t1503 : Type := Nat → t1502
abbrev t1504 : Type := t1371 → t1503
abbrev t1505 : Type := Nat → t1504
abbrev t1506 : Type := Nat → t1505
abbrev t1507 : Type := t161 → t1506
abbrev t1508 : Type := Run → t1507
abbrev t1509 : Type := Program → t1508
abbrev t1510 : Type := Bool → t1509
noncomputable def l529 : t1510 := (fun x0 => (@Bool.rec (fun _ => t1509) (fun _ _ _ _ _ _ _ _ _ _ _ _ _ _ _ _ _ _ => none) (fun x1 x2 x3 x4 x5 x6 x7 x8 x9 x10 x11 x12 x13 x14 x15 x16 x17 x18 => (l528 (k_putE x7 (Oper.dst x9) x16 x8) x1 x2 x3 x4 x5 x6 x7 x10 x11 x12 x13 x14 x15 x17 x18)) x0))
theorem l529_eq : ∀ x0 x1 x2 x3 x4 x5 x6 x7 x8 x9 x10 x11 x12 x13 x14 x15 x16 x17 x18, (Eq (l529 x0 x1 x2 x3 x4 x5 x6 x7 x8 x9 x10 x11 x12 x13 x14 x15 x16 x17 x18) (@Bool.rec (fun _ => t164) none (l528 (k_putE x7 (Oper.dst x9) x16 x8) x1 x2 x3 x4 x5 x6 x7 x10 x11 x12 x13 x14 x15 x17 x18) x0)) := by intro t; cases t <;> (intros; rfl)
abbrev t1511 : Type := Nat → t723
abbrev t1512 : Type := Nat → t1511
abbrev t1513 : Type := Nat → t1512
abbrev t1514 : Type := t46 → t1513
abbrev t1515 : Type := t1370 → t1514
abbrev t1516 : Type := Nat → t1515
abbrev t1517 : Type := t1478 → t1516
abbrev t1518 : Type := Oper → t1517
abbrev t1519 : Type := t14 → t1518
abbrev t1520 : Type := Nat → t1519
abbrev t1521 : Type := t1371 → t1520
abbrev t1522 : Type := Nat → t1521
abbrev t1523 : Type := Nat → t1522
abbrev t1524 : Type := t161 → t1523
abbrev t1525 : Type := Run → t1524
abbrev t1526 : Type := Program → t1525
abbrev t1527 : Type := S → t1526
noncomputable def l530 : t1527 := (fun x0 => (@S.rec (fun _ => t1526) (fun _ x2 x3 x4 x5 x6 x7 x8 x9 x10 x11 x12 x13 x14 x15 x16 x17 x18 x19 x20 x21 => (l529 (@Bool.rec (fun _ => Bool) Bool.false (Nat.beq x18 x2) (@Bool.rec (fun _ => Bool) Bool.false (Nat.beq x4 (nat_lit 0)) (k_apart x15 x3 x4 x10))) x5 x6 x7 x8 x9 x10 x11 x12 x13 x14 x16 x17 x18 x19 x20 x21 x3 x4)) x0))
theorem l530_eq : ∀ x0 x1 x2 x3 x4 x5 x6 x7 x8 x9 x10 x11 x12 x13 x14 x15 x16 x17, (Eq (l530 x0 x1 x2 x3 x4 x5 x6 x7 x8 x9 x10 x11 x12 x13 x14 x15 x16 x17) (@S.rec (fun _ => t164) (fun _ x19 x20 x21 => (l529 (@Bool.rec (fun _ => Bool) Bool.false (Nat.beq x14 x19) (@Bool.rec (fun _ => Bool) Bool.false (Nat.beq x21 (nat_lit 0)) (k_apart x11 x20 x21 x6))) x1 x2 x3 x4 x5 x6 x7 x8 x9 x10 x12 x13 x14 x15 x16 x17 x20 x21)) x0)) := by intro t; cases t <;> (intros; rfl)
abbrev t1528 : Type := t46 → t1480
abbrev t1529 : Type := t1370 → t1528
abbrev t1530 : Type := Nat → t1529
abbrev t1531 : Type := t1478 → t1530
abbrev t1532 : Type := Oper → t1531
abbrev t1533 : Type := t14 → t1532
abbrev t1534 : Type := Nat → t1533
abbrev t1535 : Type := t1371 → t1534
abbrev t1536 : Type := Nat → t1535
abbrev t1537 : Type := Nat → t1536
abbrev t1538 : Type := t161 → t1537
abbrev t1539 : Type := Run → t1538
abbrev t1540 : Type := Program → t1539
abbrev t1541 : Type := Ret → t1540
noncomputable def l531 : t1541 := (fun x0 => (@Ret.rec (fun _ => t1540) (fun x1 x2 x3 x4 x5 x6 x7 x8 x9 x10 x11 x12 x13 x14 x15 x16 x17 x18 => (l530 x2 x3 x4 x5 x6 x7 x8 x9 x10 x11 x12 x13 x14 x15 x16 x17 x18 x1)) (fun _ _ _ _ _ _ _ _ _ _ _ _ _ _ _ _ _ _ => none) x0))
theorem l531_eq : ∀ x0 x1 x2 x3 x4 x5 x6 x7 x8 x9 x10 x11 x12 x13 x14 x15 x16, (Eq (l531 x0 x1 x2 x3 x4 x5 x6 x7 x8 x9 x10 x11 x12 x13 x14 x15 x16) (@regP._sparseCasesOn_2 (fun _ => t164) x0 (fun x17 x18 => (l530 x18 x1 x2 x3 x4 x5 x6 x7 x8 x9 x10 x11 x12 x13 x14 x15 x16 x17)) (fun _ => none))) := by intro t; cases t <;> (intros; rfl)
abbrev t1542 : Type := t4 → t1540
noncomputable def l532 : t1542 := (fun x0 => (@Option.rec Ret (fun _ => t1540) (fun _ _ _ _ _ _ _ _ _ _ _ _ _ _ _ _ => none) (fun x1 x2 x3 x4 x5 x6 x7 x8 x9 x10 x11 x12 x13 x14 x15 x16 x17 => (l531 x1 x2 x3 x4 x5 x6 x7 x8 x9 x10 x11 x12 x13 x14 x15 x16 x17)) x0))
theorem l532_eq : ∀ x0 x1 x2 x3 x4 x5 x6 x7 x8 x9 x10 x11 x12 x13 x14 x15 x16, (Eq (l532 x0 x1 x2 x3 x4 x5 x6 x7 x8 x9 x10 x11 x12 x13 x14 x15 x16) (@methV._sparseCasesOn_2 Ret (fun _ => t164) x0 (fun x17 => (l531 x17 x1 x2 x3 x4 x5 x6 x7 x8 x9 x10 x11 x12 x13 x14 x15 x16)) (fun _ => none))) := by intro t; cases t <;> (intros; rfl)
abbrev t1543 : Type := t1370 → t164
abbrev t1544 : Type := Nat → t1543
abbrev t1545 : Type := t1478 → t1544
abbrev t1546 : Type := Oper → t1545
abbrev t1547 : Type := t14 → t1546
abbrev t1548 : Type := Nat → t1547
abbrev t1549 : Type := t1371 → t1548
abbrev t1550 : Type := Nat → t1549
abbrev t1551 : Type := Nat → t1550
abbrev t1552 : Type := t161 → t1551
abbrev t1553 : Type := Run → t1552
abbrev t1554 : Type := Program → t1553
abbrev t1555 : Type := S → t1554
noncomputable def l533 : t1555 := (fun x0 => (@S.rec (fun _ => t1554) (fun x1 x2 x3 x4 x5 x6 x7 x8 x9 x10 x11 x12 x13 x14 x15 x16 => (l532 (k_stepOp' x5 x6 x12 x13 (S.mk x1 x2 (nat_lit 0) (nat_lit 0))) x5 x6 x7 x8 x9 x10 x11 x12 x13 x14 x15 x16 x1 x2 x3 x4)) x0))
theorem l533_eq : ∀ x0 x1 x2 x3 x4 x5 x6 x7 x8 x9 x10 x11 x12, (Eq (l533 x0 x1 x2 x3 x4 x5 x6 x7 x8 x9 x10 x11 x12) (@S.rec (fun _ => t164) (fun x13 x14 x15 x16 => (l532 (k_stepOp' x1 x2 x8 x9 (S.mk x13 x14 (nat_lit 0) (nat_lit 0))) x1 x2 x3 x4 x5 x6 x7 x8 x9 x10 x11 x12 x13 x14 x15 x16)) x0)) := by intro t; cases t <;> (intros; rfl)
noncomputable def l535 : t1152 := (fun x0 => (@Op.rec (fun _ => Bool) (fun _ => Bool.false) (fun _ => Bool.false) (fun _ _ _ => Bool.false) (fun _ => Bool.false) (fun _ _ => Bool.false) (fun _ _ => Bool.false) (fun _ _ _ => Bool.false) (fun _ _ _ _ => Bool.false) (fun _ _ => Bool.false) (fun _ _ _ => Bool.false) (fun _ => Bool.false) (fun _ => Bool.false) (fun _ => Bool.false) (fun _ _ _ _ _ => Bool.false) (fun _ _ _ => Bool.false) (fun _ _ _ => Bool.false) (fun _ _ => Bool.false) (fun _ _ => Bool.false) (fun _ _ _ => Bool.false) (fun _ _ => Bool.false) (fun _ _ => Bool.false) (fun _ _ _ => Bool.false) (fun _ _ _ _ _ => Bool.false) (fun _ _ _ => Bool.false) (fun _ _ _ => Bool.false) (fun _ _ _ => Bool.false) (fun _ _ _ => Bool.false) (fun _ _ _ _ => Bool.false) (fun _ _ _ _ => Bool.false) (fun _ _ _ => Bool.false) (fun _ _ _ _ => Bool.false) (fun _ _ => Bool.false) (fun _ _ => Bool.false) (fun _ => Bool.false) (fun _ _ _ _ => Bool.false) (fun _ _ => Bool.false) (fun _ => Bool.false) (fun _ => Bool.false) (fun _ => Bool.true) (fun _ => Bool.false) (fun _ _ => Bool.false) (fun _ _ _ => Bool.false) (fun _ _ => Bool.false) x0))
theorem l535_eq : ∀ x0, (Eq (l535 x0) (@regS._sparseCasesOn_5 (fun _ => Bool) x0 (fun _ => Bool.true) (fun _ => Bool.false))) := by intro t; cases t <;> (intros; rfl)
noncomputable def k_isDefer : t1152 := (fun x0 => (l535 x0))
theorem k_isDefer_eq : @k_isDefer = isDefer := by
  delta k_isDefer isDefer
  simp only [l535_eq]
  all_goals kernel_rfl

abbrev t1556 : Type := t1370 → t1466
abbrev t1557 : Type := t1478 → t1556
abbrev t1558 : Type := Oper → t1557
abbrev t1559 : Type := S → t1558
abbrev t1560 : Type := t14 → t1559
abbrev t1561 : Type := Nat → t1560
abbrev t1562 : Type := t1371 → t1561
abbrev t1563 : Type := Nat → t1562
abbrev t1564 : Type := Nat → t1563
abbrev t1565 : Type := t161 → t1564
abbrev t1566 : Type := Run → t1565
abbrev t1567 : Type := Program → t1566
abbrev t1568 : Type := Bool → t1567
noncomputable def l534 : t1568 := (fun x0 => (@Bool.rec (fun _ => t1567) (fun x1 x2 x3 x4 x5 x6 x7 x8 x9 x10 x11 x12 _ => (@Option.rec t14 (fun _ => t164) none (fun x14 => (x11 x1 x2 x3 x4 (Nat.add x5 (nat_lit 1)) x12 x6 x7 x14 x9)) (k_putE x7 (Oper.dst x10) (CV.tup []) x8))) (fun x1 x2 x3 x4 x5 x6 x7 x8 x9 x10 x11 x12 x13 => (@Bool.rec (fun _ => t164) (l533 x9 x1 x2 x3 x4 x5 x6 x7 x8 x10 x11 x13 x12) none (k_isDefer (Oper.op x10)))) x0))
theorem l534_eq : ∀ x0 x1 x2 x3 x4 x5 x6 x7 x8 x9 x10 x11 x12 x13, (Eq (l534 x0 x1 x2 x3 x4 x5 x6 x7 x8 x9 x10 x11 x12 x13) (@Bool.rec (fun _ => t164) (@Option.rec t14 (fun _ => t164) none (fun x14 => (x11 x1 x2 x3 x4 (Nat.add x5 (nat_lit 1)) x12 x6 x7 x14 x9)) (k_putE x7 (Oper.dst x10) (CV.tup []) x8)) (@Bool.rec (fun _ => t164) (l533 x9 x1 x2 x3 x4 x5 x6 x7 x8 x10 x11 x13 x12) none (k_isDefer (Oper.op x10))) x0)) := by intro t; cases t <;> (intros; rfl)
abbrev t1569 : Type := S → t1546
abbrev t1570 : Type := t14 → t1569
abbrev t1571 : Type := Nat → t1570
abbrev t1572 : Type := t1371 → t1571
abbrev t1573 : Type := Nat → t1572
abbrev t1574 : Type := Nat → t1573
abbrev t1575 : Type := t161 → t1574
abbrev t1576 : Type := Run → t1575
abbrev t1577 : Type := Program → t1576
abbrev t1578 : Type := t369 → t1577
noncomputable def l536 : t1578 := (fun x0 => (@Option.rec Bool (fun _ => t1577) (fun _ _ _ _ _ _ _ _ _ _ _ _ _ => none) (fun x1 x2 x3 x4 x5 x6 x7 x8 x9 x10 x11 x12 x13 x14 => (l534 x1 x2 x3 x4 x5 x6 x7 x8 x9 x10 x11 x12 x14 x13)) x0))
theorem l536_eq : ∀ x0 x1 x2 x3 x4 x5 x6 x7 x8 x9 x10 x11 x12 x13, (Eq (l536 x0 x1 x2 x3 x4 x5 x6 x7 x8 x9 x10 x11 x12 x13) (@Option.rec Bool (fun _ => t164) none (fun x14 => (l534 x14 x1 x2 x3 x4 x5 x6 x7 x8 x9 x10 x11 x13 x12)) x0)) := by intro t; cases t <;> (intros; rfl)
abbrev t1579 : Type := Bool → t1577
noncomputable def l537 : t1579 := (fun x0 => (@Bool.rec (fun _ => t1577) (fun x1 x2 x3 x4 x5 x6 x7 x8 x9 x10 x11 x12 x13 => (l536 (k_guardV x3 x8 x10) x1 x2 x3 x4 x5 x6 x7 x8 x9 x10 x11 x12 x13)) (fun x1 x2 x3 x4 x5 x6 x7 x8 x9 _ x11 _ x13 => (x11 x1 x2 x3 x4 (Nat.add x5 (nat_lit 1)) x13 x6 x7 x8 x9)) x0))
theorem l537_eq : ∀ x0 x1 x2 x3 x4 x5 x6 x7 x8 x9 x10 x11 x12 x13, (Eq (l537 x0 x1 x2 x3 x4 x5 x6 x7 x8 x9 x10 x11 x12 x13) (@Bool.rec (fun _ => t164) (l536 (k_guardV x3 x8 x10) x1 x2 x3 x4 x5 x6 x7 x8 x9 x10 x11 x12 x13) (x11 x1 x2 x3 x4 (Nat.add x5 (nat_lit 1)) x13 x6 x7 x8 x9) x0)) := by intro t; cases t <;> (intros; rfl)
abbrev t1580 : Type := t1478 → t164
abbrev t1581 : Type := Oper → t1580
abbrev t1582 : Type := S → t1581
abbrev t1583 : Type := t14 → t1582
abbrev t1584 : Type := Nat → t1583
abbrev t1585 : Type := t1371 → t1584
abbrev t1586 : Type := Nat → t1585
abbrev t1587 : Type := Nat → t1586
abbrev t1588 : Type := t161 → t1587
abbrev t1589 : Type := Run → t1588
abbrev t1590 : Type := Program → t1589
abbrev t1591 : Type := t1370 → t1590
noncomputable def l538 : t1591 := (fun x0 => (@List.rec Nat (fun _ => t1590) (fun _ _ _ _ _ _ _ _ _ _ _ => none) (fun x1 x2 _ x4 x5 x6 x7 x8 x9 x10 x11 x12 x13 x14 => (l537 (Nat.testBit x1 x7) x4 x5 x6 x7 x8 x9 x10 x11 x12 x13 x14 x1 x2)) x0))
theorem l538_eq : ∀ x0 x1 x2 x3 x4 x5 x6 x7 x8 x9 x10 x11, (Eq (l538 x0 x1 x2 x3 x4 x5 x6 x7 x8 x9 x10 x11) (@List.rec Nat (fun _ => t164) none (fun x12 x13 _ => (l537 (Nat.testBit x12 x4) x1 x2 x3 x4 x5 x6 x7 x8 x9 x10 x11 x12 x13)) x0)) := by intro t; cases t <;> (intros; rfl)
abbrev t1592 : Type := t161 → t1474
abbrev t1593 : Type := Nat → t1592
abbrev t1594 : Type := t161 → t1593
abbrev t1595 : Type := Run → t1594
abbrev t1596 : Type := Program → t1595
noncomputable def k_regP : t1596 := (fun x0 x1 x2 x3 x4 x5 x6 x7 x8 x9 x10 => (@List.rec Oper (fun _ => t1478) (fun _ _ _ _ _ _ _ _ _ x20 => (@S.rec (fun _ => t164) (fun _ _ x23 _ => (some x23)) x20)) (fun x11 _ x13 x14 x15 x16 x17 x18 x19 x20 x21 x22 x23 => (l538 x19 x14 x15 x16 x17 x18 x20 x21 x22 x23 x11 x13)) x4 x0 x1 x2 x3 x5 x6 x7 x8 x9 x10))
theorem k_regP_law : ∀ x0 x1 x2 x3 x4 x5 x6 x7 x8 x9 x10, (Eq (k_regP x1 x2 x3 x4 x0 x5 x6 x7 x8 x9 x10) (regP x1 x2 x3 x4 x0 x5 x6 x7 x8 x9 x10)) := by
  intro t
  induction t with
  | nil  =>
    intro z0 z1 z2 z3 z4 z5 z6 z7 z8 z9
    show ((fun (_ : Program) (_ : Run) (_ : t161) (_ : Nat) (_ : Nat) (_ : t1370) (_ : t1371) (_ : Nat) (_ : t14) (x9 : S) => (@S.rec (fun (_ : S) => t164) (fun (_ : t46) (_ : Nat) (x12 : Nat) (_ : Nat) => (some x12)) x9)) z0 z1 z2 z3 z4 z5 z6 z7 z8 z9) = _
    conv => rhs; rw [Ev.regP.eq_def]
    all_goals kernel_rfl
  | cons y0 y1 ih0 =>
    intro z0 z1 z2 z3 z4 z5 z6 z7 z8 z9
    have e0 : (fun (x0 : Program) (x1 : Run) (x2 : t161) (x3 : Nat) (x4 : Nat) (x5 : t1370) (x6 : t1371) (x7 : Nat) (x8 : t14) (x9 : S) => (k_regP x0 x1 x2 x3 y1 x4 x5 x6 x7 x8 x9)) = (fun (x0 : Program) (x1 : Run) (x2 : t161) (x3 : Nat) (x4 : Nat) (x5 : t1370) (x6 : t1371) (x7 : Nat) (x8 : t14) (x9 : S) => (regP x0 x1 x2 x3 y1 x4 x5 x6 x7 x8 x9)) := by
      funext z0 z1 z2 z3 z4 z5 z6 z7 z8 z9; exact ih0 z0 z1 z2 z3 z4 z5 z6 z7 z8 z9
    show ((fun (x0 : Oper) (_ : t161) (x2 : t1478) (x3 : Program) (x4 : Run) (x5 : t161) (x6 : Nat) (x7 : Nat) (x8 : t1370) (x9 : t1371) (x10 : Nat) (x11 : t14) (x12 : S) => (l538 x8 x3 x4 x5 x6 x7 x9 x10 x11 x12 x0 x2)) y0 y1 (fun (x0 : Program) (x1 : Run) (x2 : t161) (x3 : Nat) (x4 : Nat) (x5 : t1370) (x6 : t1371) (x7 : Nat) (x8 : t14) (x9 : S) => (k_regP x0 x1 x2 x3 y1 x4 x5 x6 x7 x8 x9)) z0 z1 z2 z3 z4 z5 z6 z7 z8 z9) = _
    rw [e0]
    conv => rhs; rw [Ev.regP.eq_def]
    try simp only [l530_eq, l534_eq, l538_eq, l536_eq, l529_eq, l537_eq, l532_eq, l528_eq, l533_eq, l531_eq]
    try rw [k_fN_Nat_eq]
    try rw [k_putE_eq]
    try rw [k_apart_eq]
    try rw [k_stepOp_eq]
    try rw [k_isDefer_eq]
    try rw [k_guardV_eq]
    all_goals kernel_rfl
theorem k_regP_eq : @k_regP = regP := by
  funext a0 a1 a2 a3 a4 a5 a6 a7 a8 a9 a10; exact k_regP_law a4 a0 a1 a2 a3 a5 a6 a7 a8 a9 a10
abbrev t1597 : Type := Nat → t1411
abbrev t1598 : Type := t46 → t1597
abbrev t1599 : Type := t1370 → t1598
abbrev t1600 : Type := t164 → t1599
abbrev t1601 : Type := t141 → t1600
abbrev t1602 : Type := t14 → t1601
abbrev t1603 : Type := Nat → t1602
abbrev t1604 : Type := t161 → t1603
abbrev t1605 : Type := t1371 → t1604
abbrev t1606 : Type := Nat → t1605
abbrev t1607 : Type := t161 → t1606
abbrev t1608 : Type := Run → t1607
abbrev t1609 : Type := Program → t1608
abbrev t1610 : Type := Bool → t1609
noncomputable def l527 : t1610 := (fun x0 => (@Bool.rec (fun _ => t1609) (fun _ _ _ _ _ _ _ _ _ _ _ _ _ _ _ _ _ _ _ _ => none) (fun x1 x2 x3 x4 x5 x6 x7 x8 x9 x10 x11 x12 x13 x14 x15 x16 x17 x18 x19 x20 => (k_fN_433 (Nat.lor x14 x19) (fun x21 => (k_fN_433 (Nat.lor x15 x20) (fun x22 => (l526 (k_regP x1 x2 x3 x4 x6 (Nat.add x4 (nat_lit 1)) x11 ((Lg.mk x4 x19 x20) :: x5) x7 x8 (S.mk x12 x13 x21 x15)) x3 x7 x8 x9 x10 x16 x17 x18 x22)))))) x0))
theorem l527_eq : ∀ x0 x1 x2 x3 x4 x5 x6 x7 x8 x9 x10 x11 x12 x13 x14 x15 x16 x17 x18 x19 x20, (Eq (l527 x0 x1 x2 x3 x4 x5 x6 x7 x8 x9 x10 x11 x12 x13 x14 x15 x16 x17 x18 x19 x20) (@Bool.rec (fun _ => t151) none (k_fN_433 (Nat.lor x14 x19) (fun x21 => (k_fN_433 (Nat.lor x15 x20) (fun x22 => (l526 (k_regP x1 x2 x3 x4 x6 (Nat.add x4 (nat_lit 1)) x11 ((Lg.mk x4 x19 x20) :: x5) x7 x8 (S.mk x12 x13 x21 x15)) x3 x7 x8 x9 x10 x16 x17 x18 x22))))) x0)) := by intro t; cases t <;> (intros; rfl)
noncomputable def k_idle : t1432 := (fun x0 x1 => (@List.rec Lg (fun _ => t162) (fun _ => Bool.true) (fun x2 _ x4 x5 => (@Lg.rec (fun _ => Bool) (fun x6 _ x8 => (@Bool.rec (fun _ => Bool) Bool.false (x4 x5) (@Bool.rec (fun _ => Bool) (Nat.beq x8 (nat_lit 0)) Bool.true (Nat.testBit x5 x6)))) x2)) x1 x0))
theorem k_idle_law : ∀ x0 x1, (Eq (k_idle x1 x0) (idle x1 x0)) := by
  intro t
  induction t with
  | nil  =>
    intro z0
    show ((fun (_ : Nat) => Bool.true) z0) = _
    conv => rhs; rw [Ev.idle.eq_def]
    all_goals kernel_rfl
  | cons y0 y1 ih0 =>
    intro z0
    have e0 : (fun (x0 : Nat) => (k_idle x0 y1)) = (fun (x0 : Nat) => (idle x0 y1)) := by
      funext z0; exact ih0 z0
    show ((fun (x0 : Lg) (_ : t1371) (x2 : t162) (x3 : Nat) => (@Lg.rec (fun (_ : Lg) => Bool) (fun (x4 : Nat) (_ : Nat) (x6 : Nat) => (@Bool.rec (fun (_ : Bool) => Bool) Bool.false (x2 x3) (@Bool.rec (fun (_ : Bool) => Bool) (Nat.beq x6 (nat_lit 0)) Bool.true (Nat.testBit x3 x4)))) x0)) y0 y1 (fun (x0 : Nat) => (k_idle x0 y1)) z0) = _
    rw [e0]
    conv => rhs; rw [Ev.idle.eq_def]
    all_goals kernel_rfl
theorem k_idle_eq : @k_idle = idle := by
  funext a0 a1; exact k_idle_law a1 a0
abbrev t1611 : Type := Nat → t1437
abbrev t1612 : Type := t46 → t1611
abbrev t1613 : Type := t1370 → t1612
abbrev t1614 : Type := Nat → t1613
abbrev t1615 : Type := t164 → t1614
abbrev t1616 : Type := t141 → t1615
abbrev t1617 : Type := t14 → t1616
abbrev t1618 : Type := Nat → t1617
abbrev t1619 : Type := t161 → t1618
abbrev t1620 : Type := t1371 → t1619
abbrev t1621 : Type := Nat → t1620
abbrev t1622 : Type := t161 → t1621
abbrev t1623 : Type := Run → t1622
abbrev t1624 : Type := Program → t1623
abbrev t1625 : Type := S → t1624
noncomputable def l539 : t1625 := (fun x0 => (@S.rec (fun _ => t1624) (fun x1 x2 x3 x4 x5 x6 x7 x8 x9 x10 x11 x12 x13 x14 x15 x16 x17 x18 x19 x20 x21 => (l527 (@Bool.rec (fun _ => Bool) Bool.false (k_idle x15 x9) (k_apart x15 x3 x4 x9)) x5 x6 x7 x8 x9 x10 x11 x12 x13 x14 x16 x17 x18 x19 x20 x21 x1 x2 x3 x4)) x0))
theorem l539_eq : ∀ x0 x1 x2 x3 x4 x5 x6 x7 x8 x9 x10 x11 x12 x13 x14 x15 x16 x17, (Eq (l539 x0 x1 x2 x3 x4 x5 x6 x7 x8 x9 x10 x11 x12 x13 x14 x15 x16 x17) (@S.rec (fun _ => t151) (fun x18 x19 x20 x21 => (l527 (@Bool.rec (fun _ => Bool) Bool.false (k_idle x11 x5) (k_apart x11 x20 x21 x5)) x1 x2 x3 x4 x5 x6 x7 x8 x9 x10 x12 x13 x14 x15 x16 x17 x18 x19 x20 x21)) x0)) := by intro t; cases t <;> (intros; rfl)
abbrev t1626 : Type := t46 → t1390
abbrev t1627 : Type := t161 → t1626
abbrev t1628 : Type := Nat → t1627
abbrev t1629 : Type := Nat → t1628
abbrev t1630 : Type := t1370 → t1629
abbrev t1631 : Type := Nat → t1630
abbrev t1632 : Type := t164 → t1631
abbrev t1633 : Type := t141 → t1632
abbrev t1634 : Type := t14 → t1633
abbrev t1635 : Type := Nat → t1634
abbrev t1636 : Type := t1377 → t1635
abbrev t1637 : Type := Oper → t1636
abbrev t1638 : Type := t1371 → t1637
abbrev t1639 : Type := Nat → t1638
abbrev t1640 : Type := t161 → t1639
abbrev t1641 : Type := Run → t1640
abbrev t1642 : Type := Program → t1641
abbrev t1643 : Type := Ret → t1642
noncomputable def l540 : t1643 := (fun x0 => (@Ret.rec (fun _ => t1642) (fun x1 x2 x3 x4 x5 x6 x7 x8 x9 x10 x11 x12 x13 x14 x15 x16 x17 _ _ _ => (l523 x2 x3 x4 x5 x6 x7 x8 x9 x10 x11 x12 x13 x14 x15 x16 x17 x1)) (fun x1 x2 x3 x4 x5 x6 x7 _ _ x10 x11 x12 x13 x14 x15 x16 x17 x18 x19 x20 => (l539 x2 x3 x4 x5 x6 x7 x18 x10 x11 x12 x13 x14 x15 x19 x20 x16 x17 x1)) x0))
theorem l540_eq : ∀ x0 x1 x2 x3 x4 x5 x6 x7 x8 x9 x10 x11 x12 x13 x14 x15 x16 x17 x18, (Eq (l540 x0 x1 x2 x3 x4 x5 x6 x7 x8 x9 x10 x11 x12 x13 x14 x15 x16 x17 x18) (@Ret.rec (fun _ => t151) (fun x19 x20 => (l523 x20 x1 x2 x3 x4 x5 x6 x7 x8 x9 x10 x11 x12 x13 x14 x15 x19)) (fun x19 x20 => (l539 x20 x1 x2 x3 x4 x5 x16 x8 x9 x10 x11 x12 x13 x17 x18 x14 x15 x19)) x0)) := by intro t; cases t <;> (intros; rfl)
abbrev t1644 : Type := t1370 → t1395
abbrev t1645 : Type := Nat → t1644
abbrev t1646 : Type := t164 → t1645
abbrev t1647 : Type := t141 → t1646
abbrev t1648 : Type := t14 → t1647
abbrev t1649 : Type := Nat → t1648
abbrev t1650 : Type := t1377 → t1649
abbrev t1651 : Type := t161 → t1650
abbrev t1652 : Type := Oper → t1651
abbrev t1653 : Type := t1371 → t1652
abbrev t1654 : Type := Nat → t1653
abbrev t1655 : Type := t161 → t1654
abbrev t1656 : Type := Run → t1655
abbrev t1657 : Type := Program → t1656
abbrev t1658 : Type := t4 → t1657
noncomputable def l541 : t1658 := (fun x0 => (@Option.rec Ret (fun _ => t1657) (fun _ _ _ _ _ _ _ _ _ _ _ _ _ _ _ _ _ _ => none) (fun x1 x2 x3 x4 x5 x6 x7 x8 x9 x10 x11 x12 x13 x14 x15 x16 x17 x18 x19 => (l540 x1 x2 x3 x4 x5 x6 x7 x9 x10 x11 x12 x13 x14 x15 x18 x19 x8 x16 x17)) x0))
theorem l541_eq : ∀ x0 x1 x2 x3 x4 x5 x6 x7 x8 x9 x10 x11 x12 x13 x14 x15 x16 x17 x18, (Eq (l541 x0 x1 x2 x3 x4 x5 x6 x7 x8 x9 x10 x11 x12 x13 x14 x15 x16 x17 x18) (@methV._sparseCasesOn_2 Ret (fun _ => t151) x0 (fun x19 => (l540 x19 x1 x2 x3 x4 x5 x6 x8 x9 x10 x11 x12 x13 x14 x17 x18 x7 x15 x16)) (fun _ => none))) := by intro t; cases t <;> (intros; rfl)
abbrev t1659 : Type := Nat → t1378
abbrev t1660 : Type := t164 → t1659
abbrev t1661 : Type := t141 → t1660
abbrev t1662 : Type := t14 → t1661
abbrev t1663 : Type := Nat → t1662
abbrev t1664 : Type := t1377 → t1663
abbrev t1665 : Type := t161 → t1664
abbrev t1666 : Type := Oper → t1665
abbrev t1667 : Type := t1371 → t1666
abbrev t1668 : Type := Nat → t1667
abbrev t1669 : Type := t161 → t1668
abbrev t1670 : Type := Run → t1669
abbrev t1671 : Type := Program → t1670
abbrev t1672 : Type := S → t1671
noncomputable def l542 : t1672 := (fun x0 => (@S.rec (fun _ => t1671) (fun x1 x2 x3 x4 x5 x6 x7 x8 x9 x10 x11 x12 x13 x14 x15 x16 x17 x18 => (l541 (k_stepOp' x5 x6 x14 x10 (S.mk x1 x2 (nat_lit 0) (nat_lit 0))) x5 x6 x7 x8 x9 x10 x11 x12 x13 x14 x15 x16 x17 x18 x1 x2 x3 x4)) x0))
theorem l542_eq : ∀ x0 x1 x2 x3 x4 x5 x6 x7 x8 x9 x10 x11 x12 x13 x14, (Eq (l542 x0 x1 x2 x3 x4 x5 x6 x7 x8 x9 x10 x11 x12 x13 x14) (@S.rec (fun _ => t151) (fun x15 x16 x17 x18 => (l541 (k_stepOp' x1 x2 x10 x6 (S.mk x15 x16 (nat_lit 0) (nat_lit 0))) x1 x2 x3 x4 x5 x6 x7 x8 x9 x10 x11 x12 x13 x14 x15 x16 x17 x18)) x0)) := by intro t; cases t <;> (intros; rfl)
abbrev t1673 : Type := S → t1666
abbrev t1674 : Type := t1371 → t1673
abbrev t1675 : Type := Nat → t1674
abbrev t1676 : Type := t161 → t1675
abbrev t1677 : Type := Run → t1676
abbrev t1678 : Type := Program → t1677
abbrev t1679 : Type := Bool → t1678
noncomputable def l543 : t1679 := (fun x0 => (@Bool.rec (fun _ => t1678) (fun x1 x2 x3 x4 x5 x6 x7 x8 x9 x10 x11 x12 x13 x14 x15 => (l542 x6 x1 x2 x3 x4 x5 x7 x8 x9 x10 x11 x12 x13 x14 x15)) (fun _ _ _ _ _ _ _ _ _ _ _ _ _ _ _ => none) x0))
theorem l543_eq : ∀ x0 x1 x2 x3 x4 x5 x6 x7 x8 x9 x10 x11 x12 x13 x14 x15, (Eq (l543 x0 x1 x2 x3 x4 x5 x6 x7 x8 x9 x10 x11 x12 x13 x14 x15) (@Bool.rec (fun _ => t151) (l542 x6 x1 x2 x3 x4 x5 x7 x8 x9 x10 x11 x12 x13 x14 x15) none x0)) := by intro t; cases t <;> (intros; rfl)
abbrev t1680 : Type := t161 → t1390
abbrev t1681 : Type := t1370 → t1680
abbrev t1682 : Type := t164 → t1681
abbrev t1683 : Type := t141 → t1682
abbrev t1684 : Type := t14 → t1683
abbrev t1685 : Type := Nat → t1684
abbrev t1686 : Type := t1377 → t1685
abbrev t1687 : Type := Oper → t1686
abbrev t1688 : Type := S → t1687
abbrev t1689 : Type := t1371 → t1688
abbrev t1690 : Type := Nat → t1689
abbrev t1691 : Type := t161 → t1690
abbrev t1692 : Type := Run → t1691
abbrev t1693 : Type := Program → t1692
abbrev t1694 : Type := Bool → t1693
noncomputable def l544 : t1694 := (fun x0 => (@Bool.rec (fun _ => t1693) (fun x1 x2 x3 x4 x5 x6 x7 x8 x9 x10 x11 x12 x13 _ _ => (l520 (k_putE x9 (Oper.dst x7) (CV.tup []) x10) x1 x2 x3 x4 x5 x6 x8 x9 x11 x12 x13)) (fun x1 x2 x3 x4 x5 x6 x7 x8 x9 x10 x11 x12 x13 x14 x15 => (l543 (k_isDefer (Oper.op x7)) x1 x2 x3 x4 x5 x6 x7 x14 x8 x9 x10 x11 x12 x15 x13)) x0))
theorem l544_eq : ∀ x0 x1 x2 x3 x4 x5 x6 x7 x8 x9 x10 x11 x12 x13 x14 x15, (Eq (l544 x0 x1 x2 x3 x4 x5 x6 x7 x8 x9 x10 x11 x12 x13 x14 x15) (@Bool.rec (fun _ => t151) (l520 (k_putE x9 (Oper.dst x7) (CV.tup []) x10) x1 x2 x3 x4 x5 x6 x8 x9 x11 x12 x13) (l543 (k_isDefer (Oper.op x7)) x1 x2 x3 x4 x5 x6 x7 x14 x8 x9 x10 x11 x12 x15 x13) x0)) := by intro t; cases t <;> (intros; rfl)
abbrev t1695 : Type := t369 → t1678
noncomputable def l545 : t1695 := (fun x0 => (@Option.rec Bool (fun _ => t1678) (fun _ _ _ _ _ _ _ _ _ _ _ _ _ _ _ => none) (fun x1 x2 x3 x4 x5 x6 x7 x8 x9 x10 x11 x12 x13 x14 x15 x16 => (l544 x1 x2 x3 x4 x5 x6 x7 x8 x10 x11 x12 x13 x14 x16 x9 x15)) x0))
theorem l545_eq : ∀ x0 x1 x2 x3 x4 x5 x6 x7 x8 x9 x10 x11 x12 x13 x14 x15, (Eq (l545 x0 x1 x2 x3 x4 x5 x6 x7 x8 x9 x10 x11 x12 x13 x14 x15) (@Option.rec Bool (fun _ => t151) none (fun x16 => (l544 x16 x1 x2 x3 x4 x5 x6 x7 x9 x10 x11 x12 x13 x15 x8 x14)) x0)) := by intro t; cases t <;> (intros; rfl)
abbrev t1696 : Type := t1377 → t1275
abbrev t1697 : Type := t161 → t1696
abbrev t1698 : Type := Oper → t1697
abbrev t1699 : Type := S → t1698
abbrev t1700 : Type := t1371 → t1699
abbrev t1701 : Type := Nat → t1700
abbrev t1702 : Type := t161 → t1701
abbrev t1703 : Type := Run → t1702
abbrev t1704 : Type := Program → t1703
abbrev t1705 : Type := t1370 → t1704
noncomputable def l546 : t1705 := (fun x0 => (@List.rec Nat (fun _ => t1704) (fun _ _ _ _ _ _ _ _ _ _ _ _ _ => none) (fun x1 x2 _ x4 x5 x6 x7 x8 x9 x10 x11 x12 x13 x14 x15 x16 => (l545 (k_guardV x6 x14 x10) x4 x5 x6 x7 x8 x9 x10 x11 x12 x13 x14 x15 x16 x1 x2)) x0))
theorem l546_eq : ∀ x0 x1 x2 x3 x4 x5 x6 x7 x8 x9 x10 x11 x12 x13, (Eq (l546 x0 x1 x2 x3 x4 x5 x6 x7 x8 x9 x10 x11 x12 x13) (@List.rec Nat (fun _ => t151) none (fun x14 x15 _ => (l545 (k_guardV x3 x11 x7) x1 x2 x3 x4 x5 x6 x7 x8 x9 x10 x11 x12 x13 x14 x15)) x0)) := by intro t; cases t <;> (intros; rfl)
abbrev t1706 : Type := t1377 → t151
abbrev t1707 : Type := t161 → t1706
abbrev t1708 : Type := Oper → t1707
abbrev t1709 : Type := S → t1708
abbrev t1710 : Type := t1371 → t1709
abbrev t1711 : Type := t1370 → t1710
abbrev t1712 : Type := Nat → t1711
abbrev t1713 : Type := t161 → t1712
abbrev t1714 : Type := Run → t1713
abbrev t1715 : Type := Program → t1714
abbrev t1716 : Type := Fr → t1715
noncomputable def l547 : t1716 := (fun x0 => (@Fr.rec (fun _ => t1715) (fun x1 x2 x3 x4 x5 x6 x7 x8 x9 x10 x11 x12 x13 x14 => (l546 x9 x5 x6 x7 x8 x10 x11 x12 x13 x14 x1 x2 x3 x4)) x0))
theorem l547_eq : ∀ x0 x1 x2 x3 x4 x5 x6 x7 x8 x9 x10, (Eq (l547 x0 x1 x2 x3 x4 x5 x6 x7 x8 x9 x10) (@Fr.rec (fun _ => t151) (fun x11 x12 x13 x14 => (l546 x5 x1 x2 x3 x4 x6 x7 x8 x9 x10 x11 x12 x13 x14)) x0)) := by intro t; cases t <;> (intros; rfl)
abbrev t1717 : Type := t161 → t1375
abbrev t1718 : Type := Run → t1717
abbrev t1719 : Type := Program → t1718
noncomputable def k_regD : t1719 := (fun x0 x1 x2 x3 x4 x5 x6 x7 x8 => (@List.rec Oper (fun _ => t1377) (fun _ _ _ _ _ _ x15 x16 => (some (Ex.normal, (x15, x16)))) (fun x9 x10 x11 x12 x13 x14 x15 x16 x17 x18 x19 => (l547 x18 x12 x13 x14 x15 x16 x17 x19 x9 x10 x11)) x3 x0 x1 x2 x4 x5 x6 x7 x8))
theorem k_regD_law : ∀ x0 x1 x2 x3 x4 x5 x6 x7 x8, (Eq (k_regD x1 x2 x3 x0 x4 x5 x6 x7 x8) (regD x1 x2 x3 x0 x4 x5 x6 x7 x8)) := by
  intro t
  induction t with
  | nil  =>
    intro z0 z1 z2 z3 z4 z5 z6 z7
    show ((fun (_ : Program) (_ : Run) (_ : t161) (_ : Nat) (_ : t1370) (_ : t1371) (x6 : Fr) (x7 : S) => (some (Ex.normal, (x6, x7)))) z0 z1 z2 z3 z4 z5 z6 z7) = _
    conv => rhs; rw [Ev.regD.eq_def]
    all_goals kernel_rfl
  | cons y0 y1 ih0 =>
    intro z0 z1 z2 z3 z4 z5 z6 z7
    have e0 : (fun (x0 : Program) (x1 : Run) (x2 : t161) (x3 : Nat) (x4 : t1370) (x5 : t1371) (x6 : Fr) (x7 : S) => (k_regD x0 x1 x2 y1 x3 x4 x5 x6 x7)) = (fun (x0 : Program) (x1 : Run) (x2 : t161) (x3 : Nat) (x4 : t1370) (x5 : t1371) (x6 : Fr) (x7 : S) => (regD x0 x1 x2 y1 x3 x4 x5 x6 x7)) := by
      funext z0 z1 z2 z3 z4 z5 z6 z7; exact ih0 z0 z1 z2 z3 z4 z5 z6 z7
    show ((fun (x0 : Oper) (x1 : t161) (x2 : t1377) (x3 : Program) (x4 : Run) (x5 : t161) (x6 : Nat) (x7 : t1370) (x8 : t1371) (x9 : Fr) (x10 : S) => (l547 x9 x3 x4 x5 x6 x7 x8 x10 x0 x1 x2)) y0 y1 (fun (x0 : Program) (x1 : Run) (x2 : t161) (x3 : Nat) (x4 : t1370) (x5 : t1371) (x6 : Fr) (x7 : S) => (k_regD x0 x1 x2 y1 x3 x4 x5 x6 x7)) z0 z1 z2 z3 z4 z5 z6 z7) = _
    rw [e0]
    conv => rhs; rw [Ev.regD.eq_def]
    try simp only [l521_eq, l541_eq, l544_eq, l527_eq, l543_eq, l522_eq, l545_eq, l542_eq, l547_eq, l526_eq, l546_eq, l525_eq, l523_eq, l540_eq, l520_eq, l539_eq]
    try rw [k_fN_433_eq]
    try rw [k_putE_eq]
    try rw [k_apart_eq]
    try rw [k_wipe_eq]
    try rw [k_regP_eq]
    try rw [k_idle_eq]
    try rw [k_stepOp_eq]
    try rw [k_isDefer_eq]
    try rw [k_guardV_eq]
    all_goals kernel_rfl
theorem k_regD_eq : @k_regD = regD := by
  funext a0 a1 a2 a3 a4 a5 a6 a7 a8; exact k_regD_law a3 a0 a1 a2 a4 a5 a6 a7 a8
abbrev t1720 : Type := List Tm
abbrev t1721 : Type := t1370 → Nat
noncomputable def k_tmBits : t1721 := (fun x0 => (@List.rec Nat (fun _ => Nat) (nat_lit 0) (fun x1 _ x3 => (Nat.lor (Nat.shiftLeft (nat_lit 1) x1) x3)) x0))
theorem k_tmBits_law : ∀ x0, (Eq (k_tmBits x0) (tmBits x0)) := by
  intro t
  induction t with
  | nil  =>
    show (nat_lit 0) = _
    conv => rhs; rw [Ev.tmBits.eq_def]
    all_goals kernel_rfl
  | cons y0 y1 ih0 =>
    have e0 : (k_tmBits y1) = (tmBits y1) := by
      exact ih0
    show ((fun (x0 : Nat) (_ : t1370) (x2 : Nat) => (Nat.lor (Nat.shiftLeft (nat_lit 1) x0) x2)) y0 y1 (k_tmBits y1)) = _
    rw [e0]
    conv => rhs; rw [Ev.tmBits.eq_def]
    all_goals kernel_rfl
theorem k_tmBits_eq : @k_tmBits = tmBits := by
  funext a0; exact k_tmBits_law a0
abbrev t1722 : Type := t164 → Nat
noncomputable def k_dstBit : t1722 := (fun x0 => (@Option.rec Nat (fun _ => Nat) (nat_lit 0) (fun x1 => ((fun x2 => (Nat.shiftLeft (nat_lit 1) x2)) x1)) x0))
theorem k_dstBit_eq : @k_dstBit = dstBit := by
  delta k_dstBit dstBit
  all_goals kernel_rfl

abbrev t1723 : Type := t1720 → Bool
abbrev t1724 : Type := t1370 → t1723
abbrev t1725 : Type := Nat → t1724
abbrev t1726 : Type := t161 → t1725
abbrev t1727 : Type := t1370 → Bool
abbrev t1728 : Type := t1726 → t1727
abbrev t1729 : Type := Oper → t1728
abbrev t1730 : Type := t1720 → t1729
abbrev t1731 : Type := Nat → t1730
abbrev t1732 : Type := t161 → t1731
abbrev t1733 : Type := Bool → t1732
end Go.EvK
