/- Forms of the definitions that the kernel runs fast, each proved equal. No condition. -/
import Derived.Test.YtdobapekmlihdabGreatIsP7a
import Derived.KernelRfl
set_option linter.unusedVariables false
set_option linter.unusedSimpArgs false
set_option maxRecDepth 100000
namespace Go.EvK
open Go.Eng Go.Ev
noncomputable section
def l333 : t890 := (λx0=>(@Option.rec Nat (λ_=>t889) (λ_ _ _ _ _ _=>none) (λx1 x2 x3 x4 x5 x6 x7=>(k_ifT_Ret (@Bool.rec (λ_=>Bool) Bool.false (k_Nat_blt x1 x5) (Nat.beq x6 x7)) (k_ok1 (CV.ptr x3 (Nat.add x4 (Nat.mul x1 x7))) x2))) x0))
theorem l333_eq : ∀ x0 x1 x2 x3 x4 x5 x6, (Eq (l333 x0 x1 x2 x3 x4 x5 x6) (@elInfo._sparseCasesOn_3 Nat (λ_=>t4) x0 (λx7=>(k_ifT_Ret (@Bool.rec (λ_=>Bool) Bool.false (k_Nat_blt x7 x4) (Nat.beq x5 x6)) (k_ok1 (CV.ptr x2 (Nat.add x3 (Nat.mul x7 x6))) x1))) (λ_=>none))) := by intro t; cases t <;> (intros; rfl)
abbrev t891:=Nat → t445
abbrev t892:=Nat → t891
abbrev t893:=Nat → t892
abbrev t894:=S → t893
abbrev t895:=t164 → t894
def l334 : t895 := (λx0=>(@Option.rec Nat (λ_=>t894) (λ_ _ _ _ _ _=>none) (λx1 x2 x3 x4 x5 x6 x7=>(l333 (k_natAny x7) x2 x3 x4 x5 x6 x1)) x0))
theorem l334_eq : ∀ x0 x1 x2 x3 x4 x5 x6, (Eq (l334 x0 x1 x2 x3 x4 x5 x6) (@elInfo._sparseCasesOn_3 Nat (λ_=>t4) x0 (λx7=>(l333 (k_natAny x6) x1 x2 x3 x4 x5 x7)) (λ_=>none))) := by intro t; cases t <;> (intros; rfl)
abbrev t896:=TypeId → t673
abbrev t897:=Program → t896
abbrev t898:=t81 → t897
def l335 : t898 := (λx0=>(@Option.rec CV (λ_=>t897) (λ_ _ _ _ _ _ _=>none) (λx1 x2 x3 x4 x5 x6 x7 x8=>(l334 (slSize x2 x3) x4 x5 x6 x7 x8 x1)) x0))
theorem l335_eq : ∀ x0 x1 x2 x3 x4 x5 x6 x7, (Eq (l335 x0 x1 x2 x3 x4 x5 x6 x7) (@elInfo._sparseCasesOn_3 CV (λ_=>t4) x0 (λx8=>(l334 (slSize x1 x2) x3 x4 x5 x6 x7 x8)) (λ_=>none))) := by intro t; cases t <;> (intros; rfl)
abbrev t899:=t164 → t673
def l336 : t899 := (λx0=>(@Option.rec Nat (λ_=>t673) (λ_ _ _ _ _=>none) (λx1 x2 x3 x4 x5 x6=>(k_ifT_Ret (k_Nat_blt x1 x5) (k_ok1 (CV.ptr x3 (Nat.add x4 (Nat.mul x1 x6))) x2))) x0))
theorem l336_eq : ∀ x0 x1 x2 x3 x4 x5, (Eq (l336 x0 x1 x2 x3 x4 x5) (@elInfo._sparseCasesOn_3 Nat (λ_=>t4) x0 (λx6=>(k_ifT_Ret (k_Nat_blt x6 x4) (k_ok1 (CV.ptr x2 (Nat.add x3 (Nat.mul x6 x5))) x1))) (λ_=>none))) := by intro t; cases t <;> (intros; rfl)
abbrev t900:=S → t891
abbrev t901:=t230 → t900
def l337 : t901 := (λx0=>(@Option.rec t228 (λ_=>t900) (λ_ _ _ _=>none) (λx1 x2 x3 x4 x5=>(@Prod.rec Nat Nat (λ_=>t4) (λx6 x7=>(l336 (k_natAny x5) x2 x3 x4 x6 x7)) x1)) x0))
theorem l337_eq : ∀ x0 x1 x2 x3 x4, (Eq (l337 x0 x1 x2 x3 x4) (@elInfo._sparseCasesOn_3 t228 (λ_=>t4) x0 (λx5=>(@Prod.rec Nat Nat (λ_=>t4) (λx6 x7=>(l336 (k_natAny x4) x1 x2 x3 x6 x7)) x5)) (λ_=>none))) := by intro t; cases t <;> (intros; rfl)
abbrev t902:=TypeId → t846
abbrev t903:=Program → t902
abbrev t904:=t81 → t903
def l338 : t904 := (λx0=>(@Option.rec CV (λ_=>t903) (λ_ _ _ _ _=>none) (λx1 x2 x3 x4 x5 x6=>(l337 (arrInfo x2 x3) x4 x5 x6 x1)) x0))
theorem l338_eq : ∀ x0 x1 x2 x3 x4 x5, (Eq (l338 x0 x1 x2 x3 x4 x5) (@elInfo._sparseCasesOn_3 CV (λ_=>t4) x0 (λx6=>(l337 (arrInfo x1 x2) x3 x4 x5 x6)) (λ_=>none))) := by intro t; cases t <;> (intros; rfl)
abbrev t905:=CV → t226
def l339 : t905 := (λx0=>(@CV.rec (λ_=>t226) (λ_=>PUnit.{1}) (λ_ _ _ _ _=>none) (λ_ _ _ _ _ _=>none) (λx1 x2 x3 x4 x5 x6 x7=>(l338 (k_ev x4 x6) x3 x5 x7 x1 x2)) (λx1 x2 x3 _ x5 x6 x7 x8 x9 x10=>(l335 (k_ev x7 x9) x6 x8 x10 x1 x2 x3 x5)) (λ_ _ _ _ _=>none) (λ_ _ _ _ _ _=>none) (λ_ _ _ _ _ _ _=>none) (λ_ _ _ _ _ _ _=>none) (λ_ _ _ _ _ _ _ _ _ _=>none) (λ_ _ _ _ _ _=>none) (λ_ _ _ _ _ _ _ _=>none) PUnit.unit.{1} (λ_ _ _ _=>PUnit.unit.{1}) x0))
theorem l339_eq : ∀ x0 x1 x2 x3 x4 x5, (Eq (l339 x0 x1 x2 x3 x4 x5) (@o_indexAddr._sparseCasesOn_3 (λ_=>t4) x0 (λx6 x7 x8 _ x10=>(l335 (k_ev x2 x4) x1 x3 x5 x6 x7 x8 x10)) (λx6 x7=>(l338 (k_ev x2 x4) x1 x3 x5 x6 x7)) (λ_=>none))) := by intro t; cases t <;> (intros; rfl)
abbrev t906:=t81 → t226
def l340 : t906 := (λx0=>(@Option.rec CV (λ_=>t226) (λ_ _ _ _ _=>none) (λx1 x2 x3 x4 x5 x6=>(l339 x1 x2 x3 x4 x5 x6)) x0))
theorem l340_eq : ∀ x0 x1 x2 x3 x4 x5, (Eq (l340 x0 x1 x2 x3 x4 x5) (@elInfo._sparseCasesOn_3 CV (λ_=>t4) x0 (λx6=>(l339 x6 x1 x2 x3 x4 x5)) (λ_=>none))) := by intro t; cases t <;> (intros; rfl)
def k_o_indexAddr : t487 := (λx0 x1 x2 x3 x4 x5=>(l340 (k_ev x1 x3) x0 x1 x2 x4 x5))
theorem k_o_indexAddr_eq : @k_o_indexAddr = o_indexAddr := by
  delta k_o_indexAddr o_indexAddr
  simp only [l337_eq, l336_eq, l334_eq, l335_eq, l333_eq, l339_eq, l340_eq, l338_eq]
  rw [k_ev_eq, k_ifT_Ret_eq, k_ok1_eq, k_Nat_blt_eq, k_natAny_eq]
  all_goals kernel_rfl

abbrev t907:=Option UInt8
abbrev t908:=Nat → t907
abbrev t909:=t394 → t908
def k_List_get?Internal_UInt8 : t909 := (λx0 x1=>(@List.rec UInt8 (λ_=>t908) (λ_=>none) (λx2 _ x4 x5=>(@Nat.rec (λ_=>t907) (some x2) (λx6 _=>(x4 x6)) x5)) x0 x1))
theorem k_List_get?Internal_UInt8_law : ∀ x0 x1, (Eq (k_List_get?Internal_UInt8 x0 x1) (@List.get?Internal UInt8 x0 x1)) := by
  intro t
  induction t with
  | nil  =>
    intro z0
    show ((fun (_ : Nat) => none) z0) = _
    conv => rhs; rw [List.get?Internal.eq_def]
    all_goals kernel_rfl
  | cons y0 y1 ih0 =>
    intro z0
    have e0 : (fun (x0 : Nat) => (k_List_get?Internal_UInt8 y1 x0)) = (fun (x0 : Nat) => (@List.get?Internal UInt8 y1 x0)) := by
      funext z0; exact ih0 z0
    show ((fun (x0 : UInt8) (_ : t394) (x2 : t908) (x3 : Nat) => (@Nat.rec (fun (_ : Nat) => t907) (some x0) (fun (x4 : Nat) (_ : t907) => (x2 x4)) x3)) y0 y1 (fun (x0 : Nat) => (k_List_get?Internal_UInt8 y1 x0)) z0) = _
    rw [e0]
    conv => rhs; rw [List.get?Internal.eq_def]
    all_goals kernel_rfl
theorem k_List_get?Internal_UInt8_eq : @k_List_get?Internal_UInt8 = (@List.get?Internal UInt8) := by
  funext a0 a1; exact k_List_get?Internal_UInt8_law a0 a1
abbrev t910:=t164 → t576
def l341 : t910 := (λx0=>(@Option.rec Nat (λ_=>t576) (λ_ _=>none) (λx1 x2 x3=>((λx4=>(@Option.rec UInt8 (λ_=>t4) none (λx5=>((λx6=>(k_retI x2 IntKind.u8 (@Nat.cast Int (@NatCast.mk Int (λx7=>(Int.ofNat x7))) (UInt8.toNat x6)))) x5)) (k_List_get?Internal_UInt8 (@Array.toList UInt8 (ByteArray.data x3)) x4))) x1)) x0))
theorem l341_eq : ∀ x0 x1 x2, (Eq (l341 x0 x1 x2) (@Option.rec Nat (λ_=>t4) none (λx3=>((λx4=>(@Option.rec UInt8 (λ_=>t4) none (λx5=>((λx6=>(k_retI x1 IntKind.u8 (@Nat.cast Int (@NatCast.mk Int (λx7=>(Int.ofNat x7))) (UInt8.toNat x6)))) x5)) (k_List_get?Internal_UInt8 (@Array.toList UInt8 (ByteArray.data x2)) x4))) x3)) x0)) := by intro t; cases t <;> (intros; rfl)
abbrev t911:=t81 → t576
def l342 : t911 := (λx0=>(@Option.rec CV (λ_=>t576) (λ_ _=>none) (λx1 x2 x3=>(l341 (k_natAny x1) x2 x3)) x0))
theorem l342_eq : ∀ x0 x1 x2, (Eq (l342 x0 x1 x2) (@elInfo._sparseCasesOn_3 CV (λ_=>t4) x0 (λx3=>(l341 (k_natAny x3) x1 x2)) (λ_=>none))) := by intro t; cases t <;> (intros; rfl)
abbrev t912:=Value → t192
def l343 : t912 := (λx0=>(@Value.rec (λ_=>t192) (λ_=>PUnit.{1}) (λ_=>PUnit.{1}) (λ_ _ _ _=>none) (λ_ _ _ _ _=>none) (λ_ _ _ _ _=>none) (λ_ _ _ _ _ _=>none) (λx1 x2 x3 x4=>(l342 (k_ev x2 x3) x4 x1)) (λ_ _ _ _=>none) (λ_ _ _ _ _ _=>none) (λ_ _ _ _=>none) (λ_ _ _ _=>none) (λ_ _ _ _ _ _ _ _=>none) (λ_ _ _=>none) (λ_ _ _ _ _ _=>none) (λ_ _ _=>none) (λ_ _ _ _ _=>none) (λ_ _ _ _ _=>none) (λ_ _=>PUnit.unit.{1}) PUnit.unit.{1} (λ_ _ _ _=>PUnit.unit.{1}) x0))
theorem l343_eq : ∀ x0 x1 x2 x3, (Eq (l343 x0 x1 x2 x3) (@eqK._sparseCasesOn_4 (λ_=>t4) x0 (λx4=>(l342 (k_ev x1 x2) x3 x4)) (λ_=>none))) := by intro t; cases t <;> (intros; rfl)
abbrev t913:=CV → t192
def l344 : t913 := (λx0=>(@CV.rec (λ_=>t192) (λ_=>PUnit.{1}) (λ_ _ _=>none) (λx1 x2 x3 x4=>(l343 x1 x2 x3 x4)) (λ_ _ _ _ _=>none) (λ_ _ _ _ _ _ _ _=>none) (λ_ _ _=>none) (λ_ _ _ _=>none) (λ_ _ _ _ _=>none) (λ_ _ _ _ _=>none) (λ_ _ _ _ _ _ _ _=>none) (λ_ _ _ _=>none) (λ_ _ _ _ _ _=>none) PUnit.unit.{1} (λ_ _ _ _=>PUnit.unit.{1}) x0))
theorem l344_eq : ∀ x0 x1 x2 x3, (Eq (l344 x0 x1 x2 x3) (@natOf._sparseCasesOn_1 (λ_=>t4) x0 (λx4=>(l343 x4 x1 x2 x3)) (λ_=>none))) := by intro t; cases t <;> (intros; rfl)
abbrev t914:=t81 → t192
def l345 : t914 := (λx0=>(@Option.rec CV (λ_=>t192) (λ_ _ _=>none) (λx1 x2 x3 x4=>(l344 x1 x2 x3 x4)) x0))
theorem l345_eq : ∀ x0 x1 x2 x3, (Eq (l345 x0 x1 x2 x3) (@elInfo._sparseCasesOn_3 CV (λ_=>t4) x0 (λx4=>(l344 x4 x1 x2 x3)) (λ_=>none))) := by intro t; cases t <;> (intros; rfl)
abbrev t915:=TypeDesc → t200
def l346 : t915 := (λx0=>(@TypeDesc.rec (λ_=>t200) (λ_ _ _ _=>none) (λ_ _ _ _=>none) (λ_ _ _ _ _=>none) (λ_ _ _ _ _=>none) (λ_ _ _ _ _=>none) (λx1 x2 x3 x4=>(l345 (k_ev x1 x2) x1 x3 x4)) (λ_ _ _ _=>none) (λ_ _ _ _ _=>none) (λ_ _ _ _ _=>none) (λ_ _ _ _ _ _=>none) (λ_ _ _ _ _ _=>none) (λ_ _ _ _ _ _=>none) (λ_ _ _ _ _=>none) (λ_ _ _ _ _ _ _=>none) (λ_ _ _ _ _=>none) (λ_ _ _ _ _=>none) (λ_ _ _ _ _ _=>none) x0))
theorem l346_eq : ∀ x0 x1 x2 x3 x4, (Eq (l346 x0 x1 x2 x3 x4) (@o_convert._sparseCasesOn_4 (λ_=>t4) x0 (l345 (k_ev x1 x2) x1 x3 x4) (λ_=>none))) := by intro t; cases t <;> (intros; rfl)
abbrev t916:=t336 → t200
def l347 : t916 := (λx0=>(@Option.rec TypeDesc (λ_=>t200) (λ_ _ _ _=>none) (λx1 x2 x3 x4 x5=>(l346 x1 x2 x3 x4 x5)) x0))
theorem l347_eq : ∀ x0 x1 x2 x3 x4, (Eq (l347 x0 x1 x2 x3 x4) (@elInfo._sparseCasesOn_3 TypeDesc (λ_=>t4) x0 (λx5=>(l346 x5 x1 x2 x3 x4)) (λ_=>none))) := by intro t; cases t <;> (intros; rfl)
def k_o_index : t487 := (λx0 x1 x2 x3 x4 x5=>(l347 (Program.underlying x0 x2) x1 x3 x4 x5))
theorem k_o_index_eq : @k_o_index = o_index := by
  delta k_o_index o_index
  simp only [l346_eq, l345_eq, l344_eq, l342_eq, l341_eq, l343_eq, l347_eq]
  rw [k_List_get?Internal_UInt8_eq, k_retI_eq, k_natAny_eq, k_ev_eq]
  all_goals kernel_rfl

abbrev t917:=CV → t786
abbrev t918:=t164 → t917
def l349 : t918 := (λx0=>(@Option.rec Nat (λ_=>t917) (λx1 x2 x3=>(k_ok1 (@Bool.rec (λ_=>CV) x1 (CV.tup (x1 :: ((CV.val (Value.bool Bool.false)) :: []))) x2) x3)) (λ_ _ _ _=>none) x0))
theorem l349_eq : ∀ x0 x1 x2 x3, (Eq (l349 x0 x1 x2 x3) (@sliceV._sparseCasesOn_7 Nat (λ_=>t4) x0 (k_ok1 (@Bool.rec (λ_=>CV) x1 (CV.tup (x1 :: ((CV.val (Value.bool Bool.false)) :: []))) x2) x3) (λ_=>none))) := by intro t; cases t <;> (intros; rfl)
abbrev t919:=Value → t917
def l350 : t919 := (λx0=>(@Value.rec (λ_=>t917) (λ_=>PUnit.{1}) (λ_=>PUnit.{1}) (λ_ _ _ _=>none) (λ_ _ _ _ _=>none) (λ_ _ _ _ _=>none) (λ_ _ _ _ _ _=>none) (λ_ _ _ _=>none) (λ_ _ _ _=>none) (λ_ _ _ _ _ _=>none) (λx1 x2 x3 x4=>(l349 x1 x2 x3 x4)) (λ_ _ _ _=>none) (λ_ _ _ _ _ _ _ _=>none) (λ_ _ _=>none) (λ_ _ _ _ _ _=>none) (λ_ _ _=>none) (λ_ _ _ _ _=>none) (λ_ _ _ _ _=>none) (λ_ _=>PUnit.unit.{1}) PUnit.unit.{1} (λ_ _ _ _=>PUnit.unit.{1}) x0))
theorem l350_eq : ∀ x0 x1 x2 x3, (Eq (l350 x0 x1 x2 x3) (@lookupV._sparseCasesOn_4 (λ_=>t4) x0 (λx4=>(l349 x4 x1 x2 x3)) (λ_=>none))) := by intro t; cases t <;> (intros; rfl)
abbrev t920:=t367 → t917
def l351 : t920 := (λx0=>(@Option.rec t246 (λ_=>t917) (λx1 x2 x3=>(k_ok1 (@Bool.rec (λ_=>CV) x1 (CV.tup (x1 :: ((CV.val (Value.bool Bool.false)) :: []))) x2) x3)) (λx1 _ x3 x4=>(@Prod.rec Nat CV (λ_=>t4) (λx5 x6=>((λ_ x8=>(k_ok1 (@Bool.rec (λ_=>CV) x8 (CV.tup (x8 :: ((CV.val (Value.bool Bool.true)) :: []))) x3) x4)) x5 x6)) x1)) x0))
theorem l351_eq : ∀ x0 x1 x2 x3, (Eq (l351 x0 x1 x2 x3) (@Option.rec t246 (λ_=>t4) (k_ok1 (@Bool.rec (λ_=>CV) x1 (CV.tup (x1 :: ((CV.val (Value.bool Bool.false)) :: []))) x2) x3) (λx4=>(@Prod.rec Nat CV (λ_=>t4) (λx5 x6=>((λ_ x8=>(k_ok1 (@Bool.rec (λ_=>CV) x8 (CV.tup (x8 :: ((CV.val (Value.bool Bool.true)) :: []))) x2) x3)) x5 x6)) x4)) x0)) := by intro t; cases t <;> (intros; rfl)
abbrev t921:=CV → t917
abbrev t922:=TypeId → t921
abbrev t923:=CO → t922
def l352 : t923 := (λx0=>(@CO.rec (λ_=>t922) (λ_ _ _ _ _ _ _ _=>none) (λx1 x2 _ x4 x5 x6 x7 x8=>(@Bool.rec (λ_=>t4) (@Option.rec t367 (λ_=>t4) none (λx9=>(l351 x9 x5 x7 x8)) (k_findE x6 x2 (nat_lit 0))) none (@Bool.rec (λ_=>Bool) Bool.true Bool.false (Nat.beq x1 x4)))) (λ_ _ _ _ _ _ _ _ _ _ _ _ _=>none) (λ_ _ _ _ _=>none) (λ_ _ _ _ _=>none) x0))
theorem l352_eq : ∀ x0 x1 x2 x3 x4 x5, (Eq (l352 x0 x1 x2 x3 x4 x5) (@lookupV._sparseCasesOn_2 (λ_=>t4) x0 (λx6 x7 _=>(@Bool.rec (λ_=>t4) (@Option.rec t367 (λ_=>t4) none (λx9=>(l351 x9 x2 x4 x5)) (k_findE x3 x7 (nat_lit 0))) none (@Bool.rec (λ_=>Bool) Bool.true Bool.false (Nat.beq x6 x1)))) (λ_=>none))) := by intro t; cases t <;> (intros; rfl)
abbrev t924:=TypeId → t19
abbrev t925:=S → t924
abbrev t926:=Bool → t925
abbrev t927:=CV → t926
abbrev t928:=CV → t927
def l353 : t928 := (λx0=>(@CV.rec (λ_=>t927) (λ_=>PUnit.{1}) (λ_ _ _ _ _=>none) (λx1 x2 x3 x4 _ _=>(l350 x1 x2 x3 x4)) (λ_ _ _ _ _ _ _=>none) (λ_ _ _ _ _ _ _ _ _ _=>none) (λ_ _ _ _ _=>none) (λx1 x2 x3 x4 x5 x6=>(k_rd_Ret x4 x1 (λx7 x8=>(l352 x7 x5 x2 x6 x3 x8)))) (λ_ _ _ _ _ _ _=>none) (λ_ _ _ _ _ _ _=>none) (λ_ _ _ _ _ _ _ _ _ _=>none) (λ_ _ _ _ _ _=>none) (λ_ _ _ _ _ _ _ _=>none) PUnit.unit.{1} (λ_ _ _ _=>PUnit.unit.{1}) x0))
theorem l353_eq : ∀ x0 x1 x2 x3 x4 x5, (Eq (l353 x0 x1 x2 x3 x4 x5) (@lookupV._sparseCasesOn_3 (λ_=>t4) x0 (λx6=>(l350 x6 x1 x2 x3)) (λx6=>(k_rd_Ret x3 x6 (λx7 x8=>(l352 x7 x4 x1 x5 x2 x8)))) (λ_=>none))) := by intro t; cases t <;> (intros; rfl)
abbrev t929:=Bool → t186
abbrev t930:=CV → t929
abbrev t931:=CV → t930
abbrev t932:=TypeId → t931
def k_lookupV : t932 := (λx0 x1 x2 x3 x4 x5=>(l353 x4 x1 x3 x5 x0 x2))
theorem k_lookupV_eq : @k_lookupV = lookupV := by
  delta k_lookupV lookupV
  simp only [l351_eq, l353_eq, l350_eq, l352_eq, l349_eq]
  rw [k_ok1_eq, k_findE_eq, k_rd_Ret_eq]
  all_goals kernel_rfl

abbrev t933:=Value → t81
abbrev t934:=Value → t933
def l354 : t934 := (λx0=>(@Value.rec (λ_=>t933) (λ_=>PUnit.{1}) (λ_=>PUnit.{1}) (λ_ x2=>(some (CV.val x2))) (λ_ _ x3=>(some (CV.val x3))) (λ_ _ x3=>(some (CV.val x3))) (λ_ _ _ x4=>(some (CV.val x4))) (λ_ x2=>(some (CV.val x2))) (λ_ x2=>(some (CV.val x2))) (λ_ _ _ x4=>(some (CV.val x4))) (λ_ x2=>(some (CV.val x2))) (λ_ x2=>(some (CV.val x2))) (λ_ _ _ _ _ x6=>(some (CV.val x6))) (λx1=>(some (CV.val x1))) (λ_ _ _ x4=>(some (CV.val x4))) (λx1=>(some (CV.val x1))) (λx1 _ _=>(@Option.rec t7 (λ_=>t81) none (λx4=>((λx5=>(some (CV.agg x5))) x4)) (k_valL (@Array.toList Value x1)))) (λ_ _ x3=>(some (CV.val x3))) (λ_ _=>PUnit.unit.{1}) PUnit.unit.{1} (λ_ _ _ _=>PUnit.unit.{1}) x0))
theorem l354_eq : ∀ x0 x1, (Eq (l354 x0 x1) (@bok._sparseCasesOn_2 (λ_=>t81) x0 (λx2=>(@Option.rec t7 (λ_=>t81) none (λx3=>((λx4=>(some (CV.agg x4))) x3)) (k_valL (@Array.toList Value x2)))) (λ_=>(some (CV.val x1))))) := by intro t; cases t <;> (intros; rfl)
abbrev t935:=TypeId → t81
abbrev t936:=Program → t935
def k_oneZ : t936 := (λx0 x1=>(@Option.rec TypeInfo (λ_=>t81) none (λx2=>((λx3=>(@Option.rec Value (λ_=>t81) none (λx4=>(l354 x4 x4)) (TypeInfo.zero x3))) x2)) (Tables.info? (Program.toTables x0) x1)))
theorem k_oneZ_eq : @k_oneZ = oneZ := by
  delta k_oneZ oneZ
  simp only [l354_eq]
  rw [k_valL_eq]
  all_goals kernel_rfl

abbrev t937:=TypeId → t924
abbrev t938:=S → t937
abbrev t939:=Bool → t938
abbrev t940:=Program → t939
abbrev t941:=t81 → t940
def l348 : t941 := (λx0=>(@Option.rec CV (λ_=>t940) (λ_ _ _ _ _ _=>none) (λx1 x2 x3 x4 x5 x6 x7=>(@Option.rec CV (λ_=>t4) none (λx8=>((λx9=>(k_ifT_Ret (k_keyOk x2 x5 x1) (k_lookupV x5 x9 x1 x3 x7 x4))) x8)) (k_oneZ x2 x6))) x0))
theorem l348_eq : ∀ x0 x1 x2 x3 x4 x5 x6, (Eq (l348 x0 x1 x2 x3 x4 x5 x6) (@elInfo._sparseCasesOn_3 CV (λ_=>t4) x0 (λx7=>(@Option.rec CV (λ_=>t4) none (λx8=>((λx9=>(k_ifT_Ret (k_keyOk x1 x4 x7) (k_lookupV x4 x9 x7 x2 x6 x3))) x8)) (k_oneZ x1 x5))) (λ_=>none))) := by intro t; cases t <;> (intros; rfl)
abbrev t942:=TypeId → t74
abbrev t943:=S → t942
abbrev t944:=Bool → t943
abbrev t945:=Operand → t944
abbrev t946:=t14 → t945
abbrev t947:=Program → t946
abbrev t948:=t81 → t947
def l355 : t948 := (λx0=>(@Option.rec CV (λ_=>t947) (λ_ _ _ _ _ _ _=>none) (λx1 x2 x3 x4 x5 x6 x7 x8=>(l348 (k_ev x3 x4) x2 x5 x6 x7 x8 x1)) x0))
theorem l355_eq : ∀ x0 x1 x2 x3 x4 x5 x6 x7, (Eq (l355 x0 x1 x2 x3 x4 x5 x6 x7) (@elInfo._sparseCasesOn_3 CV (λ_=>t4) x0 (λx8=>(l348 (k_ev x2 x3) x1 x4 x5 x6 x7 x8)) (λ_=>none))) := by intro t; cases t <;> (intros; rfl)
abbrev t949:=Operand → t786
abbrev t950:=Operand → t949
abbrev t951:=t14 → t950
abbrev t952:=Program → t951
abbrev t953:=t461 → t952
def l356 : t953 := (λx0=>(@Option.rec t460 (λ_=>t952) (λ_ _ _ _ _ _=>none) (λx1 x2 x3 x4 x5 x6 x7=>(@Prod.rec TypeId TypeId (λ_=>t4) (λx8 x9=>(l355 (k_ev x3 x4) x2 x3 x5 x6 x7 x8 x9)) x1)) x0))
theorem l356_eq : ∀ x0 x1 x2 x3 x4 x5 x6, (Eq (l356 x0 x1 x2 x3 x4 x5 x6) (@elInfo._sparseCasesOn_3 t460 (λ_=>t4) x0 (λx7=>(@Prod.rec TypeId TypeId (λ_=>t4) (λx8 x9=>(l355 (k_ev x2 x3) x1 x2 x4 x5 x6 x8 x9)) x7)) (λ_=>none))) := by intro t; cases t <;> (intros; rfl)
abbrev t954:=TypeId → t950
abbrev t955:=t14 → t954
abbrev t956:=Program → t955
def k_o_lookup : t956 := (λx0 x1 x2 x3 x4 x5 x6=>(l356 (k_mapInfo x0 x2) x0 x1 x3 x4 x5 x6))
theorem k_o_lookup_eq : @k_o_lookup = o_lookup := by
  delta k_o_lookup o_lookup
  simp only [l348_eq, l356_eq, l355_eq]
  rw [k_mapInfo_eq, k_oneZ_eq, k_ifT_Ret_eq, k_lookupV_eq, k_keyOk_eq, k_ev_eq]
  all_goals kernel_rfl

abbrev t957:=S → t445
abbrev t958:=Nat → t957
abbrev t959:=TypeId → t958
abbrev t960:=t345 → t959
def l357 : t960 := (λx0=>(@Option.rec t344 (λ_=>t959) (λ_ _ _ _ _=>none) (λx1 x2 x3 x4 x5 x6=>((λx7=>(k_wr_Ret x4 x3 (some (CO.map x2 x7 (Nat.add x5 (nat_lit 1)))) (λx8=>(k_ok1 (CV.tup (x6 :: ((CV.val (Value.int IntKind.i64 (Int.ofNat x5))) :: []))) x8)))) x1)) x0))
theorem l357_eq : ∀ x0 x1 x2 x3 x4 x5, (Eq (l357 x0 x1 x2 x3 x4 x5) (@Option.rec t344 (λ_=>t4) none (λx6=>((λx7=>(k_wr_Ret x3 x2 (some (CO.map x1 x7 (Nat.add x4 (nat_lit 1)))) (λx8=>(k_ok1 (CV.tup (x5 :: ((CV.val (Value.int IntKind.i64 (Int.ofNat x4))) :: []))) x8)))) x6)) x0)) := by intro t; cases t <;> (intros; rfl)
abbrev t961:=Nat → t360
abbrev t962:=TypeId → t961
abbrev t963:=t81 → t962
def l358 : t963 := (λx0=>(@Option.rec CV (λ_=>t962) (λ_ _ _ _ _ _=>none) (λx1 x2 x3 x4 x5 x6 x7=>((λx8=>(l357 (k_snoc_511 x6 (x4, (x8, x7))) x2 x3 x5 x7 x8)) x1)) x0))
theorem l358_eq : ∀ x0 x1 x2 x3 x4 x5 x6, (Eq (l358 x0 x1 x2 x3 x4 x5 x6) (@Option.rec CV (λ_=>t4) none (λx7=>((λx8=>(l357 (k_snoc_511 x5 (x3, (x8, x6))) x1 x2 x4 x6 x8)) x7)) x0)) := by intro t; cases t <;> (intros; rfl)
abbrev t964:=CV → t41
abbrev t965:=Nat → t964
abbrev t966:=S → t965
abbrev t967:=Nat → t966
abbrev t968:=TypeId → t967
abbrev t969:=t345 → t968
def l359 : t969 := (λx0=>(@Option.rec t344 (λ_=>t968) (λ_ _ _ _ _ _=>none) (λx1 x2 x3 x4 x5 x6 x7=>((λx8=>(k_wr_Ret x4 x3 (some (CO.map x2 x8 x5)) (λx9=>(k_ok1 (CV.tup (x6 :: ((CV.val (Value.int IntKind.i64 (Int.ofNat x7))) :: []))) x9)))) x1)) x0))
theorem l359_eq : ∀ x0 x1 x2 x3 x4 x5 x6, (Eq (l359 x0 x1 x2 x3 x4 x5 x6) (@Option.rec t344 (λ_=>t4) none (λx7=>((λx8=>(k_wr_Ret x3 x2 (some (CO.map x1 x8 x4)) (λx9=>(k_ok1 (CV.tup (x5 :: ((CV.val (Value.int IntKind.i64 (Int.ofNat x6))) :: []))) x9)))) x7)) x0)) := by intro t; cases t <;> (intros; rfl)
abbrev t970:=CV → t19
abbrev t971:=Nat → t970
abbrev t972:=Nat → t971
abbrev t973:=t344 → t972
abbrev t974:=S → t973
abbrev t975:=CV → t974
abbrev t976:=Nat → t975
abbrev t977:=TypeId → t976
abbrev t978:=t342 → t977
def l360 : t978 := (λx0=>(@Prod.rec CV Nat (λ_=>t977) (λx1 x2 x3 x4 x5 x6 x7 x8 x9 x10 x11=>((λ_ _ x14=>(l359 (k_setE x9 x5 x10 x7) x3 x4 x6 x8 x10 x14)) x11 x1 x2)) x0))
theorem l360_eq : ∀ x0 x1 x2 x3 x4 x5 x6 x7 x8 x9, (Eq (l360 x0 x1 x2 x3 x4 x5 x6 x7 x8 x9) (@Prod.rec CV Nat (λ_=>t4) (λx10 x11=>((λ_ _ x14=>(l359 (k_setE x7 x3 x8 x5) x1 x2 x4 x6 x8 x14)) x9 x10 x11)) x0)) := by intro t; cases t <;> (intros; rfl)
abbrev t979:=Option t343
abbrev t980:=t344 → t891
abbrev t981:=S → t980
abbrev t982:=CV → t981
abbrev t983:=Nat → t982
abbrev t984:=TypeId → t983
abbrev t985:=t979 → t984
def l361 : t985 := (λx0=>(@Option.rec t343 (λ_=>t984) (λ_ _ _ _ _ _ _ _=>none) (λx1 x2 x3 x4 x5 x6 x7 x8 x9=>(@Prod.rec CV t342 (λ_=>t4) (λx10 x11=>(l360 x11 x2 x3 x4 x5 x6 x7 x8 x9 x10)) x1)) x0))
theorem l361_eq : ∀ x0 x1 x2 x3 x4 x5 x6 x7 x8, (Eq (l361 x0 x1 x2 x3 x4 x5 x6 x7 x8) (@Option.rec t343 (λ_=>t4) none (λx9=>(@Prod.rec CV t342 (λ_=>t4) (λx10 x11=>(l360 x11 x1 x2 x3 x4 x5 x6 x7 x8 x10)) x9)) x0)) := by intro t; cases t <;> (intros; rfl)
abbrev t986:=Nat → t979
abbrev t987:=t344 → t986
def k_List_get?Internal_511 : t987 := (λx0 x1=>(@List.rec t343 (λ_=>t986) (λ_=>none) (λx2 _ x4 x5=>(@Nat.rec (λ_=>t979) (some x2) (λx6 _=>(x4 x6)) x5)) x0 x1))
theorem k_List_get?Internal_511_law : ∀ x0 x1, (Eq (k_List_get?Internal_511 x0 x1) (@List.get?Internal t343 x0 x1)) := by
  intro t
  induction t with
  | nil  =>
    intro z0
    show ((fun (_ : Nat) => none) z0) = _
    conv => rhs; rw [List.get?Internal.eq_def]
    all_goals kernel_rfl
  | cons y0 y1 ih0 =>
    intro z0
    have e0 : (fun (x0 : Nat) => (k_List_get?Internal_511 y1 x0)) = (fun (x0 : Nat) => (@List.get?Internal t343 y1 x0)) := by
      funext z0; exact ih0 z0
    show ((fun (x0 : t343) (_ : t344) (x2 : t986) (x3 : Nat) => (@Nat.rec (fun (_ : Nat) => t979) (some x0) (fun (x4 : Nat) (_ : t979) => (x2 x4)) x3)) y0 y1 (fun (x0 : Nat) => (k_List_get?Internal_511 y1 x0)) z0) = _
    rw [e0]
    conv => rhs; rw [List.get?Internal.eq_def]
    all_goals kernel_rfl
theorem k_List_get?Internal_511_eq : @k_List_get?Internal_511 = (@List.get?Internal t343) := by
  funext a0 a1; exact k_List_get?Internal_511_law a0 a1
abbrev t988:=t246 → t962
def l362 : t988 := (λx0=>(@Prod.rec Nat CV (λ_=>t962) (λx1 x2 x3 x4 x5 x6 x7 x8=>((λx9 x10=>(l361 (k_List_get?Internal_511 x7 x9) x3 x4 x5 x6 x7 x8 x9 x10)) x1 x2)) x0))
theorem l362_eq : ∀ x0 x1 x2 x3 x4 x5 x6, (Eq (l362 x0 x1 x2 x3 x4 x5 x6) (@Prod.rec Nat CV (λ_=>t4) (λx7 x8=>((λx9 x10=>(l361 (k_List_get?Internal_511 x5 x9) x1 x2 x3 x4 x5 x6 x9 x10)) x7 x8)) x0)) := by intro t; cases t <;> (intros; rfl)
abbrev t989:=TypeId → t962
abbrev t990:=Program → t989
abbrev t991:=t367 → t990
def l363 : t991 := (λx0=>(@Option.rec t246 (λ_=>t990) (λx1 x2 x3 x4 x5 x6 x7 x8=>(l358 (k_oneZ x1 x3) x2 x4 x5 x6 x7 x8)) (λx1 _ x3 _ x5 x6 x7 x8 x9=>(l362 x1 x3 x5 x6 x7 x8 x9)) x0))
theorem l363_eq : ∀ x0 x1 x2 x3 x4 x5 x6 x7 x8, (Eq (l363 x0 x1 x2 x3 x4 x5 x6 x7 x8) (@Option.rec t246 (λ_=>t4) (l358 (k_oneZ x1 x3) x2 x4 x5 x6 x7 x8) (λx9=>(l362 x9 x2 x4 x5 x6 x7 x8)) x0)) := by intro t; cases t <;> (intros; rfl)
abbrev t992:=Bool → t990
def l364 : t992 := (λx0=>(@Bool.rec (λ_=>t990) (λx1 x2 x3 x4 x5 x6 x7 x8=>(@Option.rec t367 (λ_=>t4) none (λx9=>(l363 x9 x1 x2 x3 x4 x5 x6 x7 x8)) (k_findE x5 x7 (nat_lit 0)))) (λ_ _ _ _ _ _ _ _=>none) x0))
theorem l364_eq : ∀ x0 x1 x2 x3 x4 x5 x6 x7 x8, (Eq (l364 x0 x1 x2 x3 x4 x5 x6 x7 x8) (@Bool.rec (λ_=>t4) (@Option.rec t367 (λ_=>t4) none (λx9=>(l363 x9 x1 x2 x3 x4 x5 x6 x7 x8)) (k_findE x5 x7 (nat_lit 0))) none x0)) := by intro t; cases t <;> (intros; rfl)
abbrev t993:=TypeId → t475
abbrev t994:=TypeId → t993
abbrev t995:=Program → t994
abbrev t996:=CO → t995
def l365 : t996 := (λx0=>(@CO.rec (λ_=>t995) (λ_ _ _ _ _ _ _ _ _=>none) (λx1 x2 x3 x4 x5 x6 x7 x8 x9=>(l364 (@Bool.rec (λ_=>Bool) Bool.true Bool.false (Nat.beq x1 x5)) x4 x5 x6 x7 x8 x9 x2 x3)) (λ_ _ _ _ _ _ _ _ _ _ _ _ _ _=>none) (λ_ _ _ _ _ _=>none) (λ_ _ _ _ _ _=>none) x0))
theorem l365_eq : ∀ x0 x1 x2 x3 x4 x5 x6, (Eq (l365 x0 x1 x2 x3 x4 x5 x6) (@lookupV._sparseCasesOn_2 (λ_=>t4) x0 (λx7 x8 x9=>(l364 (@Bool.rec (λ_=>Bool) Bool.true Bool.false (Nat.beq x7 x2)) x1 x2 x3 x4 x5 x6 x8 x9)) (λ_=>none))) := by intro t; cases t <;> (intros; rfl)
abbrev t997:=TypeId → t285
abbrev t998:=S → t997
abbrev t999:=Program → t998
abbrev t1000:=t81 → t999
def l366 : t1000 := (λx0=>(@Option.rec CV (λ_=>t999) (λ_ _ _ _ _=>none) (λx1 x2 x3 x4 x5 x6=>(k_ifT_Ret (k_keyOk x2 x4 x1) (k_rd_Ret x3 x6 (λx7 x8=>(l365 x7 x2 x4 x5 x6 x1 x8))))) x0))
theorem l366_eq : ∀ x0 x1 x2 x3 x4 x5, (Eq (l366 x0 x1 x2 x3 x4 x5) (@elInfo._sparseCasesOn_3 CV (λ_=>t4) x0 (λx6=>(k_ifT_Ret (k_keyOk x1 x3 x6) (k_rd_Ret x2 x5 (λx7 x8=>(l365 x7 x1 x3 x4 x5 x6 x8))))) (λ_=>none))) := by intro t; cases t <;> (intros; rfl)
abbrev t1001:=Operand → t943
abbrev t1002:=t14 → t1001
abbrev t1003:=Program → t1002
abbrev t1004:=CV → t1003
def l367 : t1004 := (λx0=>(@CV.rec (λ_=>t1003) (λ_=>PUnit.{1}) (λ_ _ _ _ _ _=>none) (λ_ _ _ _ _ _ _=>none) (λ_ _ _ _ _ _ _ _=>none) (λ_ _ _ _ _ _ _ _ _ _ _=>none) (λ_ _ _ _ _ _=>none) (λx1 x2 x3 x4 x5 x6 x7=>(l366 (k_ev x3 x4) x2 x5 x6 x7 x1)) (λ_ _ _ _ _ _ _ _=>none) (λ_ _ _ _ _ _ _ _=>none) (λ_ _ _ _ _ _ _ _ _ _ _=>none) (λ_ _ _ _ _ _ _=>none) (λ_ _ _ _ _ _ _ _ _=>none) PUnit.unit.{1} (λ_ _ _ _=>PUnit.unit.{1}) x0))
theorem l367_eq : ∀ x0 x1 x2 x3 x4 x5 x6, (Eq (l367 x0 x1 x2 x3 x4 x5 x6) (@o_mapUpdate._sparseCasesOn_1 (λ_=>t4) x0 (λx7=>(l366 (k_ev x2 x3) x1 x4 x5 x6 x7)) (λ_=>none))) := by intro t; cases t <;> (intros; rfl)
abbrev t1005:=t81 → t1003
def l368 : t1005 := (λx0=>(@Option.rec CV (λ_=>t1003) (λ_ _ _ _ _ _=>none) (λx1 x2 x3 x4 x5 x6 x7=>(l367 x1 x2 x3 x4 x5 x6 x7)) x0))
theorem l368_eq : ∀ x0 x1 x2 x3 x4 x5 x6, (Eq (l368 x0 x1 x2 x3 x4 x5 x6) (@elInfo._sparseCasesOn_3 CV (λ_=>t4) x0 (λx7=>(l367 x7 x1 x2 x3 x4 x5 x6)) (λ_=>none))) := by intro t; cases t <;> (intros; rfl)
abbrev t1006:=Program → t200
abbrev t1007:=t461 → t1006
def l369 : t1007 := (λx0=>(@Option.rec t460 (λ_=>t1006) (λ_ _ _ _ _=>none) (λx1 x2 x3 x4 x5 x6=>(@Prod.rec TypeId TypeId (λ_=>t4) (λx7 x8=>(l368 (k_ev x3 x4) x2 x3 x5 x6 x7 x8)) x1)) x0))
theorem l369_eq : ∀ x0 x1 x2 x3 x4 x5, (Eq (l369 x0 x1 x2 x3 x4 x5) (@elInfo._sparseCasesOn_3 t460 (λ_=>t4) x0 (λx6=>(@Prod.rec TypeId TypeId (λ_=>t4) (λx7 x8=>(l368 (k_ev x2 x3) x1 x2 x4 x5 x7 x8)) x6)) (λ_=>none))) := by intro t; cases t <;> (intros; rfl)
def k_o_mapEntry : t487 := (λx0 x1 x2 x3 x4 x5=>(l369 (k_mapInfo x0 x2) x0 x1 x3 x4 x5))
theorem k_o_mapEntry_eq : @k_o_mapEntry = o_mapEntry := by
  delta k_o_mapEntry o_mapEntry
  simp only [l367_eq, l365_eq, l360_eq, l369_eq, l361_eq, l357_eq, l368_eq, l359_eq, l358_eq, l366_eq, l363_eq, l362_eq, l364_eq]
  rw [k_mapInfo_eq, k_wr_Ret_eq, k_ok1_eq, k_snoc_511_eq, k_setE_eq, k_List_get?Internal_511_eq, k_oneZ_eq, k_findE_eq, k_ifT_Ret_eq, k_rd_Ret_eq, k_keyOk_eq, k_ev_eq]
  all_goals kernel_rfl

abbrev t1008:=Nat → t346
abbrev t1009:=Nat → t349
abbrev t1010:=CV → t1009
abbrev t1011:=CV → t1010
abbrev t1012:=t1008 → t1011
abbrev t1013:=CV → t1012
abbrev t1014:=Nat → t1013
abbrev t1015:=Bool → t1014
def l371 : t1015 := (λx0=>(@Bool.rec (λ_=>t1014) (λx1 x2 x3 x4 x5 x6 _=>(@Option.rec t344 (λ_=>t345) none (λx8=>(some ((x4, (x5, x6)) :: x8))) (x3 x1 x2))) (λ_ x2 _ x4 _ x6 x7=>(some ((x4, (x2, x6)) :: x7))) x0))
theorem l371_eq : ∀ x0 x1 x2 x3 x4 x5 x6 x7, (Eq (l371 x0 x1 x2 x3 x4 x5 x6 x7) (@Bool.rec (λ_=>t345) (@Option.rec t344 (λ_=>t345) none (λx8=>(some ((x4, (x5, x6)) :: x8))) (x3 x1 x2)) (some ((x4, (x2, x6)) :: x7)) x0)) := by intro t; cases t <;> (intros; rfl)
abbrev t1016:=t1008 → t345
abbrev t1017:=t344 → t1016
abbrev t1018:=CV → t1017
abbrev t1019:=Nat → t1018
abbrev t1020:=t343 → t1019
def l372 : t1020 := (λx0=>(@Prod.rec CV t342 (λ_=>t1019) (λx1 x2 x3 x4 x5 x6=>(@Prod.rec CV Nat (λ_=>t345) (λx7 x8=>(l371 (Nat.beq x8 x3) x3 x4 x6 x1 x7 x8 x5)) x2)) x0))
theorem l372_eq : ∀ x0 x1 x2 x3 x4, (Eq (l372 x0 x1 x2 x3 x4) (@Prod.rec CV t342 (λ_=>t345) (λx5 x6=>(@Prod.rec CV Nat (λ_=>t345) (λx7 x8=>(l371 (Nat.beq x8 x1) x1 x2 x4 x5 x7 x8 x3)) x6)) x0)) := by intro t; cases t <;> (intros; rfl)
abbrev t1021:=Nat → t350
def k_setB : t1021 := (λx0 x1 x2=>(@List.rec t343 (λ_=>t1008) (λ_ _=>none) (λx3 x4 x5 x6 x7=>(l372 x3 x6 x7 x4 x5)) x2 x0 x1))
theorem k_setB_law : ∀ x0 x1 x2, (Eq (k_setB x1 x2 x0) (setB x1 x2 x0)) := by
  intro t
  induction t with
  | nil  =>
    intro z0 z1
    show ((fun (_ : Nat) (_ : CV) => none) z0 z1) = _
    conv => rhs; rw [Ev.setB.eq_def]
    all_goals kernel_rfl
  | cons y0 y1 ih0 =>
    intro z0 z1
    have e0 : (fun (x0 : Nat) (x1 : CV) => (k_setB x0 x1 y1)) = (fun (x0 : Nat) (x1 : CV) => (setB x0 x1 y1)) := by
      funext z0 z1; exact ih0 z0 z1
    show ((fun (x0 : t343) (x1 : t344) (x2 : t1008) (x3 : Nat) (x4 : CV) => (l372 x0 x3 x4 x1 x2)) y0 y1 (fun (x0 : Nat) (x1 : CV) => (k_setB x0 x1 y1)) z0 z1) = _
    rw [e0]
    conv => rhs; rw [Ev.setB.eq_def]
    try simp only [l371_eq, l372_eq]
    all_goals kernel_rfl
theorem k_setB_eq : @k_setB = setB := by
  funext a0 a1 a2; exact k_setB_law a2 a0 a1
def l370 : t477 := (λx0=>(@CO.rec (λ_=>t476) (λ_ _ _ _ _ _ _=>none) (λx1 x2 x3 x4 x5 x6 x7=>(@Option.rec t344 (λ_=>t4) none (λx8=>((λx9=>(k_wr_Ret x7 x4 (some (CO.map x1 x9 x3)) (λx10=>(k_ok1 (CV.tup []) x10)))) x8)) (k_setB x5 x6 x2))) (λ_ _ _ _ _ _ _ _ _ _ _ _=>none) (λ_ _ _ _=>none) (λ_ _ _ _=>none) x0))
theorem l370_eq : ∀ x0 x1 x2 x3 x4, (Eq (l370 x0 x1 x2 x3 x4) (@lookupV._sparseCasesOn_2 (λ_=>t4) x0 (λx5 x6 x7=>(@Option.rec t344 (λ_=>t4) none (λx8=>((λx9=>(k_wr_Ret x4 x1 (some (CO.map x5 x9 x7)) (λx10=>(k_ok1 (CV.tup []) x10)))) x8)) (k_setB x2 x3 x6))) (λ_=>none))) := by intro t; cases t <;> (intros; rfl)
def l373 : t871 := (λx0=>(@Option.rec CV (λ_=>t846) (λ_ _ _=>none) (λx1 x2 x3 x4=>(k_rd_Ret x2 x3 (λx5 x6=>(l370 x5 x3 x4 x1 x6)))) x0))
theorem l373_eq : ∀ x0 x1 x2 x3, (Eq (l373 x0 x1 x2 x3) (@elInfo._sparseCasesOn_3 CV (λ_=>t4) x0 (λx4=>(k_rd_Ret x1 x2 (λx5 x6=>(l370 x5 x2 x3 x4 x6)))) (λ_=>none))) := by intro t; cases t <;> (intros; rfl)
abbrev t1022:=Int → t481
def l374 : t1022 := (λx0=>(@Int.rec (λ_=>t481) (λx1 x2 x3 x4 x5=>(l373 (k_ev x2 x3) x4 x5 x1)) (λ_ _ _ _ _=>none) x0))
theorem l374_eq : ∀ x0 x1 x2 x3 x4, (Eq (l374 x0 x1 x2 x3 x4) (@natOf._sparseCasesOn_4 (λ_=>t4) x0 (λx5=>(l373 (k_ev x1 x2) x3 x4 x5)) (λ_=>none))) := by intro t; cases t <;> (intros; rfl)
abbrev t1023:=Value → t481
def l375 : t1023 := (λx0=>(@Value.rec (λ_=>t481) (λ_=>PUnit.{1}) (λ_=>PUnit.{1}) (λ_ _ _ _ _=>none) (λ_ x2 x3 x4 x5 x6=>(l374 x2 x3 x4 x5 x6)) (λ_ _ _ _ _ _=>none) (λ_ _ _ _ _ _ _=>none) (λ_ _ _ _ _=>none) (λ_ _ _ _ _=>none) (λ_ _ _ _ _ _ _=>none) (λ_ _ _ _ _=>none) (λ_ _ _ _ _=>none) (λ_ _ _ _ _ _ _ _ _=>none) (λ_ _ _ _=>none) (λ_ _ _ _ _ _ _=>none) (λ_ _ _ _=>none) (λ_ _ _ _ _ _=>none) (λ_ _ _ _ _ _=>none) (λ_ _=>PUnit.unit.{1}) PUnit.unit.{1} (λ_ _ _ _=>PUnit.unit.{1}) x0))
theorem l375_eq : ∀ x0 x1 x2 x3 x4, (Eq (l375 x0 x1 x2 x3 x4) (@natOf._sparseCasesOn_2 (λ_=>t4) x0 (λ_ x6=>(l374 x6 x1 x2 x3 x4)) (λ_=>none))) := by intro t; cases t <;> (intros; rfl)
def l376 : t482 := (λx0=>(@CV.rec (λ_=>t481) (λ_=>PUnit.{1}) (λ_ _ _ _=>none) (λx1 x2 x3 x4 x5=>(l375 x1 x2 x3 x4 x5)) (λ_ _ _ _ _ _=>none) (λ_ _ _ _ _ _ _ _ _=>none) (λ_ _ _ _=>none) (λ_ _ _ _ _=>none) (λ_ _ _ _ _ _=>none) (λ_ _ _ _ _ _=>none) (λ_ _ _ _ _ _ _ _ _=>none) (λ_ _ _ _ _=>none) (λ_ _ _ _ _ _ _=>none) PUnit.unit.{1} (λ_ _ _ _=>PUnit.unit.{1}) x0))
theorem l376_eq : ∀ x0 x1 x2 x3 x4, (Eq (l376 x0 x1 x2 x3 x4) (@natOf._sparseCasesOn_1 (λ_=>t4) x0 (λx5=>(l375 x5 x1 x2 x3 x4)) (λ_=>none))) := by intro t; cases t <;> (intros; rfl)
def l377 : t483 := (λx0=>(@Option.rec CV (λ_=>t481) (λ_ _ _ _=>none) (λx1 x2 x3 x4 x5=>(l376 x1 x2 x3 x4 x5)) x0))
theorem l377_eq : ∀ x0 x1 x2 x3 x4, (Eq (l377 x0 x1 x2 x3 x4) (@elInfo._sparseCasesOn_3 CV (λ_=>t4) x0 (λx5=>(l376 x5 x1 x2 x3 x4)) (λ_=>none))) := by intro t; cases t <;> (intros; rfl)
def l378 : t202 := (λx0=>(@CV.rec (λ_=>t200) (λ_=>PUnit.{1}) (λ_ _ _ _=>none) (λ_ _ _ _ _=>none) (λ_ _ _ _ _ _=>none) (λ_ _ _ _ _ _ _ _ _=>none) (λ_ _ _ _=>none) (λx1 x2 x3 x4 x5=>(l377 (k_ev x2 x3) x2 x4 x5 x1)) (λ_ _ _ _ _ _=>none) (λ_ _ _ _ _ _=>none) (λ_ _ _ _ _ _ _ _ _=>none) (λ_ _ _ _ _=>none) (λ_ _ _ _ _ _ _=>none) PUnit.unit.{1} (λ_ _ _ _=>PUnit.unit.{1}) x0))
theorem l378_eq : ∀ x0 x1 x2 x3 x4, (Eq (l378 x0 x1 x2 x3 x4) (@o_mapUpdate._sparseCasesOn_1 (λ_=>t4) x0 (λx5=>(l377 (k_ev x1 x2) x1 x3 x4 x5)) (λ_=>none))) := by intro t; cases t <;> (intros; rfl)
def l379 : t203 := (λx0=>(@Option.rec CV (λ_=>t200) (λ_ _ _ _=>none) (λx1 x2 x3 x4 x5=>(l378 x1 x2 x3 x4 x5)) x0))
theorem l379_eq : ∀ x0 x1 x2 x3 x4, (Eq (l379 x0 x1 x2 x3 x4) (@elInfo._sparseCasesOn_3 CV (λ_=>t4) x0 (λx5=>(l378 x5 x1 x2 x3 x4)) (λ_=>none))) := by intro t; cases t <;> (intros; rfl)
def k_o_entryStore : t206 := (λ_ x1 x2 x3 x4 x5=>(l379 (k_ev x1 x2) x1 x3 x4 x5))
theorem k_o_entryStore_eq : @k_o_entryStore = o_entryStore := by
  delta k_o_entryStore o_entryStore
  simp only [l378_eq, l379_eq, l376_eq, l374_eq, l373_eq, l375_eq, l370_eq, l377_eq]
  rw [k_ev_eq, k_setB_eq, k_wr_Ret_eq, k_ok1_eq, k_rd_Ret_eq]
  all_goals kernel_rfl

abbrev t1024:=TypeId → t786
abbrev t1025:=Program → t1024
abbrev t1026:=Value → t1025
def l380 : t1026 := (λx0=>(@Value.rec (λ_=>t1025) (λ_=>PUnit.{1}) (λ_=>PUnit.{1}) (λ_ _ _ _ _=>none) (λ_ _ _ _ _ _=>none) (λ_ _ _ _ _ _=>none) (λ_ _ _ _ _ _ _=>none) (λ_ _ _ _ _=>none) (λ_ _ _ _ _=>none) (λ_ _ _ _ _ _ _=>none) (λ_ _ _ _ _=>none) (λ_ _ _ _ _=>none) (λ_ _ _ _ _ _ _ _ _=>none) (λ_ _ _ _=>none) (λ_ _ _ _ _ _ _=>none) (λx1 x2 x3 x4=>(@Bool.rec (λ_=>t4) none (@Option.rec CV (λ_=>t4) none (λx5=>((λx6=>(k_ok1 (CV.tup (x6 :: ((CV.val (Value.bool Bool.false)) :: []))) x4)) x5)) (k_oneZ x1 x2)) x3)) (λ_ _ _ _ _ _=>none) (λ_ _ _ _ _ _=>none) (λ_ _=>PUnit.unit.{1}) PUnit.unit.{1} (λ_ _ _ _=>PUnit.unit.{1}) x0))
theorem l380_eq : ∀ x0 x1 x2 x3 x4, (Eq (l380 x0 x1 x2 x3 x4) (@bothNil._sparseCasesOn_1 (λ_=>t4) x0 (@Bool.rec (λ_=>t4) none (@Option.rec CV (λ_=>t4) none (λx5=>((λx6=>(k_ok1 (CV.tup (x6 :: ((CV.val (Value.bool Bool.false)) :: []))) x4)) x5)) (k_oneZ x1 x2)) x3) (λ_=>none))) := by intro t; cases t <;> (intros; rfl)
abbrev t1027:=Bool → t20
abbrev t1028:=TypeId → t1027
abbrev t1029:=Program → t1028
abbrev t1030:=Bool → t1029
def l381 : t1030 := (λx0=>(@Bool.rec (λ_=>t1029) (λx1 x2 x3 x4 _=>(@Bool.rec (λ_=>t4) none (@Option.rec CV (λ_=>t4) none (λx6=>((λx7=>(k_ok1 (CV.tup (x7 :: ((CV.val (Value.bool Bool.false)) :: []))) x4)) x6)) (k_oneZ x1 x2)) x3)) (λ_ _ x3 x4 x5=>(k_ok1 (@Bool.rec (λ_=>CV) x5 (CV.tup (x5 :: ((CV.val (Value.bool Bool.true)) :: []))) x3) x4)) x0))
theorem l381_eq : ∀ x0 x1 x2 x3 x4 x5, (Eq (l381 x0 x1 x2 x3 x4 x5) (@Bool.rec (λ_=>t4) (@Bool.rec (λ_=>t4) none (@Option.rec CV (λ_=>t4) none (λx6=>((λx7=>(k_ok1 (CV.tup (x7 :: ((CV.val (Value.bool Bool.false)) :: []))) x4)) x6)) (k_oneZ x1 x2)) x3) (k_ok1 (@Bool.rec (λ_=>CV) x5 (CV.tup (x5 :: ((CV.val (Value.bool Bool.true)) :: []))) x3) x4) x0)) := by intro t; cases t <;> (intros; rfl)
abbrev t1031:=CV → t1025
def l382 : t1031 := (λx0=>(@CV.rec (λ_=>t1025) (λ_=>PUnit.{1}) (λ_ _ _ _=>none) (λx1 x2 x3 x4 x5=>(l380 x1 x2 x3 x4 x5)) (λ_ _ _ _ _ _=>none) (λ_ _ _ _ _ _ _ _ _=>none) (λ_ _ _ _=>none) (λ_ _ _ _ _=>none) (λ_ _ _ _ _ _=>none) (λ_ _ _ _ _ _=>none) (λ_ _ _ _ _ _ _ _ _=>none) (λ_ _ _ _ _=>none) (λx1 x2 _ x4 x5 x6 x7=>(l381 (Nat.beq x1 x5) x4 x5 x6 x7 x2)) PUnit.unit.{1} (λ_ _ _ _=>PUnit.unit.{1}) x0))
theorem l382_eq : ∀ x0 x1 x2 x3 x4, (Eq (l382 x0 x1 x2 x3 x4) (@o_typeAssert._sparseCasesOn_1 (λ_=>t4) x0 (λx5=>(l380 x5 x1 x2 x3 x4)) (λx5 x6=>(l381 (Nat.beq x5 x2) x1 x2 x3 x4 x6)) (λ_=>none))) := by intro t; cases t <;> (intros; rfl)
abbrev t1032:=t81 → t1025
def l383 : t1032 := (λx0=>(@Option.rec CV (λ_=>t1025) (λ_ _ _ _=>none) (λx1 x2 x3 x4 x5=>(l382 x1 x2 x3 x4 x5)) x0))
theorem l383_eq : ∀ x0 x1 x2 x3 x4, (Eq (l383 x0 x1 x2 x3 x4) (@elInfo._sparseCasesOn_3 CV (λ_=>t4) x0 (λx5=>(l382 x5 x1 x2 x3 x4)) (λ_=>none))) := by intro t; cases t <;> (intros; rfl)
abbrev t1033:=Operand → t1024
abbrev t1034:=t14 → t1033
abbrev t1035:=Program → t1034
def l384 : t1035 := (λx0 x1 x2 x3 x4 x5=>(l383 (k_ev x1 x2) x0 x3 x4 x5))
theorem l384_eq : ∀ x0 x1 x2 x3 x4 x5, (Eq (l384 x0 x1 x2 x3 x4 x5) (l383 (k_ev x1 x2) x0 x3 x4 x5)) := by intros; rfl
abbrev t1036:=TypeDesc → t1035
def l385 : t1036 := (λx0=>(@TypeDesc.rec (λ_=>t1035) (λx1 x2 x3 x4 x5 x6=>(l384 x1 x2 x3 x4 x5 x6)) (λx1 x2 x3 x4 x5 x6=>(l384 x1 x2 x3 x4 x5 x6)) (λ_ x2 x3 x4 x5 x6 x7=>(l384 x2 x3 x4 x5 x6 x7)) (λ_ x2 x3 x4 x5 x6 x7=>(l384 x2 x3 x4 x5 x6 x7)) (λ_ x2 x3 x4 x5 x6 x7=>(l384 x2 x3 x4 x5 x6 x7)) (λx1 x2 x3 x4 x5 x6=>(l384 x1 x2 x3 x4 x5 x6)) (λx1 x2 x3 x4 x5 x6=>(l384 x1 x2 x3 x4 x5 x6)) (λ_ x2 x3 x4 x5 x6 x7=>(l384 x2 x3 x4 x5 x6 x7)) (λ_ x2 x3 x4 x5 x6 x7=>(l384 x2 x3 x4 x5 x6 x7)) (λ_ _ x3 x4 x5 x6 x7 x8=>(l384 x3 x4 x5 x6 x7 x8)) (λ_ _ x3 x4 x5 x6 x7 x8=>(l384 x3 x4 x5 x6 x7 x8)) (λ_ _ x3 x4 x5 x6 x7 x8=>(l384 x3 x4 x5 x6 x7 x8)) (λ_ x2 x3 x4 x5 x6 x7=>(l384 x2 x3 x4 x5 x6 x7)) (λ_ _ _ x4 x5 x6 x7 x8 x9=>(l384 x4 x5 x6 x7 x8 x9)) (λ_ _ _ _ _ _ _=>none) (λ_ x2 x3 x4 x5 x6 x7=>(l384 x2 x3 x4 x5 x6 x7)) (λ_ _ x3 x4 x5 x6 x7 x8=>(l384 x3 x4 x5 x6 x7 x8)) x0))
theorem l385_eq : ∀ x0 x1 x2 x3 x4 x5 x6, (Eq (l385 x0 x1 x2 x3 x4 x5 x6) (@ifaceOk'._sparseCasesOn_1 (λ_=>t4) x0 (λ_=>none) (λ_=>(l384 x1 x2 x3 x4 x5 x6)))) := by intro t; cases t <;> (intros; rfl)
abbrev t1037:=t336 → t1035
def l386 : t1037 := (λx0=>(@Option.rec TypeDesc (λ_=>t1035) (λ_ _ _ _ _ _=>none) (λx1 x2 x3 x4 x5 x6 x7=>(l385 x1 x2 x3 x4 x5 x6 x7)) x0))
theorem l386_eq : ∀ x0 x1 x2 x3 x4 x5 x6, (Eq (l386 x0 x1 x2 x3 x4 x5 x6) (@elInfo._sparseCasesOn_3 TypeDesc (λ_=>t4) x0 (λx7=>(l385 x7 x1 x2 x3 x4 x5 x6)) (λ_=>none))) := by intro t; cases t <;> (intros; rfl)
def k_o_typeAssert : t1035 := (λx0 x1 x2 x3 x4 x5=>(l386 (Program.underlying x0 x3) x0 x1 x2 x3 x4 x5))
theorem k_o_typeAssert_eq : @k_o_typeAssert = o_typeAssert := by
  delta k_o_typeAssert o_typeAssert
  simp only [l386_eq, l384_eq, l383_eq, l381_eq, l380_eq, l382_eq, l385_eq]
  rw [k_oneZ_eq, k_ok1_eq, k_ev_eq]
  all_goals kernel_rfl

abbrev t1038:=t7 → t743
def k_List_get?Internal_CV : t1038 := (λx0 x1=>(@List.rec CV (λ_=>t743) (λ_=>none) (λx2 _ x4 x5=>(@Nat.rec (λ_=>t81) (some x2) (λx6 _=>(x4 x6)) x5)) x0 x1))
theorem k_List_get?Internal_CV_law : ∀ x0 x1, (Eq (k_List_get?Internal_CV x0 x1) (@List.get?Internal CV x0 x1)) := by
  intro t
  induction t with
  | nil  =>
    intro z0
    show ((fun (_ : Nat) => none) z0) = _
    conv => rhs; rw [List.get?Internal.eq_def]
    all_goals kernel_rfl
  | cons y0 y1 ih0 =>
    intro z0
    have e0 : (fun (x0 : Nat) => (k_List_get?Internal_CV y1 x0)) = (fun (x0 : Nat) => (@List.get?Internal CV y1 x0)) := by
      funext z0; exact ih0 z0
    show ((fun (x0 : CV) (_ : t7) (x2 : t743) (x3 : Nat) => (@Nat.rec (fun (_ : Nat) => t81) (some x0) (fun (x4 : Nat) (_ : t81) => (x2 x4)) x3)) y0 y1 (fun (x0 : Nat) => (k_List_get?Internal_CV y1 x0)) z0) = _
    rw [e0]
    conv => rhs; rw [List.get?Internal.eq_def]
    all_goals kernel_rfl
theorem k_List_get?Internal_CV_eq : @k_List_get?Internal_CV = (@List.get?Internal CV) := by
  funext a0 a1; exact k_List_get?Internal_CV_law a0 a1
abbrev t1039:=CV → t106
def l387 : t1039 := (λx0=>(@CV.rec (λ_=>t106) (λ_=>PUnit.{1}) (λ_ _=>none) (λ_ _ _=>none) (λ_ _ _ _=>none) (λ_ _ _ _ _ _ _=>none) (λ_ _=>none) (λ_ _ _=>none) (λ_ _ _ _=>none) (λx1 _ x3 x4=>(@Option.rec CV (λ_=>t4) none (λx5=>((λx6=>(k_ok1 x6 x4)) x5)) (k_List_get?Internal_CV x1 x3))) (λ_ _ _ _ _ _ _=>none) (λ_ _ _=>none) (λ_ _ _ _ _=>none) PUnit.unit.{1} (λ_ _ _ _=>PUnit.unit.{1}) x0))
theorem l387_eq : ∀ x0 x1 x2, (Eq (l387 x0 x1 x2) (@o_extract._sparseCasesOn_1 (λ_=>t4) x0 (λx3=>(@Option.rec CV (λ_=>t4) none (λx4=>((λx5=>(k_ok1 x5 x2)) x4)) (k_List_get?Internal_CV x3 x1))) (λ_=>none))) := by intro t; cases t <;> (intros; rfl)
abbrev t1040:=t81 → t106
def l388 : t1040 := (λx0=>(@Option.rec CV (λ_=>t106) (λ_ _=>none) (λx1 x2 x3=>(l387 x1 x2 x3)) x0))
theorem l388_eq : ∀ x0 x1 x2, (Eq (l388 x0 x1 x2) (@elInfo._sparseCasesOn_3 CV (λ_=>t4) x0 (λx3=>(l387 x3 x1 x2)) (λ_=>none))) := by intro t; cases t <;> (intros; rfl)
abbrev t1041:=t14 → t865
abbrev t1042:=Program → t1041
def k_o_extract : t1042 := (λ_ x1 x2 x3 x4=>(l388 (k_ev x1 x2) x3 x4))
theorem k_o_extract_eq : @k_o_extract = o_extract := by
  delta k_o_extract o_extract
  simp only [l387_eq, l388_eq]
  rw [k_ev_eq, k_List_get?Internal_CV_eq, k_ok1_eq]
  all_goals kernel_rfl

abbrev t1043:=Nat → t846
abbrev t1044:=t7 → t1043
abbrev t1045:=Nat → t1044
abbrev t1046:=Nat → t1045
abbrev t1047:=TypeId → t1046
abbrev t1048:=t497 → t1047
def l391 : t1048 := (λx0=>(@Option.rec Addr (λ_=>t1047) (λx1 x2 x3 x4 x5 x6 x7 x8=>(@dite ((λ_=>t4) (CV.val (Value.slice none x7 x8))) (Eq x7 (@OfNat.ofNat Nat (nat_lit 0) (instOfNatNat (nat_lit 0)))) (instDecidableEqNat x7 (@OfNat.ofNat Nat (nat_lit 0) (instOfNatNat (nat_lit 0)))) (@Eq.ndrec_symm Nat (@OfNat.ofNat Nat (nat_lit 0) (instOfNatNat (nat_lit 0))) (λx9=>((λ_=>t4) (CV.val (Value.slice none x9 x8)))) (@dite ((λ_=>t4) (CV.val (Value.slice none (@OfNat.ofNat Nat (nat_lit 0) (instOfNatNat (nat_lit 0))) x8))) (Eq x8 (@OfNat.ofNat Nat (nat_lit 0) (instOfNatNat (nat_lit 0)))) (instDecidableEqNat x8 (@OfNat.ofNat Nat (nat_lit 0) (instOfNatNat (nat_lit 0)))) (@Eq.ndrec_symm Nat (@OfNat.ofNat Nat (nat_lit 0) (instOfNatNat (nat_lit 0))) (λx9=>((λ_=>t4) (CV.val (Value.slice none (@OfNat.ofNat Nat (nat_lit 0) (instOfNatNat (nat_lit 0))) x9)))) ((λ_=>(@cond t4 (Nat.beq x5 (@OfNat.ofNat Nat (nat_lit 0) (instOfNatNat (nat_lit 0)))) (some (Ret.ok (CV.val (Value.slice none (@OfNat.ofNat Nat (nat_lit 0) (instOfNatNat (nat_lit 0))) (@OfNat.ofNat Nat (nat_lit 0) (instOfNatNat (nat_lit 0))))) x6)) (@cond t4 (Bool.and (Nat.ble (@HMul.hMul Nat Nat Nat (@instHMul Nat instMulNat) x5 x3) (@OfNat.ofNat Nat (nat_lit 140737488355328) (instOfNatNat (nat_lit 140737488355328)))) (Nat.ble x5 (@OfNat.ofNat Nat (nat_lit 9223372036854775807) (instOfNatNat (nat_lit 9223372036854775807))))) (@nw Ret x6 (CO.row x1 x4 Bool.true) (λx10 x11=>(some (Ret.ok (CV.sl x10 (@OfNat.ofNat Nat (nat_lit 0) (instOfNatNat (nat_lit 0))) x5 none x2) x11)))) none))) Unit.unit) x8) (λ_=>((λ_=>none) (CV.val (Value.slice none (@OfNat.ofNat Nat (nat_lit 0) (instOfNatNat (nat_lit 0))) x8))))) x7) (λ_=>((λ_=>none) (CV.val (Value.slice none x7 x8)))))) (λ_ _ _ _ _ _ _ _ _=>none) x0))
theorem l391_eq : ∀ x0 x1 x2 x3 x4 x5 x6 x7 x8, (Eq (l391 x0 x1 x2 x3 x4 x5 x6 x7 x8) (@sliceV._sparseCasesOn_7 Addr (λ_=>t4) x0 (@dite ((λ_=>t4) (CV.val (Value.slice none x7 x8))) (Eq x7 (@OfNat.ofNat Nat (nat_lit 0) (instOfNatNat (nat_lit 0)))) (instDecidableEqNat x7 (@OfNat.ofNat Nat (nat_lit 0) (instOfNatNat (nat_lit 0)))) (@Eq.ndrec_symm Nat (@OfNat.ofNat Nat (nat_lit 0) (instOfNatNat (nat_lit 0))) (λx9=>((λ_=>t4) (CV.val (Value.slice none x9 x8)))) (@dite ((λ_=>t4) (CV.val (Value.slice none (@OfNat.ofNat Nat (nat_lit 0) (instOfNatNat (nat_lit 0))) x8))) (Eq x8 (@OfNat.ofNat Nat (nat_lit 0) (instOfNatNat (nat_lit 0)))) (instDecidableEqNat x8 (@OfNat.ofNat Nat (nat_lit 0) (instOfNatNat (nat_lit 0)))) (@Eq.ndrec_symm Nat (@OfNat.ofNat Nat (nat_lit 0) (instOfNatNat (nat_lit 0))) (λx9=>((λ_=>t4) (CV.val (Value.slice none (@OfNat.ofNat Nat (nat_lit 0) (instOfNatNat (nat_lit 0))) x9)))) ((λ_=>(@cond t4 (Nat.beq x5 (@OfNat.ofNat Nat (nat_lit 0) (instOfNatNat (nat_lit 0)))) (some (Ret.ok (CV.val (Value.slice none (@OfNat.ofNat Nat (nat_lit 0) (instOfNatNat (nat_lit 0))) (@OfNat.ofNat Nat (nat_lit 0) (instOfNatNat (nat_lit 0))))) x6)) (@cond t4 (Bool.and (Nat.ble (@HMul.hMul Nat Nat Nat (@instHMul Nat instMulNat) x5 x3) (@OfNat.ofNat Nat (nat_lit 140737488355328) (instOfNatNat (nat_lit 140737488355328)))) (Nat.ble x5 (@OfNat.ofNat Nat (nat_lit 9223372036854775807) (instOfNatNat (nat_lit 9223372036854775807))))) (@nw Ret x6 (CO.row x1 x4 Bool.true) (λx10 x11=>(some (Ret.ok (CV.sl x10 (@OfNat.ofNat Nat (nat_lit 0) (instOfNatNat (nat_lit 0))) x5 none x2) x11)))) none))) Unit.unit) x8) (λ_=>((λ_=>none) (CV.val (Value.slice none (@OfNat.ofNat Nat (nat_lit 0) (instOfNatNat (nat_lit 0))) x8))))) x7) (λ_=>((λ_=>none) (CV.val (Value.slice none x7 x8))))) (λ_=>none))) := by intro t; cases t <;> (intros; rfl)
abbrev t1049:=t7 → t106
abbrev t1050:=Nat → t1049
abbrev t1051:=Nat → t1050
abbrev t1052:=TypeId → t1051
abbrev t1053:=Value → t1052
def l392 : t1053 := (λx0=>(@Value.rec (λ_=>t1052) (λ_=>PUnit.{1}) (λ_=>PUnit.{1}) (λ_ _ _ _ _ _ _=>none) (λ_ _ _ _ _ _ _ _=>none) (λ_ _ _ _ _ _ _ _=>none) (λ_ _ _ _ _ _ _ _ _=>none) (λ_ _ _ _ _ _ _=>none) (λ_ _ _ _ _ _ _=>none) (λx1 x2 x3 x4 x5 x6 x7 x8 x9=>(l391 x1 x4 x5 x6 x7 x8 x9 x2 x3)) (λ_ _ _ _ _ _ _=>none) (λ_ _ _ _ _ _ _=>none) (λ_ _ _ _ _ _ _ _ _ _ _=>none) (λ_ _ _ _ _ _=>none) (λ_ _ _ _ _ _ _ _ _=>none) (λ_ _ _ _ _ _=>none) (λ_ _ _ _ _ _ _ _=>none) (λ_ _ _ _ _ _ _ _=>none) (λ_ _=>PUnit.unit.{1}) PUnit.unit.{1} (λ_ _ _ _=>PUnit.unit.{1}) x0))
theorem l392_eq : ∀ x0 x1 x2 x3 x4 x5 x6, (Eq (l392 x0 x1 x2 x3 x4 x5 x6) (@sliceV._sparseCasesOn_6 (λ_=>t4) x0 (λx7 x8 x9=>(l391 x7 x1 x2 x3 x4 x5 x6 x8 x9)) (λ_=>none))) := by intro t; cases t <;> (intros; rfl)
abbrev t1054:=Nat → t106
abbrev t1055:=Nat → t1054
abbrev t1056:=Nat → t1055
abbrev t1057:=TypeId → t1056
abbrev t1058:=t31 → t1057
def l393 : t1058 := (λx0=>(@Option.rec t7 (λ_=>t1057) (λ_ _ _ _ _ _=>none) (λx1 x2 x3 x4 x5 x6 x7=>((λx8=>(k_wr_Ret x7 x5 none (λx9=>(k_nw_Ret x9 (CO.row x2 x8 Bool.true) (λx10 x11=>(some (Ret.ok (CV.sl x10 (nat_lit 0) (Nat.add x6 x4) none x3) x11))))))) x1)) x0))
theorem l393_eq : ∀ x0 x1 x2 x3 x4 x5 x6, (Eq (l393 x0 x1 x2 x3 x4 x5 x6) (@Option.rec t7 (λ_=>t4) none (λx7=>((λx8=>(k_wr_Ret x6 x4 none (λx9=>(k_nw_Ret x9 (CO.row x1 x8 Bool.true) (λx10 x11=>(some (Ret.ok (CV.sl x10 (nat_lit 0) (Nat.add x5 x3) none x2) x11))))))) x7)) x0)) := by intro t; cases t <;> (intros; rfl)
def k_cat_CV : t238 := (λx0 x1=>(@List.rec CV (λ_=>t32) (λx2=>(some x2)) (λx2 _ x4 x5=>(@Option.rec t7 (λ_=>t31) none (λx6=>(some (x2 :: x6))) (x4 x5))) x0 x1))
theorem k_cat_CV_law : ∀ x0 x1, (Eq (k_cat_CV x0 x1) (@cat CV x0 x1)) := by
  intro t
  induction t with
  | nil  =>
    intro z0
    show ((fun (x0 : t7) => (some x0)) z0) = _
    conv => rhs; rw [Ev.cat.eq_def]
    all_goals kernel_rfl
  | cons y0 y1 ih0 =>
    intro z0
    have e0 : (fun (x0 : t7) => (k_cat_CV y1 x0)) = (fun (x0 : t7) => (@cat CV y1 x0)) := by
      funext z0; exact ih0 z0
    show ((fun (x0 : CV) (_ : t7) (x2 : t32) (x3 : t7) => (@Option.rec t7 (fun (_ : t31) => t31) none (fun (x4 : t7) => (some (x0 :: x4))) (x2 x3))) y0 y1 (fun (x0 : t7) => (k_cat_CV y1 x0)) z0) = _
    rw [e0]
    conv => rhs; rw [Ev.cat.eq_def]
    all_goals kernel_rfl
theorem k_cat_CV_eq : @k_cat_CV = (@cat CV) := by
  funext a0 a1; exact k_cat_CV_law a0 a1
abbrev t1059:=TypeId → t252
abbrev t1060:=S → t1059
abbrev t1061:=Nat → t1060
abbrev t1062:=Nat → t1061
abbrev t1063:=Nat → t1062
abbrev t1064:=t7 → t1063
abbrev t1065:=Nat → t1064
abbrev t1066:=TypeId → t1065
abbrev t1067:=Bool → t1066
def l394 : t1067 := (λx0=>(@Bool.rec (λ_=>t1066) (λ_ _ _ _ _ _ _ _ _=>none) (λx1 x2 x3 x4 x5 x6 x7 x8 x9=>(@Bool.rec (λ_=>t4) none (l393 (k_cat_CV x9 x3) x1 x2 x4 x5 x6 x7) (@Bool.rec (λ_=>Bool) Bool.false (Nat.beq (k_len x9) (Nat.mul x6 x2)) (Nat.beq x8 x1)))) x0))
theorem l394_eq : ∀ x0 x1 x2 x3 x4 x5 x6 x7 x8 x9, (Eq (l394 x0 x1 x2 x3 x4 x5 x6 x7 x8 x9) (@appendV._sparseCasesOn_1 (λ_=>t4) x0 (@Bool.rec (λ_=>t4) none (l393 (k_cat_CV x9 x3) x1 x2 x4 x5 x6 x7) (@Bool.rec (λ_=>Bool) Bool.false (Nat.beq (k_len x9) (Nat.mul x6 x2)) (Nat.beq x8 x1))) (λ_=>none))) := by intro t; cases t <;> (intros; rfl)
abbrev t1068:=t7 → t1055
abbrev t1069:=Nat → t1068
abbrev t1070:=TypeId → t1069
abbrev t1071:=CO → t1070
def l395 : t1071 := (λx0=>(@CO.rec (λ_=>t1070) (λx1 x2 x3 x4 x5 x6 x7 x8 x9 x10=>(l394 x3 x4 x5 x6 x7 x8 x9 x10 x1 x2)) (λ_ _ _ _ _ _ _ _ _ _=>none) (λ_ _ _ _ _ _ _ _ _ _ _ _ _ _ _=>none) (λ_ _ _ _ _ _ _=>none) (λ_ _ _ _ _ _ _=>none) x0))
theorem l395_eq : ∀ x0 x1 x2 x3 x4 x5 x6 x7, (Eq (l395 x0 x1 x2 x3 x4 x5 x6 x7) (@rdRow._sparseCasesOn_1 (λ_=>t4) x0 (λx8 x9 x10=>(l394 x10 x1 x2 x3 x4 x5 x6 x7 x8 x9)) (λ_=>none))) := by intro t; cases t <;> (intros; rfl)
abbrev t1072:=Bool → t1047
def l396 : t1072 := (λx0=>(@Bool.rec (λ_=>t1047) (λx1 x2 x3 x4 x5 x6 x7 x8=>(@Bool.rec (λ_=>t4) none (k_rd_Ret x6 x7 (λx9 x10=>(l395 x9 x1 x2 x4 x5 x7 x8 x10))) (@Bool.rec (λ_=>Bool) Bool.false (Nat.ble (Nat.add x8 x5) (nat_lit 9223372036854775807)) (Nat.ble (Nat.mul (Nat.add x8 x5) x3) (nat_lit 140737488355328))))) (λ_ _ _ _ _ _ _ _=>none) x0))
theorem l396_eq : ∀ x0 x1 x2 x3 x4 x5 x6 x7 x8, (Eq (l396 x0 x1 x2 x3 x4 x5 x6 x7 x8) (@Bool.rec (λ_=>t4) (@Bool.rec (λ_=>t4) none (k_rd_Ret x6 x7 (λx9 x10=>(l395 x9 x1 x2 x4 x5 x7 x8 x10))) (@Bool.rec (λ_=>Bool) Bool.false (Nat.ble (Nat.add x8 x5) (nat_lit 9223372036854775807)) (Nat.ble (Nat.mul (Nat.add x8 x5) x3) (nat_lit 140737488355328)))) none x0)) := by intro t; cases t <;> (intros; rfl)
abbrev t1073:=TypeId → t1055
abbrev t1074:=t31 → t1073
def l397 : t1074 := (λx0=>(@Option.rec t7 (λ_=>t1073) (λ_ _ _ _ _=>none) (λx1 x2 x3 x4 x5 x6=>((λx7=>(k_nw_Ret x6 (CO.row x2 x7 Bool.true) (λx8 x9=>(some (Ret.ok (CV.sl x8 (nat_lit 0) (Nat.add x5 x4) none x3) x9))))) x1)) x0))
theorem l397_eq : ∀ x0 x1 x2 x3 x4 x5, (Eq (l397 x0 x1 x2 x3 x4 x5) (@Option.rec t7 (λ_=>t4) none (λx6=>((λx7=>(k_nw_Ret x5 (CO.row x1 x7 Bool.true) (λx8 x9=>(some (Ret.ok (CV.sl x8 (nat_lit 0) (Nat.add x4 x3) none x2) x9))))) x6)) x0)) := by intro t; cases t <;> (intros; rfl)
abbrev t1075:=Nat → t478
abbrev t1076:=t7 → t1075
abbrev t1077:=Nat → t1076
abbrev t1078:=TypeId → t1077
abbrev t1079:=Bool → t1078
def l398 : t1079 := (λx0=>(@Bool.rec (λ_=>t1078) (λ_ _ _ _ _ _ _ _=>none) (λx1 x2 x3 x4 x5 x6 x7 x8=>(k_rdRow x5 x6 x7 (Nat.mul x8 x2) (λx9 x10=>(l397 (k_cat_CV x9 x3) x1 x2 x4 x8 x10)))) x0))
theorem l398_eq : ∀ x0 x1 x2 x3 x4 x5 x6 x7 x8, (Eq (l398 x0 x1 x2 x3 x4 x5 x6 x7 x8) (@Bool.rec (λ_=>t4) none (k_rdRow x5 x6 x7 (Nat.mul x8 x2) (λx9 x10=>(l397 (k_cat_CV x9 x3) x1 x2 x4 x8 x10))) x0)) := by intro t; cases t <;> (intros; rfl)
abbrev t1080:=TypeId → t488
abbrev t1081:=S → t1080
abbrev t1082:=Nat → t1081
abbrev t1083:=Nat → t1082
abbrev t1084:=Nat → t1083
abbrev t1085:=Nat → t1084
abbrev t1086:=Nat → t1085
abbrev t1087:=Nat → t1086
abbrev t1088:=t31 → t1087
def l399 : t1088 := (λx0=>(@Option.rec t7 (λ_=>t1087) (λ_ _ _ _ _ _ _ _ _=>none) (λx1 x2 x3 x4 x5 x6 x7 x8 x9 x10=>((λx11=>(k_wr_Ret x8 x3 (some (CO.row x9 x11 x10)) (λx12=>(some (Ret.ok (CV.sl x3 x4 (Nat.add x5 x2) (some x6) x7) x12))))) x1)) x0))
theorem l399_eq : ∀ x0 x1 x2 x3 x4 x5 x6 x7 x8 x9, (Eq (l399 x0 x1 x2 x3 x4 x5 x6 x7 x8 x9) (@Option.rec t7 (λ_=>t4) none (λx10=>((λx11=>(k_wr_Ret x7 x2 (some (CO.row x8 x11 x9)) (λx12=>(some (Ret.ok (CV.sl x2 x3 (Nat.add x4 x1) (some x5) x6) x12))))) x10)) x0)) := by intro t; cases t <;> (intros; rfl)
abbrev t1089:=Nat → t1056
abbrev t1090:=Nat → t1089
abbrev t1091:=t7 → t1090
abbrev t1092:=Nat → t1091
abbrev t1093:=CO → t1092
def l400 : t1093 := (λx0=>(@CO.rec (λ_=>t1092) (λx1 x2 x3 x4 x5 x6 x7 x8 x9 x10 x11 x12=>(l399 (k_putN (Nat.add x8 (Nat.mul x9 x4)) x5 x2) x6 x7 x8 x9 x10 x11 x12 x1 x3)) (λ_ _ _ _ _ _ _ _ _ _ _ _=>none) (λ_ _ _ _ _ _ _ _ _ _ _ _ _ _ _ _ _=>none) (λ_ _ _ _ _ _ _ _ _=>none) (λ_ _ _ _ _ _ _ _ _=>none) x0))
theorem l400_eq : ∀ x0 x1 x2 x3 x4 x5 x6 x7 x8 x9, (Eq (l400 x0 x1 x2 x3 x4 x5 x6 x7 x8 x9) (@rdRow._sparseCasesOn_1 (λ_=>t4) x0 (λx10 x11 x12=>(l399 (k_putN (Nat.add x5 (Nat.mul x6 x1)) x2 x11) x3 x4 x5 x6 x7 x8 x9 x10 x12)) (λ_=>none))) := by intro t; cases t <;> (intros; rfl)
abbrev t1094:=Nat → t889
abbrev t1095:=t7 → t1094
abbrev t1096:=Nat → t1095
abbrev t1097:=Nat → t1096
abbrev t1098:=TypeId → t1097
abbrev t1099:=Bool → t1098
def l401 : t1099 := (λx0=>(@Bool.rec (λ_=>t1098) (λx1 x2 x3 x4 x5 x6 x7 x8 x9 _ _=>(l398 (@Bool.rec (λ_=>Bool) Bool.false (Nat.ble (Nat.add x9 x5) (nat_lit 9223372036854775807)) (Nat.ble (Nat.mul (Nat.add x9 x5) x3) (nat_lit 140737488355328))) x1 x2 x4 x5 x6 x7 x8 x9)) (λ_ x2 _ x4 x5 x6 x7 x8 x9 x10 x11=>(k_rd_Ret x6 x7 (λx12 x13=>(l400 x12 x2 x4 x5 x7 x8 x9 x10 x11 x13)))) x0))
theorem l401_eq : ∀ x0 x1 x2 x3 x4 x5 x6 x7 x8 x9 x10 x11, (Eq (l401 x0 x1 x2 x3 x4 x5 x6 x7 x8 x9 x10 x11) (@Bool.rec (λ_=>t4) (l398 (@Bool.rec (λ_=>Bool) Bool.false (Nat.ble (Nat.add x9 x5) (nat_lit 9223372036854775807)) (Nat.ble (Nat.mul (Nat.add x9 x5) x3) (nat_lit 140737488355328))) x1 x2 x4 x5 x6 x7 x8 x9) (k_rd_Ret x6 x7 (λx12 x13=>(l400 x12 x2 x4 x5 x7 x8 x9 x10 x11 x13))) x0)) := by intro t; cases t <;> (intros; rfl)
def l402 : t1099 := (λx0=>(@Bool.rec (λ_=>t1098) (λx1 x2 x3 x4 x5 x6 x7 x8 x9 x10 x11=>(l401 (Nat.ble (Nat.add x9 x5) x10) x1 x2 x3 x4 x5 x6 x7 x8 x9 x10 x11)) (λ_ _ _ _ _ _ _ _ _ _ _=>none) x0))
theorem l402_eq : ∀ x0 x1 x2 x3 x4 x5 x6 x7 x8 x9 x10 x11, (Eq (l402 x0 x1 x2 x3 x4 x5 x6 x7 x8 x9 x10 x11) (@Bool.rec (λ_=>t4) (l401 (Nat.ble (Nat.add x9 x5) x10) x1 x2 x3 x4 x5 x6 x7 x8 x9 x10 x11) none x0)) := by intro t; cases t <;> (intros; rfl)
abbrev t1100:=Nat → t673
abbrev t1101:=t7 → t1100
abbrev t1102:=Nat → t1101
abbrev t1103:=Nat → t1102
abbrev t1104:=TypeId → t1103
abbrev t1105:=t164 → t1104
def l403 : t1105 := (λx0=>(@Option.rec Nat (λ_=>t1104) (λx1 x2 x3 x4 x5 x6 x7 x8 x9 x10=>(l396 (@Bool.rec (λ_=>Bool) Bool.true Bool.false (@Bool.rec (λ_=>Bool) Bool.false (Nat.beq x8 (nat_lit 0)) (Nat.beq x10 x2))) x1 x2 x3 x4 x5 x6 x7 x9)) (λx1 x2 x3 x4 x5 x6 x7 x8 x9 x10 x11=>((λx12 x13 x14 x15 x16=>(l402 (@Bool.rec (λ_=>Bool) Bool.true Bool.false (Nat.beq x16 x3)) x2 x3 x4 x5 x6 x7 x12 x13 x14 x15 x16)) x8 x9 x10 x1 x11)) x0))
theorem l403_eq : ∀ x0 x1 x2 x3 x4 x5 x6 x7 x8 x9 x10, (Eq (l403 x0 x1 x2 x3 x4 x5 x6 x7 x8 x9 x10) (@Option.rec Nat (λ_=>t4) (l396 (@Bool.rec (λ_=>Bool) Bool.true Bool.false (@Bool.rec (λ_=>Bool) Bool.false (Nat.beq x8 (nat_lit 0)) (Nat.beq x10 x2))) x1 x2 x3 x4 x5 x6 x7 x9) (λx11=>((λx12 x13 x14 x15 x16=>(l402 (@Bool.rec (λ_=>Bool) Bool.true Bool.false (Nat.beq x16 x2)) x1 x2 x3 x4 x5 x6 x12 x13 x14 x15 x16)) x7 x8 x9 x11 x10)) x0)) := by intro t; cases t <;> (intros; rfl)
abbrev t1106:=CV → t1052
def l404 : t1106 := (λx0=>(@CV.rec (λ_=>t1052) (λ_=>PUnit.{1}) (λ_ _ _ _ _ _=>none) (λx1 x2 x3 x4 x5 x6 x7=>(l392 x1 x2 x3 x4 x5 x6 x7)) (λ_ _ _ _ _ _ _ _=>none) (λx1 x2 x3 x4 x5 x6 x7 x8 x9 x10 x11=>(l403 x4 x6 x7 x8 x9 x10 x11 x1 x2 x3 x5)) (λ_ _ _ _ _ _=>none) (λ_ _ _ _ _ _ _=>none) (λ_ _ _ _ _ _ _ _=>none) (λ_ _ _ _ _ _ _ _=>none) (λ_ _ _ _ _ _ _ _ _ _ _=>none) (λ_ _ _ _ _ _ _=>none) (λ_ _ _ _ _ _ _ _ _=>none) PUnit.unit.{1} (λ_ _ _ _=>PUnit.unit.{1}) x0))
theorem l404_eq : ∀ x0 x1 x2 x3 x4 x5 x6, (Eq (l404 x0 x1 x2 x3 x4 x5 x6) (@appendV._sparseCasesOn_2 (λ_=>t4) x0 (λx7=>(l392 x7 x1 x2 x3 x4 x5 x6)) (λx7 x8 x9 x10 x11=>(l403 x10 x1 x2 x3 x4 x5 x6 x7 x8 x9 x11)) (λ_=>none))) := by intro t; cases t <;> (intros; rfl)
abbrev t1107:=t1049 → t47
abbrev t1108:=S → t1107
abbrev t1109:=t497 → t1108
def l406 : t1109 := (λx0=>(@Option.rec Addr (λ_=>t1108) (λx1 x2 x3 x4=>(@dite ((λ_=>t4) (CV.val (Value.slice none x3 x4))) (Eq x3 (@OfNat.ofNat Nat (nat_lit 0) (instOfNatNat (nat_lit 0)))) (instDecidableEqNat x3 (@OfNat.ofNat Nat (nat_lit 0) (instOfNatNat (nat_lit 0)))) (@Eq.ndrec_symm Nat (@OfNat.ofNat Nat (nat_lit 0) (instOfNatNat (nat_lit 0))) (λx5=>((λ_=>t4) (CV.val (Value.slice none x5 x4)))) (@dite ((λ_=>t4) (CV.val (Value.slice none (@OfNat.ofNat Nat (nat_lit 0) (instOfNatNat (nat_lit 0))) x4))) (Eq x4 (@OfNat.ofNat Nat (nat_lit 0) (instOfNatNat (nat_lit 0)))) (instDecidableEqNat x4 (@OfNat.ofNat Nat (nat_lit 0) (instOfNatNat (nat_lit 0)))) (@Eq.ndrec_symm Nat (@OfNat.ofNat Nat (nat_lit 0) (instOfNatNat (nat_lit 0))) (λx5=>((λ_=>t4) (CV.val (Value.slice none (@OfNat.ofNat Nat (nat_lit 0) (instOfNatNat (nat_lit 0))) x5)))) ((λ_=>(x2 [] (@OfNat.ofNat Nat (nat_lit 0) (instOfNatNat (nat_lit 0))) x1)) Unit.unit) x4) (λ_=>((λ_=>none) (CV.val (Value.slice none (@OfNat.ofNat Nat (nat_lit 0) (instOfNatNat (nat_lit 0))) x4))))) x3) (λ_=>((λ_=>none) (CV.val (Value.slice none x3 x4)))))) (λ_ _ _ _ _=>none) x0))
theorem l406_eq : ∀ x0 x1 x2 x3 x4, (Eq (l406 x0 x1 x2 x3 x4) (@sliceV._sparseCasesOn_7 Addr (λ_=>t4) x0 (@dite ((λ_=>t4) (CV.val (Value.slice none x3 x4))) (Eq x3 (@OfNat.ofNat Nat (nat_lit 0) (instOfNatNat (nat_lit 0)))) (instDecidableEqNat x3 (@OfNat.ofNat Nat (nat_lit 0) (instOfNatNat (nat_lit 0)))) (@Eq.ndrec_symm Nat (@OfNat.ofNat Nat (nat_lit 0) (instOfNatNat (nat_lit 0))) (λx5=>((λ_=>t4) (CV.val (Value.slice none x5 x4)))) (@dite ((λ_=>t4) (CV.val (Value.slice none (@OfNat.ofNat Nat (nat_lit 0) (instOfNatNat (nat_lit 0))) x4))) (Eq x4 (@OfNat.ofNat Nat (nat_lit 0) (instOfNatNat (nat_lit 0)))) (instDecidableEqNat x4 (@OfNat.ofNat Nat (nat_lit 0) (instOfNatNat (nat_lit 0)))) (@Eq.ndrec_symm Nat (@OfNat.ofNat Nat (nat_lit 0) (instOfNatNat (nat_lit 0))) (λx5=>((λ_=>t4) (CV.val (Value.slice none (@OfNat.ofNat Nat (nat_lit 0) (instOfNatNat (nat_lit 0))) x5)))) ((λ_=>(x2 [] (@OfNat.ofNat Nat (nat_lit 0) (instOfNatNat (nat_lit 0))) x1)) Unit.unit) x4) (λ_=>((λ_=>none) (CV.val (Value.slice none (@OfNat.ofNat Nat (nat_lit 0) (instOfNatNat (nat_lit 0))) x4))))) x3) (λ_=>((λ_=>none) (CV.val (Value.slice none x3 x4))))) (λ_=>none))) := by intro t; cases t <;> (intros; rfl)
abbrev t1110:=t1049 → t4
abbrev t1111:=S → t1110
abbrev t1112:=Value → t1111
def l407 : t1112 := (λx0=>(@Value.rec (λ_=>t1111) (λ_=>PUnit.{1}) (λ_=>PUnit.{1}) (λ_ _ _=>none) (λ_ _ _ _=>none) (λ_ _ _ _=>none) (λ_ _ _ _ _=>none) (λ_ _ _=>none) (λ_ _ _=>none) (λx1 x2 x3 x4 x5=>(l406 x1 x4 x5 x2 x3)) (λ_ _ _=>none) (λ_ _ _=>none) (λ_ _ _ _ _ _ _=>none) (λ_ _=>none) (λ_ _ _ _ _=>none) (λ_ _=>none) (λ_ _ _ _=>none) (λ_ _ _ _=>none) (λ_ _=>PUnit.unit.{1}) PUnit.unit.{1} (λ_ _ _ _=>PUnit.unit.{1}) x0))
theorem l407_eq : ∀ x0 x1 x2, (Eq (l407 x0 x1 x2) (@sliceV._sparseCasesOn_6 (λ_=>t4) x0 (λx3 x4 x5=>(l406 x3 x1 x2 x4 x5)) (λ_=>none))) := by intro t; cases t <;> (intros; rfl)
abbrev t1113:=t1049 → t41
abbrev t1114:=S → t1113
abbrev t1115:=CV → t1114
def l408 : t1115 := (λx0=>(@CV.rec (λ_=>t1114) (λ_=>PUnit.{1}) (λ_ _ _=>none) (λx1 x2 x3 _=>(l407 x1 x2 x3)) (λ_ _ _ _ _=>none) (λx1 x2 x3 _ x5 x6 x7 x8=>(@Bool.rec (λ_=>t4) none (k_rdRow x6 x1 x2 (Nat.mul x3 x8) (λx9 x10=>(x7 x9 x3 x10))) (Nat.beq x5 x8))) (λx1 x2 _=>(x2 [] (nat_lit 0) x1)) (λ_ _ _ _=>none) (λ_ _ _ _ _=>none) (λ_ _ _ _ _=>none) (λ_ _ _ _ _ _ _ _=>none) (λ_ _ _ _=>none) (λ_ _ _ _ _ _=>none) PUnit.unit.{1} (λ_ _ _ _=>PUnit.unit.{1}) x0))
theorem l408_eq : ∀ x0 x1 x2 x3, (Eq (l408 x0 x1 x2 x3) (@sliceV._sparseCasesOn_5 (λ_=>t4) x0 (λx4 x5 x6 _ x8=>(@Bool.rec (λ_=>t4) none (k_rdRow x1 x4 x5 (Nat.mul x6 x3) (λx9 x10=>(x2 x9 x6 x10))) (Nat.beq x8 x3))) (x2 [] (nat_lit 0) x1) (λx4=>(l407 x4 x1 x2)) (λ_=>none))) := by intro t; cases t <;> (intros; rfl)
abbrev t1116:=CV → t1111
abbrev t1117:=Nat → t1116
def k_srcCells : t1117 := (λx0 x1 x2 x3=>(l408 x1 x2 x3 x0))
theorem k_srcCells_eq : @k_srcCells = srcCells := by
  delta k_srcCells srcCells
  simp only [l408_eq, l407_eq, l406_eq]
  rw [k_rdRow_eq]
  all_goals kernel_rfl

abbrev t1118:=CV → t660
abbrev t1119:=CV → t1118
abbrev t1120:=Bool → t1119
def l405 : t1120 := (λx0=>(@Bool.rec (λ_=>t1119) (λx1 x2 x3 x4 x5 x6=>(k_srcCells x5 x2 x3 (λx7 x8 x9=>(@Bool.rec (λ_=>t4) (l404 x1 x4 x5 x6 x7 x8 x9) none (@Bool.rec (λ_=>Bool) Bool.true Bool.false (k_allOne x7)))))) (λ_ _ _ _ _ _=>none) x0))
theorem l405_eq : ∀ x0 x1 x2 x3 x4 x5 x6, (Eq (l405 x0 x1 x2 x3 x4 x5 x6) (@Bool.rec (λ_=>t4) (k_srcCells x5 x2 x3 (λx7 x8 x9=>(@Bool.rec (λ_=>t4) (l404 x1 x4 x5 x6 x7 x8 x9) none (@Bool.rec (λ_=>Bool) Bool.true Bool.false (k_allOne x7))))) none x0)) := by intro t; cases t <;> (intros; rfl)
abbrev t1121:=CV → t286
abbrev t1122:=CV → t1121
abbrev t1123:=t319 → t1122
def l409 : t1123 := (λx0=>(@Prod.rec Nat t213 (λ_=>t1122) (λx1 x2 x3 x4 x5 x6 x7=>((λx8 x9 x10 x11=>(l405 (@Bool.rec (λ_=>Bool) Bool.true Bool.false (@Bool.rec (λ_=>Bool) Bool.false (Nat.beq (@List.length Value x11) x9) (k_Nat_blt (nat_lit 0) x9))) x3 x4 x5 x8 x9 x10)) x6 x7 x1 x2)) x0))
theorem l409_eq : ∀ x0 x1 x2 x3 x4 x5, (Eq (l409 x0 x1 x2 x3 x4 x5) (@Prod.rec Nat t213 (λ_=>t4) (λx6 x7=>((λx8 x9 x10 x11=>(l405 (@Bool.rec (λ_=>Bool) Bool.true Bool.false (@Bool.rec (λ_=>Bool) Bool.false (Nat.beq (@List.length Value x11) x9) (k_Nat_blt (nat_lit 0) x9))) x1 x2 x3 x8 x9 x10)) x4 x5 x6 x7)) x0)) := by intro t; cases t <;> (intros; rfl)
abbrev t1124:=t327 → t428
def l410 : t1124 := (λx0=>(@Option.rec t326 (λ_=>t428) (λ_ _ _=>none) (λx1 x2 x3 x4=>(@Prod.rec TypeId t320 (λ_=>t4) (λx5 x6=>(@Prod.rec Nat t319 (λ_=>t4) (λx7 x8=>(l409 x8 x2 x3 x4 x5 x7)) x6)) x1)) x0))
theorem l410_eq : ∀ x0 x1 x2 x3, (Eq (l410 x0 x1 x2 x3) (@Option.rec t326 (λ_=>t4) none (λx4=>(@Prod.rec TypeId t320 (λ_=>t4) (λx5 x6=>(@Prod.rec Nat t319 (λ_=>t4) (λx7 x8=>(l409 x8 x1 x2 x3 x5 x7)) x6)) x4)) x0)) := by intro t; cases t <;> (intros; rfl)
def k_appendV : t530 := (λx0 x1 x2 x3 x4=>(l410 (k_elInfo x0 x1) x2 x3 x4))
theorem k_appendV_eq : @k_appendV = appendV := by
  delta k_appendV appendV
  simp only [l401_eq, l403_eq, l395_eq, l404_eq, l410_eq, l402_eq, l397_eq, l396_eq, l392_eq, l405_eq, l391_eq, l399_eq, l394_eq, l398_eq, l400_eq, l409_eq, l393_eq]
  rw [k_elInfo_eq, k_wr_Ret_eq, k_nw_Ret_eq, k_len_eq, k_cat_CV_eq, k_rd_Ret_eq, k_rdRow_eq, k_putN_eq, k_srcCells_eq, k_allOne_eq, k_Nat_blt_eq]
  all_goals kernel_rfl

abbrev t1125:=Program → t925
abbrev t1126:=t81 → t1125
def l390 : t1126 := (λx0=>(@Option.rec CV (λ_=>t1125) (λ_ _ _ _=>none) (λx1 x2 x3 x4 x5=>(k_appendV x2 x4 x5 x1 x3)) x0))
theorem l390_eq : ∀ x0 x1 x2 x3 x4, (Eq (l390 x0 x1 x2 x3 x4) (@elInfo._sparseCasesOn_3 CV (λ_=>t4) x0 (λx5=>(k_appendV x1 x3 x4 x5 x2)) (λ_=>none))) := by intro t; cases t <;> (intros; rfl)
abbrev t1127:=Operand → t74
abbrev t1128:=S → t1127
abbrev t1129:=t14 → t1128
abbrev t1130:=Program → t1129
abbrev t1131:=t81 → t1130
def l411 : t1131 := (λx0=>(@Option.rec CV (λ_=>t1130) (λ_ _ _ _ _=>none) (λx1 x2 x3 x4 x5 x6=>(l390 (k_ev x3 x5) x2 x4 x6 x1)) x0))
theorem l411_eq : ∀ x0 x1 x2 x3 x4 x5, (Eq (l411 x0 x1 x2 x3 x4 x5) (@elInfo._sparseCasesOn_3 CV (λ_=>t4) x0 (λx6=>(l390 (k_ev x2 x4) x1 x3 x5 x6)) (λ_=>none))) := by intro t; cases t <;> (intros; rfl)
abbrev t1132:=TypeId → t1054
abbrev t1133:=Nat → t1132
abbrev t1134:=t31 → t1133
def l413 : t1134 := (λx0=>(@Option.rec t7 (λ_=>t1133) (λ_ _ _ _ _=>none) (λx1 x2 x3 x4 x5 x6=>((λx7=>(k_nw_Ret x6 (CO.row x3 x7 Bool.true) (λx8 x9=>(some (Ret.ok (CV.sl x8 (nat_lit 0) (Nat.add x5 x2) none x4) x9))))) x1)) x0))
theorem l413_eq : ∀ x0 x1 x2 x3 x4 x5, (Eq (l413 x0 x1 x2 x3 x4 x5) (@Option.rec t7 (λ_=>t4) none (λx6=>((λx7=>(k_nw_Ret x5 (CO.row x2 x7 Bool.true) (λx8 x9=>(some (Ret.ok (CV.sl x8 (nat_lit 0) (Nat.add x4 x1) none x3) x9))))) x6)) x0)) := by intro t; cases t <;> (intros; rfl)
abbrev t1135:=Nat → t306
abbrev t1136:=Nat → t1135
abbrev t1137:=Nat → t1136
abbrev t1138:=TypeId → t1137
abbrev t1139:=S → t1138
abbrev t1140:=Nat → t1139
abbrev t1141:=Bool → t1140
def l414 : t1141 := (λx0=>(@Bool.rec (λ_=>t1140) (λ_ _ _ _ _ _ _ _=>none) (λx1 x2 x3 x4 x5 x6 x7 x8=>(k_rdRow x2 x5 x6 (Nat.mul x7 x4) (λx9 x10=>(l413 (k_cat_CV x9 (k_repl x1 x8)) x1 x3 x4 x7 x10)))) x0))
theorem l414_eq : ∀ x0 x1 x2 x3 x4 x5 x6 x7 x8, (Eq (l414 x0 x1 x2 x3 x4 x5 x6 x7 x8) (@Bool.rec (λ_=>t4) none (k_rdRow x2 x5 x6 (Nat.mul x7 x4) (λx9 x10=>(l413 (k_cat_CV x9 (k_repl x1 x8)) x1 x3 x4 x7 x10))) x0)) := by intro t; cases t <;> (intros; rfl)
abbrev t1142:=Nat → t888
abbrev t1143:=Nat → t1142
abbrev t1144:=TypeId → t1143
abbrev t1145:=S → t1144
abbrev t1146:=Nat → t1145
abbrev t1147:=t31 → t1146
def l415 : t1147 := (λx0=>(@Option.rec t7 (λ_=>t1146) (λ_ _ _ _ _ _ _ _ _ _=>none) (λx1 x2 x3 x4 x5 x6 x7 x8 x9 x10 x11=>(l414 (@Bool.rec (λ_=>Bool) Bool.false (Nat.ble (Nat.add x9 x2) (nat_lit 1000000)) (@Bool.rec (λ_=>Bool) Bool.false (Nat.ble (Nat.mul (Nat.add x9 x2) x6) (nat_lit 140737488355328)) (@Bool.rec (λ_=>Bool) Bool.false (k_Nat_blt x11 (Nat.add x9 x2)) (@Bool.rec (λ_=>Bool) Bool.false (Nat.beq (k_len x1) x5) (@Bool.rec (λ_=>Bool) Bool.false (k_Nat_blt (nat_lit 0) x5) (Nat.beq x10 x5)))))) x2 x3 x4 x5 x7 x8 x9 x1)) x0))
theorem l415_eq : ∀ x0 x1 x2 x3 x4 x5 x6 x7 x8 x9 x10, (Eq (l415 x0 x1 x2 x3 x4 x5 x6 x7 x8 x9 x10) (@elInfo._sparseCasesOn_3 t7 (λ_=>t4) x0 (λx11=>(l414 (@Bool.rec (λ_=>Bool) Bool.false (Nat.ble (Nat.add x8 x1) (nat_lit 1000000)) (@Bool.rec (λ_=>Bool) Bool.false (Nat.ble (Nat.mul (Nat.add x8 x1) x5) (nat_lit 140737488355328)) (@Bool.rec (λ_=>Bool) Bool.false (k_Nat_blt x10 (Nat.add x8 x1)) (@Bool.rec (λ_=>Bool) Bool.false (Nat.beq (k_len x11) x4) (@Bool.rec (λ_=>Bool) Bool.false (k_Nat_blt (nat_lit 0) x4) (Nat.beq x9 x4)))))) x1 x2 x3 x4 x6 x7 x8 x11)) (λ_=>none))) := by intro t; cases t <;> (intros; rfl)
abbrev t1148:=t213 → t672
abbrev t1149:=Nat → t1148
abbrev t1150:=Nat → t1149
abbrev t1151:=TypeId → t1150
abbrev t1152:=S → t1151
abbrev t1153:=Nat → t1152
abbrev t1154:=t164 → t1153
def l416 : t1154 := (λx0=>(@Option.rec Nat (λ_=>t1153) (λ_ _ _ _ _ _ _ _ _ _=>none) (λx1 x2 x3 x4 x5 x6 x7 x8 x9 x10 x11=>(l415 (k_valL x7) x2 x3 x4 x5 x6 x8 x9 x10 x11 x1)) x0))
theorem l416_eq : ∀ x0 x1 x2 x3 x4 x5 x6 x7 x8 x9 x10, (Eq (l416 x0 x1 x2 x3 x4 x5 x6 x7 x8 x9 x10) (@elInfo._sparseCasesOn_3 Nat (λ_=>t4) x0 (λx11=>(l415 (k_valL x6) x1 x2 x3 x4 x5 x7 x8 x9 x10 x11)) (λ_=>none))) := by intro t; cases t <;> (intros; rfl)
abbrev t1155:=Nat → t736
abbrev t1156:=CV → t1155
def l417 : t1156 := (λx0=>(@CV.rec (λ_=>t1155) (λ_=>PUnit.{1}) (λ_ _ _ _ _ _=>none) (λ_ _ _ _ _ _ _=>none) (λ_ _ _ _ _ _ _ _=>none) (λx1 x2 x3 x4 x5 x6 x7 x8 x9 x10 x11=>(l416 x4 x6 x7 x8 x9 x10 x11 x1 x2 x3 x5)) (λ_ _ _ _ _ _=>none) (λ_ _ _ _ _ _ _=>none) (λ_ _ _ _ _ _ _ _=>none) (λ_ _ _ _ _ _ _ _=>none) (λ_ _ _ _ _ _ _ _ _ _ _=>none) (λ_ _ _ _ _ _ _=>none) (λ_ _ _ _ _ _ _ _ _=>none) PUnit.unit.{1} (λ_ _ _ _=>PUnit.unit.{1}) x0))
theorem l417_eq : ∀ x0 x1 x2 x3 x4 x5 x6, (Eq (l417 x0 x1 x2 x3 x4 x5 x6) (@anySl._sparseCasesOn_1 (λ_=>t4) x0 (λx7 x8 x9 x10 x11=>(l416 x10 x1 x2 x3 x4 x5 x6 x7 x8 x9 x11)) (λ_=>none))) := by intro t; cases t <;> (intros; rfl)
abbrev t1157:=CV → t287
abbrev t1158:=t319 → t1157
def l418 : t1158 := (λx0=>(@Prod.rec Nat t213 (λ_=>t1157) (λx1 x2 x3 x4 x5 x6 x7=>((λx8 x9 x10 x11=>(l417 x3 x4 x5 x8 x9 x10 x11)) x6 x7 x1 x2)) x0))
theorem l418_eq : ∀ x0 x1 x2 x3 x4 x5, (Eq (l418 x0 x1 x2 x3 x4 x5) (@Prod.rec Nat t213 (λ_=>t4) (λx6 x7=>((λx8 x9 x10 x11=>(l417 x1 x2 x3 x8 x9 x10 x11)) x4 x5 x6 x7)) x0)) := by intro t; cases t <;> (intros; rfl)
abbrev t1159:=t327 → t1039
def l419 : t1159 := (λx0=>(@Option.rec t326 (λ_=>t1039) (λ_ _ _=>none) (λx1 x2 x3 x4=>(@Prod.rec TypeId t320 (λ_=>t4) (λx5 x6=>(@Prod.rec Nat t319 (λ_=>t4) (λx7 x8=>(l418 x8 x2 x3 x4 x5 x7)) x6)) x1)) x0))
theorem l419_eq : ∀ x0 x1 x2 x3, (Eq (l419 x0 x1 x2 x3) (@Option.rec t326 (λ_=>t4) none (λx4=>(@Prod.rec TypeId t320 (λ_=>t4) (λx5 x6=>(@Prod.rec Nat t319 (λ_=>t4) (λx7 x8=>(l418 x8 x1 x2 x3 x5 x7)) x6)) x4)) x0)) := by intro t; cases t <;> (intros; rfl)
abbrev t1160:=TypeId → t1039
abbrev t1161:=Program → t1160
def k_appendZ : t1161 := (λx0 x1 x2 x3 x4=>(l419 (k_elInfo x0 x1) x2 x3 x4))
theorem k_appendZ_eq : @k_appendZ = appendZ := by
  delta k_appendZ appendZ
  simp only [l417_eq, l414_eq, l416_eq, l418_eq, l419_eq, l413_eq, l415_eq]
  rw [k_elInfo_eq, k_nw_Ret_eq, k_rdRow_eq, k_cat_CV_eq, k_repl_eq, k_Nat_blt_eq, k_len_eq, k_valL_eq]
  all_goals kernel_rfl

def l412 : t1126 := (λx0=>(@Option.rec CV (λ_=>t1125) (λ_ _ _ _=>none) (λx1 x2 x3 x4 x5=>(@Option.rec Nat (λ_=>t4) none (λx6=>((λx7=>(k_appendZ x2 x4 x5 x7 x3)) x6)) (k_natOf x1))) x0))
theorem l412_eq : ∀ x0 x1 x2 x3 x4, (Eq (l412 x0 x1 x2 x3 x4) (@elInfo._sparseCasesOn_3 CV (λ_=>t4) x0 (λx5=>(@Option.rec Nat (λ_=>t4) none (λx6=>((λx7=>(k_appendZ x1 x3 x4 x7 x2)) x6)) (k_natOf x5))) (λ_=>none))) := by intro t; cases t <;> (intros; rfl)
def l420 : t1131 := (λx0=>(@Option.rec CV (λ_=>t1130) (λ_ _ _ _ _=>none) (λx1 x2 x3 x4 x5 x6=>(l412 (k_ev x3 x5) x2 x4 x6 x1)) x0))
theorem l420_eq : ∀ x0 x1 x2 x3 x4 x5, (Eq (l420 x0 x1 x2 x3 x4 x5) (@elInfo._sparseCasesOn_3 CV (λ_=>t4) x0 (λx6=>(l412 (k_ev x2 x4) x1 x3 x5 x6)) (λ_=>none))) := by intro t; cases t <;> (intros; rfl)
abbrev t1162:=Operand → t1127
abbrev t1163:=S → t1162
abbrev t1164:=t14 → t1163
abbrev t1165:=Program → t1164
abbrev t1166:=TypeDesc → t1165
def l421 : t1166 := (λx0=>(@TypeDesc.rec (λ_=>t1165) (λ_ _ _ _ _ _=>none) (λ_ _ _ _ _ _=>none) (λ_ x2 x3 x4 x5 x6 x7=>(l420 (k_ev x3 x5) x2 x3 x4 x6 x7)) (λ_ _ _ _ _ _ _=>none) (λ_ _ _ _ _ _ _=>none) (λ_ _ _ _ _ _=>none) (λ_ _ _ _ _ _=>none) (λ_ _ _ _ _ _ _=>none) (λ_ x2 x3 x4 x5 x6 x7=>(l411 (k_ev x3 x5) x2 x3 x4 x6 x7)) (λ_ _ _ _ _ _ _ _=>none) (λ_ _ _ _ _ _ _ _=>none) (λ_ _ _ _ _ _ _ _=>none) (λ_ _ _ _ _ _ _=>none) (λ_ _ _ _ _ _ _ _ _=>none) (λ_ _ _ _ _ _ _=>none) (λ_ _ _ _ _ _ _=>none) (λ_ _ _ _ _ _ _ _=>none) x0))
theorem l421_eq : ∀ x0 x1 x2 x3 x4 x5 x6, (Eq (l421 x0 x1 x2 x3 x4 x5 x6) (@o_append._sparseCasesOn_1 (λ_=>t4) x0 (λ_=>(l411 (k_ev x2 x4) x1 x2 x3 x5 x6)) (λ_=>(l420 (k_ev x2 x4) x1 x2 x3 x5 x6)) (λ_=>none))) := by intro t; cases t <;> (intros; rfl)
abbrev t1167:=t336 → t1165
def l422 : t1167 := (λx0=>(@Option.rec TypeDesc (λ_=>t1165) (λ_ _ _ _ _ _=>none) (λx1 x2 x3 x4 x5 x6 x7=>(l421 x1 x2 x3 x4 x5 x6 x7)) x0))
theorem l422_eq : ∀ x0 x1 x2 x3 x4 x5 x6, (Eq (l422 x0 x1 x2 x3 x4 x5 x6) (@elInfo._sparseCasesOn_3 TypeDesc (λ_=>t4) x0 (λx7=>(l421 x7 x1 x2 x3 x4 x5 x6)) (λ_=>none))) := by intro t; cases t <;> (intros; rfl)
abbrev t1168:=List TypeId
abbrev t1169:=Operand → t942
abbrev t1170:=Operand → t1169
abbrev t1171:=S → t1170
abbrev t1172:=t14 → t1171
abbrev t1173:=Program → t1172
abbrev t1174:=t1168 → t1173
def l423 : t1174 := (λx0=>(@List.rec TypeId (λ_=>t1173) (λx1 x2 x3 x4 x5 x6 x7=>(l422 (Program.underlying x1 x7) x1 x2 x3 x4 x5 x6)) (λ_ _ _ _ _ _ _ _ _ _=>none) x0))
theorem l423_eq : ∀ x0 x1 x2 x3 x4 x5 x6 x7, (Eq (l423 x0 x1 x2 x3 x4 x5 x6 x7) (@zipIx._sparseCasesOn_2 TypeId (λ_=>t4) x0 (l422 (Program.underlying x1 x7) x1 x2 x3 x4 x5 x6) (λ_=>none))) := by intro t; cases t <;> (intros; rfl)
abbrev t1175:=t1168 → t1165
def l424 : t1175 := (λx0=>(@List.rec TypeId (λ_=>t1165) (λ_ _ _ _ _ _=>none) (λx1 x2 _ x4 x5 x6 x7 x8 x9=>(l423 x2 x4 x5 x6 x7 x8 x9 x1)) x0))
theorem l424_eq : ∀ x0 x1 x2 x3 x4 x5 x6, (Eq (l424 x0 x1 x2 x3 x4 x5 x6) (@zipIx._sparseCasesOn_3 TypeId (λ_=>t4) x0 (λx7 x8=>(l423 x8 x1 x2 x3 x4 x5 x6 x7)) (λ_=>none))) := by intro t; cases t <;> (intros; rfl)
abbrev t1176:=Operand → t194
abbrev t1177:=S → t1176
abbrev t1178:=t14 → t1177
abbrev t1179:=Program → t1178
abbrev t1180:=t1168 → t1179
def l425 : t1180 := (λx0=>(@List.rec TypeId (λ_=>t1179) (λ_ _ _ _ _=>none) (λx1 x2 _ x4 x5 x6 x7 x8=>(l424 x2 x4 x5 x6 x7 x8 x1)) x0))
theorem l425_eq : ∀ x0 x1 x2 x3 x4 x5, (Eq (l425 x0 x1 x2 x3 x4 x5) (@zipIx._sparseCasesOn_3 TypeId (λ_=>t4) x0 (λx6 x7=>(l424 x7 x1 x2 x3 x4 x5 x6)) (λ_=>none))) := by intro t; cases t <;> (intros; rfl)
abbrev t1181:=Call → t1177
abbrev t1182:=t14 → t1181
abbrev t1183:=Program → t1182
abbrev t1184:=t273 → t1183
def l426 : t1184 := (λx0=>(@List.rec Operand (λ_=>t1183) (λx1 x2 x3 x4 x5 x6=>(l425 (@Array.toList TypeId (Call.argTypes x3)) x1 x2 x4 x5 x6)) (λ_ _ _ _ _ _ _ _ _=>none) x0))
theorem l426_eq : ∀ x0 x1 x2 x3 x4 x5 x6, (Eq (l426 x0 x1 x2 x3 x4 x5 x6) (@zipIx._sparseCasesOn_2 Operand (λ_=>t4) x0 (l425 (@Array.toList TypeId (Call.argTypes x3)) x1 x2 x4 x5 x6) (λ_=>none))) := by intro t; cases t <;> (intros; rfl)
abbrev t1185:=Call → t195
abbrev t1186:=t14 → t1185
abbrev t1187:=Program → t1186
abbrev t1188:=t273 → t1187
def l427 : t1188 := (λx0=>(@List.rec Operand (λ_=>t1187) (λ_ _ _ _ _=>none) (λx1 x2 _ x4 x5 x6 x7 x8=>(l426 x2 x4 x5 x6 x7 x8 x1)) x0))
theorem l427_eq : ∀ x0 x1 x2 x3 x4 x5, (Eq (l427 x0 x1 x2 x3 x4 x5) (@zipIx._sparseCasesOn_3 Operand (λ_=>t4) x0 (λx6 x7=>(l426 x7 x1 x2 x3 x4 x5 x6)) (λ_=>none))) := by intro t; cases t <;> (intros; rfl)
abbrev t1189:=Call → t8
abbrev t1190:=t14 → t1189
abbrev t1191:=Program → t1190
abbrev t1192:=t273 → t1191
def l428 : t1192 := (λx0=>(@List.rec Operand (λ_=>t1191) (λ_ _ _ _=>none) (λx1 x2 _ x4 x5 x6 x7=>(l427 x2 x4 x5 x6 x7 x1)) x0))
theorem l428_eq : ∀ x0 x1 x2 x3 x4, (Eq (l428 x0 x1 x2 x3 x4) (@zipIx._sparseCasesOn_3 Operand (λ_=>t4) x0 (λx5 x6=>(l427 x6 x1 x2 x3 x4 x5)) (λ_=>none))) := by intro t; cases t <;> (intros; rfl)
def k_o_append : t1191 := (λx0 x1 x2 x3=>(l428 (@Array.toList Operand (Call.args x2)) x0 x1 x2 x3))
theorem k_o_append_eq : @k_o_append = o_append := by
  delta k_o_append o_append
  simp only [l420_eq, l428_eq, l425_eq, l426_eq, l412_eq, l424_eq, l422_eq, l427_eq, l421_eq, l411_eq, l390_eq, l423_eq]
  rw [k_appendV_eq, k_ev_eq, k_natOf_eq, k_appendZ_eq]
  all_goals kernel_rfl

abbrev t1193:=t164 → t8
def l429 : t1193 := (λx0=>(@Option.rec Nat (λ_=>t8) (λ_=>none) (λx1 x2=>(k_retI x2 IntKind.i64 (@Nat.cast Int (@NatCast.mk Int (λx3=>(Int.ofNat x3))) x1))) x0))
theorem l429_eq : ∀ x0 x1, (Eq (l429 x0 x1) (@elInfo._sparseCasesOn_3 Nat (λ_=>t4) x0 (λx2=>(k_retI x1 IntKind.i64 (@Nat.cast Int (@NatCast.mk Int (λx3=>(Int.ofNat x3))) x2))) (λ_=>none))) := by intro t; cases t <;> (intros; rfl)
def l430 : t647 := (λx0=>(@Value.rec (λ_=>t8) (λ_=>PUnit.{1}) (λ_=>PUnit.{1}) (λ_ _=>none) (λ_ _ _=>none) (λ_ _ _=>none) (λ_ _ _ _=>none) (λ_ _=>none) (λ_ _=>none) (λ_ _ x3 x4=>(k_retI x4 IntKind.i64 (@Nat.cast Int (@NatCast.mk Int (λx5=>(Int.ofNat x5))) x3))) (λ_ _=>none) (λ_ _=>none) (λ_ _ _ _ _ _=>none) (λ_=>none) (λ_ _ _ _=>none) (λ_=>none) (λ_ _ _=>none) (λ_ _ _=>none) (λ_ _=>PUnit.unit.{1}) PUnit.unit.{1} (λ_ _ _ _=>PUnit.unit.{1}) x0))
theorem l430_eq : ∀ x0 x1, (Eq (l430 x0 x1) (@sliceV._sparseCasesOn_6 (λ_=>t4) x0 (λ_ _ x4=>(k_retI x1 IntKind.i64 (@Nat.cast Int (@NatCast.mk Int (λx5=>(Int.ofNat x5))) x4))) (λ_=>none))) := by intro t; cases t <;> (intros; rfl)
def l431 : t186 := (λx0=>(@CV.rec (λ_=>t8) (λ_=>PUnit.{1}) (λ_=>none) (λx1 x2=>(l430 x1 x2)) (λ_ _ _=>none) (λ_ _ _ x4 _ x6=>(l429 x4 x6)) (λ_=>none) (λ_ _=>none) (λ_ _ _=>none) (λ_ _ _=>none) (λ_ _ _ _ _ _=>none) (λ_ _=>none) (λ_ _ _ _=>none) PUnit.unit.{1} (λ_ _ _ _=>PUnit.unit.{1}) x0))
theorem l431_eq : ∀ x0 x1, (Eq (l431 x0 x1) (@o_cap._sparseCasesOn_1 (λ_=>t4) x0 (λ_ _ _ x5 _=>(l429 x5 x1)) (λx2=>(l430 x2 x1)) (λ_=>none))) := by intro t; cases t <;> (intros; rfl)
def l432 : t101 := (λx0=>(@Option.rec CV (λ_=>t8) (λ_=>none) (λx1 x2=>(l431 x1 x2)) x0))
theorem l432_eq : ∀ x0 x1, (Eq (l432 x0 x1) (@elInfo._sparseCasesOn_3 CV (λ_=>t4) x0 (λx2=>(l431 x2 x1)) (λ_=>none))) := by intro t; cases t <;> (intros; rfl)
abbrev t1194:=t14 → t195
abbrev t1195:=TypeDesc → t1194
def l433 : t1195 := (λx0=>(@TypeDesc.rec (λ_=>t1194) (λ_ _ _=>none) (λ_ _ _=>none) (λ_ _ _ _=>none) (λ_ _ _ _=>none) (λ_ _ _ _=>none) (λ_ _ _=>none) (λ_ _ _=>none) (λ_ _ _ _=>none) (λ_ x2 x3 x4=>(l432 (k_ev x2 x4) x3)) (λ_ _ _ _ _=>none) (λ_ _ _ _ _=>none) (λ_ _ _ _ _=>none) (λ_ _ _ _=>none) (λ_ _ _ _ _ _=>none) (λ_ _ _ _=>none) (λ_ _ _ _=>none) (λ_ _ _ _ _=>none) x0))
theorem l433_eq : ∀ x0 x1 x2 x3, (Eq (l433 x0 x1 x2 x3) (@elInfo._sparseCasesOn_4 (λ_=>t4) x0 (λ_=>(l432 (k_ev x1 x3) x2)) (λ_=>none))) := by intro t; cases t <;> (intros; rfl)
abbrev t1196:=t336 → t1194
def l434 : t1196 := (λx0=>(@Option.rec TypeDesc (λ_=>t1194) (λ_ _ _=>none) (λx1 x2 x3 x4=>(l433 x1 x2 x3 x4)) x0))
theorem l434_eq : ∀ x0 x1 x2 x3, (Eq (l434 x0 x1 x2 x3) (@elInfo._sparseCasesOn_3 TypeDesc (λ_=>t4) x0 (λx4=>(l433 x4 x1 x2 x3)) (λ_=>none))) := by intro t; cases t <;> (intros; rfl)
abbrev t1197:=t1168 → t1130
def l435 : t1197 := (λx0=>(@List.rec TypeId (λ_=>t1130) (λx1 x2 x3 x4 x5=>(l434 (Program.underlying x1 x5) x2 x3 x4)) (λ_ _ _ _ _ _ _ _=>none) x0))
theorem l435_eq : ∀ x0 x1 x2 x3 x4 x5, (Eq (l435 x0 x1 x2 x3 x4 x5) (@zipIx._sparseCasesOn_2 TypeId (λ_=>t4) x0 (l434 (Program.underlying x1 x5) x2 x3 x4) (λ_=>none))) := by intro t; cases t <;> (intros; rfl)
abbrev t1198:=Program → t1194
abbrev t1199:=t1168 → t1198
def l436 : t1199 := (λx0=>(@List.rec TypeId (λ_=>t1198) (λ_ _ _ _=>none) (λx1 x2 _ x4 x5 x6 x7=>(l435 x2 x4 x5 x6 x7 x1)) x0))
theorem l436_eq : ∀ x0 x1 x2 x3 x4, (Eq (l436 x0 x1 x2 x3 x4) (@zipIx._sparseCasesOn_3 TypeId (λ_=>t4) x0 (λx5 x6=>(l435 x6 x1 x2 x3 x4 x5)) (λ_=>none))) := by intro t; cases t <;> (intros; rfl)
def l437 : t1188 := (λx0=>(@List.rec Operand (λ_=>t1187) (λx1 x2 x3 x4 x5=>(l436 (@Array.toList TypeId (Call.argTypes x3)) x1 x2 x4 x5)) (λ_ _ _ _ _ _ _ _=>none) x0))
theorem l437_eq : ∀ x0 x1 x2 x3 x4 x5, (Eq (l437 x0 x1 x2 x3 x4 x5) (@zipIx._sparseCasesOn_2 Operand (λ_=>t4) x0 (l436 (@Array.toList TypeId (Call.argTypes x3)) x1 x2 x4 x5) (λ_=>none))) := by intro t; cases t <;> (intros; rfl)
def l438 : t1192 := (λx0=>(@List.rec Operand (λ_=>t1191) (λ_ _ _ _=>none) (λx1 x2 _ x4 x5 x6 x7=>(l437 x2 x4 x5 x6 x7 x1)) x0))
theorem l438_eq : ∀ x0 x1 x2 x3 x4, (Eq (l438 x0 x1 x2 x3 x4) (@zipIx._sparseCasesOn_3 Operand (λ_=>t4) x0 (λx5 x6=>(l437 x6 x1 x2 x3 x4 x5)) (λ_=>none))) := by intro t; cases t <;> (intros; rfl)
def k_o_cap : t1191 := (λx0 x1 x2 x3=>(l438 (@Array.toList Operand (Call.args x2)) x0 x1 x2 x3))
theorem k_o_cap_eq : @k_o_cap = o_cap := by
  delta k_o_cap o_cap
  simp only [l436_eq, l438_eq, l430_eq, l437_eq, l429_eq, l431_eq, l434_eq, l435_eq, l432_eq, l433_eq]
  rw [k_retI_eq, k_ev_eq]
  all_goals kernel_rfl

abbrev t1200:=t497 → t163
def l442 : t1200 := (λx0=>(@Option.rec Addr (λ_=>t163) (λx1 x2=>(@dite ((λ_=>Bool) (CV.val (Value.slice none x1 x2))) (Eq x1 (@OfNat.ofNat Nat (nat_lit 0) (instOfNatNat (nat_lit 0)))) (instDecidableEqNat x1 (@OfNat.ofNat Nat (nat_lit 0) (instOfNatNat (nat_lit 0)))) (@Eq.ndrec_symm Nat (@OfNat.ofNat Nat (nat_lit 0) (instOfNatNat (nat_lit 0))) (λx3=>((λ_=>Bool) (CV.val (Value.slice none x3 x2)))) (@dite ((λ_=>Bool) (CV.val (Value.slice none (@OfNat.ofNat Nat (nat_lit 0) (instOfNatNat (nat_lit 0))) x2))) (Eq x2 (@OfNat.ofNat Nat (nat_lit 0) (instOfNatNat (nat_lit 0)))) (instDecidableEqNat x2 (@OfNat.ofNat Nat (nat_lit 0) (instOfNatNat (nat_lit 0)))) (@Eq.ndrec_symm Nat (@OfNat.ofNat Nat (nat_lit 0) (instOfNatNat (nat_lit 0))) (λx3=>((λ_=>Bool) (CV.val (Value.slice none (@OfNat.ofNat Nat (nat_lit 0) (instOfNatNat (nat_lit 0))) x3)))) ((λ_=>Bool.true) Unit.unit) x2) (λ_=>((λ_=>Bool.false) (CV.val (Value.slice none (@OfNat.ofNat Nat (nat_lit 0) (instOfNatNat (nat_lit 0))) x2))))) x1) (λ_=>((λ_=>Bool.false) (CV.val (Value.slice none x1 x2)))))) (λ_ _ _=>Bool.false) x0))
theorem l442_eq : ∀ x0 x1 x2, (Eq (l442 x0 x1 x2) (@sliceV._sparseCasesOn_7 Addr (λ_=>Bool) x0 (@dite ((λ_=>Bool) (CV.val (Value.slice none x1 x2))) (Eq x1 (@OfNat.ofNat Nat (nat_lit 0) (instOfNatNat (nat_lit 0)))) (instDecidableEqNat x1 (@OfNat.ofNat Nat (nat_lit 0) (instOfNatNat (nat_lit 0)))) (@Eq.ndrec_symm Nat (@OfNat.ofNat Nat (nat_lit 0) (instOfNatNat (nat_lit 0))) (λx3=>((λ_=>Bool) (CV.val (Value.slice none x3 x2)))) (@dite ((λ_=>Bool) (CV.val (Value.slice none (@OfNat.ofNat Nat (nat_lit 0) (instOfNatNat (nat_lit 0))) x2))) (Eq x2 (@OfNat.ofNat Nat (nat_lit 0) (instOfNatNat (nat_lit 0)))) (instDecidableEqNat x2 (@OfNat.ofNat Nat (nat_lit 0) (instOfNatNat (nat_lit 0)))) (@Eq.ndrec_symm Nat (@OfNat.ofNat Nat (nat_lit 0) (instOfNatNat (nat_lit 0))) (λx3=>((λ_=>Bool) (CV.val (Value.slice none (@OfNat.ofNat Nat (nat_lit 0) (instOfNatNat (nat_lit 0))) x3)))) ((λ_=>Bool.true) Unit.unit) x2) (λ_=>((λ_=>Bool.false) (CV.val (Value.slice none (@OfNat.ofNat Nat (nat_lit 0) (instOfNatNat (nat_lit 0))) x2))))) x1) (λ_=>((λ_=>Bool.false) (CV.val (Value.slice none x1 x2))))) (λ_=>Bool.false))) := by intro t; cases t <;> (intros; rfl)
def l443 : t1 := (λx0=>(@Value.rec (λ_=>Bool) (λ_=>PUnit.{1}) (λ_=>PUnit.{1}) (λ_=>Bool.false) (λ_ _=>Bool.false) (λ_ _=>Bool.false) (λ_ _ _=>Bool.false) (λ_=>Bool.false) (λ_=>Bool.false) (λx1 x2 x3=>(l442 x1 x2 x3)) (λ_=>Bool.false) (λ_=>Bool.false) (λ_ _ _ _ _=>Bool.false) Bool.false (λ_ _ _=>Bool.false) Bool.false (λ_ _=>Bool.false) (λ_ _=>Bool.false) (λ_ _=>PUnit.unit.{1}) PUnit.unit.{1} (λ_ _ _ _=>PUnit.unit.{1}) x0))
theorem l443_eq : ∀ x0, (Eq (l443 x0) (@sliceV._sparseCasesOn_6 (λ_=>Bool) x0 (λx1 x2 x3=>(l442 x1 x2 x3)) (λ_=>Bool.false))) := by intro t; cases t <;> (intros; rfl)
def l444 : t2 := (λx0=>(@CV.rec (λ_=>Bool) (λ_=>PUnit.{1}) Bool.false (λx1=>(l443 x1)) (λ_ _=>Bool.false) (λ_ _ _ _ _=>Bool.false) Bool.true (λ_=>Bool.false) (λ_ _=>Bool.false) (λ_ _=>Bool.false) (λ_ _ _ _ _=>Bool.false) (λ_=>Bool.false) (λ_ _ _=>Bool.false) PUnit.unit.{1} (λ_ _ _ _=>PUnit.unit.{1}) x0))
theorem l444_eq : ∀ x0, (Eq (l444 x0) (@noSl._sparseCasesOn_1 (λ_=>Bool) x0 Bool.true (λx1=>(l443 x1)) (λ_=>Bool.false))) := by intro t; cases t <;> (intros; rfl)
def k_noSl : t2 := (λx0=>(l444 x0))
theorem k_noSl_eq : @k_noSl = noSl := by
  delta k_noSl noSl
  simp only [l444_eq, l442_eq, l443_eq]
  all_goals kernel_rfl

def l441 : t533 := (λx0=>(@CV.rec (λ_=>t2) (λ_=>PUnit.{1}) (λx1=>(k_noSl x1)) (λ_ x2=>(k_noSl x2)) (λ_ _ x3=>(k_noSl x3)) (λ_ _ _ _ _ _=>Bool.true) (λx1=>(k_noSl x1)) (λ_ x2=>(k_noSl x2)) (λ_ _ x3=>(k_noSl x3)) (λ_ _ x3=>(k_noSl x3)) (λ_ _ _ _ _ x6=>(k_noSl x6)) (λ_ x2=>(k_noSl x2)) (λ_ _ _ x4=>(k_noSl x4)) PUnit.unit.{1} (λ_ _ _ _=>PUnit.unit.{1}) x0))
theorem l441_eq : ∀ x0 x1, (Eq (l441 x0 x1) (@anySl._sparseCasesOn_1 (λ_=>Bool) x0 (λ_ _ _ _ _=>Bool.true) (λ_=>(k_noSl x1)))) := by intro t; cases t <;> (intros; rfl)
def k_anySl : t2 := (λx0=>(l441 x0 x0))
theorem k_anySl_eq : @k_anySl = anySl := by
  delta k_anySl anySl
  simp only [l441_eq]
  rw [k_noSl_eq]
  all_goals kernel_rfl

def l440 : t428 := (λx0 x1 x2=>(@Bool.rec (λ_=>t4) none (k_retI x2 IntKind.i64 (nat_lit 0)) (@Bool.rec (λ_=>Bool) Bool.false (k_anySl x1) (@Bool.rec (λ_=>Bool) Bool.false (k_anySl x0) (@Bool.rec (λ_=>Bool) (k_noSl x1) Bool.true (k_noSl x0))))))
theorem l440_eq : ∀ x0 x1 x2, (Eq (l440 x0 x1 x2) (@Bool.rec (λ_=>t4) none (k_retI x2 IntKind.i64 (nat_lit 0)) (@Bool.rec (λ_=>Bool) Bool.false (k_anySl x1) (@Bool.rec (λ_=>Bool) Bool.false (k_anySl x0) (@Bool.rec (λ_=>Bool) (k_noSl x1) Bool.true (k_noSl x0)))))) := by intros; rfl
abbrev t1201:=t164 → t41
abbrev t1202:=Nat → t1201
abbrev t1203:=Nat → t1202
abbrev t1204:=Nat → t1203
abbrev t1205:=S → t1204
abbrev t1206:=CV → t1205
def l445 : t1206 := (λx0 x1 x2 x3 x4 x5 x6=>(@Bool.rec (λ_=>t4) none (k_retI x1 IntKind.i64 (nat_lit 0)) (@Bool.rec (λ_=>Bool) Bool.false (k_anySl x0) (@Bool.rec (λ_=>Bool) Bool.false (k_anySl (CV.sl x2 x3 x4 x5 x6)) (@Bool.rec (λ_=>Bool) (k_noSl x0) Bool.true (k_noSl (CV.sl x2 x3 x4 x5 x6)))))))
theorem l445_eq : ∀ x0 x1 x2 x3 x4 x5 x6, (Eq (l445 x0 x1 x2 x3 x4 x5 x6) (@Bool.rec (λ_=>t4) none (k_retI x1 IntKind.i64 (nat_lit 0)) (@Bool.rec (λ_=>Bool) Bool.false (k_anySl x0) (@Bool.rec (λ_=>Bool) Bool.false (k_anySl (CV.sl x2 x3 x4 x5 x6)) (@Bool.rec (λ_=>Bool) (k_noSl x0) Bool.true (k_noSl (CV.sl x2 x3 x4 x5 x6))))))) := by intros; rfl
abbrev t1207:=Nat → Nat
abbrev t1208:=Nat → t1207
def k_minN : t1208 := (λx0 x1=>(@Bool.rec (λ_=>Nat) x1 x0 (Nat.ble x0 x1)))
theorem k_minN_eq : @k_minN = minN := by
  delta k_minN minN
  all_goals kernel_rfl

abbrev t1209:=t31 → t1084
def l446 : t1209 := (λx0=>(@Option.rec t7 (λ_=>t1084) (λ_ _ _ _ _ _=>none) (λx1 x2 x3 x4 x5 x6 x7=>((λx8=>(k_wr_Ret x5 x2 (some (CO.row x6 x8 x7)) (λx9=>(k_retI x9 IntKind.i64 (@Nat.cast Int (@NatCast.mk Int (λx10=>(Int.ofNat x10))) (k_minN x3 x4)))))) x1)) x0))
theorem l446_eq : ∀ x0 x1 x2 x3 x4 x5 x6, (Eq (l446 x0 x1 x2 x3 x4 x5 x6) (@Option.rec t7 (λ_=>t4) none (λx7=>((λx8=>(k_wr_Ret x4 x1 (some (CO.row x5 x8 x6)) (λx9=>(k_retI x9 IntKind.i64 (@Nat.cast Int (@NatCast.mk Int (λx10=>(Int.ofNat x10))) (k_minN x2 x3)))))) x7)) x0)) := by intro t; cases t <;> (intros; rfl)
abbrev t1210:=Nat → t9
abbrev t1211:=Nat → t1210
abbrev t1212:=Nat → t1211
abbrev t1213:=Nat → t1212
abbrev t1214:=CO → t1213
def l447 : t1214 := (λx0=>(@CO.rec (λ_=>t1213) (λx1 x2 x3 x4 x5 x6 x7 x8 x9=>(l446 (k_putN x5 x8 x2) x4 x6 x7 x9 x1 x3)) (λ_ _ _ _ _ _ _ _ _=>none) (λ_ _ _ _ _ _ _ _ _ _ _ _ _ _=>none) (λ_ _ _ _ _ _=>none) (λ_ _ _ _ _ _=>none) x0))
theorem l447_eq : ∀ x0 x1 x2 x3 x4 x5 x6, (Eq (l447 x0 x1 x2 x3 x4 x5 x6) (@rdRow._sparseCasesOn_1 (λ_=>t4) x0 (λx7 x8 x9=>(l446 (k_putN x2 x5 x8) x1 x3 x4 x6 x7 x9)) (λ_=>none))) := by intro t; cases t <;> (intros; rfl)
abbrev t1215:=S → t1143
abbrev t1216:=Bool → t1215
def l448 : t1216 := (λx0=>(@Bool.rec (λ_=>t1215) (λ_ _ _ _ _ _ _ _=>none) (λx1 x2 x3 x4 x5 x6 x7 x8=>(k_rdRow x1 x6 x7 (Nat.mul (k_minN x5 x8) x2) (λx9 x10=>(@Bool.rec (λ_=>t4) none (k_rd_Ret x10 x3 (λx11 x12=>(l447 x11 x3 x4 x5 x8 x9 x12))) (k_allOne x9))))) x0))
theorem l448_eq : ∀ x0 x1 x2 x3 x4 x5 x6 x7 x8, (Eq (l448 x0 x1 x2 x3 x4 x5 x6 x7 x8) (@Bool.rec (λ_=>t4) none (k_rdRow x1 x6 x7 (Nat.mul (k_minN x5 x8) x2) (λx9 x10=>(@Bool.rec (λ_=>t4) none (k_rd_Ret x10 x3 (λx11 x12=>(l447 x11 x3 x4 x5 x8 x9 x12))) (k_allOne x9)))) x0)) := by intro t; cases t <;> (intros; rfl)
abbrev t1217:=t164 → t47
abbrev t1218:=Nat → t1217
abbrev t1219:=Nat → t1218
abbrev t1220:=Nat → t1219
abbrev t1221:=S → t1220
abbrev t1222:=CV → t1221
abbrev t1223:=CV → t1222
def l449 : t1223 := (λx0=>(@CV.rec (λ_=>t1222) (λ_=>PUnit.{1}) (λx1 x2 x3 x4 x5 x6 x7 _=>(l445 x1 x2 x3 x4 x5 x6 x7)) (λ_ x2 x3 x4 x5 x6 x7 x8 _=>(l445 x2 x3 x4 x5 x6 x7 x8)) (λ_ _ x3 x4 x5 x6 x7 x8 x9 _=>(l445 x3 x4 x5 x6 x7 x8 x9)) (λx1 x2 x3 _ x5 _ x7 x8 x9 x10 _ x12 x13=>(l448 (@Bool.rec (λ_=>Bool) Bool.false (Nat.beq x5 x13) (Nat.beq x12 x13)) x7 x13 x8 x9 x10 x1 x2 x3)) (λx1 x2 x3 x4 x5 x6 x7 _=>(l445 x1 x2 x3 x4 x5 x6 x7)) (λ_ x2 x3 x4 x5 x6 x7 x8 _=>(l445 x2 x3 x4 x5 x6 x7 x8)) (λ_ _ x3 x4 x5 x6 x7 x8 x9 _=>(l445 x3 x4 x5 x6 x7 x8 x9)) (λ_ _ x3 x4 x5 x6 x7 x8 x9 _=>(l445 x3 x4 x5 x6 x7 x8 x9)) (λ_ _ _ _ _ x6 x7 x8 x9 x10 x11 x12 _=>(l445 x6 x7 x8 x9 x10 x11 x12)) (λ_ x2 x3 x4 x5 x6 x7 x8 _=>(l445 x2 x3 x4 x5 x6 x7 x8)) (λ_ _ _ x4 x5 x6 x7 x8 x9 x10 _=>(l445 x4 x5 x6 x7 x8 x9 x10)) PUnit.unit.{1} (λ_ _ _ _=>PUnit.unit.{1}) x0))
theorem l449_eq : ∀ x0 x1 x2 x3 x4 x5 x6 x7 x8, (Eq (l449 x0 x1 x2 x3 x4 x5 x6 x7 x8) (@anySl._sparseCasesOn_1 (λ_=>t4) x0 (λx9 x10 x11 _ x13=>(l448 (@Bool.rec (λ_=>Bool) Bool.false (Nat.beq x13 x8) (Nat.beq x7 x8)) x2 x8 x3 x4 x5 x9 x10 x11)) (λ_=>(l445 x1 x2 x3 x4 x5 x6 x7)))) := by intro t; cases t <;> (intros; rfl)
abbrev t1224:=CV → t472
abbrev t1225:=CV → t1224
def l450 : t1225 := (λx0=>(@CV.rec (λ_=>t1224) (λ_=>PUnit.{1}) (λx1 x2 x3 _=>(l440 x1 x2 x3)) (λ_ x2 x3 x4 _=>(l440 x2 x3 x4)) (λ_ _ x3 x4 x5 _=>(l440 x3 x4 x5)) (λx1 x2 x3 x4 x5 _ x7 x8 x9=>(l449 x7 x7 x8 x1 x2 x3 x4 x5 x9)) (λx1 x2 x3 _=>(l440 x1 x2 x3)) (λ_ x2 x3 x4 _=>(l440 x2 x3 x4)) (λ_ _ x3 x4 x5 _=>(l440 x3 x4 x5)) (λ_ _ x3 x4 x5 _=>(l440 x3 x4 x5)) (λ_ _ _ _ _ x6 x7 x8 _=>(l440 x6 x7 x8)) (λ_ x2 x3 x4 _=>(l440 x2 x3 x4)) (λ_ _ _ x4 x5 x6 _=>(l440 x4 x5 x6)) PUnit.unit.{1} (λ_ _ _ _=>PUnit.unit.{1}) x0))
theorem l450_eq : ∀ x0 x1 x2 x3 x4, (Eq (l450 x0 x1 x2 x3 x4) (@anySl._sparseCasesOn_1 (λ_=>t4) x0 (λx5 x6 x7 x8 x9=>(l449 x2 x2 x3 x5 x6 x7 x8 x9 x4)) (λ_=>(l440 x1 x2 x3)))) := by intro t; cases t <;> (intros; rfl)
def k_copyV : t530 := (λx0 x1 x2 x3 x4=>(@Option.rec Nat (λ_=>t4) none (λx5=>((λx6=>(l450 x2 x2 x3 x4 x6)) x5)) (slSize x0 x1)))
theorem k_copyV_eq : @k_copyV = copyV := by
  delta k_copyV copyV
  simp only [l449_eq, l447_eq, l440_eq, l446_eq, l445_eq, l448_eq, l450_eq]
  rw [k_noSl_eq, k_anySl_eq, k_retI_eq, k_wr_Ret_eq, k_minN_eq, k_putN_eq, k_rdRow_eq, k_allOne_eq, k_rd_Ret_eq]
  all_goals kernel_rfl

def l439 : t1126 := (λx0=>(@Option.rec CV (λ_=>t1125) (λ_ _ _ _=>none) (λx1 x2 x3 x4 x5=>(k_copyV x2 x4 x5 x1 x3)) x0))
theorem l439_eq : ∀ x0 x1 x2 x3 x4, (Eq (l439 x0 x1 x2 x3 x4) (@elInfo._sparseCasesOn_3 CV (λ_=>t4) x0 (λx5=>(k_copyV x1 x3 x4 x5 x2)) (λ_=>none))) := by intro t; cases t <;> (intros; rfl)
def l451 : t1131 := (λx0=>(@Option.rec CV (λ_=>t1130) (λ_ _ _ _ _=>none) (λx1 x2 x3 x4 x5 x6=>(l439 (k_ev x3 x5) x2 x4 x6 x1)) x0))
theorem l451_eq : ∀ x0 x1 x2 x3 x4 x5, (Eq (l451 x0 x1 x2 x3 x4 x5) (@elInfo._sparseCasesOn_3 CV (λ_=>t4) x0 (λx6=>(l439 (k_ev x2 x4) x1 x3 x5 x6)) (λ_=>none))) := by intro t; cases t <;> (intros; rfl)
def l452 : t1175 := (λx0=>(@List.rec TypeId (λ_=>t1165) (λx1 x2 x3 x4 x5 x6=>(l451 (k_ev x2 x4) x1 x2 x3 x5 x6)) (λ_ _ _ _ _ _ _ _ _=>none) x0))
theorem l452_eq : ∀ x0 x1 x2 x3 x4 x5 x6, (Eq (l452 x0 x1 x2 x3 x4 x5 x6) (@zipIx._sparseCasesOn_2 TypeId (λ_=>t4) x0 (l451 (k_ev x2 x4) x1 x2 x3 x5 x6) (λ_=>none))) := by intro t; cases t <;> (intros; rfl)
def l453 : t1175 := (λx0=>(@List.rec TypeId (λ_=>t1165) (λ_ _ _ _ _ _=>none) (λ_ x2 _ x4 x5 x6 x7 x8 x9=>(l452 x2 x4 x5 x6 x7 x8 x9)) x0))
theorem l453_eq : ∀ x0 x1 x2 x3 x4 x5 x6, (Eq (l453 x0 x1 x2 x3 x4 x5 x6) (@zipIx._sparseCasesOn_3 TypeId (λ_=>t4) x0 (λ_ x8=>(l452 x8 x1 x2 x3 x4 x5 x6)) (λ_=>none))) := by intro t; cases t <;> (intros; rfl)
def l454 : t1180 := (λx0=>(@List.rec TypeId (λ_=>t1179) (λ_ _ _ _ _=>none) (λx1 x2 _ x4 x5 x6 x7 x8=>(l453 x2 x4 x5 x6 x7 x8 x1)) x0))
theorem l454_eq : ∀ x0 x1 x2 x3 x4 x5, (Eq (l454 x0 x1 x2 x3 x4 x5) (@zipIx._sparseCasesOn_3 TypeId (λ_=>t4) x0 (λx6 x7=>(l453 x7 x1 x2 x3 x4 x5 x6)) (λ_=>none))) := by intro t; cases t <;> (intros; rfl)
def l455 : t1184 := (λx0=>(@List.rec Operand (λ_=>t1183) (λx1 x2 x3 x4 x5 x6=>(l454 (@Array.toList TypeId (Call.argTypes x3)) x1 x2 x4 x5 x6)) (λ_ _ _ _ _ _ _ _ _=>none) x0))
theorem l455_eq : ∀ x0 x1 x2 x3 x4 x5 x6, (Eq (l455 x0 x1 x2 x3 x4 x5 x6) (@zipIx._sparseCasesOn_2 Operand (λ_=>t4) x0 (l454 (@Array.toList TypeId (Call.argTypes x3)) x1 x2 x4 x5 x6) (λ_=>none))) := by intro t; cases t <;> (intros; rfl)
def l456 : t1188 := (λx0=>(@List.rec Operand (λ_=>t1187) (λ_ _ _ _ _=>none) (λx1 x2 _ x4 x5 x6 x7 x8=>(l455 x2 x4 x5 x6 x7 x8 x1)) x0))
theorem l456_eq : ∀ x0 x1 x2 x3 x4 x5, (Eq (l456 x0 x1 x2 x3 x4 x5) (@zipIx._sparseCasesOn_3 Operand (λ_=>t4) x0 (λx6 x7=>(l455 x7 x1 x2 x3 x4 x5 x6)) (λ_=>none))) := by intro t; cases t <;> (intros; rfl)
def l457 : t1192 := (λx0=>(@List.rec Operand (λ_=>t1191) (λ_ _ _ _=>none) (λx1 x2 _ x4 x5 x6 x7=>(l456 x2 x4 x5 x6 x7 x1)) x0))
theorem l457_eq : ∀ x0 x1 x2 x3 x4, (Eq (l457 x0 x1 x2 x3 x4) (@zipIx._sparseCasesOn_3 Operand (λ_=>t4) x0 (λx5 x6=>(l456 x6 x1 x2 x3 x4 x5)) (λ_=>none))) := by intro t; cases t <;> (intros; rfl)
def k_o_copy : t1191 := (λx0 x1 x2 x3=>(l457 (@Array.toList Operand (Call.args x2)) x0 x1 x2 x3))
theorem k_o_copy_eq : @k_o_copy = o_copy := by
  delta k_o_copy o_copy
  simp only [l451_eq, l452_eq, l439_eq, l454_eq, l453_eq, l457_eq, l456_eq, l455_eq]
  rw [k_copyV_eq, k_ev_eq]
  all_goals kernel_rfl

def l458 : t45 := (λx0=>(@CO.rec (λ_=>t8) (λ_ _ _ _=>none) (λ_ x2 _ x4=>(k_retI x4 IntKind.i64 (@Nat.cast Int (@NatCast.mk Int (λx5=>(Int.ofNat x5))) (@List.length t343 x2)))) (λ_ _ _ _ _ _ _ _ _=>none) (λ_=>none) (λ_=>none) x0))
theorem l458_eq : ∀ x0 x1, (Eq (l458 x0 x1) (@lookupV._sparseCasesOn_2 (λ_=>t4) x0 (λ_ x3 _=>(k_retI x1 IntKind.i64 (@Nat.cast Int (@NatCast.mk Int (λx5=>(Int.ofNat x5))) (@List.length t343 x3)))) (λ_=>none))) := by intro t; cases t <;> (intros; rfl)
def l459 : t1193 := (λx0=>(@Option.rec Nat (λ_=>t8) (λx1=>(k_retI x1 IntKind.i64 (nat_lit 0))) (λ_ _=>none) x0))
theorem l459_eq : ∀ x0 x1, (Eq (l459 x0 x1) (@sliceV._sparseCasesOn_7 Nat (λ_=>t4) x0 (k_retI x1 IntKind.i64 (nat_lit 0)) (λ_=>none))) := by intro t; cases t <;> (intros; rfl)
def l460 : t647 := (λx0=>(@Value.rec (λ_=>t8) (λ_=>PUnit.{1}) (λ_=>PUnit.{1}) (λ_ _=>none) (λ_ _ _=>none) (λ_ _ _=>none) (λ_ _ _ _=>none) (λ_ _=>none) (λ_ _=>none) (λ_ _ _ _=>none) (λx1 x2=>(l459 x1 x2)) (λ_ _=>none) (λ_ _ _ _ _ _=>none) (λ_=>none) (λ_ _ _ _=>none) (λ_=>none) (λ_ _ _=>none) (λ_ _ _=>none) (λ_ _=>PUnit.unit.{1}) PUnit.unit.{1} (λ_ _ _ _=>PUnit.unit.{1}) x0))
theorem l460_eq : ∀ x0 x1, (Eq (l460 x0 x1) (@lookupV._sparseCasesOn_4 (λ_=>t4) x0 (λx2=>(l459 x2 x1)) (λ_=>none))) := by intro t; cases t <;> (intros; rfl)
def l461 : t186 := (λx0=>(@CV.rec (λ_=>t8) (λ_=>PUnit.{1}) (λ_=>none) (λx1 x2=>(l460 x1 x2)) (λ_ _ _=>none) (λ_ _ _ _ _ _=>none) (λ_=>none) (λx1 x2=>(k_rd_Ret x2 x1 (λx3 x4=>(l458 x3 x4)))) (λ_ _ _=>none) (λ_ _ _=>none) (λ_ _ _ _ _ _=>none) (λ_ _=>none) (λ_ _ _ _=>none) PUnit.unit.{1} (λ_ _ _ _=>PUnit.unit.{1}) x0))
theorem l461_eq : ∀ x0 x1, (Eq (l461 x0 x1) (@o_len._sparseCasesOn_2 (λ_=>t4) x0 (λx2=>(k_rd_Ret x1 x2 (λx3 x4=>(l458 x3 x4)))) (λx2=>(l460 x2 x1)) (λ_=>none))) := by intro t; cases t <;> (intros; rfl)
def l462 : t101 := (λx0=>(@Option.rec CV (λ_=>t8) (λ_=>none) (λx1 x2=>(l461 x1 x2)) x0))
theorem l462_eq : ∀ x0 x1, (Eq (l462 x0 x1) (@elInfo._sparseCasesOn_3 CV (λ_=>t4) x0 (λx2=>(l461 x2 x1)) (λ_=>none))) := by intro t; cases t <;> (intros; rfl)
def l463 : t647 := (λx0=>(@Value.rec (λ_=>t8) (λ_=>PUnit.{1}) (λ_=>PUnit.{1}) (λ_ _=>none) (λ_ _ _=>none) (λ_ _ _=>none) (λ_ _ _ _=>none) (λ_ _=>none) (λ_ _=>none) (λ_ x2 _ x4=>(k_retI x4 IntKind.i64 (@Nat.cast Int (@NatCast.mk Int (λx5=>(Int.ofNat x5))) x2))) (λ_ _=>none) (λ_ _=>none) (λ_ _ _ _ _ _=>none) (λ_=>none) (λ_ _ _ _=>none) (λ_=>none) (λ_ _ _=>none) (λ_ _ _=>none) (λ_ _=>PUnit.unit.{1}) PUnit.unit.{1} (λ_ _ _ _=>PUnit.unit.{1}) x0))
theorem l463_eq : ∀ x0 x1, (Eq (l463 x0 x1) (@sliceV._sparseCasesOn_6 (λ_=>t4) x0 (λ_ x3 _=>(k_retI x1 IntKind.i64 (@Nat.cast Int (@NatCast.mk Int (λx5=>(Int.ofNat x5))) x3))) (λ_=>none))) := by intro t; cases t <;> (intros; rfl)
def l464 : t186 := (λx0=>(@CV.rec (λ_=>t8) (λ_=>PUnit.{1}) (λ_=>none) (λx1 x2=>(l463 x1 x2)) (λ_ _ _=>none) (λ_ _ x3 _ _ x6=>(k_retI x6 IntKind.i64 (@Nat.cast Int (@NatCast.mk Int (λx7=>(Int.ofNat x7))) x3))) (λx1=>(k_retI x1 IntKind.i64 (nat_lit 0))) (λ_ _=>none) (λ_ _ _=>none) (λ_ _ _=>none) (λ_ _ _ _ _ _=>none) (λ_ _=>none) (λ_ _ _ _=>none) PUnit.unit.{1} (λ_ _ _ _=>PUnit.unit.{1}) x0))
theorem l464_eq : ∀ x0 x1, (Eq (l464 x0 x1) (@sliceV._sparseCasesOn_5 (λ_=>t4) x0 (λ_ _ x4 _ _=>(k_retI x1 IntKind.i64 (@Nat.cast Int (@NatCast.mk Int (λx7=>(Int.ofNat x7))) x4))) (k_retI x1 IntKind.i64 (nat_lit 0)) (λx2=>(l463 x2 x1)) (λ_=>none))) := by intro t; cases t <;> (intros; rfl)
def l465 : t101 := (λx0=>(@Option.rec CV (λ_=>t8) (λ_=>none) (λx1 x2=>(l464 x1 x2)) x0))
theorem l465_eq : ∀ x0 x1, (Eq (l465 x0 x1) (@elInfo._sparseCasesOn_3 CV (λ_=>t4) x0 (λx2=>(l464 x2 x1)) (λ_=>none))) := by intro t; cases t <;> (intros; rfl)
def l466 : t647 := (λx0=>(@Value.rec (λ_=>t8) (λ_=>PUnit.{1}) (λ_=>PUnit.{1}) (λ_ _=>none) (λ_ _ _=>none) (λ_ _ _=>none) (λ_ _ _ _=>none) (λx1 x2=>(k_retI x2 IntKind.i64 (@Nat.cast Int (@NatCast.mk Int (λx3=>(Int.ofNat x3))) (@List.length UInt8 (@Array.toList UInt8 (ByteArray.data x1)))))) (λ_ _=>none) (λ_ _ _ _=>none) (λ_ _=>none) (λ_ _=>none) (λ_ _ _ _ _ _=>none) (λ_=>none) (λ_ _ _ _=>none) (λ_=>none) (λ_ _ _=>none) (λ_ _ _=>none) (λ_ _=>PUnit.unit.{1}) PUnit.unit.{1} (λ_ _ _ _=>PUnit.unit.{1}) x0))
theorem l466_eq : ∀ x0 x1, (Eq (l466 x0 x1) (@eqK._sparseCasesOn_4 (λ_=>t4) x0 (λx2=>(k_retI x1 IntKind.i64 (@Nat.cast Int (@NatCast.mk Int (λx3=>(Int.ofNat x3))) (@List.length UInt8 (@Array.toList UInt8 (ByteArray.data x2)))))) (λ_=>none))) := by intro t; cases t <;> (intros; rfl)
def l467 : t186 := (λx0=>(@CV.rec (λ_=>t8) (λ_=>PUnit.{1}) (λ_=>none) (λx1 x2=>(l466 x1 x2)) (λ_ _ _=>none) (λ_ _ _ _ _ _=>none) (λ_=>none) (λ_ _=>none) (λ_ _ _=>none) (λ_ _ _=>none) (λ_ _ _ _ _ _=>none) (λ_ _=>none) (λ_ _ _ _=>none) PUnit.unit.{1} (λ_ _ _ _=>PUnit.unit.{1}) x0))
theorem l467_eq : ∀ x0 x1, (Eq (l467 x0 x1) (@natOf._sparseCasesOn_1 (λ_=>t4) x0 (λx2=>(l466 x2 x1)) (λ_=>none))) := by intro t; cases t <;> (intros; rfl)
def l468 : t101 := (λx0=>(@Option.rec CV (λ_=>t8) (λ_=>none) (λx1 x2=>(l467 x1 x2)) x0))
theorem l468_eq : ∀ x0 x1, (Eq (l468 x0 x1) (@elInfo._sparseCasesOn_3 CV (λ_=>t4) x0 (λx2=>(l467 x2 x1)) (λ_=>none))) := by intro t; cases t <;> (intros; rfl)
def l469 : t1195 := (λx0=>(@TypeDesc.rec (λ_=>t1194) (λ_ _ _=>none) (λ_ _ _=>none) (λ_ _ _ _=>none) (λ_ _ _ _=>none) (λ_ _ _ _=>none) (λx1 x2 x3=>(l468 (k_ev x1 x3) x2)) (λ_ _ _=>none) (λ_ _ _ _=>none) (λ_ x2 x3 x4=>(l465 (k_ev x2 x4) x3)) (λ_ _ _ _ _=>none) (λ_ _ x3 x4 x5=>(l462 (k_ev x3 x5) x4)) (λ_ _ _ _ _=>none) (λ_ _ _ _=>none) (λ_ _ _ _ _ _=>none) (λ_ _ _ _=>none) (λ_ _ _ _=>none) (λ_ _ _ _ _=>none) x0))
theorem l469_eq : ∀ x0 x1 x2 x3, (Eq (l469 x0 x1 x2 x3) (@o_len._sparseCasesOn_1 (λ_=>t4) x0 (λ_ _=>(l462 (k_ev x1 x3) x2)) (λ_=>(l465 (k_ev x1 x3) x2)) (l468 (k_ev x1 x3) x2) (λ_=>none))) := by intro t; cases t <;> (intros; rfl)
def l470 : t1196 := (λx0=>(@Option.rec TypeDesc (λ_=>t1194) (λ_ _ _=>none) (λx1 x2 x3 x4=>(l469 x1 x2 x3 x4)) x0))
theorem l470_eq : ∀ x0 x1 x2 x3, (Eq (l470 x0 x1 x2 x3) (@elInfo._sparseCasesOn_3 TypeDesc (λ_=>t4) x0 (λx4=>(l469 x4 x1 x2 x3)) (λ_=>none))) := by intro t; cases t <;> (intros; rfl)
def l471 : t1197 := (λx0=>(@List.rec TypeId (λ_=>t1130) (λx1 x2 x3 x4 x5=>(l470 (Program.underlying x1 x5) x2 x3 x4)) (λ_ _ _ _ _ _ _ _=>none) x0))
theorem l471_eq : ∀ x0 x1 x2 x3 x4 x5, (Eq (l471 x0 x1 x2 x3 x4 x5) (@zipIx._sparseCasesOn_2 TypeId (λ_=>t4) x0 (l470 (Program.underlying x1 x5) x2 x3 x4) (λ_=>none))) := by intro t; cases t <;> (intros; rfl)
def l472 : t1199 := (λx0=>(@List.rec TypeId (λ_=>t1198) (λ_ _ _ _=>none) (λx1 x2 _ x4 x5 x6 x7=>(l471 x2 x4 x5 x6 x7 x1)) x0))
theorem l472_eq : ∀ x0 x1 x2 x3 x4, (Eq (l472 x0 x1 x2 x3 x4) (@zipIx._sparseCasesOn_3 TypeId (λ_=>t4) x0 (λx5 x6=>(l471 x6 x1 x2 x3 x4 x5)) (λ_=>none))) := by intro t; cases t <;> (intros; rfl)
def l473 : t1188 := (λx0=>(@List.rec Operand (λ_=>t1187) (λx1 x2 x3 x4 x5=>(l472 (@Array.toList TypeId (Call.argTypes x3)) x1 x2 x4 x5)) (λ_ _ _ _ _ _ _ _=>none) x0))
theorem l473_eq : ∀ x0 x1 x2 x3 x4 x5, (Eq (l473 x0 x1 x2 x3 x4 x5) (@zipIx._sparseCasesOn_2 Operand (λ_=>t4) x0 (l472 (@Array.toList TypeId (Call.argTypes x3)) x1 x2 x4 x5) (λ_=>none))) := by intro t; cases t <;> (intros; rfl)
def l474 : t1192 := (λx0=>(@List.rec Operand (λ_=>t1191) (λ_ _ _ _=>none) (λx1 x2 _ x4 x5 x6 x7=>(l473 x2 x4 x5 x6 x7 x1)) x0))
theorem l474_eq : ∀ x0 x1 x2 x3 x4, (Eq (l474 x0 x1 x2 x3 x4) (@zipIx._sparseCasesOn_3 Operand (λ_=>t4) x0 (λx5 x6=>(l473 x6 x1 x2 x3 x4 x5)) (λ_=>none))) := by intro t; cases t <;> (intros; rfl)
def k_o_len : t1191 := (λx0 x1 x2 x3=>(l474 (@Array.toList Operand (Call.args x2)) x0 x1 x2 x3))
theorem k_o_len_eq : @k_o_len = o_len := by
  delta k_o_len o_len
  simp only [l460_eq, l461_eq, l458_eq, l471_eq, l467_eq, l463_eq, l468_eq, l466_eq, l465_eq, l473_eq, l464_eq, l459_eq, l462_eq, l469_eq, l472_eq, l474_eq, l470_eq]
  rw [k_retI_eq, k_rd_Ret_eq, k_ev_eq]
  all_goals kernel_rfl

abbrev t1226:=Int → t544
abbrev t1227:=IntKind → t1226
abbrev t1228:=S → t1227
abbrev t1229:=t7 → t1228
def l475 : t1229 := (λx0=>(@List.rec CV (λ_=>t1228) (λx1 x2 x3 x4=>(k_retI x1 x2 (@Bool.rec (λ_=>Int) x3 x4 (k_iLt x3 x4)))) (λ_ _ _ _ _ _ _=>none) x0))
theorem l475_eq : ∀ x0 x1 x2 x3 x4, (Eq (l475 x0 x1 x2 x3 x4) (@zipIx._sparseCasesOn_2 CV (λ_=>t4) x0 (k_retI x1 x2 (@Bool.rec (λ_=>Int) x3 x4 (k_iLt x3 x4))) (λ_=>none))) := by intro t; cases t <;> (intros; rfl)
abbrev t1230:=Int → t252
abbrev t1231:=IntKind → t1230
abbrev t1232:=S → t1231
abbrev t1233:=Value → t1232
def l476 : t1233 := (λx0=>(@Value.rec (λ_=>t1232) (λ_=>PUnit.{1}) (λ_=>PUnit.{1}) (λ_ _ _ _ _=>none) (λ_ x2 x3 x4 x5 x6=>(l475 x6 x3 x4 x5 x2)) (λ_ _ _ _ _ _=>none) (λ_ _ _ _ _ _ _=>none) (λ_ _ _ _ _=>none) (λ_ _ _ _ _=>none) (λ_ _ _ _ _ _ _=>none) (λ_ _ _ _ _=>none) (λ_ _ _ _ _=>none) (λ_ _ _ _ _ _ _ _ _=>none) (λ_ _ _ _=>none) (λ_ _ _ _ _ _ _=>none) (λ_ _ _ _=>none) (λ_ _ _ _ _ _=>none) (λ_ _ _ _ _ _=>none) (λ_ _=>PUnit.unit.{1}) PUnit.unit.{1} (λ_ _ _ _=>PUnit.unit.{1}) x0))
theorem l476_eq : ∀ x0 x1 x2 x3 x4, (Eq (l476 x0 x1 x2 x3 x4) (@natOf._sparseCasesOn_2 (λ_=>t4) x0 (λ_ x6=>(l475 x4 x1 x2 x3 x6)) (λ_=>none))) := by intro t; cases t <;> (intros; rfl)
abbrev t1234:=CV → t1232
def l477 : t1234 := (λx0=>(@CV.rec (λ_=>t1232) (λ_=>PUnit.{1}) (λ_ _ _ _=>none) (λx1 x2 x3 x4 x5=>(l476 x1 x2 x3 x4 x5)) (λ_ _ _ _ _ _=>none) (λ_ _ _ _ _ _ _ _ _=>none) (λ_ _ _ _=>none) (λ_ _ _ _ _=>none) (λ_ _ _ _ _ _=>none) (λ_ _ _ _ _ _=>none) (λ_ _ _ _ _ _ _ _ _=>none) (λ_ _ _ _ _=>none) (λ_ _ _ _ _ _ _=>none) PUnit.unit.{1} (λ_ _ _ _=>PUnit.unit.{1}) x0))
theorem l477_eq : ∀ x0 x1 x2 x3 x4, (Eq (l477 x0 x1 x2 x3 x4) (@natOf._sparseCasesOn_1 (λ_=>t4) x0 (λx5=>(l476 x5 x1 x2 x3 x4)) (λ_=>none))) := by intro t; cases t <;> (intros; rfl)
abbrev t1235:=t7 → t546
def l478 : t1235 := (λx0=>(@List.rec CV (λ_=>t546) (λ_ _ _=>none) (λx1 x2 _ x4 x5 x6=>(l477 x1 x4 x5 x6 x2)) x0))
theorem l478_eq : ∀ x0 x1 x2 x3, (Eq (l478 x0 x1 x2 x3) (@zipIx._sparseCasesOn_3 CV (λ_=>t4) x0 (λx4 x5=>(l477 x4 x1 x2 x3 x5)) (λ_=>none))) := by intro t; cases t <;> (intros; rfl)
abbrev t1236:=Value → t598
def l479 : t1236 := (λx0=>(@Value.rec (λ_=>t598) (λ_=>PUnit.{1}) (λ_=>PUnit.{1}) (λ_ _ _=>none) (λx1 x2 x3 x4=>(l478 x4 x3 x1 x2)) (λ_ _ _ _=>none) (λ_ _ _ _ _=>none) (λ_ _ _=>none) (λ_ _ _=>none) (λ_ _ _ _ _=>none) (λ_ _ _=>none) (λ_ _ _=>none) (λ_ _ _ _ _ _ _=>none) (λ_ _=>none) (λ_ _ _ _ _=>none) (λ_ _=>none) (λ_ _ _ _=>none) (λ_ _ _ _=>none) (λ_ _=>PUnit.unit.{1}) PUnit.unit.{1} (λ_ _ _ _=>PUnit.unit.{1}) x0))
theorem l479_eq : ∀ x0 x1 x2, (Eq (l479 x0 x1 x2) (@natOf._sparseCasesOn_2 (λ_=>t4) x0 (λx3 x4=>(l478 x2 x1 x3 x4)) (λ_=>none))) := by intro t; cases t <;> (intros; rfl)
def l480 : t599 := (λx0=>(@CV.rec (λ_=>t598) (λ_=>PUnit.{1}) (λ_ _=>none) (λx1 x2 x3=>(l479 x1 x2 x3)) (λ_ _ _ _=>none) (λ_ _ _ _ _ _ _=>none) (λ_ _=>none) (λ_ _ _=>none) (λ_ _ _ _=>none) (λ_ _ _ _=>none) (λ_ _ _ _ _ _ _=>none) (λ_ _ _=>none) (λ_ _ _ _ _=>none) PUnit.unit.{1} (λ_ _ _ _=>PUnit.unit.{1}) x0))
theorem l480_eq : ∀ x0 x1 x2, (Eq (l480 x0 x1 x2) (@natOf._sparseCasesOn_1 (λ_=>t4) x0 (λx3=>(l479 x3 x1 x2)) (λ_=>none))) := by intro t; cases t <;> (intros; rfl)
def l481 : t9 := (λx0=>(@List.rec CV (λ_=>t8) (λ_=>none) (λx1 x2 _ x4=>(l480 x1 x4 x2)) x0))
theorem l481_eq : ∀ x0 x1, (Eq (l481 x0 x1) (@zipIx._sparseCasesOn_3 CV (λ_=>t4) x0 (λx2 x3=>(l480 x2 x1 x3)) (λ_=>none))) := by intro t; cases t <;> (intros; rfl)
def l482 : t869 := (λx0=>(@Option.rec t7 (λ_=>t8) (λ_=>none) (λx1 x2=>(l481 x1 x2)) x0))
theorem l482_eq : ∀ x0 x1, (Eq (l482 x0 x1) (@elInfo._sparseCasesOn_3 t7 (λ_=>t4) x0 (λx2=>(l481 x2 x1)) (λ_=>none))) := by intro t; cases t <;> (intros; rfl)
def k_o_max : t1191 := (λ_ x1 x2 x3=>(l482 (k_evs x1 (@Array.toList Operand (Call.args x2))) x3))
theorem k_o_max_eq : @k_o_max = o_max := by
  delta k_o_max o_max
  simp only [l482_eq, l479_eq, l475_eq, l480_eq, l481_eq, l477_eq, l478_eq, l476_eq]
  rw [k_evs_eq, k_retI_eq, k_iLt_eq]
  all_goals kernel_rfl

def l483 : t1229 := (λx0=>(@List.rec CV (λ_=>t1228) (λx1 x2 x3 x4=>(k_retI x1 x2 (@Bool.rec (λ_=>Int) x3 x4 (k_iLt x4 x3)))) (λ_ _ _ _ _ _ _=>none) x0))
theorem l483_eq : ∀ x0 x1 x2 x3 x4, (Eq (l483 x0 x1 x2 x3 x4) (@zipIx._sparseCasesOn_2 CV (λ_=>t4) x0 (k_retI x1 x2 (@Bool.rec (λ_=>Int) x3 x4 (k_iLt x4 x3))) (λ_=>none))) := by intro t; cases t <;> (intros; rfl)
def l484 : t1233 := (λx0=>(@Value.rec (λ_=>t1232) (λ_=>PUnit.{1}) (λ_=>PUnit.{1}) (λ_ _ _ _ _=>none) (λ_ x2 x3 x4 x5 x6=>(l483 x6 x3 x4 x5 x2)) (λ_ _ _ _ _ _=>none) (λ_ _ _ _ _ _ _=>none) (λ_ _ _ _ _=>none) (λ_ _ _ _ _=>none) (λ_ _ _ _ _ _ _=>none) (λ_ _ _ _ _=>none) (λ_ _ _ _ _=>none) (λ_ _ _ _ _ _ _ _ _=>none) (λ_ _ _ _=>none) (λ_ _ _ _ _ _ _=>none) (λ_ _ _ _=>none) (λ_ _ _ _ _ _=>none) (λ_ _ _ _ _ _=>none) (λ_ _=>PUnit.unit.{1}) PUnit.unit.{1} (λ_ _ _ _=>PUnit.unit.{1}) x0))
theorem l484_eq : ∀ x0 x1 x2 x3 x4, (Eq (l484 x0 x1 x2 x3 x4) (@natOf._sparseCasesOn_2 (λ_=>t4) x0 (λ_ x6=>(l483 x4 x1 x2 x3 x6)) (λ_=>none))) := by intro t; cases t <;> (intros; rfl)
def l485 : t1234 := (λx0=>(@CV.rec (λ_=>t1232) (λ_=>PUnit.{1}) (λ_ _ _ _=>none) (λx1 x2 x3 x4 x5=>(l484 x1 x2 x3 x4 x5)) (λ_ _ _ _ _ _=>none) (λ_ _ _ _ _ _ _ _ _=>none) (λ_ _ _ _=>none) (λ_ _ _ _ _=>none) (λ_ _ _ _ _ _=>none) (λ_ _ _ _ _ _=>none) (λ_ _ _ _ _ _ _ _ _=>none) (λ_ _ _ _ _=>none) (λ_ _ _ _ _ _ _=>none) PUnit.unit.{1} (λ_ _ _ _=>PUnit.unit.{1}) x0))
theorem l485_eq : ∀ x0 x1 x2 x3 x4, (Eq (l485 x0 x1 x2 x3 x4) (@natOf._sparseCasesOn_1 (λ_=>t4) x0 (λx5=>(l484 x5 x1 x2 x3 x4)) (λ_=>none))) := by intro t; cases t <;> (intros; rfl)
def l486 : t1235 := (λx0=>(@List.rec CV (λ_=>t546) (λ_ _ _=>none) (λx1 x2 _ x4 x5 x6=>(l485 x1 x4 x5 x6 x2)) x0))
theorem l486_eq : ∀ x0 x1 x2 x3, (Eq (l486 x0 x1 x2 x3) (@zipIx._sparseCasesOn_3 CV (λ_=>t4) x0 (λx4 x5=>(l485 x4 x1 x2 x3 x5)) (λ_=>none))) := by intro t; cases t <;> (intros; rfl)
def l487 : t1236 := (λx0=>(@Value.rec (λ_=>t598) (λ_=>PUnit.{1}) (λ_=>PUnit.{1}) (λ_ _ _=>none) (λx1 x2 x3 x4=>(l486 x4 x3 x1 x2)) (λ_ _ _ _=>none) (λ_ _ _ _ _=>none) (λ_ _ _=>none) (λ_ _ _=>none) (λ_ _ _ _ _=>none) (λ_ _ _=>none) (λ_ _ _=>none) (λ_ _ _ _ _ _ _=>none) (λ_ _=>none) (λ_ _ _ _ _=>none) (λ_ _=>none) (λ_ _ _ _=>none) (λ_ _ _ _=>none) (λ_ _=>PUnit.unit.{1}) PUnit.unit.{1} (λ_ _ _ _=>PUnit.unit.{1}) x0))
theorem l487_eq : ∀ x0 x1 x2, (Eq (l487 x0 x1 x2) (@natOf._sparseCasesOn_2 (λ_=>t4) x0 (λx3 x4=>(l486 x2 x1 x3 x4)) (λ_=>none))) := by intro t; cases t <;> (intros; rfl)
def l488 : t599 := (λx0=>(@CV.rec (λ_=>t598) (λ_=>PUnit.{1}) (λ_ _=>none) (λx1 x2 x3=>(l487 x1 x2 x3)) (λ_ _ _ _=>none) (λ_ _ _ _ _ _ _=>none) (λ_ _=>none) (λ_ _ _=>none) (λ_ _ _ _=>none) (λ_ _ _ _=>none) (λ_ _ _ _ _ _ _=>none) (λ_ _ _=>none) (λ_ _ _ _ _=>none) PUnit.unit.{1} (λ_ _ _ _=>PUnit.unit.{1}) x0))
theorem l488_eq : ∀ x0 x1 x2, (Eq (l488 x0 x1 x2) (@natOf._sparseCasesOn_1 (λ_=>t4) x0 (λx3=>(l487 x3 x1 x2)) (λ_=>none))) := by intro t; cases t <;> (intros; rfl)
def l489 : t9 := (λx0=>(@List.rec CV (λ_=>t8) (λ_=>none) (λx1 x2 _ x4=>(l488 x1 x4 x2)) x0))
theorem l489_eq : ∀ x0 x1, (Eq (l489 x0 x1) (@zipIx._sparseCasesOn_3 CV (λ_=>t4) x0 (λx2 x3=>(l488 x2 x1 x3)) (λ_=>none))) := by intro t; cases t <;> (intros; rfl)
def l490 : t869 := (λx0=>(@Option.rec t7 (λ_=>t8) (λ_=>none) (λx1 x2=>(l489 x1 x2)) x0))
theorem l490_eq : ∀ x0 x1, (Eq (l490 x0 x1) (@elInfo._sparseCasesOn_3 t7 (λ_=>t4) x0 (λx2=>(l489 x2 x1)) (λ_=>none))) := by intro t; cases t <;> (intros; rfl)
def k_o_min : t1191 := (λ_ x1 x2 x3=>(l490 (k_evs x1 (@Array.toList Operand (Call.args x2))) x3))
theorem k_o_min_eq : @k_o_min = o_min := by
  delta k_o_min o_min
  simp only [l490_eq, l483_eq, l484_eq, l486_eq, l489_eq, l485_eq, l488_eq, l487_eq]
  rw [k_evs_eq, k_retI_eq, k_iLt_eq]
  all_goals kernel_rfl

abbrev t1237:=Builtin → t1191
def l389 : t1237 := (λx0=>(@Builtin.rec (λ_=>t1191) (λx1 x2 x3 x4=>(k_o_append x1 x2 x3 x4)) (λx1 x2 x3 x4=>(k_o_cap x1 x2 x3 x4)) (λ_ _ _ _=>none) (λ_ _ _ _=>none) (λ_ _ _ _=>none) (λx1 x2 x3 x4=>(k_o_copy x1 x2 x3 x4)) (λ_ _ _ _=>none) (λ_ _ _ _=>none) (λx1 x2 x3 x4=>(k_o_len x1 x2 x3 x4)) (λ_ _ _ _=>none) (λx1 x2 x3 x4=>(k_o_max x1 x2 x3 x4)) (λx1 x2 x3 x4=>(k_o_min x1 x2 x3 x4)) (λ_ _ _ _=>none) (λ_ _ _ _=>none) (λ_ _ _ _=>none) (λ_ _ _ _=>none) (λ_ _ _ _=>none) (λ_ _ _ _=>none) (λ_ _ _ _=>none) (λ_ _ _ _=>none) (λ_ _ _ _=>none) (λ_ _ _ _=>none) (λ_ _ _ _=>none) (λ_ _ _ _=>none) (λ_ _ _ _=>none) (λ_ _ _ _=>none) x0))
theorem l389_eq : ∀ x0 x1 x2 x3 x4, (Eq (l389 x0 x1 x2 x3 x4) (@o_call._sparseCasesOn_2 (λ_=>t4) x0 (k_o_len x1 x2 x3 x4) (k_o_append x1 x2 x3 x4) (k_o_cap x1 x2 x3 x4) (k_o_copy x1 x2 x3 x4) (k_o_min x1 x2 x3 x4) (k_o_max x1 x2 x3 x4) (λ_=>none))) := by intro t; cases t <;> (intros; rfl)
abbrev t1238:=Callee → t1191
def l491 : t1238 := (λx0=>(@Callee.rec (λ_=>t1191) (λ_ _ _ _ _=>none) (λ_ _ _ _ _ _=>none) (λx1 x2 x3 x4 x5=>(l389 x1 x2 x3 x4 x5)) x0))
theorem l491_eq : ∀ x0 x1 x2 x3 x4, (Eq (l491 x0 x1 x2 x3 x4) (@o_call._sparseCasesOn_1 (λ_=>t4) x0 (λx5=>(l389 x5 x1 x2 x3 x4)) (λ_=>none))) := by intro t; cases t <;> (intros; rfl)
def k_o_call : t1191 := (λx0 x1 x2 x3=>(l491 (Call.callee x2) x0 x1 x2 x3))
theorem k_o_call_eq : @k_o_call = o_call := by
  delta k_o_call o_call
  simp only [l491_eq, l389_eq]
  rw [k_o_min_eq, k_o_max_eq, k_o_len_eq, k_o_copy_eq, k_o_cap_eq, k_o_append_eq]
  all_goals kernel_rfl

abbrev t1239:=t14 → t8
abbrev t1240:=Program → t1239
abbrev t1241:=Op → t1240
def l47 : t1241 := (λx0=>(@Op.rec (λ_=>t1240) (λx1 x2 x3 x4=>(k_o_move x2 x3 x1 x4)) (λx1 x2 x3 x4=>(k_o_move x2 x3 x1 x4)) (λx1 x2 x3 x4 x5 x6=>(k_o_pick x4 x5 x1 x2 x3 x6)) (λx1 x2 x3 x4=>(k_o_alloc x2 x3 x1 x4)) (λx1 x2 x3 x4 x5=>(k_o_box x3 x4 x1 x2 x5)) (λx1 x2 x3 x4 x5=>(k_o_build x3 x4 x1 x2 x5)) (λx1 x2 x3 x4 x5 x6=>(k_o_buildSlice x4 x5 x1 x2 x3 x6)) (λx1 x2 x3 x4 x5 x6 x7=>(k_o_mapUpdate x5 x6 x1 x2 x3 x4 x7)) (λx1 x2 x3 x4 x5=>(k_o_load x3 x4 x1 x2 x5)) (λx1 x2 x3 x4 x5 x6=>(k_o_store x4 x5 x1 x2 x3 x6)) (λ_ _ _ _=>none) (λ_ _ _ _=>none) (λx1 x2 x3 x4=>(k_o_nilCheck x2 x3 x1 x4)) (λx1 x2 x3 x4 _ x6 x7 x8=>(k_o_binOp x6 x7 x1 x2 x3 x4 x8)) (λx1 _ x3 x4 x5 x6=>(k_o_unOp x4 x5 x1 x3 x6)) (λx1 x2 x3 x4 x5 x6=>(k_o_convert x4 x5 x1 x2 x3 x6)) (λ_ _ _ _ _=>none) (λx1 x2 x3 x4 x5=>(k_o_makeInterface x3 x4 x1 x2 x5)) (λx1 x2 x3 x4 x5 x6=>(k_o_makeFunc x4 x5 x1 x2 x3 x6)) (λx1 x2 x3 x4 x5=>(k_mapF x3 x4 x1 x2 x5)) (λ_ _ _ _ _=>none) (λx1 x2 x3 x4 x5 x6=>(k_o_makeSlice x4 x5 x1 x2 x3 x6)) (λx1 x2 x3 x4 x5 x6 x7 x8=>(k_o_slice x6 x7 x1 x2 x3 x4 x5 x8)) (λx1 x2 x3 x4 x5 x6=>(k_o_fieldAddr x4 x5 x1 x2 x3 x6)) (λx1 x2 x3 x4 x5 x6=>(k_o_field x4 x5 x1 x2 x3 x6)) (λx1 x2 x3 x4 x5 x6=>(k_o_indexAddr x4 x5 x1 x2 x3 x6)) (λx1 x2 x3 x4 x5 x6=>(k_o_index x4 x5 x1 x2 x3 x6)) (λx1 x2 x3 x4 x5 x6 x7=>(k_o_lookup x5 x6 x1 x2 x3 x4 x7)) (λx1 x2 x3 x4 x5 x6 x7=>(k_o_mapUpdate x5 x6 x1 x2 x3 x4 x7)) (λx1 x2 x3 x4 x5 x6=>(k_o_mapEntry x4 x5 x1 x2 x3 x6)) (λ_ x2 x3 x4 x5 x6 x7=>(k_o_entryStore x5 x6 x2 x3 x4 x7)) (λ_ _ _ _ _=>none) (λ_ _ _ _ _=>none) (λ_ _ _ _=>none) (λx1 _ x3 x4 x5 x6 x7=>(k_o_typeAssert x5 x6 x1 x3 x4 x7)) (λx1 x2 x3 x4 x5=>(k_o_extract x3 x4 x1 x2 x5)) (λx1 x2 x3 x4=>(k_o_call x2 x3 x1 x4)) (λ_ _ _ _=>none) (λ_ _ _ _=>none) (λ_ _ _ _=>none) (λ_ _ _ _ _=>none) (λ_ _ _ _ _ _=>none) (λ_ _ _ _ _=>none) x0))
theorem l47_eq : ∀ x0, (Eq (l47 x0) (@opF._sparseCasesOn_1 (λ_=>t1240) x0 (λx1 x2 x3 x4=>(k_o_call x2 x3 x1 x4)) (λx1 x2 x3 x4=>(k_o_move x2 x3 x1 x4)) (λx1 x2 x3 x4=>(k_o_move x2 x3 x1 x4)) (λx1 x2 x3 x4 x5 x6=>(k_o_pick x4 x5 x1 x2 x3 x6)) (λx1 x2 x3 x4=>(k_o_alloc x2 x3 x1 x4)) (λx1 x2 x3 x4 x5=>(k_o_box x3 x4 x1 x2 x5)) (λx1 x2 x3 x4 x5=>(k_o_build x3 x4 x1 x2 x5)) (λx1 x2 x3 x4 x5 x6=>(k_o_buildSlice x4 x5 x1 x2 x3 x6)) (λx1 x2 x3 x4 x5=>(k_o_load x3 x4 x1 x2 x5)) (λx1 x2 x3 x4 x5 x6=>(k_o_store x4 x5 x1 x2 x3 x6)) (λx1 x2 x3 x4=>(k_o_nilCheck x2 x3 x1 x4)) (λx1 x2 x3 x4 _ x6 x7 x8=>(k_o_binOp x6 x7 x1 x2 x3 x4 x8)) (λx1 _ x3 x4 x5 x6=>(k_o_unOp x4 x5 x1 x3 x6)) (λx1 x2 x3 x4 x5 x6=>(k_o_convert x4 x5 x1 x2 x3 x6)) (λx1 x2 x3 x4 x5=>(k_o_makeInterface x3 x4 x1 x2 x5)) (λx1 x2 x3 x4 x5 x6=>(k_o_makeFunc x4 x5 x1 x2 x3 x6)) (λx1 x2 x3 x4 x5=>(k_mapF x3 x4 x1 x2 x5)) (λx1 x2 x3 x4 x5 x6=>(k_o_makeSlice x4 x5 x1 x2 x3 x6)) (λx1 x2 x3 x4 x5 x6 x7 x8=>(k_o_slice x6 x7 x1 x2 x3 x4 x5 x8)) (λx1 x2 x3 x4 x5 x6=>(k_o_fieldAddr x4 x5 x1 x2 x3 x6)) (λx1 x2 x3 x4 x5 x6=>(k_o_field x4 x5 x1 x2 x3 x6)) (λx1 x2 x3 x4 x5 x6=>(k_o_indexAddr x4 x5 x1 x2 x3 x6)) (λx1 x2 x3 x4 x5 x6=>(k_o_index x4 x5 x1 x2 x3 x6)) (λx1 x2 x3 x4 x5 x6 x7=>(k_o_lookup x5 x6 x1 x2 x3 x4 x7)) (λx1 x2 x3 x4 x5 x6 x7=>(k_o_mapUpdate x5 x6 x1 x2 x3 x4 x7)) (λx1 x2 x3 x4 x5 x6 x7=>(k_o_mapUpdate x5 x6 x1 x2 x3 x4 x7)) (λx1 x2 x3 x4 x5 x6=>(k_o_mapEntry x4 x5 x1 x2 x3 x6)) (λ_ x2 x3 x4 x5 x6 x7=>(k_o_entryStore x5 x6 x2 x3 x4 x7)) (λx1 x2 x3 x4 x5=>(k_o_extract x3 x4 x1 x2 x5)) (λx1 _ x3 x4 x5 x6 x7=>(k_o_typeAssert x5 x6 x1 x3 x4 x7)) (λ_ _ _ _=>none))) := by intro t; cases t <;> (intros; rfl)
def k_opF : t1241 := (λx0=>(l47 x0))
theorem k_opF_eq : @k_opF = opF := by
  delta k_opF opF
  simp only [l47_eq]
  rw [k_o_call_eq, k_o_extract_eq, k_o_typeAssert_eq, k_o_entryStore_eq, k_o_mapEntry_eq, k_o_mapUpdate_eq, k_o_lookup_eq, k_o_index_eq, k_o_indexAddr_eq, k_o_field_eq, k_o_fieldAddr_eq, k_o_slice_eq, k_o_makeSlice_eq, k_mapF_eq, k_o_makeFunc_eq, k_o_makeInterface_eq, k_o_convert_eq, k_o_unOp_eq, k_o_binOp_eq, k_o_nilCheck_eq, k_o_store_eq, k_o_load_eq, k_o_buildSlice_eq, k_o_build_eq, k_o_box_eq, k_o_alloc_eq, k_o_pick_eq, k_o_move_eq]
  all_goals kernel_rfl

abbrev t1242:=Op → t8
abbrev t1243:=t14 → t1242
abbrev t1244:=Program → t1243
def k_opV' : t1244 := (λx0 x1 x2 x3=>(k_opF x2 x0 x1 x3))
theorem k_opV'_eq : @k_opV' = opV' := by
  delta k_opV' opV'
  rw [k_opF_eq]
  all_goals kernel_rfl

theorem k_opV_eq : @k_opV' = @opV := k_opV'_eq.trans opV'_eq
abbrev t1245:=S → t178
abbrev t1246:=Dm → t1245
abbrev t1247:=t14 → t1246
abbrev t1248:=t161 → t1247
abbrev t1249:=Nat → t1248
abbrev t1250:=Program → t1249
def l46 : t1250 := (λx0 x1 x2 x3 x4 x5 x6 x7=>(l45 (k_opV' x0 x3 (Oper.op x6) x5) x0 x1 x2 x3 x4 x6 x7))
theorem l46_eq : ∀ x0 x1 x2 x3 x4 x5 x6 x7, (Eq (l46 x0 x1 x2 x3 x4 x5 x6 x7) (l45 (k_opV' x0 x3 (Oper.op x6) x5) x0 x1 x2 x3 x4 x6 x7)) := by intros; rfl
def l492 : t184 := (λx0=>(@Ret.rec (λ_=>t183) (λx1 x2 x3 x4 x5 x6 x7 x8 x9=>(@Option.rec t14 (λ_=>t170) none (λx10=>(x9 x3 x4 x5 x10 x7 x2)) (k_putE x4 (Oper.dst x8) x1 x6))) (λ_ _ _ _ _ _ _ _ _=>none) x0))
theorem l492_eq : ∀ x0 x1 x2 x3 x4 x5 x6 x7, (Eq (l492 x0 x1 x2 x3 x4 x5 x6 x7) (@regP._sparseCasesOn_2 (λ_=>t170) x0 (λx8 x9=>(@Option.rec t14 (λ_=>t170) none (λx10=>(x7 x1 x2 x3 x10 x5 x9)) (k_putE x2 (Oper.dst x6) x8 x4))) (λ_=>none))) := by intro t; cases t <;> (intros; rfl)
def l493 : t185 := (λx0=>(@Option.rec Ret (λ_=>t183) (λ_ _ _ _ _ _ _=>none) (λx1 x2 x3 x4 x5 x6 x7 x8=>(l492 x1 x2 x3 x4 x5 x6 x7 x8)) x0))
theorem l493_eq : ∀ x0 x1 x2 x3 x4 x5 x6 x7, (Eq (l493 x0 x1 x2 x3 x4 x5 x6 x7) (@methV._sparseCasesOn_2 Ret (λ_=>t170) x0 (λx8=>(l492 x8 x1 x2 x3 x4 x5 x6 x7)) (λ_=>none))) := by intro t; cases t <;> (intros; rfl)
def l494 : t1250 := (λx0 x1 x2 x3 x4 x5 x6 x7=>(l493 (k_opV' x0 x3 (Oper.op x6) x5) x0 x1 x2 x3 x4 x6 x7))
theorem l494_eq : ∀ x0 x1 x2 x3 x4 x5 x6 x7, (Eq (l494 x0 x1 x2 x3 x4 x5 x6 x7) (l493 (k_opV' x0 x3 (Oper.op x6) x5) x0 x1 x2 x3 x4 x6 x7)) := by intros; rfl
def l495 : t184 := (λx0=>(@Ret.rec (λ_=>t183) (λx1 x2 x3 x4 x5 x6 x7 x8 x9=>(@Option.rec t14 (λ_=>t170) none (λx10=>(x9 x3 x4 x5 x10 x7 x2)) (k_putE x4 (Oper.dst x8) x1 x6))) (λ_ _ _ _ _ _ _ _ _=>none) x0))
theorem l495_eq : ∀ x0 x1 x2 x3 x4 x5 x6 x7, (Eq (l495 x0 x1 x2 x3 x4 x5 x6 x7) (@regP._sparseCasesOn_2 (λ_=>t170) x0 (λx8 x9=>(@Option.rec t14 (λ_=>t170) none (λx10=>(x7 x1 x2 x3 x10 x5 x9)) (k_putE x2 (Oper.dst x6) x8 x4))) (λ_=>none))) := by intro t; cases t <;> (intros; rfl)
def l496 : t185 := (λx0=>(@Option.rec Ret (λ_=>t183) (λ_ _ _ _ _ _ _=>none) (λx1 x2 x3 x4 x5 x6 x7 x8=>(l495 x1 x2 x3 x4 x5 x6 x7 x8)) x0))
theorem l496_eq : ∀ x0 x1 x2 x3 x4 x5 x6 x7, (Eq (l496 x0 x1 x2 x3 x4 x5 x6 x7) (@methV._sparseCasesOn_2 Ret (λ_=>t170) x0 (λx8=>(l495 x8 x1 x2 x3 x4 x5 x6 x7)) (λ_=>none))) := by intro t; cases t <;> (intros; rfl)
def l497 : t1250 := (λx0 x1 x2 x3 x4 x5 x6 x7=>(l496 (k_opV' x0 x3 (Oper.op x6) x5) x0 x1 x2 x3 x4 x6 x7))
theorem l497_eq : ∀ x0 x1 x2 x3 x4 x5 x6 x7, (Eq (l497 x0 x1 x2 x3 x4 x5 x6 x7) (l496 (k_opV' x0 x3 (Oper.op x6) x5) x0 x1 x2 x3 x4 x6 x7)) := by intros; rfl
abbrev t1251:=Bool → t170
abbrev t1252:=t81 → t1251
abbrev t1253:=t176 → t1252
abbrev t1254:=Oper → t1253
abbrev t1255:=S → t1254
abbrev t1256:=t14 → t1255
abbrev t1257:=t161 → t1256
abbrev t1258:=Nat → t1257
abbrev t1259:=Program → t1258
def l498 : t1259 := (λx0 x1 x2 x3 x4 x5 x6 x7 x8=>(@Option.rec t14 (λ_=>t170) none (λx9=>(x6 x0 x1 x2 x9 (Dm.mk x7 x8) x4)) (k_putE x1 (Oper.dst x5) (CV.val Value.nilIface) x3)))
theorem l498_eq : ∀ x0 x1 x2 x3 x4 x5 x6 x7 x8, (Eq (l498 x0 x1 x2 x3 x4 x5 x6 x7 x8) (@Option.rec t14 (λ_=>t170) none (λx9=>(x6 x0 x1 x2 x9 (Dm.mk x7 x8) x4)) (k_putE x1 (Oper.dst x5) (CV.val Value.nilIface) x3))) := by intros; rfl
abbrev t1260:=CV → t170
abbrev t1261:=Bool → t1260
abbrev t1262:=t176 → t1261
abbrev t1263:=Oper → t1262
abbrev t1264:=S → t1263
abbrev t1265:=t14 → t1264
abbrev t1266:=t161 → t1265
abbrev t1267:=Nat → t1266
abbrev t1268:=Program → t1267
def l499 : t1268 := (λx0 x1 x2 x3 x4 x5 x6 x7 x8=>(@Option.rec t14 (λ_=>t170) none (λx9=>(x6 x0 x1 x2 x9 (Dm.mk (some x8) x7) x4)) (k_putE x1 (Oper.dst x5) (CV.val Value.nilIface) x3)))
theorem l499_eq : ∀ x0 x1 x2 x3 x4 x5 x6 x7 x8, (Eq (l499 x0 x1 x2 x3 x4 x5 x6 x7 x8) (@Option.rec t14 (λ_=>t170) none (λx9=>(x6 x0 x1 x2 x9 (Dm.mk (some x8) x7) x4)) (k_putE x1 (Oper.dst x5) (CV.val Value.nilIface) x3))) := by intros; rfl
abbrev t1269:=CV → t1251
abbrev t1270:=t176 → t1269
abbrev t1271:=Oper → t1270
abbrev t1272:=S → t1271
abbrev t1273:=t14 → t1272
abbrev t1274:=t161 → t1273
abbrev t1275:=Nat → t1274
abbrev t1276:=Program → t1275
abbrev t1277:=Bool → t1276
def l500 : t1277 := (λx0=>(@Bool.rec (λ_=>t1276) (λx1 x2 x3 x4 x5 x6 x7 x8 _=>(@Option.rec t14 (λ_=>t170) none (λx10=>(x7 x1 x2 x3 x10 (Dm.mk (some x8) Bool.true) x5)) (k_putE x2 (Oper.dst x6) x8 x4))) (λx1 x2 x3 x4 x5 x6 x7 x8 x9=>(l499 x1 x2 x3 x4 x5 x6 x7 x9 x8)) x0))
theorem l500_eq : ∀ x0 x1 x2 x3 x4 x5 x6 x7 x8 x9, (Eq (l500 x0 x1 x2 x3 x4 x5 x6 x7 x8 x9) (@regR._sparseCasesOn_1 (λ_=>t170) x0 (@Option.rec t14 (λ_=>t170) none (λx10=>(x7 x1 x2 x3 x10 (Dm.mk (some x8) Bool.true) x5)) (k_putE x2 (Oper.dst x6) x8 x4)) (λ_=>(l499 x1 x2 x3 x4 x5 x6 x7 x9 x8)))) := by intro t; cases t <;> (intros; rfl)
abbrev t1278:=t81 → t1259
def l501 : t1278 := (λx0=>(@Option.rec CV (λ_=>t1259) (λx1 x2 x3 x4 x5 x6 x7 x8 x9=>(l498 x1 x2 x3 x4 x5 x6 x7 x8 x9)) (λx1 x2 x3 x4 x5 x6 x7 x8 _ x10=>(l500 x10 x2 x3 x4 x5 x6 x7 x8 x1 x10)) x0))
theorem l501_eq : ∀ x0 x1 x2 x3 x4 x5 x6 x7 x8 x9, (Eq (l501 x0 x1 x2 x3 x4 x5 x6 x7 x8 x9) (@methV._sparseCasesOn_2 CV (λ_=>t170) x0 (λx10=>(l500 x9 x1 x2 x3 x4 x5 x6 x7 x10 x9)) (λ_=>(l498 x1 x2 x3 x4 x5 x6 x7 x8 x9)))) := by intro t; cases t <;> (intros; rfl)
abbrev t1279:=Builtin → t1250
def l502 : t1279 := (λx0=>(@Builtin.rec (λ_=>t1250) (λx1 x2 x3 x4 x5 x6 x7 x8=>(l497 x1 x2 x3 x4 x5 x6 x7 x8)) (λx1 x2 x3 x4 x5 x6 x7 x8=>(l497 x1 x2 x3 x4 x5 x6 x7 x8)) (λx1 x2 x3 x4 x5 x6 x7 x8=>(l497 x1 x2 x3 x4 x5 x6 x7 x8)) (λx1 x2 x3 x4 x5 x6 x7 x8=>(l497 x1 x2 x3 x4 x5 x6 x7 x8)) (λx1 x2 x3 x4 x5 x6 x7 x8=>(l497 x1 x2 x3 x4 x5 x6 x7 x8)) (λx1 x2 x3 x4 x5 x6 x7 x8=>(l497 x1 x2 x3 x4 x5 x6 x7 x8)) (λx1 x2 x3 x4 x5 x6 x7 x8=>(l497 x1 x2 x3 x4 x5 x6 x7 x8)) (λx1 x2 x3 x4 x5 x6 x7 x8=>(l497 x1 x2 x3 x4 x5 x6 x7 x8)) (λx1 x2 x3 x4 x5 x6 x7 x8=>(l497 x1 x2 x3 x4 x5 x6 x7 x8)) (λx1 x2 x3 x4 x5 x6 x7 x8=>(l497 x1 x2 x3 x4 x5 x6 x7 x8)) (λx1 x2 x3 x4 x5 x6 x7 x8=>(l497 x1 x2 x3 x4 x5 x6 x7 x8)) (λx1 x2 x3 x4 x5 x6 x7 x8=>(l497 x1 x2 x3 x4 x5 x6 x7 x8)) (λx1 x2 x3 x4 x5 x6 x7 x8=>(l497 x1 x2 x3 x4 x5 x6 x7 x8)) (λx1 x2 x3 x4 x5 x6 x7 x8=>(l497 x1 x2 x3 x4 x5 x6 x7 x8)) (λx1 x2 x3 x4 x5 x6 x7 x8=>(l497 x1 x2 x3 x4 x5 x6 x7 x8)) (λx1 x2 x3 x4 x5 x6 x7 x8=>(l497 x1 x2 x3 x4 x5 x6 x7 x8)) (λx1 x2 x3 x4 x5 x6 x7 x8=>(l497 x1 x2 x3 x4 x5 x6 x7 x8)) (λx1 x2 x3 x4 x5 x6 x7 x8=>(@Dm.rec (λ_=>t170) (λx9 x10=>(l501 x9 x1 x2 x3 x4 x6 x7 x8 x9 x10)) x5)) (λx1 x2 x3 x4 x5 x6 x7 x8=>(l497 x1 x2 x3 x4 x5 x6 x7 x8)) (λx1 x2 x3 x4 x5 x6 x7 x8=>(l497 x1 x2 x3 x4 x5 x6 x7 x8)) (λx1 x2 x3 x4 x5 x6 x7 x8=>(l497 x1 x2 x3 x4 x5 x6 x7 x8)) (λx1 x2 x3 x4 x5 x6 x7 x8=>(l497 x1 x2 x3 x4 x5 x6 x7 x8)) (λx1 x2 x3 x4 x5 x6 x7 x8=>(l497 x1 x2 x3 x4 x5 x6 x7 x8)) (λx1 x2 x3 x4 x5 x6 x7 x8=>(l497 x1 x2 x3 x4 x5 x6 x7 x8)) (λx1 x2 x3 x4 x5 x6 x7 x8=>(l497 x1 x2 x3 x4 x5 x6 x7 x8)) (λx1 x2 x3 x4 x5 x6 x7 x8=>(l497 x1 x2 x3 x4 x5 x6 x7 x8)) x0))
theorem l502_eq : ∀ x0 x1 x2 x3 x4 x5 x6 x7 x8, (Eq (l502 x0 x1 x2 x3 x4 x5 x6 x7 x8) (@regR._sparseCasesOn_4 (λ_=>t170) x0 (@Dm.rec (λ_=>t170) (λx9 x10=>(l501 x9 x1 x2 x3 x4 x6 x7 x8 x9 x10)) x5) (λ_=>(l497 x1 x2 x3 x4 x5 x6 x7 x8)))) := by intro t; cases t <;> (intros; rfl)
abbrev t1280:=Callee → t1250
def l503 : t1280 := (λx0=>(@Callee.rec (λ_=>t1250) (λ_ x2 x3 x4 x5 x6 x7 x8 x9=>(l494 x2 x3 x4 x5 x6 x7 x8 x9)) (λ_ _ x3 x4 x5 x6 x7 x8 x9 x10=>(l494 x3 x4 x5 x6 x7 x8 x9 x10)) (λx1 x2 x3 x4 x5 x6 x7 x8 x9=>(l502 x1 x2 x3 x4 x5 x6 x7 x8 x9)) x0))
theorem l503_eq : ∀ x0 x1 x2 x3 x4 x5 x6 x7 x8, (Eq (l503 x0 x1 x2 x3 x4 x5 x6 x7 x8) (@regR._sparseCasesOn_3 (λ_=>t170) x0 (λx9=>(l502 x9 x1 x2 x3 x4 x5 x6 x7 x8)) (λ_=>(l494 x1 x2 x3 x4 x5 x6 x7 x8)))) := by intro t; cases t <;> (intros; rfl)
abbrev t1281:=Op → t1250
def l504 : t1281 := (λx0=>(@Op.rec (λ_=>t1250) (λ_ x2 x3 x4 x5 x6 x7 x8 x9=>(l46 x2 x3 x4 x5 x6 x7 x8 x9)) (λ_ x2 x3 x4 x5 x6 x7 x8 x9=>(l46 x2 x3 x4 x5 x6 x7 x8 x9)) (λ_ _ _ x4 x5 x6 x7 x8 x9 x10 x11=>(l46 x4 x5 x6 x7 x8 x9 x10 x11)) (λ_ x2 x3 x4 x5 x6 x7 x8 x9=>(l46 x2 x3 x4 x5 x6 x7 x8 x9)) (λ_ _ x3 x4 x5 x6 x7 x8 x9 x10=>(l46 x3 x4 x5 x6 x7 x8 x9 x10)) (λ_ _ x3 x4 x5 x6 x7 x8 x9 x10=>(l46 x3 x4 x5 x6 x7 x8 x9 x10)) (λ_ _ _ x4 x5 x6 x7 x8 x9 x10 x11=>(l46 x4 x5 x6 x7 x8 x9 x10 x11)) (λ_ _ _ _ x5 x6 x7 x8 x9 x10 x11 x12=>(l46 x5 x6 x7 x8 x9 x10 x11 x12)) (λ_ _ x3 x4 x5 x6 x7 x8 x9 x10=>(l46 x3 x4 x5 x6 x7 x8 x9 x10)) (λ_ _ _ x4 x5 x6 x7 x8 x9 x10 x11=>(l46 x4 x5 x6 x7 x8 x9 x10 x11)) (λ_ x2 x3 x4 x5 x6 x7 x8 x9=>(l46 x2 x3 x4 x5 x6 x7 x8 x9)) (λ_ x2 x3 x4 x5 x6 x7 x8 x9=>(l46 x2 x3 x4 x5 x6 x7 x8 x9)) (λ_ x2 x3 x4 x5 x6 x7 x8 x9=>(l46 x2 x3 x4 x5 x6 x7 x8 x9)) (λ_ _ _ _ _ x6 x7 x8 x9 x10 x11 x12 x13=>(l46 x6 x7 x8 x9 x10 x11 x12 x13)) (λ_ _ _ x4 x5 x6 x7 x8 x9 x10 x11=>(l46 x4 x5 x6 x7 x8 x9 x10 x11)) (λ_ _ _ x4 x5 x6 x7 x8 x9 x10 x11=>(l46 x4 x5 x6 x7 x8 x9 x10 x11)) (λ_ _ x3 x4 x5 x6 x7 x8 x9 x10=>(l46 x3 x4 x5 x6 x7 x8 x9 x10)) (λ_ _ x3 x4 x5 x6 x7 x8 x9 x10=>(l46 x3 x4 x5 x6 x7 x8 x9 x10)) (λ_ _ _ x4 x5 x6 x7 x8 x9 x10 x11=>(l46 x4 x5 x6 x7 x8 x9 x10 x11)) (λ_ _ x3 x4 x5 x6 x7 x8 x9 x10=>(l46 x3 x4 x5 x6 x7 x8 x9 x10)) (λ_ _ x3 x4 x5 x6 x7 x8 x9 x10=>(l46 x3 x4 x5 x6 x7 x8 x9 x10)) (λ_ _ _ x4 x5 x6 x7 x8 x9 x10 x11=>(l46 x4 x5 x6 x7 x8 x9 x10 x11)) (λ_ _ _ _ _ x6 x7 x8 x9 x10 x11 x12 x13=>(l46 x6 x7 x8 x9 x10 x11 x12 x13)) (λ_ _ _ x4 x5 x6 x7 x8 x9 x10 x11=>(l46 x4 x5 x6 x7 x8 x9 x10 x11)) (λ_ _ _ x4 x5 x6 x7 x8 x9 x10 x11=>(l46 x4 x5 x6 x7 x8 x9 x10 x11)) (λ_ _ _ x4 x5 x6 x7 x8 x9 x10 x11=>(l46 x4 x5 x6 x7 x8 x9 x10 x11)) (λ_ _ _ x4 x5 x6 x7 x8 x9 x10 x11=>(l46 x4 x5 x6 x7 x8 x9 x10 x11)) (λ_ _ _ _ x5 x6 x7 x8 x9 x10 x11 x12=>(l46 x5 x6 x7 x8 x9 x10 x11 x12)) (λ_ _ _ _ x5 x6 x7 x8 x9 x10 x11 x12=>(l46 x5 x6 x7 x8 x9 x10 x11 x12)) (λ_ _ _ x4 x5 x6 x7 x8 x9 x10 x11=>(l46 x4 x5 x6 x7 x8 x9 x10 x11)) (λ_ _ _ _ x5 x6 x7 x8 x9 x10 x11 x12=>(l46 x5 x6 x7 x8 x9 x10 x11 x12)) (λ_ _ x3 x4 x5 x6 x7 x8 x9 x10=>(l46 x3 x4 x5 x6 x7 x8 x9 x10)) (λ_ _ x3 x4 x5 x6 x7 x8 x9 x10=>(l46 x3 x4 x5 x6 x7 x8 x9 x10)) (λ_ x2 x3 x4 x5 x6 x7 x8 x9=>(l46 x2 x3 x4 x5 x6 x7 x8 x9)) (λ_ _ _ _ x5 x6 x7 x8 x9 x10 x11 x12=>(l46 x5 x6 x7 x8 x9 x10 x11 x12)) (λ_ _ x3 x4 x5 x6 x7 x8 x9 x10=>(l46 x3 x4 x5 x6 x7 x8 x9 x10)) (λx1 x2 x3 x4 x5 x6 x7 x8 x9=>(l503 (Call.callee x1) x2 x3 x4 x5 x6 x7 x8 x9)) (λ_ x2 x3 x4 x5 x6 x7 x8 x9=>(l46 x2 x3 x4 x5 x6 x7 x8 x9)) (λ_ x2 x3 x4 x5 x6 x7 x8 x9=>(l46 x2 x3 x4 x5 x6 x7 x8 x9)) (λ_ x2 x3 x4 x5 x6 x7 x8 x9=>(l46 x2 x3 x4 x5 x6 x7 x8 x9)) (λ_ _ x3 x4 x5 x6 x7 x8 x9 x10=>(l46 x3 x4 x5 x6 x7 x8 x9 x10)) (λ_ _ _ x4 x5 x6 x7 x8 x9 x10 x11=>(l46 x4 x5 x6 x7 x8 x9 x10 x11)) (λ_ _ x3 x4 x5 x6 x7 x8 x9 x10=>(l46 x3 x4 x5 x6 x7 x8 x9 x10)) x0))
theorem l504_eq : ∀ x0 x1 x2 x3 x4 x5 x6 x7 x8, (Eq (l504 x0 x1 x2 x3 x4 x5 x6 x7 x8) (@regR._sparseCasesOn_5 (λ_=>t170) x0 (λx9=>(l503 (Call.callee x9) x1 x2 x3 x4 x5 x6 x7 x8)) (λ_=>(l46 x1 x2 x3 x4 x5 x6 x7 x8)))) := by intro t; cases t <;> (intros; rfl)
abbrev t1282:=Bool → t1250
def l505 : t1282 := (λx0=>(@Bool.rec (λ_=>t1250) (λx1 x2 x3 x4 x5 x6 x7 x8=>(@Option.rec t14 (λ_=>t170) none (λx9=>(x8 x1 x2 x3 x9 x5 x6)) (k_putE x2 (Oper.dst x7) (CV.tup []) x4))) (λx1 x2 x3 x4 x5 x6 x7 x8=>(l504 (Oper.op x7) x1 x2 x3 x4 x5 x6 x7 x8)) x0))
theorem l505_eq : ∀ x0 x1 x2 x3 x4 x5 x6 x7 x8, (Eq (l505 x0 x1 x2 x3 x4 x5 x6 x7 x8) (@Bool.rec (λ_=>t170) (@Option.rec t14 (λ_=>t170) none (λx9=>(x8 x1 x2 x3 x9 x5 x6)) (k_putE x2 (Oper.dst x7) (CV.tup []) x4)) (l504 (Oper.op x7) x1 x2 x3 x4 x5 x6 x7 x8) x0)) := by intro t; cases t <;> (intros; rfl)
def l506 : t490 := (λx0=>(@Value.rec (λ_=>t391) (λ_=>PUnit.{1}) (λ_=>PUnit.{1}) (λx1 x2=>(@Bool.rec (λ_=>t369) (some (@Bool.rec (λ_=>Bool) Bool.true Bool.false x2)) (some x2) x1)) (λ_ _ _=>none) (λ_ _ _=>none) (λ_ _ _ _=>none) (λ_ _=>none) (λ_ _=>none) (λ_ _ _ _=>none) (λ_ _=>none) (λ_ _=>none) (λ_ _ _ _ _ _=>none) (λ_=>none) (λ_ _ _ _=>none) (λ_=>none) (λ_ _ _=>none) (λ_ _ _=>none) (λ_ _=>PUnit.unit.{1}) PUnit.unit.{1} (λ_ _ _ _=>PUnit.unit.{1}) x0))
theorem l506_eq : ∀ x0 x1, (Eq (l506 x0 x1) (@guardV._sparseCasesOn_2 (λ_=>t369) x0 (λx2=>(@Bool.rec (λ_=>t369) (some (@Bool.rec (λ_=>Bool) Bool.true Bool.false x1)) (some x1) x2)) (λ_=>none))) := by intro t; cases t <;> (intros; rfl)
def l507 : t372 := (λx0=>(@List.rec CV (λ_=>t369) (some Bool.false) (λ_ _ _=>none) x0))
theorem l507_eq : ∀ x0, (Eq (l507 x0) (@methV._sparseCasesOn_1 CV (λ_=>t369) x0 (some Bool.false) (λ_=>none))) := by intro t; cases t <;> (intros; rfl)
def l508 : t491 := (λx0=>(@CV.rec (λ_=>t391) (λ_=>PUnit.{1}) (λ_=>none) (λx1 x2=>(l506 x1 x2)) (λ_ _ _=>none) (λ_ _ _ _ _ _=>none) (λ_=>none) (λ_ _=>none) (λ_ _ _=>none) (λx1 _ _=>(l507 x1)) (λ_ _ _ _ _ _=>none) (λ_ _=>none) (λ_ _ _ _=>none) PUnit.unit.{1} (λ_ _ _ _=>PUnit.unit.{1}) x0))
theorem l508_eq : ∀ x0 x1, (Eq (l508 x0 x1) (@guardV._sparseCasesOn_1 (λ_=>t369) x0 (λx2=>(l506 x2 x1)) (λx2=>(l507 x2)) (λ_=>none))) := by intro t; cases t <;> (intros; rfl)
abbrev t1283:=t81 → t391
def l509 : t1283 := (λx0=>(@Option.rec CV (λ_=>t391) (λ_=>none) (λx1 x2=>(l508 x1 x2)) x0))
theorem l509_eq : ∀ x0 x1, (Eq (l509 x0 x1) (@methV._sparseCasesOn_2 CV (λ_=>t369) x0 (λx2=>(l508 x2 x1)) (λ_=>none))) := by intro t; cases t <;> (intros; rfl)
abbrev t1284:=Option Oper
abbrev t1285:=Nat → t1284
abbrev t1286:=t161 → t1285
def k_List_get?Internal_Oper : t1286 := (λx0 x1=>(@List.rec Oper (λ_=>t1285) (λ_=>none) (λx2 _ x4 x5=>(@Nat.rec (λ_=>t1284) (some x2) (λx6 _=>(x4 x6)) x5)) x0 x1))
theorem k_List_get?Internal_Oper_law : ∀ x0 x1, (Eq (k_List_get?Internal_Oper x0 x1) (@List.get?Internal Oper x0 x1)) := by
  intro t
  induction t with
  | nil  =>
    intro z0
    show ((fun (_ : Nat) => none) z0) = _
    conv => rhs; rw [List.get?Internal.eq_def]
    all_goals kernel_rfl
  | cons y0 y1 ih0 =>
    intro z0
    have e0 : (fun (x0 : Nat) => (k_List_get?Internal_Oper y1 x0)) = (fun (x0 : Nat) => (@List.get?Internal Oper y1 x0)) := by
      funext z0; exact ih0 z0
    show ((fun (x0 : Oper) (_ : t161) (x2 : t1285) (x3 : Nat) => (@Nat.rec (fun (_ : Nat) => t1284) (some x0) (fun (x4 : Nat) (_ : t1284) => (x2 x4)) x3)) y0 y1 (fun (x0 : Nat) => (k_List_get?Internal_Oper y1 x0)) z0) = _
    rw [e0]
    conv => rhs; rw [List.get?Internal.eq_def]
    all_goals kernel_rfl
theorem k_List_get?Internal_Oper_eq : @k_List_get?Internal_Oper = (@List.get?Internal Oper) := by
  funext a0 a1; exact k_List_get?Internal_Oper_law a0 a1
abbrev t1287:=Prod Nat Bool
abbrev t1288:=t14 → t369
abbrev t1289:=t161 → t1288
abbrev t1290:=t1287 → t1289
def l510 : t1290 := (λx0=>(@Prod.rec Nat Bool (λ_=>t1289) (λx1 x2 x3 x4=>((λx5 x6=>(@Option.rec Oper (λ_=>t369) none (λx7=>((λx8=>(@Option.rec Tmp (λ_=>t369) none (λx9=>((λx10=>(l509 (getCV x4 x10) x6)) x9)) (Oper.dst x8))) x7)) (k_List_get?Internal_Oper x3 x5))) x1 x2)) x0))
theorem l510_eq : ∀ x0 x1 x2, (Eq (l510 x0 x1 x2) (@Prod.rec Nat Bool (λ_=>t369) (λx3 x4=>((λx5 x6=>(@Option.rec Oper (λ_=>t369) none (λx7=>((λx8=>(@Option.rec Tmp (λ_=>t369) none (λx9=>((λx10=>(l509 (getCV x2 x10) x6)) x9)) (Oper.dst x8))) x7)) (k_List_get?Internal_Oper x1 x5))) x3 x4)) x0)) := by intro t; cases t <;> (intros; rfl)
abbrev t1291:=Oper → t369
abbrev t1292:=t14 → t1291
abbrev t1293:=t161 → t1292
def k_guardV : t1293 := (λx0 x1 x2=>(@Option.rec t1287 (λ_=>t369) (some Bool.true) (λx3=>(l510 x3 x0 x1)) (Oper.guard x2)))
theorem k_guardV_eq : @k_guardV = guardV := by
  delta k_guardV guardV
  simp only [l507_eq, l509_eq, l506_eq, l510_eq, l508_eq]
  rw [k_List_get?Internal_Oper_eq, getCV_eq]
  all_goals kernel_rfl

abbrev t1294:=t161 → t174
abbrev t1295:=Nat → t1294
abbrev t1296:=Program → t1295
def k_regR : t1296 := (λx0 x1 x2 x3 x4 x5 x6=>(@List.rec Oper (λ_=>t176) (λ_ _ _ x10 x11 x12=>(some (x10, (x11, x12)))) (λx7 _ x9 x10 x11 x12 x13 x14 x15=>(@Option.rec Bool (λ_=>t170) none (λx16=>(l505 x16 x10 x11 x12 x13 x14 x15 x7 x9)) (k_guardV x12 x13 x7))) x3 x0 x1 x2 x4 x5 x6))
theorem k_regR_law : ∀ x0 x1 x2 x3 x4 x5 x6, (Eq (k_regR x1 x2 x3 x0 x4 x5 x6) (regR x1 x2 x3 x0 x4 x5 x6)) := by
  intro t
  induction t with
  | nil  =>
    intro z0 z1 z2 z3 z4 z5
    show ((fun (_ : Program) (_ : Nat) (_ : t161) (x3 : t14) (x4 : Dm) (x5 : S) => (some (x3, (x4, x5)))) z0 z1 z2 z3 z4 z5) = _
    conv => rhs; rw [Ev.regR.eq_def]
    all_goals kernel_rfl
  | cons y0 y1 ih0 =>
    intro z0 z1 z2 z3 z4 z5
    have e0 : (fun (x0 : Program) (x1 : Nat) (x2 : t161) (x3 : t14) (x4 : Dm) (x5 : S) => (k_regR x0 x1 x2 y1 x3 x4 x5)) = (fun (x0 : Program) (x1 : Nat) (x2 : t161) (x3 : t14) (x4 : Dm) (x5 : S) => (regR x0 x1 x2 y1 x3 x4 x5)) := by
      funext z0 z1 z2 z3 z4 z5; exact ih0 z0 z1 z2 z3 z4 z5
    show ((fun (x0 : Oper) (_ : t161) (x2 : t176) (x3 : Program) (x4 : Nat) (x5 : t161) (x6 : t14) (x7 : Dm) (x8 : S) => (@Option.rec Bool (fun (_ : t369) => t170) none (fun (x9 : Bool) => (l505 x9 x3 x4 x5 x6 x7 x8 x0 x2)) (k_guardV x5 x6 x0))) y0 y1 (fun (x0 : Program) (x1 : Nat) (x2 : t161) (x3 : t14) (x4 : Dm) (x5 : S) => (k_regR x0 x1 x2 y1 x3 x4 x5)) z0 z1 z2 z3 z4 z5) = _
    rw [e0]
    conv => rhs; rw [Ev.regR.eq_def]
    try simp only [l494_eq, l499_eq, l502_eq, l497_eq, l492_eq, l46_eq, l501_eq, l45_eq, l503_eq, l493_eq, l505_eq, l498_eq, l496_eq, l44_eq, l495_eq, l504_eq, l500_eq]
    try rw [k_guardV_eq]
    try rw [k_putE_eq]
    try rw [k_opV_eq]
    all_goals kernel_rfl
theorem k_regR_eq : @k_regR = regR := by
  funext a0 a1 a2 a3 a4 a5 a6; exact k_regR_law a3 a0 a1 a2 a4 a5 a6
abbrev t1297:=Program → t137
abbrev t1298:=(Array Oper) → t1297
abbrev t1299:=Nat → t1298
abbrev t1300:=S → t1299
abbrev t1301:=Dm → t1300
abbrev t1302:=t14 → t1301
abbrev t1303:=Nat → t1302
abbrev t1304:=Run → t1303
abbrev t1305:=Bool → t1304
def l43 : t1305 := (λx0=>(@Bool.rec (λ_=>t1304) (λx1 x2 x3 x4 x5 x6 x7 _=>(l42 (Run.code x1 (Code.region x6 x7 Bool.false) (Fr.mk x2 x3 [] none) x5) x4)) (λ_ x2 x3 x4 x5 _ x7 x8=>(@Option.rec t131 (λ_=>t137) none (λx9=>(@Prod.rec t14 t126 (λ_=>t137) (λx10 x11=>(@Prod.rec Dm S (λ_=>t137) (λx12 x13=>(some (Ex.normal, (x10, (x12, x13))))) x11)) x9)) (k_regR x8 x2 (@Array.toList Oper x7) (@Array.toList Oper x7) x3 x4 x5))) x0))
theorem l43_eq : ∀ x0 x1 x2 x3 x4 x5 x6 x7 x8, (Eq (l43 x0 x1 x2 x3 x4 x5 x6 x7 x8) (@Bool.rec (λ_=>t137) (l42 (Run.code x1 (Code.region x6 x7 Bool.false) (Fr.mk x2 x3 [] none) x5) x4) (@Option.rec t131 (λ_=>t137) none (λx9=>(@Prod.rec t14 t126 (λ_=>t137) (λx10 x11=>(@Prod.rec Dm S (λ_=>t137) (λx12 x13=>(some (Ex.normal, (x10, (x12, x13))))) x11)) x9)) (k_regR x8 x2 (@Array.toList Oper x7) (@Array.toList Oper x7) x3 x4 x5)) x0)) := by intro t; cases t <;> (intros; rfl)
abbrev t1306:=Builtin → Bool
def l512 : t1306 := (λx0=>(@Builtin.rec (λ_=>Bool) Bool.false Bool.false Bool.false Bool.false Bool.false Bool.false Bool.false Bool.false Bool.false Bool.false Bool.false Bool.false Bool.false Bool.false Bool.false Bool.false Bool.false Bool.true Bool.false Bool.false Bool.false Bool.false Bool.false Bool.false Bool.false Bool.false x0))
theorem l512_eq : ∀ x0, (Eq (l512 x0) (@regR._sparseCasesOn_4 (λ_=>Bool) x0 Bool.true (λ_=>Bool.false))) := by intro t; cases t <;> (intros; rfl)
abbrev t1307:=Callee → Bool
def l513 : t1307 := (λx0=>(@Callee.rec (λ_=>Bool) (λ_=>Bool.false) (λ_ _=>Bool.false) (λx1=>(l512 x1)) x0))
theorem l513_eq : ∀ x0, (Eq (l513 x0) (@regR._sparseCasesOn_3 (λ_=>Bool) x0 (λx1=>(l512 x1)) (λ_=>Bool.false))) := by intro t; cases t <;> (intros; rfl)
abbrev t1308:=Op → Bool
def l514 : t1308 := (λx0=>(@Op.rec (λ_=>Bool) (λ_=>Bool.false) (λ_=>Bool.false) (λ_ _ _=>Bool.false) (λ_=>Bool.false) (λ_ _=>Bool.false) (λ_ _=>Bool.false) (λ_ _ _=>Bool.false) (λ_ _ _ _=>Bool.false) (λ_ _=>Bool.false) (λ_ _ _=>Bool.false) (λ_=>Bool.false) (λ_=>Bool.false) (λ_=>Bool.false) (λ_ _ _ _ _=>Bool.false) (λ_ _ _=>Bool.false) (λ_ _ _=>Bool.false) (λ_ _=>Bool.false) (λ_ _=>Bool.false) (λ_ _ _=>Bool.false) (λ_ _=>Bool.false) (λ_ _=>Bool.false) (λ_ _ _=>Bool.false) (λ_ _ _ _ _=>Bool.false) (λ_ _ _=>Bool.false) (λ_ _ _=>Bool.false) (λ_ _ _=>Bool.false) (λ_ _ _=>Bool.false) (λ_ _ _ _=>Bool.false) (λ_ _ _ _=>Bool.false) (λ_ _ _=>Bool.false) (λ_ _ _ _=>Bool.false) (λ_ _=>Bool.false) (λ_ _=>Bool.false) (λ_=>Bool.false) (λ_ _ _ _=>Bool.false) (λ_ _=>Bool.false) (λx1=>(l513 (Call.callee x1))) (λ_=>Bool.false) (λ_=>Bool.false) (λ_=>Bool.false) (λ_ _=>Bool.false) (λ_ _ _=>Bool.false) (λ_ _=>Bool.false) x0))
theorem l514_eq : ∀ x0, (Eq (l514 x0) (@regR._sparseCasesOn_5 (λ_=>Bool) x0 (λx1=>(l513 (Call.callee x1))) (λ_=>Bool.false))) := by intro t; cases t <;> (intros; rfl)
abbrev t1309:=t161 → Bool
def k_hasRec : t1309 := (λx0=>(@List.any Oper x0 (λx1=>(l514 (Oper.op x1)))))
theorem k_hasRec_eq : @k_hasRec = hasRec := by
  delta k_hasRec hasRec
  simp only [l514_eq, l512_eq, l513_eq]
  all_goals kernel_rfl

abbrev t1310:=Program → t160
abbrev t1311:=Bool → t1310
def l511 : t1311 := (λx0=>(@Bool.rec (λ_=>t1310) (λx1 x2 x3 x4 x5 x6 x7 x8 _=>(l43 (k_hasRec (@Array.toList Oper x8)) x2 x3 x4 x5 x6 x7 x8 x1)) (λ_ x2 x3 x4 x5 x6 x7 x8 x9=>(l39 x2 x3 x4 x5 x6 x7 x8 x9)) x0))
theorem l511_eq : ∀ x0 x1 x2 x3 x4 x5 x6 x7 x8 x9, (Eq (l511 x0 x1 x2 x3 x4 x5 x6 x7 x8 x9) (@regR._sparseCasesOn_1 (λ_=>t137) x0 (l43 (k_hasRec (@Array.toList Oper x8)) x2 x3 x4 x5 x6 x7 x8 x1) (λ_=>(l39 x2 x3 x4 x5 x6 x7 x8 x9)))) := by intro t; cases t <;> (intros; rfl)
abbrev t1312:=S → t137
abbrev t1313:=Dm → t1312
abbrev t1314:=t14 → t1313
abbrev t1315:=Nat → t1314
abbrev t1316:=Run → t1315
abbrev t1317:=Program → t1316
abbrev t1318:=Ex → t137
abbrev t1319:=t131 → t1318
abbrev t1320:=t1317 → t1319
abbrev t1321:=Nat → t1320
abbrev t1322:=Run → t1321
abbrev t1323:=Program → t1322
abbrev t1324:=Ex → t1323
def l515 : t1324 := (λx0=>(@Ex.rec (λ_=>t1323) (λx1 x2 x3 x4 x5 _=>(@Prod.rec t14 t126 (λ_=>t137) (λx7 x8=>(@Prod.rec Dm S (λ_=>t137) (λx9 x10=>(x4 x1 x2 x3 x7 x9 x10)) x8)) x5)) (λ_ _ _ _ _ x6 x7=>(some (x7, x6))) (λ_ _ _ _ x5 x6=>(some (x6, x5))) (λ_ _ _ _ _ x6 x7=>(some (x7, x6))) x0))
theorem l515_eq : ∀ x0 x1 x2 x3 x4 x5 x6, (Eq (l515 x0 x1 x2 x3 x4 x5 x6) (@codeD._sparseCasesOn_1 (λ_=>t137) x0 (@Prod.rec t14 t126 (λ_=>t137) (λx7 x8=>(@Prod.rec Dm S (λ_=>t137) (λx9 x10=>(x4 x1 x2 x3 x7 x9 x10)) x8)) x5) (λ_=>(some (x6, x5))))) := by intro t; cases t <;> (intros; rfl)
abbrev t1325:=t1317 → t137
abbrev t1326:=t1317 → t1325
abbrev t1327:=S → t1326
abbrev t1328:=Dm → t1327
abbrev t1329:=t14 → t1328
abbrev t1330:=Nat → t1329
abbrev t1331:=Run → t1330
abbrev t1332:=Program → t1331
abbrev t1333:=t137 → t1332
def l516 : t1333 := (λx0=>(@Option.rec t136 (λ_=>t1332) (λx1 x2 x3 x4 x5 x6 x7 _=>(x7 x1 x2 x3 x4 x5 x6)) (λx1 x2 x3 x4 _ _ _ _ x9=>(@Prod.rec Ex t131 (λ_=>t137) (λx10 x11=>(l515 x10 x2 x3 x4 x9 x11 x10)) x1)) x0))
theorem l516_eq : ∀ x0 x1 x2 x3 x4 x5 x6 x7 x8, (Eq (l516 x0 x1 x2 x3 x4 x5 x6 x7 x8) (@methV._sparseCasesOn_2 t136 (λ_=>t137) x0 (λx9=>(@Prod.rec Ex t131 (λ_=>t137) (λx10 x11=>(l515 x10 x1 x2 x3 x8 x11 x10)) x9)) (λ_=>(x7 x1 x2 x3 x4 x5 x6)))) := by intro t; cases t <;> (intros; rfl)
abbrev t1334:=Value → t1332
def l517 : t1334 := (λx0=>(@Value.rec (λ_=>t1332) (λ_=>PUnit.{1}) (λ_=>PUnit.{1}) (λx1 x2 x3 x4 x5 x6 x7 x8 x9=>(@Bool.rec (λ_=>t137) (x9 x2 x3 x4 x5 x6 x7) (x8 x2 x3 x4 x5 x6 x7) x1)) (λ_ _ _ _ _ _ _ _ _ _=>none) (λ_ _ _ _ _ _ _ _ _ _=>none) (λ_ _ _ _ _ _ _ _ _ _ _=>none) (λ_ _ _ _ _ _ _ _ _=>none) (λ_ _ _ _ _ _ _ _ _=>none) (λ_ _ _ _ _ _ _ _ _ _ _=>none) (λ_ _ _ _ _ _ _ _ _=>none) (λ_ _ _ _ _ _ _ _ _=>none) (λ_ _ _ _ _ _ _ _ _ _ _ _ _=>none) (λ_ _ _ _ _ _ _ _=>none) (λ_ _ _ _ _ _ _ _ _ _ _=>none) (λ_ _ _ _ _ _ _ _=>none) (λ_ _ _ _ _ _ _ _ _ _=>none) (λ_ _ _ _ _ _ _ _ _ _=>none) (λ_ _=>PUnit.unit.{1}) PUnit.unit.{1} (λ_ _ _ _=>PUnit.unit.{1}) x0))
theorem l517_eq : ∀ x0 x1 x2 x3 x4 x5 x6 x7 x8, (Eq (l517 x0 x1 x2 x3 x4 x5 x6 x7 x8) (@guardV._sparseCasesOn_2 (λ_=>t137) x0 (λx9=>(@Bool.rec (λ_=>t137) (x8 x1 x2 x3 x4 x5 x6) (x7 x1 x2 x3 x4 x5 x6) x9)) (λ_=>none))) := by intro t; cases t <;> (intros; rfl)
abbrev t1335:=CV → t1332
def l518 : t1335 := (λx0=>(@CV.rec (λ_=>t1332) (λ_=>PUnit.{1}) (λ_ _ _ _ _ _ _ _=>none) (λx1 x2 x3 x4 x5 x6 x7 x8 x9=>(l517 x1 x2 x3 x4 x5 x6 x7 x8 x9)) (λ_ _ _ _ _ _ _ _ _ _=>none) (λ_ _ _ _ _ _ _ _ _ _ _ _ _=>none) (λ_ _ _ _ _ _ _ _=>none) (λ_ _ _ _ _ _ _ _ _=>none) (λ_ _ _ _ _ _ _ _ _ _=>none) (λ_ _ _ _ _ _ _ _ _ _=>none) (λ_ _ _ _ _ _ _ _ _ _ _ _ _=>none) (λ_ _ _ _ _ _ _ _ _=>none) (λ_ _ _ _ _ _ _ _ _ _ _=>none) PUnit.unit.{1} (λ_ _ _ _=>PUnit.unit.{1}) x0))
theorem l518_eq : ∀ x0 x1 x2 x3 x4 x5 x6 x7 x8, (Eq (l518 x0 x1 x2 x3 x4 x5 x6 x7 x8) (@codeD._sparseCasesOn_2 (λ_=>t137) x0 (λx9=>(l517 x9 x1 x2 x3 x4 x5 x6 x7 x8)) (λ_=>none))) := by intro t; cases t <;> (intros; rfl)
abbrev t1336:=t81 → t1332
def l519 : t1336 := (λx0=>(@Option.rec CV (λ_=>t1332) (λ_ _ _ _ _ _ _ _=>none) (λx1 x2 x3 x4 x5 x6 x7 x8 x9=>(l518 x1 x2 x3 x4 x5 x6 x7 x8 x9)) x0))
theorem l519_eq : ∀ x0 x1 x2 x3 x4 x5 x6 x7 x8, (Eq (l519 x0 x1 x2 x3 x4 x5 x6 x7 x8) (@methV._sparseCasesOn_2 CV (λ_=>t137) x0 (λx9=>(l518 x9 x1 x2 x3 x4 x5 x6 x7 x8)) (λ_=>none))) := by intro t; cases t <;> (intros; rfl)
def l520 : t146 := (λx0=>(@List.rec SD (λ_=>t145) (λx1 x2 x3 x4=>(some (x2, (x4, (x1, x3))))) (λ_ _ _ _ _ _ _=>none) x0))
theorem l520_eq : ∀ x0 x1 x2 x3 x4, (Eq (l520 x0 x1 x2 x3 x4) (@methV._sparseCasesOn_1 SD (λ_=>t137) x0 (some (x2, (x4, (x1, x3)))) (λ_=>none))) := by intro t; cases t <;> (intros; rfl)
def l521 : t150 := (λx0=>(@Prod.rec Ex t147 (λ_=>t149) (λx1 x2 x3=>(@Prod.rec Fr S (λ_=>t137) (λx4 x5=>(@Fr.rec (λ_=>t137) (λ_ x7 x8 _=>(l520 x8 x3 x1 x5 x7)) x4)) x2)) x0))
theorem l521_eq : ∀ x0 x1, (Eq (l521 x0 x1) (@Prod.rec Ex t147 (λ_=>t137) (λx2 x3=>(@Prod.rec Fr S (λ_=>t137) (λx4 x5=>(@Fr.rec (λ_=>t137) (λ_ x7 x8 _=>(l520 x8 x1 x2 x5 x7)) x4)) x3)) x0)) := by intro t; cases t <;> (intros; rfl)
def l522 : t152 := (λx0=>(@Option.rec t148 (λ_=>t149) (λ_=>none) (λx1 x2=>(l521 x1 x2)) x0))
theorem l522_eq : ∀ x0 x1, (Eq (l522 x0 x1) (@methV._sparseCasesOn_2 t148 (λ_=>t137) x0 (λx2=>(l521 x2 x1)) (λ_=>none))) := by intro t; cases t <;> (intros; rfl)
def l523 : t146 := (λx0=>(@List.rec SD (λ_=>t145) (λx1 x2 x3 x4=>(some (x2, (x4, (x1, x3))))) (λ_ _ _ _ _ _ _=>none) x0))
theorem l523_eq : ∀ x0 x1 x2 x3 x4, (Eq (l523 x0 x1 x2 x3 x4) (@methV._sparseCasesOn_1 SD (λ_=>t137) x0 (some (x2, (x4, (x1, x3)))) (λ_=>none))) := by intro t; cases t <;> (intros; rfl)
def l524 : t150 := (λx0=>(@Prod.rec Ex t147 (λ_=>t149) (λx1 x2 x3=>(@Prod.rec Fr S (λ_=>t137) (λx4 x5=>(@Fr.rec (λ_=>t137) (λ_ x7 x8 _=>(l523 x8 x3 x1 x5 x7)) x4)) x2)) x0))
theorem l524_eq : ∀ x0 x1, (Eq (l524 x0 x1) (@Prod.rec Ex t147 (λ_=>t137) (λx2 x3=>(@Prod.rec Fr S (λ_=>t137) (λx4 x5=>(@Fr.rec (λ_=>t137) (λ_ x7 x8 _=>(l523 x8 x1 x2 x5 x7)) x4)) x3)) x0)) := by intro t; cases t <;> (intros; rfl)
def l525 : t152 := (λx0=>(@Option.rec t148 (λ_=>t149) (λ_=>none) (λx1 x2=>(l524 x1 x2)) x0))
theorem l525_eq : ∀ x0 x1, (Eq (l525 x0 x1) (@methV._sparseCasesOn_2 t148 (λ_=>t137) x0 (λx2=>(l524 x2 x1)) (λ_=>none))) := by intro t; cases t <;> (intros; rfl)
def l526 : t146 := (λx0=>(@List.rec SD (λ_=>t145) (λx1 x2 x3 x4=>(some (x2, (x4, (x1, x3))))) (λ_ _ _ _ _ _ _=>none) x0))
theorem l526_eq : ∀ x0 x1 x2 x3 x4, (Eq (l526 x0 x1 x2 x3 x4) (@methV._sparseCasesOn_1 SD (λ_=>t137) x0 (some (x2, (x4, (x1, x3)))) (λ_=>none))) := by intro t; cases t <;> (intros; rfl)
def l527 : t150 := (λx0=>(@Prod.rec Ex t147 (λ_=>t149) (λx1 x2 x3=>(@Prod.rec Fr S (λ_=>t137) (λx4 x5=>(@Fr.rec (λ_=>t137) (λ_ x7 x8 _=>(l526 x8 x3 x1 x5 x7)) x4)) x2)) x0))
theorem l527_eq : ∀ x0 x1, (Eq (l527 x0 x1) (@Prod.rec Ex t147 (λ_=>t137) (λx2 x3=>(@Prod.rec Fr S (λ_=>t137) (λx4 x5=>(@Fr.rec (λ_=>t137) (λ_ x7 x8 _=>(l526 x8 x1 x2 x5 x7)) x4)) x3)) x0)) := by intro t; cases t <;> (intros; rfl)
def l528 : t152 := (λx0=>(@Option.rec t148 (λ_=>t149) (λ_=>none) (λx1 x2=>(l527 x1 x2)) x0))
theorem l528_eq : ∀ x0 x1, (Eq (l528 x0 x1) (@methV._sparseCasesOn_2 t148 (λ_=>t137) x0 (λx2=>(l527 x2 x1)) (λ_=>none))) := by intro t; cases t <;> (intros; rfl)
def l529 : t146 := (λx0=>(@List.rec SD (λ_=>t145) (λx1 x2 x3 x4=>(some (x2, (x4, (x1, x3))))) (λ_ _ _ _ _ _ _=>none) x0))
theorem l529_eq : ∀ x0 x1 x2 x3 x4, (Eq (l529 x0 x1 x2 x3 x4) (@methV._sparseCasesOn_1 SD (λ_=>t137) x0 (some (x2, (x4, (x1, x3)))) (λ_=>none))) := by intro t; cases t <;> (intros; rfl)
def l530 : t150 := (λx0=>(@Prod.rec Ex t147 (λ_=>t149) (λx1 x2 x3=>(@Prod.rec Fr S (λ_=>t137) (λx4 x5=>(@Fr.rec (λ_=>t137) (λ_ x7 x8 _=>(l529 x8 x3 x1 x5 x7)) x4)) x2)) x0))
theorem l530_eq : ∀ x0 x1, (Eq (l530 x0 x1) (@Prod.rec Ex t147 (λ_=>t137) (λx2 x3=>(@Prod.rec Fr S (λ_=>t137) (λx4 x5=>(@Fr.rec (λ_=>t137) (λ_ x7 x8 _=>(l529 x8 x1 x2 x5 x7)) x4)) x3)) x0)) := by intro t; cases t <;> (intros; rfl)
def l531 : t152 := (λx0=>(@Option.rec t148 (λ_=>t149) (λ_=>none) (λx1 x2=>(l530 x1 x2)) x0))
theorem l531_eq : ∀ x0 x1, (Eq (l531 x0 x1) (@methV._sparseCasesOn_2 t148 (λ_=>t137) x0 (λx2=>(l530 x2 x1)) (λ_=>none))) := by intro t; cases t <;> (intros; rfl)
def l532 : t146 := (λx0=>(@List.rec SD (λ_=>t145) (λx1 x2 x3 x4=>(some (x2, (x4, (x1, x3))))) (λ_ _ _ _ _ _ _=>none) x0))
theorem l532_eq : ∀ x0 x1 x2 x3 x4, (Eq (l532 x0 x1 x2 x3 x4) (@methV._sparseCasesOn_1 SD (λ_=>t137) x0 (some (x2, (x4, (x1, x3)))) (λ_=>none))) := by intro t; cases t <;> (intros; rfl)
def l533 : t150 := (λx0=>(@Prod.rec Ex t147 (λ_=>t149) (λx1 x2 x3=>(@Prod.rec Fr S (λ_=>t137) (λx4 x5=>(@Fr.rec (λ_=>t137) (λ_ x7 x8 _=>(l532 x8 x3 x1 x5 x7)) x4)) x2)) x0))
theorem l533_eq : ∀ x0 x1, (Eq (l533 x0 x1) (@Prod.rec Ex t147 (λ_=>t137) (λx2 x3=>(@Prod.rec Fr S (λ_=>t137) (λx4 x5=>(@Fr.rec (λ_=>t137) (λ_ x7 x8 _=>(l532 x8 x1 x2 x5 x7)) x4)) x3)) x0)) := by intro t; cases t <;> (intros; rfl)
def l534 : t152 := (λx0=>(@Option.rec t148 (λ_=>t149) (λ_=>none) (λx1 x2=>(l533 x1 x2)) x0))
theorem l534_eq : ∀ x0 x1, (Eq (l534 x0 x1) (@methV._sparseCasesOn_2 t148 (λ_=>t137) x0 (λx2=>(l533 x2 x1)) (λ_=>none))) := by intro t; cases t <;> (intros; rfl)
def l535 : t146 := (λx0=>(@List.rec SD (λ_=>t145) (λx1 x2 x3 x4=>(some (x2, (x4, (x1, x3))))) (λ_ _ _ _ _ _ _=>none) x0))
theorem l535_eq : ∀ x0 x1 x2 x3 x4, (Eq (l535 x0 x1 x2 x3 x4) (@methV._sparseCasesOn_1 SD (λ_=>t137) x0 (some (x2, (x4, (x1, x3)))) (λ_=>none))) := by intro t; cases t <;> (intros; rfl)
def l536 : t150 := (λx0=>(@Prod.rec Ex t147 (λ_=>t149) (λx1 x2 x3=>(@Prod.rec Fr S (λ_=>t137) (λx4 x5=>(@Fr.rec (λ_=>t137) (λ_ x7 x8 _=>(l535 x8 x3 x1 x5 x7)) x4)) x2)) x0))
theorem l536_eq : ∀ x0 x1, (Eq (l536 x0 x1) (@Prod.rec Ex t147 (λ_=>t137) (λx2 x3=>(@Prod.rec Fr S (λ_=>t137) (λx4 x5=>(@Fr.rec (λ_=>t137) (λ_ x7 x8 _=>(l535 x8 x1 x2 x5 x7)) x4)) x3)) x0)) := by intro t; cases t <;> (intros; rfl)
def l537 : t152 := (λx0=>(@Option.rec t148 (λ_=>t149) (λ_=>none) (λx1 x2=>(l536 x1 x2)) x0))
theorem l537_eq : ∀ x0 x1, (Eq (l537 x0 x1) (@methV._sparseCasesOn_2 t148 (λ_=>t137) x0 (λx2=>(l536 x2 x1)) (λ_=>none))) := by intro t; cases t <;> (intros; rfl)
def l538 : t146 := (λx0=>(@List.rec SD (λ_=>t145) (λx1 x2 x3 x4=>(some (x2, (x4, (x1, x3))))) (λ_ _ _ _ _ _ _=>none) x0))
theorem l538_eq : ∀ x0 x1 x2 x3 x4, (Eq (l538 x0 x1 x2 x3 x4) (@methV._sparseCasesOn_1 SD (λ_=>t137) x0 (some (x2, (x4, (x1, x3)))) (λ_=>none))) := by intro t; cases t <;> (intros; rfl)
def l539 : t150 := (λx0=>(@Prod.rec Ex t147 (λ_=>t149) (λx1 x2 x3=>(@Prod.rec Fr S (λ_=>t137) (λx4 x5=>(@Fr.rec (λ_=>t137) (λ_ x7 x8 _=>(l538 x8 x3 x1 x5 x7)) x4)) x2)) x0))
theorem l539_eq : ∀ x0 x1, (Eq (l539 x0 x1) (@Prod.rec Ex t147 (λ_=>t137) (λx2 x3=>(@Prod.rec Fr S (λ_=>t137) (λx4 x5=>(@Fr.rec (λ_=>t137) (λ_ x7 x8 _=>(l538 x8 x1 x2 x5 x7)) x4)) x3)) x0)) := by intro t; cases t <;> (intros; rfl)
def l540 : t152 := (λx0=>(@Option.rec t148 (λ_=>t149) (λ_=>none) (λx1 x2=>(l539 x1 x2)) x0))
theorem l540_eq : ∀ x0 x1, (Eq (l540 x0 x1) (@methV._sparseCasesOn_2 t148 (λ_=>t137) x0 (λx2=>(l539 x2 x1)) (λ_=>none))) := by intro t; cases t <;> (intros; rfl)
def l541 : t146 := (λx0=>(@List.rec SD (λ_=>t145) (λx1 x2 x3 x4=>(some (x2, (x4, (x1, x3))))) (λ_ _ _ _ _ _ _=>none) x0))
theorem l541_eq : ∀ x0 x1 x2 x3 x4, (Eq (l541 x0 x1 x2 x3 x4) (@methV._sparseCasesOn_1 SD (λ_=>t137) x0 (some (x2, (x4, (x1, x3)))) (λ_=>none))) := by intro t; cases t <;> (intros; rfl)
def l542 : t150 := (λx0=>(@Prod.rec Ex t147 (λ_=>t149) (λx1 x2 x3=>(@Prod.rec Fr S (λ_=>t137) (λx4 x5=>(@Fr.rec (λ_=>t137) (λ_ x7 x8 _=>(l541 x8 x3 x1 x5 x7)) x4)) x2)) x0))
theorem l542_eq : ∀ x0 x1, (Eq (l542 x0 x1) (@Prod.rec Ex t147 (λ_=>t137) (λx2 x3=>(@Prod.rec Fr S (λ_=>t137) (λx4 x5=>(@Fr.rec (λ_=>t137) (λ_ x7 x8 _=>(l541 x8 x1 x2 x5 x7)) x4)) x3)) x0)) := by intro t; cases t <;> (intros; rfl)
def l543 : t152 := (λx0=>(@Option.rec t148 (λ_=>t149) (λ_=>none) (λx1 x2=>(l542 x1 x2)) x0))
theorem l543_eq : ∀ x0 x1, (Eq (l543 x0 x1) (@methV._sparseCasesOn_2 t148 (λ_=>t137) x0 (λx2=>(l542 x2 x1)) (λ_=>none))) := by intro t; cases t <;> (intros; rfl)
def l544 : t146 := (λx0=>(@List.rec SD (λ_=>t145) (λx1 x2 x3 x4=>(some (x2, (x4, (x1, x3))))) (λ_ _ _ _ _ _ _=>none) x0))
theorem l544_eq : ∀ x0 x1 x2 x3 x4, (Eq (l544 x0 x1 x2 x3 x4) (@methV._sparseCasesOn_1 SD (λ_=>t137) x0 (some (x2, (x4, (x1, x3)))) (λ_=>none))) := by intro t; cases t <;> (intros; rfl)
def l545 : t150 := (λx0=>(@Prod.rec Ex t147 (λ_=>t149) (λx1 x2 x3=>(@Prod.rec Fr S (λ_=>t137) (λx4 x5=>(@Fr.rec (λ_=>t137) (λ_ x7 x8 _=>(l544 x8 x3 x1 x5 x7)) x4)) x2)) x0))
theorem l545_eq : ∀ x0 x1, (Eq (l545 x0 x1) (@Prod.rec Ex t147 (λ_=>t137) (λx2 x3=>(@Prod.rec Fr S (λ_=>t137) (λx4 x5=>(@Fr.rec (λ_=>t137) (λ_ x7 x8 _=>(l544 x8 x1 x2 x5 x7)) x4)) x3)) x0)) := by intro t; cases t <;> (intros; rfl)
def l546 : t152 := (λx0=>(@Option.rec t148 (λ_=>t149) (λ_=>none) (λx1 x2=>(l545 x1 x2)) x0))
theorem l546_eq : ∀ x0 x1, (Eq (l546 x0 x1) (@methV._sparseCasesOn_2 t148 (λ_=>t137) x0 (λx2=>(l545 x2 x1)) (λ_=>none))) := by intro t; cases t <;> (intros; rfl)
abbrev t1337:=Code → t1314
abbrev t1338:=Nat → t1337
abbrev t1339:=Run → t1338
abbrev t1340:=Program → t1339
def k_codeD : t1340 := (λx0 x1 x2 x3 x4 x5 x6=>(@Code.rec (λ_=>t1317) (λ_ x8 x9 x10 x11 x12=>(l35 (Run.code x8 Code.skip (Fr.mk x9 x10 [] none) x12) x11)) (λx7 x8 x9 x10 x11 x12 x13 x14 x15=>(l511 x9 x10 x11 x12 x13 x14 x15 x7 x8 x9)) (λ_ _ x9 x10 x11 x12 x13 x14 x15 x16=>(l516 (x9 x11 x12 x13 x14 x15 x16) x11 x12 x13 x14 x15 x16 x9 x10)) (λx7 _ _ x10 x11 x12 x13 x14 x15 x16 x17=>(l519 (k_ev x15 x7) x12 x13 x14 x15 x16 x17 x10 x11)) (λx7 x8 _ _ x11 x12 x13 x14 x15=>(l522 (Run.code x11 (Code.block x7 x8) (Fr.mk x12 x13 [] none) x15) x14)) (λx7 _ _ x10 x11 x12 x13 x14=>(l525 (Run.code x10 (Code.loop x7) (Fr.mk x11 x12 [] none) x14) x13)) (λx7 x8 x9 x10 _ _ _ x14 x15 x16 x17 x18=>(l528 (Run.code x14 (Code.rangeFunc x7 x8 x9 x10) (Fr.mk x15 x16 [] none) x18) x17)) (λx7 _ x9 x10 x11 x12 x13=>(l531 (Run.code x9 (Code.exit x7) (Fr.mk x10 x11 [] none) x13) x12)) (λx7 _ _ x10 x11 x12 x13 x14=>(l534 (Run.code x10 (Code.scope x7) (Fr.mk x11 x12 [] none) x14) x13)) (λx7 _ x9 x10 x11 x12 x13=>(l537 (Run.code x9 (Code.label x7) (Fr.mk x10 x11 [] none) x13) x12)) (λx7 _ x9 x10 x11 x12 x13=>(l540 (Run.code x9 (Code.goto x7) (Fr.mk x10 x11 [] none) x13) x12)) (λ_ x8 x9 x10 x11 x12=>(l543 (Run.code x8 Code.ret (Fr.mk x9 x10 [] none) x12) x11)) (λx7 _ x9 x10 x11 x12 x13=>(l546 (Run.code x9 (Code.refuse x7) (Fr.mk x10 x11 [] none) x13) x12)) x3 x0 x1 x2 x4 x5 x6))
theorem k_codeD_law : ∀ x0 x1 x2 x3 x4 x5 x6, (Eq (k_codeD x1 x2 x3 x0 x4 x5 x6) (codeD x1 x2 x3 x0 x4 x5 x6)) := by
  intro t
  induction t with
  | skip  =>
    intro z0 z1 z2 z3 z4 z5
    show ((fun (_ : Program) (x1 : Run) (x2 : Nat) (x3 : t14) (x4 : Dm) (x5 : S) => (l35 (Run.code x1 Code.skip (Fr.mk x2 x3 [] none) x5) x4)) z0 z1 z2 z3 z4 z5) = _
    conv => rhs; rw [Ev.codeD.eq_def]
    try simp only [l33_eq, l34_eq, l35_eq]
    all_goals kernel_rfl
  | region y0 y1 y2 =>
    intro z0 z1 z2 z3 z4 z5
    show ((fun (x0 : Nat) (x1 : (Array Oper)) (x2 : Bool) (x3 : Program) (x4 : Run) (x5 : Nat) (x6 : t14) (x7 : Dm) (x8 : S) => (l511 x2 x3 x4 x5 x6 x7 x8 x0 x1 x2)) y0 y1 y2 z0 z1 z2 z3 z4 z5) = _
    conv => rhs; rw [Ev.codeD.eq_def]
    try simp only [l41_eq, l39_eq, l38_eq, l511_eq, l40_eq, l36_eq, l43_eq, l37_eq, l42_eq]
    try rw [k_regR_eq]
    try rw [k_hasRec_eq]
    all_goals kernel_rfl
  | seq y0 y1 ih0 ih1 =>
    intro z0 z1 z2 z3 z4 z5
    have e0 : (fun (x0 : Program) (x1 : Run) (x2 : Nat) (x3 : t14) (x4 : Dm) (x5 : S) => (k_codeD x0 x1 x2 y0 x3 x4 x5)) = (fun (x0 : Program) (x1 : Run) (x2 : Nat) (x3 : t14) (x4 : Dm) (x5 : S) => (codeD x0 x1 x2 y0 x3 x4 x5)) := by
      funext z0 z1 z2 z3 z4 z5; exact ih0 z0 z1 z2 z3 z4 z5
    have e1 : (fun (x0 : Program) (x1 : Run) (x2 : Nat) (x3 : t14) (x4 : Dm) (x5 : S) => (k_codeD x0 x1 x2 y1 x3 x4 x5)) = (fun (x0 : Program) (x1 : Run) (x2 : Nat) (x3 : t14) (x4 : Dm) (x5 : S) => (codeD x0 x1 x2 y1 x3 x4 x5)) := by
      funext z0 z1 z2 z3 z4 z5; exact ih1 z0 z1 z2 z3 z4 z5
    show ((fun (_ : Code) (_ : Code) (x2 : t1317) (x3 : t1317) (x4 : Program) (x5 : Run) (x6 : Nat) (x7 : t14) (x8 : Dm) (x9 : S) => (l516 (x2 x4 x5 x6 x7 x8 x9) x4 x5 x6 x7 x8 x9 x2 x3)) y0 y1 (fun (x0 : Program) (x1 : Run) (x2 : Nat) (x3 : t14) (x4 : Dm) (x5 : S) => (k_codeD x0 x1 x2 y0 x3 x4 x5)) (fun (x0 : Program) (x1 : Run) (x2 : Nat) (x3 : t14) (x4 : Dm) (x5 : S) => (k_codeD x0 x1 x2 y1 x3 x4 x5)) z0 z1 z2 z3 z4 z5) = _
    rw [e0, e1]
    conv => rhs; rw [Ev.codeD.eq_def]
    try simp only [l516_eq, l515_eq]
    all_goals kernel_rfl
  | cond y0 y1 y2 ih0 ih1 =>
    intro z0 z1 z2 z3 z4 z5
    have e0 : (fun (x0 : Program) (x1 : Run) (x2 : Nat) (x3 : t14) (x4 : Dm) (x5 : S) => (k_codeD x0 x1 x2 y1 x3 x4 x5)) = (fun (x0 : Program) (x1 : Run) (x2 : Nat) (x3 : t14) (x4 : Dm) (x5 : S) => (codeD x0 x1 x2 y1 x3 x4 x5)) := by
      funext z0 z1 z2 z3 z4 z5; exact ih0 z0 z1 z2 z3 z4 z5
    have e1 : (fun (x0 : Program) (x1 : Run) (x2 : Nat) (x3 : t14) (x4 : Dm) (x5 : S) => (k_codeD x0 x1 x2 y2 x3 x4 x5)) = (fun (x0 : Program) (x1 : Run) (x2 : Nat) (x3 : t14) (x4 : Dm) (x5 : S) => (codeD x0 x1 x2 y2 x3 x4 x5)) := by
      funext z0 z1 z2 z3 z4 z5; exact ih1 z0 z1 z2 z3 z4 z5
    show ((fun (x0 : Operand) (_ : Code) (_ : Code) (x3 : t1317) (x4 : t1317) (x5 : Program) (x6 : Run) (x7 : Nat) (x8 : t14) (x9 : Dm) (x10 : S) => (l519 (k_ev x8 x0) x5 x6 x7 x8 x9 x10 x3 x4)) y0 y1 y2 (fun (x0 : Program) (x1 : Run) (x2 : Nat) (x3 : t14) (x4 : Dm) (x5 : S) => (k_codeD x0 x1 x2 y1 x3 x4 x5)) (fun (x0 : Program) (x1 : Run) (x2 : Nat) (x3 : t14) (x4 : Dm) (x5 : S) => (k_codeD x0 x1 x2 y2 x3 x4 x5)) z0 z1 z2 z3 z4 z5) = _
    rw [e0, e1]
    conv => rhs; rw [Ev.codeD.eq_def]
    try simp only [l518_eq, l517_eq, l519_eq]
    try rw [k_ev_eq]
    all_goals kernel_rfl
  | block y0 y1 ih0 =>
    intro z0 z1 z2 z3 z4 z5
    have e0 : (fun (x0 : Program) (x1 : Run) (x2 : Nat) (x3 : t14) (x4 : Dm) (x5 : S) => (k_codeD x0 x1 x2 y1 x3 x4 x5)) = (fun (x0 : Program) (x1 : Run) (x2 : Nat) (x3 : t14) (x4 : Dm) (x5 : S) => (codeD x0 x1 x2 y1 x3 x4 x5)) := by
      funext z0 z1 z2 z3 z4 z5; exact ih0 z0 z1 z2 z3 z4 z5
    show ((fun (x0 : Nat) (x1 : Code) (_ : t1317) (_ : Program) (x4 : Run) (x5 : Nat) (x6 : t14) (x7 : Dm) (x8 : S) => (l522 (Run.code x4 (Code.block x0 x1) (Fr.mk x5 x6 [] none) x8) x7)) y0 y1 (fun (x0 : Program) (x1 : Run) (x2 : Nat) (x3 : t14) (x4 : Dm) (x5 : S) => (k_codeD x0 x1 x2 y1 x3 x4 x5)) z0 z1 z2 z3 z4 z5) = _
    rw [e0]
    conv => rhs; rw [Ev.codeD.eq_def]
    try simp only [l521_eq, l522_eq, l520_eq]
    all_goals kernel_rfl
  | loop y0 ih0 =>
    intro z0 z1 z2 z3 z4 z5
    have e0 : (fun (x0 : Program) (x1 : Run) (x2 : Nat) (x3 : t14) (x4 : Dm) (x5 : S) => (k_codeD x0 x1 x2 y0 x3 x4 x5)) = (fun (x0 : Program) (x1 : Run) (x2 : Nat) (x3 : t14) (x4 : Dm) (x5 : S) => (codeD x0 x1 x2 y0 x3 x4 x5)) := by
      funext z0 z1 z2 z3 z4 z5; exact ih0 z0 z1 z2 z3 z4 z5
    show ((fun (x0 : Code) (_ : t1317) (_ : Program) (x3 : Run) (x4 : Nat) (x5 : t14) (x6 : Dm) (x7 : S) => (l525 (Run.code x3 (Code.loop x0) (Fr.mk x4 x5 [] none) x7) x6)) y0 (fun (x0 : Program) (x1 : Run) (x2 : Nat) (x3 : t14) (x4 : Dm) (x5 : S) => (k_codeD x0 x1 x2 y0 x3 x4 x5)) z0 z1 z2 z3 z4 z5) = _
    rw [e0]
    conv => rhs; rw [Ev.codeD.eq_def]
    try simp only [l525_eq, l523_eq, l524_eq]
    all_goals kernel_rfl
  | rangeFunc y0 y1 y2 y3 ih0 ih1 =>
    intro z0 z1 z2 z3 z4 z5
    have e0 : (fun (x0 : Program) (x1 : Run) (x2 : Nat) (x3 : t14) (x4 : Dm) (x5 : S) => (k_codeD x0 x1 x2 y2 x3 x4 x5)) = (fun (x0 : Program) (x1 : Run) (x2 : Nat) (x3 : t14) (x4 : Dm) (x5 : S) => (codeD x0 x1 x2 y2 x3 x4 x5)) := by
      funext z0 z1 z2 z3 z4 z5; exact ih0 z0 z1 z2 z3 z4 z5
    have e1 : (fun (x0 : Program) (x1 : Run) (x2 : Nat) (x3 : t14) (x4 : Dm) (x5 : S) => (k_codeD x0 x1 x2 y3 x3 x4 x5)) = (fun (x0 : Program) (x1 : Run) (x2 : Nat) (x3 : t14) (x4 : Dm) (x5 : S) => (codeD x0 x1 x2 y3 x3 x4 x5)) := by
      funext z0 z1 z2 z3 z4 z5; exact ih1 z0 z1 z2 z3 z4 z5
    show ((fun (x0 : Operand) (x1 : (Array Tmp)) (x2 : Code) (x3 : Code) (_ : t1317) (_ : t1317) (_ : Program) (x7 : Run) (x8 : Nat) (x9 : t14) (x10 : Dm) (x11 : S) => (l528 (Run.code x7 (Code.rangeFunc x0 x1 x2 x3) (Fr.mk x8 x9 [] none) x11) x10)) y0 y1 y2 y3 (fun (x0 : Program) (x1 : Run) (x2 : Nat) (x3 : t14) (x4 : Dm) (x5 : S) => (k_codeD x0 x1 x2 y2 x3 x4 x5)) (fun (x0 : Program) (x1 : Run) (x2 : Nat) (x3 : t14) (x4 : Dm) (x5 : S) => (k_codeD x0 x1 x2 y3 x3 x4 x5)) z0 z1 z2 z3 z4 z5) = _
    rw [e0, e1]
    conv => rhs; rw [Ev.codeD.eq_def]
    try simp only [l527_eq, l526_eq, l528_eq]
    all_goals kernel_rfl
  | exit y0 =>
    intro z0 z1 z2 z3 z4 z5
    show ((fun (x0 : Nat) (_ : Program) (x2 : Run) (x3 : Nat) (x4 : t14) (x5 : Dm) (x6 : S) => (l531 (Run.code x2 (Code.exit x0) (Fr.mk x3 x4 [] none) x6) x5)) y0 z0 z1 z2 z3 z4 z5) = _
    conv => rhs; rw [Ev.codeD.eq_def]
    try simp only [l530_eq, l529_eq, l531_eq]
    all_goals kernel_rfl
  | scope y0 ih0 =>
    intro z0 z1 z2 z3 z4 z5
    have e0 : (fun (x0 : Program) (x1 : Run) (x2 : Nat) (x3 : t14) (x4 : Dm) (x5 : S) => (k_codeD x0 x1 x2 y0 x3 x4 x5)) = (fun (x0 : Program) (x1 : Run) (x2 : Nat) (x3 : t14) (x4 : Dm) (x5 : S) => (codeD x0 x1 x2 y0 x3 x4 x5)) := by
      funext z0 z1 z2 z3 z4 z5; exact ih0 z0 z1 z2 z3 z4 z5
    show ((fun (x0 : Code) (_ : t1317) (_ : Program) (x3 : Run) (x4 : Nat) (x5 : t14) (x6 : Dm) (x7 : S) => (l534 (Run.code x3 (Code.scope x0) (Fr.mk x4 x5 [] none) x7) x6)) y0 (fun (x0 : Program) (x1 : Run) (x2 : Nat) (x3 : t14) (x4 : Dm) (x5 : S) => (k_codeD x0 x1 x2 y0 x3 x4 x5)) z0 z1 z2 z3 z4 z5) = _
    rw [e0]
    conv => rhs; rw [Ev.codeD.eq_def]
    try simp only [l534_eq, l532_eq, l533_eq]
    all_goals kernel_rfl
  | label y0 =>
    intro z0 z1 z2 z3 z4 z5
    show ((fun (x0 : Nat) (_ : Program) (x2 : Run) (x3 : Nat) (x4 : t14) (x5 : Dm) (x6 : S) => (l537 (Run.code x2 (Code.label x0) (Fr.mk x3 x4 [] none) x6) x5)) y0 z0 z1 z2 z3 z4 z5) = _
    conv => rhs; rw [Ev.codeD.eq_def]
    try simp only [l535_eq, l536_eq, l537_eq]
    all_goals kernel_rfl
  | goto y0 =>
    intro z0 z1 z2 z3 z4 z5
    show ((fun (x0 : Nat) (_ : Program) (x2 : Run) (x3 : Nat) (x4 : t14) (x5 : Dm) (x6 : S) => (l540 (Run.code x2 (Code.goto x0) (Fr.mk x3 x4 [] none) x6) x5)) y0 z0 z1 z2 z3 z4 z5) = _
    conv => rhs; rw [Ev.codeD.eq_def]
    try simp only [l538_eq, l540_eq, l539_eq]
    all_goals kernel_rfl
  | ret  =>
    intro z0 z1 z2 z3 z4 z5
    show ((fun (_ : Program) (x1 : Run) (x2 : Nat) (x3 : t14) (x4 : Dm) (x5 : S) => (l543 (Run.code x1 Code.ret (Fr.mk x2 x3 [] none) x5) x4)) z0 z1 z2 z3 z4 z5) = _
    conv => rhs; rw [Ev.codeD.eq_def]
    try simp only [l541_eq, l543_eq, l542_eq]
    all_goals kernel_rfl
  | refuse y0 =>
    intro z0 z1 z2 z3 z4 z5
    show ((fun (x0 : String) (_ : Program) (x2 : Run) (x3 : Nat) (x4 : t14) (x5 : Dm) (x6 : S) => (l546 (Run.code x2 (Code.refuse x0) (Fr.mk x3 x4 [] none) x6) x5)) y0 z0 z1 z2 z3 z4 z5) = _
    conv => rhs; rw [Ev.codeD.eq_def]
    try simp only [l544_eq, l545_eq, l546_eq]
    all_goals kernel_rfl
theorem k_codeD_eq : @k_codeD = codeD := by
  funext a0 a1 a2 a3 a4 a5 a6; exact k_codeD_law a3 a0 a1 a2 a4 a5 a6
abbrev t1341:=Code → t122
abbrev t1342:=Func → t1341
abbrev t1343:=S → t1342
abbrev t1344:=t81 → t1343
abbrev t1345:=t7 → t1344
abbrev t1346:=FuncId → t1345
abbrev t1347:=Run → t1346
abbrev t1348:=Program → t1347
abbrev t1349:=t165 → t1348
def l32 : t1349 := (λx0=>(@Option.rec t14 (λ_=>t1348) (λ_ _ _ _ _ _ _ _=>none) (λx1 x2 x3 x4 x5 x6 x7 x8 x9=>(@Bool.rec (λ_=>t122) none (l31 (k_codeD x2 x3 (Func.ntmps x8) x9 x1 (Dm.mk x6 Bool.false) x7) x2 x8) (@Bool.rec (λ_=>Bool) Bool.false (Nat.ble (k_len x5) (Func.ntmps x8)) (fnOk x2 x4)))) x0))
theorem l32_eq : ∀ x0 x1 x2 x3 x4 x5 x6 x7 x8, (Eq (l32 x0 x1 x2 x3 x4 x5 x6 x7 x8) (@methV._sparseCasesOn_2 t14 (λ_=>t122) x0 (λx9=>(@Bool.rec (λ_=>t122) none (l31 (k_codeD x1 x2 (Func.ntmps x7) x8 x9 (Dm.mk x5 Bool.false) x6) x1 x7) (@Bool.rec (λ_=>Bool) Bool.false (Nat.ble (k_len x4) (Func.ntmps x7)) (fnOk x1 x3)))) (λ_=>none))) := by intro t; cases t <;> (intros; rfl)
abbrev t1350:=Nat → t166
abbrev t1351:=t7 → t166
abbrev t1352:=Nat → t1351
def k_setArgs : t1352 := (λx0 x1 x2=>(@List.rec CV (λ_=>t1350) (λ_ x4=>(some x4)) (λx3 _ x5 x6 x7=>(@Option.rec t14 (λ_=>t165) none (λx8=>(x5 (Nat.add x6 (nat_lit 1)) x8)) (setCV (nat_lit 24) x7 x6 (some x3)))) x1 x0 x2))
theorem k_setArgs_law : ∀ x0 x1 x2, (Eq (k_setArgs x1 x0 x2) (setArgs x1 x0 x2)) := by
  intro t
  induction t with
  | nil  =>
    intro z0 z1
    show ((fun (_ : Nat) (x1 : t14) => (some x1)) z0 z1) = _
    conv => rhs; rw [Ev.setArgs.eq_def]
    all_goals kernel_rfl
  | cons y0 y1 ih0 =>
    intro z0 z1
    have e0 : (fun (x0 : Nat) (x1 : t14) => (k_setArgs x0 y1 x1)) = (fun (x0 : Nat) (x1 : t14) => (setArgs x0 y1 x1)) := by
      funext z0 z1; exact ih0 z0 z1
    show ((fun (x0 : CV) (_ : t7) (x2 : t1350) (x3 : Nat) (x4 : t14) => (@Option.rec t14 (fun (_ : t165) => t165) none (fun (x5 : t14) => (x2 (Nat.add x3 (nat_lit 1)) x5)) (setCV (nat_lit 24) x4 x3 (some x0)))) y0 y1 (fun (x0 : Nat) (x1 : t14) => (k_setArgs x0 y1 x1)) z0 z1) = _
    rw [e0]
    conv => rhs; rw [Ev.setArgs.eq_def]
    try rw [setCV_eq]
    all_goals kernel_rfl
theorem k_setArgs_eq : @k_setArgs = setArgs := by
  funext a0 a1 a2; exact k_setArgs_law a1 a0 a2
abbrev t1353:=Option Code
abbrev t1354:=S → t138
abbrev t1355:=t81 → t1354
abbrev t1356:=t7 → t1355
abbrev t1357:=FuncId → t1356
abbrev t1358:=Run → t1357
abbrev t1359:=Program → t1358
abbrev t1360:=t1353 → t1359
def l547 : t1360 := (λx0=>(@Option.rec Code (λ_=>t1359) (λ_ _ _ _ _ _ _=>none) (λx1 x2 x3 x4 x5 x6 x7 x8=>(l32 (k_setArgs (nat_lit 0) x5 (@Tr.nil CV)) x2 x3 x4 x5 x6 x7 x8 x1)) x0))
theorem l547_eq : ∀ x0 x1 x2 x3 x4 x5 x6 x7, (Eq (l547 x0 x1 x2 x3 x4 x5 x6 x7) (@methV._sparseCasesOn_2 Code (λ_=>t122) x0 (λx8=>(l32 (k_setArgs (nat_lit 0) x4 (@Tr.nil CV)) x1 x2 x3 x4 x5 x6 x7 x8)) (λ_=>none))) := by intro t; cases t <;> (intros; rfl)
abbrev t1361:=S → t122
abbrev t1362:=t81 → t1361
abbrev t1363:=t7 → t1362
abbrev t1364:=FuncId → t1363
abbrev t1365:=Run → t1364
abbrev t1366:=Program → t1365
def k_callD : t1366 := (λx0 x1 x2 x3 x4 x5=>(@Option.rec Func (λ_=>t122) none (λx6=>((λx7=>(l547 (Func.body x7) x0 x1 x2 x3 x4 x5 x7)) x6)) (@GetElem?.getElem? (Array Func) FuncId Func (λx6 x7=>(@LT.lt Nat instLTNat x7 (@Array.size Func x6))) (@Array.instGetElem?NatLtSize Func) (Program.funcs x0) x2)))
theorem k_callD_eq : @k_callD = callD := by
  delta k_callD callD
  simp only [l26_eq, l27_eq, l28_eq, l30_eq, l31_eq, l29_eq, l32_eq, l547_eq, l25_eq, l24_eq]
  rw [k_resV_eq, k_tupV_eq, k_len_eq, k_codeD_eq, k_setArgs_eq]
  all_goals kernel_rfl

abbrev t1367:=t105 → t692
abbrev t1368:=S → t1367
abbrev t1369:=t81 → t1368
abbrev t1370:=t14 → t1369
abbrev t1371:=Func → t1370
abbrev t1372:=Run → t1371
abbrev t1373:=Program → t1372
abbrev t1374:=t31 → t1373
def l23 : t1374 := (λx0=>(@Option.rec t7 (λ_=>t1373) (λ_ _ _ _ _ _ _ _=>none) (λx1 x2 x3 x4 x5 x6 x7 x8 x9=>(@Option.rec t114 (λ_=>t4) none (λx10=>(l22 x10 x2 x3 x4 x5 x6 x8)) (k_callD x2 x3 x9 x1 x6 x7))) x0))
theorem l23_eq : ∀ x0 x1 x2 x3 x4 x5 x6 x7 x8, (Eq (l23 x0 x1 x2 x3 x4 x5 x6 x7 x8) (@Option.rec t7 (λ_=>t4) none (λx9=>(@Option.rec t114 (λ_=>t4) none (λx10=>(l22 x10 x1 x2 x3 x4 x5 x7)) (k_callD x1 x2 x8 x9 x5 x6))) x0)) := by intro t; cases t <;> (intros; rfl)
abbrev t1375:=S → t115
abbrev t1376:=t81 → t1375
abbrev t1377:=t14 → t1376
abbrev t1378:=Func → t1377
abbrev t1379:=Run → t1378
abbrev t1380:=Program → t1379
abbrev t1381:=SD → t1380
def l548 : t1381 := (λx0=>(@SD.rec (λ_=>t1380) (λx1 x2 x3 x4 x5 x6 x7 x8=>(k_rd_Ret x7 x1 (λx9 x10=>(l19 x9 x2 x3 x4 x5 x6 x8 x1 x10)))) (λx1 x2 x3 x4 x5 x6 x7 x8 x9 x10=>(l23 (k_cat_CV x2 x3) x4 x5 x6 x7 x8 x9 x10 x1)) x0))
theorem l548_eq : ∀ x0 x1 x2 x3 x4 x5 x6 x7, (Eq (l548 x0 x1 x2 x3 x4 x5 x6 x7) (@SD.rec (λ_=>t4) (λx8=>(k_rd_Ret x6 x8 (λx9 x10=>(l19 x9 x1 x2 x3 x4 x5 x7 x8 x10)))) (λx8 x9 x10=>(l23 (k_cat_CV x9 x10) x1 x2 x3 x4 x5 x6 x7 x8)) x0)) := by intro t; cases t <;> (intros; rfl)
abbrev t1382:=t141 → t101
abbrev t1383:=t14 → t1382
abbrev t1384:=Func → t1383
abbrev t1385:=Run → t1384
abbrev t1386:=Program → t1385
def k_leave : t1386 := (λx0 x1 x2 x3 x4 x5 x6=>(@List.rec SD (λ_=>t105) (λx7 _ x9 x10 x11 x12=>(@Option.rec CV (λ_=>t4) (k_resV x7 x10 (@Array.toList ResultVar (Func.results x9)) x12 (λx13 x14=>(some (Ret.ok (k_tupV x13) x14)))) (λx13=>(some (Ret.pan x13 x12))) x11)) (λx7 _ x9 x10 x11 x12 x13 x14 x15=>(l548 x7 x10 x11 x12 x13 x14 x15 x9)) x4 x0 x1 x2 x3 x5 x6))
theorem k_leave_law : ∀ x0 x1 x2 x3 x4 x5 x6, (Eq (k_leave x1 x2 x3 x4 x0 x5 x6) (leave x1 x2 x3 x4 x0 x5 x6)) := by
  intro t
  induction t with
  | nil  =>
    intro z0 z1 z2 z3 z4 z5
    show ((fun (x0 : Program) (_ : Run) (x2 : Func) (x3 : t14) (x4 : t81) (x5 : S) => (@Option.rec CV (fun (_ : t81) => t4) (k_resV x0 x3 (@Array.toList ResultVar (Func.results x2)) x5 (fun (x6 : t7) (x7 : S) => (some (Ret.ok (k_tupV x6) x7)))) (fun (x6 : CV) => (some (Ret.pan x6 x5))) x4)) z0 z1 z2 z3 z4 z5) = _
    conv => rhs; rw [Ev.leave.eq_def]
    try rw [k_resV_eq]
    try rw [k_tupV_eq]
    all_goals kernel_rfl
  | cons y0 y1 ih0 =>
    intro z0 z1 z2 z3 z4 z5
    have e0 : (fun (x0 : Program) (x1 : Run) (x2 : Func) (x3 : t14) (x4 : t81) (x5 : S) => (k_leave x0 x1 x2 x3 y1 x4 x5)) = (fun (x0 : Program) (x1 : Run) (x2 : Func) (x3 : t14) (x4 : t81) (x5 : S) => (leave x0 x1 x2 x3 y1 x4 x5)) := by
      funext z0 z1 z2 z3 z4 z5; exact ih0 z0 z1 z2 z3 z4 z5
    show ((fun (x0 : SD) (_ : t141) (x2 : t105) (x3 : Program) (x4 : Run) (x5 : Func) (x6 : t14) (x7 : t81) (x8 : S) => (l548 x0 x3 x4 x5 x6 x7 x8 x2)) y0 y1 (fun (x0 : Program) (x1 : Run) (x2 : Func) (x3 : t14) (x4 : t81) (x5 : S) => (k_leave x0 x1 x2 x3 y1 x4 x5)) z0 z1 z2 z3 z4 z5) = _
    rw [e0]
    conv => rhs; rw [Ev.leave.eq_def]
    try simp only [l23_eq, l19_eq, l548_eq, l22_eq]
    try rw [k_wr_Ret_eq]
    try rw [k_callD_eq]
    try rw [k_cat_CV_eq]
    try rw [k_rd_Ret_eq]
    all_goals kernel_rfl
theorem k_leave_eq : @k_leave = leave := by
  funext a0 a1 a2 a3 a4 a5 a6; exact k_leave_law a4 a0 a1 a2 a3 a5 a6
abbrev t1387:=Func → t8
abbrev t1388:=Run → t1387
abbrev t1389:=Program → t1388
abbrev t1390:=Fr → t1389
def l6 : t1390 := (λx0=>(@Fr.rec (λ_=>t1389) (λx1 x2 x3 x4 x5 x6 x7 x8=>((λ_ x10 x11 _ x13=>(k_leave x5 x6 x7 x10 x11 none x13)) x1 x2 x3 x4 x8)) x0))
theorem l6_eq : ∀ x0 x1 x2 x3 x4, (Eq (l6 x0 x1 x2 x3 x4) (@Fr.rec (λ_=>t4) (λx5 x6 x7 x8=>((λ_ x10 x11 _ x13=>(k_leave x1 x2 x3 x10 x11 none x13)) x5 x6 x7 x8 x4)) x0)) := by intro t; cases t <;> (intros; rfl)
def l549 : t1390 := (λx0=>(@Fr.rec (λ_=>t1389) (λx1 x2 x3 x4 x5 x6 x7 x8=>((λ_ x10 x11 _ x13=>(k_leave x5 x6 x7 x10 x11 none x13)) x1 x2 x3 x4 x8)) x0))
theorem l549_eq : ∀ x0 x1 x2 x3 x4, (Eq (l549 x0 x1 x2 x3 x4) (@Fr.rec (λ_=>t4) (λx5 x6 x7 x8=>((λ_ x10 x11 _ x13=>(k_leave x1 x2 x3 x10 x11 none x13)) x5 x6 x7 x8 x4)) x0)) := by intro t; cases t <;> (intros; rfl)
abbrev t1391:=Func → t186
abbrev t1392:=Run → t1391
abbrev t1393:=Program → t1392
abbrev t1394:=Fr → t1393
def l550 : t1394 := (λx0=>(@Fr.rec (λ_=>t1393) (λx1 x2 x3 x4 x5 x6 x7 x8 x9=>((λx10 _ x12 x13 _ x15=>(k_leave x5 x6 x7 x12 x13 (some x10) x15)) x8 x1 x2 x3 x4 x9)) x0))
theorem l550_eq : ∀ x0 x1 x2 x3 x4 x5, (Eq (l550 x0 x1 x2 x3 x4 x5) (@Fr.rec (λ_=>t4) (λx6 x7 x8 x9=>((λx10 _ x12 x13 _ x15=>(k_leave x1 x2 x3 x12 x13 (some x10) x15)) x4 x6 x7 x8 x9 x5)) x0)) := by intro t; cases t <;> (intros; rfl)
abbrev t1395:=t147 → t4
abbrev t1396:=Func → t1395
abbrev t1397:=Run → t1396
abbrev t1398:=Program → t1397
abbrev t1399:=Ex → t1398
def l551 : t1399 := (λx0=>(@Ex.rec (λ_=>t1398) (λx1 x2 x3 x4=>(@Prod.rec Fr S (λ_=>t4) (λx5 x6=>(l6 x5 x1 x2 x3 x6)) x4)) (λ_ _ _ _ _=>none) (λx1 x2 x3 x4=>(@Prod.rec Fr S (λ_=>t4) (λx5 x6=>(l549 x5 x1 x2 x3 x6)) x4)) (λx1 x2 x3 x4 x5=>(@Prod.rec Fr S (λ_=>t4) (λx6 x7=>(l550 x6 x2 x3 x4 x1 x7)) x5)) x0))
theorem l551_eq : ∀ x0 x1 x2 x3 x4, (Eq (l551 x0 x1 x2 x3 x4) (@callN._sparseCasesOn_1 (λ_=>t4) x0 (@Prod.rec Fr S (λ_=>t4) (λx5 x6=>(l6 x5 x1 x2 x3 x6)) x4) (@Prod.rec Fr S (λ_=>t4) (λx5 x6=>(l549 x5 x1 x2 x3 x6)) x4) (λx5=>(@Prod.rec Fr S (λ_=>t4) (λx6 x7=>(l550 x6 x1 x2 x3 x5 x7)) x4)) (λ_=>none))) := by intro t; cases t <;> (intros; rfl)
abbrev t1400:=Func → t4
abbrev t1401:=Run → t1400
abbrev t1402:=Program → t1401
abbrev t1403:=t151 → t1402
def l552 : t1403 := (λx0=>(@Option.rec t148 (λ_=>t1402) (λ_ _ _=>none) (λx1 x2 x3 x4=>(@Prod.rec Ex t147 (λ_=>t4) (λx5 x6=>(l551 x5 x2 x3 x4 x6)) x1)) x0))
theorem l552_eq : ∀ x0 x1 x2 x3, (Eq (l552 x0 x1 x2 x3) (@methV._sparseCasesOn_2 t148 (λ_=>t4) x0 (λx4=>(@Prod.rec Ex t147 (λ_=>t4) (λx5 x6=>(l551 x5 x1 x2 x3 x6)) x4)) (λ_=>none))) := by intro t; cases t <;> (intros; rfl)
abbrev t1404:=Code → t4
abbrev t1405:=Func → t1404
abbrev t1406:=S → t1405
abbrev t1407:=t7 → t1406
abbrev t1408:=FuncId → t1407
abbrev t1409:=Run → t1408
abbrev t1410:=Program → t1409
abbrev t1411:=t165 → t1410
def l553 : t1411 := (λx0=>(@Option.rec t14 (λ_=>t1410) (λ_ _ _ _ _ _ _=>none) (λx1 x2 x3 x4 x5 x6 x7 x8=>(@Bool.rec (λ_=>t4) none (l552 (Run.code x3 x8 (Fr.mk (Func.ntmps x7) x1 [] none) x6) x2 x3 x7) (@Bool.rec (λ_=>Bool) Bool.false (Nat.ble (k_len x5) (Func.ntmps x7)) (fnOk x2 x4)))) x0))
theorem l553_eq : ∀ x0 x1 x2 x3 x4 x5 x6 x7, (Eq (l553 x0 x1 x2 x3 x4 x5 x6 x7) (@methV._sparseCasesOn_2 t14 (λ_=>t4) x0 (λx8=>(@Bool.rec (λ_=>t4) none (l552 (Run.code x2 x7 (Fr.mk (Func.ntmps x6) x8 [] none) x5) x1 x2 x6) (@Bool.rec (λ_=>Bool) Bool.false (Nat.ble (k_len x4) (Func.ntmps x6)) (fnOk x1 x3)))) (λ_=>none))) := by intro t; cases t <;> (intros; rfl)
abbrev t1412:=S → t1400
abbrev t1413:=t7 → t1412
abbrev t1414:=FuncId → t1413
abbrev t1415:=Run → t1414
abbrev t1416:=Program → t1415
abbrev t1417:=t1353 → t1416
def l554 : t1417 := (λx0=>(@Option.rec Code (λ_=>t1416) (λ_ _ _ _ _ _=>none) (λx1 x2 x3 x4 x5 x6 x7=>(l553 (k_setArgs (nat_lit 0) x5 (@Tr.nil CV)) x2 x3 x4 x5 x6 x7 x1)) x0))
theorem l554_eq : ∀ x0 x1 x2 x3 x4 x5 x6, (Eq (l554 x0 x1 x2 x3 x4 x5 x6) (@methV._sparseCasesOn_2 Code (λ_=>t4) x0 (λx7=>(l553 (k_setArgs (nat_lit 0) x4 (@Tr.nil CV)) x1 x2 x3 x4 x5 x6 x7)) (λ_=>none))) := by intro t; cases t <;> (intros; rfl)
abbrev t1418:=FuncId → t9
abbrev t1419:=Run → t1418
abbrev t1420:=Program → t1419
def k_callN : t1420 := (λx0 x1 x2 x3 x4=>(@Option.rec Func (λ_=>t4) none (λx5=>((λx6=>(l554 (Func.body x6) x0 x1 x2 x3 x4 x6)) x5)) (@GetElem?.getElem? (Array Func) FuncId Func (λx5 x6=>(@LT.lt Nat instLTNat x6 (@Array.size Func x5))) (@Array.instGetElem?NatLtSize Func) (Program.funcs x0) x2)))
theorem k_callN_eq : @k_callN = callN := by
  delta k_callN callN
  simp only [l551_eq, l552_eq, l554_eq, l550_eq, l549_eq, l6_eq, l553_eq]
  rw [k_leave_eq, k_len_eq, k_setArgs_eq]
  all_goals kernel_rfl

abbrev t1421:=t6 → t1419
abbrev t1422:=Program → t1421
def k_callT : t1422 := (λx0 x1 x2 x3 x4 x5=>(@Bool.rec (λ_=>t4) (k_callN x0 x2 x3 x4 x5) (l5 x4 x5) (x1 x3)))
theorem k_callT_eq : @k_callT = callT := by
  delta k_callT callT
  simp only [l5_eq]
  rw [k_callN_eq]
  all_goals kernel_rfl

abbrev t1423:=S → t151
abbrev t1424:=Fr → t1423
abbrev t1425:=t161 → t1424
abbrev t1426:=Run → t1425
abbrev t1427:=Program → t1426
abbrev t1428:=t164 → t151
abbrev t1429:=t141 → t1428
abbrev t1430:=t14 → t1429
abbrev t1431:=Nat → t1430
abbrev t1432:=t1427 → t1431
abbrev t1433:=Oper → t1432
abbrev t1434:=t161 → t1433
abbrev t1435:=Run → t1434
abbrev t1436:=Program → t1435
abbrev t1437:=Ret → t1436
def l557 : t1437 := (λx0=>(@Ret.rec (λ_=>t1436) (λx1 x2 x3 x4 x5 x6 x7 x8 x9 x10 x11=>(@Option.rec t14 (λ_=>t151) none (λx12=>(x7 x3 x4 x5 (Fr.mk x8 x12 x10 x11) x2)) (k_putE x8 (Oper.dst x6) x1 x9))) (λx1 x2 _ _ _ _ _ x8 x9 x10 x11=>(some ((Ex.pan x1), ((Fr.mk x8 x9 x10 x11), x2)))) x0))
theorem l557_eq : ∀ x0 x1 x2 x3 x4 x5 x6 x7 x8 x9, (Eq (l557 x0 x1 x2 x3 x4 x5 x6 x7 x8 x9) (@Ret.rec (λ_=>t151) (λx10 x11=>(@Option.rec t14 (λ_=>t151) none (λx12=>(x5 x1 x2 x3 (Fr.mk x6 x12 x8 x9) x11)) (k_putE x6 (Oper.dst x4) x10 x7))) (λx10 x11=>(some ((Ex.pan x10), ((Fr.mk x6 x7 x8 x9), x11)))) x0)) := by intro t; cases t <;> (intros; rfl)
abbrev t1438:=Option SD
abbrev t1439:=t164 → t1423
abbrev t1440:=t141 → t1439
abbrev t1441:=t14 → t1440
abbrev t1442:=Nat → t1441
abbrev t1443:=t1424 → t1442
abbrev t1444:=Oper → t1443
abbrev t1445:=t1438 → t1444
def l559 : t1445 := (λx0=>(@Option.rec SD (λ_=>t1444) (λ_ _ _ _ _ _ _=>none) (λx1 x2 x3 x4 x5 x6 x7 x8=>((λx9=>(@Option.rec t14 (λ_=>t151) none (λx10=>((λx11=>(x3 (Fr.mk x4 x11 (x9 :: x6) x7) x8)) x10)) (k_putE x4 (Oper.dst x2) (CV.tup []) x5))) x1)) x0))
theorem l559_eq : ∀ x0 x1 x2 x3 x4 x5 x6 x7, (Eq (l559 x0 x1 x2 x3 x4 x5 x6 x7) (@Option.rec SD (λ_=>t151) none (λx8=>((λx9=>(@Option.rec t14 (λ_=>t151) none (λx10=>((λx11=>(x2 (Fr.mk x3 x11 (x9 :: x5) x6) x7)) x10)) (k_putE x3 (Oper.dst x1) (CV.tup []) x4))) x8)) x0)) := by intro t; cases t <;> (intros; rfl)
abbrev t1446:=t7 → t1438
abbrev t1447:=t7 → t1446
abbrev t1448:=FuncId → t1447
abbrev t1449:=t31 → t1448
def l561 : t1449 := (λx0=>(@Option.rec t7 (λ_=>t1448) (λ_ _ _=>none) (λx1 x2 x3 x4=>(@Option.rec t7 (λ_=>t1438) none (λx5=>((λx6=>(some (SD.call x2 x6 x4))) x5)) (k_cat_CV x3 x1))) x0))
theorem l561_eq : ∀ x0 x1 x2 x3, (Eq (l561 x0 x1 x2 x3) (@methV._sparseCasesOn_2 t7 (λ_=>t1438) x0 (λx4=>(@Option.rec t7 (λ_=>t1438) none (λx5=>((λx6=>(some (SD.call x1 x6 x3))) x5)) (k_cat_CV x2 x4))) (λ_=>none))) := by intro t; cases t <;> (intros; rfl)
abbrev t1450:=Call → t1438
abbrev t1451:=t14 → t1450
abbrev t1452:=CV → t1451
def l562 : t1452 := (λx0=>(@CV.rec (λ_=>t1451) (λ_=>PUnit.{1}) (λ_ _=>none) (λ_ _ _=>none) (λ_ _ _ _=>none) (λ_ _ _ _ _ _ _=>none) (λ_ _=>none) (λ_ _ _=>none) (λ_ _ _ _=>none) (λ_ _ _ _=>none) (λx1 x2 x3 _ _ x6 x7=>(l561 (k_evs x6 (@Array.toList Operand (Call.args x7))) x1 x2 x3)) (λ_ _ _=>none) (λ_ _ _ _ _=>none) PUnit.unit.{1} (λ_ _ _ _=>PUnit.unit.{1}) x0))
theorem l562_eq : ∀ x0 x1 x2, (Eq (l562 x0 x1 x2) (@deferV._sparseCasesOn_1 (λ_=>t1438) x0 (λx3 x4 x5=>(l561 (k_evs x1 (@Array.toList Operand (Call.args x2))) x3 x4 x5)) (λ_=>none))) := by intro t; cases t <;> (intros; rfl)
abbrev t1453:=t81 → t1451
def l563 : t1453 := (λx0=>(@Option.rec CV (λ_=>t1451) (λ_ _=>none) (λx1 x2 x3=>(l562 x1 x2 x3)) x0))
theorem l563_eq : ∀ x0 x1 x2, (Eq (l563 x0 x1 x2) (@methV._sparseCasesOn_2 CV (λ_=>t1438) x0 (λx3=>(l562 x3 x1 x2)) (λ_=>none))) := by intro t; cases t <;> (intros; rfl)
abbrev t1454:=Callee → t1451
def l564 : t1454 := (λx0=>(@Callee.rec (λ_=>t1451) (λx1 x2 x3=>(l563 (k_ev x2 x1) x2 x3)) (λ_ _ _ _=>none) (λ_ _ _=>none) x0))
theorem l564_eq : ∀ x0 x1 x2, (Eq (l564 x0 x1 x2) (@deferV._sparseCasesOn_2 (λ_=>t1438) x0 (λx3=>(l563 (k_ev x1 x3) x1 x2)) (λ_=>none))) := by intro t; cases t <;> (intros; rfl)
def k_deferV : t1451 := (λx0 x1=>(l564 (Call.callee x1) x0 x1))
theorem k_deferV_eq : @k_deferV = deferV := by
  delta k_deferV deferV
  simp only [l563_eq, l564_eq, l561_eq, l562_eq]
  rw [k_cat_CV_eq, k_evs_eq, k_ev_eq]
  all_goals kernel_rfl

abbrev t1455:=Op → t1444
def l560 : t1455 := (λx0=>(@Op.rec (λ_=>t1444) (λ_ _ _ _ _ _ _ _=>none) (λ_ _ _ _ _ _ _ _=>none) (λ_ _ _ _ _ _ _ _ _ _=>none) (λ_ _ _ _ _ _ _ _=>none) (λ_ _ _ _ _ _ _ _ _=>none) (λ_ _ _ _ _ _ _ _ _=>none) (λ_ _ _ _ _ _ _ _ _ _=>none) (λ_ _ _ _ _ _ _ _ _ _ _=>none) (λ_ _ _ _ _ _ _ _ _=>none) (λ_ _ _ _ _ _ _ _ _ _=>none) (λ_ _ _ _ _ _ _ _=>none) (λ_ _ _ _ _ _ _ _=>none) (λ_ _ _ _ _ _ _ _=>none) (λ_ _ _ _ _ _ _ _ _ _ _ _=>none) (λ_ _ _ _ _ _ _ _ _ _=>none) (λ_ _ _ _ _ _ _ _ _ _=>none) (λ_ _ _ _ _ _ _ _ _=>none) (λ_ _ _ _ _ _ _ _ _=>none) (λ_ _ _ _ _ _ _ _ _ _=>none) (λ_ _ _ _ _ _ _ _ _=>none) (λ_ _ _ _ _ _ _ _ _=>none) (λ_ _ _ _ _ _ _ _ _ _=>none) (λ_ _ _ _ _ _ _ _ _ _ _ _=>none) (λ_ _ _ _ _ _ _ _ _ _=>none) (λ_ _ _ _ _ _ _ _ _ _=>none) (λ_ _ _ _ _ _ _ _ _ _=>none) (λ_ _ _ _ _ _ _ _ _ _=>none) (λ_ _ _ _ _ _ _ _ _ _ _=>none) (λ_ _ _ _ _ _ _ _ _ _ _=>none) (λ_ _ _ _ _ _ _ _ _ _=>none) (λ_ _ _ _ _ _ _ _ _ _ _=>none) (λ_ _ _ _ _ _ _ _ _=>none) (λ_ _ _ _ _ _ _ _ _=>none) (λ_ _ _ _ _ _ _ _=>none) (λ_ _ _ _ _ _ _ _ _ _ _=>none) (λ_ _ _ _ _ _ _ _ _=>none) (λ_ _ _ _ _ _ _ _=>none) (λ_ _ _ _ _ _ _ _=>none) (λx1 x2 x3 x4 x5 x6 x7 x8=>(@Option.rec Nat (λ_=>t151) (l559 (k_deferV x5 x1) x2 x3 x4 x5 x6 x7 x8) (λx9=>((λ_=>none) x9)) x7)) (λ_ _ _ _ _ _ _ _=>none) (λ_ _ _ _ _ _ _ _ _=>none) (λ_ _ _ _ _ _ _ _ _ _=>none) (λ_ _ _ _ _ _ _ _ _=>none) x0))
theorem l560_eq : ∀ x0 x1 x2 x3 x4 x5 x6 x7, (Eq (l560 x0 x1 x2 x3 x4 x5 x6 x7) (@regQ._sparseCasesOn_4 (λ_=>t151) x0 (λx8=>(@Option.rec Nat (λ_=>t151) (l559 (k_deferV x4 x8) x1 x2 x3 x4 x5 x6 x7) (λx9=>((λ_=>none) x9)) x6)) (λ_=>none))) := by intro t; cases t <;> (intros; rfl)
def k_regQ : t1444 := (λx0 x1 x2 x3 x4 x5 x6=>(l560 (Oper.op x0) x0 x1 x2 x3 x4 x5 x6))
theorem k_regQ_eq : @k_regQ = regQ := by
  delta k_regQ regQ
  simp only [l560_eq, l559_eq]
  rw [k_putE_eq, k_deferV_eq]
  all_goals kernel_rfl

abbrev t1456:=S → t1433
abbrev t1457:=t161 → t1456
abbrev t1458:=Run → t1457
abbrev t1459:=Program → t1458
abbrev t1460:=t4 → t1459
def l558 : t1460 := (λx0=>(@Option.rec Ret (λ_=>t1459) (λx1 x2 x3 x4 x5 x6 x7 x8 x9 x10=>(k_regQ x5 (λx11 x12=>(x6 x1 x2 x3 x11 x12)) x7 x8 x9 x10 x4)) (λx1 x2 x3 x4 _ x6 x7 x8 x9 x10 x11=>(l557 x1 x2 x3 x4 x6 x7 x8 x9 x10 x11)) x0))
theorem l558_eq : ∀ x0 x1 x2 x3 x4 x5 x6 x7 x8 x9 x10, (Eq (l558 x0 x1 x2 x3 x4 x5 x6 x7 x8 x9 x10) (@Option.rec Ret (λ_=>t151) (k_regQ x5 (λx11 x12=>(x6 x1 x2 x3 x11 x12)) x7 x8 x9 x10 x4) (λx11=>(l557 x11 x1 x2 x3 x5 x6 x7 x8 x9 x10)) x0)) := by intro t; cases t <;> (intros; rfl)
abbrev t1461:=t7 → t238
def k_app2 : t1461 := (λx0 x1 x2=>(@Option.rec t7 (λ_=>t31) none (λx3=>((λx4=>(k_cat_CV x0 x4)) x3)) (k_cat_CV x1 x2)))
theorem k_app2_eq : @k_app2 = app2 := by
  delta k_app2 app2
  rw [k_cat_CV_eq]
  all_goals kernel_rfl

abbrev t1462:=Run → t9
abbrev t1463:=CV → t1462
def l568 : t1463 := (λx0=>(@CV.rec (λ_=>t1462) (λ_=>PUnit.{1}) (λ_ _ _=>none) (λ_ _ _ _=>none) (λ_ _ _ _ _=>none) (λ_ _ _ _ _ _ _ _=>none) (λ_ _ _=>none) (λ_ _ _ _=>none) (λ_ _ _ _ _=>none) (λ_ _ _ _ _=>none) (λx1 x2 x3 _ _ x6 x7 x8=>(@Option.rec t7 (λ_=>t4) none (λx9=>((λx10=>(Run.call x6 x1 x10 x8)) x9)) (k_app2 x2 x7 x3))) (λx1 x2 x3 x4=>(Run.round x2 x1 x3 x4)) (λ_ _ _ _ _ _=>none) PUnit.unit.{1} (λ_ _ _ _=>PUnit.unit.{1}) x0))
theorem l568_eq : ∀ x0 x1 x2 x3, (Eq (l568 x0 x1 x2 x3) (@callV._sparseCasesOn_1 (λ_=>t4) x0 (λx4 x5 x6=>(@Option.rec t7 (λ_=>t4) none (λx7=>((λx8=>(Run.call x1 x4 x8 x3)) x7)) (k_app2 x5 x2 x6))) (λx4=>(Run.round x1 x4 x2 x3)) (λ_=>none))) := by intro t; cases t <;> (intros; rfl)
abbrev t1464:=CV → t9
abbrev t1465:=Run → t1464
def k_callV : t1465 := (λx0 x1 x2 x3=>(l568 x1 x0 x2 x3))
theorem k_callV_eq : @k_callV = callV := by
  delta k_callV callV
  simp only [l568_eq]
  rw [k_app2_eq]
  all_goals kernel_rfl

abbrev t1466:=Run → t20
abbrev t1467:=t31 → t1466
def l567 : t1467 := (λx0=>(@Option.rec t7 (λ_=>t1466) (λ_ _ _=>none) (λx1 x2 x3 x4=>(k_callV x2 x4 x1 x3)) x0))
theorem l567_eq : ∀ x0 x1 x2 x3, (Eq (l567 x0 x1 x2 x3) (@stepC._sparseCasesOn_1 t7 (λ_=>t4) x0 (λx4=>(k_callV x1 x3 x4 x2)) (λ_=>none))) := by intro t; cases t <;> (intros; rfl)
abbrev t1468:=Run → t1190
abbrev t1469:=t81 → t1468
def l569 : t1469 := (λx0=>(@Option.rec CV (λ_=>t1468) (λ_ _ _ _=>none) (λx1 x2 x3 x4 x5=>(l567 (k_evs x3 (@Array.toList Operand (Call.args x4))) x2 x5 x1)) x0))
theorem l569_eq : ∀ x0 x1 x2 x3 x4, (Eq (l569 x0 x1 x2 x3 x4) (@stepC._sparseCasesOn_1 CV (λ_=>t4) x0 (λx5=>(l567 (k_evs x2 (@Array.toList Operand (Call.args x3))) x1 x4 x5)) (λ_=>none))) := by intro t; cases t <;> (intros; rfl)
abbrev t1470:=Option FuncId
abbrev t1471:=FuncId → t1470
abbrev t1472:=TypeDesc → t1471
def l571 : t1472 := (λx0=>(@TypeDesc.rec (λ_=>t1471) (λx1=>(some x1)) (λx1=>(some x1)) (λ_ x2=>(some x2)) (λ_ x2=>(some x2)) (λ_ x2=>(some x2)) (λx1=>(some x1)) (λx1=>(some x1)) (λ_ _=>none) (λ_ x2=>(some x2)) (λ_ _ x3=>(some x3)) (λ_ _ x3=>(some x3)) (λ_ _ x3=>(some x3)) (λ_ x2=>(some x2)) (λ_ _ _ x4=>(some x4)) (λ_ x2=>(some x2)) (λ_ x2=>(some x2)) (λ_ _ x3=>(some x3)) x0))
theorem l571_eq : ∀ x0 x1, (Eq (l571 x0 x1) (@methV._sparseCasesOn_3 (λ_=>t1470) x0 (λ_=>none) (λ_=>(some x1)))) := by intro t; cases t <;> (intros; rfl)
abbrev t1473:=t336 → t1471
def l572 : t1473 := (λx0=>(@Option.rec TypeDesc (λ_=>t1471) (λ_=>none) (λx1 x2=>(l571 x1 x2)) x0))
theorem l572_eq : ∀ x0 x1, (Eq (l572 x0 x1) (@methV._sparseCasesOn_2 TypeDesc (λ_=>t1470) x0 (λx2=>(l571 x2 x1)) (λ_=>none))) := by intro t; cases t <;> (intros; rfl)
def l573 : t1472 := (λx0=>(@TypeDesc.rec (λ_=>t1471) (λ_=>none) (λ_=>none) (λ_ _=>none) (λ_ _=>none) (λ_ _=>none) (λ_=>none) (λ_=>none) (λ_ x2=>(some x2)) (λ_ _=>none) (λ_ _ _=>none) (λ_ _ _=>none) (λ_ _ _=>none) (λ_ _=>none) (λ_ _ _ _=>none) (λ_ _=>none) (λ_ _=>none) (λ_ _ _=>none) x0))
theorem l573_eq : ∀ x0 x1, (Eq (l573 x0 x1) (@methV._sparseCasesOn_3 (λ_=>t1470) x0 (λ_=>(some x1)) (λ_=>none))) := by intro t; cases t <;> (intros; rfl)
def l574 : t1473 := (λx0=>(@Option.rec TypeDesc (λ_=>t1471) (λ_=>none) (λx1 x2=>(l573 x1 x2)) x0))
theorem l574_eq : ∀ x0 x1, (Eq (l574 x0 x1) (@methV._sparseCasesOn_2 TypeDesc (λ_=>t1470) x0 (λx2=>(l573 x2 x1)) (λ_=>none))) := by intro t; cases t <;> (intros; rfl)
abbrev t1474:=Prod FuncId Bool
abbrev t1475:=Option t1474
abbrev t1476:=TypeId → t1470
abbrev t1477:=Program → t1476
abbrev t1478:=t1475 → t1477
def l575 : t1478 := (λx0=>(@Option.rec t1474 (λ_=>t1477) (λ_ _=>none) (λx1 x2 x3=>(@Prod.rec FuncId Bool (λ_=>t1470) (λx4 x5=>(@Bool.rec (λ_=>t1470) (l572 (Program.underlying x2 x3) x4) (l574 (Program.underlying x2 x3) x4) x5)) x1)) x0))
theorem l575_eq : ∀ x0 x1 x2, (Eq (l575 x0 x1 x2) (@methV._sparseCasesOn_2 t1474 (λ_=>t1470) x0 (λx3=>(@Prod.rec FuncId Bool (λ_=>t1470) (λx4 x5=>(@Bool.rec (λ_=>t1470) (l572 (Program.underlying x1 x2) x4) (l574 (Program.underlying x1 x2) x4) x5)) x3)) (λ_=>none))) := by intro t; cases t <;> (intros; rfl)
abbrev t1479:=List FieldStep
abbrev t1480:=Method → t1470
abbrev t1481:=TypeId → t1480
abbrev t1482:=Program → t1481
abbrev t1483:=t1479 → t1482
def l576 : t1483 := (λx0=>(@List.rec FieldStep (λ_=>t1482) (λx1 x2 x3=>(l575 (Method.func x3) x1 x2)) (λ_ _ _ _ _ _=>none) x0))
theorem l576_eq : ∀ x0 x1 x2 x3, (Eq (l576 x0 x1 x2 x3) (@methV._sparseCasesOn_1 FieldStep (λ_=>t1470) x0 (l575 (Method.func x3) x1 x2) (λ_=>none))) := by intro t; cases t <;> (intros; rfl)
abbrev t1484:=String → t1470
abbrev t1485:=TypeId → t1484
abbrev t1486:=Program → t1485
abbrev t1487:=t331 → t1486
def l577 : t1487 := (λx0=>(@Option.rec TypeInfo (λ_=>t1486) (λ_ _ _=>none) (λx1 x2 x3 x4=>((λx5=>(@Option.rec Method (λ_=>t1470) none (λx6=>((λx7=>(l576 (@Array.toList FieldStep (Method.path x7)) x2 x3 x7)) x6)) (@Array.find? Method (λx6=>(@BEq.beq String (@instBEqOfDecidableEq String instDecidableEqString) (Method.name x6) x4)) (TypeInfo.methods x5)))) x1)) x0))
theorem l577_eq : ∀ x0 x1 x2 x3, (Eq (l577 x0 x1 x2 x3) (@Option.rec TypeInfo (λ_=>t1470) none (λx4=>((λx5=>(@Option.rec Method (λ_=>t1470) none (λx6=>((λx7=>(l576 (@Array.toList FieldStep (Method.path x7)) x1 x2 x7)) x6)) (@Array.find? Method (λx6=>(@BEq.beq String (@instBEqOfDecidableEq String instDecidableEqString) (Method.name x6) x3)) (TypeInfo.methods x5)))) x4)) x0)) := by intro t; cases t <;> (intros; rfl)
def k_methV : t1486 := (λx0 x1 x2=>(l577 (Tables.info? (Program.toTables x0) x1) x0 x1 x2))
theorem k_methV_eq : @k_methV = methV := by
  delta k_methV methV
  simp only [l573_eq, l571_eq, l575_eq, l572_eq, l577_eq, l576_eq, l574_eq]
  all_goals kernel_rfl

abbrev t1488:=String → t924
abbrev t1489:=S → t1488
abbrev t1490:=Run → t1489
abbrev t1491:=Program → t1490
abbrev t1492:=t31 → t1491
def l570 : t1492 := (λx0=>(@Option.rec t7 (λ_=>t1491) (λ_ _ _ _ _ _=>none) (λx1 x2 x3 x4 x5 x6 x7=>(@Option.rec FuncId (λ_=>t4) none (λx8=>((λx9=>(k_callV x3 (CV.fn x9 [] []) (x7 :: x1) x4)) x8)) (k_methV x2 x6 x5))) x0))
theorem l570_eq : ∀ x0 x1 x2 x3 x4 x5 x6, (Eq (l570 x0 x1 x2 x3 x4 x5 x6) (@stepC._sparseCasesOn_1 t7 (λ_=>t4) x0 (λx7=>(@Option.rec FuncId (λ_=>t4) none (λx8=>((λx9=>(k_callV x2 (CV.fn x9 [] []) (x6 :: x7) x3)) x8)) (k_methV x1 x5 x4))) (λ_=>none))) := by intro t; cases t <;> (intros; rfl)
abbrev t1493:=String → t4
abbrev t1494:=S → t1493
abbrev t1495:=Call → t1494
abbrev t1496:=t14 → t1495
abbrev t1497:=Run → t1496
abbrev t1498:=Program → t1497
abbrev t1499:=CV → t1498
def l578 : t1499 := (λx0=>(@CV.rec (λ_=>t1498) (λ_=>PUnit.{1}) (λ_ _ _ _ _ _=>none) (λ_ _ _ _ _ _ _=>none) (λ_ _ _ _ _ _ _ _=>none) (λ_ _ _ _ _ _ _ _ _ _ _=>none) (λ_ _ _ _ _ _=>none) (λ_ _ _ _ _ _ _=>none) (λ_ _ _ _ _ _ _ _=>none) (λ_ _ _ _ _ _ _ _=>none) (λ_ _ _ _ _ _ _ _ _ _ _=>none) (λ_ _ _ _ _ _ _=>none) (λx1 x2 _ x4 x5 x6 x7 x8 x9=>(l570 (k_evs x6 (@Array.toList Operand (Call.args x7))) x4 x5 x8 x9 x1 x2)) PUnit.unit.{1} (λ_ _ _ _=>PUnit.unit.{1}) x0))
theorem l578_eq : ∀ x0 x1 x2 x3 x4 x5 x6, (Eq (l578 x0 x1 x2 x3 x4 x5 x6) (@stepC._sparseCasesOn_3 (λ_=>t4) x0 (λx7 x8=>(l570 (k_evs x3 (@Array.toList Operand (Call.args x4))) x1 x2 x5 x6 x7 x8)) (λ_=>none))) := by intro t; cases t <;> (intros; rfl)
abbrev t1500:=t81 → t1498
def l579 : t1500 := (λx0=>(@Option.rec CV (λ_=>t1498) (λ_ _ _ _ _ _=>none) (λx1 x2 x3 x4 x5 x6 x7=>(l578 x1 x2 x3 x4 x5 x6 x7)) x0))
theorem l579_eq : ∀ x0 x1 x2 x3 x4 x5 x6, (Eq (l579 x0 x1 x2 x3 x4 x5 x6) (@stepC._sparseCasesOn_1 CV (λ_=>t4) x0 (λx7=>(l578 x7 x1 x2 x3 x4 x5 x6)) (λ_=>none))) := by intro t; cases t <;> (intros; rfl)
abbrev t1501:=Program → t4
abbrev t1502:=S → t1501
abbrev t1503:=Call → t1502
abbrev t1504:=t14 → t1503
abbrev t1505:=Run → t1504
abbrev t1506:=Callee → t1505
def l580 : t1506 := (λx0=>(@Callee.rec (λ_=>t1505) (λx1 x2 x3 x4 x5 _=>(l569 (k_ev x3 x1) x2 x3 x4 x5)) (λx1 x2 x3 x4 x5 x6 x7=>(l579 (k_ev x4 x1) x7 x3 x4 x5 x6 x2)) (λ_ _ x3 x4 x5 x6=>(k_o_call x6 x3 x4 x5)) x0))
theorem l580_eq : ∀ x0 x1 x2 x3 x4 x5, (Eq (l580 x0 x1 x2 x3 x4 x5) (@stepC._sparseCasesOn_4 (λ_=>t4) x0 (λx6=>(l569 (k_ev x2 x6) x1 x2 x3 x4)) (λx6 x7=>(l579 (k_ev x2 x6) x5 x1 x2 x3 x4 x7)) (λ_=>(k_o_call x5 x2 x3 x4)))) := by intro t; cases t <;> (intros; rfl)
abbrev t1507:=Program → t1468
def k_stepC : t1507 := (λx0 x1 x2 x3 x4=>(l580 (Call.callee x3) x1 x2 x3 x4 x0))
theorem k_stepC_eq : @k_stepC = stepC := by
  delta k_stepC stepC
  simp only [l579_eq, l570_eq, l567_eq, l578_eq, l580_eq, l569_eq]
  rw [k_callV_eq, k_evs_eq, k_methV_eq, k_o_call_eq, k_ev_eq]
  all_goals kernel_rfl

def l581 : t186 := (λx0=>(@CV.rec (λ_=>t8) (λ_=>PUnit.{1}) (λ_=>none) (λ_ _=>none) (λ_ _ _=>none) (λ_ _ _ _ _ _=>none) (λ_=>none) (λ_ _=>none) (λ_ _ _=>none) (λ_ _ _=>none) (λ_ _ _ _ _ _=>none) (λ_ _=>none) (λx1 x2 _ x4=>(some (Ret.pan (CV.iface x1 x2) x4))) PUnit.unit.{1} (λ_ _ _ _=>PUnit.unit.{1}) x0))
theorem l581_eq : ∀ x0 x1, (Eq (l581 x0 x1) (@stepC._sparseCasesOn_3 (λ_=>t4) x0 (λx2 x3=>(some (Ret.pan (CV.iface x2 x3) x1))) (λ_=>none))) := by intro t; cases t <;> (intros; rfl)
def l582 : t101 := (λx0=>(@Option.rec CV (λ_=>t8) (λ_=>none) (λx1 x2=>(l581 x1 x2)) x0))
theorem l582_eq : ∀ x0 x1, (Eq (l582 x0 x1) (@stepC._sparseCasesOn_1 CV (λ_=>t4) x0 (λx2=>(l581 x2 x1)) (λ_=>none))) := by intro t; cases t <;> (intros; rfl)
def k_stepPan : t192 := (λx0 x1 x2=>(l582 (k_ev x0 x1) x2))
theorem k_stepPan_eq : @k_stepPan = stepPan := by
  delta k_stepPan stepPan
  simp only [l582_eq, l581_eq]
  rw [k_ev_eq]
  all_goals kernel_rfl

abbrev t1508:=Run → t1239
abbrev t1509:=Program → t1508
abbrev t1510:=Op → t1509
def l566 : t1510 := (λx0=>(@Op.rec (λ_=>t1509) (λx1 x2 _ x4 x5=>(k_o_move x2 x4 x1 x5)) (λx1 x2 _ x4 x5=>(k_o_move x2 x4 x1 x5)) (λx1 x2 x3 x4 _ x6 x7=>(k_o_pick x4 x6 x1 x2 x3 x7)) (λx1 x2 _ x4 x5=>(k_o_alloc x2 x4 x1 x5)) (λx1 x2 x3 _ x5 x6=>(k_o_box x3 x5 x1 x2 x6)) (λx1 x2 x3 _ x5 x6=>(k_o_build x3 x5 x1 x2 x6)) (λx1 x2 x3 x4 _ x6 x7=>(k_o_buildSlice x4 x6 x1 x2 x3 x7)) (λx1 x2 x3 x4 x5 _ x7 x8=>(k_o_mapUpdate x5 x7 x1 x2 x3 x4 x8)) (λx1 x2 x3 _ x5 x6=>(k_o_load x3 x5 x1 x2 x6)) (λx1 x2 x3 x4 _ x6 x7=>(k_o_store x4 x6 x1 x2 x3 x7)) (λ_ _ _ _ _=>none) (λ_ _ _ _ _=>none) (λx1 x2 _ x4 x5=>(k_o_nilCheck x2 x4 x1 x5)) (λx1 x2 x3 x4 _ x6 _ x8 x9=>(k_o_binOp x6 x8 x1 x2 x3 x4 x9)) (λx1 _ x3 x4 _ x6 x7=>(k_o_unOp x4 x6 x1 x3 x7)) (λx1 x2 x3 x4 _ x6 x7=>(k_o_convert x4 x6 x1 x2 x3 x7)) (λ_ _ _ _ _ _=>none) (λx1 x2 x3 _ x5 x6=>(k_o_makeInterface x3 x5 x1 x2 x6)) (λx1 x2 x3 x4 _ x6 x7=>(k_o_makeFunc x4 x6 x1 x2 x3 x7)) (λx1 x2 x3 _ x5 x6=>(k_mapF x3 x5 x1 x2 x6)) (λ_ _ _ _ _ _=>none) (λx1 x2 x3 x4 _ x6 x7=>(k_o_makeSlice x4 x6 x1 x2 x3 x7)) (λx1 x2 x3 x4 x5 x6 _ x8 x9=>(k_o_slice x6 x8 x1 x2 x3 x4 x5 x9)) (λx1 x2 x3 x4 _ x6 x7=>(k_o_fieldAddr x4 x6 x1 x2 x3 x7)) (λx1 x2 x3 x4 _ x6 x7=>(k_o_field x4 x6 x1 x2 x3 x7)) (λx1 x2 x3 x4 _ x6 x7=>(k_o_indexAddr x4 x6 x1 x2 x3 x7)) (λx1 x2 x3 x4 _ x6 x7=>(k_o_index x4 x6 x1 x2 x3 x7)) (λx1 x2 x3 x4 x5 _ x7 x8=>(k_o_lookup x5 x7 x1 x2 x3 x4 x8)) (λx1 x2 x3 x4 x5 _ x7 x8=>(k_o_mapUpdate x5 x7 x1 x2 x3 x4 x8)) (λx1 x2 x3 x4 _ x6 x7=>(k_o_mapEntry x4 x6 x1 x2 x3 x7)) (λ_ x2 x3 x4 x5 _ x7 x8=>(k_o_entryStore x5 x7 x2 x3 x4 x8)) (λ_ _ _ _ _ _=>none) (λ_ _ _ _ _ _=>none) (λ_ _ _ _ _=>none) (λx1 _ x3 x4 x5 _ x7 x8=>(k_o_typeAssert x5 x7 x1 x3 x4 x8)) (λx1 x2 x3 _ x5 x6=>(k_o_extract x3 x5 x1 x2 x6)) (λx1 x2 x3 x4 x5=>(k_stepC x2 x3 x4 x1 x5)) (λ_ _ _ _ _=>none) (λ_ _ _ _ _=>none) (λx1 _ _ x4 x5=>(k_stepPan x4 x1 x5)) (λ_ _ _ _ _ _=>none) (λ_ _ _ _ _ _ _=>none) (λ_ _ _ _ _ _=>none) x0))
theorem l566_eq : ∀ x0, (Eq (l566 x0) (@stepF._sparseCasesOn_1 (λ_=>t1509) x0 (λx1 x2 x3 x4 x5=>(k_stepC x2 x3 x4 x1 x5)) (λx1 _ _ x4 x5=>(k_stepPan x4 x1 x5)) (λx1 x2 _ x4 x5=>(k_o_move x2 x4 x1 x5)) (λx1 x2 _ x4 x5=>(k_o_move x2 x4 x1 x5)) (λx1 x2 x3 x4 _ x6 x7=>(k_o_pick x4 x6 x1 x2 x3 x7)) (λx1 x2 _ x4 x5=>(k_o_alloc x2 x4 x1 x5)) (λx1 x2 x3 _ x5 x6=>(k_o_box x3 x5 x1 x2 x6)) (λx1 x2 x3 _ x5 x6=>(k_o_build x3 x5 x1 x2 x6)) (λx1 x2 x3 x4 _ x6 x7=>(k_o_buildSlice x4 x6 x1 x2 x3 x7)) (λx1 x2 x3 _ x5 x6=>(k_o_load x3 x5 x1 x2 x6)) (λx1 x2 x3 x4 _ x6 x7=>(k_o_store x4 x6 x1 x2 x3 x7)) (λx1 x2 _ x4 x5=>(k_o_nilCheck x2 x4 x1 x5)) (λx1 x2 x3 x4 _ x6 _ x8 x9=>(k_o_binOp x6 x8 x1 x2 x3 x4 x9)) (λx1 _ x3 x4 _ x6 x7=>(k_o_unOp x4 x6 x1 x3 x7)) (λx1 x2 x3 x4 _ x6 x7=>(k_o_convert x4 x6 x1 x2 x3 x7)) (λx1 x2 x3 _ x5 x6=>(k_o_makeInterface x3 x5 x1 x2 x6)) (λx1 x2 x3 x4 _ x6 x7=>(k_o_makeFunc x4 x6 x1 x2 x3 x7)) (λx1 x2 x3 _ x5 x6=>(k_mapF x3 x5 x1 x2 x6)) (λx1 x2 x3 x4 _ x6 x7=>(k_o_makeSlice x4 x6 x1 x2 x3 x7)) (λx1 x2 x3 x4 x5 x6 _ x8 x9=>(k_o_slice x6 x8 x1 x2 x3 x4 x5 x9)) (λx1 x2 x3 x4 _ x6 x7=>(k_o_fieldAddr x4 x6 x1 x2 x3 x7)) (λx1 x2 x3 x4 _ x6 x7=>(k_o_field x4 x6 x1 x2 x3 x7)) (λx1 x2 x3 x4 _ x6 x7=>(k_o_indexAddr x4 x6 x1 x2 x3 x7)) (λx1 x2 x3 x4 _ x6 x7=>(k_o_index x4 x6 x1 x2 x3 x7)) (λx1 x2 x3 x4 x5 _ x7 x8=>(k_o_lookup x5 x7 x1 x2 x3 x4 x8)) (λx1 x2 x3 x4 x5 _ x7 x8=>(k_o_mapUpdate x5 x7 x1 x2 x3 x4 x8)) (λx1 x2 x3 x4 x5 _ x7 x8=>(k_o_mapUpdate x5 x7 x1 x2 x3 x4 x8)) (λx1 x2 x3 x4 _ x6 x7=>(k_o_mapEntry x4 x6 x1 x2 x3 x7)) (λ_ x2 x3 x4 x5 _ x7 x8=>(k_o_entryStore x5 x7 x2 x3 x4 x8)) (λx1 x2 x3 _ x5 x6=>(k_o_extract x3 x5 x1 x2 x6)) (λx1 _ x3 x4 x5 _ x7 x8=>(k_o_typeAssert x5 x7 x1 x3 x4 x8)) (λ_ _ _ _ _=>none))) := by intro t; cases t <;> (intros; rfl)
def k_stepF : t1510 := (λx0=>(l566 x0))
theorem k_stepF_eq : @k_stepF = stepF := by
  delta k_stepF stepF
  simp only [l566_eq]
  rw [k_stepPan_eq, k_stepC_eq, k_o_extract_eq, k_o_typeAssert_eq, k_o_entryStore_eq, k_o_mapEntry_eq, k_o_mapUpdate_eq, k_o_lookup_eq, k_o_index_eq, k_o_indexAddr_eq, k_o_field_eq, k_o_fieldAddr_eq, k_o_slice_eq, k_o_makeSlice_eq, k_mapF_eq, k_o_makeFunc_eq, k_o_makeInterface_eq, k_o_convert_eq, k_o_unOp_eq, k_o_binOp_eq, k_o_nilCheck_eq, k_o_store_eq, k_o_load_eq, k_o_buildSlice_eq, k_o_build_eq, k_o_box_eq, k_o_alloc_eq, k_o_pick_eq, k_o_move_eq]
  all_goals kernel_rfl

abbrev t1511:=Oper → t8
abbrev t1512:=t14 → t1511
abbrev t1513:=Run → t1512
abbrev t1514:=Program → t1513
def k_stepOp' : t1514 := (λx0 x1 x2 x3 x4=>(k_stepF (Oper.op x3) x0 x1 x2 x4))
theorem k_stepOp'_eq : @k_stepOp' = stepOp' := by
  delta k_stepOp' stepOp'
  rw [k_stepF_eq]
  all_goals kernel_rfl

theorem k_stepOp_eq : @k_stepOp' = @stepOp := k_stepOp'_eq.trans stepOp'_eq
abbrev t1515:=Bool → t1459
def l565 : t1515 := (λx0=>(@Bool.rec (λ_=>t1459) (λx1 x2 x3 x4 x5 x6 x7 x8 x9 x10=>(@Option.rec t14 (λ_=>t151) none (λx11=>(x6 x1 x2 x3 (Fr.mk x7 x11 x9 x10) x4)) (k_putE x7 (Oper.dst x5) (CV.tup []) x8))) (λx1 x2 x3 x4 x5 x6 x7 x8 x9 x10=>(l558 (k_stepOp' x1 x2 x8 x5 x4) x1 x2 x3 x4 x5 x6 x7 x8 x9 x10)) x0))
theorem l565_eq : ∀ x0 x1 x2 x3 x4 x5 x6 x7 x8 x9 x10, (Eq (l565 x0 x1 x2 x3 x4 x5 x6 x7 x8 x9 x10) (@Bool.rec (λ_=>t151) (@Option.rec t14 (λ_=>t151) none (λx11=>(x6 x1 x2 x3 (Fr.mk x7 x11 x9 x10) x4)) (k_putE x7 (Oper.dst x5) (CV.tup []) x8)) (l558 (k_stepOp' x1 x2 x8 x5 x4) x1 x2 x3 x4 x5 x6 x7 x8 x9 x10) x0)) := by intro t; cases t <;> (intros; rfl)
abbrev t1516:=t1427 → t151
abbrev t1517:=Oper → t1516
abbrev t1518:=S → t1517
abbrev t1519:=t161 → t1518
abbrev t1520:=Run → t1519
abbrev t1521:=Program → t1520
abbrev t1522:=Fr → t1521
def l583 : t1522 := (λx0=>(@Fr.rec (λ_=>t1521) (λx1 x2 x3 x4 x5 x6 x7 x8 x9 x10=>(@Option.rec Bool (λ_=>t151) none (λx11=>(l565 x11 x5 x6 x7 x8 x9 x10 x1 x2 x3 x4)) (k_guardV x7 x2 x9))) x0))
theorem l583_eq : ∀ x0 x1 x2 x3 x4 x5 x6, (Eq (l583 x0 x1 x2 x3 x4 x5 x6) (@Fr.rec (λ_=>t151) (λx7 x8 x9 x10=>(@Option.rec Bool (λ_=>t151) none (λx11=>(l565 x11 x1 x2 x3 x4 x5 x6 x7 x8 x9 x10)) (k_guardV x3 x8 x5))) x0)) := by intro t; cases t <;> (intros; rfl)
abbrev t1523:=t161 → t1425
abbrev t1524:=Run → t1523
abbrev t1525:=Program → t1524
def k_regS' : t1525 := (λx0 x1 x2 x3 x4 x5=>(@List.rec Oper (λ_=>t1427) (λ_ _ _ x9 x10=>(some (Ex.normal, (x9, x10)))) (λx6 _ x8 x9 x10 x11 x12 x13=>(l583 x12 x9 x10 x11 x13 x6 x8)) x3 x0 x1 x2 x4 x5))
theorem k_regS'_law : ∀ x0 x1 x2 x3 x4 x5, (Eq (k_regS' x1 x2 x3 x0 x4 x5) (regS' x1 x2 x3 x0 x4 x5)) := by
  intro t
  induction t with
  | nil  =>
    intro z0 z1 z2 z3 z4
    show ((fun (_ : Program) (_ : Run) (_ : t161) (x3 : Fr) (x4 : S) => (some (Ex.normal, (x3, x4)))) z0 z1 z2 z3 z4) = _
    conv => rhs; rw [Ev.regS'.eq_def]
    all_goals kernel_rfl
  | cons y0 y1 ih0 =>
    intro z0 z1 z2 z3 z4
    have e0 : (fun (x0 : Program) (x1 : Run) (x2 : t161) (x3 : Fr) (x4 : S) => (k_regS' x0 x1 x2 y1 x3 x4)) = (fun (x0 : Program) (x1 : Run) (x2 : t161) (x3 : Fr) (x4 : S) => (regS' x0 x1 x2 y1 x3 x4)) := by
      funext z0 z1 z2 z3 z4; exact ih0 z0 z1 z2 z3 z4
    show ((fun (x0 : Oper) (_ : t161) (x2 : t1427) (x3 : Program) (x4 : Run) (x5 : t161) (x6 : Fr) (x7 : S) => (l583 x6 x3 x4 x5 x7 x0 x2)) y0 y1 (fun (x0 : Program) (x1 : Run) (x2 : t161) (x3 : Fr) (x4 : S) => (k_regS' x0 x1 x2 y1 x3 x4)) z0 z1 z2 z3 z4) = _
    rw [e0]
    conv => rhs; rw [Ev.regS'.eq_def]
    try simp only [l583_eq, l565_eq, l557_eq, l558_eq]
    try rw [k_putE_eq]
    try rw [k_regQ_eq]
    try rw [k_stepOp_eq]
    try rw [k_guardV_eq]
    all_goals kernel_rfl
theorem k_regS'_eq : @k_regS' = regS' := by
  funext a0 a1 a2 a3 a4 a5; exact k_regS'_law a3 a0 a1 a2 a4 a5
theorem k_regS_eq : @k_regS' = @regS := k_regS'_eq.trans regS'_eq
abbrev t1526:=List Nat
abbrev t1527:=List Lg
abbrev t1528:=t1527 → t1424
abbrev t1529:=t1526 → t1528
abbrev t1530:=Nat → t1529
abbrev t1531:=t161 → t1530
abbrev t1532:=Run → t1531
abbrev t1533:=Program → t1532
abbrev t1534:=t1526 → t151
abbrev t1535:=t164 → t1534
abbrev t1536:=t141 → t1535
abbrev t1537:=Nat → t1536
abbrev t1538:=t1533 → t1537
abbrev t1539:=S → t1538
abbrev t1540:=t1527 → t1539
abbrev t1541:=Nat → t1540
abbrev t1542:=t161 → t1541
abbrev t1543:=Run → t1542
abbrev t1544:=Program → t1543
abbrev t1545:=t165 → t1544
def l584 : t1545 := (λx0=>(@Option.rec t14 (λ_=>t1544) (λ_ _ _ _ _ _ _ _ _ _ _=>none) (λx1 x2 x3 x4 x5 x6 x7 x8 x9 x10 x11 x12=>(x8 x2 x3 x4 (Nat.add x5 (nat_lit 1)) x12 x6 (Fr.mk x9 x1 x10 x11) x7)) x0))
theorem l584_eq : ∀ x0 x1 x2 x3 x4 x5 x6 x7 x8 x9 x10 x11, (Eq (l584 x0 x1 x2 x3 x4 x5 x6 x7 x8 x9 x10 x11) (@Option.rec t14 (λ_=>t151) none (λx12=>(x7 x1 x2 x3 (Nat.add x4 (nat_lit 1)) x11 x5 (Fr.mk x8 x12 x9 x10) x6)) x0)) := by intro t; cases t <;> (intros; rfl)
abbrev t1546:=Nat → t151
abbrev t1547:=t1546 → t151
abbrev t1548:=Nat → t1547
def k_fN_433 : t1548 := (λx0 x1=>(@Nat.rec (λ_=>t151) (x1 (nat_lit 0)) (λx2 _=>((λx4=>(x1 (Nat.add x4 (nat_lit 1)))) x2)) x0))
theorem k_fN_433_eq : @k_fN_433 = (@fN t148) := by
  delta k_fN_433 fN
  all_goals kernel_rfl

abbrev t1549:=Nat → t1546
abbrev t1550:=Nat → t1549
abbrev t1551:=t46 → t1550
abbrev t1552:=Nat → t1551
abbrev t1553:=Nat → t1552
abbrev t1554:=t1526 → t1553
abbrev t1555:=t164 → t1554
abbrev t1556:=t141 → t1555
abbrev t1557:=Nat → t1556
abbrev t1558:=t1533 → t1557
abbrev t1559:=t1527 → t1558
abbrev t1560:=Nat → t1559
abbrev t1561:=t161 → t1560
abbrev t1562:=Run → t1561
abbrev t1563:=Program → t1562
abbrev t1564:=t165 → t1563
def l585 : t1564 := (λx0=>(@Option.rec t14 (λ_=>t1563) (λ_ _ _ _ _ _ _ _ _ _ _ _ _ _ _ _=>none) (λx1 x2 x3 x4 x5 x6 x7 x8 x9 x10 x11 x12 x13 x14 x15 x16 x17=>(k_fN_433 (Nat.lor x12 x16) (λx18=>(k_fN_433 (Nat.lor x13 x17) (λx19=>(x7 x2 x3 x4 (Nat.add x5 (nat_lit 1)) x11 (@Bool.rec (λ_=>t1527) ((Lg.mk x5 x16 x17) :: x6) x6 (Nat.beq (Nat.lor x16 x17) (nat_lit 0))) (Fr.mk x8 x1 x9 x10) (S.mk x14 x15 x18 x19))))))) x0))
theorem l585_eq : ∀ x0 x1 x2 x3 x4 x5 x6 x7 x8 x9 x10 x11 x12 x13 x14 x15 x16, (Eq (l585 x0 x1 x2 x3 x4 x5 x6 x7 x8 x9 x10 x11 x12 x13 x14 x15 x16) (@Option.rec t14 (λ_=>t151) none (λx17=>(k_fN_433 (Nat.lor x11 x15) (λx18=>(k_fN_433 (Nat.lor x12 x16) (λx19=>(x6 x1 x2 x3 (Nat.add x4 (nat_lit 1)) x10 (@Bool.rec (λ_=>t1527) ((Lg.mk x4 x15 x16) :: x5) x5 (Nat.beq (Nat.lor x15 x16) (nat_lit 0))) (Fr.mk x7 x17 x8 x9) (S.mk x13 x14 x18 x19))))))) x0)) := by intro t; cases t <;> (intros; rfl)
abbrev t1565:=CV → t1551
abbrev t1566:=Nat → t1565
abbrev t1567:=Nat → t1566
abbrev t1568:=t1526 → t1567
abbrev t1569:=t164 → t1568
abbrev t1570:=t141 → t1569
abbrev t1571:=t14 → t1570
abbrev t1572:=Nat → t1571
abbrev t1573:=t1533 → t1572
abbrev t1574:=Oper → t1573
abbrev t1575:=t1527 → t1574
abbrev t1576:=Nat → t1575
abbrev t1577:=t161 → t1576
abbrev t1578:=Run → t1577
abbrev t1579:=Program → t1578
abbrev t1580:=Bool → t1579
def l586 : t1580 := (λx0=>(@Bool.rec (λ_=>t1579) (λ_ _ _ _ _ _ _ _ _ _ _ _ _ _ _ _ _ _ _=>none) (λx1 x2 x3 x4 x5 x6 x7 x8 x9 x10 x11 x12 x13 x14 x15 x16 x17 x18 x19=>(l585 (k_putE x8 (Oper.dst x6) x15 x9) x1 x2 x3 x4 x5 x7 x8 x10 x11 x12 x13 x14 x16 x17 x18 x19)) x0))
theorem l586_eq : ∀ x0 x1 x2 x3 x4 x5 x6 x7 x8 x9 x10 x11 x12 x13 x14 x15 x16 x17 x18 x19, (Eq (l586 x0 x1 x2 x3 x4 x5 x6 x7 x8 x9 x10 x11 x12 x13 x14 x15 x16 x17 x18 x19) (@Bool.rec (λ_=>t151) none (l585 (k_putE x8 (Oper.dst x6) x15 x9) x1 x2 x3 x4 x5 x7 x8 x10 x11 x12 x13 x14 x16 x17 x18 x19) x0)) := by intro t; cases t <;> (intros; rfl)
abbrev t1581:=Nat → t163
abbrev t1582:=t1581 → Bool
abbrev t1583:=Nat → t1582
abbrev t1584:=Nat → t1583
abbrev t1585:=Nat → t1584
abbrev t1586:=Lg → t1585
def l588 : t1586 := (λx0=>(@Lg.rec (λ_=>t1585) (λx1 x2 x3 x4 x5 x6 x7=>(@Bool.rec (λ_=>Bool) Bool.false (x7 x4 x5 x6) (@Bool.rec (λ_=>Bool) (@Bool.rec (λ_=>Bool) Bool.false (Nat.beq (Nat.land x5 x3) (nat_lit 0)) (Nat.beq (Nat.land x6 (Nat.lor x2 x3)) (nat_lit 0))) Bool.true (Nat.testBit x4 x1)))) x0))
theorem l588_eq : ∀ x0 x1 x2 x3 x4, (Eq (l588 x0 x1 x2 x3 x4) (@Lg.rec (λ_=>Bool) (λx5 x6 x7=>(@Bool.rec (λ_=>Bool) Bool.false (x4 x1 x2 x3) (@Bool.rec (λ_=>Bool) (@Bool.rec (λ_=>Bool) Bool.false (Nat.beq (Nat.land x2 x7) (nat_lit 0)) (Nat.beq (Nat.land x3 (Nat.lor x6 x7)) (nat_lit 0))) Bool.true (Nat.testBit x1 x5)))) x0)) := by intro t; cases t <;> (intros; rfl)
abbrev t1587:=t1527 → Bool
abbrev t1588:=Nat → t1587
abbrev t1589:=Nat → t1588
abbrev t1590:=Nat → t1589
def k_apart : t1590 := (λx0 x1 x2 x3=>(@List.rec Lg (λ_=>t1581) (λ_ _ _=>Bool.true) (λx4 _ x6 x7 x8 x9=>(l588 x4 x7 x8 x9 x6)) x3 x0 x1 x2))
theorem k_apart_law : ∀ x0 x1 x2 x3, (Eq (k_apart x1 x2 x3 x0) (apart x1 x2 x3 x0)) := by
  intro t
  induction t with
  | nil  =>
    intro z0 z1 z2
    show ((fun (_ : Nat) (_ : Nat) (_ : Nat) => Bool.true) z0 z1 z2) = _
    conv => rhs; rw [Ev.apart.eq_def]
    all_goals kernel_rfl
  | cons y0 y1 ih0 =>
    intro z0 z1 z2
    have e0 : (fun (x0 : Nat) (x1 : Nat) (x2 : Nat) => (k_apart x0 x1 x2 y1)) = (fun (x0 : Nat) (x1 : Nat) (x2 : Nat) => (apart x0 x1 x2 y1)) := by
      funext z0 z1 z2; exact ih0 z0 z1 z2
    show ((fun (x0 : Lg) (_ : t1527) (x2 : t1581) (x3 : Nat) (x4 : Nat) (x5 : Nat) => (l588 x0 x3 x4 x5 x2)) y0 y1 (fun (x0 : Nat) (x1 : Nat) (x2 : Nat) => (k_apart x0 x1 x2 y1)) z0 z1 z2) = _
    rw [e0]
    conv => rhs; rw [Ev.apart.eq_def]
    try simp only [l588_eq]
    all_goals kernel_rfl
theorem k_apart_eq : @k_apart = apart := by
  funext a0 a1 a2 a3; exact k_apart_law a3 a0 a1 a2
abbrev t1591:=CV → t151
abbrev t1592:=Nat → t1591
abbrev t1593:=Nat → t1592
abbrev t1594:=t1526 → t1593
abbrev t1595:=Nat → t1594
abbrev t1596:=t164 → t1595
abbrev t1597:=t141 → t1596
abbrev t1598:=t14 → t1597
abbrev t1599:=Nat → t1598
abbrev t1600:=t1533 → t1599
abbrev t1601:=Oper → t1600
abbrev t1602:=t1527 → t1601
abbrev t1603:=Nat → t1602
abbrev t1604:=t161 → t1603
abbrev t1605:=Run → t1604
abbrev t1606:=Program → t1605
abbrev t1607:=S → t1606
def l587 : t1607 := (λx0=>(@S.rec (λ_=>t1606) (λx1 x2 x3 x4 x5 x6 x7 x8 x9 x10 x11 x12 x13 x14 x15 x16 x17 x18 x19 x20=>(l586 (k_apart x16 x3 x4 x9) x5 x6 x7 x8 x9 x10 x11 x12 x13 x14 x15 x17 x18 x19 x20 x1 x2 x3 x4)) x0))
theorem l587_eq : ∀ x0 x1 x2 x3 x4 x5 x6 x7 x8 x9 x10 x11 x12 x13 x14 x15 x16, (Eq (l587 x0 x1 x2 x3 x4 x5 x6 x7 x8 x9 x10 x11 x12 x13 x14 x15 x16) (@S.rec (λ_=>t151) (λx17 x18 x19 x20=>(l586 (k_apart x12 x19 x20 x5) x1 x2 x3 x4 x5 x6 x7 x8 x9 x10 x11 x13 x14 x15 x16 x17 x18 x19 x20)) x0)) := by intro t; cases t <;> (intros; rfl)
abbrev t1608:=t164 → t1565
abbrev t1609:=t141 → t1608
abbrev t1610:=Nat → t1609
abbrev t1611:=t165 → t1610
def l589 : t1611 := (λx0=>(@Option.rec t14 (λ_=>t1610) (λ_ _ _ _ _ _ _ _=>none) (λx1 x2 x3 x4 x5 x6 x7 x8 x9=>(some ((Ex.pan x5), ((Fr.mk x2 x1 x3 x4), (S.mk x6 x7 x9 x8))))) x0))
theorem l589_eq : ∀ x0 x1 x2 x3 x4 x5 x6 x7 x8, (Eq (l589 x0 x1 x2 x3 x4 x5 x6 x7 x8) (@methV._sparseCasesOn_2 t14 (λ_=>t151) x0 (λx9=>(some ((Ex.pan x4), ((Fr.mk x1 x9 x2 x3), (S.mk x5 x6 x8 x7))))) (λ_=>none))) := by intro t; cases t <;> (intros; rfl)
abbrev t1612:=Option Tmp
abbrev t1613:=t161 → t166
def k_wipe : t1613 := (λx0 x1=>(@List.rec Oper (λ_=>t166) (λx2=>(some x2)) (λx2 _ x4 x5=>(@Option.rec Tmp (λ_=>t165) (x4 x5) (λx6=>(@Option.rec t14 (λ_=>t165) none (λx7=>(x4 x7)) (setCV (nat_lit 24) x5 x6 none))) (Oper.dst x2))) x0 x1))
theorem k_wipe_law : ∀ x0 x1, (Eq (k_wipe x0 x1) (wipe x0 x1)) := by
  intro t
  induction t with
  | nil  =>
    intro z0
    show ((fun (x0 : t14) => (some x0)) z0) = _
    conv => rhs; rw [Ev.wipe.eq_def]
    all_goals kernel_rfl
  | cons y0 y1 ih0 =>
    intro z0
    have e0 : (fun (x0 : t14) => (k_wipe y1 x0)) = (fun (x0 : t14) => (wipe y1 x0)) := by
      funext z0; exact ih0 z0
    show ((fun (x0 : Oper) (_ : t161) (x2 : t166) (x3 : t14) => (@Option.rec Tmp (fun (_ : t1612) => t165) (x2 x3) (fun (x4 : Tmp) => (@Option.rec t14 (fun (_ : t165) => t165) none (fun (x5 : t14) => (x2 x5)) (setCV (nat_lit 24) x3 x4 none))) (Oper.dst x0))) y0 y1 (fun (x0 : t14) => (k_wipe y1 x0)) z0) = _
    rw [e0]
    conv => rhs; rw [Ev.wipe.eq_def]
    try rw [setCV_eq]
    all_goals kernel_rfl
theorem k_wipe_eq : @k_wipe = wipe := by
  funext a0 a1; exact k_wipe_law a0 a1
abbrev t1614:=t46 → t1549
abbrev t1615:=CV → t1614
abbrev t1616:=t164 → t1615
abbrev t1617:=t141 → t1616
abbrev t1618:=t14 → t1617
abbrev t1619:=Nat → t1618
abbrev t1620:=t161 → t1619
abbrev t1621:=t164 → t1620
def l590 : t1621 := (λx0=>(@Option.rec Nat (λ_=>t1620) (λ_ _ _ _ _ _ _ _ _=>none) (λx1 x2 x3 x4 x5 x6 x7 x8 x9 x10=>(l589 (k_wipe x2 x4) x3 x5 x6 x7 x8 x9 x10 x1)) x0))
theorem l590_eq : ∀ x0 x1 x2 x3 x4 x5 x6 x7 x8 x9, (Eq (l590 x0 x1 x2 x3 x4 x5 x6 x7 x8 x9) (@methV._sparseCasesOn_2 Nat (λ_=>t151) x0 (λx10=>(l589 (k_wipe x1 x3) x2 x4 x5 x6 x7 x8 x9 x10)) (λ_=>none))) := by intro t; cases t <;> (intros; rfl)
abbrev t1622:=Nat → t164
abbrev t1623:=t1622 → t164
abbrev t1624:=Nat → t1623
def k_fN_Nat : t1624 := (λx0 x1=>(@Nat.rec (λ_=>t164) (x1 (nat_lit 0)) (λx2 _=>((λx4=>(x1 (Nat.add x4 (nat_lit 1)))) x2)) x0))
theorem k_fN_Nat_eq : @k_fN_Nat = (@fN Nat) := by
  delta k_fN_Nat fN
  all_goals kernel_rfl

abbrev t1625:=S → t164
abbrev t1626:=t14 → t1625
abbrev t1627:=Nat → t1626
abbrev t1628:=t1527 → t1627
abbrev t1629:=t1526 → t1628
abbrev t1630:=Nat → t1629
abbrev t1631:=Nat → t1630
abbrev t1632:=t161 → t1631
abbrev t1633:=Run → t1632
abbrev t1634:=Program → t1633
abbrev t1635:=Nat → t1622
abbrev t1636:=Nat → t1635
abbrev t1637:=Nat → t1636
abbrev t1638:=Nat → t1637
abbrev t1639:=t46 → t1638
abbrev t1640:=t1526 → t1639
abbrev t1641:=t1634 → t1640
abbrev t1642:=Nat → t1641
abbrev t1643:=t1527 → t1642
abbrev t1644:=Nat → t1643
abbrev t1645:=Nat → t1644
abbrev t1646:=t161 → t1645
abbrev t1647:=Run → t1646
abbrev t1648:=Program → t1647
abbrev t1649:=t165 → t1648
def l592 : t1649 := (λx0=>(@Option.rec t14 (λ_=>t1648) (λ_ _ _ _ _ _ _ _ _ _ _ _ _ _ _=>none) (λx1 x2 x3 x4 x5 x6 x7 x8 x9 x10 x11 x12 x13 x14 x15 x16=>(k_fN_Nat (Nat.lor x13 x15) (λx17=>(x9 x2 x3 x4 x5 (Nat.add x6 (nat_lit 1)) x10 (@Bool.rec (λ_=>t1527) ((Lg.mk x6 x15 x16) :: x7) x7 (Nat.beq x15 (nat_lit 0))) x8 x1 (S.mk x11 x12 x17 x14))))) x0))
theorem l592_eq : ∀ x0 x1 x2 x3 x4 x5 x6 x7 x8 x9 x10 x11 x12 x13 x14 x15, (Eq (l592 x0 x1 x2 x3 x4 x5 x6 x7 x8 x9 x10 x11 x12 x13 x14 x15) (@Option.rec t14 (λ_=>t164) none (λx16=>(k_fN_Nat (Nat.lor x12 x14) (λx17=>(x8 x1 x2 x3 x4 (Nat.add x5 (nat_lit 1)) x9 (@Bool.rec (λ_=>t1527) ((Lg.mk x5 x14 x15) :: x6) x6 (Nat.beq x14 (nat_lit 0))) x7 x16 (S.mk x10 x11 x17 x13))))) x0)) := by intro t; cases t <;> (intros; rfl)
abbrev t1650:=CV → t1635
abbrev t1651:=Nat → t1650
abbrev t1652:=Nat → t1651
abbrev t1653:=Nat → t1652
abbrev t1654:=t46 → t1653
abbrev t1655:=t1526 → t1654
abbrev t1656:=t1634 → t1655
abbrev t1657:=Oper → t1656
abbrev t1658:=t14 → t1657
abbrev t1659:=Nat → t1658
abbrev t1660:=t1527 → t1659
abbrev t1661:=Nat → t1660
abbrev t1662:=Nat → t1661
abbrev t1663:=t161 → t1662
abbrev t1664:=Run → t1663
abbrev t1665:=Program → t1664
abbrev t1666:=Bool → t1665
def l593 : t1666 := (λx0=>(@Bool.rec (λ_=>t1665) (λ_ _ _ _ _ _ _ _ _ _ _ _ _ _ _ _ _ _=>none) (λx1 x2 x3 x4 x5 x6 x7 x8 x9 x10 x11 x12 x13 x14 x15 x16 x17 x18=>(l592 (k_putE x7 (Oper.dst x9) x16 x8) x1 x2 x3 x4 x5 x6 x7 x10 x11 x12 x13 x14 x15 x17 x18)) x0))
theorem l593_eq : ∀ x0 x1 x2 x3 x4 x5 x6 x7 x8 x9 x10 x11 x12 x13 x14 x15 x16 x17 x18, (Eq (l593 x0 x1 x2 x3 x4 x5 x6 x7 x8 x9 x10 x11 x12 x13 x14 x15 x16 x17 x18) (@Bool.rec (λ_=>t164) none (l592 (k_putE x7 (Oper.dst x9) x16 x8) x1 x2 x3 x4 x5 x6 x7 x10 x11 x12 x13 x14 x15 x17 x18) x0)) := by intro t; cases t <;> (intros; rfl)
abbrev t1667:=Nat → t726
abbrev t1668:=Nat → t1667
abbrev t1669:=Nat → t1668
abbrev t1670:=t46 → t1669
abbrev t1671:=t1526 → t1670
abbrev t1672:=Nat → t1671
abbrev t1673:=t1634 → t1672
abbrev t1674:=Oper → t1673
abbrev t1675:=t14 → t1674
abbrev t1676:=Nat → t1675
abbrev t1677:=t1527 → t1676
abbrev t1678:=Nat → t1677
abbrev t1679:=Nat → t1678
abbrev t1680:=t161 → t1679
abbrev t1681:=Run → t1680
abbrev t1682:=Program → t1681
abbrev t1683:=S → t1682
def l594 : t1683 := (λx0=>(@S.rec (λ_=>t1682) (λ_ x2 x3 x4 x5 x6 x7 x8 x9 x10 x11 x12 x13 x14 x15 x16 x17 x18 x19 x20 x21=>(l593 (@Bool.rec (λ_=>Bool) Bool.false (Nat.beq x18 x2) (@Bool.rec (λ_=>Bool) Bool.false (Nat.beq x4 (nat_lit 0)) (k_apart x15 x3 x4 x10))) x5 x6 x7 x8 x9 x10 x11 x12 x13 x14 x16 x17 x18 x19 x20 x21 x3 x4)) x0))
theorem l594_eq : ∀ x0 x1 x2 x3 x4 x5 x6 x7 x8 x9 x10 x11 x12 x13 x14 x15 x16 x17, (Eq (l594 x0 x1 x2 x3 x4 x5 x6 x7 x8 x9 x10 x11 x12 x13 x14 x15 x16 x17) (@S.rec (λ_=>t164) (λ_ x19 x20 x21=>(l593 (@Bool.rec (λ_=>Bool) Bool.false (Nat.beq x14 x19) (@Bool.rec (λ_=>Bool) Bool.false (Nat.beq x21 (nat_lit 0)) (k_apart x11 x20 x21 x6))) x1 x2 x3 x4 x5 x6 x7 x8 x9 x10 x12 x13 x14 x15 x16 x17 x20 x21)) x0)) := by intro t; cases t <;> (intros; rfl)
abbrev t1684:=t46 → t1636
abbrev t1685:=t1526 → t1684
abbrev t1686:=Nat → t1685
abbrev t1687:=t1634 → t1686
abbrev t1688:=Oper → t1687
abbrev t1689:=t14 → t1688
abbrev t1690:=Nat → t1689
abbrev t1691:=t1527 → t1690
abbrev t1692:=Nat → t1691
abbrev t1693:=Nat → t1692
abbrev t1694:=t161 → t1693
abbrev t1695:=Run → t1694
abbrev t1696:=Program → t1695
abbrev t1697:=Ret → t1696
def l595 : t1697 := (λx0=>(@Ret.rec (λ_=>t1696) (λx1 x2 x3 x4 x5 x6 x7 x8 x9 x10 x11 x12 x13 x14 x15 x16 x17 x18=>(l594 x2 x3 x4 x5 x6 x7 x8 x9 x10 x11 x12 x13 x14 x15 x16 x17 x18 x1)) (λ_ _ _ _ _ _ _ _ _ _ _ _ _ _ _ _ _ _=>none) x0))
theorem l595_eq : ∀ x0 x1 x2 x3 x4 x5 x6 x7 x8 x9 x10 x11 x12 x13 x14 x15 x16, (Eq (l595 x0 x1 x2 x3 x4 x5 x6 x7 x8 x9 x10 x11 x12 x13 x14 x15 x16) (@regP._sparseCasesOn_2 (λ_=>t164) x0 (λx17 x18=>(l594 x18 x1 x2 x3 x4 x5 x6 x7 x8 x9 x10 x11 x12 x13 x14 x15 x16 x17)) (λ_=>none))) := by intro t; cases t <;> (intros; rfl)
abbrev t1698:=t4 → t1696
def l596 : t1698 := (λx0=>(@Option.rec Ret (λ_=>t1696) (λ_ _ _ _ _ _ _ _ _ _ _ _ _ _ _ _=>none) (λx1 x2 x3 x4 x5 x6 x7 x8 x9 x10 x11 x12 x13 x14 x15 x16 x17=>(l595 x1 x2 x3 x4 x5 x6 x7 x8 x9 x10 x11 x12 x13 x14 x15 x16 x17)) x0))
theorem l596_eq : ∀ x0 x1 x2 x3 x4 x5 x6 x7 x8 x9 x10 x11 x12 x13 x14 x15 x16, (Eq (l596 x0 x1 x2 x3 x4 x5 x6 x7 x8 x9 x10 x11 x12 x13 x14 x15 x16) (@methV._sparseCasesOn_2 Ret (λ_=>t164) x0 (λx17=>(l595 x17 x1 x2 x3 x4 x5 x6 x7 x8 x9 x10 x11 x12 x13 x14 x15 x16)) (λ_=>none))) := by intro t; cases t <;> (intros; rfl)
abbrev t1699:=t1526 → t164
abbrev t1700:=Nat → t1699
abbrev t1701:=t1634 → t1700
abbrev t1702:=Oper → t1701
abbrev t1703:=t14 → t1702
abbrev t1704:=Nat → t1703
abbrev t1705:=t1527 → t1704
abbrev t1706:=Nat → t1705
abbrev t1707:=Nat → t1706
abbrev t1708:=t161 → t1707
abbrev t1709:=Run → t1708
abbrev t1710:=Program → t1709
abbrev t1711:=S → t1710
def l597 : t1711 := (λx0=>(@S.rec (λ_=>t1710) (λx1 x2 x3 x4 x5 x6 x7 x8 x9 x10 x11 x12 x13 x14 x15 x16=>(l596 (k_stepOp' x5 x6 x12 x13 (S.mk x1 x2 (nat_lit 0) (nat_lit 0))) x5 x6 x7 x8 x9 x10 x11 x12 x13 x14 x15 x16 x1 x2 x3 x4)) x0))
theorem l597_eq : ∀ x0 x1 x2 x3 x4 x5 x6 x7 x8 x9 x10 x11 x12, (Eq (l597 x0 x1 x2 x3 x4 x5 x6 x7 x8 x9 x10 x11 x12) (@S.rec (λ_=>t164) (λx13 x14 x15 x16=>(l596 (k_stepOp' x1 x2 x8 x9 (S.mk x13 x14 (nat_lit 0) (nat_lit 0))) x1 x2 x3 x4 x5 x6 x7 x8 x9 x10 x11 x12 x13 x14 x15 x16)) x0)) := by intro t; cases t <;> (intros; rfl)
def l599 : t1308 := (λx0=>(@Op.rec (λ_=>Bool) (λ_=>Bool.false) (λ_=>Bool.false) (λ_ _ _=>Bool.false) (λ_=>Bool.false) (λ_ _=>Bool.false) (λ_ _=>Bool.false) (λ_ _ _=>Bool.false) (λ_ _ _ _=>Bool.false) (λ_ _=>Bool.false) (λ_ _ _=>Bool.false) (λ_=>Bool.false) (λ_=>Bool.false) (λ_=>Bool.false) (λ_ _ _ _ _=>Bool.false) (λ_ _ _=>Bool.false) (λ_ _ _=>Bool.false) (λ_ _=>Bool.false) (λ_ _=>Bool.false) (λ_ _ _=>Bool.false) (λ_ _=>Bool.false) (λ_ _=>Bool.false) (λ_ _ _=>Bool.false) (λ_ _ _ _ _=>Bool.false) (λ_ _ _=>Bool.false) (λ_ _ _=>Bool.false) (λ_ _ _=>Bool.false) (λ_ _ _=>Bool.false) (λ_ _ _ _=>Bool.false) (λ_ _ _ _=>Bool.false) (λ_ _ _=>Bool.false) (λ_ _ _ _=>Bool.false) (λ_ _=>Bool.false) (λ_ _=>Bool.false) (λ_=>Bool.false) (λ_ _ _ _=>Bool.false) (λ_ _=>Bool.false) (λ_=>Bool.false) (λ_=>Bool.false) (λ_=>Bool.true) (λ_=>Bool.false) (λ_ _=>Bool.false) (λ_ _ _=>Bool.false) (λ_ _=>Bool.false) x0))
theorem l599_eq : ∀ x0, (Eq (l599 x0) (@regS._sparseCasesOn_5 (λ_=>Bool) x0 (λ_=>Bool.true) (λ_=>Bool.false))) := by intro t; cases t <;> (intros; rfl)
def k_isDefer : t1308 := (λx0=>(l599 x0))
theorem k_isDefer_eq : @k_isDefer = isDefer := by
  delta k_isDefer isDefer
  simp only [l599_eq]
  all_goals kernel_rfl

abbrev t1712:=t1526 → t1622
abbrev t1713:=t1634 → t1712
abbrev t1714:=Oper → t1713
abbrev t1715:=S → t1714
abbrev t1716:=t14 → t1715
abbrev t1717:=Nat → t1716
abbrev t1718:=t1527 → t1717
abbrev t1719:=Nat → t1718
abbrev t1720:=Nat → t1719
abbrev t1721:=t161 → t1720
abbrev t1722:=Run → t1721
abbrev t1723:=Program → t1722
abbrev t1724:=Bool → t1723
def l598 : t1724 := (λx0=>(@Bool.rec (λ_=>t1723) (λx1 x2 x3 x4 x5 x6 x7 x8 x9 x10 x11 x12 _=>(@Option.rec t14 (λ_=>t164) none (λx14=>(x11 x1 x2 x3 x4 (Nat.add x5 (nat_lit 1)) x12 x6 x7 x14 x9)) (k_putE x7 (Oper.dst x10) (CV.tup []) x8))) (λx1 x2 x3 x4 x5 x6 x7 x8 x9 x10 x11 x12 x13=>(@Bool.rec (λ_=>t164) (l597 x9 x1 x2 x3 x4 x5 x6 x7 x8 x10 x11 x13 x12) none (k_isDefer (Oper.op x10)))) x0))
theorem l598_eq : ∀ x0 x1 x2 x3 x4 x5 x6 x7 x8 x9 x10 x11 x12 x13, (Eq (l598 x0 x1 x2 x3 x4 x5 x6 x7 x8 x9 x10 x11 x12 x13) (@Bool.rec (λ_=>t164) (@Option.rec t14 (λ_=>t164) none (λx14=>(x11 x1 x2 x3 x4 (Nat.add x5 (nat_lit 1)) x12 x6 x7 x14 x9)) (k_putE x7 (Oper.dst x10) (CV.tup []) x8)) (@Bool.rec (λ_=>t164) (l597 x9 x1 x2 x3 x4 x5 x6 x7 x8 x10 x11 x13 x12) none (k_isDefer (Oper.op x10))) x0)) := by intro t; cases t <;> (intros; rfl)
abbrev t1725:=S → t1702
abbrev t1726:=t14 → t1725
abbrev t1727:=Nat → t1726
abbrev t1728:=t1527 → t1727
abbrev t1729:=Nat → t1728
abbrev t1730:=Nat → t1729
abbrev t1731:=t161 → t1730
abbrev t1732:=Run → t1731
abbrev t1733:=Program → t1732
abbrev t1734:=t369 → t1733
def l600 : t1734 := (λx0=>(@Option.rec Bool (λ_=>t1733) (λ_ _ _ _ _ _ _ _ _ _ _ _ _=>none) (λx1 x2 x3 x4 x5 x6 x7 x8 x9 x10 x11 x12 x13 x14=>(l598 x1 x2 x3 x4 x5 x6 x7 x8 x9 x10 x11 x12 x14 x13)) x0))
theorem l600_eq : ∀ x0 x1 x2 x3 x4 x5 x6 x7 x8 x9 x10 x11 x12 x13, (Eq (l600 x0 x1 x2 x3 x4 x5 x6 x7 x8 x9 x10 x11 x12 x13) (@Option.rec Bool (λ_=>t164) none (λx14=>(l598 x14 x1 x2 x3 x4 x5 x6 x7 x8 x9 x10 x11 x13 x12)) x0)) := by intro t; cases t <;> (intros; rfl)
abbrev t1735:=Bool → t1733
def l601 : t1735 := (λx0=>(@Bool.rec (λ_=>t1733) (λx1 x2 x3 x4 x5 x6 x7 x8 x9 x10 x11 x12 x13=>(l600 (k_guardV x3 x8 x10) x1 x2 x3 x4 x5 x6 x7 x8 x9 x10 x11 x12 x13)) (λx1 x2 x3 x4 x5 x6 x7 x8 x9 _ x11 _ x13=>(x11 x1 x2 x3 x4 (Nat.add x5 (nat_lit 1)) x13 x6 x7 x8 x9)) x0))
theorem l601_eq : ∀ x0 x1 x2 x3 x4 x5 x6 x7 x8 x9 x10 x11 x12 x13, (Eq (l601 x0 x1 x2 x3 x4 x5 x6 x7 x8 x9 x10 x11 x12 x13) (@Bool.rec (λ_=>t164) (l600 (k_guardV x3 x8 x10) x1 x2 x3 x4 x5 x6 x7 x8 x9 x10 x11 x12 x13) (x11 x1 x2 x3 x4 (Nat.add x5 (nat_lit 1)) x13 x6 x7 x8 x9) x0)) := by intro t; cases t <;> (intros; rfl)
abbrev t1736:=t1634 → t164
abbrev t1737:=Oper → t1736
abbrev t1738:=S → t1737
abbrev t1739:=t14 → t1738
abbrev t1740:=Nat → t1739
abbrev t1741:=t1527 → t1740
abbrev t1742:=Nat → t1741
abbrev t1743:=Nat → t1742
abbrev t1744:=t161 → t1743
abbrev t1745:=Run → t1744
abbrev t1746:=Program → t1745
abbrev t1747:=t1526 → t1746
def l602 : t1747 := (λx0=>(@List.rec Nat (λ_=>t1746) (λ_ _ _ _ _ _ _ _ _ _ _=>none) (λx1 x2 _ x4 x5 x6 x7 x8 x9 x10 x11 x12 x13 x14=>(l601 (Nat.testBit x1 x7) x4 x5 x6 x7 x8 x9 x10 x11 x12 x13 x14 x1 x2)) x0))
theorem l602_eq : ∀ x0 x1 x2 x3 x4 x5 x6 x7 x8 x9 x10 x11, (Eq (l602 x0 x1 x2 x3 x4 x5 x6 x7 x8 x9 x10 x11) (@List.rec Nat (λ_=>t164) none (λx12 x13 _=>(l601 (Nat.testBit x12 x4) x1 x2 x3 x4 x5 x6 x7 x8 x9 x10 x11 x12 x13)) x0)) := by intro t; cases t <;> (intros; rfl)
abbrev t1748:=t161 → t1630
abbrev t1749:=Nat → t1748
abbrev t1750:=t161 → t1749
abbrev t1751:=Run → t1750
abbrev t1752:=Program → t1751
def k_regP : t1752 := (λx0 x1 x2 x3 x4 x5 x6 x7 x8 x9 x10=>(@List.rec Oper (λ_=>t1634) (λ_ _ _ _ _ _ _ _ _ x20=>(@S.rec (λ_=>t164) (λ_ _ x23 _=>(some x23)) x20)) (λx11 _ x13 x14 x15 x16 x17 x18 x19 x20 x21 x22 x23=>(l602 x19 x14 x15 x16 x17 x18 x20 x21 x22 x23 x11 x13)) x4 x0 x1 x2 x3 x5 x6 x7 x8 x9 x10))
theorem k_regP_law : ∀ x0 x1 x2 x3 x4 x5 x6 x7 x8 x9 x10, (Eq (k_regP x1 x2 x3 x4 x0 x5 x6 x7 x8 x9 x10) (regP x1 x2 x3 x4 x0 x5 x6 x7 x8 x9 x10)) := by
  intro t
  induction t with
  | nil  =>
    intro z0 z1 z2 z3 z4 z5 z6 z7 z8 z9
    show ((fun (_ : Program) (_ : Run) (_ : t161) (_ : Nat) (_ : Nat) (_ : t1526) (_ : t1527) (_ : Nat) (_ : t14) (x9 : S) => (@S.rec (fun (_ : S) => t164) (fun (_ : t46) (_ : Nat) (x12 : Nat) (_ : Nat) => (some x12)) x9)) z0 z1 z2 z3 z4 z5 z6 z7 z8 z9) = _
    conv => rhs; rw [Ev.regP.eq_def]
    all_goals kernel_rfl
  | cons y0 y1 ih0 =>
    intro z0 z1 z2 z3 z4 z5 z6 z7 z8 z9
    have e0 : (fun (x0 : Program) (x1 : Run) (x2 : t161) (x3 : Nat) (x4 : Nat) (x5 : t1526) (x6 : t1527) (x7 : Nat) (x8 : t14) (x9 : S) => (k_regP x0 x1 x2 x3 y1 x4 x5 x6 x7 x8 x9)) = (fun (x0 : Program) (x1 : Run) (x2 : t161) (x3 : Nat) (x4 : Nat) (x5 : t1526) (x6 : t1527) (x7 : Nat) (x8 : t14) (x9 : S) => (regP x0 x1 x2 x3 y1 x4 x5 x6 x7 x8 x9)) := by
      funext z0 z1 z2 z3 z4 z5 z6 z7 z8 z9; exact ih0 z0 z1 z2 z3 z4 z5 z6 z7 z8 z9
    show ((fun (x0 : Oper) (_ : t161) (x2 : t1634) (x3 : Program) (x4 : Run) (x5 : t161) (x6 : Nat) (x7 : Nat) (x8 : t1526) (x9 : t1527) (x10 : Nat) (x11 : t14) (x12 : S) => (l602 x8 x3 x4 x5 x6 x7 x9 x10 x11 x12 x0 x2)) y0 y1 (fun (x0 : Program) (x1 : Run) (x2 : t161) (x3 : Nat) (x4 : Nat) (x5 : t1526) (x6 : t1527) (x7 : Nat) (x8 : t14) (x9 : S) => (k_regP x0 x1 x2 x3 y1 x4 x5 x6 x7 x8 x9)) z0 z1 z2 z3 z4 z5 z6 z7 z8 z9) = _
    rw [e0]
    conv => rhs; rw [Ev.regP.eq_def]
    try simp only [l597_eq, l600_eq, l592_eq, l593_eq, l594_eq, l601_eq, l595_eq, l598_eq, l596_eq, l602_eq]
    try rw [k_fN_Nat_eq]
    try rw [k_putE_eq]
    try rw [k_apart_eq]
    try rw [k_stepOp_eq]
    try rw [k_isDefer_eq]
    try rw [k_guardV_eq]
    all_goals kernel_rfl
theorem k_regP_eq : @k_regP = regP := by
  funext a0 a1 a2 a3 a4 a5 a6 a7 a8 a9 a10; exact k_regP_law a4 a0 a1 a2 a3 a5 a6 a7 a8 a9 a10
abbrev t1753:=Nat → t1567
abbrev t1754:=t46 → t1753
abbrev t1755:=t1526 → t1754
abbrev t1756:=t164 → t1755
abbrev t1757:=t141 → t1756
abbrev t1758:=t14 → t1757
abbrev t1759:=Nat → t1758
abbrev t1760:=t161 → t1759
abbrev t1761:=t1527 → t1760
abbrev t1762:=Nat → t1761
abbrev t1763:=t161 → t1762
abbrev t1764:=Run → t1763
abbrev t1765:=Program → t1764
abbrev t1766:=Bool → t1765
def l591 : t1766 := (λx0=>(@Bool.rec (λ_=>t1765) (λ_ _ _ _ _ _ _ _ _ _ _ _ _ _ _ _ _ _ _ _=>none) (λx1 x2 x3 x4 x5 x6 x7 x8 x9 x10 x11 x12 x13 x14 x15 x16 x17 x18 x19 x20=>(k_fN_433 (Nat.lor x14 x19) (λx21=>(k_fN_433 (Nat.lor x15 x20) (λx22=>(l590 (k_regP x1 x2 x3 x4 x6 (Nat.add x4 (nat_lit 1)) x11 ((Lg.mk x4 x19 x20) :: x5) x7 x8 (S.mk x12 x13 x21 x15)) x3 x7 x8 x9 x10 x16 x17 x18 x22)))))) x0))
theorem l591_eq : ∀ x0 x1 x2 x3 x4 x5 x6 x7 x8 x9 x10 x11 x12 x13 x14 x15 x16 x17 x18 x19 x20, (Eq (l591 x0 x1 x2 x3 x4 x5 x6 x7 x8 x9 x10 x11 x12 x13 x14 x15 x16 x17 x18 x19 x20) (@Bool.rec (λ_=>t151) none (k_fN_433 (Nat.lor x14 x19) (λx21=>(k_fN_433 (Nat.lor x15 x20) (λx22=>(l590 (k_regP x1 x2 x3 x4 x6 (Nat.add x4 (nat_lit 1)) x11 ((Lg.mk x4 x19 x20) :: x5) x7 x8 (S.mk x12 x13 x21 x15)) x3 x7 x8 x9 x10 x16 x17 x18 x22))))) x0)) := by intro t; cases t <;> (intros; rfl)
def k_idle : t1588 := (λx0 x1=>(@List.rec Lg (λ_=>t162) (λ_=>Bool.true) (λx2 _ x4 x5=>(@Lg.rec (λ_=>Bool) (λx6 _ x8=>(@Bool.rec (λ_=>Bool) Bool.false (x4 x5) (@Bool.rec (λ_=>Bool) (Nat.beq x8 (nat_lit 0)) Bool.true (Nat.testBit x5 x6)))) x2)) x1 x0))
theorem k_idle_law : ∀ x0 x1, (Eq (k_idle x1 x0) (idle x1 x0)) := by
  intro t
  induction t with
  | nil  =>
    intro z0
    show ((fun (_ : Nat) => Bool.true) z0) = _
    conv => rhs; rw [Ev.idle.eq_def]
    all_goals kernel_rfl
  | cons y0 y1 ih0 =>
    intro z0
    have e0 : (fun (x0 : Nat) => (k_idle x0 y1)) = (fun (x0 : Nat) => (idle x0 y1)) := by
      funext z0; exact ih0 z0
    show ((fun (x0 : Lg) (_ : t1527) (x2 : t162) (x3 : Nat) => (@Lg.rec (fun (_ : Lg) => Bool) (fun (x4 : Nat) (_ : Nat) (x6 : Nat) => (@Bool.rec (fun (_ : Bool) => Bool) Bool.false (x2 x3) (@Bool.rec (fun (_ : Bool) => Bool) (Nat.beq x6 (nat_lit 0)) Bool.true (Nat.testBit x3 x4)))) x0)) y0 y1 (fun (x0 : Nat) => (k_idle x0 y1)) z0) = _
    rw [e0]
    conv => rhs; rw [Ev.idle.eq_def]
    all_goals kernel_rfl
theorem k_idle_eq : @k_idle = idle := by
  funext a0 a1; exact k_idle_law a1 a0
abbrev t1767:=Nat → t1593
abbrev t1768:=t46 → t1767
abbrev t1769:=t1526 → t1768
abbrev t1770:=Nat → t1769
abbrev t1771:=t164 → t1770
abbrev t1772:=t141 → t1771
abbrev t1773:=t14 → t1772
abbrev t1774:=Nat → t1773
abbrev t1775:=t161 → t1774
abbrev t1776:=t1527 → t1775
abbrev t1777:=Nat → t1776
abbrev t1778:=t161 → t1777
abbrev t1779:=Run → t1778
abbrev t1780:=Program → t1779
abbrev t1781:=S → t1780
def l603 : t1781 := (λx0=>(@S.rec (λ_=>t1780) (λx1 x2 x3 x4 x5 x6 x7 x8 x9 x10 x11 x12 x13 x14 x15 x16 x17 x18 x19 x20 x21=>(l591 (@Bool.rec (λ_=>Bool) Bool.false (k_idle x15 x9) (k_apart x15 x3 x4 x9)) x5 x6 x7 x8 x9 x10 x11 x12 x13 x14 x16 x17 x18 x19 x20 x21 x1 x2 x3 x4)) x0))
theorem l603_eq : ∀ x0 x1 x2 x3 x4 x5 x6 x7 x8 x9 x10 x11 x12 x13 x14 x15 x16 x17, (Eq (l603 x0 x1 x2 x3 x4 x5 x6 x7 x8 x9 x10 x11 x12 x13 x14 x15 x16 x17) (@S.rec (λ_=>t151) (λx18 x19 x20 x21=>(l591 (@Bool.rec (λ_=>Bool) Bool.false (k_idle x11 x5) (k_apart x11 x20 x21 x5)) x1 x2 x3 x4 x5 x6 x7 x8 x9 x10 x12 x13 x14 x15 x16 x17 x18 x19 x20 x21)) x0)) := by intro t; cases t <;> (intros; rfl)
abbrev t1782:=t46 → t1546
abbrev t1783:=t161 → t1782
abbrev t1784:=Nat → t1783
abbrev t1785:=Nat → t1784
abbrev t1786:=t1526 → t1785
abbrev t1787:=Nat → t1786
abbrev t1788:=t164 → t1787
abbrev t1789:=t141 → t1788
abbrev t1790:=t14 → t1789
abbrev t1791:=Nat → t1790
abbrev t1792:=t1533 → t1791
abbrev t1793:=Oper → t1792
abbrev t1794:=t1527 → t1793
abbrev t1795:=Nat → t1794
abbrev t1796:=t161 → t1795
abbrev t1797:=Run → t1796
abbrev t1798:=Program → t1797
abbrev t1799:=Ret → t1798
def l604 : t1799 := (λx0=>(@Ret.rec (λ_=>t1798) (λx1 x2 x3 x4 x5 x6 x7 x8 x9 x10 x11 x12 x13 x14 x15 x16 x17 _ _ _=>(l587 x2 x3 x4 x5 x6 x7 x8 x9 x10 x11 x12 x13 x14 x15 x16 x17 x1)) (λx1 x2 x3 x4 x5 x6 x7 _ _ x10 x11 x12 x13 x14 x15 x16 x17 x18 x19 x20=>(l603 x2 x3 x4 x5 x6 x7 x18 x10 x11 x12 x13 x14 x15 x19 x20 x16 x17 x1)) x0))
theorem l604_eq : ∀ x0 x1 x2 x3 x4 x5 x6 x7 x8 x9 x10 x11 x12 x13 x14 x15 x16 x17 x18, (Eq (l604 x0 x1 x2 x3 x4 x5 x6 x7 x8 x9 x10 x11 x12 x13 x14 x15 x16 x17 x18) (@Ret.rec (λ_=>t151) (λx19 x20=>(l587 x20 x1 x2 x3 x4 x5 x6 x7 x8 x9 x10 x11 x12 x13 x14 x15 x19)) (λx19 x20=>(l603 x20 x1 x2 x3 x4 x5 x16 x8 x9 x10 x11 x12 x13 x17 x18 x14 x15 x19)) x0)) := by intro t; cases t <;> (intros; rfl)
abbrev t1800:=t1526 → t1551
abbrev t1801:=Nat → t1800
abbrev t1802:=t164 → t1801
abbrev t1803:=t141 → t1802
abbrev t1804:=t14 → t1803
abbrev t1805:=Nat → t1804
abbrev t1806:=t1533 → t1805
abbrev t1807:=t161 → t1806
abbrev t1808:=Oper → t1807
abbrev t1809:=t1527 → t1808
abbrev t1810:=Nat → t1809
abbrev t1811:=t161 → t1810
abbrev t1812:=Run → t1811
abbrev t1813:=Program → t1812
abbrev t1814:=t4 → t1813
def l605 : t1814 := (λx0=>(@Option.rec Ret (λ_=>t1813) (λ_ _ _ _ _ _ _ _ _ _ _ _ _ _ _ _ _ _=>none) (λx1 x2 x3 x4 x5 x6 x7 x8 x9 x10 x11 x12 x13 x14 x15 x16 x17 x18 x19=>(l604 x1 x2 x3 x4 x5 x6 x7 x9 x10 x11 x12 x13 x14 x15 x18 x19 x8 x16 x17)) x0))
theorem l605_eq : ∀ x0 x1 x2 x3 x4 x5 x6 x7 x8 x9 x10 x11 x12 x13 x14 x15 x16 x17 x18, (Eq (l605 x0 x1 x2 x3 x4 x5 x6 x7 x8 x9 x10 x11 x12 x13 x14 x15 x16 x17 x18) (@methV._sparseCasesOn_2 Ret (λ_=>t151) x0 (λx19=>(l604 x19 x1 x2 x3 x4 x5 x6 x8 x9 x10 x11 x12 x13 x14 x17 x18 x7 x15 x16)) (λ_=>none))) := by intro t; cases t <;> (intros; rfl)
abbrev t1815:=Nat → t1534
abbrev t1816:=t164 → t1815
abbrev t1817:=t141 → t1816
abbrev t1818:=t14 → t1817
abbrev t1819:=Nat → t1818
abbrev t1820:=t1533 → t1819
abbrev t1821:=t161 → t1820
abbrev t1822:=Oper → t1821
abbrev t1823:=t1527 → t1822
abbrev t1824:=Nat → t1823
abbrev t1825:=t161 → t1824
abbrev t1826:=Run → t1825
abbrev t1827:=Program → t1826
abbrev t1828:=S → t1827
def l606 : t1828 := (λx0=>(@S.rec (λ_=>t1827) (λx1 x2 x3 x4 x5 x6 x7 x8 x9 x10 x11 x12 x13 x14 x15 x16 x17 x18=>(l605 (k_stepOp' x5 x6 x14 x10 (S.mk x1 x2 (nat_lit 0) (nat_lit 0))) x5 x6 x7 x8 x9 x10 x11 x12 x13 x14 x15 x16 x17 x18 x1 x2 x3 x4)) x0))
theorem l606_eq : ∀ x0 x1 x2 x3 x4 x5 x6 x7 x8 x9 x10 x11 x12 x13 x14, (Eq (l606 x0 x1 x2 x3 x4 x5 x6 x7 x8 x9 x10 x11 x12 x13 x14) (@S.rec (λ_=>t151) (λx15 x16 x17 x18=>(l605 (k_stepOp' x1 x2 x10 x6 (S.mk x15 x16 (nat_lit 0) (nat_lit 0))) x1 x2 x3 x4 x5 x6 x7 x8 x9 x10 x11 x12 x13 x14 x15 x16 x17 x18)) x0)) := by intro t; cases t <;> (intros; rfl)
abbrev t1829:=S → t1822
abbrev t1830:=t1527 → t1829
abbrev t1831:=Nat → t1830
abbrev t1832:=t161 → t1831
abbrev t1833:=Run → t1832
abbrev t1834:=Program → t1833
abbrev t1835:=Bool → t1834
def l607 : t1835 := (λx0=>(@Bool.rec (λ_=>t1834) (λx1 x2 x3 x4 x5 x6 x7 x8 x9 x10 x11 x12 x13 x14 x15=>(l606 x6 x1 x2 x3 x4 x5 x7 x8 x9 x10 x11 x12 x13 x14 x15)) (λ_ _ _ _ _ _ _ _ _ _ _ _ _ _ _=>none) x0))
theorem l607_eq : ∀ x0 x1 x2 x3 x4 x5 x6 x7 x8 x9 x10 x11 x12 x13 x14 x15, (Eq (l607 x0 x1 x2 x3 x4 x5 x6 x7 x8 x9 x10 x11 x12 x13 x14 x15) (@Bool.rec (λ_=>t151) (l606 x6 x1 x2 x3 x4 x5 x7 x8 x9 x10 x11 x12 x13 x14 x15) none x0)) := by intro t; cases t <;> (intros; rfl)
abbrev t1836:=t161 → t1546
abbrev t1837:=t1526 → t1836
abbrev t1838:=t164 → t1837
abbrev t1839:=t141 → t1838
abbrev t1840:=t14 → t1839
abbrev t1841:=Nat → t1840
abbrev t1842:=t1533 → t1841
abbrev t1843:=Oper → t1842
abbrev t1844:=S → t1843
abbrev t1845:=t1527 → t1844
abbrev t1846:=Nat → t1845
abbrev t1847:=t161 → t1846
abbrev t1848:=Run → t1847
abbrev t1849:=Program → t1848
abbrev t1850:=Bool → t1849
def l608 : t1850 := (λx0=>(@Bool.rec (λ_=>t1849) (λx1 x2 x3 x4 x5 x6 x7 x8 x9 x10 x11 x12 x13 _ _=>(l584 (k_putE x9 (Oper.dst x7) (CV.tup []) x10) x1 x2 x3 x4 x5 x6 x8 x9 x11 x12 x13)) (λx1 x2 x3 x4 x5 x6 x7 x8 x9 x10 x11 x12 x13 x14 x15=>(l607 (k_isDefer (Oper.op x7)) x1 x2 x3 x4 x5 x6 x7 x14 x8 x9 x10 x11 x12 x15 x13)) x0))
theorem l608_eq : ∀ x0 x1 x2 x3 x4 x5 x6 x7 x8 x9 x10 x11 x12 x13 x14 x15, (Eq (l608 x0 x1 x2 x3 x4 x5 x6 x7 x8 x9 x10 x11 x12 x13 x14 x15) (@Bool.rec (λ_=>t151) (l584 (k_putE x9 (Oper.dst x7) (CV.tup []) x10) x1 x2 x3 x4 x5 x6 x8 x9 x11 x12 x13) (l607 (k_isDefer (Oper.op x7)) x1 x2 x3 x4 x5 x6 x7 x14 x8 x9 x10 x11 x12 x15 x13) x0)) := by intro t; cases t <;> (intros; rfl)
abbrev t1851:=t369 → t1834
def l609 : t1851 := (λx0=>(@Option.rec Bool (λ_=>t1834) (λ_ _ _ _ _ _ _ _ _ _ _ _ _ _ _=>none) (λx1 x2 x3 x4 x5 x6 x7 x8 x9 x10 x11 x12 x13 x14 x15 x16=>(l608 x1 x2 x3 x4 x5 x6 x7 x8 x10 x11 x12 x13 x14 x16 x9 x15)) x0))
theorem l609_eq : ∀ x0 x1 x2 x3 x4 x5 x6 x7 x8 x9 x10 x11 x12 x13 x14 x15, (Eq (l609 x0 x1 x2 x3 x4 x5 x6 x7 x8 x9 x10 x11 x12 x13 x14 x15) (@Option.rec Bool (λ_=>t151) none (λx16=>(l608 x16 x1 x2 x3 x4 x5 x6 x7 x9 x10 x11 x12 x13 x15 x8 x14)) x0)) := by intro t; cases t <;> (intros; rfl)
abbrev t1852:=t1533 → t1431
abbrev t1853:=t161 → t1852
abbrev t1854:=Oper → t1853
abbrev t1855:=S → t1854
abbrev t1856:=t1527 → t1855
abbrev t1857:=Nat → t1856
abbrev t1858:=t161 → t1857
abbrev t1859:=Run → t1858
abbrev t1860:=Program → t1859
abbrev t1861:=t1526 → t1860
def l610 : t1861 := (λx0=>(@List.rec Nat (λ_=>t1860) (λ_ _ _ _ _ _ _ _ _ _ _ _ _=>none) (λx1 x2 _ x4 x5 x6 x7 x8 x9 x10 x11 x12 x13 x14 x15 x16=>(l609 (k_guardV x6 x14 x10) x4 x5 x6 x7 x8 x9 x10 x11 x12 x13 x14 x15 x16 x1 x2)) x0))
theorem l610_eq : ∀ x0 x1 x2 x3 x4 x5 x6 x7 x8 x9 x10 x11 x12 x13, (Eq (l610 x0 x1 x2 x3 x4 x5 x6 x7 x8 x9 x10 x11 x12 x13) (@List.rec Nat (λ_=>t151) none (λx14 x15 _=>(l609 (k_guardV x3 x11 x7) x1 x2 x3 x4 x5 x6 x7 x8 x9 x10 x11 x12 x13 x14 x15)) x0)) := by intro t; cases t <;> (intros; rfl)
abbrev t1862:=t1533 → t151
abbrev t1863:=t161 → t1862
abbrev t1864:=Oper → t1863
abbrev t1865:=S → t1864
abbrev t1866:=t1527 → t1865
abbrev t1867:=t1526 → t1866
abbrev t1868:=Nat → t1867
abbrev t1869:=t161 → t1868
abbrev t1870:=Run → t1869
abbrev t1871:=Program → t1870
abbrev t1872:=Fr → t1871
def l611 : t1872 := (λx0=>(@Fr.rec (λ_=>t1871) (λx1 x2 x3 x4 x5 x6 x7 x8 x9 x10 x11 x12 x13 x14=>(l610 x9 x5 x6 x7 x8 x10 x11 x12 x13 x14 x1 x2 x3 x4)) x0))
theorem l611_eq : ∀ x0 x1 x2 x3 x4 x5 x6 x7 x8 x9 x10, (Eq (l611 x0 x1 x2 x3 x4 x5 x6 x7 x8 x9 x10) (@Fr.rec (λ_=>t151) (λx11 x12 x13 x14=>(l610 x5 x1 x2 x3 x4 x6 x7 x8 x9 x10 x11 x12 x13 x14)) x0)) := by intro t; cases t <;> (intros; rfl)
abbrev t1873:=t161 → t1531
abbrev t1874:=Run → t1873
abbrev t1875:=Program → t1874
def k_regD : t1875 := (λx0 x1 x2 x3 x4 x5 x6 x7 x8=>(@List.rec Oper (λ_=>t1533) (λ_ _ _ _ _ _ x15 x16=>(some (Ex.normal, (x15, x16)))) (λx9 x10 x11 x12 x13 x14 x15 x16 x17 x18 x19=>(l611 x18 x12 x13 x14 x15 x16 x17 x19 x9 x10 x11)) x3 x0 x1 x2 x4 x5 x6 x7 x8))
theorem k_regD_law : ∀ x0 x1 x2 x3 x4 x5 x6 x7 x8, (Eq (k_regD x1 x2 x3 x0 x4 x5 x6 x7 x8) (regD x1 x2 x3 x0 x4 x5 x6 x7 x8)) := by
  intro t
  induction t with
  | nil  =>
    intro z0 z1 z2 z3 z4 z5 z6 z7
    show ((fun (_ : Program) (_ : Run) (_ : t161) (_ : Nat) (_ : t1526) (_ : t1527) (x6 : Fr) (x7 : S) => (some (Ex.normal, (x6, x7)))) z0 z1 z2 z3 z4 z5 z6 z7) = _
    conv => rhs; rw [Ev.regD.eq_def]
    all_goals kernel_rfl
  | cons y0 y1 ih0 =>
    intro z0 z1 z2 z3 z4 z5 z6 z7
    have e0 : (fun (x0 : Program) (x1 : Run) (x2 : t161) (x3 : Nat) (x4 : t1526) (x5 : t1527) (x6 : Fr) (x7 : S) => (k_regD x0 x1 x2 y1 x3 x4 x5 x6 x7)) = (fun (x0 : Program) (x1 : Run) (x2 : t161) (x3 : Nat) (x4 : t1526) (x5 : t1527) (x6 : Fr) (x7 : S) => (regD x0 x1 x2 y1 x3 x4 x5 x6 x7)) := by
      funext z0 z1 z2 z3 z4 z5 z6 z7; exact ih0 z0 z1 z2 z3 z4 z5 z6 z7
    show ((fun (x0 : Oper) (x1 : t161) (x2 : t1533) (x3 : Program) (x4 : Run) (x5 : t161) (x6 : Nat) (x7 : t1526) (x8 : t1527) (x9 : Fr) (x10 : S) => (l611 x9 x3 x4 x5 x6 x7 x8 x10 x0 x1 x2)) y0 y1 (fun (x0 : Program) (x1 : Run) (x2 : t161) (x3 : Nat) (x4 : t1526) (x5 : t1527) (x6 : Fr) (x7 : S) => (k_regD x0 x1 x2 y1 x3 x4 x5 x6 x7)) z0 z1 z2 z3 z4 z5 z6 z7) = _
    rw [e0]
    conv => rhs; rw [Ev.regD.eq_def]
    try simp only [l605_eq, l586_eq, l589_eq, l604_eq, l584_eq, l607_eq, l611_eq, l585_eq, l587_eq, l590_eq, l606_eq, l608_eq, l609_eq, l603_eq, l610_eq, l591_eq]
    try rw [k_fN_433_eq]
    try rw [k_putE_eq]
    try rw [k_apart_eq]
    try rw [k_wipe_eq]
    try rw [k_regP_eq]
    try rw [k_idle_eq]
    try rw [k_stepOp_eq]
    try rw [k_isDefer_eq]
    try rw [k_guardV_eq]
    all_goals kernel_rfl
theorem k_regD_eq : @k_regD = regD := by
  funext a0 a1 a2 a3 a4 a5 a6 a7 a8; exact k_regD_law a3 a0 a1 a2 a4 a5 a6 a7 a8
abbrev t1876:=List Tm
abbrev t1877:=t1526 → Nat
def k_tmBits : t1877 := (λx0=>(@List.rec Nat (λ_=>Nat) (nat_lit 0) (λx1 _ x3=>(Nat.lor (Nat.shiftLeft (nat_lit 1) x1) x3)) x0))
theorem k_tmBits_law : ∀ x0, (Eq (k_tmBits x0) (tmBits x0)) := by
  intro t
  induction t with
  | nil  =>
    show (nat_lit 0) = _
    conv => rhs; rw [Ev.tmBits.eq_def]
    all_goals kernel_rfl
  | cons y0 y1 ih0 =>
    have e0 : (k_tmBits y1) = (tmBits y1) := by
      exact ih0
    show ((fun (x0 : Nat) (_ : t1526) (x2 : Nat) => (Nat.lor (Nat.shiftLeft (nat_lit 1) x0) x2)) y0 y1 (k_tmBits y1)) = _
    rw [e0]
    conv => rhs; rw [Ev.tmBits.eq_def]
    all_goals kernel_rfl
theorem k_tmBits_eq : @k_tmBits = tmBits := by
  funext a0; exact k_tmBits_law a0
abbrev t1878:=t164 → Nat
def k_dstBit : t1878 := (λx0=>(@Option.rec Nat (λ_=>Nat) (nat_lit 0) (λx1=>((λx2=>(Nat.shiftLeft (nat_lit 1) x2)) x1)) x0))
theorem k_dstBit_eq : @k_dstBit = dstBit := by
  delta k_dstBit dstBit
  all_goals kernel_rfl

abbrev t1879:=t1876 → Bool
abbrev t1880:=t1526 → t1879
abbrev t1881:=Nat → t1880
abbrev t1882:=t161 → t1881
abbrev t1883:=t1526 → Bool
abbrev t1884:=t1882 → t1883
abbrev t1885:=Oper → t1884
abbrev t1886:=t1876 → t1885
abbrev t1887:=Nat → t1886
abbrev t1888:=t161 → t1887
abbrev t1889:=Bool → t1888
def l612 : t1889 := (λx0=>(@Bool.rec (λ_=>t1888) (λ_ _ _ _ _ _=>Bool.false) (λx1 x2 x3 x4 x5 x6=>(x5 x1 (Nat.add x2 (nat_lit 1)) x6 ((Tm.mk x2 (k_tmBits (looks x1 x4)) (k_dstBit (Oper.dst x4))) :: x3))) x0))
theorem l612_eq : ∀ x0 x1 x2 x3 x4 x5 x6, (Eq (l612 x0 x1 x2 x3 x4 x5 x6) (@Bool.rec (λ_=>Bool) Bool.false (x5 x1 (Nat.add x2 (nat_lit 1)) x6 ((Tm.mk x2 (k_tmBits (looks x1 x4)) (k_dstBit (Oper.dst x4))) :: x3)) x0)) := by intro t; cases t <;> (intros; rfl)
abbrev t1890:=Tm → t1585
def l614 : t1890 := (λx0=>(@Tm.rec (λ_=>t1585) (λx1 x2 x3 x4 x5 x6 x7=>(@Bool.rec (λ_=>Bool) Bool.false (x7 x4 x5 x6) (@Bool.rec (λ_=>Bool) (@Bool.rec (λ_=>Bool) Bool.false (Nat.beq (Nat.land x6 x2) (nat_lit 0)) (Nat.beq (Nat.land x3 (Nat.lor x5 x6)) (nat_lit 0))) Bool.true (Nat.testBit x4 x1)))) x0))
theorem l614_eq : ∀ x0 x1 x2 x3 x4, (Eq (l614 x0 x1 x2 x3 x4) (@Tm.rec (λ_=>Bool) (λx5 x6 x7=>(@Bool.rec (λ_=>Bool) Bool.false (x4 x1 x2 x3) (@Bool.rec (λ_=>Bool) (@Bool.rec (λ_=>Bool) Bool.false (Nat.beq (Nat.land x3 x6) (nat_lit 0)) (Nat.beq (Nat.land x7 (Nat.lor x2 x3)) (nat_lit 0))) Bool.true (Nat.testBit x1 x5)))) x0)) := by intro t; cases t <;> (intros; rfl)
abbrev t1891:=Nat → t1879
abbrev t1892:=Nat → t1891
abbrev t1893:=Nat → t1892
def k_tmApart : t1893 := (λx0 x1 x2 x3=>(@List.rec Tm (λ_=>t1581) (λ_ _ _=>Bool.true) (λx4 _ x6 x7 x8 x9=>(l614 x4 x7 x8 x9 x6)) x3 x0 x1 x2))
theorem k_tmApart_law : ∀ x0 x1 x2 x3, (Eq (k_tmApart x1 x2 x3 x0) (tmApart x1 x2 x3 x0)) := by
  intro t
  induction t with
  | nil  =>
    intro z0 z1 z2
    show ((fun (_ : Nat) (_ : Nat) (_ : Nat) => Bool.true) z0 z1 z2) = _
    conv => rhs; rw [Ev.tmApart.eq_def]
    all_goals kernel_rfl
  | cons y0 y1 ih0 =>
    intro z0 z1 z2
    have e0 : (fun (x0 : Nat) (x1 : Nat) (x2 : Nat) => (k_tmApart x0 x1 x2 y1)) = (fun (x0 : Nat) (x1 : Nat) (x2 : Nat) => (tmApart x0 x1 x2 y1)) := by
      funext z0 z1 z2; exact ih0 z0 z1 z2
    show ((fun (x0 : Tm) (_ : t1876) (x2 : t1581) (x3 : Nat) (x4 : Nat) (x5 : Nat) => (l614 x0 x3 x4 x5 x2)) y0 y1 (fun (x0 : Nat) (x1 : Nat) (x2 : Nat) => (k_tmApart x0 x1 x2 y1)) z0 z1 z2) = _
    rw [e0]
    conv => rhs; rw [Ev.tmApart.eq_def]
    try simp only [l614_eq]
    all_goals kernel_rfl
theorem k_tmApart_eq : @k_tmApart = tmApart := by
  funext a0 a1 a2 a3; exact k_tmApart_law a3 a0 a1 a2
abbrev t1894:=t1882 → Bool
abbrev t1895:=Oper → t1894
abbrev t1896:=t1876 → t1895
abbrev t1897:=Nat → t1896
abbrev t1898:=t161 → t1897
abbrev t1899:=t1526 → t1898
def l613 : t1899 := (λx0=>(@List.rec Nat (λ_=>t1898) (λ_ _ _ _ _=>Bool.false) (λx1 x2 _ x4 x5 x6 x7 x8=>(l612 (@Bool.rec (λ_=>Bool) Bool.false (@List.all Nat (deps x7) (λx9=>(k_Nat_blt x9 x5))) (k_tmApart x1 (k_tmBits (looks x4 x7)) (k_dstBit (Oper.dst x7)) x6)) x4 x5 x6 x7 x8 x2)) x0))
theorem l613_eq : ∀ x0 x1 x2 x3 x4 x5, (Eq (l613 x0 x1 x2 x3 x4 x5) (@List.rec Nat (λ_=>Bool) Bool.false (λx6 x7 _=>(l612 (@Bool.rec (λ_=>Bool) Bool.false (@List.all Nat (deps x4) (λx9=>(k_Nat_blt x9 x2))) (k_tmApart x6 (k_tmBits (looks x1 x4)) (k_dstBit (Oper.dst x4)) x3)) x1 x2 x3 x4 x5 x7)) x0)) := by intro t; cases t <;> (intros; rfl)
abbrev t1900:=t161 → t1882
def k_tmOk : t1900 := (λx0 x1 x2 x3 x4=>(@List.rec Oper (λ_=>t1882) (λ_ _ _ _=>Bool.true) (λx5 _ x7 x8 x9 x10 x11=>(l613 x10 x8 x9 x11 x5 x7)) x1 x0 x2 x3 x4))
theorem k_tmOk_law : ∀ x0 x1 x2 x3 x4, (Eq (k_tmOk x1 x0 x2 x3 x4) (tmOk x1 x0 x2 x3 x4)) := by
  intro t
  induction t with
  | nil  =>
    intro z0 z1 z2 z3
    show ((fun (_ : t161) (_ : Nat) (_ : t1526) (_ : t1876) => Bool.true) z0 z1 z2 z3) = _
    conv => rhs; rw [Ev.tmOk.eq_def]
    all_goals kernel_rfl
  | cons y0 y1 ih0 =>
    intro z0 z1 z2 z3
    have e0 : (fun (x0 : t161) (x1 : Nat) (x2 : t1526) (x3 : t1876) => (k_tmOk x0 y1 x1 x2 x3)) = (fun (x0 : t161) (x1 : Nat) (x2 : t1526) (x3 : t1876) => (tmOk x0 y1 x1 x2 x3)) := by
      funext z0 z1 z2 z3; exact ih0 z0 z1 z2 z3
    show ((fun (x0 : Oper) (_ : t161) (x2 : t1882) (x3 : t161) (x4 : Nat) (x5 : t1526) (x6 : t1876) => (l613 x5 x3 x4 x6 x0 x2)) y0 y1 (fun (x0 : t161) (x1 : Nat) (x2 : t1526) (x3 : t1876) => (k_tmOk x0 y1 x1 x2 x3)) z0 z1 z2 z3) = _
    rw [e0]
    conv => rhs; rw [Ev.tmOk.eq_def]
    try simp only [l613_eq, l612_eq]
    try rw [k_dstBit_eq]
    try rw [k_tmBits_eq]
    try rw [k_tmApart_eq]
    try rw [k_Nat_blt_eq]
    all_goals kernel_rfl
theorem k_tmOk_eq : @k_tmOk = tmOk := by
  funext a0 a1 a2 a3 a4; exact k_tmOk_law a1 a0 a2 a3 a4
def k_drawOk : t1309 := (λx0=>(k_tmOk x0 x0 (nat_lit 0) (masks x0 []) []))
theorem k_drawOk_eq : @k_drawOk = drawOk := by
  delta k_drawOk drawOk
  rw [k_tmOk_eq]
  all_goals kernel_rfl

abbrev t1901:=(Array Oper) → t1424
abbrev t1902:=Run → t1901
abbrev t1903:=Program → t1902
abbrev t1904:=Bool → t1903
def l556 : t1904 := (λx0=>(@Bool.rec (λ_=>t1903) (λx1 x2 x3 x4 x5=>(k_regS' x1 x2 (@Array.toList Oper x3) (@Array.toList Oper x3) x4 x5)) (λx1 x2 x3 x4 x5=>(@Bool.rec (λ_=>t151) none (k_regD x1 x2 (@Array.toList Oper x3) (@Array.toList Oper x3) (nat_lit 0) (masks (@Array.toList Oper x3) []) [] x4 x5) (k_drawOk (@Array.toList Oper x3)))) x0))
theorem l556_eq : ∀ x0 x1 x2 x3 x4 x5, (Eq (l556 x0 x1 x2 x3 x4 x5) (@Bool.rec (λ_=>t151) (k_regS' x1 x2 (@Array.toList Oper x3) (@Array.toList Oper x3) x4 x5) (@Bool.rec (λ_=>t151) none (k_regD x1 x2 (@Array.toList Oper x3) (@Array.toList Oper x3) (nat_lit 0) (masks (@Array.toList Oper x3) []) [] x4 x5) (k_drawOk (@Array.toList Oper x3))) x0)) := by intro t; cases t <;> (intros; rfl)
abbrev t1905:=Bool → t1424
abbrev t1906:=(Array Oper) → t1905
abbrev t1907:=Run → t1906
abbrev t1908:=Program → t1907
def k_codeReg : t1908 := (λx0 x1 x2 x3 x4 x5=>(l556 x3 x0 x1 x2 x4 x5))
theorem k_codeReg_eq : @k_codeReg = codeReg := by
  delta k_codeReg codeReg
  simp only [l556_eq]
  rw [k_drawOk_eq, k_regD_eq, k_regS_eq]
  all_goals kernel_rfl

abbrev t1909:=Ex → t151
abbrev t1910:=t147 → t1909
abbrev t1911:=Code → t1910
abbrev t1912:=Run → t1911
abbrev t1913:=Ex → t1912
def l615 : t1913 := (λx0=>(@Ex.rec (λ_=>t1912) (λx1 x2 x3 _=>(@Prod.rec Fr S (λ_=>t151) (λx5 x6=>((λx7 x8=>(Run.code x1 x2 x7 x8)) x5 x6)) x3)) (λ_ _ _ x4 x5=>(some (x5, x4))) (λ_ _ x3 x4=>(some (x4, x3))) (λ_ _ _ x4 x5=>(some (x5, x4))) x0))
theorem l615_eq : ∀ x0 x1 x2 x3 x4, (Eq (l615 x0 x1 x2 x3 x4) (@codeSeq._sparseCasesOn_1 (λ_=>t151) x0 (@Prod.rec Fr S (λ_=>t151) (λx5 x6=>((λx7 x8=>(Run.code x1 x2 x7 x8)) x5 x6)) x3) (λ_=>(some (x4, x3))))) := by intro t; cases t <;> (intros; rfl)
abbrev t1914:=Code → t151
abbrev t1915:=S → t1914
abbrev t1916:=Fr → t1915
abbrev t1917:=Code → t1916
abbrev t1918:=Run → t1917
abbrev t1919:=t151 → t1918
def l616 : t1919 := (λx0=>(@Option.rec t148 (λ_=>t1918) (λx1 x2 x3 x4 _=>(Run.code x1 x2 x3 x4)) (λx1 x2 _ _ _ x6=>(@Prod.rec Ex t147 (λ_=>t151) (λx7 x8=>(l615 x7 x2 x6 x8 x7)) x1)) x0))
theorem l616_eq : ∀ x0 x1 x2 x3 x4 x5, (Eq (l616 x0 x1 x2 x3 x4 x5) (@stepC._sparseCasesOn_1 t148 (λ_=>t151) x0 (λx6=>(@Prod.rec Ex t147 (λ_=>t151) (λx7 x8=>(l615 x7 x1 x5 x8 x7)) x6)) (λ_=>(Run.code x1 x2 x3 x4)))) := by intro t; cases t <;> (intros; rfl)
abbrev t1920:=Code → t1424
abbrev t1921:=Code → t1920
abbrev t1922:=Run → t1921
def k_codeSeq : t1922 := (λx0 x1 x2 x3 x4=>(l616 (Run.code x0 x1 x3 x4) x0 x1 x3 x4 x2))
theorem k_codeSeq_eq : @k_codeSeq = codeSeq := by
  delta k_codeSeq codeSeq
  simp only [l615_eq, l616_eq]
  all_goals kernel_rfl

abbrev t1923:=Value → t1922
def l617 : t1923 := (λx0=>(@Value.rec (λ_=>t1922) (λ_=>PUnit.{1}) (λ_=>PUnit.{1}) (λx1 x2 x3 x4 x5 x6=>(@Bool.rec (λ_=>t151) (Run.code x2 x4 x5 x6) (Run.code x2 x3 x5 x6) x1)) (λ_ _ _ _ _ _ _=>none) (λ_ _ _ _ _ _ _=>none) (λ_ _ _ _ _ _ _ _=>none) (λ_ _ _ _ _ _=>none) (λ_ _ _ _ _ _=>none) (λ_ _ _ _ _ _ _ _=>none) (λ_ _ _ _ _ _=>none) (λ_ _ _ _ _ _=>none) (λ_ _ _ _ _ _ _ _ _ _=>none) (λ_ _ _ _ _=>none) (λ_ _ _ _ _ _ _ _=>none) (λ_ _ _ _ _=>none) (λ_ _ _ _ _ _ _=>none) (λ_ _ _ _ _ _ _=>none) (λ_ _=>PUnit.unit.{1}) PUnit.unit.{1} (λ_ _ _ _=>PUnit.unit.{1}) x0))
theorem l617_eq : ∀ x0 x1 x2 x3 x4 x5, (Eq (l617 x0 x1 x2 x3 x4 x5) (@codeCond._sparseCasesOn_2 (λ_=>t151) x0 (λx6=>(@Bool.rec (λ_=>t151) (Run.code x1 x3 x4 x5) (Run.code x1 x2 x4 x5) x6)) (λ_=>none))) := by intro t; cases t <;> (intros; rfl)
abbrev t1924:=CV → t1922
def l618 : t1924 := (λx0=>(@CV.rec (λ_=>t1922) (λ_=>PUnit.{1}) (λ_ _ _ _ _=>none) (λx1 x2 x3 x4 x5 x6=>(l617 x1 x2 x3 x4 x5 x6)) (λ_ _ _ _ _ _ _=>none) (λ_ _ _ _ _ _ _ _ _ _=>none) (λ_ _ _ _ _=>none) (λ_ _ _ _ _ _=>none) (λ_ _ _ _ _ _ _=>none) (λ_ _ _ _ _ _ _=>none) (λ_ _ _ _ _ _ _ _ _ _=>none) (λ_ _ _ _ _ _=>none) (λ_ _ _ _ _ _ _ _=>none) PUnit.unit.{1} (λ_ _ _ _=>PUnit.unit.{1}) x0))
theorem l618_eq : ∀ x0 x1 x2 x3 x4 x5, (Eq (l618 x0 x1 x2 x3 x4 x5) (@codeCond._sparseCasesOn_1 (λ_=>t151) x0 (λx6=>(l617 x6 x1 x2 x3 x4 x5)) (λ_=>none))) := by intro t; cases t <;> (intros; rfl)
abbrev t1925:=t81 → t1922
def l619 : t1925 := (λx0=>(@Option.rec CV (λ_=>t1922) (λ_ _ _ _ _=>none) (λx1 x2 x3 x4 x5 x6=>(l618 x1 x2 x3 x4 x5 x6)) x0))
theorem l619_eq : ∀ x0 x1 x2 x3 x4 x5, (Eq (l619 x0 x1 x2 x3 x4 x5) (@stepC._sparseCasesOn_1 CV (λ_=>t151) x0 (λx6=>(l618 x6 x1 x2 x3 x4 x5)) (λ_=>none))) := by intro t; cases t <;> (intros; rfl)
abbrev t1926:=Operand → t1921
abbrev t1927:=Run → t1926
def k_codeCond : t1927 := (λx0 x1 x2 x3 x4 x5=>(l619 (k_ev (Fr.env x4) x1) x0 x2 x3 x4 x5))
theorem k_codeCond_eq : @k_codeCond = codeCond := by
  delta k_codeCond codeCond
  simp only [l617_eq, l619_eq, l618_eq]
  rw [k_ev_eq]
  all_goals kernel_rfl

abbrev t1928:=t147 → t1549
def l620 : t1928 := (λx0=>(@Prod.rec Fr S (λ_=>t1549) (λx1 x2 x3 x4=>((λx5 x6 x7=>(@Bool.rec (λ_=>t151) (some ((Ex.exit x5), (x6, x7))) (some (Ex.normal, (x6, x7))) (Nat.beq x5 x3))) x4 x1 x2)) x0))
theorem l620_eq : ∀ x0 x1 x2, (Eq (l620 x0 x1 x2) (@Prod.rec Fr S (λ_=>t151) (λx3 x4=>((λx5 x6 x7=>(@Bool.rec (λ_=>t151) (some ((Ex.exit x5), (x6, x7))) (some (Ex.normal, (x6, x7))) (Nat.beq x5 x1))) x2 x3 x4)) x0)) := by intro t; cases t <;> (intros; rfl)
abbrev t1929:=t147 → t1546
abbrev t1930:=Ex → t1929
abbrev t1931:=Ex → t1930
def l621 : t1931 := (λx0=>(@Ex.rec (λ_=>t1930) (λx1 x2 _=>(some (x1, x2))) (λx1 _ x3 x4=>(l620 x3 x4 x1)) (λx1 x2 _=>(some (x1, x2))) (λ_ x2 x3 _=>(some (x2, x3))) x0))
theorem l621_eq : ∀ x0 x1 x2 x3, (Eq (l621 x0 x1 x2 x3) (@codeBlock._sparseCasesOn_1 (λ_=>t151) x0 (λx4=>(l620 x2 x3 x4)) (λ_=>(some (x1, x2))))) := by intro t; cases t <;> (intros; rfl)
abbrev t1932:=S → t1546
abbrev t1933:=Fr → t1932
abbrev t1934:=Code → t1933
abbrev t1935:=Run → t1934
abbrev t1936:=t151 → t1935
def l622 : t1936 := (λx0=>(@Option.rec t148 (λ_=>t1935) (λx1 x2 x3 x4 _=>(Run.code x1 x2 x3 x4)) (λx1 _ _ _ _ x6=>(@Prod.rec Ex t147 (λ_=>t151) (λx7 x8=>(l621 x7 x7 x8 x6)) x1)) x0))
theorem l622_eq : ∀ x0 x1 x2 x3 x4 x5, (Eq (l622 x0 x1 x2 x3 x4 x5) (@stepC._sparseCasesOn_1 t148 (λ_=>t151) x0 (λx6=>(@Prod.rec Ex t147 (λ_=>t151) (λx7 x8=>(l621 x7 x7 x8 x5)) x6)) (λ_=>(Run.code x1 x2 x3 x4)))) := by intro t; cases t <;> (intros; rfl)
abbrev t1937:=Nat → t1920
abbrev t1938:=Run → t1937
def k_codeBlock : t1938 := (λx0 x1 x2 x3 x4=>(l622 (Run.code x0 x2 x3 x4) x0 x2 x3 x4 x1))
theorem k_codeBlock_eq : @k_codeBlock = codeBlock := by
  delta k_codeBlock codeBlock
  simp only [l621_eq, l622_eq, l620_eq]
  all_goals kernel_rfl

def l623 : t1913 := (λx0=>(@Ex.rec (λ_=>t1912) (λx1 x2 x3 _=>(@Prod.rec Fr S (λ_=>t151) (λx5 x6=>((λx7 x8=>(Run.code x1 (Code.loop x2) x7 x8)) x5 x6)) x3)) (λ_ _ _ x4 x5=>(some (x5, x4))) (λ_ _ x3 x4=>(some (x4, x3))) (λ_ _ _ x4 x5=>(some (x5, x4))) x0))
theorem l623_eq : ∀ x0 x1 x2 x3 x4, (Eq (l623 x0 x1 x2 x3 x4) (@codeSeq._sparseCasesOn_1 (λ_=>t151) x0 (@Prod.rec Fr S (λ_=>t151) (λx5 x6=>((λx7 x8=>(Run.code x1 (Code.loop x2) x7 x8)) x5 x6)) x3) (λ_=>(some (x4, x3))))) := by intro t; cases t <;> (intros; rfl)
abbrev t1939:=Run → t1920
abbrev t1940:=t151 → t1939
def l624 : t1940 := (λx0=>(@Option.rec t148 (λ_=>t1939) (λx1 x2 x3 x4=>(Run.code x1 x2 x3 x4)) (λx1 x2 x3 _ _=>(@Prod.rec Ex t147 (λ_=>t151) (λx6 x7=>(l623 x6 x2 x3 x7 x6)) x1)) x0))
theorem l624_eq : ∀ x0 x1 x2 x3 x4, (Eq (l624 x0 x1 x2 x3 x4) (@stepC._sparseCasesOn_1 t148 (λ_=>t151) x0 (λx5=>(@Prod.rec Ex t147 (λ_=>t151) (λx6 x7=>(l623 x6 x1 x2 x7 x6)) x5)) (λ_=>(Run.code x1 x2 x3 x4)))) := by intro t; cases t <;> (intros; rfl)
def k_codeLoop : t1939 := (λx0 x1 x2 x3=>(l624 (Run.code x0 x1 x2 x3) x0 x1 x2 x3))
theorem k_codeLoop_eq : @k_codeLoop = codeLoop := by
  delta k_codeLoop codeLoop
  simp only [l623_eq, l624_eq]
  all_goals kernel_rfl

abbrev t1941:=t1423 → t1551
abbrev t1942:=t44 → t1941
abbrev t1943:=Nat → t1942
abbrev t1944:=t44 → t1943
def l626 : t1944 := (λx0=>(@Option.rec CO (λ_=>t1943) (λ_ _ _ _ _ _ _=>none) (λx1 x2 x3 x4 x5 x6 x7 x8=>((λ_=>(@Option.rec t46 (λ_=>t151) none (λx10=>((λx11=>(k_fN_433 (Nat.lor x8 (Nat.shiftLeft (nat_lit 1) x2)) (λx12=>(x4 (S.mk x11 x6 x7 x12))))) x10)) (setCO (nat_lit 24) x5 x2 x3))) x1)) x0))
theorem l626_eq : ∀ x0 x1 x2 x3 x4 x5 x6 x7, (Eq (l626 x0 x1 x2 x3 x4 x5 x6 x7) (@Option.rec CO (λ_=>t151) none (λx8=>((λ_=>(@Option.rec t46 (λ_=>t151) none (λx10=>((λx11=>(k_fN_433 (Nat.lor x7 (Nat.shiftLeft (nat_lit 1) x1)) (λx12=>(x3 (S.mk x11 x5 x6 x12))))) x10)) (setCO (nat_lit 24) x4 x1 x2))) x8)) x0)) := by intro t; cases t <;> (intros; rfl)
abbrev t1945:=t1423 → t151
abbrev t1946:=t44 → t1945
abbrev t1947:=Nat → t1946
abbrev t1948:=S → t1947
def l627 : t1948 := (λx0=>(@S.rec (λ_=>t1947) (λx1 x2 x3 x4 x5 x6 x7=>((λx8 x9 x10 x11=>(l626 (getCO x8 x5) x5 x6 x7 x8 x9 x10 x11)) x1 x2 x3 x4)) x0))
theorem l627_eq : ∀ x0 x1 x2 x3, (Eq (l627 x0 x1 x2 x3) (@S.rec (λ_=>t151) (λx4 x5 x6 x7=>((λx8 x9 x10 x11=>(l626 (getCO x8 x1) x1 x2 x3 x8 x9 x10 x11)) x4 x5 x6 x7)) x0)) := by intro t; cases t <;> (intros; rfl)
def k_wr_433 : t1948 := (λx0 x1 x2 x3=>(l627 x0 x1 x2 x3))
theorem k_wr_433_eq : @k_wr_433 = (@wr t148) := by
  delta k_wr_433 wr
  simp only [l627_eq, l626_eq]
  rw [setCO_eq, k_fN_433_eq, getCO_eq]
  all_goals kernel_rfl

abbrev t1949:=Code → t1546
abbrev t1950:=Code → t1949
abbrev t1951:=t1526 → t1950
abbrev t1952:=Nat → t1951
abbrev t1953:=t14 → t1952
abbrev t1954:=S → t1953
abbrev t1955:=Nat → t1954
abbrev t1956:=Nat → t1955
abbrev t1957:=t164 → t1956
abbrev t1958:=t141 → t1957
abbrev t1959:=t14 → t1958
abbrev t1960:=Nat → t1959
abbrev t1961:=t1353 → t1960
def l625 : t1961 := (λx0=>(@Option.rec Code (λ_=>t1960) (λx1 x2 x3 x4 x5 x6 x7 x8 x9 x10 x11 x12 x13=>(k_wr_433 x7 x6 (some (CO.loop LoopState.exhausted none x8 x9 x10 x11 x12 x13)) (λx14=>(some (Ex.normal, ((Fr.mk x1 x2 ((SD.mark x5) :: x3) x4), x14)))))) (λ_ _ _ _ _ _ _ _ _ _ _ _ _ _=>none) x0))
theorem l625_eq : ∀ x0 x1 x2 x3 x4 x5 x6 x7 x8 x9 x10 x11 x12 x13, (Eq (l625 x0 x1 x2 x3 x4 x5 x6 x7 x8 x9 x10 x11 x12 x13) (@rangeN._sparseCasesOn_2 Code (λ_=>t151) x0 (k_wr_433 x7 x6 (some (CO.loop LoopState.exhausted none x8 x9 x10 x11 x12 x13)) (λx14=>(some (Ex.normal, ((Fr.mk x1 x2 ((SD.mark x5) :: x3) x4), x14))))) (λ_=>none))) := by intro t; cases t <;> (intros; rfl)
abbrev t1962:=Run → t1960
abbrev t1963:=t1353 → t1962
def l628 : t1963 := (λx0=>(@Option.rec Code (λ_=>t1962) (λ_ _ _ _ _ _ _ _ _ _ _ _ _ _=>none) (λx1 x2 x3 x4 x5 x6 x7 x8 x9 x10 x11 x12 x13 x14 x15=>(k_wr_433 x9 x8 (some (CO.loop LoopState.exhausted (some x1) x10 x11 x12 x13 x14 x15)) (λx16=>(Run.code x2 x1 (Fr.mk x3 x4 ((SD.mark x7) :: x5) x6) x16)))) x0))
theorem l628_eq : ∀ x0 x1 x2 x3 x4 x5 x6 x7 x8 x9 x10 x11 x12 x13 x14, (Eq (l628 x0 x1 x2 x3 x4 x5 x6 x7 x8 x9 x10 x11 x12 x13 x14) (@methV._sparseCasesOn_2 Code (λ_=>t151) x0 (λx15=>(k_wr_433 x8 x7 (some (CO.loop LoopState.exhausted (some x15) x9 x10 x11 x12 x13 x14)) (λx16=>(Run.code x1 x15 (Fr.mk x2 x3 ((SD.mark x6) :: x4) x5) x16)))) (λ_=>none))) := by intro t; cases t <;> (intros; rfl)
abbrev t1964:=Run → t151
abbrev t1965:=Nat → t1964
abbrev t1966:=Code → t1965
abbrev t1967:=Code → t1966
abbrev t1968:=t1526 → t1967
abbrev t1969:=Nat → t1968
abbrev t1970:=t14 → t1969
abbrev t1971:=t1353 → t1970
abbrev t1972:=S → t1971
abbrev t1973:=Nat → t1972
abbrev t1974:=Nat → t1973
abbrev t1975:=t164 → t1974
abbrev t1976:=t141 → t1975
abbrev t1977:=t14 → t1976
abbrev t1978:=Nat → t1977
abbrev t1979:=LoopState → t1978
end
end Go.EvK
