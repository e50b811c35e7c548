/- Forms of the definitions that the kernel runs fast, each proved equal. No condition. -/
import Derived.Test.YtpgnjlngepfanaaGreatIsP8a
import Derived.KernelRfl
set_option linter.unusedVariables false
set_option linter.unusedSimpArgs false
set_option maxRecDepth 100000
namespace Go.EvK
open Go.Eng Go.Ev
noncomputable section
def l333 : t886 := (λx0=>(@Option.rec CV (λ_=>t885) (λ_ _ _ _ _ _ _=>none) (λx1 x2 x3 x4 x5 x6 x7 x8=>(l326 (k_ev x3 x4) x2 x5 x6 x7 x8 x1)) x0))
theorem l333_eq : ∀ x0 x1 x2 x3 x4 x5 x6 x7, (Eq (l333 x0 x1 x2 x3 x4 x5 x6 x7) (@elInfo._sparseCasesOn_3 CV (λ_=>t4) x0 (λx8=>(l326 (k_ev x2 x3) x1 x4 x5 x6 x7 x8)) (λ_=>none))) := by intro t; cases t <;> (intros; rfl)
abbrev t887:=Operand → t854
abbrev t888:=Operand → t887
abbrev t889:=t14 → t888
abbrev t890:=Program → t889
abbrev t891:=t461 → t890
def l334 : t891 := (λx0=>(@Option.rec t460 (λ_=>t890) (λ_ _ _ _ _ _=>none) (λx1 x2 x3 x4 x5 x6 x7=>(@Prod.rec TypeId TypeId (λ_=>t4) (λx8 x9=>(l333 (k_ev x3 x4) x2 x3 x5 x6 x7 x8 x9)) x1)) x0))
theorem l334_eq : ∀ x0 x1 x2 x3 x4 x5 x6, (Eq (l334 x0 x1 x2 x3 x4 x5 x6) (@elInfo._sparseCasesOn_3 t460 (λ_=>t4) x0 (λx7=>(@Prod.rec TypeId TypeId (λ_=>t4) (λx8 x9=>(l333 (k_ev x2 x3) x1 x2 x4 x5 x6 x8 x9)) x7)) (λ_=>none))) := by intro t; cases t <;> (intros; rfl)
abbrev t892:=TypeId → t888
abbrev t893:=t14 → t892
abbrev t894:=Program → t893
def k_o_lookup : t894 := (λx0 x1 x2 x3 x4 x5 x6=>(l334 (k_mapInfo x0 x2) x0 x1 x3 x4 x5 x6))
theorem k_o_lookup_eq : @k_o_lookup = o_lookup := by
  delta k_o_lookup o_lookup
  simp only [l334_eq, l333_eq, l326_eq]
  rw [k_mapInfo_eq, k_oneZ_eq, k_ifT_Ret_eq, k_lookupV_eq, k_keyOk_eq, k_ev_eq]
  all_goals kernel_rfl

abbrev t895:=TypeId → t854
abbrev t896:=Program → t895
abbrev t897:=Value → t896
def l335 : t897 := (λx0=>(@Value.rec (λ_=>t896) (λ_=>PUnit.{1}) (λ_=>PUnit.{1}) (λ_ _ _ _ _=>none) (λ_ _ _ _ _ _=>none) (λ_ _ _ _ _ _=>none) (λ_ _ _ _ _ _ _=>none) (λ_ _ _ _ _=>none) (λ_ _ _ _ _=>none) (λ_ _ _ _ _ _ _=>none) (λ_ _ _ _ _=>none) (λ_ _ _ _ _=>none) (λ_ _ _ _ _ _ _ _ _=>none) (λ_ _ _ _=>none) (λ_ _ _ _ _ _ _=>none) (λx1 x2 x3 x4=>(@Bool.rec (λ_=>t4) none (@Option.rec CV (λ_=>t4) none (λx5=>((λx6=>(k_ok1 (CV.tup (x6 :: ((CV.val (Value.bool Bool.false)) :: []))) x4)) x5)) (k_oneZ x1 x2)) x3)) (λ_ _ _ _ _ _=>none) (λ_ _ _ _ _ _=>none) (λ_ _=>PUnit.unit.{1}) PUnit.unit.{1} (λ_ _ _ _=>PUnit.unit.{1}) x0))
theorem l335_eq : ∀ x0 x1 x2 x3 x4, (Eq (l335 x0 x1 x2 x3 x4) (@bothNil._sparseCasesOn_1 (λ_=>t4) x0 (@Bool.rec (λ_=>t4) none (@Option.rec CV (λ_=>t4) none (λx5=>((λx6=>(k_ok1 (CV.tup (x6 :: ((CV.val (Value.bool Bool.false)) :: []))) x4)) x5)) (k_oneZ x1 x2)) x3) (λ_=>none))) := by intro t; cases t <;> (intros; rfl)
abbrev t898:=Bool → t20
abbrev t899:=TypeId → t898
abbrev t900:=Program → t899
abbrev t901:=Bool → t900
def l336 : t901 := (λx0=>(@Bool.rec (λ_=>t900) (λx1 x2 x3 x4 _=>(@Bool.rec (λ_=>t4) none (@Option.rec CV (λ_=>t4) none (λx6=>((λx7=>(k_ok1 (CV.tup (x7 :: ((CV.val (Value.bool Bool.false)) :: []))) x4)) x6)) (k_oneZ x1 x2)) x3)) (λ_ _ x3 x4 x5=>(k_ok1 (@Bool.rec (λ_=>CV) x5 (CV.tup (x5 :: ((CV.val (Value.bool Bool.true)) :: []))) x3) x4)) x0))
theorem l336_eq : ∀ x0 x1 x2 x3 x4 x5, (Eq (l336 x0 x1 x2 x3 x4 x5) (@Bool.rec (λ_=>t4) (@Bool.rec (λ_=>t4) none (@Option.rec CV (λ_=>t4) none (λx6=>((λx7=>(k_ok1 (CV.tup (x7 :: ((CV.val (Value.bool Bool.false)) :: []))) x4)) x6)) (k_oneZ x1 x2)) x3) (k_ok1 (@Bool.rec (λ_=>CV) x5 (CV.tup (x5 :: ((CV.val (Value.bool Bool.true)) :: []))) x3) x4) x0)) := by intro t; cases t <;> (intros; rfl)
abbrev t902:=CV → t896
def l337 : t902 := (λx0=>(@CV.rec (λ_=>t896) (λ_=>PUnit.{1}) (λ_ _ _ _=>none) (λx1 x2 x3 x4 x5=>(l335 x1 x2 x3 x4 x5)) (λ_ _ _ _ _ _=>none) (λ_ _ _ _ _ _ _ _ _=>none) (λ_ _ _ _=>none) (λ_ _ _ _ _=>none) (λ_ _ _ _ _ _=>none) (λ_ _ _ _ _ _=>none) (λ_ _ _ _ _ _ _ _ _=>none) (λ_ _ _ _ _=>none) (λx1 x2 _ x4 x5 x6 x7=>(l336 (Nat.beq x1 x5) x4 x5 x6 x7 x2)) PUnit.unit.{1} (λ_ _ _ _=>PUnit.unit.{1}) x0))
theorem l337_eq : ∀ x0 x1 x2 x3 x4, (Eq (l337 x0 x1 x2 x3 x4) (@o_typeAssert._sparseCasesOn_1 (λ_=>t4) x0 (λx5=>(l335 x5 x1 x2 x3 x4)) (λx5 x6=>(l336 (Nat.beq x5 x2) x1 x2 x3 x4 x6)) (λ_=>none))) := by intro t; cases t <;> (intros; rfl)
abbrev t903:=t81 → t896
def l338 : t903 := (λx0=>(@Option.rec CV (λ_=>t896) (λ_ _ _ _=>none) (λx1 x2 x3 x4 x5=>(l337 x1 x2 x3 x4 x5)) x0))
theorem l338_eq : ∀ x0 x1 x2 x3 x4, (Eq (l338 x0 x1 x2 x3 x4) (@elInfo._sparseCasesOn_3 CV (λ_=>t4) x0 (λx5=>(l337 x5 x1 x2 x3 x4)) (λ_=>none))) := by intro t; cases t <;> (intros; rfl)
abbrev t904:=Operand → t895
abbrev t905:=t14 → t904
abbrev t906:=Program → t905
def l339 : t906 := (λx0 x1 x2 x3 x4 x5=>(l338 (k_ev x1 x2) x0 x3 x4 x5))
theorem l339_eq : ∀ x0 x1 x2 x3 x4 x5, (Eq (l339 x0 x1 x2 x3 x4 x5) (l338 (k_ev x1 x2) x0 x3 x4 x5)) := by intros; rfl
abbrev t907:=TypeDesc → t906
def l340 : t907 := (λx0=>(@TypeDesc.rec (λ_=>t906) (λx1 x2 x3 x4 x5 x6=>(l339 x1 x2 x3 x4 x5 x6)) (λx1 x2 x3 x4 x5 x6=>(l339 x1 x2 x3 x4 x5 x6)) (λ_ x2 x3 x4 x5 x6 x7=>(l339 x2 x3 x4 x5 x6 x7)) (λ_ x2 x3 x4 x5 x6 x7=>(l339 x2 x3 x4 x5 x6 x7)) (λ_ x2 x3 x4 x5 x6 x7=>(l339 x2 x3 x4 x5 x6 x7)) (λx1 x2 x3 x4 x5 x6=>(l339 x1 x2 x3 x4 x5 x6)) (λx1 x2 x3 x4 x5 x6=>(l339 x1 x2 x3 x4 x5 x6)) (λ_ x2 x3 x4 x5 x6 x7=>(l339 x2 x3 x4 x5 x6 x7)) (λ_ x2 x3 x4 x5 x6 x7=>(l339 x2 x3 x4 x5 x6 x7)) (λ_ _ x3 x4 x5 x6 x7 x8=>(l339 x3 x4 x5 x6 x7 x8)) (λ_ _ x3 x4 x5 x6 x7 x8=>(l339 x3 x4 x5 x6 x7 x8)) (λ_ _ x3 x4 x5 x6 x7 x8=>(l339 x3 x4 x5 x6 x7 x8)) (λ_ x2 x3 x4 x5 x6 x7=>(l339 x2 x3 x4 x5 x6 x7)) (λ_ _ _ x4 x5 x6 x7 x8 x9=>(l339 x4 x5 x6 x7 x8 x9)) (λ_ _ _ _ _ _ _=>none) (λ_ x2 x3 x4 x5 x6 x7=>(l339 x2 x3 x4 x5 x6 x7)) (λ_ _ x3 x4 x5 x6 x7 x8=>(l339 x3 x4 x5 x6 x7 x8)) x0))
theorem l340_eq : ∀ x0 x1 x2 x3 x4 x5 x6, (Eq (l340 x0 x1 x2 x3 x4 x5 x6) (@ifaceOk'._sparseCasesOn_1 (λ_=>t4) x0 (λ_=>none) (λ_=>(l339 x1 x2 x3 x4 x5 x6)))) := by intro t; cases t <;> (intros; rfl)
abbrev t908:=t336 → t906
def l341 : t908 := (λx0=>(@Option.rec TypeDesc (λ_=>t906) (λ_ _ _ _ _ _=>none) (λx1 x2 x3 x4 x5 x6 x7=>(l340 x1 x2 x3 x4 x5 x6 x7)) x0))
theorem l341_eq : ∀ x0 x1 x2 x3 x4 x5 x6, (Eq (l341 x0 x1 x2 x3 x4 x5 x6) (@elInfo._sparseCasesOn_3 TypeDesc (λ_=>t4) x0 (λx7=>(l340 x7 x1 x2 x3 x4 x5 x6)) (λ_=>none))) := by intro t; cases t <;> (intros; rfl)
def k_o_typeAssert : t906 := (λx0 x1 x2 x3 x4 x5=>(l341 (Program.underlying x0 x3) x0 x1 x2 x3 x4 x5))
theorem k_o_typeAssert_eq : @k_o_typeAssert = o_typeAssert := by
  delta k_o_typeAssert o_typeAssert
  simp only [l337_eq, l336_eq, l335_eq, l341_eq, l339_eq, l340_eq, l338_eq]
  rw [k_oneZ_eq, k_ok1_eq, k_ev_eq]
  all_goals kernel_rfl

abbrev t909:=t7 → t740
def k_List_get?Internal_CV : t909 := (λx0 x1=>(@List.rec CV (λ_=>t740) (λ_=>none) (λx2 _ x4 x5=>(@Nat.rec (λ_=>t81) (some x2) (λx6 _=>(x4 x6)) x5)) x0 x1))
theorem k_List_get?Internal_CV_law : ∀ x0 x1, (Eq (k_List_get?Internal_CV x0 x1) (@List.get?Internal CV x0 x1)) := by
  intro t
  induction t with
  | nil  =>
    intro z0
    show ((fun (_ : Nat) => none) z0) = _
    conv => rhs; rw [List.get?Internal.eq_def]
    all_goals kernel_rfl
  | cons y0 y1 ih0 =>
    intro z0
    have e0 : (fun (x0 : Nat) => (k_List_get?Internal_CV y1 x0)) = (fun (x0 : Nat) => (@List.get?Internal CV y1 x0)) := by
      funext z0; exact ih0 z0
    show ((fun (x0 : CV) (_ : t7) (x2 : t740) (x3 : Nat) => (@Nat.rec (fun (_ : Nat) => t81) (some x0) (fun (x4 : Nat) (_ : t81) => (x2 x4)) x3)) y0 y1 (fun (x0 : Nat) => (k_List_get?Internal_CV y1 x0)) z0) = _
    rw [e0]
    conv => rhs; rw [List.get?Internal.eq_def]
    all_goals kernel_rfl
theorem k_List_get?Internal_CV_eq : @k_List_get?Internal_CV = (@List.get?Internal CV) := by
  funext a0 a1; exact k_List_get?Internal_CV_law a0 a1
abbrev t910:=CV → t106
def l342 : t910 := (λx0=>(@CV.rec (λ_=>t106) (λ_=>PUnit.{1}) (λ_ _=>none) (λ_ _ _=>none) (λ_ _ _ _=>none) (λ_ _ _ _ _ _ _=>none) (λ_ _=>none) (λ_ _ _=>none) (λ_ _ _ _=>none) (λx1 _ x3 x4=>(@Option.rec CV (λ_=>t4) none (λx5=>((λx6=>(k_ok1 x6 x4)) x5)) (k_List_get?Internal_CV x1 x3))) (λ_ _ _ _ _ _ _=>none) (λ_ _ _=>none) (λ_ _ _ _ _=>none) PUnit.unit.{1} (λ_ _ _ _=>PUnit.unit.{1}) x0))
theorem l342_eq : ∀ x0 x1 x2, (Eq (l342 x0 x1 x2) (@o_extract._sparseCasesOn_1 (λ_=>t4) x0 (λx3=>(@Option.rec CV (λ_=>t4) none (λx4=>((λx5=>(k_ok1 x5 x2)) x4)) (k_List_get?Internal_CV x3 x1))) (λ_=>none))) := by intro t; cases t <;> (intros; rfl)
abbrev t911:=t81 → t106
def l343 : t911 := (λx0=>(@Option.rec CV (λ_=>t106) (λ_ _=>none) (λx1 x2 x3=>(l342 x1 x2 x3)) x0))
theorem l343_eq : ∀ x0 x1 x2, (Eq (l343 x0 x1 x2) (@elInfo._sparseCasesOn_3 CV (λ_=>t4) x0 (λx3=>(l342 x3 x1 x2)) (λ_=>none))) := by intro t; cases t <;> (intros; rfl)
abbrev t912:=t14 → t820
abbrev t913:=Program → t912
def k_o_extract : t913 := (λ_ x1 x2 x3 x4=>(l343 (k_ev x1 x2) x3 x4))
theorem k_o_extract_eq : @k_o_extract = o_extract := by
  delta k_o_extract o_extract
  simp only [l342_eq, l343_eq]
  rw [k_ev_eq, k_List_get?Internal_CV_eq, k_ok1_eq]
  all_goals kernel_rfl

abbrev t914:=Nat → t838
abbrev t915:=t7 → t914
abbrev t916:=Nat → t915
abbrev t917:=Nat → t916
abbrev t918:=TypeId → t917
abbrev t919:=t497 → t918
def l346 : t919 := (λx0=>(@Option.rec Addr (λ_=>t918) (λx1 x2 x3 x4 x5 x6 x7 x8=>(@dite ((λ_=>t4) (CV.val (Value.slice none x7 x8))) (Eq x7 (@OfNat.ofNat Nat (nat_lit 0) (instOfNatNat (nat_lit 0)))) (instDecidableEqNat x7 (@OfNat.ofNat Nat (nat_lit 0) (instOfNatNat (nat_lit 0)))) (@Eq.ndrec_symm Nat (@OfNat.ofNat Nat (nat_lit 0) (instOfNatNat (nat_lit 0))) (λx9=>((λ_=>t4) (CV.val (Value.slice none x9 x8)))) (@dite ((λ_=>t4) (CV.val (Value.slice none (@OfNat.ofNat Nat (nat_lit 0) (instOfNatNat (nat_lit 0))) x8))) (Eq x8 (@OfNat.ofNat Nat (nat_lit 0) (instOfNatNat (nat_lit 0)))) (instDecidableEqNat x8 (@OfNat.ofNat Nat (nat_lit 0) (instOfNatNat (nat_lit 0)))) (@Eq.ndrec_symm Nat (@OfNat.ofNat Nat (nat_lit 0) (instOfNatNat (nat_lit 0))) (λx9=>((λ_=>t4) (CV.val (Value.slice none (@OfNat.ofNat Nat (nat_lit 0) (instOfNatNat (nat_lit 0))) x9)))) ((λ_=>(@cond t4 (Nat.beq x5 (@OfNat.ofNat Nat (nat_lit 0) (instOfNatNat (nat_lit 0)))) (some (Ret.ok (CV.val (Value.slice none (@OfNat.ofNat Nat (nat_lit 0) (instOfNatNat (nat_lit 0))) (@OfNat.ofNat Nat (nat_lit 0) (instOfNatNat (nat_lit 0))))) x6)) (@cond t4 (Bool.and (Nat.ble (@HMul.hMul Nat Nat Nat (@instHMul Nat instMulNat) x5 x3) (@OfNat.ofNat Nat (nat_lit 140737488355328) (instOfNatNat (nat_lit 140737488355328)))) (Nat.ble x5 (@OfNat.ofNat Nat (nat_lit 9223372036854775807) (instOfNatNat (nat_lit 9223372036854775807))))) (@nw Ret x6 (CO.row x1 x4 Bool.true) (λx10 x11=>(some (Ret.ok (CV.sl x10 (@OfNat.ofNat Nat (nat_lit 0) (instOfNatNat (nat_lit 0))) x5 none x2) x11)))) none))) Unit.unit) x8) (λ_=>((λ_=>none) (CV.val (Value.slice none (@OfNat.ofNat Nat (nat_lit 0) (instOfNatNat (nat_lit 0))) x8))))) x7) (λ_=>((λ_=>none) (CV.val (Value.slice none x7 x8)))))) (λ_ _ _ _ _ _ _ _ _=>none) x0))
theorem l346_eq : ∀ x0 x1 x2 x3 x4 x5 x6 x7 x8, (Eq (l346 x0 x1 x2 x3 x4 x5 x6 x7 x8) (@sliceV._sparseCasesOn_7 Addr (λ_=>t4) x0 (@dite ((λ_=>t4) (CV.val (Value.slice none x7 x8))) (Eq x7 (@OfNat.ofNat Nat (nat_lit 0) (instOfNatNat (nat_lit 0)))) (instDecidableEqNat x7 (@OfNat.ofNat Nat (nat_lit 0) (instOfNatNat (nat_lit 0)))) (@Eq.ndrec_symm Nat (@OfNat.ofNat Nat (nat_lit 0) (instOfNatNat (nat_lit 0))) (λx9=>((λ_=>t4) (CV.val (Value.slice none x9 x8)))) (@dite ((λ_=>t4) (CV.val (Value.slice none (@OfNat.ofNat Nat (nat_lit 0) (instOfNatNat (nat_lit 0))) x8))) (Eq x8 (@OfNat.ofNat Nat (nat_lit 0) (instOfNatNat (nat_lit 0)))) (instDecidableEqNat x8 (@OfNat.ofNat Nat (nat_lit 0) (instOfNatNat (nat_lit 0)))) (@Eq.ndrec_symm Nat (@OfNat.ofNat Nat (nat_lit 0) (instOfNatNat (nat_lit 0))) (λx9=>((λ_=>t4) (CV.val (Value.slice none (@OfNat.ofNat Nat (nat_lit 0) (instOfNatNat (nat_lit 0))) x9)))) ((λ_=>(@cond t4 (Nat.beq x5 (@OfNat.ofNat Nat (nat_lit 0) (instOfNatNat (nat_lit 0)))) (some (Ret.ok (CV.val (Value.slice none (@OfNat.ofNat Nat (nat_lit 0) (instOfNatNat (nat_lit 0))) (@OfNat.ofNat Nat (nat_lit 0) (instOfNatNat (nat_lit 0))))) x6)) (@cond t4 (Bool.and (Nat.ble (@HMul.hMul Nat Nat Nat (@instHMul Nat instMulNat) x5 x3) (@OfNat.ofNat Nat (nat_lit 140737488355328) (instOfNatNat (nat_lit 140737488355328)))) (Nat.ble x5 (@OfNat.ofNat Nat (nat_lit 9223372036854775807) (instOfNatNat (nat_lit 9223372036854775807))))) (@nw Ret x6 (CO.row x1 x4 Bool.true) (λx10 x11=>(some (Ret.ok (CV.sl x10 (@OfNat.ofNat Nat (nat_lit 0) (instOfNatNat (nat_lit 0))) x5 none x2) x11)))) none))) Unit.unit) x8) (λ_=>((λ_=>none) (CV.val (Value.slice none (@OfNat.ofNat Nat (nat_lit 0) (instOfNatNat (nat_lit 0))) x8))))) x7) (λ_=>((λ_=>none) (CV.val (Value.slice none x7 x8))))) (λ_=>none))) := by intro t; cases t <;> (intros; rfl)
abbrev t920:=t7 → t106
abbrev t921:=Nat → t920
abbrev t922:=Nat → t921
abbrev t923:=TypeId → t922
abbrev t924:=Value → t923
def l347 : t924 := (λx0=>(@Value.rec (λ_=>t923) (λ_=>PUnit.{1}) (λ_=>PUnit.{1}) (λ_ _ _ _ _ _ _=>none) (λ_ _ _ _ _ _ _ _=>none) (λ_ _ _ _ _ _ _ _=>none) (λ_ _ _ _ _ _ _ _ _=>none) (λ_ _ _ _ _ _ _=>none) (λ_ _ _ _ _ _ _=>none) (λx1 x2 x3 x4 x5 x6 x7 x8 x9=>(l346 x1 x4 x5 x6 x7 x8 x9 x2 x3)) (λ_ _ _ _ _ _ _=>none) (λ_ _ _ _ _ _ _=>none) (λ_ _ _ _ _ _ _ _ _ _ _=>none) (λ_ _ _ _ _ _=>none) (λ_ _ _ _ _ _ _ _ _=>none) (λ_ _ _ _ _ _=>none) (λ_ _ _ _ _ _ _ _=>none) (λ_ _ _ _ _ _ _ _=>none) (λ_ _=>PUnit.unit.{1}) PUnit.unit.{1} (λ_ _ _ _=>PUnit.unit.{1}) x0))
theorem l347_eq : ∀ x0 x1 x2 x3 x4 x5 x6, (Eq (l347 x0 x1 x2 x3 x4 x5 x6) (@sliceV._sparseCasesOn_6 (λ_=>t4) x0 (λx7 x8 x9=>(l346 x7 x1 x2 x3 x4 x5 x6 x8 x9)) (λ_=>none))) := by intro t; cases t <;> (intros; rfl)
abbrev t925:=Nat → t106
abbrev t926:=Nat → t925
abbrev t927:=Nat → t926
abbrev t928:=TypeId → t927
abbrev t929:=t31 → t928
def l348 : t929 := (λx0=>(@Option.rec t7 (λ_=>t928) (λ_ _ _ _ _ _=>none) (λx1 x2 x3 x4 x5 x6 x7=>((λx8=>(k_wr_Ret x7 x5 none (λx9=>(k_nw_Ret x9 (CO.row x2 x8 Bool.true) (λx10 x11=>(some (Ret.ok (CV.sl x10 (nat_lit 0) (Nat.add x6 x4) none x3) x11))))))) x1)) x0))
theorem l348_eq : ∀ x0 x1 x2 x3 x4 x5 x6, (Eq (l348 x0 x1 x2 x3 x4 x5 x6) (@Option.rec t7 (λ_=>t4) none (λx7=>((λx8=>(k_wr_Ret x6 x4 none (λx9=>(k_nw_Ret x9 (CO.row x1 x8 Bool.true) (λx10 x11=>(some (Ret.ok (CV.sl x10 (nat_lit 0) (Nat.add x5 x3) none x2) x11))))))) x7)) x0)) := by intro t; cases t <;> (intros; rfl)
def k_cat_CV : t238 := (λx0 x1=>(@List.rec CV (λ_=>t32) (λx2=>(some x2)) (λx2 _ x4 x5=>(@Option.rec t7 (λ_=>t31) none (λx6=>(some (x2 :: x6))) (x4 x5))) x0 x1))
theorem k_cat_CV_law : ∀ x0 x1, (Eq (k_cat_CV x0 x1) (@cat CV x0 x1)) := by
  intro t
  induction t with
  | nil  =>
    intro z0
    show ((fun (x0 : t7) => (some x0)) z0) = _
    conv => rhs; rw [Ev.cat.eq_def]
    all_goals kernel_rfl
  | cons y0 y1 ih0 =>
    intro z0
    have e0 : (fun (x0 : t7) => (k_cat_CV y1 x0)) = (fun (x0 : t7) => (@cat CV y1 x0)) := by
      funext z0; exact ih0 z0
    show ((fun (x0 : CV) (_ : t7) (x2 : t32) (x3 : t7) => (@Option.rec t7 (fun (_ : t31) => t31) none (fun (x4 : t7) => (some (x0 :: x4))) (x2 x3))) y0 y1 (fun (x0 : t7) => (k_cat_CV y1 x0)) z0) = _
    rw [e0]
    conv => rhs; rw [Ev.cat.eq_def]
    all_goals kernel_rfl
theorem k_cat_CV_eq : @k_cat_CV = (@cat CV) := by
  funext a0 a1; exact k_cat_CV_law a0 a1
abbrev t930:=TypeId → t252
abbrev t931:=S → t930
abbrev t932:=Nat → t931
abbrev t933:=Nat → t932
abbrev t934:=Nat → t933
abbrev t935:=t7 → t934
abbrev t936:=Nat → t935
abbrev t937:=TypeId → t936
abbrev t938:=Bool → t937
def l349 : t938 := (λx0=>(@Bool.rec (λ_=>t937) (λ_ _ _ _ _ _ _ _ _=>none) (λx1 x2 x3 x4 x5 x6 x7 x8 x9=>(@Bool.rec (λ_=>t4) none (l348 (k_cat_CV x9 x3) x1 x2 x4 x5 x6 x7) (@Bool.rec (λ_=>Bool) Bool.false (Nat.beq (k_len x9) (Nat.mul x6 x2)) (Nat.beq x8 x1)))) x0))
theorem l349_eq : ∀ x0 x1 x2 x3 x4 x5 x6 x7 x8 x9, (Eq (l349 x0 x1 x2 x3 x4 x5 x6 x7 x8 x9) (@appendV._sparseCasesOn_1 (λ_=>t4) x0 (@Bool.rec (λ_=>t4) none (l348 (k_cat_CV x9 x3) x1 x2 x4 x5 x6 x7) (@Bool.rec (λ_=>Bool) Bool.false (Nat.beq (k_len x9) (Nat.mul x6 x2)) (Nat.beq x8 x1))) (λ_=>none))) := by intro t; cases t <;> (intros; rfl)
abbrev t939:=t7 → t926
abbrev t940:=Nat → t939
abbrev t941:=TypeId → t940
abbrev t942:=CO → t941
def l350 : t942 := (λx0=>(@CO.rec (λ_=>t941) (λx1 x2 x3 x4 x5 x6 x7 x8 x9 x10=>(l349 x3 x4 x5 x6 x7 x8 x9 x10 x1 x2)) (λ_ _ _ _ _ _ _ _ _ _=>none) (λ_ _ _ _ _ _ _ _ _ _ _ _ _ _ _=>none) (λ_ _ _ _ _ _ _=>none) (λ_ _ _ _ _ _ _=>none) x0))
theorem l350_eq : ∀ x0 x1 x2 x3 x4 x5 x6 x7, (Eq (l350 x0 x1 x2 x3 x4 x5 x6 x7) (@rdRow._sparseCasesOn_1 (λ_=>t4) x0 (λx8 x9 x10=>(l349 x10 x1 x2 x3 x4 x5 x6 x7 x8 x9)) (λ_=>none))) := by intro t; cases t <;> (intros; rfl)
abbrev t943:=Bool → t918
def l351 : t943 := (λx0=>(@Bool.rec (λ_=>t918) (λx1 x2 x3 x4 x5 x6 x7 x8=>(@Bool.rec (λ_=>t4) none (k_rd_Ret x6 x7 (λx9 x10=>(l350 x9 x1 x2 x4 x5 x7 x8 x10))) (@Bool.rec (λ_=>Bool) Bool.false (Nat.ble (Nat.add x8 x5) (nat_lit 9223372036854775807)) (Nat.ble (Nat.mul (Nat.add x8 x5) x3) (nat_lit 140737488355328))))) (λ_ _ _ _ _ _ _ _=>none) x0))
theorem l351_eq : ∀ x0 x1 x2 x3 x4 x5 x6 x7 x8, (Eq (l351 x0 x1 x2 x3 x4 x5 x6 x7 x8) (@Bool.rec (λ_=>t4) (@Bool.rec (λ_=>t4) none (k_rd_Ret x6 x7 (λx9 x10=>(l350 x9 x1 x2 x4 x5 x7 x8 x10))) (@Bool.rec (λ_=>Bool) Bool.false (Nat.ble (Nat.add x8 x5) (nat_lit 9223372036854775807)) (Nat.ble (Nat.mul (Nat.add x8 x5) x3) (nat_lit 140737488355328)))) none x0)) := by intro t; cases t <;> (intros; rfl)
abbrev t944:=TypeId → t926
abbrev t945:=t31 → t944
def l352 : t945 := (λx0=>(@Option.rec t7 (λ_=>t944) (λ_ _ _ _ _=>none) (λx1 x2 x3 x4 x5 x6=>((λx7=>(k_nw_Ret x6 (CO.row x2 x7 Bool.true) (λx8 x9=>(some (Ret.ok (CV.sl x8 (nat_lit 0) (Nat.add x5 x4) none x3) x9))))) x1)) x0))
theorem l352_eq : ∀ x0 x1 x2 x3 x4 x5, (Eq (l352 x0 x1 x2 x3 x4 x5) (@Option.rec t7 (λ_=>t4) none (λx6=>((λx7=>(k_nw_Ret x5 (CO.row x1 x7 Bool.true) (λx8 x9=>(some (Ret.ok (CV.sl x8 (nat_lit 0) (Nat.add x4 x3) none x2) x9))))) x6)) x0)) := by intro t; cases t <;> (intros; rfl)
abbrev t946:=Nat → t478
abbrev t947:=t7 → t946
abbrev t948:=Nat → t947
abbrev t949:=TypeId → t948
abbrev t950:=Bool → t949
def l353 : t950 := (λx0=>(@Bool.rec (λ_=>t949) (λ_ _ _ _ _ _ _ _=>none) (λx1 x2 x3 x4 x5 x6 x7 x8=>(k_rdRow x5 x6 x7 (Nat.mul x8 x2) (λx9 x10=>(l352 (k_cat_CV x9 x3) x1 x2 x4 x8 x10)))) x0))
theorem l353_eq : ∀ x0 x1 x2 x3 x4 x5 x6 x7 x8, (Eq (l353 x0 x1 x2 x3 x4 x5 x6 x7 x8) (@Bool.rec (λ_=>t4) none (k_rdRow x5 x6 x7 (Nat.mul x8 x2) (λx9 x10=>(l352 (k_cat_CV x9 x3) x1 x2 x4 x8 x10))) x0)) := by intro t; cases t <;> (intros; rfl)
abbrev t951:=TypeId → t488
abbrev t952:=S → t951
abbrev t953:=Nat → t952
abbrev t954:=Nat → t953
abbrev t955:=Nat → t954
abbrev t956:=Nat → t955
abbrev t957:=Nat → t956
abbrev t958:=Nat → t957
abbrev t959:=t31 → t958
def l354 : t959 := (λx0=>(@Option.rec t7 (λ_=>t958) (λ_ _ _ _ _ _ _ _ _=>none) (λx1 x2 x3 x4 x5 x6 x7 x8 x9 x10=>((λx11=>(k_wr_Ret x8 x3 (some (CO.row x9 x11 x10)) (λx12=>(some (Ret.ok (CV.sl x3 x4 (Nat.add x5 x2) (some x6) x7) x12))))) x1)) x0))
theorem l354_eq : ∀ x0 x1 x2 x3 x4 x5 x6 x7 x8 x9, (Eq (l354 x0 x1 x2 x3 x4 x5 x6 x7 x8 x9) (@Option.rec t7 (λ_=>t4) none (λx10=>((λx11=>(k_wr_Ret x7 x2 (some (CO.row x8 x11 x9)) (λx12=>(some (Ret.ok (CV.sl x2 x3 (Nat.add x4 x1) (some x5) x6) x12))))) x10)) x0)) := by intro t; cases t <;> (intros; rfl)
abbrev t960:=Nat → t927
abbrev t961:=Nat → t960
abbrev t962:=t7 → t961
abbrev t963:=Nat → t962
abbrev t964:=CO → t963
def l355 : t964 := (λx0=>(@CO.rec (λ_=>t963) (λx1 x2 x3 x4 x5 x6 x7 x8 x9 x10 x11 x12=>(l354 (k_putN (Nat.add x8 (Nat.mul x9 x4)) x5 x2) x6 x7 x8 x9 x10 x11 x12 x1 x3)) (λ_ _ _ _ _ _ _ _ _ _ _ _=>none) (λ_ _ _ _ _ _ _ _ _ _ _ _ _ _ _ _ _=>none) (λ_ _ _ _ _ _ _ _ _=>none) (λ_ _ _ _ _ _ _ _ _=>none) x0))
theorem l355_eq : ∀ x0 x1 x2 x3 x4 x5 x6 x7 x8 x9, (Eq (l355 x0 x1 x2 x3 x4 x5 x6 x7 x8 x9) (@rdRow._sparseCasesOn_1 (λ_=>t4) x0 (λx10 x11 x12=>(l354 (k_putN (Nat.add x5 (Nat.mul x6 x1)) x2 x11) x3 x4 x5 x6 x7 x8 x9 x10 x12)) (λ_=>none))) := by intro t; cases t <;> (intros; rfl)
abbrev t965:=Nat → t825
abbrev t966:=t7 → t965
abbrev t967:=Nat → t966
abbrev t968:=Nat → t967
abbrev t969:=TypeId → t968
abbrev t970:=Bool → t969
def l356 : t970 := (λx0=>(@Bool.rec (λ_=>t969) (λx1 x2 x3 x4 x5 x6 x7 x8 x9 _ _=>(l353 (@Bool.rec (λ_=>Bool) Bool.false (Nat.ble (Nat.add x9 x5) (nat_lit 9223372036854775807)) (Nat.ble (Nat.mul (Nat.add x9 x5) x3) (nat_lit 140737488355328))) x1 x2 x4 x5 x6 x7 x8 x9)) (λ_ x2 _ x4 x5 x6 x7 x8 x9 x10 x11=>(k_rd_Ret x6 x7 (λx12 x13=>(l355 x12 x2 x4 x5 x7 x8 x9 x10 x11 x13)))) x0))
theorem l356_eq : ∀ x0 x1 x2 x3 x4 x5 x6 x7 x8 x9 x10 x11, (Eq (l356 x0 x1 x2 x3 x4 x5 x6 x7 x8 x9 x10 x11) (@Bool.rec (λ_=>t4) (l353 (@Bool.rec (λ_=>Bool) Bool.false (Nat.ble (Nat.add x9 x5) (nat_lit 9223372036854775807)) (Nat.ble (Nat.mul (Nat.add x9 x5) x3) (nat_lit 140737488355328))) x1 x2 x4 x5 x6 x7 x8 x9) (k_rd_Ret x6 x7 (λx12 x13=>(l355 x12 x2 x4 x5 x7 x8 x9 x10 x11 x13))) x0)) := by intro t; cases t <;> (intros; rfl)
def l357 : t970 := (λx0=>(@Bool.rec (λ_=>t969) (λx1 x2 x3 x4 x5 x6 x7 x8 x9 x10 x11=>(l356 (Nat.ble (Nat.add x9 x5) x10) x1 x2 x3 x4 x5 x6 x7 x8 x9 x10 x11)) (λ_ _ _ _ _ _ _ _ _ _ _=>none) x0))
theorem l357_eq : ∀ x0 x1 x2 x3 x4 x5 x6 x7 x8 x9 x10 x11, (Eq (l357 x0 x1 x2 x3 x4 x5 x6 x7 x8 x9 x10 x11) (@Bool.rec (λ_=>t4) (l356 (Nat.ble (Nat.add x9 x5) x10) x1 x2 x3 x4 x5 x6 x7 x8 x9 x10 x11) none x0)) := by intro t; cases t <;> (intros; rfl)
abbrev t971:=Nat → t670
abbrev t972:=t7 → t971
abbrev t973:=Nat → t972
abbrev t974:=Nat → t973
abbrev t975:=TypeId → t974
abbrev t976:=t164 → t975
def l358 : t976 := (λx0=>(@Option.rec Nat (λ_=>t975) (λx1 x2 x3 x4 x5 x6 x7 x8 x9 x10=>(l351 (@Bool.rec (λ_=>Bool) Bool.true Bool.false (@Bool.rec (λ_=>Bool) Bool.false (Nat.beq x8 (nat_lit 0)) (Nat.beq x10 x2))) x1 x2 x3 x4 x5 x6 x7 x9)) (λx1 x2 x3 x4 x5 x6 x7 x8 x9 x10 x11=>((λx12 x13 x14 x15 x16=>(l357 (@Bool.rec (λ_=>Bool) Bool.true Bool.false (Nat.beq x16 x3)) x2 x3 x4 x5 x6 x7 x12 x13 x14 x15 x16)) x8 x9 x10 x1 x11)) x0))
theorem l358_eq : ∀ x0 x1 x2 x3 x4 x5 x6 x7 x8 x9 x10, (Eq (l358 x0 x1 x2 x3 x4 x5 x6 x7 x8 x9 x10) (@Option.rec Nat (λ_=>t4) (l351 (@Bool.rec (λ_=>Bool) Bool.true Bool.false (@Bool.rec (λ_=>Bool) Bool.false (Nat.beq x8 (nat_lit 0)) (Nat.beq x10 x2))) x1 x2 x3 x4 x5 x6 x7 x9) (λx11=>((λx12 x13 x14 x15 x16=>(l357 (@Bool.rec (λ_=>Bool) Bool.true Bool.false (Nat.beq x16 x2)) x1 x2 x3 x4 x5 x6 x12 x13 x14 x15 x16)) x7 x8 x9 x11 x10)) x0)) := by intro t; cases t <;> (intros; rfl)
abbrev t977:=CV → t923
def l359 : t977 := (λx0=>(@CV.rec (λ_=>t923) (λ_=>PUnit.{1}) (λ_ _ _ _ _ _=>none) (λx1 x2 x3 x4 x5 x6 x7=>(l347 x1 x2 x3 x4 x5 x6 x7)) (λ_ _ _ _ _ _ _ _=>none) (λx1 x2 x3 x4 x5 x6 x7 x8 x9 x10 x11=>(l358 x4 x6 x7 x8 x9 x10 x11 x1 x2 x3 x5)) (λ_ _ _ _ _ _=>none) (λ_ _ _ _ _ _ _=>none) (λ_ _ _ _ _ _ _ _=>none) (λ_ _ _ _ _ _ _ _=>none) (λ_ _ _ _ _ _ _ _ _ _ _=>none) (λ_ _ _ _ _ _ _=>none) (λ_ _ _ _ _ _ _ _ _=>none) PUnit.unit.{1} (λ_ _ _ _=>PUnit.unit.{1}) x0))
theorem l359_eq : ∀ x0 x1 x2 x3 x4 x5 x6, (Eq (l359 x0 x1 x2 x3 x4 x5 x6) (@appendV._sparseCasesOn_2 (λ_=>t4) x0 (λx7=>(l347 x7 x1 x2 x3 x4 x5 x6)) (λx7 x8 x9 x10 x11=>(l358 x10 x1 x2 x3 x4 x5 x6 x7 x8 x9 x11)) (λ_=>none))) := by intro t; cases t <;> (intros; rfl)
abbrev t978:=t920 → t47
abbrev t979:=S → t978
abbrev t980:=t497 → t979
def l361 : t980 := (λx0=>(@Option.rec Addr (λ_=>t979) (λx1 x2 x3 x4=>(@dite ((λ_=>t4) (CV.val (Value.slice none x3 x4))) (Eq x3 (@OfNat.ofNat Nat (nat_lit 0) (instOfNatNat (nat_lit 0)))) (instDecidableEqNat x3 (@OfNat.ofNat Nat (nat_lit 0) (instOfNatNat (nat_lit 0)))) (@Eq.ndrec_symm Nat (@OfNat.ofNat Nat (nat_lit 0) (instOfNatNat (nat_lit 0))) (λx5=>((λ_=>t4) (CV.val (Value.slice none x5 x4)))) (@dite ((λ_=>t4) (CV.val (Value.slice none (@OfNat.ofNat Nat (nat_lit 0) (instOfNatNat (nat_lit 0))) x4))) (Eq x4 (@OfNat.ofNat Nat (nat_lit 0) (instOfNatNat (nat_lit 0)))) (instDecidableEqNat x4 (@OfNat.ofNat Nat (nat_lit 0) (instOfNatNat (nat_lit 0)))) (@Eq.ndrec_symm Nat (@OfNat.ofNat Nat (nat_lit 0) (instOfNatNat (nat_lit 0))) (λx5=>((λ_=>t4) (CV.val (Value.slice none (@OfNat.ofNat Nat (nat_lit 0) (instOfNatNat (nat_lit 0))) x5)))) ((λ_=>(x2 [] (@OfNat.ofNat Nat (nat_lit 0) (instOfNatNat (nat_lit 0))) x1)) Unit.unit) x4) (λ_=>((λ_=>none) (CV.val (Value.slice none (@OfNat.ofNat Nat (nat_lit 0) (instOfNatNat (nat_lit 0))) x4))))) x3) (λ_=>((λ_=>none) (CV.val (Value.slice none x3 x4)))))) (λ_ _ _ _ _=>none) x0))
theorem l361_eq : ∀ x0 x1 x2 x3 x4, (Eq (l361 x0 x1 x2 x3 x4) (@sliceV._sparseCasesOn_7 Addr (λ_=>t4) x0 (@dite ((λ_=>t4) (CV.val (Value.slice none x3 x4))) (Eq x3 (@OfNat.ofNat Nat (nat_lit 0) (instOfNatNat (nat_lit 0)))) (instDecidableEqNat x3 (@OfNat.ofNat Nat (nat_lit 0) (instOfNatNat (nat_lit 0)))) (@Eq.ndrec_symm Nat (@OfNat.ofNat Nat (nat_lit 0) (instOfNatNat (nat_lit 0))) (λx5=>((λ_=>t4) (CV.val (Value.slice none x5 x4)))) (@dite ((λ_=>t4) (CV.val (Value.slice none (@OfNat.ofNat Nat (nat_lit 0) (instOfNatNat (nat_lit 0))) x4))) (Eq x4 (@OfNat.ofNat Nat (nat_lit 0) (instOfNatNat (nat_lit 0)))) (instDecidableEqNat x4 (@OfNat.ofNat Nat (nat_lit 0) (instOfNatNat (nat_lit 0)))) (@Eq.ndrec_symm Nat (@OfNat.ofNat Nat (nat_lit 0) (instOfNatNat (nat_lit 0))) (λx5=>((λ_=>t4) (CV.val (Value.slice none (@OfNat.ofNat Nat (nat_lit 0) (instOfNatNat (nat_lit 0))) x5)))) ((λ_=>(x2 [] (@OfNat.ofNat Nat (nat_lit 0) (instOfNatNat (nat_lit 0))) x1)) Unit.unit) x4) (λ_=>((λ_=>none) (CV.val (Value.slice none (@OfNat.ofNat Nat (nat_lit 0) (instOfNatNat (nat_lit 0))) x4))))) x3) (λ_=>((λ_=>none) (CV.val (Value.slice none x3 x4))))) (λ_=>none))) := by intro t; cases t <;> (intros; rfl)
abbrev t981:=t920 → t4
abbrev t982:=S → t981
abbrev t983:=Value → t982
def l362 : t983 := (λx0=>(@Value.rec (λ_=>t982) (λ_=>PUnit.{1}) (λ_=>PUnit.{1}) (λ_ _ _=>none) (λ_ _ _ _=>none) (λ_ _ _ _=>none) (λ_ _ _ _ _=>none) (λ_ _ _=>none) (λ_ _ _=>none) (λx1 x2 x3 x4 x5=>(l361 x1 x4 x5 x2 x3)) (λ_ _ _=>none) (λ_ _ _=>none) (λ_ _ _ _ _ _ _=>none) (λ_ _=>none) (λ_ _ _ _ _=>none) (λ_ _=>none) (λ_ _ _ _=>none) (λ_ _ _ _=>none) (λ_ _=>PUnit.unit.{1}) PUnit.unit.{1} (λ_ _ _ _=>PUnit.unit.{1}) x0))
theorem l362_eq : ∀ x0 x1 x2, (Eq (l362 x0 x1 x2) (@sliceV._sparseCasesOn_6 (λ_=>t4) x0 (λx3 x4 x5=>(l361 x3 x1 x2 x4 x5)) (λ_=>none))) := by intro t; cases t <;> (intros; rfl)
abbrev t984:=t920 → t41
abbrev t985:=S → t984
abbrev t986:=CV → t985
def l363 : t986 := (λx0=>(@CV.rec (λ_=>t985) (λ_=>PUnit.{1}) (λ_ _ _=>none) (λx1 x2 x3 _=>(l362 x1 x2 x3)) (λ_ _ _ _ _=>none) (λx1 x2 x3 _ x5 x6 x7 x8=>(@Bool.rec (λ_=>t4) none (k_rdRow x6 x1 x2 (Nat.mul x3 x8) (λx9 x10=>(x7 x9 x3 x10))) (Nat.beq x5 x8))) (λx1 x2 _=>(x2 [] (nat_lit 0) x1)) (λ_ _ _ _=>none) (λ_ _ _ _ _=>none) (λ_ _ _ _ _=>none) (λ_ _ _ _ _ _ _ _=>none) (λ_ _ _ _=>none) (λ_ _ _ _ _ _=>none) PUnit.unit.{1} (λ_ _ _ _=>PUnit.unit.{1}) x0))
theorem l363_eq : ∀ x0 x1 x2 x3, (Eq (l363 x0 x1 x2 x3) (@sliceV._sparseCasesOn_5 (λ_=>t4) x0 (λx4 x5 x6 _ x8=>(@Bool.rec (λ_=>t4) none (k_rdRow x1 x4 x5 (Nat.mul x6 x3) (λx9 x10=>(x2 x9 x6 x10))) (Nat.beq x8 x3))) (x2 [] (nat_lit 0) x1) (λx4=>(l362 x4 x1 x2)) (λ_=>none))) := by intro t; cases t <;> (intros; rfl)
abbrev t987:=CV → t982
abbrev t988:=Nat → t987
def k_srcCells : t988 := (λx0 x1 x2 x3=>(l363 x1 x2 x3 x0))
theorem k_srcCells_eq : @k_srcCells = srcCells := by
  delta k_srcCells srcCells
  simp only [l361_eq, l363_eq, l362_eq]
  rw [k_rdRow_eq]
  all_goals kernel_rfl

abbrev t989:=CV → t656
abbrev t990:=CV → t989
abbrev t991:=Bool → t990
def l360 : t991 := (λx0=>(@Bool.rec (λ_=>t990) (λx1 x2 x3 x4 x5 x6=>(k_srcCells x5 x2 x3 (λx7 x8 x9=>(@Bool.rec (λ_=>t4) (l359 x1 x4 x5 x6 x7 x8 x9) none (@Bool.rec (λ_=>Bool) Bool.true Bool.false (k_allOne x7)))))) (λ_ _ _ _ _ _=>none) x0))
theorem l360_eq : ∀ x0 x1 x2 x3 x4 x5 x6, (Eq (l360 x0 x1 x2 x3 x4 x5 x6) (@Bool.rec (λ_=>t4) (k_srcCells x5 x2 x3 (λx7 x8 x9=>(@Bool.rec (λ_=>t4) (l359 x1 x4 x5 x6 x7 x8 x9) none (@Bool.rec (λ_=>Bool) Bool.true Bool.false (k_allOne x7))))) none x0)) := by intro t; cases t <;> (intros; rfl)
abbrev t992:=CV → t286
abbrev t993:=CV → t992
abbrev t994:=t319 → t993
def l364 : t994 := (λx0=>(@Prod.rec Nat t213 (λ_=>t993) (λx1 x2 x3 x4 x5 x6 x7=>((λx8 x9 x10 x11=>(l360 (@Bool.rec (λ_=>Bool) Bool.true Bool.false (@Bool.rec (λ_=>Bool) Bool.false (Nat.beq (@List.length Value x11) x9) (k_Nat_blt (nat_lit 0) x9))) x3 x4 x5 x8 x9 x10)) x6 x7 x1 x2)) x0))
theorem l364_eq : ∀ x0 x1 x2 x3 x4 x5, (Eq (l364 x0 x1 x2 x3 x4 x5) (@Prod.rec Nat t213 (λ_=>t4) (λx6 x7=>((λx8 x9 x10 x11=>(l360 (@Bool.rec (λ_=>Bool) Bool.true Bool.false (@Bool.rec (λ_=>Bool) Bool.false (Nat.beq (@List.length Value x11) x9) (k_Nat_blt (nat_lit 0) x9))) x1 x2 x3 x8 x9 x10)) x4 x5 x6 x7)) x0)) := by intro t; cases t <;> (intros; rfl)
abbrev t995:=t327 → t428
def l365 : t995 := (λx0=>(@Option.rec t326 (λ_=>t428) (λ_ _ _=>none) (λx1 x2 x3 x4=>(@Prod.rec TypeId t320 (λ_=>t4) (λx5 x6=>(@Prod.rec Nat t319 (λ_=>t4) (λx7 x8=>(l364 x8 x2 x3 x4 x5 x7)) x6)) x1)) x0))
theorem l365_eq : ∀ x0 x1 x2 x3, (Eq (l365 x0 x1 x2 x3) (@Option.rec t326 (λ_=>t4) none (λx4=>(@Prod.rec TypeId t320 (λ_=>t4) (λx5 x6=>(@Prod.rec Nat t319 (λ_=>t4) (λx7 x8=>(l364 x8 x1 x2 x3 x5 x7)) x6)) x4)) x0)) := by intro t; cases t <;> (intros; rfl)
def k_appendV : t530 := (λx0 x1 x2 x3 x4=>(l365 (k_elInfo x0 x1) x2 x3 x4))
theorem k_appendV_eq : @k_appendV = appendV := by
  delta k_appendV appendV
  simp only [l346_eq, l348_eq, l351_eq, l365_eq, l356_eq, l360_eq, l353_eq, l357_eq, l350_eq, l352_eq, l359_eq, l358_eq, l355_eq, l349_eq, l354_eq, l347_eq, l364_eq]
  rw [k_elInfo_eq, k_wr_Ret_eq, k_nw_Ret_eq, k_len_eq, k_cat_CV_eq, k_rd_Ret_eq, k_rdRow_eq, k_putN_eq, k_srcCells_eq, k_allOne_eq, k_Nat_blt_eq]
  all_goals kernel_rfl

abbrev t996:=Program → t863
abbrev t997:=t81 → t996
def l345 : t997 := (λx0=>(@Option.rec CV (λ_=>t996) (λ_ _ _ _=>none) (λx1 x2 x3 x4 x5=>(k_appendV x2 x4 x5 x1 x3)) x0))
theorem l345_eq : ∀ x0 x1 x2 x3 x4, (Eq (l345 x0 x1 x2 x3 x4) (@elInfo._sparseCasesOn_3 CV (λ_=>t4) x0 (λx5=>(k_appendV x1 x3 x4 x5 x2)) (λ_=>none))) := by intro t; cases t <;> (intros; rfl)
abbrev t998:=Operand → t74
abbrev t999:=S → t998
abbrev t1000:=t14 → t999
abbrev t1001:=Program → t1000
abbrev t1002:=t81 → t1001
def l366 : t1002 := (λx0=>(@Option.rec CV (λ_=>t1001) (λ_ _ _ _ _=>none) (λx1 x2 x3 x4 x5 x6=>(l345 (k_ev x3 x5) x2 x4 x6 x1)) x0))
theorem l366_eq : ∀ x0 x1 x2 x3 x4 x5, (Eq (l366 x0 x1 x2 x3 x4 x5) (@elInfo._sparseCasesOn_3 CV (λ_=>t4) x0 (λx6=>(l345 (k_ev x2 x4) x1 x3 x5 x6)) (λ_=>none))) := by intro t; cases t <;> (intros; rfl)
abbrev t1003:=Operand → t998
abbrev t1004:=S → t1003
abbrev t1005:=t14 → t1004
abbrev t1006:=Program → t1005
abbrev t1007:=TypeDesc → t1006
def l367 : t1007 := (λx0=>(@TypeDesc.rec (λ_=>t1006) (λ_ _ _ _ _ _=>none) (λ_ _ _ _ _ _=>none) (λ_ _ _ _ _ _ _=>none) (λ_ _ _ _ _ _ _=>none) (λ_ _ _ _ _ _ _=>none) (λ_ _ _ _ _ _=>none) (λ_ _ _ _ _ _=>none) (λ_ _ _ _ _ _ _=>none) (λ_ x2 x3 x4 x5 x6 x7=>(l366 (k_ev x3 x5) x2 x3 x4 x6 x7)) (λ_ _ _ _ _ _ _ _=>none) (λ_ _ _ _ _ _ _ _=>none) (λ_ _ _ _ _ _ _ _=>none) (λ_ _ _ _ _ _ _=>none) (λ_ _ _ _ _ _ _ _ _=>none) (λ_ _ _ _ _ _ _=>none) (λ_ _ _ _ _ _ _=>none) (λ_ _ _ _ _ _ _ _=>none) x0))
theorem l367_eq : ∀ x0 x1 x2 x3 x4 x5 x6, (Eq (l367 x0 x1 x2 x3 x4 x5 x6) (@elInfo._sparseCasesOn_4 (λ_=>t4) x0 (λ_=>(l366 (k_ev x2 x4) x1 x2 x3 x5 x6)) (λ_=>none))) := by intro t; cases t <;> (intros; rfl)
abbrev t1008:=t336 → t1006
def l368 : t1008 := (λx0=>(@Option.rec TypeDesc (λ_=>t1006) (λ_ _ _ _ _ _=>none) (λx1 x2 x3 x4 x5 x6 x7=>(l367 x1 x2 x3 x4 x5 x6 x7)) x0))
theorem l368_eq : ∀ x0 x1 x2 x3 x4 x5 x6, (Eq (l368 x0 x1 x2 x3 x4 x5 x6) (@elInfo._sparseCasesOn_3 TypeDesc (λ_=>t4) x0 (λx7=>(l367 x7 x1 x2 x3 x4 x5 x6)) (λ_=>none))) := by intro t; cases t <;> (intros; rfl)
abbrev t1009:=List TypeId
abbrev t1010:=Operand → t880
abbrev t1011:=Operand → t1010
abbrev t1012:=S → t1011
abbrev t1013:=t14 → t1012
abbrev t1014:=Program → t1013
abbrev t1015:=t1009 → t1014
def l369 : t1015 := (λx0=>(@List.rec TypeId (λ_=>t1014) (λx1 x2 x3 x4 x5 x6 x7=>(l368 (Program.underlying x1 x7) x1 x2 x3 x4 x5 x6)) (λ_ _ _ _ _ _ _ _ _ _=>none) x0))
theorem l369_eq : ∀ x0 x1 x2 x3 x4 x5 x6 x7, (Eq (l369 x0 x1 x2 x3 x4 x5 x6 x7) (@zipIx._sparseCasesOn_2 TypeId (λ_=>t4) x0 (l368 (Program.underlying x1 x7) x1 x2 x3 x4 x5 x6) (λ_=>none))) := by intro t; cases t <;> (intros; rfl)
abbrev t1016:=t1009 → t1006
def l370 : t1016 := (λx0=>(@List.rec TypeId (λ_=>t1006) (λ_ _ _ _ _ _=>none) (λx1 x2 _ x4 x5 x6 x7 x8 x9=>(l369 x2 x4 x5 x6 x7 x8 x9 x1)) x0))
theorem l370_eq : ∀ x0 x1 x2 x3 x4 x5 x6, (Eq (l370 x0 x1 x2 x3 x4 x5 x6) (@zipIx._sparseCasesOn_3 TypeId (λ_=>t4) x0 (λx7 x8=>(l369 x8 x1 x2 x3 x4 x5 x6 x7)) (λ_=>none))) := by intro t; cases t <;> (intros; rfl)
abbrev t1017:=Operand → t194
abbrev t1018:=S → t1017
abbrev t1019:=t14 → t1018
abbrev t1020:=Program → t1019
abbrev t1021:=t1009 → t1020
def l371 : t1021 := (λx0=>(@List.rec TypeId (λ_=>t1020) (λ_ _ _ _ _=>none) (λx1 x2 _ x4 x5 x6 x7 x8=>(l370 x2 x4 x5 x6 x7 x8 x1)) x0))
theorem l371_eq : ∀ x0 x1 x2 x3 x4 x5, (Eq (l371 x0 x1 x2 x3 x4 x5) (@zipIx._sparseCasesOn_3 TypeId (λ_=>t4) x0 (λx6 x7=>(l370 x7 x1 x2 x3 x4 x5 x6)) (λ_=>none))) := by intro t; cases t <;> (intros; rfl)
abbrev t1022:=Call → t1018
abbrev t1023:=t14 → t1022
abbrev t1024:=Program → t1023
abbrev t1025:=t273 → t1024
def l372 : t1025 := (λx0=>(@List.rec Operand (λ_=>t1024) (λx1 x2 x3 x4 x5 x6=>(l371 (@Array.toList TypeId (Call.argTypes x3)) x1 x2 x4 x5 x6)) (λ_ _ _ _ _ _ _ _ _=>none) x0))
theorem l372_eq : ∀ x0 x1 x2 x3 x4 x5 x6, (Eq (l372 x0 x1 x2 x3 x4 x5 x6) (@zipIx._sparseCasesOn_2 Operand (λ_=>t4) x0 (l371 (@Array.toList TypeId (Call.argTypes x3)) x1 x2 x4 x5 x6) (λ_=>none))) := by intro t; cases t <;> (intros; rfl)
abbrev t1026:=Call → t195
abbrev t1027:=t14 → t1026
abbrev t1028:=Program → t1027
abbrev t1029:=t273 → t1028
def l373 : t1029 := (λx0=>(@List.rec Operand (λ_=>t1028) (λ_ _ _ _ _=>none) (λx1 x2 _ x4 x5 x6 x7 x8=>(l372 x2 x4 x5 x6 x7 x8 x1)) x0))
theorem l373_eq : ∀ x0 x1 x2 x3 x4 x5, (Eq (l373 x0 x1 x2 x3 x4 x5) (@zipIx._sparseCasesOn_3 Operand (λ_=>t4) x0 (λx6 x7=>(l372 x7 x1 x2 x3 x4 x5 x6)) (λ_=>none))) := by intro t; cases t <;> (intros; rfl)
abbrev t1030:=Call → t8
abbrev t1031:=t14 → t1030
abbrev t1032:=Program → t1031
abbrev t1033:=t273 → t1032
def l374 : t1033 := (λx0=>(@List.rec Operand (λ_=>t1032) (λ_ _ _ _=>none) (λx1 x2 _ x4 x5 x6 x7=>(l373 x2 x4 x5 x6 x7 x1)) x0))
theorem l374_eq : ∀ x0 x1 x2 x3 x4, (Eq (l374 x0 x1 x2 x3 x4) (@zipIx._sparseCasesOn_3 Operand (λ_=>t4) x0 (λx5 x6=>(l373 x6 x1 x2 x3 x4 x5)) (λ_=>none))) := by intro t; cases t <;> (intros; rfl)
def k_o_append : t1032 := (λx0 x1 x2 x3=>(l374 (@Array.toList Operand (Call.args x2)) x0 x1 x2 x3))
theorem k_o_append_eq : @k_o_append = o_append := by
  delta k_o_append o_append
  simp only [l345_eq, l367_eq, l369_eq, l374_eq, l373_eq, l371_eq, l368_eq, l372_eq, l370_eq, l366_eq]
  rw [k_appendV_eq, k_ev_eq]
  all_goals kernel_rfl

abbrev t1034:=t497 → t163
def l378 : t1034 := (λx0=>(@Option.rec Addr (λ_=>t163) (λx1 x2=>(@dite ((λ_=>Bool) (CV.val (Value.slice none x1 x2))) (Eq x1 (@OfNat.ofNat Nat (nat_lit 0) (instOfNatNat (nat_lit 0)))) (instDecidableEqNat x1 (@OfNat.ofNat Nat (nat_lit 0) (instOfNatNat (nat_lit 0)))) (@Eq.ndrec_symm Nat (@OfNat.ofNat Nat (nat_lit 0) (instOfNatNat (nat_lit 0))) (λx3=>((λ_=>Bool) (CV.val (Value.slice none x3 x2)))) (@dite ((λ_=>Bool) (CV.val (Value.slice none (@OfNat.ofNat Nat (nat_lit 0) (instOfNatNat (nat_lit 0))) x2))) (Eq x2 (@OfNat.ofNat Nat (nat_lit 0) (instOfNatNat (nat_lit 0)))) (instDecidableEqNat x2 (@OfNat.ofNat Nat (nat_lit 0) (instOfNatNat (nat_lit 0)))) (@Eq.ndrec_symm Nat (@OfNat.ofNat Nat (nat_lit 0) (instOfNatNat (nat_lit 0))) (λx3=>((λ_=>Bool) (CV.val (Value.slice none (@OfNat.ofNat Nat (nat_lit 0) (instOfNatNat (nat_lit 0))) x3)))) ((λ_=>Bool.true) Unit.unit) x2) (λ_=>((λ_=>Bool.false) (CV.val (Value.slice none (@OfNat.ofNat Nat (nat_lit 0) (instOfNatNat (nat_lit 0))) x2))))) x1) (λ_=>((λ_=>Bool.false) (CV.val (Value.slice none x1 x2)))))) (λ_ _ _=>Bool.false) x0))
theorem l378_eq : ∀ x0 x1 x2, (Eq (l378 x0 x1 x2) (@sliceV._sparseCasesOn_7 Addr (λ_=>Bool) x0 (@dite ((λ_=>Bool) (CV.val (Value.slice none x1 x2))) (Eq x1 (@OfNat.ofNat Nat (nat_lit 0) (instOfNatNat (nat_lit 0)))) (instDecidableEqNat x1 (@OfNat.ofNat Nat (nat_lit 0) (instOfNatNat (nat_lit 0)))) (@Eq.ndrec_symm Nat (@OfNat.ofNat Nat (nat_lit 0) (instOfNatNat (nat_lit 0))) (λx3=>((λ_=>Bool) (CV.val (Value.slice none x3 x2)))) (@dite ((λ_=>Bool) (CV.val (Value.slice none (@OfNat.ofNat Nat (nat_lit 0) (instOfNatNat (nat_lit 0))) x2))) (Eq x2 (@OfNat.ofNat Nat (nat_lit 0) (instOfNatNat (nat_lit 0)))) (instDecidableEqNat x2 (@OfNat.ofNat Nat (nat_lit 0) (instOfNatNat (nat_lit 0)))) (@Eq.ndrec_symm Nat (@OfNat.ofNat Nat (nat_lit 0) (instOfNatNat (nat_lit 0))) (λx3=>((λ_=>Bool) (CV.val (Value.slice none (@OfNat.ofNat Nat (nat_lit 0) (instOfNatNat (nat_lit 0))) x3)))) ((λ_=>Bool.true) Unit.unit) x2) (λ_=>((λ_=>Bool.false) (CV.val (Value.slice none (@OfNat.ofNat Nat (nat_lit 0) (instOfNatNat (nat_lit 0))) x2))))) x1) (λ_=>((λ_=>Bool.false) (CV.val (Value.slice none x1 x2))))) (λ_=>Bool.false))) := by intro t; cases t <;> (intros; rfl)
def l379 : t1 := (λx0=>(@Value.rec (λ_=>Bool) (λ_=>PUnit.{1}) (λ_=>PUnit.{1}) (λ_=>Bool.false) (λ_ _=>Bool.false) (λ_ _=>Bool.false) (λ_ _ _=>Bool.false) (λ_=>Bool.false) (λ_=>Bool.false) (λx1 x2 x3=>(l378 x1 x2 x3)) (λ_=>Bool.false) (λ_=>Bool.false) (λ_ _ _ _ _=>Bool.false) Bool.false (λ_ _ _=>Bool.false) Bool.false (λ_ _=>Bool.false) (λ_ _=>Bool.false) (λ_ _=>PUnit.unit.{1}) PUnit.unit.{1} (λ_ _ _ _=>PUnit.unit.{1}) x0))
theorem l379_eq : ∀ x0, (Eq (l379 x0) (@sliceV._sparseCasesOn_6 (λ_=>Bool) x0 (λx1 x2 x3=>(l378 x1 x2 x3)) (λ_=>Bool.false))) := by intro t; cases t <;> (intros; rfl)
def l380 : t2 := (λx0=>(@CV.rec (λ_=>Bool) (λ_=>PUnit.{1}) Bool.false (λx1=>(l379 x1)) (λ_ _=>Bool.false) (λ_ _ _ _ _=>Bool.false) Bool.true (λ_=>Bool.false) (λ_ _=>Bool.false) (λ_ _=>Bool.false) (λ_ _ _ _ _=>Bool.false) (λ_=>Bool.false) (λ_ _ _=>Bool.false) PUnit.unit.{1} (λ_ _ _ _=>PUnit.unit.{1}) x0))
theorem l380_eq : ∀ x0, (Eq (l380 x0) (@noSl._sparseCasesOn_1 (λ_=>Bool) x0 Bool.true (λx1=>(l379 x1)) (λ_=>Bool.false))) := by intro t; cases t <;> (intros; rfl)
def k_noSl : t2 := (λx0=>(l380 x0))
theorem k_noSl_eq : @k_noSl = noSl := by
  delta k_noSl noSl
  simp only [l378_eq, l379_eq, l380_eq]
  all_goals kernel_rfl

def l377 : t533 := (λx0=>(@CV.rec (λ_=>t2) (λ_=>PUnit.{1}) (λx1=>(k_noSl x1)) (λ_ x2=>(k_noSl x2)) (λ_ _ x3=>(k_noSl x3)) (λ_ _ _ _ _ _=>Bool.true) (λx1=>(k_noSl x1)) (λ_ x2=>(k_noSl x2)) (λ_ _ x3=>(k_noSl x3)) (λ_ _ x3=>(k_noSl x3)) (λ_ _ _ _ _ x6=>(k_noSl x6)) (λ_ x2=>(k_noSl x2)) (λ_ _ _ x4=>(k_noSl x4)) PUnit.unit.{1} (λ_ _ _ _=>PUnit.unit.{1}) x0))
theorem l377_eq : ∀ x0 x1, (Eq (l377 x0 x1) (@anySl._sparseCasesOn_1 (λ_=>Bool) x0 (λ_ _ _ _ _=>Bool.true) (λ_=>(k_noSl x1)))) := by intro t; cases t <;> (intros; rfl)
def k_anySl : t2 := (λx0=>(l377 x0 x0))
theorem k_anySl_eq : @k_anySl = anySl := by
  delta k_anySl anySl
  simp only [l377_eq]
  rw [k_noSl_eq]
  all_goals kernel_rfl

def l376 : t428 := (λx0 x1 x2=>(@Bool.rec (λ_=>t4) none (k_retI x2 IntKind.i64 (nat_lit 0)) (@Bool.rec (λ_=>Bool) Bool.false (k_anySl x1) (@Bool.rec (λ_=>Bool) Bool.false (k_anySl x0) (@Bool.rec (λ_=>Bool) (k_noSl x1) Bool.true (k_noSl x0))))))
theorem l376_eq : ∀ x0 x1 x2, (Eq (l376 x0 x1 x2) (@Bool.rec (λ_=>t4) none (k_retI x2 IntKind.i64 (nat_lit 0)) (@Bool.rec (λ_=>Bool) Bool.false (k_anySl x1) (@Bool.rec (λ_=>Bool) Bool.false (k_anySl x0) (@Bool.rec (λ_=>Bool) (k_noSl x1) Bool.true (k_noSl x0)))))) := by intros; rfl
abbrev t1035:=t164 → t41
abbrev t1036:=Nat → t1035
abbrev t1037:=Nat → t1036
abbrev t1038:=Nat → t1037
abbrev t1039:=S → t1038
abbrev t1040:=CV → t1039
def l381 : t1040 := (λx0 x1 x2 x3 x4 x5 x6=>(@Bool.rec (λ_=>t4) none (k_retI x1 IntKind.i64 (nat_lit 0)) (@Bool.rec (λ_=>Bool) Bool.false (k_anySl x0) (@Bool.rec (λ_=>Bool) Bool.false (k_anySl (CV.sl x2 x3 x4 x5 x6)) (@Bool.rec (λ_=>Bool) (k_noSl x0) Bool.true (k_noSl (CV.sl x2 x3 x4 x5 x6)))))))
theorem l381_eq : ∀ x0 x1 x2 x3 x4 x5 x6, (Eq (l381 x0 x1 x2 x3 x4 x5 x6) (@Bool.rec (λ_=>t4) none (k_retI x1 IntKind.i64 (nat_lit 0)) (@Bool.rec (λ_=>Bool) Bool.false (k_anySl x0) (@Bool.rec (λ_=>Bool) Bool.false (k_anySl (CV.sl x2 x3 x4 x5 x6)) (@Bool.rec (λ_=>Bool) (k_noSl x0) Bool.true (k_noSl (CV.sl x2 x3 x4 x5 x6))))))) := by intros; rfl
abbrev t1041:=Nat → Nat
abbrev t1042:=Nat → t1041
def k_minN : t1042 := (λx0 x1=>(@Bool.rec (λ_=>Nat) x1 x0 (Nat.ble x0 x1)))
theorem k_minN_eq : @k_minN = minN := by
  delta k_minN minN
  all_goals kernel_rfl

abbrev t1043:=t31 → t955
def l382 : t1043 := (λx0=>(@Option.rec t7 (λ_=>t955) (λ_ _ _ _ _ _=>none) (λx1 x2 x3 x4 x5 x6 x7=>((λx8=>(k_wr_Ret x5 x2 (some (CO.row x6 x8 x7)) (λx9=>(k_retI x9 IntKind.i64 (@Nat.cast Int (@NatCast.mk Int (λx10=>(Int.ofNat x10))) (k_minN x3 x4)))))) x1)) x0))
theorem l382_eq : ∀ x0 x1 x2 x3 x4 x5 x6, (Eq (l382 x0 x1 x2 x3 x4 x5 x6) (@Option.rec t7 (λ_=>t4) none (λx7=>((λx8=>(k_wr_Ret x4 x1 (some (CO.row x5 x8 x6)) (λx9=>(k_retI x9 IntKind.i64 (@Nat.cast Int (@NatCast.mk Int (λx10=>(Int.ofNat x10))) (k_minN x2 x3)))))) x7)) x0)) := by intro t; cases t <;> (intros; rfl)
abbrev t1044:=Nat → t9
abbrev t1045:=Nat → t1044
abbrev t1046:=Nat → t1045
abbrev t1047:=Nat → t1046
abbrev t1048:=CO → t1047
def l383 : t1048 := (λx0=>(@CO.rec (λ_=>t1047) (λx1 x2 x3 x4 x5 x6 x7 x8 x9=>(l382 (k_putN x5 x8 x2) x4 x6 x7 x9 x1 x3)) (λ_ _ _ _ _ _ _ _ _=>none) (λ_ _ _ _ _ _ _ _ _ _ _ _ _ _=>none) (λ_ _ _ _ _ _=>none) (λ_ _ _ _ _ _=>none) x0))
theorem l383_eq : ∀ x0 x1 x2 x3 x4 x5 x6, (Eq (l383 x0 x1 x2 x3 x4 x5 x6) (@rdRow._sparseCasesOn_1 (λ_=>t4) x0 (λx7 x8 x9=>(l382 (k_putN x2 x5 x8) x1 x3 x4 x6 x7 x9)) (λ_=>none))) := by intro t; cases t <;> (intros; rfl)
abbrev t1049:=Nat → t824
abbrev t1050:=Nat → t1049
abbrev t1051:=S → t1050
abbrev t1052:=Bool → t1051
def l384 : t1052 := (λx0=>(@Bool.rec (λ_=>t1051) (λ_ _ _ _ _ _ _ _=>none) (λx1 x2 x3 x4 x5 x6 x7 x8=>(k_rdRow x1 x6 x7 (Nat.mul (k_minN x5 x8) x2) (λx9 x10=>(@Bool.rec (λ_=>t4) none (k_rd_Ret x10 x3 (λx11 x12=>(l383 x11 x3 x4 x5 x8 x9 x12))) (k_allOne x9))))) x0))
theorem l384_eq : ∀ x0 x1 x2 x3 x4 x5 x6 x7 x8, (Eq (l384 x0 x1 x2 x3 x4 x5 x6 x7 x8) (@Bool.rec (λ_=>t4) none (k_rdRow x1 x6 x7 (Nat.mul (k_minN x5 x8) x2) (λx9 x10=>(@Bool.rec (λ_=>t4) none (k_rd_Ret x10 x3 (λx11 x12=>(l383 x11 x3 x4 x5 x8 x9 x12))) (k_allOne x9)))) x0)) := by intro t; cases t <;> (intros; rfl)
abbrev t1053:=t164 → t47
abbrev t1054:=Nat → t1053
abbrev t1055:=Nat → t1054
abbrev t1056:=Nat → t1055
abbrev t1057:=S → t1056
abbrev t1058:=CV → t1057
abbrev t1059:=CV → t1058
def l385 : t1059 := (λx0=>(@CV.rec (λ_=>t1058) (λ_=>PUnit.{1}) (λx1 x2 x3 x4 x5 x6 x7 _=>(l381 x1 x2 x3 x4 x5 x6 x7)) (λ_ x2 x3 x4 x5 x6 x7 x8 _=>(l381 x2 x3 x4 x5 x6 x7 x8)) (λ_ _ x3 x4 x5 x6 x7 x8 x9 _=>(l381 x3 x4 x5 x6 x7 x8 x9)) (λx1 x2 x3 _ x5 _ x7 x8 x9 x10 _ x12 x13=>(l384 (@Bool.rec (λ_=>Bool) Bool.false (Nat.beq x5 x13) (Nat.beq x12 x13)) x7 x13 x8 x9 x10 x1 x2 x3)) (λx1 x2 x3 x4 x5 x6 x7 _=>(l381 x1 x2 x3 x4 x5 x6 x7)) (λ_ x2 x3 x4 x5 x6 x7 x8 _=>(l381 x2 x3 x4 x5 x6 x7 x8)) (λ_ _ x3 x4 x5 x6 x7 x8 x9 _=>(l381 x3 x4 x5 x6 x7 x8 x9)) (λ_ _ x3 x4 x5 x6 x7 x8 x9 _=>(l381 x3 x4 x5 x6 x7 x8 x9)) (λ_ _ _ _ _ x6 x7 x8 x9 x10 x11 x12 _=>(l381 x6 x7 x8 x9 x10 x11 x12)) (λ_ x2 x3 x4 x5 x6 x7 x8 _=>(l381 x2 x3 x4 x5 x6 x7 x8)) (λ_ _ _ x4 x5 x6 x7 x8 x9 x10 _=>(l381 x4 x5 x6 x7 x8 x9 x10)) PUnit.unit.{1} (λ_ _ _ _=>PUnit.unit.{1}) x0))
theorem l385_eq : ∀ x0 x1 x2 x3 x4 x5 x6 x7 x8, (Eq (l385 x0 x1 x2 x3 x4 x5 x6 x7 x8) (@anySl._sparseCasesOn_1 (λ_=>t4) x0 (λx9 x10 x11 _ x13=>(l384 (@Bool.rec (λ_=>Bool) Bool.false (Nat.beq x13 x8) (Nat.beq x7 x8)) x2 x8 x3 x4 x5 x9 x10 x11)) (λ_=>(l381 x1 x2 x3 x4 x5 x6 x7)))) := by intro t; cases t <;> (intros; rfl)
abbrev t1060:=CV → t472
abbrev t1061:=CV → t1060
def l386 : t1061 := (λx0=>(@CV.rec (λ_=>t1060) (λ_=>PUnit.{1}) (λx1 x2 x3 _=>(l376 x1 x2 x3)) (λ_ x2 x3 x4 _=>(l376 x2 x3 x4)) (λ_ _ x3 x4 x5 _=>(l376 x3 x4 x5)) (λx1 x2 x3 x4 x5 _ x7 x8 x9=>(l385 x7 x7 x8 x1 x2 x3 x4 x5 x9)) (λx1 x2 x3 _=>(l376 x1 x2 x3)) (λ_ x2 x3 x4 _=>(l376 x2 x3 x4)) (λ_ _ x3 x4 x5 _=>(l376 x3 x4 x5)) (λ_ _ x3 x4 x5 _=>(l376 x3 x4 x5)) (λ_ _ _ _ _ x6 x7 x8 _=>(l376 x6 x7 x8)) (λ_ x2 x3 x4 _=>(l376 x2 x3 x4)) (λ_ _ _ x4 x5 x6 _=>(l376 x4 x5 x6)) PUnit.unit.{1} (λ_ _ _ _=>PUnit.unit.{1}) x0))
theorem l386_eq : ∀ x0 x1 x2 x3 x4, (Eq (l386 x0 x1 x2 x3 x4) (@anySl._sparseCasesOn_1 (λ_=>t4) x0 (λx5 x6 x7 x8 x9=>(l385 x2 x2 x3 x5 x6 x7 x8 x9 x4)) (λ_=>(l376 x1 x2 x3)))) := by intro t; cases t <;> (intros; rfl)
def k_copyV : t530 := (λx0 x1 x2 x3 x4=>(@Option.rec Nat (λ_=>t4) none (λx5=>((λx6=>(l386 x2 x2 x3 x4 x6)) x5)) (slSize x0 x1)))
theorem k_copyV_eq : @k_copyV = copyV := by
  delta k_copyV copyV
  simp only [l386_eq, l376_eq, l384_eq, l383_eq, l381_eq, l382_eq, l385_eq]
  rw [k_noSl_eq, k_anySl_eq, k_retI_eq, k_wr_Ret_eq, k_minN_eq, k_putN_eq, k_rdRow_eq, k_allOne_eq, k_rd_Ret_eq]
  all_goals kernel_rfl

def l375 : t997 := (λx0=>(@Option.rec CV (λ_=>t996) (λ_ _ _ _=>none) (λx1 x2 x3 x4 x5=>(k_copyV x2 x4 x5 x1 x3)) x0))
theorem l375_eq : ∀ x0 x1 x2 x3 x4, (Eq (l375 x0 x1 x2 x3 x4) (@elInfo._sparseCasesOn_3 CV (λ_=>t4) x0 (λx5=>(k_copyV x1 x3 x4 x5 x2)) (λ_=>none))) := by intro t; cases t <;> (intros; rfl)
def l387 : t1002 := (λx0=>(@Option.rec CV (λ_=>t1001) (λ_ _ _ _ _=>none) (λx1 x2 x3 x4 x5 x6=>(l375 (k_ev x3 x5) x2 x4 x6 x1)) x0))
theorem l387_eq : ∀ x0 x1 x2 x3 x4 x5, (Eq (l387 x0 x1 x2 x3 x4 x5) (@elInfo._sparseCasesOn_3 CV (λ_=>t4) x0 (λx6=>(l375 (k_ev x2 x4) x1 x3 x5 x6)) (λ_=>none))) := by intro t; cases t <;> (intros; rfl)
def l388 : t1016 := (λx0=>(@List.rec TypeId (λ_=>t1006) (λx1 x2 x3 x4 x5 x6=>(l387 (k_ev x2 x4) x1 x2 x3 x5 x6)) (λ_ _ _ _ _ _ _ _ _=>none) x0))
theorem l388_eq : ∀ x0 x1 x2 x3 x4 x5 x6, (Eq (l388 x0 x1 x2 x3 x4 x5 x6) (@zipIx._sparseCasesOn_2 TypeId (λ_=>t4) x0 (l387 (k_ev x2 x4) x1 x2 x3 x5 x6) (λ_=>none))) := by intro t; cases t <;> (intros; rfl)
def l389 : t1016 := (λx0=>(@List.rec TypeId (λ_=>t1006) (λ_ _ _ _ _ _=>none) (λ_ x2 _ x4 x5 x6 x7 x8 x9=>(l388 x2 x4 x5 x6 x7 x8 x9)) x0))
theorem l389_eq : ∀ x0 x1 x2 x3 x4 x5 x6, (Eq (l389 x0 x1 x2 x3 x4 x5 x6) (@zipIx._sparseCasesOn_3 TypeId (λ_=>t4) x0 (λ_ x8=>(l388 x8 x1 x2 x3 x4 x5 x6)) (λ_=>none))) := by intro t; cases t <;> (intros; rfl)
def l390 : t1021 := (λx0=>(@List.rec TypeId (λ_=>t1020) (λ_ _ _ _ _=>none) (λx1 x2 _ x4 x5 x6 x7 x8=>(l389 x2 x4 x5 x6 x7 x8 x1)) x0))
theorem l390_eq : ∀ x0 x1 x2 x3 x4 x5, (Eq (l390 x0 x1 x2 x3 x4 x5) (@zipIx._sparseCasesOn_3 TypeId (λ_=>t4) x0 (λx6 x7=>(l389 x7 x1 x2 x3 x4 x5 x6)) (λ_=>none))) := by intro t; cases t <;> (intros; rfl)
def l391 : t1025 := (λx0=>(@List.rec Operand (λ_=>t1024) (λx1 x2 x3 x4 x5 x6=>(l390 (@Array.toList TypeId (Call.argTypes x3)) x1 x2 x4 x5 x6)) (λ_ _ _ _ _ _ _ _ _=>none) x0))
theorem l391_eq : ∀ x0 x1 x2 x3 x4 x5 x6, (Eq (l391 x0 x1 x2 x3 x4 x5 x6) (@zipIx._sparseCasesOn_2 Operand (λ_=>t4) x0 (l390 (@Array.toList TypeId (Call.argTypes x3)) x1 x2 x4 x5 x6) (λ_=>none))) := by intro t; cases t <;> (intros; rfl)
def l392 : t1029 := (λx0=>(@List.rec Operand (λ_=>t1028) (λ_ _ _ _ _=>none) (λx1 x2 _ x4 x5 x6 x7 x8=>(l391 x2 x4 x5 x6 x7 x8 x1)) x0))
theorem l392_eq : ∀ x0 x1 x2 x3 x4 x5, (Eq (l392 x0 x1 x2 x3 x4 x5) (@zipIx._sparseCasesOn_3 Operand (λ_=>t4) x0 (λx6 x7=>(l391 x7 x1 x2 x3 x4 x5 x6)) (λ_=>none))) := by intro t; cases t <;> (intros; rfl)
def l393 : t1033 := (λx0=>(@List.rec Operand (λ_=>t1032) (λ_ _ _ _=>none) (λx1 x2 _ x4 x5 x6 x7=>(l392 x2 x4 x5 x6 x7 x1)) x0))
theorem l393_eq : ∀ x0 x1 x2 x3 x4, (Eq (l393 x0 x1 x2 x3 x4) (@zipIx._sparseCasesOn_3 Operand (λ_=>t4) x0 (λx5 x6=>(l392 x6 x1 x2 x3 x4 x5)) (λ_=>none))) := by intro t; cases t <;> (intros; rfl)
def k_o_copy : t1032 := (λx0 x1 x2 x3=>(l393 (@Array.toList Operand (Call.args x2)) x0 x1 x2 x3))
theorem k_o_copy_eq : @k_o_copy = o_copy := by
  delta k_o_copy o_copy
  simp only [l392_eq, l387_eq, l388_eq, l391_eq, l375_eq, l390_eq, l389_eq, l393_eq]
  rw [k_copyV_eq, k_ev_eq]
  all_goals kernel_rfl

def l394 : t45 := (λx0=>(@CO.rec (λ_=>t8) (λ_ _ _ _=>none) (λ_ x2 _ x4=>(k_retI x4 IntKind.i64 (@Nat.cast Int (@NatCast.mk Int (λx5=>(Int.ofNat x5))) (@List.length t343 x2)))) (λ_ _ _ _ _ _ _ _ _=>none) (λ_=>none) (λ_=>none) x0))
theorem l394_eq : ∀ x0 x1, (Eq (l394 x0 x1) (@lookupV._sparseCasesOn_2 (λ_=>t4) x0 (λ_ x3 _=>(k_retI x1 IntKind.i64 (@Nat.cast Int (@NatCast.mk Int (λx5=>(Int.ofNat x5))) (@List.length t343 x3)))) (λ_=>none))) := by intro t; cases t <;> (intros; rfl)
abbrev t1062:=t164 → t8
def l395 : t1062 := (λx0=>(@Option.rec Nat (λ_=>t8) (λx1=>(k_retI x1 IntKind.i64 (nat_lit 0))) (λ_ _=>none) x0))
theorem l395_eq : ∀ x0 x1, (Eq (l395 x0 x1) (@sliceV._sparseCasesOn_7 Nat (λ_=>t4) x0 (k_retI x1 IntKind.i64 (nat_lit 0)) (λ_=>none))) := by intro t; cases t <;> (intros; rfl)
def l396 : t643 := (λx0=>(@Value.rec (λ_=>t8) (λ_=>PUnit.{1}) (λ_=>PUnit.{1}) (λ_ _=>none) (λ_ _ _=>none) (λ_ _ _=>none) (λ_ _ _ _=>none) (λ_ _=>none) (λ_ _=>none) (λ_ _ _ _=>none) (λx1 x2=>(l395 x1 x2)) (λ_ _=>none) (λ_ _ _ _ _ _=>none) (λ_=>none) (λ_ _ _ _=>none) (λ_=>none) (λ_ _ _=>none) (λ_ _ _=>none) (λ_ _=>PUnit.unit.{1}) PUnit.unit.{1} (λ_ _ _ _=>PUnit.unit.{1}) x0))
theorem l396_eq : ∀ x0 x1, (Eq (l396 x0 x1) (@lookupV._sparseCasesOn_4 (λ_=>t4) x0 (λx2=>(l395 x2 x1)) (λ_=>none))) := by intro t; cases t <;> (intros; rfl)
def l397 : t186 := (λx0=>(@CV.rec (λ_=>t8) (λ_=>PUnit.{1}) (λ_=>none) (λx1 x2=>(l396 x1 x2)) (λ_ _ _=>none) (λ_ _ _ _ _ _=>none) (λ_=>none) (λx1 x2=>(k_rd_Ret x2 x1 (λx3 x4=>(l394 x3 x4)))) (λ_ _ _=>none) (λ_ _ _=>none) (λ_ _ _ _ _ _=>none) (λ_ _=>none) (λ_ _ _ _=>none) PUnit.unit.{1} (λ_ _ _ _=>PUnit.unit.{1}) x0))
theorem l397_eq : ∀ x0 x1, (Eq (l397 x0 x1) (@o_len._sparseCasesOn_2 (λ_=>t4) x0 (λx2=>(k_rd_Ret x1 x2 (λx3 x4=>(l394 x3 x4)))) (λx2=>(l396 x2 x1)) (λ_=>none))) := by intro t; cases t <;> (intros; rfl)
def l398 : t101 := (λx0=>(@Option.rec CV (λ_=>t8) (λ_=>none) (λx1 x2=>(l397 x1 x2)) x0))
theorem l398_eq : ∀ x0 x1, (Eq (l398 x0 x1) (@elInfo._sparseCasesOn_3 CV (λ_=>t4) x0 (λx2=>(l397 x2 x1)) (λ_=>none))) := by intro t; cases t <;> (intros; rfl)
def l399 : t643 := (λx0=>(@Value.rec (λ_=>t8) (λ_=>PUnit.{1}) (λ_=>PUnit.{1}) (λ_ _=>none) (λ_ _ _=>none) (λ_ _ _=>none) (λ_ _ _ _=>none) (λ_ _=>none) (λ_ _=>none) (λ_ x2 _ x4=>(k_retI x4 IntKind.i64 (@Nat.cast Int (@NatCast.mk Int (λx5=>(Int.ofNat x5))) x2))) (λ_ _=>none) (λ_ _=>none) (λ_ _ _ _ _ _=>none) (λ_=>none) (λ_ _ _ _=>none) (λ_=>none) (λ_ _ _=>none) (λ_ _ _=>none) (λ_ _=>PUnit.unit.{1}) PUnit.unit.{1} (λ_ _ _ _=>PUnit.unit.{1}) x0))
theorem l399_eq : ∀ x0 x1, (Eq (l399 x0 x1) (@sliceV._sparseCasesOn_6 (λ_=>t4) x0 (λ_ x3 _=>(k_retI x1 IntKind.i64 (@Nat.cast Int (@NatCast.mk Int (λx5=>(Int.ofNat x5))) x3))) (λ_=>none))) := by intro t; cases t <;> (intros; rfl)
def l400 : t186 := (λx0=>(@CV.rec (λ_=>t8) (λ_=>PUnit.{1}) (λ_=>none) (λx1 x2=>(l399 x1 x2)) (λ_ _ _=>none) (λ_ _ x3 _ _ x6=>(k_retI x6 IntKind.i64 (@Nat.cast Int (@NatCast.mk Int (λx7=>(Int.ofNat x7))) x3))) (λx1=>(k_retI x1 IntKind.i64 (nat_lit 0))) (λ_ _=>none) (λ_ _ _=>none) (λ_ _ _=>none) (λ_ _ _ _ _ _=>none) (λ_ _=>none) (λ_ _ _ _=>none) PUnit.unit.{1} (λ_ _ _ _=>PUnit.unit.{1}) x0))
theorem l400_eq : ∀ x0 x1, (Eq (l400 x0 x1) (@sliceV._sparseCasesOn_5 (λ_=>t4) x0 (λ_ _ x4 _ _=>(k_retI x1 IntKind.i64 (@Nat.cast Int (@NatCast.mk Int (λx7=>(Int.ofNat x7))) x4))) (k_retI x1 IntKind.i64 (nat_lit 0)) (λx2=>(l399 x2 x1)) (λ_=>none))) := by intro t; cases t <;> (intros; rfl)
def l401 : t101 := (λx0=>(@Option.rec CV (λ_=>t8) (λ_=>none) (λx1 x2=>(l400 x1 x2)) x0))
theorem l401_eq : ∀ x0 x1, (Eq (l401 x0 x1) (@elInfo._sparseCasesOn_3 CV (λ_=>t4) x0 (λx2=>(l400 x2 x1)) (λ_=>none))) := by intro t; cases t <;> (intros; rfl)
def l402 : t643 := (λx0=>(@Value.rec (λ_=>t8) (λ_=>PUnit.{1}) (λ_=>PUnit.{1}) (λ_ _=>none) (λ_ _ _=>none) (λ_ _ _=>none) (λ_ _ _ _=>none) (λx1 x2=>(k_retI x2 IntKind.i64 (@Nat.cast Int (@NatCast.mk Int (λx3=>(Int.ofNat x3))) (@List.length UInt8 (@Array.toList UInt8 (ByteArray.data x1)))))) (λ_ _=>none) (λ_ _ _ _=>none) (λ_ _=>none) (λ_ _=>none) (λ_ _ _ _ _ _=>none) (λ_=>none) (λ_ _ _ _=>none) (λ_=>none) (λ_ _ _=>none) (λ_ _ _=>none) (λ_ _=>PUnit.unit.{1}) PUnit.unit.{1} (λ_ _ _ _=>PUnit.unit.{1}) x0))
theorem l402_eq : ∀ x0 x1, (Eq (l402 x0 x1) (@eqK._sparseCasesOn_4 (λ_=>t4) x0 (λx2=>(k_retI x1 IntKind.i64 (@Nat.cast Int (@NatCast.mk Int (λx3=>(Int.ofNat x3))) (@List.length UInt8 (@Array.toList UInt8 (ByteArray.data x2)))))) (λ_=>none))) := by intro t; cases t <;> (intros; rfl)
def l403 : t186 := (λx0=>(@CV.rec (λ_=>t8) (λ_=>PUnit.{1}) (λ_=>none) (λx1 x2=>(l402 x1 x2)) (λ_ _ _=>none) (λ_ _ _ _ _ _=>none) (λ_=>none) (λ_ _=>none) (λ_ _ _=>none) (λ_ _ _=>none) (λ_ _ _ _ _ _=>none) (λ_ _=>none) (λ_ _ _ _=>none) PUnit.unit.{1} (λ_ _ _ _=>PUnit.unit.{1}) x0))
theorem l403_eq : ∀ x0 x1, (Eq (l403 x0 x1) (@natOf._sparseCasesOn_1 (λ_=>t4) x0 (λx2=>(l402 x2 x1)) (λ_=>none))) := by intro t; cases t <;> (intros; rfl)
def l404 : t101 := (λx0=>(@Option.rec CV (λ_=>t8) (λ_=>none) (λx1 x2=>(l403 x1 x2)) x0))
theorem l404_eq : ∀ x0 x1, (Eq (l404 x0 x1) (@elInfo._sparseCasesOn_3 CV (λ_=>t4) x0 (λx2=>(l403 x2 x1)) (λ_=>none))) := by intro t; cases t <;> (intros; rfl)
abbrev t1063:=t14 → t195
abbrev t1064:=TypeDesc → t1063
def l405 : t1064 := (λx0=>(@TypeDesc.rec (λ_=>t1063) (λ_ _ _=>none) (λ_ _ _=>none) (λ_ _ _ _=>none) (λ_ _ _ _=>none) (λ_ _ _ _=>none) (λx1 x2 x3=>(l404 (k_ev x1 x3) x2)) (λ_ _ _=>none) (λ_ _ _ _=>none) (λ_ x2 x3 x4=>(l401 (k_ev x2 x4) x3)) (λ_ _ _ _ _=>none) (λ_ _ x3 x4 x5=>(l398 (k_ev x3 x5) x4)) (λ_ _ _ _ _=>none) (λ_ _ _ _=>none) (λ_ _ _ _ _ _=>none) (λ_ _ _ _=>none) (λ_ _ _ _=>none) (λ_ _ _ _ _=>none) x0))
theorem l405_eq : ∀ x0 x1 x2 x3, (Eq (l405 x0 x1 x2 x3) (@o_len._sparseCasesOn_1 (λ_=>t4) x0 (λ_ _=>(l398 (k_ev x1 x3) x2)) (λ_=>(l401 (k_ev x1 x3) x2)) (l404 (k_ev x1 x3) x2) (λ_=>none))) := by intro t; cases t <;> (intros; rfl)
abbrev t1065:=t336 → t1063
def l406 : t1065 := (λx0=>(@Option.rec TypeDesc (λ_=>t1063) (λ_ _ _=>none) (λx1 x2 x3 x4=>(l405 x1 x2 x3 x4)) x0))
theorem l406_eq : ∀ x0 x1 x2 x3, (Eq (l406 x0 x1 x2 x3) (@elInfo._sparseCasesOn_3 TypeDesc (λ_=>t4) x0 (λx4=>(l405 x4 x1 x2 x3)) (λ_=>none))) := by intro t; cases t <;> (intros; rfl)
abbrev t1066:=t1009 → t1001
def l407 : t1066 := (λx0=>(@List.rec TypeId (λ_=>t1001) (λx1 x2 x3 x4 x5=>(l406 (Program.underlying x1 x5) x2 x3 x4)) (λ_ _ _ _ _ _ _ _=>none) x0))
theorem l407_eq : ∀ x0 x1 x2 x3 x4 x5, (Eq (l407 x0 x1 x2 x3 x4 x5) (@zipIx._sparseCasesOn_2 TypeId (λ_=>t4) x0 (l406 (Program.underlying x1 x5) x2 x3 x4) (λ_=>none))) := by intro t; cases t <;> (intros; rfl)
abbrev t1067:=Program → t1063
abbrev t1068:=t1009 → t1067
def l408 : t1068 := (λx0=>(@List.rec TypeId (λ_=>t1067) (λ_ _ _ _=>none) (λx1 x2 _ x4 x5 x6 x7=>(l407 x2 x4 x5 x6 x7 x1)) x0))
theorem l408_eq : ∀ x0 x1 x2 x3 x4, (Eq (l408 x0 x1 x2 x3 x4) (@zipIx._sparseCasesOn_3 TypeId (λ_=>t4) x0 (λx5 x6=>(l407 x6 x1 x2 x3 x4 x5)) (λ_=>none))) := by intro t; cases t <;> (intros; rfl)
def l409 : t1029 := (λx0=>(@List.rec Operand (λ_=>t1028) (λx1 x2 x3 x4 x5=>(l408 (@Array.toList TypeId (Call.argTypes x3)) x1 x2 x4 x5)) (λ_ _ _ _ _ _ _ _=>none) x0))
theorem l409_eq : ∀ x0 x1 x2 x3 x4 x5, (Eq (l409 x0 x1 x2 x3 x4 x5) (@zipIx._sparseCasesOn_2 Operand (λ_=>t4) x0 (l408 (@Array.toList TypeId (Call.argTypes x3)) x1 x2 x4 x5) (λ_=>none))) := by intro t; cases t <;> (intros; rfl)
def l410 : t1033 := (λx0=>(@List.rec Operand (λ_=>t1032) (λ_ _ _ _=>none) (λx1 x2 _ x4 x5 x6 x7=>(l409 x2 x4 x5 x6 x7 x1)) x0))
theorem l410_eq : ∀ x0 x1 x2 x3 x4, (Eq (l410 x0 x1 x2 x3 x4) (@zipIx._sparseCasesOn_3 Operand (λ_=>t4) x0 (λx5 x6=>(l409 x6 x1 x2 x3 x4 x5)) (λ_=>none))) := by intro t; cases t <;> (intros; rfl)
def k_o_len : t1032 := (λx0 x1 x2 x3=>(l410 (@Array.toList Operand (Call.args x2)) x0 x1 x2 x3))
theorem k_o_len_eq : @k_o_len = o_len := by
  delta k_o_len o_len
  simp only [l401_eq, l403_eq, l395_eq, l404_eq, l410_eq, l402_eq, l397_eq, l396_eq, l408_eq, l407_eq, l405_eq, l399_eq, l394_eq, l398_eq, l400_eq, l406_eq, l409_eq]
  rw [k_retI_eq, k_rd_Ret_eq, k_ev_eq]
  all_goals kernel_rfl

abbrev t1069:=Int → t544
abbrev t1070:=IntKind → t1069
abbrev t1071:=S → t1070
abbrev t1072:=t7 → t1071
def l411 : t1072 := (λx0=>(@List.rec CV (λ_=>t1071) (λx1 x2 x3 x4=>(k_retI x1 x2 (@Bool.rec (λ_=>Int) x3 x4 (k_iLt x3 x4)))) (λ_ _ _ _ _ _ _=>none) x0))
theorem l411_eq : ∀ x0 x1 x2 x3 x4, (Eq (l411 x0 x1 x2 x3 x4) (@zipIx._sparseCasesOn_2 CV (λ_=>t4) x0 (k_retI x1 x2 (@Bool.rec (λ_=>Int) x3 x4 (k_iLt x3 x4))) (λ_=>none))) := by intro t; cases t <;> (intros; rfl)
abbrev t1073:=Int → t252
abbrev t1074:=IntKind → t1073
abbrev t1075:=S → t1074
abbrev t1076:=Value → t1075
def l412 : t1076 := (λx0=>(@Value.rec (λ_=>t1075) (λ_=>PUnit.{1}) (λ_=>PUnit.{1}) (λ_ _ _ _ _=>none) (λ_ x2 x3 x4 x5 x6=>(l411 x6 x3 x4 x5 x2)) (λ_ _ _ _ _ _=>none) (λ_ _ _ _ _ _ _=>none) (λ_ _ _ _ _=>none) (λ_ _ _ _ _=>none) (λ_ _ _ _ _ _ _=>none) (λ_ _ _ _ _=>none) (λ_ _ _ _ _=>none) (λ_ _ _ _ _ _ _ _ _=>none) (λ_ _ _ _=>none) (λ_ _ _ _ _ _ _=>none) (λ_ _ _ _=>none) (λ_ _ _ _ _ _=>none) (λ_ _ _ _ _ _=>none) (λ_ _=>PUnit.unit.{1}) PUnit.unit.{1} (λ_ _ _ _=>PUnit.unit.{1}) x0))
theorem l412_eq : ∀ x0 x1 x2 x3 x4, (Eq (l412 x0 x1 x2 x3 x4) (@natOf._sparseCasesOn_2 (λ_=>t4) x0 (λ_ x6=>(l411 x4 x1 x2 x3 x6)) (λ_=>none))) := by intro t; cases t <;> (intros; rfl)
abbrev t1077:=CV → t1075
def l413 : t1077 := (λx0=>(@CV.rec (λ_=>t1075) (λ_=>PUnit.{1}) (λ_ _ _ _=>none) (λx1 x2 x3 x4 x5=>(l412 x1 x2 x3 x4 x5)) (λ_ _ _ _ _ _=>none) (λ_ _ _ _ _ _ _ _ _=>none) (λ_ _ _ _=>none) (λ_ _ _ _ _=>none) (λ_ _ _ _ _ _=>none) (λ_ _ _ _ _ _=>none) (λ_ _ _ _ _ _ _ _ _=>none) (λ_ _ _ _ _=>none) (λ_ _ _ _ _ _ _=>none) PUnit.unit.{1} (λ_ _ _ _=>PUnit.unit.{1}) x0))
theorem l413_eq : ∀ x0 x1 x2 x3 x4, (Eq (l413 x0 x1 x2 x3 x4) (@natOf._sparseCasesOn_1 (λ_=>t4) x0 (λx5=>(l412 x5 x1 x2 x3 x4)) (λ_=>none))) := by intro t; cases t <;> (intros; rfl)
abbrev t1078:=t7 → t546
def l414 : t1078 := (λx0=>(@List.rec CV (λ_=>t546) (λ_ _ _=>none) (λx1 x2 _ x4 x5 x6=>(l413 x1 x4 x5 x6 x2)) x0))
theorem l414_eq : ∀ x0 x1 x2 x3, (Eq (l414 x0 x1 x2 x3) (@zipIx._sparseCasesOn_3 CV (λ_=>t4) x0 (λx4 x5=>(l413 x4 x1 x2 x3 x5)) (λ_=>none))) := by intro t; cases t <;> (intros; rfl)
abbrev t1079:=Value → t594
def l415 : t1079 := (λx0=>(@Value.rec (λ_=>t594) (λ_=>PUnit.{1}) (λ_=>PUnit.{1}) (λ_ _ _=>none) (λx1 x2 x3 x4=>(l414 x4 x3 x1 x2)) (λ_ _ _ _=>none) (λ_ _ _ _ _=>none) (λ_ _ _=>none) (λ_ _ _=>none) (λ_ _ _ _ _=>none) (λ_ _ _=>none) (λ_ _ _=>none) (λ_ _ _ _ _ _ _=>none) (λ_ _=>none) (λ_ _ _ _ _=>none) (λ_ _=>none) (λ_ _ _ _=>none) (λ_ _ _ _=>none) (λ_ _=>PUnit.unit.{1}) PUnit.unit.{1} (λ_ _ _ _=>PUnit.unit.{1}) x0))
theorem l415_eq : ∀ x0 x1 x2, (Eq (l415 x0 x1 x2) (@natOf._sparseCasesOn_2 (λ_=>t4) x0 (λx3 x4=>(l414 x2 x1 x3 x4)) (λ_=>none))) := by intro t; cases t <;> (intros; rfl)
def l416 : t595 := (λx0=>(@CV.rec (λ_=>t594) (λ_=>PUnit.{1}) (λ_ _=>none) (λx1 x2 x3=>(l415 x1 x2 x3)) (λ_ _ _ _=>none) (λ_ _ _ _ _ _ _=>none) (λ_ _=>none) (λ_ _ _=>none) (λ_ _ _ _=>none) (λ_ _ _ _=>none) (λ_ _ _ _ _ _ _=>none) (λ_ _ _=>none) (λ_ _ _ _ _=>none) PUnit.unit.{1} (λ_ _ _ _=>PUnit.unit.{1}) x0))
theorem l416_eq : ∀ x0 x1 x2, (Eq (l416 x0 x1 x2) (@natOf._sparseCasesOn_1 (λ_=>t4) x0 (λx3=>(l415 x3 x1 x2)) (λ_=>none))) := by intro t; cases t <;> (intros; rfl)
def l417 : t9 := (λx0=>(@List.rec CV (λ_=>t8) (λ_=>none) (λx1 x2 _ x4=>(l416 x1 x4 x2)) x0))
theorem l417_eq : ∀ x0 x1, (Eq (l417 x0 x1) (@zipIx._sparseCasesOn_3 CV (λ_=>t4) x0 (λx2 x3=>(l416 x2 x1 x3)) (λ_=>none))) := by intro t; cases t <;> (intros; rfl)
abbrev t1080:=t31 → t8
def l418 : t1080 := (λx0=>(@Option.rec t7 (λ_=>t8) (λ_=>none) (λx1 x2=>(l417 x1 x2)) x0))
theorem l418_eq : ∀ x0 x1, (Eq (l418 x0 x1) (@elInfo._sparseCasesOn_3 t7 (λ_=>t4) x0 (λx2=>(l417 x2 x1)) (λ_=>none))) := by intro t; cases t <;> (intros; rfl)
def k_o_max : t1032 := (λ_ x1 x2 x3=>(l418 (k_evs x1 (@Array.toList Operand (Call.args x2))) x3))
theorem k_o_max_eq : @k_o_max = o_max := by
  delta k_o_max o_max
  simp only [l417_eq, l414_eq, l412_eq, l416_eq, l418_eq, l411_eq, l413_eq, l415_eq]
  rw [k_evs_eq, k_retI_eq, k_iLt_eq]
  all_goals kernel_rfl

def l419 : t1072 := (λx0=>(@List.rec CV (λ_=>t1071) (λx1 x2 x3 x4=>(k_retI x1 x2 (@Bool.rec (λ_=>Int) x3 x4 (k_iLt x4 x3)))) (λ_ _ _ _ _ _ _=>none) x0))
theorem l419_eq : ∀ x0 x1 x2 x3 x4, (Eq (l419 x0 x1 x2 x3 x4) (@zipIx._sparseCasesOn_2 CV (λ_=>t4) x0 (k_retI x1 x2 (@Bool.rec (λ_=>Int) x3 x4 (k_iLt x4 x3))) (λ_=>none))) := by intro t; cases t <;> (intros; rfl)
def l420 : t1076 := (λx0=>(@Value.rec (λ_=>t1075) (λ_=>PUnit.{1}) (λ_=>PUnit.{1}) (λ_ _ _ _ _=>none) (λ_ x2 x3 x4 x5 x6=>(l419 x6 x3 x4 x5 x2)) (λ_ _ _ _ _ _=>none) (λ_ _ _ _ _ _ _=>none) (λ_ _ _ _ _=>none) (λ_ _ _ _ _=>none) (λ_ _ _ _ _ _ _=>none) (λ_ _ _ _ _=>none) (λ_ _ _ _ _=>none) (λ_ _ _ _ _ _ _ _ _=>none) (λ_ _ _ _=>none) (λ_ _ _ _ _ _ _=>none) (λ_ _ _ _=>none) (λ_ _ _ _ _ _=>none) (λ_ _ _ _ _ _=>none) (λ_ _=>PUnit.unit.{1}) PUnit.unit.{1} (λ_ _ _ _=>PUnit.unit.{1}) x0))
theorem l420_eq : ∀ x0 x1 x2 x3 x4, (Eq (l420 x0 x1 x2 x3 x4) (@natOf._sparseCasesOn_2 (λ_=>t4) x0 (λ_ x6=>(l419 x4 x1 x2 x3 x6)) (λ_=>none))) := by intro t; cases t <;> (intros; rfl)
def l421 : t1077 := (λx0=>(@CV.rec (λ_=>t1075) (λ_=>PUnit.{1}) (λ_ _ _ _=>none) (λx1 x2 x3 x4 x5=>(l420 x1 x2 x3 x4 x5)) (λ_ _ _ _ _ _=>none) (λ_ _ _ _ _ _ _ _ _=>none) (λ_ _ _ _=>none) (λ_ _ _ _ _=>none) (λ_ _ _ _ _ _=>none) (λ_ _ _ _ _ _=>none) (λ_ _ _ _ _ _ _ _ _=>none) (λ_ _ _ _ _=>none) (λ_ _ _ _ _ _ _=>none) PUnit.unit.{1} (λ_ _ _ _=>PUnit.unit.{1}) x0))
theorem l421_eq : ∀ x0 x1 x2 x3 x4, (Eq (l421 x0 x1 x2 x3 x4) (@natOf._sparseCasesOn_1 (λ_=>t4) x0 (λx5=>(l420 x5 x1 x2 x3 x4)) (λ_=>none))) := by intro t; cases t <;> (intros; rfl)
def l422 : t1078 := (λx0=>(@List.rec CV (λ_=>t546) (λ_ _ _=>none) (λx1 x2 _ x4 x5 x6=>(l421 x1 x4 x5 x6 x2)) x0))
theorem l422_eq : ∀ x0 x1 x2 x3, (Eq (l422 x0 x1 x2 x3) (@zipIx._sparseCasesOn_3 CV (λ_=>t4) x0 (λx4 x5=>(l421 x4 x1 x2 x3 x5)) (λ_=>none))) := by intro t; cases t <;> (intros; rfl)
def l423 : t1079 := (λx0=>(@Value.rec (λ_=>t594) (λ_=>PUnit.{1}) (λ_=>PUnit.{1}) (λ_ _ _=>none) (λx1 x2 x3 x4=>(l422 x4 x3 x1 x2)) (λ_ _ _ _=>none) (λ_ _ _ _ _=>none) (λ_ _ _=>none) (λ_ _ _=>none) (λ_ _ _ _ _=>none) (λ_ _ _=>none) (λ_ _ _=>none) (λ_ _ _ _ _ _ _=>none) (λ_ _=>none) (λ_ _ _ _ _=>none) (λ_ _=>none) (λ_ _ _ _=>none) (λ_ _ _ _=>none) (λ_ _=>PUnit.unit.{1}) PUnit.unit.{1} (λ_ _ _ _=>PUnit.unit.{1}) x0))
theorem l423_eq : ∀ x0 x1 x2, (Eq (l423 x0 x1 x2) (@natOf._sparseCasesOn_2 (λ_=>t4) x0 (λx3 x4=>(l422 x2 x1 x3 x4)) (λ_=>none))) := by intro t; cases t <;> (intros; rfl)
def l424 : t595 := (λx0=>(@CV.rec (λ_=>t594) (λ_=>PUnit.{1}) (λ_ _=>none) (λx1 x2 x3=>(l423 x1 x2 x3)) (λ_ _ _ _=>none) (λ_ _ _ _ _ _ _=>none) (λ_ _=>none) (λ_ _ _=>none) (λ_ _ _ _=>none) (λ_ _ _ _=>none) (λ_ _ _ _ _ _ _=>none) (λ_ _ _=>none) (λ_ _ _ _ _=>none) PUnit.unit.{1} (λ_ _ _ _=>PUnit.unit.{1}) x0))
theorem l424_eq : ∀ x0 x1 x2, (Eq (l424 x0 x1 x2) (@natOf._sparseCasesOn_1 (λ_=>t4) x0 (λx3=>(l423 x3 x1 x2)) (λ_=>none))) := by intro t; cases t <;> (intros; rfl)
def l425 : t9 := (λx0=>(@List.rec CV (λ_=>t8) (λ_=>none) (λx1 x2 _ x4=>(l424 x1 x4 x2)) x0))
theorem l425_eq : ∀ x0 x1, (Eq (l425 x0 x1) (@zipIx._sparseCasesOn_3 CV (λ_=>t4) x0 (λx2 x3=>(l424 x2 x1 x3)) (λ_=>none))) := by intro t; cases t <;> (intros; rfl)
def l426 : t1080 := (λx0=>(@Option.rec t7 (λ_=>t8) (λ_=>none) (λx1 x2=>(l425 x1 x2)) x0))
theorem l426_eq : ∀ x0 x1, (Eq (l426 x0 x1) (@elInfo._sparseCasesOn_3 t7 (λ_=>t4) x0 (λx2=>(l425 x2 x1)) (λ_=>none))) := by intro t; cases t <;> (intros; rfl)
def k_o_min : t1032 := (λ_ x1 x2 x3=>(l426 (k_evs x1 (@Array.toList Operand (Call.args x2))) x3))
theorem k_o_min_eq : @k_o_min = o_min := by
  delta k_o_min o_min
  simp only [l420_eq, l425_eq, l426_eq, l424_eq, l422_eq, l421_eq, l419_eq, l423_eq]
  rw [k_evs_eq, k_retI_eq, k_iLt_eq]
  all_goals kernel_rfl

abbrev t1081:=Builtin → t1032
def l344 : t1081 := (λx0=>(@Builtin.rec (λ_=>t1032) (λx1 x2 x3 x4=>(k_o_append x1 x2 x3 x4)) (λ_ _ _ _=>none) (λ_ _ _ _=>none) (λ_ _ _ _=>none) (λ_ _ _ _=>none) (λx1 x2 x3 x4=>(k_o_copy x1 x2 x3 x4)) (λ_ _ _ _=>none) (λ_ _ _ _=>none) (λx1 x2 x3 x4=>(k_o_len x1 x2 x3 x4)) (λ_ _ _ _=>none) (λx1 x2 x3 x4=>(k_o_max x1 x2 x3 x4)) (λx1 x2 x3 x4=>(k_o_min x1 x2 x3 x4)) (λ_ _ _ _=>none) (λ_ _ _ _=>none) (λ_ _ _ _=>none) (λ_ _ _ _=>none) (λ_ _ _ _=>none) (λ_ _ _ _=>none) (λ_ _ _ _=>none) (λ_ _ _ _=>none) (λ_ _ _ _=>none) (λ_ _ _ _=>none) (λ_ _ _ _=>none) (λ_ _ _ _=>none) (λ_ _ _ _=>none) (λ_ _ _ _=>none) x0))
theorem l344_eq : ∀ x0 x1 x2 x3 x4, (Eq (l344 x0 x1 x2 x3 x4) (@o_call._sparseCasesOn_2 (λ_=>t4) x0 (k_o_len x1 x2 x3 x4) (k_o_append x1 x2 x3 x4) (k_o_copy x1 x2 x3 x4) (k_o_min x1 x2 x3 x4) (k_o_max x1 x2 x3 x4) (λ_=>none))) := by intro t; cases t <;> (intros; rfl)
abbrev t1082:=Callee → t1032
def l427 : t1082 := (λx0=>(@Callee.rec (λ_=>t1032) (λ_ _ _ _ _=>none) (λ_ _ _ _ _ _=>none) (λx1 x2 x3 x4 x5=>(l344 x1 x2 x3 x4 x5)) x0))
theorem l427_eq : ∀ x0 x1 x2 x3 x4, (Eq (l427 x0 x1 x2 x3 x4) (@o_call._sparseCasesOn_1 (λ_=>t4) x0 (λx5=>(l344 x5 x1 x2 x3 x4)) (λ_=>none))) := by intro t; cases t <;> (intros; rfl)
def k_o_call : t1032 := (λx0 x1 x2 x3=>(l427 (Call.callee x2) x0 x1 x2 x3))
theorem k_o_call_eq : @k_o_call = o_call := by
  delta k_o_call o_call
  simp only [l344_eq, l427_eq]
  rw [k_o_min_eq, k_o_max_eq, k_o_len_eq, k_o_copy_eq, k_o_append_eq]
  all_goals kernel_rfl

abbrev t1083:=t14 → t8
abbrev t1084:=Program → t1083
abbrev t1085:=Op → t1084
def l47 : t1085 := (λx0=>(@Op.rec (λ_=>t1084) (λx1 x2 x3 x4=>(k_o_move x2 x3 x1 x4)) (λx1 x2 x3 x4=>(k_o_move x2 x3 x1 x4)) (λx1 x2 x3 x4 x5 x6=>(k_o_pick x4 x5 x1 x2 x3 x6)) (λx1 x2 x3 x4=>(k_o_alloc x2 x3 x1 x4)) (λx1 x2 x3 x4 x5=>(k_o_box x3 x4 x1 x2 x5)) (λx1 x2 x3 x4 x5=>(k_o_build x3 x4 x1 x2 x5)) (λx1 x2 x3 x4 x5 x6=>(k_o_buildSlice x4 x5 x1 x2 x3 x6)) (λx1 x2 x3 x4 x5 x6 x7=>(k_o_mapUpdate x5 x6 x1 x2 x3 x4 x7)) (λx1 x2 x3 x4 x5=>(k_o_load x3 x4 x1 x2 x5)) (λx1 x2 x3 x4 x5 x6=>(k_o_store x4 x5 x1 x2 x3 x6)) (λ_ _ _ _=>none) (λ_ _ _ _=>none) (λx1 x2 x3 x4=>(k_o_nilCheck x2 x3 x1 x4)) (λx1 x2 x3 x4 _ x6 x7 x8=>(k_o_binOp x6 x7 x1 x2 x3 x4 x8)) (λx1 _ x3 x4 x5 x6=>(k_o_unOp x4 x5 x1 x3 x6)) (λx1 x2 x3 x4 x5 x6=>(k_o_convert x4 x5 x1 x2 x3 x6)) (λ_ _ _ _ _=>none) (λx1 x2 x3 x4 x5=>(k_o_makeInterface x3 x4 x1 x2 x5)) (λx1 x2 x3 x4 x5 x6=>(k_o_makeFunc x4 x5 x1 x2 x3 x6)) (λx1 x2 x3 x4 x5=>(k_mapF x3 x4 x1 x2 x5)) (λ_ _ _ _ _=>none) (λx1 x2 x3 x4 x5 x6=>(k_o_makeSlice x4 x5 x1 x2 x3 x6)) (λx1 x2 x3 x4 x5 x6 x7 x8=>(k_o_slice x6 x7 x1 x2 x3 x4 x5 x8)) (λx1 x2 x3 x4 x5 x6=>(k_o_fieldAddr x4 x5 x1 x2 x3 x6)) (λ_ _ _ _ _ _=>none) (λx1 x2 x3 x4 x5 x6=>(k_o_indexAddr x4 x5 x1 x2 x3 x6)) (λx1 x2 x3 x4 x5 x6=>(k_o_index x4 x5 x1 x2 x3 x6)) (λx1 x2 x3 x4 x5 x6 x7=>(k_o_lookup x5 x6 x1 x2 x3 x4 x7)) (λx1 x2 x3 x4 x5 x6 x7=>(k_o_mapUpdate x5 x6 x1 x2 x3 x4 x7)) (λ_ _ _ _ _ _=>none) (λ_ _ _ _ _ _ _=>none) (λ_ _ _ _ _=>none) (λ_ _ _ _ _=>none) (λ_ _ _ _=>none) (λx1 _ x3 x4 x5 x6 x7=>(k_o_typeAssert x5 x6 x1 x3 x4 x7)) (λx1 x2 x3 x4 x5=>(k_o_extract x3 x4 x1 x2 x5)) (λx1 x2 x3 x4=>(k_o_call x2 x3 x1 x4)) (λ_ _ _ _=>none) (λ_ _ _ _=>none) (λ_ _ _ _=>none) (λ_ _ _ _ _=>none) (λ_ _ _ _ _ _=>none) (λ_ _ _ _ _=>none) x0))
theorem l47_eq : ∀ x0, (Eq (l47 x0) (@opF._sparseCasesOn_1 (λ_=>t1084) x0 (λx1 x2 x3 x4=>(k_o_call x2 x3 x1 x4)) (λx1 x2 x3 x4=>(k_o_move x2 x3 x1 x4)) (λx1 x2 x3 x4=>(k_o_move x2 x3 x1 x4)) (λx1 x2 x3 x4 x5 x6=>(k_o_pick x4 x5 x1 x2 x3 x6)) (λx1 x2 x3 x4=>(k_o_alloc x2 x3 x1 x4)) (λx1 x2 x3 x4 x5=>(k_o_box x3 x4 x1 x2 x5)) (λx1 x2 x3 x4 x5=>(k_o_build x3 x4 x1 x2 x5)) (λx1 x2 x3 x4 x5 x6=>(k_o_buildSlice x4 x5 x1 x2 x3 x6)) (λx1 x2 x3 x4 x5=>(k_o_load x3 x4 x1 x2 x5)) (λx1 x2 x3 x4 x5 x6=>(k_o_store x4 x5 x1 x2 x3 x6)) (λx1 x2 x3 x4=>(k_o_nilCheck x2 x3 x1 x4)) (λx1 x2 x3 x4 _ x6 x7 x8=>(k_o_binOp x6 x7 x1 x2 x3 x4 x8)) (λx1 _ x3 x4 x5 x6=>(k_o_unOp x4 x5 x1 x3 x6)) (λx1 x2 x3 x4 x5 x6=>(k_o_convert x4 x5 x1 x2 x3 x6)) (λx1 x2 x3 x4 x5=>(k_o_makeInterface x3 x4 x1 x2 x5)) (λx1 x2 x3 x4 x5 x6=>(k_o_makeFunc x4 x5 x1 x2 x3 x6)) (λx1 x2 x3 x4 x5=>(k_mapF x3 x4 x1 x2 x5)) (λx1 x2 x3 x4 x5 x6=>(k_o_makeSlice x4 x5 x1 x2 x3 x6)) (λx1 x2 x3 x4 x5 x6 x7 x8=>(k_o_slice x6 x7 x1 x2 x3 x4 x5 x8)) (λx1 x2 x3 x4 x5 x6=>(k_o_fieldAddr x4 x5 x1 x2 x3 x6)) (λx1 x2 x3 x4 x5 x6=>(k_o_indexAddr x4 x5 x1 x2 x3 x6)) (λx1 x2 x3 x4 x5 x6=>(k_o_index x4 x5 x1 x2 x3 x6)) (λx1 x2 x3 x4 x5 x6 x7=>(k_o_lookup x5 x6 x1 x2 x3 x4 x7)) (λx1 x2 x3 x4 x5 x6 x7=>(k_o_mapUpdate x5 x6 x1 x2 x3 x4 x7)) (λx1 x2 x3 x4 x5 x6 x7=>(k_o_mapUpdate x5 x6 x1 x2 x3 x4 x7)) (λx1 x2 x3 x4 x5=>(k_o_extract x3 x4 x1 x2 x5)) (λx1 _ x3 x4 x5 x6 x7=>(k_o_typeAssert x5 x6 x1 x3 x4 x7)) (λ_ _ _ _=>none))) := by intro t; cases t <;> (intros; rfl)
def k_opF : t1085 := (λx0=>(l47 x0))
theorem k_opF_eq : @k_opF = opF := by
  delta k_opF opF
  simp only [l47_eq]
  rw [k_o_call_eq, k_o_extract_eq, k_o_typeAssert_eq, k_o_mapUpdate_eq, k_o_lookup_eq, k_o_index_eq, k_o_indexAddr_eq, k_o_fieldAddr_eq, k_o_slice_eq, k_o_makeSlice_eq, k_mapF_eq, k_o_makeFunc_eq, k_o_makeInterface_eq, k_o_convert_eq, k_o_unOp_eq, k_o_binOp_eq, k_o_nilCheck_eq, k_o_store_eq, k_o_load_eq, k_o_buildSlice_eq, k_o_build_eq, k_o_box_eq, k_o_alloc_eq, k_o_pick_eq, k_o_move_eq]
  all_goals kernel_rfl

abbrev t1086:=Op → t8
abbrev t1087:=t14 → t1086
abbrev t1088:=Program → t1087
def k_opV' : t1088 := (λx0 x1 x2 x3=>(k_opF x2 x0 x1 x3))
theorem k_opV'_eq : @k_opV' = opV' := by
  delta k_opV' opV'
  rw [k_opF_eq]
  all_goals kernel_rfl

theorem k_opV_eq : @k_opV' = @opV := k_opV'_eq.trans opV'_eq
abbrev t1089:=S → t178
abbrev t1090:=Dm → t1089
abbrev t1091:=t14 → t1090
abbrev t1092:=t161 → t1091
abbrev t1093:=Nat → t1092
abbrev t1094:=Program → t1093
def l46 : t1094 := (λx0 x1 x2 x3 x4 x5 x6 x7=>(l45 (k_opV' x0 x3 (Oper.op x6) x5) x0 x1 x2 x3 x4 x6 x7))
theorem l46_eq : ∀ x0 x1 x2 x3 x4 x5 x6 x7, (Eq (l46 x0 x1 x2 x3 x4 x5 x6 x7) (l45 (k_opV' x0 x3 (Oper.op x6) x5) x0 x1 x2 x3 x4 x6 x7)) := by intros; rfl
def l428 : t184 := (λx0=>(@Ret.rec (λ_=>t183) (λx1 x2 x3 x4 x5 x6 x7 x8 x9=>(@Option.rec t14 (λ_=>t170) none (λx10=>(x9 x3 x4 x5 x10 x7 x2)) (k_putE x4 (Oper.dst x8) x1 x6))) (λ_ _ _ _ _ _ _ _ _=>none) x0))
theorem l428_eq : ∀ x0 x1 x2 x3 x4 x5 x6 x7, (Eq (l428 x0 x1 x2 x3 x4 x5 x6 x7) (@regP._sparseCasesOn_2 (λ_=>t170) x0 (λx8 x9=>(@Option.rec t14 (λ_=>t170) none (λx10=>(x7 x1 x2 x3 x10 x5 x9)) (k_putE x2 (Oper.dst x6) x8 x4))) (λ_=>none))) := by intro t; cases t <;> (intros; rfl)
def l429 : t185 := (λx0=>(@Option.rec Ret (λ_=>t183) (λ_ _ _ _ _ _ _=>none) (λx1 x2 x3 x4 x5 x6 x7 x8=>(l428 x1 x2 x3 x4 x5 x6 x7 x8)) x0))
theorem l429_eq : ∀ x0 x1 x2 x3 x4 x5 x6 x7, (Eq (l429 x0 x1 x2 x3 x4 x5 x6 x7) (@methV._sparseCasesOn_2 Ret (λ_=>t170) x0 (λx8=>(l428 x8 x1 x2 x3 x4 x5 x6 x7)) (λ_=>none))) := by intro t; cases t <;> (intros; rfl)
def l430 : t1094 := (λx0 x1 x2 x3 x4 x5 x6 x7=>(l429 (k_opV' x0 x3 (Oper.op x6) x5) x0 x1 x2 x3 x4 x6 x7))
theorem l430_eq : ∀ x0 x1 x2 x3 x4 x5 x6 x7, (Eq (l430 x0 x1 x2 x3 x4 x5 x6 x7) (l429 (k_opV' x0 x3 (Oper.op x6) x5) x0 x1 x2 x3 x4 x6 x7)) := by intros; rfl
def l431 : t184 := (λx0=>(@Ret.rec (λ_=>t183) (λx1 x2 x3 x4 x5 x6 x7 x8 x9=>(@Option.rec t14 (λ_=>t170) none (λx10=>(x9 x3 x4 x5 x10 x7 x2)) (k_putE x4 (Oper.dst x8) x1 x6))) (λ_ _ _ _ _ _ _ _ _=>none) x0))
theorem l431_eq : ∀ x0 x1 x2 x3 x4 x5 x6 x7, (Eq (l431 x0 x1 x2 x3 x4 x5 x6 x7) (@regP._sparseCasesOn_2 (λ_=>t170) x0 (λx8 x9=>(@Option.rec t14 (λ_=>t170) none (λx10=>(x7 x1 x2 x3 x10 x5 x9)) (k_putE x2 (Oper.dst x6) x8 x4))) (λ_=>none))) := by intro t; cases t <;> (intros; rfl)
def l432 : t185 := (λx0=>(@Option.rec Ret (λ_=>t183) (λ_ _ _ _ _ _ _=>none) (λx1 x2 x3 x4 x5 x6 x7 x8=>(l431 x1 x2 x3 x4 x5 x6 x7 x8)) x0))
theorem l432_eq : ∀ x0 x1 x2 x3 x4 x5 x6 x7, (Eq (l432 x0 x1 x2 x3 x4 x5 x6 x7) (@methV._sparseCasesOn_2 Ret (λ_=>t170) x0 (λx8=>(l431 x8 x1 x2 x3 x4 x5 x6 x7)) (λ_=>none))) := by intro t; cases t <;> (intros; rfl)
def l433 : t1094 := (λx0 x1 x2 x3 x4 x5 x6 x7=>(l432 (k_opV' x0 x3 (Oper.op x6) x5) x0 x1 x2 x3 x4 x6 x7))
theorem l433_eq : ∀ x0 x1 x2 x3 x4 x5 x6 x7, (Eq (l433 x0 x1 x2 x3 x4 x5 x6 x7) (l432 (k_opV' x0 x3 (Oper.op x6) x5) x0 x1 x2 x3 x4 x6 x7)) := by intros; rfl
abbrev t1095:=Bool → t170
abbrev t1096:=t81 → t1095
abbrev t1097:=t176 → t1096
abbrev t1098:=Oper → t1097
abbrev t1099:=S → t1098
abbrev t1100:=t14 → t1099
abbrev t1101:=t161 → t1100
abbrev t1102:=Nat → t1101
abbrev t1103:=Program → t1102
def l434 : t1103 := (λx0 x1 x2 x3 x4 x5 x6 x7 x8=>(@Option.rec t14 (λ_=>t170) none (λx9=>(x6 x0 x1 x2 x9 (Dm.mk x7 x8) x4)) (k_putE x1 (Oper.dst x5) (CV.val Value.nilIface) x3)))
theorem l434_eq : ∀ x0 x1 x2 x3 x4 x5 x6 x7 x8, (Eq (l434 x0 x1 x2 x3 x4 x5 x6 x7 x8) (@Option.rec t14 (λ_=>t170) none (λx9=>(x6 x0 x1 x2 x9 (Dm.mk x7 x8) x4)) (k_putE x1 (Oper.dst x5) (CV.val Value.nilIface) x3))) := by intros; rfl
abbrev t1104:=CV → t170
abbrev t1105:=Bool → t1104
abbrev t1106:=t176 → t1105
abbrev t1107:=Oper → t1106
abbrev t1108:=S → t1107
abbrev t1109:=t14 → t1108
abbrev t1110:=t161 → t1109
abbrev t1111:=Nat → t1110
abbrev t1112:=Program → t1111
def l435 : t1112 := (λx0 x1 x2 x3 x4 x5 x6 x7 x8=>(@Option.rec t14 (λ_=>t170) none (λx9=>(x6 x0 x1 x2 x9 (Dm.mk (some x8) x7) x4)) (k_putE x1 (Oper.dst x5) (CV.val Value.nilIface) x3)))
theorem l435_eq : ∀ x0 x1 x2 x3 x4 x5 x6 x7 x8, (Eq (l435 x0 x1 x2 x3 x4 x5 x6 x7 x8) (@Option.rec t14 (λ_=>t170) none (λx9=>(x6 x0 x1 x2 x9 (Dm.mk (some x8) x7) x4)) (k_putE x1 (Oper.dst x5) (CV.val Value.nilIface) x3))) := by intros; rfl
abbrev t1113:=CV → t1095
abbrev t1114:=t176 → t1113
abbrev t1115:=Oper → t1114
abbrev t1116:=S → t1115
abbrev t1117:=t14 → t1116
abbrev t1118:=t161 → t1117
abbrev t1119:=Nat → t1118
abbrev t1120:=Program → t1119
abbrev t1121:=Bool → t1120
def l436 : t1121 := (λx0=>(@Bool.rec (λ_=>t1120) (λx1 x2 x3 x4 x5 x6 x7 x8 _=>(@Option.rec t14 (λ_=>t170) none (λx10=>(x7 x1 x2 x3 x10 (Dm.mk (some x8) Bool.true) x5)) (k_putE x2 (Oper.dst x6) x8 x4))) (λx1 x2 x3 x4 x5 x6 x7 x8 x9=>(l435 x1 x2 x3 x4 x5 x6 x7 x9 x8)) x0))
theorem l436_eq : ∀ x0 x1 x2 x3 x4 x5 x6 x7 x8 x9, (Eq (l436 x0 x1 x2 x3 x4 x5 x6 x7 x8 x9) (@regR._sparseCasesOn_1 (λ_=>t170) x0 (@Option.rec t14 (λ_=>t170) none (λx10=>(x7 x1 x2 x3 x10 (Dm.mk (some x8) Bool.true) x5)) (k_putE x2 (Oper.dst x6) x8 x4)) (λ_=>(l435 x1 x2 x3 x4 x5 x6 x7 x9 x8)))) := by intro t; cases t <;> (intros; rfl)
abbrev t1122:=t81 → t1103
def l437 : t1122 := (λx0=>(@Option.rec CV (λ_=>t1103) (λx1 x2 x3 x4 x5 x6 x7 x8 x9=>(l434 x1 x2 x3 x4 x5 x6 x7 x8 x9)) (λx1 x2 x3 x4 x5 x6 x7 x8 _ x10=>(l436 x10 x2 x3 x4 x5 x6 x7 x8 x1 x10)) x0))
theorem l437_eq : ∀ x0 x1 x2 x3 x4 x5 x6 x7 x8 x9, (Eq (l437 x0 x1 x2 x3 x4 x5 x6 x7 x8 x9) (@methV._sparseCasesOn_2 CV (λ_=>t170) x0 (λx10=>(l436 x9 x1 x2 x3 x4 x5 x6 x7 x10 x9)) (λ_=>(l434 x1 x2 x3 x4 x5 x6 x7 x8 x9)))) := by intro t; cases t <;> (intros; rfl)
abbrev t1123:=Builtin → t1094
def l438 : t1123 := (λx0=>(@Builtin.rec (λ_=>t1094) (λx1 x2 x3 x4 x5 x6 x7 x8=>(l433 x1 x2 x3 x4 x5 x6 x7 x8)) (λx1 x2 x3 x4 x5 x6 x7 x8=>(l433 x1 x2 x3 x4 x5 x6 x7 x8)) (λx1 x2 x3 x4 x5 x6 x7 x8=>(l433 x1 x2 x3 x4 x5 x6 x7 x8)) (λx1 x2 x3 x4 x5 x6 x7 x8=>(l433 x1 x2 x3 x4 x5 x6 x7 x8)) (λx1 x2 x3 x4 x5 x6 x7 x8=>(l433 x1 x2 x3 x4 x5 x6 x7 x8)) (λx1 x2 x3 x4 x5 x6 x7 x8=>(l433 x1 x2 x3 x4 x5 x6 x7 x8)) (λx1 x2 x3 x4 x5 x6 x7 x8=>(l433 x1 x2 x3 x4 x5 x6 x7 x8)) (λx1 x2 x3 x4 x5 x6 x7 x8=>(l433 x1 x2 x3 x4 x5 x6 x7 x8)) (λx1 x2 x3 x4 x5 x6 x7 x8=>(l433 x1 x2 x3 x4 x5 x6 x7 x8)) (λx1 x2 x3 x4 x5 x6 x7 x8=>(l433 x1 x2 x3 x4 x5 x6 x7 x8)) (λx1 x2 x3 x4 x5 x6 x7 x8=>(l433 x1 x2 x3 x4 x5 x6 x7 x8)) (λx1 x2 x3 x4 x5 x6 x7 x8=>(l433 x1 x2 x3 x4 x5 x6 x7 x8)) (λx1 x2 x3 x4 x5 x6 x7 x8=>(l433 x1 x2 x3 x4 x5 x6 x7 x8)) (λx1 x2 x3 x4 x5 x6 x7 x8=>(l433 x1 x2 x3 x4 x5 x6 x7 x8)) (λx1 x2 x3 x4 x5 x6 x7 x8=>(l433 x1 x2 x3 x4 x5 x6 x7 x8)) (λx1 x2 x3 x4 x5 x6 x7 x8=>(l433 x1 x2 x3 x4 x5 x6 x7 x8)) (λx1 x2 x3 x4 x5 x6 x7 x8=>(l433 x1 x2 x3 x4 x5 x6 x7 x8)) (λx1 x2 x3 x4 x5 x6 x7 x8=>(@Dm.rec (λ_=>t170) (λx9 x10=>(l437 x9 x1 x2 x3 x4 x6 x7 x8 x9 x10)) x5)) (λx1 x2 x3 x4 x5 x6 x7 x8=>(l433 x1 x2 x3 x4 x5 x6 x7 x8)) (λx1 x2 x3 x4 x5 x6 x7 x8=>(l433 x1 x2 x3 x4 x5 x6 x7 x8)) (λx1 x2 x3 x4 x5 x6 x7 x8=>(l433 x1 x2 x3 x4 x5 x6 x7 x8)) (λx1 x2 x3 x4 x5 x6 x7 x8=>(l433 x1 x2 x3 x4 x5 x6 x7 x8)) (λx1 x2 x3 x4 x5 x6 x7 x8=>(l433 x1 x2 x3 x4 x5 x6 x7 x8)) (λx1 x2 x3 x4 x5 x6 x7 x8=>(l433 x1 x2 x3 x4 x5 x6 x7 x8)) (λx1 x2 x3 x4 x5 x6 x7 x8=>(l433 x1 x2 x3 x4 x5 x6 x7 x8)) (λx1 x2 x3 x4 x5 x6 x7 x8=>(l433 x1 x2 x3 x4 x5 x6 x7 x8)) x0))
theorem l438_eq : ∀ x0 x1 x2 x3 x4 x5 x6 x7 x8, (Eq (l438 x0 x1 x2 x3 x4 x5 x6 x7 x8) (@regR._sparseCasesOn_4 (λ_=>t170) x0 (@Dm.rec (λ_=>t170) (λx9 x10=>(l437 x9 x1 x2 x3 x4 x6 x7 x8 x9 x10)) x5) (λ_=>(l433 x1 x2 x3 x4 x5 x6 x7 x8)))) := by intro t; cases t <;> (intros; rfl)
abbrev t1124:=Callee → t1094
def l439 : t1124 := (λx0=>(@Callee.rec (λ_=>t1094) (λ_ x2 x3 x4 x5 x6 x7 x8 x9=>(l430 x2 x3 x4 x5 x6 x7 x8 x9)) (λ_ _ x3 x4 x5 x6 x7 x8 x9 x10=>(l430 x3 x4 x5 x6 x7 x8 x9 x10)) (λx1 x2 x3 x4 x5 x6 x7 x8 x9=>(l438 x1 x2 x3 x4 x5 x6 x7 x8 x9)) x0))
theorem l439_eq : ∀ x0 x1 x2 x3 x4 x5 x6 x7 x8, (Eq (l439 x0 x1 x2 x3 x4 x5 x6 x7 x8) (@regR._sparseCasesOn_3 (λ_=>t170) x0 (λx9=>(l438 x9 x1 x2 x3 x4 x5 x6 x7 x8)) (λ_=>(l430 x1 x2 x3 x4 x5 x6 x7 x8)))) := by intro t; cases t <;> (intros; rfl)
abbrev t1125:=Op → t1094
def l440 : t1125 := (λx0=>(@Op.rec (λ_=>t1094) (λ_ x2 x3 x4 x5 x6 x7 x8 x9=>(l46 x2 x3 x4 x5 x6 x7 x8 x9)) (λ_ x2 x3 x4 x5 x6 x7 x8 x9=>(l46 x2 x3 x4 x5 x6 x7 x8 x9)) (λ_ _ _ x4 x5 x6 x7 x8 x9 x10 x11=>(l46 x4 x5 x6 x7 x8 x9 x10 x11)) (λ_ x2 x3 x4 x5 x6 x7 x8 x9=>(l46 x2 x3 x4 x5 x6 x7 x8 x9)) (λ_ _ x3 x4 x5 x6 x7 x8 x9 x10=>(l46 x3 x4 x5 x6 x7 x8 x9 x10)) (λ_ _ x3 x4 x5 x6 x7 x8 x9 x10=>(l46 x3 x4 x5 x6 x7 x8 x9 x10)) (λ_ _ _ x4 x5 x6 x7 x8 x9 x10 x11=>(l46 x4 x5 x6 x7 x8 x9 x10 x11)) (λ_ _ _ _ x5 x6 x7 x8 x9 x10 x11 x12=>(l46 x5 x6 x7 x8 x9 x10 x11 x12)) (λ_ _ x3 x4 x5 x6 x7 x8 x9 x10=>(l46 x3 x4 x5 x6 x7 x8 x9 x10)) (λ_ _ _ x4 x5 x6 x7 x8 x9 x10 x11=>(l46 x4 x5 x6 x7 x8 x9 x10 x11)) (λ_ x2 x3 x4 x5 x6 x7 x8 x9=>(l46 x2 x3 x4 x5 x6 x7 x8 x9)) (λ_ x2 x3 x4 x5 x6 x7 x8 x9=>(l46 x2 x3 x4 x5 x6 x7 x8 x9)) (λ_ x2 x3 x4 x5 x6 x7 x8 x9=>(l46 x2 x3 x4 x5 x6 x7 x8 x9)) (λ_ _ _ _ _ x6 x7 x8 x9 x10 x11 x12 x13=>(l46 x6 x7 x8 x9 x10 x11 x12 x13)) (λ_ _ _ x4 x5 x6 x7 x8 x9 x10 x11=>(l46 x4 x5 x6 x7 x8 x9 x10 x11)) (λ_ _ _ x4 x5 x6 x7 x8 x9 x10 x11=>(l46 x4 x5 x6 x7 x8 x9 x10 x11)) (λ_ _ x3 x4 x5 x6 x7 x8 x9 x10=>(l46 x3 x4 x5 x6 x7 x8 x9 x10)) (λ_ _ x3 x4 x5 x6 x7 x8 x9 x10=>(l46 x3 x4 x5 x6 x7 x8 x9 x10)) (λ_ _ _ x4 x5 x6 x7 x8 x9 x10 x11=>(l46 x4 x5 x6 x7 x8 x9 x10 x11)) (λ_ _ x3 x4 x5 x6 x7 x8 x9 x10=>(l46 x3 x4 x5 x6 x7 x8 x9 x10)) (λ_ _ x3 x4 x5 x6 x7 x8 x9 x10=>(l46 x3 x4 x5 x6 x7 x8 x9 x10)) (λ_ _ _ x4 x5 x6 x7 x8 x9 x10 x11=>(l46 x4 x5 x6 x7 x8 x9 x10 x11)) (λ_ _ _ _ _ x6 x7 x8 x9 x10 x11 x12 x13=>(l46 x6 x7 x8 x9 x10 x11 x12 x13)) (λ_ _ _ x4 x5 x6 x7 x8 x9 x10 x11=>(l46 x4 x5 x6 x7 x8 x9 x10 x11)) (λ_ _ _ x4 x5 x6 x7 x8 x9 x10 x11=>(l46 x4 x5 x6 x7 x8 x9 x10 x11)) (λ_ _ _ x4 x5 x6 x7 x8 x9 x10 x11=>(l46 x4 x5 x6 x7 x8 x9 x10 x11)) (λ_ _ _ x4 x5 x6 x7 x8 x9 x10 x11=>(l46 x4 x5 x6 x7 x8 x9 x10 x11)) (λ_ _ _ _ x5 x6 x7 x8 x9 x10 x11 x12=>(l46 x5 x6 x7 x8 x9 x10 x11 x12)) (λ_ _ _ _ x5 x6 x7 x8 x9 x10 x11 x12=>(l46 x5 x6 x7 x8 x9 x10 x11 x12)) (λ_ _ _ x4 x5 x6 x7 x8 x9 x10 x11=>(l46 x4 x5 x6 x7 x8 x9 x10 x11)) (λ_ _ _ _ x5 x6 x7 x8 x9 x10 x11 x12=>(l46 x5 x6 x7 x8 x9 x10 x11 x12)) (λ_ _ x3 x4 x5 x6 x7 x8 x9 x10=>(l46 x3 x4 x5 x6 x7 x8 x9 x10)) (λ_ _ x3 x4 x5 x6 x7 x8 x9 x10=>(l46 x3 x4 x5 x6 x7 x8 x9 x10)) (λ_ x2 x3 x4 x5 x6 x7 x8 x9=>(l46 x2 x3 x4 x5 x6 x7 x8 x9)) (λ_ _ _ _ x5 x6 x7 x8 x9 x10 x11 x12=>(l46 x5 x6 x7 x8 x9 x10 x11 x12)) (λ_ _ x3 x4 x5 x6 x7 x8 x9 x10=>(l46 x3 x4 x5 x6 x7 x8 x9 x10)) (λx1 x2 x3 x4 x5 x6 x7 x8 x9=>(l439 (Call.callee x1) x2 x3 x4 x5 x6 x7 x8 x9)) (λ_ x2 x3 x4 x5 x6 x7 x8 x9=>(l46 x2 x3 x4 x5 x6 x7 x8 x9)) (λ_ x2 x3 x4 x5 x6 x7 x8 x9=>(l46 x2 x3 x4 x5 x6 x7 x8 x9)) (λ_ x2 x3 x4 x5 x6 x7 x8 x9=>(l46 x2 x3 x4 x5 x6 x7 x8 x9)) (λ_ _ x3 x4 x5 x6 x7 x8 x9 x10=>(l46 x3 x4 x5 x6 x7 x8 x9 x10)) (λ_ _ _ x4 x5 x6 x7 x8 x9 x10 x11=>(l46 x4 x5 x6 x7 x8 x9 x10 x11)) (λ_ _ x3 x4 x5 x6 x7 x8 x9 x10=>(l46 x3 x4 x5 x6 x7 x8 x9 x10)) x0))
theorem l440_eq : ∀ x0 x1 x2 x3 x4 x5 x6 x7 x8, (Eq (l440 x0 x1 x2 x3 x4 x5 x6 x7 x8) (@regR._sparseCasesOn_5 (λ_=>t170) x0 (λx9=>(l439 (Call.callee x9) x1 x2 x3 x4 x5 x6 x7 x8)) (λ_=>(l46 x1 x2 x3 x4 x5 x6 x7 x8)))) := by intro t; cases t <;> (intros; rfl)
abbrev t1126:=Bool → t1094
def l441 : t1126 := (λx0=>(@Bool.rec (λ_=>t1094) (λx1 x2 x3 x4 x5 x6 x7 x8=>(@Option.rec t14 (λ_=>t170) none (λx9=>(x8 x1 x2 x3 x9 x5 x6)) (k_putE x2 (Oper.dst x7) (CV.tup []) x4))) (λx1 x2 x3 x4 x5 x6 x7 x8=>(l440 (Oper.op x7) x1 x2 x3 x4 x5 x6 x7 x8)) x0))
theorem l441_eq : ∀ x0 x1 x2 x3 x4 x5 x6 x7 x8, (Eq (l441 x0 x1 x2 x3 x4 x5 x6 x7 x8) (@Bool.rec (λ_=>t170) (@Option.rec t14 (λ_=>t170) none (λx9=>(x8 x1 x2 x3 x9 x5 x6)) (k_putE x2 (Oper.dst x7) (CV.tup []) x4)) (l440 (Oper.op x7) x1 x2 x3 x4 x5 x6 x7 x8) x0)) := by intro t; cases t <;> (intros; rfl)
def l442 : t490 := (λx0=>(@Value.rec (λ_=>t391) (λ_=>PUnit.{1}) (λ_=>PUnit.{1}) (λx1 x2=>(@Bool.rec (λ_=>t369) (some (@Bool.rec (λ_=>Bool) Bool.true Bool.false x2)) (some x2) x1)) (λ_ _ _=>none) (λ_ _ _=>none) (λ_ _ _ _=>none) (λ_ _=>none) (λ_ _=>none) (λ_ _ _ _=>none) (λ_ _=>none) (λ_ _=>none) (λ_ _ _ _ _ _=>none) (λ_=>none) (λ_ _ _ _=>none) (λ_=>none) (λ_ _ _=>none) (λ_ _ _=>none) (λ_ _=>PUnit.unit.{1}) PUnit.unit.{1} (λ_ _ _ _=>PUnit.unit.{1}) x0))
theorem l442_eq : ∀ x0 x1, (Eq (l442 x0 x1) (@guardV._sparseCasesOn_2 (λ_=>t369) x0 (λx2=>(@Bool.rec (λ_=>t369) (some (@Bool.rec (λ_=>Bool) Bool.true Bool.false x1)) (some x1) x2)) (λ_=>none))) := by intro t; cases t <;> (intros; rfl)
def l443 : t372 := (λx0=>(@List.rec CV (λ_=>t369) (some Bool.false) (λ_ _ _=>none) x0))
theorem l443_eq : ∀ x0, (Eq (l443 x0) (@methV._sparseCasesOn_1 CV (λ_=>t369) x0 (some Bool.false) (λ_=>none))) := by intro t; cases t <;> (intros; rfl)
def l444 : t491 := (λx0=>(@CV.rec (λ_=>t391) (λ_=>PUnit.{1}) (λ_=>none) (λx1 x2=>(l442 x1 x2)) (λ_ _ _=>none) (λ_ _ _ _ _ _=>none) (λ_=>none) (λ_ _=>none) (λ_ _ _=>none) (λx1 _ _=>(l443 x1)) (λ_ _ _ _ _ _=>none) (λ_ _=>none) (λ_ _ _ _=>none) PUnit.unit.{1} (λ_ _ _ _=>PUnit.unit.{1}) x0))
theorem l444_eq : ∀ x0 x1, (Eq (l444 x0 x1) (@guardV._sparseCasesOn_1 (λ_=>t369) x0 (λx2=>(l442 x2 x1)) (λx2=>(l443 x2)) (λ_=>none))) := by intro t; cases t <;> (intros; rfl)
abbrev t1127:=t81 → t391
def l445 : t1127 := (λx0=>(@Option.rec CV (λ_=>t391) (λ_=>none) (λx1 x2=>(l444 x1 x2)) x0))
theorem l445_eq : ∀ x0 x1, (Eq (l445 x0 x1) (@methV._sparseCasesOn_2 CV (λ_=>t369) x0 (λx2=>(l444 x2 x1)) (λ_=>none))) := by intro t; cases t <;> (intros; rfl)
abbrev t1128:=Option Oper
abbrev t1129:=Nat → t1128
abbrev t1130:=t161 → t1129
def k_List_get?Internal_Oper : t1130 := (λx0 x1=>(@List.rec Oper (λ_=>t1129) (λ_=>none) (λx2 _ x4 x5=>(@Nat.rec (λ_=>t1128) (some x2) (λx6 _=>(x4 x6)) x5)) x0 x1))
theorem k_List_get?Internal_Oper_law : ∀ x0 x1, (Eq (k_List_get?Internal_Oper x0 x1) (@List.get?Internal Oper x0 x1)) := by
  intro t
  induction t with
  | nil  =>
    intro z0
    show ((fun (_ : Nat) => none) z0) = _
    conv => rhs; rw [List.get?Internal.eq_def]
    all_goals kernel_rfl
  | cons y0 y1 ih0 =>
    intro z0
    have e0 : (fun (x0 : Nat) => (k_List_get?Internal_Oper y1 x0)) = (fun (x0 : Nat) => (@List.get?Internal Oper y1 x0)) := by
      funext z0; exact ih0 z0
    show ((fun (x0 : Oper) (_ : t161) (x2 : t1129) (x3 : Nat) => (@Nat.rec (fun (_ : Nat) => t1128) (some x0) (fun (x4 : Nat) (_ : t1128) => (x2 x4)) x3)) y0 y1 (fun (x0 : Nat) => (k_List_get?Internal_Oper y1 x0)) z0) = _
    rw [e0]
    conv => rhs; rw [List.get?Internal.eq_def]
    all_goals kernel_rfl
theorem k_List_get?Internal_Oper_eq : @k_List_get?Internal_Oper = (@List.get?Internal Oper) := by
  funext a0 a1; exact k_List_get?Internal_Oper_law a0 a1
abbrev t1131:=Prod Nat Bool
abbrev t1132:=t14 → t369
abbrev t1133:=t161 → t1132
abbrev t1134:=t1131 → t1133
def l446 : t1134 := (λx0=>(@Prod.rec Nat Bool (λ_=>t1133) (λx1 x2 x3 x4=>((λx5 x6=>(@Option.rec Oper (λ_=>t369) none (λx7=>((λx8=>(@Option.rec Tmp (λ_=>t369) none (λx9=>((λx10=>(l445 (getCV x4 x10) x6)) x9)) (Oper.dst x8))) x7)) (k_List_get?Internal_Oper x3 x5))) x1 x2)) x0))
theorem l446_eq : ∀ x0 x1 x2, (Eq (l446 x0 x1 x2) (@Prod.rec Nat Bool (λ_=>t369) (λx3 x4=>((λx5 x6=>(@Option.rec Oper (λ_=>t369) none (λx7=>((λx8=>(@Option.rec Tmp (λ_=>t369) none (λx9=>((λx10=>(l445 (getCV x2 x10) x6)) x9)) (Oper.dst x8))) x7)) (k_List_get?Internal_Oper x1 x5))) x3 x4)) x0)) := by intro t; cases t <;> (intros; rfl)
abbrev t1135:=Oper → t369
abbrev t1136:=t14 → t1135
abbrev t1137:=t161 → t1136
def k_guardV : t1137 := (λx0 x1 x2=>(@Option.rec t1131 (λ_=>t369) (some Bool.true) (λx3=>(l446 x3 x0 x1)) (Oper.guard x2)))
theorem k_guardV_eq : @k_guardV = guardV := by
  delta k_guardV guardV
  simp only [l444_eq, l446_eq, l445_eq, l442_eq, l443_eq]
  rw [k_List_get?Internal_Oper_eq, getCV_eq]
  all_goals kernel_rfl

abbrev t1138:=t161 → t174
abbrev t1139:=Nat → t1138
abbrev t1140:=Program → t1139
def k_regR : t1140 := (λx0 x1 x2 x3 x4 x5 x6=>(@List.rec Oper (λ_=>t176) (λ_ _ _ x10 x11 x12=>(some (x10, (x11, x12)))) (λx7 _ x9 x10 x11 x12 x13 x14 x15=>(@Option.rec Bool (λ_=>t170) none (λx16=>(l441 x16 x10 x11 x12 x13 x14 x15 x7 x9)) (k_guardV x12 x13 x7))) x3 x0 x1 x2 x4 x5 x6))
theorem k_regR_law : ∀ x0 x1 x2 x3 x4 x5 x6, (Eq (k_regR x1 x2 x3 x0 x4 x5 x6) (regR x1 x2 x3 x0 x4 x5 x6)) := by
  intro t
  induction t with
  | nil  =>
    intro z0 z1 z2 z3 z4 z5
    show ((fun (_ : Program) (_ : Nat) (_ : t161) (x3 : t14) (x4 : Dm) (x5 : S) => (some (x3, (x4, x5)))) z0 z1 z2 z3 z4 z5) = _
    conv => rhs; rw [Ev.regR.eq_def]
    all_goals kernel_rfl
  | cons y0 y1 ih0 =>
    intro z0 z1 z2 z3 z4 z5
    have e0 : (fun (x0 : Program) (x1 : Nat) (x2 : t161) (x3 : t14) (x4 : Dm) (x5 : S) => (k_regR x0 x1 x2 y1 x3 x4 x5)) = (fun (x0 : Program) (x1 : Nat) (x2 : t161) (x3 : t14) (x4 : Dm) (x5 : S) => (regR x0 x1 x2 y1 x3 x4 x5)) := by
      funext z0 z1 z2 z3 z4 z5; exact ih0 z0 z1 z2 z3 z4 z5
    show ((fun (x0 : Oper) (_ : t161) (x2 : t176) (x3 : Program) (x4 : Nat) (x5 : t161) (x6 : t14) (x7 : Dm) (x8 : S) => (@Option.rec Bool (fun (_ : t369) => t170) none (fun (x9 : Bool) => (l441 x9 x3 x4 x5 x6 x7 x8 x0 x2)) (k_guardV x5 x6 x0))) y0 y1 (fun (x0 : Program) (x1 : Nat) (x2 : t161) (x3 : t14) (x4 : Dm) (x5 : S) => (k_regR x0 x1 x2 y1 x3 x4 x5)) z0 z1 z2 z3 z4 z5) = _
    rw [e0]
    conv => rhs; rw [Ev.regR.eq_def]
    try simp only [l436_eq, l428_eq, l438_eq, l430_eq, l439_eq, l437_eq, l46_eq, l440_eq, l429_eq, l45_eq, l441_eq, l431_eq, l434_eq, l435_eq, l432_eq, l44_eq, l433_eq]
    try rw [k_guardV_eq]
    try rw [k_putE_eq]
    try rw [k_opV_eq]
    all_goals kernel_rfl
theorem k_regR_eq : @k_regR = regR := by
  funext a0 a1 a2 a3 a4 a5 a6; exact k_regR_law a3 a0 a1 a2 a4 a5 a6
abbrev t1141:=Program → t137
abbrev t1142:=(Array Oper) → t1141
abbrev t1143:=Nat → t1142
abbrev t1144:=S → t1143
abbrev t1145:=Dm → t1144
abbrev t1146:=t14 → t1145
abbrev t1147:=Nat → t1146
abbrev t1148:=Run → t1147
abbrev t1149:=Bool → t1148
def l43 : t1149 := (λx0=>(@Bool.rec (λ_=>t1148) (λx1 x2 x3 x4 x5 x6 x7 _=>(l42 (Run.code x1 (Code.region x6 x7 Bool.false) (Fr.mk x2 x3 [] none) x5) x4)) (λ_ x2 x3 x4 x5 _ x7 x8=>(@Option.rec t131 (λ_=>t137) none (λx9=>(@Prod.rec t14 t126 (λ_=>t137) (λx10 x11=>(@Prod.rec Dm S (λ_=>t137) (λx12 x13=>(some (Ex.normal, (x10, (x12, x13))))) x11)) x9)) (k_regR x8 x2 (@Array.toList Oper x7) (@Array.toList Oper x7) x3 x4 x5))) x0))
theorem l43_eq : ∀ x0 x1 x2 x3 x4 x5 x6 x7 x8, (Eq (l43 x0 x1 x2 x3 x4 x5 x6 x7 x8) (@Bool.rec (λ_=>t137) (l42 (Run.code x1 (Code.region x6 x7 Bool.false) (Fr.mk x2 x3 [] none) x5) x4) (@Option.rec t131 (λ_=>t137) none (λx9=>(@Prod.rec t14 t126 (λ_=>t137) (λx10 x11=>(@Prod.rec Dm S (λ_=>t137) (λx12 x13=>(some (Ex.normal, (x10, (x12, x13))))) x11)) x9)) (k_regR x8 x2 (@Array.toList Oper x7) (@Array.toList Oper x7) x3 x4 x5)) x0)) := by intro t; cases t <;> (intros; rfl)
abbrev t1150:=Builtin → Bool
def l448 : t1150 := (λx0=>(@Builtin.rec (λ_=>Bool) Bool.false Bool.false Bool.false Bool.false Bool.false Bool.false Bool.false Bool.false Bool.false Bool.false Bool.false Bool.false Bool.false Bool.false Bool.false Bool.false Bool.false Bool.true Bool.false Bool.false Bool.false Bool.false Bool.false Bool.false Bool.false Bool.false x0))
theorem l448_eq : ∀ x0, (Eq (l448 x0) (@regR._sparseCasesOn_4 (λ_=>Bool) x0 Bool.true (λ_=>Bool.false))) := by intro t; cases t <;> (intros; rfl)
abbrev t1151:=Callee → Bool
def l449 : t1151 := (λx0=>(@Callee.rec (λ_=>Bool) (λ_=>Bool.false) (λ_ _=>Bool.false) (λx1=>(l448 x1)) x0))
theorem l449_eq : ∀ x0, (Eq (l449 x0) (@regR._sparseCasesOn_3 (λ_=>Bool) x0 (λx1=>(l448 x1)) (λ_=>Bool.false))) := by intro t; cases t <;> (intros; rfl)
abbrev t1152:=Op → Bool
def l450 : t1152 := (λx0=>(@Op.rec (λ_=>Bool) (λ_=>Bool.false) (λ_=>Bool.false) (λ_ _ _=>Bool.false) (λ_=>Bool.false) (λ_ _=>Bool.false) (λ_ _=>Bool.false) (λ_ _ _=>Bool.false) (λ_ _ _ _=>Bool.false) (λ_ _=>Bool.false) (λ_ _ _=>Bool.false) (λ_=>Bool.false) (λ_=>Bool.false) (λ_=>Bool.false) (λ_ _ _ _ _=>Bool.false) (λ_ _ _=>Bool.false) (λ_ _ _=>Bool.false) (λ_ _=>Bool.false) (λ_ _=>Bool.false) (λ_ _ _=>Bool.false) (λ_ _=>Bool.false) (λ_ _=>Bool.false) (λ_ _ _=>Bool.false) (λ_ _ _ _ _=>Bool.false) (λ_ _ _=>Bool.false) (λ_ _ _=>Bool.false) (λ_ _ _=>Bool.false) (λ_ _ _=>Bool.false) (λ_ _ _ _=>Bool.false) (λ_ _ _ _=>Bool.false) (λ_ _ _=>Bool.false) (λ_ _ _ _=>Bool.false) (λ_ _=>Bool.false) (λ_ _=>Bool.false) (λ_=>Bool.false) (λ_ _ _ _=>Bool.false) (λ_ _=>Bool.false) (λx1=>(l449 (Call.callee x1))) (λ_=>Bool.false) (λ_=>Bool.false) (λ_=>Bool.false) (λ_ _=>Bool.false) (λ_ _ _=>Bool.false) (λ_ _=>Bool.false) x0))
theorem l450_eq : ∀ x0, (Eq (l450 x0) (@regR._sparseCasesOn_5 (λ_=>Bool) x0 (λx1=>(l449 (Call.callee x1))) (λ_=>Bool.false))) := by intro t; cases t <;> (intros; rfl)
abbrev t1153:=t161 → Bool
def k_hasRec : t1153 := (λx0=>(@List.any Oper x0 (λx1=>(l450 (Oper.op x1)))))
theorem k_hasRec_eq : @k_hasRec = hasRec := by
  delta k_hasRec hasRec
  simp only [l449_eq, l448_eq, l450_eq]
  all_goals kernel_rfl

abbrev t1154:=Program → t160
abbrev t1155:=Bool → t1154
def l447 : t1155 := (λx0=>(@Bool.rec (λ_=>t1154) (λx1 x2 x3 x4 x5 x6 x7 x8 _=>(l43 (k_hasRec (@Array.toList Oper x8)) x2 x3 x4 x5 x6 x7 x8 x1)) (λ_ x2 x3 x4 x5 x6 x7 x8 x9=>(l39 x2 x3 x4 x5 x6 x7 x8 x9)) x0))
theorem l447_eq : ∀ x0 x1 x2 x3 x4 x5 x6 x7 x8 x9, (Eq (l447 x0 x1 x2 x3 x4 x5 x6 x7 x8 x9) (@regR._sparseCasesOn_1 (λ_=>t137) x0 (l43 (k_hasRec (@Array.toList Oper x8)) x2 x3 x4 x5 x6 x7 x8 x1) (λ_=>(l39 x2 x3 x4 x5 x6 x7 x8 x9)))) := by intro t; cases t <;> (intros; rfl)
abbrev t1156:=S → t137
abbrev t1157:=Dm → t1156
abbrev t1158:=t14 → t1157
abbrev t1159:=Nat → t1158
abbrev t1160:=Run → t1159
abbrev t1161:=Program → t1160
abbrev t1162:=Ex → t137
abbrev t1163:=t131 → t1162
abbrev t1164:=t1161 → t1163
abbrev t1165:=Nat → t1164
abbrev t1166:=Run → t1165
abbrev t1167:=Program → t1166
abbrev t1168:=Ex → t1167
def l451 : t1168 := (λx0=>(@Ex.rec (λ_=>t1167) (λx1 x2 x3 x4 x5 _=>(@Prod.rec t14 t126 (λ_=>t137) (λx7 x8=>(@Prod.rec Dm S (λ_=>t137) (λx9 x10=>(x4 x1 x2 x3 x7 x9 x10)) x8)) x5)) (λ_ _ _ _ _ x6 x7=>(some (x7, x6))) (λ_ _ _ _ x5 x6=>(some (x6, x5))) (λ_ _ _ _ _ x6 x7=>(some (x7, x6))) x0))
theorem l451_eq : ∀ x0 x1 x2 x3 x4 x5 x6, (Eq (l451 x0 x1 x2 x3 x4 x5 x6) (@codeD._sparseCasesOn_1 (λ_=>t137) x0 (@Prod.rec t14 t126 (λ_=>t137) (λx7 x8=>(@Prod.rec Dm S (λ_=>t137) (λx9 x10=>(x4 x1 x2 x3 x7 x9 x10)) x8)) x5) (λ_=>(some (x6, x5))))) := by intro t; cases t <;> (intros; rfl)
abbrev t1169:=t1161 → t137
abbrev t1170:=t1161 → t1169
abbrev t1171:=S → t1170
abbrev t1172:=Dm → t1171
abbrev t1173:=t14 → t1172
abbrev t1174:=Nat → t1173
abbrev t1175:=Run → t1174
abbrev t1176:=Program → t1175
abbrev t1177:=t137 → t1176
def l452 : t1177 := (λx0=>(@Option.rec t136 (λ_=>t1176) (λx1 x2 x3 x4 x5 x6 x7 _=>(x7 x1 x2 x3 x4 x5 x6)) (λx1 x2 x3 x4 _ _ _ _ x9=>(@Prod.rec Ex t131 (λ_=>t137) (λx10 x11=>(l451 x10 x2 x3 x4 x9 x11 x10)) x1)) x0))
theorem l452_eq : ∀ x0 x1 x2 x3 x4 x5 x6 x7 x8, (Eq (l452 x0 x1 x2 x3 x4 x5 x6 x7 x8) (@methV._sparseCasesOn_2 t136 (λ_=>t137) x0 (λx9=>(@Prod.rec Ex t131 (λ_=>t137) (λx10 x11=>(l451 x10 x1 x2 x3 x8 x11 x10)) x9)) (λ_=>(x7 x1 x2 x3 x4 x5 x6)))) := by intro t; cases t <;> (intros; rfl)
abbrev t1178:=Value → t1176
def l453 : t1178 := (λx0=>(@Value.rec (λ_=>t1176) (λ_=>PUnit.{1}) (λ_=>PUnit.{1}) (λx1 x2 x3 x4 x5 x6 x7 x8 x9=>(@Bool.rec (λ_=>t137) (x9 x2 x3 x4 x5 x6 x7) (x8 x2 x3 x4 x5 x6 x7) x1)) (λ_ _ _ _ _ _ _ _ _ _=>none) (λ_ _ _ _ _ _ _ _ _ _=>none) (λ_ _ _ _ _ _ _ _ _ _ _=>none) (λ_ _ _ _ _ _ _ _ _=>none) (λ_ _ _ _ _ _ _ _ _=>none) (λ_ _ _ _ _ _ _ _ _ _ _=>none) (λ_ _ _ _ _ _ _ _ _=>none) (λ_ _ _ _ _ _ _ _ _=>none) (λ_ _ _ _ _ _ _ _ _ _ _ _ _=>none) (λ_ _ _ _ _ _ _ _=>none) (λ_ _ _ _ _ _ _ _ _ _ _=>none) (λ_ _ _ _ _ _ _ _=>none) (λ_ _ _ _ _ _ _ _ _ _=>none) (λ_ _ _ _ _ _ _ _ _ _=>none) (λ_ _=>PUnit.unit.{1}) PUnit.unit.{1} (λ_ _ _ _=>PUnit.unit.{1}) x0))
theorem l453_eq : ∀ x0 x1 x2 x3 x4 x5 x6 x7 x8, (Eq (l453 x0 x1 x2 x3 x4 x5 x6 x7 x8) (@guardV._sparseCasesOn_2 (λ_=>t137) x0 (λx9=>(@Bool.rec (λ_=>t137) (x8 x1 x2 x3 x4 x5 x6) (x7 x1 x2 x3 x4 x5 x6) x9)) (λ_=>none))) := by intro t; cases t <;> (intros; rfl)
abbrev t1179:=CV → t1176
def l454 : t1179 := (λx0=>(@CV.rec (λ_=>t1176) (λ_=>PUnit.{1}) (λ_ _ _ _ _ _ _ _=>none) (λx1 x2 x3 x4 x5 x6 x7 x8 x9=>(l453 x1 x2 x3 x4 x5 x6 x7 x8 x9)) (λ_ _ _ _ _ _ _ _ _ _=>none) (λ_ _ _ _ _ _ _ _ _ _ _ _ _=>none) (λ_ _ _ _ _ _ _ _=>none) (λ_ _ _ _ _ _ _ _ _=>none) (λ_ _ _ _ _ _ _ _ _ _=>none) (λ_ _ _ _ _ _ _ _ _ _=>none) (λ_ _ _ _ _ _ _ _ _ _ _ _ _=>none) (λ_ _ _ _ _ _ _ _ _=>none) (λ_ _ _ _ _ _ _ _ _ _ _=>none) PUnit.unit.{1} (λ_ _ _ _=>PUnit.unit.{1}) x0))
theorem l454_eq : ∀ x0 x1 x2 x3 x4 x5 x6 x7 x8, (Eq (l454 x0 x1 x2 x3 x4 x5 x6 x7 x8) (@codeD._sparseCasesOn_2 (λ_=>t137) x0 (λx9=>(l453 x9 x1 x2 x3 x4 x5 x6 x7 x8)) (λ_=>none))) := by intro t; cases t <;> (intros; rfl)
abbrev t1180:=t81 → t1176
def l455 : t1180 := (λx0=>(@Option.rec CV (λ_=>t1176) (λ_ _ _ _ _ _ _ _=>none) (λx1 x2 x3 x4 x5 x6 x7 x8 x9=>(l454 x1 x2 x3 x4 x5 x6 x7 x8 x9)) x0))
theorem l455_eq : ∀ x0 x1 x2 x3 x4 x5 x6 x7 x8, (Eq (l455 x0 x1 x2 x3 x4 x5 x6 x7 x8) (@methV._sparseCasesOn_2 CV (λ_=>t137) x0 (λx9=>(l454 x9 x1 x2 x3 x4 x5 x6 x7 x8)) (λ_=>none))) := by intro t; cases t <;> (intros; rfl)
def l456 : t146 := (λx0=>(@List.rec SD (λ_=>t145) (λx1 x2 x3 x4=>(some (x2, (x4, (x1, x3))))) (λ_ _ _ _ _ _ _=>none) x0))
theorem l456_eq : ∀ x0 x1 x2 x3 x4, (Eq (l456 x0 x1 x2 x3 x4) (@methV._sparseCasesOn_1 SD (λ_=>t137) x0 (some (x2, (x4, (x1, x3)))) (λ_=>none))) := by intro t; cases t <;> (intros; rfl)
def l457 : t150 := (λx0=>(@Prod.rec Ex t147 (λ_=>t149) (λx1 x2 x3=>(@Prod.rec Fr S (λ_=>t137) (λx4 x5=>(@Fr.rec (λ_=>t137) (λ_ x7 x8 _=>(l456 x8 x3 x1 x5 x7)) x4)) x2)) x0))
theorem l457_eq : ∀ x0 x1, (Eq (l457 x0 x1) (@Prod.rec Ex t147 (λ_=>t137) (λx2 x3=>(@Prod.rec Fr S (λ_=>t137) (λx4 x5=>(@Fr.rec (λ_=>t137) (λ_ x7 x8 _=>(l456 x8 x1 x2 x5 x7)) x4)) x3)) x0)) := by intro t; cases t <;> (intros; rfl)
def l458 : t152 := (λx0=>(@Option.rec t148 (λ_=>t149) (λ_=>none) (λx1 x2=>(l457 x1 x2)) x0))
theorem l458_eq : ∀ x0 x1, (Eq (l458 x0 x1) (@methV._sparseCasesOn_2 t148 (λ_=>t137) x0 (λx2=>(l457 x2 x1)) (λ_=>none))) := by intro t; cases t <;> (intros; rfl)
def l459 : t146 := (λx0=>(@List.rec SD (λ_=>t145) (λx1 x2 x3 x4=>(some (x2, (x4, (x1, x3))))) (λ_ _ _ _ _ _ _=>none) x0))
theorem l459_eq : ∀ x0 x1 x2 x3 x4, (Eq (l459 x0 x1 x2 x3 x4) (@methV._sparseCasesOn_1 SD (λ_=>t137) x0 (some (x2, (x4, (x1, x3)))) (λ_=>none))) := by intro t; cases t <;> (intros; rfl)
def l460 : t150 := (λx0=>(@Prod.rec Ex t147 (λ_=>t149) (λx1 x2 x3=>(@Prod.rec Fr S (λ_=>t137) (λx4 x5=>(@Fr.rec (λ_=>t137) (λ_ x7 x8 _=>(l459 x8 x3 x1 x5 x7)) x4)) x2)) x0))
theorem l460_eq : ∀ x0 x1, (Eq (l460 x0 x1) (@Prod.rec Ex t147 (λ_=>t137) (λx2 x3=>(@Prod.rec Fr S (λ_=>t137) (λx4 x5=>(@Fr.rec (λ_=>t137) (λ_ x7 x8 _=>(l459 x8 x1 x2 x5 x7)) x4)) x3)) x0)) := by intro t; cases t <;> (intros; rfl)
def l461 : t152 := (λx0=>(@Option.rec t148 (λ_=>t149) (λ_=>none) (λx1 x2=>(l460 x1 x2)) x0))
theorem l461_eq : ∀ x0 x1, (Eq (l461 x0 x1) (@methV._sparseCasesOn_2 t148 (λ_=>t137) x0 (λx2=>(l460 x2 x1)) (λ_=>none))) := by intro t; cases t <;> (intros; rfl)
def l462 : t146 := (λx0=>(@List.rec SD (λ_=>t145) (λx1 x2 x3 x4=>(some (x2, (x4, (x1, x3))))) (λ_ _ _ _ _ _ _=>none) x0))
theorem l462_eq : ∀ x0 x1 x2 x3 x4, (Eq (l462 x0 x1 x2 x3 x4) (@methV._sparseCasesOn_1 SD (λ_=>t137) x0 (some (x2, (x4, (x1, x3)))) (λ_=>none))) := by intro t; cases t <;> (intros; rfl)
def l463 : t150 := (λx0=>(@Prod.rec Ex t147 (λ_=>t149) (λx1 x2 x3=>(@Prod.rec Fr S (λ_=>t137) (λx4 x5=>(@Fr.rec (λ_=>t137) (λ_ x7 x8 _=>(l462 x8 x3 x1 x5 x7)) x4)) x2)) x0))
theorem l463_eq : ∀ x0 x1, (Eq (l463 x0 x1) (@Prod.rec Ex t147 (λ_=>t137) (λx2 x3=>(@Prod.rec Fr S (λ_=>t137) (λx4 x5=>(@Fr.rec (λ_=>t137) (λ_ x7 x8 _=>(l462 x8 x1 x2 x5 x7)) x4)) x3)) x0)) := by intro t; cases t <;> (intros; rfl)
def l464 : t152 := (λx0=>(@Option.rec t148 (λ_=>t149) (λ_=>none) (λx1 x2=>(l463 x1 x2)) x0))
theorem l464_eq : ∀ x0 x1, (Eq (l464 x0 x1) (@methV._sparseCasesOn_2 t148 (λ_=>t137) x0 (λx2=>(l463 x2 x1)) (λ_=>none))) := by intro t; cases t <;> (intros; rfl)
def l465 : t146 := (λx0=>(@List.rec SD (λ_=>t145) (λx1 x2 x3 x4=>(some (x2, (x4, (x1, x3))))) (λ_ _ _ _ _ _ _=>none) x0))
theorem l465_eq : ∀ x0 x1 x2 x3 x4, (Eq (l465 x0 x1 x2 x3 x4) (@methV._sparseCasesOn_1 SD (λ_=>t137) x0 (some (x2, (x4, (x1, x3)))) (λ_=>none))) := by intro t; cases t <;> (intros; rfl)
def l466 : t150 := (λx0=>(@Prod.rec Ex t147 (λ_=>t149) (λx1 x2 x3=>(@Prod.rec Fr S (λ_=>t137) (λx4 x5=>(@Fr.rec (λ_=>t137) (λ_ x7 x8 _=>(l465 x8 x3 x1 x5 x7)) x4)) x2)) x0))
theorem l466_eq : ∀ x0 x1, (Eq (l466 x0 x1) (@Prod.rec Ex t147 (λ_=>t137) (λx2 x3=>(@Prod.rec Fr S (λ_=>t137) (λx4 x5=>(@Fr.rec (λ_=>t137) (λ_ x7 x8 _=>(l465 x8 x1 x2 x5 x7)) x4)) x3)) x0)) := by intro t; cases t <;> (intros; rfl)
def l467 : t152 := (λx0=>(@Option.rec t148 (λ_=>t149) (λ_=>none) (λx1 x2=>(l466 x1 x2)) x0))
theorem l467_eq : ∀ x0 x1, (Eq (l467 x0 x1) (@methV._sparseCasesOn_2 t148 (λ_=>t137) x0 (λx2=>(l466 x2 x1)) (λ_=>none))) := by intro t; cases t <;> (intros; rfl)
def l468 : t146 := (λx0=>(@List.rec SD (λ_=>t145) (λx1 x2 x3 x4=>(some (x2, (x4, (x1, x3))))) (λ_ _ _ _ _ _ _=>none) x0))
theorem l468_eq : ∀ x0 x1 x2 x3 x4, (Eq (l468 x0 x1 x2 x3 x4) (@methV._sparseCasesOn_1 SD (λ_=>t137) x0 (some (x2, (x4, (x1, x3)))) (λ_=>none))) := by intro t; cases t <;> (intros; rfl)
def l469 : t150 := (λx0=>(@Prod.rec Ex t147 (λ_=>t149) (λx1 x2 x3=>(@Prod.rec Fr S (λ_=>t137) (λx4 x5=>(@Fr.rec (λ_=>t137) (λ_ x7 x8 _=>(l468 x8 x3 x1 x5 x7)) x4)) x2)) x0))
theorem l469_eq : ∀ x0 x1, (Eq (l469 x0 x1) (@Prod.rec Ex t147 (λ_=>t137) (λx2 x3=>(@Prod.rec Fr S (λ_=>t137) (λx4 x5=>(@Fr.rec (λ_=>t137) (λ_ x7 x8 _=>(l468 x8 x1 x2 x5 x7)) x4)) x3)) x0)) := by intro t; cases t <;> (intros; rfl)
def l470 : t152 := (λx0=>(@Option.rec t148 (λ_=>t149) (λ_=>none) (λx1 x2=>(l469 x1 x2)) x0))
theorem l470_eq : ∀ x0 x1, (Eq (l470 x0 x1) (@methV._sparseCasesOn_2 t148 (λ_=>t137) x0 (λx2=>(l469 x2 x1)) (λ_=>none))) := by intro t; cases t <;> (intros; rfl)
def l471 : t146 := (λx0=>(@List.rec SD (λ_=>t145) (λx1 x2 x3 x4=>(some (x2, (x4, (x1, x3))))) (λ_ _ _ _ _ _ _=>none) x0))
theorem l471_eq : ∀ x0 x1 x2 x3 x4, (Eq (l471 x0 x1 x2 x3 x4) (@methV._sparseCasesOn_1 SD (λ_=>t137) x0 (some (x2, (x4, (x1, x3)))) (λ_=>none))) := by intro t; cases t <;> (intros; rfl)
def l472 : t150 := (λx0=>(@Prod.rec Ex t147 (λ_=>t149) (λx1 x2 x3=>(@Prod.rec Fr S (λ_=>t137) (λx4 x5=>(@Fr.rec (λ_=>t137) (λ_ x7 x8 _=>(l471 x8 x3 x1 x5 x7)) x4)) x2)) x0))
theorem l472_eq : ∀ x0 x1, (Eq (l472 x0 x1) (@Prod.rec Ex t147 (λ_=>t137) (λx2 x3=>(@Prod.rec Fr S (λ_=>t137) (λx4 x5=>(@Fr.rec (λ_=>t137) (λ_ x7 x8 _=>(l471 x8 x1 x2 x5 x7)) x4)) x3)) x0)) := by intro t; cases t <;> (intros; rfl)
def l473 : t152 := (λx0=>(@Option.rec t148 (λ_=>t149) (λ_=>none) (λx1 x2=>(l472 x1 x2)) x0))
theorem l473_eq : ∀ x0 x1, (Eq (l473 x0 x1) (@methV._sparseCasesOn_2 t148 (λ_=>t137) x0 (λx2=>(l472 x2 x1)) (λ_=>none))) := by intro t; cases t <;> (intros; rfl)
def l474 : t146 := (λx0=>(@List.rec SD (λ_=>t145) (λx1 x2 x3 x4=>(some (x2, (x4, (x1, x3))))) (λ_ _ _ _ _ _ _=>none) x0))
theorem l474_eq : ∀ x0 x1 x2 x3 x4, (Eq (l474 x0 x1 x2 x3 x4) (@methV._sparseCasesOn_1 SD (λ_=>t137) x0 (some (x2, (x4, (x1, x3)))) (λ_=>none))) := by intro t; cases t <;> (intros; rfl)
def l475 : t150 := (λx0=>(@Prod.rec Ex t147 (λ_=>t149) (λx1 x2 x3=>(@Prod.rec Fr S (λ_=>t137) (λx4 x5=>(@Fr.rec (λ_=>t137) (λ_ x7 x8 _=>(l474 x8 x3 x1 x5 x7)) x4)) x2)) x0))
theorem l475_eq : ∀ x0 x1, (Eq (l475 x0 x1) (@Prod.rec Ex t147 (λ_=>t137) (λx2 x3=>(@Prod.rec Fr S (λ_=>t137) (λx4 x5=>(@Fr.rec (λ_=>t137) (λ_ x7 x8 _=>(l474 x8 x1 x2 x5 x7)) x4)) x3)) x0)) := by intro t; cases t <;> (intros; rfl)
def l476 : t152 := (λx0=>(@Option.rec t148 (λ_=>t149) (λ_=>none) (λx1 x2=>(l475 x1 x2)) x0))
theorem l476_eq : ∀ x0 x1, (Eq (l476 x0 x1) (@methV._sparseCasesOn_2 t148 (λ_=>t137) x0 (λx2=>(l475 x2 x1)) (λ_=>none))) := by intro t; cases t <;> (intros; rfl)
def l477 : t146 := (λx0=>(@List.rec SD (λ_=>t145) (λx1 x2 x3 x4=>(some (x2, (x4, (x1, x3))))) (λ_ _ _ _ _ _ _=>none) x0))
theorem l477_eq : ∀ x0 x1 x2 x3 x4, (Eq (l477 x0 x1 x2 x3 x4) (@methV._sparseCasesOn_1 SD (λ_=>t137) x0 (some (x2, (x4, (x1, x3)))) (λ_=>none))) := by intro t; cases t <;> (intros; rfl)
def l478 : t150 := (λx0=>(@Prod.rec Ex t147 (λ_=>t149) (λx1 x2 x3=>(@Prod.rec Fr S (λ_=>t137) (λx4 x5=>(@Fr.rec (λ_=>t137) (λ_ x7 x8 _=>(l477 x8 x3 x1 x5 x7)) x4)) x2)) x0))
theorem l478_eq : ∀ x0 x1, (Eq (l478 x0 x1) (@Prod.rec Ex t147 (λ_=>t137) (λx2 x3=>(@Prod.rec Fr S (λ_=>t137) (λx4 x5=>(@Fr.rec (λ_=>t137) (λ_ x7 x8 _=>(l477 x8 x1 x2 x5 x7)) x4)) x3)) x0)) := by intro t; cases t <;> (intros; rfl)
def l479 : t152 := (λx0=>(@Option.rec t148 (λ_=>t149) (λ_=>none) (λx1 x2=>(l478 x1 x2)) x0))
theorem l479_eq : ∀ x0 x1, (Eq (l479 x0 x1) (@methV._sparseCasesOn_2 t148 (λ_=>t137) x0 (λx2=>(l478 x2 x1)) (λ_=>none))) := by intro t; cases t <;> (intros; rfl)
def l480 : t146 := (λx0=>(@List.rec SD (λ_=>t145) (λx1 x2 x3 x4=>(some (x2, (x4, (x1, x3))))) (λ_ _ _ _ _ _ _=>none) x0))
theorem l480_eq : ∀ x0 x1 x2 x3 x4, (Eq (l480 x0 x1 x2 x3 x4) (@methV._sparseCasesOn_1 SD (λ_=>t137) x0 (some (x2, (x4, (x1, x3)))) (λ_=>none))) := by intro t; cases t <;> (intros; rfl)
def l481 : t150 := (λx0=>(@Prod.rec Ex t147 (λ_=>t149) (λx1 x2 x3=>(@Prod.rec Fr S (λ_=>t137) (λx4 x5=>(@Fr.rec (λ_=>t137) (λ_ x7 x8 _=>(l480 x8 x3 x1 x5 x7)) x4)) x2)) x0))
theorem l481_eq : ∀ x0 x1, (Eq (l481 x0 x1) (@Prod.rec Ex t147 (λ_=>t137) (λx2 x3=>(@Prod.rec Fr S (λ_=>t137) (λx4 x5=>(@Fr.rec (λ_=>t137) (λ_ x7 x8 _=>(l480 x8 x1 x2 x5 x7)) x4)) x3)) x0)) := by intro t; cases t <;> (intros; rfl)
def l482 : t152 := (λx0=>(@Option.rec t148 (λ_=>t149) (λ_=>none) (λx1 x2=>(l481 x1 x2)) x0))
theorem l482_eq : ∀ x0 x1, (Eq (l482 x0 x1) (@methV._sparseCasesOn_2 t148 (λ_=>t137) x0 (λx2=>(l481 x2 x1)) (λ_=>none))) := by intro t; cases t <;> (intros; rfl)
abbrev t1181:=Code → t1158
abbrev t1182:=Nat → t1181
abbrev t1183:=Run → t1182
abbrev t1184:=Program → t1183
def k_codeD : t1184 := (λx0 x1 x2 x3 x4 x5 x6=>(@Code.rec (λ_=>t1161) (λ_ x8 x9 x10 x11 x12=>(l35 (Run.code x8 Code.skip (Fr.mk x9 x10 [] none) x12) x11)) (λx7 x8 x9 x10 x11 x12 x13 x14 x15=>(l447 x9 x10 x11 x12 x13 x14 x15 x7 x8 x9)) (λ_ _ x9 x10 x11 x12 x13 x14 x15 x16=>(l452 (x9 x11 x12 x13 x14 x15 x16) x11 x12 x13 x14 x15 x16 x9 x10)) (λx7 _ _ x10 x11 x12 x13 x14 x15 x16 x17=>(l455 (k_ev x15 x7) x12 x13 x14 x15 x16 x17 x10 x11)) (λx7 x8 _ _ x11 x12 x13 x14 x15=>(l458 (Run.code x11 (Code.block x7 x8) (Fr.mk x12 x13 [] none) x15) x14)) (λx7 _ _ x10 x11 x12 x13 x14=>(l461 (Run.code x10 (Code.loop x7) (Fr.mk x11 x12 [] none) x14) x13)) (λx7 x8 x9 x10 _ _ _ x14 x15 x16 x17 x18=>(l464 (Run.code x14 (Code.rangeFunc x7 x8 x9 x10) (Fr.mk x15 x16 [] none) x18) x17)) (λx7 _ x9 x10 x11 x12 x13=>(l467 (Run.code x9 (Code.exit x7) (Fr.mk x10 x11 [] none) x13) x12)) (λx7 _ _ x10 x11 x12 x13 x14=>(l470 (Run.code x10 (Code.scope x7) (Fr.mk x11 x12 [] none) x14) x13)) (λx7 _ x9 x10 x11 x12 x13=>(l473 (Run.code x9 (Code.label x7) (Fr.mk x10 x11 [] none) x13) x12)) (λx7 _ x9 x10 x11 x12 x13=>(l476 (Run.code x9 (Code.goto x7) (Fr.mk x10 x11 [] none) x13) x12)) (λ_ x8 x9 x10 x11 x12=>(l479 (Run.code x8 Code.ret (Fr.mk x9 x10 [] none) x12) x11)) (λx7 _ x9 x10 x11 x12 x13=>(l482 (Run.code x9 (Code.refuse x7) (Fr.mk x10 x11 [] none) x13) x12)) x3 x0 x1 x2 x4 x5 x6))
theorem k_codeD_law : ∀ x0 x1 x2 x3 x4 x5 x6, (Eq (k_codeD x1 x2 x3 x0 x4 x5 x6) (codeD x1 x2 x3 x0 x4 x5 x6)) := by
  intro t
  induction t with
  | skip  =>
    intro z0 z1 z2 z3 z4 z5
    show ((fun (_ : Program) (x1 : Run) (x2 : Nat) (x3 : t14) (x4 : Dm) (x5 : S) => (l35 (Run.code x1 Code.skip (Fr.mk x2 x3 [] none) x5) x4)) z0 z1 z2 z3 z4 z5) = _
    conv => rhs; rw [Ev.codeD.eq_def]
    try simp only [l33_eq, l34_eq, l35_eq]
    all_goals kernel_rfl
  | region y0 y1 y2 =>
    intro z0 z1 z2 z3 z4 z5
    show ((fun (x0 : Nat) (x1 : (Array Oper)) (x2 : Bool) (x3 : Program) (x4 : Run) (x5 : Nat) (x6 : t14) (x7 : Dm) (x8 : S) => (l447 x2 x3 x4 x5 x6 x7 x8 x0 x1 x2)) y0 y1 y2 z0 z1 z2 z3 z4 z5) = _
    conv => rhs; rw [Ev.codeD.eq_def]
    try simp only [l41_eq, l39_eq, l447_eq, l38_eq, l40_eq, l36_eq, l43_eq, l37_eq, l42_eq]
    try rw [k_regR_eq]
    try rw [k_hasRec_eq]
    all_goals kernel_rfl
  | seq y0 y1 ih0 ih1 =>
    intro z0 z1 z2 z3 z4 z5
    have e0 : (fun (x0 : Program) (x1 : Run) (x2 : Nat) (x3 : t14) (x4 : Dm) (x5 : S) => (k_codeD x0 x1 x2 y0 x3 x4 x5)) = (fun (x0 : Program) (x1 : Run) (x2 : Nat) (x3 : t14) (x4 : Dm) (x5 : S) => (codeD x0 x1 x2 y0 x3 x4 x5)) := by
      funext z0 z1 z2 z3 z4 z5; exact ih0 z0 z1 z2 z3 z4 z5
    have e1 : (fun (x0 : Program) (x1 : Run) (x2 : Nat) (x3 : t14) (x4 : Dm) (x5 : S) => (k_codeD x0 x1 x2 y1 x3 x4 x5)) = (fun (x0 : Program) (x1 : Run) (x2 : Nat) (x3 : t14) (x4 : Dm) (x5 : S) => (codeD x0 x1 x2 y1 x3 x4 x5)) := by
      funext z0 z1 z2 z3 z4 z5; exact ih1 z0 z1 z2 z3 z4 z5
    show ((fun (_ : Code) (_ : Code) (x2 : t1161) (x3 : t1161) (x4 : Program) (x5 : Run) (x6 : Nat) (x7 : t14) (x8 : Dm) (x9 : S) => (l452 (x2 x4 x5 x6 x7 x8 x9) x4 x5 x6 x7 x8 x9 x2 x3)) y0 y1 (fun (x0 : Program) (x1 : Run) (x2 : Nat) (x3 : t14) (x4 : Dm) (x5 : S) => (k_codeD x0 x1 x2 y0 x3 x4 x5)) (fun (x0 : Program) (x1 : Run) (x2 : Nat) (x3 : t14) (x4 : Dm) (x5 : S) => (k_codeD x0 x1 x2 y1 x3 x4 x5)) z0 z1 z2 z3 z4 z5) = _
    rw [e0, e1]
    conv => rhs; rw [Ev.codeD.eq_def]
    try simp only [l451_eq, l452_eq]
    all_goals kernel_rfl
  | cond y0 y1 y2 ih0 ih1 =>
    intro z0 z1 z2 z3 z4 z5
    have e0 : (fun (x0 : Program) (x1 : Run) (x2 : Nat) (x3 : t14) (x4 : Dm) (x5 : S) => (k_codeD x0 x1 x2 y1 x3 x4 x5)) = (fun (x0 : Program) (x1 : Run) (x2 : Nat) (x3 : t14) (x4 : Dm) (x5 : S) => (codeD x0 x1 x2 y1 x3 x4 x5)) := by
      funext z0 z1 z2 z3 z4 z5; exact ih0 z0 z1 z2 z3 z4 z5
    have e1 : (fun (x0 : Program) (x1 : Run) (x2 : Nat) (x3 : t14) (x4 : Dm) (x5 : S) => (k_codeD x0 x1 x2 y2 x3 x4 x5)) = (fun (x0 : Program) (x1 : Run) (x2 : Nat) (x3 : t14) (x4 : Dm) (x5 : S) => (codeD x0 x1 x2 y2 x3 x4 x5)) := by
      funext z0 z1 z2 z3 z4 z5; exact ih1 z0 z1 z2 z3 z4 z5
    show ((fun (x0 : Operand) (_ : Code) (_ : Code) (x3 : t1161) (x4 : t1161) (x5 : Program) (x6 : Run) (x7 : Nat) (x8 : t14) (x9 : Dm) (x10 : S) => (l455 (k_ev x8 x0) x5 x6 x7 x8 x9 x10 x3 x4)) y0 y1 y2 (fun (x0 : Program) (x1 : Run) (x2 : Nat) (x3 : t14) (x4 : Dm) (x5 : S) => (k_codeD x0 x1 x2 y1 x3 x4 x5)) (fun (x0 : Program) (x1 : Run) (x2 : Nat) (x3 : t14) (x4 : Dm) (x5 : S) => (k_codeD x0 x1 x2 y2 x3 x4 x5)) z0 z1 z2 z3 z4 z5) = _
    rw [e0, e1]
    conv => rhs; rw [Ev.codeD.eq_def]
    try simp only [l454_eq, l453_eq, l455_eq]
    try rw [k_ev_eq]
    all_goals kernel_rfl
  | block y0 y1 ih0 =>
    intro z0 z1 z2 z3 z4 z5
    have e0 : (fun (x0 : Program) (x1 : Run) (x2 : Nat) (x3 : t14) (x4 : Dm) (x5 : S) => (k_codeD x0 x1 x2 y1 x3 x4 x5)) = (fun (x0 : Program) (x1 : Run) (x2 : Nat) (x3 : t14) (x4 : Dm) (x5 : S) => (codeD x0 x1 x2 y1 x3 x4 x5)) := by
      funext z0 z1 z2 z3 z4 z5; exact ih0 z0 z1 z2 z3 z4 z5
    show ((fun (x0 : Nat) (x1 : Code) (_ : t1161) (_ : Program) (x4 : Run) (x5 : Nat) (x6 : t14) (x7 : Dm) (x8 : S) => (l458 (Run.code x4 (Code.block x0 x1) (Fr.mk x5 x6 [] none) x8) x7)) y0 y1 (fun (x0 : Program) (x1 : Run) (x2 : Nat) (x3 : t14) (x4 : Dm) (x5 : S) => (k_codeD x0 x1 x2 y1 x3 x4 x5)) z0 z1 z2 z3 z4 z5) = _
    rw [e0]
    conv => rhs; rw [Ev.codeD.eq_def]
    try simp only [l458_eq, l457_eq, l456_eq]
    all_goals kernel_rfl
  | loop y0 ih0 =>
    intro z0 z1 z2 z3 z4 z5
    have e0 : (fun (x0 : Program) (x1 : Run) (x2 : Nat) (x3 : t14) (x4 : Dm) (x5 : S) => (k_codeD x0 x1 x2 y0 x3 x4 x5)) = (fun (x0 : Program) (x1 : Run) (x2 : Nat) (x3 : t14) (x4 : Dm) (x5 : S) => (codeD x0 x1 x2 y0 x3 x4 x5)) := by
      funext z0 z1 z2 z3 z4 z5; exact ih0 z0 z1 z2 z3 z4 z5
    show ((fun (x0 : Code) (_ : t1161) (_ : Program) (x3 : Run) (x4 : Nat) (x5 : t14) (x6 : Dm) (x7 : S) => (l461 (Run.code x3 (Code.loop x0) (Fr.mk x4 x5 [] none) x7) x6)) y0 (fun (x0 : Program) (x1 : Run) (x2 : Nat) (x3 : t14) (x4 : Dm) (x5 : S) => (k_codeD x0 x1 x2 y0 x3 x4 x5)) z0 z1 z2 z3 z4 z5) = _
    rw [e0]
    conv => rhs; rw [Ev.codeD.eq_def]
    try simp only [l460_eq, l461_eq, l459_eq]
    all_goals kernel_rfl
  | rangeFunc y0 y1 y2 y3 ih0 ih1 =>
    intro z0 z1 z2 z3 z4 z5
    have e0 : (fun (x0 : Program) (x1 : Run) (x2 : Nat) (x3 : t14) (x4 : Dm) (x5 : S) => (k_codeD x0 x1 x2 y2 x3 x4 x5)) = (fun (x0 : Program) (x1 : Run) (x2 : Nat) (x3 : t14) (x4 : Dm) (x5 : S) => (codeD x0 x1 x2 y2 x3 x4 x5)) := by
      funext z0 z1 z2 z3 z4 z5; exact ih0 z0 z1 z2 z3 z4 z5
    have e1 : (fun (x0 : Program) (x1 : Run) (x2 : Nat) (x3 : t14) (x4 : Dm) (x5 : S) => (k_codeD x0 x1 x2 y3 x3 x4 x5)) = (fun (x0 : Program) (x1 : Run) (x2 : Nat) (x3 : t14) (x4 : Dm) (x5 : S) => (codeD x0 x1 x2 y3 x3 x4 x5)) := by
      funext z0 z1 z2 z3 z4 z5; exact ih1 z0 z1 z2 z3 z4 z5
    show ((fun (x0 : Operand) (x1 : (Array Tmp)) (x2 : Code) (x3 : Code) (_ : t1161) (_ : t1161) (_ : Program) (x7 : Run) (x8 : Nat) (x9 : t14) (x10 : Dm) (x11 : S) => (l464 (Run.code x7 (Code.rangeFunc x0 x1 x2 x3) (Fr.mk x8 x9 [] none) x11) x10)) y0 y1 y2 y3 (fun (x0 : Program) (x1 : Run) (x2 : Nat) (x3 : t14) (x4 : Dm) (x5 : S) => (k_codeD x0 x1 x2 y2 x3 x4 x5)) (fun (x0 : Program) (x1 : Run) (x2 : Nat) (x3 : t14) (x4 : Dm) (x5 : S) => (k_codeD x0 x1 x2 y3 x3 x4 x5)) z0 z1 z2 z3 z4 z5) = _
    rw [e0, e1]
    conv => rhs; rw [Ev.codeD.eq_def]
    try simp only [l463_eq, l464_eq, l462_eq]
    all_goals kernel_rfl
  | exit y0 =>
    intro z0 z1 z2 z3 z4 z5
    show ((fun (x0 : Nat) (_ : Program) (x2 : Run) (x3 : Nat) (x4 : t14) (x5 : Dm) (x6 : S) => (l467 (Run.code x2 (Code.exit x0) (Fr.mk x3 x4 [] none) x6) x5)) y0 z0 z1 z2 z3 z4 z5) = _
    conv => rhs; rw [Ev.codeD.eq_def]
    try simp only [l467_eq, l466_eq, l465_eq]
    all_goals kernel_rfl
  | scope y0 ih0 =>
    intro z0 z1 z2 z3 z4 z5
    have e0 : (fun (x0 : Program) (x1 : Run) (x2 : Nat) (x3 : t14) (x4 : Dm) (x5 : S) => (k_codeD x0 x1 x2 y0 x3 x4 x5)) = (fun (x0 : Program) (x1 : Run) (x2 : Nat) (x3 : t14) (x4 : Dm) (x5 : S) => (codeD x0 x1 x2 y0 x3 x4 x5)) := by
      funext z0 z1 z2 z3 z4 z5; exact ih0 z0 z1 z2 z3 z4 z5
    show ((fun (x0 : Code) (_ : t1161) (_ : Program) (x3 : Run) (x4 : Nat) (x5 : t14) (x6 : Dm) (x7 : S) => (l470 (Run.code x3 (Code.scope x0) (Fr.mk x4 x5 [] none) x7) x6)) y0 (fun (x0 : Program) (x1 : Run) (x2 : Nat) (x3 : t14) (x4 : Dm) (x5 : S) => (k_codeD x0 x1 x2 y0 x3 x4 x5)) z0 z1 z2 z3 z4 z5) = _
    rw [e0]
    conv => rhs; rw [Ev.codeD.eq_def]
    try simp only [l468_eq, l469_eq, l470_eq]
    all_goals kernel_rfl
  | label y0 =>
    intro z0 z1 z2 z3 z4 z5
    show ((fun (x0 : Nat) (_ : Program) (x2 : Run) (x3 : Nat) (x4 : t14) (x5 : Dm) (x6 : S) => (l473 (Run.code x2 (Code.label x0) (Fr.mk x3 x4 [] none) x6) x5)) y0 z0 z1 z2 z3 z4 z5) = _
    conv => rhs; rw [Ev.codeD.eq_def]
    try simp only [l471_eq, l473_eq, l472_eq]
    all_goals kernel_rfl
  | goto y0 =>
    intro z0 z1 z2 z3 z4 z5
    show ((fun (x0 : Nat) (_ : Program) (x2 : Run) (x3 : Nat) (x4 : t14) (x5 : Dm) (x6 : S) => (l476 (Run.code x2 (Code.goto x0) (Fr.mk x3 x4 [] none) x6) x5)) y0 z0 z1 z2 z3 z4 z5) = _
    conv => rhs; rw [Ev.codeD.eq_def]
    try simp only [l475_eq, l474_eq, l476_eq]
    all_goals kernel_rfl
  | ret  =>
    intro z0 z1 z2 z3 z4 z5
    show ((fun (_ : Program) (x1 : Run) (x2 : Nat) (x3 : t14) (x4 : Dm) (x5 : S) => (l479 (Run.code x1 Code.ret (Fr.mk x2 x3 [] none) x5) x4)) z0 z1 z2 z3 z4 z5) = _
    conv => rhs; rw [Ev.codeD.eq_def]
    try simp only [l479_eq, l477_eq, l478_eq]
    all_goals kernel_rfl
  | refuse y0 =>
    intro z0 z1 z2 z3 z4 z5
    show ((fun (x0 : String) (_ : Program) (x2 : Run) (x3 : Nat) (x4 : t14) (x5 : Dm) (x6 : S) => (l482 (Run.code x2 (Code.refuse x0) (Fr.mk x3 x4 [] none) x6) x5)) y0 z0 z1 z2 z3 z4 z5) = _
    conv => rhs; rw [Ev.codeD.eq_def]
    try simp only [l482_eq, l480_eq, l481_eq]
    all_goals kernel_rfl
theorem k_codeD_eq : @k_codeD = codeD := by
  funext a0 a1 a2 a3 a4 a5 a6; exact k_codeD_law a3 a0 a1 a2 a4 a5 a6
abbrev t1185:=Code → t122
abbrev t1186:=Func → t1185
abbrev t1187:=S → t1186
abbrev t1188:=t81 → t1187
abbrev t1189:=t7 → t1188
abbrev t1190:=FuncId → t1189
abbrev t1191:=Run → t1190
abbrev t1192:=Program → t1191
abbrev t1193:=t165 → t1192
def l32 : t1193 := (λx0=>(@Option.rec t14 (λ_=>t1192) (λ_ _ _ _ _ _ _ _=>none) (λx1 x2 x3 x4 x5 x6 x7 x8 x9=>(@Bool.rec (λ_=>t122) none (l31 (k_codeD x2 x3 (Func.ntmps x8) x9 x1 (Dm.mk x6 Bool.false) x7) x2 x8) (@Bool.rec (λ_=>Bool) Bool.false (Nat.ble (k_len x5) (Func.ntmps x8)) (fnOk x2 x4)))) x0))
theorem l32_eq : ∀ x0 x1 x2 x3 x4 x5 x6 x7 x8, (Eq (l32 x0 x1 x2 x3 x4 x5 x6 x7 x8) (@methV._sparseCasesOn_2 t14 (λ_=>t122) x0 (λx9=>(@Bool.rec (λ_=>t122) none (l31 (k_codeD x1 x2 (Func.ntmps x7) x8 x9 (Dm.mk x5 Bool.false) x6) x1 x7) (@Bool.rec (λ_=>Bool) Bool.false (Nat.ble (k_len x4) (Func.ntmps x7)) (fnOk x1 x3)))) (λ_=>none))) := by intro t; cases t <;> (intros; rfl)
abbrev t1194:=Nat → t166
abbrev t1195:=t7 → t166
abbrev t1196:=Nat → t1195
def k_setArgs : t1196 := (λx0 x1 x2=>(@List.rec CV (λ_=>t1194) (λ_ x4=>(some x4)) (λx3 _ x5 x6 x7=>(@Option.rec t14 (λ_=>t165) none (λx8=>(x5 (Nat.add x6 (nat_lit 1)) x8)) (setCV (nat_lit 24) x7 x6 (some x3)))) x1 x0 x2))
theorem k_setArgs_law : ∀ x0 x1 x2, (Eq (k_setArgs x1 x0 x2) (setArgs x1 x0 x2)) := by
  intro t
  induction t with
  | nil  =>
    intro z0 z1
    show ((fun (_ : Nat) (x1 : t14) => (some x1)) z0 z1) = _
    conv => rhs; rw [Ev.setArgs.eq_def]
    all_goals kernel_rfl
  | cons y0 y1 ih0 =>
    intro z0 z1
    have e0 : (fun (x0 : Nat) (x1 : t14) => (k_setArgs x0 y1 x1)) = (fun (x0 : Nat) (x1 : t14) => (setArgs x0 y1 x1)) := by
      funext z0 z1; exact ih0 z0 z1
    show ((fun (x0 : CV) (_ : t7) (x2 : t1194) (x3 : Nat) (x4 : t14) => (@Option.rec t14 (fun (_ : t165) => t165) none (fun (x5 : t14) => (x2 (Nat.add x3 (nat_lit 1)) x5)) (setCV (nat_lit 24) x4 x3 (some x0)))) y0 y1 (fun (x0 : Nat) (x1 : t14) => (k_setArgs x0 y1 x1)) z0 z1) = _
    rw [e0]
    conv => rhs; rw [Ev.setArgs.eq_def]
    try rw [setCV_eq]
    all_goals kernel_rfl
theorem k_setArgs_eq : @k_setArgs = setArgs := by
  funext a0 a1 a2; exact k_setArgs_law a1 a0 a2
abbrev t1197:=Option Code
abbrev t1198:=S → t138
abbrev t1199:=t81 → t1198
abbrev t1200:=t7 → t1199
abbrev t1201:=FuncId → t1200
abbrev t1202:=Run → t1201
abbrev t1203:=Program → t1202
abbrev t1204:=t1197 → t1203
def l483 : t1204 := (λx0=>(@Option.rec Code (λ_=>t1203) (λ_ _ _ _ _ _ _=>none) (λx1 x2 x3 x4 x5 x6 x7 x8=>(l32 (k_setArgs (nat_lit 0) x5 (@Tr.nil CV)) x2 x3 x4 x5 x6 x7 x8 x1)) x0))
theorem l483_eq : ∀ x0 x1 x2 x3 x4 x5 x6 x7, (Eq (l483 x0 x1 x2 x3 x4 x5 x6 x7) (@methV._sparseCasesOn_2 Code (λ_=>t122) x0 (λx8=>(l32 (k_setArgs (nat_lit 0) x4 (@Tr.nil CV)) x1 x2 x3 x4 x5 x6 x7 x8)) (λ_=>none))) := by intro t; cases t <;> (intros; rfl)
abbrev t1205:=S → t122
abbrev t1206:=t81 → t1205
abbrev t1207:=t7 → t1206
abbrev t1208:=FuncId → t1207
abbrev t1209:=Run → t1208
abbrev t1210:=Program → t1209
def k_callD : t1210 := (λx0 x1 x2 x3 x4 x5=>(@Option.rec Func (λ_=>t122) none (λx6=>((λx7=>(l483 (Func.body x7) x0 x1 x2 x3 x4 x5 x7)) x6)) (@GetElem?.getElem? (Array Func) FuncId Func (λx6 x7=>(@LT.lt Nat instLTNat x7 (@Array.size Func x6))) (@Array.instGetElem?NatLtSize Func) (Program.funcs x0) x2)))
theorem k_callD_eq : @k_callD = callD := by
  delta k_callD callD
  simp only [l26_eq, l27_eq, l28_eq, l483_eq, l30_eq, l31_eq, l29_eq, l32_eq, l25_eq, l24_eq]
  rw [k_resV_eq, k_tupV_eq, k_len_eq, k_codeD_eq, k_setArgs_eq]
  all_goals kernel_rfl

abbrev t1211:=t105 → t689
abbrev t1212:=S → t1211
abbrev t1213:=t81 → t1212
abbrev t1214:=t14 → t1213
abbrev t1215:=Func → t1214
abbrev t1216:=Run → t1215
abbrev t1217:=Program → t1216
abbrev t1218:=t31 → t1217
def l23 : t1218 := (λx0=>(@Option.rec t7 (λ_=>t1217) (λ_ _ _ _ _ _ _ _=>none) (λx1 x2 x3 x4 x5 x6 x7 x8 x9=>(@Option.rec t114 (λ_=>t4) none (λx10=>(l22 x10 x2 x3 x4 x5 x6 x8)) (k_callD x2 x3 x9 x1 x6 x7))) x0))
theorem l23_eq : ∀ x0 x1 x2 x3 x4 x5 x6 x7 x8, (Eq (l23 x0 x1 x2 x3 x4 x5 x6 x7 x8) (@Option.rec t7 (λ_=>t4) none (λx9=>(@Option.rec t114 (λ_=>t4) none (λx10=>(l22 x10 x1 x2 x3 x4 x5 x7)) (k_callD x1 x2 x8 x9 x5 x6))) x0)) := by intro t; cases t <;> (intros; rfl)
abbrev t1219:=S → t115
abbrev t1220:=t81 → t1219
abbrev t1221:=t14 → t1220
abbrev t1222:=Func → t1221
abbrev t1223:=Run → t1222
abbrev t1224:=Program → t1223
abbrev t1225:=SD → t1224
def l484 : t1225 := (λx0=>(@SD.rec (λ_=>t1224) (λx1 x2 x3 x4 x5 x6 x7 x8=>(k_rd_Ret x7 x1 (λx9 x10=>(l19 x9 x2 x3 x4 x5 x6 x8 x1 x10)))) (λx1 x2 x3 x4 x5 x6 x7 x8 x9 x10=>(l23 (k_cat_CV x2 x3) x4 x5 x6 x7 x8 x9 x10 x1)) x0))
theorem l484_eq : ∀ x0 x1 x2 x3 x4 x5 x6 x7, (Eq (l484 x0 x1 x2 x3 x4 x5 x6 x7) (@SD.rec (λ_=>t4) (λx8=>(k_rd_Ret x6 x8 (λx9 x10=>(l19 x9 x1 x2 x3 x4 x5 x7 x8 x10)))) (λx8 x9 x10=>(l23 (k_cat_CV x9 x10) x1 x2 x3 x4 x5 x6 x7 x8)) x0)) := by intro t; cases t <;> (intros; rfl)
abbrev t1226:=t141 → t101
abbrev t1227:=t14 → t1226
abbrev t1228:=Func → t1227
abbrev t1229:=Run → t1228
abbrev t1230:=Program → t1229
def k_leave : t1230 := (λx0 x1 x2 x3 x4 x5 x6=>(@List.rec SD (λ_=>t105) (λx7 _ x9 x10 x11 x12=>(@Option.rec CV (λ_=>t4) (k_resV x7 x10 (@Array.toList ResultVar (Func.results x9)) x12 (λx13 x14=>(some (Ret.ok (k_tupV x13) x14)))) (λx13=>(some (Ret.pan x13 x12))) x11)) (λx7 _ x9 x10 x11 x12 x13 x14 x15=>(l484 x7 x10 x11 x12 x13 x14 x15 x9)) x4 x0 x1 x2 x3 x5 x6))
theorem k_leave_law : ∀ x0 x1 x2 x3 x4 x5 x6, (Eq (k_leave x1 x2 x3 x4 x0 x5 x6) (leave x1 x2 x3 x4 x0 x5 x6)) := by
  intro t
  induction t with
  | nil  =>
    intro z0 z1 z2 z3 z4 z5
    show ((fun (x0 : Program) (_ : Run) (x2 : Func) (x3 : t14) (x4 : t81) (x5 : S) => (@Option.rec CV (fun (_ : t81) => t4) (k_resV x0 x3 (@Array.toList ResultVar (Func.results x2)) x5 (fun (x6 : t7) (x7 : S) => (some (Ret.ok (k_tupV x6) x7)))) (fun (x6 : CV) => (some (Ret.pan x6 x5))) x4)) z0 z1 z2 z3 z4 z5) = _
    conv => rhs; rw [Ev.leave.eq_def]
    try rw [k_resV_eq]
    try rw [k_tupV_eq]
    all_goals kernel_rfl
  | cons y0 y1 ih0 =>
    intro z0 z1 z2 z3 z4 z5
    have e0 : (fun (x0 : Program) (x1 : Run) (x2 : Func) (x3 : t14) (x4 : t81) (x5 : S) => (k_leave x0 x1 x2 x3 y1 x4 x5)) = (fun (x0 : Program) (x1 : Run) (x2 : Func) (x3 : t14) (x4 : t81) (x5 : S) => (leave x0 x1 x2 x3 y1 x4 x5)) := by
      funext z0 z1 z2 z3 z4 z5; exact ih0 z0 z1 z2 z3 z4 z5
    show ((fun (x0 : SD) (_ : t141) (x2 : t105) (x3 : Program) (x4 : Run) (x5 : Func) (x6 : t14) (x7 : t81) (x8 : S) => (l484 x0 x3 x4 x5 x6 x7 x8 x2)) y0 y1 (fun (x0 : Program) (x1 : Run) (x2 : Func) (x3 : t14) (x4 : t81) (x5 : S) => (k_leave x0 x1 x2 x3 y1 x4 x5)) z0 z1 z2 z3 z4 z5) = _
    rw [e0]
    conv => rhs; rw [Ev.leave.eq_def]
    try simp only [l23_eq, l484_eq, l19_eq, l22_eq]
    try rw [k_wr_Ret_eq]
    try rw [k_callD_eq]
    try rw [k_cat_CV_eq]
    try rw [k_rd_Ret_eq]
    all_goals kernel_rfl
theorem k_leave_eq : @k_leave = leave := by
  funext a0 a1 a2 a3 a4 a5 a6; exact k_leave_law a4 a0 a1 a2 a3 a5 a6
abbrev t1231:=Func → t8
abbrev t1232:=Run → t1231
abbrev t1233:=Program → t1232
abbrev t1234:=Fr → t1233
def l6 : t1234 := (λx0=>(@Fr.rec (λ_=>t1233) (λx1 x2 x3 x4 x5 x6 x7 x8=>((λ_ x10 x11 _ x13=>(k_leave x5 x6 x7 x10 x11 none x13)) x1 x2 x3 x4 x8)) x0))
theorem l6_eq : ∀ x0 x1 x2 x3 x4, (Eq (l6 x0 x1 x2 x3 x4) (@Fr.rec (λ_=>t4) (λx5 x6 x7 x8=>((λ_ x10 x11 _ x13=>(k_leave x1 x2 x3 x10 x11 none x13)) x5 x6 x7 x8 x4)) x0)) := by intro t; cases t <;> (intros; rfl)
def l485 : t1234 := (λx0=>(@Fr.rec (λ_=>t1233) (λx1 x2 x3 x4 x5 x6 x7 x8=>((λ_ x10 x11 _ x13=>(k_leave x5 x6 x7 x10 x11 none x13)) x1 x2 x3 x4 x8)) x0))
theorem l485_eq : ∀ x0 x1 x2 x3 x4, (Eq (l485 x0 x1 x2 x3 x4) (@Fr.rec (λ_=>t4) (λx5 x6 x7 x8=>((λ_ x10 x11 _ x13=>(k_leave x1 x2 x3 x10 x11 none x13)) x5 x6 x7 x8 x4)) x0)) := by intro t; cases t <;> (intros; rfl)
abbrev t1235:=Func → t186
abbrev t1236:=Run → t1235
abbrev t1237:=Program → t1236
abbrev t1238:=Fr → t1237
def l486 : t1238 := (λx0=>(@Fr.rec (λ_=>t1237) (λx1 x2 x3 x4 x5 x6 x7 x8 x9=>((λx10 _ x12 x13 _ x15=>(k_leave x5 x6 x7 x12 x13 (some x10) x15)) x8 x1 x2 x3 x4 x9)) x0))
theorem l486_eq : ∀ x0 x1 x2 x3 x4 x5, (Eq (l486 x0 x1 x2 x3 x4 x5) (@Fr.rec (λ_=>t4) (λx6 x7 x8 x9=>((λx10 _ x12 x13 _ x15=>(k_leave x1 x2 x3 x12 x13 (some x10) x15)) x4 x6 x7 x8 x9 x5)) x0)) := by intro t; cases t <;> (intros; rfl)
abbrev t1239:=t147 → t4
abbrev t1240:=Func → t1239
abbrev t1241:=Run → t1240
abbrev t1242:=Program → t1241
abbrev t1243:=Ex → t1242
def l487 : t1243 := (λx0=>(@Ex.rec (λ_=>t1242) (λx1 x2 x3 x4=>(@Prod.rec Fr S (λ_=>t4) (λx5 x6=>(l6 x5 x1 x2 x3 x6)) x4)) (λ_ _ _ _ _=>none) (λx1 x2 x3 x4=>(@Prod.rec Fr S (λ_=>t4) (λx5 x6=>(l485 x5 x1 x2 x3 x6)) x4)) (λx1 x2 x3 x4 x5=>(@Prod.rec Fr S (λ_=>t4) (λx6 x7=>(l486 x6 x2 x3 x4 x1 x7)) x5)) x0))
theorem l487_eq : ∀ x0 x1 x2 x3 x4, (Eq (l487 x0 x1 x2 x3 x4) (@callN._sparseCasesOn_1 (λ_=>t4) x0 (@Prod.rec Fr S (λ_=>t4) (λx5 x6=>(l6 x5 x1 x2 x3 x6)) x4) (@Prod.rec Fr S (λ_=>t4) (λx5 x6=>(l485 x5 x1 x2 x3 x6)) x4) (λx5=>(@Prod.rec Fr S (λ_=>t4) (λx6 x7=>(l486 x6 x1 x2 x3 x5 x7)) x4)) (λ_=>none))) := by intro t; cases t <;> (intros; rfl)
abbrev t1244:=Func → t4
abbrev t1245:=Run → t1244
abbrev t1246:=Program → t1245
abbrev t1247:=t151 → t1246
def l488 : t1247 := (λx0=>(@Option.rec t148 (λ_=>t1246) (λ_ _ _=>none) (λx1 x2 x3 x4=>(@Prod.rec Ex t147 (λ_=>t4) (λx5 x6=>(l487 x5 x2 x3 x4 x6)) x1)) x0))
theorem l488_eq : ∀ x0 x1 x2 x3, (Eq (l488 x0 x1 x2 x3) (@methV._sparseCasesOn_2 t148 (λ_=>t4) x0 (λx4=>(@Prod.rec Ex t147 (λ_=>t4) (λx5 x6=>(l487 x5 x1 x2 x3 x6)) x4)) (λ_=>none))) := by intro t; cases t <;> (intros; rfl)
abbrev t1248:=Code → t4
abbrev t1249:=Func → t1248
abbrev t1250:=S → t1249
abbrev t1251:=t7 → t1250
abbrev t1252:=FuncId → t1251
abbrev t1253:=Run → t1252
abbrev t1254:=Program → t1253
abbrev t1255:=t165 → t1254
def l489 : t1255 := (λx0=>(@Option.rec t14 (λ_=>t1254) (λ_ _ _ _ _ _ _=>none) (λx1 x2 x3 x4 x5 x6 x7 x8=>(@Bool.rec (λ_=>t4) none (l488 (Run.code x3 x8 (Fr.mk (Func.ntmps x7) x1 [] none) x6) x2 x3 x7) (@Bool.rec (λ_=>Bool) Bool.false (Nat.ble (k_len x5) (Func.ntmps x7)) (fnOk x2 x4)))) x0))
theorem l489_eq : ∀ x0 x1 x2 x3 x4 x5 x6 x7, (Eq (l489 x0 x1 x2 x3 x4 x5 x6 x7) (@methV._sparseCasesOn_2 t14 (λ_=>t4) x0 (λx8=>(@Bool.rec (λ_=>t4) none (l488 (Run.code x2 x7 (Fr.mk (Func.ntmps x6) x8 [] none) x5) x1 x2 x6) (@Bool.rec (λ_=>Bool) Bool.false (Nat.ble (k_len x4) (Func.ntmps x6)) (fnOk x1 x3)))) (λ_=>none))) := by intro t; cases t <;> (intros; rfl)
abbrev t1256:=S → t1244
abbrev t1257:=t7 → t1256
abbrev t1258:=FuncId → t1257
abbrev t1259:=Run → t1258
abbrev t1260:=Program → t1259
abbrev t1261:=t1197 → t1260
def l490 : t1261 := (λx0=>(@Option.rec Code (λ_=>t1260) (λ_ _ _ _ _ _=>none) (λx1 x2 x3 x4 x5 x6 x7=>(l489 (k_setArgs (nat_lit 0) x5 (@Tr.nil CV)) x2 x3 x4 x5 x6 x7 x1)) x0))
theorem l490_eq : ∀ x0 x1 x2 x3 x4 x5 x6, (Eq (l490 x0 x1 x2 x3 x4 x5 x6) (@methV._sparseCasesOn_2 Code (λ_=>t4) x0 (λx7=>(l489 (k_setArgs (nat_lit 0) x4 (@Tr.nil CV)) x1 x2 x3 x4 x5 x6 x7)) (λ_=>none))) := by intro t; cases t <;> (intros; rfl)
abbrev t1262:=FuncId → t9
abbrev t1263:=Run → t1262
abbrev t1264:=Program → t1263
def k_callN : t1264 := (λx0 x1 x2 x3 x4=>(@Option.rec Func (λ_=>t4) none (λx5=>((λx6=>(l490 (Func.body x6) x0 x1 x2 x3 x4 x6)) x5)) (@GetElem?.getElem? (Array Func) FuncId Func (λx5 x6=>(@LT.lt Nat instLTNat x6 (@Array.size Func x5))) (@Array.instGetElem?NatLtSize Func) (Program.funcs x0) x2)))
theorem k_callN_eq : @k_callN = callN := by
  delta k_callN callN
  simp only [l490_eq, l486_eq, l489_eq, l485_eq, l488_eq, l6_eq, l487_eq]
  rw [k_leave_eq, k_len_eq, k_setArgs_eq]
  all_goals kernel_rfl

abbrev t1265:=t6 → t1263
abbrev t1266:=Program → t1265
def k_callT : t1266 := (λx0 x1 x2 x3 x4 x5=>(@Bool.rec (λ_=>t4) (k_callN x0 x2 x3 x4 x5) (l5 x4 x5) (x1 x3)))
theorem k_callT_eq : @k_callT = callT := by
  delta k_callT callT
  simp only [l5_eq]
  rw [k_callN_eq]
  all_goals kernel_rfl

abbrev t1267:=S → t151
abbrev t1268:=Fr → t1267
abbrev t1269:=t161 → t1268
abbrev t1270:=Run → t1269
abbrev t1271:=Program → t1270
abbrev t1272:=t164 → t151
abbrev t1273:=t141 → t1272
abbrev t1274:=t14 → t1273
abbrev t1275:=Nat → t1274
abbrev t1276:=t1271 → t1275
abbrev t1277:=Oper → t1276
abbrev t1278:=t161 → t1277
abbrev t1279:=Run → t1278
abbrev t1280:=Program → t1279
abbrev t1281:=Ret → t1280
def l493 : t1281 := (λx0=>(@Ret.rec (λ_=>t1280) (λx1 x2 x3 x4 x5 x6 x7 x8 x9 x10 x11=>(@Option.rec t14 (λ_=>t151) none (λx12=>(x7 x3 x4 x5 (Fr.mk x8 x12 x10 x11) x2)) (k_putE x8 (Oper.dst x6) x1 x9))) (λx1 x2 _ _ _ _ _ x8 x9 x10 x11=>(some ((Ex.pan x1), ((Fr.mk x8 x9 x10 x11), x2)))) x0))
theorem l493_eq : ∀ x0 x1 x2 x3 x4 x5 x6 x7 x8 x9, (Eq (l493 x0 x1 x2 x3 x4 x5 x6 x7 x8 x9) (@Ret.rec (λ_=>t151) (λx10 x11=>(@Option.rec t14 (λ_=>t151) none (λx12=>(x5 x1 x2 x3 (Fr.mk x6 x12 x8 x9) x11)) (k_putE x6 (Oper.dst x4) x10 x7))) (λx10 x11=>(some ((Ex.pan x10), ((Fr.mk x6 x7 x8 x9), x11)))) x0)) := by intro t; cases t <;> (intros; rfl)
abbrev t1282:=Option SD
abbrev t1283:=t164 → t1267
abbrev t1284:=t141 → t1283
abbrev t1285:=t14 → t1284
abbrev t1286:=Nat → t1285
abbrev t1287:=t1268 → t1286
abbrev t1288:=Oper → t1287
abbrev t1289:=t1282 → t1288
def l495 : t1289 := (λx0=>(@Option.rec SD (λ_=>t1288) (λ_ _ _ _ _ _ _=>none) (λx1 x2 x3 x4 x5 x6 x7 x8=>((λx9=>(@Option.rec t14 (λ_=>t151) none (λx10=>((λx11=>(x3 (Fr.mk x4 x11 (x9 :: x6) x7) x8)) x10)) (k_putE x4 (Oper.dst x2) (CV.tup []) x5))) x1)) x0))
theorem l495_eq : ∀ x0 x1 x2 x3 x4 x5 x6 x7, (Eq (l495 x0 x1 x2 x3 x4 x5 x6 x7) (@Option.rec SD (λ_=>t151) none (λx8=>((λx9=>(@Option.rec t14 (λ_=>t151) none (λx10=>((λx11=>(x2 (Fr.mk x3 x11 (x9 :: x5) x6) x7)) x10)) (k_putE x3 (Oper.dst x1) (CV.tup []) x4))) x8)) x0)) := by intro t; cases t <;> (intros; rfl)
abbrev t1290:=t7 → t1282
abbrev t1291:=t7 → t1290
abbrev t1292:=FuncId → t1291
abbrev t1293:=t31 → t1292
def l497 : t1293 := (λx0=>(@Option.rec t7 (λ_=>t1292) (λ_ _ _=>none) (λx1 x2 x3 x4=>(@Option.rec t7 (λ_=>t1282) none (λx5=>((λx6=>(some (SD.call x2 x6 x4))) x5)) (k_cat_CV x3 x1))) x0))
theorem l497_eq : ∀ x0 x1 x2 x3, (Eq (l497 x0 x1 x2 x3) (@methV._sparseCasesOn_2 t7 (λ_=>t1282) x0 (λx4=>(@Option.rec t7 (λ_=>t1282) none (λx5=>((λx6=>(some (SD.call x1 x6 x3))) x5)) (k_cat_CV x2 x4))) (λ_=>none))) := by intro t; cases t <;> (intros; rfl)
abbrev t1294:=Call → t1282
abbrev t1295:=t14 → t1294
abbrev t1296:=CV → t1295
def l498 : t1296 := (λx0=>(@CV.rec (λ_=>t1295) (λ_=>PUnit.{1}) (λ_ _=>none) (λ_ _ _=>none) (λ_ _ _ _=>none) (λ_ _ _ _ _ _ _=>none) (λ_ _=>none) (λ_ _ _=>none) (λ_ _ _ _=>none) (λ_ _ _ _=>none) (λx1 x2 x3 _ _ x6 x7=>(l497 (k_evs x6 (@Array.toList Operand (Call.args x7))) x1 x2 x3)) (λ_ _ _=>none) (λ_ _ _ _ _=>none) PUnit.unit.{1} (λ_ _ _ _=>PUnit.unit.{1}) x0))
theorem l498_eq : ∀ x0 x1 x2, (Eq (l498 x0 x1 x2) (@deferV._sparseCasesOn_1 (λ_=>t1282) x0 (λx3 x4 x5=>(l497 (k_evs x1 (@Array.toList Operand (Call.args x2))) x3 x4 x5)) (λ_=>none))) := by intro t; cases t <;> (intros; rfl)
abbrev t1297:=t81 → t1295
def l499 : t1297 := (λx0=>(@Option.rec CV (λ_=>t1295) (λ_ _=>none) (λx1 x2 x3=>(l498 x1 x2 x3)) x0))
theorem l499_eq : ∀ x0 x1 x2, (Eq (l499 x0 x1 x2) (@methV._sparseCasesOn_2 CV (λ_=>t1282) x0 (λx3=>(l498 x3 x1 x2)) (λ_=>none))) := by intro t; cases t <;> (intros; rfl)
abbrev t1298:=Callee → t1295
def l500 : t1298 := (λx0=>(@Callee.rec (λ_=>t1295) (λx1 x2 x3=>(l499 (k_ev x2 x1) x2 x3)) (λ_ _ _ _=>none) (λ_ _ _=>none) x0))
theorem l500_eq : ∀ x0 x1 x2, (Eq (l500 x0 x1 x2) (@deferV._sparseCasesOn_2 (λ_=>t1282) x0 (λx3=>(l499 (k_ev x1 x3) x1 x2)) (λ_=>none))) := by intro t; cases t <;> (intros; rfl)
def k_deferV : t1295 := (λx0 x1=>(l500 (Call.callee x1) x0 x1))
theorem k_deferV_eq : @k_deferV = deferV := by
  delta k_deferV deferV
  simp only [l499_eq, l497_eq, l498_eq, l500_eq]
  rw [k_cat_CV_eq, k_evs_eq, k_ev_eq]
  all_goals kernel_rfl

abbrev t1299:=Op → t1288
def l496 : t1299 := (λx0=>(@Op.rec (λ_=>t1288) (λ_ _ _ _ _ _ _ _=>none) (λ_ _ _ _ _ _ _ _=>none) (λ_ _ _ _ _ _ _ _ _ _=>none) (λ_ _ _ _ _ _ _ _=>none) (λ_ _ _ _ _ _ _ _ _=>none) (λ_ _ _ _ _ _ _ _ _=>none) (λ_ _ _ _ _ _ _ _ _ _=>none) (λ_ _ _ _ _ _ _ _ _ _ _=>none) (λ_ _ _ _ _ _ _ _ _=>none) (λ_ _ _ _ _ _ _ _ _ _=>none) (λ_ _ _ _ _ _ _ _=>none) (λ_ _ _ _ _ _ _ _=>none) (λ_ _ _ _ _ _ _ _=>none) (λ_ _ _ _ _ _ _ _ _ _ _ _=>none) (λ_ _ _ _ _ _ _ _ _ _=>none) (λ_ _ _ _ _ _ _ _ _ _=>none) (λ_ _ _ _ _ _ _ _ _=>none) (λ_ _ _ _ _ _ _ _ _=>none) (λ_ _ _ _ _ _ _ _ _ _=>none) (λ_ _ _ _ _ _ _ _ _=>none) (λ_ _ _ _ _ _ _ _ _=>none) (λ_ _ _ _ _ _ _ _ _ _=>none) (λ_ _ _ _ _ _ _ _ _ _ _ _=>none) (λ_ _ _ _ _ _ _ _ _ _=>none) (λ_ _ _ _ _ _ _ _ _ _=>none) (λ_ _ _ _ _ _ _ _ _ _=>none) (λ_ _ _ _ _ _ _ _ _ _=>none) (λ_ _ _ _ _ _ _ _ _ _ _=>none) (λ_ _ _ _ _ _ _ _ _ _ _=>none) (λ_ _ _ _ _ _ _ _ _ _=>none) (λ_ _ _ _ _ _ _ _ _ _ _=>none) (λ_ _ _ _ _ _ _ _ _=>none) (λ_ _ _ _ _ _ _ _ _=>none) (λ_ _ _ _ _ _ _ _=>none) (λ_ _ _ _ _ _ _ _ _ _ _=>none) (λ_ _ _ _ _ _ _ _ _=>none) (λ_ _ _ _ _ _ _ _=>none) (λ_ _ _ _ _ _ _ _=>none) (λx1 x2 x3 x4 x5 x6 x7 x8=>(@Option.rec Nat (λ_=>t151) (l495 (k_deferV x5 x1) x2 x3 x4 x5 x6 x7 x8) (λx9=>((λ_=>none) x9)) x7)) (λ_ _ _ _ _ _ _ _=>none) (λ_ _ _ _ _ _ _ _ _=>none) (λ_ _ _ _ _ _ _ _ _ _=>none) (λ_ _ _ _ _ _ _ _ _=>none) x0))
theorem l496_eq : ∀ x0 x1 x2 x3 x4 x5 x6 x7, (Eq (l496 x0 x1 x2 x3 x4 x5 x6 x7) (@regQ._sparseCasesOn_4 (λ_=>t151) x0 (λx8=>(@Option.rec Nat (λ_=>t151) (l495 (k_deferV x4 x8) x1 x2 x3 x4 x5 x6 x7) (λx9=>((λ_=>none) x9)) x6)) (λ_=>none))) := by intro t; cases t <;> (intros; rfl)
def k_regQ : t1288 := (λx0 x1 x2 x3 x4 x5 x6=>(l496 (Oper.op x0) x0 x1 x2 x3 x4 x5 x6))
theorem k_regQ_eq : @k_regQ = regQ := by
  delta k_regQ regQ
  simp only [l496_eq, l495_eq]
  rw [k_putE_eq, k_deferV_eq]
  all_goals kernel_rfl

abbrev t1300:=S → t1277
abbrev t1301:=t161 → t1300
abbrev t1302:=Run → t1301
abbrev t1303:=Program → t1302
abbrev t1304:=t4 → t1303
def l494 : t1304 := (λx0=>(@Option.rec Ret (λ_=>t1303) (λx1 x2 x3 x4 x5 x6 x7 x8 x9 x10=>(k_regQ x5 (λx11 x12=>(x6 x1 x2 x3 x11 x12)) x7 x8 x9 x10 x4)) (λx1 x2 x3 x4 _ x6 x7 x8 x9 x10 x11=>(l493 x1 x2 x3 x4 x6 x7 x8 x9 x10 x11)) x0))
theorem l494_eq : ∀ x0 x1 x2 x3 x4 x5 x6 x7 x8 x9 x10, (Eq (l494 x0 x1 x2 x3 x4 x5 x6 x7 x8 x9 x10) (@Option.rec Ret (λ_=>t151) (k_regQ x5 (λx11 x12=>(x6 x1 x2 x3 x11 x12)) x7 x8 x9 x10 x4) (λx11=>(l493 x11 x1 x2 x3 x5 x6 x7 x8 x9 x10)) x0)) := by intro t; cases t <;> (intros; rfl)
abbrev t1305:=t7 → t238
def k_app2 : t1305 := (λx0 x1 x2=>(@Option.rec t7 (λ_=>t31) none (λx3=>((λx4=>(k_cat_CV x0 x4)) x3)) (k_cat_CV x1 x2)))
theorem k_app2_eq : @k_app2 = app2 := by
  delta k_app2 app2
  rw [k_cat_CV_eq]
  all_goals kernel_rfl

abbrev t1306:=Run → t9
abbrev t1307:=CV → t1306
def l504 : t1307 := (λx0=>(@CV.rec (λ_=>t1306) (λ_=>PUnit.{1}) (λ_ _ _=>none) (λ_ _ _ _=>none) (λ_ _ _ _ _=>none) (λ_ _ _ _ _ _ _ _=>none) (λ_ _ _=>none) (λ_ _ _ _=>none) (λ_ _ _ _ _=>none) (λ_ _ _ _ _=>none) (λx1 x2 x3 _ _ x6 x7 x8=>(@Option.rec t7 (λ_=>t4) none (λx9=>((λx10=>(Run.call x6 x1 x10 x8)) x9)) (k_app2 x2 x7 x3))) (λx1 x2 x3 x4=>(Run.round x2 x1 x3 x4)) (λ_ _ _ _ _ _=>none) PUnit.unit.{1} (λ_ _ _ _=>PUnit.unit.{1}) x0))
theorem l504_eq : ∀ x0 x1 x2 x3, (Eq (l504 x0 x1 x2 x3) (@callV._sparseCasesOn_1 (λ_=>t4) x0 (λx4 x5 x6=>(@Option.rec t7 (λ_=>t4) none (λx7=>((λx8=>(Run.call x1 x4 x8 x3)) x7)) (k_app2 x5 x2 x6))) (λx4=>(Run.round x1 x4 x2 x3)) (λ_=>none))) := by intro t; cases t <;> (intros; rfl)
abbrev t1308:=CV → t9
abbrev t1309:=Run → t1308
def k_callV : t1309 := (λx0 x1 x2 x3=>(l504 x1 x0 x2 x3))
theorem k_callV_eq : @k_callV = callV := by
  delta k_callV callV
  simp only [l504_eq]
  rw [k_app2_eq]
  all_goals kernel_rfl

abbrev t1310:=Run → t20
abbrev t1311:=t31 → t1310
def l503 : t1311 := (λx0=>(@Option.rec t7 (λ_=>t1310) (λ_ _ _=>none) (λx1 x2 x3 x4=>(k_callV x2 x4 x1 x3)) x0))
theorem l503_eq : ∀ x0 x1 x2 x3, (Eq (l503 x0 x1 x2 x3) (@stepC._sparseCasesOn_1 t7 (λ_=>t4) x0 (λx4=>(k_callV x1 x3 x4 x2)) (λ_=>none))) := by intro t; cases t <;> (intros; rfl)
abbrev t1312:=Run → t1031
abbrev t1313:=t81 → t1312
def l505 : t1313 := (λx0=>(@Option.rec CV (λ_=>t1312) (λ_ _ _ _=>none) (λx1 x2 x3 x4 x5=>(l503 (k_evs x3 (@Array.toList Operand (Call.args x4))) x2 x5 x1)) x0))
theorem l505_eq : ∀ x0 x1 x2 x3 x4, (Eq (l505 x0 x1 x2 x3 x4) (@stepC._sparseCasesOn_1 CV (λ_=>t4) x0 (λx5=>(l503 (k_evs x2 (@Array.toList Operand (Call.args x3))) x1 x4 x5)) (λ_=>none))) := by intro t; cases t <;> (intros; rfl)
abbrev t1314:=Option FuncId
abbrev t1315:=FuncId → t1314
abbrev t1316:=TypeDesc → t1315
def l507 : t1316 := (λx0=>(@TypeDesc.rec (λ_=>t1315) (λx1=>(some x1)) (λx1=>(some x1)) (λ_ x2=>(some x2)) (λ_ x2=>(some x2)) (λ_ x2=>(some x2)) (λx1=>(some x1)) (λx1=>(some x1)) (λ_ _=>none) (λ_ x2=>(some x2)) (λ_ _ x3=>(some x3)) (λ_ _ x3=>(some x3)) (λ_ _ x3=>(some x3)) (λ_ x2=>(some x2)) (λ_ _ _ x4=>(some x4)) (λ_ x2=>(some x2)) (λ_ x2=>(some x2)) (λ_ _ x3=>(some x3)) x0))
theorem l507_eq : ∀ x0 x1, (Eq (l507 x0 x1) (@methV._sparseCasesOn_3 (λ_=>t1314) x0 (λ_=>none) (λ_=>(some x1)))) := by intro t; cases t <;> (intros; rfl)
abbrev t1317:=t336 → t1315
def l508 : t1317 := (λx0=>(@Option.rec TypeDesc (λ_=>t1315) (λ_=>none) (λx1 x2=>(l507 x1 x2)) x0))
theorem l508_eq : ∀ x0 x1, (Eq (l508 x0 x1) (@methV._sparseCasesOn_2 TypeDesc (λ_=>t1314) x0 (λx2=>(l507 x2 x1)) (λ_=>none))) := by intro t; cases t <;> (intros; rfl)
def l509 : t1316 := (λx0=>(@TypeDesc.rec (λ_=>t1315) (λ_=>none) (λ_=>none) (λ_ _=>none) (λ_ _=>none) (λ_ _=>none) (λ_=>none) (λ_=>none) (λ_ x2=>(some x2)) (λ_ _=>none) (λ_ _ _=>none) (λ_ _ _=>none) (λ_ _ _=>none) (λ_ _=>none) (λ_ _ _ _=>none) (λ_ _=>none) (λ_ _=>none) (λ_ _ _=>none) x0))
theorem l509_eq : ∀ x0 x1, (Eq (l509 x0 x1) (@methV._sparseCasesOn_3 (λ_=>t1314) x0 (λ_=>(some x1)) (λ_=>none))) := by intro t; cases t <;> (intros; rfl)
def l510 : t1317 := (λx0=>(@Option.rec TypeDesc (λ_=>t1315) (λ_=>none) (λx1 x2=>(l509 x1 x2)) x0))
theorem l510_eq : ∀ x0 x1, (Eq (l510 x0 x1) (@methV._sparseCasesOn_2 TypeDesc (λ_=>t1314) x0 (λx2=>(l509 x2 x1)) (λ_=>none))) := by intro t; cases t <;> (intros; rfl)
abbrev t1318:=Prod FuncId Bool
abbrev t1319:=Option t1318
abbrev t1320:=TypeId → t1314
abbrev t1321:=Program → t1320
abbrev t1322:=t1319 → t1321
def l511 : t1322 := (λx0=>(@Option.rec t1318 (λ_=>t1321) (λ_ _=>none) (λx1 x2 x3=>(@Prod.rec FuncId Bool (λ_=>t1314) (λx4 x5=>(@Bool.rec (λ_=>t1314) (l508 (Program.underlying x2 x3) x4) (l510 (Program.underlying x2 x3) x4) x5)) x1)) x0))
theorem l511_eq : ∀ x0 x1 x2, (Eq (l511 x0 x1 x2) (@methV._sparseCasesOn_2 t1318 (λ_=>t1314) x0 (λx3=>(@Prod.rec FuncId Bool (λ_=>t1314) (λx4 x5=>(@Bool.rec (λ_=>t1314) (l508 (Program.underlying x1 x2) x4) (l510 (Program.underlying x1 x2) x4) x5)) x3)) (λ_=>none))) := by intro t; cases t <;> (intros; rfl)
abbrev t1323:=List FieldStep
abbrev t1324:=Method → t1314
abbrev t1325:=TypeId → t1324
abbrev t1326:=Program → t1325
abbrev t1327:=t1323 → t1326
def l512 : t1327 := (λx0=>(@List.rec FieldStep (λ_=>t1326) (λx1 x2 x3=>(l511 (Method.func x3) x1 x2)) (λ_ _ _ _ _ _=>none) x0))
theorem l512_eq : ∀ x0 x1 x2 x3, (Eq (l512 x0 x1 x2 x3) (@methV._sparseCasesOn_1 FieldStep (λ_=>t1314) x0 (l511 (Method.func x3) x1 x2) (λ_=>none))) := by intro t; cases t <;> (intros; rfl)
abbrev t1328:=String → t1314
abbrev t1329:=TypeId → t1328
abbrev t1330:=Program → t1329
abbrev t1331:=t331 → t1330
def l513 : t1331 := (λx0=>(@Option.rec TypeInfo (λ_=>t1330) (λ_ _ _=>none) (λx1 x2 x3 x4=>((λx5=>(@Option.rec Method (λ_=>t1314) none (λx6=>((λx7=>(l512 (@Array.toList FieldStep (Method.path x7)) x2 x3 x7)) x6)) (@Array.find? Method (λx6=>(@BEq.beq String (@instBEqOfDecidableEq String instDecidableEqString) (Method.name x6) x4)) (TypeInfo.methods x5)))) x1)) x0))
theorem l513_eq : ∀ x0 x1 x2 x3, (Eq (l513 x0 x1 x2 x3) (@Option.rec TypeInfo (λ_=>t1314) none (λx4=>((λx5=>(@Option.rec Method (λ_=>t1314) none (λx6=>((λx7=>(l512 (@Array.toList FieldStep (Method.path x7)) x1 x2 x7)) x6)) (@Array.find? Method (λx6=>(@BEq.beq String (@instBEqOfDecidableEq String instDecidableEqString) (Method.name x6) x3)) (TypeInfo.methods x5)))) x4)) x0)) := by intro t; cases t <;> (intros; rfl)
def k_methV : t1330 := (λx0 x1 x2=>(l513 (Tables.info? (Program.toTables x0) x1) x0 x1 x2))
theorem k_methV_eq : @k_methV = methV := by
  delta k_methV methV
  simp only [l507_eq, l512_eq, l513_eq, l511_eq, l509_eq, l510_eq, l508_eq]
  all_goals kernel_rfl

abbrev t1332:=String → t862
abbrev t1333:=S → t1332
abbrev t1334:=Run → t1333
abbrev t1335:=Program → t1334
abbrev t1336:=t31 → t1335
def l506 : t1336 := (λx0=>(@Option.rec t7 (λ_=>t1335) (λ_ _ _ _ _ _=>none) (λx1 x2 x3 x4 x5 x6 x7=>(@Option.rec FuncId (λ_=>t4) none (λx8=>((λx9=>(k_callV x3 (CV.fn x9 [] []) (x7 :: x1) x4)) x8)) (k_methV x2 x6 x5))) x0))
theorem l506_eq : ∀ x0 x1 x2 x3 x4 x5 x6, (Eq (l506 x0 x1 x2 x3 x4 x5 x6) (@stepC._sparseCasesOn_1 t7 (λ_=>t4) x0 (λx7=>(@Option.rec FuncId (λ_=>t4) none (λx8=>((λx9=>(k_callV x2 (CV.fn x9 [] []) (x6 :: x7) x3)) x8)) (k_methV x1 x5 x4))) (λ_=>none))) := by intro t; cases t <;> (intros; rfl)
abbrev t1337:=String → t4
abbrev t1338:=S → t1337
abbrev t1339:=Call → t1338
abbrev t1340:=t14 → t1339
abbrev t1341:=Run → t1340
abbrev t1342:=Program → t1341
abbrev t1343:=CV → t1342
def l514 : t1343 := (λx0=>(@CV.rec (λ_=>t1342) (λ_=>PUnit.{1}) (λ_ _ _ _ _ _=>none) (λ_ _ _ _ _ _ _=>none) (λ_ _ _ _ _ _ _ _=>none) (λ_ _ _ _ _ _ _ _ _ _ _=>none) (λ_ _ _ _ _ _=>none) (λ_ _ _ _ _ _ _=>none) (λ_ _ _ _ _ _ _ _=>none) (λ_ _ _ _ _ _ _ _=>none) (λ_ _ _ _ _ _ _ _ _ _ _=>none) (λ_ _ _ _ _ _ _=>none) (λx1 x2 _ x4 x5 x6 x7 x8 x9=>(l506 (k_evs x6 (@Array.toList Operand (Call.args x7))) x4 x5 x8 x9 x1 x2)) PUnit.unit.{1} (λ_ _ _ _=>PUnit.unit.{1}) x0))
theorem l514_eq : ∀ x0 x1 x2 x3 x4 x5 x6, (Eq (l514 x0 x1 x2 x3 x4 x5 x6) (@stepC._sparseCasesOn_3 (λ_=>t4) x0 (λx7 x8=>(l506 (k_evs x3 (@Array.toList Operand (Call.args x4))) x1 x2 x5 x6 x7 x8)) (λ_=>none))) := by intro t; cases t <;> (intros; rfl)
abbrev t1344:=t81 → t1342
def l515 : t1344 := (λx0=>(@Option.rec CV (λ_=>t1342) (λ_ _ _ _ _ _=>none) (λx1 x2 x3 x4 x5 x6 x7=>(l514 x1 x2 x3 x4 x5 x6 x7)) x0))
theorem l515_eq : ∀ x0 x1 x2 x3 x4 x5 x6, (Eq (l515 x0 x1 x2 x3 x4 x5 x6) (@stepC._sparseCasesOn_1 CV (λ_=>t4) x0 (λx7=>(l514 x7 x1 x2 x3 x4 x5 x6)) (λ_=>none))) := by intro t; cases t <;> (intros; rfl)
abbrev t1345:=Program → t4
abbrev t1346:=S → t1345
abbrev t1347:=Call → t1346
abbrev t1348:=t14 → t1347
abbrev t1349:=Run → t1348
abbrev t1350:=Callee → t1349
def l516 : t1350 := (λx0=>(@Callee.rec (λ_=>t1349) (λx1 x2 x3 x4 x5 _=>(l505 (k_ev x3 x1) x2 x3 x4 x5)) (λx1 x2 x3 x4 x5 x6 x7=>(l515 (k_ev x4 x1) x7 x3 x4 x5 x6 x2)) (λ_ _ x3 x4 x5 x6=>(k_o_call x6 x3 x4 x5)) x0))
theorem l516_eq : ∀ x0 x1 x2 x3 x4 x5, (Eq (l516 x0 x1 x2 x3 x4 x5) (@stepC._sparseCasesOn_4 (λ_=>t4) x0 (λx6=>(l505 (k_ev x2 x6) x1 x2 x3 x4)) (λx6 x7=>(l515 (k_ev x2 x6) x5 x1 x2 x3 x4 x7)) (λ_=>(k_o_call x5 x2 x3 x4)))) := by intro t; cases t <;> (intros; rfl)
abbrev t1351:=Program → t1312
def k_stepC : t1351 := (λx0 x1 x2 x3 x4=>(l516 (Call.callee x3) x1 x2 x3 x4 x0))
theorem k_stepC_eq : @k_stepC = stepC := by
  delta k_stepC stepC
  simp only [l516_eq, l514_eq, l515_eq, l503_eq, l505_eq, l506_eq]
  rw [k_callV_eq, k_evs_eq, k_methV_eq, k_o_call_eq, k_ev_eq]
  all_goals kernel_rfl

def l517 : t186 := (λx0=>(@CV.rec (λ_=>t8) (λ_=>PUnit.{1}) (λ_=>none) (λ_ _=>none) (λ_ _ _=>none) (λ_ _ _ _ _ _=>none) (λ_=>none) (λ_ _=>none) (λ_ _ _=>none) (λ_ _ _=>none) (λ_ _ _ _ _ _=>none) (λ_ _=>none) (λx1 x2 _ x4=>(some (Ret.pan (CV.iface x1 x2) x4))) PUnit.unit.{1} (λ_ _ _ _=>PUnit.unit.{1}) x0))
theorem l517_eq : ∀ x0 x1, (Eq (l517 x0 x1) (@stepC._sparseCasesOn_3 (λ_=>t4) x0 (λx2 x3=>(some (Ret.pan (CV.iface x2 x3) x1))) (λ_=>none))) := by intro t; cases t <;> (intros; rfl)
def l518 : t101 := (λx0=>(@Option.rec CV (λ_=>t8) (λ_=>none) (λx1 x2=>(l517 x1 x2)) x0))
theorem l518_eq : ∀ x0 x1, (Eq (l518 x0 x1) (@stepC._sparseCasesOn_1 CV (λ_=>t4) x0 (λx2=>(l517 x2 x1)) (λ_=>none))) := by intro t; cases t <;> (intros; rfl)
def k_stepPan : t192 := (λx0 x1 x2=>(l518 (k_ev x0 x1) x2))
theorem k_stepPan_eq : @k_stepPan = stepPan := by
  delta k_stepPan stepPan
  simp only [l518_eq, l517_eq]
  rw [k_ev_eq]
  all_goals kernel_rfl

abbrev t1352:=Run → t1083
abbrev t1353:=Program → t1352
abbrev t1354:=Op → t1353
def l502 : t1354 := (λx0=>(@Op.rec (λ_=>t1353) (λx1 x2 _ x4 x5=>(k_o_move x2 x4 x1 x5)) (λx1 x2 _ x4 x5=>(k_o_move x2 x4 x1 x5)) (λx1 x2 x3 x4 _ x6 x7=>(k_o_pick x4 x6 x1 x2 x3 x7)) (λx1 x2 _ x4 x5=>(k_o_alloc x2 x4 x1 x5)) (λx1 x2 x3 _ x5 x6=>(k_o_box x3 x5 x1 x2 x6)) (λx1 x2 x3 _ x5 x6=>(k_o_build x3 x5 x1 x2 x6)) (λx1 x2 x3 x4 _ x6 x7=>(k_o_buildSlice x4 x6 x1 x2 x3 x7)) (λx1 x2 x3 x4 x5 _ x7 x8=>(k_o_mapUpdate x5 x7 x1 x2 x3 x4 x8)) (λx1 x2 x3 _ x5 x6=>(k_o_load x3 x5 x1 x2 x6)) (λx1 x2 x3 x4 _ x6 x7=>(k_o_store x4 x6 x1 x2 x3 x7)) (λ_ _ _ _ _=>none) (λ_ _ _ _ _=>none) (λx1 x2 _ x4 x5=>(k_o_nilCheck x2 x4 x1 x5)) (λx1 x2 x3 x4 _ x6 _ x8 x9=>(k_o_binOp x6 x8 x1 x2 x3 x4 x9)) (λx1 _ x3 x4 _ x6 x7=>(k_o_unOp x4 x6 x1 x3 x7)) (λx1 x2 x3 x4 _ x6 x7=>(k_o_convert x4 x6 x1 x2 x3 x7)) (λ_ _ _ _ _ _=>none) (λx1 x2 x3 _ x5 x6=>(k_o_makeInterface x3 x5 x1 x2 x6)) (λx1 x2 x3 x4 _ x6 x7=>(k_o_makeFunc x4 x6 x1 x2 x3 x7)) (λx1 x2 x3 _ x5 x6=>(k_mapF x3 x5 x1 x2 x6)) (λ_ _ _ _ _ _=>none) (λx1 x2 x3 x4 _ x6 x7=>(k_o_makeSlice x4 x6 x1 x2 x3 x7)) (λx1 x2 x3 x4 x5 x6 _ x8 x9=>(k_o_slice x6 x8 x1 x2 x3 x4 x5 x9)) (λx1 x2 x3 x4 _ x6 x7=>(k_o_fieldAddr x4 x6 x1 x2 x3 x7)) (λ_ _ _ _ _ _ _=>none) (λx1 x2 x3 x4 _ x6 x7=>(k_o_indexAddr x4 x6 x1 x2 x3 x7)) (λx1 x2 x3 x4 _ x6 x7=>(k_o_index x4 x6 x1 x2 x3 x7)) (λx1 x2 x3 x4 x5 _ x7 x8=>(k_o_lookup x5 x7 x1 x2 x3 x4 x8)) (λx1 x2 x3 x4 x5 _ x7 x8=>(k_o_mapUpdate x5 x7 x1 x2 x3 x4 x8)) (λ_ _ _ _ _ _ _=>none) (λ_ _ _ _ _ _ _ _=>none) (λ_ _ _ _ _ _=>none) (λ_ _ _ _ _ _=>none) (λ_ _ _ _ _=>none) (λx1 _ x3 x4 x5 _ x7 x8=>(k_o_typeAssert x5 x7 x1 x3 x4 x8)) (λx1 x2 x3 _ x5 x6=>(k_o_extract x3 x5 x1 x2 x6)) (λx1 x2 x3 x4 x5=>(k_stepC x2 x3 x4 x1 x5)) (λ_ _ _ _ _=>none) (λ_ _ _ _ _=>none) (λx1 _ _ x4 x5=>(k_stepPan x4 x1 x5)) (λ_ _ _ _ _ _=>none) (λ_ _ _ _ _ _ _=>none) (λ_ _ _ _ _ _=>none) x0))
theorem l502_eq : ∀ x0, (Eq (l502 x0) (@stepF._sparseCasesOn_1 (λ_=>t1353) x0 (λx1 x2 x3 x4 x5=>(k_stepC x2 x3 x4 x1 x5)) (λx1 _ _ x4 x5=>(k_stepPan x4 x1 x5)) (λx1 x2 _ x4 x5=>(k_o_move x2 x4 x1 x5)) (λx1 x2 _ x4 x5=>(k_o_move x2 x4 x1 x5)) (λx1 x2 x3 x4 _ x6 x7=>(k_o_pick x4 x6 x1 x2 x3 x7)) (λx1 x2 _ x4 x5=>(k_o_alloc x2 x4 x1 x5)) (λx1 x2 x3 _ x5 x6=>(k_o_box x3 x5 x1 x2 x6)) (λx1 x2 x3 _ x5 x6=>(k_o_build x3 x5 x1 x2 x6)) (λx1 x2 x3 x4 _ x6 x7=>(k_o_buildSlice x4 x6 x1 x2 x3 x7)) (λx1 x2 x3 _ x5 x6=>(k_o_load x3 x5 x1 x2 x6)) (λx1 x2 x3 x4 _ x6 x7=>(k_o_store x4 x6 x1 x2 x3 x7)) (λx1 x2 _ x4 x5=>(k_o_nilCheck x2 x4 x1 x5)) (λx1 x2 x3 x4 _ x6 _ x8 x9=>(k_o_binOp x6 x8 x1 x2 x3 x4 x9)) (λx1 _ x3 x4 _ x6 x7=>(k_o_unOp x4 x6 x1 x3 x7)) (λx1 x2 x3 x4 _ x6 x7=>(k_o_convert x4 x6 x1 x2 x3 x7)) (λx1 x2 x3 _ x5 x6=>(k_o_makeInterface x3 x5 x1 x2 x6)) (λx1 x2 x3 x4 _ x6 x7=>(k_o_makeFunc x4 x6 x1 x2 x3 x7)) (λx1 x2 x3 _ x5 x6=>(k_mapF x3 x5 x1 x2 x6)) (λx1 x2 x3 x4 _ x6 x7=>(k_o_makeSlice x4 x6 x1 x2 x3 x7)) (λx1 x2 x3 x4 x5 x6 _ x8 x9=>(k_o_slice x6 x8 x1 x2 x3 x4 x5 x9)) (λx1 x2 x3 x4 _ x6 x7=>(k_o_fieldAddr x4 x6 x1 x2 x3 x7)) (λx1 x2 x3 x4 _ x6 x7=>(k_o_indexAddr x4 x6 x1 x2 x3 x7)) (λx1 x2 x3 x4 _ x6 x7=>(k_o_index x4 x6 x1 x2 x3 x7)) (λx1 x2 x3 x4 x5 _ x7 x8=>(k_o_lookup x5 x7 x1 x2 x3 x4 x8)) (λx1 x2 x3 x4 x5 _ x7 x8=>(k_o_mapUpdate x5 x7 x1 x2 x3 x4 x8)) (λx1 x2 x3 x4 x5 _ x7 x8=>(k_o_mapUpdate x5 x7 x1 x2 x3 x4 x8)) (λx1 x2 x3 _ x5 x6=>(k_o_extract x3 x5 x1 x2 x6)) (λx1 _ x3 x4 x5 _ x7 x8=>(k_o_typeAssert x5 x7 x1 x3 x4 x8)) (λ_ _ _ _ _=>none))) := by intro t; cases t <;> (intros; rfl)
def k_stepF : t1354 := (λx0=>(l502 x0))
theorem k_stepF_eq : @k_stepF = stepF := by
  delta k_stepF stepF
  simp only [l502_eq]
  rw [k_stepPan_eq, k_stepC_eq, k_o_extract_eq, k_o_typeAssert_eq, k_o_mapUpdate_eq, k_o_lookup_eq, k_o_index_eq, k_o_indexAddr_eq, k_o_fieldAddr_eq, k_o_slice_eq, k_o_makeSlice_eq, k_mapF_eq, k_o_makeFunc_eq, k_o_makeInterface_eq, k_o_convert_eq, k_o_unOp_eq, k_o_binOp_eq, k_o_nilCheck_eq, k_o_store_eq, k_o_load_eq, k_o_buildSlice_eq, k_o_build_eq, k_o_box_eq, k_o_alloc_eq, k_o_pick_eq, k_o_move_eq]
  all_goals kernel_rfl

abbrev t1355:=Oper → t8
abbrev t1356:=t14 → t1355
abbrev t1357:=Run → t1356
abbrev t1358:=Program → t1357
def k_stepOp' : t1358 := (λx0 x1 x2 x3 x4=>(k_stepF (Oper.op x3) x0 x1 x2 x4))
theorem k_stepOp'_eq : @k_stepOp' = stepOp' := by
  delta k_stepOp' stepOp'
  rw [k_stepF_eq]
  all_goals kernel_rfl

theorem k_stepOp_eq : @k_stepOp' = @stepOp := k_stepOp'_eq.trans stepOp'_eq
abbrev t1359:=Bool → t1303
def l501 : t1359 := (λx0=>(@Bool.rec (λ_=>t1303) (λx1 x2 x3 x4 x5 x6 x7 x8 x9 x10=>(@Option.rec t14 (λ_=>t151) none (λx11=>(x6 x1 x2 x3 (Fr.mk x7 x11 x9 x10) x4)) (k_putE x7 (Oper.dst x5) (CV.tup []) x8))) (λx1 x2 x3 x4 x5 x6 x7 x8 x9 x10=>(l494 (k_stepOp' x1 x2 x8 x5 x4) x1 x2 x3 x4 x5 x6 x7 x8 x9 x10)) x0))
theorem l501_eq : ∀ x0 x1 x2 x3 x4 x5 x6 x7 x8 x9 x10, (Eq (l501 x0 x1 x2 x3 x4 x5 x6 x7 x8 x9 x10) (@Bool.rec (λ_=>t151) (@Option.rec t14 (λ_=>t151) none (λx11=>(x6 x1 x2 x3 (Fr.mk x7 x11 x9 x10) x4)) (k_putE x7 (Oper.dst x5) (CV.tup []) x8)) (l494 (k_stepOp' x1 x2 x8 x5 x4) x1 x2 x3 x4 x5 x6 x7 x8 x9 x10) x0)) := by intro t; cases t <;> (intros; rfl)
abbrev t1360:=t1271 → t151
abbrev t1361:=Oper → t1360
abbrev t1362:=S → t1361
abbrev t1363:=t161 → t1362
abbrev t1364:=Run → t1363
abbrev t1365:=Program → t1364
abbrev t1366:=Fr → t1365
def l519 : t1366 := (λx0=>(@Fr.rec (λ_=>t1365) (λx1 x2 x3 x4 x5 x6 x7 x8 x9 x10=>(@Option.rec Bool (λ_=>t151) none (λx11=>(l501 x11 x5 x6 x7 x8 x9 x10 x1 x2 x3 x4)) (k_guardV x7 x2 x9))) x0))
theorem l519_eq : ∀ x0 x1 x2 x3 x4 x5 x6, (Eq (l519 x0 x1 x2 x3 x4 x5 x6) (@Fr.rec (λ_=>t151) (λx7 x8 x9 x10=>(@Option.rec Bool (λ_=>t151) none (λx11=>(l501 x11 x1 x2 x3 x4 x5 x6 x7 x8 x9 x10)) (k_guardV x3 x8 x5))) x0)) := by intro t; cases t <;> (intros; rfl)
abbrev t1367:=t161 → t1269
abbrev t1368:=Run → t1367
abbrev t1369:=Program → t1368
def k_regS' : t1369 := (λx0 x1 x2 x3 x4 x5=>(@List.rec Oper (λ_=>t1271) (λ_ _ _ x9 x10=>(some (Ex.normal, (x9, x10)))) (λx6 _ x8 x9 x10 x11 x12 x13=>(l519 x12 x9 x10 x11 x13 x6 x8)) x3 x0 x1 x2 x4 x5))
theorem k_regS'_law : ∀ x0 x1 x2 x3 x4 x5, (Eq (k_regS' x1 x2 x3 x0 x4 x5) (regS' x1 x2 x3 x0 x4 x5)) := by
  intro t
  induction t with
  | nil  =>
    intro z0 z1 z2 z3 z4
    show ((fun (_ : Program) (_ : Run) (_ : t161) (x3 : Fr) (x4 : S) => (some (Ex.normal, (x3, x4)))) z0 z1 z2 z3 z4) = _
    conv => rhs; rw [Ev.regS'.eq_def]
    all_goals kernel_rfl
  | cons y0 y1 ih0 =>
    intro z0 z1 z2 z3 z4
    have e0 : (fun (x0 : Program) (x1 : Run) (x2 : t161) (x3 : Fr) (x4 : S) => (k_regS' x0 x1 x2 y1 x3 x4)) = (fun (x0 : Program) (x1 : Run) (x2 : t161) (x3 : Fr) (x4 : S) => (regS' x0 x1 x2 y1 x3 x4)) := by
      funext z0 z1 z2 z3 z4; exact ih0 z0 z1 z2 z3 z4
    show ((fun (x0 : Oper) (_ : t161) (x2 : t1271) (x3 : Program) (x4 : Run) (x5 : t161) (x6 : Fr) (x7 : S) => (l519 x6 x3 x4 x5 x7 x0 x2)) y0 y1 (fun (x0 : Program) (x1 : Run) (x2 : t161) (x3 : Fr) (x4 : S) => (k_regS' x0 x1 x2 y1 x3 x4)) z0 z1 z2 z3 z4) = _
    rw [e0]
    conv => rhs; rw [Ev.regS'.eq_def]
    try simp only [l494_eq, l501_eq, l493_eq, l519_eq]
    try rw [k_putE_eq]
    try rw [k_regQ_eq]
    try rw [k_stepOp_eq]
    try rw [k_guardV_eq]
    all_goals kernel_rfl
theorem k_regS'_eq : @k_regS' = regS' := by
  funext a0 a1 a2 a3 a4 a5; exact k_regS'_law a3 a0 a1 a2 a4 a5
theorem k_regS_eq : @k_regS' = @regS := k_regS'_eq.trans regS'_eq
abbrev t1370:=List Nat
abbrev t1371:=List Lg
abbrev t1372:=t1371 → t1268
abbrev t1373:=t1370 → t1372
abbrev t1374:=Nat → t1373
abbrev t1375:=t161 → t1374
abbrev t1376:=Run → t1375
abbrev t1377:=Program → t1376
abbrev t1378:=t1370 → t151
abbrev t1379:=t164 → t1378
abbrev t1380:=t141 → t1379
abbrev t1381:=Nat → t1380
abbrev t1382:=t1377 → t1381
abbrev t1383:=S → t1382
abbrev t1384:=t1371 → t1383
abbrev t1385:=Nat → t1384
abbrev t1386:=t161 → t1385
abbrev t1387:=Run → t1386
abbrev t1388:=Program → t1387
abbrev t1389:=t165 → t1388
def l520 : t1389 := (λx0=>(@Option.rec t14 (λ_=>t1388) (λ_ _ _ _ _ _ _ _ _ _ _=>none) (λx1 x2 x3 x4 x5 x6 x7 x8 x9 x10 x11 x12=>(x8 x2 x3 x4 (Nat.add x5 (nat_lit 1)) x12 x6 (Fr.mk x9 x1 x10 x11) x7)) x0))
theorem l520_eq : ∀ x0 x1 x2 x3 x4 x5 x6 x7 x8 x9 x10 x11, (Eq (l520 x0 x1 x2 x3 x4 x5 x6 x7 x8 x9 x10 x11) (@Option.rec t14 (λ_=>t151) none (λx12=>(x7 x1 x2 x3 (Nat.add x4 (nat_lit 1)) x11 x5 (Fr.mk x8 x12 x9 x10) x6)) x0)) := by intro t; cases t <;> (intros; rfl)
abbrev t1390:=Nat → t151
abbrev t1391:=t1390 → t151
abbrev t1392:=Nat → t1391
def k_fN_433 : t1392 := (λx0 x1=>(@Nat.rec (λ_=>t151) (x1 (nat_lit 0)) (λx2 _=>((λx4=>(x1 (Nat.add x4 (nat_lit 1)))) x2)) x0))
theorem k_fN_433_eq : @k_fN_433 = (@fN t148) := by
  delta k_fN_433 fN
  all_goals kernel_rfl

abbrev t1393:=Nat → t1390
abbrev t1394:=Nat → t1393
abbrev t1395:=t46 → t1394
abbrev t1396:=Nat → t1395
abbrev t1397:=Nat → t1396
abbrev t1398:=t1370 → t1397
abbrev t1399:=t164 → t1398
abbrev t1400:=t141 → t1399
abbrev t1401:=Nat → t1400
abbrev t1402:=t1377 → t1401
abbrev t1403:=t1371 → t1402
abbrev t1404:=Nat → t1403
abbrev t1405:=t161 → t1404
abbrev t1406:=Run → t1405
abbrev t1407:=Program → t1406
abbrev t1408:=t165 → t1407
def l521 : t1408 := (λx0=>(@Option.rec t14 (λ_=>t1407) (λ_ _ _ _ _ _ _ _ _ _ _ _ _ _ _ _=>none) (λx1 x2 x3 x4 x5 x6 x7 x8 x9 x10 x11 x12 x13 x14 x15 x16 x17=>(k_fN_433 (Nat.lor x12 x16) (λx18=>(k_fN_433 (Nat.lor x13 x17) (λx19=>(x7 x2 x3 x4 (Nat.add x5 (nat_lit 1)) x11 (@Bool.rec (λ_=>t1371) ((Lg.mk x5 x16 x17) :: x6) x6 (Nat.beq (Nat.lor x16 x17) (nat_lit 0))) (Fr.mk x8 x1 x9 x10) (S.mk x14 x15 x18 x19))))))) x0))
theorem l521_eq : ∀ x0 x1 x2 x3 x4 x5 x6 x7 x8 x9 x10 x11 x12 x13 x14 x15 x16, (Eq (l521 x0 x1 x2 x3 x4 x5 x6 x7 x8 x9 x10 x11 x12 x13 x14 x15 x16) (@Option.rec t14 (λ_=>t151) none (λx17=>(k_fN_433 (Nat.lor x11 x15) (λx18=>(k_fN_433 (Nat.lor x12 x16) (λx19=>(x6 x1 x2 x3 (Nat.add x4 (nat_lit 1)) x10 (@Bool.rec (λ_=>t1371) ((Lg.mk x4 x15 x16) :: x5) x5 (Nat.beq (Nat.lor x15 x16) (nat_lit 0))) (Fr.mk x7 x17 x8 x9) (S.mk x13 x14 x18 x19))))))) x0)) := by intro t; cases t <;> (intros; rfl)
abbrev t1409:=CV → t1395
abbrev t1410:=Nat → t1409
abbrev t1411:=Nat → t1410
abbrev t1412:=t1370 → t1411
abbrev t1413:=t164 → t1412
abbrev t1414:=t141 → t1413
abbrev t1415:=t14 → t1414
abbrev t1416:=Nat → t1415
abbrev t1417:=t1377 → t1416
abbrev t1418:=Oper → t1417
abbrev t1419:=t1371 → t1418
abbrev t1420:=Nat → t1419
abbrev t1421:=t161 → t1420
abbrev t1422:=Run → t1421
abbrev t1423:=Program → t1422
abbrev t1424:=Bool → t1423
def l522 : t1424 := (λx0=>(@Bool.rec (λ_=>t1423) (λ_ _ _ _ _ _ _ _ _ _ _ _ _ _ _ _ _ _ _=>none) (λx1 x2 x3 x4 x5 x6 x7 x8 x9 x10 x11 x12 x13 x14 x15 x16 x17 x18 x19=>(l521 (k_putE x8 (Oper.dst x6) x15 x9) x1 x2 x3 x4 x5 x7 x8 x10 x11 x12 x13 x14 x16 x17 x18 x19)) x0))
theorem l522_eq : ∀ x0 x1 x2 x3 x4 x5 x6 x7 x8 x9 x10 x11 x12 x13 x14 x15 x16 x17 x18 x19, (Eq (l522 x0 x1 x2 x3 x4 x5 x6 x7 x8 x9 x10 x11 x12 x13 x14 x15 x16 x17 x18 x19) (@Bool.rec (λ_=>t151) none (l521 (k_putE x8 (Oper.dst x6) x15 x9) x1 x2 x3 x4 x5 x7 x8 x10 x11 x12 x13 x14 x16 x17 x18 x19) x0)) := by intro t; cases t <;> (intros; rfl)
abbrev t1425:=Nat → t163
abbrev t1426:=t1425 → Bool
abbrev t1427:=Nat → t1426
abbrev t1428:=Nat → t1427
abbrev t1429:=Nat → t1428
abbrev t1430:=Lg → t1429
def l524 : t1430 := (λx0=>(@Lg.rec (λ_=>t1429) (λx1 x2 x3 x4 x5 x6 x7=>(@Bool.rec (λ_=>Bool) Bool.false (x7 x4 x5 x6) (@Bool.rec (λ_=>Bool) (@Bool.rec (λ_=>Bool) Bool.false (Nat.beq (Nat.land x5 x3) (nat_lit 0)) (Nat.beq (Nat.land x6 (Nat.lor x2 x3)) (nat_lit 0))) Bool.true (Nat.testBit x4 x1)))) x0))
theorem l524_eq : ∀ x0 x1 x2 x3 x4, (Eq (l524 x0 x1 x2 x3 x4) (@Lg.rec (λ_=>Bool) (λx5 x6 x7=>(@Bool.rec (λ_=>Bool) Bool.false (x4 x1 x2 x3) (@Bool.rec (λ_=>Bool) (@Bool.rec (λ_=>Bool) Bool.false (Nat.beq (Nat.land x2 x7) (nat_lit 0)) (Nat.beq (Nat.land x3 (Nat.lor x6 x7)) (nat_lit 0))) Bool.true (Nat.testBit x1 x5)))) x0)) := by intro t; cases t <;> (intros; rfl)
abbrev t1431:=t1371 → Bool
abbrev t1432:=Nat → t1431
abbrev t1433:=Nat → t1432
abbrev t1434:=Nat → t1433
def k_apart : t1434 := (λx0 x1 x2 x3=>(@List.rec Lg (λ_=>t1425) (λ_ _ _=>Bool.true) (λx4 _ x6 x7 x8 x9=>(l524 x4 x7 x8 x9 x6)) x3 x0 x1 x2))
theorem k_apart_law : ∀ x0 x1 x2 x3, (Eq (k_apart x1 x2 x3 x0) (apart x1 x2 x3 x0)) := by
  intro t
  induction t with
  | nil  =>
    intro z0 z1 z2
    show ((fun (_ : Nat) (_ : Nat) (_ : Nat) => Bool.true) z0 z1 z2) = _
    conv => rhs; rw [Ev.apart.eq_def]
    all_goals kernel_rfl
  | cons y0 y1 ih0 =>
    intro z0 z1 z2
    have e0 : (fun (x0 : Nat) (x1 : Nat) (x2 : Nat) => (k_apart x0 x1 x2 y1)) = (fun (x0 : Nat) (x1 : Nat) (x2 : Nat) => (apart x0 x1 x2 y1)) := by
      funext z0 z1 z2; exact ih0 z0 z1 z2
    show ((fun (x0 : Lg) (_ : t1371) (x2 : t1425) (x3 : Nat) (x4 : Nat) (x5 : Nat) => (l524 x0 x3 x4 x5 x2)) y0 y1 (fun (x0 : Nat) (x1 : Nat) (x2 : Nat) => (k_apart x0 x1 x2 y1)) z0 z1 z2) = _
    rw [e0]
    conv => rhs; rw [Ev.apart.eq_def]
    try simp only [l524_eq]
    all_goals kernel_rfl
theorem k_apart_eq : @k_apart = apart := by
  funext a0 a1 a2 a3; exact k_apart_law a3 a0 a1 a2
abbrev t1435:=CV → t151
abbrev t1436:=Nat → t1435
abbrev t1437:=Nat → t1436
abbrev t1438:=t1370 → t1437
abbrev t1439:=Nat → t1438
abbrev t1440:=t164 → t1439
abbrev t1441:=t141 → t1440
abbrev t1442:=t14 → t1441
abbrev t1443:=Nat → t1442
abbrev t1444:=t1377 → t1443
abbrev t1445:=Oper → t1444
abbrev t1446:=t1371 → t1445
abbrev t1447:=Nat → t1446
abbrev t1448:=t161 → t1447
abbrev t1449:=Run → t1448
abbrev t1450:=Program → t1449
abbrev t1451:=S → t1450
def l523 : t1451 := (λx0=>(@S.rec (λ_=>t1450) (λx1 x2 x3 x4 x5 x6 x7 x8 x9 x10 x11 x12 x13 x14 x15 x16 x17 x18 x19 x20=>(l522 (k_apart x16 x3 x4 x9) x5 x6 x7 x8 x9 x10 x11 x12 x13 x14 x15 x17 x18 x19 x20 x1 x2 x3 x4)) x0))
theorem l523_eq : ∀ x0 x1 x2 x3 x4 x5 x6 x7 x8 x9 x10 x11 x12 x13 x14 x15 x16, (Eq (l523 x0 x1 x2 x3 x4 x5 x6 x7 x8 x9 x10 x11 x12 x13 x14 x15 x16) (@S.rec (λ_=>t151) (λx17 x18 x19 x20=>(l522 (k_apart x12 x19 x20 x5) x1 x2 x3 x4 x5 x6 x7 x8 x9 x10 x11 x13 x14 x15 x16 x17 x18 x19 x20)) x0)) := by intro t; cases t <;> (intros; rfl)
abbrev t1452:=t164 → t1409
abbrev t1453:=t141 → t1452
abbrev t1454:=Nat → t1453
abbrev t1455:=t165 → t1454
def l525 : t1455 := (λx0=>(@Option.rec t14 (λ_=>t1454) (λ_ _ _ _ _ _ _ _=>none) (λx1 x2 x3 x4 x5 x6 x7 x8 x9=>(some ((Ex.pan x5), ((Fr.mk x2 x1 x3 x4), (S.mk x6 x7 x9 x8))))) x0))
theorem l525_eq : ∀ x0 x1 x2 x3 x4 x5 x6 x7 x8, (Eq (l525 x0 x1 x2 x3 x4 x5 x6 x7 x8) (@methV._sparseCasesOn_2 t14 (λ_=>t151) x0 (λx9=>(some ((Ex.pan x4), ((Fr.mk x1 x9 x2 x3), (S.mk x5 x6 x8 x7))))) (λ_=>none))) := by intro t; cases t <;> (intros; rfl)
abbrev t1456:=Option Tmp
abbrev t1457:=t161 → t166
def k_wipe : t1457 := (λx0 x1=>(@List.rec Oper (λ_=>t166) (λx2=>(some x2)) (λx2 _ x4 x5=>(@Option.rec Tmp (λ_=>t165) (x4 x5) (λx6=>(@Option.rec t14 (λ_=>t165) none (λx7=>(x4 x7)) (setCV (nat_lit 24) x5 x6 none))) (Oper.dst x2))) x0 x1))
theorem k_wipe_law : ∀ x0 x1, (Eq (k_wipe x0 x1) (wipe x0 x1)) := by
  intro t
  induction t with
  | nil  =>
    intro z0
    show ((fun (x0 : t14) => (some x0)) z0) = _
    conv => rhs; rw [Ev.wipe.eq_def]
    all_goals kernel_rfl
  | cons y0 y1 ih0 =>
    intro z0
    have e0 : (fun (x0 : t14) => (k_wipe y1 x0)) = (fun (x0 : t14) => (wipe y1 x0)) := by
      funext z0; exact ih0 z0
    show ((fun (x0 : Oper) (_ : t161) (x2 : t166) (x3 : t14) => (@Option.rec Tmp (fun (_ : t1456) => t165) (x2 x3) (fun (x4 : Tmp) => (@Option.rec t14 (fun (_ : t165) => t165) none (fun (x5 : t14) => (x2 x5)) (setCV (nat_lit 24) x3 x4 none))) (Oper.dst x0))) y0 y1 (fun (x0 : t14) => (k_wipe y1 x0)) z0) = _
    rw [e0]
    conv => rhs; rw [Ev.wipe.eq_def]
    try rw [setCV_eq]
    all_goals kernel_rfl
theorem k_wipe_eq : @k_wipe = wipe := by
  funext a0 a1; exact k_wipe_law a0 a1
abbrev t1458:=t46 → t1393
abbrev t1459:=CV → t1458
abbrev t1460:=t164 → t1459
abbrev t1461:=t141 → t1460
abbrev t1462:=t14 → t1461
abbrev t1463:=Nat → t1462
abbrev t1464:=t161 → t1463
abbrev t1465:=t164 → t1464
def l526 : t1465 := (λx0=>(@Option.rec Nat (λ_=>t1464) (λ_ _ _ _ _ _ _ _ _=>none) (λx1 x2 x3 x4 x5 x6 x7 x8 x9 x10=>(l525 (k_wipe x2 x4) x3 x5 x6 x7 x8 x9 x10 x1)) x0))
theorem l526_eq : ∀ x0 x1 x2 x3 x4 x5 x6 x7 x8 x9, (Eq (l526 x0 x1 x2 x3 x4 x5 x6 x7 x8 x9) (@methV._sparseCasesOn_2 Nat (λ_=>t151) x0 (λx10=>(l525 (k_wipe x1 x3) x2 x4 x5 x6 x7 x8 x9 x10)) (λ_=>none))) := by intro t; cases t <;> (intros; rfl)
abbrev t1466:=Nat → t164
abbrev t1467:=t1466 → t164
abbrev t1468:=Nat → t1467
def k_fN_Nat : t1468 := (λx0 x1=>(@Nat.rec (λ_=>t164) (x1 (nat_lit 0)) (λx2 _=>((λx4=>(x1 (Nat.add x4 (nat_lit 1)))) x2)) x0))
theorem k_fN_Nat_eq : @k_fN_Nat = (@fN Nat) := by
  delta k_fN_Nat fN
  all_goals kernel_rfl

abbrev t1469:=S → t164
abbrev t1470:=t14 → t1469
abbrev t1471:=Nat → t1470
abbrev t1472:=t1371 → t1471
abbrev t1473:=t1370 → t1472
abbrev t1474:=Nat → t1473
abbrev t1475:=Nat → t1474
abbrev t1476:=t161 → t1475
abbrev t1477:=Run → t1476
abbrev t1478:=Program → t1477
abbrev t1479:=Nat → t1466
abbrev t1480:=Nat → t1479
abbrev t1481:=Nat → t1480
abbrev t1482:=Nat → t1481
abbrev t1483:=t46 → t1482
abbrev t1484:=t1370 → t1483
abbrev t1485:=t1478 → t1484
abbrev t1486:=Nat → t1485
abbrev t1487:=t1371 → t1486
abbrev t1488:=Nat → t1487
abbrev t1489:=Nat → t1488
abbrev t1490:=t161 → t1489
abbrev t1491:=Run → t1490
abbrev t1492:=Program → t1491
abbrev t1493:=t165 → t1492
def l528 : t1493 := (λx0=>(@Option.rec t14 (λ_=>t1492) (λ_ _ _ _ _ _ _ _ _ _ _ _ _ _ _=>none) (λx1 x2 x3 x4 x5 x6 x7 x8 x9 x10 x11 x12 x13 x14 x15 x16=>(k_fN_Nat (Nat.lor x13 x15) (λx17=>(x9 x2 x3 x4 x5 (Nat.add x6 (nat_lit 1)) x10 (@Bool.rec (λ_=>t1371) ((Lg.mk x6 x15 x16) :: x7) x7 (Nat.beq x15 (nat_lit 0))) x8 x1 (S.mk x11 x12 x17 x14))))) x0))
theorem l528_eq : ∀ x0 x1 x2 x3 x4 x5 x6 x7 x8 x9 x10 x11 x12 x13 x14 x15, (Eq (l528 x0 x1 x2 x3 x4 x5 x6 x7 x8 x9 x10 x11 x12 x13 x14 x15) (@Option.rec t14 (λ_=>t164) none (λx16=>(k_fN_Nat (Nat.lor x12 x14) (λx17=>(x8 x1 x2 x3 x4 (Nat.add x5 (nat_lit 1)) x9 (@Bool.rec (λ_=>t1371) ((Lg.mk x5 x14 x15) :: x6) x6 (Nat.beq x14 (nat_lit 0))) x7 x16 (S.mk x10 x11 x17 x13))))) x0)) := by intro t; cases t <;> (intros; rfl)
abbrev t1494:=CV → t1479
abbrev t1495:=Nat → t1494
abbrev t1496:=Nat → t1495
abbrev t1497:=Nat → t1496
abbrev t1498:=t46 → t1497
abbrev t1499:=t1370 → t1498
abbrev t1500:=t1478 → t1499
abbrev t1501:=Oper → t1500
abbrev t1502:=t14 → t1501
abbrev t1503:=Nat → t1502
abbrev t1504:=t1371 → t1503
abbrev t1505:=Nat → t1504
abbrev t1506:=Nat → t1505
abbrev t1507:=t161 → t1506
abbrev t1508:=Run → t1507
abbrev t1509:=Program → t1508
abbrev t1510:=Bool → t1509
def l529 : t1510 := (λx0=>(@Bool.rec (λ_=>t1509) (λ_ _ _ _ _ _ _ _ _ _ _ _ _ _ _ _ _ _=>none) (λx1 x2 x3 x4 x5 x6 x7 x8 x9 x10 x11 x12 x13 x14 x15 x16 x17 x18=>(l528 (k_putE x7 (Oper.dst x9) x16 x8) x1 x2 x3 x4 x5 x6 x7 x10 x11 x12 x13 x14 x15 x17 x18)) x0))
theorem l529_eq : ∀ x0 x1 x2 x3 x4 x5 x6 x7 x8 x9 x10 x11 x12 x13 x14 x15 x16 x17 x18, (Eq (l529 x0 x1 x2 x3 x4 x5 x6 x7 x8 x9 x10 x11 x12 x13 x14 x15 x16 x17 x18) (@Bool.rec (λ_=>t164) none (l528 (k_putE x7 (Oper.dst x9) x16 x8) x1 x2 x3 x4 x5 x6 x7 x10 x11 x12 x13 x14 x15 x17 x18) x0)) := by intro t; cases t <;> (intros; rfl)
abbrev t1511:=Nat → t723
abbrev t1512:=Nat → t1511
abbrev t1513:=Nat → t1512
abbrev t1514:=t46 → t1513
abbrev t1515:=t1370 → t1514
abbrev t1516:=Nat → t1515
abbrev t1517:=t1478 → t1516
abbrev t1518:=Oper → t1517
abbrev t1519:=t14 → t1518
abbrev t1520:=Nat → t1519
abbrev t1521:=t1371 → t1520
abbrev t1522:=Nat → t1521
abbrev t1523:=Nat → t1522
abbrev t1524:=t161 → t1523
abbrev t1525:=Run → t1524
abbrev t1526:=Program → t1525
abbrev t1527:=S → t1526
def l530 : t1527 := (λx0=>(@S.rec (λ_=>t1526) (λ_ x2 x3 x4 x5 x6 x7 x8 x9 x10 x11 x12 x13 x14 x15 x16 x17 x18 x19 x20 x21=>(l529 (@Bool.rec (λ_=>Bool) Bool.false (Nat.beq x18 x2) (@Bool.rec (λ_=>Bool) Bool.false (Nat.beq x4 (nat_lit 0)) (k_apart x15 x3 x4 x10))) x5 x6 x7 x8 x9 x10 x11 x12 x13 x14 x16 x17 x18 x19 x20 x21 x3 x4)) x0))
theorem l530_eq : ∀ x0 x1 x2 x3 x4 x5 x6 x7 x8 x9 x10 x11 x12 x13 x14 x15 x16 x17, (Eq (l530 x0 x1 x2 x3 x4 x5 x6 x7 x8 x9 x10 x11 x12 x13 x14 x15 x16 x17) (@S.rec (λ_=>t164) (λ_ x19 x20 x21=>(l529 (@Bool.rec (λ_=>Bool) Bool.false (Nat.beq x14 x19) (@Bool.rec (λ_=>Bool) Bool.false (Nat.beq x21 (nat_lit 0)) (k_apart x11 x20 x21 x6))) x1 x2 x3 x4 x5 x6 x7 x8 x9 x10 x12 x13 x14 x15 x16 x17 x20 x21)) x0)) := by intro t; cases t <;> (intros; rfl)
abbrev t1528:=t46 → t1480
abbrev t1529:=t1370 → t1528
abbrev t1530:=Nat → t1529
abbrev t1531:=t1478 → t1530
abbrev t1532:=Oper → t1531
abbrev t1533:=t14 → t1532
abbrev t1534:=Nat → t1533
abbrev t1535:=t1371 → t1534
abbrev t1536:=Nat → t1535
abbrev t1537:=Nat → t1536
abbrev t1538:=t161 → t1537
abbrev t1539:=Run → t1538
abbrev t1540:=Program → t1539
abbrev t1541:=Ret → t1540
def l531 : t1541 := (λx0=>(@Ret.rec (λ_=>t1540) (λx1 x2 x3 x4 x5 x6 x7 x8 x9 x10 x11 x12 x13 x14 x15 x16 x17 x18=>(l530 x2 x3 x4 x5 x6 x7 x8 x9 x10 x11 x12 x13 x14 x15 x16 x17 x18 x1)) (λ_ _ _ _ _ _ _ _ _ _ _ _ _ _ _ _ _ _=>none) x0))
theorem l531_eq : ∀ x0 x1 x2 x3 x4 x5 x6 x7 x8 x9 x10 x11 x12 x13 x14 x15 x16, (Eq (l531 x0 x1 x2 x3 x4 x5 x6 x7 x8 x9 x10 x11 x12 x13 x14 x15 x16) (@regP._sparseCasesOn_2 (λ_=>t164) x0 (λx17 x18=>(l530 x18 x1 x2 x3 x4 x5 x6 x7 x8 x9 x10 x11 x12 x13 x14 x15 x16 x17)) (λ_=>none))) := by intro t; cases t <;> (intros; rfl)
abbrev t1542:=t4 → t1540
def l532 : t1542 := (λx0=>(@Option.rec Ret (λ_=>t1540) (λ_ _ _ _ _ _ _ _ _ _ _ _ _ _ _ _=>none) (λx1 x2 x3 x4 x5 x6 x7 x8 x9 x10 x11 x12 x13 x14 x15 x16 x17=>(l531 x1 x2 x3 x4 x5 x6 x7 x8 x9 x10 x11 x12 x13 x14 x15 x16 x17)) x0))
theorem l532_eq : ∀ x0 x1 x2 x3 x4 x5 x6 x7 x8 x9 x10 x11 x12 x13 x14 x15 x16, (Eq (l532 x0 x1 x2 x3 x4 x5 x6 x7 x8 x9 x10 x11 x12 x13 x14 x15 x16) (@methV._sparseCasesOn_2 Ret (λ_=>t164) x0 (λx17=>(l531 x17 x1 x2 x3 x4 x5 x6 x7 x8 x9 x10 x11 x12 x13 x14 x15 x16)) (λ_=>none))) := by intro t; cases t <;> (intros; rfl)
abbrev t1543:=t1370 → t164
abbrev t1544:=Nat → t1543
abbrev t1545:=t1478 → t1544
abbrev t1546:=Oper → t1545
abbrev t1547:=t14 → t1546
abbrev t1548:=Nat → t1547
abbrev t1549:=t1371 → t1548
abbrev t1550:=Nat → t1549
abbrev t1551:=Nat → t1550
abbrev t1552:=t161 → t1551
abbrev t1553:=Run → t1552
abbrev t1554:=Program → t1553
abbrev t1555:=S → t1554
def l533 : t1555 := (λx0=>(@S.rec (λ_=>t1554) (λx1 x2 x3 x4 x5 x6 x7 x8 x9 x10 x11 x12 x13 x14 x15 x16=>(l532 (k_stepOp' x5 x6 x12 x13 (S.mk x1 x2 (nat_lit 0) (nat_lit 0))) x5 x6 x7 x8 x9 x10 x11 x12 x13 x14 x15 x16 x1 x2 x3 x4)) x0))
theorem l533_eq : ∀ x0 x1 x2 x3 x4 x5 x6 x7 x8 x9 x10 x11 x12, (Eq (l533 x0 x1 x2 x3 x4 x5 x6 x7 x8 x9 x10 x11 x12) (@S.rec (λ_=>t164) (λx13 x14 x15 x16=>(l532 (k_stepOp' x1 x2 x8 x9 (S.mk x13 x14 (nat_lit 0) (nat_lit 0))) x1 x2 x3 x4 x5 x6 x7 x8 x9 x10 x11 x12 x13 x14 x15 x16)) x0)) := by intro t; cases t <;> (intros; rfl)
def l535 : t1152 := (λx0=>(@Op.rec (λ_=>Bool) (λ_=>Bool.false) (λ_=>Bool.false) (λ_ _ _=>Bool.false) (λ_=>Bool.false) (λ_ _=>Bool.false) (λ_ _=>Bool.false) (λ_ _ _=>Bool.false) (λ_ _ _ _=>Bool.false) (λ_ _=>Bool.false) (λ_ _ _=>Bool.false) (λ_=>Bool.false) (λ_=>Bool.false) (λ_=>Bool.false) (λ_ _ _ _ _=>Bool.false) (λ_ _ _=>Bool.false) (λ_ _ _=>Bool.false) (λ_ _=>Bool.false) (λ_ _=>Bool.false) (λ_ _ _=>Bool.false) (λ_ _=>Bool.false) (λ_ _=>Bool.false) (λ_ _ _=>Bool.false) (λ_ _ _ _ _=>Bool.false) (λ_ _ _=>Bool.false) (λ_ _ _=>Bool.false) (λ_ _ _=>Bool.false) (λ_ _ _=>Bool.false) (λ_ _ _ _=>Bool.false) (λ_ _ _ _=>Bool.false) (λ_ _ _=>Bool.false) (λ_ _ _ _=>Bool.false) (λ_ _=>Bool.false) (λ_ _=>Bool.false) (λ_=>Bool.false) (λ_ _ _ _=>Bool.false) (λ_ _=>Bool.false) (λ_=>Bool.false) (λ_=>Bool.false) (λ_=>Bool.true) (λ_=>Bool.false) (λ_ _=>Bool.false) (λ_ _ _=>Bool.false) (λ_ _=>Bool.false) x0))
theorem l535_eq : ∀ x0, (Eq (l535 x0) (@regS._sparseCasesOn_5 (λ_=>Bool) x0 (λ_=>Bool.true) (λ_=>Bool.false))) := by intro t; cases t <;> (intros; rfl)
def k_isDefer : t1152 := (λx0=>(l535 x0))
theorem k_isDefer_eq : @k_isDefer = isDefer := by
  delta k_isDefer isDefer
  simp only [l535_eq]
  all_goals kernel_rfl

abbrev t1556:=t1370 → t1466
abbrev t1557:=t1478 → t1556
abbrev t1558:=Oper → t1557
abbrev t1559:=S → t1558
abbrev t1560:=t14 → t1559
abbrev t1561:=Nat → t1560
abbrev t1562:=t1371 → t1561
abbrev t1563:=Nat → t1562
abbrev t1564:=Nat → t1563
abbrev t1565:=t161 → t1564
abbrev t1566:=Run → t1565
abbrev t1567:=Program → t1566
abbrev t1568:=Bool → t1567
def l534 : t1568 := (λx0=>(@Bool.rec (λ_=>t1567) (λx1 x2 x3 x4 x5 x6 x7 x8 x9 x10 x11 x12 _=>(@Option.rec t14 (λ_=>t164) none (λx14=>(x11 x1 x2 x3 x4 (Nat.add x5 (nat_lit 1)) x12 x6 x7 x14 x9)) (k_putE x7 (Oper.dst x10) (CV.tup []) x8))) (λx1 x2 x3 x4 x5 x6 x7 x8 x9 x10 x11 x12 x13=>(@Bool.rec (λ_=>t164) (l533 x9 x1 x2 x3 x4 x5 x6 x7 x8 x10 x11 x13 x12) none (k_isDefer (Oper.op x10)))) x0))
theorem l534_eq : ∀ x0 x1 x2 x3 x4 x5 x6 x7 x8 x9 x10 x11 x12 x13, (Eq (l534 x0 x1 x2 x3 x4 x5 x6 x7 x8 x9 x10 x11 x12 x13) (@Bool.rec (λ_=>t164) (@Option.rec t14 (λ_=>t164) none (λx14=>(x11 x1 x2 x3 x4 (Nat.add x5 (nat_lit 1)) x12 x6 x7 x14 x9)) (k_putE x7 (Oper.dst x10) (CV.tup []) x8)) (@Bool.rec (λ_=>t164) (l533 x9 x1 x2 x3 x4 x5 x6 x7 x8 x10 x11 x13 x12) none (k_isDefer (Oper.op x10))) x0)) := by intro t; cases t <;> (intros; rfl)
abbrev t1569:=S → t1546
abbrev t1570:=t14 → t1569
abbrev t1571:=Nat → t1570
abbrev t1572:=t1371 → t1571
abbrev t1573:=Nat → t1572
abbrev t1574:=Nat → t1573
abbrev t1575:=t161 → t1574
abbrev t1576:=Run → t1575
abbrev t1577:=Program → t1576
abbrev t1578:=t369 → t1577
def l536 : t1578 := (λx0=>(@Option.rec Bool (λ_=>t1577) (λ_ _ _ _ _ _ _ _ _ _ _ _ _=>none) (λx1 x2 x3 x4 x5 x6 x7 x8 x9 x10 x11 x12 x13 x14=>(l534 x1 x2 x3 x4 x5 x6 x7 x8 x9 x10 x11 x12 x14 x13)) x0))
theorem l536_eq : ∀ x0 x1 x2 x3 x4 x5 x6 x7 x8 x9 x10 x11 x12 x13, (Eq (l536 x0 x1 x2 x3 x4 x5 x6 x7 x8 x9 x10 x11 x12 x13) (@Option.rec Bool (λ_=>t164) none (λx14=>(l534 x14 x1 x2 x3 x4 x5 x6 x7 x8 x9 x10 x11 x13 x12)) x0)) := by intro t; cases t <;> (intros; rfl)
abbrev t1579:=Bool → t1577
def l537 : t1579 := (λx0=>(@Bool.rec (λ_=>t1577) (λx1 x2 x3 x4 x5 x6 x7 x8 x9 x10 x11 x12 x13=>(l536 (k_guardV x3 x8 x10) x1 x2 x3 x4 x5 x6 x7 x8 x9 x10 x11 x12 x13)) (λx1 x2 x3 x4 x5 x6 x7 x8 x9 _ x11 _ x13=>(x11 x1 x2 x3 x4 (Nat.add x5 (nat_lit 1)) x13 x6 x7 x8 x9)) x0))
theorem l537_eq : ∀ x0 x1 x2 x3 x4 x5 x6 x7 x8 x9 x10 x11 x12 x13, (Eq (l537 x0 x1 x2 x3 x4 x5 x6 x7 x8 x9 x10 x11 x12 x13) (@Bool.rec (λ_=>t164) (l536 (k_guardV x3 x8 x10) x1 x2 x3 x4 x5 x6 x7 x8 x9 x10 x11 x12 x13) (x11 x1 x2 x3 x4 (Nat.add x5 (nat_lit 1)) x13 x6 x7 x8 x9) x0)) := by intro t; cases t <;> (intros; rfl)
abbrev t1580:=t1478 → t164
abbrev t1581:=Oper → t1580
abbrev t1582:=S → t1581
abbrev t1583:=t14 → t1582
abbrev t1584:=Nat → t1583
abbrev t1585:=t1371 → t1584
abbrev t1586:=Nat → t1585
abbrev t1587:=Nat → t1586
abbrev t1588:=t161 → t1587
abbrev t1589:=Run → t1588
abbrev t1590:=Program → t1589
abbrev t1591:=t1370 → t1590
def l538 : t1591 := (λx0=>(@List.rec Nat (λ_=>t1590) (λ_ _ _ _ _ _ _ _ _ _ _=>none) (λx1 x2 _ x4 x5 x6 x7 x8 x9 x10 x11 x12 x13 x14=>(l537 (Nat.testBit x1 x7) x4 x5 x6 x7 x8 x9 x10 x11 x12 x13 x14 x1 x2)) x0))
theorem l538_eq : ∀ x0 x1 x2 x3 x4 x5 x6 x7 x8 x9 x10 x11, (Eq (l538 x0 x1 x2 x3 x4 x5 x6 x7 x8 x9 x10 x11) (@List.rec Nat (λ_=>t164) none (λx12 x13 _=>(l537 (Nat.testBit x12 x4) x1 x2 x3 x4 x5 x6 x7 x8 x9 x10 x11 x12 x13)) x0)) := by intro t; cases t <;> (intros; rfl)
abbrev t1592:=t161 → t1474
abbrev t1593:=Nat → t1592
abbrev t1594:=t161 → t1593
abbrev t1595:=Run → t1594
abbrev t1596:=Program → t1595
def k_regP : t1596 := (λx0 x1 x2 x3 x4 x5 x6 x7 x8 x9 x10=>(@List.rec Oper (λ_=>t1478) (λ_ _ _ _ _ _ _ _ _ x20=>(@S.rec (λ_=>t164) (λ_ _ x23 _=>(some x23)) x20)) (λx11 _ x13 x14 x15 x16 x17 x18 x19 x20 x21 x22 x23=>(l538 x19 x14 x15 x16 x17 x18 x20 x21 x22 x23 x11 x13)) x4 x0 x1 x2 x3 x5 x6 x7 x8 x9 x10))
theorem k_regP_law : ∀ x0 x1 x2 x3 x4 x5 x6 x7 x8 x9 x10, (Eq (k_regP x1 x2 x3 x4 x0 x5 x6 x7 x8 x9 x10) (regP x1 x2 x3 x4 x0 x5 x6 x7 x8 x9 x10)) := by
  intro t
  induction t with
  | nil  =>
    intro z0 z1 z2 z3 z4 z5 z6 z7 z8 z9
    show ((fun (_ : Program) (_ : Run) (_ : t161) (_ : Nat) (_ : Nat) (_ : t1370) (_ : t1371) (_ : Nat) (_ : t14) (x9 : S) => (@S.rec (fun (_ : S) => t164) (fun (_ : t46) (_ : Nat) (x12 : Nat) (_ : Nat) => (some x12)) x9)) z0 z1 z2 z3 z4 z5 z6 z7 z8 z9) = _
    conv => rhs; rw [Ev.regP.eq_def]
    all_goals kernel_rfl
  | cons y0 y1 ih0 =>
    intro z0 z1 z2 z3 z4 z5 z6 z7 z8 z9
    have e0 : (fun (x0 : Program) (x1 : Run) (x2 : t161) (x3 : Nat) (x4 : Nat) (x5 : t1370) (x6 : t1371) (x7 : Nat) (x8 : t14) (x9 : S) => (k_regP x0 x1 x2 x3 y1 x4 x5 x6 x7 x8 x9)) = (fun (x0 : Program) (x1 : Run) (x2 : t161) (x3 : Nat) (x4 : Nat) (x5 : t1370) (x6 : t1371) (x7 : Nat) (x8 : t14) (x9 : S) => (regP x0 x1 x2 x3 y1 x4 x5 x6 x7 x8 x9)) := by
      funext z0 z1 z2 z3 z4 z5 z6 z7 z8 z9; exact ih0 z0 z1 z2 z3 z4 z5 z6 z7 z8 z9
    show ((fun (x0 : Oper) (_ : t161) (x2 : t1478) (x3 : Program) (x4 : Run) (x5 : t161) (x6 : Nat) (x7 : Nat) (x8 : t1370) (x9 : t1371) (x10 : Nat) (x11 : t14) (x12 : S) => (l538 x8 x3 x4 x5 x6 x7 x9 x10 x11 x12 x0 x2)) y0 y1 (fun (x0 : Program) (x1 : Run) (x2 : t161) (x3 : Nat) (x4 : Nat) (x5 : t1370) (x6 : t1371) (x7 : Nat) (x8 : t14) (x9 : S) => (k_regP x0 x1 x2 x3 y1 x4 x5 x6 x7 x8 x9)) z0 z1 z2 z3 z4 z5 z6 z7 z8 z9) = _
    rw [e0]
    conv => rhs; rw [Ev.regP.eq_def]
    try simp only [l530_eq, l534_eq, l538_eq, l536_eq, l529_eq, l537_eq, l532_eq, l528_eq, l533_eq, l531_eq]
    try rw [k_fN_Nat_eq]
    try rw [k_putE_eq]
    try rw [k_apart_eq]
    try rw [k_stepOp_eq]
    try rw [k_isDefer_eq]
    try rw [k_guardV_eq]
    all_goals kernel_rfl
theorem k_regP_eq : @k_regP = regP := by
  funext a0 a1 a2 a3 a4 a5 a6 a7 a8 a9 a10; exact k_regP_law a4 a0 a1 a2 a3 a5 a6 a7 a8 a9 a10
abbrev t1597:=Nat → t1411
abbrev t1598:=t46 → t1597
abbrev t1599:=t1370 → t1598
abbrev t1600:=t164 → t1599
abbrev t1601:=t141 → t1600
abbrev t1602:=t14 → t1601
abbrev t1603:=Nat → t1602
abbrev t1604:=t161 → t1603
abbrev t1605:=t1371 → t1604
abbrev t1606:=Nat → t1605
abbrev t1607:=t161 → t1606
abbrev t1608:=Run → t1607
abbrev t1609:=Program → t1608
abbrev t1610:=Bool → t1609
def l527 : t1610 := (λx0=>(@Bool.rec (λ_=>t1609) (λ_ _ _ _ _ _ _ _ _ _ _ _ _ _ _ _ _ _ _ _=>none) (λx1 x2 x3 x4 x5 x6 x7 x8 x9 x10 x11 x12 x13 x14 x15 x16 x17 x18 x19 x20=>(k_fN_433 (Nat.lor x14 x19) (λx21=>(k_fN_433 (Nat.lor x15 x20) (λx22=>(l526 (k_regP x1 x2 x3 x4 x6 (Nat.add x4 (nat_lit 1)) x11 ((Lg.mk x4 x19 x20) :: x5) x7 x8 (S.mk x12 x13 x21 x15)) x3 x7 x8 x9 x10 x16 x17 x18 x22)))))) x0))
theorem l527_eq : ∀ x0 x1 x2 x3 x4 x5 x6 x7 x8 x9 x10 x11 x12 x13 x14 x15 x16 x17 x18 x19 x20, (Eq (l527 x0 x1 x2 x3 x4 x5 x6 x7 x8 x9 x10 x11 x12 x13 x14 x15 x16 x17 x18 x19 x20) (@Bool.rec (λ_=>t151) none (k_fN_433 (Nat.lor x14 x19) (λx21=>(k_fN_433 (Nat.lor x15 x20) (λx22=>(l526 (k_regP x1 x2 x3 x4 x6 (Nat.add x4 (nat_lit 1)) x11 ((Lg.mk x4 x19 x20) :: x5) x7 x8 (S.mk x12 x13 x21 x15)) x3 x7 x8 x9 x10 x16 x17 x18 x22))))) x0)) := by intro t; cases t <;> (intros; rfl)
def k_idle : t1432 := (λx0 x1=>(@List.rec Lg (λ_=>t162) (λ_=>Bool.true) (λx2 _ x4 x5=>(@Lg.rec (λ_=>Bool) (λx6 _ x8=>(@Bool.rec (λ_=>Bool) Bool.false (x4 x5) (@Bool.rec (λ_=>Bool) (Nat.beq x8 (nat_lit 0)) Bool.true (Nat.testBit x5 x6)))) x2)) x1 x0))
theorem k_idle_law : ∀ x0 x1, (Eq (k_idle x1 x0) (idle x1 x0)) := by
  intro t
  induction t with
  | nil  =>
    intro z0
    show ((fun (_ : Nat) => Bool.true) z0) = _
    conv => rhs; rw [Ev.idle.eq_def]
    all_goals kernel_rfl
  | cons y0 y1 ih0 =>
    intro z0
    have e0 : (fun (x0 : Nat) => (k_idle x0 y1)) = (fun (x0 : Nat) => (idle x0 y1)) := by
      funext z0; exact ih0 z0
    show ((fun (x0 : Lg) (_ : t1371) (x2 : t162) (x3 : Nat) => (@Lg.rec (fun (_ : Lg) => Bool) (fun (x4 : Nat) (_ : Nat) (x6 : Nat) => (@Bool.rec (fun (_ : Bool) => Bool) Bool.false (x2 x3) (@Bool.rec (fun (_ : Bool) => Bool) (Nat.beq x6 (nat_lit 0)) Bool.true (Nat.testBit x3 x4)))) x0)) y0 y1 (fun (x0 : Nat) => (k_idle x0 y1)) z0) = _
    rw [e0]
    conv => rhs; rw [Ev.idle.eq_def]
    all_goals kernel_rfl
theorem k_idle_eq : @k_idle = idle := by
  funext a0 a1; exact k_idle_law a1 a0
abbrev t1611:=Nat → t1437
abbrev t1612:=t46 → t1611
abbrev t1613:=t1370 → t1612
abbrev t1614:=Nat → t1613
abbrev t1615:=t164 → t1614
abbrev t1616:=t141 → t1615
abbrev t1617:=t14 → t1616
abbrev t1618:=Nat → t1617
abbrev t1619:=t161 → t1618
abbrev t1620:=t1371 → t1619
abbrev t1621:=Nat → t1620
abbrev t1622:=t161 → t1621
abbrev t1623:=Run → t1622
abbrev t1624:=Program → t1623
abbrev t1625:=S → t1624
def l539 : t1625 := (λx0=>(@S.rec (λ_=>t1624) (λx1 x2 x3 x4 x5 x6 x7 x8 x9 x10 x11 x12 x13 x14 x15 x16 x17 x18 x19 x20 x21=>(l527 (@Bool.rec (λ_=>Bool) Bool.false (k_idle x15 x9) (k_apart x15 x3 x4 x9)) x5 x6 x7 x8 x9 x10 x11 x12 x13 x14 x16 x17 x18 x19 x20 x21 x1 x2 x3 x4)) x0))
theorem l539_eq : ∀ x0 x1 x2 x3 x4 x5 x6 x7 x8 x9 x10 x11 x12 x13 x14 x15 x16 x17, (Eq (l539 x0 x1 x2 x3 x4 x5 x6 x7 x8 x9 x10 x11 x12 x13 x14 x15 x16 x17) (@S.rec (λ_=>t151) (λx18 x19 x20 x21=>(l527 (@Bool.rec (λ_=>Bool) Bool.false (k_idle x11 x5) (k_apart x11 x20 x21 x5)) x1 x2 x3 x4 x5 x6 x7 x8 x9 x10 x12 x13 x14 x15 x16 x17 x18 x19 x20 x21)) x0)) := by intro t; cases t <;> (intros; rfl)
abbrev t1626:=t46 → t1390
abbrev t1627:=t161 → t1626
abbrev t1628:=Nat → t1627
abbrev t1629:=Nat → t1628
abbrev t1630:=t1370 → t1629
abbrev t1631:=Nat → t1630
abbrev t1632:=t164 → t1631
abbrev t1633:=t141 → t1632
abbrev t1634:=t14 → t1633
abbrev t1635:=Nat → t1634
abbrev t1636:=t1377 → t1635
abbrev t1637:=Oper → t1636
abbrev t1638:=t1371 → t1637
abbrev t1639:=Nat → t1638
abbrev t1640:=t161 → t1639
abbrev t1641:=Run → t1640
abbrev t1642:=Program → t1641
abbrev t1643:=Ret → t1642
def l540 : t1643 := (λx0=>(@Ret.rec (λ_=>t1642) (λx1 x2 x3 x4 x5 x6 x7 x8 x9 x10 x11 x12 x13 x14 x15 x16 x17 _ _ _=>(l523 x2 x3 x4 x5 x6 x7 x8 x9 x10 x11 x12 x13 x14 x15 x16 x17 x1)) (λx1 x2 x3 x4 x5 x6 x7 _ _ x10 x11 x12 x13 x14 x15 x16 x17 x18 x19 x20=>(l539 x2 x3 x4 x5 x6 x7 x18 x10 x11 x12 x13 x14 x15 x19 x20 x16 x17 x1)) x0))
theorem l540_eq : ∀ x0 x1 x2 x3 x4 x5 x6 x7 x8 x9 x10 x11 x12 x13 x14 x15 x16 x17 x18, (Eq (l540 x0 x1 x2 x3 x4 x5 x6 x7 x8 x9 x10 x11 x12 x13 x14 x15 x16 x17 x18) (@Ret.rec (λ_=>t151) (λx19 x20=>(l523 x20 x1 x2 x3 x4 x5 x6 x7 x8 x9 x10 x11 x12 x13 x14 x15 x19)) (λx19 x20=>(l539 x20 x1 x2 x3 x4 x5 x16 x8 x9 x10 x11 x12 x13 x17 x18 x14 x15 x19)) x0)) := by intro t; cases t <;> (intros; rfl)
abbrev t1644:=t1370 → t1395
abbrev t1645:=Nat → t1644
abbrev t1646:=t164 → t1645
abbrev t1647:=t141 → t1646
abbrev t1648:=t14 → t1647
abbrev t1649:=Nat → t1648
abbrev t1650:=t1377 → t1649
abbrev t1651:=t161 → t1650
abbrev t1652:=Oper → t1651
abbrev t1653:=t1371 → t1652
abbrev t1654:=Nat → t1653
abbrev t1655:=t161 → t1654
abbrev t1656:=Run → t1655
abbrev t1657:=Program → t1656
abbrev t1658:=t4 → t1657
def l541 : t1658 := (λx0=>(@Option.rec Ret (λ_=>t1657) (λ_ _ _ _ _ _ _ _ _ _ _ _ _ _ _ _ _ _=>none) (λx1 x2 x3 x4 x5 x6 x7 x8 x9 x10 x11 x12 x13 x14 x15 x16 x17 x18 x19=>(l540 x1 x2 x3 x4 x5 x6 x7 x9 x10 x11 x12 x13 x14 x15 x18 x19 x8 x16 x17)) x0))
theorem l541_eq : ∀ x0 x1 x2 x3 x4 x5 x6 x7 x8 x9 x10 x11 x12 x13 x14 x15 x16 x17 x18, (Eq (l541 x0 x1 x2 x3 x4 x5 x6 x7 x8 x9 x10 x11 x12 x13 x14 x15 x16 x17 x18) (@methV._sparseCasesOn_2 Ret (λ_=>t151) x0 (λx19=>(l540 x19 x1 x2 x3 x4 x5 x6 x8 x9 x10 x11 x12 x13 x14 x17 x18 x7 x15 x16)) (λ_=>none))) := by intro t; cases t <;> (intros; rfl)
abbrev t1659:=Nat → t1378
abbrev t1660:=t164 → t1659
abbrev t1661:=t141 → t1660
abbrev t1662:=t14 → t1661
abbrev t1663:=Nat → t1662
abbrev t1664:=t1377 → t1663
abbrev t1665:=t161 → t1664
abbrev t1666:=Oper → t1665
abbrev t1667:=t1371 → t1666
abbrev t1668:=Nat → t1667
abbrev t1669:=t161 → t1668
abbrev t1670:=Run → t1669
abbrev t1671:=Program → t1670
abbrev t1672:=S → t1671
def l542 : t1672 := (λx0=>(@S.rec (λ_=>t1671) (λx1 x2 x3 x4 x5 x6 x7 x8 x9 x10 x11 x12 x13 x14 x15 x16 x17 x18=>(l541 (k_stepOp' x5 x6 x14 x10 (S.mk x1 x2 (nat_lit 0) (nat_lit 0))) x5 x6 x7 x8 x9 x10 x11 x12 x13 x14 x15 x16 x17 x18 x1 x2 x3 x4)) x0))
theorem l542_eq : ∀ x0 x1 x2 x3 x4 x5 x6 x7 x8 x9 x10 x11 x12 x13 x14, (Eq (l542 x0 x1 x2 x3 x4 x5 x6 x7 x8 x9 x10 x11 x12 x13 x14) (@S.rec (λ_=>t151) (λx15 x16 x17 x18=>(l541 (k_stepOp' x1 x2 x10 x6 (S.mk x15 x16 (nat_lit 0) (nat_lit 0))) x1 x2 x3 x4 x5 x6 x7 x8 x9 x10 x11 x12 x13 x14 x15 x16 x17 x18)) x0)) := by intro t; cases t <;> (intros; rfl)
abbrev t1673:=S → t1666
abbrev t1674:=t1371 → t1673
abbrev t1675:=Nat → t1674
abbrev t1676:=t161 → t1675
abbrev t1677:=Run → t1676
abbrev t1678:=Program → t1677
abbrev t1679:=Bool → t1678
def l543 : t1679 := (λx0=>(@Bool.rec (λ_=>t1678) (λx1 x2 x3 x4 x5 x6 x7 x8 x9 x10 x11 x12 x13 x14 x15=>(l542 x6 x1 x2 x3 x4 x5 x7 x8 x9 x10 x11 x12 x13 x14 x15)) (λ_ _ _ _ _ _ _ _ _ _ _ _ _ _ _=>none) x0))
theorem l543_eq : ∀ x0 x1 x2 x3 x4 x5 x6 x7 x8 x9 x10 x11 x12 x13 x14 x15, (Eq (l543 x0 x1 x2 x3 x4 x5 x6 x7 x8 x9 x10 x11 x12 x13 x14 x15) (@Bool.rec (λ_=>t151) (l542 x6 x1 x2 x3 x4 x5 x7 x8 x9 x10 x11 x12 x13 x14 x15) none x0)) := by intro t; cases t <;> (intros; rfl)
abbrev t1680:=t161 → t1390
abbrev t1681:=t1370 → t1680
abbrev t1682:=t164 → t1681
abbrev t1683:=t141 → t1682
abbrev t1684:=t14 → t1683
abbrev t1685:=Nat → t1684
abbrev t1686:=t1377 → t1685
abbrev t1687:=Oper → t1686
abbrev t1688:=S → t1687
abbrev t1689:=t1371 → t1688
abbrev t1690:=Nat → t1689
abbrev t1691:=t161 → t1690
abbrev t1692:=Run → t1691
abbrev t1693:=Program → t1692
abbrev t1694:=Bool → t1693
def l544 : t1694 := (λx0=>(@Bool.rec (λ_=>t1693) (λx1 x2 x3 x4 x5 x6 x7 x8 x9 x10 x11 x12 x13 _ _=>(l520 (k_putE x9 (Oper.dst x7) (CV.tup []) x10) x1 x2 x3 x4 x5 x6 x8 x9 x11 x12 x13)) (λx1 x2 x3 x4 x5 x6 x7 x8 x9 x10 x11 x12 x13 x14 x15=>(l543 (k_isDefer (Oper.op x7)) x1 x2 x3 x4 x5 x6 x7 x14 x8 x9 x10 x11 x12 x15 x13)) x0))
theorem l544_eq : ∀ x0 x1 x2 x3 x4 x5 x6 x7 x8 x9 x10 x11 x12 x13 x14 x15, (Eq (l544 x0 x1 x2 x3 x4 x5 x6 x7 x8 x9 x10 x11 x12 x13 x14 x15) (@Bool.rec (λ_=>t151) (l520 (k_putE x9 (Oper.dst x7) (CV.tup []) x10) x1 x2 x3 x4 x5 x6 x8 x9 x11 x12 x13) (l543 (k_isDefer (Oper.op x7)) x1 x2 x3 x4 x5 x6 x7 x14 x8 x9 x10 x11 x12 x15 x13) x0)) := by intro t; cases t <;> (intros; rfl)
abbrev t1695:=t369 → t1678
def l545 : t1695 := (λx0=>(@Option.rec Bool (λ_=>t1678) (λ_ _ _ _ _ _ _ _ _ _ _ _ _ _ _=>none) (λx1 x2 x3 x4 x5 x6 x7 x8 x9 x10 x11 x12 x13 x14 x15 x16=>(l544 x1 x2 x3 x4 x5 x6 x7 x8 x10 x11 x12 x13 x14 x16 x9 x15)) x0))
theorem l545_eq : ∀ x0 x1 x2 x3 x4 x5 x6 x7 x8 x9 x10 x11 x12 x13 x14 x15, (Eq (l545 x0 x1 x2 x3 x4 x5 x6 x7 x8 x9 x10 x11 x12 x13 x14 x15) (@Option.rec Bool (λ_=>t151) none (λx16=>(l544 x16 x1 x2 x3 x4 x5 x6 x7 x9 x10 x11 x12 x13 x15 x8 x14)) x0)) := by intro t; cases t <;> (intros; rfl)
abbrev t1696:=t1377 → t1275
abbrev t1697:=t161 → t1696
abbrev t1698:=Oper → t1697
abbrev t1699:=S → t1698
abbrev t1700:=t1371 → t1699
abbrev t1701:=Nat → t1700
abbrev t1702:=t161 → t1701
abbrev t1703:=Run → t1702
abbrev t1704:=Program → t1703
abbrev t1705:=t1370 → t1704
def l546 : t1705 := (λx0=>(@List.rec Nat (λ_=>t1704) (λ_ _ _ _ _ _ _ _ _ _ _ _ _=>none) (λx1 x2 _ x4 x5 x6 x7 x8 x9 x10 x11 x12 x13 x14 x15 x16=>(l545 (k_guardV x6 x14 x10) x4 x5 x6 x7 x8 x9 x10 x11 x12 x13 x14 x15 x16 x1 x2)) x0))
theorem l546_eq : ∀ x0 x1 x2 x3 x4 x5 x6 x7 x8 x9 x10 x11 x12 x13, (Eq (l546 x0 x1 x2 x3 x4 x5 x6 x7 x8 x9 x10 x11 x12 x13) (@List.rec Nat (λ_=>t151) none (λx14 x15 _=>(l545 (k_guardV x3 x11 x7) x1 x2 x3 x4 x5 x6 x7 x8 x9 x10 x11 x12 x13 x14 x15)) x0)) := by intro t; cases t <;> (intros; rfl)
abbrev t1706:=t1377 → t151
abbrev t1707:=t161 → t1706
abbrev t1708:=Oper → t1707
abbrev t1709:=S → t1708
abbrev t1710:=t1371 → t1709
abbrev t1711:=t1370 → t1710
abbrev t1712:=Nat → t1711
abbrev t1713:=t161 → t1712
abbrev t1714:=Run → t1713
abbrev t1715:=Program → t1714
abbrev t1716:=Fr → t1715
def l547 : t1716 := (λx0=>(@Fr.rec (λ_=>t1715) (λx1 x2 x3 x4 x5 x6 x7 x8 x9 x10 x11 x12 x13 x14=>(l546 x9 x5 x6 x7 x8 x10 x11 x12 x13 x14 x1 x2 x3 x4)) x0))
theorem l547_eq : ∀ x0 x1 x2 x3 x4 x5 x6 x7 x8 x9 x10, (Eq (l547 x0 x1 x2 x3 x4 x5 x6 x7 x8 x9 x10) (@Fr.rec (λ_=>t151) (λx11 x12 x13 x14=>(l546 x5 x1 x2 x3 x4 x6 x7 x8 x9 x10 x11 x12 x13 x14)) x0)) := by intro t; cases t <;> (intros; rfl)
abbrev t1717:=t161 → t1375
abbrev t1718:=Run → t1717
abbrev t1719:=Program → t1718
def k_regD : t1719 := (λx0 x1 x2 x3 x4 x5 x6 x7 x8=>(@List.rec Oper (λ_=>t1377) (λ_ _ _ _ _ _ x15 x16=>(some (Ex.normal, (x15, x16)))) (λx9 x10 x11 x12 x13 x14 x15 x16 x17 x18 x19=>(l547 x18 x12 x13 x14 x15 x16 x17 x19 x9 x10 x11)) x3 x0 x1 x2 x4 x5 x6 x7 x8))
theorem k_regD_law : ∀ x0 x1 x2 x3 x4 x5 x6 x7 x8, (Eq (k_regD x1 x2 x3 x0 x4 x5 x6 x7 x8) (regD x1 x2 x3 x0 x4 x5 x6 x7 x8)) := by
  intro t
  induction t with
  | nil  =>
    intro z0 z1 z2 z3 z4 z5 z6 z7
    show ((fun (_ : Program) (_ : Run) (_ : t161) (_ : Nat) (_ : t1370) (_ : t1371) (x6 : Fr) (x7 : S) => (some (Ex.normal, (x6, x7)))) z0 z1 z2 z3 z4 z5 z6 z7) = _
    conv => rhs; rw [Ev.regD.eq_def]
    all_goals kernel_rfl
  | cons y0 y1 ih0 =>
    intro z0 z1 z2 z3 z4 z5 z6 z7
    have e0 : (fun (x0 : Program) (x1 : Run) (x2 : t161) (x3 : Nat) (x4 : t1370) (x5 : t1371) (x6 : Fr) (x7 : S) => (k_regD x0 x1 x2 y1 x3 x4 x5 x6 x7)) = (fun (x0 : Program) (x1 : Run) (x2 : t161) (x3 : Nat) (x4 : t1370) (x5 : t1371) (x6 : Fr) (x7 : S) => (regD x0 x1 x2 y1 x3 x4 x5 x6 x7)) := by
      funext z0 z1 z2 z3 z4 z5 z6 z7; exact ih0 z0 z1 z2 z3 z4 z5 z6 z7
    show ((fun (x0 : Oper) (x1 : t161) (x2 : t1377) (x3 : Program) (x4 : Run) (x5 : t161) (x6 : Nat) (x7 : t1370) (x8 : t1371) (x9 : Fr) (x10 : S) => (l547 x9 x3 x4 x5 x6 x7 x8 x10 x0 x1 x2)) y0 y1 (fun (x0 : Program) (x1 : Run) (x2 : t161) (x3 : Nat) (x4 : t1370) (x5 : t1371) (x6 : Fr) (x7 : S) => (k_regD x0 x1 x2 y1 x3 x4 x5 x6 x7)) z0 z1 z2 z3 z4 z5 z6 z7) = _
    rw [e0]
    conv => rhs; rw [Ev.regD.eq_def]
    try simp only [l521_eq, l541_eq, l544_eq, l527_eq, l543_eq, l522_eq, l545_eq, l542_eq, l547_eq, l526_eq, l546_eq, l525_eq, l523_eq, l540_eq, l520_eq, l539_eq]
    try rw [k_fN_433_eq]
    try rw [k_putE_eq]
    try rw [k_apart_eq]
    try rw [k_wipe_eq]
    try rw [k_regP_eq]
    try rw [k_idle_eq]
    try rw [k_stepOp_eq]
    try rw [k_isDefer_eq]
    try rw [k_guardV_eq]
    all_goals kernel_rfl
theorem k_regD_eq : @k_regD = regD := by
  funext a0 a1 a2 a3 a4 a5 a6 a7 a8; exact k_regD_law a3 a0 a1 a2 a4 a5 a6 a7 a8
abbrev t1720:=List Tm
abbrev t1721:=t1370 → Nat
def k_tmBits : t1721 := (λx0=>(@List.rec Nat (λ_=>Nat) (nat_lit 0) (λx1 _ x3=>(Nat.lor (Nat.shiftLeft (nat_lit 1) x1) x3)) x0))
theorem k_tmBits_law : ∀ x0, (Eq (k_tmBits x0) (tmBits x0)) := by
  intro t
  induction t with
  | nil  =>
    show (nat_lit 0) = _
    conv => rhs; rw [Ev.tmBits.eq_def]
    all_goals kernel_rfl
  | cons y0 y1 ih0 =>
    have e0 : (k_tmBits y1) = (tmBits y1) := by
      exact ih0
    show ((fun (x0 : Nat) (_ : t1370) (x2 : Nat) => (Nat.lor (Nat.shiftLeft (nat_lit 1) x0) x2)) y0 y1 (k_tmBits y1)) = _
    rw [e0]
    conv => rhs; rw [Ev.tmBits.eq_def]
    all_goals kernel_rfl
theorem k_tmBits_eq : @k_tmBits = tmBits := by
  funext a0; exact k_tmBits_law a0
abbrev t1722:=t164 → Nat
def k_dstBit : t1722 := (λx0=>(@Option.rec Nat (λ_=>Nat) (nat_lit 0) (λx1=>((λx2=>(Nat.shiftLeft (nat_lit 1) x2)) x1)) x0))
theorem k_dstBit_eq : @k_dstBit = dstBit := by
  delta k_dstBit dstBit
  all_goals kernel_rfl

abbrev t1723:=t1720 → Bool
abbrev t1724:=t1370 → t1723
abbrev t1725:=Nat → t1724
abbrev t1726:=t161 → t1725
abbrev t1727:=t1370 → Bool
abbrev t1728:=t1726 → t1727
abbrev t1729:=Oper → t1728
abbrev t1730:=t1720 → t1729
abbrev t1731:=Nat → t1730
abbrev t1732:=t161 → t1731
abbrev t1733:=Bool → t1732
def l548 : t1733 := (λx0=>(@Bool.rec (λ_=>t1732) (λ_ _ _ _ _ _=>Bool.false) (λx1 x2 x3 x4 x5 x6=>(x5 x1 (Nat.add x2 (nat_lit 1)) x6 ((Tm.mk x2 (k_tmBits (looks x1 x4)) (k_dstBit (Oper.dst x4))) :: x3))) x0))
theorem l548_eq : ∀ x0 x1 x2 x3 x4 x5 x6, (Eq (l548 x0 x1 x2 x3 x4 x5 x6) (@Bool.rec (λ_=>Bool) Bool.false (x5 x1 (Nat.add x2 (nat_lit 1)) x6 ((Tm.mk x2 (k_tmBits (looks x1 x4)) (k_dstBit (Oper.dst x4))) :: x3)) x0)) := by intro t; cases t <;> (intros; rfl)
abbrev t1734:=Tm → t1429
def l550 : t1734 := (λx0=>(@Tm.rec (λ_=>t1429) (λx1 x2 x3 x4 x5 x6 x7=>(@Bool.rec (λ_=>Bool) Bool.false (x7 x4 x5 x6) (@Bool.rec (λ_=>Bool) (@Bool.rec (λ_=>Bool) Bool.false (Nat.beq (Nat.land x6 x2) (nat_lit 0)) (Nat.beq (Nat.land x3 (Nat.lor x5 x6)) (nat_lit 0))) Bool.true (Nat.testBit x4 x1)))) x0))
theorem l550_eq : ∀ x0 x1 x2 x3 x4, (Eq (l550 x0 x1 x2 x3 x4) (@Tm.rec (λ_=>Bool) (λx5 x6 x7=>(@Bool.rec (λ_=>Bool) Bool.false (x4 x1 x2 x3) (@Bool.rec (λ_=>Bool) (@Bool.rec (λ_=>Bool) Bool.false (Nat.beq (Nat.land x3 x6) (nat_lit 0)) (Nat.beq (Nat.land x7 (Nat.lor x2 x3)) (nat_lit 0))) Bool.true (Nat.testBit x1 x5)))) x0)) := by intro t; cases t <;> (intros; rfl)
abbrev t1735:=Nat → t1723
abbrev t1736:=Nat → t1735
abbrev t1737:=Nat → t1736
def k_tmApart : t1737 := (λx0 x1 x2 x3=>(@List.rec Tm (λ_=>t1425) (λ_ _ _=>Bool.true) (λx4 _ x6 x7 x8 x9=>(l550 x4 x7 x8 x9 x6)) x3 x0 x1 x2))
theorem k_tmApart_law : ∀ x0 x1 x2 x3, (Eq (k_tmApart x1 x2 x3 x0) (tmApart x1 x2 x3 x0)) := by
  intro t
  induction t with
  | nil  =>
    intro z0 z1 z2
    show ((fun (_ : Nat) (_ : Nat) (_ : Nat) => Bool.true) z0 z1 z2) = _
    conv => rhs; rw [Ev.tmApart.eq_def]
    all_goals kernel_rfl
  | cons y0 y1 ih0 =>
    intro z0 z1 z2
    have e0 : (fun (x0 : Nat) (x1 : Nat) (x2 : Nat) => (k_tmApart x0 x1 x2 y1)) = (fun (x0 : Nat) (x1 : Nat) (x2 : Nat) => (tmApart x0 x1 x2 y1)) := by
      funext z0 z1 z2; exact ih0 z0 z1 z2
    show ((fun (x0 : Tm) (_ : t1720) (x2 : t1425) (x3 : Nat) (x4 : Nat) (x5 : Nat) => (l550 x0 x3 x4 x5 x2)) y0 y1 (fun (x0 : Nat) (x1 : Nat) (x2 : Nat) => (k_tmApart x0 x1 x2 y1)) z0 z1 z2) = _
    rw [e0]
    conv => rhs; rw [Ev.tmApart.eq_def]
    try simp only [l550_eq]
    all_goals kernel_rfl
theorem k_tmApart_eq : @k_tmApart = tmApart := by
  funext a0 a1 a2 a3; exact k_tmApart_law a3 a0 a1 a2
abbrev t1738:=t1726 → Bool
abbrev t1739:=Oper → t1738
abbrev t1740:=t1720 → t1739
abbrev t1741:=Nat → t1740
abbrev t1742:=t161 → t1741
abbrev t1743:=t1370 → t1742
def l549 : t1743 := (λx0=>(@List.rec Nat (λ_=>t1742) (λ_ _ _ _ _=>Bool.false) (λx1 x2 _ x4 x5 x6 x7 x8=>(l548 (@Bool.rec (λ_=>Bool) Bool.false (@List.all Nat (deps x7) (λx9=>(k_Nat_blt x9 x5))) (k_tmApart x1 (k_tmBits (looks x4 x7)) (k_dstBit (Oper.dst x7)) x6)) x4 x5 x6 x7 x8 x2)) x0))
theorem l549_eq : ∀ x0 x1 x2 x3 x4 x5, (Eq (l549 x0 x1 x2 x3 x4 x5) (@List.rec Nat (λ_=>Bool) Bool.false (λx6 x7 _=>(l548 (@Bool.rec (λ_=>Bool) Bool.false (@List.all Nat (deps x4) (λx9=>(k_Nat_blt x9 x2))) (k_tmApart x6 (k_tmBits (looks x1 x4)) (k_dstBit (Oper.dst x4)) x3)) x1 x2 x3 x4 x5 x7)) x0)) := by intro t; cases t <;> (intros; rfl)
abbrev t1744:=t161 → t1726
def k_tmOk : t1744 := (λx0 x1 x2 x3 x4=>(@List.rec Oper (λ_=>t1726) (λ_ _ _ _=>Bool.true) (λx5 _ x7 x8 x9 x10 x11=>(l549 x10 x8 x9 x11 x5 x7)) x1 x0 x2 x3 x4))
theorem k_tmOk_law : ∀ x0 x1 x2 x3 x4, (Eq (k_tmOk x1 x0 x2 x3 x4) (tmOk x1 x0 x2 x3 x4)) := by
  intro t
  induction t with
  | nil  =>
    intro z0 z1 z2 z3
    show ((fun (_ : t161) (_ : Nat) (_ : t1370) (_ : t1720) => Bool.true) z0 z1 z2 z3) = _
    conv => rhs; rw [Ev.tmOk.eq_def]
    all_goals kernel_rfl
  | cons y0 y1 ih0 =>
    intro z0 z1 z2 z3
    have e0 : (fun (x0 : t161) (x1 : Nat) (x2 : t1370) (x3 : t1720) => (k_tmOk x0 y1 x1 x2 x3)) = (fun (x0 : t161) (x1 : Nat) (x2 : t1370) (x3 : t1720) => (tmOk x0 y1 x1 x2 x3)) := by
      funext z0 z1 z2 z3; exact ih0 z0 z1 z2 z3
    show ((fun (x0 : Oper) (_ : t161) (x2 : t1726) (x3 : t161) (x4 : Nat) (x5 : t1370) (x6 : t1720) => (l549 x5 x3 x4 x6 x0 x2)) y0 y1 (fun (x0 : t161) (x1 : Nat) (x2 : t1370) (x3 : t1720) => (k_tmOk x0 y1 x1 x2 x3)) z0 z1 z2 z3) = _
    rw [e0]
    conv => rhs; rw [Ev.tmOk.eq_def]
    try simp only [l548_eq, l549_eq]
    try rw [k_dstBit_eq]
    try rw [k_tmBits_eq]
    try rw [k_tmApart_eq]
    try rw [k_Nat_blt_eq]
    all_goals kernel_rfl
theorem k_tmOk_eq : @k_tmOk = tmOk := by
  funext a0 a1 a2 a3 a4; exact k_tmOk_law a1 a0 a2 a3 a4
def k_drawOk : t1153 := (λx0=>(k_tmOk x0 x0 (nat_lit 0) (masks x0 []) []))
theorem k_drawOk_eq : @k_drawOk = drawOk := by
  delta k_drawOk drawOk
  rw [k_tmOk_eq]
  all_goals kernel_rfl

abbrev t1745:=(Array Oper) → t1268
abbrev t1746:=Run → t1745
abbrev t1747:=Program → t1746
abbrev t1748:=Bool → t1747
def l492 : t1748 := (λx0=>(@Bool.rec (λ_=>t1747) (λx1 x2 x3 x4 x5=>(k_regS' x1 x2 (@Array.toList Oper x3) (@Array.toList Oper x3) x4 x5)) (λx1 x2 x3 x4 x5=>(@Bool.rec (λ_=>t151) none (k_regD x1 x2 (@Array.toList Oper x3) (@Array.toList Oper x3) (nat_lit 0) (masks (@Array.toList Oper x3) []) [] x4 x5) (k_drawOk (@Array.toList Oper x3)))) x0))
theorem l492_eq : ∀ x0 x1 x2 x3 x4 x5, (Eq (l492 x0 x1 x2 x3 x4 x5) (@Bool.rec (λ_=>t151) (k_regS' x1 x2 (@Array.toList Oper x3) (@Array.toList Oper x3) x4 x5) (@Bool.rec (λ_=>t151) none (k_regD x1 x2 (@Array.toList Oper x3) (@Array.toList Oper x3) (nat_lit 0) (masks (@Array.toList Oper x3) []) [] x4 x5) (k_drawOk (@Array.toList Oper x3))) x0)) := by intro t; cases t <;> (intros; rfl)
abbrev t1749:=Bool → t1268
abbrev t1750:=(Array Oper) → t1749
abbrev t1751:=Run → t1750
abbrev t1752:=Program → t1751
def k_codeReg : t1752 := (λx0 x1 x2 x3 x4 x5=>(l492 x3 x0 x1 x2 x4 x5))
theorem k_codeReg_eq : @k_codeReg = codeReg := by
  delta k_codeReg codeReg
  simp only [l492_eq]
  rw [k_drawOk_eq, k_regD_eq, k_regS_eq]
  all_goals kernel_rfl

abbrev t1753:=Ex → t151
abbrev t1754:=t147 → t1753
abbrev t1755:=Code → t1754
abbrev t1756:=Run → t1755
abbrev t1757:=Ex → t1756
def l551 : t1757 := (λx0=>(@Ex.rec (λ_=>t1756) (λx1 x2 x3 _=>(@Prod.rec Fr S (λ_=>t151) (λx5 x6=>((λx7 x8=>(Run.code x1 x2 x7 x8)) x5 x6)) x3)) (λ_ _ _ x4 x5=>(some (x5, x4))) (λ_ _ x3 x4=>(some (x4, x3))) (λ_ _ _ x4 x5=>(some (x5, x4))) x0))
theorem l551_eq : ∀ x0 x1 x2 x3 x4, (Eq (l551 x0 x1 x2 x3 x4) (@codeSeq._sparseCasesOn_1 (λ_=>t151) x0 (@Prod.rec Fr S (λ_=>t151) (λx5 x6=>((λx7 x8=>(Run.code x1 x2 x7 x8)) x5 x6)) x3) (λ_=>(some (x4, x3))))) := by intro t; cases t <;> (intros; rfl)
abbrev t1758:=Code → t151
abbrev t1759:=S → t1758
abbrev t1760:=Fr → t1759
abbrev t1761:=Code → t1760
abbrev t1762:=Run → t1761
abbrev t1763:=t151 → t1762
def l552 : t1763 := (λx0=>(@Option.rec t148 (λ_=>t1762) (λx1 x2 x3 x4 _=>(Run.code x1 x2 x3 x4)) (λx1 x2 _ _ _ x6=>(@Prod.rec Ex t147 (λ_=>t151) (λx7 x8=>(l551 x7 x2 x6 x8 x7)) x1)) x0))
theorem l552_eq : ∀ x0 x1 x2 x3 x4 x5, (Eq (l552 x0 x1 x2 x3 x4 x5) (@stepC._sparseCasesOn_1 t148 (λ_=>t151) x0 (λx6=>(@Prod.rec Ex t147 (λ_=>t151) (λx7 x8=>(l551 x7 x1 x5 x8 x7)) x6)) (λ_=>(Run.code x1 x2 x3 x4)))) := by intro t; cases t <;> (intros; rfl)
abbrev t1764:=Code → t1268
abbrev t1765:=Code → t1764
abbrev t1766:=Run → t1765
def k_codeSeq : t1766 := (λx0 x1 x2 x3 x4=>(l552 (Run.code x0 x1 x3 x4) x0 x1 x3 x4 x2))
theorem k_codeSeq_eq : @k_codeSeq = codeSeq := by
  delta k_codeSeq codeSeq
  simp only [l551_eq, l552_eq]
  all_goals kernel_rfl

abbrev t1767:=Value → t1766
def l553 : t1767 := (λx0=>(@Value.rec (λ_=>t1766) (λ_=>PUnit.{1}) (λ_=>PUnit.{1}) (λx1 x2 x3 x4 x5 x6=>(@Bool.rec (λ_=>t151) (Run.code x2 x4 x5 x6) (Run.code x2 x3 x5 x6) x1)) (λ_ _ _ _ _ _ _=>none) (λ_ _ _ _ _ _ _=>none) (λ_ _ _ _ _ _ _ _=>none) (λ_ _ _ _ _ _=>none) (λ_ _ _ _ _ _=>none) (λ_ _ _ _ _ _ _ _=>none) (λ_ _ _ _ _ _=>none) (λ_ _ _ _ _ _=>none) (λ_ _ _ _ _ _ _ _ _ _=>none) (λ_ _ _ _ _=>none) (λ_ _ _ _ _ _ _ _=>none) (λ_ _ _ _ _=>none) (λ_ _ _ _ _ _ _=>none) (λ_ _ _ _ _ _ _=>none) (λ_ _=>PUnit.unit.{1}) PUnit.unit.{1} (λ_ _ _ _=>PUnit.unit.{1}) x0))
theorem l553_eq : ∀ x0 x1 x2 x3 x4 x5, (Eq (l553 x0 x1 x2 x3 x4 x5) (@codeCond._sparseCasesOn_2 (λ_=>t151) x0 (λx6=>(@Bool.rec (λ_=>t151) (Run.code x1 x3 x4 x5) (Run.code x1 x2 x4 x5) x6)) (λ_=>none))) := by intro t; cases t <;> (intros; rfl)
abbrev t1768:=CV → t1766
def l554 : t1768 := (λx0=>(@CV.rec (λ_=>t1766) (λ_=>PUnit.{1}) (λ_ _ _ _ _=>none) (λx1 x2 x3 x4 x5 x6=>(l553 x1 x2 x3 x4 x5 x6)) (λ_ _ _ _ _ _ _=>none) (λ_ _ _ _ _ _ _ _ _ _=>none) (λ_ _ _ _ _=>none) (λ_ _ _ _ _ _=>none) (λ_ _ _ _ _ _ _=>none) (λ_ _ _ _ _ _ _=>none) (λ_ _ _ _ _ _ _ _ _ _=>none) (λ_ _ _ _ _ _=>none) (λ_ _ _ _ _ _ _ _=>none) PUnit.unit.{1} (λ_ _ _ _=>PUnit.unit.{1}) x0))
theorem l554_eq : ∀ x0 x1 x2 x3 x4 x5, (Eq (l554 x0 x1 x2 x3 x4 x5) (@codeCond._sparseCasesOn_1 (λ_=>t151) x0 (λx6=>(l553 x6 x1 x2 x3 x4 x5)) (λ_=>none))) := by intro t; cases t <;> (intros; rfl)
abbrev t1769:=t81 → t1766
def l555 : t1769 := (λx0=>(@Option.rec CV (λ_=>t1766) (λ_ _ _ _ _=>none) (λx1 x2 x3 x4 x5 x6=>(l554 x1 x2 x3 x4 x5 x6)) x0))
theorem l555_eq : ∀ x0 x1 x2 x3 x4 x5, (Eq (l555 x0 x1 x2 x3 x4 x5) (@stepC._sparseCasesOn_1 CV (λ_=>t151) x0 (λx6=>(l554 x6 x1 x2 x3 x4 x5)) (λ_=>none))) := by intro t; cases t <;> (intros; rfl)
abbrev t1770:=Operand → t1765
abbrev t1771:=Run → t1770
def k_codeCond : t1771 := (λx0 x1 x2 x3 x4 x5=>(l555 (k_ev (Fr.env x4) x1) x0 x2 x3 x4 x5))
theorem k_codeCond_eq : @k_codeCond = codeCond := by
  delta k_codeCond codeCond
  simp only [l555_eq, l554_eq, l553_eq]
  rw [k_ev_eq]
  all_goals kernel_rfl

abbrev t1772:=t147 → t1393
def l556 : t1772 := (λx0=>(@Prod.rec Fr S (λ_=>t1393) (λx1 x2 x3 x4=>((λx5 x6 x7=>(@Bool.rec (λ_=>t151) (some ((Ex.exit x5), (x6, x7))) (some (Ex.normal, (x6, x7))) (Nat.beq x5 x3))) x4 x1 x2)) x0))
theorem l556_eq : ∀ x0 x1 x2, (Eq (l556 x0 x1 x2) (@Prod.rec Fr S (λ_=>t151) (λx3 x4=>((λx5 x6 x7=>(@Bool.rec (λ_=>t151) (some ((Ex.exit x5), (x6, x7))) (some (Ex.normal, (x6, x7))) (Nat.beq x5 x1))) x2 x3 x4)) x0)) := by intro t; cases t <;> (intros; rfl)
abbrev t1773:=t147 → t1390
abbrev t1774:=Ex → t1773
abbrev t1775:=Ex → t1774
def l557 : t1775 := (λx0=>(@Ex.rec (λ_=>t1774) (λx1 x2 _=>(some (x1, x2))) (λx1 _ x3 x4=>(l556 x3 x4 x1)) (λx1 x2 _=>(some (x1, x2))) (λ_ x2 x3 _=>(some (x2, x3))) x0))
theorem l557_eq : ∀ x0 x1 x2 x3, (Eq (l557 x0 x1 x2 x3) (@codeBlock._sparseCasesOn_1 (λ_=>t151) x0 (λx4=>(l556 x2 x3 x4)) (λ_=>(some (x1, x2))))) := by intro t; cases t <;> (intros; rfl)
abbrev t1776:=S → t1390
abbrev t1777:=Fr → t1776
abbrev t1778:=Code → t1777
abbrev t1779:=Run → t1778
abbrev t1780:=t151 → t1779
def l558 : t1780 := (λx0=>(@Option.rec t148 (λ_=>t1779) (λx1 x2 x3 x4 _=>(Run.code x1 x2 x3 x4)) (λx1 _ _ _ _ x6=>(@Prod.rec Ex t147 (λ_=>t151) (λx7 x8=>(l557 x7 x7 x8 x6)) x1)) x0))
theorem l558_eq : ∀ x0 x1 x2 x3 x4 x5, (Eq (l558 x0 x1 x2 x3 x4 x5) (@stepC._sparseCasesOn_1 t148 (λ_=>t151) x0 (λx6=>(@Prod.rec Ex t147 (λ_=>t151) (λx7 x8=>(l557 x7 x7 x8 x5)) x6)) (λ_=>(Run.code x1 x2 x3 x4)))) := by intro t; cases t <;> (intros; rfl)
abbrev t1781:=Nat → t1764
abbrev t1782:=Run → t1781
def k_codeBlock : t1782 := (λx0 x1 x2 x3 x4=>(l558 (Run.code x0 x2 x3 x4) x0 x2 x3 x4 x1))
theorem k_codeBlock_eq : @k_codeBlock = codeBlock := by
  delta k_codeBlock codeBlock
  simp only [l557_eq, l556_eq, l558_eq]
  all_goals kernel_rfl

def l559 : t1757 := (λx0=>(@Ex.rec (λ_=>t1756) (λx1 x2 x3 _=>(@Prod.rec Fr S (λ_=>t151) (λx5 x6=>((λx7 x8=>(Run.code x1 (Code.loop x2) x7 x8)) x5 x6)) x3)) (λ_ _ _ x4 x5=>(some (x5, x4))) (λ_ _ x3 x4=>(some (x4, x3))) (λ_ _ _ x4 x5=>(some (x5, x4))) x0))
theorem l559_eq : ∀ x0 x1 x2 x3 x4, (Eq (l559 x0 x1 x2 x3 x4) (@codeSeq._sparseCasesOn_1 (λ_=>t151) x0 (@Prod.rec Fr S (λ_=>t151) (λx5 x6=>((λx7 x8=>(Run.code x1 (Code.loop x2) x7 x8)) x5 x6)) x3) (λ_=>(some (x4, x3))))) := by intro t; cases t <;> (intros; rfl)
abbrev t1783:=Run → t1764
abbrev t1784:=t151 → t1783
def l560 : t1784 := (λx0=>(@Option.rec t148 (λ_=>t1783) (λx1 x2 x3 x4=>(Run.code x1 x2 x3 x4)) (λx1 x2 x3 _ _=>(@Prod.rec Ex t147 (λ_=>t151) (λx6 x7=>(l559 x6 x2 x3 x7 x6)) x1)) x0))
theorem l560_eq : ∀ x0 x1 x2 x3 x4, (Eq (l560 x0 x1 x2 x3 x4) (@stepC._sparseCasesOn_1 t148 (λ_=>t151) x0 (λx5=>(@Prod.rec Ex t147 (λ_=>t151) (λx6 x7=>(l559 x6 x1 x2 x7 x6)) x5)) (λ_=>(Run.code x1 x2 x3 x4)))) := by intro t; cases t <;> (intros; rfl)
def k_codeLoop : t1783 := (λx0 x1 x2 x3=>(l560 (Run.code x0 x1 x2 x3) x0 x1 x2 x3))
theorem k_codeLoop_eq : @k_codeLoop = codeLoop := by
  delta k_codeLoop codeLoop
  simp only [l560_eq, l559_eq]
  all_goals kernel_rfl

abbrev t1785:=t1267 → t1395
abbrev t1786:=t44 → t1785
abbrev t1787:=Nat → t1786
abbrev t1788:=t44 → t1787
def l562 : t1788 := (λx0=>(@Option.rec CO (λ_=>t1787) (λ_ _ _ _ _ _ _=>none) (λx1 x2 x3 x4 x5 x6 x7 x8=>((λ_=>(@Option.rec t46 (λ_=>t151) none (λx10=>((λx11=>(k_fN_433 (Nat.lor x8 (Nat.shiftLeft (nat_lit 1) x2)) (λx12=>(x4 (S.mk x11 x6 x7 x12))))) x10)) (setCO (nat_lit 24) x5 x2 x3))) x1)) x0))
theorem l562_eq : ∀ x0 x1 x2 x3 x4 x5 x6 x7, (Eq (l562 x0 x1 x2 x3 x4 x5 x6 x7) (@Option.rec CO (λ_=>t151) none (λx8=>((λ_=>(@Option.rec t46 (λ_=>t151) none (λx10=>((λx11=>(k_fN_433 (Nat.lor x7 (Nat.shiftLeft (nat_lit 1) x1)) (λx12=>(x3 (S.mk x11 x5 x6 x12))))) x10)) (setCO (nat_lit 24) x4 x1 x2))) x8)) x0)) := by intro t; cases t <;> (intros; rfl)
abbrev t1789:=t1267 → t151
abbrev t1790:=t44 → t1789
abbrev t1791:=Nat → t1790
abbrev t1792:=S → t1791
def l563 : t1792 := (λx0=>(@S.rec (λ_=>t1791) (λx1 x2 x3 x4 x5 x6 x7=>((λx8 x9 x10 x11=>(l562 (getCO x8 x5) x5 x6 x7 x8 x9 x10 x11)) x1 x2 x3 x4)) x0))
theorem l563_eq : ∀ x0 x1 x2 x3, (Eq (l563 x0 x1 x2 x3) (@S.rec (λ_=>t151) (λx4 x5 x6 x7=>((λx8 x9 x10 x11=>(l562 (getCO x8 x1) x1 x2 x3 x8 x9 x10 x11)) x4 x5 x6 x7)) x0)) := by intro t; cases t <;> (intros; rfl)
def k_wr_433 : t1792 := (λx0 x1 x2 x3=>(l563 x0 x1 x2 x3))
theorem k_wr_433_eq : @k_wr_433 = (@wr t148) := by
  delta k_wr_433 wr
  simp only [l563_eq, l562_eq]
  rw [setCO_eq, k_fN_433_eq, getCO_eq]
  all_goals kernel_rfl

abbrev t1793:=Code → t1390
abbrev t1794:=Code → t1793
abbrev t1795:=t1370 → t1794
abbrev t1796:=Nat → t1795
abbrev t1797:=t14 → t1796
abbrev t1798:=S → t1797
abbrev t1799:=Nat → t1798
abbrev t1800:=Nat → t1799
abbrev t1801:=t164 → t1800
abbrev t1802:=t141 → t1801
abbrev t1803:=t14 → t1802
abbrev t1804:=Nat → t1803
abbrev t1805:=t1197 → t1804
def l561 : t1805 := (λx0=>(@Option.rec Code (λ_=>t1804) (λx1 x2 x3 x4 x5 x6 x7 x8 x9 x10 x11 x12 x13=>(k_wr_433 x7 x6 (some (CO.loop LoopState.exhausted none x8 x9 x10 x11 x12 x13)) (λx14=>(some (Ex.normal, ((Fr.mk x1 x2 ((SD.mark x5) :: x3) x4), x14)))))) (λ_ _ _ _ _ _ _ _ _ _ _ _ _ _=>none) x0))
theorem l561_eq : ∀ x0 x1 x2 x3 x4 x5 x6 x7 x8 x9 x10 x11 x12 x13, (Eq (l561 x0 x1 x2 x3 x4 x5 x6 x7 x8 x9 x10 x11 x12 x13) (@rangeN._sparseCasesOn_2 Code (λ_=>t151) x0 (k_wr_433 x7 x6 (some (CO.loop LoopState.exhausted none x8 x9 x10 x11 x12 x13)) (λx14=>(some (Ex.normal, ((Fr.mk x1 x2 ((SD.mark x5) :: x3) x4), x14))))) (λ_=>none))) := by intro t; cases t <;> (intros; rfl)
abbrev t1806:=Run → t1804
abbrev t1807:=t1197 → t1806
def l564 : t1807 := (λx0=>(@Option.rec Code (λ_=>t1806) (λ_ _ _ _ _ _ _ _ _ _ _ _ _ _=>none) (λx1 x2 x3 x4 x5 x6 x7 x8 x9 x10 x11 x12 x13 x14 x15=>(k_wr_433 x9 x8 (some (CO.loop LoopState.exhausted (some x1) x10 x11 x12 x13 x14 x15)) (λx16=>(Run.code x2 x1 (Fr.mk x3 x4 ((SD.mark x7) :: x5) x6) x16)))) x0))
theorem l564_eq : ∀ x0 x1 x2 x3 x4 x5 x6 x7 x8 x9 x10 x11 x12 x13 x14, (Eq (l564 x0 x1 x2 x3 x4 x5 x6 x7 x8 x9 x10 x11 x12 x13 x14) (@methV._sparseCasesOn_2 Code (λ_=>t151) x0 (λx15=>(k_wr_433 x8 x7 (some (CO.loop LoopState.exhausted (some x15) x9 x10 x11 x12 x13 x14)) (λx16=>(Run.code x1 x15 (Fr.mk x2 x3 ((SD.mark x6) :: x4) x5) x16)))) (λ_=>none))) := by intro t; cases t <;> (intros; rfl)
abbrev t1808:=Run → t151
abbrev t1809:=Nat → t1808
abbrev t1810:=Code → t1809
abbrev t1811:=Code → t1810
abbrev t1812:=t1370 → t1811
abbrev t1813:=Nat → t1812
abbrev t1814:=t14 → t1813
abbrev t1815:=t1197 → t1814
abbrev t1816:=S → t1815
abbrev t1817:=Nat → t1816
abbrev t1818:=Nat → t1817
abbrev t1819:=t164 → t1818
abbrev t1820:=t141 → t1819
abbrev t1821:=t14 → t1820
abbrev t1822:=Nat → t1821
abbrev t1823:=LoopState → t1822
def l565 : t1823 := (λx0=>(@LoopState.rec (λ_=>t1822) (λx1 x2 x3 x4 x5 x6 x7 x8 x9 x10 x11 x12 x13 x14 _=>(l561 x8 x1 x2 x3 x4 x5 x6 x7 x9 x10 x11 x12 x13 x14)) (λ_ _ _ _ _ _ _ _ _ _ _ _ _ _ _=>none) (λx1 x2 x3 x4 x5 x6 x7 x8 x9 x10 x11 x12 x13 x14 x15=>(l564 x8 x15 x1 x2 x3 x4 x5 x6 x7 x9 x10 x11 x12 x13 x14)) (λ_ _ _ _ _ _ _ _ _ _ _ _ _ _ _=>none) x0))
theorem l565_eq : ∀ x0 x1 x2 x3 x4 x5 x6 x7 x8 x9 x10 x11 x12 x13 x14 x15, (Eq (l565 x0 x1 x2 x3 x4 x5 x6 x7 x8 x9 x10 x11 x12 x13 x14 x15) (@rangeN._sparseCasesOn_1 (λ_=>t151) x0 (l561 x8 x1 x2 x3 x4 x5 x6 x7 x9 x10 x11 x12 x13 x14) (l564 x8 x15 x1 x2 x3 x4 x5 x6 x7 x9 x10 x11 x12 x13 x14) (λ_=>none))) := by intro t; cases t <;> (intros; rfl)
abbrev t1824:=Nat → t1267
abbrev t1825:=Nat → t1824
abbrev t1826:=t164 → t1825
abbrev t1827:=t141 → t1826
abbrev t1828:=t14 → t1827
abbrev t1829:=Nat → t1828
abbrev t1830:=Run → t1829
abbrev t1831:=CO → t1830
def l566 : t1831 := (λx0=>(@CO.rec (λ_=>t1830) (λ_ _ _ _ _ _ _ _ _ _ _=>none) (λ_ _ _ _ _ _ _ _ _ _ _=>none) (λx1 x2 x3 x4 x5 x6 x7 x8 x9 x10 x11 x12 x13 x14 x15 x16=>(l565 x1 x10 x11 x12 x13 x14 x15 x16 x2 x3 x4 x5 x6 x7 x8 x9)) (λ_ _ _ _ _ _ _ _=>none) (λ_ _ _ _ _ _ _ _=>none) x0))
theorem l566_eq : ∀ x0 x1 x2 x3 x4 x5 x6 x7 x8, (Eq (l566 x0 x1 x2 x3 x4 x5 x6 x7 x8) (@roundN._sparseCasesOn_1 (λ_=>t151) x0 (λx9 x10 x11 x12 x13 x14 x15 x16=>(l565 x9 x2 x3 x4 x5 x6 x7 x8 x10 x11 x12 x13 x14 x15 x16 x1)) (λ_=>none))) := by intro t; cases t <;> (intros; rfl)
abbrev t1832:=CO → t1267
abbrev t1833:=t1832 → t1395
abbrev t1834:=Nat → t1833
abbrev t1835:=t44 → t1834
def l568 : t1835 := (λx0=>(@Option.rec CO (λ_=>t1834) (λ_ _ _ _ _ _=>none) (λx1 x2 x3 x4 x5 x6 x7=>((λx8=>(k_fN_433 (Nat.lor x6 (Nat.shiftLeft (nat_lit 1) x2)) (λx9=>(x3 x8 (S.mk x4 x5 x9 x7))))) x1)) x0))
theorem l568_eq : ∀ x0 x1 x2 x3 x4 x5 x6, (Eq (l568 x0 x1 x2 x3 x4 x5 x6) (@Option.rec CO (λ_=>t151) none (λx7=>((λx8=>(k_fN_433 (Nat.lor x5 (Nat.shiftLeft (nat_lit 1) x1)) (λx9=>(x2 x8 (S.mk x3 x4 x9 x6))))) x7)) x0)) := by intro t; cases t <;> (intros; rfl)
abbrev t1836:=t1832 → t151
abbrev t1837:=Nat → t1836
abbrev t1838:=S → t1837
def l569 : t1838 := (λx0=>(@S.rec (λ_=>t1837) (λx1 x2 x3 x4 x5 x6=>((λx7 x8 x9 x10=>(l568 (getCO x7 x5) x5 x6 x7 x8 x9 x10)) x1 x2 x3 x4)) x0))
theorem l569_eq : ∀ x0 x1 x2, (Eq (l569 x0 x1 x2) (@S.rec (λ_=>t151) (λx3 x4 x5 x6=>((λx7 x8 x9 x10=>(l568 (getCO x7 x1) x1 x2 x7 x8 x9 x10)) x3 x4 x5 x6)) x0)) := by intro t; cases t <;> (intros; rfl)
def k_rd_433 : t1838 := (λx0 x1 x2=>(l569 x0 x1 x2))
theorem k_rd_433_eq : @k_rd_433 = (@rd t148) := by
  delta k_rd_433 rd
  simp only [l568_eq, l569_eq]
  rw [k_fN_433_eq, getCO_eq]
  all_goals kernel_rfl

abbrev t1839:=t164 → t1393
abbrev t1840:=t141 → t1839
abbrev t1841:=t14 → t1840
abbrev t1842:=Nat → t1841
abbrev t1843:=Run → t1842
abbrev t1844:=Ret → t1843
def l567 : t1844 := (λx0=>(@Ret.rec (λ_=>t1843) (λx1 x2 x3 x4 x5 x6 x7 x8 x9=>((λ_ x11=>(k_rd_433 x11 x9 (λx12 x13=>(l566 x12 x3 x4 x5 x6 x7 x8 x9 x13)))) x1 x2)) (λx1 x2 _ x4 x5 x6 x7 x8 _=>((λx10 x11=>(some ((Ex.pan x10), ((Fr.mk x4 x5 ((SD.mark x8) :: x6) x7), x11)))) x1 x2)) x0))
theorem l567_eq : ∀ x0 x1 x2 x3 x4 x5 x6 x7, (Eq (l567 x0 x1 x2 x3 x4 x5 x6 x7) (@Ret.rec (λ_=>t151) (λx8 x9=>((λ_ x11=>(k_rd_433 x11 x7 (λx12 x13=>(l566 x12 x1 x2 x3 x4 x5 x6 x7 x13)))) x8 x9)) (λx8 x9=>((λx10 x11=>(some ((Ex.pan x10), ((Fr.mk x2 x3 ((SD.mark x6) :: x4) x5), x11)))) x8 x9)) x0)) := by intro t; cases t <;> (intros; rfl)
abbrev t1845:=FuncId → t1825
abbrev t1846:=t164 → t1845
abbrev t1847:=t141 → t1846
abbrev t1848:=t14 → t1847
abbrev t1849:=Nat → t1848
abbrev t1850:=Run → t1849
abbrev t1851:=t31 → t1850
def l570 : t1851 := (λx0=>(@Option.rec t7 (λ_=>t1850) (λ_ _ _ _ _ _ _ _ _=>none) (λx1 x2 x3 x4 x5 x6 x7 x8 x9 x10=>((λx11=>(@Option.rec Ret (λ_=>t151) none (λx12=>(l567 x12 x2 x3 x4 x5 x6 x8 x9)) (Run.call x2 x7 x11 x10))) x1)) x0))
theorem l570_eq : ∀ x0 x1 x2 x3 x4 x5 x6 x7 x8 x9, (Eq (l570 x0 x1 x2 x3 x4 x5 x6 x7 x8 x9) (@Option.rec t7 (λ_=>t151) none (λx10=>((λx11=>(@Option.rec Ret (λ_=>t151) none (λx12=>(l567 x12 x1 x2 x3 x4 x5 x7 x8)) (Run.call x1 x6 x11 x9))) x10)) x0)) := by intro t; cases t <;> (intros; rfl)
abbrev t1852:=t141 → t1799
abbrev t1853:=t164 → t1852
abbrev t1854:=t14 → t1853
abbrev t1855:=Nat → t1854
abbrev t1856:=t1197 → t1855
def l571 : t1856 := (λx0=>(@Option.rec Code (λ_=>t1855) (λx1 x2 x3 x4 x5 x6 x7 x8 x9 x10 x11 x12=>(k_wr_433 x6 x5 (some (CO.loop LoopState.exhausted none x7 x8 x9 x10 x11 x12)) (λx13=>(some (Ex.normal, ((Fr.mk x1 x2 x4 x3), x13)))))) (λ_ _ _ _ _ _ _ _ _ _ _ _ _=>none) x0))
theorem l571_eq : ∀ x0 x1 x2 x3 x4 x5 x6 x7 x8 x9 x10 x11 x12, (Eq (l571 x0 x1 x2 x3 x4 x5 x6 x7 x8 x9 x10 x11 x12) (@rangeN._sparseCasesOn_2 Code (λ_=>t151) x0 (k_wr_433 x6 x5 (some (CO.loop LoopState.exhausted none x7 x8 x9 x10 x11 x12)) (λx13=>(some (Ex.normal, ((Fr.mk x1 x2 x4 x3), x13))))) (λ_=>none))) := by intro t; cases t <;> (intros; rfl)
abbrev t1857:=Run → t1855
abbrev t1858:=t1197 → t1857
def l572 : t1858 := (λx0=>(@Option.rec Code (λ_=>t1857) (λ_ _ _ _ _ _ _ _ _ _ _ _ _=>none) (λx1 x2 x3 x4 x5 x6 x7 x8 x9 x10 x11 x12 x13 x14=>(k_wr_433 x8 x7 (some (CO.loop LoopState.exhausted (some x1) x9 x10 x11 x12 x13 x14)) (λx15=>(Run.code x2 x1 (Fr.mk x3 x4 x6 x5) x15)))) x0))
theorem l572_eq : ∀ x0 x1 x2 x3 x4 x5 x6 x7 x8 x9 x10 x11 x12 x13, (Eq (l572 x0 x1 x2 x3 x4 x5 x6 x7 x8 x9 x10 x11 x12 x13) (@methV._sparseCasesOn_2 Code (λ_=>t151) x0 (λx14=>(k_wr_433 x7 x6 (some (CO.loop LoopState.exhausted (some x14) x8 x9 x10 x11 x12 x13)) (λx15=>(Run.code x1 x14 (Fr.mk x2 x3 x5 x4) x15)))) (λ_=>none))) := by intro t; cases t <;> (intros; rfl)
abbrev t1859:=t141 → t1817
abbrev t1860:=t164 → t1859
abbrev t1861:=t14 → t1860
abbrev t1862:=Nat → t1861
abbrev t1863:=LoopState → t1862
def l573 : t1863 := (λx0=>(@LoopState.rec (λ_=>t1862) (λx1 x2 x3 x4 x5 x6 x7 x8 x9 x10 x11 x12 x13 _=>(l571 x7 x1 x2 x3 x4 x5 x6 x8 x9 x10 x11 x12 x13)) (λ_ _ _ _ _ _ _ _ _ _ _ _ _ _=>none) (λx1 x2 x3 x4 x5 x6 x7 x8 x9 x10 x11 x12 x13 x14=>(l572 x7 x14 x1 x2 x3 x4 x5 x6 x8 x9 x10 x11 x12 x13)) (λ_ _ _ _ _ _ _ _ _ _ _ _ _ _=>none) x0))
theorem l573_eq : ∀ x0 x1 x2 x3 x4 x5 x6 x7 x8 x9 x10 x11 x12 x13 x14, (Eq (l573 x0 x1 x2 x3 x4 x5 x6 x7 x8 x9 x10 x11 x12 x13 x14) (@rangeN._sparseCasesOn_1 (λ_=>t151) x0 (l571 x7 x1 x2 x3 x4 x5 x6 x8 x9 x10 x11 x12 x13) (l572 x7 x14 x1 x2 x3 x4 x5 x6 x8 x9 x10 x11 x12 x13) (λ_=>none))) := by intro t; cases t <;> (intros; rfl)
abbrev t1864:=t141 → t1824
abbrev t1865:=t164 → t1864
abbrev t1866:=t14 → t1865
abbrev t1867:=Nat → t1866
abbrev t1868:=Run → t1867
abbrev t1869:=CO → t1868
def l574 : t1869 := (λx0=>(@CO.rec (λ_=>t1868) (λ_ _ _ _ _ _ _ _ _ _=>none) (λ_ _ _ _ _ _ _ _ _ _=>none) (λx1 x2 x3 x4 x5 x6 x7 x8 x9 x10 x11 x12 x13 x14 x15=>(l573 x1 x10 x11 x12 x13 x14 x15 x2 x3 x4 x5 x6 x7 x8 x9)) (λ_ _ _ _ _ _ _=>none) (λ_ _ _ _ _ _ _=>none) x0))
theorem l574_eq : ∀ x0 x1 x2 x3 x4 x5 x6 x7, (Eq (l574 x0 x1 x2 x3 x4 x5 x6 x7) (@roundN._sparseCasesOn_1 (λ_=>t151) x0 (λx8 x9 x10 x11 x12 x13 x14 x15=>(l573 x8 x2 x3 x4 x5 x6 x7 x9 x10 x11 x12 x13 x14 x15 x1)) (λ_=>none))) := by intro t; cases t <;> (intros; rfl)
abbrev t1870:=t141 → t1390
abbrev t1871:=t164 → t1870
abbrev t1872:=t14 → t1871
abbrev t1873:=Nat → t1872
abbrev t1874:=Run → t1873
abbrev t1875:=Ret → t1874
def l575 : t1875 := (λx0=>(@Ret.rec (λ_=>t1874) (λx1 x2 x3 x4 x5 x6 x7 x8=>((λ_ x10=>(k_rd_433 x10 x8 (λx11 x12=>(l574 x11 x3 x4 x5 x6 x7 x8 x12)))) x1 x2)) (λx1 x2 _ x4 x5 x6 x7 _=>((λx9 x10=>(some ((Ex.pan x9), ((Fr.mk x4 x5 x7 x6), x10)))) x1 x2)) x0))
theorem l575_eq : ∀ x0 x1 x2 x3 x4 x5 x6, (Eq (l575 x0 x1 x2 x3 x4 x5 x6) (@Ret.rec (λ_=>t151) (λx7 x8=>((λ_ x10=>(k_rd_433 x10 x6 (λx11 x12=>(l574 x11 x1 x2 x3 x4 x5 x6 x12)))) x7 x8)) (λx7 x8=>((λx9 x10=>(some ((Ex.pan x9), ((Fr.mk x2 x3 x5 x4), x10)))) x7 x8)) x0)) := by intro t; cases t <;> (intros; rfl)
abbrev t1876:=FuncId → t1864
abbrev t1877:=t164 → t1876
abbrev t1878:=t14 → t1877
abbrev t1879:=Nat → t1878
abbrev t1880:=Run → t1879
abbrev t1881:=t31 → t1880
def l576 : t1881 := (λx0=>(@Option.rec t7 (λ_=>t1880) (λ_ _ _ _ _ _ _ _=>none) (λx1 x2 x3 x4 x5 x6 x7 x8 x9=>((λx10=>(@Option.rec Ret (λ_=>t151) none (λx11=>(l575 x11 x2 x3 x4 x5 x7 x8)) (Run.call x2 x6 x10 x9))) x1)) x0))
theorem l576_eq : ∀ x0 x1 x2 x3 x4 x5 x6 x7 x8, (Eq (l576 x0 x1 x2 x3 x4 x5 x6 x7 x8) (@Option.rec t7 (λ_=>t151) none (λx9=>((λx10=>(@Option.rec Ret (λ_=>t151) none (λx11=>(l575 x11 x1 x2 x3 x4 x6 x7)) (Run.call x1 x5 x10 x8))) x9)) x0)) := by intro t; cases t <;> (intros; rfl)
abbrev t1882:=t1824 → t1394
abbrev t1883:=t207 → t1882
def l578 : t1883 := (λx0=>(@Option.rec t46 (λ_=>t1882) (λ_ _ _ _=>none) (λx1 x2 x3 x4 x5=>((λx6=>(k_fN_433 (Nat.add x3 (nat_lit 1)) (λx7=>(k_fN_433 (Nat.lor x5 (Nat.shiftLeft (nat_lit 1) x3)) (λx8=>(x2 x3 (S.mk x6 x7 x4 x8))))))) x1)) x0))
theorem l578_eq : ∀ x0 x1 x2 x3 x4, (Eq (l578 x0 x1 x2 x3 x4) (@Option.rec t46 (λ_=>t151) none (λx5=>((λx6=>(k_fN_433 (Nat.add x2 (nat_lit 1)) (λx7=>(k_fN_433 (Nat.lor x4 (Nat.shiftLeft (nat_lit 1) x2)) (λx8=>(x1 x2 (S.mk x6 x7 x3 x8))))))) x5)) x0)) := by intro t; cases t <;> (intros; rfl)
abbrev t1884:=t1824 → t151
abbrev t1885:=CO → t1884
abbrev t1886:=S → t1885
def l579 : t1886 := (λx0=>(@S.rec (λ_=>t1885) (λx1 x2 x3 x4 x5 x6=>((λx7 x8 x9 x10=>(l578 (setCO (nat_lit 24) x7 x8 (some x5)) x6 x8 x9 x10)) x1 x2 x3 x4)) x0))
theorem l579_eq : ∀ x0 x1 x2, (Eq (l579 x0 x1 x2) (@S.rec (λ_=>t151) (λx3 x4 x5 x6=>((λx7 x8 x9 x10=>(l578 (setCO (nat_lit 24) x7 x8 (some x1)) x2 x8 x9 x10)) x3 x4 x5 x6)) x0)) := by intro t; cases t <;> (intros; rfl)
def k_nw_433 : t1886 := (λx0 x1 x2=>(l579 x0 x1 x2))
theorem k_nw_433_eq : @k_nw_433 = (@nw t148) := by
  delta k_nw_433 nw
  simp only [l579_eq, l578_eq]
  rw [k_fN_433_eq, setCO_eq]
  all_goals kernel_rfl

abbrev t1887:=t7 → t1267
abbrev t1888:=t7 → t1887
abbrev t1889:=FuncId → t1888
abbrev t1890:=t164 → t1889
abbrev t1891:=t141 → t1890
abbrev t1892:=t14 → t1891
abbrev t1893:=Nat → t1892
abbrev t1894:=Code → t1893
abbrev t1895:=Code → t1894
abbrev t1896:=t1370 → t1895
abbrev t1897:=Run → t1896
abbrev t1898:=CO → t1897
def l577 : t1898 := (λx0=>(@CO.rec (λ_=>t1897) (λ_ _ _ _ _ _ _ _ _ _ _ _ _ _ _=>none) (λ_ _ _ _ _ _ _ _ _ _ _ _ _ _ _=>none) (λ_ _ _ _ _ _ _ x8 x9 x10 x11 x12 x13 x14 x15 x16 x17 x18 x19 x20=>((λx21 x22 x23=>(k_nw_433 x23 (CO.loop LoopState.ready none x14 x13 x10 x11 x12 x21) (λx24 x25=>(l576 (k_app2 x18 ((CV.yld x24) :: []) x19) x9 x13 x14 x16 x17 x22 x24 x25)))) x8 x15 x20)) (λ_ _ _ _ _ _ _ _ _ _ _ _=>none) (λ_ _ _ _ _ _ _ _ _ _ _ _=>none) x0))
theorem l577_eq : ∀ x0 x1 x2 x3 x4 x5 x6 x7 x8 x9 x10 x11 x12, (Eq (l577 x0 x1 x2 x3 x4 x5 x6 x7 x8 x9 x10 x11 x12) (@roundN._sparseCasesOn_1 (λ_=>t151) x0 (λ_ _ _ _ _ _ _ x20=>((λx21 x22 x23=>(k_nw_433 x23 (CO.loop LoopState.ready none x6 x5 x2 x3 x4 x21) (λx24 x25=>(l576 (k_app2 x10 ((CV.yld x24) :: []) x11) x1 x5 x6 x8 x9 x22 x24 x25)))) x20 x7 x12)) (λ_=>none))) := by intro t; cases t <;> (intros; rfl)
abbrev t1899:=t7 → t151
abbrev t1900:=t7 → t1899
abbrev t1901:=FuncId → t1900
abbrev t1902:=t164 → t1901
abbrev t1903:=t141 → t1902
abbrev t1904:=t14 → t1903
abbrev t1905:=Nat → t1904
abbrev t1906:=S → t1905
abbrev t1907:=Code → t1906
abbrev t1908:=Code → t1907
abbrev t1909:=t1370 → t1908
abbrev t1910:=Run → t1909
abbrev t1911:=t164 → t1910
def l580 : t1911 := (λx0=>(@Option.rec Nat (λ_=>t1910) (λx1 x2 x3 x4 x5 x6 x7 x8 x9 x10 x11 x12=>(k_nw_433 x5 CO.dfr (λx13 x14=>(k_nw_433 x14 (CO.loop LoopState.ready none x7 x6 x2 x3 x4 x13) (λx15 x16=>(l570 (k_app2 x11 ((CV.yld x15) :: []) x12) x1 x6 x7 x8 x9 x10 x13 x15 x16)))))) (λx1 x2 x3 x4 x5 x6 x7 x8 x9 x10 x11 x12 x13=>((λx14=>(k_rd_433 x6 x14 (λx15 x16=>(l577 x15 x2 x3 x4 x5 x7 x8 x9 x10 x11 x12 x13 x16)))) x1)) x0))
theorem l580_eq : ∀ x0 x1 x2 x3 x4 x5 x6 x7 x8 x9 x10 x11 x12, (Eq (l580 x0 x1 x2 x3 x4 x5 x6 x7 x8 x9 x10 x11 x12) (@Option.rec Nat (λ_=>t151) (k_nw_433 x5 CO.dfr (λx13 x14=>(k_nw_433 x14 (CO.loop LoopState.ready none x7 x6 x2 x3 x4 x13) (λx15 x16=>(l570 (k_app2 x11 ((CV.yld x15) :: []) x12) x1 x6 x7 x8 x9 x10 x13 x15 x16))))) (λx13=>((λx14=>(k_rd_433 x5 x14 (λx15 x16=>(l577 x15 x1 x2 x3 x4 x6 x7 x8 x9 x10 x11 x12 x16)))) x13)) x0)) := by intro t; cases t <;> (intros; rfl)
abbrev t1912:=S → t1275
abbrev t1913:=Code → t1912
abbrev t1914:=Code → t1913
abbrev t1915:=t1370 → t1914
abbrev t1916:=Run → t1915
abbrev t1917:=CV → t1916
def l581 : t1917 := (λx0=>(@CV.rec (λ_=>t1916) (λ_=>PUnit.{1}) (λ_ _ _ _ _ _ _ _ _=>none) (λ_ _ _ _ _ _ _ _ _ _=>none) (λ_ _ _ _ _ _ _ _ _ _ _=>none) (λ_ _ _ _ _ _ _ _ _ _ _ _ _ _=>none) (λ_ _ _ _ _ _ _ _ _=>none) (λ_ _ _ _ _ _ _ _ _ _=>none) (λ_ _ _ _ _ _ _ _ _ _ _=>none) (λ_ _ _ _ _ _ _ _ _ _ _=>none) (λx1 x2 x3 _ _ x6 x7 x8 x9 x10 x11 x12 x13 x14=>(l580 x14 x6 x7 x8 x9 x10 x11 x12 x13 x14 x1 x2 x3)) (λ_ _ _ _ _ _ _ _ _ _=>none) (λ_ _ _ _ _ _ _ _ _ _ _ _=>none) PUnit.unit.{1} (λ_ _ _ _=>PUnit.unit.{1}) x0))
theorem l581_eq : ∀ x0 x1 x2 x3 x4 x5 x6 x7 x8 x9, (Eq (l581 x0 x1 x2 x3 x4 x5 x6 x7 x8 x9) (@deferV._sparseCasesOn_1 (λ_=>t151) x0 (λx10 x11 x12=>(l580 x9 x1 x2 x3 x4 x5 x6 x7 x8 x9 x10 x11 x12)) (λ_=>none))) := by intro t; cases t <;> (intros; rfl)
abbrev t1918:=t81 → t1916
def l582 : t1918 := (λx0=>(@Option.rec CV (λ_=>t1916) (λ_ _ _ _ _ _ _ _ _=>none) (λx1 x2 x3 x4 x5 x6 x7 x8 x9 x10=>(l581 x1 x2 x3 x4 x5 x6 x7 x8 x9 x10)) x0))
theorem l582_eq : ∀ x0 x1 x2 x3 x4 x5 x6 x7 x8 x9, (Eq (l582 x0 x1 x2 x3 x4 x5 x6 x7 x8 x9) (@methV._sparseCasesOn_2 CV (λ_=>t151) x0 (λx10=>(l581 x10 x1 x2 x3 x4 x5 x6 x7 x8 x9)) (λ_=>none))) := by intro t; cases t <;> (intros; rfl)
abbrev t1919:=Code → t1267
abbrev t1920:=Code → t1919
abbrev t1921:=t1370 → t1920
abbrev t1922:=Operand → t1921
abbrev t1923:=Run → t1922
abbrev t1924:=Fr → t1923
def l583 : t1924 := (λx0=>(@Fr.rec (λ_=>t1923) (λx1 x2 x3 x4 x5 x6 x7 x8 x9 x10=>((λx11 x12 x13 x14=>(l582 (k_ev x12 x6) x5 x7 x8 x9 x10 x11 x12 x13 x14)) x1 x2 x3 x4)) x0))
theorem l583_eq : ∀ x0 x1 x2 x3 x4 x5 x6, (Eq (l583 x0 x1 x2 x3 x4 x5 x6) (@Fr.rec (λ_=>t151) (λx7 x8 x9 x10=>((λx11 x12 x13 x14=>(l582 (k_ev x12 x2) x1 x3 x4 x5 x6 x11 x12 x13 x14)) x7 x8 x9 x10)) x0)) := by intro t; cases t <;> (intros; rfl)
abbrev t1925:=t1370 → t1765
abbrev t1926:=Operand → t1925
abbrev t1927:=Run → t1926
abbrev t1928:=Program → t1927
def k_rangeN : t1928 := (λ_ x1 x2 x3 x4 x5 x6 x7=>(l583 x6 x1 x2 x3 x4 x5 x7))
theorem k_rangeN_eq : @k_rangeN = rangeN := by
  delta k_rangeN rangeN
  simp only [l573_eq, l582_eq, l583_eq, l565_eq, l571_eq, l564_eq, l566_eq, l570_eq, l567_eq, l575_eq, l572_eq, l577_eq, l561_eq, l576_eq, l580_eq, l574_eq, l581_eq]
  rw [k_wr_433_eq, k_rd_433_eq, k_nw_433_eq, k_app2_eq, k_ev_eq]
  all_goals kernel_rfl

def k_codeScope : t1783 := (λx0 x1 x2 x3=>(@Option.rec Nat (λ_=>t151) (Run.code x0 x1 x2 x3) (λx4=>((λ_=>none) x4)) (Fr.rd x2)))
theorem k_codeScope_eq : @k_codeScope = codeScope := by
  delta k_codeScope codeScope
  all_goals kernel_rfl

abbrev t1929:=Run → t1268
abbrev t1930:=Program → t1929
abbrev t1931:=Code → t1930
def l491 : t1931 := (λx0=>(@Code.rec (λ_=>t1930) (λ_ _ x3 x4=>(some (Ex.normal, (x3, x4)))) (λ_ x2 x3 x4 x5 x6 x7=>(k_codeReg x4 x5 x2 x3 x6 x7)) (λx1 x2 _ _ _ x6 x7 x8=>(k_codeSeq x6 x1 x2 x7 x8)) (λx1 x2 x3 _ _ _ x7 x8 x9=>(k_codeCond x7 x1 x2 x3 x8 x9)) (λx1 x2 _ _ x5 x6 x7=>(k_codeBlock x5 x1 x2 x6 x7)) (λx1 _ _ x4 x5 x6=>(k_codeLoop x4 x1 x5 x6)) (λx1 x2 x3 x4 _ _ x7 x8 x9 x10=>(k_rangeN x7 x8 x1 (@Array.toList Tmp x2) x3 x4 x9 x10)) (λx1 _ _ x4 x5=>(some ((Ex.exit x1), (x4, x5)))) (λx1 _ _ x4 x5 x6=>(k_codeScope x4 x1 x5 x6)) (λ_ _ _ x4 x5=>(some (Ex.normal, (x4, x5)))) (λ_ _ _ _ _=>none) (λ_ _ x3 x4=>(some (Ex.ret, (x3, x4)))) (λ_ _ _ _ _=>none) x0))
theorem l491_eq : ∀ x0, (Eq (l491 x0) (@codeF._sparseCasesOn_1 (λ_=>t1930) x0 (λ_ _ x3 x4=>(some (Ex.normal, (x3, x4)))) (λ_ _ _ x4 x5=>(some (Ex.normal, (x4, x5)))) (λ_ _ x3 x4=>(some (Ex.ret, (x3, x4)))) (λx1 _ _ x4 x5=>(some ((Ex.exit x1), (x4, x5)))) (λ_ x2 x3 x4 x5 x6 x7=>(k_codeReg x4 x5 x2 x3 x6 x7)) (λx1 x2 _ x4 x5 x6=>(k_codeSeq x4 x1 x2 x5 x6)) (λx1 x2 x3 _ x5 x6 x7=>(k_codeCond x5 x1 x2 x3 x6 x7)) (λx1 x2 _ x4 x5 x6=>(k_codeBlock x4 x1 x2 x5 x6)) (λx1 _ x3 x4 x5=>(k_codeLoop x3 x1 x4 x5)) (λx1 _ x3 x4 x5=>(k_codeScope x3 x1 x4 x5)) (λx1 x2 x3 x4 x5 x6 x7 x8=>(k_rangeN x5 x6 x1 (@Array.toList Tmp x2) x3 x4 x7 x8)) (λ_ _ _ _ _=>none))) := by intro t; cases t <;> (intros; rfl)
def k_codeF : t1931 := (λx0=>(l491 x0))
theorem k_codeF_eq : @k_codeF = codeF := by
  delta k_codeF codeF
  simp only [l491_eq]
  rw [k_codeScope_eq, k_rangeN_eq, k_codeLoop_eq, k_codeBlock_eq, k_codeCond_eq, k_codeSeq_eq, k_codeReg_eq]
  all_goals kernel_rfl

abbrev t1932:=Program → t1783
def k_codeN' : t1932 := (λx0 x1 x2 x3 x4=>(k_codeF x2 x0 x1 x3 x4))
theorem k_codeN'_eq : @k_codeN' = codeN' := by
  delta k_codeN' codeN'
  rw [k_codeF_eq]
  all_goals kernel_rfl

theorem k_codeN_eq : @k_codeN' = @codeN := k_codeN'_eq.trans codeN'_eq
abbrev t1933:=CO → t106
def l584 : t1933 := (λx0=>(@CO.rec (λ_=>t106) (λ_ _ _ _ _=>none) (λ_ _ _ _ _=>none) (λ_ _ x3 x4 x5 x6 x7 x8 x9 x10=>(k_wr_Ret x10 x9 (some (CO.loop LoopState.ready none x3 x4 x5 x6 x7 x8)) (λx11=>(some (Ret.ok (CV.val (Value.bool Bool.true)) x11))))) (λ_ _=>none) (λ_ _=>none) x0))
theorem l584_eq : ∀ x0 x1 x2, (Eq (l584 x0 x1 x2) (@roundN._sparseCasesOn_1 (λ_=>t4) x0 (λ_ _ x5 x6 x7 x8 x9 x10=>(k_wr_Ret x2 x1 (some (CO.loop LoopState.ready none x5 x6 x7 x8 x9 x10)) (λx11=>(some (Ret.ok (CV.val (Value.bool Bool.true)) x11))))) (λ_=>none))) := by intro t; cases t <;> (intros; rfl)
def l585 : t1933 := (λx0=>(@CO.rec (λ_=>t106) (λ_ _ _ _ _=>none) (λ_ _ _ _ _=>none) (λ_ _ x3 x4 x5 x6 x7 x8 x9 x10=>(k_wr_Ret x10 x9 (some (CO.loop LoopState.done (some Code.ret) x3 x4 x5 x6 x7 x8)) (λx11=>(some (Ret.ok (CV.val (Value.bool Bool.false)) x11))))) (λ_ _=>none) (λ_ _=>none) x0))
theorem l585_eq : ∀ x0 x1 x2, (Eq (l585 x0 x1 x2) (@roundN._sparseCasesOn_1 (λ_=>t4) x0 (λ_ _ x5 x6 x7 x8 x9 x10=>(k_wr_Ret x2 x1 (some (CO.loop LoopState.done (some Code.ret) x5 x6 x7 x8 x9 x10)) (λx11=>(some (Ret.ok (CV.val (Value.bool Bool.false)) x11))))) (λ_=>none))) := by intro t; cases t <;> (intros; rfl)
abbrev t1934:=CO → t925
def l586 : t1934 := (λx0=>(@CO.rec (λ_=>t925) (λ_ _ _ _ _ _=>none) (λ_ _ _ _ _ _=>none) (λ_ _ x3 x4 x5 x6 x7 x8 x9 x10 x11=>(k_wr_Ret x11 x9 (some (CO.loop LoopState.done (some (Code.exit x10)) x3 x4 x5 x6 x7 x8)) (λx12=>(some (Ret.ok (CV.val (Value.bool Bool.false)) x12))))) (λ_ _ _=>none) (λ_ _ _=>none) x0))
theorem l586_eq : ∀ x0 x1 x2 x3, (Eq (l586 x0 x1 x2 x3) (@roundN._sparseCasesOn_1 (λ_=>t4) x0 (λ_ _ x6 x7 x8 x9 x10 x11=>(k_wr_Ret x3 x1 (some (CO.loop LoopState.done (some (Code.exit x2)) x6 x7 x8 x9 x10 x11)) (λx12=>(some (Ret.ok (CV.val (Value.bool Bool.false)) x12))))) (λ_=>none))) := by intro t; cases t <;> (intros; rfl)
abbrev t1935:=t147 → t47
def l587 : t1935 := (λx0=>(@Prod.rec Fr S (λ_=>t47) (λx1 x2 x3 x4=>((λx5 _ x7=>(k_rd_Ret x7 x3 (λx8 x9=>(l586 x8 x3 x5 x9)))) x4 x1 x2)) x0))
theorem l587_eq : ∀ x0 x1 x2, (Eq (l587 x0 x1 x2) (@Prod.rec Fr S (λ_=>t4) (λx3 x4=>((λx5 _ x7=>(k_rd_Ret x7 x1 (λx8 x9=>(l586 x8 x1 x5 x9)))) x2 x3 x4)) x0)) := by intro t; cases t <;> (intros; rfl)
abbrev t1936:=Nat → t1239
abbrev t1937:=Ex → t1936
def l588 : t1937 := (λx0=>(@Ex.rec (λ_=>t1936) (λx1 x2=>(@Prod.rec Fr S (λ_=>t4) (λx3 x4=>((λ_ x6=>(k_rd_Ret x6 x1 (λx7 x8=>(l584 x7 x1 x8)))) x3 x4)) x2)) (λx1 x2 x3=>(l587 x3 x2 x1)) (λx1 x2=>(@Prod.rec Fr S (λ_=>t4) (λx3 x4=>((λ_ x6=>(k_rd_Ret x6 x1 (λx7 x8=>(l585 x7 x1 x8)))) x3 x4)) x2)) (λ_ _ _=>none) x0))
theorem l588_eq : ∀ x0 x1 x2, (Eq (l588 x0 x1 x2) (@roundN._sparseCasesOn_2 (λ_=>t4) x0 (@Prod.rec Fr S (λ_=>t4) (λx3 x4=>((λ_ x6=>(k_rd_Ret x6 x1 (λx7 x8=>(l584 x7 x1 x8)))) x3 x4)) x2) (@Prod.rec Fr S (λ_=>t4) (λx3 x4=>((λ_ x6=>(k_rd_Ret x6 x1 (λx7 x8=>(l585 x7 x1 x8)))) x3 x4)) x2) (λx3=>(l587 x2 x1 x3)) (λ_=>none))) := by intro t; cases t <;> (intros; rfl)
abbrev t1938:=t151 → t41
def l589 : t1938 := (λx0=>(@Option.rec t148 (λ_=>t41) (λ_=>none) (λx1 x2=>(@Prod.rec Ex t147 (λ_=>t4) (λx3 x4=>(l588 x3 x2 x4)) x1)) x0))
theorem l589_eq : ∀ x0 x1, (Eq (l589 x0 x1) (@methV._sparseCasesOn_2 t148 (λ_=>t4) x0 (λx2=>(@Prod.rec Ex t147 (λ_=>t4) (λx3 x4=>(l588 x3 x1 x4)) x2)) (λ_=>none))) := by intro t; cases t <;> (intros; rfl)
abbrev t1939:=Code → t41
abbrev t1940:=Code → t1939
abbrev t1941:=t1370 → t1940
abbrev t1942:=Nat → t1941
abbrev t1943:=t14 → t1942
abbrev t1944:=t1197 → t1943
abbrev t1945:=S → t1944
abbrev t1946:=t14 → t1945
abbrev t1947:=Code → t1946
abbrev t1948:=Nat → t1947
abbrev t1949:=Nat → t1948
abbrev t1950:=Run → t1949
abbrev t1951:=LoopState → t1950
def l590 : t1951 := (λx0=>(@LoopState.rec (λ_=>t1950) (λx1 x2 x3 x4 x5 x6 x7 x8 x9 x10 x11 x12 x13=>(k_wr_Ret x6 x2 (some (CO.loop LoopState.busy x7 x8 x9 x10 x11 x12 x13)) (λx14=>(l589 (Run.code x1 x4 (Fr.mk x3 x5 [] (some x2)) x14) x2)))) (λ_ _ _ _ _ _ _ _ _ _ _ _ _=>none) (λ_ _ _ _ _ _ _ _ _ _ _ _ _=>none) (λ_ _ _ _ _ _ _ _ _ _ _ _ _=>none) x0))
theorem l590_eq : ∀ x0 x1 x2 x3 x4 x5 x6 x7 x8 x9 x10 x11 x12 x13, (Eq (l590 x0 x1 x2 x3 x4 x5 x6 x7 x8 x9 x10 x11 x12 x13) (@roundN._sparseCasesOn_3 (λ_=>t4) x0 (k_wr_Ret x6 x2 (some (CO.loop LoopState.busy x7 x8 x9 x10 x11 x12 x13)) (λx14=>(l589 (Run.code x1 x4 (Fr.mk x3 x5 [] (some x2)) x14) x2))) (λ_=>none))) := by intro t; cases t <;> (intros; rfl)
abbrev t1952:=Code → t1083
abbrev t1953:=Nat → t1952
abbrev t1954:=Nat → t1953
abbrev t1955:=Run → t1954
abbrev t1956:=CO → t1955
def l591 : t1956 := (λx0=>(@CO.rec (λ_=>t1955) (λ_ _ _ _ _ _ _ _ _=>none) (λ_ _ _ _ _ _ _ _ _=>none) (λx1 x2 x3 x4 x5 x6 x7 x8 x9 x10 x11 x12 x13 x14=>(l590 x1 x9 x10 x11 x12 x13 x14 x2 x3 x4 x5 x6 x7 x8)) (λ_ _ _ _ _ _=>none) (λ_ _ _ _ _ _=>none) x0))
theorem l591_eq : ∀ x0 x1 x2 x3 x4 x5 x6, (Eq (l591 x0 x1 x2 x3 x4 x5 x6) (@roundN._sparseCasesOn_1 (λ_=>t4) x0 (λx7 x8 x9 x10 x11 x12 x13 x14=>(l590 x7 x1 x2 x3 x4 x5 x6 x8 x9 x10 x11 x12 x13 x14)) (λ_=>none))) := by intro t; cases t <;> (intros; rfl)
abbrev t1957:=t14 → t4
abbrev t1958:=S → t1957
abbrev t1959:=Code → t1958
abbrev t1960:=Nat → t1959
abbrev t1961:=Nat → t1960
abbrev t1962:=Run → t1961
abbrev t1963:=t141 → t1962
def l592 : t1963 := (λx0=>(@List.rec SD (λ_=>t1962) (λx1 x2 x3 x4 x5 x6=>(k_rd_Ret x5 x2 (λx7 x8=>(l591 x7 x1 x2 x3 x4 x6 x8)))) (λ_ _ _ _ _ _ _ _ _=>none) x0))
theorem l592_eq : ∀ x0 x1 x2 x3 x4 x5 x6, (Eq (l592 x0 x1 x2 x3 x4 x5 x6) (@methV._sparseCasesOn_1 SD (λ_=>t4) x0 (k_rd_Ret x5 x2 (λx7 x8=>(l591 x7 x1 x2 x3 x4 x6 x8))) (λ_=>none))) := by intro t; cases t <;> (intros; rfl)
abbrev t1964:=Nat → t1248
abbrev t1965:=Nat → t1964
abbrev t1966:=Run → t1965
abbrev t1967:=t147 → t1966
def l593 : t1967 := (λx0=>(@Prod.rec Fr S (λ_=>t1966) (λx1 x2 x3 x4 x5 x6=>(@Fr.rec (λ_=>t4) (λ_ x8 x9 _=>(l592 x9 x3 x4 x5 x6 x2 x8)) x1)) x0))
theorem l593_eq : ∀ x0 x1 x2 x3 x4, (Eq (l593 x0 x1 x2 x3 x4) (@Prod.rec Fr S (λ_=>t4) (λx5 x6=>(@Fr.rec (λ_=>t4) (λ_ x8 x9 _=>(l592 x9 x1 x2 x3 x4 x6 x8)) x5)) x0)) := by intro t; cases t <;> (intros; rfl)
abbrev t1968:=Code → t1239
abbrev t1969:=Nat → t1968
abbrev t1970:=Nat → t1969
abbrev t1971:=Run → t1970
abbrev t1972:=Ex → t1971
def l594 : t1972 := (λx0=>(@Ex.rec (λ_=>t1971) (λx1 x2 x3 x4 x5=>(l593 x5 x1 x2 x3 x4)) (λ_ _ _ _ _ _=>none) (λ_ _ _ _ _=>none) (λ_ _ _ _ _ _=>none) x0))
theorem l594_eq : ∀ x0 x1 x2 x3 x4 x5, (Eq (l594 x0 x1 x2 x3 x4 x5) (@codeD._sparseCasesOn_1 (λ_=>t4) x0 (l593 x5 x1 x2 x3 x4) (λ_=>none))) := by intro t; cases t <;> (intros; rfl)
abbrev t1973:=t151 → t1966
def l595 : t1973 := (λx0=>(@Option.rec t148 (λ_=>t1966) (λ_ _ _ _=>none) (λx1 x2 x3 x4 x5=>(@Prod.rec Ex t147 (λ_=>t4) (λx6 x7=>(l594 x6 x2 x3 x4 x5 x7)) x1)) x0))
theorem l595_eq : ∀ x0 x1 x2 x3 x4, (Eq (l595 x0 x1 x2 x3 x4) (@methV._sparseCasesOn_2 t148 (λ_=>t4) x0 (λx5=>(@Prod.rec Ex t147 (λ_=>t4) (λx6 x7=>(l594 x6 x1 x2 x3 x4 x7)) x5)) (λ_=>none))) := by intro t; cases t <;> (intros; rfl)
abbrev t1974:=Code → t1248
abbrev t1975:=Nat → t1974
abbrev t1976:=S → t1975
abbrev t1977:=Nat → t1976
abbrev t1978:=Run → t1977
abbrev t1979:=t165 → t1978
def l596 : t1979 := (λx0=>(@Option.rec t14 (λ_=>t1978) (λ_ _ _ _ _ _=>none) (λx1 x2 x3 x4 x5 x6 x7=>((λx8=>(l595 (Run.code x2 x6 (Fr.mk x5 x8 [] (some x3)) x4) x2 x3 x5 x7)) x1)) x0))
theorem l596_eq : ∀ x0 x1 x2 x3 x4 x5 x6, (Eq (l596 x0 x1 x2 x3 x4 x5 x6) (@Option.rec t14 (λ_=>t4) none (λx7=>((λx8=>(l595 (Run.code x1 x5 (Fr.mk x4 x8 [] (some x2)) x3) x1 x2 x4 x6)) x7)) x0)) := by intro t; cases t <;> (intros; rfl)
def l598 : t1195 := (λx0=>(@List.rec CV (λ_=>t166) (λx1=>(some x1)) (λ_ _ _ _=>none) x0))
theorem l598_eq : ∀ x0 x1, (Eq (l598 x0 x1) (@methV._sparseCasesOn_1 CV (λ_=>t165) x0 (some x1) (λ_=>none))) := by intro t; cases t <;> (intros; rfl)
abbrev t1980:=t1196 → t165
abbrev t1981:=Nat → t1980
abbrev t1982:=t14 → t1981
abbrev t1983:=Nat → t1982
abbrev t1984:=t7 → t1983
def l599 : t1984 := (λx0=>(@List.rec CV (λ_=>t1983) (λ_ _ _ _=>none) (λx1 x2 _ x4 x5 x6 x7=>(@Bool.rec (λ_=>t165) none (@Option.rec t14 (λ_=>t165) none (λx8=>(x7 x4 x2 x8)) (setCV (nat_lit 24) x5 x6 (some x1))) (k_Nat_blt x6 x4))) x0))
theorem l599_eq : ∀ x0 x1 x2 x3 x4, (Eq (l599 x0 x1 x2 x3 x4) (@setPs._sparseCasesOn_1 CV (λ_=>t165) x0 (λx5 x6=>(@Bool.rec (λ_=>t165) none (@Option.rec t14 (λ_=>t165) none (λx7=>(x4 x1 x6 x7)) (setCV (nat_lit 24) x2 x3 (some x5))) (k_Nat_blt x3 x1))) (λ_=>none))) := by intro t; cases t <;> (intros; rfl)
abbrev t1985:=t1370 → t1195
abbrev t1986:=Nat → t1985
def k_setPs : t1986 := (λx0 x1 x2 x3=>(@List.rec Nat (λ_=>t1196) (λ_ x5 x6=>(l598 x5 x6)) (λx4 _ x6 x7 x8 x9=>(l599 x8 x7 x9 x4 x6)) x1 x0 x2 x3))
theorem k_setPs_law : ∀ x0 x1 x2 x3, (Eq (k_setPs x1 x0 x2 x3) (setPs x1 x0 x2 x3)) := by
  intro t
  induction t with
  | nil  =>
    intro z0 z1 z2
    show ((fun (_ : Nat) (x1 : t7) (x2 : t14) => (l598 x1 x2)) z0 z1 z2) = _
    conv => rhs; rw [Ev.setPs.eq_def]
    try simp only [l598_eq]
    all_goals kernel_rfl
  | cons y0 y1 ih0 =>
    intro z0 z1 z2
    have e0 : (fun (x0 : Nat) (x1 : t7) (x2 : t14) => (k_setPs x0 y1 x1 x2)) = (fun (x0 : Nat) (x1 : t7) (x2 : t14) => (setPs x0 y1 x1 x2)) := by
      funext z0 z1 z2; exact ih0 z0 z1 z2
    show ((fun (x0 : Nat) (_ : t1370) (x2 : t1196) (x3 : Nat) (x4 : t7) (x5 : t14) => (l599 x4 x3 x5 x0 x2)) y0 y1 (fun (x0 : Nat) (x1 : t7) (x2 : t14) => (k_setPs x0 y1 x1 x2)) z0 z1 z2) = _
    rw [e0]
    conv => rhs; rw [Ev.setPs.eq_def]
    try simp only [l599_eq]
    try rw [k_Nat_blt_eq]
    try rw [setCV_eq]
    all_goals kernel_rfl
theorem k_setPs_eq : @k_setPs = setPs := by
  funext a0 a1 a2 a3; exact k_setPs_law a1 a0 a2 a3
abbrev t1987:=Run → t1044
abbrev t1988:=CO → t1987
def l597 : t1988 := (λx0=>(@CO.rec (λ_=>t1987) (λ_ _ _ _ _ _ _=>none) (λ_ _ _ _ _ _ _=>none) (λ_ _ x3 x4 x5 x6 x7 _ x9 x10 x11 x12=>(l596 (k_setPs x4 x5 x11 x3) x9 x10 x12 x4 x6 x7)) (λ_ _ _ _=>none) (λ_ _ _ _=>none) x0))
theorem l597_eq : ∀ x0 x1 x2 x3 x4, (Eq (l597 x0 x1 x2 x3 x4) (@roundN._sparseCasesOn_1 (λ_=>t4) x0 (λ_ _ x7 x8 x9 x10 x11 _=>(l596 (k_setPs x8 x9 x3 x7) x1 x2 x4 x8 x10 x11)) (λ_=>none))) := by intro t; cases t <;> (intros; rfl)
abbrev t1989:=Program → t1987
def k_roundN : t1989 := (λ_ x1 x2 x3 x4=>(k_rd_Ret x4 x2 (λx5 x6=>(l597 x5 x1 x2 x3 x6))))
theorem k_roundN_eq : @k_roundN = roundN := by
  delta k_roundN roundN
  simp only [l597_eq, l586_eq, l589_eq, l592_eq, l588_eq, l593_eq, l584_eq, l594_eq, l585_eq, l587_eq, l590_eq, l595_eq, l596_eq, l591_eq]
  rw [k_rd_Ret_eq, k_wr_Ret_eq, k_setPs_eq]
  all_goals kernel_rfl

abbrev t1990:=t6 → Run
abbrev t1991:=Program → t1990
abbrev t1992:=Nat → Run
abbrev t1993:=t6 → t1992
abbrev t1994:=Program → t1993
def k_runT : t1994 := (λx0 x1 x2=>(@Nat.rec (λ_=>t1991) (λ_ _=>(Run.mk (λ_ _ _=>none) (λ_ _ _=>none) (λ_ _ _=>none))) (λ_ x4 x5 x6=>(Run.mk (k_callT x5 x6 (x4 x5 x6)) (k_codeN' x5 (x4 x5 x6)) (k_roundN x5 (x4 x5 x6)))) x2 x0 x1))
theorem k_runT_law : ∀ x0 x1 x2, (Eq (k_runT x1 x2 x0) (Ev.runT x1 x2 x0)) := by
  intro t
  induction t with
  | zero  =>
    intro z0 z1
    show ((fun (_ : Program) (_ : t6) => (Run.mk (fun (_ : FuncId) (_ : t7) (_ : S) => none) (fun (_ : Code) (_ : Fr) (_ : S) => none) (fun (_ : Nat) (_ : t7) (_ : S) => none))) z0 z1) = _
    conv => rhs; rw [Ev.runT.eq_def]
    all_goals kernel_rfl
  | succ y0 ih0 =>
    intro z0 z1
    have e0 : (fun (x0 : Program) (x1 : t6) => (k_runT x0 x1 y0)) = (fun (x0 : Program) (x1 : t6) => (Ev.runT x0 x1 y0)) := by
      funext z0 z1; exact ih0 z0 z1
    show ((fun (_ : Nat) (x1 : t1991) (x2 : Program) (x3 : t6) => (Run.mk (k_callT x2 x3 (x1 x2 x3)) (k_codeN' x2 (x1 x2 x3)) (k_roundN x2 (x1 x2 x3)))) y0 (fun (x0 : Program) (x1 : t6) => (k_runT x0 x1 y0)) z0 z1) = _
    rw [e0]
    conv => rhs; rw [Ev.runT.eq_def]
    try rw [k_roundN_eq]
    try rw [k_codeN_eq]
    try rw [k_callT_eq]
    all_goals kernel_rfl
theorem k_runT_eq : @k_runT = Ev.runT := by
  funext a0 a1 a2; exact k_runT_law a2 a0 a1
def k_S0 : S := (S.mk (@Tr.nil CO) (nat_lit 0) (nat_lit 0) (nat_lit 0))
theorem k_S0_eq : @k_S0 = S0 := by
  delta k_S0 S0
  all_goals kernel_rfl

abbrev t1995:=Nat → t6
abbrev t1996:=t6 → t1995
abbrev t1997:=Program → t1996
def k_saysT : t1997 := (λx0 x1 x2 x3=>(l4 (Run.call (k_runT x0 x1 x2) x3 [] k_S0)))
theorem k_saysT_eq : @k_saysT = saysT := by
  delta k_saysT saysT
  simp only [l2_eq, l4_eq, l0_eq, l1_eq, l3_eq]
  rw [k_S0_eq, k_runT_eq]
  all_goals kernel_rfl

end
end Go.EvK
