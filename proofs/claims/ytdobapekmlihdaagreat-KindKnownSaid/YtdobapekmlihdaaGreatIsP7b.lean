/- Forms of the definitions that the kernel runs fast, each proved equal. No condition. -/
import Derived.Test.YtdobapekmlihdaaGreatIsP7a
import Derived.KernelRfl
set_option linter.unusedVariables false
set_option linter.unusedSimpArgs false
set_option maxRecDepth 100000
namespace Go.EvK
open Go.Eng Go.Ev
noncomputable section
def k_o_indexAddr : t487 := (λx0 x1 x2 x3 x4 x5=>(l336 (k_ev x1 x3) x0 x1 x2 x4 x5))
theorem k_o_indexAddr_eq : @k_o_indexAddr = o_indexAddr := by
  delta k_o_indexAddr o_indexAddr
  simp only [l336_eq, l331_eq, l334_eq, l335_eq, l329_eq, l330_eq, l333_eq, l332_eq]
  rw [k_ev_eq, k_ifT_Ret_eq, k_ok1_eq, k_Nat_blt_eq, k_natAny_eq]
  all_goals kernel_rfl

abbrev t904:=Option UInt8
abbrev t905:=Nat → t904
abbrev t906:=t394 → t905
def k_List_get?Internal_UInt8 : t906 := (λx0 x1=>(@List.rec UInt8 (λ_=>t905) (λ_=>none) (λx2 _ x4 x5=>(@Nat.rec (λ_=>t904) (some x2) (λx6 _=>(x4 x6)) x5)) x0 x1))
theorem k_List_get?Internal_UInt8_law : ∀ x0 x1, (Eq (k_List_get?Internal_UInt8 x0 x1) (@List.get?Internal UInt8 x0 x1)) := by
  intro t
  induction t with
  | nil  =>
    intro z0
    show ((fun (_ : Nat) => none) z0) = _
    conv => rhs; rw [List.get?Internal.eq_def]
    all_goals kernel_rfl
  | cons y0 y1 ih0 =>
    intro z0
    have e0 : (fun (x0 : Nat) => (k_List_get?Internal_UInt8 y1 x0)) = (fun (x0 : Nat) => (@List.get?Internal UInt8 y1 x0)) := by
      funext z0; exact ih0 z0
    show ((fun (x0 : UInt8) (_ : t394) (x2 : t905) (x3 : Nat) => (@Nat.rec (fun (_ : Nat) => t904) (some x0) (fun (x4 : Nat) (_ : t904) => (x2 x4)) x3)) y0 y1 (fun (x0 : Nat) => (k_List_get?Internal_UInt8 y1 x0)) z0) = _
    rw [e0]
    conv => rhs; rw [List.get?Internal.eq_def]
    all_goals kernel_rfl
theorem k_List_get?Internal_UInt8_eq : @k_List_get?Internal_UInt8 = (@List.get?Internal UInt8) := by
  funext a0 a1; exact k_List_get?Internal_UInt8_law a0 a1
abbrev t907:=t164 → t576
def l337 : t907 := (λx0=>(@Option.rec Nat (λ_=>t576) (λ_ _=>none) (λx1 x2 x3=>((λx4=>(@Option.rec UInt8 (λ_=>t4) none (λx5=>((λx6=>(k_retI x2 IntKind.u8 (@Nat.cast Int (@NatCast.mk Int (λx7=>(Int.ofNat x7))) (UInt8.toNat x6)))) x5)) (k_List_get?Internal_UInt8 (@Array.toList UInt8 (ByteArray.data x3)) x4))) x1)) x0))
theorem l337_eq : ∀ x0 x1 x2, (Eq (l337 x0 x1 x2) (@Option.rec Nat (λ_=>t4) none (λx3=>((λx4=>(@Option.rec UInt8 (λ_=>t4) none (λx5=>((λx6=>(k_retI x1 IntKind.u8 (@Nat.cast Int (@NatCast.mk Int (λx7=>(Int.ofNat x7))) (UInt8.toNat x6)))) x5)) (k_List_get?Internal_UInt8 (@Array.toList UInt8 (ByteArray.data x2)) x4))) x3)) x0)) := by intro t; cases t <;> (intros; rfl)
abbrev t908:=t81 → t576
def l338 : t908 := (λx0=>(@Option.rec CV (λ_=>t576) (λ_ _=>none) (λx1 x2 x3=>(l337 (k_natAny x1) x2 x3)) x0))
theorem l338_eq : ∀ x0 x1 x2, (Eq (l338 x0 x1 x2) (@elInfo._sparseCasesOn_3 CV (λ_=>t4) x0 (λx3=>(l337 (k_natAny x3) x1 x2)) (λ_=>none))) := by intro t; cases t <;> (intros; rfl)
abbrev t909:=Value → t192
def l339 : t909 := (λx0=>(@Value.rec (λ_=>t192) (λ_=>PUnit.{1}) (λ_=>PUnit.{1}) (λ_ _ _ _=>none) (λ_ _ _ _ _=>none) (λ_ _ _ _ _=>none) (λ_ _ _ _ _ _=>none) (λx1 x2 x3 x4=>(l338 (k_ev x2 x3) x4 x1)) (λ_ _ _ _=>none) (λ_ _ _ _ _ _=>none) (λ_ _ _ _=>none) (λ_ _ _ _=>none) (λ_ _ _ _ _ _ _ _=>none) (λ_ _ _=>none) (λ_ _ _ _ _ _=>none) (λ_ _ _=>none) (λ_ _ _ _ _=>none) (λ_ _ _ _ _=>none) (λ_ _=>PUnit.unit.{1}) PUnit.unit.{1} (λ_ _ _ _=>PUnit.unit.{1}) x0))
theorem l339_eq : ∀ x0 x1 x2 x3, (Eq (l339 x0 x1 x2 x3) (@eqK._sparseCasesOn_4 (λ_=>t4) x0 (λx4=>(l338 (k_ev x1 x2) x3 x4)) (λ_=>none))) := by intro t; cases t <;> (intros; rfl)
abbrev t910:=CV → t192
def l340 : t910 := (λx0=>(@CV.rec (λ_=>t192) (λ_=>PUnit.{1}) (λ_ _ _=>none) (λx1 x2 x3 x4=>(l339 x1 x2 x3 x4)) (λ_ _ _ _ _=>none) (λ_ _ _ _ _ _ _ _=>none) (λ_ _ _=>none) (λ_ _ _ _=>none) (λ_ _ _ _ _=>none) (λ_ _ _ _ _=>none) (λ_ _ _ _ _ _ _ _=>none) (λ_ _ _ _=>none) (λ_ _ _ _ _ _=>none) PUnit.unit.{1} (λ_ _ _ _=>PUnit.unit.{1}) x0))
theorem l340_eq : ∀ x0 x1 x2 x3, (Eq (l340 x0 x1 x2 x3) (@natOf._sparseCasesOn_1 (λ_=>t4) x0 (λx4=>(l339 x4 x1 x2 x3)) (λ_=>none))) := by intro t; cases t <;> (intros; rfl)
abbrev t911:=t81 → t192
def l341 : t911 := (λx0=>(@Option.rec CV (λ_=>t192) (λ_ _ _=>none) (λx1 x2 x3 x4=>(l340 x1 x2 x3 x4)) x0))
theorem l341_eq : ∀ x0 x1 x2 x3, (Eq (l341 x0 x1 x2 x3) (@elInfo._sparseCasesOn_3 CV (λ_=>t4) x0 (λx4=>(l340 x4 x1 x2 x3)) (λ_=>none))) := by intro t; cases t <;> (intros; rfl)
abbrev t912:=TypeDesc → t200
def l342 : t912 := (λx0=>(@TypeDesc.rec (λ_=>t200) (λ_ _ _ _=>none) (λ_ _ _ _=>none) (λ_ _ _ _ _=>none) (λ_ _ _ _ _=>none) (λ_ _ _ _ _=>none) (λx1 x2 x3 x4=>(l341 (k_ev x1 x2) x1 x3 x4)) (λ_ _ _ _=>none) (λ_ _ _ _ _=>none) (λ_ _ _ _ _=>none) (λ_ _ _ _ _ _=>none) (λ_ _ _ _ _ _=>none) (λ_ _ _ _ _ _=>none) (λ_ _ _ _ _=>none) (λ_ _ _ _ _ _ _=>none) (λ_ _ _ _ _=>none) (λ_ _ _ _ _=>none) (λ_ _ _ _ _ _=>none) x0))
theorem l342_eq : ∀ x0 x1 x2 x3 x4, (Eq (l342 x0 x1 x2 x3 x4) (@o_convert._sparseCasesOn_3 (λ_=>t4) x0 (l341 (k_ev x1 x2) x1 x3 x4) (λ_=>none))) := by intro t; cases t <;> (intros; rfl)
abbrev t913:=t336 → t200
def l343 : t913 := (λx0=>(@Option.rec TypeDesc (λ_=>t200) (λ_ _ _ _=>none) (λx1 x2 x3 x4 x5=>(l342 x1 x2 x3 x4 x5)) x0))
theorem l343_eq : ∀ x0 x1 x2 x3 x4, (Eq (l343 x0 x1 x2 x3 x4) (@elInfo._sparseCasesOn_3 TypeDesc (λ_=>t4) x0 (λx5=>(l342 x5 x1 x2 x3 x4)) (λ_=>none))) := by intro t; cases t <;> (intros; rfl)
def k_o_index : t487 := (λx0 x1 x2 x3 x4 x5=>(l343 (Program.underlying x0 x2) x1 x3 x4 x5))
theorem k_o_index_eq : @k_o_index = o_index := by
  delta k_o_index o_index
  simp only [l337_eq, l342_eq, l341_eq, l343_eq, l339_eq, l340_eq, l338_eq]
  rw [k_List_get?Internal_UInt8_eq, k_retI_eq, k_natAny_eq, k_ev_eq]
  all_goals kernel_rfl

abbrev t914:=CV → t783
abbrev t915:=t164 → t914
def l345 : t915 := (λx0=>(@Option.rec Nat (λ_=>t914) (λx1 x2 x3=>(k_ok1 (@Bool.rec (λ_=>CV) x1 (CV.tup (x1 :: ((CV.val (Value.bool Bool.false)) :: []))) x2) x3)) (λ_ _ _ _=>none) x0))
theorem l345_eq : ∀ x0 x1 x2 x3, (Eq (l345 x0 x1 x2 x3) (@sliceV._sparseCasesOn_7 Nat (λ_=>t4) x0 (k_ok1 (@Bool.rec (λ_=>CV) x1 (CV.tup (x1 :: ((CV.val (Value.bool Bool.false)) :: []))) x2) x3) (λ_=>none))) := by intro t; cases t <;> (intros; rfl)
abbrev t916:=Value → t914
def l346 : t916 := (λx0=>(@Value.rec (λ_=>t914) (λ_=>PUnit.{1}) (λ_=>PUnit.{1}) (λ_ _ _ _=>none) (λ_ _ _ _ _=>none) (λ_ _ _ _ _=>none) (λ_ _ _ _ _ _=>none) (λ_ _ _ _=>none) (λ_ _ _ _=>none) (λ_ _ _ _ _ _=>none) (λx1 x2 x3 x4=>(l345 x1 x2 x3 x4)) (λ_ _ _ _=>none) (λ_ _ _ _ _ _ _ _=>none) (λ_ _ _=>none) (λ_ _ _ _ _ _=>none) (λ_ _ _=>none) (λ_ _ _ _ _=>none) (λ_ _ _ _ _=>none) (λ_ _=>PUnit.unit.{1}) PUnit.unit.{1} (λ_ _ _ _=>PUnit.unit.{1}) x0))
theorem l346_eq : ∀ x0 x1 x2 x3, (Eq (l346 x0 x1 x2 x3) (@lookupV._sparseCasesOn_4 (λ_=>t4) x0 (λx4=>(l345 x4 x1 x2 x3)) (λ_=>none))) := by intro t; cases t <;> (intros; rfl)
abbrev t917:=t367 → t914
def l347 : t917 := (λx0=>(@Option.rec t246 (λ_=>t914) (λx1 x2 x3=>(k_ok1 (@Bool.rec (λ_=>CV) x1 (CV.tup (x1 :: ((CV.val (Value.bool Bool.false)) :: []))) x2) x3)) (λx1 _ x3 x4=>(@Prod.rec Nat CV (λ_=>t4) (λx5 x6=>((λ_ x8=>(k_ok1 (@Bool.rec (λ_=>CV) x8 (CV.tup (x8 :: ((CV.val (Value.bool Bool.true)) :: []))) x3) x4)) x5 x6)) x1)) x0))
theorem l347_eq : ∀ x0 x1 x2 x3, (Eq (l347 x0 x1 x2 x3) (@Option.rec t246 (λ_=>t4) (k_ok1 (@Bool.rec (λ_=>CV) x1 (CV.tup (x1 :: ((CV.val (Value.bool Bool.false)) :: []))) x2) x3) (λx4=>(@Prod.rec Nat CV (λ_=>t4) (λx5 x6=>((λ_ x8=>(k_ok1 (@Bool.rec (λ_=>CV) x8 (CV.tup (x8 :: ((CV.val (Value.bool Bool.true)) :: []))) x2) x3)) x5 x6)) x4)) x0)) := by intro t; cases t <;> (intros; rfl)
abbrev t918:=CV → t914
abbrev t919:=TypeId → t918
abbrev t920:=CO → t919
def l348 : t920 := (λx0=>(@CO.rec (λ_=>t919) (λ_ _ _ _ _ _ _ _=>none) (λx1 x2 _ x4 x5 x6 x7 x8=>(@Bool.rec (λ_=>t4) (@Option.rec t367 (λ_=>t4) none (λx9=>(l347 x9 x5 x7 x8)) (k_findE x6 x2 (nat_lit 0))) none (@Bool.rec (λ_=>Bool) Bool.true Bool.false (Nat.beq x1 x4)))) (λ_ _ _ _ _ _ _ _ _ _ _ _ _=>none) (λ_ _ _ _ _=>none) (λ_ _ _ _ _=>none) x0))
theorem l348_eq : ∀ x0 x1 x2 x3 x4 x5, (Eq (l348 x0 x1 x2 x3 x4 x5) (@lookupV._sparseCasesOn_2 (λ_=>t4) x0 (λx6 x7 _=>(@Bool.rec (λ_=>t4) (@Option.rec t367 (λ_=>t4) none (λx9=>(l347 x9 x2 x4 x5)) (k_findE x3 x7 (nat_lit 0))) none (@Bool.rec (λ_=>Bool) Bool.true Bool.false (Nat.beq x6 x1)))) (λ_=>none))) := by intro t; cases t <;> (intros; rfl)
abbrev t921:=TypeId → t19
abbrev t922:=S → t921
abbrev t923:=Bool → t922
abbrev t924:=CV → t923
abbrev t925:=CV → t924
def l349 : t925 := (λx0=>(@CV.rec (λ_=>t924) (λ_=>PUnit.{1}) (λ_ _ _ _ _=>none) (λx1 x2 x3 x4 _ _=>(l346 x1 x2 x3 x4)) (λ_ _ _ _ _ _ _=>none) (λ_ _ _ _ _ _ _ _ _ _=>none) (λ_ _ _ _ _=>none) (λx1 x2 x3 x4 x5 x6=>(k_rd_Ret x4 x1 (λx7 x8=>(l348 x7 x5 x2 x6 x3 x8)))) (λ_ _ _ _ _ _ _=>none) (λ_ _ _ _ _ _ _=>none) (λ_ _ _ _ _ _ _ _ _ _=>none) (λ_ _ _ _ _ _=>none) (λ_ _ _ _ _ _ _ _=>none) PUnit.unit.{1} (λ_ _ _ _=>PUnit.unit.{1}) x0))
theorem l349_eq : ∀ x0 x1 x2 x3 x4 x5, (Eq (l349 x0 x1 x2 x3 x4 x5) (@lookupV._sparseCasesOn_3 (λ_=>t4) x0 (λx6=>(l346 x6 x1 x2 x3)) (λx6=>(k_rd_Ret x3 x6 (λx7 x8=>(l348 x7 x4 x1 x5 x2 x8)))) (λ_=>none))) := by intro t; cases t <;> (intros; rfl)
abbrev t926:=Bool → t186
abbrev t927:=CV → t926
abbrev t928:=CV → t927
abbrev t929:=TypeId → t928
def k_lookupV : t929 := (λx0 x1 x2 x3 x4 x5=>(l349 x4 x1 x3 x5 x0 x2))
theorem k_lookupV_eq : @k_lookupV = lookupV := by
  delta k_lookupV lookupV
  simp only [l346_eq, l345_eq, l348_eq, l349_eq, l347_eq]
  rw [k_ok1_eq, k_findE_eq, k_rd_Ret_eq]
  all_goals kernel_rfl

abbrev t930:=Value → t81
abbrev t931:=Value → t930
def l350 : t931 := (λx0=>(@Value.rec (λ_=>t930) (λ_=>PUnit.{1}) (λ_=>PUnit.{1}) (λ_ x2=>(some (CV.val x2))) (λ_ _ x3=>(some (CV.val x3))) (λ_ _ x3=>(some (CV.val x3))) (λ_ _ _ x4=>(some (CV.val x4))) (λ_ x2=>(some (CV.val x2))) (λ_ x2=>(some (CV.val x2))) (λ_ _ _ x4=>(some (CV.val x4))) (λ_ x2=>(some (CV.val x2))) (λ_ x2=>(some (CV.val x2))) (λ_ _ _ _ _ x6=>(some (CV.val x6))) (λx1=>(some (CV.val x1))) (λ_ _ _ x4=>(some (CV.val x4))) (λx1=>(some (CV.val x1))) (λx1 _ _=>(@Option.rec t7 (λ_=>t81) none (λx4=>((λx5=>(some (CV.agg x5))) x4)) (k_valL (@Array.toList Value x1)))) (λ_ _ x3=>(some (CV.val x3))) (λ_ _=>PUnit.unit.{1}) PUnit.unit.{1} (λ_ _ _ _=>PUnit.unit.{1}) x0))
theorem l350_eq : ∀ x0 x1, (Eq (l350 x0 x1) (@bok._sparseCasesOn_2 (λ_=>t81) x0 (λx2=>(@Option.rec t7 (λ_=>t81) none (λx3=>((λx4=>(some (CV.agg x4))) x3)) (k_valL (@Array.toList Value x2)))) (λ_=>(some (CV.val x1))))) := by intro t; cases t <;> (intros; rfl)
abbrev t932:=TypeId → t81
abbrev t933:=Program → t932
def k_oneZ : t933 := (λx0 x1=>(@Option.rec TypeInfo (λ_=>t81) none (λx2=>((λx3=>(@Option.rec Value (λ_=>t81) none (λx4=>(l350 x4 x4)) (TypeInfo.zero x3))) x2)) (Tables.info? (Program.toTables x0) x1)))
theorem k_oneZ_eq : @k_oneZ = oneZ := by
  delta k_oneZ oneZ
  simp only [l350_eq]
  rw [k_valL_eq]
  all_goals kernel_rfl

abbrev t934:=TypeId → t921
abbrev t935:=S → t934
abbrev t936:=Bool → t935
abbrev t937:=Program → t936
abbrev t938:=t81 → t937
def l344 : t938 := (λx0=>(@Option.rec CV (λ_=>t937) (λ_ _ _ _ _ _=>none) (λx1 x2 x3 x4 x5 x6 x7=>(@Option.rec CV (λ_=>t4) none (λx8=>((λx9=>(k_ifT_Ret (k_keyOk x2 x5 x1) (k_lookupV x5 x9 x1 x3 x7 x4))) x8)) (k_oneZ x2 x6))) x0))
theorem l344_eq : ∀ x0 x1 x2 x3 x4 x5 x6, (Eq (l344 x0 x1 x2 x3 x4 x5 x6) (@elInfo._sparseCasesOn_3 CV (λ_=>t4) x0 (λx7=>(@Option.rec CV (λ_=>t4) none (λx8=>((λx9=>(k_ifT_Ret (k_keyOk x1 x4 x7) (k_lookupV x4 x9 x7 x2 x6 x3))) x8)) (k_oneZ x1 x5))) (λ_=>none))) := by intro t; cases t <;> (intros; rfl)
abbrev t939:=TypeId → t74
abbrev t940:=S → t939
abbrev t941:=Bool → t940
abbrev t942:=Operand → t941
abbrev t943:=t14 → t942
abbrev t944:=Program → t943
abbrev t945:=t81 → t944
def l351 : t945 := (λx0=>(@Option.rec CV (λ_=>t944) (λ_ _ _ _ _ _ _=>none) (λx1 x2 x3 x4 x5 x6 x7 x8=>(l344 (k_ev x3 x4) x2 x5 x6 x7 x8 x1)) x0))
theorem l351_eq : ∀ x0 x1 x2 x3 x4 x5 x6 x7, (Eq (l351 x0 x1 x2 x3 x4 x5 x6 x7) (@elInfo._sparseCasesOn_3 CV (λ_=>t4) x0 (λx8=>(l344 (k_ev x2 x3) x1 x4 x5 x6 x7 x8)) (λ_=>none))) := by intro t; cases t <;> (intros; rfl)
abbrev t946:=Operand → t783
abbrev t947:=Operand → t946
abbrev t948:=t14 → t947
abbrev t949:=Program → t948
abbrev t950:=t461 → t949
def l352 : t950 := (λx0=>(@Option.rec t460 (λ_=>t949) (λ_ _ _ _ _ _=>none) (λx1 x2 x3 x4 x5 x6 x7=>(@Prod.rec TypeId TypeId (λ_=>t4) (λx8 x9=>(l351 (k_ev x3 x4) x2 x3 x5 x6 x7 x8 x9)) x1)) x0))
theorem l352_eq : ∀ x0 x1 x2 x3 x4 x5 x6, (Eq (l352 x0 x1 x2 x3 x4 x5 x6) (@elInfo._sparseCasesOn_3 t460 (λ_=>t4) x0 (λx7=>(@Prod.rec TypeId TypeId (λ_=>t4) (λx8 x9=>(l351 (k_ev x2 x3) x1 x2 x4 x5 x6 x8 x9)) x7)) (λ_=>none))) := by intro t; cases t <;> (intros; rfl)
abbrev t951:=TypeId → t947
abbrev t952:=t14 → t951
abbrev t953:=Program → t952
def k_o_lookup : t953 := (λx0 x1 x2 x3 x4 x5 x6=>(l352 (k_mapInfo x0 x2) x0 x1 x3 x4 x5 x6))
theorem k_o_lookup_eq : @k_o_lookup = o_lookup := by
  delta k_o_lookup o_lookup
  simp only [l344_eq, l351_eq, l352_eq]
  rw [k_mapInfo_eq, k_oneZ_eq, k_ifT_Ret_eq, k_lookupV_eq, k_keyOk_eq, k_ev_eq]
  all_goals kernel_rfl

abbrev t954:=TypeId → t783
abbrev t955:=Program → t954
abbrev t956:=Value → t955
def l353 : t956 := (λx0=>(@Value.rec (λ_=>t955) (λ_=>PUnit.{1}) (λ_=>PUnit.{1}) (λ_ _ _ _ _=>none) (λ_ _ _ _ _ _=>none) (λ_ _ _ _ _ _=>none) (λ_ _ _ _ _ _ _=>none) (λ_ _ _ _ _=>none) (λ_ _ _ _ _=>none) (λ_ _ _ _ _ _ _=>none) (λ_ _ _ _ _=>none) (λ_ _ _ _ _=>none) (λ_ _ _ _ _ _ _ _ _=>none) (λ_ _ _ _=>none) (λ_ _ _ _ _ _ _=>none) (λx1 x2 x3 x4=>(@Bool.rec (λ_=>t4) none (@Option.rec CV (λ_=>t4) none (λx5=>((λx6=>(k_ok1 (CV.tup (x6 :: ((CV.val (Value.bool Bool.false)) :: []))) x4)) x5)) (k_oneZ x1 x2)) x3)) (λ_ _ _ _ _ _=>none) (λ_ _ _ _ _ _=>none) (λ_ _=>PUnit.unit.{1}) PUnit.unit.{1} (λ_ _ _ _=>PUnit.unit.{1}) x0))
theorem l353_eq : ∀ x0 x1 x2 x3 x4, (Eq (l353 x0 x1 x2 x3 x4) (@bothNil._sparseCasesOn_1 (λ_=>t4) x0 (@Bool.rec (λ_=>t4) none (@Option.rec CV (λ_=>t4) none (λx5=>((λx6=>(k_ok1 (CV.tup (x6 :: ((CV.val (Value.bool Bool.false)) :: []))) x4)) x5)) (k_oneZ x1 x2)) x3) (λ_=>none))) := by intro t; cases t <;> (intros; rfl)
abbrev t957:=Bool → t20
abbrev t958:=TypeId → t957
abbrev t959:=Program → t958
abbrev t960:=Bool → t959
def l354 : t960 := (λx0=>(@Bool.rec (λ_=>t959) (λx1 x2 x3 x4 _=>(@Bool.rec (λ_=>t4) none (@Option.rec CV (λ_=>t4) none (λx6=>((λx7=>(k_ok1 (CV.tup (x7 :: ((CV.val (Value.bool Bool.false)) :: []))) x4)) x6)) (k_oneZ x1 x2)) x3)) (λ_ _ x3 x4 x5=>(k_ok1 (@Bool.rec (λ_=>CV) x5 (CV.tup (x5 :: ((CV.val (Value.bool Bool.true)) :: []))) x3) x4)) x0))
theorem l354_eq : ∀ x0 x1 x2 x3 x4 x5, (Eq (l354 x0 x1 x2 x3 x4 x5) (@Bool.rec (λ_=>t4) (@Bool.rec (λ_=>t4) none (@Option.rec CV (λ_=>t4) none (λx6=>((λx7=>(k_ok1 (CV.tup (x7 :: ((CV.val (Value.bool Bool.false)) :: []))) x4)) x6)) (k_oneZ x1 x2)) x3) (k_ok1 (@Bool.rec (λ_=>CV) x5 (CV.tup (x5 :: ((CV.val (Value.bool Bool.true)) :: []))) x3) x4) x0)) := by intro t; cases t <;> (intros; rfl)
abbrev t961:=CV → t955
def l355 : t961 := (λx0=>(@CV.rec (λ_=>t955) (λ_=>PUnit.{1}) (λ_ _ _ _=>none) (λx1 x2 x3 x4 x5=>(l353 x1 x2 x3 x4 x5)) (λ_ _ _ _ _ _=>none) (λ_ _ _ _ _ _ _ _ _=>none) (λ_ _ _ _=>none) (λ_ _ _ _ _=>none) (λ_ _ _ _ _ _=>none) (λ_ _ _ _ _ _=>none) (λ_ _ _ _ _ _ _ _ _=>none) (λ_ _ _ _ _=>none) (λx1 x2 _ x4 x5 x6 x7=>(l354 (Nat.beq x1 x5) x4 x5 x6 x7 x2)) PUnit.unit.{1} (λ_ _ _ _=>PUnit.unit.{1}) x0))
theorem l355_eq : ∀ x0 x1 x2 x3 x4, (Eq (l355 x0 x1 x2 x3 x4) (@o_typeAssert._sparseCasesOn_1 (λ_=>t4) x0 (λx5=>(l353 x5 x1 x2 x3 x4)) (λx5 x6=>(l354 (Nat.beq x5 x2) x1 x2 x3 x4 x6)) (λ_=>none))) := by intro t; cases t <;> (intros; rfl)
abbrev t962:=t81 → t955
def l356 : t962 := (λx0=>(@Option.rec CV (λ_=>t955) (λ_ _ _ _=>none) (λx1 x2 x3 x4 x5=>(l355 x1 x2 x3 x4 x5)) x0))
theorem l356_eq : ∀ x0 x1 x2 x3 x4, (Eq (l356 x0 x1 x2 x3 x4) (@elInfo._sparseCasesOn_3 CV (λ_=>t4) x0 (λx5=>(l355 x5 x1 x2 x3 x4)) (λ_=>none))) := by intro t; cases t <;> (intros; rfl)
abbrev t963:=Operand → t954
abbrev t964:=t14 → t963
abbrev t965:=Program → t964
def l357 : t965 := (λx0 x1 x2 x3 x4 x5=>(l356 (k_ev x1 x2) x0 x3 x4 x5))
theorem l357_eq : ∀ x0 x1 x2 x3 x4 x5, (Eq (l357 x0 x1 x2 x3 x4 x5) (l356 (k_ev x1 x2) x0 x3 x4 x5)) := by intros; rfl
abbrev t966:=TypeDesc → t965
def l358 : t966 := (λx0=>(@TypeDesc.rec (λ_=>t965) (λx1 x2 x3 x4 x5 x6=>(l357 x1 x2 x3 x4 x5 x6)) (λx1 x2 x3 x4 x5 x6=>(l357 x1 x2 x3 x4 x5 x6)) (λ_ x2 x3 x4 x5 x6 x7=>(l357 x2 x3 x4 x5 x6 x7)) (λ_ x2 x3 x4 x5 x6 x7=>(l357 x2 x3 x4 x5 x6 x7)) (λ_ x2 x3 x4 x5 x6 x7=>(l357 x2 x3 x4 x5 x6 x7)) (λx1 x2 x3 x4 x5 x6=>(l357 x1 x2 x3 x4 x5 x6)) (λx1 x2 x3 x4 x5 x6=>(l357 x1 x2 x3 x4 x5 x6)) (λ_ x2 x3 x4 x5 x6 x7=>(l357 x2 x3 x4 x5 x6 x7)) (λ_ x2 x3 x4 x5 x6 x7=>(l357 x2 x3 x4 x5 x6 x7)) (λ_ _ x3 x4 x5 x6 x7 x8=>(l357 x3 x4 x5 x6 x7 x8)) (λ_ _ x3 x4 x5 x6 x7 x8=>(l357 x3 x4 x5 x6 x7 x8)) (λ_ _ x3 x4 x5 x6 x7 x8=>(l357 x3 x4 x5 x6 x7 x8)) (λ_ x2 x3 x4 x5 x6 x7=>(l357 x2 x3 x4 x5 x6 x7)) (λ_ _ _ x4 x5 x6 x7 x8 x9=>(l357 x4 x5 x6 x7 x8 x9)) (λ_ _ _ _ _ _ _=>none) (λ_ x2 x3 x4 x5 x6 x7=>(l357 x2 x3 x4 x5 x6 x7)) (λ_ _ x3 x4 x5 x6 x7 x8=>(l357 x3 x4 x5 x6 x7 x8)) x0))
theorem l358_eq : ∀ x0 x1 x2 x3 x4 x5 x6, (Eq (l358 x0 x1 x2 x3 x4 x5 x6) (@ifaceOk'._sparseCasesOn_1 (λ_=>t4) x0 (λ_=>none) (λ_=>(l357 x1 x2 x3 x4 x5 x6)))) := by intro t; cases t <;> (intros; rfl)
abbrev t967:=t336 → t965
def l359 : t967 := (λx0=>(@Option.rec TypeDesc (λ_=>t965) (λ_ _ _ _ _ _=>none) (λx1 x2 x3 x4 x5 x6 x7=>(l358 x1 x2 x3 x4 x5 x6 x7)) x0))
theorem l359_eq : ∀ x0 x1 x2 x3 x4 x5 x6, (Eq (l359 x0 x1 x2 x3 x4 x5 x6) (@elInfo._sparseCasesOn_3 TypeDesc (λ_=>t4) x0 (λx7=>(l358 x7 x1 x2 x3 x4 x5 x6)) (λ_=>none))) := by intro t; cases t <;> (intros; rfl)
def k_o_typeAssert : t965 := (λx0 x1 x2 x3 x4 x5=>(l359 (Program.underlying x0 x3) x0 x1 x2 x3 x4 x5))
theorem k_o_typeAssert_eq : @k_o_typeAssert = o_typeAssert := by
  delta k_o_typeAssert o_typeAssert
  simp only [l356_eq, l353_eq, l357_eq, l359_eq, l358_eq, l355_eq, l354_eq]
  rw [k_oneZ_eq, k_ok1_eq, k_ev_eq]
  all_goals kernel_rfl

abbrev t968:=t7 → t740
def k_List_get?Internal_CV : t968 := (λx0 x1=>(@List.rec CV (λ_=>t740) (λ_=>none) (λx2 _ x4 x5=>(@Nat.rec (λ_=>t81) (some x2) (λx6 _=>(x4 x6)) x5)) x0 x1))
theorem k_List_get?Internal_CV_law : ∀ x0 x1, (Eq (k_List_get?Internal_CV x0 x1) (@List.get?Internal CV x0 x1)) := by
  intro t
  induction t with
  | nil  =>
    intro z0
    show ((fun (_ : Nat) => none) z0) = _
    conv => rhs; rw [List.get?Internal.eq_def]
    all_goals kernel_rfl
  | cons y0 y1 ih0 =>
    intro z0
    have e0 : (fun (x0 : Nat) => (k_List_get?Internal_CV y1 x0)) = (fun (x0 : Nat) => (@List.get?Internal CV y1 x0)) := by
      funext z0; exact ih0 z0
    show ((fun (x0 : CV) (_ : t7) (x2 : t740) (x3 : Nat) => (@Nat.rec (fun (_ : Nat) => t81) (some x0) (fun (x4 : Nat) (_ : t81) => (x2 x4)) x3)) y0 y1 (fun (x0 : Nat) => (k_List_get?Internal_CV y1 x0)) z0) = _
    rw [e0]
    conv => rhs; rw [List.get?Internal.eq_def]
    all_goals kernel_rfl
theorem k_List_get?Internal_CV_eq : @k_List_get?Internal_CV = (@List.get?Internal CV) := by
  funext a0 a1; exact k_List_get?Internal_CV_law a0 a1
abbrev t969:=CV → t106
def l360 : t969 := (λx0=>(@CV.rec (λ_=>t106) (λ_=>PUnit.{1}) (λ_ _=>none) (λ_ _ _=>none) (λ_ _ _ _=>none) (λ_ _ _ _ _ _ _=>none) (λ_ _=>none) (λ_ _ _=>none) (λ_ _ _ _=>none) (λx1 _ x3 x4=>(@Option.rec CV (λ_=>t4) none (λx5=>((λx6=>(k_ok1 x6 x4)) x5)) (k_List_get?Internal_CV x1 x3))) (λ_ _ _ _ _ _ _=>none) (λ_ _ _=>none) (λ_ _ _ _ _=>none) PUnit.unit.{1} (λ_ _ _ _=>PUnit.unit.{1}) x0))
theorem l360_eq : ∀ x0 x1 x2, (Eq (l360 x0 x1 x2) (@o_extract._sparseCasesOn_1 (λ_=>t4) x0 (λx3=>(@Option.rec CV (λ_=>t4) none (λx4=>((λx5=>(k_ok1 x5 x2)) x4)) (k_List_get?Internal_CV x3 x1))) (λ_=>none))) := by intro t; cases t <;> (intros; rfl)
abbrev t970:=t81 → t106
def l361 : t970 := (λx0=>(@Option.rec CV (λ_=>t106) (λ_ _=>none) (λx1 x2 x3=>(l360 x1 x2 x3)) x0))
theorem l361_eq : ∀ x0 x1 x2, (Eq (l361 x0 x1 x2) (@elInfo._sparseCasesOn_3 CV (λ_=>t4) x0 (λx3=>(l360 x3 x1 x2)) (λ_=>none))) := by intro t; cases t <;> (intros; rfl)
abbrev t971:=t14 → t862
abbrev t972:=Program → t971
def k_o_extract : t972 := (λ_ x1 x2 x3 x4=>(l361 (k_ev x1 x2) x3 x4))
theorem k_o_extract_eq : @k_o_extract = o_extract := by
  delta k_o_extract o_extract
  simp only [l360_eq, l361_eq]
  rw [k_ev_eq, k_List_get?Internal_CV_eq, k_ok1_eq]
  all_goals kernel_rfl

abbrev t973:=Nat → t843
abbrev t974:=t7 → t973
abbrev t975:=Nat → t974
abbrev t976:=Nat → t975
abbrev t977:=TypeId → t976
abbrev t978:=t497 → t977
def l364 : t978 := (λx0=>(@Option.rec Addr (λ_=>t977) (λx1 x2 x3 x4 x5 x6 x7 x8=>(@dite ((λ_=>t4) (CV.val (Value.slice none x7 x8))) (Eq x7 (@OfNat.ofNat Nat (nat_lit 0) (instOfNatNat (nat_lit 0)))) (instDecidableEqNat x7 (@OfNat.ofNat Nat (nat_lit 0) (instOfNatNat (nat_lit 0)))) (@Eq.ndrec_symm Nat (@OfNat.ofNat Nat (nat_lit 0) (instOfNatNat (nat_lit 0))) (λx9=>((λ_=>t4) (CV.val (Value.slice none x9 x8)))) (@dite ((λ_=>t4) (CV.val (Value.slice none (@OfNat.ofNat Nat (nat_lit 0) (instOfNatNat (nat_lit 0))) x8))) (Eq x8 (@OfNat.ofNat Nat (nat_lit 0) (instOfNatNat (nat_lit 0)))) (instDecidableEqNat x8 (@OfNat.ofNat Nat (nat_lit 0) (instOfNatNat (nat_lit 0)))) (@Eq.ndrec_symm Nat (@OfNat.ofNat Nat (nat_lit 0) (instOfNatNat (nat_lit 0))) (λx9=>((λ_=>t4) (CV.val (Value.slice none (@OfNat.ofNat Nat (nat_lit 0) (instOfNatNat (nat_lit 0))) x9)))) ((λ_=>(@cond t4 (Nat.beq x5 (@OfNat.ofNat Nat (nat_lit 0) (instOfNatNat (nat_lit 0)))) (some (Ret.ok (CV.val (Value.slice none (@OfNat.ofNat Nat (nat_lit 0) (instOfNatNat (nat_lit 0))) (@OfNat.ofNat Nat (nat_lit 0) (instOfNatNat (nat_lit 0))))) x6)) (@cond t4 (Bool.and (Nat.ble (@HMul.hMul Nat Nat Nat (@instHMul Nat instMulNat) x5 x3) (@OfNat.ofNat Nat (nat_lit 140737488355328) (instOfNatNat (nat_lit 140737488355328)))) (Nat.ble x5 (@OfNat.ofNat Nat (nat_lit 9223372036854775807) (instOfNatNat (nat_lit 9223372036854775807))))) (@nw Ret x6 (CO.row x1 x4 Bool.true) (λx10 x11=>(some (Ret.ok (CV.sl x10 (@OfNat.ofNat Nat (nat_lit 0) (instOfNatNat (nat_lit 0))) x5 none x2) x11)))) none))) Unit.unit) x8) (λ_=>((λ_=>none) (CV.val (Value.slice none (@OfNat.ofNat Nat (nat_lit 0) (instOfNatNat (nat_lit 0))) x8))))) x7) (λ_=>((λ_=>none) (CV.val (Value.slice none x7 x8)))))) (λ_ _ _ _ _ _ _ _ _=>none) x0))
theorem l364_eq : ∀ x0 x1 x2 x3 x4 x5 x6 x7 x8, (Eq (l364 x0 x1 x2 x3 x4 x5 x6 x7 x8) (@sliceV._sparseCasesOn_7 Addr (λ_=>t4) x0 (@dite ((λ_=>t4) (CV.val (Value.slice none x7 x8))) (Eq x7 (@OfNat.ofNat Nat (nat_lit 0) (instOfNatNat (nat_lit 0)))) (instDecidableEqNat x7 (@OfNat.ofNat Nat (nat_lit 0) (instOfNatNat (nat_lit 0)))) (@Eq.ndrec_symm Nat (@OfNat.ofNat Nat (nat_lit 0) (instOfNatNat (nat_lit 0))) (λx9=>((λ_=>t4) (CV.val (Value.slice none x9 x8)))) (@dite ((λ_=>t4) (CV.val (Value.slice none (@OfNat.ofNat Nat (nat_lit 0) (instOfNatNat (nat_lit 0))) x8))) (Eq x8 (@OfNat.ofNat Nat (nat_lit 0) (instOfNatNat (nat_lit 0)))) (instDecidableEqNat x8 (@OfNat.ofNat Nat (nat_lit 0) (instOfNatNat (nat_lit 0)))) (@Eq.ndrec_symm Nat (@OfNat.ofNat Nat (nat_lit 0) (instOfNatNat (nat_lit 0))) (λx9=>((λ_=>t4) (CV.val (Value.slice none (@OfNat.ofNat Nat (nat_lit 0) (instOfNatNat (nat_lit 0))) x9)))) ((λ_=>(@cond t4 (Nat.beq x5 (@OfNat.ofNat Nat (nat_lit 0) (instOfNatNat (nat_lit 0)))) (some (Ret.ok (CV.val (Value.slice none (@OfNat.ofNat Nat (nat_lit 0) (instOfNatNat (nat_lit 0))) (@OfNat.ofNat Nat (nat_lit 0) (instOfNatNat (nat_lit 0))))) x6)) (@cond t4 (Bool.and (Nat.ble (@HMul.hMul Nat Nat Nat (@instHMul Nat instMulNat) x5 x3) (@OfNat.ofNat Nat (nat_lit 140737488355328) (instOfNatNat (nat_lit 140737488355328)))) (Nat.ble x5 (@OfNat.ofNat Nat (nat_lit 9223372036854775807) (instOfNatNat (nat_lit 9223372036854775807))))) (@nw Ret x6 (CO.row x1 x4 Bool.true) (λx10 x11=>(some (Ret.ok (CV.sl x10 (@OfNat.ofNat Nat (nat_lit 0) (instOfNatNat (nat_lit 0))) x5 none x2) x11)))) none))) Unit.unit) x8) (λ_=>((λ_=>none) (CV.val (Value.slice none (@OfNat.ofNat Nat (nat_lit 0) (instOfNatNat (nat_lit 0))) x8))))) x7) (λ_=>((λ_=>none) (CV.val (Value.slice none x7 x8))))) (λ_=>none))) := by intro t; cases t <;> (intros; rfl)
abbrev t979:=t7 → t106
abbrev t980:=Nat → t979
abbrev t981:=Nat → t980
abbrev t982:=TypeId → t981
abbrev t983:=Value → t982
def l365 : t983 := (λx0=>(@Value.rec (λ_=>t982) (λ_=>PUnit.{1}) (λ_=>PUnit.{1}) (λ_ _ _ _ _ _ _=>none) (λ_ _ _ _ _ _ _ _=>none) (λ_ _ _ _ _ _ _ _=>none) (λ_ _ _ _ _ _ _ _ _=>none) (λ_ _ _ _ _ _ _=>none) (λ_ _ _ _ _ _ _=>none) (λx1 x2 x3 x4 x5 x6 x7 x8 x9=>(l364 x1 x4 x5 x6 x7 x8 x9 x2 x3)) (λ_ _ _ _ _ _ _=>none) (λ_ _ _ _ _ _ _=>none) (λ_ _ _ _ _ _ _ _ _ _ _=>none) (λ_ _ _ _ _ _=>none) (λ_ _ _ _ _ _ _ _ _=>none) (λ_ _ _ _ _ _=>none) (λ_ _ _ _ _ _ _ _=>none) (λ_ _ _ _ _ _ _ _=>none) (λ_ _=>PUnit.unit.{1}) PUnit.unit.{1} (λ_ _ _ _=>PUnit.unit.{1}) x0))
theorem l365_eq : ∀ x0 x1 x2 x3 x4 x5 x6, (Eq (l365 x0 x1 x2 x3 x4 x5 x6) (@sliceV._sparseCasesOn_6 (λ_=>t4) x0 (λx7 x8 x9=>(l364 x7 x1 x2 x3 x4 x5 x6 x8 x9)) (λ_=>none))) := by intro t; cases t <;> (intros; rfl)
abbrev t984:=Nat → t106
abbrev t985:=Nat → t984
abbrev t986:=Nat → t985
abbrev t987:=TypeId → t986
abbrev t988:=t31 → t987
def l366 : t988 := (λx0=>(@Option.rec t7 (λ_=>t987) (λ_ _ _ _ _ _=>none) (λx1 x2 x3 x4 x5 x6 x7=>((λx8=>(k_wr_Ret x7 x5 none (λx9=>(k_nw_Ret x9 (CO.row x2 x8 Bool.true) (λx10 x11=>(some (Ret.ok (CV.sl x10 (nat_lit 0) (Nat.add x6 x4) none x3) x11))))))) x1)) x0))
theorem l366_eq : ∀ x0 x1 x2 x3 x4 x5 x6, (Eq (l366 x0 x1 x2 x3 x4 x5 x6) (@Option.rec t7 (λ_=>t4) none (λx7=>((λx8=>(k_wr_Ret x6 x4 none (λx9=>(k_nw_Ret x9 (CO.row x1 x8 Bool.true) (λx10 x11=>(some (Ret.ok (CV.sl x10 (nat_lit 0) (Nat.add x5 x3) none x2) x11))))))) x7)) x0)) := by intro t; cases t <;> (intros; rfl)
def k_cat_CV : t238 := (λx0 x1=>(@List.rec CV (λ_=>t32) (λx2=>(some x2)) (λx2 _ x4 x5=>(@Option.rec t7 (λ_=>t31) none (λx6=>(some (x2 :: x6))) (x4 x5))) x0 x1))
theorem k_cat_CV_law : ∀ x0 x1, (Eq (k_cat_CV x0 x1) (@cat CV x0 x1)) := by
  intro t
  induction t with
  | nil  =>
    intro z0
    show ((fun (x0 : t7) => (some x0)) z0) = _
    conv => rhs; rw [Ev.cat.eq_def]
    all_goals kernel_rfl
  | cons y0 y1 ih0 =>
    intro z0
    have e0 : (fun (x0 : t7) => (k_cat_CV y1 x0)) = (fun (x0 : t7) => (@cat CV y1 x0)) := by
      funext z0; exact ih0 z0
    show ((fun (x0 : CV) (_ : t7) (x2 : t32) (x3 : t7) => (@Option.rec t7 (fun (_ : t31) => t31) none (fun (x4 : t7) => (some (x0 :: x4))) (x2 x3))) y0 y1 (fun (x0 : t7) => (k_cat_CV y1 x0)) z0) = _
    rw [e0]
    conv => rhs; rw [Ev.cat.eq_def]
    all_goals kernel_rfl
theorem k_cat_CV_eq : @k_cat_CV = (@cat CV) := by
  funext a0 a1; exact k_cat_CV_law a0 a1
abbrev t989:=TypeId → t252
abbrev t990:=S → t989
abbrev t991:=Nat → t990
abbrev t992:=Nat → t991
abbrev t993:=Nat → t992
abbrev t994:=t7 → t993
abbrev t995:=Nat → t994
abbrev t996:=TypeId → t995
abbrev t997:=Bool → t996
def l367 : t997 := (λx0=>(@Bool.rec (λ_=>t996) (λ_ _ _ _ _ _ _ _ _=>none) (λx1 x2 x3 x4 x5 x6 x7 x8 x9=>(@Bool.rec (λ_=>t4) none (l366 (k_cat_CV x9 x3) x1 x2 x4 x5 x6 x7) (@Bool.rec (λ_=>Bool) Bool.false (Nat.beq (k_len x9) (Nat.mul x6 x2)) (Nat.beq x8 x1)))) x0))
theorem l367_eq : ∀ x0 x1 x2 x3 x4 x5 x6 x7 x8 x9, (Eq (l367 x0 x1 x2 x3 x4 x5 x6 x7 x8 x9) (@appendV._sparseCasesOn_1 (λ_=>t4) x0 (@Bool.rec (λ_=>t4) none (l366 (k_cat_CV x9 x3) x1 x2 x4 x5 x6 x7) (@Bool.rec (λ_=>Bool) Bool.false (Nat.beq (k_len x9) (Nat.mul x6 x2)) (Nat.beq x8 x1))) (λ_=>none))) := by intro t; cases t <;> (intros; rfl)
abbrev t998:=t7 → t985
abbrev t999:=Nat → t998
abbrev t1000:=TypeId → t999
abbrev t1001:=CO → t1000
def l368 : t1001 := (λx0=>(@CO.rec (λ_=>t1000) (λx1 x2 x3 x4 x5 x6 x7 x8 x9 x10=>(l367 x3 x4 x5 x6 x7 x8 x9 x10 x1 x2)) (λ_ _ _ _ _ _ _ _ _ _=>none) (λ_ _ _ _ _ _ _ _ _ _ _ _ _ _ _=>none) (λ_ _ _ _ _ _ _=>none) (λ_ _ _ _ _ _ _=>none) x0))
theorem l368_eq : ∀ x0 x1 x2 x3 x4 x5 x6 x7, (Eq (l368 x0 x1 x2 x3 x4 x5 x6 x7) (@rdRow._sparseCasesOn_1 (λ_=>t4) x0 (λx8 x9 x10=>(l367 x10 x1 x2 x3 x4 x5 x6 x7 x8 x9)) (λ_=>none))) := by intro t; cases t <;> (intros; rfl)
abbrev t1002:=Bool → t977
def l369 : t1002 := (λx0=>(@Bool.rec (λ_=>t977) (λx1 x2 x3 x4 x5 x6 x7 x8=>(@Bool.rec (λ_=>t4) none (k_rd_Ret x6 x7 (λx9 x10=>(l368 x9 x1 x2 x4 x5 x7 x8 x10))) (@Bool.rec (λ_=>Bool) Bool.false (Nat.ble (Nat.add x8 x5) (nat_lit 9223372036854775807)) (Nat.ble (Nat.mul (Nat.add x8 x5) x3) (nat_lit 140737488355328))))) (λ_ _ _ _ _ _ _ _=>none) x0))
theorem l369_eq : ∀ x0 x1 x2 x3 x4 x5 x6 x7 x8, (Eq (l369 x0 x1 x2 x3 x4 x5 x6 x7 x8) (@Bool.rec (λ_=>t4) (@Bool.rec (λ_=>t4) none (k_rd_Ret x6 x7 (λx9 x10=>(l368 x9 x1 x2 x4 x5 x7 x8 x10))) (@Bool.rec (λ_=>Bool) Bool.false (Nat.ble (Nat.add x8 x5) (nat_lit 9223372036854775807)) (Nat.ble (Nat.mul (Nat.add x8 x5) x3) (nat_lit 140737488355328)))) none x0)) := by intro t; cases t <;> (intros; rfl)
abbrev t1003:=TypeId → t985
abbrev t1004:=t31 → t1003
def l370 : t1004 := (λx0=>(@Option.rec t7 (λ_=>t1003) (λ_ _ _ _ _=>none) (λx1 x2 x3 x4 x5 x6=>((λx7=>(k_nw_Ret x6 (CO.row x2 x7 Bool.true) (λx8 x9=>(some (Ret.ok (CV.sl x8 (nat_lit 0) (Nat.add x5 x4) none x3) x9))))) x1)) x0))
theorem l370_eq : ∀ x0 x1 x2 x3 x4 x5, (Eq (l370 x0 x1 x2 x3 x4 x5) (@Option.rec t7 (λ_=>t4) none (λx6=>((λx7=>(k_nw_Ret x5 (CO.row x1 x7 Bool.true) (λx8 x9=>(some (Ret.ok (CV.sl x8 (nat_lit 0) (Nat.add x4 x3) none x2) x9))))) x6)) x0)) := by intro t; cases t <;> (intros; rfl)
abbrev t1005:=Nat → t478
abbrev t1006:=t7 → t1005
abbrev t1007:=Nat → t1006
abbrev t1008:=TypeId → t1007
abbrev t1009:=Bool → t1008
def l371 : t1009 := (λx0=>(@Bool.rec (λ_=>t1008) (λ_ _ _ _ _ _ _ _=>none) (λx1 x2 x3 x4 x5 x6 x7 x8=>(k_rdRow x5 x6 x7 (Nat.mul x8 x2) (λx9 x10=>(l370 (k_cat_CV x9 x3) x1 x2 x4 x8 x10)))) x0))
theorem l371_eq : ∀ x0 x1 x2 x3 x4 x5 x6 x7 x8, (Eq (l371 x0 x1 x2 x3 x4 x5 x6 x7 x8) (@Bool.rec (λ_=>t4) none (k_rdRow x5 x6 x7 (Nat.mul x8 x2) (λx9 x10=>(l370 (k_cat_CV x9 x3) x1 x2 x4 x8 x10))) x0)) := by intro t; cases t <;> (intros; rfl)
abbrev t1010:=TypeId → t488
abbrev t1011:=S → t1010
abbrev t1012:=Nat → t1011
abbrev t1013:=Nat → t1012
abbrev t1014:=Nat → t1013
abbrev t1015:=Nat → t1014
abbrev t1016:=Nat → t1015
abbrev t1017:=Nat → t1016
abbrev t1018:=t31 → t1017
def l372 : t1018 := (λx0=>(@Option.rec t7 (λ_=>t1017) (λ_ _ _ _ _ _ _ _ _=>none) (λx1 x2 x3 x4 x5 x6 x7 x8 x9 x10=>((λx11=>(k_wr_Ret x8 x3 (some (CO.row x9 x11 x10)) (λx12=>(some (Ret.ok (CV.sl x3 x4 (Nat.add x5 x2) (some x6) x7) x12))))) x1)) x0))
theorem l372_eq : ∀ x0 x1 x2 x3 x4 x5 x6 x7 x8 x9, (Eq (l372 x0 x1 x2 x3 x4 x5 x6 x7 x8 x9) (@Option.rec t7 (λ_=>t4) none (λx10=>((λx11=>(k_wr_Ret x7 x2 (some (CO.row x8 x11 x9)) (λx12=>(some (Ret.ok (CV.sl x2 x3 (Nat.add x4 x1) (some x5) x6) x12))))) x10)) x0)) := by intro t; cases t <;> (intros; rfl)
abbrev t1019:=Nat → t986
abbrev t1020:=Nat → t1019
abbrev t1021:=t7 → t1020
abbrev t1022:=Nat → t1021
abbrev t1023:=CO → t1022
def l373 : t1023 := (λx0=>(@CO.rec (λ_=>t1022) (λx1 x2 x3 x4 x5 x6 x7 x8 x9 x10 x11 x12=>(l372 (k_putN (Nat.add x8 (Nat.mul x9 x4)) x5 x2) x6 x7 x8 x9 x10 x11 x12 x1 x3)) (λ_ _ _ _ _ _ _ _ _ _ _ _=>none) (λ_ _ _ _ _ _ _ _ _ _ _ _ _ _ _ _ _=>none) (λ_ _ _ _ _ _ _ _ _=>none) (λ_ _ _ _ _ _ _ _ _=>none) x0))
theorem l373_eq : ∀ x0 x1 x2 x3 x4 x5 x6 x7 x8 x9, (Eq (l373 x0 x1 x2 x3 x4 x5 x6 x7 x8 x9) (@rdRow._sparseCasesOn_1 (λ_=>t4) x0 (λx10 x11 x12=>(l372 (k_putN (Nat.add x5 (Nat.mul x6 x1)) x2 x11) x3 x4 x5 x6 x7 x8 x9 x10 x12)) (λ_=>none))) := by intro t; cases t <;> (intros; rfl)
abbrev t1024:=Nat → t886
abbrev t1025:=t7 → t1024
abbrev t1026:=Nat → t1025
abbrev t1027:=Nat → t1026
abbrev t1028:=TypeId → t1027
abbrev t1029:=Bool → t1028
def l374 : t1029 := (λx0=>(@Bool.rec (λ_=>t1028) (λx1 x2 x3 x4 x5 x6 x7 x8 x9 _ _=>(l371 (@Bool.rec (λ_=>Bool) Bool.false (Nat.ble (Nat.add x9 x5) (nat_lit 9223372036854775807)) (Nat.ble (Nat.mul (Nat.add x9 x5) x3) (nat_lit 140737488355328))) x1 x2 x4 x5 x6 x7 x8 x9)) (λ_ x2 _ x4 x5 x6 x7 x8 x9 x10 x11=>(k_rd_Ret x6 x7 (λx12 x13=>(l373 x12 x2 x4 x5 x7 x8 x9 x10 x11 x13)))) x0))
theorem l374_eq : ∀ x0 x1 x2 x3 x4 x5 x6 x7 x8 x9 x10 x11, (Eq (l374 x0 x1 x2 x3 x4 x5 x6 x7 x8 x9 x10 x11) (@Bool.rec (λ_=>t4) (l371 (@Bool.rec (λ_=>Bool) Bool.false (Nat.ble (Nat.add x9 x5) (nat_lit 9223372036854775807)) (Nat.ble (Nat.mul (Nat.add x9 x5) x3) (nat_lit 140737488355328))) x1 x2 x4 x5 x6 x7 x8 x9) (k_rd_Ret x6 x7 (λx12 x13=>(l373 x12 x2 x4 x5 x7 x8 x9 x10 x11 x13))) x0)) := by intro t; cases t <;> (intros; rfl)
def l375 : t1029 := (λx0=>(@Bool.rec (λ_=>t1028) (λx1 x2 x3 x4 x5 x6 x7 x8 x9 x10 x11=>(l374 (Nat.ble (Nat.add x9 x5) x10) x1 x2 x3 x4 x5 x6 x7 x8 x9 x10 x11)) (λ_ _ _ _ _ _ _ _ _ _ _=>none) x0))
theorem l375_eq : ∀ x0 x1 x2 x3 x4 x5 x6 x7 x8 x9 x10 x11, (Eq (l375 x0 x1 x2 x3 x4 x5 x6 x7 x8 x9 x10 x11) (@Bool.rec (λ_=>t4) (l374 (Nat.ble (Nat.add x9 x5) x10) x1 x2 x3 x4 x5 x6 x7 x8 x9 x10 x11) none x0)) := by intro t; cases t <;> (intros; rfl)
abbrev t1030:=Nat → t670
abbrev t1031:=t7 → t1030
abbrev t1032:=Nat → t1031
abbrev t1033:=Nat → t1032
abbrev t1034:=TypeId → t1033
abbrev t1035:=t164 → t1034
def l376 : t1035 := (λx0=>(@Option.rec Nat (λ_=>t1034) (λx1 x2 x3 x4 x5 x6 x7 x8 x9 x10=>(l369 (@Bool.rec (λ_=>Bool) Bool.true Bool.false (@Bool.rec (λ_=>Bool) Bool.false (Nat.beq x8 (nat_lit 0)) (Nat.beq x10 x2))) x1 x2 x3 x4 x5 x6 x7 x9)) (λx1 x2 x3 x4 x5 x6 x7 x8 x9 x10 x11=>((λx12 x13 x14 x15 x16=>(l375 (@Bool.rec (λ_=>Bool) Bool.true Bool.false (Nat.beq x16 x3)) x2 x3 x4 x5 x6 x7 x12 x13 x14 x15 x16)) x8 x9 x10 x1 x11)) x0))
theorem l376_eq : ∀ x0 x1 x2 x3 x4 x5 x6 x7 x8 x9 x10, (Eq (l376 x0 x1 x2 x3 x4 x5 x6 x7 x8 x9 x10) (@Option.rec Nat (λ_=>t4) (l369 (@Bool.rec (λ_=>Bool) Bool.true Bool.false (@Bool.rec (λ_=>Bool) Bool.false (Nat.beq x8 (nat_lit 0)) (Nat.beq x10 x2))) x1 x2 x3 x4 x5 x6 x7 x9) (λx11=>((λx12 x13 x14 x15 x16=>(l375 (@Bool.rec (λ_=>Bool) Bool.true Bool.false (Nat.beq x16 x2)) x1 x2 x3 x4 x5 x6 x12 x13 x14 x15 x16)) x7 x8 x9 x11 x10)) x0)) := by intro t; cases t <;> (intros; rfl)
abbrev t1036:=CV → t982
def l377 : t1036 := (λx0=>(@CV.rec (λ_=>t982) (λ_=>PUnit.{1}) (λ_ _ _ _ _ _=>none) (λx1 x2 x3 x4 x5 x6 x7=>(l365 x1 x2 x3 x4 x5 x6 x7)) (λ_ _ _ _ _ _ _ _=>none) (λx1 x2 x3 x4 x5 x6 x7 x8 x9 x10 x11=>(l376 x4 x6 x7 x8 x9 x10 x11 x1 x2 x3 x5)) (λ_ _ _ _ _ _=>none) (λ_ _ _ _ _ _ _=>none) (λ_ _ _ _ _ _ _ _=>none) (λ_ _ _ _ _ _ _ _=>none) (λ_ _ _ _ _ _ _ _ _ _ _=>none) (λ_ _ _ _ _ _ _=>none) (λ_ _ _ _ _ _ _ _ _=>none) PUnit.unit.{1} (λ_ _ _ _=>PUnit.unit.{1}) x0))
theorem l377_eq : ∀ x0 x1 x2 x3 x4 x5 x6, (Eq (l377 x0 x1 x2 x3 x4 x5 x6) (@appendV._sparseCasesOn_2 (λ_=>t4) x0 (λx7=>(l365 x7 x1 x2 x3 x4 x5 x6)) (λx7 x8 x9 x10 x11=>(l376 x10 x1 x2 x3 x4 x5 x6 x7 x8 x9 x11)) (λ_=>none))) := by intro t; cases t <;> (intros; rfl)
abbrev t1037:=t979 → t47
abbrev t1038:=S → t1037
abbrev t1039:=t497 → t1038
def l379 : t1039 := (λx0=>(@Option.rec Addr (λ_=>t1038) (λx1 x2 x3 x4=>(@dite ((λ_=>t4) (CV.val (Value.slice none x3 x4))) (Eq x3 (@OfNat.ofNat Nat (nat_lit 0) (instOfNatNat (nat_lit 0)))) (instDecidableEqNat x3 (@OfNat.ofNat Nat (nat_lit 0) (instOfNatNat (nat_lit 0)))) (@Eq.ndrec_symm Nat (@OfNat.ofNat Nat (nat_lit 0) (instOfNatNat (nat_lit 0))) (λx5=>((λ_=>t4) (CV.val (Value.slice none x5 x4)))) (@dite ((λ_=>t4) (CV.val (Value.slice none (@OfNat.ofNat Nat (nat_lit 0) (instOfNatNat (nat_lit 0))) x4))) (Eq x4 (@OfNat.ofNat Nat (nat_lit 0) (instOfNatNat (nat_lit 0)))) (instDecidableEqNat x4 (@OfNat.ofNat Nat (nat_lit 0) (instOfNatNat (nat_lit 0)))) (@Eq.ndrec_symm Nat (@OfNat.ofNat Nat (nat_lit 0) (instOfNatNat (nat_lit 0))) (λx5=>((λ_=>t4) (CV.val (Value.slice none (@OfNat.ofNat Nat (nat_lit 0) (instOfNatNat (nat_lit 0))) x5)))) ((λ_=>(x2 [] (@OfNat.ofNat Nat (nat_lit 0) (instOfNatNat (nat_lit 0))) x1)) Unit.unit) x4) (λ_=>((λ_=>none) (CV.val (Value.slice none (@OfNat.ofNat Nat (nat_lit 0) (instOfNatNat (nat_lit 0))) x4))))) x3) (λ_=>((λ_=>none) (CV.val (Value.slice none x3 x4)))))) (λ_ _ _ _ _=>none) x0))
theorem l379_eq : ∀ x0 x1 x2 x3 x4, (Eq (l379 x0 x1 x2 x3 x4) (@sliceV._sparseCasesOn_7 Addr (λ_=>t4) x0 (@dite ((λ_=>t4) (CV.val (Value.slice none x3 x4))) (Eq x3 (@OfNat.ofNat Nat (nat_lit 0) (instOfNatNat (nat_lit 0)))) (instDecidableEqNat x3 (@OfNat.ofNat Nat (nat_lit 0) (instOfNatNat (nat_lit 0)))) (@Eq.ndrec_symm Nat (@OfNat.ofNat Nat (nat_lit 0) (instOfNatNat (nat_lit 0))) (λx5=>((λ_=>t4) (CV.val (Value.slice none x5 x4)))) (@dite ((λ_=>t4) (CV.val (Value.slice none (@OfNat.ofNat Nat (nat_lit 0) (instOfNatNat (nat_lit 0))) x4))) (Eq x4 (@OfNat.ofNat Nat (nat_lit 0) (instOfNatNat (nat_lit 0)))) (instDecidableEqNat x4 (@OfNat.ofNat Nat (nat_lit 0) (instOfNatNat (nat_lit 0)))) (@Eq.ndrec_symm Nat (@OfNat.ofNat Nat (nat_lit 0) (instOfNatNat (nat_lit 0))) (λx5=>((λ_=>t4) (CV.val (Value.slice none (@OfNat.ofNat Nat (nat_lit 0) (instOfNatNat (nat_lit 0))) x5)))) ((λ_=>(x2 [] (@OfNat.ofNat Nat (nat_lit 0) (instOfNatNat (nat_lit 0))) x1)) Unit.unit) x4) (λ_=>((λ_=>none) (CV.val (Value.slice none (@OfNat.ofNat Nat (nat_lit 0) (instOfNatNat (nat_lit 0))) x4))))) x3) (λ_=>((λ_=>none) (CV.val (Value.slice none x3 x4))))) (λ_=>none))) := by intro t; cases t <;> (intros; rfl)
abbrev t1040:=t979 → t4
abbrev t1041:=S → t1040
abbrev t1042:=Value → t1041
def l380 : t1042 := (λx0=>(@Value.rec (λ_=>t1041) (λ_=>PUnit.{1}) (λ_=>PUnit.{1}) (λ_ _ _=>none) (λ_ _ _ _=>none) (λ_ _ _ _=>none) (λ_ _ _ _ _=>none) (λ_ _ _=>none) (λ_ _ _=>none) (λx1 x2 x3 x4 x5=>(l379 x1 x4 x5 x2 x3)) (λ_ _ _=>none) (λ_ _ _=>none) (λ_ _ _ _ _ _ _=>none) (λ_ _=>none) (λ_ _ _ _ _=>none) (λ_ _=>none) (λ_ _ _ _=>none) (λ_ _ _ _=>none) (λ_ _=>PUnit.unit.{1}) PUnit.unit.{1} (λ_ _ _ _=>PUnit.unit.{1}) x0))
theorem l380_eq : ∀ x0 x1 x2, (Eq (l380 x0 x1 x2) (@sliceV._sparseCasesOn_6 (λ_=>t4) x0 (λx3 x4 x5=>(l379 x3 x1 x2 x4 x5)) (λ_=>none))) := by intro t; cases t <;> (intros; rfl)
abbrev t1043:=t979 → t41
abbrev t1044:=S → t1043
abbrev t1045:=CV → t1044
def l381 : t1045 := (λx0=>(@CV.rec (λ_=>t1044) (λ_=>PUnit.{1}) (λ_ _ _=>none) (λx1 x2 x3 _=>(l380 x1 x2 x3)) (λ_ _ _ _ _=>none) (λx1 x2 x3 _ x5 x6 x7 x8=>(@Bool.rec (λ_=>t4) none (k_rdRow x6 x1 x2 (Nat.mul x3 x8) (λx9 x10=>(x7 x9 x3 x10))) (Nat.beq x5 x8))) (λx1 x2 _=>(x2 [] (nat_lit 0) x1)) (λ_ _ _ _=>none) (λ_ _ _ _ _=>none) (λ_ _ _ _ _=>none) (λ_ _ _ _ _ _ _ _=>none) (λ_ _ _ _=>none) (λ_ _ _ _ _ _=>none) PUnit.unit.{1} (λ_ _ _ _=>PUnit.unit.{1}) x0))
theorem l381_eq : ∀ x0 x1 x2 x3, (Eq (l381 x0 x1 x2 x3) (@sliceV._sparseCasesOn_5 (λ_=>t4) x0 (λx4 x5 x6 _ x8=>(@Bool.rec (λ_=>t4) none (k_rdRow x1 x4 x5 (Nat.mul x6 x3) (λx9 x10=>(x2 x9 x6 x10))) (Nat.beq x8 x3))) (x2 [] (nat_lit 0) x1) (λx4=>(l380 x4 x1 x2)) (λ_=>none))) := by intro t; cases t <;> (intros; rfl)
abbrev t1046:=CV → t1041
abbrev t1047:=Nat → t1046
def k_srcCells : t1047 := (λx0 x1 x2 x3=>(l381 x1 x2 x3 x0))
theorem k_srcCells_eq : @k_srcCells = srcCells := by
  delta k_srcCells srcCells
  simp only [l379_eq, l381_eq, l380_eq]
  rw [k_rdRow_eq]
  all_goals kernel_rfl

abbrev t1048:=CV → t656
abbrev t1049:=CV → t1048
abbrev t1050:=Bool → t1049
def l378 : t1050 := (λx0=>(@Bool.rec (λ_=>t1049) (λx1 x2 x3 x4 x5 x6=>(k_srcCells x5 x2 x3 (λx7 x8 x9=>(@Bool.rec (λ_=>t4) (l377 x1 x4 x5 x6 x7 x8 x9) none (@Bool.rec (λ_=>Bool) Bool.true Bool.false (k_allOne x7)))))) (λ_ _ _ _ _ _=>none) x0))
theorem l378_eq : ∀ x0 x1 x2 x3 x4 x5 x6, (Eq (l378 x0 x1 x2 x3 x4 x5 x6) (@Bool.rec (λ_=>t4) (k_srcCells x5 x2 x3 (λx7 x8 x9=>(@Bool.rec (λ_=>t4) (l377 x1 x4 x5 x6 x7 x8 x9) none (@Bool.rec (λ_=>Bool) Bool.true Bool.false (k_allOne x7))))) none x0)) := by intro t; cases t <;> (intros; rfl)
abbrev t1051:=CV → t286
abbrev t1052:=CV → t1051
abbrev t1053:=t319 → t1052
def l382 : t1053 := (λx0=>(@Prod.rec Nat t213 (λ_=>t1052) (λx1 x2 x3 x4 x5 x6 x7=>((λx8 x9 x10 x11=>(l378 (@Bool.rec (λ_=>Bool) Bool.true Bool.false (@Bool.rec (λ_=>Bool) Bool.false (Nat.beq (@List.length Value x11) x9) (k_Nat_blt (nat_lit 0) x9))) x3 x4 x5 x8 x9 x10)) x6 x7 x1 x2)) x0))
theorem l382_eq : ∀ x0 x1 x2 x3 x4 x5, (Eq (l382 x0 x1 x2 x3 x4 x5) (@Prod.rec Nat t213 (λ_=>t4) (λx6 x7=>((λx8 x9 x10 x11=>(l378 (@Bool.rec (λ_=>Bool) Bool.true Bool.false (@Bool.rec (λ_=>Bool) Bool.false (Nat.beq (@List.length Value x11) x9) (k_Nat_blt (nat_lit 0) x9))) x1 x2 x3 x8 x9 x10)) x4 x5 x6 x7)) x0)) := by intro t; cases t <;> (intros; rfl)
abbrev t1054:=t327 → t428
def l383 : t1054 := (λx0=>(@Option.rec t326 (λ_=>t428) (λ_ _ _=>none) (λx1 x2 x3 x4=>(@Prod.rec TypeId t320 (λ_=>t4) (λx5 x6=>(@Prod.rec Nat t319 (λ_=>t4) (λx7 x8=>(l382 x8 x2 x3 x4 x5 x7)) x6)) x1)) x0))
theorem l383_eq : ∀ x0 x1 x2 x3, (Eq (l383 x0 x1 x2 x3) (@Option.rec t326 (λ_=>t4) none (λx4=>(@Prod.rec TypeId t320 (λ_=>t4) (λx5 x6=>(@Prod.rec Nat t319 (λ_=>t4) (λx7 x8=>(l382 x8 x1 x2 x3 x5 x7)) x6)) x4)) x0)) := by intro t; cases t <;> (intros; rfl)
def k_appendV : t530 := (λx0 x1 x2 x3 x4=>(l383 (k_elInfo x0 x1) x2 x3 x4))
theorem k_appendV_eq : @k_appendV = appendV := by
  delta k_appendV appendV
  simp only [l378_eq, l367_eq, l365_eq, l376_eq, l369_eq, l383_eq, l374_eq, l373_eq, l371_eq, l368_eq, l375_eq, l372_eq, l370_eq, l382_eq, l366_eq, l377_eq, l364_eq]
  rw [k_elInfo_eq, k_wr_Ret_eq, k_nw_Ret_eq, k_len_eq, k_cat_CV_eq, k_rd_Ret_eq, k_rdRow_eq, k_putN_eq, k_srcCells_eq, k_allOne_eq, k_Nat_blt_eq]
  all_goals kernel_rfl

abbrev t1055:=Program → t922
abbrev t1056:=t81 → t1055
def l363 : t1056 := (λx0=>(@Option.rec CV (λ_=>t1055) (λ_ _ _ _=>none) (λx1 x2 x3 x4 x5=>(k_appendV x2 x4 x5 x1 x3)) x0))
theorem l363_eq : ∀ x0 x1 x2 x3 x4, (Eq (l363 x0 x1 x2 x3 x4) (@elInfo._sparseCasesOn_3 CV (λ_=>t4) x0 (λx5=>(k_appendV x1 x3 x4 x5 x2)) (λ_=>none))) := by intro t; cases t <;> (intros; rfl)
abbrev t1057:=Operand → t74
abbrev t1058:=S → t1057
abbrev t1059:=t14 → t1058
abbrev t1060:=Program → t1059
abbrev t1061:=t81 → t1060
def l384 : t1061 := (λx0=>(@Option.rec CV (λ_=>t1060) (λ_ _ _ _ _=>none) (λx1 x2 x3 x4 x5 x6=>(l363 (k_ev x3 x5) x2 x4 x6 x1)) x0))
theorem l384_eq : ∀ x0 x1 x2 x3 x4 x5, (Eq (l384 x0 x1 x2 x3 x4 x5) (@elInfo._sparseCasesOn_3 CV (λ_=>t4) x0 (λx6=>(l363 (k_ev x2 x4) x1 x3 x5 x6)) (λ_=>none))) := by intro t; cases t <;> (intros; rfl)
abbrev t1062:=Operand → t1057
abbrev t1063:=S → t1062
abbrev t1064:=t14 → t1063
abbrev t1065:=Program → t1064
abbrev t1066:=TypeDesc → t1065
def l385 : t1066 := (λx0=>(@TypeDesc.rec (λ_=>t1065) (λ_ _ _ _ _ _=>none) (λ_ _ _ _ _ _=>none) (λ_ _ _ _ _ _ _=>none) (λ_ _ _ _ _ _ _=>none) (λ_ _ _ _ _ _ _=>none) (λ_ _ _ _ _ _=>none) (λ_ _ _ _ _ _=>none) (λ_ _ _ _ _ _ _=>none) (λ_ x2 x3 x4 x5 x6 x7=>(l384 (k_ev x3 x5) x2 x3 x4 x6 x7)) (λ_ _ _ _ _ _ _ _=>none) (λ_ _ _ _ _ _ _ _=>none) (λ_ _ _ _ _ _ _ _=>none) (λ_ _ _ _ _ _ _=>none) (λ_ _ _ _ _ _ _ _ _=>none) (λ_ _ _ _ _ _ _=>none) (λ_ _ _ _ _ _ _=>none) (λ_ _ _ _ _ _ _ _=>none) x0))
theorem l385_eq : ∀ x0 x1 x2 x3 x4 x5 x6, (Eq (l385 x0 x1 x2 x3 x4 x5 x6) (@elInfo._sparseCasesOn_4 (λ_=>t4) x0 (λ_=>(l384 (k_ev x2 x4) x1 x2 x3 x5 x6)) (λ_=>none))) := by intro t; cases t <;> (intros; rfl)
abbrev t1067:=t336 → t1065
def l386 : t1067 := (λx0=>(@Option.rec TypeDesc (λ_=>t1065) (λ_ _ _ _ _ _=>none) (λx1 x2 x3 x4 x5 x6 x7=>(l385 x1 x2 x3 x4 x5 x6 x7)) x0))
theorem l386_eq : ∀ x0 x1 x2 x3 x4 x5 x6, (Eq (l386 x0 x1 x2 x3 x4 x5 x6) (@elInfo._sparseCasesOn_3 TypeDesc (λ_=>t4) x0 (λx7=>(l385 x7 x1 x2 x3 x4 x5 x6)) (λ_=>none))) := by intro t; cases t <;> (intros; rfl)
abbrev t1068:=List TypeId
abbrev t1069:=Operand → t939
abbrev t1070:=Operand → t1069
abbrev t1071:=S → t1070
abbrev t1072:=t14 → t1071
abbrev t1073:=Program → t1072
abbrev t1074:=t1068 → t1073
def l387 : t1074 := (λx0=>(@List.rec TypeId (λ_=>t1073) (λx1 x2 x3 x4 x5 x6 x7=>(l386 (Program.underlying x1 x7) x1 x2 x3 x4 x5 x6)) (λ_ _ _ _ _ _ _ _ _ _=>none) x0))
theorem l387_eq : ∀ x0 x1 x2 x3 x4 x5 x6 x7, (Eq (l387 x0 x1 x2 x3 x4 x5 x6 x7) (@zipIx._sparseCasesOn_2 TypeId (λ_=>t4) x0 (l386 (Program.underlying x1 x7) x1 x2 x3 x4 x5 x6) (λ_=>none))) := by intro t; cases t <;> (intros; rfl)
abbrev t1075:=t1068 → t1065
def l388 : t1075 := (λx0=>(@List.rec TypeId (λ_=>t1065) (λ_ _ _ _ _ _=>none) (λx1 x2 _ x4 x5 x6 x7 x8 x9=>(l387 x2 x4 x5 x6 x7 x8 x9 x1)) x0))
theorem l388_eq : ∀ x0 x1 x2 x3 x4 x5 x6, (Eq (l388 x0 x1 x2 x3 x4 x5 x6) (@zipIx._sparseCasesOn_3 TypeId (λ_=>t4) x0 (λx7 x8=>(l387 x8 x1 x2 x3 x4 x5 x6 x7)) (λ_=>none))) := by intro t; cases t <;> (intros; rfl)
abbrev t1076:=Operand → t194
abbrev t1077:=S → t1076
abbrev t1078:=t14 → t1077
abbrev t1079:=Program → t1078
abbrev t1080:=t1068 → t1079
def l389 : t1080 := (λx0=>(@List.rec TypeId (λ_=>t1079) (λ_ _ _ _ _=>none) (λx1 x2 _ x4 x5 x6 x7 x8=>(l388 x2 x4 x5 x6 x7 x8 x1)) x0))
theorem l389_eq : ∀ x0 x1 x2 x3 x4 x5, (Eq (l389 x0 x1 x2 x3 x4 x5) (@zipIx._sparseCasesOn_3 TypeId (λ_=>t4) x0 (λx6 x7=>(l388 x7 x1 x2 x3 x4 x5 x6)) (λ_=>none))) := by intro t; cases t <;> (intros; rfl)
abbrev t1081:=Call → t1077
abbrev t1082:=t14 → t1081
abbrev t1083:=Program → t1082
abbrev t1084:=t273 → t1083
def l390 : t1084 := (λx0=>(@List.rec Operand (λ_=>t1083) (λx1 x2 x3 x4 x5 x6=>(l389 (@Array.toList TypeId (Call.argTypes x3)) x1 x2 x4 x5 x6)) (λ_ _ _ _ _ _ _ _ _=>none) x0))
theorem l390_eq : ∀ x0 x1 x2 x3 x4 x5 x6, (Eq (l390 x0 x1 x2 x3 x4 x5 x6) (@zipIx._sparseCasesOn_2 Operand (λ_=>t4) x0 (l389 (@Array.toList TypeId (Call.argTypes x3)) x1 x2 x4 x5 x6) (λ_=>none))) := by intro t; cases t <;> (intros; rfl)
abbrev t1085:=Call → t195
abbrev t1086:=t14 → t1085
abbrev t1087:=Program → t1086
abbrev t1088:=t273 → t1087
def l391 : t1088 := (λx0=>(@List.rec Operand (λ_=>t1087) (λ_ _ _ _ _=>none) (λx1 x2 _ x4 x5 x6 x7 x8=>(l390 x2 x4 x5 x6 x7 x8 x1)) x0))
theorem l391_eq : ∀ x0 x1 x2 x3 x4 x5, (Eq (l391 x0 x1 x2 x3 x4 x5) (@zipIx._sparseCasesOn_3 Operand (λ_=>t4) x0 (λx6 x7=>(l390 x7 x1 x2 x3 x4 x5 x6)) (λ_=>none))) := by intro t; cases t <;> (intros; rfl)
abbrev t1089:=Call → t8
abbrev t1090:=t14 → t1089
abbrev t1091:=Program → t1090
abbrev t1092:=t273 → t1091
def l392 : t1092 := (λx0=>(@List.rec Operand (λ_=>t1091) (λ_ _ _ _=>none) (λx1 x2 _ x4 x5 x6 x7=>(l391 x2 x4 x5 x6 x7 x1)) x0))
theorem l392_eq : ∀ x0 x1 x2 x3 x4, (Eq (l392 x0 x1 x2 x3 x4) (@zipIx._sparseCasesOn_3 Operand (λ_=>t4) x0 (λx5 x6=>(l391 x6 x1 x2 x3 x4 x5)) (λ_=>none))) := by intro t; cases t <;> (intros; rfl)
def k_o_append : t1091 := (λx0 x1 x2 x3=>(l392 (@Array.toList Operand (Call.args x2)) x0 x1 x2 x3))
theorem k_o_append_eq : @k_o_append = o_append := by
  delta k_o_append o_append
  simp only [l386_eq, l384_eq, l392_eq, l387_eq, l388_eq, l391_eq, l390_eq, l389_eq, l363_eq, l385_eq]
  rw [k_appendV_eq, k_ev_eq]
  all_goals kernel_rfl

abbrev t1093:=t497 → t163
def l396 : t1093 := (λx0=>(@Option.rec Addr (λ_=>t163) (λx1 x2=>(@dite ((λ_=>Bool) (CV.val (Value.slice none x1 x2))) (Eq x1 (@OfNat.ofNat Nat (nat_lit 0) (instOfNatNat (nat_lit 0)))) (instDecidableEqNat x1 (@OfNat.ofNat Nat (nat_lit 0) (instOfNatNat (nat_lit 0)))) (@Eq.ndrec_symm Nat (@OfNat.ofNat Nat (nat_lit 0) (instOfNatNat (nat_lit 0))) (λx3=>((λ_=>Bool) (CV.val (Value.slice none x3 x2)))) (@dite ((λ_=>Bool) (CV.val (Value.slice none (@OfNat.ofNat Nat (nat_lit 0) (instOfNatNat (nat_lit 0))) x2))) (Eq x2 (@OfNat.ofNat Nat (nat_lit 0) (instOfNatNat (nat_lit 0)))) (instDecidableEqNat x2 (@OfNat.ofNat Nat (nat_lit 0) (instOfNatNat (nat_lit 0)))) (@Eq.ndrec_symm Nat (@OfNat.ofNat Nat (nat_lit 0) (instOfNatNat (nat_lit 0))) (λx3=>((λ_=>Bool) (CV.val (Value.slice none (@OfNat.ofNat Nat (nat_lit 0) (instOfNatNat (nat_lit 0))) x3)))) ((λ_=>Bool.true) Unit.unit) x2) (λ_=>((λ_=>Bool.false) (CV.val (Value.slice none (@OfNat.ofNat Nat (nat_lit 0) (instOfNatNat (nat_lit 0))) x2))))) x1) (λ_=>((λ_=>Bool.false) (CV.val (Value.slice none x1 x2)))))) (λ_ _ _=>Bool.false) x0))
theorem l396_eq : ∀ x0 x1 x2, (Eq (l396 x0 x1 x2) (@sliceV._sparseCasesOn_7 Addr (λ_=>Bool) x0 (@dite ((λ_=>Bool) (CV.val (Value.slice none x1 x2))) (Eq x1 (@OfNat.ofNat Nat (nat_lit 0) (instOfNatNat (nat_lit 0)))) (instDecidableEqNat x1 (@OfNat.ofNat Nat (nat_lit 0) (instOfNatNat (nat_lit 0)))) (@Eq.ndrec_symm Nat (@OfNat.ofNat Nat (nat_lit 0) (instOfNatNat (nat_lit 0))) (λx3=>((λ_=>Bool) (CV.val (Value.slice none x3 x2)))) (@dite ((λ_=>Bool) (CV.val (Value.slice none (@OfNat.ofNat Nat (nat_lit 0) (instOfNatNat (nat_lit 0))) x2))) (Eq x2 (@OfNat.ofNat Nat (nat_lit 0) (instOfNatNat (nat_lit 0)))) (instDecidableEqNat x2 (@OfNat.ofNat Nat (nat_lit 0) (instOfNatNat (nat_lit 0)))) (@Eq.ndrec_symm Nat (@OfNat.ofNat Nat (nat_lit 0) (instOfNatNat (nat_lit 0))) (λx3=>((λ_=>Bool) (CV.val (Value.slice none (@OfNat.ofNat Nat (nat_lit 0) (instOfNatNat (nat_lit 0))) x3)))) ((λ_=>Bool.true) Unit.unit) x2) (λ_=>((λ_=>Bool.false) (CV.val (Value.slice none (@OfNat.ofNat Nat (nat_lit 0) (instOfNatNat (nat_lit 0))) x2))))) x1) (λ_=>((λ_=>Bool.false) (CV.val (Value.slice none x1 x2))))) (λ_=>Bool.false))) := by intro t; cases t <;> (intros; rfl)
def l397 : t1 := (λx0=>(@Value.rec (λ_=>Bool) (λ_=>PUnit.{1}) (λ_=>PUnit.{1}) (λ_=>Bool.false) (λ_ _=>Bool.false) (λ_ _=>Bool.false) (λ_ _ _=>Bool.false) (λ_=>Bool.false) (λ_=>Bool.false) (λx1 x2 x3=>(l396 x1 x2 x3)) (λ_=>Bool.false) (λ_=>Bool.false) (λ_ _ _ _ _=>Bool.false) Bool.false (λ_ _ _=>Bool.false) Bool.false (λ_ _=>Bool.false) (λ_ _=>Bool.false) (λ_ _=>PUnit.unit.{1}) PUnit.unit.{1} (λ_ _ _ _=>PUnit.unit.{1}) x0))
theorem l397_eq : ∀ x0, (Eq (l397 x0) (@sliceV._sparseCasesOn_6 (λ_=>Bool) x0 (λx1 x2 x3=>(l396 x1 x2 x3)) (λ_=>Bool.false))) := by intro t; cases t <;> (intros; rfl)
def l398 : t2 := (λx0=>(@CV.rec (λ_=>Bool) (λ_=>PUnit.{1}) Bool.false (λx1=>(l397 x1)) (λ_ _=>Bool.false) (λ_ _ _ _ _=>Bool.false) Bool.true (λ_=>Bool.false) (λ_ _=>Bool.false) (λ_ _=>Bool.false) (λ_ _ _ _ _=>Bool.false) (λ_=>Bool.false) (λ_ _ _=>Bool.false) PUnit.unit.{1} (λ_ _ _ _=>PUnit.unit.{1}) x0))
theorem l398_eq : ∀ x0, (Eq (l398 x0) (@noSl._sparseCasesOn_1 (λ_=>Bool) x0 Bool.true (λx1=>(l397 x1)) (λ_=>Bool.false))) := by intro t; cases t <;> (intros; rfl)
def k_noSl : t2 := (λx0=>(l398 x0))
theorem k_noSl_eq : @k_noSl = noSl := by
  delta k_noSl noSl
  simp only [l397_eq, l396_eq, l398_eq]
  all_goals kernel_rfl

def l395 : t533 := (λx0=>(@CV.rec (λ_=>t2) (λ_=>PUnit.{1}) (λx1=>(k_noSl x1)) (λ_ x2=>(k_noSl x2)) (λ_ _ x3=>(k_noSl x3)) (λ_ _ _ _ _ _=>Bool.true) (λx1=>(k_noSl x1)) (λ_ x2=>(k_noSl x2)) (λ_ _ x3=>(k_noSl x3)) (λ_ _ x3=>(k_noSl x3)) (λ_ _ _ _ _ x6=>(k_noSl x6)) (λ_ x2=>(k_noSl x2)) (λ_ _ _ x4=>(k_noSl x4)) PUnit.unit.{1} (λ_ _ _ _=>PUnit.unit.{1}) x0))
theorem l395_eq : ∀ x0 x1, (Eq (l395 x0 x1) (@anySl._sparseCasesOn_1 (λ_=>Bool) x0 (λ_ _ _ _ _=>Bool.true) (λ_=>(k_noSl x1)))) := by intro t; cases t <;> (intros; rfl)
def k_anySl : t2 := (λx0=>(l395 x0 x0))
theorem k_anySl_eq : @k_anySl = anySl := by
  delta k_anySl anySl
  simp only [l395_eq]
  rw [k_noSl_eq]
  all_goals kernel_rfl

def l394 : t428 := (λx0 x1 x2=>(@Bool.rec (λ_=>t4) none (k_retI x2 IntKind.i64 (nat_lit 0)) (@Bool.rec (λ_=>Bool) Bool.false (k_anySl x1) (@Bool.rec (λ_=>Bool) Bool.false (k_anySl x0) (@Bool.rec (λ_=>Bool) (k_noSl x1) Bool.true (k_noSl x0))))))
theorem l394_eq : ∀ x0 x1 x2, (Eq (l394 x0 x1 x2) (@Bool.rec (λ_=>t4) none (k_retI x2 IntKind.i64 (nat_lit 0)) (@Bool.rec (λ_=>Bool) Bool.false (k_anySl x1) (@Bool.rec (λ_=>Bool) Bool.false (k_anySl x0) (@Bool.rec (λ_=>Bool) (k_noSl x1) Bool.true (k_noSl x0)))))) := by intros; rfl
abbrev t1094:=t164 → t41
abbrev t1095:=Nat → t1094
abbrev t1096:=Nat → t1095
abbrev t1097:=Nat → t1096
abbrev t1098:=S → t1097
abbrev t1099:=CV → t1098
def l399 : t1099 := (λx0 x1 x2 x3 x4 x5 x6=>(@Bool.rec (λ_=>t4) none (k_retI x1 IntKind.i64 (nat_lit 0)) (@Bool.rec (λ_=>Bool) Bool.false (k_anySl x0) (@Bool.rec (λ_=>Bool) Bool.false (k_anySl (CV.sl x2 x3 x4 x5 x6)) (@Bool.rec (λ_=>Bool) (k_noSl x0) Bool.true (k_noSl (CV.sl x2 x3 x4 x5 x6)))))))
theorem l399_eq : ∀ x0 x1 x2 x3 x4 x5 x6, (Eq (l399 x0 x1 x2 x3 x4 x5 x6) (@Bool.rec (λ_=>t4) none (k_retI x1 IntKind.i64 (nat_lit 0)) (@Bool.rec (λ_=>Bool) Bool.false (k_anySl x0) (@Bool.rec (λ_=>Bool) Bool.false (k_anySl (CV.sl x2 x3 x4 x5 x6)) (@Bool.rec (λ_=>Bool) (k_noSl x0) Bool.true (k_noSl (CV.sl x2 x3 x4 x5 x6))))))) := by intros; rfl
abbrev t1100:=Nat → Nat
abbrev t1101:=Nat → t1100
def k_minN : t1101 := (λx0 x1=>(@Bool.rec (λ_=>Nat) x1 x0 (Nat.ble x0 x1)))
theorem k_minN_eq : @k_minN = minN := by
  delta k_minN minN
  all_goals kernel_rfl

abbrev t1102:=t31 → t1014
def l400 : t1102 := (λx0=>(@Option.rec t7 (λ_=>t1014) (λ_ _ _ _ _ _=>none) (λx1 x2 x3 x4 x5 x6 x7=>((λx8=>(k_wr_Ret x5 x2 (some (CO.row x6 x8 x7)) (λx9=>(k_retI x9 IntKind.i64 (@Nat.cast Int (@NatCast.mk Int (λx10=>(Int.ofNat x10))) (k_minN x3 x4)))))) x1)) x0))
theorem l400_eq : ∀ x0 x1 x2 x3 x4 x5 x6, (Eq (l400 x0 x1 x2 x3 x4 x5 x6) (@Option.rec t7 (λ_=>t4) none (λx7=>((λx8=>(k_wr_Ret x4 x1 (some (CO.row x5 x8 x6)) (λx9=>(k_retI x9 IntKind.i64 (@Nat.cast Int (@NatCast.mk Int (λx10=>(Int.ofNat x10))) (k_minN x2 x3)))))) x7)) x0)) := by intro t; cases t <;> (intros; rfl)
abbrev t1103:=Nat → t9
abbrev t1104:=Nat → t1103
abbrev t1105:=Nat → t1104
abbrev t1106:=Nat → t1105
abbrev t1107:=CO → t1106
def l401 : t1107 := (λx0=>(@CO.rec (λ_=>t1106) (λx1 x2 x3 x4 x5 x6 x7 x8 x9=>(l400 (k_putN x5 x8 x2) x4 x6 x7 x9 x1 x3)) (λ_ _ _ _ _ _ _ _ _=>none) (λ_ _ _ _ _ _ _ _ _ _ _ _ _ _=>none) (λ_ _ _ _ _ _=>none) (λ_ _ _ _ _ _=>none) x0))
theorem l401_eq : ∀ x0 x1 x2 x3 x4 x5 x6, (Eq (l401 x0 x1 x2 x3 x4 x5 x6) (@rdRow._sparseCasesOn_1 (λ_=>t4) x0 (λx7 x8 x9=>(l400 (k_putN x2 x5 x8) x1 x3 x4 x6 x7 x9)) (λ_=>none))) := by intro t; cases t <;> (intros; rfl)
abbrev t1108:=Nat → t885
abbrev t1109:=Nat → t1108
abbrev t1110:=S → t1109
abbrev t1111:=Bool → t1110
def l402 : t1111 := (λx0=>(@Bool.rec (λ_=>t1110) (λ_ _ _ _ _ _ _ _=>none) (λx1 x2 x3 x4 x5 x6 x7 x8=>(k_rdRow x1 x6 x7 (Nat.mul (k_minN x5 x8) x2) (λx9 x10=>(@Bool.rec (λ_=>t4) none (k_rd_Ret x10 x3 (λx11 x12=>(l401 x11 x3 x4 x5 x8 x9 x12))) (k_allOne x9))))) x0))
theorem l402_eq : ∀ x0 x1 x2 x3 x4 x5 x6 x7 x8, (Eq (l402 x0 x1 x2 x3 x4 x5 x6 x7 x8) (@Bool.rec (λ_=>t4) none (k_rdRow x1 x6 x7 (Nat.mul (k_minN x5 x8) x2) (λx9 x10=>(@Bool.rec (λ_=>t4) none (k_rd_Ret x10 x3 (λx11 x12=>(l401 x11 x3 x4 x5 x8 x9 x12))) (k_allOne x9)))) x0)) := by intro t; cases t <;> (intros; rfl)
abbrev t1112:=t164 → t47
abbrev t1113:=Nat → t1112
abbrev t1114:=Nat → t1113
abbrev t1115:=Nat → t1114
abbrev t1116:=S → t1115
abbrev t1117:=CV → t1116
abbrev t1118:=CV → t1117
def l403 : t1118 := (λx0=>(@CV.rec (λ_=>t1117) (λ_=>PUnit.{1}) (λx1 x2 x3 x4 x5 x6 x7 _=>(l399 x1 x2 x3 x4 x5 x6 x7)) (λ_ x2 x3 x4 x5 x6 x7 x8 _=>(l399 x2 x3 x4 x5 x6 x7 x8)) (λ_ _ x3 x4 x5 x6 x7 x8 x9 _=>(l399 x3 x4 x5 x6 x7 x8 x9)) (λx1 x2 x3 _ x5 _ x7 x8 x9 x10 _ x12 x13=>(l402 (@Bool.rec (λ_=>Bool) Bool.false (Nat.beq x5 x13) (Nat.beq x12 x13)) x7 x13 x8 x9 x10 x1 x2 x3)) (λx1 x2 x3 x4 x5 x6 x7 _=>(l399 x1 x2 x3 x4 x5 x6 x7)) (λ_ x2 x3 x4 x5 x6 x7 x8 _=>(l399 x2 x3 x4 x5 x6 x7 x8)) (λ_ _ x3 x4 x5 x6 x7 x8 x9 _=>(l399 x3 x4 x5 x6 x7 x8 x9)) (λ_ _ x3 x4 x5 x6 x7 x8 x9 _=>(l399 x3 x4 x5 x6 x7 x8 x9)) (λ_ _ _ _ _ x6 x7 x8 x9 x10 x11 x12 _=>(l399 x6 x7 x8 x9 x10 x11 x12)) (λ_ x2 x3 x4 x5 x6 x7 x8 _=>(l399 x2 x3 x4 x5 x6 x7 x8)) (λ_ _ _ x4 x5 x6 x7 x8 x9 x10 _=>(l399 x4 x5 x6 x7 x8 x9 x10)) PUnit.unit.{1} (λ_ _ _ _=>PUnit.unit.{1}) x0))
theorem l403_eq : ∀ x0 x1 x2 x3 x4 x5 x6 x7 x8, (Eq (l403 x0 x1 x2 x3 x4 x5 x6 x7 x8) (@anySl._sparseCasesOn_1 (λ_=>t4) x0 (λx9 x10 x11 _ x13=>(l402 (@Bool.rec (λ_=>Bool) Bool.false (Nat.beq x13 x8) (Nat.beq x7 x8)) x2 x8 x3 x4 x5 x9 x10 x11)) (λ_=>(l399 x1 x2 x3 x4 x5 x6 x7)))) := by intro t; cases t <;> (intros; rfl)
abbrev t1119:=CV → t472
abbrev t1120:=CV → t1119
def l404 : t1120 := (λx0=>(@CV.rec (λ_=>t1119) (λ_=>PUnit.{1}) (λx1 x2 x3 _=>(l394 x1 x2 x3)) (λ_ x2 x3 x4 _=>(l394 x2 x3 x4)) (λ_ _ x3 x4 x5 _=>(l394 x3 x4 x5)) (λx1 x2 x3 x4 x5 _ x7 x8 x9=>(l403 x7 x7 x8 x1 x2 x3 x4 x5 x9)) (λx1 x2 x3 _=>(l394 x1 x2 x3)) (λ_ x2 x3 x4 _=>(l394 x2 x3 x4)) (λ_ _ x3 x4 x5 _=>(l394 x3 x4 x5)) (λ_ _ x3 x4 x5 _=>(l394 x3 x4 x5)) (λ_ _ _ _ _ x6 x7 x8 _=>(l394 x6 x7 x8)) (λ_ x2 x3 x4 _=>(l394 x2 x3 x4)) (λ_ _ _ x4 x5 x6 _=>(l394 x4 x5 x6)) PUnit.unit.{1} (λ_ _ _ _=>PUnit.unit.{1}) x0))
theorem l404_eq : ∀ x0 x1 x2 x3 x4, (Eq (l404 x0 x1 x2 x3 x4) (@anySl._sparseCasesOn_1 (λ_=>t4) x0 (λx5 x6 x7 x8 x9=>(l403 x2 x2 x3 x5 x6 x7 x8 x9 x4)) (λ_=>(l394 x1 x2 x3)))) := by intro t; cases t <;> (intros; rfl)
def k_copyV : t530 := (λx0 x1 x2 x3 x4=>(@Option.rec Nat (λ_=>t4) none (λx5=>((λx6=>(l404 x2 x2 x3 x4 x6)) x5)) (slSize x0 x1)))
theorem k_copyV_eq : @k_copyV = copyV := by
  delta k_copyV copyV
  simp only [l401_eq, l403_eq, l404_eq, l402_eq, l399_eq, l394_eq, l400_eq]
  rw [k_noSl_eq, k_anySl_eq, k_retI_eq, k_wr_Ret_eq, k_minN_eq, k_putN_eq, k_rdRow_eq, k_allOne_eq, k_rd_Ret_eq]
  all_goals kernel_rfl

def l393 : t1056 := (λx0=>(@Option.rec CV (λ_=>t1055) (λ_ _ _ _=>none) (λx1 x2 x3 x4 x5=>(k_copyV x2 x4 x5 x1 x3)) x0))
theorem l393_eq : ∀ x0 x1 x2 x3 x4, (Eq (l393 x0 x1 x2 x3 x4) (@elInfo._sparseCasesOn_3 CV (λ_=>t4) x0 (λx5=>(k_copyV x1 x3 x4 x5 x2)) (λ_=>none))) := by intro t; cases t <;> (intros; rfl)
def l405 : t1061 := (λx0=>(@Option.rec CV (λ_=>t1060) (λ_ _ _ _ _=>none) (λx1 x2 x3 x4 x5 x6=>(l393 (k_ev x3 x5) x2 x4 x6 x1)) x0))
theorem l405_eq : ∀ x0 x1 x2 x3 x4 x5, (Eq (l405 x0 x1 x2 x3 x4 x5) (@elInfo._sparseCasesOn_3 CV (λ_=>t4) x0 (λx6=>(l393 (k_ev x2 x4) x1 x3 x5 x6)) (λ_=>none))) := by intro t; cases t <;> (intros; rfl)
def l406 : t1075 := (λx0=>(@List.rec TypeId (λ_=>t1065) (λx1 x2 x3 x4 x5 x6=>(l405 (k_ev x2 x4) x1 x2 x3 x5 x6)) (λ_ _ _ _ _ _ _ _ _=>none) x0))
theorem l406_eq : ∀ x0 x1 x2 x3 x4 x5 x6, (Eq (l406 x0 x1 x2 x3 x4 x5 x6) (@zipIx._sparseCasesOn_2 TypeId (λ_=>t4) x0 (l405 (k_ev x2 x4) x1 x2 x3 x5 x6) (λ_=>none))) := by intro t; cases t <;> (intros; rfl)
def l407 : t1075 := (λx0=>(@List.rec TypeId (λ_=>t1065) (λ_ _ _ _ _ _=>none) (λ_ x2 _ x4 x5 x6 x7 x8 x9=>(l406 x2 x4 x5 x6 x7 x8 x9)) x0))
theorem l407_eq : ∀ x0 x1 x2 x3 x4 x5 x6, (Eq (l407 x0 x1 x2 x3 x4 x5 x6) (@zipIx._sparseCasesOn_3 TypeId (λ_=>t4) x0 (λ_ x8=>(l406 x8 x1 x2 x3 x4 x5 x6)) (λ_=>none))) := by intro t; cases t <;> (intros; rfl)
def l408 : t1080 := (λx0=>(@List.rec TypeId (λ_=>t1079) (λ_ _ _ _ _=>none) (λx1 x2 _ x4 x5 x6 x7 x8=>(l407 x2 x4 x5 x6 x7 x8 x1)) x0))
theorem l408_eq : ∀ x0 x1 x2 x3 x4 x5, (Eq (l408 x0 x1 x2 x3 x4 x5) (@zipIx._sparseCasesOn_3 TypeId (λ_=>t4) x0 (λx6 x7=>(l407 x7 x1 x2 x3 x4 x5 x6)) (λ_=>none))) := by intro t; cases t <;> (intros; rfl)
def l409 : t1084 := (λx0=>(@List.rec Operand (λ_=>t1083) (λx1 x2 x3 x4 x5 x6=>(l408 (@Array.toList TypeId (Call.argTypes x3)) x1 x2 x4 x5 x6)) (λ_ _ _ _ _ _ _ _ _=>none) x0))
theorem l409_eq : ∀ x0 x1 x2 x3 x4 x5 x6, (Eq (l409 x0 x1 x2 x3 x4 x5 x6) (@zipIx._sparseCasesOn_2 Operand (λ_=>t4) x0 (l408 (@Array.toList TypeId (Call.argTypes x3)) x1 x2 x4 x5 x6) (λ_=>none))) := by intro t; cases t <;> (intros; rfl)
def l410 : t1088 := (λx0=>(@List.rec Operand (λ_=>t1087) (λ_ _ _ _ _=>none) (λx1 x2 _ x4 x5 x6 x7 x8=>(l409 x2 x4 x5 x6 x7 x8 x1)) x0))
theorem l410_eq : ∀ x0 x1 x2 x3 x4 x5, (Eq (l410 x0 x1 x2 x3 x4 x5) (@zipIx._sparseCasesOn_3 Operand (λ_=>t4) x0 (λx6 x7=>(l409 x7 x1 x2 x3 x4 x5 x6)) (λ_=>none))) := by intro t; cases t <;> (intros; rfl)
def l411 : t1092 := (λx0=>(@List.rec Operand (λ_=>t1091) (λ_ _ _ _=>none) (λx1 x2 _ x4 x5 x6 x7=>(l410 x2 x4 x5 x6 x7 x1)) x0))
theorem l411_eq : ∀ x0 x1 x2 x3 x4, (Eq (l411 x0 x1 x2 x3 x4) (@zipIx._sparseCasesOn_3 Operand (λ_=>t4) x0 (λx5 x6=>(l410 x6 x1 x2 x3 x4 x5)) (λ_=>none))) := by intro t; cases t <;> (intros; rfl)
def k_o_copy : t1091 := (λx0 x1 x2 x3=>(l411 (@Array.toList Operand (Call.args x2)) x0 x1 x2 x3))
theorem k_o_copy_eq : @k_o_copy = o_copy := by
  delta k_o_copy o_copy
  simp only [l410_eq, l408_eq, l407_eq, l405_eq, l411_eq, l406_eq, l409_eq, l393_eq]
  rw [k_copyV_eq, k_ev_eq]
  all_goals kernel_rfl

def l412 : t45 := (λx0=>(@CO.rec (λ_=>t8) (λ_ _ _ _=>none) (λ_ x2 _ x4=>(k_retI x4 IntKind.i64 (@Nat.cast Int (@NatCast.mk Int (λx5=>(Int.ofNat x5))) (@List.length t343 x2)))) (λ_ _ _ _ _ _ _ _ _=>none) (λ_=>none) (λ_=>none) x0))
theorem l412_eq : ∀ x0 x1, (Eq (l412 x0 x1) (@lookupV._sparseCasesOn_2 (λ_=>t4) x0 (λ_ x3 _=>(k_retI x1 IntKind.i64 (@Nat.cast Int (@NatCast.mk Int (λx5=>(Int.ofNat x5))) (@List.length t343 x3)))) (λ_=>none))) := by intro t; cases t <;> (intros; rfl)
abbrev t1121:=t164 → t8
def l413 : t1121 := (λx0=>(@Option.rec Nat (λ_=>t8) (λx1=>(k_retI x1 IntKind.i64 (nat_lit 0))) (λ_ _=>none) x0))
theorem l413_eq : ∀ x0 x1, (Eq (l413 x0 x1) (@sliceV._sparseCasesOn_7 Nat (λ_=>t4) x0 (k_retI x1 IntKind.i64 (nat_lit 0)) (λ_=>none))) := by intro t; cases t <;> (intros; rfl)
def l414 : t643 := (λx0=>(@Value.rec (λ_=>t8) (λ_=>PUnit.{1}) (λ_=>PUnit.{1}) (λ_ _=>none) (λ_ _ _=>none) (λ_ _ _=>none) (λ_ _ _ _=>none) (λ_ _=>none) (λ_ _=>none) (λ_ _ _ _=>none) (λx1 x2=>(l413 x1 x2)) (λ_ _=>none) (λ_ _ _ _ _ _=>none) (λ_=>none) (λ_ _ _ _=>none) (λ_=>none) (λ_ _ _=>none) (λ_ _ _=>none) (λ_ _=>PUnit.unit.{1}) PUnit.unit.{1} (λ_ _ _ _=>PUnit.unit.{1}) x0))
theorem l414_eq : ∀ x0 x1, (Eq (l414 x0 x1) (@lookupV._sparseCasesOn_4 (λ_=>t4) x0 (λx2=>(l413 x2 x1)) (λ_=>none))) := by intro t; cases t <;> (intros; rfl)
def l415 : t186 := (λx0=>(@CV.rec (λ_=>t8) (λ_=>PUnit.{1}) (λ_=>none) (λx1 x2=>(l414 x1 x2)) (λ_ _ _=>none) (λ_ _ _ _ _ _=>none) (λ_=>none) (λx1 x2=>(k_rd_Ret x2 x1 (λx3 x4=>(l412 x3 x4)))) (λ_ _ _=>none) (λ_ _ _=>none) (λ_ _ _ _ _ _=>none) (λ_ _=>none) (λ_ _ _ _=>none) PUnit.unit.{1} (λ_ _ _ _=>PUnit.unit.{1}) x0))
theorem l415_eq : ∀ x0 x1, (Eq (l415 x0 x1) (@o_len._sparseCasesOn_2 (λ_=>t4) x0 (λx2=>(k_rd_Ret x1 x2 (λx3 x4=>(l412 x3 x4)))) (λx2=>(l414 x2 x1)) (λ_=>none))) := by intro t; cases t <;> (intros; rfl)
def l416 : t101 := (λx0=>(@Option.rec CV (λ_=>t8) (λ_=>none) (λx1 x2=>(l415 x1 x2)) x0))
theorem l416_eq : ∀ x0 x1, (Eq (l416 x0 x1) (@elInfo._sparseCasesOn_3 CV (λ_=>t4) x0 (λx2=>(l415 x2 x1)) (λ_=>none))) := by intro t; cases t <;> (intros; rfl)
def l417 : t643 := (λx0=>(@Value.rec (λ_=>t8) (λ_=>PUnit.{1}) (λ_=>PUnit.{1}) (λ_ _=>none) (λ_ _ _=>none) (λ_ _ _=>none) (λ_ _ _ _=>none) (λ_ _=>none) (λ_ _=>none) (λ_ x2 _ x4=>(k_retI x4 IntKind.i64 (@Nat.cast Int (@NatCast.mk Int (λx5=>(Int.ofNat x5))) x2))) (λ_ _=>none) (λ_ _=>none) (λ_ _ _ _ _ _=>none) (λ_=>none) (λ_ _ _ _=>none) (λ_=>none) (λ_ _ _=>none) (λ_ _ _=>none) (λ_ _=>PUnit.unit.{1}) PUnit.unit.{1} (λ_ _ _ _=>PUnit.unit.{1}) x0))
theorem l417_eq : ∀ x0 x1, (Eq (l417 x0 x1) (@sliceV._sparseCasesOn_6 (λ_=>t4) x0 (λ_ x3 _=>(k_retI x1 IntKind.i64 (@Nat.cast Int (@NatCast.mk Int (λx5=>(Int.ofNat x5))) x3))) (λ_=>none))) := by intro t; cases t <;> (intros; rfl)
def l418 : t186 := (λx0=>(@CV.rec (λ_=>t8) (λ_=>PUnit.{1}) (λ_=>none) (λx1 x2=>(l417 x1 x2)) (λ_ _ _=>none) (λ_ _ x3 _ _ x6=>(k_retI x6 IntKind.i64 (@Nat.cast Int (@NatCast.mk Int (λx7=>(Int.ofNat x7))) x3))) (λx1=>(k_retI x1 IntKind.i64 (nat_lit 0))) (λ_ _=>none) (λ_ _ _=>none) (λ_ _ _=>none) (λ_ _ _ _ _ _=>none) (λ_ _=>none) (λ_ _ _ _=>none) PUnit.unit.{1} (λ_ _ _ _=>PUnit.unit.{1}) x0))
theorem l418_eq : ∀ x0 x1, (Eq (l418 x0 x1) (@sliceV._sparseCasesOn_5 (λ_=>t4) x0 (λ_ _ x4 _ _=>(k_retI x1 IntKind.i64 (@Nat.cast Int (@NatCast.mk Int (λx7=>(Int.ofNat x7))) x4))) (k_retI x1 IntKind.i64 (nat_lit 0)) (λx2=>(l417 x2 x1)) (λ_=>none))) := by intro t; cases t <;> (intros; rfl)
def l419 : t101 := (λx0=>(@Option.rec CV (λ_=>t8) (λ_=>none) (λx1 x2=>(l418 x1 x2)) x0))
theorem l419_eq : ∀ x0 x1, (Eq (l419 x0 x1) (@elInfo._sparseCasesOn_3 CV (λ_=>t4) x0 (λx2=>(l418 x2 x1)) (λ_=>none))) := by intro t; cases t <;> (intros; rfl)
def l420 : t643 := (λx0=>(@Value.rec (λ_=>t8) (λ_=>PUnit.{1}) (λ_=>PUnit.{1}) (λ_ _=>none) (λ_ _ _=>none) (λ_ _ _=>none) (λ_ _ _ _=>none) (λx1 x2=>(k_retI x2 IntKind.i64 (@Nat.cast Int (@NatCast.mk Int (λx3=>(Int.ofNat x3))) (@List.length UInt8 (@Array.toList UInt8 (ByteArray.data x1)))))) (λ_ _=>none) (λ_ _ _ _=>none) (λ_ _=>none) (λ_ _=>none) (λ_ _ _ _ _ _=>none) (λ_=>none) (λ_ _ _ _=>none) (λ_=>none) (λ_ _ _=>none) (λ_ _ _=>none) (λ_ _=>PUnit.unit.{1}) PUnit.unit.{1} (λ_ _ _ _=>PUnit.unit.{1}) x0))
theorem l420_eq : ∀ x0 x1, (Eq (l420 x0 x1) (@eqK._sparseCasesOn_4 (λ_=>t4) x0 (λx2=>(k_retI x1 IntKind.i64 (@Nat.cast Int (@NatCast.mk Int (λx3=>(Int.ofNat x3))) (@List.length UInt8 (@Array.toList UInt8 (ByteArray.data x2)))))) (λ_=>none))) := by intro t; cases t <;> (intros; rfl)
def l421 : t186 := (λx0=>(@CV.rec (λ_=>t8) (λ_=>PUnit.{1}) (λ_=>none) (λx1 x2=>(l420 x1 x2)) (λ_ _ _=>none) (λ_ _ _ _ _ _=>none) (λ_=>none) (λ_ _=>none) (λ_ _ _=>none) (λ_ _ _=>none) (λ_ _ _ _ _ _=>none) (λ_ _=>none) (λ_ _ _ _=>none) PUnit.unit.{1} (λ_ _ _ _=>PUnit.unit.{1}) x0))
theorem l421_eq : ∀ x0 x1, (Eq (l421 x0 x1) (@natOf._sparseCasesOn_1 (λ_=>t4) x0 (λx2=>(l420 x2 x1)) (λ_=>none))) := by intro t; cases t <;> (intros; rfl)
def l422 : t101 := (λx0=>(@Option.rec CV (λ_=>t8) (λ_=>none) (λx1 x2=>(l421 x1 x2)) x0))
theorem l422_eq : ∀ x0 x1, (Eq (l422 x0 x1) (@elInfo._sparseCasesOn_3 CV (λ_=>t4) x0 (λx2=>(l421 x2 x1)) (λ_=>none))) := by intro t; cases t <;> (intros; rfl)
abbrev t1122:=t14 → t195
abbrev t1123:=TypeDesc → t1122
def l423 : t1123 := (λx0=>(@TypeDesc.rec (λ_=>t1122) (λ_ _ _=>none) (λ_ _ _=>none) (λ_ _ _ _=>none) (λ_ _ _ _=>none) (λ_ _ _ _=>none) (λx1 x2 x3=>(l422 (k_ev x1 x3) x2)) (λ_ _ _=>none) (λ_ _ _ _=>none) (λ_ x2 x3 x4=>(l419 (k_ev x2 x4) x3)) (λ_ _ _ _ _=>none) (λ_ _ x3 x4 x5=>(l416 (k_ev x3 x5) x4)) (λ_ _ _ _ _=>none) (λ_ _ _ _=>none) (λ_ _ _ _ _ _=>none) (λ_ _ _ _=>none) (λ_ _ _ _=>none) (λ_ _ _ _ _=>none) x0))
theorem l423_eq : ∀ x0 x1 x2 x3, (Eq (l423 x0 x1 x2 x3) (@o_len._sparseCasesOn_1 (λ_=>t4) x0 (λ_ _=>(l416 (k_ev x1 x3) x2)) (λ_=>(l419 (k_ev x1 x3) x2)) (l422 (k_ev x1 x3) x2) (λ_=>none))) := by intro t; cases t <;> (intros; rfl)
abbrev t1124:=t336 → t1122
def l424 : t1124 := (λx0=>(@Option.rec TypeDesc (λ_=>t1122) (λ_ _ _=>none) (λx1 x2 x3 x4=>(l423 x1 x2 x3 x4)) x0))
theorem l424_eq : ∀ x0 x1 x2 x3, (Eq (l424 x0 x1 x2 x3) (@elInfo._sparseCasesOn_3 TypeDesc (λ_=>t4) x0 (λx4=>(l423 x4 x1 x2 x3)) (λ_=>none))) := by intro t; cases t <;> (intros; rfl)
abbrev t1125:=t1068 → t1060
def l425 : t1125 := (λx0=>(@List.rec TypeId (λ_=>t1060) (λx1 x2 x3 x4 x5=>(l424 (Program.underlying x1 x5) x2 x3 x4)) (λ_ _ _ _ _ _ _ _=>none) x0))
theorem l425_eq : ∀ x0 x1 x2 x3 x4 x5, (Eq (l425 x0 x1 x2 x3 x4 x5) (@zipIx._sparseCasesOn_2 TypeId (λ_=>t4) x0 (l424 (Program.underlying x1 x5) x2 x3 x4) (λ_=>none))) := by intro t; cases t <;> (intros; rfl)
abbrev t1126:=Program → t1122
abbrev t1127:=t1068 → t1126
def l426 : t1127 := (λx0=>(@List.rec TypeId (λ_=>t1126) (λ_ _ _ _=>none) (λx1 x2 _ x4 x5 x6 x7=>(l425 x2 x4 x5 x6 x7 x1)) x0))
theorem l426_eq : ∀ x0 x1 x2 x3 x4, (Eq (l426 x0 x1 x2 x3 x4) (@zipIx._sparseCasesOn_3 TypeId (λ_=>t4) x0 (λx5 x6=>(l425 x6 x1 x2 x3 x4 x5)) (λ_=>none))) := by intro t; cases t <;> (intros; rfl)
def l427 : t1088 := (λx0=>(@List.rec Operand (λ_=>t1087) (λx1 x2 x3 x4 x5=>(l426 (@Array.toList TypeId (Call.argTypes x3)) x1 x2 x4 x5)) (λ_ _ _ _ _ _ _ _=>none) x0))
theorem l427_eq : ∀ x0 x1 x2 x3 x4 x5, (Eq (l427 x0 x1 x2 x3 x4 x5) (@zipIx._sparseCasesOn_2 Operand (λ_=>t4) x0 (l426 (@Array.toList TypeId (Call.argTypes x3)) x1 x2 x4 x5) (λ_=>none))) := by intro t; cases t <;> (intros; rfl)
def l428 : t1092 := (λx0=>(@List.rec Operand (λ_=>t1091) (λ_ _ _ _=>none) (λx1 x2 _ x4 x5 x6 x7=>(l427 x2 x4 x5 x6 x7 x1)) x0))
theorem l428_eq : ∀ x0 x1 x2 x3 x4, (Eq (l428 x0 x1 x2 x3 x4) (@zipIx._sparseCasesOn_3 Operand (λ_=>t4) x0 (λx5 x6=>(l427 x6 x1 x2 x3 x4 x5)) (λ_=>none))) := by intro t; cases t <;> (intros; rfl)
def k_o_len : t1091 := (λx0 x1 x2 x3=>(l428 (@Array.toList Operand (Call.args x2)) x0 x1 x2 x3))
theorem k_o_len_eq : @k_o_len = o_len := by
  delta k_o_len o_len
  simp only [l417_eq, l414_eq, l420_eq, l428_eq, l425_eq, l426_eq, l412_eq, l416_eq, l424_eq, l422_eq, l418_eq, l427_eq, l421_eq, l419_eq, l413_eq, l415_eq, l423_eq]
  rw [k_retI_eq, k_rd_Ret_eq, k_ev_eq]
  all_goals kernel_rfl

abbrev t1128:=Int → t544
abbrev t1129:=IntKind → t1128
abbrev t1130:=S → t1129
abbrev t1131:=t7 → t1130
def l429 : t1131 := (λx0=>(@List.rec CV (λ_=>t1130) (λx1 x2 x3 x4=>(k_retI x1 x2 (@Bool.rec (λ_=>Int) x3 x4 (k_iLt x3 x4)))) (λ_ _ _ _ _ _ _=>none) x0))
theorem l429_eq : ∀ x0 x1 x2 x3 x4, (Eq (l429 x0 x1 x2 x3 x4) (@zipIx._sparseCasesOn_2 CV (λ_=>t4) x0 (k_retI x1 x2 (@Bool.rec (λ_=>Int) x3 x4 (k_iLt x3 x4))) (λ_=>none))) := by intro t; cases t <;> (intros; rfl)
abbrev t1132:=Int → t252
abbrev t1133:=IntKind → t1132
abbrev t1134:=S → t1133
abbrev t1135:=Value → t1134
def l430 : t1135 := (λx0=>(@Value.rec (λ_=>t1134) (λ_=>PUnit.{1}) (λ_=>PUnit.{1}) (λ_ _ _ _ _=>none) (λ_ x2 x3 x4 x5 x6=>(l429 x6 x3 x4 x5 x2)) (λ_ _ _ _ _ _=>none) (λ_ _ _ _ _ _ _=>none) (λ_ _ _ _ _=>none) (λ_ _ _ _ _=>none) (λ_ _ _ _ _ _ _=>none) (λ_ _ _ _ _=>none) (λ_ _ _ _ _=>none) (λ_ _ _ _ _ _ _ _ _=>none) (λ_ _ _ _=>none) (λ_ _ _ _ _ _ _=>none) (λ_ _ _ _=>none) (λ_ _ _ _ _ _=>none) (λ_ _ _ _ _ _=>none) (λ_ _=>PUnit.unit.{1}) PUnit.unit.{1} (λ_ _ _ _=>PUnit.unit.{1}) x0))
theorem l430_eq : ∀ x0 x1 x2 x3 x4, (Eq (l430 x0 x1 x2 x3 x4) (@natOf._sparseCasesOn_2 (λ_=>t4) x0 (λ_ x6=>(l429 x4 x1 x2 x3 x6)) (λ_=>none))) := by intro t; cases t <;> (intros; rfl)
abbrev t1136:=CV → t1134
def l431 : t1136 := (λx0=>(@CV.rec (λ_=>t1134) (λ_=>PUnit.{1}) (λ_ _ _ _=>none) (λx1 x2 x3 x4 x5=>(l430 x1 x2 x3 x4 x5)) (λ_ _ _ _ _ _=>none) (λ_ _ _ _ _ _ _ _ _=>none) (λ_ _ _ _=>none) (λ_ _ _ _ _=>none) (λ_ _ _ _ _ _=>none) (λ_ _ _ _ _ _=>none) (λ_ _ _ _ _ _ _ _ _=>none) (λ_ _ _ _ _=>none) (λ_ _ _ _ _ _ _=>none) PUnit.unit.{1} (λ_ _ _ _=>PUnit.unit.{1}) x0))
theorem l431_eq : ∀ x0 x1 x2 x3 x4, (Eq (l431 x0 x1 x2 x3 x4) (@natOf._sparseCasesOn_1 (λ_=>t4) x0 (λx5=>(l430 x5 x1 x2 x3 x4)) (λ_=>none))) := by intro t; cases t <;> (intros; rfl)
abbrev t1137:=t7 → t546
def l432 : t1137 := (λx0=>(@List.rec CV (λ_=>t546) (λ_ _ _=>none) (λx1 x2 _ x4 x5 x6=>(l431 x1 x4 x5 x6 x2)) x0))
theorem l432_eq : ∀ x0 x1 x2 x3, (Eq (l432 x0 x1 x2 x3) (@zipIx._sparseCasesOn_3 CV (λ_=>t4) x0 (λx4 x5=>(l431 x4 x1 x2 x3 x5)) (λ_=>none))) := by intro t; cases t <;> (intros; rfl)
abbrev t1138:=Value → t594
def l433 : t1138 := (λx0=>(@Value.rec (λ_=>t594) (λ_=>PUnit.{1}) (λ_=>PUnit.{1}) (λ_ _ _=>none) (λx1 x2 x3 x4=>(l432 x4 x3 x1 x2)) (λ_ _ _ _=>none) (λ_ _ _ _ _=>none) (λ_ _ _=>none) (λ_ _ _=>none) (λ_ _ _ _ _=>none) (λ_ _ _=>none) (λ_ _ _=>none) (λ_ _ _ _ _ _ _=>none) (λ_ _=>none) (λ_ _ _ _ _=>none) (λ_ _=>none) (λ_ _ _ _=>none) (λ_ _ _ _=>none) (λ_ _=>PUnit.unit.{1}) PUnit.unit.{1} (λ_ _ _ _=>PUnit.unit.{1}) x0))
theorem l433_eq : ∀ x0 x1 x2, (Eq (l433 x0 x1 x2) (@natOf._sparseCasesOn_2 (λ_=>t4) x0 (λx3 x4=>(l432 x2 x1 x3 x4)) (λ_=>none))) := by intro t; cases t <;> (intros; rfl)
def l434 : t595 := (λx0=>(@CV.rec (λ_=>t594) (λ_=>PUnit.{1}) (λ_ _=>none) (λx1 x2 x3=>(l433 x1 x2 x3)) (λ_ _ _ _=>none) (λ_ _ _ _ _ _ _=>none) (λ_ _=>none) (λ_ _ _=>none) (λ_ _ _ _=>none) (λ_ _ _ _=>none) (λ_ _ _ _ _ _ _=>none) (λ_ _ _=>none) (λ_ _ _ _ _=>none) PUnit.unit.{1} (λ_ _ _ _=>PUnit.unit.{1}) x0))
theorem l434_eq : ∀ x0 x1 x2, (Eq (l434 x0 x1 x2) (@natOf._sparseCasesOn_1 (λ_=>t4) x0 (λx3=>(l433 x3 x1 x2)) (λ_=>none))) := by intro t; cases t <;> (intros; rfl)
def l435 : t9 := (λx0=>(@List.rec CV (λ_=>t8) (λ_=>none) (λx1 x2 _ x4=>(l434 x1 x4 x2)) x0))
theorem l435_eq : ∀ x0 x1, (Eq (l435 x0 x1) (@zipIx._sparseCasesOn_3 CV (λ_=>t4) x0 (λx2 x3=>(l434 x2 x1 x3)) (λ_=>none))) := by intro t; cases t <;> (intros; rfl)
def l436 : t866 := (λx0=>(@Option.rec t7 (λ_=>t8) (λ_=>none) (λx1 x2=>(l435 x1 x2)) x0))
theorem l436_eq : ∀ x0 x1, (Eq (l436 x0 x1) (@elInfo._sparseCasesOn_3 t7 (λ_=>t4) x0 (λx2=>(l435 x2 x1)) (λ_=>none))) := by intro t; cases t <;> (intros; rfl)
def k_o_max : t1091 := (λ_ x1 x2 x3=>(l436 (k_evs x1 (@Array.toList Operand (Call.args x2))) x3))
theorem k_o_max_eq : @k_o_max = o_max := by
  delta k_o_max o_max
  simp only [l436_eq, l430_eq, l429_eq, l431_eq, l434_eq, l435_eq, l432_eq, l433_eq]
  rw [k_evs_eq, k_retI_eq, k_iLt_eq]
  all_goals kernel_rfl

def l437 : t1131 := (λx0=>(@List.rec CV (λ_=>t1130) (λx1 x2 x3 x4=>(k_retI x1 x2 (@Bool.rec (λ_=>Int) x3 x4 (k_iLt x4 x3)))) (λ_ _ _ _ _ _ _=>none) x0))
theorem l437_eq : ∀ x0 x1 x2 x3 x4, (Eq (l437 x0 x1 x2 x3 x4) (@zipIx._sparseCasesOn_2 CV (λ_=>t4) x0 (k_retI x1 x2 (@Bool.rec (λ_=>Int) x3 x4 (k_iLt x4 x3))) (λ_=>none))) := by intro t; cases t <;> (intros; rfl)
def l438 : t1135 := (λx0=>(@Value.rec (λ_=>t1134) (λ_=>PUnit.{1}) (λ_=>PUnit.{1}) (λ_ _ _ _ _=>none) (λ_ x2 x3 x4 x5 x6=>(l437 x6 x3 x4 x5 x2)) (λ_ _ _ _ _ _=>none) (λ_ _ _ _ _ _ _=>none) (λ_ _ _ _ _=>none) (λ_ _ _ _ _=>none) (λ_ _ _ _ _ _ _=>none) (λ_ _ _ _ _=>none) (λ_ _ _ _ _=>none) (λ_ _ _ _ _ _ _ _ _=>none) (λ_ _ _ _=>none) (λ_ _ _ _ _ _ _=>none) (λ_ _ _ _=>none) (λ_ _ _ _ _ _=>none) (λ_ _ _ _ _ _=>none) (λ_ _=>PUnit.unit.{1}) PUnit.unit.{1} (λ_ _ _ _=>PUnit.unit.{1}) x0))
theorem l438_eq : ∀ x0 x1 x2 x3 x4, (Eq (l438 x0 x1 x2 x3 x4) (@natOf._sparseCasesOn_2 (λ_=>t4) x0 (λ_ x6=>(l437 x4 x1 x2 x3 x6)) (λ_=>none))) := by intro t; cases t <;> (intros; rfl)
def l439 : t1136 := (λx0=>(@CV.rec (λ_=>t1134) (λ_=>PUnit.{1}) (λ_ _ _ _=>none) (λx1 x2 x3 x4 x5=>(l438 x1 x2 x3 x4 x5)) (λ_ _ _ _ _ _=>none) (λ_ _ _ _ _ _ _ _ _=>none) (λ_ _ _ _=>none) (λ_ _ _ _ _=>none) (λ_ _ _ _ _ _=>none) (λ_ _ _ _ _ _=>none) (λ_ _ _ _ _ _ _ _ _=>none) (λ_ _ _ _ _=>none) (λ_ _ _ _ _ _ _=>none) PUnit.unit.{1} (λ_ _ _ _=>PUnit.unit.{1}) x0))
theorem l439_eq : ∀ x0 x1 x2 x3 x4, (Eq (l439 x0 x1 x2 x3 x4) (@natOf._sparseCasesOn_1 (λ_=>t4) x0 (λx5=>(l438 x5 x1 x2 x3 x4)) (λ_=>none))) := by intro t; cases t <;> (intros; rfl)
def l440 : t1137 := (λx0=>(@List.rec CV (λ_=>t546) (λ_ _ _=>none) (λx1 x2 _ x4 x5 x6=>(l439 x1 x4 x5 x6 x2)) x0))
theorem l440_eq : ∀ x0 x1 x2 x3, (Eq (l440 x0 x1 x2 x3) (@zipIx._sparseCasesOn_3 CV (λ_=>t4) x0 (λx4 x5=>(l439 x4 x1 x2 x3 x5)) (λ_=>none))) := by intro t; cases t <;> (intros; rfl)
def l441 : t1138 := (λx0=>(@Value.rec (λ_=>t594) (λ_=>PUnit.{1}) (λ_=>PUnit.{1}) (λ_ _ _=>none) (λx1 x2 x3 x4=>(l440 x4 x3 x1 x2)) (λ_ _ _ _=>none) (λ_ _ _ _ _=>none) (λ_ _ _=>none) (λ_ _ _=>none) (λ_ _ _ _ _=>none) (λ_ _ _=>none) (λ_ _ _=>none) (λ_ _ _ _ _ _ _=>none) (λ_ _=>none) (λ_ _ _ _ _=>none) (λ_ _=>none) (λ_ _ _ _=>none) (λ_ _ _ _=>none) (λ_ _=>PUnit.unit.{1}) PUnit.unit.{1} (λ_ _ _ _=>PUnit.unit.{1}) x0))
theorem l441_eq : ∀ x0 x1 x2, (Eq (l441 x0 x1 x2) (@natOf._sparseCasesOn_2 (λ_=>t4) x0 (λx3 x4=>(l440 x2 x1 x3 x4)) (λ_=>none))) := by intro t; cases t <;> (intros; rfl)
def l442 : t595 := (λx0=>(@CV.rec (λ_=>t594) (λ_=>PUnit.{1}) (λ_ _=>none) (λx1 x2 x3=>(l441 x1 x2 x3)) (λ_ _ _ _=>none) (λ_ _ _ _ _ _ _=>none) (λ_ _=>none) (λ_ _ _=>none) (λ_ _ _ _=>none) (λ_ _ _ _=>none) (λ_ _ _ _ _ _ _=>none) (λ_ _ _=>none) (λ_ _ _ _ _=>none) PUnit.unit.{1} (λ_ _ _ _=>PUnit.unit.{1}) x0))
theorem l442_eq : ∀ x0 x1 x2, (Eq (l442 x0 x1 x2) (@natOf._sparseCasesOn_1 (λ_=>t4) x0 (λx3=>(l441 x3 x1 x2)) (λ_=>none))) := by intro t; cases t <;> (intros; rfl)
def l443 : t9 := (λx0=>(@List.rec CV (λ_=>t8) (λ_=>none) (λx1 x2 _ x4=>(l442 x1 x4 x2)) x0))
theorem l443_eq : ∀ x0 x1, (Eq (l443 x0 x1) (@zipIx._sparseCasesOn_3 CV (λ_=>t4) x0 (λx2 x3=>(l442 x2 x1 x3)) (λ_=>none))) := by intro t; cases t <;> (intros; rfl)
def l444 : t866 := (λx0=>(@Option.rec t7 (λ_=>t8) (λ_=>none) (λx1 x2=>(l443 x1 x2)) x0))
theorem l444_eq : ∀ x0 x1, (Eq (l444 x0 x1) (@elInfo._sparseCasesOn_3 t7 (λ_=>t4) x0 (λx2=>(l443 x2 x1)) (λ_=>none))) := by intro t; cases t <;> (intros; rfl)
def k_o_min : t1091 := (λ_ x1 x2 x3=>(l444 (k_evs x1 (@Array.toList Operand (Call.args x2))) x3))
theorem k_o_min_eq : @k_o_min = o_min := by
  delta k_o_min o_min
  simp only [l438_eq, l444_eq, l439_eq, l437_eq, l440_eq, l441_eq, l442_eq, l443_eq]
  rw [k_evs_eq, k_retI_eq, k_iLt_eq]
  all_goals kernel_rfl

abbrev t1139:=Builtin → t1091
def l362 : t1139 := (λx0=>(@Builtin.rec (λ_=>t1091) (λx1 x2 x3 x4=>(k_o_append x1 x2 x3 x4)) (λ_ _ _ _=>none) (λ_ _ _ _=>none) (λ_ _ _ _=>none) (λ_ _ _ _=>none) (λx1 x2 x3 x4=>(k_o_copy x1 x2 x3 x4)) (λ_ _ _ _=>none) (λ_ _ _ _=>none) (λx1 x2 x3 x4=>(k_o_len x1 x2 x3 x4)) (λ_ _ _ _=>none) (λx1 x2 x3 x4=>(k_o_max x1 x2 x3 x4)) (λx1 x2 x3 x4=>(k_o_min x1 x2 x3 x4)) (λ_ _ _ _=>none) (λ_ _ _ _=>none) (λ_ _ _ _=>none) (λ_ _ _ _=>none) (λ_ _ _ _=>none) (λ_ _ _ _=>none) (λ_ _ _ _=>none) (λ_ _ _ _=>none) (λ_ _ _ _=>none) (λ_ _ _ _=>none) (λ_ _ _ _=>none) (λ_ _ _ _=>none) (λ_ _ _ _=>none) (λ_ _ _ _=>none) x0))
theorem l362_eq : ∀ x0 x1 x2 x3 x4, (Eq (l362 x0 x1 x2 x3 x4) (@o_call._sparseCasesOn_2 (λ_=>t4) x0 (k_o_len x1 x2 x3 x4) (k_o_append x1 x2 x3 x4) (k_o_copy x1 x2 x3 x4) (k_o_min x1 x2 x3 x4) (k_o_max x1 x2 x3 x4) (λ_=>none))) := by intro t; cases t <;> (intros; rfl)
abbrev t1140:=Callee → t1091
def l445 : t1140 := (λx0=>(@Callee.rec (λ_=>t1091) (λ_ _ _ _ _=>none) (λ_ _ _ _ _ _=>none) (λx1 x2 x3 x4 x5=>(l362 x1 x2 x3 x4 x5)) x0))
theorem l445_eq : ∀ x0 x1 x2 x3 x4, (Eq (l445 x0 x1 x2 x3 x4) (@o_call._sparseCasesOn_1 (λ_=>t4) x0 (λx5=>(l362 x5 x1 x2 x3 x4)) (λ_=>none))) := by intro t; cases t <;> (intros; rfl)
def k_o_call : t1091 := (λx0 x1 x2 x3=>(l445 (Call.callee x2) x0 x1 x2 x3))
theorem k_o_call_eq : @k_o_call = o_call := by
  delta k_o_call o_call
  simp only [l445_eq, l362_eq]
  rw [k_o_min_eq, k_o_max_eq, k_o_len_eq, k_o_copy_eq, k_o_append_eq]
  all_goals kernel_rfl

abbrev t1141:=t14 → t8
abbrev t1142:=Program → t1141
abbrev t1143:=Op → t1142
def l47 : t1143 := (λx0=>(@Op.rec (λ_=>t1142) (λx1 x2 x3 x4=>(k_o_move x2 x3 x1 x4)) (λx1 x2 x3 x4=>(k_o_move x2 x3 x1 x4)) (λx1 x2 x3 x4 x5 x6=>(k_o_pick x4 x5 x1 x2 x3 x6)) (λx1 x2 x3 x4=>(k_o_alloc x2 x3 x1 x4)) (λx1 x2 x3 x4 x5=>(k_o_box x3 x4 x1 x2 x5)) (λx1 x2 x3 x4 x5=>(k_o_build x3 x4 x1 x2 x5)) (λx1 x2 x3 x4 x5 x6=>(k_o_buildSlice x4 x5 x1 x2 x3 x6)) (λx1 x2 x3 x4 x5 x6 x7=>(k_o_mapUpdate x5 x6 x1 x2 x3 x4 x7)) (λx1 x2 x3 x4 x5=>(k_o_load x3 x4 x1 x2 x5)) (λx1 x2 x3 x4 x5 x6=>(k_o_store x4 x5 x1 x2 x3 x6)) (λ_ _ _ _=>none) (λ_ _ _ _=>none) (λx1 x2 x3 x4=>(k_o_nilCheck x2 x3 x1 x4)) (λx1 x2 x3 x4 _ x6 x7 x8=>(k_o_binOp x6 x7 x1 x2 x3 x4 x8)) (λx1 _ x3 x4 x5 x6=>(k_o_unOp x4 x5 x1 x3 x6)) (λx1 x2 x3 x4 x5 x6=>(k_o_convert x4 x5 x1 x2 x3 x6)) (λ_ _ _ _ _=>none) (λx1 x2 x3 x4 x5=>(k_o_makeInterface x3 x4 x1 x2 x5)) (λx1 x2 x3 x4 x5 x6=>(k_o_makeFunc x4 x5 x1 x2 x3 x6)) (λx1 x2 x3 x4 x5=>(k_mapF x3 x4 x1 x2 x5)) (λ_ _ _ _ _=>none) (λx1 x2 x3 x4 x5 x6=>(k_o_makeSlice x4 x5 x1 x2 x3 x6)) (λx1 x2 x3 x4 x5 x6 x7 x8=>(k_o_slice x6 x7 x1 x2 x3 x4 x5 x8)) (λx1 x2 x3 x4 x5 x6=>(k_o_fieldAddr x4 x5 x1 x2 x3 x6)) (λx1 x2 x3 x4 x5 x6=>(k_o_field x4 x5 x1 x2 x3 x6)) (λx1 x2 x3 x4 x5 x6=>(k_o_indexAddr x4 x5 x1 x2 x3 x6)) (λx1 x2 x3 x4 x5 x6=>(k_o_index x4 x5 x1 x2 x3 x6)) (λx1 x2 x3 x4 x5 x6 x7=>(k_o_lookup x5 x6 x1 x2 x3 x4 x7)) (λx1 x2 x3 x4 x5 x6 x7=>(k_o_mapUpdate x5 x6 x1 x2 x3 x4 x7)) (λ_ _ _ _ _ _=>none) (λ_ _ _ _ _ _ _=>none) (λ_ _ _ _ _=>none) (λ_ _ _ _ _=>none) (λ_ _ _ _=>none) (λx1 _ x3 x4 x5 x6 x7=>(k_o_typeAssert x5 x6 x1 x3 x4 x7)) (λx1 x2 x3 x4 x5=>(k_o_extract x3 x4 x1 x2 x5)) (λx1 x2 x3 x4=>(k_o_call x2 x3 x1 x4)) (λ_ _ _ _=>none) (λ_ _ _ _=>none) (λ_ _ _ _=>none) (λ_ _ _ _ _=>none) (λ_ _ _ _ _ _=>none) (λ_ _ _ _ _=>none) x0))
theorem l47_eq : ∀ x0, (Eq (l47 x0) (@opF._sparseCasesOn_1 (λ_=>t1142) x0 (λx1 x2 x3 x4=>(k_o_call x2 x3 x1 x4)) (λx1 x2 x3 x4=>(k_o_move x2 x3 x1 x4)) (λx1 x2 x3 x4=>(k_o_move x2 x3 x1 x4)) (λx1 x2 x3 x4 x5 x6=>(k_o_pick x4 x5 x1 x2 x3 x6)) (λx1 x2 x3 x4=>(k_o_alloc x2 x3 x1 x4)) (λx1 x2 x3 x4 x5=>(k_o_box x3 x4 x1 x2 x5)) (λx1 x2 x3 x4 x5=>(k_o_build x3 x4 x1 x2 x5)) (λx1 x2 x3 x4 x5 x6=>(k_o_buildSlice x4 x5 x1 x2 x3 x6)) (λx1 x2 x3 x4 x5=>(k_o_load x3 x4 x1 x2 x5)) (λx1 x2 x3 x4 x5 x6=>(k_o_store x4 x5 x1 x2 x3 x6)) (λx1 x2 x3 x4=>(k_o_nilCheck x2 x3 x1 x4)) (λx1 x2 x3 x4 _ x6 x7 x8=>(k_o_binOp x6 x7 x1 x2 x3 x4 x8)) (λx1 _ x3 x4 x5 x6=>(k_o_unOp x4 x5 x1 x3 x6)) (λx1 x2 x3 x4 x5 x6=>(k_o_convert x4 x5 x1 x2 x3 x6)) (λx1 x2 x3 x4 x5=>(k_o_makeInterface x3 x4 x1 x2 x5)) (λx1 x2 x3 x4 x5 x6=>(k_o_makeFunc x4 x5 x1 x2 x3 x6)) (λx1 x2 x3 x4 x5=>(k_mapF x3 x4 x1 x2 x5)) (λx1 x2 x3 x4 x5 x6=>(k_o_makeSlice x4 x5 x1 x2 x3 x6)) (λx1 x2 x3 x4 x5 x6 x7 x8=>(k_o_slice x6 x7 x1 x2 x3 x4 x5 x8)) (λx1 x2 x3 x4 x5 x6=>(k_o_fieldAddr x4 x5 x1 x2 x3 x6)) (λx1 x2 x3 x4 x5 x6=>(k_o_field x4 x5 x1 x2 x3 x6)) (λx1 x2 x3 x4 x5 x6=>(k_o_indexAddr x4 x5 x1 x2 x3 x6)) (λx1 x2 x3 x4 x5 x6=>(k_o_index x4 x5 x1 x2 x3 x6)) (λx1 x2 x3 x4 x5 x6 x7=>(k_o_lookup x5 x6 x1 x2 x3 x4 x7)) (λx1 x2 x3 x4 x5 x6 x7=>(k_o_mapUpdate x5 x6 x1 x2 x3 x4 x7)) (λx1 x2 x3 x4 x5 x6 x7=>(k_o_mapUpdate x5 x6 x1 x2 x3 x4 x7)) (λx1 x2 x3 x4 x5=>(k_o_extract x3 x4 x1 x2 x5)) (λx1 _ x3 x4 x5 x6 x7=>(k_o_typeAssert x5 x6 x1 x3 x4 x7)) (λ_ _ _ _=>none))) := by intro t; cases t <;> (intros; rfl)
def k_opF : t1143 := (λx0=>(l47 x0))
theorem k_opF_eq : @k_opF = opF := by
  delta k_opF opF
  simp only [l47_eq]
  rw [k_o_call_eq, k_o_extract_eq, k_o_typeAssert_eq, k_o_mapUpdate_eq, k_o_lookup_eq, k_o_index_eq, k_o_indexAddr_eq, k_o_field_eq, k_o_fieldAddr_eq, k_o_slice_eq, k_o_makeSlice_eq, k_mapF_eq, k_o_makeFunc_eq, k_o_makeInterface_eq, k_o_convert_eq, k_o_unOp_eq, k_o_binOp_eq, k_o_nilCheck_eq, k_o_store_eq, k_o_load_eq, k_o_buildSlice_eq, k_o_build_eq, k_o_box_eq, k_o_alloc_eq, k_o_pick_eq, k_o_move_eq]
  all_goals kernel_rfl

abbrev t1144:=Op → t8
abbrev t1145:=t14 → t1144
abbrev t1146:=Program → t1145
def k_opV' : t1146 := (λx0 x1 x2 x3=>(k_opF x2 x0 x1 x3))
theorem k_opV'_eq : @k_opV' = opV' := by
  delta k_opV' opV'
  rw [k_opF_eq]
  all_goals kernel_rfl

theorem k_opV_eq : @k_opV' = @opV := k_opV'_eq.trans opV'_eq
abbrev t1147:=S → t178
abbrev t1148:=Dm → t1147
abbrev t1149:=t14 → t1148
abbrev t1150:=t161 → t1149
abbrev t1151:=Nat → t1150
abbrev t1152:=Program → t1151
def l46 : t1152 := (λx0 x1 x2 x3 x4 x5 x6 x7=>(l45 (k_opV' x0 x3 (Oper.op x6) x5) x0 x1 x2 x3 x4 x6 x7))
theorem l46_eq : ∀ x0 x1 x2 x3 x4 x5 x6 x7, (Eq (l46 x0 x1 x2 x3 x4 x5 x6 x7) (l45 (k_opV' x0 x3 (Oper.op x6) x5) x0 x1 x2 x3 x4 x6 x7)) := by intros; rfl
def l446 : t184 := (λx0=>(@Ret.rec (λ_=>t183) (λx1 x2 x3 x4 x5 x6 x7 x8 x9=>(@Option.rec t14 (λ_=>t170) none (λx10=>(x9 x3 x4 x5 x10 x7 x2)) (k_putE x4 (Oper.dst x8) x1 x6))) (λ_ _ _ _ _ _ _ _ _=>none) x0))
theorem l446_eq : ∀ x0 x1 x2 x3 x4 x5 x6 x7, (Eq (l446 x0 x1 x2 x3 x4 x5 x6 x7) (@regP._sparseCasesOn_2 (λ_=>t170) x0 (λx8 x9=>(@Option.rec t14 (λ_=>t170) none (λx10=>(x7 x1 x2 x3 x10 x5 x9)) (k_putE x2 (Oper.dst x6) x8 x4))) (λ_=>none))) := by intro t; cases t <;> (intros; rfl)
def l447 : t185 := (λx0=>(@Option.rec Ret (λ_=>t183) (λ_ _ _ _ _ _ _=>none) (λx1 x2 x3 x4 x5 x6 x7 x8=>(l446 x1 x2 x3 x4 x5 x6 x7 x8)) x0))
theorem l447_eq : ∀ x0 x1 x2 x3 x4 x5 x6 x7, (Eq (l447 x0 x1 x2 x3 x4 x5 x6 x7) (@methV._sparseCasesOn_2 Ret (λ_=>t170) x0 (λx8=>(l446 x8 x1 x2 x3 x4 x5 x6 x7)) (λ_=>none))) := by intro t; cases t <;> (intros; rfl)
def l448 : t1152 := (λx0 x1 x2 x3 x4 x5 x6 x7=>(l447 (k_opV' x0 x3 (Oper.op x6) x5) x0 x1 x2 x3 x4 x6 x7))
theorem l448_eq : ∀ x0 x1 x2 x3 x4 x5 x6 x7, (Eq (l448 x0 x1 x2 x3 x4 x5 x6 x7) (l447 (k_opV' x0 x3 (Oper.op x6) x5) x0 x1 x2 x3 x4 x6 x7)) := by intros; rfl
def l449 : t184 := (λx0=>(@Ret.rec (λ_=>t183) (λx1 x2 x3 x4 x5 x6 x7 x8 x9=>(@Option.rec t14 (λ_=>t170) none (λx10=>(x9 x3 x4 x5 x10 x7 x2)) (k_putE x4 (Oper.dst x8) x1 x6))) (λ_ _ _ _ _ _ _ _ _=>none) x0))
theorem l449_eq : ∀ x0 x1 x2 x3 x4 x5 x6 x7, (Eq (l449 x0 x1 x2 x3 x4 x5 x6 x7) (@regP._sparseCasesOn_2 (λ_=>t170) x0 (λx8 x9=>(@Option.rec t14 (λ_=>t170) none (λx10=>(x7 x1 x2 x3 x10 x5 x9)) (k_putE x2 (Oper.dst x6) x8 x4))) (λ_=>none))) := by intro t; cases t <;> (intros; rfl)
def l450 : t185 := (λx0=>(@Option.rec Ret (λ_=>t183) (λ_ _ _ _ _ _ _=>none) (λx1 x2 x3 x4 x5 x6 x7 x8=>(l449 x1 x2 x3 x4 x5 x6 x7 x8)) x0))
theorem l450_eq : ∀ x0 x1 x2 x3 x4 x5 x6 x7, (Eq (l450 x0 x1 x2 x3 x4 x5 x6 x7) (@methV._sparseCasesOn_2 Ret (λ_=>t170) x0 (λx8=>(l449 x8 x1 x2 x3 x4 x5 x6 x7)) (λ_=>none))) := by intro t; cases t <;> (intros; rfl)
def l451 : t1152 := (λx0 x1 x2 x3 x4 x5 x6 x7=>(l450 (k_opV' x0 x3 (Oper.op x6) x5) x0 x1 x2 x3 x4 x6 x7))
theorem l451_eq : ∀ x0 x1 x2 x3 x4 x5 x6 x7, (Eq (l451 x0 x1 x2 x3 x4 x5 x6 x7) (l450 (k_opV' x0 x3 (Oper.op x6) x5) x0 x1 x2 x3 x4 x6 x7)) := by intros; rfl
abbrev t1153:=Bool → t170
abbrev t1154:=t81 → t1153
abbrev t1155:=t176 → t1154
abbrev t1156:=Oper → t1155
abbrev t1157:=S → t1156
abbrev t1158:=t14 → t1157
abbrev t1159:=t161 → t1158
abbrev t1160:=Nat → t1159
abbrev t1161:=Program → t1160
def l452 : t1161 := (λx0 x1 x2 x3 x4 x5 x6 x7 x8=>(@Option.rec t14 (λ_=>t170) none (λx9=>(x6 x0 x1 x2 x9 (Dm.mk x7 x8) x4)) (k_putE x1 (Oper.dst x5) (CV.val Value.nilIface) x3)))
theorem l452_eq : ∀ x0 x1 x2 x3 x4 x5 x6 x7 x8, (Eq (l452 x0 x1 x2 x3 x4 x5 x6 x7 x8) (@Option.rec t14 (λ_=>t170) none (λx9=>(x6 x0 x1 x2 x9 (Dm.mk x7 x8) x4)) (k_putE x1 (Oper.dst x5) (CV.val Value.nilIface) x3))) := by intros; rfl
abbrev t1162:=CV → t170
abbrev t1163:=Bool → t1162
abbrev t1164:=t176 → t1163
abbrev t1165:=Oper → t1164
abbrev t1166:=S → t1165
abbrev t1167:=t14 → t1166
abbrev t1168:=t161 → t1167
abbrev t1169:=Nat → t1168
abbrev t1170:=Program → t1169
def l453 : t1170 := (λx0 x1 x2 x3 x4 x5 x6 x7 x8=>(@Option.rec t14 (λ_=>t170) none (λx9=>(x6 x0 x1 x2 x9 (Dm.mk (some x8) x7) x4)) (k_putE x1 (Oper.dst x5) (CV.val Value.nilIface) x3)))
theorem l453_eq : ∀ x0 x1 x2 x3 x4 x5 x6 x7 x8, (Eq (l453 x0 x1 x2 x3 x4 x5 x6 x7 x8) (@Option.rec t14 (λ_=>t170) none (λx9=>(x6 x0 x1 x2 x9 (Dm.mk (some x8) x7) x4)) (k_putE x1 (Oper.dst x5) (CV.val Value.nilIface) x3))) := by intros; rfl
abbrev t1171:=CV → t1153
abbrev t1172:=t176 → t1171
abbrev t1173:=Oper → t1172
abbrev t1174:=S → t1173
abbrev t1175:=t14 → t1174
abbrev t1176:=t161 → t1175
abbrev t1177:=Nat → t1176
abbrev t1178:=Program → t1177
abbrev t1179:=Bool → t1178
def l454 : t1179 := (λx0=>(@Bool.rec (λ_=>t1178) (λx1 x2 x3 x4 x5 x6 x7 x8 _=>(@Option.rec t14 (λ_=>t170) none (λx10=>(x7 x1 x2 x3 x10 (Dm.mk (some x8) Bool.true) x5)) (k_putE x2 (Oper.dst x6) x8 x4))) (λx1 x2 x3 x4 x5 x6 x7 x8 x9=>(l453 x1 x2 x3 x4 x5 x6 x7 x9 x8)) x0))
theorem l454_eq : ∀ x0 x1 x2 x3 x4 x5 x6 x7 x8 x9, (Eq (l454 x0 x1 x2 x3 x4 x5 x6 x7 x8 x9) (@regR._sparseCasesOn_1 (λ_=>t170) x0 (@Option.rec t14 (λ_=>t170) none (λx10=>(x7 x1 x2 x3 x10 (Dm.mk (some x8) Bool.true) x5)) (k_putE x2 (Oper.dst x6) x8 x4)) (λ_=>(l453 x1 x2 x3 x4 x5 x6 x7 x9 x8)))) := by intro t; cases t <;> (intros; rfl)
abbrev t1180:=t81 → t1161
def l455 : t1180 := (λx0=>(@Option.rec CV (λ_=>t1161) (λx1 x2 x3 x4 x5 x6 x7 x8 x9=>(l452 x1 x2 x3 x4 x5 x6 x7 x8 x9)) (λx1 x2 x3 x4 x5 x6 x7 x8 _ x10=>(l454 x10 x2 x3 x4 x5 x6 x7 x8 x1 x10)) x0))
theorem l455_eq : ∀ x0 x1 x2 x3 x4 x5 x6 x7 x8 x9, (Eq (l455 x0 x1 x2 x3 x4 x5 x6 x7 x8 x9) (@methV._sparseCasesOn_2 CV (λ_=>t170) x0 (λx10=>(l454 x9 x1 x2 x3 x4 x5 x6 x7 x10 x9)) (λ_=>(l452 x1 x2 x3 x4 x5 x6 x7 x8 x9)))) := by intro t; cases t <;> (intros; rfl)
abbrev t1181:=Builtin → t1152
def l456 : t1181 := (λx0=>(@Builtin.rec (λ_=>t1152) (λx1 x2 x3 x4 x5 x6 x7 x8=>(l451 x1 x2 x3 x4 x5 x6 x7 x8)) (λx1 x2 x3 x4 x5 x6 x7 x8=>(l451 x1 x2 x3 x4 x5 x6 x7 x8)) (λx1 x2 x3 x4 x5 x6 x7 x8=>(l451 x1 x2 x3 x4 x5 x6 x7 x8)) (λx1 x2 x3 x4 x5 x6 x7 x8=>(l451 x1 x2 x3 x4 x5 x6 x7 x8)) (λx1 x2 x3 x4 x5 x6 x7 x8=>(l451 x1 x2 x3 x4 x5 x6 x7 x8)) (λx1 x2 x3 x4 x5 x6 x7 x8=>(l451 x1 x2 x3 x4 x5 x6 x7 x8)) (λx1 x2 x3 x4 x5 x6 x7 x8=>(l451 x1 x2 x3 x4 x5 x6 x7 x8)) (λx1 x2 x3 x4 x5 x6 x7 x8=>(l451 x1 x2 x3 x4 x5 x6 x7 x8)) (λx1 x2 x3 x4 x5 x6 x7 x8=>(l451 x1 x2 x3 x4 x5 x6 x7 x8)) (λx1 x2 x3 x4 x5 x6 x7 x8=>(l451 x1 x2 x3 x4 x5 x6 x7 x8)) (λx1 x2 x3 x4 x5 x6 x7 x8=>(l451 x1 x2 x3 x4 x5 x6 x7 x8)) (λx1 x2 x3 x4 x5 x6 x7 x8=>(l451 x1 x2 x3 x4 x5 x6 x7 x8)) (λx1 x2 x3 x4 x5 x6 x7 x8=>(l451 x1 x2 x3 x4 x5 x6 x7 x8)) (λx1 x2 x3 x4 x5 x6 x7 x8=>(l451 x1 x2 x3 x4 x5 x6 x7 x8)) (λx1 x2 x3 x4 x5 x6 x7 x8=>(l451 x1 x2 x3 x4 x5 x6 x7 x8)) (λx1 x2 x3 x4 x5 x6 x7 x8=>(l451 x1 x2 x3 x4 x5 x6 x7 x8)) (λx1 x2 x3 x4 x5 x6 x7 x8=>(l451 x1 x2 x3 x4 x5 x6 x7 x8)) (λx1 x2 x3 x4 x5 x6 x7 x8=>(@Dm.rec (λ_=>t170) (λx9 x10=>(l455 x9 x1 x2 x3 x4 x6 x7 x8 x9 x10)) x5)) (λx1 x2 x3 x4 x5 x6 x7 x8=>(l451 x1 x2 x3 x4 x5 x6 x7 x8)) (λx1 x2 x3 x4 x5 x6 x7 x8=>(l451 x1 x2 x3 x4 x5 x6 x7 x8)) (λx1 x2 x3 x4 x5 x6 x7 x8=>(l451 x1 x2 x3 x4 x5 x6 x7 x8)) (λx1 x2 x3 x4 x5 x6 x7 x8=>(l451 x1 x2 x3 x4 x5 x6 x7 x8)) (λx1 x2 x3 x4 x5 x6 x7 x8=>(l451 x1 x2 x3 x4 x5 x6 x7 x8)) (λx1 x2 x3 x4 x5 x6 x7 x8=>(l451 x1 x2 x3 x4 x5 x6 x7 x8)) (λx1 x2 x3 x4 x5 x6 x7 x8=>(l451 x1 x2 x3 x4 x5 x6 x7 x8)) (λx1 x2 x3 x4 x5 x6 x7 x8=>(l451 x1 x2 x3 x4 x5 x6 x7 x8)) x0))
theorem l456_eq : ∀ x0 x1 x2 x3 x4 x5 x6 x7 x8, (Eq (l456 x0 x1 x2 x3 x4 x5 x6 x7 x8) (@regR._sparseCasesOn_4 (λ_=>t170) x0 (@Dm.rec (λ_=>t170) (λx9 x10=>(l455 x9 x1 x2 x3 x4 x6 x7 x8 x9 x10)) x5) (λ_=>(l451 x1 x2 x3 x4 x5 x6 x7 x8)))) := by intro t; cases t <;> (intros; rfl)
abbrev t1182:=Callee → t1152
def l457 : t1182 := (λx0=>(@Callee.rec (λ_=>t1152) (λ_ x2 x3 x4 x5 x6 x7 x8 x9=>(l448 x2 x3 x4 x5 x6 x7 x8 x9)) (λ_ _ x3 x4 x5 x6 x7 x8 x9 x10=>(l448 x3 x4 x5 x6 x7 x8 x9 x10)) (λx1 x2 x3 x4 x5 x6 x7 x8 x9=>(l456 x1 x2 x3 x4 x5 x6 x7 x8 x9)) x0))
theorem l457_eq : ∀ x0 x1 x2 x3 x4 x5 x6 x7 x8, (Eq (l457 x0 x1 x2 x3 x4 x5 x6 x7 x8) (@regR._sparseCasesOn_3 (λ_=>t170) x0 (λx9=>(l456 x9 x1 x2 x3 x4 x5 x6 x7 x8)) (λ_=>(l448 x1 x2 x3 x4 x5 x6 x7 x8)))) := by intro t; cases t <;> (intros; rfl)
abbrev t1183:=Op → t1152
def l458 : t1183 := (λx0=>(@Op.rec (λ_=>t1152) (λ_ x2 x3 x4 x5 x6 x7 x8 x9=>(l46 x2 x3 x4 x5 x6 x7 x8 x9)) (λ_ x2 x3 x4 x5 x6 x7 x8 x9=>(l46 x2 x3 x4 x5 x6 x7 x8 x9)) (λ_ _ _ x4 x5 x6 x7 x8 x9 x10 x11=>(l46 x4 x5 x6 x7 x8 x9 x10 x11)) (λ_ x2 x3 x4 x5 x6 x7 x8 x9=>(l46 x2 x3 x4 x5 x6 x7 x8 x9)) (λ_ _ x3 x4 x5 x6 x7 x8 x9 x10=>(l46 x3 x4 x5 x6 x7 x8 x9 x10)) (λ_ _ x3 x4 x5 x6 x7 x8 x9 x10=>(l46 x3 x4 x5 x6 x7 x8 x9 x10)) (λ_ _ _ x4 x5 x6 x7 x8 x9 x10 x11=>(l46 x4 x5 x6 x7 x8 x9 x10 x11)) (λ_ _ _ _ x5 x6 x7 x8 x9 x10 x11 x12=>(l46 x5 x6 x7 x8 x9 x10 x11 x12)) (λ_ _ x3 x4 x5 x6 x7 x8 x9 x10=>(l46 x3 x4 x5 x6 x7 x8 x9 x10)) (λ_ _ _ x4 x5 x6 x7 x8 x9 x10 x11=>(l46 x4 x5 x6 x7 x8 x9 x10 x11)) (λ_ x2 x3 x4 x5 x6 x7 x8 x9=>(l46 x2 x3 x4 x5 x6 x7 x8 x9)) (λ_ x2 x3 x4 x5 x6 x7 x8 x9=>(l46 x2 x3 x4 x5 x6 x7 x8 x9)) (λ_ x2 x3 x4 x5 x6 x7 x8 x9=>(l46 x2 x3 x4 x5 x6 x7 x8 x9)) (λ_ _ _ _ _ x6 x7 x8 x9 x10 x11 x12 x13=>(l46 x6 x7 x8 x9 x10 x11 x12 x13)) (λ_ _ _ x4 x5 x6 x7 x8 x9 x10 x11=>(l46 x4 x5 x6 x7 x8 x9 x10 x11)) (λ_ _ _ x4 x5 x6 x7 x8 x9 x10 x11=>(l46 x4 x5 x6 x7 x8 x9 x10 x11)) (λ_ _ x3 x4 x5 x6 x7 x8 x9 x10=>(l46 x3 x4 x5 x6 x7 x8 x9 x10)) (λ_ _ x3 x4 x5 x6 x7 x8 x9 x10=>(l46 x3 x4 x5 x6 x7 x8 x9 x10)) (λ_ _ _ x4 x5 x6 x7 x8 x9 x10 x11=>(l46 x4 x5 x6 x7 x8 x9 x10 x11)) (λ_ _ x3 x4 x5 x6 x7 x8 x9 x10=>(l46 x3 x4 x5 x6 x7 x8 x9 x10)) (λ_ _ x3 x4 x5 x6 x7 x8 x9 x10=>(l46 x3 x4 x5 x6 x7 x8 x9 x10)) (λ_ _ _ x4 x5 x6 x7 x8 x9 x10 x11=>(l46 x4 x5 x6 x7 x8 x9 x10 x11)) (λ_ _ _ _ _ x6 x7 x8 x9 x10 x11 x12 x13=>(l46 x6 x7 x8 x9 x10 x11 x12 x13)) (λ_ _ _ x4 x5 x6 x7 x8 x9 x10 x11=>(l46 x4 x5 x6 x7 x8 x9 x10 x11)) (λ_ _ _ x4 x5 x6 x7 x8 x9 x10 x11=>(l46 x4 x5 x6 x7 x8 x9 x10 x11)) (λ_ _ _ x4 x5 x6 x7 x8 x9 x10 x11=>(l46 x4 x5 x6 x7 x8 x9 x10 x11)) (λ_ _ _ x4 x5 x6 x7 x8 x9 x10 x11=>(l46 x4 x5 x6 x7 x8 x9 x10 x11)) (λ_ _ _ _ x5 x6 x7 x8 x9 x10 x11 x12=>(l46 x5 x6 x7 x8 x9 x10 x11 x12)) (λ_ _ _ _ x5 x6 x7 x8 x9 x10 x11 x12=>(l46 x5 x6 x7 x8 x9 x10 x11 x12)) (λ_ _ _ x4 x5 x6 x7 x8 x9 x10 x11=>(l46 x4 x5 x6 x7 x8 x9 x10 x11)) (λ_ _ _ _ x5 x6 x7 x8 x9 x10 x11 x12=>(l46 x5 x6 x7 x8 x9 x10 x11 x12)) (λ_ _ x3 x4 x5 x6 x7 x8 x9 x10=>(l46 x3 x4 x5 x6 x7 x8 x9 x10)) (λ_ _ x3 x4 x5 x6 x7 x8 x9 x10=>(l46 x3 x4 x5 x6 x7 x8 x9 x10)) (λ_ x2 x3 x4 x5 x6 x7 x8 x9=>(l46 x2 x3 x4 x5 x6 x7 x8 x9)) (λ_ _ _ _ x5 x6 x7 x8 x9 x10 x11 x12=>(l46 x5 x6 x7 x8 x9 x10 x11 x12)) (λ_ _ x3 x4 x5 x6 x7 x8 x9 x10=>(l46 x3 x4 x5 x6 x7 x8 x9 x10)) (λx1 x2 x3 x4 x5 x6 x7 x8 x9=>(l457 (Call.callee x1) x2 x3 x4 x5 x6 x7 x8 x9)) (λ_ x2 x3 x4 x5 x6 x7 x8 x9=>(l46 x2 x3 x4 x5 x6 x7 x8 x9)) (λ_ x2 x3 x4 x5 x6 x7 x8 x9=>(l46 x2 x3 x4 x5 x6 x7 x8 x9)) (λ_ x2 x3 x4 x5 x6 x7 x8 x9=>(l46 x2 x3 x4 x5 x6 x7 x8 x9)) (λ_ _ x3 x4 x5 x6 x7 x8 x9 x10=>(l46 x3 x4 x5 x6 x7 x8 x9 x10)) (λ_ _ _ x4 x5 x6 x7 x8 x9 x10 x11=>(l46 x4 x5 x6 x7 x8 x9 x10 x11)) (λ_ _ x3 x4 x5 x6 x7 x8 x9 x10=>(l46 x3 x4 x5 x6 x7 x8 x9 x10)) x0))
theorem l458_eq : ∀ x0 x1 x2 x3 x4 x5 x6 x7 x8, (Eq (l458 x0 x1 x2 x3 x4 x5 x6 x7 x8) (@regR._sparseCasesOn_5 (λ_=>t170) x0 (λx9=>(l457 (Call.callee x9) x1 x2 x3 x4 x5 x6 x7 x8)) (λ_=>(l46 x1 x2 x3 x4 x5 x6 x7 x8)))) := by intro t; cases t <;> (intros; rfl)
abbrev t1184:=Bool → t1152
def l459 : t1184 := (λx0=>(@Bool.rec (λ_=>t1152) (λx1 x2 x3 x4 x5 x6 x7 x8=>(@Option.rec t14 (λ_=>t170) none (λx9=>(x8 x1 x2 x3 x9 x5 x6)) (k_putE x2 (Oper.dst x7) (CV.tup []) x4))) (λx1 x2 x3 x4 x5 x6 x7 x8=>(l458 (Oper.op x7) x1 x2 x3 x4 x5 x6 x7 x8)) x0))
theorem l459_eq : ∀ x0 x1 x2 x3 x4 x5 x6 x7 x8, (Eq (l459 x0 x1 x2 x3 x4 x5 x6 x7 x8) (@Bool.rec (λ_=>t170) (@Option.rec t14 (λ_=>t170) none (λx9=>(x8 x1 x2 x3 x9 x5 x6)) (k_putE x2 (Oper.dst x7) (CV.tup []) x4)) (l458 (Oper.op x7) x1 x2 x3 x4 x5 x6 x7 x8) x0)) := by intro t; cases t <;> (intros; rfl)
def l460 : t490 := (λx0=>(@Value.rec (λ_=>t391) (λ_=>PUnit.{1}) (λ_=>PUnit.{1}) (λx1 x2=>(@Bool.rec (λ_=>t369) (some (@Bool.rec (λ_=>Bool) Bool.true Bool.false x2)) (some x2) x1)) (λ_ _ _=>none) (λ_ _ _=>none) (λ_ _ _ _=>none) (λ_ _=>none) (λ_ _=>none) (λ_ _ _ _=>none) (λ_ _=>none) (λ_ _=>none) (λ_ _ _ _ _ _=>none) (λ_=>none) (λ_ _ _ _=>none) (λ_=>none) (λ_ _ _=>none) (λ_ _ _=>none) (λ_ _=>PUnit.unit.{1}) PUnit.unit.{1} (λ_ _ _ _=>PUnit.unit.{1}) x0))
theorem l460_eq : ∀ x0 x1, (Eq (l460 x0 x1) (@guardV._sparseCasesOn_2 (λ_=>t369) x0 (λx2=>(@Bool.rec (λ_=>t369) (some (@Bool.rec (λ_=>Bool) Bool.true Bool.false x1)) (some x1) x2)) (λ_=>none))) := by intro t; cases t <;> (intros; rfl)
def l461 : t372 := (λx0=>(@List.rec CV (λ_=>t369) (some Bool.false) (λ_ _ _=>none) x0))
theorem l461_eq : ∀ x0, (Eq (l461 x0) (@methV._sparseCasesOn_1 CV (λ_=>t369) x0 (some Bool.false) (λ_=>none))) := by intro t; cases t <;> (intros; rfl)
def l462 : t491 := (λx0=>(@CV.rec (λ_=>t391) (λ_=>PUnit.{1}) (λ_=>none) (λx1 x2=>(l460 x1 x2)) (λ_ _ _=>none) (λ_ _ _ _ _ _=>none) (λ_=>none) (λ_ _=>none) (λ_ _ _=>none) (λx1 _ _=>(l461 x1)) (λ_ _ _ _ _ _=>none) (λ_ _=>none) (λ_ _ _ _=>none) PUnit.unit.{1} (λ_ _ _ _=>PUnit.unit.{1}) x0))
theorem l462_eq : ∀ x0 x1, (Eq (l462 x0 x1) (@guardV._sparseCasesOn_1 (λ_=>t369) x0 (λx2=>(l460 x2 x1)) (λx2=>(l461 x2)) (λ_=>none))) := by intro t; cases t <;> (intros; rfl)
abbrev t1185:=t81 → t391
def l463 : t1185 := (λx0=>(@Option.rec CV (λ_=>t391) (λ_=>none) (λx1 x2=>(l462 x1 x2)) x0))
theorem l463_eq : ∀ x0 x1, (Eq (l463 x0 x1) (@methV._sparseCasesOn_2 CV (λ_=>t369) x0 (λx2=>(l462 x2 x1)) (λ_=>none))) := by intro t; cases t <;> (intros; rfl)
abbrev t1186:=Option Oper
abbrev t1187:=Nat → t1186
abbrev t1188:=t161 → t1187
def k_List_get?Internal_Oper : t1188 := (λx0 x1=>(@List.rec Oper (λ_=>t1187) (λ_=>none) (λx2 _ x4 x5=>(@Nat.rec (λ_=>t1186) (some x2) (λx6 _=>(x4 x6)) x5)) x0 x1))
theorem k_List_get?Internal_Oper_law : ∀ x0 x1, (Eq (k_List_get?Internal_Oper x0 x1) (@List.get?Internal Oper x0 x1)) := by
  intro t
  induction t with
  | nil  =>
    intro z0
    show ((fun (_ : Nat) => none) z0) = _
    conv => rhs; rw [List.get?Internal.eq_def]
    all_goals kernel_rfl
  | cons y0 y1 ih0 =>
    intro z0
    have e0 : (fun (x0 : Nat) => (k_List_get?Internal_Oper y1 x0)) = (fun (x0 : Nat) => (@List.get?Internal Oper y1 x0)) := by
      funext z0; exact ih0 z0
    show ((fun (x0 : Oper) (_ : t161) (x2 : t1187) (x3 : Nat) => (@Nat.rec (fun (_ : Nat) => t1186) (some x0) (fun (x4 : Nat) (_ : t1186) => (x2 x4)) x3)) y0 y1 (fun (x0 : Nat) => (k_List_get?Internal_Oper y1 x0)) z0) = _
    rw [e0]
    conv => rhs; rw [List.get?Internal.eq_def]
    all_goals kernel_rfl
theorem k_List_get?Internal_Oper_eq : @k_List_get?Internal_Oper = (@List.get?Internal Oper) := by
  funext a0 a1; exact k_List_get?Internal_Oper_law a0 a1
abbrev t1189:=Prod Nat Bool
abbrev t1190:=t14 → t369
abbrev t1191:=t161 → t1190
abbrev t1192:=t1189 → t1191
def l464 : t1192 := (λx0=>(@Prod.rec Nat Bool (λ_=>t1191) (λx1 x2 x3 x4=>((λx5 x6=>(@Option.rec Oper (λ_=>t369) none (λx7=>((λx8=>(@Option.rec Tmp (λ_=>t369) none (λx9=>((λx10=>(l463 (getCV x4 x10) x6)) x9)) (Oper.dst x8))) x7)) (k_List_get?Internal_Oper x3 x5))) x1 x2)) x0))
theorem l464_eq : ∀ x0 x1 x2, (Eq (l464 x0 x1 x2) (@Prod.rec Nat Bool (λ_=>t369) (λx3 x4=>((λx5 x6=>(@Option.rec Oper (λ_=>t369) none (λx7=>((λx8=>(@Option.rec Tmp (λ_=>t369) none (λx9=>((λx10=>(l463 (getCV x2 x10) x6)) x9)) (Oper.dst x8))) x7)) (k_List_get?Internal_Oper x1 x5))) x3 x4)) x0)) := by intro t; cases t <;> (intros; rfl)
abbrev t1193:=Oper → t369
abbrev t1194:=t14 → t1193
abbrev t1195:=t161 → t1194
def k_guardV : t1195 := (λx0 x1 x2=>(@Option.rec t1189 (λ_=>t369) (some Bool.true) (λx3=>(l464 x3 x0 x1)) (Oper.guard x2)))
theorem k_guardV_eq : @k_guardV = guardV := by
  delta k_guardV guardV
  simp only [l460_eq, l461_eq, l463_eq, l464_eq, l462_eq]
  rw [k_List_get?Internal_Oper_eq, getCV_eq]
  all_goals kernel_rfl

abbrev t1196:=t161 → t174
abbrev t1197:=Nat → t1196
abbrev t1198:=Program → t1197
def k_regR : t1198 := (λx0 x1 x2 x3 x4 x5 x6=>(@List.rec Oper (λ_=>t176) (λ_ _ _ x10 x11 x12=>(some (x10, (x11, x12)))) (λx7 _ x9 x10 x11 x12 x13 x14 x15=>(@Option.rec Bool (λ_=>t170) none (λx16=>(l459 x16 x10 x11 x12 x13 x14 x15 x7 x9)) (k_guardV x12 x13 x7))) x3 x0 x1 x2 x4 x5 x6))
theorem k_regR_law : ∀ x0 x1 x2 x3 x4 x5 x6, (Eq (k_regR x1 x2 x3 x0 x4 x5 x6) (regR x1 x2 x3 x0 x4 x5 x6)) := by
  intro t
  induction t with
  | nil  =>
    intro z0 z1 z2 z3 z4 z5
    show ((fun (_ : Program) (_ : Nat) (_ : t161) (x3 : t14) (x4 : Dm) (x5 : S) => (some (x3, (x4, x5)))) z0 z1 z2 z3 z4 z5) = _
    conv => rhs; rw [Ev.regR.eq_def]
    all_goals kernel_rfl
  | cons y0 y1 ih0 =>
    intro z0 z1 z2 z3 z4 z5
    have e0 : (fun (x0 : Program) (x1 : Nat) (x2 : t161) (x3 : t14) (x4 : Dm) (x5 : S) => (k_regR x0 x1 x2 y1 x3 x4 x5)) = (fun (x0 : Program) (x1 : Nat) (x2 : t161) (x3 : t14) (x4 : Dm) (x5 : S) => (regR x0 x1 x2 y1 x3 x4 x5)) := by
      funext z0 z1 z2 z3 z4 z5; exact ih0 z0 z1 z2 z3 z4 z5
    show ((fun (x0 : Oper) (_ : t161) (x2 : t176) (x3 : Program) (x4 : Nat) (x5 : t161) (x6 : t14) (x7 : Dm) (x8 : S) => (@Option.rec Bool (fun (_ : t369) => t170) none (fun (x9 : Bool) => (l459 x9 x3 x4 x5 x6 x7 x8 x0 x2)) (k_guardV x5 x6 x0))) y0 y1 (fun (x0 : Program) (x1 : Nat) (x2 : t161) (x3 : t14) (x4 : Dm) (x5 : S) => (k_regR x0 x1 x2 y1 x3 x4 x5)) z0 z1 z2 z3 z4 z5) = _
    rw [e0]
    conv => rhs; rw [Ev.regR.eq_def]
    try simp only [l458_eq, l451_eq, l452_eq, l449_eq, l46_eq, l447_eq, l454_eq, l446_eq, l45_eq, l453_eq, l459_eq, l457_eq, l448_eq, l456_eq, l44_eq, l455_eq, l450_eq]
    try rw [k_guardV_eq]
    try rw [k_putE_eq]
    try rw [k_opV_eq]
    all_goals kernel_rfl
theorem k_regR_eq : @k_regR = regR := by
  funext a0 a1 a2 a3 a4 a5 a6; exact k_regR_law a3 a0 a1 a2 a4 a5 a6
abbrev t1199:=Program → t137
abbrev t1200:=(Array Oper) → t1199
abbrev t1201:=Nat → t1200
abbrev t1202:=S → t1201
abbrev t1203:=Dm → t1202
abbrev t1204:=t14 → t1203
abbrev t1205:=Nat → t1204
abbrev t1206:=Run → t1205
abbrev t1207:=Bool → t1206
def l43 : t1207 := (λx0=>(@Bool.rec (λ_=>t1206) (λx1 x2 x3 x4 x5 x6 x7 _=>(l42 (Run.code x1 (Code.region x6 x7 Bool.false) (Fr.mk x2 x3 [] none) x5) x4)) (λ_ x2 x3 x4 x5 _ x7 x8=>(@Option.rec t131 (λ_=>t137) none (λx9=>(@Prod.rec t14 t126 (λ_=>t137) (λx10 x11=>(@Prod.rec Dm S (λ_=>t137) (λx12 x13=>(some (Ex.normal, (x10, (x12, x13))))) x11)) x9)) (k_regR x8 x2 (@Array.toList Oper x7) (@Array.toList Oper x7) x3 x4 x5))) x0))
theorem l43_eq : ∀ x0 x1 x2 x3 x4 x5 x6 x7 x8, (Eq (l43 x0 x1 x2 x3 x4 x5 x6 x7 x8) (@Bool.rec (λ_=>t137) (l42 (Run.code x1 (Code.region x6 x7 Bool.false) (Fr.mk x2 x3 [] none) x5) x4) (@Option.rec t131 (λ_=>t137) none (λx9=>(@Prod.rec t14 t126 (λ_=>t137) (λx10 x11=>(@Prod.rec Dm S (λ_=>t137) (λx12 x13=>(some (Ex.normal, (x10, (x12, x13))))) x11)) x9)) (k_regR x8 x2 (@Array.toList Oper x7) (@Array.toList Oper x7) x3 x4 x5)) x0)) := by intro t; cases t <;> (intros; rfl)
abbrev t1208:=Builtin → Bool
def l466 : t1208 := (λx0=>(@Builtin.rec (λ_=>Bool) Bool.false Bool.false Bool.false Bool.false Bool.false Bool.false Bool.false Bool.false Bool.false Bool.false Bool.false Bool.false Bool.false Bool.false Bool.false Bool.false Bool.false Bool.true Bool.false Bool.false Bool.false Bool.false Bool.false Bool.false Bool.false Bool.false x0))
theorem l466_eq : ∀ x0, (Eq (l466 x0) (@regR._sparseCasesOn_4 (λ_=>Bool) x0 Bool.true (λ_=>Bool.false))) := by intro t; cases t <;> (intros; rfl)
abbrev t1209:=Callee → Bool
def l467 : t1209 := (λx0=>(@Callee.rec (λ_=>Bool) (λ_=>Bool.false) (λ_ _=>Bool.false) (λx1=>(l466 x1)) x0))
theorem l467_eq : ∀ x0, (Eq (l467 x0) (@regR._sparseCasesOn_3 (λ_=>Bool) x0 (λx1=>(l466 x1)) (λ_=>Bool.false))) := by intro t; cases t <;> (intros; rfl)
abbrev t1210:=Op → Bool
def l468 : t1210 := (λx0=>(@Op.rec (λ_=>Bool) (λ_=>Bool.false) (λ_=>Bool.false) (λ_ _ _=>Bool.false) (λ_=>Bool.false) (λ_ _=>Bool.false) (λ_ _=>Bool.false) (λ_ _ _=>Bool.false) (λ_ _ _ _=>Bool.false) (λ_ _=>Bool.false) (λ_ _ _=>Bool.false) (λ_=>Bool.false) (λ_=>Bool.false) (λ_=>Bool.false) (λ_ _ _ _ _=>Bool.false) (λ_ _ _=>Bool.false) (λ_ _ _=>Bool.false) (λ_ _=>Bool.false) (λ_ _=>Bool.false) (λ_ _ _=>Bool.false) (λ_ _=>Bool.false) (λ_ _=>Bool.false) (λ_ _ _=>Bool.false) (λ_ _ _ _ _=>Bool.false) (λ_ _ _=>Bool.false) (λ_ _ _=>Bool.false) (λ_ _ _=>Bool.false) (λ_ _ _=>Bool.false) (λ_ _ _ _=>Bool.false) (λ_ _ _ _=>Bool.false) (λ_ _ _=>Bool.false) (λ_ _ _ _=>Bool.false) (λ_ _=>Bool.false) (λ_ _=>Bool.false) (λ_=>Bool.false) (λ_ _ _ _=>Bool.false) (λ_ _=>Bool.false) (λx1=>(l467 (Call.callee x1))) (λ_=>Bool.false) (λ_=>Bool.false) (λ_=>Bool.false) (λ_ _=>Bool.false) (λ_ _ _=>Bool.false) (λ_ _=>Bool.false) x0))
theorem l468_eq : ∀ x0, (Eq (l468 x0) (@regR._sparseCasesOn_5 (λ_=>Bool) x0 (λx1=>(l467 (Call.callee x1))) (λ_=>Bool.false))) := by intro t; cases t <;> (intros; rfl)
abbrev t1211:=t161 → Bool
def k_hasRec : t1211 := (λx0=>(@List.any Oper x0 (λx1=>(l468 (Oper.op x1)))))
theorem k_hasRec_eq : @k_hasRec = hasRec := by
  delta k_hasRec hasRec
  simp only [l467_eq, l468_eq, l466_eq]
  all_goals kernel_rfl

abbrev t1212:=Program → t160
abbrev t1213:=Bool → t1212
def l465 : t1213 := (λx0=>(@Bool.rec (λ_=>t1212) (λx1 x2 x3 x4 x5 x6 x7 x8 _=>(l43 (k_hasRec (@Array.toList Oper x8)) x2 x3 x4 x5 x6 x7 x8 x1)) (λ_ x2 x3 x4 x5 x6 x7 x8 x9=>(l39 x2 x3 x4 x5 x6 x7 x8 x9)) x0))
theorem l465_eq : ∀ x0 x1 x2 x3 x4 x5 x6 x7 x8 x9, (Eq (l465 x0 x1 x2 x3 x4 x5 x6 x7 x8 x9) (@regR._sparseCasesOn_1 (λ_=>t137) x0 (l43 (k_hasRec (@Array.toList Oper x8)) x2 x3 x4 x5 x6 x7 x8 x1) (λ_=>(l39 x2 x3 x4 x5 x6 x7 x8 x9)))) := by intro t; cases t <;> (intros; rfl)
abbrev t1214:=S → t137
abbrev t1215:=Dm → t1214
abbrev t1216:=t14 → t1215
abbrev t1217:=Nat → t1216
abbrev t1218:=Run → t1217
abbrev t1219:=Program → t1218
abbrev t1220:=Ex → t137
abbrev t1221:=t131 → t1220
abbrev t1222:=t1219 → t1221
abbrev t1223:=Nat → t1222
abbrev t1224:=Run → t1223
abbrev t1225:=Program → t1224
abbrev t1226:=Ex → t1225
def l469 : t1226 := (λx0=>(@Ex.rec (λ_=>t1225) (λx1 x2 x3 x4 x5 _=>(@Prod.rec t14 t126 (λ_=>t137) (λx7 x8=>(@Prod.rec Dm S (λ_=>t137) (λx9 x10=>(x4 x1 x2 x3 x7 x9 x10)) x8)) x5)) (λ_ _ _ _ _ x6 x7=>(some (x7, x6))) (λ_ _ _ _ x5 x6=>(some (x6, x5))) (λ_ _ _ _ _ x6 x7=>(some (x7, x6))) x0))
theorem l469_eq : ∀ x0 x1 x2 x3 x4 x5 x6, (Eq (l469 x0 x1 x2 x3 x4 x5 x6) (@codeD._sparseCasesOn_1 (λ_=>t137) x0 (@Prod.rec t14 t126 (λ_=>t137) (λx7 x8=>(@Prod.rec Dm S (λ_=>t137) (λx9 x10=>(x4 x1 x2 x3 x7 x9 x10)) x8)) x5) (λ_=>(some (x6, x5))))) := by intro t; cases t <;> (intros; rfl)
abbrev t1227:=t1219 → t137
abbrev t1228:=t1219 → t1227
abbrev t1229:=S → t1228
abbrev t1230:=Dm → t1229
abbrev t1231:=t14 → t1230
abbrev t1232:=Nat → t1231
abbrev t1233:=Run → t1232
abbrev t1234:=Program → t1233
abbrev t1235:=t137 → t1234
def l470 : t1235 := (λx0=>(@Option.rec t136 (λ_=>t1234) (λx1 x2 x3 x4 x5 x6 x7 _=>(x7 x1 x2 x3 x4 x5 x6)) (λx1 x2 x3 x4 _ _ _ _ x9=>(@Prod.rec Ex t131 (λ_=>t137) (λx10 x11=>(l469 x10 x2 x3 x4 x9 x11 x10)) x1)) x0))
theorem l470_eq : ∀ x0 x1 x2 x3 x4 x5 x6 x7 x8, (Eq (l470 x0 x1 x2 x3 x4 x5 x6 x7 x8) (@methV._sparseCasesOn_2 t136 (λ_=>t137) x0 (λx9=>(@Prod.rec Ex t131 (λ_=>t137) (λx10 x11=>(l469 x10 x1 x2 x3 x8 x11 x10)) x9)) (λ_=>(x7 x1 x2 x3 x4 x5 x6)))) := by intro t; cases t <;> (intros; rfl)
abbrev t1236:=Value → t1234
def l471 : t1236 := (λx0=>(@Value.rec (λ_=>t1234) (λ_=>PUnit.{1}) (λ_=>PUnit.{1}) (λx1 x2 x3 x4 x5 x6 x7 x8 x9=>(@Bool.rec (λ_=>t137) (x9 x2 x3 x4 x5 x6 x7) (x8 x2 x3 x4 x5 x6 x7) x1)) (λ_ _ _ _ _ _ _ _ _ _=>none) (λ_ _ _ _ _ _ _ _ _ _=>none) (λ_ _ _ _ _ _ _ _ _ _ _=>none) (λ_ _ _ _ _ _ _ _ _=>none) (λ_ _ _ _ _ _ _ _ _=>none) (λ_ _ _ _ _ _ _ _ _ _ _=>none) (λ_ _ _ _ _ _ _ _ _=>none) (λ_ _ _ _ _ _ _ _ _=>none) (λ_ _ _ _ _ _ _ _ _ _ _ _ _=>none) (λ_ _ _ _ _ _ _ _=>none) (λ_ _ _ _ _ _ _ _ _ _ _=>none) (λ_ _ _ _ _ _ _ _=>none) (λ_ _ _ _ _ _ _ _ _ _=>none) (λ_ _ _ _ _ _ _ _ _ _=>none) (λ_ _=>PUnit.unit.{1}) PUnit.unit.{1} (λ_ _ _ _=>PUnit.unit.{1}) x0))
theorem l471_eq : ∀ x0 x1 x2 x3 x4 x5 x6 x7 x8, (Eq (l471 x0 x1 x2 x3 x4 x5 x6 x7 x8) (@guardV._sparseCasesOn_2 (λ_=>t137) x0 (λx9=>(@Bool.rec (λ_=>t137) (x8 x1 x2 x3 x4 x5 x6) (x7 x1 x2 x3 x4 x5 x6) x9)) (λ_=>none))) := by intro t; cases t <;> (intros; rfl)
abbrev t1237:=CV → t1234
def l472 : t1237 := (λx0=>(@CV.rec (λ_=>t1234) (λ_=>PUnit.{1}) (λ_ _ _ _ _ _ _ _=>none) (λx1 x2 x3 x4 x5 x6 x7 x8 x9=>(l471 x1 x2 x3 x4 x5 x6 x7 x8 x9)) (λ_ _ _ _ _ _ _ _ _ _=>none) (λ_ _ _ _ _ _ _ _ _ _ _ _ _=>none) (λ_ _ _ _ _ _ _ _=>none) (λ_ _ _ _ _ _ _ _ _=>none) (λ_ _ _ _ _ _ _ _ _ _=>none) (λ_ _ _ _ _ _ _ _ _ _=>none) (λ_ _ _ _ _ _ _ _ _ _ _ _ _=>none) (λ_ _ _ _ _ _ _ _ _=>none) (λ_ _ _ _ _ _ _ _ _ _ _=>none) PUnit.unit.{1} (λ_ _ _ _=>PUnit.unit.{1}) x0))
theorem l472_eq : ∀ x0 x1 x2 x3 x4 x5 x6 x7 x8, (Eq (l472 x0 x1 x2 x3 x4 x5 x6 x7 x8) (@codeD._sparseCasesOn_2 (λ_=>t137) x0 (λx9=>(l471 x9 x1 x2 x3 x4 x5 x6 x7 x8)) (λ_=>none))) := by intro t; cases t <;> (intros; rfl)
abbrev t1238:=t81 → t1234
def l473 : t1238 := (λx0=>(@Option.rec CV (λ_=>t1234) (λ_ _ _ _ _ _ _ _=>none) (λx1 x2 x3 x4 x5 x6 x7 x8 x9=>(l472 x1 x2 x3 x4 x5 x6 x7 x8 x9)) x0))
theorem l473_eq : ∀ x0 x1 x2 x3 x4 x5 x6 x7 x8, (Eq (l473 x0 x1 x2 x3 x4 x5 x6 x7 x8) (@methV._sparseCasesOn_2 CV (λ_=>t137) x0 (λx9=>(l472 x9 x1 x2 x3 x4 x5 x6 x7 x8)) (λ_=>none))) := by intro t; cases t <;> (intros; rfl)
def l474 : t146 := (λx0=>(@List.rec SD (λ_=>t145) (λx1 x2 x3 x4=>(some (x2, (x4, (x1, x3))))) (λ_ _ _ _ _ _ _=>none) x0))
theorem l474_eq : ∀ x0 x1 x2 x3 x4, (Eq (l474 x0 x1 x2 x3 x4) (@methV._sparseCasesOn_1 SD (λ_=>t137) x0 (some (x2, (x4, (x1, x3)))) (λ_=>none))) := by intro t; cases t <;> (intros; rfl)
def l475 : t150 := (λx0=>(@Prod.rec Ex t147 (λ_=>t149) (λx1 x2 x3=>(@Prod.rec Fr S (λ_=>t137) (λx4 x5=>(@Fr.rec (λ_=>t137) (λ_ x7 x8 _=>(l474 x8 x3 x1 x5 x7)) x4)) x2)) x0))
theorem l475_eq : ∀ x0 x1, (Eq (l475 x0 x1) (@Prod.rec Ex t147 (λ_=>t137) (λx2 x3=>(@Prod.rec Fr S (λ_=>t137) (λx4 x5=>(@Fr.rec (λ_=>t137) (λ_ x7 x8 _=>(l474 x8 x1 x2 x5 x7)) x4)) x3)) x0)) := by intro t; cases t <;> (intros; rfl)
def l476 : t152 := (λx0=>(@Option.rec t148 (λ_=>t149) (λ_=>none) (λx1 x2=>(l475 x1 x2)) x0))
theorem l476_eq : ∀ x0 x1, (Eq (l476 x0 x1) (@methV._sparseCasesOn_2 t148 (λ_=>t137) x0 (λx2=>(l475 x2 x1)) (λ_=>none))) := by intro t; cases t <;> (intros; rfl)
def l477 : t146 := (λx0=>(@List.rec SD (λ_=>t145) (λx1 x2 x3 x4=>(some (x2, (x4, (x1, x3))))) (λ_ _ _ _ _ _ _=>none) x0))
theorem l477_eq : ∀ x0 x1 x2 x3 x4, (Eq (l477 x0 x1 x2 x3 x4) (@methV._sparseCasesOn_1 SD (λ_=>t137) x0 (some (x2, (x4, (x1, x3)))) (λ_=>none))) := by intro t; cases t <;> (intros; rfl)
def l478 : t150 := (λx0=>(@Prod.rec Ex t147 (λ_=>t149) (λx1 x2 x3=>(@Prod.rec Fr S (λ_=>t137) (λx4 x5=>(@Fr.rec (λ_=>t137) (λ_ x7 x8 _=>(l477 x8 x3 x1 x5 x7)) x4)) x2)) x0))
theorem l478_eq : ∀ x0 x1, (Eq (l478 x0 x1) (@Prod.rec Ex t147 (λ_=>t137) (λx2 x3=>(@Prod.rec Fr S (λ_=>t137) (λx4 x5=>(@Fr.rec (λ_=>t137) (λ_ x7 x8 _=>(l477 x8 x1 x2 x5 x7)) x4)) x3)) x0)) := by intro t; cases t <;> (intros; rfl)
def l479 : t152 := (λx0=>(@Option.rec t148 (λ_=>t149) (λ_=>none) (λx1 x2=>(l478 x1 x2)) x0))
theorem l479_eq : ∀ x0 x1, (Eq (l479 x0 x1) (@methV._sparseCasesOn_2 t148 (λ_=>t137) x0 (λx2=>(l478 x2 x1)) (λ_=>none))) := by intro t; cases t <;> (intros; rfl)
def l480 : t146 := (λx0=>(@List.rec SD (λ_=>t145) (λx1 x2 x3 x4=>(some (x2, (x4, (x1, x3))))) (λ_ _ _ _ _ _ _=>none) x0))
theorem l480_eq : ∀ x0 x1 x2 x3 x4, (Eq (l480 x0 x1 x2 x3 x4) (@methV._sparseCasesOn_1 SD (λ_=>t137) x0 (some (x2, (x4, (x1, x3)))) (λ_=>none))) := by intro t; cases t <;> (intros; rfl)
def l481 : t150 := (λx0=>(@Prod.rec Ex t147 (λ_=>t149) (λx1 x2 x3=>(@Prod.rec Fr S (λ_=>t137) (λx4 x5=>(@Fr.rec (λ_=>t137) (λ_ x7 x8 _=>(l480 x8 x3 x1 x5 x7)) x4)) x2)) x0))
theorem l481_eq : ∀ x0 x1, (Eq (l481 x0 x1) (@Prod.rec Ex t147 (λ_=>t137) (λx2 x3=>(@Prod.rec Fr S (λ_=>t137) (λx4 x5=>(@Fr.rec (λ_=>t137) (λ_ x7 x8 _=>(l480 x8 x1 x2 x5 x7)) x4)) x3)) x0)) := by intro t; cases t <;> (intros; rfl)
def l482 : t152 := (λx0=>(@Option.rec t148 (λ_=>t149) (λ_=>none) (λx1 x2=>(l481 x1 x2)) x0))
theorem l482_eq : ∀ x0 x1, (Eq (l482 x0 x1) (@methV._sparseCasesOn_2 t148 (λ_=>t137) x0 (λx2=>(l481 x2 x1)) (λ_=>none))) := by intro t; cases t <;> (intros; rfl)
def l483 : t146 := (λx0=>(@List.rec SD (λ_=>t145) (λx1 x2 x3 x4=>(some (x2, (x4, (x1, x3))))) (λ_ _ _ _ _ _ _=>none) x0))
theorem l483_eq : ∀ x0 x1 x2 x3 x4, (Eq (l483 x0 x1 x2 x3 x4) (@methV._sparseCasesOn_1 SD (λ_=>t137) x0 (some (x2, (x4, (x1, x3)))) (λ_=>none))) := by intro t; cases t <;> (intros; rfl)
def l484 : t150 := (λx0=>(@Prod.rec Ex t147 (λ_=>t149) (λx1 x2 x3=>(@Prod.rec Fr S (λ_=>t137) (λx4 x5=>(@Fr.rec (λ_=>t137) (λ_ x7 x8 _=>(l483 x8 x3 x1 x5 x7)) x4)) x2)) x0))
theorem l484_eq : ∀ x0 x1, (Eq (l484 x0 x1) (@Prod.rec Ex t147 (λ_=>t137) (λx2 x3=>(@Prod.rec Fr S (λ_=>t137) (λx4 x5=>(@Fr.rec (λ_=>t137) (λ_ x7 x8 _=>(l483 x8 x1 x2 x5 x7)) x4)) x3)) x0)) := by intro t; cases t <;> (intros; rfl)
def l485 : t152 := (λx0=>(@Option.rec t148 (λ_=>t149) (λ_=>none) (λx1 x2=>(l484 x1 x2)) x0))
theorem l485_eq : ∀ x0 x1, (Eq (l485 x0 x1) (@methV._sparseCasesOn_2 t148 (λ_=>t137) x0 (λx2=>(l484 x2 x1)) (λ_=>none))) := by intro t; cases t <;> (intros; rfl)
def l486 : t146 := (λx0=>(@List.rec SD (λ_=>t145) (λx1 x2 x3 x4=>(some (x2, (x4, (x1, x3))))) (λ_ _ _ _ _ _ _=>none) x0))
theorem l486_eq : ∀ x0 x1 x2 x3 x4, (Eq (l486 x0 x1 x2 x3 x4) (@methV._sparseCasesOn_1 SD (λ_=>t137) x0 (some (x2, (x4, (x1, x3)))) (λ_=>none))) := by intro t; cases t <;> (intros; rfl)
def l487 : t150 := (λx0=>(@Prod.rec Ex t147 (λ_=>t149) (λx1 x2 x3=>(@Prod.rec Fr S (λ_=>t137) (λx4 x5=>(@Fr.rec (λ_=>t137) (λ_ x7 x8 _=>(l486 x8 x3 x1 x5 x7)) x4)) x2)) x0))
theorem l487_eq : ∀ x0 x1, (Eq (l487 x0 x1) (@Prod.rec Ex t147 (λ_=>t137) (λx2 x3=>(@Prod.rec Fr S (λ_=>t137) (λx4 x5=>(@Fr.rec (λ_=>t137) (λ_ x7 x8 _=>(l486 x8 x1 x2 x5 x7)) x4)) x3)) x0)) := by intro t; cases t <;> (intros; rfl)
def l488 : t152 := (λx0=>(@Option.rec t148 (λ_=>t149) (λ_=>none) (λx1 x2=>(l487 x1 x2)) x0))
theorem l488_eq : ∀ x0 x1, (Eq (l488 x0 x1) (@methV._sparseCasesOn_2 t148 (λ_=>t137) x0 (λx2=>(l487 x2 x1)) (λ_=>none))) := by intro t; cases t <;> (intros; rfl)
def l489 : t146 := (λx0=>(@List.rec SD (λ_=>t145) (λx1 x2 x3 x4=>(some (x2, (x4, (x1, x3))))) (λ_ _ _ _ _ _ _=>none) x0))
theorem l489_eq : ∀ x0 x1 x2 x3 x4, (Eq (l489 x0 x1 x2 x3 x4) (@methV._sparseCasesOn_1 SD (λ_=>t137) x0 (some (x2, (x4, (x1, x3)))) (λ_=>none))) := by intro t; cases t <;> (intros; rfl)
def l490 : t150 := (λx0=>(@Prod.rec Ex t147 (λ_=>t149) (λx1 x2 x3=>(@Prod.rec Fr S (λ_=>t137) (λx4 x5=>(@Fr.rec (λ_=>t137) (λ_ x7 x8 _=>(l489 x8 x3 x1 x5 x7)) x4)) x2)) x0))
theorem l490_eq : ∀ x0 x1, (Eq (l490 x0 x1) (@Prod.rec Ex t147 (λ_=>t137) (λx2 x3=>(@Prod.rec Fr S (λ_=>t137) (λx4 x5=>(@Fr.rec (λ_=>t137) (λ_ x7 x8 _=>(l489 x8 x1 x2 x5 x7)) x4)) x3)) x0)) := by intro t; cases t <;> (intros; rfl)
def l491 : t152 := (λx0=>(@Option.rec t148 (λ_=>t149) (λ_=>none) (λx1 x2=>(l490 x1 x2)) x0))
theorem l491_eq : ∀ x0 x1, (Eq (l491 x0 x1) (@methV._sparseCasesOn_2 t148 (λ_=>t137) x0 (λx2=>(l490 x2 x1)) (λ_=>none))) := by intro t; cases t <;> (intros; rfl)
def l492 : t146 := (λx0=>(@List.rec SD (λ_=>t145) (λx1 x2 x3 x4=>(some (x2, (x4, (x1, x3))))) (λ_ _ _ _ _ _ _=>none) x0))
theorem l492_eq : ∀ x0 x1 x2 x3 x4, (Eq (l492 x0 x1 x2 x3 x4) (@methV._sparseCasesOn_1 SD (λ_=>t137) x0 (some (x2, (x4, (x1, x3)))) (λ_=>none))) := by intro t; cases t <;> (intros; rfl)
def l493 : t150 := (λx0=>(@Prod.rec Ex t147 (λ_=>t149) (λx1 x2 x3=>(@Prod.rec Fr S (λ_=>t137) (λx4 x5=>(@Fr.rec (λ_=>t137) (λ_ x7 x8 _=>(l492 x8 x3 x1 x5 x7)) x4)) x2)) x0))
theorem l493_eq : ∀ x0 x1, (Eq (l493 x0 x1) (@Prod.rec Ex t147 (λ_=>t137) (λx2 x3=>(@Prod.rec Fr S (λ_=>t137) (λx4 x5=>(@Fr.rec (λ_=>t137) (λ_ x7 x8 _=>(l492 x8 x1 x2 x5 x7)) x4)) x3)) x0)) := by intro t; cases t <;> (intros; rfl)
def l494 : t152 := (λx0=>(@Option.rec t148 (λ_=>t149) (λ_=>none) (λx1 x2=>(l493 x1 x2)) x0))
theorem l494_eq : ∀ x0 x1, (Eq (l494 x0 x1) (@methV._sparseCasesOn_2 t148 (λ_=>t137) x0 (λx2=>(l493 x2 x1)) (λ_=>none))) := by intro t; cases t <;> (intros; rfl)
def l495 : t146 := (λx0=>(@List.rec SD (λ_=>t145) (λx1 x2 x3 x4=>(some (x2, (x4, (x1, x3))))) (λ_ _ _ _ _ _ _=>none) x0))
theorem l495_eq : ∀ x0 x1 x2 x3 x4, (Eq (l495 x0 x1 x2 x3 x4) (@methV._sparseCasesOn_1 SD (λ_=>t137) x0 (some (x2, (x4, (x1, x3)))) (λ_=>none))) := by intro t; cases t <;> (intros; rfl)
def l496 : t150 := (λx0=>(@Prod.rec Ex t147 (λ_=>t149) (λx1 x2 x3=>(@Prod.rec Fr S (λ_=>t137) (λx4 x5=>(@Fr.rec (λ_=>t137) (λ_ x7 x8 _=>(l495 x8 x3 x1 x5 x7)) x4)) x2)) x0))
theorem l496_eq : ∀ x0 x1, (Eq (l496 x0 x1) (@Prod.rec Ex t147 (λ_=>t137) (λx2 x3=>(@Prod.rec Fr S (λ_=>t137) (λx4 x5=>(@Fr.rec (λ_=>t137) (λ_ x7 x8 _=>(l495 x8 x1 x2 x5 x7)) x4)) x3)) x0)) := by intro t; cases t <;> (intros; rfl)
def l497 : t152 := (λx0=>(@Option.rec t148 (λ_=>t149) (λ_=>none) (λx1 x2=>(l496 x1 x2)) x0))
theorem l497_eq : ∀ x0 x1, (Eq (l497 x0 x1) (@methV._sparseCasesOn_2 t148 (λ_=>t137) x0 (λx2=>(l496 x2 x1)) (λ_=>none))) := by intro t; cases t <;> (intros; rfl)
def l498 : t146 := (λx0=>(@List.rec SD (λ_=>t145) (λx1 x2 x3 x4=>(some (x2, (x4, (x1, x3))))) (λ_ _ _ _ _ _ _=>none) x0))
theorem l498_eq : ∀ x0 x1 x2 x3 x4, (Eq (l498 x0 x1 x2 x3 x4) (@methV._sparseCasesOn_1 SD (λ_=>t137) x0 (some (x2, (x4, (x1, x3)))) (λ_=>none))) := by intro t; cases t <;> (intros; rfl)
def l499 : t150 := (λx0=>(@Prod.rec Ex t147 (λ_=>t149) (λx1 x2 x3=>(@Prod.rec Fr S (λ_=>t137) (λx4 x5=>(@Fr.rec (λ_=>t137) (λ_ x7 x8 _=>(l498 x8 x3 x1 x5 x7)) x4)) x2)) x0))
theorem l499_eq : ∀ x0 x1, (Eq (l499 x0 x1) (@Prod.rec Ex t147 (λ_=>t137) (λx2 x3=>(@Prod.rec Fr S (λ_=>t137) (λx4 x5=>(@Fr.rec (λ_=>t137) (λ_ x7 x8 _=>(l498 x8 x1 x2 x5 x7)) x4)) x3)) x0)) := by intro t; cases t <;> (intros; rfl)
def l500 : t152 := (λx0=>(@Option.rec t148 (λ_=>t149) (λ_=>none) (λx1 x2=>(l499 x1 x2)) x0))
theorem l500_eq : ∀ x0 x1, (Eq (l500 x0 x1) (@methV._sparseCasesOn_2 t148 (λ_=>t137) x0 (λx2=>(l499 x2 x1)) (λ_=>none))) := by intro t; cases t <;> (intros; rfl)
abbrev t1239:=Code → t1216
abbrev t1240:=Nat → t1239
abbrev t1241:=Run → t1240
abbrev t1242:=Program → t1241
def k_codeD : t1242 := (λx0 x1 x2 x3 x4 x5 x6=>(@Code.rec (λ_=>t1219) (λ_ x8 x9 x10 x11 x12=>(l35 (Run.code x8 Code.skip (Fr.mk x9 x10 [] none) x12) x11)) (λx7 x8 x9 x10 x11 x12 x13 x14 x15=>(l465 x9 x10 x11 x12 x13 x14 x15 x7 x8 x9)) (λ_ _ x9 x10 x11 x12 x13 x14 x15 x16=>(l470 (x9 x11 x12 x13 x14 x15 x16) x11 x12 x13 x14 x15 x16 x9 x10)) (λx7 _ _ x10 x11 x12 x13 x14 x15 x16 x17=>(l473 (k_ev x15 x7) x12 x13 x14 x15 x16 x17 x10 x11)) (λx7 x8 _ _ x11 x12 x13 x14 x15=>(l476 (Run.code x11 (Code.block x7 x8) (Fr.mk x12 x13 [] none) x15) x14)) (λx7 _ _ x10 x11 x12 x13 x14=>(l479 (Run.code x10 (Code.loop x7) (Fr.mk x11 x12 [] none) x14) x13)) (λx7 x8 x9 x10 _ _ _ x14 x15 x16 x17 x18=>(l482 (Run.code x14 (Code.rangeFunc x7 x8 x9 x10) (Fr.mk x15 x16 [] none) x18) x17)) (λx7 _ x9 x10 x11 x12 x13=>(l485 (Run.code x9 (Code.exit x7) (Fr.mk x10 x11 [] none) x13) x12)) (λx7 _ _ x10 x11 x12 x13 x14=>(l488 (Run.code x10 (Code.scope x7) (Fr.mk x11 x12 [] none) x14) x13)) (λx7 _ x9 x10 x11 x12 x13=>(l491 (Run.code x9 (Code.label x7) (Fr.mk x10 x11 [] none) x13) x12)) (λx7 _ x9 x10 x11 x12 x13=>(l494 (Run.code x9 (Code.goto x7) (Fr.mk x10 x11 [] none) x13) x12)) (λ_ x8 x9 x10 x11 x12=>(l497 (Run.code x8 Code.ret (Fr.mk x9 x10 [] none) x12) x11)) (λx7 _ x9 x10 x11 x12 x13=>(l500 (Run.code x9 (Code.refuse x7) (Fr.mk x10 x11 [] none) x13) x12)) x3 x0 x1 x2 x4 x5 x6))
theorem k_codeD_law : ∀ x0 x1 x2 x3 x4 x5 x6, (Eq (k_codeD x1 x2 x3 x0 x4 x5 x6) (codeD x1 x2 x3 x0 x4 x5 x6)) := by
  intro t
  induction t with
  | skip  =>
    intro z0 z1 z2 z3 z4 z5
    show ((fun (_ : Program) (x1 : Run) (x2 : Nat) (x3 : t14) (x4 : Dm) (x5 : S) => (l35 (Run.code x1 Code.skip (Fr.mk x2 x3 [] none) x5) x4)) z0 z1 z2 z3 z4 z5) = _
    conv => rhs; rw [Ev.codeD.eq_def]
    try simp only [l33_eq, l34_eq, l35_eq]
    all_goals kernel_rfl
  | region y0 y1 y2 =>
    intro z0 z1 z2 z3 z4 z5
    show ((fun (x0 : Nat) (x1 : (Array Oper)) (x2 : Bool) (x3 : Program) (x4 : Run) (x5 : Nat) (x6 : t14) (x7 : Dm) (x8 : S) => (l465 x2 x3 x4 x5 x6 x7 x8 x0 x1 x2)) y0 y1 y2 z0 z1 z2 z3 z4 z5) = _
    conv => rhs; rw [Ev.codeD.eq_def]
    try simp only [l41_eq, l39_eq, l465_eq, l38_eq, l40_eq, l36_eq, l43_eq, l37_eq, l42_eq]
    try rw [k_regR_eq]
    try rw [k_hasRec_eq]
    all_goals kernel_rfl
  | seq y0 y1 ih0 ih1 =>
    intro z0 z1 z2 z3 z4 z5
    have e0 : (fun (x0 : Program) (x1 : Run) (x2 : Nat) (x3 : t14) (x4 : Dm) (x5 : S) => (k_codeD x0 x1 x2 y0 x3 x4 x5)) = (fun (x0 : Program) (x1 : Run) (x2 : Nat) (x3 : t14) (x4 : Dm) (x5 : S) => (codeD x0 x1 x2 y0 x3 x4 x5)) := by
      funext z0 z1 z2 z3 z4 z5; exact ih0 z0 z1 z2 z3 z4 z5
    have e1 : (fun (x0 : Program) (x1 : Run) (x2 : Nat) (x3 : t14) (x4 : Dm) (x5 : S) => (k_codeD x0 x1 x2 y1 x3 x4 x5)) = (fun (x0 : Program) (x1 : Run) (x2 : Nat) (x3 : t14) (x4 : Dm) (x5 : S) => (codeD x0 x1 x2 y1 x3 x4 x5)) := by
      funext z0 z1 z2 z3 z4 z5; exact ih1 z0 z1 z2 z3 z4 z5
    show ((fun (_ : Code) (_ : Code) (x2 : t1219) (x3 : t1219) (x4 : Program) (x5 : Run) (x6 : Nat) (x7 : t14) (x8 : Dm) (x9 : S) => (l470 (x2 x4 x5 x6 x7 x8 x9) x4 x5 x6 x7 x8 x9 x2 x3)) y0 y1 (fun (x0 : Program) (x1 : Run) (x2 : Nat) (x3 : t14) (x4 : Dm) (x5 : S) => (k_codeD x0 x1 x2 y0 x3 x4 x5)) (fun (x0 : Program) (x1 : Run) (x2 : Nat) (x3 : t14) (x4 : Dm) (x5 : S) => (k_codeD x0 x1 x2 y1 x3 x4 x5)) z0 z1 z2 z3 z4 z5) = _
    rw [e0, e1]
    conv => rhs; rw [Ev.codeD.eq_def]
    try simp only [l469_eq, l470_eq]
    all_goals kernel_rfl
  | cond y0 y1 y2 ih0 ih1 =>
    intro z0 z1 z2 z3 z4 z5
    have e0 : (fun (x0 : Program) (x1 : Run) (x2 : Nat) (x3 : t14) (x4 : Dm) (x5 : S) => (k_codeD x0 x1 x2 y1 x3 x4 x5)) = (fun (x0 : Program) (x1 : Run) (x2 : Nat) (x3 : t14) (x4 : Dm) (x5 : S) => (codeD x0 x1 x2 y1 x3 x4 x5)) := by
      funext z0 z1 z2 z3 z4 z5; exact ih0 z0 z1 z2 z3 z4 z5
    have e1 : (fun (x0 : Program) (x1 : Run) (x2 : Nat) (x3 : t14) (x4 : Dm) (x5 : S) => (k_codeD x0 x1 x2 y2 x3 x4 x5)) = (fun (x0 : Program) (x1 : Run) (x2 : Nat) (x3 : t14) (x4 : Dm) (x5 : S) => (codeD x0 x1 x2 y2 x3 x4 x5)) := by
      funext z0 z1 z2 z3 z4 z5; exact ih1 z0 z1 z2 z3 z4 z5
    show ((fun (x0 : Operand) (_ : Code) (_ : Code) (x3 : t1219) (x4 : t1219) (x5 : Program) (x6 : Run) (x7 : Nat) (x8 : t14) (x9 : Dm) (x10 : S) => (l473 (k_ev x8 x0) x5 x6 x7 x8 x9 x10 x3 x4)) y0 y1 y2 (fun (x0 : Program) (x1 : Run) (x2 : Nat) (x3 : t14) (x4 : Dm) (x5 : S) => (k_codeD x0 x1 x2 y1 x3 x4 x5)) (fun (x0 : Program) (x1 : Run) (x2 : Nat) (x3 : t14) (x4 : Dm) (x5 : S) => (k_codeD x0 x1 x2 y2 x3 x4 x5)) z0 z1 z2 z3 z4 z5) = _
    rw [e0, e1]
    conv => rhs; rw [Ev.codeD.eq_def]
    try simp only [l471_eq, l473_eq, l472_eq]
    try rw [k_ev_eq]
    all_goals kernel_rfl
  | block y0 y1 ih0 =>
    intro z0 z1 z2 z3 z4 z5
    have e0 : (fun (x0 : Program) (x1 : Run) (x2 : Nat) (x3 : t14) (x4 : Dm) (x5 : S) => (k_codeD x0 x1 x2 y1 x3 x4 x5)) = (fun (x0 : Program) (x1 : Run) (x2 : Nat) (x3 : t14) (x4 : Dm) (x5 : S) => (codeD x0 x1 x2 y1 x3 x4 x5)) := by
      funext z0 z1 z2 z3 z4 z5; exact ih0 z0 z1 z2 z3 z4 z5
    show ((fun (x0 : Nat) (x1 : Code) (_ : t1219) (_ : Program) (x4 : Run) (x5 : Nat) (x6 : t14) (x7 : Dm) (x8 : S) => (l476 (Run.code x4 (Code.block x0 x1) (Fr.mk x5 x6 [] none) x8) x7)) y0 y1 (fun (x0 : Program) (x1 : Run) (x2 : Nat) (x3 : t14) (x4 : Dm) (x5 : S) => (k_codeD x0 x1 x2 y1 x3 x4 x5)) z0 z1 z2 z3 z4 z5) = _
    rw [e0]
    conv => rhs; rw [Ev.codeD.eq_def]
    try simp only [l475_eq, l474_eq, l476_eq]
    all_goals kernel_rfl
  | loop y0 ih0 =>
    intro z0 z1 z2 z3 z4 z5
    have e0 : (fun (x0 : Program) (x1 : Run) (x2 : Nat) (x3 : t14) (x4 : Dm) (x5 : S) => (k_codeD x0 x1 x2 y0 x3 x4 x5)) = (fun (x0 : Program) (x1 : Run) (x2 : Nat) (x3 : t14) (x4 : Dm) (x5 : S) => (codeD x0 x1 x2 y0 x3 x4 x5)) := by
      funext z0 z1 z2 z3 z4 z5; exact ih0 z0 z1 z2 z3 z4 z5
    show ((fun (x0 : Code) (_ : t1219) (_ : Program) (x3 : Run) (x4 : Nat) (x5 : t14) (x6 : Dm) (x7 : S) => (l479 (Run.code x3 (Code.loop x0) (Fr.mk x4 x5 [] none) x7) x6)) y0 (fun (x0 : Program) (x1 : Run) (x2 : Nat) (x3 : t14) (x4 : Dm) (x5 : S) => (k_codeD x0 x1 x2 y0 x3 x4 x5)) z0 z1 z2 z3 z4 z5) = _
    rw [e0]
    conv => rhs; rw [Ev.codeD.eq_def]
    try simp only [l479_eq, l477_eq, l478_eq]
    all_goals kernel_rfl
  | rangeFunc y0 y1 y2 y3 ih0 ih1 =>
    intro z0 z1 z2 z3 z4 z5
    have e0 : (fun (x0 : Program) (x1 : Run) (x2 : Nat) (x3 : t14) (x4 : Dm) (x5 : S) => (k_codeD x0 x1 x2 y2 x3 x4 x5)) = (fun (x0 : Program) (x1 : Run) (x2 : Nat) (x3 : t14) (x4 : Dm) (x5 : S) => (codeD x0 x1 x2 y2 x3 x4 x5)) := by
      funext z0 z1 z2 z3 z4 z5; exact ih0 z0 z1 z2 z3 z4 z5
    have e1 : (fun (x0 : Program) (x1 : Run) (x2 : Nat) (x3 : t14) (x4 : Dm) (x5 : S) => (k_codeD x0 x1 x2 y3 x3 x4 x5)) = (fun (x0 : Program) (x1 : Run) (x2 : Nat) (x3 : t14) (x4 : Dm) (x5 : S) => (codeD x0 x1 x2 y3 x3 x4 x5)) := by
      funext z0 z1 z2 z3 z4 z5; exact ih1 z0 z1 z2 z3 z4 z5
    show ((fun (x0 : Operand) (x1 : (Array Tmp)) (x2 : Code) (x3 : Code) (_ : t1219) (_ : t1219) (_ : Program) (x7 : Run) (x8 : Nat) (x9 : t14) (x10 : Dm) (x11 : S) => (l482 (Run.code x7 (Code.rangeFunc x0 x1 x2 x3) (Fr.mk x8 x9 [] none) x11) x10)) y0 y1 y2 y3 (fun (x0 : Program) (x1 : Run) (x2 : Nat) (x3 : t14) (x4 : Dm) (x5 : S) => (k_codeD x0 x1 x2 y2 x3 x4 x5)) (fun (x0 : Program) (x1 : Run) (x2 : Nat) (x3 : t14) (x4 : Dm) (x5 : S) => (k_codeD x0 x1 x2 y3 x3 x4 x5)) z0 z1 z2 z3 z4 z5) = _
    rw [e0, e1]
    conv => rhs; rw [Ev.codeD.eq_def]
    try simp only [l482_eq, l480_eq, l481_eq]
    all_goals kernel_rfl
  | exit y0 =>
    intro z0 z1 z2 z3 z4 z5
    show ((fun (x0 : Nat) (_ : Program) (x2 : Run) (x3 : Nat) (x4 : t14) (x5 : Dm) (x6 : S) => (l485 (Run.code x2 (Code.exit x0) (Fr.mk x3 x4 [] none) x6) x5)) y0 z0 z1 z2 z3 z4 z5) = _
    conv => rhs; rw [Ev.codeD.eq_def]
    try simp only [l483_eq, l484_eq, l485_eq]
    all_goals kernel_rfl
  | scope y0 ih0 =>
    intro z0 z1 z2 z3 z4 z5
    have e0 : (fun (x0 : Program) (x1 : Run) (x2 : Nat) (x3 : t14) (x4 : Dm) (x5 : S) => (k_codeD x0 x1 x2 y0 x3 x4 x5)) = (fun (x0 : Program) (x1 : Run) (x2 : Nat) (x3 : t14) (x4 : Dm) (x5 : S) => (codeD x0 x1 x2 y0 x3 x4 x5)) := by
      funext z0 z1 z2 z3 z4 z5; exact ih0 z0 z1 z2 z3 z4 z5
    show ((fun (x0 : Code) (_ : t1219) (_ : Program) (x3 : Run) (x4 : Nat) (x5 : t14) (x6 : Dm) (x7 : S) => (l488 (Run.code x3 (Code.scope x0) (Fr.mk x4 x5 [] none) x7) x6)) y0 (fun (x0 : Program) (x1 : Run) (x2 : Nat) (x3 : t14) (x4 : Dm) (x5 : S) => (k_codeD x0 x1 x2 y0 x3 x4 x5)) z0 z1 z2 z3 z4 z5) = _
    rw [e0]
    conv => rhs; rw [Ev.codeD.eq_def]
    try simp only [l486_eq, l488_eq, l487_eq]
    all_goals kernel_rfl
  | label y0 =>
    intro z0 z1 z2 z3 z4 z5
    show ((fun (x0 : Nat) (_ : Program) (x2 : Run) (x3 : Nat) (x4 : t14) (x5 : Dm) (x6 : S) => (l491 (Run.code x2 (Code.label x0) (Fr.mk x3 x4 [] none) x6) x5)) y0 z0 z1 z2 z3 z4 z5) = _
    conv => rhs; rw [Ev.codeD.eq_def]
    try simp only [l490_eq, l489_eq, l491_eq]
    all_goals kernel_rfl
  | goto y0 =>
    intro z0 z1 z2 z3 z4 z5
    show ((fun (x0 : Nat) (_ : Program) (x2 : Run) (x3 : Nat) (x4 : t14) (x5 : Dm) (x6 : S) => (l494 (Run.code x2 (Code.goto x0) (Fr.mk x3 x4 [] none) x6) x5)) y0 z0 z1 z2 z3 z4 z5) = _
    conv => rhs; rw [Ev.codeD.eq_def]
    try simp only [l494_eq, l492_eq, l493_eq]
    all_goals kernel_rfl
  | ret  =>
    intro z0 z1 z2 z3 z4 z5
    show ((fun (_ : Program) (x1 : Run) (x2 : Nat) (x3 : t14) (x4 : Dm) (x5 : S) => (l497 (Run.code x1 Code.ret (Fr.mk x2 x3 [] none) x5) x4)) z0 z1 z2 z3 z4 z5) = _
    conv => rhs; rw [Ev.codeD.eq_def]
    try simp only [l497_eq, l496_eq, l495_eq]
    all_goals kernel_rfl
  | refuse y0 =>
    intro z0 z1 z2 z3 z4 z5
    show ((fun (x0 : String) (_ : Program) (x2 : Run) (x3 : Nat) (x4 : t14) (x5 : Dm) (x6 : S) => (l500 (Run.code x2 (Code.refuse x0) (Fr.mk x3 x4 [] none) x6) x5)) y0 z0 z1 z2 z3 z4 z5) = _
    conv => rhs; rw [Ev.codeD.eq_def]
    try simp only [l499_eq, l498_eq, l500_eq]
    all_goals kernel_rfl
theorem k_codeD_eq : @k_codeD = codeD := by
  funext a0 a1 a2 a3 a4 a5 a6; exact k_codeD_law a3 a0 a1 a2 a4 a5 a6
abbrev t1243:=Code → t122
abbrev t1244:=Func → t1243
abbrev t1245:=S → t1244
abbrev t1246:=t81 → t1245
abbrev t1247:=t7 → t1246
abbrev t1248:=FuncId → t1247
abbrev t1249:=Run → t1248
abbrev t1250:=Program → t1249
abbrev t1251:=t165 → t1250
def l32 : t1251 := (λx0=>(@Option.rec t14 (λ_=>t1250) (λ_ _ _ _ _ _ _ _=>none) (λx1 x2 x3 x4 x5 x6 x7 x8 x9=>(@Bool.rec (λ_=>t122) none (l31 (k_codeD x2 x3 (Func.ntmps x8) x9 x1 (Dm.mk x6 Bool.false) x7) x2 x8) (@Bool.rec (λ_=>Bool) Bool.false (Nat.ble (k_len x5) (Func.ntmps x8)) (fnOk x2 x4)))) x0))
theorem l32_eq : ∀ x0 x1 x2 x3 x4 x5 x6 x7 x8, (Eq (l32 x0 x1 x2 x3 x4 x5 x6 x7 x8) (@methV._sparseCasesOn_2 t14 (λ_=>t122) x0 (λx9=>(@Bool.rec (λ_=>t122) none (l31 (k_codeD x1 x2 (Func.ntmps x7) x8 x9 (Dm.mk x5 Bool.false) x6) x1 x7) (@Bool.rec (λ_=>Bool) Bool.false (Nat.ble (k_len x4) (Func.ntmps x7)) (fnOk x1 x3)))) (λ_=>none))) := by intro t; cases t <;> (intros; rfl)
abbrev t1252:=Nat → t166
abbrev t1253:=t7 → t166
abbrev t1254:=Nat → t1253
def k_setArgs : t1254 := (λx0 x1 x2=>(@List.rec CV (λ_=>t1252) (λ_ x4=>(some x4)) (λx3 _ x5 x6 x7=>(@Option.rec t14 (λ_=>t165) none (λx8=>(x5 (Nat.add x6 (nat_lit 1)) x8)) (setCV (nat_lit 24) x7 x6 (some x3)))) x1 x0 x2))
theorem k_setArgs_law : ∀ x0 x1 x2, (Eq (k_setArgs x1 x0 x2) (setArgs x1 x0 x2)) := by
  intro t
  induction t with
  | nil  =>
    intro z0 z1
    show ((fun (_ : Nat) (x1 : t14) => (some x1)) z0 z1) = _
    conv => rhs; rw [Ev.setArgs.eq_def]
    all_goals kernel_rfl
  | cons y0 y1 ih0 =>
    intro z0 z1
    have e0 : (fun (x0 : Nat) (x1 : t14) => (k_setArgs x0 y1 x1)) = (fun (x0 : Nat) (x1 : t14) => (setArgs x0 y1 x1)) := by
      funext z0 z1; exact ih0 z0 z1
    show ((fun (x0 : CV) (_ : t7) (x2 : t1252) (x3 : Nat) (x4 : t14) => (@Option.rec t14 (fun (_ : t165) => t165) none (fun (x5 : t14) => (x2 (Nat.add x3 (nat_lit 1)) x5)) (setCV (nat_lit 24) x4 x3 (some x0)))) y0 y1 (fun (x0 : Nat) (x1 : t14) => (k_setArgs x0 y1 x1)) z0 z1) = _
    rw [e0]
    conv => rhs; rw [Ev.setArgs.eq_def]
    try rw [setCV_eq]
    all_goals kernel_rfl
theorem k_setArgs_eq : @k_setArgs = setArgs := by
  funext a0 a1 a2; exact k_setArgs_law a1 a0 a2
abbrev t1255:=Option Code
abbrev t1256:=S → t138
abbrev t1257:=t81 → t1256
abbrev t1258:=t7 → t1257
abbrev t1259:=FuncId → t1258
abbrev t1260:=Run → t1259
abbrev t1261:=Program → t1260
abbrev t1262:=t1255 → t1261
def l501 : t1262 := (λx0=>(@Option.rec Code (λ_=>t1261) (λ_ _ _ _ _ _ _=>none) (λx1 x2 x3 x4 x5 x6 x7 x8=>(l32 (k_setArgs (nat_lit 0) x5 (@Tr.nil CV)) x2 x3 x4 x5 x6 x7 x8 x1)) x0))
theorem l501_eq : ∀ x0 x1 x2 x3 x4 x5 x6 x7, (Eq (l501 x0 x1 x2 x3 x4 x5 x6 x7) (@methV._sparseCasesOn_2 Code (λ_=>t122) x0 (λx8=>(l32 (k_setArgs (nat_lit 0) x4 (@Tr.nil CV)) x1 x2 x3 x4 x5 x6 x7 x8)) (λ_=>none))) := by intro t; cases t <;> (intros; rfl)
abbrev t1263:=S → t122
abbrev t1264:=t81 → t1263
abbrev t1265:=t7 → t1264
abbrev t1266:=FuncId → t1265
abbrev t1267:=Run → t1266
abbrev t1268:=Program → t1267
def k_callD : t1268 := (λx0 x1 x2 x3 x4 x5=>(@Option.rec Func (λ_=>t122) none (λx6=>((λx7=>(l501 (Func.body x7) x0 x1 x2 x3 x4 x5 x7)) x6)) (@GetElem?.getElem? (Array Func) FuncId Func (λx6 x7=>(@LT.lt Nat instLTNat x7 (@Array.size Func x6))) (@Array.instGetElem?NatLtSize Func) (Program.funcs x0) x2)))
theorem k_callD_eq : @k_callD = callD := by
  delta k_callD callD
  simp only [l26_eq, l27_eq, l28_eq, l501_eq, l30_eq, l31_eq, l29_eq, l32_eq, l25_eq, l24_eq]
  rw [k_resV_eq, k_tupV_eq, k_len_eq, k_codeD_eq, k_setArgs_eq]
  all_goals kernel_rfl

abbrev t1269:=t105 → t689
abbrev t1270:=S → t1269
abbrev t1271:=t81 → t1270
abbrev t1272:=t14 → t1271
abbrev t1273:=Func → t1272
abbrev t1274:=Run → t1273
abbrev t1275:=Program → t1274
abbrev t1276:=t31 → t1275
def l23 : t1276 := (λx0=>(@Option.rec t7 (λ_=>t1275) (λ_ _ _ _ _ _ _ _=>none) (λx1 x2 x3 x4 x5 x6 x7 x8 x9=>(@Option.rec t114 (λ_=>t4) none (λx10=>(l22 x10 x2 x3 x4 x5 x6 x8)) (k_callD x2 x3 x9 x1 x6 x7))) x0))
theorem l23_eq : ∀ x0 x1 x2 x3 x4 x5 x6 x7 x8, (Eq (l23 x0 x1 x2 x3 x4 x5 x6 x7 x8) (@Option.rec t7 (λ_=>t4) none (λx9=>(@Option.rec t114 (λ_=>t4) none (λx10=>(l22 x10 x1 x2 x3 x4 x5 x7)) (k_callD x1 x2 x8 x9 x5 x6))) x0)) := by intro t; cases t <;> (intros; rfl)
abbrev t1277:=S → t115
abbrev t1278:=t81 → t1277
abbrev t1279:=t14 → t1278
abbrev t1280:=Func → t1279
abbrev t1281:=Run → t1280
abbrev t1282:=Program → t1281
abbrev t1283:=SD → t1282
def l502 : t1283 := (λx0=>(@SD.rec (λ_=>t1282) (λx1 x2 x3 x4 x5 x6 x7 x8=>(k_rd_Ret x7 x1 (λx9 x10=>(l19 x9 x2 x3 x4 x5 x6 x8 x1 x10)))) (λx1 x2 x3 x4 x5 x6 x7 x8 x9 x10=>(l23 (k_cat_CV x2 x3) x4 x5 x6 x7 x8 x9 x10 x1)) x0))
theorem l502_eq : ∀ x0 x1 x2 x3 x4 x5 x6 x7, (Eq (l502 x0 x1 x2 x3 x4 x5 x6 x7) (@SD.rec (λ_=>t4) (λx8=>(k_rd_Ret x6 x8 (λx9 x10=>(l19 x9 x1 x2 x3 x4 x5 x7 x8 x10)))) (λx8 x9 x10=>(l23 (k_cat_CV x9 x10) x1 x2 x3 x4 x5 x6 x7 x8)) x0)) := by intro t; cases t <;> (intros; rfl)
abbrev t1284:=t141 → t101
abbrev t1285:=t14 → t1284
abbrev t1286:=Func → t1285
abbrev t1287:=Run → t1286
abbrev t1288:=Program → t1287
def k_leave : t1288 := (λx0 x1 x2 x3 x4 x5 x6=>(@List.rec SD (λ_=>t105) (λx7 _ x9 x10 x11 x12=>(@Option.rec CV (λ_=>t4) (k_resV x7 x10 (@Array.toList ResultVar (Func.results x9)) x12 (λx13 x14=>(some (Ret.ok (k_tupV x13) x14)))) (λx13=>(some (Ret.pan x13 x12))) x11)) (λx7 _ x9 x10 x11 x12 x13 x14 x15=>(l502 x7 x10 x11 x12 x13 x14 x15 x9)) x4 x0 x1 x2 x3 x5 x6))
theorem k_leave_law : ∀ x0 x1 x2 x3 x4 x5 x6, (Eq (k_leave x1 x2 x3 x4 x0 x5 x6) (leave x1 x2 x3 x4 x0 x5 x6)) := by
  intro t
  induction t with
  | nil  =>
    intro z0 z1 z2 z3 z4 z5
    show ((fun (x0 : Program) (_ : Run) (x2 : Func) (x3 : t14) (x4 : t81) (x5 : S) => (@Option.rec CV (fun (_ : t81) => t4) (k_resV x0 x3 (@Array.toList ResultVar (Func.results x2)) x5 (fun (x6 : t7) (x7 : S) => (some (Ret.ok (k_tupV x6) x7)))) (fun (x6 : CV) => (some (Ret.pan x6 x5))) x4)) z0 z1 z2 z3 z4 z5) = _
    conv => rhs; rw [Ev.leave.eq_def]
    try rw [k_resV_eq]
    try rw [k_tupV_eq]
    all_goals kernel_rfl
  | cons y0 y1 ih0 =>
    intro z0 z1 z2 z3 z4 z5
    have e0 : (fun (x0 : Program) (x1 : Run) (x2 : Func) (x3 : t14) (x4 : t81) (x5 : S) => (k_leave x0 x1 x2 x3 y1 x4 x5)) = (fun (x0 : Program) (x1 : Run) (x2 : Func) (x3 : t14) (x4 : t81) (x5 : S) => (leave x0 x1 x2 x3 y1 x4 x5)) := by
      funext z0 z1 z2 z3 z4 z5; exact ih0 z0 z1 z2 z3 z4 z5
    show ((fun (x0 : SD) (_ : t141) (x2 : t105) (x3 : Program) (x4 : Run) (x5 : Func) (x6 : t14) (x7 : t81) (x8 : S) => (l502 x0 x3 x4 x5 x6 x7 x8 x2)) y0 y1 (fun (x0 : Program) (x1 : Run) (x2 : Func) (x3 : t14) (x4 : t81) (x5 : S) => (k_leave x0 x1 x2 x3 y1 x4 x5)) z0 z1 z2 z3 z4 z5) = _
    rw [e0]
    conv => rhs; rw [Ev.leave.eq_def]
    try simp only [l502_eq, l23_eq, l19_eq, l22_eq]
    try rw [k_wr_Ret_eq]
    try rw [k_callD_eq]
    try rw [k_cat_CV_eq]
    try rw [k_rd_Ret_eq]
    all_goals kernel_rfl
theorem k_leave_eq : @k_leave = leave := by
  funext a0 a1 a2 a3 a4 a5 a6; exact k_leave_law a4 a0 a1 a2 a3 a5 a6
abbrev t1289:=Func → t8
abbrev t1290:=Run → t1289
abbrev t1291:=Program → t1290
abbrev t1292:=Fr → t1291
def l6 : t1292 := (λx0=>(@Fr.rec (λ_=>t1291) (λx1 x2 x3 x4 x5 x6 x7 x8=>((λ_ x10 x11 _ x13=>(k_leave x5 x6 x7 x10 x11 none x13)) x1 x2 x3 x4 x8)) x0))
theorem l6_eq : ∀ x0 x1 x2 x3 x4, (Eq (l6 x0 x1 x2 x3 x4) (@Fr.rec (λ_=>t4) (λx5 x6 x7 x8=>((λ_ x10 x11 _ x13=>(k_leave x1 x2 x3 x10 x11 none x13)) x5 x6 x7 x8 x4)) x0)) := by intro t; cases t <;> (intros; rfl)
def l503 : t1292 := (λx0=>(@Fr.rec (λ_=>t1291) (λx1 x2 x3 x4 x5 x6 x7 x8=>((λ_ x10 x11 _ x13=>(k_leave x5 x6 x7 x10 x11 none x13)) x1 x2 x3 x4 x8)) x0))
theorem l503_eq : ∀ x0 x1 x2 x3 x4, (Eq (l503 x0 x1 x2 x3 x4) (@Fr.rec (λ_=>t4) (λx5 x6 x7 x8=>((λ_ x10 x11 _ x13=>(k_leave x1 x2 x3 x10 x11 none x13)) x5 x6 x7 x8 x4)) x0)) := by intro t; cases t <;> (intros; rfl)
abbrev t1293:=Func → t186
abbrev t1294:=Run → t1293
abbrev t1295:=Program → t1294
abbrev t1296:=Fr → t1295
def l504 : t1296 := (λx0=>(@Fr.rec (λ_=>t1295) (λx1 x2 x3 x4 x5 x6 x7 x8 x9=>((λx10 _ x12 x13 _ x15=>(k_leave x5 x6 x7 x12 x13 (some x10) x15)) x8 x1 x2 x3 x4 x9)) x0))
theorem l504_eq : ∀ x0 x1 x2 x3 x4 x5, (Eq (l504 x0 x1 x2 x3 x4 x5) (@Fr.rec (λ_=>t4) (λx6 x7 x8 x9=>((λx10 _ x12 x13 _ x15=>(k_leave x1 x2 x3 x12 x13 (some x10) x15)) x4 x6 x7 x8 x9 x5)) x0)) := by intro t; cases t <;> (intros; rfl)
abbrev t1297:=t147 → t4
abbrev t1298:=Func → t1297
abbrev t1299:=Run → t1298
abbrev t1300:=Program → t1299
abbrev t1301:=Ex → t1300
def l505 : t1301 := (λx0=>(@Ex.rec (λ_=>t1300) (λx1 x2 x3 x4=>(@Prod.rec Fr S (λ_=>t4) (λx5 x6=>(l6 x5 x1 x2 x3 x6)) x4)) (λ_ _ _ _ _=>none) (λx1 x2 x3 x4=>(@Prod.rec Fr S (λ_=>t4) (λx5 x6=>(l503 x5 x1 x2 x3 x6)) x4)) (λx1 x2 x3 x4 x5=>(@Prod.rec Fr S (λ_=>t4) (λx6 x7=>(l504 x6 x2 x3 x4 x1 x7)) x5)) x0))
theorem l505_eq : ∀ x0 x1 x2 x3 x4, (Eq (l505 x0 x1 x2 x3 x4) (@callN._sparseCasesOn_1 (λ_=>t4) x0 (@Prod.rec Fr S (λ_=>t4) (λx5 x6=>(l6 x5 x1 x2 x3 x6)) x4) (@Prod.rec Fr S (λ_=>t4) (λx5 x6=>(l503 x5 x1 x2 x3 x6)) x4) (λx5=>(@Prod.rec Fr S (λ_=>t4) (λx6 x7=>(l504 x6 x1 x2 x3 x5 x7)) x4)) (λ_=>none))) := by intro t; cases t <;> (intros; rfl)
abbrev t1302:=Func → t4
abbrev t1303:=Run → t1302
abbrev t1304:=Program → t1303
abbrev t1305:=t151 → t1304
def l506 : t1305 := (λx0=>(@Option.rec t148 (λ_=>t1304) (λ_ _ _=>none) (λx1 x2 x3 x4=>(@Prod.rec Ex t147 (λ_=>t4) (λx5 x6=>(l505 x5 x2 x3 x4 x6)) x1)) x0))
theorem l506_eq : ∀ x0 x1 x2 x3, (Eq (l506 x0 x1 x2 x3) (@methV._sparseCasesOn_2 t148 (λ_=>t4) x0 (λx4=>(@Prod.rec Ex t147 (λ_=>t4) (λx5 x6=>(l505 x5 x1 x2 x3 x6)) x4)) (λ_=>none))) := by intro t; cases t <;> (intros; rfl)
abbrev t1306:=Code → t4
abbrev t1307:=Func → t1306
abbrev t1308:=S → t1307
abbrev t1309:=t7 → t1308
abbrev t1310:=FuncId → t1309
abbrev t1311:=Run → t1310
abbrev t1312:=Program → t1311
abbrev t1313:=t165 → t1312
def l507 : t1313 := (λx0=>(@Option.rec t14 (λ_=>t1312) (λ_ _ _ _ _ _ _=>none) (λx1 x2 x3 x4 x5 x6 x7 x8=>(@Bool.rec (λ_=>t4) none (l506 (Run.code x3 x8 (Fr.mk (Func.ntmps x7) x1 [] none) x6) x2 x3 x7) (@Bool.rec (λ_=>Bool) Bool.false (Nat.ble (k_len x5) (Func.ntmps x7)) (fnOk x2 x4)))) x0))
theorem l507_eq : ∀ x0 x1 x2 x3 x4 x5 x6 x7, (Eq (l507 x0 x1 x2 x3 x4 x5 x6 x7) (@methV._sparseCasesOn_2 t14 (λ_=>t4) x0 (λx8=>(@Bool.rec (λ_=>t4) none (l506 (Run.code x2 x7 (Fr.mk (Func.ntmps x6) x8 [] none) x5) x1 x2 x6) (@Bool.rec (λ_=>Bool) Bool.false (Nat.ble (k_len x4) (Func.ntmps x6)) (fnOk x1 x3)))) (λ_=>none))) := by intro t; cases t <;> (intros; rfl)
abbrev t1314:=S → t1302
abbrev t1315:=t7 → t1314
abbrev t1316:=FuncId → t1315
abbrev t1317:=Run → t1316
abbrev t1318:=Program → t1317
abbrev t1319:=t1255 → t1318
def l508 : t1319 := (λx0=>(@Option.rec Code (λ_=>t1318) (λ_ _ _ _ _ _=>none) (λx1 x2 x3 x4 x5 x6 x7=>(l507 (k_setArgs (nat_lit 0) x5 (@Tr.nil CV)) x2 x3 x4 x5 x6 x7 x1)) x0))
theorem l508_eq : ∀ x0 x1 x2 x3 x4 x5 x6, (Eq (l508 x0 x1 x2 x3 x4 x5 x6) (@methV._sparseCasesOn_2 Code (λ_=>t4) x0 (λx7=>(l507 (k_setArgs (nat_lit 0) x4 (@Tr.nil CV)) x1 x2 x3 x4 x5 x6 x7)) (λ_=>none))) := by intro t; cases t <;> (intros; rfl)
abbrev t1320:=FuncId → t9
abbrev t1321:=Run → t1320
abbrev t1322:=Program → t1321
def k_callN : t1322 := (λx0 x1 x2 x3 x4=>(@Option.rec Func (λ_=>t4) none (λx5=>((λx6=>(l508 (Func.body x6) x0 x1 x2 x3 x4 x6)) x5)) (@GetElem?.getElem? (Array Func) FuncId Func (λx5 x6=>(@LT.lt Nat instLTNat x6 (@Array.size Func x5))) (@Array.instGetElem?NatLtSize Func) (Program.funcs x0) x2)))
theorem k_callN_eq : @k_callN = callN := by
  delta k_callN callN
  simp only [l507_eq, l503_eq, l505_eq, l6_eq, l506_eq, l504_eq, l508_eq]
  rw [k_leave_eq, k_len_eq, k_setArgs_eq]
  all_goals kernel_rfl

abbrev t1323:=t6 → t1321
abbrev t1324:=Program → t1323
def k_callT : t1324 := (λx0 x1 x2 x3 x4 x5=>(@Bool.rec (λ_=>t4) (k_callN x0 x2 x3 x4 x5) (l5 x4 x5) (x1 x3)))
theorem k_callT_eq : @k_callT = callT := by
  delta k_callT callT
  simp only [l5_eq]
  rw [k_callN_eq]
  all_goals kernel_rfl

abbrev t1325:=S → t151
abbrev t1326:=Fr → t1325
abbrev t1327:=t161 → t1326
abbrev t1328:=Run → t1327
abbrev t1329:=Program → t1328
abbrev t1330:=t164 → t151
abbrev t1331:=t141 → t1330
abbrev t1332:=t14 → t1331
abbrev t1333:=Nat → t1332
abbrev t1334:=t1329 → t1333
abbrev t1335:=Oper → t1334
abbrev t1336:=t161 → t1335
abbrev t1337:=Run → t1336
abbrev t1338:=Program → t1337
abbrev t1339:=Ret → t1338
def l511 : t1339 := (λx0=>(@Ret.rec (λ_=>t1338) (λx1 x2 x3 x4 x5 x6 x7 x8 x9 x10 x11=>(@Option.rec t14 (λ_=>t151) none (λx12=>(x7 x3 x4 x5 (Fr.mk x8 x12 x10 x11) x2)) (k_putE x8 (Oper.dst x6) x1 x9))) (λx1 x2 _ _ _ _ _ x8 x9 x10 x11=>(some ((Ex.pan x1), ((Fr.mk x8 x9 x10 x11), x2)))) x0))
theorem l511_eq : ∀ x0 x1 x2 x3 x4 x5 x6 x7 x8 x9, (Eq (l511 x0 x1 x2 x3 x4 x5 x6 x7 x8 x9) (@Ret.rec (λ_=>t151) (λx10 x11=>(@Option.rec t14 (λ_=>t151) none (λx12=>(x5 x1 x2 x3 (Fr.mk x6 x12 x8 x9) x11)) (k_putE x6 (Oper.dst x4) x10 x7))) (λx10 x11=>(some ((Ex.pan x10), ((Fr.mk x6 x7 x8 x9), x11)))) x0)) := by intro t; cases t <;> (intros; rfl)
abbrev t1340:=Option SD
abbrev t1341:=t164 → t1325
abbrev t1342:=t141 → t1341
abbrev t1343:=t14 → t1342
abbrev t1344:=Nat → t1343
abbrev t1345:=t1326 → t1344
abbrev t1346:=Oper → t1345
abbrev t1347:=t1340 → t1346
def l513 : t1347 := (λx0=>(@Option.rec SD (λ_=>t1346) (λ_ _ _ _ _ _ _=>none) (λx1 x2 x3 x4 x5 x6 x7 x8=>((λx9=>(@Option.rec t14 (λ_=>t151) none (λx10=>((λx11=>(x3 (Fr.mk x4 x11 (x9 :: x6) x7) x8)) x10)) (k_putE x4 (Oper.dst x2) (CV.tup []) x5))) x1)) x0))
theorem l513_eq : ∀ x0 x1 x2 x3 x4 x5 x6 x7, (Eq (l513 x0 x1 x2 x3 x4 x5 x6 x7) (@Option.rec SD (λ_=>t151) none (λx8=>((λx9=>(@Option.rec t14 (λ_=>t151) none (λx10=>((λx11=>(x2 (Fr.mk x3 x11 (x9 :: x5) x6) x7)) x10)) (k_putE x3 (Oper.dst x1) (CV.tup []) x4))) x8)) x0)) := by intro t; cases t <;> (intros; rfl)
abbrev t1348:=t7 → t1340
abbrev t1349:=t7 → t1348
abbrev t1350:=FuncId → t1349
abbrev t1351:=t31 → t1350
def l515 : t1351 := (λx0=>(@Option.rec t7 (λ_=>t1350) (λ_ _ _=>none) (λx1 x2 x3 x4=>(@Option.rec t7 (λ_=>t1340) none (λx5=>((λx6=>(some (SD.call x2 x6 x4))) x5)) (k_cat_CV x3 x1))) x0))
theorem l515_eq : ∀ x0 x1 x2 x3, (Eq (l515 x0 x1 x2 x3) (@methV._sparseCasesOn_2 t7 (λ_=>t1340) x0 (λx4=>(@Option.rec t7 (λ_=>t1340) none (λx5=>((λx6=>(some (SD.call x1 x6 x3))) x5)) (k_cat_CV x2 x4))) (λ_=>none))) := by intro t; cases t <;> (intros; rfl)
abbrev t1352:=Call → t1340
abbrev t1353:=t14 → t1352
abbrev t1354:=CV → t1353
def l516 : t1354 := (λx0=>(@CV.rec (λ_=>t1353) (λ_=>PUnit.{1}) (λ_ _=>none) (λ_ _ _=>none) (λ_ _ _ _=>none) (λ_ _ _ _ _ _ _=>none) (λ_ _=>none) (λ_ _ _=>none) (λ_ _ _ _=>none) (λ_ _ _ _=>none) (λx1 x2 x3 _ _ x6 x7=>(l515 (k_evs x6 (@Array.toList Operand (Call.args x7))) x1 x2 x3)) (λ_ _ _=>none) (λ_ _ _ _ _=>none) PUnit.unit.{1} (λ_ _ _ _=>PUnit.unit.{1}) x0))
theorem l516_eq : ∀ x0 x1 x2, (Eq (l516 x0 x1 x2) (@deferV._sparseCasesOn_1 (λ_=>t1340) x0 (λx3 x4 x5=>(l515 (k_evs x1 (@Array.toList Operand (Call.args x2))) x3 x4 x5)) (λ_=>none))) := by intro t; cases t <;> (intros; rfl)
abbrev t1355:=t81 → t1353
def l517 : t1355 := (λx0=>(@Option.rec CV (λ_=>t1353) (λ_ _=>none) (λx1 x2 x3=>(l516 x1 x2 x3)) x0))
theorem l517_eq : ∀ x0 x1 x2, (Eq (l517 x0 x1 x2) (@methV._sparseCasesOn_2 CV (λ_=>t1340) x0 (λx3=>(l516 x3 x1 x2)) (λ_=>none))) := by intro t; cases t <;> (intros; rfl)
abbrev t1356:=Callee → t1353
def l518 : t1356 := (λx0=>(@Callee.rec (λ_=>t1353) (λx1 x2 x3=>(l517 (k_ev x2 x1) x2 x3)) (λ_ _ _ _=>none) (λ_ _ _=>none) x0))
theorem l518_eq : ∀ x0 x1 x2, (Eq (l518 x0 x1 x2) (@deferV._sparseCasesOn_2 (λ_=>t1340) x0 (λx3=>(l517 (k_ev x1 x3) x1 x2)) (λ_=>none))) := by intro t; cases t <;> (intros; rfl)
def k_deferV : t1353 := (λx0 x1=>(l518 (Call.callee x1) x0 x1))
theorem k_deferV_eq : @k_deferV = deferV := by
  delta k_deferV deferV
  simp only [l516_eq, l515_eq, l518_eq, l517_eq]
  rw [k_cat_CV_eq, k_evs_eq, k_ev_eq]
  all_goals kernel_rfl

abbrev t1357:=Op → t1346
def l514 : t1357 := (λx0=>(@Op.rec (λ_=>t1346) (λ_ _ _ _ _ _ _ _=>none) (λ_ _ _ _ _ _ _ _=>none) (λ_ _ _ _ _ _ _ _ _ _=>none) (λ_ _ _ _ _ _ _ _=>none) (λ_ _ _ _ _ _ _ _ _=>none) (λ_ _ _ _ _ _ _ _ _=>none) (λ_ _ _ _ _ _ _ _ _ _=>none) (λ_ _ _ _ _ _ _ _ _ _ _=>none) (λ_ _ _ _ _ _ _ _ _=>none) (λ_ _ _ _ _ _ _ _ _ _=>none) (λ_ _ _ _ _ _ _ _=>none) (λ_ _ _ _ _ _ _ _=>none) (λ_ _ _ _ _ _ _ _=>none) (λ_ _ _ _ _ _ _ _ _ _ _ _=>none) (λ_ _ _ _ _ _ _ _ _ _=>none) (λ_ _ _ _ _ _ _ _ _ _=>none) (λ_ _ _ _ _ _ _ _ _=>none) (λ_ _ _ _ _ _ _ _ _=>none) (λ_ _ _ _ _ _ _ _ _ _=>none) (λ_ _ _ _ _ _ _ _ _=>none) (λ_ _ _ _ _ _ _ _ _=>none) (λ_ _ _ _ _ _ _ _ _ _=>none) (λ_ _ _ _ _ _ _ _ _ _ _ _=>none) (λ_ _ _ _ _ _ _ _ _ _=>none) (λ_ _ _ _ _ _ _ _ _ _=>none) (λ_ _ _ _ _ _ _ _ _ _=>none) (λ_ _ _ _ _ _ _ _ _ _=>none) (λ_ _ _ _ _ _ _ _ _ _ _=>none) (λ_ _ _ _ _ _ _ _ _ _ _=>none) (λ_ _ _ _ _ _ _ _ _ _=>none) (λ_ _ _ _ _ _ _ _ _ _ _=>none) (λ_ _ _ _ _ _ _ _ _=>none) (λ_ _ _ _ _ _ _ _ _=>none) (λ_ _ _ _ _ _ _ _=>none) (λ_ _ _ _ _ _ _ _ _ _ _=>none) (λ_ _ _ _ _ _ _ _ _=>none) (λ_ _ _ _ _ _ _ _=>none) (λ_ _ _ _ _ _ _ _=>none) (λx1 x2 x3 x4 x5 x6 x7 x8=>(@Option.rec Nat (λ_=>t151) (l513 (k_deferV x5 x1) x2 x3 x4 x5 x6 x7 x8) (λx9=>((λ_=>none) x9)) x7)) (λ_ _ _ _ _ _ _ _=>none) (λ_ _ _ _ _ _ _ _ _=>none) (λ_ _ _ _ _ _ _ _ _ _=>none) (λ_ _ _ _ _ _ _ _ _=>none) x0))
theorem l514_eq : ∀ x0 x1 x2 x3 x4 x5 x6 x7, (Eq (l514 x0 x1 x2 x3 x4 x5 x6 x7) (@regQ._sparseCasesOn_4 (λ_=>t151) x0 (λx8=>(@Option.rec Nat (λ_=>t151) (l513 (k_deferV x4 x8) x1 x2 x3 x4 x5 x6 x7) (λx9=>((λ_=>none) x9)) x6)) (λ_=>none))) := by intro t; cases t <;> (intros; rfl)
def k_regQ : t1346 := (λx0 x1 x2 x3 x4 x5 x6=>(l514 (Oper.op x0) x0 x1 x2 x3 x4 x5 x6))
theorem k_regQ_eq : @k_regQ = regQ := by
  delta k_regQ regQ
  simp only [l514_eq, l513_eq]
  rw [k_putE_eq, k_deferV_eq]
  all_goals kernel_rfl

abbrev t1358:=S → t1335
abbrev t1359:=t161 → t1358
abbrev t1360:=Run → t1359
abbrev t1361:=Program → t1360
abbrev t1362:=t4 → t1361
def l512 : t1362 := (λx0=>(@Option.rec Ret (λ_=>t1361) (λx1 x2 x3 x4 x5 x6 x7 x8 x9 x10=>(k_regQ x5 (λx11 x12=>(x6 x1 x2 x3 x11 x12)) x7 x8 x9 x10 x4)) (λx1 x2 x3 x4 _ x6 x7 x8 x9 x10 x11=>(l511 x1 x2 x3 x4 x6 x7 x8 x9 x10 x11)) x0))
theorem l512_eq : ∀ x0 x1 x2 x3 x4 x5 x6 x7 x8 x9 x10, (Eq (l512 x0 x1 x2 x3 x4 x5 x6 x7 x8 x9 x10) (@Option.rec Ret (λ_=>t151) (k_regQ x5 (λx11 x12=>(x6 x1 x2 x3 x11 x12)) x7 x8 x9 x10 x4) (λx11=>(l511 x11 x1 x2 x3 x5 x6 x7 x8 x9 x10)) x0)) := by intro t; cases t <;> (intros; rfl)
abbrev t1363:=t7 → t238
def k_app2 : t1363 := (λx0 x1 x2=>(@Option.rec t7 (λ_=>t31) none (λx3=>((λx4=>(k_cat_CV x0 x4)) x3)) (k_cat_CV x1 x2)))
theorem k_app2_eq : @k_app2 = app2 := by
  delta k_app2 app2
  rw [k_cat_CV_eq]
  all_goals kernel_rfl

abbrev t1364:=Run → t9
abbrev t1365:=CV → t1364
def l522 : t1365 := (λx0=>(@CV.rec (λ_=>t1364) (λ_=>PUnit.{1}) (λ_ _ _=>none) (λ_ _ _ _=>none) (λ_ _ _ _ _=>none) (λ_ _ _ _ _ _ _ _=>none) (λ_ _ _=>none) (λ_ _ _ _=>none) (λ_ _ _ _ _=>none) (λ_ _ _ _ _=>none) (λx1 x2 x3 _ _ x6 x7 x8=>(@Option.rec t7 (λ_=>t4) none (λx9=>((λx10=>(Run.call x6 x1 x10 x8)) x9)) (k_app2 x2 x7 x3))) (λx1 x2 x3 x4=>(Run.round x2 x1 x3 x4)) (λ_ _ _ _ _ _=>none) PUnit.unit.{1} (λ_ _ _ _=>PUnit.unit.{1}) x0))
theorem l522_eq : ∀ x0 x1 x2 x3, (Eq (l522 x0 x1 x2 x3) (@callV._sparseCasesOn_1 (λ_=>t4) x0 (λx4 x5 x6=>(@Option.rec t7 (λ_=>t4) none (λx7=>((λx8=>(Run.call x1 x4 x8 x3)) x7)) (k_app2 x5 x2 x6))) (λx4=>(Run.round x1 x4 x2 x3)) (λ_=>none))) := by intro t; cases t <;> (intros; rfl)
abbrev t1366:=CV → t9
abbrev t1367:=Run → t1366
def k_callV : t1367 := (λx0 x1 x2 x3=>(l522 x1 x0 x2 x3))
theorem k_callV_eq : @k_callV = callV := by
  delta k_callV callV
  simp only [l522_eq]
  rw [k_app2_eq]
  all_goals kernel_rfl

abbrev t1368:=Run → t20
abbrev t1369:=t31 → t1368
def l521 : t1369 := (λx0=>(@Option.rec t7 (λ_=>t1368) (λ_ _ _=>none) (λx1 x2 x3 x4=>(k_callV x2 x4 x1 x3)) x0))
theorem l521_eq : ∀ x0 x1 x2 x3, (Eq (l521 x0 x1 x2 x3) (@stepC._sparseCasesOn_1 t7 (λ_=>t4) x0 (λx4=>(k_callV x1 x3 x4 x2)) (λ_=>none))) := by intro t; cases t <;> (intros; rfl)
abbrev t1370:=Run → t1090
abbrev t1371:=t81 → t1370
def l523 : t1371 := (λx0=>(@Option.rec CV (λ_=>t1370) (λ_ _ _ _=>none) (λx1 x2 x3 x4 x5=>(l521 (k_evs x3 (@Array.toList Operand (Call.args x4))) x2 x5 x1)) x0))
theorem l523_eq : ∀ x0 x1 x2 x3 x4, (Eq (l523 x0 x1 x2 x3 x4) (@stepC._sparseCasesOn_1 CV (λ_=>t4) x0 (λx5=>(l521 (k_evs x2 (@Array.toList Operand (Call.args x3))) x1 x4 x5)) (λ_=>none))) := by intro t; cases t <;> (intros; rfl)
abbrev t1372:=Option FuncId
abbrev t1373:=FuncId → t1372
abbrev t1374:=TypeDesc → t1373
def l525 : t1374 := (λx0=>(@TypeDesc.rec (λ_=>t1373) (λx1=>(some x1)) (λx1=>(some x1)) (λ_ x2=>(some x2)) (λ_ x2=>(some x2)) (λ_ x2=>(some x2)) (λx1=>(some x1)) (λx1=>(some x1)) (λ_ _=>none) (λ_ x2=>(some x2)) (λ_ _ x3=>(some x3)) (λ_ _ x3=>(some x3)) (λ_ _ x3=>(some x3)) (λ_ x2=>(some x2)) (λ_ _ _ x4=>(some x4)) (λ_ x2=>(some x2)) (λ_ x2=>(some x2)) (λ_ _ x3=>(some x3)) x0))
theorem l525_eq : ∀ x0 x1, (Eq (l525 x0 x1) (@methV._sparseCasesOn_3 (λ_=>t1372) x0 (λ_=>none) (λ_=>(some x1)))) := by intro t; cases t <;> (intros; rfl)
abbrev t1375:=t336 → t1373
def l526 : t1375 := (λx0=>(@Option.rec TypeDesc (λ_=>t1373) (λ_=>none) (λx1 x2=>(l525 x1 x2)) x0))
theorem l526_eq : ∀ x0 x1, (Eq (l526 x0 x1) (@methV._sparseCasesOn_2 TypeDesc (λ_=>t1372) x0 (λx2=>(l525 x2 x1)) (λ_=>none))) := by intro t; cases t <;> (intros; rfl)
def l527 : t1374 := (λx0=>(@TypeDesc.rec (λ_=>t1373) (λ_=>none) (λ_=>none) (λ_ _=>none) (λ_ _=>none) (λ_ _=>none) (λ_=>none) (λ_=>none) (λ_ x2=>(some x2)) (λ_ _=>none) (λ_ _ _=>none) (λ_ _ _=>none) (λ_ _ _=>none) (λ_ _=>none) (λ_ _ _ _=>none) (λ_ _=>none) (λ_ _=>none) (λ_ _ _=>none) x0))
theorem l527_eq : ∀ x0 x1, (Eq (l527 x0 x1) (@methV._sparseCasesOn_3 (λ_=>t1372) x0 (λ_=>(some x1)) (λ_=>none))) := by intro t; cases t <;> (intros; rfl)
def l528 : t1375 := (λx0=>(@Option.rec TypeDesc (λ_=>t1373) (λ_=>none) (λx1 x2=>(l527 x1 x2)) x0))
theorem l528_eq : ∀ x0 x1, (Eq (l528 x0 x1) (@methV._sparseCasesOn_2 TypeDesc (λ_=>t1372) x0 (λx2=>(l527 x2 x1)) (λ_=>none))) := by intro t; cases t <;> (intros; rfl)
abbrev t1376:=Prod FuncId Bool
abbrev t1377:=Option t1376
abbrev t1378:=TypeId → t1372
abbrev t1379:=Program → t1378
abbrev t1380:=t1377 → t1379
def l529 : t1380 := (λx0=>(@Option.rec t1376 (λ_=>t1379) (λ_ _=>none) (λx1 x2 x3=>(@Prod.rec FuncId Bool (λ_=>t1372) (λx4 x5=>(@Bool.rec (λ_=>t1372) (l526 (Program.underlying x2 x3) x4) (l528 (Program.underlying x2 x3) x4) x5)) x1)) x0))
theorem l529_eq : ∀ x0 x1 x2, (Eq (l529 x0 x1 x2) (@methV._sparseCasesOn_2 t1376 (λ_=>t1372) x0 (λx3=>(@Prod.rec FuncId Bool (λ_=>t1372) (λx4 x5=>(@Bool.rec (λ_=>t1372) (l526 (Program.underlying x1 x2) x4) (l528 (Program.underlying x1 x2) x4) x5)) x3)) (λ_=>none))) := by intro t; cases t <;> (intros; rfl)
abbrev t1381:=List FieldStep
abbrev t1382:=Method → t1372
abbrev t1383:=TypeId → t1382
abbrev t1384:=Program → t1383
abbrev t1385:=t1381 → t1384
def l530 : t1385 := (λx0=>(@List.rec FieldStep (λ_=>t1384) (λx1 x2 x3=>(l529 (Method.func x3) x1 x2)) (λ_ _ _ _ _ _=>none) x0))
theorem l530_eq : ∀ x0 x1 x2 x3, (Eq (l530 x0 x1 x2 x3) (@methV._sparseCasesOn_1 FieldStep (λ_=>t1372) x0 (l529 (Method.func x3) x1 x2) (λ_=>none))) := by intro t; cases t <;> (intros; rfl)
abbrev t1386:=String → t1372
abbrev t1387:=TypeId → t1386
abbrev t1388:=Program → t1387
abbrev t1389:=t331 → t1388
def l531 : t1389 := (λx0=>(@Option.rec TypeInfo (λ_=>t1388) (λ_ _ _=>none) (λx1 x2 x3 x4=>((λx5=>(@Option.rec Method (λ_=>t1372) none (λx6=>((λx7=>(l530 (@Array.toList FieldStep (Method.path x7)) x2 x3 x7)) x6)) (@Array.find? Method (λx6=>(@BEq.beq String (@instBEqOfDecidableEq String instDecidableEqString) (Method.name x6) x4)) (TypeInfo.methods x5)))) x1)) x0))
theorem l531_eq : ∀ x0 x1 x2 x3, (Eq (l531 x0 x1 x2 x3) (@Option.rec TypeInfo (λ_=>t1372) none (λx4=>((λx5=>(@Option.rec Method (λ_=>t1372) none (λx6=>((λx7=>(l530 (@Array.toList FieldStep (Method.path x7)) x1 x2 x7)) x6)) (@Array.find? Method (λx6=>(@BEq.beq String (@instBEqOfDecidableEq String instDecidableEqString) (Method.name x6) x3)) (TypeInfo.methods x5)))) x4)) x0)) := by intro t; cases t <;> (intros; rfl)
def k_methV : t1388 := (λx0 x1 x2=>(l531 (Tables.info? (Program.toTables x0) x1) x0 x1 x2))
theorem k_methV_eq : @k_methV = methV := by
  delta k_methV methV
  simp only [l530_eq, l529_eq, l527_eq, l526_eq, l528_eq, l525_eq, l531_eq]
  all_goals kernel_rfl

abbrev t1390:=String → t921
abbrev t1391:=S → t1390
abbrev t1392:=Run → t1391
abbrev t1393:=Program → t1392
abbrev t1394:=t31 → t1393
def l524 : t1394 := (λx0=>(@Option.rec t7 (λ_=>t1393) (λ_ _ _ _ _ _=>none) (λx1 x2 x3 x4 x5 x6 x7=>(@Option.rec FuncId (λ_=>t4) none (λx8=>((λx9=>(k_callV x3 (CV.fn x9 [] []) (x7 :: x1) x4)) x8)) (k_methV x2 x6 x5))) x0))
theorem l524_eq : ∀ x0 x1 x2 x3 x4 x5 x6, (Eq (l524 x0 x1 x2 x3 x4 x5 x6) (@stepC._sparseCasesOn_1 t7 (λ_=>t4) x0 (λx7=>(@Option.rec FuncId (λ_=>t4) none (λx8=>((λx9=>(k_callV x2 (CV.fn x9 [] []) (x6 :: x7) x3)) x8)) (k_methV x1 x5 x4))) (λ_=>none))) := by intro t; cases t <;> (intros; rfl)
abbrev t1395:=String → t4
abbrev t1396:=S → t1395
abbrev t1397:=Call → t1396
abbrev t1398:=t14 → t1397
abbrev t1399:=Run → t1398
abbrev t1400:=Program → t1399
abbrev t1401:=CV → t1400
def l532 : t1401 := (λx0=>(@CV.rec (λ_=>t1400) (λ_=>PUnit.{1}) (λ_ _ _ _ _ _=>none) (λ_ _ _ _ _ _ _=>none) (λ_ _ _ _ _ _ _ _=>none) (λ_ _ _ _ _ _ _ _ _ _ _=>none) (λ_ _ _ _ _ _=>none) (λ_ _ _ _ _ _ _=>none) (λ_ _ _ _ _ _ _ _=>none) (λ_ _ _ _ _ _ _ _=>none) (λ_ _ _ _ _ _ _ _ _ _ _=>none) (λ_ _ _ _ _ _ _=>none) (λx1 x2 _ x4 x5 x6 x7 x8 x9=>(l524 (k_evs x6 (@Array.toList Operand (Call.args x7))) x4 x5 x8 x9 x1 x2)) PUnit.unit.{1} (λ_ _ _ _=>PUnit.unit.{1}) x0))
theorem l532_eq : ∀ x0 x1 x2 x3 x4 x5 x6, (Eq (l532 x0 x1 x2 x3 x4 x5 x6) (@stepC._sparseCasesOn_3 (λ_=>t4) x0 (λx7 x8=>(l524 (k_evs x3 (@Array.toList Operand (Call.args x4))) x1 x2 x5 x6 x7 x8)) (λ_=>none))) := by intro t; cases t <;> (intros; rfl)
abbrev t1402:=t81 → t1400
def l533 : t1402 := (λx0=>(@Option.rec CV (λ_=>t1400) (λ_ _ _ _ _ _=>none) (λx1 x2 x3 x4 x5 x6 x7=>(l532 x1 x2 x3 x4 x5 x6 x7)) x0))
theorem l533_eq : ∀ x0 x1 x2 x3 x4 x5 x6, (Eq (l533 x0 x1 x2 x3 x4 x5 x6) (@stepC._sparseCasesOn_1 CV (λ_=>t4) x0 (λx7=>(l532 x7 x1 x2 x3 x4 x5 x6)) (λ_=>none))) := by intro t; cases t <;> (intros; rfl)
abbrev t1403:=Program → t4
abbrev t1404:=S → t1403
abbrev t1405:=Call → t1404
abbrev t1406:=t14 → t1405
abbrev t1407:=Run → t1406
abbrev t1408:=Callee → t1407
def l534 : t1408 := (λx0=>(@Callee.rec (λ_=>t1407) (λx1 x2 x3 x4 x5 _=>(l523 (k_ev x3 x1) x2 x3 x4 x5)) (λx1 x2 x3 x4 x5 x6 x7=>(l533 (k_ev x4 x1) x7 x3 x4 x5 x6 x2)) (λ_ _ x3 x4 x5 x6=>(k_o_call x6 x3 x4 x5)) x0))
theorem l534_eq : ∀ x0 x1 x2 x3 x4 x5, (Eq (l534 x0 x1 x2 x3 x4 x5) (@stepC._sparseCasesOn_4 (λ_=>t4) x0 (λx6=>(l523 (k_ev x2 x6) x1 x2 x3 x4)) (λx6 x7=>(l533 (k_ev x2 x6) x5 x1 x2 x3 x4 x7)) (λ_=>(k_o_call x5 x2 x3 x4)))) := by intro t; cases t <;> (intros; rfl)
abbrev t1409:=Program → t1370
def k_stepC : t1409 := (λx0 x1 x2 x3 x4=>(l534 (Call.callee x3) x1 x2 x3 x4 x0))
theorem k_stepC_eq : @k_stepC = stepC := by
  delta k_stepC stepC
  simp only [l521_eq, l534_eq, l532_eq, l533_eq, l523_eq, l524_eq]
  rw [k_callV_eq, k_evs_eq, k_methV_eq, k_o_call_eq, k_ev_eq]
  all_goals kernel_rfl

def l535 : t186 := (λx0=>(@CV.rec (λ_=>t8) (λ_=>PUnit.{1}) (λ_=>none) (λ_ _=>none) (λ_ _ _=>none) (λ_ _ _ _ _ _=>none) (λ_=>none) (λ_ _=>none) (λ_ _ _=>none) (λ_ _ _=>none) (λ_ _ _ _ _ _=>none) (λ_ _=>none) (λx1 x2 _ x4=>(some (Ret.pan (CV.iface x1 x2) x4))) PUnit.unit.{1} (λ_ _ _ _=>PUnit.unit.{1}) x0))
theorem l535_eq : ∀ x0 x1, (Eq (l535 x0 x1) (@stepC._sparseCasesOn_3 (λ_=>t4) x0 (λx2 x3=>(some (Ret.pan (CV.iface x2 x3) x1))) (λ_=>none))) := by intro t; cases t <;> (intros; rfl)
def l536 : t101 := (λx0=>(@Option.rec CV (λ_=>t8) (λ_=>none) (λx1 x2=>(l535 x1 x2)) x0))
theorem l536_eq : ∀ x0 x1, (Eq (l536 x0 x1) (@stepC._sparseCasesOn_1 CV (λ_=>t4) x0 (λx2=>(l535 x2 x1)) (λ_=>none))) := by intro t; cases t <;> (intros; rfl)
def k_stepPan : t192 := (λx0 x1 x2=>(l536 (k_ev x0 x1) x2))
theorem k_stepPan_eq : @k_stepPan = stepPan := by
  delta k_stepPan stepPan
  simp only [l535_eq, l536_eq]
  rw [k_ev_eq]
  all_goals kernel_rfl

abbrev t1410:=Run → t1141
abbrev t1411:=Program → t1410
abbrev t1412:=Op → t1411
def l520 : t1412 := (λx0=>(@Op.rec (λ_=>t1411) (λx1 x2 _ x4 x5=>(k_o_move x2 x4 x1 x5)) (λx1 x2 _ x4 x5=>(k_o_move x2 x4 x1 x5)) (λx1 x2 x3 x4 _ x6 x7=>(k_o_pick x4 x6 x1 x2 x3 x7)) (λx1 x2 _ x4 x5=>(k_o_alloc x2 x4 x1 x5)) (λx1 x2 x3 _ x5 x6=>(k_o_box x3 x5 x1 x2 x6)) (λx1 x2 x3 _ x5 x6=>(k_o_build x3 x5 x1 x2 x6)) (λx1 x2 x3 x4 _ x6 x7=>(k_o_buildSlice x4 x6 x1 x2 x3 x7)) (λx1 x2 x3 x4 x5 _ x7 x8=>(k_o_mapUpdate x5 x7 x1 x2 x3 x4 x8)) (λx1 x2 x3 _ x5 x6=>(k_o_load x3 x5 x1 x2 x6)) (λx1 x2 x3 x4 _ x6 x7=>(k_o_store x4 x6 x1 x2 x3 x7)) (λ_ _ _ _ _=>none) (λ_ _ _ _ _=>none) (λx1 x2 _ x4 x5=>(k_o_nilCheck x2 x4 x1 x5)) (λx1 x2 x3 x4 _ x6 _ x8 x9=>(k_o_binOp x6 x8 x1 x2 x3 x4 x9)) (λx1 _ x3 x4 _ x6 x7=>(k_o_unOp x4 x6 x1 x3 x7)) (λx1 x2 x3 x4 _ x6 x7=>(k_o_convert x4 x6 x1 x2 x3 x7)) (λ_ _ _ _ _ _=>none) (λx1 x2 x3 _ x5 x6=>(k_o_makeInterface x3 x5 x1 x2 x6)) (λx1 x2 x3 x4 _ x6 x7=>(k_o_makeFunc x4 x6 x1 x2 x3 x7)) (λx1 x2 x3 _ x5 x6=>(k_mapF x3 x5 x1 x2 x6)) (λ_ _ _ _ _ _=>none) (λx1 x2 x3 x4 _ x6 x7=>(k_o_makeSlice x4 x6 x1 x2 x3 x7)) (λx1 x2 x3 x4 x5 x6 _ x8 x9=>(k_o_slice x6 x8 x1 x2 x3 x4 x5 x9)) (λx1 x2 x3 x4 _ x6 x7=>(k_o_fieldAddr x4 x6 x1 x2 x3 x7)) (λx1 x2 x3 x4 _ x6 x7=>(k_o_field x4 x6 x1 x2 x3 x7)) (λx1 x2 x3 x4 _ x6 x7=>(k_o_indexAddr x4 x6 x1 x2 x3 x7)) (λx1 x2 x3 x4 _ x6 x7=>(k_o_index x4 x6 x1 x2 x3 x7)) (λx1 x2 x3 x4 x5 _ x7 x8=>(k_o_lookup x5 x7 x1 x2 x3 x4 x8)) (λx1 x2 x3 x4 x5 _ x7 x8=>(k_o_mapUpdate x5 x7 x1 x2 x3 x4 x8)) (λ_ _ _ _ _ _ _=>none) (λ_ _ _ _ _ _ _ _=>none) (λ_ _ _ _ _ _=>none) (λ_ _ _ _ _ _=>none) (λ_ _ _ _ _=>none) (λx1 _ x3 x4 x5 _ x7 x8=>(k_o_typeAssert x5 x7 x1 x3 x4 x8)) (λx1 x2 x3 _ x5 x6=>(k_o_extract x3 x5 x1 x2 x6)) (λx1 x2 x3 x4 x5=>(k_stepC x2 x3 x4 x1 x5)) (λ_ _ _ _ _=>none) (λ_ _ _ _ _=>none) (λx1 _ _ x4 x5=>(k_stepPan x4 x1 x5)) (λ_ _ _ _ _ _=>none) (λ_ _ _ _ _ _ _=>none) (λ_ _ _ _ _ _=>none) x0))
theorem l520_eq : ∀ x0, (Eq (l520 x0) (@stepF._sparseCasesOn_1 (λ_=>t1411) x0 (λx1 x2 x3 x4 x5=>(k_stepC x2 x3 x4 x1 x5)) (λx1 _ _ x4 x5=>(k_stepPan x4 x1 x5)) (λx1 x2 _ x4 x5=>(k_o_move x2 x4 x1 x5)) (λx1 x2 _ x4 x5=>(k_o_move x2 x4 x1 x5)) (λx1 x2 x3 x4 _ x6 x7=>(k_o_pick x4 x6 x1 x2 x3 x7)) (λx1 x2 _ x4 x5=>(k_o_alloc x2 x4 x1 x5)) (λx1 x2 x3 _ x5 x6=>(k_o_box x3 x5 x1 x2 x6)) (λx1 x2 x3 _ x5 x6=>(k_o_build x3 x5 x1 x2 x6)) (λx1 x2 x3 x4 _ x6 x7=>(k_o_buildSlice x4 x6 x1 x2 x3 x7)) (λx1 x2 x3 _ x5 x6=>(k_o_load x3 x5 x1 x2 x6)) (λx1 x2 x3 x4 _ x6 x7=>(k_o_store x4 x6 x1 x2 x3 x7)) (λx1 x2 _ x4 x5=>(k_o_nilCheck x2 x4 x1 x5)) (λx1 x2 x3 x4 _ x6 _ x8 x9=>(k_o_binOp x6 x8 x1 x2 x3 x4 x9)) (λx1 _ x3 x4 _ x6 x7=>(k_o_unOp x4 x6 x1 x3 x7)) (λx1 x2 x3 x4 _ x6 x7=>(k_o_convert x4 x6 x1 x2 x3 x7)) (λx1 x2 x3 _ x5 x6=>(k_o_makeInterface x3 x5 x1 x2 x6)) (λx1 x2 x3 x4 _ x6 x7=>(k_o_makeFunc x4 x6 x1 x2 x3 x7)) (λx1 x2 x3 _ x5 x6=>(k_mapF x3 x5 x1 x2 x6)) (λx1 x2 x3 x4 _ x6 x7=>(k_o_makeSlice x4 x6 x1 x2 x3 x7)) (λx1 x2 x3 x4 x5 x6 _ x8 x9=>(k_o_slice x6 x8 x1 x2 x3 x4 x5 x9)) (λx1 x2 x3 x4 _ x6 x7=>(k_o_fieldAddr x4 x6 x1 x2 x3 x7)) (λx1 x2 x3 x4 _ x6 x7=>(k_o_field x4 x6 x1 x2 x3 x7)) (λx1 x2 x3 x4 _ x6 x7=>(k_o_indexAddr x4 x6 x1 x2 x3 x7)) (λx1 x2 x3 x4 _ x6 x7=>(k_o_index x4 x6 x1 x2 x3 x7)) (λx1 x2 x3 x4 x5 _ x7 x8=>(k_o_lookup x5 x7 x1 x2 x3 x4 x8)) (λx1 x2 x3 x4 x5 _ x7 x8=>(k_o_mapUpdate x5 x7 x1 x2 x3 x4 x8)) (λx1 x2 x3 x4 x5 _ x7 x8=>(k_o_mapUpdate x5 x7 x1 x2 x3 x4 x8)) (λx1 x2 x3 _ x5 x6=>(k_o_extract x3 x5 x1 x2 x6)) (λx1 _ x3 x4 x5 _ x7 x8=>(k_o_typeAssert x5 x7 x1 x3 x4 x8)) (λ_ _ _ _ _=>none))) := by intro t; cases t <;> (intros; rfl)
def k_stepF : t1412 := (λx0=>(l520 x0))
theorem k_stepF_eq : @k_stepF = stepF := by
  delta k_stepF stepF
  simp only [l520_eq]
  rw [k_stepPan_eq, k_stepC_eq, k_o_extract_eq, k_o_typeAssert_eq, k_o_mapUpdate_eq, k_o_lookup_eq, k_o_index_eq, k_o_indexAddr_eq, k_o_field_eq, k_o_fieldAddr_eq, k_o_slice_eq, k_o_makeSlice_eq, k_mapF_eq, k_o_makeFunc_eq, k_o_makeInterface_eq, k_o_convert_eq, k_o_unOp_eq, k_o_binOp_eq, k_o_nilCheck_eq, k_o_store_eq, k_o_load_eq, k_o_buildSlice_eq, k_o_build_eq, k_o_box_eq, k_o_alloc_eq, k_o_pick_eq, k_o_move_eq]
  all_goals kernel_rfl

abbrev t1413:=Oper → t8
abbrev t1414:=t14 → t1413
abbrev t1415:=Run → t1414
abbrev t1416:=Program → t1415
def k_stepOp' : t1416 := (λx0 x1 x2 x3 x4=>(k_stepF (Oper.op x3) x0 x1 x2 x4))
theorem k_stepOp'_eq : @k_stepOp' = stepOp' := by
  delta k_stepOp' stepOp'
  rw [k_stepF_eq]
  all_goals kernel_rfl

theorem k_stepOp_eq : @k_stepOp' = @stepOp := k_stepOp'_eq.trans stepOp'_eq
abbrev t1417:=Bool → t1361
def l519 : t1417 := (λx0=>(@Bool.rec (λ_=>t1361) (λx1 x2 x3 x4 x5 x6 x7 x8 x9 x10=>(@Option.rec t14 (λ_=>t151) none (λx11=>(x6 x1 x2 x3 (Fr.mk x7 x11 x9 x10) x4)) (k_putE x7 (Oper.dst x5) (CV.tup []) x8))) (λx1 x2 x3 x4 x5 x6 x7 x8 x9 x10=>(l512 (k_stepOp' x1 x2 x8 x5 x4) x1 x2 x3 x4 x5 x6 x7 x8 x9 x10)) x0))
theorem l519_eq : ∀ x0 x1 x2 x3 x4 x5 x6 x7 x8 x9 x10, (Eq (l519 x0 x1 x2 x3 x4 x5 x6 x7 x8 x9 x10) (@Bool.rec (λ_=>t151) (@Option.rec t14 (λ_=>t151) none (λx11=>(x6 x1 x2 x3 (Fr.mk x7 x11 x9 x10) x4)) (k_putE x7 (Oper.dst x5) (CV.tup []) x8)) (l512 (k_stepOp' x1 x2 x8 x5 x4) x1 x2 x3 x4 x5 x6 x7 x8 x9 x10) x0)) := by intro t; cases t <;> (intros; rfl)
abbrev t1418:=t1329 → t151
abbrev t1419:=Oper → t1418
abbrev t1420:=S → t1419
abbrev t1421:=t161 → t1420
abbrev t1422:=Run → t1421
abbrev t1423:=Program → t1422
abbrev t1424:=Fr → t1423
def l537 : t1424 := (λx0=>(@Fr.rec (λ_=>t1423) (λx1 x2 x3 x4 x5 x6 x7 x8 x9 x10=>(@Option.rec Bool (λ_=>t151) none (λx11=>(l519 x11 x5 x6 x7 x8 x9 x10 x1 x2 x3 x4)) (k_guardV x7 x2 x9))) x0))
theorem l537_eq : ∀ x0 x1 x2 x3 x4 x5 x6, (Eq (l537 x0 x1 x2 x3 x4 x5 x6) (@Fr.rec (λ_=>t151) (λx7 x8 x9 x10=>(@Option.rec Bool (λ_=>t151) none (λx11=>(l519 x11 x1 x2 x3 x4 x5 x6 x7 x8 x9 x10)) (k_guardV x3 x8 x5))) x0)) := by intro t; cases t <;> (intros; rfl)
abbrev t1425:=t161 → t1327
abbrev t1426:=Run → t1425
abbrev t1427:=Program → t1426
def k_regS' : t1427 := (λx0 x1 x2 x3 x4 x5=>(@List.rec Oper (λ_=>t1329) (λ_ _ _ x9 x10=>(some (Ex.normal, (x9, x10)))) (λx6 _ x8 x9 x10 x11 x12 x13=>(l537 x12 x9 x10 x11 x13 x6 x8)) x3 x0 x1 x2 x4 x5))
theorem k_regS'_law : ∀ x0 x1 x2 x3 x4 x5, (Eq (k_regS' x1 x2 x3 x0 x4 x5) (regS' x1 x2 x3 x0 x4 x5)) := by
  intro t
  induction t with
  | nil  =>
    intro z0 z1 z2 z3 z4
    show ((fun (_ : Program) (_ : Run) (_ : t161) (x3 : Fr) (x4 : S) => (some (Ex.normal, (x3, x4)))) z0 z1 z2 z3 z4) = _
    conv => rhs; rw [Ev.regS'.eq_def]
    all_goals kernel_rfl
  | cons y0 y1 ih0 =>
    intro z0 z1 z2 z3 z4
    have e0 : (fun (x0 : Program) (x1 : Run) (x2 : t161) (x3 : Fr) (x4 : S) => (k_regS' x0 x1 x2 y1 x3 x4)) = (fun (x0 : Program) (x1 : Run) (x2 : t161) (x3 : Fr) (x4 : S) => (regS' x0 x1 x2 y1 x3 x4)) := by
      funext z0 z1 z2 z3 z4; exact ih0 z0 z1 z2 z3 z4
    show ((fun (x0 : Oper) (_ : t161) (x2 : t1329) (x3 : Program) (x4 : Run) (x5 : t161) (x6 : Fr) (x7 : S) => (l537 x6 x3 x4 x5 x7 x0 x2)) y0 y1 (fun (x0 : Program) (x1 : Run) (x2 : t161) (x3 : Fr) (x4 : S) => (k_regS' x0 x1 x2 y1 x3 x4)) z0 z1 z2 z3 z4) = _
    rw [e0]
    conv => rhs; rw [Ev.regS'.eq_def]
    try simp only [l537_eq, l512_eq, l511_eq, l519_eq]
    try rw [k_putE_eq]
    try rw [k_regQ_eq]
    try rw [k_stepOp_eq]
    try rw [k_guardV_eq]
    all_goals kernel_rfl
theorem k_regS'_eq : @k_regS' = regS' := by
  funext a0 a1 a2 a3 a4 a5; exact k_regS'_law a3 a0 a1 a2 a4 a5
theorem k_regS_eq : @k_regS' = @regS := k_regS'_eq.trans regS'_eq
abbrev t1428:=List Nat
abbrev t1429:=List Lg
abbrev t1430:=t1429 → t1326
abbrev t1431:=t1428 → t1430
abbrev t1432:=Nat → t1431
abbrev t1433:=t161 → t1432
abbrev t1434:=Run → t1433
abbrev t1435:=Program → t1434
abbrev t1436:=t1428 → t151
abbrev t1437:=t164 → t1436
abbrev t1438:=t141 → t1437
abbrev t1439:=Nat → t1438
abbrev t1440:=t1435 → t1439
abbrev t1441:=S → t1440
abbrev t1442:=t1429 → t1441
abbrev t1443:=Nat → t1442
abbrev t1444:=t161 → t1443
abbrev t1445:=Run → t1444
abbrev t1446:=Program → t1445
abbrev t1447:=t165 → t1446
def l538 : t1447 := (λx0=>(@Option.rec t14 (λ_=>t1446) (λ_ _ _ _ _ _ _ _ _ _ _=>none) (λx1 x2 x3 x4 x5 x6 x7 x8 x9 x10 x11 x12=>(x8 x2 x3 x4 (Nat.add x5 (nat_lit 1)) x12 x6 (Fr.mk x9 x1 x10 x11) x7)) x0))
theorem l538_eq : ∀ x0 x1 x2 x3 x4 x5 x6 x7 x8 x9 x10 x11, (Eq (l538 x0 x1 x2 x3 x4 x5 x6 x7 x8 x9 x10 x11) (@Option.rec t14 (λ_=>t151) none (λx12=>(x7 x1 x2 x3 (Nat.add x4 (nat_lit 1)) x11 x5 (Fr.mk x8 x12 x9 x10) x6)) x0)) := by intro t; cases t <;> (intros; rfl)
abbrev t1448:=Nat → t151
abbrev t1449:=t1448 → t151
abbrev t1450:=Nat → t1449
def k_fN_433 : t1450 := (λx0 x1=>(@Nat.rec (λ_=>t151) (x1 (nat_lit 0)) (λx2 _=>((λx4=>(x1 (Nat.add x4 (nat_lit 1)))) x2)) x0))
theorem k_fN_433_eq : @k_fN_433 = (@fN t148) := by
  delta k_fN_433 fN
  all_goals kernel_rfl

abbrev t1451:=Nat → t1448
abbrev t1452:=Nat → t1451
abbrev t1453:=t46 → t1452
abbrev t1454:=Nat → t1453
abbrev t1455:=Nat → t1454
abbrev t1456:=t1428 → t1455
abbrev t1457:=t164 → t1456
abbrev t1458:=t141 → t1457
abbrev t1459:=Nat → t1458
abbrev t1460:=t1435 → t1459
abbrev t1461:=t1429 → t1460
abbrev t1462:=Nat → t1461
abbrev t1463:=t161 → t1462
abbrev t1464:=Run → t1463
abbrev t1465:=Program → t1464
abbrev t1466:=t165 → t1465
def l539 : t1466 := (λx0=>(@Option.rec t14 (λ_=>t1465) (λ_ _ _ _ _ _ _ _ _ _ _ _ _ _ _ _=>none) (λx1 x2 x3 x4 x5 x6 x7 x8 x9 x10 x11 x12 x13 x14 x15 x16 x17=>(k_fN_433 (Nat.lor x12 x16) (λx18=>(k_fN_433 (Nat.lor x13 x17) (λx19=>(x7 x2 x3 x4 (Nat.add x5 (nat_lit 1)) x11 (@Bool.rec (λ_=>t1429) ((Lg.mk x5 x16 x17) :: x6) x6 (Nat.beq (Nat.lor x16 x17) (nat_lit 0))) (Fr.mk x8 x1 x9 x10) (S.mk x14 x15 x18 x19))))))) x0))
theorem l539_eq : ∀ x0 x1 x2 x3 x4 x5 x6 x7 x8 x9 x10 x11 x12 x13 x14 x15 x16, (Eq (l539 x0 x1 x2 x3 x4 x5 x6 x7 x8 x9 x10 x11 x12 x13 x14 x15 x16) (@Option.rec t14 (λ_=>t151) none (λx17=>(k_fN_433 (Nat.lor x11 x15) (λx18=>(k_fN_433 (Nat.lor x12 x16) (λx19=>(x6 x1 x2 x3 (Nat.add x4 (nat_lit 1)) x10 (@Bool.rec (λ_=>t1429) ((Lg.mk x4 x15 x16) :: x5) x5 (Nat.beq (Nat.lor x15 x16) (nat_lit 0))) (Fr.mk x7 x17 x8 x9) (S.mk x13 x14 x18 x19))))))) x0)) := by intro t; cases t <;> (intros; rfl)
abbrev t1467:=CV → t1453
abbrev t1468:=Nat → t1467
abbrev t1469:=Nat → t1468
abbrev t1470:=t1428 → t1469
abbrev t1471:=t164 → t1470
abbrev t1472:=t141 → t1471
abbrev t1473:=t14 → t1472
abbrev t1474:=Nat → t1473
abbrev t1475:=t1435 → t1474
abbrev t1476:=Oper → t1475
abbrev t1477:=t1429 → t1476
abbrev t1478:=Nat → t1477
abbrev t1479:=t161 → t1478
abbrev t1480:=Run → t1479
abbrev t1481:=Program → t1480
abbrev t1482:=Bool → t1481
def l540 : t1482 := (λx0=>(@Bool.rec (λ_=>t1481) (λ_ _ _ _ _ _ _ _ _ _ _ _ _ _ _ _ _ _ _=>none) (λx1 x2 x3 x4 x5 x6 x7 x8 x9 x10 x11 x12 x13 x14 x15 x16 x17 x18 x19=>(l539 (k_putE x8 (Oper.dst x6) x15 x9) x1 x2 x3 x4 x5 x7 x8 x10 x11 x12 x13 x14 x16 x17 x18 x19)) x0))
theorem l540_eq : ∀ x0 x1 x2 x3 x4 x5 x6 x7 x8 x9 x10 x11 x12 x13 x14 x15 x16 x17 x18 x19, (Eq (l540 x0 x1 x2 x3 x4 x5 x6 x7 x8 x9 x10 x11 x12 x13 x14 x15 x16 x17 x18 x19) (@Bool.rec (λ_=>t151) none (l539 (k_putE x8 (Oper.dst x6) x15 x9) x1 x2 x3 x4 x5 x7 x8 x10 x11 x12 x13 x14 x16 x17 x18 x19) x0)) := by intro t; cases t <;> (intros; rfl)
abbrev t1483:=Nat → t163
abbrev t1484:=t1483 → Bool
abbrev t1485:=Nat → t1484
abbrev t1486:=Nat → t1485
abbrev t1487:=Nat → t1486
abbrev t1488:=Lg → t1487
def l542 : t1488 := (λx0=>(@Lg.rec (λ_=>t1487) (λx1 x2 x3 x4 x5 x6 x7=>(@Bool.rec (λ_=>Bool) Bool.false (x7 x4 x5 x6) (@Bool.rec (λ_=>Bool) (@Bool.rec (λ_=>Bool) Bool.false (Nat.beq (Nat.land x5 x3) (nat_lit 0)) (Nat.beq (Nat.land x6 (Nat.lor x2 x3)) (nat_lit 0))) Bool.true (Nat.testBit x4 x1)))) x0))
theorem l542_eq : ∀ x0 x1 x2 x3 x4, (Eq (l542 x0 x1 x2 x3 x4) (@Lg.rec (λ_=>Bool) (λx5 x6 x7=>(@Bool.rec (λ_=>Bool) Bool.false (x4 x1 x2 x3) (@Bool.rec (λ_=>Bool) (@Bool.rec (λ_=>Bool) Bool.false (Nat.beq (Nat.land x2 x7) (nat_lit 0)) (Nat.beq (Nat.land x3 (Nat.lor x6 x7)) (nat_lit 0))) Bool.true (Nat.testBit x1 x5)))) x0)) := by intro t; cases t <;> (intros; rfl)
abbrev t1489:=t1429 → Bool
abbrev t1490:=Nat → t1489
abbrev t1491:=Nat → t1490
abbrev t1492:=Nat → t1491
def k_apart : t1492 := (λx0 x1 x2 x3=>(@List.rec Lg (λ_=>t1483) (λ_ _ _=>Bool.true) (λx4 _ x6 x7 x8 x9=>(l542 x4 x7 x8 x9 x6)) x3 x0 x1 x2))
theorem k_apart_law : ∀ x0 x1 x2 x3, (Eq (k_apart x1 x2 x3 x0) (apart x1 x2 x3 x0)) := by
  intro t
  induction t with
  | nil  =>
    intro z0 z1 z2
    show ((fun (_ : Nat) (_ : Nat) (_ : Nat) => Bool.true) z0 z1 z2) = _
    conv => rhs; rw [Ev.apart.eq_def]
    all_goals kernel_rfl
  | cons y0 y1 ih0 =>
    intro z0 z1 z2
    have e0 : (fun (x0 : Nat) (x1 : Nat) (x2 : Nat) => (k_apart x0 x1 x2 y1)) = (fun (x0 : Nat) (x1 : Nat) (x2 : Nat) => (apart x0 x1 x2 y1)) := by
      funext z0 z1 z2; exact ih0 z0 z1 z2
    show ((fun (x0 : Lg) (_ : t1429) (x2 : t1483) (x3 : Nat) (x4 : Nat) (x5 : Nat) => (l542 x0 x3 x4 x5 x2)) y0 y1 (fun (x0 : Nat) (x1 : Nat) (x2 : Nat) => (k_apart x0 x1 x2 y1)) z0 z1 z2) = _
    rw [e0]
    conv => rhs; rw [Ev.apart.eq_def]
    try simp only [l542_eq]
    all_goals kernel_rfl
theorem k_apart_eq : @k_apart = apart := by
  funext a0 a1 a2 a3; exact k_apart_law a3 a0 a1 a2
abbrev t1493:=CV → t151
abbrev t1494:=Nat → t1493
abbrev t1495:=Nat → t1494
abbrev t1496:=t1428 → t1495
abbrev t1497:=Nat → t1496
abbrev t1498:=t164 → t1497
abbrev t1499:=t141 → t1498
abbrev t1500:=t14 → t1499
abbrev t1501:=Nat → t1500
abbrev t1502:=t1435 → t1501
abbrev t1503:=Oper → t1502
abbrev t1504:=t1429 → t1503
abbrev t1505:=Nat → t1504
abbrev t1506:=t161 → t1505
abbrev t1507:=Run → t1506
abbrev t1508:=Program → t1507
abbrev t1509:=S → t1508
def l541 : t1509 := (λx0=>(@S.rec (λ_=>t1508) (λx1 x2 x3 x4 x5 x6 x7 x8 x9 x10 x11 x12 x13 x14 x15 x16 x17 x18 x19 x20=>(l540 (k_apart x16 x3 x4 x9) x5 x6 x7 x8 x9 x10 x11 x12 x13 x14 x15 x17 x18 x19 x20 x1 x2 x3 x4)) x0))
theorem l541_eq : ∀ x0 x1 x2 x3 x4 x5 x6 x7 x8 x9 x10 x11 x12 x13 x14 x15 x16, (Eq (l541 x0 x1 x2 x3 x4 x5 x6 x7 x8 x9 x10 x11 x12 x13 x14 x15 x16) (@S.rec (λ_=>t151) (λx17 x18 x19 x20=>(l540 (k_apart x12 x19 x20 x5) x1 x2 x3 x4 x5 x6 x7 x8 x9 x10 x11 x13 x14 x15 x16 x17 x18 x19 x20)) x0)) := by intro t; cases t <;> (intros; rfl)
abbrev t1510:=t164 → t1467
abbrev t1511:=t141 → t1510
abbrev t1512:=Nat → t1511
abbrev t1513:=t165 → t1512
def l543 : t1513 := (λx0=>(@Option.rec t14 (λ_=>t1512) (λ_ _ _ _ _ _ _ _=>none) (λx1 x2 x3 x4 x5 x6 x7 x8 x9=>(some ((Ex.pan x5), ((Fr.mk x2 x1 x3 x4), (S.mk x6 x7 x9 x8))))) x0))
theorem l543_eq : ∀ x0 x1 x2 x3 x4 x5 x6 x7 x8, (Eq (l543 x0 x1 x2 x3 x4 x5 x6 x7 x8) (@methV._sparseCasesOn_2 t14 (λ_=>t151) x0 (λx9=>(some ((Ex.pan x4), ((Fr.mk x1 x9 x2 x3), (S.mk x5 x6 x8 x7))))) (λ_=>none))) := by intro t; cases t <;> (intros; rfl)
abbrev t1514:=Option Tmp
abbrev t1515:=t161 → t166
def k_wipe : t1515 := (λx0 x1=>(@List.rec Oper (λ_=>t166) (λx2=>(some x2)) (λx2 _ x4 x5=>(@Option.rec Tmp (λ_=>t165) (x4 x5) (λx6=>(@Option.rec t14 (λ_=>t165) none (λx7=>(x4 x7)) (setCV (nat_lit 24) x5 x6 none))) (Oper.dst x2))) x0 x1))
theorem k_wipe_law : ∀ x0 x1, (Eq (k_wipe x0 x1) (wipe x0 x1)) := by
  intro t
  induction t with
  | nil  =>
    intro z0
    show ((fun (x0 : t14) => (some x0)) z0) = _
    conv => rhs; rw [Ev.wipe.eq_def]
    all_goals kernel_rfl
  | cons y0 y1 ih0 =>
    intro z0
    have e0 : (fun (x0 : t14) => (k_wipe y1 x0)) = (fun (x0 : t14) => (wipe y1 x0)) := by
      funext z0; exact ih0 z0
    show ((fun (x0 : Oper) (_ : t161) (x2 : t166) (x3 : t14) => (@Option.rec Tmp (fun (_ : t1514) => t165) (x2 x3) (fun (x4 : Tmp) => (@Option.rec t14 (fun (_ : t165) => t165) none (fun (x5 : t14) => (x2 x5)) (setCV (nat_lit 24) x3 x4 none))) (Oper.dst x0))) y0 y1 (fun (x0 : t14) => (k_wipe y1 x0)) z0) = _
    rw [e0]
    conv => rhs; rw [Ev.wipe.eq_def]
    try rw [setCV_eq]
    all_goals kernel_rfl
theorem k_wipe_eq : @k_wipe = wipe := by
  funext a0 a1; exact k_wipe_law a0 a1
abbrev t1516:=t46 → t1451
abbrev t1517:=CV → t1516
abbrev t1518:=t164 → t1517
abbrev t1519:=t141 → t1518
abbrev t1520:=t14 → t1519
abbrev t1521:=Nat → t1520
abbrev t1522:=t161 → t1521
abbrev t1523:=t164 → t1522
def l544 : t1523 := (λx0=>(@Option.rec Nat (λ_=>t1522) (λ_ _ _ _ _ _ _ _ _=>none) (λx1 x2 x3 x4 x5 x6 x7 x8 x9 x10=>(l543 (k_wipe x2 x4) x3 x5 x6 x7 x8 x9 x10 x1)) x0))
theorem l544_eq : ∀ x0 x1 x2 x3 x4 x5 x6 x7 x8 x9, (Eq (l544 x0 x1 x2 x3 x4 x5 x6 x7 x8 x9) (@methV._sparseCasesOn_2 Nat (λ_=>t151) x0 (λx10=>(l543 (k_wipe x1 x3) x2 x4 x5 x6 x7 x8 x9 x10)) (λ_=>none))) := by intro t; cases t <;> (intros; rfl)
abbrev t1524:=Nat → t164
abbrev t1525:=t1524 → t164
abbrev t1526:=Nat → t1525
def k_fN_Nat : t1526 := (λx0 x1=>(@Nat.rec (λ_=>t164) (x1 (nat_lit 0)) (λx2 _=>((λx4=>(x1 (Nat.add x4 (nat_lit 1)))) x2)) x0))
theorem k_fN_Nat_eq : @k_fN_Nat = (@fN Nat) := by
  delta k_fN_Nat fN
  all_goals kernel_rfl

abbrev t1527:=S → t164
abbrev t1528:=t14 → t1527
abbrev t1529:=Nat → t1528
abbrev t1530:=t1429 → t1529
abbrev t1531:=t1428 → t1530
abbrev t1532:=Nat → t1531
abbrev t1533:=Nat → t1532
abbrev t1534:=t161 → t1533
abbrev t1535:=Run → t1534
abbrev t1536:=Program → t1535
abbrev t1537:=Nat → t1524
abbrev t1538:=Nat → t1537
abbrev t1539:=Nat → t1538
abbrev t1540:=Nat → t1539
abbrev t1541:=t46 → t1540
abbrev t1542:=t1428 → t1541
abbrev t1543:=t1536 → t1542
abbrev t1544:=Nat → t1543
abbrev t1545:=t1429 → t1544
abbrev t1546:=Nat → t1545
abbrev t1547:=Nat → t1546
abbrev t1548:=t161 → t1547
abbrev t1549:=Run → t1548
abbrev t1550:=Program → t1549
abbrev t1551:=t165 → t1550
def l546 : t1551 := (λx0=>(@Option.rec t14 (λ_=>t1550) (λ_ _ _ _ _ _ _ _ _ _ _ _ _ _ _=>none) (λx1 x2 x3 x4 x5 x6 x7 x8 x9 x10 x11 x12 x13 x14 x15 x16=>(k_fN_Nat (Nat.lor x13 x15) (λx17=>(x9 x2 x3 x4 x5 (Nat.add x6 (nat_lit 1)) x10 (@Bool.rec (λ_=>t1429) ((Lg.mk x6 x15 x16) :: x7) x7 (Nat.beq x15 (nat_lit 0))) x8 x1 (S.mk x11 x12 x17 x14))))) x0))
theorem l546_eq : ∀ x0 x1 x2 x3 x4 x5 x6 x7 x8 x9 x10 x11 x12 x13 x14 x15, (Eq (l546 x0 x1 x2 x3 x4 x5 x6 x7 x8 x9 x10 x11 x12 x13 x14 x15) (@Option.rec t14 (λ_=>t164) none (λx16=>(k_fN_Nat (Nat.lor x12 x14) (λx17=>(x8 x1 x2 x3 x4 (Nat.add x5 (nat_lit 1)) x9 (@Bool.rec (λ_=>t1429) ((Lg.mk x5 x14 x15) :: x6) x6 (Nat.beq x14 (nat_lit 0))) x7 x16 (S.mk x10 x11 x17 x13))))) x0)) := by intro t; cases t <;> (intros; rfl)
abbrev t1552:=CV → t1537
abbrev t1553:=Nat → t1552
abbrev t1554:=Nat → t1553
abbrev t1555:=Nat → t1554
abbrev t1556:=t46 → t1555
abbrev t1557:=t1428 → t1556
abbrev t1558:=t1536 → t1557
abbrev t1559:=Oper → t1558
abbrev t1560:=t14 → t1559
abbrev t1561:=Nat → t1560
abbrev t1562:=t1429 → t1561
abbrev t1563:=Nat → t1562
abbrev t1564:=Nat → t1563
abbrev t1565:=t161 → t1564
abbrev t1566:=Run → t1565
abbrev t1567:=Program → t1566
abbrev t1568:=Bool → t1567
def l547 : t1568 := (λx0=>(@Bool.rec (λ_=>t1567) (λ_ _ _ _ _ _ _ _ _ _ _ _ _ _ _ _ _ _=>none) (λx1 x2 x3 x4 x5 x6 x7 x8 x9 x10 x11 x12 x13 x14 x15 x16 x17 x18=>(l546 (k_putE x7 (Oper.dst x9) x16 x8) x1 x2 x3 x4 x5 x6 x7 x10 x11 x12 x13 x14 x15 x17 x18)) x0))
theorem l547_eq : ∀ x0 x1 x2 x3 x4 x5 x6 x7 x8 x9 x10 x11 x12 x13 x14 x15 x16 x17 x18, (Eq (l547 x0 x1 x2 x3 x4 x5 x6 x7 x8 x9 x10 x11 x12 x13 x14 x15 x16 x17 x18) (@Bool.rec (λ_=>t164) none (l546 (k_putE x7 (Oper.dst x9) x16 x8) x1 x2 x3 x4 x5 x6 x7 x10 x11 x12 x13 x14 x15 x17 x18) x0)) := by intro t; cases t <;> (intros; rfl)
abbrev t1569:=Nat → t723
abbrev t1570:=Nat → t1569
abbrev t1571:=Nat → t1570
abbrev t1572:=t46 → t1571
abbrev t1573:=t1428 → t1572
abbrev t1574:=Nat → t1573
abbrev t1575:=t1536 → t1574
abbrev t1576:=Oper → t1575
abbrev t1577:=t14 → t1576
abbrev t1578:=Nat → t1577
abbrev t1579:=t1429 → t1578
abbrev t1580:=Nat → t1579
abbrev t1581:=Nat → t1580
abbrev t1582:=t161 → t1581
abbrev t1583:=Run → t1582
abbrev t1584:=Program → t1583
abbrev t1585:=S → t1584
def l548 : t1585 := (λx0=>(@S.rec (λ_=>t1584) (λ_ x2 x3 x4 x5 x6 x7 x8 x9 x10 x11 x12 x13 x14 x15 x16 x17 x18 x19 x20 x21=>(l547 (@Bool.rec (λ_=>Bool) Bool.false (Nat.beq x18 x2) (@Bool.rec (λ_=>Bool) Bool.false (Nat.beq x4 (nat_lit 0)) (k_apart x15 x3 x4 x10))) x5 x6 x7 x8 x9 x10 x11 x12 x13 x14 x16 x17 x18 x19 x20 x21 x3 x4)) x0))
theorem l548_eq : ∀ x0 x1 x2 x3 x4 x5 x6 x7 x8 x9 x10 x11 x12 x13 x14 x15 x16 x17, (Eq (l548 x0 x1 x2 x3 x4 x5 x6 x7 x8 x9 x10 x11 x12 x13 x14 x15 x16 x17) (@S.rec (λ_=>t164) (λ_ x19 x20 x21=>(l547 (@Bool.rec (λ_=>Bool) Bool.false (Nat.beq x14 x19) (@Bool.rec (λ_=>Bool) Bool.false (Nat.beq x21 (nat_lit 0)) (k_apart x11 x20 x21 x6))) x1 x2 x3 x4 x5 x6 x7 x8 x9 x10 x12 x13 x14 x15 x16 x17 x20 x21)) x0)) := by intro t; cases t <;> (intros; rfl)
abbrev t1586:=t46 → t1538
abbrev t1587:=t1428 → t1586
abbrev t1588:=Nat → t1587
abbrev t1589:=t1536 → t1588
abbrev t1590:=Oper → t1589
abbrev t1591:=t14 → t1590
abbrev t1592:=Nat → t1591
abbrev t1593:=t1429 → t1592
abbrev t1594:=Nat → t1593
abbrev t1595:=Nat → t1594
abbrev t1596:=t161 → t1595
abbrev t1597:=Run → t1596
abbrev t1598:=Program → t1597
abbrev t1599:=Ret → t1598
def l549 : t1599 := (λx0=>(@Ret.rec (λ_=>t1598) (λx1 x2 x3 x4 x5 x6 x7 x8 x9 x10 x11 x12 x13 x14 x15 x16 x17 x18=>(l548 x2 x3 x4 x5 x6 x7 x8 x9 x10 x11 x12 x13 x14 x15 x16 x17 x18 x1)) (λ_ _ _ _ _ _ _ _ _ _ _ _ _ _ _ _ _ _=>none) x0))
theorem l549_eq : ∀ x0 x1 x2 x3 x4 x5 x6 x7 x8 x9 x10 x11 x12 x13 x14 x15 x16, (Eq (l549 x0 x1 x2 x3 x4 x5 x6 x7 x8 x9 x10 x11 x12 x13 x14 x15 x16) (@regP._sparseCasesOn_2 (λ_=>t164) x0 (λx17 x18=>(l548 x18 x1 x2 x3 x4 x5 x6 x7 x8 x9 x10 x11 x12 x13 x14 x15 x16 x17)) (λ_=>none))) := by intro t; cases t <;> (intros; rfl)
abbrev t1600:=t4 → t1598
def l550 : t1600 := (λx0=>(@Option.rec Ret (λ_=>t1598) (λ_ _ _ _ _ _ _ _ _ _ _ _ _ _ _ _=>none) (λx1 x2 x3 x4 x5 x6 x7 x8 x9 x10 x11 x12 x13 x14 x15 x16 x17=>(l549 x1 x2 x3 x4 x5 x6 x7 x8 x9 x10 x11 x12 x13 x14 x15 x16 x17)) x0))
theorem l550_eq : ∀ x0 x1 x2 x3 x4 x5 x6 x7 x8 x9 x10 x11 x12 x13 x14 x15 x16, (Eq (l550 x0 x1 x2 x3 x4 x5 x6 x7 x8 x9 x10 x11 x12 x13 x14 x15 x16) (@methV._sparseCasesOn_2 Ret (λ_=>t164) x0 (λx17=>(l549 x17 x1 x2 x3 x4 x5 x6 x7 x8 x9 x10 x11 x12 x13 x14 x15 x16)) (λ_=>none))) := by intro t; cases t <;> (intros; rfl)
abbrev t1601:=t1428 → t164
abbrev t1602:=Nat → t1601
abbrev t1603:=t1536 → t1602
abbrev t1604:=Oper → t1603
abbrev t1605:=t14 → t1604
abbrev t1606:=Nat → t1605
abbrev t1607:=t1429 → t1606
abbrev t1608:=Nat → t1607
abbrev t1609:=Nat → t1608
abbrev t1610:=t161 → t1609
abbrev t1611:=Run → t1610
abbrev t1612:=Program → t1611
abbrev t1613:=S → t1612
def l551 : t1613 := (λx0=>(@S.rec (λ_=>t1612) (λx1 x2 x3 x4 x5 x6 x7 x8 x9 x10 x11 x12 x13 x14 x15 x16=>(l550 (k_stepOp' x5 x6 x12 x13 (S.mk x1 x2 (nat_lit 0) (nat_lit 0))) x5 x6 x7 x8 x9 x10 x11 x12 x13 x14 x15 x16 x1 x2 x3 x4)) x0))
theorem l551_eq : ∀ x0 x1 x2 x3 x4 x5 x6 x7 x8 x9 x10 x11 x12, (Eq (l551 x0 x1 x2 x3 x4 x5 x6 x7 x8 x9 x10 x11 x12) (@S.rec (λ_=>t164) (λx13 x14 x15 x16=>(l550 (k_stepOp' x1 x2 x8 x9 (S.mk x13 x14 (nat_lit 0) (nat_lit 0))) x1 x2 x3 x4 x5 x6 x7 x8 x9 x10 x11 x12 x13 x14 x15 x16)) x0)) := by intro t; cases t <;> (intros; rfl)
def l553 : t1210 := (λx0=>(@Op.rec (λ_=>Bool) (λ_=>Bool.false) (λ_=>Bool.false) (λ_ _ _=>Bool.false) (λ_=>Bool.false) (λ_ _=>Bool.false) (λ_ _=>Bool.false) (λ_ _ _=>Bool.false) (λ_ _ _ _=>Bool.false) (λ_ _=>Bool.false) (λ_ _ _=>Bool.false) (λ_=>Bool.false) (λ_=>Bool.false) (λ_=>Bool.false) (λ_ _ _ _ _=>Bool.false) (λ_ _ _=>Bool.false) (λ_ _ _=>Bool.false) (λ_ _=>Bool.false) (λ_ _=>Bool.false) (λ_ _ _=>Bool.false) (λ_ _=>Bool.false) (λ_ _=>Bool.false) (λ_ _ _=>Bool.false) (λ_ _ _ _ _=>Bool.false) (λ_ _ _=>Bool.false) (λ_ _ _=>Bool.false) (λ_ _ _=>Bool.false) (λ_ _ _=>Bool.false) (λ_ _ _ _=>Bool.false) (λ_ _ _ _=>Bool.false) (λ_ _ _=>Bool.false) (λ_ _ _ _=>Bool.false) (λ_ _=>Bool.false) (λ_ _=>Bool.false) (λ_=>Bool.false) (λ_ _ _ _=>Bool.false) (λ_ _=>Bool.false) (λ_=>Bool.false) (λ_=>Bool.false) (λ_=>Bool.true) (λ_=>Bool.false) (λ_ _=>Bool.false) (λ_ _ _=>Bool.false) (λ_ _=>Bool.false) x0))
theorem l553_eq : ∀ x0, (Eq (l553 x0) (@regS._sparseCasesOn_5 (λ_=>Bool) x0 (λ_=>Bool.true) (λ_=>Bool.false))) := by intro t; cases t <;> (intros; rfl)
def k_isDefer : t1210 := (λx0=>(l553 x0))
theorem k_isDefer_eq : @k_isDefer = isDefer := by
  delta k_isDefer isDefer
  simp only [l553_eq]
  all_goals kernel_rfl

abbrev t1614:=t1428 → t1524
abbrev t1615:=t1536 → t1614
abbrev t1616:=Oper → t1615
abbrev t1617:=S → t1616
abbrev t1618:=t14 → t1617
abbrev t1619:=Nat → t1618
abbrev t1620:=t1429 → t1619
abbrev t1621:=Nat → t1620
abbrev t1622:=Nat → t1621
abbrev t1623:=t161 → t1622
abbrev t1624:=Run → t1623
abbrev t1625:=Program → t1624
abbrev t1626:=Bool → t1625
def l552 : t1626 := (λx0=>(@Bool.rec (λ_=>t1625) (λx1 x2 x3 x4 x5 x6 x7 x8 x9 x10 x11 x12 _=>(@Option.rec t14 (λ_=>t164) none (λx14=>(x11 x1 x2 x3 x4 (Nat.add x5 (nat_lit 1)) x12 x6 x7 x14 x9)) (k_putE x7 (Oper.dst x10) (CV.tup []) x8))) (λx1 x2 x3 x4 x5 x6 x7 x8 x9 x10 x11 x12 x13=>(@Bool.rec (λ_=>t164) (l551 x9 x1 x2 x3 x4 x5 x6 x7 x8 x10 x11 x13 x12) none (k_isDefer (Oper.op x10)))) x0))
theorem l552_eq : ∀ x0 x1 x2 x3 x4 x5 x6 x7 x8 x9 x10 x11 x12 x13, (Eq (l552 x0 x1 x2 x3 x4 x5 x6 x7 x8 x9 x10 x11 x12 x13) (@Bool.rec (λ_=>t164) (@Option.rec t14 (λ_=>t164) none (λx14=>(x11 x1 x2 x3 x4 (Nat.add x5 (nat_lit 1)) x12 x6 x7 x14 x9)) (k_putE x7 (Oper.dst x10) (CV.tup []) x8)) (@Bool.rec (λ_=>t164) (l551 x9 x1 x2 x3 x4 x5 x6 x7 x8 x10 x11 x13 x12) none (k_isDefer (Oper.op x10))) x0)) := by intro t; cases t <;> (intros; rfl)
abbrev t1627:=S → t1604
abbrev t1628:=t14 → t1627
abbrev t1629:=Nat → t1628
abbrev t1630:=t1429 → t1629
abbrev t1631:=Nat → t1630
abbrev t1632:=Nat → t1631
abbrev t1633:=t161 → t1632
abbrev t1634:=Run → t1633
abbrev t1635:=Program → t1634
abbrev t1636:=t369 → t1635
def l554 : t1636 := (λx0=>(@Option.rec Bool (λ_=>t1635) (λ_ _ _ _ _ _ _ _ _ _ _ _ _=>none) (λx1 x2 x3 x4 x5 x6 x7 x8 x9 x10 x11 x12 x13 x14=>(l552 x1 x2 x3 x4 x5 x6 x7 x8 x9 x10 x11 x12 x14 x13)) x0))
theorem l554_eq : ∀ x0 x1 x2 x3 x4 x5 x6 x7 x8 x9 x10 x11 x12 x13, (Eq (l554 x0 x1 x2 x3 x4 x5 x6 x7 x8 x9 x10 x11 x12 x13) (@Option.rec Bool (λ_=>t164) none (λx14=>(l552 x14 x1 x2 x3 x4 x5 x6 x7 x8 x9 x10 x11 x13 x12)) x0)) := by intro t; cases t <;> (intros; rfl)
abbrev t1637:=Bool → t1635
def l555 : t1637 := (λx0=>(@Bool.rec (λ_=>t1635) (λx1 x2 x3 x4 x5 x6 x7 x8 x9 x10 x11 x12 x13=>(l554 (k_guardV x3 x8 x10) x1 x2 x3 x4 x5 x6 x7 x8 x9 x10 x11 x12 x13)) (λx1 x2 x3 x4 x5 x6 x7 x8 x9 _ x11 _ x13=>(x11 x1 x2 x3 x4 (Nat.add x5 (nat_lit 1)) x13 x6 x7 x8 x9)) x0))
theorem l555_eq : ∀ x0 x1 x2 x3 x4 x5 x6 x7 x8 x9 x10 x11 x12 x13, (Eq (l555 x0 x1 x2 x3 x4 x5 x6 x7 x8 x9 x10 x11 x12 x13) (@Bool.rec (λ_=>t164) (l554 (k_guardV x3 x8 x10) x1 x2 x3 x4 x5 x6 x7 x8 x9 x10 x11 x12 x13) (x11 x1 x2 x3 x4 (Nat.add x5 (nat_lit 1)) x13 x6 x7 x8 x9) x0)) := by intro t; cases t <;> (intros; rfl)
abbrev t1638:=t1536 → t164
abbrev t1639:=Oper → t1638
abbrev t1640:=S → t1639
abbrev t1641:=t14 → t1640
abbrev t1642:=Nat → t1641
abbrev t1643:=t1429 → t1642
abbrev t1644:=Nat → t1643
abbrev t1645:=Nat → t1644
abbrev t1646:=t161 → t1645
abbrev t1647:=Run → t1646
abbrev t1648:=Program → t1647
abbrev t1649:=t1428 → t1648
def l556 : t1649 := (λx0=>(@List.rec Nat (λ_=>t1648) (λ_ _ _ _ _ _ _ _ _ _ _=>none) (λx1 x2 _ x4 x5 x6 x7 x8 x9 x10 x11 x12 x13 x14=>(l555 (Nat.testBit x1 x7) x4 x5 x6 x7 x8 x9 x10 x11 x12 x13 x14 x1 x2)) x0))
theorem l556_eq : ∀ x0 x1 x2 x3 x4 x5 x6 x7 x8 x9 x10 x11, (Eq (l556 x0 x1 x2 x3 x4 x5 x6 x7 x8 x9 x10 x11) (@List.rec Nat (λ_=>t164) none (λx12 x13 _=>(l555 (Nat.testBit x12 x4) x1 x2 x3 x4 x5 x6 x7 x8 x9 x10 x11 x12 x13)) x0)) := by intro t; cases t <;> (intros; rfl)
abbrev t1650:=t161 → t1532
abbrev t1651:=Nat → t1650
abbrev t1652:=t161 → t1651
abbrev t1653:=Run → t1652
abbrev t1654:=Program → t1653
def k_regP : t1654 := (λx0 x1 x2 x3 x4 x5 x6 x7 x8 x9 x10=>(@List.rec Oper (λ_=>t1536) (λ_ _ _ _ _ _ _ _ _ x20=>(@S.rec (λ_=>t164) (λ_ _ x23 _=>(some x23)) x20)) (λx11 _ x13 x14 x15 x16 x17 x18 x19 x20 x21 x22 x23=>(l556 x19 x14 x15 x16 x17 x18 x20 x21 x22 x23 x11 x13)) x4 x0 x1 x2 x3 x5 x6 x7 x8 x9 x10))
theorem k_regP_law : ∀ x0 x1 x2 x3 x4 x5 x6 x7 x8 x9 x10, (Eq (k_regP x1 x2 x3 x4 x0 x5 x6 x7 x8 x9 x10) (regP x1 x2 x3 x4 x0 x5 x6 x7 x8 x9 x10)) := by
  intro t
  induction t with
  | nil  =>
    intro z0 z1 z2 z3 z4 z5 z6 z7 z8 z9
    show ((fun (_ : Program) (_ : Run) (_ : t161) (_ : Nat) (_ : Nat) (_ : t1428) (_ : t1429) (_ : Nat) (_ : t14) (x9 : S) => (@S.rec (fun (_ : S) => t164) (fun (_ : t46) (_ : Nat) (x12 : Nat) (_ : Nat) => (some x12)) x9)) z0 z1 z2 z3 z4 z5 z6 z7 z8 z9) = _
    conv => rhs; rw [Ev.regP.eq_def]
    all_goals kernel_rfl
  | cons y0 y1 ih0 =>
    intro z0 z1 z2 z3 z4 z5 z6 z7 z8 z9
    have e0 : (fun (x0 : Program) (x1 : Run) (x2 : t161) (x3 : Nat) (x4 : Nat) (x5 : t1428) (x6 : t1429) (x7 : Nat) (x8 : t14) (x9 : S) => (k_regP x0 x1 x2 x3 y1 x4 x5 x6 x7 x8 x9)) = (fun (x0 : Program) (x1 : Run) (x2 : t161) (x3 : Nat) (x4 : Nat) (x5 : t1428) (x6 : t1429) (x7 : Nat) (x8 : t14) (x9 : S) => (regP x0 x1 x2 x3 y1 x4 x5 x6 x7 x8 x9)) := by
      funext z0 z1 z2 z3 z4 z5 z6 z7 z8 z9; exact ih0 z0 z1 z2 z3 z4 z5 z6 z7 z8 z9
    show ((fun (x0 : Oper) (_ : t161) (x2 : t1536) (x3 : Program) (x4 : Run) (x5 : t161) (x6 : Nat) (x7 : Nat) (x8 : t1428) (x9 : t1429) (x10 : Nat) (x11 : t14) (x12 : S) => (l556 x8 x3 x4 x5 x6 x7 x9 x10 x11 x12 x0 x2)) y0 y1 (fun (x0 : Program) (x1 : Run) (x2 : t161) (x3 : Nat) (x4 : Nat) (x5 : t1428) (x6 : t1429) (x7 : Nat) (x8 : t14) (x9 : S) => (k_regP x0 x1 x2 x3 y1 x4 x5 x6 x7 x8 x9)) z0 z1 z2 z3 z4 z5 z6 z7 z8 z9) = _
    rw [e0]
    conv => rhs; rw [Ev.regP.eq_def]
    try simp only [l551_eq, l555_eq, l556_eq, l552_eq, l554_eq, l547_eq, l550_eq, l548_eq, l549_eq, l546_eq]
    try rw [k_fN_Nat_eq]
    try rw [k_putE_eq]
    try rw [k_apart_eq]
    try rw [k_stepOp_eq]
    try rw [k_isDefer_eq]
    try rw [k_guardV_eq]
    all_goals kernel_rfl
theorem k_regP_eq : @k_regP = regP := by
  funext a0 a1 a2 a3 a4 a5 a6 a7 a8 a9 a10; exact k_regP_law a4 a0 a1 a2 a3 a5 a6 a7 a8 a9 a10
abbrev t1655:=Nat → t1469
abbrev t1656:=t46 → t1655
abbrev t1657:=t1428 → t1656
abbrev t1658:=t164 → t1657
abbrev t1659:=t141 → t1658
abbrev t1660:=t14 → t1659
abbrev t1661:=Nat → t1660
abbrev t1662:=t161 → t1661
abbrev t1663:=t1429 → t1662
abbrev t1664:=Nat → t1663
abbrev t1665:=t161 → t1664
abbrev t1666:=Run → t1665
abbrev t1667:=Program → t1666
abbrev t1668:=Bool → t1667
def l545 : t1668 := (λx0=>(@Bool.rec (λ_=>t1667) (λ_ _ _ _ _ _ _ _ _ _ _ _ _ _ _ _ _ _ _ _=>none) (λx1 x2 x3 x4 x5 x6 x7 x8 x9 x10 x11 x12 x13 x14 x15 x16 x17 x18 x19 x20=>(k_fN_433 (Nat.lor x14 x19) (λx21=>(k_fN_433 (Nat.lor x15 x20) (λx22=>(l544 (k_regP x1 x2 x3 x4 x6 (Nat.add x4 (nat_lit 1)) x11 ((Lg.mk x4 x19 x20) :: x5) x7 x8 (S.mk x12 x13 x21 x15)) x3 x7 x8 x9 x10 x16 x17 x18 x22)))))) x0))
theorem l545_eq : ∀ x0 x1 x2 x3 x4 x5 x6 x7 x8 x9 x10 x11 x12 x13 x14 x15 x16 x17 x18 x19 x20, (Eq (l545 x0 x1 x2 x3 x4 x5 x6 x7 x8 x9 x10 x11 x12 x13 x14 x15 x16 x17 x18 x19 x20) (@Bool.rec (λ_=>t151) none (k_fN_433 (Nat.lor x14 x19) (λx21=>(k_fN_433 (Nat.lor x15 x20) (λx22=>(l544 (k_regP x1 x2 x3 x4 x6 (Nat.add x4 (nat_lit 1)) x11 ((Lg.mk x4 x19 x20) :: x5) x7 x8 (S.mk x12 x13 x21 x15)) x3 x7 x8 x9 x10 x16 x17 x18 x22))))) x0)) := by intro t; cases t <;> (intros; rfl)
def k_idle : t1490 := (λx0 x1=>(@List.rec Lg (λ_=>t162) (λ_=>Bool.true) (λx2 _ x4 x5=>(@Lg.rec (λ_=>Bool) (λx6 _ x8=>(@Bool.rec (λ_=>Bool) Bool.false (x4 x5) (@Bool.rec (λ_=>Bool) (Nat.beq x8 (nat_lit 0)) Bool.true (Nat.testBit x5 x6)))) x2)) x1 x0))
theorem k_idle_law : ∀ x0 x1, (Eq (k_idle x1 x0) (idle x1 x0)) := by
  intro t
  induction t with
  | nil  =>
    intro z0
    show ((fun (_ : Nat) => Bool.true) z0) = _
    conv => rhs; rw [Ev.idle.eq_def]
    all_goals kernel_rfl
  | cons y0 y1 ih0 =>
    intro z0
    have e0 : (fun (x0 : Nat) => (k_idle x0 y1)) = (fun (x0 : Nat) => (idle x0 y1)) := by
      funext z0; exact ih0 z0
    show ((fun (x0 : Lg) (_ : t1429) (x2 : t162) (x3 : Nat) => (@Lg.rec (fun (_ : Lg) => Bool) (fun (x4 : Nat) (_ : Nat) (x6 : Nat) => (@Bool.rec (fun (_ : Bool) => Bool) Bool.false (x2 x3) (@Bool.rec (fun (_ : Bool) => Bool) (Nat.beq x6 (nat_lit 0)) Bool.true (Nat.testBit x3 x4)))) x0)) y0 y1 (fun (x0 : Nat) => (k_idle x0 y1)) z0) = _
    rw [e0]
    conv => rhs; rw [Ev.idle.eq_def]
    all_goals kernel_rfl
theorem k_idle_eq : @k_idle = idle := by
  funext a0 a1; exact k_idle_law a1 a0
abbrev t1669:=Nat → t1495
abbrev t1670:=t46 → t1669
abbrev t1671:=t1428 → t1670
abbrev t1672:=Nat → t1671
abbrev t1673:=t164 → t1672
abbrev t1674:=t141 → t1673
abbrev t1675:=t14 → t1674
abbrev t1676:=Nat → t1675
abbrev t1677:=t161 → t1676
abbrev t1678:=t1429 → t1677
abbrev t1679:=Nat → t1678
abbrev t1680:=t161 → t1679
abbrev t1681:=Run → t1680
abbrev t1682:=Program → t1681
abbrev t1683:=S → t1682
def l557 : t1683 := (λx0=>(@S.rec (λ_=>t1682) (λx1 x2 x3 x4 x5 x6 x7 x8 x9 x10 x11 x12 x13 x14 x15 x16 x17 x18 x19 x20 x21=>(l545 (@Bool.rec (λ_=>Bool) Bool.false (k_idle x15 x9) (k_apart x15 x3 x4 x9)) x5 x6 x7 x8 x9 x10 x11 x12 x13 x14 x16 x17 x18 x19 x20 x21 x1 x2 x3 x4)) x0))
theorem l557_eq : ∀ x0 x1 x2 x3 x4 x5 x6 x7 x8 x9 x10 x11 x12 x13 x14 x15 x16 x17, (Eq (l557 x0 x1 x2 x3 x4 x5 x6 x7 x8 x9 x10 x11 x12 x13 x14 x15 x16 x17) (@S.rec (λ_=>t151) (λx18 x19 x20 x21=>(l545 (@Bool.rec (λ_=>Bool) Bool.false (k_idle x11 x5) (k_apart x11 x20 x21 x5)) x1 x2 x3 x4 x5 x6 x7 x8 x9 x10 x12 x13 x14 x15 x16 x17 x18 x19 x20 x21)) x0)) := by intro t; cases t <;> (intros; rfl)
abbrev t1684:=t46 → t1448
abbrev t1685:=t161 → t1684
abbrev t1686:=Nat → t1685
abbrev t1687:=Nat → t1686
abbrev t1688:=t1428 → t1687
abbrev t1689:=Nat → t1688
abbrev t1690:=t164 → t1689
abbrev t1691:=t141 → t1690
abbrev t1692:=t14 → t1691
abbrev t1693:=Nat → t1692
abbrev t1694:=t1435 → t1693
abbrev t1695:=Oper → t1694
abbrev t1696:=t1429 → t1695
abbrev t1697:=Nat → t1696
abbrev t1698:=t161 → t1697
abbrev t1699:=Run → t1698
abbrev t1700:=Program → t1699
abbrev t1701:=Ret → t1700
def l558 : t1701 := (λx0=>(@Ret.rec (λ_=>t1700) (λx1 x2 x3 x4 x5 x6 x7 x8 x9 x10 x11 x12 x13 x14 x15 x16 x17 _ _ _=>(l541 x2 x3 x4 x5 x6 x7 x8 x9 x10 x11 x12 x13 x14 x15 x16 x17 x1)) (λx1 x2 x3 x4 x5 x6 x7 _ _ x10 x11 x12 x13 x14 x15 x16 x17 x18 x19 x20=>(l557 x2 x3 x4 x5 x6 x7 x18 x10 x11 x12 x13 x14 x15 x19 x20 x16 x17 x1)) x0))
theorem l558_eq : ∀ x0 x1 x2 x3 x4 x5 x6 x7 x8 x9 x10 x11 x12 x13 x14 x15 x16 x17 x18, (Eq (l558 x0 x1 x2 x3 x4 x5 x6 x7 x8 x9 x10 x11 x12 x13 x14 x15 x16 x17 x18) (@Ret.rec (λ_=>t151) (λx19 x20=>(l541 x20 x1 x2 x3 x4 x5 x6 x7 x8 x9 x10 x11 x12 x13 x14 x15 x19)) (λx19 x20=>(l557 x20 x1 x2 x3 x4 x5 x16 x8 x9 x10 x11 x12 x13 x17 x18 x14 x15 x19)) x0)) := by intro t; cases t <;> (intros; rfl)
abbrev t1702:=t1428 → t1453
abbrev t1703:=Nat → t1702
abbrev t1704:=t164 → t1703
abbrev t1705:=t141 → t1704
abbrev t1706:=t14 → t1705
abbrev t1707:=Nat → t1706
abbrev t1708:=t1435 → t1707
abbrev t1709:=t161 → t1708
abbrev t1710:=Oper → t1709
abbrev t1711:=t1429 → t1710
abbrev t1712:=Nat → t1711
abbrev t1713:=t161 → t1712
abbrev t1714:=Run → t1713
abbrev t1715:=Program → t1714
abbrev t1716:=t4 → t1715
def l559 : t1716 := (λx0=>(@Option.rec Ret (λ_=>t1715) (λ_ _ _ _ _ _ _ _ _ _ _ _ _ _ _ _ _ _=>none) (λx1 x2 x3 x4 x5 x6 x7 x8 x9 x10 x11 x12 x13 x14 x15 x16 x17 x18 x19=>(l558 x1 x2 x3 x4 x5 x6 x7 x9 x10 x11 x12 x13 x14 x15 x18 x19 x8 x16 x17)) x0))
theorem l559_eq : ∀ x0 x1 x2 x3 x4 x5 x6 x7 x8 x9 x10 x11 x12 x13 x14 x15 x16 x17 x18, (Eq (l559 x0 x1 x2 x3 x4 x5 x6 x7 x8 x9 x10 x11 x12 x13 x14 x15 x16 x17 x18) (@methV._sparseCasesOn_2 Ret (λ_=>t151) x0 (λx19=>(l558 x19 x1 x2 x3 x4 x5 x6 x8 x9 x10 x11 x12 x13 x14 x17 x18 x7 x15 x16)) (λ_=>none))) := by intro t; cases t <;> (intros; rfl)
abbrev t1717:=Nat → t1436
abbrev t1718:=t164 → t1717
abbrev t1719:=t141 → t1718
abbrev t1720:=t14 → t1719
abbrev t1721:=Nat → t1720
abbrev t1722:=t1435 → t1721
abbrev t1723:=t161 → t1722
abbrev t1724:=Oper → t1723
abbrev t1725:=t1429 → t1724
abbrev t1726:=Nat → t1725
abbrev t1727:=t161 → t1726
abbrev t1728:=Run → t1727
abbrev t1729:=Program → t1728
abbrev t1730:=S → t1729
def l560 : t1730 := (λx0=>(@S.rec (λ_=>t1729) (λx1 x2 x3 x4 x5 x6 x7 x8 x9 x10 x11 x12 x13 x14 x15 x16 x17 x18=>(l559 (k_stepOp' x5 x6 x14 x10 (S.mk x1 x2 (nat_lit 0) (nat_lit 0))) x5 x6 x7 x8 x9 x10 x11 x12 x13 x14 x15 x16 x17 x18 x1 x2 x3 x4)) x0))
theorem l560_eq : ∀ x0 x1 x2 x3 x4 x5 x6 x7 x8 x9 x10 x11 x12 x13 x14, (Eq (l560 x0 x1 x2 x3 x4 x5 x6 x7 x8 x9 x10 x11 x12 x13 x14) (@S.rec (λ_=>t151) (λx15 x16 x17 x18=>(l559 (k_stepOp' x1 x2 x10 x6 (S.mk x15 x16 (nat_lit 0) (nat_lit 0))) x1 x2 x3 x4 x5 x6 x7 x8 x9 x10 x11 x12 x13 x14 x15 x16 x17 x18)) x0)) := by intro t; cases t <;> (intros; rfl)
abbrev t1731:=S → t1724
abbrev t1732:=t1429 → t1731
abbrev t1733:=Nat → t1732
abbrev t1734:=t161 → t1733
abbrev t1735:=Run → t1734
abbrev t1736:=Program → t1735
abbrev t1737:=Bool → t1736
def l561 : t1737 := (λx0=>(@Bool.rec (λ_=>t1736) (λx1 x2 x3 x4 x5 x6 x7 x8 x9 x10 x11 x12 x13 x14 x15=>(l560 x6 x1 x2 x3 x4 x5 x7 x8 x9 x10 x11 x12 x13 x14 x15)) (λ_ _ _ _ _ _ _ _ _ _ _ _ _ _ _=>none) x0))
theorem l561_eq : ∀ x0 x1 x2 x3 x4 x5 x6 x7 x8 x9 x10 x11 x12 x13 x14 x15, (Eq (l561 x0 x1 x2 x3 x4 x5 x6 x7 x8 x9 x10 x11 x12 x13 x14 x15) (@Bool.rec (λ_=>t151) (l560 x6 x1 x2 x3 x4 x5 x7 x8 x9 x10 x11 x12 x13 x14 x15) none x0)) := by intro t; cases t <;> (intros; rfl)
abbrev t1738:=t161 → t1448
abbrev t1739:=t1428 → t1738
abbrev t1740:=t164 → t1739
abbrev t1741:=t141 → t1740
abbrev t1742:=t14 → t1741
abbrev t1743:=Nat → t1742
abbrev t1744:=t1435 → t1743
abbrev t1745:=Oper → t1744
abbrev t1746:=S → t1745
abbrev t1747:=t1429 → t1746
abbrev t1748:=Nat → t1747
abbrev t1749:=t161 → t1748
abbrev t1750:=Run → t1749
abbrev t1751:=Program → t1750
abbrev t1752:=Bool → t1751
def l562 : t1752 := (λx0=>(@Bool.rec (λ_=>t1751) (λx1 x2 x3 x4 x5 x6 x7 x8 x9 x10 x11 x12 x13 _ _=>(l538 (k_putE x9 (Oper.dst x7) (CV.tup []) x10) x1 x2 x3 x4 x5 x6 x8 x9 x11 x12 x13)) (λx1 x2 x3 x4 x5 x6 x7 x8 x9 x10 x11 x12 x13 x14 x15=>(l561 (k_isDefer (Oper.op x7)) x1 x2 x3 x4 x5 x6 x7 x14 x8 x9 x10 x11 x12 x15 x13)) x0))
theorem l562_eq : ∀ x0 x1 x2 x3 x4 x5 x6 x7 x8 x9 x10 x11 x12 x13 x14 x15, (Eq (l562 x0 x1 x2 x3 x4 x5 x6 x7 x8 x9 x10 x11 x12 x13 x14 x15) (@Bool.rec (λ_=>t151) (l538 (k_putE x9 (Oper.dst x7) (CV.tup []) x10) x1 x2 x3 x4 x5 x6 x8 x9 x11 x12 x13) (l561 (k_isDefer (Oper.op x7)) x1 x2 x3 x4 x5 x6 x7 x14 x8 x9 x10 x11 x12 x15 x13) x0)) := by intro t; cases t <;> (intros; rfl)
abbrev t1753:=t369 → t1736
def l563 : t1753 := (λx0=>(@Option.rec Bool (λ_=>t1736) (λ_ _ _ _ _ _ _ _ _ _ _ _ _ _ _=>none) (λx1 x2 x3 x4 x5 x6 x7 x8 x9 x10 x11 x12 x13 x14 x15 x16=>(l562 x1 x2 x3 x4 x5 x6 x7 x8 x10 x11 x12 x13 x14 x16 x9 x15)) x0))
theorem l563_eq : ∀ x0 x1 x2 x3 x4 x5 x6 x7 x8 x9 x10 x11 x12 x13 x14 x15, (Eq (l563 x0 x1 x2 x3 x4 x5 x6 x7 x8 x9 x10 x11 x12 x13 x14 x15) (@Option.rec Bool (λ_=>t151) none (λx16=>(l562 x16 x1 x2 x3 x4 x5 x6 x7 x9 x10 x11 x12 x13 x15 x8 x14)) x0)) := by intro t; cases t <;> (intros; rfl)
abbrev t1754:=t1435 → t1333
abbrev t1755:=t161 → t1754
abbrev t1756:=Oper → t1755
abbrev t1757:=S → t1756
abbrev t1758:=t1429 → t1757
abbrev t1759:=Nat → t1758
abbrev t1760:=t161 → t1759
abbrev t1761:=Run → t1760
abbrev t1762:=Program → t1761
abbrev t1763:=t1428 → t1762
def l564 : t1763 := (λx0=>(@List.rec Nat (λ_=>t1762) (λ_ _ _ _ _ _ _ _ _ _ _ _ _=>none) (λx1 x2 _ x4 x5 x6 x7 x8 x9 x10 x11 x12 x13 x14 x15 x16=>(l563 (k_guardV x6 x14 x10) x4 x5 x6 x7 x8 x9 x10 x11 x12 x13 x14 x15 x16 x1 x2)) x0))
theorem l564_eq : ∀ x0 x1 x2 x3 x4 x5 x6 x7 x8 x9 x10 x11 x12 x13, (Eq (l564 x0 x1 x2 x3 x4 x5 x6 x7 x8 x9 x10 x11 x12 x13) (@List.rec Nat (λ_=>t151) none (λx14 x15 _=>(l563 (k_guardV x3 x11 x7) x1 x2 x3 x4 x5 x6 x7 x8 x9 x10 x11 x12 x13 x14 x15)) x0)) := by intro t; cases t <;> (intros; rfl)
abbrev t1764:=t1435 → t151
abbrev t1765:=t161 → t1764
abbrev t1766:=Oper → t1765
abbrev t1767:=S → t1766
abbrev t1768:=t1429 → t1767
abbrev t1769:=t1428 → t1768
abbrev t1770:=Nat → t1769
abbrev t1771:=t161 → t1770
abbrev t1772:=Run → t1771
abbrev t1773:=Program → t1772
abbrev t1774:=Fr → t1773
def l565 : t1774 := (λx0=>(@Fr.rec (λ_=>t1773) (λx1 x2 x3 x4 x5 x6 x7 x8 x9 x10 x11 x12 x13 x14=>(l564 x9 x5 x6 x7 x8 x10 x11 x12 x13 x14 x1 x2 x3 x4)) x0))
theorem l565_eq : ∀ x0 x1 x2 x3 x4 x5 x6 x7 x8 x9 x10, (Eq (l565 x0 x1 x2 x3 x4 x5 x6 x7 x8 x9 x10) (@Fr.rec (λ_=>t151) (λx11 x12 x13 x14=>(l564 x5 x1 x2 x3 x4 x6 x7 x8 x9 x10 x11 x12 x13 x14)) x0)) := by intro t; cases t <;> (intros; rfl)
abbrev t1775:=t161 → t1433
abbrev t1776:=Run → t1775
abbrev t1777:=Program → t1776
def k_regD : t1777 := (λx0 x1 x2 x3 x4 x5 x6 x7 x8=>(@List.rec Oper (λ_=>t1435) (λ_ _ _ _ _ _ x15 x16=>(some (Ex.normal, (x15, x16)))) (λx9 x10 x11 x12 x13 x14 x15 x16 x17 x18 x19=>(l565 x18 x12 x13 x14 x15 x16 x17 x19 x9 x10 x11)) x3 x0 x1 x2 x4 x5 x6 x7 x8))
theorem k_regD_law : ∀ x0 x1 x2 x3 x4 x5 x6 x7 x8, (Eq (k_regD x1 x2 x3 x0 x4 x5 x6 x7 x8) (regD x1 x2 x3 x0 x4 x5 x6 x7 x8)) := by
  intro t
  induction t with
  | nil  =>
    intro z0 z1 z2 z3 z4 z5 z6 z7
    show ((fun (_ : Program) (_ : Run) (_ : t161) (_ : Nat) (_ : t1428) (_ : t1429) (x6 : Fr) (x7 : S) => (some (Ex.normal, (x6, x7)))) z0 z1 z2 z3 z4 z5 z6 z7) = _
    conv => rhs; rw [Ev.regD.eq_def]
    all_goals kernel_rfl
  | cons y0 y1 ih0 =>
    intro z0 z1 z2 z3 z4 z5 z6 z7
    have e0 : (fun (x0 : Program) (x1 : Run) (x2 : t161) (x3 : Nat) (x4 : t1428) (x5 : t1429) (x6 : Fr) (x7 : S) => (k_regD x0 x1 x2 y1 x3 x4 x5 x6 x7)) = (fun (x0 : Program) (x1 : Run) (x2 : t161) (x3 : Nat) (x4 : t1428) (x5 : t1429) (x6 : Fr) (x7 : S) => (regD x0 x1 x2 y1 x3 x4 x5 x6 x7)) := by
      funext z0 z1 z2 z3 z4 z5 z6 z7; exact ih0 z0 z1 z2 z3 z4 z5 z6 z7
    show ((fun (x0 : Oper) (x1 : t161) (x2 : t1435) (x3 : Program) (x4 : Run) (x5 : t161) (x6 : Nat) (x7 : t1428) (x8 : t1429) (x9 : Fr) (x10 : S) => (l565 x9 x3 x4 x5 x6 x7 x8 x10 x0 x1 x2)) y0 y1 (fun (x0 : Program) (x1 : Run) (x2 : t161) (x3 : Nat) (x4 : t1428) (x5 : t1429) (x6 : Fr) (x7 : S) => (k_regD x0 x1 x2 y1 x3 x4 x5 x6 x7)) z0 z1 z2 z3 z4 z5 z6 z7) = _
    rw [e0]
    conv => rhs; rw [Ev.regD.eq_def]
    try simp only [l563_eq, l565_eq, l541_eq, l538_eq, l560_eq, l544_eq, l564_eq, l557_eq, l543_eq, l545_eq, l558_eq, l561_eq, l559_eq, l540_eq, l539_eq, l562_eq]
    try rw [k_fN_433_eq]
    try rw [k_putE_eq]
    try rw [k_apart_eq]
    try rw [k_wipe_eq]
    try rw [k_regP_eq]
    try rw [k_idle_eq]
    try rw [k_stepOp_eq]
    try rw [k_isDefer_eq]
    try rw [k_guardV_eq]
    all_goals kernel_rfl
theorem k_regD_eq : @k_regD = regD := by
  funext a0 a1 a2 a3 a4 a5 a6 a7 a8; exact k_regD_law a3 a0 a1 a2 a4 a5 a6 a7 a8
abbrev t1778:=List Tm
abbrev t1779:=t1428 → Nat
def k_tmBits : t1779 := (λx0=>(@List.rec Nat (λ_=>Nat) (nat_lit 0) (λx1 _ x3=>(Nat.lor (Nat.shiftLeft (nat_lit 1) x1) x3)) x0))
theorem k_tmBits_law : ∀ x0, (Eq (k_tmBits x0) (tmBits x0)) := by
  intro t
  induction t with
  | nil  =>
    show (nat_lit 0) = _
    conv => rhs; rw [Ev.tmBits.eq_def]
    all_goals kernel_rfl
  | cons y0 y1 ih0 =>
    have e0 : (k_tmBits y1) = (tmBits y1) := by
      exact ih0
    show ((fun (x0 : Nat) (_ : t1428) (x2 : Nat) => (Nat.lor (Nat.shiftLeft (nat_lit 1) x0) x2)) y0 y1 (k_tmBits y1)) = _
    rw [e0]
    conv => rhs; rw [Ev.tmBits.eq_def]
    all_goals kernel_rfl
theorem k_tmBits_eq : @k_tmBits = tmBits := by
  funext a0; exact k_tmBits_law a0
abbrev t1780:=t164 → Nat
def k_dstBit : t1780 := (λx0=>(@Option.rec Nat (λ_=>Nat) (nat_lit 0) (λx1=>((λx2=>(Nat.shiftLeft (nat_lit 1) x2)) x1)) x0))
theorem k_dstBit_eq : @k_dstBit = dstBit := by
  delta k_dstBit dstBit
  all_goals kernel_rfl

abbrev t1781:=t1778 → Bool
abbrev t1782:=t1428 → t1781
abbrev t1783:=Nat → t1782
abbrev t1784:=t161 → t1783
abbrev t1785:=t1428 → Bool
abbrev t1786:=t1784 → t1785
abbrev t1787:=Oper → t1786
abbrev t1788:=t1778 → t1787
abbrev t1789:=Nat → t1788
abbrev t1790:=t161 → t1789
abbrev t1791:=Bool → t1790
def l566 : t1791 := (λx0=>(@Bool.rec (λ_=>t1790) (λ_ _ _ _ _ _=>Bool.false) (λx1 x2 x3 x4 x5 x6=>(x5 x1 (Nat.add x2 (nat_lit 1)) x6 ((Tm.mk x2 (k_tmBits (looks x1 x4)) (k_dstBit (Oper.dst x4))) :: x3))) x0))
theorem l566_eq : ∀ x0 x1 x2 x3 x4 x5 x6, (Eq (l566 x0 x1 x2 x3 x4 x5 x6) (@Bool.rec (λ_=>Bool) Bool.false (x5 x1 (Nat.add x2 (nat_lit 1)) x6 ((Tm.mk x2 (k_tmBits (looks x1 x4)) (k_dstBit (Oper.dst x4))) :: x3)) x0)) := by intro t; cases t <;> (intros; rfl)
abbrev t1792:=Tm → t1487
def l568 : t1792 := (λx0=>(@Tm.rec (λ_=>t1487) (λx1 x2 x3 x4 x5 x6 x7=>(@Bool.rec (λ_=>Bool) Bool.false (x7 x4 x5 x6) (@Bool.rec (λ_=>Bool) (@Bool.rec (λ_=>Bool) Bool.false (Nat.beq (Nat.land x6 x2) (nat_lit 0)) (Nat.beq (Nat.land x3 (Nat.lor x5 x6)) (nat_lit 0))) Bool.true (Nat.testBit x4 x1)))) x0))
theorem l568_eq : ∀ x0 x1 x2 x3 x4, (Eq (l568 x0 x1 x2 x3 x4) (@Tm.rec (λ_=>Bool) (λx5 x6 x7=>(@Bool.rec (λ_=>Bool) Bool.false (x4 x1 x2 x3) (@Bool.rec (λ_=>Bool) (@Bool.rec (λ_=>Bool) Bool.false (Nat.beq (Nat.land x3 x6) (nat_lit 0)) (Nat.beq (Nat.land x7 (Nat.lor x2 x3)) (nat_lit 0))) Bool.true (Nat.testBit x1 x5)))) x0)) := by intro t; cases t <;> (intros; rfl)
abbrev t1793:=Nat → t1781
abbrev t1794:=Nat → t1793
abbrev t1795:=Nat → t1794
def k_tmApart : t1795 := (λx0 x1 x2 x3=>(@List.rec Tm (λ_=>t1483) (λ_ _ _=>Bool.true) (λx4 _ x6 x7 x8 x9=>(l568 x4 x7 x8 x9 x6)) x3 x0 x1 x2))
theorem k_tmApart_law : ∀ x0 x1 x2 x3, (Eq (k_tmApart x1 x2 x3 x0) (tmApart x1 x2 x3 x0)) := by
  intro t
  induction t with
  | nil  =>
    intro z0 z1 z2
    show ((fun (_ : Nat) (_ : Nat) (_ : Nat) => Bool.true) z0 z1 z2) = _
    conv => rhs; rw [Ev.tmApart.eq_def]
    all_goals kernel_rfl
  | cons y0 y1 ih0 =>
    intro z0 z1 z2
    have e0 : (fun (x0 : Nat) (x1 : Nat) (x2 : Nat) => (k_tmApart x0 x1 x2 y1)) = (fun (x0 : Nat) (x1 : Nat) (x2 : Nat) => (tmApart x0 x1 x2 y1)) := by
      funext z0 z1 z2; exact ih0 z0 z1 z2
    show ((fun (x0 : Tm) (_ : t1778) (x2 : t1483) (x3 : Nat) (x4 : Nat) (x5 : Nat) => (l568 x0 x3 x4 x5 x2)) y0 y1 (fun (x0 : Nat) (x1 : Nat) (x2 : Nat) => (k_tmApart x0 x1 x2 y1)) z0 z1 z2) = _
    rw [e0]
    conv => rhs; rw [Ev.tmApart.eq_def]
    try simp only [l568_eq]
    all_goals kernel_rfl
theorem k_tmApart_eq : @k_tmApart = tmApart := by
  funext a0 a1 a2 a3; exact k_tmApart_law a3 a0 a1 a2
abbrev t1796:=t1784 → Bool
abbrev t1797:=Oper → t1796
abbrev t1798:=t1778 → t1797
abbrev t1799:=Nat → t1798
abbrev t1800:=t161 → t1799
abbrev t1801:=t1428 → t1800
def l567 : t1801 := (λx0=>(@List.rec Nat (λ_=>t1800) (λ_ _ _ _ _=>Bool.false) (λx1 x2 _ x4 x5 x6 x7 x8=>(l566 (@Bool.rec (λ_=>Bool) Bool.false (@List.all Nat (deps x7) (λx9=>(k_Nat_blt x9 x5))) (k_tmApart x1 (k_tmBits (looks x4 x7)) (k_dstBit (Oper.dst x7)) x6)) x4 x5 x6 x7 x8 x2)) x0))
theorem l567_eq : ∀ x0 x1 x2 x3 x4 x5, (Eq (l567 x0 x1 x2 x3 x4 x5) (@List.rec Nat (λ_=>Bool) Bool.false (λx6 x7 _=>(l566 (@Bool.rec (λ_=>Bool) Bool.false (@List.all Nat (deps x4) (λx9=>(k_Nat_blt x9 x2))) (k_tmApart x6 (k_tmBits (looks x1 x4)) (k_dstBit (Oper.dst x4)) x3)) x1 x2 x3 x4 x5 x7)) x0)) := by intro t; cases t <;> (intros; rfl)
abbrev t1802:=t161 → t1784
def k_tmOk : t1802 := (λx0 x1 x2 x3 x4=>(@List.rec Oper (λ_=>t1784) (λ_ _ _ _=>Bool.true) (λx5 _ x7 x8 x9 x10 x11=>(l567 x10 x8 x9 x11 x5 x7)) x1 x0 x2 x3 x4))
theorem k_tmOk_law : ∀ x0 x1 x2 x3 x4, (Eq (k_tmOk x1 x0 x2 x3 x4) (tmOk x1 x0 x2 x3 x4)) := by
  intro t
  induction t with
  | nil  =>
    intro z0 z1 z2 z3
    show ((fun (_ : t161) (_ : Nat) (_ : t1428) (_ : t1778) => Bool.true) z0 z1 z2 z3) = _
    conv => rhs; rw [Ev.tmOk.eq_def]
    all_goals kernel_rfl
  | cons y0 y1 ih0 =>
    intro z0 z1 z2 z3
    have e0 : (fun (x0 : t161) (x1 : Nat) (x2 : t1428) (x3 : t1778) => (k_tmOk x0 y1 x1 x2 x3)) = (fun (x0 : t161) (x1 : Nat) (x2 : t1428) (x3 : t1778) => (tmOk x0 y1 x1 x2 x3)) := by
      funext z0 z1 z2 z3; exact ih0 z0 z1 z2 z3
    show ((fun (x0 : Oper) (_ : t161) (x2 : t1784) (x3 : t161) (x4 : Nat) (x5 : t1428) (x6 : t1778) => (l567 x5 x3 x4 x6 x0 x2)) y0 y1 (fun (x0 : t161) (x1 : Nat) (x2 : t1428) (x3 : t1778) => (k_tmOk x0 y1 x1 x2 x3)) z0 z1 z2 z3) = _
    rw [e0]
    conv => rhs; rw [Ev.tmOk.eq_def]
    try simp only [l566_eq, l567_eq]
    try rw [k_dstBit_eq]
    try rw [k_tmBits_eq]
    try rw [k_tmApart_eq]
    try rw [k_Nat_blt_eq]
    all_goals kernel_rfl
theorem k_tmOk_eq : @k_tmOk = tmOk := by
  funext a0 a1 a2 a3 a4; exact k_tmOk_law a1 a0 a2 a3 a4
def k_drawOk : t1211 := (λx0=>(k_tmOk x0 x0 (nat_lit 0) (masks x0 []) []))
theorem k_drawOk_eq : @k_drawOk = drawOk := by
  delta k_drawOk drawOk
  rw [k_tmOk_eq]
  all_goals kernel_rfl

abbrev t1803:=(Array Oper) → t1326
abbrev t1804:=Run → t1803
abbrev t1805:=Program → t1804
abbrev t1806:=Bool → t1805
def l510 : t1806 := (λx0=>(@Bool.rec (λ_=>t1805) (λx1 x2 x3 x4 x5=>(k_regS' x1 x2 (@Array.toList Oper x3) (@Array.toList Oper x3) x4 x5)) (λx1 x2 x3 x4 x5=>(@Bool.rec (λ_=>t151) none (k_regD x1 x2 (@Array.toList Oper x3) (@Array.toList Oper x3) (nat_lit 0) (masks (@Array.toList Oper x3) []) [] x4 x5) (k_drawOk (@Array.toList Oper x3)))) x0))
theorem l510_eq : ∀ x0 x1 x2 x3 x4 x5, (Eq (l510 x0 x1 x2 x3 x4 x5) (@Bool.rec (λ_=>t151) (k_regS' x1 x2 (@Array.toList Oper x3) (@Array.toList Oper x3) x4 x5) (@Bool.rec (λ_=>t151) none (k_regD x1 x2 (@Array.toList Oper x3) (@Array.toList Oper x3) (nat_lit 0) (masks (@Array.toList Oper x3) []) [] x4 x5) (k_drawOk (@Array.toList Oper x3))) x0)) := by intro t; cases t <;> (intros; rfl)
abbrev t1807:=Bool → t1326
abbrev t1808:=(Array Oper) → t1807
abbrev t1809:=Run → t1808
abbrev t1810:=Program → t1809
def k_codeReg : t1810 := (λx0 x1 x2 x3 x4 x5=>(l510 x3 x0 x1 x2 x4 x5))
theorem k_codeReg_eq : @k_codeReg = codeReg := by
  delta k_codeReg codeReg
  simp only [l510_eq]
  rw [k_drawOk_eq, k_regD_eq, k_regS_eq]
  all_goals kernel_rfl

abbrev t1811:=Ex → t151
abbrev t1812:=t147 → t1811
abbrev t1813:=Code → t1812
abbrev t1814:=Run → t1813
abbrev t1815:=Ex → t1814
def l569 : t1815 := (λx0=>(@Ex.rec (λ_=>t1814) (λx1 x2 x3 _=>(@Prod.rec Fr S (λ_=>t151) (λx5 x6=>((λx7 x8=>(Run.code x1 x2 x7 x8)) x5 x6)) x3)) (λ_ _ _ x4 x5=>(some (x5, x4))) (λ_ _ x3 x4=>(some (x4, x3))) (λ_ _ _ x4 x5=>(some (x5, x4))) x0))
theorem l569_eq : ∀ x0 x1 x2 x3 x4, (Eq (l569 x0 x1 x2 x3 x4) (@codeSeq._sparseCasesOn_1 (λ_=>t151) x0 (@Prod.rec Fr S (λ_=>t151) (λx5 x6=>((λx7 x8=>(Run.code x1 x2 x7 x8)) x5 x6)) x3) (λ_=>(some (x4, x3))))) := by intro t; cases t <;> (intros; rfl)
abbrev t1816:=Code → t151
abbrev t1817:=S → t1816
abbrev t1818:=Fr → t1817
abbrev t1819:=Code → t1818
abbrev t1820:=Run → t1819
abbrev t1821:=t151 → t1820
def l570 : t1821 := (λx0=>(@Option.rec t148 (λ_=>t1820) (λx1 x2 x3 x4 _=>(Run.code x1 x2 x3 x4)) (λx1 x2 _ _ _ x6=>(@Prod.rec Ex t147 (λ_=>t151) (λx7 x8=>(l569 x7 x2 x6 x8 x7)) x1)) x0))
theorem l570_eq : ∀ x0 x1 x2 x3 x4 x5, (Eq (l570 x0 x1 x2 x3 x4 x5) (@stepC._sparseCasesOn_1 t148 (λ_=>t151) x0 (λx6=>(@Prod.rec Ex t147 (λ_=>t151) (λx7 x8=>(l569 x7 x1 x5 x8 x7)) x6)) (λ_=>(Run.code x1 x2 x3 x4)))) := by intro t; cases t <;> (intros; rfl)
abbrev t1822:=Code → t1326
abbrev t1823:=Code → t1822
abbrev t1824:=Run → t1823
def k_codeSeq : t1824 := (λx0 x1 x2 x3 x4=>(l570 (Run.code x0 x1 x3 x4) x0 x1 x3 x4 x2))
theorem k_codeSeq_eq : @k_codeSeq = codeSeq := by
  delta k_codeSeq codeSeq
  simp only [l570_eq, l569_eq]
  all_goals kernel_rfl

abbrev t1825:=Value → t1824
def l571 : t1825 := (λx0=>(@Value.rec (λ_=>t1824) (λ_=>PUnit.{1}) (λ_=>PUnit.{1}) (λx1 x2 x3 x4 x5 x6=>(@Bool.rec (λ_=>t151) (Run.code x2 x4 x5 x6) (Run.code x2 x3 x5 x6) x1)) (λ_ _ _ _ _ _ _=>none) (λ_ _ _ _ _ _ _=>none) (λ_ _ _ _ _ _ _ _=>none) (λ_ _ _ _ _ _=>none) (λ_ _ _ _ _ _=>none) (λ_ _ _ _ _ _ _ _=>none) (λ_ _ _ _ _ _=>none) (λ_ _ _ _ _ _=>none) (λ_ _ _ _ _ _ _ _ _ _=>none) (λ_ _ _ _ _=>none) (λ_ _ _ _ _ _ _ _=>none) (λ_ _ _ _ _=>none) (λ_ _ _ _ _ _ _=>none) (λ_ _ _ _ _ _ _=>none) (λ_ _=>PUnit.unit.{1}) PUnit.unit.{1} (λ_ _ _ _=>PUnit.unit.{1}) x0))
theorem l571_eq : ∀ x0 x1 x2 x3 x4 x5, (Eq (l571 x0 x1 x2 x3 x4 x5) (@codeCond._sparseCasesOn_2 (λ_=>t151) x0 (λx6=>(@Bool.rec (λ_=>t151) (Run.code x1 x3 x4 x5) (Run.code x1 x2 x4 x5) x6)) (λ_=>none))) := by intro t; cases t <;> (intros; rfl)
abbrev t1826:=CV → t1824
def l572 : t1826 := (λx0=>(@CV.rec (λ_=>t1824) (λ_=>PUnit.{1}) (λ_ _ _ _ _=>none) (λx1 x2 x3 x4 x5 x6=>(l571 x1 x2 x3 x4 x5 x6)) (λ_ _ _ _ _ _ _=>none) (λ_ _ _ _ _ _ _ _ _ _=>none) (λ_ _ _ _ _=>none) (λ_ _ _ _ _ _=>none) (λ_ _ _ _ _ _ _=>none) (λ_ _ _ _ _ _ _=>none) (λ_ _ _ _ _ _ _ _ _ _=>none) (λ_ _ _ _ _ _=>none) (λ_ _ _ _ _ _ _ _=>none) PUnit.unit.{1} (λ_ _ _ _=>PUnit.unit.{1}) x0))
theorem l572_eq : ∀ x0 x1 x2 x3 x4 x5, (Eq (l572 x0 x1 x2 x3 x4 x5) (@codeCond._sparseCasesOn_1 (λ_=>t151) x0 (λx6=>(l571 x6 x1 x2 x3 x4 x5)) (λ_=>none))) := by intro t; cases t <;> (intros; rfl)
abbrev t1827:=t81 → t1824
def l573 : t1827 := (λx0=>(@Option.rec CV (λ_=>t1824) (λ_ _ _ _ _=>none) (λx1 x2 x3 x4 x5 x6=>(l572 x1 x2 x3 x4 x5 x6)) x0))
theorem l573_eq : ∀ x0 x1 x2 x3 x4 x5, (Eq (l573 x0 x1 x2 x3 x4 x5) (@stepC._sparseCasesOn_1 CV (λ_=>t151) x0 (λx6=>(l572 x6 x1 x2 x3 x4 x5)) (λ_=>none))) := by intro t; cases t <;> (intros; rfl)
abbrev t1828:=Operand → t1823
abbrev t1829:=Run → t1828
def k_codeCond : t1829 := (λx0 x1 x2 x3 x4 x5=>(l573 (k_ev (Fr.env x4) x1) x0 x2 x3 x4 x5))
theorem k_codeCond_eq : @k_codeCond = codeCond := by
  delta k_codeCond codeCond
  simp only [l573_eq, l571_eq, l572_eq]
  rw [k_ev_eq]
  all_goals kernel_rfl

abbrev t1830:=t147 → t1451
def l574 : t1830 := (λx0=>(@Prod.rec Fr S (λ_=>t1451) (λx1 x2 x3 x4=>((λx5 x6 x7=>(@Bool.rec (λ_=>t151) (some ((Ex.exit x5), (x6, x7))) (some (Ex.normal, (x6, x7))) (Nat.beq x5 x3))) x4 x1 x2)) x0))
theorem l574_eq : ∀ x0 x1 x2, (Eq (l574 x0 x1 x2) (@Prod.rec Fr S (λ_=>t151) (λx3 x4=>((λx5 x6 x7=>(@Bool.rec (λ_=>t151) (some ((Ex.exit x5), (x6, x7))) (some (Ex.normal, (x6, x7))) (Nat.beq x5 x1))) x2 x3 x4)) x0)) := by intro t; cases t <;> (intros; rfl)
abbrev t1831:=t147 → t1448
abbrev t1832:=Ex → t1831
abbrev t1833:=Ex → t1832
def l575 : t1833 := (λx0=>(@Ex.rec (λ_=>t1832) (λx1 x2 _=>(some (x1, x2))) (λx1 _ x3 x4=>(l574 x3 x4 x1)) (λx1 x2 _=>(some (x1, x2))) (λ_ x2 x3 _=>(some (x2, x3))) x0))
theorem l575_eq : ∀ x0 x1 x2 x3, (Eq (l575 x0 x1 x2 x3) (@codeBlock._sparseCasesOn_1 (λ_=>t151) x0 (λx4=>(l574 x2 x3 x4)) (λ_=>(some (x1, x2))))) := by intro t; cases t <;> (intros; rfl)
abbrev t1834:=S → t1448
abbrev t1835:=Fr → t1834
abbrev t1836:=Code → t1835
abbrev t1837:=Run → t1836
abbrev t1838:=t151 → t1837
def l576 : t1838 := (λx0=>(@Option.rec t148 (λ_=>t1837) (λx1 x2 x3 x4 _=>(Run.code x1 x2 x3 x4)) (λx1 _ _ _ _ x6=>(@Prod.rec Ex t147 (λ_=>t151) (λx7 x8=>(l575 x7 x7 x8 x6)) x1)) x0))
theorem l576_eq : ∀ x0 x1 x2 x3 x4 x5, (Eq (l576 x0 x1 x2 x3 x4 x5) (@stepC._sparseCasesOn_1 t148 (λ_=>t151) x0 (λx6=>(@Prod.rec Ex t147 (λ_=>t151) (λx7 x8=>(l575 x7 x7 x8 x5)) x6)) (λ_=>(Run.code x1 x2 x3 x4)))) := by intro t; cases t <;> (intros; rfl)
abbrev t1839:=Nat → t1822
abbrev t1840:=Run → t1839
def k_codeBlock : t1840 := (λx0 x1 x2 x3 x4=>(l576 (Run.code x0 x2 x3 x4) x0 x2 x3 x4 x1))
theorem k_codeBlock_eq : @k_codeBlock = codeBlock := by
  delta k_codeBlock codeBlock
  simp only [l575_eq, l576_eq, l574_eq]
  all_goals kernel_rfl

def l577 : t1815 := (λx0=>(@Ex.rec (λ_=>t1814) (λx1 x2 x3 _=>(@Prod.rec Fr S (λ_=>t151) (λx5 x6=>((λx7 x8=>(Run.code x1 (Code.loop x2) x7 x8)) x5 x6)) x3)) (λ_ _ _ x4 x5=>(some (x5, x4))) (λ_ _ x3 x4=>(some (x4, x3))) (λ_ _ _ x4 x5=>(some (x5, x4))) x0))
theorem l577_eq : ∀ x0 x1 x2 x3 x4, (Eq (l577 x0 x1 x2 x3 x4) (@codeSeq._sparseCasesOn_1 (λ_=>t151) x0 (@Prod.rec Fr S (λ_=>t151) (λx5 x6=>((λx7 x8=>(Run.code x1 (Code.loop x2) x7 x8)) x5 x6)) x3) (λ_=>(some (x4, x3))))) := by intro t; cases t <;> (intros; rfl)
abbrev t1841:=Run → t1822
abbrev t1842:=t151 → t1841
def l578 : t1842 := (λx0=>(@Option.rec t148 (λ_=>t1841) (λx1 x2 x3 x4=>(Run.code x1 x2 x3 x4)) (λx1 x2 x3 _ _=>(@Prod.rec Ex t147 (λ_=>t151) (λx6 x7=>(l577 x6 x2 x3 x7 x6)) x1)) x0))
theorem l578_eq : ∀ x0 x1 x2 x3 x4, (Eq (l578 x0 x1 x2 x3 x4) (@stepC._sparseCasesOn_1 t148 (λ_=>t151) x0 (λx5=>(@Prod.rec Ex t147 (λ_=>t151) (λx6 x7=>(l577 x6 x1 x2 x7 x6)) x5)) (λ_=>(Run.code x1 x2 x3 x4)))) := by intro t; cases t <;> (intros; rfl)
def k_codeLoop : t1841 := (λx0 x1 x2 x3=>(l578 (Run.code x0 x1 x2 x3) x0 x1 x2 x3))
theorem k_codeLoop_eq : @k_codeLoop = codeLoop := by
  delta k_codeLoop codeLoop
  simp only [l578_eq, l577_eq]
  all_goals kernel_rfl

abbrev t1843:=t1325 → t1453
abbrev t1844:=t44 → t1843
abbrev t1845:=Nat → t1844
abbrev t1846:=t44 → t1845
def l580 : t1846 := (λx0=>(@Option.rec CO (λ_=>t1845) (λ_ _ _ _ _ _ _=>none) (λx1 x2 x3 x4 x5 x6 x7 x8=>((λ_=>(@Option.rec t46 (λ_=>t151) none (λx10=>((λx11=>(k_fN_433 (Nat.lor x8 (Nat.shiftLeft (nat_lit 1) x2)) (λx12=>(x4 (S.mk x11 x6 x7 x12))))) x10)) (setCO (nat_lit 24) x5 x2 x3))) x1)) x0))
theorem l580_eq : ∀ x0 x1 x2 x3 x4 x5 x6 x7, (Eq (l580 x0 x1 x2 x3 x4 x5 x6 x7) (@Option.rec CO (λ_=>t151) none (λx8=>((λ_=>(@Option.rec t46 (λ_=>t151) none (λx10=>((λx11=>(k_fN_433 (Nat.lor x7 (Nat.shiftLeft (nat_lit 1) x1)) (λx12=>(x3 (S.mk x11 x5 x6 x12))))) x10)) (setCO (nat_lit 24) x4 x1 x2))) x8)) x0)) := by intro t; cases t <;> (intros; rfl)
abbrev t1847:=t1325 → t151
abbrev t1848:=t44 → t1847
abbrev t1849:=Nat → t1848
abbrev t1850:=S → t1849
def l581 : t1850 := (λx0=>(@S.rec (λ_=>t1849) (λx1 x2 x3 x4 x5 x6 x7=>((λx8 x9 x10 x11=>(l580 (getCO x8 x5) x5 x6 x7 x8 x9 x10 x11)) x1 x2 x3 x4)) x0))
theorem l581_eq : ∀ x0 x1 x2 x3, (Eq (l581 x0 x1 x2 x3) (@S.rec (λ_=>t151) (λx4 x5 x6 x7=>((λx8 x9 x10 x11=>(l580 (getCO x8 x1) x1 x2 x3 x8 x9 x10 x11)) x4 x5 x6 x7)) x0)) := by intro t; cases t <;> (intros; rfl)
def k_wr_433 : t1850 := (λx0 x1 x2 x3=>(l581 x0 x1 x2 x3))
theorem k_wr_433_eq : @k_wr_433 = (@wr t148) := by
  delta k_wr_433 wr
  simp only [l580_eq, l581_eq]
  rw [setCO_eq, k_fN_433_eq, getCO_eq]
  all_goals kernel_rfl

abbrev t1851:=Code → t1448
abbrev t1852:=Code → t1851
abbrev t1853:=t1428 → t1852
abbrev t1854:=Nat → t1853
abbrev t1855:=t14 → t1854
abbrev t1856:=S → t1855
abbrev t1857:=Nat → t1856
abbrev t1858:=Nat → t1857
abbrev t1859:=t164 → t1858
abbrev t1860:=t141 → t1859
abbrev t1861:=t14 → t1860
abbrev t1862:=Nat → t1861
abbrev t1863:=t1255 → t1862
def l579 : t1863 := (λx0=>(@Option.rec Code (λ_=>t1862) (λx1 x2 x3 x4 x5 x6 x7 x8 x9 x10 x11 x12 x13=>(k_wr_433 x7 x6 (some (CO.loop LoopState.exhausted none x8 x9 x10 x11 x12 x13)) (λx14=>(some (Ex.normal, ((Fr.mk x1 x2 ((SD.mark x5) :: x3) x4), x14)))))) (λ_ _ _ _ _ _ _ _ _ _ _ _ _ _=>none) x0))
theorem l579_eq : ∀ x0 x1 x2 x3 x4 x5 x6 x7 x8 x9 x10 x11 x12 x13, (Eq (l579 x0 x1 x2 x3 x4 x5 x6 x7 x8 x9 x10 x11 x12 x13) (@rangeN._sparseCasesOn_2 Code (λ_=>t151) x0 (k_wr_433 x7 x6 (some (CO.loop LoopState.exhausted none x8 x9 x10 x11 x12 x13)) (λx14=>(some (Ex.normal, ((Fr.mk x1 x2 ((SD.mark x5) :: x3) x4), x14))))) (λ_=>none))) := by intro t; cases t <;> (intros; rfl)
abbrev t1864:=Run → t1862
abbrev t1865:=t1255 → t1864
def l582 : t1865 := (λx0=>(@Option.rec Code (λ_=>t1864) (λ_ _ _ _ _ _ _ _ _ _ _ _ _ _=>none) (λx1 x2 x3 x4 x5 x6 x7 x8 x9 x10 x11 x12 x13 x14 x15=>(k_wr_433 x9 x8 (some (CO.loop LoopState.exhausted (some x1) x10 x11 x12 x13 x14 x15)) (λx16=>(Run.code x2 x1 (Fr.mk x3 x4 ((SD.mark x7) :: x5) x6) x16)))) x0))
theorem l582_eq : ∀ x0 x1 x2 x3 x4 x5 x6 x7 x8 x9 x10 x11 x12 x13 x14, (Eq (l582 x0 x1 x2 x3 x4 x5 x6 x7 x8 x9 x10 x11 x12 x13 x14) (@methV._sparseCasesOn_2 Code (λ_=>t151) x0 (λx15=>(k_wr_433 x8 x7 (some (CO.loop LoopState.exhausted (some x15) x9 x10 x11 x12 x13 x14)) (λx16=>(Run.code x1 x15 (Fr.mk x2 x3 ((SD.mark x6) :: x4) x5) x16)))) (λ_=>none))) := by intro t; cases t <;> (intros; rfl)
abbrev t1866:=Run → t151
abbrev t1867:=Nat → t1866
abbrev t1868:=Code → t1867
abbrev t1869:=Code → t1868
abbrev t1870:=t1428 → t1869
abbrev t1871:=Nat → t1870
abbrev t1872:=t14 → t1871
abbrev t1873:=t1255 → t1872
abbrev t1874:=S → t1873
abbrev t1875:=Nat → t1874
abbrev t1876:=Nat → t1875
abbrev t1877:=t164 → t1876
abbrev t1878:=t141 → t1877
abbrev t1879:=t14 → t1878
abbrev t1880:=Nat → t1879
abbrev t1881:=LoopState → t1880
def l583 : t1881 := (λx0=>(@LoopState.rec (λ_=>t1880) (λx1 x2 x3 x4 x5 x6 x7 x8 x9 x10 x11 x12 x13 x14 _=>(l579 x8 x1 x2 x3 x4 x5 x6 x7 x9 x10 x11 x12 x13 x14)) (λ_ _ _ _ _ _ _ _ _ _ _ _ _ _ _=>none) (λx1 x2 x3 x4 x5 x6 x7 x8 x9 x10 x11 x12 x13 x14 x15=>(l582 x8 x15 x1 x2 x3 x4 x5 x6 x7 x9 x10 x11 x12 x13 x14)) (λ_ _ _ _ _ _ _ _ _ _ _ _ _ _ _=>none) x0))
theorem l583_eq : ∀ x0 x1 x2 x3 x4 x5 x6 x7 x8 x9 x10 x11 x12 x13 x14 x15, (Eq (l583 x0 x1 x2 x3 x4 x5 x6 x7 x8 x9 x10 x11 x12 x13 x14 x15) (@rangeN._sparseCasesOn_1 (λ_=>t151) x0 (l579 x8 x1 x2 x3 x4 x5 x6 x7 x9 x10 x11 x12 x13 x14) (l582 x8 x15 x1 x2 x3 x4 x5 x6 x7 x9 x10 x11 x12 x13 x14) (λ_=>none))) := by intro t; cases t <;> (intros; rfl)
abbrev t1882:=Nat → t1325
abbrev t1883:=Nat → t1882
abbrev t1884:=t164 → t1883
abbrev t1885:=t141 → t1884
abbrev t1886:=t14 → t1885
abbrev t1887:=Nat → t1886
abbrev t1888:=Run → t1887
abbrev t1889:=CO → t1888
def l584 : t1889 := (λx0=>(@CO.rec (λ_=>t1888) (λ_ _ _ _ _ _ _ _ _ _ _=>none) (λ_ _ _ _ _ _ _ _ _ _ _=>none) (λx1 x2 x3 x4 x5 x6 x7 x8 x9 x10 x11 x12 x13 x14 x15 x16=>(l583 x1 x10 x11 x12 x13 x14 x15 x16 x2 x3 x4 x5 x6 x7 x8 x9)) (λ_ _ _ _ _ _ _ _=>none) (λ_ _ _ _ _ _ _ _=>none) x0))
theorem l584_eq : ∀ x0 x1 x2 x3 x4 x5 x6 x7 x8, (Eq (l584 x0 x1 x2 x3 x4 x5 x6 x7 x8) (@roundN._sparseCasesOn_1 (λ_=>t151) x0 (λx9 x10 x11 x12 x13 x14 x15 x16=>(l583 x9 x2 x3 x4 x5 x6 x7 x8 x10 x11 x12 x13 x14 x15 x16 x1)) (λ_=>none))) := by intro t; cases t <;> (intros; rfl)
abbrev t1890:=CO → t1325
abbrev t1891:=t1890 → t1453
abbrev t1892:=Nat → t1891
abbrev t1893:=t44 → t1892
def l586 : t1893 := (λx0=>(@Option.rec CO (λ_=>t1892) (λ_ _ _ _ _ _=>none) (λx1 x2 x3 x4 x5 x6 x7=>((λx8=>(k_fN_433 (Nat.lor x6 (Nat.shiftLeft (nat_lit 1) x2)) (λx9=>(x3 x8 (S.mk x4 x5 x9 x7))))) x1)) x0))
theorem l586_eq : ∀ x0 x1 x2 x3 x4 x5 x6, (Eq (l586 x0 x1 x2 x3 x4 x5 x6) (@Option.rec CO (λ_=>t151) none (λx7=>((λx8=>(k_fN_433 (Nat.lor x5 (Nat.shiftLeft (nat_lit 1) x1)) (λx9=>(x2 x8 (S.mk x3 x4 x9 x6))))) x7)) x0)) := by intro t; cases t <;> (intros; rfl)
abbrev t1894:=t1890 → t151
abbrev t1895:=Nat → t1894
abbrev t1896:=S → t1895
def l587 : t1896 := (λx0=>(@S.rec (λ_=>t1895) (λx1 x2 x3 x4 x5 x6=>((λx7 x8 x9 x10=>(l586 (getCO x7 x5) x5 x6 x7 x8 x9 x10)) x1 x2 x3 x4)) x0))
theorem l587_eq : ∀ x0 x1 x2, (Eq (l587 x0 x1 x2) (@S.rec (λ_=>t151) (λx3 x4 x5 x6=>((λx7 x8 x9 x10=>(l586 (getCO x7 x1) x1 x2 x7 x8 x9 x10)) x3 x4 x5 x6)) x0)) := by intro t; cases t <;> (intros; rfl)
def k_rd_433 : t1896 := (λx0 x1 x2=>(l587 x0 x1 x2))
theorem k_rd_433_eq : @k_rd_433 = (@rd t148) := by
  delta k_rd_433 rd
  simp only [l586_eq, l587_eq]
  rw [k_fN_433_eq, getCO_eq]
  all_goals kernel_rfl

abbrev t1897:=t164 → t1451
abbrev t1898:=t141 → t1897
abbrev t1899:=t14 → t1898
abbrev t1900:=Nat → t1899
abbrev t1901:=Run → t1900
abbrev t1902:=Ret → t1901
def l585 : t1902 := (λx0=>(@Ret.rec (λ_=>t1901) (λx1 x2 x3 x4 x5 x6 x7 x8 x9=>((λ_ x11=>(k_rd_433 x11 x9 (λx12 x13=>(l584 x12 x3 x4 x5 x6 x7 x8 x9 x13)))) x1 x2)) (λx1 x2 _ x4 x5 x6 x7 x8 _=>((λx10 x11=>(some ((Ex.pan x10), ((Fr.mk x4 x5 ((SD.mark x8) :: x6) x7), x11)))) x1 x2)) x0))
theorem l585_eq : ∀ x0 x1 x2 x3 x4 x5 x6 x7, (Eq (l585 x0 x1 x2 x3 x4 x5 x6 x7) (@Ret.rec (λ_=>t151) (λx8 x9=>((λ_ x11=>(k_rd_433 x11 x7 (λx12 x13=>(l584 x12 x1 x2 x3 x4 x5 x6 x7 x13)))) x8 x9)) (λx8 x9=>((λx10 x11=>(some ((Ex.pan x10), ((Fr.mk x2 x3 ((SD.mark x6) :: x4) x5), x11)))) x8 x9)) x0)) := by intro t; cases t <;> (intros; rfl)
abbrev t1903:=FuncId → t1883
abbrev t1904:=t164 → t1903
abbrev t1905:=t141 → t1904
abbrev t1906:=t14 → t1905
abbrev t1907:=Nat → t1906
abbrev t1908:=Run → t1907
abbrev t1909:=t31 → t1908
def l588 : t1909 := (λx0=>(@Option.rec t7 (λ_=>t1908) (λ_ _ _ _ _ _ _ _ _=>none) (λx1 x2 x3 x4 x5 x6 x7 x8 x9 x10=>((λx11=>(@Option.rec Ret (λ_=>t151) none (λx12=>(l585 x12 x2 x3 x4 x5 x6 x8 x9)) (Run.call x2 x7 x11 x10))) x1)) x0))
theorem l588_eq : ∀ x0 x1 x2 x3 x4 x5 x6 x7 x8 x9, (Eq (l588 x0 x1 x2 x3 x4 x5 x6 x7 x8 x9) (@Option.rec t7 (λ_=>t151) none (λx10=>((λx11=>(@Option.rec Ret (λ_=>t151) none (λx12=>(l585 x12 x1 x2 x3 x4 x5 x7 x8)) (Run.call x1 x6 x11 x9))) x10)) x0)) := by intro t; cases t <;> (intros; rfl)
abbrev t1910:=t141 → t1857
abbrev t1911:=t164 → t1910
abbrev t1912:=t14 → t1911
abbrev t1913:=Nat → t1912
abbrev t1914:=t1255 → t1913
def l589 : t1914 := (λx0=>(@Option.rec Code (λ_=>t1913) (λx1 x2 x3 x4 x5 x6 x7 x8 x9 x10 x11 x12=>(k_wr_433 x6 x5 (some (CO.loop LoopState.exhausted none x7 x8 x9 x10 x11 x12)) (λx13=>(some (Ex.normal, ((Fr.mk x1 x2 x4 x3), x13)))))) (λ_ _ _ _ _ _ _ _ _ _ _ _ _=>none) x0))
theorem l589_eq : ∀ x0 x1 x2 x3 x4 x5 x6 x7 x8 x9 x10 x11 x12, (Eq (l589 x0 x1 x2 x3 x4 x5 x6 x7 x8 x9 x10 x11 x12) (@rangeN._sparseCasesOn_2 Code (λ_=>t151) x0 (k_wr_433 x6 x5 (some (CO.loop LoopState.exhausted none x7 x8 x9 x10 x11 x12)) (λx13=>(some (Ex.normal, ((Fr.mk x1 x2 x4 x3), x13))))) (λ_=>none))) := by intro t; cases t <;> (intros; rfl)
abbrev t1915:=Run → t1913
abbrev t1916:=t1255 → t1915
def l590 : t1916 := (λx0=>(@Option.rec Code (λ_=>t1915) (λ_ _ _ _ _ _ _ _ _ _ _ _ _=>none) (λx1 x2 x3 x4 x5 x6 x7 x8 x9 x10 x11 x12 x13 x14=>(k_wr_433 x8 x7 (some (CO.loop LoopState.exhausted (some x1) x9 x10 x11 x12 x13 x14)) (λx15=>(Run.code x2 x1 (Fr.mk x3 x4 x6 x5) x15)))) x0))
theorem l590_eq : ∀ x0 x1 x2 x3 x4 x5 x6 x7 x8 x9 x10 x11 x12 x13, (Eq (l590 x0 x1 x2 x3 x4 x5 x6 x7 x8 x9 x10 x11 x12 x13) (@methV._sparseCasesOn_2 Code (λ_=>t151) x0 (λx14=>(k_wr_433 x7 x6 (some (CO.loop LoopState.exhausted (some x14) x8 x9 x10 x11 x12 x13)) (λx15=>(Run.code x1 x14 (Fr.mk x2 x3 x5 x4) x15)))) (λ_=>none))) := by intro t; cases t <;> (intros; rfl)
abbrev t1917:=t141 → t1875
abbrev t1918:=t164 → t1917
abbrev t1919:=t14 → t1918
abbrev t1920:=Nat → t1919
abbrev t1921:=LoopState → t1920
def l591 : t1921 := (λx0=>(@LoopState.rec (λ_=>t1920) (λx1 x2 x3 x4 x5 x6 x7 x8 x9 x10 x11 x12 x13 _=>(l589 x7 x1 x2 x3 x4 x5 x6 x8 x9 x10 x11 x12 x13)) (λ_ _ _ _ _ _ _ _ _ _ _ _ _ _=>none) (λx1 x2 x3 x4 x5 x6 x7 x8 x9 x10 x11 x12 x13 x14=>(l590 x7 x14 x1 x2 x3 x4 x5 x6 x8 x9 x10 x11 x12 x13)) (λ_ _ _ _ _ _ _ _ _ _ _ _ _ _=>none) x0))
theorem l591_eq : ∀ x0 x1 x2 x3 x4 x5 x6 x7 x8 x9 x10 x11 x12 x13 x14, (Eq (l591 x0 x1 x2 x3 x4 x5 x6 x7 x8 x9 x10 x11 x12 x13 x14) (@rangeN._sparseCasesOn_1 (λ_=>t151) x0 (l589 x7 x1 x2 x3 x4 x5 x6 x8 x9 x10 x11 x12 x13) (l590 x7 x14 x1 x2 x3 x4 x5 x6 x8 x9 x10 x11 x12 x13) (λ_=>none))) := by intro t; cases t <;> (intros; rfl)
abbrev t1922:=t141 → t1882
abbrev t1923:=t164 → t1922
abbrev t1924:=t14 → t1923
abbrev t1925:=Nat → t1924
abbrev t1926:=Run → t1925
abbrev t1927:=CO → t1926
def l592 : t1927 := (λx0=>(@CO.rec (λ_=>t1926) (λ_ _ _ _ _ _ _ _ _ _=>none) (λ_ _ _ _ _ _ _ _ _ _=>none) (λx1 x2 x3 x4 x5 x6 x7 x8 x9 x10 x11 x12 x13 x14 x15=>(l591 x1 x10 x11 x12 x13 x14 x15 x2 x3 x4 x5 x6 x7 x8 x9)) (λ_ _ _ _ _ _ _=>none) (λ_ _ _ _ _ _ _=>none) x0))
theorem l592_eq : ∀ x0 x1 x2 x3 x4 x5 x6 x7, (Eq (l592 x0 x1 x2 x3 x4 x5 x6 x7) (@roundN._sparseCasesOn_1 (λ_=>t151) x0 (λx8 x9 x10 x11 x12 x13 x14 x15=>(l591 x8 x2 x3 x4 x5 x6 x7 x9 x10 x11 x12 x13 x14 x15 x1)) (λ_=>none))) := by intro t; cases t <;> (intros; rfl)
abbrev t1928:=t141 → t1448
abbrev t1929:=t164 → t1928
abbrev t1930:=t14 → t1929
abbrev t1931:=Nat → t1930
abbrev t1932:=Run → t1931
abbrev t1933:=Ret → t1932
def l593 : t1933 := (λx0=>(@Ret.rec (λ_=>t1932) (λx1 x2 x3 x4 x5 x6 x7 x8=>((λ_ x10=>(k_rd_433 x10 x8 (λx11 x12=>(l592 x11 x3 x4 x5 x6 x7 x8 x12)))) x1 x2)) (λx1 x2 _ x4 x5 x6 x7 _=>((λx9 x10=>(some ((Ex.pan x9), ((Fr.mk x4 x5 x7 x6), x10)))) x1 x2)) x0))
theorem l593_eq : ∀ x0 x1 x2 x3 x4 x5 x6, (Eq (l593 x0 x1 x2 x3 x4 x5 x6) (@Ret.rec (λ_=>t151) (λx7 x8=>((λ_ x10=>(k_rd_433 x10 x6 (λx11 x12=>(l592 x11 x1 x2 x3 x4 x5 x6 x12)))) x7 x8)) (λx7 x8=>((λx9 x10=>(some ((Ex.pan x9), ((Fr.mk x2 x3 x5 x4), x10)))) x7 x8)) x0)) := by intro t; cases t <;> (intros; rfl)
abbrev t1934:=FuncId → t1922
abbrev t1935:=t164 → t1934
abbrev t1936:=t14 → t1935
abbrev t1937:=Nat → t1936
abbrev t1938:=Run → t1937
abbrev t1939:=t31 → t1938
def l594 : t1939 := (λx0=>(@Option.rec t7 (λ_=>t1938) (λ_ _ _ _ _ _ _ _=>none) (λx1 x2 x3 x4 x5 x6 x7 x8 x9=>((λx10=>(@Option.rec Ret (λ_=>t151) none (λx11=>(l593 x11 x2 x3 x4 x5 x7 x8)) (Run.call x2 x6 x10 x9))) x1)) x0))
theorem l594_eq : ∀ x0 x1 x2 x3 x4 x5 x6 x7 x8, (Eq (l594 x0 x1 x2 x3 x4 x5 x6 x7 x8) (@Option.rec t7 (λ_=>t151) none (λx9=>((λx10=>(@Option.rec Ret (λ_=>t151) none (λx11=>(l593 x11 x1 x2 x3 x4 x6 x7)) (Run.call x1 x5 x10 x8))) x9)) x0)) := by intro t; cases t <;> (intros; rfl)
abbrev t1940:=t1882 → t1452
abbrev t1941:=t207 → t1940
def l596 : t1941 := (λx0=>(@Option.rec t46 (λ_=>t1940) (λ_ _ _ _=>none) (λx1 x2 x3 x4 x5=>((λx6=>(k_fN_433 (Nat.add x3 (nat_lit 1)) (λx7=>(k_fN_433 (Nat.lor x5 (Nat.shiftLeft (nat_lit 1) x3)) (λx8=>(x2 x3 (S.mk x6 x7 x4 x8))))))) x1)) x0))
theorem l596_eq : ∀ x0 x1 x2 x3 x4, (Eq (l596 x0 x1 x2 x3 x4) (@Option.rec t46 (λ_=>t151) none (λx5=>((λx6=>(k_fN_433 (Nat.add x2 (nat_lit 1)) (λx7=>(k_fN_433 (Nat.lor x4 (Nat.shiftLeft (nat_lit 1) x2)) (λx8=>(x1 x2 (S.mk x6 x7 x3 x8))))))) x5)) x0)) := by intro t; cases t <;> (intros; rfl)
abbrev t1942:=t1882 → t151
abbrev t1943:=CO → t1942
abbrev t1944:=S → t1943
def l597 : t1944 := (λx0=>(@S.rec (λ_=>t1943) (λx1 x2 x3 x4 x5 x6=>((λx7 x8 x9 x10=>(l596 (setCO (nat_lit 24) x7 x8 (some x5)) x6 x8 x9 x10)) x1 x2 x3 x4)) x0))
theorem l597_eq : ∀ x0 x1 x2, (Eq (l597 x0 x1 x2) (@S.rec (λ_=>t151) (λx3 x4 x5 x6=>((λx7 x8 x9 x10=>(l596 (setCO (nat_lit 24) x7 x8 (some x1)) x2 x8 x9 x10)) x3 x4 x5 x6)) x0)) := by intro t; cases t <;> (intros; rfl)
def k_nw_433 : t1944 := (λx0 x1 x2=>(l597 x0 x1 x2))
theorem k_nw_433_eq : @k_nw_433 = (@nw t148) := by
  delta k_nw_433 nw
  simp only [l597_eq, l596_eq]
  rw [k_fN_433_eq, setCO_eq]
  all_goals kernel_rfl

abbrev t1945:=t7 → t1325
abbrev t1946:=t7 → t1945
abbrev t1947:=FuncId → t1946
abbrev t1948:=t164 → t1947
abbrev t1949:=t141 → t1948
abbrev t1950:=t14 → t1949
abbrev t1951:=Nat → t1950
abbrev t1952:=Code → t1951
abbrev t1953:=Code → t1952
abbrev t1954:=t1428 → t1953
abbrev t1955:=Run → t1954
abbrev t1956:=CO → t1955
def l595 : t1956 := (λx0=>(@CO.rec (λ_=>t1955) (λ_ _ _ _ _ _ _ _ _ _ _ _ _ _ _=>none) (λ_ _ _ _ _ _ _ _ _ _ _ _ _ _ _=>none) (λ_ _ _ _ _ _ _ x8 x9 x10 x11 x12 x13 x14 x15 x16 x17 x18 x19 x20=>((λx21 x22 x23=>(k_nw_433 x23 (CO.loop LoopState.ready none x14 x13 x10 x11 x12 x21) (λx24 x25=>(l594 (k_app2 x18 ((CV.yld x24) :: []) x19) x9 x13 x14 x16 x17 x22 x24 x25)))) x8 x15 x20)) (λ_ _ _ _ _ _ _ _ _ _ _ _=>none) (λ_ _ _ _ _ _ _ _ _ _ _ _=>none) x0))
theorem l595_eq : ∀ x0 x1 x2 x3 x4 x5 x6 x7 x8 x9 x10 x11 x12, (Eq (l595 x0 x1 x2 x3 x4 x5 x6 x7 x8 x9 x10 x11 x12) (@roundN._sparseCasesOn_1 (λ_=>t151) x0 (λ_ _ _ _ _ _ _ x20=>((λx21 x22 x23=>(k_nw_433 x23 (CO.loop LoopState.ready none x6 x5 x2 x3 x4 x21) (λx24 x25=>(l594 (k_app2 x10 ((CV.yld x24) :: []) x11) x1 x5 x6 x8 x9 x22 x24 x25)))) x20 x7 x12)) (λ_=>none))) := by intro t; cases t <;> (intros; rfl)
abbrev t1957:=t7 → t151
abbrev t1958:=t7 → t1957
abbrev t1959:=FuncId → t1958
abbrev t1960:=t164 → t1959
abbrev t1961:=t141 → t1960
abbrev t1962:=t14 → t1961
abbrev t1963:=Nat → t1962
abbrev t1964:=S → t1963
abbrev t1965:=Code → t1964
abbrev t1966:=Code → t1965
abbrev t1967:=t1428 → t1966
abbrev t1968:=Run → t1967
abbrev t1969:=t164 → t1968
def l598 : t1969 := (λx0=>(@Option.rec Nat (λ_=>t1968) (λx1 x2 x3 x4 x5 x6 x7 x8 x9 x10 x11 x12=>(k_nw_433 x5 CO.dfr (λx13 x14=>(k_nw_433 x14 (CO.loop LoopState.ready none x7 x6 x2 x3 x4 x13) (λx15 x16=>(l588 (k_app2 x11 ((CV.yld x15) :: []) x12) x1 x6 x7 x8 x9 x10 x13 x15 x16)))))) (λx1 x2 x3 x4 x5 x6 x7 x8 x9 x10 x11 x12 x13=>((λx14=>(k_rd_433 x6 x14 (λx15 x16=>(l595 x15 x2 x3 x4 x5 x7 x8 x9 x10 x11 x12 x13 x16)))) x1)) x0))
theorem l598_eq : ∀ x0 x1 x2 x3 x4 x5 x6 x7 x8 x9 x10 x11 x12, (Eq (l598 x0 x1 x2 x3 x4 x5 x6 x7 x8 x9 x10 x11 x12) (@Option.rec Nat (λ_=>t151) (k_nw_433 x5 CO.dfr (λx13 x14=>(k_nw_433 x14 (CO.loop LoopState.ready none x7 x6 x2 x3 x4 x13) (λx15 x16=>(l588 (k_app2 x11 ((CV.yld x15) :: []) x12) x1 x6 x7 x8 x9 x10 x13 x15 x16))))) (λx13=>((λx14=>(k_rd_433 x5 x14 (λx15 x16=>(l595 x15 x1 x2 x3 x4 x6 x7 x8 x9 x10 x11 x12 x16)))) x13)) x0)) := by intro t; cases t <;> (intros; rfl)
abbrev t1970:=S → t1333
abbrev t1971:=Code → t1970
abbrev t1972:=Code → t1971
abbrev t1973:=t1428 → t1972
abbrev t1974:=Run → t1973
abbrev t1975:=CV → t1974
def l599 : t1975 := (λx0=>(@CV.rec (λ_=>t1974) (λ_=>PUnit.{1}) (λ_ _ _ _ _ _ _ _ _=>none) (λ_ _ _ _ _ _ _ _ _ _=>none) (λ_ _ _ _ _ _ _ _ _ _ _=>none) (λ_ _ _ _ _ _ _ _ _ _ _ _ _ _=>none) (λ_ _ _ _ _ _ _ _ _=>none) (λ_ _ _ _ _ _ _ _ _ _=>none) (λ_ _ _ _ _ _ _ _ _ _ _=>none) (λ_ _ _ _ _ _ _ _ _ _ _=>none) (λx1 x2 x3 _ _ x6 x7 x8 x9 x10 x11 x12 x13 x14=>(l598 x14 x6 x7 x8 x9 x10 x11 x12 x13 x14 x1 x2 x3)) (λ_ _ _ _ _ _ _ _ _ _=>none) (λ_ _ _ _ _ _ _ _ _ _ _ _=>none) PUnit.unit.{1} (λ_ _ _ _=>PUnit.unit.{1}) x0))
theorem l599_eq : ∀ x0 x1 x2 x3 x4 x5 x6 x7 x8 x9, (Eq (l599 x0 x1 x2 x3 x4 x5 x6 x7 x8 x9) (@deferV._sparseCasesOn_1 (λ_=>t151) x0 (λx10 x11 x12=>(l598 x9 x1 x2 x3 x4 x5 x6 x7 x8 x9 x10 x11 x12)) (λ_=>none))) := by intro t; cases t <;> (intros; rfl)
abbrev t1976:=t81 → t1974
def l600 : t1976 := (λx0=>(@Option.rec CV (λ_=>t1974) (λ_ _ _ _ _ _ _ _ _=>none) (λx1 x2 x3 x4 x5 x6 x7 x8 x9 x10=>(l599 x1 x2 x3 x4 x5 x6 x7 x8 x9 x10)) x0))
theorem l600_eq : ∀ x0 x1 x2 x3 x4 x5 x6 x7 x8 x9, (Eq (l600 x0 x1 x2 x3 x4 x5 x6 x7 x8 x9) (@methV._sparseCasesOn_2 CV (λ_=>t151) x0 (λx10=>(l599 x10 x1 x2 x3 x4 x5 x6 x7 x8 x9)) (λ_=>none))) := by intro t; cases t <;> (intros; rfl)
abbrev t1977:=Code → t1325
abbrev t1978:=Code → t1977
abbrev t1979:=t1428 → t1978
abbrev t1980:=Operand → t1979
abbrev t1981:=Run → t1980
abbrev t1982:=Fr → t1981
def l601 : t1982 := (λx0=>(@Fr.rec (λ_=>t1981) (λx1 x2 x3 x4 x5 x6 x7 x8 x9 x10=>((λx11 x12 x13 x14=>(l600 (k_ev x12 x6) x5 x7 x8 x9 x10 x11 x12 x13 x14)) x1 x2 x3 x4)) x0))
theorem l601_eq : ∀ x0 x1 x2 x3 x4 x5 x6, (Eq (l601 x0 x1 x2 x3 x4 x5 x6) (@Fr.rec (λ_=>t151) (λx7 x8 x9 x10=>((λx11 x12 x13 x14=>(l600 (k_ev x12 x2) x1 x3 x4 x5 x6 x11 x12 x13 x14)) x7 x8 x9 x10)) x0)) := by intro t; cases t <;> (intros; rfl)
abbrev t1983:=t1428 → t1823
abbrev t1984:=Operand → t1983
abbrev t1985:=Run → t1984
abbrev t1986:=Program → t1985
def k_rangeN : t1986 := (λ_ x1 x2 x3 x4 x5 x6 x7=>(l601 x6 x1 x2 x3 x4 x5 x7))
theorem k_rangeN_eq : @k_rangeN = rangeN := by
  delta k_rangeN rangeN
  simp only [l582_eq, l583_eq, l600_eq, l589_eq, l592_eq, l588_eq, l579_eq, l593_eq, l599_eq, l584_eq, l594_eq, l601_eq, l585_eq, l590_eq, l595_eq, l598_eq, l591_eq]
  rw [k_wr_433_eq, k_rd_433_eq, k_nw_433_eq, k_app2_eq, k_ev_eq]
  all_goals kernel_rfl

def k_codeScope : t1841 := (λx0 x1 x2 x3=>(@Option.rec Nat (λ_=>t151) (Run.code x0 x1 x2 x3) (λx4=>((λ_=>none) x4)) (Fr.rd x2)))
theorem k_codeScope_eq : @k_codeScope = codeScope := by
  delta k_codeScope codeScope
  all_goals kernel_rfl

abbrev t1987:=Run → t1326
abbrev t1988:=Program → t1987
abbrev t1989:=Code → t1988
def l509 : t1989 := (λx0=>(@Code.rec (λ_=>t1988) (λ_ _ x3 x4=>(some (Ex.normal, (x3, x4)))) (λ_ x2 x3 x4 x5 x6 x7=>(k_codeReg x4 x5 x2 x3 x6 x7)) (λx1 x2 _ _ _ x6 x7 x8=>(k_codeSeq x6 x1 x2 x7 x8)) (λx1 x2 x3 _ _ _ x7 x8 x9=>(k_codeCond x7 x1 x2 x3 x8 x9)) (λx1 x2 _ _ x5 x6 x7=>(k_codeBlock x5 x1 x2 x6 x7)) (λx1 _ _ x4 x5 x6=>(k_codeLoop x4 x1 x5 x6)) (λx1 x2 x3 x4 _ _ x7 x8 x9 x10=>(k_rangeN x7 x8 x1 (@Array.toList Tmp x2) x3 x4 x9 x10)) (λx1 _ _ x4 x5=>(some ((Ex.exit x1), (x4, x5)))) (λx1 _ _ x4 x5 x6=>(k_codeScope x4 x1 x5 x6)) (λ_ _ _ x4 x5=>(some (Ex.normal, (x4, x5)))) (λ_ _ _ _ _=>none) (λ_ _ x3 x4=>(some (Ex.ret, (x3, x4)))) (λ_ _ _ _ _=>none) x0))
theorem l509_eq : ∀ x0, (Eq (l509 x0) (@codeF._sparseCasesOn_1 (λ_=>t1988) x0 (λ_ _ x3 x4=>(some (Ex.normal, (x3, x4)))) (λ_ _ _ x4 x5=>(some (Ex.normal, (x4, x5)))) (λ_ _ x3 x4=>(some (Ex.ret, (x3, x4)))) (λx1 _ _ x4 x5=>(some ((Ex.exit x1), (x4, x5)))) (λ_ x2 x3 x4 x5 x6 x7=>(k_codeReg x4 x5 x2 x3 x6 x7)) (λx1 x2 _ x4 x5 x6=>(k_codeSeq x4 x1 x2 x5 x6)) (λx1 x2 x3 _ x5 x6 x7=>(k_codeCond x5 x1 x2 x3 x6 x7)) (λx1 x2 _ x4 x5 x6=>(k_codeBlock x4 x1 x2 x5 x6)) (λx1 _ x3 x4 x5=>(k_codeLoop x3 x1 x4 x5)) (λx1 _ x3 x4 x5=>(k_codeScope x3 x1 x4 x5)) (λx1 x2 x3 x4 x5 x6 x7 x8=>(k_rangeN x5 x6 x1 (@Array.toList Tmp x2) x3 x4 x7 x8)) (λ_ _ _ _ _=>none))) := by intro t; cases t <;> (intros; rfl)
def k_codeF : t1989 := (λx0=>(l509 x0))
theorem k_codeF_eq : @k_codeF = codeF := by
  delta k_codeF codeF
  simp only [l509_eq]
  rw [k_codeScope_eq, k_rangeN_eq, k_codeLoop_eq, k_codeBlock_eq, k_codeCond_eq, k_codeSeq_eq, k_codeReg_eq]
  all_goals kernel_rfl

abbrev t1990:=Program → t1841
def k_codeN' : t1990 := (λx0 x1 x2 x3 x4=>(k_codeF x2 x0 x1 x3 x4))
theorem k_codeN'_eq : @k_codeN' = codeN' := by
  delta k_codeN' codeN'
  rw [k_codeF_eq]
  all_goals kernel_rfl

theorem k_codeN_eq : @k_codeN' = @codeN := k_codeN'_eq.trans codeN'_eq
abbrev t1991:=CO → t106
def l602 : t1991 := (λx0=>(@CO.rec (λ_=>t106) (λ_ _ _ _ _=>none) (λ_ _ _ _ _=>none) (λ_ _ x3 x4 x5 x6 x7 x8 x9 x10=>(k_wr_Ret x10 x9 (some (CO.loop LoopState.ready none x3 x4 x5 x6 x7 x8)) (λx11=>(some (Ret.ok (CV.val (Value.bool Bool.true)) x11))))) (λ_ _=>none) (λ_ _=>none) x0))
theorem l602_eq : ∀ x0 x1 x2, (Eq (l602 x0 x1 x2) (@roundN._sparseCasesOn_1 (λ_=>t4) x0 (λ_ _ x5 x6 x7 x8 x9 x10=>(k_wr_Ret x2 x1 (some (CO.loop LoopState.ready none x5 x6 x7 x8 x9 x10)) (λx11=>(some (Ret.ok (CV.val (Value.bool Bool.true)) x11))))) (λ_=>none))) := by intro t; cases t <;> (intros; rfl)
def l603 : t1991 := (λx0=>(@CO.rec (λ_=>t106) (λ_ _ _ _ _=>none) (λ_ _ _ _ _=>none) (λ_ _ x3 x4 x5 x6 x7 x8 x9 x10=>(k_wr_Ret x10 x9 (some (CO.loop LoopState.done (some Code.ret) x3 x4 x5 x6 x7 x8)) (λx11=>(some (Ret.ok (CV.val (Value.bool Bool.false)) x11))))) (λ_ _=>none) (λ_ _=>none) x0))
theorem l603_eq : ∀ x0 x1 x2, (Eq (l603 x0 x1 x2) (@roundN._sparseCasesOn_1 (λ_=>t4) x0 (λ_ _ x5 x6 x7 x8 x9 x10=>(k_wr_Ret x2 x1 (some (CO.loop LoopState.done (some Code.ret) x5 x6 x7 x8 x9 x10)) (λx11=>(some (Ret.ok (CV.val (Value.bool Bool.false)) x11))))) (λ_=>none))) := by intro t; cases t <;> (intros; rfl)
abbrev t1992:=CO → t984
def l604 : t1992 := (λx0=>(@CO.rec (λ_=>t984) (λ_ _ _ _ _ _=>none) (λ_ _ _ _ _ _=>none) (λ_ _ x3 x4 x5 x6 x7 x8 x9 x10 x11=>(k_wr_Ret x11 x9 (some (CO.loop LoopState.done (some (Code.exit x10)) x3 x4 x5 x6 x7 x8)) (λx12=>(some (Ret.ok (CV.val (Value.bool Bool.false)) x12))))) (λ_ _ _=>none) (λ_ _ _=>none) x0))
theorem l604_eq : ∀ x0 x1 x2 x3, (Eq (l604 x0 x1 x2 x3) (@roundN._sparseCasesOn_1 (λ_=>t4) x0 (λ_ _ x6 x7 x8 x9 x10 x11=>(k_wr_Ret x3 x1 (some (CO.loop LoopState.done (some (Code.exit x2)) x6 x7 x8 x9 x10 x11)) (λx12=>(some (Ret.ok (CV.val (Value.bool Bool.false)) x12))))) (λ_=>none))) := by intro t; cases t <;> (intros; rfl)
abbrev t1993:=t147 → t47
def l605 : t1993 := (λx0=>(@Prod.rec Fr S (λ_=>t47) (λx1 x2 x3 x4=>((λx5 _ x7=>(k_rd_Ret x7 x3 (λx8 x9=>(l604 x8 x3 x5 x9)))) x4 x1 x2)) x0))
theorem l605_eq : ∀ x0 x1 x2, (Eq (l605 x0 x1 x2) (@Prod.rec Fr S (λ_=>t4) (λx3 x4=>((λx5 _ x7=>(k_rd_Ret x7 x1 (λx8 x9=>(l604 x8 x1 x5 x9)))) x2 x3 x4)) x0)) := by intro t; cases t <;> (intros; rfl)
abbrev t1994:=Nat → t1297
abbrev t1995:=Ex → t1994
def l606 : t1995 := (λx0=>(@Ex.rec (λ_=>t1994) (λx1 x2=>(@Prod.rec Fr S (λ_=>t4) (λx3 x4=>((λ_ x6=>(k_rd_Ret x6 x1 (λx7 x8=>(l602 x7 x1 x8)))) x3 x4)) x2)) (λx1 x2 x3=>(l605 x3 x2 x1)) (λx1 x2=>(@Prod.rec Fr S (λ_=>t4) (λx3 x4=>((λ_ x6=>(k_rd_Ret x6 x1 (λx7 x8=>(l603 x7 x1 x8)))) x3 x4)) x2)) (λ_ _ _=>none) x0))
theorem l606_eq : ∀ x0 x1 x2, (Eq (l606 x0 x1 x2) (@roundN._sparseCasesOn_2 (λ_=>t4) x0 (@Prod.rec Fr S (λ_=>t4) (λx3 x4=>((λ_ x6=>(k_rd_Ret x6 x1 (λx7 x8=>(l602 x7 x1 x8)))) x3 x4)) x2) (@Prod.rec Fr S (λ_=>t4) (λx3 x4=>((λ_ x6=>(k_rd_Ret x6 x1 (λx7 x8=>(l603 x7 x1 x8)))) x3 x4)) x2) (λx3=>(l605 x2 x1 x3)) (λ_=>none))) := by intro t; cases t <;> (intros; rfl)
abbrev t1996:=t151 → t41
def l607 : t1996 := (λx0=>(@Option.rec t148 (λ_=>t41) (λ_=>none) (λx1 x2=>(@Prod.rec Ex t147 (λ_=>t4) (λx3 x4=>(l606 x3 x2 x4)) x1)) x0))
theorem l607_eq : ∀ x0 x1, (Eq (l607 x0 x1) (@methV._sparseCasesOn_2 t148 (λ_=>t4) x0 (λx2=>(@Prod.rec Ex t147 (λ_=>t4) (λx3 x4=>(l606 x3 x1 x4)) x2)) (λ_=>none))) := by intro t; cases t <;> (intros; rfl)
abbrev t1997:=Code → t41
abbrev t1998:=Code → t1997
abbrev t1999:=t1428 → t1998
abbrev t2000:=Nat → t1999
abbrev t2001:=t14 → t2000
abbrev t2002:=t1255 → t2001
abbrev t2003:=S → t2002
abbrev t2004:=t14 → t2003
abbrev t2005:=Code → t2004
abbrev t2006:=Nat → t2005
abbrev t2007:=Nat → t2006
abbrev t2008:=Run → t2007
abbrev t2009:=LoopState → t2008
def l608 : t2009 := (λx0=>(@LoopState.rec (λ_=>t2008) (λx1 x2 x3 x4 x5 x6 x7 x8 x9 x10 x11 x12 x13=>(k_wr_Ret x6 x2 (some (CO.loop LoopState.busy x7 x8 x9 x10 x11 x12 x13)) (λx14=>(l607 (Run.code x1 x4 (Fr.mk x3 x5 [] (some x2)) x14) x2)))) (λ_ _ _ _ _ _ _ _ _ _ _ _ _=>none) (λ_ _ _ _ _ _ _ _ _ _ _ _ _=>none) (λ_ _ _ _ _ _ _ _ _ _ _ _ _=>none) x0))
theorem l608_eq : ∀ x0 x1 x2 x3 x4 x5 x6 x7 x8 x9 x10 x11 x12 x13, (Eq (l608 x0 x1 x2 x3 x4 x5 x6 x7 x8 x9 x10 x11 x12 x13) (@roundN._sparseCasesOn_3 (λ_=>t4) x0 (k_wr_Ret x6 x2 (some (CO.loop LoopState.busy x7 x8 x9 x10 x11 x12 x13)) (λx14=>(l607 (Run.code x1 x4 (Fr.mk x3 x5 [] (some x2)) x14) x2))) (λ_=>none))) := by intro t; cases t <;> (intros; rfl)
abbrev t2010:=Code → t1141
abbrev t2011:=Nat → t2010
abbrev t2012:=Nat → t2011
abbrev t2013:=Run → t2012
abbrev t2014:=CO → t2013
def l609 : t2014 := (λx0=>(@CO.rec (λ_=>t2013) (λ_ _ _ _ _ _ _ _ _=>none) (λ_ _ _ _ _ _ _ _ _=>none) (λx1 x2 x3 x4 x5 x6 x7 x8 x9 x10 x11 x12 x13 x14=>(l608 x1 x9 x10 x11 x12 x13 x14 x2 x3 x4 x5 x6 x7 x8)) (λ_ _ _ _ _ _=>none) (λ_ _ _ _ _ _=>none) x0))
theorem l609_eq : ∀ x0 x1 x2 x3 x4 x5 x6, (Eq (l609 x0 x1 x2 x3 x4 x5 x6) (@roundN._sparseCasesOn_1 (λ_=>t4) x0 (λx7 x8 x9 x10 x11 x12 x13 x14=>(l608 x7 x1 x2 x3 x4 x5 x6 x8 x9 x10 x11 x12 x13 x14)) (λ_=>none))) := by intro t; cases t <;> (intros; rfl)
abbrev t2015:=t14 → t4
abbrev t2016:=S → t2015
abbrev t2017:=Code → t2016
abbrev t2018:=Nat → t2017
abbrev t2019:=Nat → t2018
abbrev t2020:=Run → t2019
abbrev t2021:=t141 → t2020
def l610 : t2021 := (λx0=>(@List.rec SD (λ_=>t2020) (λx1 x2 x3 x4 x5 x6=>(k_rd_Ret x5 x2 (λx7 x8=>(l609 x7 x1 x2 x3 x4 x6 x8)))) (λ_ _ _ _ _ _ _ _ _=>none) x0))
theorem l610_eq : ∀ x0 x1 x2 x3 x4 x5 x6, (Eq (l610 x0 x1 x2 x3 x4 x5 x6) (@methV._sparseCasesOn_1 SD (λ_=>t4) x0 (k_rd_Ret x5 x2 (λx7 x8=>(l609 x7 x1 x2 x3 x4 x6 x8))) (λ_=>none))) := by intro t; cases t <;> (intros; rfl)
abbrev t2022:=Nat → t1306
abbrev t2023:=Nat → t2022
abbrev t2024:=Run → t2023
abbrev t2025:=t147 → t2024
def l611 : t2025 := (λx0=>(@Prod.rec Fr S (λ_=>t2024) (λx1 x2 x3 x4 x5 x6=>(@Fr.rec (λ_=>t4) (λ_ x8 x9 _=>(l610 x9 x3 x4 x5 x6 x2 x8)) x1)) x0))
theorem l611_eq : ∀ x0 x1 x2 x3 x4, (Eq (l611 x0 x1 x2 x3 x4) (@Prod.rec Fr S (λ_=>t4) (λx5 x6=>(@Fr.rec (λ_=>t4) (λ_ x8 x9 _=>(l610 x9 x1 x2 x3 x4 x6 x8)) x5)) x0)) := by intro t; cases t <;> (intros; rfl)
abbrev t2026:=Code → t1297
abbrev t2027:=Nat → t2026
abbrev t2028:=Nat → t2027
abbrev t2029:=Run → t2028
abbrev t2030:=Ex → t2029
def l612 : t2030 := (λx0=>(@Ex.rec (λ_=>t2029) (λx1 x2 x3 x4 x5=>(l611 x5 x1 x2 x3 x4)) (λ_ _ _ _ _ _=>none) (λ_ _ _ _ _=>none) (λ_ _ _ _ _ _=>none) x0))
theorem l612_eq : ∀ x0 x1 x2 x3 x4 x5, (Eq (l612 x0 x1 x2 x3 x4 x5) (@codeD._sparseCasesOn_1 (λ_=>t4) x0 (l611 x5 x1 x2 x3 x4) (λ_=>none))) := by intro t; cases t <;> (intros; rfl)
abbrev t2031:=t151 → t2024
def l613 : t2031 := (λx0=>(@Option.rec t148 (λ_=>t2024) (λ_ _ _ _=>none) (λx1 x2 x3 x4 x5=>(@Prod.rec Ex t147 (λ_=>t4) (λx6 x7=>(l612 x6 x2 x3 x4 x5 x7)) x1)) x0))
theorem l613_eq : ∀ x0 x1 x2 x3 x4, (Eq (l613 x0 x1 x2 x3 x4) (@methV._sparseCasesOn_2 t148 (λ_=>t4) x0 (λx5=>(@Prod.rec Ex t147 (λ_=>t4) (λx6 x7=>(l612 x6 x1 x2 x3 x4 x7)) x5)) (λ_=>none))) := by intro t; cases t <;> (intros; rfl)
abbrev t2032:=Code → t1306
abbrev t2033:=Nat → t2032
abbrev t2034:=S → t2033
abbrev t2035:=Nat → t2034
abbrev t2036:=Run → t2035
abbrev t2037:=t165 → t2036
def l614 : t2037 := (λx0=>(@Option.rec t14 (λ_=>t2036) (λ_ _ _ _ _ _=>none) (λx1 x2 x3 x4 x5 x6 x7=>((λx8=>(l613 (Run.code x2 x6 (Fr.mk x5 x8 [] (some x3)) x4) x2 x3 x5 x7)) x1)) x0))
theorem l614_eq : ∀ x0 x1 x2 x3 x4 x5 x6, (Eq (l614 x0 x1 x2 x3 x4 x5 x6) (@Option.rec t14 (λ_=>t4) none (λx7=>((λx8=>(l613 (Run.code x1 x5 (Fr.mk x4 x8 [] (some x2)) x3) x1 x2 x4 x6)) x7)) x0)) := by intro t; cases t <;> (intros; rfl)
def l616 : t1253 := (λx0=>(@List.rec CV (λ_=>t166) (λx1=>(some x1)) (λ_ _ _ _=>none) x0))
theorem l616_eq : ∀ x0 x1, (Eq (l616 x0 x1) (@methV._sparseCasesOn_1 CV (λ_=>t165) x0 (some x1) (λ_=>none))) := by intro t; cases t <;> (intros; rfl)
abbrev t2038:=t1254 → t165
abbrev t2039:=Nat → t2038
abbrev t2040:=t14 → t2039
abbrev t2041:=Nat → t2040
abbrev t2042:=t7 → t2041
def l617 : t2042 := (λx0=>(@List.rec CV (λ_=>t2041) (λ_ _ _ _=>none) (λx1 x2 _ x4 x5 x6 x7=>(@Bool.rec (λ_=>t165) none (@Option.rec t14 (λ_=>t165) none (λx8=>(x7 x4 x2 x8)) (setCV (nat_lit 24) x5 x6 (some x1))) (k_Nat_blt x6 x4))) x0))
theorem l617_eq : ∀ x0 x1 x2 x3 x4, (Eq (l617 x0 x1 x2 x3 x4) (@setPs._sparseCasesOn_1 CV (λ_=>t165) x0 (λx5 x6=>(@Bool.rec (λ_=>t165) none (@Option.rec t14 (λ_=>t165) none (λx7=>(x4 x1 x6 x7)) (setCV (nat_lit 24) x2 x3 (some x5))) (k_Nat_blt x3 x1))) (λ_=>none))) := by intro t; cases t <;> (intros; rfl)
abbrev t2043:=t1428 → t1253
abbrev t2044:=Nat → t2043
def k_setPs : t2044 := (λx0 x1 x2 x3=>(@List.rec Nat (λ_=>t1254) (λ_ x5 x6=>(l616 x5 x6)) (λx4 _ x6 x7 x8 x9=>(l617 x8 x7 x9 x4 x6)) x1 x0 x2 x3))
theorem k_setPs_law : ∀ x0 x1 x2 x3, (Eq (k_setPs x1 x0 x2 x3) (setPs x1 x0 x2 x3)) := by
  intro t
  induction t with
  | nil  =>
    intro z0 z1 z2
    show ((fun (_ : Nat) (x1 : t7) (x2 : t14) => (l616 x1 x2)) z0 z1 z2) = _
    conv => rhs; rw [Ev.setPs.eq_def]
    try simp only [l616_eq]
    all_goals kernel_rfl
  | cons y0 y1 ih0 =>
    intro z0 z1 z2
    have e0 : (fun (x0 : Nat) (x1 : t7) (x2 : t14) => (k_setPs x0 y1 x1 x2)) = (fun (x0 : Nat) (x1 : t7) (x2 : t14) => (setPs x0 y1 x1 x2)) := by
      funext z0 z1 z2; exact ih0 z0 z1 z2
    show ((fun (x0 : Nat) (_ : t1428) (x2 : t1254) (x3 : Nat) (x4 : t7) (x5 : t14) => (l617 x4 x3 x5 x0 x2)) y0 y1 (fun (x0 : Nat) (x1 : t7) (x2 : t14) => (k_setPs x0 y1 x1 x2)) z0 z1 z2) = _
    rw [e0]
    conv => rhs; rw [Ev.setPs.eq_def]
    try simp only [l617_eq]
    try rw [k_Nat_blt_eq]
    try rw [setCV_eq]
    all_goals kernel_rfl
theorem k_setPs_eq : @k_setPs = setPs := by
  funext a0 a1 a2 a3; exact k_setPs_law a1 a0 a2 a3
abbrev t2045:=Run → t1103
abbrev t2046:=CO → t2045
def l615 : t2046 := (λx0=>(@CO.rec (λ_=>t2045) (λ_ _ _ _ _ _ _=>none) (λ_ _ _ _ _ _ _=>none) (λ_ _ x3 x4 x5 x6 x7 _ x9 x10 x11 x12=>(l614 (k_setPs x4 x5 x11 x3) x9 x10 x12 x4 x6 x7)) (λ_ _ _ _=>none) (λ_ _ _ _=>none) x0))
theorem l615_eq : ∀ x0 x1 x2 x3 x4, (Eq (l615 x0 x1 x2 x3 x4) (@roundN._sparseCasesOn_1 (λ_=>t4) x0 (λ_ _ x7 x8 x9 x10 x11 _=>(l614 (k_setPs x8 x9 x3 x7) x1 x2 x4 x8 x10 x11)) (λ_=>none))) := by intro t; cases t <;> (intros; rfl)
abbrev t2047:=Program → t2045
def k_roundN : t2047 := (λ_ x1 x2 x3 x4=>(k_rd_Ret x4 x2 (λx5 x6=>(l615 x5 x1 x2 x3 x6))))
theorem k_roundN_eq : @k_roundN = roundN := by
  delta k_roundN roundN
  simp only [l605_eq, l613_eq, l615_eq, l612_eq, l604_eq, l607_eq, l614_eq, l611_eq, l606_eq, l608_eq, l609_eq, l603_eq, l610_eq, l602_eq]
  rw [k_rd_Ret_eq, k_wr_Ret_eq, k_setPs_eq]
  all_goals kernel_rfl

abbrev t2048:=t6 → Run
abbrev t2049:=Program → t2048
abbrev t2050:=Nat → Run
abbrev t2051:=t6 → t2050
abbrev t2052:=Program → t2051
def k_runT : t2052 := (λx0 x1 x2=>(@Nat.rec (λ_=>t2049) (λ_ _=>(Run.mk (λ_ _ _=>none) (λ_ _ _=>none) (λ_ _ _=>none))) (λ_ x4 x5 x6=>(Run.mk (k_callT x5 x6 (x4 x5 x6)) (k_codeN' x5 (x4 x5 x6)) (k_roundN x5 (x4 x5 x6)))) x2 x0 x1))
theorem k_runT_law : ∀ x0 x1 x2, (Eq (k_runT x1 x2 x0) (Ev.runT x1 x2 x0)) := by
  intro t
  induction t with
  | zero  =>
    intro z0 z1
    show ((fun (_ : Program) (_ : t6) => (Run.mk (fun (_ : FuncId) (_ : t7) (_ : S) => none) (fun (_ : Code) (_ : Fr) (_ : S) => none) (fun (_ : Nat) (_ : t7) (_ : S) => none))) z0 z1) = _
    conv => rhs; rw [Ev.runT.eq_def]
    all_goals kernel_rfl
  | succ y0 ih0 =>
    intro z0 z1
    have e0 : (fun (x0 : Program) (x1 : t6) => (k_runT x0 x1 y0)) = (fun (x0 : Program) (x1 : t6) => (Ev.runT x0 x1 y0)) := by
      funext z0 z1; exact ih0 z0 z1
    show ((fun (_ : Nat) (x1 : t2049) (x2 : Program) (x3 : t6) => (Run.mk (k_callT x2 x3 (x1 x2 x3)) (k_codeN' x2 (x1 x2 x3)) (k_roundN x2 (x1 x2 x3)))) y0 (fun (x0 : Program) (x1 : t6) => (k_runT x0 x1 y0)) z0 z1) = _
    rw [e0]
    conv => rhs; rw [Ev.runT.eq_def]
    try rw [k_roundN_eq]
    try rw [k_codeN_eq]
    try rw [k_callT_eq]
    all_goals kernel_rfl
theorem k_runT_eq : @k_runT = Ev.runT := by
  funext a0 a1 a2; exact k_runT_law a2 a0 a1
def k_S0 : S := (S.mk (@Tr.nil CO) (nat_lit 0) (nat_lit 0) (nat_lit 0))
theorem k_S0_eq : @k_S0 = S0 := by
  delta k_S0 S0
  all_goals kernel_rfl

abbrev t2053:=Nat → t6
abbrev t2054:=t6 → t2053
abbrev t2055:=Program → t2054
def k_saysT : t2055 := (λx0 x1 x2 x3=>(l4 (Run.call (k_runT x0 x1 x2) x3 [] k_S0)))
theorem k_saysT_eq : @k_saysT = saysT := by
  delta k_saysT saysT
  simp only [l2_eq, l4_eq, l0_eq, l1_eq, l3_eq]
  rw [k_S0_eq, k_runT_eq]
  all_goals kernel_rfl

abbrev t2056:=Option t147
abbrev t2057:=t14 → t2056
abbrev t2058:=Nat → t2057
abbrev t2059:=Nat → t2058
abbrev t2060:=t207 → t2059
def l618 : t2060 := (λx0=>(@Option.rec t46 (λ_=>t2059) (λ_ _ _=>none) (λx1 x2 x3 x4=>(some ((Fr.mk x2 x4 [] none), (S.mk x1 x3 (nat_lit 0) (nat_lit 0))))) x0))
theorem l618_eq : ∀ x0 x1 x2 x3, (Eq (l618 x0 x1 x2 x3) (@methV._sparseCasesOn_2 t46 (λ_=>t2056) x0 (λx4=>(some ((Fr.mk x1 x3 [] none), (S.mk x4 x2 (nat_lit 0) (nat_lit 0))))) (λ_=>none))) := by intro t; cases t <;> (intros; rfl)
abbrev t2061:=t46 → t207
abbrev t2062:=t46 → t2061
abbrev t2063:=t1428 → t2062
end
end Go.EvK
