/- Forms of the definitions that the kernel runs fast, each proved equal. No condition. -/
import Derived.Test.YtdobapekmlihdaaGreatIsP7b
import Derived.KernelRfl
set_option linter.unusedVariables false
set_option linter.unusedSimpArgs false
set_option maxRecDepth 100000
namespace Go.EvK
open Go.Eng Go.Ev
noncomputable section
def k_keepO : t2063 := (λx0 x1 x2=>(@List.rec Nat (λ_=>t2062) (λ_ x4=>(some x4)) (λx3 _ x5 x6 x7=>(@Option.rec CO (λ_=>t207) none (λx8=>(@Option.rec t46 (λ_=>t207) none (λx9=>(x5 x6 x9)) (setCO (nat_lit 24) x7 x3 (some x8)))) (getCO x6 x3))) x0 x1 x2))
theorem k_keepO_law : ∀ x0 x1 x2, (Eq (k_keepO x0 x1 x2) (keepO x0 x1 x2)) := by
  intro t
  induction t with
  | nil  =>
    intro z0 z1
    show ((fun (_ : t46) (x1 : t46) => (some x1)) z0 z1) = _
    conv => rhs; rw [Ev.keepO.eq_def]
    all_goals kernel_rfl
  | cons y0 y1 ih0 =>
    intro z0 z1
    have e0 : (fun (x0 : t46) (x1 : t46) => (k_keepO y1 x0 x1)) = (fun (x0 : t46) (x1 : t46) => (keepO y1 x0 x1)) := by
      funext z0 z1; exact ih0 z0 z1
    show ((fun (x0 : Nat) (_ : t1428) (x2 : t2062) (x3 : t46) (x4 : t46) => (@Option.rec CO (fun (_ : t44) => t207) none (fun (x5 : CO) => (@Option.rec t46 (fun (_ : t207) => t207) none (fun (x6 : t46) => (x2 x3 x6)) (setCO (nat_lit 24) x4 x0 (some x5)))) (getCO x3 x0))) y0 y1 (fun (x0 : t46) (x1 : t46) => (k_keepO y1 x0 x1)) z0 z1) = _
    rw [e0]
    conv => rhs; rw [Ev.keepO.eq_def]
    try rw [getCO_eq]
    try rw [setCO_eq]
    all_goals kernel_rfl
theorem k_keepO_eq : @k_keepO = keepO := by
  funext a0 a1 a2; exact k_keepO_law a0 a1 a2
abbrev t2064:=Nat → t2056
abbrev t2065:=t46 → t2064
abbrev t2066:=Nat → t2065
abbrev t2067:=t1428 → t2066
abbrev t2068:=t165 → t2067
def l619 : t2068 := (λx0=>(@Option.rec t14 (λ_=>t2067) (λ_ _ _ _=>none) (λx1 x2 x3 x4 x5=>(l618 (k_keepO x2 x4 (@Tr.nil CO)) x3 x5 x1)) x0))
theorem l619_eq : ∀ x0 x1 x2 x3 x4, (Eq (l619 x0 x1 x2 x3 x4) (@methV._sparseCasesOn_2 t14 (λ_=>t2056) x0 (λx5=>(l618 (k_keepO x1 x3 (@Tr.nil CO)) x2 x4 x5)) (λ_=>none))) := by intro t; cases t <;> (intros; rfl)
abbrev t2069:=t14 → t166
abbrev t2070:=t1428 → t2069
def k_keepV : t2070 := (λx0 x1 x2=>(@List.rec Nat (λ_=>t2069) (λ_ x4=>(some x4)) (λx3 _ x5 x6 x7=>(@Option.rec CV (λ_=>t165) none (λx8=>(@Option.rec t14 (λ_=>t165) none (λx9=>(x5 x6 x9)) (setCV (nat_lit 24) x7 x3 (some x8)))) (getCV x6 x3))) x0 x1 x2))
theorem k_keepV_law : ∀ x0 x1 x2, (Eq (k_keepV x0 x1 x2) (keepV x0 x1 x2)) := by
  intro t
  induction t with
  | nil  =>
    intro z0 z1
    show ((fun (_ : t14) (x1 : t14) => (some x1)) z0 z1) = _
    conv => rhs; rw [Ev.keepV.eq_def]
    all_goals kernel_rfl
  | cons y0 y1 ih0 =>
    intro z0 z1
    have e0 : (fun (x0 : t14) (x1 : t14) => (k_keepV y1 x0 x1)) = (fun (x0 : t14) (x1 : t14) => (keepV y1 x0 x1)) := by
      funext z0 z1; exact ih0 z0 z1
    show ((fun (x0 : Nat) (_ : t1428) (x2 : t2069) (x3 : t14) (x4 : t14) => (@Option.rec CV (fun (_ : t81) => t165) none (fun (x5 : CV) => (@Option.rec t14 (fun (_ : t165) => t165) none (fun (x6 : t14) => (x2 x3 x6)) (setCV (nat_lit 24) x4 x0 (some x5)))) (getCV x3 x0))) y0 y1 (fun (x0 : t14) (x1 : t14) => (k_keepV y1 x0 x1)) z0 z1) = _
    rw [e0]
    conv => rhs; rw [Ev.keepV.eq_def]
    try rw [getCV_eq]
    try rw [setCV_eq]
    all_goals kernel_rfl
theorem k_keepV_eq : @k_keepV = keepV := by
  funext a0 a1 a2; exact k_keepV_law a0 a1 a2
abbrev t2071:=t1428 → t2058
abbrev t2072:=t1428 → t2071
abbrev t2073:=S → t2072
def l620 : t2073 := (λx0=>(@S.rec (λ_=>t2072) (λx1 x2 x3 x4 x5 x6 x7 x8=>((λx9 x10 x11 x12 _ _=>(l619 (k_keepV x5 x10 (@Tr.nil CV)) x6 x9 x11 x12)) x7 x8 x1 x2 x3 x4)) x0))
theorem l620_eq : ∀ x0 x1 x2 x3 x4, (Eq (l620 x0 x1 x2 x3 x4) (@S.rec (λ_=>t2056) (λx5 x6 x7 x8=>((λx9 x10 x11 x12 _ _=>(l619 (k_keepV x1 x10 (@Tr.nil CV)) x2 x9 x11 x12)) x3 x4 x5 x6 x7 x8)) x0)) := by intro t; cases t <;> (intros; rfl)
abbrev t2074:=S → t2058
abbrev t2075:=t1428 → t2074
abbrev t2076:=t1428 → t2075
abbrev t2077:=t164 → t2076
def l621 : t2077 := (λx0=>(@Option.rec Nat (λ_=>t2076) (λx1 x2 x3 x4 x5=>(l620 x3 x1 x2 x4 x5)) (λ_ _ _ _ _ _=>none) x0))
theorem l621_eq : ∀ x0 x1 x2 x3 x4 x5, (Eq (l621 x0 x1 x2 x3 x4 x5) (@rangeN._sparseCasesOn_2 Nat (λ_=>t2056) x0 (l620 x3 x1 x2 x4 x5) (λ_=>none))) := by intro t; cases t <;> (intros; rfl)
abbrev t2078:=t164 → t2056
abbrev t2079:=t14 → t2078
abbrev t2080:=Nat → t2079
abbrev t2081:=S → t2080
abbrev t2082:=t1428 → t2081
abbrev t2083:=t1428 → t2082
abbrev t2084:=t141 → t2083
def l622 : t2084 := (λx0=>(@List.rec SD (λ_=>t2083) (λx1 x2 x3 x4 x5 x6=>(l621 x6 x1 x2 x3 x4 x5)) (λ_ _ _ _ _ _ _ _ _=>none) x0))
theorem l622_eq : ∀ x0 x1 x2 x3 x4 x5 x6, (Eq (l622 x0 x1 x2 x3 x4 x5 x6) (@methV._sparseCasesOn_1 SD (λ_=>t2056) x0 (l621 x6 x1 x2 x3 x4 x5) (λ_=>none))) := by intro t; cases t <;> (intros; rfl)
abbrev t2085:=t1428 → t2056
abbrev t2086:=t1428 → t2085
abbrev t2087:=t147 → t2086
def l623 : t2087 := (λx0=>(@Prod.rec Fr S (λ_=>t2086) (λx1 x2 x3 x4=>(@Fr.rec (λ_=>t2056) (λx5 x6 x7 x8=>(l622 x7 x3 x4 x2 x5 x6 x8)) x1)) x0))
theorem l623_eq : ∀ x0 x1 x2, (Eq (l623 x0 x1 x2) (@Prod.rec Fr S (λ_=>t2056) (λx3 x4=>(@Fr.rec (λ_=>t2056) (λx5 x6 x7 x8=>(l622 x7 x1 x2 x4 x5 x6 x8)) x3)) x0)) := by intro t; cases t <;> (intros; rfl)
abbrev t2088:=t2056 → t2086
def l624 : t2088 := (λx0=>(@Option.rec t147 (λ_=>t2086) (λ_ _=>none) (λx1 x2 x3=>(l623 x1 x2 x3)) x0))
theorem l624_eq : ∀ x0 x1 x2, (Eq (l624 x0 x1 x2) (@methV._sparseCasesOn_2 t147 (λ_=>t2056) x0 (λx3=>(l623 x3 x1 x2)) (λ_=>none))) := by intro t; cases t <;> (intros; rfl)
abbrev t2089:=S → t2056
abbrev t2090:=Fr → t2089
abbrev t2091:=Code → t2090
abbrev t2092:=Run → t2091
abbrev t2093:=t147 → t2056
abbrev t2094:=Code → t2093
abbrev t2095:=t2092 → t2094
abbrev t2096:=Run → t2095
abbrev t2097:=Ex → t2096
def l626 : t2097 := (λx0=>(@Ex.rec (λ_=>t2096) (λx1 x2 x3 x4=>(@Prod.rec Fr S (λ_=>t2056) (λx5 x6=>(x2 x1 x3 x5 x6)) x4)) (λ_ _ _ _ _=>none) (λ_ _ _ _=>none) (λ_ _ _ _ _=>none) x0))
theorem l626_eq : ∀ x0 x1 x2 x3 x4, (Eq (l626 x0 x1 x2 x3 x4) (@codeD._sparseCasesOn_1 (λ_=>t2056) x0 (@Prod.rec Fr S (λ_=>t2056) (λx5 x6=>(x2 x1 x3 x5 x6)) x4) (λ_=>none))) := by intro t; cases t <;> (intros; rfl)
abbrev t2098:=Code → t2056
abbrev t2099:=t2092 → t2098
abbrev t2100:=Run → t2099
abbrev t2101:=t151 → t2100
def l627 : t2101 := (λx0=>(@Option.rec t148 (λ_=>t2100) (λ_ _ _=>none) (λx1 x2 x3 x4=>(@Prod.rec Ex t147 (λ_=>t2056) (λx5 x6=>(l626 x5 x2 x3 x4 x6)) x1)) x0))
theorem l627_eq : ∀ x0 x1 x2 x3, (Eq (l627 x0 x1 x2 x3) (@methV._sparseCasesOn_2 t148 (λ_=>t2056) x0 (λx4=>(@Prod.rec Ex t147 (λ_=>t2056) (λx5 x6=>(l626 x5 x1 x2 x3 x6)) x4)) (λ_=>none))) := by intro t; cases t <;> (intros; rfl)
abbrev t2102:=t2092 → t2056
abbrev t2103:=S → t2102
abbrev t2104:=Fr → t2103
abbrev t2105:=Run → t2104
abbrev t2106:=Code → t2105
def l628 : t2106 := (λx0=>(@Code.rec (λ_=>t2105) (λ_ _ _ _=>none) (λ_ _ _ _ _ _ _=>none) (λx1 x2 _ _ x5 x6 x7 x8=>(l627 (Run.code x5 x1 x6 x7) x5 x8 x2)) (λ_ _ _ _ _ _ _ _ _=>none) (λ_ _ _ _ _ _ _=>none) (λ_ _ _ _ _ _=>none) (λ_ _ _ _ _ _ _ _ _ _=>none) (λ_ _ _ _ _=>none) (λ_ _ _ _ _ _=>none) (λ_ _ _ _ _=>none) (λ_ _ _ _ _=>none) (λ_ _ _ _=>none) (λ_ _ _ _ _=>none) x0))
theorem l628_eq : ∀ x0 x1 x2 x3 x4, (Eq (l628 x0 x1 x2 x3 x4) (@dropC._sparseCasesOn_1 (λ_=>t2056) x0 (λx5 x6=>(l627 (Run.code x1 x5 x2 x3) x1 x4 x6)) (λ_=>none))) := by intro t; cases t <;> (intros; rfl)
abbrev t2107:=Nat → t2091
abbrev t2108:=Run → t2107
def k_cutR : t2108 := (λx0 x1 x2 x3 x4=>(@Nat.rec (λ_=>t2092) (λ_ _ x7 x8=>(some (x7, x8))) (λ_ x6 x7 x8 x9 x10=>(l628 x8 x7 x9 x10 x6)) x1 x0 x2 x3 x4))
theorem k_cutR_law : ∀ x0 x1 x2 x3 x4, (Eq (k_cutR x1 x0 x2 x3 x4) (cutR x1 x0 x2 x3 x4)) := by
  intro t
  induction t with
  | zero  =>
    intro z0 z1 z2 z3
    show ((fun (_ : Run) (_ : Code) (x2 : Fr) (x3 : S) => (some (x2, x3))) z0 z1 z2 z3) = _
    conv => rhs; rw [Ev.cutR.eq_def]
    all_goals kernel_rfl
  | succ y0 ih0 =>
    intro z0 z1 z2 z3
    have e0 : (fun (x0 : Run) (x1 : Code) (x2 : Fr) (x3 : S) => (k_cutR x0 y0 x1 x2 x3)) = (fun (x0 : Run) (x1 : Code) (x2 : Fr) (x3 : S) => (cutR x0 y0 x1 x2 x3)) := by
      funext z0 z1 z2 z3; exact ih0 z0 z1 z2 z3
    show ((fun (_ : Nat) (x1 : t2092) (x2 : Run) (x3 : Code) (x4 : Fr) (x5 : S) => (l628 x3 x2 x4 x5 x1)) y0 (fun (x0 : Run) (x1 : Code) (x2 : Fr) (x3 : S) => (k_cutR x0 y0 x1 x2 x3)) z0 z1 z2 z3) = _
    rw [e0]
    conv => rhs; rw [Ev.cutR.eq_def]
    try simp only [l628_eq, l627_eq, l626_eq]
    all_goals kernel_rfl
theorem k_cutR_eq : @k_cutR = cutR := by
  funext a0 a1 a2 a3 a4; exact k_cutR_law a1 a0 a2 a3 a4
abbrev t2109:=Code → t1255
abbrev t2110:=t2109 → t1255
abbrev t2111:=Code → t2110
def l629 : t2111 := (λx0=>(@Code.rec (λ_=>t2110) (λ_=>none) (λ_ _ _ _=>none) (λ_ x2 _ _ x5=>(x5 x2)) (λ_ _ _ _ _ _=>none) (λ_ _ _ _=>none) (λ_ _ _=>none) (λ_ _ _ _ _ _ _=>none) (λ_ _=>none) (λ_ _ _=>none) (λ_ _=>none) (λ_ _=>none) (λ_=>none) (λ_ _=>none) x0))
theorem l629_eq : ∀ x0 x1, (Eq (l629 x0 x1) (@dropC._sparseCasesOn_1 (λ_=>t1255) x0 (λ_ x3=>(x1 x3)) (λ_=>none))) := by intro t; cases t <;> (intros; rfl)
abbrev t2112:=Nat → t2109
def k_dropC : t2112 := (λx0 x1=>(@Nat.rec (λ_=>t2109) (λx2=>(some x2)) (λ_ x3 x4=>(l629 x4 x3)) x0 x1))
theorem k_dropC_law : ∀ x0 x1, (Eq (k_dropC x0 x1) (dropC x0 x1)) := by
  intro t
  induction t with
  | zero  =>
    intro z0
    show ((fun (x0 : Code) => (some x0)) z0) = _
    conv => rhs; rw [Ev.dropC.eq_def]
    all_goals kernel_rfl
  | succ y0 ih0 =>
    intro z0
    have e0 : (fun (x0 : Code) => (k_dropC y0 x0)) = (fun (x0 : Code) => (dropC y0 x0)) := by
      funext z0; exact ih0 z0
    show ((fun (_ : Nat) (x1 : t2109) (x2 : Code) => (l629 x2 x1)) y0 (fun (x0 : Code) => (k_dropC y0 x0)) z0) = _
    rw [e0]
    conv => rhs; rw [Ev.dropC.eq_def]
    try simp only [l629_eq]
    all_goals kernel_rfl
theorem k_dropC_eq : @k_dropC = dropC := by
  funext a0 a1; exact k_dropC_law a0 a1
abbrev t2113:=t1428 → t2090
abbrev t2114:=t1428 → t2113
abbrev t2115:=Nat → t2114
abbrev t2116:=Nat → t2115
abbrev t2117:=Nat → t2116
abbrev t2118:=t6 → t2117
abbrev t2119:=Program → t2118
abbrev t2120:=t1255 → t2119
def l625 : t2120 := (λx0=>(@Option.rec Code (λ_=>t2119) (λ_ _ _ _ _ _ _ _ _=>none) (λx1 x2 x3 x4 x5 x6 x7 x8 x9 x10=>((λx11=>(@Option.rec Code (λ_=>t2056) none (λx12=>((λx13=>(l624 (k_cutR (k_runT x2 x3 x4) x6 x13 x9 x10) x7 x8)) x12)) (k_dropC x5 x11))) x1)) x0))
theorem l625_eq : ∀ x0 x1 x2 x3 x4 x5 x6 x7 x8 x9, (Eq (l625 x0 x1 x2 x3 x4 x5 x6 x7 x8 x9) (@Option.rec Code (λ_=>t2056) none (λx10=>((λx11=>(@Option.rec Code (λ_=>t2056) none (λx12=>((λx13=>(l624 (k_cutR (k_runT x1 x2 x3) x5 x13 x8 x9) x6 x7)) x12)) (k_dropC x4 x11))) x10)) x0)) := by intro t; cases t <;> (intros; rfl)
abbrev t2121:=FuncId → t2116
abbrev t2122:=Nat → t2121
abbrev t2123:=t6 → t2122
abbrev t2124:=Program → t2123
def k_segT : t2124 := (λx0 x1 x2 x3 x4 x5 x6 x7 x8 x9=>(@Option.rec Func (λ_=>t2056) none (λx10=>((λx11=>(l625 (Func.body x11) x0 x1 x2 x4 x5 x6 x7 x8 x9)) x10)) (@GetElem?.getElem? (Array Func) FuncId Func (λx10 x11=>(@LT.lt Nat instLTNat x11 (@Array.size Func x10))) (@Array.instGetElem?NatLtSize Func) (Program.funcs x0) x3)))
theorem k_segT_eq : @k_segT = segT := by
  delta k_segT segT
  simp only [l623_eq, l625_eq, l619_eq, l621_eq, l622_eq, l624_eq, l620_eq, l618_eq]
  rw [k_keepO_eq, k_keepV_eq, k_dropC_eq, k_cutR_eq, k_runT_eq]
  all_goals kernel_rfl

def l631 : t0 := (λx0=>(@Bool.rec (λ_=>Bool) Bool.false Bool.true x0))
theorem l631_eq : ∀ x0, (Eq (l631 x0) (@saysT._sparseCasesOn_1 (λ_=>Bool) x0 Bool.true (λ_=>Bool.false))) := by intro t; cases t <;> (intros; rfl)
def l632 : t1 := (λx0=>(@Value.rec (λ_=>Bool) (λ_=>PUnit.{1}) (λ_=>PUnit.{1}) (λx1=>(l631 x1)) (λ_ _=>Bool.false) (λ_ _=>Bool.false) (λ_ _ _=>Bool.false) (λ_=>Bool.false) (λ_=>Bool.false) (λ_ _ _=>Bool.false) (λ_=>Bool.false) (λ_=>Bool.false) (λ_ _ _ _ _=>Bool.false) Bool.false (λ_ _ _=>Bool.false) Bool.false (λ_ _=>Bool.false) (λ_ _=>Bool.false) (λ_ _=>PUnit.unit.{1}) PUnit.unit.{1} (λ_ _ _ _=>PUnit.unit.{1}) x0))
theorem l632_eq : ∀ x0, (Eq (l632 x0) (@guardV._sparseCasesOn_2 (λ_=>Bool) x0 (λx1=>(l631 x1)) (λ_=>Bool.false))) := by intro t; cases t <;> (intros; rfl)
def l633 : t2 := (λx0=>(@CV.rec (λ_=>Bool) (λ_=>PUnit.{1}) Bool.false (λx1=>(l632 x1)) (λ_ _=>Bool.false) (λ_ _ _ _ _=>Bool.false) Bool.false (λ_=>Bool.false) (λ_ _=>Bool.false) (λ_ _=>Bool.false) (λ_ _ _ _ _=>Bool.false) (λ_=>Bool.false) (λ_ _ _=>Bool.false) PUnit.unit.{1} (λ_ _ _ _=>PUnit.unit.{1}) x0))
theorem l633_eq : ∀ x0, (Eq (l633 x0) (@codeD._sparseCasesOn_2 (λ_=>Bool) x0 (λx1=>(l632 x1)) (λ_=>Bool.false))) := by intro t; cases t <;> (intros; rfl)
def l634 : t3 := (λx0=>(@Ret.rec (λ_=>Bool) (λx1 _=>(l633 x1)) (λ_ _=>Bool.false) x0))
theorem l634_eq : ∀ x0, (Eq (l634 x0) (@regP._sparseCasesOn_2 (λ_=>Bool) x0 (λx1 _=>(l633 x1)) (λ_=>Bool.false))) := by intro t; cases t <;> (intros; rfl)
def l635 : t5 := (λx0=>(@Option.rec Ret (λ_=>Bool) Bool.false (λx1=>(l634 x1)) x0))
theorem l635_eq : ∀ x0, (Eq (l635 x0) (@methV._sparseCasesOn_2 Ret (λ_=>Bool) x0 (λx1=>(l634 x1)) (λ_=>Bool.false))) := by intro t; cases t <;> (intros; rfl)
def k_isT : t5 := (λx0=>(l635 x0))
theorem k_isT_eq : @k_isT = isT := by
  delta k_isT isT
  simp only [l635_eq, l633_eq, l634_eq, l632_eq, l631_eq]
  all_goals kernel_rfl

abbrev t2125:=S → Bool
abbrev t2126:=Func → t2125
abbrev t2127:=Nat → t2126
abbrev t2128:=t6 → t2127
abbrev t2129:=Program → t2128
abbrev t2130:=Fr → t2129
def l630 : t2130 := (λx0=>(@Fr.rec (λ_=>t2129) (λx1 x2 x3 x4 x5 x6 x7 x8 x9=>((λ_ x11 x12 _ x14=>(k_isT (k_leave x5 (k_runT x5 x6 x7) x8 x11 x12 none x14))) x1 x2 x3 x4 x9)) x0))
theorem l630_eq : ∀ x0 x1 x2 x3 x4 x5, (Eq (l630 x0 x1 x2 x3 x4 x5) (@Fr.rec (λ_=>Bool) (λx6 x7 x8 x9=>((λ_ x11 x12 _ x14=>(k_isT (k_leave x1 (k_runT x1 x2 x3) x4 x11 x12 none x14))) x6 x7 x8 x9 x5)) x0)) := by intro t; cases t <;> (intros; rfl)
def l636 : t2130 := (λx0=>(@Fr.rec (λ_=>t2129) (λx1 x2 x3 x4 x5 x6 x7 x8 x9=>((λ_ x11 x12 _ x14=>(k_isT (k_leave x5 (k_runT x5 x6 x7) x8 x11 x12 none x14))) x1 x2 x3 x4 x9)) x0))
theorem l636_eq : ∀ x0 x1 x2 x3 x4 x5, (Eq (l636 x0 x1 x2 x3 x4 x5) (@Fr.rec (λ_=>Bool) (λx6 x7 x8 x9=>((λ_ x11 x12 _ x14=>(k_isT (k_leave x1 (k_runT x1 x2 x3) x4 x11 x12 none x14))) x6 x7 x8 x9 x5)) x0)) := by intro t; cases t <;> (intros; rfl)
abbrev t2131:=t147 → Bool
abbrev t2132:=Func → t2131
abbrev t2133:=Nat → t2132
abbrev t2134:=t6 → t2133
abbrev t2135:=Program → t2134
abbrev t2136:=Ex → t2135
def l637 : t2136 := (λx0=>(@Ex.rec (λ_=>t2135) (λx1 x2 x3 x4 x5=>(@Prod.rec Fr S (λ_=>Bool) (λx6 x7=>(l630 x6 x1 x2 x3 x4 x7)) x5)) (λ_ _ _ _ _ _=>Bool.false) (λx1 x2 x3 x4 x5=>(@Prod.rec Fr S (λ_=>Bool) (λx6 x7=>(l636 x6 x1 x2 x3 x4 x7)) x5)) (λ_ _ _ _ _ _=>Bool.false) x0))
theorem l637_eq : ∀ x0 x1 x2 x3 x4 x5, (Eq (l637 x0 x1 x2 x3 x4 x5) (@callD._sparseCasesOn_1 (λ_=>Bool) x0 (@Prod.rec Fr S (λ_=>Bool) (λx6 x7=>(l630 x6 x1 x2 x3 x4 x7)) x5) (@Prod.rec Fr S (λ_=>Bool) (λx6 x7=>(l636 x6 x1 x2 x3 x4 x7)) x5) (λ_=>Bool.false))) := by intro t; cases t <;> (intros; rfl)
abbrev t2137:=Func → Bool
abbrev t2138:=Nat → t2137
abbrev t2139:=t6 → t2138
abbrev t2140:=Program → t2139
abbrev t2141:=t151 → t2140
def l638 : t2141 := (λx0=>(@Option.rec t148 (λ_=>t2140) (λ_ _ _ _=>Bool.false) (λx1 x2 x3 x4 x5=>(@Prod.rec Ex t147 (λ_=>Bool) (λx6 x7=>(l637 x6 x2 x3 x4 x5 x7)) x1)) x0))
theorem l638_eq : ∀ x0 x1 x2 x3 x4, (Eq (l638 x0 x1 x2 x3 x4) (@methV._sparseCasesOn_2 t148 (λ_=>Bool) x0 (λx5=>(@Prod.rec Ex t147 (λ_=>Bool) (λx6 x7=>(l637 x6 x1 x2 x3 x4 x7)) x5)) (λ_=>Bool.false))) := by intro t; cases t <;> (intros; rfl)
abbrev t2142:=S → t2137
abbrev t2143:=Fr → t2142
abbrev t2144:=Nat → t2143
abbrev t2145:=t6 → t2144
abbrev t2146:=Program → t2145
abbrev t2147:=t1255 → t2146
def l639 : t2147 := (λx0=>(@Option.rec Code (λ_=>t2146) (λ_ _ _ _ _ _=>Bool.false) (λx1 x2 x3 x4 x5 x6 x7=>((λx8=>(l638 (Run.code (k_runT x2 x3 x4) x8 x5 x6) x2 x3 x4 x7)) x1)) x0))
theorem l639_eq : ∀ x0 x1 x2 x3 x4 x5 x6, (Eq (l639 x0 x1 x2 x3 x4 x5 x6) (@Option.rec Code (λ_=>Bool) Bool.false (λx7=>((λx8=>(l638 (Run.code (k_runT x1 x2 x3) x8 x4 x5) x1 x2 x3 x6)) x7)) x0)) := by intro t; cases t <;> (intros; rfl)
abbrev t2148:=Option Func
abbrev t2149:=Fr → t2125
abbrev t2150:=Nat → t2149
abbrev t2151:=Nat → t2150
abbrev t2152:=t6 → t2151
abbrev t2153:=Program → t2152
abbrev t2154:=t2148 → t2153
def l640 : t2154 := (λx0=>(@Option.rec Func (λ_=>t2153) (λ_ _ _ _ _ _=>Bool.false) (λx1 x2 x3 x4 x5 x6 x7=>((λx8=>(@Option.rec Code (λ_=>Bool) Bool.false (λx9=>((λx10=>(l639 (k_dropC x5 x10) x2 x3 x4 x6 x7 x8)) x9)) (Func.body x8))) x1)) x0))
theorem l640_eq : ∀ x0 x1 x2 x3 x4 x5 x6, (Eq (l640 x0 x1 x2 x3 x4 x5 x6) (@Option.rec Func (λ_=>Bool) Bool.false (λx7=>((λx8=>(@Option.rec Code (λ_=>Bool) Bool.false (λx9=>((λx10=>(l639 (k_dropC x4 x10) x1 x2 x3 x5 x6 x8)) x9)) (Func.body x8))) x7)) x0)) := by intro t; cases t <;> (intros; rfl)
abbrev t2155:=FuncId → t2150
abbrev t2156:=Nat → t2155
abbrev t2157:=t6 → t2156
abbrev t2158:=Program → t2157
def k_endT : t2158 := (λx0 x1 x2 x3 x4 x5 x6=>(l640 (@GetElem?.getElem? (Array Func) FuncId Func (λx7 x8=>(@LT.lt Nat instLTNat x8 (@Array.size Func x7))) (@Array.instGetElem?NatLtSize Func) (Program.funcs x0) x3) x0 x1 x2 x4 x5 x6))
theorem k_endT_eq : @k_endT = endT := by
  delta k_endT endT
  simp only [l636_eq, l630_eq, l637_eq, l639_eq, l638_eq, l640_eq]
  rw [k_isT_eq, k_leave_eq, k_runT_eq, k_dropC_eq]
  all_goals kernel_rfl

end
end Go.EvK
