/- Forms of the definitions that the kernel runs fast, each proved equal. No condition. -/
import Derived.Test.YtdobapekmlihdabGreatIsP7b
import Derived.KernelRfl
set_option linter.unusedVariables false
set_option linter.unusedSimpArgs false
set_option maxRecDepth 100000
namespace Go.EvK
open Go.Eng Go.Ev
noncomputable section
def l629 : t1979 := (λx0=>(@LoopState.rec (λ_=>t1978) (λx1 x2 x3 x4 x5 x6 x7 x8 x9 x10 x11 x12 x13 x14 _=>(l625 x8 x1 x2 x3 x4 x5 x6 x7 x9 x10 x11 x12 x13 x14)) (λ_ _ _ _ _ _ _ _ _ _ _ _ _ _ _=>none) (λx1 x2 x3 x4 x5 x6 x7 x8 x9 x10 x11 x12 x13 x14 x15=>(l628 x8 x15 x1 x2 x3 x4 x5 x6 x7 x9 x10 x11 x12 x13 x14)) (λ_ _ _ _ _ _ _ _ _ _ _ _ _ _ _=>none) x0))
theorem l629_eq : ∀ x0 x1 x2 x3 x4 x5 x6 x7 x8 x9 x10 x11 x12 x13 x14 x15, (Eq (l629 x0 x1 x2 x3 x4 x5 x6 x7 x8 x9 x10 x11 x12 x13 x14 x15) (@rangeN._sparseCasesOn_1 (λ_=>t151) x0 (l625 x8 x1 x2 x3 x4 x5 x6 x7 x9 x10 x11 x12 x13 x14) (l628 x8 x15 x1 x2 x3 x4 x5 x6 x7 x9 x10 x11 x12 x13 x14) (λ_=>none))) := by intro t; cases t <;> (intros; rfl)
abbrev t1980:=Nat → t1423
abbrev t1981:=Nat → t1980
abbrev t1982:=t164 → t1981
abbrev t1983:=t141 → t1982
abbrev t1984:=t14 → t1983
abbrev t1985:=Nat → t1984
abbrev t1986:=Run → t1985
abbrev t1987:=CO → t1986
def l630 : t1987 := (λx0=>(@CO.rec (λ_=>t1986) (λ_ _ _ _ _ _ _ _ _ _ _=>none) (λ_ _ _ _ _ _ _ _ _ _ _=>none) (λx1 x2 x3 x4 x5 x6 x7 x8 x9 x10 x11 x12 x13 x14 x15 x16=>(l629 x1 x10 x11 x12 x13 x14 x15 x16 x2 x3 x4 x5 x6 x7 x8 x9)) (λ_ _ _ _ _ _ _ _=>none) (λ_ _ _ _ _ _ _ _=>none) x0))
theorem l630_eq : ∀ x0 x1 x2 x3 x4 x5 x6 x7 x8, (Eq (l630 x0 x1 x2 x3 x4 x5 x6 x7 x8) (@roundN._sparseCasesOn_1 (λ_=>t151) x0 (λx9 x10 x11 x12 x13 x14 x15 x16=>(l629 x9 x2 x3 x4 x5 x6 x7 x8 x10 x11 x12 x13 x14 x15 x16 x1)) (λ_=>none))) := by intro t; cases t <;> (intros; rfl)
abbrev t1988:=CO → t1423
abbrev t1989:=t1988 → t1551
abbrev t1990:=Nat → t1989
abbrev t1991:=t44 → t1990
def l632 : t1991 := (λx0=>(@Option.rec CO (λ_=>t1990) (λ_ _ _ _ _ _=>none) (λx1 x2 x3 x4 x5 x6 x7=>((λx8=>(k_fN_433 (Nat.lor x6 (Nat.shiftLeft (nat_lit 1) x2)) (λx9=>(x3 x8 (S.mk x4 x5 x9 x7))))) x1)) x0))
theorem l632_eq : ∀ x0 x1 x2 x3 x4 x5 x6, (Eq (l632 x0 x1 x2 x3 x4 x5 x6) (@Option.rec CO (λ_=>t151) none (λx7=>((λx8=>(k_fN_433 (Nat.lor x5 (Nat.shiftLeft (nat_lit 1) x1)) (λx9=>(x2 x8 (S.mk x3 x4 x9 x6))))) x7)) x0)) := by intro t; cases t <;> (intros; rfl)
abbrev t1992:=t1988 → t151
abbrev t1993:=Nat → t1992
abbrev t1994:=S → t1993
def l633 : t1994 := (λx0=>(@S.rec (λ_=>t1993) (λx1 x2 x3 x4 x5 x6=>((λx7 x8 x9 x10=>(l632 (getCO x7 x5) x5 x6 x7 x8 x9 x10)) x1 x2 x3 x4)) x0))
theorem l633_eq : ∀ x0 x1 x2, (Eq (l633 x0 x1 x2) (@S.rec (λ_=>t151) (λx3 x4 x5 x6=>((λx7 x8 x9 x10=>(l632 (getCO x7 x1) x1 x2 x7 x8 x9 x10)) x3 x4 x5 x6)) x0)) := by intro t; cases t <;> (intros; rfl)
def k_rd_433 : t1994 := (λx0 x1 x2=>(l633 x0 x1 x2))
theorem k_rd_433_eq : @k_rd_433 = (@rd t148) := by
  delta k_rd_433 rd
  simp only [l633_eq, l632_eq]
  rw [k_fN_433_eq, getCO_eq]
  all_goals kernel_rfl

abbrev t1995:=t164 → t1549
abbrev t1996:=t141 → t1995
abbrev t1997:=t14 → t1996
abbrev t1998:=Nat → t1997
abbrev t1999:=Run → t1998
abbrev t2000:=Ret → t1999
def l631 : t2000 := (λx0=>(@Ret.rec (λ_=>t1999) (λx1 x2 x3 x4 x5 x6 x7 x8 x9=>((λ_ x11=>(k_rd_433 x11 x9 (λx12 x13=>(l630 x12 x3 x4 x5 x6 x7 x8 x9 x13)))) x1 x2)) (λx1 x2 _ x4 x5 x6 x7 x8 _=>((λx10 x11=>(some ((Ex.pan x10), ((Fr.mk x4 x5 ((SD.mark x8) :: x6) x7), x11)))) x1 x2)) x0))
theorem l631_eq : ∀ x0 x1 x2 x3 x4 x5 x6 x7, (Eq (l631 x0 x1 x2 x3 x4 x5 x6 x7) (@Ret.rec (λ_=>t151) (λx8 x9=>((λ_ x11=>(k_rd_433 x11 x7 (λx12 x13=>(l630 x12 x1 x2 x3 x4 x5 x6 x7 x13)))) x8 x9)) (λx8 x9=>((λx10 x11=>(some ((Ex.pan x10), ((Fr.mk x2 x3 ((SD.mark x6) :: x4) x5), x11)))) x8 x9)) x0)) := by intro t; cases t <;> (intros; rfl)
abbrev t2001:=FuncId → t1981
abbrev t2002:=t164 → t2001
abbrev t2003:=t141 → t2002
abbrev t2004:=t14 → t2003
abbrev t2005:=Nat → t2004
abbrev t2006:=Run → t2005
abbrev t2007:=t31 → t2006
def l634 : t2007 := (λx0=>(@Option.rec t7 (λ_=>t2006) (λ_ _ _ _ _ _ _ _ _=>none) (λx1 x2 x3 x4 x5 x6 x7 x8 x9 x10=>((λx11=>(@Option.rec Ret (λ_=>t151) none (λx12=>(l631 x12 x2 x3 x4 x5 x6 x8 x9)) (Run.call x2 x7 x11 x10))) x1)) x0))
theorem l634_eq : ∀ x0 x1 x2 x3 x4 x5 x6 x7 x8 x9, (Eq (l634 x0 x1 x2 x3 x4 x5 x6 x7 x8 x9) (@Option.rec t7 (λ_=>t151) none (λx10=>((λx11=>(@Option.rec Ret (λ_=>t151) none (λx12=>(l631 x12 x1 x2 x3 x4 x5 x7 x8)) (Run.call x1 x6 x11 x9))) x10)) x0)) := by intro t; cases t <;> (intros; rfl)
abbrev t2008:=t141 → t1955
abbrev t2009:=t164 → t2008
abbrev t2010:=t14 → t2009
abbrev t2011:=Nat → t2010
abbrev t2012:=t1353 → t2011
def l635 : t2012 := (λx0=>(@Option.rec Code (λ_=>t2011) (λx1 x2 x3 x4 x5 x6 x7 x8 x9 x10 x11 x12=>(k_wr_433 x6 x5 (some (CO.loop LoopState.exhausted none x7 x8 x9 x10 x11 x12)) (λx13=>(some (Ex.normal, ((Fr.mk x1 x2 x4 x3), x13)))))) (λ_ _ _ _ _ _ _ _ _ _ _ _ _=>none) x0))
theorem l635_eq : ∀ x0 x1 x2 x3 x4 x5 x6 x7 x8 x9 x10 x11 x12, (Eq (l635 x0 x1 x2 x3 x4 x5 x6 x7 x8 x9 x10 x11 x12) (@rangeN._sparseCasesOn_2 Code (λ_=>t151) x0 (k_wr_433 x6 x5 (some (CO.loop LoopState.exhausted none x7 x8 x9 x10 x11 x12)) (λx13=>(some (Ex.normal, ((Fr.mk x1 x2 x4 x3), x13))))) (λ_=>none))) := by intro t; cases t <;> (intros; rfl)
abbrev t2013:=Run → t2011
abbrev t2014:=t1353 → t2013
def l636 : t2014 := (λx0=>(@Option.rec Code (λ_=>t2013) (λ_ _ _ _ _ _ _ _ _ _ _ _ _=>none) (λx1 x2 x3 x4 x5 x6 x7 x8 x9 x10 x11 x12 x13 x14=>(k_wr_433 x8 x7 (some (CO.loop LoopState.exhausted (some x1) x9 x10 x11 x12 x13 x14)) (λx15=>(Run.code x2 x1 (Fr.mk x3 x4 x6 x5) x15)))) x0))
theorem l636_eq : ∀ x0 x1 x2 x3 x4 x5 x6 x7 x8 x9 x10 x11 x12 x13, (Eq (l636 x0 x1 x2 x3 x4 x5 x6 x7 x8 x9 x10 x11 x12 x13) (@methV._sparseCasesOn_2 Code (λ_=>t151) x0 (λx14=>(k_wr_433 x7 x6 (some (CO.loop LoopState.exhausted (some x14) x8 x9 x10 x11 x12 x13)) (λx15=>(Run.code x1 x14 (Fr.mk x2 x3 x5 x4) x15)))) (λ_=>none))) := by intro t; cases t <;> (intros; rfl)
abbrev t2015:=t141 → t1973
abbrev t2016:=t164 → t2015
abbrev t2017:=t14 → t2016
abbrev t2018:=Nat → t2017
abbrev t2019:=LoopState → t2018
def l637 : t2019 := (λx0=>(@LoopState.rec (λ_=>t2018) (λx1 x2 x3 x4 x5 x6 x7 x8 x9 x10 x11 x12 x13 _=>(l635 x7 x1 x2 x3 x4 x5 x6 x8 x9 x10 x11 x12 x13)) (λ_ _ _ _ _ _ _ _ _ _ _ _ _ _=>none) (λx1 x2 x3 x4 x5 x6 x7 x8 x9 x10 x11 x12 x13 x14=>(l636 x7 x14 x1 x2 x3 x4 x5 x6 x8 x9 x10 x11 x12 x13)) (λ_ _ _ _ _ _ _ _ _ _ _ _ _ _=>none) x0))
theorem l637_eq : ∀ x0 x1 x2 x3 x4 x5 x6 x7 x8 x9 x10 x11 x12 x13 x14, (Eq (l637 x0 x1 x2 x3 x4 x5 x6 x7 x8 x9 x10 x11 x12 x13 x14) (@rangeN._sparseCasesOn_1 (λ_=>t151) x0 (l635 x7 x1 x2 x3 x4 x5 x6 x8 x9 x10 x11 x12 x13) (l636 x7 x14 x1 x2 x3 x4 x5 x6 x8 x9 x10 x11 x12 x13) (λ_=>none))) := by intro t; cases t <;> (intros; rfl)
abbrev t2020:=t141 → t1980
abbrev t2021:=t164 → t2020
abbrev t2022:=t14 → t2021
abbrev t2023:=Nat → t2022
abbrev t2024:=Run → t2023
abbrev t2025:=CO → t2024
def l638 : t2025 := (λx0=>(@CO.rec (λ_=>t2024) (λ_ _ _ _ _ _ _ _ _ _=>none) (λ_ _ _ _ _ _ _ _ _ _=>none) (λx1 x2 x3 x4 x5 x6 x7 x8 x9 x10 x11 x12 x13 x14 x15=>(l637 x1 x10 x11 x12 x13 x14 x15 x2 x3 x4 x5 x6 x7 x8 x9)) (λ_ _ _ _ _ _ _=>none) (λ_ _ _ _ _ _ _=>none) x0))
theorem l638_eq : ∀ x0 x1 x2 x3 x4 x5 x6 x7, (Eq (l638 x0 x1 x2 x3 x4 x5 x6 x7) (@roundN._sparseCasesOn_1 (λ_=>t151) x0 (λx8 x9 x10 x11 x12 x13 x14 x15=>(l637 x8 x2 x3 x4 x5 x6 x7 x9 x10 x11 x12 x13 x14 x15 x1)) (λ_=>none))) := by intro t; cases t <;> (intros; rfl)
abbrev t2026:=t141 → t1546
abbrev t2027:=t164 → t2026
abbrev t2028:=t14 → t2027
abbrev t2029:=Nat → t2028
abbrev t2030:=Run → t2029
abbrev t2031:=Ret → t2030
def l639 : t2031 := (λx0=>(@Ret.rec (λ_=>t2030) (λx1 x2 x3 x4 x5 x6 x7 x8=>((λ_ x10=>(k_rd_433 x10 x8 (λx11 x12=>(l638 x11 x3 x4 x5 x6 x7 x8 x12)))) x1 x2)) (λx1 x2 _ x4 x5 x6 x7 _=>((λx9 x10=>(some ((Ex.pan x9), ((Fr.mk x4 x5 x7 x6), x10)))) x1 x2)) x0))
theorem l639_eq : ∀ x0 x1 x2 x3 x4 x5 x6, (Eq (l639 x0 x1 x2 x3 x4 x5 x6) (@Ret.rec (λ_=>t151) (λx7 x8=>((λ_ x10=>(k_rd_433 x10 x6 (λx11 x12=>(l638 x11 x1 x2 x3 x4 x5 x6 x12)))) x7 x8)) (λx7 x8=>((λx9 x10=>(some ((Ex.pan x9), ((Fr.mk x2 x3 x5 x4), x10)))) x7 x8)) x0)) := by intro t; cases t <;> (intros; rfl)
abbrev t2032:=FuncId → t2020
abbrev t2033:=t164 → t2032
abbrev t2034:=t14 → t2033
abbrev t2035:=Nat → t2034
abbrev t2036:=Run → t2035
abbrev t2037:=t31 → t2036
def l640 : t2037 := (λx0=>(@Option.rec t7 (λ_=>t2036) (λ_ _ _ _ _ _ _ _=>none) (λx1 x2 x3 x4 x5 x6 x7 x8 x9=>((λx10=>(@Option.rec Ret (λ_=>t151) none (λx11=>(l639 x11 x2 x3 x4 x5 x7 x8)) (Run.call x2 x6 x10 x9))) x1)) x0))
theorem l640_eq : ∀ x0 x1 x2 x3 x4 x5 x6 x7 x8, (Eq (l640 x0 x1 x2 x3 x4 x5 x6 x7 x8) (@Option.rec t7 (λ_=>t151) none (λx9=>((λx10=>(@Option.rec Ret (λ_=>t151) none (λx11=>(l639 x11 x1 x2 x3 x4 x6 x7)) (Run.call x1 x5 x10 x8))) x9)) x0)) := by intro t; cases t <;> (intros; rfl)
abbrev t2038:=t1980 → t1550
abbrev t2039:=t207 → t2038
def l642 : t2039 := (λx0=>(@Option.rec t46 (λ_=>t2038) (λ_ _ _ _=>none) (λx1 x2 x3 x4 x5=>((λx6=>(k_fN_433 (Nat.add x3 (nat_lit 1)) (λx7=>(k_fN_433 (Nat.lor x5 (Nat.shiftLeft (nat_lit 1) x3)) (λx8=>(x2 x3 (S.mk x6 x7 x4 x8))))))) x1)) x0))
theorem l642_eq : ∀ x0 x1 x2 x3 x4, (Eq (l642 x0 x1 x2 x3 x4) (@Option.rec t46 (λ_=>t151) none (λx5=>((λx6=>(k_fN_433 (Nat.add x2 (nat_lit 1)) (λx7=>(k_fN_433 (Nat.lor x4 (Nat.shiftLeft (nat_lit 1) x2)) (λx8=>(x1 x2 (S.mk x6 x7 x3 x8))))))) x5)) x0)) := by intro t; cases t <;> (intros; rfl)
abbrev t2040:=t1980 → t151
abbrev t2041:=CO → t2040
abbrev t2042:=S → t2041
def l643 : t2042 := (λx0=>(@S.rec (λ_=>t2041) (λx1 x2 x3 x4 x5 x6=>((λx7 x8 x9 x10=>(l642 (setCO (nat_lit 24) x7 x8 (some x5)) x6 x8 x9 x10)) x1 x2 x3 x4)) x0))
theorem l643_eq : ∀ x0 x1 x2, (Eq (l643 x0 x1 x2) (@S.rec (λ_=>t151) (λx3 x4 x5 x6=>((λx7 x8 x9 x10=>(l642 (setCO (nat_lit 24) x7 x8 (some x1)) x2 x8 x9 x10)) x3 x4 x5 x6)) x0)) := by intro t; cases t <;> (intros; rfl)
def k_nw_433 : t2042 := (λx0 x1 x2=>(l643 x0 x1 x2))
theorem k_nw_433_eq : @k_nw_433 = (@nw t148) := by
  delta k_nw_433 nw
  simp only [l643_eq, l642_eq]
  rw [k_fN_433_eq, setCO_eq]
  all_goals kernel_rfl

abbrev t2043:=t7 → t1423
abbrev t2044:=t7 → t2043
abbrev t2045:=FuncId → t2044
abbrev t2046:=t164 → t2045
abbrev t2047:=t141 → t2046
abbrev t2048:=t14 → t2047
abbrev t2049:=Nat → t2048
abbrev t2050:=Code → t2049
abbrev t2051:=Code → t2050
abbrev t2052:=t1526 → t2051
abbrev t2053:=Run → t2052
abbrev t2054:=CO → t2053
def l641 : t2054 := (λx0=>(@CO.rec (λ_=>t2053) (λ_ _ _ _ _ _ _ _ _ _ _ _ _ _ _=>none) (λ_ _ _ _ _ _ _ _ _ _ _ _ _ _ _=>none) (λ_ _ _ _ _ _ _ x8 x9 x10 x11 x12 x13 x14 x15 x16 x17 x18 x19 x20=>((λx21 x22 x23=>(k_nw_433 x23 (CO.loop LoopState.ready none x14 x13 x10 x11 x12 x21) (λx24 x25=>(l640 (k_app2 x18 ((CV.yld x24) :: []) x19) x9 x13 x14 x16 x17 x22 x24 x25)))) x8 x15 x20)) (λ_ _ _ _ _ _ _ _ _ _ _ _=>none) (λ_ _ _ _ _ _ _ _ _ _ _ _=>none) x0))
theorem l641_eq : ∀ x0 x1 x2 x3 x4 x5 x6 x7 x8 x9 x10 x11 x12, (Eq (l641 x0 x1 x2 x3 x4 x5 x6 x7 x8 x9 x10 x11 x12) (@roundN._sparseCasesOn_1 (λ_=>t151) x0 (λ_ _ _ _ _ _ _ x20=>((λx21 x22 x23=>(k_nw_433 x23 (CO.loop LoopState.ready none x6 x5 x2 x3 x4 x21) (λx24 x25=>(l640 (k_app2 x10 ((CV.yld x24) :: []) x11) x1 x5 x6 x8 x9 x22 x24 x25)))) x20 x7 x12)) (λ_=>none))) := by intro t; cases t <;> (intros; rfl)
abbrev t2055:=t7 → t151
abbrev t2056:=t7 → t2055
abbrev t2057:=FuncId → t2056
abbrev t2058:=t164 → t2057
abbrev t2059:=t141 → t2058
abbrev t2060:=t14 → t2059
abbrev t2061:=Nat → t2060
abbrev t2062:=S → t2061
abbrev t2063:=Code → t2062
abbrev t2064:=Code → t2063
abbrev t2065:=t1526 → t2064
abbrev t2066:=Run → t2065
abbrev t2067:=t164 → t2066
def l644 : t2067 := (λx0=>(@Option.rec Nat (λ_=>t2066) (λx1 x2 x3 x4 x5 x6 x7 x8 x9 x10 x11 x12=>(k_nw_433 x5 CO.dfr (λx13 x14=>(k_nw_433 x14 (CO.loop LoopState.ready none x7 x6 x2 x3 x4 x13) (λx15 x16=>(l634 (k_app2 x11 ((CV.yld x15) :: []) x12) x1 x6 x7 x8 x9 x10 x13 x15 x16)))))) (λx1 x2 x3 x4 x5 x6 x7 x8 x9 x10 x11 x12 x13=>((λx14=>(k_rd_433 x6 x14 (λx15 x16=>(l641 x15 x2 x3 x4 x5 x7 x8 x9 x10 x11 x12 x13 x16)))) x1)) x0))
theorem l644_eq : ∀ x0 x1 x2 x3 x4 x5 x6 x7 x8 x9 x10 x11 x12, (Eq (l644 x0 x1 x2 x3 x4 x5 x6 x7 x8 x9 x10 x11 x12) (@Option.rec Nat (λ_=>t151) (k_nw_433 x5 CO.dfr (λx13 x14=>(k_nw_433 x14 (CO.loop LoopState.ready none x7 x6 x2 x3 x4 x13) (λx15 x16=>(l634 (k_app2 x11 ((CV.yld x15) :: []) x12) x1 x6 x7 x8 x9 x10 x13 x15 x16))))) (λx13=>((λx14=>(k_rd_433 x5 x14 (λx15 x16=>(l641 x15 x1 x2 x3 x4 x6 x7 x8 x9 x10 x11 x12 x16)))) x13)) x0)) := by intro t; cases t <;> (intros; rfl)
abbrev t2068:=S → t1431
abbrev t2069:=Code → t2068
abbrev t2070:=Code → t2069
abbrev t2071:=t1526 → t2070
abbrev t2072:=Run → t2071
abbrev t2073:=CV → t2072
def l645 : t2073 := (λx0=>(@CV.rec (λ_=>t2072) (λ_=>PUnit.{1}) (λ_ _ _ _ _ _ _ _ _=>none) (λ_ _ _ _ _ _ _ _ _ _=>none) (λ_ _ _ _ _ _ _ _ _ _ _=>none) (λ_ _ _ _ _ _ _ _ _ _ _ _ _ _=>none) (λ_ _ _ _ _ _ _ _ _=>none) (λ_ _ _ _ _ _ _ _ _ _=>none) (λ_ _ _ _ _ _ _ _ _ _ _=>none) (λ_ _ _ _ _ _ _ _ _ _ _=>none) (λx1 x2 x3 _ _ x6 x7 x8 x9 x10 x11 x12 x13 x14=>(l644 x14 x6 x7 x8 x9 x10 x11 x12 x13 x14 x1 x2 x3)) (λ_ _ _ _ _ _ _ _ _ _=>none) (λ_ _ _ _ _ _ _ _ _ _ _ _=>none) PUnit.unit.{1} (λ_ _ _ _=>PUnit.unit.{1}) x0))
theorem l645_eq : ∀ x0 x1 x2 x3 x4 x5 x6 x7 x8 x9, (Eq (l645 x0 x1 x2 x3 x4 x5 x6 x7 x8 x9) (@deferV._sparseCasesOn_1 (λ_=>t151) x0 (λx10 x11 x12=>(l644 x9 x1 x2 x3 x4 x5 x6 x7 x8 x9 x10 x11 x12)) (λ_=>none))) := by intro t; cases t <;> (intros; rfl)
abbrev t2074:=t81 → t2072
def l646 : t2074 := (λx0=>(@Option.rec CV (λ_=>t2072) (λ_ _ _ _ _ _ _ _ _=>none) (λx1 x2 x3 x4 x5 x6 x7 x8 x9 x10=>(l645 x1 x2 x3 x4 x5 x6 x7 x8 x9 x10)) x0))
theorem l646_eq : ∀ x0 x1 x2 x3 x4 x5 x6 x7 x8 x9, (Eq (l646 x0 x1 x2 x3 x4 x5 x6 x7 x8 x9) (@methV._sparseCasesOn_2 CV (λ_=>t151) x0 (λx10=>(l645 x10 x1 x2 x3 x4 x5 x6 x7 x8 x9)) (λ_=>none))) := by intro t; cases t <;> (intros; rfl)
abbrev t2075:=Code → t1423
abbrev t2076:=Code → t2075
abbrev t2077:=t1526 → t2076
abbrev t2078:=Operand → t2077
abbrev t2079:=Run → t2078
abbrev t2080:=Fr → t2079
def l647 : t2080 := (λx0=>(@Fr.rec (λ_=>t2079) (λx1 x2 x3 x4 x5 x6 x7 x8 x9 x10=>((λx11 x12 x13 x14=>(l646 (k_ev x12 x6) x5 x7 x8 x9 x10 x11 x12 x13 x14)) x1 x2 x3 x4)) x0))
theorem l647_eq : ∀ x0 x1 x2 x3 x4 x5 x6, (Eq (l647 x0 x1 x2 x3 x4 x5 x6) (@Fr.rec (λ_=>t151) (λx7 x8 x9 x10=>((λx11 x12 x13 x14=>(l646 (k_ev x12 x2) x1 x3 x4 x5 x6 x11 x12 x13 x14)) x7 x8 x9 x10)) x0)) := by intro t; cases t <;> (intros; rfl)
abbrev t2081:=t1526 → t1921
abbrev t2082:=Operand → t2081
abbrev t2083:=Run → t2082
abbrev t2084:=Program → t2083
def k_rangeN : t2084 := (λ_ x1 x2 x3 x4 x5 x6 x7=>(l647 x6 x1 x2 x3 x4 x5 x7))
theorem k_rangeN_eq : @k_rangeN = rangeN := by
  delta k_rangeN rangeN
  simp only [l636_eq, l628_eq, l635_eq, l630_eq, l647_eq, l646_eq, l625_eq, l644_eq, l641_eq, l645_eq, l634_eq, l637_eq, l639_eq, l629_eq, l631_eq, l638_eq, l640_eq]
  rw [k_wr_433_eq, k_rd_433_eq, k_nw_433_eq, k_app2_eq, k_ev_eq]
  all_goals kernel_rfl

def k_codeScope : t1939 := (λx0 x1 x2 x3=>(@Option.rec Nat (λ_=>t151) (Run.code x0 x1 x2 x3) (λx4=>((λ_=>none) x4)) (Fr.rd x2)))
theorem k_codeScope_eq : @k_codeScope = codeScope := by
  delta k_codeScope codeScope
  all_goals kernel_rfl

abbrev t2085:=Run → t1424
abbrev t2086:=Program → t2085
abbrev t2087:=Code → t2086
def l555 : t2087 := (λx0=>(@Code.rec (λ_=>t2086) (λ_ _ x3 x4=>(some (Ex.normal, (x3, x4)))) (λ_ x2 x3 x4 x5 x6 x7=>(k_codeReg x4 x5 x2 x3 x6 x7)) (λx1 x2 _ _ _ x6 x7 x8=>(k_codeSeq x6 x1 x2 x7 x8)) (λx1 x2 x3 _ _ _ x7 x8 x9=>(k_codeCond x7 x1 x2 x3 x8 x9)) (λx1 x2 _ _ x5 x6 x7=>(k_codeBlock x5 x1 x2 x6 x7)) (λx1 _ _ x4 x5 x6=>(k_codeLoop x4 x1 x5 x6)) (λx1 x2 x3 x4 _ _ x7 x8 x9 x10=>(k_rangeN x7 x8 x1 (@Array.toList Tmp x2) x3 x4 x9 x10)) (λx1 _ _ x4 x5=>(some ((Ex.exit x1), (x4, x5)))) (λx1 _ _ x4 x5 x6=>(k_codeScope x4 x1 x5 x6)) (λ_ _ _ x4 x5=>(some (Ex.normal, (x4, x5)))) (λ_ _ _ _ _=>none) (λ_ _ x3 x4=>(some (Ex.ret, (x3, x4)))) (λ_ _ _ _ _=>none) x0))
theorem l555_eq : ∀ x0, (Eq (l555 x0) (@codeF._sparseCasesOn_1 (λ_=>t2086) x0 (λ_ _ x3 x4=>(some (Ex.normal, (x3, x4)))) (λ_ _ _ x4 x5=>(some (Ex.normal, (x4, x5)))) (λ_ _ x3 x4=>(some (Ex.ret, (x3, x4)))) (λx1 _ _ x4 x5=>(some ((Ex.exit x1), (x4, x5)))) (λ_ x2 x3 x4 x5 x6 x7=>(k_codeReg x4 x5 x2 x3 x6 x7)) (λx1 x2 _ x4 x5 x6=>(k_codeSeq x4 x1 x2 x5 x6)) (λx1 x2 x3 _ x5 x6 x7=>(k_codeCond x5 x1 x2 x3 x6 x7)) (λx1 x2 _ x4 x5 x6=>(k_codeBlock x4 x1 x2 x5 x6)) (λx1 _ x3 x4 x5=>(k_codeLoop x3 x1 x4 x5)) (λx1 _ x3 x4 x5=>(k_codeScope x3 x1 x4 x5)) (λx1 x2 x3 x4 x5 x6 x7 x8=>(k_rangeN x5 x6 x1 (@Array.toList Tmp x2) x3 x4 x7 x8)) (λ_ _ _ _ _=>none))) := by intro t; cases t <;> (intros; rfl)
def k_codeF : t2087 := (λx0=>(l555 x0))
theorem k_codeF_eq : @k_codeF = codeF := by
  delta k_codeF codeF
  simp only [l555_eq]
  rw [k_codeScope_eq, k_rangeN_eq, k_codeLoop_eq, k_codeBlock_eq, k_codeCond_eq, k_codeSeq_eq, k_codeReg_eq]
  all_goals kernel_rfl

abbrev t2088:=Program → t1939
def k_codeN' : t2088 := (λx0 x1 x2 x3 x4=>(k_codeF x2 x0 x1 x3 x4))
theorem k_codeN'_eq : @k_codeN' = codeN' := by
  delta k_codeN' codeN'
  rw [k_codeF_eq]
  all_goals kernel_rfl

theorem k_codeN_eq : @k_codeN' = @codeN := k_codeN'_eq.trans codeN'_eq
abbrev t2089:=CO → t106
def l648 : t2089 := (λx0=>(@CO.rec (λ_=>t106) (λ_ _ _ _ _=>none) (λ_ _ _ _ _=>none) (λ_ _ x3 x4 x5 x6 x7 x8 x9 x10=>(k_wr_Ret x10 x9 (some (CO.loop LoopState.ready none x3 x4 x5 x6 x7 x8)) (λx11=>(some (Ret.ok (CV.val (Value.bool Bool.true)) x11))))) (λ_ _=>none) (λ_ _=>none) x0))
theorem l648_eq : ∀ x0 x1 x2, (Eq (l648 x0 x1 x2) (@roundN._sparseCasesOn_1 (λ_=>t4) x0 (λ_ _ x5 x6 x7 x8 x9 x10=>(k_wr_Ret x2 x1 (some (CO.loop LoopState.ready none x5 x6 x7 x8 x9 x10)) (λx11=>(some (Ret.ok (CV.val (Value.bool Bool.true)) x11))))) (λ_=>none))) := by intro t; cases t <;> (intros; rfl)
def l649 : t2089 := (λx0=>(@CO.rec (λ_=>t106) (λ_ _ _ _ _=>none) (λ_ _ _ _ _=>none) (λ_ _ x3 x4 x5 x6 x7 x8 x9 x10=>(k_wr_Ret x10 x9 (some (CO.loop LoopState.done (some Code.ret) x3 x4 x5 x6 x7 x8)) (λx11=>(some (Ret.ok (CV.val (Value.bool Bool.false)) x11))))) (λ_ _=>none) (λ_ _=>none) x0))
theorem l649_eq : ∀ x0 x1 x2, (Eq (l649 x0 x1 x2) (@roundN._sparseCasesOn_1 (λ_=>t4) x0 (λ_ _ x5 x6 x7 x8 x9 x10=>(k_wr_Ret x2 x1 (some (CO.loop LoopState.done (some Code.ret) x5 x6 x7 x8 x9 x10)) (λx11=>(some (Ret.ok (CV.val (Value.bool Bool.false)) x11))))) (λ_=>none))) := by intro t; cases t <;> (intros; rfl)
abbrev t2090:=CO → t1054
def l650 : t2090 := (λx0=>(@CO.rec (λ_=>t1054) (λ_ _ _ _ _ _=>none) (λ_ _ _ _ _ _=>none) (λ_ _ x3 x4 x5 x6 x7 x8 x9 x10 x11=>(k_wr_Ret x11 x9 (some (CO.loop LoopState.done (some (Code.exit x10)) x3 x4 x5 x6 x7 x8)) (λx12=>(some (Ret.ok (CV.val (Value.bool Bool.false)) x12))))) (λ_ _ _=>none) (λ_ _ _=>none) x0))
theorem l650_eq : ∀ x0 x1 x2 x3, (Eq (l650 x0 x1 x2 x3) (@roundN._sparseCasesOn_1 (λ_=>t4) x0 (λ_ _ x6 x7 x8 x9 x10 x11=>(k_wr_Ret x3 x1 (some (CO.loop LoopState.done (some (Code.exit x2)) x6 x7 x8 x9 x10 x11)) (λx12=>(some (Ret.ok (CV.val (Value.bool Bool.false)) x12))))) (λ_=>none))) := by intro t; cases t <;> (intros; rfl)
abbrev t2091:=t147 → t47
def l651 : t2091 := (λx0=>(@Prod.rec Fr S (λ_=>t47) (λx1 x2 x3 x4=>((λx5 _ x7=>(k_rd_Ret x7 x3 (λx8 x9=>(l650 x8 x3 x5 x9)))) x4 x1 x2)) x0))
theorem l651_eq : ∀ x0 x1 x2, (Eq (l651 x0 x1 x2) (@Prod.rec Fr S (λ_=>t4) (λx3 x4=>((λx5 _ x7=>(k_rd_Ret x7 x1 (λx8 x9=>(l650 x8 x1 x5 x9)))) x2 x3 x4)) x0)) := by intro t; cases t <;> (intros; rfl)
abbrev t2092:=Nat → t1395
abbrev t2093:=Ex → t2092
def l652 : t2093 := (λx0=>(@Ex.rec (λ_=>t2092) (λx1 x2=>(@Prod.rec Fr S (λ_=>t4) (λx3 x4=>((λ_ x6=>(k_rd_Ret x6 x1 (λx7 x8=>(l648 x7 x1 x8)))) x3 x4)) x2)) (λx1 x2 x3=>(l651 x3 x2 x1)) (λx1 x2=>(@Prod.rec Fr S (λ_=>t4) (λx3 x4=>((λ_ x6=>(k_rd_Ret x6 x1 (λx7 x8=>(l649 x7 x1 x8)))) x3 x4)) x2)) (λ_ _ _=>none) x0))
theorem l652_eq : ∀ x0 x1 x2, (Eq (l652 x0 x1 x2) (@roundN._sparseCasesOn_2 (λ_=>t4) x0 (@Prod.rec Fr S (λ_=>t4) (λx3 x4=>((λ_ x6=>(k_rd_Ret x6 x1 (λx7 x8=>(l648 x7 x1 x8)))) x3 x4)) x2) (@Prod.rec Fr S (λ_=>t4) (λx3 x4=>((λ_ x6=>(k_rd_Ret x6 x1 (λx7 x8=>(l649 x7 x1 x8)))) x3 x4)) x2) (λx3=>(l651 x2 x1 x3)) (λ_=>none))) := by intro t; cases t <;> (intros; rfl)
abbrev t2094:=t151 → t41
def l653 : t2094 := (λx0=>(@Option.rec t148 (λ_=>t41) (λ_=>none) (λx1 x2=>(@Prod.rec Ex t147 (λ_=>t4) (λx3 x4=>(l652 x3 x2 x4)) x1)) x0))
theorem l653_eq : ∀ x0 x1, (Eq (l653 x0 x1) (@methV._sparseCasesOn_2 t148 (λ_=>t4) x0 (λx2=>(@Prod.rec Ex t147 (λ_=>t4) (λx3 x4=>(l652 x3 x1 x4)) x2)) (λ_=>none))) := by intro t; cases t <;> (intros; rfl)
abbrev t2095:=Code → t41
abbrev t2096:=Code → t2095
abbrev t2097:=t1526 → t2096
abbrev t2098:=Nat → t2097
abbrev t2099:=t14 → t2098
abbrev t2100:=t1353 → t2099
abbrev t2101:=S → t2100
abbrev t2102:=t14 → t2101
abbrev t2103:=Code → t2102
abbrev t2104:=Nat → t2103
abbrev t2105:=Nat → t2104
abbrev t2106:=Run → t2105
abbrev t2107:=LoopState → t2106
def l654 : t2107 := (λx0=>(@LoopState.rec (λ_=>t2106) (λx1 x2 x3 x4 x5 x6 x7 x8 x9 x10 x11 x12 x13=>(k_wr_Ret x6 x2 (some (CO.loop LoopState.busy x7 x8 x9 x10 x11 x12 x13)) (λx14=>(l653 (Run.code x1 x4 (Fr.mk x3 x5 [] (some x2)) x14) x2)))) (λ_ _ _ _ _ _ _ _ _ _ _ _ _=>none) (λ_ _ _ _ _ _ _ _ _ _ _ _ _=>none) (λ_ _ _ _ _ _ _ _ _ _ _ _ _=>none) x0))
theorem l654_eq : ∀ x0 x1 x2 x3 x4 x5 x6 x7 x8 x9 x10 x11 x12 x13, (Eq (l654 x0 x1 x2 x3 x4 x5 x6 x7 x8 x9 x10 x11 x12 x13) (@roundN._sparseCasesOn_3 (λ_=>t4) x0 (k_wr_Ret x6 x2 (some (CO.loop LoopState.busy x7 x8 x9 x10 x11 x12 x13)) (λx14=>(l653 (Run.code x1 x4 (Fr.mk x3 x5 [] (some x2)) x14) x2))) (λ_=>none))) := by intro t; cases t <;> (intros; rfl)
abbrev t2108:=Code → t1239
abbrev t2109:=Nat → t2108
abbrev t2110:=Nat → t2109
abbrev t2111:=Run → t2110
abbrev t2112:=CO → t2111
def l655 : t2112 := (λx0=>(@CO.rec (λ_=>t2111) (λ_ _ _ _ _ _ _ _ _=>none) (λ_ _ _ _ _ _ _ _ _=>none) (λx1 x2 x3 x4 x5 x6 x7 x8 x9 x10 x11 x12 x13 x14=>(l654 x1 x9 x10 x11 x12 x13 x14 x2 x3 x4 x5 x6 x7 x8)) (λ_ _ _ _ _ _=>none) (λ_ _ _ _ _ _=>none) x0))
theorem l655_eq : ∀ x0 x1 x2 x3 x4 x5 x6, (Eq (l655 x0 x1 x2 x3 x4 x5 x6) (@roundN._sparseCasesOn_1 (λ_=>t4) x0 (λx7 x8 x9 x10 x11 x12 x13 x14=>(l654 x7 x1 x2 x3 x4 x5 x6 x8 x9 x10 x11 x12 x13 x14)) (λ_=>none))) := by intro t; cases t <;> (intros; rfl)
abbrev t2113:=t14 → t4
abbrev t2114:=S → t2113
abbrev t2115:=Code → t2114
abbrev t2116:=Nat → t2115
abbrev t2117:=Nat → t2116
abbrev t2118:=Run → t2117
abbrev t2119:=t141 → t2118
def l656 : t2119 := (λx0=>(@List.rec SD (λ_=>t2118) (λx1 x2 x3 x4 x5 x6=>(k_rd_Ret x5 x2 (λx7 x8=>(l655 x7 x1 x2 x3 x4 x6 x8)))) (λ_ _ _ _ _ _ _ _ _=>none) x0))
theorem l656_eq : ∀ x0 x1 x2 x3 x4 x5 x6, (Eq (l656 x0 x1 x2 x3 x4 x5 x6) (@methV._sparseCasesOn_1 SD (λ_=>t4) x0 (k_rd_Ret x5 x2 (λx7 x8=>(l655 x7 x1 x2 x3 x4 x6 x8))) (λ_=>none))) := by intro t; cases t <;> (intros; rfl)
abbrev t2120:=Nat → t1404
abbrev t2121:=Nat → t2120
abbrev t2122:=Run → t2121
abbrev t2123:=t147 → t2122
def l657 : t2123 := (λx0=>(@Prod.rec Fr S (λ_=>t2122) (λx1 x2 x3 x4 x5 x6=>(@Fr.rec (λ_=>t4) (λ_ x8 x9 _=>(l656 x9 x3 x4 x5 x6 x2 x8)) x1)) x0))
theorem l657_eq : ∀ x0 x1 x2 x3 x4, (Eq (l657 x0 x1 x2 x3 x4) (@Prod.rec Fr S (λ_=>t4) (λx5 x6=>(@Fr.rec (λ_=>t4) (λ_ x8 x9 _=>(l656 x9 x1 x2 x3 x4 x6 x8)) x5)) x0)) := by intro t; cases t <;> (intros; rfl)
abbrev t2124:=Code → t1395
abbrev t2125:=Nat → t2124
abbrev t2126:=Nat → t2125
abbrev t2127:=Run → t2126
abbrev t2128:=Ex → t2127
def l658 : t2128 := (λx0=>(@Ex.rec (λ_=>t2127) (λx1 x2 x3 x4 x5=>(l657 x5 x1 x2 x3 x4)) (λ_ _ _ _ _ _=>none) (λ_ _ _ _ _=>none) (λ_ _ _ _ _ _=>none) x0))
theorem l658_eq : ∀ x0 x1 x2 x3 x4 x5, (Eq (l658 x0 x1 x2 x3 x4 x5) (@codeD._sparseCasesOn_1 (λ_=>t4) x0 (l657 x5 x1 x2 x3 x4) (λ_=>none))) := by intro t; cases t <;> (intros; rfl)
abbrev t2129:=t151 → t2122
def l659 : t2129 := (λx0=>(@Option.rec t148 (λ_=>t2122) (λ_ _ _ _=>none) (λx1 x2 x3 x4 x5=>(@Prod.rec Ex t147 (λ_=>t4) (λx6 x7=>(l658 x6 x2 x3 x4 x5 x7)) x1)) x0))
theorem l659_eq : ∀ x0 x1 x2 x3 x4, (Eq (l659 x0 x1 x2 x3 x4) (@methV._sparseCasesOn_2 t148 (λ_=>t4) x0 (λx5=>(@Prod.rec Ex t147 (λ_=>t4) (λx6 x7=>(l658 x6 x1 x2 x3 x4 x7)) x5)) (λ_=>none))) := by intro t; cases t <;> (intros; rfl)
abbrev t2130:=Code → t1404
abbrev t2131:=Nat → t2130
abbrev t2132:=S → t2131
abbrev t2133:=Nat → t2132
abbrev t2134:=Run → t2133
abbrev t2135:=t165 → t2134
def l660 : t2135 := (λx0=>(@Option.rec t14 (λ_=>t2134) (λ_ _ _ _ _ _=>none) (λx1 x2 x3 x4 x5 x6 x7=>((λx8=>(l659 (Run.code x2 x6 (Fr.mk x5 x8 [] (some x3)) x4) x2 x3 x5 x7)) x1)) x0))
theorem l660_eq : ∀ x0 x1 x2 x3 x4 x5 x6, (Eq (l660 x0 x1 x2 x3 x4 x5 x6) (@Option.rec t14 (λ_=>t4) none (λx7=>((λx8=>(l659 (Run.code x1 x5 (Fr.mk x4 x8 [] (some x2)) x3) x1 x2 x4 x6)) x7)) x0)) := by intro t; cases t <;> (intros; rfl)
def l662 : t1351 := (λx0=>(@List.rec CV (λ_=>t166) (λx1=>(some x1)) (λ_ _ _ _=>none) x0))
theorem l662_eq : ∀ x0 x1, (Eq (l662 x0 x1) (@methV._sparseCasesOn_1 CV (λ_=>t165) x0 (some x1) (λ_=>none))) := by intro t; cases t <;> (intros; rfl)
abbrev t2136:=t1352 → t165
abbrev t2137:=Nat → t2136
abbrev t2138:=t14 → t2137
abbrev t2139:=Nat → t2138
abbrev t2140:=t7 → t2139
def l663 : t2140 := (λx0=>(@List.rec CV (λ_=>t2139) (λ_ _ _ _=>none) (λx1 x2 _ x4 x5 x6 x7=>(@Bool.rec (λ_=>t165) none (@Option.rec t14 (λ_=>t165) none (λx8=>(x7 x4 x2 x8)) (setCV (nat_lit 24) x5 x6 (some x1))) (k_Nat_blt x6 x4))) x0))
theorem l663_eq : ∀ x0 x1 x2 x3 x4, (Eq (l663 x0 x1 x2 x3 x4) (@setPs._sparseCasesOn_1 CV (λ_=>t165) x0 (λx5 x6=>(@Bool.rec (λ_=>t165) none (@Option.rec t14 (λ_=>t165) none (λx7=>(x4 x1 x6 x7)) (setCV (nat_lit 24) x2 x3 (some x5))) (k_Nat_blt x3 x1))) (λ_=>none))) := by intro t; cases t <;> (intros; rfl)
abbrev t2141:=t1526 → t1351
abbrev t2142:=Nat → t2141
def k_setPs : t2142 := (λx0 x1 x2 x3=>(@List.rec Nat (λ_=>t1352) (λ_ x5 x6=>(l662 x5 x6)) (λx4 _ x6 x7 x8 x9=>(l663 x8 x7 x9 x4 x6)) x1 x0 x2 x3))
theorem k_setPs_law : ∀ x0 x1 x2 x3, (Eq (k_setPs x1 x0 x2 x3) (setPs x1 x0 x2 x3)) := by
  intro t
  induction t with
  | nil  =>
    intro z0 z1 z2
    show ((fun (_ : Nat) (x1 : t7) (x2 : t14) => (l662 x1 x2)) z0 z1 z2) = _
    conv => rhs; rw [Ev.setPs.eq_def]
    try simp only [l662_eq]
    all_goals kernel_rfl
  | cons y0 y1 ih0 =>
    intro z0 z1 z2
    have e0 : (fun (x0 : Nat) (x1 : t7) (x2 : t14) => (k_setPs x0 y1 x1 x2)) = (fun (x0 : Nat) (x1 : t7) (x2 : t14) => (setPs x0 y1 x1 x2)) := by
      funext z0 z1 z2; exact ih0 z0 z1 z2
    show ((fun (x0 : Nat) (_ : t1526) (x2 : t1352) (x3 : Nat) (x4 : t7) (x5 : t14) => (l663 x4 x3 x5 x0 x2)) y0 y1 (fun (x0 : Nat) (x1 : t7) (x2 : t14) => (k_setPs x0 y1 x1 x2)) z0 z1 z2) = _
    rw [e0]
    conv => rhs; rw [Ev.setPs.eq_def]
    try simp only [l663_eq]
    try rw [k_Nat_blt_eq]
    try rw [setCV_eq]
    all_goals kernel_rfl
theorem k_setPs_eq : @k_setPs = setPs := by
  funext a0 a1 a2 a3; exact k_setPs_law a1 a0 a2 a3
abbrev t2143:=Run → t1210
abbrev t2144:=CO → t2143
def l661 : t2144 := (λx0=>(@CO.rec (λ_=>t2143) (λ_ _ _ _ _ _ _=>none) (λ_ _ _ _ _ _ _=>none) (λ_ _ x3 x4 x5 x6 x7 _ x9 x10 x11 x12=>(l660 (k_setPs x4 x5 x11 x3) x9 x10 x12 x4 x6 x7)) (λ_ _ _ _=>none) (λ_ _ _ _=>none) x0))
theorem l661_eq : ∀ x0 x1 x2 x3 x4, (Eq (l661 x0 x1 x2 x3 x4) (@roundN._sparseCasesOn_1 (λ_=>t4) x0 (λ_ _ x7 x8 x9 x10 x11 _=>(l660 (k_setPs x8 x9 x3 x7) x1 x2 x4 x8 x10 x11)) (λ_=>none))) := by intro t; cases t <;> (intros; rfl)
abbrev t2145:=Program → t2143
def k_roundN : t2145 := (λ_ x1 x2 x3 x4=>(k_rd_Ret x4 x2 (λx5 x6=>(l661 x5 x1 x2 x3 x6))))
theorem k_roundN_eq : @k_roundN = roundN := by
  delta k_roundN roundN
  simp only [l649_eq, l659_eq, l650_eq, l658_eq, l657_eq, l653_eq, l652_eq, l660_eq, l656_eq, l648_eq, l655_eq, l651_eq, l654_eq, l661_eq]
  rw [k_rd_Ret_eq, k_wr_Ret_eq, k_setPs_eq]
  all_goals kernel_rfl

abbrev t2146:=t6 → Run
abbrev t2147:=Program → t2146
abbrev t2148:=Nat → Run
abbrev t2149:=t6 → t2148
abbrev t2150:=Program → t2149
def k_runT : t2150 := (λx0 x1 x2=>(@Nat.rec (λ_=>t2147) (λ_ _=>(Run.mk (λ_ _ _=>none) (λ_ _ _=>none) (λ_ _ _=>none))) (λ_ x4 x5 x6=>(Run.mk (k_callT x5 x6 (x4 x5 x6)) (k_codeN' x5 (x4 x5 x6)) (k_roundN x5 (x4 x5 x6)))) x2 x0 x1))
theorem k_runT_law : ∀ x0 x1 x2, (Eq (k_runT x1 x2 x0) (Ev.runT x1 x2 x0)) := by
  intro t
  induction t with
  | zero  =>
    intro z0 z1
    show ((fun (_ : Program) (_ : t6) => (Run.mk (fun (_ : FuncId) (_ : t7) (_ : S) => none) (fun (_ : Code) (_ : Fr) (_ : S) => none) (fun (_ : Nat) (_ : t7) (_ : S) => none))) z0 z1) = _
    conv => rhs; rw [Ev.runT.eq_def]
    all_goals kernel_rfl
  | succ y0 ih0 =>
    intro z0 z1
    have e0 : (fun (x0 : Program) (x1 : t6) => (k_runT x0 x1 y0)) = (fun (x0 : Program) (x1 : t6) => (Ev.runT x0 x1 y0)) := by
      funext z0 z1; exact ih0 z0 z1
    show ((fun (_ : Nat) (x1 : t2147) (x2 : Program) (x3 : t6) => (Run.mk (k_callT x2 x3 (x1 x2 x3)) (k_codeN' x2 (x1 x2 x3)) (k_roundN x2 (x1 x2 x3)))) y0 (fun (x0 : Program) (x1 : t6) => (k_runT x0 x1 y0)) z0 z1) = _
    rw [e0]
    conv => rhs; rw [Ev.runT.eq_def]
    try rw [k_roundN_eq]
    try rw [k_codeN_eq]
    try rw [k_callT_eq]
    all_goals kernel_rfl
theorem k_runT_eq : @k_runT = Ev.runT := by
  funext a0 a1 a2; exact k_runT_law a2 a0 a1
def k_S0 : S := (S.mk (@Tr.nil CO) (nat_lit 0) (nat_lit 0) (nat_lit 0))
theorem k_S0_eq : @k_S0 = S0 := by
  delta k_S0 S0
  all_goals kernel_rfl

abbrev t2151:=Nat → t6
abbrev t2152:=t6 → t2151
abbrev t2153:=Program → t2152
def k_saysT : t2153 := (λx0 x1 x2 x3=>(l4 (Run.call (k_runT x0 x1 x2) x3 [] k_S0)))
theorem k_saysT_eq : @k_saysT = saysT := by
  delta k_saysT saysT
  simp only [l2_eq, l4_eq, l0_eq, l1_eq, l3_eq]
  rw [k_S0_eq, k_runT_eq]
  all_goals kernel_rfl

abbrev t2154:=Option t147
abbrev t2155:=t14 → t2154
abbrev t2156:=Nat → t2155
abbrev t2157:=Nat → t2156
abbrev t2158:=t207 → t2157
def l664 : t2158 := (λx0=>(@Option.rec t46 (λ_=>t2157) (λ_ _ _=>none) (λx1 x2 x3 x4=>(some ((Fr.mk x2 x4 [] none), (S.mk x1 x3 (nat_lit 0) (nat_lit 0))))) x0))
theorem l664_eq : ∀ x0 x1 x2 x3, (Eq (l664 x0 x1 x2 x3) (@methV._sparseCasesOn_2 t46 (λ_=>t2154) x0 (λx4=>(some ((Fr.mk x1 x3 [] none), (S.mk x4 x2 (nat_lit 0) (nat_lit 0))))) (λ_=>none))) := by intro t; cases t <;> (intros; rfl)
abbrev t2159:=t46 → t207
abbrev t2160:=t46 → t2159
abbrev t2161:=t1526 → t2160
def k_keepO : t2161 := (λx0 x1 x2=>(@List.rec Nat (λ_=>t2160) (λ_ x4=>(some x4)) (λx3 _ x5 x6 x7=>(@Option.rec CO (λ_=>t207) none (λx8=>(@Option.rec t46 (λ_=>t207) none (λx9=>(x5 x6 x9)) (setCO (nat_lit 24) x7 x3 (some x8)))) (getCO x6 x3))) x0 x1 x2))
theorem k_keepO_law : ∀ x0 x1 x2, (Eq (k_keepO x0 x1 x2) (keepO x0 x1 x2)) := by
  intro t
  induction t with
  | nil  =>
    intro z0 z1
    show ((fun (_ : t46) (x1 : t46) => (some x1)) z0 z1) = _
    conv => rhs; rw [Ev.keepO.eq_def]
    all_goals kernel_rfl
  | cons y0 y1 ih0 =>
    intro z0 z1
    have e0 : (fun (x0 : t46) (x1 : t46) => (k_keepO y1 x0 x1)) = (fun (x0 : t46) (x1 : t46) => (keepO y1 x0 x1)) := by
      funext z0 z1; exact ih0 z0 z1
    show ((fun (x0 : Nat) (_ : t1526) (x2 : t2160) (x3 : t46) (x4 : t46) => (@Option.rec CO (fun (_ : t44) => t207) none (fun (x5 : CO) => (@Option.rec t46 (fun (_ : t207) => t207) none (fun (x6 : t46) => (x2 x3 x6)) (setCO (nat_lit 24) x4 x0 (some x5)))) (getCO x3 x0))) y0 y1 (fun (x0 : t46) (x1 : t46) => (k_keepO y1 x0 x1)) z0 z1) = _
    rw [e0]
    conv => rhs; rw [Ev.keepO.eq_def]
    try rw [getCO_eq]
    try rw [setCO_eq]
    all_goals kernel_rfl
theorem k_keepO_eq : @k_keepO = keepO := by
  funext a0 a1 a2; exact k_keepO_law a0 a1 a2
abbrev t2162:=Nat → t2154
abbrev t2163:=t46 → t2162
abbrev t2164:=Nat → t2163
abbrev t2165:=t1526 → t2164
abbrev t2166:=t165 → t2165
def l665 : t2166 := (λx0=>(@Option.rec t14 (λ_=>t2165) (λ_ _ _ _=>none) (λx1 x2 x3 x4 x5=>(l664 (k_keepO x2 x4 (@Tr.nil CO)) x3 x5 x1)) x0))
theorem l665_eq : ∀ x0 x1 x2 x3 x4, (Eq (l665 x0 x1 x2 x3 x4) (@methV._sparseCasesOn_2 t14 (λ_=>t2154) x0 (λx5=>(l664 (k_keepO x1 x3 (@Tr.nil CO)) x2 x4 x5)) (λ_=>none))) := by intro t; cases t <;> (intros; rfl)
abbrev t2167:=t14 → t166
abbrev t2168:=t1526 → t2167
def k_keepV : t2168 := (λx0 x1 x2=>(@List.rec Nat (λ_=>t2167) (λ_ x4=>(some x4)) (λx3 _ x5 x6 x7=>(@Option.rec CV (λ_=>t165) none (λx8=>(@Option.rec t14 (λ_=>t165) none (λx9=>(x5 x6 x9)) (setCV (nat_lit 24) x7 x3 (some x8)))) (getCV x6 x3))) x0 x1 x2))
theorem k_keepV_law : ∀ x0 x1 x2, (Eq (k_keepV x0 x1 x2) (keepV x0 x1 x2)) := by
  intro t
  induction t with
  | nil  =>
    intro z0 z1
    show ((fun (_ : t14) (x1 : t14) => (some x1)) z0 z1) = _
    conv => rhs; rw [Ev.keepV.eq_def]
    all_goals kernel_rfl
  | cons y0 y1 ih0 =>
    intro z0 z1
    have e0 : (fun (x0 : t14) (x1 : t14) => (k_keepV y1 x0 x1)) = (fun (x0 : t14) (x1 : t14) => (keepV y1 x0 x1)) := by
      funext z0 z1; exact ih0 z0 z1
    show ((fun (x0 : Nat) (_ : t1526) (x2 : t2167) (x3 : t14) (x4 : t14) => (@Option.rec CV (fun (_ : t81) => t165) none (fun (x5 : CV) => (@Option.rec t14 (fun (_ : t165) => t165) none (fun (x6 : t14) => (x2 x3 x6)) (setCV (nat_lit 24) x4 x0 (some x5)))) (getCV x3 x0))) y0 y1 (fun (x0 : t14) (x1 : t14) => (k_keepV y1 x0 x1)) z0 z1) = _
    rw [e0]
    conv => rhs; rw [Ev.keepV.eq_def]
    try rw [getCV_eq]
    try rw [setCV_eq]
    all_goals kernel_rfl
theorem k_keepV_eq : @k_keepV = keepV := by
  funext a0 a1 a2; exact k_keepV_law a0 a1 a2
abbrev t2169:=t1526 → t2156
abbrev t2170:=t1526 → t2169
abbrev t2171:=S → t2170
def l666 : t2171 := (λx0=>(@S.rec (λ_=>t2170) (λx1 x2 x3 x4 x5 x6 x7 x8=>((λx9 x10 x11 x12 _ _=>(l665 (k_keepV x5 x10 (@Tr.nil CV)) x6 x9 x11 x12)) x7 x8 x1 x2 x3 x4)) x0))
theorem l666_eq : ∀ x0 x1 x2 x3 x4, (Eq (l666 x0 x1 x2 x3 x4) (@S.rec (λ_=>t2154) (λx5 x6 x7 x8=>((λx9 x10 x11 x12 _ _=>(l665 (k_keepV x1 x10 (@Tr.nil CV)) x2 x9 x11 x12)) x3 x4 x5 x6 x7 x8)) x0)) := by intro t; cases t <;> (intros; rfl)
abbrev t2172:=S → t2156
abbrev t2173:=t1526 → t2172
abbrev t2174:=t1526 → t2173
abbrev t2175:=t164 → t2174
def l667 : t2175 := (λx0=>(@Option.rec Nat (λ_=>t2174) (λx1 x2 x3 x4 x5=>(l666 x3 x1 x2 x4 x5)) (λ_ _ _ _ _ _=>none) x0))
theorem l667_eq : ∀ x0 x1 x2 x3 x4 x5, (Eq (l667 x0 x1 x2 x3 x4 x5) (@rangeN._sparseCasesOn_2 Nat (λ_=>t2154) x0 (l666 x3 x1 x2 x4 x5) (λ_=>none))) := by intro t; cases t <;> (intros; rfl)
abbrev t2176:=t164 → t2154
abbrev t2177:=t14 → t2176
abbrev t2178:=Nat → t2177
abbrev t2179:=S → t2178
abbrev t2180:=t1526 → t2179
abbrev t2181:=t1526 → t2180
abbrev t2182:=t141 → t2181
def l668 : t2182 := (λx0=>(@List.rec SD (λ_=>t2181) (λx1 x2 x3 x4 x5 x6=>(l667 x6 x1 x2 x3 x4 x5)) (λ_ _ _ _ _ _ _ _ _=>none) x0))
theorem l668_eq : ∀ x0 x1 x2 x3 x4 x5 x6, (Eq (l668 x0 x1 x2 x3 x4 x5 x6) (@methV._sparseCasesOn_1 SD (λ_=>t2154) x0 (l667 x6 x1 x2 x3 x4 x5) (λ_=>none))) := by intro t; cases t <;> (intros; rfl)
abbrev t2183:=t1526 → t2154
abbrev t2184:=t1526 → t2183
abbrev t2185:=t147 → t2184
def l669 : t2185 := (λx0=>(@Prod.rec Fr S (λ_=>t2184) (λx1 x2 x3 x4=>(@Fr.rec (λ_=>t2154) (λx5 x6 x7 x8=>(l668 x7 x3 x4 x2 x5 x6 x8)) x1)) x0))
theorem l669_eq : ∀ x0 x1 x2, (Eq (l669 x0 x1 x2) (@Prod.rec Fr S (λ_=>t2154) (λx3 x4=>(@Fr.rec (λ_=>t2154) (λx5 x6 x7 x8=>(l668 x7 x1 x2 x4 x5 x6 x8)) x3)) x0)) := by intro t; cases t <;> (intros; rfl)
abbrev t2186:=t2154 → t2184
def l670 : t2186 := (λx0=>(@Option.rec t147 (λ_=>t2184) (λ_ _=>none) (λx1 x2 x3=>(l669 x1 x2 x3)) x0))
theorem l670_eq : ∀ x0 x1 x2, (Eq (l670 x0 x1 x2) (@methV._sparseCasesOn_2 t147 (λ_=>t2154) x0 (λx3=>(l669 x3 x1 x2)) (λ_=>none))) := by intro t; cases t <;> (intros; rfl)
abbrev t2187:=S → t2154
abbrev t2188:=Fr → t2187
abbrev t2189:=Code → t2188
abbrev t2190:=Run → t2189
abbrev t2191:=t147 → t2154
abbrev t2192:=Code → t2191
abbrev t2193:=t2190 → t2192
abbrev t2194:=Run → t2193
abbrev t2195:=Ex → t2194
def l672 : t2195 := (λx0=>(@Ex.rec (λ_=>t2194) (λx1 x2 x3 x4=>(@Prod.rec Fr S (λ_=>t2154) (λx5 x6=>(x2 x1 x3 x5 x6)) x4)) (λ_ _ _ _ _=>none) (λ_ _ _ _=>none) (λ_ _ _ _ _=>none) x0))
theorem l672_eq : ∀ x0 x1 x2 x3 x4, (Eq (l672 x0 x1 x2 x3 x4) (@codeD._sparseCasesOn_1 (λ_=>t2154) x0 (@Prod.rec Fr S (λ_=>t2154) (λx5 x6=>(x2 x1 x3 x5 x6)) x4) (λ_=>none))) := by intro t; cases t <;> (intros; rfl)
abbrev t2196:=Code → t2154
abbrev t2197:=t2190 → t2196
abbrev t2198:=Run → t2197
abbrev t2199:=t151 → t2198
def l673 : t2199 := (λx0=>(@Option.rec t148 (λ_=>t2198) (λ_ _ _=>none) (λx1 x2 x3 x4=>(@Prod.rec Ex t147 (λ_=>t2154) (λx5 x6=>(l672 x5 x2 x3 x4 x6)) x1)) x0))
theorem l673_eq : ∀ x0 x1 x2 x3, (Eq (l673 x0 x1 x2 x3) (@methV._sparseCasesOn_2 t148 (λ_=>t2154) x0 (λx4=>(@Prod.rec Ex t147 (λ_=>t2154) (λx5 x6=>(l672 x5 x1 x2 x3 x6)) x4)) (λ_=>none))) := by intro t; cases t <;> (intros; rfl)
abbrev t2200:=t2190 → t2154
abbrev t2201:=S → t2200
abbrev t2202:=Fr → t2201
abbrev t2203:=Run → t2202
abbrev t2204:=Code → t2203
def l674 : t2204 := (λx0=>(@Code.rec (λ_=>t2203) (λ_ _ _ _=>none) (λ_ _ _ _ _ _ _=>none) (λx1 x2 _ _ x5 x6 x7 x8=>(l673 (Run.code x5 x1 x6 x7) x5 x8 x2)) (λ_ _ _ _ _ _ _ _ _=>none) (λ_ _ _ _ _ _ _=>none) (λ_ _ _ _ _ _=>none) (λ_ _ _ _ _ _ _ _ _ _=>none) (λ_ _ _ _ _=>none) (λ_ _ _ _ _ _=>none) (λ_ _ _ _ _=>none) (λ_ _ _ _ _=>none) (λ_ _ _ _=>none) (λ_ _ _ _ _=>none) x0))
theorem l674_eq : ∀ x0 x1 x2 x3 x4, (Eq (l674 x0 x1 x2 x3 x4) (@dropC._sparseCasesOn_1 (λ_=>t2154) x0 (λx5 x6=>(l673 (Run.code x1 x5 x2 x3) x1 x4 x6)) (λ_=>none))) := by intro t; cases t <;> (intros; rfl)
abbrev t2205:=Nat → t2189
abbrev t2206:=Run → t2205
def k_cutR : t2206 := (λx0 x1 x2 x3 x4=>(@Nat.rec (λ_=>t2190) (λ_ _ x7 x8=>(some (x7, x8))) (λ_ x6 x7 x8 x9 x10=>(l674 x8 x7 x9 x10 x6)) x1 x0 x2 x3 x4))
theorem k_cutR_law : ∀ x0 x1 x2 x3 x4, (Eq (k_cutR x1 x0 x2 x3 x4) (cutR x1 x0 x2 x3 x4)) := by
  intro t
  induction t with
  | zero  =>
    intro z0 z1 z2 z3
    show ((fun (_ : Run) (_ : Code) (x2 : Fr) (x3 : S) => (some (x2, x3))) z0 z1 z2 z3) = _
    conv => rhs; rw [Ev.cutR.eq_def]
    all_goals kernel_rfl
  | succ y0 ih0 =>
    intro z0 z1 z2 z3
    have e0 : (fun (x0 : Run) (x1 : Code) (x2 : Fr) (x3 : S) => (k_cutR x0 y0 x1 x2 x3)) = (fun (x0 : Run) (x1 : Code) (x2 : Fr) (x3 : S) => (cutR x0 y0 x1 x2 x3)) := by
      funext z0 z1 z2 z3; exact ih0 z0 z1 z2 z3
    show ((fun (_ : Nat) (x1 : t2190) (x2 : Run) (x3 : Code) (x4 : Fr) (x5 : S) => (l674 x3 x2 x4 x5 x1)) y0 (fun (x0 : Run) (x1 : Code) (x2 : Fr) (x3 : S) => (k_cutR x0 y0 x1 x2 x3)) z0 z1 z2 z3) = _
    rw [e0]
    conv => rhs; rw [Ev.cutR.eq_def]
    try simp only [l673_eq, l674_eq, l672_eq]
    all_goals kernel_rfl
theorem k_cutR_eq : @k_cutR = cutR := by
  funext a0 a1 a2 a3 a4; exact k_cutR_law a1 a0 a2 a3 a4
abbrev t2207:=Code → t1353
abbrev t2208:=t2207 → t1353
abbrev t2209:=Code → t2208
def l675 : t2209 := (λx0=>(@Code.rec (λ_=>t2208) (λ_=>none) (λ_ _ _ _=>none) (λ_ x2 _ _ x5=>(x5 x2)) (λ_ _ _ _ _ _=>none) (λ_ _ _ _=>none) (λ_ _ _=>none) (λ_ _ _ _ _ _ _=>none) (λ_ _=>none) (λ_ _ _=>none) (λ_ _=>none) (λ_ _=>none) (λ_=>none) (λ_ _=>none) x0))
theorem l675_eq : ∀ x0 x1, (Eq (l675 x0 x1) (@dropC._sparseCasesOn_1 (λ_=>t1353) x0 (λ_ x3=>(x1 x3)) (λ_=>none))) := by intro t; cases t <;> (intros; rfl)
abbrev t2210:=Nat → t2207
def k_dropC : t2210 := (λx0 x1=>(@Nat.rec (λ_=>t2207) (λx2=>(some x2)) (λ_ x3 x4=>(l675 x4 x3)) x0 x1))
theorem k_dropC_law : ∀ x0 x1, (Eq (k_dropC x0 x1) (dropC x0 x1)) := by
  intro t
  induction t with
  | zero  =>
    intro z0
    show ((fun (x0 : Code) => (some x0)) z0) = _
    conv => rhs; rw [Ev.dropC.eq_def]
    all_goals kernel_rfl
  | succ y0 ih0 =>
    intro z0
    have e0 : (fun (x0 : Code) => (k_dropC y0 x0)) = (fun (x0 : Code) => (dropC y0 x0)) := by
      funext z0; exact ih0 z0
    show ((fun (_ : Nat) (x1 : t2207) (x2 : Code) => (l675 x2 x1)) y0 (fun (x0 : Code) => (k_dropC y0 x0)) z0) = _
    rw [e0]
    conv => rhs; rw [Ev.dropC.eq_def]
    try simp only [l675_eq]
    all_goals kernel_rfl
theorem k_dropC_eq : @k_dropC = dropC := by
  funext a0 a1; exact k_dropC_law a0 a1
abbrev t2211:=t1526 → t2188
abbrev t2212:=t1526 → t2211
abbrev t2213:=Nat → t2212
abbrev t2214:=Nat → t2213
abbrev t2215:=Nat → t2214
abbrev t2216:=t6 → t2215
abbrev t2217:=Program → t2216
abbrev t2218:=t1353 → t2217
def l671 : t2218 := (λx0=>(@Option.rec Code (λ_=>t2217) (λ_ _ _ _ _ _ _ _ _=>none) (λx1 x2 x3 x4 x5 x6 x7 x8 x9 x10=>((λx11=>(@Option.rec Code (λ_=>t2154) none (λx12=>((λx13=>(l670 (k_cutR (k_runT x2 x3 x4) x6 x13 x9 x10) x7 x8)) x12)) (k_dropC x5 x11))) x1)) x0))
theorem l671_eq : ∀ x0 x1 x2 x3 x4 x5 x6 x7 x8 x9, (Eq (l671 x0 x1 x2 x3 x4 x5 x6 x7 x8 x9) (@Option.rec Code (λ_=>t2154) none (λx10=>((λx11=>(@Option.rec Code (λ_=>t2154) none (λx12=>((λx13=>(l670 (k_cutR (k_runT x1 x2 x3) x5 x13 x8 x9) x6 x7)) x12)) (k_dropC x4 x11))) x10)) x0)) := by intro t; cases t <;> (intros; rfl)
abbrev t2219:=FuncId → t2214
abbrev t2220:=Nat → t2219
abbrev t2221:=t6 → t2220
abbrev t2222:=Program → t2221
def k_segT : t2222 := (λx0 x1 x2 x3 x4 x5 x6 x7 x8 x9=>(@Option.rec Func (λ_=>t2154) none (λx10=>((λx11=>(l671 (Func.body x11) x0 x1 x2 x4 x5 x6 x7 x8 x9)) x10)) (@GetElem?.getElem? (Array Func) FuncId Func (λx10 x11=>(@LT.lt Nat instLTNat x11 (@Array.size Func x10))) (@Array.instGetElem?NatLtSize Func) (Program.funcs x0) x3)))
theorem k_segT_eq : @k_segT = segT := by
  delta k_segT segT
  simp only [l666_eq, l670_eq, l665_eq, l664_eq, l668_eq, l671_eq, l669_eq, l667_eq]
  rw [k_keepO_eq, k_keepV_eq, k_dropC_eq, k_cutR_eq, k_runT_eq]
  all_goals kernel_rfl

def l677 : t0 := (λx0=>(@Bool.rec (λ_=>Bool) Bool.false Bool.true x0))
theorem l677_eq : ∀ x0, (Eq (l677 x0) (@saysT._sparseCasesOn_1 (λ_=>Bool) x0 Bool.true (λ_=>Bool.false))) := by intro t; cases t <;> (intros; rfl)
def l678 : t1 := (λx0=>(@Value.rec (λ_=>Bool) (λ_=>PUnit.{1}) (λ_=>PUnit.{1}) (λx1=>(l677 x1)) (λ_ _=>Bool.false) (λ_ _=>Bool.false) (λ_ _ _=>Bool.false) (λ_=>Bool.false) (λ_=>Bool.false) (λ_ _ _=>Bool.false) (λ_=>Bool.false) (λ_=>Bool.false) (λ_ _ _ _ _=>Bool.false) Bool.false (λ_ _ _=>Bool.false) Bool.false (λ_ _=>Bool.false) (λ_ _=>Bool.false) (λ_ _=>PUnit.unit.{1}) PUnit.unit.{1} (λ_ _ _ _=>PUnit.unit.{1}) x0))
theorem l678_eq : ∀ x0, (Eq (l678 x0) (@guardV._sparseCasesOn_2 (λ_=>Bool) x0 (λx1=>(l677 x1)) (λ_=>Bool.false))) := by intro t; cases t <;> (intros; rfl)
def l679 : t2 := (λx0=>(@CV.rec (λ_=>Bool) (λ_=>PUnit.{1}) Bool.false (λx1=>(l678 x1)) (λ_ _=>Bool.false) (λ_ _ _ _ _=>Bool.false) Bool.false (λ_=>Bool.false) (λ_ _=>Bool.false) (λ_ _=>Bool.false) (λ_ _ _ _ _=>Bool.false) (λ_=>Bool.false) (λ_ _ _=>Bool.false) PUnit.unit.{1} (λ_ _ _ _=>PUnit.unit.{1}) x0))
theorem l679_eq : ∀ x0, (Eq (l679 x0) (@codeD._sparseCasesOn_2 (λ_=>Bool) x0 (λx1=>(l678 x1)) (λ_=>Bool.false))) := by intro t; cases t <;> (intros; rfl)
def l680 : t3 := (λx0=>(@Ret.rec (λ_=>Bool) (λx1 _=>(l679 x1)) (λ_ _=>Bool.false) x0))
theorem l680_eq : ∀ x0, (Eq (l680 x0) (@regP._sparseCasesOn_2 (λ_=>Bool) x0 (λx1 _=>(l679 x1)) (λ_=>Bool.false))) := by intro t; cases t <;> (intros; rfl)
def l681 : t5 := (λx0=>(@Option.rec Ret (λ_=>Bool) Bool.false (λx1=>(l680 x1)) x0))
theorem l681_eq : ∀ x0, (Eq (l681 x0) (@methV._sparseCasesOn_2 Ret (λ_=>Bool) x0 (λx1=>(l680 x1)) (λ_=>Bool.false))) := by intro t; cases t <;> (intros; rfl)
def k_isT : t5 := (λx0=>(l681 x0))
theorem k_isT_eq : @k_isT = isT := by
  delta k_isT isT
  simp only [l680_eq, l679_eq, l681_eq, l677_eq, l678_eq]
  all_goals kernel_rfl

abbrev t2223:=S → Bool
abbrev t2224:=Func → t2223
abbrev t2225:=Nat → t2224
abbrev t2226:=t6 → t2225
abbrev t2227:=Program → t2226
abbrev t2228:=Fr → t2227
def l676 : t2228 := (λx0=>(@Fr.rec (λ_=>t2227) (λx1 x2 x3 x4 x5 x6 x7 x8 x9=>((λ_ x11 x12 _ x14=>(k_isT (k_leave x5 (k_runT x5 x6 x7) x8 x11 x12 none x14))) x1 x2 x3 x4 x9)) x0))
theorem l676_eq : ∀ x0 x1 x2 x3 x4 x5, (Eq (l676 x0 x1 x2 x3 x4 x5) (@Fr.rec (λ_=>Bool) (λx6 x7 x8 x9=>((λ_ x11 x12 _ x14=>(k_isT (k_leave x1 (k_runT x1 x2 x3) x4 x11 x12 none x14))) x6 x7 x8 x9 x5)) x0)) := by intro t; cases t <;> (intros; rfl)
def l682 : t2228 := (λx0=>(@Fr.rec (λ_=>t2227) (λx1 x2 x3 x4 x5 x6 x7 x8 x9=>((λ_ x11 x12 _ x14=>(k_isT (k_leave x5 (k_runT x5 x6 x7) x8 x11 x12 none x14))) x1 x2 x3 x4 x9)) x0))
theorem l682_eq : ∀ x0 x1 x2 x3 x4 x5, (Eq (l682 x0 x1 x2 x3 x4 x5) (@Fr.rec (λ_=>Bool) (λx6 x7 x8 x9=>((λ_ x11 x12 _ x14=>(k_isT (k_leave x1 (k_runT x1 x2 x3) x4 x11 x12 none x14))) x6 x7 x8 x9 x5)) x0)) := by intro t; cases t <;> (intros; rfl)
abbrev t2229:=t147 → Bool
abbrev t2230:=Func → t2229
abbrev t2231:=Nat → t2230
abbrev t2232:=t6 → t2231
abbrev t2233:=Program → t2232
abbrev t2234:=Ex → t2233
def l683 : t2234 := (λx0=>(@Ex.rec (λ_=>t2233) (λx1 x2 x3 x4 x5=>(@Prod.rec Fr S (λ_=>Bool) (λx6 x7=>(l676 x6 x1 x2 x3 x4 x7)) x5)) (λ_ _ _ _ _ _=>Bool.false) (λx1 x2 x3 x4 x5=>(@Prod.rec Fr S (λ_=>Bool) (λx6 x7=>(l682 x6 x1 x2 x3 x4 x7)) x5)) (λ_ _ _ _ _ _=>Bool.false) x0))
theorem l683_eq : ∀ x0 x1 x2 x3 x4 x5, (Eq (l683 x0 x1 x2 x3 x4 x5) (@callD._sparseCasesOn_1 (λ_=>Bool) x0 (@Prod.rec Fr S (λ_=>Bool) (λx6 x7=>(l676 x6 x1 x2 x3 x4 x7)) x5) (@Prod.rec Fr S (λ_=>Bool) (λx6 x7=>(l682 x6 x1 x2 x3 x4 x7)) x5) (λ_=>Bool.false))) := by intro t; cases t <;> (intros; rfl)
abbrev t2235:=Func → Bool
abbrev t2236:=Nat → t2235
abbrev t2237:=t6 → t2236
abbrev t2238:=Program → t2237
abbrev t2239:=t151 → t2238
def l684 : t2239 := (λx0=>(@Option.rec t148 (λ_=>t2238) (λ_ _ _ _=>Bool.false) (λx1 x2 x3 x4 x5=>(@Prod.rec Ex t147 (λ_=>Bool) (λx6 x7=>(l683 x6 x2 x3 x4 x5 x7)) x1)) x0))
theorem l684_eq : ∀ x0 x1 x2 x3 x4, (Eq (l684 x0 x1 x2 x3 x4) (@methV._sparseCasesOn_2 t148 (λ_=>Bool) x0 (λx5=>(@Prod.rec Ex t147 (λ_=>Bool) (λx6 x7=>(l683 x6 x1 x2 x3 x4 x7)) x5)) (λ_=>Bool.false))) := by intro t; cases t <;> (intros; rfl)
abbrev t2240:=S → t2235
abbrev t2241:=Fr → t2240
abbrev t2242:=Nat → t2241
abbrev t2243:=t6 → t2242
abbrev t2244:=Program → t2243
abbrev t2245:=t1353 → t2244
def l685 : t2245 := (λx0=>(@Option.rec Code (λ_=>t2244) (λ_ _ _ _ _ _=>Bool.false) (λx1 x2 x3 x4 x5 x6 x7=>((λx8=>(l684 (Run.code (k_runT x2 x3 x4) x8 x5 x6) x2 x3 x4 x7)) x1)) x0))
theorem l685_eq : ∀ x0 x1 x2 x3 x4 x5 x6, (Eq (l685 x0 x1 x2 x3 x4 x5 x6) (@Option.rec Code (λ_=>Bool) Bool.false (λx7=>((λx8=>(l684 (Run.code (k_runT x1 x2 x3) x8 x4 x5) x1 x2 x3 x6)) x7)) x0)) := by intro t; cases t <;> (intros; rfl)
abbrev t2246:=Option Func
abbrev t2247:=Fr → t2223
abbrev t2248:=Nat → t2247
abbrev t2249:=Nat → t2248
abbrev t2250:=t6 → t2249
abbrev t2251:=Program → t2250
abbrev t2252:=t2246 → t2251
def l686 : t2252 := (λx0=>(@Option.rec Func (λ_=>t2251) (λ_ _ _ _ _ _=>Bool.false) (λx1 x2 x3 x4 x5 x6 x7=>((λx8=>(@Option.rec Code (λ_=>Bool) Bool.false (λx9=>((λx10=>(l685 (k_dropC x5 x10) x2 x3 x4 x6 x7 x8)) x9)) (Func.body x8))) x1)) x0))
theorem l686_eq : ∀ x0 x1 x2 x3 x4 x5 x6, (Eq (l686 x0 x1 x2 x3 x4 x5 x6) (@Option.rec Func (λ_=>Bool) Bool.false (λx7=>((λx8=>(@Option.rec Code (λ_=>Bool) Bool.false (λx9=>((λx10=>(l685 (k_dropC x4 x10) x1 x2 x3 x5 x6 x8)) x9)) (Func.body x8))) x7)) x0)) := by intro t; cases t <;> (intros; rfl)
abbrev t2253:=FuncId → t2248
abbrev t2254:=Nat → t2253
abbrev t2255:=t6 → t2254
abbrev t2256:=Program → t2255
def k_endT : t2256 := (λx0 x1 x2 x3 x4 x5 x6=>(l686 (@GetElem?.getElem? (Array Func) FuncId Func (λx7 x8=>(@LT.lt Nat instLTNat x8 (@Array.size Func x7))) (@Array.instGetElem?NatLtSize Func) (Program.funcs x0) x3) x0 x1 x2 x4 x5 x6))
theorem k_endT_eq : @k_endT = endT := by
  delta k_endT endT
  simp only [l685_eq, l684_eq, l686_eq, l683_eq, l682_eq, l676_eq]
  rw [k_isT_eq, k_leave_eq, k_runT_eq, k_dropC_eq]
  all_goals kernel_rfl

end
end Go.EvK
