/- Part 20 of the proof: contracts of functions of the program and what they need. No condition beyond those that each theorem names. -/
import Derived.Test.YtpgnjlngepfanaaGreatIrP19
import Derived.KernelRfl
set_option maxRecDepth 100000
set_option linter.unusedVariables false
set_option linter.unusedSimpArgs false
set_option maxRecDepth 10000
namespace Go.Proofs.YtpgnjlngepfanaaGreat
open Go.Eng
open Go.Eng.Fc
open Go.Eng.Bd
theorem laidOutK : laidOutB Tryz.prog = true := by kernel_rfl
theorem mixedK : Tryz.prog.follows .mixedOrders = true := by kernel_rfl
theorem known : Ev.Says Tryz.prog 18 := Ev.then_says (by kernel_rfl) <|
 Ev.seg_then laidOutK mixedK (T := fun _ => false) (fun _ h => (by cases h)) IA_seg1 <|
 Ev.seg_then laidOutK mixedK (T := fun _ => false) (fun _ h => (by cases h)) IA_seg2 <|
 Ev.seg_then laidOutK mixedK (T := fun _ => false) (fun _ h => (by cases h)) IA_seg3 <|
 Ev.seg_then laidOutK mixedK (T := fun _ => false) (fun _ h => (by cases h)) IA_seg4 <|
 Ev.end_then laidOutK mixedK (T := fun _ => false) (fun _ h => (by cases h)) IA_fin
abbrev unfV : Value := .iface 253 (.agg #[])
abbrev unfA : AV := .iface 253 (.agg [])
theorem unf_c : unfA.Const unfV where
 is I w u h := by
  cases h with
  | iface _ _ v h => cases h with
   | agg _ vs h =>
    have : vs = #[] := by cases vs with | mk l => cases h; rfl
    rw [this]
 rel I w := .iface _ _ _ (.agg _ _ .nil)
def kindA : Option (Option Nat) → AV
 | none => .val .nilIface
 | some none => .iface 234 (.agg [])
 | some (some k) => .iface 233 (.i k)
theorem needT {b : Bool} (hb : b = true) (H : List Ent) : RCall Tryz.prog 195 [.b b] H (some (.tup [], H)) H unfA := by
 refine ACall.mk' (n := 6) Tryz.func195 rfl (by kernel_rfl) rfl rfl (fun B I w0 => ?_)
 refine S2 ?_; refine Omv ?_; refine Ont ?_; refine S2 ?_
 refine CW.cond rfl (fun h0 => ?_) (fun h0 => ?_)
 ·
  simp [hb] at h0
 ·
  replace h0 := nm h0
  refine S1 ?_
  refine Done.norR (rs := []) (H' := H) rfl (.nil) (AVleL.refl _) (by repeat (first | exact List.Sublist.refl _ | refine List.Sublist.cons _ ?_)) ?_
  exact rfl
theorem needF {b : Bool} (hb : b = false) (H : List Ent) : RCall Tryz.prog 195 [.b b] H none H unfA := by
 refine ACall.mk' (n := 6) Tryz.func195 rfl (by kernel_rfl) rfl rfl (fun B I w0 => ?_)
 refine S2 ?_; refine Omv ?_; refine Ont ?_; refine S2 ?_
 refine CW.cond rfl (fun h0 => ?_) (fun h0 => ?_)
 ·
  replace h0 := nm h0
  refine S1 ?_; refine Obd ?_
  refine OL.popC rfl rfl rfl (POp.makeIface rfl rfl rfl (by kernel_rfl)) ?_
  refine OL.panicC rfl rfl rfl rfl unf_c ?_
  exact outP unf_c (.refl _) ⟨rfl, rfl, rfl⟩
 ·
  simp [hb] at h0
theorem between (n : Int) : PCall Tryz.prog 225 [.i n] (.b (inP n)) := by
 intro H
 refine ACall.mk' (n := 9) Tryz.func225 rfl (by kernel_rfl) rfl rfl (fun B I w0 => ?_)
 refine S2 ?_; refine Oas ?_; refine S4 ?_; refine Omv ?_; refine Ocm ?_; refine Omv ?_; refine Pmv ?_; refine Pcm ?_; refine Opk ?_; refine Oas ?_; refine S3 ?_
 refine r1 2 (H) ?_
 exact ⟨retB (by unfold inP; by_cases h : -1000000000 ≤ n <;> simp [h]), rfl⟩
theorem sIndex (l : List Int) (v : Int) : PCall Tryz.prog 103 [AV.ints l, .i v] (.i (idxB l v)) := by
 intro H
 refine ACall.mk' (n := 19) Tryz.func103 rfl (by kernel_rfl) rfl rfl (fun B I w0 => ?_)
 refine CW.boundM (t := 0) rfl (fun hb0 => ?_)
 refine S2 ?_; refine Oas ?_; refine S5 ?_; refine Omv ?_; refine Oln ?_; refine Omv ?_; refine S3 ?_
 refine lj (fun m st => ∃ k : Nat, st = ⟨[(8, .i k), (7, .i l.length), (0, AV.ints l), (1, .i v)], H⟩ ∧ m = l.length - k ∧ k ≤ l.length ∧ ∀ x ∈ l.take k, x ≠ v) (⟨0, rfl, rfl, by simp, by simp⟩) ?_
 rintro m _ ⟨k, rfl, rfl, hk, hp⟩
 refine S2 ?_; refine Ocm ?_; refine S3 ?_
 refine CW.cond rfl (fun h0 => ?_) (fun h0 => ?_)
 ·
  replace h0 := nm h0
  refine S6 ?_; refine Omv ?_; refine Oas ?_; refine S4 ?_; refine Omv ?_; refine Omv ?_; refine Omv ?_; refine Oix ?_; refine Old ?_; refine Ocm ?_; refine S2 ?_
  refine CW.cond rfl (fun h1 => ?_) (fun h1 => ?_)
  ·
   replace h1 := nm h1
   refine S2 ?_; refine Omv ?_; refine Oas ?_; refine S8 ?_
   refine r1 4 (H) ?_
   exact ⟨retI (idxB_at (by omega) hp h1), rfl⟩
  ·
   replace h1 := nm h1
   refine S4 ?_; refine Oar ?_; refine Omv ?_; refine S1 ?_
   exact ag (⟨k + 1, rfl, rfl, by omega, ne_step (by omega) hp h1⟩)
 ·
  replace h0 := nm h0
  refine S7 ?_; refine Oas ?_; refine S3 ?_
  refine r1 4 (H) ?_
  exact ⟨retI (idxB_none (by have e : k = l.length := (by omega); rw [e, List.take_length] at hp; exact hp)), rfl⟩
theorem sContains (l : List Int) (v : Int) : PCall Tryz.prog 38 [AV.ints l, .i v] (.b (l.contains v)) := by
 intro H
 refine ACall.mk' (n := 9) Tryz.func38 rfl (by kernel_rfl) rfl rfl (fun B I w0 => ?_)
 refine S2 ?_; refine Oas ?_; refine S4 ?_; refine Omv ?_; refine Omv ?_
 refine OL.popC rfl rfl rfl (POp.call (.mk' rfl rfl rfl rfl rfl) ((sIndex _ _))) ?_
 refine Ocm ?_; refine Oas ?_; refine S3 ?_
 refine r1 4 (H) ?_
 exact ⟨retB (idxB_contains _ _), rfl⟩
theorem fine (g : List (List Int)) : PCall Tryz.prog 246 [AV.intss g] (.b (fineP g)) := by
 intro H
 refine ACall.mk' (n := 44) Tryz.func246 rfl (by kernel_rfl) rfl rfl (fun B I w0 => ?_)
 refine CW.boundM (t := 0) rfl (fun hb0 => ?_)
 refine S2 ?_; refine Oas ?_; refine S5 ?_; refine Omv ?_; refine Oln ?_; refine Ocm ?_; refine S2 ?_
 refine CW.cond rfl (fun h0 => ?_) (fun h0 => ?_)
 ·
  replace h0 := nm h0
  refine S2 ?_; refine Oas ?_; refine S4 ?_
  refine r1 2 (H) ?_
  exact ⟨retB (fine_no1 (by omega)).symm, rfl⟩
 ·
  replace h0 := nm h0
  refine S5 ?_; refine Omv ?_; refine Oln ?_; refine Omv ?_; refine S3 ?_
  refine lj (fun m st => ∃ i : Nat, st = ⟨[(12, .i i), (11, .i g.length), (10, AV.intss g)], H⟩ ∧ m = g.length - i ∧ i ≤ g.length ∧ fineG 0 (g.take i) = true) (⟨0, rfl, rfl, by omega, rfl⟩) ?_
  rintro m _ ⟨i, rfl, rfl, hi, hg⟩
  refine S2 ?_; refine Ocm ?_; refine S3 ?_
  refine CW.cond rfl (fun h1 => ?_) (fun h1 => ?_)
  ·
   replace h1 := nm h1
   have hil : i < g.length := by simpa using h1
   obtain ⟨L, hL⟩ : ∃ L, L = g.getD i default := ⟨_, rfl⟩
   refine S6 ?_; refine Omv ?_
   refine OL.popC rfl rfl rfl ((by first | exact POp.ixM rfl rfl rfl rfl rfl hil | exact POp.ixI rfl rfl rfl rfl rfl hil)) ?_
   refine Old ?_; refine Oas ?_; refine Oas ?_; refine S4 ?_
   rw [← hL]
   refine CW.boundM (t := 4) rfl (fun hb4 => ?_)
   refine S1 ?_; refine Omv ?_; refine Oln ?_; refine Ocm ?_; refine S2 ?_
   refine CW.cond rfl (fun h2 => ?_) (fun h2 => ?_)
   ·
    replace h2 := nm h2
    refine S2 ?_; refine Oas ?_; refine S9 ?_
    refine r1 2 (H) ?_
    exact ⟨retB (fine_no2 hil (by rw [← hL]; have : ¬ L.length ≤ 3 := (by omega); simp [this])).symm, rfl⟩
   ·
    replace h2 := nm h2
    refine S4 ?_; refine Omv ?_; refine Oln ?_; refine Omv ?_; refine S3 ?_
    refine lj (fun m st => ∃ k : Nat, st = ⟨[(22, .i k), (21, .i L.length), (20, AV.ints L), (3, .i i), (4, AV.ints L), (12, .i i), (11, .i g.length), (10, AV.intss g)], H⟩ ∧ m = L.length - k ∧ k ≤ L.length ∧ fineL i [] (L.take k) = true) (⟨0, rfl, rfl, by omega, rfl⟩) ?_
    rintro m _ ⟨k, rfl, rfl, hk, hl⟩
    refine S2 ?_; refine Ocm ?_; refine S3 ?_
    refine CW.cond rfl (fun h3 => ?_) (fun h3 => ?_)
    ·
     replace h3 := nm h3
     have hkl : k < L.length := by simpa using h3
     refine S6 ?_; refine Omv ?_
     refine OL.popC rfl rfl rfl ((by first | exact POp.ixM rfl rfl rfl rfl rfl hkl | exact POp.ixI rfl rfl rfl rfl rfl hkl)) ?_
     refine Old ?_; refine Oas ?_; refine Oas ?_; refine S4 ?_; refine Omv ?_; refine Ocm ?_; refine Omv ?_; refine Pmv ?_; refine Pmv ?_; refine Par ?_; refine Pcm ?_; refine Opk ?_
     refine Omv ?_; refine Pmv ?_; refine Pmv ?_
     refine OL.guardC rfl rfl rfl rfl rfl rfl (fun hg => POp.slTo rfl rfl (by first | rfl | exact hg | simp_all) rfl (by first | rfl | exact hg | simp_all) (by omega)) ?_
     refine Pmv ?_
     refine OL.guardC rfl rfl rfl rfl rfl rfl (fun hg => POp.call (.mk' rfl rfl rfl rfl (by first | rfl | ((repeat (first | exact hg | rfl | refine Bool.and_eq_true_iff.2 ⟨?_, ?_⟩)); done) | simp_all [strip, constAV])) ((sContains _ _))) ?_
     refine Opk ?_; refine S2 ?_
     refine CW.cond rfl (fun h4 => ?_) (fun h4 => ?_)
     ·
      replace h4 := nm h4
      refine S2 ?_; refine Oas ?_; refine S12 ?_
      refine r1 2 (H) ?_
      exact ⟨retB (fine_no2 hil (by rw [← hL, fine_no3 hkl (by simp_all), Bool.and_false])).symm, rfl⟩
     ·
      replace h4 := nm h4
      refine S4 ?_; refine Oar ?_; refine Omv ?_; refine S1 ?_
      exact ag (⟨k + 1, rfl, rfl, hkl, by rw [fineL_take i L [] k hkl, hl]; simp_all⟩)
    ·
     replace h3 := nm h3
     have e3 : k = L.length := by omega
     rw [e3, List.take_length] at hl
     refine S7 ?_; refine Oar ?_; refine Omv ?_; refine S1 ?_
     exact ag (⟨i + 1, rfl, rfl, hil, by rw [fineG_take g 0 i hil, hg, ← hL, Nat.zero_add, hl]; simp; omega⟩)
  ·
   replace h1 := nm h1
   have e1 : i = g.length := by omega
   rw [e1, List.take_length] at hg
   refine S7 ?_; refine Oas ?_; refine S3 ?_
   refine r1 2 (H) ?_
   exact ⟨retB (by unfold fineP; rw [hg]; simp; omega), rfl⟩
theorem lineCheck (g : List (List Int)) : PCall Tryz.prog 223 [AV.intss g] (.i (if fineP g then 0 else 2)) := by
 intro H
 refine ACall.mk' (n := 6) Tryz.func223 rfl (by kernel_rfl) rfl rfl (fun B I w0 => ?_)
 refine S2 ?_; refine Oas ?_; refine S5 ?_; refine Omv ?_
 refine OL.popC rfl rfl rfl (POp.call (.mk' rfl rfl rfl rfl rfl) ((fine _))) ?_
 refine Ont ?_; refine S2 ?_
 refine CW.cond rfl (fun h0 => ?_) (fun h0 => ?_)
 ·
  replace h0 := nm h0
  refine S2 ?_; refine Oas ?_; refine S4 ?_
  refine r1 2 (H) ?_
  exact ⟨retI (by simp_all), rfl⟩
 ·
  replace h0 := nm h0
  refine S4 ?_; refine Oas ?_; refine S3 ?_
  refine r1 2 (H) ?_
  exact ⟨retI (by simp_all), rfl⟩
theorem kidsOf (op : Int) : PCall Tryz.prog 200 [.i op] (kindA (kindOf op)) := by
 intro H
 refine ACall.mk' (n := 33) Tryz.func200 rfl (by kernel_rfl) rfl rfl (fun B I w0 => ?_)
 refine S2 ?_; refine Oas ?_; refine S5 ?_; refine Omv ?_; refine S5 ?_; refine Ocm ?_; refine Oas ?_; refine S2 ?_
 refine CW.cond rfl (fun h0 => ?_) (fun h0 => ?_)
 ·
  replace h0 := nm h0
  refine S2 ?_; refine Obd ?_
  refine OL.popC rfl rfl rfl (POp.makeIface rfl rfl rfl (by kernel_rfl)) ?_
  refine Oas ?_; refine S5 ?_
  refine r1 2 (H) ?_
  exact ⟨retX (by simp_all [kindOf, kindA] <;> rfl), rfl⟩
 ·
  replace h0 := nm h0
  refine CW.cutJ (fun st => ∃ u : Bool, st = ⟨[(8, .b u), (3, .i op)], H⟩ ∧ u = decide (op = 1 ∨ op = 2 ∨ op = 3 ∨ op = 6 ∨ op = 18)) ?_ ?_
  ·
   refine S2 ?_; refine Ocm ?_; refine Oas ?_; refine S2 ?_
   refine CW.cond rfl (fun h1 => ?_) (fun h1 => ?_)
   ·
    replace h1 := nm h1
    refine S1 ?_
    exact Done.cutJ ⟨op == 1, rfl, by by_cases hz : op = 1 <;> simp_all⟩ (by repeat (first | exact trivial | refine ⟨rfl, ?_⟩)) (by repeat (first | exact List.Sublist.refl _ | refine List.Sublist.cons _ ?_))
   ·
    replace h1 := nm h1
    refine S2 ?_; refine Ocm ?_; refine Oas ?_; refine S2 ?_
    refine CW.cond rfl (fun h2 => ?_) (fun h2 => ?_)
    ·
     replace h2 := nm h2
     refine S1 ?_
     exact Done.cutJ ⟨op == 2, rfl, by by_cases hz : op = 2 <;> simp_all⟩ (by repeat (first | exact trivial | refine ⟨rfl, ?_⟩)) (by repeat (first | exact List.Sublist.refl _ | refine List.Sublist.cons _ ?_))
    ·
     replace h2 := nm h2
     refine S2 ?_; refine Ocm ?_; refine Oas ?_; refine S2 ?_
     refine CW.cond rfl (fun h3 => ?_) (fun h3 => ?_)
     ·
      replace h3 := nm h3
      refine S1 ?_
      exact Done.cutJ ⟨op == 3, rfl, by by_cases hz : op = 3 <;> simp_all⟩ (by repeat (first | exact trivial | refine ⟨rfl, ?_⟩)) (by repeat (first | exact List.Sublist.refl _ | refine List.Sublist.cons _ ?_))
     ·
      replace h3 := nm h3
      refine S2 ?_; refine Ocm ?_; refine Oas ?_; refine S2 ?_
      refine CW.cond rfl (fun h4 => ?_) (fun h4 => ?_)
      ·
       replace h4 := nm h4
       refine S1 ?_
       exact Done.cutJ ⟨op == 6, rfl, by by_cases hz : op = 6 <;> simp_all⟩ (by repeat (first | exact trivial | refine ⟨rfl, ?_⟩)) (by repeat (first | exact List.Sublist.refl _ | refine List.Sublist.cons _ ?_))
      ·
       replace h4 := nm h4
       refine S1 ?_; refine Ocm ?_; refine Oas ?_; refine S1 ?_
       exact Done.cutJ ⟨op == 18, rfl, by by_cases hz : op = 18 <;> simp_all⟩ (by repeat (first | exact trivial | refine ⟨rfl, ?_⟩)) (by repeat (first | exact List.Sublist.refl _ | refine List.Sublist.cons _ ?_))
  ·
   rintro _ ⟨u, rfl, hu4⟩
   refine CW.cond rfl (fun h5 => ?_) (fun h5 => ?_)
   ·
    replace h5 := nm h5
    refine S2 ?_
    refine OL.popC rfl rfl rfl (POp.makeIface rfl rfl rfl (by kernel_rfl)) ?_
    refine Oas ?_; refine S5 ?_
    refine r1 2 (H) ?_
    exact ⟨retX (by simp_all [kindOf, kindA] <;> rfl), rfl⟩
   ·
    replace h5 := nm h5
    refine CW.cutJ (fun st => ∃ u : Bool, st = ⟨[(15, .b u), (3, .i op)], H⟩ ∧ u = decide (op = 4 ∨ op = 8 ∨ op = 17)) ?_ ?_
    ·
     refine S2 ?_; refine Ocm ?_; refine Oas ?_; refine S2 ?_
     refine CW.cond rfl (fun h6 => ?_) (fun h6 => ?_)
     ·
      replace h6 := nm h6
      refine S1 ?_
      exact Done.cutJ ⟨op == 4, rfl, by by_cases hz : op = 4 <;> simp_all⟩ (by repeat (first | exact trivial | refine ⟨rfl, ?_⟩)) (by repeat (first | exact List.Sublist.refl _ | refine List.Sublist.cons _ ?_))
     ·
      replace h6 := nm h6
      refine S2 ?_; refine Ocm ?_; refine Oas ?_; refine S2 ?_
      refine CW.cond rfl (fun h7 => ?_) (fun h7 => ?_)
      ·
       replace h7 := nm h7
       refine S1 ?_
       exact Done.cutJ ⟨op == 8, rfl, by by_cases hz : op = 8 <;> simp_all⟩ (by repeat (first | exact trivial | refine ⟨rfl, ?_⟩)) (by repeat (first | exact List.Sublist.refl _ | refine List.Sublist.cons _ ?_))
      ·
       replace h7 := nm h7
       refine S1 ?_; refine Ocm ?_; refine Oas ?_; refine S1 ?_
       exact Done.cutJ ⟨op == 17, rfl, by by_cases hz : op = 17 <;> simp_all⟩ (by repeat (first | exact trivial | refine ⟨rfl, ?_⟩)) (by repeat (first | exact List.Sublist.refl _ | refine List.Sublist.cons _ ?_))
    ·
     rintro _ ⟨u, rfl, hu10⟩
     refine CW.cond rfl (fun h8 => ?_) (fun h8 => ?_)
     ·
      replace h8 := nm h8
      refine S2 ?_
      refine OL.popC rfl rfl rfl (POp.makeIface rfl rfl rfl (by kernel_rfl)) ?_
      refine Oas ?_; refine S5 ?_
      refine r1 2 (H) ?_
      exact ⟨retX (by simp_all [kindOf, kindA] <;> rfl), rfl⟩
     ·
      replace h8 := nm h8
      refine CW.cutJ (fun st => ∃ u : Bool, st = ⟨[(20, .b u), (3, .i op)], H⟩ ∧ u = decide (op = 7 ∨ op = 9 ∨ op = 11 ∨ op = 12 ∨ op = 13 ∨ op = 14 ∨ op = 15 ∨ op = 16)) ?_ ?_
      ·
       refine S2 ?_; refine Ocm ?_; refine Oas ?_; refine S2 ?_
       refine CW.cond rfl (fun h9 => ?_) (fun h9 => ?_)
       ·
        replace h9 := nm h9
        refine S1 ?_
        exact Done.cutJ ⟨op == 7, rfl, by by_cases hz : op = 7 <;> simp_all⟩ (by repeat (first | exact trivial | refine ⟨rfl, ?_⟩)) (by repeat (first | exact List.Sublist.refl _ | refine List.Sublist.cons _ ?_))
       ·
        replace h9 := nm h9
        refine S2 ?_; refine Ocm ?_; refine Oas ?_; refine S2 ?_
        refine CW.cond rfl (fun h10 => ?_) (fun h10 => ?_)
        ·
         replace h10 := nm h10
         refine S1 ?_
         exact Done.cutJ ⟨op == 9, rfl, by by_cases hz : op = 9 <;> simp_all⟩ (by repeat (first | exact trivial | refine ⟨rfl, ?_⟩)) (by repeat (first | exact List.Sublist.refl _ | refine List.Sublist.cons _ ?_))
        ·
         replace h10 := nm h10
         refine S2 ?_; refine Ocm ?_; refine Oas ?_; refine S2 ?_
         refine CW.cond rfl (fun h11 => ?_) (fun h11 => ?_)
         ·
          replace h11 := nm h11
          refine S1 ?_
          exact Done.cutJ ⟨op == 11, rfl, by by_cases hz : op = 11 <;> simp_all⟩ (by repeat (first | exact trivial | refine ⟨rfl, ?_⟩)) (by repeat (first | exact List.Sublist.refl _ | refine List.Sublist.cons _ ?_))
         ·
          replace h11 := nm h11
          refine S2 ?_; refine Ocm ?_; refine Oas ?_; refine S2 ?_
          refine CW.cond rfl (fun h12 => ?_) (fun h12 => ?_)
          ·
           replace h12 := nm h12
           refine S1 ?_
           exact Done.cutJ ⟨op == 12, rfl, by by_cases hz : op = 12 <;> simp_all⟩ (by repeat (first | exact trivial | refine ⟨rfl, ?_⟩)) (by repeat (first | exact List.Sublist.refl _ | refine List.Sublist.cons _ ?_))
          ·
           replace h12 := nm h12
           refine S2 ?_; refine Ocm ?_; refine Oas ?_; refine S2 ?_
           refine CW.cond rfl (fun h13 => ?_) (fun h13 => ?_)
           ·
            replace h13 := nm h13
            refine S1 ?_
            exact Done.cutJ ⟨op == 13, rfl, by by_cases hz : op = 13 <;> simp_all⟩ (by repeat (first | exact trivial | refine ⟨rfl, ?_⟩)) (by repeat (first | exact List.Sublist.refl _ | refine List.Sublist.cons _ ?_))
           ·
            replace h13 := nm h13
            refine S2 ?_; refine Ocm ?_; refine Oas ?_; refine S2 ?_
            refine CW.cond rfl (fun h14 => ?_) (fun h14 => ?_)
            ·
             replace h14 := nm h14
             refine S1 ?_
             exact Done.cutJ ⟨op == 14, rfl, by by_cases hz : op = 14 <;> simp_all⟩ (by repeat (first | exact trivial | refine ⟨rfl, ?_⟩)) (by repeat (first | exact List.Sublist.refl _ | refine List.Sublist.cons _ ?_))
            ·
             replace h14 := nm h14
             refine S2 ?_; refine Ocm ?_; refine Oas ?_; refine S2 ?_
             refine CW.cond rfl (fun h15 => ?_) (fun h15 => ?_)
             ·
              replace h15 := nm h15
              refine S1 ?_
              exact Done.cutJ ⟨op == 15, rfl, by by_cases hz : op = 15 <;> simp_all⟩ (by repeat (first | exact trivial | refine ⟨rfl, ?_⟩)) (by repeat (first | exact List.Sublist.refl _ | refine List.Sublist.cons _ ?_))
             ·
              replace h15 := nm h15
              refine S1 ?_; refine Ocm ?_; refine Oas ?_; refine S1 ?_
              exact Done.cutJ ⟨op == 16, rfl, by by_cases hz : op = 16 <;> simp_all⟩ (by repeat (first | exact trivial | refine ⟨rfl, ?_⟩)) (by repeat (first | exact List.Sublist.refl _ | refine List.Sublist.cons _ ?_))
      ·
       rintro _ ⟨u, rfl, hu14⟩
       refine CW.cond rfl (fun h16 => ?_) (fun h16 => ?_)
       ·
        replace h16 := nm h16
        refine S2 ?_
        refine OL.popC rfl rfl rfl (POp.makeIface rfl rfl rfl (by kernel_rfl)) ?_
        refine Oas ?_; refine S5 ?_
        refine r1 2 (H) ?_
        exact ⟨retX (by simp_all [kindOf, kindA] <;> rfl), rfl⟩
       ·
        replace h16 := nm h16
        refine S2 ?_; refine Ocm ?_; refine Oas ?_; refine S2 ?_
        refine CW.cond rfl (fun h17 => ?_) (fun h17 => ?_)
        ·
         replace h17 := nm h17
         refine S2 ?_
         refine OL.popC rfl rfl rfl (POp.makeIface rfl rfl rfl (by kernel_rfl)) ?_
         refine Oas ?_; refine S5 ?_
         refine r1 2 (H) ?_
         exact ⟨retX (by simp_all [kindOf, kindA] <;> rfl), rfl⟩
        ·
         replace h17 := nm h17
         refine S5 ?_; refine Oas ?_; refine S3 ?_
         refine r1 2 (H) ?_
         exact ⟨retX (by simp_all [kindOf, kindA] <;> rfl), rfl⟩
theorem number (p : Prog) (hC : p.classes.length ≤ 100) (x : Nd) (size : Int) : PCall Tryz.prog 199 [AV.prog p, AV.nd x, .i size] (.b (numP p x size)) := by
 intro H
 refine ACall.mk' (n := 52) Tryz.func199 rfl (by kernel_rfl) rfl rfl (fun B I w0 => ?_)
 refine S2 ?_; refine Obx ?_; refine Obx ?_; refine Oas ?_; refine S4 ?_; refine Oas ?_; refine S5 ?_; refine Ofa ?_; refine Old ?_; refine S5 ?_; refine Ocm ?_; refine Oas ?_
 refine S2 ?_
 refine CW.cond rfl (fun h0 => ?_) (fun h0 => ?_)
 ·
  replace h0 := nm h0
  refine S2 ?_; refine Ofa ?_; refine Old ?_
  refine OL.popC rfl rfl rfl (POp.call (.mk' rfl rfl rfl rfl rfl) (between x.n)) ?_
  refine Oas ?_; refine S5 ?_
  refine r1 6 (H) ?_
  exact ⟨retB (by simp [numP, h0]), rfl⟩
 ·
  replace h0 := nm h0
  refine S2 ?_; refine Ocm ?_; refine Oas ?_; refine S2 ?_
  refine CW.cond rfl (fun h1 => ?_) (fun h1 => ?_)
  ·
   replace h1 := nm h1
   refine S1 ?_; refine Omv ?_; refine Oas ?_; refine S5 ?_; refine Ofa ?_; refine Old ?_; refine Ocm ?_; refine Omv ?_; refine Pfa ?_; refine Pld ?_; refine Pmv ?_; refine Pcm ?_
   refine Opk ?_; refine Oas ?_; refine S3 ?_
   refine r1 6 (H) ?_
   exact ⟨retB (by unfold numP mostP; (repeat' split) <;> first | rfl | omega | (simp_all; done)), rfl⟩
  ·
   replace h1 := nm h1
   refine S3 ?_; refine Ocm ?_; refine Oas ?_; refine S2 ?_
   refine CW.cond rfl (fun h2 => ?_) (fun h2 => ?_)
   ·
    replace h2 := nm h2
    refine S2 ?_
    refine CW.cond rfl (fun h3 => ?_) (fun h3 => ?_)
    ·
     replace h3 := nm h3
     refine S1 ?_; refine Ofa ?_; refine Old ?_; refine Oas ?_; refine S5 ?_; refine Ofa ?_; refine Old ?_; refine Ocm ?_; refine Omv ?_; refine Pfa ?_; refine Pld ?_; refine Pmv ?_
     refine Pcm ?_; refine Opk ?_; refine Oas ?_; refine S3 ?_
     refine r1 6 (H) ?_
     exact ⟨retB (by unfold numP mostP; (repeat' split) <;> first | rfl | omega | (simp_all; done)), rfl⟩
    ·
     replace h3 := nm h3
     refine S3 ?_; refine Ocm ?_; refine Oas ?_; refine S2 ?_
     refine CW.cond rfl (fun h4 => ?_) (fun h4 => ?_)
     ·
      replace h4 := nm h4
      refine S2 ?_
      refine CW.cond rfl (fun h5 => ?_) (fun h5 => ?_)
      ·
       replace h5 := nm h5
       refine S2 ?_; refine Ofa ?_; refine Old ?_; refine Ocm ?_; refine Omv ?_; refine Pfa ?_; refine Pld ?_; refine Pfa ?_; refine Pld ?_; refine Pln ?_; refine Par ?_; refine Pcm ?_
       refine Opk ?_; refine Oas ?_; refine S5 ?_
       refine r1 6 (H) ?_
       exact ⟨retB (by unfold numP mostP; (repeat' split) <;> first | rfl | omega | (simp_all; done)), rfl⟩
      ·
       replace h5 := nm h5
       refine S2 ?_; refine Ocm ?_; refine Oas ?_; refine S2 ?_
       refine CW.cond rfl (fun h6 => ?_) (fun h6 => ?_)
       ·
        replace h6 := nm h6
        refine S1 ?_; refine Ofa ?_; refine Old ?_; refine Oln ?_; refine Oas ?_; refine S5 ?_; refine Ofa ?_; refine Old ?_; refine Ocm ?_; refine Omv ?_; refine Pfa ?_; refine Pld ?_
        refine Pmv ?_; refine Pcm ?_; refine Opk ?_; refine Oas ?_; refine S3 ?_
        refine r1 6 (H) ?_
        exact ⟨retB (by unfold numP mostP; (repeat' split) <;> first | rfl | omega | (simp_all; done)), rfl⟩
       ·
        replace h6 := nm h6
        refine S5 ?_; refine Ofa ?_; refine Old ?_; refine Ocm ?_; refine Omv ?_; refine Pfa ?_; refine Pld ?_; refine Pmv ?_; refine Pcm ?_; refine Opk ?_; refine Oas ?_; refine S3 ?_
        refine r1 6 (H) ?_
        exact ⟨retB (by unfold numP mostP; (repeat' split) <;> first | rfl | omega | (simp_all; done)), rfl⟩
     ·
      replace h4 := nm h4
      refine S1 ?_; refine Ocm ?_; refine Oas ?_; refine S2 ?_
      refine CW.cond rfl (fun h7 => ?_) (fun h7 => ?_)
      ·
       replace h7 := nm h7
       refine S2 ?_; refine Ofa ?_; refine Old ?_; refine Ocm ?_; refine Omv ?_; refine Pfa ?_; refine Pld ?_; refine Pfa ?_; refine Pld ?_; refine Pln ?_; refine Par ?_; refine Pcm ?_
       refine Opk ?_; refine Oas ?_; refine S5 ?_
       refine r1 6 (H) ?_
       exact ⟨retB (by unfold numP mostP; (repeat' split) <;> first | rfl | omega | (simp_all; done)), rfl⟩
      ·
       replace h7 := nm h7
       refine S2 ?_; refine Ocm ?_; refine Oas ?_; refine S2 ?_
       refine CW.cond rfl (fun h8 => ?_) (fun h8 => ?_)
       ·
        replace h8 := nm h8
        refine S1 ?_; refine Ofa ?_; refine Old ?_; refine Oln ?_; refine Oas ?_; refine S5 ?_; refine Ofa ?_; refine Old ?_; refine Ocm ?_; refine Omv ?_; refine Pfa ?_; refine Pld ?_
        refine Pmv ?_; refine Pcm ?_; refine Opk ?_; refine Oas ?_; refine S3 ?_
        refine r1 6 (H) ?_
        exact ⟨retB (by unfold numP mostP; (repeat' split) <;> first | rfl | omega | (simp_all; done)), rfl⟩
       ·
        replace h8 := nm h8
        refine S5 ?_; refine Ofa ?_; refine Old ?_; refine Ocm ?_; refine Omv ?_; refine Pfa ?_; refine Pld ?_; refine Pmv ?_; refine Pcm ?_; refine Opk ?_; refine Oas ?_; refine S3 ?_
        refine r1 6 (H) ?_
        exact ⟨retB (by unfold numP mostP; (repeat' split) <;> first | rfl | omega | (simp_all; done)), rfl⟩
   ·
    replace h2 := nm h2
    refine S1 ?_; refine Ocm ?_; refine Oas ?_; refine S2 ?_
    refine CW.cond rfl (fun h9 => ?_) (fun h9 => ?_)
    ·
     replace h9 := nm h9
     refine S1 ?_; refine Ofa ?_; refine Old ?_; refine Oas ?_; refine S5 ?_; refine Ofa ?_; refine Old ?_; refine Ocm ?_; refine Omv ?_; refine Pfa ?_; refine Pld ?_; refine Pmv ?_
     refine Pcm ?_; refine Opk ?_; refine Oas ?_; refine S3 ?_
     refine r1 6 (H) ?_
     exact ⟨retB (by unfold numP mostP; (repeat' split) <;> first | rfl | omega | (simp_all; done)), rfl⟩
    ·
     replace h9 := nm h9
     refine S3 ?_; refine Ocm ?_; refine Oas ?_; refine S2 ?_
     refine CW.cond rfl (fun h10 => ?_) (fun h10 => ?_)
     ·
      replace h10 := nm h10
      refine S2 ?_
      refine CW.cond rfl (fun h11 => ?_) (fun h11 => ?_)
      ·
       replace h11 := nm h11
       refine S2 ?_; refine Ofa ?_; refine Old ?_; refine Ocm ?_; refine Omv ?_; refine Pfa ?_; refine Pld ?_; refine Pfa ?_; refine Pld ?_; refine Pln ?_; refine Par ?_; refine Pcm ?_
       refine Opk ?_; refine Oas ?_; refine S5 ?_
       refine r1 6 (H) ?_
       exact ⟨retB (by unfold numP mostP; (repeat' split) <;> first | rfl | omega | (simp_all; done)), rfl⟩
      ·
       replace h11 := nm h11
       refine S2 ?_; refine Ocm ?_; refine Oas ?_; refine S2 ?_
       refine CW.cond rfl (fun h12 => ?_) (fun h12 => ?_)
       ·
        replace h12 := nm h12
        refine S1 ?_; refine Ofa ?_; refine Old ?_; refine Oln ?_; refine Oas ?_; refine S5 ?_; refine Ofa ?_; refine Old ?_; refine Ocm ?_; refine Omv ?_; refine Pfa ?_; refine Pld ?_
        refine Pmv ?_; refine Pcm ?_; refine Opk ?_; refine Oas ?_; refine S3 ?_
        refine r1 6 (H) ?_
        exact ⟨retB (by unfold numP mostP; (repeat' split) <;> first | rfl | omega | (simp_all; done)), rfl⟩
       ·
        replace h12 := nm h12
        refine S5 ?_; refine Ofa ?_; refine Old ?_; refine Ocm ?_; refine Omv ?_; refine Pfa ?_; refine Pld ?_; refine Pmv ?_; refine Pcm ?_; refine Opk ?_; refine Oas ?_; refine S3 ?_
        refine r1 6 (H) ?_
        exact ⟨retB (by unfold numP mostP; (repeat' split) <;> first | rfl | omega | (simp_all; done)), rfl⟩
     ·
      replace h10 := nm h10
      refine S1 ?_; refine Ocm ?_; refine Oas ?_; refine S2 ?_
      refine CW.cond rfl (fun h13 => ?_) (fun h13 => ?_)
      ·
       replace h13 := nm h13
       refine S2 ?_; refine Ofa ?_; refine Old ?_; refine Ocm ?_; refine Omv ?_; refine Pfa ?_; refine Pld ?_; refine Pfa ?_; refine Pld ?_; refine Pln ?_; refine Par ?_; refine Pcm ?_
       refine Opk ?_; refine Oas ?_; refine S5 ?_
       refine r1 6 (H) ?_
       exact ⟨retB (by unfold numP mostP; (repeat' split) <;> first | rfl | omega | (simp_all; done)), rfl⟩
      ·
       replace h13 := nm h13
       refine S2 ?_; refine Ocm ?_; refine Oas ?_; refine S2 ?_
       refine CW.cond rfl (fun h14 => ?_) (fun h14 => ?_)
       ·
        replace h14 := nm h14
        refine S1 ?_; refine Ofa ?_; refine Old ?_; refine Oln ?_; refine Oas ?_; refine S5 ?_; refine Ofa ?_; refine Old ?_; refine Ocm ?_; refine Omv ?_; refine Pfa ?_; refine Pld ?_
        refine Pmv ?_; refine Pcm ?_; refine Opk ?_; refine Oas ?_; refine S3 ?_
        refine r1 6 (H) ?_
        exact ⟨retB (by unfold numP mostP; (repeat' split) <;> first | rfl | omega | (simp_all; done)), rfl⟩
       ·
        replace h14 := nm h14
        refine S5 ?_; refine Ofa ?_; refine Old ?_; refine Ocm ?_; refine Omv ?_; refine Pfa ?_; refine Pld ?_; refine Pmv ?_; refine Pcm ?_; refine Opk ?_; refine Oas ?_; refine S3 ?_
        refine r1 6 (H) ?_
        exact ⟨retB (by unfold numP mostP; (repeat' split) <;> first | rfl | omega | (simp_all; done)), rfl⟩
theorem soMany (n : Int) (p : Prog) (x : Nd) : PCall Tryz.prog 324 [.i n, AV.prog p, AV.nd x] (.i n) := by
 intro H
 refine ACall.mk' (n := 8) Tryz.func324 rfl (by kernel_rfl) rfl rfl (fun B I w0 => ?_)
 refine S2 ?_; refine Obx ?_; refine Obx ?_; refine Oas ?_; refine S4 ?_; refine Omv ?_; refine Oas ?_; refine S3 ?_
 refine r1 6 (H) ?_
 exact ⟨by first | rfl | exact retI (by simp_all) | exact retB (by simp_all) | simp_all, rfl⟩
theorem argMany (p : Prog) (x : Nd) (h0 : 0 ≤ x.n) (h1 : x.n < p.gens.length) : PCall Tryz.prog 325 [.agg [], AV.prog p, AV.nd x] (.i (p.gens.getD x.n.toNat default)) := by
 intro H
 refine ACall.mk' (n := 13) Tryz.func325 rfl (by kernel_rfl) rfl rfl (fun B I w0 => ?_)
 refine S2 ?_; refine Obx ?_; refine Obx ?_; refine Obx ?_; refine Oas ?_; refine S4 ?_; refine Ofa ?_; refine Old ?_; refine Ofa ?_; refine Old ?_; refine Oix ?_; refine Old ?_
 refine Oas ?_; refine S3 ?_
 refine r1 6 (H) ?_
 exact ⟨by first | rfl | exact retI (by simp_all) | exact retB (by simp_all) | simp_all, rfl⟩
theorem cloneI (l : List Int) (hl : l.length ≤ 4000000) : PCall Tryz.prog 245 [AV.ints l] (AV.ints l) := by
 intro H
 refine ACall.mk' (n := 8) Tryz.func245 rfl (by kernel_rfl) rfl rfl (fun B I w0 => ?_)
 refine S2 ?_; refine Oas ?_; refine S5 ?_; refine Omv ?_
 refine OL.isNilC rfl rfl rfl rfl rfl rfl rfl (AVle.refl _) rfl rfl (fun n4 hn4 => ?_)
 refine S2 ?_
 refine CW.cond rfl (fun h0 => ?_) (fun h0 => ?_)
 ·
  replace h0 := nm h0
  refine S2 ?_; refine Oas ?_; refine S4 ?_
  refine Done.retR (rs := [.tmp 2]) (H' := H) rfl (.tmp rfl (.nil)) (.cons (AVle.nil 1) .nil) (by repeat (first | exact List.Sublist.refl _ | refine List.Sublist.cons _ ?_)) ?_
  exact ⟨by show AV.sl 1 [] = AV.sl 1 _; rw [hn4 h0], rfl⟩
 ·
  replace h0 := nm h0
  refine S4 ?_; refine Or0 ?_; refine Omv ?_
  refine OL.popC rfl rfl rfl (POp.appendI rfl rfl rfl (AVle.refl _) rfl rfl (AVle.refl _) (one_ints l) (by simp; omega) (by simp; omega)) ?_
  refine Oas ?_; refine S3 ?_
  refine r1 2 (H) ?_
  exact ⟨by first | rfl | exact retI (by simp_all) | exact retB (by simp_all) | simp_all, rfl⟩
theorem clipS (els : List (List AV)) : PCall Tryz.prog 269 [.sl 1 els] (.sl 1 els) := by
 intro H
 refine ACall.mk' (n := 9) Tryz.func269 rfl (by kernel_rfl) rfl rfl (fun B I w0 => ?_)
 refine S2 ?_; refine Oas ?_; refine S4 ?_; refine Omv ?_; refine Omv ?_; refine Oln ?_; refine Omv ?_; refine Oln ?_
 refine OL.popC rfl rfl rfl (POp.slClip rfl rfl rfl rfl rfl rfl rfl) ?_
 refine Oas ?_; refine S3 ?_
 refine r1 2 (H) ?_
 exact ⟨by first | rfl | exact retI (by simp_all) | exact retB (by simp_all) | simp_all, rfl⟩
theorem clipI (els : List (List AV)) : PCall Tryz.prog 212 [.sl 1 els] (.sl 1 els) := by
 intro H
 refine ACall.mk' (n := 9) Tryz.func212 rfl (by kernel_rfl) rfl rfl (fun B I w0 => ?_)
 refine S2 ?_; refine Oas ?_; refine S4 ?_; refine Omv ?_; refine Omv ?_; refine Oln ?_; refine Omv ?_; refine Oln ?_
 refine OL.popC rfl rfl rfl (POp.slClip rfl rfl rfl rfl rfl rfl rfl) ?_
 refine Oas ?_; refine S3 ?_
 refine r1 2 (H) ?_
 exact ⟨by first | rfl | exact retI (by simp_all) | exact retB (by simp_all) | simp_all, rfl⟩
theorem graph1 (c : Cls) (hc : c.parents.length ≤ 4000000) : PCall Tryz.prog 244 [AV.cls c] (AV.ints c.parents) := by
 intro H
 refine ACall.mk' (n := 6) Tryz.func244 rfl (by kernel_rfl) rfl rfl (fun B I w0 => ?_)
 refine S2 ?_; refine Obx ?_; refine Oas ?_; refine S4 ?_; refine Ofa ?_; refine Old ?_
 refine OL.popC rfl rfl rfl (POp.call (.mk' rfl rfl rfl rfl rfl) ((cloneI _ (by omega)))) ?_
 refine Oas ?_; refine S3 ?_
 refine r1 2 (H) ?_
 exact ⟨by first | rfl | exact retI (by simp_all) | exact retB (by simp_all) | simp_all, rfl⟩
theorem eachP (cs : List Cls) (hs : cs.length ≤ 4000000) (hc : ∀ c ∈ cs, c.parents.length ≤ 4000000) : PCall Tryz.prog 243 [.sl 3 (cs.map clsA), .fn (.func 244) [] []] (AV.intss (cs.map (·.parents))) := by
 intro H
 refine ACall.mk' (n := 23) Tryz.func243 rfl (by kernel_rfl) rfl rfl (fun B I w0 => ?_)
 refine S2 ?_; refine Oas ?_; refine S4 ?_; refine Oas ?_; refine S4 ?_
 refine CW.ownNil 5 23 1 rfl ?_
 refine S1 ?_; refine Omv ?_; refine Oln ?_; refine Omv ?_; refine S3 ?_
 refine lj (fun m st => ∃ (i : Nat) (v : Value), st = ⟨[(10, .i i), (9, .i cs.length), (8, .sl 3 (cs.map clsA)), (1, .fn (.func 244) [] []), (5, .as (AV.intss ((cs.take i).map (·.parents))) v)], .own 23 1 v :: H⟩ ∧ m = cs.length - i ∧ i ≤ cs.length) (⟨0, _, rfl, rfl, by omega⟩) ?_
 rintro m _ ⟨i, v, rfl, rfl, hi⟩
 refine S2 ?_; refine Ocm ?_; refine S3 ?_
 refine CW.cond rfl (fun h0 => ?_) (fun h0 => ?_)
 ·
  replace h0 := nm h0
  have hil : i < cs.length := by omega
  have hcc := hc _ (getD_memB hil)
  refine S6 ?_
  refine OL.popC rfl rfl rfl ((by first | exact POp.ixM rfl rfl rfl rfl rfl hil | exact POp.ixI rfl rfl rfl rfl rfl hil)) ?_
  refine Ola ?_
  refine OL.alC rfl rfl rfl rfl (fun b0 => ?_)
  refine Sto ?_; refine S3 ?_; refine Omv ?_; refine Omv ?_; refine Ola ?_
  refine OL.popC rfl rfl rfl (POp.call (.mk' rfl rfl rfl rfl rfl) (graph1 (cs.getD i default) hcc)) ?_
  refine OL.popC (x := .sl 1 [[AV.ints (cs.getD i default).parents]]) rfl rfl rfl (POp.row rfl rfl (by first | rfl | simp_all [strip]) rfl rfl rfl rfl rfl rfl) ?_
  refine OL.appendC rfl rfl rfl rfl rfl rfl rfl rfl (AVle.refl _) (rfl) (fun v => by repeat (first | exact Upd.head _ _ _ | apply Upd.tail)) (by simp only [List.length_map, List.length_take, List.length_singleton, List.length_cons, List.length_nil] at *; omega) (by simp only [List.length_map, List.length_take, List.length_singleton, List.length_cons, List.length_nil] at *; omega) (fun v19 => ?_)
  refine Oas ?_; refine S4 ?_; refine Oar ?_; refine Omv ?_; refine S1 ?_
  exact ag (⟨i + 1, v19, by rw [intss_snoc hil], rfl, hil⟩)
 ·
  replace h0 := nm h0
  obtain rfl : i = cs.length := by omega
  rw [List.take_length]
  refine S7 ?_; refine Omv ?_
  refine OL.popC rfl rfl rfl (POp.callLe (.mk' rfl rfl rfl rfl rfl) (.cons (AVle.asL _ _) .nil) (clipS _)) ?_
  refine Oas ?_; refine S3 ?_
  refine r1 4 (H) ?_
  exact ⟨by first | rfl | exact retI (by simp_all) | exact retB (by simp_all) | simp_all, rfl⟩
theorem graph (p : Prog) (hs : p.classes.length ≤ 4000000) (hc : ∀ c ∈ p.classes, c.parents.length ≤ 4000000) : PCall Tryz.prog 222 [AV.prog p] (AV.intss (graphP p)) := by
 intro H
 refine ACall.mk' (n := 6) Tryz.func222 rfl (by kernel_rfl) rfl rfl (fun B I w0 => ?_)
 refine S2 ?_; refine Obx ?_; refine Oas ?_; refine S4 ?_; refine Ofa ?_; refine Old ?_
 refine OL.popC rfl rfl rfl (POp.call (.mk' rfl rfl rfl rfl rfl) (eachP p.classes hs hc)) ?_
 refine Oas ?_; refine S3 ?_
 refine r1 2 (H) ?_
 exact ⟨by first | rfl | exact retI (by simp_all) | exact retB (by simp_all) | simp_all, rfl⟩
theorem speaks_step (f : Fact) (hf : smallA f = true) (ih : ∀ k ∈ f.kids, PCall Tryz.prog 203 [AV.fact k] (.i (speaksP k))) : PCall Tryz.prog 203 [AV.fact f] (.i (speaksP f)) := by
 intro H
 refine ACall.mk' (n := 35) Tryz.func203 rfl (by kernel_rfl) rfl rfl (fun B I w0 => ?_)
 rw [speaksP_eq]
 obtain ⟨ha1, ha2, hk⟩ := smallA_iff hf
 refine S2 ?_; refine Obx ?_; refine Oas ?_; refine S4 ?_; refine Oas ?_; refine S2 ?_
 refine CW.cutJ (fun st => st = ⟨[(3, .i (argB f)), (1, .ptr (Fcells f))], H⟩) ?_ ?_
 ·
  refine S2 ?_; refine Ofa ?_; refine Old ?_; refine Ocm ?_; refine Omv ?_; refine Pfa ?_; refine Pld ?_; refine Pcm ?_; refine Opk ?_; refine Omv ?_; refine Pfa ?_; refine Pld ?_
  refine Pcm ?_; refine Opk ?_; refine S2 ?_
  refine CW.cond rfl (fun h0 => ?_) (fun h0 => ?_)
  ·
   have ha : argB f = f.arg + 1 := by unfold argB; rw [if_pos (by simpa [or_assoc, and_assoc] using h0)]
   rw [ha] at ha1 ha2
   refine S1 ?_; refine Ofa ?_; refine Old ?_; refine Oar ?_; refine Oas ?_; refine S1 ?_
   refine Done.le 3 (y := .i (argB f)) rfl (AVle.eqI (by rw [ha])) ?_
   exact Done.cutJ rfl (by repeat (first | exact trivial | refine ⟨rfl, ?_⟩)) (by repeat (first | exact List.Sublist.refl _ | refine List.Sublist.cons _ ?_))
  ·
   have ha : argB f = 0 := by unfold argB; rw [if_neg (by simpa [or_assoc, and_assoc] using h0)]
   refine S1 ?_
   refine Done.le 3 (y := .i (argB f)) rfl (AVle.eqI (by rw [ha])) ?_
   exact Done.cutJ rfl (by repeat (first | exact trivial | refine ⟨rfl, ?_⟩)) (by repeat (first | exact List.Sublist.refl _ | refine List.Sublist.cons _ ?_))
 ·
  rintro _ rfl
  refine S3 ?_; refine Ofa ?_; refine Old ?_; refine Oln ?_; refine Omv ?_; refine S3 ?_
  refine CW.boundM (t := 23) rfl (fun hb23 => ?_)
  refine lj (fun m st => ∃ j : Nat, st = ⟨[(25, .i j), (24, .i f.kids.length), (23, AV.facts f.kids), (3, .i (speaksL (f.kids.take j) (argB f)))], H⟩ ∧ m = f.kids.length - j ∧ j ≤ f.kids.length) (⟨0, rfl, rfl, by omega⟩) ?_
  rintro m _ ⟨j, rfl, rfl, hj⟩
  refine S2 ?_; refine Ocm ?_; refine S3 ?_
  refine CW.cond rfl (fun h1 => ?_) (fun h1 => ?_)
  ·
   replace h1 := nm h1
   have hjl : j < f.kids.length := by omega
   have hkm := getD_memB hjl
   have hsn := speaksL_snoc (f.kids.getD j default) (f.kids.take j) (argB f)
   rw [take_getD hjl] at hsn
   refine S6 ?_; refine Oix ?_; refine Ola ?_
   refine OL.alC rfl rfl rfl rfl (fun b0 => ?_)
   refine Sto ?_; refine S3 ?_; refine Omv ?_; refine Ola ?_
   refine OL.popC rfl rfl rfl (POp.call (.mk' rfl rfl rfl rfl rfl) (ih _ hkm)) ?_
   refine OL.popC rfl rfl rfl (POp.max2 rfl rfl rfl rfl rfl rfl) ?_
   refine Oas ?_; refine S3 ?_
   refine CW.le 3 (y := .i (speaksL (f.kids.take (j + 1)) (argB f))) rfl (AVle.eqI (by rw [hsn, Int.max_def]; split <;> split <;> omega)) ?_
   refine S1 ?_; refine Oar ?_; refine Omv ?_; refine S1 ?_
   exact ag (⟨j + 1, rfl, rfl, by omega⟩)
  ·
   replace h1 := nm h1
   obtain rfl : j = f.kids.length := by omega
   rw [List.take_length]
   refine S7 ?_; refine Omv ?_; refine Oas ?_; refine S3 ?_
   refine r1 2 (H) ?_
   exact ⟨by rfl, rfl⟩
theorem worldB (p : Prog) (hs : p.classes.length ≤ 1000) (hc : ∀ c ∈ p.classes, c.parents.length ≤ 4000000 ∧ c.slots.length ≤ 1000) : PCall Tryz.prog 201 [AV.prog p] (.agg (Wcells (worldOf p))) := by
 intro H
 refine ACall.mk' (n := 32) Tryz.func201 rfl (by kernel_rfl) rfl rfl (fun B I w0 => ?_)
 refine S2 ?_; refine Obx ?_
 refine OL.alC rfl rfl rfl rfl (fun rb => ?_)
 refine S4 ?_; refine Ola ?_
 refine OL.popC rfl rfl rfl (POp.call (.mk' rfl rfl rfl rfl rfl) (graph p (by omega) (fun c h => (hc c h).1))) ?_
 refine Obd ?_
 refine OL.alC rfl rfl rfl rfl (fun wb => ?_)
 refine Sto ?_; refine S4 ?_
 refine CW.ownNilB (b := wb) (t := 151) 3 1 1 (by repeat (first | exact Upd.head _ _ _ | apply Upd.tail)) rfl rfl ?_
 refine S1 ?_; refine Ofa ?_; refine Old ?_; refine Oln ?_; refine Omv ?_; refine S3 ?_
 refine lj (fun m st => ∃ (i : Nat) (v : Value), st = ⟨[(12, .i i), (11, .i p.classes.length), (10, .sl 3 (p.classes.map clsA)), (3, .p wb 0), (2, .p rb 0)], .own 3 1 v :: .blk wb 151 [AV.intss (graphP p), .as (AV.ints (ownT p.classes i 0)) v] :: .blk rb 151 [.val (.slice none 0 0), .val (.slice none 0 0)] :: H⟩ ∧ m = p.classes.length - i ∧ i ≤ p.classes.length) (⟨0, _, rfl, rfl, by omega⟩) ?_
 rintro m _ ⟨i, v, rfl, rfl, hi⟩
 refine S2 ?_; refine Ocm ?_; refine S3 ?_
 refine CW.cond rfl (fun h0 => ?_) (fun h0 => ?_)
 ·
  replace h0 := nm h0
  have hil : i < p.classes.length := by omega
  have hcc := hc _ (getD_memB hil)
  obtain ⟨L, hL⟩ : ∃ L, L = p.classes.getD i default := ⟨_, rfl⟩
  rw [← hL] at hcc
  refine S6 ?_; refine Omv ?_
  refine OL.popC rfl rfl rfl ((by first | exact POp.ixM rfl rfl rfl rfl rfl hil | exact POp.ixI rfl rfl rfl rfl rfl hil)) ?_
  refine Ola ?_
  refine OL.alC rfl rfl rfl rfl (fun b2 => ?_)
  refine Oas ?_; refine Sto ?_; refine S3 ?_
  rw [← hL]
  refine S1 ?_; refine Ofa ?_; refine Old ?_; refine Oln ?_; refine Omv ?_; refine S3 ?_
  refine lj (fun m st => ∃ (k : Nat) (v : Value), st = ⟨[(20, .i k), (19, .i L.slots.length), (4, .i i), (12, .i i), (11, .i p.classes.length), (10, .sl 3 (p.classes.map clsA)), (3, .p wb 0), (2, .p rb 0)], .own 3 1 v :: .blk wb 151 [AV.intss (graphP p), .as (AV.ints (ownT p.classes i k)) v] :: .blk rb 151 [.val (.slice none 0 0), .val (.slice none 0 0)] :: H⟩ ∧ m = L.slots.length - k ∧ k ≤ L.slots.length) (⟨0, _, rfl, rfl, by omega⟩) ?_
  rintro m _ ⟨k, v, rfl, rfl, hk⟩
  refine S2 ?_; refine Ocm ?_; refine S3 ?_
  refine CW.cond rfl (fun h1 => ?_) (fun h1 => ?_)
  ·
   replace h1 := nm h1
   have hkl : k < L.slots.length := by omega
   refine S5 ?_; refine Ofa ?_; refine Old ?_; refine Omv ?_; refine Oar ?_
   refine OL.popC (x := .sl 1 [[.i ((i : Int) + 3)]]) rfl rfl rfl (POp.row rfl rfl (by first | rfl | simp_all [strip]) rfl rfl rfl rfl rfl rfl) ?_
   refine OL.appendC rfl rfl rfl rfl rfl rfl rfl rfl (AVle.refl _) (rfl) (fun v => by repeat (first | exact Upd.head _ _ _ | apply Upd.tail)) (by have := ownT_len (cs := p.classes) (i := i) k (fun c h => (hc c h).2); have h1000 := Nat.mul_le_mul_left 1000 hs; simp only [List.length_map, List.length_singleton, List.length_cons, List.length_nil]; omega) (by have := ownT_len (cs := p.classes) (i := i) k (fun c h => (hc c h).2); have h1000 := Nat.mul_le_mul_left 1000 hs; simp only [List.length_map, List.length_singleton, List.length_cons, List.length_nil]; omega) (fun v27 => ?_)
   refine Ofa ?_; refine Sto ?_; refine S4 ?_; refine Oar ?_; refine Omv ?_; refine S1 ?_
   exact ag (⟨k + 1, v27, by rw [ownT_snoc], rfl, hkl⟩)
  ·
   replace h1 := nm h1
   obtain rfl : k = L.slots.length := by omega
   refine S7 ?_; refine Oar ?_; refine Omv ?_; refine S1 ?_
   exact ag (⟨i + 1, v, by rw [ownT_next hil, ← hL], rfl, hil⟩)
 ·
  replace h0 := nm h0
  obtain rfl : i = p.classes.length := by omega
  rw [ownT_all]
  refine S7 ?_; refine Ola ?_; refine Sto ?_; refine S3 ?_
  refine Done.retR (rs := [.cell 2 151]) (H' := H) rfl ((by first | exact .cellA inferInstance rfl (by repeat (first | exact .head _ | refine .tail _ ?_)) rfl rfl (.nil) | exact .ptrA inferInstance rfl rfl (.nil))) (.cons (AVle.agg (.cons (.refl _) (.cons (AVle.asL _ _) .nil))) .nil) (by repeat (first | exact List.Sublist.refl _ | refine List.Sublist.cons _ ?_)) ?_
  exact ⟨by first | rfl | exact retI (by simp_all) | exact retB (by simp_all) | simp_all, rfl⟩
theorem take_getD {α : Type} [Inhabited α] {l : List α} {k : Nat} (h : k < l.length) : l.take k ++ [l.getD k default] = l.take (k + 1) := by
 rw [List.take_succ_eq_append_getElem h, List.getD_eq_getElem?_getD, List.getElem?_eq_getElem h]; rfl
theorem split_getD {α : Type} [Inhabited α] {l : List α} {k : Nat} (h : k < l.length) : l = l.take k ++ l.getD k default :: l.drop (k + 1) := by
 rw [List.getD_eq_getElem?_getD, List.getElem?_eq_getElem h]; simp
theorem b150 {B : Nat} {f : Fn} {fs cs : List AV} {F : List Ent → Prop} {J Jx : List Int → List Ent → Prop} (l : List Int) (hg : FindOk B Tryz.prog (.fn f fs cs) AV.i l F J Jx) (H Hx : List Ent) (hF : F Hx) (hJ : J [] H) :
  BCall B Tryz.prog 305 [.sl 1 (l.map fun n => [AV.i n]), .fn f fs cs] (H ++ Hx) (FoundAt J Jx l Hx) (fun _ _ => False) := by
 refine BCall.of (n := 19) Tryz.func305 rfl (by kernel_rfl) rfl rfl (fun I w0 => ?_)
 refine CW.boundM (t := 0) rfl (fun hb0 => ?_)
 refine S2 ?_; refine Oas ?_; refine S5 ?_; refine Omv ?_; refine Oln ?_; refine Omv ?_; refine S3 ?_
 refine lj (fun m st => ∃ (k : Nat) (H1 : List Ent), st = ⟨[(8, .i k), (7, .i l.length), (0, .sl 1 (l.map fun n => [AV.i n])), (1, .fn f fs cs)], H1 ++ Hx⟩ ∧ m = l.length - k ∧ k ≤ l.length ∧ J (l.take k) H1) (⟨0, H, rfl, rfl, by simp, hJ⟩) ?_
 rintro m _ ⟨k, H1, rfl, rfl, hk, hJ1⟩
 refine S2 ?_; refine Ocm ?_; refine S3 ?_
 refine CW.cond rfl (fun h0 => ?_) (fun h0 => ?_)
 ·
  replace h0 := nm h0
  refine S6 ?_; refine Omv ?_; refine Oas ?_; refine S4 ?_; refine Omv ?_; refine Omv ?_; refine Omv ?_; refine Oix ?_; refine Old ?_
  refine OL.vcallC rfl rfl rfl rfl rfl rfl rfl rfl (AVleL.refl _) (hg (l.take k) (l.getD k default) H1 Hx (by rw [take_getD (by omega)]; exact List.take_prefix _ _) hF hJ1) ?_
  rintro _ _ ⟨b, H2, rfl, rfl, hb1, hb2⟩
  rw [take_getD (by omega)] at hb1 hb2
  refine S2 ?_
  refine CW.cond rfl (fun h1 => ?_) (fun h1 => ?_)
  ·
   replace h1 := nm h1
   refine S2 ?_; refine Omv ?_; refine Oas ?_; refine S8 ?_
   refine Done.retR (rs := [.tmp 4]) rfl (.tmp rfl (.nil)) (AVleL.refl _) (by repeat (first | exact List.Sublist.refl _ | refine List.Sublist.cons _ ?_)) ?_
   exact ⟨H2, rfl, .inr ⟨l.take k, l.getD k default, l.drop (k + 1), split_getD (by omega), retI (by rw [List.length_take, Nat.min_eq_left (by omega)]), by rw [take_getD (by omega)]; exact hb2 h1⟩⟩
  ·
   replace h1 := nm h1
   refine S4 ?_; refine Oar ?_; refine Omv ?_; refine S1 ?_
   exact ag (⟨k + 1, H2, rfl, rfl, by omega, hb1 h1⟩)
 ·
  replace h0 := nm h0
  refine S7 ?_; refine Oas ?_; refine S3 ?_
  refine Done.retR (rs := [.tmp 4]) rfl (.tmp rfl (.nil)) (AVleL.refl _) (by repeat (first | exact List.Sublist.refl _ | refine List.Sublist.cons _ ?_)) ?_
  exact ⟨H1, rfl, .inl ⟨rfl, by have e : k = l.length := (by omega); rw [e, List.take_length] at hJ1; exact hJ1⟩⟩
theorem q150 {Hm : List Ent} {f : Fn} {fs cs : List AV} {p : Int → Bool} {l : List Int} (hg : PredOn Tryz.prog Hm (.fn f fs cs) AV.i l p) : QCallIn Tryz.prog Hm 305 [.sl 1 (l.map fun n => [AV.i n]), .fn f fs cs] (fun y => ∃ n : Int, y = .i n ∧ decide (n ≥ 0) = l.any p) :=
 find_pure (by kernel_rfl) (fun B F J Jx h H Hx hF hJ => b150 l h H Hx hF hJ) hg
theorem pi193 {Hm : List Ent} {f : Fn} {fs cs : List AV} {p : Int → Bool} {l : List Int} (hg : PredOn Tryz.prog Hm (.fn f fs cs) AV.i l p) : PCallIn Tryz.prog Hm 289 [.sl 1 (l.map fun n => [AV.i n]), .fn f fs cs] (.b (l.any p)) := by
 intro H hm
 refine ACall.mk' (n := 9) Tryz.func289 rfl (by kernel_rfl) rfl rfl (fun B I w0 => ?_)
 refine S2 ?_; refine Oas ?_; refine S4 ?_; refine Omv ?_; refine Omv ?_
 refine OL.qcallIn rfl rfl rfl (.mk' rfl rfl rfl rfl rfl) (q150 hg) hm (fun y hy => ?_)
 obtain ⟨n, rfl, hn⟩ := hy
 refine Ocm ?_; refine Oas ?_; refine S3 ?_
 refine r1 4 (H) ?_
 exact ⟨retB hn, rfl⟩
theorem pi194 {Hm : List Ent} {f : Fn} {fs cs : List AV} {p : Int → Bool} {l : List Int} (hg : PredOn Tryz.prog Hm (.fn f fs cs) AV.i l p) (x : Int) (hx : x ∈ l) : PCallIn Tryz.prog Hm 290 [AV.i x, .ptr [.fn f fs cs]] (.b (!p x)) := by
 intro H hm
 refine ACall.mk' (n := 8) Tryz.func290 rfl (by kernel_rfl) rfl rfl (fun B I w0 => ?_)
 refine S2 ?_; refine Oas ?_; refine S4 ?_; refine Old ?_; refine Omv ?_
 refine OL.vcallC rfl rfl rfl rfl rfl rfl rfl rfl (AVleL.refl _) (hg x hx B H hm) ?_
 rintro _ Hn ⟨rfl, hH⟩
 have hH := hH.symm
 subst hH
 refine Ont ?_; refine Oas ?_; refine S3 ?_
 refine r1 3 (H) ?_
 exact ⟨by first | rfl | exact retI (by simp_all) | exact retB (by simp_all) | simp_all, rfl⟩
theorem pi152 {Hm : List Ent} {f : Fn} {fs cs : List AV} {p : Int → Bool} {l : List Int} (hg : PredOn Tryz.prog Hm (.fn f fs cs) AV.i l p) : PCallIn Tryz.prog Hm 274 [.sl 1 (l.map fun n => [AV.i n]), .fn f fs cs] (.b (l.all p)) := by
 intro H hm
 refine ACall.mk' (n := 9) Tryz.func274 rfl (by kernel_rfl) rfl rfl (fun B I w0 => ?_)
 refine S2 ?_; refine Obx ?_; refine Oas ?_; refine S4 ?_; refine Omv ?_; refine Omf ?_
 refine OL.popC rfl rfl rfl (POp.callIn (.mk' rfl rfl rfl rfl rfl) (AVleL.refl _) (pi193 (.of (fun x hx => pi194 hg x hx))) (fun e he => by repeat (first | exact hm e he | apply List.mem_cons_of_mem))) ?_
 refine Ont ?_; refine Oas ?_; refine S3 ?_
 refine r1 4 (H) ?_
 exact ⟨retB (by simp [List.not_any_eq_all_not]), rfl⟩
theorem p152 {f : Fn} {fs cs : List AV} {p : Int → Bool} (hg : PredOk Tryz.prog (.fn f fs cs) AV.i p) (l : List Int) : PCall Tryz.prog 274 [.sl 1 (l.map fun n => [AV.i n]), .fn f fs cs] (.b (l.all p)) := (pi152 (hg.on l)).pure
theorem b130 {B : Nat} {f : Fn} {fs cs : List AV} {F : List Ent → Prop} {J Jx : List Fact → List Ent → Prop} (l : List Fact) (hg : FindOk B Tryz.prog (.fn f fs cs) AV.fact l F J Jx) (H Hx : List Ent) (hF : F Hx) (hJ : J [] H) :
  BCall B Tryz.prog 306 [.sl 6 (encFs l), .fn f fs cs] (H ++ Hx) (FoundAt J Jx l Hx) (fun _ _ => False) := by
 refine BCall.of (n := 19) Tryz.func306 rfl (by kernel_rfl) rfl rfl (fun I w0 => ?_)
 refine CW.boundM (t := 0) rfl (fun hb0 => ?_)
 refine S2 ?_; refine Oas ?_; refine S5 ?_; refine Omv ?_; refine Oln ?_; refine Omv ?_; refine S3 ?_
 refine lj (fun m st => ∃ (k : Nat) (H1 : List Ent), st = ⟨[(8, .i k), (7, .i l.length), (0, .sl 6 (encFs l)), (1, .fn f fs cs)], H1 ++ Hx⟩ ∧ m = l.length - k ∧ k ≤ l.length ∧ J (l.take k) H1) (⟨0, H, rfl, rfl, by simp, hJ⟩) ?_
 rintro m _ ⟨k, H1, rfl, rfl, hk, hJ1⟩
 refine S2 ?_; refine Ocm ?_; refine S3 ?_
 refine CW.cond rfl (fun h0 => ?_) (fun h0 => ?_)
 ·
  replace h0 := nm h0
  refine S6 ?_; refine Omv ?_; refine Oas ?_; refine S4 ?_; refine Omv ?_; refine Omv ?_; refine Omv ?_; refine Oix ?_; refine Ola ?_
  refine OL.vcallC rfl rfl rfl rfl rfl rfl rfl rfl (AVleL.refl _) (hg (l.take k) (l.getD k default) H1 Hx (by rw [take_getD (by omega)]; exact List.take_prefix _ _) hF hJ1) ?_
  rintro _ _ ⟨b, H2, rfl, rfl, hb1, hb2⟩
  rw [take_getD (by omega)] at hb1 hb2
  refine S2 ?_
  refine CW.cond rfl (fun h1 => ?_) (fun h1 => ?_)
  ·
   replace h1 := nm h1
   refine S2 ?_; refine Omv ?_; refine Oas ?_; refine S8 ?_
   refine Done.retR (rs := [.tmp 4]) rfl (.tmp rfl (.nil)) (AVleL.refl _) (by repeat (first | exact List.Sublist.refl _ | refine List.Sublist.cons _ ?_)) ?_
   exact ⟨H2, rfl, .inr ⟨l.take k, l.getD k default, l.drop (k + 1), split_getD (by omega), retI (by rw [List.length_take, Nat.min_eq_left (by omega)]), by rw [take_getD (by omega)]; exact hb2 h1⟩⟩
  ·
   replace h1 := nm h1
   refine S4 ?_; refine Oar ?_; refine Omv ?_; refine S1 ?_
   exact ag (⟨k + 1, H2, rfl, rfl, by omega, hb1 h1⟩)
 ·
  replace h0 := nm h0
  refine S7 ?_; refine Oas ?_; refine S3 ?_
  refine Done.retR (rs := [.tmp 4]) rfl (.tmp rfl (.nil)) (AVleL.refl _) (by repeat (first | exact List.Sublist.refl _ | refine List.Sublist.cons _ ?_)) ?_
  exact ⟨H1, rfl, .inl ⟨rfl, by have e : k = l.length := (by omega); rw [e, List.take_length] at hJ1; exact hJ1⟩⟩
theorem p151 (s : Nat) (c : Int) (hc : 0 ≤ c ∧ c < 64) (hs : s < 18446744073709551616) : PCall Tryz.prog 273 [AV.set s, .i c] (AV.set (s ||| 2 ^ c.toNat)) := by
 intro H
 refine ACall.mk' (n := 9) Tryz.func273 rfl (by kernel_rfl) rfl rfl (fun B I w0 => ?_)
 refine S2 ?_; refine Oas ?_; refine S4 ?_; refine Omv ?_; refine Omv ?_
 refine OL.popC rfl rfl rfl (POp.shift rfl rfl rfl rfl rfl hc.1 (sh_left _ hc)) ?_
 refine OL.popC rfl rfl rfl (POp.bits rfl rfl rfl rfl rfl (bit_or _ _ hs (Nat.pow_lt_pow_right (a := 2) (n := 64) (by omega) (by omega)))) ?_
 refine Oas ?_; refine S3 ?_
 refine r1 4 (H) ?_
 exact ⟨by first | rfl | exact retI (by simp_all) | exact retB (by simp_all) | simp_all, rfl⟩
theorem p109 (b : Bool) : PCall Tryz.prog 230 [.b b] (.i (if b then 0 else 2)) := by
 intro H
 refine ACall.mk' (n := 5) Tryz.func230 rfl (by kernel_rfl) rfl rfl (fun B I w0 => ?_)
 refine S2 ?_; refine Oas ?_; refine S5 ?_; refine Omv ?_; refine Ont ?_; refine S2 ?_
 refine CW.cond rfl (fun h0 => ?_) (fun h0 => ?_)
 ·
  replace h0 := nm h0
  refine S2 ?_; refine Oas ?_; refine S4 ?_
  refine r1 2 (H) ?_
  exact ⟨retI (by simp_all), rfl⟩
 ·
  replace h0 := nm h0
  refine S4 ?_; refine Oas ?_; refine S3 ?_
  refine r1 2 (H) ?_
  exact ⟨retI (by simp_all), rfl⟩
theorem p134 (f : Fact) : PCall Tryz.prog 294 [AV.fact f] (.b (decide (2 ≤ f.op) && decide (f.op ≤ 4))) := by
 intro H
 refine ACall.mk' (n := 11) Tryz.func294 rfl (by kernel_rfl) rfl rfl (fun B I w0 => ?_)
 refine S2 ?_; refine Obx ?_; refine Oas ?_; refine S4 ?_; refine Ofa ?_; refine Old ?_; refine Ocm ?_; refine Omv ?_; refine Pfa ?_; refine Pld ?_; refine Pcm ?_; refine Opk ?_
 refine Oas ?_; refine S3 ?_
 refine r1 2 (H) ?_
 exact ⟨retB (by by_cases h : 2 ≤ f.op <;> simp [h]), rfl⟩
theorem p210 (op : Int) : PCall Tryz.prog 293 [.i op] (.i (if op = 5 then 1 else if op = 6 ∨ op = 7 then 2 else 0)) := by
 intro H
 refine ACall.mk' (n := 9) Tryz.func293 rfl (by kernel_rfl) rfl rfl (fun B I w0 => ?_)
 refine S2 ?_; refine Oas ?_; refine S5 ?_; refine Omv ?_; refine S5 ?_; refine Ocm ?_; refine Oas ?_; refine S2 ?_
 refine CW.cond rfl (fun h0 => ?_) (fun h0 => ?_)
 ·
  replace h0 := nm h0
  refine S2 ?_; refine Oas ?_; refine S5 ?_
  refine r1 2 (H) ?_
  exact ⟨by first | rfl | exact retI (by simp_all) | exact retB (by simp_all) | simp_all, rfl⟩
 ·
  replace h0 := nm h0
  refine S3 ?_; refine Ocm ?_; refine Oas ?_; refine S2 ?_
  refine CW.cond rfl (fun h1 => ?_) (fun h1 => ?_)
  ·
   replace h1 := nm h1
   refine S2 ?_
   refine CW.cond rfl (fun h2 => ?_) (fun h2 => ?_)
   ·
    replace h2 := nm h2
    refine S2 ?_; refine Oas ?_; refine S5 ?_
    refine r1 2 (H) ?_
    exact ⟨by first | rfl | exact retI (by simp_all) | exact retB (by simp_all) | simp_all, rfl⟩
   ·
    replace h2 := nm h2
    refine S5 ?_; refine Oas ?_; refine S3 ?_
    refine r1 2 (H) ?_
    exact ⟨by first | rfl | exact retI (by simp_all) | exact retB (by simp_all) | simp_all, rfl⟩
  ·
   replace h1 := nm h1
   refine S1 ?_; refine Ocm ?_; refine Oas ?_; refine S2 ?_
   refine CW.cond rfl (fun h3 => ?_) (fun h3 => ?_)
   ·
    replace h3 := nm h3
    refine S2 ?_; refine Oas ?_; refine S5 ?_
    refine r1 2 (H) ?_
    exact ⟨by first | rfl | exact retI (by simp_all) | exact retB (by simp_all) | simp_all, rfl⟩
   ·
    replace h3 := nm h3
    refine S5 ?_; refine Oas ?_; refine S3 ?_
    refine r1 2 (H) ?_
    exact ⟨by first | rfl | exact retI (by simp_all) | exact retB (by simp_all) | simp_all, rfl⟩
theorem p153 (W : FW) (c : Int) (hW : W.parents.length ≤ 60) : PCall Tryz.prog 275 [Wptr W, .i c] (.b (ownP W c)) := by
 intro H
 refine ACall.mk' (n := 18) Tryz.func275 rfl (by kernel_rfl) rfl rfl (fun B I w0 => ?_)
 unfold Wptr
 refine CW.boundP (t := 0) (i := 0) rfl rfl (fun hb => ?_)
 refine S2 ?_; refine Oas ?_; refine S4 ?_; refine Omv ?_; refine Ocm ?_; refine Omv ?_; refine Pmv ?_; refine Pmv ?_; refine Pnc ?_; refine Pfa ?_; refine Pfa ?_; refine Pld ?_
 refine Pln ?_; refine Par ?_; refine Pcm ?_; refine Opk ?_; refine Oas ?_; refine S3 ?_
 refine r1 4 (H) ?_
 exact ⟨retB (by unfold ownP; by_cases h : 3 ≤ c <;> simp [h]), rfl⟩
theorem p106 (W : FW) (c : Int) (hW : W.parents.length ≤ 60) : PCall Tryz.prog 296 [Wptr W, .i c] (.b (classP W c)) := by
 intro H
 refine ACall.mk' (n := 18) Tryz.func296 rfl (by kernel_rfl) rfl rfl (fun B I w0 => ?_)
 unfold Wptr
 refine CW.boundP (t := 0) (i := 0) rfl rfl (fun hb => ?_)
 refine S2 ?_; refine Oas ?_; refine S4 ?_; refine Omv ?_; refine Ocm ?_; refine Omv ?_; refine Pmv ?_; refine Pmv ?_; refine Pnc ?_; refine Pfa ?_; refine Pfa ?_; refine Pld ?_
 refine Pln ?_; refine Par ?_; refine Pcm ?_; refine Opk ?_; refine Oas ?_; refine S3 ?_
 refine r1 4 (H) ?_
 exact ⟨retB (by unfold classP; by_cases h : 0 ≤ c <;> simp [h]), rfl⟩
theorem p177 (W : FW) (c : Int) : PCall Tryz.prog 307 [Wptr W, .i c] (.b (slotP W c)) := by
 intro H
 refine ACall.mk' (n := 17) Tryz.func307 rfl (by kernel_rfl) rfl rfl (fun B I w0 => ?_)
 unfold Wptr
 refine S2 ?_; refine Oas ?_; refine S4 ?_; refine Omv ?_; refine Ocm ?_; refine Omv ?_; refine Pmv ?_; refine Pmv ?_; refine Pnc ?_; refine Pfa ?_; refine Pfa ?_; refine Pld ?_
 refine Pln ?_; refine Pcm ?_; refine Opk ?_; refine Oas ?_; refine S3 ?_
 refine r1 4 (H) ?_
 exact ⟨retB (by unfold slotP; by_cases h : 0 ≤ c <;> simp [h]), rfl⟩
theorem found_cases {α : Type} {J Jx : List α → List Ent → Prop} {l : List α} {Hx : List Ent} {y : AV} {H' : List Ent} (h : FoundAt J Jx l Hx y H') : ∃ (n : Int) (H1 : List Ent), y = .i n ∧ H' = H1 ++ Hx ∧ (decide (n ≥ 0) = false → J l H1) ∧ (decide (n ≥ 0) = true → ∃ pre, pre <+: l ∧ Jx pre H1) := by
 obtain ⟨H1, rfl, h⟩ := h
 rcases h with ⟨rfl, h⟩ | ⟨pre, x, rest, rfl, rfl, h⟩
 ·exact ⟨-1, H1, rfl, rfl, fun _ => h, fun h => by simp at h⟩
 ·exact ⟨pre.length, H1, rfl, rfl, fun h => by simp at h, fun _ => ⟨pre ++ [x], ⟨rest, by simp⟩, h⟩⟩
theorem b76 {B : Nat} {f : Fn} {fs cs : List AV} {F : List Ent → Prop} {J Jx : List Fact → List Ent → Prop} (l : List Fact) (hg : FindOk B Tryz.prog (.fn f fs cs) AV.fact l F J Jx) (H Hx : List Ent) (hF : F Hx) (hJ : J [] H) :
  BCall B Tryz.prog 291 [.sl 6 (encFs l), .fn f fs cs] (H ++ Hx) (fun y H' => ∃ b H1, y = .b b ∧ H' = H1 ++ Hx ∧ (b = false → J l H1) ∧ (b = true → ∃ pre, pre <+: l ∧ Jx pre H1)) (fun _ _ => False) := by
 refine BCall.of (n := 9) Tryz.func291 rfl (by kernel_rfl) rfl rfl (fun I w0 => ?_)
 refine S2 ?_; refine Oas ?_; refine S4 ?_; refine Omv ?_; refine Omv ?_
 refine OL.bcallC rfl rfl rfl (.mk' rfl rfl rfl rfl rfl) (b130 l hg H Hx hF hJ) ?_
 intro y H' hy
 obtain ⟨n, H1, rfl, rfl, hn⟩ := found_cases hy
 refine Ocm ?_; refine Oas ?_; refine S3 ?_
 refine Done.retR (rs := [.tmp 4]) rfl (.tmp rfl (.nil)) (AVleL.refl _) (by repeat (first | exact List.Sublist.refl _ | refine List.Sublist.cons _ ?_)) ?_
 exact ⟨decide (n ≥ 0), H1, rfl, rfl, hn⟩
theorem b209 {B : Nat} {f : Fn} {fs cs : List AV} {J Jx : List Fact → List Ent → Prop} {L : List Fact} (hg : CbOk B Tryz.prog (.fn f fs cs) AV.fact L (fun _ => True) J Jx) (pre : List Fact) (x : Fact) (H Hx : List Ent) (hpx : pre ++ [x] <+: L) (hJ : J pre H) :
  BCall B Tryz.prog 292 [AV.fact x, .ptr [.fn f fs cs]] (H ++ Hx) (fun y H' => ∃ b H1, y = .b b ∧ H' = H1 ++ Hx ∧ (b = false → J (pre ++ [x]) H1) ∧ (b = true → Jx (pre ++ [x]) H1)) (fun _ _ => False) := by
 refine BCall.of (n := 8) Tryz.func292 rfl (by kernel_rfl) rfl rfl (fun I w0 => ?_)
 refine S2 ?_; refine Obx ?_; refine Oas ?_; refine S4 ?_; refine Old ?_; refine Ola ?_
 refine OL.vcallC rfl rfl rfl rfl rfl rfl rfl rfl (AVleL.refl _) (hg pre x H Hx hpx trivial hJ) ?_
 rintro _ _ ⟨b, H1, rfl, rfl, h1, h2⟩
 refine Ont ?_; refine Oas ?_; refine S3 ?_
 refine Done.retR (rs := [.tmp 3]) rfl (.tmp rfl (.nil)) (AVleL.refl _) (by repeat (first | exact List.Sublist.refl _ | refine List.Sublist.cons _ ?_)) ?_
 exact ⟨!b, H1, rfl, rfl, fun h => h1 (by simpa using h), fun h => h2 (by simpa using h)⟩
theorem b180 {B : Nat} {f : Fn} {fs cs : List AV} {J Jx : List Fact → List Ent → Prop} (l : List Fact) (hg : CbOk B Tryz.prog (.fn f fs cs) AV.fact l (fun _ => True) J Jx) (H Hx : List Ent) (hJ : J [] H) :
  BCall B Tryz.prog 276 [.sl 6 (encFs l), .fn f fs cs] (H ++ Hx) (fun y H' => ∃ b H1, y = .b b ∧ H' = H1 ++ Hx ∧ (b = true → J l H1) ∧ (b = false → ∃ pre, pre <+: l ∧ Jx pre H1)) (fun _ _ => False) := by
 refine BCall.of (n := 9) Tryz.func276 rfl (by kernel_rfl) rfl rfl (fun I w0 => ?_)
 refine S2 ?_; refine Obx ?_; refine Oas ?_; refine S4 ?_; refine Omv ?_; refine Omf ?_
 refine OL.bcallC rfl rfl rfl (.mk' rfl rfl rfl rfl rfl) (b76 (F := fun _ => True) (J := J) (Jx := Jx) l (fun pre x H Hx hpx _ hJ => VCall.fnB (b209 hg pre x H Hx hpx hJ)) H Hx trivial hJ) ?_
 rintro _ _ ⟨b, H1, rfl, rfl, h1, h2⟩
 refine Ont ?_; refine Oas ?_; refine S3 ?_
 refine Done.retR (rs := [.tmp 4]) rfl (.tmp rfl (.nil)) (AVleL.refl _) (by repeat (first | exact List.Sublist.refl _ | refine List.Sublist.cons _ ?_)) ?_
 exact ⟨!b, H1, rfl, rfl, fun h => h1 (by simpa using h), fun h => h2 (by simpa using h)⟩
theorem p126 (W : FW) (l : List Int) : PCall Tryz.prog 295 [Wptr W, AV.ints l] (.b (pathP W l)) := by
 intro H
 refine ACall.mk' (n := 14) Tryz.func295 rfl (by kernel_rfl) rfl rfl (fun B I w0 => ?_)
 refine CW.boundM (t := 1) rfl (fun hb => ?_)
 refine S2 ?_; refine Oas ?_; refine S4 ?_; refine Omv ?_; refine Oln ?_; refine Ocm ?_; refine Omv ?_; refine Pmv ?_; refine Pmv ?_; refine Pmf ?_
 refine OL.guardC rfl rfl rfl rfl rfl rfl (fun hg => POp.call (.mk' rfl rfl rfl rfl (by first | rfl | ((repeat (first | exact hg | rfl | refine Bool.and_eq_true_iff.2 ⟨?_, ?_⟩)); done) | simp_all [strip, constAV])) (p152 (.of (p177 W)) l)) ?_
 refine Opk ?_; refine Oas ?_; refine S3 ?_
 refine r1 4 (H) ?_
 exact ⟨retB (by unfold pathP; by_cases h : l.length ≤ 2 <;> simp [h] <;> omega), rfl⟩
def NodeC (B : Nat) (W : FW) (deep : Int) : Prop := ∀ (f : Fact) (left : Int) (b : Nat) (Hx : List Ent), 0 ≤ left ∧ left ≤ 1000 →
 BCall B Tryz.prog 278 [Wptr W, AV.fact f, .p b 0, .i deep] (.blk b 3 [.i left] :: Hx) (fun y H' => y = .b (nodeP W f left deep).1 ∧ H' = .blk b 3 [.i (nodeP W f left deep).2] :: Hx) (fun _ _ => False)
theorem b211 {B : Nat} {W : FW} {deep : Int} (hd : 0 < deep ∧ deep ≤ 1000) (ih : NodeC B W (deep - 1)) (f : Fact) (left : Int) (b : Nat) (Hx : List Ent) (hl : 0 ≤ left ∧ left ≤ 1000) :
  BCall B Tryz.prog 297 [AV.fact f, .ptr [Wptr W], .ptr [.p b 0], .ptr [.i deep]] (.blk b 3 [.i left] :: Hx) (fun y H' => y = .b (nodeP W f left (deep - 1)).1 ∧ H' = .blk b 3 [.i (nodeP W f left (deep - 1)).2] :: Hx) (fun _ _ => False) := by
 refine BCall.of (n := 12) Tryz.func297 rfl (by kernel_rfl) rfl rfl (fun I w0 => ?_)
 refine S2 ?_; refine Obx ?_; refine Oas ?_; refine S4 ?_; refine Old ?_; refine Ola ?_; refine Old ?_; refine Old ?_; refine Oar ?_
 refine OL.bcallC rfl rfl rfl (.mk' rfl rfl rfl rfl rfl) (ih f left b Hx hl) ?_
 rintro _ _ ⟨rfl, rfl⟩
 refine Oas ?_; refine S3 ?_
 refine Done.retR (rs := [.tmp 5]) rfl (.tmp rfl (.nil)) (AVleL.refl _) (by repeat (first | exact List.Sublist.refl _ | refine List.Sublist.cons _ ?_)) ?_
 exact ⟨rfl, rfl⟩
theorem nodesCb {B : Nat} {W : FW} {deep : Int} (hd : 0 < deep ∧ deep ≤ 1000) (ih : NodeC B W (deep - 1)) (left : Int) (hl : 0 ≤ left ∧ left ≤ 1000) (b : Nat) (L : List Fact) :
  CbOk B Tryz.prog (.fn (.func 297) [] [.ptr [Wptr W], .ptr [.p b 0],   .ptr [.i deep]]) AV.fact L (fun _ => True) (fun pre H => H = [.blk b 3 [.i (nodesP W pre left (deep - 1)).2]] ∧ (nodesP W pre left (deep - 1)).1 = true) (fun pre H => H = [.blk b 3 [.i (nodesP W pre left (deep - 1)).2]] ∧ (nodesP W pre left (deep - 1)).1 = false) := by
 rintro pre x H Hx _ _ ⟨rfl, hp⟩
 have h1 := nodesP_left W pre left (deep - 1) hl.1
 refine VCall.mono (VCall.fnB (b211 hd ih x _ b Hx ⟨h1.2 hp, by omega⟩)) ?_ (fun _ _ h => h)
 rintro _ _ ⟨rfl, rfl⟩
 have h2 := nodesP_snoc W (deep - 1) x pre left hp
 exact ⟨_, [.blk b 3 [.i (nodeP W x (nodesP W pre left (deep - 1)).2 (deep - 1)).2]], rfl, rfl, fun h => ⟨by rw [h2], by rw [h2]; exact h⟩, fun h => ⟨by rw [h2], by rw [h2]; exact h⟩⟩
theorem nodes_end {W : FW} {deep left : Int} {l : List Fact} {b : Nat} {bb : Bool} {H1 : List Ent} (h1 : bb = true → H1 = [.blk b 3 [.i (nodesP W l left (deep - 1)).2]] ∧ (nodesP W l left (deep - 1)).1 = true)
  (h2 : bb = false → ∃ pre, pre <+: l ∧ H1 = [.blk b 3 [.i (nodesP W pre left (deep - 1)).2]] ∧ (nodesP W pre left (deep - 1)).1 = false) : bb = (nodesP W l left (deep - 1)).1 ∧ H1 = [.blk b 3 [.i (nodesP W l left (deep - 1)).2]] := by
 cases bb with
 | true => obtain ⟨e1, e2⟩ := h1 rfl; exact ⟨e2.symm, e1⟩
 | false =>
  obtain ⟨pre, ⟨rest, rfl⟩, e1, e2⟩ := h2 rfl
  rw [nodesP_stop W (deep - 1) rest pre left e2]
  exact ⟨e2.symm, e1⟩
theorem bad_false {f : Fact} {left deep : Int} (h : badP f left deep = false) (hd : 0 ≤ deep) (hl : left ≤ 1000) : (0 ≤ left ∧ left ≤ 1000) ∧ 0 < deep := by
 simp only [badP, Bool.or_eq_false_iff, decide_eq_false_iff_not, beq_eq_false_iff_ne, ne_eq] at h
 omega
theorem node_bad {W : FW} {f : Fact} {left deep : Int} (h : badP f (left - 1) deep = true) : nodeP W f left deep = (false, left - 1) := by rw [nodeP_eq, if_pos h]
theorem node_leaf {W : FW} {f : Fact} {left deep : Int} (h : badP f (left - 1) deep = false) (h1 : leafP f = true) : nodeP W f left deep = (argP W f && leafOkP W f, left - 1) := by rw [nodeP_eq, if_neg (by simp [h]), if_pos h1]
theorem node_notPlain {W : FW} {f : Fact} {left deep : Int} (h : badP f (left - 1) deep = false) (h1 : leafP f = false) (h2 : plainP f = false) : nodeP W f left deep = (false, left - 1) := by rw [nodeP_eq, if_neg (by simp [h]), if_neg (by simp [h1]), if_neg (by simp [h2])]
theorem node_plain {W : FW} {f : Fact} {left deep : Int} (h : badP f (left - 1) deep = false) (h1 : leafP f = false) (h2 : plainP f = true) : nodeP W f left deep = nodesP W f.kids (left - 1) (deep - 1) := by rw [nodeP_eq, if_neg (by simp [h]), if_neg (by simp [h1]), if_pos h2]
theorem leafOk_is {W : FW} {f : Fact} (h : f.op = 2) : leafOkP W f = ((f.n == 0) && classP W f.cls) := by rw [leafOkP, if_pos h]
theorem leafOk_not {W : FW} {f : Fact} (h : ¬ f.op = 2) : leafOkP W f = ((f.cls == 0) && decide (f.n ≥ -1000000000) && decide (f.n ≤ 1000000000)) := by rw [leafOkP, if_neg h]
theorem bif_and (a b : Bool) : (bif a then b else false) = (a && b) := by cases a <;> rfl
theorem bif_or (a b : Bool) : (bif a then true else b) = (a || b) := by cases a <;> rfl
theorem b182_step {B : Nat} {W : FW} {deep : Int} (hW : W.parents.length ≤ 60) (hd : 0 ≤ deep ∧ deep ≤ 1000) (ih : 0 < deep → NodeC B W (deep - 1)) : NodeC B W deep := by
 intro f left b Hx hl
 refine BCall.of (n := 110) Tryz.func278 rfl (by kernel_rfl) rfl rfl (fun I w0 => ?_)
 refine CW.boundA (t := 1) (i := 5) rfl rfl (fun hbk => ?_)
 refine CW.boundA (t := 1) (i := 2) rfl rfl (fun hbp => ?_)
 refine S2 ?_; refine Obx ?_; refine Obx ?_; refine Obx ?_; refine Obx ?_; refine Oas ?_; refine S5 ?_; refine Old ?_; refine Onc ?_; refine Old ?_; refine Oar ?_; refine Onc ?_
 refine Sto ?_; refine S3 ?_
 refine CW.dp mixed ?_
 refine DP.one (k := 0) (by decide +kernel) rfl ?_
 refine Old ?_
 refine OL.nil (Done.dp ?_)
 refine DP.one (k := 1) (by decide +kernel) rfl ?_
 refine Onc ?_
 refine OL.nil (Done.dp ?_)
 refine DP.one (k := 2) (by decide +kernel) rfl ?_
 refine Old ?_
 refine OL.nil (Done.dp ?_)
 refine DP.one (k := 3) (by decide +kernel) rfl ?_
 refine Ocm ?_
 refine OL.nil (Done.dp ?_)
 refine DP.one (k := 4) (by decide +kernel) rfl ?_
 refine Omv ?_
 refine OL.nil (Done.dp ?_)
 refine DP.one (k := 5) (by decide +kernel) rfl ?_
 refine Pld ?_
 refine OL.nil (Done.dp ?_)
 refine DP.one (k := 6) (by decide +kernel) rfl ?_
 refine Pcm ?_
 refine OL.nil (Done.dp ?_)
 refine DP.one (k := 7) (by decide +kernel) rfl ?_
 refine Opk ?_
 refine OL.nil (Done.dp ?_)
 refine DP.one (k := 8) (by decide +kernel) rfl ?_
 refine Omv ?_
 refine OL.nil (Done.dp ?_)
 refine DP.one (k := 9) (by decide +kernel) rfl ?_
 refine Pfa ?_
 refine OL.nil (Done.dp ?_)
 refine DP.one (k := 10) (by decide +kernel) rfl ?_
 refine Pld ?_
 refine OL.nil (Done.dp ?_)
 refine DP.one (k := 11) (by decide +kernel) rfl ?_
 refine Pcm ?_
 refine OL.nil (Done.dp ?_)
 refine DP.one (k := 12) (by decide +kernel) rfl ?_
 refine Opk ?_
 refine OL.nil (Done.dp ?_)
 refine DP.one (k := 13) (by decide +kernel) rfl ?_
 refine Omv ?_
 refine OL.nil (Done.dp ?_)
 refine DP.one (k := 14) (by decide +kernel) rfl ?_
 refine Pfa ?_
 refine OL.nil (Done.dp ?_)
 refine DP.one (k := 15) (by decide +kernel) rfl ?_
 refine Pld ?_
 refine OL.nil (Done.dp ?_)
 refine DP.one (k := 16) (by decide +kernel) rfl ?_
 refine Pcm ?_
 refine OL.nil (Done.dp ?_)
 refine DP.one (k := 17) (by decide +kernel) rfl ?_
 refine Opk ?_
 refine OL.nil (Done.dp ?_)
 refine DP.one (k := 18) (by decide +kernel) rfl ?_
 refine Omv ?_
 refine OL.nil (Done.dp ?_)
 refine DP.anyC 19 25 110 rfl (by decide +kernel) rfl rfl (by decide +kernel) ?_
 refine AD.guardC rfl rfl rfl rfl rfl (fun hg => (by first | exact POp.fa rfl rfl rfl rfl | exact POp.faP rfl rfl rfl rfl)) ?_
 refine AD.guardC rfl rfl rfl rfl rfl (fun hg => (by first | exact POp.ld1 rfl rfl (gd hg) rfl | (apply POp.ld1H rfl rfl (gd hg); (case hm => repeat (first | exact .head _ | refine .tail _ ?_)); (case hy => rfl)))) ?_
 refine AD.guardC rfl rfl rfl rfl rfl (fun hg => (by first | exact POp.lenM rfl rfl (gd hg) | exact POp.lenA rfl rfl (gd hg) | exact POp.lenV rfl rfl (gd hg) | exact POp.len' rfl rfl (gd hg))) ?_
 refine AD.guardC rfl rfl rfl rfl rfl (fun hg => (by first | exact POp.fa rfl rfl rfl rfl | exact POp.faP rfl rfl rfl rfl)) ?_
 refine AD.guardC rfl rfl rfl rfl rfl (fun hg => (by first | exact POp.ld1 rfl rfl (gd hg) rfl | (apply POp.ld1H rfl rfl (gd hg); (case hm => repeat (first | exact .head _ | refine .tail _ ?_)); (case hy => rfl)))) ?_
 refine AD.guardC rfl rfl rfl rfl rfl (fun hg => POp.call (.mk' rfl rfl rfl rfl (by first | rfl | ((repeat (first | exact hg | rfl | refine Bool.and_eq_true_iff.2 ⟨?_, ?_⟩)); done) | simp_all [strip, constAV])) ((p210 _))) ?_
 refine AD.nil ?_
 refine DP.tailC 25 (by decide +kernel) rfl ?_
 refine Pcm ?_; refine Opk ?_; refine S2 ?_
 refine CW.cond rfl (fun h0 => ?_) (fun h0 => ?_)
 ·
  have hbad : badP f (left - 1) deep = true := by simpa only [badP, bif_or, kidsP] using h0
  have hn := node_bad (W := W) hbad
  refine S2 ?_; refine Oas ?_; refine S4 ?_
  refine Done.retR (rs := [.tmp 8]) rfl (.tmp rfl (.nil)) (AVleL.refl _) (by repeat (first | exact List.Sublist.refl _ | refine List.Sublist.cons _ ?_)) ?_
  exact ⟨retB (by rw [hn]), by rw [hn]; rfl⟩
 ·
  have hbad : badP f (left - 1) deep = false := by simpa only [badP, bif_or, kidsP] using h0
  obtain ⟨hl1, hd1⟩ := bad_false hbad hd.1 (by omega)
  refine S6 ?_; refine Ola ?_
  refine OL.popC rfl rfl rfl (POp.call (.mk' rfl rfl rfl rfl rfl) ((p134 _))) ?_
  refine Ont ?_; refine Oas ?_; refine S2 ?_
  refine CW.cond rfl (fun h1 => ?_) (fun h1 => ?_)
  ·
   have hleaf : leafP f = false := by simpa only [leafP, Bool.not_eq_true'] using h1
   refine S2 ?_; refine Ofa ?_; refine Old ?_; refine Ocm ?_; refine Omv ?_; refine Pfa ?_; refine Pld ?_; refine Pln ?_; refine Pcm ?_; refine Opk ?_; refine Omv ?_; refine Pfa ?_
   refine Pld ?_; refine Pcm ?_; refine Opk ?_; refine Omv ?_; refine Pfa ?_; refine Pld ?_; refine Pcm ?_; refine Opk ?_; refine S2 ?_
   refine CW.cond rfl (fun h2 => ?_) (fun h2 => ?_)
   ·
    have hplain : plainP f = false := by rw [plainP, Bool.not_eq_false']; simpa only [bif_or] using h2
    have hn := node_notPlain (W := W) hbad hleaf hplain
    refine S2 ?_; refine Oas ?_; refine S5 ?_
    refine Done.retR (rs := [.tmp 8]) rfl (.tmp rfl (.nil)) (AVleL.refl _) (by repeat (first | exact List.Sublist.refl _ | refine List.Sublist.cons _ ?_)) ?_
    exact ⟨retB (by rw [hn]), by rw [hn]; rfl⟩
   ·
    have hplain : plainP f = true := by rw [plainP, Bool.not_eq_true']; simpa only [bif_or] using h2
    have hn := node_plain (W := W) hbad hleaf hplain
    refine S5 ?_; refine Ofa ?_; refine Old ?_; refine Omf ?_
    refine OL.bcallC rfl rfl rfl (.mk' rfl rfl rfl rfl rfl) (b180 f.kids (nodesCb ⟨hd1, hd.2⟩ (ih hd1) (left - 1) hl1 b _) [.blk b 3 [.i (left - 1)]] Hx ⟨rfl, rfl⟩) ?_
    rintro _ _ ⟨bb, H1, rfl, rfl, e1, e2⟩
    obtain ⟨e3, e4⟩ := nodes_end e1 e2
    subst e4
    refine Oas ?_; refine S3 ?_
    refine Done.retR (rs := [.tmp 8]) rfl (.tmp rfl (.nil)) (AVleL.refl _) (by repeat (first | exact List.Sublist.refl _ | refine List.Sublist.cons _ ?_)) ?_
    exact ⟨retB (by rw [hn]; exact e3), by rw [hn]; rfl⟩
  ·
   have hleaf : leafP f = true := by simpa only [leafP, Bool.not_eq_false'] using h1
   have hn := node_leaf (W := W) hbad hleaf
   refine S2 ?_; refine Ofa ?_; refine Old ?_; refine Ocm ?_; refine Omv ?_; refine Pfa ?_; refine Pld ?_; refine Pcm ?_; refine Opk ?_; refine Omv ?_; refine Pld ?_; refine Pfa ?_
   refine Pld ?_
   refine OL.guardC rfl rfl rfl rfl rfl rfl (fun hg => POp.call (.mk' rfl rfl rfl rfl (by first | rfl | ((repeat (first | exact hg | rfl | refine Bool.and_eq_true_iff.2 ⟨?_, ?_⟩)); done) | simp_all [strip, constAV])) ((p126 _ _))) ?_
   refine Pnt ?_; refine Opk ?_; refine Oas ?_; refine S2 ?_
   refine CW.cond rfl (fun h3 => ?_) (fun h3 => ?_)
   ·
    have harg : argP W f = false := by rw [argP, Bool.not_eq_false']; simpa only [bif_or] using h3
    refine S2 ?_; refine Oas ?_; refine S5 ?_
    refine Done.retR (rs := [.tmp 8]) rfl (.tmp rfl (.nil)) (AVleL.refl _) (by repeat (first | exact List.Sublist.refl _ | refine List.Sublist.cons _ ?_)) ?_
    exact ⟨retB (by rw [hn, harg]; rfl), by rw [hn]; rfl⟩
   ·
    have harg : argP W f = true := by rw [argP, Bool.not_eq_true']; simpa only [bif_or] using h3
    refine S2 ?_; refine Ofa ?_; refine Old ?_; refine Ocm ?_; refine Oas ?_; refine S2 ?_
    refine CW.cond rfl (fun h4 => ?_) (fun h4 => ?_)
    ·
     replace h4 := nm h4
     refine S2 ?_; refine Ofa ?_; refine Old ?_; refine Ocm ?_; refine Omv ?_; refine Pld ?_; refine Pfa ?_; refine Pld ?_
     refine OL.guardC rfl rfl rfl rfl rfl rfl (fun hg => POp.call (.mk' rfl rfl rfl rfl (by first | rfl | ((repeat (first | exact hg | rfl | refine Bool.and_eq_true_iff.2 ⟨?_, ?_⟩)); done) | simp_all [strip, constAV])) ((p106 _ _ (by assumption)))) ?_
     refine Opk ?_; refine Oas ?_; refine S5 ?_
     refine Done.retR (rs := [.tmp 8]) rfl (.tmp rfl (.nil)) (AVleL.refl _) (by repeat (first | exact List.Sublist.refl _ | refine List.Sublist.cons _ ?_)) ?_
     exact ⟨retB (by rw [hn, harg, leafOk_is h4, bif_and]; rfl), by rw [hn]; rfl⟩
    ·
     replace h4 := nm h4
     refine S2 ?_; refine Ofa ?_; refine Old ?_; refine Ocm ?_; refine Omv ?_; refine Pfa ?_; refine Pld ?_; refine Pcm ?_; refine Opk ?_; refine Omv ?_; refine Pfa ?_; refine Pld ?_
     refine Pcm ?_; refine Opk ?_; refine Oas ?_; refine S5 ?_
     refine Done.retR (rs := [.tmp 8]) rfl (.tmp rfl (.nil)) (AVleL.refl _) (by repeat (first | exact List.Sublist.refl _ | refine List.Sublist.cons _ ?_)) ?_
     exact ⟨retB (by rw [hn, harg, leafOk_not h4, bif_and, bif_and]; rfl), by rw [hn]; rfl⟩
theorem nodeC_all {B : Nat} {W : FW} (hW : W.parents.length ≤ 60) : ∀ (n : Nat), n ≤ 1000 → NodeC B W n
 | 0, h => b182_step hW ⟨by omega, by omega⟩ (fun h => by omega)
 | n + 1, h => b182_step hW ⟨by omega, by omega⟩ (fun _ => by
  have e : ((n + 1 : Nat) : Int) - 1 = (n : Int) := by omega
  rw [e]; exact nodeC_all hW n (by omega))
theorem p180 {f : Fn} {fs cs : List AV} {p : Fact → Bool} (hg : PredOk Tryz.prog (.fn f fs cs) AV.fact p) (l : List Fact) : PCall Tryz.prog 276 [.sl 6 (encFs l), .fn f fs cs] (.b (l.all p)) := by
 intro H
 have h0 : fnOk Tryz.prog 276 = true := (b180 (B := 0) l (hg.cb l) [] H ⟨rfl, by simp⟩).1
 refine ⟨h0, fun B I w vs hw hh hvs => ((b180 (B := B) l (hg.cb l) [] H ⟨rfl, by simp⟩).2 I w vs hw hh hvs).mono fun e w' hr => hr.mono (fun y H' hy => ?_) fun _ _ h => h⟩
 obtain ⟨b, H1, rfl, rfl, h1, h2⟩ := hy
 cases b with
 | true =>
  obtain ⟨rfl, h⟩ := h1 rfl
  exact ⟨congrArg AV.b (List.all_eq_true.2 h).symm, rfl⟩
 | false =>
  obtain ⟨pre, ⟨rest, rfl⟩, rfl, q, x, rfl, h⟩ := h2 rfl
  refine ⟨congrArg AV.b ?_, rfl⟩
  symm
  rw [List.all_eq_false]
  exact ⟨x, by simp, by simp [h]⟩
theorem p181 (W : FW) (hW : W.parents.length ≤ 60) (f : Fact) : PCall Tryz.prog 277 [AV.fact f, .ptr [Wptr W]] (.b (formedP W f)) := by
 intro H
 refine ACall.mk' (n := 8) Tryz.func277 rfl (by kernel_rfl) rfl rfl (fun B I w0 => ?_)
 refine S2 ?_; refine Obx ?_; refine Oas ?_; refine S4 ?_
 refine OL.alC rfl rfl rfl rfl (fun b0 => ?_)
 refine Sto ?_; refine S4 ?_; refine Old ?_; refine Ola ?_
 refine OL.bcallC rfl rfl rfl (.mk' rfl rfl rfl rfl rfl) (nodeC_all hW 12 (by omega) f 24 b0 H ⟨by omega, by omega⟩) ?_
 rintro _ _ ⟨rfl, rfl⟩
 refine Oas ?_; refine S3 ?_
 refine r1 3 (H) ?_
 exact ⟨retB rfl, rfl⟩
theorem p131 (W : FW) (hW : W.parents.length ≤ 60) (l : List Fact) : PCall Tryz.prog 251 [Wptr W, AV.facts l] (.b (l.all (formedP W))) := by
 intro H
 refine ACall.mk' (n := 8) Tryz.func251 rfl (by kernel_rfl) rfl rfl (fun B I w0 => ?_)
 refine S2 ?_; refine Obx ?_; refine Oas ?_; refine S4 ?_; refine Omv ?_; refine Omf ?_
 refine OL.popC rfl rfl rfl (POp.call (.mk' rfl rfl rfl rfl rfl) (p180 (.of (p181 W hW)) l)) ?_
 refine Oas ?_; refine S3 ?_
 refine r1 4 (H) ?_
 exact ⟨by first | rfl | exact retI (by simp_all) | exact retB (by simp_all) | simp_all, rfl⟩
theorem up_get {W : FW} {U : List Nat} {i : Nat} (h : i < U.length) : (Wcells W ++ U.map fun s => AV.set s)[2 + i]? = some (AV.set (U.getD i 0)) := by
 show ([AV.intss W.parents, AV.ints W.owner] ++ _)[2 + i]? = _
 rw [List.getElem?_append_right (by simp)]
 simp [List.getElem?_map, List.getElem?_eq_getElem h, List.getD_eq_getElem?_getD]
theorem up_set {W : FW} {U : List Nat} {i s : Nat} (h : i < U.length) : (Wcells W ++ U.map fun s => AV.set s).take (2 + i) ++ [AV.set s] ++ (Wcells W ++ U.map fun s => AV.set s).drop (2 + i + 1) = Wcells W ++ (U.set i s).map fun s => AV.set s := by
 have e : Wcells W = [AV.intss W.parents, AV.ints W.owner] := rfl
 have e1 : (Wcells W ++ U.map fun s => AV.set s).take (2 + i) = Wcells W ++ (U.take i).map fun s => AV.set s := by
  rw [e, List.take_append, List.map_take]
  simp [List.take_of_length_le]
 have e2 : (Wcells W ++ U.map fun s => AV.set s).drop (2 + i + 1) = (U.drop (i + 1)).map fun s => AV.set s := by
  rw [show 2 + i + 1 = (i + 1) + 2 from by omega, List.map_drop]
  rfl
 rw [e1, e2, List.append_assoc, List.append_assoc]
 congr 1
 rw [List.set_eq_take_append_cons_drop, if_pos h]
 simp
def idxP (l : List Int) (v : Int) : Int := match l.findIdx? (fun x => x == v) with | some i => (i : Int) | none => -1
theorem idxP_at {l : List Int} {v : Int} {k : Nat} (hk : k < l.length) (hp : ∀ x ∈ l.take k, x ≠ v) (h : v = l.getD k default) : (k : Int) = idxP l v := by
 have e : l.findIdx? (fun x => x == v) = some k := by
  rw [List.findIdx?_eq_some_iff_getElem]
  refine ⟨hk, ?_, fun j hj => ?_⟩
  ·rw [h, List.getD_eq_getElem?_getD, List.getElem?_eq_getElem hk]; simp
  ·have := hp (l[j]'(by omega)) (by rw [List.mem_take_iff_getElem]; exact ⟨j, by omega, rfl⟩)
   simpa using this
 rw [idxP, e]
theorem idxP_none {l : List Int} {v : Int} (hp : ∀ x ∈ l, x ≠ v) : (-1 : Int) = idxP l v := by
 have e : l.findIdx? (fun x => x == v) = none := by
  rw [List.findIdx?_eq_none_iff]
  intro x hx; simpa using hp x hx
 rw [idxP, e]
theorem idxP_contains (l : List Int) (v : Int) : decide (idxP l v ≥ 0) = l.contains v := by
 unfold idxP
 cases h : l.findIdx? (fun x => x == v) with
 | none =>
  rw [List.findIdx?_eq_none_iff] at h
  symm; simp
  intro hx; have := h v hx; simp at this
 | some i =>
  rw [List.findIdx?_eq_some_iff_getElem] at h
  obtain ⟨hi, h1, _⟩ := h
  symm; simp
  have : l[i] = v := by simpa using h1
  rw [← this]; exact List.getElem_mem hi
theorem ne_step {l : List Int} {v : Int} {k : Nat} (hk : k < l.length) (hp : ∀ x ∈ l.take k, x ≠ v) (h : v ≠ l.getD k default) : ∀ x ∈ l.take (k + 1), x ≠ v := by
 rw [← take_getD hk]
 intro x hx
 rcases List.mem_append.1 hx with hx | hx
 ·exact hp x hx
 ·simp at hx; rw [hx]; intro e; apply h; simp [e]
theorem p100 (l : List Int) (v : Int) : PCall Tryz.prog 103 [AV.ints l, .i v] (.i (idxP l v)) := by
 intro H
 refine ACall.mk' (n := 19) Tryz.func103 rfl (by kernel_rfl) rfl rfl (fun B I w0 => ?_)
 refine CW.boundM (t := 0) rfl (fun hb0 => ?_)
 refine S2 ?_; refine Oas ?_; refine S5 ?_; refine Omv ?_; refine Oln ?_; refine Omv ?_; refine S3 ?_
 refine lj (fun m st => ∃ k : Nat, st = ⟨[(8, .i k), (7, .i l.length), (0, AV.ints l), (1, .i v)], H⟩ ∧ m = l.length - k ∧ k ≤ l.length ∧ ∀ x ∈ l.take k, x ≠ v) (⟨0, rfl, rfl, by simp, by simp⟩) ?_
 rintro m _ ⟨k, rfl, rfl, hk, hp⟩
 refine S2 ?_; refine Ocm ?_; refine S3 ?_
 refine CW.cond rfl (fun h0 => ?_) (fun h0 => ?_)
 ·
  replace h0 := nm h0
  refine S6 ?_; refine Omv ?_; refine Oas ?_; refine S4 ?_; refine Omv ?_; refine Omv ?_; refine Omv ?_; refine Oix ?_; refine Old ?_; refine Ocm ?_; refine S2 ?_
  refine CW.cond rfl (fun h1 => ?_) (fun h1 => ?_)
  ·
   replace h1 := nm h1
   refine S2 ?_; refine Omv ?_; refine Oas ?_; refine S8 ?_
   refine r1 4 (H) ?_
   exact ⟨retI (idxP_at (by omega) hp h1), rfl⟩
  ·
   replace h1 := nm h1
   refine S4 ?_; refine Oar ?_; refine Omv ?_; refine S1 ?_
   exact ag (⟨k + 1, rfl, rfl, by omega, ne_step (by omega) hp h1⟩)
 ·
  replace h0 := nm h0
  refine S7 ?_; refine Oas ?_; refine S3 ?_
  refine r1 4 (H) ?_
  exact ⟨retI (idxP_none (by have e : k = l.length := (by omega); rw [e, List.take_length] at hp; exact hp)), rfl⟩
theorem p33 (l : List Int) (v : Int) : PCall Tryz.prog 38 [AV.ints l, .i v] (.b (l.contains v)) := by
 intro H
 refine ACall.mk' (n := 9) Tryz.func38 rfl (by kernel_rfl) rfl rfl (fun B I w0 => ?_)
 refine S2 ?_; refine Oas ?_; refine S4 ?_; refine Omv ?_; refine Omv ?_
 refine OL.popC rfl rfl rfl (POp.call (.mk' rfl rfl rfl rfl rfl) ((p100 _ _))) ?_
 refine Ocm ?_; refine Oas ?_; refine S3 ?_
 refine r1 4 (H) ?_
 exact ⟨retB (idxP_contains _ _), rfl⟩
def U0 (k : Nat) : List Nat := [1, 3, 5].take k ++ List.replicate (63 - k) 0
theorem U0_set {k : Nat} (h : k < 3) : (U0 k).set k (1 ||| 2 ^ (k : Int).toNat) = U0 (k + 1) := by
 have : k = 0 ∨ k = 1 ∨ k = 2 := by omega
 rcases this with rfl | rfl | rfl <;> rfl
theorem U0_len {k : Nat} (h : k ≤ 3) : (U0 k).length = 63 := by simp [U0]; omega
theorem up_set' {W : FW} {U U' : List Nat} {i s : Nat} (h : i < U.length) (hU : U.set i s = U') : (Wcells W ++ U.map fun s => AV.set s).take (2 + i) ++ [AV.set s] ++ (Wcells W ++ U.map fun s => AV.set s).drop (2 + i + 1) = Wcells W ++ U'.map fun s => AV.set s := hU ▸ up_set h
theorem up_fit {W : FW} {U : List Nat} {i off : Nat} (ho : off = 2 + i) (h : i < U.length) : Nat.ble (off + 1) (Wcells W ++ U.map fun s => AV.set s).length = true := by
 subst ho
 rw [Nat.ble_eq]
 simp [Wcells]; omega
theorem world_big {W : FW} (h : (bif decide ((W.parents.length : Int) > 60) then true else decide ((W.owner.length : Int) > 40)) = true) : worldP W = false := by
 rw [bif_or] at h
 simp only [Bool.or_eq_true, decide_eq_true_eq] at h
 unfold worldP
 rcases h with h | h
 ·have : decide (W.parents.length ≤ 60) = false := by simp; omega
  simp [this]
 ·have : decide (W.owner.length ≤ 40) = false := by simp; omega
  simp [this]
theorem world_small {W : FW} (h : (bif decide ((W.parents.length : Int) > 60) then true else decide ((W.owner.length : Int) > 40)) = false) : W.parents.length ≤ 60 ∧ W.owner.length ≤ 40 := by
 rw [bif_or] at h
 simp only [Bool.or_eq_false_iff, decide_eq_false_iff_not] at h
 omega
theorem world_val {W : FW} (h : W.parents.length ≤ 60 ∧ W.owner.length ≤ 40) : worldP W = (parentssP 0 W.parents && W.owner.all (ownP W)) := by
 simp [worldP, h.1, h.2]
theorem parents_step {l : List (List Int)} {k : Nat} (hk : k < l.length) : parentssP k (l.drop k) = (parentsP k [] (l.getD k default) && parentssP (k + 1) (l.drop (k + 1))) := by
 rw [List.drop_eq_getElem_cons hk, parentssP, List.getD_eq_getElem?_getD, List.getElem?_eq_getElem hk]; rfl
theorem ups_step {l : List (List Int)} {k : Nat} (U : List Nat) (hk : k < l.length) : upsFrom (l.drop k) k U = upsFrom (l.drop (k + 1)) (k + 1) (U.set (3 + k) (upFold U k (l.getD k default))) := by
 rw [List.drop_eq_getElem_cons hk, upsFrom, List.getD_eq_getElem?_getD, List.getElem?_eq_getElem hk]; rfl
theorem parent_step {i : Nat} {l : List Int} {j : Nat} (hj : j < l.length) : parentsP i (l.take j) (l.drop j) = (!(decide (l.getD j default < 3) || decide (l.getD j default ≥ 3 + i) || (l.take j).contains (l.getD j default)) && parentsP i (l.take (j + 1)) (l.drop (j + 1))) := by
 rw [List.drop_eq_getElem_cons hj, parentsP, ← take_getD hj, List.getD_eq_getElem?_getD, List.getElem?_eq_getElem hj]; rfl
theorem getD_lt {α : Type} [Inhabited α] {l : List α} {j : Nat} (h : j < l.length) : l.getD j default = l[j] := by rw [List.getD_eq_getElem?_getD, List.getElem?_eq_getElem h]; rfl
theorem up_get' {W : FW} {U : List Nat} {i off : Nat} (ho : off = 2 + i) (h : i < U.length) : (Wcells W ++ U.map fun s => AV.set s)[off]? = some (AV.set (U.getD i 0)) := ho ▸ up_get h
theorem up_setO {W : FW} {U U' : List Nat} {i s off : Nat} (ho : off = 2 + i) (h : i < U.length) (hU : U.set i s = U') : (Wcells W ++ U.map fun s => AV.set s).take off ++ [AV.set s] ++ (Wcells W ++ U.map fun s => AV.set s).drop (off + 1) = Wcells W ++ U'.map fun s => AV.set s := ho ▸ up_set' h hU
theorem fold_step {U : List Nat} {l : List Int} {j s : Nat} (hj : j < l.length) : (l.drop j).foldl (fun s (p : Int) => s ||| U.getD p.toNat 0) s = (l.drop (j + 1)).foldl (fun s (p : Int) => s ||| U.getD p.toNat 0) (s ||| U.getD (l.getD j default).toNat 0) := by
 rw [List.drop_eq_getElem_cons hj, List.foldl_cons, getD_lt hj]
theorem parent_ok {k j : Nat} {l : List Int} {r : Bool} (hj : j < l.length) (hp : parentsP k (l.take j) (l.drop j) = r) (h : (bif bif decide (l.getD j default < 3) then true else decide (3 + (k : Int) ≤ l.getD j default) then true else (l.take j).contains (l.getD j default)) = false) :
  3 ≤ l.getD j default ∧ l.getD j default < 3 + k ∧ parentsP k (l.take (j + 1)) (l.drop (j + 1)) = r := by
 rw [bif_or, bif_or] at h
 have h0 := h
 simp only [Bool.or_eq_false_iff, decide_eq_false_iff_not] at h0
 refine ⟨by omega, by omega, ?_⟩
 rw [parent_step hj] at hp
 have e : (decide (l.getD j default < 3) || decide (l.getD j default ≥ 3 + (k : Int)) || (l.take j).contains (l.getD j default)) = false := h
 rw [e] at hp
 simpa using hp
theorem parent_no {k j : Nat} {l : List Int} {r : Bool} (hj : j < l.length) (hp : parentsP k (l.take j) (l.drop j) = r) (h : (bif bif decide (l.getD j default < 3) then true else decide (3 + (k : Int) ≤ l.getD j default) then true else (l.take j).contains (l.getD j default)) = true) : r = false := by
 rw [bif_or, bif_or] at h
 rw [parent_step hj] at hp
 have e : (decide (l.getD j default < 3) || decide (l.getD j default ≥ 3 + (k : Int)) || (l.take j).contains (l.getD j default)) = true := h
 rw [e] at hp
 simpa using hp.symm
theorem world_parent_no {W : FW} {k : Nat} (hW : W.parents.length ≤ 60 ∧ W.owner.length ≤ 40) (hk : k < W.parents.length) (hpar : parentssP k (W.parents.drop k) = parentssP 0 W.parents) (h : parentsP k [] (W.parents.getD k default) = false) : worldP W = false := by
 rw [parents_step hk, h] at hpar
 rw [world_val hW, ← hpar]; rfl
theorem u_get {U : List Nat} (hU : ∀ x ∈ U, x < 18446744073709551616) (i : Nat) : U.getD i 0 < 18446744073709551616 := by
 rw [List.getD_eq_getElem?_getD]
 by_cases h : i < U.length
 ·rw [List.getElem?_eq_getElem h]; exact hU _ (List.getElem_mem h)
 ·rw [List.getElem?_eq_none (by omega)]; decide
theorem u_set {U : List Nat} (hU : ∀ x ∈ U, x < 18446744073709551616) {i s : Nat} (hs : s < 18446744073709551616) : ∀ x ∈ U.set i s, x < 18446744073709551616 := by
 intro x hx
 rcases List.mem_or_eq_of_mem_set hx with h | h
 ·exact hU x h
 ·exact h ▸ hs
theorem or64 {s t : Nat} (hs : s < 18446744073709551616) (ht : t < 18446744073709551616) : s ||| t < 18446744073709551616 := Nat.or_lt_two_pow (n := 64) hs ht
theorem pow64 {k : Nat} (h : k < 64) : 2 ^ k < 18446744073709551616 := Nat.pow_lt_pow_right (a := 2) (n := 64) (by omega) h
theorem p105 (W : FW) : PCall Tryz.prog 250 [AV.world W] (.tup [if worldP W then Wptr W else .one, .b (worldP W)]) := by
 intro H
 refine ACall.mk' (n := 91) Tryz.func250 rfl (by kernel_rfl) rfl rfl (fun B I w0 => ?_)
 refine CW.boundA (t := 0) (i := 0) rfl rfl (fun hb0 => ?_)
 refine CW.boundA (t := 0) (i := 1) rfl rfl (fun hb1 => ?_)
 refine S2 ?_; refine Obx ?_; refine Oas ?_; refine Oas ?_; refine S5 ?_; refine Ofa ?_; refine Old ?_; refine Oln ?_; refine Ocm ?_; refine Omv ?_; refine Pfa ?_; refine Pld ?_
 refine Pln ?_; refine Pcm ?_; refine Opk ?_; refine S2 ?_
 refine CW.cond rfl (fun h0 => ?_) (fun h0 => ?_)
 ·
  have hw : worldP W = false := world_big h0
  refine S2 ?_; refine Oas ?_; refine Oas ?_; refine S4 ?_
  refine Done.retR (rs := [.tmp 2, .tmp 3]) (H' := H) rfl (.tmp rfl (.tmp rfl (.nil))) (.cons (AVle.one rfl (fun _ h => by cases h)) (.cons (AVle.refl _) .nil)) (by repeat (first | exact List.Sublist.refl _ | refine List.Sublist.cons _ ?_)) ?_
  exact ⟨by rw [hw]; rfl, rfl⟩
 ·
  have hW := world_small h0
  refine S4 ?_; refine Ola ?_; refine Obd ?_
  refine OL.boxC rfl rfl rfl rfl rfl rfl rfl (fun b0 => ?_)
  refine Oas ?_; refine S5 ?_; refine Omv ?_; refine S3 ?_
  refine lj (fun m st => ∃ k : Nat, st = ⟨[(24, .i k), (4, .p b0 0), (1, .ptr (Wcells W))], .blk b0 309 (Wcells W ++ (U0 k).map fun s => AV.set s) :: H⟩ ∧ m = 3 - k ∧ k ≤ 3) (⟨0, rfl, rfl, by omega⟩) ?_
  rintro m _ ⟨k, rfl, rfl, hk⟩
  refine S2 ?_; refine Ocm ?_; refine S3 ?_
  refine CW.cond rfl (fun h1 => ?_) (fun h1 => ?_)
  ·
   replace h1 := nm h1
   refine S6 ?_; refine Omv ?_; refine Oas ?_; refine S2 ?_
   refine CW.dp mixed ?_
   refine DP.anyC 0 6 91 rfl (by decide +kernel) rfl rfl (by decide +kernel) ?_
   refine Amv ?_; refine Amv ?_; refine Amv ?_
   refine AD.popC rfl rfl rfl (POp.call (.mk' rfl rfl rfl rfl rfl) (p151 1 k (by omega) (by omega))) ?_
   refine Anc ?_; refine Afa ?_
   refine AD.nil ?_
   refine DP.tailC 6 (by decide +kernel) rfl ?_
   refine Oia ?_
   apply OL.stoC rfl rfl rfl rfl rfl rfl rfl rfl rfl rfl
   (case hu => repeat (first | exact Upd.head _ _ _ | apply Upd.tail)); (case hfit => exact up_fit (i := k) (by simp) (by rw [U0_len hk]; omega)); (case hds => exact up_setO (i := k) (by simp) (by rw [U0_len hk]; omega) (U0_set (by omega)))
   refine S4 ?_; refine Oar ?_; refine Omv ?_; refine S1 ?_
   exact ag (⟨k + 1, rfl, rfl, by omega⟩)
  ·
   replace h1 := nm h1
   obtain rfl : k = 3 := by omega
   refine S8 ?_; refine Ofa ?_; refine Old ?_; refine Oln ?_; refine Omv ?_; refine S3 ?_
   refine lj (fun m st => ∃ (k : Nat) (U : List Nat), st = ⟨[(38, .i k), (37, .i W.parents.length), (36, AV.intss W.parents), (4, .p b0 0), (1, .ptr (Wcells W))], .blk b0 309 (Wcells W ++ U.map fun s => AV.set s) :: H⟩ ∧ m = W.parents.length - k ∧ k ≤ W.parents.length ∧ U.length = 63 ∧ (∀ x ∈ U, x < 18446744073709551616) ∧ upsFrom (W.parents.drop k) k U = upsP W ∧ parentssP k (W.parents.drop k) = parentssP 0 W.parents) (⟨0, U0 3, rfl, rfl, by omega, rfl, by decide, rfl, rfl⟩) ?_
   rintro m _ ⟨k, U, rfl, rfl, hk, hlen, hU, hup, hpar⟩
   refine S2 ?_; refine Ocm ?_; refine S3 ?_
   refine CW.cond rfl (fun h2 => ?_) (fun h2 => ?_)
   ·
    replace h2 := nm h2
    refine S6 ?_; refine Omv ?_; refine Oix ?_; refine Old ?_; refine Oas ?_; refine Oas ?_; refine S4 ?_; refine Omv ?_; refine Oar ?_
    refine OL.popC rfl rfl rfl (POp.call (.mk' rfl rfl rfl rfl rfl) (p151 1 (3 + k) (by omega) (by omega))) ?_
    refine Oas ?_; refine S4 ?_
    refine CW.boundM (t := 7) rfl (fun hbl => ?_)
    refine S1 ?_; refine Omv ?_; refine Oln ?_; refine Omv ?_; refine S3 ?_
    refine lj (fun m st => ∃ (j s : Nat), st = ⟨[(48, .i j), (47, .i (W.parents.getD k default).length), (46, AV.ints (W.parents.getD k default)), (8, AV.set s), (6, .i k), (7, AV.ints (W.parents.getD k default)), (38, .i k), (37, .i W.parents.length), (36, AV.intss W.parents), (4, .p b0 0), (1, .ptr (Wcells W))], .blk b0 309 (Wcells W ++ U.map fun s => AV.set s) :: H⟩ ∧ m = (W.parents.getD k default).length - j ∧ j ≤ (W.parents.getD k default).length ∧ s < 18446744073709551616 ∧ ((W.parents.getD k default).drop j).foldl (fun s (p : Int) => s ||| U.getD p.toNat 0) s = upFold U k (W.parents.getD k default) ∧ parentsP k ((W.parents.getD k default).take j) ((W.parents.getD k default).drop j) = parentsP k [] (W.parents.getD k default)) (⟨0, 1 ||| 2 ^ ((3 : Int) + k).toNat, rfl, rfl, by omega, or64 (by omega) (pow64 (by omega)), by rw [show ((3 : Int) + k).toNat = 3 + k from by omega]; rfl, rfl⟩) ?_
    rintro m _ ⟨j, s, rfl, rfl, hj, hs, hf, hp⟩
    refine S2 ?_; refine Ocm ?_; refine S3 ?_
    refine CW.cond rfl (fun h3 => ?_) (fun h3 => ?_)
    ·
     replace h3 := nm h3
     refine S6 ?_; refine Omv ?_; refine Oix ?_; refine Old ?_; refine Oas ?_; refine Oas ?_; refine S5 ?_; refine Omv ?_; refine Ocm ?_; refine Omv ?_; refine Pmv ?_; refine Pmv ?_
     refine Par ?_; refine Pcm ?_; refine Opk ?_; refine Omv ?_; refine Pmv ?_; refine Pmv ?_
     refine OL.guardC rfl rfl rfl rfl rfl rfl (fun hg => POp.slTo rfl rfl (by first | rfl | exact hg | simp_all) rfl (by first | rfl | exact hg | simp_all) (by omega)) ?_
     refine Pmv ?_
     refine OL.guardC rfl rfl rfl rfl rfl rfl (fun hg => POp.call (.mk' rfl rfl rfl rfl (by first | rfl | ((repeat (first | exact hg | rfl | refine Bool.and_eq_true_iff.2 ⟨?_, ?_⟩)); done) | simp_all [strip, constAV])) (p33 _ _)) ?_
     refine Opk ?_; refine S2 ?_
     refine CW.cond rfl (fun h4 => ?_) (fun h4 => ?_)
     ·
      replace h4 := nm h4
      have hw : worldP W = false := world_parent_no hW (by omega) hpar (parent_no (by omega) hp h4)
      refine S2 ?_; refine Oas ?_; refine Oas ?_; refine S14 ?_
      refine Done.retR (rs := [.tmp 2, .tmp 3]) (H' := H) rfl (.tmp rfl (.tmp rfl (.nil))) (.cons (AVle.one rfl (fun _ h => by cases h)) (.cons (AVle.refl _) .nil)) (by repeat (first | exact List.Sublist.refl _ | refine List.Sublist.cons _ ?_)) ?_
      exact ⟨by rw [hw]; rfl, rfl⟩
     ·
      replace h4 := nm h4
      obtain ⟨hp0, hp1, hp2⟩ := parent_ok (by omega) hp h4
      refine S3 ?_; refine Omv ?_; refine Omv ?_; refine Omv ?_; refine Onc ?_; refine Ofa ?_; refine Oia ?_
      refine OL.popC rfl rfl rfl ((by first | exact POp.ld1 rfl rfl rfl rfl | (apply POp.ld1H rfl rfl rfl; (case hm => repeat (first | exact .head _ | refine .tail _ ?_)); (case hy => exact up_get' (i := ((W.parents.getD k default).getD j default).toNat) (by omega) (by omega))))) ?_
      refine OL.popC rfl rfl rfl (POp.bits rfl rfl rfl rfl rfl (bit_or _ _ hs (u_get hU _))) ?_
      refine Oas ?_; refine S4 ?_; refine Oar ?_; refine Omv ?_; refine S1 ?_
      exact ag (⟨j + 1, s ||| U.getD ((W.parents.getD k default).getD j default).toNat 0, rfl, rfl, by omega, or64 hs (u_get hU _), by rw [← fold_step (by omega)]; exact hf, hp2⟩)
    ·
     replace h3 := nm h3
     obtain rfl : j = (W.parents.getD k default).length := by omega
     rw [List.drop_length, List.foldl_nil] at hf
     rw [List.drop_length, List.take_length, parentsP] at hp
     subst hf
     refine S6 ?_; refine Omv ?_; refine Omv ?_; refine Oar ?_; refine Omv ?_; refine Onc ?_; refine Ofa ?_; refine Oia ?_
     apply OL.stoC rfl rfl rfl rfl rfl rfl rfl rfl rfl rfl
     (case hu => repeat (first | exact Upd.head _ _ _ | apply Upd.tail)); (case hfit => exact up_fit (i := 3 + k) (by omega) (by omega)); (case hds => exact up_setO (i := 3 + k) (by omega) (by omega) rfl)
     refine S4 ?_; refine Oar ?_; refine Omv ?_; refine S1 ?_
     exact ag (⟨k + 1, U.set (3 + k) (upFold U k (W.parents.getD k default)), rfl, rfl, by omega, by simp [hlen], u_set hU hs, by rw [← ups_step U (by omega)]; exact hup, by rw [parents_step (by omega), ← hp] at hpar; simpa using hpar⟩)
   ·
    replace h2 := nm h2
    obtain rfl : k = W.parents.length := by omega
    rw [List.drop_length, upsFrom] at hup
    subst hup
    rw [List.drop_length, parentssP] at hpar
    refine S6 ?_
    refine CW.freezeP (d := 4) rfl (by repeat (first | exact Del.head _ _ | apply Del.tail)) ?_
    refine S1 ?_; refine Omv ?_; refine Ofa ?_; refine Old ?_; refine Omv ?_; refine Omf ?_
    refine OL.popC rfl rfl rfl (POp.call (.mk' rfl rfl rfl rfl rfl) (p152 (.of (fun x => p153 W x hW.1)) W.owner)) ?_
    refine Oas ?_; refine Oas ?_; refine S3 ?_
    refine Done.retR (rs := [.tmp 2, .tmp 3]) (H' := H) rfl (.tmp rfl (.tmp rfl (.nil))) (.cons (AVle.ite1 (c := worldP W = true) rfl (fun _ h => by cases h)) (.cons (AVle.refl _) .nil)) (by repeat (first | exact List.Sublist.refl _ | refine List.Sublist.cons _ ?_)) ?_
    exact ⟨by rw [world_val hW, ← hpar]; rfl, rfl⟩
theorem p105t {W : FW} (h : worldP W = true) : PCall Tryz.prog 250 [AV.world W] (.tup [Wptr W, .b true]) := by have := p105 W; rwa [if_pos h, h] at this
theorem p105f {W : FW} (h : worldP W = false) : PCall Tryz.prog 250 [AV.world W] (.tup [.one, .b false]) := by have := p105 W; rwa [if_neg (by simp [h]), h] at this
theorem world_len {W : FW} (h : worldP W = true) : W.parents.length ≤ 60 := by simp [worldP] at h; exact h.1.1.1
theorem p80t {W : FW} (h : worldP W = true) (l : List Fact) : PCall Tryz.prog 229 [AV.world W, AV.facts l] (.tup [Wptr W, .b (l.all (formedP W))]) := by
 intro H
 refine ACall.mk' (n := 20) Tryz.func229 rfl (by kernel_rfl) rfl rfl (fun B I w0 => ?_)
 have hW := world_len h
 refine S2 ?_; refine Obx ?_; refine Oas ?_; refine Oas ?_; refine S4 ?_; refine Ola ?_
 refine OL.popC rfl rfl rfl (POp.call (.mk' rfl rfl rfl rfl rfl) (p105t h)) ?_
 refine Omv ?_; refine Oex ?_; refine Oex ?_; refine Oas ?_; refine Oas ?_; refine S4 ?_; refine Omv ?_; refine Omv ?_; refine Omv ?_; refine Pmv ?_; refine Pmv ?_
 refine OL.guardC rfl rfl rfl rfl rfl rfl (fun hg => POp.call (.mk' rfl rfl rfl rfl (by first | rfl | ((repeat (first | exact hg | rfl | refine Bool.and_eq_true_iff.2 ⟨?_, ?_⟩)); done) | simp_all [strip, constAV])) (p131 W hW l)) ?_
 refine Opk ?_; refine Oas ?_; refine Oas ?_; refine S3 ?_
 refine Done.retR (rs := [.tmp 4, .tmp 5]) (H' := H) rfl (.tmp rfl (.tmp rfl (.nil))) (AVleL.refl _) (by repeat (first | exact List.Sublist.refl _ | refine List.Sublist.cons _ ?_)) ?_
 exact ⟨by first | rfl | exact retI (by simp_all) | exact retB (by simp_all) | simp_all, rfl⟩
theorem p80f {W : FW} (h : worldP W = false) (l : List Fact) : PCall Tryz.prog 229 [AV.world W, AV.facts l] (.tup [.one, .b false]) := by
 intro H
 refine ACall.mk' (n := 20) Tryz.func229 rfl (by kernel_rfl) rfl rfl (fun B I w0 => ?_)
 refine S2 ?_; refine Obx ?_; refine Oas ?_; refine Oas ?_; refine S4 ?_; refine Ola ?_
 refine OL.popC rfl rfl rfl (POp.call (.mk' rfl rfl rfl rfl rfl) (p105f h)) ?_
 refine Omv ?_; refine Oex ?_; refine Oex ?_; refine Oas ?_; refine Oas ?_; refine S4 ?_; refine Omv ?_; refine Omv ?_; refine Omv ?_; refine Pmv ?_; refine Pmv ?_
 refine OL.guardC (x := .b false) rfl rfl rfl rfl rfl rfl (fun hg => absurd hg (by simp)) ?_
 refine Opk ?_; refine Oas ?_; refine Oas ?_; refine S3 ?_
 refine Done.retR (rs := [.tmp 4, .tmp 5]) (H' := H) rfl (.tmp rfl (.tmp rfl (.nil))) (AVleL.refl _) (by repeat (first | exact List.Sublist.refl _ | refine List.Sublist.cons _ ?_)) ?_
 exact ⟨by first | rfl | exact retI (by simp_all) | exact retB (by simp_all) | simp_all, rfl⟩
theorem refused (b : Bool) : PCall Tryz.prog 230 [.b b] (.i (if b then 0 else 2)) := by
 intro H
 refine ACall.mk' (n := 5) Tryz.func230 rfl (by kernel_rfl) rfl rfl (fun B I w0 => ?_)
 refine S2 ?_; refine Oas ?_; refine S5 ?_; refine Omv ?_; refine Ont ?_; refine S2 ?_
 refine CW.cond rfl (fun h0 => ?_) (fun h0 => ?_)
 ·
  replace h0 := nm h0
  refine S2 ?_; refine Oas ?_; refine S4 ?_
  refine r1 2 (H) ?_
  exact ⟨retI (by simp_all), rfl⟩
 ·
  replace h0 := nm h0
  refine S4 ?_; refine Oas ?_; refine S3 ?_
  refine r1 2 (H) ?_
  exact ⟨retI (by simp_all), rfl⟩
theorem factFormedT {W : Fc.FW} (h : worldP W = true) (f : Fact) : PCall Tryz.prog 202 [AV.world W, AV.fact f] (.i (if formedP W f then 0 else 2)) := by
 intro H
 refine ACall.mk' (n := 16) Tryz.func202 rfl (by kernel_rfl) rfl rfl (fun B I w0 => ?_)
 refine S2 ?_; refine Obx ?_; refine Obx ?_; refine Oas ?_; refine S4 ?_; refine Ola ?_; refine Ola ?_
 refine OL.popC rfl rfl rfl (POp.rowK [(_, AV.fact f)] rfl rfl (by first | rfl | simp_all) rfl rfl rfl rfl rfl) ?_
 refine OL.popC rfl rfl rfl (POp.callLe (.mk' rfl rfl rfl rfl rfl) (.cons (.refl _) (.cons (AVle_facts [f] (by rfl)) .nil)) (by have := p80t h [f]; rwa [List.all_cons, List.all_nil, Bool.and_true] at this)) ?_
 refine Omv ?_; refine Oex ?_; refine Oex ?_; refine Oas ?_; refine Oas ?_; refine S4 ?_; refine Omv ?_
 refine OL.popC rfl rfl rfl (POp.call (.mk' rfl rfl rfl rfl rfl) ((refused _))) ?_
 refine Oas ?_; refine S3 ?_
 refine r1 4 (H) ?_
 exact ⟨by first | rfl | exact retI (by simp_all) | exact retB (by simp_all) | simp_all, rfl⟩
theorem factFormedF {W : Fc.FW} (h : worldP W = false) (f : Fact) : PCall Tryz.prog 202 [AV.world W, AV.fact f] (.i 2) := by
 intro H
 refine ACall.mk' (n := 16) Tryz.func202 rfl (by kernel_rfl) rfl rfl (fun B I w0 => ?_)
 refine S2 ?_; refine Obx ?_; refine Obx ?_; refine Oas ?_; refine S4 ?_; refine Ola ?_; refine Ola ?_
 refine OL.popC rfl rfl rfl (POp.rowK [(_, AV.fact f)] rfl rfl (by first | rfl | simp_all) rfl rfl rfl rfl rfl) ?_
 refine OL.popC rfl rfl rfl (POp.callLe (.mk' rfl rfl rfl rfl rfl) (.cons (.refl _) (.cons (AVle_facts [f] (by rfl)) .nil)) (p80f h [f])) ?_
 refine Omv ?_; refine Oex ?_; refine Oex ?_; refine Oas ?_; refine Oas ?_; refine S4 ?_; refine Omv ?_
 refine OL.popC rfl rfl rfl (POp.call (.mk' rfl rfl rfl rfl rfl) ((refused _))) ?_
 refine Oas ?_; refine S3 ?_
 refine r1 4 (H) ?_
 exact ⟨by first | rfl | exact retI (by simp_all) | exact retB (by simp_all) | simp_all, rfl⟩
theorem keepI {f : Fn} {fs cs : List AV} {p : Int → Bool} (hg : PredOk Tryz.prog (.fn f fs cs) AV.i p) (l : List Int) (hl : l.length ≤ 1000000) : PCall Tryz.prog 303 [AV.ints l, .fn f fs cs] (AV.ints (l.filter p)) := by
 intro H
 refine ACall.mk' (n := 23) Tryz.func303 rfl (by kernel_rfl) rfl rfl (fun B I w0 => ?_)
 refine S2 ?_; refine Oas ?_; refine S4 ?_; refine Oas ?_; refine S4 ?_
 refine CW.ownNil 5 3 1 rfl ?_
 refine S1 ?_; refine Omv ?_; refine Oln ?_; refine Omv ?_; refine S3 ?_
 refine lj (fun m st => ∃ (i : Nat) (v : Value), st = ⟨[(10, .i i), (9, .i l.length), (8, AV.ints l), (1, .fn f fs cs), (5, .as (AV.ints ((l.take i).filter p)) v)], .own 3 1 v :: H⟩ ∧ m = l.length - i ∧ i ≤ l.length) (⟨0, _, rfl, rfl, by omega⟩) ?_
 rintro m _ ⟨i, v, rfl, rfl, hi⟩
 refine S2 ?_; refine Ocm ?_; refine S3 ?_
 refine CW.cond rfl (fun h0 => ?_) (fun h0 => ?_)
 ·
  replace h0 := nm h0
  have hil : i < l.length := by omega
  refine S6 ?_
  refine OL.popC rfl rfl rfl ((by first | exact POp.ixM rfl rfl rfl rfl rfl hil | exact POp.ixI rfl rfl rfl rfl rfl hil)) ?_
  refine Old ?_; refine Oas ?_; refine S4 ?_; refine Omv ?_; refine Omv ?_
  refine OL.vcallC rfl rfl rfl rfl rfl rfl rfl rfl (AVleL.refl _) (hg B _ _) ?_
  rintro _ _ ⟨rfl, rfl⟩
  refine S2 ?_
  refine CW.cond rfl (fun h1 => ?_) (fun h1 => ?_)
  ·
   replace h1 := nm h1
   refine S1 ?_; refine Omv ?_; refine Omv ?_
   refine OL.popC (x := .sl 1 [[.i (l.getD i default)]]) rfl rfl rfl (POp.row rfl rfl (by first | rfl | simp_all [strip]) rfl rfl rfl rfl rfl rfl) ?_
   refine OL.appendC rfl rfl rfl rfl rfl rfl rfl rfl (AVle.refl _) (rfl) (fun v => by repeat (first | exact Upd.head _ _ _ | apply Upd.tail)) (by have h9 := List.length_filter_le p (l.take i); simp only [List.length_map, List.length_take, List.length_singleton, List.length_cons, List.length_nil] at *; omega) (by have h9 := List.length_filter_le p (l.take i); simp only [List.length_map, List.length_take, List.length_singleton, List.length_cons, List.length_nil] at *; omega) (fun v20 => ?_)
   refine Oas ?_; refine S4 ?_; refine Oar ?_; refine Omv ?_; refine S1 ?_
   exact ag (⟨i + 1, v20, by rw [filter_yes hil h1], rfl, hil⟩)
  ·
   replace h1 := nm h1
   refine S4 ?_; refine Oar ?_; refine Omv ?_; refine S1 ?_
   exact ag (⟨i + 1, v, by rw [filter_no hil h1], rfl, hil⟩)
 ·
  replace h0 := nm h0
  obtain rfl : i = l.length := by omega
  rw [List.take_length]
  refine S7 ?_; refine Omv ?_; refine Oas ?_; refine S3 ?_
  refine Done.retR (rs := [.tmp 4]) (H' := H) rfl (.tmp rfl (.nil)) (.cons (AVle.asL _ _) .nil) (by repeat (first | exact List.Sublist.refl _ | refine List.Sublist.cons _ ?_)) ?_
  exact ⟨by first | rfl | exact retI (by simp_all) | exact retB (by simp_all) | simp_all, rfl⟩
theorem bare1 (n : Int) : PCall Tryz.prog 308 [.i n] (.b (n != 0)) := by
 intro H
 refine ACall.mk' (n := 5) Tryz.func308 rfl (by kernel_rfl) rfl rfl (fun B I w0 => ?_)
 refine S2 ?_; refine Oas ?_; refine S4 ?_; refine Omv ?_; refine Ocm ?_; refine Oas ?_; refine S3 ?_
 refine r1 2 (H) ?_
 exact ⟨by first | rfl | exact retI (by simp_all) | exact retB (by simp_all) | simp_all, rfl⟩
theorem bareC (l : List Int) (hl : l.length ≤ 1000000) : PCall Tryz.prog 302 [AV.ints l] (AV.ints (bareL l)) := by
 intro H
 refine ACall.mk' (n := 5) Tryz.func302 rfl (by kernel_rfl) rfl rfl (fun B I w0 => ?_)
 refine S2 ?_; refine Oas ?_; refine S4 ?_; refine Omv ?_
 refine OL.popC rfl rfl rfl (POp.call (.mk' rfl rfl rfl rfl rfl) (keepI (.of bare1) l hl)) ?_
 refine Oas ?_; refine S3 ?_
 refine r1 2 (H) ?_
 exact ⟨by first | rfl | exact retI (by simp_all) | exact retB (by simp_all) | simp_all, rfl⟩
theorem merge1 (h n : Int) : PCall Tryz.prog 304 [.i n, .ptr [.i h]] (.b (n != h)) := by
 intro H
 refine ACall.mk' (n := 7) Tryz.func304 rfl (by kernel_rfl) rfl rfl (fun B I w0 => ?_)
 refine S2 ?_; refine Oas ?_; refine S4 ?_; refine Omv ?_; refine Old ?_; refine Ocm ?_; refine Oas ?_; refine S3 ?_
 refine r1 3 (H) ?_
 exact ⟨by first | rfl | exact retI (by simp_all) | exact retB (by simp_all) | simp_all, rfl⟩
end Go.Proofs.YtpgnjlngepfanaaGreat
