/- Part 10 of the proof: contracts of functions of the program and what they need. No condition beyond those that each theorem names. -/
import Derived.Test.YtiljpbljebfhnaaGreatMdP9
import Derived.ProofKit
set_option linter.unusedVariables false
set_option linter.unusedSimpArgs false
set_option maxRecDepth 10000
namespace Go.Proofs.YtiljpbljebfhnaaGreat
open Go.Eng
open Go.Eng.Fc
theorem good2_imp {a b : Fact} (h : goodP W0 [a, b] = true) : impF W0 a b = impC W0 a b :=
 imp_eq (good_w h) (good_f h (.head _)).1 (good_f h (.tail _ (.head _))).1 (Nat.le_trans (good_f h (.head _)).2 (by omega)) (Nat.le_trans (good_f h (.tail _ (.head _))).2 (by omega))
theorem good1_can {W : FW} {f : Fact} (h : goodP W [f] = true) : canF W f = canC W f :=
 can_eq (good_of (good_w h) (good_f h (.head _)).1 (Nat.le_trans (good_f h (.head _)).2 (by omega)))
theorem p44k (a b : Fact) (want : Bool) (h : goodP W0 [a, b] = true) (hv : impC W0 a b = want) : PCall Tryz.prog 44 [AV.fact a, AV.fact b, .b want] (.b true) := by
 intro H
 refine ACall.mk' (n := 23) Tryz.func44 rfl (by kernel_rfl) rfl rfl (fun B I w0 => ?_)
 refine S2 ?_; refine Obx ?_; refine Obx ?_; refine Oas ?_; refine S3 ?_
 refine CW.dp mixed ?_
 refine DP.anyC 0 3 23 rfl (by decide +kernel) rfl rfl (by decide +kernel) ?_
 refine AD.popC rfl rfl rfl (POp.call (.mk' rfl rfl rfl rfl rfl) (p34)) ?_
 refine Ala ?_; refine Ala ?_
 refine AD.nil ?_
 refine DP.one (k := 3) (by decide +kernel) rfl ?_
 refine OL.popC rfl rfl rfl (POp.call (.mk' rfl rfl rfl rfl rfl) (p24g h)) ?_
 refine OL.nil (Done.dp ?_)
 refine DP.one (k := 4) (by decide +kernel) rfl ?_
 refine Omv ?_
 refine OL.nil (Done.dp ?_)
 refine DP.anyC 5 8 23 rfl (by decide +kernel) rfl rfl (by decide +kernel) ?_
 refine Aex ?_; refine Aex ?_; refine Aas ?_
 refine AD.nil ?_
 refine DP.tailC 8 (by decide +kernel) rfl ?_
 refine Oas ?_; refine S4 ?_; refine Omv ?_; refine Ocm ?_; refine Omv ?_; refine Pmv ?_; refine Pmv ?_; refine Peb ?_; refine Opk ?_; refine Oas ?_; refine S3 ?_
 refine r1 6 (H) ?_
 exact ⟨retB (by rw [good2_imp h, hv]; simp), rfl⟩
theorem p46k (f : Fact) (want : Bool) (h : goodP W0 [f] = true) (hv : canC W0 f = want) : PCall Tryz.prog 46 [AV.fact f, .b want] (.b true) := by
 intro H
 refine ACall.mk' (n := 20) Tryz.func46 rfl (by kernel_rfl) rfl rfl (fun B I w0 => ?_)
 refine S2 ?_; refine Obx ?_; refine Oas ?_; refine S3 ?_
 refine CW.dp mixed ?_
 refine DP.anyC 0 2 20 rfl (by decide +kernel) rfl rfl (by decide +kernel) ?_
 refine AD.popC rfl rfl rfl (POp.call (.mk' rfl rfl rfl rfl rfl) (p34)) ?_
 refine Ala ?_
 refine AD.nil ?_
 refine DP.one (k := 2) (by decide +kernel) rfl ?_
 refine OL.popC rfl rfl rfl (POp.call (.mk' rfl rfl rfl rfl rfl) (p18g h)) ?_
 refine OL.nil (Done.dp ?_)
 refine DP.one (k := 3) (by decide +kernel) rfl ?_
 refine Omv ?_
 refine OL.nil (Done.dp ?_)
 refine DP.anyC 4 7 20 rfl (by decide +kernel) rfl rfl (by decide +kernel) ?_
 refine Aex ?_; refine Aex ?_; refine Aas ?_
 refine AD.nil ?_
 refine DP.tailC 7 (by decide +kernel) rfl ?_
 refine Oas ?_; refine S4 ?_; refine Omv ?_; refine Ocm ?_; refine Omv ?_; refine Pmv ?_; refine Pmv ?_; refine Peb ?_; refine Opk ?_; refine Oas ?_; refine S3 ?_
 refine r1 4 (H) ?_
 exact ⟨retB (by rw [good1_can h, hv]; simp), rfl⟩
theorem p40k1 : PCall Tryz.prog 40 [AV.world W0, .i 6, .i 3] (.tup [.b true, .i 0]) := by
 have := p40g w0_ok (a := 6) (b := 3) (by decide +kernel); rwa [show belowP W0 6 3 = true by decide +kernel] at this
theorem p40k2 : PCall Tryz.prog 40 [AV.world W0, .i 4, .i 5] (.tup [.b false, .i 0]) := by
 have := p40g w0_ok (a := 4) (b := 5) (by decide +kernel); rwa [show belowP W0 4 5 = false by decide +kernel] at this
theorem p40k3 : PCall Tryz.prog 40 [AV.world W0, .i 7, .i 3] (.tup [.b false, .i 2]) := p40c w0_ok (by decide +kernel)
theorem p17k : PCall Tryz.prog 17 [AV.world W0, AV.fact (andF (isF 1 []) (orF (lessF 3 []) (isF 3 [])))] (.tup [AV.factss [[isF 1 [], lessF 3 []]], .i 0]) := by
 have h : goodP W0 [andF (isF 1 []) (orF (lessF 3 []) (isF 3 []))] = true := by decide +kernel
 have := p17g h
 rwa [cases_eq (fun c hc => (good_of (good_w h) (good_f h (.head _)).1 (Nat.le_trans (good_f h (.head _)).2 (by omega))).case false c hc), k12] at this
theorem all_no {W : FW} (hw : worldP W = true) {a b : Fact} (h : goodP W [a, b] = true) (hk : (impCases a b).all (fun c => !together2 W c) = true) : ∀ c ∈ impCases a b, togetherK W c = false := fun c hc => by
 rw [case_two ((imp_good hw (good_f h (.head _)).1 (good_f h (.tail _ (.head _))).1 (good_f h (.head _)).2 (good_f h (.tail _ (.head _))).2).case false c hc)]
 simpa using List.all_eq_true.1 hk c hc
theorem proof_eq {W : FW} (hw : worldP W = true) {a b : Fact} (h : goodP W [a, b] = true) : (impCases a b).map (minC W) = (impCases a b).map (minC2 W) :=
 List.map_congr_left fun c hc => min_eq ((imp_good hw (good_f h (.head _)).1 (good_f h (.tail _ (.head _))).1 (good_f h (.head _)).2 (good_f h (.tail _ (.head _))).2).case false c hc)
theorem p35k : PCall Tryz.prog 35 [AV.world W0, AV.fact (isF 4 []), AV.fact (isF 3 [])] (.tup [AV.intss [[0, 1]], .i 0]) := by
 have h : goodP W0 [isF 4 [], isF 3 []] = true := by decide +kernel
 have := p35g h k13.2.2 (all_no w0_ok h k13.2.1)
 rwa [proof_eq w0_ok h, k13.1] at this
theorem p27k {f g : Fact} (h : goodP W0 [f] = true) (hv : shortF2 W0 f = g) : PCall Tryz.prog 27 [AV.world W0, AV.fact f] (.tup [AV.fact g, .i 0]) := by
 have := p27g h
 have hf := good_f h (.head _)
 rwa [short_eq w0_ok hf.1 (Nat.le_trans (wt_nodes f) (by omega)), hv] at this
theorem p23k (a : List (List Fact)) : PCall Tryz.prog 23 [AV.factss a, AV.factss a] (.b true) := by have := p23 a a; simpa using this
theorem p56k (a : List (List Int)) : PCall Tryz.prog 56 [AV.intss a, AV.intss a] (.b true) := by have := p56 a a; simpa using this
theorem p28k (a : Fact) : PCall Tryz.prog 28 [AV.fact a, AV.fact a] (.b true) := by have := p28 a a; simpa using this
theorem p21 : PCall Tryz.prog 21 [] (.b true) := by
 intro H
 refine ACall.mk' (n := 194) Tryz.func21 rfl (by kernel_rfl) rfl rfl (fun B I w0 => ?_)
 refine S2 ?_; refine Oas ?_; refine S4 ?_
 refine OL.popC rfl rfl rfl (POp.call (.mk' rfl rfl rfl rfl rfl) (p34)) ?_
 refine OL.alC rfl rfl rfl rfl (fun wb => ?_)
 refine Sto ?_; refine S3 ?_
 refine CW.freezeP (d := 1) rfl (.head _ _) ?_
 refine S1 ?_; refine Ola ?_
 refine OL.popC rfl rfl rfl (POp.call (.mk' rfl rfl rfl rfl rfl) (p40k1)) ?_
 refine Omv ?_; refine Oex ?_; refine Oex ?_; refine Oas ?_; refine Oas ?_; refine S4 ?_; refine Ola ?_
 refine OL.popC rfl rfl rfl (POp.call (.mk' rfl rfl rfl rfl rfl) (p40k2)) ?_
 refine Omv ?_; refine Oex ?_; refine Oex ?_; refine Oas ?_; refine Oas ?_; refine S4 ?_; refine Ola ?_
 refine OL.popC rfl rfl rfl (POp.call (.mk' rfl rfl rfl rfl rfl) (p40k3)) ?_
 refine Omv ?_; refine Oex ?_; refine Oex ?_; refine Oas ?_; refine Oas ?_; refine S5 ?_; refine Omv ?_; refine Ocm ?_; refine Omv ?_; refine Pmv ?_; refine Pcm ?_; refine Opk ?_
 refine Omv ?_; refine Pmv ?_; refine Pcm ?_; refine Opk ?_; refine Omv ?_; refine Pmv ?_; refine Pnt ?_; refine Opk ?_; refine Omv ?_; refine Pmv ?_; refine Opk ?_; refine S2 ?_
 refine CW.cond rfl (fun h0 => ?_) (fun h0 => ?_)
 ·
  exact absurd h0 (by decide)
 ·
  refine S5 ?_
  refine OL.popC rfl rfl rfl (POp.callLe (.mk' rfl rfl rfl rfl rfl) (.cons (.refl _) (.cons (AVle.nil 1) .nil)) (p37 4 [])) ?_
  refine OL.popC rfl rfl rfl (POp.callLe (.mk' rfl rfl rfl rfl rfl) (.cons (.refl _) (.cons (AVle.nil 1) .nil)) (p37 3 [])) ?_
  refine OL.popC rfl rfl rfl (POp.call (.mk' rfl rfl rfl rfl rfl) (p44k (isF 4 []) (isF 3 []) true (by decide +kernel) k1)) ?_
  refine Ont ?_; refine Omv ?_
  refine OL.guardC rfl rfl rfl rfl rfl rfl (fun hg => POp.callLe (.mk' rfl rfl rfl rfl rfl) (.cons (.refl _) (.cons (AVle.nil 1) .nil)) (p37 4 [])) ?_
  refine OL.guardC rfl rfl rfl rfl rfl rfl (fun hg => POp.callLe (.mk' rfl rfl rfl rfl rfl) (.cons (.refl _) (.cons (AVle.nil 1) .nil)) (p37 5 [])) ?_
  refine OL.guardC rfl rfl rfl rfl rfl rfl (fun hg => POp.call (.mk' rfl rfl rfl rfl (by first | rfl | ((repeat (first | exact hg | rfl | refine Bool.and_eq_true_iff.2 ⟨?_, ?_⟩)); done) | simp_all [strip, constAV])) ((p88 _ _))) ?_
  refine OL.guardC rfl rfl rfl rfl rfl rfl (fun hg => POp.callLe (.mk' rfl rfl rfl rfl rfl) (.cons (.refl _) (.cons (AVle.nil 1) .nil)) (p37 6 [])) ?_
  refine OL.guardC rfl rfl rfl rfl rfl rfl (fun hg => POp.call (.mk' rfl rfl rfl rfl (by first | rfl | ((repeat (first | exact hg | rfl | refine Bool.and_eq_true_iff.2 ⟨?_, ?_⟩)); done) | simp_all [strip, constAV])) (p44k (andF (isF 4 []) (isF 5 [])) (isF 6 []) false (by decide +kernel) k2)) ?_
  refine Pnt ?_; refine Opk ?_; refine Omv ?_
  refine OL.guardC rfl rfl rfl rfl rfl rfl (fun hg => POp.row rfl rfl (by first | rfl | simp_all [strip]) rfl rfl rfl rfl rfl rfl) ?_
  refine OL.guardC rfl rfl rfl rfl rfl rfl (fun hg => POp.call (.mk' rfl rfl rfl rfl (by first | rfl | ((repeat (first | exact hg | rfl | refine Bool.and_eq_true_iff.2 ⟨?_, ?_⟩)); done) | simp_all [strip, constAV])) (p43 7 [0])) ?_
  refine OL.guardC rfl rfl rfl rfl rfl rfl (fun hg => POp.callLe (.mk' rfl rfl rfl rfl rfl) (.cons (.refl _) (.cons (AVle.nil 1) .nil)) (p37 3 [])) ?_
  refine OL.guardC rfl rfl rfl rfl rfl rfl (fun hg => POp.call (.mk' rfl rfl rfl rfl (by first | rfl | ((repeat (first | exact hg | rfl | refine Bool.and_eq_true_iff.2 ⟨?_, ?_⟩)); done) | simp_all [strip, constAV])) (p44k (lessF 7 [0]) (isF 3 []) true (by decide +kernel) k3)) ?_
  refine Pnt ?_; refine Opk ?_; refine Omv ?_
  refine OL.guardC rfl rfl rfl rfl rfl rfl (fun hg => POp.callLe (.mk' rfl rfl rfl rfl rfl) (.cons (.refl _) (.cons (AVle.nil 1) .nil)) (p43 3 [])) ?_
  refine OL.guardC rfl rfl rfl rfl rfl rfl (fun hg => POp.callLe (.mk' rfl rfl rfl rfl rfl) (.cons (.refl _) (.cons (AVle.nil 1) .nil)) (p43 4 [])) ?_
  refine OL.guardC rfl rfl rfl rfl rfl rfl (fun hg => POp.call (.mk' rfl rfl rfl rfl (by first | rfl | ((repeat (first | exact hg | rfl | refine Bool.and_eq_true_iff.2 ⟨?_, ?_⟩)); done) | simp_all [strip, constAV])) (p44k (lessF 3 []) (lessF 4 []) true (by decide +kernel) k4)) ?_
  refine Pnt ?_; refine Opk ?_; refine Omv ?_
  refine OL.guardC rfl rfl rfl rfl rfl rfl (fun hg => POp.callLe (.mk' rfl rfl rfl rfl rfl) (.cons (.refl _) (.cons (AVle.nil 1) .nil)) (p43 3 [])) ?_
  refine OL.guardC rfl rfl rfl rfl rfl rfl (fun hg => POp.call (.mk' rfl rfl rfl rfl (by first | rfl | ((repeat (first | exact hg | rfl | refine Bool.and_eq_true_iff.2 ⟨?_, ?_⟩)); done) | simp_all [strip, constAV])) ((p89 _))) ?_
  refine OL.guardC rfl rfl rfl rfl rfl rfl (fun hg => POp.callLe (.mk' rfl rfl rfl rfl rfl) (.cons (.refl _) (.cons (AVle.nil 1) .nil)) (p37 1 [])) ?_
  refine OL.guardC rfl rfl rfl rfl rfl rfl (fun hg => POp.call (.mk' rfl rfl rfl rfl (by first | rfl | ((repeat (first | exact hg | rfl | refine Bool.and_eq_true_iff.2 ⟨?_, ?_⟩)); done) | simp_all [strip, constAV])) (p44k (notF (lessF 3 [])) (isF 1 []) false (by decide +kernel) k5)) ?_
  refine Pnt ?_; refine Opk ?_; refine Omv ?_
  refine OL.guardC rfl rfl rfl rfl rfl rfl (fun hg => POp.callLe (.mk' rfl rfl rfl rfl rfl) (.cons (.refl _) (.cons (AVle.nil 1) .nil)) (p43 4 [])) ?_
  refine OL.guardC rfl rfl rfl rfl rfl rfl (fun hg => POp.callLe (.mk' rfl rfl rfl rfl rfl) (.cons (.refl _) (.cons (AVle.nil 1) .nil)) (p45 3 [])) ?_
  refine OL.guardC rfl rfl rfl rfl rfl rfl (fun hg => POp.call (.mk' rfl rfl rfl rfl (by first | rfl | ((repeat (first | exact hg | rfl | refine Bool.and_eq_true_iff.2 ⟨?_, ?_⟩)); done) | simp_all [strip, constAV])) ((p89 _))) ?_
  refine OL.guardC rfl rfl rfl rfl rfl rfl (fun hg => POp.call (.mk' rfl rfl rfl rfl (by first | rfl | ((repeat (first | exact hg | rfl | refine Bool.and_eq_true_iff.2 ⟨?_, ?_⟩)); done) | simp_all [strip, constAV])) ((p88 _ _))) ?_
  refine OL.guardC rfl rfl rfl rfl rfl rfl (fun hg => POp.callLe (.mk' rfl rfl rfl rfl rfl) (.cons (.refl _) (.cons (AVle.nil 1) .nil)) (p43 3 [])) ?_
  refine OL.guardC rfl rfl rfl rfl rfl rfl (fun hg => POp.call (.mk' rfl rfl rfl rfl (by first | rfl | ((repeat (first | exact hg | rfl | refine Bool.and_eq_true_iff.2 ⟨?_, ?_⟩)); done) | simp_all [strip, constAV])) (p44k (andF (lessF 4 []) (notF (eqF 3 []))) (lessF 3 []) true (by decide +kernel) k6)) ?_
  refine Pnt ?_; refine Opk ?_; refine Omv ?_
  refine OL.guardC rfl rfl rfl rfl rfl rfl (fun hg => POp.callLe (.mk' rfl rfl rfl rfl rfl) (.cons (.refl _) (.cons (AVle.nil 1) .nil)) (p37 3 [])) ?_
  refine OL.guardC rfl rfl rfl rfl rfl rfl (fun hg => POp.row rfl rfl (by first | rfl | simp_all [strip]) rfl rfl rfl rfl rfl rfl) ?_
  refine OL.guardC rfl rfl rfl rfl rfl rfl (fun hg => POp.call (.mk' rfl rfl rfl rfl (by first | rfl | ((repeat (first | exact hg | rfl | refine Bool.and_eq_true_iff.2 ⟨?_, ?_⟩)); done) | simp_all [strip, constAV])) (p37 0 [0])) ?_
  refine OL.guardC rfl rfl rfl rfl rfl rfl (fun hg => POp.call (.mk' rfl rfl rfl rfl (by first | rfl | ((repeat (first | exact hg | rfl | refine Bool.and_eq_true_iff.2 ⟨?_, ?_⟩)); done) | simp_all [strip, constAV])) (p44k (isF 3 []) (isF 0 [0]) true (by decide +kernel) k7)) ?_
  refine Pnt ?_; refine Opk ?_; refine S2 ?_
  refine CW.cond rfl (fun h1 => ?_) (fun h1 => ?_)
  ·
   exact absurd h1 (by decide)
  ·
   refine S5 ?_
   refine OL.popC rfl rfl rfl (POp.callLe (.mk' rfl rfl rfl rfl rfl) (.cons (.refl _) (.cons (AVle.nil 1) .nil)) (p37 1 [])) ?_
   refine OL.popC rfl rfl rfl (POp.row rfl rfl (by first | rfl | simp_all [strip]) rfl rfl rfl rfl rfl rfl) ?_
   refine OL.popC rfl rfl rfl (POp.call (.mk' rfl rfl rfl rfl rfl) (p37 0 [0])) ?_
   refine OL.popC rfl rfl rfl (POp.call (.mk' rfl rfl rfl rfl rfl) ((p88 _ _))) ?_
   refine OL.popC rfl rfl rfl (POp.call (.mk' rfl rfl rfl rfl rfl) (p46k (andF (isF 1 []) (isF 0 [0])) false (by decide +kernel) k8)) ?_
   refine Ont ?_; refine Omv ?_
   refine OL.guardC rfl rfl rfl rfl rfl rfl (fun hg => POp.callLe (.mk' rfl rfl rfl rfl rfl) (.cons (.refl _) (.cons (AVle.nil 1) .nil)) (p37 4 [])) ?_
   refine OL.guardC rfl rfl rfl rfl rfl rfl (fun hg => POp.callLe (.mk' rfl rfl rfl rfl rfl) (.cons (.refl _) (.cons (AVle.nil 1) .nil)) (p37 5 [])) ?_
   refine OL.guardC rfl rfl rfl rfl rfl rfl (fun hg => POp.call (.mk' rfl rfl rfl rfl (by first | rfl | ((repeat (first | exact hg | rfl | refine Bool.and_eq_true_iff.2 ⟨?_, ?_⟩)); done) | simp_all [strip, constAV])) ((p88 _ _))) ?_
   refine OL.guardC rfl rfl rfl rfl rfl rfl (fun hg => POp.call (.mk' rfl rfl rfl rfl (by first | rfl | ((repeat (first | exact hg | rfl | refine Bool.and_eq_true_iff.2 ⟨?_, ?_⟩)); done) | simp_all [strip, constAV])) (p46k (andF (isF 4 []) (isF 5 [])) true (by decide +kernel) k9)) ?_
   refine Pnt ?_; refine Opk ?_; refine Omv ?_
   refine OL.guardC rfl rfl rfl rfl rfl rfl (fun hg => POp.row rfl rfl (by first | rfl | simp_all [strip]) rfl rfl rfl rfl rfl rfl) ?_
   refine OL.guardC rfl rfl rfl rfl rfl rfl (fun hg => POp.call (.mk' rfl rfl rfl rfl (by first | rfl | ((repeat (first | exact hg | rfl | refine Bool.and_eq_true_iff.2 ⟨?_, ?_⟩)); done) | simp_all [strip, constAV])) (p37 1 [0, 1])) ?_
   refine OL.guardC rfl rfl rfl rfl rfl rfl (fun hg => POp.call (.mk' rfl rfl rfl rfl (by first | rfl | ((repeat (first | exact hg | rfl | refine Bool.and_eq_true_iff.2 ⟨?_, ?_⟩)); done) | simp_all [strip, constAV])) (p46k (isF 1 [0, 1]) true (by decide +kernel) k10)) ?_
   refine Pnt ?_; refine Opk ?_; refine Omv ?_
   refine OL.guardC rfl rfl rfl rfl rfl rfl (fun hg => POp.callLe (.mk' rfl rfl rfl rfl rfl) (.cons (.refl _) (.cons (AVle.nil 1) .nil)) (p37 5 [])) ?_
   refine OL.guardC rfl rfl rfl rfl rfl rfl (fun hg => POp.row rfl rfl (by first | rfl | simp_all [strip]) rfl rfl rfl rfl rfl rfl) ?_
   refine OL.guardC rfl rfl rfl rfl rfl rfl (fun hg => POp.call (.mk' rfl rfl rfl rfl (by first | rfl | ((repeat (first | exact hg | rfl | refine Bool.and_eq_true_iff.2 ⟨?_, ?_⟩)); done) | simp_all [strip, constAV])) (p37 0 [1])) ?_
   refine OL.guardC rfl rfl rfl rfl rfl rfl (fun hg => POp.call (.mk' rfl rfl rfl rfl (by first | rfl | ((repeat (first | exact hg | rfl | refine Bool.and_eq_true_iff.2 ⟨?_, ?_⟩)); done) | simp_all [strip, constAV])) ((p89 _))) ?_
   refine OL.guardC rfl rfl rfl rfl rfl rfl (fun hg => POp.call (.mk' rfl rfl rfl rfl (by first | rfl | ((repeat (first | exact hg | rfl | refine Bool.and_eq_true_iff.2 ⟨?_, ?_⟩)); done) | simp_all [strip, constAV])) ((p88 _ _))) ?_
   refine OL.guardC rfl rfl rfl rfl rfl rfl (fun hg => POp.call (.mk' rfl rfl rfl rfl (by first | rfl | ((repeat (first | exact hg | rfl | refine Bool.and_eq_true_iff.2 ⟨?_, ?_⟩)); done) | simp_all [strip, constAV])) (p46k (andF (isF 5 []) (notF (isF 0 [1]))) false (by decide +kernel) k11)) ?_
   refine Pnt ?_; refine Opk ?_; refine S2 ?_
   refine CW.cond rfl (fun h2 => ?_) (fun h2 => ?_)
   ·
    exact absurd h2 (by decide)
   ·
    refine S3 ?_
    refine CW.dp mixed ?_
    refine DP.anyC 0 6 194 rfl (by decide +kernel) rfl rfl (by decide +kernel) ?_
    refine Ala ?_
    refine AD.popC rfl rfl rfl (POp.callLe (.mk' rfl rfl rfl rfl rfl) (.cons (.refl _) (.cons (AVle.nil 1) .nil)) (p37 1 [])) ?_
    refine AD.popC rfl rfl rfl (POp.callLe (.mk' rfl rfl rfl rfl rfl) (.cons (.refl _) (.cons (AVle.nil 1) .nil)) (p43 3 [])) ?_
    refine AD.popC rfl rfl rfl (POp.callLe (.mk' rfl rfl rfl rfl rfl) (.cons (.refl _) (.cons (AVle.nil 1) .nil)) (p37 3 [])) ?_
    refine AD.popC rfl rfl rfl (POp.call (.mk' rfl rfl rfl rfl rfl) ((p90 _ _))) ?_
    refine AD.popC rfl rfl rfl (POp.call (.mk' rfl rfl rfl rfl rfl) ((p88 _ _))) ?_
    refine AD.nil ?_
    refine DP.one (k := 6) (by decide +kernel) rfl ?_
    refine OL.popC rfl rfl rfl (POp.call (.mk' rfl rfl rfl rfl rfl) (p17k)) ?_
    refine OL.nil (Done.dp ?_)
    refine DP.one (k := 7) (by decide +kernel) rfl ?_
    refine Omv ?_
    refine OL.nil (Done.dp ?_)
    refine DP.anyC 8 11 194 rfl (by decide +kernel) rfl rfl (by decide +kernel) ?_
    refine Aex ?_; refine Aex ?_; refine Aas ?_
    refine AD.nil ?_
    refine DP.tailC 11 (by decide +kernel) rfl ?_
    refine Oas ?_; refine S3 ?_
    refine CW.dp mixed ?_
    refine DP.anyC 0 3 194 rfl (by decide +kernel) rfl rfl (by decide +kernel) ?_
    refine Ala ?_
    refine AD.popC rfl rfl rfl (POp.callLe (.mk' rfl rfl rfl rfl rfl) (.cons (.refl _) (.cons (AVle.nil 1) .nil)) (p37 4 [])) ?_
    refine AD.popC rfl rfl rfl (POp.callLe (.mk' rfl rfl rfl rfl rfl) (.cons (.refl _) (.cons (AVle.nil 1) .nil)) (p37 3 [])) ?_
    refine AD.nil ?_
    refine DP.one (k := 3) (by decide +kernel) rfl ?_
    refine OL.popC rfl rfl rfl (POp.call (.mk' rfl rfl rfl rfl rfl) (p35k)) ?_
    refine OL.nil (Done.dp ?_)
    refine DP.one (k := 4) (by decide +kernel) rfl ?_
    refine Omv ?_
    refine OL.nil (Done.dp ?_)
    refine DP.anyC 5 8 194 rfl (by decide +kernel) rfl rfl (by decide +kernel) ?_
    refine Aex ?_; refine Aex ?_; refine Aas ?_
    refine AD.nil ?_
    refine DP.tailC 8 (by decide +kernel) rfl ?_
    refine Oas ?_; refine S3 ?_
    refine CW.dp mixed ?_
    refine DP.anyAC (fun sj b => match sj with | 0 => .blk b 29 [.i 0, .i 0, .val (.slice none 0 0), .i 0, .i 0, .val (.slice none 0 0)] :: H | _ => .blk b 29 (Fcells (isF 4 [])) :: H) 10 [8, 9] 1 0 10 194 rfl (by decide +kernel) rfl rfl rfl rfl (by decide +kernel) ?_
    refine TD.popA (by decide +kernel) rfl rfl rfl rfl (fun _ => (by first | exact POp.ldA rfl rfl rfl rfl | (apply POp.ldAH rfl rfl rfl; (case hm => repeat (first | exact .head _ | refine .tail _ ?_)); (case hy => rfl); (case hn => rfl)))) ?_
    refine TD.popA (by decide +kernel) rfl rfl rfl rfl (fun _ => POp.callLe (.mk' rfl rfl rfl rfl rfl) (.cons (.refl _) (.cons (AVle.nil 1) .nil)) (p37 4 [])) ?_
    refine TD.popA (by decide +kernel) rfl rfl rfl rfl (fun _ => POp.callLe (.mk' rfl rfl rfl rfl rfl) (.cons (.refl _) (.cons (AVle.nil 1) .nil)) (p37 3 [])) ?_
    refine TD.popA (by decide +kernel) rfl rfl rfl rfl (fun _ => POp.call (.mk' rfl rfl rfl rfl rfl) ((p88 _ _))) ?_
    refine TD.popA (by decide +kernel) rfl rfl rfl rfl (fun _ => POp.call (.mk' rfl rfl rfl rfl rfl) (p27k (by decide +kernel) k14)) ?_
    refine TD.popA (by decide +kernel) rfl rfl rfl rfl (fun _ => POp.move rfl rfl rfl) ?_
    refine TD.popA (by decide +kernel) rfl rfl rfl rfl (fun _ => POp.extract rfl rfl rfl rfl) ?_
    refine TD.popA (by decide +kernel) rfl rfl rfl rfl (fun _ => POp.extract rfl rfl rfl rfl) ?_
    refine TD.effA (by decide +kernel) (by decide +kernel) rfl rfl rfl rfl (fun _ => rfl) ?_
    refine TD.stoA 0 (by decide +kernel) (by decide +kernel) (by decide +kernel) rfl rfl (fun b => .store rfl rfl rfl rfl rfl rfl rfl rfl (by repeat (first | exact Upd.head _ _ _ | apply Upd.tail)) (by exact rfl) (by exact rfl)) ?_
    refine TD.nil (fun b10 => ?_)
    refine DP.tailC 10 (by decide +kernel) rfl ?_
    refine Oas ?_; refine S3 ?_
    refine CW.dp mixed ?_
    refine DP.anyAC (fun sj b => match sj with | 0 => .blk b 29 [.i 0, .i 0, .val (.slice none 0 0), .i 0, .i 0, .val (.slice none 0 0)] :: .blk b10 29 (Fcells (isF 4 [])) :: H | _ => .blk b 29 (Fcells noF) :: .blk b10 29 (Fcells (isF 4 [])) :: H) 11 [8, 9] 1 0 10 194 rfl (by decide +kernel) rfl rfl rfl rfl (by decide +kernel) ?_
    refine TD.popA (by decide +kernel) rfl rfl rfl rfl (fun _ => (by first | exact POp.ldA rfl rfl rfl rfl | (apply POp.ldAH rfl rfl rfl; (case hm => repeat (first | exact .head _ | refine .tail _ ?_)); (case hy => rfl); (case hn => rfl)))) ?_
    refine TD.popA (by decide +kernel) rfl rfl rfl rfl (fun _ => POp.callLe (.mk' rfl rfl rfl rfl rfl) (.cons (.refl _) (.cons (AVle.nil 1) .nil)) (p43 3 [])) ?_
    refine TD.popA (by decide +kernel) rfl rfl rfl rfl (fun _ => POp.callLe (.mk' rfl rfl rfl rfl rfl) (.cons (.refl _) (.cons (AVle.nil 1) .nil)) (p37 3 [])) ?_
    refine TD.popA (by decide +kernel) rfl rfl rfl rfl (fun _ => POp.call (.mk' rfl rfl rfl rfl rfl) ((p88 _ _))) ?_
    refine TD.popA (by decide +kernel) rfl rfl rfl rfl (fun _ => POp.call (.mk' rfl rfl rfl rfl rfl) (p27k (by decide +kernel) k15)) ?_
    refine TD.popA (by decide +kernel) rfl rfl rfl rfl (fun _ => POp.move rfl rfl rfl) ?_
    refine TD.popA (by decide +kernel) rfl rfl rfl rfl (fun _ => POp.extract rfl rfl rfl rfl) ?_
    refine TD.popA (by decide +kernel) rfl rfl rfl rfl (fun _ => POp.extract rfl rfl rfl rfl) ?_
    refine TD.effA (by decide +kernel) (by decide +kernel) rfl rfl rfl rfl (fun _ => rfl) ?_
    refine TD.stoA 0 (by decide +kernel) (by decide +kernel) (by decide +kernel) rfl rfl (fun b => .store rfl rfl rfl rfl rfl rfl rfl rfl (by repeat (first | exact Upd.head _ _ _ | apply Upd.tail)) (by exact rfl) (by exact rfl)) ?_
    refine TD.nil (fun b11 => ?_)
    refine DP.tailC 10 (by decide +kernel) rfl ?_
    refine Oas ?_; refine S3 ?_
    refine CW.dp mixed ?_
    refine DP.one (k := 0) (by decide +kernel) rfl ?_
    refine Omv ?_
    refine OL.nil (Done.dp ?_)
    refine DP.one (k := 1) (by decide +kernel) rfl ?_
    refine Ocm ?_
    refine OL.nil (Done.dp ?_)
    refine DP.one (k := 2) (by decide +kernel) rfl ?_
    refine Omv ?_
    refine OL.nil (Done.dp ?_)
    refine DP.one (k := 3) (by decide +kernel) rfl ?_
    refine Pmv ?_
    refine OL.nil (Done.dp ?_)
    refine DP.one (k := 4) (by decide +kernel) rfl ?_
    refine Pcm ?_
    refine OL.nil (Done.dp ?_)
    refine DP.one (k := 5) (by decide +kernel) rfl ?_
    refine Opk ?_
    refine OL.nil (Done.dp ?_)
    refine DP.one (k := 6) (by decide +kernel) rfl ?_
    refine Omv ?_
    refine OL.nil (Done.dp ?_)
    refine DP.one (k := 7) (by decide +kernel) rfl ?_
    refine Pmv ?_
    refine OL.nil (Done.dp ?_)
    refine DP.one (k := 8) (by decide +kernel) rfl ?_
    refine Pcm ?_
    refine OL.nil (Done.dp ?_)
    refine DP.one (k := 9) (by decide +kernel) rfl ?_
    refine Opk ?_
    refine OL.nil (Done.dp ?_)
    refine DP.one (k := 10) (by decide +kernel) rfl ?_
    refine Omv ?_
    refine OL.nil (Done.dp ?_)
    refine DP.one (k := 11) (by decide +kernel) rfl ?_
    refine Pmv ?_
    refine OL.nil (Done.dp ?_)
    refine DP.one (k := 12) (by decide +kernel) rfl ?_
    refine Pcm ?_
    refine OL.nil (Done.dp ?_)
    refine DP.one (k := 13) (by decide +kernel) rfl ?_
    refine Opk ?_
    refine OL.nil (Done.dp ?_)
    refine DP.one (k := 14) (by decide +kernel) rfl ?_
    refine Omv ?_
    refine OL.nil (Done.dp ?_)
    refine DP.anyC 15 20 194 rfl (by decide +kernel) rfl rfl (by decide +kernel) ?_
    refine AD.guardC rfl rfl rfl rfl rfl (fun hg => POp.move rfl rfl rfl) ?_
    refine AD.guardC rfl rfl rfl rfl rfl (fun hg => POp.callLe (.mk' rfl rfl rfl rfl rfl) (.cons (.refl _) (.cons (AVle.nil 1) .nil)) (p37 1 [])) ?_
    refine AD.guardC rfl rfl rfl rfl rfl (fun hg => POp.callLe (.mk' rfl rfl rfl rfl rfl) (.cons (.refl _) (.cons (AVle.nil 1) .nil)) (p43 3 [])) ?_
    refine AD.guardC rfl rfl rfl rfl rfl (fun hg => POp.row rfl rfl (by first | rfl | simp_all [strip]) rfl rfl rfl rfl rfl rfl) ?_
    refine AD.guardC rfl rfl rfl rfl rfl (fun hg => POp.row rfl rfl (by first | rfl | simp_all [strip]) rfl rfl rfl rfl rfl rfl) ?_
    refine AD.nil ?_
    refine DP.one (k := 20) (by decide +kernel) rfl ?_
    refine OL.guardC rfl rfl rfl rfl rfl rfl (fun hg => POp.call (.mk' rfl rfl rfl rfl (by first | rfl | ((repeat (first | exact hg | rfl | refine Bool.and_eq_true_iff.2 ⟨?_, ?_⟩)); done) | simp_all [strip, constAV])) (p23k _)) ?_
    refine OL.nil (Done.dp ?_)
    refine DP.one (k := 21) (by decide +kernel) rfl ?_
    refine Opk ?_
    refine OL.nil (Done.dp ?_)
    refine DP.one (k := 22) (by decide +kernel) rfl ?_
    refine Omv ?_
    refine OL.nil (Done.dp ?_)
    refine DP.anyC 23 26 194 rfl (by decide +kernel) rfl rfl (by decide +kernel) ?_
    refine AD.guardC rfl rfl rfl rfl rfl (fun hg => POp.move rfl rfl rfl) ?_
    refine AD.guardC rfl rfl rfl rfl rfl (fun hg => POp.row rfl rfl (by first | rfl | simp_all [strip]) rfl rfl rfl rfl rfl rfl) ?_
    refine AD.guardC rfl rfl rfl rfl rfl (fun hg => POp.row rfl rfl (by first | rfl | simp_all [strip]) rfl rfl rfl rfl rfl rfl) ?_
    refine AD.nil ?_
    refine DP.one (k := 26) (by decide +kernel) rfl ?_
    refine OL.guardC rfl rfl rfl rfl rfl rfl (fun hg => POp.call (.mk' rfl rfl rfl rfl (by first | rfl | ((repeat (first | exact hg | rfl | refine Bool.and_eq_true_iff.2 ⟨?_, ?_⟩)); done) | simp_all [strip, constAV])) (p56k _)) ?_
    refine OL.nil (Done.dp ?_)
    refine DP.one (k := 27) (by decide +kernel) rfl ?_
    refine Opk ?_
    refine OL.nil (Done.dp ?_)
    refine DP.one (k := 28) (by decide +kernel) rfl ?_
    refine Omv ?_
    refine OL.nil (Done.dp ?_)
    refine DP.anyC 29 31 194 rfl (by decide +kernel) rfl rfl (by decide +kernel) ?_
    refine AD.guardC rfl rfl rfl rfl rfl (fun hg => (by first | exact POp.ldA rfl rfl rfl rfl | (apply POp.ldAH rfl rfl rfl; (case hm => repeat (first | exact .head _ | refine .tail _ ?_)); (case hy => rfl); (case hn => rfl)))) ?_
    refine AD.guardC rfl rfl rfl rfl rfl (fun hg => POp.callLe (.mk' rfl rfl rfl rfl rfl) (.cons (.refl _) (.cons (AVle.nil 1) .nil)) (p37 4 [])) ?_
    refine AD.nil ?_
    refine DP.one (k := 31) (by decide +kernel) rfl ?_
    refine OL.guardC rfl rfl rfl rfl rfl rfl (fun hg => POp.call (.mk' rfl rfl rfl rfl (by first | rfl | ((repeat (first | exact hg | rfl | refine Bool.and_eq_true_iff.2 ⟨?_, ?_⟩)); done) | simp_all [strip, constAV])) (p28k _)) ?_
    refine OL.nil (Done.dp ?_)
    refine DP.one (k := 32) (by decide +kernel) rfl ?_
    refine Opk ?_
    refine OL.nil (Done.dp ?_)
    refine DP.one (k := 33) (by decide +kernel) rfl ?_
    refine Omv ?_
    refine OL.nil (Done.dp ?_)
    refine DP.anyC 34 37 194 rfl (by decide +kernel) rfl rfl (by decide +kernel) ?_
    refine AD.guardC rfl rfl rfl rfl rfl (fun hg => (by first | exact POp.ldA rfl rfl rfl rfl | (apply POp.ldAH rfl rfl rfl; (case hm => repeat (first | exact .head _ | refine .tail _ ?_)); (case hy => rfl); (case hn => rfl)))) ?_
    refine AD.guardC rfl rfl rfl rfl rfl (fun hg => POp.call (.mk' rfl rfl rfl rfl rfl) ((p91 ))) ?_
    refine AD.guardC rfl rfl rfl rfl rfl (fun hg => POp.call (.mk' rfl rfl rfl rfl (by first | rfl | ((repeat (first | exact hg | rfl | refine Bool.and_eq_true_iff.2 ⟨?_, ?_⟩)); done) | simp_all [strip, constAV])) ((p89 _))) ?_
    refine AD.nil ?_
    refine DP.tailC 37 (by decide +kernel) rfl ?_
    refine OL.guardC rfl rfl rfl rfl rfl rfl (fun hg => POp.call (.mk' rfl rfl rfl rfl (by first | rfl | ((repeat (first | exact hg | rfl | refine Bool.and_eq_true_iff.2 ⟨?_, ?_⟩)); done) | simp_all [strip, constAV])) (p28k _)) ?_
    refine Opk ?_; refine Oas ?_; refine S3 ?_
    refine r1 0 (H) ?_
    exact ⟨by rfl, rfl⟩
theorem seen_step {l : List Int} {x : Int} {q : Nat} (hq : q < l.length) (h : (l.take q).contains x = false) (hx : l.getD q default ≠ x) : (l.take (q + 1)).contains x = false := by
 rw [← take_getD hq, List.contains_eq_any_beq, List.any_append, ← List.contains_eq_any_beq, h]
 simp; exact fun e => hx e.symm
theorem parent_step1 {k j : Nat} {l : List Int} (hj : j < l.length) (h1 : ¬ l.getD j default < 3) (h2 : ¬ l.getD j default ≥ 3 + (k : Int)) (h3 : (l.take j).contains (l.getD j default) = false) : parentsP k (l.take j) (l.drop j) = parentsP k (l.take (j + 1)) (l.drop (j + 1)) := by
 rw [parent_step hj, h3, decide_eq_false h1, decide_eq_false h2]; rfl
theorem parent_bad1 {k j : Nat} {l : List Int} (hj : j < l.length) (h : (decide (l.getD j default < 3) || decide (l.getD j default ≥ 3 + (k : Int)) || (l.take j).contains (l.getD j default)) = true) : parentsP k (l.take j) (l.drop j) = false := by
 rw [parent_step hj, h]; rfl
theorem seen_yes {l : List Int} {x : Int} {q j : Nat} (hq : q < j) (hj : j ≤ l.length) (hx : l.getD q default = x) : (l.take j).contains x = true := by
 rw [List.contains_iff_mem, ← hx, getD_lt (by omega)]
 exact List.mem_take_iff_getElem.2 ⟨q, by omega, rfl⟩
theorem own_step {W : FW} {l : List Int} {k : Nat} (hk : k < l.length) (h : (l.take k).all (ownP W) = true) (hx : ownP W (l.getD k default) = true) : (l.take (k + 1)).all (ownP W) = true := by
 rw [← take_getD hk, List.all_append, h]; simpa using hx
theorem own_no {W : FW} {l : List Int} {k : Nat} (hk : k < l.length) (hx : ownP W (l.getD k default) = false) : l.all (ownP W) = false := by
 rw [List.all_eq_false]; exact ⟨l.getD k default, by rw [getD_lt hk]; exact List.getElem_mem hk, by rw [hx]; simp⟩
theorem p19 (W : FW) : PCall Tryz.prog 19 [AV.world W] (.b (worldP W)) := by
 intro H
 refine ACall.mk' (n := 68) Tryz.func19 rfl (by kernel_rfl) rfl rfl (fun B I w0 => ?_)
 refine CW.boundA (t := 0) (i := 0) rfl rfl (fun hb0 => ?_)
 refine CW.boundA (t := 0) (i := 1) rfl rfl (fun hb1 => ?_)
 refine S2 ?_; refine Obx ?_; refine Oas ?_; refine S5 ?_; refine Ofa ?_; refine Old ?_; refine Oln ?_; refine Ocm ?_; refine Omv ?_; refine Pfa ?_; refine Pld ?_; refine Pln ?_
 refine Pcm ?_; refine Opk ?_; refine S2 ?_
 refine CW.cond rfl (fun h0 => ?_) (fun h0 => ?_)
 ·
  have hw : worldP W = false := world_big h0
  refine S2 ?_; refine Oas ?_; refine S4 ?_
  refine r1 2 (H) ?_
  exact ⟨retB hw.symm, rfl⟩
 ·
  have hW := world_small h0
  refine S5 ?_; refine Ofa ?_; refine Old ?_; refine Oln ?_; refine Omv ?_; refine S3 ?_
  refine lj (fun m st => ∃ k : Nat, st = ⟨[(23, .i k), (22, .i W.parents.length), (21, AV.intss W.parents), (1, .ptr (Wcells W))], H⟩ ∧ m = W.parents.length - k ∧ k ≤ W.parents.length ∧ parentssP k (W.parents.drop k) = parentssP 0 W.parents) (⟨0, rfl, rfl, by omega, rfl⟩) ?_
  rintro m _ ⟨k, rfl, rfl, hk, hpar⟩
  refine S2 ?_; refine Ocm ?_; refine S3 ?_
  refine CW.cond rfl (fun h1 => ?_) (fun h1 => ?_)
  ·
   replace h1 := nm h1
   refine S6 ?_; refine Omv ?_; refine Oix ?_; refine Old ?_; refine Oas ?_; refine Oas ?_; refine S3 ?_
   refine CW.boundM (t := 4) rfl (fun hbl => ?_)
   refine S1 ?_; refine Omv ?_; refine Oln ?_; refine Omv ?_; refine S3 ?_
   refine lj (fun m st => ∃ j : Nat, st = ⟨[(30, .i j), (29, .i (W.parents.getD k default).length), (28, AV.ints (W.parents.getD k default)), (3, .i k), (4, AV.ints (W.parents.getD k default)), (23, .i k), (22, .i W.parents.length), (21, AV.intss W.parents), (1, .ptr (Wcells W))], H⟩ ∧ m = (W.parents.getD k default).length - j ∧ j ≤ (W.parents.getD k default).length ∧ parentsP k ((W.parents.getD k default).take j) ((W.parents.getD k default).drop j) = parentsP k [] (W.parents.getD k default)) (⟨0, rfl, rfl, by omega, rfl⟩) ?_
   rintro m _ ⟨j, rfl, rfl, hj, hp⟩
   refine S2 ?_; refine Ocm ?_; refine S3 ?_
   refine CW.cond rfl (fun h2 => ?_) (fun h2 => ?_)
   ·
    replace h2 := nm h2
    refine S6 ?_; refine Omv ?_; refine Oix ?_; refine Old ?_; refine Oas ?_; refine Oas ?_; refine S5 ?_; refine Omv ?_; refine Ocm ?_; refine Omv ?_; refine Pmv ?_; refine Pmv ?_
    refine Par ?_; refine Pcm ?_; refine Opk ?_; refine S2 ?_
    refine CW.cond rfl (fun h3 => ?_) (fun h3 => ?_)
    ·
     replace h3 := nm h3
     have hw : worldP W = false := world_parent_no hW (by omega) hpar (by rw [← hp]; exact parent_bad1 (by omega) (by rw [bif_or] at h3; rw [h3]; rfl))
     refine S2 ?_; refine Oas ?_; refine S13 ?_
     refine r1 2 (H) ?_
     exact ⟨retB hw.symm, rfl⟩
    ·
     replace h3 := nm h3
     rw [bif_or] at h3
     simp only [Bool.or_eq_false_iff, decide_eq_false_iff_not] at h3
     refine S4 ?_; refine Oas ?_; refine S3 ?_
     refine lj (fun m st => ∃ q : Nat, st = ⟨[(7, .i q), (5, .i j), (6, .i ((W.parents.getD k default).getD j default)), (30, .i j), (29, .i (W.parents.getD k default).length), (28, AV.ints (W.parents.getD k default)), (3, .i k), (4, AV.ints (W.parents.getD k default)), (23, .i k), (22, .i W.parents.length), (21, AV.intss W.parents), (1, .ptr (Wcells W))], H⟩ ∧ m = j - q ∧ q ≤ j ∧ ((W.parents.getD k default).take q).contains ((W.parents.getD k default).getD j default) = false) (⟨0, rfl, rfl, by omega, rfl⟩) ?_
     rintro m _ ⟨q, rfl, rfl, hq, hc⟩
     refine S3 ?_; refine Omv ?_; refine Omv ?_; refine Ocm ?_; refine S2 ?_
     refine CW.cond rfl (fun h4 => ?_) (fun h4 => ?_)
     ·
      replace h4 := nm h4
      refine S6 ?_; refine Omv ?_; refine Omv ?_; refine Oix ?_; refine Old ?_; refine Omv ?_; refine Ocm ?_; refine S2 ?_
      refine CW.cond rfl (fun h5 => ?_) (fun h5 => ?_)
      ·
       replace h5 := nm h5
       have hw : worldP W = false := world_parent_no hW (by omega) hpar (by rw [← hp]; exact parent_bad1 (by omega) (by rw [seen_yes (j := j) (by omega) (by omega) h5]; simp))
       refine S2 ?_; refine Oas ?_; refine S16 ?_
       refine r1 2 (H) ?_
       exact ⟨retB hw.symm, rfl⟩
      ·
       replace h5 := nm h5
       refine S4 ?_; refine Omv ?_; refine Oar ?_; refine Oas ?_; refine S1 ?_
       exact ag (⟨q + 1, rfl, rfl, by omega, seen_step (by omega) hc h5⟩)
     ·
      replace h4 := nm h4
      obtain rfl : q = j := by omega
      refine S7 ?_; refine Oar ?_; refine Omv ?_; refine S1 ?_
      exact ag (⟨q + 1, rfl, rfl, by omega, by rw [← parent_step1 (by omega) h3.1 h3.2 hc]; exact hp⟩)
   ·
    replace h2 := nm h2
    obtain rfl : j = (W.parents.getD k default).length := by omega
    rw [List.drop_length, List.take_length, parentsP] at hp
    refine S7 ?_; refine Oar ?_; refine Omv ?_; refine S1 ?_
    exact ag (⟨k + 1, rfl, rfl, by omega, by rw [parents_step (by omega), ← hp] at hpar; simpa using hpar⟩)
  ·
   replace h1 := nm h1
   obtain rfl : k = W.parents.length := by omega
   rw [List.drop_length, parentssP] at hpar
   refine S8 ?_; refine Ofa ?_; refine Old ?_; refine Oln ?_; refine Omv ?_; refine S3 ?_
   refine lj (fun m st => ∃ k : Nat, st = ⟨[(59, .i k), (58, .i W.owner.length), (57, AV.ints W.owner), (1, .ptr (Wcells W))], H⟩ ∧ m = W.owner.length - k ∧ k ≤ W.owner.length ∧ (W.owner.take k).all (ownP W) = true) (⟨0, rfl, rfl, by omega, rfl⟩) ?_
   rintro m _ ⟨k, rfl, rfl, hk, hall⟩
   refine S2 ?_; refine Ocm ?_; refine S3 ?_
   refine CW.cond rfl (fun h6 => ?_) (fun h6 => ?_)
   ·
    replace h6 := nm h6
    refine S6 ?_; refine Oix ?_; refine Old ?_; refine Oas ?_; refine S4 ?_; refine Ola ?_; refine Omv ?_
    refine OL.popC rfl rfl rfl (POp.call (.mk' rfl rfl rfl rfl rfl) (p85 W _ hW.1)) ?_
    refine Ont ?_; refine S2 ?_
    refine CW.cond rfl (fun h7 => ?_) (fun h7 => ?_)
    ·
     replace h7 := nm h7
     refine S2 ?_; refine Oas ?_; refine S8 ?_
     refine r1 2 (H) ?_
     exact ⟨retB (by rw [world_val hW, own_no (k := k) (by omega) (by simpa using h7)]; simp), rfl⟩
    ·
     replace h7 := nm h7
     refine S4 ?_; refine Oar ?_; refine Omv ?_; refine S1 ?_
     exact ag (⟨k + 1, rfl, rfl, by omega, own_step (by omega) hall (by simpa using h7)⟩)
   ·
    replace h6 := nm h6
    obtain rfl : k = W.owner.length := by omega
    rw [List.take_length] at hall
    refine S7 ?_; refine Oas ?_; refine S3 ?_
    refine r1 2 (H) ?_
    exact ⟨retB (by rw [world_val hW, ← hpar, hall]; rfl), rfl⟩
def upB (W : FW) (c b : Nat) : Bool := ((upsP W).getD c 0).testBit b
theorem fold_bit (U : List Nat) (b : Nat) : ∀ (l : List Int) (s : Nat), (l.foldl (fun s (p : Int) => s ||| U.getD p.toNat 0) s).testBit b = (s.testBit b || l.any fun p => (U.getD p.toNat 0).testBit b)
 | [], s => by simp
 | p :: r, s => by rw [List.foldl_cons, fold_bit U b r, Nat.testBit_or, List.any_cons, Bool.or_assoc]
theorem upFold_bit (U : List Nat) (i : Nat) (l : List Int) (b : Nat) : (upFold U i l).testBit b = (b == 0 || b == 3 + i || l.any fun p => (U.getD p.toNat 0).testBit b) := by
 rw [upFold, fold_bit, Nat.testBit_or, Nat.testBit_two_pow]
 congr 2
 ·rcases b with _ | b
  ·rfl
  ·rw [Nat.testBit_succ]; simp
 ·rw [Bool.eq_iff_iff, decide_eq_true_iff, beq_iff_eq]; exact eq_comm
theorem getD_set {α : Type} (l : List α) (i j : Nat) (x y : α) : (l.set i x).getD j y = if i = j ∧ i < l.length then x else l.getD j y := by
 simp only [List.getD_eq_getElem?_getD, List.getElem?_set]
 by_cases h : i = j
 ·by_cases h2 : j < l.length
  ·simp [h, h2]
  ·simp [h, h2]
 ·simp [h]
theorem ups_low : ∀ (l : List (List Int)) (i : Nat) (U : List Nat) (j : Nat), j < 3 + i → (upsFrom l i U).getD j 0 = U.getD j 0
 | [], i, U, j, h => by rw [upsFrom]
 | x :: r, i, U, j, h => by
  rw [upsFrom, ups_low r (i + 1) _ j (by omega), getD_set, if_neg (by omega)]
theorem parents_lt (i : Nat) : ∀ (l seen : List Int), parentsP i seen l = true → ∀ p ∈ l, 3 ≤ p ∧ p < 3 + i
 | [], _, _, p, hp => by cases hp
 | x :: r, seen, h, p, hp => by
  rw [parentsP, Bool.and_eq_true, Bool.not_eq_true'] at h
  rcases List.mem_cons.1 hp with rfl | hp
  ·have := h.1
   simp only [Bool.or_eq_false_iff, decide_eq_false_iff_not] at this
   omega
  ·exact parents_lt i r _ h.2 p hp
theorem parentss_at : ∀ (l : List (List Int)) (i k : Nat), parentssP i l = true → k < l.length → parentsP (i + k) [] (l.getD k default) = true
 | [], i, k, _, hk => by simp at hk
 | x :: r, i, 0, h, _ => by rw [parentssP, Bool.and_eq_true] at h; exact h.1
 | x :: r, i, k + 1, h, hk => by
  rw [parentssP, Bool.and_eq_true] at h
  have := parentss_at r (i + 1) k h.2 (by simpa using hk)
  rw [show i + (k + 1) = i + 1 + k from by omega]; exact this
theorem world_pars {W : FW} (h : worldP W = true) : parentssP 0 W.parents = true := by simp only [worldP, Bool.and_eq_true] at h; exact h.1.2
theorem pars_lt {W : FW} (h : worldP W = true) {i : Nat} (hi : i < W.parents.length) : ∀ p ∈ W.parents.getD i default, 3 ≤ p ∧ p < 3 + i := by
 have := parentss_at W.parents 0 i (world_pars h) hi
 rw [Nat.zero_add] at this
 exact parents_lt i _ _ this
theorem any_congr_mem {α : Type} {l : List α} {p q : α → Bool} (h : ∀ x ∈ l, p x = q x) : l.any p = l.any q := by
 induction l with
 | nil => rfl
 | cons x r ih => rw [List.any_cons, List.any_cons, h x (.head _), ih fun y hy => h y (.tail _ hy)]
theorem ups_at : ∀ (l : List (List Int)) (i : Nat) (U : List Nat) (k : Nat), 3 + i + l.length ≤ U.length → parentssP i l = true → k < l.length → ∀ b, ((upsFrom l i U).getD (3 + (i + k)) 0).testBit b = (b == 0 || b == 3 + (i + k) || (l.getD k default).any fun p => ((upsFrom l i U).getD p.toNat 0).testBit b)
 | [], i, U, k, hl, _, hk, b => by simp at hk
 | x :: r, i, U, 0, hl, h, hk, b => by
  rw [parentssP, Bool.and_eq_true] at h
  rw [upsFrom, ups_low r (i + 1) _ _ (by omega), getD_set, if_pos ⟨by omega, by simp at hl; omega⟩, upFold_bit]
  show _ = (b == 0 || b == 3 + (i + 0) || x.any _)
  rw [Nat.add_zero]
  congr 1
  refine any_congr_mem fun p hp => ?_
  have := parents_lt i x [] h.1 p hp
  rw [ups_low r (i + 1) _ _ (by omega), getD_set, if_neg (by omega)]
 | x :: r, i, U, k + 1, hl, h, hk, b => by
  rw [parentssP, Bool.and_eq_true] at h
  have := ups_at r (i + 1) (U.set (3 + i) (upFold U i x)) k (by simp at hl ⊢; omega) h.2 (by simpa using hk) b
  rw [upsFrom, show i + (k + 1) = i + 1 + k from by omega]; exact this
theorem upB_own {W : FW} (h : worldP W = true) {i : Nat} (hi : i < W.parents.length) (b : Nat) : upB W (3 + i) b = (b == 0 || b == 3 + i || (W.parents.getD i default).any fun p => upB W p.toNat b) := by
 have := ups_at W.parents 0 ([1, 3, 5] ++ List.replicate 60 0) i (by have := world_len h; simp; omega) (world_pars h) hi b
 rw [Nat.zero_add] at this
 exact this
theorem upB_low {W : FW} {c : Nat} (hc : c < 3) (b : Nat) : upB W c b = (b == 0 || b == c) := by
 rw [upB, upsP, ups_low _ _ _ _ (by omega)]
 have : c = 0 ∨ c = 1 ∨ c = 2 := by omega
 rcases this with rfl | rfl | rfl
 ·show Nat.testBit 1 b = _
  rcases b with _ | b
  ·rfl
  ·rw [Nat.testBit_succ]; simp
 ·show Nat.testBit 3 b = _
  rcases b with _ | _ | b
  ·rfl
  ·rfl
  ·rw [Nat.testBit_succ, Nat.testBit_succ]; simp
 ·show Nat.testBit 5 b = _
  rcases b with _ | _ | _ | b
  ·rfl
  ·rfl
  ·rfl
  ·rw [Nat.testBit_succ, Nat.testBit_succ, Nat.testBit_succ]; simp
theorem upB_zero {W : FW} (h : worldP W = true) {c : Nat} (hc : c < 3 + W.parents.length) : upB W c 0 = true := by
 by_cases h3 : c < 3
 ·rw [upB_low h3]; rfl
 ·rw [show c = 3 + (c - 3) from by omega, upB_own h (by omega)]; rfl
theorem upB_self {W : FW} (h : worldP W = true) {c : Nat} (hc : c < 3 + W.parents.length) : upB W c c = true := by
 by_cases h3 : c < 3
 ·rw [upB_low h3]; simp
 ·have e : c = 3 + (c - 3) := by omega
  have := upB_own h (i := c - 3) (by omega) c
  rw [← e] at this; rw [this]; simp
theorem upB_le {W : FW} (h : worldP W = true) : ∀ (n c : Nat), c ≤ n → c < 3 + W.parents.length → ∀ b, upB W c b = true → b ≤ c ∧ (b = 0 ∨ b = c ∨ 3 ≤ b)
 | n, c, hn, hc, b, hb => by
  by_cases h3 : c < 3
  ·rw [upB_low h3] at hb; simp at hb; omega
  ·have e : c = 3 + (c - 3) := by omega
   rw [e, upB_own h (by omega)] at hb
   simp only [Bool.or_eq_true, beq_iff_eq, List.any_eq_true] at hb
   rcases hb with (hb | hb) | ⟨p, hp, hb⟩
   ·omega
   ·omega
   ·have hl := pars_lt h (by omega) p hp
    match n, hn with
    | 0, hn => omega
    | n + 1, hn =>
     have := upB_le h n p.toNat (by omega) (by omega) b hb
     omega
theorem upB_trans {W : FW} (h : worldP W = true) : ∀ (n a : Nat), a ≤ n → a < 3 + W.parents.length → ∀ b c, upB W a b = true → upB W b c = true → upB W a c = true
 | n, a, hn, ha, b, c, h1, h2 => by
  by_cases h3 : a < 3
  ·rw [upB_low h3] at h1
   simp only [Bool.or_eq_true, beq_iff_eq] at h1
   rcases h1 with rfl | rfl
   ·rw [upB_low (by omega)] at h2
    simp at h2; subst h2
    exact upB_zero h ha
   ·exact h2
  ·have e : a = 3 + (a - 3) := by omega
   rw [e, upB_own h (by omega)] at h1 ⊢
   simp only [Bool.or_eq_true, beq_iff_eq, List.any_eq_true] at h1 ⊢
   rcases h1 with (rfl | rfl) | ⟨p, hp, h1⟩
   ·rw [upB_low (by omega)] at h2
    simp at h2; exact .inl (.inl h2)
   ·rw [upB_own h (by omega)] at h2
    simpa only [Bool.or_eq_true, beq_iff_eq, List.any_eq_true] using h2
   ·have hl := pars_lt h (by omega) p hp
    match n, hn with
    | 0, hn => omega
    | n + 1, hn => exact .inr ⟨p, hp, upB_trans h n p.toNat (by omega) (by omega) b c h1 h2⟩
theorem below_up {W : FW} {a b : Int} : belowP W a b = upB W a.toNat b.toNat := rfl
def upIn (o : List Bool) (i : Nat) : List Int → List Bool
 | [] => o
 | p :: r => upIn (o.set p.toNat (o.getD p.toNat false || o.getD i false)) i r
def upDown (W : FW) : Nat → List Bool → List Bool
 | 0, o => o
 | k + 1, o => upDown W k (upIn o (3 + k) (W.parents.getD k default))
def upR (W : FW) (c : Nat) : List Bool := upDown W (c - 2) ((List.replicate (3 + W.parents.length) false).set c true)
theorem upIn_len (i : Nat) : ∀ (l : List Int) (o : List Bool), (upIn o i l).length = o.length
 | [], o => rfl
 | p :: r, o => by rw [upIn, upIn_len i r, List.length_set]
theorem upDown_len (W : FW) : ∀ (k : Nat) (o : List Bool), (upDown W k o).length = o.length
 | 0, o => rfl
 | k + 1, o => by rw [upDown, upDown_len W k, upIn_len]
theorem upIn_get (i : Nat) : ∀ (l : List Int) (o : List Bool) (b : Nat), (∀ p ∈ l, 0 ≤ p ∧ p < i) → i < o.length → (upIn o i l).getD b false = (o.getD b false || (o.getD i false && l.contains (b : Int)))
 | [], o, b, _, _ => by rw [upIn]; simp
 | p :: r, o, b, h, hi => by
  have hp := h p (.head _)
  rw [upIn, upIn_get i r _ b (fun q hq => h q (.tail _ hq)) (by rw [List.length_set]; exact hi), getD_set, getD_set, if_neg (c := p.toNat = i ∧ _) (by omega), List.contains_cons]
  by_cases hb : p.toNat = b
  ·rw [if_pos ⟨hb, by omega⟩, show ((b : Int) == p) = true from by rw [beq_iff_eq]; omega, hb]
   cases o.getD b false <;> cases o.getD i false <;> simp
  ·rw [if_neg (fun e => hb e.1), show ((b : Int) == p) = false from by rw [beq_eq_false_iff_ne]; omega]; simp
theorem upDown_get {W : FW} (h : worldP W = true) : ∀ (k : Nat) (o : List Bool), k ≤ W.parents.length → o.length = 3 + W.parents.length → ∀ b, 0 < b → (upDown W k o).getD b false = (o.getD b false || (List.range k).any fun i => o.getD (3 + i) false && upB W (3 + i) b)
 | 0, o, _, _, b, _ => by simp [upDown]
 | k + 1, o, hk, hl, b, hb => by
  have hp := pars_lt h (i := k) (by omega)
  have hg := fun x => upIn_get (3 + k) (W.parents.getD k default) o x (fun p hp' => by have := hp p hp'; omega) (by omega)
  rw [upDown, upDown_get h k _ (by omega) (by rw [upIn_len]; exact hl) b hb, hg, List.range_succ, List.any_append, List.any_cons, List.any_nil, Bool.or_false]
  rw [upB_own h (by omega), show (b == 0) = false from by rw [beq_eq_false_iff_ne]; omega, Bool.false_or]
  rw [Bool.eq_iff_iff]
  simp only [Bool.or_eq_true, Bool.and_eq_true, List.any_eq_true, List.mem_range, beq_iff_eq, hg, List.contains_iff_mem]
  constructor
  ·rintro ((h1 | ⟨h1, h2⟩) | ⟨i, hi, h1 | ⟨h1, h2⟩, h3⟩)
   ·exact .inl h1
   ·exact .inr (.inr ⟨h1, .inr ⟨(b : Int), h2, by rw [Int.toNat_natCast]; exact upB_self h (by have := hp _ h2; omega)⟩⟩)
   ·exact .inr (.inl ⟨i, hi, h1, h3⟩)
   ·exact .inr (.inr ⟨h1, .inr ⟨_, h2, by rw [Int.toNat_natCast]; exact h3⟩⟩)
  ·rintro (h1 | ⟨i, hi, h1, h3⟩ | ⟨h1, h2 | ⟨p, hpm, h3⟩⟩)
   ·exact .inl (.inl h1)
   ·exact .inr ⟨i, hi, .inl h1, h3⟩
   ·subst h2; exact .inl (.inl h1)
   ·have := hp p hpm
    refine .inr ⟨p.toNat - 3, by omega, .inr ⟨h1, ?_⟩, ?_⟩
    ·rw [show ((3 + (p.toNat - 3) : Nat) : Int) = p from by omega]; exact hpm
    ·rw [show 3 + (p.toNat - 3) = p.toNat from by omega]; exact h3
theorem upR_len (W : FW) (c : Nat) : (upR W c).length = 3 + W.parents.length := by rw [upR, upDown_len]; simp
theorem upR_get {W : FW} (h : worldP W = true) {c : Nat} (h3 : 3 ≤ c) (hc : c < 3 + W.parents.length) {b : Nat} (hb : 0 < b) : (upR W c).getD b false = upB W c b := by
 have hg : ∀ x, ((List.replicate (3 + W.parents.length) false).set c true).getD x false = (c == x) := fun x => by
  rw [getD_set]
  by_cases e : c = x
  ·rw [if_pos ⟨e, by simpa using hc⟩]; simp [e]
  ·rw [if_neg (fun q => e q.1)]
   have : (c == x) = false := by rw [beq_eq_false_iff_ne]; exact e
   rw [this, List.getD_eq_getElem?_getD, List.getElem?_replicate]; split <;> rfl
 rw [upR, upDown_get h (c - 2) _ (by omega) (by simp) b hb, hg, Bool.eq_iff_iff]
 simp only [Bool.or_eq_true, Bool.and_eq_true, List.any_eq_true, List.mem_range, beq_iff_eq, hg]
 constructor
 ·rintro (rfl | ⟨i, hi, e, h1⟩)
  ·exact upB_self h hc
  ·rw [e]; exact h1
 ·intro h1
  exact .inr ⟨c - 3, by omega, by omega, by rw [show 3 + (c - 3) = c from by omega]; exact h1⟩
instance : HasMk Tryz.prog 142 (4, 1, .bool false) := ⟨by kernel_rfl⟩
abbrev bl (o : List Bool) : List AV := o.map fun x => AV.b x
abbrev AV.bools (o : List Bool) : AV := .sl 1 (o.map fun x => [AV.b x])
theorem bl_flat (o : List Bool) : bl o = (o.map fun x => [AV.b x]).flatten ++ [] := by
 induction o with
 | nil => rfl
 | cons x r ih => simpa using ih
theorem bl_get {o : List Bool} {i : Nat} (h : i < o.length) : (bl o)[0 + i * 1]? = some (AV.b (o.getD i false)) := by
 rw [Nat.zero_add, Nat.mul_one, List.getElem?_map, List.getD_eq_getElem?_getD, List.getElem?_eq_getElem h]; rfl
theorem bl_set {o o' : List Bool} {i : Nat} {x : Bool} (h : i < o.length) (e : o.set i x = o') : (bl o).take (0 + i * 1) ++ [AV.b x] ++ (bl o).drop (0 + i * 1 + 1) = bl o' := by
 subst e
 rw [Nat.zero_add, Nat.mul_one, List.set_eq_take_append_cons_drop, if_pos h]
 simp
theorem upIn_step {o : List Bool} {i j : Nat} {l : List Int} (h : j < l.length) : upIn o i (l.drop j) = upIn (o.set (l.getD j default).toNat (bif o.getD (l.getD j default).toNat false then true else o.getD i false)) i (l.drop (j + 1)) := by
 rw [List.drop_eq_getElem_cons h, upIn, getD_lt h, bif_or]
theorem bl_fit {o : List Bool} {i : Nat} (h : i < o.length) : Nat.ble (0 + i * 1 + 1) (bl o).length = true := by rw [Nat.ble_eq]; simp; omega
theorem bl_new (n : Nat) : List.replicate n (AV.val (.bool false)) = bl (List.replicate n false) := by rw [bl, List.map_replicate]
theorem p110 {W : FW} (h : worldP W = true) {c : Int} (h3 : 3 ≤ c) (hc : c < 3 + W.parents.length) : PCall Tryz.prog 110 [AV.world W, .i c] (AV.bools (upR W c.toNat)) := by
 intro H
 refine ACall.mk' (n := 48) Tryz.func110 rfl (by kernel_rfl) rfl rfl (fun B I w0 => ?_)
 have hW := world_len h
 refine CW.boundA (t := 0) (i := 0) rfl rfl (fun hb0 => ?_)
 refine S2 ?_; refine Obx ?_; refine Oas ?_; refine S4 ?_; refine Ofa ?_; refine Old ?_; refine Oln ?_; refine Oar ?_
 refine OL.mkSlC (3 + W.parents.length) rfl rfl rfl rfl rfl rfl rfl rfl (by omega) (by omega) (by simp [maxLen]; omega) (fun b5 => ?_)
 refine Oas ?_; refine S3 ?_
 rw [bl_new]
 refine S1 ?_; refine Omv ?_; refine Omv ?_
 refine OL.popC rfl rfl rfl (POp.ixC rfl rfl rfl rfl rfl (by omega)) ?_
 apply OL.stoC rfl rfl rfl rfl rfl rfl rfl rfl rfl rfl
 (case hu => repeat (first | exact Upd.head _ _ _ | apply Upd.tail)); (case hfit => exact bl_fit (i := c.toNat) (by simp; omega)); (case hds => exact bl_set (i := c.toNat) (by simp; omega) rfl)
 refine S5 ?_; refine Omv ?_; refine Oas ?_; refine S3 ?_
 refine lj (fun m st => ∃ (i : Int) (o : List Bool), st = ⟨[(6, .i i), (5, .val (.slice (some ⟨b5, 0, none⟩) (3 + W.parents.length) (3 + W.parents.length))), (2, .ptr (Wcells W))], .blk b5 4 (bl o) :: H⟩ ∧ m = (i - 2).toNat ∧ 2 ≤ i ∧ i ≤ c ∧ o.length = 3 + W.parents.length ∧ upDown W (i - 2).toNat o = upR W c.toNat) (⟨c, (List.replicate (3 + W.parents.length) false).set c.toNat true, rfl, rfl, by omega, by omega, by simp, by rw [upR, show (c - 2).toNat = c.toNat - 2 from by omega]⟩) ?_
 rintro m _ ⟨i, o, rfl, rfl, hi2, hic, hol, hup⟩
 refine S3 ?_; refine Omv ?_; refine Ocm ?_; refine S2 ?_
 refine CW.cond rfl (fun h0 => ?_) (fun h0 => ?_)
 ·
  replace h0 := nm h0
  have hp := pars_lt h (i := (i - 3).toNat) (by omega)
  refine S6 ?_; refine Ofa ?_; refine Old ?_; refine Omv ?_; refine Oar ?_; refine Oix ?_; refine Old ?_; refine Oln ?_; refine Omv ?_; refine S3 ?_
  refine lj (fun m st => ∃ (j : Nat) (o2 : List Bool), st = ⟨[(29, .i j), (28, .i (W.parents.getD (i - 3).toNat default).length), (27, AV.ints (W.parents.getD (i - 3).toNat default)), (6, .i i), (5, .val (.slice (some ⟨b5, 0, none⟩) (3 + W.parents.length) (3 + W.parents.length))), (2, .ptr (Wcells W))], .blk b5 4 (bl o2) :: H⟩ ∧ m = (W.parents.getD (i - 3).toNat default).length - j ∧ j ≤ (W.parents.getD (i - 3).toNat default).length ∧ o2.length = 3 + W.parents.length ∧ upIn o2 i.toNat ((W.parents.getD (i - 3).toNat default).drop j) = upIn o i.toNat (W.parents.getD (i - 3).toNat default)) (⟨0, o, rfl, rfl, by omega, hol, rfl⟩) ?_
  rintro m _ ⟨j, o2, rfl, rfl, hj, ho2, hin⟩
  refine S1 ?_
  refine CW.boundM (t := 27) rfl (fun hbl => ?_)
  refine S1 ?_; refine Ocm ?_; refine S3 ?_
  refine CW.cond rfl (fun h1 => ?_) (fun h1 => ?_)
  ·
   replace h1 := nm h1
   refine S6 ?_; refine Oix ?_; refine Old ?_; refine Oas ?_; refine S2 ?_
   have hpj : 3 ≤ (W.parents.getD (i - 3).toNat default).getD j default ∧ (W.parents.getD (i - 3).toNat default).getD j default < i := by
    have := hp ((W.parents.getD (i - 3).toNat default).getD j default) (getD_mem (by omega))
    omega
   refine S1 ?_; refine Omv ?_; refine Omv ?_; refine Omv ?_; refine Omv ?_
   refine OL.popC rfl rfl rfl (POp.ixC rfl rfl rfl rfl rfl (by omega)) ?_
   refine OL.popC rfl rfl rfl ((by first | exact POp.ld1 rfl rfl rfl rfl | (apply POp.ld1H rfl rfl rfl; (case hm => repeat (first | exact .head _ | refine .tail _ ?_)); (case hy => exact bl_get (i := ((W.parents.getD (i - 3).toNat default).getD j default).toNat) (by omega))))) ?_
   refine Omv ?_; refine Pmv ?_; refine Pmv ?_
   refine OL.guardC rfl rfl rfl rfl rfl rfl (fun hg => POp.ixC rfl rfl (gd hg) rfl (gd hg) (by omega)) ?_
   refine OL.guardC rfl rfl rfl rfl rfl rfl (fun hg => (by first | exact POp.ld1 rfl rfl (gd hg) rfl | (apply POp.ld1H rfl rfl (gd hg); (case hm => repeat (first | exact .head _ | refine .tail _ ?_)); (case hy => exact bl_get (i := i.toNat) (by omega))))) ?_
   refine Opk ?_
   refine OL.popC rfl rfl rfl (POp.ixC rfl rfl rfl rfl rfl (by omega)) ?_
   apply OL.stoC rfl rfl rfl rfl rfl rfl rfl rfl rfl rfl
   (case hu => repeat (first | exact Upd.head _ _ _ | apply Upd.tail)); (case hfit => exact bl_fit (i := ((W.parents.getD (i - 3).toNat default).getD j default).toNat) (by omega)); (case hds => exact bl_set (i := ((W.parents.getD (i - 3).toNat default).getD j default).toNat) (by omega) rfl)
   refine S4 ?_; refine Oar ?_; refine Omv ?_; refine S1 ?_
   exact ag (⟨j + 1, o2.set ((W.parents.getD (i - 3).toNat default).getD j default).toNat (bif o2.getD ((W.parents.getD (i - 3).toNat default).getD j default).toNat false then true else o2.getD i.toNat false), rfl, rfl, by omega, by rw [List.length_set]; exact ho2, by rw [← upIn_step (by omega)]; exact hin⟩)
  ·
   replace h1 := nm h1
   obtain rfl : j = (W.parents.getD (i - 3).toNat default).length := by omega
   rw [List.drop_length, upIn] at hin
   refine S7 ?_; refine Omv ?_; refine Oar ?_; refine Oas ?_; refine S1 ?_
   exact ag (⟨i - 1, o2, rfl, rfl, by omega, by omega, ho2, by rw [hin, ← hup, show (i - 2).toNat = (i - 3).toNat + 1 from by omega, upDown, show 3 + (i - 3).toNat = i.toNat from by omega, show (i - 1 - 2).toNat = (i - 3).toNat from by omega]⟩)
 ·
  replace h0 := nm h0
  obtain rfl : i = 2 := by omega
  rw [show ((2 : Int) - 2).toNat = 0 from rfl, upDown] at hup
  subst hup
  refine S6 ?_
  rw [bl_flat]
  refine CW.freezeS (d := 5) (k := 1) rfl (by repeat (first | exact Del.head _ _ | apply Del.tail)) (by simp [hol]) (by intro e he; obtain ⟨x, _, rfl⟩ := List.mem_map.1 he; rfl) (by omega) (by simp [maxLen]; omega) ?_
  refine S1 ?_; refine Omv ?_; refine Oas ?_; refine S3 ?_
  refine r1 4 (H) ?_
  exact ⟨by rfl, rfl⟩
theorem p52 {W : FW} (h : worldP W = true) {a b : Int} (ha : classP W a = true) (hb : classP W b = true) : PCall Tryz.prog 52 [AV.world W, .i a, .i b] (.b (belowP W a b)) := by
 intro H
 refine ACall.mk' (n := 24) Tryz.func52 rfl (by kernel_rfl) rfl rfl (fun B I w0 => ?_)
 have hW := world_len h
 simp only [classP, Bool.and_eq_true, decide_eq_true_eq] at ha hb
 refine S2 ?_; refine Obx ?_; refine Oas ?_; refine S5 ?_; refine Omv ?_; refine Omv ?_; refine Ocm ?_; refine Omv ?_; refine Pmv ?_; refine Pcm ?_; refine Opk ?_; refine S2 ?_
 refine CW.cond rfl (fun h0 => ?_) (fun h0 => ?_)
 ·
  replace h0 := nm h0
  refine S2 ?_; refine Oas ?_; refine S4 ?_
  refine r1 6 (H) ?_
  exact ⟨retB (by rw [below_up]; symm; rw [bif_or, Bool.or_eq_true, beq_iff_eq, beq_iff_eq] at h0; rcases h0 with e | e; (· subst e; exact upB_self h (by omega)); (· subst e; exact upB_zero h (by omega))), rfl⟩
 ·
  replace h0 := nm h0
  refine S5 ?_; refine Omv ?_; refine Ocm ?_; refine S2 ?_
  refine CW.cond rfl (fun h1 => ?_) (fun h1 => ?_)
  ·
   replace h1 := nm h1
   refine S2 ?_; refine Oas ?_; refine S4 ?_
   refine r1 6 (H) ?_
   exact ⟨retB (by rw [below_up, upB_low (by omega)]; symm; rw [bif_or, Bool.or_eq_false_iff, beq_eq_false_iff_ne, beq_eq_false_iff_ne] at h0; rw [Bool.or_eq_false_iff, beq_eq_false_iff_ne, beq_eq_false_iff_ne]; omega), rfl⟩
  ·
   replace h1 := nm h1
   refine S4 ?_; refine Ola ?_; refine Omv ?_
   refine OL.popC rfl rfl rfl (POp.call (.mk' rfl rfl rfl rfl rfl) (p110 h (by omega) (by omega))) ?_
   refine Oas ?_; refine S4 ?_; refine Omv ?_; refine Omv ?_
   refine OL.popC rfl rfl rfl ((by first | exact POp.ixM rfl rfl rfl rfl rfl (by simp [upR_len]; omega) | exact POp.ixI rfl rfl rfl rfl rfl (by simp [upR_len]; omega))) ?_
   refine Old ?_; refine Oas ?_; refine S3 ?_
   refine r1 6 (H) ?_
   exact ⟨retB (by rw [bif_or, Bool.or_eq_false_iff, beq_eq_false_iff_ne, beq_eq_false_iff_ne] at h0; exact upR_get h (by omega) (by omega) (by omega)), rfl⟩
theorem path_no {W : FW} {l : List Int} {i : Nat} (h : i < l.length) (hs : slotP W (l.getD i default) = false) : l.all (slotP W) = false := by
 rw [List.all_eq_false]; exact ⟨l.getD i default, getD_mem h, by rw [hs]; simp⟩
mutual
def depthN : Fact → Nat
 | .mk _ _ _ _ _ kids => depthNs kids + 1
def depthNs : List Fact → Nat
 | [] => 0
 | k :: r => max (depthN k) (depthNs r)
end
theorem depthN_eq (f : Fact) : depthN f = depthNs f.kids + 1 := by cases f; rw [depthN]; rfl
theorem depthNs_snoc (x : Fact) : ∀ l : List Fact, depthNs (l ++ [x]) = max (depthNs l) (depthN x)
 | [] => by simp [depthNs]
 | k :: r => by rw [List.cons_append, depthNs, depthNs, depthNs_snoc x r, Nat.max_assoc]
mutual
theorem depth_nodes : ∀ f : Fact, depthN f ≤ nodesN f
 | .mk _ _ _ _ _ kids => by rw [depthN, nodesN]; have := depths_nodes kids; omega
theorem depths_nodes : ∀ l : List Fact, depthNs l ≤ nodesNs l
 | [] => by simp [depthNs]
 | k :: r => by rw [depthNs, nodesNs]; have := depth_nodes k; have := depths_nodes r; omega
end
theorem kid_nodes {f k : Fact} (h : k ∈ f.kids) : nodesN k < nodesN f := by
 have : ∀ l : List Fact, k ∈ l → nodesN k ≤ nodesNs l := by
  intro l
  induction l with
  | nil => intro h; cases h
  | cons y r ih => intro h; rw [nodesNs]; rcases List.mem_cons.1 h with rfl | h; omega; have := ih h; omega
 have := this f.kids h
 rw [nodesN_eq f]; omega
theorem p98_step (f : Fact) (ih : ∀ k ∈ f.kids, ∀ n : Int, 0 ≤ n → n ≤ 1000000 → PCall Tryz.prog 98 [AV.fact k, .i n] (.i (min (nodesN k : Int) (n + 1)))) (n : Int) (h0n : 0 ≤ n) (h1n : n ≤ 1000000) : PCall Tryz.prog 98 [AV.fact f, .i n] (.i (min (nodesN f : Int) (n + 1))) := by
 intro H
 refine ACall.mk' (n := 31) Tryz.func98 rfl (by kernel_rfl) rfl rfl (fun B I w0 => ?_)
 refine CW.boundA (t := 0) (i := 5) rfl rfl (fun hb0 => ?_)
 refine S2 ?_; refine Obx ?_; refine Oas ?_; refine S4 ?_; refine Oas ?_; refine S5 ?_; refine Oas ?_; refine S3 ?_
 refine lj (fun m st => ∃ (i : Nat) (x : Int), st = ⟨[(6, .i i), (5, .i x), (2, .ptr (Fcells f)), (1, .i n)], H⟩ ∧ m = f.kids.length - i ∧ i ≤ f.kids.length ∧ x = min (1 + nodesNs (f.kids.take i) : Int) (n + 1)) (⟨0, 1, rfl, rfl, by omega, by simp [nodesNs]; omega⟩) ?_
 rintro m _ ⟨i, x, rfl, rfl, hi, hx⟩
 refine S3 ?_; refine Omv ?_; refine Ofa ?_; refine Old ?_; refine Oln ?_; refine Ocm ?_; refine Omv ?_; refine Pmv ?_; refine Pmv ?_; refine Pcm ?_; refine Opk ?_; refine S2 ?_
 refine CW.cond rfl (fun h0 => ?_) (fun h0 => ?_)
 ·
  simp only [cond_true, Bool.cond_false_right, Bool.and_eq_true, decide_eq_true_eq] at h0
  have hk := nodesNs_take (l := f.kids) (j := i) (by omega)
  refine S5 ?_; refine Omv ?_; refine Ofa ?_; refine Old ?_; refine Omv ?_; refine Oix ?_; refine Ola ?_; refine Omv ?_; refine Omv ?_; refine Oar ?_
  refine OL.popC rfl rfl rfl (POp.call (.mk' rfl rfl rfl rfl rfl) (ih (f.kids.getD i default) (getD_mem (by omega)) _ (by omega) (by omega))) ?_
  refine Oar ?_; refine Oas ?_; refine S4 ?_; refine Omv ?_; refine Oar ?_; refine Oas ?_; refine S1 ?_
  exact ag (⟨i + 1, x + min (nodesN (f.kids.getD i default) : Int) (n - x + 1), rfl, rfl, by omega, by omega⟩)
 ·
  simp only [Bool.cond_false_right, Bool.and_eq_false_iff, decide_eq_false_iff_not] at h0
  have hk := nodesN_eq f
  have hl : nodesNs (f.kids.take i) ≤ nodesNs f.kids := nodesNs_le _
  have hx2 : x = min (nodesN f : Int) (n + 1) := by
   rcases h0 with e | e
   ·have : i = f.kids.length := by omega
    rw [this, List.take_length] at hx; omega
   ·omega
  refine S7 ?_; refine Omv ?_; refine Oas ?_; refine S3 ?_
  refine r1 4 (H) ?_
  exact ⟨retI hx2, rfl⟩
theorem p98 : ∀ (f : Fact) (n : Int), 0 ≤ n → n ≤ 1000000 → PCall Tryz.prog 98 [AV.fact f, .i n] (.i (min (nodesN f : Int) (n + 1))) := Fact.ind1 p98_step
theorem p29 (f : Fact) : PCall Tryz.prog 29 [AV.fact f] (.i (min (nodesN f : Int) 25)) := by
 intro H
 refine ACall.mk' (n := 5) Tryz.func29 rfl (by kernel_rfl) rfl rfl (fun B I w0 => ?_)
 refine S2 ?_; refine Obx ?_; refine Oas ?_; refine S4 ?_; refine Ola ?_
 refine OL.popC rfl rfl rfl (POp.call (.mk' rfl rfl rfl rfl rfl) (p98 f 24 (by omega) (by omega))) ?_
 refine Oas ?_; refine S3 ?_
 refine r1 2 (H) ?_
 exact ⟨by rfl, rfl⟩
theorem p86_step (f : Fact) (hn : nodesN f ≤ 1000000) (ih : ∀ k ∈ f.kids, PCall Tryz.prog 86 [AV.fact k] (.i (depthN k))) : PCall Tryz.prog 86 [AV.fact f] (.i (depthN f)) := by
 intro H
 refine ACall.mk' (n := 20) Tryz.func86 rfl (by kernel_rfl) rfl rfl (fun B I w0 => ?_)
 refine CW.boundA (t := 0) (i := 5) rfl rfl (fun hb0 => ?_)
 have hd := depth_nodes f
 have hd2 := depthN_eq f
 refine S2 ?_; refine Obx ?_; refine Oas ?_; refine S4 ?_; refine Oas ?_; refine S5 ?_; refine Ofa ?_; refine Old ?_; refine Oln ?_; refine Omv ?_; refine S3 ?_
 refine lj (fun m st => ∃ (i : Nat) (x : Int), st = ⟨[(9, .i i), (8, .i f.kids.length), (7, AV.facts f.kids), (3, .i x), (1, .ptr (Fcells f))], H⟩ ∧ m = f.kids.length - i ∧ i ≤ f.kids.length ∧ x = depthNs (f.kids.take i)) (⟨0, 0, rfl, rfl, by omega, by simp [depthNs]⟩) ?_
 rintro m _ ⟨i, x, rfl, rfl, hi, hx⟩
 refine S2 ?_; refine Ocm ?_; refine S3 ?_
 refine CW.cond rfl (fun h0 => ?_) (fun h0 => ?_)
 ·
  replace h0 := nm h0
  refine S6 ?_; refine Oix ?_; refine Ola ?_
  refine OL.alC rfl rfl rfl rfl (fun b0 => ?_)
  refine Sto ?_; refine S3 ?_; refine Omv ?_; refine Ola ?_
  refine OL.popC rfl rfl rfl (POp.call (.mk' rfl rfl rfl rfl rfl) (ih (f.kids.getD i default) (getD_mem (by omega)))) ?_
  refine OL.popC rfl rfl rfl (POp.max2 rfl rfl rfl rfl rfl rfl) ?_
  refine Oas ?_; refine S4 ?_; refine Oar ?_; refine Omv ?_; refine S1 ?_
  exact ag (⟨i + 1, if (depthN (f.kids.getD i default) : Int) > x then (depthN (f.kids.getD i default) : Int) else x, rfl, rfl, by omega, by rw [← take_getD (by omega), depthNs_snoc]; split <;> omega⟩)
 ·
  replace h0 := nm h0
  obtain rfl : i = f.kids.length := by omega
  rw [List.take_length] at hx
  subst hx
  refine S7 ?_; refine Omv ?_; refine Oar ?_; refine Oas ?_; refine S3 ?_
  refine r1 2 (H) ?_
  exact ⟨retI (by omega), rfl⟩
theorem p86 : ∀ f : Fact, nodesN f ≤ 1000000 → PCall Tryz.prog 86 [AV.fact f] (.i (depthN f)) := Fact.ind1 fun f ih hn => p86_step f hn fun k hk => ih k hk (by have := kid_nodes hk; omega)
theorem p72 (W : FW) (l : List Int) : PCall Tryz.prog 72 [AV.world W, AV.ints l] (.b (pathP W l)) := by
 intro H
 refine ACall.mk' (n := 26) Tryz.func72 rfl (by kernel_rfl) rfl rfl (fun B I w0 => ?_)
 refine CW.boundA (t := 0) (i := 1) rfl rfl (fun hb0 => ?_)
 refine CW.boundM (t := 1) rfl (fun hb1 => ?_)
 refine S2 ?_; refine Obx ?_; refine Oas ?_; refine S5 ?_; refine Omv ?_; refine Oln ?_; refine Omv ?_; refine S3 ?_
 refine lj (fun m st => ∃ i : Nat, st = ⟨[(9, .i i), (8, .i l.length), (7, AV.ints l), (2, .ptr (Wcells W)), (1, AV.ints l)], H⟩ ∧ m = l.length - i ∧ i ≤ l.length ∧ (l.take i).all (slotP W) = true) (⟨0, rfl, rfl, by omega, rfl⟩) ?_
 rintro m _ ⟨i, rfl, rfl, hi, hall⟩
 refine S2 ?_; refine Ocm ?_; refine S3 ?_
 refine CW.cond rfl (fun h0 => ?_) (fun h0 => ?_)
 ·
  replace h0 := nm h0
  refine S6 ?_; refine Oix ?_; refine Old ?_; refine Oas ?_; refine S4 ?_; refine Omv ?_; refine Ocm ?_; refine Omv ?_; refine Pmv ?_; refine Pfa ?_; refine Pld ?_; refine Pln ?_
  refine Pcm ?_; refine Opk ?_; refine S2 ?_
  refine CW.cond rfl (fun h1 => ?_) (fun h1 => ?_)
  ·
   have hs : slotP W (l.getD i default) = false := by rw [bif_or] at h1; simp only [Bool.or_eq_true, decide_eq_true_eq] at h1; simp only [slotP, Bool.and_eq_false_iff, decide_eq_false_iff_not]; omega
   refine S2 ?_; refine Oas ?_; refine S8 ?_
   refine r1 4 (H) ?_
   exact ⟨retB (by rw [pathP, path_no (by omega) hs, Bool.and_false]), rfl⟩
  ·
   have hs : slotP W (l.getD i default) = true := by rw [bif_or] at h1; simp only [Bool.or_eq_false_iff, decide_eq_false_iff_not] at h1; simp only [slotP, Bool.and_eq_true, decide_eq_true_eq]; omega
   refine S4 ?_; refine Oar ?_; refine Omv ?_; refine S1 ?_
   exact ag (⟨i + 1, rfl, rfl, by omega, by rw [← take_getD (by omega), List.all_append, hall]; simpa using hs⟩)
 ·
  replace h0 := nm h0
  obtain rfl : i = l.length := by omega
  rw [List.take_length] at hall
  refine S7 ?_; refine Omv ?_; refine Oln ?_; refine Ocm ?_; refine Oas ?_; refine S3 ?_
  refine r1 4 (H) ?_
  exact ⟨retB (by rw [pathP, hall, Bool.and_true, Bool.eq_iff_iff, decide_eq_true_iff, decide_eq_true_iff]; omega), rfl⟩
def opOk (W : FW) (f : Fact) (kd : Int) : Prop := 1 ≤ f.op ∧ f.op ≤ 7 ∧ kd = kidsP f.op ∧ (leafP f = true → leafOkP W f = true)
theorem op_is {W : FW} {f : Fact} (h0 : f.op = 2) (h1 : (bif f.n != 0 then true else !classP W f.cls) = false) : opOk W f 0 := by
 rw [bif_or] at h1
 simp only [Bool.or_eq_false_iff, bne_eq_false_iff_eq, Bool.not_eq_false'] at h1
 exact ⟨by omega, by omega, by rw [h0]; rfl, fun _ => by simp [leafOkP, h0, h1]⟩
theorem op_isno {W : FW} {f : Fact} (h0 : f.op = 2) (h1 : (bif f.n != 0 then true else !classP W f.cls) = true) : nodeOkB W f = false := by
 rw [bif_or] at h1
 have h2 : ((f.n == 0) && classP W f.cls) = false := by
  simp only [Bool.or_eq_true, bne_iff_ne, Bool.not_eq_true'] at h1
  rw [Bool.and_eq_false_iff, beq_eq_false_iff_ne]; exact h1
 have hl : leafP f = true := by simp [leafP, h0]
 rw [nodeOkB, if_pos hl, leafOkP, if_pos h0, h2]; simp
theorem op_num {W : FW} {f : Fact} (h0 : f.op = 3 ∨ f.op = 4) (h1 : (bif bif f.cls != 0 then true else decide (f.n < -1000000000) then true else decide (1000000000 < f.n)) = false) : opOk W f 0 := by
 rw [bif_or, bif_or] at h1
 simp only [Bool.or_eq_false_iff, bne_eq_false_iff_eq, decide_eq_false_iff_not] at h1
 refine ⟨by omega, by omega, ?_, fun _ => ?_⟩
 ·rcases h0 with e | e <;> rw [e] <;> rfl
 ·rw [leafOkP, if_neg (by omega)]
  simp only [Bool.and_eq_true, beq_iff_eq, decide_eq_true_eq]; omega
theorem op_numno {W : FW} {f : Fact} (h0 : f.op = 3 ∨ f.op = 4) (h1 : (bif bif f.cls != 0 then true else decide (f.n < -1000000000) then true else decide (1000000000 < f.n)) = true) : nodeOkB W f = false := by
 rw [bif_or, bif_or] at h1
 simp only [Bool.or_eq_true, bne_iff_ne, decide_eq_true_eq] at h1
 have h2 : leafOkP W f = false := by
  rw [leafOkP, if_neg (by omega)]
  simp only [Bool.and_eq_false_iff, beq_eq_false_iff_ne, decide_eq_false_iff_not]; omega
 have hl : leafP f = true := by simp only [leafP, Bool.and_eq_true, decide_eq_true_eq]; omega
 rw [nodeOkB, if_pos hl, h2]; simp
theorem op_else {W : FW} {f : Fact} {kd : Int} (h : f.op = 1 ∨ f.op = 5 ∨ f.op = 6 ∨ f.op = 7) (hk : kd = kidsP f.op) : opOk W f kd := ⟨by omega, by omega, hk, fun hl => by simp only [leafP, Bool.and_eq_true, decide_eq_true_eq] at hl; omega⟩
theorem op_no {W : FW} {f : Fact} (h : f.op ≠ 1 ∧ f.op ≠ 2 ∧ f.op ≠ 3 ∧ f.op ≠ 4 ∧ f.op ≠ 5 ∧ f.op ≠ 6 ∧ f.op ≠ 7) : nodeOkB W f = false := by
 have : (decide (1 ≤ f.op) && decide (f.op ≤ 7)) = false := by simp only [Bool.and_eq_false_iff, decide_eq_false_iff_not]; omega
 rw [nodeOkB, this]; simp
theorem plain_arg {W : FW} {f : Fact} (h : plainP f = true) : argP W f = true := by
 simp only [plainP, Bool.not_eq_true', Bool.or_eq_false_iff, bne_eq_false_iff_eq, decide_eq_false_iff_not] at h
 have hp : f.path = [] := List.eq_nil_of_length_eq_zero (by omega)
 simp [argP, h.1.1.1, hp, pathP]
theorem node_val {W : FW} {f : Fact} {kd : Int} (h : opOk W f kd) : nodeOkB W f = ((f.kids.length : Int) == kd && argP W f && (leafP f || plainP f)) := by
 obtain ⟨h1, h2, rfl, h4⟩ := h
 rw [nodeOkB, decide_eq_true h1, decide_eq_true h2, Bool.true_and, Bool.true_and, Bool.and_assoc]
 congr 1
 by_cases hl : leafP f = true
 ·rw [if_pos hl, h4 hl, hl]; simp
 ·rw [if_neg hl, Bool.eq_false_iff.2 hl, Bool.false_or]
  cases hp : plainP f with
  | false => simp
  | true => rw [plain_arg hp]; rfl
theorem wf_no {W : FW} {f : Fact} (h : nodeOkB W f = false) : wfB W f = false := by
 cases hw : wfB W f with
 | false => rfl
 | true => rw [(wfB_iff.1 hw).1] at h; cases h
theorem wf_kid_no {W : FW} {f : Fact} {i : Nat} (hi : i < f.kids.length) (h : wfB W (f.kids.getD i default) = false) : wfB W f = false := by
 cases hw : wfB W f with
 | false => rfl
 | true => rw [(wfB_iff.1 hw).2 _ (getD_mem hi)] at h; cases h
theorem wf_yes {W : FW} {f : Fact} (h : nodeOkB W f = true) (hk : f.kids.all (wfB W) = true) : wfB W f = true := wfB_iff.2 ⟨h, List.all_eq_true.1 hk⟩
theorem leaf_eq {W : FW} {f : Fact} {kd : Int} (h : opOk W f kd) : (f.op == 2 || f.op == 3 || f.op == 4) = leafP f := by
 rw [leafP, Bool.eq_iff_iff]; simp only [Bool.or_eq_true, beq_iff_eq, Bool.and_eq_true, decide_eq_true_eq]; omega
theorem arg_bif {W : FW} {f : Fact} {kd : Int} : (bif bif bif (f.kids.length : Int) != kd then true else decide (f.arg < 0) then true else decide (3 ≤ f.arg) then true else !pathP W f.path) = !((f.kids.length : Int) == kd && argP W f) := by
 rw [bif_or, bif_or, bif_or, argP, bne]
 show (((_ || decide (f.arg < 0)) || decide (3 ≤ f.arg)) || _) = !(_ && !((decide (f.arg < 0) || decide (3 ≤ f.arg)) || _))
 generalize ((f.kids.length : Int) == kd) = a
 generalize decide (f.arg < 0) = b
 generalize decide (3 ≤ f.arg) = c
 generalize pathP W f.path = d
 cases a <;> cases b <;> cases c <;> cases d <;> rfl
theorem plain_bif {f : Fact} : (bif bif bif f.arg != 0 then true else decide (0 < (f.path.length : Int)) then true else f.cls != 0 then true else f.n != 0) = !plainP f := by
 rw [bif_or, bif_or, bif_or, plainP, Bool.not_not]
theorem node_bif {W : FW} {f : Fact} {kd : Int} (hop : opOk W f kd) (hna : ((f.kids.length : Int) == kd && argP W f) = true) : (bif !(f.op == 2 || f.op == 3 || f.op == 4) then bif bif bif f.arg != 0 then true else decide (0 < (f.path.length : Int)) then true else f.cls != 0 then true else f.n != 0 else false) = !nodeOkB W f := by
 rw [plain_bif, leaf_eq hop, node_val hop, hna]
 cases leafP f <;> cases plainP f <;> rfl
theorem p87_step {W : FW} (hW : W.parents.length ≤ 60) (f : Fact) (ih : ∀ k ∈ f.kids, PCall Tryz.prog 87 [AV.world W, AV.fact k] (.b (wfB W k))) : PCall Tryz.prog 87 [AV.world W, AV.fact f] (.b (wfB W f)) := by
 intro H
 refine ACall.mk' (n := 103) Tryz.func87 rfl (by kernel_rfl) rfl rfl (fun B I w0 => ?_)
 refine CW.boundA (t := 1) (i := 5) rfl rfl (fun hb0 => ?_)
 refine CW.boundA (t := 1) (i := 2) rfl rfl (fun hb1 => ?_)
 refine S2 ?_; refine Obx ?_; refine Obx ?_; refine Oas ?_; refine S4 ?_; refine Oas ?_; refine S2 ?_
 refine CW.cutJ (fun st => ∃ kd : Int, st = ⟨[(5, .i kd), (3, .ptr (Fcells f)), (2, .ptr (Wcells W))], H⟩ ∧ opOk W f kd) ?_ ?_
 ·
  refine S2 ?_; refine Ofa ?_; refine Old ?_; refine S5 ?_; refine Ocm ?_; refine Oas ?_; refine S2 ?_
  refine CW.cond rfl (fun h0 => ?_) (fun h0 => ?_)
  ·
   replace h0 := nm h0
   refine S2 ?_; refine Ofa ?_; refine Old ?_; refine Ocm ?_; refine Omv ?_; refine Pla ?_; refine Pfa ?_; refine Pld ?_
   refine OL.guardC rfl rfl rfl rfl rfl rfl (fun hg => POp.call (.mk' rfl rfl rfl rfl (by first | rfl | ((repeat (first | exact hg | rfl | refine Bool.and_eq_true_iff.2 ⟨?_, ?_⟩)); done) | simp_all [strip, constAV])) (p51 W _ hW)) ?_
   refine Pnt ?_; refine Opk ?_; refine S2 ?_
   refine CW.cond rfl (fun h1 => ?_) (fun h1 => ?_)
   ·
    replace h1 := nm h1
    refine S2 ?_; refine Oas ?_; refine S5 ?_
    refine r1 4 (H) ?_
    exact ⟨retB (wf_no (op_isno h0 h1)).symm, rfl⟩
   ·
    replace h1 := nm h1
    refine S2 ?_
    exact Done.cutJ ⟨0, rfl, op_is h0 h1⟩ (by repeat (first | exact trivial | refine ⟨rfl, ?_⟩)) (by repeat (first | exact List.Sublist.refl _ | refine List.Sublist.cons _ ?_))
  ·
   replace h0 := nm h0
   refine S3 ?_; refine Ocm ?_; refine Oas ?_; refine S2 ?_
   refine CW.cond rfl (fun h2 => ?_) (fun h2 => ?_)
   ·
    replace h2 := nm h2
    refine S2 ?_
    refine CW.cond rfl (fun h3 => ?_) (fun h3 => ?_)
    ·
     replace h3 := nm h3
     refine S2 ?_; refine Ofa ?_; refine Old ?_; refine Ocm ?_; refine Omv ?_; refine Pfa ?_; refine Pld ?_; refine Pcm ?_; refine Opk ?_; refine Omv ?_; refine Pfa ?_; refine Pld ?_
     refine Pcm ?_; refine Opk ?_; refine S2 ?_
     refine CW.cond rfl (fun h4 => ?_) (fun h4 => ?_)
     ·
      replace h4 := nm h4
      refine S2 ?_; refine Oas ?_; refine S5 ?_
      refine r1 4 (H) ?_
      exact ⟨retB (wf_no (op_numno (.inl h2) h4)).symm, rfl⟩
     ·
      replace h4 := nm h4
      refine S2 ?_
      exact Done.cutJ ⟨0, rfl, op_num (.inl h2) h4⟩ (by repeat (first | exact trivial | refine ⟨rfl, ?_⟩)) (by repeat (first | exact List.Sublist.refl _ | refine List.Sublist.cons _ ?_))
    ·
     exact absurd h2 (by simpa using h3)
   ·
    replace h2 := nm h2
    refine S1 ?_; refine Ocm ?_; refine Oas ?_; refine S2 ?_
    refine CW.cond rfl (fun h5 => ?_) (fun h5 => ?_)
    ·
     replace h5 := nm h5
     refine S2 ?_; refine Ofa ?_; refine Old ?_; refine Ocm ?_; refine Omv ?_; refine Pfa ?_; refine Pld ?_; refine Pcm ?_; refine Opk ?_; refine Omv ?_; refine Pfa ?_; refine Pld ?_
     refine Pcm ?_; refine Opk ?_; refine S2 ?_
     refine CW.cond rfl (fun h6 => ?_) (fun h6 => ?_)
     ·
      replace h6 := nm h6
      refine S2 ?_; refine Oas ?_; refine S5 ?_
      refine r1 4 (H) ?_
      exact ⟨retB (wf_no (op_numno (.inr h5) h6)).symm, rfl⟩
     ·
      replace h6 := nm h6
      refine S2 ?_
      exact Done.cutJ ⟨0, rfl, op_num (.inr h5) h6⟩ (by repeat (first | exact trivial | refine ⟨rfl, ?_⟩)) (by repeat (first | exact List.Sublist.refl _ | refine List.Sublist.cons _ ?_))
    ·
     replace h5 := nm h5
     refine S2 ?_; refine Ocm ?_; refine Oas ?_; refine S2 ?_
     refine CW.cond rfl (fun h7 => ?_) (fun h7 => ?_)
     ·
      replace h7 := nm h7
      refine S2 ?_
      exact Done.cutJ ⟨0, rfl, op_else (by omega) (by rw [h7]; rfl)⟩ (by repeat (first | exact trivial | refine ⟨rfl, ?_⟩)) (by repeat (first | exact List.Sublist.refl _ | refine List.Sublist.cons _ ?_))
     ·
      replace h7 := nm h7
      refine S2 ?_; refine Ocm ?_; refine Oas ?_; refine S2 ?_
      refine CW.cond rfl (fun h8 => ?_) (fun h8 => ?_)
      ·
       replace h8 := nm h8
       refine S1 ?_; refine Oas ?_; refine S2 ?_
       exact Done.cutJ ⟨1, rfl, op_else (by omega) (by rw [h8]; rfl)⟩ (by repeat (first | exact trivial | refine ⟨rfl, ?_⟩)) (by repeat (first | exact List.Sublist.refl _ | refine List.Sublist.cons _ ?_))
      ·
       replace h8 := nm h8
       refine S3 ?_; refine Ocm ?_; refine Oas ?_; refine S2 ?_
       refine CW.cond rfl (fun h9 => ?_) (fun h9 => ?_)
       ·
        replace h9 := nm h9
        refine S2 ?_
        refine CW.cond rfl (fun h10 => ?_) (fun h10 => ?_)
        ·
         replace h10 := nm h10
         refine S1 ?_; refine Oas ?_; refine S2 ?_
         exact Done.cutJ ⟨2, rfl, op_else (by omega) (by rw [h9]; rfl)⟩ (by repeat (first | exact trivial | refine ⟨rfl, ?_⟩)) (by repeat (first | exact List.Sublist.refl _ | refine List.Sublist.cons _ ?_))
        ·
         exact absurd h9 (by simpa using h10)
       ·
        replace h9 := nm h9
        refine S1 ?_; refine Ocm ?_; refine Oas ?_; refine S2 ?_
        refine CW.cond rfl (fun h11 => ?_) (fun h11 => ?_)
        ·
         replace h11 := nm h11
         refine S1 ?_; refine Oas ?_; refine S2 ?_
         exact Done.cutJ ⟨2, rfl, op_else (by omega) (by rw [h11]; rfl)⟩ (by repeat (first | exact trivial | refine ⟨rfl, ?_⟩)) (by repeat (first | exact List.Sublist.refl _ | refine List.Sublist.cons _ ?_))
        ·
         replace h11 := nm h11
         refine S2 ?_; refine Oas ?_; refine S5 ?_
         refine r1 4 (H) ?_
         exact ⟨retB (wf_no (op_no (by omega))).symm, rfl⟩
 ·
  rintro _ ⟨kd, rfl, hop⟩
  refine S3 ?_; refine Ofa ?_; refine Old ?_; refine Oln ?_; refine Omv ?_; refine Ocm ?_; refine Omv ?_; refine Pfa ?_; refine Pld ?_; refine Pcm ?_; refine Opk ?_; refine Omv ?_
  refine Pfa ?_; refine Pld ?_; refine Pcm ?_; refine Opk ?_; refine Omv ?_; refine Pla ?_; refine Pfa ?_; refine Pld ?_
  refine OL.guardC rfl rfl rfl rfl rfl rfl (fun hg => POp.call (.mk' rfl rfl rfl rfl (by first | rfl | ((repeat (first | exact hg | rfl | refine Bool.and_eq_true_iff.2 ⟨?_, ?_⟩)); done) | simp_all [strip, constAV])) (p72 W f.path)) ?_
  refine Pnt ?_; refine Opk ?_; refine S2 ?_
  refine CW.cond rfl (fun h12 => ?_) (fun h12 => ?_)
  ·
   replace h12 := nm h12
   refine S2 ?_; refine Oas ?_; refine S4 ?_
   refine r1 4 (H) ?_
   exact ⟨retB (by rw [arg_bif] at h12; exact (wf_no (by rw [node_val hop]; simp only [Bool.not_eq_true'] at h12; rw [h12]; rfl)).symm), rfl⟩
  ·
   replace h12 := nm h12
   have hna : ((f.kids.length : Int) == kd && argP W f) = true := by rw [arg_bif] at h12; simpa using h12
   refine S5 ?_; refine Ola ?_
   refine OL.popC rfl rfl rfl (POp.call (.mk' rfl rfl rfl rfl rfl) (p125 f)) ?_
   refine Ont ?_; refine Omv ?_; refine Pfa ?_; refine Pld ?_; refine Pcm ?_; refine Pmv ?_; refine Pfa ?_; refine Pld ?_; refine Pln ?_; refine Pcm ?_; refine Ppk ?_; refine Pmv ?_
   refine Pfa ?_; refine Pld ?_; refine Pcm ?_; refine Ppk ?_; refine Pmv ?_; refine Pfa ?_; refine Pld ?_; refine Pcm ?_; refine Ppk ?_; refine Opk ?_; refine S2 ?_
   refine CW.cond rfl (fun h13 => ?_) (fun h13 => ?_)
   ·
    replace h13 := nm h13
    refine S2 ?_; refine Oas ?_; refine S4 ?_
    refine r1 4 (H) ?_
    exact ⟨retB (by rw [node_bif hop hna] at h13; exact (wf_no (by simpa using h13)).symm), rfl⟩
   ·
    replace h13 := nm h13
    have hno : nodeOkB W f = true := by rw [node_bif hop hna] at h13; simpa using h13
    refine S5 ?_; refine Ofa ?_; refine Old ?_; refine Oln ?_; refine Omv ?_; refine S3 ?_
    refine lj (fun m st => ∃ (i : Nat), st = ⟨[(94, .i i), (93, .i f.kids.length), (92, AV.facts f.kids), (3, .ptr (Fcells f)), (2, .ptr (Wcells W))], H⟩ ∧ m = f.kids.length - i ∧ i ≤ f.kids.length ∧ (f.kids.take i).all (wfB W) = true) (⟨0, rfl, rfl, by omega, rfl⟩) ?_
    rintro m _ ⟨i, rfl, rfl, hi, hall⟩
    refine S2 ?_; refine Ocm ?_; refine S3 ?_
    refine CW.cond rfl (fun h14 => ?_) (fun h14 => ?_)
    ·
     replace h14 := nm h14
     refine S6 ?_; refine Oix ?_; refine Ola ?_
     refine OL.alC rfl rfl rfl rfl (fun b0 => ?_)
     refine Sto ?_; refine S4 ?_; refine Ola ?_; refine Ola ?_
     refine OL.popC rfl rfl rfl (POp.call (.mk' rfl rfl rfl rfl rfl) (ih (f.kids.getD i default) (getD_mem (by omega)))) ?_
     refine Ont ?_; refine S2 ?_
     refine CW.cond rfl (fun h15 => ?_) (fun h15 => ?_)
     ·
      replace h15 := nm h15
      refine S2 ?_; refine Oas ?_; refine S8 ?_
      refine r1 4 (H) ?_
      exact ⟨retB (wf_kid_no (i := i) (by omega) (by simpa using h15)).symm, rfl⟩
     ·
      replace h15 := nm h15
      refine S4 ?_; refine Oar ?_; refine Omv ?_; refine S1 ?_
      exact ag (⟨i + 1, rfl, rfl, by omega, by rw [← take_getD (by omega), List.all_append, hall]; simpa using h15⟩)
    ·
     replace h14 := nm h14
     obtain rfl : i = f.kids.length := by omega
     rw [List.take_length] at hall
     refine S7 ?_; refine Oas ?_; refine S3 ?_
     refine r1 4 (H) ?_
     exact ⟨retB (wf_yes hno hall).symm, rfl⟩
theorem p87 {W : FW} (hW : W.parents.length ≤ 60) : ∀ f : Fact, PCall Tryz.prog 87 [AV.world W, AV.fact f] (.b (wfB W f)) := Fact.ind1 (p87_step hW)
theorem p20 {W : FW} (hW : W.parents.length ≤ 60) (f : Fact) : PCall Tryz.prog 20 [AV.world W, AV.fact f] (.b (decide (nodesN f ≤ 24) && decide (depthN f ≤ 12) && wfB W f)) := by
 intro H
 refine ACall.mk' (n := 18) Tryz.func20 rfl (by kernel_rfl) rfl rfl (fun B I w0 => ?_)
 refine S2 ?_; refine Obx ?_; refine Obx ?_; refine Oas ?_; refine S4 ?_; refine Ola ?_
 refine OL.popC rfl rfl rfl (POp.call (.mk' rfl rfl rfl rfl rfl) (p29 f)) ?_
 refine Ocm ?_; refine Omv ?_; refine Pla ?_
 refine OL.guardC rfl rfl rfl rfl rfl rfl (fun hg => POp.call (.mk' rfl rfl rfl rfl (by first | rfl | ((repeat (first | exact hg | rfl | refine Bool.and_eq_true_iff.2 ⟨?_, ?_⟩)); done) | simp_all [strip, constAV])) (p86 f (by simp at hg; omega))) ?_
 refine Pcm ?_; refine Opk ?_; refine Omv ?_; refine Pla ?_; refine Pla ?_
 refine OL.guardC rfl rfl rfl rfl rfl rfl (fun hg => POp.call (.mk' rfl rfl rfl rfl (by first | rfl | ((repeat (first | exact hg | rfl | refine Bool.and_eq_true_iff.2 ⟨?_, ?_⟩)); done) | simp_all [strip, constAV])) (p87 hW f)) ?_
 refine Opk ?_; refine Oas ?_; refine S3 ?_
 refine r1 4 (H) ?_
 exact ⟨retB (by rw [show decide (min (nodesN f : Int) 25 ≤ 24) = decide (nodesN f ≤ 24) from by rw [decide_eq_decide]; omega, show decide ((depthN f : Int) ≤ 12) = decide (depthN f ≤ 12) from by rw [decide_eq_decide]; omega]; cases decide (nodesN f ≤ 24) <;> cases decide (depthN f ≤ 12) <;> rfl), rfl⟩
mutual
theorem node_deep (W : FW) : ∀ (f : Fact) (left deep : Int), wfB W f = true → (nodesN f : Int) ≤ left → (depthN f : Int) ≤ deep → nodeP W f left deep = (true, left - nodesN f)
 | .mk op arg path cls n kids, left, deep, h, h1, h2 => by
  have hw := wfB_iff.1 h
  rw [nodesN] at h1 ⊢
  rw [depthN] at h2
  rw [nodeP]
  have hb : badP (.mk op arg path cls n kids) (left - 1) deep = false := by
   have h0 := hw.1
   simp only [nodeOkB, Bool.and_eq_true, decide_eq_true_eq, beq_iff_eq] at h0
   simp only [badP, Bool.or_eq_false_iff, decide_eq_false_iff_not, bne_eq_false_iff_eq, beq_eq_false_iff_ne]
   refine ⟨⟨⟨⟨by omega, by omega⟩, by omega⟩, by omega⟩, h0.1.2⟩
  rw [if_neg (by rw [hb]; simp)]
  have h0 := hw.1
  rw [nodeOkB, Bool.and_eq_true] at h0
  by_cases hl : leafP (.mk op arg path cls n kids) = true
  ·have hk : kids = [] := leaf_kids hw.1 hl
   rw [if_pos hl] at h0 ⊢
   rw [h0.2, hk]; simp [nodesNs]
  ·rw [if_neg hl] at h0 ⊢
   rw [if_pos h0.2]
   rw [nodes_deep W kids (left - 1) (deep - 1) (by rw [wfB, Bool.and_eq_true] at h; exact h.2) (by omega) (by omega)]
   congr 1; omega
theorem nodes_deep (W : FW) : ∀ (l : List Fact) (left deep : Int), wfBs W l = true → (nodesNs l : Int) ≤ left → (depthNs l : Int) ≤ deep → nodesP W l left deep = (true, left - nodesNs l)
 | [], left, deep, _, _, _ => by rw [nodesP, nodesNs]; simp
 | k :: r, left, deep, h, h1, h2 => by
  rw [wfBs, Bool.and_eq_true] at h
  rw [nodesNs] at h1 ⊢
  rw [depthNs] at h2
  rw [nodesP, node_deep W k left deep h.1 (by omega) (by omega), if_pos rfl, nodes_deep W r _ deep h.2 (by omega) (by omega)]
  congr 1; omega
end
mutual
theorem deep_node (W : FW) : ∀ (f : Fact) (left deep : Int), 0 ≤ deep → (nodeP W f left deep).1 = true → (depthN f : Int) ≤ deep
 | .mk op arg path cls n kids, left, deep, hd, h => by
  have hw := (node_wf W _ _ _ h).1
  rw [nodeP] at h
  rw [depthN]
  by_cases hb : badP (.mk op arg path cls n kids) (left - 1) deep = true
  ·rw [if_pos hb] at h; cases h
  ·rw [if_neg hb] at h
   have hd1 : 1 ≤ deep := by
    simp only [badP, Bool.not_eq_true, Bool.or_eq_false_iff, beq_eq_false_iff_ne] at hb
    omega
   by_cases hl : leafP (.mk op arg path cls n kids) = true
   ·have hk : kids = [] := leaf_kids (wfB_iff.1 hw).1 hl
    subst hk; simp [depthNs]; omega
   ·rw [if_neg hl] at h
    by_cases hp : plainP (.mk op arg path cls n kids) = true
    ·rw [if_pos hp] at h
     have := deep_nodes W kids (left - 1) (deep - 1) (by omega) h
     omega
    ·rw [if_neg hp] at h; cases h
theorem deep_nodes (W : FW) : ∀ (l : List Fact) (left deep : Int), 0 ≤ deep → (nodesP W l left deep).1 = true → (depthNs l : Int) ≤ deep
 | [], left, deep, hd, _ => by rw [depthNs]; omega
 | k :: r, left, deep, hd, h => by
  rw [nodesP] at h
  rw [depthNs]
  by_cases h1 : (nodeP W k left deep).1 = true
  ·rw [if_pos h1] at h
   have a := deep_node W k left deep hd h1
   have b := deep_nodes W r _ deep hd h
   omega
  ·rw [if_neg h1] at h; exact absurd h h1
end
theorem formed_eq (W : FW) (f : Fact) : (decide (nodesN f ≤ 24) && decide (depthN f ≤ 12) && wfB W f) = formedP W f := by
 rw [Bool.eq_iff_iff]
 simp only [Bool.and_eq_true, decide_eq_true_eq]
 constructor
 ·rintro ⟨⟨h1, h2⟩, h3⟩
  rw [formedP, node_deep W f 24 12 h3 (by omega) (by omega)]
 ·intro h
  have h1 := formed_wf h
  have h2 := deep_node W f 24 12 (by omega) h
  exact ⟨⟨h1.2, by omega⟩, h1.1⟩
theorem p20' {W : FW} (hW : W.parents.length ≤ 60) (f : Fact) : PCall Tryz.prog 20 [AV.world W, AV.fact f] (.b (formedP W f)) := by rw [← formed_eq]; exact p20 hW f
structure Gv where
 W : FW
 A : Fact
 B : Fact
 objs : List (Int × List (Int × Int))
 args : List (Int × Int)
 arg : Int
 path : List Int
abbrev AV.vals (l : List (Int × Int)) : AV := .sl 2 (l.map fun v => [AV.i v.1, AV.i v.2])
abbrev AV.things (l : List (Int × List (Int × Int))) : AV := .sl 2 (l.map fun o => [AV.i o.1, AV.vals o.2])
def Gcells (g : Gv) : List AV := Wcells g.W ++ Fcells g.A ++ Fcells g.B ++ [AV.things g.objs, AV.vals g.args, .i g.arg, AV.ints g.path]
abbrev AV.given (g : Gv) : AV := .agg (Gcells g)
theorem good1 (W : FW) (f : Fact) : goodP W [f] = (worldP W && formedP W f) := by simp [goodP]
open Go.ChangeShapes
section
variable {H : Type} {enc : TypeId × Value → H} {w : World} {base : Nat} {spare : Nat → Bool} {held : Bool}
theorem reads_ints (n : Nat) : Reads enc Tryz.prog w base spare held n 23 (fun l : List Int => [AV.ints l]) :=
 Reads.le (reads_slice (n := n) Tryz.underlying23 (by kernel_rfl) (by omega) (fun _ => rfl) (reads_int Tryz.underlying3)) (by omega)
theorem reads_intss (n : Nat) : Reads enc Tryz.prog w base spare held n 22 (fun l : List (List Int) => [AV.intss l]) :=
 Reads.le (reads_slice (n := n) Tryz.underlying22 (by kernel_rfl) (by omega) (fun _ => rfl) (reads_ints n)) (by omega)
theorem reads_world (n : Nat) : Reads enc Tryz.prog w base spare held n 25 Wcells := fun fuel hf cs x h => by
 obtain ⟨xs, m, rfl, _, hl, hn, hg⟩ := DataW.trod_struct Tryz.underlying25 h
 have hl : cs.length = 2 := hl.trans (by kernel_rfl)
 have h0 := hg 0 _ rfl
 have h1 := hg 1 _ rfl
 rw [List.getElem?_eq_getElem (by rw [hn]; decide)] at h0 h1
 obtain ⟨y0, r0⟩ := reads_intss m m (Nat.le_refl _) _ _ h0
 obtain ⟨y1, r1⟩ := reads_ints m m (Nat.le_refl _) _ _ h1
 refine ⟨⟨y0, y1⟩, ?_⟩
 have := relL_join (a := 0) (n := 1) (m := 1) r0 r1
 rwa [List.drop_zero, List.take_of_length_le (by omega)] at this
theorem reads_fact : ∀ n : Nat, Reads enc Tryz.prog w base spare held n 29 Fcells
 | 0, fuel, hf, cs, x, h => by
  obtain ⟨xs, m, rfl, _⟩ := DataW.trod_struct Tryz.underlying29 h
  omega
 | n + 1, fuel, hf, cs, x, h => by
  obtain ⟨xs, m, rfl, _, hl, hn, hg⟩ := DataW.trod_struct Tryz.underlying29 h
  have hl : cs.length = 6 := hl.trans (by kernel_rfl)
  have h0 := hg 0 _ rfl
  have h1 := hg 1 _ rfl
  have h2 := hg 2 _ rfl
  have h3 := hg 3 _ rfl
  have h4 := hg 4 _ rfl
  have h5 := hg 5 _ rfl
  rw [List.getElem?_eq_getElem (by rw [hn]; decide)] at h0 h1 h2 h3 h4 h5
  obtain ⟨y0, r0⟩ := reads_int (n := m) Tryz.underlying26 m (Nat.le_refl _) _ _ h0
  obtain ⟨y1, r1⟩ := reads_int (n := m) Tryz.underlying3 m (Nat.le_refl _) _ _ h1
  obtain ⟨y2, r2⟩ := reads_ints m m (Nat.le_refl _) _ _ h2
  obtain ⟨y3, r3⟩ := reads_int (n := m) Tryz.underlying3 m (Nat.le_refl _) _ _ h3
  obtain ⟨y4, r4⟩ := reads_int (n := m) Tryz.underlying3 m (Nat.le_refl _) _ _ h4
  obtain ⟨y5, r5⟩ := reads_slice (n := n) (k := 6) Tryz.underlying27 (by kernel_rfl) (by omega) (fun _ => rfl) (reads_fact n) m (by omega) _ _ h5
  refine ⟨.mk y0 y1 y2 y3 y4 y5, ?_⟩
  have r5 : RelL (allI w) w [AV.sl 6 (y5.map Fcells)] _ := r5
  rw [← encFs_map] at r5
  have := relL_join (a := 0) (n := 5) (m := 1) (relL_join (a := 0) (n := 4) (m := 1) (relL_join (a := 0) (n := 3) (m := 1) (relL_join (a := 0) (n := 2) (m := 1) (relL_join (a := 0) (n := 1) (m := 1) r0 r1) r2) r3) r4) r5
  rwa [List.drop_zero, List.take_of_length_le (by omega)] at this
theorem reads_val (n : Nat) : Reads enc Tryz.prog w base spare held n 97 (fun v : Int × Int => [AV.i v.1, AV.i v.2]) := fun fuel hf cs x h => by
 obtain ⟨xs, m, rfl, _, hl, hn, hg⟩ := DataW.trod_struct Tryz.underlying97 h
 have hl : cs.length = 2 := hl.trans (by kernel_rfl)
 have h0 := hg 0 _ rfl
 have h1 := hg 1 _ rfl
 rw [List.getElem?_eq_getElem (by rw [hn]; decide)] at h0 h1
 obtain ⟨y0, r0⟩ := reads_int (n := m) Tryz.underlying95 m (Nat.le_refl _) _ _ h0
 obtain ⟨y1, r1⟩ := reads_int (n := m) Tryz.underlying3 m (Nat.le_refl _) _ _ h1
 refine ⟨⟨y0, y1⟩, ?_⟩
 have := relL_join (a := 0) (n := 1) (m := 1) r0 r1
 rwa [List.drop_zero, List.take_of_length_le (by omega)] at this
theorem reads_vals (n : Nat) : Reads enc Tryz.prog w base spare held n 31 (fun l : List (Int × Int) => [AV.vals l]) :=
 Reads.le (reads_slice (n := n) Tryz.underlying31 (by kernel_rfl) (by omega) (fun _ => rfl) (reads_val n)) (by omega)
theorem reads_thing (n : Nat) : Reads enc Tryz.prog w base spare held n 160 (fun o : Int × List (Int × Int) => [AV.i o.1, AV.vals o.2]) := fun fuel hf cs x h => by
 obtain ⟨xs, m, rfl, _, hl, hn, hg⟩ := DataW.trod_struct Tryz.underlying160 h
 have hl : cs.length = 2 := hl.trans (by kernel_rfl)
 have h0 := hg 0 _ rfl
 have h1 := hg 1 _ rfl
 rw [List.getElem?_eq_getElem (by rw [hn]; decide)] at h0 h1
 obtain ⟨y0, r0⟩ := reads_int (n := m) Tryz.underlying3 m (Nat.le_refl _) _ _ h0
 obtain ⟨y1, r1⟩ := reads_vals m m (Nat.le_refl _) _ _ h1
 refine ⟨⟨y0, y1⟩, ?_⟩
 have := relL_join (a := 0) (n := 1) (m := 1) r0 r1
 rwa [List.drop_zero, List.take_of_length_le (by omega)] at this
theorem reads_things (n : Nat) : Reads enc Tryz.prog w base spare held n 30 (fun l : List (Int × List (Int × Int)) => [AV.things l]) :=
 Reads.le (reads_slice (n := n) Tryz.underlying30 (by kernel_rfl) (by omega) (fun _ => rfl) (reads_thing n)) (by omega)
theorem reads_given (n : Nat) : Reads enc Tryz.prog w base spare held n 33 Gcells := fun fuel hf cs x h => by
 obtain ⟨xs, m, rfl, _, hl, hn, hg⟩ := DataW.trod_struct Tryz.underlying33 h
 have hl : cs.length = 18 := hl.trans (by kernel_rfl)
 have h0 := hg 0 _ rfl
 have h1 := hg 1 _ rfl
 have h2 := hg 2 _ rfl
 have h3 := hg 3 _ rfl
 have h4 := hg 4 _ rfl
 have h5 := hg 5 _ rfl
 have h6 := hg 6 _ rfl
 rw [List.getElem?_eq_getElem (by rw [hn]; decide)] at h0 h1 h2 h3 h4 h5 h6
 obtain ⟨y0, r0⟩ := reads_world m m (Nat.le_refl _) _ _ h0
 obtain ⟨y1, r1⟩ := reads_fact m m (Nat.le_refl _) _ _ h1
 obtain ⟨y2, r2⟩ := reads_fact m m (Nat.le_refl _) _ _ h2
 obtain ⟨y3, r3⟩ := reads_things m m (Nat.le_refl _) _ _ h3
 obtain ⟨y4, r4⟩ := reads_vals m m (Nat.le_refl _) _ _ h4
 obtain ⟨y5, r5⟩ := reads_int (n := m) Tryz.underlying3 m (Nat.le_refl _) _ _ h5
 obtain ⟨y6, r6⟩ := reads_ints m m (Nat.le_refl _) _ _ h6
 refine ⟨⟨y0, y1, y2, y3, y4, y5, y6⟩, ?_⟩
 have := relL_join (a := 0) (n := 17) (m := 1) (relL_join (a := 0) (n := 16) (m := 1) (relL_join (a := 0) (n := 15) (m := 1) (relL_join (a := 0) (n := 14) (m := 1) (relL_join (a := 0) (n := 8) (m := 6) (relL_join (a := 0) (n := 2) (m := 6) r0 r1) r2) r3) r4) r5) r6
 rwa [List.drop_zero, List.take_of_length_le (by omega)] at this
end
def givenZero : Array Value := #[.slice none 0 0, .slice none 0 0, .int .i64 0, .int .i64 0, .slice none 0 0, .int .i64 0, .int .i64 0, .slice none 0 0, .int .i64 0, .int .i64 0, .slice none 0 0, .int .i64 0, .int .i64 0, .slice none 0 0, .slice none 0 0, .slice none 0 0, .int .i64 0, .slice none 0 0]
section
variable {H : Type} {enc : TypeId × Value → H} {w : World} {v : Value} {d : DataW H} {ps : List MemPlace} {base base' : Nat} {r : Reach}
theorem given_of (h : DataW.Trod enc Tryz.prog w base (fun _ => true) true 33 v d ps) : ∃ g, Rel (allI w) w (AV.given g) v := by
 obtain ⟨fuel, h⟩ := h
 obtain ⟨g, hg⟩ := reads_given fuel fuel (Nat.le_refl _) _ _ h
 exact ⟨g, rel_agg hg (by simp [Gcells, Wcells, Fcells])⟩
end
end Go.Proofs.YtiljpbljebfhnaaGreat
