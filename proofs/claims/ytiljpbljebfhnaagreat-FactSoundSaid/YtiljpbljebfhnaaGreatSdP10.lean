/- Part 10 of the proof: contracts of functions of the program and what they need. No condition beyond those that each theorem names. -/
import Derived.Test.YtiljpbljebfhnaaGreatSdP9
import Derived.ProofKit
set_option linter.unusedVariables false
set_option linter.unusedSimpArgs false
set_option maxRecDepth 10000
namespace Go.Proofs.YtiljpbljebfhnaaGreat
open Go.Eng
open Go.Eng.Fc
theorem good2_imp {a b : Fact} (h : goodP W0 [a, b] = true) : impF W0 a b = impC W0 a b :=
 imp_eq (good_w h) (good_f h (.head _)).1 (good_f h (.tail _ (.head _))).1 (Nat.le_trans (good_f h (.head _)).2 (by omega)) (Nat.le_trans (good_f h (.tail _ (.head _))).2 (by omega))
theorem good1_can {W : FW} {f : Fact} (h : goodP W [f] = true) : canF W f = canC W f :=
 can_eq (good_of (good_w h) (good_f h (.head _)).1 (Nat.le_trans (good_f h (.head _)).2 (by omega)))
theorem p44k (a b : Fact) (want : Bool) (h : goodP W0 [a, b] = true) (hv : impC W0 a b = want) : PCall Tryz.prog 44 [AV.fact a, AV.fact b, .b want] (.b true) := by
 intro H
 refine ACall.mk' (n := 23) Tryz.func44 rfl (by kernel_rfl) rfl rfl (fun B I w0 => ?_)
 refine S2 ?_; refine Obx ?_; refine Obx ?_; refine Oas ?_; refine S3 ?_
 refine CW.dp mixed ?_
 refine DP.anyC 0 3 23 rfl (by decide +kernel) rfl rfl (by decide +kernel) ?_
 refine AD.popC rfl rfl rfl (POp.call (.mk' rfl rfl rfl rfl rfl) (p34)) ?_
 refine Ala ?_; refine Ala ?_
 refine AD.nil ?_
 refine DP.one (k := 3) (by decide +kernel) rfl ?_
 refine OL.popC rfl rfl rfl (POp.call (.mk' rfl rfl rfl rfl rfl) (p24g h)) ?_
 refine OL.nil (Done.dp ?_)
 refine DP.one (k := 4) (by decide +kernel) rfl ?_
 refine Omv ?_
 refine OL.nil (Done.dp ?_)
 refine DP.anyC 5 8 23 rfl (by decide +kernel) rfl rfl (by decide +kernel) ?_
 refine Aex ?_; refine Aex ?_; refine Aas ?_
 refine AD.nil ?_
 refine DP.tailC 8 (by decide +kernel) rfl ?_
 refine Oas ?_; refine S4 ?_; refine Omv ?_; refine Ocm ?_; refine Omv ?_; refine Pmv ?_; refine Pmv ?_; refine Peb ?_; refine Opk ?_; refine Oas ?_; refine S3 ?_
 refine r1 6 (H) ?_
 exact ⟨retB (by rw [good2_imp h, hv]; simp), rfl⟩
theorem p46k (f : Fact) (want : Bool) (h : goodP W0 [f] = true) (hv : canC W0 f = want) : PCall Tryz.prog 46 [AV.fact f, .b want] (.b true) := by
 intro H
 refine ACall.mk' (n := 20) Tryz.func46 rfl (by kernel_rfl) rfl rfl (fun B I w0 => ?_)
 refine S2 ?_; refine Obx ?_; refine Oas ?_; refine S3 ?_
 refine CW.dp mixed ?_
 refine DP.anyC 0 2 20 rfl (by decide +kernel) rfl rfl (by decide +kernel) ?_
 refine AD.popC rfl rfl rfl (POp.call (.mk' rfl rfl rfl rfl rfl) (p34)) ?_
 refine Ala ?_
 refine AD.nil ?_
 refine DP.one (k := 2) (by decide +kernel) rfl ?_
 refine OL.popC rfl rfl rfl (POp.call (.mk' rfl rfl rfl rfl rfl) (p18g h)) ?_
 refine OL.nil (Done.dp ?_)
 refine DP.one (k := 3) (by decide +kernel) rfl ?_
 refine Omv ?_
 refine OL.nil (Done.dp ?_)
 refine DP.anyC 4 7 20 rfl (by decide +kernel) rfl rfl (by decide +kernel) ?_
 refine Aex ?_; refine Aex ?_; refine Aas ?_
 refine AD.nil ?_
 refine DP.tailC 7 (by decide +kernel) rfl ?_
 refine Oas ?_; refine S4 ?_; refine Omv ?_; refine Ocm ?_; refine Omv ?_; refine Pmv ?_; refine Pmv ?_; refine Peb ?_; refine Opk ?_; refine Oas ?_; refine S3 ?_
 refine r1 4 (H) ?_
 exact ⟨retB (by rw [good1_can h, hv]; simp), rfl⟩
theorem p40k1 : PCall Tryz.prog 40 [AV.world W0, .i 6, .i 3] (.tup [.b true, .i 0]) := by
 have := p40g w0_ok (a := 6) (b := 3) (by decide +kernel); rwa [show belowP W0 6 3 = true by decide +kernel] at this
theorem p40k2 : PCall Tryz.prog 40 [AV.world W0, .i 4, .i 5] (.tup [.b false, .i 0]) := by
 have := p40g w0_ok (a := 4) (b := 5) (by decide +kernel); rwa [show belowP W0 4 5 = false by decide +kernel] at this
theorem p40k3 : PCall Tryz.prog 40 [AV.world W0, .i 7, .i 3] (.tup [.b false, .i 2]) := p40c w0_ok (by decide +kernel)
theorem p17k : PCall Tryz.prog 17 [AV.world W0, AV.fact (andF (isF 1 []) (orF (lessF 3 []) (isF 3 [])))] (.tup [AV.factss [[isF 1 [], lessF 3 []]], .i 0]) := by
 have h : goodP W0 [andF (isF 1 []) (orF (lessF 3 []) (isF 3 []))] = true := by decide +kernel
 have := p17g h
 rwa [cases_eq (fun c hc => (good_of (good_w h) (good_f h (.head _)).1 (Nat.le_trans (good_f h (.head _)).2 (by omega))).case false c hc), k12] at this
theorem all_no {W : FW} (hw : worldP W = true) {a b : Fact} (h : goodP W [a, b] = true) (hk : (impCases a b).all (fun c => !together2 W c) = true) : ∀ c ∈ impCases a b, togetherK W c = false := fun c hc => by
 rw [case_two ((imp_good hw (good_f h (.head _)).1 (good_f h (.tail _ (.head _))).1 (good_f h (.head _)).2 (good_f h (.tail _ (.head _))).2).case false c hc)]
 simpa using List.all_eq_true.1 hk c hc
theorem proof_eq {W : FW} (hw : worldP W = true) {a b : Fact} (h : goodP W [a, b] = true) : (impCases a b).map (minC W) = (impCases a b).map (minC2 W) :=
 List.map_congr_left fun c hc => min_eq ((imp_good hw (good_f h (.head _)).1 (good_f h (.tail _ (.head _))).1 (good_f h (.head _)).2 (good_f h (.tail _ (.head _))).2).case false c hc)
theorem p35k : PCall Tryz.prog 35 [AV.world W0, AV.fact (isF 4 []), AV.fact (isF 3 [])] (.tup [AV.intss [[0, 1]], .i 0]) := by
 have h : goodP W0 [isF 4 [], isF 3 []] = true := by decide +kernel
 have := p35g h k13.2.2 (all_no w0_ok h k13.2.1)
 rwa [proof_eq w0_ok h, k13.1] at this
theorem p27k {f g : Fact} (h : goodP W0 [f] = true) (hv : shortF2 W0 f = g) : PCall Tryz.prog 27 [AV.world W0, AV.fact f] (.tup [AV.fact g, .i 0]) := by
 have := p27g h
 have hf := good_f h (.head _)
 rwa [short_eq w0_ok hf.1 (Nat.le_trans (wt_nodes f) (by omega)), hv] at this
theorem p23k (a : List (List Fact)) : PCall Tryz.prog 23 [AV.factss a, AV.factss a] (.b true) := by have := p23 a a; simpa using this
theorem p56k (a : List (List Int)) : PCall Tryz.prog 56 [AV.intss a, AV.intss a] (.b true) := by have := p56 a a; simpa using this
theorem p28k (a : Fact) : PCall Tryz.prog 28 [AV.fact a, AV.fact a] (.b true) := by have := p28 a a; simpa using this
theorem p21 : PCall Tryz.prog 21 [] (.b true) := by
 intro H
 refine ACall.mk' (n := 194) Tryz.func21 rfl (by kernel_rfl) rfl rfl (fun B I w0 => ?_)
 refine S2 ?_; refine Oas ?_; refine S4 ?_
 refine OL.popC rfl rfl rfl (POp.call (.mk' rfl rfl rfl rfl rfl) (p34)) ?_
 refine OL.alC rfl rfl rfl rfl (fun wb => ?_)
 refine Sto ?_; refine S3 ?_
 refine CW.freezeP (d := 1) rfl (.head _ _) ?_
 refine S1 ?_; refine Ola ?_
 refine OL.popC rfl rfl rfl (POp.call (.mk' rfl rfl rfl rfl rfl) (p40k1)) ?_
 refine Omv ?_; refine Oex ?_; refine Oex ?_; refine Oas ?_; refine Oas ?_; refine S4 ?_; refine Ola ?_
 refine OL.popC rfl rfl rfl (POp.call (.mk' rfl rfl rfl rfl rfl) (p40k2)) ?_
 refine Omv ?_; refine Oex ?_; refine Oex ?_; refine Oas ?_; refine Oas ?_; refine S4 ?_; refine Ola ?_
 refine OL.popC rfl rfl rfl (POp.call (.mk' rfl rfl rfl rfl rfl) (p40k3)) ?_
 refine Omv ?_; refine Oex ?_; refine Oex ?_; refine Oas ?_; refine Oas ?_; refine S5 ?_; refine Omv ?_; refine Ocm ?_; refine Omv ?_; refine Pmv ?_; refine Pcm ?_; refine Opk ?_
 refine Omv ?_; refine Pmv ?_; refine Pcm ?_; refine Opk ?_; refine Omv ?_; refine Pmv ?_; refine Pnt ?_; refine Opk ?_; refine Omv ?_; refine Pmv ?_; refine Opk ?_; refine S2 ?_
 refine CW.cond rfl (fun h0 => ?_) (fun h0 => ?_)
 ·
  exact absurd h0 (by decide)
 ·
  refine S5 ?_
  refine OL.popC rfl rfl rfl (POp.callLe (.mk' rfl rfl rfl rfl rfl) (.cons (.refl _) (.cons (AVle.nil 1) .nil)) (p37 4 [])) ?_
  refine OL.popC rfl rfl rfl (POp.callLe (.mk' rfl rfl rfl rfl rfl) (.cons (.refl _) (.cons (AVle.nil 1) .nil)) (p37 3 [])) ?_
  refine OL.popC rfl rfl rfl (POp.call (.mk' rfl rfl rfl rfl rfl) (p44k (isF 4 []) (isF 3 []) true (by decide +kernel) k1)) ?_
  refine Ont ?_; refine Omv ?_
  refine OL.guardC rfl rfl rfl rfl rfl rfl (fun hg => POp.callLe (.mk' rfl rfl rfl rfl rfl) (.cons (.refl _) (.cons (AVle.nil 1) .nil)) (p37 4 [])) ?_
  refine OL.guardC rfl rfl rfl rfl rfl rfl (fun hg => POp.callLe (.mk' rfl rfl rfl rfl rfl) (.cons (.refl _) (.cons (AVle.nil 1) .nil)) (p37 5 [])) ?_
  refine OL.guardC rfl rfl rfl rfl rfl rfl (fun hg => POp.call (.mk' rfl rfl rfl rfl (by first | rfl | ((repeat (first | exact hg | rfl | refine Bool.and_eq_true_iff.2 ⟨?_, ?_⟩)); done) | simp_all [strip, constAV])) ((p88 _ _))) ?_
  refine OL.guardC rfl rfl rfl rfl rfl rfl (fun hg => POp.callLe (.mk' rfl rfl rfl rfl rfl) (.cons (.refl _) (.cons (AVle.nil 1) .nil)) (p37 6 [])) ?_
  refine OL.guardC rfl rfl rfl rfl rfl rfl (fun hg => POp.call (.mk' rfl rfl rfl rfl (by first | rfl | ((repeat (first | exact hg | rfl | refine Bool.and_eq_true_iff.2 ⟨?_, ?_⟩)); done) | simp_all [strip, constAV])) (p44k (andF (isF 4 []) (isF 5 [])) (isF 6 []) false (by decide +kernel) k2)) ?_
  refine Pnt ?_; refine Opk ?_; refine Omv ?_
  refine OL.guardC rfl rfl rfl rfl rfl rfl (fun hg => POp.row rfl rfl (by first | rfl | simp_all [strip]) rfl rfl rfl rfl rfl rfl) ?_
  refine OL.guardC rfl rfl rfl rfl rfl rfl (fun hg => POp.call (.mk' rfl rfl rfl rfl (by first | rfl | ((repeat (first | exact hg | rfl | refine Bool.and_eq_true_iff.2 ⟨?_, ?_⟩)); done) | simp_all [strip, constAV])) (p43 7 [0])) ?_
  refine OL.guardC rfl rfl rfl rfl rfl rfl (fun hg => POp.callLe (.mk' rfl rfl rfl rfl rfl) (.cons (.refl _) (.cons (AVle.nil 1) .nil)) (p37 3 [])) ?_
  refine OL.guardC rfl rfl rfl rfl rfl rfl (fun hg => POp.call (.mk' rfl rfl rfl rfl (by first | rfl | ((repeat (first | exact hg | rfl | refine Bool.and_eq_true_iff.2 ⟨?_, ?_⟩)); done) | simp_all [strip, constAV])) (p44k (lessF 7 [0]) (isF 3 []) true (by decide +kernel) k3)) ?_
  refine Pnt ?_; refine Opk ?_; refine Omv ?_
  refine OL.guardC rfl rfl rfl rfl rfl rfl (fun hg => POp.callLe (.mk' rfl rfl rfl rfl rfl) (.cons (.refl _) (.cons (AVle.nil 1) .nil)) (p43 3 [])) ?_
  refine OL.guardC rfl rfl rfl rfl rfl rfl (fun hg => POp.callLe (.mk' rfl rfl rfl rfl rfl) (.cons (.refl _) (.cons (AVle.nil 1) .nil)) (p43 4 [])) ?_
  refine OL.guardC rfl rfl rfl rfl rfl rfl (fun hg => POp.call (.mk' rfl rfl rfl rfl (by first | rfl | ((repeat (first | exact hg | rfl | refine Bool.and_eq_true_iff.2 ⟨?_, ?_⟩)); done) | simp_all [strip, constAV])) (p44k (lessF 3 []) (lessF 4 []) true (by decide +kernel) k4)) ?_
  refine Pnt ?_; refine Opk ?_; refine Omv ?_
  refine OL.guardC rfl rfl rfl rfl rfl rfl (fun hg => POp.callLe (.mk' rfl rfl rfl rfl rfl) (.cons (.refl _) (.cons (AVle.nil 1) .nil)) (p43 3 [])) ?_
  refine OL.guardC rfl rfl rfl rfl rfl rfl (fun hg => POp.call (.mk' rfl rfl rfl rfl (by first | rfl | ((repeat (first | exact hg | rfl | refine Bool.and_eq_true_iff.2 ⟨?_, ?_⟩)); done) | simp_all [strip, constAV])) ((p89 _))) ?_
  refine OL.guardC rfl rfl rfl rfl rfl rfl (fun hg => POp.callLe (.mk' rfl rfl rfl rfl rfl) (.cons (.refl _) (.cons (AVle.nil 1) .nil)) (p37 1 [])) ?_
  refine OL.guardC rfl rfl rfl rfl rfl rfl (fun hg => POp.call (.mk' rfl rfl rfl rfl (by first | rfl | ((repeat (first | exact hg | rfl | refine Bool.and_eq_true_iff.2 ⟨?_, ?_⟩)); done) | simp_all [strip, constAV])) (p44k (notF (lessF 3 [])) (isF 1 []) false (by decide +kernel) k5)) ?_
  refine Pnt ?_; refine Opk ?_; refine Omv ?_
  refine OL.guardC rfl rfl rfl rfl rfl rfl (fun hg => POp.callLe (.mk' rfl rfl rfl rfl rfl) (.cons (.refl _) (.cons (AVle.nil 1) .nil)) (p43 4 [])) ?_
  refine OL.guardC rfl rfl rfl rfl rfl rfl (fun hg => POp.callLe (.mk' rfl rfl rfl rfl rfl) (.cons (.refl _) (.cons (AVle.nil 1) .nil)) (p45 3 [])) ?_
  refine OL.guardC rfl rfl rfl rfl rfl rfl (fun hg => POp.call (.mk' rfl rfl rfl rfl (by first | rfl | ((repeat (first | exact hg | rfl | refine Bool.and_eq_true_iff.2 ⟨?_, ?_⟩)); done) | simp_all [strip, constAV])) ((p89 _))) ?_
  refine OL.guardC rfl rfl rfl rfl rfl rfl (fun hg => POp.call (.mk' rfl rfl rfl rfl (by first | rfl | ((repeat (first | exact hg | rfl | refine Bool.and_eq_true_iff.2 ⟨?_, ?_⟩)); done) | simp_all [strip, constAV])) ((p88 _ _))) ?_
  refine OL.guardC rfl rfl rfl rfl rfl rfl (fun hg => POp.callLe (.mk' rfl rfl rfl rfl rfl) (.cons (.refl _) (.cons (AVle.nil 1) .nil)) (p43 3 [])) ?_
  refine OL.guardC rfl rfl rfl rfl rfl rfl (fun hg => POp.call (.mk' rfl rfl rfl rfl (by first | rfl | ((repeat (first | exact hg | rfl | refine Bool.and_eq_true_iff.2 ⟨?_, ?_⟩)); done) | simp_all [strip, constAV])) (p44k (andF (lessF 4 []) (notF (eqF 3 []))) (lessF 3 []) true (by decide +kernel) k6)) ?_
  refine Pnt ?_; refine Opk ?_; refine Omv ?_
  refine OL.guardC rfl rfl rfl rfl rfl rfl (fun hg => POp.callLe (.mk' rfl rfl rfl rfl rfl) (.cons (.refl _) (.cons (AVle.nil 1) .nil)) (p37 3 [])) ?_
  refine OL.guardC rfl rfl rfl rfl rfl rfl (fun hg => POp.row rfl rfl (by first | rfl | simp_all [strip]) rfl rfl rfl rfl rfl rfl) ?_
  refine OL.guardC rfl rfl rfl rfl rfl rfl (fun hg => POp.call (.mk' rfl rfl rfl rfl (by first | rfl | ((repeat (first | exact hg | rfl | refine Bool.and_eq_true_iff.2 ⟨?_, ?_⟩)); done) | simp_all [strip, constAV])) (p37 0 [0])) ?_
  refine OL.guardC rfl rfl rfl rfl rfl rfl (fun hg => POp.call (.mk' rfl rfl rfl rfl (by first | rfl | ((repeat (first | exact hg | rfl | refine Bool.and_eq_true_iff.2 ⟨?_, ?_⟩)); done) | simp_all [strip, constAV])) (p44k (isF 3 []) (isF 0 [0]) true (by decide +kernel) k7)) ?_
  refine Pnt ?_; refine Opk ?_; refine S2 ?_
  refine CW.cond rfl (fun h1 => ?_) (fun h1 => ?_)
  ·
   exact absurd h1 (by decide)
  ·
   refine S5 ?_
   refine OL.popC rfl rfl rfl (POp.callLe (.mk' rfl rfl rfl rfl rfl) (.cons (.refl _) (.cons (AVle.nil 1) .nil)) (p37 1 [])) ?_
   refine OL.popC rfl rfl rfl (POp.row rfl rfl (by first | rfl | simp_all [strip]) rfl rfl rfl rfl rfl rfl) ?_
   refine OL.popC rfl rfl rfl (POp.call (.mk' rfl rfl rfl rfl rfl) (p37 0 [0])) ?_
   refine OL.popC rfl rfl rfl (POp.call (.mk' rfl rfl rfl rfl rfl) ((p88 _ _))) ?_
   refine OL.popC rfl rfl rfl (POp.call (.mk' rfl rfl rfl rfl rfl) (p46k (andF (isF 1 []) (isF 0 [0])) false (by decide +kernel) k8)) ?_
   refine Ont ?_; refine Omv ?_
   refine OL.guardC rfl rfl rfl rfl rfl rfl (fun hg => POp.callLe (.mk' rfl rfl rfl rfl rfl) (.cons (.refl _) (.cons (AVle.nil 1) .nil)) (p37 4 [])) ?_
   refine OL.guardC rfl rfl rfl rfl rfl rfl (fun hg => POp.callLe (.mk' rfl rfl rfl rfl rfl) (.cons (.refl _) (.cons (AVle.nil 1) .nil)) (p37 5 [])) ?_
   refine OL.guardC rfl rfl rfl rfl rfl rfl (fun hg => POp.call (.mk' rfl rfl rfl rfl (by first | rfl | ((repeat (first | exact hg | rfl | refine Bool.and_eq_true_iff.2 ⟨?_, ?_⟩)); done) | simp_all [strip, constAV])) ((p88 _ _))) ?_
   refine OL.guardC rfl rfl rfl rfl rfl rfl (fun hg => POp.call (.mk' rfl rfl rfl rfl (by first | rfl | ((repeat (first | exact hg | rfl | refine Bool.and_eq_true_iff.2 ⟨?_, ?_⟩)); done) | simp_all [strip, constAV])) (p46k (andF (isF 4 []) (isF 5 [])) true (by decide +kernel) k9)) ?_
   refine Pnt ?_; refine Opk ?_; refine Omv ?_
   refine OL.guardC rfl rfl rfl rfl rfl rfl (fun hg => POp.row rfl rfl (by first | rfl | simp_all [strip]) rfl rfl rfl rfl rfl rfl) ?_
   refine OL.guardC rfl rfl rfl rfl rfl rfl (fun hg => POp.call (.mk' rfl rfl rfl rfl (by first | rfl | ((repeat (first | exact hg | rfl | refine Bool.and_eq_true_iff.2 ⟨?_, ?_⟩)); done) | simp_all [strip, constAV])) (p37 1 [0, 1])) ?_
   refine OL.guardC rfl rfl rfl rfl rfl rfl (fun hg => POp.call (.mk' rfl rfl rfl rfl (by first | rfl | ((repeat (first | exact hg | rfl | refine Bool.and_eq_true_iff.2 ⟨?_, ?_⟩)); done) | simp_all [strip, constAV])) (p46k (isF 1 [0, 1]) true (by decide +kernel) k10)) ?_
   refine Pnt ?_; refine Opk ?_; refine Omv ?_
   refine OL.guardC rfl rfl rfl rfl rfl rfl (fun hg => POp.callLe (.mk' rfl rfl rfl rfl rfl) (.cons (.refl _) (.cons (AVle.nil 1) .nil)) (p37 5 [])) ?_
   refine OL.guardC rfl rfl rfl rfl rfl rfl (fun hg => POp.row rfl rfl (by first | rfl | simp_all [strip]) rfl rfl rfl rfl rfl rfl) ?_
   refine OL.guardC rfl rfl rfl rfl rfl rfl (fun hg => POp.call (.mk' rfl rfl rfl rfl (by first | rfl | ((repeat (first | exact hg | rfl | refine Bool.and_eq_true_iff.2 ⟨?_, ?_⟩)); done) | simp_all [strip, constAV])) (p37 0 [1])) ?_
   refine OL.guardC rfl rfl rfl rfl rfl rfl (fun hg => POp.call (.mk' rfl rfl rfl rfl (by first | rfl | ((repeat (first | exact hg | rfl | refine Bool.and_eq_true_iff.2 ⟨?_, ?_⟩)); done) | simp_all [strip, constAV])) ((p89 _))) ?_
   refine OL.guardC rfl rfl rfl rfl rfl rfl (fun hg => POp.call (.mk' rfl rfl rfl rfl (by first | rfl | ((repeat (first | exact hg | rfl | refine Bool.and_eq_true_iff.2 ⟨?_, ?_⟩)); done) | simp_all [strip, constAV])) ((p88 _ _))) ?_
   refine OL.guardC rfl rfl rfl rfl rfl rfl (fun hg => POp.call (.mk' rfl rfl rfl rfl (by first | rfl | ((repeat (first | exact hg | rfl | refine Bool.and_eq_true_iff.2 ⟨?_, ?_⟩)); done) | simp_all [strip, constAV])) (p46k (andF (isF 5 []) (notF (isF 0 [1]))) false (by decide +kernel) k11)) ?_
   refine Pnt ?_; refine Opk ?_; refine S2 ?_
   refine CW.cond rfl (fun h2 => ?_) (fun h2 => ?_)
   ·
    exact absurd h2 (by decide)
   ·
    refine S3 ?_
    refine CW.dp mixed ?_
    refine DP.anyC 0 6 194 rfl (by decide +kernel) rfl rfl (by decide +kernel) ?_
    refine Ala ?_
    refine AD.popC rfl rfl rfl (POp.callLe (.mk' rfl rfl rfl rfl rfl) (.cons (.refl _) (.cons (AVle.nil 1) .nil)) (p37 1 [])) ?_
    refine AD.popC rfl rfl rfl (POp.callLe (.mk' rfl rfl rfl rfl rfl) (.cons (.refl _) (.cons (AVle.nil 1) .nil)) (p43 3 [])) ?_
    refine AD.popC rfl rfl rfl (POp.callLe (.mk' rfl rfl rfl rfl rfl) (.cons (.refl _) (.cons (AVle.nil 1) .nil)) (p37 3 [])) ?_
    refine AD.popC rfl rfl rfl (POp.call (.mk' rfl rfl rfl rfl rfl) ((p90 _ _))) ?_
    refine AD.popC rfl rfl rfl (POp.call (.mk' rfl rfl rfl rfl rfl) ((p88 _ _))) ?_
    refine AD.nil ?_
    refine DP.one (k := 6) (by decide +kernel) rfl ?_
    refine OL.popC rfl rfl rfl (POp.call (.mk' rfl rfl rfl rfl rfl) (p17k)) ?_
    refine OL.nil (Done.dp ?_)
    refine DP.one (k := 7) (by decide +kernel) rfl ?_
    refine Omv ?_
    refine OL.nil (Done.dp ?_)
    refine DP.anyC 8 11 194 rfl (by decide +kernel) rfl rfl (by decide +kernel) ?_
    refine Aex ?_; refine Aex ?_; refine Aas ?_
    refine AD.nil ?_
    refine DP.tailC 11 (by decide +kernel) rfl ?_
    refine Oas ?_; refine S3 ?_
    refine CW.dp mixed ?_
    refine DP.anyC 0 3 194 rfl (by decide +kernel) rfl rfl (by decide +kernel) ?_
    refine Ala ?_
    refine AD.popC rfl rfl rfl (POp.callLe (.mk' rfl rfl rfl rfl rfl) (.cons (.refl _) (.cons (AVle.nil 1) .nil)) (p37 4 [])) ?_
    refine AD.popC rfl rfl rfl (POp.callLe (.mk' rfl rfl rfl rfl rfl) (.cons (.refl _) (.cons (AVle.nil 1) .nil)) (p37 3 [])) ?_
    refine AD.nil ?_
    refine DP.one (k := 3) (by decide +kernel) rfl ?_
    refine OL.popC rfl rfl rfl (POp.call (.mk' rfl rfl rfl rfl rfl) (p35k)) ?_
    refine OL.nil (Done.dp ?_)
    refine DP.one (k := 4) (by decide +kernel) rfl ?_
    refine Omv ?_
    refine OL.nil (Done.dp ?_)
    refine DP.anyC 5 8 194 rfl (by decide +kernel) rfl rfl (by decide +kernel) ?_
    refine Aex ?_; refine Aex ?_; refine Aas ?_
    refine AD.nil ?_
    refine DP.tailC 8 (by decide +kernel) rfl ?_
    refine Oas ?_; refine S3 ?_
    refine CW.dp mixed ?_
    refine DP.anyAC (fun sj b => match sj with | 0 => .blk b 29 [.i 0, .i 0, .val (.slice none 0 0), .i 0, .i 0, .val (.slice none 0 0)] :: H | _ => .blk b 29 (Fcells (isF 4 [])) :: H) 10 [8, 9] 1 0 10 194 rfl (by decide +kernel) rfl rfl rfl rfl (by decide +kernel) ?_
    refine TD.popA (by decide +kernel) rfl rfl rfl rfl (fun _ => (by first | exact POp.ldA rfl rfl rfl rfl | (apply POp.ldAH rfl rfl rfl; (case hm => repeat (first | exact .head _ | refine .tail _ ?_)); (case hy => rfl); (case hn => rfl)))) ?_
    refine TD.popA (by decide +kernel) rfl rfl rfl rfl (fun _ => POp.callLe (.mk' rfl rfl rfl rfl rfl) (.cons (.refl _) (.cons (AVle.nil 1) .nil)) (p37 4 [])) ?_
    refine TD.popA (by decide +kernel) rfl rfl rfl rfl (fun _ => POp.callLe (.mk' rfl rfl rfl rfl rfl) (.cons (.refl _) (.cons (AVle.nil 1) .nil)) (p37 3 [])) ?_
    refine TD.popA (by decide +kernel) rfl rfl rfl rfl (fun _ => POp.call (.mk' rfl rfl rfl rfl rfl) ((p88 _ _))) ?_
    refine TD.popA (by decide +kernel) rfl rfl rfl rfl (fun _ => POp.call (.mk' rfl rfl rfl rfl rfl) (p27k (by decide +kernel) k14)) ?_
    refine TD.popA (by decide +kernel) rfl rfl rfl rfl (fun _ => POp.move rfl rfl rfl) ?_
    refine TD.popA (by decide +kernel) rfl rfl rfl rfl (fun _ => POp.extract rfl rfl rfl rfl) ?_
    refine TD.popA (by decide +kernel) rfl rfl rfl rfl (fun _ => POp.extract rfl rfl rfl rfl) ?_
    refine TD.effA (by decide +kernel) (by decide +kernel) rfl rfl rfl rfl (fun _ => rfl) ?_
    refine TD.stoA 0 (by decide +kernel) (by decide +kernel) (by decide +kernel) rfl rfl (fun b => .store rfl rfl rfl rfl rfl rfl rfl rfl (by repeat (first | exact Upd.head _ _ _ | apply Upd.tail)) (by exact rfl) (by exact rfl)) ?_
    refine TD.nil (fun b10 => ?_)
    refine DP.tailC 10 (by decide +kernel) rfl ?_
    refine Oas ?_; refine S3 ?_
    refine CW.dp mixed ?_
    refine DP.anyAC (fun sj b => match sj with | 0 => .blk b 29 [.i 0, .i 0, .val (.slice none 0 0), .i 0, .i 0, .val (.slice none 0 0)] :: .blk b10 29 (Fcells (isF 4 [])) :: H | _ => .blk b 29 (Fcells noF) :: .blk b10 29 (Fcells (isF 4 [])) :: H) 11 [8, 9] 1 0 10 194 rfl (by decide +kernel) rfl rfl rfl rfl (by decide +kernel) ?_
    refine TD.popA (by decide +kernel) rfl rfl rfl rfl (fun _ => (by first | exact POp.ldA rfl rfl rfl rfl | (apply POp.ldAH rfl rfl rfl; (case hm => repeat (first | exact .head _ | refine .tail _ ?_)); (case hy => rfl); (case hn => rfl)))) ?_
    refine TD.popA (by decide +kernel) rfl rfl rfl rfl (fun _ => POp.callLe (.mk' rfl rfl rfl rfl rfl) (.cons (.refl _) (.cons (AVle.nil 1) .nil)) (p43 3 [])) ?_
    refine TD.popA (by decide +kernel) rfl rfl rfl rfl (fun _ => POp.callLe (.mk' rfl rfl rfl rfl rfl) (.cons (.refl _) (.cons (AVle.nil 1) .nil)) (p37 3 [])) ?_
    refine TD.popA (by decide +kernel) rfl rfl rfl rfl (fun _ => POp.call (.mk' rfl rfl rfl rfl rfl) ((p88 _ _))) ?_
    refine TD.popA (by decide +kernel) rfl rfl rfl rfl (fun _ => POp.call (.mk' rfl rfl rfl rfl rfl) (p27k (by decide +kernel) k15)) ?_
    refine TD.popA (by decide +kernel) rfl rfl rfl rfl (fun _ => POp.move rfl rfl rfl) ?_
    refine TD.popA (by decide +kernel) rfl rfl rfl rfl (fun _ => POp.extract rfl rfl rfl rfl) ?_
    refine TD.popA (by decide +kernel) rfl rfl rfl rfl (fun _ => POp.extract rfl rfl rfl rfl) ?_
    refine TD.effA (by decide +kernel) (by decide +kernel) rfl rfl rfl rfl (fun _ => rfl) ?_
    refine TD.stoA 0 (by decide +kernel) (by decide +kernel) (by decide +kernel) rfl rfl (fun b => .store rfl rfl rfl rfl rfl rfl rfl rfl (by repeat (first | exact Upd.head _ _ _ | apply Upd.tail)) (by exact rfl) (by exact rfl)) ?_
    refine TD.nil (fun b11 => ?_)
    refine DP.tailC 10 (by decide +kernel) rfl ?_
    refine Oas ?_; refine S3 ?_
    refine CW.dp mixed ?_
    refine DP.one (k := 0) (by decide +kernel) rfl ?_
    refine Omv ?_
    refine OL.nil (Done.dp ?_)
    refine DP.one (k := 1) (by decide +kernel) rfl ?_
    refine Ocm ?_
    refine OL.nil (Done.dp ?_)
    refine DP.one (k := 2) (by decide +kernel) rfl ?_
    refine Omv ?_
    refine OL.nil (Done.dp ?_)
    refine DP.one (k := 3) (by decide +kernel) rfl ?_
    refine Pmv ?_
    refine OL.nil (Done.dp ?_)
    refine DP.one (k := 4) (by decide +kernel) rfl ?_
    refine Pcm ?_
    refine OL.nil (Done.dp ?_)
    refine DP.one (k := 5) (by decide +kernel) rfl ?_
    refine Opk ?_
    refine OL.nil (Done.dp ?_)
    refine DP.one (k := 6) (by decide +kernel) rfl ?_
    refine Omv ?_
    refine OL.nil (Done.dp ?_)
    refine DP.one (k := 7) (by decide +kernel) rfl ?_
    refine Pmv ?_
    refine OL.nil (Done.dp ?_)
    refine DP.one (k := 8) (by decide +kernel) rfl ?_
    refine Pcm ?_
    refine OL.nil (Done.dp ?_)
    refine DP.one (k := 9) (by decide +kernel) rfl ?_
    refine Opk ?_
    refine OL.nil (Done.dp ?_)
    refine DP.one (k := 10) (by decide +kernel) rfl ?_
    refine Omv ?_
    refine OL.nil (Done.dp ?_)
    refine DP.one (k := 11) (by decide +kernel) rfl ?_
    refine Pmv ?_
    refine OL.nil (Done.dp ?_)
    refine DP.one (k := 12) (by decide +kernel) rfl ?_
    refine Pcm ?_
    refine OL.nil (Done.dp ?_)
    refine DP.one (k := 13) (by decide +kernel) rfl ?_
    refine Opk ?_
    refine OL.nil (Done.dp ?_)
    refine DP.one (k := 14) (by decide +kernel) rfl ?_
    refine Omv ?_
    refine OL.nil (Done.dp ?_)
    refine DP.anyC 15 20 194 rfl (by decide +kernel) rfl rfl (by decide +kernel) ?_
    refine AD.guardC rfl rfl rfl rfl rfl (fun hg => POp.move rfl rfl rfl) ?_
    refine AD.guardC rfl rfl rfl rfl rfl (fun hg => POp.callLe (.mk' rfl rfl rfl rfl rfl) (.cons (.refl _) (.cons (AVle.nil 1) .nil)) (p37 1 [])) ?_
    refine AD.guardC rfl rfl rfl rfl rfl (fun hg => POp.callLe (.mk' rfl rfl rfl rfl rfl) (.cons (.refl _) (.cons (AVle.nil 1) .nil)) (p43 3 [])) ?_
    refine AD.guardC rfl rfl rfl rfl rfl (fun hg => POp.row rfl rfl (by first | rfl | simp_all [strip]) rfl rfl rfl rfl rfl rfl) ?_
    refine AD.guardC rfl rfl rfl rfl rfl (fun hg => POp.row rfl rfl (by first | rfl | simp_all [strip]) rfl rfl rfl rfl rfl rfl) ?_
    refine AD.nil ?_
    refine DP.one (k := 20) (by decide +kernel) rfl ?_
    refine OL.guardC rfl rfl rfl rfl rfl rfl (fun hg => POp.call (.mk' rfl rfl rfl rfl (by first | rfl | ((repeat (first | exact hg | rfl | refine Bool.and_eq_true_iff.2 ⟨?_, ?_⟩)); done) | simp_all [strip, constAV])) (p23k _)) ?_
    refine OL.nil (Done.dp ?_)
    refine DP.one (k := 21) (by decide +kernel) rfl ?_
    refine Opk ?_
    refine OL.nil (Done.dp ?_)
    refine DP.one (k := 22) (by decide +kernel) rfl ?_
    refine Omv ?_
    refine OL.nil (Done.dp ?_)
    refine DP.anyC 23 26 194 rfl (by decide +kernel) rfl rfl (by decide +kernel) ?_
    refine AD.guardC rfl rfl rfl rfl rfl (fun hg => POp.move rfl rfl rfl) ?_
    refine AD.guardC rfl rfl rfl rfl rfl (fun hg => POp.row rfl rfl (by first | rfl | simp_all [strip]) rfl rfl rfl rfl rfl rfl) ?_
    refine AD.guardC rfl rfl rfl rfl rfl (fun hg => POp.row rfl rfl (by first | rfl | simp_all [strip]) rfl rfl rfl rfl rfl rfl) ?_
    refine AD.nil ?_
    refine DP.one (k := 26) (by decide +kernel) rfl ?_
    refine OL.guardC rfl rfl rfl rfl rfl rfl (fun hg => POp.call (.mk' rfl rfl rfl rfl (by first | rfl | ((repeat (first | exact hg | rfl | refine Bool.and_eq_true_iff.2 ⟨?_, ?_⟩)); done) | simp_all [strip, constAV])) (p56k _)) ?_
    refine OL.nil (Done.dp ?_)
    refine DP.one (k := 27) (by decide +kernel) rfl ?_
    refine Opk ?_
    refine OL.nil (Done.dp ?_)
    refine DP.one (k := 28) (by decide +kernel) rfl ?_
    refine Omv ?_
    refine OL.nil (Done.dp ?_)
    refine DP.anyC 29 31 194 rfl (by decide +kernel) rfl rfl (by decide +kernel) ?_
    refine AD.guardC rfl rfl rfl rfl rfl (fun hg => (by first | exact POp.ldA rfl rfl rfl rfl | (apply POp.ldAH rfl rfl rfl; (case hm => repeat (first | exact .head _ | refine .tail _ ?_)); (case hy => rfl); (case hn => rfl)))) ?_
    refine AD.guardC rfl rfl rfl rfl rfl (fun hg => POp.callLe (.mk' rfl rfl rfl rfl rfl) (.cons (.refl _) (.cons (AVle.nil 1) .nil)) (p37 4 [])) ?_
    refine AD.nil ?_
    refine DP.one (k := 31) (by decide +kernel) rfl ?_
    refine OL.guardC rfl rfl rfl rfl rfl rfl (fun hg => POp.call (.mk' rfl rfl rfl rfl (by first | rfl | ((repeat (first | exact hg | rfl | refine Bool.and_eq_true_iff.2 ⟨?_, ?_⟩)); done) | simp_all [strip, constAV])) (p28k _)) ?_
    refine OL.nil (Done.dp ?_)
    refine DP.one (k := 32) (by decide +kernel) rfl ?_
    refine Opk ?_
    refine OL.nil (Done.dp ?_)
    refine DP.one (k := 33) (by decide +kernel) rfl ?_
    refine Omv ?_
    refine OL.nil (Done.dp ?_)
    refine DP.anyC 34 37 194 rfl (by decide +kernel) rfl rfl (by decide +kernel) ?_
    refine AD.guardC rfl rfl rfl rfl rfl (fun hg => (by first | exact POp.ldA rfl rfl rfl rfl | (apply POp.ldAH rfl rfl rfl; (case hm => repeat (first | exact .head _ | refine .tail _ ?_)); (case hy => rfl); (case hn => rfl)))) ?_
    refine AD.guardC rfl rfl rfl rfl rfl (fun hg => POp.call (.mk' rfl rfl rfl rfl rfl) ((p91 ))) ?_
    refine AD.guardC rfl rfl rfl rfl rfl (fun hg => POp.call (.mk' rfl rfl rfl rfl (by first | rfl | ((repeat (first | exact hg | rfl | refine Bool.and_eq_true_iff.2 ⟨?_, ?_⟩)); done) | simp_all [strip, constAV])) ((p89 _))) ?_
    refine AD.nil ?_
    refine DP.tailC 37 (by decide +kernel) rfl ?_
    refine OL.guardC rfl rfl rfl rfl rfl rfl (fun hg => POp.call (.mk' rfl rfl rfl rfl (by first | rfl | ((repeat (first | exact hg | rfl | refine Bool.and_eq_true_iff.2 ⟨?_, ?_⟩)); done) | simp_all [strip, constAV])) (p28k _)) ?_
    refine Opk ?_; refine Oas ?_; refine S3 ?_
    refine r1 0 (H) ?_
    exact ⟨by rfl, rfl⟩
def upB (W : FW) (c b : Nat) : Bool := ((upsP W).getD c 0).testBit b
theorem fold_bit (U : List Nat) (b : Nat) : ∀ (l : List Int) (s : Nat), (l.foldl (fun s (p : Int) => s ||| U.getD p.toNat 0) s).testBit b = (s.testBit b || l.any fun p => (U.getD p.toNat 0).testBit b)
 | [], s => by simp
 | p :: r, s => by rw [List.foldl_cons, fold_bit U b r, Nat.testBit_or, List.any_cons, Bool.or_assoc]
theorem upFold_bit (U : List Nat) (i : Nat) (l : List Int) (b : Nat) : (upFold U i l).testBit b = (b == 0 || b == 3 + i || l.any fun p => (U.getD p.toNat 0).testBit b) := by
 rw [upFold, fold_bit, Nat.testBit_or, Nat.testBit_two_pow]
 congr 2
 ·rcases b with _ | b
  ·rfl
  ·rw [Nat.testBit_succ]; simp
 ·rw [Bool.eq_iff_iff, decide_eq_true_iff, beq_iff_eq]; exact eq_comm
theorem getD_set {α : Type} (l : List α) (i j : Nat) (x y : α) : (l.set i x).getD j y = if i = j ∧ i < l.length then x else l.getD j y := by
 simp only [List.getD_eq_getElem?_getD, List.getElem?_set]
 by_cases h : i = j
 ·by_cases h2 : j < l.length
  ·simp [h, h2]
  ·simp [h, h2]
 ·simp [h]
theorem ups_low : ∀ (l : List (List Int)) (i : Nat) (U : List Nat) (j : Nat), j < 3 + i → (upsFrom l i U).getD j 0 = U.getD j 0
 | [], i, U, j, h => by rw [upsFrom]
 | x :: r, i, U, j, h => by
  rw [upsFrom, ups_low r (i + 1) _ j (by omega), getD_set, if_neg (by omega)]
theorem parents_lt (i : Nat) : ∀ (l seen : List Int), parentsP i seen l = true → ∀ p ∈ l, 3 ≤ p ∧ p < 3 + i
 | [], _, _, p, hp => by cases hp
 | x :: r, seen, h, p, hp => by
  rw [parentsP, Bool.and_eq_true, Bool.not_eq_true'] at h
  rcases List.mem_cons.1 hp with rfl | hp
  ·have := h.1
   simp only [Bool.or_eq_false_iff, decide_eq_false_iff_not] at this
   omega
  ·exact parents_lt i r _ h.2 p hp
theorem parentss_at : ∀ (l : List (List Int)) (i k : Nat), parentssP i l = true → k < l.length → parentsP (i + k) [] (l.getD k default) = true
 | [], i, k, _, hk => by simp at hk
 | x :: r, i, 0, h, _ => by rw [parentssP, Bool.and_eq_true] at h; exact h.1
 | x :: r, i, k + 1, h, hk => by
  rw [parentssP, Bool.and_eq_true] at h
  have := parentss_at r (i + 1) k h.2 (by simpa using hk)
  rw [show i + (k + 1) = i + 1 + k from by omega]; exact this
theorem world_pars {W : FW} (h : worldP W = true) : parentssP 0 W.parents = true := by simp only [worldP, Bool.and_eq_true] at h; exact h.1.2
theorem pars_lt {W : FW} (h : worldP W = true) {i : Nat} (hi : i < W.parents.length) : ∀ p ∈ W.parents.getD i default, 3 ≤ p ∧ p < 3 + i := by
 have := parentss_at W.parents 0 i (world_pars h) hi
 rw [Nat.zero_add] at this
 exact parents_lt i _ _ this
theorem any_congr_mem {α : Type} {l : List α} {p q : α → Bool} (h : ∀ x ∈ l, p x = q x) : l.any p = l.any q := by
 induction l with
 | nil => rfl
 | cons x r ih => rw [List.any_cons, List.any_cons, h x (.head _), ih fun y hy => h y (.tail _ hy)]
theorem ups_at : ∀ (l : List (List Int)) (i : Nat) (U : List Nat) (k : Nat), 3 + i + l.length ≤ U.length → parentssP i l = true → k < l.length → ∀ b, ((upsFrom l i U).getD (3 + (i + k)) 0).testBit b = (b == 0 || b == 3 + (i + k) || (l.getD k default).any fun p => ((upsFrom l i U).getD p.toNat 0).testBit b)
 | [], i, U, k, hl, _, hk, b => by simp at hk
 | x :: r, i, U, 0, hl, h, hk, b => by
  rw [parentssP, Bool.and_eq_true] at h
  rw [upsFrom, ups_low r (i + 1) _ _ (by omega), getD_set, if_pos ⟨by omega, by simp at hl; omega⟩, upFold_bit]
  show _ = (b == 0 || b == 3 + (i + 0) || x.any _)
  rw [Nat.add_zero]
  congr 1
  refine any_congr_mem fun p hp => ?_
  have := parents_lt i x [] h.1 p hp
  rw [ups_low r (i + 1) _ _ (by omega), getD_set, if_neg (by omega)]
 | x :: r, i, U, k + 1, hl, h, hk, b => by
  rw [parentssP, Bool.and_eq_true] at h
  have := ups_at r (i + 1) (U.set (3 + i) (upFold U i x)) k (by simp at hl ⊢; omega) h.2 (by simpa using hk) b
  rw [upsFrom, show i + (k + 1) = i + 1 + k from by omega]; exact this
theorem upB_own {W : FW} (h : worldP W = true) {i : Nat} (hi : i < W.parents.length) (b : Nat) : upB W (3 + i) b = (b == 0 || b == 3 + i || (W.parents.getD i default).any fun p => upB W p.toNat b) := by
 have := ups_at W.parents 0 ([1, 3, 5] ++ List.replicate 60 0) i (by have := world_len h; simp; omega) (world_pars h) hi b
 rw [Nat.zero_add] at this
 exact this
theorem upB_low {W : FW} {c : Nat} (hc : c < 3) (b : Nat) : upB W c b = (b == 0 || b == c) := by
 rw [upB, upsP, ups_low _ _ _ _ (by omega)]
 have : c = 0 ∨ c = 1 ∨ c = 2 := by omega
 rcases this with rfl | rfl | rfl
 ·show Nat.testBit 1 b = _
  rcases b with _ | b
  ·rfl
  ·rw [Nat.testBit_succ]; simp
 ·show Nat.testBit 3 b = _
  rcases b with _ | _ | b
  ·rfl
  ·rfl
  ·rw [Nat.testBit_succ, Nat.testBit_succ]; simp
 ·show Nat.testBit 5 b = _
  rcases b with _ | _ | _ | b
  ·rfl
  ·rfl
  ·rfl
  ·rw [Nat.testBit_succ, Nat.testBit_succ, Nat.testBit_succ]; simp
theorem upB_zero {W : FW} (h : worldP W = true) {c : Nat} (hc : c < 3 + W.parents.length) : upB W c 0 = true := by
 by_cases h3 : c < 3
 ·rw [upB_low h3]; rfl
 ·rw [show c = 3 + (c - 3) from by omega, upB_own h (by omega)]; rfl
theorem upB_self {W : FW} (h : worldP W = true) {c : Nat} (hc : c < 3 + W.parents.length) : upB W c c = true := by
 by_cases h3 : c < 3
 ·rw [upB_low h3]; simp
 ·have e : c = 3 + (c - 3) := by omega
  have := upB_own h (i := c - 3) (by omega) c
  rw [← e] at this; rw [this]; simp
theorem upB_le {W : FW} (h : worldP W = true) : ∀ (n c : Nat), c ≤ n → c < 3 + W.parents.length → ∀ b, upB W c b = true → b ≤ c ∧ (b = 0 ∨ b = c ∨ 3 ≤ b)
 | n, c, hn, hc, b, hb => by
  by_cases h3 : c < 3
  ·rw [upB_low h3] at hb; simp at hb; omega
  ·have e : c = 3 + (c - 3) := by omega
   rw [e, upB_own h (by omega)] at hb
   simp only [Bool.or_eq_true, beq_iff_eq, List.any_eq_true] at hb
   rcases hb with (hb | hb) | ⟨p, hp, hb⟩
   ·omega
   ·omega
   ·have hl := pars_lt h (by omega) p hp
    match n, hn with
    | 0, hn => omega
    | n + 1, hn =>
     have := upB_le h n p.toNat (by omega) (by omega) b hb
     omega
theorem upB_trans {W : FW} (h : worldP W = true) : ∀ (n a : Nat), a ≤ n → a < 3 + W.parents.length → ∀ b c, upB W a b = true → upB W b c = true → upB W a c = true
 | n, a, hn, ha, b, c, h1, h2 => by
  by_cases h3 : a < 3
  ·rw [upB_low h3] at h1
   simp only [Bool.or_eq_true, beq_iff_eq] at h1
   rcases h1 with rfl | rfl
   ·rw [upB_low (by omega)] at h2
    simp at h2; subst h2
    exact upB_zero h ha
   ·exact h2
  ·have e : a = 3 + (a - 3) := by omega
   rw [e, upB_own h (by omega)] at h1 ⊢
   simp only [Bool.or_eq_true, beq_iff_eq, List.any_eq_true] at h1 ⊢
   rcases h1 with (rfl | rfl) | ⟨p, hp, h1⟩
   ·rw [upB_low (by omega)] at h2
    simp at h2; exact .inl (.inl h2)
   ·rw [upB_own h (by omega)] at h2
    simpa only [Bool.or_eq_true, beq_iff_eq, List.any_eq_true] using h2
   ·have hl := pars_lt h (by omega) p hp
    match n, hn with
    | 0, hn => omega
    | n + 1, hn => exact .inr ⟨p, hp, upB_trans h n p.toNat (by omega) (by omega) b c h1 h2⟩
instance : HasMk Tryz.prog 142 (4, 1, .bool false) := ⟨by kernel_rfl⟩
abbrev AV.bools (o : List Bool) : AV := .sl 1 (o.map fun x => [AV.b x])
mutual
def depthN : Fact → Nat
 | .mk _ _ _ _ _ kids => depthNs kids + 1
def depthNs : List Fact → Nat
 | [] => 0
 | k :: r => max (depthN k) (depthNs r)
end
mutual
theorem node_deep (W : FW) : ∀ (f : Fact) (left deep : Int), wfB W f = true → (nodesN f : Int) ≤ left → (depthN f : Int) ≤ deep → nodeP W f left deep = (true, left - nodesN f)
 | .mk op arg path cls n kids, left, deep, h, h1, h2 => by
  have hw := wfB_iff.1 h
  rw [nodesN] at h1 ⊢
  rw [depthN] at h2
  rw [nodeP]
  have hb : badP (.mk op arg path cls n kids) (left - 1) deep = false := by
   have h0 := hw.1
   simp only [nodeOkB, Bool.and_eq_true, decide_eq_true_eq, beq_iff_eq] at h0
   simp only [badP, Bool.or_eq_false_iff, decide_eq_false_iff_not, bne_eq_false_iff_eq, beq_eq_false_iff_ne]
   refine ⟨⟨⟨⟨by omega, by omega⟩, by omega⟩, by omega⟩, h0.1.2⟩
  rw [if_neg (by rw [hb]; simp)]
  have h0 := hw.1
  rw [nodeOkB, Bool.and_eq_true] at h0
  by_cases hl : leafP (.mk op arg path cls n kids) = true
  ·have hk : kids = [] := leaf_kids hw.1 hl
   rw [if_pos hl] at h0 ⊢
   rw [h0.2, hk]; simp [nodesNs]
  ·rw [if_neg hl] at h0 ⊢
   rw [if_pos h0.2]
   rw [nodes_deep W kids (left - 1) (deep - 1) (by rw [wfB, Bool.and_eq_true] at h; exact h.2) (by omega) (by omega)]
   congr 1; omega
theorem nodes_deep (W : FW) : ∀ (l : List Fact) (left deep : Int), wfBs W l = true → (nodesNs l : Int) ≤ left → (depthNs l : Int) ≤ deep → nodesP W l left deep = (true, left - nodesNs l)
 | [], left, deep, _, _, _ => by rw [nodesP, nodesNs]; simp
 | k :: r, left, deep, h, h1, h2 => by
  rw [wfBs, Bool.and_eq_true] at h
  rw [nodesNs] at h1 ⊢
  rw [depthNs] at h2
  rw [nodesP, node_deep W k left deep h.1 (by omega) (by omega), if_pos rfl, nodes_deep W r _ deep h.2 (by omega) (by omega)]
  congr 1; omega
end
mutual
theorem deep_node (W : FW) : ∀ (f : Fact) (left deep : Int), 0 ≤ deep → (nodeP W f left deep).1 = true → (depthN f : Int) ≤ deep
 | .mk op arg path cls n kids, left, deep, hd, h => by
  have hw := (node_wf W _ _ _ h).1
  rw [nodeP] at h
  rw [depthN]
  by_cases hb : badP (.mk op arg path cls n kids) (left - 1) deep = true
  ·rw [if_pos hb] at h; cases h
  ·rw [if_neg hb] at h
   have hd1 : 1 ≤ deep := by
    simp only [badP, Bool.not_eq_true, Bool.or_eq_false_iff, beq_eq_false_iff_ne] at hb
    omega
   by_cases hl : leafP (.mk op arg path cls n kids) = true
   ·have hk : kids = [] := leaf_kids (wfB_iff.1 hw).1 hl
    subst hk; simp [depthNs]; omega
   ·rw [if_neg hl] at h
    by_cases hp : plainP (.mk op arg path cls n kids) = true
    ·rw [if_pos hp] at h
     have := deep_nodes W kids (left - 1) (deep - 1) (by omega) h
     omega
    ·rw [if_neg hp] at h; cases h
theorem deep_nodes (W : FW) : ∀ (l : List Fact) (left deep : Int), 0 ≤ deep → (nodesP W l left deep).1 = true → (depthNs l : Int) ≤ deep
 | [], left, deep, hd, _ => by rw [depthNs]; omega
 | k :: r, left, deep, hd, h => by
  rw [nodesP] at h
  rw [depthNs]
  by_cases h1 : (nodeP W k left deep).1 = true
  ·rw [if_pos h1] at h
   have a := deep_node W k left deep hd h1
   have b := deep_nodes W r _ deep hd h
   omega
  ·rw [if_neg h1] at h; exact absurd h h1
end
theorem formed_eq (W : FW) (f : Fact) : (decide (nodesN f ≤ 24) && decide (depthN f ≤ 12) && wfB W f) = formedP W f := by
 rw [Bool.eq_iff_iff]
 simp only [Bool.and_eq_true, decide_eq_true_eq]
 constructor
 ·rintro ⟨⟨h1, h2⟩, h3⟩
  rw [formedP, node_deep W f 24 12 h3 (by omega) (by omega)]
 ·intro h
  have h1 := formed_wf h
  have h2 := deep_node W f 24 12 (by omega) h
  exact ⟨⟨h1.2, by omega⟩, h1.1⟩
structure Gv where
 W : FW
 A : Fact
 B : Fact
 objs : List (Int × List (Int × Int))
 args : List (Int × Int)
 arg : Int
 path : List Int
abbrev AV.vals (l : List (Int × Int)) : AV := .sl 2 (l.map fun v => [AV.i v.1, AV.i v.2])
abbrev AV.things (l : List (Int × List (Int × Int))) : AV := .sl 2 (l.map fun o => [AV.i o.1, AV.vals o.2])
def Gcells (g : Gv) : List AV := Wcells g.W ++ Fcells g.A ++ Fcells g.B ++ [AV.things g.objs, AV.vals g.args, .i g.arg, AV.ints g.path]
abbrev AV.given (g : Gv) : AV := .agg (Gcells g)
theorem p47 (W : FW) (f : Fact) : PCall Tryz.prog 47 [AV.world W, AV.fact f] (.i (if goodP W [f] = true then 0 else 2)) := by
 by_cases h : goodP W [f] = true
 ·rw [if_pos h]; exact p47g h
 ·rw [if_neg h]; exact p47n (by simpa using h)
theorem good1 (W : FW) (f : Fact) : goodP W [f] = (worldP W && formedP W f) := by simp [goodP]
open Go.ChangeShapes
section
variable {H : Type} {enc : TypeId × Value → H} {w : World} {base : Nat} {spare : Nat → Bool} {held : Bool}
theorem reads_ints (n : Nat) : Reads enc Tryz.prog w base spare held n 23 (fun l : List Int => [AV.ints l]) :=
 Reads.le (reads_slice (n := n) Tryz.underlying23 (by kernel_rfl) (by omega) (fun _ => rfl) (reads_int Tryz.underlying3)) (by omega)
theorem reads_intss (n : Nat) : Reads enc Tryz.prog w base spare held n 22 (fun l : List (List Int) => [AV.intss l]) :=
 Reads.le (reads_slice (n := n) Tryz.underlying22 (by kernel_rfl) (by omega) (fun _ => rfl) (reads_ints n)) (by omega)
theorem reads_world (n : Nat) : Reads enc Tryz.prog w base spare held n 25 Wcells := fun fuel hf cs x h => by
 obtain ⟨xs, m, rfl, _, hl, hn, hg⟩ := DataW.trod_struct Tryz.underlying25 h
 have hl : cs.length = 2 := hl.trans (by kernel_rfl)
 have h0 := hg 0 _ rfl
 have h1 := hg 1 _ rfl
 rw [List.getElem?_eq_getElem (by rw [hn]; decide)] at h0 h1
 obtain ⟨y0, r0⟩ := reads_intss m m (Nat.le_refl _) _ _ h0
 obtain ⟨y1, r1⟩ := reads_ints m m (Nat.le_refl _) _ _ h1
 refine ⟨⟨y0, y1⟩, ?_⟩
 have := relL_join (a := 0) (n := 1) (m := 1) r0 r1
 rwa [List.drop_zero, List.take_of_length_le (by omega)] at this
theorem reads_fact : ∀ n : Nat, Reads enc Tryz.prog w base spare held n 29 Fcells
 | 0, fuel, hf, cs, x, h => by
  obtain ⟨xs, m, rfl, _⟩ := DataW.trod_struct Tryz.underlying29 h
  omega
 | n + 1, fuel, hf, cs, x, h => by
  obtain ⟨xs, m, rfl, _, hl, hn, hg⟩ := DataW.trod_struct Tryz.underlying29 h
  have hl : cs.length = 6 := hl.trans (by kernel_rfl)
  have h0 := hg 0 _ rfl
  have h1 := hg 1 _ rfl
  have h2 := hg 2 _ rfl
  have h3 := hg 3 _ rfl
  have h4 := hg 4 _ rfl
  have h5 := hg 5 _ rfl
  rw [List.getElem?_eq_getElem (by rw [hn]; decide)] at h0 h1 h2 h3 h4 h5
  obtain ⟨y0, r0⟩ := reads_int (n := m) Tryz.underlying26 m (Nat.le_refl _) _ _ h0
  obtain ⟨y1, r1⟩ := reads_int (n := m) Tryz.underlying3 m (Nat.le_refl _) _ _ h1
  obtain ⟨y2, r2⟩ := reads_ints m m (Nat.le_refl _) _ _ h2
  obtain ⟨y3, r3⟩ := reads_int (n := m) Tryz.underlying3 m (Nat.le_refl _) _ _ h3
  obtain ⟨y4, r4⟩ := reads_int (n := m) Tryz.underlying3 m (Nat.le_refl _) _ _ h4
  obtain ⟨y5, r5⟩ := reads_slice (n := n) (k := 6) Tryz.underlying27 (by kernel_rfl) (by omega) (fun _ => rfl) (reads_fact n) m (by omega) _ _ h5
  refine ⟨.mk y0 y1 y2 y3 y4 y5, ?_⟩
  have r5 : RelL (allI w) w [AV.sl 6 (y5.map Fcells)] _ := r5
  rw [← encFs_map] at r5
  have := relL_join (a := 0) (n := 5) (m := 1) (relL_join (a := 0) (n := 4) (m := 1) (relL_join (a := 0) (n := 3) (m := 1) (relL_join (a := 0) (n := 2) (m := 1) (relL_join (a := 0) (n := 1) (m := 1) r0 r1) r2) r3) r4) r5
  rwa [List.drop_zero, List.take_of_length_le (by omega)] at this
theorem reads_val (n : Nat) : Reads enc Tryz.prog w base spare held n 97 (fun v : Int × Int => [AV.i v.1, AV.i v.2]) := fun fuel hf cs x h => by
 obtain ⟨xs, m, rfl, _, hl, hn, hg⟩ := DataW.trod_struct Tryz.underlying97 h
 have hl : cs.length = 2 := hl.trans (by kernel_rfl)
 have h0 := hg 0 _ rfl
 have h1 := hg 1 _ rfl
 rw [List.getElem?_eq_getElem (by rw [hn]; decide)] at h0 h1
 obtain ⟨y0, r0⟩ := reads_int (n := m) Tryz.underlying95 m (Nat.le_refl _) _ _ h0
 obtain ⟨y1, r1⟩ := reads_int (n := m) Tryz.underlying3 m (Nat.le_refl _) _ _ h1
 refine ⟨⟨y0, y1⟩, ?_⟩
 have := relL_join (a := 0) (n := 1) (m := 1) r0 r1
 rwa [List.drop_zero, List.take_of_length_le (by omega)] at this
theorem reads_vals (n : Nat) : Reads enc Tryz.prog w base spare held n 31 (fun l : List (Int × Int) => [AV.vals l]) :=
 Reads.le (reads_slice (n := n) Tryz.underlying31 (by kernel_rfl) (by omega) (fun _ => rfl) (reads_val n)) (by omega)
theorem reads_thing (n : Nat) : Reads enc Tryz.prog w base spare held n 160 (fun o : Int × List (Int × Int) => [AV.i o.1, AV.vals o.2]) := fun fuel hf cs x h => by
 obtain ⟨xs, m, rfl, _, hl, hn, hg⟩ := DataW.trod_struct Tryz.underlying160 h
 have hl : cs.length = 2 := hl.trans (by kernel_rfl)
 have h0 := hg 0 _ rfl
 have h1 := hg 1 _ rfl
 rw [List.getElem?_eq_getElem (by rw [hn]; decide)] at h0 h1
 obtain ⟨y0, r0⟩ := reads_int (n := m) Tryz.underlying3 m (Nat.le_refl _) _ _ h0
 obtain ⟨y1, r1⟩ := reads_vals m m (Nat.le_refl _) _ _ h1
 refine ⟨⟨y0, y1⟩, ?_⟩
 have := relL_join (a := 0) (n := 1) (m := 1) r0 r1
 rwa [List.drop_zero, List.take_of_length_le (by omega)] at this
theorem reads_things (n : Nat) : Reads enc Tryz.prog w base spare held n 30 (fun l : List (Int × List (Int × Int)) => [AV.things l]) :=
 Reads.le (reads_slice (n := n) Tryz.underlying30 (by kernel_rfl) (by omega) (fun _ => rfl) (reads_thing n)) (by omega)
theorem reads_given (n : Nat) : Reads enc Tryz.prog w base spare held n 33 Gcells := fun fuel hf cs x h => by
 obtain ⟨xs, m, rfl, _, hl, hn, hg⟩ := DataW.trod_struct Tryz.underlying33 h
 have hl : cs.length = 18 := hl.trans (by kernel_rfl)
 have h0 := hg 0 _ rfl
 have h1 := hg 1 _ rfl
 have h2 := hg 2 _ rfl
 have h3 := hg 3 _ rfl
 have h4 := hg 4 _ rfl
 have h5 := hg 5 _ rfl
 have h6 := hg 6 _ rfl
 rw [List.getElem?_eq_getElem (by rw [hn]; decide)] at h0 h1 h2 h3 h4 h5 h6
 obtain ⟨y0, r0⟩ := reads_world m m (Nat.le_refl _) _ _ h0
 obtain ⟨y1, r1⟩ := reads_fact m m (Nat.le_refl _) _ _ h1
 obtain ⟨y2, r2⟩ := reads_fact m m (Nat.le_refl _) _ _ h2
 obtain ⟨y3, r3⟩ := reads_things m m (Nat.le_refl _) _ _ h3
 obtain ⟨y4, r4⟩ := reads_vals m m (Nat.le_refl _) _ _ h4
 obtain ⟨y5, r5⟩ := reads_int (n := m) Tryz.underlying3 m (Nat.le_refl _) _ _ h5
 obtain ⟨y6, r6⟩ := reads_ints m m (Nat.le_refl _) _ _ h6
 refine ⟨⟨y0, y1, y2, y3, y4, y5, y6⟩, ?_⟩
 have := relL_join (a := 0) (n := 17) (m := 1) (relL_join (a := 0) (n := 16) (m := 1) (relL_join (a := 0) (n := 15) (m := 1) (relL_join (a := 0) (n := 14) (m := 1) (relL_join (a := 0) (n := 8) (m := 6) (relL_join (a := 0) (n := 2) (m := 6) r0 r1) r2) r3) r4) r5) r6
 rwa [List.drop_zero, List.take_of_length_le (by omega)] at this
end
def givenZero : Array Value := #[.slice none 0 0, .slice none 0 0, .int .i64 0, .int .i64 0, .slice none 0 0, .int .i64 0, .int .i64 0, .slice none 0 0, .int .i64 0, .int .i64 0, .slice none 0 0, .int .i64 0, .int .i64 0, .slice none 0 0, .slice none 0 0, .slice none 0 0, .int .i64 0, .slice none 0 0]
section
variable {H : Type} {enc : TypeId × Value → H} {w : World} {v : Value} {d : DataW H} {ps : List MemPlace} {base base' : Nat} {r : Reach}
theorem given_of (h : DataW.Trod enc Tryz.prog w base (fun _ => true) true 33 v d ps) : ∃ g, Rel (allI w) w (AV.given g) v := by
 obtain ⟨fuel, h⟩ := h
 obtain ⟨g, hg⟩ := reads_given fuel fuel (Nat.le_refl _) _ _ h
 exact ⟨g, rel_agg hg (by simp [Gcells, Wcells, Fcells])⟩
end
def spR (x : Fact) : Fact × Bool := if x.op = 5 then (x.kids.getD 0 default, true) else (x, false)
def splitOk (x : Fact) : Prop := x.op = 5 → x.kids ≠ []
def begR (p w : List Int) : Bool := decide (p.length ≥ w.length) && p.take w.length == w
def wayR (arg : Int) (path : List Int) (x : Fact) : Bool := (spR x).1.arg == arg && begR (spR x).1.path path
def slotsR (W : FW) (L : List Fact) (arg : Int) (path : List Int) : List Int := ((List.range W.owner.length).map fun (n : Nat) => (n : Int)).filter fun s => L.any (wayR arg (path ++ [s]))
instance : HasFldV Tryz.prog 177 3 4 := ⟨by kernel_rfl⟩
structure RLit (W : FW) (x : Fact) : Prop where
 split : splitOk x
 op : 2 ≤ (spR x).1.op ∧ (spR x).1.op ≤ 4
 cls : (spR x).1.op = 2 → 0 ≤ (spR x).1.cls ∧ (spR x).1.cls < 3 + W.parents.length
 n : -1000000000 ≤ (spR x).1.n ∧ (spR x).1.n ≤ 1000000000
 path : (spR x).1.path.length ≤ 2
abbrev RS := Int × Int × List Int
def maxI (a b : Int) : Int := if b > a then b else a
def minI (a b : Int) : Int := if b < a then b else a
def rs0 : RS := (-1000000000, 1000000000, [])
def isNone (x : Fact) : Bool := (spR x).1.op == 2 && ((spR x).1.cls == 0 || (spR x).1.cls == 2)
abbrev MS := List Bool × List Bool
def ownerN (W : FW) (s : Int) : Nat := (W.owner.getD s.toNat default).toNat
theorem slot_rng {W : FW} {L : List Fact} {arg : Int} {path : List Int} {s : Int} (h : s ∈ slotsR W L arg path) : 0 ≤ s ∧ s < W.owner.length := by
 have := (List.mem_filter.1 h).1
 obtain ⟨n, hn, rfl⟩ := List.mem_map.1 this
 have := List.mem_range.1 hn
 omega
theorem owner_rng {W : FW} (hw : worldP W = true) {s : Int} (h : 0 ≤ s ∧ s < W.owner.length) : 3 ≤ W.owner.getD s.toNat default ∧ W.owner.getD s.toNat default < 3 + W.parents.length := by
 have h1 : W.owner.all (ownP W) = true := by simp only [worldP, Bool.and_eq_true] at hw; exact hw.2
 have := List.all_eq_true.1 h1 (W.owner.getD s.toNat default) (getD_mem (by omega))
 simp only [ownP, Bool.and_eq_true, decide_eq_true_eq] at this
 omega
theorem beg_len {p w : List Int} (h : begR p w = true) : w.length ≤ p.length := by
 rw [begR, Bool.and_eq_true, decide_eq_true_eq] at h; exact h.1
theorem beg_iff {p q : List Int} : begR p q = true ↔ q <+: p := by
 rw [begR, Bool.and_eq_true, decide_eq_true_eq, beq_iff_eq]
 constructor
 ·rintro ⟨_, h⟩; exact h ▸ List.take_prefix _ _
 ·intro h; exact ⟨h.length_le, (List.prefix_iff_eq_take.1 h).symm⟩
def wayL (a : Int) (p : List Int) (l : FLit) : Bool := l.f.arg == a && begR l.f.path p
def hitL (a : Int) (p : List Int) (l : FLit) : Bool := l.f.arg == a && l.f.path == p
def touch (l : FLit) (p : List Int) (k : Kn) : Kn := if p = l.f.path then askK (needF l k) l else slot2 (l.f.path.getD p.length 0) (needF l k)
def touchIf (a : Int) (p : List Int) (k : Kn) (l : FLit) : Kn := if wayL a p l = true then touch l p k else k
theorem beg0 (q : List Int) : begR q [] = true := beg_iff.2 (List.nil_prefix)
theorem begS (q : List Int) : begR q q = true := beg_iff.2 (List.prefix_refl q)
theorem beg_nil {p : List Int} (h : p ≠ []) : begR [] p = false := by
 rw [Bool.eq_false_iff]; intro e; exact h (List.prefix_nil.1 (beg_iff.1 e))
theorem beg_cons {x : Int} {q p : List Int} : begR (x :: q) p = true ↔ p = [] ∨ ∃ r, p = x :: r ∧ begR q r = true := by
 rw [beg_iff]
 constructor
 ·intro h
  rcases p with _ | ⟨y, r⟩
  ·exact .inl rfl
  ·have := List.cons_prefix_cons.1 h
   exact .inr ⟨r, by rw [this.1], beg_iff.2 this.2⟩
 ·rintro (rfl | ⟨r, rfl, h⟩)
  ·exact List.nil_prefix
  ·exact List.cons_prefix_cons.2 ⟨rfl, beg_iff.1 h⟩
theorem add_at (kn : K2) (l : FLit) (hp : l.f.path.length ≤ 2) (a : Int) (p : List Int) : add2 kn l a p = touchIf a p (kn a p) l := by
 unfold add2 touchIf wayL touch
 generalize l.f.path = q at *
 generalize hb' : l.f.arg = b
 by_cases ha : b = a
 ·subst ha
  match q, hp with
  | [], _ =>
   by_cases h0 : p = []
   ·subst h0; simp [walk2, upd2, hb', beg0]
   ·simp [walk2, upd2, hb', h0, beg_nil h0]
  | [s], _ =>
   by_cases h0 : p = []
   ·subst h0; simp [walk2, upd2, hb', beg0]
   ·by_cases h1 : p = [s]
    ·subst h1; simp [walk2, upd2, hb', begS]
    ·have hb : begR [s] p = false := by
      rw [Bool.eq_false_iff]; intro e
      rcases beg_cons.1 e with e | ⟨r, e, e2⟩
      ·exact h0 e
      ·rcases r with _ | ⟨y, r⟩
       ·exact h1 e
       ·rw [beg_nil (by simp)] at e2; cases e2
     simp [walk2, upd2, hb', h0, h1, hb]
  | [s, t], _ =>
   by_cases h0 : p = []
   ·subst h0; simp [walk2, upd2, hb', beg0]
   ·by_cases h1 : p = [s]
    ·subst h1; simp [walk2, upd2, hb', beg_cons, beg0]
    ·by_cases h2 : p = [s, t]
     ·subst h2; simp [walk2, upd2, hb', begS]
     ·have hb : begR [s, t] p = false := by
       rw [Bool.eq_false_iff]; intro e
       rcases beg_cons.1 e with e | ⟨r, e, e2⟩
       ·exact h0 e
       ·rcases beg_cons.1 e2 with e3 | ⟨r2, e3, e4⟩
        ·exact h1 (by rw [e, e3])
        ·rcases r2 with _ | ⟨y, r2⟩
         ·exact h2 (by rw [e, e3])
         ·rw [beg_nil (by simp)] at e4; cases e4
      simp [walk2, upd2, hb', h0, h1, h2, hb]
 ·have ha' : (b == a) = false := by simpa using ha
  have hx : ¬ a = b := fun e => ha e.symm
  match q, hp with
  | [], _ => simp [walk2, upd2, hb', ha', hx]
  | [s], _ => simp [walk2, upd2, hb', ha', hx]
  | [s, t], _ => simp [walk2, upd2, hb', ha', hx]
theorem stage_at {ls : List FLit} (hp : ∀ l ∈ ls, l.f.path.length ≤ 2) (a : Int) (p : List Int) : stage2 ls a p = ls.foldl (touchIf a p) kn0 := by
 unfold stage2
 have : ∀ (ls : List FLit) (kn : K2), (∀ l ∈ ls, l.f.path.length ≤ 2) → (ls.foldl add2 kn) a p = ls.foldl (touchIf a p) (kn a p) := by
  intro ls
  induction ls with
  | nil => intro kn _; rfl
  | cons l r ih =>
   intro kn h
   rw [List.foldl_cons, List.foldl_cons, ih _ (fun x hx => h x (.tail _ hx)), add_at kn l (h l (.head _))]
 exact this ls _ hp
def isL (a : Int) (p : List Int) (neg : Bool) (c : Nat) (l : FLit) : Bool := hitL a p l && l.f.op == 2 && l.neg == neg && l.f.cls.toNat == c
def wholeL (a : Int) (p : List Int) (l : FLit) : Bool := hitL a p l && l.f.op != 2 && !l.neg
def needL (a : Int) (p : List Int) (l : FLit) : Bool := !l.neg && wayL a p l
theorem way_hit {a : Int} {p : List Int} {l : FLit} : hitL a p l = (wayL a p l && decide (p = l.f.path)) := by
 rw [hitL, wayL, Bool.and_assoc]
 congr 1
 by_cases h : p = l.f.path
 ·subst h; simp [begS]
 ·have : (l.f.path == p) = false := by simpa using fun e => h e.symm
  rw [this, decide_eq_false h, Bool.and_false]
theorem slot2_rest (s : Int) (k : Kn) : (slot2 s k).low = k.low ∧ (slot2 s k).high = k.high ∧ (slot2 s k).nots = k.nots ∧ (slot2 s k).must = k.must ∧ (slot2 s k).no = k.no ∧ (slot2 s k).whole = k.whole ∧ (slot2 s k).needed = k.needed := by
 unfold slot2; split <;> exact ⟨rfl, rfl, rfl, rfl, rfl, rfl, rfl⟩
theorem ask_rest (k : Kn) (l : FLit) : (askK k l).needed = k.needed ∧ (askK k l).slots = k.slots := by
 unfold askK; (repeat' split) <;> exact ⟨rfl, rfl⟩
theorem touch_needed (a : Int) (p : List Int) (k : Kn) (l : FLit) : (touchIf a p k l).needed = (k.needed || needL a p l) := by
 unfold touchIf touch needL
 by_cases h : wayL a p l = true
 ·rw [if_pos h, h, Bool.and_true]
  split
  ·rw [(ask_rest _ _).1]; show (bif k.needed then true else !l.neg) = _; cases k.needed <;> rfl
  ·rw [(slot2_rest _ _).2.2.2.2.2.2]; show (bif k.needed then true else !l.neg) = _; cases k.needed <;> rfl
 ·rw [if_neg h, Bool.eq_false_iff.2 h]; simp
theorem touch_must (a : Int) (p : List Int) (k : Kn) (l : FLit) (c : Nat) : (touchIf a p k l).must.testBit c = (k.must.testBit c || isL a p false c l) := by
 unfold touchIf touch isL
 rw [way_hit]
 by_cases h : wayL a p l = true
 ·rw [if_pos h, h]
  by_cases hq : p = l.f.path
  ·rw [if_pos hq, decide_eq_true hq]
   unfold askK needF
   by_cases h2 : l.f.op = 2
   ·by_cases hn : l.neg = true
    ·simp [h2, hn]
    ·simp [h2, hn, Nat.testBit_or, Nat.testBit_two_pow]
     rfl
   ·simp only [h2, if_false]
    (repeat' split) <;> (simp; intro e; exact absurd e h2)
  ·rw [if_neg hq, decide_eq_false hq, (slot2_rest _ _).2.2.2.1]; simp [needF]
 ·rw [if_neg h, Bool.eq_false_iff.2 h]; simp
theorem touch_no (a : Int) (p : List Int) (k : Kn) (l : FLit) (c : Nat) : (touchIf a p k l).no.testBit c = (k.no.testBit c || isL a p true c l) := by
 unfold touchIf touch isL
 rw [way_hit]
 by_cases h : wayL a p l = true
 ·rw [if_pos h, h]
  by_cases hq : p = l.f.path
  ·rw [if_pos hq, decide_eq_true hq]
   unfold askK needF
   by_cases h2 : l.f.op = 2
   ·by_cases hn : l.neg = true
    ·simp [h2, hn, Nat.testBit_or, Nat.testBit_two_pow]
     rfl
    ·simp [h2, hn]
   ·simp only [h2, if_false]
    (repeat' split) <;> (simp; intro e; exact absurd e h2)
  ·rw [if_neg hq, decide_eq_false hq, (slot2_rest _ _).2.2.2.2.1]; simp [needF]
 ·rw [if_neg h, Bool.eq_false_iff.2 h]; simp
theorem touch_whole (a : Int) (p : List Int) (k : Kn) (l : FLit) : (touchIf a p k l).whole = (k.whole || wholeL a p l) := by
 unfold touchIf touch wholeL
 rw [way_hit]
 by_cases h : wayL a p l = true
 ·rw [if_pos h, h]
  by_cases hq : p = l.f.path
  ·rw [if_pos hq, decide_eq_true hq]
   unfold askK needF
   by_cases h2 : l.f.op = 2
   ·simp only [h2, if_true]
    split <;> simp
   ·simp only [h2, if_false]
    by_cases hn : l.neg = true
    ·simp only [hn, if_true]; split <;> simp
    ·simp only [hn]; split <;> simp [h2]
  ·rw [if_neg hq, decide_eq_false hq, (slot2_rest _ _).2.2.2.2.2.1]; simp [needF]
 ·rw [if_neg h, Bool.eq_false_iff.2 h]; simp
def tri (k : Kn) : RS := (k.low, k.high, k.nots)
def numStep (s : RS) (l : FLit) : RS :=
 if l.f.op = 2 then s
 else if l.f.op = 3 then (if l.neg = true then (maxI s.1 l.f.n, s.2.1, s.2.2) else (s.1, minI s.2.1 (l.f.n - 1), s.2.2))
 else if l.neg = true then (s.1, s.2.1, s.2.2 ++ [l.f.n])
 else (maxI s.1 l.f.n, minI s.2.1 l.f.n, s.2.2)
theorem touch_tri (a : Int) (p : List Int) (k : Kn) (l : FLit) : tri (touchIf a p k l) = if hitL a p l = true then numStep (tri k) l else tri k := by
 unfold touchIf touch
 rw [way_hit]
 by_cases h : wayL a p l = true
 ·rw [if_pos h, h]
  by_cases hq : p = l.f.path
  ·rw [if_pos hq, decide_eq_true hq, if_pos (by rfl)]
   unfold askK needF numStep tri maxI minI
   by_cases h2 : l.f.op = 2
   ·simp only [h2, if_true] <;> (split <;> rfl)
   ·simp only [h2, if_false]
    by_cases h3 : l.f.op = 3
    ·simp only [h3, if_true]; split <;> rfl
    ·simp only [h3, if_false]; split <;> rfl
  ·rw [if_neg hq, decide_eq_false hq, if_neg (by simp), tri, (slot2_rest _ _).1, (slot2_rest _ _).2.1, (slot2_rest _ _).2.2.1]; rfl
 ·rw [if_neg h, Bool.eq_false_iff.2 h, if_neg (by simp)]
theorem way_next {a x : Int} {p : List Int} {l : FLit} : wayL a (p ++ [x]) l = true ↔ wayL a p l = true ∧ p ≠ l.f.path ∧ l.f.path.getD p.length 0 = x := by
 rw [wayL, wayL, Bool.and_eq_true, Bool.and_eq_true, beg_iff, beg_iff]
 constructor
 ·rintro ⟨h1, r, hr⟩
  refine ⟨⟨h1, [x] ++ r, by rw [← List.append_assoc]; exact hr⟩, ?_, ?_⟩
  ·intro e
   have := congrArg List.length hr
   rw [← e] at this
   simp at this
  ·rw [← hr]; simp
 ·rintro ⟨⟨h1, r, hr⟩, h2, h3⟩
  refine ⟨h1, ?_⟩
  rcases r with _ | ⟨y, r⟩
  ·exact absurd (by simpa using hr) h2
  ·refine ⟨r, ?_⟩
   rw [← hr] at h3 ⊢
   simp at h3
   subst h3; simp
theorem slot2_mem {s x : Int} {k : Kn} : x ∈ (slot2 s k).slots ↔ x ∈ k.slots ∨ x = s := by
 unfold slot2
 split
 ·rename_i h
  have h := List.contains_iff_mem.1 h
  constructor
  ·exact .inl
  ·rintro (h' | rfl); exact h'; exact h
 ·show x ∈ isortI _ ↔ _
  rw [(isort_perm _).mem_iff]; simp
theorem touch_slots (a : Int) (p : List Int) (k : Kn) (l : FLit) (x : Int) : x ∈ (touchIf a p k l).slots ↔ x ∈ k.slots ∨ wayL a (p ++ [x]) l = true := by
 rw [way_next]
 unfold touchIf touch
 by_cases h : wayL a p l = true
 ·rw [if_pos h]
  by_cases hq : p = l.f.path
  ·rw [if_pos hq, (ask_rest _ _).2]
   show x ∈ k.slots ↔ _
   exact ⟨.inl, fun h' => h'.elim id fun h' => absurd hq h'.2.1⟩
  ·rw [if_neg hq, slot2_mem]
   show x ∈ k.slots ∨ _ ↔ _
   constructor
   ·rintro (h' | rfl); exact .inl h'; exact .inr ⟨h, hq, rfl⟩
   ·rintro (h' | ⟨_, _, rfl⟩); exact .inl h'; exact .inr rfl
 ·rw [if_neg h]
  exact ⟨.inl, fun h' => h'.elim id fun h' => absurd h'.1 h⟩
theorem lt_of_nodup {l : List Int} (h : l.Pairwise (· ≤ ·)) (hn : l.Nodup) : l.Pairwise (· < ·) := by
 have := h.and hn
 exact this.imp fun ⟨h1, h2⟩ => by omega
theorem slot2_lt {s : Int} {k : Kn} (h : k.slots.Pairwise (· < ·)) : (slot2 s k).slots.Pairwise (· < ·) := by
 unfold slot2
 split
 ·exact h
 ·rename_i hc
  refine lt_of_nodup (isort_sorted _) ((isort_perm _).nodup_iff.2 ?_)
  have hn : k.slots.Nodup := h.imp fun h' => by omega
  refine List.nodup_append.2 ⟨hn, by simp, ?_⟩
  intro x hx y hy e
  rw [List.mem_singleton] at hy
  subst e; subst hy
  exact hc (List.contains_iff_mem.2 hx)
theorem touch_lt {a : Int} {p : List Int} {k : Kn} {l : FLit} (h : k.slots.Pairwise (· < ·)) : (touchIf a p k l).slots.Pairwise (· < ·) := by
 unfold touchIf touch
 split
 ·split
  ·rw [(ask_rest _ _).2]; exact h
  ·exact slot2_lt h
 ·exact h
section
variable (a : Int) (p : List Int)
theorem fold_needed : ∀ (ls : List FLit) (k : Kn), (ls.foldl (touchIf a p) k).needed = (k.needed || ls.any (needL a p))
 | [], k => by simp
 | l :: r, k => by rw [List.foldl_cons, fold_needed r, touch_needed, List.any_cons, Bool.or_assoc]
theorem fold_must (c : Nat) : ∀ (ls : List FLit) (k : Kn), (ls.foldl (touchIf a p) k).must.testBit c = (k.must.testBit c || ls.any (isL a p false c))
 | [], k => by simp
 | l :: r, k => by rw [List.foldl_cons, fold_must c r, touch_must, List.any_cons, Bool.or_assoc]
theorem fold_no (c : Nat) : ∀ (ls : List FLit) (k : Kn), (ls.foldl (touchIf a p) k).no.testBit c = (k.no.testBit c || ls.any (isL a p true c))
 | [], k => by simp
 | l :: r, k => by rw [List.foldl_cons, fold_no c r, touch_no, List.any_cons, Bool.or_assoc]
theorem fold_whole : ∀ (ls : List FLit) (k : Kn), (ls.foldl (touchIf a p) k).whole = (k.whole || ls.any (wholeL a p))
 | [], k => by simp
 | l :: r, k => by rw [List.foldl_cons, fold_whole r, touch_whole, List.any_cons, Bool.or_assoc]
theorem fold_tri : ∀ (ls : List FLit) (k : Kn), tri (ls.foldl (touchIf a p) k) = (ls.filter (hitL a p)).foldl numStep (tri k)
 | [], k => rfl
 | l :: r, k => by
  rw [List.foldl_cons, fold_tri r, touch_tri, List.filter_cons]
  split
  ·rw [List.foldl_cons]
  ·rfl
theorem fold_slots (x : Int) : ∀ (ls : List FLit) (k : Kn), x ∈ (ls.foldl (touchIf a p) k).slots ↔ x ∈ k.slots ∨ ls.any (wayL a (p ++ [x])) = true
 | [], k => by simp
 | l :: r, k => by rw [List.foldl_cons, fold_slots x r, touch_slots, List.any_cons, Bool.or_eq_true, or_assoc]
theorem fold_lt : ∀ (ls : List FLit) (k : Kn), k.slots.Pairwise (· < ·) → (ls.foldl (touchIf a p) k).slots.Pairwise (· < ·)
 | [], k, h => h
 | l :: r, k, h => by rw [List.foldl_cons]; exact fold_lt r _ (touch_lt h)
end
theorem lt_eq : ∀ {l m : List Int}, l.Pairwise (· < ·) → m.Pairwise (· < ·) → (∀ x, x ∈ l ↔ x ∈ m) → l = m
 | [], [], _, _, _ => rfl
 | [], b :: m, _, _, h => absurd ((h b).2 (.head _)) (by simp)
 | a :: l, [], _, _, h => absurd ((h a).1 (.head _)) (by simp)
 | a :: l, b :: m, hl, hm, h => by
  have h1 := List.pairwise_cons.1 hl
  have h2 := List.pairwise_cons.1 hm
  have hab : a = b := by
   rcases List.mem_cons.1 ((h a).1 (.head _)) with e | e
   ·exact e
   ·rcases List.mem_cons.1 ((h b).2 (.head _)) with e' | e'
    ·exact e'.symm
    ·have := h2.1 a e; have := h1.1 b e'; omega
  subst hab
  rw [lt_eq h1.2 h2.2 fun x => ?_]
  constructor
  ·intro hx
   rcases List.mem_cons.1 ((h x).1 (.tail _ hx)) with e | e
   ·have := h1.1 x hx; omega
   ·exact e
  ·intro hx
   rcases List.mem_cons.1 ((h x).2 (.tail _ hx)) with e | e
   ·have := h2.1 x hx; omega
   ·exact e
theorem sp_lit {l : FLit} (h : l.f.op ≤ 4) : spR (litF l) = (l.f, l.neg) := by
 unfold spR litF
 by_cases hn : l.neg = true
 ·rw [if_pos hn, if_pos (by rfl), hn]; rfl
 ·rw [if_neg hn, if_neg (by omega), Bool.eq_false_iff.2 hn]
theorem any_fact {ls : List FLit} {q : Fact → Bool} {r : FLit → Bool} (h : ∀ l ∈ ls, q (litF l) = r l) : (factL ls).any q = ls.any r := by
 rw [factL, List.any_map]; exact any_congr_mem fun x hx => h x hx
structure LsOk (W : FW) (ls : List FLit) : Prop where
 w : worldP W = true
 ok : ∀ l ∈ ls, LitOk W l
 cls : ∀ l ∈ ls, l.f.op = 2 → l.f.cls < 3 + W.parents.length
section
variable {W : FW} {ls : List FLit} (h : LsOk W ls)
include h
theorem LsOk.sp {l : FLit} (hl : l ∈ ls) : spR (litF l) = (l.f, l.neg) := sp_lit (h.ok l hl).op.2
theorem LsOk.at (a : Int) (p : List Int) : stage2 ls a p = ls.foldl (touchIf a p) kn0 := stage_at (fun l hl => (h.ok l hl).path) a p
theorem LsOk.need (a : Int) (p : List Int) : (stage2 ls a p).needed = ls.any (needL a p) := by rw [h.at, fold_needed]; rfl
theorem LsOk.must (a : Int) (p : List Int) (c : Nat) : (stage2 ls a p).must.testBit c = ls.any (isL a p false c) := by rw [h.at, fold_must]; simp [kn0]
theorem LsOk.no (a : Int) (p : List Int) (c : Nat) : (stage2 ls a p).no.testBit c = ls.any (isL a p true c) := by rw [h.at, fold_no]; simp [kn0]
theorem LsOk.whole (a : Int) (p : List Int) : (stage2 ls a p).whole = ls.any (wholeL a p) := by rw [h.at, fold_whole]; rfl
theorem LsOk.tri (a : Int) (p : List Int) : tri (stage2 ls a p) = (ls.filter (hitL a p)).foldl numStep rs0 := by rw [h.at, fold_tri]; rfl
theorem LsOk.slots (a : Int) (p : List Int) (x : Int) : x ∈ (stage2 ls a p).slots ↔ ls.any (wayL a (p ++ [x])) = true := by rw [h.at, fold_slots]; simp [kn0]
theorem LsOk.lt (a : Int) (p : List Int) : (stage2 ls a p).slots.Pairwise (· < ·) := by rw [h.at]; exact fold_lt a p ls _ (by simp [kn0])
theorem way_stage (a : Int) (p : List Int) : (factL ls).any (wayR a p) = ls.any (wayL a p) :=
 any_fact fun l hl => by rw [wayR, h.sp hl]; rfl
theorem slots_stage (a : Int) (p : List Int) : slotsR W (factL ls) a p = (stage2 ls a p).slots := by
 refine lt_eq ?_ (h.lt a p) fun x => ?_
 ·rw [slotsR]
  refine List.Pairwise.filter _ ?_
  rw [List.pairwise_map]
  exact List.pairwise_lt_range.imp fun h' => by omega
 ·rw [h.slots, slotsR, List.mem_filter, way_stage h]
  constructor
  ·exact fun h' => h'.2
  ·intro h'
   refine ⟨?_, h'⟩
   obtain ⟨l, hl, hw⟩ := List.any_eq_true.1 h'
   rw [wayL, Bool.and_eq_true, beg_iff] at hw
   have hx : x ∈ l.f.path := hw.2.subset (by simp)
   have := (h.ok l hl).slot x hx
   exact List.mem_map.2 ⟨x.toNat, List.mem_range.2 (by omega), by omega⟩
omit h in
theorem andNot_bit (s t c : Nat) : (andNotP s t).testBit c = (decide (c < 64) && s.testBit c && !t.testBit c) := by
 rw [andNotP, BitVec.testBit_toNat, BitVec.getLsbD_and, BitVec.getLsbD_not, BitVec.getLsbD_ofNat, BitVec.getLsbD_ofNat]
 cases decide (c < 64) <;> simp
omit h in
theorem zero_bits {n : Nat} : ((n : Int) == 0) = true ↔ ∀ c, n.testBit c = false := by
 rw [beq_iff_eq]
 constructor
 ·intro e c; have : n = 0 := by omega
  rw [this]; exact Nat.zero_testBit c
 ·intro e
  have : n = 0 := Nat.eq_of_testBit_eq fun c => by rw [e, Nat.zero_testBit]
  omega
omit h in
theorem upK_bit (cls : Int) (c : Nat) : (upK cls).testBit c = (c == 0 || c == cls.toNat) := by
 rw [upK, Nat.testBit_or, Nat.testBit_two_pow]
 congr 1
 ·rcases c with _ | c
  ·rfl
  ·rw [Nat.testBit_succ]; simp
 ·rw [Bool.eq_iff_iff, decide_eq_true_iff, beq_iff_eq]; exact eq_comm
theorem LsOk.must_lt {a : Int} {p : List Int} {c : Nat} (hc : (stage2 ls a p).must.testBit c = true) : c < 3 + W.parents.length := by
 rw [h.must] at hc
 obtain ⟨l, hl, hh⟩ := List.any_eq_true.1 hc
 simp only [isL, Bool.and_eq_true, beq_iff_eq] at hh
 have h1 := (h.ok l hl).cls hh.1.1.2
 have h2 := h.cls l hl hh.1.1.2
 omega
theorem plain_iff (a : Int) (p : List Int) (cls : Int) : plain2 (stage2 ls) a p cls = true ↔ (∀ c, (stage2 ls a p).must.testBit c = true → c = 0 ∨ c = cls.toNat) ∧ (∀ c, c = 0 ∨ c = cls.toNat → (stage2 ls a p).no.testBit c = false) ∧ ends2 (stage2 ls) a p = true := by
 have hW := world_len h.w
 rw [plain2, Bool.and_eq_true, Bool.and_eq_true, zero_bits, zero_bits, and_assoc]
 refine and_congr ?_ (and_congr ?_ Iff.rfl)
 ·refine forall_congr' fun c => ?_
  rw [andNot_bit, upK_bit]
  constructor
  ·intro h1 h2
   have := h.must_lt h2
   rw [h2, decide_eq_true (by omega)] at h1
   by_cases hc : c = 0
   ·exact .inl hc
   ·right; simp at h1; exact h1 hc
  ·intro h1
   cases hm : (stage2 ls a p).must.testBit c with
   | false => simp
   | true => rcases h1 hm with e | e <;> simp [e]
 ·refine forall_congr' fun c => ?_
  rw [Nat.testBit_and, upK_bit]
  constructor
  ·intro h1 h2
   rcases h2 with e | e <;> simpa [e] using h1
  ·intro h1
   by_cases hc : c = 0 ∨ c = cls.toNat
   ·rw [h1 hc]; rfl
   ·have : (c == 0 || c == cls.toNat) = false := by simpa [not_or] using hc
    rw [this, Bool.and_false]
omit h in
omit h in
omit h in
omit h in
end
structure LitN (N : Nat) (l : FLit) : Prop where
 op : l.f.op ≤ 4
 cls : l.f.op = 2 → 0 ≤ l.f.cls ∧ l.f.cls < N
theorem closeK_get {W : FW} (h : worldP W = true) : ∀ (f c mu : Nat), c + f = 3 + W.parents.length → ∀ b, (closeK W f c mu).testBit b = true ↔ mu.testBit b = true ∨ ∃ i, c ≤ i ∧ i < c + f ∧ mu.testBit i = true ∧ upB W i b = true
 | 0, c, mu, _, b => by
  rw [closeK]
  exact ⟨.inl, fun h => h.elim id fun ⟨i, h1, h2, _⟩ => by omega⟩
 | f + 1, c, mu, hc, b => by
  rw [closeK, closeK_get h f (c + 1) _ (by omega)]
  by_cases hm : mu.testBit c = true
  ·rw [if_pos hm]
   simp only [Nat.testBit_or, Bool.or_eq_true]
   constructor
   ·rintro ((h1 | h1) | ⟨i, h1, h2, h3 | h3, h4⟩)
    ·exact .inl h1
    ·exact .inr ⟨c, by omega, by omega, hm, h1⟩
    ·exact .inr ⟨i, by omega, by omega, h3, h4⟩
    ·exact .inr ⟨c, by omega, by omega, hm, upB_trans h c c (Nat.le_refl _) (by omega) i b h3 h4⟩
   ·rintro (h1 | ⟨i, h1, h2, h3, h4⟩)
    ·exact .inl (.inl h1)
    ·by_cases e : i = c
     ·subst e; exact .inl (.inr h4)
     ·exact .inr ⟨i, by omega, by omega, .inl h3, h4⟩
  ·rw [if_neg hm]
   constructor
   ·rintro (h1 | ⟨i, h1, h2, h3, h4⟩)
    ·exact .inl h1
    ·exact .inr ⟨i, by omega, by omega, h3, h4⟩
   ·rintro (h1 | ⟨i, h1, h2, h3, h4⟩)
    ·exact .inl h1
    ·by_cases e : i = c
     ·subst e; exact absurd h3 hm
     ·exact .inr ⟨i, by omega, by omega, h3, h4⟩
structure Marks (W : FW) (t : MS) (must no : Nat) : Prop where
 l1 : t.1.length = 3 + W.parents.length
 l2 : t.2.length = 3 + W.parents.length
 m : ∀ c, must.testBit c = t.1.getD c false
 n : ∀ c, c ≠ 1 → c ≠ 2 → no.testBit c = t.2.getD c false
 m1 : must.testBit 1 = false
 m2 : must.testBit 2 = false
theorem or_bit {s c b : Nat} : (s ||| 2 ^ c).testBit b = (s.testBit b || b == c) := by
 rw [Nat.testBit_or, Nat.testBit_two_pow]
 congr 1
 rw [Bool.eq_iff_iff, decide_eq_true_iff, beq_iff_eq]; exact eq_comm
section
variable {W : FW} {ls : List FLit} (h : LsOk W ls)
include h
end
theorem case_ls {W : FW} (hW : worldP W = true) {f : Fact} (hw : wfB W f = true) {b : Bool} {c : List FLit} (hc : c ∈ casesP f b) : LsOk W c :=
 ⟨hW, fun l hl => let ⟨x, y⟩ := wf_lits f hw b c hc l hl; lit_ok hW x y, fun l hl h2 => by
  obtain ⟨h3, h4⟩ := wf_lits f hw b c hc l hl
  simp only [nodeOkB, Bool.and_eq_true] at h3
  have h5 := h3.2
  rw [if_pos h4] at h5
  simp only [Bool.and_eq_true, leafOkP, if_pos h2, classP, decide_eq_true_eq] at h5
  exact h5.2.2.2⟩
theorem good_f1 {W : FW} {f : Fact} (h : goodP W [f] = true) : worldP W = true ∧ formedP W f = true ∧ wfB W f = true ∧ nodesN f ≤ 24 := by
 rw [good1, Bool.and_eq_true] at h
 exact ⟨h.1, h.2, formed_wf h.2⟩
theorem good_f2 {W : FW} {a b : Fact} (h : goodP W [a, b] = true) : worldP W = true ∧ wfB W a = true ∧ nodesN a ≤ 24 ∧ wfB W b = true ∧ nodesN b ≤ 24 := by
 simp only [goodP, List.all_cons, List.all_nil, Bool.and_true, Bool.and_eq_true] at h
 have h1 := formed_wf h.2.1
 have h2 := formed_wf h.2.2
 exact ⟨h.1, h1.1, h1.2, h2.1, h2.2⟩
theorem p24c {W : FW} {a b : Fact} (h : goodP W [a, b] = true) : PCall Tryz.prog 24 [AV.world W, AV.fact a, AV.fact b] (.tup [.b (impC W a b), .i 0]) := by
 have h1 := good_f2 h
 have := p24g h
 rwa [imp_eq h1.1 h1.2.1 h1.2.2.2.1 (by omega) (by omega)] at this
inductive Val where
 | int (n : Int)
 | non
 | obj (S : Nat → Bool)
abbrev VM := Int → List Int → Option Val
def isC : Val → Nat → Bool
 | .int _, c => c == 0 || c == 1
 | .non, c => c == 0 || c == 2
 | .obj S, c => S c
structure VOk (W : FW) (V : VM) : Prop where
 root : ∀ a, 0 ≤ a → a < 3 → (V a []).isSome = true
 int : ∀ a p n, V a p = some (.int n) → -1000000000 ≤ n ∧ n ≤ 1000000000
 obj : ∀ a p S, V a p = some (.obj S) → S 0 = true ∧ S 1 = false ∧ S 2 = false ∧ ∀ c, c < 3 + W.parents.length → S c = true → ∀ b, upB W c b = true → S b = true
 step : ∀ (a : Int) (p : List Int) (s : Int), 0 ≤ s → s < (W.owner.length : Int) → ((V a (p ++ [s])).isSome = true ↔ ∃ S, V a p = some (.obj S) ∧ S (ownerN W s) = true)
def numV (n : Int) (f : Fact) : Bool := if f.op = 3 then decide (n < f.n) else n == f.n
def valL (f : Fact) (v : Val) : Bool := if f.op = 2 then isC v f.cls.toNat else match v with
 | .int n => numV n f
 | _ => false
def evL (V : VM) (f : Fact) : Bool := match V f.arg f.path with
 | none => false
 | some v => valL f v
theorem valL_is {f : Fact} {v : Val} (h : f.op = 2) : valL f v = isC v f.cls.toNat := by unfold valL; exact if_pos h
theorem valL_no {f : Fact} {v : Val} (h : ¬f.op = 2) : valL f v = (match v with | .int n => numV n f | _ => false) := by unfold valL; exact if_neg h
def litV (V : VM) (l : FLit) : Bool := evL V l.f != l.neg
mutual
def ev (V : VM) : Fact → Bool
 | .mk op arg path cls n kids =>
  if op = 1 then true
  else if op = 5 then !((evs V kids).getD 0 false)
  else if op = 6 then (evs V kids).getD 0 false && (evs V kids).getD 1 false
  else if op = 7 then (evs V kids).getD 0 false || (evs V kids).getD 1 false
  else evL V (.mk op arg path cls n kids)
def evs (V : VM) : List Fact → List Bool
 | [] => []
 | k :: r => ev V k :: evs V r
end
theorem evs_at (V : VM) : ∀ (l : List Fact) (i : Nat), i < l.length → (evs V l).getD i false = ev V (l.getD i default)
 | [], i, h => by simp at h
 | k :: r, 0, h => by rw [evs]; rfl
 | k :: r, i + 1, h => by rw [evs]; exact evs_at V r i (by simpa using h)
theorem ev_true {V : VM} {f : Fact} (h : f.op = 1) : ev V f = true := by cases f; rw [ev]; exact if_pos h
theorem ev_not {V : VM} {f : Fact} (h : f.op = 5) (hk : 0 < f.kids.length) : ev V f = !ev V (f.kids.getD 0 default) := by
 rw [← evs_at V f.kids 0 hk]; cases f; rw [ev]; simp only [Fact.op] at h; subst h; rfl
theorem ev_and {V : VM} {f : Fact} (h : f.op = 6) (hk : 1 < f.kids.length) : ev V f = (ev V (f.kids.getD 0 default) && ev V (f.kids.getD 1 default)) := by
 rw [← evs_at V f.kids 0 (by omega), ← evs_at V f.kids 1 hk]; cases f; rw [ev]; simp only [Fact.op] at h; subst h; rfl
theorem ev_or {V : VM} {f : Fact} (h : f.op = 7) (hk : 1 < f.kids.length) : ev V f = (ev V (f.kids.getD 0 default) || ev V (f.kids.getD 1 default)) := by
 rw [← evs_at V f.kids 0 (by omega), ← evs_at V f.kids 1 hk]; cases f; rw [ev]; simp only [Fact.op] at h; subst h; rfl
theorem ev_leaf {V : VM} {f : Fact} (h : leafP f = true) : ev V f = evL V f := by
 simp only [leafP, Bool.and_eq_true, decide_eq_true_eq] at h
 cases f; simp only [Fact.op] at h; rw [ev, if_neg (by omega), if_neg (by omega), if_neg (by omega), if_neg (by omega)]
theorem ev_notF (V : VM) (f : Fact) : ev V (notF f) = !ev V f := ev_not rfl (by simp [notF, Fact.kids])
theorem ev_andF (V : VM) (a b : Fact) : ev V (andF a b) = (ev V a && ev V b) := ev_and rfl (by simp [andF, Fact.kids])
theorem joinStep_all (q : FLit → Bool) (out : List FLit) (x : FLit) : (joinStep out x).all q = (out.all q && q x) := by
 unfold joinStep
 split
 ·rename_i h
  obtain ⟨y, hy, hh⟩ := List.any_eq_true.1 h
  rw [Bool.and_eq_true, beq_iff_eq, beq_iff_eq] at hh
  have e : x = y := by cases x; cases y; simp at hh; rw [hh.1, hh.2]
  subst e
  rw [Bool.eq_iff_iff, Bool.and_eq_true, List.all_eq_true]
  exact ⟨fun h => ⟨h, h x hy⟩, fun h => h.1⟩
 ·rw [List.all_append]; simp
theorem joined_all (q : FLit → Bool) : ∀ (b a : List FLit), (joinedP a b).all q = (a.all q && b.all q)
 | [], a => by simp [joinedP]
 | x :: r, a => by
  show (joinedP (joinStep a x) r).all q = _
  rw [joined_all q r, joinStep_all, List.all_cons, Bool.and_assoc]
theorem any_both {A B : List (List FLit)} (q : FLit → Bool) : ((A.flatMap fun a => B.map (joinedP a)).any fun ls => ls.all q) = ((A.any fun ls => ls.all q) && B.any fun ls => ls.all q) := by
 induction A with
 | nil => rfl
 | cons a r ih =>
  rw [List.flatMap_cons, List.any_append, ih, List.any_map, List.any_cons]
  have e : B.any ((fun ls => ls.all q) ∘ joinedP a) = (a.all q && B.any fun ls => ls.all q) := by
   clear ih
   induction B with
   | nil => simp
   | cons b s ihs =>
    rw [List.any_cons, ihs, List.any_cons]
    show ((joinedP a b).all q || _) = _
    rw [joined_all]; cases a.all q <;> simp
  rw [e]
  cases a.all q <;> cases (B.any fun ls => ls.all q) <;> simp
theorem cases_ev (V : VM) : ∀ f : Fact, okB f = true → ∀ c, ((casesP f c).any fun ls => ls.all (litV V)) = (ev V f != c) := by
 refine Fact.ind1 fun f ih hok c => ?_
 have hp := ok_parts hok
 by_cases h1 : f.op = 1
 ·rw [cases_true h1, ev_true h1]; cases c <;> rfl
 by_cases h5 : f.op = 5
 ·have hk := kids_one hok h5
  rw [cases_not h5 (by omega), ih _ (getD_mem (by omega)) (hp.2.2.2.2 _ (getD_mem (by omega))), ev_not h5 (by omega)]
  cases ev V (f.kids.getD 0 default) <;> cases c <;> rfl
 by_cases hlf : leafP f = true
 ·rw [cases_leaf h1 h5 hlf, ev_leaf hlf]; simp [litV]
 ·have hlf' : leafP f = false := by simpa using hlf
  have hk := kids_two hok h1 h5 hlf'
  have i0 := ih (f.kids.getD 0 default) (getD_mem (by omega)) (hp.2.2.2.2 _ (getD_mem (by omega))) c
  have i1 := ih (f.kids.getD 1 default) (getD_mem (by omega)) (hp.2.2.2.2 _ (getD_mem (by omega))) c
  have h67 : f.op = 6 ∨ f.op = 7 := by simp only [leafP, Bool.and_eq_false_iff, decide_eq_false_iff_not] at hlf'; omega
  cases hc : (c == (f.op == 6)) with
  | true =>
   rw [cases_either h1 h5 hlf' hc (by omega), List.any_append, i0, i1]
   rcases h67 with e | e
   ·rw [ev_and e (by omega)]; rw [e] at hc
    cases c
    ·cases hc
    ·cases ev V (f.kids.getD 0 default) <;> cases ev V (f.kids.getD 1 default) <;> rfl
   ·rw [ev_or e (by omega)]; rw [e] at hc
    cases c
    ·cases ev V (f.kids.getD 0 default) <;> cases ev V (f.kids.getD 1 default) <;> rfl
    ·cases hc
  | false =>
   rw [cases_both h1 h5 hlf' hc (by omega), any_both, i0, i1]
   rcases h67 with e | e
   ·rw [ev_and e (by omega)]; rw [e] at hc
    cases c
    ·cases ev V (f.kids.getD 0 default) <;> cases ev V (f.kids.getD 1 default) <;> rfl
    ·cases hc
   ·rw [ev_or e (by omega)]; rw [e] at hc
    cases c
    ·cases hc
    ·cases ev V (f.kids.getD 0 default) <;> cases ev V (f.kids.getD 1 default) <;> rfl
def numOk (n : Int) (l : FLit) : Bool := l.f.op == 2 || numV n l.f != l.neg
theorem num_fold (n : Int) : ∀ (r : List FLit) (s : RS), (∀ l ∈ r, 2 ≤ l.f.op ∧ l.f.op ≤ 4) → (((r.foldl numStep s).1 ≤ n ∧ n ≤ (r.foldl numStep s).2.1 ∧ n ∉ (r.foldl numStep s).2.2) ↔ (s.1 ≤ n ∧ n ≤ s.2.1 ∧ n ∉ s.2.2) ∧ ∀ l ∈ r, numOk n l = true)
 | [], s, _ => by simp
 | l :: r, s, ho => by
  have hl := ho l (.head _)
  rw [List.foldl_cons, num_fold n r _ (fun x hx => ho x (.tail _ hx))]
  have key : ((numStep s l).1 ≤ n ∧ n ≤ (numStep s l).2.1 ∧ n ∉ (numStep s l).2.2) ↔ (s.1 ≤ n ∧ n ≤ s.2.1 ∧ n ∉ s.2.2) ∧ numOk n l = true := by
   unfold numStep numOk numV maxI minI
   by_cases h2 : l.f.op = 2
   ·simp [h2]
   ·have hb : (l.f.op == 2) = false := by simpa using h2
    rw [if_neg h2, hb, Bool.false_or]
    by_cases h3 : l.f.op = 3
    ·rw [if_pos h3, if_pos h3]
     cases hn : l.neg
     ·simp only [Bool.false_eq_true, if_false]
      by_cases hq : n ∈ s.2.2 <;> simp [hq] <;> split <;> omega
     ·simp only [if_true]
      by_cases hq : n ∈ s.2.2 <;> simp [hq] <;> split <;> omega
    ·rw [if_neg h3, if_neg h3]
     cases hn : l.neg
     ·simp only [Bool.false_eq_true, if_false]
      by_cases hq : n ∈ s.2.2 <;> simp [hq] <;> (repeat' split) <;> omega
     ·simp only [if_true]
      by_cases hq : n ∈ s.2.2 <;> simp [hq] <;> omega
  rw [key, and_assoc]
  refine and_congr Iff.rfl ?_
  constructor
  ·rintro ⟨h1, h2⟩ x hx
   rcases List.mem_cons.1 hx with rfl | hx
   ·exact h1
   ·exact h2 x hx
  ·intro h; exact ⟨h l (.head _), fun x hx => h x (.tail _ hx)⟩
theorem freeF_spec (nots : List Int) : ∀ (f : Nat) (n : Int), aboveN nots n < f → freeF nots f n ∉ nots ∧ n ≤ freeF nots f n ∧ ∀ x, n ≤ x → x ∉ nots → freeF nots f n ≤ x
 | 0, n, h => by omega
 | f + 1, n, h => by
  rw [freeF]
  by_cases hc : nots.contains n = true
  ·rw [if_pos hc]
   have := above_step hc
   obtain ⟨i1, i2, i3⟩ := freeF_spec nots f (n + 1) (by omega)
   refine ⟨i1, by omega, fun x hx hm => i3 x ?_ hm⟩
   by_cases e : x = n
   ·subst e; exact absurd (List.contains_iff_mem.1 hc) hm
   ·omega
  ·rw [if_neg hc]
   exact ⟨fun hm => hc (List.contains_iff_mem.2 hm), Int.le_refl _, fun x hx _ => hx⟩
theorem freeK_spec (nots : List Int) (n : Int) : freeK nots n ∉ nots ∧ n ≤ freeK nots n ∧ ∀ x, n ≤ x → x ∉ nots → freeK nots n ≤ x := freeF_spec nots _ n (by omega)
section
variable {W : FW} {ls : List FLit} (h : LsOk W ls)
include h
theorem slot_in {a : Int} {p : List Int} {s : Int} (hs : s ∈ (stage2 ls a p).slots) : 0 ≤ s ∧ s < W.owner.length := by
 rw [← slots_stage h] at hs; exact slot_rng hs
theorem slot_len {a : Int} {p : List Int} {s : Int} (hs : s ∈ (stage2 ls a p).slots) : p.length < 2 := by
 rw [h.slots] at hs
 obtain ⟨l, hl, hw⟩ := List.any_eq_true.1 hs
 rw [wayL, Bool.and_eq_true] at hw
 have h1 := beg_len hw.2
 have := (h.ok l hl).path
 rw [List.length_append] at h1; simp at h1; omega
omit h in
theorem some_prefix {V : VM} (hV : VOk W V) {a : Int} : ∀ (r p : List Int), (∀ s ∈ r, 0 ≤ s ∧ s < W.owner.length) → (V a (p ++ r)).isSome = true → (V a p).isSome = true
 | [], p, _, hs => by simpa using hs
 | s :: r, p, hr, hs => by
  have h1 := some_prefix hV r (p ++ [s]) (fun x hx => hr x (.tail _ hx)) (by simpa using hs)
  obtain ⟨S, hS, _⟩ := (hV.step a p s (hr s (.head _)).1 (hr s (.head _)).2).1 h1
  rw [hS]; rfl
theorem need_some {V : VM} (hV : VOk W V) (hl : ∀ l ∈ ls, litV V l = true) {a : Int} {p : List Int} (hn : (stage2 ls a p).needed = true) : (V a p).isSome = true := by
 rw [h.need] at hn
 obtain ⟨l, hm, hh⟩ := List.any_eq_true.1 hn
 simp only [needL, wayL, Bool.and_eq_true, Bool.not_eq_true', beq_iff_eq] at hh
 obtain ⟨hneg, rfl, hb⟩ := hh
 obtain ⟨r, hr⟩ := beg_iff.1 hb
 have h1 := hl l hm
 rw [litV, hneg, bne_iff_ne, ne_eq, Bool.not_eq_false, evL] at h1
 refine some_prefix hV r p (fun s hs => (h.ok l hm).slot s (by rw [← hr]; exact List.mem_append_right _ hs)) ?_
 rw [hr]
 cases hv : V l.f.arg l.f.path with
 | none => rw [hv] at h1; cases h1
 | some v => rfl
section
variable {V : VM} (hV : VOk W V) (hl : ∀ l ∈ ls, litV V l = true) {a : Int} {p : List Int} {v : Val} (hv : V a p = some v)
include hV hl hv
theorem lit_val {l : FLit} (hm : l ∈ ls) (hh : hitL a p l = true) : (valL l.f v != l.neg) = true := by
 have _ := h
 have _ := hV
 have h1 := hl l hm
 rw [hitL, Bool.and_eq_true, beq_iff_eq, beq_iff_eq] at hh
 rw [litV, evL, hh.1, hh.2, hv] at h1
 exact h1
theorem must_is {c : Nat} (hc : (stage2 ls a p).must.testBit c = true) : isC v c = true := by
 rw [h.must] at hc
 obtain ⟨l, hm, hh⟩ := List.any_eq_true.1 hc
 simp only [isL, Bool.and_eq_true, beq_iff_eq] at hh
 have := lit_val h hV hl hv hm hh.1.1.1
 rw [valL_is hh.1.1.2, hh.1.2, hh.2] at this
 simpa using this
theorem no_is {c : Nat} (hc : (stage2 ls a p).no.testBit c = true) : isC v c = false := by
 rw [h.no] at hc
 obtain ⟨l, hm, hh⟩ := List.any_eq_true.1 hc
 simp only [isL, Bool.and_eq_true, beq_iff_eq] at hh
 have := lit_val h hV hl hv hm hh.1.1.1
 rw [valL_is hh.1.1.2, hh.1.2, hh.2] at this
 simpa using this
theorem whole_is (hw : (stage2 ls a p).whole = true) : ∃ n, v = .int n := by
 rw [h.whole] at hw
 obtain ⟨l, hm, hh⟩ := List.any_eq_true.1 hw
 simp only [wholeL, Bool.and_eq_true, bne_iff_ne, Bool.not_eq_true'] at hh
 have := lit_val h hV hl hv hm hh.1.1
 rw [valL_no hh.1.2, hh.2] at this
 cases v with
 | int n => exact ⟨n, rfl⟩
 | non => cases this
 | obj S => cases this
theorem next_is {s : Int} (hs : s ∈ (stage2 ls a p).slots) (hn : (stage2 ls a (p ++ [s])).needed = true) : ∃ S, v = .obj S ∧ S (ownerN W s) = true := by
 have hr := slot_in h hs
 obtain ⟨S, e, hS⟩ := (hV.step a p s hr.1 hr.2).1 (need_some h hV hl hn)
 rw [hv] at e
 exact ⟨S, Option.some.inj e, hS⟩
theorem ends_is (hne : ∀ S, v ≠ .obj S) : ends2 (stage2 ls) a p = true := by
 rw [ends2, List.all_eq_true]
 intro s hs
 cases hn : (stage2 ls a (p ++ [s])).needed with
 | false => rfl
 | true =>
  obtain ⟨S, e, _⟩ := next_is h hV hl hv hs hn
  exact absurd e (hne S)
theorem intV_is {n : Int} (e : v = .int n) : integer2 (stage2 ls) a p = true := by
 subst e
 rw [integer2, Bool.and_eq_true, decide_eq_true_eq, plain_iff h]
 have hb := hV.int a p n hv
 have ht := h.tri a p
 have hf := (num_fold n (ls.filter (hitL a p)) rs0 (fun l hm => (h.ok l (List.mem_filter.1 hm).1).op)).2 ⟨⟨hb.1, hb.2, by simp [rs0]⟩, fun l hm => by
  have hm := List.mem_filter.1 hm
  have := lit_val h hV hl hv hm.1 hm.2
  rw [numOk]
  by_cases h2 : l.f.op = 2
  ·simp [h2]
  ·rw [valL_no h2] at this
   simp only [] at this
   rw [this, Bool.or_true]⟩
 rw [← ht] at hf
 have hk := (freeK_spec (stage2 ls a p).nots (stage2 ls a p).low).2.2 n hf.1 hf.2.2
 have hhi : n ≤ (stage2 ls a p).high := hf.2.1
 refine ⟨by omega, fun c hc => ?_, fun c hc => ?_, ends_is h hV hl hv (fun S e => by cases e)⟩
 ·have := must_is h hV hl hv hc
  simpa [isC] using this
 ·rw [Bool.eq_false_iff]; intro hn
  have := no_is h hV hl hv hn
  simp only [isC, Bool.or_eq_false_iff, beq_eq_false_iff_ne] at this
  rcases hc with e | e
  ·exact this.1 e
  ·exact this.2 e
theorem nonV_is (e : v = .non) : none2 (stage2 ls) a p = true := by
 subst e
 rw [none2, Bool.and_eq_true, Bool.not_eq_true', plain_iff h]
 refine ⟨?_, fun c hc => ?_, fun c hc => ?_, ends_is h hV hl hv (fun S e => by cases e)⟩
 ·rw [Bool.eq_false_iff]; intro hw
  obtain ⟨n, e⟩ := whole_is h hV hl hv hw
  cases e
 ·have := must_is h hV hl hv hc
  simpa [isC] using this
 ·rw [Bool.eq_false_iff]; intro hn
  have := no_is h hV hl hv hn
  simp only [isC, Bool.or_eq_false_iff, beq_eq_false_iff_ne] at this
  rcases hc with e | e
  ·exact this.1 e
  ·exact this.2 e
theorem slots_is {S : Nat → Bool} (e : v = .obj S) {can : List Int → Bool} (hc : ∀ s ∈ (stage2 ls a p).slots, (V a (p ++ [s])).isSome = true → can (p ++ [s]) = true) :
  ∀ (r : List Int) (must no : Nat), (∀ s ∈ r, s ∈ (stage2 ls a p).slots) → (∀ c, must.testBit c = true → S c = true) → (∀ c, no.testBit c = true → S c = false) →
  ∃ must' no', slots2 W (stage2 ls) can a p r must no = some (must', no') ∧ (∀ c, must'.testBit c = true → S c = true) ∧ (∀ c, no'.testBit c = true → S c = false)
 | [], must, no, _, hm, hn => ⟨must, no, rfl, hm, hn⟩
 | s :: r, must, no, hr, hm, hn => by
  have hs := hr s (.head _)
  have hr' : ∀ x ∈ r, x ∈ (stage2 ls a p).slots := fun x hx => hr x (.tail _ hx)
  have hrg := slot_in h hs
  have hst := hV.step a p s hrg.1 hrg.2
  rw [hv, e] at hst
  rw [slots2]
  cases hnd : (stage2 ls a (p ++ [s])).needed with
  | true =>
   have hsm := need_some h hV hl hnd
   obtain ⟨S', e', hS⟩ := next_is h hV hl hv hs hnd
   rw [e] at e'; cases e'
   rw [hc s hs hsm]
   have := slots_is e hc r (must ||| 2 ^ (W.owner.getD s.toNat default).toNat) no hr' (fun c hcc => by
    rw [or_bit, Bool.or_eq_true, beq_iff_eq] at hcc
    rcases hcc with hcc | rfl
    ·exact hm c hcc
    ·exact hS) hn
   simpa using this
  | false =>
   cases hcn : can (p ++ [s]) with
   | true => simpa using slots_is e hc r must no hr' hm hn
   | false =>
    have hSo : S (ownerN W s) = false := by
     rw [Bool.eq_false_iff]; intro hS
     have := hc s hs (hst.2 ⟨S, rfl, hS⟩)
     rw [hcn] at this; cases this
    have := slots_is e hc r must (no ||| 2 ^ (W.owner.getD s.toNat default).toNat) hr' hm (fun c hcc => by
     rw [or_bit, Bool.or_eq_true, beq_iff_eq] at hcc
     rcases hcc with hcc | rfl
     ·exact hn c hcc
     ·exact hSo)
    simpa using this
theorem objV_is {S : Nat → Bool} (e : v = .obj S) {can : List Int → Bool} (hc : ∀ s ∈ (stage2 ls a p).slots, (V a (p ++ [s])).isSome = true → can (p ++ [s]) = true) : (object2 W (stage2 ls) can a p).2 = true := by
 have hS := hV.obj a p S (by rw [hv, e])
 rw [object2]
 have hw : (stage2 ls a p).whole = false := by
  rw [Bool.eq_false_iff]; intro hw
  obtain ⟨n, e'⟩ := whole_is h hV hl hv hw
  rw [e] at e'; cases e'
 have hmb : ∀ c, (stage2 ls a p).must.testBit c = true → S c = true := fun c hcc => by
  have := must_is h hV hl hv hcc; rw [e] at this; exact this
 have hnb : ∀ c, (stage2 ls a p).no.testBit c = true → S c = false := fun c hcc => by
  have := no_is h hV hl hv hcc; rw [e] at this; exact this
 have h1 : (stage2 ls a p).must.testBit 1 = false := by
  rw [Bool.eq_false_iff]; intro hh; have := hmb 1 hh; rw [hS.2.1] at this; cases this
 have h2 : (stage2 ls a p).must.testBit 2 = false := by
  rw [Bool.eq_false_iff]; intro hh; have := hmb 2 hh; rw [hS.2.2.1] at this; cases this
 have h0 : (stage2 ls a p).no.testBit 0 = false := by
  rw [Bool.eq_false_iff]; intro hh; have := hnb 0 hh; rw [hS.1] at this; cases this
 rw [hw, h1, h2, h0, if_neg (by simp)]
 obtain ⟨must, no, e1, hm, hn⟩ := slots_is h hV hl hv e hc (stage2 ls a p).slots _ _ (fun _ hs => hs) hmb hnb
 rw [e1]
 simp only []
 rw [zero_bits]
 intro c
 rw [Nat.testBit_and, andNot_bit, Bool.eq_false_iff]
 intro hh
 simp only [Bool.and_eq_true] at hh
 have hcS : S c = true := by
  rcases (closeK_get h.w W.parents.length 3 must rfl c).1 hh.1.1.2 with h5 | ⟨i, h5, h6, h7, h8⟩
  ·exact hm c h5
  ·exact hS.2.2.2 i (by omega) (hm i h7) c h8
 rw [hn c hh.2] at hcS; cases hcS
end
theorem sem_can {V : VM} (hV : VOk W V) (hl : ∀ l ∈ ls, litV V l = true) {a : Int} : ∀ (d : Nat) (p : List Int), p.length + d = 2 → (V a p).isSome = true → can2 W (stage2 ls) d a p = true
 | 0, p, hp, hs => by
  obtain ⟨v, hv⟩ := Option.isSome_iff_exists.1 hs
  rw [can2]
  cases v with
  | int n => rw [intV_is h hV hl hv rfl]; rfl
  | non => rw [nonV_is h hV hl hv rfl]; simp
  | obj S => rw [objV_is h hV hl hv rfl (fun s hs => absurd (slot_len h hs) (by omega))]; simp
 | d + 1, p, hp, hs => by
  obtain ⟨v, hv⟩ := Option.isSome_iff_exists.1 hs
  rw [can2]
  cases v with
  | int n => rw [intV_is h hV hl hv rfl]; rfl
  | non => rw [nonV_is h hV hl hv rfl]; simp
  | obj S => rw [objV_is h hV hl hv rfl (fun s _ hss => sem_can hV hl d (p ++ [s]) (by simp; omega) hss)]; simp
theorem sem_together {V : VM} (hV : VOk W V) (hl : ∀ l ∈ ls, litV V l = true) : together2 W ls = true := by
 rw [together2, sem_can h hV hl 2 [] rfl (hV.root 0 (by omega) (by omega)), sem_can h hV hl 2 [] rfl (hV.root 1 (by omega) (by omega)), sem_can h hV hl 2 [] rfl (hV.root 2 (by omega) (by omega))]
 rfl
end
end Go.Proofs.YtiljpbljebfhnaaGreat
