/- Part 12 of the proof: contracts of functions of the program and what they need. No condition beyond those that each theorem names. -/
import Derived.Test.YtiljpbljebfhnaaGreatFP11
set_option linter.unusedVariables false
set_option linter.unusedSimpArgs false
set_option maxRecDepth 10000
namespace Go.Proofs.YtiljpbljebfhnaaGreat
open Go.Eng
open Go.Eng.Fc
theorem good2_imp {a b : Fact} (h : goodP W0 [a, b] = true) : impF W0 a b = impC W0 a b :=
  imp_eq (good_w h) (good_f h (.head _)).1 (good_f h (.tail _ (.head _))).1 (Nat.le_trans (good_f h (.head _)).2 (by omega)) (Nat.le_trans (good_f h (.tail _ (.head _))).2 (by omega))
theorem good1_can {W : FW} {f : Fact} (h : goodP W [f] = true) : canF W f = canC W f :=
  can_eq (good_of (good_w h) (good_f h (.head _)).1 (Nat.le_trans (good_f h (.head _)).2 (by omega)))
theorem p44k (a b : Fact) (want : Bool) (h : goodP W0 [a, b] = true) (hv : impC W0 a b = want) : PCall Tryz.prog 44 [AV.fact a, AV.fact b, .b want] (.b true) := by
  intro H
  refine ACall.mk' (n := 23) Tryz.func44 rfl (by kernel_rfl) rfl rfl (fun B I w0 => ?_)
  refine CW.seq ?_
  refine CW.region ?_
  refine OL.popC rfl rfl rfl (POp.boxI rfl rfl rfl rfl) ?_
  refine OL.popC rfl rfl rfl (POp.boxI rfl rfl rfl rfl) ?_
  refine OL.popC rfl rfl rfl (POp.assign rfl rfl rfl) ?_
  refine OL.nil ?_
  refine Done.seq ?_
  refine CW.seq ?_
  refine CW.dp mixed ?_
  refine DP.anyC 0 3 23 rfl (by decide +kernel) rfl rfl (by decide +kernel) ?_
  refine AD.popC rfl rfl rfl (POp.call (.mk' rfl rfl rfl rfl rfl) (p34)) ?_
  refine AD.popC rfl rfl rfl ((by first | exact POp.ldA rfl rfl rfl rfl | (apply POp.ldAH rfl rfl rfl; (case hm => repeat (first | exact .head _ | refine .tail _ ?_)); (case hy => rfl); (case hn => rfl)))) ?_
  refine AD.popC rfl rfl rfl ((by first | exact POp.ldA rfl rfl rfl rfl | (apply POp.ldAH rfl rfl rfl; (case hm => repeat (first | exact .head _ | refine .tail _ ?_)); (case hy => rfl); (case hn => rfl)))) ?_
  refine AD.nil ?_
  refine DP.one (k := 3) (by decide +kernel) rfl ?_
  refine OL.popC rfl rfl rfl (POp.call (.mk' rfl rfl rfl rfl rfl) (p24g h)) ?_
  refine OL.nil (Done.dp ?_)
  refine DP.one (k := 4) (by decide +kernel) rfl ?_
  refine OL.popC rfl rfl rfl (POp.move rfl rfl rfl) ?_
  refine OL.nil (Done.dp ?_)
  refine DP.anyC 5 8 23 rfl (by decide +kernel) rfl rfl (by decide +kernel) ?_
  refine AD.popC rfl rfl rfl (POp.extract rfl rfl rfl rfl) ?_
  refine AD.popC rfl rfl rfl (POp.extract rfl rfl rfl rfl) ?_
  refine AD.popC rfl rfl rfl (POp.assign rfl rfl rfl) ?_
  refine AD.nil ?_
  refine DP.tailC 8 (by decide +kernel) rfl ?_
  refine OL.popC rfl rfl rfl (POp.assign rfl rfl rfl) ?_
  refine OL.nil ?_
  refine Done.seq ?_
  refine CW.seq ?_
  refine CW.region ?_
  refine OL.popC rfl rfl rfl (POp.move rfl rfl rfl) ?_
  refine OL.popC rfl rfl rfl (POp.cmp rfl rfl rfl rfl rfl rfl) ?_
  refine OL.popC rfl rfl rfl (POp.move rfl rfl rfl) ?_
  refine OL.guardC rfl rfl rfl rfl rfl rfl (fun hg => POp.move rfl rfl rfl) ?_
  refine OL.guardC rfl rfl rfl rfl rfl rfl (fun hg => POp.move rfl rfl rfl) ?_
  refine OL.guardC rfl rfl rfl rfl rfl rfl (fun hg => POp.eqB (op := .eql) rfl rfl (by first | rfl | exact hg | exact (Bool.and_eq_true_iff.1 hg).1 | exact (Bool.and_eq_true_iff.1 (Bool.and_eq_true_iff.1 hg).1).1 | simp_all) rfl (by first | rfl | exact hg | exact (Bool.and_eq_true_iff.1 hg).1 | exact (Bool.and_eq_true_iff.1 (Bool.and_eq_true_iff.1 hg).1).1 | simp_all)) ?_
  refine OL.popC rfl rfl rfl (POp.pick rfl rfl rfl rfl rfl (by first | exact fun h => h | (intro h; rw [h]; rfl) | (intro h; simp_all)) (fun _ => rfl)) ?_
  refine OL.popC rfl rfl rfl (POp.assign rfl rfl rfl) ?_
  refine OL.nil ?_
  refine Done.seq ?_
  refine CW.ret ?_
  refine Done.retR (rs := [.tmp 6]) (H' := H) rfl (.tmp rfl (.nil)) (AVleL.refl _) (by repeat (first | exact List.Sublist.refl _ | refine List.Sublist.cons _ ?_)) ?_
  exact ⟨retB (by rw [good2_imp h, hv]; simp), rfl⟩
theorem p46k (f : Fact) (want : Bool) (h : goodP W0 [f] = true) (hv : canC W0 f = want) : PCall Tryz.prog 46 [AV.fact f, .b want] (.b true) := by
  intro H
  refine ACall.mk' (n := 20) Tryz.func46 rfl (by kernel_rfl) rfl rfl (fun B I w0 => ?_)
  refine CW.seq ?_
  refine CW.region ?_
  refine OL.popC rfl rfl rfl (POp.boxI rfl rfl rfl rfl) ?_
  refine OL.popC rfl rfl rfl (POp.assign rfl rfl rfl) ?_
  refine OL.nil ?_
  refine Done.seq ?_
  refine CW.seq ?_
  refine CW.dp mixed ?_
  refine DP.anyC 0 2 20 rfl (by decide +kernel) rfl rfl (by decide +kernel) ?_
  refine AD.popC rfl rfl rfl (POp.call (.mk' rfl rfl rfl rfl rfl) (p34)) ?_
  refine AD.popC rfl rfl rfl ((by first | exact POp.ldA rfl rfl rfl rfl | (apply POp.ldAH rfl rfl rfl; (case hm => repeat (first | exact .head _ | refine .tail _ ?_)); (case hy => rfl); (case hn => rfl)))) ?_
  refine AD.nil ?_
  refine DP.one (k := 2) (by decide +kernel) rfl ?_
  refine OL.popC rfl rfl rfl (POp.call (.mk' rfl rfl rfl rfl rfl) (p18g h)) ?_
  refine OL.nil (Done.dp ?_)
  refine DP.one (k := 3) (by decide +kernel) rfl ?_
  refine OL.popC rfl rfl rfl (POp.move rfl rfl rfl) ?_
  refine OL.nil (Done.dp ?_)
  refine DP.anyC 4 7 20 rfl (by decide +kernel) rfl rfl (by decide +kernel) ?_
  refine AD.popC rfl rfl rfl (POp.extract rfl rfl rfl rfl) ?_
  refine AD.popC rfl rfl rfl (POp.extract rfl rfl rfl rfl) ?_
  refine AD.popC rfl rfl rfl (POp.assign rfl rfl rfl) ?_
  refine AD.nil ?_
  refine DP.tailC 7 (by decide +kernel) rfl ?_
  refine OL.popC rfl rfl rfl (POp.assign rfl rfl rfl) ?_
  refine OL.nil ?_
  refine Done.seq ?_
  refine CW.seq ?_
  refine CW.region ?_
  refine OL.popC rfl rfl rfl (POp.move rfl rfl rfl) ?_
  refine OL.popC rfl rfl rfl (POp.cmp rfl rfl rfl rfl rfl rfl) ?_
  refine OL.popC rfl rfl rfl (POp.move rfl rfl rfl) ?_
  refine OL.guardC rfl rfl rfl rfl rfl rfl (fun hg => POp.move rfl rfl rfl) ?_
  refine OL.guardC rfl rfl rfl rfl rfl rfl (fun hg => POp.move rfl rfl rfl) ?_
  refine OL.guardC rfl rfl rfl rfl rfl rfl (fun hg => POp.eqB (op := .eql) rfl rfl (by first | rfl | exact hg | exact (Bool.and_eq_true_iff.1 hg).1 | exact (Bool.and_eq_true_iff.1 (Bool.and_eq_true_iff.1 hg).1).1 | simp_all) rfl (by first | rfl | exact hg | exact (Bool.and_eq_true_iff.1 hg).1 | exact (Bool.and_eq_true_iff.1 (Bool.and_eq_true_iff.1 hg).1).1 | simp_all)) ?_
  refine OL.popC rfl rfl rfl (POp.pick rfl rfl rfl rfl rfl (by first | exact fun h => h | (intro h; rw [h]; rfl) | (intro h; simp_all)) (fun _ => rfl)) ?_
  refine OL.popC rfl rfl rfl (POp.assign rfl rfl rfl) ?_
  refine OL.nil ?_
  refine Done.seq ?_
  refine CW.ret ?_
  refine Done.retR (rs := [.tmp 4]) (H' := H) rfl (.tmp rfl (.nil)) (AVleL.refl _) (by repeat (first | exact List.Sublist.refl _ | refine List.Sublist.cons _ ?_)) ?_
  exact ⟨retB (by rw [good1_can h, hv]; simp), rfl⟩
theorem p40k1 : PCall Tryz.prog 40 [AV.world W0, .i 6, .i 3] (.tup [.b true, .i 0]) := by
  have := p40g w0_ok (a := 6) (b := 3) (by decide +kernel); rwa [show belowP W0 6 3 = true by decide +kernel] at this
theorem p40k2 : PCall Tryz.prog 40 [AV.world W0, .i 4, .i 5] (.tup [.b false, .i 0]) := by
  have := p40g w0_ok (a := 4) (b := 5) (by decide +kernel); rwa [show belowP W0 4 5 = false by decide +kernel] at this
theorem p40k3 : PCall Tryz.prog 40 [AV.world W0, .i 7, .i 3] (.tup [.b false, .i 2]) := p40c w0_ok (by decide +kernel)
theorem p17k : PCall Tryz.prog 17 [AV.world W0, AV.fact (andF (isF 1 []) (orF (lessF 3 []) (isF 3 [])))] (.tup [AV.factss [[isF 1 [], lessF 3 []]], .i 0]) := by
  have h : goodP W0 [andF (isF 1 []) (orF (lessF 3 []) (isF 3 []))] = true := by decide +kernel
  have := p17g h
  rwa [cases_eq (fun c hc => (good_of (good_w h) (good_f h (.head _)).1 (Nat.le_trans (good_f h (.head _)).2 (by omega))).case false c hc), k12] at this
theorem all_no {W : FW} (hw : worldP W = true) {a b : Fact} (h : goodP W [a, b] = true) (hk : (impCases a b).all (fun c => !together2 W c) = true) : ∀ c ∈ impCases a b, togetherK W c = false := fun c hc => by
  rw [case_two ((imp_good hw (good_f h (.head _)).1 (good_f h (.tail _ (.head _))).1 (good_f h (.head _)).2 (good_f h (.tail _ (.head _))).2).case false c hc)]
  simpa using List.all_eq_true.1 hk c hc
theorem proof_eq {W : FW} (hw : worldP W = true) {a b : Fact} (h : goodP W [a, b] = true) : (impCases a b).map (minC W) = (impCases a b).map (minC2 W) :=
  List.map_congr_left fun c hc => min_eq ((imp_good hw (good_f h (.head _)).1 (good_f h (.tail _ (.head _))).1 (good_f h (.head _)).2 (good_f h (.tail _ (.head _))).2).case false c hc)
theorem p35k : PCall Tryz.prog 35 [AV.world W0, AV.fact (isF 4 []), AV.fact (isF 3 [])] (.tup [AV.intss [[0, 1]], .i 0]) := by
  have h : goodP W0 [isF 4 [], isF 3 []] = true := by decide +kernel
  have := p35g h k13.2.2 (all_no w0_ok h k13.2.1)
  rwa [proof_eq w0_ok h, k13.1] at this
theorem p27k {f g : Fact} (h : goodP W0 [f] = true) (hv : shortF2 W0 f = g) : PCall Tryz.prog 27 [AV.world W0, AV.fact f] (.tup [AV.fact g, .i 0]) := by
  have := p27g h
  have hf := good_f h (.head _)
  rwa [short_eq w0_ok hf.1 (Nat.le_trans (wt_nodes f) (by omega)), hv] at this
theorem p23k (a : List (List Fact)) : PCall Tryz.prog 23 [AV.factss a, AV.factss a] (.b true) := by have := p23 a a; simpa using this
theorem p56k (a : List (List Int)) : PCall Tryz.prog 56 [AV.intss a, AV.intss a] (.b true) := by have := p56 a a; simpa using this
theorem p28k (a : Fact) : PCall Tryz.prog 28 [AV.fact a, AV.fact a] (.b true) := by have := p28 a a; simpa using this
theorem p21 : PCall Tryz.prog 21 [] (.b true) := by
  intro H
  refine ACall.mk' (n := 194) Tryz.func21 rfl (by kernel_rfl) rfl rfl (fun B I w0 => ?_)
  refine CW.seq ?_
  refine CW.region ?_
  refine OL.popC rfl rfl rfl (POp.assign rfl rfl rfl) ?_
  refine OL.nil ?_
  refine Done.seq ?_
  refine CW.seq ?_
  refine CW.region ?_
  refine OL.popC rfl rfl rfl (POp.call (.mk' rfl rfl rfl rfl rfl) (p34)) ?_
  refine OL.alC rfl rfl rfl rfl (fun wb => ?_)
  apply OL.stoC rfl rfl rfl rfl rfl rfl rfl rfl rfl rfl
  (case hu => repeat (first | exact Upd.head _ _ _ | apply Upd.tail)); (case hfit => rfl); (case hds => rfl)
  refine OL.nil ?_
  refine Done.seq ?_
  refine CW.seq ?_
  refine CW.freezeP (d := 1) rfl (.head _ _) ?_
  refine CW.region ?_
  refine OL.popC rfl rfl rfl ((by first | exact POp.ldA rfl rfl rfl rfl | (apply POp.ldAH rfl rfl rfl; (case hm => repeat (first | exact .head _ | refine .tail _ ?_)); (case hy => rfl); (case hn => rfl)))) ?_
  refine OL.popC rfl rfl rfl (POp.call (.mk' rfl rfl rfl rfl rfl) (p40k1)) ?_
  refine OL.popC rfl rfl rfl (POp.move rfl rfl rfl) ?_
  refine OL.popC rfl rfl rfl (POp.extract rfl rfl rfl rfl) ?_
  refine OL.popC rfl rfl rfl (POp.extract rfl rfl rfl rfl) ?_
  refine OL.popC rfl rfl rfl (POp.assign rfl rfl rfl) ?_
  refine OL.popC rfl rfl rfl (POp.assign rfl rfl rfl) ?_
  refine OL.nil ?_
  refine Done.seq ?_
  refine CW.seq ?_
  refine CW.region ?_
  refine OL.popC rfl rfl rfl ((by first | exact POp.ldA rfl rfl rfl rfl | (apply POp.ldAH rfl rfl rfl; (case hm => repeat (first | exact .head _ | refine .tail _ ?_)); (case hy => rfl); (case hn => rfl)))) ?_
  refine OL.popC rfl rfl rfl (POp.call (.mk' rfl rfl rfl rfl rfl) (p40k2)) ?_
  refine OL.popC rfl rfl rfl (POp.move rfl rfl rfl) ?_
  refine OL.popC rfl rfl rfl (POp.extract rfl rfl rfl rfl) ?_
  refine OL.popC rfl rfl rfl (POp.extract rfl rfl rfl rfl) ?_
  refine OL.popC rfl rfl rfl (POp.assign rfl rfl rfl) ?_
  refine OL.popC rfl rfl rfl (POp.assign rfl rfl rfl) ?_
  refine OL.nil ?_
  refine Done.seq ?_
  refine CW.seq ?_
  refine CW.region ?_
  refine OL.popC rfl rfl rfl ((by first | exact POp.ldA rfl rfl rfl rfl | (apply POp.ldAH rfl rfl rfl; (case hm => repeat (first | exact .head _ | refine .tail _ ?_)); (case hy => rfl); (case hn => rfl)))) ?_
  refine OL.popC rfl rfl rfl (POp.call (.mk' rfl rfl rfl rfl rfl) (p40k3)) ?_
  refine OL.popC rfl rfl rfl (POp.move rfl rfl rfl) ?_
  refine OL.popC rfl rfl rfl (POp.extract rfl rfl rfl rfl) ?_
  refine OL.popC rfl rfl rfl (POp.extract rfl rfl rfl rfl) ?_
  refine OL.popC rfl rfl rfl (POp.assign rfl rfl rfl) ?_
  refine OL.popC rfl rfl rfl (POp.assign rfl rfl rfl) ?_
  refine OL.nil ?_
  refine Done.seq ?_
  refine CW.seq ?_
  refine CW.seq ?_
  refine CW.region ?_
  refine OL.popC rfl rfl rfl (POp.move rfl rfl rfl) ?_
  refine OL.popC rfl rfl rfl (POp.cmp rfl rfl rfl rfl rfl rfl) ?_
  refine OL.popC rfl rfl rfl (POp.move rfl rfl rfl) ?_
  refine OL.guardC rfl rfl rfl rfl rfl rfl (fun hg => POp.move rfl rfl rfl) ?_
  refine OL.guardC rfl rfl rfl rfl rfl rfl (fun hg => POp.cmp rfl rfl rfl (by first | rfl | exact hg | exact (Bool.and_eq_true_iff.1 hg).1 | exact (Bool.and_eq_true_iff.1 (Bool.and_eq_true_iff.1 hg).1).1 | simp_all) rfl rfl) ?_
  refine OL.popC rfl rfl rfl (POp.pick rfl rfl rfl rfl rfl (fun _ => rfl) (by first | exact fun h => h | (intro h; rw [h]; rfl) | (intro h; simp_all))) ?_
  refine OL.popC rfl rfl rfl (POp.move rfl rfl rfl) ?_
  refine OL.guardC rfl rfl rfl rfl rfl rfl (fun hg => POp.move rfl rfl rfl) ?_
  refine OL.guardC rfl rfl rfl rfl rfl rfl (fun hg => POp.cmp rfl rfl rfl (by first | rfl | exact hg | exact (Bool.and_eq_true_iff.1 hg).1 | exact (Bool.and_eq_true_iff.1 (Bool.and_eq_true_iff.1 hg).1).1 | simp_all) rfl rfl) ?_
  refine OL.popC rfl rfl rfl (POp.pick rfl rfl rfl rfl rfl (fun _ => rfl) (by first | exact fun h => h | (intro h; rw [h]; rfl) | (intro h; simp_all))) ?_
  refine OL.popC rfl rfl rfl (POp.move rfl rfl rfl) ?_
  refine OL.guardC rfl rfl rfl rfl rfl rfl (fun hg => POp.move rfl rfl rfl) ?_
  refine OL.guardC rfl rfl rfl rfl rfl rfl (fun hg => POp.not rfl rfl (by first | rfl | exact hg | exact (Bool.and_eq_true_iff.1 hg).1 | exact (Bool.and_eq_true_iff.1 (Bool.and_eq_true_iff.1 hg).1).1 | simp_all)) ?_
  refine OL.popC rfl rfl rfl (POp.pick rfl rfl rfl rfl rfl (fun _ => rfl) (by first | exact fun h => h | (intro h; rw [h]; rfl) | (intro h; simp_all))) ?_
  refine OL.popC rfl rfl rfl (POp.move rfl rfl rfl) ?_
  refine OL.guardC rfl rfl rfl rfl rfl rfl (fun hg => POp.move rfl rfl rfl) ?_
  refine OL.popC rfl rfl rfl (POp.pick rfl rfl rfl rfl rfl (fun _ => rfl) (by first | exact fun h => h | (intro h; rw [h]; rfl) | (intro h; simp_all))) ?_
  refine OL.nil ?_
  refine Done.seq ?_
  refine CW.cond rfl (fun h0 => ?_) (fun h0 => ?_)
  ·
    exact absurd h0 (by decide)
  ·
    skip
    refine CW.skip ?_
    refine Done.seq ?_
    refine CW.seq ?_
    refine CW.seq ?_
    refine CW.region ?_
    refine OL.popC rfl rfl rfl (POp.callLe (.mk' rfl rfl rfl rfl rfl) (.cons (.refl _) (.cons (AVle.nil 1) .nil)) (p37 4 [])) ?_
    refine OL.popC rfl rfl rfl (POp.callLe (.mk' rfl rfl rfl rfl rfl) (.cons (.refl _) (.cons (AVle.nil 1) .nil)) (p37 3 [])) ?_
    refine OL.popC rfl rfl rfl (POp.call (.mk' rfl rfl rfl rfl rfl) (p44k (isF 4 []) (isF 3 []) true (by decide +kernel) k1)) ?_
    refine OL.popC rfl rfl rfl (POp.not rfl rfl rfl) ?_
    refine OL.popC rfl rfl rfl (POp.move rfl rfl rfl) ?_
    refine OL.guardC rfl rfl rfl rfl rfl rfl (fun hg => POp.callLe (.mk' rfl rfl rfl rfl rfl) (.cons (.refl _) (.cons (AVle.nil 1) .nil)) (p37 4 [])) ?_
    refine OL.guardC rfl rfl rfl rfl rfl rfl (fun hg => POp.callLe (.mk' rfl rfl rfl rfl rfl) (.cons (.refl _) (.cons (AVle.nil 1) .nil)) (p37 5 [])) ?_
    refine OL.guardC rfl rfl rfl rfl rfl rfl (fun hg => POp.call (.mk' rfl rfl rfl rfl (by simp_all [strip, constAV])) ((p88 _ _))) ?_
    refine OL.guardC rfl rfl rfl rfl rfl rfl (fun hg => POp.callLe (.mk' rfl rfl rfl rfl rfl) (.cons (.refl _) (.cons (AVle.nil 1) .nil)) (p37 6 [])) ?_
    refine OL.guardC rfl rfl rfl rfl rfl rfl (fun hg => POp.call (.mk' rfl rfl rfl rfl (by simp_all [strip, constAV])) (p44k (andF (isF 4 []) (isF 5 [])) (isF 6 []) false (by decide +kernel) k2)) ?_
    refine OL.guardC rfl rfl rfl rfl rfl rfl (fun hg => POp.not rfl rfl (by first | rfl | exact hg | exact (Bool.and_eq_true_iff.1 hg).1 | exact (Bool.and_eq_true_iff.1 (Bool.and_eq_true_iff.1 hg).1).1 | simp_all)) ?_
    refine OL.popC rfl rfl rfl (POp.pick rfl rfl rfl rfl rfl (fun _ => rfl) (by first | exact fun h => h | (intro h; rw [h]; rfl) | (intro h; simp_all))) ?_
    refine OL.popC rfl rfl rfl (POp.move rfl rfl rfl) ?_
    refine OL.guardC rfl rfl rfl rfl rfl rfl (fun hg => POp.row rfl rfl (by first | rfl | simp_all [strip]) rfl rfl rfl rfl rfl rfl) ?_
    refine OL.guardC rfl rfl rfl rfl rfl rfl (fun hg => POp.call (.mk' rfl rfl rfl rfl (by simp_all [strip, constAV])) (p43 7 [0])) ?_
    refine OL.guardC rfl rfl rfl rfl rfl rfl (fun hg => POp.callLe (.mk' rfl rfl rfl rfl rfl) (.cons (.refl _) (.cons (AVle.nil 1) .nil)) (p37 3 [])) ?_
    refine OL.guardC rfl rfl rfl rfl rfl rfl (fun hg => POp.call (.mk' rfl rfl rfl rfl (by simp_all [strip, constAV])) (p44k (lessF 7 [0]) (isF 3 []) true (by decide +kernel) k3)) ?_
    refine OL.guardC rfl rfl rfl rfl rfl rfl (fun hg => POp.not rfl rfl (by first | rfl | exact hg | exact (Bool.and_eq_true_iff.1 hg).1 | exact (Bool.and_eq_true_iff.1 (Bool.and_eq_true_iff.1 hg).1).1 | simp_all)) ?_
    refine OL.popC rfl rfl rfl (POp.pick rfl rfl rfl rfl rfl (fun _ => rfl) (by first | exact fun h => h | (intro h; rw [h]; rfl) | (intro h; simp_all))) ?_
    refine OL.popC rfl rfl rfl (POp.move rfl rfl rfl) ?_
    refine OL.guardC rfl rfl rfl rfl rfl rfl (fun hg => POp.callLe (.mk' rfl rfl rfl rfl rfl) (.cons (.refl _) (.cons (AVle.nil 1) .nil)) (p43 3 [])) ?_
    refine OL.guardC rfl rfl rfl rfl rfl rfl (fun hg => POp.callLe (.mk' rfl rfl rfl rfl rfl) (.cons (.refl _) (.cons (AVle.nil 1) .nil)) (p43 4 [])) ?_
    refine OL.guardC rfl rfl rfl rfl rfl rfl (fun hg => POp.call (.mk' rfl rfl rfl rfl (by simp_all [strip, constAV])) (p44k (lessF 3 []) (lessF 4 []) true (by decide +kernel) k4)) ?_
    refine OL.guardC rfl rfl rfl rfl rfl rfl (fun hg => POp.not rfl rfl (by first | rfl | exact hg | exact (Bool.and_eq_true_iff.1 hg).1 | exact (Bool.and_eq_true_iff.1 (Bool.and_eq_true_iff.1 hg).1).1 | simp_all)) ?_
    refine OL.popC rfl rfl rfl (POp.pick rfl rfl rfl rfl rfl (fun _ => rfl) (by first | exact fun h => h | (intro h; rw [h]; rfl) | (intro h; simp_all))) ?_
    refine OL.popC rfl rfl rfl (POp.move rfl rfl rfl) ?_
    refine OL.guardC rfl rfl rfl rfl rfl rfl (fun hg => POp.callLe (.mk' rfl rfl rfl rfl rfl) (.cons (.refl _) (.cons (AVle.nil 1) .nil)) (p43 3 [])) ?_
    refine OL.guardC rfl rfl rfl rfl rfl rfl (fun hg => POp.call (.mk' rfl rfl rfl rfl (by simp_all [strip, constAV])) ((p89 _))) ?_
    refine OL.guardC rfl rfl rfl rfl rfl rfl (fun hg => POp.callLe (.mk' rfl rfl rfl rfl rfl) (.cons (.refl _) (.cons (AVle.nil 1) .nil)) (p37 1 [])) ?_
    refine OL.guardC rfl rfl rfl rfl rfl rfl (fun hg => POp.call (.mk' rfl rfl rfl rfl (by simp_all [strip, constAV])) (p44k (notF (lessF 3 [])) (isF 1 []) false (by decide +kernel) k5)) ?_
    refine OL.guardC rfl rfl rfl rfl rfl rfl (fun hg => POp.not rfl rfl (by first | rfl | exact hg | exact (Bool.and_eq_true_iff.1 hg).1 | exact (Bool.and_eq_true_iff.1 (Bool.and_eq_true_iff.1 hg).1).1 | simp_all)) ?_
    refine OL.popC rfl rfl rfl (POp.pick rfl rfl rfl rfl rfl (fun _ => rfl) (by first | exact fun h => h | (intro h; rw [h]; rfl) | (intro h; simp_all))) ?_
    refine OL.popC rfl rfl rfl (POp.move rfl rfl rfl) ?_
    refine OL.guardC rfl rfl rfl rfl rfl rfl (fun hg => POp.callLe (.mk' rfl rfl rfl rfl rfl) (.cons (.refl _) (.cons (AVle.nil 1) .nil)) (p43 4 [])) ?_
    refine OL.guardC rfl rfl rfl rfl rfl rfl (fun hg => POp.callLe (.mk' rfl rfl rfl rfl rfl) (.cons (.refl _) (.cons (AVle.nil 1) .nil)) (p45 3 [])) ?_
    refine OL.guardC rfl rfl rfl rfl rfl rfl (fun hg => POp.call (.mk' rfl rfl rfl rfl (by simp_all [strip, constAV])) ((p89 _))) ?_
    refine OL.guardC rfl rfl rfl rfl rfl rfl (fun hg => POp.call (.mk' rfl rfl rfl rfl (by simp_all [strip, constAV])) ((p88 _ _))) ?_
    refine OL.guardC rfl rfl rfl rfl rfl rfl (fun hg => POp.callLe (.mk' rfl rfl rfl rfl rfl) (.cons (.refl _) (.cons (AVle.nil 1) .nil)) (p43 3 [])) ?_
    refine OL.guardC rfl rfl rfl rfl rfl rfl (fun hg => POp.call (.mk' rfl rfl rfl rfl (by simp_all [strip, constAV])) (p44k (andF (lessF 4 []) (notF (eqF 3 []))) (lessF 3 []) true (by decide +kernel) k6)) ?_
    refine OL.guardC rfl rfl rfl rfl rfl rfl (fun hg => POp.not rfl rfl (by first | rfl | exact hg | exact (Bool.and_eq_true_iff.1 hg).1 | exact (Bool.and_eq_true_iff.1 (Bool.and_eq_true_iff.1 hg).1).1 | simp_all)) ?_
    refine OL.popC rfl rfl rfl (POp.pick rfl rfl rfl rfl rfl (fun _ => rfl) (by first | exact fun h => h | (intro h; rw [h]; rfl) | (intro h; simp_all))) ?_
    refine OL.popC rfl rfl rfl (POp.move rfl rfl rfl) ?_
    refine OL.guardC rfl rfl rfl rfl rfl rfl (fun hg => POp.callLe (.mk' rfl rfl rfl rfl rfl) (.cons (.refl _) (.cons (AVle.nil 1) .nil)) (p37 3 [])) ?_
    refine OL.guardC rfl rfl rfl rfl rfl rfl (fun hg => POp.row rfl rfl (by first | rfl | simp_all [strip]) rfl rfl rfl rfl rfl rfl) ?_
    refine OL.guardC rfl rfl rfl rfl rfl rfl (fun hg => POp.call (.mk' rfl rfl rfl rfl (by simp_all [strip, constAV])) (p37 0 [0])) ?_
    refine OL.guardC rfl rfl rfl rfl rfl rfl (fun hg => POp.call (.mk' rfl rfl rfl rfl (by simp_all [strip, constAV])) (p44k (isF 3 []) (isF 0 [0]) true (by decide +kernel) k7)) ?_
    refine OL.guardC rfl rfl rfl rfl rfl rfl (fun hg => POp.not rfl rfl (by first | rfl | exact hg | exact (Bool.and_eq_true_iff.1 hg).1 | exact (Bool.and_eq_true_iff.1 (Bool.and_eq_true_iff.1 hg).1).1 | simp_all)) ?_
    refine OL.popC rfl rfl rfl (POp.pick rfl rfl rfl rfl rfl (fun _ => rfl) (by first | exact fun h => h | (intro h; rw [h]; rfl) | (intro h; simp_all))) ?_
    refine OL.nil ?_
    refine Done.seq ?_
    refine CW.cond rfl (fun h1 => ?_) (fun h1 => ?_)
    ·
      exact absurd h1 (by decide)
    ·
      skip
      refine CW.skip ?_
      refine Done.seq ?_
      refine CW.seq ?_
      refine CW.seq ?_
      refine CW.region ?_
      refine OL.popC rfl rfl rfl (POp.callLe (.mk' rfl rfl rfl rfl rfl) (.cons (.refl _) (.cons (AVle.nil 1) .nil)) (p37 1 [])) ?_
      refine OL.popC rfl rfl rfl (POp.row rfl rfl (by first | rfl | simp_all [strip]) rfl rfl rfl rfl rfl rfl) ?_
      refine OL.popC rfl rfl rfl (POp.call (.mk' rfl rfl rfl rfl rfl) (p37 0 [0])) ?_
      refine OL.popC rfl rfl rfl (POp.call (.mk' rfl rfl rfl rfl rfl) ((p88 _ _))) ?_
      refine OL.popC rfl rfl rfl (POp.call (.mk' rfl rfl rfl rfl rfl) (p46k (andF (isF 1 []) (isF 0 [0])) false (by decide +kernel) k8)) ?_
      refine OL.popC rfl rfl rfl (POp.not rfl rfl rfl) ?_
      refine OL.popC rfl rfl rfl (POp.move rfl rfl rfl) ?_
      refine OL.guardC rfl rfl rfl rfl rfl rfl (fun hg => POp.callLe (.mk' rfl rfl rfl rfl rfl) (.cons (.refl _) (.cons (AVle.nil 1) .nil)) (p37 4 [])) ?_
      refine OL.guardC rfl rfl rfl rfl rfl rfl (fun hg => POp.callLe (.mk' rfl rfl rfl rfl rfl) (.cons (.refl _) (.cons (AVle.nil 1) .nil)) (p37 5 [])) ?_
      refine OL.guardC rfl rfl rfl rfl rfl rfl (fun hg => POp.call (.mk' rfl rfl rfl rfl (by simp_all [strip, constAV])) ((p88 _ _))) ?_
      refine OL.guardC rfl rfl rfl rfl rfl rfl (fun hg => POp.call (.mk' rfl rfl rfl rfl (by simp_all [strip, constAV])) (p46k (andF (isF 4 []) (isF 5 [])) true (by decide +kernel) k9)) ?_
      refine OL.guardC rfl rfl rfl rfl rfl rfl (fun hg => POp.not rfl rfl (by first | rfl | exact hg | exact (Bool.and_eq_true_iff.1 hg).1 | exact (Bool.and_eq_true_iff.1 (Bool.and_eq_true_iff.1 hg).1).1 | simp_all)) ?_
      refine OL.popC rfl rfl rfl (POp.pick rfl rfl rfl rfl rfl (fun _ => rfl) (by first | exact fun h => h | (intro h; rw [h]; rfl) | (intro h; simp_all))) ?_
      refine OL.popC rfl rfl rfl (POp.move rfl rfl rfl) ?_
      refine OL.guardC rfl rfl rfl rfl rfl rfl (fun hg => POp.row rfl rfl (by first | rfl | simp_all [strip]) rfl rfl rfl rfl rfl rfl) ?_
      refine OL.guardC rfl rfl rfl rfl rfl rfl (fun hg => POp.call (.mk' rfl rfl rfl rfl (by simp_all [strip, constAV])) (p37 1 [0, 1])) ?_
      refine OL.guardC rfl rfl rfl rfl rfl rfl (fun hg => POp.call (.mk' rfl rfl rfl rfl (by simp_all [strip, constAV])) (p46k (isF 1 [0, 1]) true (by decide +kernel) k10)) ?_
      refine OL.guardC rfl rfl rfl rfl rfl rfl (fun hg => POp.not rfl rfl (by first | rfl | exact hg | exact (Bool.and_eq_true_iff.1 hg).1 | exact (Bool.and_eq_true_iff.1 (Bool.and_eq_true_iff.1 hg).1).1 | simp_all)) ?_
      refine OL.popC rfl rfl rfl (POp.pick rfl rfl rfl rfl rfl (fun _ => rfl) (by first | exact fun h => h | (intro h; rw [h]; rfl) | (intro h; simp_all))) ?_
      refine OL.popC rfl rfl rfl (POp.move rfl rfl rfl) ?_
      refine OL.guardC rfl rfl rfl rfl rfl rfl (fun hg => POp.callLe (.mk' rfl rfl rfl rfl rfl) (.cons (.refl _) (.cons (AVle.nil 1) .nil)) (p37 5 [])) ?_
      refine OL.guardC rfl rfl rfl rfl rfl rfl (fun hg => POp.row rfl rfl (by first | rfl | simp_all [strip]) rfl rfl rfl rfl rfl rfl) ?_
      refine OL.guardC rfl rfl rfl rfl rfl rfl (fun hg => POp.call (.mk' rfl rfl rfl rfl (by simp_all [strip, constAV])) (p37 0 [1])) ?_
      refine OL.guardC rfl rfl rfl rfl rfl rfl (fun hg => POp.call (.mk' rfl rfl rfl rfl (by simp_all [strip, constAV])) ((p89 _))) ?_
      refine OL.guardC rfl rfl rfl rfl rfl rfl (fun hg => POp.call (.mk' rfl rfl rfl rfl (by simp_all [strip, constAV])) ((p88 _ _))) ?_
      refine OL.guardC rfl rfl rfl rfl rfl rfl (fun hg => POp.call (.mk' rfl rfl rfl rfl (by simp_all [strip, constAV])) (p46k (andF (isF 5 []) (notF (isF 0 [1]))) false (by decide +kernel) k11)) ?_
      refine OL.guardC rfl rfl rfl rfl rfl rfl (fun hg => POp.not rfl rfl (by first | rfl | exact hg | exact (Bool.and_eq_true_iff.1 hg).1 | exact (Bool.and_eq_true_iff.1 (Bool.and_eq_true_iff.1 hg).1).1 | simp_all)) ?_
      refine OL.popC rfl rfl rfl (POp.pick rfl rfl rfl rfl rfl (fun _ => rfl) (by first | exact fun h => h | (intro h; rw [h]; rfl) | (intro h; simp_all))) ?_
      refine OL.nil ?_
      refine Done.seq ?_
      refine CW.cond rfl (fun h2 => ?_) (fun h2 => ?_)
      ·
        exact absurd h2 (by decide)
      ·
        skip
        refine CW.skip ?_
        refine Done.seq ?_
        refine CW.seq ?_
        refine CW.dp mixed ?_
        refine DP.anyC 0 6 194 rfl (by decide +kernel) rfl rfl (by decide +kernel) ?_
        refine AD.popC rfl rfl rfl ((by first | exact POp.ldA rfl rfl rfl rfl | (apply POp.ldAH rfl rfl rfl; (case hm => repeat (first | exact .head _ | refine .tail _ ?_)); (case hy => rfl); (case hn => rfl)))) ?_
        refine AD.popC rfl rfl rfl (POp.callLe (.mk' rfl rfl rfl rfl rfl) (.cons (.refl _) (.cons (AVle.nil 1) .nil)) (p37 1 [])) ?_
        refine AD.popC rfl rfl rfl (POp.callLe (.mk' rfl rfl rfl rfl rfl) (.cons (.refl _) (.cons (AVle.nil 1) .nil)) (p43 3 [])) ?_
        refine AD.popC rfl rfl rfl (POp.callLe (.mk' rfl rfl rfl rfl rfl) (.cons (.refl _) (.cons (AVle.nil 1) .nil)) (p37 3 [])) ?_
        refine AD.popC rfl rfl rfl (POp.call (.mk' rfl rfl rfl rfl rfl) ((p90 _ _))) ?_
        refine AD.popC rfl rfl rfl (POp.call (.mk' rfl rfl rfl rfl rfl) ((p88 _ _))) ?_
        refine AD.nil ?_
        refine DP.one (k := 6) (by decide +kernel) rfl ?_
        refine OL.popC rfl rfl rfl (POp.call (.mk' rfl rfl rfl rfl rfl) (p17k)) ?_
        refine OL.nil (Done.dp ?_)
        refine DP.one (k := 7) (by decide +kernel) rfl ?_
        refine OL.popC rfl rfl rfl (POp.move rfl rfl rfl) ?_
        refine OL.nil (Done.dp ?_)
        refine DP.anyC 8 11 194 rfl (by decide +kernel) rfl rfl (by decide +kernel) ?_
        refine AD.popC rfl rfl rfl (POp.extract rfl rfl rfl rfl) ?_
        refine AD.popC rfl rfl rfl (POp.extract rfl rfl rfl rfl) ?_
        refine AD.popC rfl rfl rfl (POp.assign rfl rfl rfl) ?_
        refine AD.nil ?_
        refine DP.tailC 11 (by decide +kernel) rfl ?_
        refine OL.popC rfl rfl rfl (POp.assign rfl rfl rfl) ?_
        refine OL.nil ?_
        refine Done.seq ?_
        refine CW.seq ?_
        refine CW.dp mixed ?_
        refine DP.anyC 0 3 194 rfl (by decide +kernel) rfl rfl (by decide +kernel) ?_
        refine AD.popC rfl rfl rfl ((by first | exact POp.ldA rfl rfl rfl rfl | (apply POp.ldAH rfl rfl rfl; (case hm => repeat (first | exact .head _ | refine .tail _ ?_)); (case hy => rfl); (case hn => rfl)))) ?_
        refine AD.popC rfl rfl rfl (POp.callLe (.mk' rfl rfl rfl rfl rfl) (.cons (.refl _) (.cons (AVle.nil 1) .nil)) (p37 4 [])) ?_
        refine AD.popC rfl rfl rfl (POp.callLe (.mk' rfl rfl rfl rfl rfl) (.cons (.refl _) (.cons (AVle.nil 1) .nil)) (p37 3 [])) ?_
        refine AD.nil ?_
        refine DP.one (k := 3) (by decide +kernel) rfl ?_
        refine OL.popC rfl rfl rfl (POp.call (.mk' rfl rfl rfl rfl rfl) (p35k)) ?_
        refine OL.nil (Done.dp ?_)
        refine DP.one (k := 4) (by decide +kernel) rfl ?_
        refine OL.popC rfl rfl rfl (POp.move rfl rfl rfl) ?_
        refine OL.nil (Done.dp ?_)
        refine DP.anyC 5 8 194 rfl (by decide +kernel) rfl rfl (by decide +kernel) ?_
        refine AD.popC rfl rfl rfl (POp.extract rfl rfl rfl rfl) ?_
        refine AD.popC rfl rfl rfl (POp.extract rfl rfl rfl rfl) ?_
        refine AD.popC rfl rfl rfl (POp.assign rfl rfl rfl) ?_
        refine AD.nil ?_
        refine DP.tailC 8 (by decide +kernel) rfl ?_
        refine OL.popC rfl rfl rfl (POp.assign rfl rfl rfl) ?_
        refine OL.nil ?_
        refine Done.seq ?_
        refine CW.seq ?_
        refine CW.dp mixed ?_
        refine DP.anyAC (fun j b => match j with | 0 => .blk b 29 [.i 0, .i 0, .val (.slice none 0 0), .i 0, .i 0, .val (.slice none 0 0)] :: H | _ => .blk b 29 (Fcells (isF 4 [])) :: H) 10 [8, 9] 1 0 10 194 rfl (by decide +kernel) rfl rfl rfl rfl (by decide +kernel) ?_
        refine TD.popA (by decide +kernel) rfl rfl rfl rfl (fun _ => (by first | exact POp.ldA rfl rfl rfl rfl | (apply POp.ldAH rfl rfl rfl; (case hm => repeat (first | exact .head _ | refine .tail _ ?_)); (case hy => rfl); (case hn => rfl)))) ?_
        refine TD.popA (by decide +kernel) rfl rfl rfl rfl (fun _ => POp.callLe (.mk' rfl rfl rfl rfl rfl) (.cons (.refl _) (.cons (AVle.nil 1) .nil)) (p37 4 [])) ?_
        refine TD.popA (by decide +kernel) rfl rfl rfl rfl (fun _ => POp.callLe (.mk' rfl rfl rfl rfl rfl) (.cons (.refl _) (.cons (AVle.nil 1) .nil)) (p37 3 [])) ?_
        refine TD.popA (by decide +kernel) rfl rfl rfl rfl (fun _ => POp.call (.mk' rfl rfl rfl rfl rfl) ((p88 _ _))) ?_
        refine TD.popA (by decide +kernel) rfl rfl rfl rfl (fun _ => POp.call (.mk' rfl rfl rfl rfl rfl) (p27k (by decide +kernel) k14)) ?_
        refine TD.popA (by decide +kernel) rfl rfl rfl rfl (fun _ => POp.move rfl rfl rfl) ?_
        refine TD.popA (by decide +kernel) rfl rfl rfl rfl (fun _ => POp.extract rfl rfl rfl rfl) ?_
        refine TD.popA (by decide +kernel) rfl rfl rfl rfl (fun _ => POp.extract rfl rfl rfl rfl) ?_
        refine TD.effA (by decide +kernel) (by decide +kernel) rfl rfl rfl rfl (fun _ => rfl) ?_
        refine TD.stoA 0 (by decide +kernel) (by decide +kernel) (by decide +kernel) rfl rfl (fun b => .store rfl rfl rfl rfl rfl rfl rfl rfl (by repeat (first | exact Upd.head _ _ _ | apply Upd.tail)) (by exact rfl) (by exact rfl)) ?_
        refine TD.nil (fun b10 => ?_)
        refine DP.tailC 10 (by decide +kernel) rfl ?_
        refine OL.popC rfl rfl rfl (POp.assign rfl rfl rfl) ?_
        refine OL.nil ?_
        refine Done.seq ?_
        refine CW.seq ?_
        refine CW.dp mixed ?_
        refine DP.anyAC (fun j b => match j with | 0 => .blk b 29 [.i 0, .i 0, .val (.slice none 0 0), .i 0, .i 0, .val (.slice none 0 0)] :: .blk b10 29 (Fcells (isF 4 [])) :: H | _ => .blk b 29 (Fcells noF) :: .blk b10 29 (Fcells (isF 4 [])) :: H) 11 [8, 9] 1 0 10 194 rfl (by decide +kernel) rfl rfl rfl rfl (by decide +kernel) ?_
        refine TD.popA (by decide +kernel) rfl rfl rfl rfl (fun _ => (by first | exact POp.ldA rfl rfl rfl rfl | (apply POp.ldAH rfl rfl rfl; (case hm => repeat (first | exact .head _ | refine .tail _ ?_)); (case hy => rfl); (case hn => rfl)))) ?_
        refine TD.popA (by decide +kernel) rfl rfl rfl rfl (fun _ => POp.callLe (.mk' rfl rfl rfl rfl rfl) (.cons (.refl _) (.cons (AVle.nil 1) .nil)) (p43 3 [])) ?_
        refine TD.popA (by decide +kernel) rfl rfl rfl rfl (fun _ => POp.callLe (.mk' rfl rfl rfl rfl rfl) (.cons (.refl _) (.cons (AVle.nil 1) .nil)) (p37 3 [])) ?_
        refine TD.popA (by decide +kernel) rfl rfl rfl rfl (fun _ => POp.call (.mk' rfl rfl rfl rfl rfl) ((p88 _ _))) ?_
        refine TD.popA (by decide +kernel) rfl rfl rfl rfl (fun _ => POp.call (.mk' rfl rfl rfl rfl rfl) (p27k (by decide +kernel) k15)) ?_
        refine TD.popA (by decide +kernel) rfl rfl rfl rfl (fun _ => POp.move rfl rfl rfl) ?_
        refine TD.popA (by decide +kernel) rfl rfl rfl rfl (fun _ => POp.extract rfl rfl rfl rfl) ?_
        refine TD.popA (by decide +kernel) rfl rfl rfl rfl (fun _ => POp.extract rfl rfl rfl rfl) ?_
        refine TD.effA (by decide +kernel) (by decide +kernel) rfl rfl rfl rfl (fun _ => rfl) ?_
        refine TD.stoA 0 (by decide +kernel) (by decide +kernel) (by decide +kernel) rfl rfl (fun b => .store rfl rfl rfl rfl rfl rfl rfl rfl (by repeat (first | exact Upd.head _ _ _ | apply Upd.tail)) (by exact rfl) (by exact rfl)) ?_
        refine TD.nil (fun b11 => ?_)
        refine DP.tailC 10 (by decide +kernel) rfl ?_
        refine OL.popC rfl rfl rfl (POp.assign rfl rfl rfl) ?_
        refine OL.nil ?_
        refine Done.seq ?_
        refine CW.seq ?_
        refine CW.dp mixed ?_
        refine DP.one (k := 0) (by decide +kernel) rfl ?_
        refine OL.popC rfl rfl rfl (POp.move rfl rfl rfl) ?_
        refine OL.nil (Done.dp ?_)
        refine DP.one (k := 1) (by decide +kernel) rfl ?_
        refine OL.popC rfl rfl rfl (POp.cmp rfl rfl rfl rfl rfl rfl) ?_
        refine OL.nil (Done.dp ?_)
        refine DP.one (k := 2) (by decide +kernel) rfl ?_
        refine OL.popC rfl rfl rfl (POp.move rfl rfl rfl) ?_
        refine OL.nil (Done.dp ?_)
        refine DP.one (k := 3) (by decide +kernel) rfl ?_
        refine OL.guardC rfl rfl rfl rfl rfl rfl (fun hg => POp.move rfl rfl rfl) ?_
        refine OL.nil (Done.dp ?_)
        refine DP.one (k := 4) (by decide +kernel) rfl ?_
        refine OL.guardC rfl rfl rfl rfl rfl rfl (fun hg => POp.cmp rfl rfl rfl (by first | rfl | exact hg | exact (Bool.and_eq_true_iff.1 hg).1 | exact (Bool.and_eq_true_iff.1 (Bool.and_eq_true_iff.1 hg).1).1 | simp_all) rfl rfl) ?_
        refine OL.nil (Done.dp ?_)
        refine DP.one (k := 5) (by decide +kernel) rfl ?_
        refine OL.popC rfl rfl rfl (POp.pick rfl rfl rfl rfl rfl (by first | exact fun h => h | (intro h; rw [h]; rfl) | (intro h; simp_all)) (fun _ => rfl)) ?_
        refine OL.nil (Done.dp ?_)
        refine DP.one (k := 6) (by decide +kernel) rfl ?_
        refine OL.popC rfl rfl rfl (POp.move rfl rfl rfl) ?_
        refine OL.nil (Done.dp ?_)
        refine DP.one (k := 7) (by decide +kernel) rfl ?_
        refine OL.guardC rfl rfl rfl rfl rfl rfl (fun hg => POp.move rfl rfl rfl) ?_
        refine OL.nil (Done.dp ?_)
        refine DP.one (k := 8) (by decide +kernel) rfl ?_
        refine OL.guardC rfl rfl rfl rfl rfl rfl (fun hg => POp.cmp rfl rfl rfl (by first | rfl | exact hg | exact (Bool.and_eq_true_iff.1 hg).1 | exact (Bool.and_eq_true_iff.1 (Bool.and_eq_true_iff.1 hg).1).1 | simp_all) rfl rfl) ?_
        refine OL.nil (Done.dp ?_)
        refine DP.one (k := 9) (by decide +kernel) rfl ?_
        refine OL.popC rfl rfl rfl (POp.pick rfl rfl rfl rfl rfl (by first | exact fun h => h | (intro h; rw [h]; rfl) | (intro h; simp_all)) (fun _ => rfl)) ?_
        refine OL.nil (Done.dp ?_)
        refine DP.one (k := 10) (by decide +kernel) rfl ?_
        refine OL.popC rfl rfl rfl (POp.move rfl rfl rfl) ?_
        refine OL.nil (Done.dp ?_)
        refine DP.one (k := 11) (by decide +kernel) rfl ?_
        refine OL.guardC rfl rfl rfl rfl rfl rfl (fun hg => POp.move rfl rfl rfl) ?_
        refine OL.nil (Done.dp ?_)
        refine DP.one (k := 12) (by decide +kernel) rfl ?_
        refine OL.guardC rfl rfl rfl rfl rfl rfl (fun hg => POp.cmp rfl rfl rfl (by first | rfl | exact hg | exact (Bool.and_eq_true_iff.1 hg).1 | exact (Bool.and_eq_true_iff.1 (Bool.and_eq_true_iff.1 hg).1).1 | simp_all) rfl rfl) ?_
        refine OL.nil (Done.dp ?_)
        refine DP.one (k := 13) (by decide +kernel) rfl ?_
        refine OL.popC rfl rfl rfl (POp.pick rfl rfl rfl rfl rfl (by first | exact fun h => h | (intro h; rw [h]; rfl) | (intro h; simp_all)) (fun _ => rfl)) ?_
        refine OL.nil (Done.dp ?_)
        refine DP.one (k := 14) (by decide +kernel) rfl ?_
        refine OL.popC rfl rfl rfl (POp.move rfl rfl rfl) ?_
        refine OL.nil (Done.dp ?_)
        refine DP.anyC 15 20 194 rfl (by decide +kernel) rfl rfl (by decide +kernel) ?_
        refine AD.guardC rfl rfl rfl rfl rfl (fun hg => POp.move rfl rfl rfl) ?_
        refine AD.guardC rfl rfl rfl rfl rfl (fun hg => POp.callLe (.mk' rfl rfl rfl rfl rfl) (.cons (.refl _) (.cons (AVle.nil 1) .nil)) (p37 1 [])) ?_
        refine AD.guardC rfl rfl rfl rfl rfl (fun hg => POp.callLe (.mk' rfl rfl rfl rfl rfl) (.cons (.refl _) (.cons (AVle.nil 1) .nil)) (p43 3 [])) ?_
        refine AD.guardC rfl rfl rfl rfl rfl (fun hg => POp.row rfl rfl (by first | rfl | simp_all [strip]) rfl rfl rfl rfl rfl rfl) ?_
        refine AD.guardC rfl rfl rfl rfl rfl (fun hg => POp.row rfl rfl (by first | rfl | simp_all [strip]) rfl rfl rfl rfl rfl rfl) ?_
        refine AD.nil ?_
        refine DP.one (k := 20) (by decide +kernel) rfl ?_
        refine OL.guardC rfl rfl rfl rfl rfl rfl (fun hg => POp.call (.mk' rfl rfl rfl rfl (by simp_all [strip, constAV])) (p23k _)) ?_
        refine OL.nil (Done.dp ?_)
        refine DP.one (k := 21) (by decide +kernel) rfl ?_
        refine OL.popC rfl rfl rfl (POp.pick rfl rfl rfl rfl rfl (by first | exact fun h => h | (intro h; rw [h]; rfl) | (intro h; simp_all)) (fun _ => rfl)) ?_
        refine OL.nil (Done.dp ?_)
        refine DP.one (k := 22) (by decide +kernel) rfl ?_
        refine OL.popC rfl rfl rfl (POp.move rfl rfl rfl) ?_
        refine OL.nil (Done.dp ?_)
        refine DP.anyC 23 26 194 rfl (by decide +kernel) rfl rfl (by decide +kernel) ?_
        refine AD.guardC rfl rfl rfl rfl rfl (fun hg => POp.move rfl rfl rfl) ?_
        refine AD.guardC rfl rfl rfl rfl rfl (fun hg => POp.row rfl rfl (by first | rfl | simp_all [strip]) rfl rfl rfl rfl rfl rfl) ?_
        refine AD.guardC rfl rfl rfl rfl rfl (fun hg => POp.row rfl rfl (by first | rfl | simp_all [strip]) rfl rfl rfl rfl rfl rfl) ?_
        refine AD.nil ?_
        refine DP.one (k := 26) (by decide +kernel) rfl ?_
        refine OL.guardC rfl rfl rfl rfl rfl rfl (fun hg => POp.call (.mk' rfl rfl rfl rfl (by simp_all [strip, constAV])) (p56k _)) ?_
        refine OL.nil (Done.dp ?_)
        refine DP.one (k := 27) (by decide +kernel) rfl ?_
        refine OL.popC rfl rfl rfl (POp.pick rfl rfl rfl rfl rfl (by first | exact fun h => h | (intro h; rw [h]; rfl) | (intro h; simp_all)) (fun _ => rfl)) ?_
        refine OL.nil (Done.dp ?_)
        refine DP.one (k := 28) (by decide +kernel) rfl ?_
        refine OL.popC rfl rfl rfl (POp.move rfl rfl rfl) ?_
        refine OL.nil (Done.dp ?_)
        refine DP.anyC 29 31 194 rfl (by decide +kernel) rfl rfl (by decide +kernel) ?_
        refine AD.guardC rfl rfl rfl rfl rfl (fun hg => (by first | exact POp.ldA rfl rfl rfl rfl | (apply POp.ldAH rfl rfl rfl; (case hm => repeat (first | exact .head _ | refine .tail _ ?_)); (case hy => rfl); (case hn => rfl)))) ?_
        refine AD.guardC rfl rfl rfl rfl rfl (fun hg => POp.callLe (.mk' rfl rfl rfl rfl rfl) (.cons (.refl _) (.cons (AVle.nil 1) .nil)) (p37 4 [])) ?_
        refine AD.nil ?_
        refine DP.one (k := 31) (by decide +kernel) rfl ?_
        refine OL.guardC rfl rfl rfl rfl rfl rfl (fun hg => POp.call (.mk' rfl rfl rfl rfl (by simp_all [strip, constAV])) (p28k _)) ?_
        refine OL.nil (Done.dp ?_)
        refine DP.one (k := 32) (by decide +kernel) rfl ?_
        refine OL.popC rfl rfl rfl (POp.pick rfl rfl rfl rfl rfl (by first | exact fun h => h | (intro h; rw [h]; rfl) | (intro h; simp_all)) (fun _ => rfl)) ?_
        refine OL.nil (Done.dp ?_)
        refine DP.one (k := 33) (by decide +kernel) rfl ?_
        refine OL.popC rfl rfl rfl (POp.move rfl rfl rfl) ?_
        refine OL.nil (Done.dp ?_)
        refine DP.anyC 34 37 194 rfl (by decide +kernel) rfl rfl (by decide +kernel) ?_
        refine AD.guardC rfl rfl rfl rfl rfl (fun hg => (by first | exact POp.ldA rfl rfl rfl rfl | (apply POp.ldAH rfl rfl rfl; (case hm => repeat (first | exact .head _ | refine .tail _ ?_)); (case hy => rfl); (case hn => rfl)))) ?_
        refine AD.guardC rfl rfl rfl rfl rfl (fun hg => POp.call (.mk' rfl rfl rfl rfl rfl) ((p91 ))) ?_
        refine AD.guardC rfl rfl rfl rfl rfl (fun hg => POp.call (.mk' rfl rfl rfl rfl (by simp_all [strip, constAV])) ((p89 _))) ?_
        refine AD.nil ?_
        refine DP.tailC 37 (by decide +kernel) rfl ?_
        refine OL.guardC rfl rfl rfl rfl rfl rfl (fun hg => POp.call (.mk' rfl rfl rfl rfl (by simp_all [strip, constAV])) (p28k _)) ?_
        refine OL.popC rfl rfl rfl (POp.pick rfl rfl rfl rfl rfl (by first | exact fun h => h | (intro h; rw [h]; rfl) | (intro h; simp_all)) (fun _ => rfl)) ?_
        refine OL.popC rfl rfl rfl (POp.assign rfl rfl rfl) ?_
        refine OL.nil ?_
        refine Done.seq ?_
        refine CW.ret ?_
        refine Done.retR (rs := [.tmp 0]) (H' := H) rfl (.tmp rfl (.nil)) (AVleL.refl _) (by repeat (first | exact List.Sublist.refl _ | refine List.Sublist.cons _ ?_)) ?_
        exact ⟨by rfl, rfl⟩
end Go.Proofs.YtiljpbljebfhnaaGreat

set_option linter.unusedVariables false
set_option linter.unusedSimpArgs false
set_option maxRecDepth 10000
namespace Go.Proofs.YtiljpbljebfhnaaGreat
open Go.Eng
open Go.Eng.Fc
end Go.Proofs.YtiljpbljebfhnaaGreat

set_option linter.unusedVariables false
set_option linter.unusedSimpArgs false
set_option maxRecDepth 10000
namespace Go.Proofs.YtiljpbljebfhnaaGreat
open Go.Eng
open Go.Eng.Fc
theorem seen_step {l : List Int} {x : Int} {q : Nat} (hq : q < l.length) (h : (l.take q).contains x = false) (hx : l.getD q default ≠ x) : (l.take (q + 1)).contains x = false := by
  rw [← take_getD hq, List.contains_eq_any_beq, List.any_append, ← List.contains_eq_any_beq, h]
  simp; exact fun e => hx e.symm
theorem parent_step1 {k j : Nat} {l : List Int} (hj : j < l.length) (h1 : ¬ l.getD j default < 3) (h2 : ¬ l.getD j default ≥ 3 + (k : Int)) (h3 : (l.take j).contains (l.getD j default) = false) : parentsP k (l.take j) (l.drop j) = parentsP k (l.take (j + 1)) (l.drop (j + 1)) := by
  rw [parent_step hj, h3, decide_eq_false h1, decide_eq_false h2]; rfl
theorem parent_bad1 {k j : Nat} {l : List Int} (hj : j < l.length) (h : (decide (l.getD j default < 3) || decide (l.getD j default ≥ 3 + (k : Int)) || (l.take j).contains (l.getD j default)) = true) : parentsP k (l.take j) (l.drop j) = false := by
  rw [parent_step hj, h]; rfl
theorem seen_yes {l : List Int} {x : Int} {q j : Nat} (hq : q < j) (hj : j ≤ l.length) (hx : l.getD q default = x) : (l.take j).contains x = true := by
  rw [List.contains_iff_mem, ← hx, getD_lt (by omega)]
  exact List.mem_take_iff_getElem.2 ⟨q, by omega, rfl⟩
theorem own_step {W : FW} {l : List Int} {k : Nat} (hk : k < l.length) (h : (l.take k).all (ownP W) = true) (hx : ownP W (l.getD k default) = true) : (l.take (k + 1)).all (ownP W) = true := by
  rw [← take_getD hk, List.all_append, h]; simpa using hx
theorem own_no {W : FW} {l : List Int} {k : Nat} (hk : k < l.length) (hx : ownP W (l.getD k default) = false) : l.all (ownP W) = false := by
  rw [List.all_eq_false]; exact ⟨l.getD k default, by rw [getD_lt hk]; exact List.getElem_mem hk, by rw [hx]; simp⟩
theorem p19 (W : FW) : PCall Tryz.prog 19 [AV.world W] (.b (worldP W)) := by
  intro H
  refine ACall.mk' (n := 68) Tryz.func19 rfl (by kernel_rfl) rfl rfl (fun B I w0 => ?_)
  refine CW.boundA (t := 0) (i := 0) rfl rfl (fun hb0 => ?_)
  refine CW.boundA (t := 0) (i := 1) rfl rfl (fun hb1 => ?_)
  refine CW.seq ?_
  refine CW.region ?_
  refine OL.popC rfl rfl rfl (POp.boxI rfl rfl rfl rfl) ?_
  refine OL.popC rfl rfl rfl (POp.assign rfl rfl rfl) ?_
  refine OL.nil ?_
  refine Done.seq ?_
  refine CW.seq ?_
  refine CW.seq ?_
  refine CW.region ?_
  refine OL.popC rfl rfl rfl ((by first | exact POp.fa rfl rfl rfl rfl | exact POp.faP rfl rfl rfl rfl)) ?_
  refine OL.popC rfl rfl rfl ((by first | exact POp.ld1 rfl rfl rfl rfl | (apply POp.ld1H rfl rfl rfl; (case hm => repeat (first | exact .head _ | refine .tail _ ?_)); (case hy => rfl)))) ?_
  refine OL.popC rfl rfl rfl ((by first | exact POp.lenM rfl rfl rfl | exact POp.lenA rfl rfl rfl | exact POp.lenV rfl rfl rfl | exact POp.len' rfl rfl rfl)) ?_
  refine OL.popC rfl rfl rfl (POp.cmp rfl rfl rfl rfl rfl rfl) ?_
  refine OL.popC rfl rfl rfl (POp.move rfl rfl rfl) ?_
  refine OL.guardC rfl rfl rfl rfl rfl rfl (fun hg => (by first | exact POp.fa rfl rfl rfl rfl | exact POp.faP rfl rfl rfl rfl)) ?_
  refine OL.guardC rfl rfl rfl rfl rfl rfl (fun hg => (by first | exact POp.ld1 rfl rfl (by first | rfl | exact hg | exact (Bool.and_eq_true_iff.1 hg).1 | exact (Bool.and_eq_true_iff.1 (Bool.and_eq_true_iff.1 hg).1).1 | simp_all) rfl | (apply POp.ld1H rfl rfl (by first | rfl | exact hg | exact (Bool.and_eq_true_iff.1 hg).1 | exact (Bool.and_eq_true_iff.1 (Bool.and_eq_true_iff.1 hg).1).1 | simp_all); (case hm => repeat (first | exact .head _ | refine .tail _ ?_)); (case hy => rfl)))) ?_
  refine OL.guardC rfl rfl rfl rfl rfl rfl (fun hg => (by first | exact POp.lenM rfl rfl (by first | rfl | exact hg | exact (Bool.and_eq_true_iff.1 hg).1 | exact (Bool.and_eq_true_iff.1 (Bool.and_eq_true_iff.1 hg).1).1 | simp_all) | exact POp.lenA rfl rfl (by first | rfl | exact hg | exact (Bool.and_eq_true_iff.1 hg).1 | exact (Bool.and_eq_true_iff.1 (Bool.and_eq_true_iff.1 hg).1).1 | simp_all) | exact POp.lenV rfl rfl (by first | rfl | exact hg | exact (Bool.and_eq_true_iff.1 hg).1 | exact (Bool.and_eq_true_iff.1 (Bool.and_eq_true_iff.1 hg).1).1 | simp_all) | exact POp.len' rfl rfl (by first | rfl | exact hg | exact (Bool.and_eq_true_iff.1 hg).1 | exact (Bool.and_eq_true_iff.1 (Bool.and_eq_true_iff.1 hg).1).1 | simp_all))) ?_
  refine OL.guardC rfl rfl rfl rfl rfl rfl (fun hg => POp.cmp rfl rfl rfl (by first | rfl | exact hg | exact (Bool.and_eq_true_iff.1 hg).1 | exact (Bool.and_eq_true_iff.1 (Bool.and_eq_true_iff.1 hg).1).1 | simp_all) rfl rfl) ?_
  refine OL.popC rfl rfl rfl (POp.pick rfl rfl rfl rfl rfl (fun _ => rfl) (by first | exact fun h => h | (intro h; rw [h]; rfl) | (intro h; simp_all))) ?_
  refine OL.nil ?_
  refine Done.seq ?_
  refine CW.cond rfl (fun h0 => ?_) (fun h0 => ?_)
  ·
    have hw : worldP W = false := world_big h0
    refine CW.seq ?_
    refine CW.region ?_
    refine OL.popC rfl rfl rfl (POp.assign rfl rfl rfl) ?_
    refine OL.nil ?_
    refine Done.seq ?_
    refine CW.ret ?_
    refine Done.thenRet ?_
    refine Done.retR (rs := [.tmp 2]) (H' := H) rfl (.tmp rfl (.nil)) (AVleL.refl _) (by repeat (first | exact List.Sublist.refl _ | refine List.Sublist.cons _ ?_)) ?_
    exact ⟨retB hw.symm, rfl⟩
  ·
    have hW := world_small h0
    refine CW.skip ?_
    refine Done.seq ?_
    refine CW.seq ?_
    refine CW.seq ?_
    refine CW.region ?_
    refine OL.popC rfl rfl rfl ((by first | exact POp.fa rfl rfl rfl rfl | exact POp.faP rfl rfl rfl rfl)) ?_
    refine OL.popC rfl rfl rfl ((by first | exact POp.ld1 rfl rfl rfl rfl | (apply POp.ld1H rfl rfl rfl; (case hm => repeat (first | exact .head _ | refine .tail _ ?_)); (case hy => rfl)))) ?_
    refine OL.popC rfl rfl rfl ((by first | exact POp.lenM rfl rfl rfl | exact POp.lenA rfl rfl rfl | exact POp.lenV rfl rfl rfl | exact POp.len' rfl rfl rfl)) ?_
    refine OL.popC rfl rfl rfl (POp.move rfl rfl rfl) ?_
    refine OL.nil ?_
    refine Done.seq ?_
    refine CW.block ?_
    refine CW.loopJ (fun m st => ∃ k : Nat, st = ⟨[(23, .i k), (22, .i W.parents.length), (21, AV.intss W.parents), (1, .ptr (Wcells W))], H⟩ ∧ m = W.parents.length - k ∧ k ≤ W.parents.length ∧ parentssP k (W.parents.drop k) = parentssP 0 W.parents) ⟨_, _, ⟨0, rfl, rfl, by omega, rfl⟩, (by repeat (first | exact trivial | refine ⟨rfl, ?_⟩)), (by repeat (first | exact List.Sublist.refl _ | refine List.Sublist.cons _ ?_))⟩ ?_
    rintro m _ ⟨k, rfl, rfl, hk, hpar⟩
    refine CW.seq ?_
    refine CW.region ?_
    refine OL.popC rfl rfl rfl (POp.cmp rfl rfl rfl rfl rfl rfl) ?_
    refine OL.nil ?_
    refine Done.seq ?_
    refine CW.seq ?_
    refine CW.cond rfl (fun h1 => ?_) (fun h1 => ?_)
    ·
      try simp only [decide_eq_true_eq, decide_eq_false_iff_not, beq_iff_eq, bne_iff_ne, ne_eq, Int.not_lt, Int.not_le, beq_eq_false_iff_ne, gt_iff_lt, ge_iff_le, Bool.not_eq_true, Bool.not_eq_false, Bool.not_eq_false', bne_eq_false_iff_eq] at h1
      refine CW.skip ?_
      refine Done.seq ?_
      refine CW.seq ?_
      refine CW.block ?_
      refine CW.seq ?_
      refine CW.region ?_
      refine OL.popC rfl rfl rfl (POp.move rfl rfl rfl) ?_
      refine OL.popC rfl rfl rfl ((by first | exact POp.ixM rfl rfl rfl rfl rfl (by omega) | exact POp.ixI rfl rfl rfl rfl rfl (by omega))) ?_
      refine OL.popC rfl rfl rfl ((by first | exact POp.ld1 rfl rfl rfl rfl | (apply POp.ld1H rfl rfl rfl; (case hm => repeat (first | exact .head _ | refine .tail _ ?_)); (case hy => rfl)))) ?_
      refine OL.popC rfl rfl rfl (POp.assign rfl rfl rfl) ?_
      refine OL.popC rfl rfl rfl (POp.assign rfl rfl rfl) ?_
      refine OL.nil ?_
      refine Done.seq ?_
      refine CW.seq ?_
      refine CW.boundM (t := 4) rfl (fun hbl => ?_)
      refine CW.region ?_
      refine OL.popC rfl rfl rfl (POp.move rfl rfl rfl) ?_
      refine OL.popC rfl rfl rfl ((by first | exact POp.lenM rfl rfl rfl | exact POp.lenA rfl rfl rfl | exact POp.lenV rfl rfl rfl | exact POp.len' rfl rfl rfl)) ?_
      refine OL.popC rfl rfl rfl (POp.move rfl rfl rfl) ?_
      refine OL.nil ?_
      refine Done.seq ?_
      refine CW.block ?_
      refine CW.loopJ (fun m st => ∃ j : Nat, st = ⟨[(30, .i j), (29, .i (W.parents.getD k default).length), (28, AV.ints (W.parents.getD k default)), (3, .i k), (4, AV.ints (W.parents.getD k default)), (23, .i k), (22, .i W.parents.length), (21, AV.intss W.parents), (1, .ptr (Wcells W))], H⟩ ∧ m = (W.parents.getD k default).length - j ∧ j ≤ (W.parents.getD k default).length ∧ parentsP k ((W.parents.getD k default).take j) ((W.parents.getD k default).drop j) = parentsP k [] (W.parents.getD k default)) ⟨_, _, ⟨0, rfl, rfl, by omega, rfl⟩, (by repeat (first | exact trivial | refine ⟨rfl, ?_⟩)), (by repeat (first | exact List.Sublist.refl _ | refine List.Sublist.cons _ ?_))⟩ ?_
      rintro m _ ⟨j, rfl, rfl, hj, hp⟩
      refine CW.seq ?_
      refine CW.region ?_
      refine OL.popC rfl rfl rfl (POp.cmp rfl rfl rfl rfl rfl rfl) ?_
      refine OL.nil ?_
      refine Done.seq ?_
      refine CW.seq ?_
      refine CW.cond rfl (fun h2 => ?_) (fun h2 => ?_)
      ·
        try simp only [decide_eq_true_eq, decide_eq_false_iff_not, beq_iff_eq, bne_iff_ne, ne_eq, Int.not_lt, Int.not_le, beq_eq_false_iff_ne, gt_iff_lt, ge_iff_le, Bool.not_eq_true, Bool.not_eq_false, Bool.not_eq_false', bne_eq_false_iff_eq] at h2
        refine CW.skip ?_
        refine Done.seq ?_
        refine CW.seq ?_
        refine CW.block ?_
        refine CW.seq ?_
        refine CW.region ?_
        refine OL.popC rfl rfl rfl (POp.move rfl rfl rfl) ?_
        refine OL.popC rfl rfl rfl ((by first | exact POp.ixM rfl rfl rfl rfl rfl (by omega) | exact POp.ixI rfl rfl rfl rfl rfl (by omega))) ?_
        refine OL.popC rfl rfl rfl ((by first | exact POp.ld1 rfl rfl rfl rfl | (apply POp.ld1H rfl rfl rfl; (case hm => repeat (first | exact .head _ | refine .tail _ ?_)); (case hy => rfl)))) ?_
        refine OL.popC rfl rfl rfl (POp.assign rfl rfl rfl) ?_
        refine OL.popC rfl rfl rfl (POp.assign rfl rfl rfl) ?_
        refine OL.nil ?_
        refine Done.seq ?_
        refine CW.seq ?_
        refine CW.seq ?_
        refine CW.region ?_
        refine OL.popC rfl rfl rfl (POp.move rfl rfl rfl) ?_
        refine OL.popC rfl rfl rfl (POp.cmp rfl rfl rfl rfl rfl rfl) ?_
        refine OL.popC rfl rfl rfl (POp.move rfl rfl rfl) ?_
        refine OL.guardC rfl rfl rfl rfl rfl rfl (fun hg => POp.move rfl rfl rfl) ?_
        refine OL.guardC rfl rfl rfl rfl rfl rfl (fun hg => POp.move rfl rfl rfl) ?_
        refine OL.guardC rfl rfl rfl rfl rfl rfl (fun hg => POp.arith rfl rfl rfl rfl (by first | rfl | exact hg | exact (Bool.and_eq_true_iff.1 hg).1 | exact (Bool.and_eq_true_iff.1 (Bool.and_eq_true_iff.1 hg).1).1 | simp_all) rfl (wrap64 (by omega))) ?_
        refine OL.guardC rfl rfl rfl rfl rfl rfl (fun hg => POp.cmp rfl rfl rfl (by first | rfl | exact hg | exact (Bool.and_eq_true_iff.1 hg).1 | exact (Bool.and_eq_true_iff.1 (Bool.and_eq_true_iff.1 hg).1).1 | simp_all) (by first | rfl | exact hg | exact (Bool.and_eq_true_iff.1 hg).1 | exact (Bool.and_eq_true_iff.1 (Bool.and_eq_true_iff.1 hg).1).1 | simp_all) rfl) ?_
        refine OL.popC rfl rfl rfl (POp.pick rfl rfl rfl rfl rfl (fun _ => rfl) (by first | exact fun h => h | (intro h; rw [h]; rfl) | (intro h; simp_all))) ?_
        refine OL.nil ?_
        refine Done.seq ?_
        refine CW.cond rfl (fun h3 => ?_) (fun h3 => ?_)
        ·
          try simp only [decide_eq_true_eq, decide_eq_false_iff_not, beq_iff_eq, bne_iff_ne, ne_eq, Int.not_lt, Int.not_le, beq_eq_false_iff_ne, gt_iff_lt, ge_iff_le, Bool.not_eq_true, Bool.not_eq_false, Bool.not_eq_false', bne_eq_false_iff_eq] at h3
          have hw : worldP W = false := world_parent_no hW (by omega) hpar (by rw [← hp]; exact parent_bad1 (by omega) (by rw [bif_or] at h3; rw [h3]; rfl))
          refine CW.seq ?_
          refine CW.region ?_
          refine OL.popC rfl rfl rfl (POp.assign rfl rfl rfl) ?_
          refine OL.nil ?_
          refine Done.seq ?_
          refine CW.ret ?_
          refine Done.thenRet ?_
          refine Done.blkRet ?_
          refine Done.thenRet ?_
          refine Done.thenRet ?_
          refine Done.blkRet ?_
          refine Done.blkRet ?_
          refine Done.thenRet ?_
          refine Done.thenRet ?_
          refine Done.blkRet ?_
          refine Done.thenRet ?_
          refine Done.retR (rs := [.tmp 2]) (H' := H) rfl (.tmp rfl (.nil)) (AVleL.refl _) (by repeat (first | exact List.Sublist.refl _ | refine List.Sublist.cons _ ?_)) ?_
          exact ⟨retB hw.symm, rfl⟩
        ·
          try simp only [decide_eq_true_eq, decide_eq_false_iff_not, beq_iff_eq, bne_iff_ne, ne_eq, Int.not_lt, Int.not_le, beq_eq_false_iff_ne, gt_iff_lt, ge_iff_le, Bool.not_eq_true, Bool.not_eq_false, Bool.not_eq_false', bne_eq_false_iff_eq] at h3
          rw [bif_or] at h3
          simp only [Bool.or_eq_false_iff, decide_eq_false_iff_not] at h3
          refine CW.skip ?_
          refine Done.seq ?_
          refine CW.seq ?_
          refine CW.region ?_
          refine OL.popC rfl rfl rfl (POp.assign rfl rfl rfl) ?_
          refine OL.nil ?_
          refine Done.seq ?_
          refine CW.block ?_
          refine CW.loopJ (fun m st => ∃ q : Nat, st = ⟨[(7, .i q), (5, .i j), (6, .i ((W.parents.getD k default).getD j default)), (30, .i j), (29, .i (W.parents.getD k default).length), (28, AV.ints (W.parents.getD k default)), (3, .i k), (4, AV.ints (W.parents.getD k default)), (23, .i k), (22, .i W.parents.length), (21, AV.intss W.parents), (1, .ptr (Wcells W))], H⟩ ∧ m = j - q ∧ q ≤ j ∧ ((W.parents.getD k default).take q).contains ((W.parents.getD k default).getD j default) = false) ⟨_, _, ⟨0, rfl, rfl, by omega, rfl⟩, (by repeat (first | exact trivial | refine ⟨rfl, ?_⟩)), (by repeat (first | exact List.Sublist.refl _ | refine List.Sublist.cons _ ?_))⟩ ?_
          rintro m _ ⟨q, rfl, rfl, hq, hc⟩
          refine CW.seq ?_
          refine CW.seq ?_
          refine CW.region ?_
          refine OL.popC rfl rfl rfl (POp.move rfl rfl rfl) ?_
          refine OL.popC rfl rfl rfl (POp.move rfl rfl rfl) ?_
          refine OL.popC rfl rfl rfl (POp.cmp rfl rfl rfl rfl rfl rfl) ?_
          refine OL.nil ?_
          refine Done.seq ?_
          refine CW.cond rfl (fun h4 => ?_) (fun h4 => ?_)
          ·
            try simp only [decide_eq_true_eq, decide_eq_false_iff_not, beq_iff_eq, bne_iff_ne, ne_eq, Int.not_lt, Int.not_le, beq_eq_false_iff_ne, gt_iff_lt, ge_iff_le, Bool.not_eq_true, Bool.not_eq_false, Bool.not_eq_false', bne_eq_false_iff_eq] at h4
            refine CW.skip ?_
            refine Done.seq ?_
            refine CW.seq ?_
            refine CW.block ?_
            refine CW.seq ?_
            refine CW.region ?_
            refine OL.popC rfl rfl rfl (POp.move rfl rfl rfl) ?_
            refine OL.popC rfl rfl rfl (POp.move rfl rfl rfl) ?_
            refine OL.popC rfl rfl rfl ((by first | exact POp.ixM rfl rfl rfl rfl rfl (by omega) | exact POp.ixI rfl rfl rfl rfl rfl (by omega))) ?_
            refine OL.popC rfl rfl rfl ((by first | exact POp.ld1 rfl rfl rfl rfl | (apply POp.ld1H rfl rfl rfl; (case hm => repeat (first | exact .head _ | refine .tail _ ?_)); (case hy => rfl)))) ?_
            refine OL.popC rfl rfl rfl (POp.move rfl rfl rfl) ?_
            refine OL.popC rfl rfl rfl (POp.cmp rfl rfl rfl rfl rfl rfl) ?_
            refine OL.nil ?_
            refine Done.seq ?_
            refine CW.cond rfl (fun h5 => ?_) (fun h5 => ?_)
            ·
              try simp only [decide_eq_true_eq, decide_eq_false_iff_not, beq_iff_eq, bne_iff_ne, ne_eq, Int.not_lt, Int.not_le, beq_eq_false_iff_ne, gt_iff_lt, ge_iff_le, Bool.not_eq_true, Bool.not_eq_false, Bool.not_eq_false', bne_eq_false_iff_eq] at h5
              have hw : worldP W = false := world_parent_no hW (by omega) hpar (by rw [← hp]; exact parent_bad1 (by omega) (by rw [seen_yes (j := j) (by omega) (by omega) h5]; simp))
              refine CW.seq ?_
              refine CW.region ?_
              refine OL.popC rfl rfl rfl (POp.assign rfl rfl rfl) ?_
              refine OL.nil ?_
              refine Done.seq ?_
              refine CW.ret ?_
              refine Done.blkRet ?_
              refine Done.thenRet ?_
              refine Done.thenRet ?_
              refine Done.blkRet ?_
              refine Done.blkRet ?_
              refine Done.thenRet ?_
              refine Done.thenRet ?_
              refine Done.blkRet ?_
              refine Done.blkRet ?_
              refine Done.thenRet ?_
              refine Done.thenRet ?_
              refine Done.blkRet ?_
              refine Done.thenRet ?_
              refine Done.retR (rs := [.tmp 2]) (H' := H) rfl (.tmp rfl (.nil)) (AVleL.refl _) (by repeat (first | exact List.Sublist.refl _ | refine List.Sublist.cons _ ?_)) ?_
              exact ⟨retB hw.symm, rfl⟩
            ·
              try simp only [decide_eq_true_eq, decide_eq_false_iff_not, beq_iff_eq, bne_iff_ne, ne_eq, Int.not_lt, Int.not_le, beq_eq_false_iff_ne, gt_iff_lt, ge_iff_le, Bool.not_eq_true, Bool.not_eq_false, Bool.not_eq_false', bne_eq_false_iff_eq] at h5
              refine CW.skip ?_
              refine Done.blkNormal ?_
              refine Done.seq ?_
              refine CW.region ?_
              refine OL.popC rfl rfl rfl (POp.move rfl rfl rfl) ?_
              refine OL.popC rfl rfl rfl (POp.arith rfl rfl rfl rfl rfl rfl (wrap64 (by omega))) ?_
              refine OL.popC rfl rfl rfl (POp.assign rfl rfl rfl) ?_
              refine OL.nil ?_
              refine Done.againJ (⟨q + 1, rfl, rfl, by omega, seen_step (by omega) hc h5⟩) ?_ ?_ ?_
              · omega
              · repeat (first | exact trivial | refine ⟨rfl, ?_⟩)
              · repeat (first | exact List.Sublist.refl _ | refine List.Sublist.cons _ ?_)
          ·
            try simp only [decide_eq_true_eq, decide_eq_false_iff_not, beq_iff_eq, bne_iff_ne, ne_eq, Int.not_lt, Int.not_le, beq_eq_false_iff_ne, gt_iff_lt, ge_iff_le, Bool.not_eq_true, Bool.not_eq_false, Bool.not_eq_false', bne_eq_false_iff_eq] at h4
            obtain rfl : q = j := by omega
            refine CW.exit ?_
            refine Done.thenExit ?_
            refine Done.thenExit ?_
            refine Done.blkExit ?_
            refine Done.blkNormal ?_
            refine Done.seq ?_
            refine CW.region ?_
            refine OL.popC rfl rfl rfl (POp.arith rfl rfl rfl rfl rfl rfl (wrap64 (by omega))) ?_
            refine OL.popC rfl rfl rfl (POp.move rfl rfl rfl) ?_
            refine OL.nil ?_
            refine Done.againJ (⟨q + 1, rfl, rfl, by omega, by rw [← parent_step1 (by omega) h3.1 h3.2 hc]; exact hp⟩) ?_ ?_ ?_
            · omega
            · repeat (first | exact trivial | refine ⟨rfl, ?_⟩)
            · repeat (first | exact List.Sublist.refl _ | refine List.Sublist.cons _ ?_)
      ·
        try simp only [decide_eq_true_eq, decide_eq_false_iff_not, beq_iff_eq, bne_iff_ne, ne_eq, Int.not_lt, Int.not_le, beq_eq_false_iff_ne, gt_iff_lt, ge_iff_le, Bool.not_eq_true, Bool.not_eq_false, Bool.not_eq_false', bne_eq_false_iff_eq] at h2
        obtain rfl : j = (W.parents.getD k default).length := by omega
        rw [List.drop_length, List.take_length, parentsP] at hp
        refine CW.exit ?_
        refine Done.thenExit ?_
        refine Done.thenExit ?_
        refine Done.blkExit ?_
        refine Done.blkNormal ?_
        refine Done.seq ?_
        refine CW.region ?_
        refine OL.popC rfl rfl rfl (POp.arith rfl rfl rfl rfl rfl rfl (wrap64 (by omega))) ?_
        refine OL.popC rfl rfl rfl (POp.move rfl rfl rfl) ?_
        refine OL.nil ?_
        refine Done.againJ (⟨k + 1, rfl, rfl, by omega, by rw [parents_step (by omega), ← hp] at hpar; simpa using hpar⟩) ?_ ?_ ?_
        · omega
        · repeat (first | exact trivial | refine ⟨rfl, ?_⟩)
        · repeat (first | exact List.Sublist.refl _ | refine List.Sublist.cons _ ?_)
    ·
      try simp only [decide_eq_true_eq, decide_eq_false_iff_not, beq_iff_eq, bne_iff_ne, ne_eq, Int.not_lt, Int.not_le, beq_eq_false_iff_ne, gt_iff_lt, ge_iff_le, Bool.not_eq_true, Bool.not_eq_false, Bool.not_eq_false', bne_eq_false_iff_eq] at h1
      obtain rfl : k = W.parents.length := by omega
      rw [List.drop_length, parentssP] at hpar
      refine CW.exit ?_
      refine Done.thenExit ?_
      refine Done.thenExit ?_
      refine Done.blkExit ?_
      refine Done.seq ?_
      refine CW.seq ?_
      refine CW.seq ?_
      refine CW.region ?_
      refine OL.popC rfl rfl rfl ((by first | exact POp.fa rfl rfl rfl rfl | exact POp.faP rfl rfl rfl rfl)) ?_
      refine OL.popC rfl rfl rfl ((by first | exact POp.ld1 rfl rfl rfl rfl | (apply POp.ld1H rfl rfl rfl; (case hm => repeat (first | exact .head _ | refine .tail _ ?_)); (case hy => rfl)))) ?_
      refine OL.popC rfl rfl rfl ((by first | exact POp.lenM rfl rfl rfl | exact POp.lenA rfl rfl rfl | exact POp.lenV rfl rfl rfl | exact POp.len' rfl rfl rfl)) ?_
      refine OL.popC rfl rfl rfl (POp.move rfl rfl rfl) ?_
      refine OL.nil ?_
      refine Done.seq ?_
      refine CW.block ?_
      refine CW.loopJ (fun m st => ∃ k : Nat, st = ⟨[(59, .i k), (58, .i W.owner.length), (57, AV.ints W.owner), (1, .ptr (Wcells W))], H⟩ ∧ m = W.owner.length - k ∧ k ≤ W.owner.length ∧ (W.owner.take k).all (ownP W) = true) ⟨_, _, ⟨0, rfl, rfl, by omega, rfl⟩, (by repeat (first | exact trivial | refine ⟨rfl, ?_⟩)), (by repeat (first | exact List.Sublist.refl _ | refine List.Sublist.cons _ ?_))⟩ ?_
      rintro m _ ⟨k, rfl, rfl, hk, hall⟩
      refine CW.seq ?_
      refine CW.region ?_
      refine OL.popC rfl rfl rfl (POp.cmp rfl rfl rfl rfl rfl rfl) ?_
      refine OL.nil ?_
      refine Done.seq ?_
      refine CW.seq ?_
      refine CW.cond rfl (fun h6 => ?_) (fun h6 => ?_)
      ·
        try simp only [decide_eq_true_eq, decide_eq_false_iff_not, beq_iff_eq, bne_iff_ne, ne_eq, Int.not_lt, Int.not_le, beq_eq_false_iff_ne, gt_iff_lt, ge_iff_le, Bool.not_eq_true, Bool.not_eq_false, Bool.not_eq_false', bne_eq_false_iff_eq] at h6
        refine CW.skip ?_
        refine Done.seq ?_
        refine CW.seq ?_
        refine CW.block ?_
        refine CW.seq ?_
        refine CW.region ?_
        refine OL.popC rfl rfl rfl ((by first | exact POp.ixM rfl rfl rfl rfl rfl (by omega) | exact POp.ixI rfl rfl rfl rfl rfl (by omega))) ?_
        refine OL.popC rfl rfl rfl ((by first | exact POp.ld1 rfl rfl rfl rfl | (apply POp.ld1H rfl rfl rfl; (case hm => repeat (first | exact .head _ | refine .tail _ ?_)); (case hy => rfl)))) ?_
        refine OL.popC rfl rfl rfl (POp.assign rfl rfl rfl) ?_
        refine OL.nil ?_
        refine Done.seq ?_
        refine CW.seq ?_
        refine CW.region ?_
        refine OL.popC rfl rfl rfl ((by first | exact POp.ldA rfl rfl rfl rfl | (apply POp.ldAH rfl rfl rfl; (case hm => repeat (first | exact .head _ | refine .tail _ ?_)); (case hy => rfl); (case hn => rfl)))) ?_
        refine OL.popC rfl rfl rfl (POp.move rfl rfl rfl) ?_
        refine OL.popC rfl rfl rfl (POp.call (.mk' rfl rfl rfl rfl rfl) (p85 W _ hW.1)) ?_
        refine OL.popC rfl rfl rfl (POp.not rfl rfl rfl) ?_
        refine OL.nil ?_
        refine Done.seq ?_
        refine CW.cond rfl (fun h7 => ?_) (fun h7 => ?_)
        ·
          try simp only [decide_eq_true_eq, decide_eq_false_iff_not, beq_iff_eq, bne_iff_ne, ne_eq, Int.not_lt, Int.not_le, beq_eq_false_iff_ne, gt_iff_lt, ge_iff_le, Bool.not_eq_true, Bool.not_eq_false, Bool.not_eq_false', bne_eq_false_iff_eq] at h7
          refine CW.seq ?_
          refine CW.region ?_
          refine OL.popC rfl rfl rfl (POp.assign rfl rfl rfl) ?_
          refine OL.nil ?_
          refine Done.seq ?_
          refine CW.ret ?_
          refine Done.blkRet ?_
          refine Done.thenRet ?_
          refine Done.thenRet ?_
          refine Done.blkRet ?_
          refine Done.thenRet ?_
          refine Done.retR (rs := [.tmp 2]) (H' := H) rfl (.tmp rfl (.nil)) (AVleL.refl _) (by repeat (first | exact List.Sublist.refl _ | refine List.Sublist.cons _ ?_)) ?_
          exact ⟨retB (by rw [world_val hW, own_no (k := k) (by omega) (by simpa using h7)]; simp), rfl⟩
        ·
          try simp only [decide_eq_true_eq, decide_eq_false_iff_not, beq_iff_eq, bne_iff_ne, ne_eq, Int.not_lt, Int.not_le, beq_eq_false_iff_ne, gt_iff_lt, ge_iff_le, Bool.not_eq_true, Bool.not_eq_false, Bool.not_eq_false', bne_eq_false_iff_eq] at h7
          refine CW.skip ?_
          refine Done.blkNormal ?_
          refine Done.seq ?_
          refine CW.region ?_
          refine OL.popC rfl rfl rfl (POp.arith rfl rfl rfl rfl rfl rfl (wrap64 (by omega))) ?_
          refine OL.popC rfl rfl rfl (POp.move rfl rfl rfl) ?_
          refine OL.nil ?_
          refine Done.againJ (⟨k + 1, rfl, rfl, by omega, own_step (by omega) hall (by simpa using h7)⟩) ?_ ?_ ?_
          · omega
          · repeat (first | exact trivial | refine ⟨rfl, ?_⟩)
          · repeat (first | exact List.Sublist.refl _ | refine List.Sublist.cons _ ?_)
      ·
        try simp only [decide_eq_true_eq, decide_eq_false_iff_not, beq_iff_eq, bne_iff_ne, ne_eq, Int.not_lt, Int.not_le, beq_eq_false_iff_ne, gt_iff_lt, ge_iff_le, Bool.not_eq_true, Bool.not_eq_false, Bool.not_eq_false', bne_eq_false_iff_eq] at h6
        obtain rfl : k = W.owner.length := by omega
        rw [List.take_length] at hall
        refine CW.exit ?_
        refine Done.thenExit ?_
        refine Done.thenExit ?_
        refine Done.blkExit ?_
        refine Done.seq ?_
        refine CW.seq ?_
        refine CW.region ?_
        refine OL.popC rfl rfl rfl (POp.assign rfl rfl rfl) ?_
        refine OL.nil ?_
        refine Done.seq ?_
        refine CW.ret ?_
        refine Done.retR (rs := [.tmp 2]) (H' := H) rfl (.tmp rfl (.nil)) (AVleL.refl _) (by repeat (first | exact List.Sublist.refl _ | refine List.Sublist.cons _ ?_)) ?_
        exact ⟨retB (by rw [world_val hW, ← hpar, hall]; rfl), rfl⟩
end Go.Proofs.YtiljpbljebfhnaaGreat

set_option linter.unusedVariables false
set_option linter.unusedSimpArgs false
set_option maxRecDepth 10000
namespace Go.Proofs.YtiljpbljebfhnaaGreat
open Go.Eng
open Go.Eng.Fc
/-! ### classes: which are above which -/
def upB (W : FW) (c b : Nat) : Bool := ((upsP W).getD c 0).testBit b
theorem fold_bit (U : List Nat) (b : Nat) : ∀ (l : List Int) (s : Nat), (l.foldl (fun s (p : Int) => s ||| U.getD p.toNat 0) s).testBit b = (s.testBit b || l.any fun p => (U.getD p.toNat 0).testBit b)
  | [], s => by simp
  | p :: r, s => by rw [List.foldl_cons, fold_bit U b r, Nat.testBit_or, List.any_cons, Bool.or_assoc]
theorem upFold_bit (U : List Nat) (i : Nat) (l : List Int) (b : Nat) : (upFold U i l).testBit b = (b == 0 || b == 3 + i || l.any fun p => (U.getD p.toNat 0).testBit b) := by
  rw [upFold, fold_bit, Nat.testBit_or, Nat.testBit_two_pow]
  congr 2
  · rcases b with _ | b
    · rfl
    · rw [Nat.testBit_succ]; simp
  · rw [Bool.eq_iff_iff, decide_eq_true_iff, beq_iff_eq]; exact eq_comm
theorem getD_set {α : Type} (l : List α) (i j : Nat) (x y : α) : (l.set i x).getD j y = if i = j ∧ i < l.length then x else l.getD j y := by
  simp only [List.getD_eq_getElem?_getD, List.getElem?_set]
  by_cases h : i = j
  · by_cases h2 : j < l.length
    · simp [h, h2]
    · simp [h, h2]
  · simp [h]
theorem ups_low : ∀ (l : List (List Int)) (i : Nat) (U : List Nat) (j : Nat), j < 3 + i → (upsFrom l i U).getD j 0 = U.getD j 0
  | [], i, U, j, h => by rw [upsFrom]
  | x :: r, i, U, j, h => by
    rw [upsFrom, ups_low r (i + 1) _ j (by omega), getD_set, if_neg (by omega)]
theorem parents_lt (i : Nat) : ∀ (l seen : List Int), parentsP i seen l = true → ∀ p ∈ l, 3 ≤ p ∧ p < 3 + i
  | [], _, _, p, hp => by cases hp
  | x :: r, seen, h, p, hp => by
    rw [parentsP, Bool.and_eq_true, Bool.not_eq_true'] at h
    rcases List.mem_cons.1 hp with rfl | hp
    · have := h.1
      simp only [Bool.or_eq_false_iff, decide_eq_false_iff_not] at this
      omega
    · exact parents_lt i r _ h.2 p hp
theorem parentss_at : ∀ (l : List (List Int)) (i k : Nat), parentssP i l = true → k < l.length → parentsP (i + k) [] (l.getD k default) = true
  | [], i, k, _, hk => by simp at hk
  | x :: r, i, 0, h, _ => by rw [parentssP, Bool.and_eq_true] at h; exact h.1
  | x :: r, i, k + 1, h, hk => by
    rw [parentssP, Bool.and_eq_true] at h
    have := parentss_at r (i + 1) k h.2 (by simpa using hk)
    rw [show i + (k + 1) = i + 1 + k from by omega]; exact this
theorem world_pars {W : FW} (h : worldP W = true) : parentssP 0 W.parents = true := by simp only [worldP, Bool.and_eq_true] at h; exact h.1.2
theorem pars_lt {W : FW} (h : worldP W = true) {i : Nat} (hi : i < W.parents.length) : ∀ p ∈ W.parents.getD i default, 3 ≤ p ∧ p < 3 + i := by
  have := parentss_at W.parents 0 i (world_pars h) hi
  rw [Nat.zero_add] at this
  exact parents_lt i _ _ this
theorem any_congr_mem {α : Type} {l : List α} {p q : α → Bool} (h : ∀ x ∈ l, p x = q x) : l.any p = l.any q := by
  induction l with
  | nil => rfl
  | cons x r ih => rw [List.any_cons, List.any_cons, h x (.head _), ih fun y hy => h y (.tail _ hy)]
theorem ups_at : ∀ (l : List (List Int)) (i : Nat) (U : List Nat) (k : Nat), 3 + i + l.length ≤ U.length → parentssP i l = true → k < l.length → ∀ b, ((upsFrom l i U).getD (3 + (i + k)) 0).testBit b = (b == 0 || b == 3 + (i + k) || (l.getD k default).any fun p => ((upsFrom l i U).getD p.toNat 0).testBit b)
  | [], i, U, k, hl, _, hk, b => by simp at hk
  | x :: r, i, U, 0, hl, h, hk, b => by
    rw [parentssP, Bool.and_eq_true] at h
    rw [upsFrom, ups_low r (i + 1) _ _ (by omega), getD_set, if_pos ⟨by omega, by simp at hl; omega⟩, upFold_bit]
    show _ = (b == 0 || b == 3 + (i + 0) || x.any _)
    rw [Nat.add_zero]
    congr 1
    refine any_congr_mem fun p hp => ?_
    have := parents_lt i x [] h.1 p hp
    rw [ups_low r (i + 1) _ _ (by omega), getD_set, if_neg (by omega)]
  | x :: r, i, U, k + 1, hl, h, hk, b => by
    rw [parentssP, Bool.and_eq_true] at h
    have := ups_at r (i + 1) (U.set (3 + i) (upFold U i x)) k (by simp at hl ⊢; omega) h.2 (by simpa using hk) b
    rw [upsFrom, show i + (k + 1) = i + 1 + k from by omega]; exact this
theorem upB_own {W : FW} (h : worldP W = true) {i : Nat} (hi : i < W.parents.length) (b : Nat) : upB W (3 + i) b = (b == 0 || b == 3 + i || (W.parents.getD i default).any fun p => upB W p.toNat b) := by
  have := ups_at W.parents 0 ([1, 3, 5] ++ List.replicate 60 0) i (by have := world_len h; simp; omega) (world_pars h) hi b
  rw [Nat.zero_add] at this
  exact this
theorem upB_low {W : FW} {c : Nat} (hc : c < 3) (b : Nat) : upB W c b = (b == 0 || b == c) := by
  rw [upB, upsP, ups_low _ _ _ _ (by omega)]
  have : c = 0 ∨ c = 1 ∨ c = 2 := by omega
  rcases this with rfl | rfl | rfl
  · show Nat.testBit 1 b = _
    rcases b with _ | b
    · rfl
    · rw [Nat.testBit_succ]; simp
  · show Nat.testBit 3 b = _
    rcases b with _ | _ | b
    · rfl
    · rfl
    · rw [Nat.testBit_succ, Nat.testBit_succ]; simp
  · show Nat.testBit 5 b = _
    rcases b with _ | _ | _ | b
    · rfl
    · rfl
    · rfl
    · rw [Nat.testBit_succ, Nat.testBit_succ, Nat.testBit_succ]; simp
theorem upB_zero {W : FW} (h : worldP W = true) {c : Nat} (hc : c < 3 + W.parents.length) : upB W c 0 = true := by
  by_cases h3 : c < 3
  · rw [upB_low h3]; rfl
  · rw [show c = 3 + (c - 3) from by omega, upB_own h (by omega)]; rfl
theorem upB_self {W : FW} (h : worldP W = true) {c : Nat} (hc : c < 3 + W.parents.length) : upB W c c = true := by
  by_cases h3 : c < 3
  · rw [upB_low h3]; simp
  · have e : c = 3 + (c - 3) := by omega
    have := upB_own h (i := c - 3) (by omega) c
    rw [← e] at this; rw [this]; simp
theorem upB_le {W : FW} (h : worldP W = true) : ∀ (n c : Nat), c ≤ n → c < 3 + W.parents.length → ∀ b, upB W c b = true → b ≤ c ∧ (b = 0 ∨ b = c ∨ 3 ≤ b)
  | n, c, hn, hc, b, hb => by
    by_cases h3 : c < 3
    · rw [upB_low h3] at hb; simp at hb; omega
    · have e : c = 3 + (c - 3) := by omega
      rw [e, upB_own h (by omega)] at hb
      simp only [Bool.or_eq_true, beq_iff_eq, List.any_eq_true] at hb
      rcases hb with (hb | hb) | ⟨p, hp, hb⟩
      · omega
      · omega
      · have hl := pars_lt h (by omega) p hp
        match n, hn with
        | 0, hn => omega
        | n + 1, hn =>
          have := upB_le h n p.toNat (by omega) (by omega) b hb
          omega
theorem below_up {W : FW} {a b : Int} : belowP W a b = upB W a.toNat b.toNat := rfl

/-! ### the list of the classes above one, as the law's own text makes it -/
def upIn (o : List Bool) (i : Nat) : List Int → List Bool
  | [] => o
  | p :: r => upIn (o.set p.toNat (o.getD p.toNat false || o.getD i false)) i r
def upDown (W : FW) : Nat → List Bool → List Bool
  | 0, o => o
  | k + 1, o => upDown W k (upIn o (3 + k) (W.parents.getD k default))
def upR (W : FW) (c : Nat) : List Bool := upDown W (c - 2) ((List.replicate (3 + W.parents.length) false).set c true)
theorem upIn_len (i : Nat) : ∀ (l : List Int) (o : List Bool), (upIn o i l).length = o.length
  | [], o => rfl
  | p :: r, o => by rw [upIn, upIn_len i r, List.length_set]
theorem upDown_len (W : FW) : ∀ (k : Nat) (o : List Bool), (upDown W k o).length = o.length
  | 0, o => rfl
  | k + 1, o => by rw [upDown, upDown_len W k, upIn_len]
theorem upIn_get (i : Nat) : ∀ (l : List Int) (o : List Bool) (b : Nat), (∀ p ∈ l, 0 ≤ p ∧ p < i) → i < o.length → (upIn o i l).getD b false = (o.getD b false || (o.getD i false && l.contains (b : Int)))
  | [], o, b, _, _ => by rw [upIn]; simp
  | p :: r, o, b, h, hi => by
    have hp := h p (.head _)
    rw [upIn, upIn_get i r _ b (fun q hq => h q (.tail _ hq)) (by rw [List.length_set]; exact hi), getD_set, getD_set, if_neg (c := p.toNat = i ∧ _) (by omega), List.contains_cons]
    by_cases hb : p.toNat = b
    · rw [if_pos ⟨hb, by omega⟩, show ((b : Int) == p) = true from by rw [beq_iff_eq]; omega, hb]
      cases o.getD b false <;> cases o.getD i false <;> simp
    · rw [if_neg (fun e => hb e.1), show ((b : Int) == p) = false from by rw [beq_eq_false_iff_ne]; omega]; simp
theorem upDown_get {W : FW} (h : worldP W = true) : ∀ (k : Nat) (o : List Bool), k ≤ W.parents.length → o.length = 3 + W.parents.length → ∀ b, 0 < b → (upDown W k o).getD b false = (o.getD b false || (List.range k).any fun i => o.getD (3 + i) false && upB W (3 + i) b)
  | 0, o, _, _, b, _ => by simp [upDown]
  | k + 1, o, hk, hl, b, hb => by
    have hp := pars_lt h (i := k) (by omega)
    have hg := fun x => upIn_get (3 + k) (W.parents.getD k default) o x (fun p hp' => by have := hp p hp'; omega) (by omega)
    rw [upDown, upDown_get h k _ (by omega) (by rw [upIn_len]; exact hl) b hb, hg, List.range_succ, List.any_append, List.any_cons, List.any_nil, Bool.or_false]
    rw [upB_own h (by omega), show (b == 0) = false from by rw [beq_eq_false_iff_ne]; omega, Bool.false_or]
    rw [Bool.eq_iff_iff]
    simp only [Bool.or_eq_true, Bool.and_eq_true, List.any_eq_true, List.mem_range, beq_iff_eq, hg, List.contains_iff_mem]
    constructor
    · rintro ((h1 | ⟨h1, h2⟩) | ⟨i, hi, h1 | ⟨h1, h2⟩, h3⟩)
      · exact .inl h1
      · exact .inr (.inr ⟨h1, .inr ⟨(b : Int), h2, by rw [Int.toNat_natCast]; exact upB_self h (by have := hp _ h2; omega)⟩⟩)
      · exact .inr (.inl ⟨i, hi, h1, h3⟩)
      · exact .inr (.inr ⟨h1, .inr ⟨_, h2, by rw [Int.toNat_natCast]; exact h3⟩⟩)
    · rintro (h1 | ⟨i, hi, h1, h3⟩ | ⟨h1, h2 | ⟨p, hpm, h3⟩⟩)
      · exact .inl (.inl h1)
      · exact .inr ⟨i, hi, .inl h1, h3⟩
      · subst h2; exact .inl (.inl h1)
      · have := hp p hpm
        refine .inr ⟨p.toNat - 3, by omega, .inr ⟨h1, ?_⟩, ?_⟩
        · rw [show ((3 + (p.toNat - 3) : Nat) : Int) = p from by omega]; exact hpm
        · rw [show 3 + (p.toNat - 3) = p.toNat from by omega]; exact h3
theorem upR_len (W : FW) (c : Nat) : (upR W c).length = 3 + W.parents.length := by rw [upR, upDown_len]; simp
theorem upR_get {W : FW} (h : worldP W = true) {c : Nat} (h3 : 3 ≤ c) (hc : c < 3 + W.parents.length) {b : Nat} (hb : 0 < b) : (upR W c).getD b false = upB W c b := by
  have hg : ∀ x, ((List.replicate (3 + W.parents.length) false).set c true).getD x false = (c == x) := fun x => by
    rw [getD_set]
    by_cases e : c = x
    · rw [if_pos ⟨e, by simpa using hc⟩]; simp [e]
    · rw [if_neg (fun q => e q.1)]
      have : (c == x) = false := by rw [beq_eq_false_iff_ne]; exact e
      rw [this, List.getD_eq_getElem?_getD, List.getElem?_replicate]; split <;> rfl
  rw [upR, upDown_get h (c - 2) _ (by omega) (by simp) b hb, hg, Bool.eq_iff_iff]
  simp only [Bool.or_eq_true, Bool.and_eq_true, List.any_eq_true, List.mem_range, beq_iff_eq, hg]
  constructor
  · rintro (rfl | ⟨i, hi, e, h1⟩)
    · exact upB_self h hc
    · rw [e]; exact h1
  · intro h1
    exact .inr ⟨c - 3, by omega, by omega, by rw [show 3 + (c - 3) = c from by omega]; exact h1⟩
end Go.Proofs.YtiljpbljebfhnaaGreat
