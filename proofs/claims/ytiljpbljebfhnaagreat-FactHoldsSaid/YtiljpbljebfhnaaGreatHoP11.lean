/- Part 11 of the proof: contracts of functions of the program and what they need. No condition beyond those that each theorem names. -/
import Derived.Test.YtiljpbljebfhnaaGreatHoP10
set_option linter.unusedVariables false
set_option linter.unusedSimpArgs false
set_option maxRecDepth 10000
namespace Go.Proofs.YtiljpbljebfhnaaGreat
open Go.Eng
open Go.Eng.Fc
theorem own_rng {W : FW} {c : Int} (h : ownP W c = true) : 3 ≤ c ∧ c < 3 + W.parents.length := by
  simpa [ownP] using h
theorem own_rng0 {W : FW} {c : Int} (h : ownP W c = true) : 0 ≤ c ∧ c < 3 + W.parents.length := by
  have := own_rng h; omega
theorem p205 {W : FW} (h : worldP W = true) (objs : List (Int × List (Int × Int))) (o : Int × List (Int × Int)) : PCall Tryz.prog 205 [AV.thing o, .ptr [Wptr W], .ptr [AV.things objs]] (.b (thingP W objs.length o)) := by
  intro H
  refine ACall.mk' (n := 26) Tryz.func205 rfl (by kernel_rfl) rfl rfl (fun B I w0 => ?_)
  have hP := world_len h
  refine S2 ?_; refine Obx ?_; refine Oas ?_; refine S3 ?_
  refine CW.dp mixed ?_
  refine DP.anyC 0 3 26 rfl (by decide +kernel) rfl rfl (by decide +kernel) ?_
  refine Ald ?_; refine Afa ?_; refine Ald ?_
  refine AD.nil ?_
  refine DP.one (k := 3) (by decide +kernel) rfl ?_
  refine OL.popC rfl rfl rfl (POp.call (.mk' rfl rfl rfl rfl rfl) (p153 W o.1 hP)) ?_
  refine OL.nil (Done.dp ?_)
  refine DP.one (k := 4) (by decide +kernel) rfl ?_
  refine Omv ?_
  refine OL.nil (Done.dp ?_)
  refine DP.anyC 5 13 26 rfl (by decide +kernel) rfl rfl (by decide +kernel) ?_
  refine AD.guardC rfl rfl rfl rfl rfl (fun hg => (by first | exact POp.fa rfl rfl rfl rfl | exact POp.faP rfl rfl rfl rfl)) ?_
  refine AD.guardC rfl rfl rfl rfl rfl (fun hg => (by first | exact POp.ld1 rfl rfl (gd hg) rfl | (apply POp.ld1H rfl rfl (gd hg); (case hm => repeat (first | exact .head _ | refine .tail _ ?_)); (case hy => rfl)))) ?_
  refine AD.guardC rfl rfl rfl rfl rfl (fun hg => (by first | exact POp.lenM rfl rfl (gd hg) | exact POp.lenA rfl rfl (gd hg) | exact POp.lenV rfl rfl (gd hg) | exact POp.len' rfl rfl (gd hg))) ?_
  refine AD.guardC rfl rfl rfl rfl rfl (fun hg => (by first | exact POp.ld1 rfl rfl rfl rfl | (apply POp.ld1H rfl rfl rfl; (case hm => repeat (first | exact .head _ | refine .tail _ ?_)); (case hy => rfl)))) ?_
  refine AD.guardC rfl rfl rfl rfl rfl (fun hg => (by first | exact POp.fa rfl rfl rfl rfl | exact POp.faP rfl rfl rfl rfl)) ?_
  refine AD.guardC rfl rfl rfl rfl rfl (fun hg => (by first | exact POp.ld1 rfl rfl (gd hg) rfl | (apply POp.ld1H rfl rfl (gd hg); (case hm => repeat (first | exact .head _ | refine .tail _ ?_)); (case hy => rfl)))) ?_
  refine AD.guardC rfl rfl rfl rfl rfl (fun hg => POp.call (.mk' rfl rfl rfl rfl (by first | rfl | ((repeat (first | exact hg | rfl | refine Bool.and_eq_true_iff.2 ⟨?_, ?_⟩)); done) | simp_all [strip, constAV])) (p179 h (own_rng0 hg))) ?_
  refine AD.guardC rfl rfl rfl rfl rfl (fun hg => (by first | exact POp.lenM rfl rfl (gd hg) | exact POp.lenA rfl rfl (gd hg) | exact POp.lenV rfl rfl (gd hg) | exact POp.len' rfl rfl (gd hg))) ?_
  refine AD.nil ?_
  refine DP.one (k := 13) (by decide +kernel) rfl ?_
  refine Pcm ?_
  refine OL.nil (Done.dp ?_)
  refine DP.one (k := 14) (by decide +kernel) rfl ?_
  refine Opk ?_
  refine OL.nil (Done.dp ?_)
  refine DP.one (k := 15) (by decide +kernel) rfl ?_
  refine Omv ?_
  refine OL.nil (Done.dp ?_)
  refine DP.anyC 16 19 26 rfl (by decide +kernel) rfl rfl (by decide +kernel) ?_
  refine AD.guardC rfl rfl rfl rfl rfl (fun hg => (by first | exact POp.fa rfl rfl rfl rfl | exact POp.faP rfl rfl rfl rfl)) ?_
  refine AD.guardC rfl rfl rfl rfl rfl (fun hg => (by first | exact POp.ld1 rfl rfl (gd hg) rfl | (apply POp.ld1H rfl rfl (gd hg); (case hm => repeat (first | exact .head _ | refine .tail _ ?_)); (case hy => rfl)))) ?_
  refine AD.guardC rfl rfl rfl rfl rfl (fun hg => POp.makeFunc rfl rfl rfl (by first | rfl | simp_all [strip]) (by first | rfl | simp_all [strip])) ?_
  refine AD.nil ?_
  refine DP.tailC 19 (by decide +kernel) rfl ?_
  refine OL.guardC rfl rfl rfl rfl rfl rfl (fun hg => POp.call (.mk' rfl rfl rfl rfl (by first | rfl | ((repeat (first | exact hg | rfl | refine Bool.and_eq_true_iff.2 ⟨?_, ?_⟩)); done) | simp_all [strip, constAV])) (p174 (.of (p206 objs)) o.2)) ?_
  refine Opk ?_; refine Oas ?_; refine S3 ?_
  refine r1 4 (H) ?_
  exact ⟨retB (by rw [thingP]; cases ownP W o.1 <;> simp), rfl⟩
theorem p173 {W : FW} (h : worldP W = true) (objs : List (Int × List (Int × Int))) : PCall Tryz.prog 173 [Wptr W, AV.things objs] (.b (thingsP W objs)) := by
  intro H
  refine ACall.mk' (n := 13) Tryz.func173 rfl (by kernel_rfl) rfl rfl (fun B I w0 => ?_)
  refine CW.boundM (t := 1) rfl (fun hb => ?_)
  refine S2 ?_; refine Obx ?_; refine Obx ?_; refine Oas ?_; refine S4 ?_; refine Old ?_; refine Oln ?_; refine Ocm ?_; refine Omv ?_; refine Pld ?_; refine Pmf ?_
  refine OL.guardC rfl rfl rfl rfl rfl rfl (fun hg => POp.call (.mk' rfl rfl rfl rfl (by first | rfl | ((repeat (first | exact hg | rfl | refine Bool.and_eq_true_iff.2 ⟨?_, ?_⟩)); done) | simp_all [strip, constAV])) (p204 (.of (p205 h objs)) objs)) ?_
  refine Opk ?_; refine Oas ?_; refine S3 ?_
  refine r1 4 (H) ?_
  exact ⟨retB (by rw [thingsP]; cases decide ((objs.length : Int) ≤ 40) <;> rfl), rfl⟩
theorem p122 {W : FW} (h : worldP W = true) (objs : List (Int × List (Int × Int))) (args : List (Int × Int)) : PCall Tryz.prog 122 [Wptr W, AV.things objs, AV.vals args] (.b (handedP W objs args)) := by
  intro H
  refine ACall.mk' (n := 25) Tryz.func122 rfl (by kernel_rfl) rfl rfl (fun B I w0 => ?_)
  refine CW.boundM (t := 2) rfl (fun hb => ?_)
  refine S2 ?_; refine Obx ?_; refine Oas ?_; refine S4 ?_; refine Omv ?_; refine Old ?_
  refine OL.popC rfl rfl rfl (POp.call (.mk' rfl rfl rfl rfl rfl) (p173 h objs)) ?_
  refine Omv ?_; refine Pmv ?_; refine Pln ?_; refine Pcm ?_; refine Opk ?_; refine Omv ?_; refine Pmv ?_; refine Pln ?_; refine Pcm ?_; refine Opk ?_; refine Omv ?_; refine Pmv ?_
  refine Pmf ?_
  refine OL.guardC rfl rfl rfl rfl rfl rfl (fun hg => POp.call (.mk' rfl rfl rfl rfl (by first | rfl | ((repeat (first | exact hg | rfl | refine Bool.and_eq_true_iff.2 ⟨?_, ?_⟩)); done) | simp_all [strip, constAV])) (p174 (.of (p175 objs)) args)) ?_
  refine Opk ?_; refine Oas ?_; refine S3 ?_
  refine r1 6 (H) ?_
  exact ⟨retB (by rw [handedP, argsP]; cases thingsP W objs <;> cases decide ((args.length : Int) ≥ 1) <;> cases decide ((args.length : Int) ≤ 3) <;> rfl), rfl⟩
theorem p120 (l : List (Int × Int)) (n : Int) : PCall Tryz.prog 120 [AV.vals l, .i n] (.b (l.all (valP · n))) := by
  intro H
  refine ACall.mk' (n := 18) Tryz.func120 rfl (by kernel_rfl) rfl rfl (fun B I w0 => ?_)
  refine S2 ?_; refine Oas ?_; refine S5 ?_; refine Omv ?_; refine Oln ?_; refine Omv ?_; refine S3 ?_
  refine lj (fun m st => ∃ i : Nat, st = ⟨[(9, .i i), (8, .i l.length), (7, AV.vals l), (4, .b false), (1, .i n)], H⟩ ∧ m = l.length - i ∧ i ≤ l.length ∧ (l.take i).all (valP · n) = true) (⟨0, rfl, rfl, by omega, rfl⟩) ?_
  rintro m _ ⟨i, rfl, rfl, hi, hall⟩
  refine CW.boundM (t := 7) rfl (fun hb => ?_)
  refine S2 ?_; refine Ocm ?_; refine S3 ?_
  refine CW.cond rfl (fun h0 => ?_) (fun h0 => ?_)
  ·
    replace h0 := nm h0
    have hil : i < l.length := by omega
    refine S6 ?_; refine Oix ?_; refine Ola ?_
    refine OL.alC rfl rfl rfl rfl (fun b0 => ?_)
    refine Sto ?_; refine S4 ?_; refine Ola ?_; refine Omv ?_
    refine OL.popC rfl rfl rfl (POp.call (.mk' rfl rfl rfl rfl rfl) (p172 (l.getD i default) n)) ?_
    refine Ont ?_; refine S2 ?_
    refine CW.cond rfl (fun h1 => ?_) (fun h1 => ?_)
    ·
      replace h1 := nm h1
      refine S2 ?_; refine Oas ?_; refine S8 ?_
      refine r1 4 (H) ?_
      exact ⟨retB (by symm; rw [List.all_eq_false]; exact ⟨_, getD_mem hil, by simpa using h1⟩), rfl⟩
    ·
      replace h1 := nm h1
      refine S4 ?_; refine Oar ?_; refine Omv ?_; refine S1 ?_
      exact ag (⟨i + 1, rfl, rfl, by omega, by rw [all_take hil, hall, show valP (l.getD i default) n = true by simpa using h1]; rfl⟩)
  ·
    replace h0 := nm h0
    obtain rfl : i = l.length := by omega
    rw [List.take_length] at hall
    refine S7 ?_; refine Oas ?_; refine S3 ?_
    refine r1 4 (H) ?_
    exact ⟨retB hall.symm, rfl⟩
theorem p64 {W : FW} (h : worldP W = true) (objs : List (Int × List (Int × Int))) : PCall Tryz.prog 64 [AV.world W, AV.things objs] (.b (thingsP W objs)) := by
  intro H
  refine ACall.mk' (n := 41) Tryz.func64 rfl (by kernel_rfl) rfl rfl (fun B I w0 => ?_)
  have hP := world_len h
  refine S2 ?_; refine Obx ?_; refine Oas ?_; refine S5 ?_; refine Omv ?_; refine Oln ?_; refine Ocm ?_; refine S2 ?_
  refine CW.cond rfl (fun h0 => ?_) (fun h0 => ?_)
  ·
    replace h0 := nm h0
    have hgt : ¬ (objs.length : Int) ≤ 40 := by omega
    refine S2 ?_; refine Oas ?_; refine S4 ?_
    refine r1 4 (H) ?_
    exact ⟨retB (by rw [thingsP, decide_eq_false hgt]; rfl), rfl⟩
  ·
    replace h0 := nm h0
    have hle : (objs.length : Int) ≤ 40 := by omega
    rw [thingsP, decide_eq_true hle, Bool.true_and]
    refine S5 ?_; refine Omv ?_; refine Oln ?_; refine Omv ?_; refine S3 ?_
    refine lj (fun m st => ∃ i : Nat, st = ⟨[(12, .i i), (11, .i objs.length), (10, AV.things objs), (4, .b false), (1, AV.things objs), (2, .ptr (Wcells W))], H⟩ ∧ m = objs.length - i ∧ i ≤ objs.length ∧ (objs.take i).all (thingP W objs.length) = true) (⟨0, rfl, rfl, by omega, rfl⟩) ?_
    rintro m _ ⟨i, rfl, rfl, hi, hall⟩
    refine S2 ?_; refine Ocm ?_; refine S3 ?_
    refine CW.cond rfl (fun h1 => ?_) (fun h1 => ?_)
    ·
      replace h1 := nm h1
      have hil : i < objs.length := by omega
      obtain ⟨o, ho⟩ : ∃ o, o = objs.getD i default := ⟨_, rfl⟩
      refine S6 ?_; refine Oix ?_
      rw [← ho]
      refine Ola ?_
      refine OL.alC rfl rfl rfl rfl (fun b0 => ?_)
      refine Sto ?_; refine S3 ?_
      refine CW.freezeP (d := 6) rfl (by repeat (first | exact Del.head _ _ | apply Del.tail)) ?_
      refine CW.dp mixed ?_
      refine DP.anyC 0 3 41 rfl (by decide +kernel) rfl rfl (by decide +kernel) ?_
      refine Ala ?_; refine Afa ?_; refine Ald ?_
      refine AD.nil ?_
      refine DP.one (k := 3) (by decide +kernel) rfl ?_
      refine OL.popC rfl rfl rfl (POp.call (.mk' rfl rfl rfl rfl rfl) (p85 W o.1 hP)) ?_
      refine OL.nil (Done.dp ?_)
      refine DP.one (k := 4) (by decide +kernel) rfl ?_
      refine Ont ?_
      refine OL.nil (Done.dp ?_)
      refine DP.one (k := 5) (by decide +kernel) rfl ?_
      refine Omv ?_
      refine OL.nil (Done.dp ?_)
      refine DP.anyC 6 14 41 rfl (by decide +kernel) rfl rfl (by decide +kernel) ?_
      refine AD.guardC rfl rfl rfl rfl rfl (fun hg => (by first | exact POp.fa rfl rfl rfl rfl | exact POp.faP rfl rfl rfl rfl)) ?_
      refine AD.guardC rfl rfl rfl rfl rfl (fun hg => (by first | exact POp.ld1 rfl rfl (gd hg) rfl | (apply POp.ld1H rfl rfl (gd hg); (case hm => repeat (first | exact .head _ | refine .tail _ ?_)); (case hy => rfl)))) ?_
      refine AD.guardC rfl rfl rfl rfl rfl (fun hg => (by first | exact POp.lenM rfl rfl (gd hg) | exact POp.lenA rfl rfl (gd hg) | exact POp.lenV rfl rfl (gd hg) | exact POp.len' rfl rfl (gd hg))) ?_
      refine AD.guardC rfl rfl rfl rfl rfl (fun hg => (by first | exact POp.ldA rfl rfl rfl rfl | (apply POp.ldAH rfl rfl rfl; (case hm => repeat (first | exact .head _ | refine .tail _ ?_)); (case hy => rfl); (case hn => rfl)))) ?_
      refine AD.guardC rfl rfl rfl rfl rfl (fun hg => (by first | exact POp.fa rfl rfl rfl rfl | exact POp.faP rfl rfl rfl rfl)) ?_
      refine AD.guardC rfl rfl rfl rfl rfl (fun hg => (by first | exact POp.ld1 rfl rfl (gd hg) rfl | (apply POp.ld1H rfl rfl (gd hg); (case hm => repeat (first | exact .head _ | refine .tail _ ?_)); (case hy => rfl)))) ?_
      refine AD.guardC rfl rfl rfl rfl rfl (fun hg => POp.call (.mk' rfl rfl rfl rfl (by first | rfl | ((repeat (first | exact hg | rfl | refine Bool.and_eq_true_iff.2 ⟨?_, ?_⟩)); done) | simp_all [strip, constAV])) (p119 h (own_rng0 (by simpa using hg)))) ?_
      refine AD.guardC rfl rfl rfl rfl rfl (fun hg => (by first | exact POp.lenM rfl rfl (gd hg) | exact POp.lenA rfl rfl (gd hg) | exact POp.lenV rfl rfl (gd hg) | exact POp.len' rfl rfl (gd hg))) ?_
      refine AD.nil ?_
      refine DP.one (k := 14) (by decide +kernel) rfl ?_
      refine Pcm ?_
      refine OL.nil (Done.dp ?_)
      refine DP.one (k := 15) (by decide +kernel) rfl ?_
      refine Opk ?_
      refine OL.nil (Done.dp ?_)
      refine DP.one (k := 16) (by decide +kernel) rfl ?_
      refine Omv ?_
      refine OL.nil (Done.dp ?_)
      refine DP.anyC 17 21 41 rfl (by decide +kernel) rfl rfl (by decide +kernel) ?_
      refine AD.guardC rfl rfl rfl rfl rfl (fun hg => (by first | exact POp.fa rfl rfl rfl rfl | exact POp.faP rfl rfl rfl rfl)) ?_
      refine AD.guardC rfl rfl rfl rfl rfl (fun hg => (by first | exact POp.ld1 rfl rfl (gd hg) rfl | (apply POp.ld1H rfl rfl (gd hg); (case hm => repeat (first | exact .head _ | refine .tail _ ?_)); (case hy => rfl)))) ?_
      refine AD.guardC rfl rfl rfl rfl rfl (fun hg => POp.move rfl rfl rfl) ?_
      refine AD.guardC rfl rfl rfl rfl rfl (fun hg => (by first | exact POp.lenM rfl rfl (gd hg) | exact POp.lenA rfl rfl (gd hg) | exact POp.lenV rfl rfl (gd hg) | exact POp.len' rfl rfl (gd hg))) ?_
      refine AD.nil ?_
      refine DP.tailC 21 (by decide +kernel) rfl ?_
      refine OL.guardC rfl rfl rfl rfl rfl rfl (fun hg => POp.call (.mk' rfl rfl rfl rfl (by first | rfl | ((repeat (first | exact hg | rfl | refine Bool.and_eq_true_iff.2 ⟨?_, ?_⟩)); done) | simp_all [strip, constAV])) (p120 o.2 _)) ?_
      refine Pnt ?_; refine Opk ?_; refine S2 ?_
      refine CW.cond rfl (fun h2 => ?_) (fun h2 => ?_)
      ·
        have hb : thingP W objs.length o = false := by rw [thingP]; cases hx : ownP W o.1 <;> cases hy : ((o.2.length : Int) == ((slotsOf W o.1).length : Int)) <;> simp_all
        refine S2 ?_; refine Oas ?_; refine S8 ?_
        refine r1 4 (H) ?_
        exact ⟨retB (by symm; rw [List.all_eq_false]; exact ⟨_, getD_mem hil, by rw [← ho, hb]; simp⟩), rfl⟩
      ·
        have hb : thingP W objs.length o = true := by rw [thingP]; cases hx : ownP W o.1 <;> cases hy : ((o.2.length : Int) == ((slotsOf W o.1).length : Int)) <;> simp_all
        refine S4 ?_; refine Oar ?_; refine Omv ?_; refine S1 ?_
        exact ag (⟨i + 1, rfl, rfl, by omega, by rw [all_take hil, hall, ← ho, hb]; rfl⟩)
    ·
      replace h1 := nm h1
      obtain rfl : i = objs.length := by omega
      rw [List.take_length] at hall
      refine S7 ?_; refine Oas ?_; refine S3 ?_
      refine r1 4 (H) ?_
      exact ⟨retB hall.symm, rfl⟩
theorem p65 (args : List (Int × Int)) (n : Int) : PCall Tryz.prog 65 [AV.vals args, .i n] (.b (argsP args n)) := by
  intro H
  refine ACall.mk' (n := 18) Tryz.func65 rfl (by kernel_rfl) rfl rfl (fun B I w0 => ?_)
  refine CW.boundM (t := 0) rfl (fun hb => ?_)
  refine S2 ?_; refine Oas ?_; refine S4 ?_; refine Omv ?_; refine Oln ?_; refine Ocm ?_; refine Omv ?_; refine Pmv ?_; refine Pln ?_; refine Pcm ?_; refine Opk ?_; refine Omv ?_
  refine Pmv ?_; refine Pmv ?_
  refine OL.guardC rfl rfl rfl rfl rfl rfl (fun hg => POp.call (.mk' rfl rfl rfl rfl (by first | rfl | ((repeat (first | exact hg | rfl | refine Bool.and_eq_true_iff.2 ⟨?_, ?_⟩)); done) | simp_all [strip, constAV])) (p120 args n)) ?_
  refine Opk ?_; refine Oas ?_; refine S3 ?_
  refine r1 4 (H) ?_
  exact ⟨retB (by rw [argsP]; cases decide ((args.length : Int) ≥ 1) <;> cases decide ((args.length : Int) ≤ 3) <;> rfl), rfl⟩
def goodGv (g : Gv) : Bool := worldP g.W && handedP g.W g.objs g.args
theorem p69 (g : Gv) : PCall Tryz.prog 69 [AV.given g] (.b (goodGv g)) := by
  intro H
  refine ACall.mk' (n := 21) Tryz.func69 rfl (by kernel_rfl) rfl rfl (fun B I w0 => ?_)
  refine S2 ?_; refine Obx ?_; refine Oas ?_; refine S4 ?_; refine Ofa ?_; refine Ola ?_
  refine OL.popC rfl rfl rfl (POp.call (.mk' rfl rfl rfl rfl rfl) (p19 g.W)) ?_
  refine Omv ?_; refine Pfa ?_; refine Pla ?_; refine Pfa ?_; refine Pld ?_
  refine OL.guardC rfl rfl rfl rfl rfl rfl (fun hg => POp.call (.mk' rfl rfl rfl rfl (by first | rfl | ((repeat (first | exact hg | rfl | refine Bool.and_eq_true_iff.2 ⟨?_, ?_⟩)); done) | simp_all [strip, constAV])) (p64 hg g.objs)) ?_
  refine Opk ?_; refine Omv ?_; refine Pfa ?_; refine Pld ?_; refine Pfa ?_; refine Pld ?_; refine Pln ?_
  refine OL.guardC rfl rfl rfl rfl rfl rfl (fun hg => POp.call (.mk' rfl rfl rfl rfl (by first | rfl | ((repeat (first | exact hg | rfl | refine Bool.and_eq_true_iff.2 ⟨?_, ?_⟩)); done) | simp_all [strip, constAV])) (p65 g.args g.objs.length)) ?_
  refine Opk ?_; refine Oas ?_; refine S3 ?_
  refine r1 2 (H) ?_
  exact ⟨retB (by rw [goodGv, handedP]; cases worldP g.W <;> simp), rfl⟩
theorem p67 (g : Gv) : PCall Tryz.prog 67 [AV.given g] (.b (decide (g.objs.length ≤ 100) && decide (g.args.length ≤ 10) && decide (g.path.length ≤ 10))) := by
  intro H
  refine ACall.mk' (n := 19) Tryz.func67 rfl (by kernel_rfl) rfl rfl (fun B I w0 => ?_)
  refine S2 ?_; refine Obx ?_; refine Oas ?_; refine S4 ?_; refine Ofa ?_; refine Old ?_; refine Oln ?_; refine Ocm ?_; refine Omv ?_; refine Pfa ?_; refine Pld ?_; refine Pln ?_
  refine Pcm ?_; refine Opk ?_; refine Omv ?_; refine Pfa ?_; refine Pld ?_; refine Pln ?_; refine Pcm ?_; refine Opk ?_; refine Oas ?_; refine S3 ?_
  refine r1 2 (H) ?_
  exact ⟨retB (by by_cases h1 : g.objs.length ≤ 100 <;> by_cases h2 : g.args.length ≤ 10 <;> by_cases h3 : g.path.length ≤ 10 <;> simp [h1, h2, h3] <;> omega), rfl⟩
/-! ### of how many arguments a fact speaks -/
mutual
def spkN : Fact → Int
  | .mk op arg path cls n kids => spkNs kids (if 2 ≤ op ∧ op ≤ 4 then arg + 1 else 0)
def spkNs : List Fact → Int → Int
  | [], a => a
  | k :: r, a => spkNs r (if spkN k > a then spkN k else a)
end
theorem spkN_eq (f : Fact) : spkN f = spkNs f.kids (if leafP f = true then f.arg + 1 else 0) := by
  cases f; rw [spkN]; exact congrArg _ (ite_congr (propext ⟨fun h => Bool.and_eq_true_iff.2 ⟨decide_eq_true h.1, decide_eq_true h.2⟩, fun h => ⟨of_decide_eq_true (Bool.and_eq_true_iff.1 h).1, of_decide_eq_true (Bool.and_eq_true_iff.1 h).2⟩⟩) (fun _ => rfl) (fun _ => rfl))
theorem spkNs_snoc (x : Fact) : ∀ (l : List Fact) (a : Int), spkNs (l ++ [x]) a = if spkN x > spkNs l a then spkN x else spkNs l a
  | [], a => by rw [List.nil_append, spkNs, spkNs, spkNs]
  | k :: r, a => by rw [List.cons_append, spkNs, spkNs, spkNs_snoc x r]
theorem leaf_arg {W : FW} {f : Fact} (hw : wfB W f = true) (hl : leafP f = true) : 0 ≤ f.arg ∧ f.arg < 3 := by
  have hf := (wfB_iff.1 hw).1
  simp only [nodeOkB, Bool.and_eq_true] at hf
  have h3 := hf.2
  rw [if_pos hl] at h3
  simp only [Bool.and_eq_true, argP, Bool.not_eq_true', Bool.or_eq_false_iff, decide_eq_false_iff_not] at h3
  omega
theorem leaf_op (f : Fact) : (f.op == 2 || f.op == 3 || f.op == 4) = leafP f := by
  rw [leafP, Bool.eq_iff_iff]; simp; omega
theorem p123_step {W : FW} (f : Fact) (hw : wfB W f = true) (hk2 : f.kids.length ≤ 2) (ih : ∀ k ∈ f.kids, PCall Tryz.prog 123 [AV.fact k] (.i (spkN k))) : PCall Tryz.prog 123 [AV.fact f] (.i (spkN f)) := by
  intro H
  refine ACall.mk' (n := 24) Tryz.func123 rfl (by kernel_rfl) rfl rfl (fun B I w0 => ?_)
  rw [spkN_eq]
  refine S2 ?_; refine Obx ?_; refine Oas ?_; refine S4 ?_; refine Oas ?_; refine S2 ?_
  refine CW.cutJ (fun st => st = ⟨[(3, .i (if leafP f = true then f.arg + 1 else 0)), (1, .ptr (Fcells f))], H⟩) ?_ ?_
  ·
    refine S2 ?_; refine Ola ?_
    refine OL.popC rfl rfl rfl (POp.call (.mk' rfl rfl rfl rfl rfl) (p134 f)) ?_
    refine S2 ?_
    refine CW.cond rfl (fun h0 => ?_) (fun h0 => ?_)
    ·
      have hl : leafP f = true := by exact h0
      have har := leaf_arg hw hl
      refine S1 ?_; refine Ofa ?_; refine Old ?_; refine Oar ?_; refine Oas ?_; refine S1 ?_
      refine Done.le 3 (y := .i (if leafP f = true then f.arg + 1 else 0)) rfl (AVle.eqI (by rw [if_pos hl])) ?_
      exact Done.cutJ rfl (by repeat (first | exact trivial | refine ⟨rfl, ?_⟩)) (by repeat (first | exact List.Sublist.refl _ | refine List.Sublist.cons _ ?_))
    ·
      have hl : leafP f = false := by exact h0
      refine S1 ?_
      refine Done.le 3 (y := .i (if leafP f = true then f.arg + 1 else 0)) rfl (AVle.eqI (by rw [hl]; rfl)) ?_
      exact Done.cutJ rfl (by repeat (first | exact trivial | refine ⟨rfl, ?_⟩)) (by repeat (first | exact List.Sublist.refl _ | refine List.Sublist.cons _ ?_))
  ·
    rintro _ rfl
    refine S2 ?_
    generalize (if leafP f = true then f.arg + 1 else 0) = a0
    refine S1 ?_; refine Ofa ?_; refine Old ?_; refine Oln ?_; refine Omv ?_; refine S3 ?_
    refine lj (fun m st => ∃ j : Nat, st = ⟨[(14, .i j), (13, .i f.kids.length), (12, AV.facts f.kids), (3, .i (spkNs (f.kids.take j) a0))], H⟩ ∧ m = f.kids.length - j ∧ j ≤ f.kids.length) (⟨0, rfl, rfl, by omega⟩) ?_
    rintro m _ ⟨j, rfl, rfl, hj⟩
    refine S2 ?_; refine Ocm ?_; refine S3 ?_
    refine CW.cond rfl (fun h1 => ?_) (fun h1 => ?_)
    ·
      replace h1 := nm h1
      have hjl : j < f.kids.length := by omega
      have hkm := getD_mem hjl
      have hsn := spkNs_snoc (f.kids.getD j default) (f.kids.take j) a0
      rw [take_getD hjl] at hsn
      refine S6 ?_; refine Oix ?_; refine Ola ?_
      refine OL.alC rfl rfl rfl rfl (fun b0 => ?_)
      refine Sto ?_; refine S3 ?_; refine Omv ?_; refine Ola ?_
      refine OL.popC rfl rfl rfl (POp.call (.mk' rfl rfl rfl rfl rfl) (ih _ hkm)) ?_
      refine OL.popC rfl rfl rfl (POp.max2 rfl rfl rfl rfl rfl rfl) ?_
      refine Oas ?_; refine S3 ?_
      refine CW.le 3 (y := .i (spkNs (f.kids.take (j + 1)) a0)) rfl (AVle.eqI (by rw [hsn])) ?_
      refine S1 ?_; refine Oar ?_; refine Omv ?_; refine S1 ?_
      exact ag (⟨j + 1, rfl, rfl, by omega⟩)
    ·
      replace h1 := nm h1
      obtain rfl : j = f.kids.length := by omega
      rw [List.take_length]
      refine S7 ?_; refine Omv ?_; refine Oas ?_; refine S3 ?_
      refine r1 2 (H) ?_
      exact ⟨by rfl, rfl⟩
theorem p123 {W : FW} : ∀ f : Fact, wfB W f = true → PCall Tryz.prog 123 [AV.fact f] (.i (spkN f)) := Fact.ind1 fun f ih hw => p123_step f hw (kids_two2 hw) fun k hk => ih k hk ((wfB_iff.1 hw).2 k hk)
theorem p70_step {W : FW} (f : Fact) (hw : wfB W f = true) (hk2 : f.kids.length ≤ 2) (ih : ∀ k ∈ f.kids, PCall Tryz.prog 70 [AV.fact k] (.i (spkN k))) : PCall Tryz.prog 70 [AV.fact f] (.i (spkN f)) := by
  intro H
  refine ACall.mk' (n := 24) Tryz.func70 rfl (by kernel_rfl) rfl rfl (fun B I w0 => ?_)
  rw [spkN_eq]
  refine S2 ?_; refine Obx ?_; refine Oas ?_; refine S4 ?_; refine Oas ?_; refine S2 ?_
  refine CW.cutJ (fun st => st = ⟨[(3, .i (if leafP f = true then f.arg + 1 else 0)), (1, .ptr (Fcells f))], H⟩) ?_ ?_
  ·
    refine S2 ?_; refine Ola ?_
    refine OL.popC rfl rfl rfl (POp.call (.mk' rfl rfl rfl rfl rfl) (p125 f)) ?_
    refine S2 ?_
    refine CW.cond rfl (fun h0 => ?_) (fun h0 => ?_)
    ·
      have hl : leafP f = true := by rw [← leaf_op]; exact h0
      have har := leaf_arg hw hl
      refine S1 ?_; refine Ofa ?_; refine Old ?_; refine Oar ?_; refine Oas ?_; refine S1 ?_
      refine Done.le 3 (y := .i (if leafP f = true then f.arg + 1 else 0)) rfl (AVle.eqI (by rw [if_pos hl])) ?_
      exact Done.cutJ rfl (by repeat (first | exact trivial | refine ⟨rfl, ?_⟩)) (by repeat (first | exact List.Sublist.refl _ | refine List.Sublist.cons _ ?_))
    ·
      have hl : leafP f = false := by rw [← leaf_op]; exact h0
      refine S1 ?_
      refine Done.le 3 (y := .i (if leafP f = true then f.arg + 1 else 0)) rfl (AVle.eqI (by rw [hl]; rfl)) ?_
      exact Done.cutJ rfl (by repeat (first | exact trivial | refine ⟨rfl, ?_⟩)) (by repeat (first | exact List.Sublist.refl _ | refine List.Sublist.cons _ ?_))
  ·
    rintro _ rfl
    refine S2 ?_
    generalize (if leafP f = true then f.arg + 1 else 0) = a0
    refine S1 ?_; refine Ofa ?_; refine Old ?_; refine Oln ?_; refine Omv ?_; refine S3 ?_
    refine lj (fun m st => ∃ j : Nat, st = ⟨[(14, .i j), (13, .i f.kids.length), (12, AV.facts f.kids), (3, .i (spkNs (f.kids.take j) a0))], H⟩ ∧ m = f.kids.length - j ∧ j ≤ f.kids.length) (⟨0, rfl, rfl, by omega⟩) ?_
    rintro m _ ⟨j, rfl, rfl, hj⟩
    refine S2 ?_; refine Ocm ?_; refine S3 ?_
    refine CW.cond rfl (fun h1 => ?_) (fun h1 => ?_)
    ·
      replace h1 := nm h1
      have hjl : j < f.kids.length := by omega
      have hkm := getD_mem hjl
      have hsn := spkNs_snoc (f.kids.getD j default) (f.kids.take j) a0
      rw [take_getD hjl] at hsn
      refine S6 ?_; refine Oix ?_; refine Ola ?_
      refine OL.alC rfl rfl rfl rfl (fun b0 => ?_)
      refine Sto ?_; refine S3 ?_; refine Omv ?_; refine Ola ?_
      refine OL.popC rfl rfl rfl (POp.call (.mk' rfl rfl rfl rfl rfl) (ih _ hkm)) ?_
      refine OL.popC rfl rfl rfl (POp.max2 rfl rfl rfl rfl rfl rfl) ?_
      refine Oas ?_; refine S3 ?_
      refine CW.le 3 (y := .i (spkNs (f.kids.take (j + 1)) a0)) rfl (AVle.eqI (by rw [hsn])) ?_
      refine S1 ?_; refine Oar ?_; refine Omv ?_; refine S1 ?_
      exact ag (⟨j + 1, rfl, rfl, by omega⟩)
    ·
      replace h1 := nm h1
      obtain rfl : j = f.kids.length := by omega
      rw [List.take_length]
      refine S7 ?_; refine Omv ?_; refine Oas ?_; refine S3 ?_
      refine r1 2 (H) ?_
      exact ⟨by rfl, rfl⟩
theorem p70 {W : FW} : ∀ f : Fact, wfB W f = true → PCall Tryz.prog 70 [AV.fact f] (.i (spkN f)) := Fact.ind1 fun f ih hw => p70_step f hw (kids_two2 hw) fun k hk => ih k hk ((wfB_iff.1 hw).2 k hk)
end Go.Proofs.YtiljpbljebfhnaaGreat

set_option linter.unusedVariables false
set_option linter.unusedSimpArgs false
set_option maxRecDepth 10000
namespace Go.Proofs.YtiljpbljebfhnaaGreat
open Go.Eng
open Go.Eng.Fc
/-! ### what stands at a path -/
abbrev Th := Int × List (Int × Int)
def clsAt (objs : List Th) (v : Int × Int) : Int := (objs.getD v.2.toNat default).1
def stepO (W : FW) (objs : List Th) (v : Int × Int) (s : Int) : Int × Int := (objs.getD v.2.toNat default).2.getD (idxP (slotsOf W (clsAt objs v)) s).toNat default
def okO (W : FW) (objs : List Th) (v : Int × Int) (s : Int) : Bool := (v.1 == 3) && hasP W (clsAt objs v) s
def atP (W : FW) (objs : List Th) : Int × Int → List Int → (Int × Int) × Bool
  | v, [] => (v, true)
  | v, s :: r => if okO W objs v s = true then atP W objs (stepO W objs v s) r else ((0, 0), false)
structure ObjsOk (W : FW) (objs : List Th) : Prop where
  w : worldP W = true
  len : objs.length ≤ 40
  own : ∀ o ∈ objs, ownP W o.1 = true
  slots : ∀ o ∈ objs, o.2.length = (slotsOf W o.1).length
  vals : ∀ o ∈ objs, ∀ v ∈ o.2, valP v objs.length = true
theorem objs_ok {W : FW} (hw : worldP W = true) {objs : List Th} (h : thingsP W objs = true) : ObjsOk W objs := by
  simp only [thingsP, thingP, Bool.and_eq_true, decide_eq_true_eq, List.all_eq_true, beq_iff_eq] at h
  exact ⟨hw, by omega, fun o ho => (h.2 o ho).1.1, fun o ho => by have := (h.2 o ho).1.2; omega, fun o ho v hv => (h.2 o ho).2 v hv⟩
theorem val_obj {v : Int × Int} {n : Nat} (h : valP v n = true) (h3 : v.1 = 3) : 0 ≤ v.2 ∧ v.2 < n := by
  rw [valP, if_neg (by omega), if_neg (by omega)] at h
  simp only [Bool.and_eq_true, decide_eq_true_eq] at h
  exact ⟨h.1.2, h.2⟩
theorem val_kind {v : Int × Int} {n : Int} (h : valP v n = true) : v.1 = 1 ∨ v.1 = 2 ∨ v.1 = 3 := by
  by_cases h1 : v.1 = 1
  · exact .inl h1
  by_cases h2 : v.1 = 2
  · exact .inr (.inl h2)
  · rw [valP, if_neg h1, if_neg h2] at h
    simp only [Bool.and_eq_true, beq_iff_eq] at h
    exact .inr (.inr h.1.1)
theorem idx_at {l : List Int} {s : Int} (h : s ∈ l) : 0 ≤ idxP l s ∧ idxP l s < l.length := by
  rw [idxP]
  cases hi : l.findIdx? (fun x => x == s) with
  | none =>
    rw [List.findIdx?_eq_none_iff] at hi
    have := hi s h; simp at this
  | some i =>
    rw [List.findIdx?_eq_some_iff_getElem] at hi
    obtain ⟨h1, _⟩ := hi
    simp only []; omega
theorem slots_mem {W : FW} {c s : Int} : s ∈ slotsOf W c ↔ (0 ≤ s ∧ s < W.owner.length) ∧ hasP W c s = true := by
  rw [slotsOf, List.mem_filter]
  refine and_congr_left fun _ => ?_
  rw [numL, List.mem_map]
  constructor
  · rintro ⟨a, ha, rfl⟩
    have := List.mem_range.1 ha; omega
  · intro h
    exact ⟨s.toNat, List.mem_range.2 (by omega), by omega⟩
section
variable {W : FW} {objs : List Th} (h : ObjsOk W objs) {v : Int × Int} (hv : valP v objs.length = true) {s : Int} (hs : 0 ≤ s ∧ s < W.owner.length)
include h hv
theorem obj_mem (h3 : v.1 = 3) : objs.getD v.2.toNat default ∈ objs := by
  have _ := h
  have := val_obj hv h3
  exact getD_mem (by omega)
theorem cls_rng (h3 : v.1 = 3) : 3 ≤ clsAt objs v ∧ clsAt objs v < 3 + W.parents.length := own_rng (h.own _ (obj_mem h hv h3))
include hs
theorem step_idx (hk : okO W objs v s = true) : 0 ≤ idxP (slotsOf W (clsAt objs v)) s ∧ idxP (slotsOf W (clsAt objs v)) s < (objs.getD v.2.toNat default).2.length := by
  rw [okO, Bool.and_eq_true, beq_iff_eq] at hk
  have h1 := h.slots _ (obj_mem h hv hk.1)
  have := idx_at (slots_mem.2 ⟨hs, hk.2⟩)
  rw [clsAt] at this ⊢
  rw [h1]; exact this
theorem step_val (hk : okO W objs v s = true) : valP (stepO W objs v s) objs.length = true := by
  have h1 := step_idx h hv hs hk
  rw [okO, Bool.and_eq_true, beq_iff_eq] at hk
  exact h.vals _ (obj_mem h hv hk.1) _ (getD_mem (by omega))
end
theorem at_val {W : FW} {objs : List Th} (h : ObjsOk W objs) : ∀ (p : List Int) (v : Int × Int), valP v objs.length = true → (∀ s ∈ p, 0 ≤ s ∧ s < W.owner.length) → (atP W objs v p).2 = true → valP (atP W objs v p).1 objs.length = true
  | [], v, hv, _, _ => hv
  | s :: r, v, hv, hp, ht => by
    rw [atP] at ht ⊢
    by_cases hk : okO W objs v s = true
    · rw [if_pos hk] at ht ⊢
      exact at_val h r _ (step_val h hv (hp s (.head _)) hk) (fun x hx => hp x (.tail _ hx)) ht
    · rw [if_neg hk] at ht; cases ht
theorem path_rng {W : FW} {p : List Int} (h : pathP W p = true) : (∀ s ∈ p, 0 ≤ s ∧ s < W.owner.length) ∧ p.length ≤ 2 := by
  simp only [pathP, Bool.and_eq_true, decide_eq_true_eq, List.all_eq_true, slotP] at h
  exact ⟨fun s hs => h.2 s hs, h.1⟩
theorem p127 {W : FW} {objs : List Th} (h : ObjsOk W objs) {v : Int × Int} (hv : valP v objs.length = true) {p : List Int} (hp : ∀ s ∈ p, 0 ≤ s ∧ s < W.owner.length) : PCall Tryz.prog 127 [Wptr W, AV.things objs, AV.vl v, AV.ints p] (.tup [AV.vl (atP W objs v p).1, .b (atP W objs v p).2]) := by
  intro H
  refine ACall.mk' (n := 54) Tryz.func127 rfl (by kernel_rfl) rfl rfl (fun B I w0 => ?_)
  refine S2 ?_
  refine OL.boxC rfl rfl rfl rfl rfl rfl rfl (fun vb => ?_)
  refine OL.alC rfl rfl rfl rfl (fun rb => ?_)
  refine Oas ?_; refine S5 ?_; refine Omv ?_; refine Oln ?_; refine Omv ?_; refine S3 ?_
  refine lj (fun m st => ∃ (j : Nat) (cur : Int × Int), st = ⟨[(14, .i j), (13, .i p.length), (12, AV.ints p), (9, .b false), (8, .p rb 0), (6, .p vb 0), (1, AV.things objs), (0, Wptr W)], .blk rb 97 [.i 0, .i 0] :: .blk vb 97 [AV.i cur.1, AV.i cur.2] :: H⟩ ∧ m = p.length - j ∧ j ≤ p.length ∧ valP cur objs.length = true ∧ atP W objs cur (p.drop j) = atP W objs v p) (⟨0, v, rfl, rfl, by omega, hv, rfl⟩) ?_
  rintro m _ ⟨j, cur, rfl, rfl, hj, hc, hat⟩
  refine CW.boundM (t := 12) rfl (fun hb => ?_)
  refine S2 ?_; refine Ocm ?_; refine S3 ?_
  refine CW.cond rfl (fun h0 => ?_) (fun h0 => ?_)
  ·
    replace h0 := nm h0
    have hjl : j < p.length := by omega
    have hsr := hp _ (getD_mem hjl)
    rw [List.drop_eq_getElem_cons hjl, ← getD_lt hjl, atP] at hat
    refine S6 ?_; refine Oix ?_; refine Old ?_; refine Oas ?_; refine S5 ?_; refine Ofa ?_; refine Old ?_; refine Ocm ?_; refine Omv ?_; refine Pmv ?_; refine Pmv ?_; refine Pfa ?_
    refine Pld ?_
    refine OL.guardC rfl rfl rfl rfl rfl rfl (fun hg => (by first | exact POp.ixM rfl rfl (gd hg) rfl (gd hg) (by have hk3 : cur.1 = 3 := (by simpa using hg); have := val_obj hc hk3; omega) | exact POp.ixI rfl rfl (gd hg) rfl (gd hg) (by have hk3 : cur.1 = 3 := (by simpa using hg); have := val_obj hc hk3; omega))) ?_
    refine Pfa ?_; refine Pld ?_; refine Pmv ?_
    refine OL.guardC rfl rfl rfl rfl rfl rfl (fun hg => POp.call (.mk' rfl rfl rfl rfl (by first | rfl | ((repeat (first | exact hg | rfl | refine Bool.and_eq_true_iff.2 ⟨?_, ?_⟩)); done) | simp_all [strip, constAV])) (p178 (W := W) (c := (clsAt objs cur)) h.w (by have hk3 : cur.1 = 3 := (by simpa using hg); have := cls_rng h hc hk3; omega) hsr)) ?_
    refine Pnt ?_; refine Opk ?_; refine S2 ?_
    refine CW.cond rfl (fun h1 => ?_) (fun h1 => ?_)
    ·
      have hno : okO W objs cur (p.getD j default) = false := by rw [okO]; by_cases hk3 : cur.1 = 3 <;> simp_all [clsAt]
      rw [if_neg (by rw [hno]; simp)] at hat
      refine S2 ?_; refine Obd ?_; refine Sto ?_; refine Oas ?_; refine S9 ?_
      refine Done.retR (rs := [.cell 8 97, .tmp 9]) (H' := H) rfl ((by first | exact .cellA inferInstance rfl (by repeat (first | exact .head _ | refine .tail _ ?_)) rfl rfl (.tmp rfl (.nil)) | exact .ptrA inferInstance rfl rfl (.tmp rfl (.nil)))) (AVleL.refl _) (by repeat (first | exact List.Sublist.refl _ | refine List.Sublist.cons _ ?_)) ?_
      exact ⟨by rw [← hat]; rfl, rfl⟩
    ·
      have hok : okO W objs cur (p.getD j default) = true := by rw [okO]; by_cases hk3 : cur.1 = 3 <;> simp_all [clsAt]
      rw [if_pos hok] at hat
      have hk3 : cur.1 = 3 := by rw [okO, Bool.and_eq_true, beq_iff_eq] at hok; exact hok.1
      have hvr := val_obj hc hk3
      have hcr := cls_rng h hc hk3
      have hix := step_idx h hc hsr hok
      refine S2 ?_
      refine CW.dp mixed ?_
      refine DP.anyC 0 16 54 rfl (by decide +kernel) rfl rfl (by decide +kernel) ?_
      refine Amv ?_; refine Afa ?_; refine Ald ?_; refine Aix ?_; refine Afa ?_; refine Ald ?_; refine Amv ?_; refine Amv ?_; refine Afa ?_; refine Ald ?_; refine Aix ?_; refine Afa ?_
      refine Ald ?_
      refine AD.popC rfl rfl rfl (POp.call (.mk' rfl rfl rfl rfl rfl) (p179 (c := (clsAt objs cur)) h.w (by omega))) ?_
      refine Amv ?_
      refine AD.popC rfl rfl rfl (POp.call (.mk' rfl rfl rfl rfl rfl) (p100 _ _)) ?_
      refine AD.nil ?_
      refine DP.tailC 16 (by decide +kernel) rfl ?_
      refine OL.popC rfl rfl rfl ((by first | exact POp.ixM rfl rfl rfl rfl rfl (by exact hix) | exact POp.ixI rfl rfl rfl rfl rfl (by exact hix))) ?_
      refine Ola ?_; refine Sto ?_; refine S4 ?_; refine Oar ?_; refine Omv ?_; refine S1 ?_
      exact ag (⟨j + 1, stepO W objs cur (p.getD j default), rfl, rfl, by omega, step_val h hc hsr hok, hat⟩)
  ·
    replace h0 := nm h0
    obtain rfl : j = p.length := by omega
    rw [List.drop_length, atP] at hat
    refine S7 ?_; refine Ola ?_; refine Sto ?_; refine Oas ?_; refine S3 ?_
    refine Done.retR (rs := [.cell 8 97, .tmp 9]) (H' := H) rfl ((by first | exact .cellA inferInstance rfl (by repeat (first | exact .head _ | refine .tail _ ?_)) rfl rfl (.tmp rfl (.nil)) | exact .ptrA inferInstance rfl rfl (.tmp rfl (.nil)))) (AVleL.refl _) (by repeat (first | exact List.Sublist.refl _ | refine List.Sublist.cons _ ?_)) ?_
    exact ⟨by rw [← hat]; rfl, rfl⟩
end Go.Proofs.YtiljpbljebfhnaaGreat

set_option linter.unusedVariables false
set_option linter.unusedSimpArgs false
set_option maxRecDepth 10000
namespace Go.Proofs.YtiljpbljebfhnaaGreat
open Go.Eng
open Go.Eng.Fc
theorem p73 {W : FW} {objs : List Th} (h : ObjsOk W objs) {v : Int × Int} (hv : valP v objs.length = true) {p : List Int} (hp : ∀ s ∈ p, 0 ≤ s ∧ s < W.owner.length) : PCall Tryz.prog 73 [AV.world W, AV.things objs, AV.vl v, AV.ints p] (.tup [AV.vl (atP W objs v p).1, .b (atP W objs v p).2]) := by
  intro H
  refine ACall.mk' (n := 67) Tryz.func73 rfl (by kernel_rfl) rfl rfl (fun B I w0 => ?_)
  refine S2 ?_; refine Obx ?_
  refine OL.boxC rfl rfl rfl rfl rfl rfl rfl (fun vb => ?_)
  refine OL.alC rfl rfl rfl rfl (fun rb => ?_)
  refine Oas ?_; refine S5 ?_; refine Omv ?_; refine Oln ?_; refine Omv ?_; refine S3 ?_
  refine lj (fun m st => ∃ (j : Nat) (cur : Int × Int), st = ⟨[(17, .i j), (16, .i p.length), (15, AV.ints p), (9, .b false), (8, .p rb 0), (6, .p vb 0), (4, .ptr (Wcells W)), (1, AV.things objs)], .blk rb 97 [.i 0, .i 0] :: .blk vb 97 [AV.i cur.1, AV.i cur.2] :: H⟩ ∧ m = p.length - j ∧ j ≤ p.length ∧ valP cur objs.length = true ∧ atP W objs cur (p.drop j) = atP W objs v p) (⟨0, v, rfl, rfl, by omega, hv, rfl⟩) ?_
  rintro m _ ⟨j, cur, rfl, rfl, hj, hc, hat⟩
  refine CW.boundM (t := 15) rfl (fun hb => ?_)
  refine S2 ?_; refine Ocm ?_; refine S3 ?_
  refine CW.cond rfl (fun h0 => ?_) (fun h0 => ?_)
  ·
    replace h0 := nm h0
    have hjl : j < p.length := by omega
    have hsr := hp _ (getD_mem hjl)
    rw [List.drop_eq_getElem_cons hjl, ← getD_lt hjl, atP] at hat
    refine S6 ?_; refine Oix ?_; refine Old ?_; refine Oas ?_; refine S4 ?_
    refine CW.dp mixed ?_
    refine DP.one (k := 0) (by decide +kernel) rfl ?_
    refine Ofa ?_
    refine OL.nil (Done.dp ?_)
    refine DP.one (k := 1) (by decide +kernel) rfl ?_
    refine Old ?_
    refine OL.nil (Done.dp ?_)
    refine DP.one (k := 2) (by decide +kernel) rfl ?_
    refine Ocm ?_
    refine OL.nil (Done.dp ?_)
    refine DP.one (k := 3) (by decide +kernel) rfl ?_
    refine Omv ?_
    refine OL.nil (Done.dp ?_)
    refine DP.anyC 4 12 67 rfl (by decide +kernel) rfl rfl (by decide +kernel) ?_
    refine AD.guardC rfl rfl rfl rfl rfl (fun hg => (by first | exact POp.ldA rfl rfl rfl rfl | (apply POp.ldAH rfl rfl rfl; (case hm => repeat (first | exact .head _ | refine .tail _ ?_)); (case hy => rfl); (case hn => rfl)))) ?_
    refine AD.guardC rfl rfl rfl rfl rfl (fun hg => POp.move rfl rfl rfl) ?_
    refine AD.guardC rfl rfl rfl rfl rfl (fun hg => (by first | exact POp.fa rfl rfl rfl rfl | exact POp.faP rfl rfl rfl rfl)) ?_
    refine AD.guardC rfl rfl rfl rfl rfl (fun hg => (by first | exact POp.ld1 rfl rfl (gd hg) rfl | (apply POp.ld1H rfl rfl (gd hg); (case hm => repeat (first | exact .head _ | refine .tail _ ?_)); (case hy => rfl)))) ?_
    refine AD.guardC rfl rfl rfl rfl rfl (fun hg => (by first | exact POp.ixM rfl rfl (gd hg) rfl (gd hg) (by have hk3 : cur.1 = 3 := (by simpa using hg); have := val_obj hc hk3; omega) | exact POp.ixI rfl rfl (gd hg) rfl (gd hg) (by have hk3 : cur.1 = 3 := (by simpa using hg); have := val_obj hc hk3; omega))) ?_
    refine AD.guardC rfl rfl rfl rfl rfl (fun hg => (by first | exact POp.fa rfl rfl (gd hg) rfl | exact POp.faP rfl rfl (gd hg) rfl)) ?_
    refine AD.guardC rfl rfl rfl rfl rfl (fun hg => (by first | exact POp.ld1 rfl rfl (gd hg) rfl | (apply POp.ld1H rfl rfl (gd hg); (case hm => repeat (first | exact .head _ | refine .tail _ ?_)); (case hy => rfl)))) ?_
    refine AD.guardC rfl rfl rfl rfl rfl (fun hg => POp.move rfl rfl rfl) ?_
    refine AD.nil ?_
    refine DP.tailC 12 (by decide +kernel) rfl ?_
    refine OL.guardC rfl rfl rfl rfl rfl rfl (fun hg => POp.call (.mk' rfl rfl rfl rfl (by first | rfl | ((repeat (first | exact hg | rfl | refine Bool.and_eq_true_iff.2 ⟨?_, ?_⟩)); done) | simp_all [strip, constAV])) (p128 (W := W) (c := (clsAt objs cur)) h.w (by have hk3 : cur.1 = 3 := (by simpa using hg); have := cls_rng h hc hk3; omega) hsr)) ?_
    refine Pnt ?_; refine Opk ?_; refine S2 ?_
    refine CW.cond rfl (fun h1 => ?_) (fun h1 => ?_)
    ·
      have hno : okO W objs cur (p.getD j default) = false := by rw [okO]; by_cases hk3 : cur.1 = 3 <;> simp_all [clsAt]
      rw [if_neg (by rw [hno]; simp)] at hat
      refine S2 ?_; refine Obd ?_; refine Sto ?_; refine Oas ?_; refine S9 ?_
      refine Done.retR (rs := [.cell 8 97, .tmp 9]) (H' := H) rfl ((by first | exact .cellA inferInstance rfl (by repeat (first | exact .head _ | refine .tail _ ?_)) rfl rfl (.tmp rfl (.nil)) | exact .ptrA inferInstance rfl rfl (.tmp rfl (.nil)))) (AVleL.refl _) (by repeat (first | exact List.Sublist.refl _ | refine List.Sublist.cons _ ?_)) ?_
      exact ⟨by rw [← hat]; rfl, rfl⟩
    ·
      have hok : okO W objs cur (p.getD j default) = true := by rw [okO]; by_cases hk3 : cur.1 = 3 <;> simp_all [clsAt]
      rw [if_pos hok] at hat
      have hk3 : cur.1 = 3 := by rw [okO, Bool.and_eq_true, beq_iff_eq] at hok; exact hok.1
      have hvr := val_obj hc hk3
      have hcr := cls_rng h hc hk3
      have hix := step_idx h hc hsr hok
      have hsm : p.getD j default ∈ (slotsOf W (clsAt objs cur)) := by rw [okO, Bool.and_eq_true] at hok; exact slots_mem.2 ⟨hsr, hok.2⟩
      have hol : (slotsOf W (clsAt objs cur)).length ≤ 40 := Nat.le_trans (List.length_filter_le _ _) (by rw [num_len]; exact (world_lens h.w).2)
      refine S3 ?_
      refine CW.dp mixed ?_
      refine DP.anyC 0 7 67 rfl (by decide +kernel) rfl rfl (by decide +kernel) ?_
      refine Ala ?_; refine Amv ?_; refine Afa ?_; refine Ald ?_; refine Aix ?_; refine Afa ?_; refine Ald ?_
      refine AD.nil ?_
      refine DP.tailC 7 (by decide +kernel) rfl ?_
      refine OL.popC rfl rfl rfl (POp.call (.mk' rfl rfl rfl rfl rfl) (p119 (c := (clsAt objs cur)) h.w (by omega))) ?_
      refine Oas ?_; refine S4 ?_; refine Omv ?_; refine Oln ?_; refine Omv ?_; refine S3 ?_
      refine lj (fun m st => ∃ k : Nat, st = ⟨[(47, .i k), (46, .i (slotsOf W (clsAt objs cur)).length), (45, AV.ints (slotsOf W (clsAt objs cur))), (11, .i (p.getD j default)), (17, .i j), (16, .i p.length), (15, AV.ints p), (9, .b false), (8, .p rb 0), (6, .p vb 0), (4, .ptr (Wcells W)), (1, AV.things objs)], .blk rb 97 [.i 0, .i 0] :: .blk vb 97 [AV.i cur.1, AV.i cur.2] :: H⟩ ∧ m = (slotsOf W (clsAt objs cur)).length - k ∧ k ≤ (slotsOf W (clsAt objs cur)).length ∧ ∀ x ∈ (slotsOf W (clsAt objs cur)).take k, x ≠ p.getD j default) (⟨0, rfl, rfl, by omega, by simp⟩) ?_
      rintro m _ ⟨k, rfl, rfl, hk, hne⟩
      refine S2 ?_; refine Ocm ?_; refine S3 ?_
      refine CW.cond rfl (fun h2 => ?_) (fun h2 => ?_)
      ·
        replace h2 := nm h2
        have hkl : k < (slotsOf W (clsAt objs cur)).length := by omega
        refine S6 ?_; refine Omv ?_; refine Oix ?_; refine Old ?_; refine Oas ?_; refine Oas ?_; refine S4 ?_; refine Omv ?_; refine Omv ?_; refine Ocm ?_; refine S2 ?_
        refine CW.cond rfl (fun h3 => ?_) (fun h3 => ?_)
        ·
          replace h3 := nm h3
          have hidx := idxP_at hkl hne h3.symm
          refine S2 ?_; refine Omv ?_; refine Ofa ?_; refine Old ?_; refine Oix ?_; refine Ofa ?_; refine Old ?_; refine Omv ?_
          refine OL.popC rfl rfl rfl ((by first | exact POp.ixM rfl rfl rfl rfl rfl (by rw [hidx]; exact hix) | exact POp.ixI rfl rfl rfl rfl rfl (by rw [hidx]; exact hix))) ?_
          refine Ola ?_; refine Sto ?_; refine S9 ?_
          rw [show ((objs.getD cur.2.toNat default).2.getD ((k : Int)).toNat default) = stepO W objs cur (p.getD j default) by rw [stepO, hidx]]
          refine S1 ?_; refine Oar ?_; refine Omv ?_; refine S1 ?_
          exact ag (⟨j + 1, stepO W objs cur (p.getD j default), rfl, rfl, by omega, step_val h hc hsr hok, hat⟩)
        ·
          replace h3 := nm h3
          have hne2 := ne_step hkl hne (Ne.symm h3)
          refine S4 ?_; refine Oar ?_; refine Omv ?_; refine S1 ?_
          exact ag (⟨k + 1, rfl, rfl, by omega, hne2⟩)
      ·
        exfalso
        simp only [decide_eq_false_iff_not] at h2
        obtain rfl : k = (slotsOf W (clsAt objs cur)).length := by omega
        rw [List.take_length] at hne
        exact hne _ hsm rfl
  ·
    replace h0 := nm h0
    obtain rfl : j = p.length := by omega
    rw [List.drop_length, atP] at hat
    refine S7 ?_; refine Ola ?_; refine Sto ?_; refine Oas ?_; refine S3 ?_
    refine Done.retR (rs := [.cell 8 97, .tmp 9]) (H' := H) rfl ((by first | exact .cellA inferInstance rfl (by repeat (first | exact .head _ | refine .tail _ ?_)) rfl rfl (.tmp rfl (.nil)) | exact .ptrA inferInstance rfl rfl (.tmp rfl (.nil)))) (AVleL.refl _) (by repeat (first | exact List.Sublist.refl _ | refine List.Sublist.cons _ ?_)) ?_
    exact ⟨by rw [← hat]; rfl, rfl⟩
end Go.Proofs.YtiljpbljebfhnaaGreat

set_option linter.unusedVariables false
set_option linter.unusedSimpArgs false
set_option maxRecDepth 10000
namespace Go.Proofs.YtiljpbljebfhnaaGreat
open Go.Eng
open Go.Eng.Fc
/-! ### objects and arguments as a model -/
def toVal (W : FW) (objs : List Th) (v : Int × Int) : Val := if v.1 = 1 then .int v.2 else if v.1 = 2 then .non else .obj fun c => upB W (clsAt objs v).toNat c
def VO (W : FW) (objs : List Th) (args : List (Int × Int)) : VM := fun a p =>
  if 0 ≤ a ∧ a < args.length then (if oldB W p = true then (if (atP W objs (args.getD a.toNat default) p).2 = true then some (toVal W objs (atP W objs (args.getD a.toNat default) p).1) else none) else none)
  else if 0 ≤ a ∧ a < 3 ∧ p = [] then some .non else none
theorem vo_leaf {W : FW} {objs : List Th} {args : List (Int × Int)} {f : Fact} (hf : nodeOkB W f = true) (hl : leafP f = true) (ha : f.arg < args.length) :
    VO W objs args f.arg f.path = if (atP W objs (args.getD f.arg.toNat default) f.path).2 = true then some (toVal W objs (atP W objs (args.getD f.arg.toNat default) f.path).1) else none := by
  have h0 : 0 ≤ f.arg := by
    simp only [nodeOkB, Bool.and_eq_true] at hf
    have h3 := hf.2
    rw [if_pos hl] at h3
    simp only [Bool.and_eq_true, argP, Bool.not_eq_true', Bool.or_eq_false_iff, decide_eq_false_iff_not] at h3
    omega
  rw [VO, if_pos ⟨h0, ha⟩, if_pos (leaf_old hf hl)]
theorem spkNs_le : ∀ (l : List Fact) (a : Int), a ≤ spkNs l a ∧ ∀ k ∈ l, spkN k ≤ spkNs l a
  | [], a => by rw [spkNs]; exact ⟨Int.le_refl _, fun k hk => by cases hk⟩
  | x :: r, a => by
    rw [spkNs]
    obtain ⟨h1, h2⟩ := spkNs_le r (if spkN x > a then spkN x else a)
    have hle : a ≤ if spkN x > a then spkN x else a := by split <;> omega
    have hlx : spkN x ≤ if spkN x > a then spkN x else a := by split <;> omega
    refine ⟨Int.le_trans hle h1, fun k hk => ?_⟩
    rcases List.mem_cons.1 hk with rfl | hk
    · exact Int.le_trans hlx h1
    · exact h2 k hk
theorem spk_kid {f k : Fact} (hk : k ∈ f.kids) : spkN k ≤ spkN f := by rw [spkN_eq f]; exact (spkNs_le _ _).2 k hk
theorem spk_leaf {f : Fact} (hl : leafP f = true) : f.arg + 1 ≤ spkN f := by
  have := (spkNs_le f.kids (if leafP f = true then f.arg + 1 else 0)).1
  rw [← spkN_eq, if_pos hl] at this; exact this
structure HOk (W : FW) (objs : List Th) (args : List (Int × Int)) : Prop where
  o : ObjsOk W objs
  a : ∀ v ∈ args, valP v objs.length = true
  n : 1 ≤ args.length ∧ args.length ≤ 3
theorem handed_ok {W : FW} (hw : worldP W = true) {objs : List Th} {args : List (Int × Int)} (h : handedP W objs args = true) : HOk W objs args := by
  simp only [handedP, argsP, Bool.and_eq_true, decide_eq_true_eq, List.all_eq_true] at h
  exact ⟨objs_ok hw h.1, h.2.2, by omega⟩
theorem leaf_cls {W : FW} {f : Fact} (hf : nodeOkB W f = true) (hl : leafP f = true) (h2 : f.op = 2) : classP W f.cls = true := by
  simp only [nodeOkB, Bool.and_eq_true] at hf
  have h3 := hf.2
  rw [if_pos hl, Bool.and_eq_true, leafOkP, if_pos h2, Bool.and_eq_true] at h3
  exact h3.2.2
theorem leaf_of {W : FW} {f : Fact} (hf : nodeOkB W f = true) (h1 : ¬ f.op = 1) (h5 : ¬ f.op = 5) (h6 : ¬ f.op = 6) (h7 : ¬ f.op = 7) : leafP f = true := by
  simp only [nodeOkB, Bool.and_eq_true, decide_eq_true_eq] at hf
  simp only [leafP, Bool.and_eq_true, decide_eq_true_eq]; omega
theorem kids2_of {W : FW} {f : Fact} (hf : nodeOkB W f = true) (h : f.op = 6 ∨ f.op = 7) : f.kids.length = 2 := by
  simp only [nodeOkB, Bool.and_eq_true, decide_eq_true_eq, beq_iff_eq] at hf
  have := hf.1.2
  rw [kidsP, if_neg (by omega), if_pos h] at this; omega
theorem kids1_of {W : FW} {f : Fact} (hf : nodeOkB W f = true) (h : f.op = 5) : f.kids.length = 1 := by
  simp only [nodeOkB, Bool.and_eq_true, decide_eq_true_eq, beq_iff_eq] at hf
  have := hf.1.2
  rw [kidsP, if_pos h] at this; omega
def leafH (W : FW) (objs : List Th) (f : Fact) (r : (Int × Int) × Bool) : Bool :=
  if f.op = 2 then r.2 && belowP W (if r.1.1 = 1 then 1 else if r.1.1 = 2 then 2 else clsAt objs r.1) f.cls
  else if f.op = 3 then r.2 && (r.1.1 == 1) && decide (r.1.2 < f.n) else r.2 && (r.1.1 == 1) && (r.1.2 == f.n)
theorem ev_leafH {W : FW} {objs : List Th} {args : List (Int × Int)} {f : Fact} (hw : worldP W = true) (hf : nodeOkB W f = true) (hl : leafP f = true) (ha : f.arg < args.length) :
    ev (VO W objs args) f = leafH W objs f (atP W objs (args.getD f.arg.toNat default) f.path) := by
  rw [ev_leaf hl, evL, vo_leaf hf hl ha]
  generalize atP W objs (args.getD f.arg.toNat default) f.path = r
  obtain ⟨v, b⟩ := r
  cases b with
  | false => unfold leafH; simp
  | true =>
    simp only [if_true]
    unfold leafH
    by_cases h2 : f.op = 2
    · rw [if_pos h2, valL_is h2]
      simp only [Bool.true_and]
      unfold toVal
      by_cases h1 : v.1 = 1
      · rw [if_pos h1, if_pos h1]
        show _ = upB W 1 _
        rw [upB_low (by omega)]; rfl
      · rw [if_neg h1, if_neg h1]
        by_cases h3 : v.1 = 2
        · rw [if_pos h3, if_pos h3]
          show _ = upB W 2 _
          rw [upB_low (by omega)]; rfl
        · rw [if_neg h3, if_neg h3]; rfl
    · rw [if_neg h2, valL_no h2]
      unfold toVal
      by_cases h1 : v.1 = 1
      · rw [if_pos h1]
        simp only [numV, h1]
        by_cases h3 : f.op = 3
        · rw [if_pos h3, if_pos h3]; simp
        · rw [if_neg h3, if_neg h3]; simp
      · rw [if_neg h1]
        have e : (v.1 == 1) = false := by simpa using h1
        simp only [e]
        by_cases h3 : v.1 = 2
        · rw [if_pos h3]; simp
        · rw [if_neg h3]; simp
theorem p121 {W : FW} {objs : List Th} (h : ObjsOk W objs) {v : Int × Int} (hv : valP v objs.length = true) : PCall Tryz.prog 121 [AV.things objs, AV.vl v] (.i (if v.1 = 1 then 1 else if v.1 = 2 then 2 else clsAt objs v)) := by
  intro H
  refine ACall.mk' (n := 17) Tryz.func121 rfl (by kernel_rfl) rfl rfl (fun B I w0 => ?_)
  refine S2 ?_; refine Obx ?_; refine Oas ?_; refine S5 ?_; refine Ofa ?_; refine Old ?_; refine S5 ?_; refine Ocm ?_; refine Oas ?_; refine S2 ?_
  refine CW.cond rfl (fun h0 => ?_) (fun h0 => ?_)
  ·
    replace h0 := nm h0
    refine S2 ?_; refine Oas ?_; refine S5 ?_
    refine r1 4 (H) ?_
    exact ⟨retI (by rw [if_pos h0]), rfl⟩
  ·
    replace h0 := nm h0
    refine S2 ?_; refine Ocm ?_; refine Oas ?_; refine S2 ?_
    refine CW.cond rfl (fun h1 => ?_) (fun h1 => ?_)
    ·
      replace h1 := nm h1
      refine S2 ?_; refine Oas ?_; refine S5 ?_
      refine r1 4 (H) ?_
      exact ⟨retI (by rw [if_neg h0, if_pos h1]), rfl⟩
    ·
      replace h1 := nm h1
      have hr := val_obj hv (by have := val_kind hv; omega)
      refine S5 ?_; refine Omv ?_; refine Ofa ?_; refine Old ?_; refine Oix ?_; refine Ofa ?_; refine Old ?_; refine Oas ?_; refine S3 ?_
      refine r1 4 (H) ?_
      exact ⟨retI (by rw [if_neg h0, if_neg h1]; rfl), rfl⟩
theorem num_alt {W : FW} {objs : List Th} {f : Fact} (hf : nodeOkB W f = true) (hl : leafP f = true) (h2 : ¬ f.op = 2) {r : (Int × Int) × Bool} (hb : r.2 = true) :
    (bif (bif r.1.1 == 1 then (r.1.2 == f.n) == (f.op == 4) else false) then decide (r.1.2 ≤ f.n) else false) = leafH W objs f r := by
  simp only [leafP, Bool.and_eq_true, decide_eq_true_eq] at hl
  rw [leafH, if_neg h2, hb]
  have h34 : f.op = 3 ∨ f.op = 4 := by omega
  rcases h34 with e | e
  · rw [if_pos e, e]
    cases hk : (r.1.1 == 1) with
    | false => rfl
    | true =>
      simp only [Bool.true_and, cond_true]
      by_cases hlt : r.1.2 < f.n
      · have h1 : (r.1.2 == f.n) = false := by simp; omega
        rw [h1, decide_eq_true hlt, decide_eq_true (Int.le_of_lt hlt)]; rfl
      · by_cases heq : r.1.2 = f.n
        · rw [heq]; simp
        · rw [decide_eq_false hlt, decide_eq_false (show ¬ r.1.2 ≤ f.n by omega)]; cases ((r.1.2 == f.n) == ((3 : Int) == 4)) <;> rfl
  · rw [if_neg (by omega), e]
    cases hk : (r.1.1 == 1) with
    | false => rfl
    | true =>
      simp only [Bool.true_and, cond_true]
      by_cases heq : r.1.2 = f.n
      · rw [heq]; simp
      · have h1 : (r.1.2 == f.n) = false := by simpa using heq
        rw [h1]; rfl
theorem p124_step {W : FW} {objs : List Th} {args : List (Int × Int)} (h : HOk W objs args) (f : Fact) (hw : wfB W f = true) (hs : spkN f ≤ args.length) (ih : ∀ k ∈ f.kids, PCall Tryz.prog 124 [Wptr W, AV.fact k, AV.things objs, AV.vals args] (.b (ev (VO W objs args) k))) : PCall Tryz.prog 124 [Wptr W, AV.fact f, AV.things objs, AV.vals args] (.b (ev (VO W objs args) f)) := by
  intro H
  refine ACall.mk' (n := 135) Tryz.func124 rfl (by kernel_rfl) rfl rfl (fun B I w0 => ?_)
  have hf := (wfB_iff.1 hw).1
  refine S2 ?_; refine Obx ?_; refine Oas ?_; refine S5 ?_; refine Ofa ?_; refine Old ?_; refine S5 ?_; refine Ocm ?_; refine Oas ?_; refine S2 ?_
  refine CW.cond rfl (fun h0 => ?_) (fun h0 => ?_)
  ·
    replace h0 := nm h0
    refine S2 ?_; refine Oas ?_; refine S5 ?_
    refine r1 8 (H) ?_
    exact ⟨retB (by rw [ev_true h0]), rfl⟩
  ·
    replace h0 := nm h0
    refine S2 ?_; refine Ocm ?_; refine Oas ?_; refine S2 ?_
    refine CW.cond rfl (fun h1 => ?_) (fun h1 => ?_)
    ·
      replace h1 := nm h1
      have hk := kids1_of hf h1
      refine S2 ?_; refine Omv ?_; refine Ofa ?_; refine Old ?_
      refine OL.popC rfl rfl rfl ((by first | exact POp.ixM rfl rfl rfl rfl rfl (by simp; omega) | exact POp.ixI rfl rfl rfl rfl rfl (by simp; omega))) ?_
      refine Ola ?_; refine Omv ?_; refine Omv ?_
      refine OL.popC rfl rfl rfl (POp.call (.mk' rfl rfl rfl rfl rfl) (ih (f.kids.getD 0 default) (getD_mem (by omega)))) ?_
      refine Ont ?_; refine Oas ?_; refine S5 ?_
      refine r1 8 (H) ?_
      exact ⟨retB (by rw [ev_not h1 (by omega)]), rfl⟩
    ·
      replace h1 := nm h1
      refine S2 ?_; refine Ocm ?_; refine Oas ?_; refine S2 ?_
      refine CW.cond rfl (fun h2 => ?_) (fun h2 => ?_)
      ·
        replace h2 := nm h2
        have hk := kids2_of hf (.inl h2)
        refine S2 ?_; refine Omv ?_; refine Ofa ?_; refine Old ?_
        refine OL.popC rfl rfl rfl ((by first | exact POp.ixM rfl rfl rfl rfl rfl (by simp; omega) | exact POp.ixI rfl rfl rfl rfl rfl (by simp; omega))) ?_
        refine Ola ?_; refine Omv ?_; refine Omv ?_
        refine OL.popC rfl rfl rfl (POp.call (.mk' rfl rfl rfl rfl rfl) (ih (f.kids.getD 0 default) (getD_mem (by omega)))) ?_
        refine Omv ?_; refine Pmv ?_; refine Pfa ?_; refine Pld ?_
        refine OL.guardC rfl rfl rfl rfl rfl rfl (fun hg => (by first | exact POp.ixM rfl rfl (gd hg) rfl rfl (by simp; omega) | exact POp.ixI rfl rfl (gd hg) rfl rfl (by simp; omega))) ?_
        refine Pla ?_; refine Pmv ?_; refine Pmv ?_
        refine OL.guardC rfl rfl rfl rfl rfl rfl (fun hg => POp.call (.mk' rfl rfl rfl rfl (by first | rfl | ((repeat (first | exact hg | rfl | refine Bool.and_eq_true_iff.2 ⟨?_, ?_⟩)); done) | simp_all [strip, constAV])) (ih (f.kids.getD 1 default) (getD_mem (by omega)))) ?_
        refine Opk ?_; refine Oas ?_; refine S5 ?_
        refine r1 8 (H) ?_
        exact ⟨retB (by rw [ev_and h2 (by omega)]; simp), rfl⟩
      ·
        replace h2 := nm h2
        refine S2 ?_; refine Ocm ?_; refine Oas ?_; refine S2 ?_
        refine CW.cond rfl (fun h3 => ?_) (fun h3 => ?_)
        ·
          replace h3 := nm h3
          have hk := kids2_of hf (.inr h3)
          refine S2 ?_; refine Omv ?_; refine Ofa ?_; refine Old ?_
          refine OL.popC rfl rfl rfl ((by first | exact POp.ixM rfl rfl rfl rfl rfl (by simp; omega) | exact POp.ixI rfl rfl rfl rfl rfl (by simp; omega))) ?_
          refine Ola ?_; refine Omv ?_; refine Omv ?_
          refine OL.popC rfl rfl rfl (POp.call (.mk' rfl rfl rfl rfl rfl) (ih (f.kids.getD 0 default) (getD_mem (by omega)))) ?_
          refine Omv ?_; refine Pmv ?_; refine Pfa ?_; refine Pld ?_
          refine OL.guardC rfl rfl rfl rfl rfl rfl (fun hg => (by first | exact POp.ixM rfl rfl (gd hg) rfl rfl (by simp; omega) | exact POp.ixI rfl rfl (gd hg) rfl rfl (by simp; omega))) ?_
          refine Pla ?_; refine Pmv ?_; refine Pmv ?_
          refine OL.guardC rfl rfl rfl rfl rfl rfl (fun hg => POp.call (.mk' rfl rfl rfl rfl (by first | rfl | ((repeat (first | exact hg | rfl | refine Bool.and_eq_true_iff.2 ⟨?_, ?_⟩)); done) | simp_all [strip, constAV])) (ih (f.kids.getD 1 default) (getD_mem (by omega)))) ?_
          refine Opk ?_; refine Oas ?_; refine S5 ?_
          refine r1 8 (H) ?_
          exact ⟨retB (by rw [ev_or h3 (by omega)]; simp), rfl⟩
        ·
          replace h3 := nm h3
          have hl := leaf_of hf h0 h1 h2 h3
          have har := leaf_arg hw hl
          have hsl := spk_leaf hl
          have hpr : ∀ s ∈ f.path, 0 ≤ s ∧ s < W.owner.length := fun s hs => by have := List.all_eq_true.1 (leaf_old hf hl) s hs; simpa using this
          have hav := h.a _ (getD_mem (l := args) (k := f.arg.toNat) (by omega))
          have hrv := at_val h.o f.path _ hav hpr
          have hev := ev_leafH (objs := objs) (args := args) h.o.w hf hl (by omega)
          generalize hr : atP W objs (args.getD f.arg.toNat default) f.path = r at hev hrv
          refine S4 ?_
          refine CW.dp mixed ?_
          refine DP.anyAC (fun sj b => match sj with | 0 => .blk b 97 [.i 0, .i 0] :: H | _ => .blk b 97 [AV.i r.1.1, AV.i r.1.2] :: H) 9 [13, 14] 1 0 15 135 rfl (by decide +kernel) rfl rfl rfl rfl (by decide +kernel) ?_
          refine TD.popA (by decide +kernel) rfl rfl rfl rfl (fun _ => POp.move rfl rfl rfl) ?_
          refine TD.popA (by decide +kernel) rfl rfl rfl rfl (fun _ => POp.move rfl rfl rfl) ?_
          refine TD.popA (by decide +kernel) rfl rfl rfl rfl (fun _ => POp.move rfl rfl rfl) ?_
          refine TD.popA (by decide +kernel) rfl rfl rfl rfl (fun _ => (by first | exact POp.fa rfl rfl rfl rfl | exact POp.faP rfl rfl rfl rfl)) ?_
          refine TD.popA (by decide +kernel) rfl rfl rfl rfl (fun _ => (by first | exact POp.ld1 rfl rfl rfl rfl | (apply POp.ld1H rfl rfl rfl; (case hm => repeat (first | exact .head _ | refine .tail _ ?_)); (case hy => rfl)))) ?_
          refine TD.popA (by decide +kernel) rfl rfl rfl rfl (fun _ => (by first | exact POp.ixM rfl rfl rfl rfl rfl (by omega) | exact POp.ixI rfl rfl rfl rfl rfl (by omega))) ?_
          refine TD.popA (by decide +kernel) rfl rfl rfl rfl (fun _ => (by first | exact POp.ldA rfl rfl rfl rfl | (apply POp.ldAH rfl rfl rfl; (case hm => repeat (first | exact .head _ | refine .tail _ ?_)); (case hy => rfl); (case hn => rfl)))) ?_
          refine TD.popA (by decide +kernel) rfl rfl rfl rfl (fun _ => (by first | exact POp.fa rfl rfl rfl rfl | exact POp.faP rfl rfl rfl rfl)) ?_
          refine TD.popA (by decide +kernel) rfl rfl rfl rfl (fun _ => (by first | exact POp.ld1 rfl rfl rfl rfl | (apply POp.ld1H rfl rfl rfl; (case hm => repeat (first | exact .head _ | refine .tail _ ?_)); (case hy => rfl)))) ?_
          refine TD.popA (by decide +kernel) rfl rfl rfl rfl (fun _ => POp.call (.mk' rfl rfl rfl rfl rfl) ((by have := p127 (W := W) h.o hav hpr; rw [hr] at this; exact this))) ?_
          refine TD.popA (by decide +kernel) rfl rfl rfl rfl (fun _ => POp.move rfl rfl rfl) ?_
          refine TD.popA (by decide +kernel) rfl rfl rfl rfl (fun _ => POp.extract rfl rfl rfl rfl) ?_
          refine TD.popA (by decide +kernel) rfl rfl rfl rfl (fun _ => POp.extract rfl rfl rfl rfl) ?_
          refine TD.effA (by decide +kernel) (by decide +kernel) rfl rfl rfl rfl (fun _ => rfl) ?_
          refine TD.stoA 0 (by decide +kernel) (by decide +kernel) (by decide +kernel) rfl rfl (fun b => .store rfl rfl rfl rfl rfl rfl rfl rfl (by repeat (first | exact Upd.head _ _ _ | apply Upd.tail)) (by exact rfl) (by exact rfl)) ?_
          refine TD.nil (fun vb => ?_)
          refine DP.tailC 15 (by decide +kernel) rfl ?_
          refine Oas ?_; refine S5 ?_
          refine CW.freezeP (d := 9) rfl (by repeat (first | exact Del.head _ _ | apply Del.tail)) ?_
          refine S1 ?_; refine Omv ?_; refine Ont ?_; refine Oas ?_; refine S2 ?_
          refine CW.cond rfl (fun h4 => ?_) (fun h4 => ?_)
          ·
            have hb : r.2 = false := by simpa using h4
            refine S2 ?_; refine Oas ?_; refine S5 ?_
            refine r1 8 (H) ?_
            exact ⟨retB (by rw [hev, leafH, hb]; simp), rfl⟩
          ·
            have hb : r.2 = true := by simpa using h4
            have hrv := hrv hb
            refine S2 ?_; refine Ofa ?_; refine Old ?_; refine Ocm ?_; refine Oas ?_; refine S2 ?_
            refine CW.cond rfl (fun h5 => ?_) (fun h5 => ?_)
            ·
              replace h5 := nm h5
              refine S2 ?_; refine Ofa ?_; refine Old ?_; refine Ocm ?_; refine Omv ?_; refine Pfa ?_; refine Pld ?_; refine Pfa ?_; refine Pld ?_; refine Pcm ?_; refine Pfa ?_; refine Pld ?_
              refine Pcm ?_; refine Peb ?_; refine Opk ?_; refine Omv ?_; refine Pfa ?_; refine Pld ?_; refine Pfa ?_; refine Pld ?_; refine Pcm ?_; refine Opk ?_; refine Oas ?_; refine S5 ?_
              refine r1 8 (H) ?_
              exact ⟨retB (by rw [hev]; exact num_alt hf hl h5 hb), rfl⟩
            ·
              replace h5 := nm h5
              have hcl := leaf_cls hf hl h5
              have hkd := val_kind hrv
              have hP := world_len h.o.w
              simp only [classP, Bool.and_eq_true, decide_eq_true_eq] at hcl
              refine S2 ?_; refine Ofa ?_; refine Old ?_; refine Ocm ?_; refine Oas ?_; refine S2 ?_
              refine CW.cond rfl (fun h6 => ?_) (fun h6 => ?_)
              ·
                replace h6 := nm h6
                have hro := val_obj hrv h6
                have hcr := cls_rng h.o hrv h6
                have hcr2 := hcr
                unfold clsAt at hcr2
                refine S1 ?_
                refine CW.dp mixed ?_
                refine DP.anyC 0 13 135 rfl (by decide +kernel) rfl rfl (by decide +kernel) ?_
                refine Amv ?_; refine Amv ?_; refine Afa ?_; refine Ald ?_; refine Aix ?_; refine Afa ?_; refine Ald ?_; refine Anc ?_; refine Afa ?_; refine Aia ?_
                refine AD.popC rfl rfl rfl (POp.ld1 rfl rfl rfl (up_drop (c := (clsAt objs r.1).toNat) (by simp [clsAt]) (by rw [ups_len]; omega))) ?_
                refine Afa ?_; refine Ald ?_
                refine AD.nil ?_
                refine DP.tailC 13 (by decide +kernel) rfl ?_
                refine OL.popC rfl rfl rfl (POp.call (.mk' rfl rfl rfl rfl rfl) (p107 _ _ (by omega) (u_get (ups_lt hP) _))) ?_
                refine Oas ?_; refine S5 ?_
                refine r1 8 (H) ?_
                exact ⟨retB (by rw [hev, leafH, if_pos h5, hb, if_neg (by omega), if_neg (by omega)]; rfl), rfl⟩
              ·
                replace h6 := nm h6
                refine S4 ?_
                refine CW.dp mixed ?_
                refine DP.anyC 0 9 135 rfl (by decide +kernel) rfl rfl (by decide +kernel) ?_
                refine Amv ?_; refine Afa ?_; refine Ald ?_; refine Anc ?_; refine Afa ?_; refine Aia ?_
                refine AD.popC rfl rfl rfl (POp.ld1 rfl rfl rfl (up_drop (c := r.1.1.toNat) (by simp) (by rw [ups_len]; omega))) ?_
                refine Afa ?_; refine Ald ?_
                refine AD.nil ?_
                refine DP.tailC 9 (by decide +kernel) rfl ?_
                refine OL.popC rfl rfl rfl (POp.call (.mk' rfl rfl rfl rfl rfl) (p107 _ _ (by omega) (u_get (ups_lt hP) _))) ?_
                refine Oas ?_; refine S3 ?_
                refine r1 8 (H) ?_
                exact ⟨retB (by rw [hev, leafH, if_pos h5, hb]; rcases hkd with e | e | e; rw [if_pos e, e]; rfl; rw [if_neg (by omega), if_pos e, e]; rfl; exact absurd e h6), rfl⟩
end Go.Proofs.YtiljpbljebfhnaaGreat

set_option linter.unusedVariables false
set_option linter.unusedSimpArgs false
set_option maxRecDepth 10000
namespace Go.Proofs.YtiljpbljebfhnaaGreat
open Go.Eng
open Go.Eng.Fc
theorem p66_step {W : FW} {objs : List Th} {args : List (Int × Int)} (h : HOk W objs args) (f : Fact) (hw : wfB W f = true) (hs : spkN f ≤ args.length) (ih : ∀ k ∈ f.kids, PCall Tryz.prog 66 [AV.world W, AV.fact k, AV.things objs, AV.vals args] (.b (ev (VO W objs args) k))) : PCall Tryz.prog 66 [AV.world W, AV.fact f, AV.things objs, AV.vals args] (.b (ev (VO W objs args) f)) := by
  intro H
  refine ACall.mk' (n := 121) Tryz.func66 rfl (by kernel_rfl) rfl rfl (fun B I w0 => ?_)
  have hf := (wfB_iff.1 hw).1
  refine S2 ?_; refine Obx ?_; refine Obx ?_; refine Oas ?_; refine S5 ?_; refine Ofa ?_; refine Old ?_; refine S5 ?_; refine Ocm ?_; refine Oas ?_; refine S2 ?_
  refine CW.cond rfl (fun h0 => ?_) (fun h0 => ?_)
  ·
    replace h0 := nm h0
    refine S2 ?_; refine Oas ?_; refine S5 ?_
    refine r1 8 (H) ?_
    exact ⟨retB (by rw [ev_true h0]), rfl⟩
  ·
    replace h0 := nm h0
    refine S2 ?_; refine Ocm ?_; refine Oas ?_; refine S2 ?_
    refine CW.cond rfl (fun h1 => ?_) (fun h1 => ?_)
    ·
      replace h1 := nm h1
      have hk := kids1_of hf h1
      refine S1 ?_
      refine CW.dp mixed ?_
      refine DP.anyC 0 7 121 rfl (by decide +kernel) rfl rfl (by decide +kernel) ?_
      refine Ala ?_; refine Afa ?_; refine Ald ?_
      refine AD.popC rfl rfl rfl ((by first | exact POp.ixM rfl rfl rfl rfl rfl (by simp; omega) | exact POp.ixI rfl rfl rfl rfl rfl (by simp; omega))) ?_
      refine Ala ?_; refine Amv ?_; refine Amv ?_
      refine AD.nil ?_
      refine DP.tailC 7 (by decide +kernel) rfl ?_
      refine OL.popC rfl rfl rfl (POp.call (.mk' rfl rfl rfl rfl rfl) (ih (f.kids.getD 0 default) (getD_mem (by omega)))) ?_
      refine Ont ?_; refine Oas ?_; refine S5 ?_
      refine r1 8 (H) ?_
      exact ⟨retB (by rw [ev_not h1 (by omega)]), rfl⟩
    ·
      replace h1 := nm h1
      refine S2 ?_; refine Ocm ?_; refine Oas ?_; refine S2 ?_
      refine CW.cond rfl (fun h2 => ?_) (fun h2 => ?_)
      ·
        replace h2 := nm h2
        have hk := kids2_of hf (.inl h2)
        refine S1 ?_
        refine CW.dp mixed ?_
        refine DP.anyC 0 7 121 rfl (by decide +kernel) rfl rfl (by decide +kernel) ?_
        refine Ala ?_; refine Afa ?_; refine Ald ?_
        refine AD.popC rfl rfl rfl ((by first | exact POp.ixM rfl rfl rfl rfl rfl (by simp; omega) | exact POp.ixI rfl rfl rfl rfl rfl (by simp; omega))) ?_
        refine Ala ?_; refine Amv ?_; refine Amv ?_
        refine AD.nil ?_
        refine DP.one (k := 7) (by decide +kernel) rfl ?_
        refine OL.popC rfl rfl rfl (POp.call (.mk' rfl rfl rfl rfl rfl) (ih (f.kids.getD 0 default) (getD_mem (by omega)))) ?_
        refine OL.nil (Done.dp ?_)
        refine DP.one (k := 8) (by decide +kernel) rfl ?_
        refine Omv ?_
        refine OL.nil (Done.dp ?_)
        refine DP.anyC 9 16 121 rfl (by decide +kernel) rfl rfl (by decide +kernel) ?_
        refine AD.guardC rfl rfl rfl rfl rfl (fun hg => (by first | exact POp.ldA rfl rfl rfl rfl | (apply POp.ldAH rfl rfl rfl; (case hm => repeat (first | exact .head _ | refine .tail _ ?_)); (case hy => rfl); (case hn => rfl)))) ?_
        refine AD.guardC rfl rfl rfl rfl rfl (fun hg => (by first | exact POp.fa rfl rfl rfl rfl | exact POp.faP rfl rfl rfl rfl)) ?_
        refine AD.guardC rfl rfl rfl rfl rfl (fun hg => (by first | exact POp.ld1 rfl rfl (gd hg) rfl | (apply POp.ld1H rfl rfl (gd hg); (case hm => repeat (first | exact .head _ | refine .tail _ ?_)); (case hy => rfl)))) ?_
        refine AD.guardC rfl rfl rfl rfl rfl (fun hg => (by first | exact POp.ixM rfl rfl (gd hg) rfl rfl (by simp; omega) | exact POp.ixI rfl rfl (gd hg) rfl rfl (by simp; omega))) ?_
        refine AD.guardC rfl rfl rfl rfl rfl (fun hg => (by first | exact POp.ldA rfl rfl (gd hg) rfl | (apply POp.ldAH rfl rfl (gd hg); (case hm => repeat (first | exact .head _ | refine .tail _ ?_)); (case hy => rfl); (case hn => rfl)))) ?_
        refine AD.guardC rfl rfl rfl rfl rfl (fun hg => POp.move rfl rfl rfl) ?_
        refine AD.guardC rfl rfl rfl rfl rfl (fun hg => POp.move rfl rfl rfl) ?_
        refine AD.nil ?_
        refine DP.tailC 16 (by decide +kernel) rfl ?_
        refine OL.guardC rfl rfl rfl rfl rfl rfl (fun hg => POp.call (.mk' rfl rfl rfl rfl (by first | rfl | ((repeat (first | exact hg | rfl | refine Bool.and_eq_true_iff.2 ⟨?_, ?_⟩)); done) | simp_all [strip, constAV])) (ih (f.kids.getD 1 default) (getD_mem (by omega)))) ?_
        refine Opk ?_; refine Oas ?_; refine S5 ?_
        refine r1 8 (H) ?_
        exact ⟨retB (by rw [ev_and h2 (by omega)]; simp), rfl⟩
      ·
        replace h2 := nm h2
        refine S2 ?_; refine Ocm ?_; refine Oas ?_; refine S2 ?_
        refine CW.cond rfl (fun h3 => ?_) (fun h3 => ?_)
        ·
          replace h3 := nm h3
          have hk := kids2_of hf (.inr h3)
          refine S1 ?_
          refine CW.dp mixed ?_
          refine DP.anyC 0 7 121 rfl (by decide +kernel) rfl rfl (by decide +kernel) ?_
          refine Ala ?_; refine Afa ?_; refine Ald ?_
          refine AD.popC rfl rfl rfl ((by first | exact POp.ixM rfl rfl rfl rfl rfl (by simp; omega) | exact POp.ixI rfl rfl rfl rfl rfl (by simp; omega))) ?_
          refine Ala ?_; refine Amv ?_; refine Amv ?_
          refine AD.nil ?_
          refine DP.one (k := 7) (by decide +kernel) rfl ?_
          refine OL.popC rfl rfl rfl (POp.call (.mk' rfl rfl rfl rfl rfl) (ih (f.kids.getD 0 default) (getD_mem (by omega)))) ?_
          refine OL.nil (Done.dp ?_)
          refine DP.one (k := 8) (by decide +kernel) rfl ?_
          refine Omv ?_
          refine OL.nil (Done.dp ?_)
          refine DP.anyC 9 16 121 rfl (by decide +kernel) rfl rfl (by decide +kernel) ?_
          refine AD.guardC rfl rfl rfl rfl rfl (fun hg => (by first | exact POp.ldA rfl rfl rfl rfl | (apply POp.ldAH rfl rfl rfl; (case hm => repeat (first | exact .head _ | refine .tail _ ?_)); (case hy => rfl); (case hn => rfl)))) ?_
          refine AD.guardC rfl rfl rfl rfl rfl (fun hg => (by first | exact POp.fa rfl rfl rfl rfl | exact POp.faP rfl rfl rfl rfl)) ?_
          refine AD.guardC rfl rfl rfl rfl rfl (fun hg => (by first | exact POp.ld1 rfl rfl (gd hg) rfl | (apply POp.ld1H rfl rfl (gd hg); (case hm => repeat (first | exact .head _ | refine .tail _ ?_)); (case hy => rfl)))) ?_
          refine AD.guardC rfl rfl rfl rfl rfl (fun hg => (by first | exact POp.ixM rfl rfl (gd hg) rfl rfl (by simp; omega) | exact POp.ixI rfl rfl (gd hg) rfl rfl (by simp; omega))) ?_
          refine AD.guardC rfl rfl rfl rfl rfl (fun hg => (by first | exact POp.ldA rfl rfl (gd hg) rfl | (apply POp.ldAH rfl rfl (gd hg); (case hm => repeat (first | exact .head _ | refine .tail _ ?_)); (case hy => rfl); (case hn => rfl)))) ?_
          refine AD.guardC rfl rfl rfl rfl rfl (fun hg => POp.move rfl rfl rfl) ?_
          refine AD.guardC rfl rfl rfl rfl rfl (fun hg => POp.move rfl rfl rfl) ?_
          refine AD.nil ?_
          refine DP.tailC 16 (by decide +kernel) rfl ?_
          refine OL.guardC rfl rfl rfl rfl rfl rfl (fun hg => POp.call (.mk' rfl rfl rfl rfl (by first | rfl | ((repeat (first | exact hg | rfl | refine Bool.and_eq_true_iff.2 ⟨?_, ?_⟩)); done) | simp_all [strip, constAV])) (ih (f.kids.getD 1 default) (getD_mem (by omega)))) ?_
          refine Opk ?_; refine Oas ?_; refine S5 ?_
          refine r1 8 (H) ?_
          exact ⟨retB (by rw [ev_or h3 (by omega)]; simp), rfl⟩
        ·
          replace h3 := nm h3
          have hl := leaf_of hf h0 h1 h2 h3
          have har := leaf_arg hw hl
          have hsl := spk_leaf hl
          have hpr : ∀ s ∈ f.path, 0 ≤ s ∧ s < W.owner.length := fun s hs => by have := List.all_eq_true.1 (leaf_old hf hl) s hs; simpa using this
          have hav := h.a _ (getD_mem (l := args) (k := f.arg.toNat) (by omega))
          have hrv := at_val h.o f.path _ hav hpr
          have hev := ev_leafH (objs := objs) (args := args) h.o.w hf hl (by omega)
          generalize hr : atP W objs (args.getD f.arg.toNat default) f.path = r at hev hrv
          refine S4 ?_
          refine CW.dp mixed ?_
          refine DP.anyAC (fun sj b => match sj with | 0 => .blk b 97 [.i 0, .i 0] :: H | _ => .blk b 97 [AV.i r.1.1, AV.i r.1.2] :: H) 9 [13, 14] 1 0 15 121 rfl (by decide +kernel) rfl rfl rfl rfl (by decide +kernel) ?_
          refine TD.popA (by decide +kernel) rfl rfl rfl rfl (fun _ => (by first | exact POp.ldA rfl rfl rfl rfl | (apply POp.ldAH rfl rfl rfl; (case hm => repeat (first | exact .head _ | refine .tail _ ?_)); (case hy => rfl); (case hn => rfl)))) ?_
          refine TD.popA (by decide +kernel) rfl rfl rfl rfl (fun _ => POp.move rfl rfl rfl) ?_
          refine TD.popA (by decide +kernel) rfl rfl rfl rfl (fun _ => POp.move rfl rfl rfl) ?_
          refine TD.popA (by decide +kernel) rfl rfl rfl rfl (fun _ => (by first | exact POp.fa rfl rfl rfl rfl | exact POp.faP rfl rfl rfl rfl)) ?_
          refine TD.popA (by decide +kernel) rfl rfl rfl rfl (fun _ => (by first | exact POp.ld1 rfl rfl rfl rfl | (apply POp.ld1H rfl rfl rfl; (case hm => repeat (first | exact .head _ | refine .tail _ ?_)); (case hy => rfl)))) ?_
          refine TD.popA (by decide +kernel) rfl rfl rfl rfl (fun _ => (by first | exact POp.ixM rfl rfl rfl rfl rfl (by omega) | exact POp.ixI rfl rfl rfl rfl rfl (by omega))) ?_
          refine TD.popA (by decide +kernel) rfl rfl rfl rfl (fun _ => (by first | exact POp.ldA rfl rfl rfl rfl | (apply POp.ldAH rfl rfl rfl; (case hm => repeat (first | exact .head _ | refine .tail _ ?_)); (case hy => rfl); (case hn => rfl)))) ?_
          refine TD.popA (by decide +kernel) rfl rfl rfl rfl (fun _ => (by first | exact POp.fa rfl rfl rfl rfl | exact POp.faP rfl rfl rfl rfl)) ?_
          refine TD.popA (by decide +kernel) rfl rfl rfl rfl (fun _ => (by first | exact POp.ld1 rfl rfl rfl rfl | (apply POp.ld1H rfl rfl rfl; (case hm => repeat (first | exact .head _ | refine .tail _ ?_)); (case hy => rfl)))) ?_
          refine TD.popA (by decide +kernel) rfl rfl rfl rfl (fun _ => POp.call (.mk' rfl rfl rfl rfl rfl) ((by have := p73 (W := W) h.o hav hpr; rw [hr] at this; exact this))) ?_
          refine TD.popA (by decide +kernel) rfl rfl rfl rfl (fun _ => POp.move rfl rfl rfl) ?_
          refine TD.popA (by decide +kernel) rfl rfl rfl rfl (fun _ => POp.extract rfl rfl rfl rfl) ?_
          refine TD.popA (by decide +kernel) rfl rfl rfl rfl (fun _ => POp.extract rfl rfl rfl rfl) ?_
          refine TD.effA (by decide +kernel) (by decide +kernel) rfl rfl rfl rfl (fun _ => rfl) ?_
          refine TD.stoA 0 (by decide +kernel) (by decide +kernel) (by decide +kernel) rfl rfl (fun b => .store rfl rfl rfl rfl rfl rfl rfl rfl (by repeat (first | exact Upd.head _ _ _ | apply Upd.tail)) (by exact rfl) (by exact rfl)) ?_
          refine TD.nil (fun vb => ?_)
          refine DP.tailC 15 (by decide +kernel) rfl ?_
          refine Oas ?_; refine S4 ?_
          refine CW.freezeP (d := 9) rfl (by repeat (first | exact Del.head _ _ | apply Del.tail)) ?_
          refine S1 ?_; refine Ofa ?_; refine Old ?_; refine S5 ?_; refine Ocm ?_; refine Oas ?_; refine S2 ?_
          refine CW.cond rfl (fun h4 => ?_) (fun h4 => ?_)
          ·
            replace h4 := nm h4
            have hcl := leaf_cls hf hl h4
            have hkd : r.2 = true → classP W (if r.1.1 = 1 then 1 else if r.1.1 = 2 then 2 else clsAt objs r.1) = true := fun hb => by
              have hrv := hrv hb
              rcases val_kind hrv with e | e | e
              · rw [if_pos e, classP, Bool.and_eq_true, decide_eq_true_eq, decide_eq_true_eq]; omega
              · rw [if_neg (by omega), if_pos e, classP, Bool.and_eq_true, decide_eq_true_eq, decide_eq_true_eq]; omega
              · have := cls_rng h.o hrv e
                rw [if_neg (by omega), if_neg (by omega), classP, Bool.and_eq_true, decide_eq_true_eq, decide_eq_true_eq]; omega
            refine S1 ?_
            refine CW.dp mixed ?_
            refine DP.one (k := 0) (by decide +kernel) rfl ?_
            refine Omv ?_
            refine OL.nil (Done.dp ?_)
            refine DP.one (k := 1) (by decide +kernel) rfl ?_
            refine Omv ?_
            refine OL.nil (Done.dp ?_)
            refine DP.anyC 2 8 121 rfl (by decide +kernel) rfl rfl (by decide +kernel) ?_
            refine AD.guardC rfl rfl rfl rfl rfl (fun hg => (by first | exact POp.ldA rfl rfl rfl rfl | (apply POp.ldAH rfl rfl rfl; (case hm => repeat (first | exact .head _ | refine .tail _ ?_)); (case hy => rfl); (case hn => rfl)))) ?_
            refine AD.guardC rfl rfl rfl rfl rfl (fun hg => POp.move rfl rfl rfl) ?_
            refine AD.guardC rfl rfl rfl rfl rfl (fun hg => (by first | exact POp.ldA rfl rfl rfl rfl | (apply POp.ldAH rfl rfl rfl; (case hm => repeat (first | exact .head _ | refine .tail _ ?_)); (case hy => rfl); (case hn => rfl)))) ?_
            refine AD.guardC rfl rfl rfl rfl rfl (fun hg => POp.call (.mk' rfl rfl rfl rfl (by first | rfl | ((repeat (first | exact hg | rfl | refine Bool.and_eq_true_iff.2 ⟨?_, ?_⟩)); done) | simp_all [strip, constAV])) (p121 h.o (hrv hg))) ?_
            refine AD.guardC rfl rfl rfl rfl rfl (fun hg => (by first | exact POp.fa rfl rfl rfl rfl | exact POp.faP rfl rfl rfl rfl)) ?_
            refine AD.guardC rfl rfl rfl rfl rfl (fun hg => (by first | exact POp.ld1 rfl rfl (gd hg) rfl | (apply POp.ld1H rfl rfl (gd hg); (case hm => repeat (first | exact .head _ | refine .tail _ ?_)); (case hy => rfl)))) ?_
            refine AD.nil ?_
            refine DP.tailC 8 (by decide +kernel) rfl ?_
            refine OL.guardC rfl rfl rfl rfl rfl rfl (fun hg => POp.call (.mk' rfl rfl rfl rfl (by first | rfl | ((repeat (first | exact hg | rfl | refine Bool.and_eq_true_iff.2 ⟨?_, ?_⟩)); done) | simp_all [strip, constAV])) (p52 h.o.w (hkd hg) hcl)) ?_
            refine Opk ?_; refine Oas ?_; refine S5 ?_
            refine r1 8 (H) ?_
            exact ⟨retB (by rw [hev, leafH, if_pos h4]; cases r.2 <;> rfl), rfl⟩
          ·
            replace h4 := nm h4
            refine S2 ?_; refine Ocm ?_; refine Oas ?_; refine S2 ?_
            refine CW.cond rfl (fun h5 => ?_) (fun h5 => ?_)
            ·
              replace h5 := nm h5
              refine S2 ?_; refine Omv ?_; refine Omv ?_; refine Pfa ?_; refine Pld ?_; refine Pcm ?_; refine Opk ?_; refine Omv ?_; refine Pfa ?_; refine Pld ?_; refine Pfa ?_; refine Pld ?_
              refine Pcm ?_; refine Opk ?_; refine Oas ?_; refine S5 ?_
              refine r1 8 (H) ?_
              exact ⟨retB (by rw [hev, leafH, if_neg h4, if_pos h5]; cases r.2 <;> cases (r.1.1 == 1) <;> rfl), rfl⟩
            ·
              replace h5 := nm h5
              refine S5 ?_; refine Omv ?_; refine Omv ?_; refine Pfa ?_; refine Pld ?_; refine Pcm ?_; refine Opk ?_; refine Omv ?_; refine Pfa ?_; refine Pld ?_; refine Pfa ?_; refine Pld ?_
              refine Pcm ?_; refine Opk ?_; refine Oas ?_; refine S3 ?_
              refine r1 8 (H) ?_
              exact ⟨retB (by rw [hev, leafH, if_neg h4, if_neg h5]; cases r.2 <;> cases (r.1.1 == 1) <;> rfl), rfl⟩
theorem p124 {W : FW} {objs : List Th} {args : List (Int × Int)} (h : HOk W objs args) : ∀ f : Fact, wfB W f = true → spkN f ≤ args.length → PCall Tryz.prog 124 [Wptr W, AV.fact f, AV.things objs, AV.vals args] (.b (ev (VO W objs args) f)) :=
  Fact.ind1 fun f ih hw hs => p124_step h f hw hs fun k hk => ih k hk ((wfB_iff.1 hw).2 k hk) (Int.le_trans (spk_kid hk) hs)
theorem p66 {W : FW} {objs : List Th} {args : List (Int × Int)} (h : HOk W objs args) : ∀ f : Fact, wfB W f = true → spkN f ≤ args.length → PCall Tryz.prog 66 [AV.world W, AV.fact f, AV.things objs, AV.vals args] (.b (ev (VO W objs args) f)) :=
  Fact.ind1 fun f ih hw hs => p66_step h f hw hs fun k hk => ih k hk ((wfB_iff.1 hw).2 k hk) (Int.le_trans (spk_kid hk) hs)
/-- what fact.Holds takes -/
def takesP (W : FW) (f : Fact) (objs : List Th) (args : List (Int × Int)) : Bool := goodP W [f] && handedP W objs args && decide (spkN f ≤ args.length)
theorem p68n0 {W : FW} {f : Fact} (objs : List Th) (args : List (Int × Int)) (h : goodP W [f] = false) : PCall Tryz.prog 68 [AV.world W, AV.fact f, AV.things objs, AV.vals args] (.tup [.b false, .i 2]) := by
  intro H
  refine ACall.mk' (n := 40) Tryz.func68 rfl (by kernel_rfl) rfl rfl (fun B I w0 => ?_)
  refine S2 ?_; refine Obx ?_; refine Obx ?_; refine Oas ?_; refine Oas ?_; refine S4 ?_; refine Ola ?_; refine Ola ?_
  refine OL.popC rfl rfl rfl (POp.row rfl rfl (by first | rfl | simp_all [strip]) rfl rfl rfl rfl rfl rfl) ?_
  refine OL.popC rfl rfl rfl (POp.callLe (.mk' rfl rfl rfl rfl rfl) (.cons (.refl _) (.cons (AVle_facts [f] rfl) .nil)) (p80n h)) ?_
  refine Omv ?_; refine Oex ?_; refine Oex ?_; refine Oas ?_; refine Oas ?_; refine S5 ?_; refine Omv ?_; refine Ont ?_; refine Omv ?_; refine Pmv ?_; refine Pmv ?_; refine Pmv ?_
  refine OL.guardC (x := .b false) rfl rfl rfl rfl rfl rfl (fun hg => absurd hg (by simp)) ?_
  refine Pnt ?_; refine Opk ?_; refine Omv ?_; refine Pla ?_
  refine OL.guardC (x := .i 0) rfl rfl rfl rfl rfl rfl (fun hg => absurd hg (by simp)) ?_
  refine Pmv ?_; refine Pln ?_; refine Pcm ?_; refine Opk ?_; refine S2 ?_
  refine CW.cond rfl (fun h0 => ?_) (fun h0 => ?_)
  ·
    refine S2 ?_; refine Oas ?_; refine Oas ?_; refine S4 ?_
    refine Done.retR (rs := [.tmp 8, .tmp 9]) (H' := H) rfl (.tmp rfl (.tmp rfl (.nil))) (AVleL.refl _) (by repeat (first | exact List.Sublist.refl _ | refine List.Sublist.cons _ ?_)) ?_
    exact ⟨by rfl, rfl⟩
  ·
    exact absurd h0 (by simp)
theorem p68n1 {W : FW} {f : Fact} (objs : List Th) (args : List (Int × Int)) (h : goodP W [f] = true) (hn : (handedP W objs args && decide (spkN f ≤ args.length)) = false) : PCall Tryz.prog 68 [AV.world W, AV.fact f, AV.things objs, AV.vals args] (.tup [.b false, .i 2]) := by
  intro H
  refine ACall.mk' (n := 40) Tryz.func68 rfl (by kernel_rfl) rfl rfl (fun B I w0 => ?_)
  have hG := good_f1 h
  refine S2 ?_; refine Obx ?_; refine Obx ?_; refine Oas ?_; refine Oas ?_; refine S4 ?_; refine Ola ?_; refine Ola ?_
  refine OL.popC rfl rfl rfl (POp.row rfl rfl (by first | rfl | simp_all [strip]) rfl rfl rfl rfl rfl rfl) ?_
  refine OL.popC rfl rfl rfl (POp.callLe (.mk' rfl rfl rfl rfl rfl) (.cons (.refl _) (.cons (AVle_facts [f] rfl) .nil)) (p80g h)) ?_
  refine Omv ?_; refine Oex ?_; refine Oex ?_; refine Oas ?_; refine Oas ?_; refine S5 ?_; refine Omv ?_; refine Ont ?_; refine Omv ?_; refine Pmv ?_; refine Pmv ?_; refine Pmv ?_
  refine OL.guardC rfl rfl rfl rfl rfl rfl (fun hg => POp.call (.mk' rfl rfl rfl rfl (by first | rfl | ((repeat (first | exact hg | rfl | refine Bool.and_eq_true_iff.2 ⟨?_, ?_⟩)); done) | simp_all [strip, constAV])) (p122 hG.1 objs args)) ?_
  refine Pnt ?_; refine Opk ?_; refine Omv ?_; refine Pla ?_
  refine OL.guardC rfl rfl rfl rfl rfl rfl (fun hg => POp.call (.mk' rfl rfl rfl rfl (by first | rfl | ((repeat (first | exact hg | rfl | refine Bool.and_eq_true_iff.2 ⟨?_, ?_⟩)); done) | simp_all [strip, constAV])) (p123 (W := W) f hG.2.2.1)) ?_
  refine Pmv ?_; refine Pln ?_; refine Pcm ?_; refine Opk ?_; refine S2 ?_
  refine CW.cond rfl (fun h0 => ?_) (fun h0 => ?_)
  ·
    refine S2 ?_; refine Oas ?_; refine Oas ?_; refine S4 ?_
    refine Done.retR (rs := [.tmp 8, .tmp 9]) (H' := H) rfl (.tmp rfl (.tmp rfl (.nil))) (AVleL.refl _) (by repeat (first | exact List.Sublist.refl _ | refine List.Sublist.cons _ ?_)) ?_
    exact ⟨by rfl, rfl⟩
  ·
    exfalso
    revert h0 hn
    cases handedP W objs args <;> simp <;> omega
theorem p68g {W : FW} {f : Fact} {objs : List Th} {args : List (Int × Int)} (h : takesP W f objs args = true) : PCall Tryz.prog 68 [AV.world W, AV.fact f, AV.things objs, AV.vals args] (.tup [.b (ev (VO W objs args) f), .i 0]) := by
  intro H
  refine ACall.mk' (n := 40) Tryz.func68 rfl (by kernel_rfl) rfl rfl (fun B I w0 => ?_)
  simp only [takesP, Bool.and_eq_true, decide_eq_true_eq] at h
  have hG := good_f1 h.1.1
  refine S2 ?_; refine Obx ?_; refine Obx ?_; refine Oas ?_; refine Oas ?_; refine S4 ?_; refine Ola ?_; refine Ola ?_
  refine OL.popC rfl rfl rfl (POp.row rfl rfl (by first | rfl | simp_all [strip]) rfl rfl rfl rfl rfl rfl) ?_
  refine OL.popC rfl rfl rfl (POp.callLe (.mk' rfl rfl rfl rfl rfl) (.cons (.refl _) (.cons (AVle_facts [f] rfl) .nil)) (p80g h.1.1)) ?_
  refine Omv ?_; refine Oex ?_; refine Oex ?_; refine Oas ?_; refine Oas ?_; refine S5 ?_; refine Omv ?_; refine Ont ?_; refine Omv ?_; refine Pmv ?_; refine Pmv ?_; refine Pmv ?_
  refine OL.guardC rfl rfl rfl rfl rfl rfl (fun hg => POp.call (.mk' rfl rfl rfl rfl (by first | rfl | ((repeat (first | exact hg | rfl | refine Bool.and_eq_true_iff.2 ⟨?_, ?_⟩)); done) | simp_all [strip, constAV])) (p122 hG.1 objs args)) ?_
  refine Pnt ?_; refine Opk ?_; refine Omv ?_; refine Pla ?_
  refine OL.guardC rfl rfl rfl rfl rfl rfl (fun hg => POp.call (.mk' rfl rfl rfl rfl (by first | rfl | ((repeat (first | exact hg | rfl | refine Bool.and_eq_true_iff.2 ⟨?_, ?_⟩)); done) | simp_all [strip, constAV])) (p123 (W := W) f hG.2.2.1)) ?_
  refine Pmv ?_; refine Pln ?_; refine Pcm ?_; refine Opk ?_; refine S2 ?_
  refine CW.cond rfl (fun h0 => ?_) (fun h0 => ?_)
  ·
    exfalso
    rw [h.1.2] at h0
    simp at h0
    omega
  ·
    refine S4 ?_; refine Omv ?_; refine Ola ?_; refine Omv ?_; refine Omv ?_
    refine OL.popC rfl rfl rfl (POp.call (.mk' rfl rfl rfl rfl rfl) (p124 (handed_ok hG.1 h.1.2) f hG.2.2.1 h.2)) ?_
    refine Oas ?_; refine Oas ?_; refine S3 ?_
    refine Done.retR (rs := [.tmp 8, .tmp 9]) (H' := H) rfl (.tmp rfl (.tmp rfl (.nil))) (AVleL.refl _) (by repeat (first | exact List.Sublist.refl _ | refine List.Sublist.cons _ ?_)) ?_
    exact ⟨by rfl, rfl⟩
theorem p68 (W : FW) (f : Fact) (objs : List Th) (args : List (Int × Int)) : PCall Tryz.prog 68 [AV.world W, AV.fact f, AV.things objs, AV.vals args] (.tup [.b (takesP W f objs args && ev (VO W objs args) f), .i (if takesP W f objs args = true then 0 else 2)]) := by
  cases h : takesP W f objs args with
  | true => exact p68g h
  | false =>
    cases hg : goodP W [f] with
    | false => exact p68n0 objs args hg
    | true => rw [takesP, hg, Bool.true_and] at h; exact p68n1 objs args hg h
/-- what fact.At takes -/
def atOk (W : FW) (objs : List Th) (args : List (Int × Int)) (a : Int) (p : List Int) : Bool := worldP W && handedP W objs args && decide (0 ≤ a) && decide (a < args.length) && pathP W p
theorem p71n0 {W : FW} (objs : List Th) (args : List (Int × Int)) (a : Int) (p : List Int) (h : worldP W = false) : PCall Tryz.prog 71 [AV.world W, AV.things objs, AV.vals args, .i a, AV.ints p] (.tup [AV.vl (0, 0), .b false, .i 2]) := by
  intro H
  refine ACall.mk' (n := 61) Tryz.func71 rfl (by kernel_rfl) rfl rfl (fun B I w0 => ?_)
  refine S2 ?_; refine Obx ?_
  refine OL.alC rfl rfl rfl rfl (fun b0 => ?_)
  refine Oas ?_; refine Oas ?_; refine S4 ?_; refine Ola ?_
  refine OL.popC rfl rfl rfl (POp.call (.mk' rfl rfl rfl rfl rfl) (p105f h)) ?_
  refine Omv ?_; refine Oex ?_; refine Oex ?_; refine Oas ?_; refine Oas ?_; refine S5 ?_; refine Omv ?_; refine Ont ?_; refine Omv ?_; refine Pmv ?_; refine Pmv ?_; refine Pmv ?_
  refine OL.guardC (x := .b false) rfl rfl rfl rfl rfl rfl (fun hg => absurd hg (by simp)) ?_
  refine Pnt ?_; refine Opk ?_; refine Omv ?_; refine Pmv ?_; refine Pcm ?_; refine Opk ?_; refine Omv ?_; refine Pmv ?_; refine Pmv ?_; refine Pln ?_; refine Pcm ?_; refine Opk ?_
  refine Omv ?_; refine Pmv ?_; refine Pmv ?_
  refine OL.guardC (x := .b false) rfl rfl rfl rfl rfl rfl (fun hg => absurd hg (by simp)) ?_
  refine Pnt ?_; refine Opk ?_; refine S2 ?_
  refine CW.cond rfl (fun h0 => ?_) (fun h0 => ?_)
  ·
    refine S2 ?_; refine Obd ?_; refine Sto ?_; refine Oas ?_; refine Oas ?_; refine S4 ?_
    refine Done.retR (rs := [.cell 10 97, .tmp 11, .tmp 12]) (H' := H) rfl ((by first | exact .cellA inferInstance rfl (by repeat (first | exact .head _ | refine .tail _ ?_)) rfl rfl (.tmp rfl (.tmp rfl (.nil))) | exact .ptrA inferInstance rfl rfl (.tmp rfl (.tmp rfl (.nil))))) (AVleL.refl _) (by repeat (first | exact List.Sublist.refl _ | refine List.Sublist.cons _ ?_)) ?_
    exact ⟨by rfl, rfl⟩
  ·
    exact absurd h0 (by simp)
theorem p71n1 {W : FW} (objs : List Th) (args : List (Int × Int)) (a : Int) (p : List Int) (h : worldP W = true) (hn : atOk W objs args a p = false) : PCall Tryz.prog 71 [AV.world W, AV.things objs, AV.vals args, .i a, AV.ints p] (.tup [AV.vl (0, 0), .b false, .i 2]) := by
  intro H
  refine ACall.mk' (n := 61) Tryz.func71 rfl (by kernel_rfl) rfl rfl (fun B I w0 => ?_)
  refine S2 ?_; refine Obx ?_
  refine OL.alC rfl rfl rfl rfl (fun b0 => ?_)
  refine Oas ?_; refine Oas ?_; refine S4 ?_; refine Ola ?_
  refine OL.popC rfl rfl rfl (POp.call (.mk' rfl rfl rfl rfl rfl) (p105t h)) ?_
  refine Omv ?_; refine Oex ?_; refine Oex ?_; refine Oas ?_; refine Oas ?_; refine S5 ?_; refine Omv ?_; refine Ont ?_; refine Omv ?_; refine Pmv ?_; refine Pmv ?_; refine Pmv ?_
  refine OL.guardC rfl rfl rfl rfl rfl rfl (fun hg => POp.call (.mk' rfl rfl rfl rfl (by first | rfl | ((repeat (first | exact hg | rfl | refine Bool.and_eq_true_iff.2 ⟨?_, ?_⟩)); done) | simp_all [strip, constAV])) (p122 h objs args)) ?_
  refine Pnt ?_; refine Opk ?_; refine Omv ?_; refine Pmv ?_; refine Pcm ?_; refine Opk ?_; refine Omv ?_; refine Pmv ?_; refine Pmv ?_; refine Pln ?_; refine Pcm ?_; refine Opk ?_
  refine Omv ?_; refine Pmv ?_; refine Pmv ?_
  refine OL.guardC rfl rfl rfl rfl rfl rfl (fun hg => POp.call (.mk' rfl rfl rfl rfl (by first | rfl | ((repeat (first | exact hg | rfl | refine Bool.and_eq_true_iff.2 ⟨?_, ?_⟩)); done) | simp_all [strip, constAV])) (p126 W p)) ?_
  refine Pnt ?_; refine Opk ?_; refine S2 ?_
  refine CW.cond rfl (fun h0 => ?_) (fun h0 => ?_)
  ·
    refine S2 ?_; refine Obd ?_; refine Sto ?_; refine Oas ?_; refine Oas ?_; refine S4 ?_
    refine Done.retR (rs := [.cell 10 97, .tmp 11, .tmp 12]) (H' := H) rfl ((by first | exact .cellA inferInstance rfl (by repeat (first | exact .head _ | refine .tail _ ?_)) rfl rfl (.tmp rfl (.tmp rfl (.nil))) | exact .ptrA inferInstance rfl rfl (.tmp rfl (.tmp rfl (.nil))))) (AVleL.refl _) (by repeat (first | exact List.Sublist.refl _ | refine List.Sublist.cons _ ?_)) ?_
    exact ⟨by rfl, rfl⟩
  ·
    exfalso
    rw [atOk, h, Bool.true_and] at hn
    revert h0 hn
    cases handedP W objs args <;> cases pathP W p <;> simp <;> omega
theorem p71g {W : FW} {objs : List Th} {args : List (Int × Int)} {a : Int} {p : List Int} (h : atOk W objs args a p = true) : PCall Tryz.prog 71 [AV.world W, AV.things objs, AV.vals args, .i a, AV.ints p] (.tup [AV.vl (atP W objs (args.getD a.toNat default) p).1, .b (atP W objs (args.getD a.toNat default) p).2, .i 0]) := by
  intro H
  refine ACall.mk' (n := 61) Tryz.func71 rfl (by kernel_rfl) rfl rfl (fun B I w0 => ?_)
  simp only [atOk, Bool.and_eq_true, decide_eq_true_eq] at h
  have hH := handed_ok h.1.1.1.1 h.1.1.1.2
  refine S2 ?_; refine Obx ?_
  refine OL.alC rfl rfl rfl rfl (fun b0 => ?_)
  refine Oas ?_; refine Oas ?_; refine S4 ?_; refine Ola ?_
  refine OL.popC rfl rfl rfl (POp.call (.mk' rfl rfl rfl rfl rfl) (p105t h.1.1.1.1)) ?_
  refine Omv ?_; refine Oex ?_; refine Oex ?_; refine Oas ?_; refine Oas ?_; refine S5 ?_; refine Omv ?_; refine Ont ?_; refine Omv ?_; refine Pmv ?_; refine Pmv ?_; refine Pmv ?_
  refine OL.guardC rfl rfl rfl rfl rfl rfl (fun hg => POp.call (.mk' rfl rfl rfl rfl (by first | rfl | ((repeat (first | exact hg | rfl | refine Bool.and_eq_true_iff.2 ⟨?_, ?_⟩)); done) | simp_all [strip, constAV])) (p122 h.1.1.1.1 objs args)) ?_
  refine Pnt ?_; refine Opk ?_; refine Omv ?_; refine Pmv ?_; refine Pcm ?_; refine Opk ?_; refine Omv ?_; refine Pmv ?_; refine Pmv ?_; refine Pln ?_; refine Pcm ?_; refine Opk ?_
  refine Omv ?_; refine Pmv ?_; refine Pmv ?_
  refine OL.guardC rfl rfl rfl rfl rfl rfl (fun hg => POp.call (.mk' rfl rfl rfl rfl (by first | rfl | ((repeat (first | exact hg | rfl | refine Bool.and_eq_true_iff.2 ⟨?_, ?_⟩)); done) | simp_all [strip, constAV])) (p126 W p)) ?_
  refine Pnt ?_; refine Opk ?_; refine S2 ?_
  refine CW.cond rfl (fun h0 => ?_) (fun h0 => ?_)
  ·
    exfalso
    rw [h.1.1.1.2, h.2] at h0
    simp at h0
    omega
  ·
    refine S4 ?_; refine Omv ?_; refine Omv ?_; refine Omv ?_; refine Omv ?_; refine Oix ?_; refine Ola ?_; refine Omv ?_
    refine OL.popC rfl rfl rfl (POp.call (.mk' rfl rfl rfl rfl rfl) (p127 hH.o (hH.a _ (getD_mem (by omega))) (path_rng h.2).1)) ?_
    refine Omv ?_; refine Oex ?_; refine Oex ?_
    refine OL.alC rfl rfl rfl rfl (fun b1 => ?_)
    refine Sto ?_; refine Oas ?_; refine S4 ?_; refine Ola ?_; refine Omv ?_; refine Sto ?_; refine Oas ?_; refine Oas ?_; refine S3 ?_
    refine Done.retR (rs := [.cell 10 97, .tmp 11, .tmp 12]) (H' := H) rfl ((by first | exact .cellA inferInstance rfl (by repeat (first | exact .head _ | refine .tail _ ?_)) rfl rfl (.tmp rfl (.tmp rfl (.nil))) | exact .ptrA inferInstance rfl rfl (.tmp rfl (.tmp rfl (.nil))))) (AVleL.refl _) (by repeat (first | exact List.Sublist.refl _ | refine List.Sublist.cons _ ?_)) ?_
    exact ⟨by rfl, rfl⟩
end Go.Proofs.YtiljpbljebfhnaaGreat

set_option linter.unusedVariables false
set_option linter.unusedSimpArgs false
set_option maxRecDepth 10000
namespace Go.Proofs.YtiljpbljebfhnaaGreat
open Go.Eng
open Go.Eng.Fc
instance : HasEq Tryz.prog 97 2 := ⟨by kernel_rfl⟩
theorem p71 (W : FW) (objs : List Th) (args : List (Int × Int)) (a : Int) (p : List Int) : PCall Tryz.prog 71 [AV.world W, AV.things objs, AV.vals args, .i a, AV.ints p]
    (.tup [AV.vl (if atOk W objs args a p = true then (atP W objs (args.getD a.toNat default) p).1 else (0, 0)), .b (atOk W objs args a p && (atP W objs (args.getD a.toNat default) p).2), .i (if atOk W objs args a p = true then 0 else 2)]) := by
  cases h : atOk W objs args a p with
  | true => exact p71g h
  | false =>
    cases hw : worldP W with
    | false => exact p71n0 objs args a p hw
    | true => exact p71n1 objs args a p hw h
theorem takes_eq (g : Gv) : takesP g.W g.A g.objs g.args = (goodGv g && formedP g.W g.A && decide (spkN g.A ≤ g.args.length)) := by
  rw [takesP, goodGv, good1]
  cases worldP g.W <;> cases formedP g.W g.A <;> cases handedP g.W g.objs g.args <;> rfl
theorem at_eq (g : Gv) : atOk g.W g.objs g.args g.arg g.path = (goodGv g && decide (0 ≤ g.arg) && decide (g.arg < g.args.length) && pathP g.W g.path) := by rw [atOk, goodGv]
theorem gv_hok {g : Gv} (h : goodGv g = true) : HOk g.W g.objs g.args := by
  rw [goodGv, Bool.and_eq_true] at h
  exact handed_ok h.1 h.2
theorem gv_w {g : Gv} (h : goodGv g = true) : worldP g.W = true := by rw [goodGv, Bool.and_eq_true] at h; exact h.1
theorem p14 (g : Gv) : PCall Tryz.prog 14 [AV.given g] (.b true) := by
  intro H
  refine ACall.mk' (n := 149) Tryz.func14 rfl (by kernel_rfl) rfl rfl (fun B I w0 => ?_)
  refine S2 ?_; refine Obx ?_; refine Oas ?_; refine S5 ?_; refine Ola ?_
  refine OL.popC rfl rfl rfl (POp.call (.mk' rfl rfl rfl rfl rfl) (p67 g)) ?_
  refine Ont ?_; refine S2 ?_
  refine CW.cond rfl (fun h0 => ?_) (fun h0 => ?_)
  ·
    refine S2 ?_
    refine OL.popC rfl rfl rfl (POp.call (.mk' rfl rfl rfl rfl rfl) (p21)) ?_
    refine Oas ?_; refine S4 ?_
    refine r1 2 (H) ?_
    exact ⟨by rfl, rfl⟩
  ·
    refine S4 ?_; refine Ofa ?_; refine Ola ?_; refine Ofa ?_; refine Ola ?_; refine Ofa ?_; refine Old ?_; refine Ofa ?_; refine Old ?_
    refine OL.popC rfl rfl rfl (POp.call (.mk' rfl rfl rfl rfl rfl) (p68 g.W g.A g.objs g.args)) ?_
    refine Omv ?_; refine Oex ?_; refine Oex ?_; refine Oas ?_; refine Oas ?_; refine S2 ?_
    refine CW.cutJ (fun st => st = ⟨[(1, .ptr (Gcells g)), (2, .b false)], H⟩) ?_ ?_
    ·
      refine S1 ?_
      refine CW.dp mixed ?_
      refine DP.one (k := 0) (by decide +kernel) rfl ?_
      have hte := takes_eq g
      refine Ola ?_
      refine OL.nil (Done.dp ?_)
      refine DP.one (k := 1) (by decide +kernel) rfl ?_
      refine OL.popC rfl rfl rfl (POp.call (.mk' rfl rfl rfl rfl rfl) (p69 g)) ?_
      refine OL.nil (Done.dp ?_)
      refine DP.one (k := 2) (by decide +kernel) rfl ?_
      refine Ont ?_
      refine OL.nil (Done.dp ?_)
      refine DP.one (k := 3) (by decide +kernel) rfl ?_
      refine Omv ?_
      refine OL.nil (Done.dp ?_)
      refine DP.anyC 4 8 149 rfl (by decide +kernel) rfl rfl (by decide +kernel) ?_
      refine AD.guardC rfl rfl rfl rfl rfl (fun hg => (by first | exact POp.fa rfl rfl rfl rfl | exact POp.faP rfl rfl rfl rfl)) ?_
      refine AD.guardC rfl rfl rfl rfl rfl (fun hg => (by first | exact POp.ldA rfl rfl (gd hg) rfl | (apply POp.ldAH rfl rfl (gd hg); (case hm => repeat (first | exact .head _ | refine .tail _ ?_)); (case hy => rfl); (case hn => rfl)))) ?_
      refine AD.guardC rfl rfl rfl rfl rfl (fun hg => (by first | exact POp.fa rfl rfl rfl rfl | exact POp.faP rfl rfl rfl rfl)) ?_
      refine AD.guardC rfl rfl rfl rfl rfl (fun hg => (by first | exact POp.ldA rfl rfl (gd hg) rfl | (apply POp.ldAH rfl rfl (gd hg); (case hm => repeat (first | exact .head _ | refine .tail _ ?_)); (case hy => rfl); (case hn => rfl)))) ?_
      refine AD.nil ?_
      refine DP.one (k := 8) (by decide +kernel) rfl ?_
      refine OL.guardC rfl rfl rfl rfl rfl rfl (fun hg => POp.call (.mk' rfl rfl rfl rfl (by first | rfl | ((repeat (first | exact hg | rfl | refine Bool.and_eq_true_iff.2 ⟨?_, ?_⟩)); done) | simp_all [strip, constAV])) (p20' (world_len (gv_w (by simpa using hg))) g.A)) ?_
      refine OL.nil (Done.dp ?_)
      refine DP.one (k := 9) (by decide +kernel) rfl ?_
      refine Pnt ?_
      refine OL.nil (Done.dp ?_)
      refine DP.one (k := 10) (by decide +kernel) rfl ?_
      refine Opk ?_
      refine OL.nil (Done.dp ?_)
      refine DP.one (k := 11) (by decide +kernel) rfl ?_
      refine Omv ?_
      refine OL.nil (Done.dp ?_)
      refine DP.anyC 12 18 149 rfl (by decide +kernel) rfl rfl (by decide +kernel) ?_
      refine AD.guardC rfl rfl rfl rfl rfl (fun hg => (by first | exact POp.fa rfl rfl rfl rfl | exact POp.faP rfl rfl rfl rfl)) ?_
      refine AD.guardC rfl rfl rfl rfl rfl (fun hg => (by first | exact POp.ldA rfl rfl (gd hg) rfl | (apply POp.ldAH rfl rfl (gd hg); (case hm => repeat (first | exact .head _ | refine .tail _ ?_)); (case hy => rfl); (case hn => rfl)))) ?_
      refine AD.guardC rfl rfl rfl rfl rfl (fun hg => POp.call (.mk' rfl rfl rfl rfl (by first | rfl | ((repeat (first | exact hg | rfl | refine Bool.and_eq_true_iff.2 ⟨?_, ?_⟩)); done) | simp_all [strip, constAV])) (p70 (W := g.W) g.A (formed_wf (by revert hg; cases goodGv g <;> cases formedP g.W g.A <;> simp)).1)) ?_
      refine AD.guardC rfl rfl rfl rfl rfl (fun hg => (by first | exact POp.fa rfl rfl rfl rfl | exact POp.faP rfl rfl rfl rfl)) ?_
      refine AD.guardC rfl rfl rfl rfl rfl (fun hg => (by first | exact POp.ld1 rfl rfl (gd hg) rfl | (apply POp.ld1H rfl rfl (gd hg); (case hm => repeat (first | exact .head _ | refine .tail _ ?_)); (case hy => rfl)))) ?_
      refine AD.guardC rfl rfl rfl rfl rfl (fun hg => (by first | exact POp.lenM rfl rfl (gd hg) | exact POp.lenA rfl rfl (gd hg) | exact POp.lenV rfl rfl (gd hg) | exact POp.len' rfl rfl (gd hg))) ?_
      refine AD.nil ?_
      refine DP.tailC 18 (by decide +kernel) rfl ?_
      refine Pcm ?_; refine Opk ?_; refine S2 ?_
      refine CW.cond rfl (fun h1 => ?_) (fun h1 => ?_)
      ·
        have ht : takesP g.W g.A g.objs g.args = false := by rw [hte]; revert h1; cases goodGv g <;> cases formedP g.W g.A <;> simp
        refine S2 ?_; refine Omv ?_; refine Ocm ?_; refine Omv ?_; refine Pmv ?_; refine Opk ?_; refine S2 ?_
        refine CW.cond rfl (fun h2 => ?_) (fun h2 => ?_)
        ·
          exact absurd h2 (by rw [ht]; simp)
        ·
          refine S1 ?_
          exact Done.cutJ rfl (by repeat (first | exact trivial | refine ⟨rfl, ?_⟩)) (by repeat (first | exact List.Sublist.refl _ | refine List.Sublist.cons _ ?_))
      ·
        have ht : takesP g.W g.A g.objs g.args = true := by rw [hte]; revert h1; cases goodGv g <;> cases formedP g.W g.A <;> simp
        refine S2 ?_
        have hgv : goodGv g = true := by rw [ht] at hte; revert hte; cases goodGv g <;> simp
        have hH := gv_hok hgv
        have htt := ht
        simp only [takesP, Bool.and_eq_true, decide_eq_true_eq] at htt
        refine Omv ?_; refine Ocm ?_; refine Omv ?_; refine Pmv ?_; refine Pfa ?_; refine Pla ?_; refine Pfa ?_; refine Pla ?_; refine Pfa ?_; refine Pld ?_; refine Pfa ?_; refine Pld ?_
        refine OL.guardC rfl rfl rfl rfl rfl rfl (fun hg => POp.call (.mk' rfl rfl rfl rfl (by first | rfl | ((repeat (first | exact hg | rfl | refine Bool.and_eq_true_iff.2 ⟨?_, ?_⟩)); done) | simp_all [strip, constAV])) (p66 hH g.A (good_f1 htt.1.1).2.2.1 htt.2)) ?_
        refine Pnb ?_; refine Opk ?_; refine S2 ?_
        refine CW.cond rfl (fun h3 => ?_) (fun h3 => ?_)
        ·
          exact absurd h3 (by rw [ht]; simp)
        ·
          refine S1 ?_
          exact Done.cutJ rfl (by repeat (first | exact trivial | refine ⟨rfl, ?_⟩)) (by repeat (first | exact List.Sublist.refl _ | refine List.Sublist.cons _ ?_))
    ·
      rintro _ rfl
      refine S2 ?_; refine Ofa ?_; refine Ola ?_; refine Ofa ?_; refine Old ?_; refine Ofa ?_; refine Old ?_; refine Ofa ?_; refine Old ?_; refine Ofa ?_; refine Old ?_
      refine OL.popC rfl rfl rfl (POp.call (.mk' rfl rfl rfl rfl rfl) (p71 g.W g.objs g.args g.arg g.path)) ?_
      refine Omv ?_; refine Oex ?_; refine Oex ?_; refine Oex ?_
      refine OL.alC rfl rfl rfl rfl (fun b0 => ?_)
      refine Sto ?_; refine Oas ?_; refine Oas ?_; refine S4 ?_
      refine CW.freezeP (d := 5) rfl (by repeat (first | exact Del.head _ _ | apply Del.tail)) ?_
      refine S1 ?_
      have hae := at_eq g
      refine Ola ?_
      refine OL.popC rfl rfl rfl (POp.call (.mk' rfl rfl rfl rfl rfl) (p69 g)) ?_
      refine Ont ?_; refine Omv ?_; refine Pfa ?_; refine Pld ?_; refine Pcm ?_; refine Opk ?_; refine Omv ?_; refine Pfa ?_; refine Pld ?_; refine Pfa ?_; refine Pld ?_; refine Pln ?_
      refine Pcm ?_; refine Opk ?_; refine Omv ?_; refine Pfa ?_; refine Pla ?_; refine Pfa ?_; refine Pld ?_
      refine OL.guardC rfl rfl rfl rfl rfl rfl (fun hg => POp.call (.mk' rfl rfl rfl rfl (by first | rfl | ((repeat (first | exact hg | rfl | refine Bool.and_eq_true_iff.2 ⟨?_, ?_⟩)); done) | simp_all [strip, constAV])) (p72 g.W g.path)) ?_
      refine Pnt ?_; refine Opk ?_; refine S2 ?_
      refine CW.cond rfl (fun h4 => ?_) (fun h4 => ?_)
      ·
        have ha : atOk g.W g.objs g.args g.arg g.path = false := by rw [hae]; revert h4; cases goodGv g <;> cases pathP g.W g.path <;> simp <;> omega
        refine S2 ?_; refine Omv ?_; refine Ocm ?_; refine Omv ?_; refine Pmv ?_; refine Pnt ?_; refine Opk ?_; refine Omv ?_; refine Pla ?_; refine Pbd ?_
        refine OL.guardC rfl rfl rfl rfl rfl rfl (fun hg => POp.eqI [(if atOk g.W g.objs g.args g.arg g.path = true then (atP g.W g.objs (g.args.getD g.arg.toNat default) g.path).1 else (0, 0)).1, (if atOk g.W g.objs g.args g.arg g.path = true then (atP g.W g.objs (g.args.getD g.arg.toNat default) g.path).1 else (0, 0)).2] [0, 0] rfl rfl rfl (gd hg) (gd hg) rfl rfl) ?_
        refine Opk ?_; refine Omv ?_
        refine OL.guardC rfl rfl rfl rfl rfl rfl (fun hg => POp.call (.mk' rfl rfl rfl rfl rfl) (p21)) ?_
        refine Opk ?_; refine Oas ?_; refine S4 ?_
        refine r1 2 (H) ?_
        exact ⟨retB (by rw [ha]; simp), rfl⟩
      ·
        have ha : atOk g.W g.objs g.args g.arg g.path = true := by rw [hae]; revert h4; cases goodGv g <;> cases pathP g.W g.path <;> simp <;> omega
        refine S3 ?_
        refine CW.dp mixed ?_
        refine DP.anyAC (fun sj b => match sj with | 0 => .blk b 97 [.i 0, .i 0] :: H | _ => .blk b 97 [AV.i (atP g.W g.objs (g.args.getD g.arg.toNat default) g.path).1.1, AV.i (atP g.W g.objs (g.args.getD g.arg.toNat default) g.path).1.2] :: H) 7 [16, 17] 1 0 18 149 rfl (by decide +kernel) rfl rfl rfl rfl (by decide +kernel) ?_
        have hgv : goodGv g = true := by rw [ha] at hae; revert hae; cases goodGv g <;> simp
        have hH := gv_hok hgv
        have haa := ha
        simp only [atOk, Bool.and_eq_true, decide_eq_true_eq] at haa
        refine TD.popA (by decide +kernel) rfl rfl rfl rfl (fun _ => (by first | exact POp.fa rfl rfl rfl rfl | exact POp.faP rfl rfl rfl rfl)) ?_
        refine TD.popA (by decide +kernel) rfl rfl rfl rfl (fun _ => (by first | exact POp.ldA rfl rfl rfl rfl | (apply POp.ldAH rfl rfl rfl; (case hm => repeat (first | exact .head _ | refine .tail _ ?_)); (case hy => rfl); (case hn => rfl)))) ?_
        refine TD.popA (by decide +kernel) rfl rfl rfl rfl (fun _ => (by first | exact POp.fa rfl rfl rfl rfl | exact POp.faP rfl rfl rfl rfl)) ?_
        refine TD.popA (by decide +kernel) rfl rfl rfl rfl (fun _ => (by first | exact POp.ld1 rfl rfl rfl rfl | (apply POp.ld1H rfl rfl rfl; (case hm => repeat (first | exact .head _ | refine .tail _ ?_)); (case hy => rfl)))) ?_
        refine TD.popA (by decide +kernel) rfl rfl rfl rfl (fun _ => (by first | exact POp.fa rfl rfl rfl rfl | exact POp.faP rfl rfl rfl rfl)) ?_
        refine TD.popA (by decide +kernel) rfl rfl rfl rfl (fun _ => (by first | exact POp.ld1 rfl rfl rfl rfl | (apply POp.ld1H rfl rfl rfl; (case hm => repeat (first | exact .head _ | refine .tail _ ?_)); (case hy => rfl)))) ?_
        refine TD.popA (by decide +kernel) rfl rfl rfl rfl (fun _ => (by first | exact POp.fa rfl rfl rfl rfl | exact POp.faP rfl rfl rfl rfl)) ?_
        refine TD.popA (by decide +kernel) rfl rfl rfl rfl (fun _ => (by first | exact POp.ld1 rfl rfl rfl rfl | (apply POp.ld1H rfl rfl rfl; (case hm => repeat (first | exact .head _ | refine .tail _ ?_)); (case hy => rfl)))) ?_
        refine TD.popA (by decide +kernel) rfl rfl rfl rfl (fun _ => (by first | exact POp.ixM rfl rfl rfl rfl rfl (by omega) | exact POp.ixI rfl rfl rfl rfl rfl (by omega))) ?_
        refine TD.popA (by decide +kernel) rfl rfl rfl rfl (fun _ => (by first | exact POp.ldA rfl rfl rfl rfl | (apply POp.ldAH rfl rfl rfl; (case hm => repeat (first | exact .head _ | refine .tail _ ?_)); (case hy => rfl); (case hn => rfl)))) ?_
        refine TD.popA (by decide +kernel) rfl rfl rfl rfl (fun _ => (by first | exact POp.fa rfl rfl rfl rfl | exact POp.faP rfl rfl rfl rfl)) ?_
        refine TD.popA (by decide +kernel) rfl rfl rfl rfl (fun _ => (by first | exact POp.ld1 rfl rfl rfl rfl | (apply POp.ld1H rfl rfl rfl; (case hm => repeat (first | exact .head _ | refine .tail _ ?_)); (case hy => rfl)))) ?_
        refine TD.popA (by decide +kernel) rfl rfl rfl rfl (fun _ => POp.call (.mk' rfl rfl rfl rfl rfl) (p73 hH.o (hH.a _ (getD_mem (by omega))) (path_rng haa.2).1)) ?_
        refine TD.popA (by decide +kernel) rfl rfl rfl rfl (fun _ => POp.move rfl rfl rfl) ?_
        refine TD.popA (by decide +kernel) rfl rfl rfl rfl (fun _ => POp.extract rfl rfl rfl rfl) ?_
        refine TD.popA (by decide +kernel) rfl rfl rfl rfl (fun _ => POp.extract rfl rfl rfl rfl) ?_
        refine TD.effA (by decide +kernel) (by decide +kernel) rfl rfl rfl rfl (fun _ => rfl) ?_
        refine TD.stoA 0 (by decide +kernel) (by decide +kernel) (by decide +kernel) rfl rfl (fun b => .store rfl rfl rfl rfl rfl rfl rfl rfl (by repeat (first | exact Upd.head _ _ _ | apply Upd.tail)) (by exact rfl) (by exact rfl)) ?_
        refine TD.nil (fun b7 => ?_)
        refine DP.tailC 18 (by decide +kernel) rfl ?_
        refine Oas ?_; refine S4 ?_; refine Omv ?_; refine Ocm ?_; refine Omv ?_; refine Pmv ?_; refine Pmv ?_; refine Peb ?_; refine Opk ?_; refine Omv ?_; refine Pla ?_; refine Pla ?_
        refine OL.guardC rfl rfl rfl rfl rfl rfl (fun hg => POp.eqI [(if atOk g.W g.objs g.args g.arg g.path = true then (atP g.W g.objs (g.args.getD g.arg.toNat default) g.path).1 else (0, 0)).1, (if atOk g.W g.objs g.args g.arg g.path = true then (atP g.W g.objs (g.args.getD g.arg.toNat default) g.path).1 else (0, 0)).2] [(atP g.W g.objs (g.args.getD g.arg.toNat default) g.path).1.1, (atP g.W g.objs (g.args.getD g.arg.toNat default) g.path).1.2] rfl rfl rfl (gd hg) (gd hg) rfl rfl) ?_
        refine Opk ?_; refine Omv ?_
        refine OL.guardC rfl rfl rfl rfl rfl rfl (fun hg => POp.call (.mk' rfl rfl rfl rfl rfl) (p21)) ?_
        refine Opk ?_; refine Oas ?_; refine S3 ?_
        refine r1 2 (H) ?_
        exact ⟨retB (by rw [ha]; simp), rfl⟩
end Go.Proofs.YtiljpbljebfhnaaGreat
