/- Part 10 of the proof: contracts of functions of the program and what they need. No condition beyond those that each theorem names. -/
import Derived.Test.YtiljpbljebfhnaaGreatKP9
set_option linter.unusedVariables false
set_option linter.unusedSimpArgs false
set_option maxRecDepth 10000
namespace Go.Proofs.YtiljpbljebfhnaaGreat
open Go.Eng
open Go.Eng.Fc
abbrev AV.factss (l : List (List Fact)) : AV := .sl 1 (l.map fun x => [AV.facts x])
abbrev AV.litss (l : List (List FLit)) : AV := .sl 1 (l.map fun x => [AV.lits x])
theorem lit_small {W : FW} {l : FLit} (h : LitOk W l) : smallB l.f = true := by
  have h1 := h.path; have h2 := h.kids
  cases hl : l.f with
  | mk a b c d e k =>
    rw [hl] at h1 h2
    simp only [Fact.path, Fact.kids] at h1 h2
    subst h2
    simp [smallB, smallBs]; omega
theorem cases_count : ∀ f : Fact, okB f = true → ∀ c, (casesP f c).length ≤ 2 ^ nodesN f := by
  refine Fact.ind1 fun f ih hok c => ?_
  have hp := ok_parts hok
  have h2 : 1 ≤ 2 ^ nodesN f := Nat.one_le_two_pow
  by_cases h1 : f.op = 1
  · rw [cases_true h1]; cases c
    · exact h2
    · simp
  by_cases h5 : f.op = 5
  · have hk := kids_one hok h5
    rw [cases_not h5 (by omega)]
    have := ih (f.kids.getD 0 default) (getD_mem (by omega)) (hp.2.2.2.2 _ (getD_mem (by omega))) (!c)
    refine Nat.le_trans this (Nat.pow_le_pow_right (by omega) ?_)
    have h3 := nodesNs_one f.kids (by omega)
    rw [nodesN_eq f]
    omega
  by_cases hlf : leafP f = true
  · rw [cases_leaf h1 h5 hlf]; simpa using h2
  · have hlf' : leafP f = false := by simpa using hlf
    have hk := kids_two hok h1 h5 hlf'
    have n2 := nodesNs_two f.kids (by omega)
    have i0 := ih (f.kids.getD 0 default) (getD_mem (by omega)) (hp.2.2.2.2 _ (getD_mem (by omega))) c
    have i1 := ih (f.kids.getD 1 default) (getD_mem (by omega)) (hp.2.2.2.2 _ (getD_mem (by omega))) c
    have e1 : 2 ^ (nodesN (f.kids.getD 0 default) + nodesN (f.kids.getD 1 default) + 1) ≤ 2 ^ nodesN f := Nat.pow_le_pow_right (by omega) (by rw [nodesN_eq f]; omega)
    rw [Nat.pow_succ, Nat.pow_add] at e1
    have p0 : 1 ≤ 2 ^ nodesN (f.kids.getD 0 default) := Nat.one_le_two_pow
    have p1 : 1 ≤ 2 ^ nodesN (f.kids.getD 1 default) := Nat.one_le_two_pow
    generalize hA : 2 ^ nodesN (f.kids.getD 0 default) = A at *
    generalize hB : 2 ^ nodesN (f.kids.getD 1 default) = B at *
    have hab : A + B ≤ A * B * 2 := by
      have h1 : A * 1 ≤ A * B := Nat.mul_le_mul_left A p1
      have h2 : 1 * B ≤ A * B := Nat.mul_le_mul_right B p0
      omega
    cases hc : (c == (f.op == 6)) with
    | true =>
      rw [cases_either h1 h5 hlf' hc (by omega), List.length_append]
      omega
    | false =>
      rw [cases_both h1 h5 hlf' hc (by omega), List.length_flatMap]
      have key : ∀ l : List (List FLit), (l.map fun a => ((casesP (f.kids.getD 1 default) c).map (joinedP a)).length).sum = l.length * (casesP (f.kids.getD 1 default) c).length := by
        intro l
        induction l with
        | nil => simp
        | cons x r ihr => rw [List.map_cons, List.sum_cons, ihr, List.length_map, List.length_cons, Nat.add_mul]; omega
      rw [key]
      have := Nat.mul_le_mul i0 i1
      omega
def factL (c : List FLit) : List Fact := c.map litF
noncomputable def casesL (W : FW) (l : List (List FLit)) : List (List Fact) := (l.filter (togetherK W)).map factL
theorem casesL_yes {W : FW} {l : List (List FLit)} {x : List FLit} (h : togetherK W x = true) : casesL W (l ++ [x]) = casesL W l ++ [factL x] := by
  simp [casesL, List.filter_append, h]
theorem casesL_no {W : FW} {l : List (List FLit)} {x : List FLit} (h : togetherK W x = false) : casesL W (l ++ [x]) = casesL W l := by
  simp [casesL, List.filter_append, h]
theorem casesL_len (W : FW) (l : List (List FLit)) : (casesL W l).length ≤ l.length := by
  rw [casesL, List.length_map]; exact List.length_filter_le _ _
theorem factL_snoc (x : List FLit) (k : Nat) (h : k < x.length) : factL (x.take (k + 1)) = factL (x.take k) ++ [litF (x.getD k default)] := by
  rw [← take_getD h, factL, List.map_append]; rfl
theorem factss_snoc (l : List (List Fact)) (x : List Fact) : (l ++ [x]).map (fun x => [AV.facts x]) = l.map (fun x => [AV.facts x]) ++ [[AV.facts x]] := by simp
theorem litss_snoc (l : List (List FLit)) (x : List FLit) : (l ++ [x]).map (fun x => [AV.lits x]) = l.map (fun x => [AV.lits x]) ++ [[AV.lits x]] := by simp
theorem p17n {W : FW} {f : Fact} (h : goodP W [f] = false) : PCall Tryz.prog 17 [AV.world W, AV.fact f] (.tup [.sl 1 [], .i 2]) := by
  intro H
  refine ACall.mkM (n := 46) Tryz.func17 rfl (by kernel_rfl) rfl rfl (fun B I w0 => ?_)
  refine CW.seq ?_
  refine CW.region ?_
  refine OL.popC rfl rfl rfl (POp.boxI rfl rfl rfl rfl) ?_
  refine OL.popC rfl rfl rfl (POp.boxI rfl rfl rfl rfl) ?_
  refine OL.popC rfl rfl rfl (POp.assign rfl rfl rfl) ?_
  refine OL.popC rfl rfl rfl (POp.assign rfl rfl rfl) ?_
  refine OL.nil ?_
  refine Done.seq ?_
  refine CW.seq ?_
  refine CW.region ?_
  refine OL.popC rfl rfl rfl ((by first | exact POp.ldA rfl rfl rfl rfl | (apply POp.ldAH rfl rfl rfl; (case hm => repeat (first | exact .head _ | refine .tail _ ?_)); (case hy => rfl); (case hn => rfl)))) ?_
  refine OL.popC rfl rfl rfl ((by first | exact POp.ldA rfl rfl rfl rfl | (apply POp.ldAH rfl rfl rfl; (case hm => repeat (first | exact .head _ | refine .tail _ ?_)); (case hy => rfl); (case hn => rfl)))) ?_
  refine OL.popC rfl rfl rfl (POp.row rfl rfl (by first | rfl | simp_all [strip]) rfl rfl rfl rfl rfl rfl) ?_
  refine OL.popC rfl rfl rfl (POp.callLe (.mk' rfl rfl rfl rfl rfl) (.cons (.refl _) (.cons (AVle_facts [f] rfl) .nil)) (p80n h)) ?_
  refine OL.popC rfl rfl rfl (POp.move rfl rfl rfl) ?_
  refine OL.popC rfl rfl rfl (POp.extract rfl rfl rfl rfl) ?_
  refine OL.popC rfl rfl rfl (POp.extract rfl rfl rfl rfl) ?_
  refine OL.alC rfl rfl rfl rfl (fun b0 => ?_)
  apply OL.stoC rfl rfl rfl rfl rfl rfl rfl rfl rfl rfl
  (case hu => repeat (first | exact Upd.head _ _ _ | apply Upd.tail)); (case hfit => rfl); (case hds => rfl)
  refine OL.popC rfl rfl rfl (POp.assign rfl rfl rfl) ?_
  refine OL.nil ?_
  refine Done.seq ?_
  refine CW.seq ?_
  refine CW.seq ?_
  refine CW.region ?_
  refine OL.popC rfl rfl rfl (POp.move rfl rfl rfl) ?_
  refine OL.popC rfl rfl rfl (POp.not rfl rfl rfl) ?_
  refine OL.nil ?_
  refine Done.seq ?_
  refine CW.cond rfl (fun h0 => ?_) (fun h0 => ?_)
  ·
    skip
    refine CW.seq ?_
    refine CW.region ?_
    refine OL.popC rfl rfl rfl (POp.assign rfl rfl rfl) ?_
    refine OL.popC rfl rfl rfl (POp.assign rfl rfl rfl) ?_
    refine OL.nil ?_
    refine Done.seq ?_
    refine CW.ret ?_
    refine Done.thenRet ?_
    refine Done.retM0 (rs := [.tmp 4, .tmp 5]) (H' := H) rfl (.tmp rfl (.tmp rfl (.nil))) (.cons (AVle.nil 1) (.cons (.refl _) .nil)) (by repeat (first | exact List.Sublist.refl _ | refine List.Sublist.cons _ ?_)) ?_
    exact ⟨by first | rfl | exact retI (by simp_all) | exact retB (by simp_all) | simp_all, rfl⟩
  ·
    cases h0
theorem p17g {W : FW} {f : Fact} (h : goodP W [f] = true) : PCall Tryz.prog 17 [AV.world W, AV.fact f] (.tup [AV.factss (casesL W (casesP f false)), .i 0]) := by
  intro H
  refine ACall.mkM (n := 46) Tryz.func17 rfl (by kernel_rfl) rfl rfl (fun B I w0 => ?_)
  have hw := good_w h
  have hf := good_f h (.head _)
  have hG := good_of hw hf.1 (Nat.le_trans hf.2 (by omega))
  have hcnt := cases_count f hG.ok false
  have hcnt2 : 2 ^ nodesN f ≤ 2 ^ 24 := Nat.pow_le_pow_right (by omega) hf.2
  refine CW.seq ?_
  refine CW.region ?_
  refine OL.popC rfl rfl rfl (POp.boxI rfl rfl rfl rfl) ?_
  refine OL.popC rfl rfl rfl (POp.boxI rfl rfl rfl rfl) ?_
  refine OL.popC rfl rfl rfl (POp.assign rfl rfl rfl) ?_
  refine OL.popC rfl rfl rfl (POp.assign rfl rfl rfl) ?_
  refine OL.nil ?_
  refine Done.seq ?_
  refine CW.seq ?_
  refine CW.region ?_
  refine OL.popC rfl rfl rfl ((by first | exact POp.ldA rfl rfl rfl rfl | (apply POp.ldAH rfl rfl rfl; (case hm => repeat (first | exact .head _ | refine .tail _ ?_)); (case hy => rfl); (case hn => rfl)))) ?_
  refine OL.popC rfl rfl rfl ((by first | exact POp.ldA rfl rfl rfl rfl | (apply POp.ldAH rfl rfl rfl; (case hm => repeat (first | exact .head _ | refine .tail _ ?_)); (case hy => rfl); (case hn => rfl)))) ?_
  refine OL.popC rfl rfl rfl (POp.row rfl rfl (by first | rfl | simp_all [strip]) rfl rfl rfl rfl rfl rfl) ?_
  refine OL.popC rfl rfl rfl (POp.callLe (.mk' rfl rfl rfl rfl rfl) (.cons (.refl _) (.cons (AVle_facts [f] rfl) .nil)) (p80g h)) ?_
  refine OL.popC rfl rfl rfl (POp.move rfl rfl rfl) ?_
  refine OL.popC rfl rfl rfl (POp.extract rfl rfl rfl rfl) ?_
  refine OL.popC rfl rfl rfl (POp.extract rfl rfl rfl rfl) ?_
  refine OL.alC rfl rfl rfl rfl (fun xb => ?_)
  apply OL.stoC rfl rfl rfl rfl rfl rfl rfl rfl rfl rfl
  (case hu => repeat (first | exact Upd.head _ _ _ | apply Upd.tail)); (case hfit => rfl); (case hds => rfl)
  refine OL.popC rfl rfl rfl (POp.assign rfl rfl rfl) ?_
  refine OL.nil ?_
  refine Done.seq ?_
  refine CW.seq ?_
  refine CW.seq ?_
  refine CW.region ?_
  refine OL.popC rfl rfl rfl (POp.move rfl rfl rfl) ?_
  refine OL.popC rfl rfl rfl (POp.not rfl rfl rfl) ?_
  refine OL.nil ?_
  refine Done.seq ?_
  refine CW.cond rfl (fun h0 => ?_) (fun h0 => ?_)
  ·
    cases h0
  ·
    skip
    refine CW.skip ?_
    refine Done.seq ?_
    refine CW.seq ?_
    refine CW.region ?_
    refine OL.alC rfl rfl rfl rfl (fun ob => ?_)
    refine OL.nil ?_
    refine Done.seq ?_
    refine CW.seq ?_
    refine CW.seq ?_
    refine CW.ownNilB 27 1 0 (.head _ _ _) rfl rfl ?_
    refine CW.region ?_
    refine OL.popC rfl rfl rfl ((by first | exact POp.ldA rfl rfl rfl rfl | (apply POp.ldAH rfl rfl rfl; (case hm => repeat (first | exact .head _ | refine .tail _ ?_)); (case hy => rfl); (case hn => rfl)))) ?_
    refine OL.popC rfl rfl rfl (POp.call (.mk' rfl rfl rfl rfl rfl) ((p81 _ _))) ?_
    refine OL.nil ?_
    refine Done.seq ?_
    refine CW.block ?_
    refine CW.weaken (st' := ⟨[(6, .p xb 0), (8, .p ob 0), (23, .fn (.func 132) [] [.ptr (Fcells f), .ptr [.b false]])], [.own 27 1 (.slice none 0 0), .blk ob 34 [.as (AV.factss []) (.slice none 0 0)], .blk xb 109 [Wptr W]] ++ H⟩) (by repeat (first | exact trivial | refine ⟨rfl, ?_⟩)) (by repeat (first | exact List.Sublist.refl _ | refine List.Sublist.cons _ ?_)) ?_
    refine CW.rangeFunc (AV.lits) (casesP f false) (fun pre H1 => ∃ v, H1 = [.own 27 1 v, .blk ob 34 [.as (AV.factss (casesL W pre)) v], .blk xb 109 [Wptr W]]) (fun code pre H1 => False) ([.own 27 1 (.slice none 0 0), .blk ob 34 [.as (AV.factss []) (.slice none 0 0)], .blk xb 109 [Wptr W]]) (H) (fun x => (9, AV.lits x) :: (24, AV.lits x) :: [(6, .p xb 0), (8, .p ob 0), (23, .fn (.func 132) [] [.ptr (Fcells f), .ptr [.b false]])]) rfl rfl rfl rfl (seq132 f hG.ok hG.nodes false) (⟨_, rfl⟩) ?_ ?_ ?_ ?_
    · intro l0 I1 w1 x Hy
      refine CW.region ?_
      refine OL.popC rfl rfl rfl (POp.assign rfl rfl rfl) ?_
      refine OL.nil ?_
      exact fun a w s => ⟨_, rfl, s⟩
    · intro l0 D0 lp pre x H1 Hy I1 w1 hpre hJ
      obtain ⟨v, rfl⟩ := hJ
      obtain ⟨hxl, hxn⟩ := hG.case false x (hpre.subset (by simp))
      have hlen := casesL_len W pre
      have hpl := hpre.length_le
      rw [List.length_append] at hpl
      refine CW.block ?_
      refine CW.seq ?_
      refine CW.seq ?_
      refine CW.region ?_
      refine OL.popC rfl rfl rfl ((by first | exact POp.ld1 rfl rfl rfl rfl | (apply POp.ld1H rfl rfl rfl; (case hm => repeat (first | exact .head _ | refine .tail _ ?_)); (case hy => rfl)))) ?_
      refine OL.popC rfl rfl rfl (POp.move rfl rfl rfl) ?_
      refine OL.popC rfl rfl rfl (POp.call (.mk' rfl rfl rfl rfl rfl) (p82 hw hxl hxn)) ?_
      refine OL.popC rfl rfl rfl (POp.not rfl rfl rfl) ?_
      refine OL.nil ?_
      refine Done.seq ?_
      refine CW.cond rfl (fun h1 => ?_) (fun h1 => ?_)
      ·
        have hno : togetherK W x = false := by simpa using h1
        refine CW.exit ?_
        refine Done.thenExit ?_
        refine Done.blkExit ?_
        exact Done.roundN (by repeat (first | exact List.Sublist.refl _ | refine List.Sublist.cons _ ?_)) (⟨v, congrArg (fun z => [Ent.own 27 1 v, .blk ob 34 [.as (AV.factss z) v], .blk xb 109 [Wptr W]]) (casesL_no hno).symm⟩)
      ·
        have hyes : togetherK W x = true := by simpa using h1
        refine CW.skip ?_
        refine Done.seq ?_
        refine CW.seq ?_
        refine CW.region ?_
        refine OL.popC rfl rfl rfl (POp.assign rfl rfl rfl) ?_
        refine OL.nil ?_
        refine Done.seq ?_
        refine CW.seq ?_
        refine CW.seq ?_
        refine CW.ownNil 10 29 6 rfl ?_
        refine CW.region ?_
        refine OL.popC rfl rfl rfl (POp.move rfl rfl rfl) ?_
        refine OL.popC rfl rfl rfl ((by first | exact POp.lenM rfl rfl rfl | exact POp.lenA rfl rfl rfl | exact POp.lenV rfl rfl rfl | exact POp.len' rfl rfl rfl)) ?_
        refine OL.popC rfl rfl rfl (POp.move rfl rfl rfl) ?_
        refine OL.nil ?_
        refine Done.seq ?_
        refine CW.block ?_
        refine CW.loopJ (fun m st => ∃ (k : Nat) (v2 : Value), st = ⟨[(31, .i k), (30, .i x.length), (29, AV.lits x), (10, .as (AV.facts (factL (x.take k))) v2), (6, .p xb 0), (8, .p ob 0)], .own 29 6 v2 :: .loop l0 lp (envGet ([(6, .p xb 0), (8, .p ob 0), (23, .fn (.func 132) [] [.ptr (Fcells f), .ptr [.b false]])])) :: .obj D0 (.deferred (some [])) :: ([.own 27 1 v, .blk ob 34 [.as (AV.factss (casesL W pre)) v], .blk xb 109 [Wptr W]] ++ Hy)⟩ ∧ m = x.length - k ∧ k ≤ x.length) ⟨_, _, ⟨0, _, rfl, rfl, Nat.zero_le _⟩, (by repeat (first | exact trivial | refine ⟨rfl, ?_⟩)), (by repeat (first | exact List.Sublist.refl _ | refine List.Sublist.cons _ ?_))⟩ ?_
        rintro m _ ⟨k, v2, rfl, rfl, hk⟩
        refine CW.boundM (t := 29) rfl (fun hbs => ?_)
        refine CW.seq ?_
        refine CW.region ?_
        refine OL.popC rfl rfl rfl (POp.cmp rfl rfl rfl rfl rfl rfl) ?_
        refine OL.nil ?_
        refine Done.seq ?_
        refine CW.seq ?_
        refine CW.cond rfl (fun h2 => ?_) (fun h2 => ?_)
        ·
          try simp only [decide_eq_true_eq, decide_eq_false_iff_not, beq_iff_eq, bne_iff_ne, ne_eq, Int.not_lt, Int.not_le, beq_eq_false_iff_ne, gt_iff_lt, ge_iff_le, Bool.not_eq_true, Bool.not_eq_false, Bool.not_eq_false', bne_eq_false_iff_eq] at h2
          have hkl : k < x.length := by omega
          refine CW.skip ?_
          refine Done.seq ?_
          refine CW.seq ?_
          refine CW.block ?_
          refine CW.seq ?_
          refine CW.region ?_
          refine OL.popC rfl rfl rfl ((by first | exact POp.ixM rfl rfl rfl rfl rfl (by omega) | exact POp.ixI rfl rfl rfl rfl rfl (by omega))) ?_
          refine OL.popC rfl rfl rfl ((by first | exact POp.ldA rfl rfl rfl rfl | (apply POp.ldAH rfl rfl rfl; (case hm => repeat (first | exact .head _ | refine .tail _ ?_)); (case hy => rfl); (case hn => rfl)))) ?_
          refine OL.alC rfl rfl rfl rfl (fun b2 => ?_)
          apply OL.stoC rfl rfl rfl rfl rfl rfl rfl rfl rfl rfl
          (case hu => repeat (first | exact Upd.head _ _ _ | apply Upd.tail)); (case hfit => rfl); (case hds => rfl)
          refine OL.nil ?_
          refine Done.seq ?_
          refine CW.region ?_
          refine OL.popC rfl rfl rfl (POp.move rfl rfl rfl) ?_
          refine OL.popC rfl rfl rfl ((by first | exact POp.ldA rfl rfl rfl rfl | (apply POp.ldAH rfl rfl rfl; (case hm => repeat (first | exact .head _ | refine .tail _ ?_)); (case hy => rfl); (case hn => rfl)))) ?_
          refine OL.popC rfl rfl rfl (POp.call (.mk' rfl rfl rfl rfl rfl) (p83 (x.getD k default) (lit_small (hxl _ (getD_mem hkl))))) ?_
          refine OL.popC rfl rfl rfl (POp.row rfl rfl (by first | rfl | simp_all [strip]) rfl rfl rfl rfl rfl rfl) ?_
          refine OL.appendC rfl rfl rfl rfl rfl rfl rfl rfl (AVle.refl _) (rfl) (fun v => by repeat (first | exact Upd.head _ _ _ | apply Upd.tail)) (by show (List.length (encFs _) + 1) * 80 ≤ _; rw [len_facts, factL, List.length_map, List.length_take]; omega) (by show List.length (encFs _) + 1 ≤ _; rw [len_facts, factL, List.length_map, List.length_take]; omega) (fun v39 => ?_)
          refine OL.popC rfl rfl rfl (POp.assign rfl rfl rfl) ?_
          refine OL.nil ?_
          refine Done.blkNormal ?_
          refine Done.seq ?_
          refine CW.le 10 (y := .as (AV.facts (factL (x.take (k + 1)))) v39) rfl (by rw [factL_snoc x k hkl, show AV.facts (factL (x.take k) ++ [litF (x.getD k default)]) = AV.sl 6 (encFs (factL (x.take k)) ++ [Fcells (litF (x.getD k default))]) from congrArg _ (facts_snoc _ _).symm]; exact AVle.refl _) ?_
          refine CW.region ?_
          refine OL.popC rfl rfl rfl (POp.arith rfl rfl rfl rfl rfl rfl (wrap64 (by omega))) ?_
          refine OL.popC rfl rfl rfl (POp.move rfl rfl rfl) ?_
          refine OL.nil ?_
          refine Done.againJ (⟨k + 1, v39, rfl, rfl, by omega⟩) ?_ ?_ ?_
          · omega
          · repeat (first | exact trivial | refine ⟨rfl, ?_⟩)
          · repeat (first | exact List.Sublist.refl _ | refine List.Sublist.cons _ ?_)
        ·
          try simp only [decide_eq_true_eq, decide_eq_false_iff_not, beq_iff_eq, bne_iff_ne, ne_eq, Int.not_lt, Int.not_le, beq_eq_false_iff_ne, gt_iff_lt, ge_iff_le, Bool.not_eq_true, Bool.not_eq_false, Bool.not_eq_false', bne_eq_false_iff_eq] at h2
          obtain rfl : k = x.length := by omega
          rw [List.take_length]
          refine CW.exit ?_
          refine Done.thenExit ?_
          refine Done.thenExit ?_
          refine Done.blkExit ?_
          refine Done.seq ?_
          refine CW.region ?_
          refine OL.popC rfl rfl rfl ((by first | exact POp.ld1 rfl rfl rfl rfl | (apply POp.ld1H rfl rfl rfl; (case hm => repeat (first | exact .head _ | refine .tail _ ?_)); (case hy => rfl)))) ?_
          refine OL.popC rfl rfl rfl (POp.move rfl rfl rfl) ?_
          refine OL.popC rfl rfl rfl (POp.row rfl rfl (by first | rfl | simp_all [strip]) rfl rfl rfl rfl rfl rfl) ?_
          refine OL.appendC rfl rfl rfl rfl rfl rfl rfl rfl (AVle.sl (.cons (.cons (AVle.asL _ _) .nil) .nil)) (rfl) (fun v => by repeat (first | exact Upd.head _ _ _ | apply Upd.tail)) (by show (List.length (List.map _ _) + 1) * 24 ≤ _; rw [List.length_map]; omega) (by show List.length (List.map _ _) + 1 ≤ _; rw [List.length_map]; omega) (fun v44 => ?_)
          apply OL.stoC rfl rfl rfl rfl rfl rfl rfl rfl rfl rfl
          (case hu => repeat (first | exact Upd.head _ _ _ | apply Upd.tail)); (case hfit => rfl); (case hds => exact congrArg (fun z => [AV.as (.sl 1 z) v44]) ((factss_snoc _ _).symm.trans (by rw [← casesL_yes hyes])))
          refine OL.nil ?_
          refine Done.blkNormal ?_
          exact Done.roundN (by repeat (first | exact List.Sublist.refl _ | refine List.Sublist.cons _ ?_)) (⟨v44, rfl⟩)
    · intro D0 H1 hJ
      obtain ⟨v, rfl⟩ := hJ
      refine Done.blkNormal ?_
      refine Done.seq ?_
      refine CW.seq ?_
      refine CW.region ?_
      refine OL.popC rfl rfl rfl ((by first | exact POp.ld1 rfl rfl rfl rfl | (apply POp.ld1H rfl rfl rfl; (case hm => repeat (first | exact .head _ | refine .tail _ ?_)); (case hy => rfl)))) ?_
      refine OL.popC rfl rfl rfl (POp.assign rfl rfl rfl) ?_
      refine OL.popC rfl rfl rfl (POp.assign rfl rfl rfl) ?_
      refine OL.nil ?_
      refine Done.seq ?_
      refine CW.ret ?_
      refine Done.retM1 (rs := [.tmp 4, .tmp 5]) (H' := H) rfl (by repeat (first | exact Del.head _ _ | apply Del.tail)) (.tmp rfl (.tmp rfl (.nil))) (.cons (AVle.asL _ _) (.cons (.refl _) .nil)) (by repeat (first | exact List.Sublist.refl _ | refine List.Sublist.cons _ ?_)) ?_
      exact ⟨rfl, rfl⟩
    · intro D0 code0 pre H1 hpre hJx
      exact hJx.elim
end Go.Proofs.YtiljpbljebfhnaaGreat

set_option linter.unusedVariables false
set_option linter.unusedSimpArgs false
set_option maxRecDepth 10000
namespace Go.Proofs.YtiljpbljebfhnaaGreat
open Go.Eng
open Go.Eng.Fc
/-- the cases of an implication -/
def impCases (a b : Fact) : List (List FLit) := casesP (andF a (notF b)) false
theorem imp_good {W : FW} (hw : worldP W = true) {a b : Fact} (ha : wfB W a = true) (hb : wfB W b = true) (hna : nodesN a ≤ 24) (hnb : nodesN b ≤ 24) : GoodF W (andF a (notF b)) :=
  good_of hw (wf_and ha (wf_not hb)) (by rw [nodes_and, nodes_not]; omega)
theorem p101s {W : FW} {a b : Fact} (hG : GoodF W (andF a (notF b))) (hs : (impCases a b).length ≤ 400) : PCall Tryz.prog 101 [AV.fact a, AV.fact b] (.tup [AV.litss (impCases a b), .b true]) := by
  intro H
  refine ACall.mkM (n := 22) Tryz.func101 rfl (by kernel_rfl) rfl rfl (fun B I w0 => ?_)
  refine CW.seq ?_
  refine CW.region ?_
  refine OL.popC rfl rfl rfl (POp.boxI rfl rfl rfl rfl) ?_
  refine OL.popC rfl rfl rfl (POp.boxI rfl rfl rfl rfl) ?_
  refine OL.alC rfl rfl rfl rfl (fun b4 => ?_)
  refine OL.alC rfl rfl rfl rfl (fun b5 => ?_)
  refine OL.nil ?_
  refine Done.seq ?_
  refine CW.seq ?_
  refine CW.region ?_
  refine OL.alC rfl rfl rfl rfl (fun ob => ?_)
  refine OL.nil ?_
  refine Done.seq ?_
  refine CW.seq ?_
  refine CW.seq ?_
  refine CW.ownNilB 115 1 0 (.head _ _ _) rfl rfl ?_
  refine CW.dp mixed ?_
  refine DP.anyC 0 3 22 rfl (by decide +kernel) rfl rfl (by decide +kernel) ?_
  refine AD.popC rfl rfl rfl ((by first | exact POp.ldA rfl rfl rfl rfl | (apply POp.ldAH rfl rfl rfl; (case hm => repeat (first | exact .head _ | refine .tail _ ?_)); (case hy => rfl); (case hn => rfl)))) ?_
  refine AD.popC rfl rfl rfl ((by first | exact POp.ldA rfl rfl rfl rfl | (apply POp.ldAH rfl rfl rfl; (case hm => repeat (first | exact .head _ | refine .tail _ ?_)); (case hy => rfl); (case hn => rfl)))) ?_
  refine AD.popC rfl rfl rfl (POp.call (.mk' rfl rfl rfl rfl rfl) (p140 b)) ?_
  refine AD.nil ?_
  refine DP.tailC 3 (by decide +kernel) rfl ?_
  refine OL.popC rfl rfl rfl (POp.call (.mk' rfl rfl rfl rfl rfl) (p143 a (notF b))) ?_
  refine OL.popC rfl rfl rfl (POp.call (.mk' rfl rfl rfl rfl rfl) (p81 (andF a (notF b)) false)) ?_
  refine OL.nil ?_
  refine Done.seq ?_
  refine CW.block ?_
  refine CW.weaken (st' := ⟨[(4, .p b4 0), (5, .p b5 0), (6, .p ob 0), (12, .fn (.func 132) [] [.ptr (Fcells (andF a (notF b))), .ptr [.b false]])], [.own 115 1 (.slice none 0 0), .blk ob 127 [.as (AV.litss []) (.slice none 0 0)], .blk b5 4 [.b false], .blk b4 127 [.val (.slice none 0 0)]] ++ H⟩) (by repeat (first | exact trivial | refine ⟨rfl, ?_⟩)) (by repeat (first | exact List.Sublist.refl _ | refine List.Sublist.cons _ ?_)) ?_
  refine CW.rangeFunc (AV.lits) (impCases a b) (fun pre H1 => pre.length ≤ 400 ∧ ∃ v, H1 = [.own 115 1 v, .blk ob 127 [.as (AV.litss pre) v], .blk b5 4 [.b false], .blk b4 127 [.val (.slice none 0 0)]]) (fun code pre H1 => False) ([.own 115 1 (.slice none 0 0), .blk ob 127 [.as (AV.litss []) (.slice none 0 0)], .blk b5 4 [.b false], .blk b4 127 [.val (.slice none 0 0)]]) (H) (fun x => (7, AV.lits x) :: (13, AV.lits x) :: [(4, .p b4 0), (5, .p b5 0), (6, .p ob 0), (12, .fn (.func 132) [] [.ptr (Fcells (andF a (notF b))), .ptr [.b false]])]) rfl rfl rfl rfl (seq132 (andF a (notF b)) hG.ok hG.nodes false) (⟨Nat.zero_le _, _, rfl⟩) ?_ ?_ ?_ ?_
  · intro l0 I1 w1 x Hy
    refine CW.region ?_
    refine OL.popC rfl rfl rfl (POp.assign rfl rfl rfl) ?_
    refine OL.nil ?_
    exact fun a w s => ⟨_, rfl, s⟩
  · intro l0 D0 lp pre x H1 Hy I1 w1 hpre hJ
    obtain ⟨hpl, v, rfl⟩ := hJ
    have hpp := hpre.length_le
    rw [List.length_append, List.length_singleton] at hpp
    refine CW.block ?_
    refine CW.seq ?_
    refine CW.seq ?_
    refine CW.region ?_
    refine OL.popC rfl rfl rfl ((by first | exact POp.ld1 rfl rfl rfl rfl | (apply POp.ld1H rfl rfl rfl; (case hm => repeat (first | exact .head _ | refine .tail _ ?_)); (case hy => rfl)))) ?_
    refine OL.popC rfl rfl rfl ((by first | exact POp.lenM rfl rfl rfl | exact POp.lenA rfl rfl rfl | exact POp.lenV rfl rfl rfl | exact POp.len' rfl rfl rfl)) ?_
    refine OL.popC rfl rfl rfl (POp.cmp rfl rfl rfl rfl rfl rfl) ?_
    refine OL.nil ?_
    refine Done.seq ?_
    refine CW.cond rfl (fun h0 => ?_) (fun h0 => ?_)
    ·
      exfalso
      simp only [beq_iff_eq, List.length_map] at h0
      omega
    ·
      try simp only [decide_eq_true_eq, decide_eq_false_iff_not, beq_iff_eq, bne_iff_ne, ne_eq, Int.not_lt, Int.not_le, beq_eq_false_iff_ne, gt_iff_lt, ge_iff_le, Bool.not_eq_true, Bool.not_eq_false, Bool.not_eq_false', bne_eq_false_iff_eq] at h0
      rw [List.length_map] at h0
      refine CW.skip ?_
      refine Done.seq ?_
      refine CW.region ?_
      refine OL.popC rfl rfl rfl ((by first | exact POp.ld1 rfl rfl rfl rfl | (apply POp.ld1H rfl rfl rfl; (case hm => repeat (first | exact .head _ | refine .tail _ ?_)); (case hy => rfl)))) ?_
      refine OL.popC rfl rfl rfl (POp.move rfl rfl rfl) ?_
      refine OL.popC rfl rfl rfl (POp.row rfl rfl (by first | rfl | simp_all [strip]) rfl rfl rfl rfl rfl rfl) ?_
      refine OL.appendC rfl rfl rfl rfl rfl rfl rfl rfl (AVle.refl _) (rfl) (fun v => by repeat (first | exact Upd.head _ _ _ | apply Upd.tail)) (by show (List.length (List.map _ _) + 1) * 24 ≤ _; rw [List.length_map]; omega) (by show List.length (List.map _ _) + 1 ≤ _; rw [List.length_map]; omega) (fun v20 => ?_)
      apply OL.stoC rfl rfl rfl rfl rfl rfl rfl rfl rfl rfl
      (case hu => repeat (first | exact Upd.head _ _ _ | apply Upd.tail)); (case hfit => rfl); (case hds => exact congrArg (fun z => [AV.as (.sl 1 z) v20]) (litss_snoc _ _).symm)
      refine OL.nil ?_
      refine Done.blkNormal ?_
      exact Done.roundN (by repeat (first | exact List.Sublist.refl _ | refine List.Sublist.cons _ ?_)) (⟨by rw [List.length_append, List.length_singleton]; omega, v20, rfl⟩)
  · intro D0 H1 hJ
    obtain ⟨hpl, v, rfl⟩ := hJ
    refine Done.blkNormal ?_
    refine Done.seq ?_
    refine CW.seq ?_
    refine CW.region ?_
    refine OL.popC rfl rfl rfl ((by first | exact POp.ld1 rfl rfl rfl rfl | (apply POp.ld1H rfl rfl rfl; (case hm => repeat (first | exact .head _ | refine .tail _ ?_)); (case hy => rfl)))) ?_
    apply OL.stoC rfl rfl rfl rfl rfl rfl rfl rfl rfl rfl
    (case hu => repeat (first | exact Upd.head _ _ _ | apply Upd.tail)); (case hfit => rfl); (case hds => rfl)
    apply OL.stoC rfl rfl rfl rfl rfl rfl rfl rfl rfl rfl
    (case hu => repeat (first | exact Upd.head _ _ _ | apply Upd.tail)); (case hfit => rfl); (case hds => rfl)
    refine OL.nil ?_
    refine Done.seq ?_
    refine CW.ret ?_
    refine Done.retM1 (rs := [.cell 4 127, .cell 5 4]) (H' := H) rfl (by repeat (first | exact Del.head _ _ | apply Del.tail)) ((by first | exact .cell1 inferInstance rfl (by repeat (first | exact .head _ | refine .tail _ ?_)) rfl ((by first | exact .cell1 inferInstance rfl (by repeat (first | exact .head _ | refine .tail _ ?_)) rfl (.nil) | exact .ptr1 inferInstance rfl rfl (.nil))) | exact .ptr1 inferInstance rfl rfl ((by first | exact .cell1 inferInstance rfl (by repeat (first | exact .head _ | refine .tail _ ?_)) rfl (.nil) | exact .ptr1 inferInstance rfl rfl (.nil))))) (.cons (AVle.asL _ _) (.cons (.refl _) .nil)) (by repeat (first | exact List.Sublist.refl _ | refine List.Sublist.cons _ ?_)) ?_
    exact ⟨rfl, rfl⟩
  · intro D0 code0 pre H1 hpre hJx
    exact hJx.elim
theorem p101l {W : FW} {a b : Fact} (hG : GoodF W (andF a (notF b))) (hs : 400 < (impCases a b).length) : PCall Tryz.prog 101 [AV.fact a, AV.fact b] (.tup [.sl 1 [], .b false]) := by
  intro H
  refine ACall.mkM (n := 22) Tryz.func101 rfl (by kernel_rfl) rfl rfl (fun B I w0 => ?_)
  refine CW.seq ?_
  refine CW.region ?_
  refine OL.popC rfl rfl rfl (POp.boxI rfl rfl rfl rfl) ?_
  refine OL.popC rfl rfl rfl (POp.boxI rfl rfl rfl rfl) ?_
  refine OL.alC rfl rfl rfl rfl (fun b4 => ?_)
  refine OL.alC rfl rfl rfl rfl (fun b5 => ?_)
  refine OL.nil ?_
  refine Done.seq ?_
  refine CW.seq ?_
  refine CW.region ?_
  refine OL.alC rfl rfl rfl rfl (fun ob => ?_)
  refine OL.nil ?_
  refine Done.seq ?_
  refine CW.seq ?_
  refine CW.seq ?_
  refine CW.ownNilB 115 1 0 (.head _ _ _) rfl rfl ?_
  refine CW.dp mixed ?_
  refine DP.anyC 0 3 22 rfl (by decide +kernel) rfl rfl (by decide +kernel) ?_
  refine AD.popC rfl rfl rfl ((by first | exact POp.ldA rfl rfl rfl rfl | (apply POp.ldAH rfl rfl rfl; (case hm => repeat (first | exact .head _ | refine .tail _ ?_)); (case hy => rfl); (case hn => rfl)))) ?_
  refine AD.popC rfl rfl rfl ((by first | exact POp.ldA rfl rfl rfl rfl | (apply POp.ldAH rfl rfl rfl; (case hm => repeat (first | exact .head _ | refine .tail _ ?_)); (case hy => rfl); (case hn => rfl)))) ?_
  refine AD.popC rfl rfl rfl (POp.call (.mk' rfl rfl rfl rfl rfl) (p140 b)) ?_
  refine AD.nil ?_
  refine DP.tailC 3 (by decide +kernel) rfl ?_
  refine OL.popC rfl rfl rfl (POp.call (.mk' rfl rfl rfl rfl rfl) (p143 a (notF b))) ?_
  refine OL.popC rfl rfl rfl (POp.call (.mk' rfl rfl rfl rfl rfl) (p81 (andF a (notF b)) false)) ?_
  refine OL.nil ?_
  refine Done.seq ?_
  refine CW.block ?_
  refine CW.weaken (st' := ⟨[(4, .p b4 0), (5, .p b5 0), (6, .p ob 0), (12, .fn (.func 132) [] [.ptr (Fcells (andF a (notF b))), .ptr [.b false]])], [.own 115 1 (.slice none 0 0), .blk ob 127 [.as (AV.litss []) (.slice none 0 0)], .blk b5 4 [.b false], .blk b4 127 [.val (.slice none 0 0)]] ++ H⟩) (by repeat (first | exact trivial | refine ⟨rfl, ?_⟩)) (by repeat (first | exact List.Sublist.refl _ | refine List.Sublist.cons _ ?_)) ?_
  refine CW.rangeFunc (AV.lits) (impCases a b) (fun pre H1 => pre.length ≤ 400 ∧ ∃ v, H1 = [.own 115 1 v, .blk ob 127 [.as (AV.litss pre) v], .blk b5 4 [.b false], .blk b4 127 [.val (.slice none 0 0)]]) (fun code pre H1 => code = .ret ∧ ∃ v ws, H1 = [.own 115 1 v, .blk ob 127 [.as (AV.litss ws) v], .blk b5 4 [.b false], .blk b4 127 [.val (.slice none 0 0)]]) ([.own 115 1 (.slice none 0 0), .blk ob 127 [.as (AV.litss []) (.slice none 0 0)], .blk b5 4 [.b false], .blk b4 127 [.val (.slice none 0 0)]]) (H) (fun x => (7, AV.lits x) :: (13, AV.lits x) :: [(4, .p b4 0), (5, .p b5 0), (6, .p ob 0), (12, .fn (.func 132) [] [.ptr (Fcells (andF a (notF b))), .ptr [.b false]])]) rfl rfl rfl rfl (seq132 (andF a (notF b)) hG.ok hG.nodes false) (⟨Nat.zero_le _, _, rfl⟩) ?_ ?_ ?_ ?_
  · intro l0 I1 w1 x Hy
    refine CW.region ?_
    refine OL.popC rfl rfl rfl (POp.assign rfl rfl rfl) ?_
    refine OL.nil ?_
    exact fun a w s => ⟨_, rfl, s⟩
  · intro l0 D0 lp pre x H1 Hy I1 w1 hpre hJ
    obtain ⟨hpl, v, rfl⟩ := hJ
    have hpp := hpre.length_le
    rw [List.length_append, List.length_singleton] at hpp
    refine CW.block ?_
    refine CW.seq ?_
    refine CW.seq ?_
    refine CW.region ?_
    refine OL.popC rfl rfl rfl ((by first | exact POp.ld1 rfl rfl rfl rfl | (apply POp.ld1H rfl rfl rfl; (case hm => repeat (first | exact .head _ | refine .tail _ ?_)); (case hy => rfl)))) ?_
    refine OL.popC rfl rfl rfl ((by first | exact POp.lenM rfl rfl rfl | exact POp.lenA rfl rfl rfl | exact POp.lenV rfl rfl rfl | exact POp.len' rfl rfl rfl)) ?_
    refine OL.popC rfl rfl rfl (POp.cmp rfl rfl rfl rfl rfl rfl) ?_
    refine OL.nil ?_
    refine Done.seq ?_
    refine CW.cond rfl (fun h0 => ?_) (fun h0 => ?_)
    ·
      try simp only [decide_eq_true_eq, decide_eq_false_iff_not, beq_iff_eq, bne_iff_ne, ne_eq, Int.not_lt, Int.not_le, beq_eq_false_iff_ne, gt_iff_lt, ge_iff_le, Bool.not_eq_true, Bool.not_eq_false, Bool.not_eq_false', bne_eq_false_iff_eq] at h0
      refine CW.seq ?_
      refine CW.region ?_
      apply OL.stoC rfl rfl rfl rfl rfl rfl rfl rfl rfl rfl
      (case hu => repeat (first | exact Upd.head _ _ _ | apply Upd.tail)); (case hfit => rfl); (case hds => rfl)
      apply OL.stoC rfl rfl rfl rfl rfl rfl rfl rfl rfl rfl
      (case hu => repeat (first | exact Upd.head _ _ _ | apply Upd.tail)); (case hfit => rfl); (case hds => rfl)
      refine OL.nil ?_
      refine Done.seq ?_
      refine CW.ret ?_
      refine Done.thenRet ?_
      refine Done.blkRet ?_
      exact Done.roundR (by repeat (first | exact List.Sublist.refl _ | refine List.Sublist.cons _ ?_)) (⟨rfl, v, pre, rfl⟩)
    ·
      try simp only [decide_eq_true_eq, decide_eq_false_iff_not, beq_iff_eq, bne_iff_ne, ne_eq, Int.not_lt, Int.not_le, beq_eq_false_iff_ne, gt_iff_lt, ge_iff_le, Bool.not_eq_true, Bool.not_eq_false, Bool.not_eq_false', bne_eq_false_iff_eq] at h0
      rw [List.length_map] at h0
      refine CW.skip ?_
      refine Done.seq ?_
      refine CW.region ?_
      refine OL.popC rfl rfl rfl ((by first | exact POp.ld1 rfl rfl rfl rfl | (apply POp.ld1H rfl rfl rfl; (case hm => repeat (first | exact .head _ | refine .tail _ ?_)); (case hy => rfl)))) ?_
      refine OL.popC rfl rfl rfl (POp.move rfl rfl rfl) ?_
      refine OL.popC rfl rfl rfl (POp.row rfl rfl (by first | rfl | simp_all [strip]) rfl rfl rfl rfl rfl rfl) ?_
      refine OL.appendC rfl rfl rfl rfl rfl rfl rfl rfl (AVle.refl _) (rfl) (fun v => by repeat (first | exact Upd.head _ _ _ | apply Upd.tail)) (by show (List.length (List.map _ _) + 1) * 24 ≤ _; rw [List.length_map]; omega) (by show List.length (List.map _ _) + 1 ≤ _; rw [List.length_map]; omega) (fun v20 => ?_)
      apply OL.stoC rfl rfl rfl rfl rfl rfl rfl rfl rfl rfl
      (case hu => repeat (first | exact Upd.head _ _ _ | apply Upd.tail)); (case hfit => rfl); (case hds => exact congrArg (fun z => [AV.as (.sl 1 z) v20]) (litss_snoc _ _).symm)
      refine OL.nil ?_
      refine Done.blkNormal ?_
      exact Done.roundN (by repeat (first | exact List.Sublist.refl _ | refine List.Sublist.cons _ ?_)) (⟨by rw [List.length_append, List.length_singleton]; omega, v20, rfl⟩)
  · intro D0 H1 hJ
    exact absurd hJ.1 (by omega)
  · intro D0 code0 pre H1 hpre hJx
    obtain ⟨rfl, v, ws, rfl⟩ := hJx
    ·
      skip
      refine CW.ret ?_
      refine Done.blkRet ?_
      refine Done.thenRet ?_
      refine Done.retM1 (rs := [.cell 4 127, .cell 5 4]) (H' := H) rfl (by repeat (first | exact Del.head _ _ | apply Del.tail)) ((by first | exact .cell1 inferInstance rfl (by repeat (first | exact .head _ | refine .tail _ ?_)) rfl ((by first | exact .cell1 inferInstance rfl (by repeat (first | exact .head _ | refine .tail _ ?_)) rfl (.nil) | exact .ptr1 inferInstance rfl rfl (.nil))) | exact .ptr1 inferInstance rfl rfl ((by first | exact .cell1 inferInstance rfl (by repeat (first | exact .head _ | refine .tail _ ?_)) rfl (.nil) | exact .ptr1 inferInstance rfl rfl (.nil))))) (.cons (AVle.nil 1) (.cons (.refl _) .nil)) (by repeat (first | exact List.Sublist.refl _ | refine List.Sublist.cons _ ?_)) ?_
      exact ⟨rfl, rfl⟩
end Go.Proofs.YtiljpbljebfhnaaGreat

set_option linter.unusedVariables false
set_option linter.unusedSimpArgs false
set_option maxRecDepth 10000
namespace Go.Proofs.YtiljpbljebfhnaaGreat
open Go.Eng
open Go.Eng.Fc
theorem intEls_map (l : List Int) : (intEls l).flatten = l.map AV.i := by
  induction l with
  | nil => rfl
  | cons x r ih => simp only [intEls, List.map_cons, List.flatten_cons] at ih ⊢; rw [ih]; rfl
theorem Done.freezeS {c : Ctx} {st : St} {Q : Exit → Act → World → Prop} {e : Exit} {d b n cap k : Nat} {t : TypeId} {els : List (List AV)} {more : List AV} {H' : List Ent} (hd : envGet st.env d = some (.val (.slice (some ⟨b, 0, none⟩) n cap))) (hD : Del st.H (.blk b t (els.flatten ++ more)) H')
    (hn : els.length = n) (hk : ∀ e ∈ els, e.length = k) (hc : n ≤ cap) (hm : cap ≤ maxLen) (h : Done c ⟨(d, .sl k els) :: st.env, H'⟩ e Q) : Done c st e Q := fun a w s => h a w (s.freezeS hd hD hn hk hc hm)
def findI (p : Int → Bool) (l : List Int) : Int := match l.findIdx? p with | some i => i | none => -1
theorem findI_none {p : Int → Bool} {l : List Int} (h : ∀ x ∈ l, p x = false) : findI p l = -1 := by
  have : l.findIdx? p = none := List.findIdx?_eq_none_iff.2 h
  rw [findI, this]
theorem findI_some {p : Int → Bool} {pre : List Int} {x : Int} {rest : List Int} (h : ∀ y ∈ pre, p y = false) (hx : p x = true) : findI p (pre ++ x :: rest) = pre.length := by
  have h0 : pre.findIdx? p = none := List.findIdx?_eq_none_iff.2 h
  have : (pre ++ x :: rest).findIdx? p = some pre.length := by
    rw [List.findIdx?_append, h0]; simp [List.findIdx?_cons, hx]
  rw [findI, this]
theorem p150x {f : FuncId} {fs cs : List AV} {p : Int → Bool} (hg : PredOk Tryz.prog (.fn (.func f) fs cs) AV.i p) (l : List Int) : PCall Tryz.prog 150 [AV.ints l, .fn (.func f) fs cs] (.i (findI p l)) := by
  intro H
  have h0 := fun B => b150 (B := B) l ((hg.on l).find) [] H (by simp) ⟨rfl, by simp⟩
  refine ⟨(h0 0).1, fun B I w vs hw hh hv => ((h0 B).2 I w vs hw hh hv).mono fun e w' hr => hr.mono ?_ (fun _ h => h)⟩
  rintro y H' ⟨H1, rfl, ⟨rfl, rfl, hx⟩ | ⟨pre, x, rest, rfl, rfl, rfl, q, z, hq, hqa, hz⟩⟩
  · exact ⟨by rw [findI_none hx], rfl⟩
  · obtain ⟨e1, e2⟩ := List.append_inj' hq rfl
    simp at e2
    subst e1; subst e2
    exact ⟨by rw [findI_some hqa hz], rfl⟩
theorem found_split {p : Int → Bool} {l : List Int} (h : ¬ findI p l = -1) : ∃ pre x rest, l = pre ++ x :: rest ∧ (∀ y ∈ pre, p y = false) ∧ p x = true ∧ findI p l = pre.length := by
  induction l with
  | nil => exact absurd rfl h
  | cons y r ih =>
    cases hy : p y with
    | true => exact ⟨[], y, r, rfl, by simp, hy, findI_some (pre := []) (by simp) hy⟩
    | false =>
      have h' : ¬ findI p r = -1 := fun e => h (by
        unfold findI at e ⊢
        cases hf : r.findIdx? p with
        | none => simp [List.findIdx?_cons, hy, hf]
        | some i => rw [hf] at e; exact absurd e (by simp only; omega))
      obtain ⟨pre, x, rest, e1, e2, e3, e4⟩ := ih h'
      refine ⟨y :: pre, x, rest, by rw [e1]; rfl, ?_, e3, ?_⟩
      · intro z hz; rcases List.mem_cons.1 hz with rfl | hz; exact hy; exact e2 z hz
      · rw [e1]; exact findI_some (pre := y :: pre) (by intro z hz; rcases List.mem_cons.1 hz with rfl | hz; exact hy; exact e2 z hz) e3
theorem filter_none {p : Int → Bool} {l : List Int} (h : findI p l = -1) : l.filter (fun x => !p x) = l := by
  rw [List.filter_eq_self]
  intro x hx
  unfold findI at h
  cases hf : l.findIdx? p with
  | none => rw [List.findIdx?_eq_none_iff.1 hf x hx]; rfl
  | some i => rw [hf] at h; exact absurd h (by simp only; omega)
theorem a32 (B : Nat) (l : List Int) (hne : l ≠ []) (hl : l.length ≤ 1000000) (H : List Ent) : BCall B Tryz.prog 32 [AV.ints l] H (fun y H' => ∃ b cap more, y = .val (.slice (some ⟨b, 0, none⟩) (intEls l).length cap) ∧ (intEls l).length ≤ cap ∧ cap ≤ maxLen ∧ H' = .blk b 3 ((intEls l).flatten ++ more) :: H) (fun _ => False) := by
  refine BCall.of (n := 8) Tryz.func32 rfl (by kernel_rfl) rfl rfl (fun I w0 => ?_)
  refine CW.seq ?_
  refine CW.region ?_
  refine OL.popC rfl rfl rfl (POp.assign rfl rfl rfl) ?_
  refine OL.nil ?_
  refine Done.seq ?_
  refine CW.seq ?_
  refine CW.seq ?_
  refine CW.region ?_
  refine OL.popC rfl rfl rfl (POp.move rfl rfl rfl) ?_
  refine OL.isNilC rfl rfl rfl rfl rfl rfl rfl (AVle.refl _) rfl rfl (fun n4 hn4 => ?_)
  refine OL.nil ?_
  refine Done.seq ?_
  refine CW.cond rfl (fun h0 => ?_) (fun h0 => ?_)
  ·
    exact absurd (hn4 h0) (by simpa using hne)
  ·
    skip
    refine CW.skip ?_
    refine Done.seq ?_
    refine CW.seq ?_
    refine CW.region ?_
    refine OL.popC rfl rfl rfl (POp.row0 rfl) ?_
    refine OL.popC rfl rfl rfl (POp.move rfl rfl rfl) ?_
    refine OL.appendNew rfl rfl rfl rfl rfl rfl (AVle.refl _) rfl rfl (AVle.refl _) (by simpa using hne) (one_map (fun _ => rfl) l) (by simp; omega) (by simp; omega) (fun b cap more hc1 hc2 => ?_)
    refine OL.popC rfl rfl rfl (POp.assign rfl rfl rfl) ?_
    refine OL.nil ?_
    refine Done.seq ?_
    refine CW.ret ?_
    refine Done.retR (rs := [.tmp 2]) rfl (.tmp rfl (.nil)) (AVleL.refl _) (by exact List.Sublist.refl _) ?_
    exact ⟨b, cap, more, rfl, hc1, hc2, rfl⟩
theorem del_take {p : Int → Bool} {l : List Int} {j : Nat} (h : j < l.length) : (l.take (j + 1)).filter (fun x => !p x) = (l.take j).filter (fun x => !p x) ++ (if p (l.getD j default) then [] else [l.getD j default]) := by
  rw [← take_getD h, List.filter_append]
  generalize l.getD j default = v
  cases hp : p v <;> simp [hp]
theorem del_cell {l kept junk : List Int} {j : Nat} {more : List AV} (h : kept.length + junk.length = j) (hj : j < l.length) : ((kept ++ junk ++ l.drop j).map AV.i ++ more)[0 + ((j : Int)).toNat * 1]? = some (AV.i (l.getD j default)) := by
  rw [List.drop_eq_getElem_cons hj, getD_lt hj]
  have e : 0 + ((j : Int)).toNat * 1 = (kept ++ junk).length := by simp; omega
  rw [e, List.map_append, List.append_assoc, List.getElem?_append_right (by simp), List.map_cons]
  simp
theorem del_store {l kept junk : List Int} {i j : Nat} {more : List AV} (hi : i = kept.length) (h : kept.length + junk.length = j) (hj : j < l.length) (hn : junk ≠ []) (v : Int) (hv : v = l.getD j default) :
    ((kept ++ junk ++ l.drop j).map AV.i ++ more).take (0 + ((i : Int)).toNat * 1) ++ [AV.i v] ++ ((kept ++ junk ++ l.drop j).map AV.i ++ more).drop (0 + ((i : Int)).toNat * 1 + 1) = ((kept ++ [v]) ++ (junk.tail ++ [v]) ++ l.drop (j + 1)).map AV.i ++ more := by
  subst hi
  obtain ⟨x, r, rfl⟩ := List.exists_cons_of_ne_nil hn
  have e : 0 + ((kept.length : Int)).toNat * 1 = (kept.map AV.i).length := by simp
  rw [e]
  have e2 : (kept ++ x :: r ++ l.drop j).map AV.i ++ more = kept.map AV.i ++ (AV.i x :: (r.map AV.i ++ ((l.drop j).map AV.i ++ more))) := by simp
  have e3 : List.drop ((kept.map AV.i).length + 1) (kept.map AV.i ++ (AV.i x :: (r.map AV.i ++ ((l.drop j).map AV.i ++ more)))) = r.map AV.i ++ ((l.drop j).map AV.i ++ more) := by
    rw [← List.drop_drop, List.drop_left]; rfl
  rw [e2, List.take_left, e3, List.drop_eq_getElem_cons hj, ← getD_lt hj, ← hv]
  simp
theorem del_keep {l kept junk : List Int} {j : Nat} {more : List AV} (hj : j < l.length) : (kept ++ junk ++ l.drop j).map AV.i ++ more = (kept ++ (junk ++ [l.getD j default]) ++ l.drop (j + 1)).map AV.i ++ more := by
  rw [List.drop_eq_getElem_cons hj, getD_lt hj]; simp
theorem del_end {l kept junk : List Int} {i j n : Nat} {more : List AV} (hi : i = kept.length) : ∃ more', ((kept ++ junk ++ l.drop j).map AV.i ++ more).take (0 + i * 1) ++ List.replicate n .any ++ ((kept ++ junk ++ l.drop j).map AV.i ++ more).drop (0 + i * 1 + n) = (intEls kept).flatten ++ more' := by
  subst hi
  have e : 0 + kept.length * 1 = (kept.map AV.i).length := by simp
  have e2 : (kept ++ junk ++ l.drop j).map AV.i ++ more = kept.map AV.i ++ (junk.map AV.i ++ ((l.drop j).map AV.i ++ more)) := by simp
  rw [e, e2, List.take_left, intEls_map, List.append_assoc]
  exact ⟨_, rfl⟩
theorem b102 {f : FuncId} {fs cs : List AV} {p : Int → Bool} (hg : PredOk Tryz.prog (.fn (.func f) fs cs) AV.i p) (B : Nat) (l : List Int) (b cap : Nat) (more : List AV) (hl : l.length ≤ 1000000) (hc : (intEls l).length ≤ cap) (hcm : cap ≤ maxLen) (Hx : List Ent) :
    BCall B Tryz.prog 102 [.val (.slice (some ⟨b, 0, none⟩) (intEls l).length cap), .fn (.func f) fs cs] (.blk b 3 ((intEls l).flatten ++ more) :: Hx) (fun y H' => y = AV.ints (l.filter fun x => !p x) ∧ H' = Hx) (fun _ => False) := by
  refine BCall.of (n := 42) Tryz.func102 rfl (by kernel_rfl) rfl rfl (fun I w0 => ?_)
  refine CW.seq ?_
  refine CW.region ?_
  refine OL.popC rfl rfl rfl (POp.assign rfl rfl rfl) ?_
  refine OL.nil ?_
  refine Done.seq ?_
  refine CW.seq ?_
  refine CW.region ?_
  refine OL.popC rfl rfl rfl (POp.move rfl rfl rfl) ?_
  refine OL.popC rfl rfl rfl (POp.move rfl rfl rfl) ?_
  refine OL.popC rfl rfl rfl (POp.callB (.mk' rfl rfl rfl rfl rfl) (Borrow.blk (t := 3) (pre := []) (post := [.fn (.func f) fs cs]) (.head _) (by simp [intEls]) hc hcm) (p150x hg l)) ?_
  refine OL.popC rfl rfl rfl (POp.assign rfl rfl rfl) ?_
  refine OL.nil ?_
  refine Done.seq ?_
  refine CW.seq ?_
  refine CW.seq ?_
  refine CW.region ?_
  refine OL.popC rfl rfl rfl (POp.move rfl rfl rfl) ?_
  refine OL.popC rfl rfl rfl (POp.cmp rfl rfl rfl rfl rfl rfl) ?_
  refine OL.nil ?_
  refine Done.seq ?_
  refine CW.cond rfl (fun h0 => ?_) (fun h0 => ?_)
  ·
    try simp only [decide_eq_true_eq, decide_eq_false_iff_not, beq_iff_eq, bne_iff_ne, ne_eq, Int.not_lt, Int.not_le, beq_eq_false_iff_ne, gt_iff_lt, ge_iff_le, Bool.not_eq_true, Bool.not_eq_false, Bool.not_eq_false', bne_eq_false_iff_eq] at h0
    have hfn := filter_none h0
    refine CW.seq ?_
    refine CW.region ?_
    refine OL.popC rfl rfl rfl (POp.move rfl rfl rfl) ?_
    refine OL.popC rfl rfl rfl (POp.assign rfl rfl rfl) ?_
    refine OL.nil ?_
    refine Done.seq ?_
    refine CW.ret ?_
    refine Done.thenRet ?_
    refine Done.freezeS (d := 4) rfl (.head _ _) rfl (k := 1) (by simp [intEls]) hc hcm ?_
    refine Done.retR (rs := [.tmp 4]) (H' := Hx) rfl (.tmp rfl (.nil)) (AVleL.refl _) (by repeat (first | exact List.Sublist.refl _ | refine List.Sublist.cons _ ?_)) ?_
    exact ⟨by rw [hfn]; rfl, rfl⟩
  ·
    try simp only [decide_eq_true_eq, decide_eq_false_iff_not, beq_iff_eq, bne_iff_ne, ne_eq, Int.not_lt, Int.not_le, beq_eq_false_iff_ne, gt_iff_lt, ge_iff_le, Bool.not_eq_true, Bool.not_eq_false, Bool.not_eq_false', bne_eq_false_iff_eq] at h0
    obtain ⟨pre, x, rest, hlp, hpre, hpx, hfi⟩ := found_split h0
    have hlen : (intEls l).length = l.length := by simp [intEls]
    have hpl : pre.length + 1 ≤ l.length := by rw [hlp]; simp
    rw [hfi]
    refine CW.skip ?_
    refine Done.seq ?_
    refine CW.seq ?_
    refine CW.seq ?_
    refine CW.eqH (H' := .blk b 3 ((pre ++ [x] ++ l.drop (pre.length + 1)).map AV.i ++ more) :: Hx) (by rw [intEls_map]; congr 4; rw [hlp]; simp) ?_
    refine CW.region ?_
    refine OL.popC rfl rfl rfl (POp.move rfl rfl rfl) ?_
    refine OL.popC rfl rfl rfl (POp.arith rfl rfl rfl rfl rfl rfl (wrap64 (by omega))) ?_
    refine OL.popC rfl rfl rfl (POp.assign rfl rfl rfl) ?_
    refine OL.nil ?_
    refine Done.seq ?_
    refine CW.block ?_
    refine CW.loopJ (fun m st => ∃ (j i : Nat) (kept junk : List Int), st = ⟨[(6, .i j), (5, .i i), (0, .val (.slice (some ⟨b, 0, none⟩) (intEls l).length cap)), (1, .fn (.func f) fs cs)], .blk b 3 ((kept ++ junk ++ l.drop j).map AV.i ++ more) :: Hx⟩ ∧ m = l.length - j ∧ j ≤ l.length ∧ kept = (l.take j).filter (fun x => !p x) ∧ kept.length + junk.length = j ∧ junk ≠ [] ∧ i = kept.length) ⟨_, _, ⟨pre.length + 1, pre.length, pre, [x], rfl, rfl, hpl, by rw [hlp, List.take_succ_eq_append_getElem (by simp)]; simp [List.filter_append, hpx]; exact (List.filter_eq_self.2 (fun y hy => by rw [hpre y hy]; rfl)).symm, rfl, by simp, rfl⟩, (by repeat (first | exact trivial | refine ⟨rfl, ?_⟩)), (by repeat (first | exact List.Sublist.refl _ | refine List.Sublist.cons _ ?_))⟩ ?_
    rintro m _ ⟨j, i, kept, junk, rfl, rfl, hj, hk, hkj, hjn, hi⟩
    refine CW.seq ?_
    refine CW.seq ?_
    refine CW.region ?_
    refine OL.popC rfl rfl rfl (POp.move rfl rfl rfl) ?_
    refine OL.popC rfl rfl rfl (POp.move rfl rfl rfl) ?_
    refine OL.popC rfl rfl rfl ((by first | exact POp.lenM rfl rfl rfl | exact POp.lenA rfl rfl rfl | exact POp.lenV rfl rfl rfl | exact POp.len' rfl rfl rfl)) ?_
    refine OL.popC rfl rfl rfl (POp.cmp rfl rfl rfl rfl rfl rfl) ?_
    refine OL.nil ?_
    refine Done.seq ?_
    refine CW.cond rfl (fun h1 => ?_) (fun h1 => ?_)
    ·
      try simp only [decide_eq_true_eq, decide_eq_false_iff_not, beq_iff_eq, bne_iff_ne, ne_eq, Int.not_lt, Int.not_le, beq_eq_false_iff_ne, gt_iff_lt, ge_iff_le, Bool.not_eq_true, Bool.not_eq_false, Bool.not_eq_false', bne_eq_false_iff_eq] at h1
      rw [hlen] at h1
      have hjl : j < l.length := by omega
      have hdt := del_take (p := p) hjl
      have hjk : junk.length ≠ 0 := fun e => hjn (List.eq_nil_of_length_eq_zero e)
      refine CW.skip ?_
      refine Done.seq ?_
      refine CW.seq ?_
      refine CW.block ?_
      refine CW.seq ?_
      refine CW.region ?_
      refine OL.popC rfl rfl rfl (POp.move rfl rfl rfl) ?_
      refine OL.popC rfl rfl rfl (POp.move rfl rfl rfl) ?_
      refine OL.popC rfl rfl rfl (POp.ixC rfl rfl rfl rfl rfl (by omega)) ?_
      refine OL.popC rfl rfl rfl (POp.ld1H rfl rfl rfl (.head _) (del_cell hkj hjl)) ?_
      refine OL.popC rfl rfl rfl (POp.assign rfl rfl rfl) ?_
      refine OL.nil ?_
      refine Done.seq ?_
      refine CW.seq ?_
      refine CW.region ?_
      refine OL.popC rfl rfl rfl (POp.move rfl rfl rfl) ?_
      refine OL.popC rfl rfl rfl (POp.move rfl rfl rfl) ?_
      refine OL.vcallC rfl rfl rfl rfl rfl rfl rfl rfl (AVleL.refl _) (hg _ (l.getD j default) _) ?_
      rintro y H1 ⟨rfl, rfl⟩
      refine OL.popC rfl rfl rfl (POp.not rfl rfl rfl) ?_
      refine OL.nil ?_
      refine Done.seq ?_
      refine CW.cond rfl (fun h2 => ?_) (fun h2 => ?_)
      ·
        have hpv : p (l.getD j default) = false := by simpa using h2
        refine CW.seq ?_
        refine CW.region ?_
        refine OL.popC rfl rfl rfl (POp.move rfl rfl rfl) ?_
        refine OL.popC rfl rfl rfl (POp.move rfl rfl rfl) ?_
        refine OL.popC rfl rfl rfl (POp.move rfl rfl rfl) ?_
        refine OL.popC rfl rfl rfl (POp.ixC rfl rfl rfl rfl rfl (by omega)) ?_
        apply OL.stoC rfl rfl rfl rfl rfl rfl rfl rfl rfl rfl
        (case hu => repeat (first | exact Upd.head _ _ _ | apply Upd.tail)); (case hfit => exact Nat.ble_eq_true_of_le (by simp [bcells]; omega)); (case hds => exact del_store hi hkj hjl hjn _ rfl)
        refine OL.nil ?_
        refine Done.seq ?_
        refine CW.region ?_
        refine OL.popC rfl rfl rfl (POp.move rfl rfl rfl) ?_
        refine OL.popC rfl rfl rfl (POp.arith rfl rfl rfl rfl rfl rfl (wrap64 (by omega))) ?_
        refine OL.popC rfl rfl rfl (POp.assign rfl rfl rfl) ?_
        refine OL.nil ?_
        refine Done.blkNormal ?_
        refine Done.seq ?_
        refine CW.region ?_
        refine OL.popC rfl rfl rfl (POp.move rfl rfl rfl) ?_
        refine OL.popC rfl rfl rfl (POp.arith rfl rfl rfl rfl rfl rfl (wrap64 (by omega))) ?_
        refine OL.popC rfl rfl rfl (POp.assign rfl rfl rfl) ?_
        refine OL.nil ?_
        refine Done.againJ (⟨j + 1, i + 1, kept ++ [l.getD j default], junk.tail ++ [l.getD j default], rfl, rfl, by omega, by rw [hdt, hpv, ← hk]; rfl, by simp; omega, by simp, by simp; omega⟩) ?_ ?_ ?_
        · omega
        · repeat (first | exact trivial | refine ⟨rfl, ?_⟩)
        · repeat (first | exact List.Sublist.refl _ | refine List.Sublist.cons _ ?_)
      ·
        have hpv : p (l.getD j default) = true := by simpa using h2
        refine CW.eqH (congrArg (fun z => Ent.blk b 3 z :: Hx) (del_keep hjl)) ?_
        refine CW.skip ?_
        refine Done.blkNormal ?_
        refine Done.seq ?_
        refine CW.region ?_
        refine OL.popC rfl rfl rfl (POp.move rfl rfl rfl) ?_
        refine OL.popC rfl rfl rfl (POp.arith rfl rfl rfl rfl rfl rfl (wrap64 (by omega))) ?_
        refine OL.popC rfl rfl rfl (POp.assign rfl rfl rfl) ?_
        refine OL.nil ?_
        refine Done.againJ (⟨j + 1, i, kept, junk ++ [l.getD j default], rfl, rfl, by omega, by rw [hdt, hpv, ← hk]; simp, by simp; omega, by simp, hi⟩) ?_ ?_ ?_
        · omega
        · repeat (first | exact trivial | refine ⟨rfl, ?_⟩)
        · repeat (first | exact List.Sublist.refl _ | refine List.Sublist.cons _ ?_)
    ·
      try simp only [decide_eq_true_eq, decide_eq_false_iff_not, beq_iff_eq, bne_iff_ne, ne_eq, Int.not_lt, Int.not_le, beq_eq_false_iff_ne, gt_iff_lt, ge_iff_le, Bool.not_eq_true, Bool.not_eq_false, Bool.not_eq_false', bne_eq_false_iff_eq] at h1
      rw [hlen] at h1
      obtain rfl : j = l.length := by omega
      rw [List.take_length] at hk
      have hjk : junk.length ≠ 0 := fun e => hjn (List.eq_nil_of_length_eq_zero e)
      refine CW.exit ?_
      refine Done.thenExit ?_
      refine Done.thenExit ?_
      refine Done.blkExit ?_
      refine Done.seq ?_
      refine CW.seq ?_
      refine CW.region ?_
      refine OL.popC rfl rfl rfl (POp.move rfl rfl rfl) ?_
      refine OL.popC rfl rfl rfl (POp.move rfl rfl rfl) ?_
      refine OL.popC rfl rfl rfl (POp.slC (l := i) (m := (intEls l).length) (kh := .i64) (gh := true) rfl rfl rfl rfl rfl rfl rfl (by omega) (by omega) (by omega)) ?_
      refine OL.clearC rfl (.inl rfl) rfl rfl rfl (by omega) (by kernel_rfl) (by simp; omega) (.head _ _ _) ?_
      refine OL.nil ?_
      refine Done.seq ?_
      refine CW.seq ?_
      refine CW.region ?_
      refine OL.popC rfl rfl rfl (POp.move rfl rfl rfl) ?_
      refine OL.popC rfl rfl rfl (POp.move rfl rfl rfl) ?_
      refine OL.popC rfl rfl rfl (POp.slC (l := 0) (m := i) (kl := .i64) (gl := true) rfl rfl rfl rfl rfl rfl rfl (by omega) (by omega) (by omega)) ?_
      refine OL.popC rfl rfl rfl (POp.assign rfl rfl rfl) ?_
      refine OL.nil ?_
      refine Done.seq ?_
      refine CW.ret ?_
      obtain ⟨more2, hm2⟩ := del_end (l := l) (kept := kept) (junk := junk) (j := l.length) (more := more) (n := ((intEls l).length - i) * 1) hi
      refine Done.perm (.of_eq (congrArg (fun z => Ent.blk b 3 z :: Hx) hm2)) ?_
      refine Done.freezeS (d := 4) rfl (.head _ _) (show (intEls kept).length = i - 0 by simp [intEls]; omega) (k := 1) (by simp [intEls]) (by omega) (by omega) ?_
      refine Done.retR (rs := [.tmp 4]) (H' := Hx) rfl (.tmp rfl (.nil)) (AVleL.refl _) (by repeat (first | exact List.Sublist.refl _ | refine List.Sublist.cons _ ?_)) ?_
      exact ⟨by rw [← hk]; rfl, rfl⟩
end Go.Proofs.YtiljpbljebfhnaaGreat

set_option linter.unusedVariables false
set_option linter.unusedSimpArgs false
set_option maxRecDepth 10000
namespace Go.Proofs.YtiljpbljebfhnaaGreat
open Go.Eng
open Go.Eng.Fc
theorem p103 (m n : Int) : PCall Tryz.prog 103 [.i m, .ptr [.i n]] (.b (m == n)) := by
  intro H
  refine ACall.mk' (n := 7) Tryz.func103 rfl (by kernel_rfl) rfl rfl (fun B I w0 => ?_)
  refine CW.seq ?_
  refine CW.region ?_
  refine OL.popC rfl rfl rfl (POp.assign rfl rfl rfl) ?_
  refine OL.nil ?_
  refine Done.seq ?_
  refine CW.seq ?_
  refine CW.region ?_
  refine OL.popC rfl rfl rfl (POp.move rfl rfl rfl) ?_
  refine OL.popC rfl rfl rfl ((by first | exact POp.ld1 rfl rfl rfl rfl | (apply POp.ld1H rfl rfl rfl; (case hm => repeat (first | exact .head _ | refine .tail _ ?_)); (case hy => rfl)))) ?_
  refine OL.popC rfl rfl rfl (POp.cmp rfl rfl rfl rfl rfl rfl) ?_
  refine OL.popC rfl rfl rfl (POp.assign rfl rfl rfl) ?_
  refine OL.nil ?_
  refine Done.seq ?_
  refine CW.ret ?_
  refine Done.retR (rs := [.tmp 3]) (H' := H) rfl (.tmp rfl (.nil)) (AVleL.refl _) (by repeat (first | exact List.Sublist.refl _ | refine List.Sublist.cons _ ?_)) ?_
  exact ⟨by first | rfl | exact retI (by simp_all) | exact retB (by simp_all) | simp_all, rfl⟩
def pickL (l : List FLit) (ns : List Int) : List FLit := ns.map fun n => l.getD n.toNat default
theorem pick_snoc {l : List FLit} {ns : List Int} {k : Nat} (h : k < ns.length) : pickL l (ns.take (k + 1)) = pickL l (ns.take k) ++ [l.getD (ns.getD k default).toNat default] := by
  rw [← take_getD h, pickL, List.map_append]; rfl
theorem lits_snoc (l : List FLit) (x : FLit) : (l ++ [x]).map Lcells = l.map Lcells ++ [Lcells x] := by simp
theorem ints_snoc (l : List Int) (x : Int) : (l ++ [x]).map (fun n => [AV.i n]) = l.map (fun n => [AV.i n]) ++ [[AV.i x]] := by simp
theorem intss_snoc (l : List (List Int)) (x : List Int) : (l ++ [x]).map (fun n => [AV.ints n]) = l.map (fun n => [AV.ints n]) ++ [[AV.ints x]] := by simp
theorem p104 (l : List FLit) (ns : List Int) (hr : ∀ n ∈ ns, 0 ≤ n ∧ n < l.length) (hn : ns.length ≤ 100000) : PCall Tryz.prog 104 [AV.lits l, AV.ints ns] (AV.lits (pickL l ns)) := by
  intro H
  refine ACall.mk' (n := 23) Tryz.func104 rfl (by kernel_rfl) rfl rfl (fun B I w0 => ?_)
  refine CW.seq ?_
  refine CW.region ?_
  refine OL.popC rfl rfl rfl (POp.assign rfl rfl rfl) ?_
  refine OL.nil ?_
  refine Done.seq ?_
  refine CW.seq ?_
  refine CW.region ?_
  refine OL.popC rfl rfl rfl (POp.assign rfl rfl rfl) ?_
  refine OL.nil ?_
  refine Done.seq ?_
  refine CW.seq ?_
  refine CW.seq ?_
  refine CW.ownNil 5 118 7 rfl ?_
  refine CW.region ?_
  refine OL.popC rfl rfl rfl (POp.move rfl rfl rfl) ?_
  refine OL.popC rfl rfl rfl ((by first | exact POp.lenM rfl rfl rfl | exact POp.lenA rfl rfl rfl | exact POp.lenV rfl rfl rfl | exact POp.len' rfl rfl rfl)) ?_
  refine OL.popC rfl rfl rfl (POp.move rfl rfl rfl) ?_
  refine OL.nil ?_
  refine Done.seq ?_
  refine CW.block ?_
  refine CW.loopJ (fun m st => ∃ (k : Nat) (v : Value), st = ⟨[(10, .i k), (9, .i ns.length), (8, AV.ints ns), (5, .as (AV.lits (pickL l (ns.take k))) v), (0, AV.lits l)], .own 118 7 v :: H⟩ ∧ m = ns.length - k ∧ k ≤ ns.length) ⟨_, _, ⟨0, _, rfl, rfl, Nat.zero_le _⟩, (by repeat (first | exact trivial | refine ⟨rfl, ?_⟩)), (by repeat (first | exact List.Sublist.refl _ | refine List.Sublist.cons _ ?_))⟩ ?_
  rintro m _ ⟨k, v, rfl, rfl, hk⟩
  refine CW.boundM (t := 8) rfl (fun hbs => ?_)
  refine CW.seq ?_
  refine CW.region ?_
  refine OL.popC rfl rfl rfl (POp.cmp rfl rfl rfl rfl rfl rfl) ?_
  refine OL.nil ?_
  refine Done.seq ?_
  refine CW.seq ?_
  refine CW.cond rfl (fun h0 => ?_) (fun h0 => ?_)
  ·
    try simp only [decide_eq_true_eq, decide_eq_false_iff_not, beq_iff_eq, bne_iff_ne, ne_eq, Int.not_lt, Int.not_le, beq_eq_false_iff_ne, gt_iff_lt, ge_iff_le, Bool.not_eq_true, Bool.not_eq_false, Bool.not_eq_false', bne_eq_false_iff_eq] at h0
    have hkl : k < ns.length := by omega
    have hnr := hr (ns.getD k default) (getD_mem hkl)
    refine CW.skip ?_
    refine Done.seq ?_
    refine CW.seq ?_
    refine CW.block ?_
    refine CW.seq ?_
    refine CW.region ?_
    refine OL.popC rfl rfl rfl ((by first | exact POp.ixM rfl rfl rfl rfl rfl (by omega) | exact POp.ixI rfl rfl rfl rfl rfl (by omega))) ?_
    refine OL.popC rfl rfl rfl ((by first | exact POp.ld1 rfl rfl rfl rfl | (apply POp.ld1H rfl rfl rfl; (case hm => repeat (first | exact .head _ | refine .tail _ ?_)); (case hy => rfl)))) ?_
    refine OL.popC rfl rfl rfl (POp.assign rfl rfl rfl) ?_
    refine OL.nil ?_
    refine Done.seq ?_
    refine CW.region ?_
    refine OL.popC rfl rfl rfl (POp.move rfl rfl rfl) ?_
    refine OL.popC rfl rfl rfl (POp.move rfl rfl rfl) ?_
    refine OL.popC rfl rfl rfl (POp.move rfl rfl rfl) ?_
    refine OL.popC rfl rfl rfl ((by first | exact POp.ixM rfl rfl rfl rfl rfl (by omega) | exact POp.ixI rfl rfl rfl rfl rfl (by omega))) ?_
    refine OL.popC rfl rfl rfl ((by first | exact POp.ldA rfl rfl rfl rfl | (apply POp.ldAH rfl rfl rfl; (case hm => repeat (first | exact .head _ | refine .tail _ ?_)); (case hy => rfl); (case hn => rfl)))) ?_
    refine OL.popC rfl rfl rfl (POp.row rfl rfl (by first | rfl | simp_all [strip]) rfl rfl rfl rfl rfl rfl) ?_
    refine OL.appendC rfl rfl rfl rfl rfl rfl rfl rfl (AVle.refl _) (rfl) (fun v => by repeat (first | exact Upd.head _ _ _ | apply Upd.tail)) (by show (List.length (List.map _ _) + 1) * 88 ≤ _; rw [List.length_map, pickL, List.length_map, List.length_take]; omega) (by show List.length (List.map _ _) + 1 ≤ _; rw [List.length_map, pickL, List.length_map, List.length_take]; omega) (fun v20 => ?_)
    refine OL.popC rfl rfl rfl (POp.assign rfl rfl rfl) ?_
    refine OL.nil ?_
    refine Done.blkNormal ?_
    refine Done.seq ?_
    refine CW.le 5 (y := .as (AV.lits (pickL l (ns.take (k + 1)))) v20) rfl (by rw [pick_snoc hkl, AV.lits, lits_snoc]; exact AVle.refl _) ?_
    refine CW.region ?_
    refine OL.popC rfl rfl rfl (POp.arith rfl rfl rfl rfl rfl rfl (wrap64 (by omega))) ?_
    refine OL.popC rfl rfl rfl (POp.move rfl rfl rfl) ?_
    refine OL.nil ?_
    refine Done.againJ (⟨k + 1, v20, rfl, rfl, by omega⟩) ?_ ?_ ?_
    · omega
    · repeat (first | exact trivial | refine ⟨rfl, ?_⟩)
    · repeat (first | exact List.Sublist.refl _ | refine List.Sublist.cons _ ?_)
  ·
    try simp only [decide_eq_true_eq, decide_eq_false_iff_not, beq_iff_eq, bne_iff_ne, ne_eq, Int.not_lt, Int.not_le, beq_eq_false_iff_ne, gt_iff_lt, ge_iff_le, Bool.not_eq_true, Bool.not_eq_false, Bool.not_eq_false', bne_eq_false_iff_eq] at h0
    obtain rfl : k = ns.length := by omega
    rw [List.take_length]
    refine CW.exit ?_
    refine Done.thenExit ?_
    refine Done.thenExit ?_
    refine Done.blkExit ?_
    refine Done.seq ?_
    refine CW.seq ?_
    refine CW.region ?_
    refine OL.popC rfl rfl rfl (POp.move rfl rfl rfl) ?_
    refine OL.popC rfl rfl rfl (POp.assign rfl rfl rfl) ?_
    refine OL.nil ?_
    refine Done.seq ?_
    refine CW.ret ?_
    refine Done.retR (rs := [.tmp 4]) (H' := H) rfl (.tmp rfl (.nil)) (.cons (AVle.asL _ _) .nil) (by repeat (first | exact List.Sublist.refl _ | refine List.Sublist.cons _ ?_)) ?_
    exact ⟨by first | rfl | exact retI (by simp_all) | exact retB (by simp_all) | simp_all, rfl⟩
noncomputable def minStep (W : FW) (c : List FLit) (left : List Int) (n : Int) : List Int := if togetherK W (pickL c (left.filter fun m => !(m == n))) then left else left.filter fun m => !(m == n)
def numL (n : Nat) : List Int := (List.range n).map fun (i : Nat) => (i : Int)
noncomputable def minN (W : FW) (c : List FLit) (k : Nat) : List Int := (List.range k).foldl (fun left (n : Nat) => minStep W c left (n : Int)) (numL c.length)
noncomputable def minC (W : FW) (c : List FLit) : List Int := minN W c c.length
theorem minN_succ (W : FW) (c : List FLit) (k : Nat) : minN W c (k + 1) = minStep W c (minN W c k) k := by
  rw [minN, List.range_succ, List.foldl_append]; rfl
theorem num_succ (n : Nat) : numL (n + 1) = numL n ++ [(n : Int)] := by rw [numL, List.range_succ, List.map_append]; rfl
theorem num_len (n : Nat) : (numL n).length = n := by simp [numL]
structure MinI (c : List FLit) (k : Nat) (left : List Int) : Prop where
  rng : ∀ x ∈ left, 0 ≤ x ∧ x < c.length
  len : left.length ≤ c.length
  has : ∀ m : Nat, k ≤ m → m < c.length → (m : Int) ∈ left
theorem MinI.init (c : List FLit) : MinI c 0 (numL c.length) := by
  refine ⟨fun x hx => ?_, by rw [num_len]; omega, fun m _ hm => ?_⟩
  · obtain ⟨i, hi, rfl⟩ := List.mem_map.1 hx
    have := List.mem_range.1 hi
    omega
  · exact List.mem_map.2 ⟨m, List.mem_range.2 hm, rfl⟩
theorem MinI.filter {c : List FLit} {k : Nat} {left : List Int} (h : MinI c k left) : MinI c (k + 1) (left.filter fun m => !(m == (k : Int))) :=
  ⟨fun x hx => h.rng x (List.mem_filter.1 hx).1, Nat.le_trans (List.length_filter_le _ _) h.len, fun m h1 h2 => List.mem_filter.2 ⟨h.has m (by omega) h2, by simp; omega⟩⟩
theorem MinI.same {c : List FLit} {k : Nat} {left : List Int} (h : MinI c k left) : MinI c (k + 1) left := ⟨h.rng, h.len, fun m h1 h2 => h.has m (by omega) h2⟩
theorem minN_inv (W : FW) (c : List FLit) : ∀ k, MinI c k (minN W c k)
  | 0 => MinI.init c
  | k + 1 => by
    have h := minN_inv W c k
    rw [minN_succ, minStep]
    split
    · exact h.same
    · exact h.filter
theorem MinI.ne {c : List FLit} {k : Nat} {left : List Int} (h : MinI c k left) (hk : k < c.length) : left ≠ [] := fun e => by have := h.has k (Nat.le_refl _) hk; rw [e] at this; cases this
theorem pick_case {W : FW} {c : List FLit} {ns : List Int} (hc : CaseOk W c) (hr : ∀ n ∈ ns, 0 ≤ n ∧ n < c.length) (hl : ns.length ≤ c.length) : CaseOk W (pickL c ns) := by
  refine ⟨fun l hl => ?_, by rw [pickL, List.length_map]; exact Nat.le_trans hl hc.2⟩
  obtain ⟨n, hn, rfl⟩ := List.mem_map.1 hl
  have := hr n hn
  exact hc.1 _ (getD_mem (by omega))
theorem p35n {W : FW} {a b : Fact} (h : goodP W [a, b] = false) : PCall Tryz.prog 35 [AV.world W, AV.fact a, AV.fact b] (.tup [.sl 1 [], .i 2]) := by
  intro H
  refine ACall.mk' (n := 78) Tryz.func35 rfl (by kernel_rfl) rfl rfl (fun B I w0 => ?_)
  refine CW.seq ?_
  refine CW.region ?_
  refine OL.popC rfl rfl rfl (POp.boxI rfl rfl rfl rfl) ?_
  refine OL.popC rfl rfl rfl (POp.boxI rfl rfl rfl rfl) ?_
  refine OL.popC rfl rfl rfl (POp.boxI rfl rfl rfl rfl) ?_
  refine OL.popC rfl rfl rfl (POp.assign rfl rfl rfl) ?_
  refine OL.popC rfl rfl rfl (POp.assign rfl rfl rfl) ?_
  refine OL.nil ?_
  refine Done.seq ?_
  refine CW.seq ?_
  refine CW.region ?_
  refine OL.popC rfl rfl rfl ((by first | exact POp.ldA rfl rfl rfl rfl | (apply POp.ldAH rfl rfl rfl; (case hm => repeat (first | exact .head _ | refine .tail _ ?_)); (case hy => rfl); (case hn => rfl)))) ?_
  refine OL.popC rfl rfl rfl ((by first | exact POp.ldA rfl rfl rfl rfl | (apply POp.ldAH rfl rfl rfl; (case hm => repeat (first | exact .head _ | refine .tail _ ?_)); (case hy => rfl); (case hn => rfl)))) ?_
  refine OL.popC rfl rfl rfl ((by first | exact POp.ldA rfl rfl rfl rfl | (apply POp.ldAH rfl rfl rfl; (case hm => repeat (first | exact .head _ | refine .tail _ ?_)); (case hy => rfl); (case hn => rfl)))) ?_
  refine OL.popC rfl rfl rfl (POp.row rfl rfl (by first | rfl | simp_all [strip]) rfl rfl rfl rfl rfl rfl) ?_
  refine OL.popC rfl rfl rfl (POp.callLe (.mk' rfl rfl rfl rfl rfl) (.cons (.refl _) (.cons (AVle_facts [a, b] rfl) .nil)) (p80n h)) ?_
  refine OL.popC rfl rfl rfl (POp.move rfl rfl rfl) ?_
  refine OL.popC rfl rfl rfl (POp.extract rfl rfl rfl rfl) ?_
  refine OL.popC rfl rfl rfl (POp.extract rfl rfl rfl rfl) ?_
  refine OL.popC rfl rfl rfl (POp.assign rfl rfl rfl) ?_
  refine OL.popC rfl rfl rfl (POp.assign rfl rfl rfl) ?_
  refine OL.nil ?_
  refine Done.seq ?_
  refine CW.seq ?_
  refine CW.seq ?_
  refine CW.region ?_
  refine OL.popC rfl rfl rfl (POp.move rfl rfl rfl) ?_
  refine OL.popC rfl rfl rfl (POp.not rfl rfl rfl) ?_
  refine OL.nil ?_
  refine Done.seq ?_
  refine CW.cond rfl (fun h0 => ?_) (fun h0 => ?_)
  ·
    skip
    refine CW.seq ?_
    refine CW.region ?_
    refine OL.popC rfl rfl rfl (POp.assign rfl rfl rfl) ?_
    refine OL.popC rfl rfl rfl (POp.assign rfl rfl rfl) ?_
    refine OL.nil ?_
    refine Done.seq ?_
    refine CW.ret ?_
    refine Done.thenRet ?_
    refine Done.retR (rs := [.tmp 6, .tmp 7]) (H' := H) rfl (.tmp rfl (.tmp rfl (.nil))) (.cons (AVle.nil 1) (.cons (.refl _) .nil)) (by repeat (first | exact List.Sublist.refl _ | refine List.Sublist.cons _ ?_)) ?_
    exact ⟨by first | rfl | exact retI (by simp_all) | exact retB (by simp_all) | simp_all, rfl⟩
  ·
    cases h0
theorem p35l {W : FW} {a b : Fact} (h : goodP W [a, b] = true) (hs : 400 < (impCases a b).length) : PCall Tryz.prog 35 [AV.world W, AV.fact a, AV.fact b] (.tup [.sl 1 [], .i 3]) := by
  intro H
  refine ACall.mk' (n := 78) Tryz.func35 rfl (by kernel_rfl) rfl rfl (fun B I w0 => ?_)
  have hw := good_w h
  have ha := good_f h (.head _)
  have hb := good_f h (.tail _ (.head _))
  have hG := imp_good hw ha.1 hb.1 ha.2 hb.2
  refine CW.seq ?_
  refine CW.region ?_
  refine OL.popC rfl rfl rfl (POp.boxI rfl rfl rfl rfl) ?_
  refine OL.popC rfl rfl rfl (POp.boxI rfl rfl rfl rfl) ?_
  refine OL.popC rfl rfl rfl (POp.boxI rfl rfl rfl rfl) ?_
  refine OL.popC rfl rfl rfl (POp.assign rfl rfl rfl) ?_
  refine OL.popC rfl rfl rfl (POp.assign rfl rfl rfl) ?_
  refine OL.nil ?_
  refine Done.seq ?_
  refine CW.seq ?_
  refine CW.region ?_
  refine OL.popC rfl rfl rfl ((by first | exact POp.ldA rfl rfl rfl rfl | (apply POp.ldAH rfl rfl rfl; (case hm => repeat (first | exact .head _ | refine .tail _ ?_)); (case hy => rfl); (case hn => rfl)))) ?_
  refine OL.popC rfl rfl rfl ((by first | exact POp.ldA rfl rfl rfl rfl | (apply POp.ldAH rfl rfl rfl; (case hm => repeat (first | exact .head _ | refine .tail _ ?_)); (case hy => rfl); (case hn => rfl)))) ?_
  refine OL.popC rfl rfl rfl ((by first | exact POp.ldA rfl rfl rfl rfl | (apply POp.ldAH rfl rfl rfl; (case hm => repeat (first | exact .head _ | refine .tail _ ?_)); (case hy => rfl); (case hn => rfl)))) ?_
  refine OL.popC rfl rfl rfl (POp.row rfl rfl (by first | rfl | simp_all [strip]) rfl rfl rfl rfl rfl rfl) ?_
  refine OL.popC rfl rfl rfl (POp.callLe (.mk' rfl rfl rfl rfl rfl) (.cons (.refl _) (.cons (AVle_facts [a, b] rfl) .nil)) (p80g h)) ?_
  refine OL.popC rfl rfl rfl (POp.move rfl rfl rfl) ?_
  refine OL.popC rfl rfl rfl (POp.extract rfl rfl rfl rfl) ?_
  refine OL.popC rfl rfl rfl (POp.extract rfl rfl rfl rfl) ?_
  refine OL.popC rfl rfl rfl (POp.assign rfl rfl rfl) ?_
  refine OL.popC rfl rfl rfl (POp.assign rfl rfl rfl) ?_
  refine OL.nil ?_
  refine Done.seq ?_
  refine CW.seq ?_
  refine CW.seq ?_
  refine CW.region ?_
  refine OL.popC rfl rfl rfl (POp.move rfl rfl rfl) ?_
  refine OL.popC rfl rfl rfl (POp.not rfl rfl rfl) ?_
  refine OL.nil ?_
  refine Done.seq ?_
  refine CW.cond rfl (fun h0 => ?_) (fun h0 => ?_)
  ·
    cases h0
  ·
    skip
    refine CW.skip ?_
    refine Done.seq ?_
    refine CW.seq ?_
    refine CW.region ?_
    refine OL.popC rfl rfl rfl ((by first | exact POp.ldA rfl rfl rfl rfl | (apply POp.ldAH rfl rfl rfl; (case hm => repeat (first | exact .head _ | refine .tail _ ?_)); (case hy => rfl); (case hn => rfl)))) ?_
    refine OL.popC rfl rfl rfl ((by first | exact POp.ldA rfl rfl rfl rfl | (apply POp.ldAH rfl rfl rfl; (case hm => repeat (first | exact .head _ | refine .tail _ ?_)); (case hy => rfl); (case hn => rfl)))) ?_
    refine OL.popC rfl rfl rfl (POp.call (.mk' rfl rfl rfl rfl rfl) (p101l hG hs)) ?_
    refine OL.popC rfl rfl rfl (POp.move rfl rfl rfl) ?_
    refine OL.popC rfl rfl rfl (POp.extract rfl rfl rfl rfl) ?_
    refine OL.popC rfl rfl rfl (POp.extract rfl rfl rfl rfl) ?_
    refine OL.popC rfl rfl rfl (POp.assign rfl rfl rfl) ?_
    refine OL.popC rfl rfl rfl (POp.assign rfl rfl rfl) ?_
    refine OL.nil ?_
    refine Done.seq ?_
    refine CW.seq ?_
    refine CW.seq ?_
    refine CW.region ?_
    refine OL.popC rfl rfl rfl (POp.move rfl rfl rfl) ?_
    refine OL.popC rfl rfl rfl (POp.not rfl rfl rfl) ?_
    refine OL.nil ?_
    refine Done.seq ?_
    refine CW.cond rfl (fun h1 => ?_) (fun h1 => ?_)
    ·
      skip
      refine CW.seq ?_
      refine CW.region ?_
      refine OL.popC rfl rfl rfl (POp.assign rfl rfl rfl) ?_
      refine OL.popC rfl rfl rfl (POp.assign rfl rfl rfl) ?_
      refine OL.nil ?_
      refine Done.seq ?_
      refine CW.ret ?_
      refine Done.thenRet ?_
      refine Done.retR (rs := [.tmp 6, .tmp 7]) (H' := H) rfl (.tmp rfl (.tmp rfl (.nil))) (.cons (AVle.nil 1) (.cons (.refl _) .nil)) (by repeat (first | exact List.Sublist.refl _ | refine List.Sublist.cons _ ?_)) ?_
      exact ⟨by first | rfl | exact retI (by simp_all) | exact retB (by simp_all) | simp_all, rfl⟩
    ·
      cases h1
theorem p35g {W : FW} {a b : Fact} (h : goodP W [a, b] = true) (hs : (impCases a b).length ≤ 400) (hno2 : ∀ c ∈ impCases a b, togetherK W c = false) : PCall Tryz.prog 35 [AV.world W, AV.fact a, AV.fact b] (.tup [AV.intss ((impCases a b).map (minC W)), .i 0]) := by
  intro H
  refine ACall.mk' (n := 78) Tryz.func35 rfl (by kernel_rfl) rfl rfl (fun B I w0 => ?_)
  have hw := good_w h
  have ha := good_f h (.head _)
  have hb := good_f h (.tail _ (.head _))
  have hG := imp_good hw ha.1 hb.1 ha.2 hb.2
  refine CW.seq ?_
  refine CW.region ?_
  refine OL.popC rfl rfl rfl (POp.boxI rfl rfl rfl rfl) ?_
  refine OL.popC rfl rfl rfl (POp.boxI rfl rfl rfl rfl) ?_
  refine OL.popC rfl rfl rfl (POp.boxI rfl rfl rfl rfl) ?_
  refine OL.popC rfl rfl rfl (POp.assign rfl rfl rfl) ?_
  refine OL.popC rfl rfl rfl (POp.assign rfl rfl rfl) ?_
  refine OL.nil ?_
  refine Done.seq ?_
  refine CW.seq ?_
  refine CW.region ?_
  refine OL.popC rfl rfl rfl ((by first | exact POp.ldA rfl rfl rfl rfl | (apply POp.ldAH rfl rfl rfl; (case hm => repeat (first | exact .head _ | refine .tail _ ?_)); (case hy => rfl); (case hn => rfl)))) ?_
  refine OL.popC rfl rfl rfl ((by first | exact POp.ldA rfl rfl rfl rfl | (apply POp.ldAH rfl rfl rfl; (case hm => repeat (first | exact .head _ | refine .tail _ ?_)); (case hy => rfl); (case hn => rfl)))) ?_
  refine OL.popC rfl rfl rfl ((by first | exact POp.ldA rfl rfl rfl rfl | (apply POp.ldAH rfl rfl rfl; (case hm => repeat (first | exact .head _ | refine .tail _ ?_)); (case hy => rfl); (case hn => rfl)))) ?_
  refine OL.popC rfl rfl rfl (POp.row rfl rfl (by first | rfl | simp_all [strip]) rfl rfl rfl rfl rfl rfl) ?_
  refine OL.popC rfl rfl rfl (POp.callLe (.mk' rfl rfl rfl rfl rfl) (.cons (.refl _) (.cons (AVle_facts [a, b] rfl) .nil)) (p80g h)) ?_
  refine OL.popC rfl rfl rfl (POp.move rfl rfl rfl) ?_
  refine OL.popC rfl rfl rfl (POp.extract rfl rfl rfl rfl) ?_
  refine OL.popC rfl rfl rfl (POp.extract rfl rfl rfl rfl) ?_
  refine OL.popC rfl rfl rfl (POp.assign rfl rfl rfl) ?_
  refine OL.popC rfl rfl rfl (POp.assign rfl rfl rfl) ?_
  refine OL.nil ?_
  refine Done.seq ?_
  refine CW.seq ?_
  refine CW.seq ?_
  refine CW.region ?_
  refine OL.popC rfl rfl rfl (POp.move rfl rfl rfl) ?_
  refine OL.popC rfl rfl rfl (POp.not rfl rfl rfl) ?_
  refine OL.nil ?_
  refine Done.seq ?_
  refine CW.cond rfl (fun h0 => ?_) (fun h0 => ?_)
  ·
    cases h0
  ·
    skip
    refine CW.skip ?_
    refine Done.seq ?_
    refine CW.seq ?_
    refine CW.region ?_
    refine OL.popC rfl rfl rfl ((by first | exact POp.ldA rfl rfl rfl rfl | (apply POp.ldAH rfl rfl rfl; (case hm => repeat (first | exact .head _ | refine .tail _ ?_)); (case hy => rfl); (case hn => rfl)))) ?_
    refine OL.popC rfl rfl rfl ((by first | exact POp.ldA rfl rfl rfl rfl | (apply POp.ldAH rfl rfl rfl; (case hm => repeat (first | exact .head _ | refine .tail _ ?_)); (case hy => rfl); (case hn => rfl)))) ?_
    refine OL.popC rfl rfl rfl (POp.call (.mk' rfl rfl rfl rfl rfl) (p101s hG hs)) ?_
    refine OL.popC rfl rfl rfl (POp.move rfl rfl rfl) ?_
    refine OL.popC rfl rfl rfl (POp.extract rfl rfl rfl rfl) ?_
    refine OL.popC rfl rfl rfl (POp.extract rfl rfl rfl rfl) ?_
    refine OL.popC rfl rfl rfl (POp.assign rfl rfl rfl) ?_
    refine OL.popC rfl rfl rfl (POp.assign rfl rfl rfl) ?_
    refine OL.nil ?_
    refine Done.seq ?_
    refine CW.seq ?_
    refine CW.seq ?_
    refine CW.region ?_
    refine OL.popC rfl rfl rfl (POp.move rfl rfl rfl) ?_
    refine OL.popC rfl rfl rfl (POp.not rfl rfl rfl) ?_
    refine OL.nil ?_
    refine Done.seq ?_
    refine CW.cond rfl (fun h1 => ?_) (fun h1 => ?_)
    ·
      cases h1
    ·
      skip
      refine CW.skip ?_
      refine Done.seq ?_
      refine CW.seq ?_
      refine CW.region ?_
      refine OL.popC rfl rfl rfl (POp.assign rfl rfl rfl) ?_
      refine OL.nil ?_
      refine Done.seq ?_
      refine CW.seq ?_
      refine CW.seq ?_
      refine CW.ownNil 11 23 1 rfl ?_
      refine CW.region ?_
      refine OL.popC rfl rfl rfl (POp.move rfl rfl rfl) ?_
      refine OL.popC rfl rfl rfl ((by first | exact POp.lenM rfl rfl rfl | exact POp.lenA rfl rfl rfl | exact POp.lenV rfl rfl rfl | exact POp.len' rfl rfl rfl)) ?_
      refine OL.popC rfl rfl rfl (POp.move rfl rfl rfl) ?_
      refine OL.nil ?_
      refine Done.seq ?_
      refine CW.block ?_
      refine CW.loopJ (fun m st => ∃ (k : Nat) (v : Value), st = ⟨[(38, .i k), (37, .i (impCases a b).length), (36, AV.litss (impCases a b)), (11, .as (AV.intss (((impCases a b).take k).map (minC W))) v), (8, Wptr W)], .own 23 1 v :: H⟩ ∧ m = (impCases a b).length - k ∧ k ≤ (impCases a b).length ∧ ∀ c ∈ (impCases a b).take k, togetherK W c = false) ⟨_, _, ⟨0, _, rfl, rfl, Nat.zero_le _, by simp⟩, (by repeat (first | exact trivial | refine ⟨rfl, ?_⟩)), (by repeat (first | exact List.Sublist.refl _ | refine List.Sublist.cons _ ?_))⟩ ?_
      rintro m _ ⟨k, v, rfl, rfl, hk, hall⟩
      refine CW.seq ?_
      refine CW.region ?_
      refine OL.popC rfl rfl rfl (POp.cmp rfl rfl rfl rfl rfl rfl) ?_
      refine OL.nil ?_
      refine Done.seq ?_
      refine CW.seq ?_
      refine CW.cond rfl (fun h2 => ?_) (fun h2 => ?_)
      ·
        try simp only [decide_eq_true_eq, decide_eq_false_iff_not, beq_iff_eq, bne_iff_ne, ne_eq, Int.not_lt, Int.not_le, beq_eq_false_iff_ne, gt_iff_lt, ge_iff_le, Bool.not_eq_true, Bool.not_eq_false, Bool.not_eq_false', bne_eq_false_iff_eq] at h2
        have hkl : k < (impCases a b).length := by omega
        obtain ⟨c, hc⟩ : ∃ c, c = (impCases a b).getD k default := ⟨_, rfl⟩
        have hcm : c ∈ impCases a b := by rw [hc]; exact getD_mem hkl
        have hcO := hG.case false c hcm
        have htk : (impCases a b).take (k + 1) = (impCases a b).take k ++ [c] := by rw [hc, take_getD hkl]
        refine CW.skip ?_
        refine Done.seq ?_
        refine CW.seq ?_
        refine CW.block ?_
        refine CW.seq ?_
        refine CW.region ?_
        refine OL.popC rfl rfl rfl ((by first | exact POp.ixM rfl rfl rfl rfl rfl (by omega) | exact POp.ixI rfl rfl rfl rfl rfl (by omega))) ?_
        refine OL.popC rfl rfl rfl ((by first | exact POp.ld1 rfl rfl rfl rfl | (apply POp.ld1H rfl rfl rfl; (case hm => repeat (first | exact .head _ | refine .tail _ ?_)); (case hy => rfl)))) ?_
        refine OL.popC rfl rfl rfl (POp.assign rfl rfl rfl) ?_
        refine OL.nil ?_
        refine Done.seq ?_
        refine CW.seq ?_
        refine CW.seq ?_
        rw [← hc]
        refine CW.region ?_
        refine OL.popC rfl rfl rfl (POp.move rfl rfl rfl) ?_
        refine OL.popC rfl rfl rfl (POp.move rfl rfl rfl) ?_
        refine OL.popC rfl rfl rfl (POp.call (.mk' rfl rfl rfl rfl rfl) (p82 hw hcO.1 hcO.2)) ?_
        refine OL.nil ?_
        refine Done.seq ?_
        refine CW.cond rfl (fun h3 => ?_) (fun h3 => ?_)
        ·
          exact absurd (hno2 c hcm) (by rw [h3]; simp)
        ·
          have hno : togetherK W c = false := by simpa using h3
          have hclen := hcO.2
          refine CW.skip ?_
          refine Done.seq ?_
          refine CW.seq ?_
          refine CW.region ?_
          refine OL.popC rfl rfl rfl (POp.assign rfl rfl rfl) ?_
          refine OL.nil ?_
          refine Done.seq ?_
          refine CW.seq ?_
          refine CW.seq ?_
          refine CW.ownNil 14 3 1 rfl ?_
          refine CW.region ?_
          refine OL.popC rfl rfl rfl (POp.move rfl rfl rfl) ?_
          refine OL.popC rfl rfl rfl ((by first | exact POp.lenM rfl rfl rfl | exact POp.lenA rfl rfl rfl | exact POp.lenV rfl rfl rfl | exact POp.len' rfl rfl rfl)) ?_
          refine OL.popC rfl rfl rfl (POp.move rfl rfl rfl) ?_
          refine OL.nil ?_
          refine Done.seq ?_
          refine CW.block ?_
          refine CW.loopJ (fun m st => ∃ (q : Nat) (v2 : Value), st = ⟨[(47, .i q), (46, .i c.length), (14, .as (AV.ints (numL q)) v2), (13, AV.lits c), (38, .i k), (37, .i (impCases a b).length), (36, AV.litss (impCases a b)), (11, .as (AV.intss (((impCases a b).take k).map (minC W))) v), (8, Wptr W)], .own 3 1 v2 :: .own 23 1 v :: H⟩ ∧ m = c.length - q ∧ q ≤ c.length) ⟨_, _, ⟨0, _, rfl, rfl, Nat.zero_le _⟩, (by repeat (first | exact trivial | refine ⟨rfl, ?_⟩)), (by repeat (first | exact List.Sublist.refl _ | refine List.Sublist.cons _ ?_))⟩ ?_
          rintro m _ ⟨q, v2, rfl, rfl, hq⟩
          refine CW.seq ?_
          refine CW.region ?_
          refine OL.popC rfl rfl rfl (POp.cmp rfl rfl rfl rfl rfl rfl) ?_
          refine OL.nil ?_
          refine Done.seq ?_
          refine CW.seq ?_
          refine CW.cond rfl (fun h4 => ?_) (fun h4 => ?_)
          ·
            try simp only [decide_eq_true_eq, decide_eq_false_iff_not, beq_iff_eq, bne_iff_ne, ne_eq, Int.not_lt, Int.not_le, beq_eq_false_iff_ne, gt_iff_lt, ge_iff_le, Bool.not_eq_true, Bool.not_eq_false, Bool.not_eq_false', bne_eq_false_iff_eq] at h4
            refine CW.skip ?_
            refine Done.seq ?_
            refine CW.seq ?_
            refine CW.block ?_
            refine CW.seq ?_
            refine CW.region ?_
            refine OL.popC rfl rfl rfl (POp.move rfl rfl rfl) ?_
            refine OL.popC rfl rfl rfl (POp.assign rfl rfl rfl) ?_
            refine OL.nil ?_
            refine Done.seq ?_
            refine CW.region ?_
            refine OL.popC rfl rfl rfl (POp.move rfl rfl rfl) ?_
            refine OL.popC rfl rfl rfl (POp.move rfl rfl rfl) ?_
            refine OL.popC rfl rfl rfl (POp.row rfl rfl (by first | rfl | simp_all [strip]) rfl rfl rfl rfl rfl rfl) ?_
            refine OL.appendC rfl rfl rfl rfl rfl rfl rfl rfl (AVle.refl _) (rfl) (fun v => by repeat (first | exact Upd.head _ _ _ | apply Upd.tail)) (by show (List.length (List.map _ _) + 1) * 8 ≤ _; rw [List.length_map, num_len]; omega) (by show List.length (List.map _ _) + 1 ≤ _; rw [List.length_map, num_len]; omega) (fun v53 => ?_)
            refine OL.popC rfl rfl rfl (POp.assign rfl rfl rfl) ?_
            refine OL.nil ?_
            refine Done.blkNormal ?_
            refine Done.seq ?_
            refine CW.le 14 (y := .as (AV.ints (numL (q + 1))) v53) rfl (by rw [num_succ, AV.ints, ints_snoc]; exact AVle.refl _) ?_
            refine CW.region ?_
            refine OL.popC rfl rfl rfl (POp.arith rfl rfl rfl rfl rfl rfl (wrap64 (by omega))) ?_
            refine OL.popC rfl rfl rfl (POp.move rfl rfl rfl) ?_
            refine OL.nil ?_
            refine Done.againJ (⟨q + 1, v53, rfl, rfl, by omega⟩) ?_ ?_ ?_
            · omega
            · repeat (first | exact trivial | refine ⟨rfl, ?_⟩)
            · repeat (first | exact List.Sublist.refl _ | refine List.Sublist.cons _ ?_)
          ·
            try simp only [decide_eq_true_eq, decide_eq_false_iff_not, beq_iff_eq, bne_iff_ne, ne_eq, Int.not_lt, Int.not_le, beq_eq_false_iff_ne, gt_iff_lt, ge_iff_le, Bool.not_eq_true, Bool.not_eq_false, Bool.not_eq_false', bne_eq_false_iff_eq] at h4
            obtain rfl : q = c.length := by omega
            refine CW.exit ?_
            refine Done.thenExit ?_
            refine Done.thenExit ?_
            refine Done.blkExit ?_
            refine Done.seq ?_
            refine CW.seq ?_
            refine CW.seq ?_
            refine CW.le 14 rfl (AVle.asL _ _) ?_
            refine CW.region ?_
            refine OL.popC rfl rfl rfl (POp.move rfl rfl rfl) ?_
            refine OL.popC rfl rfl rfl ((by first | exact POp.lenM rfl rfl rfl | exact POp.lenA rfl rfl rfl | exact POp.lenV rfl rfl rfl | exact POp.len' rfl rfl rfl)) ?_
            refine OL.popC rfl rfl rfl (POp.move rfl rfl rfl) ?_
            refine OL.nil ?_
            refine Done.seq ?_
            refine CW.block ?_
            refine CW.loopJ (fun m st => ∃ (q : Nat), st = ⟨[(57, .i q), (56, .i c.length), (14, AV.ints (minN W c q)), (13, AV.lits c), (38, .i k), (37, .i (impCases a b).length), (36, AV.litss (impCases a b)), (11, .as (AV.intss (((impCases a b).take k).map (minC W))) v), (8, Wptr W)], .own 23 1 v :: H⟩ ∧ m = c.length - q ∧ q ≤ c.length) ⟨_, _, ⟨0, rfl, rfl, Nat.zero_le _⟩, (by repeat (first | exact trivial | refine ⟨rfl, ?_⟩)), (by repeat (first | exact List.Sublist.refl _ | refine List.Sublist.cons _ ?_))⟩ ?_
            rintro m _ ⟨q, rfl, rfl, hq⟩
            have hI := minN_inv W c q
            have hIl := hI.len
            refine CW.seq ?_
            refine CW.region ?_
            refine OL.popC rfl rfl rfl (POp.cmp rfl rfl rfl rfl rfl rfl) ?_
            refine OL.nil ?_
            refine Done.seq ?_
            refine CW.seq ?_
            refine CW.cond rfl (fun h5 => ?_) (fun h5 => ?_)
            ·
              try simp only [decide_eq_true_eq, decide_eq_false_iff_not, beq_iff_eq, bne_iff_ne, ne_eq, Int.not_lt, Int.not_le, beq_eq_false_iff_ne, gt_iff_lt, ge_iff_le, Bool.not_eq_true, Bool.not_eq_false, Bool.not_eq_false', bne_eq_false_iff_eq] at h5
              have hql : q < c.length := by omega
              have hne := hI.ne hql
              have hF := hI.filter
              refine CW.skip ?_
              refine Done.seq ?_
              refine CW.seq ?_
              refine CW.block ?_
              refine CW.seq ?_
              refine CW.region ?_
              refine OL.popC rfl rfl rfl (POp.move rfl rfl rfl) ?_
              refine OL.alC rfl rfl rfl rfl (fun b0 => ?_)
              apply OL.stoC rfl rfl rfl rfl rfl rfl rfl rfl rfl rfl
              (case hu => repeat (first | exact Upd.head _ _ _ | apply Upd.tail)); (case hfit => rfl); (case hds => rfl)
              refine OL.nil ?_
              refine Done.seq ?_
              refine CW.seq ?_
              refine CW.freezeP (d := 16) rfl (by repeat (first | exact Del.head _ _ | apply Del.tail)) ?_
              refine CW.region ?_
              refine OL.popC rfl rfl rfl (POp.move rfl rfl rfl) ?_
              refine OL.bcallC rfl rfl rfl (.mk' rfl rfl rfl rfl rfl) (a32 _ (minN W c q) hne (by omega) _) ?_
              rintro y H1 ⟨bb, cap, more, rfl, hc1, hc2, rfl⟩
              refine OL.popC rfl rfl rfl (POp.makeFunc rfl rfl rfl (by first | rfl | simp_all [strip]) (by first | rfl | simp_all [strip])) ?_
              refine OL.bcallC rfl rfl rfl (.mk' rfl rfl rfl rfl rfl) (b102 (PredOk.of (fun m => p103 m q)) _ (minN W c q) bb cap more (by omega) hc1 hc2 _) ?_
              rintro y H1 ⟨rfl, rfl⟩
              refine OL.popC rfl rfl rfl (POp.assign rfl rfl rfl) ?_
              refine OL.nil ?_
              refine Done.seq ?_
              refine CW.seq ?_
              refine CW.region ?_
              refine OL.popC rfl rfl rfl (POp.move rfl rfl rfl) ?_
              refine OL.popC rfl rfl rfl (POp.move rfl rfl rfl) ?_
              refine OL.popC rfl rfl rfl (POp.move rfl rfl rfl) ?_
              refine OL.popC rfl rfl rfl (POp.call (.mk' rfl rfl rfl rfl rfl) (p104 c _ hF.rng (by have := hF.len; omega))) ?_
              refine OL.popC rfl rfl rfl (POp.call (.mk' rfl rfl rfl rfl rfl) (p82 hw (pick_case hcO hF.rng hF.len).1 (pick_case hcO hF.rng hF.len).2)) ?_
              refine OL.popC rfl rfl rfl (POp.not rfl rfl rfl) ?_
              refine OL.nil ?_
              refine Done.seq ?_
              refine CW.cond rfl (fun h6 => ?_) (fun h6 => ?_)
              ·
                have hst : minN W c (q + 1) = (minN W c q).filter fun m => !(m == (q : Int)) := by rw [minN_succ, minStep, if_neg (by simpa using h6)]
                rw [← hst]
                refine CW.region ?_
                refine OL.popC rfl rfl rfl (POp.move rfl rfl rfl) ?_
                refine OL.popC rfl rfl rfl (POp.assign rfl rfl rfl) ?_
                refine OL.nil ?_
                refine Done.blkNormal ?_
                refine Done.seq ?_
                refine CW.region ?_
                refine OL.popC rfl rfl rfl (POp.arith rfl rfl rfl rfl rfl rfl (wrap64 (by omega))) ?_
                refine OL.popC rfl rfl rfl (POp.move rfl rfl rfl) ?_
                refine OL.nil ?_
                refine Done.againJ (⟨q + 1, rfl, rfl, by omega⟩) ?_ ?_ ?_
                · omega
                · repeat (first | exact trivial | refine ⟨rfl, ?_⟩)
                · repeat (first | exact List.Sublist.refl _ | refine List.Sublist.cons _ ?_)
              ·
                have hst : minN W c (q + 1) = minN W c q := by rw [minN_succ, minStep, if_pos (by simpa using h6)]
                rw [← hst]
                refine CW.skip ?_
                refine Done.blkNormal ?_
                refine Done.seq ?_
                refine CW.region ?_
                refine OL.popC rfl rfl rfl (POp.arith rfl rfl rfl rfl rfl rfl (wrap64 (by omega))) ?_
                refine OL.popC rfl rfl rfl (POp.move rfl rfl rfl) ?_
                refine OL.nil ?_
                refine Done.againJ (⟨q + 1, rfl, rfl, by omega⟩) ?_ ?_ ?_
                · omega
                · repeat (first | exact trivial | refine ⟨rfl, ?_⟩)
                · repeat (first | exact List.Sublist.refl _ | refine List.Sublist.cons _ ?_)
            ·
              try simp only [decide_eq_true_eq, decide_eq_false_iff_not, beq_iff_eq, bne_iff_ne, ne_eq, Int.not_lt, Int.not_le, beq_eq_false_iff_ne, gt_iff_lt, ge_iff_le, Bool.not_eq_true, Bool.not_eq_false, Bool.not_eq_false', bne_eq_false_iff_eq] at h5
              obtain rfl : q = c.length := by omega
              refine CW.exit ?_
              refine Done.thenExit ?_
              refine Done.thenExit ?_
              refine Done.blkExit ?_
              refine Done.seq ?_
              refine CW.region ?_
              refine OL.popC rfl rfl rfl (POp.move rfl rfl rfl) ?_
              refine OL.popC rfl rfl rfl (POp.move rfl rfl rfl) ?_
              refine OL.popC rfl rfl rfl (POp.row rfl rfl (by first | rfl | simp_all [strip]) rfl rfl rfl rfl rfl rfl) ?_
              refine OL.appendC rfl rfl rfl rfl rfl rfl rfl rfl (AVle.refl _) (rfl) (fun v => by repeat (first | exact Upd.head _ _ _ | apply Upd.tail)) (by show (List.length (List.map _ _) + 1) * 24 ≤ _; rw [List.length_map, List.length_map, List.length_take]; omega) (by show List.length (List.map _ _) + 1 ≤ _; rw [List.length_map, List.length_map, List.length_take]; omega) (fun v75 => ?_)
              refine OL.popC rfl rfl rfl (POp.assign rfl rfl rfl) ?_
              refine OL.nil ?_
              refine Done.blkNormal ?_
              refine Done.seq ?_
              refine CW.le 11 (y := .as (AV.intss (((impCases a b).take (k + 1)).map (minC W))) v75) rfl (by rw [htk, List.map_append, AV.intss, List.map_singleton, intss_snoc]; exact AVle.refl _) ?_
              refine CW.region ?_
              refine OL.popC rfl rfl rfl (POp.arith rfl rfl rfl rfl rfl rfl (wrap64 (by omega))) ?_
              refine OL.popC rfl rfl rfl (POp.move rfl rfl rfl) ?_
              refine OL.nil ?_
              refine Done.againJ (⟨k + 1, v75, rfl, rfl, by omega, fun c2 h2 => by rw [htk] at h2; rcases List.mem_append.1 h2 with h2 | h2; exact hall c2 h2; simp at h2; subst h2; exact hno⟩) ?_ ?_ ?_
              · omega
              · repeat (first | exact trivial | refine ⟨rfl, ?_⟩)
              · repeat (first | exact List.Sublist.refl _ | refine List.Sublist.cons _ ?_)
      ·
        try simp only [decide_eq_true_eq, decide_eq_false_iff_not, beq_iff_eq, bne_iff_ne, ne_eq, Int.not_lt, Int.not_le, beq_eq_false_iff_ne, gt_iff_lt, ge_iff_le, Bool.not_eq_true, Bool.not_eq_false, Bool.not_eq_false', bne_eq_false_iff_eq] at h2
        obtain rfl : k = (impCases a b).length := by omega
        rw [List.take_length] at hall ⊢
        refine CW.exit ?_
        refine Done.thenExit ?_
        refine Done.thenExit ?_
        refine Done.blkExit ?_
        refine Done.seq ?_
        refine CW.seq ?_
        refine CW.region ?_
        refine OL.popC rfl rfl rfl (POp.move rfl rfl rfl) ?_
        refine OL.popC rfl rfl rfl (POp.assign rfl rfl rfl) ?_
        refine OL.popC rfl rfl rfl (POp.assign rfl rfl rfl) ?_
        refine OL.nil ?_
        refine Done.seq ?_
        refine CW.ret ?_
        refine Done.retR (rs := [.tmp 6, .tmp 7]) (H' := H) rfl (.tmp rfl (.tmp rfl (.nil))) (.cons (AVle.asL _ _) (.cons (.refl _) .nil)) (by repeat (first | exact List.Sublist.refl _ | refine List.Sublist.cons _ ?_)) ?_
        exact ⟨by first | rfl | exact retI (by simp_all) | exact retB (by simp_all) | simp_all, rfl⟩
theorem p35x {W : FW} {a b : Fact} (h : goodP W [a, b] = true) (hs : (impCases a b).length ≤ 400) (hyes : ∃ c ∈ impCases a b, togetherK W c = true) : PCall Tryz.prog 35 [AV.world W, AV.fact a, AV.fact b] (.tup [.sl 1 [], .i 5]) := by
  intro H
  refine ACall.mk' (n := 78) Tryz.func35 rfl (by kernel_rfl) rfl rfl (fun B I w0 => ?_)
  have hw := good_w h
  have ha := good_f h (.head _)
  have hb := good_f h (.tail _ (.head _))
  have hG := imp_good hw ha.1 hb.1 ha.2 hb.2
  refine CW.seq ?_
  refine CW.region ?_
  refine OL.popC rfl rfl rfl (POp.boxI rfl rfl rfl rfl) ?_
  refine OL.popC rfl rfl rfl (POp.boxI rfl rfl rfl rfl) ?_
  refine OL.popC rfl rfl rfl (POp.boxI rfl rfl rfl rfl) ?_
  refine OL.popC rfl rfl rfl (POp.assign rfl rfl rfl) ?_
  refine OL.popC rfl rfl rfl (POp.assign rfl rfl rfl) ?_
  refine OL.nil ?_
  refine Done.seq ?_
  refine CW.seq ?_
  refine CW.region ?_
  refine OL.popC rfl rfl rfl ((by first | exact POp.ldA rfl rfl rfl rfl | (apply POp.ldAH rfl rfl rfl; (case hm => repeat (first | exact .head _ | refine .tail _ ?_)); (case hy => rfl); (case hn => rfl)))) ?_
  refine OL.popC rfl rfl rfl ((by first | exact POp.ldA rfl rfl rfl rfl | (apply POp.ldAH rfl rfl rfl; (case hm => repeat (first | exact .head _ | refine .tail _ ?_)); (case hy => rfl); (case hn => rfl)))) ?_
  refine OL.popC rfl rfl rfl ((by first | exact POp.ldA rfl rfl rfl rfl | (apply POp.ldAH rfl rfl rfl; (case hm => repeat (first | exact .head _ | refine .tail _ ?_)); (case hy => rfl); (case hn => rfl)))) ?_
  refine OL.popC rfl rfl rfl (POp.row rfl rfl (by first | rfl | simp_all [strip]) rfl rfl rfl rfl rfl rfl) ?_
  refine OL.popC rfl rfl rfl (POp.callLe (.mk' rfl rfl rfl rfl rfl) (.cons (.refl _) (.cons (AVle_facts [a, b] rfl) .nil)) (p80g h)) ?_
  refine OL.popC rfl rfl rfl (POp.move rfl rfl rfl) ?_
  refine OL.popC rfl rfl rfl (POp.extract rfl rfl rfl rfl) ?_
  refine OL.popC rfl rfl rfl (POp.extract rfl rfl rfl rfl) ?_
  refine OL.popC rfl rfl rfl (POp.assign rfl rfl rfl) ?_
  refine OL.popC rfl rfl rfl (POp.assign rfl rfl rfl) ?_
  refine OL.nil ?_
  refine Done.seq ?_
  refine CW.seq ?_
  refine CW.seq ?_
  refine CW.region ?_
  refine OL.popC rfl rfl rfl (POp.move rfl rfl rfl) ?_
  refine OL.popC rfl rfl rfl (POp.not rfl rfl rfl) ?_
  refine OL.nil ?_
  refine Done.seq ?_
  refine CW.cond rfl (fun h0 => ?_) (fun h0 => ?_)
  ·
    cases h0
  ·
    skip
    refine CW.skip ?_
    refine Done.seq ?_
    refine CW.seq ?_
    refine CW.region ?_
    refine OL.popC rfl rfl rfl ((by first | exact POp.ldA rfl rfl rfl rfl | (apply POp.ldAH rfl rfl rfl; (case hm => repeat (first | exact .head _ | refine .tail _ ?_)); (case hy => rfl); (case hn => rfl)))) ?_
    refine OL.popC rfl rfl rfl ((by first | exact POp.ldA rfl rfl rfl rfl | (apply POp.ldAH rfl rfl rfl; (case hm => repeat (first | exact .head _ | refine .tail _ ?_)); (case hy => rfl); (case hn => rfl)))) ?_
    refine OL.popC rfl rfl rfl (POp.call (.mk' rfl rfl rfl rfl rfl) (p101s hG hs)) ?_
    refine OL.popC rfl rfl rfl (POp.move rfl rfl rfl) ?_
    refine OL.popC rfl rfl rfl (POp.extract rfl rfl rfl rfl) ?_
    refine OL.popC rfl rfl rfl (POp.extract rfl rfl rfl rfl) ?_
    refine OL.popC rfl rfl rfl (POp.assign rfl rfl rfl) ?_
    refine OL.popC rfl rfl rfl (POp.assign rfl rfl rfl) ?_
    refine OL.nil ?_
    refine Done.seq ?_
    refine CW.seq ?_
    refine CW.seq ?_
    refine CW.region ?_
    refine OL.popC rfl rfl rfl (POp.move rfl rfl rfl) ?_
    refine OL.popC rfl rfl rfl (POp.not rfl rfl rfl) ?_
    refine OL.nil ?_
    refine Done.seq ?_
    refine CW.cond rfl (fun h1 => ?_) (fun h1 => ?_)
    ·
      cases h1
    ·
      skip
      refine CW.skip ?_
      refine Done.seq ?_
      refine CW.seq ?_
      refine CW.region ?_
      refine OL.popC rfl rfl rfl (POp.assign rfl rfl rfl) ?_
      refine OL.nil ?_
      refine Done.seq ?_
      refine CW.seq ?_
      refine CW.seq ?_
      refine CW.ownNil 11 23 1 rfl ?_
      refine CW.region ?_
      refine OL.popC rfl rfl rfl (POp.move rfl rfl rfl) ?_
      refine OL.popC rfl rfl rfl ((by first | exact POp.lenM rfl rfl rfl | exact POp.lenA rfl rfl rfl | exact POp.lenV rfl rfl rfl | exact POp.len' rfl rfl rfl)) ?_
      refine OL.popC rfl rfl rfl (POp.move rfl rfl rfl) ?_
      refine OL.nil ?_
      refine Done.seq ?_
      refine CW.block ?_
      refine CW.loopJ (fun m st => ∃ (k : Nat) (v : Value), st = ⟨[(38, .i k), (37, .i (impCases a b).length), (36, AV.litss (impCases a b)), (11, .as (AV.intss (((impCases a b).take k).map (minC W))) v), (8, Wptr W)], .own 23 1 v :: H⟩ ∧ m = (impCases a b).length - k ∧ k ≤ (impCases a b).length ∧ ∀ c ∈ (impCases a b).take k, togetherK W c = false) ⟨_, _, ⟨0, _, rfl, rfl, Nat.zero_le _, by simp⟩, (by repeat (first | exact trivial | refine ⟨rfl, ?_⟩)), (by repeat (first | exact List.Sublist.refl _ | refine List.Sublist.cons _ ?_))⟩ ?_
      rintro m _ ⟨k, v, rfl, rfl, hk, hall⟩
      refine CW.seq ?_
      refine CW.region ?_
      refine OL.popC rfl rfl rfl (POp.cmp rfl rfl rfl rfl rfl rfl) ?_
      refine OL.nil ?_
      refine Done.seq ?_
      refine CW.seq ?_
      refine CW.cond rfl (fun h2 => ?_) (fun h2 => ?_)
      ·
        try simp only [decide_eq_true_eq, decide_eq_false_iff_not, beq_iff_eq, bne_iff_ne, ne_eq, Int.not_lt, Int.not_le, beq_eq_false_iff_ne, gt_iff_lt, ge_iff_le, Bool.not_eq_true, Bool.not_eq_false, Bool.not_eq_false', bne_eq_false_iff_eq] at h2
        have hkl : k < (impCases a b).length := by omega
        obtain ⟨c, hc⟩ : ∃ c, c = (impCases a b).getD k default := ⟨_, rfl⟩
        have hcm : c ∈ impCases a b := by rw [hc]; exact getD_mem hkl
        have hcO := hG.case false c hcm
        have htk : (impCases a b).take (k + 1) = (impCases a b).take k ++ [c] := by rw [hc, take_getD hkl]
        refine CW.skip ?_
        refine Done.seq ?_
        refine CW.seq ?_
        refine CW.block ?_
        refine CW.seq ?_
        refine CW.region ?_
        refine OL.popC rfl rfl rfl ((by first | exact POp.ixM rfl rfl rfl rfl rfl (by omega) | exact POp.ixI rfl rfl rfl rfl rfl (by omega))) ?_
        refine OL.popC rfl rfl rfl ((by first | exact POp.ld1 rfl rfl rfl rfl | (apply POp.ld1H rfl rfl rfl; (case hm => repeat (first | exact .head _ | refine .tail _ ?_)); (case hy => rfl)))) ?_
        refine OL.popC rfl rfl rfl (POp.assign rfl rfl rfl) ?_
        refine OL.nil ?_
        refine Done.seq ?_
        refine CW.seq ?_
        refine CW.seq ?_
        rw [← hc]
        refine CW.region ?_
        refine OL.popC rfl rfl rfl (POp.move rfl rfl rfl) ?_
        refine OL.popC rfl rfl rfl (POp.move rfl rfl rfl) ?_
        refine OL.popC rfl rfl rfl (POp.call (.mk' rfl rfl rfl rfl rfl) (p82 hw hcO.1 hcO.2)) ?_
        refine OL.nil ?_
        refine Done.seq ?_
        refine CW.cond rfl (fun h3 => ?_) (fun h3 => ?_)
        ·
          skip
          refine CW.seq ?_
          refine CW.region ?_
          refine OL.popC rfl rfl rfl (POp.assign rfl rfl rfl) ?_
          refine OL.popC rfl rfl rfl (POp.assign rfl rfl rfl) ?_
          refine OL.nil ?_
          refine Done.seq ?_
          refine CW.ret ?_
          refine Done.thenRet ?_
          refine Done.blkRet ?_
          refine Done.thenRet ?_
          refine Done.thenRet ?_
          refine Done.blkRet ?_
          refine Done.thenRet ?_
          refine Done.retR (rs := [.tmp 6, .tmp 7]) (H' := H) rfl (.tmp rfl (.tmp rfl (.nil))) (.cons (AVle.nil 1) (.cons (.refl _) .nil)) (by repeat (first | exact List.Sublist.refl _ | refine List.Sublist.cons _ ?_)) ?_
          exact ⟨by first | rfl | exact retI (by simp_all) | exact retB (by simp_all) | simp_all, rfl⟩
        ·
          have hno : togetherK W c = false := by simpa using h3
          have hclen := hcO.2
          refine CW.skip ?_
          refine Done.seq ?_
          refine CW.seq ?_
          refine CW.region ?_
          refine OL.popC rfl rfl rfl (POp.assign rfl rfl rfl) ?_
          refine OL.nil ?_
          refine Done.seq ?_
          refine CW.seq ?_
          refine CW.seq ?_
          refine CW.ownNil 14 3 1 rfl ?_
          refine CW.region ?_
          refine OL.popC rfl rfl rfl (POp.move rfl rfl rfl) ?_
          refine OL.popC rfl rfl rfl ((by first | exact POp.lenM rfl rfl rfl | exact POp.lenA rfl rfl rfl | exact POp.lenV rfl rfl rfl | exact POp.len' rfl rfl rfl)) ?_
          refine OL.popC rfl rfl rfl (POp.move rfl rfl rfl) ?_
          refine OL.nil ?_
          refine Done.seq ?_
          refine CW.block ?_
          refine CW.loopJ (fun m st => ∃ (q : Nat) (v2 : Value), st = ⟨[(47, .i q), (46, .i c.length), (14, .as (AV.ints (numL q)) v2), (13, AV.lits c), (38, .i k), (37, .i (impCases a b).length), (36, AV.litss (impCases a b)), (11, .as (AV.intss (((impCases a b).take k).map (minC W))) v), (8, Wptr W)], .own 3 1 v2 :: .own 23 1 v :: H⟩ ∧ m = c.length - q ∧ q ≤ c.length) ⟨_, _, ⟨0, _, rfl, rfl, Nat.zero_le _⟩, (by repeat (first | exact trivial | refine ⟨rfl, ?_⟩)), (by repeat (first | exact List.Sublist.refl _ | refine List.Sublist.cons _ ?_))⟩ ?_
          rintro m _ ⟨q, v2, rfl, rfl, hq⟩
          refine CW.seq ?_
          refine CW.region ?_
          refine OL.popC rfl rfl rfl (POp.cmp rfl rfl rfl rfl rfl rfl) ?_
          refine OL.nil ?_
          refine Done.seq ?_
          refine CW.seq ?_
          refine CW.cond rfl (fun h4 => ?_) (fun h4 => ?_)
          ·
            try simp only [decide_eq_true_eq, decide_eq_false_iff_not, beq_iff_eq, bne_iff_ne, ne_eq, Int.not_lt, Int.not_le, beq_eq_false_iff_ne, gt_iff_lt, ge_iff_le, Bool.not_eq_true, Bool.not_eq_false, Bool.not_eq_false', bne_eq_false_iff_eq] at h4
            refine CW.skip ?_
            refine Done.seq ?_
            refine CW.seq ?_
            refine CW.block ?_
            refine CW.seq ?_
            refine CW.region ?_
            refine OL.popC rfl rfl rfl (POp.move rfl rfl rfl) ?_
            refine OL.popC rfl rfl rfl (POp.assign rfl rfl rfl) ?_
            refine OL.nil ?_
            refine Done.seq ?_
            refine CW.region ?_
            refine OL.popC rfl rfl rfl (POp.move rfl rfl rfl) ?_
            refine OL.popC rfl rfl rfl (POp.move rfl rfl rfl) ?_
            refine OL.popC rfl rfl rfl (POp.row rfl rfl (by first | rfl | simp_all [strip]) rfl rfl rfl rfl rfl rfl) ?_
            refine OL.appendC rfl rfl rfl rfl rfl rfl rfl rfl (AVle.refl _) (rfl) (fun v => by repeat (first | exact Upd.head _ _ _ | apply Upd.tail)) (by show (List.length (List.map _ _) + 1) * 8 ≤ _; rw [List.length_map, num_len]; omega) (by show List.length (List.map _ _) + 1 ≤ _; rw [List.length_map, num_len]; omega) (fun v53 => ?_)
            refine OL.popC rfl rfl rfl (POp.assign rfl rfl rfl) ?_
            refine OL.nil ?_
            refine Done.blkNormal ?_
            refine Done.seq ?_
            refine CW.le 14 (y := .as (AV.ints (numL (q + 1))) v53) rfl (by rw [num_succ, AV.ints, ints_snoc]; exact AVle.refl _) ?_
            refine CW.region ?_
            refine OL.popC rfl rfl rfl (POp.arith rfl rfl rfl rfl rfl rfl (wrap64 (by omega))) ?_
            refine OL.popC rfl rfl rfl (POp.move rfl rfl rfl) ?_
            refine OL.nil ?_
            refine Done.againJ (⟨q + 1, v53, rfl, rfl, by omega⟩) ?_ ?_ ?_
            · omega
            · repeat (first | exact trivial | refine ⟨rfl, ?_⟩)
            · repeat (first | exact List.Sublist.refl _ | refine List.Sublist.cons _ ?_)
          ·
            try simp only [decide_eq_true_eq, decide_eq_false_iff_not, beq_iff_eq, bne_iff_ne, ne_eq, Int.not_lt, Int.not_le, beq_eq_false_iff_ne, gt_iff_lt, ge_iff_le, Bool.not_eq_true, Bool.not_eq_false, Bool.not_eq_false', bne_eq_false_iff_eq] at h4
            obtain rfl : q = c.length := by omega
            refine CW.exit ?_
            refine Done.thenExit ?_
            refine Done.thenExit ?_
            refine Done.blkExit ?_
            refine Done.seq ?_
            refine CW.seq ?_
            refine CW.seq ?_
            refine CW.le 14 rfl (AVle.asL _ _) ?_
            refine CW.region ?_
            refine OL.popC rfl rfl rfl (POp.move rfl rfl rfl) ?_
            refine OL.popC rfl rfl rfl ((by first | exact POp.lenM rfl rfl rfl | exact POp.lenA rfl rfl rfl | exact POp.lenV rfl rfl rfl | exact POp.len' rfl rfl rfl)) ?_
            refine OL.popC rfl rfl rfl (POp.move rfl rfl rfl) ?_
            refine OL.nil ?_
            refine Done.seq ?_
            refine CW.block ?_
            refine CW.loopJ (fun m st => ∃ (q : Nat), st = ⟨[(57, .i q), (56, .i c.length), (14, AV.ints (minN W c q)), (13, AV.lits c), (38, .i k), (37, .i (impCases a b).length), (36, AV.litss (impCases a b)), (11, .as (AV.intss (((impCases a b).take k).map (minC W))) v), (8, Wptr W)], .own 23 1 v :: H⟩ ∧ m = c.length - q ∧ q ≤ c.length) ⟨_, _, ⟨0, rfl, rfl, Nat.zero_le _⟩, (by repeat (first | exact trivial | refine ⟨rfl, ?_⟩)), (by repeat (first | exact List.Sublist.refl _ | refine List.Sublist.cons _ ?_))⟩ ?_
            rintro m _ ⟨q, rfl, rfl, hq⟩
            have hI := minN_inv W c q
            have hIl := hI.len
            refine CW.seq ?_
            refine CW.region ?_
            refine OL.popC rfl rfl rfl (POp.cmp rfl rfl rfl rfl rfl rfl) ?_
            refine OL.nil ?_
            refine Done.seq ?_
            refine CW.seq ?_
            refine CW.cond rfl (fun h5 => ?_) (fun h5 => ?_)
            ·
              try simp only [decide_eq_true_eq, decide_eq_false_iff_not, beq_iff_eq, bne_iff_ne, ne_eq, Int.not_lt, Int.not_le, beq_eq_false_iff_ne, gt_iff_lt, ge_iff_le, Bool.not_eq_true, Bool.not_eq_false, Bool.not_eq_false', bne_eq_false_iff_eq] at h5
              have hql : q < c.length := by omega
              have hne := hI.ne hql
              have hF := hI.filter
              refine CW.skip ?_
              refine Done.seq ?_
              refine CW.seq ?_
              refine CW.block ?_
              refine CW.seq ?_
              refine CW.region ?_
              refine OL.popC rfl rfl rfl (POp.move rfl rfl rfl) ?_
              refine OL.alC rfl rfl rfl rfl (fun b0 => ?_)
              apply OL.stoC rfl rfl rfl rfl rfl rfl rfl rfl rfl rfl
              (case hu => repeat (first | exact Upd.head _ _ _ | apply Upd.tail)); (case hfit => rfl); (case hds => rfl)
              refine OL.nil ?_
              refine Done.seq ?_
              refine CW.seq ?_
              refine CW.freezeP (d := 16) rfl (by repeat (first | exact Del.head _ _ | apply Del.tail)) ?_
              refine CW.region ?_
              refine OL.popC rfl rfl rfl (POp.move rfl rfl rfl) ?_
              refine OL.bcallC rfl rfl rfl (.mk' rfl rfl rfl rfl rfl) (a32 _ (minN W c q) hne (by omega) _) ?_
              rintro y H1 ⟨bb, cap, more, rfl, hc1, hc2, rfl⟩
              refine OL.popC rfl rfl rfl (POp.makeFunc rfl rfl rfl (by first | rfl | simp_all [strip]) (by first | rfl | simp_all [strip])) ?_
              refine OL.bcallC rfl rfl rfl (.mk' rfl rfl rfl rfl rfl) (b102 (PredOk.of (fun m => p103 m q)) _ (minN W c q) bb cap more (by omega) hc1 hc2 _) ?_
              rintro y H1 ⟨rfl, rfl⟩
              refine OL.popC rfl rfl rfl (POp.assign rfl rfl rfl) ?_
              refine OL.nil ?_
              refine Done.seq ?_
              refine CW.seq ?_
              refine CW.region ?_
              refine OL.popC rfl rfl rfl (POp.move rfl rfl rfl) ?_
              refine OL.popC rfl rfl rfl (POp.move rfl rfl rfl) ?_
              refine OL.popC rfl rfl rfl (POp.move rfl rfl rfl) ?_
              refine OL.popC rfl rfl rfl (POp.call (.mk' rfl rfl rfl rfl rfl) (p104 c _ hF.rng (by have := hF.len; omega))) ?_
              refine OL.popC rfl rfl rfl (POp.call (.mk' rfl rfl rfl rfl rfl) (p82 hw (pick_case hcO hF.rng hF.len).1 (pick_case hcO hF.rng hF.len).2)) ?_
              refine OL.popC rfl rfl rfl (POp.not rfl rfl rfl) ?_
              refine OL.nil ?_
              refine Done.seq ?_
              refine CW.cond rfl (fun h6 => ?_) (fun h6 => ?_)
              ·
                have hst : minN W c (q + 1) = (minN W c q).filter fun m => !(m == (q : Int)) := by rw [minN_succ, minStep, if_neg (by simpa using h6)]
                rw [← hst]
                refine CW.region ?_
                refine OL.popC rfl rfl rfl (POp.move rfl rfl rfl) ?_
                refine OL.popC rfl rfl rfl (POp.assign rfl rfl rfl) ?_
                refine OL.nil ?_
                refine Done.blkNormal ?_
                refine Done.seq ?_
                refine CW.region ?_
                refine OL.popC rfl rfl rfl (POp.arith rfl rfl rfl rfl rfl rfl (wrap64 (by omega))) ?_
                refine OL.popC rfl rfl rfl (POp.move rfl rfl rfl) ?_
                refine OL.nil ?_
                refine Done.againJ (⟨q + 1, rfl, rfl, by omega⟩) ?_ ?_ ?_
                · omega
                · repeat (first | exact trivial | refine ⟨rfl, ?_⟩)
                · repeat (first | exact List.Sublist.refl _ | refine List.Sublist.cons _ ?_)
              ·
                have hst : minN W c (q + 1) = minN W c q := by rw [minN_succ, minStep, if_pos (by simpa using h6)]
                rw [← hst]
                refine CW.skip ?_
                refine Done.blkNormal ?_
                refine Done.seq ?_
                refine CW.region ?_
                refine OL.popC rfl rfl rfl (POp.arith rfl rfl rfl rfl rfl rfl (wrap64 (by omega))) ?_
                refine OL.popC rfl rfl rfl (POp.move rfl rfl rfl) ?_
                refine OL.nil ?_
                refine Done.againJ (⟨q + 1, rfl, rfl, by omega⟩) ?_ ?_ ?_
                · omega
                · repeat (first | exact trivial | refine ⟨rfl, ?_⟩)
                · repeat (first | exact List.Sublist.refl _ | refine List.Sublist.cons _ ?_)
            ·
              try simp only [decide_eq_true_eq, decide_eq_false_iff_not, beq_iff_eq, bne_iff_ne, ne_eq, Int.not_lt, Int.not_le, beq_eq_false_iff_ne, gt_iff_lt, ge_iff_le, Bool.not_eq_true, Bool.not_eq_false, Bool.not_eq_false', bne_eq_false_iff_eq] at h5
              obtain rfl : q = c.length := by omega
              refine CW.exit ?_
              refine Done.thenExit ?_
              refine Done.thenExit ?_
              refine Done.blkExit ?_
              refine Done.seq ?_
              refine CW.region ?_
              refine OL.popC rfl rfl rfl (POp.move rfl rfl rfl) ?_
              refine OL.popC rfl rfl rfl (POp.move rfl rfl rfl) ?_
              refine OL.popC rfl rfl rfl (POp.row rfl rfl (by first | rfl | simp_all [strip]) rfl rfl rfl rfl rfl rfl) ?_
              refine OL.appendC rfl rfl rfl rfl rfl rfl rfl rfl (AVle.refl _) (rfl) (fun v => by repeat (first | exact Upd.head _ _ _ | apply Upd.tail)) (by show (List.length (List.map _ _) + 1) * 24 ≤ _; rw [List.length_map, List.length_map, List.length_take]; omega) (by show List.length (List.map _ _) + 1 ≤ _; rw [List.length_map, List.length_map, List.length_take]; omega) (fun v75 => ?_)
              refine OL.popC rfl rfl rfl (POp.assign rfl rfl rfl) ?_
              refine OL.nil ?_
              refine Done.blkNormal ?_
              refine Done.seq ?_
              refine CW.le 11 (y := .as (AV.intss (((impCases a b).take (k + 1)).map (minC W))) v75) rfl (by rw [htk, List.map_append, AV.intss, List.map_singleton, intss_snoc]; exact AVle.refl _) ?_
              refine CW.region ?_
              refine OL.popC rfl rfl rfl (POp.arith rfl rfl rfl rfl rfl rfl (wrap64 (by omega))) ?_
              refine OL.popC rfl rfl rfl (POp.move rfl rfl rfl) ?_
              refine OL.nil ?_
              refine Done.againJ (⟨k + 1, v75, rfl, rfl, by omega, fun c2 h2 => by rw [htk] at h2; rcases List.mem_append.1 h2 with h2 | h2; exact hall c2 h2; simp at h2; subst h2; exact hno⟩) ?_ ?_ ?_
              · omega
              · repeat (first | exact trivial | refine ⟨rfl, ?_⟩)
              · repeat (first | exact List.Sublist.refl _ | refine List.Sublist.cons _ ?_)
      ·
        exfalso
        obtain ⟨c, hc, hct⟩ := hyes
        simp only [decide_eq_false_iff_not] at h2
        obtain rfl : k = (impCases a b).length := by omega
        rw [List.take_length] at hall
        rw [hall c hc] at hct; cases hct
end Go.Proofs.YtiljpbljebfhnaaGreat
