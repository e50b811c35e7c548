/- Part 13 of the proof: contracts of functions of the program and what they need. No condition beyond those that each theorem names. -/
import Derived.Test.YtiljpbljebfhnaaGreatPfP12
set_option linter.unusedVariables false
set_option linter.unusedSimpArgs false
set_option maxRecDepth 10000
namespace Go.Proofs.YtiljpbljebfhnaaGreat
open Go.Eng
open Go.Eng.Fc
def badN (m : Nat) (l : List Int) (k : Nat) : Bool := bif (bif decide (l.getD k default < 0) then true else decide (l.getD k default ≥ m)) then true else bif decide ((k : Int) > 0) then decide (l.getD ((k : Int) - 1).toNat default ≥ l.getD k default) else false
theorem badN_eq (m : Nat) (l : List Int) (k : Nat) : badN m l k = ((decide (l.getD k default < 0) || decide (l.getD k default ≥ m)) || (decide ((k : Int) > 0) && decide (l.getD ((k : Int) - 1).toNat default ≥ l.getD k default))) := by
  unfold badN; cases decide (l.getD k default < 0) <;> cases decide (l.getD k default ≥ m) <;> cases decide ((k : Int) > 0) <;> rfl
def incB (m : Nat) (l : List Int) : Bool := (List.range l.length).all fun k => !badN m l k
def listsB (ms : List Nat) (p : List (List Int)) : Bool := (List.range p.length).all fun i => incB (ms.getD i default) (p.getD i default)
def provesB (W : FW) (cs : List (List FLit)) (p : List (List Int)) : Bool := (List.range cs.length).all fun i => !together2 W (pickL (cs.getD i default) (p.getD i default))
theorem range_all {n : Nat} {p : Nat → Bool} (h : ∀ i, i < n → p i = true) : (List.range n).all p = true := List.all_eq_true.2 fun i hi => h i (List.mem_range.1 hi)
theorem range_no {n i : Nat} {p : Nat → Bool} (hi : i < n) (h : p i = false) : (List.range n).all p = false := List.all_eq_false.2 ⟨i, List.mem_range.2 hi, by rw [h]; simp⟩
theorem inc_rng {m : Nat} {l : List Int} (h : incB m l = true) : ∀ n ∈ l, 0 ≤ n ∧ n < m := fun n hn => by
  obtain ⟨k, hk, rfl⟩ := List.getElem_of_mem hn
  have := List.all_eq_true.1 h k (List.mem_range.2 hk)
  simp only [badN_eq, Bool.not_eq_true', Bool.or_eq_false_iff, decide_eq_false_iff_not] at this
  rw [getD_lt hk] at this
  omega
theorem inc_at {m : Nat} {l : List Int} (h : incB m l = true) : ∀ k, k < l.length → (k : Int) ≤ l.getD k default := by
  intro k
  induction k with
  | zero => intro hk; have := inc_rng h _ (getD_mem hk); omega
  | succ k ih =>
    intro hk
    have h1 := ih (by omega)
    have := List.all_eq_true.1 h (k + 1) (List.mem_range.2 hk)
    simp only [badN_eq, Bool.not_eq_true', Bool.or_eq_false_iff, Bool.and_eq_false_iff, decide_eq_false_iff_not] at this
    rw [show (((k + 1 : Nat) : Int) - 1).toNat = k by omega] at this
    omega
theorem inc_len {m : Nat} {l : List Int} (h : incB m l = true) : l.length ≤ m := by
  rcases Nat.eq_zero_or_pos l.length with h0 | h0
  · omega
  · have h1 := inc_at h (l.length - 1) (by omega)
    have h2 := inc_rng h _ (getD_mem (l := l) (k := l.length - 1) (by omega))
    omega
theorem lists_at {ms : List Nat} {p : List (List Int)} (h : listsB ms p = true) {i : Nat} (hi : i < p.length) : incB (ms.getD i default) (p.getD i default) = true := List.all_eq_true.1 h i (List.mem_range.2 hi)
theorem map_len_at {α : Type} {cs : List (List α)} {i : Nat} (hi : i < cs.length) : (cs.map List.length).getD i default = (cs.getD i default).length := by
  rw [getD_lt (by simpa using hi), getD_lt hi, List.getElem_map]
/-- literals with some numbers, as facts -/
def someF (L : List Fact) (ns : List Int) : List Fact := ns.map fun n => L.getD n.toNat default
theorem some_snoc {L : List Fact} {ns : List Int} {k : Nat} (h : k < ns.length) : someF L (ns.take (k + 1)) = someF L (ns.take k) ++ [L.getD (ns.getD k default).toNat default] := by
  rw [← take_getD h, someF, List.map_append]; rfl
theorem some_pick (c : List FLit) {ns : List Int} (hr : ∀ n ∈ ns, 0 ≤ n ∧ n < c.length) : someF (factL c) ns = factL (pickL c ns) := by
  rw [someF, pickL, factL, factL, List.map_map]
  refine List.map_congr_left fun n hn => ?_
  have := hr n hn
  rw [getD_lt (by simp; omega), List.getElem_map]
  show litF _ = litF (c.getD n.toNat default)
  rw [getD_lt (by omega)]
theorem LsOk.pick {W : FW} {c : List FLit} (h : LsOk W c) {ns : List Int} (hr : ∀ n ∈ ns, 0 ≤ n ∧ n < c.length) : LsOk W (pickL c ns) := by
  have hm : ∀ l ∈ pickL c ns, l ∈ c := fun l hl => by
    obtain ⟨n, hn, rfl⟩ := List.mem_map.1 hl
    have := hr n hn
    exact getD_mem (by omega)
  exact ⟨h.w, fun l hl => h.ok l (hm l hl), fun l hl => h.cls l (hm l hl)⟩
theorem p93s {W : FW} {ls : List FLit} (h : LsOk W ls) (hl : ls.length ≤ 1000) : PCall Tryz.prog 93 [AV.world W, AV.facts (factL ls)] (.b (together2 W ls)) := by
  have := p93 W _ h.rlit (by rw [factL, List.length_map]; exact hl) h.w
  rwa [together_stage h] at this
theorem fact_len (c : List FLit) : (factL c).length = c.length := List.length_map _
theorem p111 (l : List Int) (x : Int) (hl : l.length ≤ 100000) : PCall Tryz.prog 111 [AV.ints l, .i x] (AV.ints (l.filter fun m => !(m == x))) := by
  intro H
  refine ACall.mk' (n := 23) Tryz.func111 rfl (by kernel_rfl) rfl rfl (fun B I w0 => ?_)
  refine S2 ?_; refine Oas ?_; refine S4 ?_; refine Oas ?_; refine S4 ?_
  refine CW.ownNil 5 3 1 rfl ?_
  refine S1 ?_; refine Omv ?_; refine Oln ?_; refine Omv ?_; refine S3 ?_
  refine lj (fun m st => ∃ (j : Nat) (v : Value), st = ⟨[(10, .i j), (9, .i l.length), (8, AV.ints l), (5, .as (AV.ints ((l.take j).filter fun m => !(m == x))) v), (1, .i x)], .own 3 1 v :: H⟩ ∧ m = l.length - j ∧ j ≤ l.length) (⟨0, _, rfl, rfl, by omega⟩) ?_
  rintro m _ ⟨j, v, rfl, rfl, hj⟩
  refine S2 ?_; refine Ocm ?_; refine S3 ?_
  refine CW.cond rfl (fun h0 => ?_) (fun h0 => ?_)
  ·
    replace h0 := nm h0
    have hjl : j < l.length := by omega
    have hfl : ((l.take j).filter fun m => !(m == x)).length ≤ 100000 := Nat.le_trans (List.length_filter_le _ _) (by rw [List.length_take]; omega)
    have hft := filter_take (p := fun m => !(m == x)) hjl
    refine S6 ?_; refine Oix ?_; refine Old ?_; refine Oas ?_; refine S4 ?_; refine Omv ?_; refine Omv ?_; refine Ocm ?_; refine S2 ?_
    refine CW.cond rfl (fun h1 => ?_) (fun h1 => ?_)
    ·
      have e : ((l.take (j + 1)).filter fun m => !(m == x)) = ((l.take j).filter fun m => !(m == x)) ++ [l.getD j default] := by rw [hft, if_pos (by simpa using h1)]
      refine S1 ?_; refine Omv ?_; refine Omv ?_
      refine OL.popC rfl rfl rfl (POp.row rfl rfl (by first | rfl | simp_all [strip]) rfl rfl rfl rfl rfl rfl) ?_
      refine OL.appendC rfl rfl rfl rfl rfl rfl rfl rfl (AVle.refl _) (rfl) (fun v => by repeat (first | exact Upd.head _ _ _ | apply Upd.tail)) (by simp only [partsOf, List.zip, List.zipWith, List.map, List.length_map, List.length_cons, List.length_nil]; omega) (by simp only [partsOf, List.zip, List.zipWith, List.map, List.length_map, List.length_cons, List.length_nil]; omega) (fun v20 => ?_)
      refine Oas ?_; refine S3 ?_
      refine CW.le 5 (y := .as (AV.ints ((l.take (j + 1)).filter fun m => !(m == x))) v20) rfl (by rw [e, ints_one]; exact AVle.refl _) ?_
      refine S1 ?_; refine Oar ?_; refine Omv ?_; refine S1 ?_
      exact ag (⟨j + 1, v20, rfl, rfl, by omega⟩)
    ·
      have e : ((l.take (j + 1)).filter fun m => !(m == x)) = ((l.take j).filter fun m => !(m == x)) := by rw [hft, if_neg (by simpa using h1), List.append_nil]
      refine S3 ?_
      rw [← e]
      refine S1 ?_; refine Oar ?_; refine Omv ?_; refine S1 ?_
      exact ag (⟨j + 1, v, rfl, rfl, by omega⟩)
  ·
    replace h0 := nm h0
    obtain rfl : j = l.length := by omega
    rw [List.take_length]
    refine S7 ?_; refine Omv ?_; refine Oas ?_; refine S3 ?_
    refine Done.retR (rs := [.tmp 4]) (H' := H) rfl (.tmp rfl (.nil)) (.cons (AVle.asL _ _) .nil) (by repeat (first | exact List.Sublist.refl _ | refine List.Sublist.cons _ ?_)) ?_
    exact ⟨by rfl, rfl⟩
theorem p112 (L : List Fact) (ns : List Int) (hr : ∀ n ∈ ns, 0 ≤ n ∧ n < L.length) (hn : ns.length ≤ 100000) : PCall Tryz.prog 112 [AV.facts L, AV.ints ns] (AV.facts (someF L ns)) := by
  intro H
  refine ACall.mk' (n := 23) Tryz.func112 rfl (by kernel_rfl) rfl rfl (fun B I w0 => ?_)
  refine S2 ?_; refine Oas ?_; refine S4 ?_; refine Oas ?_; refine S4 ?_
  refine CW.ownNil 5 29 6 rfl ?_
  refine S1 ?_; refine Omv ?_; refine Oln ?_; refine Omv ?_; refine S3 ?_
  refine lj (fun m st => ∃ (j : Nat) (v : Value), st = ⟨[(10, .i j), (9, .i ns.length), (8, AV.ints ns), (5, .as (AV.facts (someF L (ns.take j))) v), (0, AV.facts L)], .own 29 6 v :: H⟩ ∧ m = ns.length - j ∧ j ≤ ns.length) (⟨0, _, rfl, rfl, by omega⟩) ?_
  rintro m _ ⟨j, v, rfl, rfl, hj⟩
  refine S2 ?_; refine Ocm ?_; refine S3 ?_
  refine CW.cond rfl (fun h0 => ?_) (fun h0 => ?_)
  ·
    replace h0 := nm h0
    have hjl : j < ns.length := by omega
    have hrj := hr _ (getD_mem hjl)
    have hsl : (someF L (ns.take j)).length ≤ 100000 := by rw [someF, List.length_map, List.length_take]; omega
    have e := some_snoc (L := L) hjl
    refine S6 ?_; refine Oix ?_; refine Old ?_; refine Oas ?_; refine S3 ?_; refine Omv ?_; refine Omv ?_; refine Omv ?_; refine Oix ?_; refine Ola ?_
    refine OL.popC rfl rfl rfl (POp.row rfl rfl (by first | rfl | simp_all [strip]) rfl rfl rfl rfl rfl rfl) ?_
    refine OL.appendC rfl rfl rfl rfl rfl rfl rfl rfl (AVle.refl _) (rfl) (fun v => by repeat (first | exact Upd.head _ _ _ | apply Upd.tail)) (by show (List.length (encFs _) + 1) * 80 ≤ _; rw [len_facts]; omega) (by show List.length (encFs _) + 1 ≤ _; rw [len_facts]; omega) (fun v20 => ?_)
    refine Oas ?_; refine S3 ?_
    refine CW.le 5 (y := .as (AV.facts (someF L (ns.take (j + 1)))) v20) rfl (by rw [e, show AV.facts ((someF L (ns.take j)) ++ [L.getD (ns.getD j default).toNat default]) = AV.sl 6 (encFs (someF L (ns.take j)) ++ [Fcells (L.getD (ns.getD j default).toNat default)]) from congrArg _ (facts_snoc _ _).symm]; exact AVle.refl _) ?_
    refine S1 ?_; refine Oar ?_; refine Omv ?_; refine S1 ?_
    exact ag (⟨j + 1, v20, rfl, rfl, by omega⟩)
  ·
    replace h0 := nm h0
    obtain rfl : j = ns.length := by omega
    rw [List.take_length]
    refine S7 ?_; refine Omv ?_; refine Oas ?_; refine S3 ?_
    refine Done.retR (rs := [.tmp 4]) (H' := H) rfl (.tmp rfl (.nil)) (.cons (AVle.asL _ _) .nil) (by repeat (first | exact List.Sublist.refl _ | refine List.Sublist.cons _ ?_)) ?_
    exact ⟨by rfl, rfl⟩
theorem p54 {W : FW} {a b : Fact} (h : goodP W [a, b] = true) : PCall Tryz.prog 54 [AV.fact a, AV.fact b] (AV.factss ((impCases a b).map factL)) := by
  intro H
  refine ACall.mk' (n := 10) Tryz.func54 rfl (by kernel_rfl) rfl rfl (fun B I w0 => ?_)
  have hG := good_f2 h
  refine S2 ?_; refine Obx ?_; refine Obx ?_; refine Oas ?_; refine S3 ?_
  refine CW.dp mixed ?_
  refine DP.anyC 0 3 10 rfl (by decide +kernel) rfl rfl (by decide +kernel) ?_
  refine Ala ?_; refine Ala ?_
  refine AD.popC rfl rfl rfl (POp.call (.mk' rfl rfl rfl rfl rfl) (p89 b)) ?_
  refine AD.nil ?_
  refine DP.tailC 3 (by decide +kernel) rfl ?_
  refine OL.popC rfl rfl rfl (POp.call (.mk' rfl rfl rfl rfl rfl) (p88 a (notF b))) ?_
  refine OL.popC rfl rfl rfl (POp.call (.mk' rfl rfl rfl rfl rfl) (OCall.pcall (p92 (W := W) (andF a (notF b)) (wf_and hG.2.1 (wf_not hG.2.2.2.1)) (by rw [nodes_and, nodes_not]; omega) false))) ?_
  refine Oas ?_; refine S3 ?_
  refine r1 4 (H) ?_
  exact ⟨by rfl, rfl⟩
end Go.Proofs.YtiljpbljebfhnaaGreat

set_option linter.unusedVariables false
set_option linter.unusedSimpArgs false
set_option maxRecDepth 10000
namespace Go.Proofs.YtiljpbljebfhnaaGreat
open Go.Eng
open Go.Eng.Fc
theorem p57 (cs : List (List Fact)) (p : List (List Int)) : PCall Tryz.prog 57 [AV.factss cs, AV.intss p] (.b (decide (cs.length = p.length) && listsB (cs.map List.length) p)) := by
  intro H
  refine ACall.mk' (n := 54) Tryz.func57 rfl (by kernel_rfl) rfl rfl (fun B I w0 => ?_)
  refine S2 ?_; refine Oas ?_; refine S5 ?_; refine Omv ?_; refine Oln ?_; refine Omv ?_; refine Oln ?_; refine Ocm ?_; refine S2 ?_
  refine CW.cond rfl (fun h0 => ?_) (fun h0 => ?_)
  ·
    replace h0 := nm h0
    have hne : ¬ cs.length = p.length := fun e => h0 (by omega)
    refine S2 ?_; refine Oas ?_; refine S4 ?_
    refine r1 4 (H) ?_
    exact ⟨retB (by rw [decide_eq_false hne]; rfl), rfl⟩
  ·
    replace h0 := nm h0
    have hle : cs.length = p.length := by omega
    rw [decide_eq_true hle, Bool.true_and]
    refine S5 ?_; refine Omv ?_; refine Oln ?_; refine Omv ?_; refine S3 ?_
    refine lj (fun m st => ∃ i : Nat, st = ⟨[(16, .i i), (15, .i p.length), (14, AV.intss p), (4, .b false), (1, AV.intss p), (0, AV.factss cs)], H⟩ ∧ m = p.length - i ∧ i ≤ p.length ∧ ∀ q, q < i → incB ((cs.map List.length).getD q default) (p.getD q default) = true) (⟨0, rfl, rfl, by omega, fun q hq => by omega⟩) ?_
    rintro m _ ⟨i, rfl, rfl, hi, hall⟩
    refine CW.boundM (t := 14) rfl (fun hb14 => ?_)
    refine S2 ?_; refine Ocm ?_; refine S3 ?_
    refine CW.cond rfl (fun h1 => ?_) (fun h1 => ?_)
    ·
      replace h1 := nm h1
      have hil : i < p.length := by omega
      have hmi := map_len_at (cs := cs) (i := i) (by omega)
      refine S6 ?_; refine Omv ?_; refine Oix ?_; refine Old ?_; refine Oas ?_; refine Oas ?_; refine S4 ?_; refine Omv ?_; refine Oln ?_; refine Omv ?_; refine S3 ?_
      refine lj (fun m st => ∃ k : Nat, st = ⟨[(23, .i k), (22, .i (p.getD i default).length), (21, AV.ints (p.getD i default)), (6, AV.ints (p.getD i default)), (5, .i i), (16, .i i), (15, .i p.length), (14, AV.intss p), (4, .b false), (1, AV.intss p), (0, AV.factss cs)], H⟩ ∧ m = (p.getD i default).length - k ∧ k ≤ (p.getD i default).length ∧ ∀ q, q < k → badN (cs.getD i default).length (p.getD i default) q = false) (⟨0, rfl, rfl, by omega, fun q hq => by omega⟩) ?_
      rintro m _ ⟨k, rfl, rfl, hk, hin⟩
      refine CW.boundM (t := 21) rfl (fun hb21 => ?_)
      refine S2 ?_; refine Ocm ?_; refine S3 ?_
      refine CW.cond rfl (fun h2 => ?_) (fun h2 => ?_)
      ·
        replace h2 := nm h2
        have hkl : k < (p.getD i default).length := by omega
        refine S6 ?_; refine Omv ?_; refine Oix ?_; refine Old ?_; refine Oas ?_; refine Oas ?_; refine S4 ?_; refine Omv ?_; refine Ocm ?_; refine Omv ?_; refine Pmv ?_; refine Pmv ?_
        refine Pmv ?_; refine Pix ?_; refine Pld ?_; refine Pln ?_; refine Pcm ?_; refine Opk ?_; refine Omv ?_; refine Pmv ?_; refine Pcm ?_; refine Pmv ?_; refine Pmv ?_; refine Pmv ?_
        refine OL.guardC rfl rfl rfl rfl rfl rfl (fun hg => POp.arith rfl rfl rfl (gd hg) rfl rfl (wrap64 (by have hk0 := (Bool.and_eq_true_iff.1 hg).2; simp only [decide_eq_true_eq] at hk0; omega))) ?_
        refine OL.guardC rfl rfl rfl rfl rfl rfl (fun hg => (by first | exact POp.ixM rfl rfl (gd hg) rfl (gd hg) (by have hk0 := (Bool.and_eq_true_iff.1 hg).2; simp only [decide_eq_true_eq] at hk0; omega) | exact POp.ixI rfl rfl (gd hg) rfl (gd hg) (by have hk0 := (Bool.and_eq_true_iff.1 hg).2; simp only [decide_eq_true_eq] at hk0; omega))) ?_
        refine Pld ?_; refine Pmv ?_; refine Pcm ?_; refine Ppk ?_; refine Opk ?_; refine S2 ?_
        refine CW.cond rfl (fun h3 => ?_) (fun h3 => ?_)
        ·
          have hb : badN (cs.getD i default).length (p.getD i default) k = true := h3
          refine S2 ?_; refine Oas ?_; refine S12 ?_
          refine r1 4 (H) ?_
          exact ⟨retB (by symm; refine range_no hil ?_; rw [hmi]; exact range_no hkl (by rw [hb]; rfl)), rfl⟩
        ·
          have hb : badN (cs.getD i default).length (p.getD i default) k = false := h3
          refine S4 ?_; refine Oar ?_; refine Omv ?_; refine S1 ?_
          exact ag (⟨k + 1, rfl, rfl, by omega, fun q hq => by by_cases e : q = k; rw [e]; exact hb; exact hin q (by omega)⟩)
      ·
        replace h2 := nm h2
        obtain rfl : k = (p.getD i default).length := by omega
        refine S7 ?_; refine Oar ?_; refine Omv ?_; refine S1 ?_
        exact ag (⟨i + 1, rfl, rfl, by omega, fun q hq => by by_cases e : q = i; rw [e, hmi]; exact range_all fun k hk => (by rw [hin k hk]; rfl); exact hall q (by omega)⟩)
    ·
      replace h1 := nm h1
      obtain rfl : i = p.length := by omega
      refine S7 ?_; refine Oas ?_; refine S3 ?_
      refine r1 4 (H) ?_
      exact ⟨retB (by symm; exact range_all fun q hq => hall q hq), rfl⟩
structure CsOk (W : FW) (cs : List (List FLit)) : Prop where
  ls : ∀ c ∈ cs, LsOk W c
  len : ∀ c ∈ cs, c.length ≤ 300
  cO : ∀ c ∈ cs, CaseOk W c
theorem imp_cs {W : FW} {a b : Fact} (h : goodP W [a, b] = true) : CsOk W (impCases a b) := by
  have hG := good_f2 h
  have hI := imp_good hG.1 hG.2.1 hG.2.2.2.1 hG.2.2.1 hG.2.2.2.2
  exact ⟨fun c hc => case_ls hG.1 (wf_and hG.2.1 (wf_not hG.2.2.2.1)) hc, fun c hc => (hI.case false c hc).2, fun c hc => hI.case false c hc⟩
theorem factl_at {cs : List (List FLit)} {i : Nat} (hi : i < cs.length) : (cs.map factL).getD i default = factL (cs.getD i default) := by
  rw [getD_lt (by simpa using hi), getD_lt hi, List.getElem_map]
theorem factl_lens (cs : List (List FLit)) : (cs.map factL).map List.length = cs.map List.length := by
  rw [List.map_map]; exact List.map_congr_left fun c _ => fact_len c
theorem p58 {W : FW} {cs : List (List FLit)} (hC : CsOk W cs) (p : List (List Int)) (hle : cs.length = p.length) (hL : listsB (cs.map List.length) p = true) : PCall Tryz.prog 58 [AV.world W, AV.factss (cs.map factL), AV.intss p] (.b (provesB W cs p)) := by
  intro H
  refine ACall.mk' (n := 25) Tryz.func58 rfl (by kernel_rfl) rfl rfl (fun B I w0 => ?_)
  have hcl : (cs.map factL).length = cs.length := List.length_map _
  refine S2 ?_; refine Obx ?_; refine Oas ?_; refine S5 ?_; refine Omv ?_; refine Oln ?_; refine Omv ?_; refine S3 ?_
  refine lj (fun m st => ∃ i : Nat, st = ⟨[(11, .i i), (10, .i (cs.map factL).length), (9, AV.factss (cs.map factL)), (6, .b false), (2, AV.intss p), (3, .ptr (Wcells W))], H⟩ ∧ m = cs.length - i ∧ i ≤ cs.length ∧ ∀ q, q < i → together2 W (pickL (cs.getD q default) (p.getD q default)) = false) (⟨0, rfl, rfl, by omega, fun q hq => by omega⟩) ?_
  rintro m _ ⟨i, rfl, rfl, hi, hall⟩
  refine CW.boundM (t := 9) rfl (fun hb9 => ?_)
  refine S2 ?_; refine Ocm ?_; refine S3 ?_
  refine CW.cond rfl (fun h0 => ?_) (fun h0 => ?_)
  ·
    replace h0 := nm h0
    have hil : i < cs.length := by omega
    have hm := getD_mem hil
    have hinc := lists_at hL (i := i) (by omega)
    rw [map_len_at hil] at hinc
    have hfa := factl_at hil
    have hlen := hC.len _ hm
    have hlp := inc_len hinc
    have hrng := inc_rng hinc
    refine S6 ?_; refine Omv ?_; refine Oix ?_; refine Old ?_; refine Oas ?_; refine Oas ?_; refine S3 ?_
    rw [hfa]
    refine CW.dp mixed ?_
    refine DP.anyC 0 7 25 rfl (by decide +kernel) rfl rfl (by decide +kernel) ?_
    refine Ala ?_; refine Amv ?_; refine Amv ?_; refine Amv ?_; refine Aix ?_; refine Ald ?_
    refine AD.popC rfl rfl rfl (POp.call (.mk' rfl rfl rfl rfl rfl) (p112 (factL (cs.getD i default)) _ (by rw [fact_len]; exact hrng) (by omega))) ?_
    refine AD.nil ?_
    refine DP.tailC 7 (by decide +kernel) rfl ?_
    rw [some_pick _ hrng]
    refine OL.popC rfl rfl rfl (POp.call (.mk' rfl rfl rfl rfl rfl) (p93s ((hC.ls _ hm).pick hrng) (by rw [pickL, List.length_map]; omega))) ?_
    refine S2 ?_
    refine CW.cond rfl (fun h1 => ?_) (fun h1 => ?_)
    ·
      refine S2 ?_; refine Oas ?_; refine S8 ?_
      refine r1 6 (H) ?_
      exact ⟨retB (by symm; exact range_no hil (by rw [h1]; rfl)), rfl⟩
    ·
      refine S4 ?_; refine Oar ?_; refine Omv ?_; refine S1 ?_
      exact ag (⟨i + 1, rfl, rfl, by omega, fun q hq => by by_cases e : q = i; rw [e]; exact h1; exact hall q (by omega)⟩)
  ·
    replace h0 := nm h0
    obtain rfl : i = cs.length := by omega
    refine S7 ?_; refine Oas ?_; refine S3 ?_
    refine r1 6 (H) ?_
    exact ⟨retB (by symm; exact range_all fun q hq => by rw [hall q hq]; rfl), rfl⟩
theorem p53n {W : FW} {a b : Fact} (p : List (List Int)) (h : goodP W [a, b] = false) : PCall Tryz.prog 53 [AV.world W, AV.fact a, AV.fact b, AV.intss p] (.tup [.b false, .i 2]) := by
  intro H
  refine ACall.mk' (n := 101) Tryz.func53 rfl (by kernel_rfl) rfl rfl (fun B I w0 => ?_)
  refine S2 ?_; refine Obx ?_; refine Obx ?_; refine Obx ?_; refine Oas ?_; refine Oas ?_; refine S4 ?_; refine Ola ?_; refine Ola ?_; refine Ola ?_
  refine OL.popC rfl rfl rfl (POp.row rfl rfl (by first | rfl | simp_all [strip]) rfl rfl rfl rfl rfl rfl) ?_
  refine OL.popC rfl rfl rfl (POp.callLe (.mk' rfl rfl rfl rfl rfl) (.cons (.refl _) (.cons (AVle_facts [a, b] rfl) .nil)) (p80n h)) ?_
  refine Omv ?_; refine Oex ?_; refine Oex ?_; refine Oas ?_; refine Oas ?_; refine S5 ?_; refine Omv ?_; refine Ont ?_; refine S2 ?_
  refine CW.cond rfl (fun h0 => ?_) (fun h0 => ?_)
  ·
    refine S2 ?_; refine Oas ?_; refine Oas ?_; refine S4 ?_
    refine Done.retR (rs := [.tmp 8, .tmp 9]) (H' := H) rfl (.tmp rfl (.tmp rfl (.nil))) (AVleL.refl _) (by repeat (first | exact List.Sublist.refl _ | refine List.Sublist.cons _ ?_)) ?_
    exact ⟨by first | rfl | exact retI (by simp_all) | exact retB (by simp_all) | simp_all, rfl⟩
  ·
    cases h0
theorem p53l {W : FW} {a b : Fact} (p : List (List Int)) (h : goodP W [a, b] = true) (hs : 400 < (impCases a b).length) : PCall Tryz.prog 53 [AV.world W, AV.fact a, AV.fact b, AV.intss p] (.tup [.b false, .i 3]) := by
  intro H
  refine ACall.mk' (n := 101) Tryz.func53 rfl (by kernel_rfl) rfl rfl (fun B I w0 => ?_)
  have hw := good_w h
  have ha := good_f h (.head _)
  have hb := good_f h (.tail _ (.head _))
  have hG := imp_good hw ha.1 hb.1 ha.2 hb.2
  have hC := imp_cs h
  refine S2 ?_; refine Obx ?_; refine Obx ?_; refine Obx ?_; refine Oas ?_; refine Oas ?_; refine S4 ?_; refine Ola ?_; refine Ola ?_; refine Ola ?_
  refine OL.popC rfl rfl rfl (POp.row rfl rfl (by first | rfl | simp_all [strip]) rfl rfl rfl rfl rfl rfl) ?_
  refine OL.popC rfl rfl rfl (POp.callLe (.mk' rfl rfl rfl rfl rfl) (.cons (.refl _) (.cons (AVle_facts [a, b] rfl) .nil)) (p80g h)) ?_
  refine Omv ?_; refine Oex ?_; refine Oex ?_; refine Oas ?_; refine Oas ?_; refine S5 ?_; refine Omv ?_; refine Ont ?_; refine S2 ?_
  refine CW.cond rfl (fun h0 => ?_) (fun h0 => ?_)
  ·
    cases h0
  ·
    refine S4 ?_; refine Ola ?_; refine Ola ?_
    refine OL.popC rfl rfl rfl (POp.call (.mk' rfl rfl rfl rfl rfl) (p101l hG hs)) ?_
    refine Omv ?_; refine Oex ?_; refine Oex ?_; refine Oas ?_; refine Oas ?_; refine S5 ?_; refine Omv ?_; refine Ont ?_; refine S2 ?_
    refine CW.cond rfl (fun h1 => ?_) (fun h1 => ?_)
    ·
      refine S2 ?_; refine Oas ?_; refine Oas ?_; refine S4 ?_
      refine Done.retR (rs := [.tmp 8, .tmp 9]) (H' := H) rfl (.tmp rfl (.tmp rfl (.nil))) (AVleL.refl _) (by repeat (first | exact List.Sublist.refl _ | refine List.Sublist.cons _ ?_)) ?_
      exact ⟨by first | rfl | exact retI (by simp_all) | exact retB (by simp_all) | simp_all, rfl⟩
    ·
      cases h1
theorem p53x {W : FW} {a b : Fact} (p : List (List Int)) (h : goodP W [a, b] = true) (hs : (impCases a b).length ≤ 400) (hbad : (decide ((impCases a b).length = p.length) && listsB ((impCases a b).map List.length) p) = false) : PCall Tryz.prog 53 [AV.world W, AV.fact a, AV.fact b, AV.intss p] (.tup [.b false, .i 2]) := by
  intro H
  refine ACall.mk' (n := 101) Tryz.func53 rfl (by kernel_rfl) rfl rfl (fun B I w0 => ?_)
  have hw := good_w h
  have ha := good_f h (.head _)
  have hb := good_f h (.tail _ (.head _))
  have hG := imp_good hw ha.1 hb.1 ha.2 hb.2
  have hC := imp_cs h
  refine S2 ?_; refine Obx ?_; refine Obx ?_; refine Obx ?_; refine Oas ?_; refine Oas ?_; refine S4 ?_; refine Ola ?_; refine Ola ?_; refine Ola ?_
  refine OL.popC rfl rfl rfl (POp.row rfl rfl (by first | rfl | simp_all [strip]) rfl rfl rfl rfl rfl rfl) ?_
  refine OL.popC rfl rfl rfl (POp.callLe (.mk' rfl rfl rfl rfl rfl) (.cons (.refl _) (.cons (AVle_facts [a, b] rfl) .nil)) (p80g h)) ?_
  refine Omv ?_; refine Oex ?_; refine Oex ?_; refine Oas ?_; refine Oas ?_; refine S5 ?_; refine Omv ?_; refine Ont ?_; refine S2 ?_
  refine CW.cond rfl (fun h0 => ?_) (fun h0 => ?_)
  ·
    cases h0
  ·
    refine S4 ?_; refine Ola ?_; refine Ola ?_
    refine OL.popC rfl rfl rfl (POp.call (.mk' rfl rfl rfl rfl rfl) (p101s hG hs)) ?_
    refine Omv ?_; refine Oex ?_; refine Oex ?_; refine Oas ?_; refine Oas ?_; refine S5 ?_; refine Omv ?_; refine Ont ?_; refine S2 ?_
    refine CW.cond rfl (fun h1 => ?_) (fun h1 => ?_)
    ·
      cases h1
    ·
      refine S5 ?_; refine Omv ?_; refine Oln ?_; refine Omv ?_; refine Oln ?_; refine Ocm ?_; refine S2 ?_
      refine CW.cond rfl (fun h2 => ?_) (fun h2 => ?_)
      ·
        replace h2 := nm h2
        refine S2 ?_; refine Oas ?_; refine Oas ?_; refine S4 ?_
        refine Done.retR (rs := [.tmp 8, .tmp 9]) (H' := H) rfl (.tmp rfl (.tmp rfl (.nil))) (AVleL.refl _) (by repeat (first | exact List.Sublist.refl _ | refine List.Sublist.cons _ ?_)) ?_
        exact ⟨by first | rfl | exact retI (by simp_all) | exact retB (by simp_all) | simp_all, rfl⟩
      ·
        replace h2 := nm h2
        have hle : (impCases a b).length = p.length := by omega
        have hL : listsB ((impCases a b).map List.length) p = false := by simpa [hle] using hbad
        refine S5 ?_; refine Omv ?_; refine Oln ?_; refine Omv ?_; refine S3 ?_
        refine lj (fun m st => ∃ i : Nat, st = ⟨[(44, .i i), (43, .i (impCases a b).length), (42, AV.litss (impCases a b)), (12, AV.litss (impCases a b)), (10, Wptr W), (3, AV.intss p)], H⟩ ∧ m = (impCases a b).length - i ∧ i ≤ (impCases a b).length ∧ ∀ q, q < i → incB (((impCases a b).map List.length).getD q default) (p.getD q default) = true) (⟨0, rfl, rfl, by omega, fun q hq => by omega⟩) ?_
        rintro m _ ⟨i, rfl, rfl, hi, hall⟩
        refine S2 ?_; refine Ocm ?_; refine S3 ?_
        refine CW.cond rfl (fun h3 => ?_) (fun h3 => ?_)
        ·
          replace h3 := nm h3
          have hil : i < (impCases a b).length := by omega
          have hmi := map_len_at (cs := (impCases a b)) (i := i) (by omega)
          refine S6 ?_; refine Omv ?_; refine Oix ?_; refine Old ?_; refine Oas ?_; refine Oas ?_; refine S4 ?_; refine Omv ?_; refine Omv ?_; refine Oix ?_; refine Old ?_; refine Oln ?_
          refine Omv ?_; refine S3 ?_
          refine lj (fun m st => ∃ k : Nat, st = ⟨[(54, .i k), (53, .i (p.getD i default).length), (52, AV.ints (p.getD i default)), (14, AV.lits ((impCases a b).getD i default)), (13, .i i), (44, .i i), (43, .i (impCases a b).length), (42, AV.litss (impCases a b)), (12, AV.litss (impCases a b)), (10, Wptr W), (3, AV.intss p)], H⟩ ∧ m = (p.getD i default).length - k ∧ k ≤ (p.getD i default).length ∧ ∀ q, q < k → badN ((impCases a b).getD i default).length (p.getD i default) q = false) (⟨0, rfl, rfl, by omega, fun q hq => by omega⟩) ?_
          rintro m _ ⟨k, rfl, rfl, hk, hin⟩
          refine CW.boundM (t := 52) rfl (fun hb52 => ?_)
          refine S2 ?_; refine Ocm ?_; refine S3 ?_
          refine CW.cond rfl (fun h4 => ?_) (fun h4 => ?_)
          ·
            replace h4 := nm h4
            have hkl : k < (p.getD i default).length := by omega
            refine S6 ?_; refine Omv ?_; refine Oix ?_; refine Old ?_; refine Oas ?_; refine Oas ?_; refine S4 ?_; refine Omv ?_; refine Ocm ?_; refine Omv ?_; refine Pmv ?_; refine Pmv ?_
            refine Pln ?_; refine Pcm ?_; refine Opk ?_; refine Omv ?_; refine Pmv ?_; refine Pcm ?_; refine Pmv ?_; refine Pmv ?_; refine Pmv ?_; refine Pix ?_; refine Pld ?_; refine Pmv ?_
            refine OL.guardC rfl rfl rfl rfl rfl rfl (fun hg => POp.arith rfl rfl rfl (gd hg) rfl rfl (wrap64 (by have hk0 := (Bool.and_eq_true_iff.1 hg).2; simp only [decide_eq_true_eq] at hk0; omega))) ?_
            refine OL.guardC rfl rfl rfl rfl rfl rfl (fun hg => (by first | exact POp.ixM rfl rfl (gd hg) rfl (gd hg) (by have hk0 := (Bool.and_eq_true_iff.1 hg).2; simp only [decide_eq_true_eq] at hk0; omega) | exact POp.ixI rfl rfl (gd hg) rfl (gd hg) (by have hk0 := (Bool.and_eq_true_iff.1 hg).2; simp only [decide_eq_true_eq] at hk0; omega))) ?_
            refine Pld ?_; refine Pmv ?_; refine Pcm ?_; refine Ppk ?_; refine Opk ?_; refine S2 ?_
            refine CW.cond rfl (fun h5 => ?_) (fun h5 => ?_)
            ·
              have hb : badN ((impCases a b).getD i default).length (p.getD i default) k = true := h5
              refine S2 ?_; refine Oas ?_; refine Oas ?_; refine S12 ?_
              refine Done.retR (rs := [.tmp 8, .tmp 9]) (H' := H) rfl (.tmp rfl (.tmp rfl (.nil))) (AVleL.refl _) (by repeat (first | exact List.Sublist.refl _ | refine List.Sublist.cons _ ?_)) ?_
              exact ⟨by rfl, rfl⟩
            ·
              have hb : badN ((impCases a b).getD i default).length (p.getD i default) k = false := h5
              refine S4 ?_; refine Oar ?_; refine Omv ?_; refine S1 ?_
              exact ag (⟨k + 1, rfl, rfl, by omega, fun q hq => by by_cases e : q = k; rw [e]; exact hb; exact hin q (by omega)⟩)
          ·
            replace h4 := nm h4
            obtain rfl : k = (p.getD i default).length := by omega
            refine S7 ?_; refine Oar ?_; refine Omv ?_; refine S1 ?_
            exact ag (⟨i + 1, rfl, rfl, by omega, fun q hq => by by_cases e : q = i; rw [e, hmi]; exact range_all fun k hk => (by rw [hin k hk]; rfl); exact hall q (by omega)⟩)
        ·
          exfalso
          simp only [decide_eq_false_iff_not] at h3
          obtain rfl : i = (impCases a b).length := by omega
          rw [show listsB ((impCases a b).map List.length) p = true from range_all fun q hq => hall q (by omega)] at hL
          cases hL
theorem p53g {W : FW} {a b : Fact} (p : List (List Int)) (h : goodP W [a, b] = true) (hs : (impCases a b).length ≤ 400) (hle : (impCases a b).length = p.length) (hL : listsB ((impCases a b).map List.length) p = true) : PCall Tryz.prog 53 [AV.world W, AV.fact a, AV.fact b, AV.intss p] (.tup [.b (provesB W (impCases a b) p), .i 0]) := by
  intro H
  refine ACall.mk' (n := 101) Tryz.func53 rfl (by kernel_rfl) rfl rfl (fun B I w0 => ?_)
  have hw := good_w h
  have ha := good_f h (.head _)
  have hb := good_f h (.tail _ (.head _))
  have hG := imp_good hw ha.1 hb.1 ha.2 hb.2
  have hC := imp_cs h
  refine S2 ?_; refine Obx ?_; refine Obx ?_; refine Obx ?_; refine Oas ?_; refine Oas ?_; refine S4 ?_; refine Ola ?_; refine Ola ?_; refine Ola ?_
  refine OL.popC rfl rfl rfl (POp.row rfl rfl (by first | rfl | simp_all [strip]) rfl rfl rfl rfl rfl rfl) ?_
  refine OL.popC rfl rfl rfl (POp.callLe (.mk' rfl rfl rfl rfl rfl) (.cons (.refl _) (.cons (AVle_facts [a, b] rfl) .nil)) (p80g h)) ?_
  refine Omv ?_; refine Oex ?_; refine Oex ?_; refine Oas ?_; refine Oas ?_; refine S5 ?_; refine Omv ?_; refine Ont ?_; refine S2 ?_
  refine CW.cond rfl (fun h0 => ?_) (fun h0 => ?_)
  ·
    cases h0
  ·
    refine S4 ?_; refine Ola ?_; refine Ola ?_
    refine OL.popC rfl rfl rfl (POp.call (.mk' rfl rfl rfl rfl rfl) (p101s hG hs)) ?_
    refine Omv ?_; refine Oex ?_; refine Oex ?_; refine Oas ?_; refine Oas ?_; refine S5 ?_; refine Omv ?_; refine Ont ?_; refine S2 ?_
    refine CW.cond rfl (fun h1 => ?_) (fun h1 => ?_)
    ·
      cases h1
    ·
      refine S5 ?_; refine Omv ?_; refine Oln ?_; refine Omv ?_; refine Oln ?_; refine Ocm ?_; refine S2 ?_
      refine CW.cond rfl (fun h2 => ?_) (fun h2 => ?_)
      ·
        exact absurd h2 (by rw [hle]; simp)
      ·
        refine S5 ?_; refine Omv ?_; refine Oln ?_; refine Omv ?_; refine S3 ?_
        refine lj (fun m st => ∃ i : Nat, st = ⟨[(44, .i i), (43, .i (impCases a b).length), (42, AV.litss (impCases a b)), (12, AV.litss (impCases a b)), (10, Wptr W), (3, AV.intss p)], H⟩ ∧ m = (impCases a b).length - i ∧ i ≤ (impCases a b).length ∧ ∀ q, q < i → incB (((impCases a b).map List.length).getD q default) (p.getD q default) = true) (⟨0, rfl, rfl, by omega, fun q hq => by omega⟩) ?_
        rintro m _ ⟨i, rfl, rfl, hi, hall⟩
        refine S2 ?_; refine Ocm ?_; refine S3 ?_
        refine CW.cond rfl (fun h3 => ?_) (fun h3 => ?_)
        ·
          replace h3 := nm h3
          have hil : i < (impCases a b).length := by omega
          have hmi := map_len_at (cs := (impCases a b)) (i := i) (by omega)
          refine S6 ?_; refine Omv ?_; refine Oix ?_; refine Old ?_; refine Oas ?_; refine Oas ?_; refine S4 ?_; refine Omv ?_; refine Omv ?_; refine Oix ?_; refine Old ?_; refine Oln ?_
          refine Omv ?_; refine S3 ?_
          refine lj (fun m st => ∃ k : Nat, st = ⟨[(54, .i k), (53, .i (p.getD i default).length), (52, AV.ints (p.getD i default)), (14, AV.lits ((impCases a b).getD i default)), (13, .i i), (44, .i i), (43, .i (impCases a b).length), (42, AV.litss (impCases a b)), (12, AV.litss (impCases a b)), (10, Wptr W), (3, AV.intss p)], H⟩ ∧ m = (p.getD i default).length - k ∧ k ≤ (p.getD i default).length ∧ ∀ q, q < k → badN ((impCases a b).getD i default).length (p.getD i default) q = false) (⟨0, rfl, rfl, by omega, fun q hq => by omega⟩) ?_
          rintro m _ ⟨k, rfl, rfl, hk, hin⟩
          refine CW.boundM (t := 52) rfl (fun hb52 => ?_)
          refine S2 ?_; refine Ocm ?_; refine S3 ?_
          refine CW.cond rfl (fun h4 => ?_) (fun h4 => ?_)
          ·
            replace h4 := nm h4
            have hkl : k < (p.getD i default).length := by omega
            refine S6 ?_; refine Omv ?_; refine Oix ?_; refine Old ?_; refine Oas ?_; refine Oas ?_; refine S4 ?_; refine Omv ?_; refine Ocm ?_; refine Omv ?_; refine Pmv ?_; refine Pmv ?_
            refine Pln ?_; refine Pcm ?_; refine Opk ?_; refine Omv ?_; refine Pmv ?_; refine Pcm ?_; refine Pmv ?_; refine Pmv ?_; refine Pmv ?_; refine Pix ?_; refine Pld ?_; refine Pmv ?_
            refine OL.guardC rfl rfl rfl rfl rfl rfl (fun hg => POp.arith rfl rfl rfl (gd hg) rfl rfl (wrap64 (by have hk0 := (Bool.and_eq_true_iff.1 hg).2; simp only [decide_eq_true_eq] at hk0; omega))) ?_
            refine OL.guardC rfl rfl rfl rfl rfl rfl (fun hg => (by first | exact POp.ixM rfl rfl (gd hg) rfl (gd hg) (by have hk0 := (Bool.and_eq_true_iff.1 hg).2; simp only [decide_eq_true_eq] at hk0; omega) | exact POp.ixI rfl rfl (gd hg) rfl (gd hg) (by have hk0 := (Bool.and_eq_true_iff.1 hg).2; simp only [decide_eq_true_eq] at hk0; omega))) ?_
            refine Pld ?_; refine Pmv ?_; refine Pcm ?_; refine Ppk ?_; refine Opk ?_; refine S2 ?_
            refine CW.cond rfl (fun h5 => ?_) (fun h5 => ?_)
            ·
              exfalso
              have hb : badN ((impCases a b).getD i default).length (p.getD i default) k = true := h5
              have := lists_at hL (i := i) (by omega)
              rw [hmi] at this
              have := List.all_eq_true.1 this k (List.mem_range.2 hkl)
              rw [hb] at this; cases this
            ·
              have hb : badN ((impCases a b).getD i default).length (p.getD i default) k = false := h5
              refine S4 ?_; refine Oar ?_; refine Omv ?_; refine S1 ?_
              exact ag (⟨k + 1, rfl, rfl, by omega, fun q hq => by by_cases e : q = k; rw [e]; exact hb; exact hin q (by omega)⟩)
          ·
            replace h4 := nm h4
            obtain rfl : k = (p.getD i default).length := by omega
            refine S7 ?_; refine Oar ?_; refine Omv ?_; refine S1 ?_
            exact ag (⟨i + 1, rfl, rfl, by omega, fun q hq => by by_cases e : q = i; rw [e, hmi]; exact range_all fun k hk => (by rw [hin k hk]; rfl); exact hall q (by omega)⟩)
        ·
          replace h3 := nm h3
          obtain rfl : i = (impCases a b).length := by omega
          refine S8 ?_; refine Omv ?_; refine Oln ?_; refine Omv ?_; refine S3 ?_
          refine lj (fun m st => ∃ i : Nat, st = ⟨[(87, .i i), (86, .i (impCases a b).length), (85, AV.litss (impCases a b)), (12, AV.litss (impCases a b)), (10, Wptr W), (3, AV.intss p)], H⟩ ∧ m = (impCases a b).length - i ∧ i ≤ (impCases a b).length ∧ ∀ q, q < i → together2 W (pickL ((impCases a b).getD q default) (p.getD q default)) = false) (⟨0, rfl, rfl, by omega, fun q hq => by omega⟩) ?_
          rintro m _ ⟨i, rfl, rfl, hi, hall2⟩
          refine S2 ?_; refine Ocm ?_; refine S3 ?_
          refine CW.cond rfl (fun h6 => ?_) (fun h6 => ?_)
          ·
            replace h6 := nm h6
            have hil : i < (impCases a b).length := by omega
            have hm := getD_mem hil
            have hinc := lists_at hL (i := i) (by omega)
            rw [map_len_at hil] at hinc
            have hlen := hC.len _ hm
            have hlp := inc_len hinc
            have hrng := inc_rng hinc
            have hpc := pick_case (hC.cO _ hm) hrng hlp
            refine S6 ?_; refine Omv ?_; refine Oix ?_; refine Old ?_; refine Oas ?_; refine Oas ?_; refine S4 ?_; refine Omv ?_; refine Omv ?_; refine Omv ?_; refine Omv ?_; refine Oix ?_
            refine Old ?_
            refine OL.popC rfl rfl rfl (POp.call (.mk' rfl rfl rfl rfl rfl) (p104 _ _ hrng (by omega))) ?_
            refine OL.popC rfl rfl rfl (POp.call (.mk' rfl rfl rfl rfl rfl) (p82 hw hpc.1 hpc.2)) ?_
            refine S2 ?_
            refine CW.cond rfl (fun h7 => ?_) (fun h7 => ?_)
            ·
              rw [case_two hpc] at h7
              refine S2 ?_; refine Oas ?_; refine Oas ?_; refine S8 ?_
              refine Done.retR (rs := [.tmp 8, .tmp 9]) (H' := H) rfl (.tmp rfl (.tmp rfl (.nil))) (AVleL.refl _) (by repeat (first | exact List.Sublist.refl _ | refine List.Sublist.cons _ ?_)) ?_
              exact ⟨by rw [show provesB W (impCases a b) p = false from range_no hil (by rw [h7]; rfl)]; rfl, rfl⟩
            ·
              rw [case_two hpc] at h7
              refine S4 ?_; refine Oar ?_; refine Omv ?_; refine S1 ?_
              exact ag (⟨i + 1, rfl, rfl, by omega, fun q hq => by by_cases e : q = i; rw [e]; exact h7; exact hall2 q (by omega)⟩)
          ·
            replace h6 := nm h6
            obtain rfl : i = (impCases a b).length := by omega
            refine S7 ?_; refine Oas ?_; refine Oas ?_; refine S3 ?_
            refine Done.retR (rs := [.tmp 8, .tmp 9]) (H' := H) rfl (.tmp rfl (.tmp rfl (.nil))) (AVleL.refl _) (by repeat (first | exact List.Sublist.refl _ | refine List.Sublist.cons _ ?_)) ?_
            exact ⟨by rw [show provesB W (impCases a b) p = true from range_all fun q hq => by rw [hall2 q hq]; rfl]; rfl, rfl⟩
end Go.Proofs.YtiljpbljebfhnaaGreat

set_option linter.unusedVariables false
set_option linter.unusedSimpArgs false
set_option maxRecDepth 10000
namespace Go.Proofs.YtiljpbljebfhnaaGreat
open Go.Eng
open Go.Eng.Fc
theorem minN2_succ (W : FW) (c : List FLit) (k : Nat) : minN2 W c (k + 1) = minStep2 W c (minN2 W c k) k := by
  rw [minN2, List.range_succ, List.foldl_append]; rfl
theorem minN2_inv {W : FW} {c : List FLit} (hc : CaseOk W c) (k : Nat) : MinI c k (minN2 W c k) := minN_eq hc k ▸ minN_inv W c k
theorem p55g {W : FW} {a b : Fact} (h : goodP W [a, b] = true) (hs : (impCases a b).length ≤ 400) (hno : ∀ c ∈ impCases a b, together2 W c = false) : PCall Tryz.prog 55 [AV.world W, AV.fact a, AV.fact b] (.tup [AV.intss ((impCases a b).map (minC2 W)), .b true]) := by
  intro H
  refine ACall.mk' (n := 58) Tryz.func55 rfl (by kernel_rfl) rfl rfl (fun B I w0 => ?_)
  have hw := good_w h
  have hC := imp_cs h
  have hcl : ((impCases a b).map factL).length = (impCases a b).length := List.length_map _
  refine S2 ?_; refine Obx ?_; refine Obx ?_; refine Obx ?_; refine Oas ?_; refine Oas ?_; refine S4 ?_; refine Oas ?_; refine S4 ?_
  refine CW.ownNil 8 23 1 rfl ?_
  refine S1 ?_; refine Ola ?_; refine Ola ?_
  refine OL.popC rfl rfl rfl (POp.call (.mk' rfl rfl rfl rfl rfl) (p54 h)) ?_
  refine Oln ?_; refine Omv ?_; refine S3 ?_
  refine lj (fun m st => ∃ (k : Nat) (v : Value), st = ⟨[(19, .i k), (18, .i ((impCases a b).map factL).length), (17, AV.factss ((impCases a b).map factL)), (8, .as (AV.intss (((impCases a b).take k).map (minC2 W))) v), (7, .b false), (3, .ptr (Wcells W))], .own 23 1 v :: H⟩ ∧ m = (impCases a b).length - k ∧ k ≤ (impCases a b).length ∧ ∀ q, q < k → together2 W ((impCases a b).getD q default) = false) (⟨0, _, rfl, rfl, Nat.zero_le _, fun q hq => by omega⟩) ?_
  rintro m _ ⟨k, v, rfl, rfl, hk, hall⟩
  refine S2 ?_; refine Ocm ?_; refine S3 ?_
  refine CW.cond rfl (fun h0 => ?_) (fun h0 => ?_)
  ·
    replace h0 := nm h0
    have hkl : k < (impCases a b).length := by omega
    have hfa := factl_at hkl
    obtain ⟨c, hc⟩ : ∃ c, c = (impCases a b).getD k default := ⟨_, rfl⟩
    rw [← hc] at hfa
    have hcm : c ∈ impCases a b := by rw [hc]; exact getD_mem hkl
    have hcO := hC.cO c hcm
    have hcL := hC.ls c hcm
    have hclen := hcO.2
    have hfl := fact_len c
    have htk : (impCases a b).take (k + 1) = (impCases a b).take k ++ [c] := by rw [hc, take_getD hkl]
    refine S6 ?_; refine Oix ?_; refine Old ?_
    rw [hfa]
    refine Oas ?_; refine S5 ?_; refine Ola ?_; refine Omv ?_
    refine OL.popC rfl rfl rfl (POp.call (.mk' rfl rfl rfl rfl rfl) (p93s hcL (by omega))) ?_
    refine S2 ?_
    refine CW.cond rfl (fun h1 => ?_) (fun h1 => ?_)
    ·
      exact absurd (hno c hcm) (by rw [h1]; simp)
    ·
      refine S4 ?_; refine Oas ?_; refine S4 ?_
      refine CW.ownNil 11 3 1 rfl ?_
      refine S1 ?_; refine Omv ?_; refine Oln ?_; refine Omv ?_; refine S3 ?_
      refine lj (fun m st => ∃ (q : Nat) (v2 : Value), st = ⟨[(28, .i q), (27, .i (factL c).length), (11, .as (AV.ints (numL q)) v2), (10, AV.facts (factL c)), (19, .i k), (18, .i ((impCases a b).map factL).length), (17, AV.factss ((impCases a b).map factL)), (8, .as (AV.intss (((impCases a b).take k).map (minC2 W))) v), (7, .b false), (3, .ptr (Wcells W))], .own 3 1 v2 :: .own 23 1 v :: H⟩ ∧ m = c.length - q ∧ q ≤ c.length) (⟨0, _, rfl, rfl, Nat.zero_le _⟩) ?_
      rintro m _ ⟨q, v2, rfl, rfl, hq⟩
      refine S2 ?_; refine Ocm ?_; refine S3 ?_
      refine CW.cond rfl (fun h2 => ?_) (fun h2 => ?_)
      ·
        replace h2 := nm h2
        refine S6 ?_; refine Omv ?_; refine Oas ?_; refine S3 ?_; refine Omv ?_; refine Omv ?_
        refine OL.popC rfl rfl rfl (POp.row rfl rfl (by first | rfl | simp_all [strip]) rfl rfl rfl rfl rfl rfl) ?_
        refine OL.appendC rfl rfl rfl rfl rfl rfl rfl rfl (AVle.refl _) (rfl) (fun v => by repeat (first | exact Upd.head _ _ _ | apply Upd.tail)) (by show (List.length (List.map _ _) + 1) * 8 ≤ _; rw [List.length_map, num_len]; omega) (by show List.length (List.map _ _) + 1 ≤ _; rw [List.length_map, num_len]; omega) (fun v34 => ?_)
        refine Oas ?_; refine S3 ?_
        refine CW.le 11 (y := .as (AV.ints (numL (q + 1))) v34) rfl (by rw [num_succ, AV.ints, ints_snoc]; exact AVle.refl _) ?_
        refine S1 ?_; refine Oar ?_; refine Omv ?_; refine S1 ?_
        exact ag (⟨q + 1, v34, rfl, rfl, by omega⟩)
      ·
        replace h2 := nm h2
        obtain rfl : q = c.length := by omega
        refine S7 ?_
        refine CW.le 11 rfl (AVle.asL _ _) ?_
        refine S1 ?_; refine Omv ?_; refine Oln ?_; refine Omv ?_; refine S3 ?_
        refine lj (fun m st => ∃ (q : Nat), st = ⟨[(38, .i q), (37, .i (factL c).length), (11, AV.ints (minN2 W c q)), (10, AV.facts (factL c)), (19, .i k), (18, .i ((impCases a b).map factL).length), (17, AV.factss ((impCases a b).map factL)), (8, .as (AV.intss (((impCases a b).take k).map (minC2 W))) v), (7, .b false), (3, .ptr (Wcells W))], .own 23 1 v :: H⟩ ∧ m = c.length - q ∧ q ≤ c.length) (⟨0, rfl, rfl, Nat.zero_le _⟩) ?_
        rintro m _ ⟨q, rfl, rfl, hq⟩
        have hI := minN2_inv hcO q
        have hIl := hI.len
        refine S2 ?_; refine Ocm ?_; refine S3 ?_
        refine CW.cond rfl (fun h3 => ?_) (fun h3 => ?_)
        ·
          replace h3 := nm h3
          have hql : q < c.length := by omega
          have hF := hI.filter
          refine S6 ?_; refine Omv ?_; refine Oas ?_; refine S4 ?_; refine Omv ?_; refine Omv ?_
          refine OL.popC rfl rfl rfl (POp.call (.mk' rfl rfl rfl rfl rfl) (p111 (minN2 W c q) q (by omega))) ?_
          refine Oas ?_; refine S3 ?_
          refine CW.dp mixed ?_
          refine DP.anyC 0 4 58 rfl (by decide +kernel) rfl rfl (by decide +kernel) ?_
          refine Ala ?_; refine Amv ?_; refine Amv ?_
          refine AD.popC rfl rfl rfl (POp.call (.mk' rfl rfl rfl rfl rfl) (p112 (factL c) _ (by rw [hfl]; exact hF.rng) (by have := hF.len; omega))) ?_
          refine AD.nil ?_
          refine DP.tailC 4 (by decide +kernel) rfl ?_
          rw [some_pick _ hF.rng]
          refine OL.popC rfl rfl rfl (POp.call (.mk' rfl rfl rfl rfl rfl) (p93s (hcL.pick hF.rng) (by rw [pickL, List.length_map]; have := hF.len; omega))) ?_
          refine Ont ?_; refine S2 ?_
          refine CW.cond rfl (fun h4 => ?_) (fun h4 => ?_)
          ·
            have hst : minN2 W c (q + 1) = (minN2 W c q).filter fun m => !(m == (q : Int)) := by rw [minN2_succ, minStep2, if_neg (by simpa using h4)]
            rw [← hst]
            refine S1 ?_; refine Omv ?_; refine Oas ?_; refine S4 ?_; refine Oar ?_; refine Omv ?_; refine S1 ?_
            exact ag (⟨q + 1, rfl, rfl, by omega⟩)
          ·
            have hst : minN2 W c (q + 1) = minN2 W c q := by rw [minN2_succ, minStep2, if_pos (by simpa using h4)]
            rw [← hst]
            refine S4 ?_; refine Oar ?_; refine Omv ?_; refine S1 ?_
            exact ag (⟨q + 1, rfl, rfl, by omega⟩)
        ·
          replace h3 := nm h3
          obtain rfl : q = c.length := by omega
          refine S6 ?_; refine Omv ?_; refine Omv ?_
          refine OL.popC rfl rfl rfl (POp.row rfl rfl (by first | rfl | simp_all [strip]) rfl rfl rfl rfl rfl rfl) ?_
          refine OL.appendC rfl rfl rfl rfl rfl rfl rfl rfl (AVle.refl _) (rfl) (fun v => by repeat (first | exact Upd.head _ _ _ | apply Upd.tail)) (by show (List.length (List.map _ _) + 1) * 24 ≤ _; rw [List.length_map, List.length_map, List.length_take]; omega) (by show List.length (List.map _ _) + 1 ≤ _; rw [List.length_map, List.length_map, List.length_take]; omega) (fun v55 => ?_)
          refine Oas ?_; refine S3 ?_
          refine CW.le 8 (y := .as (AV.intss (((impCases a b).take (k + 1)).map (minC2 W))) v55) rfl (by rw [htk, List.map_append, AV.intss, List.map_singleton, intss_snoc]; exact AVle.refl _) ?_
          refine S1 ?_; refine Oar ?_; refine Omv ?_; refine S1 ?_
          exact ag (⟨k + 1, v55, rfl, rfl, by omega, fun q hq => by by_cases e : q = k; rw [e, ← hc]; exact h1; exact hall q (by omega)⟩)
  ·
    replace h0 := nm h0
    obtain rfl : k = (impCases a b).length := by omega
    rw [List.take_length]
    refine S7 ?_; refine Omv ?_; refine Oas ?_; refine Oas ?_; refine S3 ?_
    refine Done.retR (rs := [.tmp 6, .tmp 7]) (H' := H) rfl (.tmp rfl (.tmp rfl (.nil))) (.cons (AVle.asL _ _) (.cons (.refl _) .nil)) (by repeat (first | exact List.Sublist.refl _ | refine List.Sublist.cons _ ?_)) ?_
    exact ⟨by rfl, rfl⟩
theorem p55x {W : FW} {a b : Fact} (h : goodP W [a, b] = true) (hs : (impCases a b).length ≤ 400) (hyes : ∃ c ∈ impCases a b, together2 W c = true) : PCall Tryz.prog 55 [AV.world W, AV.fact a, AV.fact b] (.tup [.sl 1 [], .b false]) := by
  intro H
  refine ACall.mk' (n := 58) Tryz.func55 rfl (by kernel_rfl) rfl rfl (fun B I w0 => ?_)
  have hw := good_w h
  have hC := imp_cs h
  have hcl : ((impCases a b).map factL).length = (impCases a b).length := List.length_map _
  refine S2 ?_; refine Obx ?_; refine Obx ?_; refine Obx ?_; refine Oas ?_; refine Oas ?_; refine S4 ?_; refine Oas ?_; refine S4 ?_
  refine CW.ownNil 8 23 1 rfl ?_
  refine S1 ?_; refine Ola ?_; refine Ola ?_
  refine OL.popC rfl rfl rfl (POp.call (.mk' rfl rfl rfl rfl rfl) (p54 h)) ?_
  refine Oln ?_; refine Omv ?_; refine S3 ?_
  refine lj (fun m st => ∃ (k : Nat) (v : Value), st = ⟨[(19, .i k), (18, .i ((impCases a b).map factL).length), (17, AV.factss ((impCases a b).map factL)), (8, .as (AV.intss (((impCases a b).take k).map (minC2 W))) v), (7, .b false), (3, .ptr (Wcells W))], .own 23 1 v :: H⟩ ∧ m = (impCases a b).length - k ∧ k ≤ (impCases a b).length ∧ ∀ q, q < k → together2 W ((impCases a b).getD q default) = false) (⟨0, _, rfl, rfl, Nat.zero_le _, fun q hq => by omega⟩) ?_
  rintro m _ ⟨k, v, rfl, rfl, hk, hall⟩
  refine S2 ?_; refine Ocm ?_; refine S3 ?_
  refine CW.cond rfl (fun h0 => ?_) (fun h0 => ?_)
  ·
    replace h0 := nm h0
    have hkl : k < (impCases a b).length := by omega
    have hfa := factl_at hkl
    obtain ⟨c, hc⟩ : ∃ c, c = (impCases a b).getD k default := ⟨_, rfl⟩
    rw [← hc] at hfa
    have hcm : c ∈ impCases a b := by rw [hc]; exact getD_mem hkl
    have hcO := hC.cO c hcm
    have hcL := hC.ls c hcm
    have hclen := hcO.2
    have hfl := fact_len c
    have htk : (impCases a b).take (k + 1) = (impCases a b).take k ++ [c] := by rw [hc, take_getD hkl]
    refine S6 ?_; refine Oix ?_; refine Old ?_
    rw [hfa]
    refine Oas ?_; refine S5 ?_; refine Ola ?_; refine Omv ?_
    refine OL.popC rfl rfl rfl (POp.call (.mk' rfl rfl rfl rfl rfl) (p93s hcL (by omega))) ?_
    refine S2 ?_
    refine CW.cond rfl (fun h1 => ?_) (fun h1 => ?_)
    ·
      refine S2 ?_; refine Oas ?_; refine Oas ?_; refine S9 ?_
      refine Done.retR (rs := [.tmp 6, .tmp 7]) (H' := H) rfl (.tmp rfl (.tmp rfl (.nil))) (.cons (AVle.nil 1) (.cons (.refl _) .nil)) (by repeat (first | exact List.Sublist.refl _ | refine List.Sublist.cons _ ?_)) ?_
      exact ⟨by rfl, rfl⟩
    ·
      refine S4 ?_; refine Oas ?_; refine S4 ?_
      refine CW.ownNil 11 3 1 rfl ?_
      refine S1 ?_; refine Omv ?_; refine Oln ?_; refine Omv ?_; refine S3 ?_
      refine lj (fun m st => ∃ (q : Nat) (v2 : Value), st = ⟨[(28, .i q), (27, .i (factL c).length), (11, .as (AV.ints (numL q)) v2), (10, AV.facts (factL c)), (19, .i k), (18, .i ((impCases a b).map factL).length), (17, AV.factss ((impCases a b).map factL)), (8, .as (AV.intss (((impCases a b).take k).map (minC2 W))) v), (7, .b false), (3, .ptr (Wcells W))], .own 3 1 v2 :: .own 23 1 v :: H⟩ ∧ m = c.length - q ∧ q ≤ c.length) (⟨0, _, rfl, rfl, Nat.zero_le _⟩) ?_
      rintro m _ ⟨q, v2, rfl, rfl, hq⟩
      refine S2 ?_; refine Ocm ?_; refine S3 ?_
      refine CW.cond rfl (fun h2 => ?_) (fun h2 => ?_)
      ·
        replace h2 := nm h2
        refine S6 ?_; refine Omv ?_; refine Oas ?_; refine S3 ?_; refine Omv ?_; refine Omv ?_
        refine OL.popC rfl rfl rfl (POp.row rfl rfl (by first | rfl | simp_all [strip]) rfl rfl rfl rfl rfl rfl) ?_
        refine OL.appendC rfl rfl rfl rfl rfl rfl rfl rfl (AVle.refl _) (rfl) (fun v => by repeat (first | exact Upd.head _ _ _ | apply Upd.tail)) (by show (List.length (List.map _ _) + 1) * 8 ≤ _; rw [List.length_map, num_len]; omega) (by show List.length (List.map _ _) + 1 ≤ _; rw [List.length_map, num_len]; omega) (fun v34 => ?_)
        refine Oas ?_; refine S3 ?_
        refine CW.le 11 (y := .as (AV.ints (numL (q + 1))) v34) rfl (by rw [num_succ, AV.ints, ints_snoc]; exact AVle.refl _) ?_
        refine S1 ?_; refine Oar ?_; refine Omv ?_; refine S1 ?_
        exact ag (⟨q + 1, v34, rfl, rfl, by omega⟩)
      ·
        replace h2 := nm h2
        obtain rfl : q = c.length := by omega
        refine S7 ?_
        refine CW.le 11 rfl (AVle.asL _ _) ?_
        refine S1 ?_; refine Omv ?_; refine Oln ?_; refine Omv ?_; refine S3 ?_
        refine lj (fun m st => ∃ (q : Nat), st = ⟨[(38, .i q), (37, .i (factL c).length), (11, AV.ints (minN2 W c q)), (10, AV.facts (factL c)), (19, .i k), (18, .i ((impCases a b).map factL).length), (17, AV.factss ((impCases a b).map factL)), (8, .as (AV.intss (((impCases a b).take k).map (minC2 W))) v), (7, .b false), (3, .ptr (Wcells W))], .own 23 1 v :: H⟩ ∧ m = c.length - q ∧ q ≤ c.length) (⟨0, rfl, rfl, Nat.zero_le _⟩) ?_
        rintro m _ ⟨q, rfl, rfl, hq⟩
        have hI := minN2_inv hcO q
        have hIl := hI.len
        refine S2 ?_; refine Ocm ?_; refine S3 ?_
        refine CW.cond rfl (fun h3 => ?_) (fun h3 => ?_)
        ·
          replace h3 := nm h3
          have hql : q < c.length := by omega
          have hF := hI.filter
          refine S6 ?_; refine Omv ?_; refine Oas ?_; refine S4 ?_; refine Omv ?_; refine Omv ?_
          refine OL.popC rfl rfl rfl (POp.call (.mk' rfl rfl rfl rfl rfl) (p111 (minN2 W c q) q (by omega))) ?_
          refine Oas ?_; refine S3 ?_
          refine CW.dp mixed ?_
          refine DP.anyC 0 4 58 rfl (by decide +kernel) rfl rfl (by decide +kernel) ?_
          refine Ala ?_; refine Amv ?_; refine Amv ?_
          refine AD.popC rfl rfl rfl (POp.call (.mk' rfl rfl rfl rfl rfl) (p112 (factL c) _ (by rw [hfl]; exact hF.rng) (by have := hF.len; omega))) ?_
          refine AD.nil ?_
          refine DP.tailC 4 (by decide +kernel) rfl ?_
          rw [some_pick _ hF.rng]
          refine OL.popC rfl rfl rfl (POp.call (.mk' rfl rfl rfl rfl rfl) (p93s (hcL.pick hF.rng) (by rw [pickL, List.length_map]; have := hF.len; omega))) ?_
          refine Ont ?_; refine S2 ?_
          refine CW.cond rfl (fun h4 => ?_) (fun h4 => ?_)
          ·
            have hst : minN2 W c (q + 1) = (minN2 W c q).filter fun m => !(m == (q : Int)) := by rw [minN2_succ, minStep2, if_neg (by simpa using h4)]
            rw [← hst]
            refine S1 ?_; refine Omv ?_; refine Oas ?_; refine S4 ?_; refine Oar ?_; refine Omv ?_; refine S1 ?_
            exact ag (⟨q + 1, rfl, rfl, by omega⟩)
          ·
            have hst : minN2 W c (q + 1) = minN2 W c q := by rw [minN2_succ, minStep2, if_pos (by simpa using h4)]
            rw [← hst]
            refine S4 ?_; refine Oar ?_; refine Omv ?_; refine S1 ?_
            exact ag (⟨q + 1, rfl, rfl, by omega⟩)
        ·
          replace h3 := nm h3
          obtain rfl : q = c.length := by omega
          refine S6 ?_; refine Omv ?_; refine Omv ?_
          refine OL.popC rfl rfl rfl (POp.row rfl rfl (by first | rfl | simp_all [strip]) rfl rfl rfl rfl rfl rfl) ?_
          refine OL.appendC rfl rfl rfl rfl rfl rfl rfl rfl (AVle.refl _) (rfl) (fun v => by repeat (first | exact Upd.head _ _ _ | apply Upd.tail)) (by show (List.length (List.map _ _) + 1) * 24 ≤ _; rw [List.length_map, List.length_map, List.length_take]; omega) (by show List.length (List.map _ _) + 1 ≤ _; rw [List.length_map, List.length_map, List.length_take]; omega) (fun v55 => ?_)
          refine Oas ?_; refine S3 ?_
          refine CW.le 8 (y := .as (AV.intss (((impCases a b).take (k + 1)).map (minC2 W))) v55) rfl (by rw [htk, List.map_append, AV.intss, List.map_singleton, intss_snoc]; exact AVle.refl _) ?_
          refine S1 ?_; refine Oar ?_; refine Omv ?_; refine S1 ?_
          exact ag (⟨k + 1, v55, rfl, rfl, by omega, fun q hq => by by_cases e : q = k; rw [e, ← hc]; exact h1; exact hall q (by omega)⟩)
  ·
    exfalso
    obtain ⟨c, hc, hct⟩ := hyes
    simp only [decide_eq_false_iff_not] at h0
    obtain rfl : k = (impCases a b).length := by omega
    obtain ⟨q, hq, rfl⟩ := List.getElem_of_mem hc
    have := hall q hq
    rw [getD_lt hq] at this
    rw [this] at hct; cases hct
end Go.Proofs.YtiljpbljebfhnaaGreat

set_option linter.unusedVariables false
set_option linter.unusedSimpArgs false
set_option maxRecDepth 10000
namespace Go.Proofs.YtiljpbljebfhnaaGreat
open Go.Eng
open Go.Eng.Fc
theorem p35c {W : FW} {a b : Fact} (h : goodP W [a, b] = true) (hs : (impCases a b).length ≤ 400) (hno : ∀ c ∈ impCases a b, together2 W c = false) : PCall Tryz.prog 35 [AV.world W, AV.fact a, AV.fact b] (.tup [AV.intss ((impCases a b).map (minC2 W)), .i 0]) := by
  have hC := imp_cs h
  have := p35g h hs fun c hc => by rw [case_two (hC.cO c hc)]; exact hno c hc
  rwa [proof_eq (good_w h) h] at this
theorem p35y {W : FW} {a b : Fact} (h : goodP W [a, b] = true) (hs : (impCases a b).length ≤ 400) (hyes : ∃ c ∈ impCases a b, together2 W c = true) : PCall Tryz.prog 35 [AV.world W, AV.fact a, AV.fact b] (.tup [.sl 1 [], .i 5]) := by
  obtain ⟨c, hc, ht⟩ := hyes
  exact p35x h hs ⟨c, hc, by rw [case_two ((imp_cs h).cO c hc)]; exact ht⟩
theorem p11n (g : Gv) (p : List (List Int)) (h : goodP g.W [g.A, g.B] = false) : PCall Tryz.prog 11 [AV.given g, AV.intss p] (.b true) := by
  intro H
  refine ACall.mk' (n := 153) Tryz.func11 rfl (by kernel_rfl) rfl rfl (fun B I w0 => ?_)
  refine S2 ?_; refine Obx ?_; refine Oas ?_; refine S5 ?_; refine Omv ?_; refine Oln ?_; refine Ocm ?_; refine S2 ?_
  refine CW.cond rfl (fun h0 => ?_) (fun h0 => ?_)
  ·
    refine S2 ?_
    refine OL.popC rfl rfl rfl (POp.call (.mk' rfl rfl rfl rfl rfl) (p21)) ?_
    refine Oas ?_; refine S4 ?_
    refine r1 4 (H) ?_
    exact ⟨by rfl, rfl⟩
  ·
    refine S5 ?_; refine Oas ?_; refine S3 ?_
    refine lj (fun m st => ∃ i : Nat, st = ⟨[(5, .i i), (4, .b false), (2, .ptr (Gcells g)), (1, AV.intss p)], H⟩ ∧ m = p.length - i ∧ i ≤ p.length) (⟨0, rfl, rfl, Nat.zero_le _⟩) ?_
    rintro m _ ⟨i, rfl, rfl, hi⟩
    refine CW.boundM (t := 1) rfl (fun hb1 => ?_)
    refine S3 ?_; refine Omv ?_; refine Omv ?_; refine Oln ?_; refine Ocm ?_; refine S2 ?_
    refine CW.cond rfl (fun h1 => ?_) (fun h1 => ?_)
    ·
      replace h1 := nm h1
      have hil : i < p.length := by omega
      refine S6 ?_; refine Omv ?_; refine Omv ?_; refine Oix ?_; refine Old ?_; refine Oln ?_; refine Ocm ?_; refine S2 ?_
      refine CW.cond rfl (fun h2 => ?_) (fun h2 => ?_)
      ·
        refine S2 ?_
        refine OL.popC rfl rfl rfl (POp.call (.mk' rfl rfl rfl rfl rfl) (p21)) ?_
        refine Oas ?_; refine S8 ?_
        refine r1 4 (H) ?_
        exact ⟨by rfl, rfl⟩
      ·
        refine S4 ?_; refine Omv ?_; refine Oar ?_; refine Oas ?_; refine S1 ?_
        exact ag (⟨i + 1, rfl, rfl, by omega⟩)
    ·
      refine S7 ?_; refine Ofa ?_; refine Ola ?_; refine Ofa ?_; refine Ola ?_; refine Ofa ?_; refine Ola ?_
      refine OL.popC rfl rfl rfl (POp.call (.mk' rfl rfl rfl rfl rfl) (p35n h)) ?_
      refine Omv ?_; refine Oex ?_; refine Oex ?_; refine Oas ?_; refine Oas ?_; refine S4 ?_; refine Ofa ?_; refine Ola ?_; refine Ofa ?_; refine Ola ?_; refine Ofa ?_; refine Ola ?_
      refine Omv ?_
      refine OL.popC rfl rfl rfl (POp.call (.mk' rfl rfl rfl rfl rfl) (p53n p h)) ?_
      refine Omv ?_; refine Oex ?_; refine Oex ?_; refine Oas ?_; refine Oas ?_; refine S5 ?_; refine Ola ?_
      refine OL.popC rfl rfl rfl (POp.call (.mk' rfl rfl rfl rfl rfl) (p25 g)) ?_
      refine Ont ?_; refine S2 ?_
      refine CW.cond rfl (fun h3 => ?_) (fun h3 => ?_)
      ·
        refine S2 ?_; refine Omv ?_; refine Ocm ?_; refine Omv ?_; refine Pmv ?_; refine Pcm ?_; refine Opk ?_; refine Omv ?_; refine Pmv ?_; refine Pln ?_; refine Pcm ?_; refine Opk ?_
        refine Omv ?_; refine Pmv ?_; refine Pnt ?_; refine Opk ?_; refine Omv ?_
        refine OL.guardC rfl rfl rfl rfl rfl rfl (fun hg => POp.call (.mk' rfl rfl rfl rfl rfl) (p21)) ?_
        refine Opk ?_; refine Oas ?_; refine S4 ?_
        refine r1 4 (H) ?_
        exact ⟨by rfl, rfl⟩
      ·
        exact absurd h3 (by rw [h]; simp)
theorem p11l (g : Gv) (p : List (List Int)) (h : goodP g.W [g.A, g.B] = true) (hs : 400 < (impCases g.A g.B).length) : PCall Tryz.prog 11 [AV.given g, AV.intss p] (.b true) := by
  intro H
  refine ACall.mk' (n := 153) Tryz.func11 rfl (by kernel_rfl) rfl rfl (fun B I w0 => ?_)
  refine S2 ?_; refine Obx ?_; refine Oas ?_; refine S5 ?_; refine Omv ?_; refine Oln ?_; refine Ocm ?_; refine S2 ?_
  refine CW.cond rfl (fun h0 => ?_) (fun h0 => ?_)
  ·
    refine S2 ?_
    refine OL.popC rfl rfl rfl (POp.call (.mk' rfl rfl rfl rfl rfl) (p21)) ?_
    refine Oas ?_; refine S4 ?_
    refine r1 4 (H) ?_
    exact ⟨by rfl, rfl⟩
  ·
    refine S5 ?_; refine Oas ?_; refine S3 ?_
    refine lj (fun m st => ∃ i : Nat, st = ⟨[(5, .i i), (4, .b false), (2, .ptr (Gcells g)), (1, AV.intss p)], H⟩ ∧ m = p.length - i ∧ i ≤ p.length) (⟨0, rfl, rfl, Nat.zero_le _⟩) ?_
    rintro m _ ⟨i, rfl, rfl, hi⟩
    refine CW.boundM (t := 1) rfl (fun hb1 => ?_)
    refine S3 ?_; refine Omv ?_; refine Omv ?_; refine Oln ?_; refine Ocm ?_; refine S2 ?_
    refine CW.cond rfl (fun h1 => ?_) (fun h1 => ?_)
    ·
      replace h1 := nm h1
      have hil : i < p.length := by omega
      refine S6 ?_; refine Omv ?_; refine Omv ?_; refine Oix ?_; refine Old ?_; refine Oln ?_; refine Ocm ?_; refine S2 ?_
      refine CW.cond rfl (fun h2 => ?_) (fun h2 => ?_)
      ·
        refine S2 ?_
        refine OL.popC rfl rfl rfl (POp.call (.mk' rfl rfl rfl rfl rfl) (p21)) ?_
        refine Oas ?_; refine S8 ?_
        refine r1 4 (H) ?_
        exact ⟨by rfl, rfl⟩
      ·
        refine S4 ?_; refine Omv ?_; refine Oar ?_; refine Oas ?_; refine S1 ?_
        exact ag (⟨i + 1, rfl, rfl, by omega⟩)
    ·
      refine S7 ?_; refine Ofa ?_; refine Ola ?_; refine Ofa ?_; refine Ola ?_; refine Ofa ?_; refine Ola ?_
      refine OL.popC rfl rfl rfl (POp.call (.mk' rfl rfl rfl rfl rfl) (p35l h hs)) ?_
      refine Omv ?_; refine Oex ?_; refine Oex ?_; refine Oas ?_; refine Oas ?_; refine S4 ?_; refine Ofa ?_; refine Ola ?_; refine Ofa ?_; refine Ola ?_; refine Ofa ?_; refine Ola ?_
      refine Omv ?_
      refine OL.popC rfl rfl rfl (POp.call (.mk' rfl rfl rfl rfl rfl) (p53l p h hs)) ?_
      refine Omv ?_; refine Oex ?_; refine Oex ?_; refine Oas ?_; refine Oas ?_; refine S5 ?_; refine Ola ?_
      refine OL.popC rfl rfl rfl (POp.call (.mk' rfl rfl rfl rfl rfl) (p25 g)) ?_
      refine Ont ?_; refine S2 ?_
      refine CW.cond rfl (fun h3 => ?_) (fun h3 => ?_)
      ·
        exact absurd h3 (by rw [h]; simp)
      ·
        refine S4 ?_; refine Ofa ?_; refine Ola ?_; refine Ofa ?_; refine Ola ?_
        refine OL.popC rfl rfl rfl (POp.call (.mk' rfl rfl rfl rfl rfl) (p54 h)) ?_
        refine Oas ?_; refine S5 ?_; refine Omv ?_; refine Oln ?_; refine Ocm ?_; refine S2 ?_
        refine CW.cond rfl (fun h4 => ?_) (fun h4 => ?_)
        ·
          refine S2 ?_; refine Omv ?_; refine Ocm ?_; refine Omv ?_; refine Pmv ?_; refine Pcm ?_; refine Opk ?_; refine Omv ?_; refine Pmv ?_; refine Pln ?_; refine Pcm ?_; refine Opk ?_
          refine Omv ?_; refine Pmv ?_; refine Pnt ?_; refine Opk ?_; refine Omv ?_
          refine OL.guardC rfl rfl rfl rfl rfl rfl (fun hg => POp.call (.mk' rfl rfl rfl rfl rfl) (p21)) ?_
          refine Opk ?_; refine Oas ?_; refine S4 ?_
          refine r1 4 (H) ?_
          exact ⟨by rfl, rfl⟩
        ·
          exact absurd h4 (by rw [List.length_map]; simp; omega)
theorem p11bad1 (g : Gv) (p : List (List Int)) (h : goodP g.W [g.A, g.B] = true) (hs : (impCases g.A g.B).length ≤ 400) (hno : ∀ c ∈ impCases g.A g.B, together2 g.W c = false) (hbad : (decide ((impCases g.A g.B).length = p.length) && listsB ((impCases g.A g.B).map List.length) p) = false) : PCall Tryz.prog 11 [AV.given g, AV.intss p] (.b true) := by
  intro H
  refine ACall.mk' (n := 153) Tryz.func11 rfl (by kernel_rfl) rfl rfl (fun B I w0 => ?_)
  refine S2 ?_; refine Obx ?_; refine Oas ?_; refine S5 ?_; refine Omv ?_; refine Oln ?_; refine Ocm ?_; refine S2 ?_
  refine CW.cond rfl (fun h0 => ?_) (fun h0 => ?_)
  ·
    refine S2 ?_
    refine OL.popC rfl rfl rfl (POp.call (.mk' rfl rfl rfl rfl rfl) (p21)) ?_
    refine Oas ?_; refine S4 ?_
    refine r1 4 (H) ?_
    exact ⟨by rfl, rfl⟩
  ·
    refine S5 ?_; refine Oas ?_; refine S3 ?_
    refine lj (fun m st => ∃ i : Nat, st = ⟨[(5, .i i), (4, .b false), (2, .ptr (Gcells g)), (1, AV.intss p)], H⟩ ∧ m = p.length - i ∧ i ≤ p.length) (⟨0, rfl, rfl, Nat.zero_le _⟩) ?_
    rintro m _ ⟨i, rfl, rfl, hi⟩
    refine CW.boundM (t := 1) rfl (fun hb1 => ?_)
    refine S3 ?_; refine Omv ?_; refine Omv ?_; refine Oln ?_; refine Ocm ?_; refine S2 ?_
    refine CW.cond rfl (fun h1 => ?_) (fun h1 => ?_)
    ·
      replace h1 := nm h1
      have hil : i < p.length := by omega
      refine S6 ?_; refine Omv ?_; refine Omv ?_; refine Oix ?_; refine Old ?_; refine Oln ?_; refine Ocm ?_; refine S2 ?_
      refine CW.cond rfl (fun h2 => ?_) (fun h2 => ?_)
      ·
        refine S2 ?_
        refine OL.popC rfl rfl rfl (POp.call (.mk' rfl rfl rfl rfl rfl) (p21)) ?_
        refine Oas ?_; refine S8 ?_
        refine r1 4 (H) ?_
        exact ⟨by rfl, rfl⟩
      ·
        refine S4 ?_; refine Omv ?_; refine Oar ?_; refine Oas ?_; refine S1 ?_
        exact ag (⟨i + 1, rfl, rfl, by omega⟩)
    ·
      refine S7 ?_; refine Ofa ?_; refine Ola ?_; refine Ofa ?_; refine Ola ?_; refine Ofa ?_; refine Ola ?_
      refine OL.popC rfl rfl rfl (POp.call (.mk' rfl rfl rfl rfl rfl) (p35c h hs hno)) ?_
      refine Omv ?_; refine Oex ?_; refine Oex ?_; refine Oas ?_; refine Oas ?_; refine S4 ?_; refine Ofa ?_; refine Ola ?_; refine Ofa ?_; refine Ola ?_; refine Ofa ?_; refine Ola ?_
      refine Omv ?_
      refine OL.popC rfl rfl rfl (POp.call (.mk' rfl rfl rfl rfl rfl) (p53x p h hs hbad)) ?_
      refine Omv ?_; refine Oex ?_; refine Oex ?_; refine Oas ?_; refine Oas ?_; refine S5 ?_; refine Ola ?_
      refine OL.popC rfl rfl rfl (POp.call (.mk' rfl rfl rfl rfl rfl) (p25 g)) ?_
      refine Ont ?_; refine S2 ?_
      refine CW.cond rfl (fun h3 => ?_) (fun h3 => ?_)
      ·
        exact absurd h3 (by rw [h]; simp)
      ·
        refine S4 ?_; refine Ofa ?_; refine Ola ?_; refine Ofa ?_; refine Ola ?_
        refine OL.popC rfl rfl rfl (POp.call (.mk' rfl rfl rfl rfl rfl) (p54 h)) ?_
        refine Oas ?_; refine S5 ?_; refine Omv ?_; refine Oln ?_; refine Ocm ?_; refine S2 ?_
        refine CW.cond rfl (fun h4 => ?_) (fun h4 => ?_)
        ·
          exact absurd h4 (by rw [List.length_map]; simp; omega)
        ·
          refine S4 ?_; refine Ofa ?_; refine Ola ?_; refine Ofa ?_; refine Ola ?_; refine Ofa ?_; refine Ola ?_
          refine OL.popC rfl rfl rfl (POp.call (.mk' rfl rfl rfl rfl rfl) (p55g h hs hno)) ?_
          refine Omv ?_; refine Oex ?_; refine Oex ?_; refine Oas ?_; refine Oas ?_; refine S5 ?_; refine Omv ?_; refine Omv ?_; refine Ocm ?_; refine Onb ?_; refine Omv ?_; refine Pmv ?_
          refine Pnt ?_; refine Pmv ?_; refine Pmv ?_; refine Pcm ?_; refine Ppk ?_; refine Opk ?_; refine Omv ?_; refine Pmv ?_; refine Pmv ?_
          refine OL.guardC rfl rfl rfl rfl rfl rfl (fun hg => POp.call (.mk' rfl rfl rfl rfl (by first | rfl | ((repeat (first | exact hg | rfl | refine Bool.and_eq_true_iff.2 ⟨?_, ?_⟩)); done) | simp_all [strip, constAV])) (p56 _ _)) ?_
          refine Pnt ?_; refine Opk ?_; refine S2 ?_
          refine CW.cond rfl (fun h5 => ?_) (fun h5 => ?_)
          ·
            exact absurd h5 (by simp)
          ·
            refine S4 ?_
            have hfl := factl_lens (impCases g.A g.B)
            refine S1 ?_; refine Omv ?_; refine Omv ?_
            refine OL.popC rfl rfl rfl (POp.call (.mk' rfl rfl rfl rfl rfl) (p57 _ p)) ?_
            refine Ont ?_; refine S2 ?_
            refine CW.cond rfl (fun h6 => ?_) (fun h6 => ?_)
            ·
              refine S2 ?_; refine Omv ?_; refine Ocm ?_; refine Omv ?_; refine Pmv ?_; refine Pnt ?_; refine Opk ?_; refine Omv ?_
              refine OL.guardC rfl rfl rfl rfl rfl rfl (fun hg => POp.call (.mk' rfl rfl rfl rfl rfl) (p21)) ?_
              refine Opk ?_; refine Oas ?_; refine S4 ?_
              refine r1 4 (H) ?_
              exact ⟨by rfl, rfl⟩
            ·
              exact absurd h6 (by rw [hfl, List.length_map, hbad]; simp)
theorem p11ok1 (g : Gv) (p : List (List Int)) (h : goodP g.W [g.A, g.B] = true) (hs : (impCases g.A g.B).length ≤ 400) (hno : ∀ c ∈ impCases g.A g.B, together2 g.W c = false) (hle : (impCases g.A g.B).length = p.length) (hL : listsB ((impCases g.A g.B).map List.length) p = true) : PCall Tryz.prog 11 [AV.given g, AV.intss p] (.b true) := by
  intro H
  refine ACall.mk' (n := 153) Tryz.func11 rfl (by kernel_rfl) rfl rfl (fun B I w0 => ?_)
  refine S2 ?_; refine Obx ?_; refine Oas ?_; refine S5 ?_; refine Omv ?_; refine Oln ?_; refine Ocm ?_; refine S2 ?_
  refine CW.cond rfl (fun h0 => ?_) (fun h0 => ?_)
  ·
    refine S2 ?_
    refine OL.popC rfl rfl rfl (POp.call (.mk' rfl rfl rfl rfl rfl) (p21)) ?_
    refine Oas ?_; refine S4 ?_
    refine r1 4 (H) ?_
    exact ⟨by rfl, rfl⟩
  ·
    refine S5 ?_; refine Oas ?_; refine S3 ?_
    refine lj (fun m st => ∃ i : Nat, st = ⟨[(5, .i i), (4, .b false), (2, .ptr (Gcells g)), (1, AV.intss p)], H⟩ ∧ m = p.length - i ∧ i ≤ p.length) (⟨0, rfl, rfl, Nat.zero_le _⟩) ?_
    rintro m _ ⟨i, rfl, rfl, hi⟩
    refine CW.boundM (t := 1) rfl (fun hb1 => ?_)
    refine S3 ?_; refine Omv ?_; refine Omv ?_; refine Oln ?_; refine Ocm ?_; refine S2 ?_
    refine CW.cond rfl (fun h1 => ?_) (fun h1 => ?_)
    ·
      replace h1 := nm h1
      have hil : i < p.length := by omega
      refine S6 ?_; refine Omv ?_; refine Omv ?_; refine Oix ?_; refine Old ?_; refine Oln ?_; refine Ocm ?_; refine S2 ?_
      refine CW.cond rfl (fun h2 => ?_) (fun h2 => ?_)
      ·
        refine S2 ?_
        refine OL.popC rfl rfl rfl (POp.call (.mk' rfl rfl rfl rfl rfl) (p21)) ?_
        refine Oas ?_; refine S8 ?_
        refine r1 4 (H) ?_
        exact ⟨by rfl, rfl⟩
      ·
        refine S4 ?_; refine Omv ?_; refine Oar ?_; refine Oas ?_; refine S1 ?_
        exact ag (⟨i + 1, rfl, rfl, by omega⟩)
    ·
      refine S7 ?_; refine Ofa ?_; refine Ola ?_; refine Ofa ?_; refine Ola ?_; refine Ofa ?_; refine Ola ?_
      refine OL.popC rfl rfl rfl (POp.call (.mk' rfl rfl rfl rfl rfl) (p35c h hs hno)) ?_
      refine Omv ?_; refine Oex ?_; refine Oex ?_; refine Oas ?_; refine Oas ?_; refine S4 ?_; refine Ofa ?_; refine Ola ?_; refine Ofa ?_; refine Ola ?_; refine Ofa ?_; refine Ola ?_
      refine Omv ?_
      refine OL.popC rfl rfl rfl (POp.call (.mk' rfl rfl rfl rfl rfl) (p53g p h hs hle hL)) ?_
      refine Omv ?_; refine Oex ?_; refine Oex ?_; refine Oas ?_; refine Oas ?_; refine S5 ?_; refine Ola ?_
      refine OL.popC rfl rfl rfl (POp.call (.mk' rfl rfl rfl rfl rfl) (p25 g)) ?_
      refine Ont ?_; refine S2 ?_
      refine CW.cond rfl (fun h3 => ?_) (fun h3 => ?_)
      ·
        exact absurd h3 (by rw [h]; simp)
      ·
        refine S4 ?_; refine Ofa ?_; refine Ola ?_; refine Ofa ?_; refine Ola ?_
        refine OL.popC rfl rfl rfl (POp.call (.mk' rfl rfl rfl rfl rfl) (p54 h)) ?_
        refine Oas ?_; refine S5 ?_; refine Omv ?_; refine Oln ?_; refine Ocm ?_; refine S2 ?_
        refine CW.cond rfl (fun h4 => ?_) (fun h4 => ?_)
        ·
          exact absurd h4 (by rw [List.length_map]; simp; omega)
        ·
          refine S4 ?_; refine Ofa ?_; refine Ola ?_; refine Ofa ?_; refine Ola ?_; refine Ofa ?_; refine Ola ?_
          refine OL.popC rfl rfl rfl (POp.call (.mk' rfl rfl rfl rfl rfl) (p55g h hs hno)) ?_
          refine Omv ?_; refine Oex ?_; refine Oex ?_; refine Oas ?_; refine Oas ?_; refine S5 ?_; refine Omv ?_; refine Omv ?_; refine Ocm ?_; refine Onb ?_; refine Omv ?_; refine Pmv ?_
          refine Pnt ?_; refine Pmv ?_; refine Pmv ?_; refine Pcm ?_; refine Ppk ?_; refine Opk ?_; refine Omv ?_; refine Pmv ?_; refine Pmv ?_
          refine OL.guardC rfl rfl rfl rfl rfl rfl (fun hg => POp.call (.mk' rfl rfl rfl rfl (by first | rfl | ((repeat (first | exact hg | rfl | refine Bool.and_eq_true_iff.2 ⟨?_, ?_⟩)); done) | simp_all [strip, constAV])) (p56 _ _)) ?_
          refine Pnt ?_; refine Opk ?_; refine S2 ?_
          refine CW.cond rfl (fun h5 => ?_) (fun h5 => ?_)
          ·
            exact absurd h5 (by simp)
          ·
            refine S4 ?_
            have hfl := factl_lens (impCases g.A g.B)
            refine S1 ?_; refine Omv ?_; refine Omv ?_
            refine OL.popC rfl rfl rfl (POp.call (.mk' rfl rfl rfl rfl rfl) (p57 _ p)) ?_
            refine Ont ?_; refine S2 ?_
            refine CW.cond rfl (fun h6 => ?_) (fun h6 => ?_)
            ·
              exact absurd h6 (by rw [hfl, List.length_map, decide_eq_true hle, hL]; simp)
            ·
              refine S4 ?_; refine Omv ?_; refine Ocm ?_; refine Omv ?_; refine Pmv ?_; refine Pfa ?_; refine Pla ?_; refine Pmv ?_; refine Pmv ?_
              refine OL.guardC rfl rfl rfl rfl rfl rfl (fun hg => POp.call (.mk' rfl rfl rfl rfl (by first | rfl | ((repeat (first | exact hg | rfl | refine Bool.and_eq_true_iff.2 ⟨?_, ?_⟩)); done) | simp_all [strip, constAV])) (p58 (imp_cs h) p hle hL)) ?_
              refine Peb ?_; refine Opk ?_; refine Omv ?_
              refine OL.guardC rfl rfl rfl rfl rfl rfl (fun hg => POp.call (.mk' rfl rfl rfl rfl rfl) (p21)) ?_
              refine Opk ?_; refine Oas ?_; refine S3 ?_
              refine r1 4 (H) ?_
              exact ⟨retB (by simp), rfl⟩
theorem p11bad0 (g : Gv) (p : List (List Int)) (h : goodP g.W [g.A, g.B] = true) (hs : (impCases g.A g.B).length ≤ 400) (hno : ∃ c ∈ impCases g.A g.B, together2 g.W c = true) (hbad : (decide ((impCases g.A g.B).length = p.length) && listsB ((impCases g.A g.B).map List.length) p) = false) : PCall Tryz.prog 11 [AV.given g, AV.intss p] (.b true) := by
  intro H
  refine ACall.mk' (n := 153) Tryz.func11 rfl (by kernel_rfl) rfl rfl (fun B I w0 => ?_)
  refine S2 ?_; refine Obx ?_; refine Oas ?_; refine S5 ?_; refine Omv ?_; refine Oln ?_; refine Ocm ?_; refine S2 ?_
  refine CW.cond rfl (fun h0 => ?_) (fun h0 => ?_)
  ·
    refine S2 ?_
    refine OL.popC rfl rfl rfl (POp.call (.mk' rfl rfl rfl rfl rfl) (p21)) ?_
    refine Oas ?_; refine S4 ?_
    refine r1 4 (H) ?_
    exact ⟨by rfl, rfl⟩
  ·
    refine S5 ?_; refine Oas ?_; refine S3 ?_
    refine lj (fun m st => ∃ i : Nat, st = ⟨[(5, .i i), (4, .b false), (2, .ptr (Gcells g)), (1, AV.intss p)], H⟩ ∧ m = p.length - i ∧ i ≤ p.length) (⟨0, rfl, rfl, Nat.zero_le _⟩) ?_
    rintro m _ ⟨i, rfl, rfl, hi⟩
    refine CW.boundM (t := 1) rfl (fun hb1 => ?_)
    refine S3 ?_; refine Omv ?_; refine Omv ?_; refine Oln ?_; refine Ocm ?_; refine S2 ?_
    refine CW.cond rfl (fun h1 => ?_) (fun h1 => ?_)
    ·
      replace h1 := nm h1
      have hil : i < p.length := by omega
      refine S6 ?_; refine Omv ?_; refine Omv ?_; refine Oix ?_; refine Old ?_; refine Oln ?_; refine Ocm ?_; refine S2 ?_
      refine CW.cond rfl (fun h2 => ?_) (fun h2 => ?_)
      ·
        refine S2 ?_
        refine OL.popC rfl rfl rfl (POp.call (.mk' rfl rfl rfl rfl rfl) (p21)) ?_
        refine Oas ?_; refine S8 ?_
        refine r1 4 (H) ?_
        exact ⟨by rfl, rfl⟩
      ·
        refine S4 ?_; refine Omv ?_; refine Oar ?_; refine Oas ?_; refine S1 ?_
        exact ag (⟨i + 1, rfl, rfl, by omega⟩)
    ·
      refine S7 ?_; refine Ofa ?_; refine Ola ?_; refine Ofa ?_; refine Ola ?_; refine Ofa ?_; refine Ola ?_
      refine OL.popC rfl rfl rfl (POp.call (.mk' rfl rfl rfl rfl rfl) (p35y h hs hno)) ?_
      refine Omv ?_; refine Oex ?_; refine Oex ?_; refine Oas ?_; refine Oas ?_; refine S4 ?_; refine Ofa ?_; refine Ola ?_; refine Ofa ?_; refine Ola ?_; refine Ofa ?_; refine Ola ?_
      refine Omv ?_
      refine OL.popC rfl rfl rfl (POp.call (.mk' rfl rfl rfl rfl rfl) (p53x p h hs hbad)) ?_
      refine Omv ?_; refine Oex ?_; refine Oex ?_; refine Oas ?_; refine Oas ?_; refine S5 ?_; refine Ola ?_
      refine OL.popC rfl rfl rfl (POp.call (.mk' rfl rfl rfl rfl rfl) (p25 g)) ?_
      refine Ont ?_; refine S2 ?_
      refine CW.cond rfl (fun h3 => ?_) (fun h3 => ?_)
      ·
        exact absurd h3 (by rw [h]; simp)
      ·
        refine S4 ?_; refine Ofa ?_; refine Ola ?_; refine Ofa ?_; refine Ola ?_
        refine OL.popC rfl rfl rfl (POp.call (.mk' rfl rfl rfl rfl rfl) (p54 h)) ?_
        refine Oas ?_; refine S5 ?_; refine Omv ?_; refine Oln ?_; refine Ocm ?_; refine S2 ?_
        refine CW.cond rfl (fun h4 => ?_) (fun h4 => ?_)
        ·
          exact absurd h4 (by rw [List.length_map]; simp; omega)
        ·
          refine S4 ?_; refine Ofa ?_; refine Ola ?_; refine Ofa ?_; refine Ola ?_; refine Ofa ?_; refine Ola ?_
          refine OL.popC rfl rfl rfl (POp.call (.mk' rfl rfl rfl rfl rfl) (p55x h hs hno)) ?_
          refine Omv ?_; refine Oex ?_; refine Oex ?_; refine Oas ?_; refine Oas ?_; refine S5 ?_; refine Omv ?_; refine Omv ?_; refine Ocm ?_; refine Onb ?_; refine Omv ?_; refine Pmv ?_
          refine Pnt ?_; refine Pmv ?_; refine Pmv ?_; refine Pcm ?_; refine Ppk ?_; refine Opk ?_; refine Omv ?_; refine Pmv ?_; refine Pmv ?_
          refine OL.guardC rfl rfl rfl rfl rfl rfl (fun hg => POp.call (.mk' rfl rfl rfl rfl (by first | rfl | ((repeat (first | exact hg | rfl | refine Bool.and_eq_true_iff.2 ⟨?_, ?_⟩)); done) | simp_all [strip, constAV])) (p56 [] [])) ?_
          refine Pnt ?_; refine Opk ?_; refine S2 ?_
          refine CW.cond rfl (fun h5 => ?_) (fun h5 => ?_)
          ·
            exact absurd h5 (by simp)
          ·
            refine S4 ?_
            have hfl := factl_lens (impCases g.A g.B)
            refine S1 ?_; refine Omv ?_; refine Omv ?_
            refine OL.popC rfl rfl rfl (POp.call (.mk' rfl rfl rfl rfl rfl) (p57 _ p)) ?_
            refine Ont ?_; refine S2 ?_
            refine CW.cond rfl (fun h6 => ?_) (fun h6 => ?_)
            ·
              refine S2 ?_; refine Omv ?_; refine Ocm ?_; refine Omv ?_; refine Pmv ?_; refine Pnt ?_; refine Opk ?_; refine Omv ?_
              refine OL.guardC rfl rfl rfl rfl rfl rfl (fun hg => POp.call (.mk' rfl rfl rfl rfl rfl) (p21)) ?_
              refine Opk ?_; refine Oas ?_; refine S4 ?_
              refine r1 4 (H) ?_
              exact ⟨by rfl, rfl⟩
            ·
              exact absurd h6 (by rw [hfl, List.length_map, hbad]; simp)
theorem p11ok0 (g : Gv) (p : List (List Int)) (h : goodP g.W [g.A, g.B] = true) (hs : (impCases g.A g.B).length ≤ 400) (hno : ∃ c ∈ impCases g.A g.B, together2 g.W c = true) (hle : (impCases g.A g.B).length = p.length) (hL : listsB ((impCases g.A g.B).map List.length) p = true) : PCall Tryz.prog 11 [AV.given g, AV.intss p] (.b true) := by
  intro H
  refine ACall.mk' (n := 153) Tryz.func11 rfl (by kernel_rfl) rfl rfl (fun B I w0 => ?_)
  refine S2 ?_; refine Obx ?_; refine Oas ?_; refine S5 ?_; refine Omv ?_; refine Oln ?_; refine Ocm ?_; refine S2 ?_
  refine CW.cond rfl (fun h0 => ?_) (fun h0 => ?_)
  ·
    refine S2 ?_
    refine OL.popC rfl rfl rfl (POp.call (.mk' rfl rfl rfl rfl rfl) (p21)) ?_
    refine Oas ?_; refine S4 ?_
    refine r1 4 (H) ?_
    exact ⟨by rfl, rfl⟩
  ·
    refine S5 ?_; refine Oas ?_; refine S3 ?_
    refine lj (fun m st => ∃ i : Nat, st = ⟨[(5, .i i), (4, .b false), (2, .ptr (Gcells g)), (1, AV.intss p)], H⟩ ∧ m = p.length - i ∧ i ≤ p.length) (⟨0, rfl, rfl, Nat.zero_le _⟩) ?_
    rintro m _ ⟨i, rfl, rfl, hi⟩
    refine CW.boundM (t := 1) rfl (fun hb1 => ?_)
    refine S3 ?_; refine Omv ?_; refine Omv ?_; refine Oln ?_; refine Ocm ?_; refine S2 ?_
    refine CW.cond rfl (fun h1 => ?_) (fun h1 => ?_)
    ·
      replace h1 := nm h1
      have hil : i < p.length := by omega
      refine S6 ?_; refine Omv ?_; refine Omv ?_; refine Oix ?_; refine Old ?_; refine Oln ?_; refine Ocm ?_; refine S2 ?_
      refine CW.cond rfl (fun h2 => ?_) (fun h2 => ?_)
      ·
        refine S2 ?_
        refine OL.popC rfl rfl rfl (POp.call (.mk' rfl rfl rfl rfl rfl) (p21)) ?_
        refine Oas ?_; refine S8 ?_
        refine r1 4 (H) ?_
        exact ⟨by rfl, rfl⟩
      ·
        refine S4 ?_; refine Omv ?_; refine Oar ?_; refine Oas ?_; refine S1 ?_
        exact ag (⟨i + 1, rfl, rfl, by omega⟩)
    ·
      refine S7 ?_; refine Ofa ?_; refine Ola ?_; refine Ofa ?_; refine Ola ?_; refine Ofa ?_; refine Ola ?_
      refine OL.popC rfl rfl rfl (POp.call (.mk' rfl rfl rfl rfl rfl) (p35y h hs hno)) ?_
      refine Omv ?_; refine Oex ?_; refine Oex ?_; refine Oas ?_; refine Oas ?_; refine S4 ?_; refine Ofa ?_; refine Ola ?_; refine Ofa ?_; refine Ola ?_; refine Ofa ?_; refine Ola ?_
      refine Omv ?_
      refine OL.popC rfl rfl rfl (POp.call (.mk' rfl rfl rfl rfl rfl) (p53g p h hs hle hL)) ?_
      refine Omv ?_; refine Oex ?_; refine Oex ?_; refine Oas ?_; refine Oas ?_; refine S5 ?_; refine Ola ?_
      refine OL.popC rfl rfl rfl (POp.call (.mk' rfl rfl rfl rfl rfl) (p25 g)) ?_
      refine Ont ?_; refine S2 ?_
      refine CW.cond rfl (fun h3 => ?_) (fun h3 => ?_)
      ·
        exact absurd h3 (by rw [h]; simp)
      ·
        refine S4 ?_; refine Ofa ?_; refine Ola ?_; refine Ofa ?_; refine Ola ?_
        refine OL.popC rfl rfl rfl (POp.call (.mk' rfl rfl rfl rfl rfl) (p54 h)) ?_
        refine Oas ?_; refine S5 ?_; refine Omv ?_; refine Oln ?_; refine Ocm ?_; refine S2 ?_
        refine CW.cond rfl (fun h4 => ?_) (fun h4 => ?_)
        ·
          exact absurd h4 (by rw [List.length_map]; simp; omega)
        ·
          refine S4 ?_; refine Ofa ?_; refine Ola ?_; refine Ofa ?_; refine Ola ?_; refine Ofa ?_; refine Ola ?_
          refine OL.popC rfl rfl rfl (POp.call (.mk' rfl rfl rfl rfl rfl) (p55x h hs hno)) ?_
          refine Omv ?_; refine Oex ?_; refine Oex ?_; refine Oas ?_; refine Oas ?_; refine S5 ?_; refine Omv ?_; refine Omv ?_; refine Ocm ?_; refine Onb ?_; refine Omv ?_; refine Pmv ?_
          refine Pnt ?_; refine Pmv ?_; refine Pmv ?_; refine Pcm ?_; refine Ppk ?_; refine Opk ?_; refine Omv ?_; refine Pmv ?_; refine Pmv ?_
          refine OL.guardC rfl rfl rfl rfl rfl rfl (fun hg => POp.call (.mk' rfl rfl rfl rfl (by first | rfl | ((repeat (first | exact hg | rfl | refine Bool.and_eq_true_iff.2 ⟨?_, ?_⟩)); done) | simp_all [strip, constAV])) (p56 [] [])) ?_
          refine Pnt ?_; refine Opk ?_; refine S2 ?_
          refine CW.cond rfl (fun h5 => ?_) (fun h5 => ?_)
          ·
            exact absurd h5 (by simp)
          ·
            refine S4 ?_
            have hfl := factl_lens (impCases g.A g.B)
            refine S1 ?_; refine Omv ?_; refine Omv ?_
            refine OL.popC rfl rfl rfl (POp.call (.mk' rfl rfl rfl rfl rfl) (p57 _ p)) ?_
            refine Ont ?_; refine S2 ?_
            refine CW.cond rfl (fun h6 => ?_) (fun h6 => ?_)
            ·
              exact absurd h6 (by rw [hfl, List.length_map, decide_eq_true hle, hL]; simp)
            ·
              refine S4 ?_; refine Omv ?_; refine Ocm ?_; refine Omv ?_; refine Pmv ?_; refine Pfa ?_; refine Pla ?_; refine Pmv ?_; refine Pmv ?_
              refine OL.guardC rfl rfl rfl rfl rfl rfl (fun hg => POp.call (.mk' rfl rfl rfl rfl (by first | rfl | ((repeat (first | exact hg | rfl | refine Bool.and_eq_true_iff.2 ⟨?_, ?_⟩)); done) | simp_all [strip, constAV])) (p58 (imp_cs h) p hle hL)) ?_
              refine Peb ?_; refine Opk ?_; refine Omv ?_
              refine OL.guardC rfl rfl rfl rfl rfl rfl (fun hg => POp.call (.mk' rfl rfl rfl rfl rfl) (p21)) ?_
              refine Opk ?_; refine Oas ?_; refine S3 ?_
              refine r1 4 (H) ?_
              exact ⟨retB (by simp), rfl⟩
theorem p11 (g : Gv) (p : List (List Int)) : PCall Tryz.prog 11 [AV.given g, AV.intss p] (.b true) := by
  cases h : goodP g.W [g.A, g.B] with
  | false => exact p11n g p h
  | true =>
    by_cases hs : (impCases g.A g.B).length ≤ 400
    · cases hx : (decide ((impCases g.A g.B).length = p.length) && listsB ((impCases g.A g.B).map List.length) p) with
      | false =>
        by_cases hno : ∀ c ∈ impCases g.A g.B, together2 g.W c = false
        · exact p11bad1 g p h hs hno hx
        · refine p11bad0 g p h hs ?_ hx
          obtain ⟨c, hc⟩ := Classical.not_forall.1 hno
          obtain ⟨hm, hc⟩ := Classical.not_imp.1 hc
          exact ⟨c, hm, by simpa using hc⟩
      | true =>
        rw [Bool.and_eq_true, decide_eq_true_eq] at hx
        by_cases hno : ∀ c ∈ impCases g.A g.B, together2 g.W c = false
        · exact p11ok1 g p h hs hno hx.1 hx.2
        · refine p11ok0 g p h hs ?_ hx.1 hx.2
          obtain ⟨c, hc⟩ := Classical.not_forall.1 hno
          obtain ⟨hm, hc⟩ := Classical.not_imp.1 hc
          exact ⟨c, hm, by simpa using hc⟩
    · exact p11l g p h (by omega)
end Go.Proofs.YtiljpbljebfhnaaGreat
