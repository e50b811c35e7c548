/- Part 12 of the proof: contracts of functions of the program and what they need. No condition beyond those that each theorem names. -/
import Derived.Test.YtiljpbljebfhnaaGreatImP11
set_option linter.unusedVariables false
set_option linter.unusedSimpArgs false
set_option maxRecDepth 10000
namespace Go.Proofs.YtiljpbljebfhnaaGreat
open Go.Eng
open Go.Eng.Fc
def allR (f : Fact) (c : Bool) : List (List Fact) := (casesP f c).map factL
theorem contains_any (l : List Fact) (x : Fact) : l.contains x = l.any fun y => x == y := by rw [List.contains_eq_any_beq]
theorem lit_eq {x y : FLit} (hx : x.f.op ≤ 4) (hy : y.f.op ≤ 4) : (litF x == litF y) = (x.neg == y.neg && x.f == y.f) := by
  have h1 := sp_lit hx; have h2 := sp_lit hy
  rw [Bool.eq_iff_iff, beq_iff_eq, Bool.and_eq_true, beq_iff_eq, beq_iff_eq]
  constructor
  · intro e; rw [e, h2] at h1; cases x; cases y; simp at h1 ⊢; exact ⟨h1.2.symm, h1.1.symm⟩
  · rintro ⟨e1, e2⟩; rw [litF, litF, e1, e2]
theorem join_fact : ∀ (b a : List FLit), (∀ l ∈ a, l.f.op ≤ 4) → (∀ l ∈ b, l.f.op ≤ 4) → factL (joinedP a b) = mergedR (factL a) (factL b)
  | [], a, _, _ => rfl
  | x :: r, a, ha, hb => by
    show factL (joinedP (joinStep a x) r) = mergedR (mergeStep (factL a) (litF x)) (factL r)
    have hx := hb x (.head _)
    have e : factL (joinStep a x) = mergeStep (factL a) (litF x) := by
      unfold joinStep mergeStep
      have e : (factL a).contains (litF x) = a.any fun y => x.neg == y.neg && x.f == y.f := by
        rw [contains_any, factL, List.any_map]
        exact any_congr_mem fun y hy => lit_eq hx (ha y hy)
      rw [e]
      split
      · rfl
      · simp [factL]
    rw [join_fact r _ (fun l hl => ?_) (fun l hl => hb l (.tail _ hl)), e]
    unfold joinStep at hl
    split at hl
    · exact ha l hl
    · rcases List.mem_append.1 hl with hl | hl
      · exact ha l hl
      · rw [List.mem_singleton.1 hl]; exact hx
theorem lits_op {W : FW} {f : Fact} (h : wfB W f = true) {c : Bool} {l : List FLit} (hl : l ∈ casesP f c) : ∀ x ∈ l, x.f.op ≤ 4 := fun x hx => by
  have := (wf_lits f h c l hl x hx).2
  simp only [leafP, Bool.and_eq_true, decide_eq_true_eq] at this
  exact this.2
theorem all_true {f : Fact} (h : f.op = 1) (c : Bool) : allR f c = if c then [] else [[]] := by rw [allR, cases_true h]; cases c <;> rfl
theorem all_not {f : Fact} (h : f.op = 5) (hk : 0 < f.kids.length) (c : Bool) : allR f c = allR (f.kids.getD 0 default) (!c) := by rw [allR, cases_not h hk, allR]
theorem all_leaf {f : Fact} (h1 : ¬ f.op = 1) (h5 : ¬ f.op = 5) (hl : leafP f = true) (c : Bool) : allR f c = [[if c then notF f else f]] := by rw [allR, cases_leaf h1 h5 hl]; cases c <;> rfl
theorem all_either {f : Fact} (h1 : ¬ f.op = 1) (h5 : ¬ f.op = 5) (hl : leafP f = false) {c : Bool} (hc : (c == (f.op == 6)) = true) (hk : 1 < f.kids.length) : allR f c = allR (f.kids.getD 0 default) c ++ allR (f.kids.getD 1 default) c := by
  rw [allR, cases_either h1 h5 hl hc hk, List.map_append, allR, allR]
theorem all_both {W : FW} {f : Fact} (hw : wfB W f = true) (h1 : ¬ f.op = 1) (h5 : ¬ f.op = 5) (hl : leafP f = false) {c : Bool} (hc : (c == (f.op == 6)) = false) (hk : 1 < f.kids.length) : allR f c = (allR (f.kids.getD 0 default) c).flatMap fun a => (allR (f.kids.getD 1 default) c).map (mergedR a) := by
  have hkk := (wfB_iff.1 hw).2
  rw [allR, cases_both h1 h5 hl hc hk, allR, allR, List.map_flatMap, List.flatMap_map]
  have key : ∀ l : List (List FLit), (∀ x ∈ l, x ∈ casesP (f.kids.getD 0 default) c) → (l.flatMap fun a => ((casesP (f.kids.getD 1 default) c).map (joinedP a)).map factL) = l.flatMap fun a => ((casesP (f.kids.getD 1 default) c).map factL).map (mergedR (factL a)) := by
    intro l
    induction l with
    | nil => intro _; rfl
    | cons x r ih =>
      intro hx
      rw [List.flatMap_cons, List.flatMap_cons, ih (fun y hy => hx y (.tail _ hy)), List.map_map, List.map_map]
      congr 1
      refine List.map_congr_left fun y hy => ?_
      exact join_fact y x (lits_op (hkk _ (getD_mem (by omega))) (hx x (.head _))) (lits_op (hkk _ (getD_mem hk)) hy)
  exact key _ fun _ h => h
theorem pow_add_le {a b : Nat} (ha : 1 ≤ a) (hb : 1 ≤ b) : 2 ^ a + 2 ^ b ≤ 2 ^ (a + b) := by
  have h1 : 2 ≤ 2 ^ a := by have := Nat.pow_le_pow_right (n := 2) (by omega) ha; omega
  have h2 : 2 ≤ 2 ^ b := by have := Nat.pow_le_pow_right (n := 2) (by omega) hb; omega
  rw [Nat.pow_add]
  generalize 2 ^ a = A at *
  generalize 2 ^ b = B at *
  have h3 : A * 2 ≤ A * B := Nat.mul_le_mul_left A h2
  have h4 : 2 * B ≤ A * B := Nat.mul_le_mul_right B h1
  omega
theorem cases_count2 : ∀ f : Fact, okB f = true → ∀ c, (casesP f c).length ≤ 2 ^ ((nodesN f + 1) / 2) := by
  refine Fact.ind1 fun f ih hok c => ?_
  have hp := ok_parts hok
  have hE := nodesN_eq f
  have h2 : 1 ≤ 2 ^ ((nodesN f + 1) / 2) := Nat.one_le_two_pow
  by_cases h1 : f.op = 1
  · rw [cases_true h1]; cases c
    · exact h2
    · simp
  by_cases h5 : f.op = 5
  · have hk := kids_one hok h5
    rw [cases_not h5 (by omega)]
    have h3 := nodesNs_one f.kids (by omega)
    exact Nat.le_trans (ih (f.kids.getD 0 default) (getD_mem (by omega)) (hp.2.2.2.2 _ (getD_mem (by omega))) (!c)) (Nat.pow_le_pow_right (by omega) (by omega))
  by_cases hlf : leafP f = true
  · rw [cases_leaf h1 h5 hlf]; simpa using h2
  · have hlf' : leafP f = false := by simpa using hlf
    have hk := kids_two hok h1 h5 hlf'
    have n2 := nodesNs_two f.kids (by omega)
    have i0 := ih (f.kids.getD 0 default) (getD_mem (by omega)) (hp.2.2.2.2 _ (getD_mem (by omega))) c
    have i1 := ih (f.kids.getD 1 default) (getD_mem (by omega)) (hp.2.2.2.2 _ (getD_mem (by omega))) c
    have p0 : 1 ≤ nodesN (f.kids.getD 0 default) := by rw [nodesN_eq]; omega
    have p1 : 1 ≤ nodesN (f.kids.getD 1 default) := by rw [nodesN_eq]; omega
    have e1 : 2 ^ ((nodesN (f.kids.getD 0 default) + 1) / 2 + (nodesN (f.kids.getD 1 default) + 1) / 2) ≤ 2 ^ ((nodesN f + 1) / 2) := Nat.pow_le_pow_right (by omega) (by omega)
    refine Nat.le_trans ?_ e1
    cases hc : (c == (f.op == 6)) with
    | true =>
      rw [cases_either h1 h5 hlf' hc (by omega), List.length_append]
      exact Nat.le_trans (Nat.add_le_add i0 i1) (pow_add_le (by omega) (by omega))
    | false =>
      rw [cases_both h1 h5 hlf' hc (by omega), List.length_flatMap, Nat.pow_add]
      have key : ∀ l : List (List FLit), (l.map fun a => ((casesP (f.kids.getD 1 default) c).map (joinedP a)).length).sum = l.length * (casesP (f.kids.getD 1 default) c).length := by
        intro l
        induction l with
        | nil => simp
        | cons x r ihr => rw [List.map_cons, List.sum_cons, ihr, List.length_map, List.length_cons, Nat.add_mul]; omega
      rw [key]
      exact Nat.mul_le_mul i0 i1
theorem all_len {f : Fact} (hok : okB f = true) (c : Bool) : (allR f c).length ≤ 2 ^ ((nodesN f + 1) / 2) := by rw [allR, List.length_map]; exact cases_count2 f hok c
theorem all_len1 {f : Fact} (hok : okB f = true) (c : Bool) {x : List Fact} (hx : x ∈ allR f c) : x.length ≤ nodesN f := by
  obtain ⟨l, hl, rfl⟩ := List.mem_map.1 hx
  rw [factL, List.length_map]; exact cases_len f hok c l hl
theorem factss_app (l : List (List Fact)) (x : List Fact) : AV.sl 1 ((l.map fun x => [AV.facts x]) ++ [[AV.facts x]]) = AV.factss (l ++ [x]) := by rw [AV.factss, List.map_append]; rfl
def rowsTo (A B : List (List Fact)) (i : Nat) : List (List Fact) := (A.take i).flatMap fun a => B.map (mergedR a)
theorem rows_step {A B : List (List Fact)} {i : Nat} (h : i < A.length) : rowsTo A B (i + 1) = rowsTo A B i ++ B.map (mergedR (A.getD i default)) := by
  rw [rowsTo, ← take_getD h, List.flatMap_append]; simp [rowsTo]
theorem rows_len (A B : List (List Fact)) (i : Nat) : (rowsTo A B i).length = (A.take i).length * B.length := by
  unfold rowsTo
  generalize A.take i = l
  induction l with
  | nil => simp
  | cons x r ih => rw [List.flatMap_cons, List.length_append, ih, List.length_map, List.length_cons, Nat.add_mul]; omega
theorem row_step {B : List (List Fact)} {g : List Fact → List Fact} {j : Nat} (h : j < B.length) (R : List (List Fact)) : R ++ (B.take (j + 1)).map g = (R ++ (B.take j).map g) ++ [g (B.getD j default)] := by
  rw [← take_getD h, List.map_append, List.append_assoc]; rfl
theorem OCall.pcall {P : Program} {f : FuncId} {xs : List AV} {e k : Nat} {y : AV} (h : OCall P f xs e k y) : PCall P f xs y := fun H => by
  refine ⟨(h H).1, fun B I w vs hw hh hv => ((h H).2 B I w vs hw hh hv).mono fun e' w' hr => ?_⟩
  obtain ⟨I', H', a, b, d, hr⟩ := hr
  rcases hr with ⟨v, x, rfl, hx, u, rfl, rfl⟩ | ⟨v, x, _, _, hE⟩
  · refine ⟨I', H, a, b, d.sub (List.sublist_cons_self _ _), .inl ⟨v, y, rfl, ?_, rfl, rfl⟩⟩
    match hx with
    | .as _ _ hx => exact hx
  · exact hE.elim
theorem AVle.as' {x y : AV} {v : Value} (h : AVle x y) : AVle (.as x v) (.as y v) := fun I w u hu => by
  match hu with
  | .as _ _ hx => exact .as _ _ (h _ _ _ hx)
theorem op67 {f : Fact} {c : Bool} (h : (f.op == 6 || f.op == 7) = true) : (c != (f.op == 7)) = (c == (f.op == 6)) := by
  rw [Bool.or_eq_true, beq_iff_eq, beq_iff_eq] at h
  rcases h with e | e <;> rw [e] <;> cases c <;> rfl
theorem p92_step {W : FW} (f : Fact) (hw : wfB W f = true) (hn : nodesN f ≤ 52) (ih : ∀ k ∈ f.kids, ∀ c, OCall Tryz.prog 92 [AV.fact k, .b c] 27 1 (AV.factss (allR k c))) (c : Bool) : OCall Tryz.prog 92 [AV.fact f, .b c] 27 1 (AV.factss (allR f c)) := by
  intro H
  refine ACall.mk' (n := 79) Tryz.func92 rfl (by kernel_rfl) rfl rfl (fun B I w0 => ?_)
  have hok := wf_ok f hw
  have hp := ok_parts hok
  have hE := nodesN_eq f
  refine S2 ?_; refine Obx ?_; refine Oas ?_; refine S5 ?_; refine Ofa ?_; refine Old ?_; refine S5 ?_; refine Ocm ?_; refine Oas ?_; refine S2 ?_
  refine CW.cond rfl (fun h0 => ?_) (fun h0 => ?_)
  ·
    replace h0 := nm h0
    refine S3 ?_; refine Omv ?_; refine S2 ?_
    refine CW.cond rfl (fun h1 => ?_) (fun h1 => ?_)
    ·
      replace h1 := nm h1
      refine S2 ?_; refine Oas ?_; refine S6 ?_
      refine Done.ownNil 4 27 1 rfl ?_
      refine r1 4 (_) ?_
      exact ⟨_, by rw [all_true h0, if_pos h1]; rfl, rfl⟩
    ·
      replace h1 := nm h1
      refine S4 ?_
      refine OL.rowOwn rfl rfl rfl rfl (by first | rfl | simp_all [strip]) rfl rfl rfl rfl rfl rfl rfl (fun v17 => ?_)
      refine Oas ?_; refine S5 ?_
      refine Done.retR (rs := [.tmp 4]) (H' := _) rfl (.tmp rfl (.nil)) (.cons (AVle.as' (AVle.sl (.cons (.cons (AVle.nil 6) .nil) .nil))) .nil) (by repeat (first | exact List.Sublist.refl _ | refine List.Sublist.cons _ ?_)) ?_
      exact ⟨_, by rw [all_true h0, if_neg (by simp [h1])]; rfl, rfl⟩
  ·
    replace h0 := nm h0
    refine S2 ?_; refine Ocm ?_; refine Oas ?_; refine S2 ?_
    refine CW.cond rfl (fun h2 => ?_) (fun h2 => ?_)
    ·
      replace h2 := nm h2
      have hk := kids_one hok h2
      refine S2 ?_; refine Ofa ?_; refine Old ?_; refine Oix ?_; refine Ola ?_; refine Omv ?_; refine Ont ?_
      refine OL.bcallC rfl rfl rfl (.mk' rfl rfl rfl rfl rfl) ((ih (f.kids.getD 0 default) (getD_mem (by omega)) (!c) H).b) ?_
      rintro _ _ ⟨v, rfl, rfl⟩
      refine Oas ?_; refine S5 ?_
      refine r1 4 (_) ?_
      exact ⟨_, by rw [all_not h2 (by omega)]; rfl, rfl⟩
    ·
      replace h2 := nm h2
      refine CW.cutJ (fun st => ∃ u : Bool, st = ⟨[(27, .b u), (2, .ptr (Fcells f)), (1, .b c)], H⟩ ∧ u = (f.op == 6 || f.op == 7)) ?_ ?_
      ·
        refine S2 ?_; refine Ocm ?_; refine Oas ?_; refine S2 ?_
        refine CW.cond rfl (fun h3 => ?_) (fun h3 => ?_)
        ·
          replace h3 := nm h3
          refine S1 ?_
          exact Done.cutJ ⟨f.op == 6, rfl, by rw [h3]; rfl⟩ (by repeat (first | exact trivial | refine ⟨rfl, ?_⟩)) (by repeat (first | exact List.Sublist.refl _ | refine List.Sublist.cons _ ?_))
        ·
          replace h3 := nm h3
          refine S1 ?_; refine Ocm ?_; refine Oas ?_; refine S1 ?_
          exact Done.cutJ ⟨f.op == 7, rfl, by rw [beq_eq_false_iff_ne.2 h3]; rfl⟩ (by repeat (first | exact trivial | refine ⟨rfl, ?_⟩)) (by repeat (first | exact List.Sublist.refl _ | refine List.Sublist.cons _ ?_))
      ·
        rintro _ ⟨u, rfl, hu⟩
        refine CW.cond rfl (fun h4 => ?_) (fun h4 => ?_)
        ·
          replace h4 := nm h4
          subst hu
          have h67 := h4
          have hlf : leafP f = false := by simp only [leafP, Bool.and_eq_false_iff, decide_eq_false_iff_not]; simp only [Bool.or_eq_true, beq_iff_eq] at h67; omega
          have hk := kids_two hok h0 h2 hlf
          have n2 := nodesNs_two f.kids (by omega)
          refine S1 ?_
          refine CW.dp mixed ?_
          refine DP.anyB 27 1 (AV.factss (allR (f.kids.getD 0 default) c)) 35 5 0 11 79 rfl (by decide +kernel) (by decide +kernel) rfl rfl (by decide +kernel) ?_
          refine TD.popB (by decide +kernel) rfl rfl rfl rfl rfl (fun _ => (by first | exact POp.fa rfl rfl rfl rfl | exact POp.faP rfl rfl rfl rfl)) ?_
          refine TD.popB (by decide +kernel) rfl rfl rfl rfl rfl (fun _ => (by first | exact POp.ld1 rfl rfl rfl rfl | (apply POp.ld1H rfl rfl rfl; (case hm => repeat (first | exact .head _ | refine .tail _ ?_)); (case hy => rfl)))) ?_
          refine TD.popB (by decide +kernel) rfl rfl rfl rfl rfl (fun _ => (by first | exact POp.ixM rfl rfl rfl rfl rfl (by omega) | exact POp.ixI rfl rfl rfl rfl rfl (by omega))) ?_
          refine TD.popB (by decide +kernel) rfl rfl rfl rfl rfl (fun _ => (by first | exact POp.ldA rfl rfl rfl rfl | (apply POp.ldAH rfl rfl rfl; (case hm => repeat (first | exact .head _ | refine .tail _ ?_)); (case hy => rfl); (case hn => rfl)))) ?_
          refine TD.popB (by decide +kernel) rfl rfl rfl rfl rfl (fun _ => POp.move rfl rfl rfl) ?_
          refine TD.own1 (by decide +kernel) (by decide +kernel) rfl rfl rfl (.mk' rfl rfl rfl rfl rfl) (ih (f.kids.getD 0 default) (getD_mem (by omega)) c) ?_
          refine TD.popB (by decide +kernel) rfl rfl rfl rfl rfl (fun _ => (by first | exact POp.fa rfl rfl rfl rfl | exact POp.faP rfl rfl rfl rfl)) ?_
          refine TD.popB (by decide +kernel) rfl rfl rfl rfl rfl (fun _ => (by first | exact POp.ld1 rfl rfl rfl rfl | (apply POp.ld1H rfl rfl rfl; (case hm => repeat (first | exact .head _ | refine .tail _ ?_)); (case hy => rfl)))) ?_
          refine TD.popB (by decide +kernel) rfl rfl rfl rfl rfl (fun _ => (by first | exact POp.ixM rfl rfl rfl rfl rfl (by omega) | exact POp.ixI rfl rfl rfl rfl rfl (by omega))) ?_
          refine TD.popB (by decide +kernel) rfl rfl rfl rfl rfl (fun _ => (by first | exact POp.ldA rfl rfl rfl rfl | (apply POp.ldAH rfl rfl rfl; (case hm => repeat (first | exact .head _ | refine .tail _ ?_)); (case hy => rfl); (case hn => rfl)))) ?_
          refine TD.popB (by decide +kernel) rfl rfl rfl rfl rfl (fun _ => POp.move rfl rfl rfl) ?_
          refine TD.nil ⟨rfl, fun v35 => ?_⟩
          refine DP.tailC 11 (by decide +kernel) rfl ?_
          refine OL.bcallC rfl rfl rfl (.mk' rfl rfl rfl rfl rfl) ((ih (f.kids.getD 1 default) (getD_mem (by omega)) c _).b) ?_
          rintro _ _ ⟨v41, rfl, rfl⟩
          refine Oas ?_; refine Oas ?_; refine S4 ?_
          have hok0 := hp.2.2.2.2 (f.kids.getD 0 default) (getD_mem (by omega))
          have hok1 := hp.2.2.2.2 (f.kids.getD 1 default) (getD_mem (by omega))
          have hl0 : (allR (f.kids.getD 0 default) c).length ≤ 1073741824 := Nat.le_trans (all_len hok0 c) (Nat.le_trans (Nat.pow_le_pow_right (by omega) (show (nodesN (f.kids.getD 0 default) + 1) / 2 ≤ 30 by omega)) (by decide))
          have hl1 : (allR (f.kids.getD 1 default) c).length ≤ 1073741824 := Nat.le_trans (all_len hok1 c) (Nat.le_trans (Nat.pow_le_pow_right (by omega) (show (nodesN (f.kids.getD 1 default) + 1) / 2 ≤ 30 by omega)) (by decide))
          have hl2 : (allR (f.kids.getD 0 default) c).length * (allR (f.kids.getD 1 default) c).length ≤ 1073741824 := Nat.le_trans (Nat.mul_le_mul (all_len hok0 c) (all_len hok1 c)) (by rw [← Nat.pow_add]; exact Nat.le_trans (Nat.pow_le_pow_right (by omega) (show (nodesN (f.kids.getD 0 default) + 1) / 2 + (nodesN (f.kids.getD 1 default) + 1) / 2 ≤ 30 by omega)) (by decide))
          refine S1 ?_; refine Omv ?_; refine Ofa ?_; refine Old ?_; refine Ocm ?_; refine Onb ?_; refine S2 ?_
          refine CW.cond rfl (fun h5 => ?_) (fun h5 => ?_)
          ·
            have hc : (c == (f.op == 6)) = true := by rw [← op67 h67]; exact h5
            have hall := all_either h0 h2 hlf hc (by omega)
            refine S2 ?_; refine Omv ?_; refine Omv ?_
            refine OL.appendC rfl rfl rfl rfl rfl rfl rfl rfl (AVle.asL _ _) (one_map (fun _ => rfl) _) (fun v => by repeat (first | exact Upd.head _ _ _ | apply Upd.tail)) (by simp only [List.length_map]; omega) (by simp only [List.length_map]; omega) (fun v49 => ?_)
            refine Oas ?_; refine S6 ?_
            refine r1 4 (.own 27 1 v49 :: H) ?_
            exact ⟨_, by rw [hall, AV.factss, List.map_append]; rfl, rfl⟩
          ·
            have hc : (c == (f.op == 6)) = false := by rw [← op67 h67]; exact h5
            have hall := all_both hw h0 h2 hlf hc (by omega)
            refine S3 ?_
            refine S1 ?_; refine Oas ?_; refine S4 ?_
            refine CW.ownNil 7 27 1 rfl ?_
            refine CW.le 5 (y := AV.factss (allR (f.kids.getD 0 default) c)) rfl (AVle.asL _ _) ?_
            refine CW.le 6 (y := AV.factss (allR (f.kids.getD 1 default) c)) rfl (AVle.asL _ _) ?_
            refine S1 ?_; refine Omv ?_; refine Oln ?_; refine Omv ?_; refine S3 ?_
            refine CW.loopJ (fun m st => ∃ (i : Nat) (v : Value), st = ⟨[(52, .i i), (51, .i (allR (f.kids.getD 0 default) c).length), (50, AV.factss (allR (f.kids.getD 0 default) c)), (7, .as (AV.factss (rowsTo (allR (f.kids.getD 0 default) c) (allR (f.kids.getD 1 default) c) i)) v), (6, AV.factss (allR (f.kids.getD 1 default) c)), (5, AV.factss (allR (f.kids.getD 0 default) c)), (2, .ptr (Fcells f)), (1, .b c)], .own 27 1 v :: H⟩ ∧ m = (allR (f.kids.getD 0 default) c).length - i ∧ i ≤ (allR (f.kids.getD 0 default) c).length) ⟨_, _, ⟨0, _, rfl, rfl, by omega⟩, (by repeat (first | exact trivial | refine ⟨rfl, ?_⟩)), (List.Sublist.cons_cons _ (by repeat (first | exact List.Sublist.refl _ | refine List.Sublist.cons _ ?_)))⟩ ?_
            rintro m _ ⟨i, v, rfl, rfl, hi⟩
            refine S2 ?_; refine Ocm ?_; refine S3 ?_
            refine CW.cond rfl (fun h6 => ?_) (fun h6 => ?_)
            ·
              replace h6 := nm h6
              refine S5 ?_
              have hrl := rows_len (allR (f.kids.getD 0 default) c) (allR (f.kids.getD 1 default) c) i
              rw [List.length_take] at hrl
              have hrl2 : min i (allR (f.kids.getD 0 default) c).length * (allR (f.kids.getD 1 default) c).length ≤ (allR (f.kids.getD 0 default) c).length * (allR (f.kids.getD 1 default) c).length := Nat.mul_le_mul_right _ (by omega)
              have hxm := getD_mem (l := allR (f.kids.getD 0 default) c) (k := i) (by omega)
              have hxl := all_len1 hok0 c hxm
              have hrl3 : (rowsTo (allR (f.kids.getD 0 default) c) (allR (f.kids.getD 1 default) c) i).length ≤ 1073741824 := by rw [hrl]; exact Nat.le_trans hrl2 hl2
              clear hrl hrl2
              refine S1 ?_; refine Oix ?_; refine Old ?_; refine Oas ?_; refine S3 ?_
              refine CW.le 7 (y := .as (AV.factss (rowsTo (allR (f.kids.getD 0 default) c) (allR (f.kids.getD 1 default) c) i ++ ((allR (f.kids.getD 1 default) c).take 0).map (mergedR ((allR (f.kids.getD 0 default) c).getD i default)))) v) rfl (by rw [List.take_zero, List.map_nil, List.append_nil]; exact AVle.refl _) ?_
              refine S1 ?_; refine Omv ?_; refine Oln ?_; refine Omv ?_; refine S3 ?_
              refine lj (fun m st => ∃ (j : Nat) (v : Value), st = ⟨[(58, .i j), (57, .i (allR (f.kids.getD 1 default) c).length), (56, AV.factss (allR (f.kids.getD 1 default) c)), (9, AV.facts ((allR (f.kids.getD 0 default) c).getD i default)), (52, .i i), (51, .i (allR (f.kids.getD 0 default) c).length), (50, AV.factss (allR (f.kids.getD 0 default) c)), (7, .as (AV.factss (rowsTo (allR (f.kids.getD 0 default) c) (allR (f.kids.getD 1 default) c) i ++ ((allR (f.kids.getD 1 default) c).take j).map (mergedR ((allR (f.kids.getD 0 default) c).getD i default)))) v), (6, AV.factss (allR (f.kids.getD 1 default) c)), (5, AV.factss (allR (f.kids.getD 0 default) c)), (2, .ptr (Fcells f)), (1, .b c)], .own 27 1 v :: H⟩ ∧ m = (allR (f.kids.getD 1 default) c).length - j ∧ j ≤ (allR (f.kids.getD 1 default) c).length) (⟨0, v, rfl, rfl, by omega⟩) ?_
              rintro m _ ⟨j, v, rfl, rfl, hj⟩
              refine S2 ?_; refine Ocm ?_; refine S3 ?_
              refine CW.cond rfl (fun h7 => ?_) (fun h7 => ?_)
              ·
                replace h7 := nm h7
                refine S5 ?_
                have hym := getD_mem (l := allR (f.kids.getD 1 default) c) (k := j) (by omega)
                have hyl := all_len1 hok1 c hym
                refine S1 ?_; refine Oix ?_; refine Old ?_; refine Oas ?_; refine S3 ?_; refine Omv ?_; refine Omv ?_; refine Omv ?_
                refine OL.popC rfl rfl rfl (POp.call (.mk' rfl rfl rfl rfl rfl) (p141 ((allR (f.kids.getD 0 default) c).getD i default) ((allR (f.kids.getD 1 default) c).getD j default) (by omega) (by omega))) ?_
                refine OL.popC rfl rfl rfl (POp.row rfl rfl (by first | rfl | simp_all [strip]) rfl rfl rfl rfl rfl rfl) ?_
                refine OL.appendC rfl rfl rfl rfl rfl rfl rfl rfl (AVle.refl _) (rfl) (fun v => by repeat (first | exact Upd.head _ _ _ | apply Upd.tail)) (by simp only [partsOf, List.zip, List.zipWith, List.map, List.length_map, List.length_append, List.length_take, List.length_cons, List.length_nil]; omega) (by simp only [partsOf, List.zip, List.zipWith, List.map, List.length_map, List.length_append, List.length_take, List.length_cons, List.length_nil]; omega) (fun v67 => ?_)
                refine Oas ?_; refine S3 ?_
                refine CW.le 7 (y := .as (AV.factss (rowsTo (allR (f.kids.getD 0 default) c) (allR (f.kids.getD 1 default) c) i ++ ((allR (f.kids.getD 1 default) c).take (j + 1)).map (mergedR ((allR (f.kids.getD 0 default) c).getD i default)))) v67) rfl (by rw [row_step (by omega), ← factss_app]; exact AVle.refl _) ?_
                refine S1 ?_; refine Oar ?_; refine Omv ?_; refine S1 ?_
                exact ag (⟨j + 1, v67, rfl, rfl, by omega⟩)
              ·
                replace h7 := nm h7
                obtain rfl : j = (allR (f.kids.getD 1 default) c).length := by omega
                rw [List.take_length]
                refine S6 ?_
                rw [← rows_step (by omega)]
                refine S1 ?_; refine Oar ?_; refine Omv ?_; refine S1 ?_
                exact ag (⟨i + 1, v, rfl, rfl, by omega⟩)
            ·
              replace h6 := nm h6
              obtain rfl : i = (allR (f.kids.getD 0 default) c).length := by omega
              rw [rowsTo, List.take_length]
              refine S7 ?_; refine Omv ?_; refine Oas ?_; refine S5 ?_
              refine r1 4 (_) ?_
              exact ⟨_, by rw [hall]; rfl, rfl⟩
        ·
          replace h4 := nm h4
          subst hu
          have hlf : leafP f = true := by simp only [Bool.or_eq_false_iff, beq_eq_false_iff_ne] at h4; simp only [leafP, Bool.and_eq_true, decide_eq_true_eq]; omega
          refine S6 ?_; refine Omv ?_; refine S2 ?_
          refine CW.cond rfl (fun h8 => ?_) (fun h8 => ?_)
          ·
            replace h8 := nm h8
            refine S2 ?_; refine Ola ?_
            refine OL.popC rfl rfl rfl (POp.call (.mk' rfl rfl rfl rfl rfl) (p89 f)) ?_
            refine OL.popC rfl rfl rfl (POp.row rfl rfl (by first | rfl | simp_all [strip]) rfl rfl rfl rfl rfl rfl) ?_
            refine OL.rowOwn rfl rfl rfl rfl (by first | rfl | simp_all [strip]) rfl rfl rfl rfl rfl rfl rfl (fun v75 => ?_)
            refine Oas ?_; refine S4 ?_
            refine r1 4 (_) ?_
            exact ⟨_, by rw [all_leaf h0 h2 hlf, if_pos h8]; rfl, rfl⟩
          ·
            replace h8 := nm h8
            refine S4 ?_; refine Ola ?_
            refine OL.popC rfl rfl rfl (POp.row rfl rfl (by first | rfl | simp_all [strip]) rfl rfl rfl rfl rfl rfl) ?_
            refine OL.rowOwn rfl rfl rfl rfl (by first | rfl | simp_all [strip]) rfl rfl rfl rfl rfl rfl rfl (fun v78 => ?_)
            refine Oas ?_; refine S3 ?_
            refine Done.retR (rs := [.tmp 4]) (H' := _) rfl (.tmp rfl (.nil)) (.cons (AVle.as' (AVle.sl (.cons (.cons (AVle_facts [f] rfl) .nil) .nil))) .nil) (by repeat (first | exact List.Sublist.refl _ | refine List.Sublist.cons _ ?_)) ?_
            exact ⟨_, by rw [all_leaf h0 h2 hlf, if_neg (by simp [h8])]; rfl, rfl⟩
theorem p92 {W : FW} : ∀ (f : Fact), wfB W f = true → nodesN f ≤ 52 → ∀ c, OCall Tryz.prog 92 [AV.fact f, .b c] 27 1 (AV.factss (allR f c)) :=
  Fact.ind1 fun f ih hw hn => p92_step f hw hn fun k hk c => ih k hk ((wfB_iff.1 hw).2 k hk) (by have := kid_nodes hk; omega) c
end Go.Proofs.YtiljpbljebfhnaaGreat

set_option linter.unusedVariables false
set_option linter.unusedSimpArgs false
set_option maxRecDepth 10000
namespace Go.Proofs.YtiljpbljebfhnaaGreat
open Go.Eng
open Go.Eng.Fc
theorem case_ls {W : FW} (hW : worldP W = true) {f : Fact} (hw : wfB W f = true) {b : Bool} {c : List FLit} (hc : c ∈ casesP f b) : LsOk W c :=
  ⟨hW, fun l hl => let ⟨x, y⟩ := wf_lits f hw b c hc l hl; lit_ok hW x y, fun l hl h2 => by
    obtain ⟨h3, h4⟩ := wf_lits f hw b c hc l hl
    simp only [nodeOkB, Bool.and_eq_true] at h3
    have h5 := h3.2
    rw [if_pos h4] at h5
    simp only [Bool.and_eq_true, leafOkP, if_pos h2, classP, decide_eq_true_eq] at h5
    exact h5.2.2.2⟩
theorem LsOk.rlit {W : FW} {ls : List FLit} (h : LsOk W ls) : ∀ x ∈ factL ls, RLit W x := fun x hx => by
  obtain ⟨l, hl, rfl⟩ := List.mem_map.1 hx
  have hs := h.sp hl
  have ho := h.ok l hl
  refine ⟨fun h5 => ?_, ?_, ?_, ?_, ?_⟩
  · unfold litF at h5 ⊢
    split
    · simp [notF, Fact.kids]
    · rename_i hn
      rw [if_neg hn] at h5
      have := ho.op; omega
  · rw [hs]; exact ho.op
  · rw [hs]; exact fun h2 => ⟨(ho.cls h2).1, h.cls l hl h2⟩
  · rw [hs]; exact ho.n
  · rw [hs]; exact ho.path
theorem all_ls {W : FW} (hW : worldP W = true) {f : Fact} (hw : wfB W f = true) {b : Bool} {x : List Fact} (hx : x ∈ allR f b) : ∃ c ∈ casesP f b, x = factL c ∧ LsOk W c ∧ togetherR W x = together2 W c := by
  obtain ⟨c, hc, rfl⟩ := List.mem_map.1 hx
  exact ⟨c, hc, rfl, case_ls hW hw hc, together_stage (case_ls hW hw hc)⟩
theorem p93' {W : FW} (hW : worldP W = true) {f : Fact} (hw : wfB W f = true) (hn : nodesN f ≤ 52) {b : Bool} {x : List Fact} (hx : x ∈ allR f b) : PCall Tryz.prog 93 [AV.world W, AV.facts x] (.b (togetherR W x)) := by
  obtain ⟨c, hc, rfl, hl, _⟩ := all_ls hW hw hx
  exact p93 W _ hl.rlit (by have := all_len1 (wf_ok f hw) b hx; omega) hW
theorem can_all {W : FW} (hW : worldP W = true) {f : Fact} (hw : wfB W f = true) : (allR f false).any (togetherR W) = canC W f := by
  rw [allR, List.any_map, canC]
  exact any_congr_mem fun c hc => together_stage (case_ls hW hw hc)
theorem p62 {W : FW} (hW : worldP W = true) {f : Fact} (hw : wfB W f = true) (hn : nodesN f ≤ 52) : PCall Tryz.prog 62 [AV.world W, AV.fact f] (.b (canC W f)) := by
  intro H
  refine ACall.mk' (n := 18) Tryz.func62 rfl (by kernel_rfl) rfl rfl (fun B I w0 => ?_)
  rw [← can_all hW hw]
  have hlen : (allR f false).length ≤ 1073741824 := Nat.le_trans (all_len (wf_ok f hw) false) (Nat.le_trans (Nat.pow_le_pow_right (by omega) (show (nodesN f + 1) / 2 ≤ 30 by omega)) (by decide))
  refine S2 ?_; refine Obx ?_; refine Obx ?_; refine Oas ?_; refine S5 ?_; refine Ola ?_
  refine OL.popC rfl rfl rfl (POp.call (.mk' rfl rfl rfl rfl rfl) (OCall.pcall (p92 f hw hn false))) ?_
  refine Oln ?_; refine Omv ?_; refine S3 ?_
  refine lj (fun m st => ∃ i : Nat, st = ⟨[(10, .i i), (9, .i (allR f false).length), (8, AV.factss (allR f false)), (2, .ptr (Wcells W))], H⟩ ∧ m = (allR f false).length - i ∧ i ≤ (allR f false).length ∧ ((allR f false).take i).any (togetherR W) = false) (⟨0, rfl, rfl, by omega, rfl⟩) ?_
  rintro m _ ⟨i, rfl, rfl, hi, hall⟩
  refine S2 ?_; refine Ocm ?_; refine S3 ?_
  refine CW.cond rfl (fun h0 => ?_) (fun h0 => ?_)
  ·
    replace h0 := nm h0
    have hxm := getD_mem (l := (allR f false)) (k := i) (by omega)
    refine S6 ?_; refine Oix ?_; refine Old ?_; refine Oas ?_; refine S4 ?_; refine Ola ?_; refine Omv ?_
    refine OL.popC rfl rfl rfl (POp.call (.mk' rfl rfl rfl rfl rfl) (p93' hW hw hn hxm)) ?_
    refine S2 ?_
    refine CW.cond rfl (fun h1 => ?_) (fun h1 => ?_)
    ·
      refine S2 ?_; refine Oas ?_; refine S8 ?_
      refine r1 4 (H) ?_
      exact ⟨retB (any_yes (i := i) (by omega) h1).symm, rfl⟩
    ·
      refine S4 ?_; refine Oar ?_; refine Omv ?_; refine S1 ?_
      exact ag (⟨i + 1, rfl, rfl, by omega, by rw [any_take (by omega), hall, h1]; rfl⟩)
  ·
    replace h0 := nm h0
    obtain rfl : i = (allR f false).length := by omega
    rw [List.take_length] at hall
    refine S7 ?_; refine Oas ?_; refine S3 ?_
    refine r1 4 (H) ?_
    exact ⟨retB hall.symm, rfl⟩
theorem p26 {W : FW} (hW : worldP W = true) {a b : Fact} (ha : wfB W a = true) (hb : wfB W b = true) (hna : nodesN a ≤ 25) (hnb : nodesN b ≤ 25) : PCall Tryz.prog 26 [AV.world W, AV.fact a, AV.fact b] (.b (impC W a b)) := by
  intro H
  refine ACall.mk' (n := 14) Tryz.func26 rfl (by kernel_rfl) rfl rfl (fun B I w0 => ?_)
  refine S2 ?_; refine Obx ?_; refine Obx ?_; refine Obx ?_; refine Oas ?_; refine S3 ?_
  refine CW.dp mixed ?_
  refine DP.anyC 0 5 14 rfl (by decide +kernel) rfl rfl (by decide +kernel) ?_
  refine Ala ?_; refine Ala ?_; refine Ala ?_
  refine AD.popC rfl rfl rfl (POp.call (.mk' rfl rfl rfl rfl rfl) (p89 b)) ?_
  refine AD.popC rfl rfl rfl (POp.call (.mk' rfl rfl rfl rfl rfl) (p88 a (notF b))) ?_
  refine AD.nil ?_
  refine DP.tailC 5 (by decide +kernel) rfl ?_
  refine OL.popC rfl rfl rfl (POp.call (.mk' rfl rfl rfl rfl rfl) (p62 hW (wf_and ha (wf_not hb)) (by rw [nodes_and, nodes_not]; omega))) ?_
  refine Ont ?_; refine Oas ?_; refine S3 ?_
  refine r1 6 (H) ?_
  exact ⟨by first | rfl | exact retI (by simp_all) | exact retB (by simp_all) | simp_all, rfl⟩
theorem p25 (g : Gv) : PCall Tryz.prog 25 [AV.given g] (.b (goodP g.W [g.A, g.B])) := by
  intro H
  refine ACall.mk' (n := 20) Tryz.func25 rfl (by kernel_rfl) rfl rfl (fun B I w0 => ?_)
  refine S2 ?_; refine Obx ?_; refine Oas ?_; refine S4 ?_; refine Ofa ?_; refine Ola ?_
  refine OL.popC rfl rfl rfl (POp.call (.mk' rfl rfl rfl rfl rfl) (p19 g.W)) ?_
  refine Omv ?_; refine Pfa ?_; refine Pla ?_; refine Pfa ?_; refine Pla ?_
  refine OL.guardC rfl rfl rfl rfl rfl rfl (fun hg => POp.call (.mk' rfl rfl rfl rfl (by first | rfl | ((repeat (first | exact hg | rfl | refine Bool.and_eq_true_iff.2 ⟨?_, ?_⟩)); done) | simp_all [strip, constAV])) (p20' (world_len hg) g.A)) ?_
  refine Opk ?_; refine Omv ?_; refine Pfa ?_; refine Pla ?_; refine Pfa ?_; refine Pla ?_
  refine OL.guardC rfl rfl rfl rfl rfl rfl (fun hg => POp.call (.mk' rfl rfl rfl rfl (by first | rfl | ((repeat (first | exact hg | rfl | refine Bool.and_eq_true_iff.2 ⟨?_, ?_⟩)); done) | simp_all [strip, constAV])) (p20' (world_len (by simp at hg; exact hg.1)) g.B)) ?_
  refine Opk ?_; refine Oas ?_; refine S3 ?_
  refine r1 2 (H) ?_
  exact ⟨retB (by simp only [goodP, List.all_cons, List.all_nil, Bool.and_true]; cases worldP g.W <;> cases formedP g.W g.A <;> rfl), rfl⟩
end Go.Proofs.YtiljpbljebfhnaaGreat

set_option linter.unusedVariables false
set_option linter.unusedSimpArgs false
set_option maxRecDepth 10000
namespace Go.Proofs.YtiljpbljebfhnaaGreat
open Go.Eng
open Go.Eng.Fc
theorem good_f2 {W : FW} {a b : Fact} (h : goodP W [a, b] = true) : worldP W = true ∧ wfB W a = true ∧ nodesN a ≤ 24 ∧ wfB W b = true ∧ nodesN b ≤ 24 := by
  simp only [goodP, List.all_cons, List.all_nil, Bool.and_true, Bool.and_eq_true] at h
  have h1 := formed_wf h.2.1
  have h2 := formed_wf h.2.2
  exact ⟨h.1, h1.1, h1.2, h2.1, h2.2⟩
theorem p24c {W : FW} {a b : Fact} (h : goodP W [a, b] = true) : PCall Tryz.prog 24 [AV.world W, AV.fact a, AV.fact b] (.tup [.b (impC W a b), .i 0]) := by
  have h1 := good_f2 h
  have := p24g h
  rwa [imp_eq h1.1 h1.2.1 h1.2.2.2.1 (by omega) (by omega)] at this
theorem p4g (g : Gv) (h : goodP g.W [g.A, g.B] = true) : PCall Tryz.prog 4 [AV.given g] (.b true) := by
  intro H
  refine ACall.mk' (n := 43) Tryz.func4 rfl (by kernel_rfl) rfl rfl (fun B I w0 => ?_)
  have h1 := good_f2 h
  refine S2 ?_; refine Obx ?_; refine Oas ?_; refine S4 ?_; refine Ofa ?_; refine Ola ?_; refine Ofa ?_; refine Ola ?_; refine Ofa ?_; refine Ola ?_
  refine OL.popC rfl rfl rfl (POp.call (.mk' rfl rfl rfl rfl rfl) (p24c h)) ?_
  refine Omv ?_; refine Oex ?_; refine Oex ?_; refine Oas ?_; refine Oas ?_; refine S5 ?_; refine Ola ?_
  refine OL.popC rfl rfl rfl (POp.call (.mk' rfl rfl rfl rfl rfl) (p25 g)) ?_
  refine Ont ?_; refine S2 ?_
  refine CW.cond rfl (fun h0 => ?_) (fun h0 => ?_)
  ·
    exact absurd h0 (by rw [h]; simp)
  ·
    refine S4 ?_; refine Omv ?_; refine Ocm ?_; refine Omv ?_; refine Pmv ?_; refine Pfa ?_; refine Pla ?_; refine Pfa ?_; refine Pla ?_; refine Pfa ?_; refine Pla ?_
    refine OL.guardC rfl rfl rfl rfl rfl rfl (fun hg => POp.call (.mk' rfl rfl rfl rfl (by first | rfl | ((repeat (first | exact hg | rfl | refine Bool.and_eq_true_iff.2 ⟨?_, ?_⟩)); done) | simp_all [strip, constAV])) (p26 h1.1 h1.2.1 h1.2.2.2.1 (by omega) (by omega))) ?_
    refine Peb ?_; refine Opk ?_; refine Omv ?_
    refine OL.guardC rfl rfl rfl rfl rfl rfl (fun hg => POp.call (.mk' rfl rfl rfl rfl rfl) (p21)) ?_
    refine Opk ?_; refine Oas ?_; refine S3 ?_
    refine r1 2 (H) ?_
    exact ⟨retB (by simp), rfl⟩
theorem p4n (g : Gv) (h : goodP g.W [g.A, g.B] = false) : PCall Tryz.prog 4 [AV.given g] (.b true) := by
  intro H
  refine ACall.mk' (n := 43) Tryz.func4 rfl (by kernel_rfl) rfl rfl (fun B I w0 => ?_)
  refine S2 ?_; refine Obx ?_; refine Oas ?_; refine S4 ?_; refine Ofa ?_; refine Ola ?_; refine Ofa ?_; refine Ola ?_; refine Ofa ?_; refine Ola ?_
  refine OL.popC rfl rfl rfl (POp.call (.mk' rfl rfl rfl rfl rfl) (p24n h)) ?_
  refine Omv ?_; refine Oex ?_; refine Oex ?_; refine Oas ?_; refine Oas ?_; refine S5 ?_; refine Ola ?_
  refine OL.popC rfl rfl rfl (POp.call (.mk' rfl rfl rfl rfl rfl) (p25 g)) ?_
  refine Ont ?_; refine S2 ?_
  refine CW.cond rfl (fun h0 => ?_) (fun h0 => ?_)
  ·
    refine S2 ?_; refine Omv ?_; refine Ocm ?_; refine Omv ?_; refine Pmv ?_; refine Pnt ?_; refine Opk ?_; refine Omv ?_
    refine OL.guardC rfl rfl rfl rfl rfl rfl (fun hg => POp.call (.mk' rfl rfl rfl rfl rfl) (p21)) ?_
    refine Opk ?_; refine Oas ?_; refine S4 ?_
    refine r1 2 (H) ?_
    exact ⟨retB rfl, rfl⟩
  ·
    exact absurd h0 (by rw [h]; simp)
theorem p4 (g : Gv) : PCall Tryz.prog 4 [AV.given g] (.b true) := by
  cases h : goodP g.W [g.A, g.B] with
  | true => exact p4g g h
  | false => exact p4n g h
end Go.Proofs.YtiljpbljebfhnaaGreat
