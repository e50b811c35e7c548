/- Part 13 of the proof: contracts of functions of the program and what they need. No condition beyond those that each theorem names. -/
import Derived.Test.YtiljpbljebfhnaaGreatFP12
set_option linter.unusedVariables false
set_option linter.unusedSimpArgs false
set_option maxRecDepth 10000
namespace Go.Proofs.YtiljpbljebfhnaaGreat
open Go.Eng
open Go.Eng.Fc
instance : HasMk Tryz.prog 142 (4, 1, .bool false) := ⟨by kernel_rfl⟩
abbrev bl (o : List Bool) : List AV := o.map fun x => AV.b x
abbrev AV.bools (o : List Bool) : AV := .sl 1 (o.map fun x => [AV.b x])
theorem bl_flat (o : List Bool) : bl o = (o.map fun x => [AV.b x]).flatten ++ [] := by
  induction o with
  | nil => rfl
  | cons x r ih => simpa using ih
theorem bl_get {o : List Bool} {i : Nat} (h : i < o.length) : (bl o)[0 + i * 1]? = some (AV.b (o.getD i false)) := by
  rw [Nat.zero_add, Nat.mul_one, List.getElem?_map, List.getD_eq_getElem?_getD, List.getElem?_eq_getElem h]; rfl
theorem bl_set {o o' : List Bool} {i : Nat} {x : Bool} (h : i < o.length) (e : o.set i x = o') : (bl o).take (0 + i * 1) ++ [AV.b x] ++ (bl o).drop (0 + i * 1 + 1) = bl o' := by
  subst e
  rw [Nat.zero_add, Nat.mul_one, List.set_eq_take_append_cons_drop, if_pos h]
  simp
theorem upIn_step {o : List Bool} {i j : Nat} {l : List Int} (h : j < l.length) : upIn o i (l.drop j) = upIn (o.set (l.getD j default).toNat (bif o.getD (l.getD j default).toNat false then true else o.getD i false)) i (l.drop (j + 1)) := by
  rw [List.drop_eq_getElem_cons h, upIn, getD_lt h, bif_or]
theorem bl_fit {o : List Bool} {i : Nat} (h : i < o.length) : Nat.ble (0 + i * 1 + 1) (bl o).length = true := by rw [Nat.ble_eq]; simp; omega
theorem bl_new (n : Nat) : List.replicate n (AV.val (.bool false)) = bl (List.replicate n false) := by rw [bl, List.map_replicate]
theorem p110 {W : FW} (h : worldP W = true) {c : Int} (h3 : 3 ≤ c) (hc : c < 3 + W.parents.length) : PCall Tryz.prog 110 [AV.world W, .i c] (AV.bools (upR W c.toNat)) := by
  intro H
  refine ACall.mk' (n := 48) Tryz.func110 rfl (by kernel_rfl) rfl rfl (fun B I w0 => ?_)
  have hW := world_len h
  refine CW.boundA (t := 0) (i := 0) rfl rfl (fun hb0 => ?_)
  refine CW.seq ?_
  refine CW.region ?_
  refine OL.popC rfl rfl rfl (POp.boxI rfl rfl rfl rfl) ?_
  refine OL.popC rfl rfl rfl (POp.assign rfl rfl rfl) ?_
  refine OL.nil ?_
  refine Done.seq ?_
  refine CW.seq ?_
  refine CW.region ?_
  refine OL.popC rfl rfl rfl ((by first | exact POp.fa rfl rfl rfl rfl | exact POp.faP rfl rfl rfl rfl)) ?_
  refine OL.popC rfl rfl rfl ((by first | exact POp.ld1 rfl rfl rfl rfl | (apply POp.ld1H rfl rfl rfl; (case hm => repeat (first | exact .head _ | refine .tail _ ?_)); (case hy => rfl)))) ?_
  refine OL.popC rfl rfl rfl ((by first | exact POp.lenM rfl rfl rfl | exact POp.lenA rfl rfl rfl | exact POp.lenV rfl rfl rfl | exact POp.len' rfl rfl rfl)) ?_
  refine OL.popC rfl rfl rfl (POp.arith rfl rfl rfl rfl rfl rfl (wrap64 (by omega))) ?_
  refine OL.mkSlC (3 + W.parents.length) rfl rfl rfl rfl rfl rfl rfl rfl (by omega) (by omega) (by simp [maxLen]; omega) (fun b5 => ?_)
  refine OL.popC rfl rfl rfl (POp.assign rfl rfl rfl) ?_
  refine OL.nil ?_
  refine Done.seq ?_
  refine CW.seq ?_
  rw [bl_new]
  refine CW.region ?_
  refine OL.popC rfl rfl rfl (POp.move rfl rfl rfl) ?_
  refine OL.popC rfl rfl rfl (POp.move rfl rfl rfl) ?_
  refine OL.popC rfl rfl rfl (POp.ixC rfl rfl rfl rfl rfl (by omega)) ?_
  apply OL.stoC rfl rfl rfl rfl rfl rfl rfl rfl rfl rfl
  (case hu => repeat (first | exact Upd.head _ _ _ | apply Upd.tail)); (case hfit => exact bl_fit (i := c.toNat) (by simp; omega)); (case hds => exact bl_set (i := c.toNat) (by simp; omega) rfl)
  refine OL.nil ?_
  refine Done.seq ?_
  refine CW.seq ?_
  refine CW.seq ?_
  refine CW.region ?_
  refine OL.popC rfl rfl rfl (POp.move rfl rfl rfl) ?_
  refine OL.popC rfl rfl rfl (POp.assign rfl rfl rfl) ?_
  refine OL.nil ?_
  refine Done.seq ?_
  refine CW.block ?_
  refine CW.loopJ (fun m st => ∃ (i : Int) (o : List Bool), st = ⟨[(6, .i i), (5, .val (.slice (some ⟨b5, 0, none⟩) (3 + W.parents.length) (3 + W.parents.length))), (2, .ptr (Wcells W))], .blk b5 4 (bl o) :: H⟩ ∧ m = (i - 2).toNat ∧ 2 ≤ i ∧ i ≤ c ∧ o.length = 3 + W.parents.length ∧ upDown W (i - 2).toNat o = upR W c.toNat) ⟨_, _, ⟨c, (List.replicate (3 + W.parents.length) false).set c.toNat true, rfl, rfl, by omega, by omega, by simp, by rw [upR, show (c - 2).toNat = c.toNat - 2 from by omega]⟩, (by repeat (first | exact trivial | refine ⟨rfl, ?_⟩)), (by repeat (first | exact List.Sublist.refl _ | refine List.Sublist.cons _ ?_))⟩ ?_
  rintro m _ ⟨i, o, rfl, rfl, hi2, hic, hol, hup⟩
  refine CW.seq ?_
  refine CW.seq ?_
  refine CW.region ?_
  refine OL.popC rfl rfl rfl (POp.move rfl rfl rfl) ?_
  refine OL.popC rfl rfl rfl (POp.cmp rfl rfl rfl rfl rfl rfl) ?_
  refine OL.nil ?_
  refine Done.seq ?_
  refine CW.cond rfl (fun h0 => ?_) (fun h0 => ?_)
  ·
    try simp only [decide_eq_true_eq, decide_eq_false_iff_not, beq_iff_eq, bne_iff_ne, ne_eq, Int.not_lt, Int.not_le, beq_eq_false_iff_ne, gt_iff_lt, ge_iff_le, Bool.not_eq_true, Bool.not_eq_false, Bool.not_eq_false', bne_eq_false_iff_eq] at h0
    have hp := pars_lt h (i := (i - 3).toNat) (by omega)
    refine CW.skip ?_
    refine Done.seq ?_
    refine CW.seq ?_
    refine CW.block ?_
    refine CW.seq ?_
    refine CW.region ?_
    refine OL.popC rfl rfl rfl ((by first | exact POp.fa rfl rfl rfl rfl | exact POp.faP rfl rfl rfl rfl)) ?_
    refine OL.popC rfl rfl rfl ((by first | exact POp.ld1 rfl rfl rfl rfl | (apply POp.ld1H rfl rfl rfl; (case hm => repeat (first | exact .head _ | refine .tail _ ?_)); (case hy => rfl)))) ?_
    refine OL.popC rfl rfl rfl (POp.move rfl rfl rfl) ?_
    refine OL.popC rfl rfl rfl (POp.arith rfl rfl rfl rfl rfl rfl (wrap64 (by omega))) ?_
    refine OL.popC rfl rfl rfl ((by first | exact POp.ixM rfl rfl rfl rfl rfl (by omega) | exact POp.ixI rfl rfl rfl rfl rfl (by omega))) ?_
    refine OL.popC rfl rfl rfl ((by first | exact POp.ld1 rfl rfl rfl rfl | (apply POp.ld1H rfl rfl rfl; (case hm => repeat (first | exact .head _ | refine .tail _ ?_)); (case hy => rfl)))) ?_
    refine OL.popC rfl rfl rfl ((by first | exact POp.lenM rfl rfl rfl | exact POp.lenA rfl rfl rfl | exact POp.lenV rfl rfl rfl | exact POp.len' rfl rfl rfl)) ?_
    refine OL.popC rfl rfl rfl (POp.move rfl rfl rfl) ?_
    refine OL.nil ?_
    refine Done.seq ?_
    refine CW.block ?_
    refine CW.loopJ (fun m st => ∃ (j : Nat) (o2 : List Bool), st = ⟨[(29, .i j), (28, .i (W.parents.getD (i - 3).toNat default).length), (27, AV.ints (W.parents.getD (i - 3).toNat default)), (6, .i i), (5, .val (.slice (some ⟨b5, 0, none⟩) (3 + W.parents.length) (3 + W.parents.length))), (2, .ptr (Wcells W))], .blk b5 4 (bl o2) :: H⟩ ∧ m = (W.parents.getD (i - 3).toNat default).length - j ∧ j ≤ (W.parents.getD (i - 3).toNat default).length ∧ o2.length = 3 + W.parents.length ∧ upIn o2 i.toNat ((W.parents.getD (i - 3).toNat default).drop j) = upIn o i.toNat (W.parents.getD (i - 3).toNat default)) ⟨_, _, ⟨0, o, rfl, rfl, by omega, hol, rfl⟩, (by repeat (first | exact trivial | refine ⟨rfl, ?_⟩)), (by repeat (first | exact List.Sublist.refl _ | refine List.Sublist.cons _ ?_))⟩ ?_
    rintro m _ ⟨j, o2, rfl, rfl, hj, ho2, hin⟩
    refine CW.seq ?_
    refine CW.boundM (t := 27) rfl (fun hbl => ?_)
    refine CW.region ?_
    refine OL.popC rfl rfl rfl (POp.cmp rfl rfl rfl rfl rfl rfl) ?_
    refine OL.nil ?_
    refine Done.seq ?_
    refine CW.seq ?_
    refine CW.cond rfl (fun h1 => ?_) (fun h1 => ?_)
    ·
      try simp only [decide_eq_true_eq, decide_eq_false_iff_not, beq_iff_eq, bne_iff_ne, ne_eq, Int.not_lt, Int.not_le, beq_eq_false_iff_ne, gt_iff_lt, ge_iff_le, Bool.not_eq_true, Bool.not_eq_false, Bool.not_eq_false', bne_eq_false_iff_eq] at h1
      refine CW.skip ?_
      refine Done.seq ?_
      refine CW.seq ?_
      refine CW.block ?_
      refine CW.seq ?_
      refine CW.region ?_
      refine OL.popC rfl rfl rfl ((by first | exact POp.ixM rfl rfl rfl rfl rfl (by omega) | exact POp.ixI rfl rfl rfl rfl rfl (by omega))) ?_
      refine OL.popC rfl rfl rfl ((by first | exact POp.ld1 rfl rfl rfl rfl | (apply POp.ld1H rfl rfl rfl; (case hm => repeat (first | exact .head _ | refine .tail _ ?_)); (case hy => rfl)))) ?_
      refine OL.popC rfl rfl rfl (POp.assign rfl rfl rfl) ?_
      refine OL.nil ?_
      refine Done.seq ?_
      have hpj : 3 ≤ (W.parents.getD (i - 3).toNat default).getD j default ∧ (W.parents.getD (i - 3).toNat default).getD j default < i := by
        have := hp ((W.parents.getD (i - 3).toNat default).getD j default) (getD_mem (by omega))
        omega
      refine CW.region ?_
      refine OL.popC rfl rfl rfl (POp.move rfl rfl rfl) ?_
      refine OL.popC rfl rfl rfl (POp.move rfl rfl rfl) ?_
      refine OL.popC rfl rfl rfl (POp.move rfl rfl rfl) ?_
      refine OL.popC rfl rfl rfl (POp.move rfl rfl rfl) ?_
      refine OL.popC rfl rfl rfl (POp.ixC rfl rfl rfl rfl rfl (by omega)) ?_
      refine OL.popC rfl rfl rfl ((by first | exact POp.ld1 rfl rfl rfl rfl | (apply POp.ld1H rfl rfl rfl; (case hm => repeat (first | exact .head _ | refine .tail _ ?_)); (case hy => exact bl_get (i := ((W.parents.getD (i - 3).toNat default).getD j default).toNat) (by omega))))) ?_
      refine OL.popC rfl rfl rfl (POp.move rfl rfl rfl) ?_
      refine OL.guardC rfl rfl rfl rfl rfl rfl (fun hg => POp.move rfl rfl rfl) ?_
      refine OL.guardC rfl rfl rfl rfl rfl rfl (fun hg => POp.move rfl rfl rfl) ?_
      refine OL.guardC rfl rfl rfl rfl rfl rfl (fun hg => POp.ixC rfl rfl (by first | rfl | exact hg | exact (Bool.and_eq_true_iff.1 hg).1 | exact (Bool.and_eq_true_iff.1 (Bool.and_eq_true_iff.1 hg).1).1 | simp_all) rfl (by first | rfl | exact hg | exact (Bool.and_eq_true_iff.1 hg).1 | exact (Bool.and_eq_true_iff.1 (Bool.and_eq_true_iff.1 hg).1).1 | simp_all) (by omega)) ?_
      refine OL.guardC rfl rfl rfl rfl rfl rfl (fun hg => (by first | exact POp.ld1 rfl rfl (by first | rfl | exact hg | exact (Bool.and_eq_true_iff.1 hg).1 | exact (Bool.and_eq_true_iff.1 (Bool.and_eq_true_iff.1 hg).1).1 | simp_all) rfl | (apply POp.ld1H rfl rfl (by first | rfl | exact hg | exact (Bool.and_eq_true_iff.1 hg).1 | exact (Bool.and_eq_true_iff.1 (Bool.and_eq_true_iff.1 hg).1).1 | simp_all); (case hm => repeat (first | exact .head _ | refine .tail _ ?_)); (case hy => exact bl_get (i := i.toNat) (by omega))))) ?_
      refine OL.popC rfl rfl rfl (POp.pick rfl rfl rfl rfl rfl (fun _ => rfl) (by first | exact fun h => h | (intro h; rw [h]; rfl) | (intro h; simp_all))) ?_
      refine OL.popC rfl rfl rfl (POp.ixC rfl rfl rfl rfl rfl (by omega)) ?_
      apply OL.stoC rfl rfl rfl rfl rfl rfl rfl rfl rfl rfl
      (case hu => repeat (first | exact Upd.head _ _ _ | apply Upd.tail)); (case hfit => exact bl_fit (i := ((W.parents.getD (i - 3).toNat default).getD j default).toNat) (by omega)); (case hds => exact bl_set (i := ((W.parents.getD (i - 3).toNat default).getD j default).toNat) (by omega) rfl)
      refine OL.nil ?_
      refine Done.blkNormal ?_
      refine Done.seq ?_
      refine CW.region ?_
      refine OL.popC rfl rfl rfl (POp.arith rfl rfl rfl rfl rfl rfl (wrap64 (by omega))) ?_
      refine OL.popC rfl rfl rfl (POp.move rfl rfl rfl) ?_
      refine OL.nil ?_
      refine Done.againJ (⟨j + 1, o2.set ((W.parents.getD (i - 3).toNat default).getD j default).toNat (bif o2.getD ((W.parents.getD (i - 3).toNat default).getD j default).toNat false then true else o2.getD i.toNat false), rfl, rfl, by omega, by rw [List.length_set]; exact ho2, by rw [← upIn_step (by omega)]; exact hin⟩) ?_ ?_ ?_
      · omega
      · repeat (first | exact trivial | refine ⟨rfl, ?_⟩)
      · repeat (first | exact List.Sublist.refl _ | refine List.Sublist.cons _ ?_)
    ·
      try simp only [decide_eq_true_eq, decide_eq_false_iff_not, beq_iff_eq, bne_iff_ne, ne_eq, Int.not_lt, Int.not_le, beq_eq_false_iff_ne, gt_iff_lt, ge_iff_le, Bool.not_eq_true, Bool.not_eq_false, Bool.not_eq_false', bne_eq_false_iff_eq] at h1
      obtain rfl : j = (W.parents.getD (i - 3).toNat default).length := by omega
      rw [List.drop_length, upIn] at hin
      refine CW.exit ?_
      refine Done.thenExit ?_
      refine Done.thenExit ?_
      refine Done.blkExit ?_
      refine Done.blkNormal ?_
      refine Done.seq ?_
      refine CW.region ?_
      refine OL.popC rfl rfl rfl (POp.move rfl rfl rfl) ?_
      refine OL.popC rfl rfl rfl (POp.arith rfl rfl rfl rfl rfl rfl (wrap64 (by omega))) ?_
      refine OL.popC rfl rfl rfl (POp.assign rfl rfl rfl) ?_
      refine OL.nil ?_
      refine Done.againJ (⟨i - 1, o2, rfl, rfl, by omega, by omega, ho2, by rw [hin, ← hup, show (i - 2).toNat = (i - 3).toNat + 1 from by omega, upDown, show 3 + (i - 3).toNat = i.toNat from by omega, show (i - 1 - 2).toNat = (i - 3).toNat from by omega]⟩) ?_ ?_ ?_
      · omega
      · repeat (first | exact trivial | refine ⟨rfl, ?_⟩)
      · repeat (first | exact List.Sublist.refl _ | refine List.Sublist.cons _ ?_)
  ·
    try simp only [decide_eq_true_eq, decide_eq_false_iff_not, beq_iff_eq, bne_iff_ne, ne_eq, Int.not_lt, Int.not_le, beq_eq_false_iff_ne, gt_iff_lt, ge_iff_le, Bool.not_eq_true, Bool.not_eq_false, Bool.not_eq_false', bne_eq_false_iff_eq] at h0
    obtain rfl : i = 2 := by omega
    rw [show ((2 : Int) - 2).toNat = 0 from rfl, upDown] at hup
    subst hup
    refine CW.exit ?_
    refine Done.thenExit ?_
    refine Done.thenExit ?_
    refine Done.blkExit ?_
    refine Done.seq ?_
    refine CW.seq ?_
    rw [bl_flat]
    refine CW.freezeS (d := 5) (k := 1) rfl (by repeat (first | exact Del.head _ _ | apply Del.tail)) (by simp [hol]) (by intro e he; obtain ⟨x, _, rfl⟩ := List.mem_map.1 he; rfl) (by omega) (by simp [maxLen]; omega) ?_
    refine CW.region ?_
    refine OL.popC rfl rfl rfl (POp.move rfl rfl rfl) ?_
    refine OL.popC rfl rfl rfl (POp.assign rfl rfl rfl) ?_
    refine OL.nil ?_
    refine Done.seq ?_
    refine CW.ret ?_
    refine Done.retR (rs := [.tmp 4]) (H' := H) rfl (.tmp rfl (.nil)) (AVleL.refl _) (by repeat (first | exact List.Sublist.refl _ | refine List.Sublist.cons _ ?_)) ?_
    exact ⟨by rfl, rfl⟩
theorem p52 {W : FW} (h : worldP W = true) {a b : Int} (ha : classP W a = true) (hb : classP W b = true) : PCall Tryz.prog 52 [AV.world W, .i a, .i b] (.b (belowP W a b)) := by
  intro H
  refine ACall.mk' (n := 24) Tryz.func52 rfl (by kernel_rfl) rfl rfl (fun B I w0 => ?_)
  have hW := world_len h
  simp only [classP, Bool.and_eq_true, decide_eq_true_eq] at ha hb
  refine CW.seq ?_
  refine CW.region ?_
  refine OL.popC rfl rfl rfl (POp.boxI rfl rfl rfl rfl) ?_
  refine OL.popC rfl rfl rfl (POp.assign rfl rfl rfl) ?_
  refine OL.nil ?_
  refine Done.seq ?_
  refine CW.seq ?_
  refine CW.seq ?_
  refine CW.region ?_
  refine OL.popC rfl rfl rfl (POp.move rfl rfl rfl) ?_
  refine OL.popC rfl rfl rfl (POp.move rfl rfl rfl) ?_
  refine OL.popC rfl rfl rfl (POp.cmp rfl rfl rfl rfl rfl rfl) ?_
  refine OL.popC rfl rfl rfl (POp.move rfl rfl rfl) ?_
  refine OL.guardC rfl rfl rfl rfl rfl rfl (fun hg => POp.move rfl rfl rfl) ?_
  refine OL.guardC rfl rfl rfl rfl rfl rfl (fun hg => POp.cmp rfl rfl rfl (by first | rfl | exact hg | exact (Bool.and_eq_true_iff.1 hg).1 | exact (Bool.and_eq_true_iff.1 (Bool.and_eq_true_iff.1 hg).1).1 | simp_all) rfl rfl) ?_
  refine OL.popC rfl rfl rfl (POp.pick rfl rfl rfl rfl rfl (fun _ => rfl) (by first | exact fun h => h | (intro h; rw [h]; rfl) | (intro h; simp_all))) ?_
  refine OL.nil ?_
  refine Done.seq ?_
  refine CW.cond rfl (fun h0 => ?_) (fun h0 => ?_)
  ·
    try simp only [decide_eq_true_eq, decide_eq_false_iff_not, beq_iff_eq, bne_iff_ne, ne_eq, Int.not_lt, Int.not_le, beq_eq_false_iff_ne, gt_iff_lt, ge_iff_le, Bool.not_eq_true, Bool.not_eq_false, Bool.not_eq_false', bne_eq_false_iff_eq] at h0
    refine CW.seq ?_
    refine CW.region ?_
    refine OL.popC rfl rfl rfl (POp.assign rfl rfl rfl) ?_
    refine OL.nil ?_
    refine Done.seq ?_
    refine CW.ret ?_
    refine Done.thenRet ?_
    refine Done.retR (rs := [.tmp 6]) (H' := H) rfl (.tmp rfl (.nil)) (AVleL.refl _) (by repeat (first | exact List.Sublist.refl _ | refine List.Sublist.cons _ ?_)) ?_
    exact ⟨retB (by rw [below_up]; symm; rw [bif_or, Bool.or_eq_true, beq_iff_eq, beq_iff_eq] at h0; rcases h0 with e | e; (· subst e; exact upB_self h (by omega)); (· subst e; exact upB_zero h (by omega))), rfl⟩
  ·
    try simp only [decide_eq_true_eq, decide_eq_false_iff_not, beq_iff_eq, bne_iff_ne, ne_eq, Int.not_lt, Int.not_le, beq_eq_false_iff_ne, gt_iff_lt, ge_iff_le, Bool.not_eq_true, Bool.not_eq_false, Bool.not_eq_false', bne_eq_false_iff_eq] at h0
    refine CW.skip ?_
    refine Done.seq ?_
    refine CW.seq ?_
    refine CW.seq ?_
    refine CW.region ?_
    refine OL.popC rfl rfl rfl (POp.move rfl rfl rfl) ?_
    refine OL.popC rfl rfl rfl (POp.cmp rfl rfl rfl rfl rfl rfl) ?_
    refine OL.nil ?_
    refine Done.seq ?_
    refine CW.cond rfl (fun h1 => ?_) (fun h1 => ?_)
    ·
      try simp only [decide_eq_true_eq, decide_eq_false_iff_not, beq_iff_eq, bne_iff_ne, ne_eq, Int.not_lt, Int.not_le, beq_eq_false_iff_ne, gt_iff_lt, ge_iff_le, Bool.not_eq_true, Bool.not_eq_false, Bool.not_eq_false', bne_eq_false_iff_eq] at h1
      refine CW.seq ?_
      refine CW.region ?_
      refine OL.popC rfl rfl rfl (POp.assign rfl rfl rfl) ?_
      refine OL.nil ?_
      refine Done.seq ?_
      refine CW.ret ?_
      refine Done.thenRet ?_
      refine Done.retR (rs := [.tmp 6]) (H' := H) rfl (.tmp rfl (.nil)) (AVleL.refl _) (by repeat (first | exact List.Sublist.refl _ | refine List.Sublist.cons _ ?_)) ?_
      exact ⟨retB (by rw [below_up, upB_low (by omega)]; symm; rw [bif_or, Bool.or_eq_false_iff, beq_eq_false_iff_ne, beq_eq_false_iff_ne] at h0; rw [Bool.or_eq_false_iff, beq_eq_false_iff_ne, beq_eq_false_iff_ne]; omega), rfl⟩
    ·
      try simp only [decide_eq_true_eq, decide_eq_false_iff_not, beq_iff_eq, bne_iff_ne, ne_eq, Int.not_lt, Int.not_le, beq_eq_false_iff_ne, gt_iff_lt, ge_iff_le, Bool.not_eq_true, Bool.not_eq_false, Bool.not_eq_false', bne_eq_false_iff_eq] at h1
      refine CW.skip ?_
      refine Done.seq ?_
      refine CW.seq ?_
      refine CW.region ?_
      refine OL.popC rfl rfl rfl ((by first | exact POp.ldA rfl rfl rfl rfl | (apply POp.ldAH rfl rfl rfl; (case hm => repeat (first | exact .head _ | refine .tail _ ?_)); (case hy => rfl); (case hn => rfl)))) ?_
      refine OL.popC rfl rfl rfl (POp.move rfl rfl rfl) ?_
      refine OL.popC rfl rfl rfl (POp.call (.mk' rfl rfl rfl rfl rfl) (p110 h (by omega) (by omega))) ?_
      refine OL.popC rfl rfl rfl (POp.assign rfl rfl rfl) ?_
      refine OL.nil ?_
      refine Done.seq ?_
      refine CW.seq ?_
      refine CW.region ?_
      refine OL.popC rfl rfl rfl (POp.move rfl rfl rfl) ?_
      refine OL.popC rfl rfl rfl (POp.move rfl rfl rfl) ?_
      refine OL.popC rfl rfl rfl ((by first | exact POp.ixM rfl rfl rfl rfl rfl (by simp [upR_len]; omega) | exact POp.ixI rfl rfl rfl rfl rfl (by simp [upR_len]; omega))) ?_
      refine OL.popC rfl rfl rfl ((by first | exact POp.ld1 rfl rfl rfl rfl | (apply POp.ld1H rfl rfl rfl; (case hm => repeat (first | exact .head _ | refine .tail _ ?_)); (case hy => rfl)))) ?_
      refine OL.popC rfl rfl rfl (POp.assign rfl rfl rfl) ?_
      refine OL.nil ?_
      refine Done.seq ?_
      refine CW.ret ?_
      refine Done.retR (rs := [.tmp 6]) (H' := H) rfl (.tmp rfl (.nil)) (AVleL.refl _) (by repeat (first | exact List.Sublist.refl _ | refine List.Sublist.cons _ ?_)) ?_
      exact ⟨retB (by rw [bif_or, Bool.or_eq_false_iff, beq_eq_false_iff_ne, beq_eq_false_iff_ne] at h0; exact upR_get h (by omega) (by omega) (by omega)), rfl⟩
theorem path_no {W : FW} {l : List Int} {i : Nat} (h : i < l.length) (hs : slotP W (l.getD i default) = false) : l.all (slotP W) = false := by
  rw [List.all_eq_false]; exact ⟨l.getD i default, getD_mem h, by rw [hs]; simp⟩
mutual
def depthN : Fact → Nat
  | .mk _ _ _ _ _ kids => depthNs kids + 1
def depthNs : List Fact → Nat
  | [] => 0
  | k :: r => max (depthN k) (depthNs r)
end
theorem depthN_eq (f : Fact) : depthN f = depthNs f.kids + 1 := by cases f; rw [depthN]; rfl
theorem depthNs_snoc (x : Fact) : ∀ l : List Fact, depthNs (l ++ [x]) = max (depthNs l) (depthN x)
  | [] => by simp [depthNs]
  | k :: r => by rw [List.cons_append, depthNs, depthNs, depthNs_snoc x r, Nat.max_assoc]
mutual
theorem depth_nodes : ∀ f : Fact, depthN f ≤ nodesN f
  | .mk _ _ _ _ _ kids => by rw [depthN, nodesN]; have := depths_nodes kids; omega
theorem depths_nodes : ∀ l : List Fact, depthNs l ≤ nodesNs l
  | [] => by simp [depthNs]
  | k :: r => by rw [depthNs, nodesNs]; have := depth_nodes k; have := depths_nodes r; omega
end
theorem kid_nodes {f k : Fact} (h : k ∈ f.kids) : nodesN k < nodesN f := by
  have : ∀ l : List Fact, k ∈ l → nodesN k ≤ nodesNs l := by
    intro l
    induction l with
    | nil => intro h; cases h
    | cons y r ih => intro h; rw [nodesNs]; rcases List.mem_cons.1 h with rfl | h; omega; have := ih h; omega
  have := this f.kids h
  rw [nodesN_eq f]; omega
theorem p98_step (f : Fact) (ih : ∀ k ∈ f.kids, ∀ n : Int, 0 ≤ n → n ≤ 1000000 → PCall Tryz.prog 98 [AV.fact k, .i n] (.i (min (nodesN k : Int) (n + 1)))) (n : Int) (h0n : 0 ≤ n) (h1n : n ≤ 1000000) : PCall Tryz.prog 98 [AV.fact f, .i n] (.i (min (nodesN f : Int) (n + 1))) := by
  intro H
  refine ACall.mk' (n := 31) Tryz.func98 rfl (by kernel_rfl) rfl rfl (fun B I w0 => ?_)
  refine CW.boundA (t := 0) (i := 5) rfl rfl (fun hb0 => ?_)
  refine CW.seq ?_
  refine CW.region ?_
  refine OL.popC rfl rfl rfl (POp.boxI rfl rfl rfl rfl) ?_
  refine OL.popC rfl rfl rfl (POp.assign rfl rfl rfl) ?_
  refine OL.nil ?_
  refine Done.seq ?_
  refine CW.seq ?_
  refine CW.region ?_
  refine OL.popC rfl rfl rfl (POp.assign rfl rfl rfl) ?_
  refine OL.nil ?_
  refine Done.seq ?_
  refine CW.seq ?_
  refine CW.seq ?_
  refine CW.region ?_
  refine OL.popC rfl rfl rfl (POp.assign rfl rfl rfl) ?_
  refine OL.nil ?_
  refine Done.seq ?_
  refine CW.block ?_
  refine CW.loopJ (fun m st => ∃ (i : Nat) (x : Int), st = ⟨[(6, .i i), (5, .i x), (2, .ptr (Fcells f)), (1, .i n)], H⟩ ∧ m = f.kids.length - i ∧ i ≤ f.kids.length ∧ x = min (1 + nodesNs (f.kids.take i) : Int) (n + 1)) ⟨_, _, ⟨0, 1, rfl, rfl, by omega, by simp [nodesNs]; omega⟩, (by repeat (first | exact trivial | refine ⟨rfl, ?_⟩)), (by repeat (first | exact List.Sublist.refl _ | refine List.Sublist.cons _ ?_))⟩ ?_
  rintro m _ ⟨i, x, rfl, rfl, hi, hx⟩
  refine CW.seq ?_
  refine CW.seq ?_
  refine CW.region ?_
  refine OL.popC rfl rfl rfl (POp.move rfl rfl rfl) ?_
  refine OL.popC rfl rfl rfl ((by first | exact POp.fa rfl rfl rfl rfl | exact POp.faP rfl rfl rfl rfl)) ?_
  refine OL.popC rfl rfl rfl ((by first | exact POp.ld1 rfl rfl rfl rfl | (apply POp.ld1H rfl rfl rfl; (case hm => repeat (first | exact .head _ | refine .tail _ ?_)); (case hy => rfl)))) ?_
  refine OL.popC rfl rfl rfl ((by first | exact POp.lenM rfl rfl rfl | exact POp.lenA rfl rfl rfl | exact POp.lenV rfl rfl rfl | exact POp.len' rfl rfl rfl)) ?_
  refine OL.popC rfl rfl rfl (POp.cmp rfl rfl rfl rfl rfl rfl) ?_
  refine OL.popC rfl rfl rfl (POp.move rfl rfl rfl) ?_
  refine OL.guardC rfl rfl rfl rfl rfl rfl (fun hg => POp.move rfl rfl rfl) ?_
  refine OL.guardC rfl rfl rfl rfl rfl rfl (fun hg => POp.move rfl rfl rfl) ?_
  refine OL.guardC rfl rfl rfl rfl rfl rfl (fun hg => POp.cmp rfl rfl rfl (by first | rfl | exact hg | exact (Bool.and_eq_true_iff.1 hg).1 | exact (Bool.and_eq_true_iff.1 (Bool.and_eq_true_iff.1 hg).1).1 | simp_all) (by first | rfl | exact hg | exact (Bool.and_eq_true_iff.1 hg).1 | exact (Bool.and_eq_true_iff.1 (Bool.and_eq_true_iff.1 hg).1).1 | simp_all) rfl) ?_
  refine OL.popC rfl rfl rfl (POp.pick rfl rfl rfl rfl rfl (by first | exact fun h => h | (intro h; rw [h]; rfl) | (intro h; simp_all)) (fun _ => rfl)) ?_
  refine OL.nil ?_
  refine Done.seq ?_
  refine CW.cond rfl (fun h0 => ?_) (fun h0 => ?_)
  ·
    simp only [cond_true, Bool.cond_false_right, Bool.and_eq_true, decide_eq_true_eq] at h0
    have hk := nodesNs_take (l := f.kids) (j := i) (by omega)
    refine CW.skip ?_
    refine Done.seq ?_
    refine CW.seq ?_
    refine CW.block ?_
    refine CW.region ?_
    refine OL.popC rfl rfl rfl (POp.move rfl rfl rfl) ?_
    refine OL.popC rfl rfl rfl ((by first | exact POp.fa rfl rfl rfl rfl | exact POp.faP rfl rfl rfl rfl)) ?_
    refine OL.popC rfl rfl rfl ((by first | exact POp.ld1 rfl rfl rfl rfl | (apply POp.ld1H rfl rfl rfl; (case hm => repeat (first | exact .head _ | refine .tail _ ?_)); (case hy => rfl)))) ?_
    refine OL.popC rfl rfl rfl (POp.move rfl rfl rfl) ?_
    refine OL.popC rfl rfl rfl ((by first | exact POp.ixM rfl rfl rfl rfl rfl (by omega) | exact POp.ixI rfl rfl rfl rfl rfl (by omega))) ?_
    refine OL.popC rfl rfl rfl ((by first | exact POp.ldA rfl rfl rfl rfl | (apply POp.ldAH rfl rfl rfl; (case hm => repeat (first | exact .head _ | refine .tail _ ?_)); (case hy => rfl); (case hn => rfl)))) ?_
    refine OL.popC rfl rfl rfl (POp.move rfl rfl rfl) ?_
    refine OL.popC rfl rfl rfl (POp.move rfl rfl rfl) ?_
    refine OL.popC rfl rfl rfl (POp.arith rfl rfl rfl rfl rfl rfl (wrap64 (by omega))) ?_
    refine OL.popC rfl rfl rfl (POp.call (.mk' rfl rfl rfl rfl rfl) (ih (f.kids.getD i default) (getD_mem (by omega)) _ (by omega) (by omega))) ?_
    refine OL.popC rfl rfl rfl (POp.arith rfl rfl rfl rfl rfl rfl (wrap64 (by omega))) ?_
    refine OL.popC rfl rfl rfl (POp.assign rfl rfl rfl) ?_
    refine OL.nil ?_
    refine Done.blkNormal ?_
    refine Done.seq ?_
    refine CW.region ?_
    refine OL.popC rfl rfl rfl (POp.move rfl rfl rfl) ?_
    refine OL.popC rfl rfl rfl (POp.arith rfl rfl rfl rfl rfl rfl (wrap64 (by omega))) ?_
    refine OL.popC rfl rfl rfl (POp.assign rfl rfl rfl) ?_
    refine OL.nil ?_
    refine Done.againJ (⟨i + 1, x + min (nodesN (f.kids.getD i default) : Int) (n - x + 1), rfl, rfl, by omega, by omega⟩) ?_ ?_ ?_
    · omega
    · repeat (first | exact trivial | refine ⟨rfl, ?_⟩)
    · repeat (first | exact List.Sublist.refl _ | refine List.Sublist.cons _ ?_)
  ·
    simp only [Bool.cond_false_right, Bool.and_eq_false_iff, decide_eq_false_iff_not] at h0
    have hk := nodesN_eq f
    have hl : nodesNs (f.kids.take i) ≤ nodesNs f.kids := nodesNs_le _
    have hx2 : x = min (nodesN f : Int) (n + 1) := by
      rcases h0 with e | e
      · have : i = f.kids.length := by omega
        rw [this, List.take_length] at hx; omega
      · omega
    refine CW.exit ?_
    refine Done.thenExit ?_
    refine Done.thenExit ?_
    refine Done.blkExit ?_
    refine Done.seq ?_
    refine CW.seq ?_
    refine CW.region ?_
    refine OL.popC rfl rfl rfl (POp.move rfl rfl rfl) ?_
    refine OL.popC rfl rfl rfl (POp.assign rfl rfl rfl) ?_
    refine OL.nil ?_
    refine Done.seq ?_
    refine CW.ret ?_
    refine Done.retR (rs := [.tmp 4]) (H' := H) rfl (.tmp rfl (.nil)) (AVleL.refl _) (by repeat (first | exact List.Sublist.refl _ | refine List.Sublist.cons _ ?_)) ?_
    exact ⟨retI hx2, rfl⟩
theorem p98 : ∀ (f : Fact) (n : Int), 0 ≤ n → n ≤ 1000000 → PCall Tryz.prog 98 [AV.fact f, .i n] (.i (min (nodesN f : Int) (n + 1))) := Fact.ind1 p98_step
theorem p29 (f : Fact) : PCall Tryz.prog 29 [AV.fact f] (.i (min (nodesN f : Int) 25)) := by
  intro H
  refine ACall.mk' (n := 5) Tryz.func29 rfl (by kernel_rfl) rfl rfl (fun B I w0 => ?_)
  refine CW.seq ?_
  refine CW.region ?_
  refine OL.popC rfl rfl rfl (POp.boxI rfl rfl rfl rfl) ?_
  refine OL.popC rfl rfl rfl (POp.assign rfl rfl rfl) ?_
  refine OL.nil ?_
  refine Done.seq ?_
  refine CW.seq ?_
  refine CW.region ?_
  refine OL.popC rfl rfl rfl ((by first | exact POp.ldA rfl rfl rfl rfl | (apply POp.ldAH rfl rfl rfl; (case hm => repeat (first | exact .head _ | refine .tail _ ?_)); (case hy => rfl); (case hn => rfl)))) ?_
  refine OL.popC rfl rfl rfl (POp.call (.mk' rfl rfl rfl rfl rfl) (p98 f 24 (by omega) (by omega))) ?_
  refine OL.popC rfl rfl rfl (POp.assign rfl rfl rfl) ?_
  refine OL.nil ?_
  refine Done.seq ?_
  refine CW.ret ?_
  refine Done.retR (rs := [.tmp 2]) (H' := H) rfl (.tmp rfl (.nil)) (AVleL.refl _) (by repeat (first | exact List.Sublist.refl _ | refine List.Sublist.cons _ ?_)) ?_
  exact ⟨by rfl, rfl⟩
theorem p86_step (f : Fact) (hn : nodesN f ≤ 1000000) (ih : ∀ k ∈ f.kids, PCall Tryz.prog 86 [AV.fact k] (.i (depthN k))) : PCall Tryz.prog 86 [AV.fact f] (.i (depthN f)) := by
  intro H
  refine ACall.mk' (n := 20) Tryz.func86 rfl (by kernel_rfl) rfl rfl (fun B I w0 => ?_)
  refine CW.boundA (t := 0) (i := 5) rfl rfl (fun hb0 => ?_)
  have hd := depth_nodes f
  have hd2 := depthN_eq f
  refine CW.seq ?_
  refine CW.region ?_
  refine OL.popC rfl rfl rfl (POp.boxI rfl rfl rfl rfl) ?_
  refine OL.popC rfl rfl rfl (POp.assign rfl rfl rfl) ?_
  refine OL.nil ?_
  refine Done.seq ?_
  refine CW.seq ?_
  refine CW.region ?_
  refine OL.popC rfl rfl rfl (POp.assign rfl rfl rfl) ?_
  refine OL.nil ?_
  refine Done.seq ?_
  refine CW.seq ?_
  refine CW.seq ?_
  refine CW.region ?_
  refine OL.popC rfl rfl rfl ((by first | exact POp.fa rfl rfl rfl rfl | exact POp.faP rfl rfl rfl rfl)) ?_
  refine OL.popC rfl rfl rfl ((by first | exact POp.ld1 rfl rfl rfl rfl | (apply POp.ld1H rfl rfl rfl; (case hm => repeat (first | exact .head _ | refine .tail _ ?_)); (case hy => rfl)))) ?_
  refine OL.popC rfl rfl rfl ((by first | exact POp.lenM rfl rfl rfl | exact POp.lenA rfl rfl rfl | exact POp.lenV rfl rfl rfl | exact POp.len' rfl rfl rfl)) ?_
  refine OL.popC rfl rfl rfl (POp.move rfl rfl rfl) ?_
  refine OL.nil ?_
  refine Done.seq ?_
  refine CW.block ?_
  refine CW.loopJ (fun m st => ∃ (i : Nat) (x : Int), st = ⟨[(9, .i i), (8, .i f.kids.length), (7, AV.facts f.kids), (3, .i x), (1, .ptr (Fcells f))], H⟩ ∧ m = f.kids.length - i ∧ i ≤ f.kids.length ∧ x = depthNs (f.kids.take i)) ⟨_, _, ⟨0, 0, rfl, rfl, by omega, by simp [depthNs]⟩, (by repeat (first | exact trivial | refine ⟨rfl, ?_⟩)), (by repeat (first | exact List.Sublist.refl _ | refine List.Sublist.cons _ ?_))⟩ ?_
  rintro m _ ⟨i, x, rfl, rfl, hi, hx⟩
  refine CW.seq ?_
  refine CW.region ?_
  refine OL.popC rfl rfl rfl (POp.cmp rfl rfl rfl rfl rfl rfl) ?_
  refine OL.nil ?_
  refine Done.seq ?_
  refine CW.seq ?_
  refine CW.cond rfl (fun h0 => ?_) (fun h0 => ?_)
  ·
    try simp only [decide_eq_true_eq, decide_eq_false_iff_not, beq_iff_eq, bne_iff_ne, ne_eq, Int.not_lt, Int.not_le, beq_eq_false_iff_ne, gt_iff_lt, ge_iff_le, Bool.not_eq_true, Bool.not_eq_false, Bool.not_eq_false', bne_eq_false_iff_eq] at h0
    refine CW.skip ?_
    refine Done.seq ?_
    refine CW.seq ?_
    refine CW.block ?_
    refine CW.seq ?_
    refine CW.region ?_
    refine OL.popC rfl rfl rfl ((by first | exact POp.ixM rfl rfl rfl rfl rfl (by omega) | exact POp.ixI rfl rfl rfl rfl rfl (by omega))) ?_
    refine OL.popC rfl rfl rfl ((by first | exact POp.ldA rfl rfl rfl rfl | (apply POp.ldAH rfl rfl rfl; (case hm => repeat (first | exact .head _ | refine .tail _ ?_)); (case hy => rfl); (case hn => rfl)))) ?_
    refine OL.alC rfl rfl rfl rfl (fun b0 => ?_)
    apply OL.stoC rfl rfl rfl rfl rfl rfl rfl rfl rfl rfl
    (case hu => repeat (first | exact Upd.head _ _ _ | apply Upd.tail)); (case hfit => rfl); (case hds => rfl)
    refine OL.nil ?_
    refine Done.seq ?_
    refine CW.region ?_
    refine OL.popC rfl rfl rfl (POp.move rfl rfl rfl) ?_
    refine OL.popC rfl rfl rfl ((by first | exact POp.ldA rfl rfl rfl rfl | (apply POp.ldAH rfl rfl rfl; (case hm => repeat (first | exact .head _ | refine .tail _ ?_)); (case hy => rfl); (case hn => rfl)))) ?_
    refine OL.popC rfl rfl rfl (POp.call (.mk' rfl rfl rfl rfl rfl) (ih (f.kids.getD i default) (getD_mem (by omega)))) ?_
    refine OL.popC rfl rfl rfl (POp.max2 rfl rfl rfl rfl rfl rfl) ?_
    refine OL.popC rfl rfl rfl (POp.assign rfl rfl rfl) ?_
    refine OL.nil ?_
    refine Done.blkNormal ?_
    refine Done.seq ?_
    refine CW.region ?_
    refine OL.popC rfl rfl rfl (POp.arith rfl rfl rfl rfl rfl rfl (wrap64 (by omega))) ?_
    refine OL.popC rfl rfl rfl (POp.move rfl rfl rfl) ?_
    refine OL.nil ?_
    refine Done.againJ (⟨i + 1, if (depthN (f.kids.getD i default) : Int) > x then (depthN (f.kids.getD i default) : Int) else x, rfl, rfl, by omega, by rw [← take_getD (by omega), depthNs_snoc]; split <;> omega⟩) ?_ ?_ ?_
    · omega
    · repeat (first | exact trivial | refine ⟨rfl, ?_⟩)
    · repeat (first | exact List.Sublist.refl _ | refine List.Sublist.cons _ ?_)
  ·
    try simp only [decide_eq_true_eq, decide_eq_false_iff_not, beq_iff_eq, bne_iff_ne, ne_eq, Int.not_lt, Int.not_le, beq_eq_false_iff_ne, gt_iff_lt, ge_iff_le, Bool.not_eq_true, Bool.not_eq_false, Bool.not_eq_false', bne_eq_false_iff_eq] at h0
    obtain rfl : i = f.kids.length := by omega
    rw [List.take_length] at hx
    subst hx
    refine CW.exit ?_
    refine Done.thenExit ?_
    refine Done.thenExit ?_
    refine Done.blkExit ?_
    refine Done.seq ?_
    refine CW.seq ?_
    refine CW.region ?_
    refine OL.popC rfl rfl rfl (POp.move rfl rfl rfl) ?_
    refine OL.popC rfl rfl rfl (POp.arith rfl rfl rfl rfl rfl rfl (wrap64 (by omega))) ?_
    refine OL.popC rfl rfl rfl (POp.assign rfl rfl rfl) ?_
    refine OL.nil ?_
    refine Done.seq ?_
    refine CW.ret ?_
    refine Done.retR (rs := [.tmp 2]) (H' := H) rfl (.tmp rfl (.nil)) (AVleL.refl _) (by repeat (first | exact List.Sublist.refl _ | refine List.Sublist.cons _ ?_)) ?_
    exact ⟨retI (by omega), rfl⟩
theorem p86 : ∀ f : Fact, nodesN f ≤ 1000000 → PCall Tryz.prog 86 [AV.fact f] (.i (depthN f)) := Fact.ind1 fun f ih hn => p86_step f hn fun k hk => ih k hk (by have := kid_nodes hk; omega)
theorem p72 (W : FW) (l : List Int) : PCall Tryz.prog 72 [AV.world W, AV.ints l] (.b (pathP W l)) := by
  intro H
  refine ACall.mk' (n := 26) Tryz.func72 rfl (by kernel_rfl) rfl rfl (fun B I w0 => ?_)
  refine CW.boundA (t := 0) (i := 1) rfl rfl (fun hb0 => ?_)
  refine CW.boundM (t := 1) rfl (fun hb1 => ?_)
  refine CW.seq ?_
  refine CW.region ?_
  refine OL.popC rfl rfl rfl (POp.boxI rfl rfl rfl rfl) ?_
  refine OL.popC rfl rfl rfl (POp.assign rfl rfl rfl) ?_
  refine OL.nil ?_
  refine Done.seq ?_
  refine CW.seq ?_
  refine CW.seq ?_
  refine CW.region ?_
  refine OL.popC rfl rfl rfl (POp.move rfl rfl rfl) ?_
  refine OL.popC rfl rfl rfl ((by first | exact POp.lenM rfl rfl rfl | exact POp.lenA rfl rfl rfl | exact POp.lenV rfl rfl rfl | exact POp.len' rfl rfl rfl)) ?_
  refine OL.popC rfl rfl rfl (POp.move rfl rfl rfl) ?_
  refine OL.nil ?_
  refine Done.seq ?_
  refine CW.block ?_
  refine CW.loopJ (fun m st => ∃ i : Nat, st = ⟨[(9, .i i), (8, .i l.length), (7, AV.ints l), (2, .ptr (Wcells W)), (1, AV.ints l)], H⟩ ∧ m = l.length - i ∧ i ≤ l.length ∧ (l.take i).all (slotP W) = true) ⟨_, _, ⟨0, rfl, rfl, by omega, rfl⟩, (by repeat (first | exact trivial | refine ⟨rfl, ?_⟩)), (by repeat (first | exact List.Sublist.refl _ | refine List.Sublist.cons _ ?_))⟩ ?_
  rintro m _ ⟨i, rfl, rfl, hi, hall⟩
  refine CW.seq ?_
  refine CW.region ?_
  refine OL.popC rfl rfl rfl (POp.cmp rfl rfl rfl rfl rfl rfl) ?_
  refine OL.nil ?_
  refine Done.seq ?_
  refine CW.seq ?_
  refine CW.cond rfl (fun h0 => ?_) (fun h0 => ?_)
  ·
    try simp only [decide_eq_true_eq, decide_eq_false_iff_not, beq_iff_eq, bne_iff_ne, ne_eq, Int.not_lt, Int.not_le, beq_eq_false_iff_ne, gt_iff_lt, ge_iff_le, Bool.not_eq_true, Bool.not_eq_false, Bool.not_eq_false', bne_eq_false_iff_eq] at h0
    refine CW.skip ?_
    refine Done.seq ?_
    refine CW.seq ?_
    refine CW.block ?_
    refine CW.seq ?_
    refine CW.region ?_
    refine OL.popC rfl rfl rfl ((by first | exact POp.ixM rfl rfl rfl rfl rfl (by omega) | exact POp.ixI rfl rfl rfl rfl rfl (by omega))) ?_
    refine OL.popC rfl rfl rfl ((by first | exact POp.ld1 rfl rfl rfl rfl | (apply POp.ld1H rfl rfl rfl; (case hm => repeat (first | exact .head _ | refine .tail _ ?_)); (case hy => rfl)))) ?_
    refine OL.popC rfl rfl rfl (POp.assign rfl rfl rfl) ?_
    refine OL.nil ?_
    refine Done.seq ?_
    refine CW.seq ?_
    refine CW.region ?_
    refine OL.popC rfl rfl rfl (POp.move rfl rfl rfl) ?_
    refine OL.popC rfl rfl rfl (POp.cmp rfl rfl rfl rfl rfl rfl) ?_
    refine OL.popC rfl rfl rfl (POp.move rfl rfl rfl) ?_
    refine OL.guardC rfl rfl rfl rfl rfl rfl (fun hg => POp.move rfl rfl rfl) ?_
    refine OL.guardC rfl rfl rfl rfl rfl rfl (fun hg => (by first | exact POp.fa rfl rfl rfl rfl | exact POp.faP rfl rfl rfl rfl)) ?_
    refine OL.guardC rfl rfl rfl rfl rfl rfl (fun hg => (by first | exact POp.ld1 rfl rfl (by first | rfl | exact hg | exact (Bool.and_eq_true_iff.1 hg).1 | exact (Bool.and_eq_true_iff.1 (Bool.and_eq_true_iff.1 hg).1).1 | simp_all) rfl | (apply POp.ld1H rfl rfl (by first | rfl | exact hg | exact (Bool.and_eq_true_iff.1 hg).1 | exact (Bool.and_eq_true_iff.1 (Bool.and_eq_true_iff.1 hg).1).1 | simp_all); (case hm => repeat (first | exact .head _ | refine .tail _ ?_)); (case hy => rfl)))) ?_
    refine OL.guardC rfl rfl rfl rfl rfl rfl (fun hg => (by first | exact POp.lenM rfl rfl (by first | rfl | exact hg | exact (Bool.and_eq_true_iff.1 hg).1 | exact (Bool.and_eq_true_iff.1 (Bool.and_eq_true_iff.1 hg).1).1 | simp_all) | exact POp.lenA rfl rfl (by first | rfl | exact hg | exact (Bool.and_eq_true_iff.1 hg).1 | exact (Bool.and_eq_true_iff.1 (Bool.and_eq_true_iff.1 hg).1).1 | simp_all) | exact POp.lenV rfl rfl (by first | rfl | exact hg | exact (Bool.and_eq_true_iff.1 hg).1 | exact (Bool.and_eq_true_iff.1 (Bool.and_eq_true_iff.1 hg).1).1 | simp_all) | exact POp.len' rfl rfl (by first | rfl | exact hg | exact (Bool.and_eq_true_iff.1 hg).1 | exact (Bool.and_eq_true_iff.1 (Bool.and_eq_true_iff.1 hg).1).1 | simp_all))) ?_
    refine OL.guardC rfl rfl rfl rfl rfl rfl (fun hg => POp.cmp rfl rfl rfl (by first | rfl | exact hg | exact (Bool.and_eq_true_iff.1 hg).1 | exact (Bool.and_eq_true_iff.1 (Bool.and_eq_true_iff.1 hg).1).1 | simp_all) (by first | rfl | exact hg | exact (Bool.and_eq_true_iff.1 hg).1 | exact (Bool.and_eq_true_iff.1 (Bool.and_eq_true_iff.1 hg).1).1 | simp_all) rfl) ?_
    refine OL.popC rfl rfl rfl (POp.pick rfl rfl rfl rfl rfl (fun _ => rfl) (by first | exact fun h => h | (intro h; rw [h]; rfl) | (intro h; simp_all))) ?_
    refine OL.nil ?_
    refine Done.seq ?_
    refine CW.cond rfl (fun h1 => ?_) (fun h1 => ?_)
    ·
      have hs : slotP W (l.getD i default) = false := by rw [bif_or] at h1; simp only [Bool.or_eq_true, decide_eq_true_eq] at h1; simp only [slotP, Bool.and_eq_false_iff, decide_eq_false_iff_not]; omega
      refine CW.seq ?_
      refine CW.region ?_
      refine OL.popC rfl rfl rfl (POp.assign rfl rfl rfl) ?_
      refine OL.nil ?_
      refine Done.seq ?_
      refine CW.ret ?_
      refine Done.blkRet ?_
      refine Done.thenRet ?_
      refine Done.thenRet ?_
      refine Done.blkRet ?_
      refine Done.thenRet ?_
      refine Done.retR (rs := [.tmp 4]) (H' := H) rfl (.tmp rfl (.nil)) (AVleL.refl _) (by repeat (first | exact List.Sublist.refl _ | refine List.Sublist.cons _ ?_)) ?_
      exact ⟨retB (by rw [pathP, path_no (by omega) hs, Bool.and_false]), rfl⟩
    ·
      have hs : slotP W (l.getD i default) = true := by rw [bif_or] at h1; simp only [Bool.or_eq_false_iff, decide_eq_false_iff_not] at h1; simp only [slotP, Bool.and_eq_true, decide_eq_true_eq]; omega
      refine CW.skip ?_
      refine Done.blkNormal ?_
      refine Done.seq ?_
      refine CW.region ?_
      refine OL.popC rfl rfl rfl (POp.arith rfl rfl rfl rfl rfl rfl (wrap64 (by omega))) ?_
      refine OL.popC rfl rfl rfl (POp.move rfl rfl rfl) ?_
      refine OL.nil ?_
      refine Done.againJ (⟨i + 1, rfl, rfl, by omega, by rw [← take_getD (by omega), List.all_append, hall]; simpa using hs⟩) ?_ ?_ ?_
      · omega
      · repeat (first | exact trivial | refine ⟨rfl, ?_⟩)
      · repeat (first | exact List.Sublist.refl _ | refine List.Sublist.cons _ ?_)
  ·
    try simp only [decide_eq_true_eq, decide_eq_false_iff_not, beq_iff_eq, bne_iff_ne, ne_eq, Int.not_lt, Int.not_le, beq_eq_false_iff_ne, gt_iff_lt, ge_iff_le, Bool.not_eq_true, Bool.not_eq_false, Bool.not_eq_false', bne_eq_false_iff_eq] at h0
    obtain rfl : i = l.length := by omega
    rw [List.take_length] at hall
    refine CW.exit ?_
    refine Done.thenExit ?_
    refine Done.thenExit ?_
    refine Done.blkExit ?_
    refine Done.seq ?_
    refine CW.seq ?_
    refine CW.region ?_
    refine OL.popC rfl rfl rfl (POp.move rfl rfl rfl) ?_
    refine OL.popC rfl rfl rfl ((by first | exact POp.lenM rfl rfl rfl | exact POp.lenA rfl rfl rfl | exact POp.lenV rfl rfl rfl | exact POp.len' rfl rfl rfl)) ?_
    refine OL.popC rfl rfl rfl (POp.cmp rfl rfl rfl rfl rfl rfl) ?_
    refine OL.popC rfl rfl rfl (POp.assign rfl rfl rfl) ?_
    refine OL.nil ?_
    refine Done.seq ?_
    refine CW.ret ?_
    refine Done.retR (rs := [.tmp 4]) (H' := H) rfl (.tmp rfl (.nil)) (AVleL.refl _) (by repeat (first | exact List.Sublist.refl _ | refine List.Sublist.cons _ ?_)) ?_
    exact ⟨retB (by rw [pathP, hall, Bool.and_true, Bool.eq_iff_iff, decide_eq_true_iff, decide_eq_true_iff]; omega), rfl⟩
def opOk (W : FW) (f : Fact) (kd : Int) : Prop := 1 ≤ f.op ∧ f.op ≤ 7 ∧ kd = kidsP f.op ∧ (leafP f = true → leafOkP W f = true)
theorem op_is {W : FW} {f : Fact} (h0 : f.op = 2) (h1 : (bif f.n != 0 then true else !classP W f.cls) = false) : opOk W f 0 := by
  rw [bif_or] at h1
  simp only [Bool.or_eq_false_iff, bne_eq_false_iff_eq, Bool.not_eq_false'] at h1
  exact ⟨by omega, by omega, by rw [h0]; rfl, fun _ => by simp [leafOkP, h0, h1]⟩
theorem op_isno {W : FW} {f : Fact} (h0 : f.op = 2) (h1 : (bif f.n != 0 then true else !classP W f.cls) = true) : nodeOkB W f = false := by
  rw [bif_or] at h1
  have h2 : ((f.n == 0) && classP W f.cls) = false := by
    simp only [Bool.or_eq_true, bne_iff_ne, Bool.not_eq_true'] at h1
    rw [Bool.and_eq_false_iff, beq_eq_false_iff_ne]; exact h1
  have hl : leafP f = true := by simp [leafP, h0]
  rw [nodeOkB, if_pos hl, leafOkP, if_pos h0, h2]; simp
theorem op_num {W : FW} {f : Fact} (h0 : f.op = 3 ∨ f.op = 4) (h1 : (bif bif f.cls != 0 then true else decide (f.n < -1000000000) then true else decide (1000000000 < f.n)) = false) : opOk W f 0 := by
  rw [bif_or, bif_or] at h1
  simp only [Bool.or_eq_false_iff, bne_eq_false_iff_eq, decide_eq_false_iff_not] at h1
  refine ⟨by omega, by omega, ?_, fun _ => ?_⟩
  · rcases h0 with e | e <;> rw [e] <;> rfl
  · rw [leafOkP, if_neg (by omega)]
    simp only [Bool.and_eq_true, beq_iff_eq, decide_eq_true_eq]; omega
theorem op_numno {W : FW} {f : Fact} (h0 : f.op = 3 ∨ f.op = 4) (h1 : (bif bif f.cls != 0 then true else decide (f.n < -1000000000) then true else decide (1000000000 < f.n)) = true) : nodeOkB W f = false := by
  rw [bif_or, bif_or] at h1
  simp only [Bool.or_eq_true, bne_iff_ne, decide_eq_true_eq] at h1
  have h2 : leafOkP W f = false := by
    rw [leafOkP, if_neg (by omega)]
    simp only [Bool.and_eq_false_iff, beq_eq_false_iff_ne, decide_eq_false_iff_not]; omega
  have hl : leafP f = true := by simp only [leafP, Bool.and_eq_true, decide_eq_true_eq]; omega
  rw [nodeOkB, if_pos hl, h2]; simp
theorem op_else {W : FW} {f : Fact} {kd : Int} (h : f.op = 1 ∨ f.op = 5 ∨ f.op = 6 ∨ f.op = 7) (hk : kd = kidsP f.op) : opOk W f kd := ⟨by omega, by omega, hk, fun hl => by simp only [leafP, Bool.and_eq_true, decide_eq_true_eq] at hl; omega⟩
theorem op_no {W : FW} {f : Fact} (h : f.op ≠ 1 ∧ f.op ≠ 2 ∧ f.op ≠ 3 ∧ f.op ≠ 4 ∧ f.op ≠ 5 ∧ f.op ≠ 6 ∧ f.op ≠ 7) : nodeOkB W f = false := by
  have : (decide (1 ≤ f.op) && decide (f.op ≤ 7)) = false := by simp only [Bool.and_eq_false_iff, decide_eq_false_iff_not]; omega
  rw [nodeOkB, this]; simp
theorem plain_arg {W : FW} {f : Fact} (h : plainP f = true) : argP W f = true := by
  simp only [plainP, Bool.not_eq_true', Bool.or_eq_false_iff, bne_eq_false_iff_eq, decide_eq_false_iff_not] at h
  have hp : f.path = [] := List.eq_nil_of_length_eq_zero (by omega)
  simp [argP, h.1.1.1, hp, pathP]
theorem node_val {W : FW} {f : Fact} {kd : Int} (h : opOk W f kd) : nodeOkB W f = ((f.kids.length : Int) == kd && argP W f && (leafP f || plainP f)) := by
  obtain ⟨h1, h2, rfl, h4⟩ := h
  rw [nodeOkB, decide_eq_true h1, decide_eq_true h2, Bool.true_and, Bool.true_and, Bool.and_assoc]
  congr 1
  by_cases hl : leafP f = true
  · rw [if_pos hl, h4 hl, hl]; simp
  · rw [if_neg hl, Bool.eq_false_iff.2 hl, Bool.false_or]
    cases hp : plainP f with
    | false => simp
    | true => rw [plain_arg hp]; rfl
theorem wf_no {W : FW} {f : Fact} (h : nodeOkB W f = false) : wfB W f = false := by
  cases hw : wfB W f with
  | false => rfl
  | true => rw [(wfB_iff.1 hw).1] at h; cases h
theorem wf_kid_no {W : FW} {f : Fact} {i : Nat} (hi : i < f.kids.length) (h : wfB W (f.kids.getD i default) = false) : wfB W f = false := by
  cases hw : wfB W f with
  | false => rfl
  | true => rw [(wfB_iff.1 hw).2 _ (getD_mem hi)] at h; cases h
theorem wf_yes {W : FW} {f : Fact} (h : nodeOkB W f = true) (hk : f.kids.all (wfB W) = true) : wfB W f = true := wfB_iff.2 ⟨h, List.all_eq_true.1 hk⟩
theorem leaf_eq {W : FW} {f : Fact} {kd : Int} (h : opOk W f kd) : (f.op == 2 || f.op == 3 || f.op == 4) = leafP f := by
  rw [leafP, Bool.eq_iff_iff]; simp only [Bool.or_eq_true, beq_iff_eq, Bool.and_eq_true, decide_eq_true_eq]; omega
theorem arg_bif {W : FW} {f : Fact} {kd : Int} : (bif bif bif (f.kids.length : Int) != kd then true else decide (f.arg < 0) then true else decide (3 ≤ f.arg) then true else !pathP W f.path) = !((f.kids.length : Int) == kd && argP W f) := by
  rw [bif_or, bif_or, bif_or, argP, bne]
  show (((_ || decide (f.arg < 0)) || decide (3 ≤ f.arg)) || _) = !(_ && !((decide (f.arg < 0) || decide (3 ≤ f.arg)) || _))
  generalize ((f.kids.length : Int) == kd) = a
  generalize decide (f.arg < 0) = b
  generalize decide (3 ≤ f.arg) = c
  generalize pathP W f.path = d
  cases a <;> cases b <;> cases c <;> cases d <;> rfl
theorem plain_bif {f : Fact} : (bif bif bif f.arg != 0 then true else decide (0 < (f.path.length : Int)) then true else f.cls != 0 then true else f.n != 0) = !plainP f := by
  rw [bif_or, bif_or, bif_or, plainP, Bool.not_not]
theorem node_bif {W : FW} {f : Fact} {kd : Int} (hop : opOk W f kd) (hna : ((f.kids.length : Int) == kd && argP W f) = true) : (bif !(f.op == 2 || f.op == 3 || f.op == 4) then bif bif bif f.arg != 0 then true else decide (0 < (f.path.length : Int)) then true else f.cls != 0 then true else f.n != 0 else false) = !nodeOkB W f := by
  rw [plain_bif, leaf_eq hop, node_val hop, hna]
  cases leafP f <;> cases plainP f <;> rfl
theorem p87_step {W : FW} (hW : W.parents.length ≤ 60) (f : Fact) (ih : ∀ k ∈ f.kids, PCall Tryz.prog 87 [AV.world W, AV.fact k] (.b (wfB W k))) : PCall Tryz.prog 87 [AV.world W, AV.fact f] (.b (wfB W f)) := by
  intro H
  refine ACall.mk' (n := 103) Tryz.func87 rfl (by kernel_rfl) rfl rfl (fun B I w0 => ?_)
  refine CW.boundA (t := 1) (i := 5) rfl rfl (fun hb0 => ?_)
  refine CW.boundA (t := 1) (i := 2) rfl rfl (fun hb1 => ?_)
  refine CW.seq ?_
  refine CW.region ?_
  refine OL.popC rfl rfl rfl (POp.boxI rfl rfl rfl rfl) ?_
  refine OL.popC rfl rfl rfl (POp.boxI rfl rfl rfl rfl) ?_
  refine OL.popC rfl rfl rfl (POp.assign rfl rfl rfl) ?_
  refine OL.nil ?_
  refine Done.seq ?_
  refine CW.seq ?_
  refine CW.region ?_
  refine OL.popC rfl rfl rfl (POp.assign rfl rfl rfl) ?_
  refine OL.nil ?_
  refine Done.seq ?_
  refine CW.cutJ (fun st => ∃ kd : Int, st = ⟨[(5, .i kd), (3, .ptr (Fcells f)), (2, .ptr (Wcells W))], H⟩ ∧ opOk W f kd) ?_ ?_
  ·
    refine CW.seq ?_
    refine CW.region ?_
    refine OL.popC rfl rfl rfl ((by first | exact POp.fa rfl rfl rfl rfl | exact POp.faP rfl rfl rfl rfl)) ?_
    refine OL.popC rfl rfl rfl ((by first | exact POp.ld1 rfl rfl rfl rfl | (apply POp.ld1H rfl rfl rfl; (case hm => repeat (first | exact .head _ | refine .tail _ ?_)); (case hy => rfl)))) ?_
    refine OL.nil ?_
    refine Done.seq ?_
    refine CW.block ?_
    refine CW.seq ?_
    refine CW.region ?_
    refine OL.popC rfl rfl rfl (POp.cmp rfl rfl rfl rfl rfl rfl) ?_
    refine OL.popC rfl rfl rfl (POp.assign rfl rfl rfl) ?_
    refine OL.nil ?_
    refine Done.seq ?_
    refine CW.cond rfl (fun h0 => ?_) (fun h0 => ?_)
    ·
      try simp only [decide_eq_true_eq, decide_eq_false_iff_not, beq_iff_eq, bne_iff_ne, ne_eq, Int.not_lt, Int.not_le, beq_eq_false_iff_ne, gt_iff_lt, ge_iff_le, Bool.not_eq_true, Bool.not_eq_false, Bool.not_eq_false', bne_eq_false_iff_eq] at h0
      refine CW.seq ?_
      refine CW.region ?_
      refine OL.popC rfl rfl rfl ((by first | exact POp.fa rfl rfl rfl rfl | exact POp.faP rfl rfl rfl rfl)) ?_
      refine OL.popC rfl rfl rfl ((by first | exact POp.ld1 rfl rfl rfl rfl | (apply POp.ld1H rfl rfl rfl; (case hm => repeat (first | exact .head _ | refine .tail _ ?_)); (case hy => rfl)))) ?_
      refine OL.popC rfl rfl rfl (POp.cmp rfl rfl rfl rfl rfl rfl) ?_
      refine OL.popC rfl rfl rfl (POp.move rfl rfl rfl) ?_
      refine OL.guardC rfl rfl rfl rfl rfl rfl (fun hg => (by first | exact POp.ldA rfl rfl rfl rfl | (apply POp.ldAH rfl rfl rfl; (case hm => repeat (first | exact .head _ | refine .tail _ ?_)); (case hy => rfl); (case hn => rfl)))) ?_
      refine OL.guardC rfl rfl rfl rfl rfl rfl (fun hg => (by first | exact POp.fa rfl rfl rfl rfl | exact POp.faP rfl rfl rfl rfl)) ?_
      refine OL.guardC rfl rfl rfl rfl rfl rfl (fun hg => (by first | exact POp.ld1 rfl rfl (by first | rfl | exact hg | exact (Bool.and_eq_true_iff.1 hg).1 | exact (Bool.and_eq_true_iff.1 (Bool.and_eq_true_iff.1 hg).1).1 | simp_all) rfl | (apply POp.ld1H rfl rfl (by first | rfl | exact hg | exact (Bool.and_eq_true_iff.1 hg).1 | exact (Bool.and_eq_true_iff.1 (Bool.and_eq_true_iff.1 hg).1).1 | simp_all); (case hm => repeat (first | exact .head _ | refine .tail _ ?_)); (case hy => rfl)))) ?_
      refine OL.guardC rfl rfl rfl rfl rfl rfl (fun hg => POp.call (.mk' rfl rfl rfl rfl (by simp_all [strip, constAV])) (p51 W _ hW)) ?_
      refine OL.guardC rfl rfl rfl rfl rfl rfl (fun hg => POp.not rfl rfl (by first | rfl | exact hg | exact (Bool.and_eq_true_iff.1 hg).1 | exact (Bool.and_eq_true_iff.1 (Bool.and_eq_true_iff.1 hg).1).1 | simp_all)) ?_
      refine OL.popC rfl rfl rfl (POp.pick rfl rfl rfl rfl rfl (fun _ => rfl) (by first | exact fun h => h | (intro h; rw [h]; rfl) | (intro h; simp_all))) ?_
      refine OL.nil ?_
      refine Done.seq ?_
      refine CW.cond rfl (fun h1 => ?_) (fun h1 => ?_)
      ·
        try simp only [decide_eq_true_eq, decide_eq_false_iff_not, beq_iff_eq, bne_iff_ne, ne_eq, Int.not_lt, Int.not_le, beq_eq_false_iff_ne, gt_iff_lt, ge_iff_le, Bool.not_eq_true, Bool.not_eq_false, Bool.not_eq_false', bne_eq_false_iff_eq] at h1
        refine CW.seq ?_
        refine CW.region ?_
        refine OL.popC rfl rfl rfl (POp.assign rfl rfl rfl) ?_
        refine OL.nil ?_
        refine Done.seq ?_
        refine CW.ret ?_
        refine Done.blkRet ?_
        refine Done.thenRet ?_
        refine Done.retR (rs := [.tmp 4]) (H' := H) rfl (.tmp rfl (.nil)) (AVleL.refl _) (by repeat (first | exact List.Sublist.refl _ | refine List.Sublist.cons _ ?_)) ?_
        exact ⟨retB (wf_no (op_isno h0 h1)).symm, rfl⟩
      ·
        try simp only [decide_eq_true_eq, decide_eq_false_iff_not, beq_iff_eq, bne_iff_ne, ne_eq, Int.not_lt, Int.not_le, beq_eq_false_iff_ne, gt_iff_lt, ge_iff_le, Bool.not_eq_true, Bool.not_eq_false, Bool.not_eq_false', bne_eq_false_iff_eq] at h1
        refine CW.skip ?_
        refine Done.blkNormal ?_
        exact Done.cutJ ⟨0, rfl, op_is h0 h1⟩ (by repeat (first | exact trivial | refine ⟨rfl, ?_⟩)) (by repeat (first | exact List.Sublist.refl _ | refine List.Sublist.cons _ ?_))
    ·
      try simp only [decide_eq_true_eq, decide_eq_false_iff_not, beq_iff_eq, bne_iff_ne, ne_eq, Int.not_lt, Int.not_le, beq_eq_false_iff_ne, gt_iff_lt, ge_iff_le, Bool.not_eq_true, Bool.not_eq_false, Bool.not_eq_false', bne_eq_false_iff_eq] at h0
      refine CW.seq ?_
      refine CW.seq ?_
      refine CW.region ?_
      refine OL.popC rfl rfl rfl (POp.cmp rfl rfl rfl rfl rfl rfl) ?_
      refine OL.popC rfl rfl rfl (POp.assign rfl rfl rfl) ?_
      refine OL.nil ?_
      refine Done.seq ?_
      refine CW.cond rfl (fun h2 => ?_) (fun h2 => ?_)
      ·
        try simp only [decide_eq_true_eq, decide_eq_false_iff_not, beq_iff_eq, bne_iff_ne, ne_eq, Int.not_lt, Int.not_le, beq_eq_false_iff_ne, gt_iff_lt, ge_iff_le, Bool.not_eq_true, Bool.not_eq_false, Bool.not_eq_false', bne_eq_false_iff_eq] at h2
        refine CW.skip ?_
        refine Done.seq ?_
        refine CW.cond rfl (fun h3 => ?_) (fun h3 => ?_)
        ·
          try simp only [decide_eq_true_eq, decide_eq_false_iff_not, beq_iff_eq, bne_iff_ne, ne_eq, Int.not_lt, Int.not_le, beq_eq_false_iff_ne, gt_iff_lt, ge_iff_le, Bool.not_eq_true, Bool.not_eq_false, Bool.not_eq_false', bne_eq_false_iff_eq] at h3
          refine CW.seq ?_
          refine CW.region ?_
          refine OL.popC rfl rfl rfl ((by first | exact POp.fa rfl rfl rfl rfl | exact POp.faP rfl rfl rfl rfl)) ?_
          refine OL.popC rfl rfl rfl ((by first | exact POp.ld1 rfl rfl rfl rfl | (apply POp.ld1H rfl rfl rfl; (case hm => repeat (first | exact .head _ | refine .tail _ ?_)); (case hy => rfl)))) ?_
          refine OL.popC rfl rfl rfl (POp.cmp rfl rfl rfl rfl rfl rfl) ?_
          refine OL.popC rfl rfl rfl (POp.move rfl rfl rfl) ?_
          refine OL.guardC rfl rfl rfl rfl rfl rfl (fun hg => (by first | exact POp.fa rfl rfl rfl rfl | exact POp.faP rfl rfl rfl rfl)) ?_
          refine OL.guardC rfl rfl rfl rfl rfl rfl (fun hg => (by first | exact POp.ld1 rfl rfl (by first | rfl | exact hg | exact (Bool.and_eq_true_iff.1 hg).1 | exact (Bool.and_eq_true_iff.1 (Bool.and_eq_true_iff.1 hg).1).1 | simp_all) rfl | (apply POp.ld1H rfl rfl (by first | rfl | exact hg | exact (Bool.and_eq_true_iff.1 hg).1 | exact (Bool.and_eq_true_iff.1 (Bool.and_eq_true_iff.1 hg).1).1 | simp_all); (case hm => repeat (first | exact .head _ | refine .tail _ ?_)); (case hy => rfl)))) ?_
          refine OL.guardC rfl rfl rfl rfl rfl rfl (fun hg => POp.cmp rfl rfl rfl (by first | rfl | exact hg | exact (Bool.and_eq_true_iff.1 hg).1 | exact (Bool.and_eq_true_iff.1 (Bool.and_eq_true_iff.1 hg).1).1 | simp_all) rfl rfl) ?_
          refine OL.popC rfl rfl rfl (POp.pick rfl rfl rfl rfl rfl (fun _ => rfl) (by first | exact fun h => h | (intro h; rw [h]; rfl) | (intro h; simp_all))) ?_
          refine OL.popC rfl rfl rfl (POp.move rfl rfl rfl) ?_
          refine OL.guardC rfl rfl rfl rfl rfl rfl (fun hg => (by first | exact POp.fa rfl rfl rfl rfl | exact POp.faP rfl rfl rfl rfl)) ?_
          refine OL.guardC rfl rfl rfl rfl rfl rfl (fun hg => (by first | exact POp.ld1 rfl rfl (by first | rfl | exact hg | exact (Bool.and_eq_true_iff.1 hg).1 | exact (Bool.and_eq_true_iff.1 (Bool.and_eq_true_iff.1 hg).1).1 | simp_all) rfl | (apply POp.ld1H rfl rfl (by first | rfl | exact hg | exact (Bool.and_eq_true_iff.1 hg).1 | exact (Bool.and_eq_true_iff.1 (Bool.and_eq_true_iff.1 hg).1).1 | simp_all); (case hm => repeat (first | exact .head _ | refine .tail _ ?_)); (case hy => rfl)))) ?_
          refine OL.guardC rfl rfl rfl rfl rfl rfl (fun hg => POp.cmp rfl rfl rfl (by first | rfl | exact hg | exact (Bool.and_eq_true_iff.1 hg).1 | exact (Bool.and_eq_true_iff.1 (Bool.and_eq_true_iff.1 hg).1).1 | simp_all) rfl rfl) ?_
          refine OL.popC rfl rfl rfl (POp.pick rfl rfl rfl rfl rfl (fun _ => rfl) (by first | exact fun h => h | (intro h; rw [h]; rfl) | (intro h; simp_all))) ?_
          refine OL.nil ?_
          refine Done.seq ?_
          refine CW.cond rfl (fun h4 => ?_) (fun h4 => ?_)
          ·
            try simp only [decide_eq_true_eq, decide_eq_false_iff_not, beq_iff_eq, bne_iff_ne, ne_eq, Int.not_lt, Int.not_le, beq_eq_false_iff_ne, gt_iff_lt, ge_iff_le, Bool.not_eq_true, Bool.not_eq_false, Bool.not_eq_false', bne_eq_false_iff_eq] at h4
            refine CW.seq ?_
            refine CW.region ?_
            refine OL.popC rfl rfl rfl (POp.assign rfl rfl rfl) ?_
            refine OL.nil ?_
            refine Done.seq ?_
            refine CW.ret ?_
            refine Done.blkRet ?_
            refine Done.thenRet ?_
            refine Done.retR (rs := [.tmp 4]) (H' := H) rfl (.tmp rfl (.nil)) (AVleL.refl _) (by repeat (first | exact List.Sublist.refl _ | refine List.Sublist.cons _ ?_)) ?_
            exact ⟨retB (wf_no (op_numno (.inl h2) h4)).symm, rfl⟩
          ·
            try simp only [decide_eq_true_eq, decide_eq_false_iff_not, beq_iff_eq, bne_iff_ne, ne_eq, Int.not_lt, Int.not_le, beq_eq_false_iff_ne, gt_iff_lt, ge_iff_le, Bool.not_eq_true, Bool.not_eq_false, Bool.not_eq_false', bne_eq_false_iff_eq] at h4
            refine CW.skip ?_
            refine Done.blkNormal ?_
            exact Done.cutJ ⟨0, rfl, op_num (.inl h2) h4⟩ (by repeat (first | exact trivial | refine ⟨rfl, ?_⟩)) (by repeat (first | exact List.Sublist.refl _ | refine List.Sublist.cons _ ?_))
        ·
          exact absurd h2 (by simpa using h3)
      ·
        try simp only [decide_eq_true_eq, decide_eq_false_iff_not, beq_iff_eq, bne_iff_ne, ne_eq, Int.not_lt, Int.not_le, beq_eq_false_iff_ne, gt_iff_lt, ge_iff_le, Bool.not_eq_true, Bool.not_eq_false, Bool.not_eq_false', bne_eq_false_iff_eq] at h2
        refine CW.region ?_
        refine OL.popC rfl rfl rfl (POp.cmp rfl rfl rfl rfl rfl rfl) ?_
        refine OL.popC rfl rfl rfl (POp.assign rfl rfl rfl) ?_
        refine OL.nil ?_
        refine Done.seq ?_
        refine CW.cond rfl (fun h5 => ?_) (fun h5 => ?_)
        ·
          try simp only [decide_eq_true_eq, decide_eq_false_iff_not, beq_iff_eq, bne_iff_ne, ne_eq, Int.not_lt, Int.not_le, beq_eq_false_iff_ne, gt_iff_lt, ge_iff_le, Bool.not_eq_true, Bool.not_eq_false, Bool.not_eq_false', bne_eq_false_iff_eq] at h5
          refine CW.seq ?_
          refine CW.region ?_
          refine OL.popC rfl rfl rfl ((by first | exact POp.fa rfl rfl rfl rfl | exact POp.faP rfl rfl rfl rfl)) ?_
          refine OL.popC rfl rfl rfl ((by first | exact POp.ld1 rfl rfl rfl rfl | (apply POp.ld1H rfl rfl rfl; (case hm => repeat (first | exact .head _ | refine .tail _ ?_)); (case hy => rfl)))) ?_
          refine OL.popC rfl rfl rfl (POp.cmp rfl rfl rfl rfl rfl rfl) ?_
          refine OL.popC rfl rfl rfl (POp.move rfl rfl rfl) ?_
          refine OL.guardC rfl rfl rfl rfl rfl rfl (fun hg => (by first | exact POp.fa rfl rfl rfl rfl | exact POp.faP rfl rfl rfl rfl)) ?_
          refine OL.guardC rfl rfl rfl rfl rfl rfl (fun hg => (by first | exact POp.ld1 rfl rfl (by first | rfl | exact hg | exact (Bool.and_eq_true_iff.1 hg).1 | exact (Bool.and_eq_true_iff.1 (Bool.and_eq_true_iff.1 hg).1).1 | simp_all) rfl | (apply POp.ld1H rfl rfl (by first | rfl | exact hg | exact (Bool.and_eq_true_iff.1 hg).1 | exact (Bool.and_eq_true_iff.1 (Bool.and_eq_true_iff.1 hg).1).1 | simp_all); (case hm => repeat (first | exact .head _ | refine .tail _ ?_)); (case hy => rfl)))) ?_
          refine OL.guardC rfl rfl rfl rfl rfl rfl (fun hg => POp.cmp rfl rfl rfl (by first | rfl | exact hg | exact (Bool.and_eq_true_iff.1 hg).1 | exact (Bool.and_eq_true_iff.1 (Bool.and_eq_true_iff.1 hg).1).1 | simp_all) rfl rfl) ?_
          refine OL.popC rfl rfl rfl (POp.pick rfl rfl rfl rfl rfl (fun _ => rfl) (by first | exact fun h => h | (intro h; rw [h]; rfl) | (intro h; simp_all))) ?_
          refine OL.popC rfl rfl rfl (POp.move rfl rfl rfl) ?_
          refine OL.guardC rfl rfl rfl rfl rfl rfl (fun hg => (by first | exact POp.fa rfl rfl rfl rfl | exact POp.faP rfl rfl rfl rfl)) ?_
          refine OL.guardC rfl rfl rfl rfl rfl rfl (fun hg => (by first | exact POp.ld1 rfl rfl (by first | rfl | exact hg | exact (Bool.and_eq_true_iff.1 hg).1 | exact (Bool.and_eq_true_iff.1 (Bool.and_eq_true_iff.1 hg).1).1 | simp_all) rfl | (apply POp.ld1H rfl rfl (by first | rfl | exact hg | exact (Bool.and_eq_true_iff.1 hg).1 | exact (Bool.and_eq_true_iff.1 (Bool.and_eq_true_iff.1 hg).1).1 | simp_all); (case hm => repeat (first | exact .head _ | refine .tail _ ?_)); (case hy => rfl)))) ?_
          refine OL.guardC rfl rfl rfl rfl rfl rfl (fun hg => POp.cmp rfl rfl rfl (by first | rfl | exact hg | exact (Bool.and_eq_true_iff.1 hg).1 | exact (Bool.and_eq_true_iff.1 (Bool.and_eq_true_iff.1 hg).1).1 | simp_all) rfl rfl) ?_
          refine OL.popC rfl rfl rfl (POp.pick rfl rfl rfl rfl rfl (fun _ => rfl) (by first | exact fun h => h | (intro h; rw [h]; rfl) | (intro h; simp_all))) ?_
          refine OL.nil ?_
          refine Done.seq ?_
          refine CW.cond rfl (fun h6 => ?_) (fun h6 => ?_)
          ·
            try simp only [decide_eq_true_eq, decide_eq_false_iff_not, beq_iff_eq, bne_iff_ne, ne_eq, Int.not_lt, Int.not_le, beq_eq_false_iff_ne, gt_iff_lt, ge_iff_le, Bool.not_eq_true, Bool.not_eq_false, Bool.not_eq_false', bne_eq_false_iff_eq] at h6
            refine CW.seq ?_
            refine CW.region ?_
            refine OL.popC rfl rfl rfl (POp.assign rfl rfl rfl) ?_
            refine OL.nil ?_
            refine Done.seq ?_
            refine CW.ret ?_
            refine Done.blkRet ?_
            refine Done.thenRet ?_
            refine Done.retR (rs := [.tmp 4]) (H' := H) rfl (.tmp rfl (.nil)) (AVleL.refl _) (by repeat (first | exact List.Sublist.refl _ | refine List.Sublist.cons _ ?_)) ?_
            exact ⟨retB (wf_no (op_numno (.inr h5) h6)).symm, rfl⟩
          ·
            try simp only [decide_eq_true_eq, decide_eq_false_iff_not, beq_iff_eq, bne_iff_ne, ne_eq, Int.not_lt, Int.not_le, beq_eq_false_iff_ne, gt_iff_lt, ge_iff_le, Bool.not_eq_true, Bool.not_eq_false, Bool.not_eq_false', bne_eq_false_iff_eq] at h6
            refine CW.skip ?_
            refine Done.blkNormal ?_
            exact Done.cutJ ⟨0, rfl, op_num (.inr h5) h6⟩ (by repeat (first | exact trivial | refine ⟨rfl, ?_⟩)) (by repeat (first | exact List.Sublist.refl _ | refine List.Sublist.cons _ ?_))
        ·
          try simp only [decide_eq_true_eq, decide_eq_false_iff_not, beq_iff_eq, bne_iff_ne, ne_eq, Int.not_lt, Int.not_le, beq_eq_false_iff_ne, gt_iff_lt, ge_iff_le, Bool.not_eq_true, Bool.not_eq_false, Bool.not_eq_false', bne_eq_false_iff_eq] at h5
          refine CW.seq ?_
          refine CW.region ?_
          refine OL.popC rfl rfl rfl (POp.cmp rfl rfl rfl rfl rfl rfl) ?_
          refine OL.popC rfl rfl rfl (POp.assign rfl rfl rfl) ?_
          refine OL.nil ?_
          refine Done.seq ?_
          refine CW.cond rfl (fun h7 => ?_) (fun h7 => ?_)
          ·
            try simp only [decide_eq_true_eq, decide_eq_false_iff_not, beq_iff_eq, bne_iff_ne, ne_eq, Int.not_lt, Int.not_le, beq_eq_false_iff_ne, gt_iff_lt, ge_iff_le, Bool.not_eq_true, Bool.not_eq_false, Bool.not_eq_false', bne_eq_false_iff_eq] at h7
            refine CW.skip ?_
            refine Done.blkNormal ?_
            exact Done.cutJ ⟨0, rfl, op_else (by omega) (by rw [h7]; rfl)⟩ (by repeat (first | exact trivial | refine ⟨rfl, ?_⟩)) (by repeat (first | exact List.Sublist.refl _ | refine List.Sublist.cons _ ?_))
          ·
            try simp only [decide_eq_true_eq, decide_eq_false_iff_not, beq_iff_eq, bne_iff_ne, ne_eq, Int.not_lt, Int.not_le, beq_eq_false_iff_ne, gt_iff_lt, ge_iff_le, Bool.not_eq_true, Bool.not_eq_false, Bool.not_eq_false', bne_eq_false_iff_eq] at h7
            refine CW.seq ?_
            refine CW.region ?_
            refine OL.popC rfl rfl rfl (POp.cmp rfl rfl rfl rfl rfl rfl) ?_
            refine OL.popC rfl rfl rfl (POp.assign rfl rfl rfl) ?_
            refine OL.nil ?_
            refine Done.seq ?_
            refine CW.cond rfl (fun h8 => ?_) (fun h8 => ?_)
            ·
              try simp only [decide_eq_true_eq, decide_eq_false_iff_not, beq_iff_eq, bne_iff_ne, ne_eq, Int.not_lt, Int.not_le, beq_eq_false_iff_ne, gt_iff_lt, ge_iff_le, Bool.not_eq_true, Bool.not_eq_false, Bool.not_eq_false', bne_eq_false_iff_eq] at h8
              refine CW.region ?_
              refine OL.popC rfl rfl rfl (POp.assign rfl rfl rfl) ?_
              refine OL.nil ?_
              refine Done.blkNormal ?_
              exact Done.cutJ ⟨1, rfl, op_else (by omega) (by rw [h8]; rfl)⟩ (by repeat (first | exact trivial | refine ⟨rfl, ?_⟩)) (by repeat (first | exact List.Sublist.refl _ | refine List.Sublist.cons _ ?_))
            ·
              try simp only [decide_eq_true_eq, decide_eq_false_iff_not, beq_iff_eq, bne_iff_ne, ne_eq, Int.not_lt, Int.not_le, beq_eq_false_iff_ne, gt_iff_lt, ge_iff_le, Bool.not_eq_true, Bool.not_eq_false, Bool.not_eq_false', bne_eq_false_iff_eq] at h8
              refine CW.seq ?_
              refine CW.seq ?_
              refine CW.region ?_
              refine OL.popC rfl rfl rfl (POp.cmp rfl rfl rfl rfl rfl rfl) ?_
              refine OL.popC rfl rfl rfl (POp.assign rfl rfl rfl) ?_
              refine OL.nil ?_
              refine Done.seq ?_
              refine CW.cond rfl (fun h9 => ?_) (fun h9 => ?_)
              ·
                try simp only [decide_eq_true_eq, decide_eq_false_iff_not, beq_iff_eq, bne_iff_ne, ne_eq, Int.not_lt, Int.not_le, beq_eq_false_iff_ne, gt_iff_lt, ge_iff_le, Bool.not_eq_true, Bool.not_eq_false, Bool.not_eq_false', bne_eq_false_iff_eq] at h9
                refine CW.skip ?_
                refine Done.seq ?_
                refine CW.cond rfl (fun h10 => ?_) (fun h10 => ?_)
                ·
                  try simp only [decide_eq_true_eq, decide_eq_false_iff_not, beq_iff_eq, bne_iff_ne, ne_eq, Int.not_lt, Int.not_le, beq_eq_false_iff_ne, gt_iff_lt, ge_iff_le, Bool.not_eq_true, Bool.not_eq_false, Bool.not_eq_false', bne_eq_false_iff_eq] at h10
                  refine CW.region ?_
                  refine OL.popC rfl rfl rfl (POp.assign rfl rfl rfl) ?_
                  refine OL.nil ?_
                  refine Done.blkNormal ?_
                  exact Done.cutJ ⟨2, rfl, op_else (by omega) (by rw [h9]; rfl)⟩ (by repeat (first | exact trivial | refine ⟨rfl, ?_⟩)) (by repeat (first | exact List.Sublist.refl _ | refine List.Sublist.cons _ ?_))
                ·
                  exact absurd h9 (by simpa using h10)
              ·
                try simp only [decide_eq_true_eq, decide_eq_false_iff_not, beq_iff_eq, bne_iff_ne, ne_eq, Int.not_lt, Int.not_le, beq_eq_false_iff_ne, gt_iff_lt, ge_iff_le, Bool.not_eq_true, Bool.not_eq_false, Bool.not_eq_false', bne_eq_false_iff_eq] at h9
                refine CW.region ?_
                refine OL.popC rfl rfl rfl (POp.cmp rfl rfl rfl rfl rfl rfl) ?_
                refine OL.popC rfl rfl rfl (POp.assign rfl rfl rfl) ?_
                refine OL.nil ?_
                refine Done.seq ?_
                refine CW.cond rfl (fun h11 => ?_) (fun h11 => ?_)
                ·
                  try simp only [decide_eq_true_eq, decide_eq_false_iff_not, beq_iff_eq, bne_iff_ne, ne_eq, Int.not_lt, Int.not_le, beq_eq_false_iff_ne, gt_iff_lt, ge_iff_le, Bool.not_eq_true, Bool.not_eq_false, Bool.not_eq_false', bne_eq_false_iff_eq] at h11
                  refine CW.region ?_
                  refine OL.popC rfl rfl rfl (POp.assign rfl rfl rfl) ?_
                  refine OL.nil ?_
                  refine Done.blkNormal ?_
                  exact Done.cutJ ⟨2, rfl, op_else (by omega) (by rw [h11]; rfl)⟩ (by repeat (first | exact trivial | refine ⟨rfl, ?_⟩)) (by repeat (first | exact List.Sublist.refl _ | refine List.Sublist.cons _ ?_))
                ·
                  try simp only [decide_eq_true_eq, decide_eq_false_iff_not, beq_iff_eq, bne_iff_ne, ne_eq, Int.not_lt, Int.not_le, beq_eq_false_iff_ne, gt_iff_lt, ge_iff_le, Bool.not_eq_true, Bool.not_eq_false, Bool.not_eq_false', bne_eq_false_iff_eq] at h11
                  refine CW.seq ?_
                  refine CW.region ?_
                  refine OL.popC rfl rfl rfl (POp.assign rfl rfl rfl) ?_
                  refine OL.nil ?_
                  refine Done.seq ?_
                  refine CW.ret ?_
                  refine Done.blkRet ?_
                  refine Done.thenRet ?_
                  refine Done.retR (rs := [.tmp 4]) (H' := H) rfl (.tmp rfl (.nil)) (AVleL.refl _) (by repeat (first | exact List.Sublist.refl _ | refine List.Sublist.cons _ ?_)) ?_
                  exact ⟨retB (wf_no (op_no (by omega))).symm, rfl⟩
  ·
    rintro _ ⟨kd, rfl, hop⟩
    refine CW.seq ?_
    refine CW.seq ?_
    refine CW.region ?_
    refine OL.popC rfl rfl rfl ((by first | exact POp.fa rfl rfl rfl rfl | exact POp.faP rfl rfl rfl rfl)) ?_
    refine OL.popC rfl rfl rfl ((by first | exact POp.ld1 rfl rfl rfl rfl | (apply POp.ld1H rfl rfl rfl; (case hm => repeat (first | exact .head _ | refine .tail _ ?_)); (case hy => rfl)))) ?_
    refine OL.popC rfl rfl rfl ((by first | exact POp.lenM rfl rfl rfl | exact POp.lenA rfl rfl rfl | exact POp.lenV rfl rfl rfl | exact POp.len' rfl rfl rfl)) ?_
    refine OL.popC rfl rfl rfl (POp.move rfl rfl rfl) ?_
    refine OL.popC rfl rfl rfl (POp.cmp rfl rfl rfl rfl rfl rfl) ?_
    refine OL.popC rfl rfl rfl (POp.move rfl rfl rfl) ?_
    refine OL.guardC rfl rfl rfl rfl rfl rfl (fun hg => (by first | exact POp.fa rfl rfl rfl rfl | exact POp.faP rfl rfl rfl rfl)) ?_
    refine OL.guardC rfl rfl rfl rfl rfl rfl (fun hg => (by first | exact POp.ld1 rfl rfl (by first | rfl | exact hg | exact (Bool.and_eq_true_iff.1 hg).1 | exact (Bool.and_eq_true_iff.1 (Bool.and_eq_true_iff.1 hg).1).1 | simp_all) rfl | (apply POp.ld1H rfl rfl (by first | rfl | exact hg | exact (Bool.and_eq_true_iff.1 hg).1 | exact (Bool.and_eq_true_iff.1 (Bool.and_eq_true_iff.1 hg).1).1 | simp_all); (case hm => repeat (first | exact .head _ | refine .tail _ ?_)); (case hy => rfl)))) ?_
    refine OL.guardC rfl rfl rfl rfl rfl rfl (fun hg => POp.cmp rfl rfl rfl (by first | rfl | exact hg | exact (Bool.and_eq_true_iff.1 hg).1 | exact (Bool.and_eq_true_iff.1 (Bool.and_eq_true_iff.1 hg).1).1 | simp_all) rfl rfl) ?_
    refine OL.popC rfl rfl rfl (POp.pick rfl rfl rfl rfl rfl (fun _ => rfl) (by first | exact fun h => h | (intro h; rw [h]; rfl) | (intro h; simp_all))) ?_
    refine OL.popC rfl rfl rfl (POp.move rfl rfl rfl) ?_
    refine OL.guardC rfl rfl rfl rfl rfl rfl (fun hg => (by first | exact POp.fa rfl rfl rfl rfl | exact POp.faP rfl rfl rfl rfl)) ?_
    refine OL.guardC rfl rfl rfl rfl rfl rfl (fun hg => (by first | exact POp.ld1 rfl rfl (by first | rfl | exact hg | exact (Bool.and_eq_true_iff.1 hg).1 | exact (Bool.and_eq_true_iff.1 (Bool.and_eq_true_iff.1 hg).1).1 | simp_all) rfl | (apply POp.ld1H rfl rfl (by first | rfl | exact hg | exact (Bool.and_eq_true_iff.1 hg).1 | exact (Bool.and_eq_true_iff.1 (Bool.and_eq_true_iff.1 hg).1).1 | simp_all); (case hm => repeat (first | exact .head _ | refine .tail _ ?_)); (case hy => rfl)))) ?_
    refine OL.guardC rfl rfl rfl rfl rfl rfl (fun hg => POp.cmp rfl rfl rfl (by first | rfl | exact hg | exact (Bool.and_eq_true_iff.1 hg).1 | exact (Bool.and_eq_true_iff.1 (Bool.and_eq_true_iff.1 hg).1).1 | simp_all) rfl rfl) ?_
    refine OL.popC rfl rfl rfl (POp.pick rfl rfl rfl rfl rfl (fun _ => rfl) (by first | exact fun h => h | (intro h; rw [h]; rfl) | (intro h; simp_all))) ?_
    refine OL.popC rfl rfl rfl (POp.move rfl rfl rfl) ?_
    refine OL.guardC rfl rfl rfl rfl rfl rfl (fun hg => (by first | exact POp.ldA rfl rfl rfl rfl | (apply POp.ldAH rfl rfl rfl; (case hm => repeat (first | exact .head _ | refine .tail _ ?_)); (case hy => rfl); (case hn => rfl)))) ?_
    refine OL.guardC rfl rfl rfl rfl rfl rfl (fun hg => (by first | exact POp.fa rfl rfl rfl rfl | exact POp.faP rfl rfl rfl rfl)) ?_
    refine OL.guardC rfl rfl rfl rfl rfl rfl (fun hg => (by first | exact POp.ld1 rfl rfl (by first | rfl | exact hg | exact (Bool.and_eq_true_iff.1 hg).1 | exact (Bool.and_eq_true_iff.1 (Bool.and_eq_true_iff.1 hg).1).1 | simp_all) rfl | (apply POp.ld1H rfl rfl (by first | rfl | exact hg | exact (Bool.and_eq_true_iff.1 hg).1 | exact (Bool.and_eq_true_iff.1 (Bool.and_eq_true_iff.1 hg).1).1 | simp_all); (case hm => repeat (first | exact .head _ | refine .tail _ ?_)); (case hy => rfl)))) ?_
    refine OL.guardC rfl rfl rfl rfl rfl rfl (fun hg => POp.call (.mk' rfl rfl rfl rfl (by simp_all [strip, constAV])) (p72 W f.path)) ?_
    refine OL.guardC rfl rfl rfl rfl rfl rfl (fun hg => POp.not rfl rfl (by first | rfl | exact hg | exact (Bool.and_eq_true_iff.1 hg).1 | exact (Bool.and_eq_true_iff.1 (Bool.and_eq_true_iff.1 hg).1).1 | simp_all)) ?_
    refine OL.popC rfl rfl rfl (POp.pick rfl rfl rfl rfl rfl (fun _ => rfl) (by first | exact fun h => h | (intro h; rw [h]; rfl) | (intro h; simp_all))) ?_
    refine OL.nil ?_
    refine Done.seq ?_
    refine CW.cond rfl (fun h12 => ?_) (fun h12 => ?_)
    ·
      try simp only [decide_eq_true_eq, decide_eq_false_iff_not, beq_iff_eq, bne_iff_ne, ne_eq, Int.not_lt, Int.not_le, beq_eq_false_iff_ne, gt_iff_lt, ge_iff_le, Bool.not_eq_true, Bool.not_eq_false, Bool.not_eq_false', bne_eq_false_iff_eq] at h12
      refine CW.seq ?_
      refine CW.region ?_
      refine OL.popC rfl rfl rfl (POp.assign rfl rfl rfl) ?_
      refine OL.nil ?_
      refine Done.seq ?_
      refine CW.ret ?_
      refine Done.thenRet ?_
      refine Done.retR (rs := [.tmp 4]) (H' := H) rfl (.tmp rfl (.nil)) (AVleL.refl _) (by repeat (first | exact List.Sublist.refl _ | refine List.Sublist.cons _ ?_)) ?_
      exact ⟨retB (by rw [arg_bif] at h12; exact (wf_no (by rw [node_val hop]; simp only [Bool.not_eq_true'] at h12; rw [h12]; rfl)).symm), rfl⟩
    ·
      try simp only [decide_eq_true_eq, decide_eq_false_iff_not, beq_iff_eq, bne_iff_ne, ne_eq, Int.not_lt, Int.not_le, beq_eq_false_iff_ne, gt_iff_lt, ge_iff_le, Bool.not_eq_true, Bool.not_eq_false, Bool.not_eq_false', bne_eq_false_iff_eq] at h12
      have hna : ((f.kids.length : Int) == kd && argP W f) = true := by rw [arg_bif] at h12; simpa using h12
      refine CW.skip ?_
      refine Done.seq ?_
      refine CW.seq ?_
      refine CW.seq ?_
      refine CW.region ?_
      refine OL.popC rfl rfl rfl ((by first | exact POp.ldA rfl rfl rfl rfl | (apply POp.ldAH rfl rfl rfl; (case hm => repeat (first | exact .head _ | refine .tail _ ?_)); (case hy => rfl); (case hn => rfl)))) ?_
      refine OL.popC rfl rfl rfl (POp.call (.mk' rfl rfl rfl rfl rfl) (p125 f)) ?_
      refine OL.popC rfl rfl rfl (POp.not rfl rfl rfl) ?_
      refine OL.popC rfl rfl rfl (POp.move rfl rfl rfl) ?_
      refine OL.guardC rfl rfl rfl rfl rfl rfl (fun hg => (by first | exact POp.fa rfl rfl rfl rfl | exact POp.faP rfl rfl rfl rfl)) ?_
      refine OL.guardC rfl rfl rfl rfl rfl rfl (fun hg => (by first | exact POp.ld1 rfl rfl (by first | rfl | exact hg | exact (Bool.and_eq_true_iff.1 hg).1 | exact (Bool.and_eq_true_iff.1 (Bool.and_eq_true_iff.1 hg).1).1 | simp_all) rfl | (apply POp.ld1H rfl rfl (by first | rfl | exact hg | exact (Bool.and_eq_true_iff.1 hg).1 | exact (Bool.and_eq_true_iff.1 (Bool.and_eq_true_iff.1 hg).1).1 | simp_all); (case hm => repeat (first | exact .head _ | refine .tail _ ?_)); (case hy => rfl)))) ?_
      refine OL.guardC rfl rfl rfl rfl rfl rfl (fun hg => POp.cmp rfl rfl rfl (by first | rfl | exact hg | exact (Bool.and_eq_true_iff.1 hg).1 | exact (Bool.and_eq_true_iff.1 (Bool.and_eq_true_iff.1 hg).1).1 | simp_all) rfl rfl) ?_
      refine OL.guardC rfl rfl rfl rfl rfl rfl (fun hg => POp.move rfl rfl (by first | rfl | exact hg | exact (Bool.and_eq_true_iff.1 hg).1 | exact (Bool.and_eq_true_iff.1 (Bool.and_eq_true_iff.1 hg).1).1 | simp_all)) ?_
      refine OL.guardC rfl rfl rfl rfl rfl rfl (fun hg => (by first | exact POp.fa rfl rfl rfl rfl | exact POp.faP rfl rfl rfl rfl)) ?_
      refine OL.guardC rfl rfl rfl rfl rfl rfl (fun hg => (by first | exact POp.ld1 rfl rfl (by first | rfl | exact hg | exact (Bool.and_eq_true_iff.1 hg).1 | exact (Bool.and_eq_true_iff.1 (Bool.and_eq_true_iff.1 hg).1).1 | simp_all) rfl | (apply POp.ld1H rfl rfl (by first | rfl | exact hg | exact (Bool.and_eq_true_iff.1 hg).1 | exact (Bool.and_eq_true_iff.1 (Bool.and_eq_true_iff.1 hg).1).1 | simp_all); (case hm => repeat (first | exact .head _ | refine .tail _ ?_)); (case hy => rfl)))) ?_
      refine OL.guardC rfl rfl rfl rfl rfl rfl (fun hg => (by first | exact POp.lenM rfl rfl (by first | rfl | exact hg | exact (Bool.and_eq_true_iff.1 hg).1 | exact (Bool.and_eq_true_iff.1 (Bool.and_eq_true_iff.1 hg).1).1 | simp_all) | exact POp.lenA rfl rfl (by first | rfl | exact hg | exact (Bool.and_eq_true_iff.1 hg).1 | exact (Bool.and_eq_true_iff.1 (Bool.and_eq_true_iff.1 hg).1).1 | simp_all) | exact POp.lenV rfl rfl (by first | rfl | exact hg | exact (Bool.and_eq_true_iff.1 hg).1 | exact (Bool.and_eq_true_iff.1 (Bool.and_eq_true_iff.1 hg).1).1 | simp_all) | exact POp.len' rfl rfl (by first | rfl | exact hg | exact (Bool.and_eq_true_iff.1 hg).1 | exact (Bool.and_eq_true_iff.1 (Bool.and_eq_true_iff.1 hg).1).1 | simp_all))) ?_
      refine OL.guardC rfl rfl rfl rfl rfl rfl (fun hg => POp.cmp rfl rfl rfl (by first | rfl | exact hg | exact (Bool.and_eq_true_iff.1 hg).1 | exact (Bool.and_eq_true_iff.1 (Bool.and_eq_true_iff.1 hg).1).1 | simp_all) rfl rfl) ?_
      refine OL.guardC rfl rfl rfl rfl rfl rfl (fun hg => POp.pick rfl rfl (by first | rfl | exact hg | exact (Bool.and_eq_true_iff.1 hg).1 | exact (Bool.and_eq_true_iff.1 (Bool.and_eq_true_iff.1 hg).1).1 | simp_all) rfl rfl (fun _ => rfl) (by first | exact fun h => h | (intro h; rw [h]; rfl) | (intro h; simp_all))) ?_
      refine OL.guardC rfl rfl rfl rfl rfl rfl (fun hg => POp.move rfl rfl (by first | rfl | exact hg | exact (Bool.and_eq_true_iff.1 hg).1 | exact (Bool.and_eq_true_iff.1 (Bool.and_eq_true_iff.1 hg).1).1 | simp_all)) ?_
      refine OL.guardC rfl rfl rfl rfl rfl rfl (fun hg => (by first | exact POp.fa rfl rfl rfl rfl | exact POp.faP rfl rfl rfl rfl)) ?_
      refine OL.guardC rfl rfl rfl rfl rfl rfl (fun hg => (by first | exact POp.ld1 rfl rfl (by first | rfl | exact hg | exact (Bool.and_eq_true_iff.1 hg).1 | exact (Bool.and_eq_true_iff.1 (Bool.and_eq_true_iff.1 hg).1).1 | simp_all) rfl | (apply POp.ld1H rfl rfl (by first | rfl | exact hg | exact (Bool.and_eq_true_iff.1 hg).1 | exact (Bool.and_eq_true_iff.1 (Bool.and_eq_true_iff.1 hg).1).1 | simp_all); (case hm => repeat (first | exact .head _ | refine .tail _ ?_)); (case hy => rfl)))) ?_
      refine OL.guardC rfl rfl rfl rfl rfl rfl (fun hg => POp.cmp rfl rfl rfl (by first | rfl | exact hg | exact (Bool.and_eq_true_iff.1 hg).1 | exact (Bool.and_eq_true_iff.1 (Bool.and_eq_true_iff.1 hg).1).1 | simp_all) rfl rfl) ?_
      refine OL.guardC rfl rfl rfl rfl rfl rfl (fun hg => POp.pick rfl rfl (by first | rfl | exact hg | exact (Bool.and_eq_true_iff.1 hg).1 | exact (Bool.and_eq_true_iff.1 (Bool.and_eq_true_iff.1 hg).1).1 | simp_all) rfl rfl (fun _ => rfl) (by first | exact fun h => h | (intro h; rw [h]; rfl) | (intro h; simp_all))) ?_
      refine OL.guardC rfl rfl rfl rfl rfl rfl (fun hg => POp.move rfl rfl (by first | rfl | exact hg | exact (Bool.and_eq_true_iff.1 hg).1 | exact (Bool.and_eq_true_iff.1 (Bool.and_eq_true_iff.1 hg).1).1 | simp_all)) ?_
      refine OL.guardC rfl rfl rfl rfl rfl rfl (fun hg => (by first | exact POp.fa rfl rfl rfl rfl | exact POp.faP rfl rfl rfl rfl)) ?_
      refine OL.guardC rfl rfl rfl rfl rfl rfl (fun hg => (by first | exact POp.ld1 rfl rfl (by first | rfl | exact hg | exact (Bool.and_eq_true_iff.1 hg).1 | exact (Bool.and_eq_true_iff.1 (Bool.and_eq_true_iff.1 hg).1).1 | simp_all) rfl | (apply POp.ld1H rfl rfl (by first | rfl | exact hg | exact (Bool.and_eq_true_iff.1 hg).1 | exact (Bool.and_eq_true_iff.1 (Bool.and_eq_true_iff.1 hg).1).1 | simp_all); (case hm => repeat (first | exact .head _ | refine .tail _ ?_)); (case hy => rfl)))) ?_
      refine OL.guardC rfl rfl rfl rfl rfl rfl (fun hg => POp.cmp rfl rfl rfl (by first | rfl | exact hg | exact (Bool.and_eq_true_iff.1 hg).1 | exact (Bool.and_eq_true_iff.1 (Bool.and_eq_true_iff.1 hg).1).1 | simp_all) rfl rfl) ?_
      refine OL.guardC rfl rfl rfl rfl rfl rfl (fun hg => POp.pick rfl rfl (by first | rfl | exact hg | exact (Bool.and_eq_true_iff.1 hg).1 | exact (Bool.and_eq_true_iff.1 (Bool.and_eq_true_iff.1 hg).1).1 | simp_all) rfl rfl (fun _ => rfl) (by first | exact fun h => h | (intro h; rw [h]; rfl) | (intro h; simp_all))) ?_
      refine OL.popC rfl rfl rfl (POp.pick rfl rfl rfl rfl rfl (by first | exact fun h => h | (intro h; rw [h]; rfl) | (intro h; simp_all)) (fun _ => rfl)) ?_
      refine OL.nil ?_
      refine Done.seq ?_
      refine CW.cond rfl (fun h13 => ?_) (fun h13 => ?_)
      ·
        try simp only [decide_eq_true_eq, decide_eq_false_iff_not, beq_iff_eq, bne_iff_ne, ne_eq, Int.not_lt, Int.not_le, beq_eq_false_iff_ne, gt_iff_lt, ge_iff_le, Bool.not_eq_true, Bool.not_eq_false, Bool.not_eq_false', bne_eq_false_iff_eq] at h13
        refine CW.seq ?_
        refine CW.region ?_
        refine OL.popC rfl rfl rfl (POp.assign rfl rfl rfl) ?_
        refine OL.nil ?_
        refine Done.seq ?_
        refine CW.ret ?_
        refine Done.thenRet ?_
        refine Done.retR (rs := [.tmp 4]) (H' := H) rfl (.tmp rfl (.nil)) (AVleL.refl _) (by repeat (first | exact List.Sublist.refl _ | refine List.Sublist.cons _ ?_)) ?_
        exact ⟨retB (by rw [node_bif hop hna] at h13; exact (wf_no (by simpa using h13)).symm), rfl⟩
      ·
        try simp only [decide_eq_true_eq, decide_eq_false_iff_not, beq_iff_eq, bne_iff_ne, ne_eq, Int.not_lt, Int.not_le, beq_eq_false_iff_ne, gt_iff_lt, ge_iff_le, Bool.not_eq_true, Bool.not_eq_false, Bool.not_eq_false', bne_eq_false_iff_eq] at h13
        have hno : nodeOkB W f = true := by rw [node_bif hop hna] at h13; simpa using h13
        refine CW.skip ?_
        refine Done.seq ?_
        refine CW.seq ?_
        refine CW.seq ?_
        refine CW.region ?_
        refine OL.popC rfl rfl rfl ((by first | exact POp.fa rfl rfl rfl rfl | exact POp.faP rfl rfl rfl rfl)) ?_
        refine OL.popC rfl rfl rfl ((by first | exact POp.ld1 rfl rfl rfl rfl | (apply POp.ld1H rfl rfl rfl; (case hm => repeat (first | exact .head _ | refine .tail _ ?_)); (case hy => rfl)))) ?_
        refine OL.popC rfl rfl rfl ((by first | exact POp.lenM rfl rfl rfl | exact POp.lenA rfl rfl rfl | exact POp.lenV rfl rfl rfl | exact POp.len' rfl rfl rfl)) ?_
        refine OL.popC rfl rfl rfl (POp.move rfl rfl rfl) ?_
        refine OL.nil ?_
        refine Done.seq ?_
        refine CW.block ?_
        refine CW.loopJ (fun m st => ∃ (i : Nat), st = ⟨[(94, .i i), (93, .i f.kids.length), (92, AV.facts f.kids), (3, .ptr (Fcells f)), (2, .ptr (Wcells W))], H⟩ ∧ m = f.kids.length - i ∧ i ≤ f.kids.length ∧ (f.kids.take i).all (wfB W) = true) ⟨_, _, ⟨0, rfl, rfl, by omega, rfl⟩, (by repeat (first | exact trivial | refine ⟨rfl, ?_⟩)), (by repeat (first | exact List.Sublist.refl _ | refine List.Sublist.cons _ ?_))⟩ ?_
        rintro m _ ⟨i, rfl, rfl, hi, hall⟩
        refine CW.seq ?_
        refine CW.region ?_
        refine OL.popC rfl rfl rfl (POp.cmp rfl rfl rfl rfl rfl rfl) ?_
        refine OL.nil ?_
        refine Done.seq ?_
        refine CW.seq ?_
        refine CW.cond rfl (fun h14 => ?_) (fun h14 => ?_)
        ·
          try simp only [decide_eq_true_eq, decide_eq_false_iff_not, beq_iff_eq, bne_iff_ne, ne_eq, Int.not_lt, Int.not_le, beq_eq_false_iff_ne, gt_iff_lt, ge_iff_le, Bool.not_eq_true, Bool.not_eq_false, Bool.not_eq_false', bne_eq_false_iff_eq] at h14
          refine CW.skip ?_
          refine Done.seq ?_
          refine CW.seq ?_
          refine CW.block ?_
          refine CW.seq ?_
          refine CW.region ?_
          refine OL.popC rfl rfl rfl ((by first | exact POp.ixM rfl rfl rfl rfl rfl (by omega) | exact POp.ixI rfl rfl rfl rfl rfl (by omega))) ?_
          refine OL.popC rfl rfl rfl ((by first | exact POp.ldA rfl rfl rfl rfl | (apply POp.ldAH rfl rfl rfl; (case hm => repeat (first | exact .head _ | refine .tail _ ?_)); (case hy => rfl); (case hn => rfl)))) ?_
          refine OL.alC rfl rfl rfl rfl (fun b0 => ?_)
          apply OL.stoC rfl rfl rfl rfl rfl rfl rfl rfl rfl rfl
          (case hu => repeat (first | exact Upd.head _ _ _ | apply Upd.tail)); (case hfit => rfl); (case hds => rfl)
          refine OL.nil ?_
          refine Done.seq ?_
          refine CW.seq ?_
          refine CW.region ?_
          refine OL.popC rfl rfl rfl ((by first | exact POp.ldA rfl rfl rfl rfl | (apply POp.ldAH rfl rfl rfl; (case hm => repeat (first | exact .head _ | refine .tail _ ?_)); (case hy => rfl); (case hn => rfl)))) ?_
          refine OL.popC rfl rfl rfl ((by first | exact POp.ldA rfl rfl rfl rfl | (apply POp.ldAH rfl rfl rfl; (case hm => repeat (first | exact .head _ | refine .tail _ ?_)); (case hy => rfl); (case hn => rfl)))) ?_
          refine OL.popC rfl rfl rfl (POp.call (.mk' rfl rfl rfl rfl rfl) (ih (f.kids.getD i default) (getD_mem (by omega)))) ?_
          refine OL.popC rfl rfl rfl (POp.not rfl rfl rfl) ?_
          refine OL.nil ?_
          refine Done.seq ?_
          refine CW.cond rfl (fun h15 => ?_) (fun h15 => ?_)
          ·
            try simp only [decide_eq_true_eq, decide_eq_false_iff_not, beq_iff_eq, bne_iff_ne, ne_eq, Int.not_lt, Int.not_le, beq_eq_false_iff_ne, gt_iff_lt, ge_iff_le, Bool.not_eq_true, Bool.not_eq_false, Bool.not_eq_false', bne_eq_false_iff_eq] at h15
            refine CW.seq ?_
            refine CW.region ?_
            refine OL.popC rfl rfl rfl (POp.assign rfl rfl rfl) ?_
            refine OL.nil ?_
            refine Done.seq ?_
            refine CW.ret ?_
            refine Done.blkRet ?_
            refine Done.thenRet ?_
            refine Done.thenRet ?_
            refine Done.blkRet ?_
            refine Done.thenRet ?_
            refine Done.retR (rs := [.tmp 4]) (H' := H) rfl (.tmp rfl (.nil)) (AVleL.refl _) (by repeat (first | exact List.Sublist.refl _ | refine List.Sublist.cons _ ?_)) ?_
            exact ⟨retB (wf_kid_no (i := i) (by omega) (by simpa using h15)).symm, rfl⟩
          ·
            try simp only [decide_eq_true_eq, decide_eq_false_iff_not, beq_iff_eq, bne_iff_ne, ne_eq, Int.not_lt, Int.not_le, beq_eq_false_iff_ne, gt_iff_lt, ge_iff_le, Bool.not_eq_true, Bool.not_eq_false, Bool.not_eq_false', bne_eq_false_iff_eq] at h15
            refine CW.skip ?_
            refine Done.blkNormal ?_
            refine Done.seq ?_
            refine CW.region ?_
            refine OL.popC rfl rfl rfl (POp.arith rfl rfl rfl rfl rfl rfl (wrap64 (by omega))) ?_
            refine OL.popC rfl rfl rfl (POp.move rfl rfl rfl) ?_
            refine OL.nil ?_
            refine Done.againJ (⟨i + 1, rfl, rfl, by omega, by rw [← take_getD (by omega), List.all_append, hall]; simpa using h15⟩) ?_ ?_ ?_
            · omega
            · repeat (first | exact trivial | refine ⟨rfl, ?_⟩)
            · repeat (first | exact List.Sublist.refl _ | refine List.Sublist.cons _ ?_)
        ·
          try simp only [decide_eq_true_eq, decide_eq_false_iff_not, beq_iff_eq, bne_iff_ne, ne_eq, Int.not_lt, Int.not_le, beq_eq_false_iff_ne, gt_iff_lt, ge_iff_le, Bool.not_eq_true, Bool.not_eq_false, Bool.not_eq_false', bne_eq_false_iff_eq] at h14
          obtain rfl : i = f.kids.length := by omega
          rw [List.take_length] at hall
          refine CW.exit ?_
          refine Done.thenExit ?_
          refine Done.thenExit ?_
          refine Done.blkExit ?_
          refine Done.seq ?_
          refine CW.seq ?_
          refine CW.region ?_
          refine OL.popC rfl rfl rfl (POp.assign rfl rfl rfl) ?_
          refine OL.nil ?_
          refine Done.seq ?_
          refine CW.ret ?_
          refine Done.retR (rs := [.tmp 4]) (H' := H) rfl (.tmp rfl (.nil)) (AVleL.refl _) (by repeat (first | exact List.Sublist.refl _ | refine List.Sublist.cons _ ?_)) ?_
          exact ⟨retB (wf_yes hno hall).symm, rfl⟩
theorem p87 {W : FW} (hW : W.parents.length ≤ 60) : ∀ f : Fact, PCall Tryz.prog 87 [AV.world W, AV.fact f] (.b (wfB W f)) := Fact.ind1 (p87_step hW)
theorem p20 {W : FW} (hW : W.parents.length ≤ 60) (f : Fact) : PCall Tryz.prog 20 [AV.world W, AV.fact f] (.b (decide (nodesN f ≤ 24) && decide (depthN f ≤ 12) && wfB W f)) := by
  intro H
  refine ACall.mk' (n := 18) Tryz.func20 rfl (by kernel_rfl) rfl rfl (fun B I w0 => ?_)
  refine CW.seq ?_
  refine CW.region ?_
  refine OL.popC rfl rfl rfl (POp.boxI rfl rfl rfl rfl) ?_
  refine OL.popC rfl rfl rfl (POp.boxI rfl rfl rfl rfl) ?_
  refine OL.popC rfl rfl rfl (POp.assign rfl rfl rfl) ?_
  refine OL.nil ?_
  refine Done.seq ?_
  refine CW.seq ?_
  refine CW.region ?_
  refine OL.popC rfl rfl rfl ((by first | exact POp.ldA rfl rfl rfl rfl | (apply POp.ldAH rfl rfl rfl; (case hm => repeat (first | exact .head _ | refine .tail _ ?_)); (case hy => rfl); (case hn => rfl)))) ?_
  refine OL.popC rfl rfl rfl (POp.call (.mk' rfl rfl rfl rfl rfl) (p29 f)) ?_
  refine OL.popC rfl rfl rfl (POp.cmp rfl rfl rfl rfl rfl rfl) ?_
  refine OL.popC rfl rfl rfl (POp.move rfl rfl rfl) ?_
  refine OL.guardC rfl rfl rfl rfl rfl rfl (fun hg => (by first | exact POp.ldA rfl rfl rfl rfl | (apply POp.ldAH rfl rfl rfl; (case hm => repeat (first | exact .head _ | refine .tail _ ?_)); (case hy => rfl); (case hn => rfl)))) ?_
  refine OL.guardC rfl rfl rfl rfl rfl rfl (fun hg => POp.call (.mk' rfl rfl rfl rfl (by simp_all [strip, constAV])) (p86 f (by simp at hg; omega))) ?_
  refine OL.guardC rfl rfl rfl rfl rfl rfl (fun hg => POp.cmp rfl rfl rfl (by first | rfl | exact hg | exact (Bool.and_eq_true_iff.1 hg).1 | exact (Bool.and_eq_true_iff.1 (Bool.and_eq_true_iff.1 hg).1).1 | simp_all) rfl rfl) ?_
  refine OL.popC rfl rfl rfl (POp.pick rfl rfl rfl rfl rfl (by first | exact fun h => h | (intro h; rw [h]; rfl) | (intro h; simp_all)) (fun _ => rfl)) ?_
  refine OL.popC rfl rfl rfl (POp.move rfl rfl rfl) ?_
  refine OL.guardC rfl rfl rfl rfl rfl rfl (fun hg => (by first | exact POp.ldA rfl rfl rfl rfl | (apply POp.ldAH rfl rfl rfl; (case hm => repeat (first | exact .head _ | refine .tail _ ?_)); (case hy => rfl); (case hn => rfl)))) ?_
  refine OL.guardC rfl rfl rfl rfl rfl rfl (fun hg => (by first | exact POp.ldA rfl rfl rfl rfl | (apply POp.ldAH rfl rfl rfl; (case hm => repeat (first | exact .head _ | refine .tail _ ?_)); (case hy => rfl); (case hn => rfl)))) ?_
  refine OL.guardC rfl rfl rfl rfl rfl rfl (fun hg => POp.call (.mk' rfl rfl rfl rfl (by simp_all [strip, constAV])) (p87 hW f)) ?_
  refine OL.popC rfl rfl rfl (POp.pick rfl rfl rfl rfl rfl (by first | exact fun h => h | (intro h; rw [h]; rfl) | (intro h; simp_all)) (fun _ => rfl)) ?_
  refine OL.popC rfl rfl rfl (POp.assign rfl rfl rfl) ?_
  refine OL.nil ?_
  refine Done.seq ?_
  refine CW.ret ?_
  refine Done.retR (rs := [.tmp 4]) (H' := H) rfl (.tmp rfl (.nil)) (AVleL.refl _) (by repeat (first | exact List.Sublist.refl _ | refine List.Sublist.cons _ ?_)) ?_
  exact ⟨retB (by rw [show decide (min (nodesN f : Int) 25 ≤ 24) = decide (nodesN f ≤ 24) from by rw [decide_eq_decide]; omega, show decide ((depthN f : Int) ≤ 12) = decide (depthN f ≤ 12) from by rw [decide_eq_decide]; omega]; cases decide (nodesN f ≤ 24) <;> cases decide (depthN f ≤ 12) <;> rfl), rfl⟩
end Go.Proofs.YtiljpbljebfhnaaGreat

set_option linter.unusedVariables false
set_option linter.unusedSimpArgs false
set_option maxRecDepth 10000
namespace Go.Proofs.YtiljpbljebfhnaaGreat
open Go.Eng
open Go.Eng.Fc
/-! ### FactFormed -/
mutual
theorem node_deep (W : FW) : ∀ (f : Fact) (left deep : Int), wfB W f = true → (nodesN f : Int) ≤ left → (depthN f : Int) ≤ deep → nodeP W f left deep = (true, left - nodesN f)
  | .mk op arg path cls n kids, left, deep, h, h1, h2 => by
    have hw := wfB_iff.1 h
    rw [nodesN] at h1 ⊢
    rw [depthN] at h2
    rw [nodeP]
    have hb : badP (.mk op arg path cls n kids) (left - 1) deep = false := by
      have h0 := hw.1
      simp only [nodeOkB, Bool.and_eq_true, decide_eq_true_eq, beq_iff_eq] at h0
      simp only [badP, Bool.or_eq_false_iff, decide_eq_false_iff_not, bne_eq_false_iff_eq, beq_eq_false_iff_ne]
      refine ⟨⟨⟨⟨by omega, by omega⟩, by omega⟩, by omega⟩, h0.1.2⟩
    rw [if_neg (by rw [hb]; simp)]
    have h0 := hw.1
    rw [nodeOkB, Bool.and_eq_true] at h0
    by_cases hl : leafP (.mk op arg path cls n kids) = true
    · have hk : kids = [] := leaf_kids hw.1 hl
      rw [if_pos hl] at h0 ⊢
      rw [h0.2, hk]; simp [nodesNs]
    · rw [if_neg hl] at h0 ⊢
      rw [if_pos h0.2]
      rw [nodes_deep W kids (left - 1) (deep - 1) (by rw [wfB, Bool.and_eq_true] at h; exact h.2) (by omega) (by omega)]
      congr 1; omega
theorem nodes_deep (W : FW) : ∀ (l : List Fact) (left deep : Int), wfBs W l = true → (nodesNs l : Int) ≤ left → (depthNs l : Int) ≤ deep → nodesP W l left deep = (true, left - nodesNs l)
  | [], left, deep, _, _, _ => by rw [nodesP, nodesNs]; simp
  | k :: r, left, deep, h, h1, h2 => by
    rw [wfBs, Bool.and_eq_true] at h
    rw [nodesNs] at h1 ⊢
    rw [depthNs] at h2
    rw [nodesP, node_deep W k left deep h.1 (by omega) (by omega), if_pos rfl, nodes_deep W r _ deep h.2 (by omega) (by omega)]
    congr 1; omega
end
mutual
theorem deep_node (W : FW) : ∀ (f : Fact) (left deep : Int), 0 ≤ deep → (nodeP W f left deep).1 = true → (depthN f : Int) ≤ deep
  | .mk op arg path cls n kids, left, deep, hd, h => by
    have hw := (node_wf W _ _ _ h).1
    rw [nodeP] at h
    rw [depthN]
    by_cases hb : badP (.mk op arg path cls n kids) (left - 1) deep = true
    · rw [if_pos hb] at h; cases h
    · rw [if_neg hb] at h
      have hd1 : 1 ≤ deep := by
        simp only [badP, Bool.not_eq_true, Bool.or_eq_false_iff, beq_eq_false_iff_ne] at hb
        omega
      by_cases hl : leafP (.mk op arg path cls n kids) = true
      · have hk : kids = [] := leaf_kids (wfB_iff.1 hw).1 hl
        subst hk; simp [depthNs]; omega
      · rw [if_neg hl] at h
        by_cases hp : plainP (.mk op arg path cls n kids) = true
        · rw [if_pos hp] at h
          have := deep_nodes W kids (left - 1) (deep - 1) (by omega) h
          omega
        · rw [if_neg hp] at h; cases h
theorem deep_nodes (W : FW) : ∀ (l : List Fact) (left deep : Int), 0 ≤ deep → (nodesP W l left deep).1 = true → (depthNs l : Int) ≤ deep
  | [], left, deep, hd, _ => by rw [depthNs]; omega
  | k :: r, left, deep, hd, h => by
    rw [nodesP] at h
    rw [depthNs]
    by_cases h1 : (nodeP W k left deep).1 = true
    · rw [if_pos h1] at h
      have a := deep_node W k left deep hd h1
      have b := deep_nodes W r _ deep hd h
      omega
    · rw [if_neg h1] at h; exact absurd h h1
end
/-- what the program takes is what is formed as the law's own text says -/
theorem formed_eq (W : FW) (f : Fact) : (decide (nodesN f ≤ 24) && decide (depthN f ≤ 12) && wfB W f) = formedP W f := by
  rw [Bool.eq_iff_iff]
  simp only [Bool.and_eq_true, decide_eq_true_eq]
  constructor
  · rintro ⟨⟨h1, h2⟩, h3⟩
    rw [formedP, node_deep W f 24 12 h3 (by omega) (by omega)]
  · intro h
    have h1 := formed_wf h
    have h2 := deep_node W f 24 12 (by omega) h
    exact ⟨⟨h1.2, by omega⟩, h1.1⟩
theorem p20' {W : FW} (hW : W.parents.length ≤ 60) (f : Fact) : PCall Tryz.prog 20 [AV.world W, AV.fact f] (.b (formedP W f)) := by rw [← formed_eq]; exact p20 hW f
/-- what a law is handed -/
structure Gv where
  W : FW
  A : Fact
  B : Fact
  objs : List (Int × List (Int × Int))
  args : List (Int × Int)
  arg : Int
  path : List Int
abbrev AV.vals (l : List (Int × Int)) : AV := .sl 2 (l.map fun v => [AV.i v.1, AV.i v.2])
abbrev AV.things (l : List (Int × List (Int × Int))) : AV := .sl 2 (l.map fun o => [AV.i o.1, AV.vals o.2])
def Gcells (g : Gv) : List AV := Wcells g.W ++ Fcells g.A ++ Fcells g.B ++ [AV.things g.objs, AV.vals g.args, .i g.arg, AV.ints g.path]
abbrev AV.given (g : Gv) : AV := .agg (Gcells g)
theorem p50 (W : FW) : PCall Tryz.prog 50 [AV.world W] (.i (if worldP W = true then 0 else 2)) := by
  by_cases h : worldP W = true
  · rw [if_pos h]; exact p50t h
  · rw [if_neg h]; exact p50f (by simpa using h)
theorem p47 (W : FW) (f : Fact) : PCall Tryz.prog 47 [AV.world W, AV.fact f] (.i (if goodP W [f] = true then 0 else 2)) := by
  by_cases h : goodP W [f] = true
  · rw [if_pos h]; exact p47g h
  · rw [if_neg h]; exact p47n (by simpa using h)
def goodC (W : FW) (a b : Int) : Bool := worldP W && (classP W a && classP W b)
theorem p40 (W : FW) (a b : Int) : PCall Tryz.prog 40 [AV.world W, .i a, .i b] (.tup [.b (goodC W a b && belowP W a b), .i (if goodC W a b = true then 0 else 2)]) := by
  by_cases h : worldP W = true
  · by_cases hc : (classP W a && classP W b) = true
    · have e : goodC W a b = true := by rw [goodC, h, hc]; rfl
      rw [if_pos e, e, Bool.true_and]; exact p40g h hc
    · have hc := Bool.eq_false_iff.2 hc
      have e : goodC W a b = false := by rw [goodC, hc, Bool.and_false]
      rw [if_neg (by rw [e]; simp), e, Bool.false_and]; exact p40c h hc
  · have h := Bool.eq_false_iff.2 h
    have e : goodC W a b = false := by rw [goodC, h]; rfl
    rw [if_neg (by rw [e]; simp), e, Bool.false_and]; exact p40n h a b
theorem errB (c : Bool) : ((if c = true then (0 : Int) else 2) == 0) = c := by cases c <;> rfl
theorem ff0 (W : FW) (f : Fact) : (bif ((if worldP W = true then (0 : Int) else 2) == 0) != worldP W then true else ((if goodP W [f] = true then (0 : Int) else 2) == 0) != bif worldP W then formedP W f else false) = false := by
  rw [errB, errB, show goodP W [f] = (worldP W && formedP W f) by simp [goodP]]
  cases worldP W <;> cases formedP W f <;> rfl
theorem ff1 {W : FW} {a b : Int} (h : (bif bif !worldP W then true else !classP W a then true else !classP W b) = false) : worldP W = true ∧ classP W a = true ∧ classP W b = true := by
  rw [bif_or, bif_or] at h
  simp only [Bool.or_eq_false_iff, Bool.not_eq_false'] at h
  exact ⟨h.1.1, h.1.2, h.2⟩
theorem ff2 {W : FW} {a b : Int} (h : (bif bif !worldP W then true else !classP W a then true else !classP W b) = true) : goodC W a b = false := by
  rw [bif_or, bif_or] at h
  simp only [Bool.or_eq_true, Bool.not_eq_true'] at h
  rw [goodC]
  rcases h with (h | h) | h <;> rw [h] <;> simp
theorem p10 (g : Gv) (a b : Int) : PCall Tryz.prog 10 [AV.given g, .i a, .i b] (.b true) := by
  intro H
  refine ACall.mk' (n := 85) Tryz.func10 rfl (by kernel_rfl) rfl rfl (fun B I w0 => ?_)
  refine CW.seq ?_
  refine CW.region ?_
  refine OL.popC rfl rfl rfl (POp.boxI rfl rfl rfl rfl) ?_
  refine OL.popC rfl rfl rfl (POp.assign rfl rfl rfl) ?_
  refine OL.nil ?_
  refine Done.seq ?_
  refine CW.seq ?_
  refine CW.region ?_
  refine OL.popC rfl rfl rfl ((by first | exact POp.fa rfl rfl rfl rfl | exact POp.faP rfl rfl rfl rfl)) ?_
  refine OL.popC rfl rfl rfl ((by first | exact POp.ldA rfl rfl rfl rfl | (apply POp.ldAH rfl rfl rfl; (case hm => repeat (first | exact .head _ | refine .tail _ ?_)); (case hy => rfl); (case hn => rfl)))) ?_
  refine OL.popC rfl rfl rfl (POp.call (.mk' rfl rfl rfl rfl rfl) (p19 g.W)) ?_
  refine OL.popC rfl rfl rfl (POp.assign rfl rfl rfl) ?_
  refine OL.nil ?_
  refine Done.seq ?_
  refine CW.seq ?_
  refine CW.region ?_
  refine OL.popC rfl rfl rfl (POp.move rfl rfl rfl) ?_
  refine OL.popC rfl rfl rfl (POp.move rfl rfl rfl) ?_
  refine OL.guardC rfl rfl rfl rfl rfl rfl (fun hg => (by first | exact POp.fa rfl rfl rfl rfl | exact POp.faP rfl rfl rfl rfl)) ?_
  refine OL.guardC rfl rfl rfl rfl rfl rfl (fun hg => (by first | exact POp.ldA rfl rfl (by first | rfl | exact hg | exact (Bool.and_eq_true_iff.1 hg).1 | exact (Bool.and_eq_true_iff.1 (Bool.and_eq_true_iff.1 hg).1).1 | simp_all) rfl | (apply POp.ldAH rfl rfl (by first | rfl | exact hg | exact (Bool.and_eq_true_iff.1 hg).1 | exact (Bool.and_eq_true_iff.1 (Bool.and_eq_true_iff.1 hg).1).1 | simp_all); (case hm => repeat (first | exact .head _ | refine .tail _ ?_)); (case hy => rfl); (case hn => rfl)))) ?_
  refine OL.guardC rfl rfl rfl rfl rfl rfl (fun hg => (by first | exact POp.fa rfl rfl rfl rfl | exact POp.faP rfl rfl rfl rfl)) ?_
  refine OL.guardC rfl rfl rfl rfl rfl rfl (fun hg => (by first | exact POp.ldA rfl rfl (by first | rfl | exact hg | exact (Bool.and_eq_true_iff.1 hg).1 | exact (Bool.and_eq_true_iff.1 (Bool.and_eq_true_iff.1 hg).1).1 | simp_all) rfl | (apply POp.ldAH rfl rfl (by first | rfl | exact hg | exact (Bool.and_eq_true_iff.1 hg).1 | exact (Bool.and_eq_true_iff.1 (Bool.and_eq_true_iff.1 hg).1).1 | simp_all); (case hm => repeat (first | exact .head _ | refine .tail _ ?_)); (case hy => rfl); (case hn => rfl)))) ?_
  refine OL.guardC rfl rfl rfl rfl rfl rfl (fun hg => POp.call (.mk' rfl rfl rfl rfl (by simp_all [strip, constAV])) (p20' (world_len hg) g.A)) ?_
  refine OL.popC rfl rfl rfl (POp.pick rfl rfl rfl rfl rfl (by first | exact fun h => h | (intro h; rw [h]; rfl) | (intro h; simp_all)) (fun _ => rfl)) ?_
  refine OL.popC rfl rfl rfl (POp.assign rfl rfl rfl) ?_
  refine OL.nil ?_
  refine Done.seq ?_
  refine CW.seq ?_
  refine CW.seq ?_
  refine CW.region ?_
  refine OL.popC rfl rfl rfl ((by first | exact POp.fa rfl rfl rfl rfl | exact POp.faP rfl rfl rfl rfl)) ?_
  refine OL.popC rfl rfl rfl ((by first | exact POp.ldA rfl rfl rfl rfl | (apply POp.ldAH rfl rfl rfl; (case hm => repeat (first | exact .head _ | refine .tail _ ?_)); (case hy => rfl); (case hn => rfl)))) ?_
  refine OL.popC rfl rfl rfl (POp.call (.mk' rfl rfl rfl rfl rfl) (p50 g.W)) ?_
  refine OL.popC rfl rfl rfl (POp.cmp rfl rfl rfl rfl rfl rfl) ?_
  refine OL.popC rfl rfl rfl (POp.move rfl rfl rfl) ?_
  refine OL.popC rfl rfl rfl (POp.neB (op := .eql) rfl rfl rfl rfl rfl) ?_
  refine OL.popC rfl rfl rfl (POp.move rfl rfl rfl) ?_
  refine OL.guardC rfl rfl rfl rfl rfl rfl (fun hg => (by first | exact POp.fa rfl rfl rfl rfl | exact POp.faP rfl rfl rfl rfl)) ?_
  refine OL.guardC rfl rfl rfl rfl rfl rfl (fun hg => (by first | exact POp.ldA rfl rfl (by first | rfl | exact hg | exact (Bool.and_eq_true_iff.1 hg).1 | exact (Bool.and_eq_true_iff.1 (Bool.and_eq_true_iff.1 hg).1).1 | simp_all) rfl | (apply POp.ldAH rfl rfl (by first | rfl | exact hg | exact (Bool.and_eq_true_iff.1 hg).1 | exact (Bool.and_eq_true_iff.1 (Bool.and_eq_true_iff.1 hg).1).1 | simp_all); (case hm => repeat (first | exact .head _ | refine .tail _ ?_)); (case hy => rfl); (case hn => rfl)))) ?_
  refine OL.guardC rfl rfl rfl rfl rfl rfl (fun hg => (by first | exact POp.fa rfl rfl rfl rfl | exact POp.faP rfl rfl rfl rfl)) ?_
  refine OL.guardC rfl rfl rfl rfl rfl rfl (fun hg => (by first | exact POp.ldA rfl rfl (by first | rfl | exact hg | exact (Bool.and_eq_true_iff.1 hg).1 | exact (Bool.and_eq_true_iff.1 (Bool.and_eq_true_iff.1 hg).1).1 | simp_all) rfl | (apply POp.ldAH rfl rfl (by first | rfl | exact hg | exact (Bool.and_eq_true_iff.1 hg).1 | exact (Bool.and_eq_true_iff.1 (Bool.and_eq_true_iff.1 hg).1).1 | simp_all); (case hm => repeat (first | exact .head _ | refine .tail _ ?_)); (case hy => rfl); (case hn => rfl)))) ?_
  refine OL.guardC rfl rfl rfl rfl rfl rfl (fun hg => POp.call (.mk' rfl rfl rfl rfl (by simp_all [strip, constAV])) (p47 g.W g.A)) ?_
  refine OL.guardC rfl rfl rfl rfl rfl rfl (fun hg => POp.cmp rfl rfl rfl (by first | rfl | exact hg | exact (Bool.and_eq_true_iff.1 hg).1 | exact (Bool.and_eq_true_iff.1 (Bool.and_eq_true_iff.1 hg).1).1 | simp_all) rfl rfl) ?_
  refine OL.guardC rfl rfl rfl rfl rfl rfl (fun hg => POp.move rfl rfl rfl) ?_
  refine OL.guardC rfl rfl rfl rfl rfl rfl (fun hg => POp.neB (op := .eql) rfl rfl (by first | rfl | exact hg | exact (Bool.and_eq_true_iff.1 hg).1 | exact (Bool.and_eq_true_iff.1 (Bool.and_eq_true_iff.1 hg).1).1 | simp_all) rfl (by first | rfl | exact hg | exact (Bool.and_eq_true_iff.1 hg).1 | exact (Bool.and_eq_true_iff.1 (Bool.and_eq_true_iff.1 hg).1).1 | simp_all)) ?_
  refine OL.popC rfl rfl rfl (POp.pick rfl rfl rfl rfl rfl (fun _ => rfl) (by first | exact fun h => h | (intro h; rw [h]; rfl) | (intro h; simp_all))) ?_
  refine OL.nil ?_
  refine Done.seq ?_
  refine CW.cond rfl (fun h0 => ?_) (fun h0 => ?_)
  ·
    exact absurd h0 (by rw [ff0]; simp)
  ·
    try simp only [decide_eq_true_eq, decide_eq_false_iff_not, beq_iff_eq, bne_iff_ne, ne_eq, Int.not_lt, Int.not_le, beq_eq_false_iff_ne, gt_iff_lt, ge_iff_le, Bool.not_eq_true, Bool.not_eq_false, Bool.not_eq_false', bne_eq_false_iff_eq] at h0
    refine CW.skip ?_
    refine Done.seq ?_
    refine CW.seq ?_
    refine CW.region ?_
    refine OL.popC rfl rfl rfl ((by first | exact POp.fa rfl rfl rfl rfl | exact POp.faP rfl rfl rfl rfl)) ?_
    refine OL.popC rfl rfl rfl ((by first | exact POp.ldA rfl rfl rfl rfl | (apply POp.ldAH rfl rfl rfl; (case hm => repeat (first | exact .head _ | refine .tail _ ?_)); (case hy => rfl); (case hn => rfl)))) ?_
    refine OL.popC rfl rfl rfl (POp.move rfl rfl rfl) ?_
    refine OL.popC rfl rfl rfl (POp.move rfl rfl rfl) ?_
    refine OL.popC rfl rfl rfl (POp.call (.mk' rfl rfl rfl rfl rfl) (p40 g.W a b)) ?_
    refine OL.popC rfl rfl rfl (POp.move rfl rfl rfl) ?_
    refine OL.popC rfl rfl rfl (POp.extract rfl rfl rfl rfl) ?_
    refine OL.popC rfl rfl rfl (POp.extract rfl rfl rfl rfl) ?_
    refine OL.popC rfl rfl rfl (POp.assign rfl rfl rfl) ?_
    refine OL.popC rfl rfl rfl (POp.assign rfl rfl rfl) ?_
    refine OL.nil ?_
    refine Done.seq ?_
    refine CW.seq ?_
    refine CW.seq ?_
    refine CW.region ?_
    refine OL.popC rfl rfl rfl (POp.move rfl rfl rfl) ?_
    refine OL.popC rfl rfl rfl (POp.not rfl rfl rfl) ?_
    refine OL.popC rfl rfl rfl (POp.move rfl rfl rfl) ?_
    refine OL.guardC rfl rfl rfl rfl rfl rfl (fun hg => (by first | exact POp.fa rfl rfl rfl rfl | exact POp.faP rfl rfl rfl rfl)) ?_
    refine OL.guardC rfl rfl rfl rfl rfl rfl (fun hg => (by first | exact POp.ldA rfl rfl (by first | rfl | exact hg | exact (Bool.and_eq_true_iff.1 hg).1 | exact (Bool.and_eq_true_iff.1 (Bool.and_eq_true_iff.1 hg).1).1 | simp_all) rfl | (apply POp.ldAH rfl rfl (by first | rfl | exact hg | exact (Bool.and_eq_true_iff.1 hg).1 | exact (Bool.and_eq_true_iff.1 (Bool.and_eq_true_iff.1 hg).1).1 | simp_all); (case hm => repeat (first | exact .head _ | refine .tail _ ?_)); (case hy => rfl); (case hn => rfl)))) ?_
    refine OL.guardC rfl rfl rfl rfl rfl rfl (fun hg => POp.move rfl rfl rfl) ?_
    refine OL.guardC rfl rfl rfl rfl rfl rfl (fun hg => POp.call (.mk' rfl rfl rfl rfl (by simp_all [strip, constAV])) (p51 g.W a (world_len (by simpa using hg)))) ?_
    refine OL.guardC rfl rfl rfl rfl rfl rfl (fun hg => POp.not rfl rfl (by first | rfl | exact hg | exact (Bool.and_eq_true_iff.1 hg).1 | exact (Bool.and_eq_true_iff.1 (Bool.and_eq_true_iff.1 hg).1).1 | simp_all)) ?_
    refine OL.popC rfl rfl rfl (POp.pick rfl rfl rfl rfl rfl (fun _ => rfl) (by first | exact fun h => h | (intro h; rw [h]; rfl) | (intro h; simp_all))) ?_
    refine OL.popC rfl rfl rfl (POp.move rfl rfl rfl) ?_
    refine OL.guardC rfl rfl rfl rfl rfl rfl (fun hg => (by first | exact POp.fa rfl rfl rfl rfl | exact POp.faP rfl rfl rfl rfl)) ?_
    refine OL.guardC rfl rfl rfl rfl rfl rfl (fun hg => (by first | exact POp.ldA rfl rfl (by first | rfl | exact hg | exact (Bool.and_eq_true_iff.1 hg).1 | exact (Bool.and_eq_true_iff.1 (Bool.and_eq_true_iff.1 hg).1).1 | simp_all) rfl | (apply POp.ldAH rfl rfl (by first | rfl | exact hg | exact (Bool.and_eq_true_iff.1 hg).1 | exact (Bool.and_eq_true_iff.1 (Bool.and_eq_true_iff.1 hg).1).1 | simp_all); (case hm => repeat (first | exact .head _ | refine .tail _ ?_)); (case hy => rfl); (case hn => rfl)))) ?_
    refine OL.guardC rfl rfl rfl rfl rfl rfl (fun hg => POp.move rfl rfl rfl) ?_
    refine OL.guardC rfl rfl rfl rfl rfl rfl (fun hg => POp.call (.mk' rfl rfl rfl rfl (by simp_all [strip, constAV])) (p51 g.W b (world_len (by simp at hg; exact hg.1)))) ?_
    refine OL.guardC rfl rfl rfl rfl rfl rfl (fun hg => POp.not rfl rfl (by first | rfl | exact hg | exact (Bool.and_eq_true_iff.1 hg).1 | exact (Bool.and_eq_true_iff.1 (Bool.and_eq_true_iff.1 hg).1).1 | simp_all)) ?_
    refine OL.popC rfl rfl rfl (POp.pick rfl rfl rfl rfl rfl (fun _ => rfl) (by first | exact fun h => h | (intro h; rw [h]; rfl) | (intro h; simp_all))) ?_
    refine OL.nil ?_
    refine Done.seq ?_
    refine CW.cond rfl (fun h1 => ?_) (fun h1 => ?_)
    ·
      try simp only [decide_eq_true_eq, decide_eq_false_iff_not, beq_iff_eq, bne_iff_ne, ne_eq, Int.not_lt, Int.not_le, beq_eq_false_iff_ne, gt_iff_lt, ge_iff_le, Bool.not_eq_true, Bool.not_eq_false, Bool.not_eq_false', bne_eq_false_iff_eq] at h1
      refine CW.seq ?_
      refine CW.region ?_
      refine OL.popC rfl rfl rfl (POp.move rfl rfl rfl) ?_
      refine OL.popC rfl rfl rfl (POp.cmp rfl rfl rfl rfl rfl rfl) ?_
      refine OL.popC rfl rfl rfl (POp.move rfl rfl rfl) ?_
      refine OL.guardC rfl rfl rfl rfl rfl rfl (fun hg => POp.move rfl rfl rfl) ?_
      refine OL.guardC rfl rfl rfl rfl rfl rfl (fun hg => POp.not rfl rfl (by first | rfl | exact hg | exact (Bool.and_eq_true_iff.1 hg).1 | exact (Bool.and_eq_true_iff.1 (Bool.and_eq_true_iff.1 hg).1).1 | simp_all)) ?_
      refine OL.popC rfl rfl rfl (POp.pick rfl rfl rfl rfl rfl (by first | exact fun h => h | (intro h; rw [h]; rfl) | (intro h; simp_all)) (fun _ => rfl)) ?_
      refine OL.popC rfl rfl rfl (POp.move rfl rfl rfl) ?_
      refine OL.guardC rfl rfl rfl rfl rfl rfl (fun hg => POp.call (.mk' rfl rfl rfl rfl rfl) (p21)) ?_
      refine OL.popC rfl rfl rfl (POp.pick rfl rfl rfl rfl rfl (by first | exact fun h => h | (intro h; rw [h]; rfl) | (intro h; simp_all)) (fun _ => rfl)) ?_
      refine OL.popC rfl rfl rfl (POp.assign rfl rfl rfl) ?_
      refine OL.nil ?_
      refine Done.seq ?_
      refine CW.ret ?_
      refine Done.thenRet ?_
      refine Done.retR (rs := [.tmp 6]) (H' := H) rfl (.tmp rfl (.nil)) (AVleL.refl _) (by repeat (first | exact List.Sublist.refl _ | refine List.Sublist.cons _ ?_)) ?_
      exact ⟨retB (by rw [ff2 h1]; rfl), rfl⟩
    ·
      try simp only [decide_eq_true_eq, decide_eq_false_iff_not, beq_iff_eq, bne_iff_ne, ne_eq, Int.not_lt, Int.not_le, beq_eq_false_iff_ne, gt_iff_lt, ge_iff_le, Bool.not_eq_true, Bool.not_eq_false, Bool.not_eq_false', bne_eq_false_iff_eq] at h1
      refine CW.skip ?_
      refine Done.seq ?_
      refine CW.seq ?_
      refine CW.region ?_
      refine OL.popC rfl rfl rfl (POp.move rfl rfl rfl) ?_
      refine OL.popC rfl rfl rfl (POp.cmp rfl rfl rfl rfl rfl rfl) ?_
      refine OL.popC rfl rfl rfl (POp.move rfl rfl rfl) ?_
      refine OL.guardC rfl rfl rfl rfl rfl rfl (fun hg => POp.move rfl rfl rfl) ?_
      refine OL.guardC rfl rfl rfl rfl rfl rfl (fun hg => (by first | exact POp.fa rfl rfl rfl rfl | exact POp.faP rfl rfl rfl rfl)) ?_
      refine OL.guardC rfl rfl rfl rfl rfl rfl (fun hg => (by first | exact POp.ldA rfl rfl (by first | rfl | exact hg | exact (Bool.and_eq_true_iff.1 hg).1 | exact (Bool.and_eq_true_iff.1 (Bool.and_eq_true_iff.1 hg).1).1 | simp_all) rfl | (apply POp.ldAH rfl rfl (by first | rfl | exact hg | exact (Bool.and_eq_true_iff.1 hg).1 | exact (Bool.and_eq_true_iff.1 (Bool.and_eq_true_iff.1 hg).1).1 | simp_all); (case hm => repeat (first | exact .head _ | refine .tail _ ?_)); (case hy => rfl); (case hn => rfl)))) ?_
      refine OL.guardC rfl rfl rfl rfl rfl rfl (fun hg => POp.move rfl rfl rfl) ?_
      refine OL.guardC rfl rfl rfl rfl rfl rfl (fun hg => POp.move rfl rfl rfl) ?_
      refine OL.guardC rfl rfl rfl rfl rfl rfl (fun hg => POp.call (.mk' rfl rfl rfl rfl (by simp_all [strip, constAV])) (p52 (a := a) (b := b) (ff1 h1).1 (ff1 h1).2.1 (ff1 h1).2.2)) ?_
      refine OL.guardC rfl rfl rfl rfl rfl rfl (fun hg => POp.eqB (op := .eql) rfl rfl (by first | rfl | exact hg | exact (Bool.and_eq_true_iff.1 hg).1 | exact (Bool.and_eq_true_iff.1 (Bool.and_eq_true_iff.1 hg).1).1 | simp_all) rfl (by first | rfl | exact hg | exact (Bool.and_eq_true_iff.1 hg).1 | exact (Bool.and_eq_true_iff.1 (Bool.and_eq_true_iff.1 hg).1).1 | simp_all)) ?_
      refine OL.popC rfl rfl rfl (POp.pick rfl rfl rfl rfl rfl (by first | exact fun h => h | (intro h; rw [h]; rfl) | (intro h; simp_all)) (fun _ => rfl)) ?_
      refine OL.popC rfl rfl rfl (POp.move rfl rfl rfl) ?_
      refine OL.guardC rfl rfl rfl rfl rfl rfl (fun hg => POp.call (.mk' rfl rfl rfl rfl rfl) (p21)) ?_
      refine OL.popC rfl rfl rfl (POp.pick rfl rfl rfl rfl rfl (by first | exact fun h => h | (intro h; rw [h]; rfl) | (intro h; simp_all)) (fun _ => rfl)) ?_
      refine OL.popC rfl rfl rfl (POp.assign rfl rfl rfl) ?_
      refine OL.nil ?_
      refine Done.seq ?_
      refine CW.ret ?_
      refine Done.retR (rs := [.tmp 6]) (H' := H) rfl (.tmp rfl (.nil)) (AVleL.refl _) (by repeat (first | exact List.Sublist.refl _ | refine List.Sublist.cons _ ?_)) ?_
      exact ⟨retB (by rw [show goodC g.W a b = true from by rw [goodC, (ff1 h1).1, (ff1 h1).2.1, (ff1 h1).2.2]; rfl]; cases belowP g.W a b <;> rfl), rfl⟩
end Go.Proofs.YtiljpbljebfhnaaGreat
