/- Part 8 of the proof: contracts of functions of the program and what they need. No condition beyond those that each theorem names. -/
import Derived.Test.YtiljpbljebfhnaaGreatFP7
import Derived.Shelf.Sort.Plain
import Derived.Shelf.Slices.In.SortNone
import Derived.Sort.OwnSortedInts
set_option linter.unusedVariables false
set_option linter.unusedSimpArgs false
set_option maxRecDepth 10000
namespace Go.Proofs.YtiljpbljebfhnaaGreat
open Go.Eng
open Go.Eng.Fc
theorem slotsK_step {W : FW} {kn : Value → Kn} {can : List Int → Bool} {arg : Int} {path : List Int} {l : List Int} {k must no : Nat} (hk : k < l.length) : slotsK W kn can arg path (l.drop k) must no = slotsK W kn can arg path (l.getD k default :: l.drop (k + 1)) must no := by
  rw [List.drop_eq_getElem_cons hk, getD_lt hk]
theorem slotsK_need {W : FW} {kn : Value → Kn} {can : List Int → Bool} {arg : Int} {path r : List Int} {s : Int} {must no : Nat} (h : (bif (kn (keyS arg (path ++ [s]))).needed then !can (path ++ [s]) else false) = false) (h1 : (kn (keyS arg (path ++ [s]))).needed = true) : slotsK W kn can arg path r (must ||| 2 ^ (W.owner.getD s.toNat default).toNat) no = slotsK W kn can arg path (s :: r) must no := by
  have hc : can (path ++ [s]) = true := by rw [h1] at h; simpa using h
  rw [slotsK]; simp [h1, hc]
theorem slotsK_not {W : FW} {kn : Value → Kn} {can : List Int → Bool} {arg : Int} {path r : List Int} {s : Int} {must no : Nat} (h1 : (kn (keyS arg (path ++ [s]))).needed = false) (h2 : can (path ++ [s]) = false) : slotsK W kn can arg path r must (no ||| 2 ^ (W.owner.getD s.toNat default).toNat) = slotsK W kn can arg path (s :: r) must no := by
  rw [slotsK]; simp [h1, h2]
theorem slotsK_free {W : FW} {kn : Value → Kn} {can : List Int → Bool} {arg : Int} {path r : List Int} {s : Int} {must no : Nat} (h1 : (kn (keyS arg (path ++ [s]))).needed = false) (h2 : can (path ++ [s]) = true) : slotsK W kn can arg path r must no = slotsK W kn can arg path (s :: r) must no := by
  rw [slotsK]; simp [h1, h2]
theorem closeK_step {W : FW} {c mu r : Nat} (hc : c < 3 + W.parents.length) (h : closeK W (3 + W.parents.length - c) c mu = r) : closeK W (3 + W.parents.length - (c + 1)) (c + 1) (if mu.testBit c then mu ||| (upsP W).getD c 0 else mu) = r := by
  obtain ⟨q, hq⟩ : ∃ q, 3 + W.parents.length - c = q + 1 := ⟨3 + W.parents.length - c - 1, by omega⟩
  rw [hq, closeK] at h
  rw [show 3 + W.parents.length - (c + 1) = q from by omega]
  exact h
theorem slotsK_fail {W : FW} {kn : Value → Kn} {can : List Int → Bool} {arg : Int} {path r : List Int} {s : Int} {must no : Nat} (h : (bif (kn (keyS arg (path ++ [s]))).needed then !can (path ++ [s]) else false) = true) : slotsK W kn can arg path (s :: r) must no = none := by
  rw [bif_and] at h
  rw [slotsK]; exact if_pos h
theorem objectK_no {W : FW} {kn : Value → Kn} {can : List Int → Bool} {arg : Int} {path : List Int} (h : (bif bif bif (kn (keyS arg path)).whole then true else (kn (keyS arg path)).must.testBit (Int.toNat 1) then true else (kn (keyS arg path)).must.testBit (Int.toNat 2) then true else (kn (keyS arg path)).no.testBit (Int.toNat 0)) = true) : objectK W kn can arg path = (0, false) := by
  simp only [bif_or] at h
  rw [objectK]; exact if_pos h
theorem objectK_none {W : FW} {kn : Value → Kn} {can : List Int → Bool} {arg : Int} {path : List Int} (h : slotsK W kn can arg path (kn (keyS arg path)).slots (kn (keyS arg path)).must (kn (keyS arg path)).no = none) : objectK W kn can arg path = (0, false) := by
  rw [objectK, h]; simp
theorem objectK_some {W : FW} {kn : Value → Kn} {can : List Int → Bool} {arg : Int} {path : List Int} {must no : Nat} (h : (bif bif bif (kn (keyS arg path)).whole then true else (kn (keyS arg path)).must.testBit (Int.toNat 1) then true else (kn (keyS arg path)).must.testBit (Int.toNat 2) then true else (kn (keyS arg path)).no.testBit (Int.toNat 0)) = false)
    (hs : some (must, no) = slotsK W kn can arg path (kn (keyS arg path)).slots (kn (keyS arg path)).must (kn (keyS arg path)).no) : objectK W kn can arg path = (andNotP (closeK W W.parents.length 3 must) 1, ((andNotP (closeK W W.parents.length 3 must) 1 &&& no : Nat) : Int) == 0) := by
  simp only [bif_or] at h
  rw [objectK, ← hs]; exact if_neg (by simpa using h)
theorem andNot_lt (a b : Nat) : andNotP a b < 18446744073709551616 := BitVec.isLt (w := 64) _
theorem owner_ok {W : FW} (hw : worldP W = true) {i : Nat} (hi : i < W.owner.length) : 3 ≤ W.owner.getD i default ∧ W.owner.getD i default < 3 + W.parents.length := by
  simp only [worldP, Bool.and_eq_true, List.all_eq_true] at hw
  have := hw.2 _ (getD_mem hi)
  simpa [ownP] using this
theorem upsFrom_len : ∀ (l : List (List Int)) (i : Nat) (U : List Nat), (upsFrom l i U).length = U.length
  | [], _, _ => rfl
  | x :: r, i, U => by rw [upsFrom, upsFrom_len r]; simp
theorem ups_len (W : FW) : (upsP W).length = 63 := by rw [upsP, upsFrom_len]; rfl
theorem upFold_lt {U : List Nat} (hU : ∀ x ∈ U, x < 18446744073709551616) {i : Nat} (hi : i < 61) (l : List Int) : upFold U i l < 18446744073709551616 := by
  unfold upFold
  have : ∀ (l : List Int) (s : Nat), s < 18446744073709551616 → l.foldl (fun s (p : Int) => s ||| U.getD p.toNat 0) s < 18446744073709551616 := by
    intro l
    induction l with
    | nil => intro s hs; exact hs
    | cons p r ih => intro s hs; exact ih _ (or64 hs (u_get hU _))
  exact this l _ (or64 (by omega) (pow64 (by omega)))
theorem upsFrom_lt : ∀ (l : List (List Int)) (i : Nat) (U : List Nat), i + l.length ≤ 61 → (∀ x ∈ U, x < 18446744073709551616) → ∀ x ∈ upsFrom l i U, x < 18446744073709551616
  | [], _, _, _, h => h
  | y :: r, i, U, hi, h => by
    rw [upsFrom]
    simp only [List.length_cons] at hi
    exact upsFrom_lt r (i + 1) _ (by omega) (u_set h (upFold_lt h (by omega) y))
theorem ups_lt {W : FW} (h : W.parents.length ≤ 60) : ∀ x ∈ upsP W, x < 18446744073709551616 := upsFrom_lt _ _ _ (by omega) (by decide)
theorem up_drop {W : FW} {U : List Nat} {c : Nat} {q : Nat} (hq : q = c) (h : c < U.length) : (List.drop q (List.drop 2 (Wcells W ++ U.map fun s => AV.set s)))[0]? = some (AV.set (U.getD c 0)) := by
  subst hq
  rw [List.drop_drop, List.getElem?_drop]
  have := up_get (W := W) (U := U) (i := q) h
  rw [show 2 + q + 0 = 2 + q from rfl]
  exact this
theorem p168_step {W : FW} {mb : Nat} {kn : Value → Kn} (K : KnOk W kn) (hw : worldP W = true) {arg : Int} {path : List Int} (h : goodSpot arg path) (can : List Int → Bool) (ih : ∀ s ∈ (kn (keyS arg path)).slots, PCallIn Tryz.prog [sceneH mb kn] 186 [sceneP W mb, AV.spot arg (path ++ [s])] (.b (can (path ++ [s])))) :
    PCallIn Tryz.prog [sceneH mb kn] 168 [sceneP W mb, AV.spot arg path] (.tup [AV.set (objectK W kn can arg path).1, .b (objectK W kn can arg path).2]) := by
  intro H hm
  refine ACall.mk' (n := 136) Tryz.func168 rfl (by kernel_rfl) rfl rfl (fun B I w0 => ?_)
  have hW := world_own hw
  have hP := world_len hw
  refine CW.seq ?_
  refine CW.region ?_
  refine OL.popC rfl rfl rfl (POp.boxI rfl rfl rfl rfl) ?_
  refine OL.popC rfl rfl rfl (POp.assign rfl rfl rfl) ?_
  refine OL.popC rfl rfl rfl (POp.assign rfl rfl rfl) ?_
  refine OL.nil ?_
  refine Done.seq ?_
  refine CW.seq ?_
  refine CW.region ?_
  refine OL.popC rfl rfl rfl (POp.move rfl rfl rfl) ?_
  refine OL.popC rfl rfl rfl ((by first | exact POp.ldA rfl rfl rfl rfl | (apply POp.ldAH rfl rfl rfl; (case hm => repeat (first | exact .head _ | refine .tail _ ?_)); (case hy => rfl); (case hn => rfl)))) ?_
  refine OL.popC rfl rfl rfl (POp.callIn (.mk' rfl rfl rfl rfl rfl) (AVleL.refl _) (p170 W mb kn arg path (goodKey_of h)) (fun e he => by repeat (first | exact hm e he | apply List.mem_cons_of_mem))) ?_
  refine OL.popC rfl rfl rfl (POp.assign rfl rfl rfl) ?_
  refine OL.nil ?_
  refine Done.seq ?_
  refine CW.seq ?_
  refine CW.dp mixed ?_
  refine DP.anyC 0 9 136 rfl (by decide +kernel) rfl rfl (by decide +kernel) ?_
  refine AD.popC rfl rfl rfl (POp.move rfl rfl rfl) ?_
  refine AD.popC rfl rfl rfl ((by first | exact POp.nilCheck rfl rfl rfl | exact POp.nilCheckP rfl rfl rfl | exact POp.nilCheckF rfl rfl rfl)) ?_
  refine AD.popC rfl rfl rfl ((by first | exact POp.fa rfl rfl rfl rfl | exact POp.faP rfl rfl rfl rfl)) ?_
  refine AD.popC rfl rfl rfl ((by first | exact POp.ld1 rfl rfl rfl rfl | (apply POp.ld1H rfl rfl rfl; (case hm => repeat (first | exact .head _ | refine .tail _ ?_)); (case hy => rfl)))) ?_
  refine AD.popC rfl rfl rfl (POp.move rfl rfl rfl) ?_
  refine AD.popC rfl rfl rfl ((by first | exact POp.nilCheck rfl rfl rfl | exact POp.nilCheckP rfl rfl rfl | exact POp.nilCheckF rfl rfl rfl)) ?_
  refine AD.popC rfl rfl rfl ((by first | exact POp.fa rfl rfl rfl rfl | exact POp.faP rfl rfl rfl rfl)) ?_
  refine AD.popC rfl rfl rfl ((by first | exact POp.ld1 rfl rfl rfl rfl | (apply POp.ld1H rfl rfl rfl; (case hm => repeat (first | exact .head _ | refine .tail _ ?_)); (case hy => rfl)))) ?_
  refine AD.popC rfl rfl rfl (POp.assign rfl rfl rfl) ?_
  refine AD.nil ?_
  refine DP.tailC 9 (by decide +kernel) rfl ?_
  refine OL.popC rfl rfl rfl (POp.assign rfl rfl rfl) ?_
  refine OL.nil ?_
  refine Done.seq ?_
  refine CW.seq ?_
  refine CW.seq ?_
  refine CW.region ?_
  refine OL.popC rfl rfl rfl (POp.move rfl rfl rfl) ?_
  refine OL.popC rfl rfl rfl ((by first | exact POp.nilCheck rfl rfl rfl | exact POp.nilCheckP rfl rfl rfl | exact POp.nilCheckF rfl rfl rfl)) ?_
  refine OL.popC rfl rfl rfl ((by first | exact POp.fa rfl rfl rfl rfl | exact POp.faP rfl rfl rfl rfl)) ?_
  refine OL.popC rfl rfl rfl ((by first | exact POp.ld1 rfl rfl rfl rfl | (apply POp.ld1H rfl rfl rfl; (case hm => repeat (first | exact .head _ | refine .tail _ ?_)); (case hy => rfl)))) ?_
  refine OL.popC rfl rfl rfl (POp.move rfl rfl rfl) ?_
  refine OL.guardC rfl rfl rfl rfl rfl rfl (fun hg => POp.move rfl rfl rfl) ?_
  refine OL.guardC rfl rfl rfl rfl rfl rfl (fun hg => POp.call (.mk' rfl rfl rfl rfl (by simp_all [strip, constAV])) (p107 _ 1 (by omega) (K.must _))) ?_
  refine OL.popC rfl rfl rfl (POp.pick rfl rfl rfl rfl rfl (fun _ => rfl) (by first | exact fun h => h | (intro h; rw [h]; rfl) | (intro h; simp_all))) ?_
  refine OL.popC rfl rfl rfl (POp.move rfl rfl rfl) ?_
  refine OL.guardC rfl rfl rfl rfl rfl rfl (fun hg => POp.move rfl rfl rfl) ?_
  refine OL.guardC rfl rfl rfl rfl rfl rfl (fun hg => POp.call (.mk' rfl rfl rfl rfl (by simp_all [strip, constAV])) (p107 _ 2 (by omega) (K.must _))) ?_
  refine OL.popC rfl rfl rfl (POp.pick rfl rfl rfl rfl rfl (fun _ => rfl) (by first | exact fun h => h | (intro h; rw [h]; rfl) | (intro h; simp_all))) ?_
  refine OL.popC rfl rfl rfl (POp.move rfl rfl rfl) ?_
  refine OL.guardC rfl rfl rfl rfl rfl rfl (fun hg => POp.move rfl rfl rfl) ?_
  refine OL.guardC rfl rfl rfl rfl rfl rfl (fun hg => POp.call (.mk' rfl rfl rfl rfl (by simp_all [strip, constAV])) (p107 _ 0 (by omega) (K.no _))) ?_
  refine OL.popC rfl rfl rfl (POp.pick rfl rfl rfl rfl rfl (fun _ => rfl) (by first | exact fun h => h | (intro h; rw [h]; rfl) | (intro h; simp_all))) ?_
  refine OL.nil ?_
  refine Done.seq ?_
  refine CW.cond rfl (fun h0 => ?_) (fun h0 => ?_)
  ·
    have hob := objectK_no (W := W) (can := can) h0
    refine CW.seq ?_
    refine CW.region ?_
    refine OL.popC rfl rfl rfl (POp.assign rfl rfl rfl) ?_
    refine OL.popC rfl rfl rfl (POp.assign rfl rfl rfl) ?_
    refine OL.nil ?_
    refine Done.seq ?_
    refine CW.ret ?_
    refine Done.thenRet ?_
    refine Done.retR (rs := [.tmp 4, .tmp 5]) (H' := H) rfl (.tmp rfl (.tmp rfl (.nil))) (AVleL.refl _) (by repeat (first | exact List.Sublist.refl _ | refine List.Sublist.cons _ ?_)) ?_
    exact ⟨by rw [hob]; rfl, rfl⟩
  ·
    have h0 := h0
    refine CW.skip ?_
    refine Done.seq ?_
    refine CW.seq ?_
    refine CW.seq ?_
    refine CW.region ?_
    refine OL.popC rfl rfl rfl (POp.move rfl rfl rfl) ?_
    refine OL.popC rfl rfl rfl ((by first | exact POp.nilCheck rfl rfl rfl | exact POp.nilCheckP rfl rfl rfl | exact POp.nilCheckF rfl rfl rfl)) ?_
    refine OL.popC rfl rfl rfl ((by first | exact POp.fa rfl rfl rfl rfl | exact POp.faP rfl rfl rfl rfl)) ?_
    refine OL.popC rfl rfl rfl ((by first | exact POp.ld1 rfl rfl rfl rfl | (apply POp.ld1H rfl rfl rfl; (case hm => repeat (first | exact .head _ | refine .tail _ ?_)); (case hy => rfl)))) ?_
    refine OL.popC rfl rfl rfl ((by first | exact POp.lenM rfl rfl rfl | exact POp.lenA rfl rfl rfl | exact POp.lenV rfl rfl rfl | exact POp.len' rfl rfl rfl)) ?_
    refine OL.popC rfl rfl rfl (POp.move rfl rfl rfl) ?_
    refine OL.nil ?_
    refine Done.seq ?_
    refine CW.block ?_
    refine CW.loopJ (fun m st => ∃ (k must no : Nat), st = ⟨[(47, .i k), (46, .i (kn (keyS arg path)).slots.length), (45, AV.ints (kn (keyS arg path)).slots), (7, AV.set must), (8, AV.set no), (0, sceneP W mb), (3, .ptr (spotCells arg path))], H⟩ ∧ m = (kn (keyS arg path)).slots.length - k ∧ k ≤ (kn (keyS arg path)).slots.length ∧ must < 18446744073709551616 ∧ no < 18446744073709551616 ∧ slotsK W kn can arg path ((kn (keyS arg path)).slots.drop k) must no = slotsK W kn can arg path (kn (keyS arg path)).slots (kn (keyS arg path)).must (kn (keyS arg path)).no) ⟨_, _, ⟨0, _, _, rfl, rfl, Nat.zero_le _, K.must _, K.no _, rfl⟩, (by repeat (first | exact trivial | refine ⟨rfl, ?_⟩)), (by repeat (first | exact List.Sublist.refl _ | refine List.Sublist.cons _ ?_))⟩ ?_
    rintro m _ ⟨k, must, no, rfl, rfl, hk, hmu, hno, hs⟩
    refine CW.boundM (t := 45) rfl (fun hbs => ?_)
    refine CW.seq ?_
    refine CW.region ?_
    refine OL.popC rfl rfl rfl (POp.cmp rfl rfl rfl rfl rfl rfl) ?_
    refine OL.nil ?_
    refine Done.seq ?_
    refine CW.seq ?_
    refine CW.cond rfl (fun h1 => ?_) (fun h1 => ?_)
    ·
      try simp only [decide_eq_true_eq, decide_eq_false_iff_not, beq_iff_eq, bne_iff_ne, ne_eq, Int.not_lt, Int.not_le, beq_eq_false_iff_ne, gt_iff_lt, ge_iff_le, Bool.not_eq_true, Bool.not_eq_false, Bool.not_eq_false', bne_eq_false_iff_eq] at h1
      refine CW.skip ?_
      refine Done.seq ?_
      refine CW.seq ?_
      refine CW.block ?_
      refine CW.seq ?_
      refine CW.region ?_
      refine OL.popC rfl rfl rfl ((by first | exact POp.ixM rfl rfl rfl rfl rfl (by omega) | exact POp.ixI rfl rfl rfl rfl rfl (by omega))) ?_
      refine OL.popC rfl rfl rfl ((by first | exact POp.ld1 rfl rfl rfl rfl | (apply POp.ld1H rfl rfl rfl; (case hm => repeat (first | exact .head _ | refine .tail _ ?_)); (case hy => rfl)))) ?_
      refine OL.popC rfl rfl rfl (POp.assign rfl rfl rfl) ?_
      refine OL.nil ?_
      refine Done.seq ?_
      refine CW.seq ?_
      have hsm : (kn (keyS arg path)).slots.getD k default ∈ (kn (keyS arg path)).slots := getD_mem (by omega)
      have hn2 := kn_next K hW h hsm
      have hsl := K.slot arg path h _ hsm
      have how := owner_ok hw (i := ((kn (keyS arg path)).slots.getD k default).toNat) (by omega)
      refine CW.region ?_
      refine OL.popC rfl rfl rfl ((by first | exact POp.ldA rfl rfl rfl rfl | (apply POp.ldAH rfl rfl rfl; (case hm => repeat (first | exact .head _ | refine .tail _ ?_)); (case hy => rfl); (case hn => rfl)))) ?_
      refine OL.popC rfl rfl rfl (POp.move rfl rfl rfl) ?_
      refine OL.popC rfl rfl rfl (POp.call (.mk' rfl rfl rfl rfl rfl) (p171 arg path ((kn (keyS arg path)).slots.getD k default) hn2.1)) ?_
      refine OL.alC rfl rfl rfl rfl (fun b0 => ?_)
      apply OL.stoC rfl rfl rfl rfl rfl rfl rfl rfl rfl rfl
      (case hu => repeat (first | exact Upd.head _ _ _ | apply Upd.tail)); (case hfit => rfl); (case hds => rfl)
      refine OL.nil ?_
      refine Done.seq ?_
      refine CW.seq ?_
      refine CW.dp mixed ?_
      refine DP.anyC 0 9 136 rfl (by decide +kernel) rfl rfl (by decide +kernel) ?_
      refine AD.popC rfl rfl rfl (POp.move rfl rfl rfl) ?_
      refine AD.popC rfl rfl rfl ((by first | exact POp.ldA rfl rfl rfl rfl | (apply POp.ldAH rfl rfl rfl; (case hm => repeat (first | exact .head _ | refine .tail _ ?_)); (case hy => rfl); (case hn => rfl)))) ?_
      refine AD.popC rfl rfl rfl (POp.callIn (.mk' rfl rfl rfl rfl rfl) (AVleL.refl _) (p170 W mb kn arg (path ++ [(kn (keyS arg path)).slots.getD k default]) (goodKey_of hn2.2)) (fun e he => by repeat (first | exact hm e he | apply List.mem_cons_of_mem))) ?_
      refine AD.popC rfl rfl rfl ((by first | exact POp.nilCheck rfl rfl rfl | exact POp.nilCheckP rfl rfl rfl | exact POp.nilCheckF rfl rfl rfl)) ?_
      refine AD.popC rfl rfl rfl ((by first | exact POp.fa rfl rfl rfl rfl | exact POp.faP rfl rfl rfl rfl)) ?_
      refine AD.popC rfl rfl rfl ((by first | exact POp.ld1 rfl rfl rfl rfl | (apply POp.ld1H rfl rfl rfl; (case hm => repeat (first | exact .head _ | refine .tail _ ?_)); (case hy => rfl)))) ?_
      refine AD.popC rfl rfl rfl (POp.move rfl rfl rfl) ?_
      refine AD.popC rfl rfl rfl ((by first | exact POp.ldA rfl rfl rfl rfl | (apply POp.ldAH rfl rfl rfl; (case hm => repeat (first | exact .head _ | refine .tail _ ?_)); (case hy => rfl); (case hn => rfl)))) ?_
      refine AD.popC rfl rfl rfl (POp.callIn (.mk' rfl rfl rfl rfl rfl) (AVleL.refl _) (ih _ hsm) (fun e he => by repeat (first | exact hm e he | apply List.mem_cons_of_mem))) ?_
      refine AD.nil ?_
      refine DP.tailC 9 (by decide +kernel) rfl ?_
      refine OL.popC rfl rfl rfl (POp.assign rfl rfl rfl) ?_
      refine OL.popC rfl rfl rfl (POp.assign rfl rfl rfl) ?_
      refine OL.nil ?_
      refine Done.seq ?_
      refine CW.block ?_
      refine CW.seq ?_
      refine CW.region ?_
      refine OL.popC rfl rfl rfl (POp.move rfl rfl rfl) ?_
      refine OL.popC rfl rfl rfl (POp.move rfl rfl rfl) ?_
      refine OL.guardC rfl rfl rfl rfl rfl rfl (fun hg => POp.move rfl rfl rfl) ?_
      refine OL.guardC rfl rfl rfl rfl rfl rfl (fun hg => POp.not rfl rfl (by first | rfl | exact hg | exact (Bool.and_eq_true_iff.1 hg).1 | exact (Bool.and_eq_true_iff.1 (Bool.and_eq_true_iff.1 hg).1).1 | simp_all)) ?_
      refine OL.popC rfl rfl rfl (POp.pick rfl rfl rfl rfl rfl (by first | exact fun h => h | (intro h; rw [h]; rfl) | (intro h; simp_all)) (fun _ => rfl)) ?_
      refine OL.popC rfl rfl rfl (POp.assign rfl rfl rfl) ?_
      refine OL.nil ?_
      refine Done.seq ?_
      refine CW.cond rfl (fun h2 => ?_) (fun h2 => ?_)
      ·
        have hob := objectK_none (W := W) (can := can) (by rw [← hs, slotsK_step (l := (kn (keyS arg path)).slots) (k := k) (by omega)]; exact slotsK_fail h2)
        refine CW.seq ?_
        refine CW.region ?_
        refine OL.popC rfl rfl rfl (POp.assign rfl rfl rfl) ?_
        refine OL.popC rfl rfl rfl (POp.assign rfl rfl rfl) ?_
        refine OL.nil ?_
        refine Done.seq ?_
        refine CW.ret ?_
        refine Done.blkRet ?_
        refine Done.blkRet ?_
        refine Done.thenRet ?_
        refine Done.thenRet ?_
        refine Done.blkRet ?_
        refine Done.thenRet ?_
        refine Done.retR (rs := [.tmp 4, .tmp 5]) (H' := H) rfl (.tmp rfl (.tmp rfl (.nil))) (AVleL.refl _) (by repeat (first | exact List.Sublist.refl _ | refine List.Sublist.cons _ ?_)) ?_
        exact ⟨by rw [hob]; rfl, rfl⟩
      ·
        have h2 := h2
        refine CW.seq ?_
        refine CW.region ?_
        refine OL.popC rfl rfl rfl (POp.move rfl rfl rfl) ?_
        refine OL.popC rfl rfl rfl (POp.assign rfl rfl rfl) ?_
        refine OL.nil ?_
        refine Done.seq ?_
        refine CW.cond rfl (fun h3 => ?_) (fun h3 => ?_)
        ·
          try simp only [decide_eq_true_eq, decide_eq_false_iff_not, beq_iff_eq, bne_iff_ne, ne_eq, Int.not_lt, Int.not_le, beq_eq_false_iff_ne, gt_iff_lt, ge_iff_le, Bool.not_eq_true, Bool.not_eq_false, Bool.not_eq_false', bne_eq_false_iff_eq] at h3
          refine CW.region ?_
          refine OL.popC rfl rfl rfl (POp.move rfl rfl rfl) ?_
          refine OL.popC rfl rfl rfl (POp.move rfl rfl rfl) ?_
          refine OL.popC rfl rfl rfl ((by first | exact POp.nilCheck rfl rfl rfl | exact POp.nilCheckP rfl rfl rfl | exact POp.nilCheckF rfl rfl rfl)) ?_
          refine OL.popC rfl rfl rfl ((by first | exact POp.fa rfl rfl rfl rfl | exact POp.faP rfl rfl rfl rfl)) ?_
          refine OL.popC rfl rfl rfl ((by first | exact POp.ld1 rfl rfl rfl rfl | (apply POp.ld1H rfl rfl rfl; (case hm => repeat (first | exact .head _ | refine .tail _ ?_)); (case hy => rfl)))) ?_
          refine OL.popC rfl rfl rfl ((by first | exact POp.nilCheck rfl rfl rfl | exact POp.nilCheckP rfl rfl rfl | exact POp.nilCheckF rfl rfl rfl)) ?_
          refine OL.popC rfl rfl rfl ((by first | exact POp.fa rfl rfl rfl rfl | exact POp.faP rfl rfl rfl rfl)) ?_
          refine OL.popC rfl rfl rfl ((by first | exact POp.fa rfl rfl rfl rfl | exact POp.faP rfl rfl rfl rfl)) ?_
          refine OL.popC rfl rfl rfl ((by first | exact POp.ld1 rfl rfl rfl rfl | (apply POp.ld1H rfl rfl rfl; (case hm => repeat (first | exact .head _ | refine .tail _ ?_)); (case hy => rfl)))) ?_
          refine OL.popC rfl rfl rfl (POp.move rfl rfl rfl) ?_
          refine OL.popC rfl rfl rfl ((by first | exact POp.ixM rfl rfl rfl rfl rfl (by omega) | exact POp.ixI rfl rfl rfl rfl rfl (by omega))) ?_
          refine OL.popC rfl rfl rfl ((by first | exact POp.ld1 rfl rfl rfl rfl | (apply POp.ld1H rfl rfl rfl; (case hm => repeat (first | exact .head _ | refine .tail _ ?_)); (case hy => rfl)))) ?_
          refine OL.popC rfl rfl rfl (POp.call (.mk' rfl rfl rfl rfl rfl) ((p151 _ _ (by omega) (by omega)))) ?_
          refine OL.popC rfl rfl rfl (POp.assign rfl rfl rfl) ?_
          refine OL.nil ?_
          refine Done.blkNormal ?_
          refine Done.blkNormal ?_
          refine Done.seq ?_
          refine CW.region ?_
          refine OL.popC rfl rfl rfl (POp.arith rfl rfl rfl rfl rfl rfl (wrap64 (by omega))) ?_
          refine OL.popC rfl rfl rfl (POp.move rfl rfl rfl) ?_
          refine OL.nil ?_
          refine Done.againJ (⟨k + 1, must ||| 2 ^ (W.owner.getD ((kn (keyS arg path)).slots.getD k default).toNat default).toNat, no, rfl, rfl, by omega, or64 hmu (pow64 (by omega)), hno, by rw [← hs, slotsK_step (l := (kn (keyS arg path)).slots) (k := k) (by omega)]; exact slotsK_need h2 h3⟩) ?_ ?_ ?_
          · omega
          · repeat (first | exact trivial | refine ⟨rfl, ?_⟩)
          · repeat (first | exact List.Sublist.refl _ | refine List.Sublist.cons _ ?_)
        ·
          try simp only [decide_eq_true_eq, decide_eq_false_iff_not, beq_iff_eq, bne_iff_ne, ne_eq, Int.not_lt, Int.not_le, beq_eq_false_iff_ne, gt_iff_lt, ge_iff_le, Bool.not_eq_true, Bool.not_eq_false, Bool.not_eq_false', bne_eq_false_iff_eq] at h3
          refine CW.seq ?_
          refine CW.region ?_
          refine OL.popC rfl rfl rfl (POp.move rfl rfl rfl) ?_
          refine OL.popC rfl rfl rfl (POp.not rfl rfl rfl) ?_
          refine OL.popC rfl rfl rfl (POp.assign rfl rfl rfl) ?_
          refine OL.nil ?_
          refine Done.seq ?_
          refine CW.cond rfl (fun h4 => ?_) (fun h4 => ?_)
          ·
            try simp only [decide_eq_true_eq, decide_eq_false_iff_not, beq_iff_eq, bne_iff_ne, ne_eq, Int.not_lt, Int.not_le, beq_eq_false_iff_ne, gt_iff_lt, ge_iff_le, Bool.not_eq_true, Bool.not_eq_false, Bool.not_eq_false', bne_eq_false_iff_eq] at h4
            refine CW.region ?_
            refine OL.popC rfl rfl rfl (POp.move rfl rfl rfl) ?_
            refine OL.popC rfl rfl rfl (POp.move rfl rfl rfl) ?_
            refine OL.popC rfl rfl rfl ((by first | exact POp.nilCheck rfl rfl rfl | exact POp.nilCheckP rfl rfl rfl | exact POp.nilCheckF rfl rfl rfl)) ?_
            refine OL.popC rfl rfl rfl ((by first | exact POp.fa rfl rfl rfl rfl | exact POp.faP rfl rfl rfl rfl)) ?_
            refine OL.popC rfl rfl rfl ((by first | exact POp.ld1 rfl rfl rfl rfl | (apply POp.ld1H rfl rfl rfl; (case hm => repeat (first | exact .head _ | refine .tail _ ?_)); (case hy => rfl)))) ?_
            refine OL.popC rfl rfl rfl ((by first | exact POp.nilCheck rfl rfl rfl | exact POp.nilCheckP rfl rfl rfl | exact POp.nilCheckF rfl rfl rfl)) ?_
            refine OL.popC rfl rfl rfl ((by first | exact POp.fa rfl rfl rfl rfl | exact POp.faP rfl rfl rfl rfl)) ?_
            refine OL.popC rfl rfl rfl ((by first | exact POp.fa rfl rfl rfl rfl | exact POp.faP rfl rfl rfl rfl)) ?_
            refine OL.popC rfl rfl rfl ((by first | exact POp.ld1 rfl rfl rfl rfl | (apply POp.ld1H rfl rfl rfl; (case hm => repeat (first | exact .head _ | refine .tail _ ?_)); (case hy => rfl)))) ?_
            refine OL.popC rfl rfl rfl (POp.move rfl rfl rfl) ?_
            refine OL.popC rfl rfl rfl ((by first | exact POp.ixM rfl rfl rfl rfl rfl (by omega) | exact POp.ixI rfl rfl rfl rfl rfl (by omega))) ?_
            refine OL.popC rfl rfl rfl ((by first | exact POp.ld1 rfl rfl rfl rfl | (apply POp.ld1H rfl rfl rfl; (case hm => repeat (first | exact .head _ | refine .tail _ ?_)); (case hy => rfl)))) ?_
            refine OL.popC rfl rfl rfl (POp.call (.mk' rfl rfl rfl rfl rfl) ((p151 _ _ (by omega) (by omega)))) ?_
            refine OL.popC rfl rfl rfl (POp.assign rfl rfl rfl) ?_
            refine OL.nil ?_
            refine Done.blkNormal ?_
            refine Done.blkNormal ?_
            refine Done.seq ?_
            refine CW.region ?_
            refine OL.popC rfl rfl rfl (POp.arith rfl rfl rfl rfl rfl rfl (wrap64 (by omega))) ?_
            refine OL.popC rfl rfl rfl (POp.move rfl rfl rfl) ?_
            refine OL.nil ?_
            refine Done.againJ (⟨k + 1, must, no ||| 2 ^ (W.owner.getD ((kn (keyS arg path)).slots.getD k default).toNat default).toNat, rfl, rfl, by omega, hmu, or64 hno (pow64 (by omega)), by rw [← hs, slotsK_step (l := (kn (keyS arg path)).slots) (k := k) (by omega)]; exact slotsK_not (by simpa using h3) (by simpa using h4)⟩) ?_ ?_ ?_
            · omega
            · repeat (first | exact trivial | refine ⟨rfl, ?_⟩)
            · repeat (first | exact List.Sublist.refl _ | refine List.Sublist.cons _ ?_)
          ·
            try simp only [decide_eq_true_eq, decide_eq_false_iff_not, beq_iff_eq, bne_iff_ne, ne_eq, Int.not_lt, Int.not_le, beq_eq_false_iff_ne, gt_iff_lt, ge_iff_le, Bool.not_eq_true, Bool.not_eq_false, Bool.not_eq_false', bne_eq_false_iff_eq] at h4
            refine CW.skip ?_
            refine Done.blkNormal ?_
            refine Done.blkNormal ?_
            refine Done.seq ?_
            refine CW.region ?_
            refine OL.popC rfl rfl rfl (POp.arith rfl rfl rfl rfl rfl rfl (wrap64 (by omega))) ?_
            refine OL.popC rfl rfl rfl (POp.move rfl rfl rfl) ?_
            refine OL.nil ?_
            refine Done.againJ (⟨k + 1, must, no, rfl, rfl, by omega, hmu, hno, by rw [← hs, slotsK_step (l := (kn (keyS arg path)).slots) (k := k) (by omega)]; exact slotsK_free (by simpa using h3) (by simpa using h4)⟩) ?_ ?_ ?_
            · omega
            · repeat (first | exact trivial | refine ⟨rfl, ?_⟩)
            · repeat (first | exact List.Sublist.refl _ | refine List.Sublist.cons _ ?_)
    ·
      try simp only [decide_eq_true_eq, decide_eq_false_iff_not, beq_iff_eq, bne_iff_ne, ne_eq, Int.not_lt, Int.not_le, beq_eq_false_iff_ne, gt_iff_lt, ge_iff_le, Bool.not_eq_true, Bool.not_eq_false, Bool.not_eq_false', bne_eq_false_iff_eq] at h1
      obtain rfl : k = (kn (keyS arg path)).slots.length := by omega
      rw [List.drop_length, slotsK] at hs
      have hob := objectK_some (W := W) (can := can) h0 hs
      refine CW.exit ?_
      refine Done.thenExit ?_
      refine Done.thenExit ?_
      refine Done.blkExit ?_
      refine Done.seq ?_
      refine CW.seq ?_
      refine CW.seq ?_
      refine CW.region ?_
      refine OL.popC rfl rfl rfl (POp.assign rfl rfl rfl) ?_
      refine OL.nil ?_
      refine Done.seq ?_
      refine CW.block ?_
      refine CW.loopJ (fun m st => ∃ (c mu : Nat), st = ⟨[(14, .i c), (7, AV.set mu), (8, AV.set no), (0, sceneP W mb), (3, .ptr (spotCells arg path))], H⟩ ∧ m = 3 + W.parents.length - c ∧ 3 ≤ c ∧ c ≤ 3 + W.parents.length ∧ mu < 18446744073709551616 ∧ closeK W (3 + W.parents.length - c) c mu = closeK W W.parents.length 3 must) ⟨_, _, ⟨3, must, rfl, rfl, by omega, by omega, hmu, by rw [Nat.add_sub_cancel_left]⟩, (by repeat (first | exact trivial | refine ⟨rfl, ?_⟩)), (by repeat (first | exact List.Sublist.refl _ | refine List.Sublist.cons _ ?_))⟩ ?_
      rintro m _ ⟨c, mu, rfl, rfl, hc3, hc, hmu2, hcl⟩
      refine CW.seq ?_
      refine CW.seq ?_
      refine CW.region ?_
      refine OL.popC rfl rfl rfl (POp.move rfl rfl rfl) ?_
      refine OL.popC rfl rfl rfl (POp.move rfl rfl rfl) ?_
      refine OL.popC rfl rfl rfl ((by first | exact POp.nilCheck rfl rfl rfl | exact POp.nilCheckP rfl rfl rfl | exact POp.nilCheckF rfl rfl rfl)) ?_
      refine OL.popC rfl rfl rfl ((by first | exact POp.fa rfl rfl rfl rfl | exact POp.faP rfl rfl rfl rfl)) ?_
      refine OL.popC rfl rfl rfl ((by first | exact POp.ld1 rfl rfl rfl rfl | (apply POp.ld1H rfl rfl rfl; (case hm => repeat (first | exact .head _ | refine .tail _ ?_)); (case hy => rfl)))) ?_
      refine OL.popC rfl rfl rfl ((by first | exact POp.nilCheck rfl rfl rfl | exact POp.nilCheckP rfl rfl rfl | exact POp.nilCheckF rfl rfl rfl)) ?_
      refine OL.popC rfl rfl rfl ((by first | exact POp.fa rfl rfl rfl rfl | exact POp.faP rfl rfl rfl rfl)) ?_
      refine OL.popC rfl rfl rfl ((by first | exact POp.fa rfl rfl rfl rfl | exact POp.faP rfl rfl rfl rfl)) ?_
      refine OL.popC rfl rfl rfl ((by first | exact POp.ld1 rfl rfl rfl rfl | (apply POp.ld1H rfl rfl rfl; (case hm => repeat (first | exact .head _ | refine .tail _ ?_)); (case hy => rfl)))) ?_
      refine OL.popC rfl rfl rfl ((by first | exact POp.lenM rfl rfl rfl | exact POp.lenA rfl rfl rfl | exact POp.lenV rfl rfl rfl | exact POp.len' rfl rfl rfl)) ?_
      refine OL.popC rfl rfl rfl (POp.arith rfl rfl rfl rfl rfl rfl (wrap64 (by omega))) ?_
      refine OL.popC rfl rfl rfl (POp.cmp rfl rfl rfl rfl rfl rfl) ?_
      refine OL.nil ?_
      refine Done.seq ?_
      refine CW.cond rfl (fun h5 => ?_) (fun h5 => ?_)
      ·
        try simp only [decide_eq_true_eq, decide_eq_false_iff_not, beq_iff_eq, bne_iff_ne, ne_eq, Int.not_lt, Int.not_le, beq_eq_false_iff_ne, gt_iff_lt, ge_iff_le, Bool.not_eq_true, Bool.not_eq_false, Bool.not_eq_false', bne_eq_false_iff_eq] at h5
        refine CW.skip ?_
        refine Done.seq ?_
        refine CW.seq ?_
        refine CW.block ?_
        refine CW.seq ?_
        refine CW.region ?_
        refine OL.popC rfl rfl rfl (POp.move rfl rfl rfl) ?_
        refine OL.popC rfl rfl rfl (POp.move rfl rfl rfl) ?_
        refine OL.popC rfl rfl rfl (POp.call (.mk' rfl rfl rfl rfl rfl) ((p107 _ _ (by omega) (by assumption)))) ?_
        refine OL.nil ?_
        refine Done.seq ?_
        refine CW.cond rfl (fun h6 => ?_) (fun h6 => ?_)
        ·
          try simp only [decide_eq_true_eq, decide_eq_false_iff_not, beq_iff_eq, bne_iff_ne, ne_eq, Int.not_lt, Int.not_le, beq_eq_false_iff_ne, gt_iff_lt, ge_iff_le, Bool.not_eq_true, Bool.not_eq_false, Bool.not_eq_false', bne_eq_false_iff_eq] at h6
          refine CW.region ?_
          refine OL.popC rfl rfl rfl (POp.move rfl rfl rfl) ?_
          refine OL.popC rfl rfl rfl (POp.move rfl rfl rfl) ?_
          refine OL.popC rfl rfl rfl ((by first | exact POp.nilCheck rfl rfl rfl | exact POp.nilCheckP rfl rfl rfl | exact POp.nilCheckF rfl rfl rfl)) ?_
          refine OL.popC rfl rfl rfl ((by first | exact POp.fa rfl rfl rfl rfl | exact POp.faP rfl rfl rfl rfl)) ?_
          refine OL.popC rfl rfl rfl ((by first | exact POp.ld1 rfl rfl rfl rfl | (apply POp.ld1H rfl rfl rfl; (case hm => repeat (first | exact .head _ | refine .tail _ ?_)); (case hy => rfl)))) ?_
          refine OL.popC rfl rfl rfl (POp.move rfl rfl rfl) ?_
          refine OL.popC rfl rfl rfl ((by first | exact POp.nilCheck rfl rfl rfl | exact POp.nilCheckP rfl rfl rfl | exact POp.nilCheckF rfl rfl rfl)) ?_
          refine OL.popC rfl rfl rfl ((by first | exact POp.fa rfl rfl rfl rfl | exact POp.faP rfl rfl rfl rfl)) ?_
          refine OL.popC rfl rfl rfl ((by first | exact POp.ia rfl rfl rfl rfl rfl (by omega) | exact POp.iaP rfl rfl rfl rfl rfl (by omega))) ?_
          refine OL.popC rfl rfl rfl (POp.ld1 rfl rfl rfl (up_drop (c := c) (by simp) (by rw [ups_len]; omega))) ?_
          refine OL.popC rfl rfl rfl (POp.bits rfl rfl rfl rfl rfl (bit_or _ _ hmu2 (u_get (ups_lt hP) _))) ?_
          refine OL.popC rfl rfl rfl (POp.assign rfl rfl rfl) ?_
          refine OL.nil ?_
          refine Done.blkNormal ?_
          refine Done.seq ?_
          refine CW.region ?_
          refine OL.popC rfl rfl rfl (POp.move rfl rfl rfl) ?_
          refine OL.popC rfl rfl rfl (POp.arith rfl rfl rfl rfl rfl rfl (wrap64 (by omega))) ?_
          refine OL.popC rfl rfl rfl (POp.assign rfl rfl rfl) ?_
          refine OL.nil ?_
          refine Done.againJ (⟨c + 1, mu ||| (upsP W).getD c 0, rfl, rfl, by omega, by omega, or64 hmu2 (u_get (ups_lt hP) _), by have := closeK_step (by omega) hcl; rwa [if_pos (by simpa using h6)] at this⟩) ?_ ?_ ?_
          · omega
          · repeat (first | exact trivial | refine ⟨rfl, ?_⟩)
          · repeat (first | exact List.Sublist.refl _ | refine List.Sublist.cons _ ?_)
        ·
          try simp only [decide_eq_true_eq, decide_eq_false_iff_not, beq_iff_eq, bne_iff_ne, ne_eq, Int.not_lt, Int.not_le, beq_eq_false_iff_ne, gt_iff_lt, ge_iff_le, Bool.not_eq_true, Bool.not_eq_false, Bool.not_eq_false', bne_eq_false_iff_eq] at h6
          refine CW.skip ?_
          refine Done.blkNormal ?_
          refine Done.seq ?_
          refine CW.region ?_
          refine OL.popC rfl rfl rfl (POp.move rfl rfl rfl) ?_
          refine OL.popC rfl rfl rfl (POp.arith rfl rfl rfl rfl rfl rfl (wrap64 (by omega))) ?_
          refine OL.popC rfl rfl rfl (POp.assign rfl rfl rfl) ?_
          refine OL.nil ?_
          refine Done.againJ (⟨c + 1, mu, rfl, rfl, by omega, by omega, hmu2, by have := closeK_step (by omega) hcl; rwa [if_neg (by simpa using h6)] at this⟩) ?_ ?_ ?_
          · omega
          · repeat (first | exact trivial | refine ⟨rfl, ?_⟩)
          · repeat (first | exact List.Sublist.refl _ | refine List.Sublist.cons _ ?_)
      ·
        try simp only [decide_eq_true_eq, decide_eq_false_iff_not, beq_iff_eq, bne_iff_ne, ne_eq, Int.not_lt, Int.not_le, beq_eq_false_iff_ne, gt_iff_lt, ge_iff_le, Bool.not_eq_true, Bool.not_eq_false, Bool.not_eq_false', bne_eq_false_iff_eq] at h5
        obtain rfl : c = 3 + W.parents.length := by omega
        rw [Nat.sub_self, closeK] at hcl
        refine CW.exit ?_
        refine Done.thenExit ?_
        refine Done.thenExit ?_
        refine Done.blkExit ?_
        refine Done.seq ?_
        refine CW.seq ?_
        refine CW.region ?_
        refine OL.popC rfl rfl rfl (POp.move rfl rfl rfl) ?_
        refine OL.popC rfl rfl rfl (POp.bits rfl rfl rfl rfl rfl (bit_andNot _ 1)) ?_
        refine OL.popC rfl rfl rfl (POp.assign rfl rfl rfl) ?_
        refine OL.nil ?_
        refine Done.seq ?_
        refine CW.seq ?_
        refine CW.region ?_
        refine OL.popC rfl rfl rfl (POp.move rfl rfl rfl) ?_
        refine OL.popC rfl rfl rfl (POp.move rfl rfl rfl) ?_
        refine OL.popC rfl rfl rfl (POp.move rfl rfl rfl) ?_
        refine OL.popC rfl rfl rfl (POp.bits rfl rfl rfl rfl rfl (bit_and _ _ (andNot_lt _ _) hno)) ?_
        refine OL.popC rfl rfl rfl (POp.cmp rfl rfl rfl rfl rfl rfl) ?_
        refine OL.popC rfl rfl rfl (POp.assign rfl rfl rfl) ?_
        refine OL.popC rfl rfl rfl (POp.assign rfl rfl rfl) ?_
        refine OL.nil ?_
        refine Done.seq ?_
        refine CW.ret ?_
        refine Done.retR (rs := [.tmp 4, .tmp 5]) (H' := H) rfl (.tmp rfl (.tmp rfl (.nil))) (AVleL.refl _) (by repeat (first | exact List.Sublist.refl _ | refine List.Sublist.cons _ ?_)) ?_
        exact ⟨by rw [hob, ← hcl]; rfl, rfl⟩
end Go.Proofs.YtiljpbljebfhnaaGreat

set_option linter.unusedVariables false
set_option linter.unusedSimpArgs false
set_option maxRecDepth 10000
namespace Go.Proofs.YtiljpbljebfhnaaGreat
open Go.Eng
open Go.Eng.Fc
theorem p186_step {W : FW} {mb : Nat} {kn : Value → Kn} (K : KnOk W kn) (hw : worldP W = true) {arg : Int} {path : List Int} (h : goodSpot arg path) (can : List Int → Bool) (ih : ∀ s ∈ (kn (keyS arg path)).slots, PCallIn Tryz.prog [sceneH mb kn] 186 [sceneP W mb, AV.spot arg (path ++ [s])] (.b (can (path ++ [s])))) :
    PCallIn Tryz.prog [sceneH mb kn] 186 [sceneP W mb, AV.spot arg path] (.b (integerOk kn arg path || noneOk kn arg path || (objectK W kn can arg path).2)) := by
  intro H hm
  refine ACall.mk' (n := 28) Tryz.func186 rfl (by kernel_rfl) rfl rfl (fun B I w0 => ?_)
  have hW := world_own hw
  refine CW.seq ?_
  refine CW.region ?_
  refine OL.popC rfl rfl rfl (POp.boxI rfl rfl rfl rfl) ?_
  refine OL.popC rfl rfl rfl (POp.assign rfl rfl rfl) ?_
  refine OL.nil ?_
  refine Done.seq ?_
  refine CW.seq ?_
  refine CW.seq ?_
  refine CW.region ?_
  refine OL.popC rfl rfl rfl (POp.move rfl rfl rfl) ?_
  refine OL.popC rfl rfl rfl ((by first | exact POp.ldA rfl rfl rfl rfl | (apply POp.ldAH rfl rfl rfl; (case hm => repeat (first | exact .head _ | refine .tail _ ?_)); (case hy => rfl); (case hn => rfl)))) ?_
  refine OL.popC rfl rfl rfl (POp.callIn (.mk' rfl rfl rfl rfl rfl) (AVleL.refl _) (p166 K hW h) (fun e he => by repeat (first | exact hm e he | apply List.mem_cons_of_mem))) ?_
  refine OL.popC rfl rfl rfl (POp.move rfl rfl rfl) ?_
  refine OL.popC rfl rfl rfl (POp.extract rfl rfl rfl rfl) ?_
  refine OL.popC rfl rfl rfl (POp.extract rfl rfl rfl rfl) ?_
  refine OL.popC rfl rfl rfl (POp.assign rfl rfl rfl) ?_
  refine OL.popC rfl rfl rfl (POp.assign rfl rfl rfl) ?_
  refine OL.nil ?_
  refine Done.seq ?_
  refine CW.seq ?_
  refine CW.region ?_
  refine OL.popC rfl rfl rfl (POp.move rfl rfl rfl) ?_
  refine OL.popC rfl rfl rfl (POp.move rfl rfl rfl) ?_
  refine OL.guardC rfl rfl rfl rfl rfl rfl (fun hg => POp.move rfl rfl rfl) ?_
  refine OL.guardC rfl rfl rfl rfl rfl rfl (fun hg => (by first | exact POp.ldA rfl rfl rfl rfl | (apply POp.ldAH rfl rfl rfl; (case hm => repeat (first | exact .head _ | refine .tail _ ?_)); (case hy => rfl); (case hn => rfl)))) ?_
  refine OL.guardC rfl rfl rfl rfl rfl rfl (fun hg => POp.callIn (.mk' rfl rfl rfl rfl (by simp_all [strip, constAV])) (AVleL.refl _) (p167 K hW h) (fun e he => by repeat (first | exact hm e he | apply List.mem_cons_of_mem))) ?_
  refine OL.popC rfl rfl rfl (POp.pick rfl rfl rfl rfl rfl (fun _ => rfl) (by first | exact fun h => h | (intro h; rw [h]; rfl) | (intro h; simp_all))) ?_
  refine OL.nil ?_
  refine Done.seq ?_
  refine CW.cond rfl (fun h0 => ?_) (fun h0 => ?_)
  ·
    have hr : (integerOk kn arg path || noneOk kn arg path) = true := by rw [bif_or] at h0; exact h0
    refine CW.seq ?_
    refine CW.region ?_
    refine OL.popC rfl rfl rfl (POp.assign rfl rfl rfl) ?_
    refine OL.nil ?_
    refine Done.seq ?_
    refine CW.ret ?_
    refine Done.thenRet ?_
    refine Done.retR (rs := [.tmp 4]) (H' := H) rfl (.tmp rfl (.nil)) (AVleL.refl _) (by repeat (first | exact List.Sublist.refl _ | refine List.Sublist.cons _ ?_)) ?_
    exact ⟨retB (by rw [hr]; rfl), rfl⟩
  ·
    have hr : (integerOk kn arg path || noneOk kn arg path) = false := by rw [bif_or] at h0; exact h0
    refine CW.skip ?_
    refine Done.seq ?_
    refine CW.seq ?_
    refine CW.region ?_
    refine OL.popC rfl rfl rfl (POp.move rfl rfl rfl) ?_
    refine OL.popC rfl rfl rfl ((by first | exact POp.ldA rfl rfl rfl rfl | (apply POp.ldAH rfl rfl rfl; (case hm => repeat (first | exact .head _ | refine .tail _ ?_)); (case hy => rfl); (case hn => rfl)))) ?_
    refine OL.popC rfl rfl rfl (POp.callIn (.mk' rfl rfl rfl rfl rfl) (AVleL.refl _) (p168_step K hw h can ih) (fun e he => by repeat (first | exact hm e he | apply List.mem_cons_of_mem))) ?_
    refine OL.popC rfl rfl rfl (POp.move rfl rfl rfl) ?_
    refine OL.popC rfl rfl rfl (POp.extract rfl rfl rfl rfl) ?_
    refine OL.popC rfl rfl rfl (POp.extract rfl rfl rfl rfl) ?_
    refine OL.popC rfl rfl rfl (POp.assign rfl rfl rfl) ?_
    refine OL.popC rfl rfl rfl (POp.assign rfl rfl rfl) ?_
    refine OL.nil ?_
    refine Done.seq ?_
    refine CW.seq ?_
    refine CW.region ?_
    refine OL.popC rfl rfl rfl (POp.move rfl rfl rfl) ?_
    refine OL.popC rfl rfl rfl (POp.assign rfl rfl rfl) ?_
    refine OL.nil ?_
    refine Done.seq ?_
    refine CW.ret ?_
    refine Done.retR (rs := [.tmp 4]) (H' := H) rfl (.tmp rfl (.nil)) (AVleL.refl _) (by repeat (first | exact List.Sublist.refl _ | refine List.Sublist.cons _ ?_)) ?_
    exact ⟨retB (by rw [hr]; rfl), rfl⟩
theorem p186 {W : FW} {mb : Nat} {kn : Value → Kn} (K : KnOk W kn) (hw : worldP W = true) {arg : Int} : ∀ (d : Nat) (path : List Int), goodSpot arg path → path.length + d = 2 → PCallIn Tryz.prog [sceneH mb kn] 186 [sceneP W mb, AV.spot arg path] (.b (canK W kn d arg path))
  | 0, path, h, hd => p186_step K hw h (fun _ => false) (fun s hs => by rw [K.deep arg path h (by omega)] at hs; cases hs)
  | d + 1, path, h, hd => p186_step K hw h (canK W kn d arg) (fun s hs => p186 K hw d (path ++ [s]) (kn_next K (world_own hw) h hs).2 (by simp; omega))
end Go.Proofs.YtiljpbljebfhnaaGreat

set_option linter.unusedVariables false
set_option linter.unusedSimpArgs false
set_option maxRecDepth 10000
namespace Go.Proofs.YtiljpbljebfhnaaGreat
open Go.Eng
open Go.Eng.Fc
/-! ### the phase in which literals are read: what is known is private memory -/
abbrev intEls (l : List Int) : List (List AV) := l.map fun n => [AV.i n]
def KBcells (k : Kn) (vn vs : Value) : List AV := [.i k.low, .i k.high, .val vn, AV.set k.must, AV.set k.no, .b k.whole, .b k.needed, .val vs]
structure KB where
  key : Value
  blk : Nat
  kn : Kn
  vn : Value
  vs : Value
def rowE (vs : Value) (slots : List Int) : Ent := .row 3 1 vs (intEls slots).length (intEls slots).flatten
def KB.ents (e : KB) : List Ent := [.blk e.blk 209 (KBcells e.kn e.vn e.vs), rowE e.vn e.kn.nots, rowE e.vs e.kn.slots]
def askK (k : Kn) (l : FLit) : Kn :=
  if l.f.op = 2 then (if l.neg then { k with no := k.no ||| 2 ^ l.f.cls.toNat } else { k with must := k.must ||| 2 ^ l.f.cls.toNat })
  else if l.f.op = 3 then (if l.neg then { k with low := (if l.f.n > k.low then l.f.n else k.low) } else { k with high := (if l.f.n - 1 < k.high then l.f.n - 1 else k.high), whole := true })
  else if l.neg then { k with nots := k.nots ++ [l.f.n] }
  else { k with low := (if l.f.n > k.low then l.f.n else k.low), high := (if l.f.n < k.high then l.f.n else k.high), whole := true }
theorem rowE_snoc (v : Value) (l : List Int) (n : Int) : rowE v (l ++ [n]) = .row 3 1 v ((intEls l).length + 1) ((intEls l).flatten ++ [AV.i n]) := by
  simp [rowE, intEls]
structure LitOk (W : FW) (l : FLit) : Prop where
  op : 2 ≤ l.f.op ∧ l.f.op ≤ 4
  cls : l.f.op = 2 → 0 ≤ l.f.cls ∧ l.f.cls < 63
  n : -1000000000 ≤ l.f.n ∧ l.f.n ≤ 1000000000
  arg : 0 ≤ l.f.arg ∧ l.f.arg < 3
  path : l.f.path.length ≤ 2
  slot : ∀ s ∈ l.f.path, 0 ≤ s ∧ s < W.owner.length
  kids : l.f.kids = []
theorem p201 {W : FW} {l : FLit} (hl : LitOk W l) (B blk : Nat) (k : Kn) (vn vs : Value) (hm : k.must < 18446744073709551616) (hno : k.no < 18446744073709551616) (hns : k.nots.length ≤ 1000) (Hx : List Ent) :
    BCall B Tryz.prog 201 [.p blk 0, AV.lit l] (.blk blk 209 (KBcells k vn vs) :: rowE vn k.nots :: Hx) (fun y H' => ∃ vn', y = .tup [] ∧ H' = .blk blk 209 (KBcells (askK k l) vn' vs) :: rowE vn' (askK k l).nots :: Hx) (fun _ => False) := by
  refine BCall.of (n := 130) Tryz.func201 rfl (by kernel_rfl) rfl rfl (fun I w0 => ?_)
  have hcls := hl.cls
  have hn := hl.n
  refine CW.seq ?_
  refine CW.region ?_
  refine OL.popC rfl rfl rfl (POp.boxI rfl rfl rfl rfl) ?_
  refine OL.nil ?_
  refine Done.seq ?_
  refine CW.block ?_
  refine CW.seq ?_
  refine CW.region ?_
  refine OL.popC rfl rfl rfl ((by first | exact POp.fa rfl rfl rfl rfl | exact POp.faP rfl rfl rfl rfl)) ?_
  refine OL.popC rfl rfl rfl ((by first | exact POp.fa rfl rfl rfl rfl | exact POp.faP rfl rfl rfl rfl)) ?_
  refine OL.popC rfl rfl rfl ((by first | exact POp.ld1 rfl rfl rfl rfl | (apply POp.ld1H rfl rfl rfl; (case hm => repeat (first | exact .head _ | refine .tail _ ?_)); (case hy => rfl)))) ?_
  refine OL.popC rfl rfl rfl (POp.cmp rfl rfl rfl rfl rfl rfl) ?_
  refine OL.popC rfl rfl rfl (POp.move rfl rfl rfl) ?_
  refine OL.guardC rfl rfl rfl rfl rfl rfl (fun hg => (by first | exact POp.fa rfl rfl rfl rfl | exact POp.faP rfl rfl rfl rfl)) ?_
  refine OL.guardC rfl rfl rfl rfl rfl rfl (fun hg => (by first | exact POp.ld1 rfl rfl (by first | rfl | exact hg | exact (Bool.and_eq_true_iff.1 hg).1 | exact (Bool.and_eq_true_iff.1 (Bool.and_eq_true_iff.1 hg).1).1 | simp_all) rfl | (apply POp.ld1H rfl rfl (by first | rfl | exact hg | exact (Bool.and_eq_true_iff.1 hg).1 | exact (Bool.and_eq_true_iff.1 (Bool.and_eq_true_iff.1 hg).1).1 | simp_all); (case hm => repeat (first | exact .head _ | refine .tail _ ?_)); (case hy => rfl)))) ?_
  refine OL.popC rfl rfl rfl (POp.pick rfl rfl rfl rfl rfl (by first | exact fun h => h | (intro h; rw [h]; rfl) | (intro h; simp_all)) (fun _ => rfl)) ?_
  refine OL.popC rfl rfl rfl (POp.assign rfl rfl rfl) ?_
  refine OL.nil ?_
  refine Done.seq ?_
  refine CW.cond rfl (fun h0 => ?_) (fun h0 => ?_)
  ·
    try simp only [decide_eq_true_eq, decide_eq_false_iff_not, beq_iff_eq, bne_iff_ne, ne_eq, Int.not_lt, Int.not_le, beq_eq_false_iff_ne, gt_iff_lt, ge_iff_le, Bool.not_eq_true, Bool.not_eq_false, Bool.not_eq_false', bne_eq_false_iff_eq] at h0
    refine CW.dp mixed ?_
    refine DP.anyC 0 9 130 rfl (by decide +kernel) rfl rfl (by decide +kernel) ?_
    refine AD.popC rfl rfl rfl (POp.move rfl rfl rfl) ?_
    refine AD.popC rfl rfl rfl (POp.move rfl rfl rfl) ?_
    refine AD.popC rfl rfl rfl ((by first | exact POp.nilCheck rfl rfl rfl | exact POp.nilCheckP rfl rfl rfl | exact POp.nilCheckF rfl rfl rfl)) ?_
    refine AD.popC rfl rfl rfl ((by first | exact POp.fa rfl rfl rfl rfl | exact POp.faP rfl rfl rfl rfl)) ?_
    refine AD.popC rfl rfl rfl ((by first | exact POp.ld1 rfl rfl rfl rfl | (apply POp.ld1H rfl rfl rfl; (case hm => repeat (first | exact .head _ | refine .tail _ ?_)); (case hy => rfl)))) ?_
    refine AD.popC rfl rfl rfl ((by first | exact POp.fa rfl rfl rfl rfl | exact POp.faP rfl rfl rfl rfl)) ?_
    refine AD.popC rfl rfl rfl ((by first | exact POp.fa rfl rfl rfl rfl | exact POp.faP rfl rfl rfl rfl)) ?_
    refine AD.popC rfl rfl rfl ((by first | exact POp.ld1 rfl rfl rfl rfl | (apply POp.ld1H rfl rfl rfl; (case hm => repeat (first | exact .head _ | refine .tail _ ?_)); (case hy => rfl)))) ?_
    refine AD.popC rfl rfl rfl (POp.call (.mk' rfl rfl rfl rfl rfl) (p151 _ l.f.cls (by simp_all; omega) hno)) ?_
    refine AD.nil ?_
    refine DP.tailC 9 (by decide +kernel) rfl ?_
    refine OL.popC rfl rfl rfl ((by first | exact POp.nilCheck rfl rfl rfl | exact POp.nilCheckP rfl rfl rfl | exact POp.nilCheckF rfl rfl rfl)) ?_
    refine OL.popC rfl rfl rfl ((by first | exact POp.fa rfl rfl rfl rfl | exact POp.faP rfl rfl rfl rfl)) ?_
    apply OL.stoC rfl rfl rfl rfl rfl rfl rfl rfl rfl rfl
    (case hu => repeat (first | exact Upd.head _ _ _ | apply Upd.tail)); (case hfit => rfl); (case hds => rfl)
    refine OL.nil ?_
    refine Done.blkNormal ?_
    refine Done.norR (rs := []) rfl (.nil) (AVleL.refl _) (by repeat (first | exact List.Sublist.refl _ | refine List.Sublist.cons _ ?_)) ?_
    exact ⟨vn, rfl, by rw [show askK k l = { k with no := k.no ||| 2 ^ l.f.cls.toNat } by simp_all [askK]]; rfl⟩
  ·
    try simp only [decide_eq_true_eq, decide_eq_false_iff_not, beq_iff_eq, bne_iff_ne, ne_eq, Int.not_lt, Int.not_le, beq_eq_false_iff_ne, gt_iff_lt, ge_iff_le, Bool.not_eq_true, Bool.not_eq_false, Bool.not_eq_false', bne_eq_false_iff_eq] at h0
    refine CW.seq ?_
    refine CW.region ?_
    refine OL.popC rfl rfl rfl ((by first | exact POp.fa rfl rfl rfl rfl | exact POp.faP rfl rfl rfl rfl)) ?_
    refine OL.popC rfl rfl rfl ((by first | exact POp.fa rfl rfl rfl rfl | exact POp.faP rfl rfl rfl rfl)) ?_
    refine OL.popC rfl rfl rfl ((by first | exact POp.ld1 rfl rfl rfl rfl | (apply POp.ld1H rfl rfl rfl; (case hm => repeat (first | exact .head _ | refine .tail _ ?_)); (case hy => rfl)))) ?_
    refine OL.popC rfl rfl rfl (POp.cmp rfl rfl rfl rfl rfl rfl) ?_
    refine OL.popC rfl rfl rfl (POp.assign rfl rfl rfl) ?_
    refine OL.nil ?_
    refine Done.seq ?_
    refine CW.cond rfl (fun h1 => ?_) (fun h1 => ?_)
    ·
      try simp only [decide_eq_true_eq, decide_eq_false_iff_not, beq_iff_eq, bne_iff_ne, ne_eq, Int.not_lt, Int.not_le, beq_eq_false_iff_ne, gt_iff_lt, ge_iff_le, Bool.not_eq_true, Bool.not_eq_false, Bool.not_eq_false', bne_eq_false_iff_eq] at h1
      refine CW.dp mixed ?_
      refine DP.anyC 0 9 130 rfl (by decide +kernel) rfl rfl (by decide +kernel) ?_
      refine AD.popC rfl rfl rfl (POp.move rfl rfl rfl) ?_
      refine AD.popC rfl rfl rfl (POp.move rfl rfl rfl) ?_
      refine AD.popC rfl rfl rfl ((by first | exact POp.nilCheck rfl rfl rfl | exact POp.nilCheckP rfl rfl rfl | exact POp.nilCheckF rfl rfl rfl)) ?_
      refine AD.popC rfl rfl rfl ((by first | exact POp.fa rfl rfl rfl rfl | exact POp.faP rfl rfl rfl rfl)) ?_
      refine AD.popC rfl rfl rfl ((by first | exact POp.ld1 rfl rfl rfl rfl | (apply POp.ld1H rfl rfl rfl; (case hm => repeat (first | exact .head _ | refine .tail _ ?_)); (case hy => rfl)))) ?_
      refine AD.popC rfl rfl rfl ((by first | exact POp.fa rfl rfl rfl rfl | exact POp.faP rfl rfl rfl rfl)) ?_
      refine AD.popC rfl rfl rfl ((by first | exact POp.fa rfl rfl rfl rfl | exact POp.faP rfl rfl rfl rfl)) ?_
      refine AD.popC rfl rfl rfl ((by first | exact POp.ld1 rfl rfl rfl rfl | (apply POp.ld1H rfl rfl rfl; (case hm => repeat (first | exact .head _ | refine .tail _ ?_)); (case hy => rfl)))) ?_
      refine AD.popC rfl rfl rfl (POp.call (.mk' rfl rfl rfl rfl rfl) (p151 _ l.f.cls (by simp_all; omega) hm)) ?_
      refine AD.nil ?_
      refine DP.tailC 9 (by decide +kernel) rfl ?_
      refine OL.popC rfl rfl rfl ((by first | exact POp.nilCheck rfl rfl rfl | exact POp.nilCheckP rfl rfl rfl | exact POp.nilCheckF rfl rfl rfl)) ?_
      refine OL.popC rfl rfl rfl ((by first | exact POp.fa rfl rfl rfl rfl | exact POp.faP rfl rfl rfl rfl)) ?_
      apply OL.stoC rfl rfl rfl rfl rfl rfl rfl rfl rfl rfl
      (case hu => repeat (first | exact Upd.head _ _ _ | apply Upd.tail)); (case hfit => rfl); (case hds => rfl)
      refine OL.nil ?_
      refine Done.blkNormal ?_
      refine Done.norR (rs := []) rfl (.nil) (AVleL.refl _) (by repeat (first | exact List.Sublist.refl _ | refine List.Sublist.cons _ ?_)) ?_
      exact ⟨vn, rfl, by rw [show askK k l = { k with must := k.must ||| 2 ^ l.f.cls.toNat } by simp_all [askK]]; rfl⟩
    ·
      try simp only [decide_eq_true_eq, decide_eq_false_iff_not, beq_iff_eq, bne_iff_ne, ne_eq, Int.not_lt, Int.not_le, beq_eq_false_iff_ne, gt_iff_lt, ge_iff_le, Bool.not_eq_true, Bool.not_eq_false, Bool.not_eq_false', bne_eq_false_iff_eq] at h1
      refine CW.seq ?_
      refine CW.region ?_
      refine OL.popC rfl rfl rfl ((by first | exact POp.fa rfl rfl rfl rfl | exact POp.faP rfl rfl rfl rfl)) ?_
      refine OL.popC rfl rfl rfl ((by first | exact POp.fa rfl rfl rfl rfl | exact POp.faP rfl rfl rfl rfl)) ?_
      refine OL.popC rfl rfl rfl ((by first | exact POp.ld1 rfl rfl rfl rfl | (apply POp.ld1H rfl rfl rfl; (case hm => repeat (first | exact .head _ | refine .tail _ ?_)); (case hy => rfl)))) ?_
      refine OL.popC rfl rfl rfl (POp.cmp rfl rfl rfl rfl rfl rfl) ?_
      refine OL.popC rfl rfl rfl (POp.move rfl rfl rfl) ?_
      refine OL.guardC rfl rfl rfl rfl rfl rfl (fun hg => (by first | exact POp.fa rfl rfl rfl rfl | exact POp.faP rfl rfl rfl rfl)) ?_
      refine OL.guardC rfl rfl rfl rfl rfl rfl (fun hg => (by first | exact POp.ld1 rfl rfl (by first | rfl | exact hg | exact (Bool.and_eq_true_iff.1 hg).1 | exact (Bool.and_eq_true_iff.1 (Bool.and_eq_true_iff.1 hg).1).1 | simp_all) rfl | (apply POp.ld1H rfl rfl (by first | rfl | exact hg | exact (Bool.and_eq_true_iff.1 hg).1 | exact (Bool.and_eq_true_iff.1 (Bool.and_eq_true_iff.1 hg).1).1 | simp_all); (case hm => repeat (first | exact .head _ | refine .tail _ ?_)); (case hy => rfl)))) ?_
      refine OL.popC rfl rfl rfl (POp.pick rfl rfl rfl rfl rfl (by first | exact fun h => h | (intro h; rw [h]; rfl) | (intro h; simp_all)) (fun _ => rfl)) ?_
      refine OL.popC rfl rfl rfl (POp.assign rfl rfl rfl) ?_
      refine OL.nil ?_
      refine Done.seq ?_
      refine CW.cond rfl (fun h2 => ?_) (fun h2 => ?_)
      ·
        try simp only [decide_eq_true_eq, decide_eq_false_iff_not, beq_iff_eq, bne_iff_ne, ne_eq, Int.not_lt, Int.not_le, beq_eq_false_iff_ne, gt_iff_lt, ge_iff_le, Bool.not_eq_true, Bool.not_eq_false, Bool.not_eq_false', bne_eq_false_iff_eq] at h2
        refine CW.dp mixed ?_
        refine DP.anyC 0 10 130 rfl (by decide +kernel) rfl rfl (by decide +kernel) ?_
        refine AD.popC rfl rfl rfl (POp.move rfl rfl rfl) ?_
        refine AD.popC rfl rfl rfl (POp.move rfl rfl rfl) ?_
        refine AD.popC rfl rfl rfl ((by first | exact POp.nilCheck rfl rfl rfl | exact POp.nilCheckP rfl rfl rfl | exact POp.nilCheckF rfl rfl rfl)) ?_
        refine AD.popC rfl rfl rfl ((by first | exact POp.fa rfl rfl rfl rfl | exact POp.faP rfl rfl rfl rfl)) ?_
        refine AD.popC rfl rfl rfl ((by first | exact POp.fa rfl rfl rfl rfl | exact POp.faP rfl rfl rfl rfl)) ?_
        refine AD.popC rfl rfl rfl ((by first | exact POp.ld1 rfl rfl rfl rfl | (apply POp.ld1H rfl rfl rfl; (case hm => repeat (first | exact .head _ | refine .tail _ ?_)); (case hy => rfl)))) ?_
        refine AD.popC rfl rfl rfl ((by first | exact POp.fa rfl rfl rfl rfl | exact POp.faP rfl rfl rfl rfl)) ?_
        refine AD.popC rfl rfl rfl ((by first | exact POp.fa rfl rfl rfl rfl | exact POp.faP rfl rfl rfl rfl)) ?_
        refine AD.popC rfl rfl rfl ((by first | exact POp.ld1 rfl rfl rfl rfl | (apply POp.ld1H rfl rfl rfl; (case hm => repeat (first | exact .head _ | refine .tail _ ?_)); (case hy => rfl)))) ?_
        refine AD.popC rfl rfl rfl (POp.max2 rfl rfl rfl rfl rfl rfl) ?_
        refine AD.nil ?_
        refine DP.tailC 10 (by decide +kernel) rfl ?_
        refine OL.popC rfl rfl rfl ((by first | exact POp.nilCheck rfl rfl rfl | exact POp.nilCheckP rfl rfl rfl | exact POp.nilCheckF rfl rfl rfl)) ?_
        refine OL.popC rfl rfl rfl ((by first | exact POp.fa rfl rfl rfl rfl | exact POp.faP rfl rfl rfl rfl)) ?_
        refine OL.popC rfl rfl rfl ((by first | exact POp.fa rfl rfl rfl rfl | exact POp.faP rfl rfl rfl rfl)) ?_
        apply OL.stoC rfl rfl rfl rfl rfl rfl rfl rfl rfl rfl
        (case hu => repeat (first | exact Upd.head _ _ _ | apply Upd.tail)); (case hfit => rfl); (case hds => rfl)
        refine OL.nil ?_
        refine Done.blkNormal ?_
        refine Done.norR (rs := []) rfl (.nil) (AVleL.refl _) (by repeat (first | exact List.Sublist.refl _ | refine List.Sublist.cons _ ?_)) ?_
        exact ⟨vn, rfl, by rw [show askK k l = { k with low := if l.f.n > k.low then l.f.n else k.low } by simp_all [askK]]; rfl⟩
      ·
        try simp only [decide_eq_true_eq, decide_eq_false_iff_not, beq_iff_eq, bne_iff_ne, ne_eq, Int.not_lt, Int.not_le, beq_eq_false_iff_ne, gt_iff_lt, ge_iff_le, Bool.not_eq_true, Bool.not_eq_false, Bool.not_eq_false', bne_eq_false_iff_eq] at h2
        refine CW.seq ?_
        refine CW.region ?_
        refine OL.popC rfl rfl rfl ((by first | exact POp.fa rfl rfl rfl rfl | exact POp.faP rfl rfl rfl rfl)) ?_
        refine OL.popC rfl rfl rfl ((by first | exact POp.fa rfl rfl rfl rfl | exact POp.faP rfl rfl rfl rfl)) ?_
        refine OL.popC rfl rfl rfl ((by first | exact POp.ld1 rfl rfl rfl rfl | (apply POp.ld1H rfl rfl rfl; (case hm => repeat (first | exact .head _ | refine .tail _ ?_)); (case hy => rfl)))) ?_
        refine OL.popC rfl rfl rfl (POp.cmp rfl rfl rfl rfl rfl rfl) ?_
        refine OL.popC rfl rfl rfl (POp.assign rfl rfl rfl) ?_
        refine OL.nil ?_
        refine Done.seq ?_
        refine CW.cond rfl (fun h3 => ?_) (fun h3 => ?_)
        ·
          try simp only [decide_eq_true_eq, decide_eq_false_iff_not, beq_iff_eq, bne_iff_ne, ne_eq, Int.not_lt, Int.not_le, beq_eq_false_iff_ne, gt_iff_lt, ge_iff_le, Bool.not_eq_true, Bool.not_eq_false, Bool.not_eq_false', bne_eq_false_iff_eq] at h3
          refine CW.dp mixed ?_
          refine DP.anySC (fun j => match j with | 0 => (.blk blk 209 (KBcells k vn vs) :: rowE vn k.nots :: Hx) | _ => (.blk blk 209 (KBcells { k with high := (if l.f.n - 1 < k.high then l.f.n - 1 else k.high) } vn vs) :: rowE vn k.nots :: Hx)) [15] 0 16 130 rfl (by decide +kernel) rfl rfl rfl (by decide +kernel) rfl ?_
          refine TD.popC 0 0 (by decide +kernel) (by decide +kernel) (by decide +kernel) rfl rfl rfl (fun j hj1 hj2 => by rcases (show j = 0 by omega) with rfl <;> exact (POp.move rfl rfl rfl)) ?_
          refine TD.popC 0 1 (by decide +kernel) (by decide +kernel) (by decide +kernel) rfl rfl rfl (fun j hj1 hj2 => by rcases (show j = 0 ∨ j = 1 by omega) with rfl | rfl <;> exact (POp.move rfl rfl rfl)) ?_
          refine TD.popC 0 0 (by decide +kernel) (by decide +kernel) (by decide +kernel) rfl rfl rfl (fun j hj1 hj2 => by rcases (show j = 0 by omega) with rfl <;> exact (POp.move rfl rfl rfl)) ?_
          refine TD.popC 0 0 (by decide +kernel) (by decide +kernel) (by decide +kernel) rfl rfl rfl (fun j hj1 hj2 => by rcases (show j = 0 by omega) with rfl <;> exact ((by first | exact POp.nilCheck rfl rfl rfl | exact POp.nilCheckP rfl rfl rfl | exact POp.nilCheckF rfl rfl rfl))) ?_
          refine TD.popC 0 0 (by decide +kernel) (by decide +kernel) (by decide +kernel) rfl rfl rfl (fun j hj1 hj2 => by rcases (show j = 0 by omega) with rfl <;> exact ((by first | exact POp.fa rfl rfl rfl rfl | exact POp.faP rfl rfl rfl rfl))) ?_
          refine TD.popC 0 0 (by decide +kernel) (by decide +kernel) (by decide +kernel) rfl rfl rfl (fun j hj1 hj2 => by rcases (show j = 0 by omega) with rfl <;> exact ((by first | exact POp.fa rfl rfl rfl rfl | exact POp.faP rfl rfl rfl rfl))) ?_
          refine TD.popC 0 0 (by decide +kernel) (by decide +kernel) (by decide +kernel) rfl rfl rfl (fun j hj1 hj2 => by rcases (show j = 0 by omega) with rfl <;> exact ((by first | exact POp.ld1 rfl rfl rfl rfl | (apply POp.ld1H rfl rfl rfl; (case hm => repeat (first | exact .head _ | refine .tail _ ?_)); (case hy => rfl))))) ?_
          refine TD.popC 0 0 (by decide +kernel) (by decide +kernel) (by decide +kernel) rfl rfl rfl (fun j hj1 hj2 => by rcases (show j = 0 by omega) with rfl <;> exact ((by first | exact POp.fa rfl rfl rfl rfl | exact POp.faP rfl rfl rfl rfl))) ?_
          refine TD.popC 0 0 (by decide +kernel) (by decide +kernel) (by decide +kernel) rfl rfl rfl (fun j hj1 hj2 => by rcases (show j = 0 by omega) with rfl <;> exact ((by first | exact POp.fa rfl rfl rfl rfl | exact POp.faP rfl rfl rfl rfl))) ?_
          refine TD.popC 0 0 (by decide +kernel) (by decide +kernel) (by decide +kernel) rfl rfl rfl (fun j hj1 hj2 => by rcases (show j = 0 by omega) with rfl <;> exact ((by first | exact POp.ld1 rfl rfl rfl rfl | (apply POp.ld1H rfl rfl rfl; (case hm => repeat (first | exact .head _ | refine .tail _ ?_)); (case hy => rfl))))) ?_
          refine TD.popC 0 0 (by decide +kernel) (by decide +kernel) (by decide +kernel) rfl rfl rfl (fun j hj1 hj2 => by rcases (show j = 0 by omega) with rfl <;> exact (POp.arith rfl rfl rfl rfl rfl rfl (wrap64 (by omega)))) ?_
          refine TD.popC 0 0 (by decide +kernel) (by decide +kernel) (by decide +kernel) rfl rfl rfl (fun j hj1 hj2 => by rcases (show j = 0 by omega) with rfl <;> exact (POp.min2 rfl rfl rfl rfl rfl rfl)) ?_
          refine TD.popC 0 0 (by decide +kernel) (by decide +kernel) (by decide +kernel) rfl rfl rfl (fun j hj1 hj2 => by rcases (show j = 0 by omega) with rfl <;> exact ((by first | exact POp.nilCheck rfl rfl rfl | exact POp.nilCheckP rfl rfl rfl | exact POp.nilCheckF rfl rfl rfl))) ?_
          refine TD.popC 0 0 (by decide +kernel) (by decide +kernel) (by decide +kernel) rfl rfl rfl (fun j hj1 hj2 => by rcases (show j = 0 by omega) with rfl <;> exact ((by first | exact POp.fa rfl rfl rfl rfl | exact POp.faP rfl rfl rfl rfl))) ?_
          refine TD.popC 0 0 (by decide +kernel) (by decide +kernel) (by decide +kernel) rfl rfl rfl (fun j hj1 hj2 => by rcases (show j = 0 by omega) with rfl <;> exact ((by first | exact POp.fa rfl rfl rfl rfl | exact POp.faP rfl rfl rfl rfl))) ?_
          refine TD.stoC 0 (by decide +kernel) (by decide +kernel) (by decide +kernel) rfl rfl (.store rfl rfl rfl rfl rfl rfl rfl rfl (by repeat (first | exact Upd.head _ _ _ | apply Upd.tail)) (by exact rfl) (by exact rfl)) ?_
          refine TD.nil ?_
          refine DP.tailC 16 (by decide +kernel) rfl ?_
          refine OL.popC rfl rfl rfl ((by first | exact POp.nilCheck rfl rfl rfl | exact POp.nilCheckP rfl rfl rfl | exact POp.nilCheckF rfl rfl rfl)) ?_
          refine OL.popC rfl rfl rfl ((by first | exact POp.fa rfl rfl rfl rfl | exact POp.faP rfl rfl rfl rfl)) ?_
          apply OL.stoC rfl rfl rfl rfl rfl rfl rfl rfl rfl rfl
          (case hu => repeat (first | exact Upd.head _ _ _ | apply Upd.tail)); (case hfit => rfl); (case hds => rfl)
          refine OL.nil ?_
          refine Done.blkNormal ?_
          refine Done.norR (rs := []) rfl (.nil) (AVleL.refl _) (by repeat (first | exact List.Sublist.refl _ | refine List.Sublist.cons _ ?_)) ?_
          exact ⟨vn, rfl, by rw [show askK k l = { k with high := if l.f.n - 1 < k.high then l.f.n - 1 else k.high, whole := true } by simp_all [askK]]; rfl⟩
        ·
          try simp only [decide_eq_true_eq, decide_eq_false_iff_not, beq_iff_eq, bne_iff_ne, ne_eq, Int.not_lt, Int.not_le, beq_eq_false_iff_ne, gt_iff_lt, ge_iff_le, Bool.not_eq_true, Bool.not_eq_false, Bool.not_eq_false', bne_eq_false_iff_eq] at h3
          refine CW.seq ?_
          refine CW.region ?_
          refine OL.popC rfl rfl rfl ((by first | exact POp.fa rfl rfl rfl rfl | exact POp.faP rfl rfl rfl rfl)) ?_
          refine OL.popC rfl rfl rfl ((by first | exact POp.ld1 rfl rfl rfl rfl | (apply POp.ld1H rfl rfl rfl; (case hm => repeat (first | exact .head _ | refine .tail _ ?_)); (case hy => rfl)))) ?_
          refine OL.popC rfl rfl rfl (POp.assign rfl rfl rfl) ?_
          refine OL.nil ?_
          refine Done.seq ?_
          refine CW.cond rfl (fun h4 => ?_) (fun h4 => ?_)
          ·
            try simp only [decide_eq_true_eq, decide_eq_false_iff_not, beq_iff_eq, bne_iff_ne, ne_eq, Int.not_lt, Int.not_le, beq_eq_false_iff_ne, gt_iff_lt, ge_iff_le, Bool.not_eq_true, Bool.not_eq_false, Bool.not_eq_false', bne_eq_false_iff_eq] at h4
            refine CW.dp mixed ?_
            refine DP.anyGC (fun v => .blk blk 209 (KBcells k vn vs) :: .row 3 1 v ((intEls k.nots).length + 1) ((intEls k.nots).flatten ++ [AV.i l.f.n]) :: Hx) 126 10 0 11 130 rfl (by decide +kernel) rfl rfl rfl (by decide +kernel) ?_
            refine TD.popG (by decide +kernel) rfl rfl rfl rfl (fun _ => POp.move rfl rfl rfl) ?_
            refine TD.popG0 (by decide +kernel) (by decide +kernel) rfl rfl rfl (POp.move rfl rfl rfl) ?_
            refine TD.popG0 (by decide +kernel) (by decide +kernel) rfl rfl rfl ((by first | exact POp.nilCheck rfl rfl rfl | exact POp.nilCheckP rfl rfl rfl | exact POp.nilCheckF rfl rfl rfl)) ?_
            refine TD.popG0 (by decide +kernel) (by decide +kernel) rfl rfl rfl ((by first | exact POp.fa rfl rfl rfl rfl | exact POp.faP rfl rfl rfl rfl)) ?_
            refine TD.popG0 (by decide +kernel) (by decide +kernel) rfl rfl rfl ((by first | exact POp.fa rfl rfl rfl rfl | exact POp.faP rfl rfl rfl rfl)) ?_
            refine TD.popG0 (by decide +kernel) (by decide +kernel) rfl rfl rfl ((by first | exact POp.ld1 rfl rfl rfl rfl | (apply POp.ld1H rfl rfl rfl; (case hm => repeat (first | exact .head _ | refine .tail _ ?_)); (case hy => rfl)))) ?_
            refine TD.popG0 (by decide +kernel) (by decide +kernel) rfl rfl rfl ((by first | exact POp.fa rfl rfl rfl rfl | exact POp.faP rfl rfl rfl rfl)) ?_
            refine TD.popG0 (by decide +kernel) (by decide +kernel) rfl rfl rfl ((by first | exact POp.fa rfl rfl rfl rfl | exact POp.faP rfl rfl rfl rfl)) ?_
            refine TD.popG0 (by decide +kernel) (by decide +kernel) rfl rfl rfl ((by first | exact POp.ld1 rfl rfl rfl rfl | (apply POp.ld1H rfl rfl rfl; (case hm => repeat (first | exact .head _ | refine .tail _ ?_)); (case hy => rfl)))) ?_
            refine TD.popG0 (by decide +kernel) (by decide +kernel) rfl rfl rfl (POp.row rfl rfl (by first | rfl | simp_all [strip]) rfl rfl rfl rfl rfl rfl) ?_
            refine TD.effG (by decide +kernel) (by decide +kernel) rfl rfl rfl (fun B I w r a hw hh ho => appendRow_runs (H' := fun v => .blk blk 209 (KBcells k vn vs) :: .row 3 1 v ((intEls k.nots).length + 1) ((intEls k.nots).flatten ++ [AV.i l.f.n]) :: Hx) (news := [[AV.i l.f.n]]) rfl rfl rfl rfl rfl (AVle.refl _) (by simp) rfl (fun v => .tail _ _ _ _ _ (.head _ _ _)) (by simp; omega) (by simp; omega) hw hh ho) ?_
            refine TD.nil (fun v126 => ?_)
            refine DP.tailC 11 (by decide +kernel) rfl ?_
            refine OL.popC rfl rfl rfl ((by first | exact POp.nilCheck rfl rfl rfl | exact POp.nilCheckP rfl rfl rfl | exact POp.nilCheckF rfl rfl rfl)) ?_
            refine OL.popC rfl rfl rfl ((by first | exact POp.fa rfl rfl rfl rfl | exact POp.faP rfl rfl rfl rfl)) ?_
            refine OL.popC rfl rfl rfl ((by first | exact POp.fa rfl rfl rfl rfl | exact POp.faP rfl rfl rfl rfl)) ?_
            refine OL.rowOne (v := v126) (.tail _ (.head _)) (fun hv126 => ?_)
            apply OL.stoC rfl rfl rfl rfl rfl rfl rfl (one_bOk hv126) (one_all hv126) rfl
            (case hu => repeat (first | exact Upd.head _ _ _ | apply Upd.tail)); (case hfit => rfl); (case hds => rfl)
            refine OL.nil ?_
            refine Done.blkNormal ?_
            refine Done.norR (rs := []) rfl (.nil) (AVleL.refl _) (by repeat (first | exact List.Sublist.refl _ | refine List.Sublist.cons _ ?_)) ?_
            exact ⟨_, rfl, by rw [show askK k l = { k with nots := k.nots ++ [l.f.n] } by simp_all [askK], rowE_snoc]; rfl⟩
          ·
            try simp only [decide_eq_true_eq, decide_eq_false_iff_not, beq_iff_eq, bne_iff_ne, ne_eq, Int.not_lt, Int.not_le, beq_eq_false_iff_ne, gt_iff_lt, ge_iff_le, Bool.not_eq_true, Bool.not_eq_false, Bool.not_eq_false', bne_eq_false_iff_eq] at h4
            refine CW.dp mixed ?_
            refine DP.anySC (fun j => match j with | 0 => (.blk blk 209 (KBcells k vn vs) :: rowE vn k.nots :: Hx) | 1 => (.blk blk 209 (KBcells { k with low := (if l.f.n > k.low then l.f.n else k.low) } vn vs) :: rowE vn k.nots :: Hx) | _ => (.blk blk 209 (KBcells { k with low := (if l.f.n > k.low then l.f.n else k.low), high := (if l.f.n < k.high then l.f.n else k.high) } vn vs) :: rowE vn k.nots :: Hx)) [24, 28] 0 29 130 rfl (by decide +kernel) rfl rfl rfl (by decide +kernel) rfl ?_
            refine TD.popC 0 0 (by decide +kernel) (by decide +kernel) (by decide +kernel) rfl rfl rfl (fun j hj1 hj2 => by rcases (show j = 0 by omega) with rfl <;> exact (POp.move rfl rfl rfl)) ?_
            refine TD.popC 0 1 (by decide +kernel) (by decide +kernel) (by decide +kernel) rfl rfl rfl (fun j hj1 hj2 => by rcases (show j = 0 ∨ j = 1 by omega) with rfl | rfl <;> exact (POp.move rfl rfl rfl)) ?_
            refine TD.popC 0 2 (by decide +kernel) (by decide +kernel) (by decide +kernel) rfl rfl rfl (fun j hj1 hj2 => by rcases (show j = 0 ∨ j = 1 ∨ j = 2 by omega) with rfl | rfl | rfl <;> exact (POp.move rfl rfl rfl)) ?_
            refine TD.popC 0 0 (by decide +kernel) (by decide +kernel) (by decide +kernel) rfl rfl rfl (fun j hj1 hj2 => by rcases (show j = 0 by omega) with rfl <;> exact (POp.move rfl rfl rfl)) ?_
            refine TD.popC 0 0 (by decide +kernel) (by decide +kernel) (by decide +kernel) rfl rfl rfl (fun j hj1 hj2 => by rcases (show j = 0 by omega) with rfl <;> exact ((by first | exact POp.nilCheck rfl rfl rfl | exact POp.nilCheckP rfl rfl rfl | exact POp.nilCheckF rfl rfl rfl))) ?_
            refine TD.popC 0 0 (by decide +kernel) (by decide +kernel) (by decide +kernel) rfl rfl rfl (fun j hj1 hj2 => by rcases (show j = 0 by omega) with rfl <;> exact ((by first | exact POp.fa rfl rfl rfl rfl | exact POp.faP rfl rfl rfl rfl))) ?_
            refine TD.popC 0 0 (by decide +kernel) (by decide +kernel) (by decide +kernel) rfl rfl rfl (fun j hj1 hj2 => by rcases (show j = 0 by omega) with rfl <;> exact ((by first | exact POp.fa rfl rfl rfl rfl | exact POp.faP rfl rfl rfl rfl))) ?_
            refine TD.popC 0 0 (by decide +kernel) (by decide +kernel) (by decide +kernel) rfl rfl rfl (fun j hj1 hj2 => by rcases (show j = 0 by omega) with rfl <;> exact ((by first | exact POp.ld1 rfl rfl rfl rfl | (apply POp.ld1H rfl rfl rfl; (case hm => repeat (first | exact .head _ | refine .tail _ ?_)); (case hy => rfl))))) ?_
            refine TD.popC 0 0 (by decide +kernel) (by decide +kernel) (by decide +kernel) rfl rfl rfl (fun j hj1 hj2 => by rcases (show j = 0 by omega) with rfl <;> exact ((by first | exact POp.fa rfl rfl rfl rfl | exact POp.faP rfl rfl rfl rfl))) ?_
            refine TD.popC 0 0 (by decide +kernel) (by decide +kernel) (by decide +kernel) rfl rfl rfl (fun j hj1 hj2 => by rcases (show j = 0 by omega) with rfl <;> exact ((by first | exact POp.fa rfl rfl rfl rfl | exact POp.faP rfl rfl rfl rfl))) ?_
            refine TD.popC 0 0 (by decide +kernel) (by decide +kernel) (by decide +kernel) rfl rfl rfl (fun j hj1 hj2 => by rcases (show j = 0 by omega) with rfl <;> exact ((by first | exact POp.ld1 rfl rfl rfl rfl | (apply POp.ld1H rfl rfl rfl; (case hm => repeat (first | exact .head _ | refine .tail _ ?_)); (case hy => rfl))))) ?_
            refine TD.popC 0 0 (by decide +kernel) (by decide +kernel) (by decide +kernel) rfl rfl rfl (fun j hj1 hj2 => by rcases (show j = 0 by omega) with rfl <;> exact (POp.max2 rfl rfl rfl rfl rfl rfl)) ?_
            refine TD.popC 0 0 (by decide +kernel) (by decide +kernel) (by decide +kernel) rfl rfl rfl (fun j hj1 hj2 => by rcases (show j = 0 by omega) with rfl <;> exact (POp.move rfl rfl rfl)) ?_
            refine TD.popC 0 0 (by decide +kernel) (by decide +kernel) (by decide +kernel) rfl rfl rfl (fun j hj1 hj2 => by rcases (show j = 0 by omega) with rfl <;> exact ((by first | exact POp.nilCheck rfl rfl rfl | exact POp.nilCheckP rfl rfl rfl | exact POp.nilCheckF rfl rfl rfl))) ?_
            refine TD.popC 0 0 (by decide +kernel) (by decide +kernel) (by decide +kernel) rfl rfl rfl (fun j hj1 hj2 => by rcases (show j = 0 by omega) with rfl <;> exact ((by first | exact POp.fa rfl rfl rfl rfl | exact POp.faP rfl rfl rfl rfl))) ?_
            refine TD.popC 0 0 (by decide +kernel) (by decide +kernel) (by decide +kernel) rfl rfl rfl (fun j hj1 hj2 => by rcases (show j = 0 by omega) with rfl <;> exact ((by first | exact POp.fa rfl rfl rfl rfl | exact POp.faP rfl rfl rfl rfl))) ?_
            refine TD.popC 0 0 (by decide +kernel) (by decide +kernel) (by decide +kernel) rfl rfl rfl (fun j hj1 hj2 => by rcases (show j = 0 by omega) with rfl <;> exact ((by first | exact POp.ld1 rfl rfl rfl rfl | (apply POp.ld1H rfl rfl rfl; (case hm => repeat (first | exact .head _ | refine .tail _ ?_)); (case hy => rfl))))) ?_
            refine TD.popC 0 1 (by decide +kernel) (by decide +kernel) (by decide +kernel) rfl rfl rfl (fun j hj1 hj2 => by rcases (show j = 0 ∨ j = 1 by omega) with rfl | rfl <;> exact ((by first | exact POp.fa rfl rfl rfl rfl | exact POp.faP rfl rfl rfl rfl))) ?_
            refine TD.popC 0 1 (by decide +kernel) (by decide +kernel) (by decide +kernel) rfl rfl rfl (fun j hj1 hj2 => by rcases (show j = 0 ∨ j = 1 by omega) with rfl | rfl <;> exact ((by first | exact POp.fa rfl rfl rfl rfl | exact POp.faP rfl rfl rfl rfl))) ?_
            refine TD.popC 0 1 (by decide +kernel) (by decide +kernel) (by decide +kernel) rfl rfl rfl (fun j hj1 hj2 => by rcases (show j = 0 ∨ j = 1 by omega) with rfl | rfl <;> exact ((by first | exact POp.ld1 rfl rfl rfl rfl | (apply POp.ld1H rfl rfl rfl; (case hm => repeat (first | exact .head _ | refine .tail _ ?_)); (case hy => rfl))))) ?_
            refine TD.popC 0 1 (by decide +kernel) (by decide +kernel) (by decide +kernel) rfl rfl rfl (fun j hj1 hj2 => by rcases (show j = 0 ∨ j = 1 by omega) with rfl | rfl <;> exact (POp.min2 rfl rfl rfl rfl rfl rfl)) ?_
            refine TD.popC 0 0 (by decide +kernel) (by decide +kernel) (by decide +kernel) rfl rfl rfl (fun j hj1 hj2 => by rcases (show j = 0 by omega) with rfl <;> exact ((by first | exact POp.nilCheck rfl rfl rfl | exact POp.nilCheckP rfl rfl rfl | exact POp.nilCheckF rfl rfl rfl))) ?_
            refine TD.popC 0 0 (by decide +kernel) (by decide +kernel) (by decide +kernel) rfl rfl rfl (fun j hj1 hj2 => by rcases (show j = 0 by omega) with rfl <;> exact ((by first | exact POp.fa rfl rfl rfl rfl | exact POp.faP rfl rfl rfl rfl))) ?_
            refine TD.popC 0 0 (by decide +kernel) (by decide +kernel) (by decide +kernel) rfl rfl rfl (fun j hj1 hj2 => by rcases (show j = 0 by omega) with rfl <;> exact ((by first | exact POp.fa rfl rfl rfl rfl | exact POp.faP rfl rfl rfl rfl))) ?_
            refine TD.stoC 0 (by decide +kernel) (by decide +kernel) (by decide +kernel) rfl rfl (.store rfl rfl rfl rfl rfl rfl rfl rfl (by repeat (first | exact Upd.head _ _ _ | apply Upd.tail)) (by exact rfl) (by exact rfl)) ?_
            refine TD.popC 1 1 (by decide +kernel) (by decide +kernel) (by decide +kernel) rfl rfl rfl (fun j hj1 hj2 => by rcases (show j = 1 by omega) with rfl <;> exact ((by first | exact POp.nilCheck rfl rfl rfl | exact POp.nilCheckP rfl rfl rfl | exact POp.nilCheckF rfl rfl rfl))) ?_
            refine TD.popC 1 1 (by decide +kernel) (by decide +kernel) (by decide +kernel) rfl rfl rfl (fun j hj1 hj2 => by rcases (show j = 1 by omega) with rfl <;> exact ((by first | exact POp.fa rfl rfl rfl rfl | exact POp.faP rfl rfl rfl rfl))) ?_
            refine TD.popC 1 1 (by decide +kernel) (by decide +kernel) (by decide +kernel) rfl rfl rfl (fun j hj1 hj2 => by rcases (show j = 1 by omega) with rfl <;> exact ((by first | exact POp.fa rfl rfl rfl rfl | exact POp.faP rfl rfl rfl rfl))) ?_
            refine TD.stoC 1 (by decide +kernel) (by decide +kernel) (by decide +kernel) rfl rfl (.store rfl rfl rfl rfl rfl rfl rfl rfl (by repeat (first | exact Upd.head _ _ _ | apply Upd.tail)) (by exact rfl) (by exact rfl)) ?_
            refine TD.nil ?_
            refine DP.tailC 29 (by decide +kernel) rfl ?_
            refine OL.popC rfl rfl rfl ((by first | exact POp.nilCheck rfl rfl rfl | exact POp.nilCheckP rfl rfl rfl | exact POp.nilCheckF rfl rfl rfl)) ?_
            refine OL.popC rfl rfl rfl ((by first | exact POp.fa rfl rfl rfl rfl | exact POp.faP rfl rfl rfl rfl)) ?_
            apply OL.stoC rfl rfl rfl rfl rfl rfl rfl rfl rfl rfl
            (case hu => repeat (first | exact Upd.head _ _ _ | apply Upd.tail)); (case hfit => rfl); (case hds => rfl)
            refine OL.nil ?_
            refine Done.blkNormal ?_
            refine Done.norR (rs := []) rfl (.nil) (AVleL.refl _) (by repeat (first | exact List.Sublist.refl _ | refine List.Sublist.cons _ ?_)) ?_
            exact ⟨vn, rfl, by rw [show askK k l = { k with low := if l.f.n > k.low then l.f.n else k.low, high := if l.f.n < k.high then l.f.n else k.high, whole := true } by simp_all [askK]]; rfl⟩
end Go.Proofs.YtiljpbljebfhnaaGreat

set_option linter.unusedVariables false
set_option linter.unusedSimpArgs false
set_option maxRecDepth 10000
namespace Go.Proofs.YtiljpbljebfhnaaGreat
open Go.Eng
open Go.Eng.Fc Go.Shelf Go.Sort
def ren189 : Ren := { f := fun x => match x with | 189 => 60 | 125 => 114 | 257 => 113 | 128 => 163 | 129 => 164 | 294 => 154 | 295 => 155 | 296 => 156 | 297 => 157 | 298 => 158 | 299 => 159 | 216 => 160 | 300 => 161 | 301 => 162 | 328 => 195 | 329 => 196 | 330 => 197 | 331 => 198 | 332 => 199 | 215 => 200 | 343 => 219 | n => n, t := fun x => match x with | 28 => 23 | 3 => 3 | 46 => 148 | 0 => 0 | 51 => 195 | 53 => 134 | 4 => 4 | 183 => 187 | 182 => 186 | 131 => 192 | 5 => 5 | 9 => 9 | 218 => 227 | 222 => 219 | 228 => 242 | 229 => 243 | n => n, g := fun x => x }
theorem lays189 : Lays.n189 Tryz.prog ren189 where
  mixed := by kernel_rfl
  f125 := Tryz.func114.trans (congrArg some (by kernel_rfl))
  f128 := Tryz.func163.trans (congrArg some (by kernel_rfl))
  f129 := Tryz.func164.trans (congrArg some (by kernel_rfl))
  f189 := Tryz.func60.trans (congrArg some (by kernel_rfl))
  f215 := Tryz.func200.trans (congrArg some (by kernel_rfl))
  f216 := Tryz.func160.trans (congrArg some (by kernel_rfl))
  f257 := Tryz.func113.trans (congrArg some (by kernel_rfl))
  f294 := Tryz.func154.trans (congrArg some (by kernel_rfl))
  f295 := Tryz.func155.trans (congrArg some (by kernel_rfl))
  f296 := Tryz.func156.trans (congrArg some (by kernel_rfl))
  f297 := Tryz.func157.trans (congrArg some (by kernel_rfl))
  f298 := Tryz.func158.trans (congrArg some (by kernel_rfl))
  f299 := Tryz.func159.trans (congrArg some (by kernel_rfl))
  f300 := Tryz.func161.trans (congrArg some (by kernel_rfl))
  f301 := Tryz.func162.trans (congrArg some (by kernel_rfl))
  f328 := Tryz.func195.trans (congrArg some (by kernel_rfl))
  f329 := Tryz.func196.trans (congrArg some (by kernel_rfl))
  f330 := Tryz.func197.trans (congrArg some (by kernel_rfl))
  f331 := Tryz.func198.trans (congrArg some (by kernel_rfl))
  f332 := Tryz.func199.trans (congrArg some (by kernel_rfl))
  f343 := Tryz.func219.trans (congrArg some (by kernel_rfl))
  t0 := Tryz.underlying0
  a0 := Tryz.isAgg0
  z0 := Tryz.sizeOf0
  v0 := Tryz.zeroValue0
  t3 := Tryz.underlying3
  a3 := Tryz.isAgg3
  z3 := Tryz.sizeOf3
  v3 := Tryz.zeroValue3
  t4 := Tryz.underlying4
  a4 := Tryz.isAgg4
  z4 := Tryz.sizeOf4
  v4 := Tryz.zeroValue4
  t5 := Tryz.underlying5
  a5 := Tryz.isAgg5
  z5 := Tryz.sizeOf5
  v5 := Tryz.zeroValue5
  t9 := Tryz.underlying9
  a9 := Tryz.isAgg9
  z9 := Tryz.sizeOf9
  v9 := Tryz.zeroValue9
  t28 := Tryz.underlying23
  a28 := Tryz.isAgg23
  z28 := Tryz.sizeOf23
  v28 := Tryz.zeroValue23
  t46 := Tryz.underlying148
  a46 := Tryz.isAgg148
  z46 := Tryz.sizeOf148
  v46 := Tryz.zeroValue148
  t51 := Tryz.underlying195
  a51 := Tryz.isAgg195
  z51 := Tryz.sizeOf195
  v51 := Tryz.zeroValue195
  t53 := Tryz.underlying134
  a53 := Tryz.isAgg134
  z53 := Tryz.sizeOf134
  v53 := Tryz.zeroValue134
  t131 := Tryz.underlying192
  a131 := Tryz.isAgg192
  z131 := Tryz.sizeOf192
  v131 := Tryz.zeroValue192
  t182 := Tryz.underlying186
  a182 := Tryz.isAgg186
  z182 := Tryz.sizeOf186
  v182 := Tryz.zeroValue186
  t183 := Tryz.underlying187
  a183 := Tryz.isAgg187
  z183 := Tryz.sizeOf187
  v183 := Tryz.zeroValue187
  t218 := Tryz.underlying227
  a218 := Tryz.isAgg227
  z218 := Tryz.sizeOf227
  v218 := Tryz.zeroValue227
  t222 := Tryz.underlying219
  a222 := Tryz.isAgg219
  z222 := Tryz.sizeOf219
  v222 := Tryz.zeroValue219
  t228 := Tryz.underlying242
  a228 := Tryz.isAgg242
  z228 := Tryz.sizeOf242
  v228 := Tryz.zeroValue242
  t229 := Tryz.underlying243
  a229 := Tryz.isAgg243
  z229 := Tryz.sizeOf243
  v229 := Tryz.zeroValue243
def sortI (l : List Int) : List Int := l.mergeSort fun x y => decide (x ≤ y)
theorem intEls_flat (l : List Int) : (intEls l).flatten = (l.map (Value.int .i64)).map .val := by
  induction l with
  | nil => rfl
  | cons x r ih => simp only [intEls, List.map_cons, List.flatten_cons] at ih ⊢; rw [ih]; rfl
theorem p60 (B : Nat) (v : Value) (l : List Int) (hl : l.length ≤ 1000) (Hx : List Ent) : BCall B Tryz.prog 60 [.val v] (rowE v l :: Hx) (fun y H' => y = .tup [] ∧ H' = rowE v (sortI l) :: Hx) (fun _ => False) := by
  refine ⟨by kernel_rfl, fun I w vs hw hh hv => ?_⟩
  obtain ⟨u, rfl⟩ : ∃ u, vs = [u] := by cases hv with | cons _ u _ _ _ ht => cases ht; exact ⟨u, rfl⟩
  have hu : u = v := by cases hv with | cons _ u _ _ hx _ => exact rel_val hx
  subst hu
  obtain ⟨xs, hrow, hrx, hni⟩ := hh.ok _ (.head _)
  have hxs : xs = l.map (Value.int .i64) := by
    rw [intEls_flat] at hrx
    exact rel_vals hrx
  subst hxs
  rcases hrow.2 with ⟨rfl, hn⟩ | ⟨g, cap, cur, rfl, hBg, hg, hnc, hcm, hcs, htk⟩
  · have : l = [] := by cases l with | nil => rfl | cons x r => simp [intEls] at hn
    subst this
    refine (Any.slices_Sort_int_none lays189 none 0 w).mono fun e w' ⟨he, hw'⟩ => ?_
    subst hw'
    exact ⟨I, _, hw, Ext.refl _ _ _, hh, .inl ⟨_, _, he, .tup _ _ .nil, rfl, by simp [sortI]⟩⟩
  · have hlen : (intEls l).length = l.length := by simp [intEls]
    rw [hlen] at hnc htk
    rw [Nat.mul_one] at htk
    have hlen2 : (sortI l).length = l.length := List.length_mergeSort _
    refine ((hlen ▸ Any.slices_Sort_int lays189 g 0 cap l w (holds_of_blockI hg htk) (Array.getElem?_eq_some_iff.1 hg).1 (by omega) : Calls Tryz.prog 60 #[.slice (some ⟨g, 0, none⟩) (intEls l).length cap] w _)).mono fun e w' ⟨he, n, os, hw'⟩ => ?_
    have e3 : w.grownBy w' (some g) := by subst hw'; exact grownBy_sortedI _
    have e2 : w'.ownsRow B 3 1 (.slice (some ⟨g, 0, none⟩) l.length cap) l.length ((sortI l).map (Value.int .i64)) := by
      subst hw'; exact ownsRow_sortedI (ss := l) hlen2 hBg hg hnc hcm hcs
    have hbel : Go.RowKit.Below B w w' := (Go.RowKit.Below.refl B w).grown e3 hw.base (fun j hj => by cases hj; exact hBg)
    have hcell : ∀ b i, I b i → w'.cell? ⟨b, i, none⟩ = w.cell? ⟨b, i, none⟩ := fun b i hI =>
      World.cell?_of_block (a := ⟨b, i, none⟩) (e3.block b (hw.lt hI) (fun e => by cases e; exact hni _ rfl i hI))
    have hkk : Keeps I w I w' := ⟨fun _ _ x => x, hcell⟩
    refine ⟨I, rowE (.slice (some ⟨g, 0, none⟩) (intEls l).length cap) (sortI l) :: Hx, ⟨Nat.le_trans hw.base hbel.size, fun b o hI => by rw [hcell b o hI]; exact hw.there b o hI⟩, ⟨hkk.imm, hkk.cell, hbel⟩, ?_, .inl ⟨_, _, he, .tup _ _ .nil, rfl, rfl⟩⟩
    refine hh.upd (.head _ _ _) hkk (fun b hlt hne => e3.block b hlt (fun e => hne (by cases e; rfl))) (fun b o hx => .inl hx) ⟨(sortI l).map (Value.int .i64), ?_, ?_, hni⟩ (fun b hb => .inl hb)
    · rw [hlen, show (intEls (sortI l)).length = l.length by simp [intEls, hlen2]]; exact e2
    · rw [intEls_flat]; exact relL_val _
end Go.Proofs.YtiljpbljebfhnaaGreat

set_option linter.unusedVariables false
set_option linter.unusedSimpArgs false
set_option maxRecDepth 10000
namespace Go.Proofs.YtiljpbljebfhnaaGreat
open Go.Eng
open Go.Eng.Fc
def KBmap (K : List KB) : List (Value × AV) := K.map fun e => (e.key, .p e.blk 0)
def KBents (K : List KB) : List Ent := K.flatMap KB.ents
/-- all that is known, and one of it set forward -/
def SentsAt (mb : Nat) (K1 : List KB) (e : KB) (K2 : List KB) (Hx : List Ent) : List Ent := e.ents ++ (.map mb (KBmap (K1 ++ e :: K2)) :: (KBents (K1 ++ K2) ++ Hx))
def Sents (mb : Nat) (K : List KB) (Hx : List Ent) : List Ent := .map mb (KBmap K) :: (KBents K ++ Hx)
theorem permPick (mb : Nat) (K1 : List KB) (e : KB) (K2 : List KB) (Hx : List Ent) : (Sents mb (K1 ++ e :: K2) Hx).Perm (SentsAt mb K1 e K2 Hx) := by
  unfold Sents SentsAt KBents
  simp only [List.flatMap_append, List.flatMap_cons]
  generalize e.ents = E
  generalize Ent.map mb _ = m
  classical
  exact List.perm_iff_count.2 fun a => by simp only [List.count_append, List.count_cons]; omega
/-- what stands for the function of what is known -/
structure KRep (K : List KB) (kn : Value → Kn) : Prop where
  has : ∀ e ∈ K, kn e.key = e.kn
  none : ∀ v, (∀ e ∈ K, e.key ≠ v) → kn v = kn0
  good : ∀ e ∈ K, goodKey Tryz.prog 158 e.key
  nodup : K.Pairwise fun a b => a.key ≠ b.key
/-- what is found, or made, at a key -/
structure AtR (K : List KB) (kn : Value → Kn) (key : Value) (K1 : List KB) (e : KB) (K2 : List KB) : Prop where
  ek : e.key = key
  ekn : e.kn = kn key
  rep : KRep (K1 ++ e :: K2) kn
theorem KRep.found {K1 K2 : List KB} {e : KB} {kn : Value → Kn} (h : KRep (K1 ++ e :: K2) kn) : AtR (K1 ++ e :: K2) kn e.key K1 e K2 := ⟨rfl, (h.has e (by simp)).symm, h⟩
theorem KRep.new {K : List KB} {kn : Value → Kn} {key : Value} (h : KRep K kn) (hg : goodKey Tryz.prog 158 key) (hn : ∀ e ∈ K, e.key ≠ key) (e : KB) (h1 : e.key = key) (h2 : e.kn = kn0) : AtR K kn key K e [] := by
  have h0 : kn key = kn0 := h.none key hn
  refine ⟨h1, h2.trans h0.symm, ⟨fun x hx => ?_, fun v hv => h.none v fun x hx => hv x (by simp [hx]), fun x hx => ?_, ?_⟩⟩
  · rcases List.mem_append.1 hx with hx | hx
    · exact h.has x hx
    · simp at hx; subst hx; rw [h1, h2, h0]
  · rcases List.mem_append.1 hx with hx | hx
    · exact h.good x hx
    · simp at hx; subst hx; rw [h1]; exact hg
  · rw [List.pairwise_append]
    refine ⟨h.nodup, by simp, fun a ha b hb => ?_⟩
    simp at hb; subst hb; rw [h1]; exact hn a ha
open Classical in
noncomputable def updK (kn : Value → Kn) (key : Value) (k : Kn) : Value → Kn := fun v => if v = key then k else kn v
theorem KRep.upd {K1 K2 : List KB} {e e' : KB} {kn : Value → Kn} (h : KRep (K1 ++ e :: K2) kn) (hk : e'.key = e.key) : KRep (K1 ++ e' :: K2) (updK kn e.key e'.kn) := by
  have hp := List.pairwise_append.1 h.nodup
  have hp2 := List.pairwise_cons.1 hp.2.1
  refine ⟨fun x hx => ?_, fun v hv => ?_, fun x hx => ?_, ?_⟩
  · unfold updK
    rcases List.mem_append.1 hx with hx | hx
    · rw [if_neg (hp.2.2 x hx e (.head _))]; exact h.has x (by simp [hx])
    · rcases List.mem_cons.1 hx with rfl | hx
      · rw [if_pos hk]
      · rw [if_neg (fun q => hp2.1 x hx q.symm)]; exact h.has x (by simp [hx])
  · unfold updK
    rw [if_neg (fun q => hv e' (by simp) (hk.trans q.symm))]
    refine h.none v fun x hx => ?_
    rcases List.mem_append.1 hx with hx | hx
    · exact hv x (by simp [hx])
    · rcases List.mem_cons.1 hx with rfl | hx
      · rw [← hk]; exact hv e' (by simp)
      · exact hv x (by simp [hx])
  · rcases List.mem_append.1 hx with hx | hx
    · exact h.good x (by simp [hx])
    · rcases List.mem_cons.1 hx with rfl | hx
      · rw [hk]; exact h.good e (by simp)
      · exact h.good x (by simp [hx])
  · rw [List.pairwise_append]
    refine ⟨hp.1, List.pairwise_cons.2 ⟨fun x hx => by rw [hk]; exact hp2.1 x hx, hp2.2⟩, fun a ha b hb => ?_⟩
    rcases List.mem_cons.1 hb with rfl | hb
    · rw [hk]; exact hp.2.2 a ha e (.head _)
    · exact hp.2.2 a ha b (.tail _ hb)
theorem KBmap_good {K : List KB} {kn : Value → Kn} (h : KRep K kn) : ∀ p ∈ KBmap K, goodKey Tryz.prog 158 p.1 := fun p hp => by
  obtain ⟨e, he, rfl⟩ := List.mem_map.1 hp
  exact h.good e he
theorem KBmap_mem {K : List KB} {key : Value} {u : AV} (h : (key, u) ∈ KBmap K) : ∃ K1 e K2, K = K1 ++ e :: K2 ∧ e.key = key ∧ u = .p e.blk 0 := by
  obtain ⟨e, he, h2⟩ := List.mem_map.1 h
  obtain ⟨K1, K2, hK⟩ := List.append_of_mem he
  cases h2
  exact ⟨K1, e, K2, hK, rfl, rfl⟩
theorem perm3 (a b c : Ent) (R : List Ent) : (a :: b :: c :: R).Perm (c :: a :: b :: R) := (List.perm_middle (l₁ := [a, b]) (a := c) (l₂ := R))
theorem pb170 (B : Nat) (W : FW) (mb : Nat) {K : List KB} {kn : Value → Kn} (hK : KRep K kn) (arg : Int) (path : List Int) (hgood : goodKey Tryz.prog 158 (keyS arg path)) (Hx : List Ent) :
    BCall B Tryz.prog 170 [sceneP W mb, AV.spot arg path] (Sents mb K Hx) (fun y H' => ∃ K1 e K2, y = .p e.blk 0 ∧ AtR K kn (keyS arg path) K1 e K2 ∧ H' = SentsAt mb K1 e K2 Hx) (fun _ => False) := by
  refine BCall.of (n := 28) Tryz.func170 rfl (by kernel_rfl) rfl rfl (fun I w0 => ?_)
  refine CW.seq ?_
  refine CW.region ?_
  refine OL.popC rfl rfl rfl (POp.boxI rfl rfl rfl rfl) ?_
  refine OL.popC rfl rfl rfl (POp.assign rfl rfl rfl) ?_
  refine OL.nil ?_
  refine Done.seq ?_
  refine CW.seq ?_
  refine CW.dp mixed ?_
  refine DP.anyC 0 5 28 rfl (by decide +kernel) rfl rfl (by decide +kernel) ?_
  refine AD.popC rfl rfl rfl (POp.move rfl rfl rfl) ?_
  refine AD.popC rfl rfl rfl ((by first | exact POp.nilCheck rfl rfl rfl | exact POp.nilCheckP rfl rfl rfl | exact POp.nilCheckF rfl rfl rfl)) ?_
  refine AD.popC rfl rfl rfl ((by first | exact POp.fa rfl rfl rfl rfl | exact POp.faP rfl rfl rfl rfl)) ?_
  refine AD.popC rfl rfl rfl ((by first | exact POp.ld1 rfl rfl rfl rfl | (apply POp.ld1H rfl rfl rfl; (case hm => repeat (first | exact .head _ | refine .tail _ ?_)); (case hy => rfl)))) ?_
  refine AD.popC rfl rfl rfl ((by first | exact POp.ldA rfl rfl rfl rfl | (apply POp.ldAH rfl rfl rfl; (case hm => repeat (first | exact .head _ | refine .tail _ ?_)); (case hy => rfl); (case hn => rfl)))) ?_
  refine AD.nil ?_
  refine DP.one (k := 5) (by decide +kernel) rfl ?_
  refine OL.lookupM (es := KBmap K) (vs := keyV arg path) rfl rfl rfl rfl rfl rfl rfl rfl (AVle.refl _) (.head _) hgood (KBmap_good hK) (fun u hu => ?_) (fun habs => ?_)
  ·
    obtain ⟨K1, e, K2, rfl, hek, rfl⟩ := KBmap_mem hu
    refine OL.nil (Done.dp ?_)
    refine DP.one (k := 6) (by decide +kernel) rfl ?_
    refine OL.popC rfl rfl rfl (POp.move rfl rfl rfl) ?_
    refine OL.nil (Done.dp ?_)
    refine DP.anyC 7 10 28 rfl (by decide +kernel) rfl rfl (by decide +kernel) ?_
    refine AD.popC rfl rfl rfl (POp.extract rfl rfl rfl rfl) ?_
    refine AD.popC rfl rfl rfl (POp.extract rfl rfl rfl rfl) ?_
    refine AD.popC rfl rfl rfl (POp.assign rfl rfl rfl) ?_
    refine AD.nil ?_
    refine DP.tailC 10 (by decide +kernel) rfl ?_
    refine OL.popC rfl rfl rfl (POp.assign rfl rfl rfl) ?_
    refine OL.nil ?_
    refine Done.seq ?_
    refine CW.seq ?_
    refine CW.seq ?_
    refine CW.region ?_
    refine OL.popC rfl rfl rfl (POp.move rfl rfl rfl) ?_
    refine OL.popC rfl rfl rfl (POp.not rfl rfl rfl) ?_
    refine OL.nil ?_
    refine Done.seq ?_
    refine CW.cond rfl (fun h0 => ?_) (fun h0 => ?_)
    ·
      exact absurd h0 (by simp)
    ·
      try simp only [decide_eq_true_eq, decide_eq_false_iff_not, beq_iff_eq, bne_iff_ne, ne_eq, Int.not_lt, Int.not_le, beq_eq_false_iff_ne, gt_iff_lt, ge_iff_le, Bool.not_eq_true, Bool.not_eq_false, Bool.not_eq_false', bne_eq_false_iff_eq] at h0
      refine CW.skip ?_
      refine Done.seq ?_
      refine CW.seq ?_
      refine CW.region ?_
      refine OL.popC rfl rfl rfl (POp.move rfl rfl rfl) ?_
      refine OL.popC rfl rfl rfl (POp.assign rfl rfl rfl) ?_
      refine OL.nil ?_
      refine Done.seq ?_
      refine CW.ret ?_
      refine Done.perm (permPick mb K1 e K2 Hx) ?_
      refine Done.retR (rs := [.tmp 4]) rfl (.tmp rfl (.nil)) (AVleL.refl _) (by exact List.Sublist.refl _) ?_
      exact ⟨K1, e, K2, rfl, (show keyS arg path = e.key from hek.symm) ▸ hK.found, rfl⟩
  ·
    skip
    refine OL.nil (Done.dp ?_)
    refine DP.one (k := 6) (by decide +kernel) rfl ?_
    refine OL.popC rfl rfl rfl (POp.move rfl rfl rfl) ?_
    refine OL.nil (Done.dp ?_)
    refine DP.anyC 7 10 28 rfl (by decide +kernel) rfl rfl (by decide +kernel) ?_
    refine AD.popC rfl rfl rfl (POp.extract rfl rfl rfl rfl) ?_
    refine AD.popC rfl rfl rfl (POp.extract rfl rfl rfl rfl) ?_
    refine AD.popC rfl rfl rfl (POp.assign rfl rfl rfl) ?_
    refine AD.nil ?_
    refine DP.tailC 10 (by decide +kernel) rfl ?_
    refine OL.popC rfl rfl rfl (POp.assign rfl rfl rfl) ?_
    refine OL.nil ?_
    refine Done.seq ?_
    refine CW.seq ?_
    refine CW.seq ?_
    refine CW.region ?_
    refine OL.popC rfl rfl rfl (POp.move rfl rfl rfl) ?_
    refine OL.popC rfl rfl rfl (POp.not rfl rfl rfl) ?_
    refine OL.nil ?_
    refine Done.seq ?_
    refine CW.cond rfl (fun h1 => ?_) (fun h1 => ?_)
    ·
      try simp only [decide_eq_true_eq, decide_eq_false_iff_not, beq_iff_eq, bne_iff_ne, ne_eq, Int.not_lt, Int.not_le, beq_eq_false_iff_ne, gt_iff_lt, ge_iff_le, Bool.not_eq_true, Bool.not_eq_false, Bool.not_eq_false', bne_eq_false_iff_eq] at h1
      refine CW.seq ?_
      refine CW.region ?_
      refine OL.popC rfl rfl rfl (POp.build' rfl rfl (by first | rfl | simp_all [strip]) rfl) ?_
      refine OL.popC rfl rfl rfl (POp.build' rfl rfl (by first | rfl | simp_all [strip]) rfl) ?_
      refine OL.boxC rfl rfl rfl rfl rfl rfl rfl (fun nb => ?_)
      refine OL.popC rfl rfl rfl (POp.assign rfl rfl rfl) ?_
      refine OL.nil ?_
      refine Done.seq ?_
      refine CW.dp mixed ?_
      refine DP.anyC 0 6 28 rfl (by decide +kernel) rfl rfl (by decide +kernel) ?_
      refine AD.popC rfl rfl rfl (POp.move rfl rfl rfl) ?_
      refine AD.popC rfl rfl rfl ((by first | exact POp.nilCheck rfl rfl rfl | exact POp.nilCheckP rfl rfl rfl | exact POp.nilCheckF rfl rfl rfl)) ?_
      refine AD.popC rfl rfl rfl ((by first | exact POp.fa rfl rfl rfl rfl | exact POp.faP rfl rfl rfl rfl)) ?_
      refine AD.popC rfl rfl rfl ((by first | exact POp.ld1 rfl rfl rfl rfl | (apply POp.ld1H rfl rfl rfl; (case hm => repeat (first | exact .head _ | refine .tail _ ?_)); (case hy => rfl)))) ?_
      refine AD.popC rfl rfl rfl ((by first | exact POp.ldA rfl rfl rfl rfl | (apply POp.ldAH rfl rfl rfl; (case hm => repeat (first | exact .head _ | refine .tail _ ?_)); (case hy => rfl); (case hn => rfl)))) ?_
      refine AD.popC rfl rfl rfl (POp.move rfl rfl rfl) ?_
      refine AD.nil ?_
      refine DP.tailC 6 (by decide +kernel) rfl ?_
      refine OL.mapUpdateM (es := KBmap K) (vs := keyV arg path) rfl rfl rfl rfl rfl rfl rfl (AVle.refl _) rfl rfl (.tail _ _ _ _ _ (.head _ _ _)) hgood (KBmap_good hK) habs ?_
      refine OL.nil ?_
      refine Done.seq ?_
      refine CW.seq ?_
      refine CW.region ?_
      refine OL.popC rfl rfl rfl (POp.move rfl rfl rfl) ?_
      refine OL.popC rfl rfl rfl (POp.assign rfl rfl rfl) ?_
      refine OL.nil ?_
      refine Done.seq ?_
      refine CW.ret ?_
      refine Done.rowNil 3 1 ?_
      refine Done.rowNil 3 1 ?_
      refine Done.perm (perm3 _ _ _ _) ?_
      refine Done.retR (rs := [.tmp 4]) rfl (.tmp rfl (.nil)) (AVleL.refl _) (by exact List.Sublist.refl _) ?_
      exact ⟨K, ⟨keyS arg path, nb, kn0, .slice none 0 0, .slice none 0 0⟩, [], rfl, hK.new hgood (fun e he hk => habs (e.key, .p e.blk 0) (List.mem_map_of_mem he) hk) _ rfl rfl, by simp only [SentsAt, KBmap, List.map_append, List.map_cons, List.map_nil, List.append_nil]; rfl⟩
    ·
      exact absurd h1 (by simp)
end Go.Proofs.YtiljpbljebfhnaaGreat
