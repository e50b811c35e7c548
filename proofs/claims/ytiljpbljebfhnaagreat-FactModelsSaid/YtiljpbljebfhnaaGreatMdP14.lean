/- Part 14 of the proof: contracts of functions of the program and what they need. No condition beyond those that each theorem names. -/
import Derived.Test.YtiljpbljebfhnaaGreatMdP13
set_option linter.unusedVariables false
set_option linter.unusedSimpArgs false
set_option maxRecDepth 10000
namespace Go.Proofs.YtiljpbljebfhnaaGreat
open Go.Eng
open Go.Eng.Fc
theorem b116 {W : FW} {mb xb : Nat} {kn : Value → Kn} (K : KnOk W kn) (hw : worldP W = true) {arg : Int} : ∀ (d : Nat) (path : List Int), goodSpot arg path → path.length + d = 2 → ∀ (bv ov : Value) (st : MSt) (Hx : List Ent) (B : Nat), st.1.length + mostV d ≤ 10000 → st.2.length + mostV d ≤ 10000 →
  BCall B Tryz.prog 116 [.p xb 0, AV.spot arg path] (mdlH W mb xb bv ov st.1 st.2 (sceneH mb kn :: Hx)) (fun y H' => ∃ bv' ov', y = AV.vl (valueP W kn arg d st path).1 ∧ H' = mdlH W mb xb bv' ov' (valueP W kn arg d st path).2.1 (valueP W kn arg d st path).2.2 (sceneH mb kn :: Hx)) (fun _ => False)
 | 0, path, h, hd, bv, ov, st, Hx, B, h1, h2 => b116_step K hw h 0 hd 0 (fun st _ => ((2, 0), st)) (fun s hs => by rw [K.deep arg path h (by omega)] at hs; cases hs) (fun s hs => by rw [K.deep arg path h (by omega)] at hs; cases hs) bv ov st Hx B h1 h2
 | d + 1, path, h, hd, bv, ov, st, Hx, B, h1, h2 => b116_step K hw h (d + 1) hd (mostV d) (valueP W kn arg d) (fun s hs => value_grow K (world_own hw) d (path ++ [s]) (kn_next K (world_own hw) h hs).2 (by simp; omega))
   (fun s hs bv ov st Hx B g1 g2 => b116 K hw d (path ++ [s]) (kn_next K (world_own hw) h hs).2 (by simp; omega) bv ov st Hx B g1 g2) bv ov st Hx B h1 h2
theorem pigeon : ∀ (n : Nat) (a : Int) (l : List Int), l.Nodup → (∀ x ∈ l, a ≤ x ∧ x < a + n) → l.length ≤ n
 | 0, a, l, _, h => by
  cases l with
  | nil => exact Nat.le_refl _
  | cons x r => have := h x (.head _); omega
 | n + 1, a, l, hn, h => by
  by_cases hm : (a + n) ∈ l
  ·have h1 := pigeon n a (l.erase (a + n)) (hn.erase _) (fun x hx => by
    obtain ⟨h2, h3⟩ := (hn.mem_erase_iff).1 hx
    have := h x h3; omega)
   rw [List.length_erase_of_mem hm] at h1
   omega
  ·have h1 := pigeon n a l hn (fun x hx => by
    have := h x hx
    have hne : x ≠ a + n := fun e => hm (e ▸ hx)
    omega)
   omega
theorem par_nodup {i : Nat} : ∀ (l seen : List Int), parentsP i seen l = true → seen.Nodup → (∀ x ∈ seen, 3 ≤ x ∧ x < 3 + i) → (seen ++ l).Nodup ∧ ∀ x ∈ seen ++ l, 3 ≤ x ∧ x < 3 + i
 | [], seen, _, h1, h2 => by rw [List.append_nil]; exact ⟨h1, h2⟩
 | p :: r, seen, h, h1, h2 => by
  rw [parentsP, Bool.and_eq_true, Bool.not_eq_true', Bool.or_eq_false_iff, Bool.or_eq_false_iff, decide_eq_false_iff_not, decide_eq_false_iff_not] at h
  have hp : p ∉ seen := fun e => by rw [List.contains_iff_mem.2 e] at h; cases h.1.2
  have := par_nodup r (seen ++ [p]) h.2 (List.nodup_append.2 ⟨h1, by simp, fun a ha b hb e => by rw [List.mem_singleton] at hb; subst hb; subst e; exact hp ha⟩) (fun x hx => by
   rcases List.mem_append.1 hx with hx | hx
   ·exact h2 x hx
   ·rw [List.mem_singleton] at hx; subst hx; omega)
  rwa [List.append_assoc] at this
theorem pars_at : ∀ (l : List (List Int)) (i k : Nat), parentssP i l = true → k < l.length → parentsP (i + k) [] (l.getD k default) = true
 | x :: r, i, 0, h, _ => by rw [parentssP, Bool.and_eq_true] at h; exact h.1
 | x :: r, i, k + 1, h, hk => by
  rw [parentssP, Bool.and_eq_true] at h
  have := pars_at r (i + 1) k h.2 (by simpa using hk)
  rwa [show i + 1 + k = i + (k + 1) by omega] at this
theorem par_len {W : FW} (hw : worldP W = true) {k : Nat} (hk : k < W.parents.length) : (W.parents.getD k default).length ≤ 1000 := by
 have hP := world_len hw
 simp only [worldP, Bool.and_eq_true] at hw
 have h1 := pars_at _ 0 k hw.1.2 hk
 obtain ⟨h2, h3⟩ := par_nodup _ [] h1 .nil (fun x hx => by cases hx)
 have := pigeon (0 + k) 3 _ h2 (fun x hx => by have := h3 x hx; omega)
 rw [List.nil_append] at this
 omega
def uptoP (s c : Nat) : List Int := ((List.range c).filter fun b => decide (3 ≤ b) && s.testBit b).map fun (b : Nat) => (b : Int)
def newP (n s : Nat) : List Int := uptoP s (3 + n)
def moreW (W : FW) (bits : List Nat) : FW := ⟨W.parents ++ bits.map (newP W.parents.length), W.owner⟩
theorem upto_succ {s c : Nat} (h : 3 ≤ c) : uptoP s (c + 1) = if s.testBit c then uptoP s c ++ [(c : Int)] else uptoP s c := by
 rw [uptoP, List.range_succ, List.filter_append, List.map_append]
 show uptoP s c ++ _ = _
 cases hb : s.testBit c with
 | true => simp [hb, h]
 | false => simp [hb]
theorem upto_len (s c : Nat) : (uptoP s c).length ≤ c := by
 rw [uptoP, List.length_map]
 exact Nat.le_trans (List.length_filter_le _ _) (by rw [List.length_range]; exact Nat.le_refl _)
theorem p117 {W : FW} (hw : worldP W = true) (mb : Nat) (bits : List Nat) (objs : Obs) (hB : ∀ s ∈ bits, s < 18446744073709551616) (hl : bits.length ≤ 10000) : PCall Tryz.prog 117 [.ptr [sceneP W mb, AV.sets bits, AV.things objs]] (AV.world (moreW W bits)) := by
 intro H
 refine ACall.mk' (n := 88) Tryz.func117 rfl (by kernel_rfl) rfl rfl (fun B I w0 => ?_)
 have hW := world_own hw
 have hP := world_len hw
 refine S2 ?_
 refine OL.alC rfl rfl rfl rfl (fun cb => ?_)
 refine S4 ?_; refine Omv ?_; refine Onc ?_; refine Ofa ?_; refine Old ?_; refine Onc ?_; refine Ofa ?_; refine Old ?_; refine Onc ?_; refine Ofa ?_; refine Ofa ?_; refine Old ?_
 refine OL.popC rfl rfl rfl (POp.call (.mk' rfl rfl rfl rfl rfl) (p32 W.owner (by omega))) ?_
 refine Obd ?_
 refine OL.alC rfl rfl rfl rfl (fun wb => ?_)
 refine Sto ?_; refine S4 ?_
 refine CW.rowNil 23 1 ?_
 refine CW.perm (.swap _ _ _) ?_
 refine S1 ?_; refine Omv ?_; refine Onc ?_; refine Ofa ?_; refine Old ?_; refine Onc ?_; refine Ofa ?_; refine Old ?_; refine Onc ?_; refine Ofa ?_; refine Ofa ?_; refine Old ?_
 refine Oln ?_; refine Omv ?_; refine S3 ?_
 refine lj (fun m st => ∃ (k : Nat) (pv : Value), st = ⟨[(35, .i k), (34, .i W.parents.length), (33, AV.intss W.parents), (2, .p cb 0), (3, .p wb 0), (0, .ptr [sceneP W mb, AV.sets bits, AV.things objs])], .blk wb 25 [.val pv, AV.ints W.owner] :: .row 23 1 pv ((W.parents.take k).map fun l => [AV.ints l]).length ((W.parents.take k).map fun l => [AV.ints l]).flatten :: .blk cb 25 [.val (.slice none 0 0), .val (.slice none 0 0)] :: H⟩ ∧ m = W.parents.length - k ∧ k ≤ W.parents.length) (⟨0, _, rfl, rfl, Nat.zero_le _⟩) ?_
 rintro m _ ⟨k, pv, rfl, rfl, hk⟩
 refine S2 ?_; refine Ocm ?_; refine S3 ?_
 refine CW.cond rfl (fun h0 => ?_) (fun h0 => ?_)
 ·
  replace h0 := nm h0
  have hkl : k < W.parents.length := by omega
  have hpm := getD_mem hkl
  have hpl : (W.parents.getD k default).length ≤ 1000 := par_len hw hkl
  have htk : (W.parents.take k).length ≤ 60 := by rw [List.length_take]; omega
  refine S6 ?_; refine Oix ?_; refine Old ?_; refine Oas ?_; refine S2 ?_
  refine CW.dp mixed ?_
  refine DP.anyC 0 5 88 rfl (by decide +kernel) rfl rfl (by decide +kernel) ?_
  refine Afa ?_; refine Ald ?_; refine Amv ?_
  refine AD.popC rfl rfl rfl (POp.call (.mk' rfl rfl rfl rfl rfl) (p32 _ (by omega))) ?_
  refine AD.popC rfl rfl rfl (POp.row rfl rfl (by first | rfl | simp_all [strip]) rfl rfl rfl rfl rfl rfl) ?_
  refine AD.nil ?_
  refine DP.tailC 5 (by decide +kernel) rfl ?_
  refine OL.appendRow (news := [[AV.ints (W.parents.getD k default)]]) rfl rfl rfl rfl rfl rfl rfl rfl (AVle.refl _) (by simp) rfl (fun v => by repeat (first | exact Upd.head _ _ _ | apply Upd.tail)) (by simp only [List.length_map, List.length_cons, List.length_nil]; omega) (by simp only [List.length_map, List.length_cons, List.length_nil]; omega) (fun v44 => ?_)
  refine Ofa ?_
  refine OL.rowOne (v := v44) (.tail _ (.head _)) (fun hv44 => ?_)
  apply OL.stoC rfl rfl rfl rfl rfl rfl rfl (one_bOk hv44) (one_all hv44) rfl
  (case hu => repeat (first | exact Upd.head _ _ _ | apply Upd.tail)); (case hfit => rfl); (case hds => rfl)
  refine S3 ?_
  refine CW.eqH (H' := .blk wb 25 [.val v44, AV.ints W.owner] :: .row 23 1 v44 ((W.parents.take (k + 1)).map fun l => [AV.ints l]).length ((W.parents.take (k + 1)).map fun l => [AV.ints l]).flatten :: .blk cb 25 [.val (.slice none 0 0), .val (.slice none 0 0)] :: H) (by rw [← take_getD hkl]; simp [bcells]) ?_
  refine S1 ?_; refine Oar ?_; refine Omv ?_; refine S1 ?_
  exact ag (⟨k + 1, v44, rfl, rfl, by omega⟩)
 ·
  replace h0 := nm h0
  obtain rfl : k = W.parents.length := by omega
  rw [List.take_length]
  refine S8 ?_; refine Omv ?_; refine Onc ?_; refine Ofa ?_; refine Old ?_; refine Oln ?_; refine Omv ?_; refine S3 ?_
  refine lj (fun m st => ∃ (k : Nat) (pv : Value), st = ⟨[(52, .i k), (51, .i bits.length), (50, AV.sets bits), (2, .p cb 0), (3, .p wb 0), (0, .ptr [sceneP W mb, AV.sets bits, AV.things objs])], .blk wb 25 [.val pv, AV.ints W.owner] :: .row 23 1 pv ((W.parents ++ (bits.take k).map (newP W.parents.length)).map fun l => [AV.ints l]).length ((W.parents ++ (bits.take k).map (newP W.parents.length)).map fun l => [AV.ints l]).flatten :: .blk cb 25 [.val (.slice none 0 0), .val (.slice none 0 0)] :: H⟩ ∧ m = bits.length - k ∧ k ≤ bits.length) (⟨0, pv, by rw [List.take_zero, List.map_nil, List.append_nil], rfl, Nat.zero_le _⟩) ?_
  rintro m _ ⟨k, pv, rfl, rfl, hk⟩
  refine S2 ?_; refine Ocm ?_; refine S3 ?_
  refine CW.cond rfl (fun h1 => ?_) (fun h1 => ?_)
  ·
   replace h1 := nm h1
   have hkl : k < bits.length := by omega
   have hs64 := hB _ (getD_mem hkl)
   have hbk : (W.parents ++ (bits.take k).map (newP W.parents.length)).length ≤ 20000 := by rw [List.length_append, List.length_map, List.length_take]; omega
   refine S6 ?_; refine Oix ?_; refine Old ?_; refine Oas ?_; refine S4 ?_; refine Oas ?_; refine S4 ?_
   refine CW.ownNil 8 3 1 rfl ?_
   refine S1 ?_; refine Oas ?_; refine S3 ?_
   refine lj (fun m st => ∃ (c : Nat) (v : Value), st = ⟨[(9, .i c), (8, .as (AV.ints (uptoP (bits.getD k default) c)) v), (7, AV.set (bits.getD k default)), (52, .i k), (51, .i bits.length), (50, AV.sets bits), (2, .p cb 0), (3, .p wb 0), (0, .ptr [sceneP W mb, AV.sets bits, AV.things objs])], .own 3 1 v :: .blk wb 25 [.val pv, AV.ints W.owner] :: .row 23 1 pv ((W.parents ++ (bits.take k).map (newP W.parents.length)).map fun l => [AV.ints l]).length ((W.parents ++ (bits.take k).map (newP W.parents.length)).map fun l => [AV.ints l]).flatten :: .blk cb 25 [.val (.slice none 0 0), .val (.slice none 0 0)] :: H⟩ ∧ m = 3 + W.parents.length - c ∧ 3 ≤ c ∧ c ≤ 3 + W.parents.length) (⟨3, _, rfl, rfl, by omega, by omega⟩) ?_
   rintro m _ ⟨c, v, rfl, rfl, hc3, hc⟩
   have hul := upto_len (bits.getD k default) c
   have hus := upto_succ (s := (bits.getD k default)) hc3
   refine S3 ?_; refine Omv ?_; refine Omv ?_; refine Onc ?_; refine Ofa ?_; refine Old ?_; refine Onc ?_; refine Ofa ?_; refine Old ?_; refine Onc ?_; refine Ofa ?_; refine Ofa ?_
   refine Old ?_; refine Oln ?_; refine Oar ?_; refine Ocm ?_; refine S2 ?_
   refine CW.cond rfl (fun h2 => ?_) (fun h2 => ?_)
   ·
    replace h2 := nm h2
    have hcl : c < 3 + W.parents.length := by omega
    refine S6 ?_; refine Omv ?_; refine Omv ?_
    refine OL.popC rfl rfl rfl (POp.call (.mk' rfl rfl rfl rfl rfl) (p107 _ _ (by omega) hs64)) ?_
    refine S2 ?_
    refine CW.cond rfl (fun h3 => ?_) (fun h3 => ?_)
    ·
     have hus2 : uptoP (bits.getD k default) (c + 1) = uptoP (bits.getD k default) c ++ [(c : Int)] := by rw [hus, if_pos (by simpa using h3)]
     refine S1 ?_; refine Omv ?_; refine Omv ?_
     refine OL.popC rfl rfl rfl (POp.row rfl rfl (by first | rfl | simp_all [strip]) rfl rfl rfl rfl rfl rfl) ?_
     refine OL.appendC rfl rfl rfl rfl rfl rfl rfl rfl (AVle.refl _) (rfl) (fun v => by repeat (first | exact Upd.head _ _ _ | apply Upd.tail)) (by show (List.length (List.map _ _) + 1) * 8 ≤ _; rw [List.length_map]; omega) (by show List.length (List.map _ _) + 1 ≤ _; rw [List.length_map]; omega) (fun v79 => ?_)
     refine Oas ?_; refine S3 ?_
     refine CW.le 8 (y := .as (AV.ints (uptoP (bits.getD k default) (c + 1))) v79) rfl (by rw [hus2, AV.ints, ints_snoc]; exact AVle.refl _) ?_
     refine S1 ?_; refine Omv ?_; refine Oar ?_; refine Oas ?_; refine S1 ?_
     exact ag (⟨c + 1, v79, rfl, rfl, by omega, by omega⟩)
    ·
     have hus2 : uptoP (bits.getD k default) (c + 1) = uptoP (bits.getD k default) c := by rw [hus, if_neg (by simpa using h3)]
     refine S3 ?_
     rw [← hus2]
     refine S1 ?_; refine Omv ?_; refine Oar ?_; refine Oas ?_; refine S1 ?_
     exact ag (⟨c + 1, v, rfl, rfl, by omega, by omega⟩)
   ·
    replace h2 := nm h2
    obtain rfl : c = 3 + W.parents.length := by omega
    refine S5 ?_
    refine CW.le 8 rfl (AVle.asL _ _) ?_
    refine S1 ?_; refine Ofa ?_; refine Old ?_; refine Omv ?_
    refine OL.popC rfl rfl rfl (POp.row rfl rfl (by first | rfl | simp_all [strip]) rfl rfl rfl rfl rfl rfl) ?_
    refine OL.appendRow (news := [[AV.ints (uptoP (bits.getD k default) (3 + W.parents.length))]]) rfl rfl rfl rfl rfl rfl rfl rfl (AVle.refl _) (by simp) rfl (fun v => by repeat (first | exact Upd.head _ _ _ | apply Upd.tail)) (by simp only [List.length_map, List.length_cons, List.length_nil]; omega) (by simp only [List.length_map, List.length_cons, List.length_nil]; omega) (fun v84 => ?_)
    refine Ofa ?_
    refine OL.rowOne (v := v84) (.tail _ (.tail _ (.head _))) (fun hv84 => ?_)
    apply OL.stoC rfl rfl rfl rfl rfl rfl rfl (one_bOk hv84) (one_all hv84) rfl
    (case hu => repeat (first | exact Upd.head _ _ _ | apply Upd.tail)); (case hfit => rfl); (case hds => rfl)
    refine S3 ?_
    refine CW.eqH (H' := .own 3 1 v :: .blk wb 25 [.val v84, AV.ints W.owner] :: .row 23 1 v84 ((W.parents ++ (bits.take (k + 1)).map (newP W.parents.length)).map fun l => [AV.ints l]).length ((W.parents ++ (bits.take (k + 1)).map (newP W.parents.length)).map fun l => [AV.ints l]).flatten :: .blk cb 25 [.val (.slice none 0 0), .val (.slice none 0 0)] :: H) (by rw [← take_getD hkl]; simp [bcells, newP, Nat.add_assoc]) ?_
    refine S1 ?_; refine Oar ?_; refine Omv ?_; refine S1 ?_
    exact ag (⟨k + 1, v84, rfl, rfl, by omega⟩)
  ·
   replace h1 := nm h1
   obtain rfl : k = bits.length := by omega
   rw [List.take_length]
   refine S6 ?_
   refine CW.perm (.swap _ _ _) ?_
   refine CW.freezeRowCell (k := 1) (xs := []) (fun e he => by obtain ⟨n, _, rfl⟩ := List.mem_map.1 he; rfl) ?_
   refine S1 ?_; refine Ola ?_; refine Sto ?_; refine S3 ?_
   refine Done.retR (rs := [.cell 2 25]) (H' := H) rfl ((by first | exact .cellA inferInstance rfl (by repeat (first | exact .head _ | refine .tail _ ?_)) rfl rfl (.nil) | exact .ptrA inferInstance rfl rfl (.nil))) (AVleL.refl _) (by repeat (first | exact List.Sublist.refl _ | refine List.Sublist.cons _ ?_)) ?_
   exact ⟨by first | rfl | exact retI (by simp_all) | exact retB (by simp_all) | simp_all, rfl⟩
def Small (l : List Nat) : Prop := ∀ s ∈ l, s < 18446744073709551616
theorem class_small {W : FW} {bits : List Nat} {s : Nat} (h : Small bits) (hs : s < 18446744073709551616) : Small (classP W bits s).2 := by
 unfold classP
 split
 ·exact h
 ·split
  ·exact h
  ·intro x hx
   rcases List.mem_append.1 hx with hx | hx
   ·exact h x hx
   ·rw [List.mem_singleton] at hx; rw [hx]; exact hs
theorem slots_small {W : FW} {kn : Value → Kn} {arg : Int} {rec : MSt → List Int → (Int × Int) × MSt} {set : Nat} {path : List Int} {st : MSt} (hr : ∀ s ∈ (kn (keyS arg path)).slots, ∀ st, Small st.1 → Small (rec st (path ++ [s])).2.1) (h : Small st.1) : ∀ k, Small (slotsV W kn arg rec set path st k).2.1
 | 0 => h
 | k + 1 => by
  have h1 := slots_small (W := W) (set := set) hr h k
  rw [slotsV_succ]
  generalize slotsV W kn arg rec set path st k = acc at *
  unfold slotV
  split
  ·split
   ·rename_i hc
    exact hr (k : Int) (List.contains_iff_mem.1 hc) acc.2 h1
   ·exact h1
  ·exact h1
theorem value_small_step {W : FW} {kn : Value → Kn} {arg : Int} {d : Nat} {rec : MSt → List Int → (Int × Int) × MSt} {path : List Int} (hr : ∀ s ∈ (kn (keyS arg path)).slots, ∀ st, Small st.1 → Small (rec st (path ++ [s])).2.1) (st : MSt) (h : Small st.1) : Small (valueS W kn arg d rec st path).2.1 := by
 unfold valueS
 split
 ·exact h
 ·split
  ·exact h
  ·exact slots_small (W := W) (st := (_, _)) hr (class_small h objK_lt) W.owner.length
theorem value_small {W : FW} {kn : Value → Kn} (K : KnOk W kn) (hW : W.owner.length ≤ 40) {arg : Int} : ∀ (d : Nat) (path : List Int), goodSpot arg path → path.length + d = 2 → ∀ st : MSt, Small st.1 → Small (valueP W kn arg d st path).2.1
 | 0, path, h, hd, st => value_small_step (W := W) (d := 0) (rec := fun st _ => ((2, 0), st)) (fun s hs => by rw [K.deep arg path h (by omega)] at hs; cases hs) st
 | d + 1, path, h, hd, st => value_small_step (W := W) (d := d + 1) (rec := valueP W kn arg d) (fun s hs => value_small K hW d (path ++ [s]) (kn_next K hW h hs).2 (by simp; omega)) st
def argV (W : FW) (kn : Value → Kn) (acc : List (Int × Int) × MSt) (a : Nat) : List (Int × Int) × MSt := (acc.1 ++ [(valueP W kn (a : Int) 2 acc.2 []).1], (valueP W kn (a : Int) 2 acc.2 []).2)
def argsV (W : FW) (kn : Value → Kn) (k : Nat) : List (Int × Int) × MSt := (List.range k).foldl (argV W kn) ([], ([], []))
theorem argsV_succ (W : FW) (kn : Value → Kn) (k : Nat) : argsV W kn (k + 1) = argV W kn (argsV W kn k) k := by
 rw [argsV, List.range_succ, List.foldl_append]; rfl
theorem spot_root {a : Nat} (h : a < 3) : goodSpot (a : Int) [] := ⟨by omega, by omega, by simp, by simp⟩
theorem args_ok {W : FW} {kn : Value → Kn} (K : KnOk W kn) (hW : W.owner.length ≤ 40) : ∀ k, k ≤ 3 → Small (argsV W kn k).2.1 ∧ (argsV W kn k).2.1.length ≤ 1641 * k ∧ (argsV W kn k).2.2.length ≤ 1641 * k ∧ (argsV W kn k).1.length = k
 | 0, _ => ⟨fun x hx => (by cases hx), Nat.le_refl _, Nat.le_refl _, rfl⟩
 | k + 1, hk => by
  obtain ⟨h1, h2, h3, h4⟩ := args_ok K hW k (by omega)
  rw [argsV_succ]
  generalize argsV W kn k = acc at *
  have hg := value_grow K hW 2 [] (spot_root (a := k) (by omega)) rfl acc.2
  have hs := value_small K hW 2 [] (spot_root (a := k) (by omega)) rfl acc.2 h1
  obtain ⟨g1, g2, g3⟩ := hg
  have hm : mostV 2 = 1641 := rfl
  rw [hm] at g1 g3
  exact ⟨hs, by show (valueP W kn (k : Int) 2 acc.2 []).2.1.length ≤ _; omega, by show (valueP W kn (k : Int) 2 acc.2 []).2.2.length ≤ _; omega, by simp [argV, h4]⟩
noncomputable def modelC (W : FW) (c : List FLit) : FW × Obs × List (Int × Int) := (moreW W (argsV W (stageK c) 3).2.1, (argsV W (stageK c) 3).2.2, (argsV W (stageK c) 3).1)
abbrev AV.model (x : FW × Obs × List (Int × Int)) (e : Int) : AV := .tup [AV.world x.1, AV.things x.2.1, AV.vals x.2.2, .i e]
def noM : FW × Obs × List (Int × Int) := (⟨[], []⟩, [], [])
theorem no_le (e : Int) : AVleL [.agg [.val (.slice none 0 0), .val (.slice none 0 0)], .val (.slice none 0 0), .val (.slice none 0 0), .i e] [AV.world noM.1, AV.things noM.2.1, AV.vals noM.2.2, .i e] :=
 .cons (AVle.agg (.cons (AVle.nil 1) (.cons (AVle.nil 1) .nil))) (.cons (AVle.nil 2) (.cons (AVle.nil 2) (.cons (.refl _) .nil)))
theorem p61n {W : FW} {f : Fact} (h : goodP W [f] = false) : PCall Tryz.prog 61 [AV.world W, AV.fact f] (AV.model noM 2) := by
 intro H
 refine ACall.mk' (n := 62) Tryz.func61 rfl (by kernel_rfl) rfl rfl (fun B I w0 => ?_)
 refine S2 ?_; refine Obx ?_; refine Obx ?_
 refine OL.alC rfl rfl rfl rfl (fun r4 => ?_)
 refine OL.alC rfl rfl rfl rfl (fun r5 => ?_)
 refine OL.alC rfl rfl rfl rfl (fun r6 => ?_)
 refine OL.alC rfl rfl rfl rfl (fun r7 => ?_)
 refine S4 ?_; refine Ola ?_; refine Ola ?_
 refine OL.popC rfl rfl rfl (POp.row rfl rfl (by first | rfl | simp_all [strip]) rfl rfl rfl rfl rfl rfl) ?_
 refine OL.popC rfl rfl rfl (POp.callLe (.mk' rfl rfl rfl rfl rfl) (.cons (.refl _) (.cons (AVle_facts [f] rfl) .nil)) (p80n h)) ?_
 refine Omv ?_; refine Oex ?_; refine Oex ?_
 refine OL.alC rfl rfl rfl rfl (fun r8 => ?_)
 refine Sto ?_; refine Oas ?_; refine S6 ?_; refine Omv ?_; refine Ont ?_; refine Oas ?_; refine S2 ?_
 refine CW.cond rfl (fun h0 => ?_) (fun h0 => ?_)
 ·
  refine S2 ?_; refine Obd ?_; refine Sto ?_; refine Sto ?_; refine Sto ?_; refine Sto ?_; refine S5 ?_
  refine Done.retR (rs := [.cell 4 25, .cell 5 30, .cell 6 31, .cell 7 35]) (H' := H) rfl ((by first | exact .cellA inferInstance rfl (by repeat (first | exact .head _ | refine .tail _ ?_)) rfl rfl ((by first | exact .cell1 inferInstance rfl (by repeat (first | exact .head _ | refine .tail _ ?_)) rfl ((by first | exact .cell1 inferInstance rfl (by repeat (first | exact .head _ | refine .tail _ ?_)) rfl ((by first | exact .cell1 inferInstance rfl (by repeat (first | exact .head _ | refine .tail _ ?_)) rfl (.nil) | exact .ptr1 inferInstance rfl rfl (.nil))) | exact .ptr1 inferInstance rfl rfl ((by first | exact .cell1 inferInstance rfl (by repeat (first | exact .head _ | refine .tail _ ?_)) rfl (.nil) | exact .ptr1 inferInstance rfl rfl (.nil))))) | exact .ptr1 inferInstance rfl rfl ((by first | exact .cell1 inferInstance rfl (by repeat (first | exact .head _ | refine .tail _ ?_)) rfl ((by first | exact .cell1 inferInstance rfl (by repeat (first | exact .head _ | refine .tail _ ?_)) rfl (.nil) | exact .ptr1 inferInstance rfl rfl (.nil))) | exact .ptr1 inferInstance rfl rfl ((by first | exact .cell1 inferInstance rfl (by repeat (first | exact .head _ | refine .tail _ ?_)) rfl (.nil) | exact .ptr1 inferInstance rfl rfl (.nil))))))) | exact .ptrA inferInstance rfl rfl ((by first | exact .cell1 inferInstance rfl (by repeat (first | exact .head _ | refine .tail _ ?_)) rfl ((by first | exact .cell1 inferInstance rfl (by repeat (first | exact .head _ | refine .tail _ ?_)) rfl ((by first | exact .cell1 inferInstance rfl (by repeat (first | exact .head _ | refine .tail _ ?_)) rfl (.nil) | exact .ptr1 inferInstance rfl rfl (.nil))) | exact .ptr1 inferInstance rfl rfl ((by first | exact .cell1 inferInstance rfl (by repeat (first | exact .head _ | refine .tail _ ?_)) rfl (.nil) | exact .ptr1 inferInstance rfl rfl (.nil))))) | exact .ptr1 inferInstance rfl rfl ((by first | exact .cell1 inferInstance rfl (by repeat (first | exact .head _ | refine .tail _ ?_)) rfl ((by first | exact .cell1 inferInstance rfl (by repeat (first | exact .head _ | refine .tail _ ?_)) rfl (.nil) | exact .ptr1 inferInstance rfl rfl (.nil))) | exact .ptr1 inferInstance rfl rfl ((by first | exact .cell1 inferInstance rfl (by repeat (first | exact .head _ | refine .tail _ ?_)) rfl (.nil) | exact .ptr1 inferInstance rfl rfl (.nil))))))))) (no_le 2) (by repeat (first | exact List.Sublist.refl _ | refine List.Sublist.cons _ ?_)) ?_
  exact ⟨by first | rfl | exact retI (by simp_all) | exact retB (by simp_all) | simp_all, rfl⟩
 ·
  cases h0
theorem CW.names {c : Ctx} {r : Option Nat} {P : Program} {pp : Code} {Q : Exit → Act → World → Prop} {env : List (Nat × AV)} {x1 x2 x3 x4 x5 p q : Ent} {Z : List Ent} (h : ∀ e1 e2, e1 = p → e2 = q → CW c r P pp ⟨env, x1 :: x2 :: x3 :: x4 :: x5 :: e1 :: e2 :: Z⟩ Q) : CW c r P pp ⟨env, x1 :: x2 :: x3 :: x4 :: x5 :: p :: q :: Z⟩ Q := h _ _ rfl rfl
def firstC (W : FW) (f : Fact) : Option (List FLit) := (casesP f false).find? (together2 W)
theorem first_of {W : FW} {f : Fact} {pre : List (List FLit)} {x : List FLit} (hpre : pre ++ [x] <+: casesP f false) (hJ : ∀ y ∈ pre, together2 W y = false) (hx : together2 W x = true) : firstC W f = some x := by
 obtain ⟨post, hp⟩ := hpre
 rw [firstC, List.find?_eq_some_iff_append]
 exact ⟨hx, pre, post, by rw [← hp, List.append_assoc]; rfl, fun y hy => by rw [hJ y hy]; rfl⟩
theorem good_1 {W : FW} {f : Fact} (h : goodP W [f] = true) : GoodF W f := by
 have h1 := good_f1 h
 exact good_of h1.1 h1.2.2.1 (by omega)
theorem p61l {W : FW} {f : Fact} (h : goodP W [f] = true) (hl : 20 < W.parents.length) : PCall Tryz.prog 61 [AV.world W, AV.fact f] (AV.model noM 3) := by
 intro H
 refine ACall.mk' (n := 62) Tryz.func61 rfl (by kernel_rfl) rfl rfl (fun B I w0 => ?_)
 refine S2 ?_; refine Obx ?_; refine Obx ?_
 refine OL.alC rfl rfl rfl rfl (fun r4 => ?_)
 refine OL.alC rfl rfl rfl rfl (fun r5 => ?_)
 refine OL.alC rfl rfl rfl rfl (fun r6 => ?_)
 refine OL.alC rfl rfl rfl rfl (fun r7 => ?_)
 refine S4 ?_; refine Ola ?_; refine Ola ?_
 refine OL.popC rfl rfl rfl (POp.row rfl rfl (by first | rfl | simp_all [strip]) rfl rfl rfl rfl rfl rfl) ?_
 refine OL.popC rfl rfl rfl (POp.callLe (.mk' rfl rfl rfl rfl rfl) (.cons (.refl _) (.cons (AVle_facts [f] rfl) .nil)) (p80g h)) ?_
 refine Omv ?_; refine Oex ?_; refine Oex ?_
 refine OL.alC rfl rfl rfl rfl (fun r8 => ?_)
 refine Sto ?_; refine Oas ?_; refine S6 ?_; refine Omv ?_; refine Ont ?_; refine Oas ?_; refine S2 ?_
 refine CW.cond rfl (fun h0 => ?_) (fun h0 => ?_)
 ·
  cases h0
 ·
  refine S2 ?_; refine Ofa ?_; refine Old ?_; refine Oln ?_; refine Ocm ?_; refine Oas ?_; refine S2 ?_
  refine CW.cond rfl (fun h1 => ?_) (fun h1 => ?_)
  ·
   refine S2 ?_; refine Obd ?_; refine Sto ?_; refine Sto ?_; refine Sto ?_; refine Sto ?_; refine S5 ?_
   refine Done.retR (rs := [.cell 4 25, .cell 5 30, .cell 6 31, .cell 7 35]) (H' := H) rfl ((by first | exact .cellA inferInstance rfl (by repeat (first | exact .head _ | refine .tail _ ?_)) rfl rfl ((by first | exact .cell1 inferInstance rfl (by repeat (first | exact .head _ | refine .tail _ ?_)) rfl ((by first | exact .cell1 inferInstance rfl (by repeat (first | exact .head _ | refine .tail _ ?_)) rfl ((by first | exact .cell1 inferInstance rfl (by repeat (first | exact .head _ | refine .tail _ ?_)) rfl (.nil) | exact .ptr1 inferInstance rfl rfl (.nil))) | exact .ptr1 inferInstance rfl rfl ((by first | exact .cell1 inferInstance rfl (by repeat (first | exact .head _ | refine .tail _ ?_)) rfl (.nil) | exact .ptr1 inferInstance rfl rfl (.nil))))) | exact .ptr1 inferInstance rfl rfl ((by first | exact .cell1 inferInstance rfl (by repeat (first | exact .head _ | refine .tail _ ?_)) rfl ((by first | exact .cell1 inferInstance rfl (by repeat (first | exact .head _ | refine .tail _ ?_)) rfl (.nil) | exact .ptr1 inferInstance rfl rfl (.nil))) | exact .ptr1 inferInstance rfl rfl ((by first | exact .cell1 inferInstance rfl (by repeat (first | exact .head _ | refine .tail _ ?_)) rfl (.nil) | exact .ptr1 inferInstance rfl rfl (.nil))))))) | exact .ptrA inferInstance rfl rfl ((by first | exact .cell1 inferInstance rfl (by repeat (first | exact .head _ | refine .tail _ ?_)) rfl ((by first | exact .cell1 inferInstance rfl (by repeat (first | exact .head _ | refine .tail _ ?_)) rfl ((by first | exact .cell1 inferInstance rfl (by repeat (first | exact .head _ | refine .tail _ ?_)) rfl (.nil) | exact .ptr1 inferInstance rfl rfl (.nil))) | exact .ptr1 inferInstance rfl rfl ((by first | exact .cell1 inferInstance rfl (by repeat (first | exact .head _ | refine .tail _ ?_)) rfl (.nil) | exact .ptr1 inferInstance rfl rfl (.nil))))) | exact .ptr1 inferInstance rfl rfl ((by first | exact .cell1 inferInstance rfl (by repeat (first | exact .head _ | refine .tail _ ?_)) rfl ((by first | exact .cell1 inferInstance rfl (by repeat (first | exact .head _ | refine .tail _ ?_)) rfl (.nil) | exact .ptr1 inferInstance rfl rfl (.nil))) | exact .ptr1 inferInstance rfl rfl ((by first | exact .cell1 inferInstance rfl (by repeat (first | exact .head _ | refine .tail _ ?_)) rfl (.nil) | exact .ptr1 inferInstance rfl rfl (.nil))))))))) (no_le 3) (by repeat (first | exact List.Sublist.refl _ | refine List.Sublist.cons _ ?_)) ?_
   exact ⟨by first | rfl | exact retI (by simp_all) | exact retB (by simp_all) | simp_all, rfl⟩
  ·
   exfalso
   simp only [decide_eq_false_iff_not] at h1
   omega
theorem p61x {W : FW} {f : Fact} (h : goodP W [f] = true) (hl : W.parents.length ≤ 20) (hf : firstC W f = none) : PCall Tryz.prog 61 [AV.world W, AV.fact f] (AV.model noM 5) := by
 intro H
 refine ACall.mkM (n := 62) Tryz.func61 rfl (by kernel_rfl) rfl rfl (fun B I w0 => ?_)
 have hw := good_w h
 have hW := world_own hw
 have hG := good_1 h
 refine S2 ?_; refine Obx ?_; refine Obx ?_
 refine OL.alC rfl rfl rfl rfl (fun r4 => ?_)
 refine OL.alC rfl rfl rfl rfl (fun r5 => ?_)
 refine OL.alC rfl rfl rfl rfl (fun r6 => ?_)
 refine OL.alC rfl rfl rfl rfl (fun r7 => ?_)
 refine S4 ?_; refine Ola ?_; refine Ola ?_
 refine OL.popC rfl rfl rfl (POp.row rfl rfl (by first | rfl | simp_all [strip]) rfl rfl rfl rfl rfl rfl) ?_
 refine OL.popC rfl rfl rfl (POp.callLe (.mk' rfl rfl rfl rfl rfl) (.cons (.refl _) (.cons (AVle_facts [f] rfl) .nil)) (p80g h)) ?_
 refine Omv ?_; refine Oex ?_; refine Oex ?_
 refine OL.alC rfl rfl rfl rfl (fun r8 => ?_)
 refine Sto ?_; refine Oas ?_; refine S6 ?_; refine Omv ?_; refine Ont ?_; refine Oas ?_; refine S2 ?_
 refine CW.cond rfl (fun h0 => ?_) (fun h0 => ?_)
 ·
  cases h0
 ·
  refine S2 ?_; refine Ofa ?_; refine Old ?_; refine Oln ?_; refine Ocm ?_; refine Oas ?_; refine S2 ?_
  refine CW.cond rfl (fun h1 => ?_) (fun h1 => ?_)
  ·
   exfalso
   simp only [decide_eq_true_eq] at h1
   omega
  ·
   refine S6 ?_; refine Ola ?_
   refine OL.popC rfl rfl rfl (POp.call (.mk' rfl rfl rfl rfl rfl) (p81 f false)) ?_
   refine S3 ?_
   refine CW.weaken (st' := ⟨[(2, .ptr (Wcells W)), (3, .ptr (Fcells f)), (8, .p r8 0), (4, .p r4 0), (5, .p r5 0), (6, .p r6 0), (7, .p r7 0), (32, .fn (.func 132) [] [.ptr (Fcells f), .ptr [.b false]])], [.blk r8 109 [Wptr W], .blk r7 35 [.i 0], .blk r6 31 [.val (.slice none 0 0)], .blk r5 30 [.val (.slice none 0 0)], .blk r4 25 [.val (.slice none 0 0), .val (.slice none 0 0)]] ++ H⟩) (by repeat (first | exact trivial | refine ⟨rfl, ?_⟩)) (by repeat (first | exact List.Sublist.refl _ | refine List.Sublist.cons _ ?_)) ?_
   refine CW.rangeFunc (AV.lits) (casesP f false) (fun pre H1 => H1 = [.blk r8 109 [Wptr W], .blk r7 35 [.i 0], .blk r6 31 [.val (.slice none 0 0)], .blk r5 30 [.val (.slice none 0 0)], .blk r4 25 [.val (.slice none 0 0), .val (.slice none 0 0)]] ∧ ∀ y ∈ pre, together2 W y = false) (fun code pre H1 => False) ([.blk r8 109 [Wptr W], .blk r7 35 [.i 0], .blk r6 31 [.val (.slice none 0 0)], .blk r5 30 [.val (.slice none 0 0)], .blk r4 25 [.val (.slice none 0 0), .val (.slice none 0 0)]]) (H) (fun x => (10, AV.lits x) :: (33, AV.lits x) :: [(2, .ptr (Wcells W)), (3, .ptr (Fcells f)), (8, .p r8 0), (4, .p r4 0), (5, .p r5 0), (6, .p r6 0), (7, .p r7 0), (32, .fn (.func 132) [] [.ptr (Fcells f), .ptr [.b false]])]) rfl rfl rfl rfl (seq132 f hG.ok hG.nodes false) (⟨rfl, by simp⟩) ?_ ?_ ?_ ?_
   ·intro l0 I1 w1 x Hy
    refine S1 ?_; refine Oas ?_; refine S1 ?_
    exact fun a w s => ⟨_, rfl, s⟩
   ·intro l0 D0 lp pre x H1 Hy I1 w1 hpre hJ
    obtain ⟨rfl, hJp⟩ := hJ
    obtain ⟨hxl, hxn⟩ := hG.case false x (hpre.subset (by simp))
    have h82 := p82 hw hxl hxn
    rw [case_two ⟨hxl, hxn⟩] at h82
    refine S4 ?_; refine Old ?_; refine Omv ?_
    refine OL.popC rfl rfl rfl (POp.call (.mk' rfl rfl rfl rfl rfl) (h82)) ?_
    refine Ont ?_; refine S2 ?_
    refine CW.cond rfl (fun h2 => ?_) (fun h2 => ?_)
    ·
     have hxf : together2 W x = false := by simpa using h2
     refine S3 ?_
     exact Done.roundN (by repeat (first | exact List.Sublist.refl _ | refine List.Sublist.cons _ ?_)) (⟨rfl, fun y hy => by rcases List.mem_append.1 hy with hy | hy; exact hJp y hy; simp at hy; subst hy; exact hxf⟩)
    ·
     exfalso
     have hxt : together2 W x = true := by simpa using h2
     rw [first_of hpre hJp hxt] at hf
     cases hf
   ·intro D0 H1 hJ
    obtain ⟨rfl, hJp⟩ := hJ
    refine S4 ?_; refine Obd ?_; refine Sto ?_; refine Sto ?_; refine Sto ?_; refine Sto ?_; refine S3 ?_
    refine Done.retM1 (rs := [.cell 4 25, .cell 5 30, .cell 6 31, .cell 7 35]) (H' := H) rfl (by repeat (first | exact Del.head _ _ | apply Del.tail)) ((by first | exact .cellA inferInstance rfl (by repeat (first | exact .head _ | refine .tail _ ?_)) rfl rfl ((by first | exact .cell1 inferInstance rfl (by repeat (first | exact .head _ | refine .tail _ ?_)) rfl ((by first | exact .cell1 inferInstance rfl (by repeat (first | exact .head _ | refine .tail _ ?_)) rfl ((by first | exact .cell1 inferInstance rfl (by repeat (first | exact .head _ | refine .tail _ ?_)) rfl (.nil) | exact .ptr1 inferInstance rfl rfl (.nil))) | exact .ptr1 inferInstance rfl rfl ((by first | exact .cell1 inferInstance rfl (by repeat (first | exact .head _ | refine .tail _ ?_)) rfl (.nil) | exact .ptr1 inferInstance rfl rfl (.nil))))) | exact .ptr1 inferInstance rfl rfl ((by first | exact .cell1 inferInstance rfl (by repeat (first | exact .head _ | refine .tail _ ?_)) rfl ((by first | exact .cell1 inferInstance rfl (by repeat (first | exact .head _ | refine .tail _ ?_)) rfl (.nil) | exact .ptr1 inferInstance rfl rfl (.nil))) | exact .ptr1 inferInstance rfl rfl ((by first | exact .cell1 inferInstance rfl (by repeat (first | exact .head _ | refine .tail _ ?_)) rfl (.nil) | exact .ptr1 inferInstance rfl rfl (.nil))))))) | exact .ptrA inferInstance rfl rfl ((by first | exact .cell1 inferInstance rfl (by repeat (first | exact .head _ | refine .tail _ ?_)) rfl ((by first | exact .cell1 inferInstance rfl (by repeat (first | exact .head _ | refine .tail _ ?_)) rfl ((by first | exact .cell1 inferInstance rfl (by repeat (first | exact .head _ | refine .tail _ ?_)) rfl (.nil) | exact .ptr1 inferInstance rfl rfl (.nil))) | exact .ptr1 inferInstance rfl rfl ((by first | exact .cell1 inferInstance rfl (by repeat (first | exact .head _ | refine .tail _ ?_)) rfl (.nil) | exact .ptr1 inferInstance rfl rfl (.nil))))) | exact .ptr1 inferInstance rfl rfl ((by first | exact .cell1 inferInstance rfl (by repeat (first | exact .head _ | refine .tail _ ?_)) rfl ((by first | exact .cell1 inferInstance rfl (by repeat (first | exact .head _ | refine .tail _ ?_)) rfl (.nil) | exact .ptr1 inferInstance rfl rfl (.nil))) | exact .ptr1 inferInstance rfl rfl ((by first | exact .cell1 inferInstance rfl (by repeat (first | exact .head _ | refine .tail _ ?_)) rfl (.nil) | exact .ptr1 inferInstance rfl rfl (.nil))))))))) (no_le 5) (by repeat (first | exact List.Sublist.refl _ | refine List.Sublist.cons _ ?_)) ?_
    exact ⟨by first | rfl | exact retI (by simp_all) | exact retB (by simp_all) | simp_all, rfl⟩
   ·intro D0 code0 pre H1 hpre hJx
    exact hJx.elim
theorem p61g {W : FW} {f : Fact} (h : goodP W [f] = true) (hl : W.parents.length ≤ 20) {c : List FLit} (hf : firstC W f = some c) : PCall Tryz.prog 61 [AV.world W, AV.fact f] (AV.model (modelC W c) 0) := by
 intro H
 refine ACall.mkM (n := 62) Tryz.func61 rfl (by kernel_rfl) rfl rfl (fun B I w0 => ?_)
 have hw := good_w h
 have hW := world_own hw
 have hG := good_1 h
 refine S2 ?_; refine Obx ?_; refine Obx ?_
 refine OL.alC rfl rfl rfl rfl (fun r4 => ?_)
 refine OL.alC rfl rfl rfl rfl (fun r5 => ?_)
 refine OL.alC rfl rfl rfl rfl (fun r6 => ?_)
 refine OL.alC rfl rfl rfl rfl (fun r7 => ?_)
 refine S4 ?_; refine Ola ?_; refine Ola ?_
 refine OL.popC rfl rfl rfl (POp.row rfl rfl (by first | rfl | simp_all [strip]) rfl rfl rfl rfl rfl rfl) ?_
 refine OL.popC rfl rfl rfl (POp.callLe (.mk' rfl rfl rfl rfl rfl) (.cons (.refl _) (.cons (AVle_facts [f] rfl) .nil)) (p80g h)) ?_
 refine Omv ?_; refine Oex ?_; refine Oex ?_
 refine OL.alC rfl rfl rfl rfl (fun r8 => ?_)
 refine Sto ?_; refine Oas ?_; refine S6 ?_; refine Omv ?_; refine Ont ?_; refine Oas ?_; refine S2 ?_
 refine CW.cond rfl (fun h0 => ?_) (fun h0 => ?_)
 ·
  cases h0
 ·
  refine S2 ?_; refine Ofa ?_; refine Old ?_; refine Oln ?_; refine Ocm ?_; refine Oas ?_; refine S2 ?_
  refine CW.cond rfl (fun h1 => ?_) (fun h1 => ?_)
  ·
   exfalso
   simp only [decide_eq_true_eq] at h1
   omega
  ·
   refine S6 ?_; refine Ola ?_
   refine OL.popC rfl rfl rfl (POp.call (.mk' rfl rfl rfl rfl rfl) (p81 f false)) ?_
   refine S3 ?_
   refine CW.weaken (st' := ⟨[(2, .ptr (Wcells W)), (3, .ptr (Fcells f)), (8, .p r8 0), (4, .p r4 0), (5, .p r5 0), (6, .p r6 0), (7, .p r7 0), (32, .fn (.func 132) [] [.ptr (Fcells f), .ptr [.b false]])], [.blk r8 109 [Wptr W], .blk r7 35 [.i 0], .blk r6 31 [.val (.slice none 0 0)], .blk r5 30 [.val (.slice none 0 0)], .blk r4 25 [.val (.slice none 0 0), .val (.slice none 0 0)]] ++ H⟩) (by repeat (first | exact trivial | refine ⟨rfl, ?_⟩)) (by repeat (first | exact List.Sublist.refl _ | refine List.Sublist.cons _ ?_)) ?_
   refine CW.rangeFunc (AV.lits) (casesP f false) (fun pre H1 => H1 = [.blk r8 109 [Wptr W], .blk r7 35 [.i 0], .blk r6 31 [.val (.slice none 0 0)], .blk r5 30 [.val (.slice none 0 0)], .blk r4 25 [.val (.slice none 0 0), .val (.slice none 0 0)]] ∧ ∀ y ∈ pre, together2 W y = false) (fun code pre H1 => code = .ret ∧ ∃ y Wm os vs, firstC W f = some y ∧ modelC W y = (Wm, os, vs) ∧ H1 = [.blk r8 109 [Wptr W], .blk r7 35 [.i 0], .blk r6 31 [AV.vals vs], .blk r5 30 [AV.things os], .blk r4 25 [AV.intss Wm.parents, AV.ints Wm.owner]]) ([.blk r8 109 [Wptr W], .blk r7 35 [.i 0], .blk r6 31 [.val (.slice none 0 0)], .blk r5 30 [.val (.slice none 0 0)], .blk r4 25 [.val (.slice none 0 0), .val (.slice none 0 0)]]) (H) (fun x => (10, AV.lits x) :: (33, AV.lits x) :: [(2, .ptr (Wcells W)), (3, .ptr (Fcells f)), (8, .p r8 0), (4, .p r4 0), (5, .p r5 0), (6, .p r6 0), (7, .p r7 0), (32, .fn (.func 132) [] [.ptr (Fcells f), .ptr [.b false]])]) rfl rfl rfl rfl (seq132 f hG.ok hG.nodes false) (⟨rfl, by simp⟩) ?_ ?_ ?_ ?_
   ·intro l0 I1 w1 x Hy
    refine S1 ?_; refine Oas ?_; refine S1 ?_
    exact fun a w s => ⟨_, rfl, s⟩
   ·intro l0 D0 lp pre x H1 Hy I1 w1 hpre hJ
    obtain ⟨rfl, hJp⟩ := hJ
    obtain ⟨hxl, hxn⟩ := hG.case false x (hpre.subset (by simp))
    have h82 := p82 hw hxl hxn
    rw [case_two ⟨hxl, hxn⟩] at h82
    refine S4 ?_; refine Old ?_; refine Omv ?_
    refine OL.popC rfl rfl rfl (POp.call (.mk' rfl rfl rfl rfl rfl) (h82)) ?_
    refine Ont ?_; refine S2 ?_
    refine CW.cond rfl (fun h2 => ?_) (fun h2 => ?_)
    ·
     have hxf : together2 W x = false := by simpa using h2
     refine S3 ?_
     exact Done.roundN (by repeat (first | exact List.Sublist.refl _ | refine List.Sublist.cons _ ?_)) (⟨rfl, fun y hy => by rcases List.mem_append.1 hy with hy | hy; exact hJp y hy; simp at hy; subst hy; exact hxf⟩)
    ·
     have hxt : together2 W x = true := by simpa using h2
     have hfx := first_of hpre hJp hxt
     refine S4 ?_; refine Old ?_; refine Omv ?_
     refine OL.bcallC rfl rfl rfl (.mk' rfl rfl rfl rfl rfl) (p115 hxl hW hxn _ _) ?_
     rintro y H1 ⟨mb, rfl, hB, rfl⟩
     refine Obd ?_
     refine OL.boxC rfl rfl rfl rfl rfl rfl rfl (fun xb => ?_)
     refine Oas ?_; refine S3 ?_
     have hK := stage_ok hxl hB
     refine CW.rowNil 160 2 ?_
     refine CW.rowNil 135 1 ?_
     refine CW.perm (List.perm_middle (l₁ := [_, _])) ?_
     refine S1 ?_; refine Oas ?_; refine S4 ?_
     refine CW.ownNil 12 97 2 rfl ?_
     refine CW.perm (List.perm_middle (l₁ := [_, _, _, _])).symm ?_
     refine CW.names (fun e1 e2 he1 he2 => ?_)
     refine S1 ?_; refine Omv ?_; refine S3 ?_
     refine lj (fun m st => ∃ (k : Nat) (v bv ov : Value) (acc : List (Int × Int) × MSt), acc = argsV W (stageK x) k ∧ st = ⟨[(43, .i k), (12, .as (AV.vals acc.1) v), (11, .p xb 0), (4, .p r4 0), (5, .p r5 0), (6, .p r6 0), (7, .p r7 0)], mdlH W mb xb bv ov acc.2.1 acc.2.2 (sceneH mb (stageK x) :: .own 97 2 v :: e1 :: e2 :: .blk r8 109 [Wptr W] :: .blk r7 35 [.i 0] :: .blk r6 31 [.val (.slice none 0 0)] :: .blk r5 30 [.val (.slice none 0 0)] :: .blk r4 25 [.val (.slice none 0 0), .val (.slice none 0 0)] :: Hy)⟩ ∧ m = 3 - k ∧ k ≤ 3) (⟨0, .slice none 0 0, .slice none 0 0, .slice none 0 0, ([], ([], [])), rfl, rfl, rfl, by omega⟩) ?_
     rintro m _ ⟨k, v, bv1, ov1, acc, hacc, rfl, rfl, hk⟩
     have hA := args_ok hK hW k hk
     rw [← hacc] at hA
     obtain ⟨a1, a2, a3, a4⟩ := hA
     have hm2 : mostV 2 = 1641 := rfl
     refine S2 ?_; refine Ocm ?_; refine S3 ?_
     refine CW.cond rfl (fun h3 => ?_) (fun h3 => ?_)
     ·
      replace h3 := nm h3
      have hk3 : k < 3 := by omega
      refine S6 ?_; refine Omv ?_; refine Oas ?_; refine S3 ?_; refine Omv ?_; refine Omv ?_; refine Omv ?_; refine Obd ?_
      refine OL.bcallC rfl rfl rfl (.mk' rfl rfl rfl rfl rfl) (b116 hK hw 2 [] (spot_root hk3) rfl bv1 ov1 acc.2 (.own 97 2 v :: e1 :: e2 :: .blk r8 109 [Wptr W] :: .blk r7 35 [.i 0] :: .blk r6 31 [.val (.slice none 0 0)] :: .blk r5 30 [.val (.slice none 0 0)] :: .blk r4 25 [.val (.slice none 0 0), .val (.slice none 0 0)] :: Hy) _ (by omega) (by omega)) ?_
      rintro y H1 ⟨bv2, ov2, rfl, rfl⟩
      refine OL.popC rfl rfl rfl (POp.row rfl rfl (by first | rfl | simp_all [strip]) rfl rfl rfl rfl rfl rfl) ?_
      refine OL.appendC rfl rfl rfl rfl rfl rfl rfl rfl (AVle.refl _) (rfl) (fun v => by repeat (first | exact Upd.head _ _ _ | apply Upd.tail)) (by show (List.length (List.map _ _) + 1) * 16 ≤ _; rw [List.length_map]; omega) (by show List.length (List.map _ _) + 1 ≤ _; rw [List.length_map]; omega) (fun v52 => ?_)
      refine Oas ?_; refine S3 ?_
      refine CW.le 12 (y := .as (AV.vals (acc.1 ++ [(valueP W (stageK x) (k : Int) 2 acc.2 []).1])) v52) rfl (by rw [AV.vals, List.map_append]; exact AVle.refl _) ?_
      refine S1 ?_; refine Oar ?_; refine Omv ?_; refine S1 ?_
      exact ag (⟨k + 1, v52, bv2, ov2, argV W (stageK x) acc k, by rw [argsV_succ, ← hacc], rfl, rfl, by omega⟩)
     ·
      replace h3 := nm h3
      obtain rfl : k = 3 := by omega
      have hmodel : modelC W x = (moreW W acc.2.1, acc.2.2, acc.1) := by rw [hacc]; rfl
      refine S6 ?_
      refine CW.le 12 rfl (AVle.asL _ _) ?_
      refine CW.perm (.swap _ _ _) ?_
      refine CW.freezeRowCell (k := 1) (xs := [sceneP W mb]) (ys := [.val ov1]) (fun e he => by obtain ⟨n, _, rfl⟩ := List.mem_map.1 he; rfl) ?_
      refine CW.perm (.swap _ _ _) ?_
      refine CW.freezeRowCell (k := 2) (xs := [sceneP W mb, AV.sets acc.2.1]) (ys := []) (fun e he => by obtain ⟨n, _, rfl⟩ := List.mem_map.1 he; rfl) ?_
      refine CW.freezeP (d := 11) rfl (.head _ _) ?_
      refine CW.dp mixed ?_
      refine DP.anySC (fun sj => match sj with | 0 => sceneH mb (stageK x) :: .own 97 2 v :: e1 :: e2 :: .blk r8 109 [Wptr W] :: .blk r7 35 [.i 0] :: .blk r6 31 [.val (.slice none 0 0)] :: .blk r5 30 [.val (.slice none 0 0)] :: .blk r4 25 [.val (.slice none 0 0), .val (.slice none 0 0)] :: Hy | 1 => sceneH mb (stageK x) :: .own 97 2 v :: e1 :: e2 :: .blk r8 109 [Wptr W] :: .blk r7 35 [.i 0] :: .blk r6 31 [.val (.slice none 0 0)] :: .blk r5 30 [.val (.slice none 0 0)] :: .blk r4 25 [AV.intss (moreW W acc.2.1).parents, AV.ints (moreW W acc.2.1).owner] :: Hy | _ => sceneH mb (stageK x) :: .own 97 2 v :: e1 :: e2 :: .blk r8 109 [Wptr W] :: .blk r7 35 [.i 0] :: .blk r6 31 [.val (.slice none 0 0)] :: .blk r5 30 [AV.things acc.2.2] :: .blk r4 25 [AV.intss (moreW W acc.2.1).parents, AV.ints (moreW W acc.2.1).owner] :: Hy) [7, 8] 0 9 62 rfl (by decide +kernel) rfl rfl rfl (by decide +kernel) rfl ?_
      refine TD.popC 0 0 (by decide +kernel) (by decide +kernel) (by decide +kernel) rfl rfl rfl (fun j hj1 hj2 => by rcases (show j = 0 by omega) with rfl <;> exact (POp.move rfl rfl rfl)) ?_
      refine TD.popC 0 0 (by decide +kernel) (by decide +kernel) (by decide +kernel) rfl rfl rfl (fun j hj1 hj2 => by rcases (show j = 0 by omega) with rfl <;> exact (POp.call (.mk' rfl rfl rfl rfl rfl) (p117 hw mb acc.2.1 acc.2.2 a1 (by omega)))) ?_
      refine TD.popC 0 1 (by decide +kernel) (by decide +kernel) (by decide +kernel) rfl rfl rfl (fun j hj1 hj2 => by rcases (show j = 0 ∨ j = 1 by omega) with rfl | rfl <;> exact (POp.move rfl rfl rfl)) ?_
      refine TD.popC 0 1 (by decide +kernel) (by decide +kernel) (by decide +kernel) rfl rfl rfl (fun j hj1 hj2 => by rcases (show j = 0 ∨ j = 1 by omega) with rfl | rfl <;> exact ((by first | exact POp.nilCheck rfl rfl rfl | exact POp.nilCheckP rfl rfl rfl | exact POp.nilCheckF rfl rfl rfl))) ?_
      refine TD.popC 0 1 (by decide +kernel) (by decide +kernel) (by decide +kernel) rfl rfl rfl (fun j hj1 hj2 => by rcases (show j = 0 ∨ j = 1 by omega) with rfl | rfl <;> exact ((by first | exact POp.fa rfl rfl rfl rfl | exact POp.faP rfl rfl rfl rfl))) ?_
      refine TD.popC 0 1 (by decide +kernel) (by decide +kernel) (by decide +kernel) rfl rfl rfl (fun j hj1 hj2 => by rcases (show j = 0 ∨ j = 1 by omega) with rfl | rfl <;> exact ((by first | exact POp.ld1 rfl rfl rfl rfl | (apply POp.ld1H rfl rfl rfl; (case hm => repeat (first | exact .head _ | refine .tail _ ?_)); (case hy => rfl))))) ?_
      refine TD.popC 0 2 (by decide +kernel) (by decide +kernel) (by decide +kernel) rfl rfl rfl (fun j hj1 hj2 => by rcases (show j = 0 ∨ j = 1 ∨ j = 2 by omega) with rfl | rfl | rfl <;> exact (POp.move rfl rfl rfl)) ?_
      refine TD.stoC 0 (by decide +kernel) (by decide +kernel) (by decide +kernel) rfl rfl (.store rfl rfl rfl rfl rfl rfl rfl rfl (by repeat (first | exact Upd.head _ _ _ | apply Upd.tail)) (by exact rfl) (by exact rfl)) ?_
      refine TD.stoC 1 (by decide +kernel) (by decide +kernel) (by decide +kernel) rfl rfl (.store rfl rfl rfl rfl rfl rfl rfl rfl (by repeat (first | exact Upd.head _ _ _ | apply Upd.tail)) (by exact rfl) (by exact rfl)) ?_
      refine TD.nil ?_
      refine DP.tailC 9 (by decide +kernel) rfl ?_
      refine Sto ?_
      subst he1; subst he2
      refine Sto ?_; refine S4 ?_
      exact Done.roundR (by repeat (first | exact List.Sublist.refl _ | refine List.Sublist.cons _ ?_)) (⟨rfl, x, _, _, _, hfx, hmodel, rfl⟩)
   ·intro D0 H1 hJ
    obtain ⟨rfl, hJp⟩ := hJ
    exfalso
    have := List.find?_some hf
    rw [hJp c (List.mem_of_find?_eq_some hf)] at this
    cases this
   ·intro D0 code0 pre H1 hpre hJx
    obtain ⟨rfl, y, Wm, os, vs, hy, hmod, rfl⟩ := hJx
    obtain rfl : c = y := by rw [hf] at hy; exact Option.some.inj hy
    ·
     refine S3 ?_
     refine Done.retM1 (rs := [.cell 4 25, .cell 5 30, .cell 6 31, .cell 7 35]) (H' := H) rfl (by repeat (first | exact Del.head _ _ | apply Del.tail)) ((by first | exact .cellA inferInstance rfl (by repeat (first | exact .head _ | refine .tail _ ?_)) rfl rfl ((by first | exact .cell1 inferInstance rfl (by repeat (first | exact .head _ | refine .tail _ ?_)) rfl ((by first | exact .cell1 inferInstance rfl (by repeat (first | exact .head _ | refine .tail _ ?_)) rfl ((by first | exact .cell1 inferInstance rfl (by repeat (first | exact .head _ | refine .tail _ ?_)) rfl (.nil) | exact .ptr1 inferInstance rfl rfl (.nil))) | exact .ptr1 inferInstance rfl rfl ((by first | exact .cell1 inferInstance rfl (by repeat (first | exact .head _ | refine .tail _ ?_)) rfl (.nil) | exact .ptr1 inferInstance rfl rfl (.nil))))) | exact .ptr1 inferInstance rfl rfl ((by first | exact .cell1 inferInstance rfl (by repeat (first | exact .head _ | refine .tail _ ?_)) rfl ((by first | exact .cell1 inferInstance rfl (by repeat (first | exact .head _ | refine .tail _ ?_)) rfl (.nil) | exact .ptr1 inferInstance rfl rfl (.nil))) | exact .ptr1 inferInstance rfl rfl ((by first | exact .cell1 inferInstance rfl (by repeat (first | exact .head _ | refine .tail _ ?_)) rfl (.nil) | exact .ptr1 inferInstance rfl rfl (.nil))))))) | exact .ptrA inferInstance rfl rfl ((by first | exact .cell1 inferInstance rfl (by repeat (first | exact .head _ | refine .tail _ ?_)) rfl ((by first | exact .cell1 inferInstance rfl (by repeat (first | exact .head _ | refine .tail _ ?_)) rfl ((by first | exact .cell1 inferInstance rfl (by repeat (first | exact .head _ | refine .tail _ ?_)) rfl (.nil) | exact .ptr1 inferInstance rfl rfl (.nil))) | exact .ptr1 inferInstance rfl rfl ((by first | exact .cell1 inferInstance rfl (by repeat (first | exact .head _ | refine .tail _ ?_)) rfl (.nil) | exact .ptr1 inferInstance rfl rfl (.nil))))) | exact .ptr1 inferInstance rfl rfl ((by first | exact .cell1 inferInstance rfl (by repeat (first | exact .head _ | refine .tail _ ?_)) rfl ((by first | exact .cell1 inferInstance rfl (by repeat (first | exact .head _ | refine .tail _ ?_)) rfl (.nil) | exact .ptr1 inferInstance rfl rfl (.nil))) | exact .ptr1 inferInstance rfl rfl ((by first | exact .cell1 inferInstance rfl (by repeat (first | exact .head _ | refine .tail _ ?_)) rfl (.nil) | exact .ptr1 inferInstance rfl rfl (.nil))))))))) (AVleL.refl _) (by repeat (first | exact List.Sublist.refl _ | refine List.Sublist.cons _ ?_)) ?_
     exact ⟨by rw [hmod]; rfl, rfl⟩
def sameW (U V : FW) : Bool := U.parents == V.parents && U.owner == V.owner
def biggerP (U V : FW) : Bool := decide (V.parents.length ≤ U.parents.length) && decide (V.owner.length ≤ U.owner.length) && sameW ⟨U.parents.take V.parents.length, U.owner.take V.owner.length⟩ V
theorem same_no {U V : FW} {i : Nat} (h : U.parents.getD i default ≠ V.parents.getD i default) : sameW U V = false := by
 have : U.parents ≠ V.parents := fun e => h (by rw [e])
 rw [sameW, beq_eq_false_iff_ne.2 this]; rfl
theorem same_len {U V : FW} (h : U.parents.length ≠ V.parents.length) : sameW U V = false := by
 have : U.parents ≠ V.parents := fun e => h (by rw [e])
 rw [sameW, beq_eq_false_iff_ne.2 this]; rfl
theorem same_yes {U V : FW} (hl : U.parents.length = V.parents.length) (h : ∀ i, i < U.parents.length → U.parents.getD i default = V.parents.getD i default) : sameW U V = (U.owner == V.owner) := by
 have : U.parents = V.parents := List.ext_getElem hl fun i h1 h2 => by
  have := h i h1
  rwa [getD_lt h1, getD_lt h2] at this
 rw [sameW, this]; simp
theorem p118 (U V : FW) : PCall Tryz.prog 118 [AV.world U, AV.world V] (.b (sameW U V)) := by
 intro H
 refine ACall.mk' (n := 37) Tryz.func118 rfl (by kernel_rfl) rfl rfl (fun B I w0 => ?_)
 refine CW.boundA (t := 0) (i := 0) rfl rfl (fun hb0 => ?_)
 refine S2 ?_; refine Obx ?_; refine Obx ?_; refine Oas ?_; refine S5 ?_; refine Ofa ?_; refine Old ?_; refine Oln ?_; refine Ofa ?_; refine Old ?_; refine Oln ?_; refine Ocm ?_
 refine S2 ?_
 refine CW.cond rfl (fun h0 => ?_) (fun h0 => ?_)
 ·
  have hr := same_len (U := U) (V := V) (fun e => by rw [e] at h0; simp at h0)
  refine S2 ?_; refine Oas ?_; refine S4 ?_
  refine r1 4 (H) ?_
  exact ⟨retB (by rw [hr]), rfl⟩
 ·
  replace h0 := nm h0
  have hl : U.parents.length = V.parents.length := by simpa [Int.ofNat_inj] using h0
  refine S5 ?_; refine Ofa ?_; refine Old ?_; refine Oln ?_; refine Omv ?_; refine S3 ?_
  refine lj (fun m st => ∃ i : Nat, st = ⟨[(16, .i i), (15, .i U.parents.length), (2, .ptr (Wcells U)), (3, .ptr (Wcells V)), (4, .b false)], H⟩ ∧ m = U.parents.length - i ∧ i ≤ U.parents.length ∧ ∀ q, q < i → U.parents.getD q default = V.parents.getD q default) (⟨0, rfl, rfl, by omega, fun q hq => by omega⟩) ?_
  rintro m _ ⟨i, rfl, rfl, hi, hall⟩
  refine S2 ?_; refine Ocm ?_; refine S3 ?_
  refine CW.cond rfl (fun h1 => ?_) (fun h1 => ?_)
  ·
   replace h1 := nm h1
   have hil : i < U.parents.length := by omega
   refine S6 ?_; refine Omv ?_; refine Oas ?_; refine S3 ?_
   refine CW.dp mixed ?_
   refine DP.anyC 0 10 37 rfl (by decide +kernel) rfl rfl (by decide +kernel) ?_
   refine Afa ?_; refine Ald ?_; refine Amv ?_; refine Aix ?_; refine Ald ?_; refine Afa ?_; refine Ald ?_; refine Amv ?_; refine Aix ?_; refine Ald ?_
   refine AD.nil ?_
   refine DP.tailC 10 (by decide +kernel) rfl ?_
   refine OL.popC rfl rfl rfl (POp.call (.mk' rfl rfl rfl rfl rfl) (p97 (U.parents.getD i default) (V.parents.getD i default))) ?_
   refine Ont ?_; refine S2 ?_
   refine CW.cond rfl (fun h2 => ?_) (fun h2 => ?_)
   ·
    have hr := same_no (U := U) (V := V) (i := i) (by simpa using h2)
    refine S2 ?_; refine Oas ?_; refine S8 ?_
    refine r1 4 (H) ?_
    exact ⟨retB (by rw [hr]), rfl⟩
   ·
    have he : U.parents.getD i default = V.parents.getD i default := by simpa using h2
    refine S4 ?_; refine Oar ?_; refine Omv ?_; refine S1 ?_
    exact ag (⟨i + 1, rfl, rfl, by omega, fun q hq => by by_cases e : q = i; rw [e]; exact he; exact hall q (by omega)⟩)
  ·
   replace h1 := nm h1
   obtain rfl : i = U.parents.length := by omega
   have hr := same_yes hl hall
   refine S7 ?_; refine Ofa ?_; refine Old ?_; refine Ofa ?_; refine Old ?_
   refine OL.popC rfl rfl rfl (POp.call (.mk' rfl rfl rfl rfl rfl) (p97 U.owner V.owner)) ?_
   refine Oas ?_; refine S3 ?_
   refine r1 4 (H) ?_
   exact ⟨retB (by rw [hr]), rfl⟩
theorem p63 (U V : FW) : PCall Tryz.prog 63 [AV.world U, AV.world V] (.b (biggerP U V)) := by
 intro H
 refine ACall.mk' (n := 38) Tryz.func63 rfl (by kernel_rfl) rfl rfl (fun B I w0 => ?_)
 refine S2 ?_; refine Obx ?_; refine Obx ?_; refine Oas ?_; refine S5 ?_; refine Ofa ?_; refine Old ?_; refine Oln ?_; refine Ofa ?_; refine Old ?_; refine Oln ?_; refine Ocm ?_
 refine Omv ?_; refine Pfa ?_; refine Pld ?_; refine Pln ?_; refine Pfa ?_; refine Pld ?_; refine Pln ?_; refine Pcm ?_; refine Opk ?_; refine S2 ?_
 refine CW.cond rfl (fun h0 => ?_) (fun h0 => ?_)
 ·
  have hr : biggerP U V = false := by
   simp only [biggerP, Bool.and_eq_false_iff, decide_eq_false_iff_not]
   left
   simp at h0
   omega
  refine S2 ?_; refine Oas ?_; refine S4 ?_
  refine r1 4 (H) ?_
  exact ⟨retB (by rw [hr]), rfl⟩
 ·
  have h01 : V.parents.length ≤ U.parents.length ∧ V.owner.length ≤ U.owner.length := by
   simp at h0
   omega
  obtain ⟨h02, h03⟩ := h01
  have hr : biggerP U V = sameW ⟨U.parents.take V.parents.length, U.owner.take V.owner.length⟩ V := by rw [biggerP, decide_eq_true h02, decide_eq_true h03]; rfl
  refine S3 ?_
  refine CW.dp mixed ?_
  refine DP.anyV [⟨13, 5, 25, [.slice none 0 0, .slice none 0 0], 14, (Wcells ⟨U.parents.take V.parents.length, U.owner.take V.owner.length⟩)⟩] 0 15 38 rfl (by decide +kernel) (by kernel_rfl) rfl rfl (by decide +kernel) ?_
  refine UD.popV rfl rfl rfl rfl ((by first | exact POp.fa rfl rfl rfl rfl | exact POp.faP rfl rfl rfl rfl)) ?_
  refine UD.popV rfl rfl rfl rfl ((by first | exact POp.ld1 rfl rfl rfl rfl | (apply POp.ld1H rfl rfl rfl; (case hm => repeat (first | exact .head _ | refine .tail _ ?_)); (case hy => rfl)))) ?_
  refine UD.popV rfl rfl rfl rfl ((by first | exact POp.fa rfl rfl rfl rfl | exact POp.faP rfl rfl rfl rfl)) ?_
  refine UD.popV rfl rfl rfl rfl ((by first | exact POp.ld1 rfl rfl rfl rfl | (apply POp.ld1H rfl rfl rfl; (case hm => repeat (first | exact .head _ | refine .tail _ ?_)); (case hy => rfl)))) ?_
  refine UD.popV rfl rfl rfl rfl ((by first | exact POp.lenM rfl rfl rfl | exact POp.lenA rfl rfl rfl | exact POp.lenV rfl rfl rfl | exact POp.len' rfl rfl rfl)) ?_
  refine UD.popV rfl rfl rfl rfl (POp.slTo rfl rfl (by first | rfl | exact hg | simp_all) rfl (by first | rfl | exact hg | simp_all) (by omega)) ?_
  refine UD.popV rfl rfl rfl rfl ((by first | exact POp.fa rfl rfl rfl rfl | exact POp.faP rfl rfl rfl rfl)) ?_
  refine UD.popV rfl rfl rfl rfl ((by first | exact POp.ld1 rfl rfl rfl rfl | (apply POp.ld1H rfl rfl rfl; (case hm => repeat (first | exact .head _ | refine .tail _ ?_)); (case hy => rfl)))) ?_
  refine UD.popV rfl rfl rfl rfl ((by first | exact POp.fa rfl rfl rfl rfl | exact POp.faP rfl rfl rfl rfl)) ?_
  refine UD.popV rfl rfl rfl rfl ((by first | exact POp.ld1 rfl rfl rfl rfl | (apply POp.ld1H rfl rfl rfl; (case hm => repeat (first | exact .head _ | refine .tail _ ?_)); (case hy => rfl)))) ?_
  refine UD.popV rfl rfl rfl rfl ((by first | exact POp.lenM rfl rfl rfl | exact POp.lenA rfl rfl rfl | exact POp.lenV rfl rfl rfl | exact POp.len' rfl rfl rfl)) ?_
  refine UD.popV rfl rfl rfl rfl (POp.slTo rfl rfl (by first | rfl | exact hg | simp_all) rfl (by first | rfl | exact hg | simp_all) (by omega)) ?_
  refine UD.popV rfl rfl rfl rfl (POp.build' rfl rfl (by first | rfl | simp_all [strip]) rfl) ?_
  refine UD.effV [] [] ⟨13, 5, 25, [.slice none 0 0, .slice none 0 0], 14, (Wcells ⟨U.parents.take V.parents.length, U.owner.take V.owner.length⟩)⟩ rfl ⟨0, 15, by kernel_rfl⟩ rfl rfl rfl rfl rfl rfl rfl ?_
  refine UD.stoV [] [] ⟨13, 5, 25, [.slice none 0 0, .slice none 0 0], 14, (Wcells ⟨U.parents.take V.parents.length, U.owner.take V.owner.length⟩)⟩ rfl ⟨0, 15, by kernel_rfl⟩ rfl rfl rfl (fun b H1 H2 hu => .store rfl rfl rfl rfl rfl rfl rfl rfl hu (by exact rfl) (by exact rfl)) ?_
  refine UD.nil (fun bs => ?_)
  simp only [List.map_cons, List.map_nil, List.cons_append, List.nil_append]
  refine DP.done rfl ?_
  refine S3 ?_; refine Ola ?_; refine Ola ?_
  refine OL.popC rfl rfl rfl (POp.call (.mk' rfl rfl rfl rfl rfl) (p118 ⟨U.parents.take V.parents.length, U.owner.take V.owner.length⟩ V)) ?_
  refine Oas ?_; refine S3 ?_
  refine r1 4 (H) ?_
  exact ⟨retB (by rw [hr]), rfl⟩
structure MdlOk (W : FW) (f : Fact) (x : FW × Obs × List (Int × Int)) : Prop where
 w : worldP x.1 = true
 big : biggerP x.1 W = true
 things : thingsP x.1 x.2.1 = true
 three : x.2.2.length = 3
 args : argsP x.2.2 x.2.1.length = true
 wf : wfB x.1 f = true
 spk : spkN f ≤ 3
 holds : ev (VO x.1 x.2.1 x.2.2) f = true
theorem MdlOk.h {W : FW} {f : Fact} {x : FW × Obs × List (Int × Int)} (h : MdlOk W f x) : HOk x.1 x.2.1 x.2.2 := handed_ok h.w (by rw [handedP, h.things, h.args]; rfl)
theorem first_can {W : FW} {f : Fact} : canC W f = (firstC W f).isSome := by
 rw [canC, firstC, Bool.eq_iff_iff, List.any_eq_true, List.find?_isSome]
theorem p13n (g : Gv) (h : goodP g.W [g.A] = false) : PCall Tryz.prog 13 [AV.given g] (.b true) := by
 intro H
 refine ACall.mk' (n := 115) Tryz.func13 rfl (by kernel_rfl) rfl rfl (fun B I w0 => ?_)
 have z1 : ([] : List (List Int)).length = 0 := rfl
 have z2 : ([] : List Int).length = 0 := rfl
 have z3 : ([] : Obs).length = 0 := rfl
 have z4 : ([] : List (Int × Int)).length = 0 := rfl
 refine S2 ?_; refine Obx ?_; refine Oas ?_; refine S4 ?_; refine Ofa ?_; refine Ola ?_; refine Ofa ?_; refine Ola ?_
 refine OL.popC rfl rfl rfl (POp.call (.mk' rfl rfl rfl rfl rfl) ((show PCall Tryz.prog 61 [AV.world g.W, AV.fact g.A] (.tup [AV.world ⟨[], []⟩, AV.things [], AV.vals [], .i 2]) from p61n h))) ?_
 refine Omv ?_; refine Oex ?_; refine Oex ?_; refine Oex ?_; refine Oex ?_
 refine OL.alC rfl rfl rfl rfl (fun mb => ?_)
 refine Sto ?_; refine Oas ?_; refine Oas ?_; refine Oas ?_; refine S5 ?_; refine Omv ?_; refine Ocm ?_; refine Omv ?_; refine Pfa ?_; refine Pld ?_; refine Pln ?_; refine Pfa ?_
 refine Pld ?_; refine Pln ?_
 refine OL.guardC rfl rfl rfl rfl rfl rfl (fun hg => POp.arith rfl rfl rfl (gd hg) (gd hg) rfl (wrap64 (by simp))) ?_
 refine Pmv ?_; refine Pln ?_
 refine OL.guardC rfl rfl rfl rfl rfl rfl (fun hg => POp.arith rfl rfl rfl (gd hg) (gd hg) rfl (wrap64 (by simp))) ?_
 refine Pmv ?_; refine Pln ?_
 refine OL.guardC rfl rfl rfl rfl rfl rfl (fun hg => POp.arith rfl rfl rfl (gd hg) (gd hg) rfl (wrap64 (by simp))) ?_
 refine Pcm ?_; refine Opk ?_; refine S2 ?_
 refine CW.cond rfl (fun h0 => ?_) (fun h0 => ?_)
 ·
  exfalso
  simp at h0
 ·
  refine S6 ?_; refine Ofa ?_; refine Ola ?_
  refine OL.popC rfl rfl rfl (POp.call (.mk' rfl rfl rfl rfl rfl) (p19 g.W)) ?_
  refine Ont ?_; refine Omv ?_; refine Pfa ?_; refine Pla ?_; refine Pfa ?_; refine Pla ?_
  refine OL.guardC rfl rfl rfl rfl rfl rfl (fun hg => POp.call (.mk' rfl rfl rfl rfl (by first | rfl | ((repeat (first | exact hg | rfl | refine Bool.and_eq_true_iff.2 ⟨?_, ?_⟩)); done) | simp_all [strip, constAV])) (p20' (world_len (W := g.W) (by simpa using hg)) g.A)) ?_
  refine Pnt ?_; refine Opk ?_; refine Oas ?_; refine S2 ?_
  refine CW.cond rfl (fun h1 => ?_) (fun h1 => ?_)
  ·
   refine S2 ?_; refine Omv ?_; refine Ocm ?_; refine Omv ?_
   refine OL.guardC rfl rfl rfl rfl rfl rfl (fun hg => POp.call (.mk' rfl rfl rfl rfl rfl) (p21)) ?_
   refine Opk ?_; refine Oas ?_; refine S5 ?_
   refine r1 2 (H) ?_
   exact ⟨by rfl, rfl⟩
  ·
   exfalso
   rw [good1] at h
   cases hw : worldP g.W <;> cases hf : formedP g.W g.A <;> simp [hw, hf] at h1 h
theorem p13l (g : Gv) (h : goodP g.W [g.A] = true) (hl : 20 < g.W.parents.length) : PCall Tryz.prog 13 [AV.given g] (.b true) := by
 intro H
 refine ACall.mk' (n := 115) Tryz.func13 rfl (by kernel_rfl) rfl rfl (fun B I w0 => ?_)
 have z1 : ([] : List (List Int)).length = 0 := rfl
 have z2 : ([] : List Int).length = 0 := rfl
 have z3 : ([] : Obs).length = 0 := rfl
 have z4 : ([] : List (Int × Int)).length = 0 := rfl
 refine S2 ?_; refine Obx ?_; refine Oas ?_; refine S4 ?_; refine Ofa ?_; refine Ola ?_; refine Ofa ?_; refine Ola ?_
 refine OL.popC rfl rfl rfl (POp.call (.mk' rfl rfl rfl rfl rfl) ((show PCall Tryz.prog 61 [AV.world g.W, AV.fact g.A] (.tup [AV.world ⟨[], []⟩, AV.things [], AV.vals [], .i 3]) from p61l h hl))) ?_
 refine Omv ?_; refine Oex ?_; refine Oex ?_; refine Oex ?_; refine Oex ?_
 refine OL.alC rfl rfl rfl rfl (fun mb => ?_)
 refine Sto ?_; refine Oas ?_; refine Oas ?_; refine Oas ?_; refine S5 ?_; refine Omv ?_; refine Ocm ?_; refine Omv ?_; refine Pfa ?_; refine Pld ?_; refine Pln ?_; refine Pfa ?_
 refine Pld ?_; refine Pln ?_
 refine OL.guardC rfl rfl rfl rfl rfl rfl (fun hg => POp.arith rfl rfl rfl (gd hg) (gd hg) rfl (wrap64 (by simp))) ?_
 refine Pmv ?_; refine Pln ?_
 refine OL.guardC rfl rfl rfl rfl rfl rfl (fun hg => POp.arith rfl rfl rfl (gd hg) (gd hg) rfl (wrap64 (by simp))) ?_
 refine Pmv ?_; refine Pln ?_
 refine OL.guardC rfl rfl rfl rfl rfl rfl (fun hg => POp.arith rfl rfl rfl (gd hg) (gd hg) rfl (wrap64 (by simp))) ?_
 refine Pcm ?_; refine Opk ?_; refine S2 ?_
 refine CW.cond rfl (fun h0 => ?_) (fun h0 => ?_)
 ·
  exfalso
  simp at h0
 ·
  refine S6 ?_; refine Ofa ?_; refine Ola ?_
  refine OL.popC rfl rfl rfl (POp.call (.mk' rfl rfl rfl rfl rfl) (p19 g.W)) ?_
  refine Ont ?_; refine Omv ?_; refine Pfa ?_; refine Pla ?_; refine Pfa ?_; refine Pla ?_
  refine OL.guardC rfl rfl rfl rfl rfl rfl (fun hg => POp.call (.mk' rfl rfl rfl rfl (by first | rfl | ((repeat (first | exact hg | rfl | refine Bool.and_eq_true_iff.2 ⟨?_, ?_⟩)); done) | simp_all [strip, constAV])) (p20' (world_len (W := g.W) (by simpa using hg)) g.A)) ?_
  refine Pnt ?_; refine Opk ?_; refine Oas ?_; refine S2 ?_
  refine CW.cond rfl (fun h1 => ?_) (fun h1 => ?_)
  ·
   exfalso
   rw [good1, Bool.and_eq_true] at h
   rw [h.1, h.2] at h1
   simp at h1
  ·
   refine S2 ?_; refine Ofa ?_; refine Ofa ?_; refine Old ?_; refine Oln ?_; refine Ocm ?_; refine Oas ?_; refine S2 ?_
   refine CW.cond rfl (fun h2 => ?_) (fun h2 => ?_)
   ·
    refine S2 ?_; refine Omv ?_; refine Ocm ?_; refine Omv ?_
    refine OL.guardC rfl rfl rfl rfl rfl rfl (fun hg => POp.call (.mk' rfl rfl rfl rfl rfl) (p21)) ?_
    refine Opk ?_; refine Oas ?_; refine S5 ?_
    refine r1 2 (H) ?_
    exact ⟨by rfl, rfl⟩
   ·
    exfalso
    simp only [decide_eq_false_iff_not] at h2
    omega
theorem p13x (g : Gv) (h : goodP g.W [g.A] = true) (hl : g.W.parents.length ≤ 20) (hf : firstC g.W g.A = none) : PCall Tryz.prog 13 [AV.given g] (.b true) := by
 intro H
 refine ACall.mk' (n := 115) Tryz.func13 rfl (by kernel_rfl) rfl rfl (fun B I w0 => ?_)
 have z1 : ([] : List (List Int)).length = 0 := rfl
 have z2 : ([] : List Int).length = 0 := rfl
 have z3 : ([] : Obs).length = 0 := rfl
 have z4 : ([] : List (Int × Int)).length = 0 := rfl
 refine S2 ?_; refine Obx ?_; refine Oas ?_; refine S4 ?_; refine Ofa ?_; refine Ola ?_; refine Ofa ?_; refine Ola ?_
 refine OL.popC rfl rfl rfl (POp.call (.mk' rfl rfl rfl rfl rfl) ((show PCall Tryz.prog 61 [AV.world g.W, AV.fact g.A] (.tup [AV.world ⟨[], []⟩, AV.things [], AV.vals [], .i 5]) from p61x h hl hf))) ?_
 refine Omv ?_; refine Oex ?_; refine Oex ?_; refine Oex ?_; refine Oex ?_
 refine OL.alC rfl rfl rfl rfl (fun mb => ?_)
 refine Sto ?_; refine Oas ?_; refine Oas ?_; refine Oas ?_; refine S5 ?_; refine Omv ?_; refine Ocm ?_; refine Omv ?_; refine Pfa ?_; refine Pld ?_; refine Pln ?_; refine Pfa ?_
 refine Pld ?_; refine Pln ?_
 refine OL.guardC rfl rfl rfl rfl rfl rfl (fun hg => POp.arith rfl rfl rfl (gd hg) (gd hg) rfl (wrap64 (by simp))) ?_
 refine Pmv ?_; refine Pln ?_
 refine OL.guardC rfl rfl rfl rfl rfl rfl (fun hg => POp.arith rfl rfl rfl (gd hg) (gd hg) rfl (wrap64 (by simp))) ?_
 refine Pmv ?_; refine Pln ?_
 refine OL.guardC rfl rfl rfl rfl rfl rfl (fun hg => POp.arith rfl rfl rfl (gd hg) (gd hg) rfl (wrap64 (by simp))) ?_
 refine Pcm ?_; refine Opk ?_; refine S2 ?_
 refine CW.cond rfl (fun h0 => ?_) (fun h0 => ?_)
 ·
  exfalso
  simp at h0
 ·
  refine S6 ?_; refine Ofa ?_; refine Ola ?_
  refine OL.popC rfl rfl rfl (POp.call (.mk' rfl rfl rfl rfl rfl) (p19 g.W)) ?_
  refine Ont ?_; refine Omv ?_; refine Pfa ?_; refine Pla ?_; refine Pfa ?_; refine Pla ?_
  refine OL.guardC rfl rfl rfl rfl rfl rfl (fun hg => POp.call (.mk' rfl rfl rfl rfl (by first | rfl | ((repeat (first | exact hg | rfl | refine Bool.and_eq_true_iff.2 ⟨?_, ?_⟩)); done) | simp_all [strip, constAV])) (p20' (world_len (W := g.W) (by simpa using hg)) g.A)) ?_
  refine Pnt ?_; refine Opk ?_; refine Oas ?_; refine S2 ?_
  refine CW.cond rfl (fun h1 => ?_) (fun h1 => ?_)
  ·
   exfalso
   rw [good1, Bool.and_eq_true] at h
   rw [h.1, h.2] at h1
   simp at h1
  ·
   refine S2 ?_; refine Ofa ?_; refine Ofa ?_; refine Old ?_; refine Oln ?_; refine Ocm ?_; refine Oas ?_; refine S2 ?_
   refine CW.cond rfl (fun h2 => ?_) (fun h2 => ?_)
   ·
    exfalso
    simp only [decide_eq_true_eq] at h2
    omega
   ·
    refine S2 ?_; refine Ofa ?_; refine Ola ?_; refine Ofa ?_; refine Ola ?_
    refine OL.popC rfl rfl rfl (POp.call (.mk' rfl rfl rfl rfl rfl) (p62 (good_w h) (good_f1 h).2.2.1 (Nat.le_trans (good_f1 h).2.2.2 (by omega)))) ?_
    refine Ont ?_; refine Oas ?_; refine S2 ?_
    refine CW.cond rfl (fun h3 => ?_) (fun h3 => ?_)
    ·
     refine S2 ?_; refine Omv ?_; refine Ocm ?_; refine Omv ?_
     refine OL.guardC rfl rfl rfl rfl rfl rfl (fun hg => POp.call (.mk' rfl rfl rfl rfl rfl) (p21)) ?_
     refine Opk ?_; refine Oas ?_; refine S5 ?_
     refine r1 2 (H) ?_
     exact ⟨by rfl, rfl⟩
    ·
     exfalso
     rw [first_can, hf] at h3
     simp at h3
theorem p13g (g : Gv) (h : goodP g.W [g.A] = true) (hl : g.W.parents.length ≤ 20) {c : List FLit} (hf : firstC g.W g.A = some c) (M : MdlOk g.W g.A (modelC g.W c)) : PCall Tryz.prog 13 [AV.given g] (.b true) := by
 intro H
 refine ACall.mk' (n := 115) Tryz.func13 rfl (by kernel_rfl) rfl rfl (fun B I w0 => ?_)
 have hP := world_len M.w
 have hW := world_own M.w
 refine S2 ?_; refine Obx ?_; refine Oas ?_; refine S4 ?_; refine Ofa ?_; refine Ola ?_; refine Ofa ?_; refine Ola ?_
 refine OL.popC rfl rfl rfl (POp.call (.mk' rfl rfl rfl rfl rfl) (p61g h hl hf)) ?_
 refine Omv ?_; refine Oex ?_; refine Oex ?_; refine Oex ?_; refine Oex ?_
 refine OL.alC rfl rfl rfl rfl (fun mb => ?_)
 refine Sto ?_; refine Oas ?_; refine Oas ?_; refine Oas ?_; refine S5 ?_; refine Omv ?_; refine Ocm ?_; refine Omv ?_; refine Pfa ?_; refine Pld ?_; refine Pln ?_; refine Pfa ?_
 refine Pld ?_; refine Pln ?_
 refine OL.guardC rfl rfl rfl rfl rfl rfl (fun hg => POp.arith rfl rfl rfl (gd hg) (gd hg) rfl (wrap64 (by simp at hg))) ?_
 refine Pmv ?_; refine Pln ?_
 refine OL.guardC rfl rfl rfl rfl rfl rfl (fun hg => POp.arith rfl rfl rfl (gd hg) (gd hg) rfl (wrap64 (by simp at hg))) ?_
 refine Pmv ?_; refine Pln ?_
 refine OL.guardC rfl rfl rfl rfl rfl rfl (fun hg => POp.arith rfl rfl rfl (gd hg) (gd hg) rfl (wrap64 (by simp at hg))) ?_
 refine Pcm ?_; refine Opk ?_; refine S2 ?_
 refine CW.cond rfl (fun h0 => ?_) (fun h0 => ?_)
 ·
  exfalso
  simp at h0
 ·
  refine S6 ?_; refine Ofa ?_; refine Ola ?_
  refine OL.popC rfl rfl rfl (POp.call (.mk' rfl rfl rfl rfl rfl) (p19 g.W)) ?_
  refine Ont ?_; refine Omv ?_; refine Pfa ?_; refine Pla ?_; refine Pfa ?_; refine Pla ?_
  refine OL.guardC rfl rfl rfl rfl rfl rfl (fun hg => POp.call (.mk' rfl rfl rfl rfl (by first | rfl | ((repeat (first | exact hg | rfl | refine Bool.and_eq_true_iff.2 ⟨?_, ?_⟩)); done) | simp_all [strip, constAV])) (p20' (world_len (W := g.W) (by simpa using hg)) g.A)) ?_
  refine Pnt ?_; refine Opk ?_; refine Oas ?_; refine S2 ?_
  refine CW.cond rfl (fun h1 => ?_) (fun h1 => ?_)
  ·
   exfalso
   rw [good1, Bool.and_eq_true] at h
   rw [h.1, h.2] at h1
   simp at h1
  ·
   refine S2 ?_; refine Ofa ?_; refine Ofa ?_; refine Old ?_; refine Oln ?_; refine Ocm ?_; refine Oas ?_; refine S2 ?_
   refine CW.cond rfl (fun h2 => ?_) (fun h2 => ?_)
   ·
    exfalso
    simp only [decide_eq_true_eq] at h2
    omega
   ·
    refine S2 ?_; refine Ofa ?_; refine Ola ?_; refine Ofa ?_; refine Ola ?_
    refine OL.popC rfl rfl rfl (POp.call (.mk' rfl rfl rfl rfl rfl) (p62 (good_w h) (good_f1 h).2.2.1 (Nat.le_trans (good_f1 h).2.2.2 (by omega)))) ?_
    refine Ont ?_; refine Oas ?_; refine S2 ?_
    refine CW.cond rfl (fun h3 => ?_) (fun h3 => ?_)
    ·
     exfalso
     rw [first_can, hf] at h3
     simp at h3
    ·
     refine S5 ?_; refine Omv ?_; refine Ocm ?_; refine Omv ?_; refine Pla ?_
     refine OL.guardC rfl rfl rfl rfl rfl rfl (fun hg => POp.call (.mk' rfl rfl rfl rfl (by first | rfl | ((repeat (first | exact hg | rfl | refine Bool.and_eq_true_iff.2 ⟨?_, ?_⟩)); done) | simp_all [strip, constAV])) (p19 _)) ?_
     refine Opk ?_; refine Omv ?_; refine Pla ?_; refine Pfa ?_; refine Pla ?_
     refine OL.guardC rfl rfl rfl rfl rfl rfl (fun hg => POp.call (.mk' rfl rfl rfl rfl (by first | rfl | ((repeat (first | exact hg | rfl | refine Bool.and_eq_true_iff.2 ⟨?_, ?_⟩)); done) | simp_all [strip, constAV])) (p63 _ _)) ?_
     refine Opk ?_; refine Omv ?_; refine Pla ?_; refine Pmv ?_
     refine OL.guardC rfl rfl rfl rfl rfl rfl (fun hg => POp.call (.mk' rfl rfl rfl rfl (by first | rfl | ((repeat (first | exact hg | rfl | refine Bool.and_eq_true_iff.2 ⟨?_, ?_⟩)); done) | simp_all [strip, constAV])) (p64 M.w _)) ?_
     refine Opk ?_; refine Omv ?_; refine Pmv ?_; refine Pln ?_; refine Pcm ?_; refine Opk ?_; refine Omv ?_; refine Pmv ?_; refine Pmv ?_; refine Pln ?_
     refine OL.guardC rfl rfl rfl rfl rfl rfl (fun hg => POp.call (.mk' rfl rfl rfl rfl (by first | rfl | ((repeat (first | exact hg | rfl | refine Bool.and_eq_true_iff.2 ⟨?_, ?_⟩)); done) | simp_all [strip, constAV])) (p65 _ _)) ?_
     refine Opk ?_; refine Omv ?_; refine Pla ?_; refine Pfa ?_; refine Pla ?_; refine Pmv ?_; refine Pmv ?_
     refine OL.guardC rfl rfl rfl rfl rfl rfl (fun hg => POp.call (.mk' rfl rfl rfl rfl (by first | rfl | ((repeat (first | exact hg | rfl | refine Bool.and_eq_true_iff.2 ⟨?_, ?_⟩)); done) | simp_all [strip, constAV])) (p66 M.h g.A M.wf (by rw [M.three]; exact M.spk))) ?_
     refine Opk ?_; refine Omv ?_
     refine OL.guardC rfl rfl rfl rfl rfl rfl (fun hg => POp.call (.mk' rfl rfl rfl rfl rfl) (p21)) ?_
     refine Opk ?_; refine Oas ?_; refine S3 ?_
     refine r1 2 (H) ?_
     exact ⟨retB (by rw [M.w, M.big, M.things, M.three, M.args, M.holds]; rfl), rfl⟩
structure SndOk (a b : Fact) (x : FW × Obs × List (Int × Int)) : Prop where
 ta : takesP x.1 a x.2.1 x.2.2 = true
 tb : takesP x.1 b x.2.1 x.2.2 = true
 ea : ev (VO x.1 x.2.1 x.2.2) a = true
 eb : ev (VO x.1 x.2.1 x.2.2) b = false
theorem sub_len {α : Type} [BEq α] [LawfulBEq α] : ∀ (l P : List α), l.Nodup → (∀ x ∈ l, x ∈ P) → l.length ≤ P.length
 | [], P, _, _ => Nat.zero_le _
 | x :: r, P, hn, hs => by
  have hx := hs x (.head _)
  have hn' := List.nodup_cons.1 hn
  have := sub_len r (P.erase x) hn'.2 (fun y hy => (List.mem_erase_of_ne (fun e => hn'.1 (by rw [← e]; exact hy))).2 (hs y (.tail _ hy)))
  rw [List.length_erase_of_mem hx] at this
  have hp : 0 < P.length := List.length_pos_of_mem hx
  simp only [List.length_cons]; omega
def kidsK (kn : Value → Kn) (a : Int) (p : List Int) (k : Nat) : List Nat := (List.range k).filter fun i => (kn (keyS a p)).slots.contains (i : Int)
def spotsK (W : FW) (kn : Value → Kn) (a : Int) : Nat → List Int → List (Int × List Int)
 | 0, p => [(a, p)]
 | d + 1, p => (a, p) :: (kidsK kn a p W.owner.length).flatMap fun (k : Nat) => spotsK W kn a d (p ++ [(k : Int)])
theorem kids_succ (kn : Value → Kn) (a : Int) (p : List Int) (k : Nat) : kidsK kn a p (k + 1) = kidsK kn a p k ++ (if (kn (keyS a p)).slots.contains (k : Int) then [k] else []) := by
 rw [kidsK, List.range_succ, List.filter_append]
 cases h : (kn (keyS a p)).slots.contains (k : Int) with
 | true => rw [List.filter_cons_of_pos (by exact h)]; rfl
 | false => rw [List.filter_cons_of_neg (by rw [h]; simp)]; rfl
theorem slots_few {W : FW} {kn : Value → Kn} {a : Int} {rec : MSt → List Int → (Int × Int) × MSt} {set : Nat} {p : List Int} {st : MSt} {m : Nat → Nat} (hr : ∀ k : Nat, (kn (keyS a p)).slots.contains (k : Int) = true → ∀ st, Grows (m k) st (rec st (p ++ [(k : Int)])).2) :
  ∀ k, Grows (((kidsK kn a p k).map m).sum) st (slotsV W kn a rec set p st k).2
 | 0 => ⟨by simp [slotsV, kidsK], Nat.le_refl _, by simp [slotsV, kidsK]⟩
 | k + 1 => by
  obtain ⟨h1, h2, h3⟩ := slots_few (W := W) (set := set) (st := st) hr k
  rw [slotsV_succ, kids_succ, List.map_append, List.sum_append]
  generalize slotsV W kn a rec set p st k = acc at *
  by_cases hc : (kn (keyS a p)).slots.contains (k : Int) = true
  ·rw [if_pos hc]
   simp only [List.map_cons, List.map_nil, List.sum_cons, List.sum_nil]
   unfold slotV
   by_cases hb : set.testBit (W.owner.getD k default).toNat = true
   ·rw [if_pos hb, if_pos hc]
    obtain ⟨g1, g2, g3⟩ := hr k hc acc.2
    exact ⟨by show (rec acc.2 _).2.1.length ≤ _; omega, by show _ ≤ (rec acc.2 _).2.2.length; omega, by show (rec acc.2 _).2.2.length ≤ _; omega⟩
   ·rw [if_neg hb]; exact ⟨by omega, h2, by omega⟩
  ·rw [if_neg hc]
   simp only [List.map_nil, List.sum_nil]
   unfold slotV
   by_cases hb : set.testBit (W.owner.getD k default).toNat = true
   ·rw [if_pos hb, if_neg hc]
    exact ⟨by show acc.2.1.length ≤ _; omega, h2, by show acc.2.2.length ≤ _; omega⟩
   ·rw [if_neg hb]; exact ⟨by omega, h2, by omega⟩
theorem value_few {W : FW} {kn : Value → Kn} (K : KnOk W kn) (hW : W.owner.length ≤ 40) {a : Int} : ∀ (d : Nat) (p : List Int), goodSpot a p → p.length + d = 2 → ∀ st, Grows (spotsK W kn a d p).length st (valueP W kn a d st p).2 := by
 intro d
 induction d with
 | zero => intro p h hd st; exact value_grow K hW 0 p h hd st
 | succ d ih =>
  intro p h hd st
  show Grows _ st (valueS W kn a (d + 1) (valueP W kn a d) st p).2
  rw [spotsK, List.length_cons, List.length_flatMap]
  have hr : ∀ k : Nat, (kn (keyS a p)).slots.contains (k : Int) = true → ∀ st, Grows (spotsK W kn a d (p ++ [(k : Int)])).length st (valueP W kn a d st (p ++ [(k : Int)])).2 := fun k hk st =>
   ih (p ++ [(k : Int)]) (kn_next K hW h (List.contains_iff_mem.1 hk)).2 (by simp; omega) st
  unfold valueS
  split
  ·exact ⟨by show st.1.length ≤ _; omega, Nat.le_refl _, by show st.2.length ≤ _; omega⟩
  ·split
   ·exact ⟨by show st.1.length ≤ _; omega, Nat.le_refl _, by show st.2.length ≤ _; omega⟩
   ·generalize (objectK W kn (childCan W kn a (d + 1)) a p).1 = set
    obtain ⟨h1, h2, h3⟩ := slots_few (W := W) (set := set) (st := ((classP W st.1 set).2, st.2 ++ [((classP W st.1 set).1, [])])) (m := fun k => (spotsK W kn a d (p ++ [(k : Int)])).length) hr W.owner.length
    have hc := class_len W st.1 set
    simp only [List.length_append, List.length_singleton] at h1 h2 h3
    refine ⟨?_, ?_, ?_⟩
    ·show (slotsV W kn a (valueP W kn a d) set p _ _).2.1.length ≤ _; omega
    ·show _ ≤ (List.set _ _ _).length; rw [List.length_set]; omega
    ·show (List.set _ _ _).length ≤ _; rw [List.length_set]; omega
theorem spots_in {W : FW} {kn : Value → Kn} {a : Int} : ∀ (d : Nat) (p : List Int), ∀ x ∈ spotsK W kn a d p, x.1 = a ∧ p <+: x.2 := by
 intro d
 induction d with
 | zero => intro p x hx; rw [spotsK, List.mem_singleton] at hx; subst hx; exact ⟨rfl, List.prefix_refl _⟩
 | succ d ih =>
  intro p x hx
  rw [spotsK] at hx
  rcases List.mem_cons.1 hx with rfl | hx
  ·exact ⟨rfl, List.prefix_refl _⟩
  ·obtain ⟨k, _, hx⟩ := List.mem_flatMap.1 hx
   obtain ⟨h1, h2⟩ := ih _ x hx
   exact ⟨h1, (List.prefix_append p _).trans h2⟩
theorem kids_nodup (kn : Value → Kn) (a : Int) (p : List Int) (k : Nat) : (kidsK kn a p k).Nodup := List.nodup_range.filter _
theorem prefix_last {p q : List Int} {i j : Int} (h1 : p ++ [i] <+: q) (h2 : p ++ [j] <+: q) : i = j := by
 obtain ⟨r, hr⟩ := h1
 obtain ⟨s, hs⟩ := h2
 rw [List.append_assoc] at hr hs
 rw [← hs] at hr
 have := List.append_cancel_left hr
 simp at this; exact this.1
theorem nodup_fm {α β : Type} {f : α → List β} : ∀ {l : List α}, (∀ x ∈ l, (f x).Nodup) → l.Pairwise (fun x y => ∀ z ∈ f x, ∀ w ∈ f y, z ≠ w) → (l.flatMap f).Nodup
 | [], _, _ => .nil
 | x :: r, h, hp => by
  obtain ⟨h1, h2⟩ := List.pairwise_cons.1 hp
  rw [List.flatMap_cons, List.nodup_append]
  exact ⟨h x (.head _), nodup_fm (fun y hy => h y (.tail _ hy)) h2, fun z hz w hw => by
   obtain ⟨y, hy, hw⟩ := List.mem_flatMap.1 hw
   exact h1 y hy z hz w hw⟩
theorem spots_nodup {W : FW} {kn : Value → Kn} {a : Int} : ∀ (d : Nat) (p : List Int), (spotsK W kn a d p).Nodup := by
 intro d
 induction d with
 | zero => intro p; rw [spotsK]; simp
 | succ d ih =>
  intro p
  rw [spotsK, List.nodup_cons]
  refine ⟨fun hx => ?_, ?_⟩
  ·obtain ⟨k, _, hx⟩ := List.mem_flatMap.1 hx
   have := (spots_in d _ _ hx).2.length_le
   simp at this
   omega
  ·refine nodup_fm (fun k _ => ih _) ((kids_nodup kn a p _).imp ?_)
   intro i j hij x hx y hy e
   subst e
   have := prefix_last (spots_in d _ _ hx).2 (spots_in d _ _ hy).2
   omega
theorem cases_half : ∀ (f : Fact), okB f = true → ∀ c, ∀ l ∈ casesP f c, 2 * l.length ≤ nodesN f + 1 := by
 refine Fact.ind1 fun f ih hok c l hl => ?_
 have hp := ok_parts hok
 by_cases h1 : f.op = 1
 ·rw [cases_true h1] at hl
  cases c <;> simp at hl
  subst hl; simp
 by_cases h5 : f.op = 5
 ·have hk := kids_one hok h5
  rw [cases_not h5 (by omega)] at hl
  have := ih _ (getD_mem (by omega)) (hp.2.2.2.2 _ (getD_mem (by omega))) _ l hl
  have h2 := nodesNs_one f.kids (by omega)
  rw [nodesN_eq]; omega
 by_cases hlf : leafP f = true
 ·rw [cases_leaf h1 h5 hlf] at hl
  simp at hl; subst hl; rw [nodesN_eq]; simp only [List.length_singleton]; omega
 ·have hlf' : leafP f = false := by simpa using hlf
  have hk := kids_two hok h1 h5 hlf'
  have n2 := nodesNs_two f.kids (by omega)
  have i0 := ih (f.kids.getD 0 default) (getD_mem (by omega)) (hp.2.2.2.2 _ (getD_mem (by omega))) c
  have i1 := ih (f.kids.getD 1 default) (getD_mem (by omega)) (hp.2.2.2.2 _ (getD_mem (by omega))) c
  rw [nodesN_eq]
  cases hc : (c == (f.op == 6)) with
  | true =>
   rw [cases_either h1 h5 hlf' hc (by omega)] at hl
   rcases List.mem_append.1 hl with h | h
   ·have := i0 l h; omega
   ·have := i1 l h; omega
  | false =>
   rw [cases_both h1 h5 hlf' hc (by omega)] at hl
   obtain ⟨a, ha, hl⟩ := List.mem_flatMap.1 hl
   obtain ⟨b, hb, rfl⟩ := List.mem_map.1 hl
   have := joined_len a b
   have := i0 a ha
   have := i1 b hb
   omega
theorem spots_lit {W : FW} {kn : Value → Kn} {a : Int} {c : List FLit} (hs : ∀ p s, p.length ≤ 2 → s ∈ (kn (keyS a p)).slots → ∃ l ∈ c, l.f.arg = a ∧ (p ++ [s]) <+: l.f.path) :
  ∀ (d : Nat) (p : List Int), p.length + d ≤ 2 → ∀ x ∈ spotsK W kn a d p, x.2.length ≤ 2 ∧ (x.2 = p ∨ ∃ l ∈ c, l.f.arg = a ∧ x.2 <+: l.f.path) := by
 intro d
 induction d with
 | zero => intro p hd x hx; rw [spotsK, List.mem_singleton] at hx; subst hx; exact ⟨by simpa using hd, .inl rfl⟩
 | succ d ih =>
  intro p hd x hx
  rw [spotsK] at hx
  rcases List.mem_cons.1 hx with rfl | hx
  ·exact ⟨by show p.length ≤ 2; omega, .inl rfl⟩
  ·obtain ⟨k, hk, hx⟩ := List.mem_flatMap.1 hx
   obtain ⟨h1, h2⟩ := ih (p ++ [(k : Int)]) (by simp; omega) x hx
   refine ⟨h1, .inr ?_⟩
   rcases h2 with h2 | h2
   ·rw [h2]; exact hs p k (by omega) (List.contains_iff_mem.1 (List.mem_filter.1 hk).2)
   ·exact h2
def allSpots (W : FW) (kn : Value → Kn) (n : Nat) : List (Int × List Int) := (List.range n).flatMap fun (a : Nat) => spotsK W kn (a : Int) 2 []
theorem all_nodup (W : FW) (kn : Value → Kn) (n : Nat) : (allSpots W kn n).Nodup := by
 refine nodup_fm (fun a _ => spots_nodup 2 []) (List.nodup_range.imp fun {i j} hij x hx y hy e => ?_)
 subst e
 have h1 := (spots_in 2 [] _ hx).1
 have h2 := (spots_in 2 [] _ hy).1
 omega
theorem args_few {W : FW} {kn : Value → Kn} (K : KnOk W kn) (hW : W.owner.length ≤ 40) : ∀ k, k ≤ 3 → (argsV W kn k).2.1.length ≤ (allSpots W kn k).length ∧ (argsV W kn k).2.2.length ≤ (allSpots W kn k).length
 | 0, _ => ⟨Nat.zero_le _, Nat.zero_le _⟩
 | k + 1, hk => by
  obtain ⟨h1, h2⟩ := args_few K hW k (by omega)
  rw [argsV_succ]
  have e : allSpots W kn (k + 1) = allSpots W kn k ++ spotsK W kn (k : Int) 2 [] := by
   rw [allSpots, List.range_succ, List.flatMap_append]; simp [allSpots]
  rw [e, List.length_append]
  generalize argsV W kn k = acc at *
  obtain ⟨g1, g2, g3⟩ := value_few K hW 2 [] (spot_root (a := k) (by omega)) rfl acc.2
  exact ⟨by show (valueP W kn (k : Int) 2 acc.2 []).2.1.length ≤ _; omega, by show (valueP W kn (k : Int) 2 acc.2 []).2.2.length ≤ _; omega⟩
theorem all_few {W : FW} {kn : Value → Kn} {c : List FLit} (hs : ∀ a p s, p.length ≤ 2 → s ∈ (kn (keyS a p)).slots → ∃ l ∈ c, l.f.arg = a ∧ (p ++ [s]) <+: l.f.path) : (allSpots W kn 3).length ≤ 3 + 2 * c.length := by
 have h := sub_len (allSpots W kn 3) ([((0 : Int), []), (1, []), (2, [])] ++ c.flatMap fun l => [(l.f.arg, l.f.path.take 1), (l.f.arg, l.f.path.take 2)]) (all_nodup W kn 3) fun x hx => by
  obtain ⟨a, ha, hx⟩ := List.mem_flatMap.1 hx
  have ha := List.mem_range.1 ha
  have h1 := (spots_in 2 [] _ hx).1
  obtain ⟨h2, h3⟩ := spots_lit (hs (a : Int)) 2 [] (by simp) x hx
  have root : x.2 = [] → x ∈ [((0 : Int), ([] : List Int)), (1, []), (2, [])] ++ c.flatMap fun l => [(l.f.arg, l.f.path.take 1), (l.f.arg, l.f.path.take 2)] := fun e => by
   obtain ⟨y, q⟩ := x
   simp only at e h1
   subst e; subst h1
   have : a = 0 ∨ a = 1 ∨ a = 2 := by omega
   rcases this with rfl | rfl | rfl <;> simp
  rcases h3 with h3 | ⟨l, hl, h4, h5⟩
  ·exact root h3
  ·have h6 := List.prefix_iff_eq_take.1 h5
   have h7 : x.2.length = 0 ∨ x.2.length = 1 ∨ x.2.length = 2 := by omega
   obtain ⟨y, q⟩ := x
   simp only at h1 h2 h5 h6 h7
   rcases h7 with e | e | e
   ·exact root (List.eq_nil_of_length_eq_zero e)
   ·refine List.mem_append_right _ (List.mem_flatMap.2 ⟨l, hl, ?_⟩)
    rw [h6, e, h1, ← h4]; simp
   ·refine List.mem_append_right _ (List.mem_flatMap.2 ⟨l, hl, ?_⟩)
    rw [h6, e, h1, ← h4]; simp
 have e : ∀ c : List FLit, (c.flatMap fun l => [(l.f.arg, l.f.path.take 1), (l.f.arg, l.f.path.take 2)]).length = 2 * c.length := fun c => by
  induction c with
  | nil => rfl
  | cons x r ih => rw [List.flatMap_cons, List.length_append, ih]; simp; omega
 rw [List.length_append, e] at h
 simpa [Nat.add_comm] using h
theorem stage_slot {W : FW} {c : List FLit} (h : LsOk W c) {a : Int} {p : List Int} {s : Int} (hp : p.length ≤ 2) (hs : s ∈ (stageK c (keyS a p)).slots) : ∃ l ∈ c, l.f.arg = a ∧ (p ++ [s]) <+: l.f.path := by
 rw [stage_rep (W := W) h.ok a p hp, h.slots] at hs
 obtain ⟨l, hl, hw⟩ := List.any_eq_true.1 hs
 rw [wayL, Bool.and_eq_true, beq_iff_eq] at hw
 exact ⟨l, hl, hw.1, beg_iff.1 hw.2⟩
theorem model_few {W : FW} {c : List FLit} (h : LsOk W c) (K : KnOk W (stageK c)) : (argsV W (stageK c) 3).2.1.length ≤ 3 + 2 * c.length ∧ (argsV W (stageK c) 3).2.2.length ≤ 3 + 2 * c.length := by
 have h1 := args_few K (world_own h.w) 3 (by omega)
 have h2 := all_few (W := W) (kn := stageK c) (c := c) (fun a p s hp hs => stage_slot h hp hs)
 omega
theorem parents_of {i : Nat} : ∀ (l seen : List Int), (seen ++ l).Nodup → (∀ x ∈ l, 3 ≤ x ∧ x < 3 + i) → parentsP i seen l = true
 | [], seen, _, _ => rfl
 | p :: r, seen, hn, hr => by
  have h1 := hr p (.head _)
  have hp : seen.contains p = false := by
   cases hc : seen.contains p with
   | false => rfl
   | true =>
    have := (List.nodup_append.1 hn).2.2 p (List.contains_iff_mem.1 hc) p (.head _)
    exact absurd rfl this
  rw [parentsP, hp, parents_of r (seen ++ [p]) (by rw [List.append_assoc]; exact hn) (fun x hx => hr x (.tail _ hx)), decide_eq_false (by omega), decide_eq_false (by omega)]; rfl
theorem upto_pw (s c : Nat) : (uptoP s c).Pairwise (· < ·) := by
 rw [uptoP, List.pairwise_map]
 exact (List.pairwise_lt_range.filter _).imp fun h => by omega
theorem upto_rng {s c : Nat} : ∀ x ∈ uptoP s c, 3 ≤ x ∧ x < c := fun x hx => by
 obtain ⟨b, hb, rfl⟩ := List.mem_map.1 hx
 obtain ⟨h1, h2⟩ := List.mem_filter.1 hb
 have := List.mem_range.1 h1
 simp only [Bool.and_eq_true, decide_eq_true_eq] at h2
 omega
theorem newP_ok {n i : Nat} (s : Nat) (h : n ≤ i) : parentsP i [] (newP n s) = true := by
 refine parents_of _ _ ?_ fun x hx => ?_
 ·rw [List.nil_append]; exact (upto_pw s _).imp fun h => by omega
 ·have := upto_rng x hx; omega
theorem parentss_more {W : FW} (hw : worldP W = true) : ∀ (bits : List Nat), parentssP 0 (W.parents ++ bits.map (newP W.parents.length)) = true := by
 have h0 : parentssP 0 W.parents = true := by simp only [worldP, Bool.and_eq_true] at hw; exact hw.1.2
 have : ∀ (bits : List Nat) (P : List (List Int)), parentssP 0 P = true → W.parents.length ≤ P.length → parentssP 0 (P ++ bits.map (newP W.parents.length)) = true := by
  intro bits
  induction bits with
  | nil => intro P hP _; rw [List.map_nil, List.append_nil]; exact hP
  | cons s r ih =>
   intro P hP hl
   have := ih (P ++ [newP W.parents.length s]) (by rw [parentss_snoc, hP, Nat.zero_add, newP_ok s hl]; rfl) (by simp; omega)
   rwa [List.append_assoc] at this
 exact fun bits => this bits _ h0 (Nat.le_refl _)
theorem own_more {W : FW} (bits : List Nat) {c : Int} (h : ownP W c = true) : ownP (moreW W bits) c = true := by
 simp only [ownP, Bool.and_eq_true, decide_eq_true_eq, moreW, List.length_append, List.length_map] at h ⊢
 omega
theorem world_more {W : FW} (hw : worldP W = true) {bits : List Nat} (hl : W.parents.length + bits.length ≤ 60) : worldP (moreW W bits) = true := by
 have hp := parentss_more hw bits
 have ho := world_own hw
 simp only [worldP, Bool.and_eq_true, List.all_eq_true] at hw
 rw [worldP, decide_eq_true (by show (W.parents ++ _).length ≤ 60; simpa using hl), decide_eq_true (show (moreW W bits).owner.length ≤ 40 from ho), show parentssP 0 (moreW W bits).parents = true from hp]
 simp only [Bool.true_and, List.all_eq_true]
 exact fun c hc => own_more bits (hw.2 c hc)
theorem bigger_more (W : FW) (bits : List Nat) : biggerP (moreW W bits) W = true := by
 have h1 : W.parents.length ≤ (moreW W bits).parents.length := by show _ ≤ (W.parents ++ _).length; simp
 rw [biggerP, decide_eq_true h1, decide_eq_true (show W.owner.length ≤ (moreW W bits).owner.length from Nat.le_refl _), sameW]
 have e1 : (moreW W bits).parents.take W.parents.length = W.parents := List.take_left
 have e2 : (moreW W bits).owner.take W.owner.length = W.owner := List.take_length
 rw [e1, e2]; simp
theorem big_more {W : FW} (hw : worldP W = true) {bits : List Nat} (hl : W.parents.length + bits.length ≤ 60) : BigW W (moreW W bits) := ⟨hw, world_more hw hl, List.prefix_append _ _, List.prefix_refl _⟩
theorem spkNs_max {m : Int} : ∀ (l : List Fact) (a : Int), (∀ k ∈ l, spkN k ≤ m) → a ≤ m → spkNs l a ≤ m
 | [], a, _, h => by rw [spkNs]; exact h
 | k :: r, a, hk, h => by
  rw [spkNs]
  refine spkNs_max r _ (fun x hx => hk x (.tail _ hx)) ?_
  split
  ·exact hk k (.head _)
  ·exact h
theorem spk_three {W : FW} : ∀ f : Fact, wfB W f = true → spkN f ≤ 3 := by
 refine Fact.ind1 fun f ih h => ?_
 obtain ⟨hn, hk⟩ := wfB_iff.1 h
 rw [spkN_eq]
 refine spkNs_max _ _ (fun k hkm => ih k hkm (hk k hkm)) ?_
 split
 ·rename_i hl
  simp only [nodeOkB, Bool.and_eq_true] at hn
  have h3 := hn.2
  rw [if_pos hl] at h3
  simp only [argP, Bool.and_eq_true, Bool.not_eq_true', Bool.or_eq_false_iff, decide_eq_false_iff_not] at h3
  omega
 ·omega
def IsCls (W : FW) (bits : List Nat) (s : Nat) (c : Int) : Prop := (3 ≤ c ∧ c < 3 + W.parents.length ∧ isUp W s c.toNat = true) ∨ ∃ j : Nat, bits[j]? = some s ∧ c = 3 + W.parents.length + j
theorem IsCls.mono {W : FW} {bits bits' : List Nat} {s : Nat} {c : Int} (h : IsCls W bits s c) (hp : bits <+: bits') : IsCls W bits' s c := by
 rcases h with h | ⟨j, h1, h2⟩
 ·exact .inl h
 ·obtain ⟨r, rfl⟩ := hp
  have hj := (List.getElem?_eq_some_iff.1 h1).1
  exact .inr ⟨j, by rw [List.getElem?_append_left hj]; exact h1, h2⟩
theorem class_is (W : FW) (bits : List Nat) (s : Nat) : IsCls W (classP W bits s).2 s (classP W bits s).1 ∧ bits <+: (classP W bits s).2 := by
 unfold classP
 cases ho : oldC W s with
 | some c =>
  have h1 := List.find?_some ho
  have h2 := List.mem_range.1 (List.mem_of_find?_eq_some ho)
  simp only [Bool.and_eq_true, decide_eq_true_eq] at h1
  exact ⟨.inl ⟨by simp only; omega, by simp only; omega, by simpa using h1.2⟩, List.prefix_refl _⟩
 | none =>
  simp only
  cases hb : bits.contains s with
  | true =>
   rw [if_pos rfl]
   refine ⟨.inr ?_, List.prefix_refl _⟩
   have hi : ¬ idxN bits s < 0 := fun e => by rw [idxN_lt.1 e] at hb; cases hb
   unfold idxN at hi ⊢
   cases hf : bits.findIdx? (fun x => x == s) with
   | none => rw [hf] at hi; simp at hi
   | some i =>
    obtain ⟨h1, h2, _⟩ := List.findIdx?_eq_some_iff_getElem.1 hf
    exact ⟨i, by rw [List.getElem?_eq_getElem h1]; simpa using h2, rfl⟩
  | false =>
   rw [if_neg (by simp)]
   exact ⟨.inr ⟨bits.length, by simp, rfl⟩, List.prefix_append _ _⟩
def ownsK (W : FW) (s : Nat) (n : Nat) : List Nat := (List.range n).filter fun k => s.testBit (W.owner.getD k default).toNat
def Stands (W : FW) (kn : Value → Kn) (a : Int) (bits : List Nat) (os : Obs) (lo : Nat) : Nat → List Int → Int × Int → Prop
 | d, p, v =>
  (integerOk kn a p = true ∧ v = (1, freeK (kn (keyS a p)).nots (kn (keyS a p)).low)) ∨ (integerOk kn a p = false ∧ noneOk kn a p = true ∧ v = (2, 0)) ∨
  (integerOk kn a p = false ∧ noneOk kn a p = false ∧ ∃ (i : Nat) (c : Int) (sl : List (Int × Int)), v = (3, (i : Int)) ∧ lo ≤ i ∧ os[i]? = some (c, sl) ∧ IsCls W bits (objectK W kn (childCan W kn a d) a p).1 c ∧
   sl.length = (ownsK W (objectK W kn (childCan W kn a d) a p).1 W.owner.length).length ∧
   ∀ (j k : Nat) (u : Int × Int), (ownsK W (objectK W kn (childCan W kn a d) a p).1 W.owner.length)[j]? = some k → sl[j]? = some u →
    match d with
    | 0 => u = (2, 0)
    | d + 1 => if (kn (keyS a p)).slots.contains (k : Int) then Stands W kn a bits os lo d (p ++ [(k : Int)]) u else u = (2, 0))
theorem Stands.mono {W : FW} {kn : Value → Kn} {a : Int} {bits bits' : List Nat} {os os' : Obs} {lo lo' : Nat} (hlo : lo' ≤ lo) (hb : bits <+: bits') (ho : os <+: os') : ∀ (d : Nat) (p : List Int) (v : Int × Int), Stands W kn a bits os lo d p v → Stands W kn a bits' os' lo' d p v := by
 intro d
 induction d with
 | zero =>
  intro p v h
  unfold Stands at h ⊢
  rcases h with h | h | ⟨h1, h2, i, c, sl, h3, hi, h4, h5, h6, h7⟩
  ·exact .inl h
  ·exact .inr (.inl h)
  ·obtain ⟨r, rfl⟩ := ho
   exact .inr (.inr ⟨h1, h2, i, c, sl, h3, by omega, by rw [List.getElem?_append_left (List.getElem?_eq_some_iff.1 h4).1]; exact h4, h5.mono hb, h6, h7⟩)
 | succ d ih =>
  intro p v h
  unfold Stands at h ⊢
  rcases h with h | h | ⟨h1, h2, i, c, sl, h3, hi, h4, h5, h6, h7⟩
  ·exact .inl h
  ·exact .inr (.inl h)
  ·refine .inr (.inr ⟨h1, h2, i, c, sl, h3, by omega, ?_, h5.mono hb, h6, fun j k u e1 e2 => ?_⟩)
   ·obtain ⟨r, rfl⟩ := ho
    rw [List.getElem?_append_left (List.getElem?_eq_some_iff.1 h4).1]; exact h4
   ·have := h7 j k u e1 e2
    simp only at this ⊢
    split
    ·rename_i hc; rw [if_pos hc] at this; exact ih _ _ this
    ·rename_i hc; rw [if_neg hc] at this; exact this
theorem Stands.set {W : FW} {kn : Value → Kn} {a : Int} {bits : List Nat} {os : Obs} {lo q : Nat} {x : Int × List (Int × Int)} (hq : q < lo) : ∀ (d : Nat) (p : List Int) (v : Int × Int), Stands W kn a bits os lo d p v → Stands W kn a bits (os.set q x) lo d p v := by
 intro d
 induction d with
 | zero =>
  intro p v h
  unfold Stands at h ⊢
  rcases h with h | h | ⟨h1, h2, i, c, sl, h3, hi, h4, h5, h6, h7⟩
  ·exact .inl h
  ·exact .inr (.inl h)
  ·exact .inr (.inr ⟨h1, h2, i, c, sl, h3, hi, by rw [List.getElem?_set_ne (by omega)]; exact h4, h5, h6, h7⟩)
 | succ d ih =>
  intro p v h
  unfold Stands at h ⊢
  rcases h with h | h | ⟨h1, h2, i, c, sl, h3, hi, h4, h5, h6, h7⟩
  ·exact .inl h
  ·exact .inr (.inl h)
  ·refine .inr (.inr ⟨h1, h2, i, c, sl, h3, hi, by rw [List.getElem?_set_ne (by omega)]; exact h4, h5, h6, fun j k u e1 e2 => ?_⟩)
   have := h7 j k u e1 e2
   simp only at this ⊢
   split
   ·rename_i hc; rw [if_pos hc] at this; exact ih _ _ this
   ·rename_i hc; rw [if_neg hc] at this; exact this
theorem owns_succ (W : FW) (s n : Nat) : ownsK W s (n + 1) = ownsK W s n ++ (if s.testBit (W.owner.getD n default).toNat then [n] else []) := by
 rw [ownsK, List.range_succ, List.filter_append]
 cases h : s.testBit (W.owner.getD n default).toNat with
 | true => rw [List.filter_cons_of_pos (by exact h)]; rfl
 | false => rw [List.filter_cons_of_neg (by rw [h]; simp)]; rfl
theorem slots_stand {W : FW} {kn : Value → Kn} {a : Int} {rec : MSt → List Int → (Int × Int) × MSt} {s : Nat} {p : List Int} {st : MSt} {G : MSt → Nat → Int × Int → Prop} (hG : ∀ st st' k u, st.1 <+: st'.1 → st.2 <+: st'.2 → G st k u → G st' k u)
  (hr : ∀ k : Nat, (kn (keyS a p)).slots.contains (k : Int) = true → ∀ st', st.2 <+: st'.2 → st'.1 <+: (rec st' (p ++ [(k : Int)])).2.1 ∧ st'.2 <+: (rec st' (p ++ [(k : Int)])).2.2 ∧ G (rec st' (p ++ [(k : Int)])).2 k (rec st' (p ++ [(k : Int)])).1) :
  ∀ n, st.1 <+: (slotsV W kn a rec s p st n).2.1 ∧ st.2 <+: (slotsV W kn a rec s p st n).2.2 ∧ (slotsV W kn a rec s p st n).1.length = (ownsK W s n).length ∧
   ∀ (j k : Nat) (u : Int × Int), (ownsK W s n)[j]? = some k → (slotsV W kn a rec s p st n).1[j]? = some u → if (kn (keyS a p)).slots.contains (k : Int) then G (slotsV W kn a rec s p st n).2 k u else u = (2, 0)
 | 0 => ⟨List.prefix_refl _, List.prefix_refl _, rfl, fun j k u h => by simp [ownsK] at h⟩
 | n + 1 => by
  obtain ⟨h1, h2, h3, h4⟩ := slots_stand hG hr n
  rw [slotsV_succ, owns_succ]
  generalize slotsV W kn a rec s p st n = acc at *
  unfold slotV
  cases hb : s.testBit (W.owner.getD n default).toNat with
  | false => simp only [Bool.false_eq_true, if_false, List.append_nil]; exact ⟨h1, h2, h3, h4⟩
  | true =>
   simp only [if_true]
   by_cases hc : (kn (keyS a p)).slots.contains (n : Int) = true
   ·rw [if_pos hc]
    obtain ⟨g1, g2, g3⟩ := hr n hc acc.2 h2
    refine ⟨h1.trans g1, h2.trans g2, by simp [h3], fun j k u e1 e2 => ?_⟩
    rcases Nat.lt_or_ge j (ownsK W s n).length with hj | hj
    ·rw [List.getElem?_append_left hj] at e1
     rw [List.getElem?_append_left (by omega)] at e2
     have := h4 j k u e1 e2
     split
     ·rename_i hk; rw [if_pos hk] at this; exact hG _ _ _ _ g1 g2 this
     ·rename_i hk; rw [if_neg hk] at this; exact this
    ·have hjl := (List.getElem?_eq_some_iff.1 e1).1
     simp only [List.length_append, List.length_singleton] at hjl
     obtain rfl : j = (ownsK W s n).length := by omega
     simp at e1
     rw [← h3] at e2
     simp at e2
     subst e1; subst e2
     rw [if_pos hc]; exact g3
   ·rw [if_neg hc]
    refine ⟨h1, h2, by simp [h3], fun j k u e1 e2 => ?_⟩
    rcases Nat.lt_or_ge j (ownsK W s n).length with hj | hj
    ·rw [List.getElem?_append_left hj] at e1
     rw [List.getElem?_append_left (by omega)] at e2
     exact h4 j k u e1 e2
    ·have hjl := (List.getElem?_eq_some_iff.1 e1).1
     simp only [List.length_append, List.length_singleton] at hjl
     obtain rfl : j = (ownsK W s n).length := by omega
     simp at e1
     rw [← h3] at e2
     simp at e2
     subst e1; subst e2
     rw [if_neg hc]
theorem value_core {W : FW} {kn : Value → Kn} {a : Int} {d : Nat} {rec : MSt → List Int → (Int × Int) × MSt} {p : List Int} {st : MSt} {G : MSt → Nat → Int × Int → Prop} (hG : ∀ st st' k u, st.1 <+: st'.1 → st.2 <+: st'.2 → G st k u → G st' k u)
  (hset : ∀ (bits : List Nat) (os : Obs) q x k u, q < st.2.length + 1 → G (bits, os) k u → G (bits, os.set q x) k u)
  (hr : ∀ k : Nat, (kn (keyS a p)).slots.contains (k : Int) = true → ∀ st' : MSt, st.2.length + 1 ≤ st'.2.length → st'.1 <+: (rec st' (p ++ [(k : Int)])).2.1 ∧ st'.2 <+: (rec st' (p ++ [(k : Int)])).2.2 ∧ G (rec st' (p ++ [(k : Int)])).2 k (rec st' (p ++ [(k : Int)])).1)
  (hi : integerOk kn a p = false) (hn : noneOk kn a p = false) :
  ∃ c sl, (valueS W kn a d rec st p).1 = (3, (st.2.length : Int)) ∧ st.1 <+: (valueS W kn a d rec st p).2.1 ∧ st.2 <+: (valueS W kn a d rec st p).2.2 ∧ (valueS W kn a d rec st p).2.2[st.2.length]? = some (c, sl) ∧
   IsCls W (valueS W kn a d rec st p).2.1 (objectK W kn (childCan W kn a d) a p).1 c ∧ sl.length = (ownsK W (objectK W kn (childCan W kn a d) a p).1 W.owner.length).length ∧
   ∀ (j k : Nat) (u : Int × Int), (ownsK W (objectK W kn (childCan W kn a d) a p).1 W.owner.length)[j]? = some k → sl[j]? = some u → if (kn (keyS a p)).slots.contains (k : Int) then G (valueS W kn a d rec st p).2 k u else u = (2, 0) := by
 rw [value_obj (d := d) (rec := rec) (st := st) hi hn rfl rfl]
 generalize (objectK W kn (childCan W kn a d) a p).1 = s
 obtain ⟨hc1, hc2⟩ := class_is W st.1 s
 have hss := slots_stand (W := W) (rec := rec) (s := s) (p := p) (st := ((classP W st.1 s).2, st.2 ++ [((classP W st.1 s).1, [])])) hG (fun k hk st' hp => hr k hk st' (by have := hp.length_le; simpa using this)) W.owner.length
 generalize slotsV W kn a rec s p ((classP W st.1 s).2, st.2 ++ [((classP W st.1 s).1, [])]) W.owner.length = acc at hss ⊢
 obtain ⟨h1, h2, h3, h4⟩ := hss
 obtain ⟨t, ht⟩ := h2
 simp only at ht h1
 have e1 : acc.2.2.getD st.2.length default = ((classP W st.1 s).1, []) := by
  rw [← ht, List.getD_eq_getElem?_getD, List.append_assoc, List.getElem?_append_right (Nat.le_refl _)]; simp
 have e2 : ∀ y, acc.2.2.set st.2.length y = st.2 ++ y :: t := fun y => by
  rw [← ht, List.append_assoc, List.set_append_right _ _ (Nat.le_refl _)]; simp
 refine ⟨(classP W st.1 s).1, acc.1, rfl, hc2.trans h1, ?_, ?_, hc1.mono h1, h3, fun j k u e3 e4 => ?_⟩
 ·show st.2 <+: acc.2.2.set st.2.length _
  rw [e2]; exact List.prefix_append _ _
 ·show (acc.2.2.set st.2.length _)[st.2.length]? = _
  rw [e2, List.getElem?_append_right (Nat.le_refl _), e1]; simp
 ·have := h4 j k u e3 e4
  split
  ·rename_i hk; rw [if_pos hk] at this; exact hset _ _ _ _ _ _ (by omega) this
  ·rename_i hk; rw [if_neg hk] at this; exact this
theorem value_stands {W : FW} {kn : Value → Kn} (K : KnOk W kn) (hW : W.owner.length ≤ 40) {a : Int} : ∀ (d : Nat) (p : List Int), goodSpot a p → p.length + d = 2 → ∀ st : MSt,
  st.1 <+: (valueP W kn a d st p).2.1 ∧ st.2 <+: (valueP W kn a d st p).2.2 ∧ Stands W kn a (valueP W kn a d st p).2.1 (valueP W kn a d st p).2.2 st.2.length d p (valueP W kn a d st p).1 := by
 intro d
 induction d with
 | zero =>
  intro p h hd st
  show _ <+: (valueS W kn a 0 _ st p).2.1 ∧ _ <+: (valueS W kn a 0 _ st p).2.2 ∧ Stands W kn a (valueS W kn a 0 _ st p).2.1 (valueS W kn a 0 _ st p).2.2 st.2.length 0 p (valueS W kn a 0 _ st p).1
  cases hi : integerOk kn a p with
  | true => rw [value_int hi]; exact ⟨List.prefix_refl _, List.prefix_refl _, by unfold Stands; exact .inl ⟨hi, rfl⟩⟩
  | false =>
   cases hn : noneOk kn a p with
   | true => rw [value_none hi hn]; exact ⟨List.prefix_refl _, List.prefix_refl _, by unfold Stands; exact .inr (.inl ⟨hi, hn, rfl⟩)⟩
   | false =>
    have hno : ∀ k : Nat, ¬ (kn (keyS a p)).slots.contains (k : Int) = true := fun k hk => by
     have := List.contains_iff_mem.1 hk
     rw [K.deep a p h (by omega)] at this; cases this
    obtain ⟨c, sl, q1, q2, q3, q4, q5, q6, q7⟩ := value_core (W := W) (d := 0) (rec := fun st _ => ((2, 0), st)) (st := st) (G := fun _ _ _ => True) (fun _ _ _ _ _ _ _ => trivial) (fun _ _ _ _ _ _ _ _ => trivial) (fun k hk => absurd hk (hno k)) hi hn
    refine ⟨q2, q3, ?_⟩
    unfold Stands
    refine .inr (.inr ⟨hi, hn, st.2.length, c, sl, q1, Nat.le_refl _, q4, q5, q6, fun j k u e1 e2 => ?_⟩)
    have := q7 j k u e1 e2
    rw [if_neg (hno k)] at this; exact this
 | succ d ih =>
  intro p h hd st
  show _ <+: (valueS W kn a (d + 1) (valueP W kn a d) st p).2.1 ∧ _ <+: (valueS W kn a (d + 1) (valueP W kn a d) st p).2.2 ∧ Stands W kn a (valueS W kn a (d + 1) (valueP W kn a d) st p).2.1 (valueS W kn a (d + 1) (valueP W kn a d) st p).2.2 st.2.length (d + 1) p (valueS W kn a (d + 1) (valueP W kn a d) st p).1
  cases hi : integerOk kn a p with
  | true => rw [value_int hi]; exact ⟨List.prefix_refl _, List.prefix_refl _, by unfold Stands; exact .inl ⟨hi, rfl⟩⟩
  | false =>
   cases hn : noneOk kn a p with
   | true => rw [value_none hi hn]; exact ⟨List.prefix_refl _, List.prefix_refl _, by unfold Stands; exact .inr (.inl ⟨hi, hn, rfl⟩)⟩
   | false =>
    obtain ⟨c, sl, q1, q2, q3, q4, q5, q6, q7⟩ := value_core (W := W) (d := d + 1) (rec := valueP W kn a d) (st := st) (p := p) (G := fun st' k u => Stands W kn a st'.1 st'.2 (st.2.length + 1) d (p ++ [(k : Int)]) u)
     (fun s1 s2 k u g1 g2 hh => hh.mono (Nat.le_refl _) g1 g2 _ _ _) (fun bits os q x k u hq hh => hh.set hq _ _ _)
     (fun k hk st' hle => by
      obtain ⟨r1, r2, r3⟩ := ih (p ++ [(k : Int)]) (kn_next K hW h (List.contains_iff_mem.1 hk)).2 (by simp; omega) st'
      exact ⟨r1, r2, r3.mono hle (List.prefix_refl _) (List.prefix_refl _) _ _ _⟩) hi hn
    refine ⟨q2, q3, ?_⟩
    unfold Stands
    refine .inr (.inr ⟨hi, hn, st.2.length, c, sl, q1, Nat.le_refl _, q4, q5, q6, fun j k u e1 e2 => ?_⟩)
    have := q7 j k u e1 e2
    simp only
    split
    ·rename_i hk; rw [if_pos hk] at this; exact this.mono (by omega) (List.prefix_refl _) (List.prefix_refl _) _ _ _
    ·rename_i hk; rw [if_neg hk] at this; exact this
theorem args_stand {W : FW} {kn : Value → Kn} (K : KnOk W kn) (hW : W.owner.length ≤ 40) : ∀ k, k ≤ 3 → ∀ (j : Nat) (u : Int × Int), (argsV W kn k).1[j]? = some u → Stands W kn (j : Int) (argsV W kn k).2.1 (argsV W kn k).2.2 0 2 [] u
 | 0, _, j, u, h => by simp [argsV] at h
 | k + 1, hk, j, u, h => by
  have ih := args_stand K hW k (by omega)
  have hl := (args_ok K hW k (by omega)).2.2.2
  rw [argsV_succ] at h ⊢
  generalize argsV W kn k = acc at *
  obtain ⟨h1, h2, h3⟩ := value_stands K hW 2 [] (spot_root (a := k) (by omega)) rfl acc.2
  rcases Nat.lt_or_ge j k with hj | hj
  ·simp only [argV] at h
   rw [List.getElem?_append_left (by omega)] at h
   exact (ih j u h).mono (Nat.le_refl _) h1 h2 _ _ _
  ·have hjl := (List.getElem?_eq_some_iff.1 h).1
   simp only [argV, List.length_append, List.length_singleton] at hjl
   obtain rfl : j = k := by omega
   simp only [argV] at h
   rw [List.getElem?_append_right (by omega), hl, Nat.sub_self] at h
   simp only [List.getElem?_cons_zero, Option.some.injEq] at h
   subst h
   exact h3.mono (Nat.zero_le _) (List.prefix_refl _) (List.prefix_refl _) _ _ _
theorem cls_up {W : FW} (hw : worldP W = true) {bits : List Nat} (hl : W.parents.length + bits.length ≤ 60) {s : Nat} {c : Int} (hc : IsCls W bits s c) (hS : ∀ x, s.testBit x = true → 3 ≤ x ∧ x < 3 + W.parents.length) (hU : ∀ x y, s.testBit x = true → upB W x y = true → y = 0 ∨ s.testBit y = true)
  {b : Nat} (hb : b < 3 + W.parents.length) : upB (moreW W bits) c.toNat b = (b == 0 || s.testBit b) := by
 have hP := world_len hw
 have hB := big_more hw hl
 rcases hc with ⟨h1, h2, h3⟩ | ⟨j, h1, h2⟩
 ·have hct : c.toNat < 3 + W.parents.length := by omega
  rw [hB.up _ c.toNat (Nat.le_refl _) hct]
  rw [isUp, beq_iff_eq] at h3
  rw [← h3, andNot_bit, decide_eq_true (by omega : b < 64), Bool.true_and]
  show upB W c.toNat b = (b == 0 || (upB W c.toNat b && !(1 : Nat).testBit b))
  cases b with
  | zero => rw [upB_zero hw hct]; rfl
  | succ b =>
   have : (1 : Nat).testBit (b + 1) = false := by simp [Nat.testBit_succ]
   rw [this]; simp
 ·have hj := (List.getElem?_eq_some_iff.1 h1).1
  have hp : (moreW W bits).parents.getD (W.parents.length + j) default = newP W.parents.length s := by
   show (W.parents ++ bits.map (newP W.parents.length)).getD _ _ = _
   rw [List.getD_eq_getElem?_getD, List.getElem?_append_right (by omega), Nat.add_sub_cancel_left, List.getElem?_map, h1]; rfl
  have hct : c.toNat = 3 + (W.parents.length + j) := by omega
  rw [hct, upB_own hB.ok' (i := W.parents.length + j) (by show _ < (W.parents ++ bits.map _).length; simp; omega), hp]
  have hne : (b == 3 + (W.parents.length + j)) = false := by simp; omega
  rw [hne, Bool.or_false]
  rcases Nat.eq_zero_or_pos b with rfl | hb0
  ·rfl
  congr 1
  rw [Bool.eq_iff_iff, List.any_eq_true]
  constructor
  ·rintro ⟨p, hp1, hp2⟩
   obtain ⟨x, hx, rfl⟩ := List.mem_map.1 hp1
   obtain ⟨hx1, hx2⟩ := List.mem_filter.1 hx
   have hx1 := List.mem_range.1 hx1
   simp only [Bool.and_eq_true, decide_eq_true_eq] at hx2
   rw [Int.toNat_natCast, hB.up _ x (Nat.le_refl _) hx1] at hp2
   rcases hU x b hx2.2 hp2 with h | h
   ·omega
   ·exact h
  ·intro h
   have := hS b h
   refine ⟨(b : Int), List.mem_map.2 ⟨b, List.mem_filter.2 ⟨List.mem_range.2 hb, by rw [h, decide_eq_true this.1]; rfl⟩, rfl⟩, ?_⟩
   rw [Int.toNat_natCast, hB.up _ b (Nat.le_refl _) hb]
   exact upB_self hw hb
theorem obj_stage {W : FW} {c : List FLit} (hl : ∀ l ∈ c, LitOk W l) {a : Int} : ∀ (d : Nat) (p : List Int), p.length + d = 2 → objectK W (stageK c) (childCan W (stageK c) a d) a p = objAt W (stage2 c) a p
 | 0, p, hp => object_two (stage_rep hl) (KI.stage hl).deep (by omega) (fun h2 => absurd h2 (by omega))
 | d + 1, p, hp => object_two (stage_rep hl) (KI.stage hl).deep (by omega) (fun h2 s => by
   show canK W (stageK c) d a (p ++ [s]) = canAt W (stage2 c) a (p ++ [s])
   rw [can_two (stage_rep hl) (KI.stage hl).deep d (p ++ [s]) (by simp; omega), canAt, show 2 - (p ++ [s]).length = d by simp; omega])
theorem intK_stage {W : FW} {c : List FLit} (hl : ∀ l ∈ c, LitOk W l) {a : Int} {p : List Int} (hp : p.length ≤ 2) : integerOk (stageK c) a p = integer2 (stage2 c) a p := integer_two (stage_rep hl) (KI.stage hl).deep hp
theorem noneK_stage {W : FW} {c : List FLit} (hl : ∀ l ∈ c, LitOk W l) {a : Int} {p : List Int} (hp : p.length ≤ 2) : noneOk (stageK c) a p = none2 (stage2 c) a p := none_two (stage_rep hl) (KI.stage hl).deep hp
theorem slots_owns {W : FW} (hw : worldP W = true) {bits : List Nat} (hl : W.parents.length + bits.length ≤ 60) {s : Nat} {c : Int} (hc : IsCls W bits s c) (hS : ∀ x, s.testBit x = true → 3 ≤ x ∧ x < 3 + W.parents.length) (hU : ∀ x y, s.testBit x = true → upB W x y = true → y = 0 ∨ s.testBit y = true) :
  slotsOf (moreW W bits) c = (ownsK W s W.owner.length).map fun (k : Nat) => (k : Int) := by
 rw [slotsOf, numL, List.filter_map, ownsK]
 congr 1
 refine List.filter_congr fun k hk => ?_
 have hk := List.mem_range.1 hk
 have ho := owner_ok hw (i := k) hk
 show upB (moreW W bits) c.toNat (W.owner.getD (Int.toNat (k : Int)) default).toNat = _
 rw [Int.toNat_natCast, cls_up hw hl hc hS hU (by omega)]
 have : ((W.owner.getD k default).toNat == 0) = false := beq_eq_false_iff_ne.2 (by omega)
 rw [this, Bool.false_or]
theorem has_owns {W : FW} (hw : worldP W = true) {bits : List Nat} (hl : W.parents.length + bits.length ≤ 60) {s : Nat} {c : Int} (hc : IsCls W bits s c) (hS : ∀ x, s.testBit x = true → 3 ≤ x ∧ x < 3 + W.parents.length) (hU : ∀ x y, s.testBit x = true → upB W x y = true → y = 0 ∨ s.testBit y = true) {q : Int} (hq : 0 ≤ q ∧ q < W.owner.length) :
  hasP (moreW W bits) c q = s.testBit (ownerN W q) := by
 have ho := owner_ok hw (i := q.toNat) (by omega)
 show upB (moreW W bits) c.toNat (W.owner.getD q.toNat default).toNat = _
 rw [cls_up hw hl hc hS hU (by omega)]
 have : ((W.owner.getD q.toNat default).toNat == 0) = false := beq_eq_false_iff_ne.2 (by omega)
 rw [this, Bool.false_or]; rfl
theorem obj_closed {W : FW} {c : List FLit} {a : Int} {p : List Int} (h : LsOk W c) (ho : (objAt W (stage2 c) a p).2 = true) : (∀ x, (objAt W (stage2 c) a p).1.testBit x = true → 3 ≤ x ∧ x < 3 + W.parents.length) ∧ ∀ x y, (objAt W (stage2 c) a p).1.testBit x = true → upB W x y = true → y = 0 ∨ (objAt W (stage2 c) a p).1.testBit y = true := by
 have hf := obj_f h ho
 refine ⟨fun x hx => ⟨?_, hf.lt x hx⟩, fun x y hx hu => ?_⟩
 ·rcases Nat.lt_or_ge x 3 with h3 | h3
  ·rw [hf.low x h3] at hx; cases hx
  ·exact h3
 ·rcases Nat.eq_zero_or_pos y with h0 | h0
  ·exact .inl h0
  ·exact .inr (hf.up x y hx hu (by omega))
def SameV (W : FW) (bits : List Nat) (os : Obs) (u : Int × Int) : Val → Prop
 | .int n => u = (1, n)
 | .non => u = (2, 0)
 | .obj S => u.1 = 3 ∧ ∀ b, b < 3 + W.parents.length → upB (moreW W bits) (clsAt os u).toNat b = S b
theorem stands_same {W : FW} {c : List FLit} (h : LsOk W c) {a : Int} {bits : List Nat} {os : Obs} (hl : W.parents.length + bits.length ≤ 60) {lo d : Nat} {p : List Int} {u : Int × Int} (hd : p.length + d = 2) (hs : Stands W (stageK c) a bits os lo d p u) (hc : canAt W (stage2 c) a p = true) : SameV W bits os u (vAt W (stage2 c) a p) := by
 have hk := stage_rep h.ok a p (by omega)
 have hca := hc
 rw [can_at h (by omega)] at hca
 unfold Stands at hs
 rw [intK_stage h.ok (by omega), noneK_stage h.ok (by omega), hk, obj_stage h.ok d p hd] at hs
 unfold vAt
 rcases hs with ⟨h1, h2⟩ | ⟨h1, h2, h3⟩ | ⟨h1, h2, i, cl, sl, h3, h4, h5, h6, _⟩
 ·rw [if_pos h1]; exact h2
 ·rw [if_neg (by rw [h1]; simp), if_pos h2]; exact h3
 ·rw [if_neg (by rw [h1]; simp), if_neg (by rw [h2]; simp)]
  rw [h1, h2, Bool.false_or, Bool.false_or] at hca
  obtain ⟨q1, q2⟩ := obj_closed h hca
  refine ⟨by rw [h3], fun b hb => ?_⟩
  have e : clsAt os u = cl := by rw [clsAt, h3, Int.toNat_natCast, List.getD_eq_getElem?_getD, h5]; rfl
  rw [e]
  exact cls_up h.w hl h6 q1 q2 hb
end Go.Proofs.YtiljpbljebfhnaaGreat
