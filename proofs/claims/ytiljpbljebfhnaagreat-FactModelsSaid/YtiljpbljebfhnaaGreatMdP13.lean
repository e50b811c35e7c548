/- Part 13 of the proof: contracts of functions of the program and what they need. No condition beyond those that each theorem names. -/
import Derived.Test.YtiljpbljebfhnaaGreatMdP12
set_option linter.unusedVariables false
set_option linter.unusedSimpArgs false
set_option maxRecDepth 10000
namespace Go.Proofs.YtiljpbljebfhnaaGreat
open Go.Eng
open Go.Eng.Fc
theorem LsOk.pick {W : FW} {c : List FLit} (h : LsOk W c) {ns : List Int} (hr : ∀ n ∈ ns, 0 ≤ n ∧ n < c.length) : LsOk W (pickL c ns) := by
 have hm : ∀ l ∈ pickL c ns, l ∈ c := fun l hl => by
  obtain ⟨n, hn, rfl⟩ := List.mem_map.1 hl
  have := hr n hn
  exact getD_mem (by omega)
 exact ⟨h.w, fun l hl => h.ok l (hm l hl), fun l hl => h.cls l (hm l hl)⟩
structure CsOk (W : FW) (cs : List (List FLit)) : Prop where
 ls : ∀ c ∈ cs, LsOk W c
 len : ∀ c ∈ cs, c.length ≤ 300
 cO : ∀ c ∈ cs, CaseOk W c
abbrev AV.vl (v : Int × Int) : AV := .agg [AV.i v.1, AV.i v.2]
theorem b223 {B : Nat} {f : Fn} {fs cs : List AV} {F : List Ent → Prop} {J Jx : List (Int × Int) → List Ent → Prop} (l : List (Int × Int)) (hg : FindOk B Tryz.prog (.fn f fs cs) AV.vl l F J Jx) (H Hx : List Ent) (hF : F Hx) (hJ : J [] H) :
  BCall B Tryz.prog 223 [.sl 2 (l.map fun v => [AV.i v.1, AV.i v.2]), .fn f fs cs] (H ++ Hx) (FoundAt J Jx l Hx) (fun _ => False) := by
 refine BCall.of (n := 19) Tryz.func223 rfl (by kernel_rfl) rfl rfl (fun I w0 => ?_)
 refine CW.boundM (t := 0) rfl (fun hb0 => ?_)
 refine S2 ?_; refine Oas ?_; refine S5 ?_; refine Omv ?_; refine Oln ?_; refine Omv ?_; refine S3 ?_
 refine lj (fun m st => ∃ (k : Nat) (H1 : List Ent), st = ⟨[(8, .i k), (7, .i l.length), (0, .sl 2 (l.map fun v => [AV.i v.1, AV.i v.2])), (1, .fn f fs cs)], H1 ++ Hx⟩ ∧ m = l.length - k ∧ k ≤ l.length ∧ J (l.take k) H1) (⟨0, H, rfl, rfl, by simp, hJ⟩) ?_
 rintro m _ ⟨k, H1, rfl, rfl, hk, hJ1⟩
 refine S2 ?_; refine Ocm ?_; refine S3 ?_
 refine CW.cond rfl (fun h0 => ?_) (fun h0 => ?_)
 ·
  replace h0 := nm h0
  refine S6 ?_; refine Omv ?_; refine Oas ?_; refine S4 ?_; refine Omv ?_; refine Omv ?_; refine Omv ?_; refine Oix ?_; refine Ola ?_
  refine OL.vcallC rfl rfl rfl rfl rfl rfl rfl rfl (AVleL.refl _) (hg (l.take k) (l.getD k default) H1 Hx (by rw [take_getD (by omega)]; exact List.take_prefix _ _) hF hJ1) ?_
  rintro _ _ ⟨b, H2, rfl, rfl, hb1, hb2⟩
  rw [take_getD (by omega)] at hb1 hb2
  refine S2 ?_
  refine CW.cond rfl (fun h1 => ?_) (fun h1 => ?_)
  ·
   replace h1 := nm h1
   refine S2 ?_; refine Omv ?_; refine Oas ?_; refine S8 ?_
   refine Done.retR (rs := [.tmp 4]) rfl (.tmp rfl (.nil)) (AVleL.refl _) (by repeat (first | exact List.Sublist.refl _ | refine List.Sublist.cons _ ?_)) ?_
   exact ⟨H2, rfl, .inr ⟨l.take k, l.getD k default, l.drop (k + 1), split_getD (by omega), retI (by rw [List.length_take, Nat.min_eq_left (by omega)]), by rw [take_getD (by omega)]; exact hb2 h1⟩⟩
  ·
   replace h1 := nm h1
   refine S4 ?_; refine Oar ?_; refine Omv ?_; refine S1 ?_
   exact ag (⟨k + 1, H2, rfl, rfl, by omega, hb1 h1⟩)
 ·
  replace h0 := nm h0
  refine S7 ?_; refine Oas ?_; refine S3 ?_
  refine Done.retR (rs := [.tmp 4]) rfl (.tmp rfl (.nil)) (AVleL.refl _) (by repeat (first | exact List.Sublist.refl _ | refine List.Sublist.cons _ ?_)) ?_
  exact ⟨H1, rfl, .inl ⟨rfl, by have e : k = l.length := (by omega); rw [e, List.take_length] at hJ1; exact hJ1⟩⟩
def valP (v : Int × Int) (m : Int) : Bool := if v.1 = 1 then decide (v.2 ≥ -1000000000) && decide (v.2 ≤ 1000000000) else if v.1 = 2 then v.2 == 0 else v.1 == 3 && decide (v.2 ≥ 0) && decide (v.2 < m)
def hasP (W : FW) (c s : Int) : Bool := belowP W c (W.owner.getD s.toNat default)
def slotsOf (W : FW) (c : Int) : List Int := (numL W.owner.length).filter (hasP W c)
def thingP (W : FW) (m : Int) (o : Int × List (Int × Int)) : Bool := ownP W o.1 && ((o.2.length : Int) == ((slotsOf W o.1).length : Int)) && o.2.all (valP · m)
def thingsP (W : FW) (objs : List (Int × List (Int × Int))) : Bool := decide ((objs.length : Int) ≤ 40) && objs.all (thingP W objs.length)
def argsP (args : List (Int × Int)) (m : Int) : Bool := decide ((args.length : Int) ≥ 1) && decide ((args.length : Int) ≤ 3) && args.all (valP · m)
def handedP (W : FW) (objs : List (Int × List (Int × Int))) (args : List (Int × Int)) : Bool := thingsP W objs && argsP args objs.length
theorem p172 (v : Int × Int) (m : Int) : PCall Tryz.prog 172 [AV.vl v, .i m] (.b (valP v m)) := by
 intro H
 refine ACall.mk' (n := 33) Tryz.func172 rfl (by kernel_rfl) rfl rfl (fun B I w0 => ?_)
 refine S2 ?_; refine Obx ?_; refine Oas ?_; refine S5 ?_; refine Ofa ?_; refine Old ?_; refine S5 ?_; refine Ocm ?_; refine Oas ?_; refine S2 ?_
 refine CW.cond rfl (fun h0 => ?_) (fun h0 => ?_)
 ·
  replace h0 := nm h0
  refine S2 ?_; refine Ofa ?_; refine Old ?_; refine Ocm ?_; refine Omv ?_; refine Pfa ?_; refine Pld ?_; refine Pcm ?_; refine Opk ?_; refine Oas ?_; refine S5 ?_
  refine r1 4 (H) ?_
  exact ⟨retB (by simp only [valP]; rw [if_pos h0]; simp), rfl⟩
 ·
  replace h0 := nm h0
  refine S2 ?_; refine Ocm ?_; refine Oas ?_; refine S2 ?_
  refine CW.cond rfl (fun h1 => ?_) (fun h1 => ?_)
  ·
   replace h1 := nm h1
   refine S2 ?_; refine Ofa ?_; refine Old ?_; refine Ocm ?_; refine Oas ?_; refine S5 ?_
   refine r1 4 (H) ?_
   exact ⟨retB (by simp only [valP]; rw [if_neg h0, if_pos h1]), rfl⟩
  ·
   replace h1 := nm h1
   refine S2 ?_; refine Ocm ?_; refine Oas ?_; refine S2 ?_
   refine CW.cond rfl (fun h2 => ?_) (fun h2 => ?_)
   ·
    replace h2 := nm h2
    refine S2 ?_; refine Ofa ?_; refine Old ?_; refine Ocm ?_; refine Omv ?_; refine Pfa ?_; refine Pld ?_; refine Pmv ?_; refine Pcm ?_; refine Opk ?_; refine Oas ?_; refine S5 ?_
    refine r1 4 (H) ?_
    exact ⟨retB (by simp only [valP]; rw [if_neg h0, if_neg h1, h2]; simp), rfl⟩
   ·
    replace h2 := nm h2
    refine S5 ?_; refine Oas ?_; refine S3 ?_
    refine r1 4 (H) ?_
    exact ⟨retB (by simp only [valP]; rw [if_neg h0, if_neg h1, beq_eq_false_iff_ne.2 h2]; rfl), rfl⟩
theorem p178 {W : FW} (h : worldP W = true) {c s : Int} (hc : 0 ≤ c ∧ c < 3 + W.parents.length) (hs : 0 ≤ s ∧ s < W.owner.length) : PCall Tryz.prog 178 [Wptr W, .i c, .i s] (.b (hasP W c s)) := by
 intro H
 refine ACall.mk' (n := 22) Tryz.func178 rfl (by kernel_rfl) rfl rfl (fun B I w0 => ?_)
 have hP := world_len h
 have ho := owner_rng h hs
 refine S2 ?_; refine Oas ?_; refine S3 ?_
 refine CW.dp mixed ?_
 refine DP.anyC 0 14 22 rfl (by decide +kernel) rfl rfl (by decide +kernel) ?_
 refine Amv ?_; refine Amv ?_; refine Anc ?_; refine Afa ?_; refine Aia ?_
 refine AD.popC rfl rfl rfl (POp.ld1 rfl rfl rfl (up_drop (c := c.toNat) (by simp) (by rw [ups_len]; omega))) ?_
 refine Amv ?_; refine Anc ?_; refine Afa ?_; refine Afa ?_; refine Ald ?_; refine Amv ?_; refine Aix ?_; refine Ald ?_
 refine AD.nil ?_
 refine DP.tailC 14 (by decide +kernel) rfl ?_
 refine OL.popC rfl rfl rfl (POp.call (.mk' rfl rfl rfl rfl rfl) (p107 _ _ (by omega) (u_get (ups_lt hP) _))) ?_
 refine Oas ?_; refine S3 ?_
 refine r1 6 (H) ?_
 exact ⟨by rfl, rfl⟩
theorem p179 {W : FW} (h : worldP W = true) {c : Int} (hc : 0 ≤ c ∧ c < 3 + W.parents.length) : PCall Tryz.prog 179 [Wptr W, .i c] (AV.ints (slotsOf W c)) := by
 intro H
 refine ACall.mk' (n := 26) Tryz.func179 rfl (by kernel_rfl) rfl rfl (fun B I w0 => ?_)
 have hP := world_lens h
 refine S2 ?_; refine Oas ?_; refine S4 ?_; refine Oas ?_; refine S4 ?_
 refine CW.ownNil 5 3 1 rfl ?_
 refine S1 ?_; refine Omv ?_; refine Onc ?_; refine Ofa ?_; refine Ofa ?_; refine Old ?_; refine Oln ?_; refine Omv ?_; refine S3 ?_
 refine lj (fun m st => ∃ (k : Nat) (v : Value), st = ⟨[(13, .i k), (12, .i W.owner.length), (5, .as (AV.ints ((numL k).filter (hasP W c))) v), (0, Wptr W), (1, .i c)], .own 3 1 v :: H⟩ ∧ m = W.owner.length - k ∧ k ≤ W.owner.length) (⟨0, _, rfl, rfl, by omega⟩) ?_
 rintro m _ ⟨k, v, rfl, rfl, hk⟩
 refine S2 ?_; refine Ocm ?_; refine S3 ?_
 refine CW.cond rfl (fun h0 => ?_) (fun h0 => ?_)
 ·
  replace h0 := nm h0
  have hkl : k < W.owner.length := by omega
  have hfl : ((numL k).filter (hasP W c)).length ≤ 40 := Nat.le_trans (List.length_filter_le _ _) (by rw [num_len]; omega)
  refine S6 ?_; refine Omv ?_; refine Oas ?_; refine S4 ?_; refine Omv ?_; refine Omv ?_; refine Omv ?_
  refine OL.popC rfl rfl rfl (POp.call (.mk' rfl rfl rfl rfl rfl) (p178 h hc (by omega))) ?_
  refine S2 ?_
  refine CW.cond rfl (fun h1 => ?_) (fun h1 => ?_)
  ·
   have e : ((numL (k + 1)).filter (hasP W c)) = ((numL k).filter (hasP W c)) ++ [(k : Int)] := by rw [num_succ, List.filter_append]; simp [h1]
   refine S1 ?_; refine Omv ?_; refine Omv ?_
   refine OL.popC rfl rfl rfl (POp.row rfl rfl (by first | rfl | simp_all [strip]) rfl rfl rfl rfl rfl rfl) ?_
   refine OL.appendC rfl rfl rfl rfl rfl rfl rfl rfl (AVle.refl _) (rfl) (fun v => by repeat (first | exact Upd.head _ _ _ | apply Upd.tail)) (by simp only [partsOf, List.zip, List.zipWith, List.map, List.length_map, List.length_cons, List.length_nil]; omega) (by simp only [partsOf, List.zip, List.zipWith, List.map, List.length_map, List.length_cons, List.length_nil]; omega) (fun v23 => ?_)
   refine Oas ?_; refine S3 ?_
   refine CW.le 5 (y := .as (AV.ints ((numL (k + 1)).filter (hasP W c))) v23) rfl (by rw [e, ints_one]; exact AVle.refl _) ?_
   refine S1 ?_; refine Oar ?_; refine Omv ?_; refine S1 ?_
   exact ag (⟨k + 1, v23, rfl, rfl, by omega⟩)
  ·
   have e : ((numL (k + 1)).filter (hasP W c)) = ((numL k).filter (hasP W c)) := by rw [num_succ, List.filter_append]; simp [h1]
   refine S3 ?_
   rw [← e]
   refine S1 ?_; refine Oar ?_; refine Omv ?_; refine S1 ?_
   exact ag (⟨k + 1, v, rfl, rfl, by omega⟩)
 ·
  replace h0 := nm h0
  obtain rfl : k = W.owner.length := by omega
  refine S7 ?_; refine Omv ?_; refine Oas ?_; refine S3 ?_
  refine Done.retR (rs := [.tmp 4]) (H' := H) rfl (.tmp rfl (.nil)) (.cons (AVle.asL _ _) .nil) (by repeat (first | exact List.Sublist.refl _ | refine List.Sublist.cons _ ?_)) ?_
  exact ⟨by rfl, rfl⟩
theorem has_low {W : FW} (h : worldP W = true) {c s : Int} (hc : 0 ≤ c ∧ c < 3) (hs : 0 ≤ s ∧ s < W.owner.length) : hasP W c s = false := by
 have ho := owner_rng h hs
 show upB W c.toNat (W.owner.getD s.toNat default).toNat = false
 rw [upB_low (by omega), Bool.or_eq_false_iff, beq_eq_false_iff_ne, beq_eq_false_iff_ne]
 omega
theorem p128 {W : FW} (h : worldP W = true) {c s : Int} (hc : 0 ≤ c ∧ c < 3 + W.parents.length) (hs : 0 ≤ s ∧ s < W.owner.length) : PCall Tryz.prog 128 [AV.world W, .i c, .i s] (.b (hasP W c s)) := by
 intro H
 refine ACall.mk' (n := 19) Tryz.func128 rfl (by kernel_rfl) rfl rfl (fun B I w0 => ?_)
 have ho := owner_rng h hs
 refine S2 ?_; refine Obx ?_; refine Oas ?_; refine S3 ?_
 refine CW.dp mixed ?_
 refine DP.one (k := 0) (by decide +kernel) rfl ?_
 refine Omv ?_
 refine OL.nil (Done.dp ?_)
 refine DP.one (k := 1) (by decide +kernel) rfl ?_
 refine Ocm ?_
 refine OL.nil (Done.dp ?_)
 refine DP.one (k := 2) (by decide +kernel) rfl ?_
 refine Omv ?_
 refine OL.nil (Done.dp ?_)
 refine DP.anyC 3 10 19 rfl (by decide +kernel) rfl rfl (by decide +kernel) ?_
 refine AD.guardC rfl rfl rfl rfl rfl (fun hg => (by first | exact POp.ldA rfl rfl rfl rfl | (apply POp.ldAH rfl rfl rfl; (case hm => repeat (first | exact .head _ | refine .tail _ ?_)); (case hy => rfl); (case hn => rfl)))) ?_
 refine AD.guardC rfl rfl rfl rfl rfl (fun hg => POp.move rfl rfl rfl) ?_
 refine AD.guardC rfl rfl rfl rfl rfl (fun hg => (by first | exact POp.fa rfl rfl rfl rfl | exact POp.faP rfl rfl rfl rfl)) ?_
 refine AD.guardC rfl rfl rfl rfl rfl (fun hg => (by first | exact POp.ld1 rfl rfl (gd hg) rfl | (apply POp.ld1H rfl rfl (gd hg); (case hm => repeat (first | exact .head _ | refine .tail _ ?_)); (case hy => rfl)))) ?_
 refine AD.guardC rfl rfl rfl rfl rfl (fun hg => POp.move rfl rfl rfl) ?_
 refine AD.guardC rfl rfl rfl rfl rfl (fun hg => (by first | exact POp.ixM rfl rfl (gd hg) rfl (gd hg) (by omega) | exact POp.ixI rfl rfl (gd hg) rfl (gd hg) (by omega))) ?_
 refine AD.guardC rfl rfl rfl rfl rfl (fun hg => (by first | exact POp.ld1 rfl rfl (gd hg) rfl | (apply POp.ld1H rfl rfl (gd hg); (case hm => repeat (first | exact .head _ | refine .tail _ ?_)); (case hy => rfl)))) ?_
 refine AD.nil ?_
 refine DP.tailC 10 (by decide +kernel) rfl ?_
 refine OL.guardC rfl rfl rfl rfl rfl rfl (fun hg => POp.call (.mk' rfl rfl rfl rfl (by first | rfl | ((repeat (first | exact hg | rfl | refine Bool.and_eq_true_iff.2 ⟨?_, ?_⟩)); done) | simp_all [strip, constAV])) (p52 h (by rw [classP, Bool.and_eq_true, decide_eq_true_eq, decide_eq_true_eq]; omega) (by rw [classP, Bool.and_eq_true, decide_eq_true_eq, decide_eq_true_eq]; omega))) ?_
 refine Opk ?_; refine Oas ?_; refine S3 ?_
 refine r1 6 (H) ?_
 exact ⟨retB (by by_cases h3 : c ≥ 3; simp [h3, hasP]; rw [has_low h (by omega) hs]; simp [h3]), rfl⟩
theorem p119 {W : FW} (h : worldP W = true) {c : Int} (hc : 0 ≤ c ∧ c < 3 + W.parents.length) : PCall Tryz.prog 119 [AV.world W, .i c] (AV.ints (slotsOf W c)) := by
 intro H
 refine ACall.mk' (n := 23) Tryz.func119 rfl (by kernel_rfl) rfl rfl (fun B I w0 => ?_)
 have hP := world_lens h
 refine S2 ?_; refine Obx ?_; refine Oas ?_; refine S4 ?_; refine Oas ?_; refine S4 ?_
 refine CW.ownNil 5 3 1 rfl ?_
 refine S1 ?_; refine Ofa ?_; refine Old ?_; refine Oln ?_; refine Omv ?_; refine S3 ?_
 refine lj (fun m st => ∃ (k : Nat) (v : Value), st = ⟨[(10, .i k), (9, .i W.owner.length), (5, .as (AV.ints ((numL k).filter (hasP W c))) v), (2, .ptr (Wcells W)), (1, .i c)], .own 3 1 v :: H⟩ ∧ m = W.owner.length - k ∧ k ≤ W.owner.length) (⟨0, _, rfl, rfl, by omega⟩) ?_
 rintro m _ ⟨k, v, rfl, rfl, hk⟩
 refine S2 ?_; refine Ocm ?_; refine S3 ?_
 refine CW.cond rfl (fun h0 => ?_) (fun h0 => ?_)
 ·
  replace h0 := nm h0
  have hkl : k < W.owner.length := by omega
  have hfl : ((numL k).filter (hasP W c)).length ≤ 40 := Nat.le_trans (List.length_filter_le _ _) (by rw [num_len]; omega)
  refine S6 ?_; refine Omv ?_; refine Oas ?_; refine S4 ?_; refine Ola ?_; refine Omv ?_; refine Omv ?_
  refine OL.popC rfl rfl rfl (POp.call (.mk' rfl rfl rfl rfl rfl) (p128 h hc (by omega))) ?_
  refine S2 ?_
  refine CW.cond rfl (fun h1 => ?_) (fun h1 => ?_)
  ·
   have e : ((numL (k + 1)).filter (hasP W c)) = ((numL k).filter (hasP W c)) ++ [(k : Int)] := by rw [num_succ, List.filter_append]; simp [h1]
   refine S1 ?_; refine Omv ?_; refine Omv ?_
   refine OL.popC rfl rfl rfl (POp.row rfl rfl (by first | rfl | simp_all [strip]) rfl rfl rfl rfl rfl rfl) ?_
   refine OL.appendC rfl rfl rfl rfl rfl rfl rfl rfl (AVle.refl _) (rfl) (fun v => by repeat (first | exact Upd.head _ _ _ | apply Upd.tail)) (by simp only [partsOf, List.zip, List.zipWith, List.map, List.length_map, List.length_cons, List.length_nil]; omega) (by simp only [partsOf, List.zip, List.zipWith, List.map, List.length_map, List.length_cons, List.length_nil]; omega) (fun v20 => ?_)
   refine Oas ?_; refine S3 ?_
   refine CW.le 5 (y := .as (AV.ints ((numL (k + 1)).filter (hasP W c))) v20) rfl (by rw [e, ints_one]; exact AVle.refl _) ?_
   refine S1 ?_; refine Oar ?_; refine Omv ?_; refine S1 ?_
   exact ag (⟨k + 1, v20, rfl, rfl, by omega⟩)
  ·
   have e : ((numL (k + 1)).filter (hasP W c)) = ((numL k).filter (hasP W c)) := by rw [num_succ, List.filter_append]; simp [h1]
   refine S3 ?_
   rw [← e]
   refine S1 ?_; refine Oar ?_; refine Omv ?_; refine S1 ?_
   exact ag (⟨k + 1, v, rfl, rfl, by omega⟩)
 ·
  replace h0 := nm h0
  obtain rfl : k = W.owner.length := by omega
  refine S7 ?_; refine Omv ?_; refine Oas ?_; refine S3 ?_
  refine Done.retR (rs := [.tmp 4]) (H' := H) rfl (.tmp rfl (.nil)) (.cons (AVle.asL _ _) .nil) (by repeat (first | exact List.Sublist.refl _ | refine List.Sublist.cons _ ?_)) ?_
  exact ⟨by rfl, rfl⟩
theorem own_rng {W : FW} {c : Int} (h : ownP W c = true) : 3 ≤ c ∧ c < 3 + W.parents.length := by
 simpa [ownP] using h
theorem own_rng0 {W : FW} {c : Int} (h : ownP W c = true) : 0 ≤ c ∧ c < 3 + W.parents.length := by
 have := own_rng h; omega
theorem p120 (l : List (Int × Int)) (n : Int) : PCall Tryz.prog 120 [AV.vals l, .i n] (.b (l.all (valP · n))) := by
 intro H
 refine ACall.mk' (n := 18) Tryz.func120 rfl (by kernel_rfl) rfl rfl (fun B I w0 => ?_)
 refine S2 ?_; refine Oas ?_; refine S5 ?_; refine Omv ?_; refine Oln ?_; refine Omv ?_; refine S3 ?_
 refine lj (fun m st => ∃ i : Nat, st = ⟨[(9, .i i), (8, .i l.length), (7, AV.vals l), (4, .b false), (1, .i n)], H⟩ ∧ m = l.length - i ∧ i ≤ l.length ∧ (l.take i).all (valP · n) = true) (⟨0, rfl, rfl, by omega, rfl⟩) ?_
 rintro m _ ⟨i, rfl, rfl, hi, hall⟩
 refine CW.boundM (t := 7) rfl (fun hb => ?_)
 refine S2 ?_; refine Ocm ?_; refine S3 ?_
 refine CW.cond rfl (fun h0 => ?_) (fun h0 => ?_)
 ·
  replace h0 := nm h0
  have hil : i < l.length := by omega
  refine S6 ?_; refine Oix ?_; refine Ola ?_
  refine OL.alC rfl rfl rfl rfl (fun b0 => ?_)
  refine Sto ?_; refine S4 ?_; refine Ola ?_; refine Omv ?_
  refine OL.popC rfl rfl rfl (POp.call (.mk' rfl rfl rfl rfl rfl) (p172 (l.getD i default) n)) ?_
  refine Ont ?_; refine S2 ?_
  refine CW.cond rfl (fun h1 => ?_) (fun h1 => ?_)
  ·
   replace h1 := nm h1
   refine S2 ?_; refine Oas ?_; refine S8 ?_
   refine r1 4 (H) ?_
   exact ⟨retB (by symm; rw [List.all_eq_false]; exact ⟨_, getD_mem hil, by simpa using h1⟩), rfl⟩
  ·
   replace h1 := nm h1
   refine S4 ?_; refine Oar ?_; refine Omv ?_; refine S1 ?_
   exact ag (⟨i + 1, rfl, rfl, by omega, by rw [all_take hil, hall, show valP (l.getD i default) n = true by simpa using h1]; rfl⟩)
 ·
  replace h0 := nm h0
  obtain rfl : i = l.length := by omega
  rw [List.take_length] at hall
  refine S7 ?_; refine Oas ?_; refine S3 ?_
  refine r1 4 (H) ?_
  exact ⟨retB hall.symm, rfl⟩
theorem p64 {W : FW} (h : worldP W = true) (objs : List (Int × List (Int × Int))) : PCall Tryz.prog 64 [AV.world W, AV.things objs] (.b (thingsP W objs)) := by
 intro H
 refine ACall.mk' (n := 41) Tryz.func64 rfl (by kernel_rfl) rfl rfl (fun B I w0 => ?_)
 have hP := world_len h
 refine S2 ?_; refine Obx ?_; refine Oas ?_; refine S5 ?_; refine Omv ?_; refine Oln ?_; refine Ocm ?_; refine S2 ?_
 refine CW.cond rfl (fun h0 => ?_) (fun h0 => ?_)
 ·
  replace h0 := nm h0
  have hgt : ¬ (objs.length : Int) ≤ 40 := by omega
  refine S2 ?_; refine Oas ?_; refine S4 ?_
  refine r1 4 (H) ?_
  exact ⟨retB (by rw [thingsP, decide_eq_false hgt]; rfl), rfl⟩
 ·
  replace h0 := nm h0
  have hle : (objs.length : Int) ≤ 40 := by omega
  rw [thingsP, decide_eq_true hle, Bool.true_and]
  refine S5 ?_; refine Omv ?_; refine Oln ?_; refine Omv ?_; refine S3 ?_
  refine lj (fun m st => ∃ i : Nat, st = ⟨[(12, .i i), (11, .i objs.length), (10, AV.things objs), (4, .b false), (1, AV.things objs), (2, .ptr (Wcells W))], H⟩ ∧ m = objs.length - i ∧ i ≤ objs.length ∧ (objs.take i).all (thingP W objs.length) = true) (⟨0, rfl, rfl, by omega, rfl⟩) ?_
  rintro m _ ⟨i, rfl, rfl, hi, hall⟩
  refine S2 ?_; refine Ocm ?_; refine S3 ?_
  refine CW.cond rfl (fun h1 => ?_) (fun h1 => ?_)
  ·
   replace h1 := nm h1
   have hil : i < objs.length := by omega
   obtain ⟨o, ho⟩ : ∃ o, o = objs.getD i default := ⟨_, rfl⟩
   refine S6 ?_; refine Oix ?_
   rw [← ho]
   refine Ola ?_
   refine OL.alC rfl rfl rfl rfl (fun b0 => ?_)
   refine Sto ?_; refine S3 ?_
   refine CW.freezeP (d := 6) rfl (by repeat (first | exact Del.head _ _ | apply Del.tail)) ?_
   refine CW.dp mixed ?_
   refine DP.anyC 0 3 41 rfl (by decide +kernel) rfl rfl (by decide +kernel) ?_
   refine Ala ?_; refine Afa ?_; refine Ald ?_
   refine AD.nil ?_
   refine DP.one (k := 3) (by decide +kernel) rfl ?_
   refine OL.popC rfl rfl rfl (POp.call (.mk' rfl rfl rfl rfl rfl) (p85 W o.1 hP)) ?_
   refine OL.nil (Done.dp ?_)
   refine DP.one (k := 4) (by decide +kernel) rfl ?_
   refine Ont ?_
   refine OL.nil (Done.dp ?_)
   refine DP.one (k := 5) (by decide +kernel) rfl ?_
   refine Omv ?_
   refine OL.nil (Done.dp ?_)
   refine DP.anyC 6 14 41 rfl (by decide +kernel) rfl rfl (by decide +kernel) ?_
   refine AD.guardC rfl rfl rfl rfl rfl (fun hg => (by first | exact POp.fa rfl rfl rfl rfl | exact POp.faP rfl rfl rfl rfl)) ?_
   refine AD.guardC rfl rfl rfl rfl rfl (fun hg => (by first | exact POp.ld1 rfl rfl (gd hg) rfl | (apply POp.ld1H rfl rfl (gd hg); (case hm => repeat (first | exact .head _ | refine .tail _ ?_)); (case hy => rfl)))) ?_
   refine AD.guardC rfl rfl rfl rfl rfl (fun hg => (by first | exact POp.lenM rfl rfl (gd hg) | exact POp.lenA rfl rfl (gd hg) | exact POp.lenV rfl rfl (gd hg) | exact POp.len' rfl rfl (gd hg))) ?_
   refine AD.guardC rfl rfl rfl rfl rfl (fun hg => (by first | exact POp.ldA rfl rfl rfl rfl | (apply POp.ldAH rfl rfl rfl; (case hm => repeat (first | exact .head _ | refine .tail _ ?_)); (case hy => rfl); (case hn => rfl)))) ?_
   refine AD.guardC rfl rfl rfl rfl rfl (fun hg => (by first | exact POp.fa rfl rfl rfl rfl | exact POp.faP rfl rfl rfl rfl)) ?_
   refine AD.guardC rfl rfl rfl rfl rfl (fun hg => (by first | exact POp.ld1 rfl rfl (gd hg) rfl | (apply POp.ld1H rfl rfl (gd hg); (case hm => repeat (first | exact .head _ | refine .tail _ ?_)); (case hy => rfl)))) ?_
   refine AD.guardC rfl rfl rfl rfl rfl (fun hg => POp.call (.mk' rfl rfl rfl rfl (by first | rfl | ((repeat (first | exact hg | rfl | refine Bool.and_eq_true_iff.2 ⟨?_, ?_⟩)); done) | simp_all [strip, constAV])) (p119 h (own_rng0 (by simpa using hg)))) ?_
   refine AD.guardC rfl rfl rfl rfl rfl (fun hg => (by first | exact POp.lenM rfl rfl (gd hg) | exact POp.lenA rfl rfl (gd hg) | exact POp.lenV rfl rfl (gd hg) | exact POp.len' rfl rfl (gd hg))) ?_
   refine AD.nil ?_
   refine DP.one (k := 14) (by decide +kernel) rfl ?_
   refine Pcm ?_
   refine OL.nil (Done.dp ?_)
   refine DP.one (k := 15) (by decide +kernel) rfl ?_
   refine Opk ?_
   refine OL.nil (Done.dp ?_)
   refine DP.one (k := 16) (by decide +kernel) rfl ?_
   refine Omv ?_
   refine OL.nil (Done.dp ?_)
   refine DP.anyC 17 21 41 rfl (by decide +kernel) rfl rfl (by decide +kernel) ?_
   refine AD.guardC rfl rfl rfl rfl rfl (fun hg => (by first | exact POp.fa rfl rfl rfl rfl | exact POp.faP rfl rfl rfl rfl)) ?_
   refine AD.guardC rfl rfl rfl rfl rfl (fun hg => (by first | exact POp.ld1 rfl rfl (gd hg) rfl | (apply POp.ld1H rfl rfl (gd hg); (case hm => repeat (first | exact .head _ | refine .tail _ ?_)); (case hy => rfl)))) ?_
   refine AD.guardC rfl rfl rfl rfl rfl (fun hg => POp.move rfl rfl rfl) ?_
   refine AD.guardC rfl rfl rfl rfl rfl (fun hg => (by first | exact POp.lenM rfl rfl (gd hg) | exact POp.lenA rfl rfl (gd hg) | exact POp.lenV rfl rfl (gd hg) | exact POp.len' rfl rfl (gd hg))) ?_
   refine AD.nil ?_
   refine DP.tailC 21 (by decide +kernel) rfl ?_
   refine OL.guardC rfl rfl rfl rfl rfl rfl (fun hg => POp.call (.mk' rfl rfl rfl rfl (by first | rfl | ((repeat (first | exact hg | rfl | refine Bool.and_eq_true_iff.2 ⟨?_, ?_⟩)); done) | simp_all [strip, constAV])) (p120 o.2 _)) ?_
   refine Pnt ?_; refine Opk ?_; refine S2 ?_
   refine CW.cond rfl (fun h2 => ?_) (fun h2 => ?_)
   ·
    have hb : thingP W objs.length o = false := by rw [thingP]; cases hx : ownP W o.1 <;> cases hy : ((o.2.length : Int) == ((slotsOf W o.1).length : Int)) <;> simp_all
    refine S2 ?_; refine Oas ?_; refine S8 ?_
    refine r1 4 (H) ?_
    exact ⟨retB (by symm; rw [List.all_eq_false]; exact ⟨_, getD_mem hil, by rw [← ho, hb]; simp⟩), rfl⟩
   ·
    have hb : thingP W objs.length o = true := by rw [thingP]; cases hx : ownP W o.1 <;> cases hy : ((o.2.length : Int) == ((slotsOf W o.1).length : Int)) <;> simp_all
    refine S4 ?_; refine Oar ?_; refine Omv ?_; refine S1 ?_
    exact ag (⟨i + 1, rfl, rfl, by omega, by rw [all_take hil, hall, ← ho, hb]; rfl⟩)
  ·
   replace h1 := nm h1
   obtain rfl : i = objs.length := by omega
   rw [List.take_length] at hall
   refine S7 ?_; refine Oas ?_; refine S3 ?_
   refine r1 4 (H) ?_
   exact ⟨retB hall.symm, rfl⟩
theorem p65 (args : List (Int × Int)) (n : Int) : PCall Tryz.prog 65 [AV.vals args, .i n] (.b (argsP args n)) := by
 intro H
 refine ACall.mk' (n := 18) Tryz.func65 rfl (by kernel_rfl) rfl rfl (fun B I w0 => ?_)
 refine CW.boundM (t := 0) rfl (fun hb => ?_)
 refine S2 ?_; refine Oas ?_; refine S4 ?_; refine Omv ?_; refine Oln ?_; refine Ocm ?_; refine Omv ?_; refine Pmv ?_; refine Pln ?_; refine Pcm ?_; refine Opk ?_; refine Omv ?_
 refine Pmv ?_; refine Pmv ?_
 refine OL.guardC rfl rfl rfl rfl rfl rfl (fun hg => POp.call (.mk' rfl rfl rfl rfl (by first | rfl | ((repeat (first | exact hg | rfl | refine Bool.and_eq_true_iff.2 ⟨?_, ?_⟩)); done) | simp_all [strip, constAV])) (p120 args n)) ?_
 refine Opk ?_; refine Oas ?_; refine S3 ?_
 refine r1 4 (H) ?_
 exact ⟨retB (by rw [argsP]; cases decide ((args.length : Int) ≥ 1) <;> cases decide ((args.length : Int) ≤ 3) <;> rfl), rfl⟩
mutual
def spkN : Fact → Int
 | .mk op arg path cls n kids => spkNs kids (if 2 ≤ op ∧ op ≤ 4 then arg + 1 else 0)
def spkNs : List Fact → Int → Int
 | [], a => a
 | k :: r, a => spkNs r (if spkN k > a then spkN k else a)
end
theorem spkN_eq (f : Fact) : spkN f = spkNs f.kids (if leafP f = true then f.arg + 1 else 0) := by
 cases f; rw [spkN]; exact congrArg _ (ite_congr (propext ⟨fun h => Bool.and_eq_true_iff.2 ⟨decide_eq_true h.1, decide_eq_true h.2⟩, fun h => ⟨of_decide_eq_true (Bool.and_eq_true_iff.1 h).1, of_decide_eq_true (Bool.and_eq_true_iff.1 h).2⟩⟩) (fun _ => rfl) (fun _ => rfl))
theorem leaf_arg {W : FW} {f : Fact} (hw : wfB W f = true) (hl : leafP f = true) : 0 ≤ f.arg ∧ f.arg < 3 := by
 have hf := (wfB_iff.1 hw).1
 simp only [nodeOkB, Bool.and_eq_true] at hf
 have h3 := hf.2
 rw [if_pos hl] at h3
 simp only [Bool.and_eq_true, argP, Bool.not_eq_true', Bool.or_eq_false_iff, decide_eq_false_iff_not] at h3
 omega
abbrev Th := Int × List (Int × Int)
def clsAt (objs : List Th) (v : Int × Int) : Int := (objs.getD v.2.toNat default).1
def stepO (W : FW) (objs : List Th) (v : Int × Int) (s : Int) : Int × Int := (objs.getD v.2.toNat default).2.getD (idxP (slotsOf W (clsAt objs v)) s).toNat default
def okO (W : FW) (objs : List Th) (v : Int × Int) (s : Int) : Bool := (v.1 == 3) && hasP W (clsAt objs v) s
def atP (W : FW) (objs : List Th) : Int × Int → List Int → (Int × Int) × Bool
 | v, [] => (v, true)
 | v, s :: r => if okO W objs v s = true then atP W objs (stepO W objs v s) r else ((0, 0), false)
structure ObjsOk (W : FW) (objs : List Th) : Prop where
 w : worldP W = true
 len : objs.length ≤ 40
 own : ∀ o ∈ objs, ownP W o.1 = true
 slots : ∀ o ∈ objs, o.2.length = (slotsOf W o.1).length
 vals : ∀ o ∈ objs, ∀ v ∈ o.2, valP v objs.length = true
theorem objs_ok {W : FW} (hw : worldP W = true) {objs : List Th} (h : thingsP W objs = true) : ObjsOk W objs := by
 simp only [thingsP, thingP, Bool.and_eq_true, decide_eq_true_eq, List.all_eq_true, beq_iff_eq] at h
 exact ⟨hw, by omega, fun o ho => (h.2 o ho).1.1, fun o ho => by have := (h.2 o ho).1.2; omega, fun o ho v hv => (h.2 o ho).2 v hv⟩
theorem val_obj {v : Int × Int} {n : Nat} (h : valP v n = true) (h3 : v.1 = 3) : 0 ≤ v.2 ∧ v.2 < n := by
 rw [valP, if_neg (by omega), if_neg (by omega)] at h
 simp only [Bool.and_eq_true, decide_eq_true_eq] at h
 exact ⟨h.1.2, h.2⟩
theorem val_kind {v : Int × Int} {n : Int} (h : valP v n = true) : v.1 = 1 ∨ v.1 = 2 ∨ v.1 = 3 := by
 by_cases h1 : v.1 = 1
 ·exact .inl h1
 by_cases h2 : v.1 = 2
 ·exact .inr (.inl h2)
 ·rw [valP, if_neg h1, if_neg h2] at h
  simp only [Bool.and_eq_true, beq_iff_eq] at h
  exact .inr (.inr h.1.1)
theorem idx_at {l : List Int} {s : Int} (h : s ∈ l) : 0 ≤ idxP l s ∧ idxP l s < l.length := by
 rw [idxP]
 cases hi : l.findIdx? (fun x => x == s) with
 | none =>
  rw [List.findIdx?_eq_none_iff] at hi
  have := hi s h; simp at this
 | some i =>
  rw [List.findIdx?_eq_some_iff_getElem] at hi
  obtain ⟨h1, _⟩ := hi
  simp only []; omega
theorem slots_mem {W : FW} {c s : Int} : s ∈ slotsOf W c ↔ (0 ≤ s ∧ s < W.owner.length) ∧ hasP W c s = true := by
 rw [slotsOf, List.mem_filter]
 refine and_congr_left fun _ => ?_
 rw [numL, List.mem_map]
 constructor
 ·rintro ⟨a, ha, rfl⟩
  have := List.mem_range.1 ha; omega
 ·intro h
  exact ⟨s.toNat, List.mem_range.2 (by omega), by omega⟩
section
variable {W : FW} {objs : List Th} (h : ObjsOk W objs) {v : Int × Int} (hv : valP v objs.length = true) {s : Int} (hs : 0 ≤ s ∧ s < W.owner.length)
include h hv
theorem obj_mem (h3 : v.1 = 3) : objs.getD v.2.toNat default ∈ objs := by
 have _ := h
 have := val_obj hv h3
 exact getD_mem (by omega)
theorem cls_rng (h3 : v.1 = 3) : 3 ≤ clsAt objs v ∧ clsAt objs v < 3 + W.parents.length := own_rng (h.own _ (obj_mem h hv h3))
include hs
theorem step_idx (hk : okO W objs v s = true) : 0 ≤ idxP (slotsOf W (clsAt objs v)) s ∧ idxP (slotsOf W (clsAt objs v)) s < (objs.getD v.2.toNat default).2.length := by
 rw [okO, Bool.and_eq_true, beq_iff_eq] at hk
 have h1 := h.slots _ (obj_mem h hv hk.1)
 have := idx_at (slots_mem.2 ⟨hs, hk.2⟩)
 rw [clsAt] at this ⊢
 rw [h1]; exact this
theorem step_val (hk : okO W objs v s = true) : valP (stepO W objs v s) objs.length = true := by
 have h1 := step_idx h hv hs hk
 rw [okO, Bool.and_eq_true, beq_iff_eq] at hk
 exact h.vals _ (obj_mem h hv hk.1) _ (getD_mem (by omega))
end
theorem at_val {W : FW} {objs : List Th} (h : ObjsOk W objs) : ∀ (p : List Int) (v : Int × Int), valP v objs.length = true → (∀ s ∈ p, 0 ≤ s ∧ s < W.owner.length) → (atP W objs v p).2 = true → valP (atP W objs v p).1 objs.length = true
 | [], v, hv, _, _ => hv
 | s :: r, v, hv, hp, ht => by
  rw [atP] at ht ⊢
  by_cases hk : okO W objs v s = true
  ·rw [if_pos hk] at ht ⊢
   exact at_val h r _ (step_val h hv (hp s (.head _)) hk) (fun x hx => hp x (.tail _ hx)) ht
  ·rw [if_neg hk] at ht; cases ht
theorem p73 {W : FW} {objs : List Th} (h : ObjsOk W objs) {v : Int × Int} (hv : valP v objs.length = true) {p : List Int} (hp : ∀ s ∈ p, 0 ≤ s ∧ s < W.owner.length) : PCall Tryz.prog 73 [AV.world W, AV.things objs, AV.vl v, AV.ints p] (.tup [AV.vl (atP W objs v p).1, .b (atP W objs v p).2]) := by
 intro H
 refine ACall.mk' (n := 67) Tryz.func73 rfl (by kernel_rfl) rfl rfl (fun B I w0 => ?_)
 refine S2 ?_; refine Obx ?_
 refine OL.boxC rfl rfl rfl rfl rfl rfl rfl (fun vb => ?_)
 refine OL.alC rfl rfl rfl rfl (fun rb => ?_)
 refine Oas ?_; refine S5 ?_; refine Omv ?_; refine Oln ?_; refine Omv ?_; refine S3 ?_
 refine lj (fun m st => ∃ (j : Nat) (cur : Int × Int), st = ⟨[(17, .i j), (16, .i p.length), (15, AV.ints p), (9, .b false), (8, .p rb 0), (6, .p vb 0), (4, .ptr (Wcells W)), (1, AV.things objs)], .blk rb 97 [.i 0, .i 0] :: .blk vb 97 [AV.i cur.1, AV.i cur.2] :: H⟩ ∧ m = p.length - j ∧ j ≤ p.length ∧ valP cur objs.length = true ∧ atP W objs cur (p.drop j) = atP W objs v p) (⟨0, v, rfl, rfl, by omega, hv, rfl⟩) ?_
 rintro m _ ⟨j, cur, rfl, rfl, hj, hc, hat⟩
 refine CW.boundM (t := 15) rfl (fun hb => ?_)
 refine S2 ?_; refine Ocm ?_; refine S3 ?_
 refine CW.cond rfl (fun h0 => ?_) (fun h0 => ?_)
 ·
  replace h0 := nm h0
  have hjl : j < p.length := by omega
  have hsr := hp _ (getD_mem hjl)
  rw [List.drop_eq_getElem_cons hjl, ← getD_lt hjl, atP] at hat
  refine S6 ?_; refine Oix ?_; refine Old ?_; refine Oas ?_; refine S4 ?_
  refine CW.dp mixed ?_
  refine DP.one (k := 0) (by decide +kernel) rfl ?_
  refine Ofa ?_
  refine OL.nil (Done.dp ?_)
  refine DP.one (k := 1) (by decide +kernel) rfl ?_
  refine Old ?_
  refine OL.nil (Done.dp ?_)
  refine DP.one (k := 2) (by decide +kernel) rfl ?_
  refine Ocm ?_
  refine OL.nil (Done.dp ?_)
  refine DP.one (k := 3) (by decide +kernel) rfl ?_
  refine Omv ?_
  refine OL.nil (Done.dp ?_)
  refine DP.anyC 4 12 67 rfl (by decide +kernel) rfl rfl (by decide +kernel) ?_
  refine AD.guardC rfl rfl rfl rfl rfl (fun hg => (by first | exact POp.ldA rfl rfl rfl rfl | (apply POp.ldAH rfl rfl rfl; (case hm => repeat (first | exact .head _ | refine .tail _ ?_)); (case hy => rfl); (case hn => rfl)))) ?_
  refine AD.guardC rfl rfl rfl rfl rfl (fun hg => POp.move rfl rfl rfl) ?_
  refine AD.guardC rfl rfl rfl rfl rfl (fun hg => (by first | exact POp.fa rfl rfl rfl rfl | exact POp.faP rfl rfl rfl rfl)) ?_
  refine AD.guardC rfl rfl rfl rfl rfl (fun hg => (by first | exact POp.ld1 rfl rfl (gd hg) rfl | (apply POp.ld1H rfl rfl (gd hg); (case hm => repeat (first | exact .head _ | refine .tail _ ?_)); (case hy => rfl)))) ?_
  refine AD.guardC rfl rfl rfl rfl rfl (fun hg => (by first | exact POp.ixM rfl rfl (gd hg) rfl (gd hg) (by have hk3 : cur.1 = 3 := (by simpa using hg); have := val_obj hc hk3; omega) | exact POp.ixI rfl rfl (gd hg) rfl (gd hg) (by have hk3 : cur.1 = 3 := (by simpa using hg); have := val_obj hc hk3; omega))) ?_
  refine AD.guardC rfl rfl rfl rfl rfl (fun hg => (by first | exact POp.fa rfl rfl (gd hg) rfl | exact POp.faP rfl rfl (gd hg) rfl)) ?_
  refine AD.guardC rfl rfl rfl rfl rfl (fun hg => (by first | exact POp.ld1 rfl rfl (gd hg) rfl | (apply POp.ld1H rfl rfl (gd hg); (case hm => repeat (first | exact .head _ | refine .tail _ ?_)); (case hy => rfl)))) ?_
  refine AD.guardC rfl rfl rfl rfl rfl (fun hg => POp.move rfl rfl rfl) ?_
  refine AD.nil ?_
  refine DP.tailC 12 (by decide +kernel) rfl ?_
  refine OL.guardC rfl rfl rfl rfl rfl rfl (fun hg => POp.call (.mk' rfl rfl rfl rfl (by first | rfl | ((repeat (first | exact hg | rfl | refine Bool.and_eq_true_iff.2 ⟨?_, ?_⟩)); done) | simp_all [strip, constAV])) (p128 (W := W) (c := (clsAt objs cur)) h.w (by have hk3 : cur.1 = 3 := (by simpa using hg); have := cls_rng h hc hk3; omega) hsr)) ?_
  refine Pnt ?_; refine Opk ?_; refine S2 ?_
  refine CW.cond rfl (fun h1 => ?_) (fun h1 => ?_)
  ·
   have hno : okO W objs cur (p.getD j default) = false := by rw [okO]; by_cases hk3 : cur.1 = 3 <;> simp_all [clsAt]
   rw [if_neg (by rw [hno]; simp)] at hat
   refine S2 ?_; refine Obd ?_; refine Sto ?_; refine Oas ?_; refine S9 ?_
   refine Done.retR (rs := [.cell 8 97, .tmp 9]) (H' := H) rfl ((by first | exact .cellA inferInstance rfl (by repeat (first | exact .head _ | refine .tail _ ?_)) rfl rfl (.tmp rfl (.nil)) | exact .ptrA inferInstance rfl rfl (.tmp rfl (.nil)))) (AVleL.refl _) (by repeat (first | exact List.Sublist.refl _ | refine List.Sublist.cons _ ?_)) ?_
   exact ⟨by rw [← hat]; rfl, rfl⟩
  ·
   have hok : okO W objs cur (p.getD j default) = true := by rw [okO]; by_cases hk3 : cur.1 = 3 <;> simp_all [clsAt]
   rw [if_pos hok] at hat
   have hk3 : cur.1 = 3 := by rw [okO, Bool.and_eq_true, beq_iff_eq] at hok; exact hok.1
   have hvr := val_obj hc hk3
   have hcr := cls_rng h hc hk3
   have hix := step_idx h hc hsr hok
   have hsm : p.getD j default ∈ (slotsOf W (clsAt objs cur)) := by rw [okO, Bool.and_eq_true] at hok; exact slots_mem.2 ⟨hsr, hok.2⟩
   have hol : (slotsOf W (clsAt objs cur)).length ≤ 40 := Nat.le_trans (List.length_filter_le _ _) (by rw [num_len]; exact (world_lens h.w).2)
   refine S3 ?_
   refine CW.dp mixed ?_
   refine DP.anyC 0 7 67 rfl (by decide +kernel) rfl rfl (by decide +kernel) ?_
   refine Ala ?_; refine Amv ?_; refine Afa ?_; refine Ald ?_; refine Aix ?_; refine Afa ?_; refine Ald ?_
   refine AD.nil ?_
   refine DP.tailC 7 (by decide +kernel) rfl ?_
   refine OL.popC rfl rfl rfl (POp.call (.mk' rfl rfl rfl rfl rfl) (p119 (c := (clsAt objs cur)) h.w (by omega))) ?_
   refine Oas ?_; refine S4 ?_; refine Omv ?_; refine Oln ?_; refine Omv ?_; refine S3 ?_
   refine lj (fun m st => ∃ k : Nat, st = ⟨[(47, .i k), (46, .i (slotsOf W (clsAt objs cur)).length), (45, AV.ints (slotsOf W (clsAt objs cur))), (11, .i (p.getD j default)), (17, .i j), (16, .i p.length), (15, AV.ints p), (9, .b false), (8, .p rb 0), (6, .p vb 0), (4, .ptr (Wcells W)), (1, AV.things objs)], .blk rb 97 [.i 0, .i 0] :: .blk vb 97 [AV.i cur.1, AV.i cur.2] :: H⟩ ∧ m = (slotsOf W (clsAt objs cur)).length - k ∧ k ≤ (slotsOf W (clsAt objs cur)).length ∧ ∀ x ∈ (slotsOf W (clsAt objs cur)).take k, x ≠ p.getD j default) (⟨0, rfl, rfl, by omega, by simp⟩) ?_
   rintro m _ ⟨k, rfl, rfl, hk, hne⟩
   refine S2 ?_; refine Ocm ?_; refine S3 ?_
   refine CW.cond rfl (fun h2 => ?_) (fun h2 => ?_)
   ·
    replace h2 := nm h2
    have hkl : k < (slotsOf W (clsAt objs cur)).length := by omega
    refine S6 ?_; refine Omv ?_; refine Oix ?_; refine Old ?_; refine Oas ?_; refine Oas ?_; refine S4 ?_; refine Omv ?_; refine Omv ?_; refine Ocm ?_; refine S2 ?_
    refine CW.cond rfl (fun h3 => ?_) (fun h3 => ?_)
    ·
     replace h3 := nm h3
     have hidx := idxP_at hkl hne h3.symm
     refine S2 ?_; refine Omv ?_; refine Ofa ?_; refine Old ?_; refine Oix ?_; refine Ofa ?_; refine Old ?_; refine Omv ?_
     refine OL.popC rfl rfl rfl ((by first | exact POp.ixM rfl rfl rfl rfl rfl (by rw [hidx]; exact hix) | exact POp.ixI rfl rfl rfl rfl rfl (by rw [hidx]; exact hix))) ?_
     refine Ola ?_; refine Sto ?_; refine S9 ?_
     rw [show ((objs.getD cur.2.toNat default).2.getD ((k : Int)).toNat default) = stepO W objs cur (p.getD j default) by rw [stepO, hidx]]
     refine S1 ?_; refine Oar ?_; refine Omv ?_; refine S1 ?_
     exact ag (⟨j + 1, stepO W objs cur (p.getD j default), rfl, rfl, by omega, step_val h hc hsr hok, hat⟩)
    ·
     replace h3 := nm h3
     have hne2 := ne_step hkl hne (Ne.symm h3)
     refine S4 ?_; refine Oar ?_; refine Omv ?_; refine S1 ?_
     exact ag (⟨k + 1, rfl, rfl, by omega, hne2⟩)
   ·
    exfalso
    simp only [decide_eq_false_iff_not] at h2
    obtain rfl : k = (slotsOf W (clsAt objs cur)).length := by omega
    rw [List.take_length] at hne
    exact hne _ hsm rfl
 ·
  replace h0 := nm h0
  obtain rfl : j = p.length := by omega
  rw [List.drop_length, atP] at hat
  refine S7 ?_; refine Ola ?_; refine Sto ?_; refine Oas ?_; refine S3 ?_
  refine Done.retR (rs := [.cell 8 97, .tmp 9]) (H' := H) rfl ((by first | exact .cellA inferInstance rfl (by repeat (first | exact .head _ | refine .tail _ ?_)) rfl rfl (.tmp rfl (.nil)) | exact .ptrA inferInstance rfl rfl (.tmp rfl (.nil)))) (AVleL.refl _) (by repeat (first | exact List.Sublist.refl _ | refine List.Sublist.cons _ ?_)) ?_
  exact ⟨by rw [← hat]; rfl, rfl⟩
def toVal (W : FW) (objs : List Th) (v : Int × Int) : Val := if v.1 = 1 then .int v.2 else if v.1 = 2 then .non else .obj fun c => upB W (clsAt objs v).toNat c
def VO (W : FW) (objs : List Th) (args : List (Int × Int)) : VM := fun a p =>
 if 0 ≤ a ∧ a < args.length then (if oldB W p = true then (if (atP W objs (args.getD a.toNat default) p).2 = true then some (toVal W objs (atP W objs (args.getD a.toNat default) p).1) else none) else none)
 else if 0 ≤ a ∧ a < 3 ∧ p = [] then some .non else none
theorem vo_leaf {W : FW} {objs : List Th} {args : List (Int × Int)} {f : Fact} (hf : nodeOkB W f = true) (hl : leafP f = true) (ha : f.arg < args.length) :
  VO W objs args f.arg f.path = if (atP W objs (args.getD f.arg.toNat default) f.path).2 = true then some (toVal W objs (atP W objs (args.getD f.arg.toNat default) f.path).1) else none := by
 have h0 : 0 ≤ f.arg := by
  simp only [nodeOkB, Bool.and_eq_true] at hf
  have h3 := hf.2
  rw [if_pos hl] at h3
  simp only [Bool.and_eq_true, argP, Bool.not_eq_true', Bool.or_eq_false_iff, decide_eq_false_iff_not] at h3
  omega
 rw [VO, if_pos ⟨h0, ha⟩, if_pos (leaf_old hf hl)]
theorem spkNs_le : ∀ (l : List Fact) (a : Int), a ≤ spkNs l a ∧ ∀ k ∈ l, spkN k ≤ spkNs l a
 | [], a => by rw [spkNs]; exact ⟨Int.le_refl _, fun k hk => by cases hk⟩
 | x :: r, a => by
  rw [spkNs]
  obtain ⟨h1, h2⟩ := spkNs_le r (if spkN x > a then spkN x else a)
  have hle : a ≤ if spkN x > a then spkN x else a := by split <;> omega
  have hlx : spkN x ≤ if spkN x > a then spkN x else a := by split <;> omega
  refine ⟨Int.le_trans hle h1, fun k hk => ?_⟩
  rcases List.mem_cons.1 hk with rfl | hk
  ·exact Int.le_trans hlx h1
  ·exact h2 k hk
theorem spk_kid {f k : Fact} (hk : k ∈ f.kids) : spkN k ≤ spkN f := by rw [spkN_eq f]; exact (spkNs_le _ _).2 k hk
theorem spk_leaf {f : Fact} (hl : leafP f = true) : f.arg + 1 ≤ spkN f := by
 have := (spkNs_le f.kids (if leafP f = true then f.arg + 1 else 0)).1
 rw [← spkN_eq, if_pos hl] at this; exact this
structure HOk (W : FW) (objs : List Th) (args : List (Int × Int)) : Prop where
 o : ObjsOk W objs
 a : ∀ v ∈ args, valP v objs.length = true
 n : 1 ≤ args.length ∧ args.length ≤ 3
theorem handed_ok {W : FW} (hw : worldP W = true) {objs : List Th} {args : List (Int × Int)} (h : handedP W objs args = true) : HOk W objs args := by
 simp only [handedP, argsP, Bool.and_eq_true, decide_eq_true_eq, List.all_eq_true] at h
 exact ⟨objs_ok hw h.1, h.2.2, by omega⟩
theorem leaf_cls {W : FW} {f : Fact} (hf : nodeOkB W f = true) (hl : leafP f = true) (h2 : f.op = 2) : classP W f.cls = true := by
 simp only [nodeOkB, Bool.and_eq_true] at hf
 have h3 := hf.2
 rw [if_pos hl, Bool.and_eq_true, leafOkP, if_pos h2, Bool.and_eq_true] at h3
 exact h3.2.2
theorem leaf_of {W : FW} {f : Fact} (hf : nodeOkB W f = true) (h1 : ¬ f.op = 1) (h5 : ¬ f.op = 5) (h6 : ¬ f.op = 6) (h7 : ¬ f.op = 7) : leafP f = true := by
 simp only [nodeOkB, Bool.and_eq_true, decide_eq_true_eq] at hf
 simp only [leafP, Bool.and_eq_true, decide_eq_true_eq]; omega
theorem kids2_of {W : FW} {f : Fact} (hf : nodeOkB W f = true) (h : f.op = 6 ∨ f.op = 7) : f.kids.length = 2 := by
 simp only [nodeOkB, Bool.and_eq_true, decide_eq_true_eq, beq_iff_eq] at hf
 have := hf.1.2
 rw [kidsP, if_neg (by omega), if_pos h] at this; omega
theorem kids1_of {W : FW} {f : Fact} (hf : nodeOkB W f = true) (h : f.op = 5) : f.kids.length = 1 := by
 simp only [nodeOkB, Bool.and_eq_true, decide_eq_true_eq, beq_iff_eq] at hf
 have := hf.1.2
 rw [kidsP, if_pos h] at this; omega
def leafH (W : FW) (objs : List Th) (f : Fact) (r : (Int × Int) × Bool) : Bool :=
 if f.op = 2 then r.2 && belowP W (if r.1.1 = 1 then 1 else if r.1.1 = 2 then 2 else clsAt objs r.1) f.cls
 else if f.op = 3 then r.2 && (r.1.1 == 1) && decide (r.1.2 < f.n) else r.2 && (r.1.1 == 1) && (r.1.2 == f.n)
theorem ev_leafH {W : FW} {objs : List Th} {args : List (Int × Int)} {f : Fact} (hw : worldP W = true) (hf : nodeOkB W f = true) (hl : leafP f = true) (ha : f.arg < args.length) :
  ev (VO W objs args) f = leafH W objs f (atP W objs (args.getD f.arg.toNat default) f.path) := by
 rw [ev_leaf hl, evL, vo_leaf hf hl ha]
 generalize atP W objs (args.getD f.arg.toNat default) f.path = r
 obtain ⟨v, b⟩ := r
 cases b with
 | false => unfold leafH; simp
 | true =>
  simp only [if_true]
  unfold leafH
  by_cases h2 : f.op = 2
  ·rw [if_pos h2, valL_is h2]
   simp only [Bool.true_and]
   unfold toVal
   by_cases h1 : v.1 = 1
   ·rw [if_pos h1, if_pos h1]
    show _ = upB W 1 _
    rw [upB_low (by omega)]; rfl
   ·rw [if_neg h1, if_neg h1]
    by_cases h3 : v.1 = 2
    ·rw [if_pos h3, if_pos h3]
     show _ = upB W 2 _
     rw [upB_low (by omega)]; rfl
    ·rw [if_neg h3, if_neg h3]; rfl
  ·rw [if_neg h2, valL_no h2]
   unfold toVal
   by_cases h1 : v.1 = 1
   ·rw [if_pos h1]
    simp only [numV, h1]
    by_cases h3 : f.op = 3
    ·rw [if_pos h3, if_pos h3]; simp
    ·rw [if_neg h3, if_neg h3]; simp
   ·rw [if_neg h1]
    have e : (v.1 == 1) = false := by simpa using h1
    simp only [e]
    by_cases h3 : v.1 = 2
    ·rw [if_pos h3]; simp
    ·rw [if_neg h3]; simp
theorem p121 {W : FW} {objs : List Th} (h : ObjsOk W objs) {v : Int × Int} (hv : valP v objs.length = true) : PCall Tryz.prog 121 [AV.things objs, AV.vl v] (.i (if v.1 = 1 then 1 else if v.1 = 2 then 2 else clsAt objs v)) := by
 intro H
 refine ACall.mk' (n := 17) Tryz.func121 rfl (by kernel_rfl) rfl rfl (fun B I w0 => ?_)
 refine S2 ?_; refine Obx ?_; refine Oas ?_; refine S5 ?_; refine Ofa ?_; refine Old ?_; refine S5 ?_; refine Ocm ?_; refine Oas ?_; refine S2 ?_
 refine CW.cond rfl (fun h0 => ?_) (fun h0 => ?_)
 ·
  replace h0 := nm h0
  refine S2 ?_; refine Oas ?_; refine S5 ?_
  refine r1 4 (H) ?_
  exact ⟨retI (by rw [if_pos h0]), rfl⟩
 ·
  replace h0 := nm h0
  refine S2 ?_; refine Ocm ?_; refine Oas ?_; refine S2 ?_
  refine CW.cond rfl (fun h1 => ?_) (fun h1 => ?_)
  ·
   replace h1 := nm h1
   refine S2 ?_; refine Oas ?_; refine S5 ?_
   refine r1 4 (H) ?_
   exact ⟨retI (by rw [if_neg h0, if_pos h1]), rfl⟩
  ·
   replace h1 := nm h1
   have hr := val_obj hv (by have := val_kind hv; omega)
   refine S5 ?_; refine Omv ?_; refine Ofa ?_; refine Old ?_; refine Oix ?_; refine Ofa ?_; refine Old ?_; refine Oas ?_; refine S3 ?_
   refine r1 4 (H) ?_
   exact ⟨retI (by rw [if_neg h0, if_neg h1]; rfl), rfl⟩
theorem p66_step {W : FW} {objs : List Th} {args : List (Int × Int)} (h : HOk W objs args) (f : Fact) (hw : wfB W f = true) (hs : spkN f ≤ args.length) (ih : ∀ k ∈ f.kids, PCall Tryz.prog 66 [AV.world W, AV.fact k, AV.things objs, AV.vals args] (.b (ev (VO W objs args) k))) : PCall Tryz.prog 66 [AV.world W, AV.fact f, AV.things objs, AV.vals args] (.b (ev (VO W objs args) f)) := by
 intro H
 refine ACall.mk' (n := 121) Tryz.func66 rfl (by kernel_rfl) rfl rfl (fun B I w0 => ?_)
 have hf := (wfB_iff.1 hw).1
 refine S2 ?_; refine Obx ?_; refine Obx ?_; refine Oas ?_; refine S5 ?_; refine Ofa ?_; refine Old ?_; refine S5 ?_; refine Ocm ?_; refine Oas ?_; refine S2 ?_
 refine CW.cond rfl (fun h0 => ?_) (fun h0 => ?_)
 ·
  replace h0 := nm h0
  refine S2 ?_; refine Oas ?_; refine S5 ?_
  refine r1 8 (H) ?_
  exact ⟨retB (by rw [ev_true h0]), rfl⟩
 ·
  replace h0 := nm h0
  refine S2 ?_; refine Ocm ?_; refine Oas ?_; refine S2 ?_
  refine CW.cond rfl (fun h1 => ?_) (fun h1 => ?_)
  ·
   replace h1 := nm h1
   have hk := kids1_of hf h1
   refine S1 ?_
   refine CW.dp mixed ?_
   refine DP.anyC 0 7 121 rfl (by decide +kernel) rfl rfl (by decide +kernel) ?_
   refine Ala ?_; refine Afa ?_; refine Ald ?_
   refine AD.popC rfl rfl rfl ((by first | exact POp.ixM rfl rfl rfl rfl rfl (by simp; omega) | exact POp.ixI rfl rfl rfl rfl rfl (by simp; omega))) ?_
   refine Ala ?_; refine Amv ?_; refine Amv ?_
   refine AD.nil ?_
   refine DP.tailC 7 (by decide +kernel) rfl ?_
   refine OL.popC rfl rfl rfl (POp.call (.mk' rfl rfl rfl rfl rfl) (ih (f.kids.getD 0 default) (getD_mem (by omega)))) ?_
   refine Ont ?_; refine Oas ?_; refine S5 ?_
   refine r1 8 (H) ?_
   exact ⟨retB (by rw [ev_not h1 (by omega)]), rfl⟩
  ·
   replace h1 := nm h1
   refine S2 ?_; refine Ocm ?_; refine Oas ?_; refine S2 ?_
   refine CW.cond rfl (fun h2 => ?_) (fun h2 => ?_)
   ·
    replace h2 := nm h2
    have hk := kids2_of hf (.inl h2)
    refine S1 ?_
    refine CW.dp mixed ?_
    refine DP.anyC 0 7 121 rfl (by decide +kernel) rfl rfl (by decide +kernel) ?_
    refine Ala ?_; refine Afa ?_; refine Ald ?_
    refine AD.popC rfl rfl rfl ((by first | exact POp.ixM rfl rfl rfl rfl rfl (by simp; omega) | exact POp.ixI rfl rfl rfl rfl rfl (by simp; omega))) ?_
    refine Ala ?_; refine Amv ?_; refine Amv ?_
    refine AD.nil ?_
    refine DP.one (k := 7) (by decide +kernel) rfl ?_
    refine OL.popC rfl rfl rfl (POp.call (.mk' rfl rfl rfl rfl rfl) (ih (f.kids.getD 0 default) (getD_mem (by omega)))) ?_
    refine OL.nil (Done.dp ?_)
    refine DP.one (k := 8) (by decide +kernel) rfl ?_
    refine Omv ?_
    refine OL.nil (Done.dp ?_)
    refine DP.anyC 9 16 121 rfl (by decide +kernel) rfl rfl (by decide +kernel) ?_
    refine AD.guardC rfl rfl rfl rfl rfl (fun hg => (by first | exact POp.ldA rfl rfl rfl rfl | (apply POp.ldAH rfl rfl rfl; (case hm => repeat (first | exact .head _ | refine .tail _ ?_)); (case hy => rfl); (case hn => rfl)))) ?_
    refine AD.guardC rfl rfl rfl rfl rfl (fun hg => (by first | exact POp.fa rfl rfl rfl rfl | exact POp.faP rfl rfl rfl rfl)) ?_
    refine AD.guardC rfl rfl rfl rfl rfl (fun hg => (by first | exact POp.ld1 rfl rfl (gd hg) rfl | (apply POp.ld1H rfl rfl (gd hg); (case hm => repeat (first | exact .head _ | refine .tail _ ?_)); (case hy => rfl)))) ?_
    refine AD.guardC rfl rfl rfl rfl rfl (fun hg => (by first | exact POp.ixM rfl rfl (gd hg) rfl rfl (by simp; omega) | exact POp.ixI rfl rfl (gd hg) rfl rfl (by simp; omega))) ?_
    refine AD.guardC rfl rfl rfl rfl rfl (fun hg => (by first | exact POp.ldA rfl rfl (gd hg) rfl | (apply POp.ldAH rfl rfl (gd hg); (case hm => repeat (first | exact .head _ | refine .tail _ ?_)); (case hy => rfl); (case hn => rfl)))) ?_
    refine AD.guardC rfl rfl rfl rfl rfl (fun hg => POp.move rfl rfl rfl) ?_
    refine AD.guardC rfl rfl rfl rfl rfl (fun hg => POp.move rfl rfl rfl) ?_
    refine AD.nil ?_
    refine DP.tailC 16 (by decide +kernel) rfl ?_
    refine OL.guardC rfl rfl rfl rfl rfl rfl (fun hg => POp.call (.mk' rfl rfl rfl rfl (by first | rfl | ((repeat (first | exact hg | rfl | refine Bool.and_eq_true_iff.2 ⟨?_, ?_⟩)); done) | simp_all [strip, constAV])) (ih (f.kids.getD 1 default) (getD_mem (by omega)))) ?_
    refine Opk ?_; refine Oas ?_; refine S5 ?_
    refine r1 8 (H) ?_
    exact ⟨retB (by rw [ev_and h2 (by omega)]; simp), rfl⟩
   ·
    replace h2 := nm h2
    refine S2 ?_; refine Ocm ?_; refine Oas ?_; refine S2 ?_
    refine CW.cond rfl (fun h3 => ?_) (fun h3 => ?_)
    ·
     replace h3 := nm h3
     have hk := kids2_of hf (.inr h3)
     refine S1 ?_
     refine CW.dp mixed ?_
     refine DP.anyC 0 7 121 rfl (by decide +kernel) rfl rfl (by decide +kernel) ?_
     refine Ala ?_; refine Afa ?_; refine Ald ?_
     refine AD.popC rfl rfl rfl ((by first | exact POp.ixM rfl rfl rfl rfl rfl (by simp; omega) | exact POp.ixI rfl rfl rfl rfl rfl (by simp; omega))) ?_
     refine Ala ?_; refine Amv ?_; refine Amv ?_
     refine AD.nil ?_
     refine DP.one (k := 7) (by decide +kernel) rfl ?_
     refine OL.popC rfl rfl rfl (POp.call (.mk' rfl rfl rfl rfl rfl) (ih (f.kids.getD 0 default) (getD_mem (by omega)))) ?_
     refine OL.nil (Done.dp ?_)
     refine DP.one (k := 8) (by decide +kernel) rfl ?_
     refine Omv ?_
     refine OL.nil (Done.dp ?_)
     refine DP.anyC 9 16 121 rfl (by decide +kernel) rfl rfl (by decide +kernel) ?_
     refine AD.guardC rfl rfl rfl rfl rfl (fun hg => (by first | exact POp.ldA rfl rfl rfl rfl | (apply POp.ldAH rfl rfl rfl; (case hm => repeat (first | exact .head _ | refine .tail _ ?_)); (case hy => rfl); (case hn => rfl)))) ?_
     refine AD.guardC rfl rfl rfl rfl rfl (fun hg => (by first | exact POp.fa rfl rfl rfl rfl | exact POp.faP rfl rfl rfl rfl)) ?_
     refine AD.guardC rfl rfl rfl rfl rfl (fun hg => (by first | exact POp.ld1 rfl rfl (gd hg) rfl | (apply POp.ld1H rfl rfl (gd hg); (case hm => repeat (first | exact .head _ | refine .tail _ ?_)); (case hy => rfl)))) ?_
     refine AD.guardC rfl rfl rfl rfl rfl (fun hg => (by first | exact POp.ixM rfl rfl (gd hg) rfl rfl (by simp; omega) | exact POp.ixI rfl rfl (gd hg) rfl rfl (by simp; omega))) ?_
     refine AD.guardC rfl rfl rfl rfl rfl (fun hg => (by first | exact POp.ldA rfl rfl (gd hg) rfl | (apply POp.ldAH rfl rfl (gd hg); (case hm => repeat (first | exact .head _ | refine .tail _ ?_)); (case hy => rfl); (case hn => rfl)))) ?_
     refine AD.guardC rfl rfl rfl rfl rfl (fun hg => POp.move rfl rfl rfl) ?_
     refine AD.guardC rfl rfl rfl rfl rfl (fun hg => POp.move rfl rfl rfl) ?_
     refine AD.nil ?_
     refine DP.tailC 16 (by decide +kernel) rfl ?_
     refine OL.guardC rfl rfl rfl rfl rfl rfl (fun hg => POp.call (.mk' rfl rfl rfl rfl (by first | rfl | ((repeat (first | exact hg | rfl | refine Bool.and_eq_true_iff.2 ⟨?_, ?_⟩)); done) | simp_all [strip, constAV])) (ih (f.kids.getD 1 default) (getD_mem (by omega)))) ?_
     refine Opk ?_; refine Oas ?_; refine S5 ?_
     refine r1 8 (H) ?_
     exact ⟨retB (by rw [ev_or h3 (by omega)]; simp), rfl⟩
    ·
     replace h3 := nm h3
     have hl := leaf_of hf h0 h1 h2 h3
     have har := leaf_arg hw hl
     have hsl := spk_leaf hl
     have hpr : ∀ s ∈ f.path, 0 ≤ s ∧ s < W.owner.length := fun s hs => by have := List.all_eq_true.1 (leaf_old hf hl) s hs; simpa using this
     have hav := h.a _ (getD_mem (l := args) (k := f.arg.toNat) (by omega))
     have hrv := at_val h.o f.path _ hav hpr
     have hev := ev_leafH (objs := objs) (args := args) h.o.w hf hl (by omega)
     generalize hr : atP W objs (args.getD f.arg.toNat default) f.path = r at hev hrv
     refine S4 ?_
     refine CW.dp mixed ?_
     refine DP.anyAC (fun sj b => match sj with | 0 => .blk b 97 [.i 0, .i 0] :: H | _ => .blk b 97 [AV.i r.1.1, AV.i r.1.2] :: H) 9 [13, 14] 1 0 15 121 rfl (by decide +kernel) rfl rfl rfl rfl (by decide +kernel) ?_
     refine TD.popA (by decide +kernel) rfl rfl rfl rfl (fun _ => (by first | exact POp.ldA rfl rfl rfl rfl | (apply POp.ldAH rfl rfl rfl; (case hm => repeat (first | exact .head _ | refine .tail _ ?_)); (case hy => rfl); (case hn => rfl)))) ?_
     refine TD.popA (by decide +kernel) rfl rfl rfl rfl (fun _ => POp.move rfl rfl rfl) ?_
     refine TD.popA (by decide +kernel) rfl rfl rfl rfl (fun _ => POp.move rfl rfl rfl) ?_
     refine TD.popA (by decide +kernel) rfl rfl rfl rfl (fun _ => (by first | exact POp.fa rfl rfl rfl rfl | exact POp.faP rfl rfl rfl rfl)) ?_
     refine TD.popA (by decide +kernel) rfl rfl rfl rfl (fun _ => (by first | exact POp.ld1 rfl rfl rfl rfl | (apply POp.ld1H rfl rfl rfl; (case hm => repeat (first | exact .head _ | refine .tail _ ?_)); (case hy => rfl)))) ?_
     refine TD.popA (by decide +kernel) rfl rfl rfl rfl (fun _ => (by first | exact POp.ixM rfl rfl rfl rfl rfl (by omega) | exact POp.ixI rfl rfl rfl rfl rfl (by omega))) ?_
     refine TD.popA (by decide +kernel) rfl rfl rfl rfl (fun _ => (by first | exact POp.ldA rfl rfl rfl rfl | (apply POp.ldAH rfl rfl rfl; (case hm => repeat (first | exact .head _ | refine .tail _ ?_)); (case hy => rfl); (case hn => rfl)))) ?_
     refine TD.popA (by decide +kernel) rfl rfl rfl rfl (fun _ => (by first | exact POp.fa rfl rfl rfl rfl | exact POp.faP rfl rfl rfl rfl)) ?_
     refine TD.popA (by decide +kernel) rfl rfl rfl rfl (fun _ => (by first | exact POp.ld1 rfl rfl rfl rfl | (apply POp.ld1H rfl rfl rfl; (case hm => repeat (first | exact .head _ | refine .tail _ ?_)); (case hy => rfl)))) ?_
     refine TD.popA (by decide +kernel) rfl rfl rfl rfl (fun _ => POp.call (.mk' rfl rfl rfl rfl rfl) ((by have := p73 (W := W) h.o hav hpr; rw [hr] at this; exact this))) ?_
     refine TD.popA (by decide +kernel) rfl rfl rfl rfl (fun _ => POp.move rfl rfl rfl) ?_
     refine TD.popA (by decide +kernel) rfl rfl rfl rfl (fun _ => POp.extract rfl rfl rfl rfl) ?_
     refine TD.popA (by decide +kernel) rfl rfl rfl rfl (fun _ => POp.extract rfl rfl rfl rfl) ?_
     refine TD.effA (by decide +kernel) (by decide +kernel) rfl rfl rfl rfl (fun _ => rfl) ?_
     refine TD.stoA 0 (by decide +kernel) (by decide +kernel) (by decide +kernel) rfl rfl (fun b => .store rfl rfl rfl rfl rfl rfl rfl rfl (by repeat (first | exact Upd.head _ _ _ | apply Upd.tail)) (by exact rfl) (by exact rfl)) ?_
     refine TD.nil (fun vb => ?_)
     refine DP.tailC 15 (by decide +kernel) rfl ?_
     refine Oas ?_; refine S4 ?_
     refine CW.freezeP (d := 9) rfl (by repeat (first | exact Del.head _ _ | apply Del.tail)) ?_
     refine S1 ?_; refine Ofa ?_; refine Old ?_; refine S5 ?_; refine Ocm ?_; refine Oas ?_; refine S2 ?_
     refine CW.cond rfl (fun h4 => ?_) (fun h4 => ?_)
     ·
      replace h4 := nm h4
      have hcl := leaf_cls hf hl h4
      have hkd : r.2 = true → classP W (if r.1.1 = 1 then 1 else if r.1.1 = 2 then 2 else clsAt objs r.1) = true := fun hb => by
       have hrv := hrv hb
       rcases val_kind hrv with e | e | e
       ·rw [if_pos e, classP, Bool.and_eq_true, decide_eq_true_eq, decide_eq_true_eq]; omega
       ·rw [if_neg (by omega), if_pos e, classP, Bool.and_eq_true, decide_eq_true_eq, decide_eq_true_eq]; omega
       ·have := cls_rng h.o hrv e
        rw [if_neg (by omega), if_neg (by omega), classP, Bool.and_eq_true, decide_eq_true_eq, decide_eq_true_eq]; omega
      refine S1 ?_
      refine CW.dp mixed ?_
      refine DP.one (k := 0) (by decide +kernel) rfl ?_
      refine Omv ?_
      refine OL.nil (Done.dp ?_)
      refine DP.one (k := 1) (by decide +kernel) rfl ?_
      refine Omv ?_
      refine OL.nil (Done.dp ?_)
      refine DP.anyC 2 8 121 rfl (by decide +kernel) rfl rfl (by decide +kernel) ?_
      refine AD.guardC rfl rfl rfl rfl rfl (fun hg => (by first | exact POp.ldA rfl rfl rfl rfl | (apply POp.ldAH rfl rfl rfl; (case hm => repeat (first | exact .head _ | refine .tail _ ?_)); (case hy => rfl); (case hn => rfl)))) ?_
      refine AD.guardC rfl rfl rfl rfl rfl (fun hg => POp.move rfl rfl rfl) ?_
      refine AD.guardC rfl rfl rfl rfl rfl (fun hg => (by first | exact POp.ldA rfl rfl rfl rfl | (apply POp.ldAH rfl rfl rfl; (case hm => repeat (first | exact .head _ | refine .tail _ ?_)); (case hy => rfl); (case hn => rfl)))) ?_
      refine AD.guardC rfl rfl rfl rfl rfl (fun hg => POp.call (.mk' rfl rfl rfl rfl (by first | rfl | ((repeat (first | exact hg | rfl | refine Bool.and_eq_true_iff.2 ⟨?_, ?_⟩)); done) | simp_all [strip, constAV])) (p121 h.o (hrv hg))) ?_
      refine AD.guardC rfl rfl rfl rfl rfl (fun hg => (by first | exact POp.fa rfl rfl rfl rfl | exact POp.faP rfl rfl rfl rfl)) ?_
      refine AD.guardC rfl rfl rfl rfl rfl (fun hg => (by first | exact POp.ld1 rfl rfl (gd hg) rfl | (apply POp.ld1H rfl rfl (gd hg); (case hm => repeat (first | exact .head _ | refine .tail _ ?_)); (case hy => rfl)))) ?_
      refine AD.nil ?_
      refine DP.tailC 8 (by decide +kernel) rfl ?_
      refine OL.guardC rfl rfl rfl rfl rfl rfl (fun hg => POp.call (.mk' rfl rfl rfl rfl (by first | rfl | ((repeat (first | exact hg | rfl | refine Bool.and_eq_true_iff.2 ⟨?_, ?_⟩)); done) | simp_all [strip, constAV])) (p52 h.o.w (hkd hg) hcl)) ?_
      refine Opk ?_; refine Oas ?_; refine S5 ?_
      refine r1 8 (H) ?_
      exact ⟨retB (by rw [hev, leafH, if_pos h4]; cases r.2 <;> rfl), rfl⟩
     ·
      replace h4 := nm h4
      refine S2 ?_; refine Ocm ?_; refine Oas ?_; refine S2 ?_
      refine CW.cond rfl (fun h5 => ?_) (fun h5 => ?_)
      ·
       replace h5 := nm h5
       refine S2 ?_; refine Omv ?_; refine Omv ?_; refine Pfa ?_; refine Pld ?_; refine Pcm ?_; refine Opk ?_; refine Omv ?_; refine Pfa ?_; refine Pld ?_; refine Pfa ?_; refine Pld ?_
       refine Pcm ?_; refine Opk ?_; refine Oas ?_; refine S5 ?_
       refine r1 8 (H) ?_
       exact ⟨retB (by rw [hev, leafH, if_neg h4, if_pos h5]; cases r.2 <;> cases (r.1.1 == 1) <;> rfl), rfl⟩
      ·
       replace h5 := nm h5
       refine S5 ?_; refine Omv ?_; refine Omv ?_; refine Pfa ?_; refine Pld ?_; refine Pcm ?_; refine Opk ?_; refine Omv ?_; refine Pfa ?_; refine Pld ?_; refine Pfa ?_; refine Pld ?_
       refine Pcm ?_; refine Opk ?_; refine Oas ?_; refine S3 ?_
       refine r1 8 (H) ?_
       exact ⟨retB (by rw [hev, leafH, if_neg h4, if_neg h5]; cases r.2 <;> cases (r.1.1 == 1) <;> rfl), rfl⟩
theorem p66 {W : FW} {objs : List Th} {args : List (Int × Int)} (h : HOk W objs args) : ∀ f : Fact, wfB W f = true → spkN f ≤ args.length → PCall Tryz.prog 66 [AV.world W, AV.fact f, AV.things objs, AV.vals args] (.b (ev (VO W objs args) f)) :=
 Fact.ind1 fun f ih hw hs => p66_step h f hw hs fun k hk => ih k hk ((wfB_iff.1 hw).2 k hk) (Int.le_trans (spk_kid hk) hs)
def takesP (W : FW) (f : Fact) (objs : List Th) (args : List (Int × Int)) : Bool := goodP W [f] && handedP W objs args && decide (spkN f ≤ args.length)
instance : HasEq Tryz.prog 97 2 := ⟨by kernel_rfl⟩
theorem getD_set_ne {α : Type} [Inhabited α] {l : List α} {w i : Nat} {x : α} (h : i ≠ w) : (l.set w x).getD i default = l.getD i default := by
 rw [List.getD_eq_getElem?_getD, List.getElem?_set_ne (Ne.symm h), List.getD_eq_getElem?_getD]
structure Prf (W : FW) (a b : Fact) (p : List (List Int)) : Prop where
 len : p.length ≤ 400
 ok : PCall Tryz.prog 53 [AV.world W, AV.fact a, AV.fact b, AV.intss p] (.tup [.b true, .i 0])
 ne : ∀ w, w < p.length → p.getD w default ≠ []
 lens : ∀ w, w < p.length → (p.getD w default).length ≤ 300
 less : ∀ w, w < p.length → ∀ k, k < (p.getD w default).length → PCall Tryz.prog 53 [AV.world W, AV.fact a, AV.fact b, AV.intss (p.set w ((p.getD w default).eraseIdx k))] (.tup [.b false, .i 0])
 more : ∀ w, w < p.length → ∀ x : Int, 0 ≤ x → (p.getD w default).contains x = false → ∃ r e, ((r = true ∧ e = (0 : Int)) ∨ (r = false ∧ e = 2)) ∧ PCall Tryz.prog 53 [AV.world W, AV.fact a, AV.fact b, AV.intss (p.set w (sortI (p.getD w default ++ [x])))] (.tup [.b r, .i e])
theorem Done.freezeRowCell {c : Ctx} {ex : Exit} {Q : Exit → Act → World → Prop} {env : List (Nat × AV)} {fb t tb k : Nat} {v : Value} {els : List (List AV)} {xs ys : List AV} {R : List Ent} (hk : ∀ e ∈ els, e.length = k)
  (h : Done c ⟨env, .blk fb tb (xs ++ .sl k els :: ys) :: R⟩ ex Q) : Done c ⟨env, .row t k v els.length els.flatten :: .blk fb tb (xs ++ .val v :: ys) :: R⟩ ex Q := fun a w s => by
 refine h a w ?_
 obtain ⟨I, hw, he, hh, hv⟩ := s.mem
 obtain ⟨J, j1, j2, j3, j4⟩ := HeapOk.freezeRow hw hh hk
 refine ⟨s.ds, s.size, J, j1, he.trans j2, HeapOk.head j3 (fun ⟨q1, us, q2, q3, q4⟩ => ⟨q1, us, q2, RelL.replace (fun u hu => ?_) q3, q4⟩) rfl, hv.keep j2.keeps⟩
 rw [rel_val hu]
 exact j4
theorem Sat.freezeRowCell {c : Ctx} {a : Act} {w : World} {env : List (Nat × AV)} {fb t tb k : Nat} {v : Value} {els : List (List AV)} {xs ys : List AV} {R : List Ent} (hk : ∀ e ∈ els, e.length = k)
  (s : Sat c ⟨env, .row t k v els.length els.flatten :: .blk fb tb (xs ++ .val v :: ys) :: R⟩ a w) : Sat c ⟨env, .blk fb tb (xs ++ .sl k els :: ys) :: R⟩ a w := by
 obtain ⟨I, hw, he, hh, hv⟩ := s.mem
 obtain ⟨J, j1, j2, j3, j4⟩ := HeapOk.freezeRow hw hh hk
 refine ⟨s.ds, s.size, J, j1, he.trans j2, HeapOk.head j3 (fun ⟨q1, us, q2, q3, q4⟩ => ⟨q1, us, q2, RelL.replace (fun u hu => ?_) q3, q4⟩) rfl, hv.keep j2.keeps⟩
 rw [rel_val hu]
 exact j4
theorem CW.freezeRowCell {c : Ctx} {r : Option Nat} {P : Program} {p : Code} {Q : Exit → Act → World → Prop} {env : List (Nat × AV)} {fb t tb k : Nat} {v : Value} {els : List (List AV)} {xs ys : List AV} {R : List Ent} (hk : ∀ e ∈ els, e.length = k)
  (h : CW c r P p ⟨env, .blk fb tb (xs ++ .sl k els :: ys) :: R⟩ Q) : CW c r P p ⟨env, .row t k v els.length els.flatten :: .blk fb tb (xs ++ .val v :: ys) :: R⟩ Q := fun a w s => h a w (Sat.freezeRowCell hk s)
abbrev AV.sets (l : List Nat) : AV := .sl 1 (l.map fun s => [AV.set s])
def idxN (l : List Nat) (v : Nat) : Int := match l.findIdx? (fun x => x == v) with | some i => (i : Int) | none => -1
theorem idxN_at {l : List Nat} {v : Nat} {k : Nat} (hk : k < l.length) (hp : ∀ x ∈ l.take k, x ≠ v) (h : v = l.getD k default) : (k : Int) = idxN l v := by
 have e : l.findIdx? (fun x => x == v) = some k := by
  rw [List.findIdx?_eq_some_iff_getElem]
  refine ⟨hk, by rw [h, getD_lt hk]; simp, fun j hj => ?_⟩
  have := hp l[j] (List.mem_take_iff_getElem.2 ⟨j, by omega, rfl⟩)
  simpa using this
 rw [idxN, e]
theorem idxN_none {l : List Nat} {v : Nat} (hp : ∀ x ∈ l, x ≠ v) : (-1 : Int) = idxN l v := by
 have e : l.findIdx? (fun x => x == v) = none := by
  rw [List.findIdx?_eq_none_iff]
  intro x hx
  simpa using hp x hx
 rw [idxN, e]
theorem ne_stepN {l : List Nat} {v : Nat} {k : Nat} (hk : k < l.length) (h : ∀ x ∈ l.take k, x ≠ v) (h1 : ¬ v = l.getD k default) : ∀ x ∈ l.take (k + 1), x ≠ v := by
 intro x hx
 rw [← take_getD hk] at hx
 rcases List.mem_append.1 hx with hx | hx
 ·exact h x hx
 ·rw [List.mem_singleton] at hx; rw [hx]; exact fun e => h1 e.symm
theorem p203 (l : List Nat) (v : Nat) : PCall Tryz.prog 203 [AV.sets l, AV.set v] (.i (idxN l v)) := by
 intro H
 refine ACall.mk' (n := 19) Tryz.func203 rfl (by kernel_rfl) rfl rfl (fun B I w0 => ?_)
 refine CW.boundM (t := 0) rfl (fun hb0 => ?_)
 refine S2 ?_; refine Oas ?_; refine S5 ?_; refine Omv ?_; refine Oln ?_; refine Omv ?_; refine S3 ?_
 refine lj (fun m st => ∃ k : Nat, st = ⟨[(8, .i k), (7, .i l.length), (0, AV.sets l), (1, AV.set v)], H⟩ ∧ m = l.length - k ∧ k ≤ l.length ∧ ∀ x ∈ l.take k, x ≠ v) (⟨0, rfl, rfl, by simp, by simp⟩) ?_
 rintro m _ ⟨k, rfl, rfl, hk, hp⟩
 refine S2 ?_; refine Ocm ?_; refine S3 ?_
 refine CW.cond rfl (fun h0 => ?_) (fun h0 => ?_)
 ·
  replace h0 := nm h0
  refine S6 ?_; refine Omv ?_; refine Oas ?_; refine S4 ?_; refine Omv ?_; refine Omv ?_; refine Omv ?_; refine Oix ?_; refine Old ?_; refine Ocm ?_; refine S2 ?_
  refine CW.cond rfl (fun h1 => ?_) (fun h1 => ?_)
  ·
   have h1 : v = l.getD k default := by simpa [Int.ofNat_inj] using h1
   refine S2 ?_; refine Omv ?_; refine Oas ?_; refine S8 ?_
   refine r1 4 (H) ?_
   exact ⟨retI (idxN_at (by omega) hp h1), rfl⟩
  ·
   have h1 : ¬ v = l.getD k default := fun e => by rw [← e] at h1; simp at h1
   refine S4 ?_; refine Oar ?_; refine Omv ?_; refine S1 ?_
   exact ag (⟨k + 1, rfl, rfl, by omega, ne_stepN (by omega) hp h1⟩)
 ·
  replace h0 := nm h0
  refine S7 ?_; refine Oas ?_; refine S3 ?_
  refine r1 4 (H) ?_
  exact ⟨retI (idxN_none (by have e : k = l.length := (by omega); rw [e, List.take_length] at hp; exact hp)), rfl⟩
def isUp (W : FW) (s : Nat) (c : Nat) : Bool := andNotP ((upsP W).getD c 0) 1 == s
def oldC (W : FW) (s : Nat) : Option Nat := (List.range (3 + W.parents.length)).find? fun c => decide (3 ≤ c) && isUp W s c
def classP (W : FW) (bits : List Nat) (s : Nat) : Int × List Nat := match oldC W s with
 | some c => ((c : Int), bits)
 | none => if bits.contains s then (3 + (W.parents.length : Int) + idxN bits s, bits) else (3 + (W.parents.length : Int) + bits.length, bits ++ [s])
theorem old_at {W : FW} {s c : Nat} (hc : c < 3 + W.parents.length) (h3 : 3 ≤ c) (hp : ∀ k, 3 ≤ k → k < c → isUp W s k = false) (h : isUp W s c = true) : oldC W s = some c := by
 rw [oldC, List.find?_range_eq_some]
 refine ⟨by rw [h, Bool.and_true, decide_eq_true h3], List.mem_range.2 hc, fun j hj => ?_⟩
 by_cases h3j : 3 ≤ j
 ·rw [hp j h3j hj]; simp
 ·rw [decide_eq_false h3j]; rfl
theorem old_none {W : FW} {s : Nat} (hp : ∀ k, 3 ≤ k → k < 3 + W.parents.length → isUp W s k = false) : oldC W s = none := by
 rw [oldC, List.find?_eq_none]
 intro c hc
 have := List.mem_range.1 hc
 by_cases h3 : 3 ≤ c
 ·rw [hp c h3 this]; simp
 ·rw [decide_eq_false h3]; simp
theorem idxN_lt {l : List Nat} {v : Nat} : idxN l v < 0 ↔ l.contains v = false := by
 unfold idxN
 cases h : l.findIdx? (fun x => x == v) with
 | none =>
  have := List.findIdx?_eq_none_iff.1 h
  simp only [Int.reduceNeg, Int.reduceLT, true_iff, List.contains_eq_any_beq, List.any_eq_false]
  intro x hx
  have := this x hx
  simp at this
  simpa using fun e => this e.symm
 | some i =>
  obtain ⟨hi, h1, _⟩ := List.findIdx?_eq_some_iff_getElem.1 h
  have : l.contains v = true := List.contains_iff_mem.2 (by rw [← (by simpa using h1 : l[i] = v)]; exact List.getElem_mem hi)
  rw [this]
  simp
abbrev mdlH (W : FW) (mb xb : Nat) (bv ov : Value) (bits : List Nat) (objs : List (Int × List (Int × Int))) (Hx : List Ent) : List Ent :=
 .blk xb 154 [sceneP W mb, .val bv, .val ov] :: .row 135 1 bv (bits.map fun s => [AV.set s]).length (bits.map fun s => [AV.set s]).flatten :: .row 160 2 ov (objs.map fun o => [AV.i o.1, AV.vals o.2]).length (objs.map fun o => [AV.i o.1, AV.vals o.2]).flatten :: Hx
theorem class_old {W : FW} {bits : List Nat} {s c : Nat} (hc : c < 3 + W.parents.length) (h3 : 3 ≤ c) (hp : ∀ k, 3 ≤ k → k < c → isUp W s k = false) (h : isUp W s c = true) : classP W bits s = ((c : Int), bits) := by rw [classP, old_at hc h3 hp h]
theorem class_in {W : FW} {bits : List Nat} {s : Nat} (ho : oldC W s = none) (h : ¬ idxN bits s < 0) : classP W bits s = (3 + (W.parents.length : Int) + idxN bits s, bits) := by
 have hb : bits.contains s = true := by
  cases hb : bits.contains s with
  | true => rfl
  | false => exact absurd (idxN_lt.2 hb) h
 rw [classP, ho]; simp only [hb, if_true]
theorem class_new {W : FW} {bits : List Nat} {s : Nat} (ho : oldC W s = none) (h : idxN bits s < 0) : classP W bits s = (3 + (W.parents.length : Int) + bits.length, bits ++ [s]) := by
 have hb := idxN_lt.1 h
 rw [classP, ho]
 show (if bits.contains s = true then _ else _) = _
 rw [hb]; rfl
theorem idxN_le (l : List Nat) (v : Nat) : -1 ≤ idxN l v ∧ idxN l v < l.length ∨ l.length = 0 ∧ idxN l v = -1 := by
 unfold idxN
 cases h : l.findIdx? (fun x => x == v) with
 | none => rcases Nat.eq_zero_or_pos l.length with h0 | h0; exact .inr ⟨h0, rfl⟩; exact .inl ⟨by simp, by simp only; omega⟩
 | some i =>
  obtain ⟨hi, _, _⟩ := List.findIdx?_eq_some_iff_getElem.1 h
  exact .inl ⟨by simp only; omega, by simp only; omega⟩
theorem b169 {W : FW} (hw : worldP W = true) (mb xb : Nat) (bv ov : Value) (bits : List Nat) (objs : List (Int × List (Int × Int))) (s : Nat) (hbl : bits.length ≤ 100000) (Hx : List Ent) (B : Nat) :
  BCall B Tryz.prog 169 [.p xb 0, AV.set s] (mdlH W mb xb bv ov bits objs Hx) (fun y H' => ∃ bv', y = .i (classP W bits s).1 ∧ H' = mdlH W mb xb bv' ov (classP W bits s).2 objs Hx) (fun _ => False) := by
 refine BCall.of (n := 68) Tryz.func169 rfl (by kernel_rfl) rfl rfl (fun I w0 => ?_)
 have hW := world_own hw
 have hP := world_len hw
 have hix := idxN_le bits s
 have hbm : (bits.map fun s => [AV.set s]).length = bits.length := List.length_map _
 refine S2 ?_; refine Oas ?_; refine S4 ?_; refine Omv ?_; refine Onc ?_; refine Ofa ?_; refine Old ?_; refine Onc ?_; refine Ofa ?_; refine Old ?_; refine Onc ?_; refine Ofa ?_
 refine Ofa ?_; refine Old ?_; refine Oln ?_; refine Oar ?_; refine Oas ?_; refine S5 ?_; refine Oas ?_; refine S3 ?_
 refine lj (fun m st => ∃ c : Nat, st = ⟨[(6, .i c), (5, .i (3 + (W.parents.length : Int))), (0, .p xb 0), (1, AV.set s)], mdlH W mb xb bv ov bits objs Hx⟩ ∧ m = 3 + W.parents.length - c ∧ 3 ≤ c ∧ c ≤ 3 + W.parents.length ∧ ∀ k, 3 ≤ k → k < c → isUp W s k = false) (⟨3, rfl, rfl, by omega, by omega, fun k h1 h2 => by omega⟩) ?_
 rintro m _ ⟨c, rfl, rfl, hc3, hc, hp⟩
 refine S3 ?_; refine Omv ?_; refine Omv ?_; refine Ocm ?_; refine S2 ?_
 refine CW.cond rfl (fun h0 => ?_) (fun h0 => ?_)
 ·
  replace h0 := nm h0
  have hcl : c < 3 + W.parents.length := by omega
  refine S6 ?_; refine Omv ?_; refine Onc ?_; refine Ofa ?_; refine Old ?_; refine Onc ?_; refine Ofa ?_; refine Old ?_; refine Omv ?_; refine Onc ?_; refine Ofa ?_; refine Oia ?_
  refine OL.popC rfl rfl rfl (POp.ld1 rfl rfl rfl (up_drop (c := c) (by simp) (by rw [ups_len]; omega))) ?_
  refine OL.popC rfl rfl rfl (POp.bits rfl rfl rfl rfl rfl (bit_andNot _ 1)) ?_
  refine Omv ?_; refine Ocm ?_; refine S2 ?_
  refine CW.cond rfl (fun h1 => ?_) (fun h1 => ?_)
  ·
   have hu : isUp W s c = true := by simpa [isUp, Int.ofNat_inj] using h1
   have hcp := class_old (bits := bits) hcl hc3 hp hu
   refine S2 ?_; refine Omv ?_; refine Oas ?_; refine S8 ?_
   refine Done.retR (rs := [.tmp 4]) rfl (.tmp rfl (.nil)) (AVleL.refl _) (by exact List.Sublist.refl _) ?_
   exact ⟨bv, by rw [hcp]; rfl, by rw [hcp]⟩
  ·
   have hu : isUp W s c = false := by simpa [isUp, Int.ofNat_inj] using h1
   refine S4 ?_; refine Omv ?_; refine Oar ?_; refine Oas ?_; refine S1 ?_
   exact ag (⟨c + 1, rfl, rfl, by omega, by omega, fun k h1 h2 => by by_cases e : k = c; rw [e]; exact hu; exact hp k h1 (by omega)⟩)
 ·
  replace h0 := nm h0
  obtain rfl : c = 3 + W.parents.length := by omega
  have ho := old_none hp
  refine S7 ?_; refine Omv ?_; refine Onc ?_; refine Ofa ?_; refine Old ?_; refine Omv ?_
  refine OL.popC rfl rfl rfl (POp.callB (.mk' rfl rfl rfl rfl rfl) (Borrow.row (t := 135) (k := 1) (pre := []) (post := [AV.set s]) (.tail _ (.head _)) (by simp)) (p203 bits s)) ?_
  refine Oas ?_; refine S5 ?_; refine Omv ?_; refine Ocm ?_; refine S2 ?_
  refine CW.cond rfl (fun h2 => ?_) (fun h2 => ?_)
  ·
   replace h2 := nm h2
   have hcp := class_new ho h2
   refine S2 ?_; refine Omv ?_; refine Onc ?_; refine Ofa ?_; refine Old ?_
   refine OL.popC rfl rfl rfl (POp.lenR rfl rfl rfl (.tail _ (.head _))) ?_
   refine Oas ?_; refine S3 ?_; refine Omv ?_; refine Omv ?_; refine Onc ?_; refine Ofa ?_; refine Old ?_; refine Omv ?_
   refine OL.popC rfl rfl rfl (POp.row rfl rfl (by first | rfl | simp_all [strip]) rfl rfl rfl rfl rfl rfl) ?_
   refine OL.appendRow (news := [[AV.set s]]) rfl rfl rfl rfl rfl rfl rfl rfl (AVle.refl _) (by simp) rfl (fun v => by repeat (first | exact Upd.head _ _ _ | apply Upd.tail)) (by simp only [List.length_map, List.length_cons, List.length_nil]; omega) (by simp only [List.length_map, List.length_cons, List.length_nil]; omega) (fun v62 => ?_)
   refine Onc ?_; refine Ofa ?_
   refine OL.rowOne (v := v62) (.tail _ (.head _)) (fun hv62 => ?_)
   apply OL.stoC rfl rfl rfl rfl rfl rfl rfl (one_bOk hv62) (one_all hv62) rfl
   (case hu => repeat (first | exact Upd.head _ _ _ | apply Upd.tail)); (case hfit => rfl); (case hds => rfl)
   refine S4 ?_; refine Omv ?_; refine Omv ?_; refine Oar ?_; refine Oas ?_; refine S3 ?_
   refine Done.retR (rs := [.tmp 4]) rfl (.tmp rfl (.nil)) (AVleL.refl _) (by exact List.Sublist.refl _) ?_
   exact ⟨v62, by rw [hcp]; simp [tupOf], by rw [hcp]; simp [bcells]⟩
  ·
   have hcp := class_in (bits := bits) (s := s) ho (by simpa using h2)
   have hi0 : ¬ idxN bits s < 0 := by simpa using h2
   refine S4 ?_; refine Omv ?_; refine Omv ?_; refine Oar ?_; refine Oas ?_; refine S3 ?_
   refine Done.retR (rs := [.tmp 4]) rfl (.tmp rfl (.nil)) (AVleL.refl _) (by exact List.Sublist.refl _) ?_
   exact ⟨bv, by rw [hcp]; rfl, by rw [hcp]⟩
abbrev Obs := List (Int × List (Int × Int))
abbrev MSt := List Nat × Obs
def childCan (W : FW) (kn : Value → Kn) (arg : Int) : Nat → List Int → Bool
 | 0 => fun _ => false
 | d + 1 => canK W kn d arg
theorem p168d {W : FW} {mb : Nat} {kn : Value → Kn} (K : KnOk W kn) (hw : worldP W = true) {arg : Int} : ∀ (d : Nat) (path : List Int), goodSpot arg path → path.length + d = 2 →
  PCallIn Tryz.prog [sceneH mb kn] 168 [sceneP W mb, AV.spot arg path] (.tup [AV.set (objectK W kn (childCan W kn arg d) arg path).1, .b (objectK W kn (childCan W kn arg d) arg path).2])
 | 0, path, h, hd => p168_step K hw h (fun _ => false) (fun s hs => by rw [K.deep arg path h (by omega)] at hs; cases hs)
 | d + 1, path, h, hd => p168_step K hw h (canK W kn d arg) (fun s hs => p186 K hw d (path ++ [s]) (kn_next K (world_own hw) h hs).2 (by simp; omega))
def slotV (W : FW) (kn : Value → Kn) (arg : Int) (rec : MSt → List Int → (Int × Int) × MSt) (set : Nat) (path : List Int) (acc : List (Int × Int) × MSt) (k : Nat) : List (Int × Int) × MSt :=
 if set.testBit (W.owner.getD k default).toNat then
  if (kn (keyS arg path)).slots.contains (k : Int) then (acc.1 ++ [(rec acc.2 (path ++ [(k : Int)])).1], (rec acc.2 (path ++ [(k : Int)])).2) else (acc.1 ++ [(2, 0)], acc.2)
 else acc
def slotsV (W : FW) (kn : Value → Kn) (arg : Int) (rec : MSt → List Int → (Int × Int) × MSt) (set : Nat) (path : List Int) (st : MSt) (k : Nat) : List (Int × Int) × MSt := (List.range k).foldl (slotV W kn arg rec set path) ([], st)
theorem slotsV_succ (W : FW) (kn : Value → Kn) (arg : Int) (rec : MSt → List Int → (Int × Int) × MSt) (set : Nat) (path : List Int) (st : MSt) (k : Nat) : slotsV W kn arg rec set path st (k + 1) = slotV W kn arg rec set path (slotsV W kn arg rec set path st k) k := by
 rw [slotsV, List.range_succ, List.foldl_append]; rfl
def valueS (W : FW) (kn : Value → Kn) (arg : Int) (d : Nat) (rec : MSt → List Int → (Int × Int) × MSt) (st : MSt) (path : List Int) : (Int × Int) × MSt :=
 if integerOk kn arg path then ((1, freeK (kn (keyS arg path)).nots (kn (keyS arg path)).low), st)
 else if noneOk kn arg path then ((2, 0), st)
 else
  let set := (objectK W kn (childCan W kn arg d) arg path).1
  let c := classP W st.1 set
  let r := slotsV W kn arg rec set path (c.2, st.2 ++ [(c.1, [])]) W.owner.length
  ((3, (st.2.length : Int)), (r.2.1, r.2.2.set st.2.length ((r.2.2.getD st.2.length default).1, r.1)))
def valueP (W : FW) (kn : Value → Kn) (arg : Int) : Nat → MSt → List Int → (Int × Int) × MSt
 | 0 => valueS W kn arg 0 fun st _ => ((2, 0), st)
 | d + 1 => valueS W kn arg (d + 1) (valueP W kn arg d)
def mostV : Nat → Nat
 | 0 => 1
 | d + 1 => 1 + 40 * mostV d
theorem class_len (W : FW) (bits : List Nat) (s : Nat) : bits.length ≤ (classP W bits s).2.length ∧ (classP W bits s).2.length ≤ bits.length + 1 := by
 unfold classP
 split
 ·exact ⟨Nat.le_refl _, Nat.le_succ _⟩
 ·split
  ·exact ⟨Nat.le_refl _, Nat.le_succ _⟩
  ·simp
def Grows (n : Nat) (st st' : MSt) : Prop := st'.1.length ≤ st.1.length + n ∧ st.2.length ≤ st'.2.length ∧ st'.2.length ≤ st.2.length + n
theorem slots_grow {W : FW} {kn : Value → Kn} {arg : Int} {rec : MSt → List Int → (Int × Int) × MSt} {set n : Nat} {path : List Int} {st : MSt} (hr : ∀ s ∈ (kn (keyS arg path)).slots, ∀ st, Grows n st (rec st (path ++ [s])).2) : ∀ k, Grows (k * n) st (slotsV W kn arg rec set path st k).2 ∧ (slotsV W kn arg rec set path st k).1.length ≤ k
 | 0 => ⟨⟨by simp [slotsV], Nat.le_refl _, by simp [slotsV]⟩, Nat.le_refl _⟩
 | k + 1 => by
  obtain ⟨⟨h1, h2, h3⟩, h4⟩ := slots_grow hr k
  rw [slotsV_succ]
  generalize slotsV W kn arg rec set path st k = acc at *
  rw [Nat.succ_mul]
  unfold slotV
  split
  ·split
   ·rename_i hc
    obtain ⟨g1, g2, g3⟩ := hr (k : Int) (List.contains_iff_mem.1 hc) acc.2
    exact ⟨⟨by show (rec acc.2 _).2.1.length ≤ _; omega, by show _ ≤ (rec acc.2 _).2.2.length; omega, by show (rec acc.2 _).2.2.length ≤ _; omega⟩, by simp; omega⟩
   ·exact ⟨⟨by show acc.2.1.length ≤ _; omega, h2, by show acc.2.2.length ≤ _; omega⟩, by simp; omega⟩
  ·exact ⟨⟨by omega, h2, by omega⟩, by omega⟩
theorem value_grow_step {W : FW} {kn : Value → Kn} {arg : Int} (hW : W.owner.length ≤ 40) {d n : Nat} {rec : MSt → List Int → (Int × Int) × MSt} {path : List Int} (hr : ∀ s ∈ (kn (keyS arg path)).slots, ∀ st, Grows n st (rec st (path ++ [s])).2) (st : MSt) : Grows (1 + 40 * n) st (valueS W kn arg d rec st path).2 := by
 unfold valueS
 split
 ·exact ⟨by show st.1.length ≤ _; omega, Nat.le_refl _, by show st.2.length ≤ _; omega⟩
 ·split
  ·exact ⟨by show st.1.length ≤ _; omega, Nat.le_refl _, by show st.2.length ≤ _; omega⟩
  ·generalize (objectK W kn (childCan W kn arg d) arg path).1 = set
   obtain ⟨⟨h1, h2, h3⟩, _⟩ := slots_grow (W := W) (set := set) (st := ((classP W st.1 set).2, st.2 ++ [((classP W st.1 set).1, [])])) hr W.owner.length
   have hc := class_len W st.1 set
   have hm : W.owner.length * n ≤ 40 * n := Nat.mul_le_mul_right n hW
   simp only [List.length_append, List.length_singleton] at h1 h2 h3
   refine ⟨?_, ?_, ?_⟩
   ·show (slotsV W kn arg rec set path _ _).2.1.length ≤ _; omega
   ·show _ ≤ (List.set _ _ _).length; rw [List.length_set]; omega
   ·show (List.set _ _ _).length ≤ _; rw [List.length_set]; omega
theorem value_grow {W : FW} {kn : Value → Kn} (K : KnOk W kn) (hW : W.owner.length ≤ 40) {arg : Int} : ∀ (d : Nat) (path : List Int), goodSpot arg path → path.length + d = 2 → ∀ st, Grows (mostV d) st (valueP W kn arg d st path).2
 | 0, path, h, hd, st => by
  have := value_grow_step (W := W) (d := 0) (n := 0) hW (rec := fun st _ => ((2, 0), st)) (path := path) (arg := arg) (kn := kn) (fun s hs => by rw [K.deep arg path h (by omega)] at hs; cases hs) st
  exact this
 | d + 1, path, h, hd, st => value_grow_step (W := W) (d := d + 1) (n := mostV d) hW (rec := valueP W kn arg d) (fun s hs => value_grow K hW d (path ++ [s]) (kn_next K hW h hs).2 (by simp; omega)) st
theorem obj_len (l : Obs) : (l.map fun o => [AV.i o.1, AV.vals o.2]).flatten.length = l.length * 2 := flatten_len (k := 2) (fun e he => by obtain ⟨o, _, rfl⟩ := List.mem_map.1 he; rfl) |>.trans (by rw [List.length_map])
theorem obj_set {l : Obs} {w : Nat} {more : List AV} (hw : w < l.length) (x : List (Int × Int)) :
  ((l.map fun o => [AV.i o.1, AV.vals o.2]).flatten ++ more).take (0 + (w : Int).toNat * 2 + 1) ++ [AV.vals x] ++ ((l.map fun o => [AV.i o.1, AV.vals o.2]).flatten ++ more).drop (0 + (w : Int).toNat * 2 + 1 + 1) = ((l.set w ((l.getD w default).1, x)).map fun o => [AV.i o.1, AV.vals o.2]).flatten ++ more := by
 have e0 : l = l.take w ++ l.getD w default :: l.drop (w + 1) := by
  rw [getD_lt hw, ← List.drop_eq_getElem_cons hw, List.take_append_drop]
 have hl : (l.take w).length = w := by simp; omega
 have e2 : l.set w ((l.getD w default).1, x) = l.take w ++ ((l.getD w default).1, x) :: l.drop (w + 1) := by rw [List.set_eq_take_append_cons_drop, if_pos hw]
 rw [e2]
 generalize l.getD w default = o at *
 generalize l.take w = A at *
 generalize l.drop (w + 1) = C at *
 subst e0
 have hA := obj_len A
 rw [hl] at hA
 have e3 : 0 + (w : Int).toNat * 2 + 1 = (A.map fun o => [AV.i o.1, AV.vals o.2]).flatten.length + 1 := by rw [hA]; simp
 rw [e3, List.map_append, List.flatten_append, List.map_cons, List.flatten_cons, List.map_append, List.flatten_append, List.map_cons, List.flatten_cons]
 simp only [List.append_assoc]
 generalize (A.map fun o => [AV.i o.1, AV.vals o.2]).flatten = F
 generalize (C.map fun o => [AV.i o.1, AV.vals o.2]).flatten = R
 rw [List.take_append, List.drop_append, List.take_of_length_le (by omega), List.drop_eq_nil_of_le (by omega), show F.length + 1 - F.length = 1 by omega, show F.length + 1 + 1 - F.length = 2 by omega]
 simp
theorem objK_lt {W : FW} {kn : Value → Kn} {can : List Int → Bool} {arg : Int} {path : List Int} : (objectK W kn can arg path).1 < 18446744073709551616 := by
 unfold objectK
 dsimp only
 split
 ·decide
 ·split
  ·decide
  ·exact andNot_lt _ _
theorem value_int {W : FW} {kn : Value → Kn} {arg : Int} {d : Nat} {rec : MSt → List Int → (Int × Int) × MSt} {st : MSt} {path : List Int} (hi : integerOk kn arg path = true) : valueS W kn arg d rec st path = ((1, freeK (kn (keyS arg path)).nots (kn (keyS arg path)).low), st) := if_pos hi
theorem value_none {W : FW} {kn : Value → Kn} {arg : Int} {d : Nat} {rec : MSt → List Int → (Int × Int) × MSt} {st : MSt} {path : List Int} (hi : integerOk kn arg path = false) (hn : noneOk kn arg path = true) : valueS W kn arg d rec st path = ((2, 0), st) := by
 rw [valueS, if_neg (by rw [hi]; simp), if_pos hn]
theorem value_obj {W : FW} {kn : Value → Kn} {arg : Int} {d : Nat} {rec : MSt → List Int → (Int × Int) × MSt} {st : MSt} {path : List Int} {set : Nat} {r : List (Int × Int) × MSt} (hi : integerOk kn arg path = false) (hn : noneOk kn arg path = false) (hs : (objectK W kn (childCan W kn arg d) arg path).1 = set)
  (hr : r = slotsV W kn arg rec set path ((classP W st.1 set).2, st.2 ++ [((classP W st.1 set).1, [])]) W.owner.length) : valueS W kn arg d rec st path = ((3, (st.2.length : Int)), (r.2.1, r.2.2.set st.2.length ((r.2.2.getD st.2.length default).1, r.1))) := by
 subst hs; subst hr
 rw [valueS, if_neg (by rw [hi]; simp), if_neg (by rw [hn]; simp)]
theorem b116_step {W : FW} {mb xb : Nat} {kn : Value → Kn} (K : KnOk W kn) (hw : worldP W = true) {arg : Int} {path : List Int} (h : goodSpot arg path) (d : Nat) (hd : path.length + d = 2) (n : Nat) (rec : MSt → List Int → (Int × Int) × MSt)
  (hrec : ∀ s ∈ (kn (keyS arg path)).slots, ∀ st, Grows n st (rec st (path ++ [s])).2)
  (ih : ∀ s ∈ (kn (keyS arg path)).slots, ∀ (bv ov : Value) (st : MSt) (Hx : List Ent) (B : Nat), st.1.length + n ≤ 10000 → st.2.length + n ≤ 10000 → BCall B Tryz.prog 116 [.p xb 0, AV.spot arg (path ++ [s])] (mdlH W mb xb bv ov st.1 st.2 (sceneH mb kn :: Hx))
   (fun y H' => ∃ bv' ov', y = AV.vl (rec st (path ++ [s])).1 ∧ H' = mdlH W mb xb bv' ov' (rec st (path ++ [s])).2.1 (rec st (path ++ [s])).2.2 (sceneH mb kn :: Hx)) (fun _ => False))
  (bv ov : Value) (st : MSt) (Hx : List Ent) (B : Nat) (hb1 : st.1.length + (1 + 40 * n) ≤ 10000) (hb2 : st.2.length + (1 + 40 * n) ≤ 10000) :
  BCall B Tryz.prog 116 [.p xb 0, AV.spot arg path] (mdlH W mb xb bv ov st.1 st.2 (sceneH mb kn :: Hx)) (fun y H' => ∃ bv' ov', y = AV.vl (valueS W kn arg d rec st path).1 ∧ H' = mdlH W mb xb bv' ov' (valueS W kn arg d rec st path).2.1 (valueS W kn arg d rec st path).2.2 (sceneH mb kn :: Hx)) (fun _ => False) := by
 refine BCall.of (n := 113) Tryz.func116 rfl (by kernel_rfl) rfl rfl (fun I w0 => ?_)
 have hW := world_own hw
 have hP := world_len hw
 have hm : ∀ {R : List Ent} (e : Ent), e ∈ [sceneH mb kn] → e ∈ sceneH mb kn :: R := fun e he => by rw [List.mem_singleton] at he; subst he; exact .head _
 have hob : (st.2.map fun o => [AV.i o.1, AV.vals o.2]).length = st.2.length := List.length_map _
 refine S2 ?_; refine Obx ?_
 refine OL.alC rfl rfl rfl rfl (fun cb => ?_)
 refine S4 ?_
 refine CW.perm (H' := mdlH W mb xb bv ov st.1 st.2 (sceneH mb kn :: .blk cb 97 [.i 0, .i 0] :: Hx)) ((List.perm_middle (l₁ := [_, _, _, _])).symm) ?_
 refine CW.dp mixed ?_
 refine DP.anyC 0 5 113 rfl (by decide +kernel) rfl rfl (by decide +kernel) ?_
 refine Amv ?_; refine Anc ?_; refine Afa ?_; refine Ald ?_; refine Ala ?_
 refine AD.nil ?_
 refine DP.one (k := 5) (by decide +kernel) rfl ?_
 refine OL.popC rfl rfl rfl (POp.callIn (.mk' rfl rfl rfl rfl rfl) (AVleL.refl _) (p166 K hW h) (fun e he => by repeat (first | exact hm e he | apply List.mem_cons_of_mem))) ?_
 refine OL.nil (Done.dp ?_)
 refine DP.one (k := 6) (by decide +kernel) rfl ?_
 refine Omv ?_
 refine OL.nil (Done.dp ?_)
 refine DP.anyC 7 10 113 rfl (by decide +kernel) rfl rfl (by decide +kernel) ?_
 refine Aex ?_; refine Aex ?_; refine Aas ?_
 refine AD.nil ?_
 refine DP.tailC 10 (by decide +kernel) rfl ?_
 refine Oas ?_; refine S4 ?_; refine Omv ?_; refine S2 ?_
 refine CW.cond rfl (fun h0 => ?_) (fun h0 => ?_)
 ·
  have hi : integerOk kn arg path = true := h0
  refine S2 ?_; refine Omv ?_; refine Obd ?_; refine Sto ?_; refine S4 ?_
  refine Done.retR (rs := [.cell 4 97]) (H' := mdlH W mb xb bv ov st.1 st.2 (sceneH mb kn :: Hx)) rfl ((by first | exact .cellA inferInstance rfl (by repeat (first | exact .head _ | refine .tail _ ?_)) rfl rfl (.nil) | exact .ptrA inferInstance rfl rfl (.nil))) (AVleL.refl _) (by first | exact .cons_cons _ (.cons_cons _ (.cons_cons _ (.cons_cons _ (.cons _ (.refl _))))) | exact .cons_cons _ (.cons_cons _ (.cons_cons _ (.cons_cons _ (.cons _ (.cons _ (.refl _))))))) ?_
  exact ⟨bv, ov, by rw [value_int hi]; rfl, by rw [value_int hi]⟩
 ·
  have hi : integerOk kn arg path = false := h0
  refine S4 ?_
  refine CW.dp mixed ?_
  refine DP.anyC 0 5 113 rfl (by decide +kernel) rfl rfl (by decide +kernel) ?_
  refine Amv ?_; refine Anc ?_; refine Afa ?_; refine Ald ?_; refine Ala ?_
  refine AD.nil ?_
  refine DP.tailC 5 (by decide +kernel) rfl ?_
  refine OL.popC rfl rfl rfl (POp.callIn (.mk' rfl rfl rfl rfl rfl) (AVleL.refl _) (p167 K hW h) (fun e he => by repeat (first | exact hm e he | apply List.mem_cons_of_mem))) ?_
  refine S2 ?_
  refine CW.cond rfl (fun h1 => ?_) (fun h1 => ?_)
  ·
   have hno : noneOk kn arg path = true := h1
   refine S2 ?_; refine Obd ?_; refine Sto ?_; refine S4 ?_
   refine Done.retR (rs := [.cell 4 97]) (H' := mdlH W mb xb bv ov st.1 st.2 (sceneH mb kn :: Hx)) rfl ((by first | exact .cellA inferInstance rfl (by repeat (first | exact .head _ | refine .tail _ ?_)) rfl rfl (.nil) | exact .ptrA inferInstance rfl rfl (.nil))) (AVleL.refl _) (by first | exact .cons_cons _ (.cons_cons _ (.cons_cons _ (.cons_cons _ (.cons _ (.refl _))))) | exact .cons_cons _ (.cons_cons _ (.cons_cons _ (.cons_cons _ (.cons _ (.cons _ (.refl _))))))) ?_
   exact ⟨bv, ov, by rw [value_none hi hno]; rfl, by rw [value_none hi hno]⟩
  ·
   have hno : noneOk kn arg path = false := h1
   refine S3 ?_
   refine CW.dp mixed ?_
   refine DP.anyC 0 5 113 rfl (by decide +kernel) rfl rfl (by decide +kernel) ?_
   refine Amv ?_; refine Anc ?_; refine Afa ?_; refine Ald ?_; refine Ala ?_
   refine AD.nil ?_
   refine DP.one (k := 5) (by decide +kernel) rfl ?_
   refine OL.popC rfl rfl rfl (POp.callIn (.mk' rfl rfl rfl rfl rfl) (AVleL.refl _) (p168d K hw d path h hd) (fun e he => by repeat (first | exact hm e he | apply List.mem_cons_of_mem))) ?_
   refine OL.nil (Done.dp ?_)
   refine DP.one (k := 6) (by decide +kernel) rfl ?_
   refine Omv ?_
   refine OL.nil (Done.dp ?_)
   refine DP.anyC 7 10 113 rfl (by decide +kernel) rfl rfl (by decide +kernel) ?_
   refine Aex ?_; refine Aex ?_; refine Aas ?_
   refine AD.nil ?_
   refine DP.tailC 10 (by decide +kernel) rfl ?_
   refine Oas ?_; refine S3 ?_
   have hs64 := objK_lt (W := W) (kn := kn) (can := childCan W kn arg d) (arg := arg) (path := path)
   generalize hset : (objectK W kn (childCan W kn arg d) arg path).1 = set at hs64 ⊢
   refine S1 ?_; refine Omv ?_; refine Onc ?_; refine Ofa ?_; refine Old ?_
   refine OL.popC rfl rfl rfl (POp.lenR rfl rfl rfl (.tail _ (.tail _ (.head _)))) ?_
   refine Oas ?_; refine S3 ?_
   refine CW.le 9 (y := .i (st.2.length : Int)) rfl (AVle.eqI (by rw [List.length_map])) ?_
   refine CW.dp mixed ?_
   refine DP.anyH [⟨7, 54, false⟩, ⟨10, 57, true⟩] (bv) (fun (g : Value) (vs : List (Option Value)) => match vs with | [none, none] => mdlH W mb xb bv ov st.1 st.2 (sceneH mb kn :: .blk cb 97 [.i 0, .i 0] :: Hx) | [some _, none] => mdlH W mb xb g ov (classP W st.1 set).2 st.2 (sceneH mb kn :: .blk cb 97 [.i 0, .i 0] :: Hx) | [some _, some v] => .blk xb 154 [sceneP W mb, .val g, .val ov] :: .row 135 1 g ((classP W st.1 set).2.map fun s => [AV.set s]).length ((classP W st.1 set).2.map fun s => [AV.set s]).flatten :: .row 160 2 v ((st.2.map fun o => [AV.i o.1, AV.vals o.2]).length + 1) ((st.2.map fun o => [AV.i o.1, AV.vals o.2]).flatten ++ [AV.i (classP W st.1 set).1, AV.vals []]) :: (sceneH mb kn :: .blk cb 97 [.i 0, .i 0] :: Hx) | _ => []) 0 11 113 rfl (by decide +kernel) (by decide +kernel) rfl rfl (by decide +kernel) rfl ?_
   refine UD.popG [[true, true], [true, false], [false, false]] rfl (by decide +kernel) rfl rfl rfl ⟨fun g f => POp.move rfl rfl rfl, fun g f => POp.move rfl rfl rfl, fun g f => POp.move rfl rfl rfl, trivial⟩ ?_
   refine UD.popG [[true, false], [false, false]] rfl (by decide +kernel) rfl rfl rfl ⟨fun g f => POp.move rfl rfl rfl, fun g f => POp.move rfl rfl rfl, trivial⟩ ?_
   refine UD.popG [[true, false], [false, false]] rfl (by decide +kernel) rfl rfl rfl ⟨fun g f => (by first | exact POp.nilCheck rfl rfl rfl | exact POp.nilCheckP rfl rfl rfl | exact POp.nilCheckF rfl rfl rfl), fun g f => (by first | exact POp.nilCheck rfl rfl rfl | exact POp.nilCheckP rfl rfl rfl | exact POp.nilCheckF rfl rfl rfl), trivial⟩ ?_
   refine UD.popG [[true, false], [false, false]] rfl (by decide +kernel) rfl rfl rfl ⟨fun g f => (by first | exact POp.fa rfl rfl rfl rfl | exact POp.faP rfl rfl rfl rfl), fun g f => (by first | exact POp.fa rfl rfl rfl rfl | exact POp.faP rfl rfl rfl rfl), trivial⟩ ?_
   refine UD.popG [[true, false], [false, false]] rfl (by decide +kernel) rfl rfl rfl ⟨fun g f => (by first | exact POp.ld1 rfl rfl rfl rfl | (apply POp.ld1H rfl rfl rfl; (case hm => repeat (first | exact .head _ | refine .tail _ ?_)); (case hy => rfl))), fun g f => (by first | exact POp.ld1 rfl rfl rfl rfl | (apply POp.ld1H rfl rfl rfl; (case hm => repeat (first | exact .head _ | refine .tail _ ?_)); (case hy => rfl))), trivial⟩ ?_
   refine UD.popG [[false, false]] rfl (by decide +kernel) rfl rfl rfl ⟨fun g f => POp.move rfl rfl rfl, trivial⟩ ?_
   refine UD.popG [[false, false]] rfl (by decide +kernel) rfl rfl rfl ⟨fun g f => POp.move rfl rfl rfl, trivial⟩ ?_
   refine UD.effG 0 [[false, false]] rfl rfl rfl (by decide +kernel) rfl rfl rfl ⟨fun g f => FOk.bcall (.mk' rfl rfl rfl rfl rfl) (fun B => b169 hw mb xb bv ov st.1 st.2 set (by omega) (sceneH mb kn :: .blk cb 97 [.i 0, .i 0] :: Hx) B) (fun y H1 ⟨bv2, e1, e2⟩ => ⟨bv2, e1, fun v => e2.symm⟩), trivial⟩ ?_
   refine UD.popG [[true, false]] rfl (by decide +kernel) rfl rfl rfl ⟨fun g f => POp.build' rfl rfl (by first | rfl | simp_all [strip]) rfl, trivial⟩ ?_
   refine UD.popG [[true, false]] rfl (by decide +kernel) rfl rfl rfl ⟨fun g f => POp.row rfl rfl (by first | rfl | simp_all [strip]) rfl rfl rfl rfl rfl rfl, trivial⟩ ?_
   refine UD.effG 1 [[true, false]] rfl rfl rfl (by decide +kernel) rfl rfl rfl ⟨fun g f => FOk.app (news := [[AV.i (classP W st.1 set).1, AV.vals []]]) g rfl rfl rfl rfl rfl (AVle.sl (.cons (.cons (.refl _) (.cons (AVle.nil 2) .nil)) .nil)) (by simp) rfl (fun v => .tail _ _ _ _ _ (.tail _ _ _ _ _ (.head _ _ _))) (by simp only [List.length_cons, List.length_nil]; omega) (by simp only [List.length_cons, List.length_nil]; omega), trivial⟩ ?_
   refine UD.nil (fun g f => ?_)
   simp only [CE.vals, List.map_cons, List.map_nil, List.cons_append, List.nil_append]
   generalize f 57 = v57
   refine DP.tailC 11 (by decide +kernel) rfl ?_
   refine Onc ?_; refine Ofa ?_
   refine OL.rowOne (v := v57) (.tail _ (.tail _ (.head _))) (fun hv57 => ?_)
   apply OL.stoC rfl rfl rfl rfl rfl rfl rfl (one_bOk hv57) (one_all hv57) rfl
   (case hu => repeat (first | exact Upd.head _ _ _ | apply Upd.tail)); (case hfit => rfl); (case hds => rfl)
   refine S3 ?_
   refine CW.eqH (H' := mdlH W mb xb g v57 (classP W st.1 set).2 (st.2 ++ [((classP W st.1 set).1, [])]) (sceneH mb kn :: .blk cb 97 [.i 0, .i 0] :: Hx)) (by simp [bcells]) ?_
   refine S1 ?_; refine Oas ?_; refine S4 ?_
   refine CW.ownNil 10 97 2 rfl ?_
   refine CW.perm (H' := mdlH W mb xb g v57 (classP W st.1 set).2 (st.2 ++ [((classP W st.1 set).1, [])]) (sceneH mb kn :: .own 97 2 (.slice none 0 0) :: .blk cb 97 [.i 0, .i 0] :: Hx)) ((List.perm_middle (l₁ := [_, _, _, _])).symm) ?_
   refine S1 ?_; refine Omv ?_; refine Onc ?_; refine Ofa ?_; refine Old ?_; refine Onc ?_; refine Ofa ?_; refine Old ?_; refine Onc ?_; refine Ofa ?_; refine Ofa ?_; refine Old ?_
   refine Oln ?_; refine Omv ?_; refine S3 ?_
   refine lj (fun m st' => ∃ (k : Nat) (v bv ov : Value) (acc : List (Int × Int) × MSt), acc = slotsV W kn arg rec set path ((classP W st.1 set).2, st.2 ++ [((classP W st.1 set).1, [])]) k ∧ st' = ⟨[(72, .i k), (71, .i W.owner.length), (70, AV.ints W.owner), (10, .as (AV.vals acc.1) v), (9, .i st.2.length), (7, AV.set set), (0, .p xb 0), (3, .ptr (spotCells arg path)), (4, .p cb 0)], mdlH W mb xb bv ov acc.2.1 acc.2.2 (sceneH mb kn :: .own 97 2 v :: .blk cb 97 [.i 0, .i 0] :: Hx)⟩ ∧ m = W.owner.length - k ∧ k ≤ W.owner.length) (⟨0, _, _, _, _, rfl, rfl, rfl, Nat.zero_le _⟩) ?_
   rintro m _ ⟨k, v, bv1, ov1, acc, hacc, rfl, rfl, hk⟩
   have hgr := slots_grow (W := W) (set := set) (st := ((classP W st.1 set).2, st.2 ++ [((classP W st.1 set).1, [])])) hrec k
   rw [← hacc] at hgr
   obtain ⟨⟨hg1, hg2, hg3⟩, hg4⟩ := hgr
   simp only [List.length_append, List.length_singleton] at hg2 hg3
   replace hg1 : acc.2.1.length ≤ (classP W st.1 set).2.length + k * n := hg1
   have hcl := class_len W st.1 set
   have hkn : k * n + n ≤ W.owner.length * n ∨ k = W.owner.length := by rcases Nat.lt_or_ge k W.owner.length with h1 | h1; exact .inl (by rw [← Nat.succ_mul]; exact Nat.mul_le_mul_right n h1); exact .inr (by omega)
   have hWn : W.owner.length * n ≤ 40 * n := Nat.mul_le_mul_right n hW
   have hkn2 : k * n ≤ W.owner.length * n := Nat.mul_le_mul_right n hk
   refine S2 ?_; refine Ocm ?_; refine S3 ?_
   refine CW.cond rfl (fun h2 => ?_) (fun h2 => ?_)
   ·
    replace h2 := nm h2
    have hkl : k < W.owner.length := by omega
    have how := owner_ok hw hkl
    refine S6 ?_; refine Omv ?_; refine Oix ?_; refine Old ?_; refine Oas ?_; refine Oas ?_; refine S5 ?_; refine Omv ?_; refine Omv ?_
    refine OL.popC rfl rfl rfl (POp.call (.mk' rfl rfl rfl rfl rfl) (p107 _ _ (by omega) hs64)) ?_
    refine Ont ?_; refine S2 ?_
    refine CW.cond rfl (fun h3 => ?_) (fun h3 => ?_)
    ·
     have hb : set.testBit (W.owner.getD k default).toNat = false := by simpa using h3
     refine S4 ?_
     refine S1 ?_; refine Oar ?_; refine Omv ?_; refine S1 ?_
     exact ag (⟨k + 1, v, bv1, ov1, acc, by rw [slotsV_succ, ← hacc, slotV, if_neg (by rw [hb]; simp)], rfl, rfl, by omega⟩)
    ·
     have hb : set.testBit (W.owner.getD k default).toNat = true := by simpa using h3
     refine S4 ?_; refine Obd ?_
     refine OL.alC rfl rfl rfl rfl (fun vb => ?_)
     refine Sto ?_; refine S4 ?_
     refine CW.perm (H' := mdlH W mb xb bv1 ov1 acc.2.1 acc.2.2 (sceneH mb kn :: .blk vb 97 [.i 2, .i 0] :: .own 97 2 v :: .blk cb 97 [.i 0, .i 0] :: Hx)) ((List.perm_middle (l₁ := [_, _, _, _])).symm) ?_
     refine CW.dp mixed ?_
     refine DP.anyC 0 10 113 rfl (by decide +kernel) rfl rfl (by decide +kernel) ?_
     refine Amv ?_; refine Anc ?_; refine Afa ?_; refine Ald ?_; refine Ala ?_
     refine AD.popC rfl rfl rfl (POp.callIn (.mk' rfl rfl rfl rfl rfl) (AVleL.refl _) (p170 W mb kn arg path (goodKey_of h)) (fun e he => by repeat (first | exact hm e he | apply List.mem_cons_of_mem))) ?_
     refine Anc ?_; refine Afa ?_; refine Ald ?_; refine Amv ?_
     refine AD.nil ?_
     refine DP.tailC 10 (by decide +kernel) rfl ?_
     refine OL.popC rfl rfl rfl (POp.call (.mk' rfl rfl rfl rfl rfl) (p33 _ _)) ?_
     refine S2 ?_
     refine CW.cond rfl (fun h4 => ?_) (fun h4 => ?_)
     ·
      have hc : (kn (keyS arg path)).slots.contains (k : Int) = true := h4
      have hmem := List.contains_iff_mem.1 hc
      have hnx := kn_next K hW h hmem
      refine S1 ?_; refine Omv ?_; refine Ola ?_; refine Omv ?_
      refine OL.popC rfl rfl rfl (POp.call (.mk' rfl rfl rfl rfl rfl) (p171 arg path (k : Int) hnx.1)) ?_
      refine OL.bcallC rfl rfl rfl (.mk' rfl rfl rfl rfl rfl) (ih (k : Int) hmem bv1 ov1 acc.2 (.blk vb 97 [.i 2, .i 0] :: .own 97 2 v :: .blk cb 97 [.i 0, .i 0] :: Hx) _ (by omega) (by omega)) ?_
      rintro y H1 ⟨bv2, ov2, rfl, rfl⟩
      refine Sto ?_; refine S3 ?_; refine Omv ?_; refine Ola ?_
      refine OL.popC rfl rfl rfl (POp.row rfl rfl (by first | rfl | simp_all [strip]) rfl rfl rfl rfl rfl rfl) ?_
      refine OL.appendC rfl rfl rfl rfl rfl rfl rfl rfl (AVle.refl _) (rfl) (fun v => by repeat (first | exact Upd.head _ _ _ | apply Upd.tail)) (by show (List.length (List.map _ _) + 1) * 16 ≤ _; rw [List.length_map]; omega) (by show List.length (List.map _ _) + 1 ≤ _; rw [List.length_map]; omega) (fun v101 => ?_)
      refine Oas ?_; refine S3 ?_
      refine CW.perm (List.perm_middle (l₁ := [_, _, _, _])) ?_
      refine CW.le 10 (y := .as (AV.vals (acc.1 ++ [(rec acc.2 (path ++ [(k : Int)])).1])) v101) rfl (by rw [AV.vals, List.map_append]; exact AVle.refl _) ?_
      refine S1 ?_; refine Oar ?_; refine Omv ?_; refine S1 ?_
      exact ag (⟨k + 1, v101, bv2, ov2, (acc.1 ++ [(rec acc.2 (path ++ [(k : Int)])).1], (rec acc.2 (path ++ [(k : Int)])).2), by rw [slotsV_succ, ← hacc, slotV, if_pos hb, if_pos hc], rfl, rfl, by omega⟩)
     ·
      have hc : (kn (keyS arg path)).slots.contains (k : Int) = false := h4
      refine S3 ?_; refine Omv ?_; refine Ola ?_
      refine OL.popC rfl rfl rfl (POp.row rfl rfl (by first | rfl | simp_all [strip]) rfl rfl rfl rfl rfl rfl) ?_
      refine OL.appendC rfl rfl rfl rfl rfl rfl rfl rfl (AVle.refl _) (rfl) (fun v => by repeat (first | exact Upd.head _ _ _ | apply Upd.tail)) (by show (List.length (List.map _ _) + 1) * 16 ≤ _; rw [List.length_map]; omega) (by show List.length (List.map _ _) + 1 ≤ _; rw [List.length_map]; omega) (fun v101 => ?_)
      refine Oas ?_; refine S3 ?_
      refine CW.perm (List.perm_middle (l₁ := [_, _, _, _])) ?_
      refine CW.le 10 (y := .as (AV.vals (acc.1 ++ [(2, 0)])) v101) rfl (by rw [AV.vals, List.map_append]; exact AVle.refl _) ?_
      refine S1 ?_; refine Oar ?_; refine Omv ?_; refine S1 ?_
      exact ag (⟨k + 1, v101, bv1, ov1, (acc.1 ++ [(2, 0)], acc.2), by rw [slotsV_succ, ← hacc, slotV, if_pos hb, if_neg (by rw [hc]; simp)], rfl, rfl, by omega⟩)
   ·
    replace h2 := nm h2
    obtain rfl : k = W.owner.length := by omega
    have hval := value_obj (st := st) hi hno hset hacc
    have hol : st.2.length < acc.2.2.length := by omega
    have hob2 : (acc.2.2.map fun o => [AV.i o.1, AV.vals o.2]).length = acc.2.2.length := List.length_map _
    refine S6 ?_
    refine CW.le 10 rfl (AVle.asL _ _) ?_
    refine CW.rowBlk (t := 160) (by omega) (fun b cap more => .tail _ _ _ _ _ (.tail _ _ _ _ _ (.head _ _ _))) (fun ob ocap omore e1 e2 e3 e4 e5 => ?_)
    subst e1
    refine S1 ?_; refine Omv ?_; refine Onc ?_; refine Ofa ?_; refine Old ?_; refine Omv ?_; refine Omv ?_
    refine OL.popC rfl rfl rfl (POp.ixC rfl rfl rfl rfl rfl (by omega)) ?_
    refine Ofa ?_
    apply OL.stoC rfl rfl rfl rfl rfl rfl rfl rfl rfl rfl
    (case hu => repeat (first | exact Upd.head _ _ _ | apply Upd.tail)); (case hfit => exact Nat.ble_eq_true_of_le (by rw [List.length_append, obj_len]; simp [bcells]; omega)); (case hds => exact obj_set hol _)
    refine S3 ?_
    refine CW.blkRow e2 e3 (by rw [← e4, List.length_append, List.length_append, obj_len, obj_len, List.length_set]) (by rw [obj_len, List.length_set, hob2]) (.tail _ _ _ _ _ (.tail _ _ _ _ _ (.head _ _ _))) ?_
    refine CW.eqH (H' := mdlH W mb xb bv1 (.slice (some ⟨ob, 0, none⟩) (acc.2.2.map fun o => [AV.i o.1, AV.vals o.2]).length ocap) acc.2.1 (acc.2.2.set st.2.length ((acc.2.2.getD st.2.length default).1, acc.1)) (sceneH mb kn :: .own 97 2 v :: .blk cb 97 [.i 0, .i 0] :: Hx)) (by simp only [mdlH, List.length_map, List.length_set]) ?_
    refine S1 ?_; refine Omv ?_; refine Obd ?_; refine Sto ?_; refine S3 ?_
    refine Done.retR (rs := [.cell 4 97]) (H' := mdlH W mb xb bv1 (.slice (some ⟨ob, 0, none⟩) (acc.2.2.map fun o => [AV.i o.1, AV.vals o.2]).length ocap) acc.2.1 (acc.2.2.set st.2.length ((acc.2.2.getD st.2.length default).1, acc.1)) (sceneH mb kn :: Hx)) rfl ((by first | exact .cellA inferInstance rfl (by repeat (first | exact .head _ | refine .tail _ ?_)) rfl rfl (.nil) | exact .ptrA inferInstance rfl rfl (.nil))) (AVleL.refl _) (by first | exact .cons_cons _ (.cons_cons _ (.cons_cons _ (.cons_cons _ (.cons _ (.refl _))))) | exact .cons_cons _ (.cons_cons _ (.cons_cons _ (.cons_cons _ (.cons _ (.cons _ (.refl _))))))) ?_
    exact ⟨_, _, by rw [hval]; rfl, by rw [hval]⟩
end Go.Proofs.YtiljpbljebfhnaaGreat
