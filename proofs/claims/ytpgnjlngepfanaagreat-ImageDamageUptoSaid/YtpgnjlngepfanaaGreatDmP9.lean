/- Part 9 of the proof: contracts of functions of the program and what they need. No condition beyond those that each theorem names. -/
import Derived.Test.YtpgnjlngepfanaaGreatDmP8
set_option linter.unusedVariables false
set_option linter.unusedSimpArgs false
set_option maxRecDepth 10000
namespace Go.Proofs.YtpgnjlngepfanaaGreat
open Go.Eng
open Go.Eng.Fc
open Go.Eng.Bd
theorem found_cases {α : Type} {J Jx : List α → List Ent → Prop} {l : List α} {Hx : List Ent} {y : AV} {H' : List Ent} (h : FoundAt J Jx l Hx y H') : ∃ (n : Int) (H1 : List Ent), y = .i n ∧ H' = H1 ++ Hx ∧ (decide (n ≥ 0) = false → J l H1) ∧ (decide (n ≥ 0) = true → ∃ pre, pre <+: l ∧ Jx pre H1) := by
 obtain ⟨H1, rfl, h⟩ := h
 rcases h with ⟨rfl, h⟩ | ⟨pre, x, rest, rfl, rfl, h⟩
 ·exact ⟨-1, H1, rfl, rfl, fun _ => h, fun h => by simp at h⟩
 ·exact ⟨pre.length, H1, rfl, rfl, fun h => by simp at h, fun _ => ⟨pre ++ [x], ⟨rest, by simp⟩, h⟩⟩
theorem b76 {B : Nat} {f : Fn} {fs cs : List AV} {F : List Ent → Prop} {J Jx : List Fact → List Ent → Prop} (l : List Fact) (hg : FindOk B Tryz.prog (.fn f fs cs) AV.fact l F J Jx) (H Hx : List Ent) (hF : F Hx) (hJ : J [] H) :
  BCall B Tryz.prog 291 [.sl 6 (encFs l), .fn f fs cs] (H ++ Hx) (fun y H' => ∃ b H1, y = .b b ∧ H' = H1 ++ Hx ∧ (b = false → J l H1) ∧ (b = true → ∃ pre, pre <+: l ∧ Jx pre H1)) (fun _ _ => False) := by
 refine BCall.of (n := 9) Tryz.func291 rfl (by kernel_rfl) rfl rfl (fun I w0 => ?_)
 refine S2 ?_; refine Oas ?_; refine S4 ?_; refine Omv ?_; refine Omv ?_
 refine OL.bcallC rfl rfl rfl (.mk' rfl rfl rfl rfl rfl) (b130 l hg H Hx hF hJ) ?_
 intro y H' hy
 obtain ⟨n, H1, rfl, rfl, hn⟩ := found_cases hy
 refine Ocm ?_; refine Oas ?_; refine S3 ?_
 refine Done.retR (rs := [.tmp 4]) rfl (.tmp rfl (.nil)) (AVleL.refl _) (by repeat (first | exact List.Sublist.refl _ | refine List.Sublist.cons _ ?_)) ?_
 exact ⟨decide (n ≥ 0), H1, rfl, rfl, hn⟩
theorem b209 {B : Nat} {f : Fn} {fs cs : List AV} {J Jx : List Fact → List Ent → Prop} {L : List Fact} (hg : CbOk B Tryz.prog (.fn f fs cs) AV.fact L (fun _ => True) J Jx) (pre : List Fact) (x : Fact) (H Hx : List Ent) (hpx : pre ++ [x] <+: L) (hJ : J pre H) :
  BCall B Tryz.prog 292 [AV.fact x, .ptr [.fn f fs cs]] (H ++ Hx) (fun y H' => ∃ b H1, y = .b b ∧ H' = H1 ++ Hx ∧ (b = false → J (pre ++ [x]) H1) ∧ (b = true → Jx (pre ++ [x]) H1)) (fun _ _ => False) := by
 refine BCall.of (n := 8) Tryz.func292 rfl (by kernel_rfl) rfl rfl (fun I w0 => ?_)
 refine S2 ?_; refine Obx ?_; refine Oas ?_; refine S4 ?_; refine Old ?_; refine Ola ?_
 refine OL.vcallC rfl rfl rfl rfl rfl rfl rfl rfl (AVleL.refl _) (hg pre x H Hx hpx trivial hJ) ?_
 rintro _ _ ⟨b, H1, rfl, rfl, h1, h2⟩
 refine Ont ?_; refine Oas ?_; refine S3 ?_
 refine Done.retR (rs := [.tmp 3]) rfl (.tmp rfl (.nil)) (AVleL.refl _) (by repeat (first | exact List.Sublist.refl _ | refine List.Sublist.cons _ ?_)) ?_
 exact ⟨!b, H1, rfl, rfl, fun h => h1 (by simpa using h), fun h => h2 (by simpa using h)⟩
theorem b180 {B : Nat} {f : Fn} {fs cs : List AV} {J Jx : List Fact → List Ent → Prop} (l : List Fact) (hg : CbOk B Tryz.prog (.fn f fs cs) AV.fact l (fun _ => True) J Jx) (H Hx : List Ent) (hJ : J [] H) :
  BCall B Tryz.prog 276 [.sl 6 (encFs l), .fn f fs cs] (H ++ Hx) (fun y H' => ∃ b H1, y = .b b ∧ H' = H1 ++ Hx ∧ (b = true → J l H1) ∧ (b = false → ∃ pre, pre <+: l ∧ Jx pre H1)) (fun _ _ => False) := by
 refine BCall.of (n := 9) Tryz.func276 rfl (by kernel_rfl) rfl rfl (fun I w0 => ?_)
 refine S2 ?_; refine Obx ?_; refine Oas ?_; refine S4 ?_; refine Omv ?_; refine Omf ?_
 refine OL.bcallC rfl rfl rfl (.mk' rfl rfl rfl rfl rfl) (b76 (F := fun _ => True) (J := J) (Jx := Jx) l (fun pre x H Hx hpx _ hJ => VCall.fnB (b209 hg pre x H Hx hpx hJ)) H Hx trivial hJ) ?_
 rintro _ _ ⟨b, H1, rfl, rfl, h1, h2⟩
 refine Ont ?_; refine Oas ?_; refine S3 ?_
 refine Done.retR (rs := [.tmp 4]) rfl (.tmp rfl (.nil)) (AVleL.refl _) (by repeat (first | exact List.Sublist.refl _ | refine List.Sublist.cons _ ?_)) ?_
 exact ⟨!b, H1, rfl, rfl, fun h => h1 (by simpa using h), fun h => h2 (by simpa using h)⟩
theorem p126 (W : FW) (l : List Int) : PCall Tryz.prog 295 [Wptr W, AV.ints l] (.b (pathP W l)) := by
 intro H
 refine ACall.mk' (n := 14) Tryz.func295 rfl (by kernel_rfl) rfl rfl (fun B I w0 => ?_)
 refine CW.boundM (t := 1) rfl (fun hb => ?_)
 refine S2 ?_; refine Oas ?_; refine S4 ?_; refine Omv ?_; refine Oln ?_; refine Ocm ?_; refine Omv ?_; refine Pmv ?_; refine Pmv ?_; refine Pmf ?_
 refine OL.guardC rfl rfl rfl rfl rfl rfl (fun hg => POp.call (.mk' rfl rfl rfl rfl (by first | rfl | ((repeat (first | exact hg | rfl | refine Bool.and_eq_true_iff.2 ⟨?_, ?_⟩)); done) | simp_all [strip, constAV])) (p152 (.of (p177 W)) l)) ?_
 refine Opk ?_; refine Oas ?_; refine S3 ?_
 refine r1 4 (H) ?_
 exact ⟨retB (by unfold pathP; by_cases h : l.length ≤ 2 <;> simp [h] <;> omega), rfl⟩
def NodeC (B : Nat) (W : FW) (deep : Int) : Prop := ∀ (f : Fact) (left : Int) (b : Nat) (Hx : List Ent), 0 ≤ left ∧ left ≤ 1000 →
 BCall B Tryz.prog 278 [Wptr W, AV.fact f, .p b 0, .i deep] (.blk b 3 [.i left] :: Hx) (fun y H' => y = .b (nodeP W f left deep).1 ∧ H' = .blk b 3 [.i (nodeP W f left deep).2] :: Hx) (fun _ _ => False)
theorem b211 {B : Nat} {W : FW} {deep : Int} (hd : 0 < deep ∧ deep ≤ 1000) (ih : NodeC B W (deep - 1)) (f : Fact) (left : Int) (b : Nat) (Hx : List Ent) (hl : 0 ≤ left ∧ left ≤ 1000) :
  BCall B Tryz.prog 297 [AV.fact f, .ptr [Wptr W], .ptr [.p b 0], .ptr [.i deep]] (.blk b 3 [.i left] :: Hx) (fun y H' => y = .b (nodeP W f left (deep - 1)).1 ∧ H' = .blk b 3 [.i (nodeP W f left (deep - 1)).2] :: Hx) (fun _ _ => False) := by
 refine BCall.of (n := 12) Tryz.func297 rfl (by kernel_rfl) rfl rfl (fun I w0 => ?_)
 refine S2 ?_; refine Obx ?_; refine Oas ?_; refine S4 ?_; refine Old ?_; refine Ola ?_; refine Old ?_; refine Old ?_; refine Oar ?_
 refine OL.bcallC rfl rfl rfl (.mk' rfl rfl rfl rfl rfl) (ih f left b Hx hl) ?_
 rintro _ _ ⟨rfl, rfl⟩
 refine Oas ?_; refine S3 ?_
 refine Done.retR (rs := [.tmp 5]) rfl (.tmp rfl (.nil)) (AVleL.refl _) (by repeat (first | exact List.Sublist.refl _ | refine List.Sublist.cons _ ?_)) ?_
 exact ⟨rfl, rfl⟩
theorem nodesCb {B : Nat} {W : FW} {deep : Int} (hd : 0 < deep ∧ deep ≤ 1000) (ih : NodeC B W (deep - 1)) (left : Int) (hl : 0 ≤ left ∧ left ≤ 1000) (b : Nat) (L : List Fact) :
  CbOk B Tryz.prog (.fn (.func 297) [] [.ptr [Wptr W], .ptr [.p b 0],   .ptr [.i deep]]) AV.fact L (fun _ => True) (fun pre H => H = [.blk b 3 [.i (nodesP W pre left (deep - 1)).2]] ∧ (nodesP W pre left (deep - 1)).1 = true) (fun pre H => H = [.blk b 3 [.i (nodesP W pre left (deep - 1)).2]] ∧ (nodesP W pre left (deep - 1)).1 = false) := by
 rintro pre x H Hx _ _ ⟨rfl, hp⟩
 have h1 := nodesP_left W pre left (deep - 1) hl.1
 refine VCall.mono (VCall.fnB (b211 hd ih x _ b Hx ⟨h1.2 hp, by omega⟩)) ?_ (fun _ _ h => h)
 rintro _ _ ⟨rfl, rfl⟩
 have h2 := nodesP_snoc W (deep - 1) x pre left hp
 exact ⟨_, [.blk b 3 [.i (nodeP W x (nodesP W pre left (deep - 1)).2 (deep - 1)).2]], rfl, rfl, fun h => ⟨by rw [h2], by rw [h2]; exact h⟩, fun h => ⟨by rw [h2], by rw [h2]; exact h⟩⟩
theorem nodes_end {W : FW} {deep left : Int} {l : List Fact} {b : Nat} {bb : Bool} {H1 : List Ent} (h1 : bb = true → H1 = [.blk b 3 [.i (nodesP W l left (deep - 1)).2]] ∧ (nodesP W l left (deep - 1)).1 = true)
  (h2 : bb = false → ∃ pre, pre <+: l ∧ H1 = [.blk b 3 [.i (nodesP W pre left (deep - 1)).2]] ∧ (nodesP W pre left (deep - 1)).1 = false) : bb = (nodesP W l left (deep - 1)).1 ∧ H1 = [.blk b 3 [.i (nodesP W l left (deep - 1)).2]] := by
 cases bb with
 | true => obtain ⟨e1, e2⟩ := h1 rfl; exact ⟨e2.symm, e1⟩
 | false =>
  obtain ⟨pre, ⟨rest, rfl⟩, e1, e2⟩ := h2 rfl
  rw [nodesP_stop W (deep - 1) rest pre left e2]
  exact ⟨e2.symm, e1⟩
theorem bad_false {f : Fact} {left deep : Int} (h : badP f left deep = false) (hd : 0 ≤ deep) (hl : left ≤ 1000) : (0 ≤ left ∧ left ≤ 1000) ∧ 0 < deep := by
 simp only [badP, Bool.or_eq_false_iff, decide_eq_false_iff_not, beq_eq_false_iff_ne, ne_eq] at h
 omega
theorem node_bad {W : FW} {f : Fact} {left deep : Int} (h : badP f (left - 1) deep = true) : nodeP W f left deep = (false, left - 1) := by rw [nodeP_eq, if_pos h]
theorem node_leaf {W : FW} {f : Fact} {left deep : Int} (h : badP f (left - 1) deep = false) (h1 : leafP f = true) : nodeP W f left deep = (argP W f && leafOkP W f, left - 1) := by rw [nodeP_eq, if_neg (by simp [h]), if_pos h1]
theorem node_notPlain {W : FW} {f : Fact} {left deep : Int} (h : badP f (left - 1) deep = false) (h1 : leafP f = false) (h2 : plainP f = false) : nodeP W f left deep = (false, left - 1) := by rw [nodeP_eq, if_neg (by simp [h]), if_neg (by simp [h1]), if_neg (by simp [h2])]
theorem node_plain {W : FW} {f : Fact} {left deep : Int} (h : badP f (left - 1) deep = false) (h1 : leafP f = false) (h2 : plainP f = true) : nodeP W f left deep = nodesP W f.kids (left - 1) (deep - 1) := by rw [nodeP_eq, if_neg (by simp [h]), if_neg (by simp [h1]), if_pos h2]
theorem leafOk_is {W : FW} {f : Fact} (h : f.op = 2) : leafOkP W f = ((f.n == 0) && classP W f.cls) := by rw [leafOkP, if_pos h]
theorem leafOk_not {W : FW} {f : Fact} (h : ¬ f.op = 2) : leafOkP W f = ((f.cls == 0) && decide (f.n ≥ -1000000000) && decide (f.n ≤ 1000000000)) := by rw [leafOkP, if_neg h]
theorem bif_and (a b : Bool) : (bif a then b else false) = (a && b) := by cases a <;> rfl
theorem bif_or (a b : Bool) : (bif a then true else b) = (a || b) := by cases a <;> rfl
theorem b182_step {B : Nat} {W : FW} {deep : Int} (hW : W.parents.length ≤ 60) (hd : 0 ≤ deep ∧ deep ≤ 1000) (ih : 0 < deep → NodeC B W (deep - 1)) : NodeC B W deep := by
 intro f left b Hx hl
 refine BCall.of (n := 110) Tryz.func278 rfl (by kernel_rfl) rfl rfl (fun I w0 => ?_)
 refine CW.boundA (t := 1) (i := 5) rfl rfl (fun hbk => ?_)
 refine CW.boundA (t := 1) (i := 2) rfl rfl (fun hbp => ?_)
 refine S2 ?_; refine Obx ?_; refine Obx ?_; refine Obx ?_; refine Obx ?_; refine Oas ?_; refine S5 ?_; refine Old ?_; refine Onc ?_; refine Old ?_; refine Oar ?_; refine Onc ?_
 refine Sto ?_; refine S3 ?_
 refine CW.dp mixed ?_
 refine DP.one (k := 0) (by decide +kernel) rfl ?_
 refine Old ?_
 refine OL.nil (Done.dp ?_)
 refine DP.one (k := 1) (by decide +kernel) rfl ?_
 refine Onc ?_
 refine OL.nil (Done.dp ?_)
 refine DP.one (k := 2) (by decide +kernel) rfl ?_
 refine Old ?_
 refine OL.nil (Done.dp ?_)
 refine DP.one (k := 3) (by decide +kernel) rfl ?_
 refine Ocm ?_
 refine OL.nil (Done.dp ?_)
 refine DP.one (k := 4) (by decide +kernel) rfl ?_
 refine Omv ?_
 refine OL.nil (Done.dp ?_)
 refine DP.one (k := 5) (by decide +kernel) rfl ?_
 refine Pld ?_
 refine OL.nil (Done.dp ?_)
 refine DP.one (k := 6) (by decide +kernel) rfl ?_
 refine Pcm ?_
 refine OL.nil (Done.dp ?_)
 refine DP.one (k := 7) (by decide +kernel) rfl ?_
 refine Opk ?_
 refine OL.nil (Done.dp ?_)
 refine DP.one (k := 8) (by decide +kernel) rfl ?_
 refine Omv ?_
 refine OL.nil (Done.dp ?_)
 refine DP.one (k := 9) (by decide +kernel) rfl ?_
 refine Pfa ?_
 refine OL.nil (Done.dp ?_)
 refine DP.one (k := 10) (by decide +kernel) rfl ?_
 refine Pld ?_
 refine OL.nil (Done.dp ?_)
 refine DP.one (k := 11) (by decide +kernel) rfl ?_
 refine Pcm ?_
 refine OL.nil (Done.dp ?_)
 refine DP.one (k := 12) (by decide +kernel) rfl ?_
 refine Opk ?_
 refine OL.nil (Done.dp ?_)
 refine DP.one (k := 13) (by decide +kernel) rfl ?_
 refine Omv ?_
 refine OL.nil (Done.dp ?_)
 refine DP.one (k := 14) (by decide +kernel) rfl ?_
 refine Pfa ?_
 refine OL.nil (Done.dp ?_)
 refine DP.one (k := 15) (by decide +kernel) rfl ?_
 refine Pld ?_
 refine OL.nil (Done.dp ?_)
 refine DP.one (k := 16) (by decide +kernel) rfl ?_
 refine Pcm ?_
 refine OL.nil (Done.dp ?_)
 refine DP.one (k := 17) (by decide +kernel) rfl ?_
 refine Opk ?_
 refine OL.nil (Done.dp ?_)
 refine DP.one (k := 18) (by decide +kernel) rfl ?_
 refine Omv ?_
 refine OL.nil (Done.dp ?_)
 refine DP.anyC 19 25 110 rfl (by decide +kernel) rfl rfl (by decide +kernel) ?_
 refine AD.guardC rfl rfl rfl rfl rfl (fun hg => (by first | exact POp.fa rfl rfl rfl rfl | exact POp.faP rfl rfl rfl rfl)) ?_
 refine AD.guardC rfl rfl rfl rfl rfl (fun hg => (by first | exact POp.ld1 rfl rfl (gd hg) rfl | (apply POp.ld1H rfl rfl (gd hg); (case hm => repeat (first | exact .head _ | refine .tail _ ?_)); (case hy => rfl)))) ?_
 refine AD.guardC rfl rfl rfl rfl rfl (fun hg => (by first | exact POp.lenM rfl rfl (gd hg) | exact POp.lenA rfl rfl (gd hg) | exact POp.lenV rfl rfl (gd hg) | exact POp.len' rfl rfl (gd hg))) ?_
 refine AD.guardC rfl rfl rfl rfl rfl (fun hg => (by first | exact POp.fa rfl rfl rfl rfl | exact POp.faP rfl rfl rfl rfl)) ?_
 refine AD.guardC rfl rfl rfl rfl rfl (fun hg => (by first | exact POp.ld1 rfl rfl (gd hg) rfl | (apply POp.ld1H rfl rfl (gd hg); (case hm => repeat (first | exact .head _ | refine .tail _ ?_)); (case hy => rfl)))) ?_
 refine AD.guardC rfl rfl rfl rfl rfl (fun hg => POp.call (.mk' rfl rfl rfl rfl (by first | rfl | ((repeat (first | exact hg | rfl | refine Bool.and_eq_true_iff.2 ⟨?_, ?_⟩)); done) | simp_all [strip, constAV])) ((p210 _))) ?_
 refine AD.nil ?_
 refine DP.tailC 25 (by decide +kernel) rfl ?_
 refine Pcm ?_; refine Opk ?_; refine S2 ?_
 refine CW.cond rfl (fun h0 => ?_) (fun h0 => ?_)
 ·
  have hbad : badP f (left - 1) deep = true := by simpa only [badP, bif_or, kidsP] using h0
  have hn := node_bad (W := W) hbad
  refine S2 ?_; refine Oas ?_; refine S4 ?_
  refine Done.retR (rs := [.tmp 8]) rfl (.tmp rfl (.nil)) (AVleL.refl _) (by repeat (first | exact List.Sublist.refl _ | refine List.Sublist.cons _ ?_)) ?_
  exact ⟨retB (by rw [hn]), by rw [hn]; rfl⟩
 ·
  have hbad : badP f (left - 1) deep = false := by simpa only [badP, bif_or, kidsP] using h0
  obtain ⟨hl1, hd1⟩ := bad_false hbad hd.1 (by omega)
  refine S6 ?_; refine Ola ?_
  refine OL.popC rfl rfl rfl (POp.call (.mk' rfl rfl rfl rfl rfl) ((p134 _))) ?_
  refine Ont ?_; refine Oas ?_; refine S2 ?_
  refine CW.cond rfl (fun h1 => ?_) (fun h1 => ?_)
  ·
   have hleaf : leafP f = false := by simpa only [leafP, Bool.not_eq_true'] using h1
   refine S2 ?_; refine Ofa ?_; refine Old ?_; refine Ocm ?_; refine Omv ?_; refine Pfa ?_; refine Pld ?_; refine Pln ?_; refine Pcm ?_; refine Opk ?_; refine Omv ?_; refine Pfa ?_
   refine Pld ?_; refine Pcm ?_; refine Opk ?_; refine Omv ?_; refine Pfa ?_; refine Pld ?_; refine Pcm ?_; refine Opk ?_; refine S2 ?_
   refine CW.cond rfl (fun h2 => ?_) (fun h2 => ?_)
   ·
    have hplain : plainP f = false := by rw [plainP, Bool.not_eq_false']; simpa only [bif_or] using h2
    have hn := node_notPlain (W := W) hbad hleaf hplain
    refine S2 ?_; refine Oas ?_; refine S5 ?_
    refine Done.retR (rs := [.tmp 8]) rfl (.tmp rfl (.nil)) (AVleL.refl _) (by repeat (first | exact List.Sublist.refl _ | refine List.Sublist.cons _ ?_)) ?_
    exact ⟨retB (by rw [hn]), by rw [hn]; rfl⟩
   ·
    have hplain : plainP f = true := by rw [plainP, Bool.not_eq_true']; simpa only [bif_or] using h2
    have hn := node_plain (W := W) hbad hleaf hplain
    refine S5 ?_; refine Ofa ?_; refine Old ?_; refine Omf ?_
    refine OL.bcallC rfl rfl rfl (.mk' rfl rfl rfl rfl rfl) (b180 f.kids (nodesCb ⟨hd1, hd.2⟩ (ih hd1) (left - 1) hl1 b _) [.blk b 3 [.i (left - 1)]] Hx ⟨rfl, rfl⟩) ?_
    rintro _ _ ⟨bb, H1, rfl, rfl, e1, e2⟩
    obtain ⟨e3, e4⟩ := nodes_end e1 e2
    subst e4
    refine Oas ?_; refine S3 ?_
    refine Done.retR (rs := [.tmp 8]) rfl (.tmp rfl (.nil)) (AVleL.refl _) (by repeat (first | exact List.Sublist.refl _ | refine List.Sublist.cons _ ?_)) ?_
    exact ⟨retB (by rw [hn]; exact e3), by rw [hn]; rfl⟩
  ·
   have hleaf : leafP f = true := by simpa only [leafP, Bool.not_eq_false'] using h1
   have hn := node_leaf (W := W) hbad hleaf
   refine S2 ?_; refine Ofa ?_; refine Old ?_; refine Ocm ?_; refine Omv ?_; refine Pfa ?_; refine Pld ?_; refine Pcm ?_; refine Opk ?_; refine Omv ?_; refine Pld ?_; refine Pfa ?_
   refine Pld ?_
   refine OL.guardC rfl rfl rfl rfl rfl rfl (fun hg => POp.call (.mk' rfl rfl rfl rfl (by first | rfl | ((repeat (first | exact hg | rfl | refine Bool.and_eq_true_iff.2 ⟨?_, ?_⟩)); done) | simp_all [strip, constAV])) ((p126 _ _))) ?_
   refine Pnt ?_; refine Opk ?_; refine Oas ?_; refine S2 ?_
   refine CW.cond rfl (fun h3 => ?_) (fun h3 => ?_)
   ·
    have harg : argP W f = false := by rw [argP, Bool.not_eq_false']; simpa only [bif_or] using h3
    refine S2 ?_; refine Oas ?_; refine S5 ?_
    refine Done.retR (rs := [.tmp 8]) rfl (.tmp rfl (.nil)) (AVleL.refl _) (by repeat (first | exact List.Sublist.refl _ | refine List.Sublist.cons _ ?_)) ?_
    exact ⟨retB (by rw [hn, harg]; rfl), by rw [hn]; rfl⟩
   ·
    have harg : argP W f = true := by rw [argP, Bool.not_eq_true']; simpa only [bif_or] using h3
    refine S2 ?_; refine Ofa ?_; refine Old ?_; refine Ocm ?_; refine Oas ?_; refine S2 ?_
    refine CW.cond rfl (fun h4 => ?_) (fun h4 => ?_)
    ·
     replace h4 := nm h4
     refine S2 ?_; refine Ofa ?_; refine Old ?_; refine Ocm ?_; refine Omv ?_; refine Pld ?_; refine Pfa ?_; refine Pld ?_
     refine OL.guardC rfl rfl rfl rfl rfl rfl (fun hg => POp.call (.mk' rfl rfl rfl rfl (by first | rfl | ((repeat (first | exact hg | rfl | refine Bool.and_eq_true_iff.2 ⟨?_, ?_⟩)); done) | simp_all [strip, constAV])) ((p106 _ _ (by assumption)))) ?_
     refine Opk ?_; refine Oas ?_; refine S5 ?_
     refine Done.retR (rs := [.tmp 8]) rfl (.tmp rfl (.nil)) (AVleL.refl _) (by repeat (first | exact List.Sublist.refl _ | refine List.Sublist.cons _ ?_)) ?_
     exact ⟨retB (by rw [hn, harg, leafOk_is h4, bif_and]; rfl), by rw [hn]; rfl⟩
    ·
     replace h4 := nm h4
     refine S2 ?_; refine Ofa ?_; refine Old ?_; refine Ocm ?_; refine Omv ?_; refine Pfa ?_; refine Pld ?_; refine Pcm ?_; refine Opk ?_; refine Omv ?_; refine Pfa ?_; refine Pld ?_
     refine Pcm ?_; refine Opk ?_; refine Oas ?_; refine S5 ?_
     refine Done.retR (rs := [.tmp 8]) rfl (.tmp rfl (.nil)) (AVleL.refl _) (by repeat (first | exact List.Sublist.refl _ | refine List.Sublist.cons _ ?_)) ?_
     exact ⟨retB (by rw [hn, harg, leafOk_not h4, bif_and, bif_and]; rfl), by rw [hn]; rfl⟩
theorem nodeC_all {B : Nat} {W : FW} (hW : W.parents.length ≤ 60) : ∀ (n : Nat), n ≤ 1000 → NodeC B W n
 | 0, h => b182_step hW ⟨by omega, by omega⟩ (fun h => by omega)
 | n + 1, h => b182_step hW ⟨by omega, by omega⟩ (fun _ => by
  have e : ((n + 1 : Nat) : Int) - 1 = (n : Int) := by omega
  rw [e]; exact nodeC_all hW n (by omega))
theorem p180 {f : Fn} {fs cs : List AV} {p : Fact → Bool} (hg : PredOk Tryz.prog (.fn f fs cs) AV.fact p) (l : List Fact) : PCall Tryz.prog 276 [.sl 6 (encFs l), .fn f fs cs] (.b (l.all p)) := by
 intro H
 have h0 : fnOk Tryz.prog 276 = true := (b180 (B := 0) l (hg.cb l) [] H ⟨rfl, by simp⟩).1
 refine ⟨h0, fun B I w vs hw hh hvs => ((b180 (B := B) l (hg.cb l) [] H ⟨rfl, by simp⟩).2 I w vs hw hh hvs).mono fun e w' hr => hr.mono (fun y H' hy => ?_) fun _ _ h => h⟩
 obtain ⟨b, H1, rfl, rfl, h1, h2⟩ := hy
 cases b with
 | true =>
  obtain ⟨rfl, h⟩ := h1 rfl
  exact ⟨congrArg AV.b (List.all_eq_true.2 h).symm, rfl⟩
 | false =>
  obtain ⟨pre, ⟨rest, rfl⟩, rfl, q, x, rfl, h⟩ := h2 rfl
  refine ⟨congrArg AV.b ?_, rfl⟩
  symm
  rw [List.all_eq_false]
  exact ⟨x, by simp, by simp [h]⟩
theorem p181 (W : FW) (hW : W.parents.length ≤ 60) (f : Fact) : PCall Tryz.prog 277 [AV.fact f, .ptr [Wptr W]] (.b (formedP W f)) := by
 intro H
 refine ACall.mk' (n := 8) Tryz.func277 rfl (by kernel_rfl) rfl rfl (fun B I w0 => ?_)
 refine S2 ?_; refine Obx ?_; refine Oas ?_; refine S4 ?_
 refine OL.alC rfl rfl rfl rfl (fun b0 => ?_)
 refine Sto ?_; refine S4 ?_; refine Old ?_; refine Ola ?_
 refine OL.bcallC rfl rfl rfl (.mk' rfl rfl rfl rfl rfl) (nodeC_all hW 12 (by omega) f 24 b0 H ⟨by omega, by omega⟩) ?_
 rintro _ _ ⟨rfl, rfl⟩
 refine Oas ?_; refine S3 ?_
 refine r1 3 (H) ?_
 exact ⟨retB rfl, rfl⟩
theorem p131 (W : FW) (hW : W.parents.length ≤ 60) (l : List Fact) : PCall Tryz.prog 251 [Wptr W, AV.facts l] (.b (l.all (formedP W))) := by
 intro H
 refine ACall.mk' (n := 8) Tryz.func251 rfl (by kernel_rfl) rfl rfl (fun B I w0 => ?_)
 refine S2 ?_; refine Obx ?_; refine Oas ?_; refine S4 ?_; refine Omv ?_; refine Omf ?_
 refine OL.popC rfl rfl rfl (POp.call (.mk' rfl rfl rfl rfl rfl) (p180 (.of (p181 W hW)) l)) ?_
 refine Oas ?_; refine S3 ?_
 refine r1 4 (H) ?_
 exact ⟨by first | rfl | exact retI (by simp_all) | exact retB (by simp_all) | simp_all, rfl⟩
theorem up_get {W : FW} {U : List Nat} {i : Nat} (h : i < U.length) : (Wcells W ++ U.map fun s => AV.set s)[2 + i]? = some (AV.set (U.getD i 0)) := by
 show ([AV.intss W.parents, AV.ints W.owner] ++ _)[2 + i]? = _
 rw [List.getElem?_append_right (by simp)]
 simp [List.getElem?_map, List.getElem?_eq_getElem h, List.getD_eq_getElem?_getD]
theorem up_set {W : FW} {U : List Nat} {i s : Nat} (h : i < U.length) : (Wcells W ++ U.map fun s => AV.set s).take (2 + i) ++ [AV.set s] ++ (Wcells W ++ U.map fun s => AV.set s).drop (2 + i + 1) = Wcells W ++ (U.set i s).map fun s => AV.set s := by
 have e : Wcells W = [AV.intss W.parents, AV.ints W.owner] := rfl
 have e1 : (Wcells W ++ U.map fun s => AV.set s).take (2 + i) = Wcells W ++ (U.take i).map fun s => AV.set s := by
  rw [e, List.take_append, List.map_take]
  simp [List.take_of_length_le]
 have e2 : (Wcells W ++ U.map fun s => AV.set s).drop (2 + i + 1) = (U.drop (i + 1)).map fun s => AV.set s := by
  rw [show 2 + i + 1 = (i + 1) + 2 from by omega, List.map_drop]
  rfl
 rw [e1, e2, List.append_assoc, List.append_assoc]
 congr 1
 rw [List.set_eq_take_append_cons_drop, if_pos h]
 simp
def idxP (l : List Int) (v : Int) : Int := match l.findIdx? (fun x => x == v) with | some i => (i : Int) | none => -1
theorem idxP_at {l : List Int} {v : Int} {k : Nat} (hk : k < l.length) (hp : ∀ x ∈ l.take k, x ≠ v) (h : v = l.getD k default) : (k : Int) = idxP l v := by
 have e : l.findIdx? (fun x => x == v) = some k := by
  rw [List.findIdx?_eq_some_iff_getElem]
  refine ⟨hk, ?_, fun j hj => ?_⟩
  ·rw [h, List.getD_eq_getElem?_getD, List.getElem?_eq_getElem hk]; simp
  ·have := hp (l[j]'(by omega)) (by rw [List.mem_take_iff_getElem]; exact ⟨j, by omega, rfl⟩)
   simpa using this
 rw [idxP, e]
theorem idxP_none {l : List Int} {v : Int} (hp : ∀ x ∈ l, x ≠ v) : (-1 : Int) = idxP l v := by
 have e : l.findIdx? (fun x => x == v) = none := by
  rw [List.findIdx?_eq_none_iff]
  intro x hx; simpa using hp x hx
 rw [idxP, e]
theorem idxP_contains (l : List Int) (v : Int) : decide (idxP l v ≥ 0) = l.contains v := by
 unfold idxP
 cases h : l.findIdx? (fun x => x == v) with
 | none =>
  rw [List.findIdx?_eq_none_iff] at h
  symm; simp
  intro hx; have := h v hx; simp at this
 | some i =>
  rw [List.findIdx?_eq_some_iff_getElem] at h
  obtain ⟨hi, h1, _⟩ := h
  symm; simp
  have : l[i] = v := by simpa using h1
  rw [← this]; exact List.getElem_mem hi
theorem ne_step {l : List Int} {v : Int} {k : Nat} (hk : k < l.length) (hp : ∀ x ∈ l.take k, x ≠ v) (h : v ≠ l.getD k default) : ∀ x ∈ l.take (k + 1), x ≠ v := by
 rw [← take_getD hk]
 intro x hx
 rcases List.mem_append.1 hx with hx | hx
 ·exact hp x hx
 ·simp at hx; rw [hx]; intro e; apply h; simp [e]
theorem p100 (l : List Int) (v : Int) : PCall Tryz.prog 103 [AV.ints l, .i v] (.i (idxP l v)) := by
 intro H
 refine ACall.mk' (n := 19) Tryz.func103 rfl (by kernel_rfl) rfl rfl (fun B I w0 => ?_)
 refine CW.boundM (t := 0) rfl (fun hb0 => ?_)
 refine S2 ?_; refine Oas ?_; refine S5 ?_; refine Omv ?_; refine Oln ?_; refine Omv ?_; refine S3 ?_
 refine lj (fun m st => ∃ k : Nat, st = ⟨[(8, .i k), (7, .i l.length), (0, AV.ints l), (1, .i v)], H⟩ ∧ m = l.length - k ∧ k ≤ l.length ∧ ∀ x ∈ l.take k, x ≠ v) (⟨0, rfl, rfl, by simp, by simp⟩) ?_
 rintro m _ ⟨k, rfl, rfl, hk, hp⟩
 refine S2 ?_; refine Ocm ?_; refine S3 ?_
 refine CW.cond rfl (fun h0 => ?_) (fun h0 => ?_)
 ·
  replace h0 := nm h0
  refine S6 ?_; refine Omv ?_; refine Oas ?_; refine S4 ?_; refine Omv ?_; refine Omv ?_; refine Omv ?_; refine Oix ?_; refine Old ?_; refine Ocm ?_; refine S2 ?_
  refine CW.cond rfl (fun h1 => ?_) (fun h1 => ?_)
  ·
   replace h1 := nm h1
   refine S2 ?_; refine Omv ?_; refine Oas ?_; refine S8 ?_
   refine r1 4 (H) ?_
   exact ⟨retI (idxP_at (by omega) hp h1), rfl⟩
  ·
   replace h1 := nm h1
   refine S4 ?_; refine Oar ?_; refine Omv ?_; refine S1 ?_
   exact ag (⟨k + 1, rfl, rfl, by omega, ne_step (by omega) hp h1⟩)
 ·
  replace h0 := nm h0
  refine S7 ?_; refine Oas ?_; refine S3 ?_
  refine r1 4 (H) ?_
  exact ⟨retI (idxP_none (by have e : k = l.length := (by omega); rw [e, List.take_length] at hp; exact hp)), rfl⟩
theorem p33 (l : List Int) (v : Int) : PCall Tryz.prog 38 [AV.ints l, .i v] (.b (l.contains v)) := by
 intro H
 refine ACall.mk' (n := 9) Tryz.func38 rfl (by kernel_rfl) rfl rfl (fun B I w0 => ?_)
 refine S2 ?_; refine Oas ?_; refine S4 ?_; refine Omv ?_; refine Omv ?_
 refine OL.popC rfl rfl rfl (POp.call (.mk' rfl rfl rfl rfl rfl) ((p100 _ _))) ?_
 refine Ocm ?_; refine Oas ?_; refine S3 ?_
 refine r1 4 (H) ?_
 exact ⟨retB (idxP_contains _ _), rfl⟩
def U0 (k : Nat) : List Nat := [1, 3, 5].take k ++ List.replicate (63 - k) 0
theorem U0_set {k : Nat} (h : k < 3) : (U0 k).set k (1 ||| 2 ^ (k : Int).toNat) = U0 (k + 1) := by
 have : k = 0 ∨ k = 1 ∨ k = 2 := by omega
 rcases this with rfl | rfl | rfl <;> rfl
theorem U0_len {k : Nat} (h : k ≤ 3) : (U0 k).length = 63 := by simp [U0]; omega
theorem up_set' {W : FW} {U U' : List Nat} {i s : Nat} (h : i < U.length) (hU : U.set i s = U') : (Wcells W ++ U.map fun s => AV.set s).take (2 + i) ++ [AV.set s] ++ (Wcells W ++ U.map fun s => AV.set s).drop (2 + i + 1) = Wcells W ++ U'.map fun s => AV.set s := hU ▸ up_set h
theorem up_fit {W : FW} {U : List Nat} {i off : Nat} (ho : off = 2 + i) (h : i < U.length) : Nat.ble (off + 1) (Wcells W ++ U.map fun s => AV.set s).length = true := by
 subst ho
 rw [Nat.ble_eq]
 simp [Wcells]; omega
theorem world_big {W : FW} (h : (bif decide ((W.parents.length : Int) > 60) then true else decide ((W.owner.length : Int) > 40)) = true) : worldP W = false := by
 rw [bif_or] at h
 simp only [Bool.or_eq_true, decide_eq_true_eq] at h
 unfold worldP
 rcases h with h | h
 ·have : decide (W.parents.length ≤ 60) = false := by simp; omega
  simp [this]
 ·have : decide (W.owner.length ≤ 40) = false := by simp; omega
  simp [this]
theorem world_small {W : FW} (h : (bif decide ((W.parents.length : Int) > 60) then true else decide ((W.owner.length : Int) > 40)) = false) : W.parents.length ≤ 60 ∧ W.owner.length ≤ 40 := by
 rw [bif_or] at h
 simp only [Bool.or_eq_false_iff, decide_eq_false_iff_not] at h
 omega
theorem world_val {W : FW} (h : W.parents.length ≤ 60 ∧ W.owner.length ≤ 40) : worldP W = (parentssP 0 W.parents && W.owner.all (ownP W)) := by
 simp [worldP, h.1, h.2]
theorem parents_step {l : List (List Int)} {k : Nat} (hk : k < l.length) : parentssP k (l.drop k) = (parentsP k [] (l.getD k default) && parentssP (k + 1) (l.drop (k + 1))) := by
 rw [List.drop_eq_getElem_cons hk, parentssP, List.getD_eq_getElem?_getD, List.getElem?_eq_getElem hk]; rfl
theorem ups_step {l : List (List Int)} {k : Nat} (U : List Nat) (hk : k < l.length) : upsFrom (l.drop k) k U = upsFrom (l.drop (k + 1)) (k + 1) (U.set (3 + k) (upFold U k (l.getD k default))) := by
 rw [List.drop_eq_getElem_cons hk, upsFrom, List.getD_eq_getElem?_getD, List.getElem?_eq_getElem hk]; rfl
theorem parent_step {i : Nat} {l : List Int} {j : Nat} (hj : j < l.length) : parentsP i (l.take j) (l.drop j) = (!(decide (l.getD j default < 3) || decide (l.getD j default ≥ 3 + i) || (l.take j).contains (l.getD j default)) && parentsP i (l.take (j + 1)) (l.drop (j + 1))) := by
 rw [List.drop_eq_getElem_cons hj, parentsP, ← take_getD hj, List.getD_eq_getElem?_getD, List.getElem?_eq_getElem hj]; rfl
theorem getD_lt {α : Type} [Inhabited α] {l : List α} {j : Nat} (h : j < l.length) : l.getD j default = l[j] := by rw [List.getD_eq_getElem?_getD, List.getElem?_eq_getElem h]; rfl
theorem up_get' {W : FW} {U : List Nat} {i off : Nat} (ho : off = 2 + i) (h : i < U.length) : (Wcells W ++ U.map fun s => AV.set s)[off]? = some (AV.set (U.getD i 0)) := ho ▸ up_get h
theorem up_setO {W : FW} {U U' : List Nat} {i s off : Nat} (ho : off = 2 + i) (h : i < U.length) (hU : U.set i s = U') : (Wcells W ++ U.map fun s => AV.set s).take off ++ [AV.set s] ++ (Wcells W ++ U.map fun s => AV.set s).drop (off + 1) = Wcells W ++ U'.map fun s => AV.set s := ho ▸ up_set' h hU
theorem fold_step {U : List Nat} {l : List Int} {j s : Nat} (hj : j < l.length) : (l.drop j).foldl (fun s (p : Int) => s ||| U.getD p.toNat 0) s = (l.drop (j + 1)).foldl (fun s (p : Int) => s ||| U.getD p.toNat 0) (s ||| U.getD (l.getD j default).toNat 0) := by
 rw [List.drop_eq_getElem_cons hj, List.foldl_cons, getD_lt hj]
theorem parent_ok {k j : Nat} {l : List Int} {r : Bool} (hj : j < l.length) (hp : parentsP k (l.take j) (l.drop j) = r) (h : (bif bif decide (l.getD j default < 3) then true else decide (3 + (k : Int) ≤ l.getD j default) then true else (l.take j).contains (l.getD j default)) = false) :
  3 ≤ l.getD j default ∧ l.getD j default < 3 + k ∧ parentsP k (l.take (j + 1)) (l.drop (j + 1)) = r := by
 rw [bif_or, bif_or] at h
 have h0 := h
 simp only [Bool.or_eq_false_iff, decide_eq_false_iff_not] at h0
 refine ⟨by omega, by omega, ?_⟩
 rw [parent_step hj] at hp
 have e : (decide (l.getD j default < 3) || decide (l.getD j default ≥ 3 + (k : Int)) || (l.take j).contains (l.getD j default)) = false := h
 rw [e] at hp
 simpa using hp
theorem parent_no {k j : Nat} {l : List Int} {r : Bool} (hj : j < l.length) (hp : parentsP k (l.take j) (l.drop j) = r) (h : (bif bif decide (l.getD j default < 3) then true else decide (3 + (k : Int) ≤ l.getD j default) then true else (l.take j).contains (l.getD j default)) = true) : r = false := by
 rw [bif_or, bif_or] at h
 rw [parent_step hj] at hp
 have e : (decide (l.getD j default < 3) || decide (l.getD j default ≥ 3 + (k : Int)) || (l.take j).contains (l.getD j default)) = true := h
 rw [e] at hp
 simpa using hp.symm
theorem world_parent_no {W : FW} {k : Nat} (hW : W.parents.length ≤ 60 ∧ W.owner.length ≤ 40) (hk : k < W.parents.length) (hpar : parentssP k (W.parents.drop k) = parentssP 0 W.parents) (h : parentsP k [] (W.parents.getD k default) = false) : worldP W = false := by
 rw [parents_step hk, h] at hpar
 rw [world_val hW, ← hpar]; rfl
theorem u_get {U : List Nat} (hU : ∀ x ∈ U, x < 18446744073709551616) (i : Nat) : U.getD i 0 < 18446744073709551616 := by
 rw [List.getD_eq_getElem?_getD]
 by_cases h : i < U.length
 ·rw [List.getElem?_eq_getElem h]; exact hU _ (List.getElem_mem h)
 ·rw [List.getElem?_eq_none (by omega)]; decide
theorem u_set {U : List Nat} (hU : ∀ x ∈ U, x < 18446744073709551616) {i s : Nat} (hs : s < 18446744073709551616) : ∀ x ∈ U.set i s, x < 18446744073709551616 := by
 intro x hx
 rcases List.mem_or_eq_of_mem_set hx with h | h
 ·exact hU x h
 ·exact h ▸ hs
theorem or64 {s t : Nat} (hs : s < 18446744073709551616) (ht : t < 18446744073709551616) : s ||| t < 18446744073709551616 := Nat.or_lt_two_pow (n := 64) hs ht
theorem pow64 {k : Nat} (h : k < 64) : 2 ^ k < 18446744073709551616 := Nat.pow_lt_pow_right (a := 2) (n := 64) (by omega) h
theorem p105 (W : FW) : PCall Tryz.prog 250 [AV.world W] (.tup [if worldP W then Wptr W else .one, .b (worldP W)]) := by
 intro H
 refine ACall.mk' (n := 91) Tryz.func250 rfl (by kernel_rfl) rfl rfl (fun B I w0 => ?_)
 refine CW.boundA (t := 0) (i := 0) rfl rfl (fun hb0 => ?_)
 refine CW.boundA (t := 0) (i := 1) rfl rfl (fun hb1 => ?_)
 refine S2 ?_; refine Obx ?_; refine Oas ?_; refine Oas ?_; refine S5 ?_; refine Ofa ?_; refine Old ?_; refine Oln ?_; refine Ocm ?_; refine Omv ?_; refine Pfa ?_; refine Pld ?_
 refine Pln ?_; refine Pcm ?_; refine Opk ?_; refine S2 ?_
 refine CW.cond rfl (fun h0 => ?_) (fun h0 => ?_)
 ·
  have hw : worldP W = false := world_big h0
  refine S2 ?_; refine Oas ?_; refine Oas ?_; refine S4 ?_
  refine Done.retR (rs := [.tmp 2, .tmp 3]) (H' := H) rfl (.tmp rfl (.tmp rfl (.nil))) (.cons (AVle.one rfl (fun _ h => by cases h)) (.cons (AVle.refl _) .nil)) (by repeat (first | exact List.Sublist.refl _ | refine List.Sublist.cons _ ?_)) ?_
  exact ⟨by rw [hw]; rfl, rfl⟩
 ·
  have hW := world_small h0
  refine S4 ?_; refine Ola ?_; refine Obd ?_
  refine OL.boxC rfl rfl rfl rfl rfl rfl rfl (fun b0 => ?_)
  refine Oas ?_; refine S5 ?_; refine Omv ?_; refine S3 ?_
  refine lj (fun m st => ∃ k : Nat, st = ⟨[(24, .i k), (4, .p b0 0), (1, .ptr (Wcells W))], .blk b0 309 (Wcells W ++ (U0 k).map fun s => AV.set s) :: H⟩ ∧ m = 3 - k ∧ k ≤ 3) (⟨0, rfl, rfl, by omega⟩) ?_
  rintro m _ ⟨k, rfl, rfl, hk⟩
  refine S2 ?_; refine Ocm ?_; refine S3 ?_
  refine CW.cond rfl (fun h1 => ?_) (fun h1 => ?_)
  ·
   replace h1 := nm h1
   refine S6 ?_; refine Omv ?_; refine Oas ?_; refine S2 ?_
   refine CW.dp mixed ?_
   refine DP.anyC 0 6 91 rfl (by decide +kernel) rfl rfl (by decide +kernel) ?_
   refine Amv ?_; refine Amv ?_; refine Amv ?_
   refine AD.popC rfl rfl rfl (POp.call (.mk' rfl rfl rfl rfl rfl) (p151 1 k (by omega) (by omega))) ?_
   refine Anc ?_; refine Afa ?_
   refine AD.nil ?_
   refine DP.tailC 6 (by decide +kernel) rfl ?_
   refine Oia ?_
   apply OL.stoC rfl rfl rfl rfl rfl rfl rfl rfl rfl rfl
   (case hu => repeat (first | exact Upd.head _ _ _ | apply Upd.tail)); (case hfit => exact up_fit (i := k) (by simp) (by rw [U0_len hk]; omega)); (case hds => exact up_setO (i := k) (by simp) (by rw [U0_len hk]; omega) (U0_set (by omega)))
   refine S4 ?_; refine Oar ?_; refine Omv ?_; refine S1 ?_
   exact ag (⟨k + 1, rfl, rfl, by omega⟩)
  ·
   replace h1 := nm h1
   obtain rfl : k = 3 := by omega
   refine S8 ?_; refine Ofa ?_; refine Old ?_; refine Oln ?_; refine Omv ?_; refine S3 ?_
   refine lj (fun m st => ∃ (k : Nat) (U : List Nat), st = ⟨[(38, .i k), (37, .i W.parents.length), (36, AV.intss W.parents), (4, .p b0 0), (1, .ptr (Wcells W))], .blk b0 309 (Wcells W ++ U.map fun s => AV.set s) :: H⟩ ∧ m = W.parents.length - k ∧ k ≤ W.parents.length ∧ U.length = 63 ∧ (∀ x ∈ U, x < 18446744073709551616) ∧ upsFrom (W.parents.drop k) k U = upsP W ∧ parentssP k (W.parents.drop k) = parentssP 0 W.parents) (⟨0, U0 3, rfl, rfl, by omega, rfl, by decide, rfl, rfl⟩) ?_
   rintro m _ ⟨k, U, rfl, rfl, hk, hlen, hU, hup, hpar⟩
   refine S2 ?_; refine Ocm ?_; refine S3 ?_
   refine CW.cond rfl (fun h2 => ?_) (fun h2 => ?_)
   ·
    replace h2 := nm h2
    refine S6 ?_; refine Omv ?_; refine Oix ?_; refine Old ?_; refine Oas ?_; refine Oas ?_; refine S4 ?_; refine Omv ?_; refine Oar ?_
    refine OL.popC rfl rfl rfl (POp.call (.mk' rfl rfl rfl rfl rfl) (p151 1 (3 + k) (by omega) (by omega))) ?_
    refine Oas ?_; refine S4 ?_
    refine CW.boundM (t := 7) rfl (fun hbl => ?_)
    refine S1 ?_; refine Omv ?_; refine Oln ?_; refine Omv ?_; refine S3 ?_
    refine lj (fun m st => ∃ (j s : Nat), st = ⟨[(48, .i j), (47, .i (W.parents.getD k default).length), (46, AV.ints (W.parents.getD k default)), (8, AV.set s), (6, .i k), (7, AV.ints (W.parents.getD k default)), (38, .i k), (37, .i W.parents.length), (36, AV.intss W.parents), (4, .p b0 0), (1, .ptr (Wcells W))], .blk b0 309 (Wcells W ++ U.map fun s => AV.set s) :: H⟩ ∧ m = (W.parents.getD k default).length - j ∧ j ≤ (W.parents.getD k default).length ∧ s < 18446744073709551616 ∧ ((W.parents.getD k default).drop j).foldl (fun s (p : Int) => s ||| U.getD p.toNat 0) s = upFold U k (W.parents.getD k default) ∧ parentsP k ((W.parents.getD k default).take j) ((W.parents.getD k default).drop j) = parentsP k [] (W.parents.getD k default)) (⟨0, 1 ||| 2 ^ ((3 : Int) + k).toNat, rfl, rfl, by omega, or64 (by omega) (pow64 (by omega)), by rw [show ((3 : Int) + k).toNat = 3 + k from by omega]; rfl, rfl⟩) ?_
    rintro m _ ⟨j, s, rfl, rfl, hj, hs, hf, hp⟩
    refine S2 ?_; refine Ocm ?_; refine S3 ?_
    refine CW.cond rfl (fun h3 => ?_) (fun h3 => ?_)
    ·
     replace h3 := nm h3
     refine S6 ?_; refine Omv ?_; refine Oix ?_; refine Old ?_; refine Oas ?_; refine Oas ?_; refine S5 ?_; refine Omv ?_; refine Ocm ?_; refine Omv ?_; refine Pmv ?_; refine Pmv ?_
     refine Par ?_; refine Pcm ?_; refine Opk ?_; refine Omv ?_; refine Pmv ?_; refine Pmv ?_
     refine OL.guardC rfl rfl rfl rfl rfl rfl (fun hg => POp.slTo rfl rfl (by first | rfl | exact hg | simp_all) rfl (by first | rfl | exact hg | simp_all) (by omega)) ?_
     refine Pmv ?_
     refine OL.guardC rfl rfl rfl rfl rfl rfl (fun hg => POp.call (.mk' rfl rfl rfl rfl (by first | rfl | ((repeat (first | exact hg | rfl | refine Bool.and_eq_true_iff.2 ⟨?_, ?_⟩)); done) | simp_all [strip, constAV])) (p33 _ _)) ?_
     refine Opk ?_; refine S2 ?_
     refine CW.cond rfl (fun h4 => ?_) (fun h4 => ?_)
     ·
      replace h4 := nm h4
      have hw : worldP W = false := world_parent_no hW (by omega) hpar (parent_no (by omega) hp h4)
      refine S2 ?_; refine Oas ?_; refine Oas ?_; refine S14 ?_
      refine Done.retR (rs := [.tmp 2, .tmp 3]) (H' := H) rfl (.tmp rfl (.tmp rfl (.nil))) (.cons (AVle.one rfl (fun _ h => by cases h)) (.cons (AVle.refl _) .nil)) (by repeat (first | exact List.Sublist.refl _ | refine List.Sublist.cons _ ?_)) ?_
      exact ⟨by rw [hw]; rfl, rfl⟩
     ·
      replace h4 := nm h4
      obtain ⟨hp0, hp1, hp2⟩ := parent_ok (by omega) hp h4
      refine S3 ?_; refine Omv ?_; refine Omv ?_; refine Omv ?_; refine Onc ?_; refine Ofa ?_; refine Oia ?_
      refine OL.popC rfl rfl rfl ((by first | exact POp.ld1 rfl rfl rfl rfl | (apply POp.ld1H rfl rfl rfl; (case hm => repeat (first | exact .head _ | refine .tail _ ?_)); (case hy => exact up_get' (i := ((W.parents.getD k default).getD j default).toNat) (by omega) (by omega))))) ?_
      refine OL.popC rfl rfl rfl (POp.bits rfl rfl rfl rfl rfl (bit_or _ _ hs (u_get hU _))) ?_
      refine Oas ?_; refine S4 ?_; refine Oar ?_; refine Omv ?_; refine S1 ?_
      exact ag (⟨j + 1, s ||| U.getD ((W.parents.getD k default).getD j default).toNat 0, rfl, rfl, by omega, or64 hs (u_get hU _), by rw [← fold_step (by omega)]; exact hf, hp2⟩)
    ·
     replace h3 := nm h3
     obtain rfl : j = (W.parents.getD k default).length := by omega
     rw [List.drop_length, List.foldl_nil] at hf
     rw [List.drop_length, List.take_length, parentsP] at hp
     subst hf
     refine S6 ?_; refine Omv ?_; refine Omv ?_; refine Oar ?_; refine Omv ?_; refine Onc ?_; refine Ofa ?_; refine Oia ?_
     apply OL.stoC rfl rfl rfl rfl rfl rfl rfl rfl rfl rfl
     (case hu => repeat (first | exact Upd.head _ _ _ | apply Upd.tail)); (case hfit => exact up_fit (i := 3 + k) (by omega) (by omega)); (case hds => exact up_setO (i := 3 + k) (by omega) (by omega) rfl)
     refine S4 ?_; refine Oar ?_; refine Omv ?_; refine S1 ?_
     exact ag (⟨k + 1, U.set (3 + k) (upFold U k (W.parents.getD k default)), rfl, rfl, by omega, by simp [hlen], u_set hU hs, by rw [← ups_step U (by omega)]; exact hup, by rw [parents_step (by omega), ← hp] at hpar; simpa using hpar⟩)
   ·
    replace h2 := nm h2
    obtain rfl : k = W.parents.length := by omega
    rw [List.drop_length, upsFrom] at hup
    subst hup
    rw [List.drop_length, parentssP] at hpar
    refine S6 ?_
    refine CW.freezeP (d := 4) rfl (by repeat (first | exact Del.head _ _ | apply Del.tail)) ?_
    refine S1 ?_; refine Omv ?_; refine Ofa ?_; refine Old ?_; refine Omv ?_; refine Omf ?_
    refine OL.popC rfl rfl rfl (POp.call (.mk' rfl rfl rfl rfl rfl) (p152 (.of (fun x => p153 W x hW.1)) W.owner)) ?_
    refine Oas ?_; refine Oas ?_; refine S3 ?_
    refine Done.retR (rs := [.tmp 2, .tmp 3]) (H' := H) rfl (.tmp rfl (.tmp rfl (.nil))) (.cons (AVle.ite1 (c := worldP W = true) rfl (fun _ h => by cases h)) (.cons (AVle.refl _) .nil)) (by repeat (first | exact List.Sublist.refl _ | refine List.Sublist.cons _ ?_)) ?_
    exact ⟨by rw [world_val hW, ← hpar]; rfl, rfl⟩
theorem p105t {W : FW} (h : worldP W = true) : PCall Tryz.prog 250 [AV.world W] (.tup [Wptr W, .b true]) := by have := p105 W; rwa [if_pos h, h] at this
theorem p105f {W : FW} (h : worldP W = false) : PCall Tryz.prog 250 [AV.world W] (.tup [.one, .b false]) := by have := p105 W; rwa [if_neg (by simp [h]), h] at this
theorem world_len {W : FW} (h : worldP W = true) : W.parents.length ≤ 60 := by simp [worldP] at h; exact h.1.1.1
theorem p80t {W : FW} (h : worldP W = true) (l : List Fact) : PCall Tryz.prog 229 [AV.world W, AV.facts l] (.tup [Wptr W, .b (l.all (formedP W))]) := by
 intro H
 refine ACall.mk' (n := 20) Tryz.func229 rfl (by kernel_rfl) rfl rfl (fun B I w0 => ?_)
 have hW := world_len h
 refine S2 ?_; refine Obx ?_; refine Oas ?_; refine Oas ?_; refine S4 ?_; refine Ola ?_
 refine OL.popC rfl rfl rfl (POp.call (.mk' rfl rfl rfl rfl rfl) (p105t h)) ?_
 refine Omv ?_; refine Oex ?_; refine Oex ?_; refine Oas ?_; refine Oas ?_; refine S4 ?_; refine Omv ?_; refine Omv ?_; refine Omv ?_; refine Pmv ?_; refine Pmv ?_
 refine OL.guardC rfl rfl rfl rfl rfl rfl (fun hg => POp.call (.mk' rfl rfl rfl rfl (by first | rfl | ((repeat (first | exact hg | rfl | refine Bool.and_eq_true_iff.2 ⟨?_, ?_⟩)); done) | simp_all [strip, constAV])) (p131 W hW l)) ?_
 refine Opk ?_; refine Oas ?_; refine Oas ?_; refine S3 ?_
 refine Done.retR (rs := [.tmp 4, .tmp 5]) (H' := H) rfl (.tmp rfl (.tmp rfl (.nil))) (AVleL.refl _) (by repeat (first | exact List.Sublist.refl _ | refine List.Sublist.cons _ ?_)) ?_
 exact ⟨by first | rfl | exact retI (by simp_all) | exact retB (by simp_all) | simp_all, rfl⟩
theorem p80f {W : FW} (h : worldP W = false) (l : List Fact) : PCall Tryz.prog 229 [AV.world W, AV.facts l] (.tup [.one, .b false]) := by
 intro H
 refine ACall.mk' (n := 20) Tryz.func229 rfl (by kernel_rfl) rfl rfl (fun B I w0 => ?_)
 refine S2 ?_; refine Obx ?_; refine Oas ?_; refine Oas ?_; refine S4 ?_; refine Ola ?_
 refine OL.popC rfl rfl rfl (POp.call (.mk' rfl rfl rfl rfl rfl) (p105f h)) ?_
 refine Omv ?_; refine Oex ?_; refine Oex ?_; refine Oas ?_; refine Oas ?_; refine S4 ?_; refine Omv ?_; refine Omv ?_; refine Omv ?_; refine Pmv ?_; refine Pmv ?_
 refine OL.guardC (x := .b false) rfl rfl rfl rfl rfl rfl (fun hg => absurd hg (by simp)) ?_
 refine Opk ?_; refine Oas ?_; refine Oas ?_; refine S3 ?_
 refine Done.retR (rs := [.tmp 4, .tmp 5]) (H' := H) rfl (.tmp rfl (.tmp rfl (.nil))) (AVleL.refl _) (by repeat (first | exact List.Sublist.refl _ | refine List.Sublist.cons _ ?_)) ?_
 exact ⟨by first | rfl | exact retI (by simp_all) | exact retB (by simp_all) | simp_all, rfl⟩
theorem refused (b : Bool) : PCall Tryz.prog 230 [.b b] (.i (if b then 0 else 2)) := by
 intro H
 refine ACall.mk' (n := 5) Tryz.func230 rfl (by kernel_rfl) rfl rfl (fun B I w0 => ?_)
 refine S2 ?_; refine Oas ?_; refine S5 ?_; refine Omv ?_; refine Ont ?_; refine S2 ?_
 refine CW.cond rfl (fun h0 => ?_) (fun h0 => ?_)
 ·
  replace h0 := nm h0
  refine S2 ?_; refine Oas ?_; refine S4 ?_
  refine r1 2 (H) ?_
  exact ⟨retI (by simp_all), rfl⟩
 ·
  replace h0 := nm h0
  refine S4 ?_; refine Oas ?_; refine S3 ?_
  refine r1 2 (H) ?_
  exact ⟨retI (by simp_all), rfl⟩
theorem factFormedT {W : Fc.FW} (h : worldP W = true) (f : Fact) : PCall Tryz.prog 202 [AV.world W, AV.fact f] (.i (if formedP W f then 0 else 2)) := by
 intro H
 refine ACall.mk' (n := 16) Tryz.func202 rfl (by kernel_rfl) rfl rfl (fun B I w0 => ?_)
 refine S2 ?_; refine Obx ?_; refine Obx ?_; refine Oas ?_; refine S4 ?_; refine Ola ?_; refine Ola ?_
 refine OL.popC rfl rfl rfl (POp.rowK [(_, AV.fact f)] rfl rfl (by first | rfl | simp_all) rfl rfl rfl rfl rfl) ?_
 refine OL.popC rfl rfl rfl (POp.callLe (.mk' rfl rfl rfl rfl rfl) (.cons (.refl _) (.cons (AVle_facts [f] (by rfl)) .nil)) (by have := p80t h [f]; rwa [List.all_cons, List.all_nil, Bool.and_true] at this)) ?_
 refine Omv ?_; refine Oex ?_; refine Oex ?_; refine Oas ?_; refine Oas ?_; refine S4 ?_; refine Omv ?_
 refine OL.popC rfl rfl rfl (POp.call (.mk' rfl rfl rfl rfl rfl) ((refused _))) ?_
 refine Oas ?_; refine S3 ?_
 refine r1 4 (H) ?_
 exact ⟨by first | rfl | exact retI (by simp_all) | exact retB (by simp_all) | simp_all, rfl⟩
theorem factFormedF {W : Fc.FW} (h : worldP W = false) (f : Fact) : PCall Tryz.prog 202 [AV.world W, AV.fact f] (.i 2) := by
 intro H
 refine ACall.mk' (n := 16) Tryz.func202 rfl (by kernel_rfl) rfl rfl (fun B I w0 => ?_)
 refine S2 ?_; refine Obx ?_; refine Obx ?_; refine Oas ?_; refine S4 ?_; refine Ola ?_; refine Ola ?_
 refine OL.popC rfl rfl rfl (POp.rowK [(_, AV.fact f)] rfl rfl (by first | rfl | simp_all) rfl rfl rfl rfl rfl) ?_
 refine OL.popC rfl rfl rfl (POp.callLe (.mk' rfl rfl rfl rfl rfl) (.cons (.refl _) (.cons (AVle_facts [f] (by rfl)) .nil)) (p80f h [f])) ?_
 refine Omv ?_; refine Oex ?_; refine Oex ?_; refine Oas ?_; refine Oas ?_; refine S4 ?_; refine Omv ?_
 refine OL.popC rfl rfl rfl (POp.call (.mk' rfl rfl rfl rfl rfl) ((refused _))) ?_
 refine Oas ?_; refine S3 ?_
 refine r1 4 (H) ?_
 exact ⟨by first | rfl | exact retI (by simp_all) | exact retB (by simp_all) | simp_all, rfl⟩
theorem keepI {f : Fn} {fs cs : List AV} {p : Int → Bool} (hg : PredOk Tryz.prog (.fn f fs cs) AV.i p) (l : List Int) (hl : l.length ≤ 1000000) : PCall Tryz.prog 303 [AV.ints l, .fn f fs cs] (AV.ints (l.filter p)) := by
 intro H
 refine ACall.mk' (n := 23) Tryz.func303 rfl (by kernel_rfl) rfl rfl (fun B I w0 => ?_)
 refine S2 ?_; refine Oas ?_; refine S4 ?_; refine Oas ?_; refine S4 ?_
 refine CW.ownNil 5 3 1 rfl ?_
 refine S1 ?_; refine Omv ?_; refine Oln ?_; refine Omv ?_; refine S3 ?_
 refine lj (fun m st => ∃ (i : Nat) (v : Value), st = ⟨[(10, .i i), (9, .i l.length), (8, AV.ints l), (1, .fn f fs cs), (5, .as (AV.ints ((l.take i).filter p)) v)], .own 3 1 v :: H⟩ ∧ m = l.length - i ∧ i ≤ l.length) (⟨0, _, rfl, rfl, by omega⟩) ?_
 rintro m _ ⟨i, v, rfl, rfl, hi⟩
 refine S2 ?_; refine Ocm ?_; refine S3 ?_
 refine CW.cond rfl (fun h0 => ?_) (fun h0 => ?_)
 ·
  replace h0 := nm h0
  have hil : i < l.length := by omega
  refine S6 ?_
  refine OL.popC rfl rfl rfl ((by first | exact POp.ixM rfl rfl rfl rfl rfl hil | exact POp.ixI rfl rfl rfl rfl rfl hil)) ?_
  refine Old ?_; refine Oas ?_; refine S4 ?_; refine Omv ?_; refine Omv ?_
  refine OL.vcallC rfl rfl rfl rfl rfl rfl rfl rfl (AVleL.refl _) (hg B _ _) ?_
  rintro _ _ ⟨rfl, rfl⟩
  refine S2 ?_
  refine CW.cond rfl (fun h1 => ?_) (fun h1 => ?_)
  ·
   replace h1 := nm h1
   refine S1 ?_; refine Omv ?_; refine Omv ?_
   refine OL.popC (x := .sl 1 [[.i (l.getD i default)]]) rfl rfl rfl (POp.row rfl rfl (by first | rfl | simp_all [strip]) rfl rfl rfl rfl rfl rfl) ?_
   refine OL.appendC rfl rfl rfl rfl rfl rfl rfl rfl (AVle.refl _) (rfl) (fun v => by repeat (first | exact Upd.head _ _ _ | apply Upd.tail)) (by have h9 := List.length_filter_le p (l.take i); simp only [List.length_map, List.length_take, List.length_singleton, List.length_cons, List.length_nil] at *; omega) (by have h9 := List.length_filter_le p (l.take i); simp only [List.length_map, List.length_take, List.length_singleton, List.length_cons, List.length_nil] at *; omega) (fun v20 => ?_)
   refine Oas ?_; refine S4 ?_; refine Oar ?_; refine Omv ?_; refine S1 ?_
   exact ag (⟨i + 1, v20, by rw [filter_yes hil h1], rfl, hil⟩)
  ·
   replace h1 := nm h1
   refine S4 ?_; refine Oar ?_; refine Omv ?_; refine S1 ?_
   exact ag (⟨i + 1, v, by rw [filter_no hil h1], rfl, hil⟩)
 ·
  replace h0 := nm h0
  obtain rfl : i = l.length := by omega
  rw [List.take_length]
  refine S7 ?_; refine Omv ?_; refine Oas ?_; refine S3 ?_
  refine Done.retR (rs := [.tmp 4]) (H' := H) rfl (.tmp rfl (.nil)) (.cons (AVle.asL _ _) .nil) (by repeat (first | exact List.Sublist.refl _ | refine List.Sublist.cons _ ?_)) ?_
  exact ⟨by first | rfl | exact retI (by simp_all) | exact retB (by simp_all) | simp_all, rfl⟩
theorem bare1 (n : Int) : PCall Tryz.prog 308 [.i n] (.b (n != 0)) := by
 intro H
 refine ACall.mk' (n := 5) Tryz.func308 rfl (by kernel_rfl) rfl rfl (fun B I w0 => ?_)
 refine S2 ?_; refine Oas ?_; refine S4 ?_; refine Omv ?_; refine Ocm ?_; refine Oas ?_; refine S3 ?_
 refine r1 2 (H) ?_
 exact ⟨by first | rfl | exact retI (by simp_all) | exact retB (by simp_all) | simp_all, rfl⟩
theorem bareC (l : List Int) (hl : l.length ≤ 1000000) : PCall Tryz.prog 302 [AV.ints l] (AV.ints (bareL l)) := by
 intro H
 refine ACall.mk' (n := 5) Tryz.func302 rfl (by kernel_rfl) rfl rfl (fun B I w0 => ?_)
 refine S2 ?_; refine Oas ?_; refine S4 ?_; refine Omv ?_
 refine OL.popC rfl rfl rfl (POp.call (.mk' rfl rfl rfl rfl rfl) (keepI (.of bare1) l hl)) ?_
 refine Oas ?_; refine S3 ?_
 refine r1 2 (H) ?_
 exact ⟨by first | rfl | exact retI (by simp_all) | exact retB (by simp_all) | simp_all, rfl⟩
theorem merge1 (h n : Int) : PCall Tryz.prog 304 [.i n, .ptr [.i h]] (.b (n != h)) := by
 intro H
 refine ACall.mk' (n := 7) Tryz.func304 rfl (by kernel_rfl) rfl rfl (fun B I w0 => ?_)
 refine S2 ?_; refine Oas ?_; refine S4 ?_; refine Omv ?_; refine Old ?_; refine Ocm ?_; refine Oas ?_; refine S3 ?_
 refine r1 3 (H) ?_
 exact ⟨by first | rfl | exact retI (by simp_all) | exact retB (by simp_all) | simp_all, rfl⟩
theorem mergeC (all : List (List Int)) (ht : total all ≤ 1000) (hl : all.length ≤ 1000) : PCall Tryz.prog 288 [AV.intss all] (.tup [AV.ints (mergeP all).1, .b (mergeP all).2]) := by
 intro H
 refine ACall.mk' (n := 66) Tryz.func288 rfl (by kernel_rfl) rfl rfl (fun B I w0 => ?_)
 refine S2 ?_; refine Oas ?_; refine Oas ?_; refine S2 ?_
 refine CW.scope ?_
 refine S2 ?_; refine Oas ?_; refine S3 ?_
 refine CW.label ?_
 refine S2 ?_
 refine CW.ownNil 4 3 1 rfl ?_
 refine lj (fun m st => ∃ (A : List (List Int)) (out : List Int) (n : Nat) (v : Value), st = ⟨[(0, AV.intss A), (4, .as (AV.ints out) v)], .own 3 1 v :: H⟩ ∧ m = n ∧ total A < n ∧ mergeN n A out = mergeP all ∧ total A + out.length ≤ total all ∧ A.length = all.length) (⟨all, [], total all + 1, _, rfl, rfl, by omega, rfl, by simp, rfl⟩) ?_
 rintro m _ ⟨A, out, n, v, rfl, rfl, hn, hm, hto, hA⟩
 obtain ⟨n, rfl⟩ : ∃ q, m = q + 1 := ⟨m - 1, by omega⟩
 refine S1 ?_
 refine CW.scope ?_
 refine S2 ?_; refine Oas ?_; refine S3 ?_
 refine CW.label ?_
 refine S4 ?_; refine Omv ?_; refine Oln ?_; refine Omv ?_; refine S3 ?_
 refine lj (fun m st => ∃ (i : Nat) (lf : Bool), st = ⟨[(16, .i i), (15, .i A.length), (14, AV.intss A), (5, .b lf), (0, AV.intss A), (4, .as (AV.ints out) v)], .own 3 1 v :: H⟩ ∧ m = A.length - i ∧ i ≤ A.length ∧ lf = !((A.take i).all List.isEmpty) ∧ nextH A A = nextH A (A.drop i)) (⟨0, false, rfl, rfl, by omega, rfl, rfl⟩) ?_
 rintro m _ ⟨i, lf, rfl, rfl, hi, hlf, hnx⟩
 refine S2 ?_; refine Ocm ?_; refine S3 ?_
 refine CW.cond rfl (fun h0 => ?_) (fun h0 => ?_)
 ·
  replace h0 := nm h0
  have hil : i < A.length := by omega
  obtain ⟨L, hL⟩ : ∃ L, L = A.getD i default := ⟨_, rfl⟩
  have hdr := drop_getD hil
  rw [← hL] at hdr
  have hLt := len_total A i hil
  rw [← hL] at hLt
  refine S6 ?_
  refine OL.popC rfl rfl rfl ((by first | exact POp.ixM rfl rfl rfl rfl rfl hil | exact POp.ixI rfl rfl rfl rfl rfl hil)) ?_
  refine Old ?_; refine Oas ?_; refine S4 ?_
  rw [← hL]
  refine S1 ?_; refine Omv ?_; refine Oln ?_; refine Ocm ?_; refine S2 ?_
  refine CW.cond rfl (fun h1 => ?_) (fun h1 => ?_)
  ·
   replace h1 := nm h1
   have hLe : L = [] := List.eq_nil_of_length_eq_zero (by omega)
   refine S5 ?_; refine Oar ?_; refine Omv ?_; refine S1 ?_
   exact ag (⟨i + 1, lf, rfl, rfl, hil, by rw [all_takeB hil, ← hL, hLe, hlf]; simp, by rw [hnx, hdr, next_nil hLe]⟩)
  ·
   replace h1 := nm h1
   have hLn : 0 < L.length := by omega
   refine S4 ?_; refine Oas ?_; refine S5 ?_; refine Omv ?_; refine Oln ?_; refine Omv ?_; refine S3 ?_
   refine lj (fun m st => ∃ j : Nat, st = ⟨[(25, .i j), (24, .i A.length), (23, AV.intss A), (7, AV.ints L), (16, .i i), (15, .i A.length), (14, AV.intss A), (5, .b true), (0, AV.intss A), (4, .as (AV.ints out) v)], .own 3 1 v :: H⟩ ∧ m = A.length - j ∧ j ≤ A.length ∧ ((A.take j).any fun m => m.tail.contains (L.getD 0 default)) = false) (⟨0, rfl, rfl, by omega, rfl⟩) ?_
   rintro m _ ⟨j, rfl, rfl, hj, hany⟩
   refine S2 ?_; refine Ocm ?_; refine S3 ?_
   refine CW.cond rfl (fun h2 => ?_) (fun h2 => ?_)
   ·
    replace h2 := nm h2
    have hjl : j < A.length := by omega
    obtain ⟨M, hM⟩ : ∃ M, M = A.getD j default := ⟨_, rfl⟩
    refine S6 ?_
    refine OL.popC rfl rfl rfl ((by first | exact POp.ixM rfl rfl rfl rfl rfl hjl | exact POp.ixI rfl rfl rfl rfl rfl hjl)) ?_
    refine Old ?_; refine Oas ?_; refine S3 ?_
    rw [← hM]
    refine CW.dp mixed ?_
    refine DP.one (k := 0) (by decide +kernel) rfl ?_
    refine Omv ?_
    refine OL.nil (Done.dp ?_)
    refine DP.one (k := 1) (by decide +kernel) rfl ?_
    refine Oln ?_
    refine OL.nil (Done.dp ?_)
    refine DP.one (k := 2) (by decide +kernel) rfl ?_
    refine Ocm ?_
    refine OL.nil (Done.dp ?_)
    refine DP.one (k := 3) (by decide +kernel) rfl ?_
    refine Omv ?_
    refine OL.nil (Done.dp ?_)
    refine DP.anyC 4 9 66 rfl (by decide +kernel) rfl rfl (by decide +kernel) ?_
    refine AD.guardC rfl rfl rfl rfl rfl (fun hg => POp.move rfl rfl rfl) ?_
    refine AD.guardC rfl rfl rfl rfl rfl (fun hg => POp.slFrom (n := 1) rfl rfl (by first | rfl | exact hg | simp_all) rfl (by first | rfl | exact hg | simp_all) (by have := of_decide_eq_true hg; omega)) ?_
    refine AD.guardC rfl rfl rfl rfl rfl (fun hg => POp.move rfl rfl rfl) ?_
    refine AD.guardC rfl rfl rfl rfl rfl (fun hg => (by first | exact POp.ixM rfl rfl (gd hg) rfl rfl (by omega) | exact POp.ixI rfl rfl (gd hg) rfl rfl (by omega))) ?_
    refine AD.guardC rfl rfl rfl rfl rfl (fun hg => (by first | exact POp.ld1 rfl rfl (gd hg) rfl | (apply POp.ld1H rfl rfl (gd hg); (case hm => repeat (first | exact .head _ | refine .tail _ ?_)); (case hy => rfl)))) ?_
    refine AD.nil ?_
    refine DP.tailC 9 (by decide +kernel) rfl ?_
    refine OL.guardC rfl rfl rfl rfl rfl rfl (fun hg => POp.call (.mk' rfl rfl rfl rfl (by first | rfl | ((repeat (first | exact hg | rfl | refine Bool.and_eq_true_iff.2 ⟨?_, ?_⟩)); done) | simp_all [strip, constAV])) ((sContains _ _))) ?_
    refine Opk ?_; refine S2 ?_
    refine CW.cond rfl (fun h3 => ?_) (fun h3 => ?_)
    ·
     replace h3 := nm h3
     refine S9 ?_; refine Oar ?_; refine Omv ?_; refine S1 ?_
     exact ag (⟨i + 1, true, rfl, rfl, hil, by rw [all_takeB hil, ← hL, len_empty hLn, Bool.and_false]; rfl, by rw [hnx, hdr, next_no hLn (by rw [headOk_any, any_getD hjl (by rw [← hM]; exact head_in h3)]; rfl)]⟩)
    ·
     replace h3 := nm h3
     refine S4 ?_; refine Oar ?_; refine Omv ?_; refine S1 ?_
     exact ag (⟨j + 1, rfl, rfl, hjl, by rw [any_takeB hjl, hany, ← hM, head_out h3]; rfl⟩)
   ·
    replace h2 := nm h2
    obtain rfl : j = A.length := by omega
    rw [List.take_length] at hany
    obtain ⟨h, hh⟩ : ∃ h, h = L.getD 0 default := ⟨_, rfl⟩
    rw [← hh] at hany
    have hsome : nextH A A = some h := by rw [hnx, hdr, next_yes hLn (by rw [headOk_any, ← hh, hany]; rfl), hh]
    have hlt := total_lt h A i hil (by rw [← hL, hh]; exact getD_memB hLn)
    have hle := total_dropH h A
    refine S7 ?_; refine Omv ?_
    refine OL.popC rfl rfl rfl ((by first | exact POp.ixM rfl rfl rfl rfl rfl hLn | exact POp.ixI rfl rfl rfl rfl rfl hLn)) ?_
    refine Old ?_
    refine OL.alC rfl rfl rfl rfl (fun b0 => ?_)
    refine Sto ?_; refine S3 ?_
    refine CW.freezeP (d := 10) rfl (by repeat (first | exact Del.head _ _ | apply Del.tail)) ?_
    rw [← hh]
    refine S1 ?_; refine Omv ?_; refine Old ?_
    refine OL.popC (x := .sl 1 [[.i h]]) rfl rfl rfl (POp.row rfl rfl (by first | rfl | simp_all [strip]) rfl rfl rfl rfl rfl rfl) ?_
    refine OL.appendC rfl rfl rfl rfl rfl rfl rfl rfl (AVle.refl _) (rfl) (fun v => by repeat (first | exact Upd.head _ _ _ | apply Upd.tail)) (by simp only [List.length_map, List.length_take, List.length_singleton, List.length_cons, List.length_nil] at *; omega) (by simp only [List.length_map, List.length_take, List.length_singleton, List.length_cons, List.length_nil] at *; omega) (fun v47 => ?_)
    refine Oas ?_; refine S4 ?_; refine Oas ?_; refine S4 ?_
    refine CW.ownNil 11 23 1 rfl ?_
    refine S1 ?_; refine Omv ?_; refine Oln ?_; refine Omv ?_; refine S3 ?_
    refine lj (fun m st => ∃ (k : Nat) (w : Value), st = ⟨[(50, .i k), (49, .i A.length), (48, AV.intss A), (11, .as (AV.intss (dropH h (A.take k))) w), (10, .ptr [.i h]), (4, .as (.sl 1 ((out.map fun n => [AV.i n]) ++ [[AV.i h]])) v47)], .own 23 1 w :: .own 3 1 v47 :: H⟩ ∧ m = A.length - k ∧ k ≤ A.length) (⟨0, _, rfl, rfl, by omega⟩) ?_
    rintro m _ ⟨k, w, rfl, rfl, hk⟩
    refine S2 ?_; refine Ocm ?_; refine S3 ?_
    refine CW.cond rfl (fun h4 => ?_) (fun h4 => ?_)
    ·
     replace h4 := nm h4
     have hkl : k < A.length := by omega
     have hkt := len_total A k hkl
     refine S6 ?_
     refine OL.popC rfl rfl rfl ((by first | exact POp.ixM rfl rfl rfl rfl rfl hkl | exact POp.ixI rfl rfl rfl rfl rfl hkl)) ?_
     refine Old ?_; refine Oas ?_; refine S3 ?_; refine Omv ?_; refine Omv ?_; refine Omf ?_
     refine OL.popC rfl rfl rfl (POp.call (.mk' rfl rfl rfl rfl rfl) (keepI (.of (merge1 h)) (A.getD k default) (by omega))) ?_
     refine OL.popC (x := .sl 1 [[AV.ints ((A.getD k default).filter (· != h))]]) rfl rfl rfl (POp.row rfl rfl (by first | rfl | simp_all [strip]) rfl rfl rfl rfl rfl rfl) ?_
     refine OL.appendC rfl rfl rfl rfl rfl rfl rfl rfl (AVle.refl _) (rfl) (fun v => by repeat (first | exact Upd.head _ _ _ | apply Upd.tail)) (by have h9 := dropH_len h (A.take k); simp only [List.length_map, List.length_take, List.length_singleton, List.length_cons, List.length_nil] at *; omega) (by have h9 := dropH_len h (A.take k); simp only [List.length_map, List.length_take, List.length_singleton, List.length_cons, List.length_nil] at *; omega) (fun v59 => ?_)
     refine Oas ?_; refine S4 ?_; refine Oar ?_; refine Omv ?_; refine S1 ?_
     exact ag (⟨k + 1, v59, by rw [dropH_snoc _ hkl], rfl, hkl⟩)
    ·
     replace h4 := nm h4
     obtain rfl : k = A.length := by omega
     rw [List.take_length]
     refine S6 ?_
     refine CW.le 11 (y := AV.intss (dropH h A)) rfl (AVle.asL _ _) ?_
     refine S1 ?_; refine Omv ?_; refine Oas ?_; refine S8 ?_
     refine Done.scopeX ?_
     refine S1 ?_
     exact ag (⟨dropH h A, out ++ [h], n, v47, by rw [ints_snoc], rfl, by omega, by rw [← hm, merge_some hsome], by rw [List.length_append, List.length_singleton]; omega, by rw [dropH_len, hA]⟩)
 ·
  replace h0 := nm h0
  obtain rfl : i = A.length := by omega
  rw [List.drop_length] at hnx
  rw [List.take_length] at hlf
  refine S7 ?_; refine Omv ?_; refine Omv ?_; refine Ont ?_; refine Oas ?_; refine Oas ?_; refine S3 ?_
  refine Done.scopeR ?_
  refine S3 ?_
  refine Done.scopeR ?_
  refine Done.retR (rs := [.tmp 2, .tmp 3]) (H' := H) rfl (.tmp rfl (.tmp rfl (.nil))) (.cons (AVle.asL _ _) (.cons (.refl _) .nil)) (by repeat (first | exact List.Sublist.refl _ | refine List.Sublist.cons _ ?_)) ?_
  exact ⟨by rw [← hm, merge_none hnx, hlf, Bool.not_not]; rfl, rfl⟩
theorem lsWith (s : Nat) (c : Int) (hc : 0 ≤ c ∧ c < 64) (hs : s < 18446744073709551616) : PCall Tryz.prog 270 [.agg [AV.set s], .i c] (.agg [AV.set (s ||| 2 ^ c.toNat)]) := by
 intro H
 refine ACall.mk' (n := 12) Tryz.func270 rfl (by kernel_rfl) rfl rfl (fun B I w0 => ?_)
 refine S2 ?_
 refine OL.boxC rfl rfl rfl rfl rfl rfl rfl (fun b0 => ?_)
 refine OL.alC rfl rfl rfl rfl (fun b1 => ?_)
 refine S3 ?_
 refine CW.dp mixed ?_
 refine DP.anyC 0 4 12 rfl (by decide +kernel) rfl rfl (by decide +kernel) ?_
 refine Aia ?_; refine Ald ?_; refine Amv ?_
 refine AD.popC rfl rfl rfl (POp.shift rfl rfl rfl rfl rfl hc.1 (sh_left _ hc)) ?_
 refine AD.nil ?_
 refine DP.tailC 4 (by decide +kernel) rfl ?_
 refine OL.popC rfl rfl rfl (POp.bits rfl rfl rfl rfl rfl (bit_or _ _ hs (Nat.pow_lt_pow_right (a := 2) (n := 64) (by omega) (by omega)))) ?_
 refine Oia ?_; refine Sto ?_; refine S4 ?_; refine Ola ?_; refine Sto ?_; refine S3 ?_
 refine Done.retR (rs := [.cell 4 303]) (H' := H) rfl ((by first | exact .cellA inferInstance rfl (by repeat (first | exact .head _ | refine .tail _ ?_)) rfl rfl (.nil) | exact .ptrA inferInstance rfl rfl (.nil))) (AVleL.refl _) (by repeat (first | exact List.Sublist.refl _ | refine List.Sublist.cons _ ?_)) ?_
 exact ⟨by first | rfl | exact retI (by simp_all) | exact retB (by simp_all) | simp_all, rfl⟩
theorem lsOr (s t : Nat) (hs : s < 18446744073709551616) (ht : t < 18446744073709551616) : PCall Tryz.prog 271 [.agg [AV.set s], .agg [AV.set t]] (.agg [AV.set (s ||| t)]) := by
 intro H
 refine ACall.mk' (n := 12) Tryz.func271 rfl (by kernel_rfl) rfl rfl (fun B I w0 => ?_)
 refine S2 ?_
 refine OL.boxC rfl rfl rfl rfl rfl rfl rfl (fun b0 => ?_)
 refine Obx ?_
 refine OL.alC rfl rfl rfl rfl (fun b1 => ?_)
 refine S4 ?_; refine Oia ?_; refine Old ?_; refine Oia ?_; refine Old ?_
 refine OL.popC rfl rfl rfl (POp.bits rfl rfl rfl rfl rfl (bit_or _ _ hs ht)) ?_
 refine Oia ?_; refine Sto ?_; refine S4 ?_; refine Ola ?_; refine Sto ?_; refine S3 ?_
 refine Done.retR (rs := [.cell 4 303]) (H' := H) rfl ((by first | exact .cellA inferInstance rfl (by repeat (first | exact .head _ | refine .tail _ ?_)) rfl rfl (.nil) | exact .ptrA inferInstance rfl rfl (.nil))) (AVleL.refl _) (by repeat (first | exact List.Sublist.refl _ | refine List.Sublist.cons _ ?_)) ?_
 exact ⟨by first | rfl | exact retI (by simp_all) | exact retB (by simp_all) | simp_all, rfl⟩
abbrev walkF (wb : Nat) (G : AV) (p : Prog) : AV := .fn (.func 228) [] [.ptr [G], .ptr (progC p), .p wb 0]
abbrev walkE (wb : Nat) (G : AV) (p : Prog) : Ent := .blk wb 260 [walkF wb G p]
def WalkC (B : Nat) (p : Prog) (next : Bool) (G : AV) (L : List Vis) (fails : Bool) (J : List Vis → List Ent → Prop) (Jp : AV → List Ent → Prop) (wb : Nat) (f : Nat) : Prop :=
 ∀ (x : Vis) (out : List Int) (pre rest : List Vis) (H0 Hx : List Ent), x.dp + f = 14 → 1 ≤ x.dp → -1000 ≤ x.sz ∧ x.sz ≤ 1000 + x.dp → pre ++ (visit p next f x out).1 ++ rest = L → ((visit p next f x out).2 = none → rest = [] ∧ fails = true) → ((visit p next f x out).2 ≠ none → fails = true → rest ≠ []) → J pre H0 →
  BCall B Tryz.prog 228 [.i x.n, plcA x, .ptr [G], .ptr (progC p), .p wb 0] (H0 ++ (walkE wb G p :: Hx)) (fun y H' => y = .b true ∧ (visit p next f x out).2 ≠ none ∧ ∃ H1, H' = H1 ++ (walkE wb G p :: Hx) ∧ J (pre ++ (visit p next f x out).1) H1)
   (fun y H' => (visit p next f x out).2 = none ∧ ∃ H1, H' = H1 ++ (walkE wb G p :: Hx) ∧ Jp y H1)
theorem walk_step {B : Nat} {p : Prog} {next : Bool} {g : Fn} {fs cs : List AV} {L : List Vis} {fails : Bool} {J : List Vis → List Ent → Prop} {Jp : AV → List Ent → Prop} (hcb : CbP B Tryz.prog (.fn g fs cs) (fun x => .i x.n) plcA L fails J Jp) (hcon : ∀ y H, Jp y H → ∃ v, y.Const v)
  {wb f : Nat} (ih : ∀ f', f = f' + 1 → WalkC B p next (.fn g fs cs) L fails J Jp wb f') : WalkC B p next (.fn g fs cs) L fails J Jp wb f := by
 intro x out pre rest H0 Hx hdf hdp hsz hL hn1 hn2 hJ
 refine BCall.of (n := 55) Tryz.func228 rfl (by kernel_rfl) rfl rfl (fun I w0 => ?_)
 refine S2 ?_; refine Obx ?_; refine Oas ?_; refine S5 ?_; refine Old ?_; refine Omv ?_; refine Ola ?_
 refine OL.vcall rfl rfl rfl rfl rfl rfl rfl (AVleL.refl _) (hcb pre x H0 (walkE wb (.fn g fs cs) p :: Hx) (visit_pre hL) hJ) ?_ ?_
 ·
  rintro _ _ ⟨H1, rfl, rfl, hlast, hJ1⟩
  obtain ⟨hok, f', rfl⟩ := visit_ok hdf hL hn1 hlast
  obtain ⟨hp0, hp1⟩ := okV_place hok
  obtain ⟨K, hK⟩ : ∃ K, K = ndOf p x := ⟨_, rfl⟩
  have hvy := visit_yes (f := f') hok
  rw [← hK] at hvy
  refine Ont ?_; refine S2 ?_
  refine CW.cond rfl (fun h0 => ?_) (fun h0 => ?_)
  ·
   simp at h0
  ·
   replace h0 := nm h0
   refine S5 ?_; refine Ofa ?_; refine Old ?_; refine Omv ?_
   refine OL.popC rfl rfl rfl ((by first | exact POp.ixM rfl rfl rfl rfl rfl ⟨hp0, hp1⟩ | exact POp.ixI rfl rfl rfl rfl rfl ⟨hp0, hp1⟩)) ?_
   refine Ofa ?_; refine Old ?_; refine Oln ?_; refine Omv ?_; refine S3 ?_
   rw [show p.nodes.getD x.n.toNat default = K from hK.symm]
   refine CW.boundM (t := 21) rfl (fun hb21 => ?_)
   refine lj (fun m st => ∃ (i : Nat) (l : List Vis) (o : List Int) (H1 : List Ent), st = ⟨[(23, .i i), (22, .i K.kids.length), (21, AV.ints K.kids), (6, .ptr [.i x.sz, .i x.dp]), (0, .i x.n), (2, .ptr [.fn g fs cs]), (3, .ptr (progC p)), (4, .p wb 0)], H1 ++ (walkE wb (.fn g fs cs) p :: Hx)⟩ ∧ m = K.kids.length - i ∧ i ≤ K.kids.length ∧ visitsW (visit p next f') ((kidsV x K.op 0 K.kids).take i) (setV out x) = (l, some o) ∧ J (pre ++ x :: l) H1) (⟨0, [], setV out x, H1, rfl, rfl, by omega, rfl, hJ1⟩) ?_
   rintro m _ ⟨i, l, o, H1, rfl, rfl, hi, hvs, hJ1⟩
   refine S2 ?_; refine Ocm ?_; refine S3 ?_
   refine CW.cond rfl (fun h1 => ?_) (fun h1 => ?_)
   ·
    replace h1 := nm h1
    have hil : i < K.kids.length := by omega
    obtain ⟨R, hR, hR1, hR2⟩ := kid_step (visit_ne (p := p) (next := next) f') (kidsV_get x K.op hil) hvs
    obtain ⟨hA1, hA2, hA3⟩ := kid_args hvy hL hn1 hn2 hR hR1 (fun o' h => (hR2 o' h).2)
    refine S6 ?_; refine Omv ?_
    refine OL.popC rfl rfl rfl ((by first | exact POp.ixM rfl rfl rfl rfl rfl hil | exact POp.ixI rfl rfl rfl rfl rfl hil)) ?_
    refine Old ?_; refine Oas ?_; refine Oas ?_; refine S4 ?_; refine Ofa ?_; refine Old ?_; refine Ofa ?_; refine Old ?_; refine Oar ?_; refine Obd ?_
    refine OL.alC rfl rfl rfl rfl (fun tb => ?_)
    refine Sto ?_; refine S5 ?_; refine Ofa ?_; refine Old ?_; refine Omv ?_
    refine OL.popC rfl rfl rfl ((by first | exact POp.ixM rfl rfl rfl rfl rfl ⟨hp0, hp1⟩ | exact POp.ixI rfl rfl rfl rfl rfl ⟨hp0, hp1⟩)) ?_
    refine Ofa ?_; refine Old ?_; refine Ocm ?_; refine Omv ?_; refine Pmv ?_; refine Pcm ?_; refine Opk ?_; refine S2 ?_
    refine CW.cond rfl (fun h2 => ?_) (fun h2 => ?_)
    ·
     replace h2 := nm h2
     refine S1 ?_; refine Ofa ?_; refine Old ?_; refine Oar ?_; refine Ofa ?_; refine Sto ?_; refine S3 ?_
     refine CW.perm (H' := H1 ++ (walkE wb (.fn g fs cs) p :: .blk tb 228 [.i (kidV x K.op i (K.kids.getD i default)).sz, .i (kidV x K.op i (K.kids.getD i default)).dp] :: Hx)) (by rw [show (kidV x K.op i (K.kids.getD i default)).sz = x.sz + 1 from by rw [show (p.nodes.getD x.n.toNat default).op = K.op by rw [hK]; rfl] at h2; simp at h2; simp only [kidV]; rw [if_pos (by omega)]]; exact perm_kid _ _ _ _) ?_
     refine S1 ?_
     refine OL.popC rfl rfl rfl ((by first | exact POp.ld1 rfl rfl rfl rfl | (apply POp.ld1H rfl rfl rfl; (case hm => exact List.mem_append_right _ (.head _)); (case hy => rfl)))) ?_
     refine Omv ?_
     refine OL.popC rfl rfl rfl ((by first | exact POp.ldA rfl rfl rfl rfl | (apply POp.ldAH rfl rfl rfl; (case hm => exact List.mem_append_right _ (.tail _ (.head _))); (case hy => rfl); (case hn => rfl)))) ?_
     refine OL.bcall rfl rfl (.mk' rfl rfl rfl rfl rfl) (ih f' rfl (kidV x K.op i (K.kids.getD i default)) o (pre ++ x :: l) (R ++ rest) H1 (.blk tb 228 [.i (kidV x K.op i (K.kids.getD i default)).sz, .i (kidV x K.op i (K.kids.getD i default)).dp] :: Hx) (by simp only [kidV]; omega) (by simp only [kidV]; omega) (by simp only [kidV]; split <;> omega) hA1 hA2 hA3 hJ1) ?_ ?_
     ·
      rintro _ _ ⟨rfl, hne, H2, rfl, hJ2⟩
      obtain ⟨o', ho⟩ := Option.ne_none_iff_exists'.1 hne
      obtain ⟨hs', _⟩ := hR2 o' ho
      refine Ont ?_; refine S2 ?_
      refine CW.cond rfl (fun h3 => ?_) (fun h3 => ?_)
      ·
       simp at h3
      ·
       replace h3 := nm h3
       refine S3 ?_
       refine CW.subH (drop_kid _ _ _ _) ?_
       refine S1 ?_; refine Oar ?_; refine Omv ?_; refine S1 ?_
       exact ag (⟨i + 1, l ++ (visit p next f' (kidV x K.op i (K.kids.getD i default)) o).1, o', H2, by rfl, rfl, hil, hs', by simpa using hJ2⟩)
     ·
      rintro y H3 ⟨hno, H2, rfl, hq⟩ a w s I v hv
      obtain ⟨v0, hc⟩ := hcon _ _ hq
      rw [hc.is _ _ _ hv]
      exact outP (P := Tryz.prog) (fn := Tryz.f228) hc (drop_kid _ _ _ _) ⟨by rw [hvy]; exact (hR1 hno).2, H2, rfl, hq⟩ a w s
    ·
     replace h2 := nm h2
     refine S3 ?_
     refine CW.perm (H' := H1 ++ (walkE wb (.fn g fs cs) p :: .blk tb 228 [.i (kidV x K.op i (K.kids.getD i default)).sz, .i (kidV x K.op i (K.kids.getD i default)).dp] :: Hx)) (by rw [show (kidV x K.op i (K.kids.getD i default)).sz = x.sz from by rw [show (p.nodes.getD x.n.toNat default).op = K.op by rw [hK]; rfl] at h2; simp at h2; simp only [kidV]; rw [if_neg (by omega)]]; exact perm_kid _ _ _ _) ?_
     refine S1 ?_
     refine OL.popC rfl rfl rfl ((by first | exact POp.ld1 rfl rfl rfl rfl | (apply POp.ld1H rfl rfl rfl; (case hm => exact List.mem_append_right _ (.head _)); (case hy => rfl)))) ?_
     refine Omv ?_
     refine OL.popC rfl rfl rfl ((by first | exact POp.ldA rfl rfl rfl rfl | (apply POp.ldAH rfl rfl rfl; (case hm => exact List.mem_append_right _ (.tail _ (.head _))); (case hy => rfl); (case hn => rfl)))) ?_
     refine OL.bcall rfl rfl (.mk' rfl rfl rfl rfl rfl) (ih f' rfl (kidV x K.op i (K.kids.getD i default)) o (pre ++ x :: l) (R ++ rest) H1 (.blk tb 228 [.i (kidV x K.op i (K.kids.getD i default)).sz, .i (kidV x K.op i (K.kids.getD i default)).dp] :: Hx) (by simp only [kidV]; omega) (by simp only [kidV]; omega) (by simp only [kidV]; split <;> omega) hA1 hA2 hA3 hJ1) ?_ ?_
     ·
      rintro _ _ ⟨rfl, hne, H2, rfl, hJ2⟩
      obtain ⟨o', ho⟩ := Option.ne_none_iff_exists'.1 hne
      obtain ⟨hs', _⟩ := hR2 o' ho
      refine Ont ?_; refine S2 ?_
      refine CW.cond rfl (fun h4 => ?_) (fun h4 => ?_)
      ·
       simp at h4
      ·
       replace h4 := nm h4
       refine S3 ?_
       refine CW.subH (drop_kid _ _ _ _) ?_
       refine S1 ?_; refine Oar ?_; refine Omv ?_; refine S1 ?_
       exact ag (⟨i + 1, l ++ (visit p next f' (kidV x K.op i (K.kids.getD i default)) o).1, o', H2, by rfl, rfl, hil, hs', by simpa using hJ2⟩)
     ·
      rintro y H3 ⟨hno, H2, rfl, hq⟩ a w s I v hv
      obtain ⟨v0, hc⟩ := hcon _ _ hq
      rw [hc.is _ _ _ hv]
      exact outP (P := Tryz.prog) (fn := Tryz.f228) hc (drop_kid _ _ _ _) ⟨by rw [hvy]; exact (hR1 hno).2, H2, rfl, hq⟩ a w s
   ·
    replace h1 := nm h1
    obtain rfl : i = K.kids.length := by omega
    have hvs2 : visitsW (visit p next f') (kidsV x K.op 0 K.kids) (setV out x) = (l, some o) := by rwa [List.take_of_length_le (by rw [kidsV_len]; omega)] at hvs
    rw [hvs2] at hvy
    refine S7 ?_; refine Oas ?_; refine S3 ?_
    refine Done.retR (rs := [.tmp 7]) rfl (.tmp rfl (.nil)) (AVleL.refl _) (by repeat (first | exact List.Sublist.refl _ | refine List.Sublist.cons _ ?_)) ?_
    exact ⟨by first | rfl | exact retI (by simp_all) | exact retB (by simp_all) | simp_all, by rw [hvy]; simp, H1, rfl, by rw [hvy]; exact hJ1⟩
 ·
  rintro y H2 ⟨H1, rfl, hlast, hf, hq⟩ a w s I v hv
  obtain ⟨v0, hc⟩ := hcon _ _ hq
  rw [hc.is _ _ _ hv]
  exact outP (P := Tryz.prog) (fn := Tryz.f228) hc (.refl _) ⟨visit_last hL hn2 hf hlast, H1, rfl, hq⟩ a w s
theorem walkAll {B : Nat} {p : Prog} {next : Bool} {g : Fn} {fs cs : List AV} {L : List Vis} {fails : Bool} {J : List Vis → List Ent → Prop} {Jp : AV → List Ent → Prop} (hcb : CbP B Tryz.prog (.fn g fs cs) (fun x => .i x.n) plcA L fails J Jp) (hcon : ∀ y H, Jp y H → ∃ v, y.Const v) (wb : Nat) :
  ∀ f, WalkC B p next (.fn g fs cs) L fails J Jp wb f
 | 0 => walk_step hcb hcon (fun f' h => by omega)
 | f + 1 => walk_step hcb hcon (fun f' h => by (obtain rfl : f' = f := by omega); exact walkAll hcb hcon wb f')
theorem below1 {B : Nat} {p : Prog} {next : Bool} {g : Fn} {fs cs : List AV} {x : Vis} {out : List Int} {J : List Vis → List Ent → Prop} {Jp : AV → List Ent → Prop} (hx : x.dp = 1) (hsz : -1000 ≤ x.sz ∧ x.sz ≤ 1001) (hcon : ∀ y H, Jp y H → ∃ v, y.Const v)
  (hcb : CbP B Tryz.prog (.fn g fs cs) (fun x => .i x.n) plcA (visit p next 13 x out).1 (visit p next 13 x out).2.isNone J Jp) {H0 Hx : List Ent} (hJ : J [] H0) :
  BCall B Tryz.prog 227 [.fn g fs cs, .ptr (progC p), .ptr [.i x.n], .ptr [.i x.sz, .i x.dp]] (H0 ++ Hx) (fun _ H' => (visit p next 13 x out).2.isNone = false ∧ ∃ H1 wb, H' = H1 ++ (walkE wb (.fn g fs cs) p :: Hx) ∧ J (visit p next 13 x out).1 H1)
   (fun y H' => (visit p next 13 x out).2.isNone = true ∧ ∃ H1 wb, H' = H1 ++ (walkE wb (.fn g fs cs) p :: Hx) ∧ Jp y H1) := by
 refine BCall.of (n := 11) Tryz.func227 rfl (by kernel_rfl) rfl rfl (fun I w0 => ?_)
 refine S2 ?_; refine Obx ?_; refine S4 ?_
 refine OL.alC rfl rfl rfl rfl (fun wb => ?_)
 refine S4 ?_; refine Omf ?_; refine Sto ?_; refine S2 ?_
 refine CW.perm (H' := H0 ++ (walkE wb (.fn g fs cs) p :: Hx)) List.perm_middle.symm ?_
 refine S1 ?_
 refine OL.popC rfl rfl rfl ((by first | exact POp.ld1 rfl rfl rfl rfl | (apply POp.ld1H rfl rfl rfl; (case hm => exact List.mem_append_right _ (.head _)); (case hy => rfl)))) ?_
 refine Old ?_; refine Ola ?_
 refine OL.bcall rfl rfl (.mk' rfl rfl rfl rfl rfl) (walkAll hcb hcon wb 13 x out [] [] H0 Hx (by omega) (by omega) (by omega) (by simp) (fun h => ⟨rfl, by rw [h]; rfl⟩) (fun h hf => absurd (Option.isNone_iff_eq_none.1 hf) h) hJ) ?_ ?_
 ·
  rintro _ _ ⟨rfl, hne, H1, rfl, hJ1⟩
  refine S1 ?_
  refine Done.norR (rs := []) rfl (.nil) (AVleL.refl _) (by repeat (first | exact List.Sublist.refl _ | refine List.Sublist.cons _ ?_)) ?_
  exact ⟨by cases h : (visit p next 13 x out).2 with
 | none => exact absurd h hne
 | some o => rfl, H1, wb, rfl, by simpa using hJ1⟩
 ·
  rintro y H2 ⟨hno, H1, rfl, hq⟩ a w s I v hv
  obtain ⟨v0, hc⟩ := hcon _ _ hq
  rw [hc.is _ _ _ hv]
  exact outP (P := Tryz.prog) (fn := Tryz.f227) hc (.refl _) ⟨by rw [hno]; rfl, H1, wb, rfl, hq⟩ a w s
theorem below (p : Prog) (x : Vis) : PCall Tryz.prog 198 [AV.prog p, .i x.n, plcA x] (.fn (.func 227) [] [.ptr (progC p), .ptr [.i x.n], .ptr [.i x.sz, .i x.dp]]) := by
 intro H
 refine ACall.mk' (n := 8) Tryz.func198 rfl (by kernel_rfl) rfl rfl (fun B I w0 => ?_)
 refine S2 ?_; refine Obx ?_; refine Obx ?_; refine Obx ?_; refine Oas ?_; refine S4 ?_; refine Omf ?_; refine Oas ?_; refine S3 ?_
 refine r1 6 (H) ?_
 exact ⟨by first | rfl | exact retI (by simp_all) | exact retB (by simp_all) | simp_all, rfl⟩
theorem below_seq (B : Nat) (p : Prog) (next : Bool) (x : Vis) (out : List Int) (hx : x.dp = 1) (hsz : -1000 ≤ x.sz ∧ x.sz ≤ 1001) : SeqP B Tryz.prog (.fn (.func 227) [] [.ptr (progC p), .ptr [.i x.n], .ptr [.i x.sz, .i x.dp]]) (fun x => .i x.n) plcA (visit p next 13 x out).1 (visit p next 13 x out).2.isNone [] (fun _ => True) := by
 intro J Jp g fs cs hcon hcb H Hx hJ
 refine VCall.fnB ((below1 hx hsz hcon hcb hJ).imp ?_ ?_)
 ·rintro y H' ⟨h, H1, wb, rfl, hJ1⟩
  exact ⟨h, H1, [walkE wb (.fn g fs cs) p], rfl, trivial, hJ1⟩
 ·rintro y H' ⟨h, H1, wb, rfl, hJ1⟩
  exact ⟨h, H1, [walkE wb (.fn g fs cs) p], rfl, hJ1⟩
end Go.Proofs.YtpgnjlngepfanaaGreat

set_option linter.unusedVariables false
namespace Go.Eng.Bd
open Go.Eng.Fc
theorem rep_and (n : Nat) (h : n < 4294967296) : bitI .and .u64 (n : Int) 4294967295 = some (n : Int) := by
 rw [show (4294967295 : Int) = ((4294967295 : Nat) : Int) from rfl, bit_and n 4294967295 (by omega) (by omega)]
 rw [show (4294967295 : Nat) = 2 ^ 32 - 1 from rfl, Nat.and_two_pow_sub_one_eq_mod, Nat.mod_eq_of_lt (by omega)]
theorem rep_shr (n : Nat) (h : n < 4294967296) : shI .shr .u64 (n : Int) 32 = some 0 := by
 show some ((n : Int).fdiv (2 ^ (min (32 : Int).toNat 64))) = some 0
 congr 1
 rw [show (2 : Int) ^ (min (32 : Int).toNat 64) = 4294967296 from rfl, Int.fdiv_eq_ediv_of_nonneg _ (by omega)]
 omega
theorem u64_is {a : Int} {n : Nat} (h : a = n) (hn : n < 18446744073709551616) : IntKind.u64.wrap a = (n : Int) := by rw [h]; exact u64_wrap n hn
def repC (x z : AV) (j k : Nat) : List AV := List.replicate j x ++ List.replicate k z
theorem repC_step (x z : AV) (j k m : Nat) (hj : m ≤ j) (hk : m ≤ k) : (repC x z j k).take j ++ ((repC x z j k).take j).take m ++ (repC x z j k).drop (j + m) = repC x z (j + m) (k - m) := by
 have e1 : (repC x z j k).take j = List.replicate j x := by rw [repC, List.take_append_of_le_length (by simp), List.take_of_length_le (by simp)]
 rw [e1, List.take_replicate, Nat.min_eq_left hj, repC, List.drop_append, List.drop_eq_nil_of_le (by simp), List.nil_append, List.length_replicate, Nat.add_sub_cancel_left, List.drop_replicate, repC, List.replicate_append_replicate]
theorem repC_first (x z : AV) (k : Nat) (hk : 1 ≤ k) : (List.replicate k z).take 0 ++ [x].take 1 ++ (List.replicate k z).drop 1 = repC x z 1 (k - 1) := by
 simp [repC]
theorem repC_all (x z : AV) (j : Nat) : repC x z j 0 = List.replicate j x := by simp [repC]
theorem repC_len (x z : AV) (j k : Nat) : (repC x z j k).length = j + k := by simp [repC]
theorem repC_one (x z : AV) (j k : Nat) (hx : allOne [x] = true) (hz : allOne [z] = true) : allOne ((repC x z j k).take j) = true := by
 rw [repC, List.take_append_of_le_length (by simp), List.take_of_length_le (by simp)]
 simp only [allOne, List.all_eq_true] at hx ⊢
 intro y hy
 rw [List.eq_of_mem_replicate hy]; exact hx x (by simp)
end Go.Eng.Bd

set_option linter.unusedVariables false
set_option linter.unusedSimpArgs false
set_option maxRecDepth 10000
namespace Go.Proofs.YtpgnjlngepfanaaGreat
open Go.Eng
open Go.Eng.Fc
open Go.Eng.Bd
instance : HasMk Tryz.prog 23 (3, 8, .int .i64 0) := ⟨by kernel_rfl⟩
theorem mul64 (n : Nat) (hn : n < 4294967296) : PCall Tryz.prog 249 [.val (.int .u64 ((1 : Nat) : Int)), .val (.int .u64 (n : Int))] (.tup [.val (.int .u64 0), .val (.int .u64 (n : Int))]) := by
 intro H
 refine ACall.mk' (n := 51) Tryz.func249 rfl (by kernel_rfl) rfl rfl (fun B I w0 => ?_)
 refine S2 ?_; refine Oas ?_; refine Oas ?_; refine S4 ?_; refine Omv ?_
 refine OL.popC rfl rfl rfl (POp.bits rfl rfl rfl rfl rfl (rep_and 1 (by omega))) ?_
 refine Oas ?_; refine S4 ?_; refine Omv ?_
 refine OL.popC rfl rfl rfl (POp.shift rfl rfl rfl rfl rfl (by omega) (rep_shr 1 (by omega))) ?_
 refine Oas ?_; refine S4 ?_; refine Omv ?_
 refine OL.popC rfl rfl rfl (POp.bits rfl rfl rfl rfl rfl (rep_and _ (by omega))) ?_
 refine Oas ?_; refine S4 ?_; refine Omv ?_
 refine OL.popC rfl rfl rfl (POp.shift rfl rfl rfl rfl rfl (by omega) (rep_shr _ (by omega))) ?_
 refine Oas ?_; refine S4 ?_; refine Omv ?_; refine Omv ?_
 refine OL.popC rfl rfl rfl (POp.arith rfl rfl rfl rfl rfl rfl (u64_is (n := n) (by omega) (by omega))) ?_
 refine Oas ?_; refine S4 ?_; refine Omv ?_; refine Omv ?_
 refine OL.popC rfl rfl rfl (POp.arith rfl rfl rfl rfl rfl rfl (u64_is (n := 0) (by omega) (by omega))) ?_
 refine Omv ?_
 refine OL.popC rfl rfl rfl (POp.shift rfl rfl rfl rfl rfl (by omega) (rep_shr _ (by omega))) ?_
 refine OL.popC rfl rfl rfl (POp.arith rfl rfl rfl rfl rfl rfl (u64_is (n := 0) (by omega) (by omega))) ?_
 refine Oas ?_; refine S4 ?_; refine Omv ?_
 refine OL.popC rfl rfl rfl (POp.bits rfl rfl rfl rfl rfl (rep_and 0 (by omega))) ?_
 refine Oas ?_; refine S4 ?_; refine Omv ?_
 refine OL.popC rfl rfl rfl (POp.shift rfl rfl rfl rfl rfl (by omega) (rep_shr 0 (by omega))) ?_
 refine Oas ?_; refine S4 ?_; refine Omv ?_; refine Omv ?_; refine Omv ?_
 refine OL.popC rfl rfl rfl (POp.arith rfl rfl rfl rfl rfl rfl (u64_is (n := 0) (by omega) (by omega))) ?_
 refine OL.popC rfl rfl rfl (POp.arith rfl rfl rfl rfl rfl rfl (u64_is (n := 0) (by omega) (by omega))) ?_
 refine Oas ?_; refine S4 ?_; refine Omv ?_; refine Omv ?_
 refine OL.popC rfl rfl rfl (POp.arith rfl rfl rfl rfl rfl rfl (u64_is (n := 0) (by omega) (by omega))) ?_
 refine Omv ?_
 refine OL.popC rfl rfl rfl (POp.arith rfl rfl rfl rfl rfl rfl (u64_is (n := 0) (by omega) (by omega))) ?_
 refine Omv ?_
 refine OL.popC rfl rfl rfl (POp.shift rfl rfl rfl rfl rfl (by omega) (rep_shr 0 (by omega))) ?_
 refine OL.popC rfl rfl rfl (POp.arith rfl rfl rfl rfl rfl rfl (u64_is (n := 0) (by omega) (by omega))) ?_
 refine Oas ?_; refine S4 ?_; refine Omv ?_; refine Omv ?_
 refine OL.popC rfl rfl rfl (POp.arith rfl rfl rfl rfl rfl rfl (u64_is (n := n) (by omega) (by omega))) ?_
 refine Oas ?_; refine S3 ?_
 refine Done.retR (rs := [.tmp 4, .tmp 5]) (H' := H) rfl (.tmp rfl (.tmp rfl (.nil))) (AVleL.refl _) (by repeat (first | exact List.Sublist.refl _ | refine List.Sublist.cons _ ?_)) ?_
 exact ⟨by first | rfl | exact retI (by simp_all) | exact retB (by simp_all) | simp_all, rfl⟩
theorem mulU (n : Nat) (hn : n < 4294967296) : PCall Tryz.prog 226 [.val (.int .u64 ((1 : Nat) : Int)), .val (.int .u64 (n : Int))] (.tup [.val (.int .u64 0), .val (.int .u64 (n : Int))]) := by
 intro H
 refine ACall.mk' (n := 30) Tryz.func226 rfl (by kernel_rfl) rfl rfl (fun B I w0 => ?_)
 refine S2 ?_; refine Oas ?_; refine Oas ?_; refine S3 ?_
 refine CW.condKF ?_
 refine S4 ?_; refine Omv ?_; refine Omv ?_
 refine OL.popC rfl rfl rfl (POp.call (.mk' rfl rfl rfl rfl rfl) (mul64 n hn)) ?_
 refine Omv ?_; refine Oex ?_; refine Oex ?_; refine Oas ?_; refine Oas ?_; refine S4 ?_; refine Omv ?_; refine Omv ?_; refine Oas ?_; refine Oas ?_; refine S3 ?_
 refine Done.retR (rs := [.tmp 4, .tmp 5]) (H' := H) rfl (.tmp rfl (.tmp rfl (.nil))) (AVleL.refl _) (by repeat (first | exact List.Sublist.refl _ | refine List.Sublist.cons _ ?_)) ?_
 exact ⟨by first | rfl | exact retI (by simp_all) | exact retB (by simp_all) | simp_all, rfl⟩
theorem repeatI (n : Nat) (hn : 1 ≤ n ∧ n ≤ 1000000) (H : List Ent) : ACall Tryz.prog 196 [.sl 1 [[(.i (-1))]], .i n] H (fun y H' => ∃ nb, y = (.val (.slice (some ⟨nb, 0, none⟩) n n)) ∧ H' = .blk nb 3 (List.replicate n (.i (-1))) :: H) (fun _ _ => False) := by
 refine ACall.mk' (n := 48) Tryz.func196 rfl (by kernel_rfl) rfl rfl (fun B I w0 => ?_)
 refine S2 ?_; refine Oas ?_; refine S5 ?_; refine Omv ?_; refine Ocm ?_; refine S2 ?_
 refine CW.cond rfl (fun h0 => ?_) (fun h0 => ?_)
 ·
  simp at h0; omega
 ·
  replace h0 := nm h0
  refine S4 ?_; refine Omv ?_; refine Oln ?_
  refine OL.popC rfl rfl rfl (POp.cv rfl rfl rfl (u64_is (n := 1) rfl (by omega))) ?_
  refine Omv ?_
  refine OL.popC rfl rfl rfl (POp.cv rfl rfl rfl (u64_is (n := n) rfl (by omega))) ?_
  refine OL.popC rfl rfl rfl (POp.call (.mk' rfl rfl rfl rfl rfl) (mulU n (by omega))) ?_
  refine Omv ?_; refine Oex ?_; refine Oex ?_; refine Oas ?_; refine Oas ?_; refine S5 ?_; refine Omv ?_; refine Ocm ?_; refine Omv ?_; refine Pmv ?_; refine Pcm ?_; refine Opk ?_
  refine S2 ?_
  refine CW.cond rfl (fun h1 => ?_) (fun h1 => ?_)
  ·
   simp at h1; omega
  ·
   replace h1 := nm h1
   refine S4 ?_; refine Omv ?_
   refine OL.popC rfl rfl rfl (POp.cv rfl rfl rfl (wrap64 (n := (n : Int)) (by omega))) ?_
   refine OL.mkSlC (n) rfl rfl rfl rfl rfl rfl rfl rfl (rfl) (by omega) (by simp only [maxLen]; omega) (fun nb => ?_)
   refine Oas ?_; refine S4 ?_; refine Omv ?_; refine Omv ?_
   refine OL.copyC 1 rfl rfl rfl rfl rfl rfl (SlReads.sl (els := [[(.i (-1))]]) (by simp [Op.operands, Call.operands]) rfl rfl (AVle.refl _) (by simp)) rfl (by simp; omega) (by simp; omega) (.head _ _ _) ?_
   refine Oas ?_; refine S4 ?_
   refine CW.eqH (H' := .blk nb 3 (repC (.i (-1)) (.val (.int .i64 0)) 1 (n - 1)) :: H) (by rw [show (0 : Nat) + 1 * 1 = 1 from rfl, show 1 * 1 = 1 from rfl]; rw [← repC_first _ _ _ hn.1]; rfl) ?_
   refine lj (fun m st => ∃ j : Nat, st = ⟨[(8, .i j), (7, (.val (.slice (some ⟨nb, 0, none⟩) n n))), (0, .sl 1 [[(.i (-1))]])], .blk nb 3 (repC (.i (-1)) (.val (.int .i64 0)) j (n - j)) :: H⟩ ∧ m = n - j ∧ 1 ≤ j ∧ j ≤ n) (⟨1, rfl, rfl, by omega, by omega⟩) ?_
   rintro m _ ⟨j, rfl, rfl, hj1, hj⟩
   refine S3 ?_; refine Omv ?_; refine Omv ?_; refine Oln ?_; refine Ocm ?_; refine S2 ?_
   refine CW.cond rfl (fun h2 => ?_) (fun h2 => ?_)
   ·
    replace h2 := nm h2
    have hjn : j < n := by simpa using h2
    refine S3 ?_
    refine CW.dp mixed ?_
    refine DP.anyH [⟨7, 45, false⟩] (()) (fun (g : Unit) (vs : List (Option Value)) => match vs with | [none] => .blk nb 3 (repC (.i (-1)) (.val (.int .i64 0)) j (n - j)) :: H | [some _] => .blk nb 3 ((repC (.i (-1)) (.val (.int .i64 0)) j (n - j)).take (0 + j * 1) ++ (((repC (.i (-1)) (.val (.int .i64 0)) j (n - j)).drop (0 + 0 * 1)).take ((j - 0) * 1)).take (min j (n - j) * 1) ++ (repC (.i (-1)) (.val (.int .i64 0)) j (n - j)).drop (0 + j * 1 + min j (n - j) * 1)) :: H | _ => []) 0 8 48 rfl (by decide +kernel) (by decide +kernel) rfl rfl (by decide +kernel) rfl ?_
    refine UD.popG [[true], [false]] rfl (by decide +kernel) rfl rfl rfl ⟨fun g f => POp.move rfl rfl rfl, fun g f => POp.move rfl rfl rfl, trivial⟩ ?_
    refine UD.popG [[false]] rfl (by decide +kernel) rfl rfl rfl ⟨fun g f => POp.move rfl rfl rfl, trivial⟩ ?_
    refine UD.popG [[false]] rfl (by decide +kernel) rfl rfl rfl ⟨fun g f => POp.move rfl rfl rfl, trivial⟩ ?_
    refine UD.popG [[false]] rfl (by decide +kernel) rfl rfl rfl ⟨fun g f => POp.slC (kh := .i64) (l := j) (m := n) rfl rfl rfl rfl rfl rfl rfl (by omega) (by omega) (by omega), trivial⟩ ?_
    refine UD.popG [[false]] rfl (by decide +kernel) rfl rfl rfl ⟨fun g f => POp.move rfl rfl rfl, trivial⟩ ?_
    refine UD.popG [[false]] rfl (by decide +kernel) rfl rfl rfl ⟨fun g f => POp.move rfl rfl rfl, trivial⟩ ?_
    refine UD.popG [[false]] rfl (by decide +kernel) rfl rfl rfl ⟨fun g f => POp.slC (kl := .i64) (l := 0) (m := j) rfl rfl rfl rfl rfl rfl rfl (by omega) (by omega) (by omega), trivial⟩ ?_
    refine UD.effG 0 [[false]] rfl rfl rfl (by decide +kernel) rfl rfl rfl ⟨fun g f => FOk.copy () (min j (n - j)) rfl rfl rfl (SlReads.blk (by simp [Op.operands, Call.operands]) rfl rfl (.head _) (by rw [repC_len]; omega)) (by rw [Nat.zero_add, Nat.zero_mul, List.drop_zero, Nat.sub_zero, Nat.mul_one]; exact repC_one _ _ _ _ rfl rfl) (by omega) (by rw [repC_len]; omega) (fun v => .head _ _ _), trivial⟩ ?_
    refine UD.nil (fun g f => ?_)
    simp only [CE.vals, List.map_cons, List.map_nil, List.cons_append, List.nil_append]
    refine DP.tailC 8 (by decide +kernel) rfl ?_
    refine Oar ?_; refine Oas ?_; refine S2 ?_
    refine Done.eqH (H' := .blk nb 3 (repC (.i (-1)) (.val (.int .i64 0)) (j + min j (n - j)) (n - (j + min j (n - j)))) :: H) (by rw [Nat.zero_add, Nat.zero_add, Nat.zero_mul, Nat.mul_one, Nat.mul_one, Nat.mul_one, List.drop_zero, Nat.sub_zero, repC_step _ _ _ _ _ (by omega) (by omega), Nat.sub_sub]) ?_
    refine Done.le 8 (y := .i (j + min j (n - j) : Nat)) rfl (AVle.eqI (by omega)) ?_
    exact ag ⟨j + min j (n - j), rfl, rfl, by omega, by omega⟩
   ·
    replace h2 := nm h2
    obtain rfl : j = n := by simp at h2; omega
    refine S7 ?_; refine Omv ?_; refine Oas ?_; refine S3 ?_
    refine r1 4 (.blk nb 3 (repC (.i (-1)) (.val (.int .i64 0)) j (j - j)) :: H) ?_
    exact ⟨nb, by first | rfl | exact retI (by simp_all) | exact retB (by simp_all) | simp_all, by rw [Nat.sub_self, repC_all]⟩
instance : HasTa Tryz.prog 233 := ⟨by kernel_rfl⟩
instance : HasTa Tryz.prog 234 := ⟨by kernel_rfl⟩
abbrev outH (ob nb n : Nat) (o : List Int) : List Ent := [.blk ob 23 [(.val (.slice (some ⟨nb, 0, none⟩) n n))], .blk nb 3 ((o).map AV.i)]
theorem round_key {p : Prog} {next : Bool} {out : List Int} {x0 : Vis} {pre : List Vis} {x : Vis} (hd : x0.dp = 1) (h : pre ++ [x] <+: (visit p next 13 x0 out).1) :
  (okV p next x (outsV pre out) = true ∧ (pre ++ [x] = (visit p next 13 x0 out).1 → (visit p next 13 x0 out).2.isNone = false)) ∨ (okV p next x (outsV pre out) = false ∧ pre ++ [x] = (visit p next 13 x0 out).1 ∧ (visit p next 13 x0 out).2.isNone = true) := by
 have hv := visit_vp (p := p) (next := next) 13 x0 out (by omega)
 rcases Classical.em (pre ++ [x] = (visit p next 13 x0 out).1 ∧ (visit p next 13 x0 out).2 = none) with ⟨h1, h2⟩ | h1
 ·exact .inr ⟨hv.no pre x h1 h2, h1, by rw [h2]; rfl⟩
 ·refine .inl ⟨hv.yes pre x h h1, fun e => ?_⟩
  cases hr : (visit p next 13 x0 out).2 with
  | none => exact absurd ⟨e, hr⟩ h1
  | some o => rfl
theorem kind_arg {p : Prog} {x : Nd} {sz : Int} (h : kindOf x.op = some none) (hn : numP p x sz = true) : 0 ≤ x.n ∧ x.n < p.gens.length := by
 have h5 : x.op = 5 := by
  unfold kindOf at h
  repeat' split at h
  all_goals first | assumption | (simp at h; done)
 unfold numP mostP at hn
 rw [if_neg (by omega), if_neg (by omega), if_neg (by omega), if_neg (by omega), if_pos h5] at hn
 simpa using hn
theorem bodyS {p : Prog} {n : Nat} (hn : n = p.nodes.length) (k size : Int) (next : Bool) (hs : 0 ≤ size ∧ size ≤ 1000) (out : List Int) (ho : out.length = n) (hC0 : p.classes.length ≤ 100) (ob nb : Nat) (H : List Ent) :
  ACall Tryz.prog 197 [.i k, .i size, .b next, .ptr (progC p), .p ob 0] (outH ob nb n out ++ H) (fun _ H' => (visit p next 13 (⟨k, size, 1⟩ : Vis) out).2.isNone = false ∧ H' = outH ob nb n (outsV (visit p next 13 (⟨k, size, 1⟩ : Vis) out).1 out) ++ H) (fun y H' => y = unfA ∧ (visit p next 13 (⟨k, size, 1⟩ : Vis) out).2.isNone = true ∧ ∃ o', H' = outH ob nb n o' ++ H) := by
 refine ACall.mkF (n := 86) Tryz.func197 rfl (by kernel_rfl) rfl rfl (fun B I w0 => ?_)
 refine CWF.seq ?_
 refine CW.atF ?_
 refine S1 ?_; refine Obx ?_; refine S1 ?_
 refine CWF.done ?_
 refine CWF.seq ?_
 refine CW.atF ?_
 refine S1 ?_; refine Ola ?_; refine Omv ?_; refine Omv ?_; refine Obd ?_
 refine OL.popC rfl rfl rfl (POp.call (.mk' rfl rfl rfl rfl rfl) (below p (⟨k, size, 1⟩ : Vis))) ?_
 refine S1 ?_
 refine CWF.done ?_
 refine CWF.block ?_
 refine CWF.rangeFuncP Tryz.func197 (fun x => .i x.n) (plcA) ((visit p next 13 (⟨k, size, 1⟩ : Vis) out).1) ((visit p next 13 (⟨k, size, 1⟩ : Vis) out).2.isNone) (fun pre H => H = outH ob nb n (outsV pre out)) (fun y H => y = unfA ∧ ∃ o', H = outH ob nb n o') (outH ob nb n out) ([]) (H) (fun _ => True) (fun x => [(9, .ptr [.i x.sz, .i x.dp]), (8, .i x.n), (7, .ptr [.b next]), (3, .ptr (progC p)), (4, .p ob 0)]) rfl rfl rfl rfl rfl (below_seq B p next (⟨k, size, 1⟩ : Vis) out rfl (by show _ ≤ size ∧ size ≤ _; omega)) (rfl) (fun y H h => ⟨unfV, h.1.symm ▸ unf_c⟩) ?_ ?_ ?_ ?_
 ·intro l0 I1 w1 x Hy
  refine S2 ?_; refine Oas ?_; refine S3 ?_
  refine OL.alC rfl rfl rfl rfl (fun b0 => ?_)
  refine Sto ?_; refine S1 ?_
  refine Done.freezeP (d := 9) rfl (Del.head _ _) ?_
  exact fun a w s => ⟨_, rfl, s.weaken (envLe_get (by repeat (first | exact trivial | refine ⟨rfl, ?_⟩))) (List.Sublist.refl _)⟩
 ·intro l0 D0 lp pre x H1 Hy I1 w1 hpre hJ
  obtain rfl := hJ
  obtain ⟨C, hC⟩ : ∃ C, C = outsV pre out := ⟨_, rfl⟩
  have hCl : C.length = n := by rw [hC, outsV_len, ho]
  have hkey := round_key rfl hpre
  rw [← hC] at hkey ⊢
  have hsm := visit_small (p := p) (next := next) 13 (⟨k, size, 1⟩ : Vis) out (by rfl) (by unfold smallV; simp only []; omega) x (hpre.subset (by simp))
  unfold smallV at hsm
  refine S3 ?_; refine Omv ?_; refine Ocm ?_; refine Omv ?_; refine Pmv ?_; refine Pfa ?_; refine Pld ?_; refine Pln ?_; refine Pcm ?_; refine Opk ?_; refine Omv ?_; refine Pld ?_
  refine Pmv ?_
  refine OL.guardC rfl rfl rfl rfl rfl rfl (fun hg => POp.ixC rfl rfl (gd hg) rfl (gd hg) (by simp at hg; omega)) ?_
  refine OL.guardC rfl rfl rfl rfl rfl rfl (fun hg => (by first | exact POp.ld1 rfl rfl (gd hg) rfl | (apply POp.ld1H rfl rfl (gd hg); (case hm => exact .tail _ (.tail _ (.tail _ (.head _)))); (case hy => exact cellI_get (by simp at hg; omega))))) ?_
  refine Pcm ?_; refine Opk ?_; refine Omv ?_; refine Pfa ?_; refine Pld ?_; refine Pcm ?_; refine Opk ?_
  cases hpl : placeOk p x C
  ·
   refine OL.rcallN rfl rfl (.mk' rfl rfl rfl rfl rfl) (needF (by simp only [Bool.cond_false_right, ge_iff_le]; exact hpl) _) unf_c ?_
   rcases hkey with ⟨h1, _⟩ | ⟨_, h2, h3⟩
   ·rw [okV_no1 hpl] at h1; cases h1
   ·intro a w s
    exact Done.roundPP (J := fun pre H => H = outH ob nb n (outsV pre out)) (H := outH ob nb n (C)) (by repeat (first | exact List.Sublist.refl _ | refine List.Sublist.cons _ ?_)) unf_c h2 h3 ⟨rfl, _, rfl⟩ a w s
  ·
   refine OL.rcallS rfl rfl rfl (.mk' rfl rfl rfl rfl rfl) (needT (by simp only [Bool.cond_false_right, ge_iff_le]; exact hpl) _) ?_
   obtain ⟨hp0, hp1⟩ := placeOk_in hpl
   refine S4 ?_; refine Old ?_; refine Omv ?_; refine Ofa ?_; refine Old ?_
   refine OL.popC rfl rfl rfl (POp.ixC rfl rfl rfl rfl rfl (by omega)) ?_
   apply OL.stoC rfl rfl rfl rfl rfl rfl rfl rfl rfl rfl
   (case hu => repeat (first | exact Upd.head _ _ _ | apply Upd.tail)); (case hfit => exact Nat.ble_eq_true_of_le (by rw [List.length_map]; omega)); (case hds => exact cellI_set (by omega))
   refine S4 ?_; refine Ofa ?_; refine Old ?_; refine Omv ?_
   refine OL.popC rfl rfl rfl ((by first | exact POp.ixM rfl rfl rfl rfl rfl ⟨hp0, hp1⟩ | exact POp.ixI rfl rfl rfl rfl rfl ⟨hp0, hp1⟩)) ?_
   refine Ola ?_
   refine OL.alC rfl rfl rfl rfl (fun kb => ?_)
   refine Sto ?_; refine S4 ?_; refine Ola ?_; refine Ola ?_; refine Ofa ?_; refine Old ?_
   refine OL.popC rfl rfl rfl (POp.call (.mk' rfl rfl rfl rfl rfl) (number p hC0 (ndOf p x) x.sz)) ?_
   refine Omv ?_; refine Pld ?_; refine Pmv ?_; refine Pfa ?_; refine Pld ?_; refine Pcm ?_; refine Ppk ?_; refine Opk ?_
   cases hgd : (numP p (ndOf p x) x.sz && (next || (ndOf p x).op != 18))
   ·
    refine OL.rcallN rfl rfl (.mk' rfl rfl rfl rfl rfl) (needF (by simp only [Bool.cond_false_right, Bool.cond_true_left]; exact hgd) _) unf_c ?_
    rcases hkey with ⟨h1, _⟩ | ⟨_, h2, h3⟩
    ·rw [okV_no2 hgd] at h1; cases h1
    ·intro a w s
     exact Done.roundPP (J := fun pre H => H = outH ob nb n (outsV pre out)) (H := outH ob nb n (setV C x)) (by repeat (first | exact List.Sublist.refl _ | refine List.Sublist.cons _ ?_)) unf_c h2 h3 ⟨rfl, _, rfl⟩ a w s
   ·
    refine OL.rcallS rfl rfl rfl (.mk' rfl rfl rfl rfl rfl) (needT (by simp only [Bool.cond_false_right, Bool.cond_true_left]; exact hgd) _) ?_
    refine S4 ?_; refine Ofa ?_; refine Old ?_
    rcases hkd : kindOf (ndOf p x).op with _ | _ | kk
    ·
     refine OL.popC rfl rfl rfl (POp.call (.mk' rfl rfl rfl rfl rfl) (show PCall Tryz.prog 200 [.i (ndOf p x).op] (.val .nilIface) from by have h := kidsOf (ndOf p x).op; rw [hkd] at h; exact h)) ?_
     refine S5 ?_
     refine OL.popC rfl rfl rfl ((by first | exact POp.taYes rfl rfl rfl | exact POp.taNo rfl rfl rfl rfl | exact POp.taNil rfl rfl rfl)) ?_
     refine Oex ?_; refine Oex ?_
     refine OL.popC rfl rfl rfl ((by first | exact POp.taYes rfl rfl rfl | exact POp.taNo rfl rfl rfl rfl | exact POp.taNil rfl rfl rfl)) ?_
     refine Oex ?_; refine Oex ?_; refine Opk ?_; refine S2 ?_
     refine CW.cond rfl (fun h0 => ?_) (fun h0 => ?_)
     ·
      simp at h0
     ·
      replace h0 := nm h0
      refine S2 ?_; refine Oas ?_; refine S3 ?_
      ·
       refine OL.rcallN rfl rfl (.mk' rfl rfl rfl rfl rfl) (needF (rfl) _) unf_c ?_
       rcases hkey with ⟨h1, _⟩ | ⟨_, h2, h3⟩
       ·rw [okV_no3 hkd] at h1; cases h1
       ·intro a w s
        exact Done.roundPP (J := fun pre H => H = outH ob nb n (outsV pre out)) (H := outH ob nb n (setV C x)) (by repeat (first | exact List.Sublist.refl _ | refine List.Sublist.cons _ ?_)) unf_c h2 h3 ⟨rfl, _, rfl⟩ a w s
    ·
     refine OL.popC rfl rfl rfl (POp.call (.mk' rfl rfl rfl rfl rfl) (show PCall Tryz.prog 200 [.i (ndOf p x).op] (.iface 234 (.agg [])) from by have h := kidsOf (ndOf p x).op; rw [hkd] at h; exact h)) ?_
     have hok := okV_a hpl hgd hkd
     obtain ⟨hx0, hx1⟩ := kind_arg hkd (Bool.and_eq_true_iff.1 hgd).1
     refine S5 ?_
     refine OL.popC rfl rfl rfl ((by first | exact POp.taYes rfl rfl rfl | exact POp.taNo rfl rfl rfl rfl | exact POp.taNil rfl rfl rfl)) ?_
     refine Oex ?_; refine Oex ?_
     refine OL.popC rfl rfl rfl ((by first | exact POp.taYes rfl rfl rfl | exact POp.taNo rfl rfl rfl rfl | exact POp.taNil rfl rfl rfl)) ?_
     refine Oex ?_; refine Oex ?_; refine Opk ?_; refine S2 ?_
     refine CW.cond rfl (fun h1 => ?_) (fun h1 => ?_)
     ·
      replace h1 := nm h1
      refine S2 ?_; refine Oas ?_; refine S2 ?_
      refine CW.dp mixed ?_
      refine DP.anyC 0 7 86 rfl (by decide +kernel) rfl rfl (by decide +kernel) ?_
      refine Afa ?_; refine Ald ?_; refine Aln ?_; refine Amv ?_; refine Ala ?_; refine Ala ?_
      refine AD.popC rfl rfl rfl (by first | exact POp.call (.inv rfl rfl rfl (by kernel_rfl) rfl rfl) (argMany p (ndOf p x) hx0 hx1) | exact POp.call (.inv rfl rfl rfl (by kernel_rfl) rfl rfl) (soMany kk p (ndOf p x))) ?_
      refine AD.nil ?_
      refine DP.tailC 7 (by decide +kernel) rfl ?_
      refine Ocm ?_
      cases hbb : okV p next x C
      ·
       refine OL.rcallN rfl rfl (.mk' rfl rfl rfl rfl rfl) (needF (by rw [hok] at hbb; exact hbb) _) unf_c ?_
       rcases hkey with ⟨h1, _⟩ | ⟨_, h2, h3⟩
       ·rw [hbb] at h1; cases h1
       ·intro a w s
        exact Done.roundPP (J := fun pre H => H = outH ob nb n (outsV pre out)) (H := outH ob nb n (setV C x)) (by repeat (first | exact List.Sublist.refl _ | refine List.Sublist.cons _ ?_)) unf_c h2 h3 ⟨rfl, _, rfl⟩ a w s
      ·
       refine OL.rcallS rfl rfl rfl (.mk' rfl rfl rfl rfl rfl) (needT (by rw [hok] at hbb; exact hbb) _) ?_
       refine S3 ?_
       exact Done.roundNP (H := outH ob nb n (setV C x)) (by repeat (first | exact List.Sublist.refl _ | refine List.Sublist.cons _ ?_)) (by rcases hkey with ⟨_, h2⟩ | ⟨h1, _⟩; exact h2; rw [hbb] at h1; cases h1) (by rw [outsV_snoc, ← hC])
     ·
      simp at h1
    ·
     refine OL.popC rfl rfl rfl (POp.call (.mk' rfl rfl rfl rfl rfl) (show PCall Tryz.prog 200 [.i (ndOf p x).op] (.iface 233 (.i kk)) from by have h := kidsOf (ndOf p x).op; rw [hkd] at h; exact h)) ?_
     have hok := okV_k hpl hgd hkd
     refine S5 ?_
     refine OL.popC rfl rfl rfl ((by first | exact POp.taYes rfl rfl rfl | exact POp.taNo rfl rfl rfl rfl | exact POp.taNil rfl rfl rfl)) ?_
     refine Oex ?_; refine Oex ?_
     refine OL.popC rfl rfl rfl ((by first | exact POp.taYes rfl rfl rfl | exact POp.taNo rfl rfl rfl rfl | exact POp.taNil rfl rfl rfl)) ?_
     refine Oex ?_; refine Oex ?_; refine Opk ?_; refine S2 ?_
     refine CW.cond rfl (fun h2 => ?_) (fun h2 => ?_)
     ·
      replace h2 := nm h2
      refine S2 ?_; refine Oas ?_; refine S2 ?_
      refine CW.dp mixed ?_
      refine DP.anyC 0 7 86 rfl (by decide +kernel) rfl rfl (by decide +kernel) ?_
      refine Afa ?_; refine Ald ?_; refine Aln ?_; refine Amv ?_; refine Ala ?_; refine Ala ?_
      refine AD.popC rfl rfl rfl (by first | exact POp.call (.inv rfl rfl rfl (by kernel_rfl) rfl rfl) (argMany p (ndOf p x) hx0 hx1) | exact POp.call (.inv rfl rfl rfl (by kernel_rfl) rfl rfl) (soMany kk p (ndOf p x))) ?_
      refine AD.nil ?_
      refine DP.tailC 7 (by decide +kernel) rfl ?_
      refine Ocm ?_
      cases hbb : okV p next x C
      ·
       refine OL.rcallN rfl rfl (.mk' rfl rfl rfl rfl rfl) (needF (by rw [hok] at hbb; exact hbb) _) unf_c ?_
       rcases hkey with ⟨h1, _⟩ | ⟨_, h2, h3⟩
       ·rw [hbb] at h1; cases h1
       ·intro a w s
        exact Done.roundPP (J := fun pre H => H = outH ob nb n (outsV pre out)) (H := outH ob nb n (setV C x)) (by repeat (first | exact List.Sublist.refl _ | refine List.Sublist.cons _ ?_)) unf_c h2 h3 ⟨rfl, _, rfl⟩ a w s
      ·
       refine OL.rcallS rfl rfl rfl (.mk' rfl rfl rfl rfl rfl) (needT (by rw [hok] at hbb; exact hbb) _) ?_
       refine S3 ?_
       exact Done.roundNP (H := outH ob nb n (setV C x)) (by repeat (first | exact List.Sublist.refl _ | refine List.Sublist.cons _ ?_)) (by rcases hkey with ⟨_, h2⟩ | ⟨h1, _⟩; exact h2; rw [hbb] at h1; cases h1) (by rw [outsV_snoc, ← hC])
     ·
      simp at h2
 ·intro D0 H1 Hs1 hfl hHn hJ
  obtain rfl := hJ
  refine Done.subH (H' := .obj D0 (.deferred (some [])) :: (outH ob nb n (outsV (visit p next 13 (⟨k, size, 1⟩ : Vis) out).1 out) ++ H)) (.cons_cons _ (.append_left (List.sublist_append_right _ _) _)) ?_
  refine S1 ?_
  refine Done.retM1 (rs := []) (H' := outH ob nb n (outsV (visit p next 13 (⟨k, size, 1⟩ : Vis) out).1 out) ++ H) rfl (by repeat (first | exact Del.head _ _ | apply Del.tail)) (.nil) (AVleL.refl _) (by repeat (first | exact List.Sublist.refl _ | refine List.Sublist.cons _ ?_)) ?_
  exact ⟨hfl, rfl⟩
 ·intro D0 y H1 Hs1 hfl hJp I1 v1 a1 w1 hs1 hv1
  obtain ⟨rfl, o1, rfl⟩ := hJp
  rw [unf_c.is _ _ _ hv1]
  exact outM unf_c (Del.head _ _) (.append_left (List.sublist_append_right _ _) _) ⟨rfl, hfl, o1, rfl⟩ a1 w1 hs1
end Go.Proofs.YtpgnjlngepfanaaGreat
