/- Part 14 of the proof: contracts of functions of the program and what they need. No condition beyond those that each theorem names. -/
import Derived.Test.YtpgnjlngepfanaaGreatDmP13
import Derived.KernelRfl
set_option linter.unusedVariables false
set_option linter.unusedSimpArgs false
set_option maxRecDepth 10000
set_option maxRecDepth 100000
namespace Go.Proofs.YtpgnjlngepfanaaGreat
open Go.Eng
open Go.Eng.Fc
open Go.Eng.Bd
open Go.Eng.Im (U8 u8 u8s sumR numberR manyR numR_lt splitR Sec)
open Go.Eng.Im (U8 u8 u8s sumR splitR)
def part1R (b : List U8) : Option (List U8 × List U8) := match bodiesR b 80 [3] with
 | some [l] => if 4 ≤ l.length then some (l.take 4, l.drop 4) else none
 | _ => none
theorem one_of {rds : List (Nat × List U8)} {k1 : Int} {b : List U8} {s : U8} (h : bodiesR b s [k1] = some (rds.map (·.2))) : ∃ q1, rds = [q1] ∧ q1.2.length ≤ b.length := by
 obtain ⟨h1, h2⟩ := bodies_len h
 match rds, h1 with
 | [q1], _ => exact ⟨q1, rfl, h2 q1.2 (by simp)⟩
def part2R (p : Prog) (b l : List U8) : Option (List (Int × Int) × List Th) := match listR valR () l with
 | none => none
 | some (roots, _, l1) => match listR (thR p) () l1 with
  | none => none
  | some (more, _, l2) => if l2 = [] ∧ askedP p more roots = true ∧ b = partP p more roots then some (roots, more) else none
theorem part2_no1 {p : Prog} {b l : List U8} (h : listR valR () l = none) : part2R p b l = none := by rw [part2R, h]
theorem part2_no2 {p : Prog} {b l l1 : List U8} {roots : List (Int × Int)} (h : listR valR () l = some (roots, (), l1)) (h2 : listR (thR p) () l1 = none) : part2R p b l = none := by rw [part2R, h]; simp only [h2]
theorem part2_go {p : Prog} {b l l1 l2 : List U8} {roots : List (Int × Int)} {more : List Th} (h : listR valR () l = some (roots, (), l1)) (h2 : listR (thR p) () l1 = some (more, (), l2)) : part2R p b l = if l2 = [] ∧ askedP p more roots = true ∧ b = partP p more roots then some (roots, more) else none := by rw [part2R, h]; simp only [h2]
theorem load1 (b : List U8) (hl : b.length ≤ 1048576) (rv ov : Nat) (X Y : AV) (Hx : List Ent) : ACall Tryz.prog 85 [.ptr [u8s b], .p rv 0, .p ov 0] (.blk ov 30 [X] :: .blk rv 104 [Y] :: Hx) (fun _ H' => ∃ rb own l, part1R b = some (own, l) ∧ H' = rdr rb l :: .blk ov 30 [u8s own] :: .blk rv 104 [.p rb 0] :: Hx) (fun y H' => y = wrongA ∧ part1R b = none ∧ H' = Hx) := by
 refine ACall.mk' (n := 10) Tryz.func85 rfl (by kernel_rfl) rfl rfl (fun B I w0 => ?_)
 refine S2 ?_; refine Old ?_
 refine OL.popC rfl rfl rfl (POp.row rfl rfl (by first | rfl | simp_all [strip]) rfl rfl rfl rfl rfl rfl) ?_
 refine OL.bcall rfl rfl (.mk' rfl rfl rfl rfl rfl) (bodiesC b hl 80 [3] (by decide) _).b ?_ ?_
 ·
  rintro y _ ⟨rds, hb, rfl, rfl⟩
  obtain ⟨q1, rfl, hq1⟩ := one_of hb
  replace hb : bodiesR b 80 [3] = some [q1.2] := hb
  refine OL.popC rfl rfl rfl ((by first | exact POp.ixM rfl rfl rfl rfl rfl (by simp) | exact POp.ixI rfl rfl rfl rfl rfl (by simp))) ?_
  refine Old ?_; refine Sto ?_; refine S2 ?_
  refine CW.eqH (H' := rdr q1.1 q1.2 :: .blk ov 30 [X] :: .blk rv 104 [.p q1.1 0] :: Hx) rfl ?_
  refine S1 ?_; refine Old ?_
  by_cases h4 : 4 ≤ q1.2.length
  ·
   refine OL.rcallS rfl rfl rfl (.mk' rfl rfl rfl rfl rfl) (by have h := q86 q1.2 4 q1.1 (.blk ov 30 [X] :: .blk rv 104 [.p q1.1 0] :: Hx); rwa [if_pos h4] at h) ?_
   refine Sto ?_; refine S1 ?_
   refine Done.norR (rs := []) (H' := rdr q1.1 (q1.2.drop 4) :: .blk ov 30 [u8s (q1.2.take 4)] :: .blk rv 104 [.p q1.1 0] :: Hx) rfl (.nil) (AVleL.refl _) (by repeat (first | exact List.Sublist.refl _ | refine List.Sublist.cons _ ?_)) ?_
   exact ⟨q1.1, _, _, by rw [part1R, hb]; exact if_pos h4, rfl⟩
  ·
   refine OL.rcallN rfl rfl (.mk' rfl rfl rfl rfl rfl) (by have h := q86 q1.2 4 q1.1 (.blk ov 30 [X] :: .blk rv 104 [.p q1.1 0] :: Hx); rwa [if_neg h4] at h) wrong_c ?_
   exact outP (P := Tryz.prog) (fn := Tryz.f85) wrong_c (.cons _ (.cons _ (.refl _))) ⟨rfl, by rw [part1R, hb]; exact if_neg h4, rfl⟩
 ·
  rintro y _ ⟨hb, rfl, rfl⟩ a w st I v hv
  rw [wrong_c.is _ _ _ hv]
  exact outP (P := Tryz.prog) (fn := Tryz.f85) wrong_c (.cons _ (.cons _ (.refl _))) ⟨rfl, by rw [part1R, hb], rfl⟩ a w st
theorem load2 {p : Prog} (hp : p.Small) (b l : List U8) (rb ro mo : Nat) (X Y : AV) (Hx : List Ent) : ACall Tryz.prog 89 [.ptr [.p rb 0], .p ro 0, .ptr (progC p), .p mo 0, .ptr [u8s b]] (rdr rb l :: .blk mo 28 [X] :: .blk ro 29 [Y] :: Hx) (fun _ H' => ∃ roots more, part2R p b l = some (roots, more) ∧ H' = .blk mo 28 [AV.ths more] :: .blk ro 29 [AV.mvs roots] :: Hx) (fun y H' => y = wrongA ∧ part2R p b l = none ∧ H' = Hx) := by
 refine ACall.mk' (n := 33) Tryz.func89 rfl (by kernel_rfl) rfl rfl (fun B I w0 => ?_)
 refine S2 ?_; refine Old ?_; refine Old ?_; refine Omf ?_
 rcases h1 : listR valR () l with _ | ⟨roots, u1, l1⟩
 ·
  refine OL.rcallN rfl rfl (.mk' rfl rfl rfl rfl rfl) (by have h := listV (valOkR (σ := Unit) rb) () l (fun _ _ _ => trivial) (.blk mo 28 [X] :: .blk ro 29 [Y] :: Hx); rwa [h1] at h) wrong_c ?_
  exact outP (P := Tryz.prog) (fn := Tryz.f89) wrong_c (.cons _ (.cons _ (.refl _))) ⟨rfl, part2_no1 h1, rfl⟩
 ·
  obtain rfl : u1 = () := rfl
  refine OL.rcallS rfl rfl rfl (.mk' rfl rfl rfl rfl rfl) (by have h := listV (valOkR (σ := Unit) rb) () l (fun _ _ _ => trivial) (.blk mo 28 [X] :: .blk ro 29 [Y] :: Hx); rwa [h1] at h) ?_
  refine Sto ?_; refine S4 ?_; refine Old ?_; refine Ola ?_
  rcases h2 : listR (thR p) () l1 with _ | ⟨more, u2, l2⟩
  ·
   refine OL.rcallN rfl rfl (.mk' rfl rfl rfl rfl rfl) (by have h := objectsR hp () l1 rb (.blk mo 28 [X] :: .blk ro 29 [AV.mvs roots] :: Hx); rwa [h2] at h) wrong_c ?_
   exact outP (P := Tryz.prog) (fn := Tryz.f89) wrong_c (.cons _ (.cons _ (.refl _))) ⟨rfl, part2_no2 h1 h2, rfl⟩
  ·
   obtain rfl : u2 = () := rfl
   have hv := part2_go (b := b) h1 h2
   refine OL.rcallS rfl rfl rfl (.mk' rfl rfl rfl rfl rfl) (by have h := objectsR hp () l1 rb (.blk mo 28 [X] :: .blk ro 29 [AV.mvs roots] :: Hx); rwa [h2] at h) ?_
   refine Sto ?_; refine S4 ?_; refine Old ?_
   by_cases hl2 : l2 = []
   ·
    subst hl2
    refine OL.rcallS rfl rfl rfl (.mk' rfl rfl rfl rfl rfl) (by have h := doneC (l := []) rb (.blk mo 28 [AV.ths more] :: .blk ro 29 [AV.mvs roots] :: Hx); rwa [if_pos rfl] at h) ?_
    refine S2 ?_
    refine CW.dp mixed ?_
    refine DP.anyC 0 2 33 rfl (by decide +kernel) rfl rfl (by decide +kernel) ?_
    refine Ala ?_; refine Ald ?_
    refine AD.nil ?_
    refine DP.one (k := 2) (by decide +kernel) rfl ?_
    refine OL.popC rfl rfl rfl (POp.call (.mk' rfl rfl rfl rfl rfl) (meanCheck hp more)) ?_
    refine OL.nil (Done.dp ?_)
    refine DP.one (k := 3) (by decide +kernel) rfl ?_
    refine Ocm ?_
    refine OL.nil (Done.dp ?_)
    refine DP.one (k := 4) (by decide +kernel) rfl ?_
    refine Omv ?_
    refine OL.nil (Done.dp ?_)
    refine DP.anyC 5 8 33 rfl (by decide +kernel) rfl rfl (by decide +kernel) ?_
    refine AD.guardC rfl rfl rfl rfl rfl (fun hg => (by first | exact POp.ld1 rfl rfl rfl rfl | (apply POp.ld1H rfl rfl rfl; (case hm => repeat (first | exact .head _ | refine .tail _ ?_)); (case hy => rfl)))) ?_
    refine AD.guardC rfl rfl rfl rfl rfl (fun hg => (by first | exact POp.ld1 rfl rfl rfl rfl | (apply POp.ld1H rfl rfl rfl; (case hm => repeat (first | exact .head _ | refine .tail _ ?_)); (case hy => rfl)))) ?_
    refine AD.guardC rfl rfl rfl rfl rfl (fun hg => (by first | exact POp.lenM rfl rfl (gd hg) | exact POp.lenA rfl rfl (gd hg) | exact POp.lenV rfl rfl (gd hg) | exact POp.len' rfl rfl (gd hg))) ?_
    refine AD.nil ?_
    refine DP.one (k := 8) (by decide +kernel) rfl ?_
    refine OL.guardC rfl rfl rfl rfl rfl rfl (fun hg => POp.call (.mk' rfl rfl rfl rfl (by first | rfl | ((repeat (first | exact hg | rfl | refine Bool.and_eq_true_iff.2 ⟨?_, ?_⟩)); done) | simp_all [strip, constAV])) (rootedC roots more.length)) ?_
    refine OL.nil (Done.dp ?_)
    refine DP.one (k := 9) (by decide +kernel) rfl ?_
    refine Opk ?_
    refine OL.nil (Done.dp ?_)
    refine DP.one (k := 10) (by decide +kernel) rfl ?_
    refine Omv ?_
    refine OL.nil (Done.dp ?_)
    refine DP.anyC 11 16 33 rfl (by decide +kernel) rfl rfl (by decide +kernel) ?_
    refine AD.guardC rfl rfl rfl rfl rfl (fun hg => (by first | exact POp.ld1 rfl rfl rfl rfl | (apply POp.ld1H rfl rfl rfl; (case hm => repeat (first | exact .head _ | refine .tail _ ?_)); (case hy => rfl)))) ?_
    refine AD.guardC rfl rfl rfl rfl rfl (fun hg => (by first | exact POp.ldA rfl rfl rfl rfl | (apply POp.ldAH rfl rfl rfl; (case hm => repeat (first | exact .head _ | refine .tail _ ?_)); (case hy => rfl); (case hn => rfl)))) ?_
    refine AD.guardC rfl rfl rfl rfl rfl (fun hg => (by first | exact POp.ld1 rfl rfl rfl rfl | (apply POp.ld1H rfl rfl rfl; (case hm => repeat (first | exact .head _ | refine .tail _ ?_)); (case hy => rfl)))) ?_
    refine AD.guardC rfl rfl rfl rfl rfl (fun hg => (by first | exact POp.ld1 rfl rfl rfl rfl | (apply POp.ld1H rfl rfl rfl; (case hm => repeat (first | exact .head _ | refine .tail _ ?_)); (case hy => rfl)))) ?_
    refine AD.guardC rfl rfl rfl rfl rfl (fun hg => POp.call (.mk' rfl rfl rfl rfl (by first | rfl | ((repeat (first | exact hg | rfl | refine Bool.and_eq_true_iff.2 ⟨?_, ?_⟩)); done) | simp_all [strip, constAV])) (partedC (ask_ok (by rw [asked_eq] at hg; exact hg)))) ?_
    refine AD.nil ?_
    refine DP.tailC 16 (by decide +kernel) rfl ?_
    refine OL.guardC rfl rfl rfl rfl rfl rfl (fun hg => POp.call (.mk' rfl rfl rfl rfl (by first | rfl | ((repeat (first | exact hg | rfl | refine Bool.and_eq_true_iff.2 ⟨?_, ?_⟩)); done) | simp_all [strip, constAV])) (eqBytes _ _)) ?_
    refine Opk ?_
    by_cases hq : askedP p more roots = true ∧ b = partP p more roots
    ·
     refine OL.rcallS rfl rfl rfl (.mk' rfl rfl rfl rfl rfl) (q71t (by rw [asked_eq, hq.1, Bool.cond_true, beq_iff_eq]; exact hq.2) _) ?_
     refine S1 ?_
     refine Done.norR (rs := []) (H' := .blk mo 28 [AV.ths more] :: .blk ro 29 [AV.mvs roots] :: Hx) rfl (.nil) (AVleL.refl _) (by repeat (first | exact List.Sublist.refl _ | refine List.Sublist.cons _ ?_)) ?_
     exact ⟨roots, more, by rw [hv]; exact if_pos ⟨rfl, hq⟩, rfl⟩
    ·
     refine OL.rcallN rfl rfl (.mk' rfl rfl rfl rfl rfl) (q71f (by rw [asked_eq, Bool.cond_false_right, Bool.and_eq_false_iff, beq_eq_false_iff_ne]; rcases Classical.not_and_iff_not_or_not.1 hq with h | h; exact .inl (by simpa using h); exact .inr h) _) wrong_c ?_
     exact outP (P := Tryz.prog) (fn := Tryz.f89) wrong_c (.cons _ (.cons _ (.refl _))) ⟨rfl, by rw [hv]; exact if_neg (fun h => hq h.2), rfl⟩
   ·
    refine OL.rcallN rfl rfl (.mk' rfl rfl rfl rfl rfl) (by have h := doneC (l := l2) rb (.blk mo 28 [AV.ths more] :: .blk ro 29 [AV.mvs roots] :: Hx); rwa [if_neg hl2] at h) wrong_c ?_
    exact outP (P := Tryz.prog) (fn := Tryz.f89) wrong_c (.cons _ (.cons _ (.refl _))) ⟨rfl, by rw [hv]; exact if_neg (fun h => hl2 h.1), rfl⟩
theorem load3 (objs : List Th) (hl : objs.length ≤ 40) {n : Int} (hn : okZ n) : PCall Tryz.prog 93 [.i n, .ptr [AV.ths objs]] (.i (n + objs.length)) := by
 intro H
 refine ACall.mk' (n := 8) Tryz.func93 rfl (by kernel_rfl) rfl rfl (fun B I w0 => ?_)
 unfold okZ at hn
 refine S2 ?_; refine Oas ?_; refine S4 ?_; refine Omv ?_; refine Old ?_; refine Oln ?_; refine Oar ?_; refine Oas ?_; refine S3 ?_
 refine r1 3 (H) ?_
 exact ⟨by first | rfl | exact retI (by simp_all) | exact retB (by simp_all) | simp_all, rfl⟩
def shiftT (k : Int) (t : Th) : Th := ⟨t.cls, t.slots.map (move1 (· + k))⟩
inductive LoadE where
 | arg | text | rule | long
 | ok (objs : List Th) (roots : List (Int × Int))
def loadR (p : Prog) (objs : List Th) (b : List U8) : LoadE := if checkP p objs then (match part1R b with
 | none => .text
 | some (own, l) => if own = sumR 1 (progW p) then (match part2R p b l with
  | none => .text
  | some (roots, more) => if objs.length + more.length ≤ 40 then .ok (objs ++ more.map (shiftT objs.length)) (roots.map (move1 (· + (objs.length : Int)))) else .long) else .rule) else .arg
def loadA : LoadE → AV
 | .arg => .tup [AV.ths [], AV.mvs [], .i 2]
 | .text => .tup [AV.ths [], AV.mvs [], .i 4]
 | .rule => .tup [AV.ths [], AV.mvs [], .i 7]
 | .long => .tup [AV.ths [], AV.mvs [], .i 3]
 | .ok objs roots => .tup [AV.ths objs, AV.mvs roots, .i 0]
theorem behind_ok {objs : List Th} (hl : objs.length ≤ 40) : NumOk Tryz.prog [] (.fn (.func 93) [] [.ptr [AV.ths objs]]) (· + (objs.length : Int)) okZ := fun B H _ n hn => VCall.fn (load3 objs hl hn H)
theorem okZ_of {n : Nat} (hn : n ≤ 1000000) {v : Int × Int} (h : valueP n v = true) : okZ v.2 := by have := valueP_key hn h; unfold okZ; omega
theorem ths_snoc (o : List Th) (x : Th) : AV.ths (o ++ [x]) = .sl 2 ((o.map thA) ++ [thA x]) := by
 show AV.sl 2 (List.map _ (_ ++ _)) = _
 rw [List.map_append]; rfl
theorem part2_ok {p : Prog} {b l : List U8} {roots : List (Int × Int)} {more : List Th} (h : part2R p b l = some (roots, more)) : askedP p more roots = true := by
 unfold part2R at h
 split at h
 ·cases h
 ·split at h
  ·cases h
  ·split at h
   ·rename_i h1; cases h; exact h1.2.1
   ·cases h
theorem cloneV (l : List (Int × Int)) (hl : l.length ≤ 4000000) : PCall Tryz.prog 94 [AV.mvs l] (AV.mvs l) := by
 intro H
 refine ACall.mk' (n := 8) Tryz.func94 rfl (by kernel_rfl) rfl rfl (fun B I w0 => ?_)
 refine S2 ?_; refine Oas ?_; refine S5 ?_; refine Omv ?_
 refine OL.isNilC rfl rfl rfl rfl rfl rfl rfl (AVle.refl _) rfl rfl (fun n4 hn4 => ?_)
 refine S2 ?_
 refine CW.cond rfl (fun h0 => ?_) (fun h0 => ?_)
 ·
  replace h0 := nm h0
  refine S2 ?_; refine Oas ?_; refine S4 ?_
  refine Done.retR (rs := [.tmp 2]) (H' := H) rfl (.tmp rfl (.nil)) (.cons (AVle.nil 2) .nil) (by repeat (first | exact List.Sublist.refl _ | refine List.Sublist.cons _ ?_)) ?_
  exact ⟨by show AV.sl 2 [] = AV.sl 2 _; rw [hn4 h0], rfl⟩
 ·
  replace h0 := nm h0
  refine S4 ?_; refine Or0 ?_; refine Omv ?_
  refine OL.popC rfl rfl rfl (POp.appendI rfl rfl rfl (AVle.refl _) rfl rfl (AVle.refl _) (one_mvs l) (by simp; omega) (by simp; omega)) ?_
  refine Oas ?_; refine S3 ?_
  refine r1 2 (H) ?_
  exact ⟨by first | rfl | exact retI (by simp_all) | exact retB (by simp_all) | simp_all, rfl⟩
theorem load_text1 {p : Prog} {objs : List Th} {b : List U8} (hc : checkP p objs = true) (h : part1R b = none) : loadR p objs b = .text := by rw [loadR, if_pos hc, h]
theorem load_rule {p : Prog} {objs : List Th} {b own l : List U8} (hc : checkP p objs = true) (h : part1R b = some (own, l)) (h2 : ¬ own = sumR 1 (progW p)) : loadR p objs b = .rule := by rw [loadR, if_pos hc, h]; exact if_neg h2
theorem load_on {p : Prog} {objs : List Th} {b own l : List U8} (hc : checkP p objs = true) (h : part1R b = some (own, l)) (h2 : own = sumR 1 (progW p)) : loadR p objs b = match part2R p b l with
  | none => .text
  | some (roots, more) => if objs.length + more.length ≤ 40 then .ok (objs ++ more.map (shiftT objs.length)) (roots.map (move1 (· + (objs.length : Int)))) else .long := by rw [loadR, if_pos hc, h]; exact if_pos h2
theorem loadC {p : Prog} (hp : p.Small) (objs : List Th) (b : List U8) (hl : b.length ≤ 1048576) : PCall Tryz.prog 30 [AV.prog p, AV.ths objs, u8s b] (loadA (loadR p objs b)) := by
 intro H
 refine ACall.mk' (n := 85) Tryz.func30 rfl (by kernel_rfl) rfl rfl (fun B I w0 => ?_)
 refine S2 ?_; refine Obx ?_; refine Obx ?_; refine Obx ?_; refine Oas ?_; refine Oas ?_; refine Oas ?_; refine S5 ?_; refine Ola ?_; refine Old ?_
 refine OL.popC rfl rfl rfl (POp.call (.mk' rfl rfl rfl rfl rfl) (meanCheck hp objs)) ?_
 refine Ocm ?_; refine S2 ?_
 refine CW.cond rfl (fun h0 => ?_) (fun h0 => ?_)
 ·
  have hc : checkP p objs = false := by cases h : checkP p objs <;> simp_all
  refine S2 ?_; refine Oas ?_; refine Oas ?_; refine Oas ?_; refine S4 ?_
  refine Done.retR (rs := [.tmp 6, .tmp 7, .tmp 8]) (H' := H) rfl (.tmp rfl (.tmp rfl (.tmp rfl (.nil)))) (.cons (AVle.nil 2) (.cons (AVle.nil 2) (.cons (.refl _) .nil))) (by repeat (first | exact List.Sublist.refl _ | refine List.Sublist.cons _ ?_)) ?_
  exact ⟨by rw [loadR, if_neg (by rw [hc]; simp)]; rfl, rfl⟩
 ·
  have hc : checkP p objs = true := by cases h : checkP p objs <;> simp_all
  obtain ⟨hok, hol, hos⟩ := ok_of hc
  refine S4 ?_
  refine OL.alC rfl rfl rfl rfl (fun rv => ?_)
  refine S4 ?_
  refine OL.alC rfl rfl rfl rfl (fun ov => ?_)
  refine S4 ?_; refine Omf ?_
  refine OL.bcallC rfl rfl rfl (.mk' rfl rfl rfl rfl rfl) (tryC (H := .blk ov 30 [nilA] :: .blk rv 104 [.val (.pointer none)] :: H) (A := fun H1 => ∃ rb own l, part1R b = some (own, l) ∧ H1 = rdr rb l :: .blk ov 30 [u8s own] :: .blk rv 104 [.p rb 0] :: H) (Bp := fun Hf => part1R b = none ∧ Hf = H) (fun B Hy => VCall.fn (ACall.weak (load1 b hl rv ov nilA (.val (.pointer none)) (H ++ Hy)) (fun y H' => ?_) (fun y H' => ?_)))).b ?_
  ·rintro ⟨rb, own, l, h1, rfl⟩
   exact ⟨_, rfl, rb, own, l, h1, rfl⟩
  ·rintro ⟨rfl, h1, rfl⟩
   exact ⟨rfl, _, rfl, h1, rfl⟩
  rintro y H1 (⟨rfl, rb, own, l, hr, rfl⟩ | ⟨rfl, hr, hH⟩)
  ·
   refine Oas ?_; refine S6 ?_; refine Omv ?_; refine Ont ?_; refine Oas ?_; refine S2 ?_
   refine CW.cond rfl (fun h1 => ?_) (fun h1 => ?_)
   ·
    cases h1
   ·
    refine S1 ?_
    refine CW.dp mixed ?_
    refine DP.anyC 0 3 85 rfl (by decide +kernel) rfl rfl (by decide +kernel) ?_
    refine Ald ?_; refine Ala ?_
    refine AD.popC rfl rfl rfl (POp.call (.mk' rfl rfl rfl rfl rfl) (keyC hok)) ?_
    refine AD.nil ?_
    refine DP.tailC 3 (by decide +kernel) rfl ?_
    refine OL.popC rfl rfl rfl (POp.call (.mk' rfl rfl rfl rfl rfl) (eqBytes _ _)) ?_
    refine Ont ?_; refine Oas ?_; refine S2 ?_
    refine CW.cond rfl (fun h2 => ?_) (fun h2 => ?_)
    ·
     have hne : ¬ own = sumR 1 (progW p) := by simpa using h2
     refine S2 ?_; refine Oas ?_; refine Oas ?_; refine Oas ?_; refine S5 ?_
     refine Done.retR (rs := [.tmp 6, .tmp 7, .tmp 8]) (H' := H) rfl (.tmp rfl (.tmp rfl (.tmp rfl (.nil)))) (.cons (AVle.nil 2) (.cons (AVle.nil 2) (.cons (.refl _) .nil))) (by repeat (first | exact List.Sublist.refl _ | refine List.Sublist.cons _ ?_)) ?_
     exact ⟨by rw [load_rule hc hr hne]; rfl, rfl⟩
    ·
     have heq : own = sumR 1 (progW p) := by simpa using h2
     have hv := load_on hc hr heq
     refine S5 ?_
     refine OL.alC rfl rfl rfl rfl (fun ro => ?_)
     refine S4 ?_
     refine OL.alC rfl rfl rfl rfl (fun mo => ?_)
     refine S3 ?_
     refine CW.freezeP (d := 9) rfl (by repeat (first | exact Del.head _ _ | apply Del.tail)) ?_
     refine CW.perm (List.perm_append_comm_assoc [_, _] [_] _) ?_
     refine S1 ?_; refine Omf ?_
     refine OL.bcallC rfl rfl rfl (.mk' rfl rfl rfl rfl rfl) (tryC (H := rdr rb l :: .blk mo 28 [nilA] :: .blk ro 29 [nilA] :: .blk ov 30 [u8s own] :: H) (A := fun H1 => ∃ roots more, part2R p b l = some (roots, more) ∧ H1 = .blk mo 28 [AV.ths more] :: .blk ro 29 [AV.mvs roots] :: .blk ov 30 [u8s own] :: H) (Bp := fun Hf => part2R p b l = none ∧ Hf = .blk ov 30 [u8s own] :: H) (fun B Hy => VCall.fn (ACall.weak (load2 hp b l rb ro mo nilA nilA (.blk ov 30 [u8s own] :: H ++ Hy)) (fun y H' => ?_) (fun y H' => ?_)))).b ?_
     ·rintro ⟨roots, more, h1, rfl⟩
      exact ⟨_, rfl, roots, more, h1, rfl⟩
     ·rintro ⟨rfl, h1, rfl⟩
      exact ⟨rfl, _, rfl, h1, rfl⟩
     rintro y H1 (⟨rfl, roots, more, h2, rfl⟩ | ⟨rfl, h2, rfl⟩)
     ·
      rw [h2] at hv
      dsimp only at hv
      have hak := part2_ok h2
      obtain ⟨hml, hrl, hrv, hmv⟩ := asked_parts hak
      have hmo := (ask_ok hak).po.os
      refine Oas ?_; refine S6 ?_; refine Omv ?_; refine Ont ?_; refine Oas ?_; refine S2 ?_
      refine CW.cond rfl (fun h3 => ?_) (fun h3 => ?_)
      ·
       cases h3
      ·
       refine S2 ?_; refine Old ?_; refine Oln ?_; refine Old ?_; refine Oln ?_; refine Oar ?_; refine Ocm ?_; refine Oas ?_; refine S2 ?_
       refine CW.cond rfl (fun h4 => ?_) (fun h4 => ?_)
       ·
        have h40 : ¬ objs.length + more.length ≤ 40 := by simp at h4; omega
        refine S2 ?_; refine Oas ?_; refine Oas ?_; refine Oas ?_; refine S5 ?_
        refine Done.retR (rs := [.tmp 6, .tmp 7, .tmp 8]) (H' := H) rfl (.tmp rfl (.tmp rfl (.tmp rfl (.nil)))) (.cons (AVle.nil 2) (.cons (AVle.nil 2) (.cons (.refl _) .nil))) (by repeat (first | exact List.Sublist.refl _ | refine List.Sublist.cons _ ?_)) ?_
        exact ⟨by rw [hv, if_neg h40]; rfl, rfl⟩
       ·
        have h40 : objs.length + more.length ≤ 40 := by simp at h4; omega
        rw [if_pos h40] at hv
        refine S5 ?_; refine Omf ?_; refine Oas ?_; refine S4 ?_; refine Oas ?_; refine S5 ?_; refine Old ?_; refine Oln ?_; refine Omv ?_; refine S3 ?_
        refine CW.ownNil 15 65 2 rfl ?_
        refine lj (fun m st => ∃ (i : Nat) (v : Value), st = ⟨[(50, .i i), (49, .i objs.length), (48, AV.ths objs), (15, .as (AV.ths (objs.take i)) v), (14, .fn (.func 93) [] [.ptr [AV.ths objs]]), (13, .p mo 0), (12, .p ro 0)], .own 65 2 v :: .blk mo 28 [AV.ths more] :: .blk ro 29 [AV.mvs roots] :: .blk ov 30 [u8s own] :: H⟩ ∧ m = objs.length - i ∧ i ≤ objs.length) (⟨0, _, rfl, rfl, by omega⟩) ?_
        rintro m _ ⟨i, v, rfl, rfl, hi⟩
        refine S2 ?_; refine Ocm ?_; refine S3 ?_
        refine CW.cond rfl (fun h5 => ?_) (fun h5 => ?_)
        ·
         replace h5 := nm h5
         have hil : i < objs.length := by omega
         obtain ⟨X, hX⟩ : ∃ X, X = objs.getD i default := ⟨_, rfl⟩
         have hXv := (hos X (hX ▸ getD_memB hil)).vl
         refine S6 ?_
         refine OL.popC rfl rfl rfl ((by first | exact POp.ixM rfl rfl rfl rfl rfl hil | exact POp.ixI rfl rfl rfl rfl rfl hil)) ?_
         refine Ola ?_
         refine OL.alC rfl rfl rfl rfl (fun b4 => ?_)
         refine Sto ?_; refine S2 ?_
         rw [← hX]
         refine CW.freezeP (d := 17) rfl (by repeat (first | exact Del.head _ _ | apply Del.tail)) ?_
         refine CW.dp mixed ?_
         refine DP.anyC 0 8 85 rfl (by decide +kernel) rfl rfl (by decide +kernel) ?_
         refine Amv ?_; refine Afa ?_; refine Ald ?_; refine Afa ?_; refine Ald ?_
         refine AD.popC rfl rfl rfl (POp.call (.mk' rfl rfl rfl rfl rfl) (cloneV X.slots (by omega))) ?_
         refine Abd ?_
         refine AD.popC rfl rfl rfl (POp.le (x := .sl 2 [thA X]) (POp.row rfl rfl (by first | rfl | simp_all [strip]) rfl rfl rfl rfl rfl rfl) (AVle.refl _)) ?_
         refine AD.nil ?_
         refine DP.tailC 8 (by decide +kernel) rfl ?_
         refine OL.appendC rfl rfl rfl rfl rfl rfl rfl rfl (AVle.refl _) (rfl) (fun v => by repeat (first | exact Upd.head _ _ _ | apply Upd.tail)) (by simp only [List.length_map, List.length_append, List.length_take, List.length_singleton]; omega) (by simp only [List.length_map, List.length_append, List.length_take, List.length_singleton]; omega) (fun v62 => ?_)
         refine Oas ?_; refine S4 ?_; refine Oar ?_; refine Omv ?_; refine S1 ?_
         exact ag (⟨i + 1, v62, by rw [← take_getD hil, ths_snoc, ← hX], rfl, hil⟩)
        ·
         replace h5 := nm h5
         obtain rfl : i = objs.length := by omega
         rw [List.take_length]
         refine S8 ?_; refine Old ?_; refine Oln ?_; refine Omv ?_; refine S3 ?_
         refine lj (fun m st => ∃ (i : Nat) (v : Value), st = ⟨[(66, .i i), (65, .i more.length), (64, AV.ths more), (15, .as (AV.ths (objs ++ (more.take i).map (shiftT objs.length))) v), (14, .fn (.func 93) [] [.ptr [AV.ths objs]]), (12, .p ro 0)], .own 65 2 v :: .blk mo 28 [AV.ths more] :: .blk ro 29 [AV.mvs roots] :: .blk ov 30 [u8s own] :: H⟩ ∧ m = more.length - i ∧ i ≤ more.length) (⟨0, v, by rw [List.take_zero, List.map_nil, List.append_nil], rfl, by omega⟩) ?_
         rintro m _ ⟨i, v, rfl, rfl, hi⟩
         refine S2 ?_; refine Ocm ?_; refine S3 ?_
         refine CW.cond rfl (fun h6 => ?_) (fun h6 => ?_)
         ·
          replace h6 := nm h6
          have hil : i < more.length := by omega
          obtain ⟨X, hX⟩ : ∃ X, X = more.getD i default := ⟨_, rfl⟩
          have hXm : X ∈ more := hX ▸ getD_memB hil
          have hXv := (hmo X hXm).vl
          refine S6 ?_
          refine OL.popC rfl rfl rfl ((by first | exact POp.ixM rfl rfl rfl rfl rfl hil | exact POp.ixI rfl rfl rfl rfl rfl hil)) ?_
          refine Ola ?_
          refine OL.alC rfl rfl rfl rfl (fun b5 => ?_)
          refine Sto ?_; refine S2 ?_
          rw [← hX]
          refine CW.freezeP (d := 19) rfl (by repeat (first | exact Del.head _ _ | apply Del.tail)) ?_
          refine CW.dp mixed ?_
          refine DP.anyC 0 9 85 rfl (by decide +kernel) rfl rfl (by decide +kernel) ?_
          refine Amv ?_; refine Afa ?_; refine Ald ?_; refine Afa ?_; refine Ald ?_; refine Amv ?_
          refine AD.popC rfl rfl rfl (POp.call (.mk' rfl rfl rfl rfl rfl) ((movedC (Hm := []) (l := X.slots) (behind_ok hol) (fun v hv _ => okZ_of (by omega) (List.all_eq_true.1 (hmv X hXm) v hv)) (by omega)).pure)) ?_
          refine Abd ?_
          refine AD.popC rfl rfl rfl (POp.le (x := .sl 2 [thA (shiftT objs.length X)]) (POp.row rfl rfl (by first | rfl | simp_all [strip]) rfl rfl rfl rfl rfl rfl) (AVle.refl _)) ?_
          refine AD.nil ?_
          refine DP.tailC 9 (by decide +kernel) rfl ?_
          refine OL.appendC rfl rfl rfl rfl rfl rfl rfl rfl (AVle.refl _) (rfl) (fun v => by repeat (first | exact Upd.head _ _ _ | apply Upd.tail)) (by simp only [List.length_map, List.length_append, List.length_take, List.length_singleton]; omega) (by simp only [List.length_map, List.length_append, List.length_take, List.length_singleton]; omega) (fun v79 => ?_)
          refine Oas ?_; refine S4 ?_; refine Oar ?_; refine Omv ?_; refine S1 ?_
          exact ag (⟨i + 1, v79, by rw [map_take1 _ hil, ← List.append_assoc, ths_snoc, ← hX], rfl, hil⟩)
         ·
          replace h6 := nm h6
          obtain rfl : i = more.length := by omega
          rw [List.take_length]
          refine S7 ?_; refine Omv ?_; refine Old ?_; refine Omv ?_
          refine OL.popC rfl rfl rfl (POp.call (.mk' rfl rfl rfl rfl rfl) ((movedC (Hm := []) (l := roots) (behind_ok hol) (fun v hv _ => okZ_of (by omega) (List.all_eq_true.1 (hrv) v hv)) (by omega)).pure)) ?_
          refine Oas ?_; refine Oas ?_; refine Oas ?_; refine S3 ?_
          refine Done.retR (rs := [.tmp 6, .tmp 7, .tmp 8]) (H' := H) rfl (.tmp rfl (.tmp rfl (.tmp rfl (.nil)))) (.cons (AVle.asL _ _) (.cons (.refl _) (.cons (.refl _) .nil))) (by repeat (first | exact List.Sublist.refl _ | refine List.Sublist.cons _ ?_)) ?_
          exact ⟨by rw [hv]; rfl, rfl⟩
     ·
      refine Oas ?_; refine S6 ?_; refine Omv ?_; refine Ont ?_; refine Oas ?_; refine S2 ?_
      refine CW.cond rfl (fun h7 => ?_) (fun h7 => ?_)
      ·
       refine S2 ?_; refine Oas ?_; refine Oas ?_; refine Oas ?_; refine S5 ?_
       refine Done.retR (rs := [.tmp 6, .tmp 7, .tmp 8]) (H' := H) rfl (.tmp rfl (.tmp rfl (.tmp rfl (.nil)))) (.cons (AVle.nil 2) (.cons (AVle.nil 2) (.cons (.refl _) .nil))) (by repeat (first | exact List.Sublist.refl _ | refine List.Sublist.cons _ ?_)) ?_
       exact ⟨by rw [hv, h2]; rfl, rfl⟩
      ·
       cases h7
  ·
   obtain rfl := hH.symm
   refine Oas ?_; refine S6 ?_; refine Omv ?_; refine Ont ?_; refine Oas ?_; refine S2 ?_
   refine CW.cond rfl (fun h8 => ?_) (fun h8 => ?_)
   ·
    refine S2 ?_; refine Oas ?_; refine Oas ?_; refine Oas ?_; refine S5 ?_
    refine Done.retR (rs := [.tmp 6, .tmp 7, .tmp 8]) (H' := H) rfl (.tmp rfl (.tmp rfl (.tmp rfl (.nil)))) (.cons (AVle.nil 2) (.cons (AVle.nil 2) (.cons (.refl _) .nil))) (by repeat (first | exact List.Sublist.refl _ | refine List.Sublist.cons _ ?_)) ?_
    exact ⟨by rw [load_text1 hc hr]; rfl, rfl⟩
   ·
    cases h8
def P0 : Prog := ⟨[⟨[], [0], [(0, 5)]⟩], 1, [], [], [⟨2, 0, []⟩], 0⟩
def O0 : List Th := [⟨3, [(2, 0)]⟩, ⟨3, [(3, 0)]⟩]
def B0 : List U8 := [67, 79, 1, 11, 1, 0, 1, 1, 0, 10, 0, 0, 1, 2, 0, 0, 119, 0, 18, 2, 6, 2, 3, 2, 3, 3, 0, 0, 71, 0, 16]
def B9 : List U8 := [67, 79, 1, 11, 1, 0, 1, 1, 0, 9, 0, 0, 1, 2, 0, 0, 119, 0, 18, 2, 6, 2, 3, 2, 3, 3, 0, 0, 71, 0, 16]
def T0 : List U8 := [67, 80, 3, 13, 0, 119, 0, 18, 1, 3, 0, 2, 3, 3, 1, 3, 2]
theorem k1 : checkP P0 O0 = true := by kernel_rfl
theorem k2 : imageP P0 O0 = B0 := by kernel_rfl
def K0 : List U8 := [67, 80, 3, 13, 0, 119, 0, 18, 1, 3, 0, 2, 3, 3, 1, 3, 2, 6, 211, 0, 159]
def O4 : List Th := [⟨3, [(2, 0)]⟩, ⟨3, [(3, 0)]⟩, ⟨3, [(3, 3)]⟩, ⟨3, [(2, 0)]⟩]
theorem k3 : partP P0 O0 [(3, 1)] = K0 := by kernel_rfl
theorem k5 : askedP P0 O0 [(3, 1)] = true := by kernel_rfl
theorem k6 : reachP O0 [(3, 1)] = [1, 0] := by kernel_rfl
theorem k7 : readR B9 = none := by kernel_rfl
theorem k8 : loadR P0 O0 K0 = .ok O4 [(3, 2)] := by kernel_rfl
theorem k9 : askedP P0 O0 [(3, 0)] = true := by kernel_rfl
theorem k10 : alikeP P0 O0 [(3, 0)] O0 [(3, 1)] = false := by kernel_rfl
theorem k11 : sectA B0 = .tup [AV.ints [1, 2], AV.ints [], .i 0] := by kernel_rfl
theorem k12 : sectA B9 = .tup [AV.ints [1, 2], AV.ints [0], .i 0] := by kernel_rfl
theorem small0 : P0.Small := ⟨by decide, fun c hc => by
 have : c = ⟨[], [0], [(0, 5)]⟩ := by simpa [P0] using hc
 subst this; decide⟩
theorem noneV : PCall Tryz.prog 57 [] (AV.mv (2, 0)) := by
 intro H
 refine ACall.mk' (n := 2) Tryz.func57 rfl (by kernel_rfl) rfl rfl (fun B I w0 => ?_)
 refine S2 ?_
 refine OL.alC rfl rfl rfl rfl (fun b0 => ?_)
 refine S4 ?_; refine Obd ?_; refine Sto ?_; refine S3 ?_
 refine Done.retR (rs := [.cell 0 60]) (H' := H) rfl ((by first | exact .cellA inferInstance rfl (by repeat (first | exact .head _ | refine .tail _ ?_)) rfl rfl (.nil) | exact .ptrA inferInstance rfl rfl (.nil))) (AVleL.refl _) (by repeat (first | exact List.Sublist.refl _ | refine List.Sublist.cons _ ?_)) ?_
 exact ⟨by rfl, rfl⟩
theorem progK : PCall Tryz.prog 46 [] (AV.prog P0) := by
 intro H
 refine ACall.mk' (n := 9) Tryz.func46 rfl (by kernel_rfl) rfl rfl (fun B I w0 => ?_)
 refine S2 ?_
 refine OL.alC rfl rfl rfl rfl (fun b0 => ?_)
 refine S4 ?_
 refine OL.popC rfl rfl rfl (POp.row rfl rfl (by first | rfl | simp_all [strip]) rfl rfl rfl rfl rfl rfl) ?_
 refine Obd ?_
 refine OL.popC rfl rfl rfl (POp.row rfl rfl (by first | rfl | simp_all [strip]) rfl rfl rfl rfl rfl rfl) ?_
 refine Obd ?_
 refine OL.le 4 (y := AV.cls ⟨[], [0], [(0, 5)]⟩) rfl (AVle.agg (.cons (AVle.nil 1) (.cons (.refl _) (.cons (.refl _) .nil)))) ?_
 refine OL.popC rfl rfl rfl (POp.row rfl rfl (by first | rfl | simp_all [strip]) rfl rfl rfl rfl rfl rfl) ?_
 refine Obd ?_
 refine OL.le 6 (y := AV.nd ⟨2, 0, []⟩) rfl (AVle.agg (.cons (.refl _) (.cons (.refl _) (.cons (AVle.nil 1) .nil)))) ?_
 refine OL.popC rfl rfl rfl (POp.row rfl rfl (by first | rfl | simp_all [strip]) rfl rfl rfl rfl rfl rfl) ?_
 refine Obd ?_
 refine OL.le 8 (y := AV.prog P0) rfl (AVle.agg (.cons (.refl _) (.cons (.refl _) (.cons (AVle.nil 1) (.cons (AVle.nil 9) (.cons (.refl _) (.cons (.refl _) .nil))))))) ?_
 refine Sto ?_; refine S3 ?_
 refine Done.retR (rs := [.cell 0 27]) (H' := H) rfl ((by first | exact .cellA inferInstance rfl (by repeat (first | exact .head _ | refine .tail _ ?_)) rfl rfl (.nil) | exact .ptrA inferInstance rfl rfl (.nil))) (AVleL.refl _) (by repeat (first | exact List.Sublist.refl _ | refine List.Sublist.cons _ ?_)) ?_
 exact ⟨by rfl, rfl⟩
theorem objsK : PCall Tryz.prog 47 [] (AV.ths O0) := by
 intro H
 refine ACall.mk' (n := 8) Tryz.func47 rfl (by kernel_rfl) rfl rfl (fun B I w0 => ?_)
 refine S2 ?_; refine Oas ?_; refine S4 ?_
 refine OL.popC rfl rfl rfl (POp.call (.mk' rfl rfl rfl rfl rfl) ((noneV ))) ?_
 refine OL.popC rfl rfl rfl (POp.row rfl rfl (by first | rfl | simp_all [strip]) rfl rfl rfl rfl rfl rfl) ?_
 refine Obd ?_
 refine OL.popC rfl rfl rfl (POp.call (.mk' rfl rfl rfl rfl rfl) ((objI _))) ?_
 refine OL.popC rfl rfl rfl (POp.row rfl rfl (by first | rfl | simp_all [strip]) rfl rfl rfl rfl rfl rfl) ?_
 refine Obd ?_
 refine OL.popC rfl rfl rfl (POp.row rfl rfl (by first | rfl | simp_all [strip]) rfl rfl rfl rfl rfl rfl) ?_
 refine Oas ?_; refine S3 ?_
 refine r1 0 (H) ?_
 exact ⟨by rfl, rfl⟩
theorem bytesK : PCall Tryz.prog 48 [] (u8s B0) := by
 intro H
 refine ACall.mk' (n := 2) Tryz.func48 rfl (by kernel_rfl) rfl rfl (fun B I w0 => ?_)
 refine S2 ?_; refine Oas ?_; refine S4 ?_
 refine OL.popC rfl rfl rfl (POp.row rfl rfl (by first | rfl | simp_all [strip]) rfl rfl rfl rfl rfl rfl) ?_
 refine Oas ?_; refine S3 ?_
 refine r1 0 (H) ?_
 exact ⟨by rfl, rfl⟩
theorem bytesB (H : List Ent) : ACall Tryz.prog 48 [] H (fun y H' => ∃ b, y = .val (.slice (some ⟨b, 0, none⟩) 31 31) ∧ H' = .blk b 5 (B0.map fun x => u8 x) :: H) (fun _ _ => False) := by
 refine ACall.mk' (n := 2) Tryz.func48 rfl (by kernel_rfl) rfl rfl (fun B I w0 => ?_)
 refine S2 ?_; refine Oas ?_; refine S4 ?_
 refine OL.rowBlk (B0.map fun x => [u8 x]) rfl rfl rfl rfl rfl rfl rfl rfl rfl (fun b => ?_)
 refine Oas ?_; refine S3 ?_
 refine r1 0 (.blk b 5 (B0.map fun x => u8 x) :: H) ?_
 exact ⟨b, rfl, rfl⟩
theorem sameB (l r : List U8) : PCall Tryz.prog 17 [u8s l, u8s r] (.b (l == r)) := by
 intro H
 refine ACall.mk' (n := 10) Tryz.func17 rfl (by kernel_rfl) rfl rfl (fun B I w0 => ?_)
 refine S2 ?_; refine Oas ?_; refine S4 ?_; refine Omv ?_
 refine OL.popC rfl rfl rfl (POp.bytesStr (ns := l.map fun x => (x.val : Int)) rfl (by rw [List.map_map]; rfl) rfl (by kernel_rfl)) ?_
 refine Omv ?_
 refine OL.popC rfl rfl rfl (POp.bytesStr (ns := r.map fun x => (x.val : Int)) rfl (by rw [List.map_map]; rfl) rfl (by kernel_rfl)) ?_
 refine OL.popC rfl rfl rfl (POp.eqS rfl rfl rfl rfl rfl) ?_
 refine Oas ?_; refine S3 ?_
 refine r1 4 (H) ?_
 exact ⟨retB (strOf_eq l r), rfl⟩
theorem same_take {α : Type} [Inhabited α] {a b : List α} (hl : a.length = b.length) {i : Nat} (hi : i < a.length) (h : a.take i = b.take i) (hx : a.getD i default = b.getD i default) : a.take (i + 1) = b.take (i + 1) := by
 rw [← take_getD hi, ← take_getD (by omega), h, hx]
theorem same_no {α : Type} [BEq α] [LawfulBEq α] [Inhabited α] {a b : List α} {i : Nat} (hx : a.getD i default ≠ b.getD i default) : (a == b) = false := by
 rw [beq_eq_false_iff_ne]; rintro rfl; exact hx rfl
theorem same_len {α : Type} [BEq α] [LawfulBEq α] {a b : List α} (h : a.length ≠ b.length) : (a == b) = false := by
 rw [beq_eq_false_iff_ne]; rintro rfl; exact h rfl
theorem ne2 (x y : Int × Int) : ([x.1, x.2] != [y.1, y.2]) = (x != y) := by rw [bne, bne, eq2]
theorem sameI (a b : List Int) : PCall Tryz.prog 25 [AV.ints a, AV.ints b] (.b (a == b)) := by
 intro H
 refine ACall.mk' (n := 26) Tryz.func25 rfl (by kernel_rfl) rfl rfl (fun B I w0 => ?_)
 refine CW.boundM (t := 0) rfl (fun hb0 => ?_)
 refine S2 ?_; refine Oas ?_; refine S5 ?_; refine Omv ?_; refine Oln ?_; refine Omv ?_; refine Oln ?_; refine Ocm ?_; refine S2 ?_
 refine CW.cond rfl (fun h0 => ?_) (fun h0 => ?_)
 ·
  replace h0 := nm h0
  have hne : a.length ≠ b.length := by omega
  refine S2 ?_; refine Oas ?_; refine S4 ?_
  refine r1 4 (H) ?_
  exact ⟨retB (same_len hne).symm, rfl⟩
 ·
  replace h0 := nm h0
  have hl : a.length = b.length := by omega
  refine S5 ?_; refine Omv ?_; refine Oln ?_; refine Omv ?_; refine S3 ?_
  refine lj (fun m st => ∃ i : Nat, st = ⟨[(13, .i i), (12, .i a.length), (0, AV.ints a), (1, AV.ints b)], H⟩ ∧ m = a.length - i ∧ i ≤ a.length ∧ a.take i = b.take i) (⟨0, rfl, rfl, by omega, by simp⟩) ?_
  rintro m _ ⟨i, rfl, rfl, hi, ht⟩
  refine S2 ?_; refine Ocm ?_; refine S3 ?_
  refine CW.cond rfl (fun h1 => ?_) (fun h1 => ?_)
  ·
   replace h1 := nm h1
   have hil : i < a.length := by omega
   refine S6 ?_; refine Omv ?_; refine Oas ?_; refine S3 ?_
   refine CW.dp mixed ?_
   refine DP.anyC 0 8 26 rfl (by decide +kernel) rfl rfl (by decide +kernel) ?_
   refine Amv ?_; refine Amv ?_
   refine AD.popC rfl rfl rfl ((by first | exact POp.ixM rfl rfl rfl rfl rfl hil | exact POp.ixI rfl rfl rfl rfl rfl hil)) ?_
   refine Ald ?_; refine Amv ?_; refine Amv ?_; refine Aix ?_; refine Ald ?_
   refine AD.nil ?_
   refine DP.tailC 8 (by decide +kernel) rfl ?_
   refine Ocm ?_; refine S2 ?_
   refine CW.cond rfl (fun h2 => ?_) (fun h2 => ?_)
   ·
    replace h2 := nm h2
    have hx : a.getD i default ≠ b.getD i default := h2
    refine S2 ?_; refine Oas ?_; refine S8 ?_
    refine r1 4 (H) ?_
    exact ⟨retB (same_no hx).symm, rfl⟩
   ·
    replace h2 := nm h2
    have hx : a.getD i default = b.getD i default := h2
    refine S4 ?_; refine Oar ?_; refine Omv ?_; refine S1 ?_
    exact ag (⟨i + 1, rfl, rfl, hil, same_take hl hil ht hx⟩)
  ·
   replace h1 := nm h1
   refine S7 ?_; refine Oas ?_; refine S3 ?_
   refine r1 4 (H) ?_
   exact ⟨retB (by symm; rw [beq_iff_eq]; have e : i = a.length := (by omega); subst e; rw [List.take_length] at ht; rw [ht, hl, List.take_length]), rfl⟩
theorem sameV (a b : List (Int × Int)) : PCall Tryz.prog 32 [AV.mvs a, AV.mvs b] (.b (a == b)) := by
 intro H
 refine ACall.mk' (n := 26) Tryz.func32 rfl (by kernel_rfl) rfl rfl (fun B I w0 => ?_)
 refine CW.boundM (t := 0) rfl (fun hb0 => ?_)
 refine S2 ?_; refine Oas ?_; refine S5 ?_; refine Omv ?_; refine Oln ?_; refine Omv ?_; refine Oln ?_; refine Ocm ?_; refine S2 ?_
 refine CW.cond rfl (fun h0 => ?_) (fun h0 => ?_)
 ·
  replace h0 := nm h0
  have hne : a.length ≠ b.length := by omega
  refine S2 ?_; refine Oas ?_; refine S4 ?_
  refine r1 4 (H) ?_
  exact ⟨retB (same_len hne).symm, rfl⟩
 ·
  replace h0 := nm h0
  have hl : a.length = b.length := by omega
  refine S5 ?_; refine Oas ?_; refine S3 ?_
  refine lj (fun m st => ∃ i : Nat, st = ⟨[(5, .i i), (0, AV.mvs a), (1, AV.mvs b)], H⟩ ∧ m = a.length - i ∧ i ≤ a.length ∧ a.take i = b.take i) (⟨0, rfl, rfl, by omega, by simp⟩) ?_
  rintro m _ ⟨i, rfl, rfl, hi, ht⟩
  refine S3 ?_; refine Omv ?_; refine Omv ?_; refine Oln ?_; refine Ocm ?_; refine S2 ?_
  refine CW.cond rfl (fun h1 => ?_) (fun h1 => ?_)
  ·
   replace h1 := nm h1
   have hil : i < a.length := by omega
   refine S5 ?_
   refine CW.dp mixed ?_
   refine DP.anyC 0 8 26 rfl (by decide +kernel) rfl rfl (by decide +kernel) ?_
   refine Amv ?_; refine Amv ?_
   refine AD.popC rfl rfl rfl ((by first | exact POp.ixM rfl rfl rfl rfl rfl hil | exact POp.ixI rfl rfl rfl rfl rfl hil)) ?_
   refine Ala ?_; refine Amv ?_; refine Amv ?_; refine Aix ?_; refine Ala ?_
   refine AD.nil ?_
   refine DP.tailC 8 (by decide +kernel) rfl ?_
   refine OL.popC rfl rfl rfl (POp.neI [(a.getD i default).1, (a.getD i default).2] [(b.getD i default).1, (b.getD i default).2] rfl rfl rfl rfl rfl rfl rfl) ?_
   refine S2 ?_
   refine CW.cond rfl (fun h2 => ?_) (fun h2 => ?_)
   ·
    rw [ne2] at h2
    have hx : a.getD i default ≠ b.getD i default := by simpa using h2
    refine S2 ?_; refine Oas ?_; refine S8 ?_
    refine r1 4 (H) ?_
    exact ⟨retB (same_no hx).symm, rfl⟩
   ·
    rw [ne2] at h2
    have hx : a.getD i default = b.getD i default := by simpa using h2
    refine S4 ?_; refine Omv ?_; refine Oar ?_; refine Oas ?_; refine S1 ?_
    exact ag (⟨i + 1, rfl, rfl, hil, same_take hl hil ht hx⟩)
  ·
   replace h1 := nm h1
   refine S7 ?_; refine Oas ?_; refine S3 ?_
   refine r1 4 (H) ?_
   exact ⟨retB (by symm; rw [beq_iff_eq]; have e : i = a.length := (by omega); subst e; rw [List.take_length] at ht; rw [ht, hl, List.take_length]), rfl⟩
theorem okG0 : okG P0 O0 := by obtain ⟨h1, h2, h3⟩ := ok_of k1; exact ⟨h1, h2, h3⟩
theorem imageK : PCall Tryz.prog 15 [AV.prog P0, AV.ths O0] (.tup [u8s B0, .i 0]) := by
 have h := imageC small0 O0 (fun _ => okG0)
 rwa [imageQ, k1, if_pos rfl, if_pos rfl, k2] at h
theorem sectK : PCall Tryz.prog 23 [u8s B0] (.tup [AV.ints [1, 2], AV.ints [], .i 0]) := by
 have h := q23 B0 (by decide)
 rwa [k11] at h
theorem sect9K : PCall Tryz.prog 23 [u8s B9] (.tup [AV.ints [1, 2], AV.ints [0], .i 0]) := by
 have h := q23 B9 (by decide)
 rwa [k12] at h
theorem readK : PCall Tryz.prog 19 [u8s B9] (.tup [AV.prog noProg, AV.ths [], .i 4]) := by
 have h := readC B9 (by decide)
 rwa [readA, k7] at h
theorem reachK : PCall Tryz.prog 26 [AV.prog P0, AV.ths O0, AV.mvs [(3, 1)]] (.tup [AV.ints [1, 0], .i 0]) := by
 have h := reachI small0 O0 [(3, 1)]
 rwa [reachQ, k5, if_pos rfl, if_pos rfl, k6] at h
theorem partK : PCall Tryz.prog 27 [AV.prog P0, AV.ths O0, AV.mvs [(3, 1)]] (.tup [u8s K0, .i 0]) := by
 have h := partC small0 O0 [(3, 1)]
 rwa [partQ, k5, if_pos rfl, if_pos rfl, k3] at h
theorem loadK : PCall Tryz.prog 30 [AV.prog P0, AV.ths O0, u8s K0] (.tup [AV.ths O4, AV.mvs [(3, 2)], .i 0]) := by
 have h := loadC small0 O0 K0 (by decide)
 rwa [k8] at h
theorem alikeK : PCall Tryz.prog 33 [AV.prog P0, AV.ths O0, AV.mvs [(3, 0)], AV.ths O0, AV.mvs [(3, 1)]] (.tup [.b false, .i 0]) := by
 have h := alikeC small0 O0 [(3, 0)] O0 [(3, 1)]
 rwa [k10, k9, k5] at h
theorem knownC : PCall Tryz.prog 18 [] (.b true) := by
 intro H
 refine ACall.mk' (n := 187) Tryz.func18 rfl (by kernel_rfl) rfl rfl (fun B I w0 => ?_)
 refine S2 ?_; refine Oas ?_; refine S4 ?_
 refine OL.popC rfl rfl rfl (POp.call (.mk' rfl rfl rfl rfl rfl) (progK)) ?_
 refine OL.popC rfl rfl rfl (POp.call (.mk' rfl rfl rfl rfl rfl) (objsK)) ?_
 refine OL.popC rfl rfl rfl (POp.call (.mk' rfl rfl rfl rfl rfl) (imageK)) ?_
 refine Omv ?_; refine Oex ?_; refine Oex ?_; refine Oas ?_; refine Oas ?_; refine S4 ?_
 refine OL.popC rfl rfl rfl (POp.call (.mk' rfl rfl rfl rfl rfl) (bytesK)) ?_
 refine OL.popC rfl rfl rfl (POp.call (.mk' rfl rfl rfl rfl rfl) (sectK)) ?_
 refine Omv ?_; refine Oex ?_; refine Oex ?_; refine Oex ?_; refine Oas ?_; refine Oas ?_; refine Oas ?_; refine S5 ?_; refine Omv ?_; refine Ocm ?_; refine Omv ?_; refine Pmv ?_
 refine Pcm ?_; refine Opk ?_; refine Omv ?_; refine Pmv ?_
 refine OL.guardC rfl rfl rfl rfl rfl rfl (fun hg => POp.call (.mk' rfl rfl rfl rfl rfl) (bytesK)) ?_
 refine OL.guardC rfl rfl rfl rfl rfl rfl (fun hg => POp.call (.mk' rfl rfl rfl rfl (by first | rfl | ((repeat (first | exact hg | rfl | refine Bool.and_eq_true_iff.2 ⟨?_, ?_⟩)); done) | simp_all [strip, constAV])) (sameB B0 B0)) ?_
 refine Pnt ?_; refine Opk ?_; refine Omv ?_; refine Pmv ?_; refine Pln ?_; refine Pcm ?_; refine Opk ?_; refine Omv ?_; refine Pmv ?_; refine Pln ?_; refine Pcm ?_; refine Opk ?_
 refine Omv ?_; refine Pmv ?_
 refine OL.guardC rfl rfl rfl rfl rfl rfl (fun hg => (by first | exact POp.ixM rfl rfl (gd hg) rfl rfl (by decide) | exact POp.ixI rfl rfl (gd hg) rfl rfl (by decide))) ?_
 refine Pld ?_; refine Pcm ?_; refine Opk ?_; refine Omv ?_; refine Pmv ?_
 refine OL.guardC rfl rfl rfl rfl rfl rfl (fun hg => (by first | exact POp.ixM rfl rfl (gd hg) rfl rfl (by decide) | exact POp.ixI rfl rfl (gd hg) rfl rfl (by decide))) ?_
 refine Pld ?_; refine Pcm ?_; refine Opk ?_; refine S2 ?_
 refine CW.cond rfl (fun h0 => ?_) (fun h0 => ?_)
 ·
  exact absurd h0 (by decide +kernel)
 ·
  refine S4 ?_
  refine OL.bcallC rfl rfl rfl (.mk' rfl rfl rfl rfl rfl) ((bytesB H).b) ?_
  rintro y _ ⟨bb, rfl, rfl⟩
  refine Oas ?_; refine S4 ?_; refine Omv ?_
  refine OL.popC rfl rfl rfl (POp.ixC rfl rfl rfl rfl rfl (by omega)) ?_
  refine Sto ?_; refine S3 ?_
  refine CW.eqH (H' := .blk bb 5 ((B9.map fun x => [u8 x]).flatten ++ []) :: H) rfl ?_
  refine CW.freezeS (k := 1) (d := 1) rfl (.head _ _) rfl (fun e he => by obtain ⟨y, _, rfl⟩ := List.mem_map.1 he; rfl) (Nat.le_refl _) (by simp only [maxLen]; omega) ?_
  refine CW.le 1 (y := u8s B9) rfl (AVle.refl _) ?_
  refine S1 ?_; refine Omv ?_
  refine OL.popC rfl rfl rfl (POp.call (.mk' rfl rfl rfl rfl rfl) (sect9K)) ?_
  refine Omv ?_; refine Oex ?_; refine Oex ?_; refine Oex ?_; refine Oas ?_; refine Oas ?_; refine S4 ?_; refine Omv ?_
  refine OL.popC rfl rfl rfl (POp.call (.mk' rfl rfl rfl rfl rfl) (readK)) ?_
  refine Omv ?_; refine Oex ?_; refine Oex ?_; refine Oex ?_; refine Oas ?_; refine S4 ?_
  refine OL.popC rfl rfl rfl (POp.call (.mk' rfl rfl rfl rfl rfl) (progK)) ?_
  refine OL.popC rfl rfl rfl (POp.call (.mk' rfl rfl rfl rfl rfl) (objsK)) ?_
  refine OL.popC rfl rfl rfl (POp.call (.mk' rfl rfl rfl rfl rfl) (objI 1)) ?_
  refine OL.popC rfl rfl rfl (POp.le (x := AV.mvs [(3, 1)]) (POp.row rfl rfl (by first | rfl | simp_all [strip]) rfl rfl rfl rfl rfl rfl) (AVle.refl _)) ?_
  refine OL.popC rfl rfl rfl (POp.call (.mk' rfl rfl rfl rfl rfl) (reachK)) ?_
  refine Omv ?_; refine Oex ?_; refine Oex ?_; refine Oas ?_; refine Oas ?_; refine S4 ?_
  refine OL.popC rfl rfl rfl (POp.call (.mk' rfl rfl rfl rfl rfl) (progK)) ?_
  refine OL.popC rfl rfl rfl (POp.call (.mk' rfl rfl rfl rfl rfl) (objsK)) ?_
  refine OL.popC rfl rfl rfl (POp.call (.mk' rfl rfl rfl rfl rfl) (objI 1)) ?_
  refine OL.popC rfl rfl rfl (POp.le (x := AV.mvs [(3, 1)]) (POp.row rfl rfl (by first | rfl | simp_all [strip]) rfl rfl rfl rfl rfl rfl) (AVle.refl _)) ?_
  refine OL.popC rfl rfl rfl (POp.call (.mk' rfl rfl rfl rfl rfl) (partK)) ?_
  refine Omv ?_; refine Oex ?_; refine Oex ?_; refine Oas ?_; refine Oas ?_; refine S5 ?_; refine Omv ?_; refine Ocm ?_; refine Omv ?_; refine Pmv ?_; refine Pcm ?_; refine Opk ?_
  refine Omv ?_; refine Pmv ?_; refine Pcm ?_; refine Opk ?_; refine Omv ?_; refine Pmv ?_; refine Pcm ?_; refine Opk ?_; refine Omv ?_; refine Pmv ?_
  refine OL.guardC rfl rfl rfl rfl rfl rfl (fun hg => POp.row rfl rfl (by first | rfl | simp_all [strip]) rfl rfl rfl rfl rfl rfl) ?_
  refine OL.guardC rfl rfl rfl rfl rfl rfl (fun hg => POp.call (.mk' rfl rfl rfl rfl (by first | rfl | ((repeat (first | exact hg | rfl | refine Bool.and_eq_true_iff.2 ⟨?_, ?_⟩)); done) | simp_all [strip, constAV])) (sameI [0] [0])) ?_
  refine Pnt ?_; refine Opk ?_; refine Omv ?_; refine Pmv ?_
  refine OL.guardC rfl rfl rfl rfl rfl rfl (fun hg => POp.row rfl rfl (by first | rfl | simp_all [strip]) rfl rfl rfl rfl rfl rfl) ?_
  refine OL.guardC rfl rfl rfl rfl rfl rfl (fun hg => POp.call (.mk' rfl rfl rfl rfl (by first | rfl | ((repeat (first | exact hg | rfl | refine Bool.and_eq_true_iff.2 ⟨?_, ?_⟩)); done) | simp_all [strip, constAV])) (sameI [1, 0] [1, 0])) ?_
  refine Pnt ?_; refine Opk ?_; refine Omv ?_; refine Pmv ?_; refine Pln ?_; refine Pcm ?_; refine Opk ?_; refine S2 ?_
  refine CW.cond rfl (fun h1 => ?_) (fun h1 => ?_)
  ·
   exact absurd h1 (by decide +kernel)
  ·
   refine S4 ?_
   refine OL.popC rfl rfl rfl (POp.row rfl rfl (by first | rfl | simp_all [strip]) rfl rfl rfl rfl rfl rfl) ?_
   refine Oas ?_; refine S4 ?_
   refine OL.popC rfl rfl rfl (POp.call (.mk' rfl rfl rfl rfl rfl) (progK)) ?_
   refine OL.popC rfl rfl rfl (POp.call (.mk' rfl rfl rfl rfl rfl) (objsK)) ?_
   refine Omv ?_
   refine OL.popC rfl rfl rfl (POp.call (.mk' rfl rfl rfl rfl rfl) (loadK)) ?_
   refine Omv ?_; refine Oex ?_; refine Oex ?_; refine Oex ?_; refine Oas ?_; refine Oas ?_; refine Oas ?_; refine S4 ?_
   refine OL.popC rfl rfl rfl (POp.call (.mk' rfl rfl rfl rfl rfl) (progK)) ?_
   refine OL.popC rfl rfl rfl (POp.call (.mk' rfl rfl rfl rfl rfl) (objsK)) ?_
   refine OL.popC rfl rfl rfl (POp.call (.mk' rfl rfl rfl rfl rfl) (objI 0)) ?_
   refine OL.popC rfl rfl rfl (POp.le (x := AV.mvs [(3, 0)]) (POp.row rfl rfl (by first | rfl | simp_all [strip]) rfl rfl rfl rfl rfl rfl) (AVle.refl _)) ?_
   refine OL.popC rfl rfl rfl (POp.call (.mk' rfl rfl rfl rfl rfl) (objsK)) ?_
   refine OL.popC rfl rfl rfl (POp.call (.mk' rfl rfl rfl rfl rfl) (objI 1)) ?_
   refine OL.popC rfl rfl rfl (POp.le (x := AV.mvs [(3, 1)]) (POp.row rfl rfl (by first | rfl | simp_all [strip]) rfl rfl rfl rfl rfl rfl) (AVle.refl _)) ?_
   refine OL.popC rfl rfl rfl (POp.call (.mk' rfl rfl rfl rfl rfl) (alikeK)) ?_
   refine Omv ?_; refine Oex ?_; refine Oex ?_; refine Oas ?_; refine Oas ?_; refine S3 ?_
   refine CW.dp mixed ?_
   refine DP.one (k := 0) (by decide +kernel) rfl ?_
   refine Omv ?_
   refine OL.nil (Done.dp ?_)
   refine DP.one (k := 1) (by decide +kernel) rfl ?_
   refine Ocm ?_
   refine OL.nil (Done.dp ?_)
   refine DP.one (k := 2) (by decide +kernel) rfl ?_
   refine Omv ?_
   refine OL.nil (Done.dp ?_)
   refine DP.one (k := 3) (by decide +kernel) rfl ?_
   refine Pmv ?_
   refine OL.nil (Done.dp ?_)
   refine DP.one (k := 4) (by decide +kernel) rfl ?_
   refine Pcm ?_
   refine OL.nil (Done.dp ?_)
   refine DP.one (k := 5) (by decide +kernel) rfl ?_
   refine Opk ?_
   refine OL.nil (Done.dp ?_)
   refine DP.one (k := 6) (by decide +kernel) rfl ?_
   refine Omv ?_
   refine OL.nil (Done.dp ?_)
   refine DP.anyC 7 10 187 rfl (by decide +kernel) rfl rfl (by decide +kernel) ?_
   refine AD.guardC rfl rfl rfl rfl rfl (fun hg => POp.move rfl rfl rfl) ?_
   refine AD.guardC rfl rfl rfl rfl rfl (fun hg => POp.slTo rfl rfl (by first | rfl | exact hg | simp_all) rfl (by first | rfl | exact hg | simp_all) (by decide)) ?_
   refine AD.guardC rfl rfl rfl rfl rfl (fun hg => POp.move rfl rfl rfl) ?_
   refine AD.nil ?_
   refine DP.one (k := 10) (by decide +kernel) rfl ?_
   refine OL.guardC rfl rfl rfl rfl rfl rfl (fun hg => POp.call (.mk' rfl rfl rfl rfl (by first | rfl | ((repeat (first | exact hg | rfl | refine Bool.and_eq_true_iff.2 ⟨?_, ?_⟩)); done) | simp_all [strip, constAV])) (sameB T0 T0)) ?_
   refine OL.nil (Done.dp ?_)
   refine DP.one (k := 11) (by decide +kernel) rfl ?_
   refine Opk ?_
   refine OL.nil (Done.dp ?_)
   refine DP.one (k := 12) (by decide +kernel) rfl ?_
   refine Omv ?_
   refine OL.nil (Done.dp ?_)
   refine DP.one (k := 13) (by decide +kernel) rfl ?_
   refine Pmv ?_
   refine OL.nil (Done.dp ?_)
   refine DP.one (k := 14) (by decide +kernel) rfl ?_
   refine Pln ?_
   refine OL.nil (Done.dp ?_)
   refine DP.one (k := 15) (by decide +kernel) rfl ?_
   refine Pcm ?_
   refine OL.nil (Done.dp ?_)
   refine DP.one (k := 16) (by decide +kernel) rfl ?_
   refine Opk ?_
   refine OL.nil (Done.dp ?_)
   refine DP.one (k := 17) (by decide +kernel) rfl ?_
   refine Omv ?_
   refine OL.nil (Done.dp ?_)
   refine DP.anyC 18 24 187 rfl (by decide +kernel) rfl rfl (by decide +kernel) ?_
   refine AD.guardC rfl rfl rfl rfl rfl (fun hg => POp.move rfl rfl rfl) ?_
   refine AD.guardC rfl rfl rfl rfl rfl (fun hg => (by first | exact POp.ixM rfl rfl (gd hg) rfl rfl (by decide) | exact POp.ixI rfl rfl (gd hg) rfl rfl (by decide))) ?_
   refine AD.guardC rfl rfl rfl rfl rfl (fun hg => (by first | exact POp.fa rfl rfl (gd hg) rfl | exact POp.faP rfl rfl (gd hg) rfl)) ?_
   refine AD.guardC rfl rfl rfl rfl rfl (fun hg => (by first | exact POp.ld1 rfl rfl (gd hg) rfl | (apply POp.ld1H rfl rfl (gd hg); (case hm => repeat (first | exact .head _ | refine .tail _ ?_)); (case hy => rfl)))) ?_
   refine AD.guardC rfl rfl rfl rfl rfl (fun hg => POp.call (.mk' rfl rfl rfl rfl rfl) (objI 3)) ?_
   refine AD.guardC rfl rfl rfl rfl rfl (fun hg => POp.row rfl rfl (by first | rfl | simp_all [strip]) rfl rfl rfl rfl rfl rfl) ?_
   refine AD.nil ?_
   refine DP.one (k := 24) (by decide +kernel) rfl ?_
   refine OL.guardC rfl rfl rfl rfl rfl rfl (fun hg => POp.call (.mk' rfl rfl rfl rfl (by first | rfl | ((repeat (first | exact hg | rfl | refine Bool.and_eq_true_iff.2 ⟨?_, ?_⟩)); done) | simp_all [strip, constAV])) (sameV [(3, 3)] [(3, 3)])) ?_
   refine OL.nil (Done.dp ?_)
   refine DP.one (k := 25) (by decide +kernel) rfl ?_
   refine Opk ?_
   refine OL.nil (Done.dp ?_)
   refine DP.one (k := 26) (by decide +kernel) rfl ?_
   refine Omv ?_
   refine OL.nil (Done.dp ?_)
   refine DP.anyC 27 33 187 rfl (by decide +kernel) rfl rfl (by decide +kernel) ?_
   refine AD.guardC rfl rfl rfl rfl rfl (fun hg => POp.move rfl rfl rfl) ?_
   refine AD.guardC rfl rfl rfl rfl rfl (fun hg => (by first | exact POp.ixM rfl rfl (gd hg) rfl rfl (by decide) | exact POp.ixI rfl rfl (gd hg) rfl rfl (by decide))) ?_
   refine AD.guardC rfl rfl rfl rfl rfl (fun hg => (by first | exact POp.fa rfl rfl (gd hg) rfl | exact POp.faP rfl rfl (gd hg) rfl)) ?_
   refine AD.guardC rfl rfl rfl rfl rfl (fun hg => (by first | exact POp.ld1 rfl rfl (gd hg) rfl | (apply POp.ld1H rfl rfl (gd hg); (case hm => repeat (first | exact .head _ | refine .tail _ ?_)); (case hy => rfl)))) ?_
   refine AD.guardC rfl rfl rfl rfl rfl (fun hg => POp.call (.mk' rfl rfl rfl rfl rfl) (noneV)) ?_
   refine AD.guardC rfl rfl rfl rfl rfl (fun hg => POp.row rfl rfl (by first | rfl | simp_all [strip]) rfl rfl rfl rfl rfl rfl) ?_
   refine AD.nil ?_
   refine DP.one (k := 33) (by decide +kernel) rfl ?_
   refine OL.guardC rfl rfl rfl rfl rfl rfl (fun hg => POp.call (.mk' rfl rfl rfl rfl (by first | rfl | ((repeat (first | exact hg | rfl | refine Bool.and_eq_true_iff.2 ⟨?_, ?_⟩)); done) | simp_all [strip, constAV])) (sameV [(2, 0)] [(2, 0)])) ?_
   refine OL.nil (Done.dp ?_)
   refine DP.one (k := 34) (by decide +kernel) rfl ?_
   refine Opk ?_
   refine OL.nil (Done.dp ?_)
   refine DP.one (k := 35) (by decide +kernel) rfl ?_
   refine Omv ?_
   refine OL.nil (Done.dp ?_)
   refine DP.anyC 36 39 187 rfl (by decide +kernel) rfl rfl (by decide +kernel) ?_
   refine AD.guardC rfl rfl rfl rfl rfl (fun hg => POp.move rfl rfl rfl) ?_
   refine AD.guardC rfl rfl rfl rfl rfl (fun hg => POp.call (.mk' rfl rfl rfl rfl rfl) (objI 2)) ?_
   refine AD.guardC rfl rfl rfl rfl rfl (fun hg => POp.row rfl rfl (by first | rfl | simp_all [strip]) rfl rfl rfl rfl rfl rfl) ?_
   refine AD.nil ?_
   refine DP.tailC 39 (by decide +kernel) rfl ?_
   refine OL.guardC rfl rfl rfl rfl rfl rfl (fun hg => POp.call (.mk' rfl rfl rfl rfl (by first | rfl | ((repeat (first | exact hg | rfl | refine Bool.and_eq_true_iff.2 ⟨?_, ?_⟩)); done) | simp_all [strip, constAV])) (sameV [(3, 2)] [(3, 2)])) ?_
   refine Opk ?_; refine Omv ?_; refine Pmv ?_; refine Pnt ?_; refine Opk ?_; refine Oas ?_; refine S3 ?_
   refine r1 0 (H) ?_
   exact ⟨retB (by decide +kernel), rfl⟩
end Go.Proofs.YtpgnjlngepfanaaGreat

set_option linter.unusedVariables false
namespace Go.Eng.Bd
open Go.Eng.Fc
open Go.Eng.Im (U8 numberR manyR sumR splitR Sec)
theorem thenR_inv {σ α β : Type} {R : Rd σ α} {k : α → Rd σ β} {s s' : σ} {l l' : List U8} {x : β} (h : thenR R k s l = some (x, s', l')) : ∃ a s1 l1, R s l = some (a, s1, l1) ∧ k a s1 l1 = some (x, s', l') := by
 unfold thenR at h
 split at h
 ·cases h
 ·rename_i a s1 l1 h1; exact ⟨a, s1, l1, h1, h⟩
theorem needR_inv {σ α : Type} {b : Bool} {R : Rd σ α} {s s' : σ} {l l' : List U8} {x : α} (h : needR b R s l = some (x, s', l')) : b = true ∧ R s l = some (x, s', l') := by
 unfold needR at h
 split at h
 ·rename_i h1; exact ⟨h1, h⟩
 ·cases h
theorem byte_val (x : U8) : Im.byteOf x.val = x := by
 apply Fin.ext
 show x.val % 256 = x.val
 have := x.isLt
 omega
theorem numR_inv0 : ∀ (g : Nat) (first : Bool) (l : List U8) (n : Nat) (r : List U8), Im.numR g first l = some (n, r) → l = numW n ++ r ∧ (first = false → 0 < n)
 | 0, _, _, _, _, h => by simp [Im.numR] at h
 | g + 1, first, [], n, r, h => by simp [Im.numR] at h
 | g + 1, first, x :: l, n, r, h => by
  rw [Im.numR] at h
  split at h
  ·rename_i hx
   split at h
   ·rename_i hf
    cases h
    refine ⟨by rw [numW_lt hx, byte_val]; rfl, fun hff => ?_⟩
    rw [hff] at hf
    simpa using hf
   ·cases h
  ·rename_i hx
   split at h
   ·rename_i m r' hm
    cases h
    obtain ⟨h1, h2⟩ := numR_inv0 g false l m r hm
    have h2 := h2 rfl
    have hxl := x.isLt
    have hge : ¬ x.val - 128 + 128 * m < 128 := by omega
    refine ⟨?_, fun _ => by omega⟩
    rw [numW_ge hge, show (x.val - 128 + 128 * m) / 128 = m by omega, show (x.val - 128 + 128 * m) % 128 + 128 = x.val by omega, byte_val, h1]
    rfl
   ·cases h
theorem number_inv {l : List U8} {n : Nat} {r : List U8} (h : numberR l = some (n, r)) : l = numW n ++ r := (numR_inv0 5 true l n r h).1
theorem many_inv {l : List U8} {n : Nat} {r : List U8} (h : manyR l = some (n, r)) : l = numW n ++ r := by
 unfold manyR at h
 rcases hq : numberR l with _ | ⟨a, b⟩ <;> rw [hq] at h
 ·cases h
 ·simp only at h
  split at h
  ·cases h; exact number_inv hq
  ·cases h
theorem num_inv {σ : Type} {s s' : σ} {l l' : List U8} {x : Int} (h : numR s l = some (x, s', l')) : l = numI x ++ l' ∧ 0 ≤ x := by
 unfold numR at h
 split at h
 ·cases h
 ·rename_i n r h1; cases h; exact ⟨number_inv h1, by omega⟩
theorem int_inv {σ : Type} {s s' : σ} {l l' : List U8} {x : Int} (h : intR s l = some (x, s', l')) : l = intW x ++ l' := by
 obtain ⟨a, s1, l1, h1, h2⟩ := thenR_inv h
 cases h2
 obtain ⟨h3, h4⟩ := num_inv h1
 rw [h3, intW, znOf]
 congr 2
 split
 ·rw [if_pos (by omega)]; omega
 ·rw [if_neg (by omega)]; omega
def Inv {σ α : Type} (R : Rd σ α) (f : α → List U8) : Prop := ∀ s l x s' l', R s l = some (x, s', l') → l = f x ++ l'
theorem Inv.times {σ α : Type} {R : Rd σ α} {f : α → List U8} (hR : Inv R f) : ∀ (n : Nat) (s : σ) (l : List U8) (ys : List α) (s' : σ) (l' : List U8), timesR R n s l = some (ys, s', l') → l = ys.flatMap f ++ l' ∧ ys.length = n
 | 0, s, l, ys, s', l', h => by cases h; exact ⟨rfl, rfl⟩
 | n + 1, s, l, ys, s', l', h => by
  rw [timesR] at h
  split at h
  ·cases h
  ·rename_i a s1 l1 h2
   split at h
   ·cases h
   ·rename_i b s2 l2 h3
    cases h
    obtain ⟨h4, h5⟩ := Inv.times hR n _ _ _ _ _ h3
    exact ⟨by rw [hR _ _ _ _ _ h2, h4, List.flatMap_cons, List.append_assoc], by simp [h5]⟩
theorem Inv.list {σ α : Type} {R : Rd σ α} {f : α → List U8} (hR : Inv R f) : Inv (listR R) (listW f) := fun s l x s' l' h => by
 obtain ⟨n, s1, l1, h1, h2⟩ := thenR_inv h
 unfold manyRd at h1
 split at h1
 ·cases h1
 ·rename_i h3
  cases h1
  obtain ⟨h4, h5⟩ := hR.times _ _ _ _ _ _ h2
  rw [many_inv h3, h4, listW, h5, List.append_assoc]
theorem inv_num {σ : Type} : Inv (numR (σ := σ)) numI := fun s l x s' l' h => (num_inv h).1
theorem inv_init {σ : Type} : Inv (initR (σ := σ)) initW := fun s l x s' l' h => by
 obtain ⟨a, s1, l1, h1, h⟩ := thenR_inv h
 obtain ⟨b, s2, l2, h2, h⟩ := thenR_inv h
 cases h
 rw [inv_num _ _ _ _ _ h1, int_inv h2, initW, List.append_assoc]
theorem inv_cls : Inv clsR clsW := fun s l x s' l' h => by
 obtain ⟨ps, s1, l1, h1, h⟩ := thenR_inv h
 obtain ⟨n, s2, l2, h2, h⟩ := thenR_inv h
 obtain ⟨h3, h⟩ := needR_inv h
 obtain ⟨is, s3, l3, h4, h⟩ := thenR_inv h
 cases h
 obtain ⟨h5, h6⟩ := num_inv h2
 rw [inv_num.list _ _ _ _ _ h1, h5, inv_init.list _ _ _ _ _ h4, clsW]
 have : (slotsFrom s2 n.toNat).length = n.toNat := by simp [slotsFrom]
 simp only [this, List.append_assoc]; rfl
theorem inv_fact : ∀ f, Inv (factR f) factW
 | 0, s, l, x, s', l', h => by cases h
 | f + 1, 0, l, x, s', l', h => by cases h
 | f + 1, s + 1, l, x, s', l', h => by
  rw [factR] at h
  obtain ⟨op, s1, l1, h1, h⟩ := thenR_inv h
  obtain ⟨hop, h⟩ := needR_inv h
  obtain ⟨h2, h3⟩ := num_inv h1
  rw [opR, Bool.and_eq_true, decide_eq_true_eq, decide_eq_true_eq] at hop
  unfold factB at h
  split at h
  ·rename_i e
   obtain ⟨a, s2, l2, h4, h⟩ := thenR_inv h
   obtain ⟨ps, s3, l3, h5, h⟩ := thenR_inv h
   obtain ⟨c, s4, l4, h6, h⟩ := thenR_inv h
   cases h
   rw [h2, inv_num _ _ _ _ _ h4, inv_num.list _ _ _ _ _ h5, inv_num _ _ _ _ _ h6, factW, factsW, leafW, if_pos e]
   simp only [List.append_assoc, List.append_nil]
  ·split at h
   ·rename_i e1 e
    obtain ⟨a, s2, l2, h4, h⟩ := thenR_inv h
    obtain ⟨ps, s3, l3, h5, h⟩ := thenR_inv h
    obtain ⟨c, s4, l4, h6, h⟩ := thenR_inv h
    cases h
    rw [h2, inv_num _ _ _ _ _ h4, inv_num.list _ _ _ _ _ h5, int_inv h6, factW, factsW, leafW, if_neg e1, if_pos e]
    simp only [List.append_assoc, List.append_nil]
   ·rename_i e1 e2
    obtain ⟨ks, s2, l2, h4, h⟩ := thenR_inv h
    cases h
    obtain ⟨h5, h6⟩ := (inv_fact f).times _ _ _ _ _ _ h4
    rw [h2, h5, factW, factsW_map, leafW, if_neg e1, if_neg e2]
    simp only [List.append_assoc, List.nil_append]
theorem inv_mth {σ : Type} : Inv (mthR (σ := σ)) mthW := fun s l x s' l' h => by
 obtain ⟨k, s1, l1, h1, h⟩ := thenR_inv h
 obtain ⟨g, s2, l2, h2, h⟩ := thenR_inv h
 split at h
 ·cases h
 ·rename_i f s3 l3 h3
  obtain ⟨n, s4, l4, h4, h⟩ := thenR_inv h
  cases h
  rw [inv_num _ _ _ _ _ h1, inv_num _ _ _ _ _ h2, inv_fact 24 _ _ _ _ _ h3, inv_num _ _ _ _ _ h4, mthW]
  simp only [List.append_assoc]
theorem inv_nd {σ : Type} (gens : List Int) : Inv (ndR (σ := σ) gens) ndW := fun s l x s' l' h => by
 obtain ⟨op, s1, l1, h1, h⟩ := thenR_inv h
 obtain ⟨_, h⟩ := needR_inv h
 obtain ⟨n, s2, l2, h2, h⟩ := thenR_inv h
 rcases hk : kidsN gens op n with _ | k
 ·rw [hk] at h; cases h
 ·rw [hk] at h
  obtain ⟨ks, s3, l3, h3, h⟩ := thenR_inv h
  cases h
  obtain ⟨h5, h6⟩ := inv_num.times _ _ _ _ _ _ h3
  have h4 : l1 = ndN ⟨op, n, ks⟩ ++ l2 := by
   unfold ndNR at h2
   unfold ndN
   split at h2
   ·rename_i e; rw [if_pos (by exact e)]; exact int_inv h2
   ·rename_i e
    split at h2
    ·rename_i e2; rw [if_neg (by exact e), if_pos (by exact e2)]; exact (num_inv h2).1
    ·rename_i e2; rw [if_neg (by exact e), if_neg (by exact e2)]; cases h2; rfl
  rw [inv_num _ _ _ _ _ h1, h4, h5, ndW]
  simp only [List.append_assoc]
theorem inv_prog {l l' : List U8} {p : Prog} (h : progR l = some (p, l')) : l = progW p ++ l' := by
 rcases h1 : listR clsR 0 l with _ | ⟨cs, s, l1⟩
 ·rw [progR, h1] at h; cases h
 ·rw [progR_some h1] at h
  obtain ⟨q, h2, h3⟩ := Option.map_eq_some_iff.1 h
  obtain ⟨x, u, l2⟩ := q
  cases h3
  unfold progT at h2
  obtain ⟨gs, s1, l3, h4, h2⟩ := thenR_inv h2
  obtain ⟨ms, s2, l4, h5, h2⟩ := thenR_inv h2
  obtain ⟨ns, s3, l5, h6, h2⟩ := thenR_inv h2
  obtain ⟨m, s4, l6, h7, h2⟩ := thenR_inv h2
  cases h2
  rw [inv_cls.list _ _ _ _ _ h1, inv_num.list _ _ _ _ _ h4, inv_mth.list _ _ _ _ _ h5, (inv_nd gs).list _ _ _ _ _ h6, inv_num _ _ _ _ _ h7, progW]
  simp only [List.append_assoc]
theorem inv_val {σ : Type} : Inv (valR (σ := σ)) valW := fun s l x s' l' h => by
 obtain ⟨k, s1, l1, h1, h⟩ := thenR_inv h
 rw [inv_num _ _ _ _ _ h1]
 unfold valW
 split at h
 ·rename_i e
  obtain ⟨n, s2, l2, h2, h⟩ := thenR_inv h
  cases h
  rw [if_pos (by exact e), int_inv h2, List.append_assoc]
 ·rename_i e
  split at h
  ·rename_i e3
   obtain ⟨n, s2, l2, h2, h⟩ := thenR_inv h
   cases h
   rw [if_neg (by exact e), if_pos (by exact e3), inv_num _ _ _ _ _ h2, List.append_assoc]
  ·rename_i e3
   obtain ⟨_, h⟩ := needR_inv h
   cases h
   rw [if_neg (by exact e), if_neg (by exact e3), List.append_nil]
theorem inv_th {σ : Type} (p : Prog) : Inv (thR (σ := σ) p) thW := fun s l x s' l' h => by
 obtain ⟨c, s1, l1, h1, h⟩ := thenR_inv h
 obtain ⟨_, h⟩ := needR_inv h
 obtain ⟨vs, s2, l2, h2, h⟩ := thenR_inv h
 cases h
 rw [inv_num _ _ _ _ _ h1, (inv_val.times _ _ _ _ _ _ h2).1, thW, List.append_assoc]
end Go.Eng.Bd

set_option linter.unusedVariables false
set_option linter.unusedSimpArgs false
set_option maxRecDepth 10000
namespace Go.Proofs.YtpgnjlngepfanaaGreat
open Go.Eng
open Go.Eng.Fc
open Go.Eng.Bd
open Go.Eng.Im (U8 u8 u8s sumR splitR Sec numberR manyR)
theorem sec_inv {l r : List U8} {s : Sec} (h : Im.secR l = some (s, r)) (hd : s.damaged = false) : l = secW s.kind s.body ++ r := by
 cases l with
 | nil => simp [Im.secR] at h
 | cons k t =>
  unfold Im.secR at h
  simp only at h
  split at h
  ·rename_i n r1 hm
   split at h
   ·rename_i h4
    cases h
    simp only [Bool.not_eq_false', beq_iff_eq] at hd
    rw [List.length_drop] at h4
    have hn : (r1.take n).length = n := by rw [List.length_take]; omega
    have h5 : r1 = r1.take n ++ ((r1.drop n).take 4 ++ (r1.drop n).drop 4) := by rw [List.take_append_drop, List.take_append_drop]
    rw [many_inv hm]
    show k :: (numW n ++ r1) = secW k (r1.take n) ++ _
    rw [secW, hn, ← hd]
    simp only [List.append_assoc, List.singleton_append]
    rw [← h5]
    rfl
   ·cases h
  ·cases h
theorem secs_inv : ∀ (f : Nat) (l : List U8) (L : List Sec), Im.secsR f l = (L, true) → (∀ s ∈ L, s.damaged = false) → l = L.flatMap fun s => secW s.kind s.body
 | 0, l, L, h, hd => by
  simp only [Im.secsR, Prod.mk.injEq, decide_eq_true_eq] at h
  obtain ⟨rfl, rfl⟩ := h; rfl
 | f + 1, [], L, h, hd => by simp only [Im.secsR, Prod.mk.injEq] at h; obtain ⟨rfl, _⟩ := h; rfl
 | f + 1, a :: t, L, h, hd => by
  unfold Im.secsR at h
  split at h
  ·rename_i s r hs
   simp only [Prod.mk.injEq] at h
   obtain ⟨rfl, h2⟩ := h
   rw [sec_inv hs (hd s (.head _)), List.flatMap_cons]
   congr 1
   exact secs_inv f r _ (Prod.ext rfl h2) (fun s hs => hd s (.tail _ hs))
  ·simp at h
theorem bodies_inv {b : List U8} {x : U8} {kinds : List Int} {ls : List (List U8)} (h : bodiesR b x kinds = some ls) : ∃ L : List Sec, ls = L.map (·.body) ∧ L.length = kinds.length ∧ (∀ i, i < L.length → ((L.getD i default).kind.val : Int) = kinds.getD i default) ∧ b = 67 :: x :: L.flatMap fun s => secW s.kind s.body := by
 unfold bodiesR at h
 split at h
 ·cases h
 ·rename_i y L hq
  split at h
  ·rename_i h1
   cases h
   obtain ⟨rfl, h2, h3⟩ := h1
   have hk : ∀ i, i < L.length → kindOk L kinds i = true := fun i hi => List.all_eq_true.1 h3 i (by simpa using hi)
   have hk2 : ∀ i, i < L.length → ((L.getD i default).kind.val : Int) = kinds.getD i default ∧ (L.getD i default).damaged = false := fun i hi => by
    have := hk i hi
    simp only [kindOk, Bool.and_eq_true, beq_iff_eq, Bool.not_eq_true'] at this
    exact this
   refine ⟨L, rfl, h2, fun i hi => (hk2 i hi).1, ?_⟩
   unfold splitR at hq
   split at hq
   ·rename_i a m r
    split at hq
    ·rename_i hc
     cases hq
     have ha : a = 67 := Fin.ext hc.1
     rw [ha]
     congr 2
     refine secs_inv _ _ _ (Prod.ext rfl hc.2.2) (fun s hs => ?_)
     obtain ⟨i, hi, rfl⟩ := List.mem_iff_getElem.1 hs
     have := (hk2 i hi).2
     rwa [List.getD_eq_getElem?_getD, List.getElem?_eq_getElem hi] at this
    ·cases hq
   ·cases hq
  ·cases h
theorem read_inv {b : List U8} {p : Prog} {objs : List Th} (h : readR b = some (p, objs)) : imageP p objs = b ∧ checkP p objs = true := by
 unfold readR at h
 split at h
 ·rename_i b1 b2 hb
  split at h
  ·cases h
  ·rename_i p' l1 hp
   split at h
   ·rename_i h1
    split at h
    ·cases h
    ·rename_i objs' u l2 ho
     split at h
     ·rename_i h2
      cases h
      obtain ⟨L, hL, hLl, hk, hbe⟩ := bodies_inv hb
      match L, hLl with
      | [s1, s2], _ =>
       simp only [List.map_cons, List.map_nil, List.cons.injEq, and_true] at hL
       obtain ⟨rfl, rfl⟩ := hL
       have k1 : s1.kind = 1 := Fin.ext (by have := hk 0 (by simp); exact Int.ofNat.inj this)
       have k2 : s2.kind = 2 := Fin.ext (by have := hk 1 (by simp); exact Int.ofNat.inj this)
       have e1 := inv_prog hp
       rw [h1.1, List.append_nil] at e1
       have e2 := (inv_th p).list _ _ _ _ _ ho
       rw [h2.1, List.append_nil] at e2
       refine ⟨?_, h2.2⟩
       rw [hbe, imageP]
       simp [k1, k2, e1, e2]
     ·cases h
   ·cases h
 ·cases h
end Go.Proofs.YtpgnjlngepfanaaGreat

set_option linter.unusedVariables false
namespace Go.Eng.Bd
open Go.Eng.Fc
open Go.Eng.Im (U8 numberR manyR sumR splitR Sec)
theorem byte_of {n : Nat} (h : n < 256) : (Im.byteOf n).val = n := by
 show n % 256 = n
 omega
theorem numR_fwd : ∀ (g : Nat) (first : Bool) (n : Nat) (r : List U8), n < 128 ^ (g + 1) → (first = true ∨ 0 < n) → Im.numR (g + 1) first (numW n ++ r) = some (n, r)
 | g, first, n, r, hn, hf => by
  by_cases h : n < 128
  ·rw [numW_lt h, List.singleton_append, Im.numR, byte_of (by omega), if_pos h, if_pos (by simp only [Bool.or_eq_true, decide_eq_true_eq]; exact hf)]
  ·cases g with
   | zero => omega
   | succ g =>
    rw [numW_ge h, List.cons_append, Im.numR, byte_of (by omega), if_neg (by omega), numR_fwd g false (n / 128) r (by rw [Nat.pow_succ] at hn; omega) (.inr (by omega))]
    simp only
    rw [show n % 128 + 128 - 128 + 128 * (n / 128) = n by omega]
theorem number_fwd {n : Nat} (hn : n ≤ 30000000000) (r : List U8) : numberR (numW n ++ r) = some (n, r) := numR_fwd 4 true n r (by omega) (.inl rfl)
theorem many_fwd {n : Nat} {r : List U8} (hn : n ≤ 30000000000) (h : n ≤ r.length) : manyR (numW n ++ r) = some (n, r) := by
 unfold manyR
 rw [number_fwd hn r]
 simp only
 rw [if_pos h]
end Go.Eng.Bd

set_option linter.unusedVariables false
set_option linter.unusedSimpArgs false
set_option maxRecDepth 10000
namespace Go.Proofs.YtpgnjlngepfanaaGreat
open Go.Eng
open Go.Eng.Fc
open Go.Eng.Bd
open Go.Eng.Im (U8 u8 u8s sumR splitR Sec numberR manyR)
open Go.Eng.Im (U8 u8 u8s sumR splitR)
open Go.Eng.Im (U8 u8 u8s sumR splitR Sec)
theorem eqU8 (a : List U8) : PCall Tryz.prog 41 [u8s a, u8s a] (.b true) := by
 intro H
 refine ACall.mk' (n := 26) Tryz.func41 rfl (by kernel_rfl) rfl rfl (fun B I w0 => ?_)
 refine CW.boundM (t := 0) rfl (fun hb0 => ?_)
 refine S2 ?_; refine Oas ?_; refine S5 ?_; refine Omv ?_; refine Oln ?_; refine Omv ?_; refine Oln ?_; refine Ocm ?_; refine S2 ?_
 refine CW.cond rfl (fun h0 => ?_) (fun h0 => ?_)
 ·
  exact absurd h0 (by simp)
 ·
  refine S5 ?_; refine Omv ?_; refine Oln ?_; refine Omv ?_; refine S3 ?_
  refine lj (fun m st => ∃ i : Nat, st = ⟨[(13, .i i), (12, .i a.length), (0, u8s a), (1, u8s a)], H⟩ ∧ m = a.length - i ∧ i ≤ a.length) (⟨0, rfl, rfl, by omega⟩) ?_
  rintro m _ ⟨i, rfl, rfl, hi⟩
  refine S2 ?_; refine Ocm ?_; refine S3 ?_
  refine CW.cond rfl (fun h1 => ?_) (fun h1 => ?_)
  ·
   replace h1 := nm h1
   have hil : i < a.length := by omega
   refine S6 ?_; refine Omv ?_; refine Oas ?_; refine S3 ?_
   refine CW.dp mixed ?_
   refine DP.anyC 0 8 26 rfl (by decide +kernel) rfl rfl (by decide +kernel) ?_
   refine Amv ?_; refine Amv ?_
   refine AD.popC rfl rfl rfl ((by first | exact POp.ixM rfl rfl rfl rfl rfl hil | exact POp.ixI rfl rfl rfl rfl rfl hil)) ?_
   refine Ald ?_; refine Amv ?_; refine Amv ?_
   refine AD.popC rfl rfl rfl ((by first | exact POp.ixM rfl rfl rfl rfl rfl hil | exact POp.ixI rfl rfl rfl rfl rfl hil)) ?_
   refine Ald ?_
   refine AD.nil ?_
   refine DP.tailC 8 (by decide +kernel) rfl ?_
   refine Ocm ?_; refine S2 ?_
   refine CW.cond rfl (fun h2 => ?_) (fun h2 => ?_)
   ·
    exact absurd h2 (by simp)
   ·
    refine S4 ?_; refine Oar ?_; refine Omv ?_; refine S1 ?_
    exact ag (⟨i + 1, rfl, rfl, hil⟩)
  ·
   replace h1 := nm h1
   refine S7 ?_; refine Oas ?_; refine S3 ?_
   refine r1 4 (H) ?_
   exact ⟨by rfl, rfl⟩
instance : HasEq Tryz.prog 143 2 := ⟨by kernel_rfl⟩
theorem image_len {p : Prog} {objs : List Th} (h : checkP p objs = true) : (imageP p objs).length ≤ 100000 := by
 obtain ⟨h1, h2, h3⟩ := ok_of h
 have hl1 := progW_len h1
 have hl2 := objs_len h2 h3
 have hs1 := secW_len (k := 1) (b := progW p) (by omega)
 have hs2 := secW_len (k := 2) (b := listW thW objs) (by omega)
 simp only [imageP, List.length_append, List.length_cons, List.length_nil]; omega
theorem imageQ_of {p : Prog} {objs : List Th} (h : checkP p objs = true) : imageQ p objs = imageP p objs := by rw [imageQ, if_pos h]
def rp (b : List U8) : Prog := match readR b with | some x => x.1 | none => noProg
def ro (b : List U8) : List Th := match readR b with | some x => x.2 | none => []
def re (b : List U8) : Int := match readR b with | some _ => 0 | none => 4
theorem readU (b : List U8) (hl : b.length ≤ 1048576) : PCall Tryz.prog 19 [u8s b] (.tup [AV.prog (rp b), AV.ths (ro b), .i (re b)]) := by
 have h := readC b hl
 rcases e : readR b with _ | ⟨p, objs⟩ <;> (rw [readA, e] at h; rw [rp, ro, re, e]; exact h)
theorem re_ok {b : List U8} (h : re b = 0) : imageQ (rp b) (ro b) = b ∧ checkP (rp b) (ro b) = true := by
 rcases e : readR b with _ | ⟨p, objs⟩
 ·rw [re, e] at h; cases h
 ·rw [rp, ro, e]
  obtain ⟨h1, h2⟩ := read_inv e
  exact ⟨by rw [imageQ_of h2]; exact h1, h2⟩
theorem small_ok {p : Prog} (h : okP p) : p.Small := ⟨by have := h.cl; omega, fun c hc => by have := (h.cs c hc).pl; omega⟩
theorem okG_of {p : Prog} {objs : List Th} (h : checkP p objs = true) : okG p objs := by obtain ⟨h1, h2, h3⟩ := ok_of h; exact ⟨h1, h2, h3⟩
def mapT (f : Int → Int) (t : Th) : Th := ⟨t.cls, t.slots.map (move1 f)⟩
theorem meet1_map {f : Int → Int} {R l : List Int} {v : Int × Int} (hi : ∀ a ∈ R, ∀ b ∈ R, f a = f b → a = b) (hl : ∀ x ∈ l, x ∈ R) (hv : v.1 = 3 → v.2 ∈ R) : meet1 (l.map f) (move1 f v) = (meet1 l v).map f := by
 unfold meet1 move1
 by_cases h3 : v.1 = 3
 ·have hm : f v.2 ∈ l.map f ↔ v.2 ∈ l := ⟨fun h => by
   obtain ⟨y, hy, e⟩ := List.mem_map.1 h
   rw [← hi y (hl y hy) v.2 (hv h3) e]; exact hy, fun h => List.mem_map_of_mem h⟩
  rw [if_pos h3]
  by_cases hc : v.2 ∈ l
  ·rw [if_neg (fun h => h.2 (hm.2 hc)), if_neg (fun h => h.2 hc)]
  ·rw [if_pos ⟨rfl, fun h => hc (hm.1 h)⟩, if_pos ⟨h3, hc⟩]; simp
 ·rw [if_neg h3, if_neg (fun h => h3 h.1), if_neg (fun h => h3 h.1)]
theorem meetP_map {f : Int → Int} {R : List Int} (hi : ∀ a ∈ R, ∀ b ∈ R, f a = f b → a = b) : ∀ (vals : List (Int × Int)) (l : List Int), (∀ x ∈ meetP vals l, x ∈ R) → meetP (vals.map (move1 f)) (l.map f) = (meetP vals l).map f
 | [], l, _ => rfl
 | v :: r, l, h => by
  rw [List.map_cons, meetP_cons, meetP_cons, meet1_map hi (fun x hx => h x ((meetP_pre (v :: r) l).subset hx)) (fun h3 => h _ (meetP_has (v :: r) l v (.head _) h3))]
  exact meetP_map hi r _ h
theorem reachN_pre (objs : List Th) : ∀ (f i : Nat) (l : List Int), l <+: reachN objs f i l
 | 0, i, l => List.prefix_refl _
 | f + 1, i, l => by
  rw [reachN]
  split
  ·exact (meetP_pre _ _).trans (reachN_pre objs f (i + 1) _)
  ·exact List.prefix_refl _
theorem getD_mapI (f : Int → Int) {l : List Int} {i : Nat} (hi : i < l.length) : (l.map f).getD i default = f (l.getD i default) := by
 rw [List.getD_eq_getElem?_getD, List.getElem?_map, List.getD_eq_getElem?_getD, List.getElem?_eq_getElem hi]; rfl
theorem reachN_map {f : Int → Int} {R : List Int} (hi : ∀ a ∈ R, ∀ b ∈ R, f a = f b → a = b) {objs objs2 : List Th} (hm : ∀ n ∈ R, thOf objs2 (f n) = mapT f (thOf objs n)) : ∀ (g i : Nat) (l : List Int), (∀ x ∈ reachN objs g i l, x ∈ R) → reachN objs2 g i (l.map f) = (reachN objs g i l).map f
 | 0, i, l, _ => rfl
 | g + 1, i, l, h => by
  simp only [reachN, List.length_map] at h ⊢
  by_cases hl : i < l.length
  ·rw [if_pos hl] at h
   rw [if_pos hl, if_pos hl, getD_mapI f hl]
   have hs : ∀ x ∈ meetP (thOf objs (l.getD i default)).slots l, x ∈ R := fun x hx => h x ((reachN_pre objs g (i + 1) _).subset hx)
   rw [hm _ (hs _ ((meetP_pre _ l).subset (getD_memB hl)))]
   show reachN objs2 g (i + 1) (meetP ((thOf objs (l.getD i default)).slots.map (move1 f)) (l.map f)) = _
   rw [meetP_map hi _ _ hs]
   exact reachN_map hi hm g (i + 1) _ h
  ·rw [if_neg hl, if_neg hl]
theorem reachN_more {objs : List Th} {roots : List (Int × Int)} (hv : ∀ t ∈ objs, t.slots.all (valueP objs.length) = true) (k : Nat) : ∀ (f i : Nat) (l : List Int), Reached objs roots i l → objs.length < f + i → reachN objs (f + k) i l = reachN objs f i l
 | 0, i, l, h, hf => by
  have := h.ok.len
  cases k with
  | zero => rfl
  | succ k => rw [Nat.zero_add, reachN, reachN, if_neg (by omega)]
 | f + 1, i, l, h, hf => by
  rw [show f + 1 + k = (f + k) + 1 by omega, reachN, reachN]
  split
  ·rename_i hl
   exact reachN_more hv k f (i + 1) _ (h.step hv hl) (by omega)
  ·rfl
structure Iso (f : Int → Int) (objs objs2 : List Th) (roots : List (Int × Int)) : Prop where
 rs : roots.all (valueP objs.length) = true
 vs : ∀ t ∈ objs, t.slots.all (valueP objs.length) = true
 rs2 : (roots.map (move1 f)).all (valueP objs2.length) = true
 vs2 : ∀ t ∈ objs2, t.slots.all (valueP objs2.length) = true
 inj : ∀ a ∈ reachP objs roots, ∀ b ∈ reachP objs roots, f a = f b → a = b
 th : ∀ n ∈ reachP objs roots, thOf objs2 (f n) = mapT f (thOf objs n)
theorem Iso.reach {f : Int → Int} {objs objs2 : List Th} {roots : List (Int × Int)} (h : Iso f objs objs2 roots) : reachP objs2 (roots.map (move1 f)) = (reachP objs roots).map f := by
 have h1 := reachN_more h.vs objs2.length (objs.length + 1) 0 _ (Reached.begin h.rs) (by omega)
 have h2 := reachN_more h.vs2 objs.length (objs2.length + 1) 0 _ (Reached.begin h.rs2) (by omega)
 have e : meetP (roots.map (move1 f)) [] = (meetP roots []).map f := meetP_map h.inj roots [] (fun x hx => (reachN_pre objs _ 0 _).subset hx)
 have hi := h.inj
 have ht := h.th
 unfold reachP at hi ht ⊢
 rw [← h1] at hi ht ⊢
 rw [← h2, e, show objs2.length + 1 + objs.length = objs.length + 1 + objs2.length by omega]
 exact reachN_map hi ht _ _ _ (fun x hx => hx)
theorem reach_closed {objs : List Th} {roots : List (Int × Int)} (hr : roots.all (valueP objs.length) = true) (hv : ∀ t ∈ objs, t.slots.all (valueP objs.length) = true) : RouteOk objs.length (reachP objs roots) ∧ (∀ v ∈ roots, v.1 = 3 → v.2 ∈ reachP objs roots) ∧ ∀ n ∈ reachP objs roots, ∀ v ∈ (thOf objs n).slots, v.1 = 3 → v.2 ∈ reachP objs roots := by
 obtain ⟨i, h, hi⟩ := reach_ok hr hv
 refine ⟨h.ok, h.rts, fun n hn v hv h3 => ?_⟩
 obtain ⟨j, hj, rfl⟩ := List.mem_iff_getElem.1 hn
 refine h.sls j (by omega) v ?_ h3
 rwa [List.getD_eq_getElem?_getD, List.getElem?_eq_getElem hj]
theorem find_map {f : Int → Int} {n : Int} : ∀ L : List Int, (∀ a ∈ L, f a = f n → a = n) → (L.map f).findIdx? (fun x => x == f n) = L.findIdx? (fun x => x == n)
 | [], _ => rfl
 | a :: r, h => by
  have e : (f a == f n) = (a == n) := by
   rw [Bool.eq_iff_iff, beq_iff_eq, beq_iff_eq]
   exact ⟨h a (.head _), fun e => by rw [e]⟩
  rw [List.map_cons, List.findIdx?_cons, List.findIdx?_cons, find_map r (fun a ha => h a (.tail _ ha)), e]
theorem place_map {f : Int → Int} {L : List Int} (hi : ∀ a ∈ L, ∀ b ∈ L, f a = f b → a = b) {n : Int} (hn : n ∈ L) : placeP (L.map f) (f n) = placeP L n := by
 rw [placeP, placeP, if_pos hn, if_pos (List.mem_map_of_mem hn), idxB, idxB, find_map L (fun a ha e => hi a ha n hn e)]
theorem moves_map {f : Int → Int} {L : List Int} (hi : ∀ a ∈ L, ∀ b ∈ L, f a = f b → a = b) {l : List (Int × Int)} (hl : ∀ v ∈ l, v.1 = 3 → v.2 ∈ L) : (l.map (move1 f)).map (move1 (placeP (L.map f))) = l.map (move1 (placeP L)) := by
 rw [List.map_map]
 refine List.map_congr_left fun v hv => ?_
 show move1 _ (move1 f v) = _
 unfold move1
 by_cases h3 : v.1 = 3
 ·rw [if_pos h3, if_pos h3]
  show (3, placeP (L.map f) (f v.2)) = _
  rw [place_map hi (hl v hv h3)]
 ·rw [if_neg h3, if_neg h3, if_neg h3]
theorem Iso.part {f : Int → Int} {objs objs2 : List Th} {roots : List (Int × Int)} (h : Iso f objs objs2 roots) (p : Prog) : partP p objs2 (roots.map (move1 f)) = partP p objs roots := by
 obtain ⟨_, h1, h2⟩ := reach_closed h.rs h.vs
 have e : partB p objs2 (roots.map (move1 f)) = partB p objs roots := by
  unfold partB
  rw [h.reach, moves_map h.inj h1]
  congr 1
  unfold listW
  rw [List.length_map, List.flatMap_map]
  congr 1
  have hg : ∀ n ∈ reachP objs roots, thW (objW ((reachP objs roots).map f) objs2 (f n)) = thW (objW (reachP objs roots) objs n) := fun n hn => by
   rw [objW, objW, h.th n hn]
   show thW ⟨(thOf objs n).cls, ((thOf objs n).slots.map (move1 f)).map _⟩ = _
   rw [moves_map h.inj (h2 n hn)]
  rw [List.flatMap_def, List.flatMap_def, List.map_congr_left hg]
 rw [partP, partP, e]
def ownP (objs : List Th) (roots : List (Int × Int)) : List Th := (reachP objs roots).map (objW (reachP objs roots) objs)
def ownR (objs : List Th) (roots : List (Int × Int)) : List (Int × Int) := roots.map (move1 (placeP (reachP objs roots)))
def allP (others own : List Th) : List Th := others ++ own.map (shiftT others.length)
theorem part_len {p : Prog} {objs : List Th} {roots : List (Int × Int)} (h : askedP p objs roots = true) : (partP p objs roots).length ≤ 100000 ∧ (partB p objs roots).length ≤ 20000 := by
 have hk := ask_ok h
 have hpl : (partB p objs roots).length ≤ 20000 := partL_len (p := p) hk.po hk.rs hk.rl
 have hsl := secW_len (k := 3) (b := partB p objs roots) (by omega)
 exact ⟨by rw [partP, List.length_append]; show 2 + _ ≤ _; omega, hpl⟩
def lo : LoadE → List Th
 | .ok l _ => l
 | _ => []
def lr : LoadE → List (Int × Int)
 | .ok _ l => l
 | _ => []
structure Saved (p : Prog) (objs others : List Th) (roots : List (Int × Int)) : Prop where
 alike : alikeP p objs roots (allP others (ownP objs roots)) ((ownR objs roots).map (move1 (· + (others.length : Int)))) = true
 asked : askedP p (allP others (ownP objs roots)) ((ownR objs roots).map (move1 (· + (others.length : Int)))) = true
 part : partP p (allP others (ownP objs roots)) ((ownR objs roots).map (move1 (· + (others.length : Int)))) = partP p objs roots
 check : checkP p (allP others (ownP objs roots)) = true
 len : (allP others (ownP objs roots)).length = others.length + (reachP objs roots).length
end Go.Proofs.YtpgnjlngepfanaaGreat

set_option linter.unusedVariables false
namespace Go.Eng.Bd
open Go.Eng.Fc
open Go.Eng.Im (U8 numberR manyR sumR splitR Sec sumP sumStep)
structure Raw where
 kind : U8
 body : List U8
 sum : List U8
def rawW (s : Raw) : List U8 := ([s.kind] ++ numW s.body.length) ++ (s.body ++ s.sum)
def Raw.sec (s : Raw) : Sec := ⟨s.kind, s.body, !(s.sum == sumR s.kind s.body)⟩
structure Raw.Ok (s : Raw) : Prop where
 bl : s.body.length ≤ 100000000
 sl : s.sum.length = 4
def rawOf (k : U8) (b : List U8) : Raw := ⟨k, b, sumR k b⟩
theorem raw_of (k : U8) (b : List U8) : rawW (rawOf k b) = secW k b := by rw [rawW, secW]; simp only [rawOf, List.append_assoc]
theorem raw_fwd {s : Raw} (h : s.Ok) (r : List U8) : Im.secR (rawW s ++ r) = some (s.sec, r) := by
 have e : rawW s ++ r = s.kind :: (numW s.body.length ++ (s.body ++ (s.sum ++ r))) := by rw [rawW]; simp only [List.append_assoc]; rfl
 rw [e]
 have hbl := h.bl
 have hm : manyR (numW s.body.length ++ (s.body ++ (s.sum ++ r))) = some (s.body.length, s.body ++ (s.sum ++ r)) := many_fwd (by omega) (by rw [List.length_append]; omega)
 have h4 : 4 ≤ ((s.body ++ (s.sum ++ r)).drop s.body.length).length := by rw [List.drop_left, List.length_append, h.sl]; omega
 rw [Im.secR_good hm h4, List.take_left, List.drop_left]
 have h5 : (s.sum ++ r).take 4 = s.sum := by rw [show (4 : Nat) = s.sum.length from h.sl.symm, List.take_left]
 have h6 : (s.sum ++ r).drop 4 = r := by rw [show (4 : Nat) = s.sum.length from h.sl.symm, List.drop_left]
 rw [h5, h6]; rfl
theorem raw_pos (s : Raw) : 0 < (rawW s).length := by simp only [rawW, List.length_append, List.length_singleton]; omega
theorem raws_fwd : ∀ (f : Nat) (L : List Raw), (∀ s ∈ L, s.Ok) → (L.flatMap rawW).length ≤ f → Im.secsR f (L.flatMap rawW) = (L.map Raw.sec, true)
 | 0, [], _, _ => rfl
 | 0, s :: r, h, hl => by
  rw [List.flatMap_cons, List.length_append] at hl
  have := raw_pos s
  omega
 | f + 1, [], _, _ => rfl
 | f + 1, s :: r, h, hl => by
  rw [List.flatMap_cons] at hl ⊢
  have e := raw_fwd (h s (.head _)) (r.flatMap rawW)
  rw [List.length_append] at hl
  have hp := raw_pos s
  have ih := raws_fwd f r (fun x hx => h x (.tail _ hx)) (by omega)
  obtain ⟨a, t, ht⟩ : ∃ a t, rawW s ++ r.flatMap rawW = a :: t := ⟨s.kind, _, rfl⟩
  rw [ht] at e ⊢
  unfold Im.secsR
  rw [e]
  simp only
  rw [ih]; rfl
def spot1 (n : Nat) (s : Raw) : List Int := List.replicate (1 + (numW s.body.length).length) (-1) ++ List.replicate (s.body.length + 4) (n : Int)
def spotsN : Nat → List Raw → List Int
 | _, [] => []
 | n, s :: r => spot1 n s ++ spotsN (n + 1) r
def spotsP (L : List Raw) : List Int := [-1, -1] ++ spotsN 0 L
theorem spot1_len (n : Nat) {s : Raw} (h : s.Ok) : (spot1 n s).length = (rawW s).length := by
 have := h.sl
 simp only [spot1, rawW, List.length_append, List.length_replicate, List.length_singleton]; omega
theorem spotsN_len : ∀ (L : List Raw) (n : Nat), (∀ s ∈ L, s.Ok) → (spotsN n L).length = (L.flatMap rawW).length
 | [], _, _ => rfl
 | s :: r, n, h => by rw [spotsN, List.flatMap_cons, List.length_append, List.length_append, spot1_len n (h s (.head _)), spotsN_len r (n + 1) fun x hx => h x (.tail _ hx)]
theorem getD_app1 {α : Type} {a b : List α} {d : α} {i : Nat} (h : i < a.length) : (a ++ b).getD i d = a.getD i d := by
 rw [List.getD_eq_getElem?_getD, List.getElem?_append_left h, ← List.getD_eq_getElem?_getD]
theorem getD_app2 {α : Type} {a b : List α} {d : α} {i : Nat} (h : a.length ≤ i) : (a ++ b).getD i d = b.getD (i - a.length) d := by
 rw [List.getD_eq_getElem?_getD, List.getElem?_append_right h, ← List.getD_eq_getElem?_getD]
theorem set_app1 {α : Type} {a b : List α} {v : α} {i : Nat} (h : i < a.length) : (a ++ b).set i v = a.set i v ++ b := List.set_append_left i v h
theorem set_app2 {α : Type} {a b : List α} {v : α} {i : Nat} (h : a.length ≤ i) : (a ++ b).set i v = a ++ b.set (i - a.length) v := List.set_append_right i v h
theorem getD_rep {n : Nat} {x d : Int} {i : Nat} (h : i < n) : (List.replicate n x).getD i d = x := by
 rw [List.getD_eq_getElem?_getD, List.getElem?_replicate, if_pos h]; rfl
theorem spot_split : ∀ (L : List Raw) (n i : Nat), (∀ s ∈ L, s.Ok) → 0 ≤ (spotsN n L).getD i (-1) → ∃ L1 s L2 j, L = L1 ++ s :: L2 ∧ (spotsN n L).getD i (-1) = ((n + L1.length : Nat) : Int) ∧ j < s.body.length + 4 ∧ (∀ v, (L.flatMap rawW).set i v = L1.flatMap rawW ++ ((([s.kind] ++ numW s.body.length) ++ (s.body ++ s.sum).set j v) ++ L2.flatMap rawW)) ∧ (L.flatMap rawW).getD i default = (s.body ++ s.sum).getD j default
 | [], n, i, _, h => by simp [spotsN] at h
 | s :: r, n, i, hok, h => by
  have hs := hok s (.head _)
  have hl1 := spot1_len n hs
  have hsl := hs.sl
  rw [spotsN] at h ⊢
  have hhd : ([s.kind] ++ numW s.body.length).length = 1 + (numW s.body.length).length := by rw [List.length_append, List.length_singleton]
  have hbs : (s.body ++ s.sum).length = s.body.length + 4 := by rw [List.length_append, hsl]
  have hrl : (rawW s).length = 1 + (numW s.body.length).length + (s.body.length + 4) := by rw [rawW, List.length_append, hhd, hbs]
  by_cases h1 : i < (rawW s).length
  ·rw [getD_app1 (by omega)] at h ⊢
   by_cases h2 : i < 1 + (numW s.body.length).length
   ·rw [spot1, getD_app1 (by rw [List.length_replicate]; exact h2), getD_rep h2] at h; omega
   ·refine ⟨[], s, r, i - (1 + (numW s.body.length).length), rfl, ?_, by omega, fun v => ?_, ?_⟩
    ·rw [spot1, getD_app2 (by rw [List.length_replicate]; omega), List.length_replicate, getD_rep (by omega)]; simp
    ·rw [List.flatMap_cons, set_app1 h1, rawW, set_app2 (by rw [hhd]; omega), hhd]; rfl
    ·rw [List.flatMap_cons, getD_app1 h1, rawW, getD_app2 (by rw [hhd]; omega), hhd]
  ·rw [getD_app2 (by omega), hl1] at h ⊢
   obtain ⟨L1, s2, L2, j, e1, e2, e3, e4, e5⟩ := spot_split r (n + 1) (i - (rawW s).length) (fun x hx => hok x (.tail _ hx)) h
   refine ⟨s :: L1, s2, L2, j, by rw [e1]; rfl, by rw [e2, List.length_cons]; omega, e3, fun v => ?_, ?_⟩
   ·rw [List.flatMap_cons, set_app2 (by omega), e4 v, List.flatMap_cons]; simp only [List.append_assoc]
   ·rw [List.flatMap_cons, getD_app2 (by omega), e5]
def sumV : List U8 → Nat
 | [] => 0
 | x :: r => x.val + sumV r
theorem sum_fst : ∀ (l : List U8) (p : Nat × Nat), (l.foldl sumStep p).1 % 65521 = (p.1 + sumV l) % 65521
 | [], p => by simp [sumV]
 | x :: r, p => by
  rw [List.foldl_cons, sum_fst r, sumV]
  show ((p.1 + x.val) % 65521 + sumV r) % 65521 = _
  omega
theorem sum_set : ∀ (l : List U8) (j : Nat) (v : U8), j < l.length → sumV (l.set j v) + (l.getD j default).val = sumV l + v.val
 | [], j, v, h => by simp at h
 | x :: r, 0, v, h => by simp only [List.set_cons_zero, sumV, List.getD_cons_zero]; omega
 | x :: r, j + 1, v, h => by
  have := sum_set r j v (by simpa using h)
  simp only [List.set_cons_succ, sumV, List.getD_cons_succ]; omega
theorem byteOf_inj {a b : Nat} (ha : a < 65536) (hb : b < 65536) (h1 : Im.byteOf (a / 256) = Im.byteOf (b / 256)) (h2 : Im.byteOf a = Im.byteOf b) : a = b := by
 have h1 : a / 256 % 256 = b / 256 % 256 := congrArg Fin.val h1
 have h2 : a % 256 = b % 256 := congrArg Fin.val h2
 omega
theorem sumR_set {k : U8} {l : List U8} {j : Nat} {v : U8} (hj : j < l.length) (hv : v ≠ l.getD j default) : sumR k (l.set j v) ≠ sumR k l := by
 intro h
 have h0 : ∀ a b c d a' b' c' d' : U8, [a, b, c, d] = [a', b', c', d'] → c = c' ∧ d = d' := by
  intro a b c d a' b' c' d' e
  simp only [List.cons.injEq, and_true] at e
  exact ⟨e.2.2.1, e.2.2.2⟩
 obtain ⟨h1, h2⟩ := h0 _ _ _ _ _ _ _ _ h
 have b1 := (Im.sumP_lt (k :: l.set j v)).1
 have b2 := (Im.sumP_lt (k :: l)).1
 have e := byteOf_inj (by omega) (by omega) h1 h2
 have f1 := sum_fst (k :: l.set j v) (1, 0)
 have f2 := sum_fst (k :: l) (1, 0)
 have e2 : ((k :: l.set j v).foldl sumStep (1, 0)).1 = ((k :: l).foldl sumStep (1, 0)).1 := e
 rw [e2, f2] at f1
 simp only [sumV] at f1
 have hs := sum_set l j v hj
 have x1 := v.isLt
 have x2 := (l.getD j default).isLt
 have hne : v.val ≠ (l.getD j default).val := fun e => hv (Fin.ext e)
 omega
def dmg (s : Raw) (j : Nat) (v : U8) : Raw := ⟨s.kind, ((s.body ++ s.sum).set j v).take s.body.length, ((s.body ++ s.sum).set j v).drop s.body.length⟩
theorem dmg_body {s : Raw} (h : s.Ok) (j : Nat) (v : U8) : (dmg s j v).body.length = s.body.length := by
 show (((s.body ++ s.sum).set j v).take s.body.length).length = _
 rw [List.length_take, List.length_set, List.length_append]; omega
theorem dmg_ok {s : Raw} (h : s.Ok) (j : Nat) (v : U8) : (dmg s j v).Ok := by
 refine ⟨by rw [dmg_body h]; exact h.bl, ?_⟩
 show (((s.body ++ s.sum).set j v).drop s.body.length).length = 4
 rw [List.length_drop, List.length_set, List.length_append, h.sl]; omega
theorem dmg_raw {s : Raw} (h : s.Ok) (j : Nat) (v : U8) : ([s.kind] ++ numW s.body.length) ++ (s.body ++ s.sum).set j v = rawW (dmg s j v) := by
 rw [rawW, dmg_body h]
 show _ = ([s.kind] ++ numW s.body.length) ++ (((s.body ++ s.sum).set j v).take s.body.length ++ ((s.body ++ s.sum).set j v).drop s.body.length)
 rw [List.take_append_drop]
theorem dmg_sec {s : Raw} (h : s.Ok) (hs : s.sum = sumR s.kind s.body) {j : Nat} (hj : j < s.body.length + 4) {v : U8} (hv : v ≠ (s.body ++ s.sum).getD j default) : (dmg s j v).sec.damaged = true := by
 show (!(((s.body ++ s.sum).set j v).drop s.body.length == sumR s.kind (((s.body ++ s.sum).set j v).take s.body.length))) = true
 rw [Bool.not_eq_true', beq_eq_false_iff_ne]
 have hsl := h.sl
 by_cases hb : j < s.body.length
 ·rw [set_app1 hb]
  have hl : s.body.length = (s.body.set j v).length := by rw [List.length_set]
  rw [hl, List.take_left, List.drop_left, hs]
  rw [getD_app1 hb] at hv
  exact fun e => sumR_set (k := s.kind) hb hv e.symm
 ·rw [set_app2 (by omega), List.take_left, List.drop_left, ← hs]
  intro e
  apply hv
  rw [getD_app2 (by omega), ← e, List.getD_eq_getElem?_getD, List.getElem?_set_self (by omega)]; rfl
theorem filter_one {p : Nat → Bool} : ∀ (n k : Nat), k < n → (∀ i, i < n → p i = decide (i = k)) → (List.range n).filter p = [k]
 | 0, k, h, _ => by omega
 | n + 1, k, h, hp => by
  rw [List.range_succ, List.filter_append]
  by_cases e : k = n
  ·subst e
   have h1 : (List.range k).filter p = [] := List.filter_eq_nil_iff.2 fun i hi => by
    have := List.mem_range.1 hi
    rw [hp i (by omega)]; simp; omega
   rw [h1]
   simp [hp k (by omega)]
  ·rw [filter_one n k (by omega) fun i hi => hp i (by omega)]
   have : p n = false := by rw [hp n (by omega)]; simp; omega
   simp [this]
theorem damaged {x : U8} {L : List Raw} (hx : x = 79 ∨ x = 80) (hok : ∀ s ∈ L, s.Ok) (hs : ∀ s ∈ L, s.sum = sumR s.kind s.body) {i : Nat} {n : Int} (hn : (spotsP L).getD i (-1) = n) (h0 : 0 ≤ n) {v : U8} (hv : v ≠ (67 :: x :: L.flatMap rawW).getD i default) : ∃ (k : Nat) (M : List Sec), n = k ∧ k < L.length ∧ M.length = L.length ∧ splitR ((67 :: x :: L.flatMap rawW).set i v) = some (x, M) ∧ ∀ j, j < M.length → (M.getD j default).damaged = decide (j = k) := by
 have hi : 2 ≤ i := by
  rcases i with _ | _ | i
  ·rw [← hn] at h0; exact absurd h0 (by simp [spotsP])
  ·rw [← hn] at h0; exact absurd h0 (by simp [spotsP])
  ·omega
 obtain ⟨i, rfl⟩ : ∃ m, i = m + 2 := ⟨i - 2, by omega⟩
 have hn' : (spotsN 0 L).getD i (-1) = n := by rw [← hn, spotsP]; rfl
 obtain ⟨L1, s, L2, j, e1, e2, e3, e4, e5⟩ := spot_split L 0 i hok (by rw [hn']; exact h0)
 have hsm : s ∈ L := by rw [e1]; simp
 have hs0 := hok s hsm
 have hset : (67 :: x :: L.flatMap rawW).set (i + 2) v = 67 :: x :: (L1 ++ dmg s j v :: L2).flatMap rawW := by
  show 67 :: x :: (L.flatMap rawW).set i v = _
  rw [e4 v, dmg_raw hs0, List.flatMap_append, List.flatMap_cons]
 have hv' : v ≠ (s.body ++ s.sum).getD j default := by rw [← e5]; exact hv
 have hok' : ∀ y ∈ L1 ++ dmg s j v :: L2, y.Ok := fun y hy => by
  rcases List.mem_append.1 hy with hy | hy
  ·exact hok y (by rw [e1]; exact List.mem_append_left _ hy)
  ·rcases List.mem_cons.1 hy with rfl | hy
   ·exact dmg_ok hs0 j v
   ·exact hok y (by rw [e1]; exact List.mem_append_right _ (.tail _ hy))
 have hsec : ∀ y ∈ L, y.sec.damaged = false := fun y hy => by
  show (!(y.sum == sumR y.kind y.body)) = false
  rw [hs y hy]; simp
 refine ⟨L1.length, (L1 ++ dmg s j v :: L2).map Raw.sec, by rw [← hn', e2]; simp, by rw [e1]; simp, by rw [e1]; simp, ?_, fun t ht => ?_⟩
 ·rw [hset, splitR, Im.secsOf, raws_fwd _ _ hok' (Nat.le_refl _)]
  have : (67 : U8).val = 67 ∧ (x.val = 79 ∨ x.val = 80) ∧ true = true := ⟨rfl, by rcases hx with rfl | rfl; exact .inl rfl; exact .inr rfl, rfl⟩
  exact if_pos this
 ·rw [List.length_map] at ht
  rw [List.getD_eq_getElem?_getD, List.getElem?_map]
  by_cases h1 : t = L1.length
  ·subst h1
   rw [List.getElem?_append_right (Nat.le_refl _), Nat.sub_self]
   simp only [List.getElem?_cons_zero, Option.map_some, Option.getD_some, decide_true]
   exact dmg_sec hs0 (hs s hsm) e3 hv'
  ·rw [decide_eq_false h1]
   by_cases h2 : t < L1.length
   ·rw [List.getElem?_append_left h2, List.getElem?_eq_getElem h2]
    exact hsec _ (by rw [e1]; exact List.mem_append_left _ (List.getElem_mem _))
   ·rw [List.getElem?_append_right (by omega)]
    rw [List.length_append, List.length_cons] at ht
    obtain ⟨u, hu⟩ : ∃ u, t - L1.length = u + 1 := ⟨t - L1.length - 1, by omega⟩
    rw [hu, List.getElem?_cons_succ, List.getElem?_eq_getElem (by omega)]
    exact hsec _ (by rw [e1]; exact List.mem_append_right _ (.tail _ (List.getElem_mem _)))
end Go.Eng.Bd

set_option linter.unusedVariables false
set_option linter.unusedSimpArgs false
set_option maxRecDepth 10000
namespace Go.Proofs.YtpgnjlngepfanaaGreat
open Go.Eng
open Go.Eng.Fc
open Go.Eng.Bd
open Go.Eng.Im (U8 u8 u8s sumR splitR Sec)
instance : Inhabited Raw := ⟨⟨default, [], []⟩⟩
theorem spotsN_append : ∀ (a b : List Raw) (n : Nat), spotsN n (a ++ b) = spotsN n a ++ spotsN (n + a.length) b
 | [], b, n => rfl
 | s :: r, b, n => by rw [List.cons_append, spotsN, spotsN, spotsN_append r b (n + 1), List.append_assoc, List.length_cons, show n + 1 + r.length = n + (r.length + 1) by omega]
theorem spotsP_take {L : List Raw} {i : Nat} (hi : i < L.length) : spotsP (L.take (i + 1)) = spotsP (L.take i) ++ (List.replicate (1 + (numW (L.getD i default).body.length).length) (-1) ++ List.replicate ((L.getD i default).body.length + 4) (i : Int)) := by
 rw [← take_getD hi, spotsP, spotsN_append, spotsP, List.append_assoc, spotsN, spotsN, spot1, List.append_nil, List.length_take, Nat.min_eq_left (by omega), Nat.zero_add]
def posN (L : List Raw) (i : Nat) : Nat := 2 + ((L.take i).flatMap rawW).length
theorem spotsP_len {L : List Raw} (h : ∀ s ∈ L, s.Ok) (i : Nat) : (spotsP (L.take i)).length = posN L i := by
 rw [spotsP, List.length_append, spotsN_len _ _ (fun s hs => h s (List.mem_of_mem_take hs)), posN]; rfl
theorem pos_next {L : List Raw} {i : Nat} (hi : i < L.length) : posN L (i + 1) = posN L i + (rawW (L.getD i default)).length := by
 rw [posN, posN, ← take_getD hi, List.flatMap_append, List.length_append]; simp; omega
theorem pos_all (L : List Raw) (x : U8) : posN L L.length = (67 :: x :: L.flatMap rawW).length := by rw [posN, List.take_length]; simp; omega
theorem pos_drop {L : List Raw} (x : U8) {i : Nat} (hi : i < L.length) : (67 :: x :: L.flatMap rawW).drop (posN L i) = rawW (L.getD i default) ++ (L.drop (i + 1)).flatMap rawW := by
 have e : L.flatMap rawW = (L.take i).flatMap rawW ++ (rawW (L.getD i default) ++ (L.drop (i + 1)).flatMap rawW) := by
  conv => lhs; rw [← List.take_append_drop i L, drop_getD hi]
  rw [List.flatMap_append, List.flatMap_cons]
 rw [posN, e, show 2 + ((L.take i).flatMap rawW).length = ((L.take i).flatMap rawW).length + 2 by omega, List.drop_succ_cons, List.drop_succ_cons, List.drop_left]
theorem pos_le {L : List Raw} (x : U8) {i : Nat} (hi : i < L.length) : posN L i + (rawW (L.getD i default)).length ≤ (67 :: x :: L.flatMap rawW).length := by
 have h := congrArg List.length (pos_drop x hi)
 rw [List.length_drop, List.length_append] at h
 have := raw_pos (L.getD i default)
 omega
structure NumIn (B : List U8) (p n j size q : Nat) (r : List U8) : Prop where
 jl : j ≤ 2
 ql : q < 128 ^ (3 - j)
 eq : n = size + q * 128 ^ j
 dr : B.drop (p + j) = numW q ++ r
 ln : (numW n).length = j + (numW q).length
theorem NumIn.begin {B : List U8} {p n : Nat} {r : List U8} (hn : n < 128 ^ 3) (h : B.drop p = numW n ++ r) : NumIn B p n 0 0 n r := ⟨by omega, hn, by simp, h, by simp⟩
theorem NumIn.at_ {B : List U8} {p n j size q : Nat} {r : List U8} (h : NumIn B p n j size q r) : p + j < B.length ∧ B.getD (p + j) default = if q < 128 then Im.byteOf q else Im.byteOf (q % 128 + 128) := by
 have hd := h.dr
 have hp := numW_pos q
 have hl := congrArg List.length hd
 rw [List.length_drop, List.length_append] at hl
 refine ⟨by omega, ?_⟩
 have e : B.getD (p + j) default = (B.drop (p + j)).getD 0 default := by
  rw [List.getD_eq_getElem?_getD, List.getD_eq_getElem?_getD, List.getElem?_drop, Nat.add_zero]
 rw [e, hd]
 split
 ·rename_i hq; rw [numW_lt hq]; rfl
 ·rename_i hq; rw [numW_ge hq]; rfl
theorem NumIn.val {B : List U8} {p n j size q : Nat} {r : List U8} (h : NumIn B p n j size q r) : ((B.getD (p + j) default).val < 128 ↔ q < 128) ∧ (B.getD (p + j) default).val % 128 = q % 128 := by
 rw [h.at_.2]
 split
 ·rename_i hq
  show (q % 256 < 128 ↔ q < 128) ∧ q % 256 % 128 = q % 128
  omega
 ·rename_i hq
  show ((q % 128 + 128) % 256 < 128 ↔ q < 128) ∧ (q % 128 + 128) % 256 % 128 = q % 128
  omega
theorem NumIn.step {B : List U8} {p n j size q : Nat} {r : List U8} (h : NumIn B p n j size q r) (hq : ¬ q < 128) : NumIn B p n (j + 1) (size + q % 128 * 128 ^ j) (q / 128) r := by
 have hj : j ≤ 1 := by
  have h1 := h.ql
  have h2 := h.jl
  rcases Nat.lt_or_ge j 2 with h3 | h3
  ·omega
  ·obtain rfl : j = 2 := by omega
   exact absurd h1 (by simp; omega)
 refine ⟨by omega, ?_, ?_, ?_, ?_⟩
 ·have h1 := h.ql
  have : (128 : Nat) ^ (3 - j) = 128 ^ (3 - (j + 1)) * 128 := by rw [← Nat.pow_succ]; congr 1; omega
  omega
 ·rw [h.eq, Nat.add_assoc]
  congr 1
  rw [Nat.pow_succ, show q / 128 * (128 ^ j * 128) = (q / 128 * 128) * 128 ^ j by rw [Nat.mul_assoc, Nat.mul_comm 128]]
  rw [← Nat.add_mul]; congr 1; omega
 ·have hd := h.dr
  rw [numW_ge hq] at hd
  rw [← Nat.add_assoc, ← List.drop_drop, hd]; rfl
 ·rw [h.ln, numW_ge hq, List.length_cons]; omega
theorem rep_one (a : List Int) (x : Int) : AV.ints (a ++ List.replicate (0 + 1) x) = .sl 1 ((a.map fun n => [AV.i n]) ++ [[AV.i x]]) := ints_snoc a x
theorem p128j {j : Nat} (h : j ≤ 2) : 128 ^ j ≤ 16384 := by
 have : j = 0 ∨ j = 1 ∨ j = 2 := by omega
 rcases this with rfl | rfl | rfl <;> decide
theorem rep_snoc (a : List Int) (n : Nat) (x : Int) : AV.ints (a ++ List.replicate (n + 1) x) = .sl 1 (((a ++ List.replicate n x).map fun n => [AV.i n]) ++ [[AV.i x]]) := by
 rw [List.replicate_succ', ← List.append_assoc, ints_snoc]
theorem spotsC {x : U8} {L : List Raw} (hok : ∀ s ∈ L, s.Ok) (hb : ∀ s ∈ L, s.body.length < 128 ^ 3) (hL10 : L.length ≤ 10) (hl : (67 :: x :: L.flatMap rawW).length ≤ 100000) : PCall Tryz.prog 42 [u8s (67 :: x :: L.flatMap rawW)] (AV.ints (spotsP L)) := by
 intro H
 refine ACall.mk' (n := 67) Tryz.func42 rfl (by kernel_rfl) rfl rfl (fun B I w0 => ?_)
 have hall := pos_all L x
 refine S2 ?_; refine Oas ?_; refine S4 ?_
 refine OL.rowOwn rfl rfl rfl rfl (by first | rfl | simp_all [strip]) rfl rfl rfl rfl rfl rfl rfl (fun v9 => ?_)
 refine Oas ?_; refine S5 ?_; refine Oas ?_; refine Oas ?_; refine S3 ?_
 refine lj (fun m st => ∃ (i : Nat) (v : Value), st = ⟨[(5, .i (posN L i)), (4, .i i), (3, .as (AV.ints (spotsP (L.take i))) v), (0, u8s (67 :: x :: L.flatMap rawW))], .own 3 1 v :: H⟩ ∧ m = L.length - i ∧ i ≤ L.length) (⟨0, _, rfl, rfl, by omega⟩) ?_
 rintro m _ ⟨i, v, rfl, rfl, hi⟩
 refine S3 ?_; refine Omv ?_; refine Omv ?_; refine Oln ?_; refine Ocm ?_; refine S2 ?_
 refine CW.cond rfl (fun h0 => ?_) (fun h0 => ?_)
 ·
  replace h0 := nm h0
  have hil : i < L.length := by
   rcases Nat.lt_or_ge i L.length with h | h
   ·exact h
   ·obtain rfl : i = L.length := by omega
    omega
  obtain ⟨s, hs⟩ : ∃ s, s = (L.getD i default) := ⟨_, rfl⟩
  have hsm : s ∈ L := hs ▸ getD_memB hil
  have hsb := hb s hsm
  have hso := (hok s hsm).sl
  have hpd := pos_drop x hil
  have hpl := pos_le x hil
  have hpn := pos_next hil
  rw [← hs] at hpd hpl hpn
  have hrl : (rawW s).length = 1 + (numW s.body.length).length + s.body.length + 4 := by simp only [rawW, List.length_append, List.length_singleton, hso]; omega
  have hd0 : (67 :: x :: L.flatMap rawW).drop (posN L i + 1) = numW s.body.length ++ ((s.body ++ s.sum) ++ (L.drop (i + 1)).flatMap rawW) := by
   rw [← List.drop_drop, hpd, rawW]; simp only [List.append_assoc]; rfl
  refine S6 ?_; refine Oas ?_; refine Oas ?_; refine S4 ?_; refine Omv ?_
  refine OL.popC (x := .sl 1 [[AV.i (-1)]]) rfl rfl rfl (POp.row rfl rfl (by first | rfl | simp_all [strip]) rfl rfl rfl rfl rfl rfl) ?_
  refine OL.appendC rfl rfl rfl rfl rfl rfl rfl rfl (AVle.refl _) (rfl) (fun v => by repeat (first | exact Upd.head _ _ _ | apply Upd.tail)) (by simp only [List.length_map, List.length_append, List.length_replicate, List.length_singleton, spotsP_len hok] at *; omega) (by simp only [List.length_map, List.length_append, List.length_replicate, List.length_singleton, spotsP_len hok] at *; omega) (fun v18 => ?_)
  refine Oas ?_; refine S4 ?_; refine Omv ?_; refine Oar ?_; refine Oas ?_; refine S4 ?_
  refine lj (fun m st => ∃ (j size q : Nat) (v : Value), st = ⟨[(7, .i (128 ^ j : Nat)), (6, .i size), (5, .i (posN L i + 1 + j : Nat)), (4, .i i), (3, .as (AV.ints (spotsP (L.take i) ++ List.replicate (j + 1) (-1))) v), (0, u8s (67 :: x :: L.flatMap rawW))], .own 3 1 v :: H⟩ ∧ m = (numW q).length ∧ NumIn (67 :: x :: L.flatMap rawW) (posN L i + 1) s.body.length j size q ((s.body ++ s.sum) ++ (L.drop (i + 1)).flatMap rawW)) (⟨0, 0, s.body.length, _, by rw [rep_one], rfl, .begin hsb hd0⟩) ?_
  rintro m _ ⟨j, size, q, v, rfl, rfl, hN⟩
  have hat := hN.at_.1
  have hnl := hN.ln
  have hnv := hN.val
  have hjl := hN.jl
  have hql := hN.ql
  have hqe := hN.eq
  have hqp := numW_pos q
  refine S3 ?_; refine Omv ?_; refine Omv ?_; refine Oln ?_; refine Ocm ?_; refine S2 ?_
  refine CW.cond rfl (fun h1 => ?_) (fun h1 => ?_)
  ·
   replace h1 := nm h1
   obtain ⟨c, hc⟩ : ∃ c, c = (67 :: x :: L.flatMap rawW).getD (posN L i + 1 + j) default := ⟨_, rfl⟩
   rw [← hc] at hnv
   have hcl := c.isLt
   have hcl2 := ((67 :: x :: L.flatMap rawW).getD (posN L i + 1 + j) default).isLt
   have hpj := p128j hjl
   have hpj0 : 0 < 128 ^ j := Nat.pow_pos (by decide)
   have hmm : q % 128 * 128 ^ j ≤ 127 * 16384 := Nat.mul_le_mul (by omega) hpj
   have hcm : (c.val : Int).tmod 128 = ((q % 128 : Nat) : Int) := by rw [show (128 : Int) = ((128 : Nat) : Int) from rfl, ← Int.ofNat_tmod, hnv.2]
   have hsz : size ≤ s.body.length := by omega
   refine S5 ?_; refine Omv ?_; refine Omv ?_
   refine OL.popC rfl rfl rfl ((by first | exact POp.ixM rfl rfl rfl rfl rfl hat | exact POp.ixI rfl rfl rfl rfl rfl hat)) ?_
   refine Old ?_
   refine OL.popC rfl rfl rfl (POp.cv rfl rfl rfl (wrap64 (by omega))) ?_
   refine Oas ?_; refine S3 ?_
   rw [← hc]
   refine S1 ?_; refine Omv ?_
   refine OL.popC (x := .sl 1 [[AV.i (-1)]]) rfl rfl rfl (POp.row rfl rfl (by first | rfl | simp_all [strip]) rfl rfl rfl rfl rfl rfl) ?_
   refine OL.appendC rfl rfl rfl rfl rfl rfl rfl rfl (AVle.refl _) (rfl) (fun v => by repeat (first | exact Upd.head _ _ _ | apply Upd.tail)) (by simp only [List.length_map, List.length_append, List.length_replicate, List.length_singleton, spotsP_len hok] at *; omega) (by simp only [List.length_map, List.length_append, List.length_replicate, List.length_singleton, spotsP_len hok] at *; omega) (fun v32 => ?_)
   refine Oas ?_; refine S4 ?_; refine Omv ?_; refine Oar ?_; refine Oas ?_; refine S4 ?_; refine Omv ?_; refine Omv ?_
   refine OL.popC rfl rfl rfl (POp.div rfl rfl rfl rfl rfl (by decide) (.inr ⟨rfl, rfl⟩)) ?_
   refine Omv ?_
   refine OL.popC rfl rfl rfl (POp.arith rfl rfl rfl rfl rfl rfl (wrap64 (by rw [hcm, ← Int.natCast_mul]; omega))) ?_
   refine OL.popC rfl rfl rfl (POp.arith rfl rfl rfl rfl rfl rfl (wrap64 (by rw [hcm, ← Int.natCast_mul]; omega))) ?_
   refine Oas ?_; refine S4 ?_
   refine OL.le 6 (y := .i (size + q % 128 * 128 ^ j : Nat)) rfl (AVle.eqI (by rw [hcm]; simp)) ?_
   refine Omv ?_; refine Oar ?_; refine Oas ?_; refine S4 ?_; refine Omv ?_; refine Ocm ?_; refine Omv ?_; refine Pmv ?_; refine Pcm ?_; refine Opk ?_; refine S2 ?_
   refine CW.cond rfl (fun h2 => ?_) (fun h2 => ?_)
   ·
    have hq : q < 128 := by
     refine Classical.byContradiction fun hq => ?_
     rw [show decide ((c.val : Int) < 128) = false by rw [decide_eq_false_iff_not]; omega] at h2
     have h2 : ((1073741824 : Int) < ((128 ^ j : Nat) : Int) * 128) := by simpa using h2
     omega
    have hq1 : (numW q).length = 1 := by rw [numW_lt hq]; rfl
    have hqz : size + q % 128 * 128 ^ j = s.body.length := by rw [Nat.mod_eq_of_lt hq]; exact hqe.symm
    refine S7 ?_
    refine CW.le 5 (y := .i (posN L i + 1 + (numW s.body.length).length : Nat)) rfl (AVle.eqI (by omega)) ?_
    rw [← rep_snoc, hqz, show j + 1 + 1 = 1 + (numW s.body.length).length by omega]
    refine S1 ?_; refine Omv ?_; refine Omv ?_; refine Oln ?_; refine Ocm ?_; refine S2 ?_
    refine CW.cond rfl (fun h3 => ?_) (fun h3 => ?_)
    ·
     have h3 := of_decide_eq_true h3
     omega
    ·
     replace h3 := nm h3
     refine S5 ?_; refine Omv ?_; refine Oar ?_; refine Omv ?_; refine S3 ?_
     refine lj (fun m st => ∃ (k : Nat) (v : Value), st = ⟨[(55, .i k), (54, .i ((s.body.length : Int) + 4)), (6, .i s.body.length), (5, .i (posN L i + 1 + (numW s.body.length).length : Nat)), (4, .i i), (3, .as (AV.ints (spotsP (L.take i) ++ List.replicate (1 + (numW s.body.length).length) (-1) ++ List.replicate k (i : Int))) v), (0, u8s (67 :: x :: L.flatMap rawW))], .own 3 1 v :: H⟩ ∧ m = s.body.length + 4 - k ∧ k ≤ s.body.length + 4) (⟨0, _, by rw [List.replicate_zero, List.append_nil], rfl, by omega⟩) ?_
     rintro m _ ⟨k, v, rfl, rfl, hk⟩
     refine S2 ?_; refine Ocm ?_; refine S3 ?_
     refine CW.cond rfl (fun h4 => ?_) (fun h4 => ?_)
     ·
      replace h4 := nm h4
      refine S5 ?_; refine Omv ?_; refine Omv ?_
      refine OL.popC (x := .sl 1 [[AV.i i]]) rfl rfl rfl (POp.row rfl rfl (by first | rfl | simp_all [strip]) rfl rfl rfl rfl rfl rfl) ?_
      refine OL.appendC rfl rfl rfl rfl rfl rfl rfl rfl (AVle.refl _) (rfl) (fun v => by repeat (first | exact Upd.head _ _ _ | apply Upd.tail)) (by simp only [List.length_map, List.length_append, List.length_replicate, List.length_singleton, spotsP_len hok] at *; omega) (by simp only [List.length_map, List.length_append, List.length_replicate, List.length_singleton, spotsP_len hok] at *; omega) (fun v60 => ?_)
      refine Oas ?_; refine S4 ?_; refine Oar ?_; refine Omv ?_; refine S1 ?_
      exact ag (⟨k + 1, v60, by rw [rep_snoc], rfl, by omega⟩)
     ·
      replace h4 := nm h4
      obtain rfl : k = s.body.length + 4 := by omega
      refine S6 ?_; refine Omv ?_; refine Omv ?_; refine Oar ?_; refine Oar ?_; refine Oas ?_; refine S3 ?_
      refine CW.le 5 (y := .i (posN L (i + 1))) rfl (AVle.eqI (by omega)) ?_
      rw [show spotsP (L.take i) ++ List.replicate (1 + (numW s.body.length).length) (-1) ++ List.replicate (s.body.length + 4) (i : Int) = spotsP (L.take (i + 1)) by rw [spotsP_take hil, ← hs, List.append_assoc]]
      refine S1 ?_; refine Omv ?_; refine Oar ?_; refine Oas ?_; refine S1 ?_
      exact ag (⟨i + 1, _, rfl, rfl, hil⟩)
   ·
    have hq : ¬ q < 128 := fun hq => by
     rw [show decide ((c.val : Int) < 128) = true by rw [decide_eq_true_eq]; omega] at h2
     cases h2
    have hnd : (numW (q / 128)).length < (numW q).length := by rw [numW_ge hq, List.length_cons]; omega
    refine S2 ?_
    exact ag (⟨j + 1, _, _, v32, by rw [rep_snoc], rfl, hN.step hq⟩)
  ·
   have h1 := of_decide_eq_false h1
   omega
 ·
  replace h0 := nm h0
  obtain rfl : i = L.length := by
   rcases Nat.lt_or_ge i L.length with h | h
   ·have := pos_le x h
    have := raw_pos (L.getD i default)
    omega
   ·omega
  rw [List.take_length]
  refine S7 ?_; refine Omv ?_; refine Oas ?_; refine S3 ?_
  refine Done.retR (rs := [.tmp 2]) (H' := H) rfl (.tmp rfl (.nil)) (.cons (AVle.asL _ _) .nil) (by repeat (first | exact List.Sublist.refl _ | refine List.Sublist.cons _ ?_)) ?_
  exact ⟨by rfl, rfl⟩
end Go.Proofs.YtpgnjlngepfanaaGreat
