/- Part 14 of the proof: contracts of functions of the program and what they need. No condition beyond those that each theorem names. -/
import Derived.Test.YtpgnjlngepfanaaGreatSvP13
import Derived.KernelRfl
set_option linter.unusedVariables false
set_option linter.unusedSimpArgs false
set_option maxRecDepth 10000
set_option maxRecDepth 100000
namespace Go.Proofs.YtpgnjlngepfanaaGreat
open Go.Eng
open Go.Eng.Fc
open Go.Eng.Bd
open Go.Eng.Im (U8 u8 u8s sumR numberR manyR numR_lt splitR Sec)
open Go.Eng.Im (U8 u8 u8s sumR splitR)
def part1R (b : List U8) : Option (List U8 × List U8) := match bodiesR b 80 [3] with
 | some [l] => if 4 ≤ l.length then some (l.take 4, l.drop 4) else none
 | _ => none
theorem one_of {rds : List (Nat × List U8)} {k1 : Int} {b : List U8} {s : U8} (h : bodiesR b s [k1] = some (rds.map (·.2))) : ∃ q1, rds = [q1] ∧ q1.2.length ≤ b.length := by
 obtain ⟨h1, h2⟩ := bodies_len h
 match rds, h1 with
 | [q1], _ => exact ⟨q1, rfl, h2 q1.2 (by simp)⟩
def part2R (p : Prog) (b l : List U8) : Option (List (Int × Int) × List Th) := match listR valR () l with
 | none => none
 | some (roots, _, l1) => match listR (thR p) () l1 with
  | none => none
  | some (more, _, l2) => if l2 = [] ∧ askedP p more roots = true ∧ b = partP p more roots then some (roots, more) else none
theorem part2_no1 {p : Prog} {b l : List U8} (h : listR valR () l = none) : part2R p b l = none := by rw [part2R, h]
theorem part2_no2 {p : Prog} {b l l1 : List U8} {roots : List (Int × Int)} (h : listR valR () l = some (roots, (), l1)) (h2 : listR (thR p) () l1 = none) : part2R p b l = none := by rw [part2R, h]; simp only [h2]
theorem part2_go {p : Prog} {b l l1 l2 : List U8} {roots : List (Int × Int)} {more : List Th} (h : listR valR () l = some (roots, (), l1)) (h2 : listR (thR p) () l1 = some (more, (), l2)) : part2R p b l = if l2 = [] ∧ askedP p more roots = true ∧ b = partP p more roots then some (roots, more) else none := by rw [part2R, h]; simp only [h2]
theorem load1 (b : List U8) (hl : b.length ≤ 1048576) (rv ov : Nat) (X Y : AV) (Hx : List Ent) : ACall Tryz.prog 85 [.ptr [u8s b], .p rv 0, .p ov 0] (.blk ov 30 [X] :: .blk rv 104 [Y] :: Hx) (fun _ H' => ∃ rb own l, part1R b = some (own, l) ∧ H' = rdr rb l :: .blk ov 30 [u8s own] :: .blk rv 104 [.p rb 0] :: Hx) (fun y H' => y = wrongA ∧ part1R b = none ∧ H' = Hx) := by
 refine ACall.mk' (n := 10) Tryz.func85 rfl (by kernel_rfl) rfl rfl (fun B I w0 => ?_)
 refine S2 ?_; refine Old ?_
 refine OL.popC rfl rfl rfl (POp.row rfl rfl (by first | rfl | simp_all [strip]) rfl rfl rfl rfl rfl rfl) ?_
 refine OL.bcall rfl rfl (.mk' rfl rfl rfl rfl rfl) (bodiesC b hl 80 [3] (by decide) _).b ?_ ?_
 ·
  rintro y _ ⟨rds, hb, rfl, rfl⟩
  obtain ⟨q1, rfl, hq1⟩ := one_of hb
  replace hb : bodiesR b 80 [3] = some [q1.2] := hb
  refine OL.popC rfl rfl rfl ((by first | exact POp.ixM rfl rfl rfl rfl rfl (by simp) | exact POp.ixI rfl rfl rfl rfl rfl (by simp))) ?_
  refine Old ?_; refine Sto ?_; refine S2 ?_
  refine CW.eqH (H' := rdr q1.1 q1.2 :: .blk ov 30 [X] :: .blk rv 104 [.p q1.1 0] :: Hx) rfl ?_
  refine S1 ?_; refine Old ?_
  by_cases h4 : 4 ≤ q1.2.length
  ·
   refine OL.rcallS rfl rfl rfl (.mk' rfl rfl rfl rfl rfl) (by have h := q86 q1.2 4 q1.1 (.blk ov 30 [X] :: .blk rv 104 [.p q1.1 0] :: Hx); rwa [if_pos h4] at h) ?_
   refine Sto ?_; refine S1 ?_
   refine Done.norR (rs := []) (H' := rdr q1.1 (q1.2.drop 4) :: .blk ov 30 [u8s (q1.2.take 4)] :: .blk rv 104 [.p q1.1 0] :: Hx) rfl (.nil) (AVleL.refl _) (by repeat (first | exact List.Sublist.refl _ | refine List.Sublist.cons _ ?_)) ?_
   exact ⟨q1.1, _, _, by rw [part1R, hb]; exact if_pos h4, rfl⟩
  ·
   refine OL.rcallN rfl rfl (.mk' rfl rfl rfl rfl rfl) (by have h := q86 q1.2 4 q1.1 (.blk ov 30 [X] :: .blk rv 104 [.p q1.1 0] :: Hx); rwa [if_neg h4] at h) wrong_c ?_
   exact outP (P := Tryz.prog) (fn := Tryz.f85) wrong_c (.cons _ (.cons _ (.refl _))) ⟨rfl, by rw [part1R, hb]; exact if_neg h4, rfl⟩
 ·
  rintro y _ ⟨hb, rfl, rfl⟩ a w st I v hv
  rw [wrong_c.is _ _ _ hv]
  exact outP (P := Tryz.prog) (fn := Tryz.f85) wrong_c (.cons _ (.cons _ (.refl _))) ⟨rfl, by rw [part1R, hb], rfl⟩ a w st
theorem load2 {p : Prog} (hp : p.Small) (b l : List U8) (rb ro mo : Nat) (X Y : AV) (Hx : List Ent) : ACall Tryz.prog 89 [.ptr [.p rb 0], .p ro 0, .ptr (progC p), .p mo 0, .ptr [u8s b]] (rdr rb l :: .blk mo 28 [X] :: .blk ro 29 [Y] :: Hx) (fun _ H' => ∃ roots more, part2R p b l = some (roots, more) ∧ H' = .blk mo 28 [AV.ths more] :: .blk ro 29 [AV.mvs roots] :: Hx) (fun y H' => y = wrongA ∧ part2R p b l = none ∧ H' = Hx) := by
 refine ACall.mk' (n := 33) Tryz.func89 rfl (by kernel_rfl) rfl rfl (fun B I w0 => ?_)
 refine S2 ?_; refine Old ?_; refine Old ?_; refine Omf ?_
 rcases h1 : listR valR () l with _ | ⟨roots, u1, l1⟩
 ·
  refine OL.rcallN rfl rfl (.mk' rfl rfl rfl rfl rfl) (by have h := listV (valOkR (σ := Unit) rb) () l (fun _ _ _ => trivial) (.blk mo 28 [X] :: .blk ro 29 [Y] :: Hx); rwa [h1] at h) wrong_c ?_
  exact outP (P := Tryz.prog) (fn := Tryz.f89) wrong_c (.cons _ (.cons _ (.refl _))) ⟨rfl, part2_no1 h1, rfl⟩
 ·
  obtain rfl : u1 = () := rfl
  refine OL.rcallS rfl rfl rfl (.mk' rfl rfl rfl rfl rfl) (by have h := listV (valOkR (σ := Unit) rb) () l (fun _ _ _ => trivial) (.blk mo 28 [X] :: .blk ro 29 [Y] :: Hx); rwa [h1] at h) ?_
  refine Sto ?_; refine S4 ?_; refine Old ?_; refine Ola ?_
  rcases h2 : listR (thR p) () l1 with _ | ⟨more, u2, l2⟩
  ·
   refine OL.rcallN rfl rfl (.mk' rfl rfl rfl rfl rfl) (by have h := objectsR hp () l1 rb (.blk mo 28 [X] :: .blk ro 29 [AV.mvs roots] :: Hx); rwa [h2] at h) wrong_c ?_
   exact outP (P := Tryz.prog) (fn := Tryz.f89) wrong_c (.cons _ (.cons _ (.refl _))) ⟨rfl, part2_no2 h1 h2, rfl⟩
  ·
   obtain rfl : u2 = () := rfl
   have hv := part2_go (b := b) h1 h2
   refine OL.rcallS rfl rfl rfl (.mk' rfl rfl rfl rfl rfl) (by have h := objectsR hp () l1 rb (.blk mo 28 [X] :: .blk ro 29 [AV.mvs roots] :: Hx); rwa [h2] at h) ?_
   refine Sto ?_; refine S4 ?_; refine Old ?_
   by_cases hl2 : l2 = []
   ·
    subst hl2
    refine OL.rcallS rfl rfl rfl (.mk' rfl rfl rfl rfl rfl) (by have h := doneC (l := []) rb (.blk mo 28 [AV.ths more] :: .blk ro 29 [AV.mvs roots] :: Hx); rwa [if_pos rfl] at h) ?_
    refine S2 ?_
    refine CW.dp mixed ?_
    refine DP.anyC 0 2 33 rfl (by decide +kernel) rfl rfl (by decide +kernel) ?_
    refine Ala ?_; refine Ald ?_
    refine AD.nil ?_
    refine DP.one (k := 2) (by decide +kernel) rfl ?_
    refine OL.popC rfl rfl rfl (POp.call (.mk' rfl rfl rfl rfl rfl) (meanCheck hp more)) ?_
    refine OL.nil (Done.dp ?_)
    refine DP.one (k := 3) (by decide +kernel) rfl ?_
    refine Ocm ?_
    refine OL.nil (Done.dp ?_)
    refine DP.one (k := 4) (by decide +kernel) rfl ?_
    refine Omv ?_
    refine OL.nil (Done.dp ?_)
    refine DP.anyC 5 8 33 rfl (by decide +kernel) rfl rfl (by decide +kernel) ?_
    refine AD.guardC rfl rfl rfl rfl rfl (fun hg => (by first | exact POp.ld1 rfl rfl rfl rfl | (apply POp.ld1H rfl rfl rfl; (case hm => repeat (first | exact .head _ | refine .tail _ ?_)); (case hy => rfl)))) ?_
    refine AD.guardC rfl rfl rfl rfl rfl (fun hg => (by first | exact POp.ld1 rfl rfl rfl rfl | (apply POp.ld1H rfl rfl rfl; (case hm => repeat (first | exact .head _ | refine .tail _ ?_)); (case hy => rfl)))) ?_
    refine AD.guardC rfl rfl rfl rfl rfl (fun hg => (by first | exact POp.lenM rfl rfl (gd hg) | exact POp.lenA rfl rfl (gd hg) | exact POp.lenV rfl rfl (gd hg) | exact POp.len' rfl rfl (gd hg))) ?_
    refine AD.nil ?_
    refine DP.one (k := 8) (by decide +kernel) rfl ?_
    refine OL.guardC rfl rfl rfl rfl rfl rfl (fun hg => POp.call (.mk' rfl rfl rfl rfl (by first | rfl | ((repeat (first | exact hg | rfl | refine Bool.and_eq_true_iff.2 ⟨?_, ?_⟩)); done) | simp_all [strip, constAV])) (rootedC roots more.length)) ?_
    refine OL.nil (Done.dp ?_)
    refine DP.one (k := 9) (by decide +kernel) rfl ?_
    refine Opk ?_
    refine OL.nil (Done.dp ?_)
    refine DP.one (k := 10) (by decide +kernel) rfl ?_
    refine Omv ?_
    refine OL.nil (Done.dp ?_)
    refine DP.anyC 11 16 33 rfl (by decide +kernel) rfl rfl (by decide +kernel) ?_
    refine AD.guardC rfl rfl rfl rfl rfl (fun hg => (by first | exact POp.ld1 rfl rfl rfl rfl | (apply POp.ld1H rfl rfl rfl; (case hm => repeat (first | exact .head _ | refine .tail _ ?_)); (case hy => rfl)))) ?_
    refine AD.guardC rfl rfl rfl rfl rfl (fun hg => (by first | exact POp.ldA rfl rfl rfl rfl | (apply POp.ldAH rfl rfl rfl; (case hm => repeat (first | exact .head _ | refine .tail _ ?_)); (case hy => rfl); (case hn => rfl)))) ?_
    refine AD.guardC rfl rfl rfl rfl rfl (fun hg => (by first | exact POp.ld1 rfl rfl rfl rfl | (apply POp.ld1H rfl rfl rfl; (case hm => repeat (first | exact .head _ | refine .tail _ ?_)); (case hy => rfl)))) ?_
    refine AD.guardC rfl rfl rfl rfl rfl (fun hg => (by first | exact POp.ld1 rfl rfl rfl rfl | (apply POp.ld1H rfl rfl rfl; (case hm => repeat (first | exact .head _ | refine .tail _ ?_)); (case hy => rfl)))) ?_
    refine AD.guardC rfl rfl rfl rfl rfl (fun hg => POp.call (.mk' rfl rfl rfl rfl (by first | rfl | ((repeat (first | exact hg | rfl | refine Bool.and_eq_true_iff.2 ⟨?_, ?_⟩)); done) | simp_all [strip, constAV])) (partedC (ask_ok (by rw [asked_eq] at hg; exact hg)))) ?_
    refine AD.nil ?_
    refine DP.tailC 16 (by decide +kernel) rfl ?_
    refine OL.guardC rfl rfl rfl rfl rfl rfl (fun hg => POp.call (.mk' rfl rfl rfl rfl (by first | rfl | ((repeat (first | exact hg | rfl | refine Bool.and_eq_true_iff.2 ⟨?_, ?_⟩)); done) | simp_all [strip, constAV])) (eqBytes _ _)) ?_
    refine Opk ?_
    by_cases hq : askedP p more roots = true ∧ b = partP p more roots
    ·
     refine OL.rcallS rfl rfl rfl (.mk' rfl rfl rfl rfl rfl) (q71t (by rw [asked_eq, hq.1, Bool.cond_true, beq_iff_eq]; exact hq.2) _) ?_
     refine S1 ?_
     refine Done.norR (rs := []) (H' := .blk mo 28 [AV.ths more] :: .blk ro 29 [AV.mvs roots] :: Hx) rfl (.nil) (AVleL.refl _) (by repeat (first | exact List.Sublist.refl _ | refine List.Sublist.cons _ ?_)) ?_
     exact ⟨roots, more, by rw [hv]; exact if_pos ⟨rfl, hq⟩, rfl⟩
    ·
     refine OL.rcallN rfl rfl (.mk' rfl rfl rfl rfl rfl) (q71f (by rw [asked_eq, Bool.cond_false_right, Bool.and_eq_false_iff, beq_eq_false_iff_ne]; rcases Classical.not_and_iff_not_or_not.1 hq with h | h; exact .inl (by simpa using h); exact .inr h) _) wrong_c ?_
     exact outP (P := Tryz.prog) (fn := Tryz.f89) wrong_c (.cons _ (.cons _ (.refl _))) ⟨rfl, by rw [hv]; exact if_neg (fun h => hq h.2), rfl⟩
   ·
    refine OL.rcallN rfl rfl (.mk' rfl rfl rfl rfl rfl) (by have h := doneC (l := l2) rb (.blk mo 28 [AV.ths more] :: .blk ro 29 [AV.mvs roots] :: Hx); rwa [if_neg hl2] at h) wrong_c ?_
    exact outP (P := Tryz.prog) (fn := Tryz.f89) wrong_c (.cons _ (.cons _ (.refl _))) ⟨rfl, by rw [hv]; exact if_neg (fun h => hl2 h.1), rfl⟩
theorem load3 (objs : List Th) (hl : objs.length ≤ 40) {n : Int} (hn : okZ n) : PCall Tryz.prog 93 [.i n, .ptr [AV.ths objs]] (.i (n + objs.length)) := by
 intro H
 refine ACall.mk' (n := 8) Tryz.func93 rfl (by kernel_rfl) rfl rfl (fun B I w0 => ?_)
 unfold okZ at hn
 refine S2 ?_; refine Oas ?_; refine S4 ?_; refine Omv ?_; refine Old ?_; refine Oln ?_; refine Oar ?_; refine Oas ?_; refine S3 ?_
 refine r1 3 (H) ?_
 exact ⟨by first | rfl | exact retI (by simp_all) | exact retB (by simp_all) | simp_all, rfl⟩
def shiftT (k : Int) (t : Th) : Th := ⟨t.cls, t.slots.map (move1 (· + k))⟩
inductive LoadE where
 | arg | text | rule | long
 | ok (objs : List Th) (roots : List (Int × Int))
def loadR (p : Prog) (objs : List Th) (b : List U8) : LoadE := if checkP p objs then (match part1R b with
 | none => .text
 | some (own, l) => if own = sumR 1 (progW p) then (match part2R p b l with
  | none => .text
  | some (roots, more) => if objs.length + more.length ≤ 40 then .ok (objs ++ more.map (shiftT objs.length)) (roots.map (move1 (· + (objs.length : Int)))) else .long) else .rule) else .arg
def loadA : LoadE → AV
 | .arg => .tup [AV.ths [], AV.mvs [], .i 2]
 | .text => .tup [AV.ths [], AV.mvs [], .i 4]
 | .rule => .tup [AV.ths [], AV.mvs [], .i 7]
 | .long => .tup [AV.ths [], AV.mvs [], .i 3]
 | .ok objs roots => .tup [AV.ths objs, AV.mvs roots, .i 0]
theorem behind_ok {objs : List Th} (hl : objs.length ≤ 40) : NumOk Tryz.prog [] (.fn (.func 93) [] [.ptr [AV.ths objs]]) (· + (objs.length : Int)) okZ := fun B H _ n hn => VCall.fn (load3 objs hl hn H)
theorem okZ_of {n : Nat} (hn : n ≤ 1000000) {v : Int × Int} (h : valueP n v = true) : okZ v.2 := by have := valueP_key hn h; unfold okZ; omega
theorem ths_snoc (o : List Th) (x : Th) : AV.ths (o ++ [x]) = .sl 2 ((o.map thA) ++ [thA x]) := by
 show AV.sl 2 (List.map _ (_ ++ _)) = _
 rw [List.map_append]; rfl
theorem part2_ok {p : Prog} {b l : List U8} {roots : List (Int × Int)} {more : List Th} (h : part2R p b l = some (roots, more)) : askedP p more roots = true := by
 unfold part2R at h
 split at h
 ·cases h
 ·split at h
  ·cases h
  ·split at h
   ·rename_i h1; cases h; exact h1.2.1
   ·cases h
theorem cloneV (l : List (Int × Int)) (hl : l.length ≤ 4000000) : PCall Tryz.prog 94 [AV.mvs l] (AV.mvs l) := by
 intro H
 refine ACall.mk' (n := 8) Tryz.func94 rfl (by kernel_rfl) rfl rfl (fun B I w0 => ?_)
 refine S2 ?_; refine Oas ?_; refine S5 ?_; refine Omv ?_
 refine OL.isNilC rfl rfl rfl rfl rfl rfl rfl (AVle.refl _) rfl rfl (fun n4 hn4 => ?_)
 refine S2 ?_
 refine CW.cond rfl (fun h0 => ?_) (fun h0 => ?_)
 ·
  replace h0 := nm h0
  refine S2 ?_; refine Oas ?_; refine S4 ?_
  refine Done.retR (rs := [.tmp 2]) (H' := H) rfl (.tmp rfl (.nil)) (.cons (AVle.nil 2) .nil) (by repeat (first | exact List.Sublist.refl _ | refine List.Sublist.cons _ ?_)) ?_
  exact ⟨by show AV.sl 2 [] = AV.sl 2 _; rw [hn4 h0], rfl⟩
 ·
  replace h0 := nm h0
  refine S4 ?_; refine Or0 ?_; refine Omv ?_
  refine OL.popC rfl rfl rfl (POp.appendI rfl rfl rfl (AVle.refl _) rfl rfl (AVle.refl _) (one_mvs l) (by simp; omega) (by simp; omega)) ?_
  refine Oas ?_; refine S3 ?_
  refine r1 2 (H) ?_
  exact ⟨by first | rfl | exact retI (by simp_all) | exact retB (by simp_all) | simp_all, rfl⟩
theorem load_text1 {p : Prog} {objs : List Th} {b : List U8} (hc : checkP p objs = true) (h : part1R b = none) : loadR p objs b = .text := by rw [loadR, if_pos hc, h]
theorem load_rule {p : Prog} {objs : List Th} {b own l : List U8} (hc : checkP p objs = true) (h : part1R b = some (own, l)) (h2 : ¬ own = sumR 1 (progW p)) : loadR p objs b = .rule := by rw [loadR, if_pos hc, h]; exact if_neg h2
theorem load_on {p : Prog} {objs : List Th} {b own l : List U8} (hc : checkP p objs = true) (h : part1R b = some (own, l)) (h2 : own = sumR 1 (progW p)) : loadR p objs b = match part2R p b l with
  | none => .text
  | some (roots, more) => if objs.length + more.length ≤ 40 then .ok (objs ++ more.map (shiftT objs.length)) (roots.map (move1 (· + (objs.length : Int)))) else .long := by rw [loadR, if_pos hc, h]; exact if_pos h2
theorem loadC {p : Prog} (hp : p.Small) (objs : List Th) (b : List U8) (hl : b.length ≤ 1048576) : PCall Tryz.prog 30 [AV.prog p, AV.ths objs, u8s b] (loadA (loadR p objs b)) := by
 intro H
 refine ACall.mk' (n := 85) Tryz.func30 rfl (by kernel_rfl) rfl rfl (fun B I w0 => ?_)
 refine S2 ?_; refine Obx ?_; refine Obx ?_; refine Obx ?_; refine Oas ?_; refine Oas ?_; refine Oas ?_; refine S5 ?_; refine Ola ?_; refine Old ?_
 refine OL.popC rfl rfl rfl (POp.call (.mk' rfl rfl rfl rfl rfl) (meanCheck hp objs)) ?_
 refine Ocm ?_; refine S2 ?_
 refine CW.cond rfl (fun h0 => ?_) (fun h0 => ?_)
 ·
  have hc : checkP p objs = false := by cases h : checkP p objs <;> simp_all
  refine S2 ?_; refine Oas ?_; refine Oas ?_; refine Oas ?_; refine S4 ?_
  refine Done.retR (rs := [.tmp 6, .tmp 7, .tmp 8]) (H' := H) rfl (.tmp rfl (.tmp rfl (.tmp rfl (.nil)))) (.cons (AVle.nil 2) (.cons (AVle.nil 2) (.cons (.refl _) .nil))) (by repeat (first | exact List.Sublist.refl _ | refine List.Sublist.cons _ ?_)) ?_
  exact ⟨by rw [loadR, if_neg (by rw [hc]; simp)]; rfl, rfl⟩
 ·
  have hc : checkP p objs = true := by cases h : checkP p objs <;> simp_all
  obtain ⟨hok, hol, hos⟩ := ok_of hc
  refine S4 ?_
  refine OL.alC rfl rfl rfl rfl (fun rv => ?_)
  refine S4 ?_
  refine OL.alC rfl rfl rfl rfl (fun ov => ?_)
  refine S4 ?_; refine Omf ?_
  refine OL.bcallC rfl rfl rfl (.mk' rfl rfl rfl rfl rfl) (tryC (H := .blk ov 30 [nilA] :: .blk rv 104 [.val (.pointer none)] :: H) (A := fun H1 => ∃ rb own l, part1R b = some (own, l) ∧ H1 = rdr rb l :: .blk ov 30 [u8s own] :: .blk rv 104 [.p rb 0] :: H) (Bp := fun Hf => part1R b = none ∧ Hf = H) (fun B Hy => VCall.fn (ACall.weak (load1 b hl rv ov nilA (.val (.pointer none)) (H ++ Hy)) (fun y H' => ?_) (fun y H' => ?_)))).b ?_
  ·rintro ⟨rb, own, l, h1, rfl⟩
   exact ⟨_, rfl, rb, own, l, h1, rfl⟩
  ·rintro ⟨rfl, h1, rfl⟩
   exact ⟨rfl, _, rfl, h1, rfl⟩
  rintro y H1 (⟨rfl, rb, own, l, hr, rfl⟩ | ⟨rfl, hr, hH⟩)
  ·
   refine Oas ?_; refine S6 ?_; refine Omv ?_; refine Ont ?_; refine Oas ?_; refine S2 ?_
   refine CW.cond rfl (fun h1 => ?_) (fun h1 => ?_)
   ·
    cases h1
   ·
    refine S1 ?_
    refine CW.dp mixed ?_
    refine DP.anyC 0 3 85 rfl (by decide +kernel) rfl rfl (by decide +kernel) ?_
    refine Ald ?_; refine Ala ?_
    refine AD.popC rfl rfl rfl (POp.call (.mk' rfl rfl rfl rfl rfl) (keyC hok)) ?_
    refine AD.nil ?_
    refine DP.tailC 3 (by decide +kernel) rfl ?_
    refine OL.popC rfl rfl rfl (POp.call (.mk' rfl rfl rfl rfl rfl) (eqBytes _ _)) ?_
    refine Ont ?_; refine Oas ?_; refine S2 ?_
    refine CW.cond rfl (fun h2 => ?_) (fun h2 => ?_)
    ·
     have hne : ¬ own = sumR 1 (progW p) := by simpa using h2
     refine S2 ?_; refine Oas ?_; refine Oas ?_; refine Oas ?_; refine S5 ?_
     refine Done.retR (rs := [.tmp 6, .tmp 7, .tmp 8]) (H' := H) rfl (.tmp rfl (.tmp rfl (.tmp rfl (.nil)))) (.cons (AVle.nil 2) (.cons (AVle.nil 2) (.cons (.refl _) .nil))) (by repeat (first | exact List.Sublist.refl _ | refine List.Sublist.cons _ ?_)) ?_
     exact ⟨by rw [load_rule hc hr hne]; rfl, rfl⟩
    ·
     have heq : own = sumR 1 (progW p) := by simpa using h2
     have hv := load_on hc hr heq
     refine S5 ?_
     refine OL.alC rfl rfl rfl rfl (fun ro => ?_)
     refine S4 ?_
     refine OL.alC rfl rfl rfl rfl (fun mo => ?_)
     refine S3 ?_
     refine CW.freezeP (d := 9) rfl (by repeat (first | exact Del.head _ _ | apply Del.tail)) ?_
     refine CW.perm (List.perm_append_comm_assoc [_, _] [_] _) ?_
     refine S1 ?_; refine Omf ?_
     refine OL.bcallC rfl rfl rfl (.mk' rfl rfl rfl rfl rfl) (tryC (H := rdr rb l :: .blk mo 28 [nilA] :: .blk ro 29 [nilA] :: .blk ov 30 [u8s own] :: H) (A := fun H1 => ∃ roots more, part2R p b l = some (roots, more) ∧ H1 = .blk mo 28 [AV.ths more] :: .blk ro 29 [AV.mvs roots] :: .blk ov 30 [u8s own] :: H) (Bp := fun Hf => part2R p b l = none ∧ Hf = .blk ov 30 [u8s own] :: H) (fun B Hy => VCall.fn (ACall.weak (load2 hp b l rb ro mo nilA nilA (.blk ov 30 [u8s own] :: H ++ Hy)) (fun y H' => ?_) (fun y H' => ?_)))).b ?_
     ·rintro ⟨roots, more, h1, rfl⟩
      exact ⟨_, rfl, roots, more, h1, rfl⟩
     ·rintro ⟨rfl, h1, rfl⟩
      exact ⟨rfl, _, rfl, h1, rfl⟩
     rintro y H1 (⟨rfl, roots, more, h2, rfl⟩ | ⟨rfl, h2, rfl⟩)
     ·
      rw [h2] at hv
      dsimp only at hv
      have hak := part2_ok h2
      obtain ⟨hml, hrl, hrv, hmv⟩ := asked_parts hak
      have hmo := (ask_ok hak).po.os
      refine Oas ?_; refine S6 ?_; refine Omv ?_; refine Ont ?_; refine Oas ?_; refine S2 ?_
      refine CW.cond rfl (fun h3 => ?_) (fun h3 => ?_)
      ·
       cases h3
      ·
       refine S2 ?_; refine Old ?_; refine Oln ?_; refine Old ?_; refine Oln ?_; refine Oar ?_; refine Ocm ?_; refine Oas ?_; refine S2 ?_
       refine CW.cond rfl (fun h4 => ?_) (fun h4 => ?_)
       ·
        have h40 : ¬ objs.length + more.length ≤ 40 := by simp at h4; omega
        refine S2 ?_; refine Oas ?_; refine Oas ?_; refine Oas ?_; refine S5 ?_
        refine Done.retR (rs := [.tmp 6, .tmp 7, .tmp 8]) (H' := H) rfl (.tmp rfl (.tmp rfl (.tmp rfl (.nil)))) (.cons (AVle.nil 2) (.cons (AVle.nil 2) (.cons (.refl _) .nil))) (by repeat (first | exact List.Sublist.refl _ | refine List.Sublist.cons _ ?_)) ?_
        exact ⟨by rw [hv, if_neg h40]; rfl, rfl⟩
       ·
        have h40 : objs.length + more.length ≤ 40 := by simp at h4; omega
        rw [if_pos h40] at hv
        refine S5 ?_; refine Omf ?_; refine Oas ?_; refine S4 ?_; refine Oas ?_; refine S5 ?_; refine Old ?_; refine Oln ?_; refine Omv ?_; refine S3 ?_
        refine CW.ownNil 15 65 2 rfl ?_
        refine lj (fun m st => ∃ (i : Nat) (v : Value), st = ⟨[(50, .i i), (49, .i objs.length), (48, AV.ths objs), (15, .as (AV.ths (objs.take i)) v), (14, .fn (.func 93) [] [.ptr [AV.ths objs]]), (13, .p mo 0), (12, .p ro 0)], .own 65 2 v :: .blk mo 28 [AV.ths more] :: .blk ro 29 [AV.mvs roots] :: .blk ov 30 [u8s own] :: H⟩ ∧ m = objs.length - i ∧ i ≤ objs.length) (⟨0, _, rfl, rfl, by omega⟩) ?_
        rintro m _ ⟨i, v, rfl, rfl, hi⟩
        refine S2 ?_; refine Ocm ?_; refine S3 ?_
        refine CW.cond rfl (fun h5 => ?_) (fun h5 => ?_)
        ·
         replace h5 := nm h5
         have hil : i < objs.length := by omega
         obtain ⟨X, hX⟩ : ∃ X, X = objs.getD i default := ⟨_, rfl⟩
         have hXv := (hos X (hX ▸ getD_memB hil)).vl
         refine S6 ?_
         refine OL.popC rfl rfl rfl ((by first | exact POp.ixM rfl rfl rfl rfl rfl hil | exact POp.ixI rfl rfl rfl rfl rfl hil)) ?_
         refine Ola ?_
         refine OL.alC rfl rfl rfl rfl (fun b4 => ?_)
         refine Sto ?_; refine S2 ?_
         rw [← hX]
         refine CW.freezeP (d := 17) rfl (by repeat (first | exact Del.head _ _ | apply Del.tail)) ?_
         refine CW.dp mixed ?_
         refine DP.anyC 0 8 85 rfl (by decide +kernel) rfl rfl (by decide +kernel) ?_
         refine Amv ?_; refine Afa ?_; refine Ald ?_; refine Afa ?_; refine Ald ?_
         refine AD.popC rfl rfl rfl (POp.call (.mk' rfl rfl rfl rfl rfl) (cloneV X.slots (by omega))) ?_
         refine Abd ?_
         refine AD.popC rfl rfl rfl (POp.le (x := .sl 2 [thA X]) (POp.row rfl rfl (by first | rfl | simp_all [strip]) rfl rfl rfl rfl rfl rfl) (AVle.refl _)) ?_
         refine AD.nil ?_
         refine DP.tailC 8 (by decide +kernel) rfl ?_
         refine OL.appendC rfl rfl rfl rfl rfl rfl rfl rfl (AVle.refl _) (rfl) (fun v => by repeat (first | exact Upd.head _ _ _ | apply Upd.tail)) (by simp only [List.length_map, List.length_append, List.length_take, List.length_singleton]; omega) (by simp only [List.length_map, List.length_append, List.length_take, List.length_singleton]; omega) (fun v62 => ?_)
         refine Oas ?_; refine S4 ?_; refine Oar ?_; refine Omv ?_; refine S1 ?_
         exact ag (⟨i + 1, v62, by rw [← take_getD hil, ths_snoc, ← hX], rfl, hil⟩)
        ·
         replace h5 := nm h5
         obtain rfl : i = objs.length := by omega
         rw [List.take_length]
         refine S8 ?_; refine Old ?_; refine Oln ?_; refine Omv ?_; refine S3 ?_
         refine lj (fun m st => ∃ (i : Nat) (v : Value), st = ⟨[(66, .i i), (65, .i more.length), (64, AV.ths more), (15, .as (AV.ths (objs ++ (more.take i).map (shiftT objs.length))) v), (14, .fn (.func 93) [] [.ptr [AV.ths objs]]), (12, .p ro 0)], .own 65 2 v :: .blk mo 28 [AV.ths more] :: .blk ro 29 [AV.mvs roots] :: .blk ov 30 [u8s own] :: H⟩ ∧ m = more.length - i ∧ i ≤ more.length) (⟨0, v, by rw [List.take_zero, List.map_nil, List.append_nil], rfl, by omega⟩) ?_
         rintro m _ ⟨i, v, rfl, rfl, hi⟩
         refine S2 ?_; refine Ocm ?_; refine S3 ?_
         refine CW.cond rfl (fun h6 => ?_) (fun h6 => ?_)
         ·
          replace h6 := nm h6
          have hil : i < more.length := by omega
          obtain ⟨X, hX⟩ : ∃ X, X = more.getD i default := ⟨_, rfl⟩
          have hXm : X ∈ more := hX ▸ getD_memB hil
          have hXv := (hmo X hXm).vl
          refine S6 ?_
          refine OL.popC rfl rfl rfl ((by first | exact POp.ixM rfl rfl rfl rfl rfl hil | exact POp.ixI rfl rfl rfl rfl rfl hil)) ?_
          refine Ola ?_
          refine OL.alC rfl rfl rfl rfl (fun b5 => ?_)
          refine Sto ?_; refine S2 ?_
          rw [← hX]
          refine CW.freezeP (d := 19) rfl (by repeat (first | exact Del.head _ _ | apply Del.tail)) ?_
          refine CW.dp mixed ?_
          refine DP.anyC 0 9 85 rfl (by decide +kernel) rfl rfl (by decide +kernel) ?_
          refine Amv ?_; refine Afa ?_; refine Ald ?_; refine Afa ?_; refine Ald ?_; refine Amv ?_
          refine AD.popC rfl rfl rfl (POp.call (.mk' rfl rfl rfl rfl rfl) ((movedC (Hm := []) (l := X.slots) (behind_ok hol) (fun v hv _ => okZ_of (by omega) (List.all_eq_true.1 (hmv X hXm) v hv)) (by omega)).pure)) ?_
          refine Abd ?_
          refine AD.popC rfl rfl rfl (POp.le (x := .sl 2 [thA (shiftT objs.length X)]) (POp.row rfl rfl (by first | rfl | simp_all [strip]) rfl rfl rfl rfl rfl rfl) (AVle.refl _)) ?_
          refine AD.nil ?_
          refine DP.tailC 9 (by decide +kernel) rfl ?_
          refine OL.appendC rfl rfl rfl rfl rfl rfl rfl rfl (AVle.refl _) (rfl) (fun v => by repeat (first | exact Upd.head _ _ _ | apply Upd.tail)) (by simp only [List.length_map, List.length_append, List.length_take, List.length_singleton]; omega) (by simp only [List.length_map, List.length_append, List.length_take, List.length_singleton]; omega) (fun v79 => ?_)
          refine Oas ?_; refine S4 ?_; refine Oar ?_; refine Omv ?_; refine S1 ?_
          exact ag (⟨i + 1, v79, by rw [map_take1 _ hil, ← List.append_assoc, ths_snoc, ← hX], rfl, hil⟩)
         ·
          replace h6 := nm h6
          obtain rfl : i = more.length := by omega
          rw [List.take_length]
          refine S7 ?_; refine Omv ?_; refine Old ?_; refine Omv ?_
          refine OL.popC rfl rfl rfl (POp.call (.mk' rfl rfl rfl rfl rfl) ((movedC (Hm := []) (l := roots) (behind_ok hol) (fun v hv _ => okZ_of (by omega) (List.all_eq_true.1 (hrv) v hv)) (by omega)).pure)) ?_
          refine Oas ?_; refine Oas ?_; refine Oas ?_; refine S3 ?_
          refine Done.retR (rs := [.tmp 6, .tmp 7, .tmp 8]) (H' := H) rfl (.tmp rfl (.tmp rfl (.tmp rfl (.nil)))) (.cons (AVle.asL _ _) (.cons (.refl _) (.cons (.refl _) .nil))) (by repeat (first | exact List.Sublist.refl _ | refine List.Sublist.cons _ ?_)) ?_
          exact ⟨by rw [hv]; rfl, rfl⟩
     ·
      refine Oas ?_; refine S6 ?_; refine Omv ?_; refine Ont ?_; refine Oas ?_; refine S2 ?_
      refine CW.cond rfl (fun h7 => ?_) (fun h7 => ?_)
      ·
       refine S2 ?_; refine Oas ?_; refine Oas ?_; refine Oas ?_; refine S5 ?_
       refine Done.retR (rs := [.tmp 6, .tmp 7, .tmp 8]) (H' := H) rfl (.tmp rfl (.tmp rfl (.tmp rfl (.nil)))) (.cons (AVle.nil 2) (.cons (AVle.nil 2) (.cons (.refl _) .nil))) (by repeat (first | exact List.Sublist.refl _ | refine List.Sublist.cons _ ?_)) ?_
       exact ⟨by rw [hv, h2]; rfl, rfl⟩
      ·
       cases h7
  ·
   obtain rfl := hH.symm
   refine Oas ?_; refine S6 ?_; refine Omv ?_; refine Ont ?_; refine Oas ?_; refine S2 ?_
   refine CW.cond rfl (fun h8 => ?_) (fun h8 => ?_)
   ·
    refine S2 ?_; refine Oas ?_; refine Oas ?_; refine Oas ?_; refine S5 ?_
    refine Done.retR (rs := [.tmp 6, .tmp 7, .tmp 8]) (H' := H) rfl (.tmp rfl (.tmp rfl (.tmp rfl (.nil)))) (.cons (AVle.nil 2) (.cons (AVle.nil 2) (.cons (.refl _) .nil))) (by repeat (first | exact List.Sublist.refl _ | refine List.Sublist.cons _ ?_)) ?_
    exact ⟨by rw [load_text1 hc hr]; rfl, rfl⟩
   ·
    cases h8
def P0 : Prog := ⟨[⟨[], [0], [(0, 5)]⟩], 1, [], [], [⟨2, 0, []⟩], 0⟩
def O0 : List Th := [⟨3, [(2, 0)]⟩, ⟨3, [(3, 0)]⟩]
def B0 : List U8 := [67, 79, 1, 11, 1, 0, 1, 1, 0, 10, 0, 0, 1, 2, 0, 0, 119, 0, 18, 2, 6, 2, 3, 2, 3, 3, 0, 0, 71, 0, 16]
def B9 : List U8 := [67, 79, 1, 11, 1, 0, 1, 1, 0, 9, 0, 0, 1, 2, 0, 0, 119, 0, 18, 2, 6, 2, 3, 2, 3, 3, 0, 0, 71, 0, 16]
def T0 : List U8 := [67, 80, 3, 13, 0, 119, 0, 18, 1, 3, 0, 2, 3, 3, 1, 3, 2]
theorem k1 : checkP P0 O0 = true := by kernel_rfl
theorem k2 : imageP P0 O0 = B0 := by kernel_rfl
def K0 : List U8 := [67, 80, 3, 13, 0, 119, 0, 18, 1, 3, 0, 2, 3, 3, 1, 3, 2, 6, 211, 0, 159]
def O4 : List Th := [⟨3, [(2, 0)]⟩, ⟨3, [(3, 0)]⟩, ⟨3, [(3, 3)]⟩, ⟨3, [(2, 0)]⟩]
theorem k3 : partP P0 O0 [(3, 1)] = K0 := by kernel_rfl
theorem k5 : askedP P0 O0 [(3, 1)] = true := by kernel_rfl
theorem k6 : reachP O0 [(3, 1)] = [1, 0] := by kernel_rfl
theorem k7 : readR B9 = none := by kernel_rfl
theorem k8 : loadR P0 O0 K0 = .ok O4 [(3, 2)] := by kernel_rfl
theorem k9 : askedP P0 O0 [(3, 0)] = true := by kernel_rfl
theorem k10 : alikeP P0 O0 [(3, 0)] O0 [(3, 1)] = false := by kernel_rfl
theorem k11 : sectA B0 = .tup [AV.ints [1, 2], AV.ints [], .i 0] := by kernel_rfl
theorem k12 : sectA B9 = .tup [AV.ints [1, 2], AV.ints [0], .i 0] := by kernel_rfl
theorem small0 : P0.Small := ⟨by decide, fun c hc => by
 have : c = ⟨[], [0], [(0, 5)]⟩ := by simpa [P0] using hc
 subst this; decide⟩
theorem noneV : PCall Tryz.prog 57 [] (AV.mv (2, 0)) := by
 intro H
 refine ACall.mk' (n := 2) Tryz.func57 rfl (by kernel_rfl) rfl rfl (fun B I w0 => ?_)
 refine S2 ?_
 refine OL.alC rfl rfl rfl rfl (fun b0 => ?_)
 refine S4 ?_; refine Obd ?_; refine Sto ?_; refine S3 ?_
 refine Done.retR (rs := [.cell 0 60]) (H' := H) rfl ((by first | exact .cellA inferInstance rfl (by repeat (first | exact .head _ | refine .tail _ ?_)) rfl rfl (.nil) | exact .ptrA inferInstance rfl rfl (.nil))) (AVleL.refl _) (by repeat (first | exact List.Sublist.refl _ | refine List.Sublist.cons _ ?_)) ?_
 exact ⟨by rfl, rfl⟩
theorem progK : PCall Tryz.prog 46 [] (AV.prog P0) := by
 intro H
 refine ACall.mk' (n := 9) Tryz.func46 rfl (by kernel_rfl) rfl rfl (fun B I w0 => ?_)
 refine S2 ?_
 refine OL.alC rfl rfl rfl rfl (fun b0 => ?_)
 refine S4 ?_
 refine OL.popC rfl rfl rfl (POp.row rfl rfl (by first | rfl | simp_all [strip]) rfl rfl rfl rfl rfl rfl) ?_
 refine Obd ?_
 refine OL.popC rfl rfl rfl (POp.row rfl rfl (by first | rfl | simp_all [strip]) rfl rfl rfl rfl rfl rfl) ?_
 refine Obd ?_
 refine OL.le 4 (y := AV.cls ⟨[], [0], [(0, 5)]⟩) rfl (AVle.agg (.cons (AVle.nil 1) (.cons (.refl _) (.cons (.refl _) .nil)))) ?_
 refine OL.popC rfl rfl rfl (POp.row rfl rfl (by first | rfl | simp_all [strip]) rfl rfl rfl rfl rfl rfl) ?_
 refine Obd ?_
 refine OL.le 6 (y := AV.nd ⟨2, 0, []⟩) rfl (AVle.agg (.cons (.refl _) (.cons (.refl _) (.cons (AVle.nil 1) .nil)))) ?_
 refine OL.popC rfl rfl rfl (POp.row rfl rfl (by first | rfl | simp_all [strip]) rfl rfl rfl rfl rfl rfl) ?_
 refine Obd ?_
 refine OL.le 8 (y := AV.prog P0) rfl (AVle.agg (.cons (.refl _) (.cons (.refl _) (.cons (AVle.nil 1) (.cons (AVle.nil 9) (.cons (.refl _) (.cons (.refl _) .nil))))))) ?_
 refine Sto ?_; refine S3 ?_
 refine Done.retR (rs := [.cell 0 27]) (H' := H) rfl ((by first | exact .cellA inferInstance rfl (by repeat (first | exact .head _ | refine .tail _ ?_)) rfl rfl (.nil) | exact .ptrA inferInstance rfl rfl (.nil))) (AVleL.refl _) (by repeat (first | exact List.Sublist.refl _ | refine List.Sublist.cons _ ?_)) ?_
 exact ⟨by rfl, rfl⟩
theorem objsK : PCall Tryz.prog 47 [] (AV.ths O0) := by
 intro H
 refine ACall.mk' (n := 8) Tryz.func47 rfl (by kernel_rfl) rfl rfl (fun B I w0 => ?_)
 refine S2 ?_; refine Oas ?_; refine S4 ?_
 refine OL.popC rfl rfl rfl (POp.call (.mk' rfl rfl rfl rfl rfl) ((noneV ))) ?_
 refine OL.popC rfl rfl rfl (POp.row rfl rfl (by first | rfl | simp_all [strip]) rfl rfl rfl rfl rfl rfl) ?_
 refine Obd ?_
 refine OL.popC rfl rfl rfl (POp.call (.mk' rfl rfl rfl rfl rfl) ((objI _))) ?_
 refine OL.popC rfl rfl rfl (POp.row rfl rfl (by first | rfl | simp_all [strip]) rfl rfl rfl rfl rfl rfl) ?_
 refine Obd ?_
 refine OL.popC rfl rfl rfl (POp.row rfl rfl (by first | rfl | simp_all [strip]) rfl rfl rfl rfl rfl rfl) ?_
 refine Oas ?_; refine S3 ?_
 refine r1 0 (H) ?_
 exact ⟨by rfl, rfl⟩
theorem bytesK : PCall Tryz.prog 48 [] (u8s B0) := by
 intro H
 refine ACall.mk' (n := 2) Tryz.func48 rfl (by kernel_rfl) rfl rfl (fun B I w0 => ?_)
 refine S2 ?_; refine Oas ?_; refine S4 ?_
 refine OL.popC rfl rfl rfl (POp.row rfl rfl (by first | rfl | simp_all [strip]) rfl rfl rfl rfl rfl rfl) ?_
 refine Oas ?_; refine S3 ?_
 refine r1 0 (H) ?_
 exact ⟨by rfl, rfl⟩
theorem bytesB (H : List Ent) : ACall Tryz.prog 48 [] H (fun y H' => ∃ b, y = .val (.slice (some ⟨b, 0, none⟩) 31 31) ∧ H' = .blk b 5 (B0.map fun x => u8 x) :: H) (fun _ _ => False) := by
 refine ACall.mk' (n := 2) Tryz.func48 rfl (by kernel_rfl) rfl rfl (fun B I w0 => ?_)
 refine S2 ?_; refine Oas ?_; refine S4 ?_
 refine OL.rowBlk (B0.map fun x => [u8 x]) rfl rfl rfl rfl rfl rfl rfl rfl rfl (fun b => ?_)
 refine Oas ?_; refine S3 ?_
 refine r1 0 (.blk b 5 (B0.map fun x => u8 x) :: H) ?_
 exact ⟨b, rfl, rfl⟩
theorem sameB (l r : List U8) : PCall Tryz.prog 17 [u8s l, u8s r] (.b (l == r)) := by
 intro H
 refine ACall.mk' (n := 10) Tryz.func17 rfl (by kernel_rfl) rfl rfl (fun B I w0 => ?_)
 refine S2 ?_; refine Oas ?_; refine S4 ?_; refine Omv ?_
 refine OL.popC rfl rfl rfl (POp.bytesStr (ns := l.map fun x => (x.val : Int)) rfl (by rw [List.map_map]; rfl) rfl (by kernel_rfl)) ?_
 refine Omv ?_
 refine OL.popC rfl rfl rfl (POp.bytesStr (ns := r.map fun x => (x.val : Int)) rfl (by rw [List.map_map]; rfl) rfl (by kernel_rfl)) ?_
 refine OL.popC rfl rfl rfl (POp.eqS rfl rfl rfl rfl rfl) ?_
 refine Oas ?_; refine S3 ?_
 refine r1 4 (H) ?_
 exact ⟨retB (strOf_eq l r), rfl⟩
theorem same_take {α : Type} [Inhabited α] {a b : List α} (hl : a.length = b.length) {i : Nat} (hi : i < a.length) (h : a.take i = b.take i) (hx : a.getD i default = b.getD i default) : a.take (i + 1) = b.take (i + 1) := by
 rw [← take_getD hi, ← take_getD (by omega), h, hx]
theorem same_no {α : Type} [BEq α] [LawfulBEq α] [Inhabited α] {a b : List α} {i : Nat} (hx : a.getD i default ≠ b.getD i default) : (a == b) = false := by
 rw [beq_eq_false_iff_ne]; rintro rfl; exact hx rfl
theorem same_len {α : Type} [BEq α] [LawfulBEq α] {a b : List α} (h : a.length ≠ b.length) : (a == b) = false := by
 rw [beq_eq_false_iff_ne]; rintro rfl; exact h rfl
theorem ne2 (x y : Int × Int) : ([x.1, x.2] != [y.1, y.2]) = (x != y) := by rw [bne, bne, eq2]
theorem sameI (a b : List Int) : PCall Tryz.prog 25 [AV.ints a, AV.ints b] (.b (a == b)) := by
 intro H
 refine ACall.mk' (n := 26) Tryz.func25 rfl (by kernel_rfl) rfl rfl (fun B I w0 => ?_)
 refine CW.boundM (t := 0) rfl (fun hb0 => ?_)
 refine S2 ?_; refine Oas ?_; refine S5 ?_; refine Omv ?_; refine Oln ?_; refine Omv ?_; refine Oln ?_; refine Ocm ?_; refine S2 ?_
 refine CW.cond rfl (fun h0 => ?_) (fun h0 => ?_)
 ·
  replace h0 := nm h0
  have hne : a.length ≠ b.length := by omega
  refine S2 ?_; refine Oas ?_; refine S4 ?_
  refine r1 4 (H) ?_
  exact ⟨retB (same_len hne).symm, rfl⟩
 ·
  replace h0 := nm h0
  have hl : a.length = b.length := by omega
  refine S5 ?_; refine Omv ?_; refine Oln ?_; refine Omv ?_; refine S3 ?_
  refine lj (fun m st => ∃ i : Nat, st = ⟨[(13, .i i), (12, .i a.length), (0, AV.ints a), (1, AV.ints b)], H⟩ ∧ m = a.length - i ∧ i ≤ a.length ∧ a.take i = b.take i) (⟨0, rfl, rfl, by omega, by simp⟩) ?_
  rintro m _ ⟨i, rfl, rfl, hi, ht⟩
  refine S2 ?_; refine Ocm ?_; refine S3 ?_
  refine CW.cond rfl (fun h1 => ?_) (fun h1 => ?_)
  ·
   replace h1 := nm h1
   have hil : i < a.length := by omega
   refine S6 ?_; refine Omv ?_; refine Oas ?_; refine S3 ?_
   refine CW.dp mixed ?_
   refine DP.anyC 0 8 26 rfl (by decide +kernel) rfl rfl (by decide +kernel) ?_
   refine Amv ?_; refine Amv ?_
   refine AD.popC rfl rfl rfl ((by first | exact POp.ixM rfl rfl rfl rfl rfl hil | exact POp.ixI rfl rfl rfl rfl rfl hil)) ?_
   refine Ald ?_; refine Amv ?_; refine Amv ?_; refine Aix ?_; refine Ald ?_
   refine AD.nil ?_
   refine DP.tailC 8 (by decide +kernel) rfl ?_
   refine Ocm ?_; refine S2 ?_
   refine CW.cond rfl (fun h2 => ?_) (fun h2 => ?_)
   ·
    replace h2 := nm h2
    have hx : a.getD i default ≠ b.getD i default := h2
    refine S2 ?_; refine Oas ?_; refine S8 ?_
    refine r1 4 (H) ?_
    exact ⟨retB (same_no hx).symm, rfl⟩
   ·
    replace h2 := nm h2
    have hx : a.getD i default = b.getD i default := h2
    refine S4 ?_; refine Oar ?_; refine Omv ?_; refine S1 ?_
    exact ag (⟨i + 1, rfl, rfl, hil, same_take hl hil ht hx⟩)
  ·
   replace h1 := nm h1
   refine S7 ?_; refine Oas ?_; refine S3 ?_
   refine r1 4 (H) ?_
   exact ⟨retB (by symm; rw [beq_iff_eq]; have e : i = a.length := (by omega); subst e; rw [List.take_length] at ht; rw [ht, hl, List.take_length]), rfl⟩
theorem sameV (a b : List (Int × Int)) : PCall Tryz.prog 32 [AV.mvs a, AV.mvs b] (.b (a == b)) := by
 intro H
 refine ACall.mk' (n := 26) Tryz.func32 rfl (by kernel_rfl) rfl rfl (fun B I w0 => ?_)
 refine CW.boundM (t := 0) rfl (fun hb0 => ?_)
 refine S2 ?_; refine Oas ?_; refine S5 ?_; refine Omv ?_; refine Oln ?_; refine Omv ?_; refine Oln ?_; refine Ocm ?_; refine S2 ?_
 refine CW.cond rfl (fun h0 => ?_) (fun h0 => ?_)
 ·
  replace h0 := nm h0
  have hne : a.length ≠ b.length := by omega
  refine S2 ?_; refine Oas ?_; refine S4 ?_
  refine r1 4 (H) ?_
  exact ⟨retB (same_len hne).symm, rfl⟩
 ·
  replace h0 := nm h0
  have hl : a.length = b.length := by omega
  refine S5 ?_; refine Oas ?_; refine S3 ?_
  refine lj (fun m st => ∃ i : Nat, st = ⟨[(5, .i i), (0, AV.mvs a), (1, AV.mvs b)], H⟩ ∧ m = a.length - i ∧ i ≤ a.length ∧ a.take i = b.take i) (⟨0, rfl, rfl, by omega, by simp⟩) ?_
  rintro m _ ⟨i, rfl, rfl, hi, ht⟩
  refine S3 ?_; refine Omv ?_; refine Omv ?_; refine Oln ?_; refine Ocm ?_; refine S2 ?_
  refine CW.cond rfl (fun h1 => ?_) (fun h1 => ?_)
  ·
   replace h1 := nm h1
   have hil : i < a.length := by omega
   refine S5 ?_
   refine CW.dp mixed ?_
   refine DP.anyC 0 8 26 rfl (by decide +kernel) rfl rfl (by decide +kernel) ?_
   refine Amv ?_; refine Amv ?_
   refine AD.popC rfl rfl rfl ((by first | exact POp.ixM rfl rfl rfl rfl rfl hil | exact POp.ixI rfl rfl rfl rfl rfl hil)) ?_
   refine Ala ?_; refine Amv ?_; refine Amv ?_; refine Aix ?_; refine Ala ?_
   refine AD.nil ?_
   refine DP.tailC 8 (by decide +kernel) rfl ?_
   refine OL.popC rfl rfl rfl (POp.neI [(a.getD i default).1, (a.getD i default).2] [(b.getD i default).1, (b.getD i default).2] rfl rfl rfl rfl rfl rfl rfl) ?_
   refine S2 ?_
   refine CW.cond rfl (fun h2 => ?_) (fun h2 => ?_)
   ·
    rw [ne2] at h2
    have hx : a.getD i default ≠ b.getD i default := by simpa using h2
    refine S2 ?_; refine Oas ?_; refine S8 ?_
    refine r1 4 (H) ?_
    exact ⟨retB (same_no hx).symm, rfl⟩
   ·
    rw [ne2] at h2
    have hx : a.getD i default = b.getD i default := by simpa using h2
    refine S4 ?_; refine Omv ?_; refine Oar ?_; refine Oas ?_; refine S1 ?_
    exact ag (⟨i + 1, rfl, rfl, hil, same_take hl hil ht hx⟩)
  ·
   replace h1 := nm h1
   refine S7 ?_; refine Oas ?_; refine S3 ?_
   refine r1 4 (H) ?_
   exact ⟨retB (by symm; rw [beq_iff_eq]; have e : i = a.length := (by omega); subst e; rw [List.take_length] at ht; rw [ht, hl, List.take_length]), rfl⟩
theorem okG0 : okG P0 O0 := by obtain ⟨h1, h2, h3⟩ := ok_of k1; exact ⟨h1, h2, h3⟩
theorem imageK : PCall Tryz.prog 15 [AV.prog P0, AV.ths O0] (.tup [u8s B0, .i 0]) := by
 have h := imageC small0 O0 (fun _ => okG0)
 rwa [imageQ, k1, if_pos rfl, if_pos rfl, k2] at h
theorem sectK : PCall Tryz.prog 23 [u8s B0] (.tup [AV.ints [1, 2], AV.ints [], .i 0]) := by
 have h := q23 B0 (by decide)
 rwa [k11] at h
theorem sect9K : PCall Tryz.prog 23 [u8s B9] (.tup [AV.ints [1, 2], AV.ints [0], .i 0]) := by
 have h := q23 B9 (by decide)
 rwa [k12] at h
theorem readK : PCall Tryz.prog 19 [u8s B9] (.tup [AV.prog noProg, AV.ths [], .i 4]) := by
 have h := readC B9 (by decide)
 rwa [readA, k7] at h
theorem reachK : PCall Tryz.prog 26 [AV.prog P0, AV.ths O0, AV.mvs [(3, 1)]] (.tup [AV.ints [1, 0], .i 0]) := by
 have h := reachI small0 O0 [(3, 1)]
 rwa [reachQ, k5, if_pos rfl, if_pos rfl, k6] at h
theorem partK : PCall Tryz.prog 27 [AV.prog P0, AV.ths O0, AV.mvs [(3, 1)]] (.tup [u8s K0, .i 0]) := by
 have h := partC small0 O0 [(3, 1)]
 rwa [partQ, k5, if_pos rfl, if_pos rfl, k3] at h
theorem loadK : PCall Tryz.prog 30 [AV.prog P0, AV.ths O0, u8s K0] (.tup [AV.ths O4, AV.mvs [(3, 2)], .i 0]) := by
 have h := loadC small0 O0 K0 (by decide)
 rwa [k8] at h
theorem alikeK : PCall Tryz.prog 33 [AV.prog P0, AV.ths O0, AV.mvs [(3, 0)], AV.ths O0, AV.mvs [(3, 1)]] (.tup [.b false, .i 0]) := by
 have h := alikeC small0 O0 [(3, 0)] O0 [(3, 1)]
 rwa [k10, k9, k5] at h
theorem knownC : PCall Tryz.prog 18 [] (.b true) := by
 intro H
 refine ACall.mk' (n := 187) Tryz.func18 rfl (by kernel_rfl) rfl rfl (fun B I w0 => ?_)
 refine S2 ?_; refine Oas ?_; refine S4 ?_
 refine OL.popC rfl rfl rfl (POp.call (.mk' rfl rfl rfl rfl rfl) (progK)) ?_
 refine OL.popC rfl rfl rfl (POp.call (.mk' rfl rfl rfl rfl rfl) (objsK)) ?_
 refine OL.popC rfl rfl rfl (POp.call (.mk' rfl rfl rfl rfl rfl) (imageK)) ?_
 refine Omv ?_; refine Oex ?_; refine Oex ?_; refine Oas ?_; refine Oas ?_; refine S4 ?_
 refine OL.popC rfl rfl rfl (POp.call (.mk' rfl rfl rfl rfl rfl) (bytesK)) ?_
 refine OL.popC rfl rfl rfl (POp.call (.mk' rfl rfl rfl rfl rfl) (sectK)) ?_
 refine Omv ?_; refine Oex ?_; refine Oex ?_; refine Oex ?_; refine Oas ?_; refine Oas ?_; refine Oas ?_; refine S5 ?_; refine Omv ?_; refine Ocm ?_; refine Omv ?_; refine Pmv ?_
 refine Pcm ?_; refine Opk ?_; refine Omv ?_; refine Pmv ?_
 refine OL.guardC rfl rfl rfl rfl rfl rfl (fun hg => POp.call (.mk' rfl rfl rfl rfl rfl) (bytesK)) ?_
 refine OL.guardC rfl rfl rfl rfl rfl rfl (fun hg => POp.call (.mk' rfl rfl rfl rfl (by first | rfl | ((repeat (first | exact hg | rfl | refine Bool.and_eq_true_iff.2 ⟨?_, ?_⟩)); done) | simp_all [strip, constAV])) (sameB B0 B0)) ?_
 refine Pnt ?_; refine Opk ?_; refine Omv ?_; refine Pmv ?_; refine Pln ?_; refine Pcm ?_; refine Opk ?_; refine Omv ?_; refine Pmv ?_; refine Pln ?_; refine Pcm ?_; refine Opk ?_
 refine Omv ?_; refine Pmv ?_
 refine OL.guardC rfl rfl rfl rfl rfl rfl (fun hg => (by first | exact POp.ixM rfl rfl (gd hg) rfl rfl (by decide) | exact POp.ixI rfl rfl (gd hg) rfl rfl (by decide))) ?_
 refine Pld ?_; refine Pcm ?_; refine Opk ?_; refine Omv ?_; refine Pmv ?_
 refine OL.guardC rfl rfl rfl rfl rfl rfl (fun hg => (by first | exact POp.ixM rfl rfl (gd hg) rfl rfl (by decide) | exact POp.ixI rfl rfl (gd hg) rfl rfl (by decide))) ?_
 refine Pld ?_; refine Pcm ?_; refine Opk ?_; refine S2 ?_
 refine CW.cond rfl (fun h0 => ?_) (fun h0 => ?_)
 ·
  exact absurd h0 (by decide +kernel)
 ·
  refine S4 ?_
  refine OL.bcallC rfl rfl rfl (.mk' rfl rfl rfl rfl rfl) ((bytesB H).b) ?_
  rintro y _ ⟨bb, rfl, rfl⟩
  refine Oas ?_; refine S4 ?_; refine Omv ?_
  refine OL.popC rfl rfl rfl (POp.ixC rfl rfl rfl rfl rfl (by omega)) ?_
  refine Sto ?_; refine S3 ?_
  refine CW.eqH (H' := .blk bb 5 ((B9.map fun x => [u8 x]).flatten ++ []) :: H) rfl ?_
  refine CW.freezeS (k := 1) (d := 1) rfl (.head _ _) rfl (fun e he => by obtain ⟨y, _, rfl⟩ := List.mem_map.1 he; rfl) (Nat.le_refl _) (by simp only [maxLen]; omega) ?_
  refine CW.le 1 (y := u8s B9) rfl (AVle.refl _) ?_
  refine S1 ?_; refine Omv ?_
  refine OL.popC rfl rfl rfl (POp.call (.mk' rfl rfl rfl rfl rfl) (sect9K)) ?_
  refine Omv ?_; refine Oex ?_; refine Oex ?_; refine Oex ?_; refine Oas ?_; refine Oas ?_; refine S4 ?_; refine Omv ?_
  refine OL.popC rfl rfl rfl (POp.call (.mk' rfl rfl rfl rfl rfl) (readK)) ?_
  refine Omv ?_; refine Oex ?_; refine Oex ?_; refine Oex ?_; refine Oas ?_; refine S4 ?_
  refine OL.popC rfl rfl rfl (POp.call (.mk' rfl rfl rfl rfl rfl) (progK)) ?_
  refine OL.popC rfl rfl rfl (POp.call (.mk' rfl rfl rfl rfl rfl) (objsK)) ?_
  refine OL.popC rfl rfl rfl (POp.call (.mk' rfl rfl rfl rfl rfl) (objI 1)) ?_
  refine OL.popC rfl rfl rfl (POp.le (x := AV.mvs [(3, 1)]) (POp.row rfl rfl (by first | rfl | simp_all [strip]) rfl rfl rfl rfl rfl rfl) (AVle.refl _)) ?_
  refine OL.popC rfl rfl rfl (POp.call (.mk' rfl rfl rfl rfl rfl) (reachK)) ?_
  refine Omv ?_; refine Oex ?_; refine Oex ?_; refine Oas ?_; refine Oas ?_; refine S4 ?_
  refine OL.popC rfl rfl rfl (POp.call (.mk' rfl rfl rfl rfl rfl) (progK)) ?_
  refine OL.popC rfl rfl rfl (POp.call (.mk' rfl rfl rfl rfl rfl) (objsK)) ?_
  refine OL.popC rfl rfl rfl (POp.call (.mk' rfl rfl rfl rfl rfl) (objI 1)) ?_
  refine OL.popC rfl rfl rfl (POp.le (x := AV.mvs [(3, 1)]) (POp.row rfl rfl (by first | rfl | simp_all [strip]) rfl rfl rfl rfl rfl rfl) (AVle.refl _)) ?_
  refine OL.popC rfl rfl rfl (POp.call (.mk' rfl rfl rfl rfl rfl) (partK)) ?_
  refine Omv ?_; refine Oex ?_; refine Oex ?_; refine Oas ?_; refine Oas ?_; refine S5 ?_; refine Omv ?_; refine Ocm ?_; refine Omv ?_; refine Pmv ?_; refine Pcm ?_; refine Opk ?_
  refine Omv ?_; refine Pmv ?_; refine Pcm ?_; refine Opk ?_; refine Omv ?_; refine Pmv ?_; refine Pcm ?_; refine Opk ?_; refine Omv ?_; refine Pmv ?_
  refine OL.guardC rfl rfl rfl rfl rfl rfl (fun hg => POp.row rfl rfl (by first | rfl | simp_all [strip]) rfl rfl rfl rfl rfl rfl) ?_
  refine OL.guardC rfl rfl rfl rfl rfl rfl (fun hg => POp.call (.mk' rfl rfl rfl rfl (by first | rfl | ((repeat (first | exact hg | rfl | refine Bool.and_eq_true_iff.2 ⟨?_, ?_⟩)); done) | simp_all [strip, constAV])) (sameI [0] [0])) ?_
  refine Pnt ?_; refine Opk ?_; refine Omv ?_; refine Pmv ?_
  refine OL.guardC rfl rfl rfl rfl rfl rfl (fun hg => POp.row rfl rfl (by first | rfl | simp_all [strip]) rfl rfl rfl rfl rfl rfl) ?_
  refine OL.guardC rfl rfl rfl rfl rfl rfl (fun hg => POp.call (.mk' rfl rfl rfl rfl (by first | rfl | ((repeat (first | exact hg | rfl | refine Bool.and_eq_true_iff.2 ⟨?_, ?_⟩)); done) | simp_all [strip, constAV])) (sameI [1, 0] [1, 0])) ?_
  refine Pnt ?_; refine Opk ?_; refine Omv ?_; refine Pmv ?_; refine Pln ?_; refine Pcm ?_; refine Opk ?_; refine S2 ?_
  refine CW.cond rfl (fun h1 => ?_) (fun h1 => ?_)
  ·
   exact absurd h1 (by decide +kernel)
  ·
   refine S4 ?_
   refine OL.popC rfl rfl rfl (POp.row rfl rfl (by first | rfl | simp_all [strip]) rfl rfl rfl rfl rfl rfl) ?_
   refine Oas ?_; refine S4 ?_
   refine OL.popC rfl rfl rfl (POp.call (.mk' rfl rfl rfl rfl rfl) (progK)) ?_
   refine OL.popC rfl rfl rfl (POp.call (.mk' rfl rfl rfl rfl rfl) (objsK)) ?_
   refine Omv ?_
   refine OL.popC rfl rfl rfl (POp.call (.mk' rfl rfl rfl rfl rfl) (loadK)) ?_
   refine Omv ?_; refine Oex ?_; refine Oex ?_; refine Oex ?_; refine Oas ?_; refine Oas ?_; refine Oas ?_; refine S4 ?_
   refine OL.popC rfl rfl rfl (POp.call (.mk' rfl rfl rfl rfl rfl) (progK)) ?_
   refine OL.popC rfl rfl rfl (POp.call (.mk' rfl rfl rfl rfl rfl) (objsK)) ?_
   refine OL.popC rfl rfl rfl (POp.call (.mk' rfl rfl rfl rfl rfl) (objI 0)) ?_
   refine OL.popC rfl rfl rfl (POp.le (x := AV.mvs [(3, 0)]) (POp.row rfl rfl (by first | rfl | simp_all [strip]) rfl rfl rfl rfl rfl rfl) (AVle.refl _)) ?_
   refine OL.popC rfl rfl rfl (POp.call (.mk' rfl rfl rfl rfl rfl) (objsK)) ?_
   refine OL.popC rfl rfl rfl (POp.call (.mk' rfl rfl rfl rfl rfl) (objI 1)) ?_
   refine OL.popC rfl rfl rfl (POp.le (x := AV.mvs [(3, 1)]) (POp.row rfl rfl (by first | rfl | simp_all [strip]) rfl rfl rfl rfl rfl rfl) (AVle.refl _)) ?_
   refine OL.popC rfl rfl rfl (POp.call (.mk' rfl rfl rfl rfl rfl) (alikeK)) ?_
   refine Omv ?_; refine Oex ?_; refine Oex ?_; refine Oas ?_; refine Oas ?_; refine S3 ?_
   refine CW.dp mixed ?_
   refine DP.one (k := 0) (by decide +kernel) rfl ?_
   refine Omv ?_
   refine OL.nil (Done.dp ?_)
   refine DP.one (k := 1) (by decide +kernel) rfl ?_
   refine Ocm ?_
   refine OL.nil (Done.dp ?_)
   refine DP.one (k := 2) (by decide +kernel) rfl ?_
   refine Omv ?_
   refine OL.nil (Done.dp ?_)
   refine DP.one (k := 3) (by decide +kernel) rfl ?_
   refine Pmv ?_
   refine OL.nil (Done.dp ?_)
   refine DP.one (k := 4) (by decide +kernel) rfl ?_
   refine Pcm ?_
   refine OL.nil (Done.dp ?_)
   refine DP.one (k := 5) (by decide +kernel) rfl ?_
   refine Opk ?_
   refine OL.nil (Done.dp ?_)
   refine DP.one (k := 6) (by decide +kernel) rfl ?_
   refine Omv ?_
   refine OL.nil (Done.dp ?_)
   refine DP.anyC 7 10 187 rfl (by decide +kernel) rfl rfl (by decide +kernel) ?_
   refine AD.guardC rfl rfl rfl rfl rfl (fun hg => POp.move rfl rfl rfl) ?_
   refine AD.guardC rfl rfl rfl rfl rfl (fun hg => POp.slTo rfl rfl (by first | rfl | exact hg | simp_all) rfl (by first | rfl | exact hg | simp_all) (by decide)) ?_
   refine AD.guardC rfl rfl rfl rfl rfl (fun hg => POp.move rfl rfl rfl) ?_
   refine AD.nil ?_
   refine DP.one (k := 10) (by decide +kernel) rfl ?_
   refine OL.guardC rfl rfl rfl rfl rfl rfl (fun hg => POp.call (.mk' rfl rfl rfl rfl (by first | rfl | ((repeat (first | exact hg | rfl | refine Bool.and_eq_true_iff.2 ⟨?_, ?_⟩)); done) | simp_all [strip, constAV])) (sameB T0 T0)) ?_
   refine OL.nil (Done.dp ?_)
   refine DP.one (k := 11) (by decide +kernel) rfl ?_
   refine Opk ?_
   refine OL.nil (Done.dp ?_)
   refine DP.one (k := 12) (by decide +kernel) rfl ?_
   refine Omv ?_
   refine OL.nil (Done.dp ?_)
   refine DP.one (k := 13) (by decide +kernel) rfl ?_
   refine Pmv ?_
   refine OL.nil (Done.dp ?_)
   refine DP.one (k := 14) (by decide +kernel) rfl ?_
   refine Pln ?_
   refine OL.nil (Done.dp ?_)
   refine DP.one (k := 15) (by decide +kernel) rfl ?_
   refine Pcm ?_
   refine OL.nil (Done.dp ?_)
   refine DP.one (k := 16) (by decide +kernel) rfl ?_
   refine Opk ?_
   refine OL.nil (Done.dp ?_)
   refine DP.one (k := 17) (by decide +kernel) rfl ?_
   refine Omv ?_
   refine OL.nil (Done.dp ?_)
   refine DP.anyC 18 24 187 rfl (by decide +kernel) rfl rfl (by decide +kernel) ?_
   refine AD.guardC rfl rfl rfl rfl rfl (fun hg => POp.move rfl rfl rfl) ?_
   refine AD.guardC rfl rfl rfl rfl rfl (fun hg => (by first | exact POp.ixM rfl rfl (gd hg) rfl rfl (by decide) | exact POp.ixI rfl rfl (gd hg) rfl rfl (by decide))) ?_
   refine AD.guardC rfl rfl rfl rfl rfl (fun hg => (by first | exact POp.fa rfl rfl (gd hg) rfl | exact POp.faP rfl rfl (gd hg) rfl)) ?_
   refine AD.guardC rfl rfl rfl rfl rfl (fun hg => (by first | exact POp.ld1 rfl rfl (gd hg) rfl | (apply POp.ld1H rfl rfl (gd hg); (case hm => repeat (first | exact .head _ | refine .tail _ ?_)); (case hy => rfl)))) ?_
   refine AD.guardC rfl rfl rfl rfl rfl (fun hg => POp.call (.mk' rfl rfl rfl rfl rfl) (objI 3)) ?_
   refine AD.guardC rfl rfl rfl rfl rfl (fun hg => POp.row rfl rfl (by first | rfl | simp_all [strip]) rfl rfl rfl rfl rfl rfl) ?_
   refine AD.nil ?_
   refine DP.one (k := 24) (by decide +kernel) rfl ?_
   refine OL.guardC rfl rfl rfl rfl rfl rfl (fun hg => POp.call (.mk' rfl rfl rfl rfl (by first | rfl | ((repeat (first | exact hg | rfl | refine Bool.and_eq_true_iff.2 ⟨?_, ?_⟩)); done) | simp_all [strip, constAV])) (sameV [(3, 3)] [(3, 3)])) ?_
   refine OL.nil (Done.dp ?_)
   refine DP.one (k := 25) (by decide +kernel) rfl ?_
   refine Opk ?_
   refine OL.nil (Done.dp ?_)
   refine DP.one (k := 26) (by decide +kernel) rfl ?_
   refine Omv ?_
   refine OL.nil (Done.dp ?_)
   refine DP.anyC 27 33 187 rfl (by decide +kernel) rfl rfl (by decide +kernel) ?_
   refine AD.guardC rfl rfl rfl rfl rfl (fun hg => POp.move rfl rfl rfl) ?_
   refine AD.guardC rfl rfl rfl rfl rfl (fun hg => (by first | exact POp.ixM rfl rfl (gd hg) rfl rfl (by decide) | exact POp.ixI rfl rfl (gd hg) rfl rfl (by decide))) ?_
   refine AD.guardC rfl rfl rfl rfl rfl (fun hg => (by first | exact POp.fa rfl rfl (gd hg) rfl | exact POp.faP rfl rfl (gd hg) rfl)) ?_
   refine AD.guardC rfl rfl rfl rfl rfl (fun hg => (by first | exact POp.ld1 rfl rfl (gd hg) rfl | (apply POp.ld1H rfl rfl (gd hg); (case hm => repeat (first | exact .head _ | refine .tail _ ?_)); (case hy => rfl)))) ?_
   refine AD.guardC rfl rfl rfl rfl rfl (fun hg => POp.call (.mk' rfl rfl rfl rfl rfl) (noneV)) ?_
   refine AD.guardC rfl rfl rfl rfl rfl (fun hg => POp.row rfl rfl (by first | rfl | simp_all [strip]) rfl rfl rfl rfl rfl rfl) ?_
   refine AD.nil ?_
   refine DP.one (k := 33) (by decide +kernel) rfl ?_
   refine OL.guardC rfl rfl rfl rfl rfl rfl (fun hg => POp.call (.mk' rfl rfl rfl rfl (by first | rfl | ((repeat (first | exact hg | rfl | refine Bool.and_eq_true_iff.2 ⟨?_, ?_⟩)); done) | simp_all [strip, constAV])) (sameV [(2, 0)] [(2, 0)])) ?_
   refine OL.nil (Done.dp ?_)
   refine DP.one (k := 34) (by decide +kernel) rfl ?_
   refine Opk ?_
   refine OL.nil (Done.dp ?_)
   refine DP.one (k := 35) (by decide +kernel) rfl ?_
   refine Omv ?_
   refine OL.nil (Done.dp ?_)
   refine DP.anyC 36 39 187 rfl (by decide +kernel) rfl rfl (by decide +kernel) ?_
   refine AD.guardC rfl rfl rfl rfl rfl (fun hg => POp.move rfl rfl rfl) ?_
   refine AD.guardC rfl rfl rfl rfl rfl (fun hg => POp.call (.mk' rfl rfl rfl rfl rfl) (objI 2)) ?_
   refine AD.guardC rfl rfl rfl rfl rfl (fun hg => POp.row rfl rfl (by first | rfl | simp_all [strip]) rfl rfl rfl rfl rfl rfl) ?_
   refine AD.nil ?_
   refine DP.tailC 39 (by decide +kernel) rfl ?_
   refine OL.guardC rfl rfl rfl rfl rfl rfl (fun hg => POp.call (.mk' rfl rfl rfl rfl (by first | rfl | ((repeat (first | exact hg | rfl | refine Bool.and_eq_true_iff.2 ⟨?_, ?_⟩)); done) | simp_all [strip, constAV])) (sameV [(3, 2)] [(3, 2)])) ?_
   refine Opk ?_; refine Omv ?_; refine Pmv ?_; refine Pnt ?_; refine Opk ?_; refine Oas ?_; refine S3 ?_
   refine r1 0 (H) ?_
   exact ⟨retB (by decide +kernel), rfl⟩
end Go.Proofs.YtpgnjlngepfanaaGreat

set_option linter.unusedVariables false
namespace Go.Eng.Bd
open Go.Eng.Fc
open Go.Eng.Im (U8 numberR manyR sumR splitR Sec)
theorem thenR_inv {σ α β : Type} {R : Rd σ α} {k : α → Rd σ β} {s s' : σ} {l l' : List U8} {x : β} (h : thenR R k s l = some (x, s', l')) : ∃ a s1 l1, R s l = some (a, s1, l1) ∧ k a s1 l1 = some (x, s', l') := by
 unfold thenR at h
 split at h
 ·cases h
 ·rename_i a s1 l1 h1; exact ⟨a, s1, l1, h1, h⟩
theorem byte_val (x : U8) : Im.byteOf x.val = x := by
 apply Fin.ext
 show x.val % 256 = x.val
 have := x.isLt
 omega
theorem numR_inv0 : ∀ (g : Nat) (first : Bool) (l : List U8) (n : Nat) (r : List U8), Im.numR g first l = some (n, r) → l = numW n ++ r ∧ (first = false → 0 < n)
 | 0, _, _, _, _, h => by simp [Im.numR] at h
 | g + 1, first, [], n, r, h => by simp [Im.numR] at h
 | g + 1, first, x :: l, n, r, h => by
  rw [Im.numR] at h
  split at h
  ·rename_i hx
   split at h
   ·rename_i hf
    cases h
    refine ⟨by rw [numW_lt hx, byte_val]; rfl, fun hff => ?_⟩
    rw [hff] at hf
    simpa using hf
   ·cases h
  ·rename_i hx
   split at h
   ·rename_i m r' hm
    cases h
    obtain ⟨h1, h2⟩ := numR_inv0 g false l m r hm
    have h2 := h2 rfl
    have hxl := x.isLt
    have hge : ¬ x.val - 128 + 128 * m < 128 := by omega
    refine ⟨?_, fun _ => by omega⟩
    rw [numW_ge hge, show (x.val - 128 + 128 * m) / 128 = m by omega, show (x.val - 128 + 128 * m) % 128 + 128 = x.val by omega, byte_val, h1]
    rfl
   ·cases h
theorem number_inv {l : List U8} {n : Nat} {r : List U8} (h : numberR l = some (n, r)) : l = numW n ++ r := (numR_inv0 5 true l n r h).1
theorem many_inv {l : List U8} {n : Nat} {r : List U8} (h : manyR l = some (n, r)) : l = numW n ++ r := by
 unfold manyR at h
 rcases hq : numberR l with _ | ⟨a, b⟩ <;> rw [hq] at h
 ·cases h
 ·simp only at h
  split at h
  ·cases h; exact number_inv hq
  ·cases h
def Inv {σ α : Type} (R : Rd σ α) (f : α → List U8) : Prop := ∀ s l x s' l', R s l = some (x, s', l') → l = f x ++ l'
theorem Inv.times {σ α : Type} {R : Rd σ α} {f : α → List U8} (hR : Inv R f) : ∀ (n : Nat) (s : σ) (l : List U8) (ys : List α) (s' : σ) (l' : List U8), timesR R n s l = some (ys, s', l') → l = ys.flatMap f ++ l' ∧ ys.length = n
 | 0, s, l, ys, s', l', h => by cases h; exact ⟨rfl, rfl⟩
 | n + 1, s, l, ys, s', l', h => by
  rw [timesR] at h
  split at h
  ·cases h
  ·rename_i a s1 l1 h2
   split at h
   ·cases h
   ·rename_i b s2 l2 h3
    cases h
    obtain ⟨h4, h5⟩ := Inv.times hR n _ _ _ _ _ h3
    exact ⟨by rw [hR _ _ _ _ _ h2, h4, List.flatMap_cons, List.append_assoc], by simp [h5]⟩
theorem Inv.list {σ α : Type} {R : Rd σ α} {f : α → List U8} (hR : Inv R f) : Inv (listR R) (listW f) := fun s l x s' l' h => by
 obtain ⟨n, s1, l1, h1, h2⟩ := thenR_inv h
 unfold manyRd at h1
 split at h1
 ·cases h1
 ·rename_i h3
  cases h1
  obtain ⟨h4, h5⟩ := hR.times _ _ _ _ _ _ h2
  rw [many_inv h3, h4, listW, h5, List.append_assoc]
end Go.Eng.Bd

set_option linter.unusedVariables false
set_option linter.unusedSimpArgs false
set_option maxRecDepth 10000
namespace Go.Proofs.YtpgnjlngepfanaaGreat
open Go.Eng
open Go.Eng.Fc
open Go.Eng.Bd
open Go.Eng.Im (U8 u8 u8s sumR splitR Sec numberR manyR)
end Go.Proofs.YtpgnjlngepfanaaGreat

set_option linter.unusedVariables false
namespace Go.Eng.Bd
open Go.Eng.Fc
open Go.Eng.Im (U8 numberR manyR sumR splitR Sec)
theorem byte_of {n : Nat} (h : n < 256) : (Im.byteOf n).val = n := by
 show n % 256 = n
 omega
theorem numR_fwd : ∀ (g : Nat) (first : Bool) (n : Nat) (r : List U8), n < 128 ^ (g + 1) → (first = true ∨ 0 < n) → Im.numR (g + 1) first (numW n ++ r) = some (n, r)
 | g, first, n, r, hn, hf => by
  by_cases h : n < 128
  ·rw [numW_lt h, List.singleton_append, Im.numR, byte_of (by omega), if_pos h, if_pos (by simp only [Bool.or_eq_true, decide_eq_true_eq]; exact hf)]
  ·cases g with
   | zero => omega
   | succ g =>
    rw [numW_ge h, List.cons_append, Im.numR, byte_of (by omega), if_neg (by omega), numR_fwd g false (n / 128) r (by rw [Nat.pow_succ] at hn; omega) (.inr (by omega))]
    simp only
    rw [show n % 128 + 128 - 128 + 128 * (n / 128) = n by omega]
theorem number_fwd {n : Nat} (hn : n ≤ 30000000000) (r : List U8) : numberR (numW n ++ r) = some (n, r) := numR_fwd 4 true n r (by omega) (.inl rfl)
theorem num_fwd {σ : Type} {n : Int} (hn : okN n) (s : σ) (r : List U8) : numR s (numI n ++ r) = some (n, s, r) := by
 rw [numI, numR_some (number_fwd (by have := hn.2; omega) r), Int.toNat_of_nonneg hn.1]
theorem int_fwd {σ : Type} {n : Int} (hn : okZ n) (s : σ) (r : List U8) : intR s (intW n ++ r) = some (n, s, r) := by
 obtain ⟨q, hq⟩ : ∃ q, q = (if n < 0 then -2 * n - 1 else 2 * n) := ⟨_, rfl⟩
 have hqo : okN q := by
  have h1 := hn.1
  have h2 := hn.2
  rw [hq]; split <;> (unfold okN; omega)
 rw [intW, ← hq, intR, thenR_some (num_fwd hqo s r)]
 show some (znOf q, s, r) = _
 rw [znOf, hq]
 congr 2
 split <;> split <;> omega
theorem many_fwd {n : Nat} {r : List U8} (hn : n ≤ 30000000000) (h : n ≤ r.length) : manyR (numW n ++ r) = some (n, r) := by
 unfold manyR
 rw [number_fwd hn r]
 simp only
 rw [if_pos h]
def okAll {σ α : Type} (next : σ → α → σ) (ok : σ → α → Prop) : σ → List α → Prop
 | _, [] => True
 | s, x :: l => ok s x ∧ okAll next ok (next s x) l
theorem times_fwd {σ α : Type} {R : Rd σ α} {f : α → List U8} {next : σ → α → σ} {ok : σ → α → Prop} (hR : ∀ s x r, ok s x → R s (f x ++ r) = some (x, next s x, r)) : ∀ (l : List α) (s : σ) (r : List U8), okAll next ok s l → timesR R l.length s (l.flatMap f ++ r) = some (l, l.foldl next s, r)
 | [], s, r, _ => rfl
 | x :: l, s, r, h => by
  rw [List.length_cons, timesR, List.flatMap_cons, List.append_assoc, hR s x _ h.1]
  simp only
  rw [times_fwd hR l (next s x) r h.2]
  rfl
theorem flat_ge {α : Type} {f : α → List U8} : ∀ {l : List α}, (∀ x ∈ l, 0 < (f x).length) → l.length ≤ (l.flatMap f).length
 | [], _ => Nat.le_refl _
 | x :: l, h => by
  rw [List.flatMap_cons, List.length_append, List.length_cons]
  have := h x (.head _)
  have := flat_ge (l := l) fun y hy => h y (.tail _ hy)
  omega
theorem list_fwd {σ α : Type} {R : Rd σ α} {f : α → List U8} {next : σ → α → σ} {ok : σ → α → Prop} (hR : ∀ s x r, ok s x → R s (f x ++ r) = some (x, next s x, r)) (hf : ∀ x, 0 < (f x).length) {l : List α} (hl : l.length ≤ 1000000) {s : σ} (h : okAll next ok s l) (r : List U8) : listR R s (listW f l ++ r) = some (l, l.foldl next s, r) := by
 rw [listR, thenR_some (a := l.length) (s' := s) (l' := l.flatMap f ++ r)]
 ·exact times_fwd hR l s r h
 ·rw [manyRd, listW, List.append_assoc, many_fwd (by omega) (by rw [List.length_append]; have := flat_ge (l := l) (f := f) (fun x _ => hf x); omega)]
theorem okAll_still {σ α : Type} {ok : α → Prop} : ∀ (l : List α) (s : σ), (∀ x ∈ l, ok x) → okAll (fun s _ => s) (fun _ x => ok x) s l
 | [], s, _ => trivial
 | x :: l, s, h => ⟨h x (.head _), okAll_still l s fun y hy => h y (.tail _ hy)⟩
theorem fold_still {σ α : Type} : ∀ (l : List α) (s : σ), l.foldl (fun s _ => s) s = s
 | [], s => rfl
 | x :: l, s => fold_still l s
theorem list_fwd0 {σ α : Type} {R : Rd σ α} {f : α → List U8} {ok : α → Prop} (hR : ∀ s x r, ok x → R s (f x ++ r) = some (x, s, r)) (hf : ∀ x, 0 < (f x).length) {l : List α} (hl : l.length ≤ 1000000) (h : ∀ x ∈ l, ok x) (s : σ) (r : List U8) : listR R s (listW f l ++ r) = some (l, s, r) := by
 have := list_fwd (next := fun s _ => s) (ok := fun _ x => ok x) hR hf hl (okAll_still l s h) r
 rwa [fold_still] at this
theorem times_fwd0 {σ α : Type} {R : Rd σ α} {f : α → List U8} {ok : α → Prop} (hR : ∀ s x r, ok x → R s (f x ++ r) = some (x, s, r)) {l : List α} (h : ∀ x ∈ l, ok x) (s : σ) (r : List U8) : timesR R l.length s (l.flatMap f ++ r) = some (l, s, r) := by
 have := times_fwd (next := fun s _ => s) (ok := fun _ x => ok x) hR l s r (okAll_still l s h)
 rwa [fold_still] at this
theorem numI_pos (n : Int) : 0 < (numI n).length := numW_pos _
theorem pos_left {a b : List U8} (h : 0 < a.length) : 0 < (a ++ b).length := by rw [List.length_append]; omega
theorem init_fwd {σ : Type} {x : Int × Int} (h : okN x.1 ∧ okZ x.2) (s : σ) (r : List U8) : initR s (initW x ++ r) = some (x, s, r) := by
 rw [initR, initW, List.append_assoc, thenR_some (num_fwd h.1 s _), thenR_some (int_fwd h.2 s r)]; rfl
theorem cls_fwd {s : Int} {c : Cls} (hc : okC c) (h4 : c.slots.length ≤ 4) (hs : c.slots = slotsFrom s c.slots.length) (r : List U8) : clsR s (clsW c ++ r) = some (c, s + c.slots.length, r) := by
 have hl := hc.pl
 have hi := hc.il
 have e : clsW c ++ r = listW numI c.parents ++ (numI (c.slots.length : Int) ++ (listW initW c.inits ++ r)) := by
  rw [clsW]; simp only [List.append_assoc]; rfl
 rw [e, clsR, thenR_some (list_fwd0 (ok := okN) (fun s x r h => num_fwd h s r) numI_pos (by omega) hc.ps s _), thenR_some (num_fwd (by unfold okN; omega) s _), needR_yes (by rw [decide_eq_true_eq]; omega)]
 show thenR (listR initR) _ _ _ = _
 rw [thenR_some (list_fwd0 (ok := fun x => okN x.1 ∧ okZ x.2) (fun s x r h => init_fwd h s r) (fun x => pos_left (numI_pos _)) (by omega) hc.is _ r)]
 show some (_, _, _) = _
 rw [Int.toNat_natCast, ← hs]
mutual
def wfF : Fact → Prop
 | .mk op arg path cls n kids => (1 ≤ op ∧ op ≤ 7) ∧ (op = 2 → n = 0 ∧ kids = []) ∧ (op = 3 ∨ op = 4 → cls = 0 ∧ kids = []) ∧ (¬ (2 ≤ op ∧ op ≤ 4) → arg = 0 ∧ path = [] ∧ cls = 0 ∧ n = 0 ∧ kids.length = kidCnt op) ∧ wfFs kids
def wfFs : List Fact → Prop
 | [] => True
 | f :: r => wfF f ∧ wfFs r
end
mutual
theorem node_wfF {w : Fc.FW} : ∀ (f : Fact) (left deep : Int), (nodeP w f left deep).1 = true → wfF f
 | .mk op arg path cls n kids, left, deep, h => by
  rw [nodeP] at h
  by_cases h1 : badP (.mk op arg path cls n kids) (left - 1) deep = true
  ·rw [if_pos h1] at h; cases h
  rw [if_neg h1] at h
  have h2 : badP (.mk op arg path cls n kids) (left - 1) deep = false := by simpa using h1
  have h2 : ((¬ left - 1 < 0 ∧ ¬ op < 1) ∧ ¬ op > 7) ∧ (kids.length : Int) = kidsP op := by
   rw [badP, Bool.or_eq_false_iff, Bool.or_eq_false_iff, Bool.or_eq_false_iff, Bool.or_eq_false_iff] at h2
   exact ⟨⟨⟨of_decide_eq_false h2.1.1.1.1, of_decide_eq_false h2.1.1.2⟩, of_decide_eq_false h2.1.2⟩, bne_eq_false_iff_eq.1 h2.2⟩
  obtain ⟨⟨⟨hl0, ho1⟩, ho2⟩, hk⟩ := h2
  rw [wfF]
  by_cases hl : leafP (.mk op arg path cls n kids) = true
  ·rw [if_pos hl, Bool.and_eq_true] at h
   have hl : 2 ≤ op ∧ op ≤ 4 := by rw [leafP, Bool.and_eq_true] at hl; exact ⟨of_decide_eq_true hl.1, of_decide_eq_true hl.2⟩
   have hk0 : kids = [] := by
    have : kidsP op = 0 := by unfold kidsP; rw [if_neg (by omega), if_neg (by omega)]
    exact List.eq_nil_of_length_eq_zero (by omega)
   have hle : leafOkP w (.mk op arg path cls n kids) = true := h.2
   refine ⟨by omega, fun e => ⟨?_, hk0⟩, fun e => ⟨?_, hk0⟩, fun e => absurd hl e, by rw [hk0]; trivial⟩
   ·rw [leafOkP, if_pos (by exact e), Bool.and_eq_true] at hle
    exact beq_iff_eq.1 hle.1
   ·rw [leafOkP, if_neg (by show ¬ op = 2; omega), Bool.and_eq_true, Bool.and_eq_true] at hle
    exact beq_iff_eq.1 hle.1.1
  ·rw [if_neg hl] at h
   have hl' : leafP (.mk op arg path cls n kids) = false := by simpa using hl
   have hl' : ¬ (2 ≤ op ∧ op ≤ 4) := by intro hc; rw [show leafP (.mk op arg path cls n kids) = true by rw [leafP, Bool.and_eq_true]; exact ⟨decide_eq_true hc.1, decide_eq_true hc.2⟩] at hl'; cases hl'
   by_cases hp : plainP (.mk op arg path cls n kids) = true
   ·rw [if_pos hp] at h
    rw [plainP, Bool.not_eq_true', Bool.or_eq_false_iff, Bool.or_eq_false_iff, Bool.or_eq_false_iff] at hp
    have p1 : arg = 0 := bne_eq_false_iff_eq.1 hp.1.1.1
    have p2 : ¬ (path.length : Int) > 0 := of_decide_eq_false hp.1.1.2
    have p3 : cls = 0 := bne_eq_false_iff_eq.1 hp.1.2
    have p4 : n = 0 := bne_eq_false_iff_eq.1 hp.2
    refine ⟨by omega, fun e => by omega, fun e => by omega, fun _ => ⟨p1, List.eq_nil_of_length_eq_zero (by omega), p3, p4, ?_⟩, nodes_wfF kids _ _ h⟩
    unfold kidsP at hk
    unfold kidCnt
    split <;> (try split) <;> simp_all <;> omega
   ·rw [if_neg hp] at h; cases h
theorem nodes_wfF {w : Fc.FW} : ∀ (l : List Fact) (left deep : Int), (nodesP w l left deep).1 = true → wfFs l
 | [], left, deep, h => trivial
 | k :: r, left, deep, h => by
  rw [nodesP] at h
  by_cases hk : (nodeP w k left deep).1 = true
  ·rw [if_pos hk] at h
   rw [wfFs]; exact ⟨node_wfF k _ _ hk, nodes_wfF r _ _ h⟩
  ·rw [if_neg hk] at h; exact absurd h hk
end
theorem facts_all {f : Nat} : ∀ (l : List Fact) (s : Nat), okFs l → wfFs l → cntNs l ≤ s → s ≤ f → okAll (fun s x => s - cntN x) (fun s x => okF x ∧ wfF x ∧ cntN x ≤ s ∧ s ≤ f) s l ∧ l.foldl (fun s x => s - cntN x) s = s - cntNs l
 | [], s, _, _, _, _ => ⟨trivial, by simp [cntNs]⟩
 | x :: l, s, h1, h2, h3, h4 => by
  rw [okFs] at h1
  rw [wfFs] at h2
  rw [cntNs] at h3
  obtain ⟨h5, h6⟩ := facts_all (f := f) l (s - cntN x) h1.2 h2.2 (by omega) (by omega)
  exact ⟨⟨⟨h1.1, h2.1, by omega, h4⟩, h5⟩, by rw [List.foldl_cons, h6, cntNs]; omega⟩
theorem fact_fwd : ∀ (f : Nat) (x : Fact) (left : Nat) (r : List U8), okF x → wfF x → cntN x ≤ left → left ≤ f → factR f left (factW x ++ r) = some (x, left - cntN x, r)
 | 0, .mk op arg path cls n kids, left, r, ho, hw, hc, hl => by rw [cntN] at hc; omega
 | f + 1, .mk op arg path cls n kids, left, r, ho, hw, hc, hl => by
  rw [cntN] at hc
  obtain ⟨k, rfl⟩ : ∃ k, left = k + 1 := ⟨left - 1, by omega⟩
  rw [wfF] at hw
  obtain ⟨w1, w2, w3, w4, w5⟩ := hw
  have h1 := okF_iff ho
  rw [okF] at ho
  have e : factW (.mk op arg path cls n kids) ++ r = numI op ++ (leafW op arg path cls n ++ (kids.flatMap factW ++ r)) := by
   rw [factW, factsW_map]; simp only [List.append_assoc]
  rw [e, factR, thenR_some (num_fwd ho.1 k _), needR_yes (by rw [opR, Bool.and_eq_true]; exact ⟨decide_eq_true w1.1, decide_eq_true w1.2⟩), factB, cntN]
  by_cases e2 : op = 2
  ·obtain ⟨rfl, rfl⟩ := w2 e2
   obtain ⟨a1, a2, a3⟩ := ho.2.2.2.1 (by omega)
   rw [if_pos e2, leafW, if_pos e2]
   simp only [List.append_assoc, List.flatMap_nil, List.nil_append]
   rw [thenR_some (num_fwd a1 k _), thenR_some (list_fwd0 (ok := okN) (fun s x r h => num_fwd h s r) numI_pos (by omega) a3 k _), thenR_some (num_fwd (ho.2.1 e2) k r)]
   simp [doneR, cntNs]
  ·by_cases e3 : op = 3 ∨ op = 4
   ·obtain ⟨rfl, rfl⟩ := w3 e3
    obtain ⟨a1, a2, a3⟩ := ho.2.2.2.1 (by omega)
    rw [if_neg e2, if_pos e3, leafW, if_neg e2, if_pos e3]
    simp only [List.append_assoc, List.flatMap_nil, List.nil_append]
    rw [thenR_some (num_fwd a1 k _), thenR_some (list_fwd0 (ok := okN) (fun s x r h => num_fwd h s r) numI_pos (by omega) a3 k _), thenR_some (int_fwd (ho.2.2.1 e3) k r)]
    simp [doneR, cntNs]
   ·obtain ⟨rfl, rfl, rfl, rfl, hkl⟩ := w4 (by omega)
    rw [if_neg e2, if_neg e3, leafW, if_neg e2, if_neg e3, List.nil_append, ← hkl]
    obtain ⟨h5, h6⟩ := facts_all (f := f) kids k ho.2.2.2.2 w5 (by omega) (by omega)
    rw [thenR_some (times_fwd (fun s x r h => fact_fwd f x s r h.1 h.2.1 h.2.2.1 h.2.2.2) kids k r h5), h6]
    show some (_, _, _) = _
    congr 3
    omega
end Go.Eng.Bd

set_option linter.unusedVariables false
set_option linter.unusedSimpArgs false
set_option maxRecDepth 10000
namespace Go.Proofs.YtpgnjlngepfanaaGreat
open Go.Eng
open Go.Eng.Fc
open Go.Eng.Bd
open Go.Eng.Im (U8 u8 u8s sumR splitR Sec numberR manyR)
open Go.Eng.Im (U8 u8 u8s sumR splitR)
open Go.Eng.Im (U8 u8 u8s sumR splitR Sec)
theorem mth_fwd {σ : Type} {x : Mth} (h : okM x) (hw : wfF x.fact) (hc : cntN x.fact ≤ 24) (s : σ) (r : List U8) : mthR s (mthW x ++ r) = some (x, s, r) := by
 rw [mthR, mthW]
 simp only [List.append_assoc]
 rw [thenR_some (num_fwd h.kind s _), thenR_some (num_fwd h.gen s _), fact_fwd 24 x.fact 24 _ h.fact hw hc (Nat.le_refl _)]
 simp only
 rw [thenR_some (num_fwd h.node s r)]; rfl
theorem kidsN_of {p : Prog} {x : Nd} {next : Bool} {sz : Int} (hg : ∀ n ∈ p.gens, 1 ≤ n ∧ n ≤ 3) (h : goodN p next x sz = true) : kidsN p.gens x.op x.n = some (x.kids.length : Int) ∧ (1 ≤ x.op ∧ x.op ≤ 18) ∧ (x.op ≠ 1 → nodeNum x.op = false → x.n = 0) := by
 simp only [goodN, Bool.and_eq_true] at h
 obtain ⟨⟨h1, _⟩, h2⟩ := h
 have hnn : ∀ {o : Int}, nodeNum o = false → o ≠ 3 ∧ o ≠ 4 ∧ o ≠ 5 ∧ o ≠ 6 ∧ o ≠ 7 ∧ o ≠ 8 := fun {o} e => by
  simp only [nodeNum, List.contains_eq_mem, decide_eq_false_iff_not, List.mem_cons, List.not_mem_nil, or_false, not_or] at e
  exact e
 have h3 : x.op ≠ 1 → nodeNum x.op = false → x.n = 0 := fun e1 e2 => by
  have e2 := hnn e2
  rw [numP, if_neg e1, if_neg (by omega), Bool.and_eq_true, decide_eq_true_eq, decide_eq_true_eq, mostP, if_neg (by omega), if_neg (by omega), if_neg (by omega)] at h1
  omega
 refine ⟨?_, ?_, h3⟩
 ·unfold kidsN
  unfold kindOf at h2
  by_cases c1 : x.op = 5
  ·rw [if_pos c1] at h2
   simp only [beq_iff_eq] at h2
   rw [if_neg (by omega), if_neg (by omega), if_neg (by omega), if_pos c1]
   rw [numP, if_neg (by omega), if_neg (by omega), Bool.and_eq_true, decide_eq_true_eq, decide_eq_true_eq, mostP, if_neg (by omega), if_neg (by omega), if_pos c1] at h1
   have := hg _ (getD_memB (l := p.gens) (k := x.n.toNat) (by omega))
   rw [if_pos ⟨h1.2, this.2⟩, ← h2]
  ·rw [if_neg c1] at h2
   by_cases c2 : x.op = 1 ∨ x.op = 2 ∨ x.op = 3 ∨ x.op = 6 ∨ x.op = 18
   ·rw [if_pos c2] at h2 ⊢
    simp only [beq_iff_eq] at h2
    rw [h2]; rfl
   ·rw [if_neg c2] at h2 ⊢
    by_cases c3 : x.op = 4 ∨ x.op = 8 ∨ x.op = 17
    ·rw [if_pos c3] at h2 ⊢
     simp only [beq_iff_eq] at h2
     rw [h2]; rfl
    ·rw [if_neg c3] at h2 ⊢
     by_cases c4 : x.op = 7 ∨ x.op = 9 ∨ x.op = 11 ∨ x.op = 12 ∨ x.op = 13 ∨ x.op = 14 ∨ x.op = 15 ∨ x.op = 16
     ·rw [if_pos c4] at h2
      simp only [beq_iff_eq] at h2
      rw [if_neg (by omega), if_neg c1, h2]; rfl
     ·rw [if_neg c4] at h2
      by_cases c5 : x.op = 10
      ·rw [if_pos c5] at h2 ⊢
       simp only [beq_iff_eq] at h2
       rw [h2]; rfl
      ·rw [if_neg c5] at h2; cases h2
 ·unfold kindOf at h2
  split at h2
  ·cases h2
  ·rename_i e; split at e
   ·omega
   ·split at e
    ·simp at e
    ·split at e
     ·simp at e
     ·split at e
      ·simp at e
      ·split at e <;> simp at e
  ·rename_i k e; split at e
   ·simp at e
   ·split at e
    ·omega
    ·split at e
     ·omega
     ·split at e
      ·omega
      ·split at e
       ·omega
       ·simp at e
theorem nd_fwd {σ : Type} {gens : List Int} {x : Nd} (h : okNd x) (hk : kidsN gens x.op x.n = some (x.kids.length : Int)) (ho : 1 ≤ x.op ∧ x.op ≤ 18) (hn : x.op ≠ 1 → nodeNum x.op = false → x.n = 0) (s : σ) (r : List U8) : ndR gens s (ndW x ++ r) = some (x, s, r) := by
 have h1 : ∀ r, ndNR x.op s (ndN x ++ r) = some (x.n, s, r) := fun r => by
  unfold ndNR ndN
  by_cases e : x.op = 1
  ·rw [if_pos e, if_pos e]; exact int_fwd (h.i e) s r
  ·rw [if_neg e, if_neg e]
   by_cases e2 : nodeNum x.op = true
   ·rw [if_pos e2, if_pos e2]; exact num_fwd (h.n e2) s r
   ·rw [if_neg e2, if_neg e2, hn e (by simpa using e2)]; rfl
 rw [ndR, ndW]
 simp only [List.append_assoc]
 rw [thenR_some (num_fwd h.op s _), needR_yes (by rw [Bool.and_eq_true]; exact ⟨decide_eq_true ho.1, decide_eq_true ho.2⟩), thenR_some (h1 _), hk]
 simp only
 rw [Int.toNat_natCast, thenR_some (times_fwd0 (ok := okN) (fun s x r h => num_fwd h s r) h.kids s r)]; rfl
theorem slots1_from : ∀ (l : List Int) (n : Nat), slots1 l n = true → l = slotsFrom n l.length
 | [], n, _ => rfl
 | x :: r, n, h => by
  simp only [slots1, Bool.and_eq_true, beq_iff_eq] at h
  have := slots1_from r (n + 1) h.2
  rw [List.length_cons, slotsFrom, List.range_succ_eq_map, List.map_cons, List.map_map, h.1]
  refine congr (congrArg List.cons (by simp)) ?_
  conv => lhs; rw [this]
  rw [slotsFrom]
  refine List.map_congr_left fun k _ => ?_
  show ((n + 1 : Nat) : Int) + (k : Int) = (n : Int) + ((k + 1 : Nat) : Int)
  omega
theorem classes_all : ∀ (cs : List Cls) (n : Nat), slotsA cs n = true → (∀ c ∈ cs, okC c) → okAll (fun (s : Int) (c : Cls) => s + c.slots.length) (fun s c => okC c ∧ c.slots.length ≤ 4 ∧ c.slots = slotsFrom s c.slots.length) (n : Int) cs ∧ cs.foldl (fun (s : Int) (c : Cls) => s + c.slots.length) (n : Int) = ((n + slotsCnt cs : Nat) : Int)
 | [], n, _, _ => ⟨trivial, by simp [slotsCnt]⟩
 | c :: r, n, h, hc => by
  simp only [slotsA, Bool.and_eq_true, decide_eq_true_eq] at h
  obtain ⟨h1, h2⟩ := classes_all r (n + c.slots.length) h.2 fun x hx => hc x (.tail _ hx)
  refine ⟨⟨⟨hc c (.head _), h.1.1, slots1_from _ _ h.1.2⟩, by show okAll _ _ ((n : Int) + c.slots.length) r; rw [show (n : Int) + c.slots.length = ((n + c.slots.length : Nat) : Int) by omega]; exact h1⟩, ?_⟩
  rw [List.foldl_cons, show (n : Int) + c.slots.length = ((n + c.slots.length : Nat) : Int) by omega, h2]
  simp [slotsCnt]; omega
mutual
theorem node_cnt {w : Fc.FW} : ∀ (f : Fact) (left deep : Int), (nodeP w f left deep).1 = true → (nodeP w f left deep).2 + cntN f = left ∧ 0 ≤ (nodeP w f left deep).2
 | .mk op arg path cls n kids, left, deep, h => by
  rw [nodeP] at h ⊢
  by_cases h1 : badP (.mk op arg path cls n kids) (left - 1) deep = true
  ·rw [if_pos h1] at h; cases h
  rw [if_neg h1] at h ⊢
  have h2 : badP (.mk op arg path cls n kids) (left - 1) deep = false := by simpa using h1
  have h2 : ¬ left - 1 < 0 ∧ (kids.length : Int) = kidsP op := by
   rw [badP, Bool.or_eq_false_iff, Bool.or_eq_false_iff, Bool.or_eq_false_iff, Bool.or_eq_false_iff] at h2
   exact ⟨of_decide_eq_false h2.1.1.1.1, bne_eq_false_iff_eq.1 h2.2⟩
  by_cases hl : leafP (.mk op arg path cls n kids) = true
  ·rw [if_pos hl]
   have hl : 2 ≤ op ∧ op ≤ 4 := by rw [leafP, Bool.and_eq_true] at hl; exact ⟨of_decide_eq_true hl.1, of_decide_eq_true hl.2⟩
   have hk0 : kids = [] := by
    have : kidsP op = 0 := by unfold kidsP; rw [if_neg (by omega), if_neg (by omega)]
    exact List.eq_nil_of_length_eq_zero (by omega)
   subst hk0
   exact ⟨by simp only [cntN, cntNs]; omega, by show 0 ≤ left - 1; omega⟩
  ·rw [if_neg hl] at h ⊢
   by_cases hp : plainP (.mk op arg path cls n kids) = true
   ·rw [if_pos hp] at h ⊢
    obtain ⟨h6, h7⟩ := nodes_cnt kids _ _ h (by omega)
    have h6 : (nodesP w kids (left - 1) (deep - 1)).2 + cntNs kids = left - 1 := h6
    exact ⟨by simp only [cntN]; omega, h7⟩
   ·rw [if_neg hp] at h; cases h
theorem nodes_cnt {w : Fc.FW} : ∀ (l : List Fact) (left deep : Int), (nodesP w l left deep).1 = true → 0 ≤ left → (nodesP w l left deep).2 + cntNs l = left ∧ 0 ≤ (nodesP w l left deep).2
 | [], left, deep, h, h0 => by rw [nodesP]; exact ⟨by simp [cntNs], h0⟩
 | k :: r, left, deep, h, h0 => by
  rw [nodesP] at h ⊢
  by_cases hk : (nodeP w k left deep).1 = true
  ·rw [if_pos hk] at h ⊢
   obtain ⟨h2, h3⟩ := node_cnt k _ _ hk
   obtain ⟨h5, h6⟩ := nodes_cnt r _ _ h h3
   exact ⟨by simp only [cntNs]; omega, h6⟩
  ·rw [if_neg hk] at h; exact absurd h hk
end
theorem methods_wf {p : Prog} : ∀ (l : List Mth) (o o' : List Int), methodsN p l o = some o' → ∀ m ∈ l, wfF m.fact ∧ cntN m.fact ≤ 24
 | [], o, o', h, m, hm => by cases hm
 | y :: r, o, o', h, m, hm => by
  rw [methodsN] at h
  split at h
  ·rename_i hy
   rw [Bool.and_eq_true] at hy
   split at h
   ·cases h
   ·rename_i o1 hv
    rcases List.mem_cons.1 hm with rfl | hm
    ·have h2 := hy.2
     simp only [mth2, Bool.and_eq_true] at h2
     exact ⟨node_wfF _ 24 12 h2.1.2, by have := node_cnt m.fact 24 12 h2.1.2; omega⟩
    ·exact methods_wf r o1 o' h m hm
  ·cases h
theorem nodes_known {p : Prog} (h : (sizesP p).isSome = true) : (∀ x ∈ p.nodes, NdKnown p x) ∧ (∀ n ∈ p.gens, 1 ≤ n ∧ n ≤ 3) ∧ (∀ m ∈ p.methods, wfF m.fact ∧ cntN m.fact ≤ 24) := by
 obtain ⟨o, ho⟩ := Option.isSome_iff_exists.1 h
 have hol := sizes_len ho
 obtain ⟨hc, hh, hgs, o1, hm, hv, hn⟩ := sizes_parts ho
 have hok := okP_of h
 have hg : ∀ n ∈ p.gens, 1 ≤ n ∧ n ≤ 3 := fun n hn => gens_in hgs hn
 simp only [headP, Bool.and_eq_true, decide_eq_true_eq] at hh
 have hw : (worldOf p).parents.length ≤ 1000 ∧ (worldOf p).owner.length ≤ 1000 := by
  obtain ⟨hcl, hcs, hsl⟩ := okC_of hc
  refine ⟨by show (graphP p).length ≤ 1000; simp [graphP]; omega, ?_⟩
  have h1 : slotsA p.classes 0 = true := by simp only [classesP, Bool.and_eq_true] at hc; exact hc.1.1.2
  have : ∀ (cs : List Cls) (i n : Nat), slotsA cs n = true → (ownersN cs i).length ≤ 4 * cs.length := by
   intro cs
   induction cs with
   | nil => intro i n _; simp [ownersN]
   | cons c r ih =>
    intro i n h
    simp only [slotsA, Bool.and_eq_true, decide_eq_true_eq] at h
    have := ih (i + 1) _ h.2
    rw [ownersN, List.length_append, List.length_replicate, List.length_cons]; omega
  have := this p.classes 0 0 h1
  show (ownersN p.classes 0).length ≤ 1000
  omega
 have hK0 : OutKnown p (out0 p) := fun i hi hne => by
  exfalso; apply hne
  rw [out0, List.getD_eq_getElem?_getD, List.getElem?_replicate]; split <;> rfl
 obtain ⟨hK1, hms⟩ := methods_known hg hw (by omega) (by omega) p.methods _ _ hm hK0
 have hK2 := visit_outKnown (x := ⟨p.main, 0, 1⟩) rfl (by unfold smallV; simp only; omega) hv hK1
 refine ⟨fun x hx => ?_, hg, methods_wf _ _ _ hm⟩
 obtain ⟨i, hi, rfl⟩ := List.mem_iff_getElem.1 hx
 have e : p.nodes.getD i default = p.nodes[i] := by rw [List.getD_eq_getElem?_getD, List.getElem?_eq_getElem hi]; rfl
 rw [← e]
 refine hK2 i hi ?_
 have hio : i < o.length := by rw [hol.1]; exact hi
 intro hne
 rw [List.getD_eq_getElem?_getD, List.getElem?_eq_getElem hio] at hne
 have hmem : (-1 : Int) ∈ o := by rw [← show o[i] = -1 from hne]; exact List.getElem_mem _
 rw [List.contains_iff_mem.2 hmem] at hn; cases hn
theorem clsW_pos (c : Cls) : 0 < (clsW c).length := pos_left (pos_left (pos_left (numW_pos _)))
theorem prog_fwd {p : Prog} (h : (sizesP p).isSome = true) : progR (progW p) = some (p, []) := by
 have hok := okP_of h
 obtain ⟨hnk, hg, hms⟩ := nodes_known h
 obtain ⟨o, ho⟩ := Option.isSome_iff_exists.1 h
 obtain ⟨hc, hh, _⟩ := sizes_parts ho
 have hsA : slotsA p.classes 0 = true := by simp only [classesP, Bool.and_eq_true] at hc; exact hc.1.1.2
 have hcnt : (slotsCnt p.classes : Int) = p.slots := by simp only [classesP, Bool.and_eq_true, beq_iff_eq] at hc; exact hc.1.2.1
 obtain ⟨hA, hF⟩ := classes_all p.classes 0 hsA hok.cs
 have hcl := hok.cl
 have hgl := hok.gl
 have hml := hok.ml
 have hnl := hok.nl
 have e : progW p = listW clsW p.classes ++ (listW numI p.gens ++ (listW mthW p.methods ++ (listW ndW p.nodes ++ (numI p.main ++ [])))) := by
  rw [progW]; simp only [List.append_assoc, List.append_nil]
 rw [e, progR_some (list_fwd (f := clsW) (fun s x r h => cls_fwd h.1 h.2.1 h.2.2 r) clsW_pos (by omega) hA _), hF, progT]
 rw [thenR_some (list_fwd0 (ok := okN) (fun s x r h => num_fwd h s r) numI_pos (by omega) hok.gs () _)]
 rw [thenR_some (list_fwd0 (ok := fun x => okM x ∧ wfF x.fact ∧ cntN x.fact ≤ 24) (fun s x r h => mth_fwd h.1 h.2.1 h.2.2 s r) (fun x => pos_left (pos_left (pos_left (numI_pos _)))) (by omega) (fun x hx => ⟨hok.ms x hx, (hms x hx).1, (hms x hx).2⟩) () _)]
 rw [thenR_some (list_fwd0 (R := ndR p.gens) (f := ndW) (ok := fun x => okNd x ∧ NdKnown p x) (fun s x r h => by
  obtain ⟨⟨next, sz, _, hgd⟩, _⟩ := h.2
  obtain ⟨k1, k2, k3⟩ := kidsN_of hg hgd
  exact nd_fwd h.1 k1 k2 k3 s r) (fun x => pos_left (pos_left (numI_pos _))) (by omega) (fun x hx => ⟨hok.ns x hx, hnk x hx⟩) () _)]
 rw [thenR_some (num_fwd hok.main () [])]
 simp only [doneR, Option.map_some]
 rw [show ((0 + slotsCnt p.classes : Nat) : Int) = p.slots by rw [← hcnt]; simp]
theorem val_fwd {σ : Type} {n : Nat} (hn : n ≤ 1000000) {v : Int × Int} (h : valueP n v = true) (s : σ) (r : List U8) : valR s (valW v ++ r) = some (v, s, r) := by
 have ho := okVal_of hn h
 rw [valR, valW, List.append_assoc, thenR_some (num_fwd ho.k s _)]
 by_cases h1 : v.1 = 1
 ·rw [if_pos h1, if_pos h1, thenR_some (int_fwd (ho.i h1) s r)]; rfl
 ·rw [if_neg h1, if_neg h1]
  by_cases h3 : v.1 = 3
  ·rw [if_pos h3, if_pos h3, thenR_some (num_fwd (ho.n h3) s r)]; rfl
  ·rw [if_neg h3, if_neg h3, List.nil_append]
   unfold valueP at h
   rw [if_neg h1] at h
   by_cases h2 : v.1 = 2
   ·rw [if_pos h2, beq_iff_eq] at h
    rw [needR_yes (by rw [h2]; rfl)]
    show some ((v.1, 0), s, r) = _
    rw [← h]
   ·rw [if_neg h2, if_neg h3] at h; cases h
theorem th_fwd {σ : Type} {p : Prog} {n : Nat} (hn : n ≤ 1000000) {t : Th} (h : thingP p n t = true) (s : σ) (r : List U8) : thR p s (thW t ++ r) = some (t, s, r) := by
 have ho := okT_of hn h
 simp only [thingP, Bool.and_eq_true, beq_iff_eq] at h
 rw [thR, thW, List.append_assoc, thenR_some (num_fwd ho.cls s _), needR_yes h.1.1, h.1.2, thenR_some (times_fwd0 (ok := fun v => valueP n v = true) (fun s x r h => val_fwd hn h s r) (List.all_eq_true.1 h.2) s r)]; rfl
theorem sec_fwd {k : U8} {b : List U8} (hb : b.length ≤ 100000000) (r : List U8) : Im.secR (secW k b ++ r) = some (⟨k, b, false⟩, r) := by
 have e : secW k b ++ r = k :: (numW b.length ++ (b ++ (sumR k b ++ r))) := by rw [secW]; simp only [List.append_assoc]; rfl
 rw [e]
 have hm : manyR (numW b.length ++ (b ++ (sumR k b ++ r))) = some (b.length, b ++ (sumR k b ++ r)) := many_fwd (by omega) (by rw [List.length_append]; omega)
 have h4 : 4 ≤ ((b ++ (sumR k b ++ r)).drop b.length).length := by rw [List.drop_left, List.length_append, sumR_len]; omega
 rw [Im.secR_good hm h4, List.take_left, List.drop_left]
 have h5 : (sumR k b ++ r).take 4 = sumR k b := by rw [show (4 : Nat) = (sumR k b).length by rw [sumR_len], List.take_left]
 have h6 : (sumR k b ++ r).drop 4 = r := by rw [show (4 : Nat) = (sumR k b).length by rw [sumR_len], List.drop_left]
 rw [h5, h6]; simp
theorem secs_fwd : ∀ (f : Nat) (L : List Sec), (∀ s ∈ L, s.damaged = false ∧ s.body.length ≤ 100000000) → (L.flatMap fun s => secW s.kind s.body).length ≤ f → Im.secsR f (L.flatMap fun s => secW s.kind s.body) = (L, true)
 | 0, [], _, _ => rfl
 | 0, s :: r, h, hl => by
  rw [List.flatMap_cons, List.length_append] at hl
  have : 0 < (secW s.kind s.body).length := by simp only [secW, List.length_append, List.length_singleton]; omega
  omega
 | f + 1, [], _, _ => rfl
 | f + 1, s :: r, h, hl => by
  rw [List.flatMap_cons] at hl ⊢
  have e := sec_fwd (k := s.kind) (h s (.head _)).2 (r.flatMap fun s => secW s.kind s.body)
  have hd := (h s (.head _)).1
  rw [List.length_append] at hl
  have hp : 0 < (secW s.kind s.body).length := by simp only [secW, List.length_append, List.length_singleton]; omega
  have ih := secs_fwd f r (fun x hx => h x (.tail _ hx)) (by omega)
  obtain ⟨a, t, ht⟩ : ∃ a t, secW s.kind s.body ++ (r.flatMap fun s => secW s.kind s.body) = a :: t := ⟨s.kind, _, rfl⟩
  rw [ht] at e ⊢
  unfold Im.secsR
  rw [e]
  simp only
  rw [ih]
  obtain ⟨k, b, d⟩ := s
  simp only at hd
  rw [hd]
theorem eqU8 (a : List U8) : PCall Tryz.prog 41 [u8s a, u8s a] (.b true) := by
 intro H
 refine ACall.mk' (n := 26) Tryz.func41 rfl (by kernel_rfl) rfl rfl (fun B I w0 => ?_)
 refine CW.boundM (t := 0) rfl (fun hb0 => ?_)
 refine S2 ?_; refine Oas ?_; refine S5 ?_; refine Omv ?_; refine Oln ?_; refine Omv ?_; refine Oln ?_; refine Ocm ?_; refine S2 ?_
 refine CW.cond rfl (fun h0 => ?_) (fun h0 => ?_)
 ·
  exact absurd h0 (by simp)
 ·
  refine S5 ?_; refine Omv ?_; refine Oln ?_; refine Omv ?_; refine S3 ?_
  refine lj (fun m st => ∃ i : Nat, st = ⟨[(13, .i i), (12, .i a.length), (0, u8s a), (1, u8s a)], H⟩ ∧ m = a.length - i ∧ i ≤ a.length) (⟨0, rfl, rfl, by omega⟩) ?_
  rintro m _ ⟨i, rfl, rfl, hi⟩
  refine S2 ?_; refine Ocm ?_; refine S3 ?_
  refine CW.cond rfl (fun h1 => ?_) (fun h1 => ?_)
  ·
   replace h1 := nm h1
   have hil : i < a.length := by omega
   refine S6 ?_; refine Omv ?_; refine Oas ?_; refine S3 ?_
   refine CW.dp mixed ?_
   refine DP.anyC 0 8 26 rfl (by decide +kernel) rfl rfl (by decide +kernel) ?_
   refine Amv ?_; refine Amv ?_
   refine AD.popC rfl rfl rfl ((by first | exact POp.ixM rfl rfl rfl rfl rfl hil | exact POp.ixI rfl rfl rfl rfl rfl hil)) ?_
   refine Ald ?_; refine Amv ?_; refine Amv ?_
   refine AD.popC rfl rfl rfl ((by first | exact POp.ixM rfl rfl rfl rfl rfl hil | exact POp.ixI rfl rfl rfl rfl rfl hil)) ?_
   refine Ald ?_
   refine AD.nil ?_
   refine DP.tailC 8 (by decide +kernel) rfl ?_
   refine Ocm ?_; refine S2 ?_
   refine CW.cond rfl (fun h2 => ?_) (fun h2 => ?_)
   ·
    exact absurd h2 (by simp)
   ·
    refine S4 ?_; refine Oar ?_; refine Omv ?_; refine S1 ?_
    exact ag (⟨i + 1, rfl, rfl, hil⟩)
  ·
   replace h1 := nm h1
   refine S7 ?_; refine Oas ?_; refine S3 ?_
   refine r1 4 (H) ?_
   exact ⟨by rfl, rfl⟩
theorem sameT (a : List Th) : PCall Tryz.prog 22 [AV.ths a, AV.ths a] (.b true) := by
 intro H
 refine ACall.mk' (n := 42) Tryz.func22 rfl (by kernel_rfl) rfl rfl (fun B I w0 => ?_)
 refine CW.boundM (t := 0) rfl (fun hb0 => ?_)
 refine S2 ?_; refine Oas ?_; refine S5 ?_; refine Omv ?_; refine Oln ?_; refine Omv ?_; refine Oln ?_; refine Ocm ?_; refine S2 ?_
 refine CW.cond rfl (fun h0 => ?_) (fun h0 => ?_)
 ·
  exact absurd h0 (by simp)
 ·
  refine S5 ?_; refine Oas ?_; refine S3 ?_
  refine lj (fun m st => ∃ i : Nat, st = ⟨[(5, .i i), (0, AV.ths a), (1, AV.ths a)], H⟩ ∧ m = a.length - i ∧ i ≤ a.length) (⟨0, rfl, rfl, by omega⟩) ?_
  rintro m _ ⟨i, rfl, rfl, hi⟩
  refine S3 ?_; refine Omv ?_; refine Omv ?_; refine Oln ?_; refine Ocm ?_; refine S2 ?_
  refine CW.cond rfl (fun h1 => ?_) (fun h1 => ?_)
  ·
   replace h1 := nm h1
   have hil : i < a.length := by omega
   refine S5 ?_
   refine CW.dp mixed ?_
   refine DP.anyC 0 10 42 rfl (by decide +kernel) rfl rfl (by decide +kernel) ?_
   refine Amv ?_; refine Amv ?_
   refine AD.popC rfl rfl rfl ((by first | exact POp.ixM rfl rfl rfl rfl rfl hil | exact POp.ixI rfl rfl rfl rfl rfl hil)) ?_
   refine Afa ?_; refine Ald ?_; refine Amv ?_; refine Amv ?_
   refine AD.popC rfl rfl rfl ((by first | exact POp.ixM rfl rfl rfl rfl rfl hil | exact POp.ixI rfl rfl rfl rfl rfl hil)) ?_
   refine Afa ?_; refine Ald ?_
   refine AD.nil ?_
   refine DP.one (k := 10) (by decide +kernel) rfl ?_
   refine Ocm ?_
   refine OL.nil (Done.dp ?_)
   refine DP.one (k := 11) (by decide +kernel) rfl ?_
   refine Omv ?_
   refine OL.nil (Done.dp ?_)
   refine DP.anyC 12 22 42 rfl (by decide +kernel) rfl rfl (by decide +kernel) ?_
   refine AD.guardC rfl rfl rfl rfl rfl (fun hg => POp.move rfl rfl rfl) ?_
   refine AD.guardC rfl rfl rfl rfl rfl (fun hg => POp.move rfl rfl rfl) ?_
   refine AD.guardC rfl rfl rfl rfl rfl (fun hg => (by first | exact POp.ixM rfl rfl (gd hg) rfl (gd hg) hil | exact POp.ixI rfl rfl (gd hg) rfl (gd hg) hil)) ?_
   refine AD.guardC rfl rfl rfl rfl rfl (fun hg => (by first | exact POp.fa rfl rfl (gd hg) rfl | exact POp.faP rfl rfl (gd hg) rfl)) ?_
   refine AD.guardC rfl rfl rfl rfl rfl (fun hg => (by first | exact POp.ld1 rfl rfl (gd hg) rfl | (apply POp.ld1H rfl rfl (gd hg); (case hm => repeat (first | exact .head _ | refine .tail _ ?_)); (case hy => rfl)))) ?_
   refine AD.guardC rfl rfl rfl rfl rfl (fun hg => POp.move rfl rfl rfl) ?_
   refine AD.guardC rfl rfl rfl rfl rfl (fun hg => POp.move rfl rfl rfl) ?_
   refine AD.guardC rfl rfl rfl rfl rfl (fun hg => (by first | exact POp.ixM rfl rfl (gd hg) rfl (gd hg) hil | exact POp.ixI rfl rfl (gd hg) rfl (gd hg) hil)) ?_
   refine AD.guardC rfl rfl rfl rfl rfl (fun hg => (by first | exact POp.fa rfl rfl (gd hg) rfl | exact POp.faP rfl rfl (gd hg) rfl)) ?_
   refine AD.guardC rfl rfl rfl rfl rfl (fun hg => (by first | exact POp.ld1 rfl rfl (gd hg) rfl | (apply POp.ld1H rfl rfl (gd hg); (case hm => repeat (first | exact .head _ | refine .tail _ ?_)); (case hy => rfl)))) ?_
   refine AD.nil ?_
   refine DP.tailC 22 (by decide +kernel) rfl ?_
   refine OL.guardC rfl rfl rfl rfl rfl rfl (fun hg => POp.call (.mk' rfl rfl rfl rfl (by first | rfl | ((repeat (first | exact hg | rfl | refine Bool.and_eq_true_iff.2 ⟨?_, ?_⟩)); done) | simp_all [strip, constAV])) (sameV (a.getD i default).slots (a.getD i default).slots)) ?_
   refine Pnt ?_; refine Opk ?_; refine S2 ?_
   refine CW.cond rfl (fun h2 => ?_) (fun h2 => ?_)
   ·
    exact absurd h2 (by simp)
   ·
    refine S4 ?_; refine Omv ?_; refine Oar ?_; refine Oas ?_; refine S1 ?_
    exact ag (⟨i + 1, rfl, rfl, hil⟩)
  ·
   replace h1 := nm h1
   refine S7 ?_; refine Oas ?_; refine S3 ?_
   refine r1 4 (H) ?_
   exact ⟨by rfl, rfl⟩
instance : HasEq Tryz.prog 143 2 := ⟨by kernel_rfl⟩
def ro (b : List U8) : List Th := match readR b with | some x => x.2 | none => []
def mapT (f : Int → Int) (t : Th) : Th := ⟨t.cls, t.slots.map (move1 f)⟩
theorem meet1_map {f : Int → Int} {R l : List Int} {v : Int × Int} (hi : ∀ a ∈ R, ∀ b ∈ R, f a = f b → a = b) (hl : ∀ x ∈ l, x ∈ R) (hv : v.1 = 3 → v.2 ∈ R) : meet1 (l.map f) (move1 f v) = (meet1 l v).map f := by
 unfold meet1 move1
 by_cases h3 : v.1 = 3
 ·have hm : f v.2 ∈ l.map f ↔ v.2 ∈ l := ⟨fun h => by
   obtain ⟨y, hy, e⟩ := List.mem_map.1 h
   rw [← hi y (hl y hy) v.2 (hv h3) e]; exact hy, fun h => List.mem_map_of_mem h⟩
  rw [if_pos h3]
  by_cases hc : v.2 ∈ l
  ·rw [if_neg (fun h => h.2 (hm.2 hc)), if_neg (fun h => h.2 hc)]
  ·rw [if_pos ⟨rfl, fun h => hc (hm.1 h)⟩, if_pos ⟨h3, hc⟩]; simp
 ·rw [if_neg h3, if_neg (fun h => h3 h.1), if_neg (fun h => h3 h.1)]
theorem meetP_map {f : Int → Int} {R : List Int} (hi : ∀ a ∈ R, ∀ b ∈ R, f a = f b → a = b) : ∀ (vals : List (Int × Int)) (l : List Int), (∀ x ∈ meetP vals l, x ∈ R) → meetP (vals.map (move1 f)) (l.map f) = (meetP vals l).map f
 | [], l, _ => rfl
 | v :: r, l, h => by
  rw [List.map_cons, meetP_cons, meetP_cons, meet1_map hi (fun x hx => h x ((meetP_pre (v :: r) l).subset hx)) (fun h3 => h _ (meetP_has (v :: r) l v (.head _) h3))]
  exact meetP_map hi r _ h
theorem reachN_pre (objs : List Th) : ∀ (f i : Nat) (l : List Int), l <+: reachN objs f i l
 | 0, i, l => List.prefix_refl _
 | f + 1, i, l => by
  rw [reachN]
  split
  ·exact (meetP_pre _ _).trans (reachN_pre objs f (i + 1) _)
  ·exact List.prefix_refl _
theorem getD_mapI (f : Int → Int) {l : List Int} {i : Nat} (hi : i < l.length) : (l.map f).getD i default = f (l.getD i default) := by
 rw [List.getD_eq_getElem?_getD, List.getElem?_map, List.getD_eq_getElem?_getD, List.getElem?_eq_getElem hi]; rfl
theorem reachN_map {f : Int → Int} {R : List Int} (hi : ∀ a ∈ R, ∀ b ∈ R, f a = f b → a = b) {objs objs2 : List Th} (hm : ∀ n ∈ R, thOf objs2 (f n) = mapT f (thOf objs n)) : ∀ (g i : Nat) (l : List Int), (∀ x ∈ reachN objs g i l, x ∈ R) → reachN objs2 g i (l.map f) = (reachN objs g i l).map f
 | 0, i, l, _ => rfl
 | g + 1, i, l, h => by
  simp only [reachN, List.length_map] at h ⊢
  by_cases hl : i < l.length
  ·rw [if_pos hl] at h
   rw [if_pos hl, if_pos hl, getD_mapI f hl]
   have hs : ∀ x ∈ meetP (thOf objs (l.getD i default)).slots l, x ∈ R := fun x hx => h x ((reachN_pre objs g (i + 1) _).subset hx)
   rw [hm _ (hs _ ((meetP_pre _ l).subset (getD_memB hl)))]
   show reachN objs2 g (i + 1) (meetP ((thOf objs (l.getD i default)).slots.map (move1 f)) (l.map f)) = _
   rw [meetP_map hi _ _ hs]
   exact reachN_map hi hm g (i + 1) _ h
  ·rw [if_neg hl, if_neg hl]
theorem reachN_more {objs : List Th} {roots : List (Int × Int)} (hv : ∀ t ∈ objs, t.slots.all (valueP objs.length) = true) (k : Nat) : ∀ (f i : Nat) (l : List Int), Reached objs roots i l → objs.length < f + i → reachN objs (f + k) i l = reachN objs f i l
 | 0, i, l, h, hf => by
  have := h.ok.len
  cases k with
  | zero => rfl
  | succ k => rw [Nat.zero_add, reachN, reachN, if_neg (by omega)]
 | f + 1, i, l, h, hf => by
  rw [show f + 1 + k = (f + k) + 1 by omega, reachN, reachN]
  split
  ·rename_i hl
   exact reachN_more hv k f (i + 1) _ (h.step hv hl) (by omega)
  ·rfl
structure Iso (f : Int → Int) (objs objs2 : List Th) (roots : List (Int × Int)) : Prop where
 rs : roots.all (valueP objs.length) = true
 vs : ∀ t ∈ objs, t.slots.all (valueP objs.length) = true
 rs2 : (roots.map (move1 f)).all (valueP objs2.length) = true
 vs2 : ∀ t ∈ objs2, t.slots.all (valueP objs2.length) = true
 inj : ∀ a ∈ reachP objs roots, ∀ b ∈ reachP objs roots, f a = f b → a = b
 th : ∀ n ∈ reachP objs roots, thOf objs2 (f n) = mapT f (thOf objs n)
theorem Iso.reach {f : Int → Int} {objs objs2 : List Th} {roots : List (Int × Int)} (h : Iso f objs objs2 roots) : reachP objs2 (roots.map (move1 f)) = (reachP objs roots).map f := by
 have h1 := reachN_more h.vs objs2.length (objs.length + 1) 0 _ (Reached.begin h.rs) (by omega)
 have h2 := reachN_more h.vs2 objs.length (objs2.length + 1) 0 _ (Reached.begin h.rs2) (by omega)
 have e : meetP (roots.map (move1 f)) [] = (meetP roots []).map f := meetP_map h.inj roots [] (fun x hx => (reachN_pre objs _ 0 _).subset hx)
 have hi := h.inj
 have ht := h.th
 unfold reachP at hi ht ⊢
 rw [← h1] at hi ht ⊢
 rw [← h2, e, show objs2.length + 1 + objs.length = objs.length + 1 + objs2.length by omega]
 exact reachN_map hi ht _ _ _ (fun x hx => hx)
theorem reach_closed {objs : List Th} {roots : List (Int × Int)} (hr : roots.all (valueP objs.length) = true) (hv : ∀ t ∈ objs, t.slots.all (valueP objs.length) = true) : RouteOk objs.length (reachP objs roots) ∧ (∀ v ∈ roots, v.1 = 3 → v.2 ∈ reachP objs roots) ∧ ∀ n ∈ reachP objs roots, ∀ v ∈ (thOf objs n).slots, v.1 = 3 → v.2 ∈ reachP objs roots := by
 obtain ⟨i, h, hi⟩ := reach_ok hr hv
 refine ⟨h.ok, h.rts, fun n hn v hv h3 => ?_⟩
 obtain ⟨j, hj, rfl⟩ := List.mem_iff_getElem.1 hn
 refine h.sls j (by omega) v ?_ h3
 rwa [List.getD_eq_getElem?_getD, List.getElem?_eq_getElem hj]
theorem find_map {f : Int → Int} {n : Int} : ∀ L : List Int, (∀ a ∈ L, f a = f n → a = n) → (L.map f).findIdx? (fun x => x == f n) = L.findIdx? (fun x => x == n)
 | [], _ => rfl
 | a :: r, h => by
  have e : (f a == f n) = (a == n) := by
   rw [Bool.eq_iff_iff, beq_iff_eq, beq_iff_eq]
   exact ⟨h a (.head _), fun e => by rw [e]⟩
  rw [List.map_cons, List.findIdx?_cons, List.findIdx?_cons, find_map r (fun a ha => h a (.tail _ ha)), e]
theorem place_map {f : Int → Int} {L : List Int} (hi : ∀ a ∈ L, ∀ b ∈ L, f a = f b → a = b) {n : Int} (hn : n ∈ L) : placeP (L.map f) (f n) = placeP L n := by
 rw [placeP, placeP, if_pos hn, if_pos (List.mem_map_of_mem hn), idxB, idxB, find_map L (fun a ha e => hi a ha n hn e)]
theorem moves_map {f : Int → Int} {L : List Int} (hi : ∀ a ∈ L, ∀ b ∈ L, f a = f b → a = b) {l : List (Int × Int)} (hl : ∀ v ∈ l, v.1 = 3 → v.2 ∈ L) : (l.map (move1 f)).map (move1 (placeP (L.map f))) = l.map (move1 (placeP L)) := by
 rw [List.map_map]
 refine List.map_congr_left fun v hv => ?_
 show move1 _ (move1 f v) = _
 unfold move1
 by_cases h3 : v.1 = 3
 ·rw [if_pos h3, if_pos h3]
  show (3, placeP (L.map f) (f v.2)) = _
  rw [place_map hi (hl v hv h3)]
 ·rw [if_neg h3, if_neg h3, if_neg h3]
theorem Iso.part {f : Int → Int} {objs objs2 : List Th} {roots : List (Int × Int)} (h : Iso f objs objs2 roots) (p : Prog) : partP p objs2 (roots.map (move1 f)) = partP p objs roots := by
 obtain ⟨_, h1, h2⟩ := reach_closed h.rs h.vs
 have e : partB p objs2 (roots.map (move1 f)) = partB p objs roots := by
  unfold partB
  rw [h.reach, moves_map h.inj h1]
  congr 1
  unfold listW
  rw [List.length_map, List.flatMap_map]
  congr 1
  have hg : ∀ n ∈ reachP objs roots, thW (objW ((reachP objs roots).map f) objs2 (f n)) = thW (objW (reachP objs roots) objs n) := fun n hn => by
   rw [objW, objW, h.th n hn]
   show thW ⟨(thOf objs n).cls, ((thOf objs n).slots.map (move1 f)).map _⟩ = _
   rw [moves_map h.inj (h2 n hn)]
  rw [List.flatMap_def, List.flatMap_def, List.map_congr_left hg]
 rw [partP, partP, e]
def ownP (objs : List Th) (roots : List (Int × Int)) : List Th := (reachP objs roots).map (objW (reachP objs roots) objs)
def ownR (objs : List Th) (roots : List (Int × Int)) : List (Int × Int) := roots.map (move1 (placeP (reachP objs roots)))
theorem place_at {L : List Int} {n : Int} (hn : n ∈ L) : ∃ i : Nat, i < L.length ∧ placeP L n = i ∧ L.getD i default = n := by
 rw [placeP, if_pos hn, idxB]
 cases h : L.findIdx? (fun x => x == n) with
 | none => rw [List.findIdx?_eq_none_iff] at h; have := h n hn; simp at this
 | some i =>
  obtain ⟨hi, h1, _⟩ := List.findIdx?_eq_some_iff_getElem.1 h
  exact ⟨i, hi, rfl, by rw [List.getD_eq_getElem?_getD, List.getElem?_eq_getElem hi]; exact beq_iff_eq.1 h1⟩
theorem value_place {L : List Int} {n : Nat} {v : Int × Int} (hv : valueP n v = true) (h3 : v.1 = 3 → v.2 ∈ L) : valueP L.length (move1 (placeP L) v) = true := by
 unfold move1
 by_cases e : v.1 = 3
 ·rw [if_pos e]
  obtain ⟨i, hi, h1, _⟩ := place_at (h3 e)
  rw [h1]
  simp only [valueP]
  simp; omega
 ·rw [if_neg e]
  unfold valueP at hv ⊢
  rw [if_neg e] at hv ⊢
  exact hv
theorem values_place {L : List Int} {n : Nat} {l : List (Int × Int)} (hv : l.all (valueP n) = true) (h3 : ∀ v ∈ l, v.1 = 3 → v.2 ∈ L) : (l.map (move1 (placeP L))).all (valueP L.length) = true := by
 rw [List.all_eq_true]
 intro x hx
 obtain ⟨v, hm, rfl⟩ := List.mem_map.1 hx
 exact value_place (List.all_eq_true.1 hv v hm) (h3 v hm)
theorem th_own {objs : List Th} {roots : List (Int × Int)} {n : Int} (hn : n ∈ reachP objs roots) : thOf (ownP objs roots) (placeP (reachP objs roots) n) = mapT (placeP (reachP objs roots)) (thOf objs n) := by
 obtain ⟨i, hi, h1, h2⟩ := place_at hn
 rw [h1, thOf, Int.toNat_natCast, ownP, List.getD_eq_getElem?_getD, List.getElem?_map, List.getElem?_eq_getElem hi]
 rw [List.getD_eq_getElem?_getD, List.getElem?_eq_getElem hi] at h2
 have h2 : (reachP objs roots)[i] = n := h2
 rw [h2]; rfl
theorem own_iso {objs : List Th} {roots : List (Int × Int)} (hr : roots.all (valueP objs.length) = true) (hv : ∀ t ∈ objs, t.slots.all (valueP objs.length) = true) : Iso (placeP (reachP objs roots)) objs (ownP objs roots) roots := by
 obtain ⟨h0, h1, h2⟩ := reach_closed hr hv
 have hl : (ownP objs roots).length = (reachP objs roots).length := by rw [ownP, List.length_map]
 refine ⟨hr, hv, by rw [hl]; exact values_place hr h1, fun t ht => ?_, fun a ha b hb e => ?_, fun n hn => th_own hn⟩
 ·rw [hl]
  obtain ⟨n, hn, rfl⟩ := List.mem_map.1 ht
  have hni := h0.in_ n hn
  exact values_place (hv _ (getD_memB (by omega))) (h2 n hn)
 ·obtain ⟨i, _, e1, e2⟩ := place_at ha
  obtain ⟨j, _, e3, e4⟩ := place_at hb
  rw [e1, e3] at e
  rw [← e2, ← e4, show i = j by omega]
theorem own_asked {p : Prog} {objs : List Th} {roots : List (Int × Int)} (h : askedP p objs roots = true) : askedP p (ownP objs roots) (ownR objs roots) = true ∧ partP p (ownP objs roots) (ownR objs roots) = partP p objs roots ∧ (ownP objs roots).length = (reachP objs roots).length := by
 obtain ⟨h1, h2, h3, h4⟩ := asked_parts h
 obtain ⟨h5, h6, h7⟩ := reach_closed h3 h4
 have hi := own_iso h3 h4
 have hl : (ownP objs roots).length = (reachP objs roots).length := by rw [ownP, List.length_map]
 refine ⟨?_, hi.part p, hl⟩
 have h0 := h
 simp only [askedP, checkP, rootedP, Bool.and_eq_true, decide_eq_true_eq] at h0 ⊢
 have hrl := h5.len
 refine ⟨⟨⟨h0.1.1.1, by omega⟩, List.all_eq_true.2 fun t ht => ?_⟩, by rw [ownR, List.length_map]; exact h2, hi.rs2⟩
 have hs := hi.vs2 t ht
 obtain ⟨n, hn, rfl⟩ := List.mem_map.1 ht
 have hni := h5.in_ n hn
 have ht0 := List.all_eq_true.1 h0.1.2 _ (getD_memB (l := objs) (k := n.toNat) (by omega))
 simp only [thingP, Bool.and_eq_true] at ht0 ⊢
 refine ⟨⟨ht0.1.1, ?_⟩, hs⟩
 rw [show (objW (reachP objs roots) objs n).slots.length = (objs.getD n.toNat default).slots.length by rw [objW, List.length_map]; rfl]
 exact ht0.1.2
def allP (others own : List Th) : List Th := others ++ own.map (shiftT others.length)
theorem value_more {n k : Nat} {v : Int × Int} (h : valueP n v = true) (hk : n ≤ k) : valueP k v = true := by
 unfold valueP at h ⊢
 split
 ·rename_i e; rw [if_pos e] at h; exact h
 ·rename_i e
  rw [if_neg e] at h
  split
  ·rename_i e2; rw [if_pos e2] at h; exact h
  ·rename_i e2
   rw [if_neg e2] at h
   split
   ·rename_i e3
    rw [if_pos e3, Bool.and_eq_true, decide_eq_true_eq, decide_eq_true_eq] at h
    rw [Bool.and_eq_true, decide_eq_true_eq, decide_eq_true_eq]; omega
   ·rename_i e3; rw [if_neg e3] at h; cases h
theorem value_shift {n k : Nat} {v : Int × Int} (h : valueP n v = true) : valueP (k + n : Nat) (move1 (· + (k : Int)) v) = true := by
 unfold move1
 by_cases e : v.1 = 3
 ·rw [if_pos e]
  have := valueP_obj h e
  simp only [valueP]
  simp; omega
 ·rw [if_neg e]
  exact value_more h (by omega)
theorem values_shift {n k : Nat} {l : List (Int × Int)} (h : l.all (valueP n) = true) : (l.map (move1 (· + (k : Int)))).all (valueP (k + n : Nat)) = true := by
 rw [List.all_eq_true]
 intro x hx
 obtain ⟨v, hm, rfl⟩ := List.mem_map.1 hx
 exact value_shift (List.all_eq_true.1 h v hm)
theorem all_len (others own : List Th) : (allP others own).length = others.length + own.length := by rw [allP, List.length_append, List.length_map]
theorem all_iso {others own : List Th} {roots : List (Int × Int)} (hr : roots.all (valueP own.length) = true) (hv : ∀ t ∈ own, t.slots.all (valueP own.length) = true) (ho : ∀ t ∈ others, t.slots.all (valueP others.length) = true) : Iso (· + (others.length : Int)) own (allP others own) roots := by
 obtain ⟨h0, _, _⟩ := reach_closed hr hv
 refine ⟨hr, hv, by rw [all_len]; exact values_shift hr, fun t ht => ?_, fun a _ b _ e => by have e : a + (others.length : Int) = b + (others.length : Int) := e; omega, fun n hn => ?_⟩
 ·rw [all_len]
  rcases List.mem_append.1 ht with ht | ht
  ·exact List.all_eq_true.2 fun v hm => value_more (List.all_eq_true.1 (ho t ht) v hm) (by omega)
  ·obtain ⟨t, hm, rfl⟩ := List.mem_map.1 ht
   exact values_shift (hv t hm)
 ·have hni := h0.in_ n hn
  show (allP others own).getD (n + (others.length : Int)).toNat default = mapT _ (own.getD n.toNat default)
  rw [allP, List.getD_eq_getElem?_getD, List.getElem?_append_right (by omega), show (n + (others.length : Int)).toNat - others.length = n.toNat by omega, List.getElem?_map, List.getD_eq_getElem?_getD, List.getElem?_eq_getElem (by omega)]; rfl
theorem all_asked {p : Prog} {others own : List Th} {roots : List (Int × Int)} (h : askedP p own roots = true) (ho : checkP p others = true) (hl : others.length + own.length ≤ 40) : askedP p (allP others own) (roots.map (move1 (· + (others.length : Int)))) = true ∧ partP p (allP others own) (roots.map (move1 (· + (others.length : Int)))) = partP p own roots := by
 obtain ⟨h1, h2, h3, h4⟩ := asked_parts h
 have h0 := h
 simp only [askedP, checkP, rootedP, Bool.and_eq_true, decide_eq_true_eq] at h0 ho ⊢
 have hov : ∀ t ∈ others, t.slots.all (valueP others.length) = true := fun t ht => by
  have := List.all_eq_true.1 ho.2 t ht
  simp only [thingP, Bool.and_eq_true] at this
  exact this.2
 have hi := all_iso h3 h4 hov
 refine ⟨⟨⟨⟨h0.1.1.1, by rw [all_len]; exact hl⟩, List.all_eq_true.2 fun t ht => ?_⟩, by rw [List.length_map]; exact h2, hi.rs2⟩, hi.part p⟩
 have hs := hi.vs2 t ht
 rcases List.mem_append.1 ht with hm | hm
 ·have := List.all_eq_true.1 ho.2 t hm
  simp only [thingP, Bool.and_eq_true] at this ⊢
  exact ⟨this.1, hs⟩
 ·obtain ⟨u, hu, rfl⟩ := List.mem_map.1 hm
  have := List.all_eq_true.1 h0.1.2 u hu
  simp only [thingP, Bool.and_eq_true] at this ⊢
  refine ⟨⟨this.1.1, ?_⟩, hs⟩
  rw [show (shiftT others.length u).slots.length = u.slots.length by rw [shiftT, List.length_map]]
  exact this.1.2
theorem partP_eq (p : Prog) (objs : List Th) (roots : List (Int × Int)) : partP p objs roots = 67 :: 80 :: ([⟨3, partB p objs roots, false⟩] : List Sec).flatMap fun s => secW s.kind s.body := by
 rw [partP]; simp
theorem partB_eq (p : Prog) (objs : List Th) (roots : List (Int × Int)) : partB p objs roots = sumR 1 (progW p) ++ (listW valW (ownR objs roots) ++ (listW thW (ownP objs roots) ++ [])) := by
 rw [partB, List.append_nil, List.append_assoc]
 congr 2
 rw [ownP, listW, listW, List.length_map, List.flatMap_map]
theorem part_len {p : Prog} {objs : List Th} {roots : List (Int × Int)} (h : askedP p objs roots = true) : (partP p objs roots).length ≤ 100000 ∧ (partB p objs roots).length ≤ 20000 := by
 have hk := ask_ok h
 have hpl : (partB p objs roots).length ≤ 20000 := partL_len (p := p) hk.po hk.rs hk.rl
 have hsl := secW_len (k := 3) (b := partB p objs roots) (by omega)
 exact ⟨by rw [partP, List.length_append]; show 2 + _ ≤ _; omega, hpl⟩
theorem part_bodies {p : Prog} {objs : List Th} {roots : List (Int × Int)} (h : askedP p objs roots = true) : bodiesR (partP p objs roots) 80 [3] = some [partB p objs roots] := by
 obtain ⟨_, h2⟩ := part_len h
 have hs := secs_fwd (([⟨3, partB p objs roots, false⟩] : List Sec).flatMap fun s => secW s.kind s.body).length [⟨3, partB p objs roots, false⟩] (fun s hs => by
   simp only [List.mem_cons, List.not_mem_nil, or_false] at hs
   subst hs
   exact ⟨rfl, by show (partB p objs roots).length ≤ _; omega⟩) (Nat.le_refl _)
 have hsp : splitR (partP p objs roots) = some (80, [⟨3, partB p objs roots, false⟩]) := by
  rw [partP_eq, splitR, Im.secsOf, hs]; rfl
 rw [bodies_yes hsp ⟨rfl, rfl⟩ (by rfl)]; rfl
theorem part_own {p : Prog} {objs : List Th} {roots : List (Int × Int)} (h : askedP p objs roots = true) : part1R (partP p objs roots) = some (sumR 1 (progW p), listW valW (ownR objs roots) ++ (listW thW (ownP objs roots) ++ [])) ∧ part2R p (partP p objs roots) (listW valW (ownR objs roots) ++ (listW thW (ownP objs roots) ++ [])) = some (ownR objs roots, ownP objs roots) := by
 have e := partB_eq p objs roots
 obtain ⟨h1, h2, h3⟩ := own_asked h
 obtain ⟨g1, g2, g3, g4⟩ := asked_parts h1
 have hk := ask_ok h1
 refine ⟨?_, ?_⟩
 ·rw [part1R, part_bodies h]
  simp only
  rw [e, List.length_append, sumR_len, if_pos (by omega)]
  rw [show (4 : Nat) = (sumR 1 (progW p)).length by rw [sumR_len], List.take_left, List.drop_left]
 ·have v1 := list_fwd0 (R := valR (σ := Unit)) (f := valW) (ok := fun v => valueP (ownP objs roots).length v = true) (fun s x r h => val_fwd (by omega) h s r) (fun x => pos_left (numI_pos _)) (l := ownR objs roots) (by omega) (List.all_eq_true.1 g3) () (listW thW (ownP objs roots) ++ [])
  have v2 := list_fwd0 (R := thR (σ := Unit) p) (f := thW) (ok := fun t => thingP p (ownP objs roots).length t = true) (fun s x r h => th_fwd (by omega) h s r) (fun x => pos_left (numI_pos _)) (l := ownP objs roots) (by omega) (by
   simp only [askedP, checkP, Bool.and_eq_true] at h1
   exact List.all_eq_true.1 h1.1.2) () []
  rw [part2_go v1 v2]
  exact if_pos ⟨rfl, h1, h2.symm⟩
theorem load_part {p : Prog} {objs others : List Th} {roots : List (Int × Int)} (h : askedP p objs roots = true) (hc : checkP p others = true) : loadR p others (partP p objs roots) = if others.length + (reachP objs roots).length ≤ 40 then .ok (allP others (ownP objs roots)) ((ownR objs roots).map (move1 (· + (others.length : Int)))) else .long := by
 obtain ⟨h1, h2⟩ := part_own h
 obtain ⟨_, _, h3⟩ := own_asked h
 rw [load_on hc h1 rfl, h2]
 simp only [h3]; rfl
def lo : LoadE → List Th
 | .ok l _ => l
 | _ => []
def lr : LoadE → List (Int × Int)
 | .ok _ l => l
 | _ => []
def le_ : LoadE → Int
 | .arg => 2
 | .text => 4
 | .rule => 7
 | .long => 3
 | .ok _ _ => 0
theorem loadU {p : Prog} {objs others : List Th} {roots : List (Int × Int)} (hp : p.Small) (h : askedP p objs roots = true) : PCall Tryz.prog 30 [AV.prog p, AV.ths others, u8s (partQ p objs roots)] (.tup [AV.ths (lo (loadR p others (partP p objs roots))), AV.mvs (lr (loadR p others (partP p objs roots))), .i (le_ (loadR p others (partP p objs roots)))]) := by
 have h1 := loadC hp others (partP p objs roots) (Nat.le_trans (part_len h).1 (by decide))
 rw [partQ, if_pos h]
 rcases e : loadR p others (partP p objs roots) with _ | _ | _ | _ | ⟨l, r⟩ <;> (rw [e] at h1; exact h1)
theorem load_arg {p : Prog} {others : List Th} {b : List U8} (hc : checkP p others = false) : loadR p others b = .arg := by rw [loadR, if_neg (by rw [hc]; simp)]
structure Saved (p : Prog) (objs others : List Th) (roots : List (Int × Int)) : Prop where
 alike : alikeP p objs roots (allP others (ownP objs roots)) ((ownR objs roots).map (move1 (· + (others.length : Int)))) = true
 asked : askedP p (allP others (ownP objs roots)) ((ownR objs roots).map (move1 (· + (others.length : Int)))) = true
 part : partP p (allP others (ownP objs roots)) ((ownR objs roots).map (move1 (· + (others.length : Int)))) = partP p objs roots
 check : checkP p (allP others (ownP objs roots)) = true
 len : (allP others (ownP objs roots)).length = others.length + (reachP objs roots).length
theorem saved {p : Prog} {objs others : List Th} {roots : List (Int × Int)} (h : askedP p objs roots = true) (hc : checkP p others = true) (hl : others.length + (reachP objs roots).length ≤ 40) : Saved p objs others roots := by
 obtain ⟨h1, h2, h3⟩ := own_asked h
 obtain ⟨h4, h5⟩ := all_asked h1 hc (by omega)
 refine ⟨?_, h4, by rw [h5, h2], ?_, by rw [all_len, h3]⟩
 ·rw [alikeP, h, h4, h5, h2]; simp
 ·simp only [askedP, Bool.and_eq_true] at h4; exact h4.1
end Go.Proofs.YtpgnjlngepfanaaGreat
