/- Part 10 of the proof: contracts of functions of the program and what they need. No condition beyond those that each theorem names. -/
import Derived.Test.YtiljpbljebfhnaaGreatHoP9
import Derived.ProofKit
set_option linter.unusedVariables false
set_option linter.unusedSimpArgs false
set_option maxRecDepth 10000
namespace Go.Proofs.YtiljpbljebfhnaaGreat
open Go.Eng
open Go.Eng.Fc
/-! ### the reference and what is known: the same answers -/
theorem sp_lit {l : FLit} (h : l.f.op ≤ 4) : spR (litF l) = (l.f, l.neg) := by
  unfold spR litF
  by_cases hn : l.neg = true
  · rw [if_pos hn, if_pos (by rfl), hn]; rfl
  · rw [if_neg hn, if_neg (by omega), Bool.eq_false_iff.2 hn]
theorem any_fact {ls : List FLit} {q : Fact → Bool} {r : FLit → Bool} (h : ∀ l ∈ ls, q (litF l) = r l) : (factL ls).any q = ls.any r := by
  rw [factL, List.any_map]; exact any_congr_mem fun x hx => h x hx
structure LsOk (W : FW) (ls : List FLit) : Prop where
  w : worldP W = true
  ok : ∀ l ∈ ls, LitOk W l
  cls : ∀ l ∈ ls, l.f.op = 2 → l.f.cls < 3 + W.parents.length
section
variable {W : FW} {ls : List FLit} (h : LsOk W ls)
include h
theorem LsOk.sp {l : FLit} (hl : l ∈ ls) : spR (litF l) = (l.f, l.neg) := sp_lit (h.ok l hl).op.2
theorem LsOk.at (a : Int) (p : List Int) : stage2 ls a p = ls.foldl (touchIf a p) kn0 := stage_at (fun l hl => (h.ok l hl).path) a p
theorem LsOk.need (a : Int) (p : List Int) : (stage2 ls a p).needed = ls.any (needL a p) := by rw [h.at, fold_needed]; rfl
theorem LsOk.must (a : Int) (p : List Int) (c : Nat) : (stage2 ls a p).must.testBit c = ls.any (isL a p false c) := by rw [h.at, fold_must]; simp [kn0]
theorem LsOk.no (a : Int) (p : List Int) (c : Nat) : (stage2 ls a p).no.testBit c = ls.any (isL a p true c) := by rw [h.at, fold_no]; simp [kn0]
theorem LsOk.whole (a : Int) (p : List Int) : (stage2 ls a p).whole = ls.any (wholeL a p) := by rw [h.at, fold_whole]; rfl
theorem LsOk.tri (a : Int) (p : List Int) : tri (stage2 ls a p) = (ls.filter (hitL a p)).foldl numStep rs0 := by rw [h.at, fold_tri]; rfl
theorem LsOk.slots (a : Int) (p : List Int) (x : Int) : x ∈ (stage2 ls a p).slots ↔ ls.any (wayL a (p ++ [x])) = true := by rw [h.at, fold_slots]; simp [kn0]
theorem LsOk.lt (a : Int) (p : List Int) : (stage2 ls a p).slots.Pairwise (· < ·) := by rw [h.at]; exact fold_lt a p ls _ (by simp [kn0])
theorem way_stage (a : Int) (p : List Int) : (factL ls).any (wayR a p) = ls.any (wayL a p) :=
  any_fact fun l hl => by rw [wayR, h.sp hl]; rfl
theorem slots_stage (a : Int) (p : List Int) : slotsR W (factL ls) a p = (stage2 ls a p).slots := by
  refine lt_eq ?_ (h.lt a p) fun x => ?_
  · rw [slotsR]
    refine List.Pairwise.filter _ ?_
    rw [List.pairwise_map]
    exact List.pairwise_lt_range.imp fun h' => by omega
  · rw [h.slots, slotsR, List.mem_filter, way_stage h]
    constructor
    · exact fun h' => h'.2
    · intro h'
      refine ⟨?_, h'⟩
      obtain ⟨l, hl, hw⟩ := List.any_eq_true.1 h'
      rw [wayL, Bool.and_eq_true, beg_iff] at hw
      have hx : x ∈ l.f.path := hw.2.subset (by simp)
      have := (h.ok l hl).slot x hx
      exact List.mem_map.2 ⟨x.toNat, List.mem_range.2 (by omega), by omega⟩
/-! bits -/
omit h in
theorem andNot_bit (s t c : Nat) : (andNotP s t).testBit c = (decide (c < 64) && s.testBit c && !t.testBit c) := by
  rw [andNotP, BitVec.testBit_toNat, BitVec.getLsbD_and, BitVec.getLsbD_not, BitVec.getLsbD_ofNat, BitVec.getLsbD_ofNat]
  cases decide (c < 64) <;> simp
omit h in
theorem zero_bits {n : Nat} : ((n : Int) == 0) = true ↔ ∀ c, n.testBit c = false := by
  rw [beq_iff_eq]
  constructor
  · intro e c; have : n = 0 := by omega
    rw [this]; exact Nat.zero_testBit c
  · intro e
    have : n = 0 := Nat.eq_of_testBit_eq fun c => by rw [e, Nat.zero_testBit]
    omega
omit h in
theorem upK_bit (cls : Int) (c : Nat) : (upK cls).testBit c = (c == 0 || c == cls.toNat) := by
  rw [upK, Nat.testBit_or, Nat.testBit_two_pow]
  congr 1
  · rcases c with _ | c
    · rfl
    · rw [Nat.testBit_succ]; simp
  · rw [Bool.eq_iff_iff, decide_eq_true_iff, beq_iff_eq]; exact eq_comm
theorem LsOk.must_lt {a : Int} {p : List Int} {c : Nat} (hc : (stage2 ls a p).must.testBit c = true) : c < 3 + W.parents.length := by
  rw [h.must] at hc
  obtain ⟨l, hl, hh⟩ := List.any_eq_true.1 hc
  simp only [isL, Bool.and_eq_true, beq_iff_eq] at hh
  have h1 := (h.ok l hl).cls hh.1.1.2
  have h2 := h.cls l hl hh.1.1.2
  omega
theorem plain_iff (a : Int) (p : List Int) (cls : Int) : plain2 (stage2 ls) a p cls = true ↔ (∀ c, (stage2 ls a p).must.testBit c = true → c = 0 ∨ c = cls.toNat) ∧ (∀ c, c = 0 ∨ c = cls.toNat → (stage2 ls a p).no.testBit c = false) ∧ ends2 (stage2 ls) a p = true := by
  have hW := world_len h.w
  rw [plain2, Bool.and_eq_true, Bool.and_eq_true, zero_bits, zero_bits, and_assoc]
  refine and_congr ?_ (and_congr ?_ Iff.rfl)
  · refine forall_congr' fun c => ?_
    rw [andNot_bit, upK_bit]
    constructor
    · intro h1 h2
      have := h.must_lt h2
      rw [h2, decide_eq_true (by omega)] at h1
      by_cases hc : c = 0
      · exact .inl hc
      · right; simp at h1; exact h1 hc
    · intro h1
      cases hm : (stage2 ls a p).must.testBit c with
      | false => simp
      | true => rcases h1 hm with e | e <;> simp [e]
  · refine forall_congr' fun c => ?_
    rw [Nat.testBit_and, upK_bit]
    constructor
    · intro h1 h2
      rcases h2 with e | e <;> simpa [e] using h1
    · intro h1
      by_cases hc : c = 0 ∨ c = cls.toNat
      · rw [h1 hc]; rfl
      · have : (c == 0 || c == cls.toNat) = false := by simpa [not_or] using hc
        rw [this, Bool.and_false]
/-! integers -/
omit h in
omit h in
omit h in
/-! none -/
omit h in
end
end Go.Proofs.YtiljpbljebfhnaaGreat

set_option linter.unusedVariables false
set_option linter.unusedSimpArgs false
set_option maxRecDepth 10000
namespace Go.Proofs.YtiljpbljebfhnaaGreat
open Go.Eng
open Go.Eng.Fc
/-! ### objects -/
structure LitN (N : Nat) (l : FLit) : Prop where
  op : l.f.op ≤ 4
  cls : l.f.op = 2 → 0 ≤ l.f.cls ∧ l.f.cls < N
/-! the classes above -/
theorem closeK_get {W : FW} (h : worldP W = true) : ∀ (f c mu : Nat), c + f = 3 + W.parents.length → ∀ b, (closeK W f c mu).testBit b = true ↔ mu.testBit b = true ∨ ∃ i, c ≤ i ∧ i < c + f ∧ mu.testBit i = true ∧ upB W i b = true
  | 0, c, mu, _, b => by
    rw [closeK]
    exact ⟨.inl, fun h => h.elim id fun ⟨i, h1, h2, _⟩ => by omega⟩
  | f + 1, c, mu, hc, b => by
    rw [closeK, closeK_get h f (c + 1) _ (by omega)]
    by_cases hm : mu.testBit c = true
    · rw [if_pos hm]
      simp only [Nat.testBit_or, Bool.or_eq_true]
      constructor
      · rintro ((h1 | h1) | ⟨i, h1, h2, h3 | h3, h4⟩)
        · exact .inl h1
        · exact .inr ⟨c, by omega, by omega, hm, h1⟩
        · exact .inr ⟨i, by omega, by omega, h3, h4⟩
        · exact .inr ⟨c, by omega, by omega, hm, upB_trans h c c (Nat.le_refl _) (by omega) i b h3 h4⟩
      · rintro (h1 | ⟨i, h1, h2, h3, h4⟩)
        · exact .inl (.inl h1)
        · by_cases e : i = c
          · subst e; exact .inl (.inr h4)
          · exact .inr ⟨i, by omega, by omega, .inl h3, h4⟩
    · rw [if_neg hm]
      constructor
      · rintro (h1 | ⟨i, h1, h2, h3, h4⟩)
        · exact .inl h1
        · exact .inr ⟨i, by omega, by omega, h3, h4⟩
      · rintro (h1 | ⟨i, h1, h2, h3, h4⟩)
        · exact .inl h1
        · by_cases e : i = c
          · subst e; exact absurd h3 hm
          · exact .inr ⟨i, by omega, by omega, h3, h4⟩
/-- the marks and the sets say the same -/
structure Marks (W : FW) (t : MS) (must no : Nat) : Prop where
  l1 : t.1.length = 3 + W.parents.length
  l2 : t.2.length = 3 + W.parents.length
  m : ∀ c, must.testBit c = t.1.getD c false
  n : ∀ c, c ≠ 1 → c ≠ 2 → no.testBit c = t.2.getD c false
  m1 : must.testBit 1 = false
  m2 : must.testBit 2 = false
theorem or_bit {s c b : Nat} : (s ||| 2 ^ c).testBit b = (s.testBit b || b == c) := by
  rw [Nat.testBit_or, Nat.testBit_two_pow]
  congr 1
  rw [Bool.eq_iff_iff, decide_eq_true_iff, beq_iff_eq]; exact eq_comm
section
variable {W : FW} {ls : List FLit} (h : LsOk W ls)
include h
end
end Go.Proofs.YtiljpbljebfhnaaGreat

set_option linter.unusedVariables false
set_option linter.unusedSimpArgs false
set_option maxRecDepth 10000
namespace Go.Proofs.YtiljpbljebfhnaaGreat
open Go.Eng
open Go.Eng.Fc
/-! ### the reference: cases -/
end Go.Proofs.YtiljpbljebfhnaaGreat

set_option linter.unusedVariables false
set_option linter.unusedSimpArgs false
set_option maxRecDepth 10000
namespace Go.Proofs.YtiljpbljebfhnaaGreat
open Go.Eng
open Go.Eng.Fc
end Go.Proofs.YtiljpbljebfhnaaGreat

set_option linter.unusedVariables false
set_option linter.unusedSimpArgs false
set_option maxRecDepth 10000
namespace Go.Proofs.YtiljpbljebfhnaaGreat
open Go.Eng
open Go.Eng.Fc
theorem case_ls {W : FW} (hW : worldP W = true) {f : Fact} (hw : wfB W f = true) {b : Bool} {c : List FLit} (hc : c ∈ casesP f b) : LsOk W c :=
  ⟨hW, fun l hl => let ⟨x, y⟩ := wf_lits f hw b c hc l hl; lit_ok hW x y, fun l hl h2 => by
    obtain ⟨h3, h4⟩ := wf_lits f hw b c hc l hl
    simp only [nodeOkB, Bool.and_eq_true] at h3
    have h5 := h3.2
    rw [if_pos h4] at h5
    simp only [Bool.and_eq_true, leafOkP, if_pos h2, classP, decide_eq_true_eq] at h5
    exact h5.2.2.2⟩
end Go.Proofs.YtiljpbljebfhnaaGreat

set_option linter.unusedVariables false
set_option linter.unusedSimpArgs false
set_option maxRecDepth 10000
namespace Go.Proofs.YtiljpbljebfhnaaGreat
open Go.Eng
open Go.Eng.Fc
theorem good_f1 {W : FW} {f : Fact} (h : goodP W [f] = true) : worldP W = true ∧ formedP W f = true ∧ wfB W f = true ∧ nodesN f ≤ 24 := by
  rw [good1, Bool.and_eq_true] at h
  exact ⟨h.1, h.2, formed_wf h.2⟩
end Go.Proofs.YtiljpbljebfhnaaGreat

set_option linter.unusedVariables false
set_option linter.unusedSimpArgs false
set_option maxRecDepth 10000
namespace Go.Proofs.YtiljpbljebfhnaaGreat
open Go.Eng
open Go.Eng.Fc
/-! ### models: what stands at each path of each argument -/
inductive Val where
  | int (n : Int)
  | non
  | obj (S : Nat → Bool)
abbrev VM := Int → List Int → Option Val
def isC : Val → Nat → Bool
  | .int _, c => c == 0 || c == 1
  | .non, c => c == 0 || c == 2
  | .obj S, c => S c

structure VOk (W : FW) (V : VM) : Prop where
  root : ∀ a, 0 ≤ a → a < 3 → (V a []).isSome = true
  int : ∀ a p n, V a p = some (.int n) → -1000000000 ≤ n ∧ n ≤ 1000000000
  obj : ∀ a p S, V a p = some (.obj S) → S 0 = true ∧ S 1 = false ∧ S 2 = false ∧ ∀ c, c < 3 + W.parents.length → S c = true → ∀ b, upB W c b = true → S b = true
  step : ∀ (a : Int) (p : List Int) (s : Int), 0 ≤ s → s < (W.owner.length : Int) → ((V a (p ++ [s])).isSome = true ↔ ∃ S, V a p = some (.obj S) ∧ S (ownerN W s) = true)
def numV (n : Int) (f : Fact) : Bool := if f.op = 3 then decide (n < f.n) else n == f.n
def valL (f : Fact) (v : Val) : Bool := if f.op = 2 then isC v f.cls.toNat else match v with
  | .int n => numV n f
  | _ => false
def evL (V : VM) (f : Fact) : Bool := match V f.arg f.path with
  | none => false
  | some v => valL f v
theorem valL_is {f : Fact} {v : Val} (h : f.op = 2) : valL f v = isC v f.cls.toNat := by unfold valL; exact if_pos h
theorem valL_no {f : Fact} {v : Val} (h : ¬f.op = 2) : valL f v = (match v with | .int n => numV n f | _ => false) := by unfold valL; exact if_neg h
def litV (V : VM) (l : FLit) : Bool := evL V l.f != l.neg
mutual
def ev (V : VM) : Fact → Bool
  | .mk op arg path cls n kids =>
    if op = 1 then true
    else if op = 5 then !((evs V kids).getD 0 false)
    else if op = 6 then (evs V kids).getD 0 false && (evs V kids).getD 1 false
    else if op = 7 then (evs V kids).getD 0 false || (evs V kids).getD 1 false
    else evL V (.mk op arg path cls n kids)
def evs (V : VM) : List Fact → List Bool
  | [] => []
  | k :: r => ev V k :: evs V r
end
theorem evs_at (V : VM) : ∀ (l : List Fact) (i : Nat), i < l.length → (evs V l).getD i false = ev V (l.getD i default)
  | [], i, h => by simp at h
  | k :: r, 0, h => by rw [evs]; rfl
  | k :: r, i + 1, h => by rw [evs]; exact evs_at V r i (by simpa using h)
theorem ev_true {V : VM} {f : Fact} (h : f.op = 1) : ev V f = true := by cases f; rw [ev]; exact if_pos h
theorem ev_not {V : VM} {f : Fact} (h : f.op = 5) (hk : 0 < f.kids.length) : ev V f = !ev V (f.kids.getD 0 default) := by
  rw [← evs_at V f.kids 0 hk]; cases f; rw [ev]; simp only [Fact.op] at h; subst h; rfl
theorem ev_and {V : VM} {f : Fact} (h : f.op = 6) (hk : 1 < f.kids.length) : ev V f = (ev V (f.kids.getD 0 default) && ev V (f.kids.getD 1 default)) := by
  rw [← evs_at V f.kids 0 (by omega), ← evs_at V f.kids 1 hk]; cases f; rw [ev]; simp only [Fact.op] at h; subst h; rfl
theorem ev_or {V : VM} {f : Fact} (h : f.op = 7) (hk : 1 < f.kids.length) : ev V f = (ev V (f.kids.getD 0 default) || ev V (f.kids.getD 1 default)) := by
  rw [← evs_at V f.kids 0 (by omega), ← evs_at V f.kids 1 hk]; cases f; rw [ev]; simp only [Fact.op] at h; subst h; rfl
theorem ev_leaf {V : VM} {f : Fact} (h : leafP f = true) : ev V f = evL V f := by
  simp only [leafP, Bool.and_eq_true, decide_eq_true_eq] at h
  cases f; simp only [Fact.op] at h; rw [ev, if_neg (by omega), if_neg (by omega), if_neg (by omega), if_neg (by omega)]
theorem joinStep_all (q : FLit → Bool) (out : List FLit) (x : FLit) : (joinStep out x).all q = (out.all q && q x) := by
  unfold joinStep
  split
  · rename_i h
    obtain ⟨y, hy, hh⟩ := List.any_eq_true.1 h
    rw [Bool.and_eq_true, beq_iff_eq, beq_iff_eq] at hh
    have e : x = y := by cases x; cases y; simp at hh; rw [hh.1, hh.2]
    subst e
    rw [Bool.eq_iff_iff, Bool.and_eq_true, List.all_eq_true]
    exact ⟨fun h => ⟨h, h x hy⟩, fun h => h.1⟩
  · rw [List.all_append]; simp
theorem joined_all (q : FLit → Bool) : ∀ (b a : List FLit), (joinedP a b).all q = (a.all q && b.all q)
  | [], a => by simp [joinedP]
  | x :: r, a => by
    show (joinedP (joinStep a x) r).all q = _
    rw [joined_all q r, joinStep_all, List.all_cons, Bool.and_assoc]
theorem any_both {A B : List (List FLit)} (q : FLit → Bool) : ((A.flatMap fun a => B.map (joinedP a)).any fun ls => ls.all q) = ((A.any fun ls => ls.all q) && B.any fun ls => ls.all q) := by
  induction A with
  | nil => rfl
  | cons a r ih =>
    rw [List.flatMap_cons, List.any_append, ih, List.any_map, List.any_cons]
    have e : B.any ((fun ls => ls.all q) ∘ joinedP a) = (a.all q && B.any fun ls => ls.all q) := by
      clear ih
      induction B with
      | nil => simp
      | cons b s ihs =>
        rw [List.any_cons, ihs, List.any_cons]
        show ((joinedP a b).all q || _) = _
        rw [joined_all]; cases a.all q <;> simp
    rw [e]
    cases a.all q <;> cases (B.any fun ls => ls.all q) <;> simp
theorem cases_ev (V : VM) : ∀ f : Fact, okB f = true → ∀ c, ((casesP f c).any fun ls => ls.all (litV V)) = (ev V f != c) := by
  refine Fact.ind1 fun f ih hok c => ?_
  have hp := ok_parts hok
  by_cases h1 : f.op = 1
  · rw [cases_true h1, ev_true h1]; cases c <;> rfl
  by_cases h5 : f.op = 5
  · have hk := kids_one hok h5
    rw [cases_not h5 (by omega), ih _ (getD_mem (by omega)) (hp.2.2.2.2 _ (getD_mem (by omega))), ev_not h5 (by omega)]
    cases ev V (f.kids.getD 0 default) <;> cases c <;> rfl
  by_cases hlf : leafP f = true
  · rw [cases_leaf h1 h5 hlf, ev_leaf hlf]; simp [litV]
  · have hlf' : leafP f = false := by simpa using hlf
    have hk := kids_two hok h1 h5 hlf'
    have i0 := ih (f.kids.getD 0 default) (getD_mem (by omega)) (hp.2.2.2.2 _ (getD_mem (by omega))) c
    have i1 := ih (f.kids.getD 1 default) (getD_mem (by omega)) (hp.2.2.2.2 _ (getD_mem (by omega))) c
    have h67 : f.op = 6 ∨ f.op = 7 := by simp only [leafP, Bool.and_eq_false_iff, decide_eq_false_iff_not] at hlf'; omega
    cases hc : (c == (f.op == 6)) with
    | true =>
      rw [cases_either h1 h5 hlf' hc (by omega), List.any_append, i0, i1]
      rcases h67 with e | e
      · rw [ev_and e (by omega)]; rw [e] at hc
        cases c
        · cases hc
        · cases ev V (f.kids.getD 0 default) <;> cases ev V (f.kids.getD 1 default) <;> rfl
      · rw [ev_or e (by omega)]; rw [e] at hc
        cases c
        · cases ev V (f.kids.getD 0 default) <;> cases ev V (f.kids.getD 1 default) <;> rfl
        · cases hc
    | false =>
      rw [cases_both h1 h5 hlf' hc (by omega), any_both, i0, i1]
      rcases h67 with e | e
      · rw [ev_and e (by omega)]; rw [e] at hc
        cases c
        · cases ev V (f.kids.getD 0 default) <;> cases ev V (f.kids.getD 1 default) <;> rfl
        · cases hc
      · rw [ev_or e (by omega)]; rw [e] at hc
        cases c
        · cases hc
        · cases ev V (f.kids.getD 0 default) <;> cases ev V (f.kids.getD 1 default) <;> rfl
/-! numbers -/
def numOk (n : Int) (l : FLit) : Bool := l.f.op == 2 || numV n l.f != l.neg
theorem num_fold (n : Int) : ∀ (r : List FLit) (s : RS), (∀ l ∈ r, 2 ≤ l.f.op ∧ l.f.op ≤ 4) → (((r.foldl numStep s).1 ≤ n ∧ n ≤ (r.foldl numStep s).2.1 ∧ n ∉ (r.foldl numStep s).2.2) ↔ (s.1 ≤ n ∧ n ≤ s.2.1 ∧ n ∉ s.2.2) ∧ ∀ l ∈ r, numOk n l = true)
  | [], s, _ => by simp
  | l :: r, s, ho => by
    have hl := ho l (.head _)
    rw [List.foldl_cons, num_fold n r _ (fun x hx => ho x (.tail _ hx))]
    have key : ((numStep s l).1 ≤ n ∧ n ≤ (numStep s l).2.1 ∧ n ∉ (numStep s l).2.2) ↔ (s.1 ≤ n ∧ n ≤ s.2.1 ∧ n ∉ s.2.2) ∧ numOk n l = true := by
      unfold numStep numOk numV maxI minI
      by_cases h2 : l.f.op = 2
      · simp [h2]
      · have hb : (l.f.op == 2) = false := by simpa using h2
        rw [if_neg h2, hb, Bool.false_or]
        by_cases h3 : l.f.op = 3
        · rw [if_pos h3, if_pos h3]
          cases hn : l.neg
          · simp only [Bool.false_eq_true, if_false]
            by_cases hq : n ∈ s.2.2 <;> simp [hq] <;> split <;> omega
          · simp only [if_true]
            by_cases hq : n ∈ s.2.2 <;> simp [hq] <;> split <;> omega
        · rw [if_neg h3, if_neg h3]
          cases hn : l.neg
          · simp only [Bool.false_eq_true, if_false]
            by_cases hq : n ∈ s.2.2 <;> simp [hq] <;> (repeat' split) <;> omega
          · simp only [if_true]
            by_cases hq : n ∈ s.2.2 <;> simp [hq] <;> omega
    rw [key, and_assoc]
    refine and_congr Iff.rfl ?_
    constructor
    · rintro ⟨h1, h2⟩ x hx
      rcases List.mem_cons.1 hx with rfl | hx
      · exact h1
      · exact h2 x hx
    · intro h; exact ⟨h l (.head _), fun x hx => h x (.tail _ hx)⟩
theorem freeF_spec (nots : List Int) : ∀ (f : Nat) (n : Int), aboveN nots n < f → freeF nots f n ∉ nots ∧ n ≤ freeF nots f n ∧ ∀ x, n ≤ x → x ∉ nots → freeF nots f n ≤ x
  | 0, n, h => by omega
  | f + 1, n, h => by
    rw [freeF]
    by_cases hc : nots.contains n = true
    · rw [if_pos hc]
      have := above_step hc
      obtain ⟨i1, i2, i3⟩ := freeF_spec nots f (n + 1) (by omega)
      refine ⟨i1, by omega, fun x hx hm => i3 x ?_ hm⟩
      by_cases e : x = n
      · subst e; exact absurd (List.contains_iff_mem.1 hc) hm
      · omega
    · rw [if_neg hc]
      exact ⟨fun hm => hc (List.contains_iff_mem.2 hm), Int.le_refl _, fun x hx _ => hx⟩
theorem freeK_spec (nots : List Int) (n : Int) : freeK nots n ∉ nots ∧ n ≤ freeK nots n ∧ ∀ x, n ≤ x → x ∉ nots → freeK nots n ≤ x := freeF_spec nots _ n (by omega)
end Go.Proofs.YtiljpbljebfhnaaGreat

set_option linter.unusedVariables false
set_option linter.unusedSimpArgs false
set_option maxRecDepth 10000
namespace Go.Proofs.YtiljpbljebfhnaaGreat
open Go.Eng
open Go.Eng.Fc
/-! ### what has a model can be so -/
section
variable {W : FW} {ls : List FLit} (h : LsOk W ls)
include h
theorem slot_in {a : Int} {p : List Int} {s : Int} (hs : s ∈ (stage2 ls a p).slots) : 0 ≤ s ∧ s < W.owner.length := by
  rw [← slots_stage h] at hs; exact slot_rng hs
theorem slot_len {a : Int} {p : List Int} {s : Int} (hs : s ∈ (stage2 ls a p).slots) : p.length < 2 := by
  rw [h.slots] at hs
  obtain ⟨l, hl, hw⟩ := List.any_eq_true.1 hs
  rw [wayL, Bool.and_eq_true] at hw
  have h1 := beg_len hw.2
  have := (h.ok l hl).path
  rw [List.length_append] at h1; simp at h1; omega
omit h in
theorem some_prefix {V : VM} (hV : VOk W V) {a : Int} : ∀ (r p : List Int), (∀ s ∈ r, 0 ≤ s ∧ s < W.owner.length) → (V a (p ++ r)).isSome = true → (V a p).isSome = true
  | [], p, _, hs => by simpa using hs
  | s :: r, p, hr, hs => by
    have h1 := some_prefix hV r (p ++ [s]) (fun x hx => hr x (.tail _ hx)) (by simpa using hs)
    obtain ⟨S, hS, _⟩ := (hV.step a p s (hr s (.head _)).1 (hr s (.head _)).2).1 h1
    rw [hS]; rfl
theorem need_some {V : VM} (hV : VOk W V) (hl : ∀ l ∈ ls, litV V l = true) {a : Int} {p : List Int} (hn : (stage2 ls a p).needed = true) : (V a p).isSome = true := by
  rw [h.need] at hn
  obtain ⟨l, hm, hh⟩ := List.any_eq_true.1 hn
  simp only [needL, wayL, Bool.and_eq_true, Bool.not_eq_true', beq_iff_eq] at hh
  obtain ⟨hneg, rfl, hb⟩ := hh
  obtain ⟨r, hr⟩ := beg_iff.1 hb
  have h1 := hl l hm
  rw [litV, hneg, bne_iff_ne, ne_eq, Bool.not_eq_false, evL] at h1
  refine some_prefix hV r p (fun s hs => (h.ok l hm).slot s (by rw [← hr]; exact List.mem_append_right _ hs)) ?_
  rw [hr]
  cases hv : V l.f.arg l.f.path with
  | none => rw [hv] at h1; cases h1
  | some v => rfl
section
variable {V : VM} (hV : VOk W V) (hl : ∀ l ∈ ls, litV V l = true) {a : Int} {p : List Int} {v : Val} (hv : V a p = some v)
include hV hl hv
theorem lit_val {l : FLit} (hm : l ∈ ls) (hh : hitL a p l = true) : (valL l.f v != l.neg) = true := by
  have _ := h
  have _ := hV
  have h1 := hl l hm
  rw [hitL, Bool.and_eq_true, beq_iff_eq, beq_iff_eq] at hh
  rw [litV, evL, hh.1, hh.2, hv] at h1
  exact h1
theorem must_is {c : Nat} (hc : (stage2 ls a p).must.testBit c = true) : isC v c = true := by
  rw [h.must] at hc
  obtain ⟨l, hm, hh⟩ := List.any_eq_true.1 hc
  simp only [isL, Bool.and_eq_true, beq_iff_eq] at hh
  have := lit_val h hV hl hv hm hh.1.1.1
  rw [valL_is hh.1.1.2, hh.1.2, hh.2] at this
  simpa using this
theorem no_is {c : Nat} (hc : (stage2 ls a p).no.testBit c = true) : isC v c = false := by
  rw [h.no] at hc
  obtain ⟨l, hm, hh⟩ := List.any_eq_true.1 hc
  simp only [isL, Bool.and_eq_true, beq_iff_eq] at hh
  have := lit_val h hV hl hv hm hh.1.1.1
  rw [valL_is hh.1.1.2, hh.1.2, hh.2] at this
  simpa using this
theorem whole_is (hw : (stage2 ls a p).whole = true) : ∃ n, v = .int n := by
  rw [h.whole] at hw
  obtain ⟨l, hm, hh⟩ := List.any_eq_true.1 hw
  simp only [wholeL, Bool.and_eq_true, bne_iff_ne, Bool.not_eq_true'] at hh
  have := lit_val h hV hl hv hm hh.1.1
  rw [valL_no hh.1.2, hh.2] at this
  cases v with
  | int n => exact ⟨n, rfl⟩
  | non => cases this
  | obj S => cases this
theorem next_is {s : Int} (hs : s ∈ (stage2 ls a p).slots) (hn : (stage2 ls a (p ++ [s])).needed = true) : ∃ S, v = .obj S ∧ S (ownerN W s) = true := by
  have hr := slot_in h hs
  obtain ⟨S, e, hS⟩ := (hV.step a p s hr.1 hr.2).1 (need_some h hV hl hn)
  rw [hv] at e
  exact ⟨S, Option.some.inj e, hS⟩
theorem ends_is (hne : ∀ S, v ≠ .obj S) : ends2 (stage2 ls) a p = true := by
  rw [ends2, List.all_eq_true]
  intro s hs
  cases hn : (stage2 ls a (p ++ [s])).needed with
  | false => rfl
  | true =>
    obtain ⟨S, e, _⟩ := next_is h hV hl hv hs hn
    exact absurd e (hne S)
theorem intV_is {n : Int} (e : v = .int n) : integer2 (stage2 ls) a p = true := by
  subst e
  rw [integer2, Bool.and_eq_true, decide_eq_true_eq, plain_iff h]
  have hb := hV.int a p n hv
  have ht := h.tri a p
  have hf := (num_fold n (ls.filter (hitL a p)) rs0 (fun l hm => (h.ok l (List.mem_filter.1 hm).1).op)).2 ⟨⟨hb.1, hb.2, by simp [rs0]⟩, fun l hm => by
    have hm := List.mem_filter.1 hm
    have := lit_val h hV hl hv hm.1 hm.2
    rw [numOk]
    by_cases h2 : l.f.op = 2
    · simp [h2]
    · rw [valL_no h2] at this
      simp only [] at this
      rw [this, Bool.or_true]⟩
  rw [← ht] at hf
  have hk := (freeK_spec (stage2 ls a p).nots (stage2 ls a p).low).2.2 n hf.1 hf.2.2
  have hhi : n ≤ (stage2 ls a p).high := hf.2.1
  refine ⟨by omega, fun c hc => ?_, fun c hc => ?_, ends_is h hV hl hv (fun S e => by cases e)⟩
  · have := must_is h hV hl hv hc
    simpa [isC] using this
  · rw [Bool.eq_false_iff]; intro hn
    have := no_is h hV hl hv hn
    simp only [isC, Bool.or_eq_false_iff, beq_eq_false_iff_ne] at this
    rcases hc with e | e
    · exact this.1 e
    · exact this.2 e
theorem nonV_is (e : v = .non) : none2 (stage2 ls) a p = true := by
  subst e
  rw [none2, Bool.and_eq_true, Bool.not_eq_true', plain_iff h]
  refine ⟨?_, fun c hc => ?_, fun c hc => ?_, ends_is h hV hl hv (fun S e => by cases e)⟩
  · rw [Bool.eq_false_iff]; intro hw
    obtain ⟨n, e⟩ := whole_is h hV hl hv hw
    cases e
  · have := must_is h hV hl hv hc
    simpa [isC] using this
  · rw [Bool.eq_false_iff]; intro hn
    have := no_is h hV hl hv hn
    simp only [isC, Bool.or_eq_false_iff, beq_eq_false_iff_ne] at this
    rcases hc with e | e
    · exact this.1 e
    · exact this.2 e
theorem slots_is {S : Nat → Bool} (e : v = .obj S) {can : List Int → Bool} (hc : ∀ s ∈ (stage2 ls a p).slots, (V a (p ++ [s])).isSome = true → can (p ++ [s]) = true) :
    ∀ (r : List Int) (must no : Nat), (∀ s ∈ r, s ∈ (stage2 ls a p).slots) → (∀ c, must.testBit c = true → S c = true) → (∀ c, no.testBit c = true → S c = false) →
    ∃ must' no', slots2 W (stage2 ls) can a p r must no = some (must', no') ∧ (∀ c, must'.testBit c = true → S c = true) ∧ (∀ c, no'.testBit c = true → S c = false)
  | [], must, no, _, hm, hn => ⟨must, no, rfl, hm, hn⟩
  | s :: r, must, no, hr, hm, hn => by
    have hs := hr s (.head _)
    have hr' : ∀ x ∈ r, x ∈ (stage2 ls a p).slots := fun x hx => hr x (.tail _ hx)
    have hrg := slot_in h hs
    have hst := hV.step a p s hrg.1 hrg.2
    rw [hv, e] at hst
    rw [slots2]
    cases hnd : (stage2 ls a (p ++ [s])).needed with
    | true =>
      have hsm := need_some h hV hl hnd
      obtain ⟨S', e', hS⟩ := next_is h hV hl hv hs hnd
      rw [e] at e'; cases e'
      rw [hc s hs hsm]
      have := slots_is e hc r (must ||| 2 ^ (W.owner.getD s.toNat default).toNat) no hr' (fun c hcc => by
        rw [or_bit, Bool.or_eq_true, beq_iff_eq] at hcc
        rcases hcc with hcc | rfl
        · exact hm c hcc
        · exact hS) hn
      simpa using this
    | false =>
      cases hcn : can (p ++ [s]) with
      | true => simpa using slots_is e hc r must no hr' hm hn
      | false =>
        have hSo : S (ownerN W s) = false := by
          rw [Bool.eq_false_iff]; intro hS
          have := hc s hs (hst.2 ⟨S, rfl, hS⟩)
          rw [hcn] at this; cases this
        have := slots_is e hc r must (no ||| 2 ^ (W.owner.getD s.toNat default).toNat) hr' hm (fun c hcc => by
          rw [or_bit, Bool.or_eq_true, beq_iff_eq] at hcc
          rcases hcc with hcc | rfl
          · exact hn c hcc
          · exact hSo)
        simpa using this
theorem objV_is {S : Nat → Bool} (e : v = .obj S) {can : List Int → Bool} (hc : ∀ s ∈ (stage2 ls a p).slots, (V a (p ++ [s])).isSome = true → can (p ++ [s]) = true) : (object2 W (stage2 ls) can a p).2 = true := by
  have hS := hV.obj a p S (by rw [hv, e])
  rw [object2]
  have hw : (stage2 ls a p).whole = false := by
    rw [Bool.eq_false_iff]; intro hw
    obtain ⟨n, e'⟩ := whole_is h hV hl hv hw
    rw [e] at e'; cases e'
  have hmb : ∀ c, (stage2 ls a p).must.testBit c = true → S c = true := fun c hcc => by
    have := must_is h hV hl hv hcc; rw [e] at this; exact this
  have hnb : ∀ c, (stage2 ls a p).no.testBit c = true → S c = false := fun c hcc => by
    have := no_is h hV hl hv hcc; rw [e] at this; exact this
  have h1 : (stage2 ls a p).must.testBit 1 = false := by
    rw [Bool.eq_false_iff]; intro hh; have := hmb 1 hh; rw [hS.2.1] at this; cases this
  have h2 : (stage2 ls a p).must.testBit 2 = false := by
    rw [Bool.eq_false_iff]; intro hh; have := hmb 2 hh; rw [hS.2.2.1] at this; cases this
  have h0 : (stage2 ls a p).no.testBit 0 = false := by
    rw [Bool.eq_false_iff]; intro hh; have := hnb 0 hh; rw [hS.1] at this; cases this
  rw [hw, h1, h2, h0, if_neg (by simp)]
  obtain ⟨must, no, e1, hm, hn⟩ := slots_is h hV hl hv e hc (stage2 ls a p).slots _ _ (fun _ hs => hs) hmb hnb
  rw [e1]
  simp only []
  rw [zero_bits]
  intro c
  rw [Nat.testBit_and, andNot_bit, Bool.eq_false_iff]
  intro hh
  simp only [Bool.and_eq_true] at hh
  have hcS : S c = true := by
    rcases (closeK_get h.w W.parents.length 3 must rfl c).1 hh.1.1.2 with h5 | ⟨i, h5, h6, h7, h8⟩
    · exact hm c h5
    · exact hS.2.2.2 i (by omega) (hm i h7) c h8
  rw [hn c hh.2] at hcS; cases hcS
end
theorem sem_can {V : VM} (hV : VOk W V) (hl : ∀ l ∈ ls, litV V l = true) {a : Int} : ∀ (d : Nat) (p : List Int), p.length + d = 2 → (V a p).isSome = true → can2 W (stage2 ls) d a p = true
  | 0, p, hp, hs => by
    obtain ⟨v, hv⟩ := Option.isSome_iff_exists.1 hs
    rw [can2]
    cases v with
    | int n => rw [intV_is h hV hl hv rfl]; rfl
    | non => rw [nonV_is h hV hl hv rfl]; simp
    | obj S => rw [objV_is h hV hl hv rfl (fun s hs => absurd (slot_len h hs) (by omega))]; simp
  | d + 1, p, hp, hs => by
    obtain ⟨v, hv⟩ := Option.isSome_iff_exists.1 hs
    rw [can2]
    cases v with
    | int n => rw [intV_is h hV hl hv rfl]; rfl
    | non => rw [nonV_is h hV hl hv rfl]; simp
    | obj S => rw [objV_is h hV hl hv rfl (fun s _ hss => sem_can hV hl d (p ++ [s]) (by simp; omega) hss)]; simp
theorem sem_together {V : VM} (hV : VOk W V) (hl : ∀ l ∈ ls, litV V l = true) : together2 W ls = true := by
  rw [together2, sem_can h hV hl 2 [] rfl (hV.root 0 (by omega) (by omega)), sem_can h hV hl 2 [] rfl (hV.root 1 (by omega) (by omega)), sem_can h hV hl 2 [] rfl (hV.root 2 (by omega) (by omega))]
  rfl
end
end Go.Proofs.YtiljpbljebfhnaaGreat

set_option linter.unusedVariables false
set_option linter.unusedSimpArgs false
set_option maxRecDepth 10000
namespace Go.Proofs.YtiljpbljebfhnaaGreat
open Go.Eng
open Go.Eng.Fc
/-! ### what can be so has a model -/
theorem slots2_congr {W : FW} {kn : K2} {a : Int} {p : List Int} {c1 c2 : List Int → Bool} : ∀ (l : List Int) (must no : Nat), (∀ s ∈ l, c1 (p ++ [s]) = c2 (p ++ [s])) → slots2 W kn c1 a p l must no = slots2 W kn c2 a p l must no
  | [], _, _, _ => rfl
  | s :: r, must, no, h => by
    have h1 := h s (.head _)
    have hr : ∀ x ∈ r, c1 (p ++ [x]) = c2 (p ++ [x]) := fun x hx => h x (.tail _ hx)
    rw [slots2, slots2, h1, slots2_congr r _ _ hr, slots2_congr r _ _ hr, slots2_congr r _ _ hr]
theorem object2_congr {W : FW} {kn : K2} {a : Int} {p : List Int} {c1 c2 : List Int → Bool} (h : ∀ s ∈ (kn a p).slots, c1 (p ++ [s]) = c2 (p ++ [s])) : object2 W kn c1 a p = object2 W kn c2 a p := by
  rw [object2, object2, slots2_congr _ _ _ h]
def canAt (W : FW) (kn : K2) (a : Int) (p : List Int) : Bool := can2 W kn (2 - p.length) a p
def objAt (W : FW) (kn : K2) (a : Int) (p : List Int) : Nat × Bool := object2 W kn (canAt W kn a) a p
def vAt (W : FW) (kn : K2) (a : Int) (p : List Int) : Val :=
  if integer2 kn a p = true then .int (freeK (kn a p).nots (kn a p).low)
  else if none2 kn a p = true then .non
  else .obj fun c => c == 0 || (objAt W kn a p).1.testBit c
def stepV (W : FW) (kn : K2) (a : Int) (p : List Int) (v : Val) (s : Int) : Option Val := match v with
  | .obj S => if (decide (0 ≤ s) && decide (s < W.owner.length) && S (ownerN W s)) = true then (if (kn a p).slots.contains s = true then some (vAt W kn a (p ++ [s])) else some .non) else none
  | _ => none
def mkP (W : FW) (kn : K2) (a : Int) (p : List Int) : Option Val := (p.foldl (fun (st : List Int × Option Val) s => (st.1 ++ [s], st.2.bind fun v => stepV W kn a st.1 v s)) ([], some (vAt W kn a []))).2
def mkV (W : FW) (kn : K2) : VM := fun a p => if 0 ≤ a ∧ a < 3 then mkP W kn a p else none
theorem mk_fst (W : FW) (kn : K2) (a : Int) : ∀ (p : List Int) (st : List Int × Option Val), (p.foldl (fun (st : List Int × Option Val) s => (st.1 ++ [s], st.2.bind fun v => stepV W kn a st.1 v s)) st).1 = st.1 ++ p
  | [], st => by simp
  | s :: r, st => by rw [List.foldl_cons, mk_fst W kn a r]; simp
theorem mk_snoc (W : FW) (kn : K2) (a : Int) (p : List Int) (s : Int) : mkP W kn a (p ++ [s]) = (mkP W kn a p).bind fun v => stepV W kn a p v s := by
  rw [mkP, List.foldl_append, List.foldl_cons, List.foldl_nil, mk_fst]; rfl
theorem slots2_facts {W : FW} {kn : K2} {can : List Int → Bool} {a : Int} {p : List Int} : ∀ (l : List Int) (must no m' n' : Nat), slots2 W kn can a p l must no = some (m', n') →
    (∀ c, must.testBit c = true → m'.testBit c = true) ∧ (∀ c, no.testBit c = true → n'.testBit c = true) ∧ (∀ c, m'.testBit c = true → must.testBit c = true ∨ ∃ s ∈ l, c = ownerN W s) ∧
    ∀ s ∈ l, ((kn a (p ++ [s])).needed = true → m'.testBit (ownerN W s) = true ∧ can (p ++ [s]) = true) ∧ (can (p ++ [s]) = false → n'.testBit (ownerN W s) = true)
  | [], must, no, m', n', h => by
    rw [slots2] at h; cases h
    exact ⟨fun _ h => h, fun _ h => h, fun _ h => .inl h, fun s hs => by cases hs⟩
  | s :: r, must, no, m', n', h => by
    rw [slots2] at h
    cases hnd : (kn a (p ++ [s])).needed with
    | true =>
      rw [hnd] at h
      cases hcn : can (p ++ [s]) with
      | false => rw [hcn] at h; cases h
      | true =>
        rw [hcn] at h
        simp only [Bool.not_true, Bool.and_false, Bool.false_eq_true, if_false, if_true] at h
        obtain ⟨i1, i2, i3, i4⟩ := slots2_facts r _ _ _ _ h
        refine ⟨fun c hc => i1 c (by rw [or_bit, hc]; rfl), i2, fun c hc => ?_, fun x hx => ?_⟩
        · rcases i3 c hc with h' | ⟨x, hx, e⟩
          · rw [or_bit, Bool.or_eq_true, beq_iff_eq] at h'
            rcases h' with h' | h'
            · exact .inl h'
            · exact .inr ⟨s, .head _, h'⟩
          · exact .inr ⟨x, .tail _ hx, e⟩
        · rcases List.mem_cons.1 hx with rfl | hx
          · exact ⟨fun _ => ⟨i1 _ (by rw [or_bit]; simp [ownerN]), hcn⟩, fun hf => by rw [hcn] at hf; cases hf⟩
          · exact i4 x hx
    | false =>
      rw [hnd] at h
      cases hcn : can (p ++ [s]) with
      | false =>
        rw [hcn] at h
        simp only [Bool.not_false, Bool.and_true, Bool.false_and, Bool.false_eq_true, if_false, if_true] at h
        obtain ⟨i1, i2, i3, i4⟩ := slots2_facts r _ _ _ _ h
        refine ⟨i1, fun c hc => i2 c (by rw [or_bit, hc]; rfl), fun c hc => ?_, fun x hx => ?_⟩
        · rcases i3 c hc with h' | ⟨x, hx, e⟩
          · exact .inl h'
          · exact .inr ⟨x, .tail _ hx, e⟩
        · rcases List.mem_cons.1 hx with rfl | hx
          · exact ⟨fun hf => (by rw [hnd] at hf; cases hf), fun _ => i2 _ (by rw [or_bit]; simp [ownerN])⟩
          · exact i4 x hx
      | true =>
        rw [hcn] at h
        simp only [Bool.not_true, Bool.false_and, Bool.false_eq_true, if_false] at h
        obtain ⟨i1, i2, i3, i4⟩ := slots2_facts r _ _ _ _ h
        refine ⟨i1, i2, fun c hc => ?_, fun x hx => ?_⟩
        · rcases i3 c hc with h' | ⟨x, hx, e⟩
          · exact .inl h'
          · exact .inr ⟨x, .tail _ hx, e⟩
        · rcases List.mem_cons.1 hx with rfl | hx
          · exact ⟨fun hf => (by rw [hnd] at hf; cases hf), fun hf => by rw [hcn] at hf; cases hf⟩
          · exact i4 x hx
/-- what is known of an object that may stand at a spot -/
structure ObjF (W : FW) (kn : K2) (a : Int) (p : List Int) (R : Nat) : Prop where
  whole : (kn a p).whole = false
  m1 : (kn a p).must.testBit 1 = false
  m2 : (kn a p).must.testBit 2 = false
  n0 : (kn a p).no.testBit 0 = false
  must : ∀ c, (kn a p).must.testBit c = true → c ≠ 0 → R.testBit c = true
  no : ∀ c, (kn a p).no.testBit c = true → R.testBit c = false
  low : ∀ c, c < 3 → R.testBit c = false
  lt : ∀ c, R.testBit c = true → c < 3 + W.parents.length
  up : ∀ c b, R.testBit c = true → upB W c b = true → b ≠ 0 → R.testBit b = true
  slots : ∀ s ∈ (kn a p).slots, ((kn a (p ++ [s])).needed = true → R.testBit (ownerN W s) = true) ∧ (R.testBit (ownerN W s) = true → canAt W kn a (p ++ [s]) = true)
section
variable {W : FW} {ls : List FLit} (h : LsOk W ls)
include h
theorem can_at {a : Int} {p : List Int} (hp : p.length ≤ 2) : canAt W (stage2 ls) a p = (integer2 (stage2 ls) a p || none2 (stage2 ls) a p || (objAt W (stage2 ls) a p).2) := by
  rw [canAt, objAt]
  by_cases h2 : p.length = 2
  · rw [h2, show 2 - 2 = 0 from rfl, can2, object2_congr (c2 := canAt W (stage2 ls) a) (fun s hs => absurd (slot_len h hs) (by omega))]
  · obtain ⟨d, hd⟩ : ∃ d, 2 - p.length = d + 1 := ⟨1 - p.length, by omega⟩
    rw [hd, can2, object2_congr (c2 := canAt W (stage2 ls) a) (fun s hs => by rw [canAt]; congr 1; simp; omega)]
theorem obj_f {a : Int} {p : List Int} (ho : (objAt W (stage2 ls) a p).2 = true) : ObjF W (stage2 ls) a p (objAt W (stage2 ls) a p).1 := by
  have hW := world_len h.w
  rw [objAt] at ho ⊢
  generalize hob : object2 W (stage2 ls) (canAt W (stage2 ls) a) a p = ob at ho ⊢
  rw [object2] at hob
  by_cases hb : ((stage2 ls a p).whole || (stage2 ls a p).must.testBit 1 || (stage2 ls a p).must.testBit 2 || (stage2 ls a p).no.testBit 0) = true
  · rw [if_pos hb] at hob; rw [← hob] at ho; cases ho
  · rw [if_neg hb] at hob
    have hb := Bool.eq_false_iff.2 hb
    simp only [Bool.or_eq_false_iff] at hb
    cases hs : slots2 W (stage2 ls) (canAt W (stage2 ls) a) a p (stage2 ls a p).slots (stage2 ls a p).must (stage2 ls a p).no with
    | none => rw [hs] at hob; rw [← hob] at ho; cases ho
    | some mn =>
      obtain ⟨m', n'⟩ := mn
      rw [hs] at hob
      simp only [] at hob
      obtain ⟨f1, f2, f3, f4⟩ := slots2_facts _ _ _ _ _ hs
      rw [← hob] at ho ⊢
      simp only [] at ho ⊢
      have hz := zero_bits.1 ho
      have hown : ∀ s ∈ (stage2 ls a p).slots, 3 ≤ ownerN W s ∧ ownerN W s < 3 + W.parents.length := fun s hs => by
        have := owner_rng h.w (slot_in h hs)
        rw [ownerN]; omega
      have hm12 : ∀ c, c = 1 ∨ c = 2 → m'.testBit c = false := fun c hc => by
        rw [Bool.eq_false_iff]; intro hm
        rcases f3 c hm with h' | ⟨s, hs', e⟩
        · rcases hc with rfl | rfl
          · rw [hb.1.1.2] at h'; cases h'
          · rw [hb.1.2] at h'; cases h'
        · have := hown s hs'; omega
      have hmlt : ∀ c, m'.testBit c = true → c < 3 + W.parents.length := fun c hm => by
        rcases f3 c hm with h' | ⟨s, hs', e⟩
        · exact h.must_lt h'
        · rw [e]; exact (hown s hs').2
      have hX := closeK_get h.w W.parents.length 3 m' rfl
      have hlt : ∀ c, (closeK W W.parents.length 3 m').testBit c = true → c < 3 + W.parents.length := fun c hc => by
        rcases (hX c).1 hc with h1 | ⟨i, h1, h2, _, h4⟩
        · exact hmlt c h1
        · have := upB_le h.w i i (Nat.le_refl _) (by omega) c h4; omega
      have hR : ∀ c, (andNotP (closeK W W.parents.length 3 m') 1).testBit c = ((closeK W W.parents.length 3 m').testBit c && !(c == 0)) := fun c => by
        rw [andNot_bit, show (1 : Nat).testBit c = (c == 0) from by
          rcases c with _ | c
          · rfl
          · rw [Nat.testBit_succ]; simp]
        cases hc : (closeK W W.parents.length 3 m').testBit c with
        | false => simp
        | true => have := hlt c hc; rw [decide_eq_true (by omega)]; rfl
      have hRm : ∀ c, m'.testBit c = true → c ≠ 0 → (andNotP (closeK W W.parents.length 3 m') 1).testBit c = true := fun c hm hc => by
        rw [hR, (hX c).2 (.inl hm), show (c == 0) = false from by simpa using hc]; rfl
      have hRn : ∀ c, n'.testBit c = true → (andNotP (closeK W W.parents.length 3 m') 1).testBit c = false := fun c hn => by
        have := hz c
        rw [Nat.testBit_and, hn, Bool.and_true] at this; exact this
      refine ⟨hb.1.1.1, hb.1.1.2, hb.1.2, hb.2, fun c hc h0 => hRm c (f1 c hc) h0, fun c hc => hRn c (f2 c hc), fun c hc => ?_, fun c hc => ?_, fun c b hc hub hb0 => ?_, fun s hs' => ?_⟩
      · rw [hR, Bool.eq_false_iff]; intro hh
        rw [Bool.and_eq_true, Bool.not_eq_true', beq_eq_false_iff_ne] at hh
        rcases (hX c).1 hh.1 with h1 | ⟨i, h1, h2, _, h4⟩
        · rw [hm12 c (by omega)] at h1; cases h1
        · have := upB_le h.w i i (Nat.le_refl _) (by omega) c h4; omega
      · rw [hR, Bool.and_eq_true] at hc; exact hlt c hc.1
      · rw [hR, Bool.and_eq_true] at hc ⊢
        refine ⟨?_, by simpa using hb0⟩
        rw [hX b]
        rcases (hX c).1 hc.1 with h1 | ⟨i, h1, h2, h3, h4⟩
        · have hc0 : c ≠ 0 := by simpa using hc.2
          have hcl := hmlt c h1
          have hc12 : c ≠ 1 ∧ c ≠ 2 := ⟨fun e => (by rw [hm12 c (.inl e)] at h1; cases h1), fun e => by rw [hm12 c (.inr e)] at h1; cases h1⟩
          exact .inr ⟨c, by omega, by omega, h1, hub⟩
        · exact .inr ⟨i, h1, h2, h3, upB_trans h.w i i (Nat.le_refl _) (by omega) c b h4 hub⟩
      · refine ⟨fun hn => hRm _ ((f4 s hs').1 hn).1 (by have := hown s hs'; omega), fun hr => ?_⟩
        cases hcn : canAt W (stage2 ls) a (p ++ [s]) with
        | true => rfl
        | false => rw [hRn _ ((f4 s hs').2 hcn)] at hr; cases hr
/-- what stands at a spot where something may -/
theorem vat_cases {a : Int} {p : List Int} (hp : p.length ≤ 2) (hc : canAt W (stage2 ls) a p = true) :
    (integer2 (stage2 ls) a p = true ∧ vAt W (stage2 ls) a p = .int (freeK (stage2 ls a p).nots (stage2 ls a p).low)) ∨ (none2 (stage2 ls) a p = true ∧ vAt W (stage2 ls) a p = .non) ∨
    ((objAt W (stage2 ls) a p).2 = true ∧ vAt W (stage2 ls) a p = .obj fun c => c == 0 || (objAt W (stage2 ls) a p).1.testBit c) := by
  rw [can_at h hp] at hc
  unfold vAt
  by_cases hi : integer2 (stage2 ls) a p = true
  · rw [if_pos hi]; exact .inl ⟨hi, rfl⟩
  · rw [if_neg hi]
    by_cases hn : none2 (stage2 ls) a p = true
    · rw [if_pos hn]; exact .inr (.inl ⟨hn, rfl⟩)
    · rw [if_neg hn]
      rw [Bool.eq_false_iff.2 hi, Bool.eq_false_iff.2 hn] at hc
      exact .inr (.inr ⟨by simpa using hc, rfl⟩)
theorem own_ne {s : Int} (hs : 0 ≤ s ∧ s < W.owner.length) : ownerN W s ≠ 0 := by
  have := owner_rng h.w hs; rw [ownerN]; omega
theorem mk_inv (ht : together2 W ls = true) {a : Int} (ha : 0 ≤ a ∧ a < 3) : ∀ (n : Nat) (p : List Int), p.length = n → ∀ v, mkP W (stage2 ls) a p = some v → v = .non ∨ (v = vAt W (stage2 ls) a p ∧ p.length ≤ 2 ∧ canAt W (stage2 ls) a p = true)
  | 0, p, hp, v, hv => by
    rw [List.eq_nil_of_length_eq_zero hp] at hv ⊢
    have e : v = vAt W (stage2 ls) a [] := (Option.some.inj hv).symm
    refine .inr ⟨e, by simp, ?_⟩
    rw [together2, Bool.and_eq_true, Bool.and_eq_true] at ht
    have : a = 0 ∨ a = 1 ∨ a = 2 := by omega
    rcases this with rfl | rfl | rfl
    · exact ht.1.1
    · exact ht.1.2
    · exact ht.2
  | n + 1, p, hp, v, hv => by
    rcases List.eq_nil_or_concat p with rfl | ⟨q, s, rfl⟩
    · simp at hp
    · rw [List.concat_eq_append] at hp hv ⊢
      rw [mk_snoc] at hv
      obtain ⟨u, hu, hst⟩ := Option.bind_eq_some_iff.1 hv
      rcases mk_inv ht ha n q (by simpa using hp) u hu with rfl | ⟨rfl, hq, hc⟩
      · cases hst
      · rcases vat_cases h hq hc with ⟨_, e⟩ | ⟨_, e⟩ | ⟨ho, e⟩
        · rw [e] at hst; cases hst
        · rw [e] at hst; cases hst
        · rw [e] at hst
          simp only [stepV] at hst
          split at hst
          · rename_i hcond
            simp only [Bool.and_eq_true, decide_eq_true_eq, Bool.or_eq_true, beq_iff_eq] at hcond
            split at hst
            · rename_i hcs
              have hcs := List.contains_iff_mem.1 hcs
              have hl := slot_len h hcs
              refine .inr ⟨(Option.some.inj hst).symm, by simp; omega, ((obj_f h ho).slots s hcs).2 ?_⟩
              rcases hcond.2 with e0 | e0
              · exact absurd e0 (own_ne h hcond.1)
              · exact e0
            · exact .inl (Option.some.inj hst).symm
          · cases hst
theorem mk_ok (ht : together2 W ls = true) : VOk W (mkV W (stage2 ls)) := by
  refine ⟨fun a h0 h3 => ?_, fun a p n hv => ?_, fun a p S hv => ?_, fun a p s h0 h1 => ?_⟩
  · rw [mkV, if_pos ⟨h0, h3⟩]; rfl
  · rw [mkV] at hv
    split at hv
    · rename_i ha
      rcases mk_inv h ht ha p.length p rfl _ hv with e | ⟨e, hp, hc⟩
      · cases e
      · rcases vat_cases h hp hc with ⟨hi, e'⟩ | ⟨_, e'⟩ | ⟨_, e'⟩
        · rw [e'] at e; cases e
          rw [integer2, Bool.and_eq_true, decide_eq_true_eq] at hi
          have hk := freeK_spec (stage2 ls a p).nots (stage2 ls a p).low
          have ht' := h.tri a p
          have hf := (num_fold (freeK (stage2 ls a p).nots (stage2 ls a p).low) (ls.filter (hitL a p)) rs0 (fun l hm => (h.ok l (List.mem_filter.1 hm).1).op)).1 (by rw [← ht']; exact ⟨hk.2.1, hi.1, hk.1⟩)
          exact ⟨hf.1.1, hf.1.2.1⟩
        · rw [e'] at e; cases e
        · rw [e'] at e; cases e
    · cases hv
  · rw [mkV] at hv
    split at hv
    · rename_i ha
      rcases mk_inv h ht ha p.length p rfl _ hv with e | ⟨e, hp, hc⟩
      · cases e
      · rcases vat_cases h hp hc with ⟨hi, e'⟩ | ⟨_, e'⟩ | ⟨ho, e'⟩
        · rw [e'] at e; cases e
        · rw [e'] at e; cases e
        · rw [e'] at e; cases e
          have hF := obj_f h ho
          refine ⟨rfl, by simp [hF.low], by simp [hF.low], fun c hc' hS b hub => ?_⟩
          simp only [Bool.or_eq_true, beq_iff_eq] at hS ⊢
          by_cases hb0 : b = 0
          · exact .inl hb0
          · rcases hS with rfl | hS
            · rw [upB_low (by omega)] at hub; simp at hub; exact absurd hub hb0
            · exact .inr (hF.up c b hS hub hb0)
    · cases hv
  · rw [mkV]
    by_cases ha : 0 ≤ a ∧ a < 3
    · simp only [mkV, if_pos ha]
      rw [mk_snoc]
      constructor
      · intro hs
        obtain ⟨v, hv⟩ := Option.isSome_iff_exists.1 hs
        obtain ⟨u, hu, hst⟩ := Option.bind_eq_some_iff.1 hv
        cases u with
        | int n => cases hst
        | non => cases hst
        | obj S =>
          simp only [stepV] at hst
          split at hst
          · rename_i hcond
            rw [Bool.and_eq_true] at hcond
            exact ⟨S, hu, hcond.2⟩
          · cases hst
      · rintro ⟨S, hS, hSo⟩
        rw [hS]
        simp only [Option.bind_some, stepV]
        rw [if_pos (by simp [h0, h1, hSo])]
        split <;> rfl
    · simp only [mkV, if_neg ha]
      simp
theorem ends_no {a : Int} {p : List Int} {s : Int} (hs : s ∈ (stage2 ls a p).slots) (hn : (stage2 ls a (p ++ [s])).needed = true) : ends2 (stage2 ls) a p = false := by
  have _ := h
  rw [ends2, List.all_eq_false]; exact ⟨s, hs, by rw [hn]; simp⟩
theorem lit_way {l : FLit} (hl : l ∈ ls) (ht : together2 W ls = true) : ∀ (n : Nat) (p : List Int), p.length = n → p <+: l.f.path →
    (mkP W (stage2 ls) l.f.arg p = none ∧ l.neg = true) ∨ (mkP W (stage2 ls) l.f.arg p = some (vAt W (stage2 ls) l.f.arg p) ∧ canAt W (stage2 ls) l.f.arg p = true)
  | 0, p, hp, _ => by
    have hok := h.ok l hl
    rw [List.eq_nil_of_length_eq_zero hp]
    refine .inr ⟨rfl, ?_⟩
    rcases mk_inv h ht hok.arg 0 [] rfl _ (show mkP W (stage2 ls) l.f.arg [] = some (vAt W (stage2 ls) l.f.arg []) from rfl) with e | e
    · rw [together2, Bool.and_eq_true, Bool.and_eq_true] at ht
      have ha := hok.arg
      have : l.f.arg = 0 ∨ l.f.arg = 1 ∨ l.f.arg = 2 := by omega
      rcases this with e | e | e <;> rw [e]
      · exact ht.1.1
      · exact ht.1.2
      · exact ht.2
    · exact e.2.2
  | n + 1, p, hp, hpre => by
    rcases List.eq_nil_or_concat p with rfl | ⟨q, s, rfl⟩
    · simp at hp
    · rw [List.concat_eq_append] at hp hpre ⊢
      have hok := h.ok l hl
      have hway : wayL l.f.arg (q ++ [s]) l = true := by rw [wayL, Bool.and_eq_true, beg_iff]; exact ⟨by simp, hpre⟩
      have hs : s ∈ (stage2 ls l.f.arg q).slots := by rw [h.slots]; exact List.any_eq_true.2 ⟨l, hl, hway⟩
      have hnd : l.neg = false → (stage2 ls l.f.arg (q ++ [s])).needed = true := fun hn => by
        rw [h.need]; exact List.any_eq_true.2 ⟨l, hl, by rw [needL, hn, hway]; rfl⟩
      have hq : q.length ≤ 2 := by have := slot_len h hs; omega
      rw [mk_snoc]
      rcases lit_way hl ht n q (by simpa using hp) ((List.prefix_append _ _).trans hpre) with ⟨e, hn⟩ | ⟨e, hc⟩
      · rw [e]; exact .inl ⟨rfl, hn⟩
      · rw [e]
        simp only [Option.bind_some]
        rcases vat_cases h hq hc with ⟨hi, e'⟩ | ⟨hi, e'⟩ | ⟨ho, e'⟩
        · rw [e']
          refine .inl ⟨rfl, ?_⟩
          cases hn : l.neg with
          | true => rfl
          | false =>
            rw [integer2, plain2, ends_no h hs (hnd hn)] at hi
            simp at hi
        · rw [e']
          refine .inl ⟨rfl, ?_⟩
          cases hn : l.neg with
          | true => rfl
          | false =>
            rw [none2, plain2, ends_no h hs (hnd hn)] at hi
            simp at hi
        · have hF := (obj_f h ho).slots s hs
          have hr := slot_in h hs
          rw [e']
          simp only [stepV]
          by_cases hcond : (decide (0 ≤ s) && decide (s < W.owner.length) && (ownerN W s == 0 || (objAt W (stage2 ls) l.f.arg q).1.testBit (ownerN W s))) = true
          · rw [if_pos hcond, if_pos (List.contains_iff_mem.2 hs)]
            simp only [Bool.and_eq_true, decide_eq_true_eq, Bool.or_eq_true, beq_iff_eq] at hcond
            refine .inr ⟨rfl, hF.2 ?_⟩
            rcases hcond.2 with e0 | e0
            · exact absurd e0 (own_ne h hr)
            · exact e0
          · rw [if_neg hcond]
            refine .inl ⟨rfl, ?_⟩
            cases hn : l.neg with
            | true => rfl
            | false =>
              exfalso; apply hcond
              rw [decide_eq_true hr.1, decide_eq_true hr.2, hF.1 (hnd hn)]; simp
theorem mk_lits (ht : together2 W ls = true) : ∀ l ∈ ls, litV (mkV W (stage2 ls)) l = true := by
  intro l hl
  have hok := h.ok l hl
  have hhit : hitL l.f.arg l.f.path l = true := by simp [hitL]
  rw [litV, evL, mkV, if_pos hok.arg]
  rcases lit_way h hl ht _ l.f.path rfl (List.prefix_refl _) with ⟨e, hn⟩ | ⟨e, hc⟩
  · rw [e, hn]; rfl
  · rw [e]
    simp only []
    have hcl := hok.cls
    have hmu : l.f.op = 2 → l.neg = false → (stage2 ls l.f.arg l.f.path).must.testBit l.f.cls.toNat = true := fun h2 hn => by
      rw [h.must]; exact List.any_eq_true.2 ⟨l, hl, by rw [isL, hhit, h2, hn]; simp⟩
    have hno : l.f.op = 2 → l.neg = true → (stage2 ls l.f.arg l.f.path).no.testBit l.f.cls.toNat = true := fun h2 hn => by
      rw [h.no]; exact List.any_eq_true.2 ⟨l, hl, by rw [isL, hhit, h2, hn]; simp⟩
    have hwh : l.f.op ≠ 2 → l.neg = false → (stage2 ls l.f.arg l.f.path).whole = true := fun h2 hn => by
      rw [h.whole]; exact List.any_eq_true.2 ⟨l, hl, by rw [wholeL, hhit, hn]; simpa using h2⟩
    rcases vat_cases h hok.path hc with ⟨hi, e'⟩ | ⟨hi, e'⟩ | ⟨ho, e'⟩
    · rw [e']; unfold valL
      rw [integer2, Bool.and_eq_true, decide_eq_true_eq, plain_iff h] at hi
      by_cases h2 : l.f.op = 2
      · rw [if_pos h2, isC]
        cases hn : l.neg with
        | false =>
          have := hi.2.1 _ (hmu h2 hn)
          rcases this with e0 | e0
          · rw [e0]; rfl
          · rw [e0]; rfl
        | true =>
          have h1 := hno h2 hn
          have : ¬ (l.f.cls.toNat = 0 ∨ l.f.cls.toNat = (1 : Int).toNat) := fun hh => by rw [hi.2.2.1 _ hh] at h1; cases h1
          have e0 : (l.f.cls.toNat == 0 || l.f.cls.toNat == 1) = false := by
            rw [Bool.or_eq_false_iff, beq_eq_false_iff_ne, beq_eq_false_iff_ne]; exact not_or.1 this
          rw [e0]; rfl
      · rw [if_neg h2]
        simp only []
        have hk := freeK_spec (stage2 ls l.f.arg l.f.path).nots (stage2 ls l.f.arg l.f.path).low
        have ht' := h.tri l.f.arg l.f.path
        have hf := (num_fold (freeK (stage2 ls l.f.arg l.f.path).nots (stage2 ls l.f.arg l.f.path).low) (ls.filter (hitL l.f.arg l.f.path)) rs0 (fun l hm => (h.ok l (List.mem_filter.1 hm).1).op)).1 (by rw [← ht']; exact ⟨hk.2.1, hi.1, hk.1⟩)
        have := hf.2 l (List.mem_filter.2 ⟨hl, hhit⟩)
        rw [numOk, show (l.f.op == 2) = false from by simpa using h2, Bool.false_or] at this
        exact this
    · rw [e']; unfold valL
      rw [none2, Bool.and_eq_true, Bool.not_eq_true', plain_iff h] at hi
      by_cases h2 : l.f.op = 2
      · rw [if_pos h2, isC]
        cases hn : l.neg with
        | false =>
          have := hi.2.1 _ (hmu h2 hn)
          rcases this with e0 | e0
          · rw [e0]; rfl
          · rw [e0]; rfl
        | true =>
          have h1 := hno h2 hn
          have : ¬ (l.f.cls.toNat = 0 ∨ l.f.cls.toNat = (2 : Int).toNat) := fun hh => by rw [hi.2.2.1 _ hh] at h1; cases h1
          have e0 : (l.f.cls.toNat == 0 || l.f.cls.toNat == 2) = false := by
            rw [Bool.or_eq_false_iff, beq_eq_false_iff_ne, beq_eq_false_iff_ne]; exact not_or.1 this
          rw [e0]; rfl
      · rw [if_neg h2]
        cases hn : l.neg with
        | false => rw [hwh h2 hn] at hi; cases hi.1
        | true => rfl
    · rw [e']; unfold valL
      have hF := obj_f h ho
      by_cases h2 : l.f.op = 2
      · rw [if_pos h2, isC]
        cases hn : l.neg with
        | false =>
          by_cases h0 : l.f.cls.toNat = 0
          · rw [h0]; rfl
          · rw [hF.must _ (hmu h2 hn) h0]; simp
        | true =>
          have h1 := hno h2 hn
          have h0 : l.f.cls.toNat ≠ 0 := fun e0 => by rw [e0, hF.n0] at h1; cases h1
          rw [hF.no _ h1, show (l.f.cls.toNat == 0) = false from by simpa using h0]; rfl
      · rw [if_neg h2]
        cases hn : l.neg with
        | false => have := hwh h2 hn; rw [hF.whole] at this; cases this
        | true => rfl
theorem together_sem : together2 W ls = true ↔ ∃ V, VOk W V ∧ ∀ l ∈ ls, litV V l = true :=
  ⟨fun ht => ⟨_, mk_ok h ht, mk_lits h ht⟩, fun ⟨_, hV, hl⟩ => sem_together h hV hl⟩
end
/-- a fact can be so just if it is so in some model -/
theorem can_sem {W : FW} (hW : worldP W = true) {f : Fact} (hf : wfB W f = true) : canC W f = true ↔ ∃ V, VOk W V ∧ ev V f = true := by
  rw [canC, List.any_eq_true]
  constructor
  · rintro ⟨c, hc, ht⟩
    obtain ⟨V, hV, hl⟩ := (together_sem (case_ls hW hf hc)).1 ht
    refine ⟨V, hV, ?_⟩
    have := cases_ev V f (wf_ok f hf) false
    rw [Bool.bne_false] at this
    rw [← this]
    exact List.any_eq_true.2 ⟨c, hc, List.all_eq_true.2 hl⟩
  · rintro ⟨V, hV, he⟩
    have := cases_ev V f (wf_ok f hf) false
    rw [Bool.bne_false, he] at this
    obtain ⟨c, hc, hl⟩ := List.any_eq_true.1 this
    exact ⟨c, hc, sem_together (case_ls hW hf hc) hV (List.all_eq_true.1 hl)⟩
end Go.Proofs.YtiljpbljebfhnaaGreat

set_option linter.unusedVariables false
set_option linter.unusedSimpArgs false
set_option maxRecDepth 10000
namespace Go.Proofs.YtiljpbljebfhnaaGreat
open Go.Eng
open Go.Eng.Fc
def okImp (W : FW) (p : Fact × Fact) : Bool := !goodP W [p.1] || !goodP W [p.2] || impC W p.1 p.2
theorem all_take {α : Type} [Inhabited α] {l : List α} {i : Nat} {p : α → Bool} (h : i < l.length) : (l.take (i + 1)).all p = ((l.take i).all p && p (l.getD i default)) := by
  rw [List.take_add_one, List.all_append, getD_lt h, List.getElem?_eq_getElem h]; simp
theorem code0 {b : Bool} : ((if b = true then (0 : Int) else 2) != 0) = !b := by cases b <;> rfl
section
variable {W : FW} {a b c : Fact} (ha : goodP W [a] = true) (hb : goodP W [b] = true) (hc : goodP W [c] = true)
include ha hb
include hc
end
end Go.Proofs.YtiljpbljebfhnaaGreat

set_option linter.unusedVariables false
set_option linter.unusedSimpArgs false
set_option maxRecDepth 10000
namespace Go.Proofs.YtiljpbljebfhnaaGreat
open Go.Eng
open Go.Eng.Fc
abbrev U8 := Fin 256
abbrev AV.u8 (x : U8) : AV := .val (.int .u8 (x.val : Int))
/-! ### a bigger world -/
structure BigW (W W' : FW) : Prop where
  ok : worldP W = true
  ok' : worldP W' = true
  par : W.parents <+: W'.parents
  own : W.owner <+: W'.owner
theorem BigW.np {W W' : FW} (h : BigW W W') : W.parents.length ≤ W'.parents.length := h.par.length_le
theorem BigW.no {W W' : FW} (h : BigW W W') : W.owner.length ≤ W'.owner.length := h.own.length_le
theorem BigW.par_at {W W' : FW} (h : BigW W W') {i : Nat} (hi : i < W.parents.length) : W'.parents.getD i default = W.parents.getD i default := by
  obtain ⟨t, ht⟩ := h.par
  rw [← ht, List.getD_eq_getElem?_getD, List.getElem?_append_left hi, List.getD_eq_getElem?_getD]
theorem BigW.own_at {W W' : FW} (h : BigW W W') {s : Int} (hs : 0 ≤ s ∧ s < W.owner.length) : ownerN W' s = ownerN W s := by
  obtain ⟨t, ht⟩ := h.own
  rw [ownerN, ownerN, ← ht, List.getD_eq_getElem?_getD, List.getElem?_append_left (by omega), List.getD_eq_getElem?_getD]
theorem BigW.up {W W' : FW} (h : BigW W W') : ∀ (n c : Nat), c ≤ n → c < 3 + W.parents.length → ∀ b, upB W' c b = upB W c b := by
  intro n
  induction n with
  | zero => intro c hn hc b; rw [upB_low (by omega), upB_low (by omega)]
  | succ n ih =>
    intro c hn hc b
    by_cases h3 : c < 3
    · rw [upB_low h3, upB_low h3]
    · obtain ⟨i, rfl⟩ : ∃ i, c = 3 + i := ⟨c - 3, by omega⟩
      have hnp := h.np
      rw [upB_own h.ok' (by omega), upB_own h.ok (by omega), h.par_at (by omega)]
      congr 1
      refine any_congr_mem fun p hp => ?_
      have h2 := parents_lt i _ _ (by have := parentss_at W.parents 0 i (by have := h.ok; simp only [worldP, Bool.and_eq_true] at this; exact this.1.2) (by omega); simpa using this) p hp
      exact ih p.toNat (by omega) (by omega) b
theorem BigW.node {W W' : FW} (h : BigW W W') {f : Fact} (hf : nodeOkB W f = true) : nodeOkB W' f = true := by
  have hnp := h.np
  have hno := h.no
  simp only [nodeOkB, Bool.and_eq_true] at hf ⊢
  refine ⟨hf.1, ?_⟩
  have h2 := hf.2
  by_cases hl : leafP f = true
  · rw [if_pos hl] at h2 ⊢
    simp only [Bool.and_eq_true, argP, leafOkP, pathP, Bool.not_eq_true', Bool.or_eq_false_iff, decide_eq_false_iff_not, Bool.not_eq_false', List.all_eq_true, decide_eq_true_eq, slotP] at h2 ⊢
    refine ⟨⟨h2.1.1, h2.1.2.1, fun s hs => ?_⟩, ?_⟩
    · have := h2.1.2.2 s hs; omega
    · have h3 := h2.2
      by_cases ho : f.op = 2
      · rw [if_pos ho] at h3 ⊢
        simp only [Bool.and_eq_true, classP, decide_eq_true_eq] at h3 ⊢
        exact ⟨h3.1, h3.2.1, by omega⟩
      · rw [if_neg ho] at h3 ⊢; exact h3
  · rw [if_neg hl] at h2 ⊢; exact h2
theorem BigW.wf {W W' : FW} (h : BigW W W') : ∀ f : Fact, wfB W f = true → wfB W' f = true := by
  refine Fact.ind1 fun f ih hf => ?_
  rw [wfB_iff] at hf ⊢
  exact ⟨h.node hf.1, fun k hk => ih k hk (hf.2 k hk)⟩
theorem BigW.good {W W' : FW} (h : BigW W W') {l : List Fact} (hl : goodP W l = true) : goodP W' l = true := by
  simp only [goodP, Bool.and_eq_true, List.all_eq_true] at hl ⊢
  refine ⟨h.ok', fun f hf => ?_⟩
  have := hl.2 f hf
  rw [← formed_eq, Bool.and_eq_true] at this ⊢
  exact ⟨this.1, h.wf f this.2⟩
/-- a model of the bigger world, seen from the lesser one -/
def cutVal (n : Nat) : Val → Val
  | .obj S => .obj fun c => S c && decide (c < n)
  | v => v
def cutV (n : Nat) (V : VM) : VM := fun a p => (V a p).map (cutVal n)
theorem cut_isC {n c : Nat} (hc : c < n) (v : Val) : isC (cutVal n v) c = isC v c := by
  cases v with
  | int m => rfl
  | non => rfl
  | obj S => simp [isC, cutVal, hc]
theorem cut_valL {W : FW} {f : Fact} (hf : nodeOkB W f = true) (hl : leafP f = true) (v : Val) : valL f (cutVal (3 + W.parents.length) v) = valL f v := by
  by_cases h2 : f.op = 2
  · rw [valL_is h2, valL_is h2]
    refine cut_isC ?_ v
    simp only [nodeOkB, Bool.and_eq_true] at hf
    have h3 := hf.2
    rw [if_pos hl, Bool.and_eq_true, leafOkP, if_pos h2] at h3
    simp only [Bool.and_eq_true, classP, decide_eq_true_eq] at h3
    omega
  · rw [valL_no h2, valL_no h2]
    cases v <;> rfl
theorem ev_congr {W : FW} {V V' : VM} (h : ∀ f, nodeOkB W f = true → leafP f = true → evL V' f = evL V f) : ∀ f : Fact, wfB W f = true → ev V' f = ev V f := by
  refine Fact.ind1 fun f ih hf => ?_
  have hk := (wfB_iff.1 hf).2
  have hn := (wfB_iff.1 hf).1
  have hok := wf_ok f hf
  by_cases hl : leafP f = true
  · rw [ev_leaf hl, ev_leaf hl, h f hn hl]
  by_cases h1 : f.op = 1
  · rw [ev_true h1, ev_true h1]
  by_cases h5 : f.op = 5
  · have := kids_one hok h5
    rw [ev_not h5 (by omega), ev_not h5 (by omega), ih _ (getD_mem (by omega)) (hk _ (getD_mem (by omega)))]
  have hlf' : leafP f = false := by simpa using hl
  have h2 := kids_two hok h1 h5 hlf'
  have h67 : f.op = 6 ∨ f.op = 7 := by
    simp only [nodeOkB, Bool.and_eq_true, decide_eq_true_eq] at hn
    simp only [leafP, Bool.and_eq_false_iff, decide_eq_false_iff_not] at hlf'
    omega
  have e0 := ih _ (getD_mem (l := f.kids) (k := 0) (by omega)) (hk _ (getD_mem (by omega)))
  have e1 := ih _ (getD_mem (l := f.kids) (k := 1) (by omega)) (hk _ (getD_mem (by omega)))
  rcases h67 with e | e
  · rw [ev_and e (by omega), ev_and e (by omega), e0, e1]
  · rw [ev_or e (by omega), ev_or e (by omega), e0, e1]
theorem BigW.cut_ok {W W' : FW} (h : BigW W W') {V : VM} (hV : VOk W' V) : VOk W (cutV (3 + W.parents.length) V) := by
  have hnp := h.np
  have hno := h.no
  refine ⟨fun a h0 h3 => by rw [cutV, Option.isSome_map]; exact hV.root a h0 h3, fun a p n hv => ?_, fun a p S hv => ?_, fun a p s h0 h1 => ?_⟩
  · obtain ⟨v, h1, h2⟩ := Option.map_eq_some_iff.1 hv
    cases v with
    | int m => cases h2; exact hV.int a p _ h1
    | non => cases h2
    | obj S => cases h2
  · obtain ⟨v, h1, h2⟩ := Option.map_eq_some_iff.1 hv
    cases v with
    | int m => cases h2
    | non => cases h2
    | obj S' =>
      cases h2
      obtain ⟨a1, a2, a3, a4⟩ := hV.obj a p S' h1
      refine ⟨by simp [a1]; omega, by simp [a2], by simp [a3], fun c hc hS b hub => ?_⟩
      simp only [Bool.and_eq_true, decide_eq_true_eq] at hS ⊢
      have hb := upB_le h.ok c c (Nat.le_refl _) hc b hub
      refine ⟨a4 c (by omega) hS.1 b ?_, by omega⟩
      rw [h.up c c (Nat.le_refl _) hc]; exact hub
  · rw [cutV, cutV, Option.isSome_map, hV.step a p s h0 (by omega)]
    have ho := owner_rng h.ok ⟨h0, h1⟩
    rw [h.own_at ⟨h0, h1⟩]
    constructor
    · rintro ⟨S, hS, hSo⟩
      refine ⟨_, by rw [hS]; rfl, ?_⟩
      simp only [Bool.and_eq_true, decide_eq_true_eq]
      exact ⟨hSo, by rw [ownerN]; omega⟩
    · rintro ⟨S, hS, hSo⟩
      obtain ⟨v, h2, h3⟩ := Option.map_eq_some_iff.1 hS
      cases v with
      | int m => cases h3
      | non => cases h3
      | obj S' =>
        cases h3
        simp only [Bool.and_eq_true] at hSo
        exact ⟨S', h2, hSo.1⟩
def oldB (W : FW) (p : List Int) : Bool := p.all fun s => decide (0 ≤ s) && decide (s < W.owner.length)
def extV (W W' : FW) (V : VM) : VM := fun a p =>
  if oldB W p = true then V a p
  else match p.getLast? with
    | none => none
    | some s => if oldB W p.dropLast = true ∧ 0 ≤ s ∧ s < W'.owner.length then (match V a p.dropLast with | some (.obj S) => if (S (ownerN W' s) && decide (ownerN W' s < 3 + W.parents.length)) = true then some .non else none | _ => none) else none
theorem cut_old {W W' : FW} (h : BigW W W') {V : VM} (hV : VOk W V) : VOk W (cutV (3 + W.parents.length) V) := BigW.cut_ok ⟨h.ok, h.ok, List.prefix_refl _, List.prefix_refl _⟩ hV
theorem ext_ok {W W' : FW} (h : BigW W W') {V : VM} (hV : VOk W V) (hcut : ∀ a p S, V a p = some (.obj S) → ∀ c, S c = true → c < 3 + W.parents.length) : VOk W' (extV W W' V) := by
  have hnp := h.np
  have hno := h.no
  have old : ∀ a p, oldB W p = true → extV W W' V a p = V a p := fun a p hp => by rw [extV, if_pos hp]
  have new : ∀ a p v, oldB W p = false → extV W W' V a p = some v → v = .non := fun a p v hp hv => by
    rw [extV, if_neg (by rw [hp]; simp)] at hv
    split at hv
    · cases hv
    · split at hv
      · split at hv
        · split at hv
          · exact (Option.some.inj hv).symm
          · cases hv
        · cases hv
      · cases hv
  refine ⟨fun a h0 h3 => by rw [old a [] rfl]; exact hV.root a h0 h3, fun a p n hv => ?_, fun a p S hv => ?_, fun a p s h0 h1 => ?_⟩
  · cases ho : oldB W p with
    | true => rw [old a p ho] at hv; exact hV.int a p n hv
    | false => cases new a p _ ho hv
  · cases ho : oldB W p with
    | true =>
      rw [old a p ho] at hv
      obtain ⟨a1, a2, a3, a4⟩ := hV.obj a p S hv
      refine ⟨a1, a2, a3, fun c hc hS b hub => ?_⟩
      have hcl := hcut a p S hv c hS
      rw [h.up c c (Nat.le_refl _) hcl] at hub
      exact a4 c hcl hS b hub
    | false => cases new a p _ ho hv
  · cases ho : oldB W p with
    | true =>
      rw [old a p ho]
      by_cases hs : s < W.owner.length
      · rw [old a (p ++ [s]) (by rw [oldB, List.all_append, ← oldB, ho]; simp [h0, hs]), hV.step a p s h0 hs, h.own_at ⟨h0, hs⟩]
      · have hn : oldB W (p ++ [s]) = false := by rw [oldB, List.all_append, ← oldB, ho]; simp; omega
        rw [extV, if_neg (by rw [hn]; simp), List.getLast?_concat, List.dropLast_concat]
        simp only []
        rw [if_pos ⟨ho, h0, h1⟩]
        cases hv : V a p with
        | none => simp
        | some v =>
          cases v with
          | int m => simp
          | non => simp
          | obj S =>
            simp only []
            constructor
            · intro hh
              split at hh
              · rename_i hc
                rw [Bool.and_eq_true] at hc
                exact ⟨S, rfl, hc.1⟩
              · cases hh
            · rintro ⟨S', e, hS⟩
              cases e
              rw [if_pos (by rw [hS, decide_eq_true (hcut a p S hv _ hS)]; rfl)]; rfl
    | false =>
      have hn : oldB W (p ++ [s]) = false := by rw [oldB, List.all_append, ← oldB, ho]; rfl
      have e1 : extV W W' V a (p ++ [s]) = none := by
        rw [extV, if_neg (by rw [hn]; simp), List.getLast?_concat, List.dropLast_concat]
        simp only []
        rw [if_neg (by rw [ho]; simp)]
      rw [e1]
      constructor
      · intro hh; cases hh
      · rintro ⟨S, hS, _⟩
        cases new a p _ ho hS
theorem leaf_old {W : FW} {f : Fact} (hf : nodeOkB W f = true) (hl : leafP f = true) : oldB W f.path = true := by
  simp only [nodeOkB, Bool.and_eq_true] at hf
  have h3 := hf.2
  rw [if_pos hl] at h3
  simp only [Bool.and_eq_true, argP, pathP, Bool.not_eq_true', Bool.or_eq_false_iff, Bool.not_eq_false'] at h3
  exact h3.1.2.2
theorem BigW.can {W W' : FW} (h : BigW W W') {f : Fact} (hf : wfB W f = true) : canC W' f = canC W f := by
  rw [Bool.eq_iff_iff, can_sem h.ok' (h.wf f hf), can_sem h.ok hf]
  constructor
  · rintro ⟨V, hV, he⟩
    refine ⟨_, h.cut_ok hV, ?_⟩
    rw [← he]
    refine ev_congr (W := W) (fun f hf hl => ?_) f hf
    rw [evL, evL, cutV]
    cases V f.arg f.path with
    | none => rfl
    | some v => exact cut_valL hf hl v
  · rintro ⟨V, hV, he⟩
    have h1 := cut_old h hV
    refine ⟨_, ext_ok h h1 (fun a p S hS c hc => ?_), ?_⟩
    · obtain ⟨v, e1, e2⟩ := Option.map_eq_some_iff.1 hS
      cases v with
      | int m => cases e2
      | non => cases e2
      | obj S' =>
        cases e2
        simp only [Bool.and_eq_true, decide_eq_true_eq] at hc
        exact hc.2
    · rw [← he]
      refine ev_congr (W := W) (fun f hf hl => ?_) f hf
      rw [evL, evL, extV, if_pos (leaf_old hf hl), cutV]
      cases V f.arg f.path with
      | none => rfl
      | some v => exact cut_valL hf hl v
theorem BigW.imp {W W' : FW} (h : BigW W W') {a b : Fact} (ha : wfB W a = true) (hb : wfB W b = true) : impC W' a b = impC W a b := by
  rw [impC, impC, h.can (wf_and ha (wf_not hb))]
end Go.Proofs.YtiljpbljebfhnaaGreat

set_option linter.unusedVariables false
set_option linter.unusedSimpArgs false
set_option maxRecDepth 10000
namespace Go.Proofs.YtiljpbljebfhnaaGreat
open Go.Eng
open Go.Eng.Fc
theorem world_lens {W : FW} (h : worldP W = true) : W.parents.length ≤ 60 ∧ W.owner.length ≤ 40 := by
  simp only [worldP, Bool.and_eq_true, decide_eq_true_eq] at h; exact h.1.1
theorem ints_one (l : List Int) (x : Int) : AV.ints (l ++ [x]) = .sl 1 (l.map (fun n => [AV.i n]) ++ [[AV.i x]]) := congrArg _ List.map_append
end Go.Proofs.YtiljpbljebfhnaaGreat

set_option linter.unusedVariables false
set_option linter.unusedSimpArgs false
set_option maxRecDepth 10000
namespace Go.Proofs.YtiljpbljebfhnaaGreat
open Go.Eng
open Go.Eng.Fc
open Go.ChangeShapes
section
variable {H : Type} {enc : TypeId × Value → H} {w : World} {base : Nat} {spare : Nat → Bool} {held : Bool}
end
section
variable {H : Type} {enc : TypeId × Value → H} {w : World} {v : Value} {d : DataW H} {ps : List MemPlace} {base base' : Nat} {r : Reach}
end
end Go.Proofs.YtiljpbljebfhnaaGreat

set_option linter.unusedVariables false
set_option linter.unusedSimpArgs false
set_option maxRecDepth 10000
namespace Go.Proofs.YtiljpbljebfhnaaGreat
open Go.Eng
open Go.Eng.Fc
end Go.Proofs.YtiljpbljebfhnaaGreat

set_option linter.unusedVariables false
set_option linter.unusedSimpArgs false
set_option maxRecDepth 10000
namespace Go.Proofs.YtiljpbljebfhnaaGreat
open Go.Eng
open Go.Eng.Fc
/-! ### weights that no step makes greater -/
end Go.Proofs.YtiljpbljebfhnaaGreat

set_option linter.unusedVariables false
set_option linter.unusedSimpArgs false
set_option maxRecDepth 10000
namespace Go.Proofs.YtiljpbljebfhnaaGreat
open Go.Eng
open Go.Eng.Fc
def zeroF : Fact := .mk 0 0 [] 0 0 []
theorem zero_le : AVleL [.i 0, .i 0, .val (.slice none 0 0), .i 0, .i 0, .val (.slice none 0 0)] (Fcells zeroF) := nilFact_le 0
end Go.Proofs.YtiljpbljebfhnaaGreat

set_option linter.unusedVariables false
set_option linter.unusedSimpArgs false
set_option maxRecDepth 10000
namespace Go.Proofs.YtiljpbljebfhnaaGreat
open Go.Eng
open Go.Eng.Fc
/-! ### nodes, without those that are FactTrue -/
end Go.Proofs.YtiljpbljebfhnaaGreat

set_option linter.unusedVariables false
set_option linter.unusedSimpArgs false
set_option maxRecDepth 10000
namespace Go.Proofs.YtiljpbljebfhnaaGreat
open Go.Eng
open Go.Eng.Fc
/-- the shape of a node with kids -/
theorem shape567 {W : FW} {p k : Fact} (hp : wfB W p = true) (hk : k ∈ p.kids) : (p = notF k) ∨ (∃ q, p = andF k q ∨ p = andF q k ∨ p = orF k q ∨ p = orF q k) := by
  have hn := (wfB_iff.1 hp).1
  simp only [nodeOkB, Bool.and_eq_true, decide_eq_true_eq, beq_iff_eq] at hn
  have hl : ¬ leafP p = true := by
    intro hl
    have h2 := hn.1.2
    simp only [leafP, Bool.and_eq_true, decide_eq_true_eq] at hl
    rw [kidsP, if_neg (by omega), if_neg (by omega)] at h2
    rw [List.eq_nil_of_length_eq_zero (l := p.kids) (by omega)] at hk; cases hk
  have h2 := hn.2
  rw [if_neg hl] at h2
  simp only [plainP, Bool.not_eq_true', Bool.or_eq_false_iff, decide_eq_false_iff_not, bne_eq_false_iff_eq] at h2
  have hpath : p.path = [] := List.eq_nil_of_length_eq_zero (by have := h2.1.1.2; omega)
  have hlen := hn.1.2
  rw [kidsP] at hlen
  by_cases h5 : p.op = 5
  · rw [if_pos h5] at hlen
    obtain ⟨a, ha⟩ := List.length_eq_one_iff.1 (show p.kids.length = 1 by omega)
    rw [ha, List.mem_singleton] at hk
    subst hk
    exact .inl (Fact.ext' h5 h2.1.1.1 hpath h2.1.2 h2.2 ha)
  · rw [if_neg h5] at hlen
    by_cases h6 : p.op = 6 ∨ p.op = 7
    · rw [if_pos h6] at hlen
      obtain ⟨a, b, hab⟩ : ∃ a b, p.kids = [a, b] := by
        match hm : p.kids, (show p.kids.length = 2 by omega) with
        | [a, b], _ => exact ⟨a, b, rfl⟩
      have mk : ∀ op, p.op = op → p = .mk op 0 [] 0 0 [a, b] := fun op e => Fact.ext' e h2.1.1.1 hpath h2.1.2 h2.2 hab
      rw [hab] at hk
      simp only [List.mem_cons, List.not_mem_nil, or_false] at hk
      right
      rcases hk with rfl | rfl
      · refine ⟨b, ?_⟩
        rcases h6 with e | e
        · exact .inl (mk 6 e)
        · exact .inr (.inr (.inl (mk 7 e)))
      · refine ⟨a, ?_⟩
        rcases h6 with e | e
        · exact .inr (.inl (mk 6 e))
        · exact .inr (.inr (.inr (mk 7 e)))
    · rw [if_neg h6] at hlen
      rw [List.eq_nil_of_length_eq_zero (l := p.kids) (by omega)] at hk; cases hk
/-- what is known of a fact that is made short -/
structure ShortOk (W : FW) (f g : Fact) : Prop where
  good : goodP W [g] = true
  le : nodesN g ≤ 12
  same : (okImp W (g, f) && okImp W (f, g)) = true
  again : shortF2 W g = g
  cant : canC W f = false → g = noF
  less : canC W f = true → nodesN g ≤ nodesN f
theorem kids_two2 {W : FW} {f : Fact} (h : wfB W f = true) : f.kids.length ≤ 2 := by
  have hn := (wfB_iff.1 h).1
  simp only [nodeOkB, Bool.and_eq_true, decide_eq_true_eq, beq_iff_eq] at hn
  have := hn.1.2
  unfold kidsP at this
  split at this <;> (try split at this) <;> omega
end Go.Proofs.YtiljpbljebfhnaaGreat

set_option linter.unusedVariables false
set_option linter.unusedSimpArgs false
set_option maxRecDepth 10000
namespace Go.Proofs.YtiljpbljebfhnaaGreat
open Go.Eng
open Go.Eng.Fc
theorem LsOk.pick {W : FW} {c : List FLit} (h : LsOk W c) {ns : List Int} (hr : ∀ n ∈ ns, 0 ≤ n ∧ n < c.length) : LsOk W (pickL c ns) := by
  have hm : ∀ l ∈ pickL c ns, l ∈ c := fun l hl => by
    obtain ⟨n, hn, rfl⟩ := List.mem_map.1 hl
    have := hr n hn
    exact getD_mem (by omega)
  exact ⟨h.w, fun l hl => h.ok l (hm l hl), fun l hl => h.cls l (hm l hl)⟩
end Go.Proofs.YtiljpbljebfhnaaGreat

set_option linter.unusedVariables false
set_option linter.unusedSimpArgs false
set_option maxRecDepth 10000
namespace Go.Proofs.YtiljpbljebfhnaaGreat
open Go.Eng
open Go.Eng.Fc
structure CsOk (W : FW) (cs : List (List FLit)) : Prop where
  ls : ∀ c ∈ cs, LsOk W c
  len : ∀ c ∈ cs, c.length ≤ 300
  cO : ∀ c ∈ cs, CaseOk W c
end Go.Proofs.YtiljpbljebfhnaaGreat

set_option linter.unusedVariables false
set_option linter.unusedSimpArgs false
set_option maxRecDepth 10000
namespace Go.Proofs.YtiljpbljebfhnaaGreat
open Go.Eng
open Go.Eng.Fc
end Go.Proofs.YtiljpbljebfhnaaGreat

set_option linter.unusedVariables false
set_option linter.unusedSimpArgs false
set_option maxRecDepth 10000
namespace Go.Proofs.YtiljpbljebfhnaaGreat
open Go.Eng
open Go.Eng.Fc
end Go.Proofs.YtiljpbljebfhnaaGreat

set_option linter.unusedVariables false
set_option linter.unusedSimpArgs false
set_option maxRecDepth 10000
namespace Go.Proofs.YtiljpbljebfhnaaGreat
open Go.Eng
open Go.Eng.Fc
abbrev AV.vl (v : Int × Int) : AV := .agg [AV.i v.1, AV.i v.2]
abbrev AV.thing (o : Int × List (Int × Int)) : AV := .agg [AV.i o.1, AV.vals o.2]
theorem b223 {B : Nat} {f : Fn} {fs cs : List AV} {F : List Ent → Prop} {J Jx : List (Int × Int) → List Ent → Prop} (l : List (Int × Int)) (hg : FindOk B Tryz.prog (.fn f fs cs) AV.vl l F J Jx) (H Hx : List Ent) (hF : F Hx) (hJ : J [] H) :
    BCall B Tryz.prog 223 [.sl 2 (l.map fun v => [AV.i v.1, AV.i v.2]), .fn f fs cs] (H ++ Hx) (FoundAt J Jx l Hx) (fun _ => False) := by
  refine BCall.of (n := 19) Tryz.func223 rfl (by kernel_rfl) rfl rfl (fun I w0 => ?_)
  refine CW.boundM (t := 0) rfl (fun hb0 => ?_)
  refine S2 ?_; refine Oas ?_; refine S5 ?_; refine Omv ?_; refine Oln ?_; refine Omv ?_; refine S3 ?_
  refine lj (fun m st => ∃ (k : Nat) (H1 : List Ent), st = ⟨[(8, .i k), (7, .i l.length), (0, .sl 2 (l.map fun v => [AV.i v.1, AV.i v.2])), (1, .fn f fs cs)], H1 ++ Hx⟩ ∧ m = l.length - k ∧ k ≤ l.length ∧ J (l.take k) H1) (⟨0, H, rfl, rfl, by simp, hJ⟩) ?_
  rintro m _ ⟨k, H1, rfl, rfl, hk, hJ1⟩
  refine S2 ?_; refine Ocm ?_; refine S3 ?_
  refine CW.cond rfl (fun h0 => ?_) (fun h0 => ?_)
  ·
    replace h0 := nm h0
    refine S6 ?_; refine Omv ?_; refine Oas ?_; refine S4 ?_; refine Omv ?_; refine Omv ?_; refine Omv ?_; refine Oix ?_; refine Ola ?_
    refine OL.vcallC rfl rfl rfl rfl rfl rfl rfl rfl (AVleL.refl _) (hg (l.take k) (l.getD k default) H1 Hx (by rw [take_getD (by omega)]; exact List.take_prefix _ _) hF hJ1) ?_
    rintro _ _ ⟨b, H2, rfl, rfl, hb1, hb2⟩
    rw [take_getD (by omega)] at hb1 hb2
    refine S2 ?_
    refine CW.cond rfl (fun h1 => ?_) (fun h1 => ?_)
    ·
      replace h1 := nm h1
      refine S2 ?_; refine Omv ?_; refine Oas ?_; refine S8 ?_
      refine Done.retR (rs := [.tmp 4]) rfl (.tmp rfl (.nil)) (AVleL.refl _) (by repeat (first | exact List.Sublist.refl _ | refine List.Sublist.cons _ ?_)) ?_
      exact ⟨H2, rfl, .inr ⟨l.take k, l.getD k default, l.drop (k + 1), split_getD (by omega), retI (by rw [List.length_take, Nat.min_eq_left (by omega)]), by rw [take_getD (by omega)]; exact hb2 h1⟩⟩
    ·
      replace h1 := nm h1
      refine S4 ?_; refine Oar ?_; refine Omv ?_; refine S1 ?_
      exact ag (⟨k + 1, H2, rfl, rfl, by omega, hb1 h1⟩)
  ·
    replace h0 := nm h0
    refine S7 ?_; refine Oas ?_; refine S3 ?_
    refine Done.retR (rs := [.tmp 4]) rfl (.tmp rfl (.nil)) (AVleL.refl _) (by repeat (first | exact List.Sublist.refl _ | refine List.Sublist.cons _ ?_)) ?_
    exact ⟨H1, rfl, .inl ⟨rfl, by have e : k = l.length := (by omega); rw [e, List.take_length] at hJ1; exact hJ1⟩⟩
theorem q223 {Hm : List Ent} {f : Fn} {fs cs : List AV} {p : (Int × Int) → Bool} {l : List (Int × Int)} (hg : PredOn Tryz.prog Hm (.fn f fs cs) AV.vl l p) : QCallIn Tryz.prog Hm 223 [.sl 2 (l.map fun v => [AV.i v.1, AV.i v.2]), .fn f fs cs] (fun y => ∃ n : Int, y = .i n ∧ decide (n ≥ 0) = l.any p) :=
  find_pure (by kernel_rfl) (fun B F J Jx h H Hx hF hJ => b223 l h H Hx hF hJ) hg
theorem pi207 {Hm : List Ent} {f : Fn} {fs cs : List AV} {p : (Int × Int) → Bool} {l : List (Int × Int)} (hg : PredOn Tryz.prog Hm (.fn f fs cs) AV.vl l p) : PCallIn Tryz.prog Hm 207 [.sl 2 (l.map fun v => [AV.i v.1, AV.i v.2]), .fn f fs cs] (.b (l.any p)) := by
  intro H hm
  refine ACall.mk' (n := 9) Tryz.func207 rfl (by kernel_rfl) rfl rfl (fun B I w0 => ?_)
  refine S2 ?_; refine Oas ?_; refine S4 ?_; refine Omv ?_; refine Omv ?_
  refine OL.qcallIn rfl rfl rfl (.mk' rfl rfl rfl rfl rfl) (q223 hg) hm (fun y hy => ?_)
  obtain ⟨n, rfl, hn⟩ := hy
  refine Ocm ?_; refine Oas ?_; refine S3 ?_
  refine r1 4 (H) ?_
  exact ⟨retB hn, rfl⟩
theorem pi208 {Hm : List Ent} {f : Fn} {fs cs : List AV} {p : (Int × Int) → Bool} {l : List (Int × Int)} (hg : PredOn Tryz.prog Hm (.fn f fs cs) AV.vl l p) (x : (Int × Int)) (hx : x ∈ l) : PCallIn Tryz.prog Hm 208 [AV.vl x, .ptr [.fn f fs cs]] (.b (!p x)) := by
  intro H hm
  refine ACall.mk' (n := 8) Tryz.func208 rfl (by kernel_rfl) rfl rfl (fun B I w0 => ?_)
  refine S2 ?_; refine Obx ?_; refine Oas ?_; refine S4 ?_; refine Old ?_; refine Ola ?_
  refine OL.vcallC rfl rfl rfl rfl rfl rfl rfl rfl (AVleL.refl _) (hg x hx B H hm) ?_
  rintro _ Hn ⟨rfl, hH⟩
  have hH := hH.symm
  subst hH
  refine Ont ?_; refine Oas ?_; refine S3 ?_
  refine r1 3 (H) ?_
  exact ⟨by first | rfl | exact retI (by simp_all) | exact retB (by simp_all) | simp_all, rfl⟩
theorem pi174 {Hm : List Ent} {f : Fn} {fs cs : List AV} {p : (Int × Int) → Bool} {l : List (Int × Int)} (hg : PredOn Tryz.prog Hm (.fn f fs cs) AV.vl l p) : PCallIn Tryz.prog Hm 174 [.sl 2 (l.map fun v => [AV.i v.1, AV.i v.2]), .fn f fs cs] (.b (l.all p)) := by
  intro H hm
  refine ACall.mk' (n := 9) Tryz.func174 rfl (by kernel_rfl) rfl rfl (fun B I w0 => ?_)
  refine S2 ?_; refine Obx ?_; refine Oas ?_; refine S4 ?_; refine Omv ?_; refine Omf ?_
  refine OL.popC rfl rfl rfl (POp.callIn (.mk' rfl rfl rfl rfl rfl) (AVleL.refl _) (pi207 (.of (fun x hx => pi208 hg x hx))) (fun e he => by repeat (first | exact hm e he | apply List.mem_cons_of_mem))) ?_
  refine Ont ?_; refine Oas ?_; refine S3 ?_
  refine r1 4 (H) ?_
  exact ⟨retB (by simp [List.not_any_eq_all_not]), rfl⟩
theorem p174 {f : Fn} {fs cs : List AV} {p : (Int × Int) → Bool} (hg : PredOk Tryz.prog (.fn f fs cs) AV.vl p) (l : List (Int × Int)) : PCall Tryz.prog 174 [.sl 2 (l.map fun v => [AV.i v.1, AV.i v.2]), .fn f fs cs] (.b (l.all p)) := (pi174 (hg.on l)).pure
theorem b226 {B : Nat} {f : Fn} {fs cs : List AV} {F : List Ent → Prop} {J Jx : List (Int × List (Int × Int)) → List Ent → Prop} (l : List (Int × List (Int × Int))) (hg : FindOk B Tryz.prog (.fn f fs cs) AV.thing l F J Jx) (H Hx : List Ent) (hF : F Hx) (hJ : J [] H) :
    BCall B Tryz.prog 226 [.sl 2 (l.map fun o => [AV.i o.1, AV.vals o.2]), .fn f fs cs] (H ++ Hx) (FoundAt J Jx l Hx) (fun _ => False) := by
  refine BCall.of (n := 19) Tryz.func226 rfl (by kernel_rfl) rfl rfl (fun I w0 => ?_)
  refine CW.boundM (t := 0) rfl (fun hb0 => ?_)
  refine S2 ?_; refine Oas ?_; refine S5 ?_; refine Omv ?_; refine Oln ?_; refine Omv ?_; refine S3 ?_
  refine lj (fun m st => ∃ (k : Nat) (H1 : List Ent), st = ⟨[(8, .i k), (7, .i l.length), (0, .sl 2 (l.map fun o => [AV.i o.1, AV.vals o.2])), (1, .fn f fs cs)], H1 ++ Hx⟩ ∧ m = l.length - k ∧ k ≤ l.length ∧ J (l.take k) H1) (⟨0, H, rfl, rfl, by simp, hJ⟩) ?_
  rintro m _ ⟨k, H1, rfl, rfl, hk, hJ1⟩
  refine S2 ?_; refine Ocm ?_; refine S3 ?_
  refine CW.cond rfl (fun h0 => ?_) (fun h0 => ?_)
  ·
    replace h0 := nm h0
    refine S6 ?_; refine Omv ?_; refine Oas ?_; refine S4 ?_; refine Omv ?_; refine Omv ?_; refine Omv ?_; refine Oix ?_; refine Ola ?_
    refine OL.vcallC rfl rfl rfl rfl rfl rfl rfl rfl (AVleL.refl _) (hg (l.take k) (l.getD k default) H1 Hx (by rw [take_getD (by omega)]; exact List.take_prefix _ _) hF hJ1) ?_
    rintro _ _ ⟨b, H2, rfl, rfl, hb1, hb2⟩
    rw [take_getD (by omega)] at hb1 hb2
    refine S2 ?_
    refine CW.cond rfl (fun h1 => ?_) (fun h1 => ?_)
    ·
      replace h1 := nm h1
      refine S2 ?_; refine Omv ?_; refine Oas ?_; refine S8 ?_
      refine Done.retR (rs := [.tmp 4]) rfl (.tmp rfl (.nil)) (AVleL.refl _) (by repeat (first | exact List.Sublist.refl _ | refine List.Sublist.cons _ ?_)) ?_
      exact ⟨H2, rfl, .inr ⟨l.take k, l.getD k default, l.drop (k + 1), split_getD (by omega), retI (by rw [List.length_take, Nat.min_eq_left (by omega)]), by rw [take_getD (by omega)]; exact hb2 h1⟩⟩
    ·
      replace h1 := nm h1
      refine S4 ?_; refine Oar ?_; refine Omv ?_; refine S1 ?_
      exact ag (⟨k + 1, H2, rfl, rfl, by omega, hb1 h1⟩)
  ·
    replace h0 := nm h0
    refine S7 ?_; refine Oas ?_; refine S3 ?_
    refine Done.retR (rs := [.tmp 4]) rfl (.tmp rfl (.nil)) (AVleL.refl _) (by repeat (first | exact List.Sublist.refl _ | refine List.Sublist.cons _ ?_)) ?_
    exact ⟨H1, rfl, .inl ⟨rfl, by have e : k = l.length := (by omega); rw [e, List.take_length] at hJ1; exact hJ1⟩⟩
theorem q226 {Hm : List Ent} {f : Fn} {fs cs : List AV} {p : (Int × List (Int × Int)) → Bool} {l : List (Int × List (Int × Int))} (hg : PredOn Tryz.prog Hm (.fn f fs cs) AV.thing l p) : QCallIn Tryz.prog Hm 226 [.sl 2 (l.map fun o => [AV.i o.1, AV.vals o.2]), .fn f fs cs] (fun y => ∃ n : Int, y = .i n ∧ decide (n ≥ 0) = l.any p) :=
  find_pure (by kernel_rfl) (fun B F J Jx h H Hx hF hJ => b226 l h H Hx hF hJ) hg
theorem pi221 {Hm : List Ent} {f : Fn} {fs cs : List AV} {p : (Int × List (Int × Int)) → Bool} {l : List (Int × List (Int × Int))} (hg : PredOn Tryz.prog Hm (.fn f fs cs) AV.thing l p) : PCallIn Tryz.prog Hm 221 [.sl 2 (l.map fun o => [AV.i o.1, AV.vals o.2]), .fn f fs cs] (.b (l.any p)) := by
  intro H hm
  refine ACall.mk' (n := 9) Tryz.func221 rfl (by kernel_rfl) rfl rfl (fun B I w0 => ?_)
  refine S2 ?_; refine Oas ?_; refine S4 ?_; refine Omv ?_; refine Omv ?_
  refine OL.qcallIn rfl rfl rfl (.mk' rfl rfl rfl rfl rfl) (q226 hg) hm (fun y hy => ?_)
  obtain ⟨n, rfl, hn⟩ := hy
  refine Ocm ?_; refine Oas ?_; refine S3 ?_
  refine r1 4 (H) ?_
  exact ⟨retB hn, rfl⟩
theorem pi222 {Hm : List Ent} {f : Fn} {fs cs : List AV} {p : (Int × List (Int × Int)) → Bool} {l : List (Int × List (Int × Int))} (hg : PredOn Tryz.prog Hm (.fn f fs cs) AV.thing l p) (x : (Int × List (Int × Int))) (hx : x ∈ l) : PCallIn Tryz.prog Hm 222 [AV.thing x, .ptr [.fn f fs cs]] (.b (!p x)) := by
  intro H hm
  refine ACall.mk' (n := 8) Tryz.func222 rfl (by kernel_rfl) rfl rfl (fun B I w0 => ?_)
  refine S2 ?_; refine Obx ?_; refine Oas ?_; refine S4 ?_; refine Old ?_; refine Ola ?_
  refine OL.vcallC rfl rfl rfl rfl rfl rfl rfl rfl (AVleL.refl _) (hg x hx B H hm) ?_
  rintro _ Hn ⟨rfl, hH⟩
  have hH := hH.symm
  subst hH
  refine Ont ?_; refine Oas ?_; refine S3 ?_
  refine r1 3 (H) ?_
  exact ⟨by first | rfl | exact retI (by simp_all) | exact retB (by simp_all) | simp_all, rfl⟩
theorem pi204 {Hm : List Ent} {f : Fn} {fs cs : List AV} {p : (Int × List (Int × Int)) → Bool} {l : List (Int × List (Int × Int))} (hg : PredOn Tryz.prog Hm (.fn f fs cs) AV.thing l p) : PCallIn Tryz.prog Hm 204 [.sl 2 (l.map fun o => [AV.i o.1, AV.vals o.2]), .fn f fs cs] (.b (l.all p)) := by
  intro H hm
  refine ACall.mk' (n := 9) Tryz.func204 rfl (by kernel_rfl) rfl rfl (fun B I w0 => ?_)
  refine S2 ?_; refine Obx ?_; refine Oas ?_; refine S4 ?_; refine Omv ?_; refine Omf ?_
  refine OL.popC rfl rfl rfl (POp.callIn (.mk' rfl rfl rfl rfl rfl) (AVleL.refl _) (pi221 (.of (fun x hx => pi222 hg x hx))) (fun e he => by repeat (first | exact hm e he | apply List.mem_cons_of_mem))) ?_
  refine Ont ?_; refine Oas ?_; refine S3 ?_
  refine r1 4 (H) ?_
  exact ⟨retB (by simp [List.not_any_eq_all_not]), rfl⟩
theorem p204 {f : Fn} {fs cs : List AV} {p : (Int × List (Int × Int)) → Bool} (hg : PredOk Tryz.prog (.fn f fs cs) AV.thing p) (l : List (Int × List (Int × Int))) : PCall Tryz.prog 204 [.sl 2 (l.map fun o => [AV.i o.1, AV.vals o.2]), .fn f fs cs] (.b (l.all p)) := (pi204 (hg.on l)).pure
def valP (v : Int × Int) (m : Int) : Bool := if v.1 = 1 then decide (v.2 ≥ -1000000000) && decide (v.2 ≤ 1000000000) else if v.1 = 2 then v.2 == 0 else v.1 == 3 && decide (v.2 ≥ 0) && decide (v.2 < m)
def hasP (W : FW) (c s : Int) : Bool := belowP W c (W.owner.getD s.toNat default)
def slotsOf (W : FW) (c : Int) : List Int := (numL W.owner.length).filter (hasP W c)
def thingP (W : FW) (m : Int) (o : Int × List (Int × Int)) : Bool := ownP W o.1 && ((o.2.length : Int) == ((slotsOf W o.1).length : Int)) && o.2.all (valP · m)
def thingsP (W : FW) (objs : List (Int × List (Int × Int))) : Bool := decide ((objs.length : Int) ≤ 40) && objs.all (thingP W objs.length)
def argsP (args : List (Int × Int)) (m : Int) : Bool := decide ((args.length : Int) ≥ 1) && decide ((args.length : Int) ≤ 3) && args.all (valP · m)
def handedP (W : FW) (objs : List (Int × List (Int × Int))) (args : List (Int × Int)) : Bool := thingsP W objs && argsP args objs.length
theorem p176 (v : Int × Int) (m : Int) : PCall Tryz.prog 176 [AV.vl v, .i m] (.b (valP v m)) := by
  intro H
  refine ACall.mk' (n := 36) Tryz.func176 rfl (by kernel_rfl) rfl rfl (fun B I w0 => ?_)
  refine S2 ?_; refine Obx ?_; refine Oas ?_; refine S5 ?_; refine Ofa ?_; refine Old ?_; refine S5 ?_; refine Ocm ?_; refine Oas ?_; refine S2 ?_
  refine CW.cond rfl (fun h0 => ?_) (fun h0 => ?_)
  ·
    replace h0 := nm h0
    refine S2 ?_; refine Ofa ?_; refine Old ?_; refine Ocm ?_; refine Omv ?_; refine Pfa ?_; refine Pld ?_; refine Pcm ?_; refine Opk ?_; refine Oas ?_; refine S5 ?_
    refine r1 4 (H) ?_
    exact ⟨retB (by simp only [valP]; rw [if_pos h0]; simp), rfl⟩
  ·
    replace h0 := nm h0
    refine S2 ?_; refine Ocm ?_; refine Oas ?_; refine S2 ?_
    refine CW.cond rfl (fun h1 => ?_) (fun h1 => ?_)
    ·
      replace h1 := nm h1
      refine S2 ?_; refine Ofa ?_; refine Old ?_; refine Ocm ?_; refine Oas ?_; refine S5 ?_
      refine r1 4 (H) ?_
      exact ⟨retB (by simp only [valP]; rw [if_neg h0, if_pos h1]), rfl⟩
    ·
      replace h1 := nm h1
      refine S5 ?_; refine Ofa ?_; refine Old ?_; refine Ocm ?_; refine Omv ?_; refine Pfa ?_; refine Pld ?_; refine Pcm ?_; refine Opk ?_; refine Omv ?_; refine Pfa ?_; refine Pld ?_
      refine Pmv ?_; refine Pcm ?_; refine Opk ?_; refine Oas ?_; refine S3 ?_
      refine r1 4 (H) ?_
      exact ⟨retB (by simp only [valP]; rw [if_neg h0, if_neg h1]; simp [Bool.and_assoc]), rfl⟩
theorem p172 (v : Int × Int) (m : Int) : PCall Tryz.prog 172 [AV.vl v, .i m] (.b (valP v m)) := by
  intro H
  refine ACall.mk' (n := 33) Tryz.func172 rfl (by kernel_rfl) rfl rfl (fun B I w0 => ?_)
  refine S2 ?_; refine Obx ?_; refine Oas ?_; refine S5 ?_; refine Ofa ?_; refine Old ?_; refine S5 ?_; refine Ocm ?_; refine Oas ?_; refine S2 ?_
  refine CW.cond rfl (fun h0 => ?_) (fun h0 => ?_)
  ·
    replace h0 := nm h0
    refine S2 ?_; refine Ofa ?_; refine Old ?_; refine Ocm ?_; refine Omv ?_; refine Pfa ?_; refine Pld ?_; refine Pcm ?_; refine Opk ?_; refine Oas ?_; refine S5 ?_
    refine r1 4 (H) ?_
    exact ⟨retB (by simp only [valP]; rw [if_pos h0]; simp), rfl⟩
  ·
    replace h0 := nm h0
    refine S2 ?_; refine Ocm ?_; refine Oas ?_; refine S2 ?_
    refine CW.cond rfl (fun h1 => ?_) (fun h1 => ?_)
    ·
      replace h1 := nm h1
      refine S2 ?_; refine Ofa ?_; refine Old ?_; refine Ocm ?_; refine Oas ?_; refine S5 ?_
      refine r1 4 (H) ?_
      exact ⟨retB (by simp only [valP]; rw [if_neg h0, if_pos h1]), rfl⟩
    ·
      replace h1 := nm h1
      refine S2 ?_; refine Ocm ?_; refine Oas ?_; refine S2 ?_
      refine CW.cond rfl (fun h2 => ?_) (fun h2 => ?_)
      ·
        replace h2 := nm h2
        refine S2 ?_; refine Ofa ?_; refine Old ?_; refine Ocm ?_; refine Omv ?_; refine Pfa ?_; refine Pld ?_; refine Pmv ?_; refine Pcm ?_; refine Opk ?_; refine Oas ?_; refine S5 ?_
        refine r1 4 (H) ?_
        exact ⟨retB (by simp only [valP]; rw [if_neg h0, if_neg h1, h2]; simp), rfl⟩
      ·
        replace h2 := nm h2
        refine S5 ?_; refine Oas ?_; refine S3 ?_
        refine r1 4 (H) ?_
        exact ⟨retB (by simp only [valP]; rw [if_neg h0, if_neg h1, beq_eq_false_iff_ne.2 h2]; rfl), rfl⟩
theorem p175 (objs : List (Int × List (Int × Int))) (v : Int × Int) : PCall Tryz.prog 175 [AV.vl v, .ptr [AV.things objs]] (.b (valP v objs.length)) := by
  intro H
  refine ACall.mk' (n := 8) Tryz.func175 rfl (by kernel_rfl) rfl rfl (fun B I w0 => ?_)
  refine S2 ?_; refine Obx ?_; refine Oas ?_; refine S4 ?_; refine Ola ?_; refine Old ?_; refine Oln ?_
  refine OL.popC rfl rfl rfl (POp.call (.mk' rfl rfl rfl rfl rfl) (p176 v _)) ?_
  refine Oas ?_; refine S3 ?_
  refine r1 3 (H) ?_
  exact ⟨by first | rfl | exact retI (by simp_all) | exact retB (by simp_all) | simp_all, rfl⟩
theorem p206 (objs : List (Int × List (Int × Int))) (v : Int × Int) : PCall Tryz.prog 206 [AV.vl v, .ptr [AV.things objs]] (.b (valP v objs.length)) := by
  intro H
  refine ACall.mk' (n := 8) Tryz.func206 rfl (by kernel_rfl) rfl rfl (fun B I w0 => ?_)
  refine S2 ?_; refine Obx ?_; refine Oas ?_; refine S4 ?_; refine Ola ?_; refine Old ?_; refine Oln ?_
  refine OL.popC rfl rfl rfl (POp.call (.mk' rfl rfl rfl rfl rfl) (p176 v _)) ?_
  refine Oas ?_; refine S3 ?_
  refine r1 3 (H) ?_
  exact ⟨by first | rfl | exact retI (by simp_all) | exact retB (by simp_all) | simp_all, rfl⟩
theorem p178 {W : FW} (h : worldP W = true) {c s : Int} (hc : 0 ≤ c ∧ c < 3 + W.parents.length) (hs : 0 ≤ s ∧ s < W.owner.length) : PCall Tryz.prog 178 [Wptr W, .i c, .i s] (.b (hasP W c s)) := by
  intro H
  refine ACall.mk' (n := 22) Tryz.func178 rfl (by kernel_rfl) rfl rfl (fun B I w0 => ?_)
  have hP := world_len h
  have ho := owner_rng h hs
  refine S2 ?_; refine Oas ?_; refine S3 ?_
  refine CW.dp mixed ?_
  refine DP.anyC 0 14 22 rfl (by decide +kernel) rfl rfl (by decide +kernel) ?_
  refine Amv ?_; refine Amv ?_; refine Anc ?_; refine Afa ?_; refine Aia ?_
  refine AD.popC rfl rfl rfl (POp.ld1 rfl rfl rfl (up_drop (c := c.toNat) (by simp) (by rw [ups_len]; omega))) ?_
  refine Amv ?_; refine Anc ?_; refine Afa ?_; refine Afa ?_; refine Ald ?_; refine Amv ?_; refine Aix ?_; refine Ald ?_
  refine AD.nil ?_
  refine DP.tailC 14 (by decide +kernel) rfl ?_
  refine OL.popC rfl rfl rfl (POp.call (.mk' rfl rfl rfl rfl rfl) (p107 _ _ (by omega) (u_get (ups_lt hP) _))) ?_
  refine Oas ?_; refine S3 ?_
  refine r1 6 (H) ?_
  exact ⟨by rfl, rfl⟩

theorem p179 {W : FW} (h : worldP W = true) {c : Int} (hc : 0 ≤ c ∧ c < 3 + W.parents.length) : PCall Tryz.prog 179 [Wptr W, .i c] (AV.ints (slotsOf W c)) := by
  intro H
  refine ACall.mk' (n := 26) Tryz.func179 rfl (by kernel_rfl) rfl rfl (fun B I w0 => ?_)
  have hP := world_lens h
  refine S2 ?_; refine Oas ?_; refine S4 ?_; refine Oas ?_; refine S4 ?_
  refine CW.ownNil 5 3 1 rfl ?_
  refine S1 ?_; refine Omv ?_; refine Onc ?_; refine Ofa ?_; refine Ofa ?_; refine Old ?_; refine Oln ?_; refine Omv ?_; refine S3 ?_
  refine lj (fun m st => ∃ (k : Nat) (v : Value), st = ⟨[(13, .i k), (12, .i W.owner.length), (5, .as (AV.ints ((numL k).filter (hasP W c))) v), (0, Wptr W), (1, .i c)], .own 3 1 v :: H⟩ ∧ m = W.owner.length - k ∧ k ≤ W.owner.length) (⟨0, _, rfl, rfl, by omega⟩) ?_
  rintro m _ ⟨k, v, rfl, rfl, hk⟩
  refine S2 ?_; refine Ocm ?_; refine S3 ?_
  refine CW.cond rfl (fun h0 => ?_) (fun h0 => ?_)
  ·
    replace h0 := nm h0
    have hkl : k < W.owner.length := by omega
    have hfl : ((numL k).filter (hasP W c)).length ≤ 40 := Nat.le_trans (List.length_filter_le _ _) (by rw [num_len]; omega)
    refine S6 ?_; refine Omv ?_; refine Oas ?_; refine S4 ?_; refine Omv ?_; refine Omv ?_; refine Omv ?_
    refine OL.popC rfl rfl rfl (POp.call (.mk' rfl rfl rfl rfl rfl) (p178 h hc (by omega))) ?_
    refine S2 ?_
    refine CW.cond rfl (fun h1 => ?_) (fun h1 => ?_)
    ·
      have e : ((numL (k + 1)).filter (hasP W c)) = ((numL k).filter (hasP W c)) ++ [(k : Int)] := by rw [num_succ, List.filter_append]; simp [h1]
      refine S1 ?_; refine Omv ?_; refine Omv ?_
      refine OL.popC rfl rfl rfl (POp.row rfl rfl (by first | rfl | simp_all [strip]) rfl rfl rfl rfl rfl rfl) ?_
      refine OL.appendC rfl rfl rfl rfl rfl rfl rfl rfl (AVle.refl _) (rfl) (fun v => by repeat (first | exact Upd.head _ _ _ | apply Upd.tail)) (by simp only [partsOf, List.zip, List.zipWith, List.map, List.length_map, List.length_cons, List.length_nil]; omega) (by simp only [partsOf, List.zip, List.zipWith, List.map, List.length_map, List.length_cons, List.length_nil]; omega) (fun v23 => ?_)
      refine Oas ?_; refine S3 ?_
      refine CW.le 5 (y := .as (AV.ints ((numL (k + 1)).filter (hasP W c))) v23) rfl (by rw [e, ints_one]; exact AVle.refl _) ?_
      refine S1 ?_; refine Oar ?_; refine Omv ?_; refine S1 ?_
      exact ag (⟨k + 1, v23, rfl, rfl, by omega⟩)
    ·
      have e : ((numL (k + 1)).filter (hasP W c)) = ((numL k).filter (hasP W c)) := by rw [num_succ, List.filter_append]; simp [h1]
      refine S3 ?_
      rw [← e]
      refine S1 ?_; refine Oar ?_; refine Omv ?_; refine S1 ?_
      exact ag (⟨k + 1, v, rfl, rfl, by omega⟩)
  ·
    replace h0 := nm h0
    obtain rfl : k = W.owner.length := by omega
    refine S7 ?_; refine Omv ?_; refine Oas ?_; refine S3 ?_
    refine Done.retR (rs := [.tmp 4]) (H' := H) rfl (.tmp rfl (.nil)) (.cons (AVle.asL _ _) .nil) (by repeat (first | exact List.Sublist.refl _ | refine List.Sublist.cons _ ?_)) ?_
    exact ⟨by rfl, rfl⟩

theorem has_low {W : FW} (h : worldP W = true) {c s : Int} (hc : 0 ≤ c ∧ c < 3) (hs : 0 ≤ s ∧ s < W.owner.length) : hasP W c s = false := by
  have ho := owner_rng h hs
  show upB W c.toNat (W.owner.getD s.toNat default).toNat = false
  rw [upB_low (by omega), Bool.or_eq_false_iff, beq_eq_false_iff_ne, beq_eq_false_iff_ne]
  omega
theorem p128 {W : FW} (h : worldP W = true) {c s : Int} (hc : 0 ≤ c ∧ c < 3 + W.parents.length) (hs : 0 ≤ s ∧ s < W.owner.length) : PCall Tryz.prog 128 [AV.world W, .i c, .i s] (.b (hasP W c s)) := by
  intro H
  refine ACall.mk' (n := 19) Tryz.func128 rfl (by kernel_rfl) rfl rfl (fun B I w0 => ?_)
  have ho := owner_rng h hs
  refine S2 ?_; refine Obx ?_; refine Oas ?_; refine S3 ?_
  refine CW.dp mixed ?_
  refine DP.one (k := 0) (by decide +kernel) rfl ?_
  refine Omv ?_
  refine OL.nil (Done.dp ?_)
  refine DP.one (k := 1) (by decide +kernel) rfl ?_
  refine Ocm ?_
  refine OL.nil (Done.dp ?_)
  refine DP.one (k := 2) (by decide +kernel) rfl ?_
  refine Omv ?_
  refine OL.nil (Done.dp ?_)
  refine DP.anyC 3 10 19 rfl (by decide +kernel) rfl rfl (by decide +kernel) ?_
  refine AD.guardC rfl rfl rfl rfl rfl (fun hg => (by first | exact POp.ldA rfl rfl rfl rfl | (apply POp.ldAH rfl rfl rfl; (case hm => repeat (first | exact .head _ | refine .tail _ ?_)); (case hy => rfl); (case hn => rfl)))) ?_
  refine AD.guardC rfl rfl rfl rfl rfl (fun hg => POp.move rfl rfl rfl) ?_
  refine AD.guardC rfl rfl rfl rfl rfl (fun hg => (by first | exact POp.fa rfl rfl rfl rfl | exact POp.faP rfl rfl rfl rfl)) ?_
  refine AD.guardC rfl rfl rfl rfl rfl (fun hg => (by first | exact POp.ld1 rfl rfl (gd hg) rfl | (apply POp.ld1H rfl rfl (gd hg); (case hm => repeat (first | exact .head _ | refine .tail _ ?_)); (case hy => rfl)))) ?_
  refine AD.guardC rfl rfl rfl rfl rfl (fun hg => POp.move rfl rfl rfl) ?_
  refine AD.guardC rfl rfl rfl rfl rfl (fun hg => (by first | exact POp.ixM rfl rfl (gd hg) rfl (gd hg) (by omega) | exact POp.ixI rfl rfl (gd hg) rfl (gd hg) (by omega))) ?_
  refine AD.guardC rfl rfl rfl rfl rfl (fun hg => (by first | exact POp.ld1 rfl rfl (gd hg) rfl | (apply POp.ld1H rfl rfl (gd hg); (case hm => repeat (first | exact .head _ | refine .tail _ ?_)); (case hy => rfl)))) ?_
  refine AD.nil ?_
  refine DP.tailC 10 (by decide +kernel) rfl ?_
  refine OL.guardC rfl rfl rfl rfl rfl rfl (fun hg => POp.call (.mk' rfl rfl rfl rfl (by first | rfl | ((repeat (first | exact hg | rfl | refine Bool.and_eq_true_iff.2 ⟨?_, ?_⟩)); done) | simp_all [strip, constAV])) (p52 h (by rw [classP, Bool.and_eq_true, decide_eq_true_eq, decide_eq_true_eq]; omega) (by rw [classP, Bool.and_eq_true, decide_eq_true_eq, decide_eq_true_eq]; omega))) ?_
  refine Opk ?_; refine Oas ?_; refine S3 ?_
  refine r1 6 (H) ?_
  exact ⟨retB (by by_cases h3 : c ≥ 3; simp [h3, hasP]; rw [has_low h (by omega) hs]; simp [h3]), rfl⟩
theorem p119 {W : FW} (h : worldP W = true) {c : Int} (hc : 0 ≤ c ∧ c < 3 + W.parents.length) : PCall Tryz.prog 119 [AV.world W, .i c] (AV.ints (slotsOf W c)) := by
  intro H
  refine ACall.mk' (n := 23) Tryz.func119 rfl (by kernel_rfl) rfl rfl (fun B I w0 => ?_)
  have hP := world_lens h
  refine S2 ?_; refine Obx ?_; refine Oas ?_; refine S4 ?_; refine Oas ?_; refine S4 ?_
  refine CW.ownNil 5 3 1 rfl ?_
  refine S1 ?_; refine Ofa ?_; refine Old ?_; refine Oln ?_; refine Omv ?_; refine S3 ?_
  refine lj (fun m st => ∃ (k : Nat) (v : Value), st = ⟨[(10, .i k), (9, .i W.owner.length), (5, .as (AV.ints ((numL k).filter (hasP W c))) v), (2, .ptr (Wcells W)), (1, .i c)], .own 3 1 v :: H⟩ ∧ m = W.owner.length - k ∧ k ≤ W.owner.length) (⟨0, _, rfl, rfl, by omega⟩) ?_
  rintro m _ ⟨k, v, rfl, rfl, hk⟩
  refine S2 ?_; refine Ocm ?_; refine S3 ?_
  refine CW.cond rfl (fun h0 => ?_) (fun h0 => ?_)
  ·
    replace h0 := nm h0
    have hkl : k < W.owner.length := by omega
    have hfl : ((numL k).filter (hasP W c)).length ≤ 40 := Nat.le_trans (List.length_filter_le _ _) (by rw [num_len]; omega)
    refine S6 ?_; refine Omv ?_; refine Oas ?_; refine S4 ?_; refine Ola ?_; refine Omv ?_; refine Omv ?_
    refine OL.popC rfl rfl rfl (POp.call (.mk' rfl rfl rfl rfl rfl) (p128 h hc (by omega))) ?_
    refine S2 ?_
    refine CW.cond rfl (fun h1 => ?_) (fun h1 => ?_)
    ·
      have e : ((numL (k + 1)).filter (hasP W c)) = ((numL k).filter (hasP W c)) ++ [(k : Int)] := by rw [num_succ, List.filter_append]; simp [h1]
      refine S1 ?_; refine Omv ?_; refine Omv ?_
      refine OL.popC rfl rfl rfl (POp.row rfl rfl (by first | rfl | simp_all [strip]) rfl rfl rfl rfl rfl rfl) ?_
      refine OL.appendC rfl rfl rfl rfl rfl rfl rfl rfl (AVle.refl _) (rfl) (fun v => by repeat (first | exact Upd.head _ _ _ | apply Upd.tail)) (by simp only [partsOf, List.zip, List.zipWith, List.map, List.length_map, List.length_cons, List.length_nil]; omega) (by simp only [partsOf, List.zip, List.zipWith, List.map, List.length_map, List.length_cons, List.length_nil]; omega) (fun v20 => ?_)
      refine Oas ?_; refine S3 ?_
      refine CW.le 5 (y := .as (AV.ints ((numL (k + 1)).filter (hasP W c))) v20) rfl (by rw [e, ints_one]; exact AVle.refl _) ?_
      refine S1 ?_; refine Oar ?_; refine Omv ?_; refine S1 ?_
      exact ag (⟨k + 1, v20, rfl, rfl, by omega⟩)
    ·
      have e : ((numL (k + 1)).filter (hasP W c)) = ((numL k).filter (hasP W c)) := by rw [num_succ, List.filter_append]; simp [h1]
      refine S3 ?_
      rw [← e]
      refine S1 ?_; refine Oar ?_; refine Omv ?_; refine S1 ?_
      exact ag (⟨k + 1, v, rfl, rfl, by omega⟩)
  ·
    replace h0 := nm h0
    obtain rfl : k = W.owner.length := by omega
    refine S7 ?_; refine Omv ?_; refine Oas ?_; refine S3 ?_
    refine Done.retR (rs := [.tmp 4]) (H' := H) rfl (.tmp rfl (.nil)) (.cons (AVle.asL _ _) .nil) (by repeat (first | exact List.Sublist.refl _ | refine List.Sublist.cons _ ?_)) ?_
    exact ⟨by rfl, rfl⟩
end Go.Proofs.YtiljpbljebfhnaaGreat
