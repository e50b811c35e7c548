/- Part 15 of the proof: contracts of functions of the program and what they need. No condition beyond those that each theorem names. -/
import Derived.Test.YtpgnjlngepfanaaGreatSvP14
set_option linter.unusedVariables false
namespace Go.Eng.Bd
open Go.Eng.Fc
open Go.Eng.Im (U8 numberR manyR sumR splitR Sec sumP sumStep)
structure Raw where
 kind : U8
 body : List U8
 sum : List U8
def rawW (s : Raw) : List U8 := ([s.kind] ++ numW s.body.length) ++ (s.body ++ s.sum)
def Raw.sec (s : Raw) : Sec := ⟨s.kind, s.body, !(s.sum == sumR s.kind s.body)⟩
structure Raw.Ok (s : Raw) : Prop where
 bl : s.body.length ≤ 100000000
 sl : s.sum.length = 4
theorem raw_fwd {s : Raw} (h : s.Ok) (r : List U8) : Im.secR (rawW s ++ r) = some (s.sec, r) := by
 have e : rawW s ++ r = s.kind :: (numW s.body.length ++ (s.body ++ (s.sum ++ r))) := by rw [rawW]; simp only [List.append_assoc]; rfl
 rw [e]
 have hbl := h.bl
 have hm : manyR (numW s.body.length ++ (s.body ++ (s.sum ++ r))) = some (s.body.length, s.body ++ (s.sum ++ r)) := many_fwd (by omega) (by rw [List.length_append]; omega)
 have h4 : 4 ≤ ((s.body ++ (s.sum ++ r)).drop s.body.length).length := by rw [List.drop_left, List.length_append, h.sl]; omega
 rw [Im.secR_good hm h4, List.take_left, List.drop_left]
 have h5 : (s.sum ++ r).take 4 = s.sum := by rw [show (4 : Nat) = s.sum.length from h.sl.symm, List.take_left]
 have h6 : (s.sum ++ r).drop 4 = r := by rw [show (4 : Nat) = s.sum.length from h.sl.symm, List.drop_left]
 rw [h5, h6]; rfl
theorem raw_pos (s : Raw) : 0 < (rawW s).length := by simp only [rawW, List.length_append, List.length_singleton]; omega
theorem raws_fwd : ∀ (f : Nat) (L : List Raw), (∀ s ∈ L, s.Ok) → (L.flatMap rawW).length ≤ f → Im.secsR f (L.flatMap rawW) = (L.map Raw.sec, true)
 | 0, [], _, _ => rfl
 | 0, s :: r, h, hl => by
  rw [List.flatMap_cons, List.length_append] at hl
  have := raw_pos s
  omega
 | f + 1, [], _, _ => rfl
 | f + 1, s :: r, h, hl => by
  rw [List.flatMap_cons] at hl ⊢
  have e := raw_fwd (h s (.head _)) (r.flatMap rawW)
  rw [List.length_append] at hl
  have hp := raw_pos s
  have ih := raws_fwd f r (fun x hx => h x (.tail _ hx)) (by omega)
  obtain ⟨a, t, ht⟩ : ∃ a t, rawW s ++ r.flatMap rawW = a :: t := ⟨s.kind, _, rfl⟩
  rw [ht] at e ⊢
  unfold Im.secsR
  rw [e]
  simp only
  rw [ih]; rfl
def spot1 (n : Nat) (s : Raw) : List Int := List.replicate (1 + (numW s.body.length).length) (-1) ++ List.replicate (s.body.length + 4) (n : Int)
def spotsN : Nat → List Raw → List Int
 | _, [] => []
 | n, s :: r => spot1 n s ++ spotsN (n + 1) r
def spotsP (L : List Raw) : List Int := [-1, -1] ++ spotsN 0 L
theorem spot1_len (n : Nat) {s : Raw} (h : s.Ok) : (spot1 n s).length = (rawW s).length := by
 have := h.sl
 simp only [spot1, rawW, List.length_append, List.length_replicate, List.length_singleton]; omega
theorem getD_app1 {α : Type} {a b : List α} {d : α} {i : Nat} (h : i < a.length) : (a ++ b).getD i d = a.getD i d := by
 rw [List.getD_eq_getElem?_getD, List.getElem?_append_left h, ← List.getD_eq_getElem?_getD]
theorem getD_app2 {α : Type} {a b : List α} {d : α} {i : Nat} (h : a.length ≤ i) : (a ++ b).getD i d = b.getD (i - a.length) d := by
 rw [List.getD_eq_getElem?_getD, List.getElem?_append_right h, ← List.getD_eq_getElem?_getD]
theorem set_app1 {α : Type} {a b : List α} {v : α} {i : Nat} (h : i < a.length) : (a ++ b).set i v = a.set i v ++ b := List.set_append_left i v h
theorem set_app2 {α : Type} {a b : List α} {v : α} {i : Nat} (h : a.length ≤ i) : (a ++ b).set i v = a ++ b.set (i - a.length) v := List.set_append_right i v h
theorem getD_rep {n : Nat} {x d : Int} {i : Nat} (h : i < n) : (List.replicate n x).getD i d = x := by
 rw [List.getD_eq_getElem?_getD, List.getElem?_replicate, if_pos h]; rfl
theorem spot_split : ∀ (L : List Raw) (n i : Nat), (∀ s ∈ L, s.Ok) → 0 ≤ (spotsN n L).getD i (-1) → ∃ L1 s L2 j, L = L1 ++ s :: L2 ∧ (spotsN n L).getD i (-1) = ((n + L1.length : Nat) : Int) ∧ j < s.body.length + 4 ∧ (∀ v, (L.flatMap rawW).set i v = L1.flatMap rawW ++ ((([s.kind] ++ numW s.body.length) ++ (s.body ++ s.sum).set j v) ++ L2.flatMap rawW)) ∧ (L.flatMap rawW).getD i default = (s.body ++ s.sum).getD j default
 | [], n, i, _, h => by simp [spotsN] at h
 | s :: r, n, i, hok, h => by
  have hs := hok s (.head _)
  have hl1 := spot1_len n hs
  have hsl := hs.sl
  rw [spotsN] at h ⊢
  have hhd : ([s.kind] ++ numW s.body.length).length = 1 + (numW s.body.length).length := by rw [List.length_append, List.length_singleton]
  have hbs : (s.body ++ s.sum).length = s.body.length + 4 := by rw [List.length_append, hsl]
  have hrl : (rawW s).length = 1 + (numW s.body.length).length + (s.body.length + 4) := by rw [rawW, List.length_append, hhd, hbs]
  by_cases h1 : i < (rawW s).length
  ·rw [getD_app1 (by omega)] at h ⊢
   by_cases h2 : i < 1 + (numW s.body.length).length
   ·rw [spot1, getD_app1 (by rw [List.length_replicate]; exact h2), getD_rep h2] at h; omega
   ·refine ⟨[], s, r, i - (1 + (numW s.body.length).length), rfl, ?_, by omega, fun v => ?_, ?_⟩
    ·rw [spot1, getD_app2 (by rw [List.length_replicate]; omega), List.length_replicate, getD_rep (by omega)]; simp
    ·rw [List.flatMap_cons, set_app1 h1, rawW, set_app2 (by rw [hhd]; omega), hhd]; rfl
    ·rw [List.flatMap_cons, getD_app1 h1, rawW, getD_app2 (by rw [hhd]; omega), hhd]
  ·rw [getD_app2 (by omega), hl1] at h ⊢
   obtain ⟨L1, s2, L2, j, e1, e2, e3, e4, e5⟩ := spot_split r (n + 1) (i - (rawW s).length) (fun x hx => hok x (.tail _ hx)) h
   refine ⟨s :: L1, s2, L2, j, by rw [e1]; rfl, by rw [e2, List.length_cons]; omega, e3, fun v => ?_, ?_⟩
   ·rw [List.flatMap_cons, set_app2 (by omega), e4 v, List.flatMap_cons]; simp only [List.append_assoc]
   ·rw [List.flatMap_cons, getD_app2 (by omega), e5]
def sumV : List U8 → Nat
 | [] => 0
 | x :: r => x.val + sumV r
theorem sum_fst : ∀ (l : List U8) (p : Nat × Nat), (l.foldl sumStep p).1 % 65521 = (p.1 + sumV l) % 65521
 | [], p => by simp [sumV]
 | x :: r, p => by
  rw [List.foldl_cons, sum_fst r, sumV]
  show ((p.1 + x.val) % 65521 + sumV r) % 65521 = _
  omega
theorem sum_set : ∀ (l : List U8) (j : Nat) (v : U8), j < l.length → sumV (l.set j v) + (l.getD j default).val = sumV l + v.val
 | [], j, v, h => by simp at h
 | x :: r, 0, v, h => by simp only [List.set_cons_zero, sumV, List.getD_cons_zero]; omega
 | x :: r, j + 1, v, h => by
  have := sum_set r j v (by simpa using h)
  simp only [List.set_cons_succ, sumV, List.getD_cons_succ]; omega
theorem byteOf_inj {a b : Nat} (ha : a < 65536) (hb : b < 65536) (h1 : Im.byteOf (a / 256) = Im.byteOf (b / 256)) (h2 : Im.byteOf a = Im.byteOf b) : a = b := by
 have h1 : a / 256 % 256 = b / 256 % 256 := congrArg Fin.val h1
 have h2 : a % 256 = b % 256 := congrArg Fin.val h2
 omega
theorem sumR_set {k : U8} {l : List U8} {j : Nat} {v : U8} (hj : j < l.length) (hv : v ≠ l.getD j default) : sumR k (l.set j v) ≠ sumR k l := by
 intro h
 have h0 : ∀ a b c d a' b' c' d' : U8, [a, b, c, d] = [a', b', c', d'] → c = c' ∧ d = d' := by
  intro a b c d a' b' c' d' e
  simp only [List.cons.injEq, and_true] at e
  exact ⟨e.2.2.1, e.2.2.2⟩
 obtain ⟨h1, h2⟩ := h0 _ _ _ _ _ _ _ _ h
 have b1 := (Im.sumP_lt (k :: l.set j v)).1
 have b2 := (Im.sumP_lt (k :: l)).1
 have e := byteOf_inj (by omega) (by omega) h1 h2
 have f1 := sum_fst (k :: l.set j v) (1, 0)
 have f2 := sum_fst (k :: l) (1, 0)
 have e2 : ((k :: l.set j v).foldl sumStep (1, 0)).1 = ((k :: l).foldl sumStep (1, 0)).1 := e
 rw [e2, f2] at f1
 simp only [sumV] at f1
 have hs := sum_set l j v hj
 have x1 := v.isLt
 have x2 := (l.getD j default).isLt
 have hne : v.val ≠ (l.getD j default).val := fun e => hv (Fin.ext e)
 omega
def dmg (s : Raw) (j : Nat) (v : U8) : Raw := ⟨s.kind, ((s.body ++ s.sum).set j v).take s.body.length, ((s.body ++ s.sum).set j v).drop s.body.length⟩
theorem dmg_body {s : Raw} (h : s.Ok) (j : Nat) (v : U8) : (dmg s j v).body.length = s.body.length := by
 show (((s.body ++ s.sum).set j v).take s.body.length).length = _
 rw [List.length_take, List.length_set, List.length_append]; omega
theorem dmg_ok {s : Raw} (h : s.Ok) (j : Nat) (v : U8) : (dmg s j v).Ok := by
 refine ⟨by rw [dmg_body h]; exact h.bl, ?_⟩
 show (((s.body ++ s.sum).set j v).drop s.body.length).length = 4
 rw [List.length_drop, List.length_set, List.length_append, h.sl]; omega
theorem dmg_raw {s : Raw} (h : s.Ok) (j : Nat) (v : U8) : ([s.kind] ++ numW s.body.length) ++ (s.body ++ s.sum).set j v = rawW (dmg s j v) := by
 rw [rawW, dmg_body h]
 show _ = ([s.kind] ++ numW s.body.length) ++ (((s.body ++ s.sum).set j v).take s.body.length ++ ((s.body ++ s.sum).set j v).drop s.body.length)
 rw [List.take_append_drop]
theorem dmg_sec {s : Raw} (h : s.Ok) (hs : s.sum = sumR s.kind s.body) {j : Nat} (hj : j < s.body.length + 4) {v : U8} (hv : v ≠ (s.body ++ s.sum).getD j default) : (dmg s j v).sec.damaged = true := by
 show (!(((s.body ++ s.sum).set j v).drop s.body.length == sumR s.kind (((s.body ++ s.sum).set j v).take s.body.length))) = true
 rw [Bool.not_eq_true', beq_eq_false_iff_ne]
 have hsl := h.sl
 by_cases hb : j < s.body.length
 ·rw [set_app1 hb]
  have hl : s.body.length = (s.body.set j v).length := by rw [List.length_set]
  rw [hl, List.take_left, List.drop_left, hs]
  rw [getD_app1 hb] at hv
  exact fun e => sumR_set (k := s.kind) hb hv e.symm
 ·rw [set_app2 (by omega), List.take_left, List.drop_left, ← hs]
  intro e
  apply hv
  rw [getD_app2 (by omega), ← e, List.getD_eq_getElem?_getD, List.getElem?_set_self (by omega)]; rfl
theorem damaged {x : U8} {L : List Raw} (hx : x = 79 ∨ x = 80) (hok : ∀ s ∈ L, s.Ok) (hs : ∀ s ∈ L, s.sum = sumR s.kind s.body) {i : Nat} {n : Int} (hn : (spotsP L).getD i (-1) = n) (h0 : 0 ≤ n) {v : U8} (hv : v ≠ (67 :: x :: L.flatMap rawW).getD i default) : ∃ (k : Nat) (M : List Sec), n = k ∧ k < L.length ∧ M.length = L.length ∧ splitR ((67 :: x :: L.flatMap rawW).set i v) = some (x, M) ∧ ∀ j, j < M.length → (M.getD j default).damaged = decide (j = k) := by
 have hi : 2 ≤ i := by
  rcases i with _ | _ | i
  ·rw [← hn] at h0; exact absurd h0 (by simp [spotsP])
  ·rw [← hn] at h0; exact absurd h0 (by simp [spotsP])
  ·omega
 obtain ⟨i, rfl⟩ : ∃ m, i = m + 2 := ⟨i - 2, by omega⟩
 have hn' : (spotsN 0 L).getD i (-1) = n := by rw [← hn, spotsP]; rfl
 obtain ⟨L1, s, L2, j, e1, e2, e3, e4, e5⟩ := spot_split L 0 i hok (by rw [hn']; exact h0)
 have hsm : s ∈ L := by rw [e1]; simp
 have hs0 := hok s hsm
 have hset : (67 :: x :: L.flatMap rawW).set (i + 2) v = 67 :: x :: (L1 ++ dmg s j v :: L2).flatMap rawW := by
  show 67 :: x :: (L.flatMap rawW).set i v = _
  rw [e4 v, dmg_raw hs0, List.flatMap_append, List.flatMap_cons]
 have hv' : v ≠ (s.body ++ s.sum).getD j default := by rw [← e5]; exact hv
 have hok' : ∀ y ∈ L1 ++ dmg s j v :: L2, y.Ok := fun y hy => by
  rcases List.mem_append.1 hy with hy | hy
  ·exact hok y (by rw [e1]; exact List.mem_append_left _ hy)
  ·rcases List.mem_cons.1 hy with rfl | hy
   ·exact dmg_ok hs0 j v
   ·exact hok y (by rw [e1]; exact List.mem_append_right _ (.tail _ hy))
 have hsec : ∀ y ∈ L, y.sec.damaged = false := fun y hy => by
  show (!(y.sum == sumR y.kind y.body)) = false
  rw [hs y hy]; simp
 refine ⟨L1.length, (L1 ++ dmg s j v :: L2).map Raw.sec, by rw [← hn', e2]; simp, by rw [e1]; simp, by rw [e1]; simp, ?_, fun t ht => ?_⟩
 ·rw [hset, splitR, Im.secsOf, raws_fwd _ _ hok' (Nat.le_refl _)]
  have : (67 : U8).val = 67 ∧ (x.val = 79 ∨ x.val = 80) ∧ true = true := ⟨rfl, by rcases hx with rfl | rfl; exact .inl rfl; exact .inr rfl, rfl⟩
  exact if_pos this
 ·rw [List.length_map] at ht
  rw [List.getD_eq_getElem?_getD, List.getElem?_map]
  by_cases h1 : t = L1.length
  ·subst h1
   rw [List.getElem?_append_right (Nat.le_refl _), Nat.sub_self]
   simp only [List.getElem?_cons_zero, Option.map_some, Option.getD_some, decide_true]
   exact dmg_sec hs0 (hs s hsm) e3 hv'
  ·rw [decide_eq_false h1]
   by_cases h2 : t < L1.length
   ·rw [List.getElem?_append_left h2, List.getElem?_eq_getElem h2]
    exact hsec _ (by rw [e1]; exact List.mem_append_left _ (List.getElem_mem _))
   ·rw [List.getElem?_append_right (by omega)]
    rw [List.length_append, List.length_cons] at ht
    obtain ⟨u, hu⟩ : ∃ u, t - L1.length = u + 1 := ⟨t - L1.length - 1, by omega⟩
    rw [hu, List.getElem?_cons_succ, List.getElem?_eq_getElem (by omega)]
    exact hsec _ (by rw [e1]; exact List.mem_append_right _ (.tail _ (List.getElem_mem _)))
end Go.Eng.Bd

set_option linter.unusedVariables false
set_option linter.unusedSimpArgs false
set_option maxRecDepth 10000
namespace Go.Proofs.YtpgnjlngepfanaaGreat
open Go.Eng
open Go.Eng.Fc
open Go.Eng.Bd
open Go.Eng.Im (U8 u8 u8s sumR splitR Sec)
instance : Inhabited Raw := ⟨⟨default, [], []⟩⟩
structure NumIn (B : List U8) (p n j size q : Nat) (r : List U8) : Prop where
 jl : j ≤ 2
 ql : q < 128 ^ (3 - j)
 eq : n = size + q * 128 ^ j
 dr : B.drop (p + j) = numW q ++ r
 ln : (numW n).length = j + (numW q).length
theorem NumIn.begin {B : List U8} {p n : Nat} {r : List U8} (hn : n < 128 ^ 3) (h : B.drop p = numW n ++ r) : NumIn B p n 0 0 n r := ⟨by omega, hn, by simp, h, by simp⟩
theorem NumIn.at_ {B : List U8} {p n j size q : Nat} {r : List U8} (h : NumIn B p n j size q r) : p + j < B.length ∧ B.getD (p + j) default = if q < 128 then Im.byteOf q else Im.byteOf (q % 128 + 128) := by
 have hd := h.dr
 have hp := numW_pos q
 have hl := congrArg List.length hd
 rw [List.length_drop, List.length_append] at hl
 refine ⟨by omega, ?_⟩
 have e : B.getD (p + j) default = (B.drop (p + j)).getD 0 default := by
  rw [List.getD_eq_getElem?_getD, List.getD_eq_getElem?_getD, List.getElem?_drop, Nat.add_zero]
 rw [e, hd]
 split
 ·rename_i hq; rw [numW_lt hq]; rfl
 ·rename_i hq; rw [numW_ge hq]; rfl
theorem NumIn.val {B : List U8} {p n j size q : Nat} {r : List U8} (h : NumIn B p n j size q r) : ((B.getD (p + j) default).val < 128 ↔ q < 128) ∧ (B.getD (p + j) default).val % 128 = q % 128 := by
 rw [h.at_.2]
 split
 ·rename_i hq
  show (q % 256 < 128 ↔ q < 128) ∧ q % 256 % 128 = q % 128
  omega
 ·rename_i hq
  show ((q % 128 + 128) % 256 < 128 ↔ q < 128) ∧ (q % 128 + 128) % 256 % 128 = q % 128
  omega
theorem NumIn.step {B : List U8} {p n j size q : Nat} {r : List U8} (h : NumIn B p n j size q r) (hq : ¬ q < 128) : NumIn B p n (j + 1) (size + q % 128 * 128 ^ j) (q / 128) r := by
 have hj : j ≤ 1 := by
  have h1 := h.ql
  have h2 := h.jl
  rcases Nat.lt_or_ge j 2 with h3 | h3
  ·omega
  ·obtain rfl : j = 2 := by omega
   exact absurd h1 (by simp; omega)
 refine ⟨by omega, ?_, ?_, ?_, ?_⟩
 ·have h1 := h.ql
  have : (128 : Nat) ^ (3 - j) = 128 ^ (3 - (j + 1)) * 128 := by rw [← Nat.pow_succ]; congr 1; omega
  omega
 ·rw [h.eq, Nat.add_assoc]
  congr 1
  rw [Nat.pow_succ, show q / 128 * (128 ^ j * 128) = (q / 128 * 128) * 128 ^ j by rw [Nat.mul_assoc, Nat.mul_comm 128]]
  rw [← Nat.add_mul]; congr 1; omega
 ·have hd := h.dr
  rw [numW_ge hq] at hd
  rw [← Nat.add_assoc, ← List.drop_drop, hd]; rfl
 ·rw [h.ln, numW_ge hq, List.length_cons]; omega
theorem load_cases {p : Prog} {objs others : List Th} {roots : List (Int × Int)} (h : askedP p objs roots = true) : (checkP p others = false ∧ loadR p others (partP p objs roots) = .arg) ∨ (checkP p others = true ∧ ¬ others.length + (reachP objs roots).length ≤ 40 ∧ loadR p others (partP p objs roots) = .long) ∨ (checkP p others = true ∧ others.length + (reachP objs roots).length ≤ 40 ∧ loadR p others (partP p objs roots) = .ok (allP others (ownP objs roots)) ((ownR objs roots).map (move1 (· + (others.length : Int))))) := by
 cases hc : checkP p others with
 | false => exact .inl ⟨rfl, load_arg hc⟩
 | true =>
  rw [load_part h hc]
  by_cases hl : others.length + (reachP objs roots).length ≤ 40
  ·rw [if_pos hl]; exact .inr (.inr ⟨rfl, hl, rfl⟩)
  ·rw [if_neg hl]; exact .inr (.inl ⟨rfl, hl, rfl⟩)
theorem all_take (others own : List Th) : (allP others own).take others.length = others := by
 rw [allP, List.take_left' rfl]
theorem savedC {g : Gv} (hp : g.p.Small) : PCall Tryz.prog 12 [AV.given g] (.b true) := by
 intro H
 refine ACall.mk' (n := 152) Tryz.func12 rfl (by kernel_rfl) rfl rfl (fun B I w0 => ?_)
 refine S2 ?_; refine Obx ?_; refine Oas ?_; refine S4 ?_; refine Ofa ?_; refine Ola ?_; refine Ofa ?_; refine Old ?_; refine Ofa ?_; refine Old ?_
 refine OL.popC rfl rfl rfl (POp.call (.mk' rfl rfl rfl rfl rfl) (partC hp g.objs g.roots)) ?_
 refine Omv ?_; refine Oex ?_; refine Oex ?_; refine Oas ?_; refine Oas ?_; refine S4 ?_; refine Ofa ?_; refine Ola ?_; refine Ofa ?_; refine Old ?_; refine Ofa ?_; refine Old ?_
 refine OL.popC rfl rfl rfl (POp.call (.mk' rfl rfl rfl rfl rfl) (reachI hp g.objs g.roots)) ?_
 refine Omv ?_; refine Oex ?_; refine Oex ?_; refine Oas ?_; refine Oas ?_; refine S5 ?_; refine Omv ?_; refine Ocm ?_; refine Omv ?_; refine Pmv ?_; refine Pcm ?_; refine Opk ?_
 refine S2 ?_
 refine CW.cond rfl (fun h0 => ?_) (fun h0 => ?_)
 ·
  have ha : askedP g.p g.objs g.roots = false := by cases h : askedP g.p g.objs g.roots <;> simp_all
  refine S2 ?_; refine Omv ?_; refine Omv ?_; refine Ocm ?_; refine Omv ?_
  refine OL.guardC rfl rfl rfl rfl rfl rfl (fun hg => POp.call (.mk' rfl rfl rfl rfl rfl) (knownC)) ?_
  refine Opk ?_; refine Oas ?_; refine S4 ?_
  refine r1 2 (H) ?_
  exact ⟨retB (by rw [ha]; rfl), rfl⟩
 ·
  have ha : askedP g.p g.objs g.roots = true := by cases h : askedP g.p g.objs g.roots <;> simp_all
  obtain ⟨hol, hrl, hrs, _⟩ := asked_parts ha
  have hLl := (reach_closed hrs (asked_parts ha).2.2.2).1.len
  obtain ⟨L, hL⟩ : ∃ L, L = reachP g.objs g.roots := ⟨_, rfl⟩
  have hLq : reachQ g.p g.objs g.roots = L := by rw [reachQ, if_pos ha, hL]
  refine S3 ?_
  rw [hLq]
  refine S1 ?_; refine Ofa ?_; refine Ola ?_; refine Ofa ?_; refine Old ?_; refine Omv ?_
  refine OL.popC rfl rfl rfl (POp.call (.mk' rfl rfl rfl rfl rfl) (loadU hp ha)) ?_
  refine Omv ?_; refine Oex ?_; refine Oex ?_; refine Oex ?_; refine Oas ?_; refine Oas ?_; refine Oas ?_; refine S4 ?_
  have hcs := load_cases (others := g.others) ha
  obtain ⟨E, hE⟩ : ∃ E, E = loadR g.p g.others (partP g.p g.objs g.roots) := ⟨_, rfl⟩
  rw [← hE] at hcs ⊢
  rw [← hL] at hcs hLl
  refine S1 ?_; refine Omv ?_; refine Ocm ?_; refine S2 ?_
  refine CW.cond rfl (fun h1 => ?_) (fun h1 => ?_)
  ·
   replace h1 := nm h1
   obtain ⟨hc, hl, rfl⟩ : checkP g.p g.others = true ∧ ¬ g.others.length + L.length ≤ 40 ∧ E = .long := by
    rcases hcs with h | h | h
    ·rw [h.2] at h1
     exact absurd h1 (by simp [le_])
    ·exact h
    ·rw [h.2.2] at h1
     exact absurd h1 (by simp [le_])
   obtain ⟨_, h40, _⟩ := ok_of hc
   have e1 : (lo .long).length = 0 := rfl
   have e2 : (lr .long).length = 0 := rfl
   refine S2 ?_; refine Omv ?_; refine Oln ?_; refine Ofa ?_; refine Old ?_; refine Oln ?_; refine Oar ?_; refine Ocm ?_; refine Omv ?_; refine Pmv ?_; refine Pln ?_; refine Pmv ?_
   refine Pln ?_; refine Par ?_; refine Pcm ?_; refine Opk ?_; refine Omv ?_
   refine OL.guardC rfl rfl rfl rfl rfl rfl (fun hg => POp.call (.mk' rfl rfl rfl rfl rfl) (knownC)) ?_
   refine Opk ?_; refine Oas ?_; refine S4 ?_
   refine r1 2 (H) ?_
   exact ⟨retB (by simp [lo, lr]; omega), rfl⟩
  ·
   replace h1 := nm h1
   refine S5 ?_; refine Omv ?_; refine Ocm ?_; refine S2 ?_
   refine CW.cond rfl (fun h2 => ?_) (fun h2 => ?_)
   ·
    replace h2 := nm h2
    obtain ⟨hc, rfl⟩ : checkP g.p g.others = false ∧ E = .arg := by
     rcases hcs with h | h | h
     ·exact h
     ·rw [h.2.2] at h2
      exact absurd h2 (by simp [le_])
     ·rw [h.2.2] at h2
      exact absurd h2 (by simp [le_])
    refine S2 ?_; refine Ofa ?_; refine Ola ?_; refine Ofa ?_; refine Old ?_
    refine OL.popC rfl rfl rfl (POp.call (.mk' rfl rfl rfl rfl rfl) (meanCheck hp g.others)) ?_
    refine Ocm ?_; refine Omv ?_
    refine OL.guardC rfl rfl rfl rfl rfl rfl (fun hg => POp.call (.mk' rfl rfl rfl rfl rfl) (knownC)) ?_
    refine Opk ?_; refine Oas ?_; refine S4 ?_
    refine r1 2 (H) ?_
    exact ⟨retB (by rw [hc]; rfl), rfl⟩
   ·
    replace h2 := nm h2
    obtain ⟨hc, hl, rfl⟩ : checkP g.p g.others = true ∧ g.others.length + L.length ≤ 40 ∧ E = .ok (allP g.others (ownP g.objs g.roots)) ((ownR g.objs g.roots).map (move1 (· + (g.others.length : Int)))) := by
     rcases hcs with h | h | h
     ·rw [h.2] at h2; exact absurd h2 (by simp [le_])
     ·rw [h.2.2] at h1; exact absurd h1 (by simp [le_])
     ·exact h
    have hs := saved ha hc (by rw [← hL]; exact hl)
    rw [show lo (.ok (allP g.others (ownP g.objs g.roots)) ((ownR g.objs g.roots).map (move1 (· + (g.others.length : Int))))) = (allP g.others (ownP g.objs g.roots)) from rfl, show lr (.ok (allP g.others (ownP g.objs g.roots)) ((ownR g.objs g.roots).map (move1 (· + (g.others.length : Int))))) = ((ownR g.objs g.roots).map (move1 (· + (g.others.length : Int)))) from rfl, show le_ (.ok (allP g.others (ownP g.objs g.roots)) ((ownR g.objs g.roots).map (move1 (· + (g.others.length : Int))))) = 0 from rfl]
    have hsl := hs.len
    rw [← hL] at hsl
    refine S4 ?_
    refine CW.dp mixed ?_
    refine DP.one (k := 0) (by decide +kernel) rfl ?_
    refine Omv ?_
    refine OL.nil (Done.dp ?_)
    refine DP.one (k := 1) (by decide +kernel) rfl ?_
    refine Ocm ?_
    refine OL.nil (Done.dp ?_)
    refine DP.one (k := 2) (by decide +kernel) rfl ?_
    refine Omv ?_
    refine OL.nil (Done.dp ?_)
    refine DP.anyC 3 11 152 rfl (by decide +kernel) rfl rfl (by decide +kernel) ?_
    refine AD.guardC rfl rfl rfl rfl rfl (fun hg => POp.move rfl rfl rfl) ?_
    refine AD.guardC rfl rfl rfl rfl rfl (fun hg => (by first | exact POp.lenM rfl rfl (gd hg) | exact POp.lenA rfl rfl (gd hg) | exact POp.lenV rfl rfl (gd hg) | exact POp.len' rfl rfl (gd hg))) ?_
    refine AD.guardC rfl rfl rfl rfl rfl (fun hg => (by first | exact POp.fa rfl rfl rfl rfl | exact POp.faP rfl rfl rfl rfl)) ?_
    refine AD.guardC rfl rfl rfl rfl rfl (fun hg => (by first | exact POp.ld1 rfl rfl (gd hg) rfl | (apply POp.ld1H rfl rfl (gd hg); (case hm => repeat (first | exact .head _ | refine .tail _ ?_)); (case hy => rfl)))) ?_
    refine AD.guardC rfl rfl rfl rfl rfl (fun hg => (by first | exact POp.lenM rfl rfl (gd hg) | exact POp.lenA rfl rfl (gd hg) | exact POp.lenV rfl rfl (gd hg) | exact POp.len' rfl rfl (gd hg))) ?_
    refine AD.guardC rfl rfl rfl rfl rfl (fun hg => POp.move rfl rfl rfl) ?_
    refine AD.guardC rfl rfl rfl rfl rfl (fun hg => (by first | exact POp.lenM rfl rfl (gd hg) | exact POp.lenA rfl rfl (gd hg) | exact POp.lenV rfl rfl (gd hg) | exact POp.len' rfl rfl (gd hg))) ?_
    refine AD.guardC rfl rfl rfl rfl rfl (fun hg => POp.arith rfl rfl rfl (gd hg) (gd hg) rfl (wrap64 (by omega))) ?_
    refine AD.nil ?_
    refine DP.one (k := 11) (by decide +kernel) rfl ?_
    refine Pcm ?_
    refine OL.nil (Done.dp ?_)
    refine DP.one (k := 12) (by decide +kernel) rfl ?_
    refine Opk ?_
    refine OL.nil (Done.dp ?_)
    refine DP.one (k := 13) (by decide +kernel) rfl ?_
    refine Omv ?_
    refine OL.nil (Done.dp ?_)
    refine DP.anyC 14 21 152 rfl (by decide +kernel) rfl rfl (by decide +kernel) ?_
    refine AD.guardC rfl rfl rfl rfl rfl (fun hg => POp.move rfl rfl rfl) ?_
    refine AD.guardC rfl rfl rfl rfl rfl (fun hg => (by first | exact POp.fa rfl rfl rfl rfl | exact POp.faP rfl rfl rfl rfl)) ?_
    refine AD.guardC rfl rfl rfl rfl rfl (fun hg => (by first | exact POp.ld1 rfl rfl (gd hg) rfl | (apply POp.ld1H rfl rfl (gd hg); (case hm => repeat (first | exact .head _ | refine .tail _ ?_)); (case hy => rfl)))) ?_
    refine AD.guardC rfl rfl rfl rfl rfl (fun hg => (by first | exact POp.lenM rfl rfl (gd hg) | exact POp.lenA rfl rfl (gd hg) | exact POp.lenV rfl rfl (gd hg) | exact POp.len' rfl rfl (gd hg))) ?_
    refine AD.guardC rfl rfl rfl rfl rfl (fun hg => POp.le (y := AV.ths g.others) (POp.slTo (F := fun l => l.map thA) (enc := thA) (xs := (allP g.others (ownP g.objs g.roots))) (n := g.others.length) rfl rfl (gd hg) rfl (gd hg) (by omega)) (by show AVle (AV.ths ((allP g.others (ownP g.objs g.roots)).take _)) _; rw [all_take]; exact AVle.refl _)) ?_
    refine AD.guardC rfl rfl rfl rfl rfl (fun hg => (by first | exact POp.fa rfl rfl rfl rfl | exact POp.faP rfl rfl rfl rfl)) ?_
    refine AD.guardC rfl rfl rfl rfl rfl (fun hg => (by first | exact POp.ld1 rfl rfl (gd hg) rfl | (apply POp.ld1H rfl rfl (gd hg); (case hm => repeat (first | exact .head _ | refine .tail _ ?_)); (case hy => rfl)))) ?_
    refine AD.nil ?_
    refine DP.one (k := 21) (by decide +kernel) rfl ?_
    refine OL.guardC rfl rfl rfl rfl rfl rfl (fun hg => POp.call (.mk' rfl rfl rfl rfl (by first | rfl | ((repeat (first | exact hg | rfl | refine Bool.and_eq_true_iff.2 ⟨?_, ?_⟩)); done) | simp_all [strip, constAV])) (sameT g.others)) ?_
    refine OL.nil (Done.dp ?_)
    refine DP.one (k := 22) (by decide +kernel) rfl ?_
    refine Pnt ?_
    refine OL.nil (Done.dp ?_)
    refine DP.one (k := 23) (by decide +kernel) rfl ?_
    refine Opk ?_
    refine OL.nil (Done.dp ?_)
    refine DP.one (k := 24) (by decide +kernel) rfl ?_
    refine Omv ?_
    refine OL.nil (Done.dp ?_)
    refine DP.anyC 25 28 152 rfl (by decide +kernel) rfl rfl (by decide +kernel) ?_
    refine AD.guardC rfl rfl rfl rfl rfl (fun hg => (by first | exact POp.fa rfl rfl rfl rfl | exact POp.faP rfl rfl rfl rfl)) ?_
    refine AD.guardC rfl rfl rfl rfl rfl (fun hg => (by first | exact POp.ldA rfl rfl (gd hg) rfl | (apply POp.ldAH rfl rfl (gd hg); (case hm => repeat (first | exact .head _ | refine .tail _ ?_)); (case hy => rfl); (case hn => rfl)))) ?_
    refine AD.guardC rfl rfl rfl rfl rfl (fun hg => POp.move rfl rfl rfl) ?_
    refine AD.nil ?_
    refine DP.tailC 28 (by decide +kernel) rfl ?_
    refine OL.guardC rfl rfl rfl rfl rfl rfl (fun hg => POp.call (.mk' rfl rfl rfl rfl (by first | rfl | ((repeat (first | exact hg | rfl | refine Bool.and_eq_true_iff.2 ⟨?_, ?_⟩)); done) | simp_all [strip, constAV])) (meanCheck hp (allP g.others (ownP g.objs g.roots)))) ?_
    refine Pcm ?_; refine Opk ?_; refine S2 ?_
    refine CW.cond rfl (fun h3 => ?_) (fun h3 => ?_)
    ·
     rw [hs.check, hsl] at h3
     simp at h3
    ·
     refine S4 ?_; refine Ofa ?_; refine Ola ?_; refine Ofa ?_; refine Old ?_; refine Ofa ?_; refine Old ?_; refine Omv ?_; refine Omv ?_
     refine OL.popC rfl rfl rfl (POp.call (.mk' rfl rfl rfl rfl rfl) (alikeC hp g.objs g.roots (allP g.others (ownP g.objs g.roots)) ((ownR g.objs g.roots).map (move1 (· + (g.others.length : Int)))))) ?_
     refine Omv ?_; refine Oex ?_; refine Oex ?_; refine Oas ?_; refine Oas ?_; refine S4 ?_; refine Ofa ?_; refine Ola ?_; refine Omv ?_; refine Omv ?_
     refine OL.popC rfl rfl rfl (POp.call (.mk' rfl rfl rfl rfl rfl) (partC hp (allP g.others (ownP g.objs g.roots)) ((ownR g.objs g.roots).map (move1 (· + (g.others.length : Int)))))) ?_
     refine Omv ?_; refine Oex ?_; refine Oex ?_; refine Oas ?_; refine Oas ?_; refine S3 ?_
     rw [hs.alike, hs.asked, ha, show partQ g.p (allP g.others (ownP g.objs g.roots)) ((ownR g.objs g.roots).map (move1 (· + (g.others.length : Int)))) = partQ g.p g.objs g.roots by rw [partQ, partQ, if_pos hs.asked, if_pos ha, hs.part]]
     refine S1 ?_; refine Omv ?_; refine Ocm ?_; refine Omv ?_; refine Pmv ?_; refine Pcm ?_; refine Opk ?_; refine Omv ?_; refine Pmv ?_; refine Opk ?_; refine Omv ?_; refine Pmv ?_
     refine Pmv ?_
     refine OL.guardC rfl rfl rfl rfl rfl rfl (fun hg => POp.call (.mk' rfl rfl rfl rfl (by first | rfl | ((repeat (first | exact hg | rfl | refine Bool.and_eq_true_iff.2 ⟨?_, ?_⟩)); done) | simp_all [strip, constAV])) (eqU8 _)) ?_
     refine Opk ?_; refine Omv ?_
     refine OL.guardC rfl rfl rfl rfl rfl rfl (fun hg => POp.call (.mk' rfl rfl rfl rfl rfl) (knownC)) ?_
     refine Opk ?_; refine Oas ?_; refine S3 ?_
     refine r1 2 (H) ?_
     exact ⟨by rfl, rfl⟩
end Go.Proofs.YtpgnjlngepfanaaGreat
