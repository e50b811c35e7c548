/- Part 15 of the proof: contracts of functions of the program and what they need. No condition beyond those that each theorem names. -/
import Derived.Test.YtpgnjlngepfanaaGreatImageAlikesP14
set_option maxHeartbeats 1000000
set_option linter.unusedVariables false
set_option linter.unusedSimpArgs false
set_option maxRecDepth 10000
namespace Go.Proofs.YtpgnjlngepfanaaGreat
open Go.Eng
open Go.Eng.Fc
open Go.Eng.Bd
open Go.Eng.Im (U8 u8 u8s sumR splitR)
theorem okG0 : okG P0 O0 := by obtain ⟨h1, h2, h3⟩ := ok_of k1; exact ⟨h1, h2, h3⟩
theorem imageK : PCall Tryz.prog 15 [AV.prog P0, AV.ths O0] (.tup [u8s B0, .i 0]) := by
 have h := imageC small0 O0 (fun _ => okG0)
 rwa [imageQ, k1, if_pos rfl, if_pos rfl, k2] at h
theorem sectK : PCall Tryz.prog 23 [u8s B0] (.tup [AV.ints [1, 2], AV.ints [], .i 0]) := by
 have h := q23 B0 YL
 rwa [k11] at h
theorem sect9K : PCall Tryz.prog 23 [u8s B9] (.tup [AV.ints [1, 2], AV.ints [0], .i 0]) := by
 have h := q23 B9 YL
 rwa [k12] at h
theorem readK : PCall Tryz.prog 19 [u8s B9] (.tup [AV.prog noProg, AV.ths [], .i 4]) := by
 have h := readC B9 YL
 rwa [readA, k7] at h
theorem reachK : PCall Tryz.prog 26 [AV.prog P0, AV.ths O0, AV.mvs [(3, 1)]] (.tup [AV.ints [1, 0], .i 0]) := by
 have h := reachI small0 O0 [(3, 1)]
 rwa [reachQ, k5, if_pos rfl, if_pos rfl, k6] at h
theorem partK : PCall Tryz.prog 27 [AV.prog P0, AV.ths O0, AV.mvs [(3, 1)]] (.tup [u8s K0, .i 0]) := by
 have h := partC small0 O0 [(3, 1)]
 rwa [partQ, k5, if_pos rfl, if_pos rfl, k3] at h
theorem loadK : PCall Tryz.prog 30 [AV.prog P0, AV.ths O0, u8s K0] (.tup [AV.ths O4, AV.mvs [(3, 2)], .i 0]) := by
 have h := loadC small0 O0 K0 YL
 rwa [k8] at h
theorem alikeK : PCall Tryz.prog 33 [AV.prog P0, AV.ths O0, AV.mvs [(3, 0)], AV.ths O0, AV.mvs [(3, 1)]] (.tup [.b false, .i 0]) := by
 have h := alikeC small0 O0 [(3, 0)] O0 [(3, 1)]
 rwa [k10, k9, k5] at h
theorem knownC : PCall Tryz.prog 18 [] (.b true) := by
 intro H
 refine ACall.mk' (n := 187) Tryz.func18 rfl Yd rfl rfl (fun B I w0 => ?_)
 refine Z7 ?_
 refine OL.popC rfl rfl rfl (POp.call (.mk' rfl rfl rfl rfl rfl) (progK)) ?_
 refine OL.popC rfl rfl rfl (POp.call (.mk' rfl rfl rfl rfl rfl) (objsK)) ?_
 refine OL.popC rfl rfl rfl (POp.call (.mk' rfl rfl rfl rfl rfl) (imageK)) ?_
 refine Z9 ?_
 refine OL.popC rfl rfl rfl (POp.call (.mk' rfl rfl rfl rfl rfl) (bytesK)) ?_
 refine OL.popC rfl rfl rfl (POp.call (.mk' rfl rfl rfl rfl rfl) (sectK)) ?_
 refine Z20 ?_
 refine OL.guardC rfl rfl rfl rfl rfl rfl (fun hg => POp.call (.mk' rfl rfl rfl rfl rfl) (bytesK)) ?_
 refine OL.guardC rfl rfl rfl rfl rfl rfl (fun hg => POp.call (.mk' rfl rfl rfl rfl Ye) (sameB B0 B0)) ?_
 refine Z14 ?_
 refine OL.guardC rfl rfl rfl rfl rfl rfl (fun hg => YU) ?_
 refine Z5 ?_
 refine OL.guardC rfl rfl rfl rfl rfl rfl (fun hg => YU) ?_
 refine Z5 ?_
 refine CW.cond rfl (fun h0 => ?_) (fun h0 => ?_)
 ·exact absurd h0 Yf
 ·refine Z4 ?_
  refine OL.bcallC rfl rfl rfl (.mk' rfl rfl rfl rfl rfl) ((bytesB H).b) ?_
  rintro y _ ⟨bb, rfl, rfl⟩
  refine Z6 ?_
  refine OL.popC rfl rfl rfl (POp.ixC rfl rfl rfl rfl rfl Yb) ?_
  refine Z4 ?_
  refine CW.eqH (H' := .blk bb 5 ((B9.map fun x => [u8 x]).flatten ++ []) :: H) rfl ?_
  refine CW.freezeS (k := 1) (d := 1) rfl (.head _ _) rfl (fun e he => by obtain ⟨y, _, rfl⟩ := List.mem_map.1 he; rfl) (Nat.le_refl _) YX ?_
  refine CW.le 1 (y := u8s B9) rfl (AVle.refl _) ?_
  refine Z2 ?_
  refine OL.popC rfl rfl rfl (POp.call (.mk' rfl rfl rfl rfl rfl) (sect9K)) ?_
  refine Z11 ?_
  refine OL.popC rfl rfl rfl (POp.call (.mk' rfl rfl rfl rfl rfl) (readK)) ?_
  refine Z9 ?_
  refine OL.popC rfl rfl rfl (POp.call (.mk' rfl rfl rfl rfl rfl) (progK)) ?_
  refine OL.popC rfl rfl rfl (POp.call (.mk' rfl rfl rfl rfl rfl) (objsK)) ?_
  refine OL.popC rfl rfl rfl (POp.call (.mk' rfl rfl rfl rfl rfl) (objI 1)) ?_
  refine OL.popC rfl rfl rfl (POp.le (x := AV.mvs [(3, 1)]) (POp.row rfl rfl Yi rfl rfl rfl rfl rfl rfl) (AVle.refl _)) ?_
  refine OL.popC rfl rfl rfl (POp.call (.mk' rfl rfl rfl rfl rfl) (reachK)) ?_
  refine Z9 ?_
  refine OL.popC rfl rfl rfl (POp.call (.mk' rfl rfl rfl rfl rfl) (progK)) ?_
  refine OL.popC rfl rfl rfl (POp.call (.mk' rfl rfl rfl rfl rfl) (objsK)) ?_
  refine OL.popC rfl rfl rfl (POp.call (.mk' rfl rfl rfl rfl rfl) (objI 1)) ?_
  refine OL.popC rfl rfl rfl (POp.le (x := AV.mvs [(3, 1)]) (POp.row rfl rfl Yi rfl rfl rfl rfl rfl rfl) (AVle.refl _)) ?_
  refine OL.popC rfl rfl rfl (POp.call (.mk' rfl rfl rfl rfl rfl) (partK)) ?_
  refine Z26 ?_
  refine OL.guardC rfl rfl rfl rfl rfl rfl (fun hg => POp.row rfl rfl Yi rfl rfl rfl rfl rfl rfl) ?_
  refine OL.guardC rfl rfl rfl rfl rfl rfl (fun hg => POp.call (.mk' rfl rfl rfl rfl Ye) (sameI [0] [0])) ?_
  refine Z4 ?_
  refine OL.guardC rfl rfl rfl rfl rfl rfl (fun hg => POp.row rfl rfl Yi rfl rfl rfl rfl rfl rfl) ?_
  refine OL.guardC rfl rfl rfl rfl rfl rfl (fun hg => POp.call (.mk' rfl rfl rfl rfl Ye) (sameI [1, 0] [1, 0])) ?_
  refine Z9 ?_
  refine CW.cond rfl (fun h1 => ?_) (fun h1 => ?_)
  ·exact absurd h1 Yf
  ·refine Z4 ?_
   refine OL.popC rfl rfl rfl (POp.row rfl rfl Yi rfl rfl rfl rfl rfl rfl) ?_
   refine Z5 ?_
   refine OL.popC rfl rfl rfl (POp.call (.mk' rfl rfl rfl rfl rfl) (progK)) ?_
   refine OL.popC rfl rfl rfl (POp.call (.mk' rfl rfl rfl rfl rfl) (objsK)) ?_
   refine Z1 ?_
   refine OL.popC rfl rfl rfl (POp.call (.mk' rfl rfl rfl rfl rfl) (loadK)) ?_
   refine Z11 ?_
   refine OL.popC rfl rfl rfl (POp.call (.mk' rfl rfl rfl rfl rfl) (progK)) ?_
   refine OL.popC rfl rfl rfl (POp.call (.mk' rfl rfl rfl rfl rfl) (objsK)) ?_
   refine OL.popC rfl rfl rfl (POp.call (.mk' rfl rfl rfl rfl rfl) (objI 0)) ?_
   refine OL.popC rfl rfl rfl (POp.le (x := AV.mvs [(3, 0)]) (POp.row rfl rfl Yi rfl rfl rfl rfl rfl rfl) (AVle.refl _)) ?_
   refine OL.popC rfl rfl rfl (POp.call (.mk' rfl rfl rfl rfl rfl) (objsK)) ?_
   refine OL.popC rfl rfl rfl (POp.call (.mk' rfl rfl rfl rfl rfl) (objI 1)) ?_
   refine OL.popC rfl rfl rfl (POp.le (x := AV.mvs [(3, 1)]) (POp.row rfl rfl Yi rfl rfl rfl rfl rfl rfl) (AVle.refl _)) ?_
   refine OL.popC rfl rfl rfl (POp.call (.mk' rfl rfl rfl rfl rfl) (alikeK)) ?_
   refine Z8 ?_
   refine CW.dp mixed ?_
   refine Z28 ?_
   refine DP.anyC 7 10 187 rfl Yf rfl rfl Yf ?_
   refine Z1 ?_
   refine AD.guardC rfl rfl rfl rfl rfl (fun hg => POp.slTo rfl rfl Y1 rfl Y1 YL) ?_
   refine Z3 ?_
   refine OL.guardC rfl rfl rfl rfl rfl rfl (fun hg => POp.call (.mk' rfl rfl rfl rfl Ye) (sameB T0 T0)) ?_
   refine Z30 ?_
   refine DP.anyC 18 24 187 rfl Yf rfl rfl Yf ?_
   refine Z1 ?_
   refine AD.guardC rfl rfl rfl rfl rfl (fun hg => YU) ?_
   refine Z2 ?_
   refine AD.guardC rfl rfl rfl rfl rfl (fun hg => POp.call (.mk' rfl rfl rfl rfl rfl) (objI 3)) ?_
   refine AD.guardC rfl rfl rfl rfl rfl (fun hg => POp.row rfl rfl Yi rfl rfl rfl rfl rfl rfl) ?_
   refine Z2 ?_
   refine OL.guardC rfl rfl rfl rfl rfl rfl (fun hg => POp.call (.mk' rfl rfl rfl rfl Ye) (sameV [(3, 3)] [(3, 3)])) ?_
   refine Z10 ?_
   refine DP.anyC 27 33 187 rfl Yf rfl rfl Yf ?_
   refine Z1 ?_
   refine AD.guardC rfl rfl rfl rfl rfl (fun hg => YU) ?_
   refine Z2 ?_
   refine AD.guardC rfl rfl rfl rfl rfl (fun hg => POp.call (.mk' rfl rfl rfl rfl rfl) (noneV)) ?_
   refine AD.guardC rfl rfl rfl rfl rfl (fun hg => POp.row rfl rfl Yi rfl rfl rfl rfl rfl rfl) ?_
   refine Z2 ?_
   refine OL.guardC rfl rfl rfl rfl rfl rfl (fun hg => POp.call (.mk' rfl rfl rfl rfl Ye) (sameV [(2, 0)] [(2, 0)])) ?_
   refine Z10 ?_
   refine DP.anyC 36 39 187 rfl Yf rfl rfl Yf ?_
   refine Z1 ?_
   refine AD.guardC rfl rfl rfl rfl rfl (fun hg => POp.call (.mk' rfl rfl rfl rfl rfl) (objI 2)) ?_
   refine AD.guardC rfl rfl rfl rfl rfl (fun hg => POp.row rfl rfl Yi rfl rfl rfl rfl rfl rfl) ?_
   refine Z2 ?_
   refine OL.guardC rfl rfl rfl rfl rfl rfl (fun hg => POp.call (.mk' rfl rfl rfl rfl Ye) (sameV [(3, 2)] [(3, 2)])) ?_
   refine Z9 ?_
   refine r1 0 (H) ?_
   exact ⟨retB Yf, rfl⟩
end Go.Proofs.YtpgnjlngepfanaaGreat

set_option linter.unusedVariables false
namespace Go.Eng.Bd
open Go.Eng.Fc
open Go.Eng.Im (U8 numberR manyR sumR splitR Sec)
theorem thenR_inv {σ α β : Type} {R : Rd σ α} {k : α → Rd σ β} {s s' : σ} {l l' : List U8} {x : β} (h : thenR R k s l = some (x, s', l')) : ∃ a s1 l1, R s l = some (a, s1, l1) ∧ k a s1 l1 = some (x, s', l') := by
 unfold thenR at h
 split at h
 ·cases h
 ·rename_i a s1 l1 h1; exact ⟨a, s1, l1, h1, h⟩
theorem byte_val (x : U8) : Im.byteOf x.val = x := by
 apply Fin.ext
 show x.val % 256 = x.val
 have := x.isLt
 omega
theorem numR_inv0 : ∀ (g : Nat) (first : Bool) (l : List U8) (n : Nat) (r : List U8), Im.numR g first l = some (n, r) → l = numW n ++ r ∧ (first = false → 0 < n)
 | 0, _, _, _, _, h => by simp [Im.numR] at h
 | g + 1, first, [], n, r, h => by simp [Im.numR] at h
 | g + 1, first, x :: l, n, r, h => by
  rw [Im.numR] at h
  split at h
  ·rename_i hx
   split at h
   ·rename_i hf
    cases h
    refine ⟨by rw [numW_lt hx, byte_val]; rfl, fun hff => ?_⟩
    rw [hff] at hf
    simpa using hf
   ·cases h
  ·rename_i hx
   split at h
   ·rename_i m r' hm
    cases h
    obtain ⟨h1, h2⟩ := numR_inv0 g false l m r hm
    have h2 := h2 rfl
    have hxl := x.isLt
    have hge : ¬ x.val - 128 + 128 * m < 128 := by omega
    refine ⟨?_, fun _ => by omega⟩
    rw [numW_ge hge, show (x.val - 128 + 128 * m) / 128 = m by omega, show (x.val - 128 + 128 * m) % 128 + 128 = x.val by omega, byte_val, h1]
    rfl
   ·cases h
theorem number_inv {l : List U8} {n : Nat} {r : List U8} (h : numberR l = some (n, r)) : l = numW n ++ r := (numR_inv0 5 true l n r h).1
theorem many_inv {l : List U8} {n : Nat} {r : List U8} (h : manyR l = some (n, r)) : l = numW n ++ r := by
 unfold manyR at h
 rcases hq : numberR l with _ | ⟨a, b⟩ <;> rw [hq] at h
 ·cases h
 ·simp only at h
  split at h
  ·cases h; exact number_inv hq
  ·cases h
def Inv {σ α : Type} (R : Rd σ α) (f : α → List U8) : Prop := ∀ s l x s' l', R s l = some (x, s', l') → l = f x ++ l'
theorem Inv.times {σ α : Type} {R : Rd σ α} {f : α → List U8} (hR : Inv R f) : ∀ (n : Nat) (s : σ) (l : List U8) (ys : List α) (s' : σ) (l' : List U8), timesR R n s l = some (ys, s', l') → l = ys.flatMap f ++ l' ∧ ys.length = n
 | 0, s, l, ys, s', l', h => by cases h; exact ⟨rfl, rfl⟩
 | n + 1, s, l, ys, s', l', h => by
  rw [timesR] at h
  split at h
  ·cases h
  ·rename_i a s1 l1 h2
   split at h
   ·cases h
   ·rename_i b s2 l2 h3
    cases h
    obtain ⟨h4, h5⟩ := Inv.times hR n _ _ _ _ _ h3
    exact ⟨by rw [hR _ _ _ _ _ h2, h4, List.flatMap_cons, List.append_assoc], by simp [h5]⟩
theorem Inv.list {σ α : Type} {R : Rd σ α} {f : α → List U8} (hR : Inv R f) : Inv (listR R) (listW f) := fun s l x s' l' h => by
 obtain ⟨n, s1, l1, h1, h2⟩ := thenR_inv h
 unfold manyRd at h1
 split at h1
 ·cases h1
 ·rename_i h3
  cases h1
  obtain ⟨h4, h5⟩ := hR.times _ _ _ _ _ _ h2
  rw [many_inv h3, h4, listW, h5, List.append_assoc]
end Go.Eng.Bd

set_option linter.unusedVariables false
set_option linter.unusedSimpArgs false
set_option maxRecDepth 10000
namespace Go.Proofs.YtpgnjlngepfanaaGreat
open Go.Eng
open Go.Eng.Fc
open Go.Eng.Bd
open Go.Eng.Im (U8 u8 u8s sumR splitR Sec numberR manyR)
end Go.Proofs.YtpgnjlngepfanaaGreat

set_option linter.unusedVariables false
namespace Go.Eng.Bd
open Go.Eng.Fc
open Go.Eng.Im (U8 numberR manyR sumR splitR Sec)
end Go.Eng.Bd

set_option linter.unusedVariables false
set_option linter.unusedSimpArgs false
set_option maxRecDepth 10000
namespace Go.Proofs.YtpgnjlngepfanaaGreat
open Go.Eng
open Go.Eng.Fc
open Go.Eng.Bd
open Go.Eng.Im (U8 u8 u8s sumR splitR Sec numberR manyR)
open Go.Eng.Im (U8 u8 u8s sumR splitR)
open Go.Eng.Im (U8 u8 u8s sumR)
instance : HasEq Tryz.prog 143 2 := ⟨Yd⟩
def ro (b : List U8) : List Th := match readR b with | some x => x.2 | none => []
end Go.Proofs.YtpgnjlngepfanaaGreat

set_option linter.unusedVariables false
set_option linter.unusedSimpArgs false
set_option maxRecDepth 10000
namespace Go.Proofs.YtpgnjlngepfanaaGreat
open Go.Eng
open Go.Eng.Fc
open Go.Eng.Bd
open Go.Eng.Im (U8 u8 u8s sumR)
open Go.Eng.Im
theorem idxB_in {l : List Int} {x : Int} : decide (idxB l x < 0) = !l.contains x := by
 rw [← idxB_contains]; by_cases h : idxB l x < 0 <;> simp [h] <;> omega
theorem meetP_len : ∀ (vals : List (Int × Int)) (l : List Int), (meetP vals l).length ≤ l.length + vals.length
 | [], l => by show l.length ≤ l.length + 0; omega
 | v :: r, l => by
  have h := meetP_len r (meet1 l v)
  have h1 : (meet1 l v).length ≤ l.length + 1 := by unfold meet1; split <;> simp
  rw [meetP_cons, List.length_cons]; omega
theorem ints_snoc1 (l : List Int) (n : Int) : AV.sl 1 ((l.map fun n => [AV.i n]) ++ [[AV.i n]]) = AV.ints (l ++ [n]) := by
 show _ = AV.sl 1 (List.map _ (_ ++ _)); rw [List.map_append]; rfl
theorem move_in {L : List Int} {v : Int × Int} (h : v.1 = 3 → v.2 ∈ L) : move1 (idxB L) v = move1 (placeP L) v := by
 unfold move1
 split
 ·rename_i h3; rw [placeP, if_pos (h h3)]
 ·rfl
theorem rPlace (l : List Int) (v : Int) : PCall Tryz.prog 210 [AV.ints l, .i v] (.i (idxB l v)) := by
 intro H
 refine ACall.mk' (n := 19) Tryz.func210 rfl Yd rfl rfl (fun B I w0 => ?_)
 refine CW.boundM (t := 0) rfl (fun hb0 => ?_)
 refine Z14 ?_
 refine lj (fun m st => ∃ k : Nat, st = ⟨[(9, .i k), (8, .i l.length), (7, AV.ints l), (1, .i v)], H⟩ ∧ m = l.length - k ∧ k ≤ l.length ∧ ∀ x ∈ l.take k, x ≠ v) (⟨0, rfl, rfl, Ys, Ys⟩) ?_
 rintro m _ ⟨k, rfl, rfl, hk, hp⟩
 refine Z6 ?_
 refine cd (fun h0 => ?_) fun h0 => ?_
 ·refine Z20 ?_
  refine cd (fun h1 => ?_) fun h1 => ?_
  ·refine Z12 ?_
   refine r1 4 (H) ?_
   exact ⟨retI (idxB_at Yb hp h1.symm), rfl⟩
  ·refine Z7 ?_
   exact ag (⟨k + 1, rfl, rfl, Yb, ne_step Yb hp (Ne.symm h1)⟩)
 ·refine Z11 ?_
  refine r1 4 (H) ?_
  exact ⟨retI (idxB_none Y5), rfl⟩
theorem rMet {l0 : List Int} {vals : List (Int × Int)} (hb : l0.length + vals.length ≤ 1000000) (v : Value) (H : List Ent) : ACall Tryz.prog 160 [.as (AV.ints l0) v, AV.mvs vals] (.own 3 1 v :: H) (fun y H' => ∃ v', y = .as (AV.ints (meetP vals l0)) v' ∧ H' = .own 3 1 v' :: H) (fun _ _ => False) := by
 refine ACall.mk' (n := 30) Tryz.func160 rfl Yd rfl rfl (fun B I w0 => ?_)
 refine Z14 ?_
 refine lj (fun m st => ∃ (i : Nat) (l : List Int) (v' : Value), st = ⟨[(9, .i i), (8, .i vals.length), (7, AV.mvs vals), (0, .as (AV.ints l) v')], .own 3 1 v' :: H⟩ ∧ m = vals.length - i ∧ i ≤ vals.length ∧ l = meetP (vals.take i) l0) (⟨0, l0, v, rfl, rfl, Yb, rfl⟩) ?_
 rintro m _ ⟨i, l, v', rfl, rfl, hi, hl⟩
 refine Z6 ?_
 refine cd (fun h0 => ?_) fun h0 => ?_
 ·have hil : i < vals.length := by omega
  obtain ⟨X, hX⟩ : ∃ X, X = vals.getD i default := ⟨_, rfl⟩
  have hst := meet_step hil l0
  rw [← hX, ← hl] at hst
  have hll : l.length ≤ l0.length + i := by have := meetP_len (vals.take i) l0; rw [← hl, List.length_take] at this; omega
  refine Z8 ?_
  refine OL.alC rfl rfl rfl rfl (fun xb => ?_)
  refine Z4 ?_
  rw [← hX]
  refine CW.freezeP (d := 6) rfl Yk ?_
  refine Z8 ?_
  refine OL.guardC rfl rfl rfl rfl rfl rfl (fun hg => POp.callLe (.mk' rfl rfl rfl rfl Ye) (.cons (AVle.asL _ _) (.cons (.refl _) .nil)) (rPlace l X.2)) ?_
  refine Z4 ?_
  refine CW.cond rfl (fun h1 => ?_) (fun h1 => ?_)
  ·rw [idxB_in] at h1
   obtain ⟨h3, h4⟩ := meet_if h1
   rw [beq_iff_eq] at h3
   rw [meet1_new h3 h4] at hst
   refine Z4 ?_
   refine OL.popC (x := .sl 1 [[AV.i X.2]]) rfl rfl rfl (POp.row rfl rfl Yi rfl rfl rfl rfl rfl rfl) ?_
   refine OL.appendC rfl rfl rfl rfl rfl rfl rfl rfl (AVle.refl _) (rfl) (fun v => by repeat (first | exact Upd.head _ _ _ | apply Upd.tail)) YK YK (fun v27 => ?_)
   refine Z8 ?_
   rw [ints_snoc1]
   exact ag ⟨i + 1, l ++ [X.2], v27, rfl, rfl, hil, hst.symm⟩
  ·rw [idxB_in] at h1
   have hso : meet1 l X = l := meet1_old ((meet_not h1).imp Ys id)
   rw [hso] at hst
   refine Z7 ?_
   exact ag (⟨i + 1, l, v', rfl, rfl, hil, hst.symm⟩)
 ·obtain rfl : i = vals.length := by omega
  rw [List.take_length] at hl
  subst hl
  refine Z12 ?_
  refine r1 4 (.own 3 1 v' :: H) ?_
  exact ⟨v', rfl, rfl⟩
theorem rMoved {L : List Int} {l : List (Int × Int)} (hl : ∀ v ∈ l, v.1 = 3 → v.2 ∈ L) (hll : l.length ≤ 1000000) : PCall Tryz.prog 162 [AV.mvs l, AV.ints L] (AV.mvs (l.map (move1 (placeP L)))) := by
 intro H
 refine ACall.mk' (n := 28) Tryz.func162 rfl Yd rfl rfl (fun B I w0 => ?_)
 refine Z12 ?_
 refine CW.ownNil 5 60 2 rfl ?_
 refine Z7 ?_
 refine lj (fun m st => ∃ (i : Nat) (v : Value), st = ⟨[(5, .as (AV.mvs ((l.take i).map (move1 (placeP L)))) v), (10, .i i), (9, .i l.length), (8, AV.mvs l), (1, AV.ints L)], .own 60 2 v :: H⟩ ∧ m = l.length - i ∧ i ≤ l.length) (⟨0, _, rfl, rfl, Yb⟩) ?_
 rintro m _ ⟨i, v, rfl, rfl, hi⟩
 refine Z6 ?_
 refine cd (fun h0 => ?_) fun h0 => ?_
 ·have hil : i < l.length := by omega
  obtain ⟨X, hX⟩ : ∃ X, X = l.getD i default := ⟨_, rfl⟩
  have hXl := move_in (hl X (hX ▸ getD_memB hil))
  have hmt := map_take1 (move1 (placeP L)) hil
  rw [← hX] at hmt
  refine Z8 ?_
  refine OL.alC rfl rfl rfl rfl (fun b7 => ?_)
  refine Z3 ?_
  refine CW.cutJ (fun st => st = ⟨[(7, .p b7 0), (5, .as (AV.mvs ((l.take i).map (move1 (placeP L)))) v), (10, .i i), (9, .i l.length), (8, AV.mvs l), (1, AV.ints L)], .blk b7 60 (initA (move1 (placeP L) X)) :: .own 60 2 v :: H⟩) ?_ ?_
  ·refine Z1 ?_
   rw [← hX]
   refine Z6 ?_
   refine cd (fun h1 => ?_) fun h1 => ?_
   ·obtain ⟨x1, x2⟩ := X
    simp only at h1
    subst h1
    have he : move1 (placeP L) (3, x2) = (3, idxB L x2) := by rw [← hXl, move1, if_pos rfl]
    refine Z4 ?_
    refine OL.popC rfl rfl rfl (POp.call (.mk' rfl rfl rfl rfl rfl) (rPlace L x2)) ?_
    refine Z3 ?_
    rw [he]
    exact cj rfl
   ·have he : move1 (placeP L) X = X := by rw [move1, if_neg h1]
    refine Z1 ?_
    rw [he]
    exact cj rfl
  ·rintro _ rfl
   refine Z3 ?_
   refine OL.popC (x := .sl 2 [initA (move1 (placeP L) X)]) rfl rfl rfl (POp.row rfl rfl Yi rfl rfl rfl rfl rfl rfl) ?_
   refine OL.appendC rfl rfl rfl rfl rfl rfl rfl rfl (AVle.refl _) (rfl) (fun v => by repeat (first | exact Upd.head _ _ _ | apply Upd.tail)) YE YE (fun v25 => ?_)
   refine Z8 ?_
   exact ag (⟨i + 1, v25, by rw [hmt, mvs_snoc], rfl, hil⟩)
 ·obtain rfl : i = l.length := by omega
  rw [List.take_length]
  refine Z12 ?_
  refine Done.retR (rs := [.tmp 4]) (H' := H) rfl (.tmp rfl (.nil)) (.cons (AVle.asL _ _) .nil) Yc ?_
  exact ⟨YaK, rfl⟩
theorem rRoots (l : List (Int × Int)) (n : Int) : PCall Tryz.prog 51 [AV.mvs l, .i n] (.b (rootedP n l)) := by
 intro H
 refine ACall.mk' (n := 13) Tryz.func51 rfl Yd rfl rfl (fun B I w0 => ?_)
 refine Z13 ?_
 refine OL.guardC rfl rfl rfl rfl rfl rfl (fun hg => POp.call (.mk' rfl rfl rfl rfl Ye) (rVals l n)) ?_
 refine Z5 ?_
 refine r1 4 (H) ?_
 exact ⟨retB (by rw [rootedP, Bool.cond_false_right]; congr 1; rw [decide_eq_decide]; omega), rfl⟩
theorem rAsked {p : Prog} (hp : p.Small) (objs : List Th) (roots : List (Int × Int)) : PCall Tryz.prog 82 [AV.prog p, AV.ths objs, AV.mvs roots] (.b (askedP p objs roots)) := by
 intro H
 refine ACall.mk' (n := 16) Tryz.func82 rfl Yd rfl rfl (fun B I w0 => ?_)
 refine Z10 ?_
 refine OL.popC rfl rfl rfl (POp.call (.mk' rfl rfl rfl rfl rfl) (rGood hp objs)) ?_
 refine Z4 ?_
 refine OL.guardC rfl rfl rfl rfl rfl rfl (fun hg => POp.call (.mk' rfl rfl rfl rfl Ye) (rRoots roots objs.length)) ?_
 refine Z5 ?_
 refine r1 6 (H) ?_
 exact ⟨retB (by rw [Bool.cond_false_right]; rfl), rfl⟩
theorem rReachOf {objs : List Th} {roots : List (Int × Int)} (hol : objs.length ≤ 40) (hrl : roots.length ≤ 20) (hr : roots.all (valueP objs.length) = true) (hv : ∀ t ∈ objs, t.slots.all (valueP objs.length) = true) (hsl : ∀ t ∈ objs, t.slots.length ≤ 40) : PCall Tryz.prog 83 [AV.ths objs, AV.mvs roots] (AV.ints (reachP objs roots)) := by
 intro H
 refine ACall.mk' (n := 26) Tryz.func83 rfl Yd rfl rfl (fun B I w0 => ?_)
 refine Z6 ?_
 refine CW.ownNil' 3 1 ?_
 refine Z2 ?_
 refine OL.bcallC rfl rfl rfl ((CallOk.mk' rfl rfl rfl rfl rfl).le (.cons (AVle.nilAs 1) (.cons (.refl _) .nil))) ((rMet (l0 := []) (vals := roots) (by show 0 + _ ≤ _; omega) _ H).b) ?_
 rintro _ _ ⟨v, rfl, rfl⟩
 refine Z10 ?_
 refine lj (fun m st => ∃ (i q : Nat) (l : List Int) (v : Value), st = ⟨[(6, .i i), (5, .as (AV.ints l) v), (0, AV.ths objs)], .own 3 1 v :: H⟩ ∧ m = q ∧ reachN objs q i l = reachP objs roots ∧ Reached objs roots i l ∧ objs.length < q + i) (⟨0, objs.length + 1, meetP roots [], v, rfl, rfl, rfl, .begin hr, Yb⟩) ?_
 rintro m _ ⟨i, q, l, v, rfl, rfl, hrn, hR, hf⟩
 have hll := hR.ok.len
 refine Z9 ?_
 refine cd (fun h0 => ?_) fun h0 => ?_
 ·have hil : i < l.length := by simpa using h0
  obtain ⟨g, rfl⟩ : ∃ g, m = g + 1 := ⟨m - 1, Yb⟩
  have hni := hR.ok.in_ _ (getD_memB hil)
  have hRs := hR.step hv hil
  rw [reachN, if_pos hil] at hrn
  obtain ⟨n, hn⟩ : ∃ n, n = l.getD i default := ⟨_, rfl⟩
  rw [← hn] at hni hRs hrn
  have hTs := hsl (thOf objs n) (getD_memB Yb)
  refine Z9 ?_
  refine OL.le 17 (y := AV.ints l) rfl (AVle.asL _ _) ?_
  refine Z2 ?_
  refine OL.popC rfl rfl rfl ((by first | exact POp.ixM rfl rfl rfl rfl rfl (by rw [← hn]; omega) | exact POp.ixI rfl rfl rfl rfl rfl (by rw [← hn]; omega))) ?_
  refine Z2 ?_
  refine OL.bcallC rfl rfl rfl ((CallOk.mk' rfl rfl rfl rfl rfl).le (by rw [hn]; exact .cons (.refl _) (.cons (.refl _) .nil))) ((rMet (l0 := l) (vals := (thOf objs n).slots) Yb _ H).b) ?_
  rintro _ _ ⟨v2, rfl, rfl⟩
  refine Z9 ?_
  exact ag (⟨i + 1, g, _, v2, rfl, rfl, hrn, hRs, Yb⟩)
 ·have hil : ¬ i < l.length := by simpa using h0
  have hlr : l = reachP objs roots := by cases m with
   | zero => exact hrn
   | succ q => rw [reachN, if_neg hil] at hrn; exact hrn
  rw [hlr]
  refine Z12 ?_
  refine Done.retR (rs := [.tmp 4]) (H' := H) rfl (.tmp rfl (.nil)) (.cons (AVle.asL _ _) .nil) Yc ?_
  exact ⟨YaK, rfl⟩
end Go.Proofs.YtpgnjlngepfanaaGreat

set_option linter.unusedVariables false
set_option linter.unusedSimpArgs false
set_option maxRecDepth 10000
namespace Go.Proofs.YtpgnjlngepfanaaGreat
open Go.Eng
open Go.Eng.Fc
open Go.Eng.Bd
open Go.Eng.Im (U8 u8 u8s sumR splitR Sec)
def mapT (f : Int → Int) (t : Th) : Th := ⟨t.cls, t.slots.map (move1 f)⟩
theorem meet1_map {f : Int → Int} {R l : List Int} {v : Int × Int} (hi : ∀ a ∈ R, ∀ b ∈ R, f a = f b → a = b) (hl : ∀ x ∈ l, x ∈ R) (hv : v.1 = 3 → v.2 ∈ R) : meet1 (l.map f) (move1 f v) = (meet1 l v).map f := by
 unfold meet1 move1
 by_cases h3 : v.1 = 3
 ·have hm : f v.2 ∈ l.map f ↔ v.2 ∈ l := ⟨fun h => by
   obtain ⟨y, hy, e⟩ := List.mem_map.1 h
   rw [← hi y (hl y hy) v.2 (hv h3) e]; exact hy, fun h => List.mem_map_of_mem h⟩
  rw [if_pos h3]
  by_cases hc : v.2 ∈ l
  ·rw [if_neg (fun h => h.2 (hm.2 hc)), if_neg (fun h => h.2 hc)]
  ·rw [if_pos ⟨rfl, fun h => hc (hm.1 h)⟩, if_pos ⟨h3, hc⟩]; simp
 ·rw [if_neg h3, if_neg (fun h => h3 h.1), if_neg (fun h => h3 h.1)]
theorem meetP_map {f : Int → Int} {R : List Int} (hi : ∀ a ∈ R, ∀ b ∈ R, f a = f b → a = b) : ∀ (vals : List (Int × Int)) (l : List Int), (∀ x ∈ meetP vals l, x ∈ R) → meetP (vals.map (move1 f)) (l.map f) = (meetP vals l).map f
 | [], l, _ => rfl
 | v :: r, l, h => by
  rw [List.map_cons, meetP_cons, meetP_cons, meet1_map hi (fun x hx => h x ((meetP_pre (v :: r) l).subset hx)) (fun h3 => h _ (meetP_has (v :: r) l v (.head _) h3))]
  exact meetP_map hi r _ h
theorem reachN_pre (objs : List Th) : ∀ (f i : Nat) (l : List Int), l <+: reachN objs f i l
 | 0, i, l => List.prefix_refl _
 | f + 1, i, l => by
  rw [reachN]
  split
  ·exact (meetP_pre _ _).trans (reachN_pre objs f (i + 1) _)
  ·exact List.prefix_refl _
theorem getD_mapI (f : Int → Int) {l : List Int} {i : Nat} (hi : i < l.length) : (l.map f).getD i default = f (l.getD i default) := by
 rw [List.getD_eq_getElem?_getD, List.getElem?_map, List.getD_eq_getElem?_getD, List.getElem?_eq_getElem hi]; rfl
theorem reachN_map {f : Int → Int} {R : List Int} (hi : ∀ a ∈ R, ∀ b ∈ R, f a = f b → a = b) {objs objs2 : List Th} (hm : ∀ n ∈ R, thOf objs2 (f n) = mapT f (thOf objs n)) : ∀ (g i : Nat) (l : List Int), (∀ x ∈ reachN objs g i l, x ∈ R) → reachN objs2 g i (l.map f) = (reachN objs g i l).map f
 | 0, i, l, _ => rfl
 | g + 1, i, l, h => by
  simp only [reachN, List.length_map] at h ⊢
  by_cases hl : i < l.length
  ·rw [if_pos hl] at h
   rw [if_pos hl, if_pos hl, getD_mapI f hl]
   have hs : ∀ x ∈ meetP (thOf objs (l.getD i default)).slots l, x ∈ R := fun x hx => h x ((reachN_pre objs g (i + 1) _).subset hx)
   rw [hm _ (hs _ ((meetP_pre _ l).subset (getD_memB hl)))]
   show reachN objs2 g (i + 1) (meetP ((thOf objs (l.getD i default)).slots.map (move1 f)) (l.map f)) = _
   rw [meetP_map hi _ _ hs]
   exact reachN_map hi hm g (i + 1) _ h
  ·rw [if_neg hl, if_neg hl]
theorem reachN_more {objs : List Th} {roots : List (Int × Int)} (hv : ∀ t ∈ objs, t.slots.all (valueP objs.length) = true) (k : Nat) : ∀ (f i : Nat) (l : List Int), Reached objs roots i l → objs.length < f + i → reachN objs (f + k) i l = reachN objs f i l
 | 0, i, l, h, hf => by
  have := h.ok.len
  cases k with
  | zero => rfl
  | succ k => rw [Nat.zero_add, reachN, reachN, if_neg Yb]
 | f + 1, i, l, h, hf => by
  rw [show f + 1 + k = (f + k) + 1 by omega, reachN, reachN]
  split
  ·rename_i hl
   exact reachN_more hv k f (i + 1) _ (h.step hv hl) Yb
  ·rfl
structure Iso (f : Int → Int) (objs objs2 : List Th) (roots : List (Int × Int)) : Prop where
 rs : roots.all (valueP objs.length) = true
 vs : ∀ t ∈ objs, t.slots.all (valueP objs.length) = true
 rs2 : (roots.map (move1 f)).all (valueP objs2.length) = true
 vs2 : ∀ t ∈ objs2, t.slots.all (valueP objs2.length) = true
 inj : ∀ a ∈ reachP objs roots, ∀ b ∈ reachP objs roots, f a = f b → a = b
 th : ∀ n ∈ reachP objs roots, thOf objs2 (f n) = mapT f (thOf objs n)
theorem Iso.reach {f : Int → Int} {objs objs2 : List Th} {roots : List (Int × Int)} (h : Iso f objs objs2 roots) : reachP objs2 (roots.map (move1 f)) = (reachP objs roots).map f := by
 have h1 := reachN_more h.vs objs2.length (objs.length + 1) 0 _ (Reached.begin h.rs) Yb
 have h2 := reachN_more h.vs2 objs.length (objs2.length + 1) 0 _ (Reached.begin h.rs2) Yb
 have e : meetP (roots.map (move1 f)) [] = (meetP roots []).map f := meetP_map h.inj roots [] (fun x hx => (reachN_pre objs _ 0 _).subset hx)
 have hi := h.inj
 have ht := h.th
 unfold reachP at hi ht ⊢
 rw [← h1] at hi ht ⊢
 rw [← h2, e, show objs2.length + 1 + objs.length = objs.length + 1 + objs2.length by omega]
 exact reachN_map hi ht _ _ _ (fun x hx => hx)
theorem reach_closed {objs : List Th} {roots : List (Int × Int)} (hr : roots.all (valueP objs.length) = true) (hv : ∀ t ∈ objs, t.slots.all (valueP objs.length) = true) : RouteOk objs.length (reachP objs roots) ∧ (∀ v ∈ roots, v.1 = 3 → v.2 ∈ reachP objs roots) ∧ ∀ n ∈ reachP objs roots, ∀ v ∈ (thOf objs n).slots, v.1 = 3 → v.2 ∈ reachP objs roots := by
 obtain ⟨i, h, hi⟩ := reach_ok hr hv
 refine ⟨h.ok, h.rts, fun n hn v hv h3 => ?_⟩
 obtain ⟨j, hj, rfl⟩ := List.mem_iff_getElem.1 hn
 refine h.sls j Yb v ?_ h3
 rwa [List.getD_eq_getElem?_getD, List.getElem?_eq_getElem hj]
theorem find_map {f : Int → Int} {n : Int} : ∀ L : List Int, (∀ a ∈ L, f a = f n → a = n) → (L.map f).findIdx? (fun x => x == f n) = L.findIdx? (fun x => x == n)
 | [], _ => rfl
 | a :: r, h => by
  have e : (f a == f n) = (a == n) := by
   rw [Bool.eq_iff_iff, beq_iff_eq, beq_iff_eq]
   exact ⟨h a (.head _), fun e => by rw [e]⟩
  rw [List.map_cons, List.findIdx?_cons, List.findIdx?_cons, find_map r (fun a ha => h a (.tail _ ha)), e]
theorem place_map {f : Int → Int} {L : List Int} (hi : ∀ a ∈ L, ∀ b ∈ L, f a = f b → a = b) {n : Int} (hn : n ∈ L) : placeP (L.map f) (f n) = placeP L n := by
 rw [placeP, placeP, if_pos hn, if_pos (List.mem_map_of_mem hn), idxB, idxB, find_map L (fun a ha e => hi a ha n hn e)]
theorem moves_map {f : Int → Int} {L : List Int} (hi : ∀ a ∈ L, ∀ b ∈ L, f a = f b → a = b) {l : List (Int × Int)} (hl : ∀ v ∈ l, v.1 = 3 → v.2 ∈ L) : (l.map (move1 f)).map (move1 (placeP (L.map f))) = l.map (move1 (placeP L)) := by
 rw [List.map_map]
 refine List.map_congr_left fun v hv => ?_
 show move1 _ (move1 f v) = _
 unfold move1
 by_cases h3 : v.1 = 3
 ·rw [if_pos h3, if_pos h3]
  show (3, placeP (L.map f) (f v.2)) = _
  rw [place_map hi (hl v hv h3)]
 ·rw [if_neg h3, if_neg h3, if_neg h3]
theorem Iso.part {f : Int → Int} {objs objs2 : List Th} {roots : List (Int × Int)} (h : Iso f objs objs2 roots) (p : Prog) : partP p objs2 (roots.map (move1 f)) = partP p objs roots := by
 obtain ⟨_, h1, h2⟩ := reach_closed h.rs h.vs
 have e : partB p objs2 (roots.map (move1 f)) = partB p objs roots := by
  unfold partB
  rw [h.reach, moves_map h.inj h1]
  congr 1
  unfold listW
  rw [List.length_map, List.flatMap_map]
  congr 1
  have hg : ∀ n ∈ reachP objs roots, thW (objW ((reachP objs roots).map f) objs2 (f n)) = thW (objW (reachP objs roots) objs n) := fun n hn => by
   rw [objW, objW, h.th n hn]
   show thW ⟨(thOf objs n).cls, ((thOf objs n).slots.map (move1 f)).map _⟩ = _
   rw [moves_map h.inj (h2 n hn)]
  rw [List.flatMap_def, List.flatMap_def, List.map_congr_left hg]
 rw [partP, partP, e]
def ownP (objs : List Th) (roots : List (Int × Int)) : List Th := (reachP objs roots).map (objW (reachP objs roots) objs)
end Go.Proofs.YtpgnjlngepfanaaGreat

set_option linter.unusedVariables false
set_option linter.unusedSimpArgs false
set_option maxRecDepth 10000
namespace Go.Proofs.YtpgnjlngepfanaaGreat
open Go.Eng
open Go.Eng.Fc
open Go.Eng.Bd
open Go.Eng.Im (U8 u8 u8s sumR)
open Go.Eng.Im
theorem listW_map {α β : Type} (f : β → List U8) (g : α → β) (l : List α) : listW f (l.map g) = listW (fun n => f (g n)) l := by
 unfold listW; rw [List.length_map, List.flatMap_map]
theorem partB_own (p : Prog) (objs : List Th) (roots : List (Int × Int)) : partB p objs roots = sumR 1 (progW p) ++ numW (roots.map (move1 (placeP (reachP objs roots)))).length ++ (roots.map (move1 (placeP (reachP objs roots)))).flatMap valW ++ listW thW ((reachP objs roots).map (objW (reachP objs roots) objs)) := by
 rw [partB, ← listW_map thW (objW (reachP objs roots) objs)]; simp only [listW, List.append_assoc]
theorem rSumO (k : U8) (l L : List U8) (hL : L = k :: l) (hl : l.length < 140737488355328) (H : List Ent) : ACall Tryz.prog 154 [u8s L] H (fun y H' => ∃ v', y = .as (u8s (sumR k l)) v' ∧ H' = .own 5 1 v' :: H) (fun _ _ => False) := by
 refine ACall.mk' (n := 36) Tryz.func154 rfl Yd rfl rfl (fun B I w0 => ?_)
 have hlen : L.length = l.length + 1 := by rw [hL]; rfl
 refine Z20 ?_
 refine lj (fun m st => ∃ j : Nat, st = ⟨[(9, .i j), (8, .i L.length), (7, u8s L), (3, .i (sumP (L.take j)).1), (4, .i (sumP (L.take j)).2)], H⟩ ∧ m = L.length - j ∧ j ≤ L.length) (⟨0, rfl, rfl, Nat.zero_le _⟩) ?_
 rintro m _ ⟨j, rfl, rfl, hj⟩
 obtain ⟨hb1, hb2⟩ := sumP_lt (L.take j)
 refine Z6 ?_
 refine cd (fun h0 => ?_) fun h0 => ?_
 ·have hj' : j < L.length := Int.ofNat_lt.1 h0
  obtain ⟨x, hx⟩ : ∃ x, x = L.getD j default := ⟨_, rfl⟩
  have hst := sumP_step hj'
  rw [← hx] at hst
  have hxl := x.isLt
  refine Z12 ?_
  rw [← hx]
  refine Z3 ?_
  refine OL.popC rfl rfl rfl (POp.cv rfl rfl rfl (wrap64 Yb)) ?_
  refine Z1 ?_
  refine OL.popC rfl rfl rfl (POp.div rfl rfl rfl rfl rfl YL (.inr ⟨rfl, tm_sum _ _⟩)) ?_
  refine Z7 ?_
  refine OL.popC rfl rfl rfl (POp.div rfl rfl rfl rfl rfl YL (.inr ⟨rfl, tm_sum _ _⟩)) ?_
  refine Z8 ?_
  exact ag (⟨j + 1, by rw [hst], rfl, hj'⟩)
 ·obtain rfl : j = L.length := by omega
  rw [List.take_length] at hb1 hb2 ⊢
  refine Z8 ?_
  refine OL.popC rfl rfl rfl (POp.div rfl rfl rfl rfl rfl YL (.inl ⟨rfl, quo256 _ hb2⟩)) ?_
  refine OL.popC rfl rfl rfl (POp.cv rfl rfl rfl (u8_wrap _)) ?_
  refine Z1 ?_
  refine OL.popC rfl rfl rfl (POp.div rfl rfl rfl rfl rfl YL (.inr ⟨rfl, rem256 _⟩)) ?_
  refine OL.popC rfl rfl rfl (POp.cv rfl rfl rfl (u8_wrap _)) ?_
  refine Z1 ?_
  refine OL.popC rfl rfl rfl (POp.div rfl rfl rfl rfl rfl YL (.inl ⟨rfl, quo256 _ hb1⟩)) ?_
  refine OL.popC rfl rfl rfl (POp.cv rfl rfl rfl (u8_wrap _)) ?_
  refine Z1 ?_
  refine OL.popC rfl rfl rfl (POp.div rfl rfl rfl rfl rfl YL (.inr ⟨rfl, rem256 _⟩)) ?_
  refine OL.popC rfl rfl rfl (POp.cv rfl rfl rfl (u8_wrap _)) ?_
  refine OL.rowOwn (els := [[u8 (Im.byteOf ((sumP L).2 / 256))], [u8 (Im.byteOf ((sumP L).2 % 256))], [u8 (Im.byteOf ((sumP L).1 / 256))], [u8 (Im.byteOf ((sumP L).1 % 256))]]) rfl rfl rfl rfl Yi rfl rfl rfl rfl rfl rfl rfl (fun v35 => ?_)
  refine Z4 ?_
  refine r1 2 (.own 5 1 v35 :: H) ?_
  exact ⟨v35, by rw [byteOf_mod, byteOf_mod, sumR, ← hL]; rfl, rfl⟩
theorem rProgSum {p : Prog} (hp : okP p) (H : List Ent) : ACall Tryz.prog 96 [AV.prog p] H (fun y H' => ∃ v', y = .as (u8s (sumR 1 (progW p))) v' ∧ H' = .own 5 1 v' :: H) (fun _ _ => False) := by
 refine ACall.mk' (n := 8) Tryz.func96 rfl Yd rfl rfl (fun B I w0 => ?_)
 have hl1 := progW_len hp
 refine Z8 ?_
 refine OL.rowOwn (els := [[u8 1]]) rfl rfl rfl rfl Yi rfl rfl rfl rfl rfl rfl rfl (fun v3 => ?_)
 refine Z1 ?_
 refine OL.popC rfl rfl rfl (POp.call (.mk' rfl rfl rfl rfl rfl) (rProgW hp)) ?_
 refine OL.appendC rfl rfl rfl rfl rfl rfl rfl rfl (AVle.refl _) (one_map (fun _ => rfl) (progW p)) (fun v => by repeat (first | exact Upd.head _ _ _ | apply Upd.tail)) YE YE (fun v6 => ?_)
 refine OL.bcallC rfl rfl rfl ((CallOk.mk' rfl rfl rfl rfl rfl).le (.cons (AVle.asL _ _) .nil)) ((rSumO 1 (progW p) (1 :: progW p) rfl Yb _).b) ?_
 rintro _ _ ⟨v7, rfl, rfl⟩
 refine Z4 ?_
 refine Done.retR (rs := [.tmp 2]) (H' := .own 5 1 v7 :: H) rfl (.tmp rfl (.nil)) (AVleL.refl _) (by exact .cons_cons _ (.cons _ (.refl _))) ?_
 exact ⟨v7, rfl, rfl⟩
theorem rPartOf {p : Prog} {objs : List Th} {roots : List (Int × Int)} (hk : AskOk p objs roots) : PCall Tryz.prog 84 [AV.prog p, AV.ths objs, AV.mvs roots] (u8s (partP p objs roots)) := by
 intro H
 refine ACall.mk' (n := 62) Tryz.func84 rfl Yd rfl rfl (fun B I w0 => ?_)
 have hpl := partL_len (p := p) hk.po hk.rs hk.rl
 have hsl := secW_len (k := 3) (b := partL p objs roots (reachP objs roots)) Yb
 have hpo := partB_own p objs roots
 obtain ⟨_, hc1, hc2⟩ := reach_closed hk.rs hk.po.vs
 have hol := hk.po.ol
 have hrl := hk.rl
 have hPO := hk.po
 have hPe : partL p objs roots (reachP objs roots) = partB p objs roots := rfl
 rw [hPe] at hpl hsl
 refine Z10 ?_
 refine OL.popC rfl rfl rfl (POp.call (.mk' rfl rfl rfl rfl rfl) (rReachOf hol hrl hk.rs hk.po.vs (fun t ht => (hk.po.os t ht).vl))) ?_
 refine Z4 ?_
 rw [partP]
 obtain ⟨L, hL⟩ : ∃ L, L = reachP objs roots := ⟨_, rfl⟩
 rw [← hL] at hpo hc1 hc2 hPO ⊢
 have hLl := hPO.rt.len
 obtain ⟨R, hR⟩ : ∃ R, R = roots.map (move1 (placeP L)) := ⟨_, rfl⟩
 have hRl : R.length = roots.length := by rw [hR, List.length_map]
 have hRo : ∀ x ∈ R, okVal x := fun x hx => by
  rw [hR] at hx
  obtain ⟨y, hy, rfl⟩ := List.mem_map.1 hx
  exact move_ok hPO (List.all_eq_true.1 hk.rs y hy)
 have hOo : ∀ x ∈ L.map (objW L objs), okT x := fun x hx => by
  obtain ⟨n, hn, rfl⟩ := List.mem_map.1 hx
  exact obj_ok hPO hn
 rw [← hR] at hpo
 have hbl := congrArg List.length hpo
 simp only [List.length_append, sumR_len] at hbl
 refine Z2 ?_
 refine OL.bcallC rfl rfl rfl (.mk' rfl rfl rfl rfl rfl) ((rProgSum hk.p H).b) ?_
 rintro _ _ ⟨v1, rfl, rfl⟩
 refine Z2 ?_
 refine OL.bcallC rfl rfl rfl (.mk' rfl rfl rfl rfl rfl) ((rNumW (n := roots.length) YT (by rw [sumR_len, numI_nat, ← hRl]; omega) _ H).b) ?_
 rintro _ _ ⟨v2, rfl, rfl⟩
 refine Z5 ?_
 rw [numI_nat, ← hRl]
 refine Z3 ?_
 refine OL.popC rfl rfl rfl (POp.call (.mk' rfl rfl rfl rfl rfl) (rMoved hc1 Yb)) ?_
 refine Z5 ?_
 rw [← hR]
 refine lj (fun m st => ∃ (i : Nat) (v8 : Value), st = ⟨[(26, .i i), (25, .i R.length), (24, AV.mvs R), (8, .as (u8s (sumR 1 (progW p) ++ numW R.length ++ (R.take i).flatMap valW)) v8), (7, AV.ints L), (1, AV.ths objs)], .own 5 1 v8 :: H⟩ ∧ m = R.length - i ∧ i ≤ R.length) (⟨0, v2, Yr, rfl, Yb⟩) ?_
 rintro m _ ⟨i, v8, rfl, rfl, hi⟩
 refine Z6 ?_
 refine cd (fun h0 => ?_) fun h0 => ?_
 ·have il : i < R.length := by omega
  have hfi := flat_take_len valW R (i + 1)
  rw [flat_take valW il, List.length_append] at hfi
  refine Z8 ?_
  refine OL.alC rfl rfl rfl rfl (fun rb => ?_)
  refine Z3 ?_
  refine CW.freezeP (d := 10) rfl Yk ?_
  refine Z3 ?_
  refine OL.bcallC rfl rfl rfl (.mk' rfl rfl rfl rfl rfl) ((rValW (hRo _ (getD_memB il)) (by simp only [List.length_append, sumR_len]; omega) _ H).b) ?_
  rintro _ _ ⟨v9, rfl, rfl⟩
  refine Z8 ?_
  exact ag (⟨i + 1, v9, by rw [flat_take valW il, ← List.append_assoc], rfl, il⟩)
 ·obtain rfl : i = R.length := by omega
  rw [List.take_length]
  obtain ⟨O, hO⟩ : ∃ O, O = sumR 1 (progW p) ++ numW R.length ++ R.flatMap valW := ⟨_, rfl⟩
  rw [← hO] at hpo ⊢
  have hOl := congrArg List.length hO
  simp only [List.length_append, sumR_len] at hOl
  refine Z19 ?_
  refine CW.ownNil 11 65 2 rfl ?_
  refine lj (fun m st => ∃ (i : Nat) (v : Value), st = ⟨[(36, .i i), (35, .i L.length), (34, AV.ints L), (11, .as (AV.ths ((L.take i).map (objW L objs))) v), (8, .as (u8s O) v8), (7, AV.ints L), (1, AV.ths objs)], .own 65 2 v :: .own 5 1 v8 :: H⟩ ∧ m = L.length - i ∧ i ≤ L.length) (⟨0, _, rfl, rfl, Yb⟩) ?_
  rintro m _ ⟨i, v, rfl, rfl, hi⟩
  refine Z6 ?_
  refine cd (fun h1 => ?_) fun h1 => ?_
  ·have il : i < L.length := by omega
   obtain ⟨n, hn⟩ : ∃ n, n = L.getD i default := ⟨_, rfl⟩
   have hnm : n ∈ L := hn ▸ getD_memB il
   have hni := hPO.rt.in_ n hnm
   have hnt := hc2 n hnm
   have hnl := (hPO.os (thOf objs n) (getD_memB Yb)).vl
   have hmt := map_take1 (objW L objs) il
   rw [← hn] at hmt
   refine Z11 ?_
   rw [← hn]
   refine CW.dp mixed ?_
   refine DP.anyC 0 15 62 rfl Yf rfl rfl Yf ?_
   refine Z12 ?_
   refine AD.popC rfl rfl rfl (POp.call (.mk' rfl rfl rfl rfl rfl) (rMoved (l := (thOf objs n).slots) hnt Yb)) ?_
   refine Z1 ?_
   refine AD.popC rfl rfl rfl (POp.le (x := .sl 2 [thA (objW L objs n)]) (POp.row rfl rfl Yi rfl rfl rfl rfl rfl rfl) (AVle.refl _)) ?_
   refine Z2 ?_
   refine OL.appendC rfl rfl rfl rfl rfl rfl rfl rfl (AVle.refl _) (rfl) (fun v => by repeat (first | exact Upd.head _ _ _ | apply Upd.tail)) YE YE (fun v55 => ?_)
   refine Z8 ?_
   exact ag (⟨i + 1, v55, by rw [hmt, ths_snoc], rfl, il⟩)
  ·obtain rfl : i = L.length := by omega
   rw [List.take_length]
   refine Z7 ?_
   refine OL.perm (List.Perm.swap _ _ _) ?_
   refine OL.rowOwn (els := [[u8 67], [u8 80]]) rfl rfl rfl rfl Yi rfl rfl rfl rfl rfl rfl rfl (fun v57 => ?_)
   refine Z2 ?_
   refine OL.perm (List.Perm.swap _ _ _) ?_
   refine OL.bcallC rfl rfl rfl ((CallOk.mk' rfl rfl rfl rfl rfl).le (.cons (.refl _) (.cons (AVle.asL _ _) .nil))) ((rObjsW (l := L.map (objW L objs)) Y8 hOo Yb _ _).b) ?_
   rintro _ _ ⟨v60, rfl, rfl⟩
   refine OL.perm (List.Perm.swap _ _ _) ?_
   refine OL.bcallC rfl rfl rfl ((CallOk.mk' rfl rfl rfl rfl rfl).le (.cons (.refl _) (.cons (.refl _) (.cons (AVle.asL _ _) .nil)))) ((rSecW (out := [67, 80]) 3 (by rw [← hpo]; show 2 + _ ≤ _; omega) _ _).b) ?_
   rintro _ _ ⟨v61, rfl, rfl⟩
   refine Z4 ?_
   refine Done.retR (rs := [.tmp 6]) (H' := H) rfl (.tmp rfl (.nil)) (.cons (AVle.asL _ _) .nil) Yc ?_
   exact ⟨by rw [hpo]; rfl, rfl⟩
end Go.Proofs.YtpgnjlngepfanaaGreat

set_option linter.unusedVariables false
set_option linter.unusedSimpArgs false
set_option maxRecDepth 10000
namespace Go.Proofs.YtpgnjlngepfanaaGreat
open Go.Eng
open Go.Eng.Fc
open Go.Eng.Bd
open Go.Eng.Im (U8 u8 u8s sumR)
theorem rAlike {p : Prog} (hp : p.Small) (objs : List Th) (roots : List (Int × Int)) (others : List Th) (otherRoots : List (Int × Int)) : PCall Tryz.prog 34 [AV.prog p, AV.ths objs, AV.mvs roots, AV.ths others, AV.mvs otherRoots] (.tup [.b (alikeP p objs roots others otherRoots), .i (if (askedP p objs roots && askedP p others otherRoots) then 0 else 2)]) := by
 intro H
 refine ACall.mk' (n := 33) Tryz.func34 rfl Yd rfl rfl (fun B I w0 => ?_)
 refine Z13 ?_
 refine OL.popC rfl rfl rfl (POp.call (.mk' rfl rfl rfl rfl rfl) (rAsked hp objs roots)) ?_
 refine Z5 ?_
 refine OL.guardC rfl rfl rfl rfl rfl rfl (fun hg => POp.call (.mk' rfl rfl rfl rfl Ye) (rAsked hp others otherRoots)) ?_
 refine Z4 ?_
 refine CW.cond rfl (fun h0 => ?_) (fun h0 => ?_)
 ·have ha : (askedP p objs roots && askedP p others otherRoots) = false := by cases h1 : askedP p objs roots <;> cases h2 : askedP p others otherRoots <;> simp_all
  refine Z8 ?_
  refine rR [.tmp 10, .tmp 11] (H) ?_
  exact ⟨by rw [alikeP, ha]; rfl, rfl⟩
 ·have ha : (askedP p objs roots && askedP p others otherRoots) = true := by cases h1 : askedP p objs roots <;> cases h2 : askedP p others otherRoots <;> simp_all
  have ha2 := ha
  rw [Bool.and_eq_true] at ha2
  refine Z3 ?_
  refine CW.dp mixed ?_
  refine DP.anyC 0 7 33 rfl Yf rfl rfl Yf ?_
  refine Z3 ?_
  refine AD.popC rfl rfl rfl (POp.call (.mk' rfl rfl rfl rfl rfl) (rPartOf (ask_ok ha2.1))) ?_
  refine Z5 ?_
  refine OL.popC rfl rfl rfl (POp.call (.mk' rfl rfl rfl rfl rfl) (rPartOf (ask_ok ha2.2))) ?_
  refine OL.popC rfl rfl rfl (POp.call (.mk' rfl rfl rfl rfl rfl) (sameB _ _)) ?_
  refine Z5 ?_
  refine rR [.tmp 10, .tmp 11] (H) ?_
  exact ⟨by rw [alikeP, ha]; rfl, rfl⟩
theorem alikesC {g : Gv} (hp : g.p.Small) : PCall Tryz.prog 8 [AV.given g] (.b true) := by
 intro H
 refine ACall.mk' (n := 46) Tryz.func8 rfl Yd rfl rfl (fun B I w0 => ?_)
 refine Z18 ?_
 refine OL.popC rfl rfl rfl (POp.call (.mk' rfl rfl rfl rfl rfl) (alikeC hp g.objs g.roots g.others g.otherRoots)) ?_
 refine Z19 ?_
 refine OL.popC rfl rfl rfl (POp.call (.mk' rfl rfl rfl rfl rfl) (rAlike hp g.objs g.roots g.others g.otherRoots)) ?_
 refine Z18 ?_
 refine OL.guardC rfl rfl rfl rfl rfl rfl (fun hg => POp.call (.mk' rfl rfl rfl rfl rfl) (knownC)) ?_
 refine Z5 ?_
 refine r1 2 (H) ?_
 exact ⟨retB Ys, rfl⟩
end Go.Proofs.YtpgnjlngepfanaaGreat
