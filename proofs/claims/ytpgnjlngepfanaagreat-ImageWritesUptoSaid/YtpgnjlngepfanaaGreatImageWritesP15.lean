/- Part 15 of the proof: contracts of functions of the program and what they need. No condition beyond those that each theorem names. -/
import Derived.Test.YtpgnjlngepfanaaGreatImageWritesP14
set_option maxHeartbeats 1000000
set_option linter.unusedVariables false
set_option linter.unusedSimpArgs false
set_option maxRecDepth 10000
namespace Go.Proofs.YtpgnjlngepfanaaGreat
open Go.Eng
open Go.Eng.Fc
open Go.Eng.Bd
open Go.Eng.Im (U8 u8 u8s sumR splitR)
theorem okG0 : okG P0 O0 := by obtain ⟨h1, h2, h3⟩ := ok_of k1; exact ⟨h1, h2, h3⟩
theorem imageK : PCall Tryz.prog 15 [AV.prog P0, AV.ths O0] (.tup [u8s B0, .i 0]) := by
 have h := imageC small0 O0 (fun _ => okG0)
 rwa [imageQ, k1, if_pos rfl, if_pos rfl, k2] at h
theorem sectK : PCall Tryz.prog 23 [u8s B0] (.tup [AV.ints [1, 2], AV.ints [], .i 0]) := by
 have h := q23 B0 YL
 rwa [k11] at h
theorem sect9K : PCall Tryz.prog 23 [u8s B9] (.tup [AV.ints [1, 2], AV.ints [0], .i 0]) := by
 have h := q23 B9 YL
 rwa [k12] at h
theorem readK : PCall Tryz.prog 19 [u8s B9] (.tup [AV.prog noProg, AV.ths [], .i 4]) := by
 have h := readC B9 YL
 rwa [readA, k7] at h
theorem reachK : PCall Tryz.prog 26 [AV.prog P0, AV.ths O0, AV.mvs [(3, 1)]] (.tup [AV.ints [1, 0], .i 0]) := by
 have h := reachI small0 O0 [(3, 1)]
 rwa [reachQ, k5, if_pos rfl, if_pos rfl, k6] at h
theorem partK : PCall Tryz.prog 27 [AV.prog P0, AV.ths O0, AV.mvs [(3, 1)]] (.tup [u8s K0, .i 0]) := by
 have h := partC small0 O0 [(3, 1)]
 rwa [partQ, k5, if_pos rfl, if_pos rfl, k3] at h
theorem loadK : PCall Tryz.prog 30 [AV.prog P0, AV.ths O0, u8s K0] (.tup [AV.ths O4, AV.mvs [(3, 2)], .i 0]) := by
 have h := loadC small0 O0 K0 YL
 rwa [k8] at h
theorem alikeK : PCall Tryz.prog 33 [AV.prog P0, AV.ths O0, AV.mvs [(3, 0)], AV.ths O0, AV.mvs [(3, 1)]] (.tup [.b false, .i 0]) := by
 have h := alikeC small0 O0 [(3, 0)] O0 [(3, 1)]
 rwa [k10, k9, k5] at h
theorem knownC : PCall Tryz.prog 18 [] (.b true) := by
 intro H
 refine ACall.mk' (n := 187) Tryz.func18 rfl Yd rfl rfl (fun B I w0 => ?_)
 refine Z7 ?_
 refine OL.popC rfl rfl rfl (POp.call (.mk' rfl rfl rfl rfl rfl) (progK)) ?_
 refine OL.popC rfl rfl rfl (POp.call (.mk' rfl rfl rfl rfl rfl) (objsK)) ?_
 refine OL.popC rfl rfl rfl (POp.call (.mk' rfl rfl rfl rfl rfl) (imageK)) ?_
 refine Z9 ?_
 refine OL.popC rfl rfl rfl (POp.call (.mk' rfl rfl rfl rfl rfl) (bytesK)) ?_
 refine OL.popC rfl rfl rfl (POp.call (.mk' rfl rfl rfl rfl rfl) (sectK)) ?_
 refine Z20 ?_
 refine OL.guardC rfl rfl rfl rfl rfl rfl (fun hg => POp.call (.mk' rfl rfl rfl rfl rfl) (bytesK)) ?_
 refine OL.guardC rfl rfl rfl rfl rfl rfl (fun hg => POp.call (.mk' rfl rfl rfl rfl Yf) (sameB B0 B0)) ?_
 refine Z14 ?_
 refine OL.guardC rfl rfl rfl rfl rfl rfl (fun hg => YS) ?_
 refine Z5 ?_
 refine OL.guardC rfl rfl rfl rfl rfl rfl (fun hg => YS) ?_
 refine Z5 ?_
 refine CW.cond rfl (fun h0 => ?_) (fun h0 => ?_)
 ·exact absurd h0 Ye
 ·refine Z4 ?_
  refine OL.bcallC rfl rfl rfl (.mk' rfl rfl rfl rfl rfl) ((bytesB H).b) ?_
  rintro y _ ⟨bb, rfl, rfl⟩
  refine Z6 ?_
  refine OL.popC rfl rfl rfl (POp.ixC rfl rfl rfl rfl rfl Yb) ?_
  refine Z4 ?_
  refine CW.eqH (H' := .blk bb 5 ((B9.map fun x => [u8 x]).flatten ++ []) :: H) rfl ?_
  refine CW.freezeS (k := 1) (d := 1) rfl (.head _ _) rfl (fun e he => by obtain ⟨y, _, rfl⟩ := List.mem_map.1 he; rfl) (Nat.le_refl _) YW ?_
  refine CW.le 1 (y := u8s B9) rfl (AVle.refl _) ?_
  refine Z2 ?_
  refine OL.popC rfl rfl rfl (POp.call (.mk' rfl rfl rfl rfl rfl) (sect9K)) ?_
  refine Z11 ?_
  refine OL.popC rfl rfl rfl (POp.call (.mk' rfl rfl rfl rfl rfl) (readK)) ?_
  refine Z9 ?_
  refine OL.popC rfl rfl rfl (POp.call (.mk' rfl rfl rfl rfl rfl) (progK)) ?_
  refine OL.popC rfl rfl rfl (POp.call (.mk' rfl rfl rfl rfl rfl) (objsK)) ?_
  refine OL.popC rfl rfl rfl (POp.call (.mk' rfl rfl rfl rfl rfl) (objI 1)) ?_
  refine OL.popC rfl rfl rfl (POp.le (x := AV.mvs [(3, 1)]) (POp.row rfl rfl Yi rfl rfl rfl rfl rfl rfl) (AVle.refl _)) ?_
  refine OL.popC rfl rfl rfl (POp.call (.mk' rfl rfl rfl rfl rfl) (reachK)) ?_
  refine Z9 ?_
  refine OL.popC rfl rfl rfl (POp.call (.mk' rfl rfl rfl rfl rfl) (progK)) ?_
  refine OL.popC rfl rfl rfl (POp.call (.mk' rfl rfl rfl rfl rfl) (objsK)) ?_
  refine OL.popC rfl rfl rfl (POp.call (.mk' rfl rfl rfl rfl rfl) (objI 1)) ?_
  refine OL.popC rfl rfl rfl (POp.le (x := AV.mvs [(3, 1)]) (POp.row rfl rfl Yi rfl rfl rfl rfl rfl rfl) (AVle.refl _)) ?_
  refine OL.popC rfl rfl rfl (POp.call (.mk' rfl rfl rfl rfl rfl) (partK)) ?_
  refine Z26 ?_
  refine OL.guardC rfl rfl rfl rfl rfl rfl (fun hg => POp.row rfl rfl Yi rfl rfl rfl rfl rfl rfl) ?_
  refine OL.guardC rfl rfl rfl rfl rfl rfl (fun hg => POp.call (.mk' rfl rfl rfl rfl Yf) (sameI [0] [0])) ?_
  refine Z4 ?_
  refine OL.guardC rfl rfl rfl rfl rfl rfl (fun hg => POp.row rfl rfl Yi rfl rfl rfl rfl rfl rfl) ?_
  refine OL.guardC rfl rfl rfl rfl rfl rfl (fun hg => POp.call (.mk' rfl rfl rfl rfl Yf) (sameI [1, 0] [1, 0])) ?_
  refine Z9 ?_
  refine CW.cond rfl (fun h1 => ?_) (fun h1 => ?_)
  ·exact absurd h1 Ye
  ·refine Z4 ?_
   refine OL.popC rfl rfl rfl (POp.row rfl rfl Yi rfl rfl rfl rfl rfl rfl) ?_
   refine Z5 ?_
   refine OL.popC rfl rfl rfl (POp.call (.mk' rfl rfl rfl rfl rfl) (progK)) ?_
   refine OL.popC rfl rfl rfl (POp.call (.mk' rfl rfl rfl rfl rfl) (objsK)) ?_
   refine Z1 ?_
   refine OL.popC rfl rfl rfl (POp.call (.mk' rfl rfl rfl rfl rfl) (loadK)) ?_
   refine Z11 ?_
   refine OL.popC rfl rfl rfl (POp.call (.mk' rfl rfl rfl rfl rfl) (progK)) ?_
   refine OL.popC rfl rfl rfl (POp.call (.mk' rfl rfl rfl rfl rfl) (objsK)) ?_
   refine OL.popC rfl rfl rfl (POp.call (.mk' rfl rfl rfl rfl rfl) (objI 0)) ?_
   refine OL.popC rfl rfl rfl (POp.le (x := AV.mvs [(3, 0)]) (POp.row rfl rfl Yi rfl rfl rfl rfl rfl rfl) (AVle.refl _)) ?_
   refine OL.popC rfl rfl rfl (POp.call (.mk' rfl rfl rfl rfl rfl) (objsK)) ?_
   refine OL.popC rfl rfl rfl (POp.call (.mk' rfl rfl rfl rfl rfl) (objI 1)) ?_
   refine OL.popC rfl rfl rfl (POp.le (x := AV.mvs [(3, 1)]) (POp.row rfl rfl Yi rfl rfl rfl rfl rfl rfl) (AVle.refl _)) ?_
   refine OL.popC rfl rfl rfl (POp.call (.mk' rfl rfl rfl rfl rfl) (alikeK)) ?_
   refine Z8 ?_
   refine CW.dp mixed ?_
   refine Z28 ?_
   refine DP.anyC 7 10 187 rfl Ye rfl rfl Ye ?_
   refine Z1 ?_
   refine AD.guardC rfl rfl rfl rfl rfl (fun hg => POp.slTo rfl rfl Y0 rfl Y0 YL) ?_
   refine Z3 ?_
   refine OL.guardC rfl rfl rfl rfl rfl rfl (fun hg => POp.call (.mk' rfl rfl rfl rfl Yf) (sameB T0 T0)) ?_
   refine Z30 ?_
   refine DP.anyC 18 24 187 rfl Ye rfl rfl Ye ?_
   refine Z1 ?_
   refine AD.guardC rfl rfl rfl rfl rfl (fun hg => YS) ?_
   refine Z2 ?_
   refine AD.guardC rfl rfl rfl rfl rfl (fun hg => POp.call (.mk' rfl rfl rfl rfl rfl) (objI 3)) ?_
   refine AD.guardC rfl rfl rfl rfl rfl (fun hg => POp.row rfl rfl Yi rfl rfl rfl rfl rfl rfl) ?_
   refine Z2 ?_
   refine OL.guardC rfl rfl rfl rfl rfl rfl (fun hg => POp.call (.mk' rfl rfl rfl rfl Yf) (sameV [(3, 3)] [(3, 3)])) ?_
   refine Z10 ?_
   refine DP.anyC 27 33 187 rfl Ye rfl rfl Ye ?_
   refine Z1 ?_
   refine AD.guardC rfl rfl rfl rfl rfl (fun hg => YS) ?_
   refine Z2 ?_
   refine AD.guardC rfl rfl rfl rfl rfl (fun hg => POp.call (.mk' rfl rfl rfl rfl rfl) (noneV)) ?_
   refine AD.guardC rfl rfl rfl rfl rfl (fun hg => POp.row rfl rfl Yi rfl rfl rfl rfl rfl rfl) ?_
   refine Z2 ?_
   refine OL.guardC rfl rfl rfl rfl rfl rfl (fun hg => POp.call (.mk' rfl rfl rfl rfl Yf) (sameV [(2, 0)] [(2, 0)])) ?_
   refine Z10 ?_
   refine DP.anyC 36 39 187 rfl Ye rfl rfl Ye ?_
   refine Z1 ?_
   refine AD.guardC rfl rfl rfl rfl rfl (fun hg => POp.call (.mk' rfl rfl rfl rfl rfl) (objI 2)) ?_
   refine AD.guardC rfl rfl rfl rfl rfl (fun hg => POp.row rfl rfl Yi rfl rfl rfl rfl rfl rfl) ?_
   refine Z2 ?_
   refine OL.guardC rfl rfl rfl rfl rfl rfl (fun hg => POp.call (.mk' rfl rfl rfl rfl Yf) (sameV [(3, 2)] [(3, 2)])) ?_
   refine Z9 ?_
   refine r1 0 (H) ?_
   exact ⟨retB Ye, rfl⟩
end Go.Proofs.YtpgnjlngepfanaaGreat

set_option linter.unusedVariables false
namespace Go.Eng.Bd
open Go.Eng.Fc
open Go.Eng.Im (U8 numberR manyR sumR splitR Sec)
theorem thenR_inv {σ α β : Type} {R : Rd σ α} {k : α → Rd σ β} {s s' : σ} {l l' : List U8} {x : β} (h : thenR R k s l = some (x, s', l')) : ∃ a s1 l1, R s l = some (a, s1, l1) ∧ k a s1 l1 = some (x, s', l') := by
 unfold thenR at h
 split at h
 ·cases h
 ·rename_i a s1 l1 h1; exact ⟨a, s1, l1, h1, h⟩
theorem byte_val (x : U8) : Im.byteOf x.val = x := by
 apply Fin.ext
 show x.val % 256 = x.val
 have := x.isLt
 omega
theorem numR_inv0 : ∀ (g : Nat) (first : Bool) (l : List U8) (n : Nat) (r : List U8), Im.numR g first l = some (n, r) → l = numW n ++ r ∧ (first = false → 0 < n)
 | 0, _, _, _, _, h => by simp [Im.numR] at h
 | g + 1, first, [], n, r, h => by simp [Im.numR] at h
 | g + 1, first, x :: l, n, r, h => by
  rw [Im.numR] at h
  split at h
  ·rename_i hx
   split at h
   ·rename_i hf
    cases h
    refine ⟨by rw [numW_lt hx, byte_val]; rfl, fun hff => ?_⟩
    rw [hff] at hf
    simpa using hf
   ·cases h
  ·rename_i hx
   split at h
   ·rename_i m r' hm
    cases h
    obtain ⟨h1, h2⟩ := numR_inv0 g false l m r hm
    have h2 := h2 rfl
    have hxl := x.isLt
    have hge : ¬ x.val - 128 + 128 * m < 128 := by omega
    refine ⟨?_, fun _ => by omega⟩
    rw [numW_ge hge, show (x.val - 128 + 128 * m) / 128 = m by omega, show (x.val - 128 + 128 * m) % 128 + 128 = x.val by omega, byte_val, h1]
    rfl
   ·cases h
theorem number_inv {l : List U8} {n : Nat} {r : List U8} (h : numberR l = some (n, r)) : l = numW n ++ r := (numR_inv0 5 true l n r h).1
theorem many_inv {l : List U8} {n : Nat} {r : List U8} (h : manyR l = some (n, r)) : l = numW n ++ r := by
 unfold manyR at h
 rcases hq : numberR l with _ | ⟨a, b⟩ <;> rw [hq] at h
 ·cases h
 ·simp only at h
  split at h
  ·cases h; exact number_inv hq
  ·cases h
def Inv {σ α : Type} (R : Rd σ α) (f : α → List U8) : Prop := ∀ s l x s' l', R s l = some (x, s', l') → l = f x ++ l'
theorem Inv.times {σ α : Type} {R : Rd σ α} {f : α → List U8} (hR : Inv R f) : ∀ (n : Nat) (s : σ) (l : List U8) (ys : List α) (s' : σ) (l' : List U8), timesR R n s l = some (ys, s', l') → l = ys.flatMap f ++ l' ∧ ys.length = n
 | 0, s, l, ys, s', l', h => by cases h; exact ⟨rfl, rfl⟩
 | n + 1, s, l, ys, s', l', h => by
  rw [timesR] at h
  split at h
  ·cases h
  ·rename_i a s1 l1 h2
   split at h
   ·cases h
   ·rename_i b s2 l2 h3
    cases h
    obtain ⟨h4, h5⟩ := Inv.times hR n _ _ _ _ _ h3
    exact ⟨by rw [hR _ _ _ _ _ h2, h4, List.flatMap_cons, List.append_assoc], by simp [h5]⟩
theorem Inv.list {σ α : Type} {R : Rd σ α} {f : α → List U8} (hR : Inv R f) : Inv (listR R) (listW f) := fun s l x s' l' h => by
 obtain ⟨n, s1, l1, h1, h2⟩ := thenR_inv h
 unfold manyRd at h1
 split at h1
 ·cases h1
 ·rename_i h3
  cases h1
  obtain ⟨h4, h5⟩ := hR.times _ _ _ _ _ _ h2
  rw [many_inv h3, h4, listW, h5, List.append_assoc]
end Go.Eng.Bd

set_option linter.unusedVariables false
set_option linter.unusedSimpArgs false
set_option maxRecDepth 10000
namespace Go.Proofs.YtpgnjlngepfanaaGreat
open Go.Eng
open Go.Eng.Fc
open Go.Eng.Bd
open Go.Eng.Im (U8 u8 u8s sumR splitR Sec numberR manyR)
end Go.Proofs.YtpgnjlngepfanaaGreat

set_option linter.unusedVariables false
namespace Go.Eng.Bd
open Go.Eng.Fc
open Go.Eng.Im (U8 numberR manyR sumR splitR Sec)
end Go.Eng.Bd

set_option linter.unusedVariables false
set_option linter.unusedSimpArgs false
set_option maxRecDepth 10000
namespace Go.Proofs.YtpgnjlngepfanaaGreat
open Go.Eng
open Go.Eng.Fc
open Go.Eng.Bd
open Go.Eng.Im (U8 u8 u8s sumR splitR Sec numberR manyR)
open Go.Eng.Im (U8 u8 u8s sumR splitR)
open Go.Eng.Im (U8 u8 u8s sumR)
instance : HasEq Tryz.prog 143 2 := ⟨Yd⟩
def ro (b : List U8) : List Th := match readR b with | some x => x.2 | none => []
theorem okG_of {p : Prog} {objs : List Th} (h : checkP p objs = true) : okG p objs := by obtain ⟨h1, h2, h3⟩ := ok_of h; exact ⟨h1, h2, h3⟩
theorem writesC {g : Gv} (hp : g.p.Small) : PCall Tryz.prog 3 [AV.given g] (.b true) := by
 intro H
 refine ACall.mk' (n := 34) Tryz.func3 rfl Yd rfl rfl (fun B I w0 => ?_)
 refine Z12 ?_
 refine OL.popC rfl rfl rfl (POp.call (.mk' rfl rfl rfl rfl rfl) (imageC hp g.objs okG_of)) ?_
 refine Z13 ?_
 refine OL.popC rfl rfl rfl (POp.call (.mk' rfl rfl rfl rfl rfl) (rImage hp g.objs okG_of)) ?_
 refine Z15 ?_
 refine OL.guardC rfl rfl rfl rfl rfl rfl (fun hg => POp.call (.mk' rfl rfl rfl rfl Yf) (sameB _ _)) ?_
 refine Z2 ?_
 refine OL.guardC rfl rfl rfl rfl rfl rfl (fun hg => POp.call (.mk' rfl rfl rfl rfl rfl) (knownC)) ?_
 refine Z5 ?_
 refine r1 2 (H) ?_
 exact ⟨retB Ys, rfl⟩
end Go.Proofs.YtpgnjlngepfanaaGreat
