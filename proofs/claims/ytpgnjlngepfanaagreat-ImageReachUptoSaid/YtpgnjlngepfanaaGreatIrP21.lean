/- Part 21 of the proof: contracts of functions of the program and what they need. No condition beyond those that each theorem names. -/
import Derived.Test.YtpgnjlngepfanaaGreatIrP20
import Derived.Shelf.Sort.Plain
import Derived.Shelf.Slices.In.SortNone
import Derived.Sort.OwnSortedInts
set_option linter.unusedVariables false
set_option linter.unusedSimpArgs false
set_option maxRecDepth 10000
namespace Go.Proofs.YtpgnjlngepfanaaGreat
open Go.Eng
open Go.Eng.Fc
open Go.Eng.Bd
theorem mergeC (all : List (List Int)) (ht : total all ≤ 1000) (hl : all.length ≤ 1000) : PCall Tryz.prog 288 [AV.intss all] (.tup [AV.ints (mergeP all).1, .b (mergeP all).2]) := by
 intro H
 refine ACall.mk' (n := 66) Tryz.func288 rfl (by kernel_rfl) rfl rfl (fun B I w0 => ?_)
 refine S2 ?_; refine Oas ?_; refine Oas ?_; refine S2 ?_
 refine CW.scope ?_
 refine S2 ?_; refine Oas ?_; refine S3 ?_
 refine CW.label ?_
 refine S2 ?_
 refine CW.ownNil 4 3 1 rfl ?_
 refine lj (fun m st => ∃ (A : List (List Int)) (out : List Int) (n : Nat) (v : Value), st = ⟨[(0, AV.intss A), (4, .as (AV.ints out) v)], .own 3 1 v :: H⟩ ∧ m = n ∧ total A < n ∧ mergeN n A out = mergeP all ∧ total A + out.length ≤ total all ∧ A.length = all.length) (⟨all, [], total all + 1, _, rfl, rfl, by omega, rfl, by simp, rfl⟩) ?_
 rintro m _ ⟨A, out, n, v, rfl, rfl, hn, hm, hto, hA⟩
 obtain ⟨n, rfl⟩ : ∃ q, m = q + 1 := ⟨m - 1, by omega⟩
 refine S1 ?_
 refine CW.scope ?_
 refine S2 ?_; refine Oas ?_; refine S3 ?_
 refine CW.label ?_
 refine S4 ?_; refine Omv ?_; refine Oln ?_; refine Omv ?_; refine S3 ?_
 refine lj (fun m st => ∃ (i : Nat) (lf : Bool), st = ⟨[(16, .i i), (15, .i A.length), (14, AV.intss A), (5, .b lf), (0, AV.intss A), (4, .as (AV.ints out) v)], .own 3 1 v :: H⟩ ∧ m = A.length - i ∧ i ≤ A.length ∧ lf = !((A.take i).all List.isEmpty) ∧ nextH A A = nextH A (A.drop i)) (⟨0, false, rfl, rfl, by omega, rfl, rfl⟩) ?_
 rintro m _ ⟨i, lf, rfl, rfl, hi, hlf, hnx⟩
 refine S2 ?_; refine Ocm ?_; refine S3 ?_
 refine CW.cond rfl (fun h0 => ?_) (fun h0 => ?_)
 ·
  replace h0 := nm h0
  have hil : i < A.length := by omega
  obtain ⟨L, hL⟩ : ∃ L, L = A.getD i default := ⟨_, rfl⟩
  have hdr := drop_getD hil
  rw [← hL] at hdr
  have hLt := len_total A i hil
  rw [← hL] at hLt
  refine S6 ?_
  refine OL.popC rfl rfl rfl ((by first | exact POp.ixM rfl rfl rfl rfl rfl hil | exact POp.ixI rfl rfl rfl rfl rfl hil)) ?_
  refine Old ?_; refine Oas ?_; refine S4 ?_
  rw [← hL]
  refine S1 ?_; refine Omv ?_; refine Oln ?_; refine Ocm ?_; refine S2 ?_
  refine CW.cond rfl (fun h1 => ?_) (fun h1 => ?_)
  ·
   replace h1 := nm h1
   have hLe : L = [] := List.eq_nil_of_length_eq_zero (by omega)
   refine S5 ?_; refine Oar ?_; refine Omv ?_; refine S1 ?_
   exact ag (⟨i + 1, lf, rfl, rfl, hil, by rw [all_takeB hil, ← hL, hLe, hlf]; simp, by rw [hnx, hdr, next_nil hLe]⟩)
  ·
   replace h1 := nm h1
   have hLn : 0 < L.length := by omega
   refine S4 ?_; refine Oas ?_; refine S5 ?_; refine Omv ?_; refine Oln ?_; refine Omv ?_; refine S3 ?_
   refine lj (fun m st => ∃ j : Nat, st = ⟨[(25, .i j), (24, .i A.length), (23, AV.intss A), (7, AV.ints L), (16, .i i), (15, .i A.length), (14, AV.intss A), (5, .b true), (0, AV.intss A), (4, .as (AV.ints out) v)], .own 3 1 v :: H⟩ ∧ m = A.length - j ∧ j ≤ A.length ∧ ((A.take j).any fun m => m.tail.contains (L.getD 0 default)) = false) (⟨0, rfl, rfl, by omega, rfl⟩) ?_
   rintro m _ ⟨j, rfl, rfl, hj, hany⟩
   refine S2 ?_; refine Ocm ?_; refine S3 ?_
   refine CW.cond rfl (fun h2 => ?_) (fun h2 => ?_)
   ·
    replace h2 := nm h2
    have hjl : j < A.length := by omega
    obtain ⟨M, hM⟩ : ∃ M, M = A.getD j default := ⟨_, rfl⟩
    refine S6 ?_
    refine OL.popC rfl rfl rfl ((by first | exact POp.ixM rfl rfl rfl rfl rfl hjl | exact POp.ixI rfl rfl rfl rfl rfl hjl)) ?_
    refine Old ?_; refine Oas ?_; refine S3 ?_
    rw [← hM]
    refine CW.dp mixed ?_
    refine DP.one (k := 0) (by decide +kernel) rfl ?_
    refine Omv ?_
    refine OL.nil (Done.dp ?_)
    refine DP.one (k := 1) (by decide +kernel) rfl ?_
    refine Oln ?_
    refine OL.nil (Done.dp ?_)
    refine DP.one (k := 2) (by decide +kernel) rfl ?_
    refine Ocm ?_
    refine OL.nil (Done.dp ?_)
    refine DP.one (k := 3) (by decide +kernel) rfl ?_
    refine Omv ?_
    refine OL.nil (Done.dp ?_)
    refine DP.anyC 4 9 66 rfl (by decide +kernel) rfl rfl (by decide +kernel) ?_
    refine AD.guardC rfl rfl rfl rfl rfl (fun hg => POp.move rfl rfl rfl) ?_
    refine AD.guardC rfl rfl rfl rfl rfl (fun hg => POp.slFrom (n := 1) rfl rfl (by first | rfl | exact hg | simp_all) rfl (by first | rfl | exact hg | simp_all) (by have := of_decide_eq_true hg; omega)) ?_
    refine AD.guardC rfl rfl rfl rfl rfl (fun hg => POp.move rfl rfl rfl) ?_
    refine AD.guardC rfl rfl rfl rfl rfl (fun hg => (by first | exact POp.ixM rfl rfl (gd hg) rfl rfl (by omega) | exact POp.ixI rfl rfl (gd hg) rfl rfl (by omega))) ?_
    refine AD.guardC rfl rfl rfl rfl rfl (fun hg => (by first | exact POp.ld1 rfl rfl (gd hg) rfl | (apply POp.ld1H rfl rfl (gd hg); (case hm => repeat (first | exact .head _ | refine .tail _ ?_)); (case hy => rfl)))) ?_
    refine AD.nil ?_
    refine DP.tailC 9 (by decide +kernel) rfl ?_
    refine OL.guardC rfl rfl rfl rfl rfl rfl (fun hg => POp.call (.mk' rfl rfl rfl rfl (by first | rfl | ((repeat (first | exact hg | rfl | refine Bool.and_eq_true_iff.2 ⟨?_, ?_⟩)); done) | simp_all [strip, constAV])) ((sContains _ _))) ?_
    refine Opk ?_; refine S2 ?_
    refine CW.cond rfl (fun h3 => ?_) (fun h3 => ?_)
    ·
     replace h3 := nm h3
     refine S9 ?_; refine Oar ?_; refine Omv ?_; refine S1 ?_
     exact ag (⟨i + 1, true, rfl, rfl, hil, by rw [all_takeB hil, ← hL, len_empty hLn, Bool.and_false]; rfl, by rw [hnx, hdr, next_no hLn (by rw [headOk_any, any_getD hjl (by rw [← hM]; exact head_in h3)]; rfl)]⟩)
    ·
     replace h3 := nm h3
     refine S4 ?_; refine Oar ?_; refine Omv ?_; refine S1 ?_
     exact ag (⟨j + 1, rfl, rfl, hjl, by rw [any_takeB hjl, hany, ← hM, head_out h3]; rfl⟩)
   ·
    replace h2 := nm h2
    obtain rfl : j = A.length := by omega
    rw [List.take_length] at hany
    obtain ⟨h, hh⟩ : ∃ h, h = L.getD 0 default := ⟨_, rfl⟩
    rw [← hh] at hany
    have hsome : nextH A A = some h := by rw [hnx, hdr, next_yes hLn (by rw [headOk_any, ← hh, hany]; rfl), hh]
    have hlt := total_lt h A i hil (by rw [← hL, hh]; exact getD_memB hLn)
    have hle := total_dropH h A
    refine S7 ?_; refine Omv ?_
    refine OL.popC rfl rfl rfl ((by first | exact POp.ixM rfl rfl rfl rfl rfl hLn | exact POp.ixI rfl rfl rfl rfl rfl hLn)) ?_
    refine Old ?_
    refine OL.alC rfl rfl rfl rfl (fun b0 => ?_)
    refine Sto ?_; refine S3 ?_
    refine CW.freezeP (d := 10) rfl (by repeat (first | exact Del.head _ _ | apply Del.tail)) ?_
    rw [← hh]
    refine S1 ?_; refine Omv ?_; refine Old ?_
    refine OL.popC (x := .sl 1 [[.i h]]) rfl rfl rfl (POp.row rfl rfl (by first | rfl | simp_all [strip]) rfl rfl rfl rfl rfl rfl) ?_
    refine OL.appendC rfl rfl rfl rfl rfl rfl rfl rfl (AVle.refl _) (rfl) (fun v => by repeat (first | exact Upd.head _ _ _ | apply Upd.tail)) (by simp only [List.length_map, List.length_take, List.length_singleton, List.length_cons, List.length_nil] at *; omega) (by simp only [List.length_map, List.length_take, List.length_singleton, List.length_cons, List.length_nil] at *; omega) (fun v47 => ?_)
    refine Oas ?_; refine S4 ?_; refine Oas ?_; refine S4 ?_
    refine CW.ownNil 11 23 1 rfl ?_
    refine S1 ?_; refine Omv ?_; refine Oln ?_; refine Omv ?_; refine S3 ?_
    refine lj (fun m st => ∃ (k : Nat) (w : Value), st = ⟨[(50, .i k), (49, .i A.length), (48, AV.intss A), (11, .as (AV.intss (dropH h (A.take k))) w), (10, .ptr [.i h]), (4, .as (.sl 1 ((out.map fun n => [AV.i n]) ++ [[AV.i h]])) v47)], .own 23 1 w :: .own 3 1 v47 :: H⟩ ∧ m = A.length - k ∧ k ≤ A.length) (⟨0, _, rfl, rfl, by omega⟩) ?_
    rintro m _ ⟨k, w, rfl, rfl, hk⟩
    refine S2 ?_; refine Ocm ?_; refine S3 ?_
    refine CW.cond rfl (fun h4 => ?_) (fun h4 => ?_)
    ·
     replace h4 := nm h4
     have hkl : k < A.length := by omega
     have hkt := len_total A k hkl
     refine S6 ?_
     refine OL.popC rfl rfl rfl ((by first | exact POp.ixM rfl rfl rfl rfl rfl hkl | exact POp.ixI rfl rfl rfl rfl rfl hkl)) ?_
     refine Old ?_; refine Oas ?_; refine S3 ?_; refine Omv ?_; refine Omv ?_; refine Omf ?_
     refine OL.popC rfl rfl rfl (POp.call (.mk' rfl rfl rfl rfl rfl) (keepI (.of (merge1 h)) (A.getD k default) (by omega))) ?_
     refine OL.popC (x := .sl 1 [[AV.ints ((A.getD k default).filter (· != h))]]) rfl rfl rfl (POp.row rfl rfl (by first | rfl | simp_all [strip]) rfl rfl rfl rfl rfl rfl) ?_
     refine OL.appendC rfl rfl rfl rfl rfl rfl rfl rfl (AVle.refl _) (rfl) (fun v => by repeat (first | exact Upd.head _ _ _ | apply Upd.tail)) (by have h9 := dropH_len h (A.take k); simp only [List.length_map, List.length_take, List.length_singleton, List.length_cons, List.length_nil] at *; omega) (by have h9 := dropH_len h (A.take k); simp only [List.length_map, List.length_take, List.length_singleton, List.length_cons, List.length_nil] at *; omega) (fun v59 => ?_)
     refine Oas ?_; refine S4 ?_; refine Oar ?_; refine Omv ?_; refine S1 ?_
     exact ag (⟨k + 1, v59, by rw [dropH_snoc _ hkl], rfl, hkl⟩)
    ·
     replace h4 := nm h4
     obtain rfl : k = A.length := by omega
     rw [List.take_length]
     refine S6 ?_
     refine CW.le 11 (y := AV.intss (dropH h A)) rfl (AVle.asL _ _) ?_
     refine S1 ?_; refine Omv ?_; refine Oas ?_; refine S8 ?_
     refine Done.scopeX ?_
     refine S1 ?_
     exact ag (⟨dropH h A, out ++ [h], n, v47, by rw [ints_snoc], rfl, by omega, by rw [← hm, merge_some hsome], by rw [List.length_append, List.length_singleton]; omega, by rw [dropH_len, hA]⟩)
 ·
  replace h0 := nm h0
  obtain rfl : i = A.length := by omega
  rw [List.drop_length] at hnx
  rw [List.take_length] at hlf
  refine S7 ?_; refine Omv ?_; refine Omv ?_; refine Ont ?_; refine Oas ?_; refine Oas ?_; refine S3 ?_
  refine Done.scopeR ?_
  refine S3 ?_
  refine Done.scopeR ?_
  refine Done.retR (rs := [.tmp 2, .tmp 3]) (H' := H) rfl (.tmp rfl (.tmp rfl (.nil))) (.cons (AVle.asL _ _) (.cons (.refl _) .nil)) (by repeat (first | exact List.Sublist.refl _ | refine List.Sublist.cons _ ?_)) ?_
  exact ⟨by rw [← hm, merge_none hnx, hlf, Bool.not_not]; rfl, rfl⟩
theorem lsWith (s : Nat) (c : Int) (hc : 0 ≤ c ∧ c < 64) (hs : s < 18446744073709551616) : PCall Tryz.prog 270 [.agg [AV.set s], .i c] (.agg [AV.set (s ||| 2 ^ c.toNat)]) := by
 intro H
 refine ACall.mk' (n := 12) Tryz.func270 rfl (by kernel_rfl) rfl rfl (fun B I w0 => ?_)
 refine S2 ?_
 refine OL.boxC rfl rfl rfl rfl rfl rfl rfl (fun b0 => ?_)
 refine OL.alC rfl rfl rfl rfl (fun b1 => ?_)
 refine S3 ?_
 refine CW.dp mixed ?_
 refine DP.anyC 0 4 12 rfl (by decide +kernel) rfl rfl (by decide +kernel) ?_
 refine Aia ?_; refine Ald ?_; refine Amv ?_
 refine AD.popC rfl rfl rfl (POp.shift rfl rfl rfl rfl rfl hc.1 (sh_left _ hc)) ?_
 refine AD.nil ?_
 refine DP.tailC 4 (by decide +kernel) rfl ?_
 refine OL.popC rfl rfl rfl (POp.bits rfl rfl rfl rfl rfl (bit_or _ _ hs (Nat.pow_lt_pow_right (a := 2) (n := 64) (by omega) (by omega)))) ?_
 refine Oia ?_; refine Sto ?_; refine S4 ?_; refine Ola ?_; refine Sto ?_; refine S3 ?_
 refine Done.retR (rs := [.cell 4 303]) (H' := H) rfl ((by first | exact .cellA inferInstance rfl (by repeat (first | exact .head _ | refine .tail _ ?_)) rfl rfl (.nil) | exact .ptrA inferInstance rfl rfl (.nil))) (AVleL.refl _) (by repeat (first | exact List.Sublist.refl _ | refine List.Sublist.cons _ ?_)) ?_
 exact ⟨by first | rfl | exact retI (by simp_all) | exact retB (by simp_all) | simp_all, rfl⟩
theorem lsOr (s t : Nat) (hs : s < 18446744073709551616) (ht : t < 18446744073709551616) : PCall Tryz.prog 271 [.agg [AV.set s], .agg [AV.set t]] (.agg [AV.set (s ||| t)]) := by
 intro H
 refine ACall.mk' (n := 12) Tryz.func271 rfl (by kernel_rfl) rfl rfl (fun B I w0 => ?_)
 refine S2 ?_
 refine OL.boxC rfl rfl rfl rfl rfl rfl rfl (fun b0 => ?_)
 refine Obx ?_
 refine OL.alC rfl rfl rfl rfl (fun b1 => ?_)
 refine S4 ?_; refine Oia ?_; refine Old ?_; refine Oia ?_; refine Old ?_
 refine OL.popC rfl rfl rfl (POp.bits rfl rfl rfl rfl rfl (bit_or _ _ hs ht)) ?_
 refine Oia ?_; refine Sto ?_; refine S4 ?_; refine Ola ?_; refine Sto ?_; refine S3 ?_
 refine Done.retR (rs := [.cell 4 303]) (H' := H) rfl ((by first | exact .cellA inferInstance rfl (by repeat (first | exact .head _ | refine .tail _ ?_)) rfl rfl (.nil) | exact .ptrA inferInstance rfl rfl (.nil))) (AVleL.refl _) (by repeat (first | exact List.Sublist.refl _ | refine List.Sublist.cons _ ?_)) ?_
 exact ⟨by first | rfl | exact retI (by simp_all) | exact retB (by simp_all) | simp_all, rfl⟩
abbrev walkF (wb : Nat) (G : AV) (p : Prog) : AV := .fn (.func 228) [] [.ptr [G], .ptr (progC p), .p wb 0]
abbrev walkE (wb : Nat) (G : AV) (p : Prog) : Ent := .blk wb 260 [walkF wb G p]
def WalkC (B : Nat) (p : Prog) (next : Bool) (G : AV) (L : List Vis) (fails : Bool) (J : List Vis → List Ent → Prop) (Jp : AV → List Ent → Prop) (wb : Nat) (f : Nat) : Prop :=
 ∀ (x : Vis) (out : List Int) (pre rest : List Vis) (H0 Hx : List Ent), x.dp + f = 14 → 1 ≤ x.dp → -1000 ≤ x.sz ∧ x.sz ≤ 1000 + x.dp → pre ++ (visit p next f x out).1 ++ rest = L → ((visit p next f x out).2 = none → rest = [] ∧ fails = true) → ((visit p next f x out).2 ≠ none → fails = true → rest ≠ []) → J pre H0 →
  BCall B Tryz.prog 228 [.i x.n, plcA x, .ptr [G], .ptr (progC p), .p wb 0] (H0 ++ (walkE wb G p :: Hx)) (fun y H' => y = .b true ∧ (visit p next f x out).2 ≠ none ∧ ∃ H1, H' = H1 ++ (walkE wb G p :: Hx) ∧ J (pre ++ (visit p next f x out).1) H1)
   (fun y H' => (visit p next f x out).2 = none ∧ ∃ H1, H' = H1 ++ (walkE wb G p :: Hx) ∧ Jp y H1)
theorem walk_step {B : Nat} {p : Prog} {next : Bool} {g : Fn} {fs cs : List AV} {L : List Vis} {fails : Bool} {J : List Vis → List Ent → Prop} {Jp : AV → List Ent → Prop} (hcb : CbP B Tryz.prog (.fn g fs cs) (fun x => .i x.n) plcA L fails J Jp) (hcon : ∀ y H, Jp y H → ∃ v, y.Const v)
  {wb f : Nat} (ih : ∀ f', f = f' + 1 → WalkC B p next (.fn g fs cs) L fails J Jp wb f') : WalkC B p next (.fn g fs cs) L fails J Jp wb f := by
 intro x out pre rest H0 Hx hdf hdp hsz hL hn1 hn2 hJ
 refine BCall.of (n := 55) Tryz.func228 rfl (by kernel_rfl) rfl rfl (fun I w0 => ?_)
 refine S2 ?_; refine Obx ?_; refine Oas ?_; refine S5 ?_; refine Old ?_; refine Omv ?_; refine Ola ?_
 refine OL.vcall rfl rfl rfl rfl rfl rfl rfl (AVleL.refl _) (hcb pre x H0 (walkE wb (.fn g fs cs) p :: Hx) (visit_pre hL) hJ) ?_ ?_
 ·
  rintro _ _ ⟨H1, rfl, rfl, hlast, hJ1⟩
  obtain ⟨hok, f', rfl⟩ := visit_ok hdf hL hn1 hlast
  obtain ⟨hp0, hp1⟩ := okV_place hok
  obtain ⟨K, hK⟩ : ∃ K, K = ndOf p x := ⟨_, rfl⟩
  have hvy := visit_yes (f := f') hok
  rw [← hK] at hvy
  refine Ont ?_; refine S2 ?_
  refine CW.cond rfl (fun h0 => ?_) (fun h0 => ?_)
  ·
   simp at h0
  ·
   replace h0 := nm h0
   refine S5 ?_; refine Ofa ?_; refine Old ?_; refine Omv ?_
   refine OL.popC rfl rfl rfl ((by first | exact POp.ixM rfl rfl rfl rfl rfl ⟨hp0, hp1⟩ | exact POp.ixI rfl rfl rfl rfl rfl ⟨hp0, hp1⟩)) ?_
   refine Ofa ?_; refine Old ?_; refine Oln ?_; refine Omv ?_; refine S3 ?_
   rw [show p.nodes.getD x.n.toNat default = K from hK.symm]
   refine CW.boundM (t := 21) rfl (fun hb21 => ?_)
   refine lj (fun m st => ∃ (i : Nat) (l : List Vis) (o : List Int) (H1 : List Ent), st = ⟨[(23, .i i), (22, .i K.kids.length), (21, AV.ints K.kids), (6, .ptr [.i x.sz, .i x.dp]), (0, .i x.n), (2, .ptr [.fn g fs cs]), (3, .ptr (progC p)), (4, .p wb 0)], H1 ++ (walkE wb (.fn g fs cs) p :: Hx)⟩ ∧ m = K.kids.length - i ∧ i ≤ K.kids.length ∧ visitsW (visit p next f') ((kidsV x K.op 0 K.kids).take i) (setV out x) = (l, some o) ∧ J (pre ++ x :: l) H1) (⟨0, [], setV out x, H1, rfl, rfl, by omega, rfl, hJ1⟩) ?_
   rintro m _ ⟨i, l, o, H1, rfl, rfl, hi, hvs, hJ1⟩
   refine S2 ?_; refine Ocm ?_; refine S3 ?_
   refine CW.cond rfl (fun h1 => ?_) (fun h1 => ?_)
   ·
    replace h1 := nm h1
    have hil : i < K.kids.length := by omega
    obtain ⟨R, hR, hR1, hR2⟩ := kid_step (visit_ne (p := p) (next := next) f') (kidsV_get x K.op hil) hvs
    obtain ⟨hA1, hA2, hA3⟩ := kid_args hvy hL hn1 hn2 hR hR1 (fun o' h => (hR2 o' h).2)
    refine S6 ?_; refine Omv ?_
    refine OL.popC rfl rfl rfl ((by first | exact POp.ixM rfl rfl rfl rfl rfl hil | exact POp.ixI rfl rfl rfl rfl rfl hil)) ?_
    refine Old ?_; refine Oas ?_; refine Oas ?_; refine S4 ?_; refine Ofa ?_; refine Old ?_; refine Ofa ?_; refine Old ?_; refine Oar ?_; refine Obd ?_
    refine OL.alC rfl rfl rfl rfl (fun tb => ?_)
    refine Sto ?_; refine S5 ?_; refine Ofa ?_; refine Old ?_; refine Omv ?_
    refine OL.popC rfl rfl rfl ((by first | exact POp.ixM rfl rfl rfl rfl rfl ⟨hp0, hp1⟩ | exact POp.ixI rfl rfl rfl rfl rfl ⟨hp0, hp1⟩)) ?_
    refine Ofa ?_; refine Old ?_; refine Ocm ?_; refine Omv ?_; refine Pmv ?_; refine Pcm ?_; refine Opk ?_; refine S2 ?_
    refine CW.cond rfl (fun h2 => ?_) (fun h2 => ?_)
    ·
     replace h2 := nm h2
     refine S1 ?_; refine Ofa ?_; refine Old ?_; refine Oar ?_; refine Ofa ?_; refine Sto ?_; refine S3 ?_
     refine CW.perm (H' := H1 ++ (walkE wb (.fn g fs cs) p :: .blk tb 228 [.i (kidV x K.op i (K.kids.getD i default)).sz, .i (kidV x K.op i (K.kids.getD i default)).dp] :: Hx)) (by rw [show (kidV x K.op i (K.kids.getD i default)).sz = x.sz + 1 from by rw [show (p.nodes.getD x.n.toNat default).op = K.op by rw [hK]; rfl] at h2; simp at h2; simp only [kidV]; rw [if_pos (by omega)]]; exact perm_kid _ _ _ _) ?_
     refine S1 ?_
     refine OL.popC rfl rfl rfl ((by first | exact POp.ld1 rfl rfl rfl rfl | (apply POp.ld1H rfl rfl rfl; (case hm => exact List.mem_append_right _ (.head _)); (case hy => rfl)))) ?_
     refine Omv ?_
     refine OL.popC rfl rfl rfl ((by first | exact POp.ldA rfl rfl rfl rfl | (apply POp.ldAH rfl rfl rfl; (case hm => exact List.mem_append_right _ (.tail _ (.head _))); (case hy => rfl); (case hn => rfl)))) ?_
     refine OL.bcall rfl rfl (.mk' rfl rfl rfl rfl rfl) (ih f' rfl (kidV x K.op i (K.kids.getD i default)) o (pre ++ x :: l) (R ++ rest) H1 (.blk tb 228 [.i (kidV x K.op i (K.kids.getD i default)).sz, .i (kidV x K.op i (K.kids.getD i default)).dp] :: Hx) (by simp only [kidV]; omega) (by simp only [kidV]; omega) (by simp only [kidV]; split <;> omega) hA1 hA2 hA3 hJ1) ?_ ?_
     ·
      rintro _ _ ⟨rfl, hne, H2, rfl, hJ2⟩
      obtain ⟨o', ho⟩ := Option.ne_none_iff_exists'.1 hne
      obtain ⟨hs', _⟩ := hR2 o' ho
      refine Ont ?_; refine S2 ?_
      refine CW.cond rfl (fun h3 => ?_) (fun h3 => ?_)
      ·
       simp at h3
      ·
       replace h3 := nm h3
       refine S3 ?_
       refine CW.subH (drop_kid _ _ _ _) ?_
       refine S1 ?_; refine Oar ?_; refine Omv ?_; refine S1 ?_
       exact ag (⟨i + 1, l ++ (visit p next f' (kidV x K.op i (K.kids.getD i default)) o).1, o', H2, by rfl, rfl, hil, hs', by simpa using hJ2⟩)
     ·
      rintro y H3 ⟨hno, H2, rfl, hq⟩ a w s I v hv
      obtain ⟨v0, hc⟩ := hcon _ _ hq
      rw [hc.is _ _ _ hv]
      exact outP (P := Tryz.prog) (fn := Tryz.f228) hc (drop_kid _ _ _ _) ⟨by rw [hvy]; exact (hR1 hno).2, H2, rfl, hq⟩ a w s
    ·
     replace h2 := nm h2
     refine S3 ?_
     refine CW.perm (H' := H1 ++ (walkE wb (.fn g fs cs) p :: .blk tb 228 [.i (kidV x K.op i (K.kids.getD i default)).sz, .i (kidV x K.op i (K.kids.getD i default)).dp] :: Hx)) (by rw [show (kidV x K.op i (K.kids.getD i default)).sz = x.sz from by rw [show (p.nodes.getD x.n.toNat default).op = K.op by rw [hK]; rfl] at h2; simp at h2; simp only [kidV]; rw [if_neg (by omega)]]; exact perm_kid _ _ _ _) ?_
     refine S1 ?_
     refine OL.popC rfl rfl rfl ((by first | exact POp.ld1 rfl rfl rfl rfl | (apply POp.ld1H rfl rfl rfl; (case hm => exact List.mem_append_right _ (.head _)); (case hy => rfl)))) ?_
     refine Omv ?_
     refine OL.popC rfl rfl rfl ((by first | exact POp.ldA rfl rfl rfl rfl | (apply POp.ldAH rfl rfl rfl; (case hm => exact List.mem_append_right _ (.tail _ (.head _))); (case hy => rfl); (case hn => rfl)))) ?_
     refine OL.bcall rfl rfl (.mk' rfl rfl rfl rfl rfl) (ih f' rfl (kidV x K.op i (K.kids.getD i default)) o (pre ++ x :: l) (R ++ rest) H1 (.blk tb 228 [.i (kidV x K.op i (K.kids.getD i default)).sz, .i (kidV x K.op i (K.kids.getD i default)).dp] :: Hx) (by simp only [kidV]; omega) (by simp only [kidV]; omega) (by simp only [kidV]; split <;> omega) hA1 hA2 hA3 hJ1) ?_ ?_
     ·
      rintro _ _ ⟨rfl, hne, H2, rfl, hJ2⟩
      obtain ⟨o', ho⟩ := Option.ne_none_iff_exists'.1 hne
      obtain ⟨hs', _⟩ := hR2 o' ho
      refine Ont ?_; refine S2 ?_
      refine CW.cond rfl (fun h4 => ?_) (fun h4 => ?_)
      ·
       simp at h4
      ·
       replace h4 := nm h4
       refine S3 ?_
       refine CW.subH (drop_kid _ _ _ _) ?_
       refine S1 ?_; refine Oar ?_; refine Omv ?_; refine S1 ?_
       exact ag (⟨i + 1, l ++ (visit p next f' (kidV x K.op i (K.kids.getD i default)) o).1, o', H2, by rfl, rfl, hil, hs', by simpa using hJ2⟩)
     ·
      rintro y H3 ⟨hno, H2, rfl, hq⟩ a w s I v hv
      obtain ⟨v0, hc⟩ := hcon _ _ hq
      rw [hc.is _ _ _ hv]
      exact outP (P := Tryz.prog) (fn := Tryz.f228) hc (drop_kid _ _ _ _) ⟨by rw [hvy]; exact (hR1 hno).2, H2, rfl, hq⟩ a w s
   ·
    replace h1 := nm h1
    obtain rfl : i = K.kids.length := by omega
    have hvs2 : visitsW (visit p next f') (kidsV x K.op 0 K.kids) (setV out x) = (l, some o) := by rwa [List.take_of_length_le (by rw [kidsV_len]; omega)] at hvs
    rw [hvs2] at hvy
    refine S7 ?_; refine Oas ?_; refine S3 ?_
    refine Done.retR (rs := [.tmp 7]) rfl (.tmp rfl (.nil)) (AVleL.refl _) (by repeat (first | exact List.Sublist.refl _ | refine List.Sublist.cons _ ?_)) ?_
    exact ⟨by first | rfl | exact retI (by simp_all) | exact retB (by simp_all) | simp_all, by rw [hvy]; simp, H1, rfl, by rw [hvy]; exact hJ1⟩
 ·
  rintro y H2 ⟨H1, rfl, hlast, hf, hq⟩ a w s I v hv
  obtain ⟨v0, hc⟩ := hcon _ _ hq
  rw [hc.is _ _ _ hv]
  exact outP (P := Tryz.prog) (fn := Tryz.f228) hc (.refl _) ⟨visit_last hL hn2 hf hlast, H1, rfl, hq⟩ a w s
theorem walkAll {B : Nat} {p : Prog} {next : Bool} {g : Fn} {fs cs : List AV} {L : List Vis} {fails : Bool} {J : List Vis → List Ent → Prop} {Jp : AV → List Ent → Prop} (hcb : CbP B Tryz.prog (.fn g fs cs) (fun x => .i x.n) plcA L fails J Jp) (hcon : ∀ y H, Jp y H → ∃ v, y.Const v) (wb : Nat) :
  ∀ f, WalkC B p next (.fn g fs cs) L fails J Jp wb f
 | 0 => walk_step hcb hcon (fun f' h => by omega)
 | f + 1 => walk_step hcb hcon (fun f' h => by (obtain rfl : f' = f := by omega); exact walkAll hcb hcon wb f')
theorem below1 {B : Nat} {p : Prog} {next : Bool} {g : Fn} {fs cs : List AV} {x : Vis} {out : List Int} {J : List Vis → List Ent → Prop} {Jp : AV → List Ent → Prop} (hx : x.dp = 1) (hsz : -1000 ≤ x.sz ∧ x.sz ≤ 1001) (hcon : ∀ y H, Jp y H → ∃ v, y.Const v)
  (hcb : CbP B Tryz.prog (.fn g fs cs) (fun x => .i x.n) plcA (visit p next 13 x out).1 (visit p next 13 x out).2.isNone J Jp) {H0 Hx : List Ent} (hJ : J [] H0) :
  BCall B Tryz.prog 227 [.fn g fs cs, .ptr (progC p), .ptr [.i x.n], .ptr [.i x.sz, .i x.dp]] (H0 ++ Hx) (fun _ H' => (visit p next 13 x out).2.isNone = false ∧ ∃ H1 wb, H' = H1 ++ (walkE wb (.fn g fs cs) p :: Hx) ∧ J (visit p next 13 x out).1 H1)
   (fun y H' => (visit p next 13 x out).2.isNone = true ∧ ∃ H1 wb, H' = H1 ++ (walkE wb (.fn g fs cs) p :: Hx) ∧ Jp y H1) := by
 refine BCall.of (n := 11) Tryz.func227 rfl (by kernel_rfl) rfl rfl (fun I w0 => ?_)
 refine S2 ?_; refine Obx ?_; refine S4 ?_
 refine OL.alC rfl rfl rfl rfl (fun wb => ?_)
 refine S4 ?_; refine Omf ?_; refine Sto ?_; refine S2 ?_
 refine CW.perm (H' := H0 ++ (walkE wb (.fn g fs cs) p :: Hx)) List.perm_middle.symm ?_
 refine S1 ?_
 refine OL.popC rfl rfl rfl ((by first | exact POp.ld1 rfl rfl rfl rfl | (apply POp.ld1H rfl rfl rfl; (case hm => exact List.mem_append_right _ (.head _)); (case hy => rfl)))) ?_
 refine Old ?_; refine Ola ?_
 refine OL.bcall rfl rfl (.mk' rfl rfl rfl rfl rfl) (walkAll hcb hcon wb 13 x out [] [] H0 Hx (by omega) (by omega) (by omega) (by simp) (fun h => ⟨rfl, by rw [h]; rfl⟩) (fun h hf => absurd (Option.isNone_iff_eq_none.1 hf) h) hJ) ?_ ?_
 ·
  rintro _ _ ⟨rfl, hne, H1, rfl, hJ1⟩
  refine S1 ?_
  refine Done.norR (rs := []) rfl (.nil) (AVleL.refl _) (by repeat (first | exact List.Sublist.refl _ | refine List.Sublist.cons _ ?_)) ?_
  exact ⟨by cases h : (visit p next 13 x out).2 with
 | none => exact absurd h hne
 | some o => rfl, H1, wb, rfl, by simpa using hJ1⟩
 ·
  rintro y H2 ⟨hno, H1, rfl, hq⟩ a w s I v hv
  obtain ⟨v0, hc⟩ := hcon _ _ hq
  rw [hc.is _ _ _ hv]
  exact outP (P := Tryz.prog) (fn := Tryz.f227) hc (.refl _) ⟨by rw [hno]; rfl, H1, wb, rfl, hq⟩ a w s
theorem below (p : Prog) (x : Vis) : PCall Tryz.prog 198 [AV.prog p, .i x.n, plcA x] (.fn (.func 227) [] [.ptr (progC p), .ptr [.i x.n], .ptr [.i x.sz, .i x.dp]]) := by
 intro H
 refine ACall.mk' (n := 8) Tryz.func198 rfl (by kernel_rfl) rfl rfl (fun B I w0 => ?_)
 refine S2 ?_; refine Obx ?_; refine Obx ?_; refine Obx ?_; refine Oas ?_; refine S4 ?_; refine Omf ?_; refine Oas ?_; refine S3 ?_
 refine r1 6 (H) ?_
 exact ⟨by first | rfl | exact retI (by simp_all) | exact retB (by simp_all) | simp_all, rfl⟩
theorem below_seq (B : Nat) (p : Prog) (next : Bool) (x : Vis) (out : List Int) (hx : x.dp = 1) (hsz : -1000 ≤ x.sz ∧ x.sz ≤ 1001) : SeqP B Tryz.prog (.fn (.func 227) [] [.ptr (progC p), .ptr [.i x.n], .ptr [.i x.sz, .i x.dp]]) (fun x => .i x.n) plcA (visit p next 13 x out).1 (visit p next 13 x out).2.isNone [] (fun _ => True) := by
 intro J Jp g fs cs hcon hcb H Hx hJ
 refine VCall.fnB ((below1 hx hsz hcon hcb hJ).imp ?_ ?_)
 ·rintro y H' ⟨h, H1, wb, rfl, hJ1⟩
  exact ⟨h, H1, [walkE wb (.fn g fs cs) p], rfl, trivial, hJ1⟩
 ·rintro y H' ⟨h, H1, wb, rfl, hJ1⟩
  exact ⟨h, H1, [walkE wb (.fn g fs cs) p], rfl, hJ1⟩
end Go.Proofs.YtpgnjlngepfanaaGreat

set_option linter.unusedVariables false
namespace Go.Eng.Bd
open Go.Eng.Fc
theorem rep_and (n : Nat) (h : n < 4294967296) : bitI .and .u64 (n : Int) 4294967295 = some (n : Int) := by
 rw [show (4294967295 : Int) = ((4294967295 : Nat) : Int) from rfl, bit_and n 4294967295 (by omega) (by omega)]
 rw [show (4294967295 : Nat) = 2 ^ 32 - 1 from rfl, Nat.and_two_pow_sub_one_eq_mod, Nat.mod_eq_of_lt (by omega)]
theorem rep_shr (n : Nat) (h : n < 4294967296) : shI .shr .u64 (n : Int) 32 = some 0 := by
 show some ((n : Int).fdiv (2 ^ (min (32 : Int).toNat 64))) = some 0
 congr 1
 rw [show (2 : Int) ^ (min (32 : Int).toNat 64) = 4294967296 from rfl, Int.fdiv_eq_ediv_of_nonneg _ (by omega)]
 omega
theorem u64_is {a : Int} {n : Nat} (h : a = n) (hn : n < 18446744073709551616) : IntKind.u64.wrap a = (n : Int) := by rw [h]; exact u64_wrap n hn
def repC (x z : AV) (j k : Nat) : List AV := List.replicate j x ++ List.replicate k z
theorem repC_step (x z : AV) (j k m : Nat) (hj : m ≤ j) (hk : m ≤ k) : (repC x z j k).take j ++ ((repC x z j k).take j).take m ++ (repC x z j k).drop (j + m) = repC x z (j + m) (k - m) := by
 have e1 : (repC x z j k).take j = List.replicate j x := by rw [repC, List.take_append_of_le_length (by simp), List.take_of_length_le (by simp)]
 rw [e1, List.take_replicate, Nat.min_eq_left hj, repC, List.drop_append, List.drop_eq_nil_of_le (by simp), List.nil_append, List.length_replicate, Nat.add_sub_cancel_left, List.drop_replicate, repC, List.replicate_append_replicate]
theorem repC_first (x z : AV) (k : Nat) (hk : 1 ≤ k) : (List.replicate k z).take 0 ++ [x].take 1 ++ (List.replicate k z).drop 1 = repC x z 1 (k - 1) := by
 simp [repC]
theorem repC_all (x z : AV) (j : Nat) : repC x z j 0 = List.replicate j x := by simp [repC]
theorem repC_len (x z : AV) (j k : Nat) : (repC x z j k).length = j + k := by simp [repC]
theorem repC_one (x z : AV) (j k : Nat) (hx : allOne [x] = true) (hz : allOne [z] = true) : allOne ((repC x z j k).take j) = true := by
 rw [repC, List.take_append_of_le_length (by simp), List.take_of_length_le (by simp)]
 simp only [allOne, List.all_eq_true] at hx ⊢
 intro y hy
 rw [List.eq_of_mem_replicate hy]; exact hx x (by simp)
end Go.Eng.Bd

set_option linter.unusedVariables false
set_option linter.unusedSimpArgs false
set_option maxRecDepth 10000
namespace Go.Proofs.YtpgnjlngepfanaaGreat
open Go.Eng
open Go.Eng.Fc
open Go.Eng.Bd
instance : HasMk Tryz.prog 23 (3, 8, .int .i64 0) := ⟨by kernel_rfl⟩
theorem mul64 (n : Nat) (hn : n < 4294967296) : PCall Tryz.prog 249 [.val (.int .u64 ((1 : Nat) : Int)), .val (.int .u64 (n : Int))] (.tup [.val (.int .u64 0), .val (.int .u64 (n : Int))]) := by
 intro H
 refine ACall.mk' (n := 51) Tryz.func249 rfl (by kernel_rfl) rfl rfl (fun B I w0 => ?_)
 refine S2 ?_; refine Oas ?_; refine Oas ?_; refine S4 ?_; refine Omv ?_
 refine OL.popC rfl rfl rfl (POp.bits rfl rfl rfl rfl rfl (rep_and 1 (by omega))) ?_
 refine Oas ?_; refine S4 ?_; refine Omv ?_
 refine OL.popC rfl rfl rfl (POp.shift rfl rfl rfl rfl rfl (by omega) (rep_shr 1 (by omega))) ?_
 refine Oas ?_; refine S4 ?_; refine Omv ?_
 refine OL.popC rfl rfl rfl (POp.bits rfl rfl rfl rfl rfl (rep_and _ (by omega))) ?_
 refine Oas ?_; refine S4 ?_; refine Omv ?_
 refine OL.popC rfl rfl rfl (POp.shift rfl rfl rfl rfl rfl (by omega) (rep_shr _ (by omega))) ?_
 refine Oas ?_; refine S4 ?_; refine Omv ?_; refine Omv ?_
 refine OL.popC rfl rfl rfl (POp.arith rfl rfl rfl rfl rfl rfl (u64_is (n := n) (by omega) (by omega))) ?_
 refine Oas ?_; refine S4 ?_; refine Omv ?_; refine Omv ?_
 refine OL.popC rfl rfl rfl (POp.arith rfl rfl rfl rfl rfl rfl (u64_is (n := 0) (by omega) (by omega))) ?_
 refine Omv ?_
 refine OL.popC rfl rfl rfl (POp.shift rfl rfl rfl rfl rfl (by omega) (rep_shr _ (by omega))) ?_
 refine OL.popC rfl rfl rfl (POp.arith rfl rfl rfl rfl rfl rfl (u64_is (n := 0) (by omega) (by omega))) ?_
 refine Oas ?_; refine S4 ?_; refine Omv ?_
 refine OL.popC rfl rfl rfl (POp.bits rfl rfl rfl rfl rfl (rep_and 0 (by omega))) ?_
 refine Oas ?_; refine S4 ?_; refine Omv ?_
 refine OL.popC rfl rfl rfl (POp.shift rfl rfl rfl rfl rfl (by omega) (rep_shr 0 (by omega))) ?_
 refine Oas ?_; refine S4 ?_; refine Omv ?_; refine Omv ?_; refine Omv ?_
 refine OL.popC rfl rfl rfl (POp.arith rfl rfl rfl rfl rfl rfl (u64_is (n := 0) (by omega) (by omega))) ?_
 refine OL.popC rfl rfl rfl (POp.arith rfl rfl rfl rfl rfl rfl (u64_is (n := 0) (by omega) (by omega))) ?_
 refine Oas ?_; refine S4 ?_; refine Omv ?_; refine Omv ?_
 refine OL.popC rfl rfl rfl (POp.arith rfl rfl rfl rfl rfl rfl (u64_is (n := 0) (by omega) (by omega))) ?_
 refine Omv ?_
 refine OL.popC rfl rfl rfl (POp.arith rfl rfl rfl rfl rfl rfl (u64_is (n := 0) (by omega) (by omega))) ?_
 refine Omv ?_
 refine OL.popC rfl rfl rfl (POp.shift rfl rfl rfl rfl rfl (by omega) (rep_shr 0 (by omega))) ?_
 refine OL.popC rfl rfl rfl (POp.arith rfl rfl rfl rfl rfl rfl (u64_is (n := 0) (by omega) (by omega))) ?_
 refine Oas ?_; refine S4 ?_; refine Omv ?_; refine Omv ?_
 refine OL.popC rfl rfl rfl (POp.arith rfl rfl rfl rfl rfl rfl (u64_is (n := n) (by omega) (by omega))) ?_
 refine Oas ?_; refine S3 ?_
 refine Done.retR (rs := [.tmp 4, .tmp 5]) (H' := H) rfl (.tmp rfl (.tmp rfl (.nil))) (AVleL.refl _) (by repeat (first | exact List.Sublist.refl _ | refine List.Sublist.cons _ ?_)) ?_
 exact ⟨by first | rfl | exact retI (by simp_all) | exact retB (by simp_all) | simp_all, rfl⟩
theorem mulU (n : Nat) (hn : n < 4294967296) : PCall Tryz.prog 226 [.val (.int .u64 ((1 : Nat) : Int)), .val (.int .u64 (n : Int))] (.tup [.val (.int .u64 0), .val (.int .u64 (n : Int))]) := by
 intro H
 refine ACall.mk' (n := 30) Tryz.func226 rfl (by kernel_rfl) rfl rfl (fun B I w0 => ?_)
 refine S2 ?_; refine Oas ?_; refine Oas ?_; refine S3 ?_
 refine CW.condKF ?_
 refine S4 ?_; refine Omv ?_; refine Omv ?_
 refine OL.popC rfl rfl rfl (POp.call (.mk' rfl rfl rfl rfl rfl) (mul64 n hn)) ?_
 refine Omv ?_; refine Oex ?_; refine Oex ?_; refine Oas ?_; refine Oas ?_; refine S4 ?_; refine Omv ?_; refine Omv ?_; refine Oas ?_; refine Oas ?_; refine S3 ?_
 refine Done.retR (rs := [.tmp 4, .tmp 5]) (H' := H) rfl (.tmp rfl (.tmp rfl (.nil))) (AVleL.refl _) (by repeat (first | exact List.Sublist.refl _ | refine List.Sublist.cons _ ?_)) ?_
 exact ⟨by first | rfl | exact retI (by simp_all) | exact retB (by simp_all) | simp_all, rfl⟩
theorem repeatI (n : Nat) (hn : 1 ≤ n ∧ n ≤ 1000000) (H : List Ent) : ACall Tryz.prog 196 [.sl 1 [[(.i (-1))]], .i n] H (fun y H' => ∃ nb, y = (.val (.slice (some ⟨nb, 0, none⟩) n n)) ∧ H' = .blk nb 3 (List.replicate n (.i (-1))) :: H) (fun _ _ => False) := by
 refine ACall.mk' (n := 48) Tryz.func196 rfl (by kernel_rfl) rfl rfl (fun B I w0 => ?_)
 refine S2 ?_; refine Oas ?_; refine S5 ?_; refine Omv ?_; refine Ocm ?_; refine S2 ?_
 refine CW.cond rfl (fun h0 => ?_) (fun h0 => ?_)
 ·
  simp at h0; omega
 ·
  replace h0 := nm h0
  refine S4 ?_; refine Omv ?_; refine Oln ?_
  refine OL.popC rfl rfl rfl (POp.cv rfl rfl rfl (u64_is (n := 1) rfl (by omega))) ?_
  refine Omv ?_
  refine OL.popC rfl rfl rfl (POp.cv rfl rfl rfl (u64_is (n := n) rfl (by omega))) ?_
  refine OL.popC rfl rfl rfl (POp.call (.mk' rfl rfl rfl rfl rfl) (mulU n (by omega))) ?_
  refine Omv ?_; refine Oex ?_; refine Oex ?_; refine Oas ?_; refine Oas ?_; refine S5 ?_; refine Omv ?_; refine Ocm ?_; refine Omv ?_; refine Pmv ?_; refine Pcm ?_; refine Opk ?_
  refine S2 ?_
  refine CW.cond rfl (fun h1 => ?_) (fun h1 => ?_)
  ·
   simp at h1; omega
  ·
   replace h1 := nm h1
   refine S4 ?_; refine Omv ?_
   refine OL.popC rfl rfl rfl (POp.cv rfl rfl rfl (wrap64 (n := (n : Int)) (by omega))) ?_
   refine OL.mkSlC (n) rfl rfl rfl rfl rfl rfl rfl rfl (rfl) (by omega) (by simp only [maxLen]; omega) (fun nb => ?_)
   refine Oas ?_; refine S4 ?_; refine Omv ?_; refine Omv ?_
   refine OL.copyC 1 rfl rfl rfl rfl rfl rfl (SlReads.sl (els := [[(.i (-1))]]) (by simp [Op.operands, Call.operands]) rfl rfl (AVle.refl _) (by simp)) rfl (by simp; omega) (by simp; omega) (.head _ _ _) ?_
   refine Oas ?_; refine S4 ?_
   refine CW.eqH (H' := .blk nb 3 (repC (.i (-1)) (.val (.int .i64 0)) 1 (n - 1)) :: H) (by rw [show (0 : Nat) + 1 * 1 = 1 from rfl, show 1 * 1 = 1 from rfl]; rw [← repC_first _ _ _ hn.1]; rfl) ?_
   refine lj (fun m st => ∃ j : Nat, st = ⟨[(8, .i j), (7, (.val (.slice (some ⟨nb, 0, none⟩) n n))), (0, .sl 1 [[(.i (-1))]])], .blk nb 3 (repC (.i (-1)) (.val (.int .i64 0)) j (n - j)) :: H⟩ ∧ m = n - j ∧ 1 ≤ j ∧ j ≤ n) (⟨1, rfl, rfl, by omega, by omega⟩) ?_
   rintro m _ ⟨j, rfl, rfl, hj1, hj⟩
   refine S3 ?_; refine Omv ?_; refine Omv ?_; refine Oln ?_; refine Ocm ?_; refine S2 ?_
   refine CW.cond rfl (fun h2 => ?_) (fun h2 => ?_)
   ·
    replace h2 := nm h2
    have hjn : j < n := by simpa using h2
    refine S3 ?_
    refine CW.dp mixed ?_
    refine DP.anyH [⟨7, 45, false⟩] (()) (fun (g : Unit) (vs : List (Option Value)) => match vs with | [none] => .blk nb 3 (repC (.i (-1)) (.val (.int .i64 0)) j (n - j)) :: H | [some _] => .blk nb 3 ((repC (.i (-1)) (.val (.int .i64 0)) j (n - j)).take (0 + j * 1) ++ (((repC (.i (-1)) (.val (.int .i64 0)) j (n - j)).drop (0 + 0 * 1)).take ((j - 0) * 1)).take (min j (n - j) * 1) ++ (repC (.i (-1)) (.val (.int .i64 0)) j (n - j)).drop (0 + j * 1 + min j (n - j) * 1)) :: H | _ => []) 0 8 48 rfl (by decide +kernel) (by decide +kernel) rfl rfl (by decide +kernel) rfl ?_
    refine UD.popG [[true], [false]] rfl (by decide +kernel) rfl rfl rfl ⟨fun g f => POp.move rfl rfl rfl, fun g f => POp.move rfl rfl rfl, trivial⟩ ?_
    refine UD.popG [[false]] rfl (by decide +kernel) rfl rfl rfl ⟨fun g f => POp.move rfl rfl rfl, trivial⟩ ?_
    refine UD.popG [[false]] rfl (by decide +kernel) rfl rfl rfl ⟨fun g f => POp.move rfl rfl rfl, trivial⟩ ?_
    refine UD.popG [[false]] rfl (by decide +kernel) rfl rfl rfl ⟨fun g f => POp.slC (kh := .i64) (l := j) (m := n) rfl rfl rfl rfl rfl rfl rfl (by omega) (by omega) (by omega), trivial⟩ ?_
    refine UD.popG [[false]] rfl (by decide +kernel) rfl rfl rfl ⟨fun g f => POp.move rfl rfl rfl, trivial⟩ ?_
    refine UD.popG [[false]] rfl (by decide +kernel) rfl rfl rfl ⟨fun g f => POp.move rfl rfl rfl, trivial⟩ ?_
    refine UD.popG [[false]] rfl (by decide +kernel) rfl rfl rfl ⟨fun g f => POp.slC (kl := .i64) (l := 0) (m := j) rfl rfl rfl rfl rfl rfl rfl (by omega) (by omega) (by omega), trivial⟩ ?_
    refine UD.effG 0 [[false]] rfl rfl rfl (by decide +kernel) rfl rfl rfl ⟨fun g f => FOk.copy () (min j (n - j)) rfl rfl rfl (SlReads.blk (by simp [Op.operands, Call.operands]) rfl rfl (.head _) (by rw [repC_len]; omega)) (by rw [Nat.zero_add, Nat.zero_mul, List.drop_zero, Nat.sub_zero, Nat.mul_one]; exact repC_one _ _ _ _ rfl rfl) (by omega) (by rw [repC_len]; omega) (fun v => .head _ _ _), trivial⟩ ?_
    refine UD.nil (fun g f => ?_)
    simp only [CE.vals, List.map_cons, List.map_nil, List.cons_append, List.nil_append]
    refine DP.tailC 8 (by decide +kernel) rfl ?_
    refine Oar ?_; refine Oas ?_; refine S2 ?_
    refine Done.eqH (H' := .blk nb 3 (repC (.i (-1)) (.val (.int .i64 0)) (j + min j (n - j)) (n - (j + min j (n - j)))) :: H) (by rw [Nat.zero_add, Nat.zero_add, Nat.zero_mul, Nat.mul_one, Nat.mul_one, Nat.mul_one, List.drop_zero, Nat.sub_zero, repC_step _ _ _ _ _ (by omega) (by omega), Nat.sub_sub]) ?_
    refine Done.le 8 (y := .i (j + min j (n - j) : Nat)) rfl (AVle.eqI (by omega)) ?_
    exact ag ⟨j + min j (n - j), rfl, rfl, by omega, by omega⟩
   ·
    replace h2 := nm h2
    obtain rfl : j = n := by simp at h2; omega
    refine S7 ?_; refine Omv ?_; refine Oas ?_; refine S3 ?_
    refine r1 4 (.blk nb 3 (repC (.i (-1)) (.val (.int .i64 0)) j (j - j)) :: H) ?_
    exact ⟨nb, by first | rfl | exact retI (by simp_all) | exact retB (by simp_all) | simp_all, by rw [Nat.sub_self, repC_all]⟩
instance : HasTa Tryz.prog 233 := ⟨by kernel_rfl⟩
instance : HasTa Tryz.prog 234 := ⟨by kernel_rfl⟩
abbrev outH (ob nb n : Nat) (o : List Int) : List Ent := [.blk ob 23 [(.val (.slice (some ⟨nb, 0, none⟩) n n))], .blk nb 3 ((o).map AV.i)]
theorem round_key {p : Prog} {next : Bool} {out : List Int} {x0 : Vis} {pre : List Vis} {x : Vis} (hd : x0.dp = 1) (h : pre ++ [x] <+: (visit p next 13 x0 out).1) :
  (okV p next x (outsV pre out) = true ∧ (pre ++ [x] = (visit p next 13 x0 out).1 → (visit p next 13 x0 out).2.isNone = false)) ∨ (okV p next x (outsV pre out) = false ∧ pre ++ [x] = (visit p next 13 x0 out).1 ∧ (visit p next 13 x0 out).2.isNone = true) := by
 have hv := visit_vp (p := p) (next := next) 13 x0 out (by omega)
 rcases Classical.em (pre ++ [x] = (visit p next 13 x0 out).1 ∧ (visit p next 13 x0 out).2 = none) with ⟨h1, h2⟩ | h1
 ·exact .inr ⟨hv.no pre x h1 h2, h1, by rw [h2]; rfl⟩
 ·refine .inl ⟨hv.yes pre x h h1, fun e => ?_⟩
  cases hr : (visit p next 13 x0 out).2 with
  | none => exact absurd ⟨e, hr⟩ h1
  | some o => rfl
theorem kind_arg {p : Prog} {x : Nd} {sz : Int} (h : kindOf x.op = some none) (hn : numP p x sz = true) : 0 ≤ x.n ∧ x.n < p.gens.length := by
 have h5 : x.op = 5 := by
  unfold kindOf at h
  repeat' split at h
  all_goals first | assumption | (simp at h; done)
 unfold numP mostP at hn
 rw [if_neg (by omega), if_neg (by omega), if_neg (by omega), if_neg (by omega), if_pos h5] at hn
 simpa using hn
theorem bodyS {p : Prog} {n : Nat} (hn : n = p.nodes.length) (k size : Int) (next : Bool) (hs : 0 ≤ size ∧ size ≤ 1000) (out : List Int) (ho : out.length = n) (hC0 : p.classes.length ≤ 100) (ob nb : Nat) (H : List Ent) :
  ACall Tryz.prog 197 [.i k, .i size, .b next, .ptr (progC p), .p ob 0] (outH ob nb n out ++ H) (fun _ H' => (visit p next 13 (⟨k, size, 1⟩ : Vis) out).2.isNone = false ∧ H' = outH ob nb n (outsV (visit p next 13 (⟨k, size, 1⟩ : Vis) out).1 out) ++ H) (fun y H' => y = unfA ∧ (visit p next 13 (⟨k, size, 1⟩ : Vis) out).2.isNone = true ∧ ∃ o', H' = outH ob nb n o' ++ H) := by
 refine ACall.mkF (n := 86) Tryz.func197 rfl (by kernel_rfl) rfl rfl (fun B I w0 => ?_)
 refine CWF.seq ?_
 refine CW.atF ?_
 refine S1 ?_; refine Obx ?_; refine S1 ?_
 refine CWF.done ?_
 refine CWF.seq ?_
 refine CW.atF ?_
 refine S1 ?_; refine Ola ?_; refine Omv ?_; refine Omv ?_; refine Obd ?_
 refine OL.popC rfl rfl rfl (POp.call (.mk' rfl rfl rfl rfl rfl) (below p (⟨k, size, 1⟩ : Vis))) ?_
 refine S1 ?_
 refine CWF.done ?_
 refine CWF.block ?_
 refine CWF.rangeFuncP Tryz.func197 (fun x => .i x.n) (plcA) ((visit p next 13 (⟨k, size, 1⟩ : Vis) out).1) ((visit p next 13 (⟨k, size, 1⟩ : Vis) out).2.isNone) (fun pre H => H = outH ob nb n (outsV pre out)) (fun y H => y = unfA ∧ ∃ o', H = outH ob nb n o') (outH ob nb n out) ([]) (H) (fun _ => True) (fun x => [(9, .ptr [.i x.sz, .i x.dp]), (8, .i x.n), (7, .ptr [.b next]), (3, .ptr (progC p)), (4, .p ob 0)]) rfl rfl rfl rfl rfl (below_seq B p next (⟨k, size, 1⟩ : Vis) out rfl (by show _ ≤ size ∧ size ≤ _; omega)) (rfl) (fun y H h => ⟨unfV, h.1.symm ▸ unf_c⟩) ?_ ?_ ?_ ?_
 ·intro l0 I1 w1 x Hy
  refine S2 ?_; refine Oas ?_; refine S3 ?_
  refine OL.alC rfl rfl rfl rfl (fun b0 => ?_)
  refine Sto ?_; refine S1 ?_
  refine Done.freezeP (d := 9) rfl (Del.head _ _) ?_
  exact fun a w s => ⟨_, rfl, s.weaken (envLe_get (by repeat (first | exact trivial | refine ⟨rfl, ?_⟩))) (List.Sublist.refl _)⟩
 ·intro l0 D0 lp pre x H1 Hy I1 w1 hpre hJ
  obtain rfl := hJ
  obtain ⟨C, hC⟩ : ∃ C, C = outsV pre out := ⟨_, rfl⟩
  have hCl : C.length = n := by rw [hC, outsV_len, ho]
  have hkey := round_key rfl hpre
  rw [← hC] at hkey ⊢
  have hsm := visit_small (p := p) (next := next) 13 (⟨k, size, 1⟩ : Vis) out (by rfl) (by unfold smallV; simp only []; omega) x (hpre.subset (by simp))
  unfold smallV at hsm
  refine S3 ?_; refine Omv ?_; refine Ocm ?_; refine Omv ?_; refine Pmv ?_; refine Pfa ?_; refine Pld ?_; refine Pln ?_; refine Pcm ?_; refine Opk ?_; refine Omv ?_; refine Pld ?_
  refine Pmv ?_
  refine OL.guardC rfl rfl rfl rfl rfl rfl (fun hg => POp.ixC rfl rfl (gd hg) rfl (gd hg) (by simp at hg; omega)) ?_
  refine OL.guardC rfl rfl rfl rfl rfl rfl (fun hg => (by first | exact POp.ld1 rfl rfl (gd hg) rfl | (apply POp.ld1H rfl rfl (gd hg); (case hm => exact .tail _ (.tail _ (.tail _ (.head _)))); (case hy => exact cellI_get (by simp at hg; omega))))) ?_
  refine Pcm ?_; refine Opk ?_; refine Omv ?_; refine Pfa ?_; refine Pld ?_; refine Pcm ?_; refine Opk ?_
  cases hpl : placeOk p x C
  ·
   refine OL.rcallN rfl rfl (.mk' rfl rfl rfl rfl rfl) (needF (by simp only [Bool.cond_false_right, ge_iff_le]; exact hpl) _) unf_c ?_
   rcases hkey with ⟨h1, _⟩ | ⟨_, h2, h3⟩
   ·rw [okV_no1 hpl] at h1; cases h1
   ·intro a w s
    exact Done.roundPP (J := fun pre H => H = outH ob nb n (outsV pre out)) (H := outH ob nb n (C)) (by repeat (first | exact List.Sublist.refl _ | refine List.Sublist.cons _ ?_)) unf_c h2 h3 ⟨rfl, _, rfl⟩ a w s
  ·
   refine OL.rcallS rfl rfl rfl (.mk' rfl rfl rfl rfl rfl) (needT (by simp only [Bool.cond_false_right, ge_iff_le]; exact hpl) _) ?_
   obtain ⟨hp0, hp1⟩ := placeOk_in hpl
   refine S4 ?_; refine Old ?_; refine Omv ?_; refine Ofa ?_; refine Old ?_
   refine OL.popC rfl rfl rfl (POp.ixC rfl rfl rfl rfl rfl (by omega)) ?_
   apply OL.stoC rfl rfl rfl rfl rfl rfl rfl rfl rfl rfl
   (case hu => repeat (first | exact Upd.head _ _ _ | apply Upd.tail)); (case hfit => exact Nat.ble_eq_true_of_le (by rw [List.length_map]; omega)); (case hds => exact cellI_set (by omega))
   refine S4 ?_; refine Ofa ?_; refine Old ?_; refine Omv ?_
   refine OL.popC rfl rfl rfl ((by first | exact POp.ixM rfl rfl rfl rfl rfl ⟨hp0, hp1⟩ | exact POp.ixI rfl rfl rfl rfl rfl ⟨hp0, hp1⟩)) ?_
   refine Ola ?_
   refine OL.alC rfl rfl rfl rfl (fun kb => ?_)
   refine Sto ?_; refine S4 ?_; refine Ola ?_; refine Ola ?_; refine Ofa ?_; refine Old ?_
   refine OL.popC rfl rfl rfl (POp.call (.mk' rfl rfl rfl rfl rfl) (number p hC0 (ndOf p x) x.sz)) ?_
   refine Omv ?_; refine Pld ?_; refine Pmv ?_; refine Pfa ?_; refine Pld ?_; refine Pcm ?_; refine Ppk ?_; refine Opk ?_
   cases hgd : (numP p (ndOf p x) x.sz && (next || (ndOf p x).op != 18))
   ·
    refine OL.rcallN rfl rfl (.mk' rfl rfl rfl rfl rfl) (needF (by simp only [Bool.cond_false_right, Bool.cond_true_left]; exact hgd) _) unf_c ?_
    rcases hkey with ⟨h1, _⟩ | ⟨_, h2, h3⟩
    ·rw [okV_no2 hgd] at h1; cases h1
    ·intro a w s
     exact Done.roundPP (J := fun pre H => H = outH ob nb n (outsV pre out)) (H := outH ob nb n (setV C x)) (by repeat (first | exact List.Sublist.refl _ | refine List.Sublist.cons _ ?_)) unf_c h2 h3 ⟨rfl, _, rfl⟩ a w s
   ·
    refine OL.rcallS rfl rfl rfl (.mk' rfl rfl rfl rfl rfl) (needT (by simp only [Bool.cond_false_right, Bool.cond_true_left]; exact hgd) _) ?_
    refine S4 ?_; refine Ofa ?_; refine Old ?_
    rcases hkd : kindOf (ndOf p x).op with _ | _ | kk
    ·
     refine OL.popC rfl rfl rfl (POp.call (.mk' rfl rfl rfl rfl rfl) (show PCall Tryz.prog 200 [.i (ndOf p x).op] (.val .nilIface) from by have h := kidsOf (ndOf p x).op; rw [hkd] at h; exact h)) ?_
     refine S5 ?_
     refine OL.popC rfl rfl rfl ((by first | exact POp.taYes rfl rfl rfl | exact POp.taNo rfl rfl rfl rfl | exact POp.taNil rfl rfl rfl)) ?_
     refine Oex ?_; refine Oex ?_
     refine OL.popC rfl rfl rfl ((by first | exact POp.taYes rfl rfl rfl | exact POp.taNo rfl rfl rfl rfl | exact POp.taNil rfl rfl rfl)) ?_
     refine Oex ?_; refine Oex ?_; refine Opk ?_; refine S2 ?_
     refine CW.cond rfl (fun h0 => ?_) (fun h0 => ?_)
     ·
      simp at h0
     ·
      replace h0 := nm h0
      refine S2 ?_; refine Oas ?_; refine S3 ?_
      ·
       refine OL.rcallN rfl rfl (.mk' rfl rfl rfl rfl rfl) (needF (rfl) _) unf_c ?_
       rcases hkey with ⟨h1, _⟩ | ⟨_, h2, h3⟩
       ·rw [okV_no3 hkd] at h1; cases h1
       ·intro a w s
        exact Done.roundPP (J := fun pre H => H = outH ob nb n (outsV pre out)) (H := outH ob nb n (setV C x)) (by repeat (first | exact List.Sublist.refl _ | refine List.Sublist.cons _ ?_)) unf_c h2 h3 ⟨rfl, _, rfl⟩ a w s
    ·
     refine OL.popC rfl rfl rfl (POp.call (.mk' rfl rfl rfl rfl rfl) (show PCall Tryz.prog 200 [.i (ndOf p x).op] (.iface 234 (.agg [])) from by have h := kidsOf (ndOf p x).op; rw [hkd] at h; exact h)) ?_
     have hok := okV_a hpl hgd hkd
     obtain ⟨hx0, hx1⟩ := kind_arg hkd (Bool.and_eq_true_iff.1 hgd).1
     refine S5 ?_
     refine OL.popC rfl rfl rfl ((by first | exact POp.taYes rfl rfl rfl | exact POp.taNo rfl rfl rfl rfl | exact POp.taNil rfl rfl rfl)) ?_
     refine Oex ?_; refine Oex ?_
     refine OL.popC rfl rfl rfl ((by first | exact POp.taYes rfl rfl rfl | exact POp.taNo rfl rfl rfl rfl | exact POp.taNil rfl rfl rfl)) ?_
     refine Oex ?_; refine Oex ?_; refine Opk ?_; refine S2 ?_
     refine CW.cond rfl (fun h1 => ?_) (fun h1 => ?_)
     ·
      replace h1 := nm h1
      refine S2 ?_; refine Oas ?_; refine S2 ?_
      refine CW.dp mixed ?_
      refine DP.anyC 0 7 86 rfl (by decide +kernel) rfl rfl (by decide +kernel) ?_
      refine Afa ?_; refine Ald ?_; refine Aln ?_; refine Amv ?_; refine Ala ?_; refine Ala ?_
      refine AD.popC rfl rfl rfl (by first | exact POp.call (.inv rfl rfl rfl (by kernel_rfl) rfl rfl) (argMany p (ndOf p x) hx0 hx1) | exact POp.call (.inv rfl rfl rfl (by kernel_rfl) rfl rfl) (soMany kk p (ndOf p x))) ?_
      refine AD.nil ?_
      refine DP.tailC 7 (by decide +kernel) rfl ?_
      refine Ocm ?_
      cases hbb : okV p next x C
      ·
       refine OL.rcallN rfl rfl (.mk' rfl rfl rfl rfl rfl) (needF (by rw [hok] at hbb; exact hbb) _) unf_c ?_
       rcases hkey with ⟨h1, _⟩ | ⟨_, h2, h3⟩
       ·rw [hbb] at h1; cases h1
       ·intro a w s
        exact Done.roundPP (J := fun pre H => H = outH ob nb n (outsV pre out)) (H := outH ob nb n (setV C x)) (by repeat (first | exact List.Sublist.refl _ | refine List.Sublist.cons _ ?_)) unf_c h2 h3 ⟨rfl, _, rfl⟩ a w s
      ·
       refine OL.rcallS rfl rfl rfl (.mk' rfl rfl rfl rfl rfl) (needT (by rw [hok] at hbb; exact hbb) _) ?_
       refine S3 ?_
       exact Done.roundNP (H := outH ob nb n (setV C x)) (by repeat (first | exact List.Sublist.refl _ | refine List.Sublist.cons _ ?_)) (by rcases hkey with ⟨_, h2⟩ | ⟨h1, _⟩; exact h2; rw [hbb] at h1; cases h1) (by rw [outsV_snoc, ← hC])
     ·
      simp at h1
    ·
     refine OL.popC rfl rfl rfl (POp.call (.mk' rfl rfl rfl rfl rfl) (show PCall Tryz.prog 200 [.i (ndOf p x).op] (.iface 233 (.i kk)) from by have h := kidsOf (ndOf p x).op; rw [hkd] at h; exact h)) ?_
     have hok := okV_k hpl hgd hkd
     refine S5 ?_
     refine OL.popC rfl rfl rfl ((by first | exact POp.taYes rfl rfl rfl | exact POp.taNo rfl rfl rfl rfl | exact POp.taNil rfl rfl rfl)) ?_
     refine Oex ?_; refine Oex ?_
     refine OL.popC rfl rfl rfl ((by first | exact POp.taYes rfl rfl rfl | exact POp.taNo rfl rfl rfl rfl | exact POp.taNil rfl rfl rfl)) ?_
     refine Oex ?_; refine Oex ?_; refine Opk ?_; refine S2 ?_
     refine CW.cond rfl (fun h2 => ?_) (fun h2 => ?_)
     ·
      replace h2 := nm h2
      refine S2 ?_; refine Oas ?_; refine S2 ?_
      refine CW.dp mixed ?_
      refine DP.anyC 0 7 86 rfl (by decide +kernel) rfl rfl (by decide +kernel) ?_
      refine Afa ?_; refine Ald ?_; refine Aln ?_; refine Amv ?_; refine Ala ?_; refine Ala ?_
      refine AD.popC rfl rfl rfl (by first | exact POp.call (.inv rfl rfl rfl (by kernel_rfl) rfl rfl) (argMany p (ndOf p x) hx0 hx1) | exact POp.call (.inv rfl rfl rfl (by kernel_rfl) rfl rfl) (soMany kk p (ndOf p x))) ?_
      refine AD.nil ?_
      refine DP.tailC 7 (by decide +kernel) rfl ?_
      refine Ocm ?_
      cases hbb : okV p next x C
      ·
       refine OL.rcallN rfl rfl (.mk' rfl rfl rfl rfl rfl) (needF (by rw [hok] at hbb; exact hbb) _) unf_c ?_
       rcases hkey with ⟨h1, _⟩ | ⟨_, h2, h3⟩
       ·rw [hbb] at h1; cases h1
       ·intro a w s
        exact Done.roundPP (J := fun pre H => H = outH ob nb n (outsV pre out)) (H := outH ob nb n (setV C x)) (by repeat (first | exact List.Sublist.refl _ | refine List.Sublist.cons _ ?_)) unf_c h2 h3 ⟨rfl, _, rfl⟩ a w s
      ·
       refine OL.rcallS rfl rfl rfl (.mk' rfl rfl rfl rfl rfl) (needT (by rw [hok] at hbb; exact hbb) _) ?_
       refine S3 ?_
       exact Done.roundNP (H := outH ob nb n (setV C x)) (by repeat (first | exact List.Sublist.refl _ | refine List.Sublist.cons _ ?_)) (by rcases hkey with ⟨_, h2⟩ | ⟨h1, _⟩; exact h2; rw [hbb] at h1; cases h1) (by rw [outsV_snoc, ← hC])
     ·
      simp at h2
 ·intro D0 H1 Hs1 hfl hHn hJ
  obtain rfl := hJ
  refine Done.subH (H' := .obj D0 (.deferred (some [])) :: (outH ob nb n (outsV (visit p next 13 (⟨k, size, 1⟩ : Vis) out).1 out) ++ H)) (.cons_cons _ (.append_left (List.sublist_append_right _ _) _)) ?_
  refine S1 ?_
  refine Done.retM1 (rs := []) (H' := outH ob nb n (outsV (visit p next 13 (⟨k, size, 1⟩ : Vis) out).1 out) ++ H) rfl (by repeat (first | exact Del.head _ _ | apply Del.tail)) (.nil) (AVleL.refl _) (by repeat (first | exact List.Sublist.refl _ | refine List.Sublist.cons _ ?_)) ?_
  exact ⟨hfl, rfl⟩
 ·intro D0 y H1 Hs1 hfl hJp I1 v1 a1 w1 hs1 hv1
  obtain ⟨rfl, o1, rfl⟩ := hJp
  rw [unf_c.is _ _ _ hv1]
  exact outM unf_c (Del.head _ _) (.append_left (List.sublist_append_right _ _) _) ⟨rfl, hfl, o1, rfl⟩ a1 w1 hs1
instance : HasMapI Tryz.prog 276 (3, 23) := ⟨by kernel_rfl, by kernel_rfl⟩
instance : HasZ Tryz.prog 23 (.slice none 0 0) := ⟨by kernel_rfl⟩
abbrev gphE (gb mb : Nat) (g : List (List Int)) (U : AV) : Ent := .blk gb 278 [AV.intss (parsOf g), U, .val (.map (some mb))]
theorem listsC {g : List (List Int)} (hg : fineP g = true) {c : Nat} (hc : c < 3 + g.length) {O : List (List Int)} {l : List (Int × AV)} (hO : OrdsOk O) (hOl : O.length = c) (hM : OrdMap l O) (gb mb : Nat) (U : AV) :
  PCallIn Tryz.prog [gphE gb mb g U, imapE mb l] 287 [.p gb 0, .i c] (.tup [AV.intss ((listsP O ((parsOf g).getD c default)).getD []), .b (listsP O ((parsOf g).getD c default)).isSome]) := by
 intro H hm
 refine ACall.mk' (n := 50) Tryz.func287 rfl (by kernel_rfl) rfl rfl (fun B I w0 => ?_)
 obtain ⟨ps, hps⟩ : ∃ ps, ps = ((parsOf g).getD c default) := ⟨_, rfl⟩
 have hpo := parsOf_ps hg c
 rw [← hps] at hpo ⊢
 have hgl := fineP_len hg
 refine S2 ?_; refine Oas ?_; refine Oas ?_; refine S4 ?_; refine Oas ?_; refine S5 ?_; refine Omv ?_; refine Onc ?_; refine Ofa ?_
 refine OL.popC rfl rfl rfl ((by first | exact POp.ld1 rfl rfl rfl rfl | (apply POp.ld1H rfl rfl rfl; (case hm => exact hm _ (.head _)); (case hy => rfl)))) ?_
 refine Omv ?_
 refine OL.popC rfl rfl rfl ((by first | exact POp.ixM rfl rfl rfl rfl rfl (by rw [parsOf_len]; exact hc) | exact POp.ixI rfl rfl rfl rfl rfl (by rw [parsOf_len]; exact hc))) ?_
 refine Old ?_; refine Oln ?_; refine Omv ?_; refine S3 ?_
 rw [show (parsOf g).getD c default = ps from hps.symm]
 have hp3 := hpo.1
 refine CW.ownNil 6 23 1 rfl ?_
 refine lj (fun m st => ∃ (i : Nat) (v : Value), st = ⟨[(17, .i i), (16, .i ps.length), (15, AV.ints ps), (0, .p gb 0), (1, .i c), (6, .as (AV.intss ((ps.take i).map (fun p => bareL (O.getD p.toNat [])))) v)], .own 23 1 v :: H⟩ ∧ m = ps.length - i ∧ i ≤ ps.length ∧ ∀ p ∈ ps.take i, O.getD p.toNat [] ≠ []) (⟨0, _, rfl, rfl, by omega, by simp⟩) ?_
 rintro m _ ⟨i, v, rfl, rfl, hi, hne⟩
 refine S2 ?_; refine Ocm ?_; refine S3 ?_
 refine CW.cond rfl (fun h0 => ?_) (fun h0 => ?_)
 ·
  replace h0 := nm h0
  have hil : i < ps.length := by omega
  obtain ⟨p, hp⟩ : ∃ p, p = ps.getD i default := ⟨_, rfl⟩
  have hpm : p ∈ ps := hp ▸ getD_memB hil
  have hpr := hpo.2 p hpm
  have hol := hO.len p.toNat
  refine S6 ?_
  refine OL.popC rfl rfl rfl ((by first | exact POp.ixM rfl rfl rfl rfl rfl hil | exact POp.ixI rfl rfl rfl rfl rfl hil)) ?_
  refine Old ?_; refine Oas ?_; refine S4 ?_
  rw [← hp]
  refine S1 ?_; refine Omv ?_; refine Onc ?_; refine Ofa ?_
  refine OL.popC rfl rfl rfl ((by first | exact POp.ld1 rfl rfl rfl rfl | (apply POp.ld1H rfl rfl rfl; (case hm => exact .tail _ (hm _ (.head _))); (case hy => rfl)))) ?_
  refine Omv ?_
  refine OL.popC rfl rfl rfl (POp.lookupI rfl rfl rfl rfl rfl (.tail _ (hm _ (.tail _ (.head _)))) hM.ok (by unfold smallKey; omega)) ?_
  refine OL.le 26 (y := AV.ints (O.getD p.toNat [])) rfl (hM.look p (by omega)) ?_
  refine Oln ?_; refine Ocm ?_; refine S2 ?_
  refine CW.cond rfl (fun h1 => ?_) (fun h1 => ?_)
  ·
   replace h1 := nm h1
   have he : O.getD p.toNat [] = [] := List.eq_nil_of_length_eq_zero (by omega)
   refine S2 ?_; refine Oas ?_; refine Oas ?_; refine S9 ?_
   refine Done.retR (rs := [.tmp 4, .tmp 5]) (H' := H) rfl (.tmp rfl (.tmp rfl (.nil))) (.cons (AVle.nil 1) (.cons (.refl _) .nil)) (by repeat (first | exact List.Sublist.refl _ | refine List.Sublist.cons _ ?_)) ?_
   exact ⟨by rw [lists_none hpm he]; rfl, rfl⟩
  ·
   replace h1 := nm h1
   have he : O.getD p.toNat [] ≠ [] := fun e => by rw [e] at h1; simp at h1
   refine S3 ?_; refine Omv ?_; refine Omv ?_; refine Onc ?_; refine Ofa ?_
   refine OL.popC rfl rfl rfl ((by first | exact POp.ld1 rfl rfl rfl rfl | (apply POp.ld1H rfl rfl rfl; (case hm => exact .tail _ (hm _ (.head _))); (case hy => rfl)))) ?_
   refine Omv ?_
   refine OL.popC rfl rfl rfl (POp.lookupI rfl rfl rfl rfl rfl (.tail _ (hm _ (.tail _ (.head _)))) hM.ok (by unfold smallKey; omega)) ?_
   refine OL.le 35 (y := AV.ints (O.getD p.toNat [])) rfl (hM.look p (by omega)) ?_
   refine OL.popC rfl rfl rfl (POp.call (.mk' rfl rfl rfl rfl rfl) (bareC _ (by omega))) ?_
   refine OL.popC (x := .sl 1 [[AV.ints (bareL (O.getD p.toNat []))]]) rfl rfl rfl (POp.row rfl rfl (by first | rfl | simp_all [strip]) rfl rfl rfl rfl rfl rfl) ?_
   refine OL.appendC rfl rfl rfl rfl rfl rfl rfl rfl (AVle.refl _) (rfl) (fun v => by repeat (first | exact Upd.head _ _ _ | apply Upd.tail)) (by simp only [List.length_map, List.length_take, List.length_singleton, List.length_cons, List.length_nil] at *; omega) (by simp only [List.length_map, List.length_take, List.length_singleton, List.length_cons, List.length_nil] at *; omega) (fun v38 => ?_)
   refine Oas ?_; refine S4 ?_; refine Oar ?_; refine Omv ?_; refine S1 ?_
   exact ag (⟨i + 1, v38, by rw [intss_snocF (fun p => bareL (O.getD p.toNat [])) ps hil, ← hp], rfl, hil, fun q hq => by rw [← take_getD hil, List.mem_append, List.mem_singleton, ← hp] at hq; rcases hq with hq | rfl; exact hne q hq; exact he⟩)
 ·
  replace h0 := nm h0
  obtain rfl : i = ps.length := by omega
  rw [List.take_length] at hne ⊢
  refine S7 ?_; refine Omv ?_; refine Omv ?_; refine Onc ?_; refine Ofa ?_
  refine OL.popC rfl rfl rfl ((by first | exact POp.ld1 rfl rfl rfl rfl | (apply POp.ld1H rfl rfl rfl; (case hm => exact .tail _ (hm _ (.head _))); (case hy => rfl)))) ?_
  refine Omv ?_
  refine OL.popC rfl rfl rfl ((by first | exact POp.ixM rfl rfl rfl rfl rfl (by rw [parsOf_len]; exact hc) | exact POp.ixI rfl rfl rfl rfl rfl (by rw [parsOf_len]; exact hc))) ?_
  refine Old ?_
  refine OL.popC (x := .sl 1 [[AV.ints ((parsOf g).getD c default)]]) rfl rfl rfl (POp.row rfl rfl (by first | rfl | simp_all [strip]) rfl rfl rfl rfl rfl rfl) ?_
  refine OL.appendC rfl rfl rfl rfl rfl rfl rfl rfl (AVle.refl _) (rfl) (fun v => by repeat (first | exact Upd.head _ _ _ | apply Upd.tail)) (by simp only [List.length_map, List.length_take, List.length_singleton, List.length_cons, List.length_nil] at *; omega) (by simp only [List.length_map, List.length_take, List.length_singleton, List.length_cons, List.length_nil] at *; omega) (fun v49 => ?_)
  refine Oas ?_; refine Oas ?_; refine S3 ?_
  refine Done.retR (rs := [.tmp 4, .tmp 5]) (H' := H) rfl (.tmp rfl (.tmp rfl (.nil))) (.cons (AVle.asL _ _) (.cons (.refl _) .nil)) (by repeat (first | exact List.Sublist.refl _ | refine List.Sublist.cons _ ?_)) ?_
  exact ⟨by rw [lists_some hne, ← hps]; show _ = AV.tup [AV.sl 1 (List.map _ (_ ++ _)), _]; rw [List.map_append]; rfl, rfl⟩
theorem orderC {g : List (List Int)} (hg : fineP g = true) {O : List (List Int)} (hc : O.length < 3 + g.length) {l : List (Int × AV)} (hO : OrdsOk O) (hM : OrdMap l O) (gb mb : Nat) (U : AV) (H : List Ent) :
  ACall Tryz.prog 272 [.p gb 0, .i O.length] (gphE gb mb g U :: imapE mb l :: H) (fun _ H' => ∃ l', OrdMap l' (O ++ [orderP O O.length ((parsOf g).getD O.length default)]) ∧ H' = gphE gb mb g U :: imapE mb l' :: H) (fun _ _ => False) := by
 refine ACall.mk' (n := 40) Tryz.func272 rfl (by kernel_rfl) rfl rfl (fun B I w0 => ?_)
 have hgl := fineP_len hg
 have hpo := parsOf_ps hg O.length
 have hol := (orderP_ok hO hpo).len
 refine S3 ?_; refine Omv ?_; refine Ocm ?_; refine S2 ?_
 refine CW.cond rfl (fun h0 => ?_) (fun h0 => ?_)
 ·
  replace h0 := nm h0
  have h0 : O.length = 0 := by omega
  refine S2 ?_; refine Omv ?_; refine Onc ?_; refine Ofa ?_; refine Old ?_
  refine OL.popC rfl rfl rfl (POp.row rfl rfl (by first | rfl | simp_all [strip]) rfl rfl rfl rfl rfl rfl) ?_
  refine OL.mapPut (u' := AV.ints [0]) rfl rfl (.inl rfl) rfl rfl rfl rfl rfl rfl (AVle.refl _) (.tail _ _ _ _ _ (.head _ _ _)) hM.ok (by unfold smallKey; omega) ?_
  refine S4 ?_
  refine Done.retR (rs := []) (H' := gphE gb mb g U :: imapE mb (putI l 0 (AV.ints [0])) :: H) rfl (.nil) (AVleL.refl _) (by repeat (first | exact List.Sublist.refl _ | refine List.Sublist.cons _ ?_)) ?_
  exact ⟨_, by rw [order_zero h0]; have := hM.put (x := [0]) (by simp) (by omega); rwa [h0] at this, rfl⟩
 ·
  replace h0 := nm h0
  have h0 : O.length ≠ 0 := by omega
  refine S3 ?_
  rcases hl : listsP O ((parsOf g).getD O.length default) with _ | all
  ·
   refine S1 ?_; refine Omv ?_; refine Omv ?_
   refine OL.popC rfl rfl rfl (POp.callIn (.mk' rfl rfl rfl rfl rfl) (AVleL.refl _) (by have h := listsC hg hc hO rfl hM gb mb U; rw [hl] at h; exact h) mem_two) ?_
   refine Omv ?_; refine Oex ?_; refine Oex ?_; refine Oas ?_; refine Oas ?_; refine S5 ?_; refine Omv ?_; refine Ont ?_; refine S2 ?_
   refine CW.cond rfl (fun h1 => ?_) (fun h1 => ?_)
   ·
    replace h1 := nm h1
    refine S2 ?_
    refine Done.retR (rs := []) (H' := gphE gb mb g U :: imapE mb l :: H) rfl (.nil) (AVleL.refl _) (by repeat (first | exact List.Sublist.refl _ | refine List.Sublist.cons _ ?_)) ?_
    exact ⟨l, by rw [order_none h0 hl]; exact hM.skip, rfl⟩
   ·
    simp at h1
  ·
   obtain ⟨ht1, ht2⟩ := lists_total hO hpo.1 hl
   refine S1 ?_; refine Omv ?_; refine Omv ?_
   refine OL.popC rfl rfl rfl (POp.callIn (.mk' rfl rfl rfl rfl rfl) (AVleL.refl _) (by have h := listsC hg hc hO rfl hM gb mb U; rw [hl] at h; exact h) mem_two) ?_
   refine Omv ?_; refine Oex ?_; refine Oex ?_; refine Oas ?_; refine Oas ?_; refine S5 ?_; refine Omv ?_; refine Ont ?_; refine S2 ?_
   refine CW.cond rfl (fun h2 => ?_) (fun h2 => ?_)
   ·
    simp at h2
   ·
    replace h2 := nm h2
    refine S4 ?_; refine Omv ?_
    refine OL.popC rfl rfl rfl (POp.call (.mk' rfl rfl rfl rfl rfl) (mergeC all (by omega) (by omega))) ?_
    refine Omv ?_; refine Oex ?_; refine Oex ?_; refine Oas ?_; refine Oas ?_; refine S4 ?_; refine Omv ?_; refine S2 ?_
    refine CW.cond rfl (fun h3 => ?_) (fun h3 => ?_)
    ·
     replace h3 := nm h3
     have h3 : (mergeP all).2 = true := h3
     rw [order_yes h0 hl h3] at hol
     simp only [List.length_cons, List.length_append, List.length_nil] at hol
     refine CW.dp mixed ?_
     refine DP.anyK (X := noX) [⟨6, 35, false⟩, ⟨8, 37, false⟩, ⟨10, 39, false⟩] (fun J => match J with | [some v, none, none] => .own 3 1 v :: gphE gb mb g U :: imapE mb l :: H | [_, some v, none] => .own 3 1 v :: gphE gb mb g U :: imapE mb l :: H | [_, _, some v] => .own 3 1 v :: gphE gb mb g U :: imapE mb l :: H | _ => gphE gb mb g U :: imapE mb l :: H) (fun q J => match q, J with | 0, [some v, _, _] => .as (.sl 1 [[AV.i (O.length : Int)]]) v | 1, [_, some v, _] => .as (.sl 1 ([[AV.i (O.length : Int)]] ++ ((mergeP all).1.map fun n => [AV.i n]))) v | 2, [_, _, some v] => .as (.sl 1 ([[AV.i (O.length : Int)]] ++ ((mergeP all).1.map fun n => [AV.i n]) ++ [[.i 0]])) v | _, _ => .any) 0 11 40 rfl (by decide +kernel) (by decide +kernel) rfl rfl (by decide +kernel) rfl (fun _ _ _ _ _ _ _ _ _ h => h.elim) ?_
     refine UD.popK [[true, true, true], [true, true, false], [true, false, false], [false, false, false]] rfl (by decide +kernel) rfl rfl rfl ⟨fun f => POp.move rfl rfl rfl, fun f => POp.move rfl rfl rfl, fun f => POp.move rfl rfl rfl, fun f => POp.move rfl rfl rfl, trivial⟩ ?_
     refine UD.popK [[true, true, true], [true, true, false], [true, false, false], [false, false, false]] rfl (by decide +kernel) rfl rfl rfl ⟨fun f => (by first | exact POp.nilCheck rfl rfl rfl | exact POp.nilCheckP rfl rfl rfl | exact POp.nilCheckF rfl rfl rfl), fun f => (by first | exact POp.nilCheck rfl rfl rfl | exact POp.nilCheckP rfl rfl rfl | exact POp.nilCheckF rfl rfl rfl), fun f => (by first | exact POp.nilCheck rfl rfl rfl | exact POp.nilCheckP rfl rfl rfl | exact POp.nilCheckF rfl rfl rfl), fun f => (by first | exact POp.nilCheck rfl rfl rfl | exact POp.nilCheckP rfl rfl rfl | exact POp.nilCheckF rfl rfl rfl), trivial⟩ ?_
     refine UD.popK [[true, true, true], [true, true, false], [true, false, false], [false, false, false]] rfl (by decide +kernel) rfl rfl rfl ⟨fun f => (by first | exact POp.fa rfl rfl rfl rfl | exact POp.faP rfl rfl rfl rfl), fun f => (by first | exact POp.fa rfl rfl rfl rfl | exact POp.faP rfl rfl rfl rfl), fun f => (by first | exact POp.fa rfl rfl rfl rfl | exact POp.faP rfl rfl rfl rfl), fun f => (by first | exact POp.fa rfl rfl rfl rfl | exact POp.faP rfl rfl rfl rfl), trivial⟩ ?_
     refine UD.popK [[true, true, true], [true, true, false], [true, false, false], [false, false, false]] rfl (by decide +kernel) rfl rfl rfl ⟨fun f => (by first | exact POp.ld1 rfl rfl rfl rfl | (apply POp.ld1H rfl rfl rfl; (case hm => repeat (first | exact .head _ | refine .tail _ ?_)); (case hy => rfl))), fun f => (by first | exact POp.ld1 rfl rfl rfl rfl | (apply POp.ld1H rfl rfl rfl; (case hm => repeat (first | exact .head _ | refine .tail _ ?_)); (case hy => rfl))), fun f => (by first | exact POp.ld1 rfl rfl rfl rfl | (apply POp.ld1H rfl rfl rfl; (case hm => repeat (first | exact .head _ | refine .tail _ ?_)); (case hy => rfl))), fun f => (by first | exact POp.ld1 rfl rfl rfl rfl | (apply POp.ld1H rfl rfl rfl; (case hm => repeat (first | exact .head _ | refine .tail _ ?_)); (case hy => rfl))), trivial⟩ ?_
     refine UD.popK [[true, true, true], [true, true, false], [true, false, false], [false, false, false]] rfl (by decide +kernel) rfl rfl rfl ⟨fun f => POp.move rfl rfl rfl, fun f => POp.move rfl rfl rfl, fun f => POp.move rfl rfl rfl, fun f => POp.move rfl rfl rfl, trivial⟩ ?_
     refine UD.popK [[false, false, false]] rfl (by decide +kernel) rfl rfl rfl ⟨fun f => POp.move rfl rfl rfl, trivial⟩ ?_
     refine UD.effK 0 [[false, false, false]] rfl rfl rfl (by decide +kernel) rfl rfl rfl ⟨fun f => ⟨KOk.rowOwn rfl rfl rfl rfl rfl rfl rfl rfl rfl (fun _ => rfl) (fun _ => rfl), (by intro v q hq; rcases q with _ | _ | _ | _ | _ | _ | q <;> first | rfl | (cases hq))⟩, trivial⟩ ?_
     refine UD.popK [[true, false, false], [false, false, false]] rfl (by decide +kernel) rfl rfl rfl ⟨fun f => POp.move rfl rfl rfl, fun f => POp.move rfl rfl rfl, trivial⟩ ?_
     refine UD.effK 1 [[true, false, false]] rfl rfl rfl (by decide +kernel) rfl rfl rfl ⟨fun f => ⟨KOk.own rfl rfl rfl (AVle.refl _) rfl rfl (AVle.refl _) (one_ints _) (by simp; omega) (by simp; omega) (fun _ => .head _ _ _) (fun _ => rfl), (by intro v q hq; rcases q with _ | _ | _ | _ | _ | _ | q <;> first | rfl | (cases hq))⟩, trivial⟩ ?_
     refine UD.popK [[true, true, false], [true, false, false], [false, false, false]] rfl (by decide +kernel) rfl rfl rfl ⟨fun f => POp.row rfl rfl (by first | rfl | simp_all [strip]) rfl rfl rfl rfl rfl rfl, fun f => POp.row rfl rfl (by first | rfl | simp_all [strip]) rfl rfl rfl rfl rfl rfl, fun f => POp.row rfl rfl (by first | rfl | simp_all [strip]) rfl rfl rfl rfl rfl rfl, trivial⟩ ?_
     refine UD.effK 2 [[true, true, false]] rfl rfl rfl (by decide +kernel) rfl rfl rfl ⟨fun f => ⟨KOk.own (news := [[.i 0]]) rfl rfl rfl (AVle.refl _) rfl rfl (AVle.refl _) rfl (by simp; omega) (by simp; omega) (fun _ => .head _ _ _) (fun _ => rfl), (by intro v q hq; rcases q with _ | _ | _ | _ | _ | _ | q <;> first | rfl | (cases hq))⟩, trivial⟩ ?_
     refine UD.nil (fun f => ?_)
     simp only [kvals, List.map_cons, List.map_nil, List.cons_append, List.nil_append]
     refine DP.tailC 11 (by decide +kernel) rfl ?_
     refine OL.le 39 (y := AV.ints ((O.length : Int) :: ((mergeP all).1 ++ [0]))) rfl (by rw [ord_cells]; exact AVle.asL _ _) ?_
     refine OL.mapPut rfl rfl (.inl rfl) rfl rfl rfl rfl rfl rfl (AVle.refl _) (.tail _ _ _ _ _ (.tail _ _ _ _ _ (.head _ _ _))) hM.ok (by unfold smallKey; omega) ?_
     refine S1 ?_
     refine Done.norR (rs := []) (H' := gphE gb mb g U :: imapE mb (putI l O.length (AV.ints ((O.length : Int) :: ((mergeP all).1 ++ [0])))) :: H) rfl (.nil) (AVleL.refl _) (by repeat (first | exact List.Sublist.refl _ | refine List.Sublist.cons _ ?_)) ?_
     exact ⟨_, by rw [order_yes h0 hl h3]; exact hM.put (by simp) (by omega), rfl⟩
    ·
     replace h3 := nm h3
     have h3 : (mergeP all).2 = false := h3
     refine S1 ?_
     refine Done.norR (rs := []) (H' := gphE gb mb g U :: imapE mb l :: H) rfl (.nil) (AVleL.refl _) (by repeat (first | exact List.Sublist.refl _ | refine List.Sublist.cons _ ?_)) ?_
     exact ⟨l, by rw [order_no h0 hl h3]; exact hM.skip, rfl⟩
instance : HasMk Tryz.prog 149 (23, 24, .slice none 0 0) := ⟨by kernel_rfl⟩
theorem openT {g : List (List Int)} (hg : fineP g = true) {cs : List Int} (hcs : ∀ c ∈ cs, 0 ≤ c ∧ c < 3 + g.length) (hcl : cs.length ≤ 1000000) (H : List Ent) : ACall Tryz.prog 247 [AV.intss g, AV.ints cs] H
  (fun y H' => ∃ gb mb l U, y = .tup [.p gb 0, .b true] ∧ OrdMap l (ordersP g) ∧ H' = gphE gb mb g U :: imapE mb l :: H) (fun _ _ => False) := by
 refine ACall.mk' (n := 104) Tryz.func247 rfl (by kernel_rfl) rfl rfl (fun B I w0 => ?_)
 have hgl := fineP_len hg
 refine S2 ?_; refine Oas ?_; refine Oas ?_; refine S5 ?_; refine Omv ?_
 refine OL.popC rfl rfl rfl (POp.call (.mk' rfl rfl rfl rfl rfl) (fine g)) ?_
 refine Ont ?_; refine S2 ?_
 refine CW.cond rfl (fun h0 => ?_) (fun h0 => ?_)
 ·
  simp [hg] at h0
 ·
  replace h0 := nm h0
  refine S5 ?_; refine Omv ?_; refine Oln ?_; refine Omv ?_; refine S3 ?_
  refine lj (fun m st => ∃ i : Nat, st = ⟨[(20, .i i), (19, .i cs.length), (18, AV.ints cs), (0, AV.intss g)], H⟩ ∧ m = cs.length - i ∧ i ≤ cs.length) (⟨0, rfl, rfl, by omega⟩) ?_
  rintro m _ ⟨i, rfl, rfl, hi⟩
  refine S2 ?_; refine Ocm ?_; refine S3 ?_
  refine CW.cond rfl (fun h1 => ?_) (fun h1 => ?_)
  ·
   replace h1 := nm h1
   have hil : i < cs.length := by omega
   have hc := hcs _ (getD_memB hil)
   refine S6 ?_
   refine OL.popC rfl rfl rfl ((by first | exact POp.ixM rfl rfl rfl rfl rfl hil | exact POp.ixI rfl rfl rfl rfl rfl hil)) ?_
   refine Old ?_; refine Oas ?_; refine S4 ?_; refine Omv ?_; refine Ocm ?_; refine Omv ?_; refine Pmv ?_; refine Pmv ?_; refine Pln ?_; refine Par ?_; refine Pcm ?_; refine Opk ?_
   refine S2 ?_
   refine CW.cond rfl (fun h2 => ?_) (fun h2 => ?_)
   ·
    rw [Bool.cond_true_left] at h2; simp only [Bool.or_eq_true, decide_eq_true_eq] at h2; omega
   ·
    replace h2 := nm h2
    refine S4 ?_; refine Oar ?_; refine Omv ?_; refine S1 ?_
    exact ag (⟨i + 1, rfl, rfl, hil⟩)
  ·
   replace h1 := nm h1
   refine S7 ?_; refine Omv ?_; refine Oln ?_; refine Oar ?_
   refine OL.mkSlL 3 (3 + g.length) rfl rfl rfl rfl rfl rfl rfl rfl rfl (by simp) (by omega) (by omega) (by simp only [maxLen]; omega) (fun pb => ?_)
   refine OL.mkMap rfl rfl rfl rfl (fun mb => ?_)
   refine Obd ?_
   refine OL.boxC rfl rfl rfl rfl rfl rfl rfl (fun gb => ?_)
   refine Oas ?_; refine S4 ?_; refine Omv ?_; refine Omv ?_; refine Onc ?_; refine Ofa ?_; refine Old ?_; refine Omv ?_
   refine OL.appendRoomX (news := gRows g) rfl rfl rfl rfl rfl rfl rfl rfl (AVle.refl _) (by rw [List.length_map]; omega) (one_intss g) (by rw [gRows_flat, List.length_replicate]; omega) (.tail _ _ _ _ _ (.tail _ _ _ _ _ (.head _ _ _))) ?_
   refine OL.eqH (H' := .blk gb 278 [.val (.slice (some ⟨pb, 0, none⟩) 3 (3 + g.length)), .val (.slice none 0 0), .val (.map (some mb))] :: imapE mb [] :: .blk pb 23 ((nilRows ++ gRows g).flatten ++ []) :: H) (by rw [← rows_cells g _ rfl]; rfl) ?_
   refine OL.freezeS (k := 1) (d := 47) rfl (.tail _ _ _ _ (.tail _ _ _ _ (.head _ _))) (by simp; omega) (fun e he => ?_) (by rw [List.length_map]; omega) (by simp only [maxLen]; omega) ?_
   ·rcases List.mem_append.1 he with h | h
    ·simp at h; rw [h]; rfl
    ·obtain ⟨y, _, rfl⟩ := List.mem_map.1 h; rfl
   refine OL.le 47 (y := AV.intss (parsOf g)) rfl (rows_le g) ?_
   refine Onc ?_; refine Ofa ?_; refine Sto ?_; refine S5 ?_; refine Omv ?_; refine Onc ?_; refine Ofa ?_; refine Old ?_; refine Oln ?_; refine Omv ?_; refine S3 ?_
   refine CW.ownNilB (b := gb) (t := 278) 303 1 1 (by repeat (first | exact Upd.head _ _ _ | apply Upd.tail)) rfl rfl ?_
   refine CW.le 54 (y := .i ((3 + g.length : Nat) : Int)) rfl (AVle.eqI (by rw [parsOf_len])) ?_
   refine lj (fun m st => ∃ (i : Nat) (us : List Nat) (v : Value), st = ⟨[(55, .i i), (54, .i ((3 + g.length : Nat) : Int)), (53, AV.intss (parsOf g)), (8, .p gb 0)], .own 303 1 v :: gphE gb mb g (.as (AV.sets us) v) :: imapE mb [] :: H⟩ ∧ m = (3 + g.length) - i ∧ i ≤ (3 + g.length) ∧ us.length = i ∧ ∀ x ∈ us, x < 18446744073709551616) (⟨0, [], _, rfl, rfl, by omega, rfl, by simp⟩) ?_
   rintro m _ ⟨i, us, v, rfl, rfl, hi, hus, hu64⟩
   refine S2 ?_; refine Ocm ?_; refine S3 ?_
   refine CW.cond rfl (fun h3 => ?_) (fun h3 => ?_)
   ·
    replace h3 := nm h3
    have hil : i < 3 + g.length := by omega
    obtain ⟨ps, hps⟩ : ∃ ps, ps = (parsOf g).getD i default := ⟨_, rfl⟩
    have hpo := parsOf_ps hg i
    rw [← hps] at hpo
    have hp3 := hpo.1
    refine S6 ?_; refine Omv ?_
    refine OL.popC rfl rfl rfl ((by first | exact POp.ixM rfl rfl rfl rfl rfl (by rw [parsOf_len]; exact hil) | exact POp.ixI rfl rfl rfl rfl rfl (by rw [parsOf_len]; exact hil))) ?_
    refine Old ?_; refine Oas ?_; refine Oas ?_; refine S3 ?_
    rw [← hps]
    refine S1 ?_; refine Obd ?_; refine Omv ?_
    refine OL.popC rfl rfl rfl (POp.call (.mk' rfl rfl rfl rfl rfl) (lsWith 0 i (by omega) (by omega))) ?_
    refine OL.popC rfl rfl rfl (POp.call (.mk' rfl rfl rfl rfl rfl) (lsWith _ 0 (by omega) (or64 (by omega) (pow64 (by omega))))) ?_
    refine OL.alC rfl rfl rfl rfl (fun sb => ?_)
    refine Sto ?_; refine S5 ?_; refine Omv ?_; refine Oln ?_; refine Omv ?_; refine S3 ?_
    obtain ⟨s0, hs0⟩ : ∃ s0, s0 = 0 ||| 2 ^ (i : Int).toNat ||| 2 ^ (0 : Int).toNat := ⟨_, rfl⟩
    have hs64 : s0 < 18446744073709551616 := hs0 ▸ or64 (or64 (by omega) (pow64 (by omega))) (by decide)
    refine lj (fun m st => ∃ (j s : Nat), st = ⟨[(66, .i j), (65, .i ps.length), (64, AV.ints ps), (11, .p sb 0), (55, .i i), (54, .i ((3 + g.length : Nat) : Int)), (53, AV.intss (parsOf g)), (8, .p gb 0)], .blk sb 303 [AV.set s] :: .own 303 1 v :: gphE gb mb g (.as (AV.sets us) v) :: imapE mb [] :: H⟩ ∧ m = ps.length - j ∧ j ≤ ps.length ∧ s < 18446744073709551616) (⟨0, s0, by rw [hs0], rfl, by omega, hs64⟩) ?_
    rintro m _ ⟨j, s, rfl, rfl, hj, hs⟩
    refine S2 ?_; refine Ocm ?_; refine S3 ?_
    refine CW.cond rfl (fun h4 => ?_) (fun h4 => ?_)
    ·
     replace h4 := nm h4
     have hjl : j < ps.length := by omega
     have hpm := hpo.2 _ (getD_memB hjl)
     refine S6 ?_
     refine OL.popC rfl rfl rfl ((by first | exact POp.ixM rfl rfl rfl rfl rfl hjl | exact POp.ixI rfl rfl rfl rfl rfl hjl)) ?_
     refine Old ?_; refine Oas ?_; refine S2 ?_
     refine CW.dp mixed ?_
     refine DP.anyC 0 8 104 rfl (by decide +kernel) rfl rfl (by decide +kernel) ?_
     refine Ala ?_; refine Amv ?_; refine Anc ?_; refine Afa ?_; refine Ald ?_; refine Amv ?_
     refine AD.popC rfl rfl rfl (POp.leC 74 rfl (AVle.asL _ _) (POp.ixI rfl rfl rfl rfl rfl (by omega))) ?_
     refine Ala ?_
     refine AD.nil ?_
     refine DP.tailC 8 (by decide +kernel) rfl ?_
     refine OL.popC rfl rfl rfl (POp.call (.mk' rfl rfl rfl rfl rfl) (lsOr s _ hs (lt_get hu64 _))) ?_
     refine Sto ?_; refine S4 ?_; refine Oar ?_; refine Omv ?_; refine S1 ?_
     exact ag (⟨j + 1, s ||| us.getD (ps.getD j default).toNat default, rfl, rfl, hjl, or64 hs (lt_get hu64 _)⟩)
    ·
     replace h4 := nm h4
     refine S5 ?_
     refine CW.dp mixed ?_
     refine DP.anyK (X := noX) [⟨7, 87, false⟩] (fun J => match J with | [some v2] => .blk sb 303 [AV.set s] :: .own 303 1 v2 :: gphE gb mb g (.as (AV.sets us) v) :: imapE mb [] :: H | _ => .blk sb 303 [AV.set s] :: .own 303 1 v :: gphE gb mb g (.as (AV.sets us) v) :: imapE mb [] :: H) (fun q J => match q, J with | 0, [some v2] => .as (.sl 1 ((us.map fun s => [AV.set s]) ++ [[AV.set s]])) v2 | _, _ => .any) 0 8 104 rfl (by decide +kernel) (by decide +kernel) rfl rfl (by decide +kernel) rfl (fun _ _ _ _ _ _ _ _ _ h => h.elim) ?_
     refine UD.popK [[true], [false]] rfl (by decide +kernel) rfl rfl rfl ⟨fun f => POp.move rfl rfl rfl, fun f => POp.move rfl rfl rfl, trivial⟩ ?_
     refine UD.popK [[false]] rfl (by decide +kernel) rfl rfl rfl ⟨fun f => POp.move rfl rfl rfl, trivial⟩ ?_
     refine UD.popK [[false]] rfl (by decide +kernel) rfl rfl rfl ⟨fun f => (by first | exact POp.nilCheck rfl rfl rfl | exact POp.nilCheckP rfl rfl rfl | exact POp.nilCheckF rfl rfl rfl), trivial⟩ ?_
     refine UD.popK [[false]] rfl (by decide +kernel) rfl rfl rfl ⟨fun f => (by first | exact POp.fa rfl rfl rfl rfl | exact POp.faP rfl rfl rfl rfl), trivial⟩ ?_
     refine UD.popK [[false]] rfl (by decide +kernel) rfl rfl rfl ⟨fun f => (by first | exact POp.ld1 rfl rfl rfl rfl | (apply POp.ld1H rfl rfl rfl; (case hm => repeat (first | exact .head _ | refine .tail _ ?_)); (case hy => rfl))), trivial⟩ ?_
     refine UD.popK [[false]] rfl (by decide +kernel) rfl rfl rfl ⟨fun f => (by first | exact POp.ldA rfl rfl rfl rfl | (apply POp.ldAH rfl rfl rfl; (case hm => repeat (first | exact .head _ | refine .tail _ ?_)); (case hy => rfl); (case hn => rfl))), trivial⟩ ?_
     refine UD.popK [[false]] rfl (by decide +kernel) rfl rfl rfl ⟨fun f => POp.row rfl rfl (by first | rfl | simp_all [strip]) rfl rfl rfl rfl rfl rfl, trivial⟩ ?_
     refine UD.effK 0 [[false]] rfl rfl rfl (by decide +kernel) rfl rfl rfl ⟨fun f => ⟨KOk.own (news := [[AV.set s]]) rfl rfl rfl (AVle.refl _) rfl rfl (AVle.refl _) rfl (by simp; omega) (by simp; omega) (fun _ => .tail _ _ _ _ _ (.head _ _ _)) (fun _ => rfl), (by intro v q hq; rcases q with _ | _ | _ | _ | _ | _ | q <;> first | rfl | (cases hq))⟩, trivial⟩ ?_
     refine UD.nil (fun f => ?_)
     simp only [kvals, List.map_cons, List.map_nil, List.cons_append, List.nil_append]
     refine DP.tailC 8 (by decide +kernel) rfl ?_
     refine Onc ?_; refine Ofa ?_; refine Sto ?_; refine S4 ?_; refine Oar ?_; refine Omv ?_; refine S1 ?_
     rw [sets_snoc]
     exact ag ⟨i + 1, us ++ [s], f 87, rfl, rfl, hil, by rw [List.length_append, hus]; rfl, fun x hx => by rcases List.mem_append.1 hx with h | h; exact hu64 x h; simp at h; rw [h]; exact hs⟩
   ·
    replace h3 := nm h3
    refine S8 ?_; refine Omv ?_; refine Onc ?_; refine Ofa ?_; refine Old ?_; refine Oln ?_; refine Omv ?_; refine S3 ?_
    refine CW.subH (H' := gphE gb mb g (.as (AV.sets us) v) :: imapE mb [] :: H) (.cons _ (.refl _)) ?_
    obtain ⟨U, hU⟩ : ∃ U : AV, U = .as (AV.sets us) v := ⟨_, rfl⟩
    rw [← hU]
    refine CW.le 95 (y := .i ((3 + g.length : Nat) : Int)) rfl (AVle.eqI (by rw [parsOf_len])) ?_
    refine lj (fun m st => ∃ (i : Nat) (l : List (Int × AV)), st = ⟨[(96, .i i), (95, .i ((3 + g.length : Nat) : Int)), (8, .p gb 0)], gphE gb mb g U :: imapE mb l :: H⟩ ∧ m = (3 + g.length) - i ∧ i ≤ (3 + g.length) ∧ OrdMap l (ordT g i)) (⟨0, [], rfl, rfl, by omega, .nil⟩) ?_
    rintro m _ ⟨i, l, rfl, rfl, hi, hM⟩
    refine S2 ?_; refine Ocm ?_; refine S3 ?_
    refine CW.cond rfl (fun h5 => ?_) (fun h5 => ?_)
    ·
     replace h5 := nm h5
     have hil : i < 3 + g.length := by omega
     refine S6 ?_; refine Omv ?_; refine Oas ?_; refine S3 ?_; refine Omv ?_; refine Omv ?_
     refine OL.bcallC rfl rfl rfl (.mk' rfl rfl rfl rfl rfl) (by have h := orderC hg (O := ordT g i) (by rw [ordT_len (by omega)]; exact hil) (ordT_ok hg i (by omega)) hM gb mb U H; rw [ordT_len (by omega)] at h; exact h.b) ?_
     ·
      rintro y H1 ⟨l', hM', rfl⟩
      rw [← ordT_succ' hil] at hM'
      refine S4 ?_; refine Oar ?_; refine Omv ?_; refine S1 ?_
      exact ag (⟨i + 1, l', rfl, rfl, hil, hM'⟩)
    ·
     replace h5 := nm h5
     obtain rfl : i = 3 + g.length := by omega
     rw [ordT_all] at hM
     refine S7 ?_; refine Omv ?_; refine Oas ?_; refine Oas ?_; refine S3 ?_
     refine Done.retR (rs := [.tmp 4, .tmp 5]) (H' := gphE gb mb g U :: imapE mb l :: H) rfl (.tmp rfl (.tmp rfl (.nil))) (AVleL.refl _) (by repeat (first | exact List.Sublist.refl _ | refine List.Sublist.cons _ ?_)) ?_
     exact ⟨gb, mb, l, U, by first | rfl | exact retI (by simp_all) | exact retB (by simp_all) | simp_all, hM, rfl⟩
theorem linT {g : List (List Int)} (hg : fineP g = true) {c : Int} (hc : 0 ≤ c ∧ c < 3 + g.length) : PCall Tryz.prog 224 [AV.intss g, .i c] (.tup [AV.ints (linP g c), .i (if (linP g c).isEmpty then 7 else 0)]) := by
 intro H
 refine ACall.mk' (n := 32) Tryz.func224 rfl (by kernel_rfl) rfl rfl (fun B I w0 => ?_)
 have hgl := fineP_len hg
 have hll : (linP g c).length ≤ 1000 := by
  have h1 := (ordT_ok hg (3 + g.length) (Nat.le_refl _)).len c.toNat
  rw [ordT_len (Nat.le_refl _), ordT_all] at h1
  show ((ordersP g).getD c.toNat []).length ≤ 1000
  omega
 refine S2 ?_; refine Oas ?_; refine Oas ?_; refine S4 ?_; refine Omv ?_; refine Omv ?_
 refine OL.popC rfl rfl rfl (POp.row rfl rfl (by first | rfl | simp_all [strip]) rfl rfl rfl rfl rfl rfl) ?_
 refine OL.bcallC rfl rfl rfl (.mk' rfl rfl rfl rfl rfl) ((openT hg (cs := [c]) (fun x hx => by simp at hx; rw [hx]; exact hc) (by simp) H).b) ?_
 ·
  rintro _ _ ⟨gb, mb, l, U, rfl, hM, rfl⟩
  refine Omv ?_; refine Oex ?_; refine Oex ?_; refine Oas ?_; refine Oas ?_; refine S5 ?_; refine Omv ?_; refine Ont ?_; refine S2 ?_
  refine CW.cond rfl (fun h0 => ?_) (fun h0 => ?_)
  ·
   simp at h0
  ·
   replace h0 := nm h0
   refine S5 ?_; refine Omv ?_; refine Onc ?_; refine Ofa ?_; refine Old ?_; refine Omv ?_
   refine OL.popC rfl rfl rfl (POp.lookupI rfl rfl rfl rfl rfl (.tail _ (.head _)) hM.ok (by unfold smallKey; omega)) ?_
   refine OL.le 22 (y := AV.ints (linP g c)) rfl (hM.look c (by omega)) ?_
   refine Oln ?_; refine Ocm ?_; refine S2 ?_
   refine CW.cond rfl (fun h1 => ?_) (fun h1 => ?_)
   ·
    replace h1 := nm h1
    have he : linP g c = [] := List.eq_nil_of_length_eq_zero (by omega)
    refine S2 ?_; refine Oas ?_; refine Oas ?_; refine S4 ?_
    refine Done.retR (rs := [.tmp 4, .tmp 5]) (H' := H) rfl (.tmp rfl (.tmp rfl (.nil))) (.cons (AVle.nil 1) (.cons (.refl _) .nil)) (by repeat (first | exact List.Sublist.refl _ | refine List.Sublist.cons _ ?_)) ?_
    exact ⟨by rw [he]; rfl, rfl⟩
   ·
    replace h1 := nm h1
    have he : linP g c ≠ [] := fun e => by rw [e] at h1; simp at h1
    refine S4 ?_; refine Omv ?_; refine Onc ?_; refine Ofa ?_; refine Old ?_; refine Omv ?_
    refine OL.popC rfl rfl rfl (POp.lookupI rfl rfl rfl rfl rfl (.tail _ (.head _)) hM.ok (by unfold smallKey; omega)) ?_
    refine OL.le 30 (y := AV.ints (linP g c)) rfl (hM.look c (by omega)) ?_
    refine OL.popC rfl rfl rfl (POp.call (.mk' rfl rfl rfl rfl rfl) (cloneI _ (by omega))) ?_
    refine Oas ?_; refine Oas ?_; refine S3 ?_
    refine Done.retR (rs := [.tmp 4, .tmp 5]) (H' := H) rfl (.tmp rfl (.tmp rfl (.nil))) (AVleL.refl _) (by repeat (first | exact List.Sublist.refl _ | refine List.Sublist.cons _ ?_)) ?_
    exact ⟨by cases hl : linP g c with
 | nil => exact absurd hl he
 | cons a r => rfl, rfl⟩
section
open Go.Shelf Go.Sort
def ren189 : Ren := { f := fun x => match x with | 125 => 233 | 128 => 261 | 129 => 262 | 189 => 211 | 215 => 284 | 216 => 258 | 257 => 232 | 294 => 252 | 295 => 253 | 296 => 254 | 297 => 255 | 298 => 256 | 299 => 257 | 300 => 259 | 301 => 260 | 328 => 279 | 329 => 280 | 330 => 281 | 331 => 282 | 332 => 283 | 343 => 298 | n => n, t := fun x => match x with | 0 => 0 | 3 => 3 | 4 => 4 | 5 => 5 | 9 => 9 | 28 => 23 | 46 => 212 | 51 => 279 | 53 => 282 | 131 => 244 | 182 => 288 | 183 => 289 | 218 => 314 | 222 => 220 | 228 => 325 | 229 => 326 | n => n, g := fun x => x }
theorem lays189 : Lays.n189 Tryz.prog ren189 where
 mixed := by kernel_rfl
 f125 := Tryz.func233.trans (congrArg some (by kernel_rfl))
 f128 := Tryz.func261.trans (congrArg some (by kernel_rfl))
 f129 := Tryz.func262.trans (congrArg some (by kernel_rfl))
 f189 := Tryz.func211.trans (congrArg some (by kernel_rfl))
 f215 := Tryz.func284.trans (congrArg some (by kernel_rfl))
 f216 := Tryz.func258.trans (congrArg some (by kernel_rfl))
 f257 := Tryz.func232.trans (congrArg some (by kernel_rfl))
 f294 := Tryz.func252.trans (congrArg some (by kernel_rfl))
 f295 := Tryz.func253.trans (congrArg some (by kernel_rfl))
 f296 := Tryz.func254.trans (congrArg some (by kernel_rfl))
 f297 := Tryz.func255.trans (congrArg some (by kernel_rfl))
 f298 := Tryz.func256.trans (congrArg some (by kernel_rfl))
 f299 := Tryz.func257.trans (congrArg some (by kernel_rfl))
 f300 := Tryz.func259.trans (congrArg some (by kernel_rfl))
 f301 := Tryz.func260.trans (congrArg some (by kernel_rfl))
 f328 := Tryz.func279.trans (congrArg some (by kernel_rfl))
 f329 := Tryz.func280.trans (congrArg some (by kernel_rfl))
 f330 := Tryz.func281.trans (congrArg some (by kernel_rfl))
 f331 := Tryz.func282.trans (congrArg some (by kernel_rfl))
 f332 := Tryz.func283.trans (congrArg some (by kernel_rfl))
 f343 := Tryz.func298.trans (congrArg some (by kernel_rfl))
 t0 := Tryz.underlying0
 a0 := Tryz.isAgg0
 z0 := Tryz.sizeOf0
 v0 := Tryz.zeroValue0
 t3 := Tryz.underlying3
 a3 := Tryz.isAgg3
 z3 := Tryz.sizeOf3
 v3 := Tryz.zeroValue3
 t4 := Tryz.underlying4
 a4 := Tryz.isAgg4
 z4 := Tryz.sizeOf4
 v4 := Tryz.zeroValue4
 t5 := Tryz.underlying5
 a5 := Tryz.isAgg5
 z5 := Tryz.sizeOf5
 v5 := Tryz.zeroValue5
 t9 := Tryz.underlying9
 a9 := Tryz.isAgg9
 z9 := Tryz.sizeOf9
 v9 := Tryz.zeroValue9
 t28 := Tryz.underlying23
 a28 := Tryz.isAgg23
 z28 := Tryz.sizeOf23
 v28 := Tryz.zeroValue23
 t46 := Tryz.underlying212
 a46 := Tryz.isAgg212
 z46 := Tryz.sizeOf212
 v46 := Tryz.zeroValue212
 t51 := Tryz.underlying279
 a51 := Tryz.isAgg279
 z51 := Tryz.sizeOf279
 v51 := Tryz.zeroValue279
 t53 := Tryz.underlying282
 a53 := Tryz.isAgg282
 z53 := Tryz.sizeOf282
 v53 := Tryz.zeroValue282
 t131 := Tryz.underlying244
 a131 := Tryz.isAgg244
 z131 := Tryz.sizeOf244
 v131 := Tryz.zeroValue244
 t182 := Tryz.underlying288
 a182 := Tryz.isAgg288
 z182 := Tryz.sizeOf288
 v182 := Tryz.zeroValue288
 t183 := Tryz.underlying289
 a183 := Tryz.isAgg289
 z183 := Tryz.sizeOf289
 v183 := Tryz.zeroValue289
 t218 := Tryz.underlying314
 a218 := Tryz.isAgg314
 z218 := Tryz.sizeOf314
 v218 := Tryz.zeroValue314
 t222 := Tryz.underlying220
 a222 := Tryz.isAgg220
 z222 := Tryz.sizeOf220
 v222 := Tryz.zeroValue220
 t228 := Tryz.underlying325
 a228 := Tryz.isAgg325
 z228 := Tryz.sizeOf325
 v228 := Tryz.zeroValue325
 t229 := Tryz.underlying326
 a229 := Tryz.isAgg326
 z229 := Tryz.sizeOf326
 v229 := Tryz.zeroValue326
theorem intEls_flat (l : List Int) : (intEls l).flatten = (l.map (Value.int .i64)).map .val := by
 induction l with
 | nil => rfl
 | cons x r ih => simp only [intEls, List.map_cons, List.flatten_cons] at ih ⊢; rw [ih]; rfl
theorem sortC (B : Nat) (v : Value) (l : List Int) (hl : l.length ≤ 1000000) (Hx : List Ent) : BCall B Tryz.prog 211 [.val v] (rowE v l :: Hx) (fun y H' => y = .tup [] ∧ H' = rowE v (sortI l) :: Hx) (fun _ _ => False) := by
 refine ⟨by kernel_rfl, fun I w vs hw hh hv => ?_⟩
 obtain ⟨u, rfl⟩ : ∃ u, vs = [u] := by cases hv with | cons _ u _ _ _ ht => cases ht; exact ⟨u, rfl⟩
 have hu : u = v := by cases hv with | cons _ u _ _ hx _ => exact rel_val hx
 subst hu
 obtain ⟨xs, hrow, hrx, hni⟩ := hh.ok _ (.head _)
 have hxs : xs = l.map (Value.int .i64) := by
  rw [intEls_flat] at hrx
  exact rel_vals hrx
 subst hxs
 rcases hrow.2 with ⟨rfl, hn⟩ | ⟨g, cap, cur, rfl, hBg, hg, hnc, hcm, hcs, htk⟩
 ·have : l = [] := by cases l with | nil => rfl | cons x r => simp [intEls] at hn
  subst this
  refine (Any.slices_Sort_int_none lays189 none 0 w).mono fun e w' ⟨he, hw'⟩ => ?_
  subst hw'
  exact ⟨I, _, hw, Ext.refl _ _ _, hh, .inl ⟨_, _, he, .tup _ _ .nil, rfl, by simp [sortI]⟩⟩
 ·have hlen : (intEls l).length = l.length := by simp [intEls]
  rw [hlen] at hnc htk
  rw [Nat.mul_one] at htk
  have hlen2 : (sortI l).length = l.length := List.length_mergeSort _
  refine ((hlen ▸ Any.slices_Sort_int lays189 g 0 cap l w (holds_of_blockI hg htk) (Array.getElem?_eq_some_iff.1 hg).1 (by omega) : Calls Tryz.prog 211 #[.slice (some ⟨g, 0, none⟩) (intEls l).length cap] w _)).mono fun e w' ⟨he, n, os, hw'⟩ => ?_
  have e3 : w.grownBy w' (some g) := by subst hw'; exact grownBy_sortedI _
  have e2 : w'.ownsRow B 3 1 (.slice (some ⟨g, 0, none⟩) l.length cap) l.length ((sortI l).map (Value.int .i64)) := by
   subst hw'; exact ownsRow_sortedI (ss := l) hlen2 hBg hg hnc hcm hcs
  have hbel : Go.RowKit.Below B w w' := (Go.RowKit.Below.refl B w).grown e3 hw.base (fun j hj => by cases hj; exact hBg)
  have hcell : ∀ b i, I b i → w'.cell? ⟨b, i, none⟩ = w.cell? ⟨b, i, none⟩ := fun b i hI =>
   World.cell?_of_block (a := ⟨b, i, none⟩) (e3.block b (hw.lt hI) (fun e => by cases e; exact hni _ rfl i hI))
  have hkk : Keeps I w I w' := ⟨fun _ _ x => x, hcell⟩
  refine ⟨I, rowE (.slice (some ⟨g, 0, none⟩) (intEls l).length cap) (sortI l) :: Hx, ⟨Nat.le_trans hw.base hbel.size, fun b o hI => by rw [hcell b o hI]; exact hw.there b o hI⟩, ⟨hkk.imm, hkk.cell, hbel⟩, ?_, .inl ⟨_, _, he, .tup _ _ .nil, rfl, rfl⟩⟩
  refine hh.upd (.head _ _ _) hkk (fun b hlt hne => e3.block b hlt (fun e => hne (by cases e; rfl))) (fun b o hx => .inl hx) ⟨(sortI l).map (Value.int .i64), ?_, ?_, hni⟩ (fun b hb => .inl hb)
  ·rw [hlen, show (intEls (sortI l)).length = l.length by simp [intEls, hlen2]]; exact e2
  ·rw [intEls_flat]; exact relL_val _
end
instance : HasMapI Tryz.prog 245 (3, 4) := ⟨by kernel_rfl, by kernel_rfl⟩
instance : HasZ Tryz.prog 4 (.bool false) := ⟨by kernel_rfl⟩
theorem hasC (p : Prog) (hc : p.classes.length ≤ 100) (hsl : ∀ c ∈ p.classes, c.slots.length ≤ 1000) (hpa : ∀ c ∈ p.classes, ∀ x ∈ c.parents, smallKey x) {k : Int} (hk : smallKey k) (hk2 : k < 3 + p.classes.length) : PCall Tryz.prog 173 [AV.prog p, .i k] (AV.ints (hasP p k)) := by
 intro H
 refine ACall.mk' (n := 49) Tryz.func173 rfl (by kernel_rfl) rfl rfl (fun B I w0 => ?_)
 refine S2 ?_; refine Obx ?_; refine Oas ?_; refine S4 ?_
 refine OL.mkMap rfl rfl rfl rfl (fun mb => ?_)
 refine Omv ?_
 refine OL.mapPut (l := []) (u' := .b true) rfl rfl (.inr rfl) rfl rfl rfl rfl rfl rfl (AVle.refl _) (.head _ _ _) .nil hk ?_
 refine Omv ?_; refine Oas ?_; refine S4 ?_; refine Oas ?_; refine S5 ?_; refine Omv ?_; refine Oas ?_; refine S3 ?_
 refine CW.rowNil 3 1 ?_
 have hk1 : -9223372036854775808 ≤ k := hk.1
 refine lj (fun m st => ∃ (c : Int) (out : List Int) (v : Value) (l : List (Int × AV)) (S : List Int), st = ⟨[(7, .i c), (6, .val v), (5, .val (.map (some mb))), (2, .ptr (progC p))], rowE v out :: imapE mb l :: H⟩ ∧ m = (c - 2).toNat ∧ (c ≤ k ∧ (c = k ∨ 2 ≤ c)) ∧ MapSet l S ∧ hasN p (c - 2).toNat S out = hasN p (k - 2).toNat [k] [] ∧ out.length + 1000 * (c - 2).toNat ≤ 1000 * (k - 2).toNat) (⟨k, [], _, _, [k], rfl, rfl, ⟨Int.le_refl _, .inl rfl⟩, MapSet.nil.put hk, rfl, by simp⟩) ?_
 rintro m _ ⟨c, out, v, l, S, rfl, rfl, hck, hS, hN, hlen⟩
 refine S3 ?_; refine Omv ?_; refine Ocm ?_; refine S2 ?_
 refine CW.cond rfl (fun h0 => ?_) (fun h0 => ?_)
 ·
  replace h0 := nm h0
  have hc3 : 3 ≤ c := by omega
  obtain ⟨n, hn⟩ : ∃ n : Nat, c = n + 3 := ⟨(c - 3).toNat, by omega⟩
  have hil : (c - 3).toNat < p.classes.length := by omega
  have hsl1 := hsl _ (getD_memB hil)
  have hpa1 := hpa _ (getD_memB hil)
  refine S6 ?_; refine Omv ?_; refine Omv ?_
  refine OL.popC rfl rfl rfl (POp.lookupI rfl rfl rfl rfl rfl (.tail _ (.head _)) hS.ok (by unfold smallKey; omega)) ?_
  refine S2 ?_
  refine CW.le 20 (y := .b (S.contains c)) rfl (hS.look c) ?_
  refine CW.cond rfl (fun h1 => ?_) (fun h1 => ?_)
  ·
   replace h1 := nm h1
   refine S2 ?_; refine Omv ?_; refine Ofa ?_; refine Old ?_; refine Omv ?_; refine Oar ?_; refine Oix ?_; refine Ofa ?_; refine Old ?_
   refine OL.appendRowAny (intEls (p.classes.getD (c - 3).toNat default).slots) rfl rfl rfl rfl rfl rfl rfl rfl (AVle.refl _) (one_ints _) (fun v => .head _ _ _) (by simp only [intEls_len]; omega) (by simp only [intEls_len]; omega) (fun v29 => ?_)
   refine Oas ?_; refine S3 ?_
   refine CW.eqH (H' := rowE v29 (out ++ (p.classes.getD (c - 3).toNat default).slots) :: imapE mb l :: H) (congrArg (· :: _) (rowE_append _ _ _)) ?_
   refine S1 ?_; refine Ofa ?_; refine Old ?_; refine Omv ?_; refine Oar ?_; refine Oix ?_; refine Ofa ?_; refine Old ?_; refine Oln ?_; refine Omv ?_; refine S3 ?_
   refine CW.boundM (t := 36) rfl (fun hb36 => ?_)
   refine lj (fun m st => ∃ (j : Nat) (l' : List (Int × AV)), st = ⟨[(38, .i j), (37, .i (p.classes.getD (c - 3).toNat default).parents.length), (36, AV.ints (p.classes.getD (c - 3).toNat default).parents), (7, .i c), (6, .val v29), (5, .val (.map (some mb))), (2, .ptr (progC p))], rowE v29 (out ++ (p.classes.getD (c - 3).toNat default).slots) :: imapE mb l' :: H⟩ ∧ m = (p.classes.getD (c - 3).toNat default).parents.length - j ∧ j ≤ (p.classes.getD (c - 3).toNat default).parents.length ∧ MapSet l' (S ++ (p.classes.getD (c - 3).toNat default).parents.take j)) (⟨0, l, rfl, rfl, by omega, by simpa using hS⟩) ?_
   rintro m _ ⟨j, l', rfl, rfl, hj, hS'⟩
   refine S2 ?_; refine Ocm ?_; refine S3 ?_
   refine CW.cond rfl (fun h2 => ?_) (fun h2 => ?_)
   ·
    replace h2 := nm h2
    have hjl : j < (p.classes.getD (c - 3).toNat default).parents.length := by omega
    refine S6 ?_
    refine OL.popC rfl rfl rfl ((by first | exact POp.ixM rfl rfl rfl rfl rfl hjl | exact POp.ixI rfl rfl rfl rfl rfl hjl)) ?_
    refine Old ?_; refine Oas ?_; refine S3 ?_; refine Omv ?_; refine Omv ?_
    refine OL.mapPut (u' := .b true) rfl rfl (.inl rfl) rfl rfl rfl rfl rfl rfl (AVle.refl _) (.tail _ _ _ _ _ (.head _ _ _)) hS'.ok (hpa1 _ (getD_memB hjl)) ?_
    refine S4 ?_; refine Oar ?_; refine Omv ?_; refine S1 ?_
    exact ag (⟨j + 1, _, rfl, rfl, hjl, by rw [← take_getD hjl, ← List.append_assoc]; exact hS'.put (hpa1 _ (getD_memB hjl))⟩)
   ·
    replace h2 := nm h2
    obtain rfl : j = (p.classes.getD (c - 3).toNat default).parents.length := by omega
    rw [List.take_length] at hS'
    refine S7 ?_; refine Omv ?_; refine Oar ?_; refine Oas ?_; refine S1 ?_
    exact ag (⟨c - 1, out ++ (p.classes.getD (c - 3).toNat default).slots, v29, l', S ++ (p.classes.getD (c - 3).toNat default).parents, rfl, rfl, ⟨by omega, .inr (by omega)⟩, hS', by rw [← hN, hasN_in hn h1], by rw [List.length_append]; omega⟩)
  ·
   replace h1 := nm h1
   refine S4 ?_; refine Omv ?_; refine Oar ?_; refine Oas ?_; refine S1 ?_
   exact ag (⟨c - 1, out, v, l, S, rfl, rfl, ⟨by omega, .inr (by omega)⟩, hS, by rw [← hN, hasN_out hn h1], by omega⟩)
 ·
  replace h0 := nm h0
  have hc3 : c ≤ 2 := by omega
  rw [show (c - 2).toNat = 0 by omega] at hN
  have hout : out = hasN p (k - 2).toNat [k] [] := hN
  refine S7 ?_; refine Omv ?_
  refine OL.bcallC rfl rfl rfl (.mk' rfl rfl rfl rfl rfl) (sortC B v out (by omega) _) ?_
  rintro y H1 ⟨rfl, rfl⟩
  refine S3 ?_
  refine CW.freezeRow (d := 6) (els := intEls (sortI out)) rfl (.head _ _) (fun e he => by obtain ⟨y, _, rfl⟩ := List.mem_map.1 he; rfl) ?_
  refine S1 ?_; refine Omv ?_
  refine OL.popC rfl rfl rfl (POp.call (.mk' rfl rfl rfl rfl rfl) (clipI _)) ?_
  refine Oas ?_; refine S3 ?_
  refine r1 4 (H) ?_
  exact ⟨by rw [hout]; rfl, rfl⟩
theorem classesC {p : Prog} (hp : p.Small) (H : List Ent) : ACall Tryz.prog 194 [AV.prog p] H (fun _ H' => classesP p = true ∧ H' = H) (fun y H' => y = unfA ∧ classesP p = false ∧ H' = H) := by
 refine ACall.mk' (n := 112) Tryz.func194 rfl (by kernel_rfl) rfl rfl (fun B I w0 => ?_)
 have hpc := hp.classes
 have hpp := hp.parents
 refine S2 ?_; refine Obx ?_; refine S4 ?_; refine Ofa ?_; refine Old ?_; refine Oln ?_; refine Ocm ?_
 rcases bool_or (decide (p.classes.length ≤ 10)) with hlen | hlen
 ·
  refine OL.rcallN rfl rfl (.mk' rfl rfl rfl rfl rfl) (needF (by rw [← hlen]; by_cases h : p.classes.length ≤ 10 <;> simp [h] <;> omega) _) unf_c ?_
  intro a w s
  exact outP (P := Tryz.prog) (fn := Tryz.f194) unf_c (by repeat (first | exact List.Sublist.refl _ | refine List.Sublist.cons _ ?_)) ⟨rfl, cls_no1 hlen, rfl⟩ a w s
 ·
  refine OL.rcallS rfl rfl rfl (.mk' rfl rfl rfl rfl rfl) (needT (by simp at hlen; simp; omega) _) ?_
  have hlen := of_decide_eq_true hlen
  refine S4 ?_; refine Oas ?_; refine S5 ?_; refine Ofa ?_; refine Old ?_; refine Oln ?_; refine Omv ?_; refine S3 ?_
  refine lj (fun m st => ∃ i : Nat, st = ⟨[(24, .i i), (23, .i p.classes.length), (22, .sl 3 (p.classes.map clsA)), (2, .i (slotsCnt (p.classes.take i))), (1, .ptr (progC p))], H⟩ ∧ m = p.classes.length - i ∧ i ≤ p.classes.length ∧ slotsA (p.classes.take i) 0 = true) (⟨0, rfl, rfl, by omega, rfl⟩) ?_
  rintro m _ ⟨i, rfl, rfl, hi, hA⟩
  refine S2 ?_; refine Ocm ?_; refine S3 ?_
  refine CW.cond rfl (fun h0 => ?_) (fun h0 => ?_)
  ·
   replace h0 := nm h0
   have hil : i < p.classes.length := by omega
   have hcm := getD_memB hil
   have hcnt := slotsA_cnt _ _ hA
   rw [List.length_take] at hcnt
   refine S6 ?_
   refine OL.popC rfl rfl rfl ((by first | exact POp.ixM rfl rfl rfl rfl rfl hil | exact POp.ixI rfl rfl rfl rfl rfl hil)) ?_
   refine Ola ?_
   refine OL.alC rfl rfl rfl rfl (fun b0 => ?_)
   refine Sto ?_; refine S4 ?_; refine Ofa ?_; refine Old ?_; refine Oln ?_; refine Ocm ?_
   rcases bool_or (decide ((p.classes.getD i default).slots.length ≤ 4)) with h4 | h4
   ·
    refine OL.rcallN rfl rfl (.mk' rfl rfl rfl rfl rfl) (needF (by simp at h4; simp; omega) _) unf_c ?_
    intro a w s
    exact outP (P := Tryz.prog) (fn := Tryz.f194) unf_c (by repeat (first | exact List.Sublist.refl _ | refine List.Sublist.cons _ ?_)) ⟨rfl, cls_no2 hil (by rw [h4]; rfl), rfl⟩ a w s
   ·
    refine OL.rcallS rfl rfl rfl (.mk' rfl rfl rfl rfl rfl) (needT (by simp at h4; simp; omega) _) ?_
    refine S4 ?_; refine Ofa ?_; refine Old ?_; refine Oln ?_; refine Omv ?_; refine S3 ?_
    refine CW.boundM (t := 34) rfl (fun hb34 => ?_)
    have h44 := of_decide_eq_true h4
    refine lj (fun m st => ∃ j : Nat, st = ⟨[(36, .i j), (35, .i (p.classes.getD i default).slots.length), (34, AV.ints (p.classes.getD i default).slots), (24, .i i), (23, .i p.classes.length), (22, .sl 3 (p.classes.map clsA)), (2, .i ((slotsCnt (p.classes.take i)) + j : Nat)), (1, .ptr (progC p))], H⟩ ∧ m = (p.classes.getD i default).slots.length - j ∧ j ≤ (p.classes.getD i default).slots.length ∧ slots1 ((p.classes.getD i default).slots.take j) (slotsCnt (p.classes.take i)) = true) (⟨0, rfl, rfl, by omega, rfl⟩) ?_
    rintro m _ ⟨j, rfl, rfl, hj, hs1⟩
    refine S2 ?_; refine Ocm ?_; refine S3 ?_
    refine CW.cond rfl (fun h1 => ?_) (fun h1 => ?_)
    ·
     replace h1 := nm h1
     have hjl : j < (p.classes.getD i default).slots.length := by omega
     refine S6 ?_
     refine OL.popC rfl rfl rfl ((by first | exact POp.ixM rfl rfl rfl rfl rfl hjl | exact POp.ixI rfl rfl rfl rfl rfl hjl)) ?_
     refine Old ?_; refine Oas ?_; refine S4 ?_; refine Omv ?_; refine Omv ?_; refine Ocm ?_
     rcases bool_or (((p.classes.getD i default).slots.getD j default == (((slotsCnt (p.classes.take i)) + j : Nat) : Int))) with he | he
     ·
      refine OL.rcallN rfl rfl (.mk' rfl rfl rfl rfl rfl) (needF (he) _) unf_c ?_
      intro a w s
      exact outP (P := Tryz.prog) (fn := Tryz.f194) unf_c (by repeat (first | exact List.Sublist.refl _ | refine List.Sublist.cons _ ?_)) ⟨rfl, cls_no3 hil hjl he, rfl⟩ a w s
     ·
      refine OL.rcallS rfl rfl rfl (.mk' rfl rfl rfl rfl rfl) (needT (he) _) ?_
      refine S3 ?_; refine Omv ?_; refine Oar ?_; refine Oas ?_; refine S4 ?_; refine Oar ?_; refine Omv ?_; refine S1 ?_
      exact ag (⟨j + 1, by rfl, rfl, hjl, by rw [slots1_take _ _ _ hjl, hs1, he]; rfl⟩)
    ·
     replace h1 := nm h1
     obtain rfl : j = (p.classes.getD i default).slots.length := by omega
     rw [List.take_length] at hs1
     refine S7 ?_; refine Oar ?_; refine Omv ?_; refine S1 ?_
     exact ag (⟨i + 1, by rw [slotsCnt_take hil], rfl, hil, by rw [slotsA_take _ _ _ hil, hA, h4, Nat.zero_add, hs1]; rfl⟩)
  ·
   replace h0 := nm h0
   obtain rfl : i = p.classes.length := by omega
   rw [List.take_length] at hA ⊢
   refine S7 ?_; refine Ola ?_
   refine OL.popC rfl rfl rfl (POp.call (.mk' rfl rfl rfl rfl rfl) (graph p (by omega) hpp)) ?_
   refine Oas ?_; refine S4 ?_; refine Omv ?_; refine Ofa ?_; refine Old ?_; refine Ocm ?_; refine Omv ?_; refine Pmv ?_
   refine OL.guardC rfl rfl rfl rfl rfl rfl (fun hg => POp.call (.mk' rfl rfl rfl rfl (by first | rfl | ((repeat (first | exact hg | rfl | refine Bool.and_eq_true_iff.2 ⟨?_, ?_⟩)); done) | simp_all [strip, constAV])) (lineCheck (graphP p))) ?_
   refine Pcm ?_; refine Opk ?_
   rcases bool_or ((((slotsCnt p.classes : Int) == p.slots) && fineP (graphP p))) with hf | hf
   ·
    refine OL.rcallN rfl rfl (.mk' rfl rfl rfl rfl rfl) (needF (by revert hf; cases fineP (graphP p) <;> cases ((slotsCnt p.classes : Int) == p.slots) <;> simp) _) unf_c ?_
    intro a w s
    exact outP (P := Tryz.prog) (fn := Tryz.f194) unf_c (by repeat (first | exact List.Sublist.refl _ | refine List.Sublist.cons _ ?_)) ⟨rfl, cls_no4 hf, rfl⟩ a w s
   ·
    refine OL.rcallS rfl rfl rfl (.mk' rfl rfl rfl rfl rfl) (needT (by revert hf; cases fineP (graphP p) <;> cases ((slotsCnt p.classes : Int) == p.slots) <;> simp) _) ?_
    rw [Bool.and_eq_true] at hf
    obtain ⟨hf1, hfine⟩ := hf
    obtain ⟨_, hpk⟩ := graph_fine hfine
    have hsm := slotsA_mem _ _ hA
    have hgl : (graphP p).length = p.classes.length := by simp [graphP]
    refine S4 ?_; refine Ofa ?_; refine Old ?_; refine Oln ?_; refine Omv ?_; refine S3 ?_
    refine lj (fun m st => ∃ i : Nat, st = ⟨[(63, .i i), (62, .i p.classes.length), (61, .sl 3 (p.classes.map clsA)), (7, AV.intss (graphP p)), (1, .ptr (progC p))], H⟩ ∧ m = p.classes.length - i ∧ i ≤ p.classes.length ∧ (List.range i).all (clsOk p) = true) (⟨0, rfl, rfl, by omega, rfl⟩) ?_
    rintro m _ ⟨i, rfl, rfl, hi, hR⟩
    refine S2 ?_; refine Ocm ?_; refine S3 ?_
    refine CW.cond rfl (fun h2 => ?_) (fun h2 => ?_)
    ·
     replace h2 := nm h2
     have hil : i < p.classes.length := by omega
     have hcm := getD_memB hil
     refine S6 ?_; refine Omv ?_
     refine OL.popC rfl rfl rfl ((by first | exact POp.ixM rfl rfl rfl rfl rfl hil | exact POp.ixI rfl rfl rfl rfl rfl hil)) ?_
     refine Ola ?_
     refine OL.alC rfl rfl rfl rfl (fun cb => ?_)
     refine Oas ?_; refine Sto ?_; refine S4 ?_; refine Omv ?_; refine Omv ?_; refine Oar ?_
     refine OL.popC rfl rfl rfl (POp.call (.mk' rfl rfl rfl rfl rfl) (linT hfine (c := (i : Int) + 3) (by omega))) ?_
     refine Omv ?_; refine Oex ?_; refine Oex ?_; refine Oas ?_; refine Oas ?_; refine S4 ?_; refine Omv ?_; refine Ocm ?_
     rcases bool_or ((linP (graphP p) ((i : Int) + 3)).isEmpty) with hl | hl
     ·
      refine OL.rcallS rfl rfl rfl (.mk' rfl rfl rfl rfl rfl) (needT (by rw [hl]; rfl) _) ?_
      refine S4 ?_; refine Ola ?_; refine Omv ?_; refine Oar ?_
      refine OL.popC rfl rfl rfl (POp.call (.mk' rfl rfl rfl rfl rfl) (hasC p (by omega) (fun c h => by have := (hsm c h).1; omega) hpk (k := (i : Int) + 3) (by unfold smallKey; omega) (by omega))) ?_
      refine OL.mkMap rfl rfl rfl rfl (fun mb => ?_)
      refine Oas ?_; refine Oas ?_; refine S4 ?_; refine Ofa ?_; refine Old ?_; refine Oln ?_; refine Omv ?_; refine S3 ?_
      refine CW.subH (H' := imapE mb [] :: H) (.cons_cons _ (.cons _ (.refl _))) ?_
      obtain ⟨mine, hmine⟩ : ∃ mine, mine = hasP p ((i : Int) + 3) := ⟨_, rfl⟩
      rw [← hmine]
      refine CW.boundM (t := 84) rfl (fun hb84 => ?_)
      refine lj (fun m st => ∃ (j : Nat) (l : List (Int × AV)), st = ⟨[(86, .i j), (85, .i (p.classes.getD i default).inits.length), (84, .sl 2 ((p.classes.getD i default).inits.map initA)), (12, AV.ints mine), (13, .val (.map (some mb))), (63, .i i), (62, .i p.classes.length), (61, .sl 3 (p.classes.map clsA)), (7, AV.intss (graphP p)), (1, .ptr (progC p))], imapE mb l :: H⟩ ∧ m = (p.classes.getD i default).inits.length - j ∧ j ≤ (p.classes.getD i default).inits.length ∧ MapSet l (((p.classes.getD i default).inits.take j).map (·.1)) ∧ inits1 mine ((p.classes.getD i default).inits.take j) [] = true) (⟨0, [], rfl, rfl, by omega, MapSet.nil, rfl⟩) ?_
      rintro m _ ⟨j, l, rfl, rfl, hj, hS, hin⟩
      refine S2 ?_; refine Ocm ?_; refine S3 ?_
      refine CW.cond rfl (fun h3 => ?_) (fun h3 => ?_)
      ·
       replace h3 := nm h3
       have hjl : j < (p.classes.getD i default).inits.length := by omega
       obtain ⟨X, hX⟩ : ∃ X, X = (p.classes.getD i default).inits.getD j default := ⟨_, rfl⟩
       have hsx : mine.contains X.1 = true → smallKey X.1 := fun h => by
        rw [hmine] at h
        obtain ⟨c, h1, h2⟩ := hasP_mem (List.contains_iff_mem.1 h)
        have := (hsm c h1).2 _ h2
        unfold smallKey; omega
       refine S6 ?_
       refine OL.popC rfl rfl rfl ((by first | exact POp.ixM rfl rfl rfl rfl rfl hjl | exact POp.ixI rfl rfl rfl rfl rfl hjl)) ?_
       refine Ola ?_
       refine OL.alC rfl rfl rfl rfl (fun ib => ?_)
       refine Sto ?_; refine S3 ?_
       rw [← hX]
       refine S1 ?_; refine Omv ?_; refine Ofa ?_; refine Old ?_
       refine OL.popC rfl rfl rfl (POp.call (.mk' rfl rfl rfl rfl rfl) (sContains mine X.1)) ?_
       refine Omv ?_; refine Pmv ?_; refine Pfa ?_; refine Pld ?_
       refine OL.guardC rfl rfl rfl rfl rfl rfl (fun hg => POp.lookupS rfl rfl (gd hg) rfl (gd hg) (.tail _ (.head _)) hS (hsx hg)) ?_
       refine Pnt ?_; refine Opk ?_; refine Omv ?_; refine Pfa ?_; refine Pld ?_
       refine OL.guardC rfl rfl rfl rfl rfl rfl (fun hg => POp.call (.mk' rfl rfl rfl rfl (by first | rfl | ((repeat (first | exact hg | rfl | refine Bool.and_eq_true_iff.2 ⟨?_, ?_⟩)); done) | simp_all [strip, constAV])) (between X.2)) ?_
       refine Opk ?_
       rcases bool_or ((mine.contains X.1 && !(((p.classes.getD i default).inits.take j).map (·.1)).contains X.1 && inP X.2)) with hb | hb
       ·
        refine OL.rcallN rfl rfl (.mk' rfl rfl rfl rfl rfl) (needF (by simp only [Bool.cond_false_right]; exact hb) _) unf_c ?_
        intro a w s
        exact outP (P := Tryz.prog) (fn := Tryz.f194) unf_c (by repeat (first | exact List.Sublist.refl _ | refine List.Sublist.cons _ ?_)) ⟨rfl, cls_no5 hil (by rw [hmine] at hb; exact cls_in hjl (by rw [← hX]; exact hb)), rfl⟩ a w s
       ·
        refine OL.rcallS rfl rfl rfl (.mk' rfl rfl rfl rfl rfl) (needT (by simp only [Bool.cond_false_right]; exact hb) _) ?_
        have hcx : mine.contains X.1 = true := by simp only [Bool.and_eq_true] at hb; exact hb.1.1
        refine S3 ?_; refine Omv ?_; refine Ofa ?_; refine Old ?_
        refine OL.mapPut (u' := .b true) rfl rfl (.inl rfl) rfl rfl rfl rfl rfl rfl (AVle.refl _) (.tail _ _ _ _ _ (.head _ _ _)) hS.ok (hsx hcx) ?_
        refine S4 ?_; refine Oar ?_; refine Omv ?_; refine S1 ?_
        exact ag (⟨j + 1, _, rfl, rfl, hjl, by rw [← take_getD hjl, List.map_append, ← hX]; exact hS.put (hsx hcx), by rw [inits1_take mine _ _ _ hjl, hin, ← hX, List.nil_append, hb]; rfl⟩)
      ·
       replace h3 := nm h3
       obtain rfl : j = (p.classes.getD i default).inits.length := by omega
       rw [List.take_length] at hin
       refine S7 ?_; refine Oar ?_; refine Omv ?_; refine S1 ?_
       exact ag (⟨i + 1, rfl, rfl, hil, range_step hR (by unfold clsOk; rw [hl, ← hmine, hin]; rfl)⟩)
     ·
      refine OL.rcallN rfl rfl (.mk' rfl rfl rfl rfl rfl) (needF (by rw [hl]; rfl) _) unf_c ?_
      intro a w s
      exact outP (P := Tryz.prog) (fn := Tryz.f194) unf_c (by repeat (first | exact List.Sublist.refl _ | refine List.Sublist.cons _ ?_)) ⟨rfl, cls_no5 hil (by unfold clsOk; rw [hl]; rfl), rfl⟩ a w s
    ·
     replace h2 := nm h2
     obtain rfl : i = p.classes.length := by omega
     refine S4 ?_
     refine Done.norR (rs := []) (H' := H) rfl (.nil) (AVleL.refl _) (by repeat (first | exact List.Sublist.refl _ | refine List.Sublist.cons _ ?_)) ?_
     exact ⟨by unfold classesP; rw [decide_eq_true hlen, hA, hf1, hfine, hR]; rfl, rfl⟩
end Go.Proofs.YtpgnjlngepfanaaGreat
