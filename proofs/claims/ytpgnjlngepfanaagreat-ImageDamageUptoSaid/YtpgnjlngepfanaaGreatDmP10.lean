/- Part 10 of the proof: contracts of functions of the program and what they need. No condition beyond those that each theorem names. -/
import Derived.Test.YtpgnjlngepfanaaGreatDmP9
import Derived.Shelf.Sort.Plain
import Derived.Shelf.Slices.In.SortNone
import Derived.Sort.OwnSortedInts
import Derived.Tactics
import Derived.Tactics2
import Derived.Laws.Pointers
import Derived.TacticsInMore
import Derived.RegionIn
import Derived.RecoverIn
set_option linter.unusedVariables false
set_option linter.unusedSimpArgs false
set_option maxRecDepth 10000
namespace Go.Proofs.YtpgnjlngepfanaaGreat
open Go.Eng
open Go.Eng.Fc
open Go.Eng.Bd
instance : HasMapI Tryz.prog 276 (3, 23) := ⟨by kernel_rfl, by kernel_rfl⟩
instance : HasZ Tryz.prog 23 (.slice none 0 0) := ⟨by kernel_rfl⟩
abbrev gphE (gb mb : Nat) (g : List (List Int)) (U : AV) : Ent := .blk gb 278 [AV.intss (parsOf g), U, .val (.map (some mb))]
theorem listsC {g : List (List Int)} (hg : fineP g = true) {c : Nat} (hc : c < 3 + g.length) {O : List (List Int)} {l : List (Int × AV)} (hO : OrdsOk O) (hOl : O.length = c) (hM : OrdMap l O) (gb mb : Nat) (U : AV) :
  PCallIn Tryz.prog [gphE gb mb g U, imapE mb l] 287 [.p gb 0, .i c] (.tup [AV.intss ((listsP O ((parsOf g).getD c default)).getD []), .b (listsP O ((parsOf g).getD c default)).isSome]) := by
 intro H hm
 refine ACall.mk' (n := 50) Tryz.func287 rfl (by kernel_rfl) rfl rfl (fun B I w0 => ?_)
 obtain ⟨ps, hps⟩ : ∃ ps, ps = ((parsOf g).getD c default) := ⟨_, rfl⟩
 have hpo := parsOf_ps hg c
 rw [← hps] at hpo ⊢
 have hgl := fineP_len hg
 refine S2 ?_; refine Oas ?_; refine Oas ?_; refine S4 ?_; refine Oas ?_; refine S5 ?_; refine Omv ?_; refine Onc ?_; refine Ofa ?_
 refine OL.popC rfl rfl rfl ((by first | exact POp.ld1 rfl rfl rfl rfl | (apply POp.ld1H rfl rfl rfl; (case hm => exact hm _ (.head _)); (case hy => rfl)))) ?_
 refine Omv ?_
 refine OL.popC rfl rfl rfl ((by first | exact POp.ixM rfl rfl rfl rfl rfl (by rw [parsOf_len]; exact hc) | exact POp.ixI rfl rfl rfl rfl rfl (by rw [parsOf_len]; exact hc))) ?_
 refine Old ?_; refine Oln ?_; refine Omv ?_; refine S3 ?_
 rw [show (parsOf g).getD c default = ps from hps.symm]
 have hp3 := hpo.1
 refine CW.ownNil 6 23 1 rfl ?_
 refine lj (fun m st => ∃ (i : Nat) (v : Value), st = ⟨[(17, .i i), (16, .i ps.length), (15, AV.ints ps), (0, .p gb 0), (1, .i c), (6, .as (AV.intss ((ps.take i).map (fun p => bareL (O.getD p.toNat [])))) v)], .own 23 1 v :: H⟩ ∧ m = ps.length - i ∧ i ≤ ps.length ∧ ∀ p ∈ ps.take i, O.getD p.toNat [] ≠ []) (⟨0, _, rfl, rfl, by omega, by simp⟩) ?_
 rintro m _ ⟨i, v, rfl, rfl, hi, hne⟩
 refine S2 ?_; refine Ocm ?_; refine S3 ?_
 refine CW.cond rfl (fun h0 => ?_) (fun h0 => ?_)
 ·
  replace h0 := nm h0
  have hil : i < ps.length := by omega
  obtain ⟨p, hp⟩ : ∃ p, p = ps.getD i default := ⟨_, rfl⟩
  have hpm : p ∈ ps := hp ▸ getD_memB hil
  have hpr := hpo.2 p hpm
  have hol := hO.len p.toNat
  refine S6 ?_
  refine OL.popC rfl rfl rfl ((by first | exact POp.ixM rfl rfl rfl rfl rfl hil | exact POp.ixI rfl rfl rfl rfl rfl hil)) ?_
  refine Old ?_; refine Oas ?_; refine S4 ?_
  rw [← hp]
  refine S1 ?_; refine Omv ?_; refine Onc ?_; refine Ofa ?_
  refine OL.popC rfl rfl rfl ((by first | exact POp.ld1 rfl rfl rfl rfl | (apply POp.ld1H rfl rfl rfl; (case hm => exact .tail _ (hm _ (.head _))); (case hy => rfl)))) ?_
  refine Omv ?_
  refine OL.popC rfl rfl rfl (POp.lookupI rfl rfl rfl rfl rfl (.tail _ (hm _ (.tail _ (.head _)))) hM.ok (by unfold smallKey; omega)) ?_
  refine OL.le 26 (y := AV.ints (O.getD p.toNat [])) rfl (hM.look p (by omega)) ?_
  refine Oln ?_; refine Ocm ?_; refine S2 ?_
  refine CW.cond rfl (fun h1 => ?_) (fun h1 => ?_)
  ·
   replace h1 := nm h1
   have he : O.getD p.toNat [] = [] := List.eq_nil_of_length_eq_zero (by omega)
   refine S2 ?_; refine Oas ?_; refine Oas ?_; refine S9 ?_
   refine Done.retR (rs := [.tmp 4, .tmp 5]) (H' := H) rfl (.tmp rfl (.tmp rfl (.nil))) (.cons (AVle.nil 1) (.cons (.refl _) .nil)) (by repeat (first | exact List.Sublist.refl _ | refine List.Sublist.cons _ ?_)) ?_
   exact ⟨by rw [lists_none hpm he]; rfl, rfl⟩
  ·
   replace h1 := nm h1
   have he : O.getD p.toNat [] ≠ [] := fun e => by rw [e] at h1; simp at h1
   refine S3 ?_; refine Omv ?_; refine Omv ?_; refine Onc ?_; refine Ofa ?_
   refine OL.popC rfl rfl rfl ((by first | exact POp.ld1 rfl rfl rfl rfl | (apply POp.ld1H rfl rfl rfl; (case hm => exact .tail _ (hm _ (.head _))); (case hy => rfl)))) ?_
   refine Omv ?_
   refine OL.popC rfl rfl rfl (POp.lookupI rfl rfl rfl rfl rfl (.tail _ (hm _ (.tail _ (.head _)))) hM.ok (by unfold smallKey; omega)) ?_
   refine OL.le 35 (y := AV.ints (O.getD p.toNat [])) rfl (hM.look p (by omega)) ?_
   refine OL.popC rfl rfl rfl (POp.call (.mk' rfl rfl rfl rfl rfl) (bareC _ (by omega))) ?_
   refine OL.popC (x := .sl 1 [[AV.ints (bareL (O.getD p.toNat []))]]) rfl rfl rfl (POp.row rfl rfl (by first | rfl | simp_all [strip]) rfl rfl rfl rfl rfl rfl) ?_
   refine OL.appendC rfl rfl rfl rfl rfl rfl rfl rfl (AVle.refl _) (rfl) (fun v => by repeat (first | exact Upd.head _ _ _ | apply Upd.tail)) (by simp only [List.length_map, List.length_take, List.length_singleton, List.length_cons, List.length_nil] at *; omega) (by simp only [List.length_map, List.length_take, List.length_singleton, List.length_cons, List.length_nil] at *; omega) (fun v38 => ?_)
   refine Oas ?_; refine S4 ?_; refine Oar ?_; refine Omv ?_; refine S1 ?_
   exact ag (⟨i + 1, v38, by rw [intss_snocF (fun p => bareL (O.getD p.toNat [])) ps hil, ← hp], rfl, hil, fun q hq => by rw [← take_getD hil, List.mem_append, List.mem_singleton, ← hp] at hq; rcases hq with hq | rfl; exact hne q hq; exact he⟩)
 ·
  replace h0 := nm h0
  obtain rfl : i = ps.length := by omega
  rw [List.take_length] at hne ⊢
  refine S7 ?_; refine Omv ?_; refine Omv ?_; refine Onc ?_; refine Ofa ?_
  refine OL.popC rfl rfl rfl ((by first | exact POp.ld1 rfl rfl rfl rfl | (apply POp.ld1H rfl rfl rfl; (case hm => exact .tail _ (hm _ (.head _))); (case hy => rfl)))) ?_
  refine Omv ?_
  refine OL.popC rfl rfl rfl ((by first | exact POp.ixM rfl rfl rfl rfl rfl (by rw [parsOf_len]; exact hc) | exact POp.ixI rfl rfl rfl rfl rfl (by rw [parsOf_len]; exact hc))) ?_
  refine Old ?_
  refine OL.popC (x := .sl 1 [[AV.ints ((parsOf g).getD c default)]]) rfl rfl rfl (POp.row rfl rfl (by first | rfl | simp_all [strip]) rfl rfl rfl rfl rfl rfl) ?_
  refine OL.appendC rfl rfl rfl rfl rfl rfl rfl rfl (AVle.refl _) (rfl) (fun v => by repeat (first | exact Upd.head _ _ _ | apply Upd.tail)) (by simp only [List.length_map, List.length_take, List.length_singleton, List.length_cons, List.length_nil] at *; omega) (by simp only [List.length_map, List.length_take, List.length_singleton, List.length_cons, List.length_nil] at *; omega) (fun v49 => ?_)
  refine Oas ?_; refine Oas ?_; refine S3 ?_
  refine Done.retR (rs := [.tmp 4, .tmp 5]) (H' := H) rfl (.tmp rfl (.tmp rfl (.nil))) (.cons (AVle.asL _ _) (.cons (.refl _) .nil)) (by repeat (first | exact List.Sublist.refl _ | refine List.Sublist.cons _ ?_)) ?_
  exact ⟨by rw [lists_some hne, ← hps]; show _ = AV.tup [AV.sl 1 (List.map _ (_ ++ _)), _]; rw [List.map_append]; rfl, rfl⟩
theorem orderC {g : List (List Int)} (hg : fineP g = true) {O : List (List Int)} (hc : O.length < 3 + g.length) {l : List (Int × AV)} (hO : OrdsOk O) (hM : OrdMap l O) (gb mb : Nat) (U : AV) (H : List Ent) :
  ACall Tryz.prog 272 [.p gb 0, .i O.length] (gphE gb mb g U :: imapE mb l :: H) (fun _ H' => ∃ l', OrdMap l' (O ++ [orderP O O.length ((parsOf g).getD O.length default)]) ∧ H' = gphE gb mb g U :: imapE mb l' :: H) (fun _ _ => False) := by
 refine ACall.mk' (n := 40) Tryz.func272 rfl (by kernel_rfl) rfl rfl (fun B I w0 => ?_)
 have hgl := fineP_len hg
 have hpo := parsOf_ps hg O.length
 have hol := (orderP_ok hO hpo).len
 refine S3 ?_; refine Omv ?_; refine Ocm ?_; refine S2 ?_
 refine CW.cond rfl (fun h0 => ?_) (fun h0 => ?_)
 ·
  replace h0 := nm h0
  have h0 : O.length = 0 := by omega
  refine S2 ?_; refine Omv ?_; refine Onc ?_; refine Ofa ?_; refine Old ?_
  refine OL.popC rfl rfl rfl (POp.row rfl rfl (by first | rfl | simp_all [strip]) rfl rfl rfl rfl rfl rfl) ?_
  refine OL.mapPut (u' := AV.ints [0]) rfl rfl (.inl rfl) rfl rfl rfl rfl rfl rfl (AVle.refl _) (.tail _ _ _ _ _ (.head _ _ _)) hM.ok (by unfold smallKey; omega) ?_
  refine S4 ?_
  refine Done.retR (rs := []) (H' := gphE gb mb g U :: imapE mb (putI l 0 (AV.ints [0])) :: H) rfl (.nil) (AVleL.refl _) (by repeat (first | exact List.Sublist.refl _ | refine List.Sublist.cons _ ?_)) ?_
  exact ⟨_, by rw [order_zero h0]; have := hM.put (x := [0]) (by simp) (by omega); rwa [h0] at this, rfl⟩
 ·
  replace h0 := nm h0
  have h0 : O.length ≠ 0 := by omega
  refine S3 ?_
  rcases hl : listsP O ((parsOf g).getD O.length default) with _ | all
  ·
   refine S1 ?_; refine Omv ?_; refine Omv ?_
   refine OL.popC rfl rfl rfl (POp.callIn (.mk' rfl rfl rfl rfl rfl) (AVleL.refl _) (by have h := listsC hg hc hO rfl hM gb mb U; rw [hl] at h; exact h) mem_two) ?_
   refine Omv ?_; refine Oex ?_; refine Oex ?_; refine Oas ?_; refine Oas ?_; refine S5 ?_; refine Omv ?_; refine Ont ?_; refine S2 ?_
   refine CW.cond rfl (fun h1 => ?_) (fun h1 => ?_)
   ·
    replace h1 := nm h1
    refine S2 ?_
    refine Done.retR (rs := []) (H' := gphE gb mb g U :: imapE mb l :: H) rfl (.nil) (AVleL.refl _) (by repeat (first | exact List.Sublist.refl _ | refine List.Sublist.cons _ ?_)) ?_
    exact ⟨l, by rw [order_none h0 hl]; exact hM.skip, rfl⟩
   ·
    simp at h1
  ·
   obtain ⟨ht1, ht2⟩ := lists_total hO hpo.1 hl
   refine S1 ?_; refine Omv ?_; refine Omv ?_
   refine OL.popC rfl rfl rfl (POp.callIn (.mk' rfl rfl rfl rfl rfl) (AVleL.refl _) (by have h := listsC hg hc hO rfl hM gb mb U; rw [hl] at h; exact h) mem_two) ?_
   refine Omv ?_; refine Oex ?_; refine Oex ?_; refine Oas ?_; refine Oas ?_; refine S5 ?_; refine Omv ?_; refine Ont ?_; refine S2 ?_
   refine CW.cond rfl (fun h2 => ?_) (fun h2 => ?_)
   ·
    simp at h2
   ·
    replace h2 := nm h2
    refine S4 ?_; refine Omv ?_
    refine OL.popC rfl rfl rfl (POp.call (.mk' rfl rfl rfl rfl rfl) (mergeC all (by omega) (by omega))) ?_
    refine Omv ?_; refine Oex ?_; refine Oex ?_; refine Oas ?_; refine Oas ?_; refine S4 ?_; refine Omv ?_; refine S2 ?_
    refine CW.cond rfl (fun h3 => ?_) (fun h3 => ?_)
    ·
     replace h3 := nm h3
     have h3 : (mergeP all).2 = true := h3
     rw [order_yes h0 hl h3] at hol
     simp only [List.length_cons, List.length_append, List.length_nil] at hol
     refine CW.dp mixed ?_
     refine DP.anyK (X := noX) [⟨6, 35, false⟩, ⟨8, 37, false⟩, ⟨10, 39, false⟩] (fun J => match J with | [some v, none, none] => .own 3 1 v :: gphE gb mb g U :: imapE mb l :: H | [_, some v, none] => .own 3 1 v :: gphE gb mb g U :: imapE mb l :: H | [_, _, some v] => .own 3 1 v :: gphE gb mb g U :: imapE mb l :: H | _ => gphE gb mb g U :: imapE mb l :: H) (fun q J => match q, J with | 0, [some v, _, _] => .as (.sl 1 [[AV.i (O.length : Int)]]) v | 1, [_, some v, _] => .as (.sl 1 ([[AV.i (O.length : Int)]] ++ ((mergeP all).1.map fun n => [AV.i n]))) v | 2, [_, _, some v] => .as (.sl 1 ([[AV.i (O.length : Int)]] ++ ((mergeP all).1.map fun n => [AV.i n]) ++ [[.i 0]])) v | _, _ => .any) 0 11 40 rfl (by decide +kernel) (by decide +kernel) rfl rfl (by decide +kernel) rfl (fun _ _ _ _ _ _ _ _ _ h => h.elim) ?_
     refine UD.popK [[true, true, true], [true, true, false], [true, false, false], [false, false, false]] rfl (by decide +kernel) rfl rfl rfl ⟨fun f => POp.move rfl rfl rfl, fun f => POp.move rfl rfl rfl, fun f => POp.move rfl rfl rfl, fun f => POp.move rfl rfl rfl, trivial⟩ ?_
     refine UD.popK [[true, true, true], [true, true, false], [true, false, false], [false, false, false]] rfl (by decide +kernel) rfl rfl rfl ⟨fun f => (by first | exact POp.nilCheck rfl rfl rfl | exact POp.nilCheckP rfl rfl rfl | exact POp.nilCheckF rfl rfl rfl), fun f => (by first | exact POp.nilCheck rfl rfl rfl | exact POp.nilCheckP rfl rfl rfl | exact POp.nilCheckF rfl rfl rfl), fun f => (by first | exact POp.nilCheck rfl rfl rfl | exact POp.nilCheckP rfl rfl rfl | exact POp.nilCheckF rfl rfl rfl), fun f => (by first | exact POp.nilCheck rfl rfl rfl | exact POp.nilCheckP rfl rfl rfl | exact POp.nilCheckF rfl rfl rfl), trivial⟩ ?_
     refine UD.popK [[true, true, true], [true, true, false], [true, false, false], [false, false, false]] rfl (by decide +kernel) rfl rfl rfl ⟨fun f => (by first | exact POp.fa rfl rfl rfl rfl | exact POp.faP rfl rfl rfl rfl), fun f => (by first | exact POp.fa rfl rfl rfl rfl | exact POp.faP rfl rfl rfl rfl), fun f => (by first | exact POp.fa rfl rfl rfl rfl | exact POp.faP rfl rfl rfl rfl), fun f => (by first | exact POp.fa rfl rfl rfl rfl | exact POp.faP rfl rfl rfl rfl), trivial⟩ ?_
     refine UD.popK [[true, true, true], [true, true, false], [true, false, false], [false, false, false]] rfl (by decide +kernel) rfl rfl rfl ⟨fun f => (by first | exact POp.ld1 rfl rfl rfl rfl | (apply POp.ld1H rfl rfl rfl; (case hm => repeat (first | exact .head _ | refine .tail _ ?_)); (case hy => rfl))), fun f => (by first | exact POp.ld1 rfl rfl rfl rfl | (apply POp.ld1H rfl rfl rfl; (case hm => repeat (first | exact .head _ | refine .tail _ ?_)); (case hy => rfl))), fun f => (by first | exact POp.ld1 rfl rfl rfl rfl | (apply POp.ld1H rfl rfl rfl; (case hm => repeat (first | exact .head _ | refine .tail _ ?_)); (case hy => rfl))), fun f => (by first | exact POp.ld1 rfl rfl rfl rfl | (apply POp.ld1H rfl rfl rfl; (case hm => repeat (first | exact .head _ | refine .tail _ ?_)); (case hy => rfl))), trivial⟩ ?_
     refine UD.popK [[true, true, true], [true, true, false], [true, false, false], [false, false, false]] rfl (by decide +kernel) rfl rfl rfl ⟨fun f => POp.move rfl rfl rfl, fun f => POp.move rfl rfl rfl, fun f => POp.move rfl rfl rfl, fun f => POp.move rfl rfl rfl, trivial⟩ ?_
     refine UD.popK [[false, false, false]] rfl (by decide +kernel) rfl rfl rfl ⟨fun f => POp.move rfl rfl rfl, trivial⟩ ?_
     refine UD.effK 0 [[false, false, false]] rfl rfl rfl (by decide +kernel) rfl rfl rfl ⟨fun f => ⟨KOk.rowOwn rfl rfl rfl rfl rfl rfl rfl rfl rfl (fun _ => rfl) (fun _ => rfl), (by intro v q hq; rcases q with _ | _ | _ | _ | _ | _ | q <;> first | rfl | (cases hq))⟩, trivial⟩ ?_
     refine UD.popK [[true, false, false], [false, false, false]] rfl (by decide +kernel) rfl rfl rfl ⟨fun f => POp.move rfl rfl rfl, fun f => POp.move rfl rfl rfl, trivial⟩ ?_
     refine UD.effK 1 [[true, false, false]] rfl rfl rfl (by decide +kernel) rfl rfl rfl ⟨fun f => ⟨KOk.own rfl rfl rfl (AVle.refl _) rfl rfl (AVle.refl _) (one_ints _) (by simp; omega) (by simp; omega) (fun _ => .head _ _ _) (fun _ => rfl), (by intro v q hq; rcases q with _ | _ | _ | _ | _ | _ | q <;> first | rfl | (cases hq))⟩, trivial⟩ ?_
     refine UD.popK [[true, true, false], [true, false, false], [false, false, false]] rfl (by decide +kernel) rfl rfl rfl ⟨fun f => POp.row rfl rfl (by first | rfl | simp_all [strip]) rfl rfl rfl rfl rfl rfl, fun f => POp.row rfl rfl (by first | rfl | simp_all [strip]) rfl rfl rfl rfl rfl rfl, fun f => POp.row rfl rfl (by first | rfl | simp_all [strip]) rfl rfl rfl rfl rfl rfl, trivial⟩ ?_
     refine UD.effK 2 [[true, true, false]] rfl rfl rfl (by decide +kernel) rfl rfl rfl ⟨fun f => ⟨KOk.own (news := [[.i 0]]) rfl rfl rfl (AVle.refl _) rfl rfl (AVle.refl _) rfl (by simp; omega) (by simp; omega) (fun _ => .head _ _ _) (fun _ => rfl), (by intro v q hq; rcases q with _ | _ | _ | _ | _ | _ | q <;> first | rfl | (cases hq))⟩, trivial⟩ ?_
     refine UD.nil (fun f => ?_)
     simp only [kvals, List.map_cons, List.map_nil, List.cons_append, List.nil_append]
     refine DP.tailC 11 (by decide +kernel) rfl ?_
     refine OL.le 39 (y := AV.ints ((O.length : Int) :: ((mergeP all).1 ++ [0]))) rfl (by rw [ord_cells]; exact AVle.asL _ _) ?_
     refine OL.mapPut rfl rfl (.inl rfl) rfl rfl rfl rfl rfl rfl (AVle.refl _) (.tail _ _ _ _ _ (.tail _ _ _ _ _ (.head _ _ _))) hM.ok (by unfold smallKey; omega) ?_
     refine S1 ?_
     refine Done.norR (rs := []) (H' := gphE gb mb g U :: imapE mb (putI l O.length (AV.ints ((O.length : Int) :: ((mergeP all).1 ++ [0])))) :: H) rfl (.nil) (AVleL.refl _) (by repeat (first | exact List.Sublist.refl _ | refine List.Sublist.cons _ ?_)) ?_
     exact ⟨_, by rw [order_yes h0 hl h3]; exact hM.put (by simp) (by omega), rfl⟩
    ·
     replace h3 := nm h3
     have h3 : (mergeP all).2 = false := h3
     refine S1 ?_
     refine Done.norR (rs := []) (H' := gphE gb mb g U :: imapE mb l :: H) rfl (.nil) (AVleL.refl _) (by repeat (first | exact List.Sublist.refl _ | refine List.Sublist.cons _ ?_)) ?_
     exact ⟨l, by rw [order_no h0 hl h3]; exact hM.skip, rfl⟩
instance : HasMk Tryz.prog 149 (23, 24, .slice none 0 0) := ⟨by kernel_rfl⟩
theorem openT {g : List (List Int)} (hg : fineP g = true) {cs : List Int} (hcs : ∀ c ∈ cs, 0 ≤ c ∧ c < 3 + g.length) (hcl : cs.length ≤ 1000000) (H : List Ent) : ACall Tryz.prog 247 [AV.intss g, AV.ints cs] H
  (fun y H' => ∃ gb mb l U, y = .tup [.p gb 0, .b true] ∧ OrdMap l (ordersP g) ∧ H' = gphE gb mb g U :: imapE mb l :: H) (fun _ _ => False) := by
 refine ACall.mk' (n := 104) Tryz.func247 rfl (by kernel_rfl) rfl rfl (fun B I w0 => ?_)
 have hgl := fineP_len hg
 refine S2 ?_; refine Oas ?_; refine Oas ?_; refine S5 ?_; refine Omv ?_
 refine OL.popC rfl rfl rfl (POp.call (.mk' rfl rfl rfl rfl rfl) (fine g)) ?_
 refine Ont ?_; refine S2 ?_
 refine CW.cond rfl (fun h0 => ?_) (fun h0 => ?_)
 ·
  simp [hg] at h0
 ·
  replace h0 := nm h0
  refine S5 ?_; refine Omv ?_; refine Oln ?_; refine Omv ?_; refine S3 ?_
  refine lj (fun m st => ∃ i : Nat, st = ⟨[(20, .i i), (19, .i cs.length), (18, AV.ints cs), (0, AV.intss g)], H⟩ ∧ m = cs.length - i ∧ i ≤ cs.length) (⟨0, rfl, rfl, by omega⟩) ?_
  rintro m _ ⟨i, rfl, rfl, hi⟩
  refine S2 ?_; refine Ocm ?_; refine S3 ?_
  refine CW.cond rfl (fun h1 => ?_) (fun h1 => ?_)
  ·
   replace h1 := nm h1
   have hil : i < cs.length := by omega
   have hc := hcs _ (getD_memB hil)
   refine S6 ?_
   refine OL.popC rfl rfl rfl ((by first | exact POp.ixM rfl rfl rfl rfl rfl hil | exact POp.ixI rfl rfl rfl rfl rfl hil)) ?_
   refine Old ?_; refine Oas ?_; refine S4 ?_; refine Omv ?_; refine Ocm ?_; refine Omv ?_; refine Pmv ?_; refine Pmv ?_; refine Pln ?_; refine Par ?_; refine Pcm ?_; refine Opk ?_
   refine S2 ?_
   refine CW.cond rfl (fun h2 => ?_) (fun h2 => ?_)
   ·
    rw [Bool.cond_true_left] at h2; simp only [Bool.or_eq_true, decide_eq_true_eq] at h2; omega
   ·
    replace h2 := nm h2
    refine S4 ?_; refine Oar ?_; refine Omv ?_; refine S1 ?_
    exact ag (⟨i + 1, rfl, rfl, hil⟩)
  ·
   replace h1 := nm h1
   refine S7 ?_; refine Omv ?_; refine Oln ?_; refine Oar ?_
   refine OL.mkSlL 3 (3 + g.length) rfl rfl rfl rfl rfl rfl rfl rfl rfl (by simp) (by omega) (by omega) (by simp only [maxLen]; omega) (fun pb => ?_)
   refine OL.mkMap rfl rfl rfl rfl (fun mb => ?_)
   refine Obd ?_
   refine OL.boxC rfl rfl rfl rfl rfl rfl rfl (fun gb => ?_)
   refine Oas ?_; refine S4 ?_; refine Omv ?_; refine Omv ?_; refine Onc ?_; refine Ofa ?_; refine Old ?_; refine Omv ?_
   refine OL.appendRoomX (news := gRows g) rfl rfl rfl rfl rfl rfl rfl rfl (AVle.refl _) (by rw [List.length_map]; omega) (one_intss g) (by rw [gRows_flat, List.length_replicate]; omega) (.tail _ _ _ _ _ (.tail _ _ _ _ _ (.head _ _ _))) ?_
   refine OL.eqH (H' := .blk gb 278 [.val (.slice (some ⟨pb, 0, none⟩) 3 (3 + g.length)), .val (.slice none 0 0), .val (.map (some mb))] :: imapE mb [] :: .blk pb 23 ((nilRows ++ gRows g).flatten ++ []) :: H) (by rw [← rows_cells g _ rfl]; rfl) ?_
   refine OL.freezeS (k := 1) (d := 47) rfl (.tail _ _ _ _ (.tail _ _ _ _ (.head _ _))) (by simp; omega) (fun e he => ?_) (by rw [List.length_map]; omega) (by simp only [maxLen]; omega) ?_
   ·rcases List.mem_append.1 he with h | h
    ·simp at h; rw [h]; rfl
    ·obtain ⟨y, _, rfl⟩ := List.mem_map.1 h; rfl
   refine OL.le 47 (y := AV.intss (parsOf g)) rfl (rows_le g) ?_
   refine Onc ?_; refine Ofa ?_; refine Sto ?_; refine S5 ?_; refine Omv ?_; refine Onc ?_; refine Ofa ?_; refine Old ?_; refine Oln ?_; refine Omv ?_; refine S3 ?_
   refine CW.ownNilB (b := gb) (t := 278) 303 1 1 (by repeat (first | exact Upd.head _ _ _ | apply Upd.tail)) rfl rfl ?_
   refine CW.le 54 (y := .i ((3 + g.length : Nat) : Int)) rfl (AVle.eqI (by rw [parsOf_len])) ?_
   refine lj (fun m st => ∃ (i : Nat) (us : List Nat) (v : Value), st = ⟨[(55, .i i), (54, .i ((3 + g.length : Nat) : Int)), (53, AV.intss (parsOf g)), (8, .p gb 0)], .own 303 1 v :: gphE gb mb g (.as (AV.sets us) v) :: imapE mb [] :: H⟩ ∧ m = (3 + g.length) - i ∧ i ≤ (3 + g.length) ∧ us.length = i ∧ ∀ x ∈ us, x < 18446744073709551616) (⟨0, [], _, rfl, rfl, by omega, rfl, by simp⟩) ?_
   rintro m _ ⟨i, us, v, rfl, rfl, hi, hus, hu64⟩
   refine S2 ?_; refine Ocm ?_; refine S3 ?_
   refine CW.cond rfl (fun h3 => ?_) (fun h3 => ?_)
   ·
    replace h3 := nm h3
    have hil : i < 3 + g.length := by omega
    obtain ⟨ps, hps⟩ : ∃ ps, ps = (parsOf g).getD i default := ⟨_, rfl⟩
    have hpo := parsOf_ps hg i
    rw [← hps] at hpo
    have hp3 := hpo.1
    refine S6 ?_; refine Omv ?_
    refine OL.popC rfl rfl rfl ((by first | exact POp.ixM rfl rfl rfl rfl rfl (by rw [parsOf_len]; exact hil) | exact POp.ixI rfl rfl rfl rfl rfl (by rw [parsOf_len]; exact hil))) ?_
    refine Old ?_; refine Oas ?_; refine Oas ?_; refine S3 ?_
    rw [← hps]
    refine S1 ?_; refine Obd ?_; refine Omv ?_
    refine OL.popC rfl rfl rfl (POp.call (.mk' rfl rfl rfl rfl rfl) (lsWith 0 i (by omega) (by omega))) ?_
    refine OL.popC rfl rfl rfl (POp.call (.mk' rfl rfl rfl rfl rfl) (lsWith _ 0 (by omega) (or64 (by omega) (pow64 (by omega))))) ?_
    refine OL.alC rfl rfl rfl rfl (fun sb => ?_)
    refine Sto ?_; refine S5 ?_; refine Omv ?_; refine Oln ?_; refine Omv ?_; refine S3 ?_
    obtain ⟨s0, hs0⟩ : ∃ s0, s0 = 0 ||| 2 ^ (i : Int).toNat ||| 2 ^ (0 : Int).toNat := ⟨_, rfl⟩
    have hs64 : s0 < 18446744073709551616 := hs0 ▸ or64 (or64 (by omega) (pow64 (by omega))) (by decide)
    refine lj (fun m st => ∃ (j s : Nat), st = ⟨[(66, .i j), (65, .i ps.length), (64, AV.ints ps), (11, .p sb 0), (55, .i i), (54, .i ((3 + g.length : Nat) : Int)), (53, AV.intss (parsOf g)), (8, .p gb 0)], .blk sb 303 [AV.set s] :: .own 303 1 v :: gphE gb mb g (.as (AV.sets us) v) :: imapE mb [] :: H⟩ ∧ m = ps.length - j ∧ j ≤ ps.length ∧ s < 18446744073709551616) (⟨0, s0, by rw [hs0], rfl, by omega, hs64⟩) ?_
    rintro m _ ⟨j, s, rfl, rfl, hj, hs⟩
    refine S2 ?_; refine Ocm ?_; refine S3 ?_
    refine CW.cond rfl (fun h4 => ?_) (fun h4 => ?_)
    ·
     replace h4 := nm h4
     have hjl : j < ps.length := by omega
     have hpm := hpo.2 _ (getD_memB hjl)
     refine S6 ?_
     refine OL.popC rfl rfl rfl ((by first | exact POp.ixM rfl rfl rfl rfl rfl hjl | exact POp.ixI rfl rfl rfl rfl rfl hjl)) ?_
     refine Old ?_; refine Oas ?_; refine S2 ?_
     refine CW.dp mixed ?_
     refine DP.anyC 0 8 104 rfl (by decide +kernel) rfl rfl (by decide +kernel) ?_
     refine Ala ?_; refine Amv ?_; refine Anc ?_; refine Afa ?_; refine Ald ?_; refine Amv ?_
     refine AD.popC rfl rfl rfl (POp.leC 74 rfl (AVle.asL _ _) (POp.ixI rfl rfl rfl rfl rfl (by omega))) ?_
     refine Ala ?_
     refine AD.nil ?_
     refine DP.tailC 8 (by decide +kernel) rfl ?_
     refine OL.popC rfl rfl rfl (POp.call (.mk' rfl rfl rfl rfl rfl) (lsOr s _ hs (lt_get hu64 _))) ?_
     refine Sto ?_; refine S4 ?_; refine Oar ?_; refine Omv ?_; refine S1 ?_
     exact ag (⟨j + 1, s ||| us.getD (ps.getD j default).toNat default, rfl, rfl, hjl, or64 hs (lt_get hu64 _)⟩)
    ·
     replace h4 := nm h4
     refine S5 ?_
     refine CW.dp mixed ?_
     refine DP.anyK (X := noX) [⟨7, 87, false⟩] (fun J => match J with | [some v2] => .blk sb 303 [AV.set s] :: .own 303 1 v2 :: gphE gb mb g (.as (AV.sets us) v) :: imapE mb [] :: H | _ => .blk sb 303 [AV.set s] :: .own 303 1 v :: gphE gb mb g (.as (AV.sets us) v) :: imapE mb [] :: H) (fun q J => match q, J with | 0, [some v2] => .as (.sl 1 ((us.map fun s => [AV.set s]) ++ [[AV.set s]])) v2 | _, _ => .any) 0 8 104 rfl (by decide +kernel) (by decide +kernel) rfl rfl (by decide +kernel) rfl (fun _ _ _ _ _ _ _ _ _ h => h.elim) ?_
     refine UD.popK [[true], [false]] rfl (by decide +kernel) rfl rfl rfl ⟨fun f => POp.move rfl rfl rfl, fun f => POp.move rfl rfl rfl, trivial⟩ ?_
     refine UD.popK [[false]] rfl (by decide +kernel) rfl rfl rfl ⟨fun f => POp.move rfl rfl rfl, trivial⟩ ?_
     refine UD.popK [[false]] rfl (by decide +kernel) rfl rfl rfl ⟨fun f => (by first | exact POp.nilCheck rfl rfl rfl | exact POp.nilCheckP rfl rfl rfl | exact POp.nilCheckF rfl rfl rfl), trivial⟩ ?_
     refine UD.popK [[false]] rfl (by decide +kernel) rfl rfl rfl ⟨fun f => (by first | exact POp.fa rfl rfl rfl rfl | exact POp.faP rfl rfl rfl rfl), trivial⟩ ?_
     refine UD.popK [[false]] rfl (by decide +kernel) rfl rfl rfl ⟨fun f => (by first | exact POp.ld1 rfl rfl rfl rfl | (apply POp.ld1H rfl rfl rfl; (case hm => repeat (first | exact .head _ | refine .tail _ ?_)); (case hy => rfl))), trivial⟩ ?_
     refine UD.popK [[false]] rfl (by decide +kernel) rfl rfl rfl ⟨fun f => (by first | exact POp.ldA rfl rfl rfl rfl | (apply POp.ldAH rfl rfl rfl; (case hm => repeat (first | exact .head _ | refine .tail _ ?_)); (case hy => rfl); (case hn => rfl))), trivial⟩ ?_
     refine UD.popK [[false]] rfl (by decide +kernel) rfl rfl rfl ⟨fun f => POp.row rfl rfl (by first | rfl | simp_all [strip]) rfl rfl rfl rfl rfl rfl, trivial⟩ ?_
     refine UD.effK 0 [[false]] rfl rfl rfl (by decide +kernel) rfl rfl rfl ⟨fun f => ⟨KOk.own (news := [[AV.set s]]) rfl rfl rfl (AVle.refl _) rfl rfl (AVle.refl _) rfl (by simp; omega) (by simp; omega) (fun _ => .tail _ _ _ _ _ (.head _ _ _)) (fun _ => rfl), (by intro v q hq; rcases q with _ | _ | _ | _ | _ | _ | q <;> first | rfl | (cases hq))⟩, trivial⟩ ?_
     refine UD.nil (fun f => ?_)
     simp only [kvals, List.map_cons, List.map_nil, List.cons_append, List.nil_append]
     refine DP.tailC 8 (by decide +kernel) rfl ?_
     refine Onc ?_; refine Ofa ?_; refine Sto ?_; refine S4 ?_; refine Oar ?_; refine Omv ?_; refine S1 ?_
     rw [sets_snoc]
     exact ag ⟨i + 1, us ++ [s], f 87, rfl, rfl, hil, by rw [List.length_append, hus]; rfl, fun x hx => by rcases List.mem_append.1 hx with h | h; exact hu64 x h; simp at h; rw [h]; exact hs⟩
   ·
    replace h3 := nm h3
    refine S8 ?_; refine Omv ?_; refine Onc ?_; refine Ofa ?_; refine Old ?_; refine Oln ?_; refine Omv ?_; refine S3 ?_
    refine CW.subH (H' := gphE gb mb g (.as (AV.sets us) v) :: imapE mb [] :: H) (.cons _ (.refl _)) ?_
    obtain ⟨U, hU⟩ : ∃ U : AV, U = .as (AV.sets us) v := ⟨_, rfl⟩
    rw [← hU]
    refine CW.le 95 (y := .i ((3 + g.length : Nat) : Int)) rfl (AVle.eqI (by rw [parsOf_len])) ?_
    refine lj (fun m st => ∃ (i : Nat) (l : List (Int × AV)), st = ⟨[(96, .i i), (95, .i ((3 + g.length : Nat) : Int)), (8, .p gb 0)], gphE gb mb g U :: imapE mb l :: H⟩ ∧ m = (3 + g.length) - i ∧ i ≤ (3 + g.length) ∧ OrdMap l (ordT g i)) (⟨0, [], rfl, rfl, by omega, .nil⟩) ?_
    rintro m _ ⟨i, l, rfl, rfl, hi, hM⟩
    refine S2 ?_; refine Ocm ?_; refine S3 ?_
    refine CW.cond rfl (fun h5 => ?_) (fun h5 => ?_)
    ·
     replace h5 := nm h5
     have hil : i < 3 + g.length := by omega
     refine S6 ?_; refine Omv ?_; refine Oas ?_; refine S3 ?_; refine Omv ?_; refine Omv ?_
     refine OL.bcallC rfl rfl rfl (.mk' rfl rfl rfl rfl rfl) (by have h := orderC hg (O := ordT g i) (by rw [ordT_len (by omega)]; exact hil) (ordT_ok hg i (by omega)) hM gb mb U H; rw [ordT_len (by omega)] at h; exact h.b) ?_
     ·
      rintro y H1 ⟨l', hM', rfl⟩
      rw [← ordT_succ' hil] at hM'
      refine S4 ?_; refine Oar ?_; refine Omv ?_; refine S1 ?_
      exact ag (⟨i + 1, l', rfl, rfl, hil, hM'⟩)
    ·
     replace h5 := nm h5
     obtain rfl : i = 3 + g.length := by omega
     rw [ordT_all] at hM
     refine S7 ?_; refine Omv ?_; refine Oas ?_; refine Oas ?_; refine S3 ?_
     refine Done.retR (rs := [.tmp 4, .tmp 5]) (H' := gphE gb mb g U :: imapE mb l :: H) rfl (.tmp rfl (.tmp rfl (.nil))) (AVleL.refl _) (by repeat (first | exact List.Sublist.refl _ | refine List.Sublist.cons _ ?_)) ?_
     exact ⟨gb, mb, l, U, by first | rfl | exact retI (by simp_all) | exact retB (by simp_all) | simp_all, hM, rfl⟩
theorem linT {g : List (List Int)} (hg : fineP g = true) {c : Int} (hc : 0 ≤ c ∧ c < 3 + g.length) : PCall Tryz.prog 224 [AV.intss g, .i c] (.tup [AV.ints (linP g c), .i (if (linP g c).isEmpty then 7 else 0)]) := by
 intro H
 refine ACall.mk' (n := 32) Tryz.func224 rfl (by kernel_rfl) rfl rfl (fun B I w0 => ?_)
 have hgl := fineP_len hg
 have hll : (linP g c).length ≤ 1000 := by
  have h1 := (ordT_ok hg (3 + g.length) (Nat.le_refl _)).len c.toNat
  rw [ordT_len (Nat.le_refl _), ordT_all] at h1
  show ((ordersP g).getD c.toNat []).length ≤ 1000
  omega
 refine S2 ?_; refine Oas ?_; refine Oas ?_; refine S4 ?_; refine Omv ?_; refine Omv ?_
 refine OL.popC rfl rfl rfl (POp.row rfl rfl (by first | rfl | simp_all [strip]) rfl rfl rfl rfl rfl rfl) ?_
 refine OL.bcallC rfl rfl rfl (.mk' rfl rfl rfl rfl rfl) ((openT hg (cs := [c]) (fun x hx => by simp at hx; rw [hx]; exact hc) (by simp) H).b) ?_
 ·
  rintro _ _ ⟨gb, mb, l, U, rfl, hM, rfl⟩
  refine Omv ?_; refine Oex ?_; refine Oex ?_; refine Oas ?_; refine Oas ?_; refine S5 ?_; refine Omv ?_; refine Ont ?_; refine S2 ?_
  refine CW.cond rfl (fun h0 => ?_) (fun h0 => ?_)
  ·
   simp at h0
  ·
   replace h0 := nm h0
   refine S5 ?_; refine Omv ?_; refine Onc ?_; refine Ofa ?_; refine Old ?_; refine Omv ?_
   refine OL.popC rfl rfl rfl (POp.lookupI rfl rfl rfl rfl rfl (.tail _ (.head _)) hM.ok (by unfold smallKey; omega)) ?_
   refine OL.le 22 (y := AV.ints (linP g c)) rfl (hM.look c (by omega)) ?_
   refine Oln ?_; refine Ocm ?_; refine S2 ?_
   refine CW.cond rfl (fun h1 => ?_) (fun h1 => ?_)
   ·
    replace h1 := nm h1
    have he : linP g c = [] := List.eq_nil_of_length_eq_zero (by omega)
    refine S2 ?_; refine Oas ?_; refine Oas ?_; refine S4 ?_
    refine Done.retR (rs := [.tmp 4, .tmp 5]) (H' := H) rfl (.tmp rfl (.tmp rfl (.nil))) (.cons (AVle.nil 1) (.cons (.refl _) .nil)) (by repeat (first | exact List.Sublist.refl _ | refine List.Sublist.cons _ ?_)) ?_
    exact ⟨by rw [he]; rfl, rfl⟩
   ·
    replace h1 := nm h1
    have he : linP g c ≠ [] := fun e => by rw [e] at h1; simp at h1
    refine S4 ?_; refine Omv ?_; refine Onc ?_; refine Ofa ?_; refine Old ?_; refine Omv ?_
    refine OL.popC rfl rfl rfl (POp.lookupI rfl rfl rfl rfl rfl (.tail _ (.head _)) hM.ok (by unfold smallKey; omega)) ?_
    refine OL.le 30 (y := AV.ints (linP g c)) rfl (hM.look c (by omega)) ?_
    refine OL.popC rfl rfl rfl (POp.call (.mk' rfl rfl rfl rfl rfl) (cloneI _ (by omega))) ?_
    refine Oas ?_; refine Oas ?_; refine S3 ?_
    refine Done.retR (rs := [.tmp 4, .tmp 5]) (H' := H) rfl (.tmp rfl (.tmp rfl (.nil))) (AVleL.refl _) (by repeat (first | exact List.Sublist.refl _ | refine List.Sublist.cons _ ?_)) ?_
    exact ⟨by cases hl : linP g c with
 | nil => exact absurd hl he
 | cons a r => rfl, rfl⟩
section
open Go.Shelf Go.Sort
def ren189 : Ren := { f := fun x => match x with | 125 => 233 | 128 => 261 | 129 => 262 | 189 => 211 | 215 => 284 | 216 => 258 | 257 => 232 | 294 => 252 | 295 => 253 | 296 => 254 | 297 => 255 | 298 => 256 | 299 => 257 | 300 => 259 | 301 => 260 | 328 => 279 | 329 => 280 | 330 => 281 | 331 => 282 | 332 => 283 | 343 => 298 | n => n, t := fun x => match x with | 0 => 0 | 3 => 3 | 4 => 4 | 5 => 5 | 9 => 9 | 28 => 23 | 46 => 212 | 51 => 279 | 53 => 282 | 131 => 244 | 182 => 288 | 183 => 289 | 218 => 314 | 222 => 220 | 228 => 325 | 229 => 326 | n => n, g := fun x => x }
theorem lays189 : Lays.n189 Tryz.prog ren189 where
 mixed := by kernel_rfl
 f125 := Tryz.func233.trans (congrArg some (by kernel_rfl))
 f128 := Tryz.func261.trans (congrArg some (by kernel_rfl))
 f129 := Tryz.func262.trans (congrArg some (by kernel_rfl))
 f189 := Tryz.func211.trans (congrArg some (by kernel_rfl))
 f215 := Tryz.func284.trans (congrArg some (by kernel_rfl))
 f216 := Tryz.func258.trans (congrArg some (by kernel_rfl))
 f257 := Tryz.func232.trans (congrArg some (by kernel_rfl))
 f294 := Tryz.func252.trans (congrArg some (by kernel_rfl))
 f295 := Tryz.func253.trans (congrArg some (by kernel_rfl))
 f296 := Tryz.func254.trans (congrArg some (by kernel_rfl))
 f297 := Tryz.func255.trans (congrArg some (by kernel_rfl))
 f298 := Tryz.func256.trans (congrArg some (by kernel_rfl))
 f299 := Tryz.func257.trans (congrArg some (by kernel_rfl))
 f300 := Tryz.func259.trans (congrArg some (by kernel_rfl))
 f301 := Tryz.func260.trans (congrArg some (by kernel_rfl))
 f328 := Tryz.func279.trans (congrArg some (by kernel_rfl))
 f329 := Tryz.func280.trans (congrArg some (by kernel_rfl))
 f330 := Tryz.func281.trans (congrArg some (by kernel_rfl))
 f331 := Tryz.func282.trans (congrArg some (by kernel_rfl))
 f332 := Tryz.func283.trans (congrArg some (by kernel_rfl))
 f343 := Tryz.func298.trans (congrArg some (by kernel_rfl))
 t0 := Tryz.underlying0
 a0 := Tryz.isAgg0
 z0 := Tryz.sizeOf0
 v0 := Tryz.zeroValue0
 t3 := Tryz.underlying3
 a3 := Tryz.isAgg3
 z3 := Tryz.sizeOf3
 v3 := Tryz.zeroValue3
 t4 := Tryz.underlying4
 a4 := Tryz.isAgg4
 z4 := Tryz.sizeOf4
 v4 := Tryz.zeroValue4
 t5 := Tryz.underlying5
 a5 := Tryz.isAgg5
 z5 := Tryz.sizeOf5
 v5 := Tryz.zeroValue5
 t9 := Tryz.underlying9
 a9 := Tryz.isAgg9
 z9 := Tryz.sizeOf9
 v9 := Tryz.zeroValue9
 t28 := Tryz.underlying23
 a28 := Tryz.isAgg23
 z28 := Tryz.sizeOf23
 v28 := Tryz.zeroValue23
 t46 := Tryz.underlying212
 a46 := Tryz.isAgg212
 z46 := Tryz.sizeOf212
 v46 := Tryz.zeroValue212
 t51 := Tryz.underlying279
 a51 := Tryz.isAgg279
 z51 := Tryz.sizeOf279
 v51 := Tryz.zeroValue279
 t53 := Tryz.underlying282
 a53 := Tryz.isAgg282
 z53 := Tryz.sizeOf282
 v53 := Tryz.zeroValue282
 t131 := Tryz.underlying244
 a131 := Tryz.isAgg244
 z131 := Tryz.sizeOf244
 v131 := Tryz.zeroValue244
 t182 := Tryz.underlying288
 a182 := Tryz.isAgg288
 z182 := Tryz.sizeOf288
 v182 := Tryz.zeroValue288
 t183 := Tryz.underlying289
 a183 := Tryz.isAgg289
 z183 := Tryz.sizeOf289
 v183 := Tryz.zeroValue289
 t218 := Tryz.underlying314
 a218 := Tryz.isAgg314
 z218 := Tryz.sizeOf314
 v218 := Tryz.zeroValue314
 t222 := Tryz.underlying220
 a222 := Tryz.isAgg220
 z222 := Tryz.sizeOf220
 v222 := Tryz.zeroValue220
 t228 := Tryz.underlying325
 a228 := Tryz.isAgg325
 z228 := Tryz.sizeOf325
 v228 := Tryz.zeroValue325
 t229 := Tryz.underlying326
 a229 := Tryz.isAgg326
 z229 := Tryz.sizeOf326
 v229 := Tryz.zeroValue326
theorem intEls_flat (l : List Int) : (intEls l).flatten = (l.map (Value.int .i64)).map .val := by
 induction l with
 | nil => rfl
 | cons x r ih => simp only [intEls, List.map_cons, List.flatten_cons] at ih ⊢; rw [ih]; rfl
theorem sortC (B : Nat) (v : Value) (l : List Int) (hl : l.length ≤ 1000000) (Hx : List Ent) : BCall B Tryz.prog 211 [.val v] (rowE v l :: Hx) (fun y H' => y = .tup [] ∧ H' = rowE v (sortI l) :: Hx) (fun _ _ => False) := by
 refine ⟨by kernel_rfl, fun I w vs hw hh hv => ?_⟩
 obtain ⟨u, rfl⟩ : ∃ u, vs = [u] := by cases hv with | cons _ u _ _ _ ht => cases ht; exact ⟨u, rfl⟩
 have hu : u = v := by cases hv with | cons _ u _ _ hx _ => exact rel_val hx
 subst hu
 obtain ⟨xs, hrow, hrx, hni⟩ := hh.ok _ (.head _)
 have hxs : xs = l.map (Value.int .i64) := by
  rw [intEls_flat] at hrx
  exact rel_vals hrx
 subst hxs
 rcases hrow.2 with ⟨rfl, hn⟩ | ⟨g, cap, cur, rfl, hBg, hg, hnc, hcm, hcs, htk⟩
 ·have : l = [] := by cases l with | nil => rfl | cons x r => simp [intEls] at hn
  subst this
  refine (Any.slices_Sort_int_none lays189 none 0 w).mono fun e w' ⟨he, hw'⟩ => ?_
  subst hw'
  exact ⟨I, _, hw, Ext.refl _ _ _, hh, .inl ⟨_, _, he, .tup _ _ .nil, rfl, by simp [sortI]⟩⟩
 ·have hlen : (intEls l).length = l.length := by simp [intEls]
  rw [hlen] at hnc htk
  rw [Nat.mul_one] at htk
  have hlen2 : (sortI l).length = l.length := List.length_mergeSort _
  refine ((hlen ▸ Any.slices_Sort_int lays189 g 0 cap l w (holds_of_blockI hg htk) (Array.getElem?_eq_some_iff.1 hg).1 (by omega) : Calls Tryz.prog 211 #[.slice (some ⟨g, 0, none⟩) (intEls l).length cap] w _)).mono fun e w' ⟨he, n, os, hw'⟩ => ?_
  have e3 : w.grownBy w' (some g) := by subst hw'; exact grownBy_sortedI _
  have e2 : w'.ownsRow B 3 1 (.slice (some ⟨g, 0, none⟩) l.length cap) l.length ((sortI l).map (Value.int .i64)) := by
   subst hw'; exact ownsRow_sortedI (ss := l) hlen2 hBg hg hnc hcm hcs
  have hbel : Go.RowKit.Below B w w' := (Go.RowKit.Below.refl B w).grown e3 hw.base (fun j hj => by cases hj; exact hBg)
  have hcell : ∀ b i, I b i → w'.cell? ⟨b, i, none⟩ = w.cell? ⟨b, i, none⟩ := fun b i hI =>
   World.cell?_of_block (a := ⟨b, i, none⟩) (e3.block b (hw.lt hI) (fun e => by cases e; exact hni _ rfl i hI))
  have hkk : Keeps I w I w' := ⟨fun _ _ x => x, hcell⟩
  refine ⟨I, rowE (.slice (some ⟨g, 0, none⟩) (intEls l).length cap) (sortI l) :: Hx, ⟨Nat.le_trans hw.base hbel.size, fun b o hI => by rw [hcell b o hI]; exact hw.there b o hI⟩, ⟨hkk.imm, hkk.cell, hbel⟩, ?_, .inl ⟨_, _, he, .tup _ _ .nil, rfl, rfl⟩⟩
  refine hh.upd (.head _ _ _) hkk (fun b hlt hne => e3.block b hlt (fun e => hne (by cases e; rfl))) (fun b o hx => .inl hx) ⟨(sortI l).map (Value.int .i64), ?_, ?_, hni⟩ (fun b hb => .inl hb)
  ·rw [hlen, show (intEls (sortI l)).length = l.length by simp [intEls, hlen2]]; exact e2
  ·rw [intEls_flat]; exact relL_val _
end
instance : HasMapI Tryz.prog 245 (3, 4) := ⟨by kernel_rfl, by kernel_rfl⟩
instance : HasZ Tryz.prog 4 (.bool false) := ⟨by kernel_rfl⟩
theorem hasC (p : Prog) (hc : p.classes.length ≤ 100) (hsl : ∀ c ∈ p.classes, c.slots.length ≤ 1000) (hpa : ∀ c ∈ p.classes, ∀ x ∈ c.parents, smallKey x) {k : Int} (hk : smallKey k) (hk2 : k < 3 + p.classes.length) : PCall Tryz.prog 173 [AV.prog p, .i k] (AV.ints (hasP p k)) := by
 intro H
 refine ACall.mk' (n := 49) Tryz.func173 rfl (by kernel_rfl) rfl rfl (fun B I w0 => ?_)
 refine S2 ?_; refine Obx ?_; refine Oas ?_; refine S4 ?_
 refine OL.mkMap rfl rfl rfl rfl (fun mb => ?_)
 refine Omv ?_
 refine OL.mapPut (l := []) (u' := .b true) rfl rfl (.inr rfl) rfl rfl rfl rfl rfl rfl (AVle.refl _) (.head _ _ _) .nil hk ?_
 refine Omv ?_; refine Oas ?_; refine S4 ?_; refine Oas ?_; refine S5 ?_; refine Omv ?_; refine Oas ?_; refine S3 ?_
 refine CW.rowNil 3 1 ?_
 have hk1 : -9223372036854775808 ≤ k := hk.1
 refine lj (fun m st => ∃ (c : Int) (out : List Int) (v : Value) (l : List (Int × AV)) (S : List Int), st = ⟨[(7, .i c), (6, .val v), (5, .val (.map (some mb))), (2, .ptr (progC p))], rowE v out :: imapE mb l :: H⟩ ∧ m = (c - 2).toNat ∧ (c ≤ k ∧ (c = k ∨ 2 ≤ c)) ∧ MapSet l S ∧ hasN p (c - 2).toNat S out = hasN p (k - 2).toNat [k] [] ∧ out.length + 1000 * (c - 2).toNat ≤ 1000 * (k - 2).toNat) (⟨k, [], _, _, [k], rfl, rfl, ⟨Int.le_refl _, .inl rfl⟩, MapSet.nil.put hk, rfl, by simp⟩) ?_
 rintro m _ ⟨c, out, v, l, S, rfl, rfl, hck, hS, hN, hlen⟩
 refine S3 ?_; refine Omv ?_; refine Ocm ?_; refine S2 ?_
 refine CW.cond rfl (fun h0 => ?_) (fun h0 => ?_)
 ·
  replace h0 := nm h0
  have hc3 : 3 ≤ c := by omega
  obtain ⟨n, hn⟩ : ∃ n : Nat, c = n + 3 := ⟨(c - 3).toNat, by omega⟩
  have hil : (c - 3).toNat < p.classes.length := by omega
  have hsl1 := hsl _ (getD_memB hil)
  have hpa1 := hpa _ (getD_memB hil)
  refine S6 ?_; refine Omv ?_; refine Omv ?_
  refine OL.popC rfl rfl rfl (POp.lookupI rfl rfl rfl rfl rfl (.tail _ (.head _)) hS.ok (by unfold smallKey; omega)) ?_
  refine S2 ?_
  refine CW.le 20 (y := .b (S.contains c)) rfl (hS.look c) ?_
  refine CW.cond rfl (fun h1 => ?_) (fun h1 => ?_)
  ·
   replace h1 := nm h1
   refine S2 ?_; refine Omv ?_; refine Ofa ?_; refine Old ?_; refine Omv ?_; refine Oar ?_; refine Oix ?_; refine Ofa ?_; refine Old ?_
   refine OL.appendRowAny (intEls (p.classes.getD (c - 3).toNat default).slots) rfl rfl rfl rfl rfl rfl rfl rfl (AVle.refl _) (one_ints _) (fun v => .head _ _ _) (by simp only [intEls_len]; omega) (by simp only [intEls_len]; omega) (fun v29 => ?_)
   refine Oas ?_; refine S3 ?_
   refine CW.eqH (H' := rowE v29 (out ++ (p.classes.getD (c - 3).toNat default).slots) :: imapE mb l :: H) (congrArg (· :: _) (rowE_append _ _ _)) ?_
   refine S1 ?_; refine Ofa ?_; refine Old ?_; refine Omv ?_; refine Oar ?_; refine Oix ?_; refine Ofa ?_; refine Old ?_; refine Oln ?_; refine Omv ?_; refine S3 ?_
   refine CW.boundM (t := 36) rfl (fun hb36 => ?_)
   refine lj (fun m st => ∃ (j : Nat) (l' : List (Int × AV)), st = ⟨[(38, .i j), (37, .i (p.classes.getD (c - 3).toNat default).parents.length), (36, AV.ints (p.classes.getD (c - 3).toNat default).parents), (7, .i c), (6, .val v29), (5, .val (.map (some mb))), (2, .ptr (progC p))], rowE v29 (out ++ (p.classes.getD (c - 3).toNat default).slots) :: imapE mb l' :: H⟩ ∧ m = (p.classes.getD (c - 3).toNat default).parents.length - j ∧ j ≤ (p.classes.getD (c - 3).toNat default).parents.length ∧ MapSet l' (S ++ (p.classes.getD (c - 3).toNat default).parents.take j)) (⟨0, l, rfl, rfl, by omega, by simpa using hS⟩) ?_
   rintro m _ ⟨j, l', rfl, rfl, hj, hS'⟩
   refine S2 ?_; refine Ocm ?_; refine S3 ?_
   refine CW.cond rfl (fun h2 => ?_) (fun h2 => ?_)
   ·
    replace h2 := nm h2
    have hjl : j < (p.classes.getD (c - 3).toNat default).parents.length := by omega
    refine S6 ?_
    refine OL.popC rfl rfl rfl ((by first | exact POp.ixM rfl rfl rfl rfl rfl hjl | exact POp.ixI rfl rfl rfl rfl rfl hjl)) ?_
    refine Old ?_; refine Oas ?_; refine S3 ?_; refine Omv ?_; refine Omv ?_
    refine OL.mapPut (u' := .b true) rfl rfl (.inl rfl) rfl rfl rfl rfl rfl rfl (AVle.refl _) (.tail _ _ _ _ _ (.head _ _ _)) hS'.ok (hpa1 _ (getD_memB hjl)) ?_
    refine S4 ?_; refine Oar ?_; refine Omv ?_; refine S1 ?_
    exact ag (⟨j + 1, _, rfl, rfl, hjl, by rw [← take_getD hjl, ← List.append_assoc]; exact hS'.put (hpa1 _ (getD_memB hjl))⟩)
   ·
    replace h2 := nm h2
    obtain rfl : j = (p.classes.getD (c - 3).toNat default).parents.length := by omega
    rw [List.take_length] at hS'
    refine S7 ?_; refine Omv ?_; refine Oar ?_; refine Oas ?_; refine S1 ?_
    exact ag (⟨c - 1, out ++ (p.classes.getD (c - 3).toNat default).slots, v29, l', S ++ (p.classes.getD (c - 3).toNat default).parents, rfl, rfl, ⟨by omega, .inr (by omega)⟩, hS', by rw [← hN, hasN_in hn h1], by rw [List.length_append]; omega⟩)
  ·
   replace h1 := nm h1
   refine S4 ?_; refine Omv ?_; refine Oar ?_; refine Oas ?_; refine S1 ?_
   exact ag (⟨c - 1, out, v, l, S, rfl, rfl, ⟨by omega, .inr (by omega)⟩, hS, by rw [← hN, hasN_out hn h1], by omega⟩)
 ·
  replace h0 := nm h0
  have hc3 : c ≤ 2 := by omega
  rw [show (c - 2).toNat = 0 by omega] at hN
  have hout : out = hasN p (k - 2).toNat [k] [] := hN
  refine S7 ?_; refine Omv ?_
  refine OL.bcallC rfl rfl rfl (.mk' rfl rfl rfl rfl rfl) (sortC B v out (by omega) _) ?_
  rintro y H1 ⟨rfl, rfl⟩
  refine S3 ?_
  refine CW.freezeRow (d := 6) (els := intEls (sortI out)) rfl (.head _ _) (fun e he => by obtain ⟨y, _, rfl⟩ := List.mem_map.1 he; rfl) ?_
  refine S1 ?_; refine Omv ?_
  refine OL.popC rfl rfl rfl (POp.call (.mk' rfl rfl rfl rfl rfl) (clipI _)) ?_
  refine Oas ?_; refine S3 ?_
  refine r1 4 (H) ?_
  exact ⟨by rw [hout]; rfl, rfl⟩
theorem classesC {p : Prog} (hp : p.Small) (H : List Ent) : ACall Tryz.prog 194 [AV.prog p] H (fun _ H' => classesP p = true ∧ H' = H) (fun y H' => y = unfA ∧ classesP p = false ∧ H' = H) := by
 refine ACall.mk' (n := 112) Tryz.func194 rfl (by kernel_rfl) rfl rfl (fun B I w0 => ?_)
 have hpc := hp.classes
 have hpp := hp.parents
 refine S2 ?_; refine Obx ?_; refine S4 ?_; refine Ofa ?_; refine Old ?_; refine Oln ?_; refine Ocm ?_
 rcases bool_or (decide (p.classes.length ≤ 10)) with hlen | hlen
 ·
  refine OL.rcallN rfl rfl (.mk' rfl rfl rfl rfl rfl) (needF (by rw [← hlen]; by_cases h : p.classes.length ≤ 10 <;> simp [h] <;> omega) _) unf_c ?_
  intro a w s
  exact outP (P := Tryz.prog) (fn := Tryz.f194) unf_c (by repeat (first | exact List.Sublist.refl _ | refine List.Sublist.cons _ ?_)) ⟨rfl, cls_no1 hlen, rfl⟩ a w s
 ·
  refine OL.rcallS rfl rfl rfl (.mk' rfl rfl rfl rfl rfl) (needT (by simp at hlen; simp; omega) _) ?_
  have hlen := of_decide_eq_true hlen
  refine S4 ?_; refine Oas ?_; refine S5 ?_; refine Ofa ?_; refine Old ?_; refine Oln ?_; refine Omv ?_; refine S3 ?_
  refine lj (fun m st => ∃ i : Nat, st = ⟨[(24, .i i), (23, .i p.classes.length), (22, .sl 3 (p.classes.map clsA)), (2, .i (slotsCnt (p.classes.take i))), (1, .ptr (progC p))], H⟩ ∧ m = p.classes.length - i ∧ i ≤ p.classes.length ∧ slotsA (p.classes.take i) 0 = true) (⟨0, rfl, rfl, by omega, rfl⟩) ?_
  rintro m _ ⟨i, rfl, rfl, hi, hA⟩
  refine S2 ?_; refine Ocm ?_; refine S3 ?_
  refine CW.cond rfl (fun h0 => ?_) (fun h0 => ?_)
  ·
   replace h0 := nm h0
   have hil : i < p.classes.length := by omega
   have hcm := getD_memB hil
   have hcnt := slotsA_cnt _ _ hA
   rw [List.length_take] at hcnt
   refine S6 ?_
   refine OL.popC rfl rfl rfl ((by first | exact POp.ixM rfl rfl rfl rfl rfl hil | exact POp.ixI rfl rfl rfl rfl rfl hil)) ?_
   refine Ola ?_
   refine OL.alC rfl rfl rfl rfl (fun b0 => ?_)
   refine Sto ?_; refine S4 ?_; refine Ofa ?_; refine Old ?_; refine Oln ?_; refine Ocm ?_
   rcases bool_or (decide ((p.classes.getD i default).slots.length ≤ 4)) with h4 | h4
   ·
    refine OL.rcallN rfl rfl (.mk' rfl rfl rfl rfl rfl) (needF (by simp at h4; simp; omega) _) unf_c ?_
    intro a w s
    exact outP (P := Tryz.prog) (fn := Tryz.f194) unf_c (by repeat (first | exact List.Sublist.refl _ | refine List.Sublist.cons _ ?_)) ⟨rfl, cls_no2 hil (by rw [h4]; rfl), rfl⟩ a w s
   ·
    refine OL.rcallS rfl rfl rfl (.mk' rfl rfl rfl rfl rfl) (needT (by simp at h4; simp; omega) _) ?_
    refine S4 ?_; refine Ofa ?_; refine Old ?_; refine Oln ?_; refine Omv ?_; refine S3 ?_
    refine CW.boundM (t := 34) rfl (fun hb34 => ?_)
    have h44 := of_decide_eq_true h4
    refine lj (fun m st => ∃ j : Nat, st = ⟨[(36, .i j), (35, .i (p.classes.getD i default).slots.length), (34, AV.ints (p.classes.getD i default).slots), (24, .i i), (23, .i p.classes.length), (22, .sl 3 (p.classes.map clsA)), (2, .i ((slotsCnt (p.classes.take i)) + j : Nat)), (1, .ptr (progC p))], H⟩ ∧ m = (p.classes.getD i default).slots.length - j ∧ j ≤ (p.classes.getD i default).slots.length ∧ slots1 ((p.classes.getD i default).slots.take j) (slotsCnt (p.classes.take i)) = true) (⟨0, rfl, rfl, by omega, rfl⟩) ?_
    rintro m _ ⟨j, rfl, rfl, hj, hs1⟩
    refine S2 ?_; refine Ocm ?_; refine S3 ?_
    refine CW.cond rfl (fun h1 => ?_) (fun h1 => ?_)
    ·
     replace h1 := nm h1
     have hjl : j < (p.classes.getD i default).slots.length := by omega
     refine S6 ?_
     refine OL.popC rfl rfl rfl ((by first | exact POp.ixM rfl rfl rfl rfl rfl hjl | exact POp.ixI rfl rfl rfl rfl rfl hjl)) ?_
     refine Old ?_; refine Oas ?_; refine S4 ?_; refine Omv ?_; refine Omv ?_; refine Ocm ?_
     rcases bool_or (((p.classes.getD i default).slots.getD j default == (((slotsCnt (p.classes.take i)) + j : Nat) : Int))) with he | he
     ·
      refine OL.rcallN rfl rfl (.mk' rfl rfl rfl rfl rfl) (needF (he) _) unf_c ?_
      intro a w s
      exact outP (P := Tryz.prog) (fn := Tryz.f194) unf_c (by repeat (first | exact List.Sublist.refl _ | refine List.Sublist.cons _ ?_)) ⟨rfl, cls_no3 hil hjl he, rfl⟩ a w s
     ·
      refine OL.rcallS rfl rfl rfl (.mk' rfl rfl rfl rfl rfl) (needT (he) _) ?_
      refine S3 ?_; refine Omv ?_; refine Oar ?_; refine Oas ?_; refine S4 ?_; refine Oar ?_; refine Omv ?_; refine S1 ?_
      exact ag (⟨j + 1, by rfl, rfl, hjl, by rw [slots1_take _ _ _ hjl, hs1, he]; rfl⟩)
    ·
     replace h1 := nm h1
     obtain rfl : j = (p.classes.getD i default).slots.length := by omega
     rw [List.take_length] at hs1
     refine S7 ?_; refine Oar ?_; refine Omv ?_; refine S1 ?_
     exact ag (⟨i + 1, by rw [slotsCnt_take hil], rfl, hil, by rw [slotsA_take _ _ _ hil, hA, h4, Nat.zero_add, hs1]; rfl⟩)
  ·
   replace h0 := nm h0
   obtain rfl : i = p.classes.length := by omega
   rw [List.take_length] at hA ⊢
   refine S7 ?_; refine Ola ?_
   refine OL.popC rfl rfl rfl (POp.call (.mk' rfl rfl rfl rfl rfl) (graph p (by omega) hpp)) ?_
   refine Oas ?_; refine S4 ?_; refine Omv ?_; refine Ofa ?_; refine Old ?_; refine Ocm ?_; refine Omv ?_; refine Pmv ?_
   refine OL.guardC rfl rfl rfl rfl rfl rfl (fun hg => POp.call (.mk' rfl rfl rfl rfl (by first | rfl | ((repeat (first | exact hg | rfl | refine Bool.and_eq_true_iff.2 ⟨?_, ?_⟩)); done) | simp_all [strip, constAV])) (lineCheck (graphP p))) ?_
   refine Pcm ?_; refine Opk ?_
   rcases bool_or ((((slotsCnt p.classes : Int) == p.slots) && fineP (graphP p))) with hf | hf
   ·
    refine OL.rcallN rfl rfl (.mk' rfl rfl rfl rfl rfl) (needF (by revert hf; cases fineP (graphP p) <;> cases ((slotsCnt p.classes : Int) == p.slots) <;> simp) _) unf_c ?_
    intro a w s
    exact outP (P := Tryz.prog) (fn := Tryz.f194) unf_c (by repeat (first | exact List.Sublist.refl _ | refine List.Sublist.cons _ ?_)) ⟨rfl, cls_no4 hf, rfl⟩ a w s
   ·
    refine OL.rcallS rfl rfl rfl (.mk' rfl rfl rfl rfl rfl) (needT (by revert hf; cases fineP (graphP p) <;> cases ((slotsCnt p.classes : Int) == p.slots) <;> simp) _) ?_
    rw [Bool.and_eq_true] at hf
    obtain ⟨hf1, hfine⟩ := hf
    obtain ⟨_, hpk⟩ := graph_fine hfine
    have hsm := slotsA_mem _ _ hA
    have hgl : (graphP p).length = p.classes.length := by simp [graphP]
    refine S4 ?_; refine Ofa ?_; refine Old ?_; refine Oln ?_; refine Omv ?_; refine S3 ?_
    refine lj (fun m st => ∃ i : Nat, st = ⟨[(63, .i i), (62, .i p.classes.length), (61, .sl 3 (p.classes.map clsA)), (7, AV.intss (graphP p)), (1, .ptr (progC p))], H⟩ ∧ m = p.classes.length - i ∧ i ≤ p.classes.length ∧ (List.range i).all (clsOk p) = true) (⟨0, rfl, rfl, by omega, rfl⟩) ?_
    rintro m _ ⟨i, rfl, rfl, hi, hR⟩
    refine S2 ?_; refine Ocm ?_; refine S3 ?_
    refine CW.cond rfl (fun h2 => ?_) (fun h2 => ?_)
    ·
     replace h2 := nm h2
     have hil : i < p.classes.length := by omega
     have hcm := getD_memB hil
     refine S6 ?_; refine Omv ?_
     refine OL.popC rfl rfl rfl ((by first | exact POp.ixM rfl rfl rfl rfl rfl hil | exact POp.ixI rfl rfl rfl rfl rfl hil)) ?_
     refine Ola ?_
     refine OL.alC rfl rfl rfl rfl (fun cb => ?_)
     refine Oas ?_; refine Sto ?_; refine S4 ?_; refine Omv ?_; refine Omv ?_; refine Oar ?_
     refine OL.popC rfl rfl rfl (POp.call (.mk' rfl rfl rfl rfl rfl) (linT hfine (c := (i : Int) + 3) (by omega))) ?_
     refine Omv ?_; refine Oex ?_; refine Oex ?_; refine Oas ?_; refine Oas ?_; refine S4 ?_; refine Omv ?_; refine Ocm ?_
     rcases bool_or ((linP (graphP p) ((i : Int) + 3)).isEmpty) with hl | hl
     ·
      refine OL.rcallS rfl rfl rfl (.mk' rfl rfl rfl rfl rfl) (needT (by rw [hl]; rfl) _) ?_
      refine S4 ?_; refine Ola ?_; refine Omv ?_; refine Oar ?_
      refine OL.popC rfl rfl rfl (POp.call (.mk' rfl rfl rfl rfl rfl) (hasC p (by omega) (fun c h => by have := (hsm c h).1; omega) hpk (k := (i : Int) + 3) (by unfold smallKey; omega) (by omega))) ?_
      refine OL.mkMap rfl rfl rfl rfl (fun mb => ?_)
      refine Oas ?_; refine Oas ?_; refine S4 ?_; refine Ofa ?_; refine Old ?_; refine Oln ?_; refine Omv ?_; refine S3 ?_
      refine CW.subH (H' := imapE mb [] :: H) (.cons_cons _ (.cons _ (.refl _))) ?_
      obtain ⟨mine, hmine⟩ : ∃ mine, mine = hasP p ((i : Int) + 3) := ⟨_, rfl⟩
      rw [← hmine]
      refine CW.boundM (t := 84) rfl (fun hb84 => ?_)
      refine lj (fun m st => ∃ (j : Nat) (l : List (Int × AV)), st = ⟨[(86, .i j), (85, .i (p.classes.getD i default).inits.length), (84, .sl 2 ((p.classes.getD i default).inits.map initA)), (12, AV.ints mine), (13, .val (.map (some mb))), (63, .i i), (62, .i p.classes.length), (61, .sl 3 (p.classes.map clsA)), (7, AV.intss (graphP p)), (1, .ptr (progC p))], imapE mb l :: H⟩ ∧ m = (p.classes.getD i default).inits.length - j ∧ j ≤ (p.classes.getD i default).inits.length ∧ MapSet l (((p.classes.getD i default).inits.take j).map (·.1)) ∧ inits1 mine ((p.classes.getD i default).inits.take j) [] = true) (⟨0, [], rfl, rfl, by omega, MapSet.nil, rfl⟩) ?_
      rintro m _ ⟨j, l, rfl, rfl, hj, hS, hin⟩
      refine S2 ?_; refine Ocm ?_; refine S3 ?_
      refine CW.cond rfl (fun h3 => ?_) (fun h3 => ?_)
      ·
       replace h3 := nm h3
       have hjl : j < (p.classes.getD i default).inits.length := by omega
       obtain ⟨X, hX⟩ : ∃ X, X = (p.classes.getD i default).inits.getD j default := ⟨_, rfl⟩
       have hsx : mine.contains X.1 = true → smallKey X.1 := fun h => by
        rw [hmine] at h
        obtain ⟨c, h1, h2⟩ := hasP_mem (List.contains_iff_mem.1 h)
        have := (hsm c h1).2 _ h2
        unfold smallKey; omega
       refine S6 ?_
       refine OL.popC rfl rfl rfl ((by first | exact POp.ixM rfl rfl rfl rfl rfl hjl | exact POp.ixI rfl rfl rfl rfl rfl hjl)) ?_
       refine Ola ?_
       refine OL.alC rfl rfl rfl rfl (fun ib => ?_)
       refine Sto ?_; refine S3 ?_
       rw [← hX]
       refine S1 ?_; refine Omv ?_; refine Ofa ?_; refine Old ?_
       refine OL.popC rfl rfl rfl (POp.call (.mk' rfl rfl rfl rfl rfl) (sContains mine X.1)) ?_
       refine Omv ?_; refine Pmv ?_; refine Pfa ?_; refine Pld ?_
       refine OL.guardC rfl rfl rfl rfl rfl rfl (fun hg => POp.lookupS rfl rfl (gd hg) rfl (gd hg) (.tail _ (.head _)) hS (hsx hg)) ?_
       refine Pnt ?_; refine Opk ?_; refine Omv ?_; refine Pfa ?_; refine Pld ?_
       refine OL.guardC rfl rfl rfl rfl rfl rfl (fun hg => POp.call (.mk' rfl rfl rfl rfl (by first | rfl | ((repeat (first | exact hg | rfl | refine Bool.and_eq_true_iff.2 ⟨?_, ?_⟩)); done) | simp_all [strip, constAV])) (between X.2)) ?_
       refine Opk ?_
       rcases bool_or ((mine.contains X.1 && !(((p.classes.getD i default).inits.take j).map (·.1)).contains X.1 && inP X.2)) with hb | hb
       ·
        refine OL.rcallN rfl rfl (.mk' rfl rfl rfl rfl rfl) (needF (by simp only [Bool.cond_false_right]; exact hb) _) unf_c ?_
        intro a w s
        exact outP (P := Tryz.prog) (fn := Tryz.f194) unf_c (by repeat (first | exact List.Sublist.refl _ | refine List.Sublist.cons _ ?_)) ⟨rfl, cls_no5 hil (by rw [hmine] at hb; exact cls_in hjl (by rw [← hX]; exact hb)), rfl⟩ a w s
       ·
        refine OL.rcallS rfl rfl rfl (.mk' rfl rfl rfl rfl rfl) (needT (by simp only [Bool.cond_false_right]; exact hb) _) ?_
        have hcx : mine.contains X.1 = true := by simp only [Bool.and_eq_true] at hb; exact hb.1.1
        refine S3 ?_; refine Omv ?_; refine Ofa ?_; refine Old ?_
        refine OL.mapPut (u' := .b true) rfl rfl (.inl rfl) rfl rfl rfl rfl rfl rfl (AVle.refl _) (.tail _ _ _ _ _ (.head _ _ _)) hS.ok (hsx hcx) ?_
        refine S4 ?_; refine Oar ?_; refine Omv ?_; refine S1 ?_
        exact ag (⟨j + 1, _, rfl, rfl, hjl, by rw [← take_getD hjl, List.map_append, ← hX]; exact hS.put (hsx hcx), by rw [inits1_take mine _ _ _ hjl, hin, ← hX, List.nil_append, hb]; rfl⟩)
      ·
       replace h3 := nm h3
       obtain rfl : j = (p.classes.getD i default).inits.length := by omega
       rw [List.take_length] at hin
       refine S7 ?_; refine Oar ?_; refine Omv ?_; refine S1 ?_
       exact ag (⟨i + 1, rfl, rfl, hil, range_step hR (by unfold clsOk; rw [hl, ← hmine, hin]; rfl)⟩)
     ·
      refine OL.rcallN rfl rfl (.mk' rfl rfl rfl rfl rfl) (needF (by rw [hl]; rfl) _) unf_c ?_
      intro a w s
      exact outP (P := Tryz.prog) (fn := Tryz.f194) unf_c (by repeat (first | exact List.Sublist.refl _ | refine List.Sublist.cons _ ?_)) ⟨rfl, cls_no5 hil (by unfold clsOk; rw [hl]; rfl), rfl⟩ a w s
    ·
     replace h2 := nm h2
     obtain rfl : i = p.classes.length := by omega
     refine S4 ?_
     refine Done.norR (rs := []) (H' := H) rfl (.nil) (AVleL.refl _) (by repeat (first | exact List.Sublist.refl _ | refine List.Sublist.cons _ ?_)) ?_
     exact ⟨by unfold classesP; rw [decide_eq_true hlen, hA, hf1, hfine, hR]; rfl, rfl⟩
theorem speaksC : ∀ {f : Fact}, smallA f = true → PCall Tryz.prog 203 [AV.fact f] (.i (speaksP f)) := fun {f} => by
 refine Fact.ind1 (P := fun f => smallA f = true → PCall Tryz.prog 203 [AV.fact f] (.i (speaksP f))) (fun f ih hf => speaks_step f hf fun k hk => ih k hk ((smallA_iff hf).2.2 k hk)) f
theorem factFormedC (W : Fc.FW) (f : Fact) : PCall Tryz.prog 202 [AV.world W, AV.fact f] (.i (if worldP W && formedP W f then 0 else 2)) := by
 cases h : worldP W with
 | true => simpa using factFormedT h f
 | false => simpa using factFormedF h f
theorem sizes1 {p : Prog} (hp : p.Small) (ob : Nat) (H : List Ent) : ACall Tryz.prog 193 [.ptr (progC p), .p ob 0] (.blk ob 23 [(.val (.slice none 0 0))] :: H) (fun _ H' => ∃ nb o, sizesP p = some o ∧ H' = outH ob nb p.nodes.length o ++ H) (fun y H' => y = unfA ∧ sizesP p = none ∧ ∃ v, H' = .blk ob 23 [.val v] :: H) := by
 refine ACall.mk' (n := 130) Tryz.func193 rfl (by kernel_rfl) rfl rfl (fun B I w0 => ?_)
 refine S2 ?_; refine Ola ?_
 refine OL.bcall rfl rfl (.mk' rfl rfl rfl rfl rfl) (classesC hp _).b ?_ ?_
 ·
  rintro y H1 ⟨hcl, rfl⟩
  obtain ⟨hc10, hcs⟩ := classes_small hcl
  refine S4 ?_; refine Ofa ?_; refine Old ?_; refine Oln ?_; refine Ocm ?_; refine Omv ?_; refine Pfa ?_; refine Pld ?_; refine Pln ?_; refine Pcm ?_; refine Opk ?_; refine Omv ?_
  refine Pfa ?_; refine Pld ?_; refine Pln ?_; refine Pcm ?_; refine Opk ?_; refine Omv ?_; refine Pfa ?_; refine Pld ?_; refine Pln ?_; refine Pcm ?_; refine Opk ?_
  rcases bool_or (headP p) with hh | hh
  ·
   refine OL.rcallN rfl rfl (.mk' rfl rfl rfl rfl rfl) (needF (by simp only [Bool.cond_false_right]; exact hh) _) unf_c ?_
   intro a w s
   exact outP (P := Tryz.prog) (fn := Tryz.f193) unf_c (.refl _) ⟨rfl, szs_no2 hh, _, rfl⟩ a w s
  ·
   refine OL.rcallS rfl rfl rfl (.mk' rfl rfl rfl rfl rfl) (needT (by simp only [Bool.cond_false_right]; exact hh) _) ?_
   have hh2 := hh
   simp only [headP, Bool.and_eq_true, decide_eq_true_eq] at hh2
   refine S5 ?_; refine Ofa ?_; refine Old ?_; refine Oln ?_; refine Omv ?_; refine S3 ?_
   refine lj (fun m st => ∃ i : Nat, st = ⟨[(36, .i i), (35, .i p.gens.length), (34, AV.ints p.gens), (0, .ptr (progC p)), (1, .p ob 0)], .blk ob 23 [(.val (.slice none 0 0))] :: H⟩ ∧ m = p.gens.length - i ∧ i ≤ p.gens.length ∧ (p.gens.take i).all genP = true) (⟨0, rfl, rfl, by omega, rfl⟩) ?_
   rintro m _ ⟨i, rfl, rfl, hi, hga⟩
   refine S2 ?_; refine Ocm ?_; refine S3 ?_
   refine CW.cond rfl (fun h0 => ?_) (fun h0 => ?_)
   ·
    replace h0 := nm h0
    have hil : i < p.gens.length := by omega
    refine S6 ?_
    refine OL.popC rfl rfl rfl ((by first | exact POp.ixM rfl rfl rfl rfl rfl hil | exact POp.ixI rfl rfl rfl rfl rfl hil)) ?_
    refine Old ?_; refine Oas ?_; refine S3 ?_; refine Omv ?_; refine Ocm ?_; refine Omv ?_; refine Pmv ?_; refine Pcm ?_; refine Opk ?_
    rcases bool_or (genP (p.gens.getD i default)) with h1 | h1
    ·
     refine OL.rcallN rfl rfl (.mk' rfl rfl rfl rfl rfl) (needF (by simp only [Bool.cond_false_right]; exact h1) _) unf_c ?_
     intro a w s
     exact outP (P := Tryz.prog) (fn := Tryz.f193) unf_c (.refl _) ⟨rfl, szs_no3 (all_noG hil h1), _, rfl⟩ a w s
    ·
     refine OL.rcallS rfl rfl rfl (.mk' rfl rfl rfl rfl rfl) (needT (by simp only [Bool.cond_false_right]; exact h1) _) ?_
     refine S4 ?_; refine Oar ?_; refine Omv ?_; refine S1 ?_
     exact ag (⟨i + 1, rfl, rfl, hil, by rw [← take_getD hil, List.all_append, hga, List.all_cons, h1]; rfl⟩)
   ·
    replace h0 := nm h0
    obtain rfl : i = p.gens.length := by omega
    rw [List.take_length] at hga
    refine S7 ?_
    refine OL.popC (x := .sl 1 [[.i (-1)]]) rfl rfl rfl (POp.row rfl rfl (by first | rfl | simp_all [strip]) rfl rfl rfl rfl rfl rfl) ?_
    refine Ofa ?_; refine Old ?_; refine Oln ?_
    refine OL.bcallC rfl rfl rfl (.mk' rfl rfl rfl rfl rfl) (repeatI p.nodes.length (by omega) _).b ?_
    ·
     rintro _ _ ⟨nb, rfl, rfl⟩
     refine Sto ?_; refine S3 ?_
     refine CW.perm (H' := .blk ob 23 [(.val (.slice (some ⟨nb, 0, none⟩) p.nodes.length p.nodes.length))] :: .blk nb 3 (List.replicate p.nodes.length (.i (-1))) :: H) (.swap _ _ _) ?_
     refine CW.eqH (H' := outH ob nb p.nodes.length (out0 p) ++ H) (by rw [← out0_map]; rfl) ?_
     refine S1 ?_; refine Omf ?_; refine Oas ?_; refine S4 ?_; refine Ola ?_
     refine OL.popC rfl rfl rfl (POp.call (.mk' rfl rfl rfl rfl rfl) (worldB p (by omega) hcs)) ?_
     refine OL.alC rfl rfl rfl rfl (fun wb => ?_)
     refine Sto ?_; refine S4 ?_
     refine CW.freezeP (d := 5) rfl (by repeat (first | exact Del.head _ _ | apply Del.tail)) ?_
     refine S1 ?_; refine Ofa ?_; refine Old ?_; refine Oln ?_; refine Omv ?_; refine S3 ?_
     refine lj (fun m st => ∃ (i : Nat) (o : List Int), st = ⟨[(59, .i i), (58, .i p.methods.length), (57, .sl 9 (p.methods.map mthA)), (5, .ptr (Wcells (worldOf p))), (4, (.fn (.func 197) [] [.ptr (progC p), .p ob 0])), (0, .ptr (progC p)), (1, .p ob 0)], outH ob nb p.nodes.length o ++ H⟩ ∧ m = p.methods.length - i ∧ i ≤ p.methods.length ∧ methodsN p p.methods (out0 p) = methodsN p (p.methods.drop i) o ∧ o.length = p.nodes.length) (⟨0, out0 p, rfl, rfl, by omega, rfl, by simp [out0]⟩) ?_
     rintro m _ ⟨i, o, rfl, rfl, hi, hmN, hol⟩
     refine S2 ?_; refine Ocm ?_; refine S3 ?_
     refine CW.cond rfl (fun h1 => ?_) (fun h1 => ?_)
     ·
      replace h1 := nm h1
      have hil : i < p.methods.length := by omega
      obtain ⟨M, hM⟩ : ∃ M, M = (p.methods.getD i default) := ⟨_, rfl⟩
      refine S6 ?_
      refine OL.popC rfl rfl rfl ((by first | exact POp.ixM rfl rfl rfl rfl rfl hil | exact POp.ixI rfl rfl rfl rfl rfl hil)) ?_
      refine Ola ?_
      refine OL.alC rfl rfl rfl rfl (fun b1 => ?_)
      refine Sto ?_; refine S3 ?_
      rw [← hM]
      refine CW.freezeP (d := 7) rfl (by repeat (first | exact Del.head _ _ | apply Del.tail)) ?_
      refine S1 ?_; refine Ofa ?_; refine Old ?_; refine Ocm ?_; refine Omv ?_; refine Pfa ?_; refine Pld ?_; refine Pcm ?_; refine Opk ?_; refine Omv ?_; refine Pfa ?_; refine Pld ?_
      refine Pcm ?_; refine Opk ?_; refine Omv ?_; refine Pfa ?_; refine Pld ?_; refine Pfa ?_; refine Pld ?_; refine Pln ?_; refine Pcm ?_; refine Opk ?_
      rcases bool_or (mth1 p M) with h1 | h1
      ·
       refine OL.rcallN rfl rfl (.mk' rfl rfl rfl rfl rfl) (needF (by simp only [Bool.cond_false_right]; exact h1) _) unf_c ?_
       intro a w s
       exact outP (P := Tryz.prog) (fn := Tryz.f193) unf_c (.cons_cons _ (.cons _ (.refl _))) ⟨rfl, szs_no4 (by rw [hmN]; exact mths_no hil hM (by rw [h1]; rfl)), _, rfl⟩ a w s
      ·
       refine OL.rcallS rfl rfl rfl (.mk' rfl rfl rfl rfl rfl) (needT (by simp only [Bool.cond_false_right]; exact h1) _) ?_
       have hm1 := h1
       simp only [mth1, Bool.and_eq_true, decide_eq_true_eq] at hm1
       have hgm : M.gen.toNat < p.gens.length := by omega
       have hgn := gens_in hga (getD_memB hgm)
       refine S3 ?_
       refine CW.dp mixed ?_
       refine DP.anyC 0 3 130 rfl (by decide +kernel) rfl rfl (by decide +kernel) ?_
       refine Ala ?_; refine Afa ?_; refine Ala ?_
       refine AD.nil ?_
       refine DP.one (k := 3) (by decide +kernel) rfl ?_
       refine OL.popC rfl rfl rfl (POp.call (.mk' rfl rfl rfl rfl rfl) (factFormedC (worldOf p) M.fact)) ?_
       refine OL.nil (Done.dp ?_)
       refine DP.one (k := 4) (by decide +kernel) rfl ?_
       refine Ocm ?_
       refine OL.nil (Done.dp ?_)
       refine DP.one (k := 5) (by decide +kernel) rfl ?_
       refine Omv ?_
       refine OL.nil (Done.dp ?_)
       refine DP.anyC 6 15 130 rfl (by decide +kernel) rfl rfl (by decide +kernel) ?_
       refine AD.guardC rfl rfl rfl rfl rfl (fun hg => (by first | exact POp.fa rfl rfl rfl rfl | exact POp.faP rfl rfl rfl rfl)) ?_
       refine AD.guardC rfl rfl rfl rfl rfl (fun hg => (by first | exact POp.ldA rfl rfl (gd hg) rfl | (apply POp.ldAH rfl rfl (gd hg); (case hm => repeat (first | exact .head _ | refine .tail _ ?_)); (case hy => rfl); (case hn => rfl)))) ?_
       refine AD.guardC rfl rfl rfl rfl rfl (fun hg => POp.call (.mk' rfl rfl rfl rfl (by first | rfl | ((repeat (first | exact hg | rfl | refine Bool.and_eq_true_iff.2 ⟨?_, ?_⟩)); done) | simp_all [strip, constAV])) (speaksC (formed_smallA (w := worldOf p) (by have := zero_of_if hg; rw [Bool.and_eq_true] at this; exact this.2)))) ?_
       refine AD.guardC rfl rfl rfl rfl rfl (fun hg => (by first | exact POp.fa rfl rfl rfl rfl | exact POp.faP rfl rfl rfl rfl)) ?_
       refine AD.guardC rfl rfl rfl rfl rfl (fun hg => (by first | exact POp.ld1 rfl rfl (gd hg) rfl | (apply POp.ld1H rfl rfl (gd hg); (case hm => repeat (first | exact .head _ | refine .tail _ ?_)); (case hy => rfl)))) ?_
       refine AD.guardC rfl rfl rfl rfl rfl (fun hg => (by first | exact POp.fa rfl rfl rfl rfl | exact POp.faP rfl rfl rfl rfl)) ?_
       refine AD.guardC rfl rfl rfl rfl rfl (fun hg => (by first | exact POp.ld1 rfl rfl (gd hg) rfl | (apply POp.ld1H rfl rfl (gd hg); (case hm => repeat (first | exact .head _ | refine .tail _ ?_)); (case hy => rfl)))) ?_
       refine AD.guardC rfl rfl rfl rfl rfl (fun hg => (by first | exact POp.ixM rfl rfl (gd hg) rfl (gd hg) ⟨by omega, by omega⟩ | exact POp.ixI rfl rfl (gd hg) rfl (gd hg) ⟨by omega, by omega⟩)) ?_
       refine AD.guardC rfl rfl rfl rfl rfl (fun hg => (by first | exact POp.ld1 rfl rfl (gd hg) rfl | (apply POp.ld1H rfl rfl (gd hg); (case hm => repeat (first | exact .head _ | refine .tail _ ?_)); (case hy => rfl)))) ?_
       refine AD.nil ?_
       refine DP.tailC 15 (by decide +kernel) rfl ?_
       refine Pcm ?_; refine Opk ?_
       rcases bool_or (mth2 p M) with h2 | h2
       ·
        refine OL.rcallN rfl rfl (.mk' rfl rfl rfl rfl rfl) (needF (by rw [Bool.cond_false_right, if_zero]; exact h2) _) unf_c ?_
        intro a w s
        exact outP (P := Tryz.prog) (fn := Tryz.f193) unf_c (.cons_cons _ (.cons _ (.refl _))) ⟨rfl, szs_no4 (by rw [hmN]; exact mths_no hil hM (by rw [h2, Bool.and_false])), _, rfl⟩ a w s
       ·
        refine OL.rcallS rfl rfl rfl (.mk' rfl rfl rfl rfl rfl) (needT (by rw [Bool.cond_false_right, if_zero]; exact h2) _) ?_
        refine S2 ?_
        refine CW.dp mixed ?_
        refine DP.anyC 0 17 130 rfl (by decide +kernel) rfl rfl (by decide +kernel) ?_
        refine Amv ?_; refine Afa ?_; refine Ald ?_; refine Afa ?_; refine Ald ?_; refine Afa ?_; refine Ald ?_
        refine AD.popC rfl rfl rfl ((by first | exact POp.ixM rfl rfl rfl rfl rfl ⟨by omega, by omega⟩ | exact POp.ixI rfl rfl rfl rfl rfl ⟨by omega, by omega⟩)) ?_
        refine Ald ?_; refine Afa ?_; refine Ald ?_; refine Acm ?_; refine Amv ?_
        refine AD.guardC rfl rfl rfl rfl rfl (fun hg => (by first | exact POp.fa rfl rfl rfl rfl | exact POp.faP rfl rfl rfl rfl)) ?_
        refine AD.guardC rfl rfl rfl rfl rfl (fun hg => (by first | exact POp.ld1 rfl rfl (gd hg) rfl | (apply POp.ld1H rfl rfl (gd hg); (case hm => repeat (first | exact .head _ | refine .tail _ ?_)); (case hy => rfl)))) ?_
        refine AD.guardC rfl rfl rfl rfl rfl (fun hg => POp.cmp rfl rfl rfl (gd hg) rfl rfl) ?_
        refine Apk ?_
        refine AD.nil ?_
        refine DP.tailC 17 (by decide +kernel) rfl ?_
        have hnx : (bif (M.kind == 1) then true else (M.kind == 4)) = nextM M := by unfold nextM; rw [Bool.cond_true_left]
        refine OL.bcall rfl rfl (.mk' rfl rfl rfl rfl rfl) (bodyS rfl M.node (p.gens.getD M.gen.toNat default) _ (by omega) o hol (by omega) ob nb H).b ?_ ?_
        ·
         rintro y H1 ⟨hv, rfl⟩
         rw [hnx] at hv ⊢
         have hgo := visit_end (p := p) (next := nextM M) (x := bodyV p M) rfl hv
         refine S4 ?_; refine Oar ?_; refine Omv ?_; refine S1 ?_
         exact ag (⟨i + 1, outsV (visit p (nextM M) 13 (bodyV p M) o).1 o, rfl, rfl, hil, by rw [hmN, mths_go hil hM (by rw [h1, h2]; rfl) hgo], by rw [outsV_len, hol]⟩)
        ·
         rintro y H1 ⟨rfl, hv, o1, rfl⟩ a w s I v hv2
         rw [unf_c.is _ _ _ hv2]
         rw [hnx] at hv
         exact outP (P := Tryz.prog) (fn := Tryz.f193) unf_c (.cons_cons _ (.cons _ (.refl _))) ⟨rfl, szs_no4 (by rw [hmN]; exact mths_stop hil hM (Option.isNone_iff_eq_none.1 hv)), _, rfl⟩ a w s
     ·
      replace h1 := nm h1
      obtain rfl : i = p.methods.length := by omega
      rw [List.drop_length] at hmN
      replace hmN : methodsN p p.methods (out0 p) = some o := hmN
      refine S7 ?_; refine Omv ?_; refine Ofa ?_; refine Old ?_
      refine OL.bcall rfl rfl (.mk' rfl rfl rfl rfl rfl) (bodyS rfl p.main 0 false (by omega) o hol (by omega) ob nb H).b ?_ ?_
      ·
       rintro y H1 ⟨hv, rfl⟩
       have hgo := visit_end (p := p) (next := false) (x := ⟨p.main, 0, 1⟩) rfl hv
       obtain ⟨o2, ho2⟩ : ∃ o2, o2 = outsV (visit p false 13 ⟨p.main, 0, 1⟩ o).1 o := ⟨_, rfl⟩
       rw [← ho2] at hgo ⊢
       have hol2 : o2.length = p.nodes.length := by rw [ho2, outsV_len, hol]
       refine S3 ?_; refine Old ?_
       refine OL.popC rfl rfl rfl (POp.callB (.mk' rfl rfl rfl rfl rfl) (Borrow.outs (pre := []) (.tail _ (.head _)) hol2 (by omega)) (sContains o2 (-1))) ?_
       refine Ont ?_
       rcases bool_or (o2.contains (-1)) with h3 | h3
       ·
        refine OL.rcallS rfl rfl rfl (.mk' rfl rfl rfl rfl rfl) (needT (by rw [h3]; rfl) _) ?_
        refine S1 ?_
        refine Done.norR (rs := []) (H' := outH ob nb p.nodes.length o2 ++ H) rfl (.nil) (AVleL.refl _) (by repeat (first | exact List.Sublist.refl _ | refine List.Sublist.cons _ ?_)) ?_
        exact ⟨nb, o2, szs_yes hcl hh hga hmN hgo h3, rfl⟩
       ·
        refine OL.rcallN rfl rfl (.mk' rfl rfl rfl rfl rfl) (needF (by rw [h3]; rfl) _) unf_c ?_
        intro a w s
        exact outP (P := Tryz.prog) (fn := Tryz.f193) unf_c (.cons_cons _ (.cons _ (.refl _))) ⟨rfl, szs_no6 hmN hgo h3, _, rfl⟩ a w s
      ·
       rintro y H1 ⟨rfl, hv, o1, rfl⟩ a w s I v hv2
       rw [unf_c.is _ _ _ hv2]
       exact outP (P := Tryz.prog) (fn := Tryz.f193) unf_c (.cons_cons _ (.cons _ (.refl _))) ⟨rfl, szs_no5 hmN (Option.isNone_iff_eq_none.1 hv), _, rfl⟩ a w s
 ·
  rintro y H1 ⟨rfl, hcl, rfl⟩ a w s I v hv
  rw [unf_c.is _ _ _ hv]
  exact outP (P := Tryz.prog) (fn := Tryz.f193) unf_c (.refl _) ⟨rfl, szs_no1 hcl, _, rfl⟩ a w s
theorem assert_unf (w : World) : (Instr.typeAssert unfV 20 253 true).run Tryz.prog w = .ok (.tuple #[.agg #[], .bool true]) w := by
 simp [Instr.typeAssert, run_underlying (show Tryz.prog.underlying 253 = some (.struct #[]) by kernel_rfl)]
theorem catch_panicking (b : Nat) (x : Bool) (w : World) (hc : w.cell? ⟨b, 0, none⟩ = some (.bool x)) (hz : w.frozen? ⟨b, 0, none⟩ = false) (hb : b < w.heap.size) :
  CallsDIn (Eng.FW none) 0 Tryz.prog 221 #[.pointer (some ⟨b, 0, none⟩)] (.panicking [{ v := unfV, recovered := false }]) w fun e u' w' =>
   e = .returned (.tuple #[]) ∧ u' = .panicking [{ v := unfV, recovered := true }] ∧ w' = (w.alloc (.cells #[] 253)).setCell ⟨b, 0, none⟩ (.bool false) := by
 have hc2 : (w.alloc (.cells #[] 253)).cell? ⟨b, 0, none⟩ = some (.bool x) := by rw [World.cell?_alloc_lt w _ ⟨b, 0, none⟩ hb]; exact hc
 have hz2 : (w.alloc (.cells #[] 253)).frozen? ⟨b, 0, none⟩ = false := by rw [World.frozen?_of_block (Go.RowKit.Below.heap_alloc w _ b hb)]; exact hz
 refine callsDIn_of_wpSIn Tryz.func221 rfl trivial fun c₀ cs hu => ?_
 apply wpSIn_seq
 apply wpSIn_region
 have hta := fun w => assert_unf w
 simp [wpOpsSIn, go_sem, recoverD, hu, Tryz.ntmps221, Exit.thenS, Eng.FW, hta]
 apply wpSIn_seq
 apply wpSIn_region
 simp [wpOpsSIn, go_sem, Exit.thenS]
 refine wpSIn_cond (t := true) (by simp [Act.eval, Array.replicate]) ?_
 simp only [if_true]
 apply wpSIn_seq
 apply wpSIn_seq
 apply wpSIn_region
 simp [wpOpsSIn, go_sem, Exit.thenS, hta]
 apply wpSIn_seq
 apply wpSIn_region
 simp [wpOpsSIn, go_sem, Exit.thenS]
 refine wpSIn_cond (t := false) (by simp [Act.eval, Array.replicate]) ?_
 simp only [Bool.false_eq_true, if_false]
 refine wpSIn_of_wpIn rfl (wpIn_skip ?_)
 simp only [Exit.thenS]
 apply wpSIn_region
 simp [wpOpsSIn, go_sem, hc2, hz2, bodyPostS, results, Tryz.results221]
theorem catch_idle (b : Nat) (w : World) :
  CallsDIn (Eng.FW none) 0 Tryz.prog 221 #[.pointer (some ⟨b, 0, none⟩)] .returning w fun e u' w' => e = .returned (.tuple #[]) ∧ u' = .returning ∧ w' = w := by
 refine callsDIn_of_wpSIn Tryz.func221 rfl trivial fun c₀ cs hu => ?_
 apply wpSIn_seq
 apply wpSIn_region
 simp [wpOpsSIn, go_sem, recoverD, hu, Tryz.ntmps221, Exit.thenS, Eng.FW]
 apply wpSIn_seq
 apply wpSIn_region
 simp [wpOpsSIn, go_sem, Exit.thenS]
 refine wpSIn_cond (t := false) (by simp [Act.eval, Array.replicate]) ?_
 simp only [Bool.false_eq_true, if_false]
 refine wpSIn_of_wpIn rfl (wpIn_skip ?_)
 cases c₀
 simp_all [bodyPostS, results, Tryz.results221]
def dfr (tb : Nat) : Deferred := { target := .fn (.func 221) #[.pointer (some ⟨tb, 0, none⟩)], args := #[] }
theorem leave_formed {B : Nat} {I0 : Imm} {w0 : World} {env : List (Nat × AV)} {tb : Nat} {x : Bool} {H : List Ent} {a : Act} {w : World} {Φ E : AV → List Ent → Prop} (hΦ : Φ (.b x) H) (hs : ∃ I, WOk B I w ∧ Ext B I0 w0 I w ∧ HeapOk B I w (.blk tb 4 [.b x] :: H) ∧ EnvOk I w (envGet env) a) (ht : envGet env 2 = some (.p tb 0)) :
  LeavesIn (Eng.FW none) 0 Tryz.prog Tryz.f192 a.tmps (RetP B I0 w0 Φ E) [] .returning w := by
 obtain ⟨I, hw, he, hh, hv⟩ := hs
 obtain ⟨v, h1, h2⟩ := ResOk.res (P := Tryz.prog) (c := ⟨B, I0, w0, 0, []⟩) (st := ⟨env, .blk tb 4 [.b x] :: H⟩) hh hv (fn := Tryz.f192) (rs := [.cell 2 4]) rfl (.cell1 inferInstance ht (.head _) rfl .nil)
 exact ⟨v, h1, I, H, hw, he, hh.tail, .inl ⟨v, _, rfl, h2, hΦ⟩⟩
theorem invoke_dfr (tb : Nat) (w : World) : (invoke (.fn (.func 221) #[.pointer (some ⟨tb, 0, none⟩)]) #[]).run Tryz.prog w = .ok (.enter 221 #[.pointer (some ⟨tb, 0, none⟩)]) w := by
 have : fnOk Tryz.prog 221 = true := by kernel_rfl
 have h := run_callFunc this #[.pointer (some ⟨tb, 0, none⟩)] w
 simp [invoke]
theorem ret_formed {B : Nat} {I0 : Imm} {w0 : World} {env : List (Nat × AV)} {tb : Nat} {x : Bool} {H : List Ent} {a : Act} {w : World} {Φ E : AV → List Ent → Prop} {n : Nat} (hΦ : Φ (.b x) H) (s : Sat ⟨B, I0, w0, n, [dfr tb]⟩ ⟨env, .blk tb 4 [.b x] :: H⟩ a w) (ht : envGet env 2 = some (.p tb 0)) :
  bodyPostDIn (Eng.FW none) 0 Tryz.prog Tryz.f192 (RetP B I0 w0 Φ E) .ret a w := by
 show LeavesIn _ _ _ _ _ _ a.defers .returning w
 rw [s.ds]
 refine leavesIn_cons (f := 221) (args := #[.pointer (some ⟨tb, 0, none⟩)]) (by simp) (by simp [Eng.FW]) (invoke_dfr tb w) (fun _ _ => trivial) ?_
 refine (catch_idle tb w).mono ?_
 rintro e u' w' ⟨rfl, rfl, rfl⟩
 exact leave_formed hΦ s.mem ht
theorem pan_formed {B : Nat} {I0 : Imm} {w0 : World} {env : List (Nat × AV)} {tb : Nat} {x : Bool} {H : List Ent} {a : Act} {w : World} {Φ E : AV → List Ent → Prop} {n : Nat} (hΦ : Φ (.b false) H) (s : Sat ⟨B, I0, w0, n, [dfr tb]⟩ ⟨env, .blk tb 4 [.b x] :: H⟩ a w) (ht : envGet env 2 = some (.p tb 0)) :
  bodyPostDIn (Eng.FW none) 0 Tryz.prog Tryz.f192 (RetP B I0 w0 Φ E) (.panic [{ v := unfV, recovered := false }]) a w := by
 show LeavesIn _ _ _ _ _ _ a.defers (.panicking [{ v := unfV, recovered := false }]) w
 rw [s.ds]
 obtain ⟨I, hw, he, hh, hv⟩ := s.mem
 obtain ⟨hB, vs, hb, hr, hni⟩ := hh.ok _ (.head _)
 have hvs : vs = #[.bool x] := by
  have h1 := rel_vals (vs := [.bool x]) hr
  exact Array.toList_inj.1 h1
 subst hvs
 have hlt : tb < w.heap.size := (Array.getElem?_eq_some_iff.1 hb).1
 refine leavesIn_cons (f := 221) (args := #[.pointer (some ⟨tb, 0, none⟩)]) (by simp) (by simp [Eng.FW]) (invoke_dfr tb w) (fun _ _ => trivial) ?_
 refine (catch_panicking tb x w (by rw [cell_of_blk hb]; rfl) (by simp [World.frozen?, hb]) hlt).mono ?_
 rintro e u' w' ⟨rfl, rfl, rfl⟩
 have hw1 := hw.alloc (.cells #[] 253)
 have hh1 := hh.alloc hw (.cells #[] 253)
 have hb1 : (w.alloc (.cells #[] 253)).heap[tb]? = some (.cells #[.bool x] 4 (0, 0)) := by rw [Go.RowKit.Below.heap_alloc w _ tb hlt]; exact hb
 have hk1 := keeps_alloc hw (.cells #[] 253)
 have he1 := he.trans (ext_alloc hw (.cells #[] 253))
 have hv1 := hv.keep hk1
 generalize w.alloc (.cells #[] 253) = w1 at *
 have hset : (w1.setCell ⟨tb, 0, none⟩ (.bool false)).heap[tb]? = some (.cells #[.bool false] 4 (0, 0)) := one_setCell hb1
 have hcell : ∀ b i, I b i → (w1.setCell ⟨tb, 0, none⟩ (.bool false)).cell? ⟨b, i, none⟩ = w1.cell? ⟨b, i, none⟩ := fun b i hI =>
  World.cell?_of_block (a := ⟨b, i, none⟩) (Go.RowKit.Below.heap_setCell _ _ _ _ (fun e => hni i (by rw [← (show b = tb from e)]; exact hI)))
 have hk2 : Keeps I w1 I (w1.setCell ⟨tb, 0, none⟩ (.bool false)) := ⟨fun _ _ h => h, hcell⟩
 have hbel := (Go.RowKit.Below.refl B w1).setCell (p := ⟨tb, 0, none⟩) hB (.bool false)
 exact leave_formed (x := false) (env := env) hΦ ⟨I, ⟨Nat.le_trans hw1.base hbel.size, fun b i hI => by rw [hcell b i hI]; exact hw1.there b i hI⟩, he1.trans ⟨fun _ _ h => h, hcell, hbel⟩,
  hh1.upd (.head _ _ _) hk2 (fun b _ hne => Go.RowKit.Below.heap_setCell _ _ _ _ (fun e => hne (by rw [show b = tb from e]; rfl))) (fun _ _ h => .inl h) ⟨hB, #[.bool false], hset, .cons _ _ _ _ (.val _) .nil, hni⟩ (fun _ h => .inl h), hv1.keep hk2⟩ ht
theorem formedC {g : Fn} {gs gc : List AV} {H : List Ent} {A Bp : List Ent → Prop} (hdo : ∀ B Hy, VCall B Tryz.prog (.fn g gs gc) [] (H ++ Hy) (fun _ H' => ∃ H1, H' = H1 ++ Hy ∧ A H1) (fun y H' => y = unfA ∧ ∃ Hf, H' = Hf ++ Hy ∧ Bp Hf)) :
  ACall Tryz.prog 192 [.fn g gs gc] H (fun x H' => (x = .b true ∧ A H') ∨ (x = .b false ∧ Bp H')) (fun _ _ => False) := by
 refine ACall.mkD (n := 6) Tryz.func192 rfl (by kernel_rfl) rfl rfl (fun B I w0 => ?_)
 refine S2 ?_
 refine OL.alC rfl rfl rfl rfl (fun tb => ?_)
 refine S4 ?_; refine Omf ?_
 refine OL.deferC (vs := [.pointer (some ⟨tb, 0, none⟩)]) rfl rfl rfl rfl rfl rfl ?_
 refine S3 ?_
 refine CW.perm (List.perm_append_singleton _ _).symm ?_
 refine S1 ?_; refine Omv ?_
 refine OL.vcall rfl rfl rfl rfl rfl rfl rfl (AVleL.refl _) (hdo B [.blk tb 4 [.b false]]) ?_ ?_
 ·
  rintro y _ ⟨H1, rfl, hA⟩
  refine S3 ?_
  refine CW.perm (List.perm_append_singleton _ _) ?_
  refine S1 ?_; refine Sto ?_; refine S3 ?_
  intro a w s
  exact ret_formed (.inl ⟨rfl, hA⟩) s rfl
 ·
  rintro y H2 ⟨rfl, Hf, rfl, hB⟩ a w s I v hv
  rw [unf_c.is _ _ _ hv]
  exact pan_formed (.inr ⟨rfl, hB⟩) (s.perm (List.perm_append_singleton _ _)) rfl
theorem sizesC {p : Prog} (hp : p.Small) (H : List Ent) : ACall Tryz.prog 144 [AV.prog p] H (fun y H' => H' = H ∧ ((∃ o, sizesP p = some o ∧ y = .tup [AV.ints o, .b true]) ∨ (sizesP p = none ∧ ∃ v, y = .tup [.val v, .b false]))) (fun _ _ => False) := by
 refine ACall.mk' (n := 10) Tryz.func144 rfl (by kernel_rfl) rfl rfl (fun B I w0 => ?_)
 refine S2 ?_; refine Obx ?_; refine Oas ?_; refine Oas ?_; refine S4 ?_
 refine OL.alC rfl rfl rfl rfl (fun ob => ?_)
 refine S4 ?_; refine Omf ?_
 refine OL.bcallC rfl rfl rfl (.mk' rfl rfl rfl rfl rfl) (formedC (H := .blk ob 23 [.val (.slice none 0 0)] :: H) (A := fun H1 => ∃ nb o, sizesP p = some o ∧ H1 = outH ob nb p.nodes.length o ++ H) (Bp := fun Hf => sizesP p = none ∧ ∃ v, Hf = .blk ob 23 [.val v] :: H)
  (fun B Hy => VCall.fn ((sizes1 hp ob (H ++ Hy)).imp (fun y H' => ?_) (fun y H' => ?_)))).b ?_
 ·rintro ⟨nb, o, h1, rfl⟩
  exact ⟨outH ob nb p.nodes.length o ++ H, by rw [List.append_assoc], nb, o, h1, rfl⟩
 ·rintro ⟨rfl, h1, v, rfl⟩
  exact ⟨rfl, .blk ob 23 [.val v] :: H, rfl, h1, v, rfl⟩
 rintro y H1 (⟨rfl, nb, o, hs, rfl⟩ | ⟨rfl, hs, v, rfl⟩)
 ·
  have hol := sizes_len hs
  refine Oas ?_; refine S4 ?_; refine Old ?_
  first | (refine OL.eqH (H' := .blk ob 23 [(.val (.slice (some ⟨nb, 0, none⟩) p.nodes.length p.nodes.length))] :: .blk nb 3 ((o.map fun n => [AV.i n]).flatten ++ []) :: H) (by rw [← ints_flat]; rfl) ?_; refine OL.freezeS (k := 1) (d := 8) rfl (.tail _ _ _ _ (.head _ _)) (by rw [List.length_map]; exact hol.1) (fun e he => by obtain ⟨y, _, rfl⟩ := List.mem_map.1 he; rfl) (Nat.le_refl _) (by simp only [maxLen]; omega) ?_) | skip
  refine Omv ?_; refine Oas ?_; refine Oas ?_; refine S3 ?_
  refine Done.retR (rs := [.tmp 2, .tmp 3]) (H' := H) rfl (.tmp rfl (.tmp rfl (.nil))) (AVleL.refl _) (by repeat (first | exact List.Sublist.refl _ | refine List.Sublist.cons _ ?_)) ?_
  exact ⟨rfl, .inl ⟨o, hs, rfl⟩⟩
 ·
  refine Oas ?_; refine S4 ?_; refine Old ?_
  first | (refine OL.eqH (H' := .blk ob 23 [(.val (.slice (some ⟨nb, 0, none⟩) p.nodes.length p.nodes.length))] :: .blk nb 3 ((o.map fun n => [AV.i n]).flatten ++ []) :: H) (by rw [← ints_flat]; rfl) ?_; refine OL.freezeS (k := 1) (d := 8) rfl (.tail _ _ _ _ (.head _ _)) (by rw [List.length_map]; exact hol.1) (fun e he => by obtain ⟨y, _, rfl⟩ := List.mem_map.1 he; rfl) (Nat.le_refl _) (by simp only [maxLen]; omega) ?_) | skip
  refine Omv ?_; refine Oas ?_; refine Oas ?_; refine S3 ?_
  refine Done.retR (rs := [.tmp 2, .tmp 3]) (H' := H) rfl (.tmp rfl (.tmp rfl (.nil))) (AVleL.refl _) (by repeat (first | exact List.Sublist.refl _ | refine List.Sublist.cons _ ?_)) ?_
  exact ⟨rfl, .inr ⟨hs, v, rfl⟩⟩
theorem checkB {p : Prog} (hp : p.Small) : PCall Tryz.prog 72 [AV.prog p] (.i (if (sizesP p).isSome then 0 else 2)) := by
 intro H
 refine ACall.mk' (n := 12) Tryz.func72 rfl (by kernel_rfl) rfl rfl (fun B I w0 => ?_)
 refine S2 ?_; refine Obx ?_; refine Oas ?_; refine S5 ?_; refine Ola ?_
 refine OL.bcallC rfl rfl rfl (.mk' rfl rfl rfl rfl rfl) (sizesC hp H).b ?_
 rintro y H1 ⟨e, ⟨o, hs, rfl⟩ | ⟨hs, v, rfl⟩⟩
 ·
  replace e := e.symm
  subst e
  refine Omv ?_; refine Oex ?_; refine Oex ?_; refine Oas ?_; refine Oas ?_; refine S4 ?_; refine Omv ?_; refine Ont ?_; refine S2 ?_
  refine CW.cond rfl (fun h0 => ?_) (fun h0 => ?_)
  ·
   simp at h0
  ·
   replace h0 := nm h0
   refine S4 ?_; refine Oas ?_; refine S3 ?_
   refine r1 2 (H) ?_
   exact ⟨by rw [hs]; rfl, rfl⟩
 ·
  replace e := e.symm
  subst e
  refine Omv ?_; refine Oex ?_; refine Oex ?_; refine Oas ?_; refine Oas ?_; refine S4 ?_; refine Omv ?_; refine Ont ?_; refine S2 ?_
  refine CW.cond rfl (fun h1 => ?_) (fun h1 => ?_)
  ·
   replace h1 := nm h1
   refine S2 ?_; refine Oas ?_; refine S4 ?_
   refine r1 2 (H) ?_
   exact ⟨by rw [hs]; rfl, rfl⟩
  ·
   simp at h1
theorem ownB {p : Prog} (hp : p.Small) (c : Int) : PCall Tryz.prog 172 [AV.prog p, .i c] (.b (ownC p c)) := by
 intro H
 refine ACall.mk' (n := 20) Tryz.func172 rfl (by kernel_rfl) rfl rfl (fun B I w0 => ?_)
 have hpc := hp.classes
 refine S2 ?_; refine Obx ?_; refine Oas ?_; refine S4 ?_; refine Omv ?_; refine Ocm ?_; refine Omv ?_; refine Pmv ?_; refine Pfa ?_; refine Pld ?_; refine Pln ?_; refine Par ?_
 refine Pcm ?_; refine Opk ?_; refine Omv ?_; refine Pla ?_
 refine OL.guardC rfl rfl rfl rfl rfl rfl (fun hg => POp.call (.mk' rfl rfl rfl rfl (by first | rfl | ((repeat (first | exact hg | rfl | refine Bool.and_eq_true_iff.2 ⟨?_, ?_⟩)); done) | simp_all [strip, constAV])) ((checkB hp))) ?_
 refine Pcm ?_; refine Opk ?_; refine Oas ?_; refine S3 ?_
 refine r1 4 (H) ?_
 exact ⟨retB (by unfold ownC; rw [Bool.cond_false_right, Bool.cond_false_right, if_zero]), rfl⟩
theorem hasB {p : Prog} (hp : p.Small) (c : Int) : PCall Tryz.prog 105 [AV.prog p, .i c] (.tup [AV.ints (if ownC p c then hasP p c else []), .i (if ownC p c then 0 else 2)]) := by
 intro H
 refine ACall.mk' (n := 13) Tryz.func105 rfl (by kernel_rfl) rfl rfl (fun B I w0 => ?_)
 refine S2 ?_; refine Obx ?_; refine Oas ?_; refine Oas ?_; refine S5 ?_; refine Ola ?_; refine Omv ?_
 refine OL.popC rfl rfl rfl (POp.call (.mk' rfl rfl rfl rfl rfl) ((ownB hp _))) ?_
 refine Ont ?_; refine S2 ?_
 refine CW.cond rfl (fun h0 => ?_) (fun h0 => ?_)
 ·
  replace h0 := nm h0
  refine S2 ?_; refine Oas ?_; refine Oas ?_; refine S4 ?_
  refine Done.retR (rs := [.tmp 4, .tmp 5]) (H' := H) rfl (.tmp rfl (.tmp rfl (.nil))) (.cons (AVle.nil 1) (.cons (.refl _) .nil)) (by repeat (first | exact List.Sublist.refl _ | refine List.Sublist.cons _ ?_)) ?_
  exact ⟨by rw [show ownC p c = false by simpa using h0]; rfl, rfl⟩
 ·
  replace h0 := nm h0
  refine S3 ?_
  have ho : ownC p c = true := by simpa using h0
  obtain ⟨hc3, hcl⟩ := own_parts ho
  obtain ⟨hc10, hcs⟩ := classes_small hcl
  ·
   refine S1 ?_; refine Ola ?_; refine Omv ?_
   refine OL.popC rfl rfl rfl (POp.call (.mk' rfl rfl rfl rfl rfl) (hasC p (by omega) (fun c h => (hcs c h).2) (classes_keys hcl) (k := c) (by unfold smallKey; omega) (by omega))) ?_
   refine Oas ?_; refine Oas ?_; refine S3 ?_
   refine Done.retR (rs := [.tmp 4, .tmp 5]) (H' := H) rfl (.tmp rfl (.tmp rfl (.nil))) (AVleL.refl _) (by repeat (first | exact List.Sublist.refl _ | refine List.Sublist.cons _ ?_)) ?_
   exact ⟨by rw [ho]; rfl, rfl⟩
theorem valueC (x : Int × Int) (n : Int) : PCall Tryz.prog 175 [AV.mv x, .i n] (.b (valueP n x)) := by
 intro H
 refine ACall.mk' (n := 33) Tryz.func175 rfl (by kernel_rfl) rfl rfl (fun B I w0 => ?_)
 refine S2 ?_; refine Obx ?_; refine Oas ?_; refine S5 ?_; refine Ofa ?_; refine Old ?_; refine S5 ?_; refine Ocm ?_; refine Oas ?_; refine S2 ?_
 refine CW.cond rfl (fun h0 => ?_) (fun h0 => ?_)
 ·
  replace h0 := nm h0
  refine S2 ?_; refine Ofa ?_; refine Old ?_; refine Ocm ?_; refine Omv ?_; refine Pfa ?_; refine Pld ?_; refine Pcm ?_; refine Opk ?_; refine Oas ?_; refine S5 ?_
  refine r1 4 (H) ?_
  exact ⟨retB (by unfold valueP inP; simp_all), rfl⟩
 ·
  replace h0 := nm h0
  refine S2 ?_; refine Ocm ?_; refine Oas ?_; refine S2 ?_
  refine CW.cond rfl (fun h1 => ?_) (fun h1 => ?_)
  ·
   replace h1 := nm h1
   refine S2 ?_; refine Ofa ?_; refine Old ?_; refine Ocm ?_; refine Oas ?_; refine S5 ?_
   refine r1 4 (H) ?_
   exact ⟨retB (by unfold valueP inP; simp_all), rfl⟩
  ·
   replace h1 := nm h1
   refine S2 ?_; refine Ocm ?_; refine Oas ?_; refine S2 ?_
   refine CW.cond rfl (fun h2 => ?_) (fun h2 => ?_)
   ·
    replace h2 := nm h2
    refine S2 ?_; refine Ofa ?_; refine Old ?_; refine Ocm ?_; refine Omv ?_; refine Pfa ?_; refine Pld ?_; refine Pmv ?_; refine Pcm ?_; refine Opk ?_; refine Oas ?_; refine S5 ?_
    refine r1 4 (H) ?_
    exact ⟨retB (by unfold valueP inP; simp_all), rfl⟩
   ·
    replace h2 := nm h2
    refine S5 ?_; refine Oas ?_; refine S3 ?_
    refine r1 4 (H) ?_
    exact ⟨retB (by unfold valueP inP; simp_all), rfl⟩
theorem values1 (n : Int) (x : Int × Int) : PCall Tryz.prog 174 [AV.mv x, .ptr [.i n]] (.b (!valueP n x)) := by
 intro H
 refine ACall.mk' (n := 8) Tryz.func174 rfl (by kernel_rfl) rfl rfl (fun B I w0 => ?_)
 refine S2 ?_; refine Obx ?_; refine Oas ?_; refine S4 ?_; refine Ola ?_; refine Old ?_
 refine OL.popC rfl rfl rfl (POp.call (.mk' rfl rfl rfl rfl rfl) (valueC x n)) ?_
 refine Ont ?_; refine Oas ?_; refine S3 ?_
 refine r1 3 (H) ?_
 exact ⟨by first | rfl | exact retI (by simp_all) | exact retB (by simp_all) | simp_all, rfl⟩
theorem idxMV {f : Fn} {fs cs : List AV} {q : Int × Int → Bool} (hg : PredOk Tryz.prog (.fn f fs cs) AV.mv q) (l : List (Int × Int)) : PCall Tryz.prog 102 [AV.mvs l, .fn f fs cs] (.i (idxG l q)) := by
 intro H
 refine ACall.mk' (n := 19) Tryz.func102 rfl (by kernel_rfl) rfl rfl (fun B I w0 => ?_)
 refine CW.boundM (t := 0) rfl (fun hb0 => ?_)
 refine S2 ?_; refine Oas ?_; refine S5 ?_; refine Omv ?_; refine Oln ?_; refine Omv ?_; refine S3 ?_
 refine lj (fun m st => ∃ k : Nat, st = ⟨[(8, .i k), (7, .i l.length), (0, AV.mvs l), (1, .fn f fs cs)], H⟩ ∧ m = l.length - k ∧ k ≤ l.length ∧ ∀ x ∈ l.take k, q x = false) (⟨0, rfl, rfl, by simp, by simp⟩) ?_
 rintro m _ ⟨k, rfl, rfl, hk, hp⟩
 refine S2 ?_; refine Ocm ?_; refine S3 ?_
 refine CW.cond rfl (fun h0 => ?_) (fun h0 => ?_)
 ·
  replace h0 := nm h0
  have hkl : k < l.length := by omega
  refine S6 ?_; refine Omv ?_; refine Oas ?_; refine S4 ?_; refine Omv ?_; refine Omv ?_; refine Omv ?_
  refine OL.popC rfl rfl rfl ((by first | exact POp.ixM rfl rfl rfl rfl rfl hkl | exact POp.ixI rfl rfl rfl rfl rfl hkl)) ?_
  refine Ola ?_
  refine OL.vcallC rfl rfl rfl rfl rfl rfl rfl rfl (AVleL.refl _) (hg B _ _) ?_
  rintro _ H1 ⟨rfl, e⟩
  replace e := e.symm
  subst e
  refine S2 ?_
  refine CW.cond rfl (fun h1 => ?_) (fun h1 => ?_)
  ·
   replace h1 := nm h1
   refine S2 ?_; refine Omv ?_; refine Oas ?_; refine S8 ?_
   refine r1 4 (H) ?_
   exact ⟨retI (idxG_at hkl hp h1), rfl⟩
  ·
   replace h1 := nm h1
   refine S4 ?_; refine Oar ?_; refine Omv ?_; refine S1 ?_
   exact ag (⟨k + 1, rfl, rfl, hkl, fun x hx => by rw [← take_getD hkl, List.mem_append, List.mem_singleton] at hx; rcases hx with hx | rfl; exact hp x hx; exact h1⟩)
 ·
  replace h0 := nm h0
  refine S7 ?_; refine Oas ?_; refine S3 ?_
  refine r1 4 (H) ?_
  exact ⟨retI (idxG_none (by have e : k = l.length := (by omega); rw [e, List.take_length] at hp; exact hp)), rfl⟩
theorem hasMV {f : Fn} {fs cs : List AV} {q : Int × Int → Bool} (hg : PredOk Tryz.prog (.fn f fs cs) AV.mv q) (l : List (Int × Int)) : PCall Tryz.prog 36 [AV.mvs l, .fn f fs cs] (.b (l.any q)) := by
 intro H
 refine ACall.mk' (n := 9) Tryz.func36 rfl (by kernel_rfl) rfl rfl (fun B I w0 => ?_)
 refine S2 ?_; refine Oas ?_; refine S4 ?_; refine Omv ?_; refine Omv ?_
 refine OL.popC rfl rfl rfl (POp.call (.mk' rfl rfl rfl rfl rfl) (idxMV hg l)) ?_
 refine Ocm ?_; refine Oas ?_; refine S3 ?_
 refine r1 4 (H) ?_
 exact ⟨retB (idxG_any _ _), rfl⟩
theorem valuesC (l : List (Int × Int)) (n : Int) : PCall Tryz.prog 106 [AV.mvs l, .i n] (.b (l.all (valueP n))) := by
 intro H
 refine ACall.mk' (n := 9) Tryz.func106 rfl (by kernel_rfl) rfl rfl (fun B I w0 => ?_)
 refine S2 ?_; refine Obx ?_; refine Oas ?_; refine S4 ?_; refine Omv ?_; refine Omf ?_
 refine OL.popC rfl rfl rfl (POp.call (.mk' rfl rfl rfl rfl rfl) (hasMV (.of (values1 n)) l)) ?_
 refine Ont ?_; refine Oas ?_; refine S3 ?_
 refine r1 4 (H) ?_
 exact ⟨retB (all_valueP n l), rfl⟩
theorem meanCheck {p : Prog} (hp : p.Small) (objs : List Th) : PCall Tryz.prog 45 [AV.prog p, AV.ths objs] (.i (if checkP p objs then 0 else 2)) := by
 intro H
 refine ACall.mk' (n := 49) Tryz.func45 rfl (by kernel_rfl) rfl rfl (fun B I w0 => ?_)
 refine CW.boundM (t := 1) rfl (fun hb1 => ?_)
 refine S2 ?_; refine Obx ?_; refine Oas ?_; refine S5 ?_; refine Ola ?_
 refine OL.popC rfl rfl rfl (POp.call (.mk' rfl rfl rfl rfl rfl) (checkB hp)) ?_
 refine Ocm ?_; refine Omv ?_; refine Pmv ?_; refine Pln ?_; refine Pcm ?_; refine Opk ?_; refine S2 ?_
 refine CW.cond rfl (fun h0 => ?_) (fun h0 => ?_)
 ·
  replace h0 := nm h0
  have hno : checkP p objs = false := by
   unfold checkP
   cases hs : (sizesP p).isSome with
   | false => rfl
   | true => rw [hs] at h0; simp at h0; rw [show decide (objs.length ≤ 40) = false by simp; omega]; rfl
  refine S2 ?_; refine Oas ?_; refine S4 ?_
  refine r1 4 (H) ?_
  exact ⟨by rw [hno]; rfl, rfl⟩
 ·
  replace h0 := nm h0
  have hs : (sizesP p).isSome = true ∧ objs.length ≤ 40 := by
   cases hs : (sizesP p).isSome with
   | false => rw [hs] at h0; simp at h0
   | true => rw [hs] at h0; simp at h0; exact ⟨rfl, by omega⟩
  refine S5 ?_; refine Omv ?_; refine Oln ?_; refine Omv ?_; refine S3 ?_
  refine lj (fun m st => ∃ i : Nat, st = ⟨[(19, .i i), (18, .i objs.length), (17, AV.ths objs), (2, .ptr (progC p)), (1, AV.ths objs)], H⟩ ∧ m = objs.length - i ∧ i ≤ objs.length ∧ (objs.take i).all (thingP p objs.length) = true) (⟨0, rfl, rfl, by omega, rfl⟩) ?_
  rintro m _ ⟨i, rfl, rfl, hi, hA⟩
  refine S2 ?_; refine Ocm ?_; refine S3 ?_
  refine CW.cond rfl (fun h1 => ?_) (fun h1 => ?_)
  ·
   replace h1 := nm h1
   have hil : i < objs.length := by omega
   obtain ⟨T, hT⟩ : ∃ T, T = objs.getD i default := ⟨_, rfl⟩
   refine S6 ?_
   refine OL.popC rfl rfl rfl ((by first | exact POp.ixM rfl rfl rfl rfl rfl hil | exact POp.ixI rfl rfl rfl rfl rfl hil)) ?_
   refine Ola ?_
   refine OL.alC rfl rfl rfl rfl (fun b0 => ?_)
   refine Sto ?_; refine S3 ?_
   rw [← hT]
   refine S1 ?_; refine Ola ?_; refine Ofa ?_; refine Old ?_
   refine OL.popC rfl rfl rfl (POp.call (.mk' rfl rfl rfl rfl rfl) (hasB hp T.cls)) ?_
   refine Omv ?_; refine Oex ?_; refine Oex ?_; refine Oas ?_; refine Oas ?_; refine S3 ?_
   refine CW.freezeP (d := 6) rfl (by repeat (first | exact Del.head _ _ | apply Del.tail)) ?_
   refine S1 ?_; refine Omv ?_; refine Ocm ?_; refine Omv ?_; refine Pmv ?_; refine Pln ?_; refine Pfa ?_; refine Pld ?_; refine Pln ?_; refine Pcm ?_; refine Opk ?_; refine Omv ?_
   refine Pfa ?_; refine Pld ?_; refine Pmv ?_; refine Pln ?_
   refine OL.guardC rfl rfl rfl rfl rfl rfl (fun hg => POp.call (.mk' rfl rfl rfl rfl (by first | rfl | ((repeat (first | exact hg | rfl | refine Bool.and_eq_true_iff.2 ⟨?_, ?_⟩)); done) | simp_all [strip, constAV])) (valuesC T.slots objs.length)) ?_
   refine Pnt ?_; refine Opk ?_; refine S2 ?_
   have hth : thingP p objs.length T = !(bif bif (if ownC p T.cls then (0 : Int) else 2) != 0 then true else ((if ownC p T.cls then hasP p T.cls else []).length : Int) != (T.slots.length : Int) then true else !T.slots.all (valueP objs.length)) := thing_eq p _ T
   refine CW.cond rfl (fun h2 => ?_) (fun h2 => ?_)
   ·
    rw [h2] at hth
    refine S2 ?_; refine Oas ?_; refine S8 ?_
    refine r1 4 (H) ?_
    exact ⟨by rw [chk_no hil (by rw [← hT, hth]; rfl)]; rfl, rfl⟩
   ·
    rw [h2] at hth
    refine S4 ?_; refine Oar ?_; refine Omv ?_; refine S1 ?_
    exact ag (⟨i + 1, rfl, rfl, hil, chk_step hil hA (by rw [← hT, hth]; rfl)⟩)
  ·
   replace h1 := nm h1
   obtain rfl : i = objs.length := by omega
   rw [List.take_length] at hA
   refine S7 ?_; refine Oas ?_; refine S3 ?_
   refine r1 4 (H) ?_
   exact ⟨by unfold checkP; rw [hs.1, decide_eq_true hs.2, hA]; rfl, rfl⟩
end Go.Proofs.YtpgnjlngepfanaaGreat

set_option linter.unusedVariables false
namespace Go.Eng.Bd
open Go.Eng.Fc
def lostP (l : List Int) (v : Int × Int) : Bool := decide (v.1 = 3) && !(l.contains v.2)
def holdsP (l : List Int) (vals : List (Int × Int)) : Bool := !(vals.any (lostP l))
def fromP (objs : List Th) (roots : List (Int × Int)) (l : List Int) (j : Nat) (n : Int) : Bool := roots.contains (3, n) || (l.take j).any fun m => (thOf objs m).slots.contains (3, n)
structure ReachLaw (objs : List Th) (roots : List (Int × Int)) (L : List Int) : Prop where
 rts : holdsP L roots = true
 len : L.length ≤ objs.length
 in_ : ∀ k, k < L.length → 0 ≤ L.getD k default ∧ L.getD k default < objs.length
 new : ∀ k, k < L.length → (L.take k).contains (L.getD k default) = false
 sls : ∀ k, k < L.length → holdsP L (thOf objs (L.getD k default)).slots = true
 from_ : ∀ k, k < L.length → fromP objs roots L k (L.getD k default) = true
end Go.Eng.Bd

set_option linter.unusedVariables false
set_option linter.unusedSimpArgs false
set_option maxRecDepth 10000
namespace Go.Proofs.YtpgnjlngepfanaaGreat
open Go.Eng
open Go.Eng.Fc
open Go.Eng.Bd
theorem valueI (x : Int × Int) (n : Int) : PCall Tryz.prog 166 [AV.mv x, .i n] (.b (valueP n x)) := by
 intro H
 refine ACall.mk' (n := 36) Tryz.func166 rfl (by kernel_rfl) rfl rfl (fun B I w0 => ?_)
 refine S2 ?_; refine Obx ?_; refine Oas ?_; refine S5 ?_; refine Ofa ?_; refine Old ?_; refine S5 ?_; refine Ocm ?_; refine Oas ?_; refine S2 ?_
 refine CW.cond rfl (fun h0 => ?_) (fun h0 => ?_)
 ·
  replace h0 := nm h0
  refine S2 ?_; refine Ofa ?_; refine Old ?_; refine Ocm ?_; refine Omv ?_; refine Pfa ?_; refine Pld ?_; refine Pcm ?_; refine Opk ?_; refine Oas ?_; refine S5 ?_
  refine r1 4 (H) ?_
  exact ⟨retB (by unfold valueP inP; simp_all), rfl⟩
 ·
  replace h0 := nm h0
  refine S2 ?_; refine Ocm ?_; refine Oas ?_; refine S2 ?_
  refine CW.cond rfl (fun h1 => ?_) (fun h1 => ?_)
  ·
   replace h1 := nm h1
   refine S2 ?_; refine Ofa ?_; refine Old ?_; refine Ocm ?_; refine Oas ?_; refine S5 ?_
   refine r1 4 (H) ?_
   exact ⟨retB (by unfold valueP inP; simp_all), rfl⟩
  ·
   replace h1 := nm h1
   refine S5 ?_; refine Ofa ?_; refine Old ?_; refine Ocm ?_; refine Omv ?_; refine Pfa ?_; refine Pld ?_; refine Pcm ?_; refine Opk ?_; refine Omv ?_; refine Pfa ?_; refine Pld ?_
   refine Pmv ?_; refine Pcm ?_; refine Opk ?_; refine Oas ?_; refine S3 ?_
   refine r1 4 (H) ?_
   exact ⟨retB (by unfold valueP inP; simp_all; rw [Bool.and_assoc]; rfl), rfl⟩
theorem rooted1 (n : Int) (x : Int × Int) : PCall Tryz.prog 165 [AV.mv x, .ptr [.i n]] (.b (!valueP n x)) := by
 intro H
 refine ACall.mk' (n := 8) Tryz.func165 rfl (by kernel_rfl) rfl rfl (fun B I w0 => ?_)
 refine S2 ?_; refine Obx ?_; refine Oas ?_; refine S4 ?_; refine Ola ?_; refine Old ?_
 refine OL.popC rfl rfl rfl (POp.call (.mk' rfl rfl rfl rfl rfl) (valueI x n)) ?_
 refine Ont ?_; refine Oas ?_; refine S3 ?_
 refine r1 3 (H) ?_
 exact ⟨by first | rfl | exact retI (by simp_all) | exact retB (by simp_all) | simp_all, rfl⟩
def rootedP (n : Int) (l : List (Int × Int)) : Bool := decide (l.length ≤ 20) && l.all (valueP n)
def askedP (p : Prog) (objs : List Th) (roots : List (Int × Int)) : Bool := checkP p objs && rootedP objs.length roots
def reachQ (p : Prog) (objs : List Th) (roots : List (Int × Int)) : List Int := if askedP p objs roots then reachP objs roots else []
theorem rooted_eq (n : Int) (l : List (Int × Int)) : (bif decide ((l.length : Int) ≤ 20) then !(l.any fun x => !valueP n x) else false) = rootedP n l := by
 rw [all_valueP, rootedP, Bool.cond_false_right]; congr 1; rw [decide_eq_decide]; omega
theorem asked_eq (p : Prog) (objs : List Th) (roots : List (Int × Int)) : (bif ((if checkP p objs then (0 : Int) else 2) == 0) then rootedP objs.length roots else false) = askedP p objs roots := by
 rw [if_zero, Bool.cond_false_right]; rfl
theorem asked_parts {p : Prog} {objs : List Th} {roots : List (Int × Int)} (h : askedP p objs roots = true) : objs.length ≤ 40 ∧ roots.length ≤ 20 ∧ roots.all (valueP objs.length) = true ∧ ∀ t ∈ objs, t.slots.all (valueP objs.length) = true := by
 simp only [askedP, rootedP, checkP, Bool.and_eq_true, decide_eq_true_eq] at h
 refine ⟨h.1.1.2, h.2.1, h.2.2, fun t ht => ?_⟩
 have := List.all_eq_true.1 h.1.2 t ht
 simp only [thingP, Bool.and_eq_true] at this
 exact this.2
theorem rootedC (l : List (Int × Int)) (n : Int) : PCall Tryz.prog 92 [AV.mvs l, .i n] (.b (rootedP n l)) := by
 intro H
 refine ACall.mk' (n := 14) Tryz.func92 rfl (by kernel_rfl) rfl rfl (fun B I w0 => ?_)
 refine S2 ?_; refine Obx ?_; refine Oas ?_; refine S4 ?_; refine Omv ?_; refine Oln ?_; refine Ocm ?_; refine Omv ?_; refine Pmv ?_; refine Pmf ?_
 refine OL.guardC rfl rfl rfl rfl rfl rfl (fun hg => POp.call (.mk' rfl rfl rfl rfl (by first | rfl | ((repeat (first | exact hg | rfl | refine Bool.and_eq_true_iff.2 ⟨?_, ?_⟩)); done) | simp_all [strip, constAV])) (hasMV (.of (rooted1 n)) l)) ?_
 refine Pnt ?_; refine Opk ?_; refine Oas ?_; refine S3 ?_
 refine r1 4 (H) ?_
 exact ⟨retB (rooted_eq n l), rfl⟩
theorem askedC {p : Prog} (hp : p.Small) (objs : List Th) (roots : List (Int × Int)) : PCall Tryz.prog 79 [AV.prog p, AV.ths objs, AV.mvs roots] (.b (askedP p objs roots)) := by
 intro H
 refine ACall.mk' (n := 17) Tryz.func79 rfl (by kernel_rfl) rfl rfl (fun B I w0 => ?_)
 refine S2 ?_; refine Obx ?_; refine Oas ?_; refine S4 ?_; refine Ola ?_; refine Omv ?_
 refine OL.popC rfl rfl rfl (POp.call (.mk' rfl rfl rfl rfl rfl) (meanCheck hp objs)) ?_
 refine Ocm ?_; refine Omv ?_; refine Pmv ?_; refine Pmv ?_; refine Pln ?_
 refine OL.guardC rfl rfl rfl rfl rfl rfl (fun hg => POp.call (.mk' rfl rfl rfl rfl (by first | rfl | ((repeat (first | exact hg | rfl | refine Bool.and_eq_true_iff.2 ⟨?_, ?_⟩)); done) | simp_all [strip, constAV])) (rootedC roots objs.length)) ?_
 refine Opk ?_; refine Oas ?_; refine S3 ?_
 refine r1 6 (H) ?_
 exact ⟨retB (asked_eq p objs roots), rfl⟩
instance : HasMapI Tryz.prog 121 (3, 3) := ⟨by kernel_rfl, by kernel_rfl⟩
instance : HasZ Tryz.prog 3 (.int .i64 0) := ⟨by kernel_rfl⟩
instance : HasEq Tryz.prog 60 2 := ⟨by kernel_rfl⟩
abbrev routeE (xb mb : Nat) (v : Value) (l : List Int) (m : List (Int × AV)) (H : List Ent) : List Ent := .own 3 1 v :: .blk xb 123 [.as (AV.ints l) v, .val (.map (some mb))] :: imapE mb m :: H
theorem lookM_le {m : List (Int × AV)} {l : List Int} (h : MapAt m l) (k : Int) : AVle (.tup [(getI m k).getD (.val (.int .i64 0)), .b (getI m k).isSome]) (.tup [.i (if k ∈ l then idxB l k else 0), .b (l.contains k)]) := by
 rw [h.has, h.get]
 split <;> exact AVle.refl _
theorem meet_step {vals : List (Int × Int)} {i : Nat} (hi : i < vals.length) (l : List Int) : meetP (vals.take (i + 1)) l = meet1 (meetP (vals.take i) l) (vals.getD i default) := by rw [← take_getD hi, meetP_snoc]
theorem meet1_new {l : List Int} {v : Int × Int} (h3 : v.1 = 3) (hn : l.contains v.2 = false) : meet1 l v = l ++ [v.2] := by rw [meet1, if_pos ⟨h3, by simpa using hn⟩]
theorem meet1_old {l : List Int} {v : Int × Int} (h : v.1 ≠ 3 ∨ l.contains v.2 = true) : meet1 l v = l := by rw [meet1, if_neg]; rintro ⟨h1, h2⟩; rcases h with h | h; exact h h1; exact h2 (List.contains_iff_mem.1 h)
theorem meet_if {a b : Bool} (h : (bif a then !b else false) = true) : a = true ∧ b = false := by cases a <;> cases b <;> simp_all
theorem meet_not {a b : Bool} (h : (bif a then !b else false) = false) : a = false ∨ b = true := by cases a <;> cases b <;> simp_all
theorem meetC {n : Nat} (hn : n ≤ 1000000) {vals : List (Int × Int)} (hv : vals.all (valueP n) = true) {l0 : List Int} (hl0 : RouteOk n l0) {m0 : List (Int × AV)} (hM0 : MapAt m0 l0) (xb mb : Nat) (v0 : Value) (H : List Ent) :
  ACall Tryz.prog 155 [.p xb 0, AV.mvs vals] (routeE xb mb v0 l0 m0 H) (fun _ H' => ∃ m' v', MapAt m' (meetP vals l0) ∧ H' = routeE xb mb v' (meetP vals l0) m' H) (fun _ _ => False) := by
 refine ACall.mk' (n := 54) Tryz.func155 rfl (by kernel_rfl) rfl rfl (fun B I w0 => ?_)
 refine CW.boundM (t := 1) rfl (fun hb1 => ?_)
 refine S2 ?_; refine Omv ?_; refine Oln ?_; refine Omv ?_; refine S3 ?_
 refine lj (fun m st => ∃ (i : Nat) (l : List Int) (m' : List (Int × AV)) (v : Value), st = ⟨[(10, .i i), (9, .i vals.length), (8, AV.mvs vals), (0, .p xb 0)], routeE xb mb v l m' H⟩ ∧ m = vals.length - i ∧ i ≤ vals.length ∧ l = meetP (vals.take i) l0 ∧ MapAt m' l ∧ RouteOk n l) (⟨0, l0, m0, v0, rfl, rfl, by omega, rfl, hM0, hl0⟩) ?_
 rintro m _ ⟨i, l, m', v, rfl, rfl, hi, hl, hM, hR⟩
 refine S2 ?_; refine Ocm ?_; refine S3 ?_
 refine CW.cond rfl (fun h0 => ?_) (fun h0 => ?_)
 ·
  replace h0 := nm h0
  have hil : i < vals.length := by omega
  obtain ⟨X, hX⟩ : ∃ X, X = vals.getD i default := ⟨_, rfl⟩
  have hXv : valueP n X = true := List.all_eq_true.1 hv X (hX ▸ getD_memB hil)
  have hXk : smallKey X.2 := by have := valueP_key hn hXv; unfold smallKey; omega
  have hst := meet_step hil l0
  rw [← hX, ← hl] at hst
  have hRl := hR.len
  refine S6 ?_
  refine OL.popC rfl rfl rfl ((by first | exact POp.ixM rfl rfl rfl rfl rfl hil | exact POp.ixI rfl rfl rfl rfl rfl hil)) ?_
  refine Ola ?_
  refine OL.alC rfl rfl rfl rfl (fun b0 => ?_)
  refine Sto ?_; refine S3 ?_
  rw [← hX]
  refine CW.freezeP (d := 5) rfl (by repeat (first | exact Del.head _ _ | apply Del.tail)) ?_
  refine CW.dp mixed ?_
  refine DP.anyC 0 6 54 rfl (by decide +kernel) rfl rfl (by decide +kernel) ?_
  refine Amv ?_; refine Anc ?_; refine Afa ?_; refine Ald ?_; refine Afa ?_; refine Ald ?_
  refine AD.nil ?_
  refine DP.one (k := 6) (by decide +kernel) rfl ?_
  refine OL.popC rfl rfl rfl (POp.le (POp.lookupI2 rfl rfl rfl rfl rfl (.tail _ (.tail _ (.head _))) hM.ok hXk) (lookM_le hM X.2)) ?_
  refine OL.nil (Done.dp ?_)
  refine DP.one (k := 7) (by decide +kernel) rfl ?_
  refine Omv ?_
  refine OL.nil (Done.dp ?_)
  refine DP.anyC 8 11 54 rfl (by decide +kernel) rfl rfl (by decide +kernel) ?_
  refine Aex ?_; refine Aex ?_; refine Aas ?_
  refine AD.nil ?_
  refine DP.tailC 11 (by decide +kernel) rfl ?_
  refine Oas ?_; refine S4 ?_; refine Ofa ?_; refine Old ?_; refine Ocm ?_; refine Omv ?_; refine Pmv ?_; refine Pnt ?_; refine Opk ?_; refine S2 ?_
  refine CW.cond rfl (fun h1 => ?_) (fun h1 => ?_)
  ·
   obtain ⟨h3, h4⟩ := meet_if h1
   rw [beq_iff_eq] at h3
   rw [meet1_new h3 h4] at hst
   have hRn := meet1_ok hR hXv
   rw [meet1_new h3 h4] at hRn
   have hnm : ¬ X.2 ∈ l := by simpa using h4
   refine S1 ?_
   refine CW.dp mixed ?_
   refine DP.anyC 0 11 54 rfl (by decide +kernel) rfl rfl (by decide +kernel) ?_
   refine Amv ?_; refine Anc ?_; refine Afa ?_; refine Ald ?_; refine Afa ?_; refine Ald ?_; refine Amv ?_; refine Anc ?_; refine Afa ?_; refine Ald ?_; refine Aln ?_
   refine AD.nil ?_
   refine DP.tailC 11 (by decide +kernel) rfl ?_
   refine OL.mapPut (u' := .i l.length) rfl rfl (.inl rfl) rfl rfl rfl rfl rfl rfl (AVle.eqI (by rw [List.length_map])) (.tail _ _ _ _ _ (.tail _ _ _ _ _ (.head _ _ _))) hM.ok hXk ?_
   refine S2 ?_
   refine CW.dp mixed ?_
   refine DP.anyK (X := noX) [⟨8, 50, false⟩] (fun J => match J with | [some v2] => .own 3 1 v2 :: .blk xb 123 [.as (AV.ints l) v, .val (.map (some mb))] :: imapE mb (putI m' X.2 (.i l.length)) :: H | _ => routeE xb mb v l (putI m' X.2 (.i l.length)) H) (fun q J => match q, J with | 0, [some v2] => .as (.sl 1 ((l.map fun n => [AV.i n]) ++ [[AV.i X.2]])) v2 | _, _ => .any) 0 9 54 rfl (by decide +kernel) (by decide +kernel) rfl rfl (by decide +kernel) rfl (fun _ _ _ _ _ _ _ _ _ h => h.elim) ?_
   refine UD.popK [[true], [false]] rfl (by decide +kernel) rfl rfl rfl ⟨fun f => POp.move rfl rfl rfl, fun f => POp.move rfl rfl rfl, trivial⟩ ?_
   refine UD.popK [[false]] rfl (by decide +kernel) rfl rfl rfl ⟨fun f => POp.move rfl rfl rfl, trivial⟩ ?_
   refine UD.popK [[false]] rfl (by decide +kernel) rfl rfl rfl ⟨fun f => (by first | exact POp.nilCheck rfl rfl rfl | exact POp.nilCheckP rfl rfl rfl | exact POp.nilCheckF rfl rfl rfl), trivial⟩ ?_
   refine UD.popK [[false]] rfl (by decide +kernel) rfl rfl rfl ⟨fun f => (by first | exact POp.fa rfl rfl rfl rfl | exact POp.faP rfl rfl rfl rfl), trivial⟩ ?_
   refine UD.popK [[false]] rfl (by decide +kernel) rfl rfl rfl ⟨fun f => (by first | exact POp.ld1 rfl rfl rfl rfl | (apply POp.ld1H rfl rfl rfl; (case hm => repeat (first | exact .head _ | refine .tail _ ?_)); (case hy => rfl))), trivial⟩ ?_
   refine UD.popK [[false]] rfl (by decide +kernel) rfl rfl rfl ⟨fun f => (by first | exact POp.fa rfl rfl rfl rfl | exact POp.faP rfl rfl rfl rfl), trivial⟩ ?_
   refine UD.popK [[false]] rfl (by decide +kernel) rfl rfl rfl ⟨fun f => (by first | exact POp.ld1 rfl rfl rfl rfl | (apply POp.ld1H rfl rfl rfl; (case hm => repeat (first | exact .head _ | refine .tail _ ?_)); (case hy => rfl))), trivial⟩ ?_
   refine UD.popK [[false]] rfl (by decide +kernel) rfl rfl rfl ⟨fun f => POp.row rfl rfl (by first | rfl | simp_all [strip]) rfl rfl rfl rfl rfl rfl, trivial⟩ ?_
   refine UD.effK 0 [[false]] rfl rfl rfl (by decide +kernel) rfl rfl rfl ⟨fun f => ⟨KOk.own (news := [[AV.i X.2]]) rfl rfl rfl (AVle.refl _) rfl rfl (AVle.refl _) rfl (by simp; omega) (by simp; omega) (fun _ => .head _ _ _) (fun _ => rfl), (by intro v q hq; rcases q with _ | _ | _ | _ | _ | _ | q <;> first | rfl | (cases hq))⟩, trivial⟩ ?_
   refine UD.nil (fun f => ?_)
   simp only [kvals, List.map_cons, List.map_nil, List.cons_append, List.nil_append]
   refine DP.tailC 9 (by decide +kernel) rfl ?_
   refine Onc ?_; refine Ofa ?_; refine Sto ?_; refine S4 ?_; refine Oar ?_; refine Omv ?_; refine S1 ?_
   rw [show (AV.sl 1 ((l.map fun n => [AV.i n]) ++ [[AV.i X.2]])) = AV.ints (l ++ [X.2]) from by show _ = AV.sl 1 (List.map _ (_ ++ _)); rw [List.map_append]; rfl]
   exact ag ⟨i + 1, l ++ [X.2], _, f 50, rfl, rfl, hil, hst.symm, hM.put hXk hnm, hRn⟩
  ·
   have hso : meet1 l X = l := meet1_old ((meet_not h1).imp (by simp) id)
   rw [hso] at hst
   refine S4 ?_; refine Oar ?_; refine Omv ?_; refine S1 ?_
   exact ag (⟨i + 1, l, m', v, rfl, rfl, hil, hst.symm, hM, hR⟩)
 ·
  replace h0 := nm h0
  obtain rfl : i = vals.length := by omega
  rw [List.take_length] at hl
  subst hl
  refine S4 ?_
  refine Done.norR (rs := []) (H' := routeE xb mb v (meetP vals l0) m' H) rfl (.nil) (AVleL.refl _) (by repeat (first | exact List.Sublist.refl _ | refine List.Sublist.cons _ ?_)) ?_
  exact ⟨m', v, hM, rfl⟩
end Go.Proofs.YtpgnjlngepfanaaGreat
