/- Part 12 of the proof: contracts of functions of the program and what they need. No condition beyond those that each theorem names. -/
import Derived.Test.YtpgnjlngepfanaaGreatDmP11
import Derived.Tactics
import Derived.Tactics2
import Derived.Laws.Pointers
import Derived.TacticsInMore
import Derived.RegionIn
import Derived.RecoverIn
set_option linter.unusedVariables false
set_option linter.unusedSimpArgs false
set_option maxRecDepth 10000
namespace Go.Proofs.YtpgnjlngepfanaaGreat
open Go.Eng
open Go.Eng.Fc
open Go.Eng.Bd
open Go.Eng.Im (U8 u8 u8s sumR)
abbrev rtE (xb mb : Nat) (v : Value) (L : List Int) (mm : List (Int × AV)) : List Ent := [.blk xb 123 [.as (AV.ints L) v, .val (.map (some mb))], imapE mb mm]
theorem lookP_le {m : List (Int × AV)} {l : List Int} (h : MapAt m l) (k : Int) : AVle ((getI m k).getD (.val (.int .i64 0))) (.i (placeP l k)) := by
 rw [h.get, placeP]
 split <;> exact AVle.refl _
theorem placeC {L : List Int} {mm : List (Int × AV)} (hM : MapAt mm L) (xb mb : Nat) (v : Value) {n : Int} (hn : smallKey n) : PCallIn Tryz.prog (rtE xb mb v L mm) 156 [.i n, .ptr [.p xb 0]] (.i (placeP L n)) := by
 intro H hm
 refine ACall.mk' (n := 10) Tryz.func156 rfl (by kernel_rfl) rfl rfl (fun B I w0 => ?_)
 refine S2 ?_; refine Oas ?_; refine S4 ?_; refine Old ?_; refine Onc ?_; refine Ofa ?_
 refine OL.popC rfl rfl rfl ((by first | exact POp.ld1 rfl rfl rfl rfl | (apply POp.ld1H rfl rfl rfl; (case hm => exact hm _ (.head _)); (case hy => rfl)))) ?_
 refine Omv ?_
 refine OL.popC rfl rfl rfl (POp.le (POp.lookupI rfl rfl rfl rfl rfl (hm _ (.tail _ (.head _))) hM.ok hn) (lookP_le hM n)) ?_
 refine Oas ?_; refine S3 ?_
 refine r1 3 (H) ?_
 exact ⟨by rfl, rfl⟩
theorem place_ok {L : List Int} {mm : List (Int × AV)} (hM : MapAt mm L) (xb mb : Nat) (v : Value) : NumOk Tryz.prog (rtE xb mb v L mm) (.fn (.func 156) [] [.ptr [.p xb 0]]) (placeP L) smallKey := fun B H hm n hn => VCall.fn (placeC hM xb mb v hn H hm)
structure PartOk (objs : List Th) (L : List Int) : Prop where
 ol : objs.length ≤ 40
 rt : RouteOk objs.length L
 vs : ∀ t ∈ objs, t.slots.all (valueP objs.length) = true
 os : ∀ t ∈ objs, okT t
theorem place_in {objs : List Th} {L : List Int} (h : PartOk objs L) (n : Int) : 0 ≤ placeP L n ∧ placeP L n ≤ 40 := by
 have h1 := h.rt.len
 have h2 := h.ol
 unfold placeP
 split
 ·rename_i hm
  have h3 : idxB L n ≥ 0 := by have := idxB_contains L n; rw [List.contains_iff_mem.2 hm, decide_eq_true_eq] at this; exact this
  refine ⟨h3, ?_⟩
  unfold idxB at h3 ⊢
  split
  ·rename_i i hi
   have := (List.findIdx?_eq_some_iff_getElem.1 hi).1
   omega
  ·omega
 ·omega
theorem move_ok {objs : List Th} {L : List Int} (h : PartOk objs L) {v : Int × Int} (hv : valueP objs.length v = true) : okVal (move1 (placeP L) v) := by
 have h1 := okVal_of (by have := h.ol; omega) hv
 unfold move1
 split
 ·have := place_in h v.2
  exact ⟨by unfold okN; omega, fun e => (by cases e), fun _ => by unfold okN; omega⟩
 ·exact h1
theorem obj_ok {objs : List Th} {L : List Int} (h : PartOk objs L) {n : Int} (hn : n ∈ L) : okT (objW L objs n) := by
 have h1 := h.rt.in_ n hn
 have hm : thOf objs n ∈ objs := getD_memB (by omega)
 have h2 := h.os _ hm
 refine ⟨h2.cls, fun v hv => ?_, by rw [objW, List.length_map]; exact h2.vl⟩
 obtain ⟨y, hy, rfl⟩ := List.mem_map.1 hv
 exact move_ok h (List.all_eq_true.1 (h.vs _ hm) y hy)
theorem key_of {n : Nat} (hn : n ≤ 1000000) {v : Int × Int} (h : valueP n v = true) : smallKey v.2 := by have := valueP_key hn h; unfold smallKey; omega
theorem part21 {objs : List Th} {L : List Int} (hO : PartOk objs L) {mm : List (Int × AV)} (hM : MapAt mm L) (xb mb : Nat) (v1 : Value) {n : Int} (hn : n ∈ L) (wb : Nat) {out : List U8} (hb : out.length + (thW (objW L objs n)).length ≤ 1000000000) (v : Value) (H : List Ent) (hm : ∀ e ∈ rtE xb mb v1 L mm, e ∈ H) :
  ACall Tryz.prog 159 [.i n, .ptr [.p wb 0], .ptr [AV.ths objs], .ptr [.fn (.func 156) [] [.ptr [.p xb 0]]]] (wrE wb (out) v H) (fun _ H' => ∃ v', H' = wrE wb (out ++ thW (objW L objs n)) v' H) (fun _ _ => False) := by
 refine ACall.mk' (n := 20) Tryz.func159 rfl (by kernel_rfl) rfl rfl (fun B I w0 => ?_)
 have hni := hO.rt.in_ n hn
 have hTm : thOf objs n ∈ objs := getD_memB (by omega)
 have hTv := hO.vs _ hTm
 have hTo := hO.os _ hTm
 have hol := hO.ol
 have hvl := hTo.vl
 refine CW.dp mixed ?_
 refine DP.anyC 0 14 20 rfl (by decide +kernel) rfl rfl (by decide +kernel) ?_
 refine Ald ?_; refine Ald ?_; refine Amv ?_; refine Aix ?_; refine Afa ?_; refine Ald ?_; refine Ald ?_; refine Amv ?_; refine Aix ?_; refine Afa ?_; refine Ald ?_; refine Ald ?_
 refine AD.popC rfl rfl rfl (POp.callIn (.mk' rfl rfl rfl rfl rfl) (AVleL.refl _) (movedC (l := (thOf objs n).slots) (place_ok hM xb mb v1) (fun v hv _ => key_of (by omega) (List.all_eq_true.1 hTv v hv)) (by omega)) (fun e he => .tail _ (.tail _ (hm e he)))) ?_
 refine Abd ?_
 refine AD.nil ?_
 refine DP.tailC 14 (by decide +kernel) rfl ?_
 refine OL.bcallC rfl rfl rfl (.mk' rfl rfl rfl rfl rfl) ((objectC (obj_ok hO hn) wb hb _ H).b) ?_
 rintro y _ ⟨v2, rfl⟩
 refine S1 ?_
 refine Done.norR (rs := []) (H' := wrE wb (out ++ thW (objW L objs n)) v2 H) rfl (.nil) (AVleL.refl _) (by repeat (first | exact List.Sublist.refl _ | refine List.Sublist.cons _ ?_)) ?_
 exact ⟨v2, rfl⟩
def partL (p : Prog) (objs : List Th) (roots : List (Int × Int)) (L : List Int) : List U8 := sumR 1 (progW p) ++ listW valW (roots.map (move1 (placeP L))) ++ listW (fun n => thW (objW L objs n)) L
theorem one_u8s (l : List U8) : (l.map fun x => [u8 x]).all allOne = true := by
 rw [List.all_eq_true]; intro x hx
 obtain ⟨a, _, rfl⟩ := List.mem_map.1 hx; rfl
theorem partL_len {p : Prog} {objs : List Th} {roots : List (Int × Int)} {L : List Int} (hO : PartOk objs L) (hr : roots.all (valueP objs.length) = true) (hrl : roots.length ≤ 20) : (partL p objs roots L).length ≤ 20000 := by
 have h1 := listW_len (f := valW) (l := roots.map (move1 (placeP L))) (M := 12) (K := 20) (fun v hv => by
  obtain ⟨y, hy, rfl⟩ := List.mem_map.1 hv
  exact valW_len (move_ok hO (List.all_eq_true.1 hr y hy))) (by rw [List.length_map]; exact hrl) (by decide)
 have h2 := listW_len (f := fun n => thW (objW L objs n)) (l := L) (M := 486) (K := 40) (fun n hn => thW_len (obj_ok hO hn)) (by have := hO.rt.len; have := hO.ol; omega) (by decide)
 simp only [partL, List.length_append, sumR_len]; omega
theorem part2 {p : Prog} (hp : okP p) {objs : List Th} {roots : List (Int × Int)} {L : List Int} (hO : PartOk objs L) (hr : roots.all (valueP objs.length) = true) (hrl : roots.length ≤ 20) {mm : List (Int × AV)} (hM : MapAt mm L) (xb mb : Nat) (v1 : Value) (wb : Nat) (v : Value) (H : List Ent) (hm : ∀ e ∈ rtE xb mb v1 L mm, e ∈ H) :
  ACall Tryz.prog 157 [.p wb 0, .ptr (progC p), .ptr [AV.mvs roots], .ptr [.fn (.func 156) [] [.ptr [.p xb 0]]], .ptr [.p xb 0], .ptr [AV.ths objs]] (wrE wb ([]) v H) (fun _ H' => ∃ v', H' = wrE wb (partL p objs roots L) v' H) (fun _ _ => False) := by
 refine ACall.mk' (n := 33) Tryz.func157 rfl (by kernel_rfl) rfl rfl (fun B I w0 => ?_)
 have hol := hO.ol
 have hLl := hO.rt.len
 have hpl := partL_len (p := p) hO hr hrl
 simp only [partL, List.length_append] at hpl
 refine S2 ?_; refine Obx ?_; refine S3 ?_
 refine CW.dp mixed ?_
 refine DP.anyK (X := noX) [⟨8, 15, false⟩] (fun J => match J with | [some v2] => .own 5 1 v2 :: .blk wb 99 [.as (u8s []) v] :: H | _ => wrE wb [] v H) (fun q J => match q, J with | 0, [some v2] => .as (.sl 1 ([] ++ ((sumR 1 (progW p)).map fun x => [u8 x]))) v2 | _, _ => .any) 0 9 33 rfl (by decide +kernel) (by decide +kernel) rfl rfl (by decide +kernel) rfl (fun _ _ _ _ _ _ _ _ _ h => h.elim) ?_
 refine UD.popK [[true], [false]] rfl (by decide +kernel) rfl rfl rfl ⟨fun f => (by first | exact POp.ld1 rfl rfl rfl rfl | (apply POp.ld1H rfl rfl rfl; (case hm => repeat (first | exact .head _ | refine .tail _ ?_)); (case hy => rfl))), fun f => (by first | exact POp.ld1 rfl rfl rfl rfl | (apply POp.ld1H rfl rfl rfl; (case hm => repeat (first | exact .head _ | refine .tail _ ?_)); (case hy => rfl))), trivial⟩ ?_
 refine UD.popK [[false]] rfl (by decide +kernel) rfl rfl rfl ⟨fun f => (by first | exact POp.ld1 rfl rfl rfl rfl | (apply POp.ld1H rfl rfl rfl; (case hm => repeat (first | exact .head _ | refine .tail _ ?_)); (case hy => rfl))), trivial⟩ ?_
 refine UD.popK [[false]] rfl (by decide +kernel) rfl rfl rfl ⟨fun f => (by first | exact POp.nilCheck rfl rfl rfl | exact POp.nilCheckP rfl rfl rfl | exact POp.nilCheckF rfl rfl rfl), trivial⟩ ?_
 refine UD.popK [[false]] rfl (by decide +kernel) rfl rfl rfl ⟨fun f => (by first | exact POp.fa rfl rfl rfl rfl | exact POp.faP rfl rfl rfl rfl), trivial⟩ ?_
 refine UD.popK [[false]] rfl (by decide +kernel) rfl rfl rfl ⟨fun f => (by first | exact POp.fa rfl rfl rfl rfl | exact POp.faP rfl rfl rfl rfl), trivial⟩ ?_
 refine UD.popK [[false]] rfl (by decide +kernel) rfl rfl rfl ⟨fun f => (by first | exact POp.ld1 rfl rfl rfl rfl | (apply POp.ld1H rfl rfl rfl; (case hm => repeat (first | exact .head _ | refine .tail _ ?_)); (case hy => rfl))), trivial⟩ ?_
 refine UD.popK [[false]] rfl (by decide +kernel) rfl rfl rfl ⟨fun f => (by first | exact POp.ldA rfl rfl rfl rfl | (apply POp.ldAH rfl rfl rfl; (case hm => repeat (first | exact .head _ | refine .tail _ ?_)); (case hy => rfl); (case hn => rfl))), trivial⟩ ?_
 refine UD.popK [[false]] rfl (by decide +kernel) rfl rfl rfl ⟨fun f => POp.call (.mk' rfl rfl rfl rfl rfl) (keyC hp), trivial⟩ ?_
 refine UD.effK 0 [[false]] rfl rfl rfl (by decide +kernel) rfl rfl rfl ⟨fun f => ⟨KOk.own (news := ((sumR 1 (progW p)).map fun x => [u8 x])) rfl rfl rfl (AVle.refl _) rfl rfl (AVle.refl _) (one_u8s _) (by simp [sumR_len]) (by simp [sumR_len]) (fun _ => .head _ _ _) (fun _ => rfl), (by intro v q hq; rcases q with _ | _ | _ | _ | _ | _ | q <;> first | rfl | (cases hq))⟩, trivial⟩ ?_
 refine UD.nil (fun f => ?_)
 simp only [kvals, List.map_cons, List.map_nil, List.cons_append, List.nil_append]
 refine DP.tailC 9 (by decide +kernel) rfl ?_
 refine Onc ?_; refine Ofa ?_; refine Ofa ?_; refine Sto ?_; refine S3 ?_
 refine CW.dp mixed ?_
 refine DP.anyC 0 6 33 rfl (by decide +kernel) rfl rfl (by decide +kernel) ?_
 refine Ald ?_; refine Ald ?_; refine Ald ?_
 refine AD.popC rfl rfl rfl (POp.callIn (.mk' rfl rfl rfl rfl rfl) (AVleL.refl _) (movedC (l := roots) (place_ok hM xb mb v1) (fun v hv _ => key_of (by omega) (List.all_eq_true.1 hr v hv)) (by omega)) (fun e he => .tail _ (.tail _ (hm e he)))) ?_
 refine Ald ?_; refine Amf ?_
 refine AD.nil ?_
 refine DP.tailC 6 (by decide +kernel) rfl ?_
 refine OL.bcallC rfl rfl rfl (.mk' rfl rfl rfl rfl rfl) ((writtenV (f := valW) (l := roots.map (move1 (placeP L))) (out := sumR 1 (progW p)) (by rw [List.length_map]; omega) (WrOk.fn (fun x hx o u hu => by obtain ⟨y, hy, rfl⟩ := List.mem_map.1 hx; exact valueW (move_ok hO (List.all_eq_true.1 hr y hy)) wb hu u H)) (by omega) _).b) ?_
 rintro y _ ⟨v3, rfl⟩
 refine S2 ?_
 refine CW.dp mixed ?_
 refine DP.anyC 0 6 33 rfl (by decide +kernel) rfl rfl (by decide +kernel) ?_
 refine Ald ?_; refine Ald ?_; refine Anc ?_; refine Afa ?_
 refine AD.popC rfl rfl rfl ((by first | exact POp.ld1 rfl rfl rfl rfl | (apply POp.ld1H rfl rfl rfl; (case hm => exact .tail _ (.tail _ (hm _ (.head _)))); (case hy => rfl)))) ?_
 refine Amf ?_
 refine AD.nil ?_
 refine DP.tailC 6 (by decide +kernel) rfl ?_
 refine OL.bcallC rfl rfl rfl ((CallOk.mk' rfl rfl rfl rfl rfl).le (.cons (.refl _) (.cons (AVle.asL _ _) (.cons (.refl _) .nil)))) ((writtenI (f := fun n => thW (objW L objs n)) (l := L) (by omega) (WrOk.fn (fun n hn o u hu => part21 hO hM xb mb v1 hn wb hu u H hm)) (by rw [List.length_append]; omega) _).b) ?_
 rintro y _ ⟨v4, rfl⟩
 refine S1 ?_
 refine Done.norR (rs := []) (H' := wrE wb (sumR 1 (progW p) ++ listW valW (roots.map (move1 (placeP L))) ++ listW (fun n => thW (objW L objs n)) L) v4 H) rfl (.nil) (AVleL.refl _) (by repeat (first | exact List.Sublist.refl _ | refine List.Sublist.cons _ ?_)) ?_
 exact ⟨v4, rfl⟩
structure AskOk (p : Prog) (objs : List Th) (roots : List (Int × Int)) : Prop where
 p : okP p
 po : PartOk objs (reachP objs roots)
 rs : roots.all (valueP objs.length) = true
 rl : roots.length ≤ 20
theorem ask_ok {p : Prog} {objs : List Th} {roots : List (Int × Int)} (h : askedP p objs roots = true) : AskOk p objs roots := by
 obtain ⟨h1, h2, h3, h4⟩ := asked_parts h
 simp only [askedP, Bool.and_eq_true] at h
 obtain ⟨h5, h6, h7⟩ := ok_of h.1
 obtain ⟨i, h8, _⟩ := reach_ok h3 h4
 exact ⟨h5, ⟨h1, h8.ok, h4, h7⟩, h3, h2⟩
theorem partedC {p : Prog} {objs : List Th} {roots : List (Int × Int)} (hk : AskOk p objs roots) : PCall Tryz.prog 81 [AV.prog p, AV.ths objs, AV.mvs roots] (u8s (partP p objs roots)) := by
 intro H
 refine ACall.mk' (n := 23) Tryz.func81 rfl (by kernel_rfl) rfl rfl (fun B I w0 => ?_)
 have hpl := partL_len (p := p) hk.po hk.rs hk.rl
 have hsl := secW_len (k := 3) (b := partL p objs roots (reachP objs roots)) (by omega)
 refine S2 ?_; refine Obx ?_; refine Obx ?_; refine Obx ?_; refine Oas ?_; refine S4 ?_; refine Old ?_; refine Old ?_
 refine OL.bcallC rfl rfl rfl (.mk' rfl rfl rfl rfl rfl) ((reachC hk.po.ol hk.rs hk.po.vs H).b) ?_
 rintro y _ ⟨xb, mb, v, mm, rfl, hM, rfl⟩
 refine OL.alC rfl rfl rfl rfl (fun b7 => ?_)
 refine Sto ?_; refine S3 ?_
 refine CW.freezeP (d := 7) rfl (by repeat (first | exact Del.head _ _ | apply Del.tail)) ?_
 refine S1 ?_; refine Omf ?_
 refine OL.alC rfl rfl rfl rfl (fun b8 => ?_)
 refine Sto ?_; refine S3 ?_
 refine CW.freezeP (d := 8) rfl (by repeat (first | exact Del.head _ _ | apply Del.tail)) ?_
 refine S1 ?_
 refine OL.bcallC rfl rfl rfl (.mk' rfl rfl rfl rfl rfl) ((begunC 80 _).b) ?_
 rintro y _ ⟨wb, v0, rfl, rfl⟩
 refine Oas ?_; refine S4 ?_; refine Omv ?_; refine Omf ?_
 refine OL.bcallC rfl rfl rfl (.mk' rfl rfl rfl rfl rfl) ((sectionC wb 3 (body := partL p objs roots (reachP objs roots)) (by show 2 + _ ≤ _; omega) (fun B ib u => VCall.fn (part2 hk.p hk.po hk.rs hk.rl hM xb mb v ib u _ (fun e he => .tail _ (.tail _ (.tail _ (List.mem_append_left H he))))))).b) ?_
 rintro y _ ⟨v2, rfl⟩
 refine S4 ?_; refine Omv ?_; refine Onc ?_; refine Ofa ?_; refine Ofa ?_; refine Old ?_; refine Oas ?_; refine S3 ?_
 refine Done.retR (rs := [.tmp 6]) (H' := H) rfl (.tmp rfl (.nil)) (.cons (AVle.asL _ _) .nil) (by repeat (first | exact List.Sublist.refl _ | refine List.Sublist.cons _ ?_)) ?_
 exact ⟨by rfl, rfl⟩
theorem partC {p : Prog} (hp : p.Small) (objs : List Th) (roots : List (Int × Int)) : PCall Tryz.prog 27 [AV.prog p, AV.ths objs, AV.mvs roots] (.tup [u8s (partQ p objs roots), .i (if askedP p objs roots then 0 else 2)]) := by
 intro H
 refine ACall.mk' (n := 17) Tryz.func27 rfl (by kernel_rfl) rfl rfl (fun B I w0 => ?_)
 refine S2 ?_; refine Obx ?_; refine Oas ?_; refine Oas ?_; refine S5 ?_; refine Ola ?_; refine Omv ?_; refine Omv ?_
 refine OL.popC rfl rfl rfl (POp.call (.mk' rfl rfl rfl rfl rfl) (askedC hp objs roots)) ?_
 refine Ont ?_; refine S2 ?_
 refine CW.cond rfl (fun h0 => ?_) (fun h0 => ?_)
 ·
  have ha : askedP p objs roots = false := by simpa using h0
  refine S2 ?_; refine Oas ?_; refine Oas ?_; refine S4 ?_
  refine Done.retR (rs := [.tmp 6, .tmp 7]) (H' := H) rfl (.tmp rfl (.tmp rfl (.nil))) (.cons (AVle.nil 1) (.cons (.refl _) .nil)) (by repeat (first | exact List.Sublist.refl _ | refine List.Sublist.cons _ ?_)) ?_
  exact ⟨by rw [partQ, ha]; rfl, rfl⟩
 ·
  have ha : askedP p objs roots = true := by simpa using h0
  refine S4 ?_; refine Ola ?_; refine Omv ?_; refine Omv ?_
  refine OL.popC rfl rfl rfl (POp.call (.mk' rfl rfl rfl rfl rfl) (partedC (ask_ok ha))) ?_
  refine Oas ?_; refine Oas ?_; refine S3 ?_
  refine Done.retR (rs := [.tmp 6, .tmp 7]) (H' := H) rfl (.tmp rfl (.tmp rfl (.nil))) (AVleL.refl _) (by repeat (first | exact List.Sublist.refl _ | refine List.Sublist.cons _ ?_)) ?_
  exact ⟨by rw [partQ, ha]; rfl, rfl⟩
def alikeP (p : Prog) (objs : List Th) (roots : List (Int × Int)) (others : List Th) (otherRoots : List (Int × Int)) : Bool := askedP p objs roots && askedP p others otherRoots && (partP p objs roots == partP p others otherRoots)
theorem alikeC {p : Prog} (hp : p.Small) (objs : List Th) (roots : List (Int × Int)) (others : List Th) (otherRoots : List (Int × Int)) : PCall Tryz.prog 33 [AV.prog p, AV.ths objs, AV.mvs roots, AV.ths others, AV.mvs otherRoots] (.tup [.b (alikeP p objs roots others otherRoots), .i (if (askedP p objs roots && askedP p others otherRoots) then 0 else 2)]) := by
 intro H
 refine ACall.mk' (n := 33) Tryz.func33 rfl (by kernel_rfl) rfl rfl (fun B I w0 => ?_)
 refine S2 ?_; refine Obx ?_; refine Oas ?_; refine Oas ?_; refine S5 ?_; refine Ola ?_; refine Omv ?_; refine Omv ?_
 refine OL.popC rfl rfl rfl (POp.call (.mk' rfl rfl rfl rfl rfl) (askedC hp objs roots)) ?_
 refine Ont ?_; refine Omv ?_; refine Pla ?_; refine Pmv ?_; refine Pmv ?_
 refine OL.guardC rfl rfl rfl rfl rfl rfl (fun hg => POp.call (.mk' rfl rfl rfl rfl (by first | rfl | ((repeat (first | exact hg | rfl | refine Bool.and_eq_true_iff.2 ⟨?_, ?_⟩)); done) | simp_all [strip, constAV])) (askedC hp others otherRoots)) ?_
 refine Pnt ?_; refine Opk ?_; refine S2 ?_
 refine CW.cond rfl (fun h0 => ?_) (fun h0 => ?_)
 ·
  have ha : (askedP p objs roots && askedP p others otherRoots) = false := by cases h1 : askedP p objs roots <;> cases h2 : askedP p others otherRoots <;> simp_all
  refine S2 ?_; refine Oas ?_; refine Oas ?_; refine S4 ?_
  refine Done.retR (rs := [.tmp 10, .tmp 11]) (H' := H) rfl (.tmp rfl (.tmp rfl (.nil))) (AVleL.refl _) (by repeat (first | exact List.Sublist.refl _ | refine List.Sublist.cons _ ?_)) ?_
  exact ⟨by rw [alikeP, ha]; rfl, rfl⟩
 ·
  have ha : askedP p objs roots = true ∧ askedP p others otherRoots = true := by cases h1 : askedP p objs roots <;> cases h2 : askedP p others otherRoots <;> simp_all
  refine S3 ?_
  refine CW.dp mixed ?_
  refine DP.anyC 0 7 33 rfl (by decide +kernel) rfl rfl (by decide +kernel) ?_
  refine Ala ?_; refine Amv ?_; refine Amv ?_
  refine AD.popC rfl rfl rfl (POp.call (.mk' rfl rfl rfl rfl rfl) (partedC (ask_ok ha.1))) ?_
  refine Ala ?_; refine Amv ?_; refine Amv ?_
  refine AD.nil ?_
  refine DP.tailC 7 (by decide +kernel) rfl ?_
  refine OL.popC rfl rfl rfl (POp.call (.mk' rfl rfl rfl rfl rfl) (partedC (ask_ok ha.2))) ?_
  refine OL.popC rfl rfl rfl (POp.call (.mk' rfl rfl rfl rfl rfl) (eqBytes _ _)) ?_
  refine Oas ?_; refine Oas ?_; refine S3 ?_
  refine Done.retR (rs := [.tmp 10, .tmp 11]) (H' := H) rfl (.tmp rfl (.tmp rfl (.nil))) (AVleL.refl _) (by repeat (first | exact List.Sublist.refl _ | refine List.Sublist.cons _ ?_)) ?_
  exact ⟨by rw [alikeP, ha.1, ha.2]; rfl, rfl⟩
end Go.Proofs.YtpgnjlngepfanaaGreat

set_option linter.unusedVariables false
namespace Go.Eng.Bd
open Go.Eng.Fc
open Go.Eng.Im (U8 numberR manyR)
abbrev Rd (σ α : Type) := σ → List U8 → Option (α × σ × List U8)
def thenR {σ α β : Type} (R : Rd σ α) (k : α → Rd σ β) : Rd σ β := fun s l => match R s l with | none => none | some (a, s', l') => k a s' l'
def doneR {σ α : Type} (a : α) : Rd σ α := fun s l => some (a, s, l)
def needR {σ α : Type} (b : Bool) (R : Rd σ α) : Rd σ α := fun s l => if b then R s l else none
def numR {σ : Type} : Rd σ Int := fun s l => match numberR l with | none => none | some (n, l') => some ((n : Int), s, l')
def manyRd {σ : Type} : Rd σ Nat := fun s l => match manyR l with | none => none | some (n, l') => some (n, s, l')
def znOf (n : Int) : Int := if n % 2 = 1 then -(n / 2) - 1 else n / 2
def intR {σ : Type} : Rd σ Int := thenR numR fun n => doneR (znOf n)
def timesR {σ α : Type} (R : Rd σ α) : Nat → Rd σ (List α)
 | 0, s, l => some ([], s, l)
 | n + 1, s, l => match R s l with
  | none => none
  | some (y, s1, l1) => match timesR R n s1 l1 with
   | none => none
   | some (ys, s2, l2) => some (y :: ys, s2, l2)
def listR {σ α : Type} (R : Rd σ α) : Rd σ (List α) := thenR manyRd fun n => timesR R n
def initR {σ : Type} : Rd σ (Int × Int) := thenR numR fun a => thenR intR fun b => doneR (a, b)
def slotsFrom (s : Int) (n : Nat) : List Int := (List.range n).map fun (k : Nat) => s + (k : Int)
def clsR : Rd Int Cls := thenR (listR numR) fun ps => thenR numR fun n => needR (decide (n ≤ 4)) fun s l => (thenR (listR initR) fun is => doneR ⟨ps, slotsFrom s n.toNat, is⟩) (s + n) l
def kidCnt (op : Int) : Nat := if op = 5 then 1 else if op = 6 ∨ op = 7 then 2 else 0
def opR (op : Int) : Bool := decide (1 ≤ op) && decide (op ≤ 7)
def factB (R : Rd Nat Fact) (op : Int) : Rd Nat Fact :=
 if op = 2 then thenR numR fun a => thenR (listR numR) fun ps => thenR numR fun c => doneR (.mk op a ps c 0 [])
 else if op = 3 ∨ op = 4 then thenR numR fun a => thenR (listR numR) fun ps => thenR intR fun n => doneR (.mk op a ps 0 n [])
 else thenR (timesR R (kidCnt op)) fun ks => doneR (.mk op 0 [] 0 0 ks)
def factR : Nat → Rd Nat Fact
 | 0, _, _ => none
 | f + 1, 0, _ => none
 | f + 1, left + 1, l => (thenR numR fun op => needR (opR op) (factB (factR f) op)) left l
def mthR {σ : Type} : Rd σ Mth := thenR numR fun k => thenR numR fun g => fun s l => match factR 24 24 l with
 | none => none
 | some (f, _, l1) => (thenR numR fun n => doneR ⟨k, g, f, n⟩) s l1
def kidsN (gens : List Int) (op n : Int) : Option Int :=
 if op = 1 ∨ op = 2 ∨ op = 3 ∨ op = 6 ∨ op = 18 then some 0 else if op = 4 ∨ op = 8 ∨ op = 17 then some 1 else if op = 10 then some 3
 else if op = 5 then (if n < gens.length ∧ gens.getD n.toNat default ≤ 3 then some (gens.getD n.toNat default) else none) else some 2
def ndNR {σ : Type} (op : Int) : Rd σ Int := if op = 1 then intR else if nodeNum op then numR else doneR 0
def ndR {σ : Type} (gens : List Int) : Rd σ Nd := thenR numR fun op => needR (decide (1 ≤ op) && decide (op ≤ 18)) (thenR (ndNR op) fun n => match kidsN gens op n with
 | none => fun _ _ => none
 | some k => thenR (timesR numR k.toNat) fun ks => doneR ⟨op, n, ks⟩)
def progT (cs : List Cls) (s : Int) : Rd Unit Prog := thenR (listR numR) fun gs => thenR (listR mthR) fun ms => thenR (listR (ndR gs)) fun ns => thenR numR fun m => doneR ((⟨cs, s, gs, ms, ns, m⟩ : Prog))
def progR : List U8 → Option (Prog × List U8) := fun l => match listR clsR 0 l with
 | none => none
 | some (cs, s, l1) => (progT cs s () l1).map fun q => (q.1, q.2.2)
theorem progR_some {l l1 : List U8} {cs : List Cls} {s : Int} (h : listR clsR 0 l = some (cs, s, l1)) : progR l = (progT cs s () l1).map fun q => (q.1, q.2.2) := by rw [progR, h]
def valR {σ : Type} : Rd σ (Int × Int) := thenR numR fun k => if k = 1 then thenR intR fun n => doneR (k, n) else if k = 3 then thenR numR fun n => doneR (k, n) else needR (k == 2) (doneR (k, 0))
def thR {σ : Type} (p : Prog) : Rd σ Th := thenR numR fun c => needR (ownC p c) (thenR (timesR valR (hasP p c).length) fun vs => doneR ⟨c, vs⟩)
theorem times_snoc {σ α : Type} {R : Rd σ α} {n : Nat} {s0 : σ} {l0 : List U8} {i : Nat} (hi : i < n) {out : List α} {s : σ} {l : List U8} (h : timesR R n s0 l0 = (timesR R (n - i) s l).map fun p => (out ++ p.1, p.2.1, p.2.2)) :
  (R s l = none → timesR R n s0 l0 = none) ∧ ∀ y s' l', R s l = some (y, s', l') → timesR R n s0 l0 = (timesR R (n - (i + 1)) s' l').map fun p => (out ++ [y] ++ p.1, p.2.1, p.2.2) := by
 rw [show n - i = n - (i + 1) + 1 by omega, timesR] at h
 refine ⟨fun hn => by rw [h, hn]; rfl, fun y s' l' hy => ?_⟩
 rw [h, hy]
 rcases hq : timesR R (n - (i + 1)) s' l' with _ | ⟨a, b, c⟩
 ·simp only [hq]; rfl
 ·simp only [hq]; simp
theorem times_end {σ α : Type} {R : Rd σ α} {n : Nat} {s0 : σ} {l0 : List U8} {out : List α} {s : σ} {l : List U8} (h : timesR R n s0 l0 = (timesR R (n - n) s l).map fun p => (out ++ p.1, p.2.1, p.2.2)) : timesR R n s0 l0 = some (out, s, l) := by
 rw [h, Nat.sub_self, timesR]; simp
theorem times_begin {σ α : Type} (R : Rd σ α) (n : Nat) (s : σ) (l : List U8) : timesR R n s l = (timesR R (n - 0) s l).map fun p => ([] ++ p.1, p.2.1, p.2.2) := by
 rw [Nat.sub_zero]; cases timesR R n s l <;> simp
theorem thenR_some {σ α β : Type} {R : Rd σ α} {k : α → Rd σ β} {s s' : σ} {l l' : List U8} {a : α} (h : R s l = some (a, s', l')) : thenR R k s l = k a s' l' := by rw [thenR, h]
theorem thenR_none {σ α β : Type} {R : Rd σ α} {k : α → Rd σ β} {s : σ} {l : List U8} (h : R s l = none) : thenR R k s l = none := by rw [thenR, h]
theorem numR_some {σ : Type} {s : σ} {l l' : List U8} {n : Nat} (h : numberR l = some (n, l')) : numR s l = some ((n : Int), s, l') := by rw [numR, h]
theorem numR_none {σ : Type} {s : σ} {l : List U8} (h : numberR l = none) : numR s l = none := by rw [numR, h]
theorem needR_yes {σ α : Type} {b : Bool} {R : Rd σ α} {s : σ} {l : List U8} (h : b = true) : needR b R s l = R s l := by rw [needR, if_pos h]
theorem needR_no {σ α : Type} {b : Bool} {R : Rd σ α} {s : σ} {l : List U8} (h : b = false) : needR b R s l = none := by rw [needR, h]; rfl
end Go.Eng.Bd

set_option linter.unusedVariables false
set_option linter.unusedSimpArgs false
set_option maxRecDepth 10000
namespace Go.Proofs.YtpgnjlngepfanaaGreat
open Go.Eng
open Go.Eng.Im
abbrev wrongV : Value := .iface 176 (.agg #[])
abbrev wrongA : AV := .iface 176 (.agg [])
theorem wrong_c : wrongA.Const wrongV where
 is I w u h := by
  cases h with
  | iface _ _ v h => cases h with
   | agg _ vs h =>
    have : vs = #[] := by cases vs with | mk l => cases h; rfl
    rw [this]
 rel I w := .iface _ _ _ (.agg _ _ .nil)
abbrev rdr (rb : Nat) (l : List U8) : Ent := .blk rb 177 [u8s l]
theorem q71t {b : Bool} (hb : b = true) (H : List Ent) : RCall Tryz.prog 71 [.b b] H (some (.tup [], H)) H wrongA := by
 refine ACall.mk' (n := 6) Tryz.func71 rfl (by kernel_rfl) rfl rfl (fun B I w0 => ?_)
 refine S2 ?_; refine Omv ?_; refine Ont ?_; refine S2 ?_
 refine CW.cond rfl (fun h0 => ?_) (fun h0 => ?_)
 ·
  simp [hb] at h0
 ·
  replace h0 := nm h0
  refine S1 ?_
  refine Done.norR (rs := []) (H' := H) rfl (.nil) (AVleL.refl _) (by repeat (first | exact List.Sublist.refl _ | refine List.Sublist.cons _ ?_)) ?_
  exact rfl
theorem q71f {b : Bool} (hb : b = false) (H : List Ent) : RCall Tryz.prog 71 [.b b] H none H wrongA := by
 refine ACall.mk' (n := 6) Tryz.func71 rfl (by kernel_rfl) rfl rfl (fun B I w0 => ?_)
 refine S2 ?_; refine Omv ?_; refine Ont ?_; refine S2 ?_
 refine CW.cond rfl (fun h0 => ?_) (fun h0 => ?_)
 ·
  replace h0 := nm h0
  refine S1 ?_; refine Obd ?_
  refine OL.popC rfl rfl rfl (POp.makeIface rfl rfl rfl (by kernel_rfl)) ?_
  refine OL.panicC rfl rfl rfl rfl wrong_c ?_
  exact outP wrong_c (.refl _) ⟨rfl, rfl, rfl⟩
 ·
  simp [hb] at h0
theorem q86 (l : List U8) (n : Nat) (rb : Nat) (Hx : List Ent) : RCall Tryz.prog 86 [.p rb 0, .i n] (rdr rb l :: Hx) (if n ≤ l.length then some (u8s (l.take n), rdr rb (l.drop n) :: Hx) else none) Hx wrongA := by
 refine ACall.mk' (n := 31) Tryz.func86 rfl (by kernel_rfl) rfl rfl (fun B I w0 => ?_)
 refine S2 ?_; refine Oas ?_; refine S4 ?_; refine Omv ?_; refine Omv ?_; refine Onc ?_; refine Ofa ?_; refine Old ?_; refine Oln ?_; refine Ocm ?_
 by_cases hn : n ≤ l.length
 ·
  refine OL.rcallS rfl rfl rfl (.mk' rfl rfl rfl rfl rfl) (q71t (by simp; omega) _) ?_
  refine S4 ?_; refine Omv ?_; refine Onc ?_; refine Ofa ?_; refine Old ?_; refine Omv ?_; refine Omv ?_
  refine OL.popC rfl rfl rfl (POp.slTo3 rfl rfl rfl rfl rfl rfl rfl hn) ?_
  refine Oas ?_; refine S4 ?_; refine Omv ?_; refine Omv ?_; refine Onc ?_; refine Ofa ?_; refine Old ?_; refine Omv ?_
  refine OL.popC rfl rfl rfl (POp.slFrom rfl rfl (by first | rfl | exact hg | simp_all) rfl (by first | rfl | exact hg | simp_all) hn) ?_
  refine Onc ?_; refine Ofa ?_; refine Sto ?_; refine S4 ?_; refine Omv ?_; refine Oas ?_; refine S3 ?_
  refine r1 4 (rdr rb (l.drop n) :: Hx) ?_
  exact if_pos hn
 ·
  refine OL.rcallN rfl rfl (.mk' rfl rfl rfl rfl rfl) (q71f (by simp; omega) _) wrong_c ?_
  exact outP (P := Tryz.prog) (fn := Tryz.f86) wrong_c (.cons _ (.refl _)) ⟨if_neg hn, rfl, rfl⟩
theorem q86c (x : U8) (r : List U8) (rb : Nat) (Hx : List Ent) : RCall Tryz.prog 86 [.p rb 0, .i 1] (rdr rb (x :: r) :: Hx) (some (u8s [x], rdr rb r :: Hx)) Hx wrongA := by
 have h := q86 (x :: r) 1 rb Hx
 rwa [if_pos (by simp)] at h
theorem q86z (rb : Nat) (Hx : List Ent) : RCall Tryz.prog 86 [.p rb 0, .i 1] (rdr rb [] :: Hx) none Hx wrongA := by
 have h := q86 [] 1 rb Hx
 rwa [if_neg (by simp)] at h
def numO (l : List U8) (rb : Nat) (Hx : List Ent) : Option (AV × List Ent) := (numberR l).map fun p => (AV.i p.1, rdr rb p.2 :: Hx)
theorem q134 (l : List U8) (rb : Nat) (Hx : List Ent) : RCall Tryz.prog 134 [.p rb 0] (rdr rb l :: Hx) (numO l rb Hx) Hx wrongA := by
 refine ACall.mk' (n := 34) Tryz.func134 rfl (by kernel_rfl) rfl rfl (fun B I w0 => ?_)
 refine S2 ?_; refine Oas ?_; refine S4 ?_; refine Oas ?_; refine S5 ?_; refine Omv ?_; refine S3 ?_
 refine lj (fun m st => ∃ (i n : Nat) (l' : List U8), st = ⟨[(3, .i n), (6, .i i), (0, .p rb 0)], rdr rb l' :: Hx⟩ ∧ m = 5 - i ∧ NumAt l i n l') (⟨0, 0, l, rfl, rfl, .begin l⟩) ?_
 rintro m _ ⟨i, n, l', rfl, rfl, hN⟩
 have hle := hN.le
 have hlt := hN.lt
 refine S2 ?_; refine Ocm ?_; refine S3 ?_
 refine CW.cond rfl (fun h0 => ?_) (fun h0 => ?_)
 ·
  replace h0 := nm h0
  have hi : i < 5 := by omega
  have hp := p128_le hi
  refine S6 ?_; refine Omv ?_; refine Oas ?_; refine S4 ?_; refine Omv ?_
  rcases l' with _ | ⟨x, r⟩
  ·
   refine OL.rcallN rfl rfl (.mk' rfl rfl rfl rfl rfl) (q86z _ _) wrong_c ?_
   exact outP (P := Tryz.prog) (fn := Tryz.f134) wrong_c (.refl _) ⟨by rw [numO, hN.empty]; rfl, rfl, rfl⟩
  ·
   refine OL.rcallS rfl rfl rfl (.mk' rfl rfl rfl rfl rfl) (q86c _ _ _ _) ?_
   refine OL.popC rfl rfl rfl ((by first | exact POp.ixM rfl rfl rfl rfl rfl (by simp) | exact POp.ixI rfl rfl rfl rfl rfl (by simp))) ?_
   refine Old ?_; refine Oas ?_; refine S4 ?_; refine Omv ?_; refine Omv ?_
   refine OL.popC rfl rfl rfl (POp.bits rfl rfl rfl rfl rfl (u8_and127 x)) ?_
   refine OL.popC rfl rfl rfl (POp.cv rfl rfl rfl (wrap64 (by omega))) ?_
   refine Omv ?_; refine Oar ?_
   refine OL.popC rfl rfl rfl (POp.shift rfl rfl rfl rfl rfl (by omega) (sh7 (Nat.mod_lt _ (by decide)) hi)) ?_
   refine OL.popC rfl rfl rfl (POp.bits rfl rfl rfl rfl rfl (or7 hlt (Nat.mod_lt _ (by decide)) hi)) ?_
   refine Oas ?_; refine S4 ?_; refine Omv ?_; refine Ocm ?_; refine S2 ?_
   refine CW.cond rfl (fun h1 => ?_) (fun h1 => ?_)
   ·
    replace h1 := nm h1
    have hx : x.val < 128 := by exact Int.ofNat_lt.1 h1
    refine S2 ?_; refine Omv ?_; refine Ocm ?_; refine Omv ?_; refine Pmv ?_; refine Pcm ?_; refine Opk ?_
    by_cases hg : i = 0 ∨ 0 < x.val
    ·
     refine OL.rcallS rfl rfl rfl (.mk' rfl rfl rfl rfl rfl) (q71t (by simpa using hg) _) ?_
     refine S4 ?_; refine Omv ?_; refine Oas ?_; refine S8 ?_
     refine r1 2 (rdr rb r :: Hx) ?_
     rw [numO, hN.last hi hx hg]; rfl
    ·
     refine OL.rcallN rfl rfl (.mk' rfl rfl rfl rfl rfl) (q71f (by simpa using hg) _) wrong_c ?_
     exact outP (P := Tryz.prog) (fn := Tryz.f134) wrong_c (.cons _ (.refl _)) ⟨by rw [numO, hN.bad hi hx hg]; rfl, rfl, rfl⟩
   ·
    replace h1 := nm h1
    have hx : ¬ x.val < 128 := fun h => absurd (Int.ofNat_lt.2 h) (by simpa using h1)
    refine S4 ?_; refine Oar ?_; refine Omv ?_; refine S1 ?_
    exact ag (⟨i + 1, n + 128 ^ i * (x.val % 128), r, rfl, rfl, hN.step hi hx⟩)
 ·
  replace h0 := nm h0
  refine S6 ?_; refine Obd ?_
  refine OL.popC rfl rfl rfl (POp.makeIface rfl rfl rfl (by kernel_rfl)) ?_
  refine OL.panicC rfl rfl rfl rfl wrong_c ?_
  exact outP (P := Tryz.prog) (fn := Tryz.f134) wrong_c (.cons _ (.refl _)) ⟨by rw [numO, hN.long (by omega)]; rfl, rfl, rfl⟩
def manyO (l : List U8) (rb : Nat) (Hx : List Ent) : Option (AV × List Ent) := (manyR l).map fun p => (AV.i p.1, rdr rb p.2 :: Hx)
theorem q134s {l : List U8} {n : Nat} {r : List U8} (h : numberR l = some (n, r)) (rb : Nat) (Hx : List Ent) : RCall Tryz.prog 134 [.p rb 0] (rdr rb l :: Hx) (some (.i n, rdr rb r :: Hx)) Hx wrongA := by
 have := q134 l rb Hx
 rwa [numO, h] at this
theorem q134n {l : List U8} (h : numberR l = none) (rb : Nat) (Hx : List Ent) : RCall Tryz.prog 134 [.p rb 0] (rdr rb l :: Hx) none Hx wrongA := by
 have := q134 l rb Hx
 rwa [numO, h] at this
theorem q164 (l : List U8) (rb : Nat) (Hx : List Ent) : RCall Tryz.prog 164 [.p rb 0] (rdr rb l :: Hx) (manyO l rb Hx) Hx wrongA := by
 refine ACall.mk' (n := 15) Tryz.func164 rfl (by kernel_rfl) rfl rfl (fun B I w0 => ?_)
 refine S2 ?_; refine Oas ?_; refine S4 ?_; refine Omv ?_
 rcases hq : numberR l with _ | ⟨n, r⟩
 ·
  refine OL.rcallN rfl rfl (.mk' rfl rfl rfl rfl rfl) (q134n hq _ _) wrong_c ?_
  exact outP (P := Tryz.prog) (fn := Tryz.f164) wrong_c (.refl _) ⟨by rw [manyO, manyR, hq]; rfl, rfl, rfl⟩
 ·
  refine OL.rcallS rfl rfl rfl (.mk' rfl rfl rfl rfl rfl) (q134s hq _ _) ?_
  refine Oas ?_; refine S4 ?_; refine Omv ?_; refine Omv ?_; refine Onc ?_; refine Ofa ?_; refine Old ?_; refine Oln ?_; refine Ocm ?_
  by_cases hn : n ≤ r.length
  ·
   refine OL.rcallS rfl rfl rfl (.mk' rfl rfl rfl rfl rfl) (q71t (by simp; omega) _) ?_
   refine S4 ?_; refine Omv ?_; refine Oas ?_; refine S3 ?_
   refine r1 2 (rdr rb r :: Hx) ?_
   exact by rw [manyO, manyR, hq]; simp only; rw [if_pos hn]; rfl
  ·
   refine OL.rcallN rfl rfl (.mk' rfl rfl rfl rfl rfl) (q71f (by simp; omega) _) wrong_c ?_
   exact outP (P := Tryz.prog) (fn := Tryz.f164) wrong_c (.cons _ (.refl _)) ⟨by rw [manyO, manyR, hq]; simp only; rw [if_neg hn]; rfl, rfl, rfl⟩
theorem q164s {l : List U8} {n : Nat} {r : List U8} (h : manyR l = some (n, r)) (rb : Nat) (Hx : List Ent) : RCall Tryz.prog 164 [.p rb 0] (rdr rb l :: Hx) (some (.i n, rdr rb r :: Hx)) Hx wrongA := by
 have := q164 l rb Hx
 rwa [manyO, h] at this
theorem q164n {l : List U8} (h : manyR l = none) (rb : Nat) (Hx : List Ent) : RCall Tryz.prog 164 [.p rb 0] (rdr rb l :: Hx) none Hx wrongA := by
 have := q164 l rb Hx
 rwa [manyO, h] at this
theorem q117 (k : U8) (l : List U8) (hl : l.length < 140737488355328) : PCall Tryz.prog 117 [.i k.val, u8s l] (u8s (sumR k l)) := by
 intro H
 refine ACall.mk' (n := 40) Tryz.func117 rfl (by kernel_rfl) rfl rfl (fun B I w0 => ?_)
 have hlen : (k :: l).length = l.length + 1 := rfl
 refine S2 ?_; refine Oas ?_; refine S4 ?_; refine Oas ?_; refine Oas ?_; refine S5 ?_; refine Omv ?_
 refine OL.popC rfl rfl rfl (POp.cv rfl rfl rfl (u8_wrap8 k)) ?_
 refine OL.rowOwn (els := [[u8 k]]) rfl rfl rfl rfl (by first | rfl | simp_all [strip]) rfl rfl rfl rfl rfl rfl rfl (fun v11 => ?_)
 refine Omv ?_
 refine OL.appendC rfl rfl rfl rfl rfl rfl rfl rfl (AVle.refl _) (one_map (fun _ => rfl) l) (fun v => by repeat (first | exact Upd.head _ _ _ | apply Upd.tail)) (by simp; omega) (by simp; omega) (fun v13 => ?_)
 refine OL.le 13 (y := u8s (k :: l)) rfl (AVle.asL _ _) ?_
 refine Oln ?_; refine Omv ?_; refine S3 ?_
 refine lj (fun m st => ∃ j : Nat, st = ⟨[(15, .i j), (14, .i (k :: l).length), (13, u8s (k :: l)), (5, .i (sumP ((k :: l).take j)).1), (6, .i (sumP ((k :: l).take j)).2)], H⟩ ∧ m = (k :: l).length - j ∧ j ≤ (k :: l).length) (⟨0, rfl, rfl, Nat.zero_le _⟩) ?_
 rintro m _ ⟨j, rfl, rfl, hj⟩
 obtain ⟨hb1, hb2⟩ := sumP_lt ((k :: l).take j)
 refine S2 ?_; refine Ocm ?_; refine S3 ?_
 refine CW.cond rfl (fun h0 => ?_) (fun h0 => ?_)
 ·
  replace h0 := nm h0
  have hj' : j < (k :: l).length := Int.ofNat_lt.1 h0
  obtain ⟨x, hx⟩ : ∃ x, x = (k :: l).getD j default := ⟨_, rfl⟩
  have hst := sumP_step hj'
  rw [← hx] at hst
  have hxl := x.isLt
  refine S6 ?_
  refine OL.popC rfl rfl rfl ((by first | exact POp.ixM rfl rfl rfl rfl rfl hj' | exact POp.ixI rfl rfl rfl rfl rfl hj')) ?_
  refine Old ?_; refine Oas ?_; refine S3 ?_
  rw [← hx]
  refine S1 ?_; refine Omv ?_; refine Omv ?_
  refine OL.popC rfl rfl rfl (POp.cv rfl rfl rfl (wrap64 (by omega))) ?_
  refine Oar ?_
  refine OL.popC rfl rfl rfl (POp.div rfl rfl rfl rfl rfl (by decide) (.inr ⟨rfl, tm_sum _ _⟩)) ?_
  refine Oas ?_; refine S3 ?_; refine Omv ?_; refine Omv ?_; refine Oar ?_
  refine OL.popC rfl rfl rfl (POp.div rfl rfl rfl rfl rfl (by decide) (.inr ⟨rfl, tm_sum _ _⟩)) ?_
  refine Oas ?_; refine S4 ?_; refine Oar ?_; refine Omv ?_; refine S1 ?_
  exact ag (⟨j + 1, by rw [hst], rfl, hj'⟩)
 ·
  replace h0 := nm h0
  obtain rfl : j = (k :: l).length := by omega
  rw [List.take_length] at hb1 hb2 ⊢
  refine S7 ?_; refine Omv ?_
  refine OL.popC rfl rfl rfl (POp.shift rfl rfl rfl rfl rfl (by decide) (shr8 _)) ?_
  refine OL.popC rfl rfl rfl (POp.cv rfl rfl rfl (u8_wrap _)) ?_
  refine Omv ?_
  refine OL.popC rfl rfl rfl (POp.cv rfl rfl rfl (u8_wrap _)) ?_
  refine Omv ?_
  refine OL.popC rfl rfl rfl (POp.shift rfl rfl rfl rfl rfl (by decide) (shr8 _)) ?_
  refine OL.popC rfl rfl rfl (POp.cv rfl rfl rfl (u8_wrap _)) ?_
  refine Omv ?_
  refine OL.popC rfl rfl rfl (POp.cv rfl rfl rfl (u8_wrap _)) ?_
  refine OL.popC rfl rfl rfl (POp.row rfl rfl (by first | rfl | simp_all [strip]) rfl rfl rfl rfl rfl rfl) ?_
  refine Oas ?_; refine S3 ?_
  refine r1 4 (H) ?_
  exact ⟨by first | rfl | exact retI (by simp_all) | exact retB (by simp_all) | simp_all, rfl⟩
theorem q87 (l r : List U8) : PCall Tryz.prog 87 [u8s l, u8s r] (.b (l == r)) := by
 intro H
 refine ACall.mk' (n := 10) Tryz.func87 rfl (by kernel_rfl) rfl rfl (fun B I w0 => ?_)
 refine S2 ?_; refine Oas ?_; refine S4 ?_; refine Omv ?_
 refine OL.popC rfl rfl rfl (POp.bytesStr (ns := l.map fun x => (x.val : Int)) rfl (by rw [List.map_map]; rfl) rfl (by kernel_rfl)) ?_
 refine Omv ?_
 refine OL.popC rfl rfl rfl (POp.bytesStr (ns := r.map fun x => (x.val : Int)) rfl (by rw [List.map_map]; rfl) rfl (by kernel_rfl)) ?_
 refine OL.popC rfl rfl rfl (POp.eqS rfl rfl rfl rfl rfl) ?_
 refine Oas ?_; refine S3 ?_
 refine r1 4 (H) ?_
 exact ⟨retB (strOf_eq l r), rfl⟩
theorem q152 (rb : Nat) : PCall Tryz.prog 152 [.p rb 0] (.fn (.func 209) [] [.ptr [.p rb 0]]) := by
 intro H
 refine ACall.mk' (n := 4) Tryz.func152 rfl (by kernel_rfl) rfl rfl (fun B I w0 => ?_)
 refine S2 ?_; refine Obx ?_; refine Oas ?_; refine S4 ?_; refine Omf ?_; refine Oas ?_; refine S3 ?_
 refine r1 2 (H) ?_
 exact ⟨by first | rfl | exact retI (by simp_all) | exact retB (by simp_all) | simp_all, rfl⟩
theorem c209 {B : Nat} (l : List U8) (hl : l.length < 140737488355328) (rb : Nat) {g : Fn} {gs gc : List AV} {J Jx : List Sec → List Ent → Prop} (hg : CbOk B Tryz.prog (.fn g gs gc) secA (secsOf l).1 (fun _ => True) J Jx) (H Hx : List Ent) (hJ : J [] H) :
  BCall B Tryz.prog 209 [.fn g gs gc, .ptr [.p rb 0]] (H ++ ([rdr rb l] ++ Hx)) (fun _ H' => ∃ H1 Hs', H' = H1 ++ (Hs' ++ Hx) ∧ (((secsOf l).2 = true ∧ J (secsOf l).1 H1) ∨ ∃ pre, pre <+: (secsOf l).1 ∧ Jx pre H1))
   (fun y H' => ∃ H1 Hs', H' = H1 ++ (Hs' ++ Hx) ∧ ((secsOf l).2 = false ∧ y = wrongA) ∧ J (secsOf l).1 H1) := by
 refine BCall.of (n := 35) Tryz.func209 rfl (by kernel_rfl) rfl rfl (fun I w0 => ?_)
 refine CW.perm (H' := rdr rb l :: (H ++ Hx)) List.perm_middle ?_
 refine S1 ?_
 refine lj (fun m st => ∃ (pre : List Sec) (l' : List U8) (H1 : List Ent), st = ⟨[(0, .fn g gs gc), (1, .ptr [.p rb 0])], rdr rb l' :: (H1 ++ Hx)⟩ ∧ m = l'.length ∧ J pre H1 ∧ SecAt l pre l') (⟨[], l, H, rfl, rfl, hJ, .begin l⟩) ?_
 rintro m _ ⟨pre, l', H1, rfl, rfl, hJ1, hA⟩
 refine S3 ?_; refine Old ?_; refine Onc ?_; refine Ofa ?_; refine Old ?_; refine Oln ?_; refine Ocm ?_; refine S2 ?_
 refine CW.cond rfl (fun h0 => ?_) (fun h0 => ?_)
 ·
  replace h0 := nm h0
  obtain ⟨k, r, rfl⟩ : ∃ k r, l' = k :: r := by cases l' with | nil => simp at h0 | cons k r => exact ⟨k, r, rfl⟩
  have hkl := k.isLt
  have hlen := hA.len
  simp only [List.length_cons] at hlen
  refine S5 ?_; refine Old ?_
  ·
   refine OL.rcallS rfl rfl rfl (.mk' rfl rfl rfl rfl rfl) (q86c k r rb (H1 ++ Hx)) ?_
   refine OL.popC rfl rfl rfl ((by first | exact POp.ixM rfl rfl rfl rfl rfl (by simp) | exact POp.ixI rfl rfl rfl rfl rfl (by simp))) ?_
   refine Old ?_
   refine OL.popC rfl rfl rfl (POp.cv rfl rfl rfl (wrap64 (by omega))) ?_
   refine Obd ?_
   refine OL.alC rfl rfl rfl rfl (fun b0 => ?_)
   refine Sto ?_; refine S3 ?_
   refine CW.perm (List.Perm.swap _ _ _) ?_
   refine CW.eqH (H' := rdr rb r :: .blk b0 114 [.i k.val, .val (.slice none 0 0), .b false] :: (H1 ++ Hx)) rfl ?_
   rcases hq : manyR r with _ | ⟨n, r1⟩
   ·
    refine CW.dp mixed ?_
    refine DP.anyPan (Hf := .blk b0 114 [.i k.val, .val (.slice none 0 0), .b false] :: (H1 ++ Hx)) 2 0 3 35 rfl (by decide +kernel) (by decide +kernel) (by decide +kernel) (by decide +kernel) (fun env => outP (P := Tryz.prog) (fn := Tryz.f209) (Hf := H1 ++ ([] ++ Hx)) wrong_c (List.sublist_cons_self _ _) (⟨H1, [], rfl, ⟨(hA.fail (by simp) (secR_many hq)).2, rfl⟩, by rw [(hA.fail (by simp) (secR_many hq)).1]; exact hJ1⟩)) ?_
    refine UD.popP rfl rfl rfl rfl ((by first | exact POp.ld1 rfl rfl rfl rfl | (apply POp.ld1H rfl rfl rfl; (case hm => repeat (first | exact .head _ | refine .tail _ ?_)); (case hy => rfl)))) ?_
    refine UD.popP rfl rfl rfl rfl ((by first | exact POp.ld1 rfl rfl rfl rfl | (apply POp.ld1H rfl rfl rfl; (case hm => repeat (first | exact .head _ | refine .tail _ ?_)); (case hy => rfl)))) ?_
    refine UD.panP rfl rfl rfl (.mk' rfl rfl rfl rfl rfl) (q164n hq _ _) wrong_c ?_
    exact UD.nil trivial
   ·
    have hn := manyR_some hq
    refine CW.dp mixed ?_
    refine DP.anyH [⟨2, 18, false⟩] (()) (fun (_ : Unit) (vs : List (Option Value)) => match vs with | [none] => rdr rb r :: .blk b0 114 [.i k.val, .val (.slice none 0 0), .b false] :: (H1 ++ Hx) | _ => rdr rb r1 :: .blk b0 114 [.i k.val, .val (.slice none 0 0), .b false] :: (H1 ++ Hx)) 0 3 35 rfl (by decide +kernel) (by decide +kernel) rfl rfl (by decide +kernel) rfl ?_
    refine UD.popG [[true], [false]] rfl (by decide +kernel) rfl rfl rfl ⟨fun g f => (by first | exact POp.ld1 rfl rfl rfl rfl | (apply POp.ld1H rfl rfl rfl; (case hm => repeat (first | exact .head _ | refine .tail _ ?_)); (case hy => rfl))), fun g f => (by first | exact POp.ld1 rfl rfl rfl rfl | (apply POp.ld1H rfl rfl rfl; (case hm => repeat (first | exact .head _ | refine .tail _ ?_)); (case hy => rfl))), trivial⟩ ?_
    refine UD.popG [[false]] rfl (by decide +kernel) rfl rfl rfl ⟨fun g f => (by first | exact POp.ld1 rfl rfl rfl rfl | (apply POp.ld1H rfl rfl rfl; (case hm => repeat (first | exact .head _ | refine .tail _ ?_)); (case hy => rfl))), trivial⟩ ?_
    refine UD.effG 0 [[false]] rfl rfl rfl (by decide +kernel) rfl rfl rfl ⟨fun g f => FOk.rcall () (.mk' rfl rfl rfl rfl rfl) (q164s hq _ _) (fun _ => rfl), trivial⟩ ?_
    refine UD.nil (fun g f => ?_)
    simp only [CE.vals, List.map_cons, List.map_nil, List.cons_append, List.nil_append]
    refine DP.tailC 3 (by decide +kernel) rfl ?_
    refine OL.eqH (H' := rdr rb r1 :: .blk b0 114 [.i k.val, .val (.slice none 0 0), .b false] :: (H1 ++ Hx)) rfl ?_
    refine OL.rcallS rfl rfl rfl (.mk' rfl rfl rfl rfl rfl) (by have h := q86 r1 n rb (.blk b0 114 [.i k.val, .val (.slice none 0 0), .b false] :: (H1 ++ Hx)); rwa [if_pos hn.1] at h) ?_
    refine Ofa ?_; refine Sto ?_; refine S3 ?_
    rcases Nat.lt_or_ge (r1.drop n).length 4 with h4 | h4
    ·
     refine CW.dp mixed ?_
     refine DP.anyPan (Hf := .blk b0 114 [.i k.val, u8s (r1.take n), .b false] :: (H1 ++ Hx)) 1 0 6 35 rfl (by decide +kernel) (by decide +kernel) (by decide +kernel) (by decide +kernel) (fun env => outP (P := Tryz.prog) (fn := Tryz.f209) (Hf := H1 ++ ([] ++ Hx)) wrong_c (List.sublist_cons_self _ _) (⟨H1, [], rfl, ⟨(hA.fail (by simp) (secR_short hq (by omega))).2, rfl⟩, by rw [(hA.fail (by simp) (secR_short hq (by omega))).1]; exact hJ1⟩)) ?_
     refine UD.popP rfl rfl rfl rfl ((by first | exact POp.ld1 rfl rfl rfl rfl | (apply POp.ld1H rfl rfl rfl; (case hm => repeat (first | exact .head _ | refine .tail _ ?_)); (case hy => rfl)))) ?_
     refine UD.panP rfl rfl rfl (.mk' rfl rfl rfl rfl rfl) (by have h := q86 (r1.drop n) 4 rb (.blk b0 114 [.i k.val, u8s (r1.take n), .b false] :: (H1 ++ Hx)); rwa [if_neg (by omega)] at h) wrong_c ?_
     refine UD.popP rfl rfl rfl rfl ((by first | exact POp.fa rfl rfl rfl rfl | exact POp.faP rfl rfl rfl rfl)) ?_
     refine UD.popP rfl rfl rfl rfl ((by first | exact POp.ld1 rfl rfl rfl rfl | (apply POp.ld1H rfl rfl rfl; (case hm => repeat (first | exact .head _ | refine .tail _ ?_)); (case hy => rfl)))) ?_
     refine UD.popP rfl rfl rfl rfl ((by first | exact POp.fa rfl rfl rfl rfl | exact POp.faP rfl rfl rfl rfl)) ?_
     refine UD.popP rfl rfl rfl rfl ((by first | exact POp.ld1 rfl rfl rfl rfl | (apply POp.ld1H rfl rfl rfl; (case hm => repeat (first | exact .head _ | refine .tail _ ?_)); (case hy => rfl)))) ?_
     exact UD.nil trivial
    ·
     refine CW.dp mixed ?_
     refine DP.anyH [⟨1, 22, false⟩] (()) (fun (_ : Unit) (vs : List (Option Value)) => match vs with | [none] => rdr rb (r1.drop n) :: .blk b0 114 [.i k.val, u8s (r1.take n), .b false] :: (H1 ++ Hx) | _ => rdr rb ((r1.drop n).drop 4) :: .blk b0 114 [.i k.val, u8s (r1.take n), .b false] :: (H1 ++ Hx)) 0 6 35 rfl (by decide +kernel) (by decide +kernel) rfl rfl (by decide +kernel) rfl ?_
     refine UD.popG [[false]] rfl (by decide +kernel) rfl rfl rfl ⟨fun g f => (by first | exact POp.ld1 rfl rfl rfl rfl | (apply POp.ld1H rfl rfl rfl; (case hm => repeat (first | exact .head _ | refine .tail _ ?_)); (case hy => rfl))), trivial⟩ ?_
     refine UD.effG 0 [[false]] rfl rfl rfl (by decide +kernel) rfl rfl rfl ⟨fun g f => FOk.rcall () (.mk' rfl rfl rfl rfl rfl) (by have h := q86 (r1.drop n) 4 rb (.blk b0 114 [.i k.val, u8s (r1.take n), .b false] :: (H1 ++ Hx)); rwa [if_pos h4] at h) (fun _ => rfl), trivial⟩ ?_
     refine UD.popG [[true], [false]] rfl (by decide +kernel) rfl rfl rfl ⟨fun g f => (by first | exact POp.fa rfl rfl rfl rfl | exact POp.faP rfl rfl rfl rfl), fun g f => (by first | exact POp.fa rfl rfl rfl rfl | exact POp.faP rfl rfl rfl rfl), trivial⟩ ?_
     refine UD.popG [[true], [false]] rfl (by decide +kernel) rfl rfl rfl ⟨fun g f => (by first | exact POp.ld1 rfl rfl rfl rfl | (apply POp.ld1H rfl rfl rfl; (case hm => repeat (first | exact .head _ | refine .tail _ ?_)); (case hy => rfl))), fun g f => (by first | exact POp.ld1 rfl rfl rfl rfl | (apply POp.ld1H rfl rfl rfl; (case hm => repeat (first | exact .head _ | refine .tail _ ?_)); (case hy => rfl))), trivial⟩ ?_
     refine UD.popG [[true], [false]] rfl (by decide +kernel) rfl rfl rfl ⟨fun g f => (by first | exact POp.fa rfl rfl rfl rfl | exact POp.faP rfl rfl rfl rfl), fun g f => (by first | exact POp.fa rfl rfl rfl rfl | exact POp.faP rfl rfl rfl rfl), trivial⟩ ?_
     refine UD.popG [[true], [false]] rfl (by decide +kernel) rfl rfl rfl ⟨fun g f => (by first | exact POp.ld1 rfl rfl rfl rfl | (apply POp.ld1H rfl rfl rfl; (case hm => repeat (first | exact .head _ | refine .tail _ ?_)); (case hy => rfl))), fun g f => (by first | exact POp.ld1 rfl rfl rfl rfl | (apply POp.ld1H rfl rfl rfl; (case hm => repeat (first | exact .head _ | refine .tail _ ?_)); (case hy => rfl))), trivial⟩ ?_
     refine UD.nil (fun g f => ?_)
     simp only [CE.vals, List.map_cons, List.map_nil, List.cons_append, List.nil_append]
     refine DP.tailC 6 (by decide +kernel) rfl ?_
     refine OL.eqH (H' := rdr rb ((r1.drop n).drop 4) :: .blk b0 114 [.i k.val, u8s (r1.take n), .b false] :: (H1 ++ Hx)) rfl ?_
     refine OL.popC rfl rfl rfl (POp.call (.mk' rfl rfl rfl rfl rfl) (q117 k (r1.take n) (by rw [List.length_take]; omega))) ?_
     refine OL.popC rfl rfl rfl (POp.call (.mk' rfl rfl rfl rfl rfl) (q87 _ _)) ?_
     refine Ont ?_; refine Ofa ?_; refine Sto ?_; refine S3 ?_
     have hst := secR_good (k := k) hq h4
     have hA' := hA.step hst
     have hlt := secR_len hst
     refine CW.perm (List.Perm.swap _ _ _) ?_
     refine CW.perm (List.perm_append_comm_assoc [_, _] H1 Hx) ?_
     refine S1 ?_; refine Omv ?_
     refine OL.popC rfl rfl rfl ((by first | exact POp.ldA rfl rfl rfl rfl | (apply POp.ldAH rfl rfl rfl; (case hm => exact List.mem_append_right _ (.head _)); (case hy => rfl); (case hn => rfl)))) ?_
     refine OL.vcallC rfl rfl rfl rfl rfl rfl rfl rfl (AVleL.refl _) (hg pre _ H1 (.blk b0 114 [.i k.val, u8s (r1.take n), .b (!((r1.drop n).take 4 == sumR k (r1.take n)))] :: rdr rb ((r1.drop n).drop 4) :: Hx) hA'.pre trivial hJ1) ?_
     rintro y H2 ⟨b, H3, rfl, rfl, hb1, hb2⟩
     refine Ont ?_; refine S2 ?_
     refine CW.cond rfl (fun h1 => ?_) (fun h1 => ?_)
     ·
      replace h1 := nm h1
      refine S4 ?_
      refine Done.retR (rs := []) (H' := H3 ++ ([] ++ Hx)) rfl (.nil) (AVleL.refl _) (by first | exact (List.Sublist.refl H3).append (.cons _ (List.sublist_cons_self _ _)) | exact List.sublist_cons_self _ _) ?_
      exact ⟨H3, [], rfl, .inr ⟨_, hA'.pre, hb2 (by simpa using h1)⟩⟩
     ·
      replace h1 := nm h1
      refine S2 ?_
      refine Done.perm (List.perm_append_comm_assoc [_, _] H3 Hx).symm ?_
      exact ag (⟨pre ++ [_], _, H3, rfl, rfl, hb1 (by simpa using h1), hA'⟩)
 ·
  replace h0 := nm h0
  refine S4 ?_
  obtain rfl : l' = [] := by cases l' with | nil => rfl | cons k r => simp at h0; omega
  refine Done.norR (rs := []) (H' := H1 ++ ([] ++ Hx)) rfl (.nil) (AVleL.refl _) (by first | exact (List.Sublist.refl H3).append (.cons _ (List.sublist_cons_self _ _)) | exact List.sublist_cons_self _ _) ?_
  exact ⟨H1, [], rfl, .inl ⟨hA.stop.2, by rw [hA.stop.1]; exact hJ1⟩⟩
theorem seq209 {B : Nat} (l : List U8) (hl : l.length < 140737488355328) (rb : Nat) : SeqS B Tryz.prog (.fn (.func 209) [] [.ptr [.p rb 0]]) secA (secsOf l).1 [rdr rb l] (fun _ => (secsOf l).2 = true) (fun y => (secsOf l).2 = false ∧ y = wrongA) :=
 fun J Jx f fs cs hg H Hx hJ => VCall.fnB (c209 l hl rb hg H Hx hJ)
abbrev secs (l : List Sec) : AV := .sl 3 (l.map secC)
def collO (l : List U8) (Hx : List Ent) : Option (AV × List Ent) := if (secsOf l).2 = true then some (secs (secsOf l).1, Hx) else none
theorem q208 (l : List U8) (hl : l.length ≤ 1048576) (rb : Nat) (Hx : List Ent) : RCall Tryz.prog 208 [.val (.slice none 0 0), .fn (.func 209) [] [.ptr [.p rb 0]]] (rdr rb l :: Hx) (collO l Hx) Hx wrongA := by
 refine ACall.mkM (n := 13) Tryz.func208 rfl (by kernel_rfl) rfl rfl (fun B I w0 => ?_)
 refine S2 ?_
 refine OL.boxC rfl rfl rfl rfl rfl rfl rfl (fun sb => ?_)
 refine Oas ?_; refine S4 ?_
 refine CW.ownNilB 114 3 0 (.head _ _ _) rfl rfl ?_
 refine S1 ?_; refine Omv ?_; refine S3 ?_
 refine CW.weaken (st' := ⟨[(2, .p sb 0), (6, .fn (.func 209) [] [.ptr [.p rb 0]])], [.own 114 3 (.slice none 0 0), .blk sb 110 [.as (secs []) (.slice none 0 0)]] ++ ([rdr rb l] ++ Hx)⟩) (by repeat (first | exact trivial | refine ⟨rfl, ?_⟩)) (by repeat (first | exact List.Sublist.refl _ | refine List.Sublist.cons _ ?_)) ?_
 refine CW.rangeFuncE (secA) ((secsOf l).1) (fun pre H1 => ∃ v, H1 = [.own 114 3 v, .blk sb 110 [.as (secs pre) v]]) (fun code pre H1 => False) ([.own 114 3 (.slice none 0 0), .blk sb 110 [.as (secs []) (.slice none 0 0)]]) ([rdr rb l]) (Hx) (fun _ => (secsOf l).2 = true) (fun y => (secsOf l).2 = false ∧ y = wrongA) (fun x => [(5, .ptr (secC x)), (2, .p sb 0)]) rfl rfl rfl rfl (seq209 l (by omega) rb) (⟨_, rfl⟩) ?_ ?_ ?_ ?_ ?_
 ·intro l0 I1 w1 x Hy
  refine S1 ?_
  refine OL.alC rfl rfl rfl rfl (fun b1 => ?_)
  refine Sto ?_; refine S1 ?_
  refine Done.freezeP (d := 5) rfl (.head _ _) ?_
  exact fun a w s => ⟨_, rfl, s.weaken (envLe_get (by repeat (first | exact trivial | refine ⟨rfl, ?_⟩))) (.refl _)⟩
 ·intro l0 D0 lp pre x H1 Hy I1 w1 hpre hJ
  obtain ⟨v, rfl⟩ := hJ
  refine S2 ?_; refine Old ?_; refine Ola ?_
  refine OL.popC (x := .sl 3 [secC x]) rfl rfl rfl (POp.row rfl rfl (by first | rfl | simp_all [strip]) rfl rfl rfl rfl rfl rfl) ?_
  refine OL.appendC rfl rfl rfl rfl rfl rfl rfl rfl (AVle.refl _) (rfl) (fun v => by repeat (first | exact Upd.head _ _ _ | apply Upd.tail)) (by have := secs_count l; have := hpre.length_le; simp only [List.length_append, List.length_singleton, List.length_map] at *; omega) (by have := secs_count l; have := hpre.length_le; simp only [List.length_append, List.length_singleton, List.length_map] at *; omega) (fun v11 => ?_)
  refine Sto ?_; refine S2 ?_
  refine Done.eqH (H' := .loop l0 lp _ :: .obj D0 (.deferred (some [])) :: .own 114 3 v11 :: .blk sb 110 [.as (secs (pre ++ [x])) v11] :: Hy) (by rw [show secs (pre ++ [x]) = .sl 3 (pre.map secC ++ [secC x]) by rw [secs, List.map_append]; rfl]; rfl) ?_
  exact Done.roundN (by repeat (first | exact List.Sublist.refl _ | refine List.Sublist.cons _ ?_)) ⟨v11, rfl⟩
 ·intro D0 H1 Hs1 hHn hJ
  obtain ⟨v, rfl⟩ := hJ
  refine S4 ?_; refine Old ?_; refine Oas ?_; refine S3 ?_
  refine Done.retM1 (rs := [.tmp 4]) (H' := Hx) rfl (by repeat (first | exact Del.head _ _ | apply Del.tail)) (.tmp rfl (.nil)) (.cons (AVle.asL _ _) .nil) (by exact .cons _ (.cons _ (List.sublist_append_right _ _))) ?_
  exact by rw [collO, if_pos hHn]; rfl
 ·intro D0 code0 pre H1 Hs1 hpre hJx
  exact hJx.elim
 ·intro D0 y H1 Hs1 hown hJ I v a w s hv
  obtain ⟨v, rfl⟩ := hJ
  obtain ⟨ho, rfl⟩ := hown
  rw [wrong_c.is _ _ _ hv]
  exact outM (P := Tryz.prog) (fn := Tryz.f208) (Hf := Hx) wrong_c (.head _ _) (.cons _ (.cons _ (List.sublist_append_right _ _))) ⟨by rw [collO, ho]; rfl, rfl, rfl⟩ a w s
theorem q151 (l : List U8) (hl : l.length ≤ 1048576) (rb : Nat) (Hx : List Ent) : RCall Tryz.prog 151 [.fn (.func 209) [] [.ptr [.p rb 0]]] (rdr rb l :: Hx) (collO l Hx) Hx wrongA := by
 refine ACall.mk' (n := 5) Tryz.func151 rfl (by kernel_rfl) rfl rfl (fun B I w0 => ?_)
 refine S2 ?_; refine Oas ?_; refine S4 ?_; refine Omv ?_
 cases hok : (secsOf l).2
 ·
  refine OL.rcallN rfl rfl (.mk' rfl rfl rfl rfl rfl) (by have h := q208 l hl rb Hx; rwa [collO, if_neg (by simp [hok])] at h) wrong_c ?_
  exact outP (P := Tryz.prog) (fn := Tryz.f151) wrong_c (.refl _) ⟨by rw [collO, if_neg (by simp [hok])], rfl, rfl⟩
 ·
  refine OL.rcallS rfl rfl rfl (.mk' rfl rfl rfl rfl rfl) (by have h := q208 l hl rb Hx; rwa [collO, if_pos hok] at h) ?_
  refine Oas ?_; refine S3 ?_
  refine r1 2 (Hx) ?_
  exact by rw [collO, if_pos hok]; rfl
def headR (l : List U8) : Prop := 1 < l.length ∧ (l.getD 0 default).val = 67 ∧ ((l.getD 1 default).val = 79 ∨ (l.getD 1 default).val = 80)
instance (l : List U8) : Decidable (headR l) := inferInstanceAs (Decidable (_ ∧ _))
theorem head_b (l : List U8) : (bif bif decide ((l.length : Int) > 1) then (((l.getD (Int.toNat 0) default).val : Int) == 67) else false then bif (((l.getD (Int.toNat 1) default).val : Int) == 79) then true else (((l.getD (Int.toNat 1) default).val : Int) == 80) else false) = decide (headR l) := by
 have e : ∀ (n : Nat) (k : Nat), ((n : Int) == (k : Int)) = (n == k) := fun n k => by
  rw [Bool.eq_iff_iff]; simp; omega
 have e0 : Int.toNat 0 = 0 := rfl
 have e1 : Int.toNat 1 = 1 := rfl
 rw [e0, e1, show (67 : Int) = ((67 : Nat) : Int) by rfl, show (79 : Int) = ((79 : Nat) : Int) by rfl, show (80 : Int) = ((80 : Nat) : Int) by rfl, e, e, e]
 have h1 : decide ((l.length : Int) > 1) = decide (1 < l.length) := by
  rw [Bool.eq_iff_iff]; simp; omega
 rw [h1]
 rw [Bool.eq_iff_iff, decide_eq_true_iff]
 unfold headR
 generalize (l.getD 0 default).val = x
 generalize (l.getD 1 default).val = y
 generalize l.length = n
 by_cases a : 1 < n <;> by_cases b : x = 67 <;> by_cases c : y = 79 <;> by_cases d : y = 80 <;> simp [a, b, c, d]
theorem split_head {l : List U8} (h : headR l) : splitR l = if (secsOf (l.drop 2)).2 = true then some (l.getD 1 default, (secsOf (l.drop 2)).1) else none := by
 obtain ⟨h1, h2, h3⟩ := h
 match l, h1 with
 | a :: m :: r, _ =>
  simp only [splitR, List.getD_cons_zero, List.getD_cons_succ] at h2 h3 ⊢
  by_cases hs : (secsOf r).2 = true
  ·rw [if_pos ⟨h2, h3, hs⟩]; simp only [List.drop_succ_cons, List.drop_zero]; rw [if_pos hs]
  ·rw [if_neg fun h => hs h.2.2]; simp only [List.drop_succ_cons, List.drop_zero]; rw [if_neg hs]
theorem split_no {l : List U8} (h : ¬ headR l) : splitR l = none := by
 match l with
 | [] => rfl
 | [_] => rfl
 | a :: m :: r =>
  simp only [splitR]
  exact if_neg fun ⟨h1, h2, _⟩ => h ⟨by simp, h1, h2⟩
def splitO (l : List U8) (Hx : List Ent) : Option (AV × List Ent) := (splitR l).map fun p => (.tup [u8 p.1, secs p.2], Hx)
theorem q77 (l : List U8) (hl : l.length ≤ 1048576) (Hx : List Ent) : RCall Tryz.prog 77 [u8s l] Hx (splitO l Hx) Hx wrongA := by
 refine ACall.mk' (n := 35) Tryz.func77 rfl (by kernel_rfl) rfl rfl (fun B I w0 => ?_)
 refine S2 ?_; refine Oas ?_; refine Oas ?_; refine S4 ?_; refine Omv ?_; refine Oln ?_; refine Ocm ?_; refine Omv ?_; refine Pmv ?_
 refine OL.guardC rfl rfl rfl rfl rfl rfl (fun hg => (by first | exact POp.ixM rfl rfl (gd hg) rfl rfl (by simp at hg; omega) | exact POp.ixI rfl rfl (gd hg) rfl rfl (by simp at hg; omega))) ?_
 refine Pld ?_; refine Pcm ?_; refine Opk ?_; refine Omv ?_; refine Pmv ?_
 refine OL.guardC rfl rfl rfl rfl rfl rfl (fun hg => (by first | exact POp.ixM rfl rfl (gd hg) rfl rfl (by simp at hg; omega) | exact POp.ixI rfl rfl (gd hg) rfl rfl (by simp at hg; omega))) ?_
 refine Pld ?_; refine Pcm ?_; refine Pmv ?_; refine Pmv ?_
 refine OL.guardC rfl rfl rfl rfl rfl rfl (fun hg => (by first | exact POp.ixM rfl rfl (gd hg) rfl rfl (by simp at hg; omega) | exact POp.ixI rfl rfl (gd hg) rfl rfl (by simp at hg; omega))) ?_
 refine Pld ?_; refine Pcm ?_; refine Ppk ?_; refine Opk ?_
 by_cases hh : headR l
 ·
  refine OL.rcallS rfl rfl rfl (.mk' rfl rfl rfl rfl rfl) (q71t (by rw [head_b]; exact decide_eq_true hh) _) ?_
  refine S3 ?_
  cases hok : (secsOf (l.drop 2)).2
  ·
   refine CW.dp mixed ?_
   refine DP.anyK (X := PanX wrongV Hx) [⟨6, 32, false⟩, ⟨7, 33, false⟩, ⟨8, 34, false⟩] (fun J => match J with | [some v, _, none] => rdr (blkOf v) (l.drop 2) :: Hx | [_, _, some _] => noMem | _ => Hx) (fun q J => match q, J with | 0, [some v, _, _] => .p (blkOf v) 0 | 1, [some v, some _, _] => .fn (.func 209) [] [.ptr [.p (blkOf v) 0]] | 2, [_, _, some _] => secs (secsOf (l.drop 2)).1 | _, _ => .any) 0 9 35 rfl (by decide +kernel) (by decide +kernel) rfl rfl (by decide +kernel) rfl (by rintro I w a ch w' hd hs hw he ⟨rfl, J, j1, j2, j3⟩; exact outP (P := Tryz.prog) (fn := Tryz.f77) (env := []) wrong_c (.refl _) ⟨by rw [splitO, split_head hh, hok]; rfl, rfl, rfl⟩ a w' ⟨hd, hs, J, j1, he.trans j2, j3, fun t x hx => by simp [envGet] at hx⟩) ?_
   refine UD.popK [[true, true, true], [true, true, false], [true, false, false], [false, false, false]] rfl (by decide +kernel) rfl rfl rfl ⟨fun f => POp.move rfl rfl rfl, fun f => POp.move rfl rfl rfl, fun f => POp.move rfl rfl rfl, fun f => POp.move rfl rfl rfl, trivial⟩ ?_
   refine UD.popK [[true, true, true], [true, true, false], [true, false, false], [false, false, false]] rfl (by decide +kernel) rfl rfl rfl ⟨fun f => POp.ixI (l := l) (i := 1) rfl (show aev _ _ = some (true, u8s l) from rfl) rfl rfl rfl (by have := hh.1; constructor <;> omega), fun f => POp.ixI (l := l) (i := 1) rfl (show aev _ _ = some (true, u8s l) from rfl) rfl rfl rfl (by have := hh.1; constructor <;> omega), fun f => POp.ixI (l := l) (i := 1) rfl (show aev _ _ = some (true, u8s l) from rfl) rfl rfl rfl (by have := hh.1; constructor <;> omega), fun f => POp.ixI (l := l) (i := 1) rfl (show aev _ _ = some (true, u8s l) from rfl) rfl rfl rfl (by have := hh.1; constructor <;> omega), trivial⟩ ?_
   refine UD.popK [[true, true, true], [true, true, false], [true, false, false], [false, false, false]] rfl (by decide +kernel) rfl rfl rfl ⟨fun f => (by first | exact POp.ld1 rfl rfl rfl rfl | (apply POp.ld1H rfl rfl rfl; (case hm => repeat (first | exact .head _ | refine .tail _ ?_)); (case hy => rfl))), fun f => (by first | exact POp.ld1 rfl rfl rfl rfl | (apply POp.ld1H rfl rfl rfl; (case hm => repeat (first | exact .head _ | refine .tail _ ?_)); (case hy => rfl))), fun f => (by first | exact POp.ld1 rfl rfl rfl rfl | (apply POp.ld1H rfl rfl rfl; (case hm => repeat (first | exact .head _ | refine .tail _ ?_)); (case hy => rfl))), fun f => (by first | exact POp.ld1 rfl rfl rfl rfl | (apply POp.ld1H rfl rfl rfl; (case hm => repeat (first | exact .head _ | refine .tail _ ?_)); (case hy => rfl))), trivial⟩ ?_
   refine UD.popK [[false, false, false]] rfl (by decide +kernel) rfl rfl rfl ⟨fun f => POp.move rfl rfl rfl, trivial⟩ ?_
   refine UD.popK [[false, false, false]] rfl (by decide +kernel) rfl rfl rfl ⟨fun f => POp.slFrom (xs := l) (n := 2) rfl (show aev _ _ = some (true, u8s l) from rfl) rfl rfl rfl (by have := hh.1; omega), trivial⟩ ?_
   refine UD.popK [[false, false, false]] rfl (by decide +kernel) rfl rfl rfl ⟨fun f => POp.build' rfl rfl (by first | rfl | simp_all [strip]) rfl, trivial⟩ ?_
   refine UD.effK 0 [[false, false, false]] rfl rfl rfl (by decide +kernel) rfl rfl rfl ⟨fun f => ⟨KOk.box rfl rfl rfl rfl (fun _ => rfl) (fun _ => rfl), (by intro v q hq; rcases q with _ | _ | _ | _ | _ | _ | q <;> first | rfl | (cases hq))⟩, trivial⟩ ?_
   refine UD.effK 1 [[true, false, false]] rfl rfl rfl (by decide +kernel) rfl rfl rfl ⟨fun f => ⟨KOk.pop (POp.call (.mk' rfl rfl rfl rfl rfl) (q152 _)) (fun _ => rfl) (fun _ => rfl), (by intro v q hq; rcases q with _ | _ | _ | _ | _ | _ | q <;> first | rfl | (cases hq))⟩, trivial⟩ ?_
   refine UD.effK 2 [[true, true, false]] rfl rfl rfl (by decide +kernel) rfl rfl rfl ⟨fun f => ⟨KOk.pan (.mk' rfl rfl rfl rfl rfl) (by have h := q151 (l.drop 2) (by rw [List.length_drop]; omega) (blkOf (f 32)) Hx; rwa [collO, if_neg (by simp [hok])] at h) wrong_c, (by intro v q hq; rcases q with _ | _ | _ | _ | _ | _ | q <;> first | rfl | (cases hq))⟩, trivial⟩ ?_
   exact UD.nil fun f a w s => (Sat.no s).elim
  ·
   refine CW.dp mixed ?_
   refine DP.anyK (X := noX) [⟨6, 32, false⟩, ⟨7, 33, false⟩, ⟨8, 34, false⟩] (fun J => match J with | [some v, _, none] => rdr (blkOf v) (l.drop 2) :: Hx | _ => Hx) (fun q J => match q, J with | 0, [some v, _, _] => .p (blkOf v) 0 | 1, [some v, some _, _] => .fn (.func 209) [] [.ptr [.p (blkOf v) 0]] | 2, [_, _, some _] => secs (secsOf (l.drop 2)).1 | _, _ => .any) 0 9 35 rfl (by decide +kernel) (by decide +kernel) rfl rfl (by decide +kernel) rfl (fun _ _ _ _ _ _ _ _ _ h => h.elim) ?_
   refine UD.popK [[true, true, true], [true, true, false], [true, false, false], [false, false, false]] rfl (by decide +kernel) rfl rfl rfl ⟨fun f => POp.move rfl rfl rfl, fun f => POp.move rfl rfl rfl, fun f => POp.move rfl rfl rfl, fun f => POp.move rfl rfl rfl, trivial⟩ ?_
   refine UD.popK [[true, true, true], [true, true, false], [true, false, false], [false, false, false]] rfl (by decide +kernel) rfl rfl rfl ⟨fun f => POp.ixI (l := l) (i := 1) rfl (show aev _ _ = some (true, u8s l) from rfl) rfl rfl rfl (by have := hh.1; constructor <;> omega), fun f => POp.ixI (l := l) (i := 1) rfl (show aev _ _ = some (true, u8s l) from rfl) rfl rfl rfl (by have := hh.1; constructor <;> omega), fun f => POp.ixI (l := l) (i := 1) rfl (show aev _ _ = some (true, u8s l) from rfl) rfl rfl rfl (by have := hh.1; constructor <;> omega), fun f => POp.ixI (l := l) (i := 1) rfl (show aev _ _ = some (true, u8s l) from rfl) rfl rfl rfl (by have := hh.1; constructor <;> omega), trivial⟩ ?_
   refine UD.popK [[true, true, true], [true, true, false], [true, false, false], [false, false, false]] rfl (by decide +kernel) rfl rfl rfl ⟨fun f => (by first | exact POp.ld1 rfl rfl rfl rfl | (apply POp.ld1H rfl rfl rfl; (case hm => repeat (first | exact .head _ | refine .tail _ ?_)); (case hy => rfl))), fun f => (by first | exact POp.ld1 rfl rfl rfl rfl | (apply POp.ld1H rfl rfl rfl; (case hm => repeat (first | exact .head _ | refine .tail _ ?_)); (case hy => rfl))), fun f => (by first | exact POp.ld1 rfl rfl rfl rfl | (apply POp.ld1H rfl rfl rfl; (case hm => repeat (first | exact .head _ | refine .tail _ ?_)); (case hy => rfl))), fun f => (by first | exact POp.ld1 rfl rfl rfl rfl | (apply POp.ld1H rfl rfl rfl; (case hm => repeat (first | exact .head _ | refine .tail _ ?_)); (case hy => rfl))), trivial⟩ ?_
   refine UD.popK [[false, false, false]] rfl (by decide +kernel) rfl rfl rfl ⟨fun f => POp.move rfl rfl rfl, trivial⟩ ?_
   refine UD.popK [[false, false, false]] rfl (by decide +kernel) rfl rfl rfl ⟨fun f => POp.slFrom (xs := l) (n := 2) rfl (show aev _ _ = some (true, u8s l) from rfl) rfl rfl rfl (by have := hh.1; omega), trivial⟩ ?_
   refine UD.popK [[false, false, false]] rfl (by decide +kernel) rfl rfl rfl ⟨fun f => POp.build' rfl rfl (by first | rfl | simp_all [strip]) rfl, trivial⟩ ?_
   refine UD.effK 0 [[false, false, false]] rfl rfl rfl (by decide +kernel) rfl rfl rfl ⟨fun f => ⟨KOk.box rfl rfl rfl rfl (fun _ => rfl) (fun _ => rfl), (by intro v q hq; rcases q with _ | _ | _ | _ | _ | _ | q <;> first | rfl | (cases hq))⟩, trivial⟩ ?_
   refine UD.effK 1 [[true, false, false]] rfl rfl rfl (by decide +kernel) rfl rfl rfl ⟨fun f => ⟨KOk.pop (POp.call (.mk' rfl rfl rfl rfl rfl) (q152 _)) (fun _ => rfl) (fun _ => rfl), (by intro v q hq; rcases q with _ | _ | _ | _ | _ | _ | q <;> first | rfl | (cases hq))⟩, trivial⟩ ?_
   refine UD.effK 2 [[true, true, false]] rfl rfl rfl (by decide +kernel) rfl rfl rfl ⟨fun f => ⟨KOk.rcall (.mk' rfl rfl rfl rfl rfl) (by have h := q151 (l.drop 2) (by rw [List.length_drop]; omega) (blkOf (f 32)) Hx; rwa [collO, if_pos hok] at h) (fun _ => rfl) (fun _ => rfl), (by intro v q hq; rcases q with _ | _ | _ | _ | _ | _ | q <;> first | rfl | (cases hq))⟩, trivial⟩ ?_
   refine UD.nil (fun f => ?_)
   simp only [kvals, List.map_cons, List.map_nil, List.cons_append, List.nil_append]
   generalize blkOf (f 32) = rb
   refine DP.tailC 9 (by decide +kernel) rfl ?_
   refine Oas ?_; refine Oas ?_; refine S3 ?_
   refine Done.retR (rs := [.tmp 2, .tmp 3]) (H' := Hx) rfl (.tmp rfl (.tmp rfl (.nil))) (AVleL.refl _) (by repeat (first | exact List.Sublist.refl _ | refine List.Sublist.cons _ ?_)) ?_
   exact by rw [splitO, split_head hh, if_pos hok]; rfl
 ·
  refine OL.rcallN rfl rfl (.mk' rfl rfl rfl rfl rfl) (q71f (by rw [head_b]; exact decide_eq_false hh) _) wrong_c ?_
  exact outP (P := Tryz.prog) (fn := Tryz.f77) wrong_c (.refl _) ⟨by rw [splitO, split_no hh]; rfl, rfl, rfl⟩
theorem assert_wrong (w : World) : (Instr.typeAssert wrongV 20 176 true).run Tryz.prog w = .ok (.tuple #[.agg #[], .bool true]) w := by
 simp [Instr.typeAssert, run_underlying (show Tryz.prog.underlying 176 = some (.struct #[]) by kernel_rfl)]
theorem catch_panI (b : Nat) (x : Bool) (w : World) (hc : w.cell? ⟨b, 0, none⟩ = some (.bool x)) (hz : w.frozen? ⟨b, 0, none⟩ = false) (hb : b < w.heap.size) :
  CallsDIn (Eng.FW none) 0 Tryz.prog 130 #[.pointer (some ⟨b, 0, none⟩)] (.panicking [{ v := wrongV, recovered := false }]) w fun e u' w' =>
   e = .returned (.tuple #[]) ∧ u' = .panicking [{ v := wrongV, recovered := true }] ∧ w' = (w.alloc (.cells #[] 176)).setCell ⟨b, 0, none⟩ (.bool false) := by
 have hc2 : (w.alloc (.cells #[] 176)).cell? ⟨b, 0, none⟩ = some (.bool x) := by rw [World.cell?_alloc_lt w _ ⟨b, 0, none⟩ hb]; exact hc
 have hz2 : (w.alloc (.cells #[] 176)).frozen? ⟨b, 0, none⟩ = false := by rw [World.frozen?_of_block (Go.RowKit.Below.heap_alloc w _ b hb)]; exact hz
 refine callsDIn_of_wpSIn Tryz.func130 rfl trivial fun c₀ cs hu => ?_
 apply wpSIn_seq
 apply wpSIn_region
 have hta := fun w => assert_wrong w
 simp [wpOpsSIn, go_sem, recoverD, hu, Tryz.ntmps130, Exit.thenS, Eng.FW, hta]
 apply wpSIn_block
 apply wpSIn_seq
 apply wpSIn_region
 simp [wpOpsSIn, go_sem, Exit.thenS]
 refine wpSIn_cond (t := false) (by simp [Act.eval, Array.replicate]) ?_
 simp only [Bool.false_eq_true, if_false]
 apply wpSIn_seq
 apply wpSIn_region
 simp [wpOpsSIn, go_sem, Exit.thenS, hta]
 refine wpSIn_cond (t := true) (by simp [Act.eval, Array.replicate]) ?_
 simp only [if_true]
 apply wpSIn_seq
 apply wpSIn_region
 simp [wpOpsSIn, go_sem, Exit.thenS]
 apply wpSIn_region
 simp [wpOpsSIn, go_sem, hc2, hz2, bodyPostS, results, Tryz.results130, Exit.inBlockS]
theorem catch_idlI (b : Nat) (w : World) :
  CallsDIn (Eng.FW none) 0 Tryz.prog 130 #[.pointer (some ⟨b, 0, none⟩)] .returning w fun e u' w' => e = .returned (.tuple #[]) ∧ u' = .returning ∧ w' = w := by
 refine callsDIn_of_wpSIn Tryz.func130 rfl trivial fun c₀ cs hu => ?_
 apply wpSIn_seq
 apply wpSIn_region
 simp [wpOpsSIn, go_sem, recoverD, hu, Tryz.ntmps130, Exit.thenS, Eng.FW]
 apply wpSIn_block
 apply wpSIn_seq
 apply wpSIn_region
 simp [wpOpsSIn, go_sem, Exit.thenS]
 refine wpSIn_cond (t := true) (by simp [Act.eval, Array.replicate]) ?_
 simp only [if_true]
 apply wpSIn_region
 cases c₀
 simp_all [wpOpsSIn, go_sem, bodyPostS, results, Tryz.results130, Exit.inBlockS]
def dfrI (tb : Nat) : Deferred := { target := .fn (.func 130) #[.pointer (some ⟨tb, 0, none⟩)], args := #[] }
theorem leave_f66 {B : Nat} {I0 : Imm} {w0 : World} {env : List (Nat × AV)} {tb : Nat} {x : Bool} {H : List Ent} {a : Act} {w : World} {Φ E : AV → List Ent → Prop} (hΦ : Φ (.b x) H) (hs : ∃ I, WOk B I w ∧ Ext B I0 w0 I w ∧ HeapOk B I w (.blk tb 4 [.b x] :: H) ∧ EnvOk I w (envGet env) a) (ht : envGet env 2 = some (.p tb 0)) :
  LeavesIn (Eng.FW none) 0 Tryz.prog Tryz.f66 a.tmps (RetP B I0 w0 Φ E) [] .returning w := by
 obtain ⟨I, hw, he, hh, hv⟩ := hs
 obtain ⟨v, h1, h2⟩ := ResOk.res (P := Tryz.prog) (c := ⟨B, I0, w0, 0, []⟩) (st := ⟨env, .blk tb 4 [.b x] :: H⟩) hh hv (fn := Tryz.f66) (rs := [.cell 2 4]) rfl (.cell1 inferInstance ht (.head _) rfl .nil)
 exact ⟨v, h1, I, H, hw, he, hh.tail, .inl ⟨v, _, rfl, h2, hΦ⟩⟩
theorem invoke_dfI (tb : Nat) (w : World) : (invoke (.fn (.func 130) #[.pointer (some ⟨tb, 0, none⟩)]) #[]).run Tryz.prog w = .ok (.enter 130 #[.pointer (some ⟨tb, 0, none⟩)]) w := by
 have : fnOk Tryz.prog 130 = true := by kernel_rfl
 have h := run_callFunc this #[.pointer (some ⟨tb, 0, none⟩)] w
 simp [invoke]
theorem ret_f66 {B : Nat} {I0 : Imm} {w0 : World} {env : List (Nat × AV)} {tb : Nat} {x : Bool} {H : List Ent} {a : Act} {w : World} {Φ E : AV → List Ent → Prop} {n : Nat} (hΦ : Φ (.b x) H) (s : Sat ⟨B, I0, w0, n, [dfrI tb]⟩ ⟨env, .blk tb 4 [.b x] :: H⟩ a w) (ht : envGet env 2 = some (.p tb 0)) :
  bodyPostDIn (Eng.FW none) 0 Tryz.prog Tryz.f66 (RetP B I0 w0 Φ E) .ret a w := by
 show LeavesIn _ _ _ _ _ _ a.defers .returning w
 rw [s.ds]
 refine leavesIn_cons (f := 130) (args := #[.pointer (some ⟨tb, 0, none⟩)]) (by simp) (by simp [Eng.FW]) (invoke_dfI tb w) (fun _ _ => trivial) ?_
 refine (catch_idlI tb w).mono ?_
 rintro e u' w' ⟨rfl, rfl, rfl⟩
 exact leave_f66 hΦ s.mem ht
theorem pan_f66 {B : Nat} {I0 : Imm} {w0 : World} {env : List (Nat × AV)} {tb : Nat} {x : Bool} {H : List Ent} {a : Act} {w : World} {Φ E : AV → List Ent → Prop} {n : Nat} (hΦ : Φ (.b false) H) (s : Sat ⟨B, I0, w0, n, [dfrI tb]⟩ ⟨env, .blk tb 4 [.b x] :: H⟩ a w) (ht : envGet env 2 = some (.p tb 0)) :
  bodyPostDIn (Eng.FW none) 0 Tryz.prog Tryz.f66 (RetP B I0 w0 Φ E) (.panic [{ v := wrongV, recovered := false }]) a w := by
 show LeavesIn _ _ _ _ _ _ a.defers (.panicking [{ v := wrongV, recovered := false }]) w
 rw [s.ds]
 obtain ⟨I, hw, he, hh, hv⟩ := s.mem
 obtain ⟨hB, vs, hb, hr, hni⟩ := hh.ok _ (.head _)
 have hvs : vs = #[.bool x] := by
  have h1 := rel_vals (vs := [.bool x]) hr
  exact Array.toList_inj.1 h1
 subst hvs
 have hlt : tb < w.heap.size := (Array.getElem?_eq_some_iff.1 hb).1
 refine leavesIn_cons (f := 130) (args := #[.pointer (some ⟨tb, 0, none⟩)]) (by simp) (by simp [Eng.FW]) (invoke_dfI tb w) (fun _ _ => trivial) ?_
 refine (catch_panI tb x w (by rw [cell_of_blk hb]; rfl) (by simp [World.frozen?, hb]) hlt).mono ?_
 rintro e u' w' ⟨rfl, rfl, rfl⟩
 have hw1 := hw.alloc (.cells #[] 176)
 have hh1 := hh.alloc hw (.cells #[] 176)
 have hb1 : (w.alloc (.cells #[] 176)).heap[tb]? = some (.cells #[.bool x] 4 (0, 0)) := by rw [Go.RowKit.Below.heap_alloc w _ tb hlt]; exact hb
 have hk1 := keeps_alloc hw (.cells #[] 176)
 have he1 := he.trans (ext_alloc hw (.cells #[] 176))
 have hv1 := hv.keep hk1
 generalize w.alloc (.cells #[] 176) = w1 at *
 have hset : (w1.setCell ⟨tb, 0, none⟩ (.bool false)).heap[tb]? = some (.cells #[.bool false] 4 (0, 0)) := one_setCell hb1
 have hcell : ∀ b i, I b i → (w1.setCell ⟨tb, 0, none⟩ (.bool false)).cell? ⟨b, i, none⟩ = w1.cell? ⟨b, i, none⟩ := fun b i hI =>
  World.cell?_of_block (a := ⟨b, i, none⟩) (Go.RowKit.Below.heap_setCell _ _ _ _ (fun e => hni i (by rw [← (show b = tb from e)]; exact hI)))
 have hk2 : Keeps I w1 I (w1.setCell ⟨tb, 0, none⟩ (.bool false)) := ⟨fun _ _ h => h, hcell⟩
 have hbel := (Go.RowKit.Below.refl B w1).setCell (p := ⟨tb, 0, none⟩) hB (.bool false)
 exact leave_f66 (x := false) (env := env) hΦ ⟨I, ⟨Nat.le_trans hw1.base hbel.size, fun b i hI => by rw [hcell b i hI]; exact hw1.there b i hI⟩, he1.trans ⟨fun _ _ h => h, hcell, hbel⟩,
  hh1.upd (.head _ _ _) hk2 (fun b _ hne => Go.RowKit.Below.heap_setCell _ _ _ _ (fun e => hne (by rw [show b = tb from e]; rfl))) (fun _ _ h => .inl h) ⟨hB, #[.bool false], hset, .cons _ _ _ _ (.val _) .nil, hni⟩ (fun _ h => .inl h), hv1.keep hk2⟩ ht
theorem q66t {g : Fn} {gs gc : List AV} {H H1 : List Ent} (hdo : ∀ B Hy, VCall B Tryz.prog (.fn g gs gc) [] (H ++ Hy) (fun _ H' => H' = H1 ++ Hy) (fun _ _ => False)) :
  ACall Tryz.prog 66 [.fn g gs gc] H (fun x H' => x = .b true ∧ H' = H1) (fun _ _ => False) := by
 refine ACall.mkD (n := 6) Tryz.func66 rfl (by kernel_rfl) rfl rfl (fun B I w0 => ?_)
 refine S2 ?_
 refine OL.alC rfl rfl rfl rfl (fun tb => ?_)
 refine S4 ?_; refine Omf ?_
 refine OL.deferC (vs := [.pointer (some ⟨tb, 0, none⟩)]) rfl rfl rfl rfl rfl rfl ?_
 refine S3 ?_
 refine CW.perm (List.perm_append_singleton _ _).symm ?_
 refine S1 ?_; refine Omv ?_
 refine OL.vcallC rfl rfl rfl rfl rfl rfl rfl rfl (AVleL.refl _) (hdo B [.blk tb 4 [.b false]]) ?_
 rintro y _ rfl
 refine S3 ?_
 refine CW.perm (List.perm_append_singleton _ _) ?_
 refine S1 ?_; refine Sto ?_; refine S3 ?_
 intro a w s
 exact ret_f66 ⟨rfl, rfl⟩ s rfl
theorem q66f {g : Fn} {gs gc : List AV} {H Hf : List Ent} (hdo : ∀ B Hy, VCall B Tryz.prog (.fn g gs gc) [] (H ++ Hy) (fun _ _ => False) (fun y H' => y = wrongA ∧ H' = Hf ++ Hy)) :
  ACall Tryz.prog 66 [.fn g gs gc] H (fun x H' => x = .b false ∧ H' = Hf) (fun _ _ => False) := by
 refine ACall.mkD (n := 6) Tryz.func66 rfl (by kernel_rfl) rfl rfl (fun B I w0 => ?_)
 refine S2 ?_
 refine OL.alC rfl rfl rfl rfl (fun tb => ?_)
 refine S4 ?_; refine Omf ?_
 refine OL.deferC (vs := [.pointer (some ⟨tb, 0, none⟩)]) rfl rfl rfl rfl rfl rfl ?_
 refine S3 ?_
 refine CW.perm (List.perm_append_singleton _ _).symm ?_
 refine S1 ?_; refine Omv ?_
 refine OL.vcall rfl rfl rfl rfl rfl rfl rfl (AVleL.refl _) (hdo B [.blk tb 4 [.b false]]) (fun _ _ h => h.elim) ?_
 rintro y H2 ⟨rfl, rfl⟩ a w s I v hv
 rw [wrong_c.is _ _ _ hv]
 exact pan_f66 ⟨rfl, rfl⟩ (s.perm (List.perm_append_singleton _ _)) rfl
theorem splitO_len {l : List U8} {p : U8 × List Sec} (h : splitR l = some p) : p.2.length ≤ l.length := by
 unfold splitR at h
 split at h
 ·split at h
  ·cases h; have := secs_count ‹_›; simp only [List.length_cons]; omega
  ·cases h
 ·cases h
theorem q76 (l : List U8) (hl : l.length ≤ 1048576) (lb : Nat) (x : AV) (Hx : List Ent) : RCall Tryz.prog 76 [.ptr [u8s l], .p lb 0] (.blk lb 110 [x] :: Hx) ((splitR l).map fun p => (.tup [], .blk lb 110 [secs p.2] :: Hx)) (.blk lb 110 [x] :: Hx) wrongA := by
 refine ACall.mk' (n := 7) Tryz.func76 rfl (by kernel_rfl) rfl rfl (fun B I w0 => ?_)
 refine S1 ?_; refine Old ?_
 rcases hq : splitR l with _ | p
 ·
  refine OL.rcallN rfl rfl (.mk' rfl rfl rfl rfl rfl) (by have h := q77 l hl (.blk lb 110 [x] :: Hx); rwa [splitO, hq] at h) wrong_c ?_
  exact outP (P := Tryz.prog) (fn := Tryz.f76) wrong_c (.refl _) ⟨rfl, rfl, rfl⟩
 ·
  refine OL.rcallS rfl rfl rfl (.mk' rfl rfl rfl rfl rfl) (by have h := q77 l hl (.blk lb 110 [x] :: Hx); rwa [splitO, hq] at h) ?_
  refine Omv ?_; refine Oex ?_; refine Oex ?_; refine Sto ?_; refine S1 ?_
  refine Done.norR (rs := []) (H' := .blk lb 110 [secs p.2] :: Hx) rfl (.nil) (AVleL.refl _) (by repeat (first | exact List.Sublist.refl _ | refine List.Sublist.cons _ ?_)) ?_
  exact rfl
def sectA (l : List U8) : AV := match splitR l with
 | none => .tup [.sl 1 [], .sl 1 [], .i 4]
 | some p => .tup [.sl 1 (kindsP p.2), damA p.2 p.2.length, .i 0]
theorem q23 (l : List U8) (hl : l.length ≤ 1048576) : PCall Tryz.prog 23 [u8s l] (sectA l) := by
 intro H
 refine ACall.mk' (n := 32) Tryz.func23 rfl (by kernel_rfl) rfl rfl (fun B I w0 => ?_)
 refine S2 ?_; refine Obx ?_; refine Oas ?_; refine Oas ?_; refine Oas ?_; refine S4 ?_
 refine OL.alC rfl rfl rfl rfl (fun lb => ?_)
 refine S5 ?_; refine Omf ?_
 rcases hq : splitR l with _ | ⟨mk, L⟩
 ·
  refine OL.bcallC rfl rfl rfl (.mk' rfl rfl rfl rfl rfl) (q66f (H := .blk lb 110 [.val (.slice none 0 0)] :: H) (Hf := .blk lb 110 [.val (.slice none 0 0)] :: H) (fun B Hy => RCall.vN (by have h := q76 l hl lb (.val (.slice none 0 0)) (H ++ Hy); rwa [hq] at h))).b ?_
  rintro y _ ⟨rfl, rfl⟩
  refine Ont ?_; refine S2 ?_
  refine CW.cond rfl (fun h0 => ?_) (fun h0 => ?_)
  ·
   replace h0 := nm h0
   refine S2 ?_; refine Oas ?_; refine Oas ?_; refine Oas ?_; refine S4 ?_
   refine Done.retR (rs := [.tmp 2, .tmp 3, .tmp 4]) (H' := H) rfl (.tmp rfl (.tmp rfl (.tmp rfl (.nil)))) (.cons (AVle.nil 1) (.cons (AVle.nil 1) (.cons (.refl _) .nil))) (by repeat (first | exact List.Sublist.refl _ | refine List.Sublist.cons _ ?_)) ?_
   exact ⟨by rw [sectA, hq]; rfl, rfl⟩
  ·
   cases h0
 ·
  have hL := splitO_len hq
  replace hL : L.length ≤ l.length := hL
  refine OL.bcallC rfl rfl rfl (.mk' rfl rfl rfl rfl rfl) (q66t (H := .blk lb 110 [.val (.slice none 0 0)] :: H) (H1 := .blk lb 110 [secs L] :: H) (fun B Hy => RCall.vS (by have h := q76 l hl lb (.val (.slice none 0 0)) (H ++ Hy); rwa [hq] at h))).b ?_
  rintro y _ ⟨rfl, rfl⟩
  refine Ont ?_; refine S2 ?_
  refine CW.cond rfl (fun h1 => ?_) (fun h1 => ?_)
  ·
   cases h1
  ·
   refine S4 ?_
   refine CW.ownNil 2 48 1 rfl ?_
   refine CW.ownNil 3 3 1 rfl ?_
   refine S1 ?_; refine Old ?_; refine Oln ?_; refine Omv ?_; refine S3 ?_
   refine lj (fun m st => ∃ (i : Nat) (v2 v3 : Value), st = ⟨[(13, .i i), (12, .i L.length), (11, secs L), (2, .as (.sl 1 (kindsP (L.take i))) v2), (3, .as (damA L i) v3)], .own 3 1 v3 :: .own 48 1 v2 :: .blk lb 110 [secs L] :: H⟩ ∧ m = L.length - i ∧ i ≤ L.length) (⟨0, _, _, rfl, rfl, Nat.zero_le _⟩) ?_
   rintro m _ ⟨i, v2, v3, rfl, rfl, hi⟩
   refine S2 ?_; refine Ocm ?_; refine S3 ?_
   refine CW.cond rfl (fun h2 => ?_) (fun h2 => ?_)
   ·
    replace h2 := nm h2
    have hil : i < L.length := by omega
    obtain ⟨x, hx⟩ : ∃ x, x = L.getD i default := ⟨_, rfl⟩
    refine S6 ?_; refine Omv ?_
    refine OL.popC rfl rfl rfl ((by first | exact POp.ixM rfl rfl rfl rfl rfl hil | exact POp.ixI rfl rfl rfl rfl rfl hil)) ?_
    refine Ola ?_
    refine OL.alC rfl rfl rfl rfl (fun b1 => ?_)
    refine Oas ?_; refine Sto ?_; refine S3 ?_
    rw [← hx]
    refine S1 ?_; refine Omv ?_; refine Ofa ?_; refine Old ?_
    refine OL.popC (x := .sl 1 [[.i x.kind.val]]) rfl rfl rfl (POp.row rfl rfl (by first | rfl | simp_all [strip]) rfl rfl rfl rfl rfl rfl) ?_
    refine OL.appendC rfl rfl rfl rfl rfl rfl rfl rfl (AVle.refl _) (rfl) (fun v => by repeat (first | exact Upd.head _ _ _ | apply Upd.tail)) (by have := dam_len L i; simp only [kinds_len, List.length_map, List.length_take, List.length_singleton, List.length_cons, List.length_nil] at *; omega) (by have := dam_len L i; simp only [kinds_len, List.length_map, List.length_take, List.length_singleton, List.length_cons, List.length_nil] at *; omega) (fun v22 => ?_)
    refine Oas ?_; refine S4 ?_; refine Ofa ?_; refine Old ?_; refine S2 ?_
    refine CW.cond rfl (fun h3 => ?_) (fun h3 => ?_)
    ·
     replace h3 := nm h3
     refine S1 ?_; refine Omv ?_; refine Omv ?_
     refine OL.popC (x := .sl 1 [[.i i]]) rfl rfl rfl (POp.row rfl rfl (by first | rfl | simp_all [strip]) rfl rfl rfl rfl rfl rfl) ?_
     refine OL.appendC rfl rfl rfl rfl rfl rfl rfl rfl (AVle.refl _) (rfl) (fun v => by repeat (first | exact Upd.head _ _ _ | apply Upd.tail)) (by have := dam_len L i; simp only [kinds_len, List.length_map, List.length_take, List.length_singleton, List.length_cons, List.length_nil] at *; omega) (by have := dam_len L i; simp only [kinds_len, List.length_map, List.length_take, List.length_singleton, List.length_cons, List.length_nil] at *; omega) (fun v28 => ?_)
     refine Oas ?_; refine S4 ?_; refine Oar ?_; refine Omv ?_; refine S1 ?_
     exact ag (⟨i + 1, v22, v28, by rw [kinds_snoc hil, ← hx, damA, dam_yes (by rw [← hx]; exact h3)], rfl, hil⟩)
    ·
     replace h3 := nm h3
     refine S4 ?_; refine Oar ?_; refine Omv ?_; refine S1 ?_
     exact ag (⟨i + 1, v22, v3, by rw [kinds_snoc hil, ← hx, damA, dam_no (by rw [← hx]; exact h3)], rfl, hil⟩)
   ·
    replace h2 := nm h2
    obtain rfl : i = L.length := by omega
    rw [List.take_length]
    refine S7 ?_; refine Omv ?_; refine Omv ?_; refine Oas ?_; refine Oas ?_; refine Oas ?_; refine S3 ?_
    refine Done.retR (rs := [.tmp 2, .tmp 3, .tmp 4]) (H' := H) rfl (.tmp rfl (.tmp rfl (.tmp rfl (.nil)))) (.cons (AVle.asL _ _) (.cons (AVle.asL _ _) (.cons (.refl _) .nil))) (by repeat (first | exact List.Sublist.refl _ | refine List.Sublist.cons _ ?_)) ?_
    exact ⟨by rw [sectA, hq]; rfl, rfl⟩
end Go.Proofs.YtpgnjlngepfanaaGreat

set_option linter.unusedVariables false
set_option linter.unusedSimpArgs false
set_option maxRecDepth 10000
namespace Go.Proofs.YtpgnjlngepfanaaGreat
open Go.Eng
open Go.Eng.Fc
open Go.Eng.Bd
open Go.Eng.Im (U8 u8 u8s sumR numberR manyR numR_lt)
abbrev rdO {σ α : Type} (rb : Nat) (S : σ → List Ent) (Hx : List Ent) (enc : α → AV) (o : Option (α × σ × List U8)) : Option (AV × List Ent) := o.map fun p => (enc p.1, rdr rb p.2.2 :: (S p.2.1 ++ Hx))
def RdOk {σ α : Type} (P : Program) (rb : Nat) (S : σ → List Ent) (g : AV) (R : Rd σ α) (enc : α → AV) (I : σ → List U8 → Prop) : Prop := ∀ B Hx s l, I s l →
 (∀ y s' l', R s l = some (y, s', l') → I s' l' ∧ VCall B P g [] (rdr rb l :: (S s ++ Hx)) (fun u H' => u = enc y ∧ H' = rdr rb l' :: (S s' ++ Hx)) (fun _ _ => False)) ∧
 (R s l = none → VCall B P g [] (rdr rb l :: (S s ++ Hx)) (fun _ _ => False) (fun u H' => u = wrongA ∧ H' = Hx))
theorem RdOk.of {σ α : Type} {P : Program} {rb : Nat} {S : σ → List Ent} {fid : FuncId} {fs cs : List AV} {R : Rd σ α} {enc : α → AV} {I : σ → List U8 → Prop} (hI : ∀ s l y s' l', I s l → R s l = some (y, s', l') → I s' l') (h : ∀ s l Hx, I s l → RCall P fid (fs ++ [] ++ cs) (rdr rb l :: (S s ++ Hx)) (rdO rb S Hx enc (R s l)) Hx wrongA) : RdOk P rb S (.fn (.func fid) fs cs) R enc I := fun B Hx s l hs => by
 have h1 := h s l Hx hs
 refine ⟨fun y s' l' hy => ⟨hI _ _ _ _ _ hs hy, ?_⟩, fun hn => ?_⟩
 ·rw [hy] at h1; exact VCall.fn h1.ok
 ·rw [hn] at h1
  exact VCall.fn (ACall.weak h1 (fun _ _ e => by cases e) (fun _ _ ⟨_, e1, e2⟩ => ⟨e1, e2⟩))
theorem rd_num {l : List U8} {n : Nat} {r : List U8} (h : numberR l = some (n, r)) : n ≤ 40000000000 := by
 have := numR_lt h; omega
theorem numC {σ : Type} (s : σ) (l : List U8) (rb : Nat) (Hx : List Ent) : RCall Tryz.prog 134 [.p rb 0] (rdr rb l :: Hx) ((numR s l).map fun p => (.i p.1, rdr rb p.2.2 :: Hx)) Hx wrongA := by
 have h := q134 l rb Hx
 rw [numO] at h
 unfold numR
 rcases hq : numberR l with _ | ⟨n, r⟩ <;> rw [hq] at h <;> exact h
theorem bit1 {n : Nat} (hn : n ≤ 40000000000) : bitI .and .i64 (n : Int) 1 = some ((n % 2 : Nat) : Int) := by
 show some (IntKind.i64.wrap _) = _
 rw [BitVec.toNat_and, Im.bv64i n (by omega), show (BitVec.ofInt IntKind.i64.bits 1).toNat = 2 ^ 1 - 1 by decide, Nat.and_two_pow_sub_one_eq_mod, wrap64 (by omega)]
theorem shr1 (n : Nat) : shI .shr .i64 (n : Int) 1 = some ((n / 2 : Nat) : Int) := by
 show some ((n : Int).fdiv (2 ^ 1)) = _
 rw [Int.fdiv_eq_ediv_of_nonneg _ (by decide)]; rfl
theorem intC {σ : Type} (s : σ) (l : List U8) (rb : Nat) (Hx : List Ent) : RCall Tryz.prog 137 [.p rb 0] (rdr rb l :: Hx) ((intR s l).map fun p => (.i p.1, rdr rb p.2.2 :: Hx)) Hx wrongA := by
 refine ACall.mk' (n := 14) Tryz.func137 rfl (by kernel_rfl) rfl rfl (fun B I w0 => ?_)
 refine S2 ?_; refine Oas ?_; refine S4 ?_; refine Omv ?_
 rcases hq : numberR l with _ | ⟨n, r⟩
 ·
  refine OL.rcallN rfl rfl (.mk' rfl rfl rfl rfl rfl) (q134n hq _ _) wrong_c ?_
  exact outP (P := Tryz.prog) (fn := Tryz.f137) wrong_c (.refl _) ⟨by rw [intR, thenR_none (numR_none hq)]; rfl, rfl, rfl⟩
 ·
  have hn := rd_num hq
  have hR : intR s l = some (znOf n, s, r) := by rw [intR, thenR_some (numR_some hq)]; rfl
  refine OL.rcallS rfl rfl rfl (.mk' rfl rfl rfl rfl rfl) (q134s hq _ _) ?_
  refine Oas ?_; refine S5 ?_; refine Omv ?_
  refine OL.popC rfl rfl rfl (POp.bits rfl rfl rfl rfl rfl (bit1 hn)) ?_
  refine Ocm ?_; refine S2 ?_
  refine CW.cond rfl (fun h0 => ?_) (fun h0 => ?_)
  ·
   replace h0 := nm h0
   refine S2 ?_; refine Omv ?_
   refine OL.popC rfl rfl rfl (POp.shift rfl rfl rfl rfl rfl (by decide) (shr1 n)) ?_
   refine OL.popC rfl rfl rfl (POp.unX rfl rfl rfl (by omega) rfl) ?_
   refine Oas ?_; refine S4 ?_
   refine r1 2 (rdr rb r :: Hx) ?_
   exact by rw [hR, znOf, if_pos (by omega)]; rfl
  ·
   replace h0 := nm h0
   refine S4 ?_; refine Omv ?_
   refine OL.popC rfl rfl rfl (POp.shift rfl rfl rfl rfl rfl (by decide) (shr1 n)) ?_
   refine Oas ?_; refine S3 ?_
   refine r1 2 (rdr rb r :: Hx) ?_
   exact by rw [hR, znOf, if_neg (by omega)]; rfl
theorem doneC {l : List U8} (rb : Nat) (Hx : List Ent) : RCall Tryz.prog 70 [.p rb 0] (rdr rb l :: Hx) (if l = [] then some (.tup [], Hx) else none) Hx wrongA := by
 refine ACall.mk' (n := 9) Tryz.func70 rfl (by kernel_rfl) rfl rfl (fun B I w0 => ?_)
 refine S1 ?_; refine Omv ?_; refine Onc ?_; refine Ofa ?_; refine Old ?_; refine Oln ?_; refine Ocm ?_
 by_cases hl : l = []
 ·
  subst hl
  refine OL.rcallS rfl rfl rfl (.mk' rfl rfl rfl rfl rfl) (q71t (by rfl) _) ?_
  refine S1 ?_
  refine Done.norR (rs := []) (H' := Hx) rfl (.nil) (AVleL.refl _) (by repeat (first | exact List.Sublist.refl _ | refine List.Sublist.cons _ ?_)) ?_
  exact if_pos rfl
 ·
  have hl0 : 0 < l.length := List.length_pos_iff.2 hl
  refine OL.rcallN rfl rfl (.mk' rfl rfl rfl rfl rfl) (q71f (by simp; omega) _) wrong_c ?_
  exact outP (P := Tryz.prog) (fn := Tryz.f70) wrong_c (.cons _ (.refl _)) ⟨if_neg hl, rfl, rfl⟩
theorem own_in (o r : Ent) (A B : List Ent) : (o :: r :: (A ++ B)).Perm (r :: (A ++ (o :: B))) := (List.Perm.swap r o _).trans (List.Perm.cons _ List.perm_middle.symm)
theorem rd_many {l : List U8} {n : Nat} {r : List U8} (h : manyR l = some (n, r)) : n ≤ 40000000000 := by
 unfold manyR at h
 rcases hq : numberR l with _ | ⟨a, b⟩ <;> rw [hq] at h
 ·cases h
 ·simp only at h
  split at h
  ·cases h; exact rd_num hq
  ·cases h
theorem listR_none {σ α : Type} {R : Rd σ α} {s : σ} {l : List U8} (h : manyR l = none) : listR R s l = none := by rw [listR, thenR, manyRd, h]
theorem listR_some {σ α : Type} {R : Rd σ α} {s : σ} {l : List U8} {n : Nat} {r : List U8} (h : manyR l = some (n, r)) : listR R s l = timesR R n s r := by rw [listR, thenR, manyRd, h]
theorem rows_snoc {α : Type} (row : α → List AV) (out : List α) (y : α) (k : Nat) : AV.sl k ((out.map row) ++ [row y]) = AV.sl k ((out ++ [y]).map row) := by rw [List.map_append]; rfl
theorem listI {σ : Type} {rb : Nat} {S : σ → List Ent} {g : Fn} {gs gc : List AV} {R : Rd σ Int} {Iv : σ → List U8 → Prop} (hg : RdOk Tryz.prog rb S (.fn g gs gc) R (fun n => .i n) Iv) (s : σ) (l : List U8) (hs : ∀ n l1, manyR l = some (n, l1) → Iv s l1) (Hx : List Ent) : RCall Tryz.prog 133 [.p rb 0, .fn g gs gc] (rdr rb l :: (S s ++ Hx)) (rdO rb S Hx (fun ys => .sl 1 (ys.map (fun n => [AV.i n]))) (listR R s l)) Hx wrongA := by
 refine ACall.mk' (n := 17) Tryz.func133 rfl (by kernel_rfl) rfl rfl (fun B I w0 => ?_)
 refine S2 ?_; refine Oas ?_; refine S4 ?_; refine Oas ?_; refine S5 ?_; refine Omv ?_
 rcases hq : manyR l with _ | ⟨n, l1⟩
 ·
  refine OL.rcallN rfl rfl (.mk' rfl rfl rfl rfl rfl) (q164n hq rb (S s ++ Hx)) wrong_c ?_
  exact outP (P := Tryz.prog) (fn := Tryz.f133) wrong_c (List.sublist_append_right _ _) ⟨by rw [listR_none hq]; rfl, rfl, rfl⟩
 ·
  rw [listR_some hq]
  have hn := rd_many hq
  refine OL.rcallS rfl rfl rfl (.mk' rfl rfl rfl rfl rfl) (q164s hq rb (S s ++ Hx)) ?_
  refine Omv ?_; refine S3 ?_
  refine CW.ownNil 5 3 1 rfl ?_
  refine lj (fun m st => ∃ (i : Nat) (out : List Int) (s' : σ) (l' : List U8) (v : Value), st = ⟨[(8, .i i), (7, .i n), (5, .as (.sl 1 (out.map (fun n => [AV.i n]))) v), (1, .fn g gs gc)], .own 3 1 v :: rdr rb l' :: (S s' ++ Hx)⟩ ∧ m = n - i ∧ i ≤ n ∧ Iv s' l' ∧ out.length = i ∧ timesR R n s l1 = (timesR R (n - i) s' l').map fun p => (out ++ p.1, p.2.1, p.2.2)) (⟨0, [], s, l1, _, rfl, rfl, by omega, hs n l1 hq, rfl, times_begin R n s l1⟩) ?_
  rintro m _ ⟨i, out, s', l', v, rfl, rfl, hi, hI, ho, ht⟩
  refine S2 ?_; refine Ocm ?_; refine S3 ?_
  refine CW.cond rfl (fun h0 => ?_) (fun h0 => ?_)
  ·
   replace h0 := nm h0
   have hil : i < n := by omega
   obtain ⟨ht1, ht2⟩ := times_snoc hil ht
   refine S5 ?_; refine Omv ?_; refine Omv ?_
   refine OL.perm (own_in _ _ _ _) ?_
   rcases hR : R s' l' with _ | ⟨y, s2, l2⟩
   ·
    refine OL.vcall rfl rfl rfl rfl rfl rfl rfl (AVleL.refl _) ((hg B (.own 3 1 v :: Hx) s' l' hI).2 hR) (fun _ _ h => h.elim) ?_
    rintro y H2 ⟨rfl, rfl⟩ a w st I v hv
    rw [wrong_c.is _ _ _ hv]
    exact outP (P := Tryz.prog) (fn := Tryz.f133) wrong_c (List.sublist_cons_self _ _) ⟨by rw [ht1 hR]; rfl, rfl, rfl⟩ a w st
   ·
    have ht3 := ht2 y s2 l2 hR
    obtain ⟨hI2, hV⟩ := (hg B (.own 3 1 v :: Hx) s' l' hI).1 y s2 l2 hR
    refine OL.vcallC rfl rfl rfl rfl rfl rfl rfl rfl (AVleL.refl _) hV ?_
    rintro _ _ ⟨rfl, rfl⟩
    refine OL.perm (own_in _ _ _ _).symm ?_
    refine OL.popC (x := .sl 1 [(fun n => [AV.i n]) y]) rfl rfl rfl (POp.row rfl rfl (by first | rfl | simp_all [strip]) rfl rfl rfl rfl rfl rfl) ?_
    refine OL.appendC rfl rfl rfl rfl rfl rfl rfl rfl (AVle.refl _) (rfl) (fun v => by repeat (first | exact Upd.head _ _ _ | apply Upd.tail)) (by simp only [List.length_map, List.length_singleton, List.length_cons, List.length_nil]; omega) (by simp only [List.length_map, List.length_singleton, List.length_cons, List.length_nil]; omega) (fun v14 => ?_)
    refine Oas ?_; refine S4 ?_; refine Oar ?_; refine Omv ?_; refine S1 ?_
    exact ag (⟨i + 1, out ++ [y], s2, l2, v14, by rw [← rows_snoc], rfl, hil, hI2, by rw [List.length_append, ho]; rfl, ht3⟩)
  ·
   replace h0 := nm h0
   obtain rfl : i = n := by omega
   have he := times_end ht
   refine S7 ?_; refine Omv ?_; refine Oas ?_; refine S3 ?_
   refine Done.retR (rs := [.tmp 4]) (H' := rdr rb l' :: (S s' ++ Hx)) rfl (.tmp rfl (.nil)) (.cons (AVle.asL _ _) .nil) (by repeat (first | exact List.Sublist.refl _ | refine List.Sublist.cons _ ?_)) ?_
   exact by rw [he]; rfl
theorem listN {σ : Type} {rb : Nat} {S : σ → List Ent} {g : Fn} {gs gc : List AV} {R : Rd σ (Int × Int)} {Iv : σ → List U8 → Prop} (hg : RdOk Tryz.prog rb S (.fn g gs gc) R (fun x => .agg (initA x)) Iv) (s : σ) (l : List U8) (hs : ∀ n l1, manyR l = some (n, l1) → Iv s l1) (Hx : List Ent) : RCall Tryz.prog 135 [.p rb 0, .fn g gs gc] (rdr rb l :: (S s ++ Hx)) (rdO rb S Hx (fun ys => .sl 2 (ys.map (initA))) (listR R s l)) Hx wrongA := by
 refine ACall.mk' (n := 17) Tryz.func135 rfl (by kernel_rfl) rfl rfl (fun B I w0 => ?_)
 refine S2 ?_; refine Oas ?_; refine S4 ?_; refine Oas ?_; refine S5 ?_; refine Omv ?_
 rcases hq : manyR l with _ | ⟨n, l1⟩
 ·
  refine OL.rcallN rfl rfl (.mk' rfl rfl rfl rfl rfl) (q164n hq rb (S s ++ Hx)) wrong_c ?_
  exact outP (P := Tryz.prog) (fn := Tryz.f135) wrong_c (List.sublist_append_right _ _) ⟨by rw [listR_none hq]; rfl, rfl, rfl⟩
 ·
  rw [listR_some hq]
  have hn := rd_many hq
  refine OL.rcallS rfl rfl rfl (.mk' rfl rfl rfl rfl rfl) (q164s hq rb (S s ++ Hx)) ?_
  refine Omv ?_; refine S3 ?_
  refine CW.ownNil 5 143 2 rfl ?_
  refine lj (fun m st => ∃ (i : Nat) (out : List (Int × Int)) (s' : σ) (l' : List U8) (v : Value), st = ⟨[(8, .i i), (7, .i n), (5, .as (.sl 2 (out.map (initA))) v), (1, .fn g gs gc)], .own 143 2 v :: rdr rb l' :: (S s' ++ Hx)⟩ ∧ m = n - i ∧ i ≤ n ∧ Iv s' l' ∧ out.length = i ∧ timesR R n s l1 = (timesR R (n - i) s' l').map fun p => (out ++ p.1, p.2.1, p.2.2)) (⟨0, [], s, l1, _, rfl, rfl, by omega, hs n l1 hq, rfl, times_begin R n s l1⟩) ?_
  rintro m _ ⟨i, out, s', l', v, rfl, rfl, hi, hI, ho, ht⟩
  refine S2 ?_; refine Ocm ?_; refine S3 ?_
  refine CW.cond rfl (fun h0 => ?_) (fun h0 => ?_)
  ·
   replace h0 := nm h0
   have hil : i < n := by omega
   obtain ⟨ht1, ht2⟩ := times_snoc hil ht
   refine S5 ?_; refine Omv ?_; refine Omv ?_
   refine OL.perm (own_in _ _ _ _) ?_
   rcases hR : R s' l' with _ | ⟨y, s2, l2⟩
   ·
    refine OL.vcall rfl rfl rfl rfl rfl rfl rfl (AVleL.refl _) ((hg B (.own 143 2 v :: Hx) s' l' hI).2 hR) (fun _ _ h => h.elim) ?_
    rintro y H2 ⟨rfl, rfl⟩ a w st I v hv
    rw [wrong_c.is _ _ _ hv]
    exact outP (P := Tryz.prog) (fn := Tryz.f135) wrong_c (List.sublist_cons_self _ _) ⟨by rw [ht1 hR]; rfl, rfl, rfl⟩ a w st
   ·
    have ht3 := ht2 y s2 l2 hR
    obtain ⟨hI2, hV⟩ := (hg B (.own 143 2 v :: Hx) s' l' hI).1 y s2 l2 hR
    refine OL.vcallC rfl rfl rfl rfl rfl rfl rfl rfl (AVleL.refl _) hV ?_
    rintro _ _ ⟨rfl, rfl⟩
    refine OL.perm (own_in _ _ _ _).symm ?_
    refine OL.popC (x := .sl 2 [(initA) y]) rfl rfl rfl (POp.row rfl rfl (by first | rfl | simp_all [strip]) rfl rfl rfl rfl rfl rfl) ?_
    refine OL.appendC rfl rfl rfl rfl rfl rfl rfl rfl (AVle.refl _) (rfl) (fun v => by repeat (first | exact Upd.head _ _ _ | apply Upd.tail)) (by simp only [List.length_map, List.length_singleton, List.length_cons, List.length_nil]; omega) (by simp only [List.length_map, List.length_singleton, List.length_cons, List.length_nil]; omega) (fun v14 => ?_)
    refine Oas ?_; refine S4 ?_; refine Oar ?_; refine Omv ?_; refine S1 ?_
    exact ag (⟨i + 1, out ++ [y], s2, l2, v14, by rw [← rows_snoc], rfl, hil, hI2, by rw [List.length_append, ho]; rfl, ht3⟩)
  ·
   replace h0 := nm h0
   obtain rfl : i = n := by omega
   have he := times_end ht
   refine S7 ?_; refine Omv ?_; refine Oas ?_; refine S3 ?_
   refine Done.retR (rs := [.tmp 4]) (H' := rdr rb l' :: (S s' ++ Hx)) rfl (.tmp rfl (.nil)) (.cons (AVle.asL _ _) .nil) (by repeat (first | exact List.Sublist.refl _ | refine List.Sublist.cons _ ?_)) ?_
   exact by rw [he]; rfl
theorem listC {σ : Type} {rb : Nat} {S : σ → List Ent} {g : Fn} {gs gc : List AV} {R : Rd σ Cls} {Iv : σ → List U8 → Prop} (hg : RdOk Tryz.prog rb S (.fn g gs gc) R (fun x => .agg (clsA x)) Iv) (s : σ) (l : List U8) (hs : ∀ n l1, manyR l = some (n, l1) → Iv s l1) (Hx : List Ent) : RCall Tryz.prog 131 [.p rb 0, .fn g gs gc] (rdr rb l :: (S s ++ Hx)) (rdO rb S Hx (fun ys => .sl 3 (ys.map (clsA))) (listR R s l)) Hx wrongA := by
 refine ACall.mk' (n := 17) Tryz.func131 rfl (by kernel_rfl) rfl rfl (fun B I w0 => ?_)
 refine S2 ?_; refine Oas ?_; refine S4 ?_; refine Oas ?_; refine S5 ?_; refine Omv ?_
 rcases hq : manyR l with _ | ⟨n, l1⟩
 ·
  refine OL.rcallN rfl rfl (.mk' rfl rfl rfl rfl rfl) (q164n hq rb (S s ++ Hx)) wrong_c ?_
  exact outP (P := Tryz.prog) (fn := Tryz.f131) wrong_c (List.sublist_append_right _ _) ⟨by rw [listR_none hq]; rfl, rfl, rfl⟩
 ·
  rw [listR_some hq]
  have hn := rd_many hq
  refine OL.rcallS rfl rfl rfl (.mk' rfl rfl rfl rfl rfl) (q164s hq rb (S s ++ Hx)) ?_
  refine Omv ?_; refine S3 ?_
  refine CW.ownNil 5 79 3 rfl ?_
  refine lj (fun m st => ∃ (i : Nat) (out : List Cls) (s' : σ) (l' : List U8) (v : Value), st = ⟨[(8, .i i), (7, .i n), (5, .as (.sl 3 (out.map (clsA))) v), (1, .fn g gs gc)], .own 79 3 v :: rdr rb l' :: (S s' ++ Hx)⟩ ∧ m = n - i ∧ i ≤ n ∧ Iv s' l' ∧ out.length = i ∧ timesR R n s l1 = (timesR R (n - i) s' l').map fun p => (out ++ p.1, p.2.1, p.2.2)) (⟨0, [], s, l1, _, rfl, rfl, by omega, hs n l1 hq, rfl, times_begin R n s l1⟩) ?_
  rintro m _ ⟨i, out, s', l', v, rfl, rfl, hi, hI, ho, ht⟩
  refine S2 ?_; refine Ocm ?_; refine S3 ?_
  refine CW.cond rfl (fun h0 => ?_) (fun h0 => ?_)
  ·
   replace h0 := nm h0
   have hil : i < n := by omega
   obtain ⟨ht1, ht2⟩ := times_snoc hil ht
   refine S5 ?_; refine Omv ?_; refine Omv ?_
   refine OL.perm (own_in _ _ _ _) ?_
   rcases hR : R s' l' with _ | ⟨y, s2, l2⟩
   ·
    refine OL.vcall rfl rfl rfl rfl rfl rfl rfl (AVleL.refl _) ((hg B (.own 79 3 v :: Hx) s' l' hI).2 hR) (fun _ _ h => h.elim) ?_
    rintro y H2 ⟨rfl, rfl⟩ a w st I v hv
    rw [wrong_c.is _ _ _ hv]
    exact outP (P := Tryz.prog) (fn := Tryz.f131) wrong_c (List.sublist_cons_self _ _) ⟨by rw [ht1 hR]; rfl, rfl, rfl⟩ a w st
   ·
    have ht3 := ht2 y s2 l2 hR
    obtain ⟨hI2, hV⟩ := (hg B (.own 79 3 v :: Hx) s' l' hI).1 y s2 l2 hR
    refine OL.vcallC rfl rfl rfl rfl rfl rfl rfl rfl (AVleL.refl _) hV ?_
    rintro _ _ ⟨rfl, rfl⟩
    refine OL.perm (own_in _ _ _ _).symm ?_
    refine OL.popC (x := .sl 3 [(clsA) y]) rfl rfl rfl (POp.row rfl rfl (by first | rfl | simp_all [strip]) rfl rfl rfl rfl rfl rfl) ?_
    refine OL.appendC rfl rfl rfl rfl rfl rfl rfl rfl (AVle.refl _) (rfl) (fun v => by repeat (first | exact Upd.head _ _ _ | apply Upd.tail)) (by simp only [List.length_map, List.length_singleton, List.length_cons, List.length_nil]; omega) (by simp only [List.length_map, List.length_singleton, List.length_cons, List.length_nil]; omega) (fun v14 => ?_)
    refine Oas ?_; refine S4 ?_; refine Oar ?_; refine Omv ?_; refine S1 ?_
    exact ag (⟨i + 1, out ++ [y], s2, l2, v14, by rw [← rows_snoc], rfl, hil, hI2, by rw [List.length_append, ho]; rfl, ht3⟩)
  ·
   replace h0 := nm h0
   obtain rfl : i = n := by omega
   have he := times_end ht
   refine S7 ?_; refine Omv ?_; refine Oas ?_; refine S3 ?_
   refine Done.retR (rs := [.tmp 4]) (H' := rdr rb l' :: (S s' ++ Hx)) rfl (.tmp rfl (.nil)) (.cons (AVle.asL _ _) .nil) (by repeat (first | exact List.Sublist.refl _ | refine List.Sublist.cons _ ?_)) ?_
   exact by rw [he]; rfl
theorem listM {σ : Type} {rb : Nat} {S : σ → List Ent} {g : Fn} {gs gc : List AV} {R : Rd σ Mth} {Iv : σ → List U8 → Prop} (hg : RdOk Tryz.prog rb S (.fn g gs gc) R (fun x => .agg (mthA x)) Iv) (s : σ) (l : List U8) (hs : ∀ n l1, manyR l = some (n, l1) → Iv s l1) (Hx : List Ent) : RCall Tryz.prog 138 [.p rb 0, .fn g gs gc] (rdr rb l :: (S s ++ Hx)) (rdO rb S Hx (fun ys => .sl 9 (ys.map (mthA))) (listR R s l)) Hx wrongA := by
 refine ACall.mk' (n := 17) Tryz.func138 rfl (by kernel_rfl) rfl rfl (fun B I w0 => ?_)
 refine S2 ?_; refine Oas ?_; refine S4 ?_; refine Oas ?_; refine S5 ?_; refine Omv ?_
 rcases hq : manyR l with _ | ⟨n, l1⟩
 ·
  refine OL.rcallN rfl rfl (.mk' rfl rfl rfl rfl rfl) (q164n hq rb (S s ++ Hx)) wrong_c ?_
  exact outP (P := Tryz.prog) (fn := Tryz.f138) wrong_c (List.sublist_append_right _ _) ⟨by rw [listR_none hq]; rfl, rfl, rfl⟩
 ·
  rw [listR_some hq]
  have hn := rd_many hq
  refine OL.rcallS rfl rfl rfl (.mk' rfl rfl rfl rfl rfl) (q164s hq rb (S s ++ Hx)) ?_
  refine Omv ?_; refine S3 ?_
  refine CW.ownNil 5 168 9 rfl ?_
  refine lj (fun m st => ∃ (i : Nat) (out : List Mth) (s' : σ) (l' : List U8) (v : Value), st = ⟨[(8, .i i), (7, .i n), (5, .as (.sl 9 (out.map (mthA))) v), (1, .fn g gs gc)], .own 168 9 v :: rdr rb l' :: (S s' ++ Hx)⟩ ∧ m = n - i ∧ i ≤ n ∧ Iv s' l' ∧ out.length = i ∧ timesR R n s l1 = (timesR R (n - i) s' l').map fun p => (out ++ p.1, p.2.1, p.2.2)) (⟨0, [], s, l1, _, rfl, rfl, by omega, hs n l1 hq, rfl, times_begin R n s l1⟩) ?_
  rintro m _ ⟨i, out, s', l', v, rfl, rfl, hi, hI, ho, ht⟩
  refine S2 ?_; refine Ocm ?_; refine S3 ?_
  refine CW.cond rfl (fun h0 => ?_) (fun h0 => ?_)
  ·
   replace h0 := nm h0
   have hil : i < n := by omega
   obtain ⟨ht1, ht2⟩ := times_snoc hil ht
   refine S5 ?_; refine Omv ?_; refine Omv ?_
   refine OL.perm (own_in _ _ _ _) ?_
   rcases hR : R s' l' with _ | ⟨y, s2, l2⟩
   ·
    refine OL.vcall rfl rfl rfl rfl rfl rfl rfl (AVleL.refl _) ((hg B (.own 168 9 v :: Hx) s' l' hI).2 hR) (fun _ _ h => h.elim) ?_
    rintro y H2 ⟨rfl, rfl⟩ a w st I v hv
    rw [wrong_c.is _ _ _ hv]
    exact outP (P := Tryz.prog) (fn := Tryz.f138) wrong_c (List.sublist_cons_self _ _) ⟨by rw [ht1 hR]; rfl, rfl, rfl⟩ a w st
   ·
    have ht3 := ht2 y s2 l2 hR
    obtain ⟨hI2, hV⟩ := (hg B (.own 168 9 v :: Hx) s' l' hI).1 y s2 l2 hR
    refine OL.vcallC rfl rfl rfl rfl rfl rfl rfl rfl (AVleL.refl _) hV ?_
    rintro _ _ ⟨rfl, rfl⟩
    refine OL.perm (own_in _ _ _ _).symm ?_
    refine OL.popC (x := .sl 9 [(mthA) y]) rfl rfl rfl (POp.row rfl rfl (by first | rfl | simp_all [strip]) rfl rfl rfl rfl rfl rfl) ?_
    refine OL.appendC rfl rfl rfl rfl rfl rfl rfl rfl (AVle.refl _) (rfl) (fun v => by repeat (first | exact Upd.head _ _ _ | apply Upd.tail)) (by simp only [List.length_map, List.length_singleton, List.length_cons, List.length_nil]; omega) (by simp only [List.length_map, List.length_singleton, List.length_cons, List.length_nil]; omega) (fun v14 => ?_)
    refine Oas ?_; refine S4 ?_; refine Oar ?_; refine Omv ?_; refine S1 ?_
    exact ag (⟨i + 1, out ++ [y], s2, l2, v14, by rw [← rows_snoc], rfl, hil, hI2, by rw [List.length_append, ho]; rfl, ht3⟩)
  ·
   replace h0 := nm h0
   obtain rfl : i = n := by omega
   have he := times_end ht
   refine S7 ?_; refine Omv ?_; refine Oas ?_; refine S3 ?_
   refine Done.retR (rs := [.tmp 4]) (H' := rdr rb l' :: (S s' ++ Hx)) rfl (.tmp rfl (.nil)) (.cons (AVle.asL _ _) .nil) (by repeat (first | exact List.Sublist.refl _ | refine List.Sublist.cons _ ?_)) ?_
   exact by rw [he]; rfl
theorem listD {σ : Type} {rb : Nat} {S : σ → List Ent} {g : Fn} {gs gc : List AV} {R : Rd σ Nd} {Iv : σ → List U8 → Prop} (hg : RdOk Tryz.prog rb S (.fn g gs gc) R (fun x => .agg (ndA x)) Iv) (s : σ) (l : List U8) (hs : ∀ n l1, manyR l = some (n, l1) → Iv s l1) (Hx : List Ent) : RCall Tryz.prog 140 [.p rb 0, .fn g gs gc] (rdr rb l :: (S s ++ Hx)) (rdO rb S Hx (fun ys => .sl 3 (ys.map (ndA))) (listR R s l)) Hx wrongA := by
 refine ACall.mk' (n := 17) Tryz.func140 rfl (by kernel_rfl) rfl rfl (fun B I w0 => ?_)
 refine S2 ?_; refine Oas ?_; refine S4 ?_; refine Oas ?_; refine S5 ?_; refine Omv ?_
 rcases hq : manyR l with _ | ⟨n, l1⟩
 ·
  refine OL.rcallN rfl rfl (.mk' rfl rfl rfl rfl rfl) (q164n hq rb (S s ++ Hx)) wrong_c ?_
  exact outP (P := Tryz.prog) (fn := Tryz.f140) wrong_c (List.sublist_append_right _ _) ⟨by rw [listR_none hq]; rfl, rfl, rfl⟩
 ·
  rw [listR_some hq]
  have hn := rd_many hq
  refine OL.rcallS rfl rfl rfl (.mk' rfl rfl rfl rfl rfl) (q164s hq rb (S s ++ Hx)) ?_
  refine Omv ?_; refine S3 ?_
  refine CW.ownNil 5 146 3 rfl ?_
  refine lj (fun m st => ∃ (i : Nat) (out : List Nd) (s' : σ) (l' : List U8) (v : Value), st = ⟨[(8, .i i), (7, .i n), (5, .as (.sl 3 (out.map (ndA))) v), (1, .fn g gs gc)], .own 146 3 v :: rdr rb l' :: (S s' ++ Hx)⟩ ∧ m = n - i ∧ i ≤ n ∧ Iv s' l' ∧ out.length = i ∧ timesR R n s l1 = (timesR R (n - i) s' l').map fun p => (out ++ p.1, p.2.1, p.2.2)) (⟨0, [], s, l1, _, rfl, rfl, by omega, hs n l1 hq, rfl, times_begin R n s l1⟩) ?_
  rintro m _ ⟨i, out, s', l', v, rfl, rfl, hi, hI, ho, ht⟩
  refine S2 ?_; refine Ocm ?_; refine S3 ?_
  refine CW.cond rfl (fun h0 => ?_) (fun h0 => ?_)
  ·
   replace h0 := nm h0
   have hil : i < n := by omega
   obtain ⟨ht1, ht2⟩ := times_snoc hil ht
   refine S5 ?_; refine Omv ?_; refine Omv ?_
   refine OL.perm (own_in _ _ _ _) ?_
   rcases hR : R s' l' with _ | ⟨y, s2, l2⟩
   ·
    refine OL.vcall rfl rfl rfl rfl rfl rfl rfl (AVleL.refl _) ((hg B (.own 146 3 v :: Hx) s' l' hI).2 hR) (fun _ _ h => h.elim) ?_
    rintro y H2 ⟨rfl, rfl⟩ a w st I v hv
    rw [wrong_c.is _ _ _ hv]
    exact outP (P := Tryz.prog) (fn := Tryz.f140) wrong_c (List.sublist_cons_self _ _) ⟨by rw [ht1 hR]; rfl, rfl, rfl⟩ a w st
   ·
    have ht3 := ht2 y s2 l2 hR
    obtain ⟨hI2, hV⟩ := (hg B (.own 146 3 v :: Hx) s' l' hI).1 y s2 l2 hR
    refine OL.vcallC rfl rfl rfl rfl rfl rfl rfl rfl (AVleL.refl _) hV ?_
    rintro _ _ ⟨rfl, rfl⟩
    refine OL.perm (own_in _ _ _ _).symm ?_
    refine OL.popC (x := .sl 3 [(ndA) y]) rfl rfl rfl (POp.row rfl rfl (by first | rfl | simp_all [strip]) rfl rfl rfl rfl rfl rfl) ?_
    refine OL.appendC rfl rfl rfl rfl rfl rfl rfl rfl (AVle.refl _) (rfl) (fun v => by repeat (first | exact Upd.head _ _ _ | apply Upd.tail)) (by simp only [List.length_map, List.length_singleton, List.length_cons, List.length_nil]; omega) (by simp only [List.length_map, List.length_singleton, List.length_cons, List.length_nil]; omega) (fun v14 => ?_)
    refine Oas ?_; refine S4 ?_; refine Oar ?_; refine Omv ?_; refine S1 ?_
    exact ag (⟨i + 1, out ++ [y], s2, l2, v14, by rw [← rows_snoc], rfl, hil, hI2, by rw [List.length_append, ho]; rfl, ht3⟩)
  ·
   replace h0 := nm h0
   obtain rfl : i = n := by omega
   have he := times_end ht
   refine S7 ?_; refine Omv ?_; refine Oas ?_; refine S3 ?_
   refine Done.retR (rs := [.tmp 4]) (H' := rdr rb l' :: (S s' ++ Hx)) rfl (.tmp rfl (.nil)) (.cons (AVle.asL _ _) .nil) (by repeat (first | exact List.Sublist.refl _ | refine List.Sublist.cons _ ?_)) ?_
   exact by rw [he]; rfl
theorem listT {σ : Type} {rb : Nat} {S : σ → List Ent} {g : Fn} {gs gc : List AV} {R : Rd σ Th} {Iv : σ → List U8 → Prop} (hg : RdOk Tryz.prog rb S (.fn g gs gc) R (fun x => .agg (thA x)) Iv) (s : σ) (l : List U8) (hs : ∀ n l1, manyR l = some (n, l1) → Iv s l1) (Hx : List Ent) : RCall Tryz.prog 145 [.p rb 0, .fn g gs gc] (rdr rb l :: (S s ++ Hx)) (rdO rb S Hx (fun ys => .sl 2 (ys.map (thA))) (listR R s l)) Hx wrongA := by
 refine ACall.mk' (n := 17) Tryz.func145 rfl (by kernel_rfl) rfl rfl (fun B I w0 => ?_)
 refine S2 ?_; refine Oas ?_; refine S4 ?_; refine Oas ?_; refine S5 ?_; refine Omv ?_
 rcases hq : manyR l with _ | ⟨n, l1⟩
 ·
  refine OL.rcallN rfl rfl (.mk' rfl rfl rfl rfl rfl) (q164n hq rb (S s ++ Hx)) wrong_c ?_
  exact outP (P := Tryz.prog) (fn := Tryz.f145) wrong_c (List.sublist_append_right _ _) ⟨by rw [listR_none hq]; rfl, rfl, rfl⟩
 ·
  rw [listR_some hq]
  have hn := rd_many hq
  refine OL.rcallS rfl rfl rfl (.mk' rfl rfl rfl rfl rfl) (q164s hq rb (S s ++ Hx)) ?_
  refine Omv ?_; refine S3 ?_
  refine CW.ownNil 5 65 2 rfl ?_
  refine lj (fun m st => ∃ (i : Nat) (out : List Th) (s' : σ) (l' : List U8) (v : Value), st = ⟨[(8, .i i), (7, .i n), (5, .as (.sl 2 (out.map (thA))) v), (1, .fn g gs gc)], .own 65 2 v :: rdr rb l' :: (S s' ++ Hx)⟩ ∧ m = n - i ∧ i ≤ n ∧ Iv s' l' ∧ out.length = i ∧ timesR R n s l1 = (timesR R (n - i) s' l').map fun p => (out ++ p.1, p.2.1, p.2.2)) (⟨0, [], s, l1, _, rfl, rfl, by omega, hs n l1 hq, rfl, times_begin R n s l1⟩) ?_
  rintro m _ ⟨i, out, s', l', v, rfl, rfl, hi, hI, ho, ht⟩
  refine S2 ?_; refine Ocm ?_; refine S3 ?_
  refine CW.cond rfl (fun h0 => ?_) (fun h0 => ?_)
  ·
   replace h0 := nm h0
   have hil : i < n := by omega
   obtain ⟨ht1, ht2⟩ := times_snoc hil ht
   refine S5 ?_; refine Omv ?_; refine Omv ?_
   refine OL.perm (own_in _ _ _ _) ?_
   rcases hR : R s' l' with _ | ⟨y, s2, l2⟩
   ·
    refine OL.vcall rfl rfl rfl rfl rfl rfl rfl (AVleL.refl _) ((hg B (.own 65 2 v :: Hx) s' l' hI).2 hR) (fun _ _ h => h.elim) ?_
    rintro y H2 ⟨rfl, rfl⟩ a w st I v hv
    rw [wrong_c.is _ _ _ hv]
    exact outP (P := Tryz.prog) (fn := Tryz.f145) wrong_c (List.sublist_cons_self _ _) ⟨by rw [ht1 hR]; rfl, rfl, rfl⟩ a w st
   ·
    have ht3 := ht2 y s2 l2 hR
    obtain ⟨hI2, hV⟩ := (hg B (.own 65 2 v :: Hx) s' l' hI).1 y s2 l2 hR
    refine OL.vcallC rfl rfl rfl rfl rfl rfl rfl rfl (AVleL.refl _) hV ?_
    rintro _ _ ⟨rfl, rfl⟩
    refine OL.perm (own_in _ _ _ _).symm ?_
    refine OL.popC (x := .sl 2 [(thA) y]) rfl rfl rfl (POp.row rfl rfl (by first | rfl | simp_all [strip]) rfl rfl rfl rfl rfl rfl) ?_
    refine OL.appendC rfl rfl rfl rfl rfl rfl rfl rfl (AVle.refl _) (rfl) (fun v => by repeat (first | exact Upd.head _ _ _ | apply Upd.tail)) (by simp only [List.length_map, List.length_singleton, List.length_cons, List.length_nil]; omega) (by simp only [List.length_map, List.length_singleton, List.length_cons, List.length_nil]; omega) (fun v14 => ?_)
    refine Oas ?_; refine S4 ?_; refine Oar ?_; refine Omv ?_; refine S1 ?_
    exact ag (⟨i + 1, out ++ [y], s2, l2, v14, by rw [← rows_snoc], rfl, hil, hI2, by rw [List.length_append, ho]; rfl, ht3⟩)
  ·
   replace h0 := nm h0
   obtain rfl : i = n := by omega
   have he := times_end ht
   refine S7 ?_; refine Omv ?_; refine Oas ?_; refine S3 ?_
   refine Done.retR (rs := [.tmp 4]) (H' := rdr rb l' :: (S s' ++ Hx)) rfl (.tmp rfl (.nil)) (.cons (AVle.asL _ _) .nil) (by repeat (first | exact List.Sublist.refl _ | refine List.Sublist.cons _ ?_)) ?_
   exact by rw [he]; rfl
theorem listV {σ : Type} {rb : Nat} {S : σ → List Ent} {g : Fn} {gs gc : List AV} {R : Rd σ (Int × Int)} {Iv : σ → List U8 → Prop} (hg : RdOk Tryz.prog rb S (.fn g gs gc) R (fun x => AV.mv x) Iv) (s : σ) (l : List U8) (hs : ∀ n l1, manyR l = some (n, l1) → Iv s l1) (Hx : List Ent) : RCall Tryz.prog 90 [.p rb 0, .fn g gs gc] (rdr rb l :: (S s ++ Hx)) (rdO rb S Hx (fun ys => .sl 2 (ys.map (initA))) (listR R s l)) Hx wrongA := by
 refine ACall.mk' (n := 17) Tryz.func90 rfl (by kernel_rfl) rfl rfl (fun B I w0 => ?_)
 refine S2 ?_; refine Oas ?_; refine S4 ?_; refine Oas ?_; refine S5 ?_; refine Omv ?_
 rcases hq : manyR l with _ | ⟨n, l1⟩
 ·
  refine OL.rcallN rfl rfl (.mk' rfl rfl rfl rfl rfl) (q164n hq rb (S s ++ Hx)) wrong_c ?_
  exact outP (P := Tryz.prog) (fn := Tryz.f90) wrong_c (List.sublist_append_right _ _) ⟨by rw [listR_none hq]; rfl, rfl, rfl⟩
 ·
  rw [listR_some hq]
  have hn := rd_many hq
  refine OL.rcallS rfl rfl rfl (.mk' rfl rfl rfl rfl rfl) (q164s hq rb (S s ++ Hx)) ?_
  refine Omv ?_; refine S3 ?_
  refine CW.ownNil 5 60 2 rfl ?_
  refine lj (fun m st => ∃ (i : Nat) (out : List (Int × Int)) (s' : σ) (l' : List U8) (v : Value), st = ⟨[(8, .i i), (7, .i n), (5, .as (.sl 2 (out.map (initA))) v), (1, .fn g gs gc)], .own 60 2 v :: rdr rb l' :: (S s' ++ Hx)⟩ ∧ m = n - i ∧ i ≤ n ∧ Iv s' l' ∧ out.length = i ∧ timesR R n s l1 = (timesR R (n - i) s' l').map fun p => (out ++ p.1, p.2.1, p.2.2)) (⟨0, [], s, l1, _, rfl, rfl, by omega, hs n l1 hq, rfl, times_begin R n s l1⟩) ?_
  rintro m _ ⟨i, out, s', l', v, rfl, rfl, hi, hI, ho, ht⟩
  refine S2 ?_; refine Ocm ?_; refine S3 ?_
  refine CW.cond rfl (fun h0 => ?_) (fun h0 => ?_)
  ·
   replace h0 := nm h0
   have hil : i < n := by omega
   obtain ⟨ht1, ht2⟩ := times_snoc hil ht
   refine S5 ?_; refine Omv ?_; refine Omv ?_
   refine OL.perm (own_in _ _ _ _) ?_
   rcases hR : R s' l' with _ | ⟨y, s2, l2⟩
   ·
    refine OL.vcall rfl rfl rfl rfl rfl rfl rfl (AVleL.refl _) ((hg B (.own 60 2 v :: Hx) s' l' hI).2 hR) (fun _ _ h => h.elim) ?_
    rintro y H2 ⟨rfl, rfl⟩ a w st I v hv
    rw [wrong_c.is _ _ _ hv]
    exact outP (P := Tryz.prog) (fn := Tryz.f90) wrong_c (List.sublist_cons_self _ _) ⟨by rw [ht1 hR]; rfl, rfl, rfl⟩ a w st
   ·
    have ht3 := ht2 y s2 l2 hR
    obtain ⟨hI2, hV⟩ := (hg B (.own 60 2 v :: Hx) s' l' hI).1 y s2 l2 hR
    refine OL.vcallC rfl rfl rfl rfl rfl rfl rfl rfl (AVleL.refl _) hV ?_
    rintro _ _ ⟨rfl, rfl⟩
    refine OL.perm (own_in _ _ _ _).symm ?_
    refine OL.popC (x := .sl 2 [(initA) y]) rfl rfl rfl (POp.row rfl rfl (by first | rfl | simp_all [strip]) rfl rfl rfl rfl rfl rfl) ?_
    refine OL.appendC rfl rfl rfl rfl rfl rfl rfl rfl (AVle.refl _) (rfl) (fun v => by repeat (first | exact Upd.head _ _ _ | apply Upd.tail)) (by simp only [List.length_map, List.length_singleton, List.length_cons, List.length_nil]; omega) (by simp only [List.length_map, List.length_singleton, List.length_cons, List.length_nil]; omega) (fun v14 => ?_)
    refine Oas ?_; refine S4 ?_; refine Oar ?_; refine Omv ?_; refine S1 ?_
    exact ag (⟨i + 1, out ++ [y], s2, l2, v14, by rw [← rows_snoc], rfl, hil, hI2, by rw [List.length_append, ho]; rfl, ht3⟩)
  ·
   replace h0 := nm h0
   obtain rfl : i = n := by omega
   have he := times_end ht
   refine S7 ?_; refine Omv ?_; refine Oas ?_; refine S3 ?_
   refine Done.retR (rs := [.tmp 4]) (H' := rdr rb l' :: (S s' ++ Hx)) rfl (.tmp rfl (.nil)) (.cons (AVle.asL _ _) .nil) (by repeat (first | exact List.Sublist.refl _ | refine List.Sublist.cons _ ?_)) ?_
   exact by rw [he]; rfl
end Go.Proofs.YtpgnjlngepfanaaGreat
