/- Part 11 of the proof: contracts of functions of the program and what they need. No condition beyond those that each theorem names. -/
import Derived.Test.YtiljpbljebfhnaaGreatMdP10
set_option linter.unusedVariables false
set_option linter.unusedSimpArgs false
set_option maxRecDepth 10000
namespace Go.Proofs.YtiljpbljebfhnaaGreat
open Go.Eng
open Go.Eng.Fc
def spR (x : Fact) : Fact × Bool := if x.op = 5 then (x.kids.getD 0 default, true) else (x, false)
def splitOk (x : Fact) : Prop := x.op = 5 → x.kids ≠ []
def rspotCells (W : FW) (L : List Fact) (arg : Int) (path : List Int) : List AV := Wcells W ++ [AV.facts L, .i arg, AV.ints path, .b false]
abbrev AV.rspot (W : FW) (L : List Fact) (arg : Int) (path : List Int) : AV := .agg (rspotCells W L arg path)
def begR (p w : List Int) : Bool := decide (p.length ≥ w.length) && p.take w.length == w
def hitR (arg : Int) (path : List Int) (x : Fact) : Bool := (spR x).1.arg == arg && (spR x).1.path == path
def onR (L : List Fact) (arg : Int) (path : List Int) : List Fact := L.filter (hitR arg path)
def needR (arg : Int) (path : List Int) (x : Fact) : Bool := !(spR x).2 && ((spR x).1.arg == arg && begR (spR x).1.path path)
def bareR (L : List Fact) (arg : Int) (path : List Int) : Bool := !L.any (needR arg path)
def wayR (arg : Int) (path : List Int) (x : Fact) : Bool := (spR x).1.arg == arg && begR (spR x).1.path path
def slotsR (W : FW) (L : List Fact) (arg : Int) (path : List Int) : List Int := ((List.range W.owner.length).map fun (n : Nat) => (n : Int)).filter fun s => L.any (wayR arg (path ++ [s]))
def slotsN (L : List Fact) (arg : Int) (path : List Int) (n : Nat) : List Int := ((List.range n).map fun (n : Nat) => (n : Int)).filter fun s => L.any (wayR arg (path ++ [s]))
theorem slotsN_len (L : List Fact) (arg : Int) (path : List Int) (n : Nat) : (slotsN L arg path n).length ≤ n := Nat.le_trans (List.length_filter_le _ _) (by simp)
theorem slotsN_yes {L : List Fact} {arg : Int} {path : List Int} {k : Nat} (h : L.any (wayR arg (path ++ [(k : Int)])) = true) : slotsN L arg path (k + 1) = slotsN L arg path k ++ [(k : Int)] := by
 rw [slotsN, List.range_succ, List.map_append, List.filter_append]
 congr 1
 simp only [List.map_cons, List.map_nil, List.filter_cons, h, if_true, List.filter_nil]
theorem slotsN_no {L : List Fact} {arg : Int} {path : List Int} {k : Nat} (h : L.any (wayR arg (path ++ [(k : Int)])) = false) : slotsN L arg path (k + 1) = slotsN L arg path k := by
 rw [slotsN, List.range_succ, List.map_append, List.filter_append]
 simp only [List.map_cons, List.map_nil, List.filter_cons, h, List.filter_nil]
 exact List.append_nil _
def endsR (W : FW) (L : List Fact) (arg : Int) (path : List Int) : Bool := (slotsR W L arg path).all fun s => bareR L arg (path ++ [s])
theorem next_cells (W : FW) (L : List Fact) (arg : Int) (path : List Int) (slot : Int) : AV.agg (Wcells W ++ [AV.facts L, .i arg, .sl 1 ((path.map fun n => [AV.i n]) ++ [[AV.i slot]]), .b false]) = AV.rspot W L arg (path ++ [slot]) := by
 rw [AV.rspot, rspotCells, AV.ints, List.map_append]; rfl
instance : HasFldV Tryz.prog 177 3 4 := ⟨by kernel_rfl⟩
theorem one_ints (l : List Int) : (l.map fun n => [AV.i n]).all allOne = true := one_map (fun _ => rfl) l
theorem p214 (x : Fact) (h : splitOk x) : PCall Tryz.prog 214 [AV.fact x] (.tup [AV.fact (spR x).1, .b (spR x).2]) := by
 intro H
 refine ACall.mk' (n := 12) Tryz.func214 rfl (by kernel_rfl) rfl rfl (fun B I w0 => ?_)
 refine S2 ?_; refine Obx ?_
 refine OL.alC rfl rfl rfl rfl (fun b0 => ?_)
 refine Oas ?_; refine S5 ?_; refine Ofa ?_; refine Old ?_; refine Ocm ?_; refine S2 ?_
 refine CW.cond rfl (fun h0 => ?_) (fun h0 => ?_)
 ·
  replace h0 := nm h0
  refine S2 ?_; refine Ofa ?_; refine Old ?_
  refine OL.popC rfl rfl rfl ((by first | exact POp.ixM rfl rfl rfl rfl rfl ⟨by omega, by have := List.length_pos_iff.2 (h h0); omega⟩ | exact POp.ixI rfl rfl rfl rfl rfl ⟨by omega, by have := List.length_pos_iff.2 (h h0); omega⟩)) ?_
  refine Ola ?_; refine Sto ?_; refine Oas ?_; refine S4 ?_
  refine Done.retR (rs := [.cell 2 29, .tmp 3]) (H' := H) rfl ((by first | exact .cellA inferInstance rfl (by repeat (first | exact .head _ | refine .tail _ ?_)) rfl rfl (.tmp rfl (.nil)) | exact .ptrA inferInstance rfl rfl (.tmp rfl (.nil)))) (AVleL.refl _) (by repeat (first | exact List.Sublist.refl _ | refine List.Sublist.cons _ ?_)) ?_
  exact ⟨by rw [spR, if_pos h0]; rfl, rfl⟩
 ·
  replace h0 := nm h0
  refine S4 ?_; refine Ola ?_; refine Sto ?_; refine Oas ?_; refine S3 ?_
  refine Done.retR (rs := [.cell 2 29, .tmp 3]) (H' := H) rfl ((by first | exact .cellA inferInstance rfl (by repeat (first | exact .head _ | refine .tail _ ?_)) rfl rfl (.tmp rfl (.nil)) | exact .ptrA inferInstance rfl rfl (.tmp rfl (.nil)))) (AVleL.refl _) (by repeat (first | exact List.Sublist.refl _ | refine List.Sublist.cons _ ?_)) ?_
  exact ⟨by rw [spR, if_neg h0]; rfl, rfl⟩
theorem p224 (p w : List Int) : PCall Tryz.prog 224 [AV.ints p, AV.ints w] (.b (begR p w)) := by
 intro H
 refine ACall.mk' (n := 18) Tryz.func224 rfl (by kernel_rfl) rfl rfl (fun B I w0 => ?_)
 refine CW.boundM (t := 0) rfl (fun hb0 => ?_)
 refine CW.boundM (t := 1) rfl (fun hb1 => ?_)
 refine S2 ?_; refine Oas ?_; refine S4 ?_; refine Omv ?_; refine Oln ?_; refine Omv ?_; refine Oln ?_; refine Ocm ?_; refine Omv ?_; refine Pmv ?_; refine Pmv ?_; refine Pln ?_
 refine OL.guardC rfl rfl rfl rfl rfl rfl (fun hg => POp.slTo rfl rfl (by first | rfl | exact hg | simp_all) rfl (by first | rfl | exact hg | simp_all) (by simp at hg; omega)) ?_
 refine Pmv ?_
 refine OL.guardC rfl rfl rfl rfl rfl rfl (fun hg => POp.call (.mk' rfl rfl rfl rfl (by first | rfl | ((repeat (first | exact hg | rfl | refine Bool.and_eq_true_iff.2 ⟨?_, ?_⟩)); done) | simp_all [strip, constAV])) (p97 (p.take w.length) w)) ?_
 refine Opk ?_; refine Oas ?_; refine S3 ?_
 refine r1 4 (H) ?_
 exact ⟨retB (by rw [begR, show decide ((p.length : Int) ≥ w.length) = decide (p.length ≥ w.length) from by rw [decide_eq_decide]; omega]; cases decide (p.length ≥ w.length) <;> rfl), rfl⟩
theorem p217 (W : FW) (L : List Fact) (arg : Int) (path : List Int) (slot : Int) (h : path.length ≤ 1000) : PCall Tryz.prog 217 [AV.rspot W L arg path, .i slot] (AV.rspot W L arg (path ++ [slot])) := by
 intro H
 refine ACall.mk' (n := 20) Tryz.func217 rfl (by kernel_rfl) rfl rfl (fun B I w0 => ?_)
 refine S2 ?_; refine Obx ?_
 refine OL.alC rfl rfl rfl rfl (fun b0 => ?_)
 refine S3 ?_
 refine CW.dp mixed ?_
 refine DP.anyCC 3 1 (path.map fun n => [AV.i n]) ([[AV.i slot]]) 13 16 8 11 0 14 20 (by intro x hx; rcases List.mem_append.1 hx with hx | hx; (· obtain ⟨y, _, rfl⟩ := List.mem_map.1 hx; rfl); (· rcases List.mem_singleton.1 hx with rfl; rfl)) rfl (by decide +kernel) (by decide +kernel) rfl rfl (by decide +kernel) ?_
 refine TD.popCC (by decide +kernel) rfl rfl rfl rfl rfl (fun _ => (by first | exact POp.fa rfl rfl rfl rfl | exact POp.faP rfl rfl rfl rfl)) ?_
 refine TD.popCC (by decide +kernel) rfl rfl rfl rfl rfl (fun _ => (by first | exact POp.ldA rfl rfl rfl rfl | (apply POp.ldAH rfl rfl rfl; (case hm => repeat (first | exact .head _ | refine .tail _ ?_)); (case hy => rfl); (case hn => rfl)))) ?_
 refine TD.popCC (by decide +kernel) rfl rfl rfl rfl rfl (fun _ => (by first | exact POp.fa rfl rfl rfl rfl | exact POp.faP rfl rfl rfl rfl)) ?_
 refine TD.popCC (by decide +kernel) rfl rfl rfl rfl rfl (fun _ => (by first | exact POp.ld1 rfl rfl rfl rfl | (apply POp.ld1H rfl rfl rfl; (case hm => repeat (first | exact .head _ | refine .tail _ ?_)); (case hy => rfl)))) ?_
 refine TD.popCC (by decide +kernel) rfl rfl rfl rfl rfl (fun _ => (by first | exact POp.fa rfl rfl rfl rfl | exact POp.faP rfl rfl rfl rfl)) ?_
 refine TD.popCC (by decide +kernel) rfl rfl rfl rfl rfl (fun _ => (by first | exact POp.ld1 rfl rfl rfl rfl | (apply POp.ld1H rfl rfl rfl; (case hm => repeat (first | exact .head _ | refine .tail _ ?_)); (case hy => rfl)))) ?_
 refine TD.popCC (by decide +kernel) rfl rfl rfl rfl rfl (fun _ => (by first | exact POp.fa rfl rfl rfl rfl | exact POp.faP rfl rfl rfl rfl)) ?_
 refine TD.popCC (by decide +kernel) rfl rfl rfl rfl rfl (fun _ => (by first | exact POp.ld1 rfl rfl rfl rfl | (apply POp.ld1H rfl rfl rfl; (case hm => repeat (first | exact .head _ | refine .tail _ ?_)); (case hy => rfl)))) ?_
 refine TD.app1 (by decide +kernel) (by decide +kernel) rfl rfl rfl rfl rfl rfl rfl rfl (AVle.refl _) (one_ints path) (by rw [List.length_map]; omega) (by rw [List.length_map]; omega) ?_
 refine TD.popCC (by decide +kernel) rfl rfl rfl rfl rfl (fun _ => POp.move rfl rfl rfl) ?_
 refine TD.popCC (by decide +kernel) rfl rfl rfl rfl rfl (fun _ => POp.row rfl rfl (by first | rfl | simp_all [strip]) rfl rfl rfl rfl rfl rfl) ?_
 refine TD.app2 (by decide +kernel) (by decide +kernel) (by decide +kernel) rfl rfl rfl rfl rfl (fun _ => rfl) rfl (AVle.refl _) (rfl) (by rw [List.length_map]; simp; omega) (by rw [List.length_map]; simp; omega) ?_
 refine TD.popCC (by decide +kernel) rfl rfl rfl rfl rfl (fun _ => (by first | exact POp.fa rfl rfl rfl rfl | exact POp.faP rfl rfl rfl rfl)) ?_
 refine TD.popCC (by decide +kernel) rfl rfl rfl rfl rfl (fun _ => (by first | exact POp.ld1 rfl rfl rfl rfl | (apply POp.ld1H rfl rfl rfl; (case hm => repeat (first | exact .head _ | refine .tail _ ?_)); (case hy => rfl)))) ?_
 refine TD.nil ?_
 refine DP.tailC 14 (by decide +kernel) rfl ?_
 refine Obd ?_; refine Sto ?_; refine S3 ?_
 refine Done.retR (rs := [.cell 4 177]) (H' := H) rfl ((by first | exact .cellA inferInstance rfl (by repeat (first | exact .head _ | refine .tail _ ?_)) rfl rfl (.nil) | exact .ptrA inferInstance rfl rfl (.nil))) (AVleL.refl _) (by repeat (first | exact List.Sublist.refl _ | refine List.Sublist.cons _ ?_)) ?_
 exact ⟨next_cells W L arg path slot, rfl⟩
theorem need_bif (arg : Int) (path : List Int) (x : Fact) : (bif bif !(spR x).2 then (spR x).1.arg == arg else false then begR (spR x).1.path path else false) = needR arg path x := by
 rw [bif_and, bif_and, needR, Bool.and_assoc]
theorem hit_bif (arg : Int) (path : List Int) (x : Fact) : (bif (spR x).1.arg == arg then (spR x).1.path == path else false) = hitR arg path x := by
 rw [bif_and, hitR]
theorem way_bif (t : Bool) (arg : Int) (path : List Int) (x : Fact) : (bif t then true else bif (spR x).1.arg == arg then begR (spR x).1.path path else false) = (t || wayR arg path x) := by
 rw [bif_or, bif_and, wayR]
theorem any_take {α : Type} [Inhabited α] {l : List α} {i : Nat} {p : α → Bool} (h : i < l.length) : (l.take (i + 1)).any p = ((l.take i).any p || p (l.getD i default)) := by
 rw [← take_getD h, List.any_append, List.any_cons, List.any_nil, Bool.or_false]
theorem any_yes {α : Type} [Inhabited α] {l : List α} {i : Nat} {p : α → Bool} (h : i < l.length) (hp : p (l.getD i default) = true) : l.any p = true := List.any_eq_true.2 ⟨_, getD_mem h, hp⟩
theorem filter_take {α : Type} [Inhabited α] {l : List α} {i : Nat} {p : α → Bool} (h : i < l.length) : (l.take (i + 1)).filter p = (l.take i).filter p ++ if p (l.getD i default) then [l.getD i default] else [] := by
 rw [← take_getD h, List.filter_append]
 congr 1
 by_cases e : p (l.getD i default) = true
 ·rw [if_pos e]; simp only [List.filter_cons, e, if_true, List.filter_nil]
 ·rw [if_neg e]; simp only [List.filter_cons, e, if_false, List.filter_nil]; rfl
theorem facts_app (l : List Fact) (x : Fact) : AV.sl 6 (encFs l ++ [Fcells x]) = AV.facts (l ++ [x]) := by rw [AV.facts, encFs_map, encFs_map, List.map_append]; rfl
theorem p218 (W : FW) (L : List Fact) (hL : ∀ x ∈ L, splitOk x) (arg : Int) (path : List Int) : PCall Tryz.prog 218 [AV.rspot W L arg path] (.b (bareR L arg path)) := by
 intro H
 refine ACall.mk' (n := 36) Tryz.func218 rfl (by kernel_rfl) rfl rfl (fun B I w0 => ?_)
 refine CW.boundA (t := 0) (i := 2) rfl rfl (fun hb0 => ?_)
 refine S2 ?_; refine Obx ?_; refine Oas ?_; refine S5 ?_; refine Ofa ?_; refine Old ?_; refine Oln ?_; refine Omv ?_; refine S3 ?_
 refine lj (fun m st => ∃ i : Nat, st = ⟨[(10, .i i), (9, .i L.length), (8, AV.facts L), (1, .ptr (rspotCells W L arg path))], H⟩ ∧ m = L.length - i ∧ i ≤ L.length ∧ (L.take i).any (needR arg path) = false) (⟨0, rfl, rfl, by omega, rfl⟩) ?_
 rintro m _ ⟨i, rfl, rfl, hi, hall⟩
 refine S2 ?_; refine Ocm ?_; refine S3 ?_
 refine CW.cond rfl (fun h0 => ?_) (fun h0 => ?_)
 ·
  replace h0 := nm h0
  refine S6 ?_; refine Oix ?_; refine Ola ?_
  refine OL.alC rfl rfl rfl rfl (fun b0 => ?_)
  refine Sto ?_; refine S4 ?_; refine Ola ?_
  refine OL.popC rfl rfl rfl (POp.call (.mk' rfl rfl rfl rfl rfl) (p214 (L.getD i default) (hL (L.getD i default) (getD_mem (by omega))))) ?_
  refine Omv ?_; refine Oex ?_; refine Oex ?_
  refine OL.alC rfl rfl rfl rfl (fun b1 => ?_)
  refine Sto ?_; refine Oas ?_; refine S4 ?_; refine Omv ?_; refine Ont ?_; refine Omv ?_; refine Pfa ?_; refine Pld ?_; refine Pfa ?_; refine Pld ?_; refine Pcm ?_; refine Opk ?_
  refine Omv ?_; refine Pfa ?_; refine Pld ?_; refine Pfa ?_; refine Pld ?_
  refine OL.guardC rfl rfl rfl rfl rfl rfl (fun hg => POp.call (.mk' rfl rfl rfl rfl (by first | rfl | ((repeat (first | exact hg | rfl | refine Bool.and_eq_true_iff.2 ⟨?_, ?_⟩)); done) | simp_all [strip, constAV])) (p224 (spR (L.getD i default)).1.path path)) ?_
  refine Opk ?_; refine S2 ?_
  refine CW.cond rfl (fun h1 => ?_) (fun h1 => ?_)
  ·
   replace h1 := nm h1
   refine S2 ?_; refine Oas ?_; refine S8 ?_
   refine r1 2 (H) ?_
   exact ⟨retB (by rw [need_bif] at h1; rw [bareR, any_yes (i := i) (by omega) h1]; rfl), rfl⟩
  ·
   replace h1 := nm h1
   refine S4 ?_; refine Oar ?_; refine Omv ?_; refine S1 ?_
   exact ag (⟨i + 1, rfl, rfl, by omega, by rw [need_bif] at h1; rw [any_take (by omega), hall, h1]; rfl⟩)
 ·
  replace h0 := nm h0
  obtain rfl : i = L.length := by omega
  rw [List.take_length] at hall
  refine S7 ?_; refine Oas ?_; refine S3 ?_
  refine r1 2 (H) ?_
  exact ⟨retB (by rw [bareR, hall]; rfl), rfl⟩
theorem p213 (W : FW) (L : List Fact) (hL : ∀ x ∈ L, splitOk x) (hl : L.length ≤ 1000) (arg : Int) (path : List Int) : PCall Tryz.prog 213 [AV.rspot W L arg path] (AV.facts (onR L arg path)) := by
 intro H
 refine ACall.mk' (n := 38) Tryz.func213 rfl (by kernel_rfl) rfl rfl (fun B I w0 => ?_)
 refine S2 ?_; refine Obx ?_; refine Oas ?_; refine S4 ?_; refine Oas ?_; refine S4 ?_
 refine CW.ownNil 3 29 6 rfl ?_
 refine S1 ?_; refine Ofa ?_; refine Old ?_; refine Oln ?_; refine Omv ?_; refine S3 ?_
 refine lj (fun m st => ∃ (i : Nat) (v : Value), st = ⟨[(11, .i i), (10, .i L.length), (9, AV.facts L), (3, .as (AV.facts ((L.take i).filter (hitR arg path))) v), (1, .ptr (rspotCells W L arg path))], .own 29 6 v :: H⟩ ∧ m = L.length - i ∧ i ≤ L.length) (⟨0, _, rfl, rfl, by omega⟩) ?_
 rintro m _ ⟨i, v, rfl, rfl, hi⟩
 refine S2 ?_; refine Ocm ?_; refine S3 ?_
 refine CW.cond rfl (fun h0 => ?_) (fun h0 => ?_)
 ·
  replace h0 := nm h0
  have hfl : ((L.take i).filter (hitR arg path)).length ≤ 1000 := Nat.le_trans (List.length_filter_le _ _) (by rw [List.length_take]; omega)
  refine S6 ?_; refine Oix ?_; refine Ola ?_
  refine OL.alC rfl rfl rfl rfl (fun b0 => ?_)
  refine Sto ?_; refine S4 ?_; refine Ola ?_
  refine OL.popC rfl rfl rfl (POp.call (.mk' rfl rfl rfl rfl rfl) (p214 (L.getD i default) (hL (L.getD i default) (getD_mem (by omega))))) ?_
  refine Omv ?_; refine Oex ?_; refine Oex ?_
  refine OL.alC rfl rfl rfl rfl (fun b1 => ?_)
  refine Sto ?_; refine Oas ?_; refine S4 ?_; refine Ofa ?_; refine Old ?_; refine Ofa ?_; refine Old ?_; refine Ocm ?_; refine Omv ?_; refine Pfa ?_; refine Pld ?_; refine Pfa ?_
  refine Pld ?_
  refine OL.guardC rfl rfl rfl rfl rfl rfl (fun hg => POp.call (.mk' rfl rfl rfl rfl (by first | rfl | ((repeat (first | exact hg | rfl | refine Bool.and_eq_true_iff.2 ⟨?_, ?_⟩)); done) | simp_all [strip, constAV])) (p97 (spR (L.getD i default)).1.path path)) ?_
  refine Opk ?_; refine S2 ?_
  refine CW.cond rfl (fun h1 => ?_) (fun h1 => ?_)
  ·
   rw [hit_bif] at h1
   have e : (L.take (i + 1)).filter (hitR arg path) = (L.take i).filter (hitR arg path) ++ [L.getD i default] := by rw [filter_take (by omega), if_pos h1]
   refine S1 ?_; refine Omv ?_; refine Ola ?_
   refine OL.popC rfl rfl rfl (POp.row rfl rfl (by first | rfl | simp_all [strip]) rfl rfl rfl rfl rfl rfl) ?_
   refine OL.appendC rfl rfl rfl rfl rfl rfl rfl rfl (AVle.refl _) (rfl) (fun v => by repeat (first | exact Upd.head _ _ _ | apply Upd.tail)) (by show ((encFs _).length + 1) * 80 ≤ _; rw [encFs_map, List.length_map]; omega) (by show (encFs _).length + 1 ≤ _; rw [encFs_map, List.length_map]; omega) (fun v35 => ?_)
   refine Oas ?_; refine S3 ?_
   refine CW.le 3 (y := .as (AV.facts ((L.take (i + 1)).filter (hitR arg path))) v35) rfl (by rw [e, ← facts_app]; exact AVle.refl _) ?_
   refine S1 ?_; refine Oar ?_; refine Omv ?_; refine S1 ?_
   exact ag (⟨i + 1, v35, rfl, rfl, by omega⟩)
  ·
   rw [hit_bif] at h1
   have e : (L.take (i + 1)).filter (hitR arg path) = (L.take i).filter (hitR arg path) := by rw [filter_take (by omega), if_neg (by rw [h1]; simp), List.append_nil]
   refine S3 ?_
   rw [← e]
   refine S1 ?_; refine Oar ?_; refine Omv ?_; refine S1 ?_
   exact ag (⟨i + 1, v, rfl, rfl, by omega⟩)
 ·
  replace h0 := nm h0
  obtain rfl : i = L.length := by omega
  rw [List.take_length]
  refine S7 ?_; refine Omv ?_; refine Oas ?_; refine S3 ?_
  refine Done.retR (rs := [.tmp 2]) (H' := H) rfl (.tmp rfl (.nil)) (.cons (AVle.asL _ _) .nil) (by repeat (first | exact List.Sublist.refl _ | refine List.Sublist.cons _ ?_)) ?_
  exact ⟨by rfl, rfl⟩
theorem p216 (W : FW) (L : List Fact) (hL : ∀ x ∈ L, splitOk x) (ho : W.owner.length ≤ 40) (arg : Int) (path : List Int) (hp : path.length ≤ 100) : PCall Tryz.prog 216 [AV.rspot W L arg path] (AV.ints (slotsR W L arg path)) := by
 intro H
 refine ACall.mk' (n := 54) Tryz.func216 rfl (by kernel_rfl) rfl rfl (fun B I w0 => ?_)
 refine CW.boundA (t := 0) (i := 2) rfl rfl (fun hb0 => ?_)
 refine S2 ?_; refine Obx ?_; refine Oas ?_; refine S4 ?_; refine Oas ?_; refine S4 ?_
 refine CW.ownNil 3 3 1 rfl ?_
 refine S1 ?_; refine Ofa ?_; refine Ofa ?_; refine Old ?_; refine Oln ?_; refine Omv ?_; refine S3 ?_
 refine lj (fun m st => ∃ (k : Nat) (v : Value), st = ⟨[(14, .i k), (13, .i W.owner.length), (3, .as (AV.ints (slotsN L arg path k)) v), (1, .ptr (rspotCells W L arg path))], .own 3 1 v :: H⟩ ∧ m = W.owner.length - k ∧ k ≤ W.owner.length) (⟨0, _, rfl, rfl, by omega⟩) ?_
 rintro m _ ⟨k, v, rfl, rfl, hk⟩
 refine S2 ?_; refine Ocm ?_; refine S3 ?_
 refine CW.cond rfl (fun h0 => ?_) (fun h0 => ?_)
 ·
  replace h0 := nm h0
  have hsl := slotsN_len L arg path k
  refine S6 ?_; refine Omv ?_; refine Oas ?_; refine S4 ?_; refine Oas ?_; refine S5 ?_; refine Ofa ?_; refine Old ?_; refine Oln ?_; refine Omv ?_; refine S3 ?_
  refine lj (fun m st => ∃ (i : Nat), st = ⟨[(20, .i i), (19, .i L.length), (18, AV.facts L), (5, .b ((L.take i).any (wayR arg (path ++ [(k : Int)])))), (4, .i k), (14, .i k), (13, .i W.owner.length), (3, .as (AV.ints (slotsN L arg path k)) v), (1, .ptr (rspotCells W L arg path))], .own 3 1 v :: H⟩ ∧ m = L.length - i ∧ i ≤ L.length) (⟨0, rfl, rfl, by omega⟩) ?_
  rintro m _ ⟨i, rfl, rfl, hi⟩
  refine S2 ?_; refine Ocm ?_; refine S3 ?_
  refine CW.cond rfl (fun h1 => ?_) (fun h1 => ?_)
  ·
   replace h1 := nm h1
   refine S6 ?_; refine Oix ?_; refine Ola ?_
   refine OL.alC rfl rfl rfl rfl (fun b0 => ?_)
   refine Sto ?_; refine S4 ?_; refine Ola ?_
   refine OL.popC rfl rfl rfl (POp.call (.mk' rfl rfl rfl rfl rfl) (p214 (L.getD i default) (hL (L.getD i default) (getD_mem (by omega))))) ?_
   refine Omv ?_; refine Oex ?_; refine Oex ?_
   refine OL.alC rfl rfl rfl rfl (fun b1 => ?_)
   refine Sto ?_; refine Oas ?_; refine S2 ?_
   refine CW.dp mixed ?_
   refine DP.one (k := 0) (by decide +kernel) rfl ?_
   refine Omv ?_
   refine OL.nil (Done.dp ?_)
   refine DP.one (k := 1) (by decide +kernel) rfl ?_
   refine Omv ?_
   refine OL.nil (Done.dp ?_)
   refine DP.anyC 2 6 54 rfl (by decide +kernel) rfl rfl (by decide +kernel) ?_
   refine AD.guardC rfl rfl rfl rfl rfl (fun hg => (by first | exact POp.fa rfl rfl rfl rfl | exact POp.faP rfl rfl rfl rfl)) ?_
   refine AD.guardC rfl rfl rfl rfl rfl (fun hg => (by first | exact POp.ld1 rfl rfl (gd hg) rfl | (apply POp.ld1H rfl rfl (gd hg); (case hm => repeat (first | exact .head _ | refine .tail _ ?_)); (case hy => rfl)))) ?_
   refine AD.guardC rfl rfl rfl rfl rfl (fun hg => (by first | exact POp.fa rfl rfl rfl rfl | exact POp.faP rfl rfl rfl rfl)) ?_
   refine AD.guardC rfl rfl rfl rfl rfl (fun hg => (by first | exact POp.ld1 rfl rfl (gd hg) rfl | (apply POp.ld1H rfl rfl (gd hg); (case hm => repeat (first | exact .head _ | refine .tail _ ?_)); (case hy => rfl)))) ?_
   refine AD.nil ?_
   refine DP.one (k := 6) (by decide +kernel) rfl ?_
   refine Pcm ?_
   refine OL.nil (Done.dp ?_)
   refine DP.one (k := 7) (by decide +kernel) rfl ?_
   refine Pmv ?_
   refine OL.nil (Done.dp ?_)
   refine DP.anyC 8 14 54 rfl (by decide +kernel) rfl rfl (by decide +kernel) ?_
   refine AD.guardC rfl rfl rfl rfl rfl (fun hg => (by first | exact POp.fa rfl rfl rfl rfl | exact POp.faP rfl rfl rfl rfl)) ?_
   refine AD.guardC rfl rfl rfl rfl rfl (fun hg => (by first | exact POp.ld1 rfl rfl (gd hg) rfl | (apply POp.ld1H rfl rfl (gd hg); (case hm => repeat (first | exact .head _ | refine .tail _ ?_)); (case hy => rfl)))) ?_
   refine AD.guardC rfl rfl rfl rfl rfl (fun hg => (by first | exact POp.ldA rfl rfl rfl rfl | (apply POp.ldAH rfl rfl rfl; (case hm => repeat (first | exact .head _ | refine .tail _ ?_)); (case hy => rfl); (case hn => rfl)))) ?_
   refine AD.guardC rfl rfl rfl rfl rfl (fun hg => POp.move rfl rfl rfl) ?_
   refine AD.guardC rfl rfl rfl rfl rfl (fun hg => POp.call (.mk' rfl rfl rfl rfl (by first | rfl | ((repeat (first | exact hg | rfl | refine Bool.and_eq_true_iff.2 ⟨?_, ?_⟩)); done) | simp_all [strip, constAV])) (p217 W L arg path k (by omega))) ?_
   refine AD.guardC rfl rfl rfl rfl rfl (fun hg => POp.fieldV rfl rfl (gd hg) rfl) ?_
   refine AD.nil ?_
   refine DP.tailC 14 (by decide +kernel) rfl ?_
   refine OL.guardC rfl rfl rfl rfl rfl rfl (fun hg => POp.call (.mk' rfl rfl rfl rfl (by first | rfl | ((repeat (first | exact hg | rfl | refine Bool.and_eq_true_iff.2 ⟨?_, ?_⟩)); done) | simp_all [strip, constAV])) (p224 (spR (L.getD i default)).1.path (path ++ [(k : Int)]))) ?_
   refine Ppk ?_; refine Opk ?_; refine Oas ?_; refine S4 ?_; refine Oar ?_; refine Omv ?_; refine S1 ?_
   exact ag (⟨i + 1, by rw [any_take (by omega), ← way_bif], rfl, by omega⟩)
  ·
   replace h1 := nm h1
   obtain rfl : i = L.length := by omega
   rw [List.take_length]
   refine S7 ?_; refine Omv ?_; refine S2 ?_
   refine CW.cond rfl (fun h2 => ?_) (fun h2 => ?_)
   ·
    have e := slotsN_yes h2
    refine S1 ?_; refine Omv ?_; refine Omv ?_
    refine OL.popC rfl rfl rfl (POp.row rfl rfl (by first | rfl | simp_all [strip]) rfl rfl rfl rfl rfl rfl) ?_
    refine OL.appendC rfl rfl rfl rfl rfl rfl rfl rfl (AVle.refl _) (rfl) (fun v => by repeat (first | exact Upd.head _ _ _ | apply Upd.tail)) (by show (List.length (List.map _ _) + 1) * 8 ≤ _; rw [List.length_map]; omega) (by show List.length (List.map _ _) + 1 ≤ _; rw [List.length_map]; omega) (fun v51 => ?_)
    refine Oas ?_; refine S3 ?_
    refine CW.le 3 (y := .as (AV.ints (slotsN L arg path (k + 1))) v51) rfl (by rw [e, AV.ints, List.map_append]; exact AVle.refl _) ?_
    refine S1 ?_; refine Oar ?_; refine Omv ?_; refine S1 ?_
    exact ag (⟨k + 1, v51, rfl, rfl, by omega⟩)
   ·
    have e := slotsN_no h2
    refine S3 ?_
    rw [← e]
    refine S1 ?_; refine Oar ?_; refine Omv ?_; refine S1 ?_
    exact ag (⟨k + 1, v, rfl, rfl, by omega⟩)
 ·
  replace h0 := nm h0
  obtain rfl : k = W.owner.length := by omega
  refine S7 ?_; refine Omv ?_; refine Oas ?_; refine S3 ?_
  refine Done.retR (rs := [.tmp 2]) (H' := H) rfl (.tmp rfl (.nil)) (.cons (AVle.asL _ _) .nil) (by repeat (first | exact List.Sublist.refl _ | refine List.Sublist.cons _ ?_)) ?_
  exact ⟨by rfl, rfl⟩
theorem p215 (W : FW) (L : List Fact) (hL : ∀ x ∈ L, splitOk x) (ho : W.owner.length ≤ 40) (arg : Int) (path : List Int) (hp : path.length ≤ 100) : PCall Tryz.prog 215 [AV.rspot W L arg path] (.b (endsR W L arg path)) := by
 intro H
 refine ACall.mk' (n := 18) Tryz.func215 rfl (by kernel_rfl) rfl rfl (fun B I w0 => ?_)
 refine S2 ?_; refine Obx ?_; refine Oas ?_; refine S5 ?_; refine Ola ?_
 refine OL.popC rfl rfl rfl (POp.call (.mk' rfl rfl rfl rfl rfl) (p216 W L hL ho arg path hp)) ?_
 refine Oln ?_; refine Omv ?_; refine S3 ?_
 refine lj (fun m st => ∃ i : Nat, st = ⟨[(8, .i i), (7, .i (slotsR W L arg path).length), (6, AV.ints (slotsR W L arg path)), (1, .ptr (rspotCells W L arg path))], H⟩ ∧ m = (slotsR W L arg path).length - i ∧ i ≤ (slotsR W L arg path).length ∧ ((slotsR W L arg path).take i).all (fun s => bareR L arg (path ++ [s])) = true) (⟨0, rfl, rfl, by omega, rfl⟩) ?_
 rintro m _ ⟨i, rfl, rfl, hi, hall⟩
 refine S1 ?_
 refine CW.boundM (t := 6) rfl (fun hb => ?_)
 refine S1 ?_; refine Ocm ?_; refine S3 ?_
 refine CW.cond rfl (fun h0 => ?_) (fun h0 => ?_)
 ·
  replace h0 := nm h0
  refine S6 ?_; refine Oix ?_; refine Old ?_; refine Oas ?_; refine S4 ?_; refine Ola ?_; refine Omv ?_
  refine OL.popC rfl rfl rfl (POp.call (.mk' rfl rfl rfl rfl rfl) (p217 W L arg path _ (by omega))) ?_
  refine OL.popC rfl rfl rfl (POp.call (.mk' rfl rfl rfl rfl rfl) (p218 W L hL arg _)) ?_
  refine Ont ?_; refine S2 ?_
  refine CW.cond rfl (fun h1 => ?_) (fun h1 => ?_)
  ·
   replace h1 := nm h1
   refine S2 ?_; refine Oas ?_; refine S8 ?_
   refine r1 2 (H) ?_
   exact ⟨retB (by rw [endsR]; symm; rw [List.all_eq_false]; exact ⟨(slotsR W L arg path).getD i default, getD_mem (by omega), by simpa using h1⟩), rfl⟩
  ·
   replace h1 := nm h1
   refine S4 ?_; refine Oar ?_; refine Omv ?_; refine S1 ?_
   exact ag (⟨i + 1, rfl, rfl, by omega, by rw [← take_getD (by omega), List.all_append, hall]; simpa using h1⟩)
 ·
  replace h0 := nm h0
  obtain rfl : i = (slotsR W L arg path).length := by omega
  rw [List.take_length] at hall
  refine S7 ?_; refine Oas ?_; refine S3 ?_
  refine r1 2 (H) ?_
  exact ⟨retB (by rw [endsR, hall]), rfl⟩
structure RLit (W : FW) (x : Fact) : Prop where
 split : splitOk x
 op : 2 ≤ (spR x).1.op ∧ (spR x).1.op ≤ 4
 cls : (spR x).1.op = 2 → 0 ≤ (spR x).1.cls ∧ (spR x).1.cls < 3 + W.parents.length
 n : -1000000000 ≤ (spR x).1.n ∧ (spR x).1.n ≤ 1000000000
 path : (spR x).1.path.length ≤ 2
abbrev RS := Int × Int × List Int
def maxI (a b : Int) : Int := if b > a then b else a
def minI (a b : Int) : Int := if b < a then b else a
def intStep (s : RS) (x : Fact) : Option RS :=
 if (spR x).1.op = 2 then (if (decide ((spR x).1.cls > 1) != (spR x).2) = true then none else some s)
 else if (spR x).1.op = 3 then (if (spR x).2 = true then some (maxI s.1 (spR x).1.n, s.2.1, s.2.2) else some (s.1, minI s.2.1 ((spR x).1.n - 1), s.2.2))
 else if (spR x).2 = true then some (s.1, s.2.1, s.2.2 ++ [(spR x).1.n])
 else some (maxI s.1 (spR x).1.n, minI s.2.1 (spR x).1.n, s.2.2)
def intR : List Fact → RS → Option RS
 | [], s => some s
 | x :: r, s => match intStep s x with
  | none => none
  | some t => intR r t
def rs0 : RS := (-1000000000, 1000000000, [])
def integerR (W : FW) (L : List Fact) (arg : Int) (path : List Int) : Int × Bool :=
 match intR (onR L arg path) rs0 with
 | none => (0, false)
 | some s => if freeK s.2.2 s.1 ≤ s.2.1 then (freeK s.2.2 s.1, endsR W L arg path) else (0, false)
def isNone (x : Fact) : Bool := (spR x).1.op == 2 && ((spR x).1.cls == 0 || (spR x).1.cls == 2)
def noneR (W : FW) (L : List Fact) (arg : Int) (path : List Int) : Bool := ((onR L arg path).all fun x => !(isNone x == (spR x).2)) && endsR W L arg path
theorem intR_drop {l : List Fact} {i : Nat} {s : RS} (h : i < l.length) : intR (l.drop i) s = match intStep s (l.getD i default) with
  | none => none
  | some t => intR (l.drop (i + 1)) t := by
 rw [List.drop_eq_getElem_cons h, intR, getD_lt h]
theorem on_mem {L : List Fact} {arg : Int} {path : List Int} {x : Fact} (h : x ∈ onR L arg path) : x ∈ L := (List.mem_filter.1 h).1
theorem on_len (L : List Fact) (arg : Int) (path : List Int) : (onR L arg path).length ≤ L.length := List.length_filter_le _ _
theorem freeF_ge (nots : List Int) : ∀ (f : Nat) (n : Int), n ≤ freeF nots f n
 | 0, n => by rw [freeF]; omega
 | f + 1, n => by rw [freeF]; split; (· have := freeF_ge nots f (n + 1); omega); (· omega)
theorem freeK_ge (nots : List Int) (n : Int) : n ≤ freeK nots n := freeF_ge nots _ n
theorem free_snoc (l : List Int) (x n : Int) : (!(l ++ [x]).contains n) = bif !l.contains n then x != n else false := by
 rw [List.contains_eq_any_beq, List.contains_eq_any_beq, List.any_append, bif_and, Bool.not_or]
 congr 1
 simp [bne, BEq.comm]
theorem int_is {s : RS} {x : Fact} (h : (spR x).1.op = 2) (h2 : (decide ((spR x).1.cls > 1) != (spR x).2) = false) : intStep s x = some s := by rw [intStep, if_pos h, if_neg (by rw [h2]; simp)]
theorem int_isno {s : RS} {x : Fact} (h : (spR x).1.op = 2) (h2 : (decide ((spR x).1.cls > 1) != (spR x).2) = true) : intStep s x = none := by rw [intStep, if_pos h, if_pos h2]
theorem int_ge {s : RS} {x : Fact} (h : (bif (spR x).1.op == 3 then (spR x).2 else false) = true) : intStep s x = some (maxI s.1 (spR x).1.n, s.2.1, s.2.2) := by
 rw [bif_and, Bool.and_eq_true, beq_iff_eq] at h
 rw [intStep, if_neg (by omega), if_pos h.1, if_pos h.2]
theorem int_lt {s : RS} {x : Fact} (h : (bif (spR x).1.op == 3 then (spR x).2 else false) = false) (h3 : (spR x).1.op = 3) : intStep s x = some (s.1, minI s.2.1 ((spR x).1.n - 1), s.2.2) := by
 rw [bif_and, Bool.and_eq_false_iff, beq_eq_false_iff_ne] at h
 have h4 : (spR x).2 = false := h.resolve_left (by omega)
 rw [intStep, if_neg (by omega), if_pos h3, if_neg (by rw [h4]; simp)]
theorem int_no {s : RS} {x : Fact} (h2 : ¬ (spR x).1.op = 2) (h3 : ¬ (spR x).1.op = 3) (h : (spR x).2 = true) : intStep s x = some (s.1, s.2.1, s.2.2 ++ [(spR x).1.n]) := by rw [intStep, if_neg h2, if_neg h3, if_pos h]
theorem int_eq {s : RS} {x : Fact} (h2 : ¬ (spR x).1.op = 2) (h3 : ¬ (spR x).1.op = 3) (h : (spR x).2 = false) : intStep s x = some (maxI s.1 (spR x).1.n, minI s.2.1 (spR x).1.n, s.2.2) := by rw [intStep, if_neg h2, if_neg h3, if_neg (by rw [h]; simp)]
theorem p187 (W : FW) (L : List Fact) (hL : ∀ x ∈ L, RLit W x) (hl : L.length ≤ 1000) (ho : W.owner.length ≤ 40) (arg : Int) (path : List Int) (hp : path.length ≤ 100) : PCall Tryz.prog 187 [AV.rspot W L arg path] (.tup [.i (integerR W L arg path).1, .b (integerR W L arg path).2]) := by
 intro H
 refine ACall.mk' (n := 95) Tryz.func187 rfl (by kernel_rfl) rfl rfl (fun B I w0 => ?_)
 have hol := on_len L arg path
 refine S2 ?_; refine Obx ?_; refine Oas ?_; refine Oas ?_; refine S4 ?_; refine Oas ?_; refine Oas ?_; refine S4 ?_; refine Oas ?_; refine S4 ?_
 refine CW.ownNil 6 3 1 rfl ?_
 refine S1 ?_; refine Ola ?_
 refine OL.popC rfl rfl rfl (POp.call (.mk' rfl rfl rfl rfl rfl) (p213 W L (fun x hx => (hL x hx).split) hl arg path)) ?_
 refine Oln ?_; refine Omv ?_; refine S3 ?_
 refine lj (fun m st => ∃ (i : Nat) (s : RS) (v : Value), st = ⟨[(18, .i i), (17, .i (onR L arg path).length), (16, AV.facts (onR L arg path)), (6, .as (AV.ints s.2.2) v), (5, .i s.2.1), (4, .i s.1), (1, .ptr (rspotCells W L arg path))], .own 3 1 v :: H⟩ ∧ m = (onR L arg path).length - i ∧ i ≤ (onR L arg path).length ∧ intR ((onR L arg path).drop i) s = intR (onR L arg path) rs0 ∧ -1000000000 ≤ s.1 ∧ s.1 ≤ 1000000000 ∧ -1000000001 ≤ s.2.1 ∧ s.2.1 ≤ 1000000000 ∧ s.2.2.length ≤ i) (⟨0, rs0, _, rfl, rfl, by omega, rfl, by decide, by decide, by decide, by decide, by decide⟩) ?_
 rintro m _ ⟨i, s, v, rfl, rfl, hi, hR, hb⟩
 refine S2 ?_; refine Ocm ?_; refine S3 ?_
 refine CW.cond rfl (fun h0 => ?_) (fun h0 => ?_)
 ·
  replace h0 := nm h0
  have hx := hL ((onR L arg path).getD i default) (on_mem (getD_mem (by omega)))
  have hxn := hx.n
  refine S6 ?_; refine Oix ?_; refine Ola ?_
  refine OL.alC rfl rfl rfl rfl (fun b0 => ?_)
  refine Sto ?_; refine S4 ?_; refine Ola ?_
  refine OL.popC rfl rfl rfl (POp.call (.mk' rfl rfl rfl rfl rfl) (p214 ((onR L arg path).getD i default) hx.split)) ?_
  refine Omv ?_; refine Oex ?_; refine Oex ?_
  refine OL.alC rfl rfl rfl rfl (fun b1 => ?_)
  refine Sto ?_; refine Oas ?_; refine S5 ?_; refine Ofa ?_; refine Old ?_; refine Ocm ?_; refine Oas ?_; refine S2 ?_
  refine CW.cond rfl (fun h1 => ?_) (fun h1 => ?_)
  ·
   replace h1 := nm h1
   refine S2 ?_; refine Ofa ?_; refine Old ?_; refine Ocm ?_; refine Omv ?_; refine Onb ?_; refine S2 ?_
   refine CW.cond rfl (fun h2 => ?_) (fun h2 => ?_)
   ·
    refine S2 ?_; refine Oas ?_; refine Oas ?_; refine S9 ?_
    refine Done.retR (rs := [.tmp 2, .tmp 3]) (H' := H) rfl (.tmp rfl (.tmp rfl (.nil))) (AVleL.refl _) (by repeat (first | exact List.Sublist.refl _ | refine List.Sublist.cons _ ?_)) ?_
    exact ⟨by rw [intR_drop (by omega), int_isno h1 h2] at hR; rw [integerR, ← hR]; rfl, rfl⟩
   ·
    refine S4 ?_
    refine S1 ?_; refine Oar ?_; refine Omv ?_; refine S1 ?_
    exact ag (⟨i + 1, s, v, rfl, rfl, by omega, by rw [intR_drop (by omega), int_is h1 h2] at hR; exact hR, by first | exact ⟨hb.1, hb.2.1, hb.2.2.1, hb.2.2.2.1, by omega⟩ | (simp only [maxI, minI, List.length_append, List.length_cons, List.length_nil]; split <;> (try split) <;> omega) | (simp only [maxI, minI, List.length_append, List.length_cons, List.length_nil]; omega)⟩)
  ·
   replace h1 := nm h1
   refine S2 ?_; refine Ofa ?_; refine Old ?_; refine Ocm ?_; refine Omv ?_; refine Pmv ?_; refine Opk ?_; refine Oas ?_; refine S2 ?_
   refine CW.cond rfl (fun h3 => ?_) (fun h3 => ?_)
   ·
    replace h3 := nm h3
    refine S1 ?_; refine Omv ?_; refine Ofa ?_; refine Old ?_
    refine OL.popC rfl rfl rfl (POp.max2 rfl rfl rfl rfl rfl rfl) ?_
    refine Oas ?_; refine S4 ?_
    refine S1 ?_; refine Oar ?_; refine Omv ?_; refine S1 ?_
    exact ag (⟨i + 1, (maxI s.1 (spR ((onR L arg path).getD i default)).1.n, s.2.1, s.2.2), v, rfl, rfl, by omega, by rw [intR_drop (by omega), int_ge h3] at hR; exact hR, by first | exact ⟨hb.1, hb.2.1, hb.2.2.1, hb.2.2.2.1, by omega⟩ | (simp only [maxI, minI, List.length_append, List.length_cons, List.length_nil]; split <;> (try split) <;> omega) | (simp only [maxI, minI, List.length_append, List.length_cons, List.length_nil]; omega)⟩)
   ·
    replace h3 := nm h3
    refine S2 ?_; refine Ofa ?_; refine Old ?_; refine Ocm ?_; refine Oas ?_; refine S2 ?_
    refine CW.cond rfl (fun h4 => ?_) (fun h4 => ?_)
    ·
     replace h4 := nm h4
     refine S1 ?_; refine Omv ?_; refine Ofa ?_; refine Old ?_; refine Oar ?_
     refine OL.popC rfl rfl rfl (POp.min2 rfl rfl rfl rfl rfl rfl) ?_
     refine Oas ?_; refine S4 ?_
     refine S1 ?_; refine Oar ?_; refine Omv ?_; refine S1 ?_
     exact ag (⟨i + 1, (s.1, minI s.2.1 ((spR ((onR L arg path).getD i default)).1.n - 1), s.2.2), v, rfl, rfl, by omega, by rw [intR_drop (by omega), int_lt h3 h4] at hR; exact hR, by first | exact ⟨hb.1, hb.2.1, hb.2.2.1, hb.2.2.2.1, by omega⟩ | (simp only [maxI, minI, List.length_append, List.length_cons, List.length_nil]; split <;> (try split) <;> omega) | (simp only [maxI, minI, List.length_append, List.length_cons, List.length_nil]; omega)⟩)
    ·
     replace h4 := nm h4
     refine S2 ?_; refine Omv ?_; refine Oas ?_; refine S2 ?_
     refine CW.cond rfl (fun h5 => ?_) (fun h5 => ?_)
     ·
      replace h5 := nm h5
      refine S1 ?_; refine Omv ?_; refine Ofa ?_; refine Old ?_
      refine OL.popC rfl rfl rfl (POp.row rfl rfl (by first | rfl | simp_all [strip]) rfl rfl rfl rfl rfl rfl) ?_
      refine OL.appendC rfl rfl rfl rfl rfl rfl rfl rfl (AVle.refl _) (rfl) (fun v => by repeat (first | exact Upd.head _ _ _ | apply Upd.tail)) (by show (List.length (List.map _ _) + 1) * 8 ≤ _; rw [List.length_map]; omega) (by show List.length (List.map _ _) + 1 ≤ _; rw [List.length_map]; omega) (fun v70 => ?_)
      refine Oas ?_; refine S4 ?_
      refine CW.le 6 (y := .as (AV.ints (s.2.2 ++ [(spR ((onR L arg path).getD i default)).1.n])) v70) rfl (by rw [AV.ints, List.map_append]; exact AVle.refl _) ?_
      refine S1 ?_; refine Oar ?_; refine Omv ?_; refine S1 ?_
      exact ag (⟨i + 1, (s.1, s.2.1, s.2.2 ++ [(spR ((onR L arg path).getD i default)).1.n]), v70, rfl, rfl, by omega, by rw [intR_drop (by omega), int_no h1 h4 h5] at hR; exact hR, by first | exact ⟨hb.1, hb.2.1, hb.2.2.1, hb.2.2.2.1, by omega⟩ | (simp only [maxI, minI, List.length_append, List.length_cons, List.length_nil]; split <;> (try split) <;> omega) | (simp only [maxI, minI, List.length_append, List.length_cons, List.length_nil]; omega)⟩)
     ·
      replace h5 := nm h5
      refine CW.dp mixed ?_
      refine DP.anyWC (.i (maxI s.1 (spR ((onR L arg path).getD i default)).1.n)) 4 8 0 9 95 rfl rfl (by decide +kernel) (by decide +kernel) rfl rfl (by decide +kernel) ?_
      refine TD.popW0 (by decide +kernel) (by decide +kernel) rfl rfl rfl rfl (POp.move rfl rfl rfl) ?_
      refine TD.popW0 (by decide +kernel) (by decide +kernel) rfl rfl rfl rfl ((by first | exact POp.fa rfl rfl rfl rfl | exact POp.faP rfl rfl rfl rfl)) ?_
      refine TD.popW0 (by decide +kernel) (by decide +kernel) rfl rfl rfl rfl ((by first | exact POp.ld1 rfl rfl rfl rfl | (apply POp.ld1H rfl rfl rfl; (case hm => repeat (first | exact .head _ | refine .tail _ ?_)); (case hy => rfl)))) ?_
      refine TD.popW0 (by decide +kernel) (by decide +kernel) rfl rfl rfl rfl (POp.max2 rfl rfl rfl rfl rfl rfl) ?_
      refine TD.popW (by decide +kernel) rfl rfl rfl rfl (POp.move rfl rfl rfl) ?_
      refine TD.popW (by decide +kernel) rfl rfl rfl rfl ((by first | exact POp.fa rfl rfl rfl rfl | exact POp.faP rfl rfl rfl rfl)) ?_
      refine TD.popW (by decide +kernel) rfl rfl rfl rfl ((by first | exact POp.ld1 rfl rfl rfl rfl | (apply POp.ld1H rfl rfl rfl; (case hm => repeat (first | exact .head _ | refine .tail _ ?_)); (case hy => rfl)))) ?_
      refine TD.popW (by decide +kernel) rfl rfl rfl rfl (POp.min2 rfl rfl rfl rfl rfl rfl) ?_
      refine TD.assW (by decide +kernel) (by decide +kernel) rfl rfl rfl (POp.assign rfl rfl rfl) ?_
      refine TD.nil ⟨rfl, ?_⟩
      refine DP.tailC 9 (by decide +kernel) rfl ?_
      refine Oas ?_; refine S4 ?_
      refine S1 ?_; refine Oar ?_; refine Omv ?_; refine S1 ?_
      exact ag (⟨i + 1, (maxI s.1 (spR ((onR L arg path).getD i default)).1.n, minI s.2.1 (spR ((onR L arg path).getD i default)).1.n, s.2.2), v, rfl, rfl, by omega, by rw [intR_drop (by omega), int_eq h1 h4 h5] at hR; exact hR, by first | exact ⟨hb.1, hb.2.1, hb.2.2.1, hb.2.2.2.1, by omega⟩ | (simp only [maxI, minI, List.length_append, List.length_cons, List.length_nil]; split <;> (try split) <;> omega) | (simp only [maxI, minI, List.length_append, List.length_cons, List.length_nil]; omega)⟩)
 ·
  replace h0 := nm h0
  obtain rfl : i = (onR L arg path).length := by omega
  rw [List.drop_length, intR] at hR
  refine S7 ?_
  refine CW.le 6 (y := AV.ints s.2.2) rfl (AVle.asL _ _) ?_
  refine S1 ?_; refine Omv ?_; refine Oas ?_; refine S3 ?_
  refine lj (fun m st => ∃ (n : Int), st = ⟨[(11, .i n), (6, AV.ints s.2.2), (5, .i s.2.1), (1, .ptr (rspotCells W L arg path))], H⟩ ∧ m = (s.2.1 + 1 - n).toNat ∧ s.1 ≤ n ∧ n ≤ 1000000001 ∧ freeK s.2.2 n = freeK s.2.2 s.1) (⟨s.1, rfl, rfl, by omega, by omega, rfl⟩) ?_
  rintro m _ ⟨n, rfl, rfl, hn, hn1, hfk⟩
  refine S3 ?_; refine Omv ?_; refine Omv ?_; refine Ocm ?_; refine S2 ?_
  refine CW.cond rfl (fun h6 => ?_) (fun h6 => ?_)
  ·
   replace h6 := nm h6
   refine S6 ?_; refine Oas ?_; refine S5 ?_; refine Omv ?_; refine Oln ?_; refine Omv ?_; refine S3 ?_
   refine lj (fun m st => ∃ (q : Nat) (fr : Bool), st = ⟨[(80, .i q), (79, .i s.2.2.length), (78, AV.ints s.2.2), (12, .b fr), (11, .i n), (6, AV.ints s.2.2), (5, .i s.2.1), (1, .ptr (rspotCells W L arg path))], H⟩ ∧ m = s.2.2.length - q ∧ q ≤ s.2.2.length ∧ fr = !(s.2.2.take q).contains n) (⟨0, true, rfl, rfl, by omega, rfl⟩) ?_
   rintro m _ ⟨q, fr, rfl, rfl, hq, hfr⟩
   refine S2 ?_; refine Ocm ?_; refine S3 ?_
   refine CW.cond rfl (fun h7 => ?_) (fun h7 => ?_)
   ·
    replace h7 := nm h7
    refine S6 ?_; refine Oix ?_; refine Old ?_; refine Oas ?_; refine S3 ?_; refine Omv ?_; refine Omv ?_; refine Pmv ?_; refine Pmv ?_; refine Pcm ?_; refine Opk ?_; refine Oas ?_
    refine S4 ?_; refine Oar ?_; refine Omv ?_; refine S1 ?_
    exact ag (⟨q + 1, bif fr then s.2.2.getD q default != n else false, rfl, rfl, by omega, by rw [← take_getD (show q < s.2.2.length by omega), free_snoc, ← hfr]⟩)
   ·
    replace h7 := nm h7
    obtain rfl : q = s.2.2.length := by omega
    rw [List.take_length] at hfr
    subst hfr
    refine S7 ?_; refine Omv ?_; refine S2 ?_
    refine CW.cond rfl (fun h8 => ?_) (fun h8 => ?_)
    ·
     have hfr : s.2.2.contains n = false := by simpa only [Bool.not_eq_true'] using h8
     refine S2 ?_; refine Omv ?_; refine Ola ?_
     refine OL.popC rfl rfl rfl (POp.call (.mk' rfl rfl rfl rfl rfl) (p215 W L (fun x hx => (hL x hx).split) ho arg path hp)) ?_
     refine Oas ?_; refine Oas ?_; refine S8 ?_
     refine Done.retR (rs := [.tmp 2, .tmp 3]) (H' := H) rfl (.tmp rfl (.tmp rfl (.nil))) (AVleL.refl _) (by repeat (first | exact List.Sublist.refl _ | refine List.Sublist.cons _ ?_)) ?_
     exact ⟨by rw [freeK_done hfr] at hfk; rw [integerR, ← hR]; simp only []; rw [← hfk, if_pos (by omega)]; rfl, rfl⟩
    ·
     have hfr : s.2.2.contains n = true := by simpa only [Bool.not_eq_false'] using h8
     refine S4 ?_; refine Omv ?_; refine Oar ?_; refine Oas ?_; refine S1 ?_
     exact ag (⟨n + 1, rfl, rfl, by omega, by omega, by rw [← hfk, freeK_step hfr]⟩)
  ·
   replace h6 := nm h6
   have hge := freeK_ge s.2.2 n
   refine S7 ?_; refine Oas ?_; refine Oas ?_; refine S3 ?_
   refine Done.retR (rs := [.tmp 2, .tmp 3]) (H' := H) rfl (.tmp rfl (.tmp rfl (.nil))) (AVleL.refl _) (by repeat (first | exact List.Sublist.refl _ | refine List.Sublist.cons _ ?_)) ?_
   exact ⟨by rw [integerR, ← hR]; simp only []; rw [if_neg (by omega)]; rfl, rfl⟩
theorem none_bif (x : Fact) : (bif (spR x).1.op == 2 then bif (spR x).1.cls == 0 then true else (spR x).1.cls == 2 else false) = isNone x := by rw [bif_and, bif_or, isNone]
theorem p188 (W : FW) (L : List Fact) (hL : ∀ x ∈ L, RLit W x) (hl : L.length ≤ 1000) (ho : W.owner.length ≤ 40) (arg : Int) (path : List Int) (hp : path.length ≤ 100) : PCall Tryz.prog 188 [AV.rspot W L arg path] (.b (noneR W L arg path)) := by
 intro H
 refine ACall.mk' (n := 39) Tryz.func188 rfl (by kernel_rfl) rfl rfl (fun B I w0 => ?_)
 have hol := on_len L arg path
 refine S2 ?_; refine Obx ?_; refine Oas ?_; refine S5 ?_; refine Ola ?_
 refine OL.popC rfl rfl rfl (POp.call (.mk' rfl rfl rfl rfl rfl) (p213 W L (fun x hx => (hL x hx).split) hl arg path)) ?_
 refine Oln ?_; refine Omv ?_; refine S3 ?_
 refine lj (fun m st => ∃ (i : Nat), st = ⟨[(11, .i i), (10, .i (onR L arg path).length), (9, AV.facts (onR L arg path)), (1, .ptr (rspotCells W L arg path))], H⟩ ∧ m = (onR L arg path).length - i ∧ i ≤ (onR L arg path).length ∧ ((onR L arg path).take i).all (fun x => !(isNone x == (spR x).2)) = true) (⟨0, rfl, rfl, by omega, rfl⟩) ?_
 rintro m _ ⟨i, rfl, rfl, hi, hall⟩
 refine S2 ?_; refine Ocm ?_; refine S3 ?_
 refine CW.cond rfl (fun h0 => ?_) (fun h0 => ?_)
 ·
  replace h0 := nm h0
  have hx := hL ((onR L arg path).getD i default) (on_mem (getD_mem (by omega)))
  refine S6 ?_; refine Oix ?_; refine Ola ?_
  refine OL.alC rfl rfl rfl rfl (fun b0 => ?_)
  refine Sto ?_; refine S4 ?_; refine Ola ?_
  refine OL.popC rfl rfl rfl (POp.call (.mk' rfl rfl rfl rfl rfl) (p214 ((onR L arg path).getD i default) hx.split)) ?_
  refine Omv ?_; refine Oex ?_; refine Oex ?_
  refine OL.alC rfl rfl rfl rfl (fun b1 => ?_)
  refine Sto ?_; refine Oas ?_; refine S4 ?_; refine Ofa ?_; refine Old ?_; refine Ocm ?_; refine Omv ?_; refine Pfa ?_; refine Pld ?_; refine Pcm ?_; refine Pmv ?_; refine Pfa ?_
  refine Pld ?_; refine Pcm ?_; refine Ppk ?_; refine Opk ?_; refine Oas ?_; refine S4 ?_; refine Omv ?_; refine Omv ?_; refine Oeb ?_; refine S2 ?_
  refine CW.cond rfl (fun h1 => ?_) (fun h1 => ?_)
  ·
   rw [none_bif] at h1
   refine S2 ?_; refine Oas ?_; refine S8 ?_
   refine r1 2 (H) ?_
   exact ⟨retB (by rw [noneR]; symm; rw [Bool.and_eq_false_iff]; left; rw [List.all_eq_false]; exact ⟨(onR L arg path).getD i default, getD_mem (by omega), by rw [h1]; simp⟩), rfl⟩
  ·
   rw [none_bif] at h1
   refine S4 ?_; refine Oar ?_; refine Omv ?_; refine S1 ?_
   exact ag (⟨i + 1, rfl, rfl, by omega, by rw [← take_getD (show i < (onR L arg path).length by omega), List.all_append, hall, List.all_cons, h1]; rfl⟩)
 ·
  replace h0 := nm h0
  obtain rfl : i = (onR L arg path).length := by omega
  rw [List.take_length] at hall
  refine S7 ?_; refine Ola ?_
  refine OL.popC rfl rfl rfl (POp.call (.mk' rfl rfl rfl rfl rfl) (p215 W L (fun x hx => (hL x hx).split) ho arg path hp)) ?_
  refine Oas ?_; refine S3 ?_
  refine r1 2 (H) ?_
  exact ⟨retB (by rw [noneR, hall]; rfl), rfl⟩
abbrev MS := List Bool × List Bool
def objStep (s : MS) (x : Fact) : Option MS :=
 if ((spR x).1.op != 2 || (spR x).1.cls == 1 || (spR x).1.cls == 2) = true then (if (spR x).2 = true then some s else none)
 else if (spR x).2 = true then some (s.1, s.2.set (spR x).1.cls.toNat true) else some (s.1.set (spR x).1.cls.toNat true, s.2)
def objOn : List Fact → MS → Option MS
 | [], s => some s
 | x :: r, s => match objStep s x with
  | none => none
  | some t => objOn r t
def ownerN (W : FW) (s : Int) : Nat := (W.owner.getD s.toNat default).toNat
def slStep (W : FW) (bare can : Bool) (s : Int) (t : MS) : MS := (if bare = true then t.1 else t.1.set (ownerN W s) true, if can = true then t.2 else t.2.set (ownerN W s) true)
def objSl (W : FW) (L : List Fact) (can : List Int → Bool) (arg : Int) (path : List Int) : List Int → MS → Option MS
 | [], t => some t
 | s :: r, t => if (!bareR L arg (path ++ [s]) && !can (path ++ [s])) = true then none else objSl W L can arg path r (slStep W (bareR L arg (path ++ [s])) (can (path ++ [s])) s t)
def setAll (o : List Bool) (l : List Int) : List Bool := l.foldl (fun o p => o.set p.toNat true) o
def closeR (W : FW) : Nat → List Bool → List Bool
 | 0, o => o
 | k + 1, o => closeR W k (if o.getD (3 + k) false = true then setAll o (W.parents.getD k default) else o)
def clashR (m no : List Bool) (n : Nat) : Bool := (List.range n).any fun c => m.getD c false && no.getD c false
def objEnd (W : FW) (t : MS) : Option (List Bool) :=
 if t.2.getD 0 false = true then none
 else if clashR (closeR W W.parents.length (t.1.set 0 false)) t.2 (3 + W.parents.length) = true then none
 else some (closeR W W.parents.length (t.1.set 0 false))
def falses (W : FW) : List Bool := List.replicate (3 + W.parents.length) false
def objectR (W : FW) (L : List Fact) (can : List Int → Bool) (arg : Int) (path : List Int) : Option (List Bool) :=
 match objOn (onR L arg path) (falses W, falses W) with
 | none => none
 | some t => match objSl W L can arg path (slotsR W L arg path) t with
  | none => none
  | some t => objEnd W t
abbrev objAV (o : Option (List Bool)) : AV := AV.bools (o.getD [])
theorem objOn_drop {l : List Fact} {i : Nat} {s : MS} (h : i < l.length) : objOn (l.drop i) s = match objStep s (l.getD i default) with
  | none => none
  | some t => objOn (l.drop (i + 1)) t := by
 rw [List.drop_eq_getElem_cons h, objOn, getD_lt h]
theorem objSl_drop {W : FW} {L : List Fact} {can : List Int → Bool} {arg : Int} {path l : List Int} {i : Nat} {t : MS} (h : i < l.length) : objSl W L can arg path (l.drop i) t = if (!bareR L arg (path ++ [l.getD i default]) && !can (path ++ [l.getD i default])) = true then none else objSl W L can arg path (l.drop (i + 1)) (slStep W (bareR L arg (path ++ [l.getD i default])) (can (path ++ [l.getD i default])) (l.getD i default) t) := by
 rw [List.drop_eq_getElem_cons h, objSl, getD_lt h]
theorem obj_bif (x : Fact) : (bif bif (spR x).1.op != 2 then true else (spR x).1.cls == 1 then true else (spR x).1.cls == 2) = ((spR x).1.op != 2 || (spR x).1.cls == 1 || (spR x).1.cls == 2) := by rw [bif_or, bif_or]
theorem slot_rng {W : FW} {L : List Fact} {arg : Int} {path : List Int} {s : Int} (h : s ∈ slotsR W L arg path) : 0 ≤ s ∧ s < W.owner.length := by
 have := (List.mem_filter.1 h).1
 obtain ⟨n, hn, rfl⟩ := List.mem_map.1 this
 have := List.mem_range.1 hn
 omega
theorem owner_rng {W : FW} (hw : worldP W = true) {s : Int} (h : 0 ≤ s ∧ s < W.owner.length) : 3 ≤ W.owner.getD s.toNat default ∧ W.owner.getD s.toNat default < 3 + W.parents.length := by
 have h1 : W.owner.all (ownP W) = true := by simp only [worldP, Bool.and_eq_true] at hw; exact hw.2
 have := List.all_eq_true.1 h1 (W.owner.getD s.toNat default) (getD_mem (by omega))
 simp only [ownP, Bool.and_eq_true, decide_eq_true_eq] at this
 omega
theorem setAll_len : ∀ (l : List Int) (o : List Bool), (setAll o l).length = o.length
 | [], o => rfl
 | p :: r, o => by show (setAll (o.set p.toNat true) r).length = _; rw [setAll_len r, List.length_set]
theorem setAll_drop {o : List Bool} {l : List Int} {j : Nat} (h : j < l.length) : setAll o (l.drop j) = setAll (o.set (l.getD j default).toNat true) (l.drop (j + 1)) := by
 rw [List.drop_eq_getElem_cons h, getD_lt h]; rfl
theorem clash_snoc (m no : List Bool) (n : Nat) : clashR m no (n + 1) = (clashR m no n || (m.getD n false && no.getD n false)) := by rw [clashR, clashR, List.range_succ, List.any_append]; simp
theorem clash_yes {m no : List Bool} {c n : Nat} (hc : c < n) (h : (m.getD c false && no.getD c false) = true) : clashR m no n = true := List.any_eq_true.2 ⟨c, List.mem_range.2 hc, h⟩
theorem p190 (W : FW) (L : List Fact) (hL : ∀ x ∈ L, RLit W x) (hl : L.length ≤ 1000) (hw : worldP W = true) (arg : Int) (path : List Int) (hp : path.length ≤ 50) (can : List Int → Bool) (hc : ∀ s ∈ slotsR W L arg path, PCall Tryz.prog 142 [AV.rspot W L arg (path ++ [s])] (.b (can (path ++ [s])))) : PCall Tryz.prog 190 [AV.rspot W L arg path] (.tup [objAV (objectR W L can arg path), .b (objectR W L can arg path).isSome]) := by
 intro H
 refine ACall.mk' (n := 160) Tryz.func190 rfl (by kernel_rfl) rfl rfl (fun B I w0 => ?_)
 have hol := on_len L arg path
 have hW := world_len hw
 have hO := world_own hw
 refine S2 ?_; refine Obx ?_; refine Oas ?_; refine Oas ?_; refine S4 ?_; refine Ofa ?_; refine Ofa ?_; refine Old ?_; refine Oln ?_; refine Oar ?_
 refine OL.mkSlC (3 + W.parents.length) rfl rfl rfl rfl rfl rfl rfl rfl (by omega) (by omega) (by simp [maxLen]; omega) (fun bm => ?_)
 refine Oas ?_; refine S4 ?_; refine Ofa ?_; refine Ofa ?_; refine Old ?_; refine Oln ?_; refine Oar ?_
 refine OL.mkSlC (3 + W.parents.length) rfl rfl rfl rfl rfl rfl rfl rfl (by omega) (by omega) (by simp [maxLen]; omega) (fun bn => ?_)
 refine Oas ?_; refine S4 ?_
 rw [bl_new]
 refine S1 ?_; refine Ola ?_
 refine OL.popC rfl rfl rfl (POp.call (.mk' rfl rfl rfl rfl rfl) (p213 W L (fun x hx => (hL x hx).split) hl arg path)) ?_
 refine Oln ?_; refine Omv ?_; refine S3 ?_
 refine lj (fun m st => ∃ (i : Nat) (t : MS), st = ⟨[(34, .i i), (33, .i (onR L arg path).length), (32, AV.facts (onR L arg path)), (5, .val (.slice (some ⟨bn, 0, none⟩) (3 + W.parents.length) (3 + W.parents.length))), (4, .val (.slice (some ⟨bm, 0, none⟩) (3 + W.parents.length) (3 + W.parents.length))), (1, .ptr (rspotCells W L arg path))], .blk bn 4 (bl t.2) :: .blk bm 4 (bl t.1) :: H⟩ ∧ m = (onR L arg path).length - i ∧ i ≤ (onR L arg path).length ∧ objOn ((onR L arg path).drop i) t = objOn (onR L arg path) (falses W, falses W) ∧ t.1.length = 3 + W.parents.length ∧ t.2.length = 3 + W.parents.length) (⟨0, (falses W, falses W), rfl, rfl, by omega, rfl, by simp [falses], by simp [falses]⟩) ?_
 rintro m _ ⟨i, t, rfl, rfl, hi, hR, hl1, hl2⟩
 refine S2 ?_; refine Ocm ?_; refine S3 ?_
 refine CW.cond rfl (fun h0 => ?_) (fun h0 => ?_)
 ·
  replace h0 := nm h0
  have hx := hL ((onR L arg path).getD i default) (on_mem (getD_mem (by omega)))
  refine S6 ?_; refine Oix ?_; refine Ola ?_
  refine OL.alC rfl rfl rfl rfl (fun b0 => ?_)
  refine Sto ?_; refine S4 ?_; refine Ola ?_
  refine OL.popC rfl rfl rfl (POp.call (.mk' rfl rfl rfl rfl rfl) (p214 ((onR L arg path).getD i default) hx.split)) ?_
  refine Omv ?_; refine Oex ?_; refine Oex ?_
  refine OL.alC rfl rfl rfl rfl (fun b1 => ?_)
  refine Sto ?_; refine Oas ?_; refine S5 ?_; refine Ofa ?_; refine Old ?_; refine Ocm ?_; refine Omv ?_; refine Pfa ?_; refine Pld ?_; refine Pcm ?_; refine Opk ?_; refine Omv ?_
  refine Pfa ?_; refine Pld ?_; refine Pcm ?_; refine Opk ?_; refine Oas ?_; refine S2 ?_
  refine CW.cond rfl (fun h1 => ?_) (fun h1 => ?_)
  ·
   rw [obj_bif] at h1
   refine S2 ?_; refine Omv ?_; refine Ont ?_; refine S2 ?_
   refine CW.cond rfl (fun h2 => ?_) (fun h2 => ?_)
   ·
    have h2 : (spR ((onR L arg path).getD i default)).2 = false := by simpa using h2
    have hno : objectR W L can arg path = none := by rw [objOn_drop (by omega), objStep, if_pos h1, if_neg (by rw [h2]; simp)] at hR; rw [objectR, ← hR]
    refine S2 ?_; refine Oas ?_; refine Oas ?_; refine S9 ?_
    refine Done.retR (rs := [.tmp 2, .tmp 3]) (H' := H) rfl (.tmp rfl (.tmp rfl (.nil))) (.cons (AVle.nil 1) (.cons (.refl _) .nil)) (by repeat (first | exact List.Sublist.refl _ | refine List.Sublist.cons _ ?_)) ?_
    exact ⟨by rw [hno]; rfl, rfl⟩
   ·
    have h2 : (spR ((onR L arg path).getD i default)).2 = true := by simpa using h2
    refine S5 ?_; refine Oar ?_; refine Omv ?_; refine S1 ?_
    exact ag (⟨i + 1, t, rfl, rfl, by omega, by rw [objOn_drop (by omega), objStep, if_pos h1, if_pos h2] at hR; exact hR, hl1, hl2⟩)
  ·
   rw [obj_bif] at h1
   have h1' := h1
   simp only [Bool.or_eq_false_iff, bne_eq_false_iff_eq] at h1'
   have hcl := hx.cls h1'.1.1
   refine S2 ?_; refine Omv ?_; refine Oas ?_; refine S2 ?_
   refine CW.cond rfl (fun h3 => ?_) (fun h3 => ?_)
   ·
    replace h3 := nm h3
    refine S1 ?_; refine Omv ?_; refine Ofa ?_; refine Old ?_
    refine OL.popC rfl rfl rfl (POp.ixC rfl rfl rfl rfl rfl (by omega)) ?_
    apply OL.stoC rfl rfl rfl rfl rfl rfl rfl rfl rfl rfl
    (case hu => repeat (first | exact Upd.head _ _ _ | apply Upd.tail)); (case hfit => exact bl_fit (i := (spR ((onR L arg path).getD i default)).1.cls.toNat) (by omega)); (case hds => exact bl_set (i := (spR ((onR L arg path).getD i default)).1.cls.toNat) (by omega) rfl)
    refine S5 ?_; refine Oar ?_; refine Omv ?_; refine S1 ?_
    exact ag (⟨i + 1, (t.1, t.2.set (spR ((onR L arg path).getD i default)).1.cls.toNat true), rfl, rfl, by omega, by rw [objOn_drop (by omega), objStep, if_neg (by rw [h1]; simp), if_pos h3] at hR; exact hR, hl1, by rw [List.length_set]; exact hl2⟩)
   ·
    replace h3 := nm h3
    refine S1 ?_; refine Omv ?_; refine Ofa ?_; refine Old ?_
    refine OL.popC rfl rfl rfl (POp.ixC rfl rfl rfl rfl rfl (by omega)) ?_
    apply OL.stoC rfl rfl rfl rfl rfl rfl rfl rfl rfl rfl
    (case hu => repeat (first | exact Upd.head _ _ _ | apply Upd.tail)); (case hfit => exact bl_fit (i := (spR ((onR L arg path).getD i default)).1.cls.toNat) (by omega)); (case hds => exact bl_set (i := (spR ((onR L arg path).getD i default)).1.cls.toNat) (by omega) rfl)
    refine S5 ?_; refine Oar ?_; refine Omv ?_; refine S1 ?_
    exact ag (⟨i + 1, (t.1.set (spR ((onR L arg path).getD i default)).1.cls.toNat true, t.2), rfl, rfl, by omega, by rw [objOn_drop (by omega), objStep, if_neg (by rw [h1]; simp), if_neg (by rw [h3]; simp)] at hR; exact hR, by rw [List.length_set]; exact hl1, hl2⟩)
 ·
  replace h0 := nm h0
  obtain rfl : i = (onR L arg path).length := by omega
  rw [List.drop_length, objOn] at hR
  refine S8 ?_; refine Ola ?_
  refine OL.popC rfl rfl rfl (POp.call (.mk' rfl rfl rfl rfl rfl) (p216 W L (fun x hx => (hL x hx).split) hO arg path (by omega))) ?_
  refine Oln ?_; refine Omv ?_; refine S3 ?_
  refine lj (fun m st => ∃ (i : Nat) (u : MS), st = ⟨[(73, .i i), (72, .i (slotsR W L arg path).length), (71, AV.ints (slotsR W L arg path)), (5, .val (.slice (some ⟨bn, 0, none⟩) (3 + W.parents.length) (3 + W.parents.length))), (4, .val (.slice (some ⟨bm, 0, none⟩) (3 + W.parents.length) (3 + W.parents.length))), (1, .ptr (rspotCells W L arg path))], .blk bn 4 (bl u.2) :: .blk bm 4 (bl u.1) :: H⟩ ∧ m = (slotsR W L arg path).length - i ∧ i ≤ (slotsR W L arg path).length ∧ objSl W L can arg path ((slotsR W L arg path).drop i) u = objSl W L can arg path (slotsR W L arg path) t ∧ u.1.length = 3 + W.parents.length ∧ u.2.length = 3 + W.parents.length) (⟨0, t, rfl, rfl, by omega, rfl, hl1, hl2⟩) ?_
  rintro m _ ⟨i, u, rfl, rfl, hi, hS, hu1, hu2⟩
  refine S1 ?_
  refine CW.boundM (t := 71) rfl (fun hbs => ?_)
  refine S1 ?_; refine Ocm ?_; refine S3 ?_
  refine CW.cond rfl (fun h4 => ?_) (fun h4 => ?_)
  ·
   replace h4 := nm h4
   have hsm : (slotsR W L arg path).getD i default ∈ (slotsR W L arg path) := getD_mem (by omega)
   have hsr := slot_rng hsm
   have hor := owner_rng hw hsr
   refine S6 ?_; refine Oix ?_; refine Old ?_; refine Oas ?_; refine S4 ?_; refine Ola ?_; refine Omv ?_
   refine OL.popC rfl rfl rfl (POp.call (.mk' rfl rfl rfl rfl rfl) (p217 W L arg path _ (by omega))) ?_
   refine OL.alC rfl rfl rfl rfl (fun b2 => ?_)
   refine Sto ?_; refine S3 ?_
   refine CW.dp mixed ?_
   refine DP.anyC 0 3 160 rfl (by decide +kernel) rfl rfl (by decide +kernel) ?_
   refine Ala ?_
   refine AD.popC rfl rfl rfl (POp.call (.mk' rfl rfl rfl rfl rfl) (p218 W L (fun x hx => (hL x hx).split) arg _)) ?_
   refine Ala ?_
   refine AD.nil ?_
   refine DP.tailC 3 (by decide +kernel) rfl ?_
   refine OL.popC rfl rfl rfl (POp.call (.mk' rfl rfl rfl rfl rfl) (hc _ hsm)) ?_
   refine Oas ?_; refine Oas ?_; refine S5 ?_; refine Omv ?_; refine Ont ?_; refine Omv ?_; refine Pmv ?_; refine Pnt ?_; refine Opk ?_; refine S2 ?_
   refine CW.cond rfl (fun h5 => ?_) (fun h5 => ?_)
   ·
    rw [bif_and] at h5
    have hno : objectR W L can arg path = none := by rw [objSl_drop (by omega), if_pos h5] at hS; rw [objectR, ← hR]; simp only []; rw [← hS]
    refine S2 ?_; refine Oas ?_; refine Oas ?_; refine S9 ?_
    refine Done.retR (rs := [.tmp 2, .tmp 3]) (H' := H) rfl (.tmp rfl (.tmp rfl (.nil))) (.cons (AVle.nil 1) (.cons (.refl _) .nil)) (by repeat (first | exact List.Sublist.refl _ | refine List.Sublist.cons _ ?_)) ?_
    exact ⟨by rw [hno]; rfl, rfl⟩
   ·
    rw [bif_and] at h5
    rw [objSl_drop (by omega), if_neg (by rw [h5]; simp), slStep, ownerN] at hS
    refine S5 ?_; refine Omv ?_; refine Ont ?_; refine S2 ?_
    refine CW.cond rfl (fun h6 => ?_) (fun h6 => ?_)
    ·
     have h6 : bareR L arg (path ++ [(slotsR W L arg path).getD i default]) = false := by simpa using h6
     rw [if_neg (by rw [h6]; simp)] at hS
     refine S1 ?_; refine Omv ?_; refine Ofa ?_; refine Ofa ?_; refine Old ?_; refine Omv ?_; refine Oix ?_; refine Old ?_
     refine OL.popC rfl rfl rfl (POp.ixC rfl rfl rfl rfl rfl (by omega)) ?_
     apply OL.stoC rfl rfl rfl rfl rfl rfl rfl rfl rfl rfl
     (case hu => repeat (first | exact Upd.head _ _ _ | apply Upd.tail)); (case hfit => exact bl_fit (i := (W.owner.getD ((slotsR W L arg path).getD i default).toNat default).toNat) (by omega)); (case hds => exact bl_set (i := (W.owner.getD ((slotsR W L arg path).getD i default).toNat default).toNat) (by omega) rfl)
     refine S4 ?_; refine Omv ?_; refine Ont ?_; refine S2 ?_
     refine CW.cond rfl (fun h7 => ?_) (fun h7 => ?_)
     ·
      have h7 : can (path ++ [(slotsR W L arg path).getD i default]) = false := by simpa using h7
      rw [if_neg (by rw [h7]; simp)] at hS
      refine S1 ?_; refine Omv ?_; refine Ofa ?_; refine Ofa ?_; refine Old ?_; refine Omv ?_; refine Oix ?_; refine Old ?_
      refine OL.popC rfl rfl rfl (POp.ixC rfl rfl rfl rfl rfl (by omega)) ?_
      apply OL.stoC rfl rfl rfl rfl rfl rfl rfl rfl rfl rfl
      (case hu => repeat (first | exact Upd.head _ _ _ | apply Upd.tail)); (case hfit => exact bl_fit (i := (W.owner.getD ((slotsR W L arg path).getD i default).toNat default).toNat) (by omega)); (case hds => exact bl_set (i := (W.owner.getD ((slotsR W L arg path).getD i default).toNat default).toNat) (by omega) rfl)
      refine S4 ?_; refine Oar ?_; refine Omv ?_; refine S1 ?_
      exact ag (⟨i + 1, (u.1.set (W.owner.getD ((slotsR W L arg path).getD i default).toNat default).toNat true, u.2.set (W.owner.getD ((slotsR W L arg path).getD i default).toNat default).toNat true), rfl, rfl, by omega, hS, by rw [List.length_set]; exact hu1, by rw [List.length_set]; exact hu2⟩)
     ·
      have h7 : can (path ++ [(slotsR W L arg path).getD i default]) = true := by simpa using h7
      rw [if_pos h7] at hS
      refine S4 ?_; refine Oar ?_; refine Omv ?_; refine S1 ?_
      exact ag (⟨i + 1, (u.1.set (W.owner.getD ((slotsR W L arg path).getD i default).toNat default).toNat true, u.2), rfl, rfl, by omega, hS, by rw [List.length_set]; exact hu1, hu2⟩)
    ·
     have h6 : bareR L arg (path ++ [(slotsR W L arg path).getD i default]) = true := by simpa using h6
     rw [if_pos h6] at hS
     refine S4 ?_; refine Omv ?_; refine Ont ?_; refine S2 ?_
     refine CW.cond rfl (fun h8 => ?_) (fun h8 => ?_)
     ·
      have h8 : can (path ++ [(slotsR W L arg path).getD i default]) = false := by simpa using h8
      rw [if_neg (by rw [h8]; simp)] at hS
      refine S1 ?_; refine Omv ?_; refine Ofa ?_; refine Ofa ?_; refine Old ?_; refine Omv ?_; refine Oix ?_; refine Old ?_
      refine OL.popC rfl rfl rfl (POp.ixC rfl rfl rfl rfl rfl (by omega)) ?_
      apply OL.stoC rfl rfl rfl rfl rfl rfl rfl rfl rfl rfl
      (case hu => repeat (first | exact Upd.head _ _ _ | apply Upd.tail)); (case hfit => exact bl_fit (i := (W.owner.getD ((slotsR W L arg path).getD i default).toNat default).toNat) (by omega)); (case hds => exact bl_set (i := (W.owner.getD ((slotsR W L arg path).getD i default).toNat default).toNat) (by omega) rfl)
      refine S4 ?_; refine Oar ?_; refine Omv ?_; refine S1 ?_
      exact ag (⟨i + 1, (u.1, u.2.set (W.owner.getD ((slotsR W L arg path).getD i default).toNat default).toNat true), rfl, rfl, by omega, hS, hu1, by rw [List.length_set]; exact hu2⟩)
     ·
      have h8 : can (path ++ [(slotsR W L arg path).getD i default]) = true := by simpa using h8
      rw [if_pos h8] at hS
      refine S4 ?_; refine Oar ?_; refine Omv ?_; refine S1 ?_
      exact ag (⟨i + 1, u, rfl, rfl, by omega, hS, hu1, hu2⟩)
  ·
   replace h4 := nm h4
   obtain rfl : i = (slotsR W L arg path).length := by omega
   rw [List.drop_length, objSl] at hS
   refine S7 ?_; refine Omv ?_
   refine OL.popC rfl rfl rfl (POp.ixC rfl rfl rfl rfl rfl (by omega)) ?_
   apply OL.stoC rfl rfl rfl rfl rfl rfl rfl rfl rfl rfl
   (case hu => repeat (first | exact Upd.head _ _ _ | apply Upd.tail)); (case hfit => exact bl_fit (i := 0) (by omega)); (case hds => exact bl_set (i := 0) (by omega) rfl)
   refine S5 ?_; refine Omv ?_
   refine OL.popC rfl rfl rfl (POp.ixC rfl rfl rfl rfl rfl (by omega)) ?_
   refine OL.popC rfl rfl rfl ((by first | exact POp.ld1 rfl rfl rfl rfl | (apply POp.ld1H rfl rfl rfl; (case hm => repeat (first | exact .head _ | refine .tail _ ?_)); (case hy => exact bl_get (i := 0) (by omega))))) ?_
   refine S2 ?_
   refine CW.cond rfl (fun h9 => ?_) (fun h9 => ?_)
   ·
    refine S1 ?_
    have hno : objectR W L can arg path = none := by rw [objectR, ← hR]; simp only []; rw [← hS]; simp only []; rw [objEnd, if_pos h9]
    refine S1 ?_; refine Oas ?_; refine Oas ?_; refine S4 ?_
    refine Done.retR (rs := [.tmp 2, .tmp 3]) (H' := H) rfl (.tmp rfl (.tmp rfl (.nil))) (.cons (AVle.nil 1) (.cons (.refl _) .nil)) (by repeat (first | exact List.Sublist.refl _ | refine List.Sublist.cons _ ?_)) ?_
    exact ⟨by rw [hno]; rfl, rfl⟩
   ·
    refine S5 ?_; refine Omv ?_; refine Oln ?_; refine Oar ?_; refine Oas ?_; refine S3 ?_
    refine lj (fun m st => ∃ (c : Int) (mu : List Bool), st = ⟨[(15, .i c), (5, .val (.slice (some ⟨bn, 0, none⟩) (3 + W.parents.length) (3 + W.parents.length))), (4, .val (.slice (some ⟨bm, 0, none⟩) (3 + W.parents.length) (3 + W.parents.length))), (1, .ptr (rspotCells W L arg path))], .blk bn 4 (bl u.2) :: .blk bm 4 (bl mu) :: H⟩ ∧ m = (c - 2).toNat ∧ 2 ≤ c ∧ c < 3 + W.parents.length ∧ mu.length = 3 + W.parents.length ∧ closeR W (c - 2).toNat mu = closeR W W.parents.length (u.1.set 0 false)) (⟨((3 + W.parents.length : Nat) : Int) - 1, u.1.set 0 false, rfl, rfl, by omega, by omega, by rw [List.length_set]; exact hu1, by rw [show (((3 + W.parents.length : Nat) : Int) - 1 - 2).toNat = W.parents.length from by omega]⟩) ?_
    rintro m _ ⟨c, mu, rfl, rfl, hc2, hcn, hml, hcl⟩
    refine S3 ?_; refine Omv ?_; refine Ocm ?_; refine S2 ?_
    refine CW.cond rfl (fun h10 => ?_) (fun h10 => ?_)
    ·
     replace h10 := nm h10
     have hpr := pars_lt hw (i := (c - 3).toNat) (by omega)
     rw [show (c - 2).toNat = (c - 3).toNat + 1 from by omega, closeR, show 3 + (c - 3).toNat = c.toNat from by omega] at hcl
     refine S6 ?_; refine Omv ?_; refine Omv ?_
     refine OL.popC rfl rfl rfl (POp.ixC rfl rfl rfl rfl rfl (by omega)) ?_
     refine OL.popC rfl rfl rfl ((by first | exact POp.ld1 rfl rfl rfl rfl | (apply POp.ld1H rfl rfl rfl; (case hm => repeat (first | exact .head _ | refine .tail _ ?_)); (case hy => exact bl_get (i := c.toNat) (by omega))))) ?_
     refine S2 ?_
     refine CW.cond rfl (fun h11 => ?_) (fun h11 => ?_)
     ·
      rw [if_pos h11] at hcl
      refine S2 ?_; refine Ofa ?_; refine Ofa ?_; refine Old ?_; refine Omv ?_; refine Oar ?_; refine Oix ?_; refine Old ?_; refine Oln ?_; refine Omv ?_; refine S3 ?_
      refine lj (fun m st => ∃ (j : Nat) (mu2 : List Bool), st = ⟨[(135, .i j), (134, .i (W.parents.getD (c - 3).toNat default).length), (133, AV.ints (W.parents.getD (c - 3).toNat default)), (15, .i c), (5, .val (.slice (some ⟨bn, 0, none⟩) (3 + W.parents.length) (3 + W.parents.length))), (4, .val (.slice (some ⟨bm, 0, none⟩) (3 + W.parents.length) (3 + W.parents.length))), (1, .ptr (rspotCells W L arg path))], .blk bn 4 (bl u.2) :: .blk bm 4 (bl mu2) :: H⟩ ∧ m = (W.parents.getD (c - 3).toNat default).length - j ∧ j ≤ (W.parents.getD (c - 3).toNat default).length ∧ mu2.length = 3 + W.parents.length ∧ setAll mu2 ((W.parents.getD (c - 3).toNat default).drop j) = setAll mu (W.parents.getD (c - 3).toNat default)) (⟨0, mu, rfl, rfl, by omega, hml, rfl⟩) ?_
      rintro m _ ⟨j, mu2, rfl, rfl, hj, hml2, hsa⟩
      refine S1 ?_
      refine CW.boundM (t := 133) rfl (fun hbp => ?_)
      refine S1 ?_; refine Ocm ?_; refine S3 ?_
      refine CW.cond rfl (fun h12 => ?_) (fun h12 => ?_)
      ·
       replace h12 := nm h12
       refine S6 ?_; refine Oix ?_; refine Old ?_; refine Oas ?_; refine S2 ?_
       have hpj := hpr ((W.parents.getD (c - 3).toNat default).getD j default) (getD_mem (by omega))
       refine S1 ?_; refine Omv ?_; refine Omv ?_
       refine OL.popC rfl rfl rfl (POp.ixC rfl rfl rfl rfl rfl (by omega)) ?_
       apply OL.stoC rfl rfl rfl rfl rfl rfl rfl rfl rfl rfl
       (case hu => repeat (first | exact Upd.head _ _ _ | apply Upd.tail)); (case hfit => exact bl_fit (i := ((W.parents.getD (c - 3).toNat default).getD j default).toNat) (by omega)); (case hds => exact bl_set (i := ((W.parents.getD (c - 3).toNat default).getD j default).toNat) (by omega) rfl)
       refine S4 ?_; refine Oar ?_; refine Omv ?_; refine S1 ?_
       exact ag (⟨j + 1, mu2.set ((W.parents.getD (c - 3).toNat default).getD j default).toNat true, rfl, rfl, by omega, by rw [List.length_set]; exact hml2, by rw [← setAll_drop (by omega)]; exact hsa⟩)
      ·
       replace h12 := nm h12
       obtain rfl : j = (W.parents.getD (c - 3).toNat default).length := by omega
       rw [List.drop_length] at hsa
       have hsa : mu2 = setAll mu (W.parents.getD (c - 3).toNat default) := hsa
       refine S7 ?_; refine Omv ?_; refine Oar ?_; refine Oas ?_; refine S1 ?_
       exact ag (⟨c - 1, mu2, rfl, rfl, by omega, by omega, hml2, by rw [hsa, show (c - 1 - 2).toNat = (c - 3).toNat from by omega]; exact hcl⟩)
     ·
      rw [if_neg (by rw [h11]; simp)] at hcl
      refine S4 ?_; refine Omv ?_; refine Oar ?_; refine Oas ?_; refine S1 ?_
      exact ag (⟨c - 1, mu, rfl, rfl, by omega, by omega, hml, by rw [show (c - 1 - 2).toNat = (c - 3).toNat from by omega]; exact hcl⟩)
    ·
     replace h10 := nm h10
     obtain rfl : c = 2 := by omega
     rw [show ((2 : Int) - 2).toNat = 0 from rfl, closeR] at hcl
     refine S8 ?_; refine Omv ?_; refine Oln ?_; refine Omv ?_; refine S3 ?_
     refine lj (fun m st => ∃ (i : Nat), st = ⟨[(145, .i i), (144, .i ((3 + W.parents.length : Nat) : Int)), (5, .val (.slice (some ⟨bn, 0, none⟩) (3 + W.parents.length) (3 + W.parents.length))), (4, .val (.slice (some ⟨bm, 0, none⟩) (3 + W.parents.length) (3 + W.parents.length))), (1, .ptr (rspotCells W L arg path))], .blk bn 4 (bl u.2) :: .blk bm 4 (bl mu) :: H⟩ ∧ m = 3 + W.parents.length - i ∧ i ≤ 3 + W.parents.length ∧ clashR mu u.2 i = false) (⟨0, rfl, rfl, by omega, rfl⟩) ?_
     rintro m _ ⟨i, rfl, rfl, hi, hcl2⟩
     refine S2 ?_; refine Ocm ?_; refine S3 ?_
     refine CW.cond rfl (fun h13 => ?_) (fun h13 => ?_)
     ·
      replace h13 := nm h13
      refine S6 ?_; refine Omv ?_; refine Oas ?_; refine S4 ?_; refine Omv ?_; refine Omv ?_
      refine OL.popC rfl rfl rfl (POp.ixC rfl rfl rfl rfl rfl (by omega)) ?_
      refine OL.popC rfl rfl rfl ((by first | exact POp.ld1 rfl rfl rfl rfl | (apply POp.ld1H rfl rfl rfl; (case hm => repeat (first | exact .head _ | refine .tail _ ?_)); (case hy => exact bl_get (i := i) (by omega))))) ?_
      refine Omv ?_; refine Pmv ?_; refine Pmv ?_
      refine OL.guardC rfl rfl rfl rfl rfl rfl (fun hg => POp.ixC rfl rfl (gd hg) rfl (gd hg) (by omega)) ?_
      refine OL.guardC rfl rfl rfl rfl rfl rfl (fun hg => (by first | exact POp.ld1 rfl rfl (gd hg) rfl | (apply POp.ld1H rfl rfl (gd hg); (case hm => repeat (first | exact .head _ | refine .tail _ ?_)); (case hy => exact bl_get (i := i) (by omega))))) ?_
      refine Opk ?_; refine S2 ?_
      refine CW.cond rfl (fun h14 => ?_) (fun h14 => ?_)
      ·
       rw [bif_and] at h14
       have hno : objectR W L can arg path = none := by rw [objectR, ← hR]; simp only []; rw [← hS]; simp only []; rw [objEnd, if_neg (by rw [h9]; simp), ← hcl, if_pos (clash_yes (c := i) (by omega) h14)]
       refine S2 ?_; refine Oas ?_; refine Oas ?_; refine S8 ?_
       refine Done.retR (rs := [.tmp 2, .tmp 3]) (H' := H) rfl (.tmp rfl (.tmp rfl (.nil))) (.cons (AVle.nil 1) (.cons (.refl _) .nil)) (by repeat (first | exact List.Sublist.refl _ | refine List.Sublist.cons _ ?_)) ?_
       exact ⟨by rw [hno]; rfl, rfl⟩
      ·
       rw [bif_and] at h14
       refine S4 ?_; refine Oar ?_; refine Omv ?_; refine S1 ?_
       exact ag (⟨i + 1, rfl, rfl, by omega, by rw [clash_snoc, hcl2, h14]; rfl⟩)
     ·
      replace h13 := nm h13
      obtain rfl : i = 3 + W.parents.length := by omega
      have hyes : objectR W L can arg path = some mu := by rw [objectR, ← hR]; simp only []; rw [← hS]; simp only []; rw [objEnd, if_neg (by rw [h9]; simp), ← hcl, if_neg (by rw [hcl2]; simp)]
      refine S6 ?_
      rw [bl_flat mu]
      refine CW.freezeS (d := 4) (k := 1) rfl (by repeat (first | exact Del.head _ _ | apply Del.tail)) (by simp [hml]) (by intro e he; obtain ⟨x, _, rfl⟩ := List.mem_map.1 he; rfl) (by omega) (by simp [maxLen]; omega) ?_
      refine S1 ?_; refine Omv ?_; refine Oas ?_; refine Oas ?_; refine S3 ?_
      refine Done.retR (rs := [.tmp 2, .tmp 3]) (H' := H) rfl (.tmp rfl (.tmp rfl (.nil))) (.refl _) (by repeat (first | exact List.Sublist.refl _ | refine List.Sublist.cons _ ?_)) ?_
      exact ⟨by rw [hyes]; rfl, rfl⟩
def canR (W : FW) (L : List Fact) (arg : Int) : Nat → List Int → Bool
 | 0, path => (integerR W L arg path).2 || noneR W L arg path || (objectR W L (fun _ => false) arg path).isSome
 | d + 1, path => (integerR W L arg path).2 || noneR W L arg path || (objectR W L (canR W L arg d) arg path).isSome
def togetherR (W : FW) (L : List Fact) : Bool := canR W L 0 2 [] && canR W L 1 2 [] && canR W L 2 2 []
theorem beg_len {p w : List Int} (h : begR p w = true) : w.length ≤ p.length := by
 rw [begR, Bool.and_eq_true, decide_eq_true_eq] at h; exact h.1
theorem slots_deep {W : FW} {L : List Fact} (hL : ∀ x ∈ L, RLit W x) {arg : Int} {path : List Int} (h : 2 ≤ path.length) : slotsR W L arg path = [] := by
 rw [slotsR, List.filter_eq_nil_iff]
 intro s _ hs
 obtain ⟨x, hx, hh⟩ := List.any_eq_true.1 hs
 rw [wayR, Bool.and_eq_true] at hh
 have h1 := beg_len hh.2
 have h2 := (hL x hx).path
 rw [List.length_append] at h1
 simp at h1; omega
theorem p142_step (W : FW) (L : List Fact) (hL : ∀ x ∈ L, RLit W x) (hl : L.length ≤ 1000) (hw : worldP W = true) (arg : Int) (path : List Int) (hp : path.length ≤ 2) (can : List Int → Bool) (hc : ∀ s ∈ slotsR W L arg path, PCall Tryz.prog 142 [AV.rspot W L arg (path ++ [s])] (.b (can (path ++ [s])))) : PCall Tryz.prog 142 [AV.rspot W L arg path] (.b ((integerR W L arg path).2 || noneR W L arg path || (objectR W L can arg path).isSome)) := by
 intro H
 refine ACall.mk' (n := 38) Tryz.func142 rfl (by kernel_rfl) rfl rfl (fun B I w0 => ?_)
 have hO := world_own hw
 refine S2 ?_; refine Obx ?_; refine Oas ?_; refine S5 ?_; refine Ola ?_
 refine OL.popC rfl rfl rfl (POp.call (.mk' rfl rfl rfl rfl rfl) (p187 W L hL hl hO arg path (by omega))) ?_
 refine Omv ?_; refine Oex ?_; refine Oex ?_; refine Oas ?_; refine Oas ?_; refine S4 ?_; refine Omv ?_; refine Omv ?_; refine Pla ?_
 refine OL.guardC rfl rfl rfl rfl rfl rfl (fun hg => POp.call (.mk' rfl rfl rfl rfl (by first | rfl | ((repeat (first | exact hg | rfl | refine Bool.and_eq_true_iff.2 ⟨?_, ?_⟩)); done) | simp_all [strip, constAV])) (p188 W L hL hl hO arg path (by omega))) ?_
 refine Opk ?_; refine S2 ?_
 refine CW.cond rfl (fun h0 => ?_) (fun h0 => ?_)
 ·
  replace h0 := nm h0
  refine S2 ?_; refine Oas ?_; refine S4 ?_
  refine r1 2 (H) ?_
  exact ⟨retB (by rw [bif_or] at h0; rw [h0]; rfl), rfl⟩
 ·
  replace h0 := nm h0
  refine S5 ?_; refine Ofa ?_; refine Old ?_; refine S2 ?_
  refine CW.cond rfl (fun h1 => ?_) (fun h1 => ?_)
  ·
   cases h1
  ·
   refine S4 ?_; refine Ola ?_
   refine OL.popC rfl rfl rfl (POp.call (.mk' rfl rfl rfl rfl rfl) (p190 W L hL hl hw arg path (by omega) can hc)) ?_
   refine Omv ?_; refine Oex ?_; refine Oex ?_; refine Oas ?_; refine Oas ?_; refine S4 ?_; refine Omv ?_; refine Oas ?_; refine S3 ?_
   refine r1 2 (H) ?_
   exact ⟨retB (by rw [bif_or] at h0; rw [h0]; rfl), rfl⟩
theorem p142 (W : FW) (L : List Fact) (hL : ∀ x ∈ L, RLit W x) (hl : L.length ≤ 1000) (hw : worldP W = true) (arg : Int) : ∀ (d : Nat) (path : List Int), path.length + d = 2 → PCall Tryz.prog 142 [AV.rspot W L arg path] (.b (canR W L arg d path))
 | 0, path, hp => by
  rw [canR]
  exact p142_step W L hL hl hw arg path (by omega) _ (fun s hs => by rw [slots_deep hL (by omega)] at hs; cases hs)
 | d + 1, path, hp => by
  rw [canR]
  exact p142_step W L hL hl hw arg path (by omega) _ (fun s hs => p142 W L hL hl hw arg d (path ++ [s]) (by simp; omega))
theorem spot_cells (W : FW) (L : List Fact) (arg : Int) : AVle (.agg (Wcells W ++ [AV.facts L, .i arg, .val (.slice none 0 0), .b false])) (AV.rspot W L arg []) := by
 exact AVle.agg (.cons (.refl _) (.cons (.refl _) (.cons (.refl _) (.cons (.refl _) (.cons (AVle.nil 1) (.cons (.refl _) .nil))))))
theorem tog_succ (W : FW) (L : List Fact) (n : Nat) : ((List.range (n + 1)).all fun (i : Nat) => canR W L i 2 []) = (((List.range n).all fun (i : Nat) => canR W L i 2 []) && canR W L n 2 []) := by rw [List.range_succ, List.all_append]; simp
theorem tog_all (W : FW) (L : List Fact) : ((List.range 3).all fun (i : Nat) => canR W L i 2 []) = togetherR W L := by
 rw [togetherR, tog_succ, tog_succ, tog_succ]; simp
theorem tog_no {W : FW} {L : List Fact} {i : Nat} (hi : i < 3) (h : canR W L i 2 [] = false) : togetherR W L = false := by
 rw [← tog_all, List.all_eq_false]; exact ⟨i, List.mem_range.2 hi, by rw [h]; simp⟩
theorem p93 (W : FW) (L : List Fact) (hL : ∀ x ∈ L, RLit W x) (hl : L.length ≤ 1000) (hw : worldP W = true) : PCall Tryz.prog 93 [AV.world W, AV.facts L] (.b (togetherR W L)) := by
 intro H
 refine ACall.mk' (n := 18) Tryz.func93 rfl (by kernel_rfl) rfl rfl (fun B I w0 => ?_)
 refine S2 ?_; refine Obx ?_; refine Oas ?_; refine S5 ?_; refine Oas ?_; refine S3 ?_
 refine lj (fun m st => ∃ (i : Nat), st = ⟨[(5, .i i), (2, .ptr (Wcells W)), (1, AV.facts L)], H⟩ ∧ m = 3 - i ∧ i ≤ 3 ∧ ((List.range i).all fun (i : Nat) => canR W L i 2 []) = true) (⟨0, rfl, rfl, by omega, rfl⟩) ?_
 rintro m _ ⟨i, rfl, rfl, hi, hall⟩
 refine S3 ?_; refine Omv ?_; refine Ocm ?_; refine S2 ?_
 refine CW.cond rfl (fun h0 => ?_) (fun h0 => ?_)
 ·
  replace h0 := nm h0
  refine S6 ?_; refine Ola ?_; refine Omv ?_; refine Omv ?_; refine Obd ?_
  refine OL.alC rfl rfl rfl rfl (fun b0 => ?_)
  refine Sto ?_; refine S4 ?_; refine Ola ?_
  refine OL.popC rfl rfl rfl (POp.callLe (.mk' rfl rfl rfl rfl rfl) (.cons (spot_cells W L i) .nil) (p142 W L hL hl hw i 2 [] rfl)) ?_
  refine Ont ?_; refine S2 ?_
  refine CW.cond rfl (fun h1 => ?_) (fun h1 => ?_)
  ·
   replace h1 := nm h1
   refine S2 ?_; refine Oas ?_; refine S8 ?_
   refine r1 4 (H) ?_
   exact ⟨retB (tog_no (i := i) (by omega) (by simpa using h1)).symm, rfl⟩
  ·
   replace h1 := nm h1
   refine S4 ?_; refine Omv ?_; refine Oar ?_; refine Oas ?_; refine S1 ?_
   exact ag (⟨i + 1, rfl, rfl, by omega, by rw [tog_succ, hall]; simpa using h1⟩)
 ·
  replace h0 := nm h0
  obtain rfl : i = 3 := by omega
  rw [tog_all] at hall
  refine S7 ?_; refine Oas ?_; refine S3 ?_
  refine r1 4 (H) ?_
  exact ⟨retB hall.symm, rfl⟩
theorem beg_iff {p q : List Int} : begR p q = true ↔ q <+: p := by
 rw [begR, Bool.and_eq_true, decide_eq_true_eq, beq_iff_eq]
 constructor
 ·rintro ⟨_, h⟩; exact h ▸ List.take_prefix _ _
 ·intro h; exact ⟨h.length_le, (List.prefix_iff_eq_take.1 h).symm⟩
def wayL (a : Int) (p : List Int) (l : FLit) : Bool := l.f.arg == a && begR l.f.path p
def hitL (a : Int) (p : List Int) (l : FLit) : Bool := l.f.arg == a && l.f.path == p
def touch (l : FLit) (p : List Int) (k : Kn) : Kn := if p = l.f.path then askK (needF l k) l else slot2 (l.f.path.getD p.length 0) (needF l k)
def touchIf (a : Int) (p : List Int) (k : Kn) (l : FLit) : Kn := if wayL a p l = true then touch l p k else k
theorem beg0 (q : List Int) : begR q [] = true := beg_iff.2 (List.nil_prefix)
theorem begS (q : List Int) : begR q q = true := beg_iff.2 (List.prefix_refl q)
theorem beg_nil {p : List Int} (h : p ≠ []) : begR [] p = false := by
 rw [Bool.eq_false_iff]; intro e; exact h (List.prefix_nil.1 (beg_iff.1 e))
theorem beg_cons {x : Int} {q p : List Int} : begR (x :: q) p = true ↔ p = [] ∨ ∃ r, p = x :: r ∧ begR q r = true := by
 rw [beg_iff]
 constructor
 ·intro h
  rcases p with _ | ⟨y, r⟩
  ·exact .inl rfl
  ·have := List.cons_prefix_cons.1 h
   exact .inr ⟨r, by rw [this.1], beg_iff.2 this.2⟩
 ·rintro (rfl | ⟨r, rfl, h⟩)
  ·exact List.nil_prefix
  ·exact List.cons_prefix_cons.2 ⟨rfl, beg_iff.1 h⟩
theorem add_at (kn : K2) (l : FLit) (hp : l.f.path.length ≤ 2) (a : Int) (p : List Int) : add2 kn l a p = touchIf a p (kn a p) l := by
 unfold add2 touchIf wayL touch
 generalize l.f.path = q at *
 generalize hb' : l.f.arg = b
 by_cases ha : b = a
 ·subst ha
  match q, hp with
  | [], _ =>
   by_cases h0 : p = []
   ·subst h0; simp [walk2, upd2, hb', beg0]
   ·simp [walk2, upd2, hb', h0, beg_nil h0]
  | [s], _ =>
   by_cases h0 : p = []
   ·subst h0; simp [walk2, upd2, hb', beg0]
   ·by_cases h1 : p = [s]
    ·subst h1; simp [walk2, upd2, hb', begS]
    ·have hb : begR [s] p = false := by
      rw [Bool.eq_false_iff]; intro e
      rcases beg_cons.1 e with e | ⟨r, e, e2⟩
      ·exact h0 e
      ·rcases r with _ | ⟨y, r⟩
       ·exact h1 e
       ·rw [beg_nil (by simp)] at e2; cases e2
     simp [walk2, upd2, hb', h0, h1, hb]
  | [s, t], _ =>
   by_cases h0 : p = []
   ·subst h0; simp [walk2, upd2, hb', beg0]
   ·by_cases h1 : p = [s]
    ·subst h1; simp [walk2, upd2, hb', beg_cons, beg0]
    ·by_cases h2 : p = [s, t]
     ·subst h2; simp [walk2, upd2, hb', begS]
     ·have hb : begR [s, t] p = false := by
       rw [Bool.eq_false_iff]; intro e
       rcases beg_cons.1 e with e | ⟨r, e, e2⟩
       ·exact h0 e
       ·rcases beg_cons.1 e2 with e3 | ⟨r2, e3, e4⟩
        ·exact h1 (by rw [e, e3])
        ·rcases r2 with _ | ⟨y, r2⟩
         ·exact h2 (by rw [e, e3])
         ·rw [beg_nil (by simp)] at e4; cases e4
      simp [walk2, upd2, hb', h0, h1, h2, hb]
 ·have ha' : (b == a) = false := by simpa using ha
  have hx : ¬ a = b := fun e => ha e.symm
  match q, hp with
  | [], _ => simp [walk2, upd2, hb', ha', hx]
  | [s], _ => simp [walk2, upd2, hb', ha', hx]
  | [s, t], _ => simp [walk2, upd2, hb', ha', hx]
theorem stage_at {ls : List FLit} (hp : ∀ l ∈ ls, l.f.path.length ≤ 2) (a : Int) (p : List Int) : stage2 ls a p = ls.foldl (touchIf a p) kn0 := by
 unfold stage2
 have : ∀ (ls : List FLit) (kn : K2), (∀ l ∈ ls, l.f.path.length ≤ 2) → (ls.foldl add2 kn) a p = ls.foldl (touchIf a p) (kn a p) := by
  intro ls
  induction ls with
  | nil => intro kn _; rfl
  | cons l r ih =>
   intro kn h
   rw [List.foldl_cons, List.foldl_cons, ih _ (fun x hx => h x (.tail _ hx)), add_at kn l (h l (.head _))]
 exact this ls _ hp
def isL (a : Int) (p : List Int) (neg : Bool) (c : Nat) (l : FLit) : Bool := hitL a p l && l.f.op == 2 && l.neg == neg && l.f.cls.toNat == c
def wholeL (a : Int) (p : List Int) (l : FLit) : Bool := hitL a p l && l.f.op != 2 && !l.neg
def needL (a : Int) (p : List Int) (l : FLit) : Bool := !l.neg && wayL a p l
theorem way_hit {a : Int} {p : List Int} {l : FLit} : hitL a p l = (wayL a p l && decide (p = l.f.path)) := by
 rw [hitL, wayL, Bool.and_assoc]
 congr 1
 by_cases h : p = l.f.path
 ·subst h; simp [begS]
 ·have : (l.f.path == p) = false := by simpa using fun e => h e.symm
  rw [this, decide_eq_false h, Bool.and_false]
theorem slot2_rest (s : Int) (k : Kn) : (slot2 s k).low = k.low ∧ (slot2 s k).high = k.high ∧ (slot2 s k).nots = k.nots ∧ (slot2 s k).must = k.must ∧ (slot2 s k).no = k.no ∧ (slot2 s k).whole = k.whole ∧ (slot2 s k).needed = k.needed := by
 unfold slot2; split <;> exact ⟨rfl, rfl, rfl, rfl, rfl, rfl, rfl⟩
theorem ask_rest (k : Kn) (l : FLit) : (askK k l).needed = k.needed ∧ (askK k l).slots = k.slots := by
 unfold askK; (repeat' split) <;> exact ⟨rfl, rfl⟩
theorem touch_needed (a : Int) (p : List Int) (k : Kn) (l : FLit) : (touchIf a p k l).needed = (k.needed || needL a p l) := by
 unfold touchIf touch needL
 by_cases h : wayL a p l = true
 ·rw [if_pos h, h, Bool.and_true]
  split
  ·rw [(ask_rest _ _).1]; show (bif k.needed then true else !l.neg) = _; cases k.needed <;> rfl
  ·rw [(slot2_rest _ _).2.2.2.2.2.2]; show (bif k.needed then true else !l.neg) = _; cases k.needed <;> rfl
 ·rw [if_neg h, Bool.eq_false_iff.2 h]; simp
theorem touch_must (a : Int) (p : List Int) (k : Kn) (l : FLit) (c : Nat) : (touchIf a p k l).must.testBit c = (k.must.testBit c || isL a p false c l) := by
 unfold touchIf touch isL
 rw [way_hit]
 by_cases h : wayL a p l = true
 ·rw [if_pos h, h]
  by_cases hq : p = l.f.path
  ·rw [if_pos hq, decide_eq_true hq]
   unfold askK needF
   by_cases h2 : l.f.op = 2
   ·by_cases hn : l.neg = true
    ·simp [h2, hn]
    ·simp [h2, hn, Nat.testBit_or, Nat.testBit_two_pow]
     rfl
   ·simp only [h2, if_false]
    (repeat' split) <;> (simp; intro e; exact absurd e h2)
  ·rw [if_neg hq, decide_eq_false hq, (slot2_rest _ _).2.2.2.1]; simp [needF]
 ·rw [if_neg h, Bool.eq_false_iff.2 h]; simp
theorem touch_no (a : Int) (p : List Int) (k : Kn) (l : FLit) (c : Nat) : (touchIf a p k l).no.testBit c = (k.no.testBit c || isL a p true c l) := by
 unfold touchIf touch isL
 rw [way_hit]
 by_cases h : wayL a p l = true
 ·rw [if_pos h, h]
  by_cases hq : p = l.f.path
  ·rw [if_pos hq, decide_eq_true hq]
   unfold askK needF
   by_cases h2 : l.f.op = 2
   ·by_cases hn : l.neg = true
    ·simp [h2, hn, Nat.testBit_or, Nat.testBit_two_pow]
     rfl
    ·simp [h2, hn]
   ·simp only [h2, if_false]
    (repeat' split) <;> (simp; intro e; exact absurd e h2)
  ·rw [if_neg hq, decide_eq_false hq, (slot2_rest _ _).2.2.2.2.1]; simp [needF]
 ·rw [if_neg h, Bool.eq_false_iff.2 h]; simp
theorem touch_whole (a : Int) (p : List Int) (k : Kn) (l : FLit) : (touchIf a p k l).whole = (k.whole || wholeL a p l) := by
 unfold touchIf touch wholeL
 rw [way_hit]
 by_cases h : wayL a p l = true
 ·rw [if_pos h, h]
  by_cases hq : p = l.f.path
  ·rw [if_pos hq, decide_eq_true hq]
   unfold askK needF
   by_cases h2 : l.f.op = 2
   ·simp only [h2, if_true]
    split <;> simp
   ·simp only [h2, if_false]
    by_cases hn : l.neg = true
    ·simp only [hn, if_true]; split <;> simp
    ·simp only [hn]; split <;> simp [h2]
  ·rw [if_neg hq, decide_eq_false hq, (slot2_rest _ _).2.2.2.2.2.1]; simp [needF]
 ·rw [if_neg h, Bool.eq_false_iff.2 h]; simp
def tri (k : Kn) : RS := (k.low, k.high, k.nots)
def numStep (s : RS) (l : FLit) : RS :=
 if l.f.op = 2 then s
 else if l.f.op = 3 then (if l.neg = true then (maxI s.1 l.f.n, s.2.1, s.2.2) else (s.1, minI s.2.1 (l.f.n - 1), s.2.2))
 else if l.neg = true then (s.1, s.2.1, s.2.2 ++ [l.f.n])
 else (maxI s.1 l.f.n, minI s.2.1 l.f.n, s.2.2)
theorem touch_tri (a : Int) (p : List Int) (k : Kn) (l : FLit) : tri (touchIf a p k l) = if hitL a p l = true then numStep (tri k) l else tri k := by
 unfold touchIf touch
 rw [way_hit]
 by_cases h : wayL a p l = true
 ·rw [if_pos h, h]
  by_cases hq : p = l.f.path
  ·rw [if_pos hq, decide_eq_true hq, if_pos (by rfl)]
   unfold askK needF numStep tri maxI minI
   by_cases h2 : l.f.op = 2
   ·simp only [h2, if_true] <;> (split <;> rfl)
   ·simp only [h2, if_false]
    by_cases h3 : l.f.op = 3
    ·simp only [h3, if_true]; split <;> rfl
    ·simp only [h3, if_false]; split <;> rfl
  ·rw [if_neg hq, decide_eq_false hq, if_neg (by simp), tri, (slot2_rest _ _).1, (slot2_rest _ _).2.1, (slot2_rest _ _).2.2.1]; rfl
 ·rw [if_neg h, Bool.eq_false_iff.2 h, if_neg (by simp)]
theorem way_next {a x : Int} {p : List Int} {l : FLit} : wayL a (p ++ [x]) l = true ↔ wayL a p l = true ∧ p ≠ l.f.path ∧ l.f.path.getD p.length 0 = x := by
 rw [wayL, wayL, Bool.and_eq_true, Bool.and_eq_true, beg_iff, beg_iff]
 constructor
 ·rintro ⟨h1, r, hr⟩
  refine ⟨⟨h1, [x] ++ r, by rw [← List.append_assoc]; exact hr⟩, ?_, ?_⟩
  ·intro e
   have := congrArg List.length hr
   rw [← e] at this
   simp at this
  ·rw [← hr]; simp
 ·rintro ⟨⟨h1, r, hr⟩, h2, h3⟩
  refine ⟨h1, ?_⟩
  rcases r with _ | ⟨y, r⟩
  ·exact absurd (by simpa using hr) h2
  ·refine ⟨r, ?_⟩
   rw [← hr] at h3 ⊢
   simp at h3
   subst h3; simp
theorem slot2_mem {s x : Int} {k : Kn} : x ∈ (slot2 s k).slots ↔ x ∈ k.slots ∨ x = s := by
 unfold slot2
 split
 ·rename_i h
  have h := List.contains_iff_mem.1 h
  constructor
  ·exact .inl
  ·rintro (h' | rfl); exact h'; exact h
 ·show x ∈ isortI _ ↔ _
  rw [(isort_perm _).mem_iff]; simp
theorem touch_slots (a : Int) (p : List Int) (k : Kn) (l : FLit) (x : Int) : x ∈ (touchIf a p k l).slots ↔ x ∈ k.slots ∨ wayL a (p ++ [x]) l = true := by
 rw [way_next]
 unfold touchIf touch
 by_cases h : wayL a p l = true
 ·rw [if_pos h]
  by_cases hq : p = l.f.path
  ·rw [if_pos hq, (ask_rest _ _).2]
   show x ∈ k.slots ↔ _
   exact ⟨.inl, fun h' => h'.elim id fun h' => absurd hq h'.2.1⟩
  ·rw [if_neg hq, slot2_mem]
   show x ∈ k.slots ∨ _ ↔ _
   constructor
   ·rintro (h' | rfl); exact .inl h'; exact .inr ⟨h, hq, rfl⟩
   ·rintro (h' | ⟨_, _, rfl⟩); exact .inl h'; exact .inr rfl
 ·rw [if_neg h]
  exact ⟨.inl, fun h' => h'.elim id fun h' => absurd h'.1 h⟩
theorem lt_of_nodup {l : List Int} (h : l.Pairwise (· ≤ ·)) (hn : l.Nodup) : l.Pairwise (· < ·) := by
 have := h.and hn
 exact this.imp fun ⟨h1, h2⟩ => by omega
theorem slot2_lt {s : Int} {k : Kn} (h : k.slots.Pairwise (· < ·)) : (slot2 s k).slots.Pairwise (· < ·) := by
 unfold slot2
 split
 ·exact h
 ·rename_i hc
  refine lt_of_nodup (isort_sorted _) ((isort_perm _).nodup_iff.2 ?_)
  have hn : k.slots.Nodup := h.imp fun h' => by omega
  refine List.nodup_append.2 ⟨hn, by simp, ?_⟩
  intro x hx y hy e
  rw [List.mem_singleton] at hy
  subst e; subst hy
  exact hc (List.contains_iff_mem.2 hx)
theorem touch_lt {a : Int} {p : List Int} {k : Kn} {l : FLit} (h : k.slots.Pairwise (· < ·)) : (touchIf a p k l).slots.Pairwise (· < ·) := by
 unfold touchIf touch
 split
 ·split
  ·rw [(ask_rest _ _).2]; exact h
  ·exact slot2_lt h
 ·exact h
section
variable (a : Int) (p : List Int)
theorem fold_needed : ∀ (ls : List FLit) (k : Kn), (ls.foldl (touchIf a p) k).needed = (k.needed || ls.any (needL a p))
 | [], k => by simp
 | l :: r, k => by rw [List.foldl_cons, fold_needed r, touch_needed, List.any_cons, Bool.or_assoc]
theorem fold_must (c : Nat) : ∀ (ls : List FLit) (k : Kn), (ls.foldl (touchIf a p) k).must.testBit c = (k.must.testBit c || ls.any (isL a p false c))
 | [], k => by simp
 | l :: r, k => by rw [List.foldl_cons, fold_must c r, touch_must, List.any_cons, Bool.or_assoc]
theorem fold_no (c : Nat) : ∀ (ls : List FLit) (k : Kn), (ls.foldl (touchIf a p) k).no.testBit c = (k.no.testBit c || ls.any (isL a p true c))
 | [], k => by simp
 | l :: r, k => by rw [List.foldl_cons, fold_no c r, touch_no, List.any_cons, Bool.or_assoc]
theorem fold_whole : ∀ (ls : List FLit) (k : Kn), (ls.foldl (touchIf a p) k).whole = (k.whole || ls.any (wholeL a p))
 | [], k => by simp
 | l :: r, k => by rw [List.foldl_cons, fold_whole r, touch_whole, List.any_cons, Bool.or_assoc]
theorem fold_tri : ∀ (ls : List FLit) (k : Kn), tri (ls.foldl (touchIf a p) k) = (ls.filter (hitL a p)).foldl numStep (tri k)
 | [], k => rfl
 | l :: r, k => by
  rw [List.foldl_cons, fold_tri r, touch_tri, List.filter_cons]
  split
  ·rw [List.foldl_cons]
  ·rfl
theorem fold_slots (x : Int) : ∀ (ls : List FLit) (k : Kn), x ∈ (ls.foldl (touchIf a p) k).slots ↔ x ∈ k.slots ∨ ls.any (wayL a (p ++ [x])) = true
 | [], k => by simp
 | l :: r, k => by rw [List.foldl_cons, fold_slots x r, touch_slots, List.any_cons, Bool.or_eq_true, or_assoc]
theorem fold_lt : ∀ (ls : List FLit) (k : Kn), k.slots.Pairwise (· < ·) → (ls.foldl (touchIf a p) k).slots.Pairwise (· < ·)
 | [], k, h => h
 | l :: r, k, h => by rw [List.foldl_cons]; exact fold_lt r _ (touch_lt h)
end
theorem lt_eq : ∀ {l m : List Int}, l.Pairwise (· < ·) → m.Pairwise (· < ·) → (∀ x, x ∈ l ↔ x ∈ m) → l = m
 | [], [], _, _, _ => rfl
 | [], b :: m, _, _, h => absurd ((h b).2 (.head _)) (by simp)
 | a :: l, [], _, _, h => absurd ((h a).1 (.head _)) (by simp)
 | a :: l, b :: m, hl, hm, h => by
  have h1 := List.pairwise_cons.1 hl
  have h2 := List.pairwise_cons.1 hm
  have hab : a = b := by
   rcases List.mem_cons.1 ((h a).1 (.head _)) with e | e
   ·exact e
   ·rcases List.mem_cons.1 ((h b).2 (.head _)) with e' | e'
    ·exact e'.symm
    ·have := h2.1 a e; have := h1.1 b e'; omega
  subst hab
  rw [lt_eq h1.2 h2.2 fun x => ?_]
  constructor
  ·intro hx
   rcases List.mem_cons.1 ((h x).1 (.tail _ hx)) with e | e
   ·have := h1.1 x hx; omega
   ·exact e
  ·intro hx
   rcases List.mem_cons.1 ((h x).2 (.tail _ hx)) with e | e
   ·have := h2.1 x hx; omega
   ·exact e
theorem sp_lit {l : FLit} (h : l.f.op ≤ 4) : spR (litF l) = (l.f, l.neg) := by
 unfold spR litF
 by_cases hn : l.neg = true
 ·rw [if_pos hn, if_pos (by rfl), hn]; rfl
 ·rw [if_neg hn, if_neg (by omega), Bool.eq_false_iff.2 hn]
theorem any_fact {ls : List FLit} {q : Fact → Bool} {r : FLit → Bool} (h : ∀ l ∈ ls, q (litF l) = r l) : (factL ls).any q = ls.any r := by
 rw [factL, List.any_map]; exact any_congr_mem fun x hx => h x hx
structure LsOk (W : FW) (ls : List FLit) : Prop where
 w : worldP W = true
 ok : ∀ l ∈ ls, LitOk W l
 cls : ∀ l ∈ ls, l.f.op = 2 → l.f.cls < 3 + W.parents.length
section
variable {W : FW} {ls : List FLit} (h : LsOk W ls)
include h
theorem LsOk.sp {l : FLit} (hl : l ∈ ls) : spR (litF l) = (l.f, l.neg) := sp_lit (h.ok l hl).op.2
theorem LsOk.at (a : Int) (p : List Int) : stage2 ls a p = ls.foldl (touchIf a p) kn0 := stage_at (fun l hl => (h.ok l hl).path) a p
theorem LsOk.need (a : Int) (p : List Int) : (stage2 ls a p).needed = ls.any (needL a p) := by rw [h.at, fold_needed]; rfl
theorem LsOk.must (a : Int) (p : List Int) (c : Nat) : (stage2 ls a p).must.testBit c = ls.any (isL a p false c) := by rw [h.at, fold_must]; simp [kn0]
theorem LsOk.no (a : Int) (p : List Int) (c : Nat) : (stage2 ls a p).no.testBit c = ls.any (isL a p true c) := by rw [h.at, fold_no]; simp [kn0]
theorem LsOk.whole (a : Int) (p : List Int) : (stage2 ls a p).whole = ls.any (wholeL a p) := by rw [h.at, fold_whole]; rfl
theorem LsOk.tri (a : Int) (p : List Int) : tri (stage2 ls a p) = (ls.filter (hitL a p)).foldl numStep rs0 := by rw [h.at, fold_tri]; rfl
theorem LsOk.slots (a : Int) (p : List Int) (x : Int) : x ∈ (stage2 ls a p).slots ↔ ls.any (wayL a (p ++ [x])) = true := by rw [h.at, fold_slots]; simp [kn0]
theorem LsOk.lt (a : Int) (p : List Int) : (stage2 ls a p).slots.Pairwise (· < ·) := by rw [h.at]; exact fold_lt a p ls _ (by simp [kn0])
theorem bare_stage (a : Int) (p : List Int) : bareR (factL ls) a p = !(stage2 ls a p).needed := by
 rw [bareR, h.need, any_fact fun l hl => ?_]
 rw [needR, h.sp hl]; rfl
theorem way_stage (a : Int) (p : List Int) : (factL ls).any (wayR a p) = ls.any (wayL a p) :=
 any_fact fun l hl => by rw [wayR, h.sp hl]; rfl
theorem on_stage (a : Int) (p : List Int) : onR (factL ls) a p = factL (ls.filter (hitL a p)) := by
 rw [onR, factL, List.filter_map, factL]
 congr 1
 exact List.filter_congr fun l hl => by show hitR a p (litF l) = _; rw [hitR, h.sp hl]; rfl
theorem slots_stage (a : Int) (p : List Int) : slotsR W (factL ls) a p = (stage2 ls a p).slots := by
 refine lt_eq ?_ (h.lt a p) fun x => ?_
 ·rw [slotsR]
  refine List.Pairwise.filter _ ?_
  rw [List.pairwise_map]
  exact List.pairwise_lt_range.imp fun h' => by omega
 ·rw [h.slots, slotsR, List.mem_filter, way_stage h]
  constructor
  ·exact fun h' => h'.2
  ·intro h'
   refine ⟨?_, h'⟩
   obtain ⟨l, hl, hw⟩ := List.any_eq_true.1 h'
   rw [wayL, Bool.and_eq_true, beg_iff] at hw
   have hx : x ∈ l.f.path := hw.2.subset (by simp)
   have := (h.ok l hl).slot x hx
   exact List.mem_map.2 ⟨x.toNat, List.mem_range.2 (by omega), by omega⟩
theorem ends_stage (a : Int) (p : List Int) : endsR W (factL ls) a p = ends2 (stage2 ls) a p := by
 rw [endsR, ends2, slots_stage h]
 congr 1; funext s; rw [bare_stage h]
omit h in
theorem andNot_bit (s t c : Nat) : (andNotP s t).testBit c = (decide (c < 64) && s.testBit c && !t.testBit c) := by
 rw [andNotP, BitVec.testBit_toNat, BitVec.getLsbD_and, BitVec.getLsbD_not, BitVec.getLsbD_ofNat, BitVec.getLsbD_ofNat]
 cases decide (c < 64) <;> simp
omit h in
theorem zero_bits {n : Nat} : ((n : Int) == 0) = true ↔ ∀ c, n.testBit c = false := by
 rw [beq_iff_eq]
 constructor
 ·intro e c; have : n = 0 := by omega
  rw [this]; exact Nat.zero_testBit c
 ·intro e
  have : n = 0 := Nat.eq_of_testBit_eq fun c => by rw [e, Nat.zero_testBit]
  omega
omit h in
theorem upK_bit (cls : Int) (c : Nat) : (upK cls).testBit c = (c == 0 || c == cls.toNat) := by
 rw [upK, Nat.testBit_or, Nat.testBit_two_pow]
 congr 1
 ·rcases c with _ | c
  ·rfl
  ·rw [Nat.testBit_succ]; simp
 ·rw [Bool.eq_iff_iff, decide_eq_true_iff, beq_iff_eq]; exact eq_comm
theorem LsOk.must_lt {a : Int} {p : List Int} {c : Nat} (hc : (stage2 ls a p).must.testBit c = true) : c < 3 + W.parents.length := by
 rw [h.must] at hc
 obtain ⟨l, hl, hh⟩ := List.any_eq_true.1 hc
 simp only [isL, Bool.and_eq_true, beq_iff_eq] at hh
 have h1 := (h.ok l hl).cls hh.1.1.2
 have h2 := h.cls l hl hh.1.1.2
 omega
theorem plain_iff (a : Int) (p : List Int) (cls : Int) : plain2 (stage2 ls) a p cls = true ↔ (∀ c, (stage2 ls a p).must.testBit c = true → c = 0 ∨ c = cls.toNat) ∧ (∀ c, c = 0 ∨ c = cls.toNat → (stage2 ls a p).no.testBit c = false) ∧ ends2 (stage2 ls) a p = true := by
 have hW := world_len h.w
 rw [plain2, Bool.and_eq_true, Bool.and_eq_true, zero_bits, zero_bits, and_assoc]
 refine and_congr ?_ (and_congr ?_ Iff.rfl)
 ·refine forall_congr' fun c => ?_
  rw [andNot_bit, upK_bit]
  constructor
  ·intro h1 h2
   have := h.must_lt h2
   rw [h2, decide_eq_true (by omega)] at h1
   by_cases hc : c = 0
   ·exact .inl hc
   ·right; simp at h1; exact h1 hc
  ·intro h1
   cases hm : (stage2 ls a p).must.testBit c with
   | false => simp
   | true => rcases h1 hm with e | e <;> simp [e]
 ·refine forall_congr' fun c => ?_
  rw [Nat.testBit_and, upK_bit]
  constructor
  ·intro h1 h2
   rcases h2 with e | e <;> simpa [e] using h1
  ·intro h1
   by_cases hc : c = 0 ∨ c = cls.toNat
   ·rw [h1 hc]; rfl
   ·have : (c == 0 || c == cls.toNat) = false := by simpa [not_or] using hc
    rw [this, Bool.and_false]
omit h in
def okInt (l : FLit) : Bool := !(l.f.op == 2 && (decide (l.f.cls > 1) != l.neg))
omit h in
theorem int_lit {l : FLit} (ho : l.f.op ≤ 4) (s : RS) : intStep s (litF l) = if okInt l = true then some (numStep s l) else none := by
 unfold intStep okInt numStep
 rw [sp_lit ho]
 by_cases h2 : l.f.op = 2
 ·simp only [h2, if_true]
  cases hb : (decide (l.f.cls > 1) != l.neg) <;> simp
 ·simp only [h2, if_false]
  have : (l.f.op == 2) = false := by simpa using h2
  rw [this]
  simp only [Bool.false_and, Bool.not_false, if_true]
  (repeat' split) <;> rfl
omit h in
theorem int_lits : ∀ (r : List FLit) (s : RS), (∀ l ∈ r, l.f.op ≤ 4) → intR (factL r) s = if r.all okInt = true then some (r.foldl numStep s) else none
 | [], s, _ => rfl
 | l :: r, s, ho => by
  show intR (litF l :: factL r) s = _
  rw [intR, int_lit (ho l (.head _)), List.all_cons, List.foldl_cons]
  by_cases hk : okInt l = true
  ·rw [if_pos hk, hk, Bool.true_and]; exact int_lits r _ fun x hx => ho x (.tail _ hx)
  ·rw [if_neg hk, Bool.eq_false_iff.2 hk, Bool.false_and]; rfl
theorem ok_int_iff (a : Int) (p : List Int) : (ls.filter (hitL a p)).all okInt = true ↔ (∀ c, (stage2 ls a p).must.testBit c = true → c = 0 ∨ c = 1) ∧ (∀ c, c = 0 ∨ c = 1 → (stage2 ls a p).no.testBit c = false) := by
 rw [List.all_eq_true]
 constructor
 ·intro hk
  refine ⟨fun c hc => ?_, fun c hc => ?_⟩
  ·rw [h.must] at hc
   obtain ⟨l, hl, hh⟩ := List.any_eq_true.1 hc
   simp only [isL, Bool.and_eq_true, beq_iff_eq] at hh
   have := hk l (List.mem_filter.2 ⟨hl, hh.1.1.1⟩)
   simp only [okInt, hh.1.1.2, hh.1.2, beq_self_eq_true, Bool.true_and, Bool.not_eq_true', bne_eq_false_iff_eq, decide_eq_false_iff_not] at this
   have := (h.ok l hl).cls hh.1.1.2
   omega
  ·rw [Bool.eq_false_iff, h.no]
   intro hn
   obtain ⟨l, hl, hh⟩ := List.any_eq_true.1 hn
   simp only [isL, Bool.and_eq_true, beq_iff_eq] at hh
   have := hk l (List.mem_filter.2 ⟨hl, hh.1.1.1⟩)
   simp only [okInt, hh.1.1.2, hh.1.2, beq_self_eq_true, Bool.true_and, Bool.not_eq_true', bne_eq_false_iff_eq, decide_eq_true_eq] at this
   omega
 ·rintro ⟨h1, h2⟩ l hl
  have hl := List.mem_filter.1 hl
  simp only [okInt, Bool.not_eq_true', Bool.and_eq_false_iff, beq_eq_false_iff_ne, bne_eq_false_iff_eq]
  by_cases ho : l.f.op = 2
  ·right
   have hc := (h.ok l hl.1).cls ho
   cases hn : l.neg with
   | false =>
    rw [decide_eq_false_iff_not]
    have := h1 l.f.cls.toNat (by rw [h.must]; exact List.any_eq_true.2 ⟨l, hl.1, by simp [isL, hl.2, ho, hn]⟩)
    omega
   | true =>
    rw [decide_eq_true_eq]
    have : ∀ c, c = 0 ∨ c = 1 → l.f.cls.toNat ≠ c := fun c hc e => by
     have := h2 c hc
     rw [h.no, Bool.eq_false_iff] at this
     exact this (List.any_eq_true.2 ⟨l, hl.1, by simp [isL, hl.2, ho, hn, e]⟩)
    have h0 := this 0 (.inl rfl)
    have h1 := this 1 (.inr rfl)
    omega
  ·exact .inl ho
theorem int_stage (a : Int) (p : List Int) : (integerR W (factL ls) a p).2 = integer2 (stage2 ls) a p := by
 have e := int_lits (ls.filter (hitL a p)) rs0 fun l hl => (h.ok l (List.mem_filter.1 hl).1).op.2
 have hp := plain_iff h a p 1
 have hi := ok_int_iff h a p
 rw [integerR, on_stage h, e, ends_stage h]
 have ht := h.tri a p
 rw [integer2, Bool.eq_iff_iff, Bool.and_eq_true, hp, decide_eq_true_iff]
 by_cases hk : (ls.filter (hitL a p)).all okInt = true
 ·rw [if_pos hk, ← ht]
  simp only []
  have hh := hi.1 hk
  constructor
  ·intro h1
   by_cases hf : freeK (tri (stage2 ls a p)).2.2 (tri (stage2 ls a p)).1 ≤ (tri (stage2 ls a p)).2.1
   ·rw [if_pos hf] at h1; exact ⟨hf, hh.1, hh.2, h1⟩
   ·rw [if_neg hf] at h1; cases h1
  ·rintro ⟨h1, _, _, h2⟩
   rw [if_pos (by exact h1)]; exact h2
 ·rw [if_neg hk]
  constructor
  ·intro h1; cases h1
  ·rintro ⟨_, h1, h2, _⟩; exact absurd (hi.2 ⟨h1, h2⟩) hk
omit h in
theorem none_lit {l : FLit} (ho : l.f.op ≤ 4) : (!(isNone (litF l) == (spR (litF l)).2)) = !((l.f.op == 2 && (l.f.cls == 0 || l.f.cls == 2)) == l.neg) := by
 rw [isNone, sp_lit ho]
theorem ok_none_iff (a : Int) (p : List Int) : ((ls.filter (hitL a p)).all fun l => !((l.f.op == 2 && (l.f.cls == 0 || l.f.cls == 2)) == l.neg)) = true ↔ (stage2 ls a p).whole = false ∧ (∀ c, (stage2 ls a p).must.testBit c = true → c = 0 ∨ c = 2) ∧ (∀ c, c = 0 ∨ c = 2 → (stage2 ls a p).no.testBit c = false) := by
 rw [List.all_eq_true]
 constructor
 ·intro hk
  refine ⟨?_, fun c hc => ?_, fun c hc => ?_⟩
  ·rw [h.whole, Bool.eq_false_iff]
   intro hw
   obtain ⟨l, hl, hh⟩ := List.any_eq_true.1 hw
   simp only [wholeL, Bool.and_eq_true, bne_iff_ne, Bool.not_eq_true'] at hh
   have := hk l (List.mem_filter.2 ⟨hl, hh.1.1⟩)
   have h2 : (l.f.op == 2) = false := by simpa using hh.1.2
   rw [h2, hh.2] at this
   simp at this
  ·rw [h.must] at hc
   obtain ⟨l, hl, hh⟩ := List.any_eq_true.1 hc
   simp only [isL, Bool.and_eq_true, beq_iff_eq] at hh
   have := hk l (List.mem_filter.2 ⟨hl, hh.1.1.1⟩)
   simp only [hh.1.1.2, hh.1.2, beq_self_eq_true, Bool.true_and, Bool.not_eq_true', beq_eq_false_iff_ne, ne_eq, Bool.not_eq_false, Bool.or_eq_true, beq_iff_eq] at this
   have := (h.ok l hl).cls hh.1.1.2
   omega
  ·rw [Bool.eq_false_iff, h.no]
   intro hn
   obtain ⟨l, hl, hh⟩ := List.any_eq_true.1 hn
   simp only [isL, Bool.and_eq_true, beq_iff_eq] at hh
   have := hk l (List.mem_filter.2 ⟨hl, hh.1.1.1⟩)
   simp only [hh.1.1.2, hh.1.2, beq_self_eq_true, Bool.true_and, Bool.not_eq_true', beq_eq_false_iff_ne, ne_eq, Bool.not_eq_true, Bool.or_eq_false_iff] at this
   have := (h.ok l hl).cls hh.1.1.2
   omega
 ·rintro ⟨h0, h1, h2⟩ l hl
  have hl := List.mem_filter.1 hl
  rw [Bool.not_eq_true', beq_eq_false_iff_ne]
  by_cases ho : l.f.op = 2
  ·have hc := (h.ok l hl.1).cls ho
   rw [show (l.f.op == 2) = true from by simpa using ho, Bool.true_and]
   cases hn : l.neg with
   | false =>
    have := h1 l.f.cls.toNat (by rw [h.must]; exact List.any_eq_true.2 ⟨l, hl.1, by simp [isL, hl.2, ho, hn]⟩)
    simp only [ne_eq, Bool.not_eq_false, Bool.or_eq_true, beq_iff_eq]
    omega
   | true =>
    have : ∀ c, c = 0 ∨ c = 2 → l.f.cls.toNat ≠ c := fun c hc e => by
     have := h2 c hc
     rw [h.no, Bool.eq_false_iff] at this
     exact this (List.any_eq_true.2 ⟨l, hl.1, by simp [isL, hl.2, ho, hn, e]⟩)
    have h0 := this 0 (.inl rfl)
    have h1 := this 2 (.inr rfl)
    simp only [ne_eq, Bool.not_eq_true, Bool.or_eq_false_iff, beq_eq_false_iff_ne]
    omega
  ·have h2 : (l.f.op == 2) = false := by simpa using ho
   rw [h2, Bool.false_and]
   intro hn
   rw [h.whole, Bool.eq_false_iff] at h0
   exact h0 (List.any_eq_true.2 ⟨l, hl.1, by simp [wholeL, hl.2, h2, ← hn, ho]⟩)
theorem none_stage (a : Int) (p : List Int) : noneR W (factL ls) a p = none2 (stage2 ls) a p := by
 have hp := plain_iff h a p 2
 have hi := ok_none_iff h a p
 rw [noneR, on_stage h, ends_stage h, Bool.eq_iff_iff, none2, Bool.and_eq_true, Bool.and_eq_true, hp]
 have e : ((factL (ls.filter (hitL a p))).all fun x => !(isNone x == (spR x).2)) = ((ls.filter (hitL a p)).all fun l => !((l.f.op == 2 && (l.f.cls == 0 || l.f.cls == 2)) == l.neg)) := by
  rw [factL, List.all_map, Bool.eq_iff_iff, List.all_eq_true, List.all_eq_true]
  refine forall_congr' fun l => imp_congr_right fun hl => ?_
  show (!(isNone (litF l) == (spR (litF l)).2)) = true ↔ _
  rw [none_lit (h.ok l (List.mem_filter.1 hl).1).op.2]
 rw [e, hi, Bool.not_eq_true']
 constructor
 ·rintro ⟨⟨h0, h1, h2⟩, h3⟩; exact ⟨h0, h1, h2, h3⟩
 ·rintro ⟨h0, h1, h2, h3⟩; exact ⟨⟨h0, h1, h2⟩, h3⟩
end
end Go.Proofs.YtiljpbljebfhnaaGreat
