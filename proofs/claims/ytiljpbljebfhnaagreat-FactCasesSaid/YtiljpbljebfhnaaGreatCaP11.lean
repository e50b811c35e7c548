/- Part 11 of the proof: contracts of functions of the program and what they need. No condition beyond those that each theorem names. -/
import Derived.Test.YtiljpbljebfhnaaGreatCaP10
set_option linter.unusedVariables false
set_option linter.unusedSimpArgs false
set_option maxRecDepth 10000
namespace Go.Proofs.YtiljpbljebfhnaaGreat
open Go.Eng
open Go.Eng.Fc
/-! ### the reference: spots -/
def spR (x : Fact) : Fact × Bool := if x.op = 5 then (x.kids.getD 0 default, true) else (x, false)
def splitOk (x : Fact) : Prop := x.op = 5 → x.kids ≠ []
def rspotCells (W : FW) (L : List Fact) (arg : Int) (path : List Int) : List AV := Wcells W ++ [AV.facts L, .i arg, AV.ints path, .b false]
abbrev AV.rspot (W : FW) (L : List Fact) (arg : Int) (path : List Int) : AV := .agg (rspotCells W L arg path)
def begR (p w : List Int) : Bool := decide (p.length ≥ w.length) && p.take w.length == w
def hitR (arg : Int) (path : List Int) (x : Fact) : Bool := (spR x).1.arg == arg && (spR x).1.path == path
def onR (L : List Fact) (arg : Int) (path : List Int) : List Fact := L.filter (hitR arg path)
def needR (arg : Int) (path : List Int) (x : Fact) : Bool := !(spR x).2 && ((spR x).1.arg == arg && begR (spR x).1.path path)
def bareR (L : List Fact) (arg : Int) (path : List Int) : Bool := !L.any (needR arg path)
def wayR (arg : Int) (path : List Int) (x : Fact) : Bool := (spR x).1.arg == arg && begR (spR x).1.path path
def slotsR (W : FW) (L : List Fact) (arg : Int) (path : List Int) : List Int := ((List.range W.owner.length).map fun (n : Nat) => (n : Int)).filter fun s => L.any (wayR arg (path ++ [s]))
def slotsN (L : List Fact) (arg : Int) (path : List Int) (n : Nat) : List Int := ((List.range n).map fun (n : Nat) => (n : Int)).filter fun s => L.any (wayR arg (path ++ [s]))
theorem slotsN_len (L : List Fact) (arg : Int) (path : List Int) (n : Nat) : (slotsN L arg path n).length ≤ n := Nat.le_trans (List.length_filter_le _ _) (by simp)
theorem slotsN_yes {L : List Fact} {arg : Int} {path : List Int} {k : Nat} (h : L.any (wayR arg (path ++ [(k : Int)])) = true) : slotsN L arg path (k + 1) = slotsN L arg path k ++ [(k : Int)] := by
  rw [slotsN, List.range_succ, List.map_append, List.filter_append]
  congr 1
  simp only [List.map_cons, List.map_nil, List.filter_cons, h, if_true, List.filter_nil]
theorem slotsN_no {L : List Fact} {arg : Int} {path : List Int} {k : Nat} (h : L.any (wayR arg (path ++ [(k : Int)])) = false) : slotsN L arg path (k + 1) = slotsN L arg path k := by
  rw [slotsN, List.range_succ, List.map_append, List.filter_append]
  simp only [List.map_cons, List.map_nil, List.filter_cons, h, List.filter_nil]
  exact List.append_nil _
def endsR (W : FW) (L : List Fact) (arg : Int) (path : List Int) : Bool := (slotsR W L arg path).all fun s => bareR L arg (path ++ [s])
theorem next_cells (W : FW) (L : List Fact) (arg : Int) (path : List Int) (slot : Int) : AV.agg (Wcells W ++ [AV.facts L, .i arg, .sl 1 ((path.map fun n => [AV.i n]) ++ [[AV.i slot]]), .b false]) = AV.rspot W L arg (path ++ [slot]) := by
  rw [AV.rspot, rspotCells, AV.ints, List.map_append]; rfl
instance : HasFldV Tryz.prog 177 3 4 := ⟨by kernel_rfl⟩
theorem one_ints (l : List Int) : (l.map fun n => [AV.i n]).all allOne = true := one_map (fun _ => rfl) l
theorem p214 (x : Fact) (h : splitOk x) : PCall Tryz.prog 214 [AV.fact x] (.tup [AV.fact (spR x).1, .b (spR x).2]) := by
  intro H
  refine ACall.mk' (n := 12) Tryz.func214 rfl (by kernel_rfl) rfl rfl (fun B I w0 => ?_)
  refine S2 ?_; refine Obx ?_
  refine OL.alC rfl rfl rfl rfl (fun b0 => ?_)
  refine Oas ?_; refine S5 ?_; refine Ofa ?_; refine Old ?_; refine Ocm ?_; refine S2 ?_
  refine CW.cond rfl (fun h0 => ?_) (fun h0 => ?_)
  ·
    replace h0 := nm h0
    refine S2 ?_; refine Ofa ?_; refine Old ?_
    refine OL.popC rfl rfl rfl ((by first | exact POp.ixM rfl rfl rfl rfl rfl ⟨by omega, by have := List.length_pos_iff.2 (h h0); omega⟩ | exact POp.ixI rfl rfl rfl rfl rfl ⟨by omega, by have := List.length_pos_iff.2 (h h0); omega⟩)) ?_
    refine Ola ?_; refine Sto ?_; refine Oas ?_; refine S4 ?_
    refine Done.retR (rs := [.cell 2 29, .tmp 3]) (H' := H) rfl ((by first | exact .cellA inferInstance rfl (by repeat (first | exact .head _ | refine .tail _ ?_)) rfl rfl (.tmp rfl (.nil)) | exact .ptrA inferInstance rfl rfl (.tmp rfl (.nil)))) (AVleL.refl _) (by repeat (first | exact List.Sublist.refl _ | refine List.Sublist.cons _ ?_)) ?_
    exact ⟨by rw [spR, if_pos h0]; rfl, rfl⟩
  ·
    replace h0 := nm h0
    refine S4 ?_; refine Ola ?_; refine Sto ?_; refine Oas ?_; refine S3 ?_
    refine Done.retR (rs := [.cell 2 29, .tmp 3]) (H' := H) rfl ((by first | exact .cellA inferInstance rfl (by repeat (first | exact .head _ | refine .tail _ ?_)) rfl rfl (.tmp rfl (.nil)) | exact .ptrA inferInstance rfl rfl (.tmp rfl (.nil)))) (AVleL.refl _) (by repeat (first | exact List.Sublist.refl _ | refine List.Sublist.cons _ ?_)) ?_
    exact ⟨by rw [spR, if_neg h0]; rfl, rfl⟩
theorem p224 (p w : List Int) : PCall Tryz.prog 224 [AV.ints p, AV.ints w] (.b (begR p w)) := by
  intro H
  refine ACall.mk' (n := 18) Tryz.func224 rfl (by kernel_rfl) rfl rfl (fun B I w0 => ?_)
  refine CW.boundM (t := 0) rfl (fun hb0 => ?_)
  refine CW.boundM (t := 1) rfl (fun hb1 => ?_)
  refine S2 ?_; refine Oas ?_; refine S4 ?_; refine Omv ?_; refine Oln ?_; refine Omv ?_; refine Oln ?_; refine Ocm ?_; refine Omv ?_; refine Pmv ?_; refine Pmv ?_; refine Pln ?_
  refine OL.guardC rfl rfl rfl rfl rfl rfl (fun hg => POp.slTo rfl rfl (by first | rfl | exact hg | simp_all) rfl (by first | rfl | exact hg | simp_all) (by simp at hg; omega)) ?_
  refine Pmv ?_
  refine OL.guardC rfl rfl rfl rfl rfl rfl (fun hg => POp.call (.mk' rfl rfl rfl rfl (by simp_all [strip, constAV])) (p97 (p.take w.length) w)) ?_
  refine Opk ?_; refine Oas ?_; refine S3 ?_
  refine r1 4 (H) ?_
  exact ⟨retB (by rw [begR, show decide ((p.length : Int) ≥ w.length) = decide (p.length ≥ w.length) from by rw [decide_eq_decide]; omega]; cases decide (p.length ≥ w.length) <;> rfl), rfl⟩
theorem p217 (W : FW) (L : List Fact) (arg : Int) (path : List Int) (slot : Int) (h : path.length ≤ 1000) : PCall Tryz.prog 217 [AV.rspot W L arg path, .i slot] (AV.rspot W L arg (path ++ [slot])) := by
  intro H
  refine ACall.mk' (n := 20) Tryz.func217 rfl (by kernel_rfl) rfl rfl (fun B I w0 => ?_)
  refine S2 ?_; refine Obx ?_
  refine OL.alC rfl rfl rfl rfl (fun b0 => ?_)
  refine S3 ?_
  refine CW.dp mixed ?_
  refine DP.anyCC 3 1 (path.map fun n => [AV.i n]) ([[AV.i slot]]) 13 16 8 11 0 14 20 (by intro x hx; rcases List.mem_append.1 hx with hx | hx; (· obtain ⟨y, _, rfl⟩ := List.mem_map.1 hx; rfl); (· rcases List.mem_singleton.1 hx with rfl; rfl)) rfl (by decide +kernel) (by decide +kernel) rfl rfl (by decide +kernel) ?_
  refine TD.popCC (by decide +kernel) rfl rfl rfl rfl rfl (fun _ => (by first | exact POp.fa rfl rfl rfl rfl | exact POp.faP rfl rfl rfl rfl)) ?_
  refine TD.popCC (by decide +kernel) rfl rfl rfl rfl rfl (fun _ => (by first | exact POp.ldA rfl rfl rfl rfl | (apply POp.ldAH rfl rfl rfl; (case hm => repeat (first | exact .head _ | refine .tail _ ?_)); (case hy => rfl); (case hn => rfl)))) ?_
  refine TD.popCC (by decide +kernel) rfl rfl rfl rfl rfl (fun _ => (by first | exact POp.fa rfl rfl rfl rfl | exact POp.faP rfl rfl rfl rfl)) ?_
  refine TD.popCC (by decide +kernel) rfl rfl rfl rfl rfl (fun _ => (by first | exact POp.ld1 rfl rfl rfl rfl | (apply POp.ld1H rfl rfl rfl; (case hm => repeat (first | exact .head _ | refine .tail _ ?_)); (case hy => rfl)))) ?_
  refine TD.popCC (by decide +kernel) rfl rfl rfl rfl rfl (fun _ => (by first | exact POp.fa rfl rfl rfl rfl | exact POp.faP rfl rfl rfl rfl)) ?_
  refine TD.popCC (by decide +kernel) rfl rfl rfl rfl rfl (fun _ => (by first | exact POp.ld1 rfl rfl rfl rfl | (apply POp.ld1H rfl rfl rfl; (case hm => repeat (first | exact .head _ | refine .tail _ ?_)); (case hy => rfl)))) ?_
  refine TD.popCC (by decide +kernel) rfl rfl rfl rfl rfl (fun _ => (by first | exact POp.fa rfl rfl rfl rfl | exact POp.faP rfl rfl rfl rfl)) ?_
  refine TD.popCC (by decide +kernel) rfl rfl rfl rfl rfl (fun _ => (by first | exact POp.ld1 rfl rfl rfl rfl | (apply POp.ld1H rfl rfl rfl; (case hm => repeat (first | exact .head _ | refine .tail _ ?_)); (case hy => rfl)))) ?_
  refine TD.app1 (by decide +kernel) (by decide +kernel) rfl rfl rfl rfl rfl rfl rfl rfl (AVle.refl _) (one_ints path) (by rw [List.length_map]; omega) (by rw [List.length_map]; omega) ?_
  refine TD.popCC (by decide +kernel) rfl rfl rfl rfl rfl (fun _ => POp.move rfl rfl rfl) ?_
  refine TD.popCC (by decide +kernel) rfl rfl rfl rfl rfl (fun _ => POp.row rfl rfl (by first | rfl | simp_all [strip]) rfl rfl rfl rfl rfl rfl) ?_
  refine TD.app2 (by decide +kernel) (by decide +kernel) (by decide +kernel) rfl rfl rfl rfl rfl (fun _ => rfl) rfl (AVle.refl _) (rfl) (by rw [List.length_map]; simp; omega) (by rw [List.length_map]; simp; omega) ?_
  refine TD.popCC (by decide +kernel) rfl rfl rfl rfl rfl (fun _ => (by first | exact POp.fa rfl rfl rfl rfl | exact POp.faP rfl rfl rfl rfl)) ?_
  refine TD.popCC (by decide +kernel) rfl rfl rfl rfl rfl (fun _ => (by first | exact POp.ld1 rfl rfl rfl rfl | (apply POp.ld1H rfl rfl rfl; (case hm => repeat (first | exact .head _ | refine .tail _ ?_)); (case hy => rfl)))) ?_
  refine TD.nil ?_
  refine DP.tailC 14 (by decide +kernel) rfl ?_
  refine Obd ?_; refine Sto ?_; refine S3 ?_
  refine Done.retR (rs := [.cell 4 177]) (H' := H) rfl ((by first | exact .cellA inferInstance rfl (by repeat (first | exact .head _ | refine .tail _ ?_)) rfl rfl (.nil) | exact .ptrA inferInstance rfl rfl (.nil))) (AVleL.refl _) (by repeat (first | exact List.Sublist.refl _ | refine List.Sublist.cons _ ?_)) ?_
  exact ⟨next_cells W L arg path slot, rfl⟩
theorem need_bif (arg : Int) (path : List Int) (x : Fact) : (bif bif !(spR x).2 then (spR x).1.arg == arg else false then begR (spR x).1.path path else false) = needR arg path x := by
  rw [bif_and, bif_and, needR, Bool.and_assoc]
theorem hit_bif (arg : Int) (path : List Int) (x : Fact) : (bif (spR x).1.arg == arg then (spR x).1.path == path else false) = hitR arg path x := by
  rw [bif_and, hitR]
theorem way_bif (t : Bool) (arg : Int) (path : List Int) (x : Fact) : (bif t then true else bif (spR x).1.arg == arg then begR (spR x).1.path path else false) = (t || wayR arg path x) := by
  rw [bif_or, bif_and, wayR]
theorem any_take {α : Type} [Inhabited α] {l : List α} {i : Nat} {p : α → Bool} (h : i < l.length) : (l.take (i + 1)).any p = ((l.take i).any p || p (l.getD i default)) := by
  rw [← take_getD h, List.any_append, List.any_cons, List.any_nil, Bool.or_false]
theorem any_yes {α : Type} [Inhabited α] {l : List α} {i : Nat} {p : α → Bool} (h : i < l.length) (hp : p (l.getD i default) = true) : l.any p = true := List.any_eq_true.2 ⟨_, getD_mem h, hp⟩
theorem filter_take {α : Type} [Inhabited α] {l : List α} {i : Nat} {p : α → Bool} (h : i < l.length) : (l.take (i + 1)).filter p = (l.take i).filter p ++ if p (l.getD i default) then [l.getD i default] else [] := by
  rw [← take_getD h, List.filter_append]
  congr 1
  by_cases e : p (l.getD i default) = true
  · rw [if_pos e]; simp only [List.filter_cons, e, if_true, List.filter_nil]
  · rw [if_neg e]; simp only [List.filter_cons, e, if_false, List.filter_nil]; rfl
theorem facts_app (l : List Fact) (x : Fact) : AV.sl 6 (encFs l ++ [Fcells x]) = AV.facts (l ++ [x]) := by rw [AV.facts, encFs_map, encFs_map, List.map_append]; rfl
theorem p218 (W : FW) (L : List Fact) (hL : ∀ x ∈ L, splitOk x) (arg : Int) (path : List Int) : PCall Tryz.prog 218 [AV.rspot W L arg path] (.b (bareR L arg path)) := by
  intro H
  refine ACall.mk' (n := 36) Tryz.func218 rfl (by kernel_rfl) rfl rfl (fun B I w0 => ?_)
  refine CW.boundA (t := 0) (i := 2) rfl rfl (fun hb0 => ?_)
  refine S2 ?_; refine Obx ?_; refine Oas ?_; refine S5 ?_; refine Ofa ?_; refine Old ?_; refine Oln ?_; refine Omv ?_; refine S3 ?_
  refine lj (fun m st => ∃ i : Nat, st = ⟨[(10, .i i), (9, .i L.length), (8, AV.facts L), (1, .ptr (rspotCells W L arg path))], H⟩ ∧ m = L.length - i ∧ i ≤ L.length ∧ (L.take i).any (needR arg path) = false) (⟨0, rfl, rfl, by omega, rfl⟩) ?_
  rintro m _ ⟨i, rfl, rfl, hi, hall⟩
  refine S2 ?_; refine Ocm ?_; refine S3 ?_
  refine CW.cond rfl (fun h0 => ?_) (fun h0 => ?_)
  ·
    replace h0 := nm h0
    refine S6 ?_; refine Oix ?_; refine Ola ?_
    refine OL.alC rfl rfl rfl rfl (fun b0 => ?_)
    refine Sto ?_; refine S4 ?_; refine Ola ?_
    refine OL.popC rfl rfl rfl (POp.call (.mk' rfl rfl rfl rfl rfl) (p214 (L.getD i default) (hL (L.getD i default) (getD_mem (by omega))))) ?_
    refine Omv ?_; refine Oex ?_; refine Oex ?_
    refine OL.alC rfl rfl rfl rfl (fun b1 => ?_)
    refine Sto ?_; refine Oas ?_; refine S4 ?_; refine Omv ?_; refine Ont ?_; refine Omv ?_; refine Pfa ?_; refine Pld ?_; refine Pfa ?_; refine Pld ?_; refine Pcm ?_; refine Opk ?_
    refine Omv ?_; refine Pfa ?_; refine Pld ?_; refine Pfa ?_; refine Pld ?_
    refine OL.guardC rfl rfl rfl rfl rfl rfl (fun hg => POp.call (.mk' rfl rfl rfl rfl (by simp_all [strip, constAV])) (p224 (spR (L.getD i default)).1.path path)) ?_
    refine Opk ?_; refine S2 ?_
    refine CW.cond rfl (fun h1 => ?_) (fun h1 => ?_)
    ·
      replace h1 := nm h1
      refine S2 ?_; refine Oas ?_; refine S8 ?_
      refine r1 2 (H) ?_
      exact ⟨retB (by rw [need_bif] at h1; rw [bareR, any_yes (i := i) (by omega) h1]; rfl), rfl⟩
    ·
      replace h1 := nm h1
      refine S4 ?_; refine Oar ?_; refine Omv ?_; refine S1 ?_
      exact ag (⟨i + 1, rfl, rfl, by omega, by rw [need_bif] at h1; rw [any_take (by omega), hall, h1]; rfl⟩)
  ·
    replace h0 := nm h0
    obtain rfl : i = L.length := by omega
    rw [List.take_length] at hall
    refine S7 ?_; refine Oas ?_; refine S3 ?_
    refine r1 2 (H) ?_
    exact ⟨retB (by rw [bareR, hall]; rfl), rfl⟩
theorem p213 (W : FW) (L : List Fact) (hL : ∀ x ∈ L, splitOk x) (hl : L.length ≤ 1000) (arg : Int) (path : List Int) : PCall Tryz.prog 213 [AV.rspot W L arg path] (AV.facts (onR L arg path)) := by
  intro H
  refine ACall.mk' (n := 38) Tryz.func213 rfl (by kernel_rfl) rfl rfl (fun B I w0 => ?_)
  refine S2 ?_; refine Obx ?_; refine Oas ?_; refine S4 ?_; refine Oas ?_; refine S4 ?_
  refine CW.ownNil 3 29 6 rfl ?_
  refine S1 ?_; refine Ofa ?_; refine Old ?_; refine Oln ?_; refine Omv ?_; refine S3 ?_
  refine lj (fun m st => ∃ (i : Nat) (v : Value), st = ⟨[(11, .i i), (10, .i L.length), (9, AV.facts L), (3, .as (AV.facts ((L.take i).filter (hitR arg path))) v), (1, .ptr (rspotCells W L arg path))], .own 29 6 v :: H⟩ ∧ m = L.length - i ∧ i ≤ L.length) (⟨0, _, rfl, rfl, by omega⟩) ?_
  rintro m _ ⟨i, v, rfl, rfl, hi⟩
  refine S2 ?_; refine Ocm ?_; refine S3 ?_
  refine CW.cond rfl (fun h0 => ?_) (fun h0 => ?_)
  ·
    replace h0 := nm h0
    have hfl : ((L.take i).filter (hitR arg path)).length ≤ 1000 := Nat.le_trans (List.length_filter_le _ _) (by rw [List.length_take]; omega)
    refine S6 ?_; refine Oix ?_; refine Ola ?_
    refine OL.alC rfl rfl rfl rfl (fun b0 => ?_)
    refine Sto ?_; refine S4 ?_; refine Ola ?_
    refine OL.popC rfl rfl rfl (POp.call (.mk' rfl rfl rfl rfl rfl) (p214 (L.getD i default) (hL (L.getD i default) (getD_mem (by omega))))) ?_
    refine Omv ?_; refine Oex ?_; refine Oex ?_
    refine OL.alC rfl rfl rfl rfl (fun b1 => ?_)
    refine Sto ?_; refine Oas ?_; refine S4 ?_; refine Ofa ?_; refine Old ?_; refine Ofa ?_; refine Old ?_; refine Ocm ?_; refine Omv ?_; refine Pfa ?_; refine Pld ?_; refine Pfa ?_
    refine Pld ?_
    refine OL.guardC rfl rfl rfl rfl rfl rfl (fun hg => POp.call (.mk' rfl rfl rfl rfl (by simp_all [strip, constAV])) (p97 (spR (L.getD i default)).1.path path)) ?_
    refine Opk ?_; refine S2 ?_
    refine CW.cond rfl (fun h1 => ?_) (fun h1 => ?_)
    ·
      rw [hit_bif] at h1
      have e : (L.take (i + 1)).filter (hitR arg path) = (L.take i).filter (hitR arg path) ++ [L.getD i default] := by rw [filter_take (by omega), if_pos h1]
      refine S1 ?_; refine Omv ?_; refine Ola ?_
      refine OL.popC rfl rfl rfl (POp.row rfl rfl (by first | rfl | simp_all [strip]) rfl rfl rfl rfl rfl rfl) ?_
      refine OL.appendC rfl rfl rfl rfl rfl rfl rfl rfl (AVle.refl _) (rfl) (fun v => by repeat (first | exact Upd.head _ _ _ | apply Upd.tail)) (by show ((encFs _).length + 1) * 80 ≤ _; rw [encFs_map, List.length_map]; omega) (by show (encFs _).length + 1 ≤ _; rw [encFs_map, List.length_map]; omega) (fun v35 => ?_)
      refine Oas ?_; refine S3 ?_
      refine CW.le 3 (y := .as (AV.facts ((L.take (i + 1)).filter (hitR arg path))) v35) rfl (by rw [e, ← facts_app]; exact AVle.refl _) ?_
      refine S1 ?_; refine Oar ?_; refine Omv ?_; refine S1 ?_
      exact ag (⟨i + 1, v35, rfl, rfl, by omega⟩)
    ·
      rw [hit_bif] at h1
      have e : (L.take (i + 1)).filter (hitR arg path) = (L.take i).filter (hitR arg path) := by rw [filter_take (by omega), if_neg (by rw [h1]; simp), List.append_nil]
      refine S3 ?_
      rw [← e]
      refine S1 ?_; refine Oar ?_; refine Omv ?_; refine S1 ?_
      exact ag (⟨i + 1, v, rfl, rfl, by omega⟩)
  ·
    replace h0 := nm h0
    obtain rfl : i = L.length := by omega
    rw [List.take_length]
    refine S7 ?_; refine Omv ?_; refine Oas ?_; refine S3 ?_
    refine Done.retR (rs := [.tmp 2]) (H' := H) rfl (.tmp rfl (.nil)) (.cons (AVle.asL _ _) .nil) (by repeat (first | exact List.Sublist.refl _ | refine List.Sublist.cons _ ?_)) ?_
    exact ⟨by rfl, rfl⟩
theorem p216 (W : FW) (L : List Fact) (hL : ∀ x ∈ L, splitOk x) (ho : W.owner.length ≤ 40) (arg : Int) (path : List Int) (hp : path.length ≤ 100) : PCall Tryz.prog 216 [AV.rspot W L arg path] (AV.ints (slotsR W L arg path)) := by
  intro H
  refine ACall.mk' (n := 54) Tryz.func216 rfl (by kernel_rfl) rfl rfl (fun B I w0 => ?_)
  refine CW.boundA (t := 0) (i := 2) rfl rfl (fun hb0 => ?_)
  refine S2 ?_; refine Obx ?_; refine Oas ?_; refine S4 ?_; refine Oas ?_; refine S4 ?_
  refine CW.ownNil 3 3 1 rfl ?_
  refine S1 ?_; refine Ofa ?_; refine Ofa ?_; refine Old ?_; refine Oln ?_; refine Omv ?_; refine S3 ?_
  refine lj (fun m st => ∃ (k : Nat) (v : Value), st = ⟨[(14, .i k), (13, .i W.owner.length), (3, .as (AV.ints (slotsN L arg path k)) v), (1, .ptr (rspotCells W L arg path))], .own 3 1 v :: H⟩ ∧ m = W.owner.length - k ∧ k ≤ W.owner.length) (⟨0, _, rfl, rfl, by omega⟩) ?_
  rintro m _ ⟨k, v, rfl, rfl, hk⟩
  refine S2 ?_; refine Ocm ?_; refine S3 ?_
  refine CW.cond rfl (fun h0 => ?_) (fun h0 => ?_)
  ·
    replace h0 := nm h0
    have hsl := slotsN_len L arg path k
    refine S6 ?_; refine Omv ?_; refine Oas ?_; refine S4 ?_; refine Oas ?_; refine S5 ?_; refine Ofa ?_; refine Old ?_; refine Oln ?_; refine Omv ?_; refine S3 ?_
    refine lj (fun m st => ∃ (i : Nat), st = ⟨[(20, .i i), (19, .i L.length), (18, AV.facts L), (5, .b ((L.take i).any (wayR arg (path ++ [(k : Int)])))), (4, .i k), (14, .i k), (13, .i W.owner.length), (3, .as (AV.ints (slotsN L arg path k)) v), (1, .ptr (rspotCells W L arg path))], .own 3 1 v :: H⟩ ∧ m = L.length - i ∧ i ≤ L.length) (⟨0, rfl, rfl, by omega⟩) ?_
    rintro m _ ⟨i, rfl, rfl, hi⟩
    refine S2 ?_; refine Ocm ?_; refine S3 ?_
    refine CW.cond rfl (fun h1 => ?_) (fun h1 => ?_)
    ·
      replace h1 := nm h1
      refine S6 ?_; refine Oix ?_; refine Ola ?_
      refine OL.alC rfl rfl rfl rfl (fun b0 => ?_)
      refine Sto ?_; refine S4 ?_; refine Ola ?_
      refine OL.popC rfl rfl rfl (POp.call (.mk' rfl rfl rfl rfl rfl) (p214 (L.getD i default) (hL (L.getD i default) (getD_mem (by omega))))) ?_
      refine Omv ?_; refine Oex ?_; refine Oex ?_
      refine OL.alC rfl rfl rfl rfl (fun b1 => ?_)
      refine Sto ?_; refine Oas ?_; refine S2 ?_
      refine CW.dp mixed ?_
      refine DP.one (k := 0) (by decide +kernel) rfl ?_
      refine Omv ?_
      refine OL.nil (Done.dp ?_)
      refine DP.one (k := 1) (by decide +kernel) rfl ?_
      refine Omv ?_
      refine OL.nil (Done.dp ?_)
      refine DP.anyC 2 6 54 rfl (by decide +kernel) rfl rfl (by decide +kernel) ?_
      refine AD.guardC rfl rfl rfl rfl rfl (fun hg => (by first | exact POp.fa rfl rfl rfl rfl | exact POp.faP rfl rfl rfl rfl)) ?_
      refine AD.guardC rfl rfl rfl rfl rfl (fun hg => (by first | exact POp.ld1 rfl rfl (gd hg) rfl | (apply POp.ld1H rfl rfl (gd hg); (case hm => repeat (first | exact .head _ | refine .tail _ ?_)); (case hy => rfl)))) ?_
      refine AD.guardC rfl rfl rfl rfl rfl (fun hg => (by first | exact POp.fa rfl rfl rfl rfl | exact POp.faP rfl rfl rfl rfl)) ?_
      refine AD.guardC rfl rfl rfl rfl rfl (fun hg => (by first | exact POp.ld1 rfl rfl (gd hg) rfl | (apply POp.ld1H rfl rfl (gd hg); (case hm => repeat (first | exact .head _ | refine .tail _ ?_)); (case hy => rfl)))) ?_
      refine AD.nil ?_
      refine DP.one (k := 6) (by decide +kernel) rfl ?_
      refine Pcm ?_
      refine OL.nil (Done.dp ?_)
      refine DP.one (k := 7) (by decide +kernel) rfl ?_
      refine Pmv ?_
      refine OL.nil (Done.dp ?_)
      refine DP.anyC 8 14 54 rfl (by decide +kernel) rfl rfl (by decide +kernel) ?_
      refine AD.guardC rfl rfl rfl rfl rfl (fun hg => (by first | exact POp.fa rfl rfl rfl rfl | exact POp.faP rfl rfl rfl rfl)) ?_
      refine AD.guardC rfl rfl rfl rfl rfl (fun hg => (by first | exact POp.ld1 rfl rfl (gd hg) rfl | (apply POp.ld1H rfl rfl (gd hg); (case hm => repeat (first | exact .head _ | refine .tail _ ?_)); (case hy => rfl)))) ?_
      refine AD.guardC rfl rfl rfl rfl rfl (fun hg => (by first | exact POp.ldA rfl rfl rfl rfl | (apply POp.ldAH rfl rfl rfl; (case hm => repeat (first | exact .head _ | refine .tail _ ?_)); (case hy => rfl); (case hn => rfl)))) ?_
      refine AD.guardC rfl rfl rfl rfl rfl (fun hg => POp.move rfl rfl rfl) ?_
      refine AD.guardC rfl rfl rfl rfl rfl (fun hg => POp.call (.mk' rfl rfl rfl rfl (by simp_all [strip, constAV])) (p217 W L arg path k (by omega))) ?_
      refine AD.guardC rfl rfl rfl rfl rfl (fun hg => POp.fieldV rfl rfl (gd hg) rfl) ?_
      refine AD.nil ?_
      refine DP.tailC 14 (by decide +kernel) rfl ?_
      refine OL.guardC rfl rfl rfl rfl rfl rfl (fun hg => POp.call (.mk' rfl rfl rfl rfl (by simp_all [strip, constAV])) (p224 (spR (L.getD i default)).1.path (path ++ [(k : Int)]))) ?_
      refine Ppk ?_; refine Opk ?_; refine Oas ?_; refine S4 ?_; refine Oar ?_; refine Omv ?_; refine S1 ?_
      exact ag (⟨i + 1, by rw [any_take (by omega), ← way_bif], rfl, by omega⟩)
    ·
      replace h1 := nm h1
      obtain rfl : i = L.length := by omega
      rw [List.take_length]
      refine S7 ?_; refine Omv ?_; refine S2 ?_
      refine CW.cond rfl (fun h2 => ?_) (fun h2 => ?_)
      ·
        have e := slotsN_yes h2
        refine S1 ?_; refine Omv ?_; refine Omv ?_
        refine OL.popC rfl rfl rfl (POp.row rfl rfl (by first | rfl | simp_all [strip]) rfl rfl rfl rfl rfl rfl) ?_
        refine OL.appendC rfl rfl rfl rfl rfl rfl rfl rfl (AVle.refl _) (rfl) (fun v => by repeat (first | exact Upd.head _ _ _ | apply Upd.tail)) (by show (List.length (List.map _ _) + 1) * 8 ≤ _; rw [List.length_map]; omega) (by show List.length (List.map _ _) + 1 ≤ _; rw [List.length_map]; omega) (fun v51 => ?_)
        refine Oas ?_; refine S3 ?_
        refine CW.le 3 (y := .as (AV.ints (slotsN L arg path (k + 1))) v51) rfl (by rw [e, AV.ints, List.map_append]; exact AVle.refl _) ?_
        refine S1 ?_; refine Oar ?_; refine Omv ?_; refine S1 ?_
        exact ag (⟨k + 1, v51, rfl, rfl, by omega⟩)
      ·
        have e := slotsN_no h2
        refine S3 ?_
        rw [← e]
        refine S1 ?_; refine Oar ?_; refine Omv ?_; refine S1 ?_
        exact ag (⟨k + 1, v, rfl, rfl, by omega⟩)
  ·
    replace h0 := nm h0
    obtain rfl : k = W.owner.length := by omega
    refine S7 ?_; refine Omv ?_; refine Oas ?_; refine S3 ?_
    refine Done.retR (rs := [.tmp 2]) (H' := H) rfl (.tmp rfl (.nil)) (.cons (AVle.asL _ _) .nil) (by repeat (first | exact List.Sublist.refl _ | refine List.Sublist.cons _ ?_)) ?_
    exact ⟨by rfl, rfl⟩
theorem p215 (W : FW) (L : List Fact) (hL : ∀ x ∈ L, splitOk x) (ho : W.owner.length ≤ 40) (arg : Int) (path : List Int) (hp : path.length ≤ 100) : PCall Tryz.prog 215 [AV.rspot W L arg path] (.b (endsR W L arg path)) := by
  intro H
  refine ACall.mk' (n := 18) Tryz.func215 rfl (by kernel_rfl) rfl rfl (fun B I w0 => ?_)
  refine S2 ?_; refine Obx ?_; refine Oas ?_; refine S5 ?_; refine Ola ?_
  refine OL.popC rfl rfl rfl (POp.call (.mk' rfl rfl rfl rfl rfl) (p216 W L hL ho arg path hp)) ?_
  refine Oln ?_; refine Omv ?_; refine S3 ?_
  refine lj (fun m st => ∃ i : Nat, st = ⟨[(8, .i i), (7, .i (slotsR W L arg path).length), (6, AV.ints (slotsR W L arg path)), (1, .ptr (rspotCells W L arg path))], H⟩ ∧ m = (slotsR W L arg path).length - i ∧ i ≤ (slotsR W L arg path).length ∧ ((slotsR W L arg path).take i).all (fun s => bareR L arg (path ++ [s])) = true) (⟨0, rfl, rfl, by omega, rfl⟩) ?_
  rintro m _ ⟨i, rfl, rfl, hi, hall⟩
  refine S1 ?_
  refine CW.boundM (t := 6) rfl (fun hb => ?_)
  refine S1 ?_; refine Ocm ?_; refine S3 ?_
  refine CW.cond rfl (fun h0 => ?_) (fun h0 => ?_)
  ·
    replace h0 := nm h0
    refine S6 ?_; refine Oix ?_; refine Old ?_; refine Oas ?_; refine S4 ?_; refine Ola ?_; refine Omv ?_
    refine OL.popC rfl rfl rfl (POp.call (.mk' rfl rfl rfl rfl rfl) (p217 W L arg path _ (by omega))) ?_
    refine OL.popC rfl rfl rfl (POp.call (.mk' rfl rfl rfl rfl rfl) (p218 W L hL arg _)) ?_
    refine Ont ?_; refine S2 ?_
    refine CW.cond rfl (fun h1 => ?_) (fun h1 => ?_)
    ·
      replace h1 := nm h1
      refine S2 ?_; refine Oas ?_; refine S8 ?_
      refine r1 2 (H) ?_
      exact ⟨retB (by rw [endsR]; symm; rw [List.all_eq_false]; exact ⟨(slotsR W L arg path).getD i default, getD_mem (by omega), by simpa using h1⟩), rfl⟩
    ·
      replace h1 := nm h1
      refine S4 ?_; refine Oar ?_; refine Omv ?_; refine S1 ?_
      exact ag (⟨i + 1, rfl, rfl, by omega, by rw [← take_getD (by omega), List.all_append, hall]; simpa using h1⟩)
  ·
    replace h0 := nm h0
    obtain rfl : i = (slotsR W L arg path).length := by omega
    rw [List.take_length] at hall
    refine S7 ?_; refine Oas ?_; refine S3 ?_
    refine r1 2 (H) ?_
    exact ⟨retB (by rw [endsR, hall]), rfl⟩
end Go.Proofs.YtiljpbljebfhnaaGreat
