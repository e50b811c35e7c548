/- Part 9 of the proof: contracts of functions of the program and what they need. No condition beyond those that each theorem names. -/
import Derived.Test.YtiljpbljebfhnaaGreatSdP8
set_option linter.unusedVariables false
set_option linter.unusedSimpArgs false
set_option maxRecDepth 10000
namespace Go.Proofs.YtiljpbljebfhnaaGreat
open Go.Eng
open Go.Eng.Fc
mutual
def putF (y : Fact) : Fact → Int → Fact
 | .mk op arg path cls n kids, i => if i = 0 then y else .mk op arg path cls n (putsF y kids (i - 1))
def putsF (y : Fact) : List Fact → Int → List Fact
 | [], _ => []
 | k :: r, i => putF y k i :: putsF y r (i - nodesN k)
end
theorem putF_zero (y f : Fact) : putF y f 0 = y := by cases f; rw [putF]; exact if_pos rfl
theorem putF_ne {y f : Fact} {i : Int} (h : ¬ i = 0) : putF y f i = .mk f.op f.arg f.path f.cls f.n (putsF y f.kids (i - 1)) := by cases f; rw [putF]; exact if_neg h
theorem nodesNs_take {l : List Fact} {j : Nat} (h : j < l.length) : nodesNs (l.take (j + 1)) = nodesNs (l.take j) + nodesN (l.getD j default) := by
 induction l generalizing j with
 | nil => simp at h
 | cons x r ih =>
  cases j with
  | zero => simp [nodesNs]
  | succ j =>
   rw [List.take_succ_cons, List.take_succ_cons, nodesNs, nodesNs, ih (by simpa using h)]
   simp only [List.getD_cons_succ]; omega
theorem nodesNs_le {l : List Fact} (j : Nat) : nodesNs (l.take j) ≤ nodesNs l := by
 induction l generalizing j with
 | nil => simp [nodesNs]
 | cons x r ih =>
  cases j with
  | zero => simp [nodesNs]
  | succ j => rw [List.take_succ_cons, nodesNs, nodesNs]; have := ih j; omega
theorem kids_nodes (f : Fact) : f.kids.length ≤ nodesN f := by
 have : ∀ l : List Fact, l.length ≤ nodesNs l := by
  intro l
  induction l with
  | nil => simp
  | cons x r ih => rw [nodesNs, List.length_cons, nodesN_eq]; omega
 have := this f.kids; rw [nodesN_eq]; omega
theorem fc_len (x : Fact) : (Fcells x).length = 6 := rfl
theorem flat_len (l : List Fact) : ((l.map Fcells).flatten).length = l.length * 6 := by
 rw [flatten_len (k := 6) (by simp [fc_len]), List.length_map]
theorem put_cell {ys K : List Fact} {j : Nat} {more : List AV} (h : ys.length = j) (hj : j < K.length) : ((((ys ++ K.drop j).map Fcells).flatten ++ more).drop (0 + ((j : Int)).toNat * 6)).take 6 = Fcells (K.getD j default) := by
 rw [List.drop_eq_getElem_cons hj, getD_lt hj]
 have e : 0 + ((j : Int)).toNat * 6 = ((ys.map Fcells).flatten).length := by rw [flat_len, h]; simp
 have e2 : ((ys ++ K[j] :: K.drop (j + 1)).map Fcells).flatten ++ more = (ys.map Fcells).flatten ++ (Fcells K[j] ++ (((K.drop (j + 1)).map Fcells).flatten ++ more)) := by
  rw [List.map_append, List.flatten_append, List.append_assoc, List.map_cons, List.flatten_cons, List.append_assoc]
 rw [e, e2, List.drop_left]
 exact List.take_left (l₁ := Fcells K[j])
theorem put_set {ys K : List Fact} {j : Nat} {more : List AV} (h : ys.length = j) (hj : j < K.length) (x : Fact) : (((ys ++ K.drop j).map Fcells).flatten ++ more).take (0 + ((j : Int)).toNat * 6) ++ bcells (.agg (Fcells x)) ++ (((ys ++ K.drop j).map Fcells).flatten ++ more).drop (0 + ((j : Int)).toNat * 6 + 6) = (((ys ++ [x]) ++ K.drop (j + 1)).map Fcells).flatten ++ more := by
 have e : 0 + ((j : Int)).toNat * 6 = ((ys.map Fcells).flatten).length := by rw [flat_len, h]; simp
 have e2 : ((ys ++ K.drop j).map Fcells).flatten ++ more = (ys.map Fcells).flatten ++ (Fcells K[j] ++ (((K.drop (j + 1)).map Fcells).flatten ++ more)) := by
  rw [List.drop_eq_getElem_cons hj, List.map_append, List.flatten_append, List.append_assoc, List.map_cons, List.flatten_cons, List.append_assoc]
 rw [e, e2, List.take_left, ← List.drop_drop, List.drop_left, show List.drop 6 (Fcells K[j] ++ (((K.drop (j + 1)).map Fcells).flatten ++ more)) = ((K.drop (j + 1)).map Fcells).flatten ++ more from List.drop_left (l₁ := Fcells K[j])]
 simp [bcells]
theorem AVle.eqI {a b : Int} (h : a = b) : AVle (.i a) (.i b) := h ▸ .refl _
theorem CW.freezeCell {c : Ctx} {r : Option Nat} {P : Program} {p : Code} {Q : Exit → Act → World → Prop} {env : List (Nat × AV)} {kb fb t tb n cap k : Nat} {els : List (List AV)} {more xs ys : List AV} {R : List Ent}
  (hn : els.length = n) (hk : ∀ e ∈ els, e.length = k) (hc : n ≤ cap) (hm : cap ≤ maxLen) (h : CW c r P p ⟨env, .blk fb tb (xs ++ .sl k els :: ys) :: R⟩ Q) : CW c r P p ⟨env, .blk kb t (els.flatten ++ more) :: .blk fb tb (xs ++ .val (.slice (some ⟨kb, 0, none⟩) n cap) :: ys) :: R⟩ Q := fun a w s => by
 refine h a w ?_
 obtain ⟨I, hw, he, hh, hv⟩ := s.mem
 obtain ⟨hB, vs, hb, hr, hni⟩ := hh.ok _ (.head _)
 obtain ⟨a1, a2, a3, a4⟩ := Imm.freeze (n := vs.size) hw hh (.head _ _) (b := kb) rfl hb (Nat.le_refl _)
 have h1 := (a4 _ vs.toList hr (by rw [← Array.length_toList, List.take_length])).take els.flatten.length
 rw [List.take_left] at h1
 refine ⟨s.ds, s.size, _, a1, he.trans a2, HeapOk.head a3 (fun ⟨q1, us, q2, q3, q4⟩ => ⟨q1, us, q2, RelL.replace (fun v hv => ?_) q3, q4⟩) rfl, hv.keep a2.keeps⟩
 rw [rel_val hv]
 exact .sl _ _ _ _ _ _ hn hc hm (els_of_cells els 0 hk h1)
theorem a192 (B : Nat) (l : List Fact) (hne : l ≠ []) (hl : l.length ≤ 100000) (H : List Ent) : BCall B Tryz.prog 192 [AV.facts l] H (fun y H' => ∃ b cap more, y = .val (.slice (some ⟨b, 0, none⟩) (l.map Fcells).length cap) ∧ (l.map Fcells).length ≤ cap ∧ cap ≤ maxLen ∧ H' = .blk b 29 ((l.map Fcells).flatten ++ more) :: H) (fun _ => False) := by
 refine BCall.of (n := 8) Tryz.func192 rfl (by kernel_rfl) rfl rfl (fun I w0 => ?_)
 refine S2 ?_; refine Oas ?_; refine S5 ?_; refine Omv ?_
 refine OL.isNilC rfl rfl rfl rfl rfl rfl rfl (AVle.refl _) rfl rfl (fun n4 hn4 => ?_)
 refine S2 ?_
 refine CW.cond rfl (fun h0 => ?_) (fun h0 => ?_)
 ·
  exact absurd (hn4 h0) (by rw [encFs_map]; simpa using hne)
 ·
  refine S4 ?_; refine Or0 ?_; refine Omv ?_
  refine OL.appendNew (news := l.map Fcells) rfl rfl rfl rfl rfl rfl (AVle.refl _) rfl rfl (by rw [← encFs_map]; exact AVle.refl _) (by simpa using hne) (one_map (fun _ => rfl) l) (by simp; omega) (by simp; omega) (fun b cap more hc1 hc2 => ?_)
  refine Oas ?_; refine S3 ?_
  refine Done.retR (rs := [.tmp 2]) rfl (.tmp rfl (.nil)) (AVleL.refl _) (by exact List.Sublist.refl _) ?_
  exact ⟨b, cap, more, rfl, hc1, hc2, rfl⟩
theorem p147_leaf (y f : Fact) (hk : f.kids = []) (i : Int) (hi : ¬ i = 0) (hb : i ≤ 1000000 ∧ -1000000 ≤ i - nodesN f) : PCall Tryz.prog 147 [AV.fact f, .i i, AV.fact y] (.tup [AV.fact (putF y f i), .i (nodesN f)]) := by
 intro H
 refine ACall.mk' (n := 57) Tryz.func147 rfl (by kernel_rfl) rfl rfl (fun B I w0 => ?_)
 have hn1 : nodesN f = 1 := by rw [nodesN_eq, hk]; rfl
 have hpf : putF y f i = f := by rw [putF_ne hi, hk, putsF]; exact Fact.ext' rfl rfl rfl rfl rfl hk.symm
 refine S2 ?_
 refine OL.boxC rfl rfl rfl rfl rfl rfl rfl (fun b0 => ?_)
 refine Obx ?_
 refine OL.alC rfl rfl rfl rfl (fun b1 => ?_)
 refine Oas ?_; refine S5 ?_; refine Omv ?_; refine Ocm ?_; refine S2 ?_
 refine CW.cond rfl (fun h0 => ?_) (fun h0 => ?_)
 ·
  exact absurd (by simpa using h0) hi
 ·
  refine S4 ?_; refine Oas ?_; refine S4 ?_; refine Ofa ?_; refine Old ?_
  refine OL.popC rfl rfl rfl (POp.call (.mk' rfl rfl rfl rfl rfl) (p192 f.kids (by rw [hk]; simp))) ?_
  refine Ofa ?_; refine Sto ?_; refine S5 ?_; refine Ofa ?_; refine Old ?_; refine Oln ?_; refine Omv ?_; refine S3 ?_
  refine lj (fun m st => st = ⟨[(32, .i 0), (31, .i f.kids.length), (10, .i 1), (3, .p b0 0), (6, .p b1 0)], .blk b1 29 [.i 0, .i 0, .val (.slice none 0 0), .i 0, .i 0, .val (.slice none 0 0)] :: .blk b0 29 (Fcells f) :: H⟩ ∧ m = 0) (⟨rfl, rfl⟩) ?_
  rintro m _ ⟨rfl, rfl⟩
  refine S2 ?_; refine Ocm ?_; refine S3 ?_
  refine CW.cond rfl (fun h1 => ?_) (fun h1 => ?_)
  ·
   exfalso
   rw [hk] at h1
   exact absurd h1 (by decide)
  ·
   refine S7 ?_; refine Ola ?_; refine Omv ?_; refine Sto ?_; refine Oas ?_; refine S3 ?_
   refine Done.retR (rs := [.cell 6 29, .tmp 7]) (H' := H) rfl ((by first | exact .cellA inferInstance rfl (by repeat (first | exact .head _ | refine .tail _ ?_)) rfl rfl (.tmp rfl (.nil)) | exact .ptrA inferInstance rfl rfl (.tmp rfl (.nil)))) (AVleL.refl _) (by repeat (first | exact List.Sublist.refl _ | refine List.Sublist.cons _ ?_)) ?_
   exact ⟨by rw [hpf, hn1]; rfl, rfl⟩
theorem p147_node (y f : Fact) (hk : f.kids ≠ []) (hf : nodesN f ≤ 1000) (ih : ∀ k ∈ f.kids, ∀ i : Int, i ≤ 1000000 ∧ -1000000 ≤ i - nodesN k → PCall Tryz.prog 147 [AV.fact k, .i i, AV.fact y] (.tup [AV.fact (putF y k i), .i (nodesN k)])) (i : Int) (hi : ¬ i = 0) (hb : i ≤ 1000000 ∧ -1000000 ≤ i - nodesN f) : PCall Tryz.prog 147 [AV.fact f, .i i, AV.fact y] (.tup [AV.fact (putF y f i), .i (nodesN f)]) := by
 intro H
 refine ACall.mk' (n := 57) Tryz.func147 rfl (by kernel_rfl) rfl rfl (fun B I w0 => ?_)
 have hkl := kids_nodes f
 have hnf := nodesN_eq f
 refine S2 ?_
 refine OL.boxC rfl rfl rfl rfl rfl rfl rfl (fun b0 => ?_)
 refine Obx ?_
 refine OL.alC rfl rfl rfl rfl (fun b1 => ?_)
 refine Oas ?_; refine S5 ?_; refine Omv ?_; refine Ocm ?_; refine S2 ?_
 refine CW.cond rfl (fun h0 => ?_) (fun h0 => ?_)
 ·
  exact absurd (by simpa using h0) hi
 ·
  refine S4 ?_; refine Oas ?_; refine S4 ?_; refine Ofa ?_; refine Old ?_
  refine OL.bcallC rfl rfl rfl (.mk' rfl rfl rfl rfl rfl) (a192 _ f.kids hk (by omega) _) ?_
  rintro z H1 ⟨kb, cap, more, rfl, hc1, hc2, rfl⟩
  refine Ofa ?_; refine Sto ?_; refine S5 ?_; refine Ofa ?_; refine Old ?_; refine Oln ?_; refine Omv ?_; refine S3 ?_
  refine lj (fun m st => ∃ (j : Nat) (ys : List Fact), st = ⟨[(32, .i j), (31, .i (f.kids.map Fcells).length), (30, .val (.slice (some ⟨kb, 0, none⟩) (f.kids.map Fcells).length cap)), (10, .i (1 + nodesNs (f.kids.take j) : Nat)), (1, .i i), (3, .p b0 0), (5, .ptr (Fcells y)), (6, .p b1 0)], .blk kb 29 (((ys ++ f.kids.drop j).map Fcells).flatten ++ more) :: .blk b1 29 [.i 0, .i 0, .val (.slice none 0 0), .i 0, .i 0, .val (.slice none 0 0)] :: .blk b0 29 [.i f.op, .i f.arg, AV.ints f.path, .i f.cls, .i f.n, .val (.slice (some ⟨kb, 0, none⟩) (f.kids.map Fcells).length cap)] :: H⟩ ∧ m = f.kids.length - j ∧ j ≤ f.kids.length ∧ ys.length = j ∧ ys ++ putsF y (f.kids.drop j) (i - 1 - nodesNs (f.kids.take j)) = putsF y f.kids (i - 1)) (⟨0, [], rfl, rfl, Nat.zero_le _, rfl, by simp [nodesNs]⟩) ?_
  rintro m _ ⟨j, ys, rfl, rfl, hj, hyl, hys⟩
  have hlen : (f.kids.map Fcells).length = f.kids.length := List.length_map _
  refine S2 ?_; refine Ocm ?_; refine S3 ?_
  refine CW.cond rfl (fun h1 => ?_) (fun h1 => ?_)
  ·
   replace h1 := nm h1
   rw [hlen] at h1
   have hjl : j < f.kids.length := by omega
   have hnt := nodesNs_take hjl
   have hle := nodesNs_le (l := f.kids) (j + 1)
   have hkm : f.kids.getD j default ∈ f.kids := getD_mem hjl
   have hdr : putsF y (f.kids.drop j) (i - 1 - nodesNs (f.kids.take j)) = putF y (f.kids.getD j default) (i - 1 - nodesNs (f.kids.take j)) :: putsF y (f.kids.drop (j + 1)) (i - 1 - nodesNs (f.kids.take j) - nodesN (f.kids.getD j default)) := by rw [List.drop_eq_getElem_cons hjl, putsF, getD_lt hjl]
   refine S6 ?_; refine Omv ?_
   refine OL.popC rfl rfl rfl (POp.ixC rfl rfl rfl rfl rfl (by omega)) ?_
   refine OL.popC rfl rfl rfl (POp.ldAH rfl rfl rfl (.head _) (put_cell hyl hjl) rfl) ?_
   refine OL.alC rfl rfl rfl rfl (fun b2 => ?_)
   refine Oas ?_; refine Sto ?_; refine S4 ?_; refine Ola ?_; refine Omv ?_; refine Omv ?_; refine Oar ?_
   rw [show i - ((1 + nodesNs (f.kids.take j) : Nat) : Int) = i - 1 - nodesNs (f.kids.take j) by omega]
   refine Ola ?_
   refine OL.popC rfl rfl rfl (POp.call (.mk' rfl rfl rfl rfl rfl) (ih _ hkm _ (by omega))) ?_
   refine Omv ?_; refine Oex ?_; refine Oex ?_
   refine OL.alC rfl rfl rfl rfl (fun b3 => ?_)
   refine Sto ?_; refine Oas ?_; refine S4 ?_; refine Ofa ?_; refine Old ?_; refine Omv ?_; refine Ola ?_
   refine OL.popC rfl rfl rfl (POp.ixC rfl rfl rfl rfl rfl (by omega)) ?_
   apply OL.stoC rfl rfl rfl rfl rfl rfl rfl rfl rfl rfl
   (case hu => repeat (first | exact Upd.head _ _ _ | apply Upd.tail)); (case hfit => exact Nat.ble_eq_true_of_le (by simp only [List.length_append, flat_len, bcells, fc_len, List.length_drop]; omega)); (case hds => exact put_set hyl hjl _)
   refine S3 ?_; refine Omv ?_; refine Omv ?_; refine Oar ?_; refine Oas ?_; refine S3 ?_
   refine CW.le 10 (y := .i (1 + nodesNs (f.kids.take (j + 1)) : Nat)) rfl (AVle.eqI (by omega)) ?_
   refine S1 ?_; refine Oar ?_; refine Omv ?_; refine S1 ?_
   exact ag (⟨j + 1, ys ++ [putF y (f.kids.getD j default) (i - 1 - nodesNs (f.kids.take j))], rfl, rfl, by omega, by simp; omega, by rw [← hys, hdr, hnt, List.append_assoc, List.singleton_append, show i - 1 - ((nodesNs (f.kids.take j) + nodesN (f.kids.getD j default) : Nat) : Int) = i - 1 - nodesNs (f.kids.take j) - nodesN (f.kids.getD j default) by omega]⟩)
  ·
   replace h1 := nm h1
   rw [hlen] at h1
   obtain rfl : j = f.kids.length := by omega
   rw [List.drop_length, putsF, List.append_nil] at hys
   refine CW.perm (H' := .blk kb 29 (((ys ++ f.kids.drop f.kids.length).map Fcells).flatten ++ more) :: .blk b0 29 [.i f.op, .i f.arg, AV.ints f.path, .i f.cls, .i f.n, .val (.slice (some ⟨kb, 0, none⟩) (f.kids.map Fcells).length cap)] :: .blk b1 29 [.i 0, .i 0, .val (.slice none 0 0), .i 0, .i 0, .val (.slice none 0 0)] :: H) (.cons _ (.swap _ _ _)) ?_
   refine CW.eqH (H' := .blk kb 29 ((encFs ys).flatten ++ more) :: .blk b0 29 ([.i f.op, .i f.arg, AV.ints f.path, .i f.cls, .i f.n] ++ .val (.slice (some ⟨kb, 0, none⟩) (f.kids.map Fcells).length cap) :: []) :: .blk b1 29 [.i 0, .i 0, .val (.slice none 0 0), .i 0, .i 0, .val (.slice none 0 0)] :: H) (by rw [encFs_map, List.drop_length, List.append_nil]; rfl) ?_
   refine CW.freezeCell (k := 6) (by rw [encFs_map, List.length_map, hlen, hyl]) (by rw [encFs_map]; simp [fc_len]) hc1 hc2 ?_
   refine S7 ?_; refine Ola ?_; refine Omv ?_; refine Sto ?_; refine Oas ?_; refine S3 ?_
   refine Done.retR (rs := [.cell 6 29, .tmp 7]) (H' := H) rfl ((by first | exact .cellA inferInstance rfl (by repeat (first | exact .head _ | refine .tail _ ?_)) rfl rfl (.tmp rfl (.nil)) | exact .ptrA inferInstance rfl rfl (.tmp rfl (.nil)))) (AVleL.refl _) (by repeat (first | exact List.Sublist.refl _ | refine List.Sublist.cons _ ?_)) ?_
   exact ⟨by rw [putF_ne hi, ← hys, hnf, List.take_length]; rfl, rfl⟩
theorem p147_zero (y f : Fact) (h : PCall Tryz.prog 147 [AV.fact f, .i (-1), AV.fact y] (.tup [AV.fact (putF y f (-1)), .i (nodesN f)])) : PCall Tryz.prog 147 [AV.fact f, .i 0, AV.fact y] (.tup [AV.fact (putF y f 0), .i (nodesN f)]) := by
 intro H
 refine ACall.mk' (n := 57) Tryz.func147 rfl (by kernel_rfl) rfl rfl (fun B I w0 => ?_)
 refine S2 ?_
 refine OL.boxC rfl rfl rfl rfl rfl rfl rfl (fun b0 => ?_)
 refine Obx ?_
 refine OL.alC rfl rfl rfl rfl (fun b1 => ?_)
 refine Oas ?_; refine S5 ?_; refine Omv ?_; refine Ocm ?_; refine S2 ?_
 refine CW.cond rfl (fun h0 => ?_) (fun h0 => ?_)
 ·
  refine S2 ?_; refine Ola ?_; refine Ola ?_
  refine OL.popC rfl rfl rfl (POp.call (.mk' rfl rfl rfl rfl rfl) (h)) ?_
  refine Omv ?_; refine Oex ?_; refine Oex ?_
  refine OL.alC rfl rfl rfl rfl (fun b2 => ?_)
  refine Sto ?_; refine Oas ?_; refine S4 ?_; refine Ola ?_; refine Omv ?_; refine Sto ?_; refine Oas ?_; refine S4 ?_
  refine Done.retR (rs := [.cell 6 29, .tmp 7]) (H' := H) rfl ((by first | exact .cellA inferInstance rfl (by repeat (first | exact .head _ | refine .tail _ ?_)) rfl rfl (.tmp rfl (.nil)) | exact .ptrA inferInstance rfl rfl (.tmp rfl (.nil)))) (AVleL.refl _) (by repeat (first | exact List.Sublist.refl _ | refine List.Sublist.cons _ ?_)) ?_
  exact ⟨by rw [putF_zero]; rfl, rfl⟩
 ·
  exact absurd h0 (by simp)
theorem p147 (y : Fact) : ∀ f : Fact, nodesN f ≤ 1000 → ∀ i : Int, i ≤ 1000000 ∧ -1000000 ≤ i - nodesN f → PCall Tryz.prog 147 [AV.fact f, .i i, AV.fact y] (.tup [AV.fact (putF y f i), .i (nodesN f)]) := by
 refine Fact.ind1 fun f ih hn i hi => ?_
 have hk1 : ∀ l : List Fact, ∀ k ∈ l, nodesN k ≤ nodesNs l := by
  intro l
  induction l with
  | nil => intro k hk; cases hk
  | cons x r ihr => intro k hk; rw [nodesNs]; rcases List.mem_cons.1 hk with rfl | hk; omega; have := ihr k hk; omega
 have hk2 : ∀ k ∈ f.kids, nodesN k ≤ 1000 := fun k hk => by have := hk1 f.kids k hk; rw [nodesN_eq] at hn; omega
 have ne : ∀ i : Int, ¬ i = 0 → i ≤ 1000000 ∧ -1000000 ≤ i - nodesN f → PCall Tryz.prog 147 [AV.fact f, .i i, AV.fact y] (.tup [AV.fact (putF y f i), .i (nodesN f)]) := by
  intro i h0 hi
  by_cases hk : f.kids = []
  ·exact p147_leaf y f hk i h0 hi
  ·exact p147_node y f hk hn (fun k hkm i hi => ih k hkm (hk2 k hkm) i hi) i h0 hi
 by_cases h0 : i = 0
 ·subst h0; exact p147_zero y f (ne (-1) (by omega) (by omega))
 ·exact ne i h0 hi
def EvR (J Jx : List Fact → List Ent → Prop) (pre l : List Fact) (Hx : List Ent) (y : AV) (H' : List Ent) : Prop :=
 ∃ b H1, y = .b b ∧ H' = H1 ++ Hx ∧ (b = false → J (pre ++ l) H1) ∧ (b = true → ∃ q, q <+: l ∧ Jx (pre ++ q) H1)
mutual
def nodesL : Fact → List Fact
 | .mk op arg path cls n kids => .mk op arg path cls n kids :: nodesLs kids
def nodesLs : List Fact → List Fact
 | [] => []
 | k :: r => nodesL k ++ nodesLs r
end
theorem nodesLs_flat : ∀ l : List Fact, nodesLs l = l.flatMap nodesL
 | [] => rfl
 | k :: r => by rw [nodesLs, nodesLs_flat r]; simp
theorem nodesL_eq (f : Fact) : nodesL f = f :: f.kids.flatMap nodesL := by cases f; rw [nodesL, nodesLs_flat]; rfl
theorem e76 {B : Nat} {f : Fn} {fs cs : List AV} {F : List Ent → Prop} {J Jx : List Fact → List Ent → Prop} {l : List Fact} (hg : FindOk B Tryz.prog (.fn f fs cs) AV.fact l F J Jx) (H Hx : List Ent) (hF : F Hx) (hJ : J [] H) :
  BCall B Tryz.prog 76 [AV.facts l, .fn f fs cs] (H ++ Hx) (EvR J Jx [] l Hx) (fun _ => False) := by
 refine BCall.of (n := 9) Tryz.func76 rfl (by kernel_rfl) rfl rfl (fun I w0 => ?_)
 refine S2 ?_; refine Oas ?_; refine S4 ?_; refine Omv ?_; refine Omv ?_
 refine OL.bcallC rfl rfl rfl (.mk' rfl rfl rfl rfl rfl) (b130 l hg H Hx hF hJ) ?_
 rintro y H1 ⟨H2, rfl, ⟨rfl, hr⟩ | ⟨q, x, rest, hl, rfl, hr⟩⟩
 ·
  refine Ocm ?_; refine Oas ?_; refine S3 ?_
  refine Done.retR (rs := [.tmp 4]) (H' := H2 ++ Hx) rfl (.tmp rfl (.nil)) (AVleL.refl _) (by exact List.Sublist.refl _) ?_
  exact ⟨false, H2, rfl, rfl, (fun _ => hr), (fun h => by cases h)⟩
 ·
  refine Ocm ?_; refine Oas ?_; refine S3 ?_
  refine Done.retR (rs := [.tmp 4]) (H' := H2 ++ Hx) rfl (.tmp rfl (.nil)) (AVleL.refl _) (by exact List.Sublist.refl _) ?_
  exact ⟨true, H2, by show AV.b (decide _) = _; first | (congr 1; done) | (congr 1; simp), rfl, (fun h => by cases h), fun _ => ⟨q ++ [x], ⟨rest, by rw [hl]; simp⟩, by simpa using hr⟩⟩
theorem b191 {B : Nat} {g : Fn} {gs gc : List AV} {J Jx : List Fact → List Ent → Prop} {pre l : List Fact} {k : Fact} {H Hx : List Ent} (h : BCall B Tryz.prog 144 [AV.fact k, .fn g gs gc] (H ++ Hx) (EvR J Jx pre l Hx) (fun _ => False)) :
  BCall B Tryz.prog 191 [AV.fact k, .ptr [.fn g gs gc]] (H ++ Hx) (EvR J Jx pre l Hx) (fun _ => False) := by
 refine BCall.of (n := 7) Tryz.func191 rfl (by kernel_rfl) rfl rfl (fun I w0 => ?_)
 refine S2 ?_; refine Obx ?_; refine Oas ?_; refine S4 ?_; refine Ola ?_; refine Old ?_
 refine OL.bcallC rfl rfl rfl (.mk' rfl rfl rfl rfl rfl) (h) ?_
 rintro y H1 ⟨b, H2, rfl, rfl, e1, e2⟩
 refine Oas ?_; refine S3 ?_
 refine Done.retR (rs := [.tmp 3]) (H' := H2 ++ Hx) rfl (.tmp rfl (.nil)) (AVleL.refl _) (by exact List.Sublist.refl _) ?_
 exact ⟨b, H2, rfl, rfl, e1, e2⟩
theorem every_two {J Jx : List Fact → List Ent → Prop} {pre : List Fact} {f : Fact} {Hx H2 H' : List Ent} {y : AV} {b : Bool} (e1 : b = false → J (pre ++ [f]) H2) (e2 : b = true → Jx (pre ++ [f]) H2)
  (hy1 : (!b) = true → EvR (fun ks H => J (pre ++ [f] ++ ks.flatMap nodesL) H) (fun ks H => ∃ q, q <+: ks.flatMap nodesL ∧ Jx (pre ++ [f] ++ q) H) [] f.kids Hx y H') (hy2 : (!b) = false → y = .b false ∧ H' = H2 ++ Hx) :
  ∃ b2 H3, y = .b b2 ∧ H' = H3 ++ Hx ∧ ((bif b then true else b2) = false → J (pre ++ nodesL f) H3) ∧ ((bif b then true else b2) = true → ∃ q, q <+: nodesL f ∧ Jx (pre ++ q) H3) := by
 cases b with
 | true =>
  obtain ⟨rfl, rfl⟩ := hy2 rfl
  exact ⟨false, H2, rfl, rfl, (fun h => by cases h), fun _ => ⟨[f], by rw [nodesL_eq]; exact ⟨_, rfl⟩, e2 rfl⟩⟩
 | false =>
  obtain ⟨b2, H3, rfl, rfl, q1, q2⟩ := hy1 rfl
  refine ⟨b2, H3, rfl, rfl, fun h => ?_, fun h => ?_⟩
  ·have := q1 h
   rw [nodesL_eq]; simpa using this
  ·obtain ⟨ks, hks, q, hq, hx⟩ := q2 h
   refine ⟨f :: q, ?_, by simpa using hx⟩
   rw [nodesL_eq]
   obtain ⟨r, hr⟩ := hks
   refine List.prefix_cons_inj _ |>.2 (hq.trans ?_)
   rw [← hr]; simp
theorem flat_prefix {L pre : List Fact} {f : Fact} {ks : List Fact} {k : Fact} (hL : pre ++ nodesL f <+: L) (hp : ks ++ [k] <+: f.kids) : pre ++ [f] ++ ks.flatMap nodesL ++ nodesL k <+: L := by
 refine List.IsPrefix.trans ?_ hL
 obtain ⟨r, hr⟩ := hp
 rw [nodesL_eq f, ← hr]
 exact ⟨r.flatMap nodesL, by simp⟩
theorem b144_step {B : Nat} {g : Fn} {gs gc : List AV} {L : List Fact} {F : List Ent → Prop} {J Jx : List Fact → List Ent → Prop} (hg : FindOk B Tryz.prog (.fn g gs gc) AV.fact L F J Jx) (f : Fact)
  (ih : ∀ k ∈ f.kids, ∀ pre, pre ++ nodesL k <+: L → ∀ H Hx, F Hx → J pre H → BCall B Tryz.prog 144 [AV.fact k, .fn g gs gc] (H ++ Hx) (EvR J Jx pre (nodesL k) Hx) (fun _ => False)) (pre : List Fact) (hL : pre ++ nodesL f <+: L) (H Hx : List Ent) (hF : F Hx) (hJ : J pre H) :
  BCall B Tryz.prog 144 [AV.fact f, .fn g gs gc] (H ++ Hx) (EvR J Jx pre (nodesL f) Hx) (fun _ => False) := by
 have hcl : FindOk B Tryz.prog (.fn (.func 191) [] [.ptr [.fn g gs gc]]) AV.fact f.kids F (fun ks H => J (pre ++ [f] ++ ks.flatMap nodesL) H) (fun ks H => ∃ q, q <+: ks.flatMap nodesL ∧ Jx (pre ++ [f] ++ q) H) := by
  intro ks k H1 Hy hp hF1 hJ1
  refine VCall.mono (VCall.fnB (b191 (ih k (hp.subset (by simp)) _ (flat_prefix hL hp) H1 Hy hF1 hJ1))) ?_ (fun _ h => h)
  rintro y H' ⟨b, H2, rfl, rfl, e1, e2⟩
  exact ⟨b, H2, rfl, rfl, fun h => by simpa using e1 h, fun h => by obtain ⟨q, hq, hx⟩ := e2 h; exact ⟨ks.flatMap nodesL ++ q, by simp; exact hq, by simpa using hx⟩⟩
 refine BCall.of (n := 14) Tryz.func144 rfl (by kernel_rfl) rfl rfl (fun I w0 => ?_)
 refine S2 ?_; refine Obx ?_; refine Obx ?_; refine Oas ?_; refine S4 ?_; refine Old ?_; refine Ola ?_
 refine OL.vcallC rfl rfl rfl rfl rfl rfl rfl rfl (AVleL.refl _) (hg pre f H Hx ((show pre ++ [f] <+: pre ++ nodesL f by rw [nodesL_eq]; exact ⟨f.kids.flatMap nodesL, by simp⟩).trans hL) hF hJ) ?_
 rintro y H1 ⟨b, H2, rfl, rfl, e1, e2⟩
 refine Omv ?_; refine Pfa ?_; refine Pld ?_; refine Pmf ?_
 refine OL.bcallG rfl rfl rfl rfl rfl rfl (fun hg => .mk' rfl rfl rfl rfl (by simp_all [strip])) (fun hg1 => e76 hcl H2 Hx hF (by simpa using e1 (by simpa using hg1))) ?_
 intro y H' hy1 hy2
 obtain ⟨b2, H3, rfl, rfl, r1, r2⟩ := every_two e1 e2 hy1 hy2
 refine Opk ?_; refine Oas ?_; refine S3 ?_
 refine Done.retR (rs := [.tmp 4]) (H' := H3 ++ Hx) rfl (.tmp rfl (.nil)) (AVleL.refl _) (by exact List.Sublist.refl _) ?_
 exact ⟨_, H3, rfl, rfl, r1, r2⟩
theorem b144 {B : Nat} {g : Fn} {gs gc : List AV} {L : List Fact} {F : List Ent → Prop} {J Jx : List Fact → List Ent → Prop} (hg : FindOk B Tryz.prog (.fn g gs gc) AV.fact L F J Jx) : ∀ f : Fact, ∀ pre, pre ++ nodesL f <+: L → ∀ H Hx, F Hx → J pre H →
  BCall B Tryz.prog 144 [AV.fact f, .fn g gs gc] (H ++ Hx) (EvR J Jx pre (nodesL f) Hx) (fun _ => False) :=
 Fact.ind1 fun f ih pre hL H Hx hF hJ => b144_step hg f ih pre hL H Hx hF hJ
abbrev noF : Fact := notF trueF
def prefP (x : Fact) : List Fact := if x.op = 1 then [] else if x == noF then [trueF] else [trueF, noF]
def candsP (x : Fact) : List Fact := prefP x ++ x.kids
noncomputable def goodG (W : FW) (f g : Fact) : Bool := impF W f g && impF W g f
noncomputable def stepAt (W : FW) (f : Fact) (i : Nat) (x : Fact) : Option Fact := ((candsP x).map fun y => putF y f i).find? (goodG W f)
noncomputable def stepL (W : FW) (f : Fact) (l : List Fact) : Option Fact := l.zipIdx.findSome? fun p => stepAt W f p.2 p.1
noncomputable def stepF (W : FW) (f : Fact) : Option Fact := stepL W f (nodesL f)
theorem stepL_snoc (W : FW) (f : Fact) (l : List Fact) (x : Fact) : stepL W f (l ++ [x]) = (stepL W f l).or (stepAt W f l.length x) := by
 rw [stepL, List.zipIdx_append, List.findSome?_append]
 simp [stepL]
theorem stepL_prefix {W : FW} {f : Fact} {q l : List Fact} {g : Fact} (hp : q <+: l) (h : stepL W f q = some g) : stepL W f l = some g := by
 obtain ⟨r, rfl⟩ := hp
 rw [stepL, List.zipIdx_append, List.findSome?_append]
 show (stepL W f q).or _ = _
 rw [h]; rfl
mutual
def wtF : Fact → Nat
 | .mk op arg path cls n kids => (if 2 ≤ op ∧ op ≤ 4 then 3 else 1) + wtFs kids
def wtFs : List Fact → Nat
 | [] => 0
 | k :: r => wtF k + wtFs r
end
theorem wtF_eq (f : Fact) : wtF f = (if 2 ≤ f.op ∧ f.op ≤ 4 then 3 else 1) + wtFs f.kids := by cases f; rw [wtF]; rfl
mutual
theorem nodes_wt : ∀ f : Fact, nodesN f ≤ wtF f
 | .mk op arg path cls n kids => by rw [nodesN, wtF]; have := nodes_wts kids; split <;> omega
theorem nodes_wts : ∀ l : List Fact, nodesNs l ≤ wtFs l
 | [] => by simp [nodesNs]
 | k :: r => by rw [nodesNs, wtFs]; have := nodes_wt k; have := nodes_wts r; omega
end
mutual
theorem wt_nodes : ∀ f : Fact, wtF f ≤ 3 * nodesN f
 | .mk op arg path cls n kids => by rw [nodesN, wtF]; have := wt_nodess kids; split <;> omega
theorem wt_nodess : ∀ l : List Fact, wtFs l ≤ 3 * nodesNs l
 | [] => by simp [wtFs]
 | k :: r => by rw [nodesNs, wtFs]; have := wt_nodes k; have := wt_nodess r; omega
end
mutual
theorem nodesL_len : ∀ f : Fact, (nodesL f).length = nodesN f
 | .mk op arg path cls n kids => by rw [nodesN, nodesL, List.length_cons, nodesLs_len kids]; omega
theorem nodesLs_len : ∀ l : List Fact, (nodesLs l).length = nodesNs l
 | [] => rfl
 | k :: r => by rw [nodesNs, nodesLs, List.length_append, nodesL_len k, nodesLs_len r]
end
theorem putsF_out (y : Fact) : ∀ (l : List Fact) (i : Int), (i < 0 ∨ (nodesNs l : Int) ≤ i) → wtFs (putsF y l i) = wtFs l ∧ (putsF y l i).length = l.length := by
 have key : ∀ f : Fact, ∀ i : Int, (i < 0 ∨ (nodesN f : Int) ≤ i) → wtF (putF y f i) = wtF f := by
  refine Fact.ind1 fun f ih i hi => ?_
  have h0 : ¬ i = 0 := by have := nodesN_eq f; omega
  rw [putF_ne h0, wtF_eq, wtF_eq f]
  have hl : ∀ (l : List Fact) (j : Int), (∀ k ∈ l, k ∈ f.kids) → (j < 0 ∨ (nodesNs l : Int) ≤ j) → wtFs (putsF y l j) = wtFs l := by
   intro l
   induction l with
   | nil => intro j _ _; rw [putsF]
   | cons x r ihr =>
    intro j hm hj
    rw [putsF, wtFs, wtFs]
    rw [nodesNs] at hj
    rw [ih x (hm x (.head _)) j (by omega), ihr (j - nodesN x) (fun k hk => hm k (.tail _ hk)) (by omega)]
  show (if 2 ≤ f.op ∧ f.op ≤ 4 then 3 else 1) + wtFs (putsF y f.kids (i - 1)) = _
  rw [hl f.kids (i - 1) (fun _ h => h) (by rw [nodesN_eq] at hi; omega)]
 intro l
 induction l with
 | nil => intro i _; rw [putsF]; exact ⟨rfl, rfl⟩
 | cons x r ihr =>
  intro i hi
  rw [nodesNs] at hi
  rw [putsF, wtFs, wtFs, List.length_cons, List.length_cons]
  have := ihr (i - nodesN x) (by omega)
  rw [key x i (by omega), this.1, this.2]
  exact ⟨rfl, rfl⟩
theorem putF_wt (y : Fact) : ∀ f : Fact, ∀ i : Nat, ∀ x, (nodesL f)[i]? = some x → wtF (putF y f i) + wtF x = wtF f + wtF y := by
 refine Fact.ind1 fun f ih i x hx => ?_
 cases i with
 | zero =>
  rw [nodesL_eq] at hx
  simp at hx; subst hx
  rw [show ((0 : Nat) : Int) = 0 from rfl, putF_zero]; omega
 | succ i =>
  rw [nodesL_eq, ← nodesLs_flat] at hx
  simp at hx
  rw [putF_ne (by omega), wtF_eq, wtF_eq f]
  have hl : ∀ (l : List Fact) (j : Nat), (∀ k ∈ l, k ∈ f.kids) → (nodesLs l)[j]? = some x → wtFs (putsF y l j) + wtF x = wtFs l + wtF y := by
   intro l
   induction l with
   | nil => intro j _ h; simp [nodesLs] at h
   | cons k r ihr =>
    intro j hm h
    rw [nodesLs] at h
    rw [putsF, wtFs, wtFs]
    have hlk := nodesL_len k
    by_cases hj : j < nodesN k
    ·rw [List.getElem?_append_left (by omega)] at h
     have h1 := ih k (hm k (.head _)) j x h
     have h2 := (putsF_out y r (j - nodesN k) (by omega)).1
     rw [h2]; omega
    ·rw [List.getElem?_append_right (by omega), hlk] at h
     have h1 := ihr (j - nodesN k) (fun q hq => hm q (.tail _ hq)) h
     have h2 := (putsF_out y [k] j (by right; simp [nodesNs]; omega)).1
     rw [putsF, wtFs, putsF, wtFs, wtFs, wtFs] at h2
     rw [show ((j : Int) - nodesN k) = ((j - nodesN k : Nat) : Int) by omega]
     omega
  show (if 2 ≤ f.op ∧ f.op ≤ 4 then 3 else 1) + wtFs (putsF y f.kids (((i + 1 : Nat) : Int) - 1)) + wtF x = _
  rw [show (((i + 1 : Nat) : Int) - 1) = (i : Int) by omega]
  have := hl f.kids i (fun _ h => h) hx
  omega
theorem wf_nodes {W : FW} : ∀ f : Fact, wfB W f = true → ∀ x ∈ nodesL f, wfB W x = true := by
 refine Fact.ind1 fun f ih h x hx => ?_
 rw [nodesL_eq] at hx
 rcases List.mem_cons.1 hx with rfl | hx
 ·exact h
 ·obtain ⟨k, hk, hx⟩ := List.mem_flatMap.1 hx
  exact ih k hk ((wfB_iff.1 h).2 k hk) x hx
theorem wf_put {W : FW} {y : Fact} (hy : wfB W y = true) : ∀ f : Fact, wfB W f = true → ∀ i : Int, wfB W (putF y f i) = true := by
 refine Fact.ind1 fun f ih h i => ?_
 by_cases h0 : i = 0
 ·subst h0; rw [putF_zero]; exact hy
 ·rw [putF_ne h0]
  obtain ⟨h1, h2⟩ := wfB_iff.1 h
  have hl : ∀ (l : List Fact) (j : Int), (∀ k ∈ l, k ∈ f.kids) → (∀ k ∈ putsF y l j, wfB W k = true) ∧ (putsF y l j).length = l.length := by
   intro l
   induction l with
   | nil => intro j _; rw [putsF]; exact ⟨by simp, rfl⟩
   | cons x r ihr =>
    intro j hm
    rw [putsF]
    have := ihr (j - nodesN x) (fun k hk => hm k (.tail _ hk))
    refine ⟨fun k hk => ?_, by simp [this.2]⟩
    rcases List.mem_cons.1 hk with rfl | hk
    ·exact ih x (hm x (.head _)) (h2 x (hm x (.head _))) j
    ·exact this.1 k hk
  have := hl f.kids (i - 1) (fun _ h => h)
  rw [wfB_iff]
  refine ⟨?_, this.1⟩
  simp only [nodeOkB] at h1 ⊢
  show (decide (1 ≤ f.op) && decide (f.op ≤ 7) && (((putsF y f.kids (i - 1)).length : Int) == kidsP f.op) && _) = true
  rw [this.2]
  exact h1
theorem wf_true (W : FW) : wfB W trueF = true := by rw [wfB_iff]; exact ⟨rfl, by simp [trueF, Fact.kids]⟩
theorem kid_wt {x k : Fact} (h : k ∈ x.kids) : wtF k < wtF x := by
 have : ∀ l : List Fact, k ∈ l → wtF k ≤ wtFs l := by
  intro l
  induction l with
  | nil => intro h; cases h
  | cons y r ih => intro h; rw [wtFs]; rcases List.mem_cons.1 h with rfl | h; omega; have := ih h; omega
 have := this x.kids h
 rw [wtF_eq x]; split <;> omega
theorem plain_op1 {W : FW} {x : Fact} (h : wfB W x = true) (h1 : x.op = 1) : x = trueF := by
 have hn := (wfB_iff.1 h).1
 simp only [nodeOkB, Bool.and_eq_true, decide_eq_true_eq, beq_iff_eq] at hn
 have h2 := hn.2
 rw [if_neg (by simp [leafP, h1])] at h2
 simp only [plainP, Bool.not_eq_true', Bool.or_eq_false_iff, decide_eq_false_iff_not, bne_eq_false_iff_eq] at h2
 have hk : x.kids = [] := by
  have := hn.1.2
  rw [h1] at this
  exact List.eq_nil_of_length_eq_zero (by simpa [kidsP] using this)
 exact Fact.ext' h1 h2.1.1.1 (List.eq_nil_of_length_eq_zero (by have := h2.1.1.2; omega)) h2.1.2 h2.2 hk
theorem cand_ok {W : FW} {x y : Fact} (h : wfB W x = true) (hy : y ∈ candsP x) : wfB W y = true ∧ wtF y < wtF x := by
 obtain ⟨hn, hk⟩ := wfB_iff.1 h
 rcases List.mem_append.1 hy with hy | hy
 ·unfold prefP at hy
  split at hy
  ·cases hy
  ·rename_i h1
   have hw : wtF y ≤ 2 → (wtF y = 2 → x ≠ noF) → wtF y < wtF x := by
    intro hle hne
    have hno := hn
    simp only [nodeOkB, Bool.and_eq_true, decide_eq_true_eq, beq_iff_eq] at hn
    rw [wtF_eq x]
    by_cases hl : 2 ≤ x.op ∧ x.op ≤ 4
    ·rw [if_pos hl]; omega
    ·rw [if_neg hl]
     have h67 : x.op = 5 ∨ x.op = 6 ∨ x.op = 7 := by omega
     rcases h67 with h5 | h67
     ·obtain ⟨k, hkk⟩ : ∃ k, x.kids = [k] := by
       have := hn.1.2; rw [kidsP, if_pos h5] at this
       exact List.length_eq_one_iff.1 (by omega)
      have hkw := hk k (by rw [hkk]; exact .head _)
      rw [hkk, wtFs, wtFs]
      by_cases hk1 : k.op = 1
      ·have hkt := plain_op1 hkw hk1
       have h2 := hn.2
       rw [if_neg (by simp [leafP, h5])] at h2
       simp only [plainP, Bool.not_eq_true', Bool.or_eq_false_iff, decide_eq_false_iff_not, bne_eq_false_iff_eq] at h2
       have hx : x = noF := Fact.ext' h5 h2.1.1.1 (List.eq_nil_of_length_eq_zero (by have := h2.1.1.2; omega)) h2.1.2 h2.2 (by rw [hkk, hkt]; rfl)
       have : wtF k = 1 := by rw [hkt]; rfl
       have hne2 : ¬ wtF y = 2 := fun e => hne e hx
       omega
      ·have : 2 ≤ wtF k := by
        rw [wtF_eq k]
        have hkn := (wfB_iff.1 hkw).1
        simp only [nodeOkB, Bool.and_eq_true, decide_eq_true_eq, beq_iff_eq] at hkn
        by_cases hl2 : 2 ≤ k.op ∧ k.op ≤ 4
        ·rw [if_pos hl2]; omega
        ·rw [if_neg hl2]
         have : 1 ≤ wtFs k.kids := by
          have hlen : 1 ≤ k.kids.length := by have := hkn.1.2; unfold kidsP at this; split at this <;> (try split at this) <;> omega
          obtain ⟨q, r, hq⟩ := List.exists_cons_of_ne_nil (l := k.kids) (fun e => by rw [e] at hlen; simp at hlen)
          rw [hq, wtFs, wtF_eq q]; split <;> omega
         omega
       omega
     ·have h6 : x.op = 6 ∨ x.op = 7 := h67
      obtain ⟨k1, k2, hkk⟩ : ∃ k1 k2, x.kids = [k1, k2] := by
       have := hn.1.2; rw [kidsP, if_neg (by omega), if_pos h6] at this
       have hl2 : x.kids.length = 2 := by omega
       match hm : x.kids, hl2 with
       | [a, b], _ => exact ⟨a, b, rfl⟩
      have p1 : ∀ q : Fact, 1 ≤ wtF q := fun q => by rw [wtF_eq]; split <;> omega
      have := p1 k1; have := p1 k2
      rw [hkk, wtFs, wtFs, wtFs]; omega
   split at hy
   ·simp at hy; subst hy
    exact ⟨wf_true W, hw (by decide) (fun e => absurd e (by decide))⟩
   ·rename_i h2
    simp at hy
    rcases hy with rfl | rfl
    ·exact ⟨wf_true W, hw (by decide) (fun e => absurd e (by decide))⟩
    ·exact ⟨wf_not (wf_true W), hw (by decide) (fun _ e => h2 (by rw [e]; simp))⟩
 ·exact ⟨hk y hy, kid_wt hy⟩
theorem encFs_append (a b : List Fact) : encFs (a ++ b) = encFs a ++ encFs b := by rw [encFs_map, encFs_map, encFs_map, List.map_append]
theorem find_at {α β : Type} [Inhabited α] {h : α → β} {p : β → Bool} {l : List α} {j : Nat} (hj : j < l.length) (h1 : ∀ y ∈ l.take j, p (h y) = false) (h2 : p (h (l.getD j default)) = true) : (l.map h).find? p = some (h (l.getD j default)) := by
 have e : l = l.take j ++ l.getD j default :: l.drop (j + 1) := by rw [getD_lt hj, ← List.drop_eq_getElem_cons hj, List.take_append_drop]
 generalize l.getD j default = a at *
 rw [e, List.map_append, List.find?_append]
 have : ((l.take j).map h).find? p = none := by
  rw [List.find?_eq_none]
  intro z hz
  obtain ⟨y, hy, rfl⟩ := List.mem_map.1 hz
  rw [h1 y hy]; simp
 rw [this]
 simp [h2]
theorem nilFact_le (op : Int) : AVleL [.i op, .i 0, .val (.slice none 0 0), .i 0, .i 0, .val (.slice none 0 0)] (Fcells (.mk op 0 [] 0 0 [])) :=
 .cons (.refl _) (.cons (.refl _) (.cons (AVle.nil 1) (.cons (.refl _) (.cons (.refl _) (.cons (AVle.nil 6) .nil)))))
def stepJ (W : FW) (f : Fact) (nb ob : Nat) (pre : List Fact) (H : List Ent) : Prop := H = [.blk nb 3 [.i ((pre.length : Int) - 1)], .blk ob 29 (Fcells f)] ∧ stepL W f pre = none
def stepX (W : FW) (f : Fact) (nb ob : Nat) (pre : List Fact) (H : List Ent) : Prop := ∃ g m, H = [.blk nb 3 [.i m], .blk ob 29 (Fcells g)] ∧ stepL W f pre = some g
theorem b145 {W : FW} (hw : worldP W = true) {f : Fact} (hf : wfB W f = true) (hwt : wtF f ≤ 72) (B nb ob : Nat) (pre : List Fact) (x : Fact) (hp : pre ++ [x] <+: nodesL f) (H Hx : List Ent) (hJ : stepJ W f nb ob pre H) :
  BCall B Tryz.prog 145 [AV.fact x, .p nb 0, .ptr (Fcells trueF), .ptr (Fcells noF), .ptr (Fcells f), .ptr [Wptr W], .p ob 0] (H ++ Hx) (fun y H' => ∃ b H1, y = .b b ∧ H' = H1 ++ Hx ∧ (b = false → stepJ W f nb ob (pre ++ [x]) H1) ∧ (b = true → stepX W f nb ob (pre ++ [x]) H1)) (fun _ => False) := by
 obtain ⟨rfl, hnone⟩ := hJ
 have hwx := wf_nodes f hf x (hp.subset (by simp))
 have hxi : (nodesL f)[pre.length]? = some x := by
  obtain ⟨r, hr⟩ := hp
  rw [← hr]; simp
 have hpl := hp.length_le
 rw [List.length_append, List.length_singleton, nodesL_len] at hpl
 have hnw := nodes_wt f
 have hg : ∀ y ∈ candsP x, wfB W (putF y f pre.length) = true ∧ nodesN (putF y f pre.length) ≤ 72 := fun y hy => by
  have h1 := cand_ok hwx hy
  have h2 := putF_wt y f pre.length x hxi
  have h3 := nodes_wt (putF y f pre.length)
  exact ⟨wf_put h1.1 f hf _, by omega⟩
 have hsl := stepL_snoc W f pre x
 rw [hnone, Option.none_or] at hsl
 refine BCall.of (n := 59) Tryz.func145 rfl (by kernel_rfl) rfl rfl (fun I w0 => ?_)
 refine S2 ?_; refine Obx ?_; refine Oas ?_; refine S4 ?_; refine Old ?_; refine Oar ?_; refine Sto ?_; refine S3 ?_
 rw [show ((pre.length : Int) - 1 + 1) = pre.length by omega]
 refine S1 ?_; refine Oas ?_; refine S2 ?_
 refine CW.cutJ (fun st => ∃ v : Value, st = ⟨[(9, .as (AV.facts (prefP x)) v), (7, .ptr (Fcells x)), (1, .p nb 0), (4, .ptr (Fcells f)), (5, .ptr [Wptr W]), (6, .p ob 0)], .own 29 6 v :: .blk nb 3 [.i pre.length] :: .blk ob 29 (Fcells f) :: Hx⟩) ?_ ?_
 ·
  refine S1 ?_
  refine CW.ownNil 9 29 6 rfl ?_
  refine S1 ?_; refine Ofa ?_; refine Old ?_; refine Ocm ?_; refine S2 ?_
  refine CW.cond rfl (fun h0 => ?_) (fun h0 => ?_)
  ·
   replace h0 := nm h0
   refine S2 ?_; refine Omv ?_; refine Ola ?_
   refine OL.popC rfl rfl rfl (POp.row rfl rfl (by first | rfl | simp_all [strip]) rfl rfl rfl rfl rfl rfl) ?_
   refine OL.appendC rfl rfl rfl rfl rfl rfl rfl rfl (AVle.refl _) (rfl) (fun v => by repeat (first | exact Upd.head _ _ _ | apply Upd.tail)) (by show (0 + 1) * 80 ≤ _; omega) (by show 0 + 1 ≤ _; omega) (fun v22 => ?_)
   refine Oas ?_; refine S4 ?_; refine Ola ?_; refine Ola ?_
   refine OL.popC rfl rfl rfl (POp.call (.mk' rfl rfl rfl rfl rfl) (p146 x noF)) ?_
   refine Ont ?_; refine S2 ?_
   refine CW.cond rfl (fun h1 => ?_) (fun h1 => ?_)
   ·
    replace h1 := nm h1
    refine S1 ?_; refine Omv ?_; refine Ola ?_
    refine OL.popC rfl rfl rfl (POp.row rfl rfl (by first | rfl | simp_all [strip]) rfl rfl rfl rfl rfl rfl) ?_
    refine OL.appendC rfl rfl rfl rfl rfl rfl rfl rfl (AVle.refl _) (rfl) (fun v => by repeat (first | exact Upd.head _ _ _ | apply Upd.tail)) (by show (1 + 1) * 80 ≤ _; omega) (by show 1 + 1 ≤ _; omega) (fun v30 => ?_)
    refine Oas ?_; refine S1 ?_
    refine Done.le 9 (y := .as (AV.facts (prefP x)) v30) rfl (by rw [show prefP x = [trueF, noF] by rw [prefP, if_neg h0, if_neg (by simpa using h1)]]; rw [show AV.facts [trueF, noF] = AV.sl 6 ([Fcells trueF, Fcells noF]) from congrArg _ (encFs_map _)]; exact AVle.refl _) ?_
    exact Done.cutJ ⟨v30, rfl⟩ (by repeat (first | exact trivial | refine ⟨rfl, ?_⟩)) (by repeat (first | exact List.Sublist.refl _ | refine List.Sublist.cons _ ?_))
   ·
    replace h1 := nm h1
    refine S1 ?_
    refine Done.le 9 (y := .as (AV.facts (prefP x)) v22) rfl (by rw [show prefP x = [trueF] by rw [prefP, if_neg h0, if_pos (by simpa using h1)]]; rw [show AV.facts [trueF] = AV.sl 6 ([Fcells trueF]) from congrArg _ (encFs_map _)]; exact AVle.refl _) ?_
    exact Done.cutJ ⟨v22, rfl⟩ (by repeat (first | exact trivial | refine ⟨rfl, ?_⟩)) (by repeat (first | exact List.Sublist.refl _ | refine List.Sublist.cons _ ?_))
  ·
   replace h0 := nm h0
   refine S1 ?_
   refine Done.le 9 (y := .as (AV.facts (prefP x)) (.slice none 0 0)) rfl (by rw [show prefP x = [] by rw [prefP, if_pos h0]]; rw [show AV.facts [] = AV.sl 6 ([]) from congrArg _ (encFs_map _)]; exact AVle.refl _) ?_
   exact Done.cutJ ⟨(.slice none 0 0), rfl⟩ (by repeat (first | exact trivial | refine ⟨rfl, ?_⟩)) (by repeat (first | exact List.Sublist.refl _ | refine List.Sublist.cons _ ?_))
 ·
  rintro _ ⟨v, rfl⟩
  refine S3 ?_; refine Omv ?_; refine Ofa ?_; refine Old ?_
  have hkl := kids_nodes x
  have hpf : (prefP x).length ≤ 2 := by unfold prefP; split; simp; split <;> simp
  have hxn : nodesN x ≤ 1000 := by have h1 := putF_wt trueF f pre.length x hxi; have h2 := nodes_wt x; have h3 : wtF trueF = 1 := rfl; omega
  refine OL.appendC rfl rfl rfl rfl rfl rfl rfl rfl (AVle.refl _) (one_facts x.kids) (fun v => by repeat (first | exact Upd.head _ _ _ | apply Upd.tail)) (by rw [len_facts, len_facts]; omega) (by rw [len_facts, len_facts]; omega) (fun v34 => ?_)
  refine OL.le 34 (y := AV.facts (candsP x)) rfl (by rw [candsP, AV.facts, encFs_append]; exact AVle.asL _ _) ?_
  refine Oln ?_; refine Omv ?_; refine S3 ?_
  refine lj (fun m st => ∃ j : Nat, st = ⟨[(36, .i j), (35, .i (candsP x).length), (34, AV.facts (candsP x)), (1, .p nb 0), (4, .ptr (Fcells f)), (5, .ptr [Wptr W]), (6, .p ob 0)], .blk nb 3 [.i pre.length] :: .blk ob 29 (Fcells f) :: Hx⟩ ∧ m = (candsP x).length - j ∧ j ≤ (candsP x).length ∧ ∀ y ∈ (candsP x).take j, goodG W f (putF y f pre.length) = false) (⟨0, rfl, rfl, Nat.zero_le _, by simp⟩) ?_
  rintro m _ ⟨j, rfl, rfl, hj, hall⟩
  have hcl : (candsP x).length ≤ 1002 := by rw [candsP, List.length_append]; omega
  refine S2 ?_; refine Ocm ?_; refine S3 ?_
  refine CW.cond rfl (fun h2 => ?_) (fun h2 => ?_)
  ·
   replace h2 := nm h2
   have hjl : j < (candsP x).length := by omega
   obtain ⟨y, hy⟩ : ∃ y, y = (candsP x).getD j default := ⟨_, rfl⟩
   have hym : y ∈ candsP x := by rw [hy]; exact getD_mem hjl
   have hgy := hg y hym
   refine S6 ?_
   refine Oix ?_; refine Ola ?_
   refine OL.alC rfl rfl rfl rfl (fun b0 => ?_)
   refine Sto ?_; refine S3 ?_
   rw [← hy]
   refine S1 ?_; refine Ola ?_; refine Old ?_; refine Ola ?_
   refine OL.popC rfl rfl rfl (POp.call (.mk' rfl rfl rfl rfl rfl) (p147 y f (by omega) pre.length (by omega))) ?_
   refine Omv ?_; refine Oex ?_; refine Oex ?_
   refine OL.alC rfl rfl rfl rfl (fun b1 => ?_)
   refine Sto ?_; refine Oas ?_; refine S4 ?_; refine Old ?_; refine Ola ?_; refine Ola ?_
   refine OL.popC rfl rfl rfl (POp.call (.mk' rfl rfl rfl rfl rfl) (p94 hw hf hgy.1 (by omega) (by omega))) ?_
   refine Omv ?_; refine Pld ?_; refine Pla ?_; refine Pla ?_
   refine OL.guardC rfl rfl rfl rfl rfl rfl (fun hg => POp.call (.mk' rfl rfl rfl rfl (by first | rfl | ((repeat (first | exact hg | rfl | refine Bool.and_eq_true_iff.2 ⟨?_, ?_⟩)); done) | simp_all [strip, constAV])) (p94 hw hgy.1 hf (by omega) (by omega))) ?_
   refine Opk ?_; refine S2 ?_
   refine CW.cond rfl (fun h3 => ?_) (fun h3 => ?_)
   ·
    have hgg : goodG W f (putF y f pre.length) = true := by rw [bif_and] at h3; exact h3
    refine S2 ?_; refine Ola ?_; refine Sto ?_; refine S4 ?_; refine Oas ?_; refine S8 ?_
    refine r1 8 ([.blk nb 3 [.i pre.length], .blk ob 29 (Fcells (putF y f pre.length))] ++ Hx) ?_
    exact ⟨true, _, rfl, rfl, (fun h => by cases h), fun _ => ⟨putF y f pre.length, pre.length, rfl, by rw [hsl, stepAt, hy]; exact find_at hjl hall (by rw [← hy]; exact hgg)⟩⟩
   ·
    have hgg : goodG W f (putF y f pre.length) = false := by rw [bif_and] at h3; exact h3
    refine S4 ?_; refine Oar ?_; refine Omv ?_; refine S1 ?_
    exact ag (⟨j + 1, rfl, rfl, by omega, fun z hz => by rw [List.take_succ_eq_append_getElem hjl, ← getD_lt hjl, ← hy] at hz; rcases List.mem_append.1 hz with hz | hz; exact hall z hz; simp at hz; subst hz; exact hgg⟩)
  ·
   replace h2 := nm h2
   obtain rfl : j = (candsP x).length := by omega
   rw [List.take_length] at hall
   refine S7 ?_; refine Oas ?_; refine S3 ?_
   refine r1 8 ([.blk nb 3 [.i pre.length], .blk ob 29 (Fcells f)] ++ Hx) ?_
   exact ⟨false, _, rfl, rfl, fun _ => ⟨by simp, by rw [hsl, stepAt, List.find?_eq_none]; intro z hz; obtain ⟨y, hy, rfl⟩ := List.mem_map.1 hz; rw [hall y hy]; simp⟩, (fun h => by cases h)⟩
theorem p95 {W : FW} (hw : worldP W = true) {f : Fact} (hf : wfB W f = true) (hwt : wtF f ≤ 72) : PCall Tryz.prog 95 [Wptr W, AV.fact f] (.tup [AV.fact ((stepF W f).getD f), .b (stepF W f).isSome]) := by
 intro H
 refine ACall.mk' (n := 20) Tryz.func95 rfl (by kernel_rfl) rfl rfl (fun B I w0 => ?_)
 refine S2 ?_; refine Obx ?_; refine Obx ?_
 refine OL.alC rfl rfl rfl rfl (fun b0 => ?_)
 refine Oas ?_; refine S4 ?_; refine Obd ?_; refine Obd ?_
 refine OL.popC rfl rfl rfl (POp.callLe (.mk' rfl rfl rfl rfl rfl) (.cons (AVle.agg (nilFact_le 1)) .nil) (p140 trueF)) ?_
 refine OL.alC rfl rfl rfl rfl (fun yb => ?_)
 refine OL.alC rfl rfl rfl rfl (fun zb => ?_)
 refine Sto ?_; refine Sto ?_; refine S3 ?_
 refine CW.freezeP (d := 6) rfl (by repeat (first | exact Del.head _ _ | apply Del.tail)) ?_
 refine CW.freezeP (d := 7) rfl (by repeat (first | exact Del.head _ _ | apply Del.tail)) ?_
 refine CW.le 6 (y := .ptr (Fcells trueF)) rfl (AVle.ptr (nilFact_le 1)) ?_
 refine S1 ?_; refine Ola ?_
 refine OL.alC rfl rfl rfl rfl (fun ob => ?_)
 refine OL.alC rfl rfl rfl rfl (fun nb => ?_)
 refine Sto ?_; refine Sto ?_; refine S4 ?_; refine Ola ?_; refine Omf ?_
 refine OL.bcallC rfl rfl rfl (.mk' rfl rfl rfl rfl rfl) (b144 (B := B) (L := nodesL f) (F := fun _ => True) (J := stepJ W f nb ob) (Jx := stepX W f nb ob) (fun pre x H1 Hy hp _ hJ => VCall.fnB (b145 hw hf hwt B nb ob pre x hp H1 Hy hJ)) f [] (List.prefix_refl _) [.blk nb 3 [.i (-1)], .blk ob 29 (Fcells f)] _ trivial ⟨rfl, rfl⟩) ?_
 rintro y H1 ⟨b, H2, rfl, rfl, e1, e2⟩
 cases b
 ·
  obtain ⟨rfl, hn⟩ := e1 rfl
  have hst : stepF W f = none := by rw [stepF]; simpa using hn
  refine Oas ?_; refine S4 ?_; refine Ola ?_; refine Omv ?_; refine Sto ?_; refine Oas ?_; refine S3 ?_
  refine Done.retR (rs := [.cell 4 29, .tmp 5]) (H' := H) rfl ((by first | exact .cellA inferInstance rfl (by repeat (first | exact .head _ | refine .tail _ ?_)) rfl rfl (.tmp rfl (.nil)) | exact .ptrA inferInstance rfl rfl (.tmp rfl (.nil)))) (AVleL.refl _) (by repeat (first | exact List.Sublist.refl _ | refine List.Sublist.cons _ ?_)) ?_
  exact ⟨by rw [hst]; rfl, rfl⟩
 ·
  obtain ⟨q, hq, g, mm, rfl, hx⟩ := e2 rfl
  have hst : stepF W f = some g := stepL_prefix hq (by simpa using hx)
  refine Oas ?_; refine S4 ?_; refine Ola ?_; refine Omv ?_; refine Sto ?_; refine Oas ?_; refine S3 ?_
  refine Done.retR (rs := [.cell 4 29, .tmp 5]) (H' := H) rfl ((by first | exact .cellA inferInstance rfl (by repeat (first | exact .head _ | refine .tail _ ?_)) rfl rfl (.tmp rfl (.nil)) | exact .ptrA inferInstance rfl rfl (.tmp rfl (.nil)))) (AVleL.refl _) (by repeat (first | exact List.Sublist.refl _ | refine List.Sublist.cons _ ?_)) ?_
  exact ⟨by rw [hst]; rfl, rfl⟩
theorem step_wt {W : FW} {f g : Fact} (hf : wfB W f = true) (h : stepF W f = some g) : wfB W g = true ∧ wtF g < wtF f := by
 rw [stepF, stepL] at h
 obtain ⟨p, hp, h⟩ := List.exists_of_findSome?_eq_some h
 have hx : (nodesL f)[p.2]? = some p.1 := by
  exact List.mem_zipIdx_iff_getElem?.1 hp
 have hwx := wf_nodes f hf p.1 (List.mem_of_getElem? hx)
 have hm := List.mem_of_find?_eq_some h
 obtain ⟨y, hy, rfl⟩ := List.mem_map.1 hm
 have h1 := cand_ok hwx hy
 have h2 := putF_wt y f p.2 p.1 hx
 exact ⟨wf_put h1.1 f hf _, by omega⟩
noncomputable def shortN (W : FW) : Nat → Fact → Fact
 | 0, f => f
 | n + 1, f => match stepF W f with | some g => shortN W n g | none => f
noncomputable def shortF (W : FW) (f : Fact) : Fact := shortN W (wtF f) f
theorem shortN_more {W : FW} : ∀ (n m : Nat) (f : Fact), wfB W f = true → wtF f ≤ n → wtF f ≤ m → shortN W n f = shortN W m f := by
 intro n
 induction n with
 | zero => intro m f hf h1 h2; have := wtF_eq f; split at this <;> omega
 | succ n ih =>
  intro m f hf h1 h2
  cases m with
  | zero => have := wtF_eq f; split at this <;> omega
  | succ m =>
   rw [shortN, shortN]
   cases hs : stepF W f with
   | none => rfl
   | some g =>
    have hg := step_wt hf hs
    exact ih m g hg.1 (by omega) (by omega)
theorem short_step {W : FW} {f g : Fact} (hf : wfB W f = true) (h : stepF W f = some g) : shortF W f = shortF W g := by
 have hg := step_wt hf h
 rw [shortF, shortF]
 obtain ⟨n, hn⟩ : ∃ n, wtF f = n + 1 := ⟨wtF f - 1, by omega⟩
 rw [hn, shortN, h]
 exact shortN_more _ _ _ hg.1 (by omega) (Nat.le_refl _)
theorem short_none {W : FW} {f : Fact} (h : stepF W f = none) : shortF W f = f := by
 rw [shortF]
 cases hn : wtF f with
 | zero => rfl
 | succ n => rw [shortN, h]
theorem wf_smallB {W : FW} : ∀ f : Fact, wfB W f = true → smallB f = true := by
 refine Fact.ind1 fun f ih h => ?_
 obtain ⟨a, b, c, d, e⟩ := ok_parts (wf_ok f h)
 have hk : ∀ l : List Fact, (∀ k ∈ l, smallB k = true) → smallBs l = true := by
  intro l
  induction l with
  | nil => intro _; rfl
  | cons x r ihr => intro hx; rw [smallBs, hx x (.head _), ihr (fun k hk => hx k (.tail _ hk))]; rfl
 have h2 := hk f.kids (fun k hk => ih k hk ((wfB_iff.1 h).2 k hk))
 have hc2 : f.kids.length ≤ 2 := by unfold kidsP at c; split at c; omega; split at c <;> omega
 cases f
 simp only [Fact.kids, Fact.path, Fact.op] at c d h2 hc2
 rw [smallB, h2]
 simp
 omega
theorem p27g {W : FW} {f : Fact} (h : goodP W [f] = true) : PCall Tryz.prog 27 [AV.world W, AV.fact f] (.tup [AV.fact (shortF W f), .i 0]) := by
 intro H
 refine ACall.mk' (n := 34) Tryz.func27 rfl (by kernel_rfl) rfl rfl (fun B I w0 => ?_)
 have hw := good_w h
 have hf := good_f h (.head _)
 have hwt : wtF f ≤ 72 := Nat.le_trans (wt_nodes f) (by omega)
 refine S2 ?_; refine Obx ?_
 refine OL.boxC rfl rfl rfl rfl rfl rfl rfl (fun fb => ?_)
 refine OL.alC rfl rfl rfl rfl (fun rb => ?_)
 refine Oas ?_; refine S4 ?_; refine Ola ?_; refine Ola ?_
 refine OL.popC rfl rfl rfl (POp.row rfl rfl (by first | rfl | simp_all [strip]) rfl rfl rfl rfl rfl rfl) ?_
 refine OL.popC rfl rfl rfl (POp.callLe (.mk' rfl rfl rfl rfl rfl) (.cons (.refl _) (.cons (AVle_facts [f] rfl) .nil)) (p80g h)) ?_
 refine Omv ?_; refine Oex ?_; refine Oex ?_; refine Oas ?_; refine Oas ?_; refine S5 ?_; refine Omv ?_; refine Ont ?_; refine S2 ?_
 refine CW.cond rfl (fun h0 => ?_) (fun h0 => ?_)
 ·
  cases h0
 ·
  refine S4 ?_; refine Omv ?_; refine Ola ?_
  refine OL.popC rfl rfl rfl (POp.call (.mk' rfl rfl rfl rfl rfl) (p95 hw hf.1 hwt)) ?_
  refine Omv ?_; refine Oex ?_; refine Oex ?_; refine Sto ?_; refine Oas ?_; refine S4 ?_
  refine lj (fun m st => ∃ g : Fact, st = ⟨[(8, .b (stepF W g).isSome), (6, Wptr W), (3, .p fb 0), (4, .p rb 0)], .blk rb 29 [.i 0, .i 0, .val (.slice none 0 0), .i 0, .i 0, .val (.slice none 0 0)] :: .blk fb 29 (Fcells ((stepF W g).getD g)) :: H⟩ ∧ m = wtF g ∧ wfB W g = true ∧ wtF g ≤ 72 ∧ shortF W g = shortF W f) (⟨f, rfl, rfl, hf.1, hwt, rfl⟩) ?_
  rintro m _ ⟨g, rfl, rfl, hwg, hgt, hsg⟩
  refine S3 ?_; refine Omv ?_; refine S2 ?_
  refine CW.cond rfl (fun h1 => ?_) (fun h1 => ?_)
  ·
   obtain ⟨g2, hg2⟩ := Option.isSome_iff_exists.1 h1
   have hs2 := step_wt hwg hg2
   rw [hg2, Option.getD_some]
   refine S4 ?_; refine Omv ?_; refine Ola ?_
   refine OL.popC rfl rfl rfl (POp.call (.mk' rfl rfl rfl rfl rfl) (p95 hw hs2.1 (by omega))) ?_
   refine Omv ?_; refine Oex ?_; refine Oex ?_; refine Sto ?_; refine Oas ?_; refine S2 ?_
   exact ag (⟨g2, rfl, rfl, hs2.1, by omega, by rw [← hsg, short_step hwg hg2]⟩)
  ·
   have hg2 : stepF W g = none := by simpa using h1
   rw [hg2, Option.getD_none]
   have hse := short_none hg2
   refine S7 ?_; refine Ola ?_
   refine OL.popC rfl rfl rfl (POp.call (.mk' rfl rfl rfl rfl rfl) (p96 g (wf_smallB g hwg))) ?_
   refine Sto ?_; refine Oas ?_; refine S3 ?_
   refine Done.retR (rs := [.cell 4 29, .tmp 5]) (H' := H) rfl ((by first | exact .cellA inferInstance rfl (by repeat (first | exact .head _ | refine .tail _ ?_)) rfl rfl (.tmp rfl (.nil)) | exact .ptrA inferInstance rfl rfl (.tmp rfl (.nil)))) (AVleL.refl _) (by repeat (first | exact List.Sublist.refl _ | refine List.Sublist.cons _ ?_)) ?_
   exact ⟨by rw [← hsg, hse]; rfl, rfl⟩
theorem sorted_eq : ∀ {l m : List Int}, l.Pairwise (· ≤ ·) → m.Pairwise (· ≤ ·) → l.Perm m → l = m
 | [], m, _, _, h => h.nil_eq
 | a :: l, [], _, _, h => absurd h.length_eq (by simp)
 | a :: l, b :: m, hl, hm, h => by
  have h1 := List.pairwise_cons.1 hl
  have h2 := List.pairwise_cons.1 hm
  have hab : a = b := by
   have hb : b ∈ a :: l := h.mem_iff.2 (.head _)
   have ha : a ∈ b :: m := h.mem_iff.1 (.head _)
   rcases List.mem_cons.1 hb with e | hb
   ·exact e.symm
   ·rcases List.mem_cons.1 ha with e | ha
    ·exact e
    ·have := h1.1 b hb; have := h2.1 a ha; omega
  subst hab
  rw [sorted_eq h1.2 h2.2 h.cons_inv]
def insI (x : Int) : List Int → List Int
 | [] => [x]
 | y :: r => if x ≤ y then x :: y :: r else y :: insI x r
def isortI : List Int → List Int
 | [] => []
 | x :: r => insI x (isortI r)
theorem ins_perm (x : Int) : ∀ l : List Int, (insI x l).Perm (x :: l)
 | [] => .refl _
 | y :: r => by
  rw [insI]
  split
  ·exact .refl _
  ·exact ((ins_perm x r).cons y).trans (.swap _ _ _)
theorem ins_sorted (x : Int) : ∀ l : List Int, l.Pairwise (· ≤ ·) → (insI x l).Pairwise (· ≤ ·)
 | [], _ => by simp [insI]
 | y :: r, h => by
  rw [insI]
  have h1 := List.pairwise_cons.1 h
  split
  ·rename_i hxy
   exact List.pairwise_cons.2 ⟨fun z hz => by rcases List.mem_cons.1 hz with rfl | hz; exact hxy; have := h1.1 z hz; omega, h⟩
  ·rename_i hxy
   exact List.pairwise_cons.2 ⟨fun z hz => by rcases List.mem_cons.1 ((ins_perm x r).mem_iff.1 hz) with rfl | hz; omega; exact h1.1 z hz, ins_sorted x r h1.2⟩
theorem isort_perm : ∀ l : List Int, (isortI l).Perm l
 | [] => .refl _
 | x :: r => (ins_perm x _).trans ((isort_perm r).cons x)
theorem isort_sorted : ∀ l : List Int, (isortI l).Pairwise (· ≤ ·)
 | [] => .nil
 | x :: r => ins_sorted x _ (isort_sorted r)
theorem sort_isort (l : List Int) : sortI l = isortI l := by
 refine sorted_eq ?_ (isort_sorted l) ((List.mergeSort_perm l _).trans (isort_perm l).symm)
 have := List.pairwise_mergeSort (le := fun (x y : Int) => decide (x ≤ y)) (fun a b c h1 h2 => by simp at *; omega) (fun a b => by simp; omega) l
 exact this.imp (fun h => by simpa using h)
abbrev K2 := Int → List Int → Kn
def upd2 (kn : K2) (a : Int) (p : List Int) (k : Kn) : K2 := fun a' p' => if a' = a ∧ p' = p then k else kn a' p'
def slot2 (s : Int) (k : Kn) : Kn := if k.slots.contains s then k else { k with slots := isortI (k.slots ++ [s]) }
theorem slot2_eq (s : Int) (k : Kn) : slotF s k = slot2 s k := by unfold slotF slot2; rw [sort_isort]
def walk2 (l : FLit) : K2 → List Int → List Int → K2
 | kn, _, [] => kn
 | kn, pre, s :: r =>
  walk2 l (upd2 (upd2 kn l.f.arg pre (slot2 s (kn l.f.arg pre))) l.f.arg (pre ++ [s]) (needF l (upd2 kn l.f.arg pre (slot2 s (kn l.f.arg pre)) l.f.arg (pre ++ [s])))) (pre ++ [s]) r
def add2 (kn : K2) (l : FLit) : K2 :=
 upd2 (walk2 l (upd2 kn l.f.arg [] (needF l (kn l.f.arg []))) [] l.f.path) l.f.arg l.f.path (askK (walk2 l (upd2 kn l.f.arg [] (needF l (kn l.f.arg []))) [] l.f.path l.f.arg l.f.path) l)
def stage2 (ls : List FLit) : K2 := ls.foldl add2 (fun _ _ => kn0)
theorem keyS_inj {a b : Int} {p q : List Int} (hp : p.length ≤ 2) (hq : q.length ≤ 2) (h : keyS a p = keyS b q) : a = b ∧ p = q := by
 have key : ∀ i : Nat, ∀ x y : Int, (keyV a p)[i]? = some (.int .i64 x) → (keyV b q)[i]? = some (.int .i64 y) → x = y := by
  intro i x y h1 h2
  have h3 : (keyV a p) = (keyV b q) := by
   have := congrArg (fun v : Value => match v with | .agg c => c.toList | _ => []) h
   simpa using this
  rw [h3, h2] at h1
  simpa using h1.symm
 have h0 := key 0 a b rfl rfl
 have h1 := key 1 p.length q.length rfl rfl
 have h2 := key 2 (p.getD 0 0) (q.getD 0 0) rfl rfl
 have h3 := key 3 (p.getD 1 0) (q.getD 1 0) rfl rfl
 refine ⟨h0, ?_⟩
 match p, q, hp, hq with
 | [], [], _, _ => rfl
 | [x], [y], _, _ => simp at h2; rw [h2]
 | [x, x'], [y, y'], _, _ => simp at h2 h3; rw [h2, h3]
 | [], _ :: _, _, _ => simp at h1; omega
 | _ :: _, [], _, _ => simp at h1; omega
 | [_], _ :: _ :: _, _, _ => simp at h1; omega
 | _ :: _ :: _, [_], _, _ => simp at h1; omega
def Rep2 (kn : Value → Kn) (k2 : K2) : Prop := ∀ a p, p.length ≤ 2 → kn (keyS a p) = k2 a p
theorem Rep2.upd {kn : Value → Kn} {k2 : K2} (h : Rep2 kn k2) {a : Int} {p : List Int} (hp : p.length ≤ 2) (k : Kn) : Rep2 (updK kn (keyS a p) k) (upd2 k2 a p k) := by
 intro b q hq
 unfold updK upd2
 by_cases e : b = a ∧ q = p
 ·rw [if_pos e, if_pos (by rw [e.1, e.2])]
 ·rw [if_neg e, if_neg (fun h' => e (keyS_inj hq hp h'))]
  exact h b q hq
theorem Rep2.walk {l : FLit} : ∀ (r : List Int) {kn : Value → Kn} {k2 : K2} (pre : List Int), Rep2 kn k2 → pre.length + r.length ≤ 2 → Rep2 (walkK l kn pre r) (walk2 l k2 pre r)
 | [], kn, k2, pre, h, _ => h
 | s :: r, kn, k2, pre, h, hp => by
  simp only [List.length_cons] at hp
  rw [walkK, walk2]
  have h1 : Rep2 (updK kn (keyS l.f.arg pre) (slotF s (kn (keyS l.f.arg pre)))) (upd2 k2 l.f.arg pre (slot2 s (k2 l.f.arg pre))) := by
   rw [slot2_eq, h _ _ (by omega)]; exact h.upd (by omega) _
  have h2 := h1.upd (a := l.f.arg) (p := pre ++ [s]) (by simp; omega) (needF l (updK kn (keyS l.f.arg pre) (slotF s (kn (keyS l.f.arg pre))) (keyS l.f.arg (pre ++ [s]))))
  rw [h1 _ (pre ++ [s]) (by simp; omega)] at h2
  have h3 := Rep2.walk (l := l) r (pre ++ [s]) h2 (by simp; omega)
  rw [h1 _ (pre ++ [s]) (by simp; omega)]
  exact h3
theorem Rep2.add {kn : Value → Kn} {k2 : K2} (h : Rep2 kn k2) {l : FLit} (hp : l.f.path.length ≤ 2) : Rep2 (addK kn l) (add2 k2 l) := by
 unfold addK add2 add0K
 have h0 := h.upd (a := l.f.arg) (p := []) (by simp) (needF l (kn (keyS l.f.arg [])))
 rw [h l.f.arg [] (by simp)] at h0 ⊢
 have h1 := Rep2.walk (l := l) l.f.path [] h0 (by simp; omega)
 rw [h1 _ _ hp]
 exact h1.upd hp _
theorem stage_rep {W : FW} {ls : List FLit} (hl : ∀ l ∈ ls, LitOk W l) : Rep2 (stageK ls) (stage2 ls) := by
 unfold stageK stage2
 have : ∀ (ls : List FLit) (kn : Value → Kn) (k2 : K2), Rep2 kn k2 → (∀ l ∈ ls, LitOk W l) → Rep2 (ls.foldl addK kn) (ls.foldl add2 k2) := by
  intro ls
  induction ls with
  | nil => intro kn k2 h _; exact h
  | cons l ls ih => intro kn k2 h hl; exact ih _ _ (h.add (hl l (.head _)).path) (fun x hx => hl x (.tail _ hx))
 exact this ls _ _ (fun _ _ _ => rfl) hl
def ends2 (kn : K2) (arg : Int) (path : List Int) : Bool := (kn arg path).slots.all fun s => !(kn arg (path ++ [s])).needed
def plain2 (kn : K2) (arg : Int) (path : List Int) (cls : Int) : Bool := ((andNotP (kn arg path).must (upK cls) : Int) == 0) && ((((kn arg path).no &&& upK cls : Nat) : Int) == 0) && ends2 kn arg path
def integer2 (kn : K2) (arg : Int) (path : List Int) : Bool := decide (freeK (kn arg path).nots (kn arg path).low ≤ (kn arg path).high) && plain2 kn arg path 1
def none2 (kn : K2) (arg : Int) (path : List Int) : Bool := !(kn arg path).whole && plain2 kn arg path 2
def slots2 (W : FW) (kn : K2) (can : List Int → Bool) (arg : Int) (path : List Int) : List Int → Nat → Nat → Option (Nat × Nat)
 | [], must, no => some (must, no)
 | s :: r, must, no =>
  if (kn arg (path ++ [s])).needed && !can (path ++ [s]) then none
  else if (kn arg (path ++ [s])).needed then slots2 W kn can arg path r (must ||| 2 ^ (W.owner.getD s.toNat default).toNat) no
  else if !can (path ++ [s]) then slots2 W kn can arg path r must (no ||| 2 ^ (W.owner.getD s.toNat default).toNat)
  else slots2 W kn can arg path r must no
def object2 (W : FW) (kn : K2) (can : List Int → Bool) (arg : Int) (path : List Int) : Nat × Bool :=
 if (kn arg path).whole || (kn arg path).must.testBit 1 || (kn arg path).must.testBit 2 || (kn arg path).no.testBit 0 then (0, false)
 else match slots2 W kn can arg path (kn arg path).slots (kn arg path).must (kn arg path).no with
  | none => (0, false)
  | some (must, no) => (andNotP (closeK W W.parents.length 3 must) 1, ((andNotP (closeK W W.parents.length 3 must) 1 &&& no : Nat) : Int) == 0)
def can2 (W : FW) (kn : K2) : Nat → Int → List Int → Bool
 | 0, arg, path => integer2 kn arg path || none2 kn arg path || (object2 W kn (fun _ => false) arg path).2
 | d + 1, arg, path => integer2 kn arg path || none2 kn arg path || (object2 W kn (can2 W kn d arg) arg path).2
theorem ends_two {kn : Value → Kn} {k2 : K2} (h : Rep2 kn k2) (hd : ∀ a p, p.length = 2 → (kn (keyS a p)).slots = []) {arg : Int} {path : List Int} (hp : path.length ≤ 2) : endsK kn arg path = ends2 k2 arg path := by
 unfold endsK ends2
 rw [h arg path hp]
 by_cases h2 : path.length = 2
 ·have := hd arg path h2
  rw [h arg path hp] at this
  rw [this]; rfl
 ·have key : ∀ s, kn (keyS arg (path ++ [s])) = k2 arg (path ++ [s]) := fun s => h _ _ (by simp; omega)
  congr 1; funext s; rw [key]
theorem plain_two {kn : Value → Kn} {k2 : K2} (h : Rep2 kn k2) (hd : ∀ a p, p.length = 2 → (kn (keyS a p)).slots = []) {arg : Int} {path : List Int} (hp : path.length ≤ 2) (cls : Int) : plainK kn arg path cls = plain2 k2 arg path cls := by
 unfold plainK plain2; rw [h arg path hp, ends_two h hd hp]
theorem integer_two {kn : Value → Kn} {k2 : K2} (h : Rep2 kn k2) (hd : ∀ a p, p.length = 2 → (kn (keyS a p)).slots = []) {arg : Int} {path : List Int} (hp : path.length ≤ 2) : integerOk kn arg path = integer2 k2 arg path := by
 unfold integerOk integer2; rw [h arg path hp, plain_two h hd hp]
theorem none_two {kn : Value → Kn} {k2 : K2} (h : Rep2 kn k2) (hd : ∀ a p, p.length = 2 → (kn (keyS a p)).slots = []) {arg : Int} {path : List Int} (hp : path.length ≤ 2) : noneOk kn arg path = none2 k2 arg path := by
 unfold noneOk none2; rw [h arg path hp, plain_two h hd hp]
theorem slots_two {W : FW} {kn : Value → Kn} {k2 : K2} (h : Rep2 kn k2) {c1 c2 : List Int → Bool} {arg : Int} {path : List Int} (hp : path.length < 2) (hc : ∀ s, c1 (path ++ [s]) = c2 (path ++ [s])) : ∀ (l : List Int) (must no : Nat), slotsK W kn c1 arg path l must no = slots2 W k2 c2 arg path l must no
 | [], must, no => rfl
 | s :: r, must, no => by
  rw [slotsK, slots2]
  rw [h arg (path ++ [s]) (by simp; omega), hc, slots_two h hp hc r, slots_two h hp hc r, slots_two h hp hc r]
theorem object_two {W : FW} {kn : Value → Kn} {k2 : K2} (h : Rep2 kn k2) (hd : ∀ a p, p.length = 2 → (kn (keyS a p)).slots = []) {c1 c2 : List Int → Bool} {arg : Int} {path : List Int} (hp : path.length ≤ 2) (hc : path.length < 2 → ∀ s, c1 (path ++ [s]) = c2 (path ++ [s])) : objectK W kn c1 arg path = object2 W k2 c2 arg path := by
 unfold objectK object2
 simp only []
 rw [h arg path hp]
 by_cases h2 : path.length = 2
 ·have := hd arg path h2
  rw [h arg path hp] at this
  rw [this, slotsK, slots2]
 ·rw [slots_two h (by omega) (hc (by omega))]
  generalize slots2 W k2 c2 arg path (k2 arg path).slots (k2 arg path).must (k2 arg path).no = o
  cases o <;> rfl
theorem can_two {W : FW} {kn : Value → Kn} {k2 : K2} (h : Rep2 kn k2) (hd : ∀ a p, p.length = 2 → (kn (keyS a p)).slots = []) {arg : Int} : ∀ (d : Nat) (path : List Int), path.length + d = 2 → canK W kn d arg path = can2 W k2 d arg path
 | 0, path, hp => by rw [canK, can2, integer_two h hd (by omega), none_two h hd (by omega), object_two h hd (by omega) (fun h2 => absurd h2 (by omega))]
 | d + 1, path, hp => by rw [canK, can2, integer_two h hd (by omega), none_two h hd (by omega), object_two h hd (by omega) (fun h2 s => can_two h hd d (path ++ [s]) (by simp; omega))]
def together2 (W : FW) (ls : List FLit) : Bool := can2 W (stage2 ls) 2 0 [] && can2 W (stage2 ls) 2 1 [] && can2 W (stage2 ls) 2 2 []
theorem together_two {W : FW} {ls : List FLit} (hl : ∀ l ∈ ls, LitOk W l) : togetherK W ls = together2 W ls := by
 have h := stage_rep hl
 have hd := (KI.stage hl).deep
 rw [togetherK, together2]
 simp only [wholeK, List.range_succ, List.range_zero, List.nil_append, List.cons_append, List.all_cons, List.all_nil, Bool.and_true]
 rw [can_two h hd 2 [] rfl, can_two h hd 2 [] rfl, can_two h hd 2 [] rfl]
 simp [Bool.and_assoc]
def canC (W : FW) (f : Fact) : Bool := (casesP f false).any (together2 W)
theorem any_eq {α : Type} {l : List α} {p q : α → Bool} (h : ∀ x ∈ l, p x = q x) : l.any p = l.any q := by
 induction l with
 | nil => rfl
 | cons x r ih => rw [List.any_cons, List.any_cons, h x (.head _), ih (fun y hy => h y (.tail _ hy))]
theorem case_two {W : FW} {c : List FLit} (h : CaseOk W c) : togetherK W c = together2 W c := together_two h.1
theorem can_eq {W : FW} {f : Fact} (h : GoodF W f) : canF W f = canC W f := any_eq fun c hc => case_two (h.case false c hc)
def impC (W : FW) (a b : Fact) : Bool := !canC W (andF a (notF b))
theorem imp_eq {W : FW} (hw : worldP W = true) {a b : Fact} (ha : wfB W a = true) (hb : wfB W b = true) (hna : nodesN a ≤ 100) (hnb : nodesN b ≤ 100) : impF W a b = impC W a b := by
 rw [impF, impC, can_eq (good_of hw (wf_and ha (wf_not hb)) (by rw [nodes_and, nodes_not]; omega))]
def casesC (W : FW) (l : List (List FLit)) : List (List Fact) := (l.filter (together2 W)).map factL
theorem cases_eq {W : FW} {l : List (List FLit)} (h : ∀ c ∈ l, CaseOk W c) : casesL W l = casesC W l := by
 rw [casesL, casesC]
 congr 1
 exact List.filter_congr fun c hc => case_two (h c hc)
def minStep2 (W : FW) (c : List FLit) (left : List Int) (n : Int) : List Int := if together2 W (pickL c (left.filter fun m => !(m == n))) then left else left.filter fun m => !(m == n)
def minN2 (W : FW) (c : List FLit) (k : Nat) : List Int := (List.range k).foldl (fun left (n : Nat) => minStep2 W c left (n : Int)) (numL c.length)
def minC2 (W : FW) (c : List FLit) : List Int := minN2 W c c.length
theorem minN_eq {W : FW} {c : List FLit} (hc : CaseOk W c) : ∀ k, minN W c k = minN2 W c k
 | 0 => rfl
 | k + 1 => by
  have h := (minN_inv W c k).filter
  rw [minN_succ, minN2, List.range_succ, List.foldl_append]
  show _ = minStep2 W c (minN2 W c k) k
  rw [minStep, minStep2, case_two (pick_case hc h.rng h.len), minN_eq hc k]
theorem min_eq {W : FW} {c : List FLit} (hc : CaseOk W c) : minC W c = minC2 W c := minN_eq hc _
def goodG2 (W : FW) (f g : Fact) : Bool := impC W f g && impC W g f
def stepAt2 (W : FW) (f : Fact) (i : Nat) (x : Fact) : Option Fact := ((candsP x).map fun y => putF y f i).find? (goodG2 W f)
def stepL2 (W : FW) (f : Fact) (l : List Fact) : Option Fact := l.zipIdx.findSome? fun p => stepAt2 W f p.2 p.1
def stepF2 (W : FW) (f : Fact) : Option Fact := stepL2 W f (nodesL f)
theorem find_eq {α : Type} {l : List α} {p q : α → Bool} (h : ∀ x ∈ l, p x = q x) : l.find? p = l.find? q := by
 induction l with
 | nil => rfl
 | cons x r ih => rw [List.find?_cons, List.find?_cons, h x (.head _), ih (fun y hy => h y (.tail _ hy))]
theorem findSome_eq {α β : Type} {l : List α} {p q : α → Option β} (h : ∀ x ∈ l, p x = q x) : l.findSome? p = l.findSome? q := by
 induction l with
 | nil => rfl
 | cons x r ih => rw [List.findSome?_cons, List.findSome?_cons, h x (.head _), ih (fun y hy => h y (.tail _ hy))]
theorem step_eq {W : FW} (hw : worldP W = true) {f : Fact} (hf : wfB W f = true) (hwt : wtF f ≤ 72) : stepF W f = stepF2 W f := by
 rw [stepF, stepF2, stepL, stepL2]
 refine findSome_eq fun p hp => ?_
 have hx : (nodesL f)[p.2]? = some p.1 := List.mem_zipIdx_iff_getElem?.1 hp
 have hwx := wf_nodes f hf p.1 (List.mem_of_getElem? hx)
 have hnf := nodes_wt f
 refine find_eq fun g hg => ?_
 obtain ⟨y, hy, rfl⟩ := List.mem_map.1 hg
 have h1 := cand_ok hwx hy
 have h2 := putF_wt y f p.2 p.1 hx
 have h3 := nodes_wt (putF y f p.2)
 have h4 := wf_put h1.1 f hf p.2
 rw [goodG, goodG2, imp_eq hw hf h4 (by omega) (by omega), imp_eq hw h4 hf (by omega) (by omega)]
def shortN2 (W : FW) : Nat → Fact → Fact
 | 0, f => f
 | n + 1, f => match stepF2 W f with | some g => shortN2 W n g | none => f
def shortF2 (W : FW) (f : Fact) : Fact := shortN2 W (wtF f) f
theorem shortN_eq {W : FW} (hw : worldP W = true) : ∀ (n : Nat) (f : Fact), wfB W f = true → wtF f ≤ 72 → shortN W n f = shortN2 W n f
 | 0, _, _, _ => rfl
 | n + 1, f, hf, hwt => by
  rw [shortN, shortN2, ← step_eq hw hf hwt]
  cases hs : stepF W f with
  | none => rfl
  | some g =>
   have hg := step_wt hf hs
   exact shortN_eq hw n g hg.1 (by omega)
theorem short_eq {W : FW} (hw : worldP W = true) {f : Fact} (hf : wfB W f = true) (hwt : wtF f ≤ 72) : shortF W f = shortF2 W f := shortN_eq hw _ f hf hwt
def W0 : FW := ⟨[[], [3], [], [4, 5]], [3, 5]⟩
def isF (c : Int) (p : List Int) : Fact := .mk 2 0 p c 0 []
def lessF (n : Int) (p : List Int) : Fact := .mk 3 0 p 0 n []
def eqF (n : Int) (p : List Int) : Fact := .mk 4 0 p 0 n []
theorem w0_ok : worldP W0 = true := by decide +kernel
theorem k1 : impC W0 (isF 4 []) (isF 3 []) = true := by decide +kernel
theorem k2 : impC W0 (andF (isF 4 []) (isF 5 [])) (isF 6 []) = false := by decide +kernel
theorem k3 : impC W0 (lessF 7 [0]) (isF 3 []) = true := by decide +kernel
theorem k4 : impC W0 (lessF 3 []) (lessF 4 []) = true := by decide +kernel
theorem k5 : impC W0 (notF (lessF 3 [])) (isF 1 []) = false := by decide +kernel
theorem k6 : impC W0 (andF (lessF 4 []) (notF (eqF 3 []))) (lessF 3 []) = true := by decide +kernel
theorem k7 : impC W0 (isF 3 []) (isF 0 [0]) = true := by decide +kernel
theorem k8 : canC W0 (andF (isF 1 []) (isF 0 [0])) = false := by decide +kernel
theorem k9 : canC W0 (andF (isF 4 []) (isF 5 [])) = true := by decide +kernel
theorem k10 : canC W0 (isF 1 [0, 1]) = true := by decide +kernel
theorem k11 : canC W0 (andF (isF 5 []) (notF (isF 0 [1]))) = false := by decide +kernel
theorem k12 : casesC W0 (casesP (andF (isF 1 []) (orF (lessF 3 []) (isF 3 []))) false) = [[isF 1 [], lessF 3 []]] := by decide +kernel
theorem k13 : (impCases (isF 4 []) (isF 3 [])).map (minC2 W0) = [[0, 1]] ∧ (impCases (isF 4 []) (isF 3 [])).all (fun c => !together2 W0 c) = true ∧ (impCases (isF 4 []) (isF 3 [])).length ≤ 400 := by decide +kernel
theorem k14 : shortF2 W0 (andF (isF 4 []) (isF 3 [])) = isF 4 [] := by decide +kernel
theorem k15 : shortF2 W0 (andF (lessF 3 []) (isF 3 [])) = noF := by decide +kernel
theorem p34 : PCall Tryz.prog 34 [] (AV.world W0) := by
 intro H
 refine ACall.mk' (n := 6) Tryz.func34 rfl (by kernel_rfl) rfl rfl (fun B I w0 => ?_)
 refine S2 ?_
 refine OL.alC rfl rfl rfl rfl (fun b0 => ?_)
 refine S4 ?_
 refine OL.popC rfl rfl rfl (POp.row rfl rfl (by first | rfl | simp_all [strip]) rfl rfl rfl rfl rfl rfl) ?_
 refine OL.popC rfl rfl rfl (POp.row rfl rfl (by first | rfl | simp_all [strip]) rfl rfl rfl rfl rfl rfl) ?_
 refine OL.popC rfl rfl rfl (POp.row rfl rfl (by first | rfl | simp_all [strip]) rfl rfl rfl rfl rfl rfl) ?_
 refine OL.popC rfl rfl rfl (POp.row rfl rfl (by first | rfl | simp_all [strip]) rfl rfl rfl rfl rfl rfl) ?_
 refine Obd ?_; refine Sto ?_; refine S3 ?_
 refine Done.retR (rs := [.cell 0 25]) (H' := H) rfl ((by first | exact .cellA inferInstance rfl (by repeat (first | exact .head _ | refine .tail _ ?_)) rfl rfl (.nil) | exact .ptrA inferInstance rfl rfl (.nil))) (.cons (AVle.agg (.cons (AVle.sl (.cons (.cons (AVle.nil 1) .nil) (.cons (.refl _) (.cons (.cons (AVle.nil 1) .nil) (.cons (.refl _) .nil))))) (.cons (.refl _) .nil))) .nil) (by repeat (first | exact List.Sublist.refl _ | refine List.Sublist.cons _ ?_)) ?_
 exact ⟨by first | rfl | exact retI (by simp_all) | exact retB (by simp_all) | simp_all, rfl⟩
theorem p37 (c : Int) (p : List Int) : PCall Tryz.prog 37 [.i c, AV.ints p] (AV.fact (isF c p)) := by
 intro H
 refine ACall.mk' (n := 8) Tryz.func37 rfl (by kernel_rfl) rfl rfl (fun B I w0 => ?_)
 refine S2 ?_
 refine OL.alC rfl rfl rfl rfl (fun b0 => ?_)
 refine S4 ?_; refine Omv ?_; refine Omv ?_; refine Obd ?_; refine Sto ?_; refine S3 ?_
 refine Done.retR (rs := [.cell 4 29]) (H' := H) rfl ((by first | exact .cellA inferInstance rfl (by repeat (first | exact .head _ | refine .tail _ ?_)) rfl rfl (.nil) | exact .ptrA inferInstance rfl rfl (.nil))) (.cons (AVle.agg (.cons (.refl _) (.cons (.refl _) (.cons (.refl _) (.cons (.refl _) (.cons (.refl _) (.cons (AVle.nil 6) .nil))))))) .nil) (by repeat (first | exact List.Sublist.refl _ | refine List.Sublist.cons _ ?_)) ?_
 exact ⟨by first | rfl | exact retI (by simp_all) | exact retB (by simp_all) | simp_all, rfl⟩
theorem p43 (n : Int) (p : List Int) : PCall Tryz.prog 43 [.i n, AV.ints p] (AV.fact (lessF n p)) := by
 intro H
 refine ACall.mk' (n := 8) Tryz.func43 rfl (by kernel_rfl) rfl rfl (fun B I w0 => ?_)
 refine S2 ?_
 refine OL.alC rfl rfl rfl rfl (fun b0 => ?_)
 refine S4 ?_; refine Omv ?_; refine Omv ?_; refine Obd ?_; refine Sto ?_; refine S3 ?_
 refine Done.retR (rs := [.cell 4 29]) (H' := H) rfl ((by first | exact .cellA inferInstance rfl (by repeat (first | exact .head _ | refine .tail _ ?_)) rfl rfl (.nil) | exact .ptrA inferInstance rfl rfl (.nil))) (.cons (AVle.agg (.cons (.refl _) (.cons (.refl _) (.cons (.refl _) (.cons (.refl _) (.cons (.refl _) (.cons (AVle.nil 6) .nil))))))) .nil) (by repeat (first | exact List.Sublist.refl _ | refine List.Sublist.cons _ ?_)) ?_
 exact ⟨by first | rfl | exact retI (by simp_all) | exact retB (by simp_all) | simp_all, rfl⟩
theorem p45 (n : Int) (p : List Int) : PCall Tryz.prog 45 [.i n, AV.ints p] (AV.fact (eqF n p)) := by
 intro H
 refine ACall.mk' (n := 8) Tryz.func45 rfl (by kernel_rfl) rfl rfl (fun B I w0 => ?_)
 refine S2 ?_
 refine OL.alC rfl rfl rfl rfl (fun b0 => ?_)
 refine S4 ?_; refine Omv ?_; refine Omv ?_; refine Obd ?_; refine Sto ?_; refine S3 ?_
 refine Done.retR (rs := [.cell 4 29]) (H' := H) rfl ((by first | exact .cellA inferInstance rfl (by repeat (first | exact .head _ | refine .tail _ ?_)) rfl rfl (.nil) | exact .ptrA inferInstance rfl rfl (.nil))) (.cons (AVle.agg (.cons (.refl _) (.cons (.refl _) (.cons (.refl _) (.cons (.refl _) (.cons (.refl _) (.cons (AVle.nil 6) .nil))))))) .nil) (by repeat (first | exact List.Sublist.refl _ | refine List.Sublist.cons _ ?_)) ?_
 exact ⟨by first | rfl | exact retI (by simp_all) | exact retB (by simp_all) | simp_all, rfl⟩
theorem p36 (a b : Fact) : PCall Tryz.prog 36 [AV.fact a, AV.fact b] (AV.fact (andF a b)) := by
 intro H
 refine ACall.mk' (n := 9) Tryz.func36 rfl (by kernel_rfl) rfl rfl (fun B I w0 => ?_)
 refine S2 ?_; refine Obx ?_; refine Obx ?_
 refine OL.alC rfl rfl rfl rfl (fun b0 => ?_)
 refine S4 ?_; refine Ola ?_; refine Ola ?_
 refine OL.popC rfl rfl rfl (POp.row rfl rfl (by first | rfl | simp_all [strip]) rfl rfl rfl rfl rfl rfl) ?_
 refine Obd ?_; refine Sto ?_; refine S3 ?_
 refine Done.retR (rs := [.cell 4 29]) (H' := H) rfl ((by first | exact .cellA inferInstance rfl (by repeat (first | exact .head _ | refine .tail _ ?_)) rfl rfl (.nil) | exact .ptrA inferInstance rfl rfl (.nil))) (.cons (AVle.agg (.cons (.refl _) (.cons (.refl _) (.cons (AVle.nil 1) (.cons (.refl _) (.cons (.refl _) (.cons (AVle_facts [a, b] rfl) .nil))))))) .nil) (by repeat (first | exact List.Sublist.refl _ | refine List.Sublist.cons _ ?_)) ?_
 exact ⟨by first | rfl | exact retI (by simp_all) | exact retB (by simp_all) | simp_all, rfl⟩
theorem p88 (a b : Fact) : PCall Tryz.prog 88 [AV.fact a, AV.fact b] (AV.fact (andF a b)) := by
 intro H
 refine ACall.mk' (n := 9) Tryz.func88 rfl (by kernel_rfl) rfl rfl (fun B I w0 => ?_)
 refine S2 ?_; refine Obx ?_; refine Obx ?_
 refine OL.alC rfl rfl rfl rfl (fun b0 => ?_)
 refine S4 ?_; refine Ola ?_; refine Ola ?_
 refine OL.popC rfl rfl rfl (POp.row rfl rfl (by first | rfl | simp_all [strip]) rfl rfl rfl rfl rfl rfl) ?_
 refine Obd ?_; refine Sto ?_; refine S3 ?_
 refine Done.retR (rs := [.cell 4 29]) (H' := H) rfl ((by first | exact .cellA inferInstance rfl (by repeat (first | exact .head _ | refine .tail _ ?_)) rfl rfl (.nil) | exact .ptrA inferInstance rfl rfl (.nil))) (.cons (AVle.agg (.cons (.refl _) (.cons (.refl _) (.cons (AVle.nil 1) (.cons (.refl _) (.cons (.refl _) (.cons (AVle_facts [a, b] rfl) .nil))))))) .nil) (by repeat (first | exact List.Sublist.refl _ | refine List.Sublist.cons _ ?_)) ?_
 exact ⟨by first | rfl | exact retI (by simp_all) | exact retB (by simp_all) | simp_all, rfl⟩
theorem p90 (a b : Fact) : PCall Tryz.prog 90 [AV.fact a, AV.fact b] (AV.fact (orF a b)) := by
 intro H
 refine ACall.mk' (n := 9) Tryz.func90 rfl (by kernel_rfl) rfl rfl (fun B I w0 => ?_)
 refine S2 ?_; refine Obx ?_; refine Obx ?_
 refine OL.alC rfl rfl rfl rfl (fun b0 => ?_)
 refine S4 ?_; refine Ola ?_; refine Ola ?_
 refine OL.popC rfl rfl rfl (POp.row rfl rfl (by first | rfl | simp_all [strip]) rfl rfl rfl rfl rfl rfl) ?_
 refine Obd ?_; refine Sto ?_; refine S3 ?_
 refine Done.retR (rs := [.cell 4 29]) (H' := H) rfl ((by first | exact .cellA inferInstance rfl (by repeat (first | exact .head _ | refine .tail _ ?_)) rfl rfl (.nil) | exact .ptrA inferInstance rfl rfl (.nil))) (.cons (AVle.agg (.cons (.refl _) (.cons (.refl _) (.cons (AVle.nil 1) (.cons (.refl _) (.cons (.refl _) (.cons (AVle_facts [a, b] rfl) .nil))))))) .nil) (by repeat (first | exact List.Sublist.refl _ | refine List.Sublist.cons _ ?_)) ?_
 exact ⟨by first | rfl | exact retI (by simp_all) | exact retB (by simp_all) | simp_all, rfl⟩
theorem p39 (f : Fact) : PCall Tryz.prog 39 [AV.fact f] (AV.fact (notF f)) := by
 intro H
 refine ACall.mk' (n := 6) Tryz.func39 rfl (by kernel_rfl) rfl rfl (fun B I w0 => ?_)
 refine S2 ?_; refine Obx ?_
 refine OL.alC rfl rfl rfl rfl (fun b0 => ?_)
 refine S4 ?_; refine Ola ?_
 refine OL.popC rfl rfl rfl (POp.row rfl rfl (by first | rfl | simp_all [strip]) rfl rfl rfl rfl rfl rfl) ?_
 refine Obd ?_; refine Sto ?_; refine S3 ?_
 refine Done.retR (rs := [.cell 2 29]) (H' := H) rfl ((by first | exact .cellA inferInstance rfl (by repeat (first | exact .head _ | refine .tail _ ?_)) rfl rfl (.nil) | exact .ptrA inferInstance rfl rfl (.nil))) (.cons (AVle.agg (.cons (.refl _) (.cons (.refl _) (.cons (AVle.nil 1) (.cons (.refl _) (.cons (.refl _) (.cons (AVle_facts [f] rfl) .nil))))))) .nil) (by repeat (first | exact List.Sublist.refl _ | refine List.Sublist.cons _ ?_)) ?_
 exact ⟨by first | rfl | exact retI (by simp_all) | exact retB (by simp_all) | simp_all, rfl⟩
theorem p89 (f : Fact) : PCall Tryz.prog 89 [AV.fact f] (AV.fact (notF f)) := by
 intro H
 refine ACall.mk' (n := 6) Tryz.func89 rfl (by kernel_rfl) rfl rfl (fun B I w0 => ?_)
 refine S2 ?_; refine Obx ?_
 refine OL.alC rfl rfl rfl rfl (fun b0 => ?_)
 refine S4 ?_; refine Ola ?_
 refine OL.popC rfl rfl rfl (POp.row rfl rfl (by first | rfl | simp_all [strip]) rfl rfl rfl rfl rfl rfl) ?_
 refine Obd ?_; refine Sto ?_; refine S3 ?_
 refine Done.retR (rs := [.cell 2 29]) (H' := H) rfl ((by first | exact .cellA inferInstance rfl (by repeat (first | exact .head _ | refine .tail _ ?_)) rfl rfl (.nil) | exact .ptrA inferInstance rfl rfl (.nil))) (.cons (AVle.agg (.cons (.refl _) (.cons (.refl _) (.cons (AVle.nil 1) (.cons (.refl _) (.cons (.refl _) (.cons (AVle_facts [f] rfl) .nil))))))) .nil) (by repeat (first | exact List.Sublist.refl _ | refine List.Sublist.cons _ ?_)) ?_
 exact ⟨by first | rfl | exact retI (by simp_all) | exact retB (by simp_all) | simp_all, rfl⟩
theorem p91 : PCall Tryz.prog 91 [] (AV.fact trueF) := by
 intro H
 refine ACall.mk' (n := 2) Tryz.func91 rfl (by kernel_rfl) rfl rfl (fun B I w0 => ?_)
 refine S2 ?_
 refine OL.alC rfl rfl rfl rfl (fun b0 => ?_)
 refine S4 ?_; refine Obd ?_; refine Sto ?_; refine S3 ?_
 refine Done.retR (rs := [.cell 0 29]) (H' := H) rfl ((by first | exact .cellA inferInstance rfl (by repeat (first | exact .head _ | refine .tail _ ?_)) rfl rfl (.nil) | exact .ptrA inferInstance rfl rfl (.nil))) (.cons (AVle.agg (nilFact_le 1)) .nil) (by repeat (first | exact List.Sublist.refl _ | refine List.Sublist.cons _ ?_)) ?_
 exact ⟨by first | rfl | exact retI (by simp_all) | exact retB (by simp_all) | simp_all, rfl⟩
theorem gtake_succ {α : Type} [Inhabited α] {la lb : List α} {k : Nat} (hl : la.length = lb.length) (hk : k < la.length) (hp : la.take k = lb.take k) (h : la.getD k default = lb.getD k default) : la.take (k + 1) = lb.take (k + 1) := by
 rw [← take_getD hk, ← take_getD (by omega), hp, h]
theorem p28_step (a : Fact) (ih : ∀ k ∈ a.kids, ∀ y, PCall Tryz.prog 28 [AV.fact k, AV.fact y] (.b (k == y))) (b : Fact) : PCall Tryz.prog 28 [AV.fact a, AV.fact b] (.b (a == b)) := by
 intro H
 refine ACall.mk' (n := 68) Tryz.func28 rfl (by kernel_rfl) rfl rfl (fun B I w0 => ?_)
 refine S2 ?_; refine Obx ?_; refine Obx ?_; refine Oas ?_; refine S5 ?_; refine Ofa ?_; refine Old ?_; refine Ofa ?_; refine Old ?_; refine Ocm ?_; refine Omv ?_; refine Pfa ?_
 refine Pld ?_; refine Pfa ?_; refine Pld ?_; refine Pcm ?_; refine Opk ?_; refine Omv ?_; refine Pfa ?_; refine Pld ?_; refine Pfa ?_; refine Pld ?_; refine Pcm ?_; refine Opk ?_
 refine Omv ?_; refine Pfa ?_; refine Pld ?_; refine Pfa ?_; refine Pld ?_; refine Pcm ?_; refine Opk ?_; refine Omv ?_; refine Pfa ?_; refine Pld ?_; refine Pfa ?_; refine Pld ?_
 refine OL.guardC rfl rfl rfl rfl rfl rfl (fun hg => POp.call (.mk' rfl rfl rfl rfl (by first | rfl | ((repeat (first | exact hg | rfl | refine Bool.and_eq_true_iff.2 ⟨?_, ?_⟩)); done) | simp_all [strip, constAV])) (p97 a.path b.path)) ?_
 refine Pnt ?_; refine Opk ?_; refine Omv ?_; refine Pfa ?_; refine Pld ?_; refine Pln ?_; refine Pfa ?_; refine Pld ?_; refine Pln ?_; refine Pcm ?_; refine Opk ?_; refine S2 ?_
 refine CW.cond rfl (fun h0 => ?_) (fun h0 => ?_)
 ·
  have hne : a ≠ b := by rintro rfl; simp at h0
  refine S2 ?_; refine Oas ?_; refine S4 ?_
  refine r1 4 (H) ?_
  exact ⟨retB (by simp [hne]), rfl⟩
 ·
  have hh : (a.op = b.op ∧ a.arg = b.arg ∧ a.cls = b.cls ∧ a.n = b.n ∧ a.path = b.path) ∧ a.kids.length = b.kids.length := by
   simp only [bif_or, Bool.or_eq_false_iff, bne_eq_false_iff_eq, Bool.not_eq_false', beq_iff_eq] at h0
   obtain ⟨⟨⟨⟨⟨h1, h2⟩, h3⟩, h4⟩, h5⟩, h6⟩ := h0
   exact ⟨⟨h1, h2, h3, h4, h5⟩, by omega⟩
  refine S5 ?_; refine Ofa ?_; refine Old ?_; refine Oln ?_; refine Omv ?_; refine S3 ?_
  refine lj (fun m st => ∃ k : Nat, st = ⟨[(52, .i k), (51, .i a.kids.length), (2, .ptr (Fcells a)), (3, .ptr (Fcells b))], H⟩ ∧ m = a.kids.length - k ∧ k ≤ a.kids.length ∧ a.kids.take k = b.kids.take k) (⟨0, rfl, rfl, Nat.zero_le _, rfl⟩) ?_
  rintro m _ ⟨k, rfl, rfl, hk, hp⟩
  refine CW.boundP (t := 2) (i := 5) rfl rfl (fun hbs => ?_)
  refine S2 ?_; refine Ocm ?_; refine S3 ?_
  refine CW.cond rfl (fun h1 => ?_) (fun h1 => ?_)
  ·
   replace h1 := nm h1
   have hkl : k < a.kids.length := by omega
   have hkb := hh.2
   refine S6 ?_; refine Omv ?_; refine Oas ?_; refine S3 ?_
   refine CW.dp mixed ?_
   refine DP.anyC 0 10 68 rfl (by decide +kernel) rfl rfl (by decide +kernel) ?_
   refine Afa ?_; refine Ald ?_; refine Amv ?_; refine Aix ?_; refine Ala ?_; refine Afa ?_; refine Ald ?_; refine Amv ?_; refine Aix ?_; refine Ala ?_
   refine AD.nil ?_
   refine DP.tailC 10 (by decide +kernel) rfl ?_
   refine OL.popC rfl rfl rfl (POp.call (.mk' rfl rfl rfl rfl rfl) (ih (a.kids.getD k default) (getD_mem hkl) (b.kids.getD k default))) ?_
   refine Ont ?_; refine S2 ?_
   refine CW.cond rfl (fun h2 => ?_) (fun h2 => ?_)
   ·
    have hne : a ≠ b := by
     rintro rfl; simp at h2
    refine S2 ?_; refine Oas ?_; refine S8 ?_
    refine r1 4 (H) ?_
    exact ⟨retB (by simp [hne]), rfl⟩
   ·
    have he : a.kids.getD k default = b.kids.getD k default := by simpa using h2
    refine S4 ?_; refine Oar ?_; refine Omv ?_; refine S1 ?_
    exact ag (⟨k + 1, rfl, rfl, by omega, gtake_succ hh.2 hkl hp he⟩)
  ·
   replace h1 := nm h1
   obtain rfl : k = a.kids.length := by omega
   rw [List.take_length, hh.2, List.take_length] at hp
   have hab : a = b := Fact.ext' hh.1.1 hh.1.2.1 hh.1.2.2.2.2 hh.1.2.2.1 hh.1.2.2.2.1 hp
   refine S7 ?_; refine Oas ?_; refine S3 ?_
   refine r1 4 (H) ?_
   exact ⟨retB (by simp [hab]), rfl⟩
theorem p28 (a b : Fact) : PCall Tryz.prog 28 [AV.fact a, AV.fact b] (.b (a == b)) := Fact.ind1 (P := fun a => ∀ b, PCall Tryz.prog 28 [AV.fact a, AV.fact b] (.b (a == b))) (fun a ih b => p28_step a ih b) a b
theorem p56 (a b : List (List Int)) : PCall Tryz.prog 56 [AV.intss a, AV.intss b] (.b (a == b)) := by
 intro H
 refine ACall.mk' (n := 27) Tryz.func56 rfl (by kernel_rfl) rfl rfl (fun B I w0 => ?_)
 refine S2 ?_; refine Oas ?_; refine S5 ?_; refine Omv ?_; refine Oln ?_; refine Omv ?_; refine Oln ?_; refine Ocm ?_; refine S2 ?_
 refine CW.cond rfl (fun h0 => ?_) (fun h0 => ?_)
 ·
  replace h0 := nm h0
  have hne : a ≠ b := by rintro rfl; simp at h0
  refine S2 ?_; refine Oas ?_; refine S4 ?_
  refine r1 4 (H) ?_
  exact ⟨retB (by simp [hne]), rfl⟩
 ·
  replace h0 := nm h0
  have h9 : (a.length : Int) = b.length := (by simpa using h0)
  have hl : a.length = b.length := by omega
  refine S5 ?_; refine Omv ?_; refine Oln ?_; refine Omv ?_; refine S3 ?_
  refine lj (fun m st => ∃ k : Nat, st = ⟨[(13, .i k), (12, .i a.length), (0, AV.intss a), (1, AV.intss b)], H⟩ ∧ m = a.length - k ∧ k ≤ a.length ∧ a.take k = b.take k) (⟨0, rfl, rfl, Nat.zero_le _, rfl⟩) ?_
  rintro m _ ⟨k, rfl, rfl, hk, hp⟩
  refine CW.boundM (t := 0) rfl (fun hbs => ?_)
  refine S2 ?_; refine Ocm ?_; refine S3 ?_
  refine CW.cond rfl (fun h1 => ?_) (fun h1 => ?_)
  ·
   replace h1 := nm h1
   have hkl : k < a.length := by omega
   refine S6 ?_; refine Omv ?_; refine Oas ?_; refine S3 ?_
   refine CW.dp mixed ?_
   refine DP.anyC 0 8 27 rfl (by decide +kernel) rfl rfl (by decide +kernel) ?_
   refine Amv ?_; refine Amv ?_; refine Aix ?_; refine Ald ?_; refine Amv ?_; refine Amv ?_; refine Aix ?_; refine Ald ?_
   refine AD.nil ?_
   refine DP.tailC 8 (by decide +kernel) rfl ?_
   refine OL.popC rfl rfl rfl (POp.call (.mk' rfl rfl rfl rfl rfl) (p97 (a.getD k default) (b.getD k default))) ?_
   refine Ont ?_; refine S2 ?_
   refine CW.cond rfl (fun h2 => ?_) (fun h2 => ?_)
   ·
    have hne : a ≠ b := by
     rintro rfl; simp at h2
    refine S2 ?_; refine Oas ?_; refine S8 ?_
    refine r1 4 (H) ?_
    exact ⟨retB (by simp [hne]), rfl⟩
   ·
    have he : a.getD k default = b.getD k default := by simpa using h2
    refine S4 ?_; refine Oar ?_; refine Omv ?_; refine S1 ?_
    exact ag (⟨k + 1, rfl, rfl, by omega, gtake_succ hl hkl hp he⟩)
  ·
   replace h1 := nm h1
   obtain rfl : k = a.length := by omega
   rw [List.take_length, hl, List.take_length] at hp
   refine S7 ?_; refine Oas ?_; refine S3 ?_
   refine r1 4 (H) ?_
   exact ⟨retB (by simp [hp]), rfl⟩
theorem p23 (a b : List (List Fact)) : PCall Tryz.prog 23 [AV.factss a, AV.factss b] (.b (a == b)) := by
 intro H
 refine ACall.mk' (n := 54) Tryz.func23 rfl (by kernel_rfl) rfl rfl (fun B I w0 => ?_)
 refine S2 ?_; refine Oas ?_; refine S5 ?_; refine Omv ?_; refine Oln ?_; refine Omv ?_; refine Oln ?_; refine Ocm ?_; refine S2 ?_
 refine CW.cond rfl (fun h0 => ?_) (fun h0 => ?_)
 ·
  replace h0 := nm h0
  have hne : a ≠ b := by rintro rfl; simp at h0
  refine S2 ?_; refine Oas ?_; refine S4 ?_
  refine r1 4 (H) ?_
  exact ⟨retB (by simp [hne]), rfl⟩
 ·
  replace h0 := nm h0
  have h9 : (a.length : Int) = b.length := (by simpa using h0)
  have hl : a.length = b.length := by omega
  refine S5 ?_; refine Omv ?_; refine Oln ?_; refine Omv ?_; refine S3 ?_
  refine lj (fun m st => ∃ k : Nat, st = ⟨[(14, .i k), (13, .i a.length), (0, AV.factss a), (1, AV.factss b)], H⟩ ∧ m = a.length - k ∧ k ≤ a.length ∧ a.take k = b.take k) (⟨0, rfl, rfl, Nat.zero_le _, rfl⟩) ?_
  rintro m _ ⟨k, rfl, rfl, hk, hp⟩
  refine CW.boundM (t := 0) rfl (fun hbs => ?_)
  refine S2 ?_; refine Ocm ?_; refine S3 ?_
  refine CW.cond rfl (fun h1 => ?_) (fun h1 => ?_)
  ·
   replace h1 := nm h1
   have hkl : k < a.length := by omega
   refine S6 ?_; refine Omv ?_; refine Oas ?_; refine S4 ?_
   refine CW.dp mixed ?_
   refine DP.anyC 0 10 54 rfl (by decide +kernel) rfl rfl (by decide +kernel) ?_
   refine Amv ?_; refine Amv ?_; refine Aix ?_; refine Ald ?_; refine Aln ?_; refine Amv ?_; refine Amv ?_; refine Aix ?_; refine Ald ?_; refine Aln ?_
   refine AD.nil ?_
   refine DP.tailC 10 (by decide +kernel) rfl ?_
   refine Ocm ?_; refine S2 ?_
   refine CW.cond rfl (fun h2 => ?_) (fun h2 => ?_)
   ·
    have hne : a ≠ b := by
     rintro rfl; simp at h2
    refine S2 ?_; refine Oas ?_; refine S9 ?_
    refine r1 4 (H) ?_
    exact ⟨retB (by simp [hne]), rfl⟩
   ·
    have hll : (a.getD k default).length = (b.getD k default).length := by
     simp only [bne_eq_false_iff_eq] at h2
     omega
    refine S4 ?_; refine Omv ?_; refine Omv ?_; refine Oix ?_; refine Old ?_; refine Oln ?_; refine Omv ?_; refine S3 ?_
    refine lj (fun m st => ∃ q : Nat, st = ⟨[(33, .i q), (32, .i (a.getD k default).length), (31, AV.facts (a.getD k default)), (5, .i k), (14, .i k), (13, .i a.length), (0, AV.factss a), (1, AV.factss b)], H⟩ ∧ m = (a.getD k default).length - q ∧ q ≤ (a.getD k default).length ∧ (a.getD k default).take q = (b.getD k default).take q) (⟨0, rfl, rfl, Nat.zero_le _, rfl⟩) ?_
    rintro m _ ⟨q, rfl, rfl, hq, hqp⟩
    refine CW.boundM (t := 31) rfl (fun hbq => ?_)
    refine S2 ?_; refine Ocm ?_; refine S3 ?_
    refine CW.cond rfl (fun h3 => ?_) (fun h3 => ?_)
    ·
     replace h3 := nm h3
     have hql : q < (a.getD k default).length := by omega
     refine S6 ?_; refine Omv ?_; refine Oas ?_; refine S3 ?_
     refine CW.dp mixed ?_
     refine DP.anyC 0 14 54 rfl (by decide +kernel) rfl rfl (by decide +kernel) ?_
     refine Amv ?_; refine Amv ?_; refine Aix ?_; refine Ald ?_; refine Amv ?_; refine Aix ?_; refine Ala ?_; refine Amv ?_; refine Amv ?_; refine Aix ?_; refine Ald ?_; refine Amv ?_
     refine Aix ?_; refine Ala ?_
     refine AD.nil ?_
     refine DP.tailC 14 (by decide +kernel) rfl ?_
     refine OL.popC rfl rfl rfl (POp.call (.mk' rfl rfl rfl rfl rfl) (p28 ((a.getD k default).getD q default) ((b.getD k default).getD q default))) ?_
     refine Ont ?_; refine S2 ?_
     refine CW.cond rfl (fun h4 => ?_) (fun h4 => ?_)
     ·
      have hne : a ≠ b := by
       rintro rfl; simp at h4
      refine S2 ?_; refine Oas ?_; refine S12 ?_
      refine r1 4 (H) ?_
      exact ⟨retB (by simp [hne]), rfl⟩
     ·
      have he2 : (a.getD k default).getD q default = (b.getD k default).getD q default := by simpa using h4
      refine S4 ?_; refine Oar ?_; refine Omv ?_; refine S1 ?_
      exact ag (⟨q + 1, rfl, rfl, by omega, gtake_succ hll hql hqp he2⟩)
    ·
     replace h3 := nm h3
     obtain rfl : q = (a.getD k default).length := by omega
     rw [List.take_length, hll, List.take_length] at hqp
     refine S7 ?_; refine Oar ?_; refine Omv ?_; refine S1 ?_
     exact ag (⟨k + 1, rfl, rfl, by omega, gtake_succ hl hkl hp hqp⟩)
  ·
   replace h1 := nm h1
   obtain rfl : k = a.length := by omega
   rw [List.take_length, hl, List.take_length] at hp
   refine S7 ?_; refine Oas ?_; refine S3 ?_
   refine r1 4 (H) ?_
   exact ⟨retB (by simp [hp]), rfl⟩
end Go.Proofs.YtiljpbljebfhnaaGreat
