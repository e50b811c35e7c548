/- Part 10 of the proof: contracts of functions of the program and what they need. No condition beyond those that each theorem names. -/
import Derived.Test.YtiljpbljebfhnaaGreatFP9
set_option linter.unusedVariables false
set_option linter.unusedSimpArgs false
set_option maxRecDepth 10000
namespace Go.Proofs.YtiljpbljebfhnaaGreat
open Go.Eng
open Go.Eng.Fc
/-- the cases of an implication -/
def impCases (a b : Fact) : List (List FLit) := casesP (andF a (notF b)) false
theorem imp_good {W : FW} (hw : worldP W = true) {a b : Fact} (ha : wfB W a = true) (hb : wfB W b = true) (hna : nodesN a ≤ 24) (hnb : nodesN b ≤ 24) : GoodF W (andF a (notF b)) :=
  good_of hw (wf_and ha (wf_not hb)) (by rw [nodes_and, nodes_not]; omega)
theorem p101s {W : FW} {a b : Fact} (hG : GoodF W (andF a (notF b))) (hs : (impCases a b).length ≤ 400) : PCall Tryz.prog 101 [AV.fact a, AV.fact b] (.tup [AV.litss (impCases a b), .b true]) := by
  intro H
  refine ACall.mkM (n := 22) Tryz.func101 rfl (by kernel_rfl) rfl rfl (fun B I w0 => ?_)
  refine CW.seq ?_
  refine CW.region ?_
  refine OL.popC rfl rfl rfl (POp.boxI rfl rfl rfl rfl) ?_
  refine OL.popC rfl rfl rfl (POp.boxI rfl rfl rfl rfl) ?_
  refine OL.alC rfl rfl rfl rfl (fun b4 => ?_)
  refine OL.alC rfl rfl rfl rfl (fun b5 => ?_)
  refine OL.nil ?_
  refine Done.seq ?_
  refine CW.seq ?_
  refine CW.region ?_
  refine OL.alC rfl rfl rfl rfl (fun ob => ?_)
  refine OL.nil ?_
  refine Done.seq ?_
  refine CW.seq ?_
  refine CW.seq ?_
  refine CW.ownNilB 115 1 0 (.head _ _ _) rfl rfl ?_
  refine CW.dp mixed ?_
  refine DP.anyC 0 3 22 rfl (by decide +kernel) rfl rfl (by decide +kernel) ?_
  refine AD.popC rfl rfl rfl ((by first | exact POp.ldA rfl rfl rfl rfl | (apply POp.ldAH rfl rfl rfl; (case hm => repeat (first | exact .head _ | refine .tail _ ?_)); (case hy => rfl); (case hn => rfl)))) ?_
  refine AD.popC rfl rfl rfl ((by first | exact POp.ldA rfl rfl rfl rfl | (apply POp.ldAH rfl rfl rfl; (case hm => repeat (first | exact .head _ | refine .tail _ ?_)); (case hy => rfl); (case hn => rfl)))) ?_
  refine AD.popC rfl rfl rfl (POp.call (.mk' rfl rfl rfl rfl rfl) (p140 b)) ?_
  refine AD.nil ?_
  refine DP.tailC 3 (by decide +kernel) rfl ?_
  refine OL.popC rfl rfl rfl (POp.call (.mk' rfl rfl rfl rfl rfl) (p143 a (notF b))) ?_
  refine OL.popC rfl rfl rfl (POp.call (.mk' rfl rfl rfl rfl rfl) (p81 (andF a (notF b)) false)) ?_
  refine OL.nil ?_
  refine Done.seq ?_
  refine CW.block ?_
  refine CW.weaken (st' := ⟨[(4, .p b4 0), (5, .p b5 0), (6, .p ob 0), (12, .fn (.func 132) [] [.ptr (Fcells (andF a (notF b))), .ptr [.b false]])], [.own 115 1 (.slice none 0 0), .blk ob 127 [.as (AV.litss []) (.slice none 0 0)], .blk b5 4 [.b false], .blk b4 127 [.val (.slice none 0 0)]] ++ H⟩) (by repeat (first | exact trivial | refine ⟨rfl, ?_⟩)) (by repeat (first | exact List.Sublist.refl _ | refine List.Sublist.cons _ ?_)) ?_
  refine CW.rangeFunc (AV.lits) (impCases a b) (fun pre H1 => pre.length ≤ 400 ∧ ∃ v, H1 = [.own 115 1 v, .blk ob 127 [.as (AV.litss pre) v], .blk b5 4 [.b false], .blk b4 127 [.val (.slice none 0 0)]]) (fun code pre H1 => False) ([.own 115 1 (.slice none 0 0), .blk ob 127 [.as (AV.litss []) (.slice none 0 0)], .blk b5 4 [.b false], .blk b4 127 [.val (.slice none 0 0)]]) (H) (fun x => (7, AV.lits x) :: (13, AV.lits x) :: [(4, .p b4 0), (5, .p b5 0), (6, .p ob 0), (12, .fn (.func 132) [] [.ptr (Fcells (andF a (notF b))), .ptr [.b false]])]) rfl rfl rfl rfl (seq132 (andF a (notF b)) hG.ok hG.nodes false) (⟨Nat.zero_le _, _, rfl⟩) ?_ ?_ ?_ ?_
  · intro l0 I1 w1 x Hy
    refine CW.region ?_
    refine OL.popC rfl rfl rfl (POp.assign rfl rfl rfl) ?_
    refine OL.nil ?_
    exact fun a w s => ⟨_, rfl, s⟩
  · intro l0 D0 lp pre x H1 Hy I1 w1 hpre hJ
    obtain ⟨hpl, v, rfl⟩ := hJ
    have hpp := hpre.length_le
    rw [List.length_append, List.length_singleton] at hpp
    refine CW.block ?_
    refine CW.seq ?_
    refine CW.seq ?_
    refine CW.region ?_
    refine OL.popC rfl rfl rfl ((by first | exact POp.ld1 rfl rfl rfl rfl | (apply POp.ld1H rfl rfl rfl; (case hm => repeat (first | exact .head _ | refine .tail _ ?_)); (case hy => rfl)))) ?_
    refine OL.popC rfl rfl rfl ((by first | exact POp.lenM rfl rfl rfl | exact POp.lenA rfl rfl rfl | exact POp.lenV rfl rfl rfl | exact POp.len' rfl rfl rfl)) ?_
    refine OL.popC rfl rfl rfl (POp.cmp rfl rfl rfl rfl rfl rfl) ?_
    refine OL.nil ?_
    refine Done.seq ?_
    refine CW.cond rfl (fun h0 => ?_) (fun h0 => ?_)
    ·
      exfalso
      simp only [beq_iff_eq, List.length_map] at h0
      omega
    ·
      try simp only [decide_eq_true_eq, decide_eq_false_iff_not, beq_iff_eq, bne_iff_ne, ne_eq, Int.not_lt, Int.not_le, beq_eq_false_iff_ne, gt_iff_lt, ge_iff_le, Bool.not_eq_true, Bool.not_eq_false, Bool.not_eq_false', bne_eq_false_iff_eq] at h0
      rw [List.length_map] at h0
      refine CW.skip ?_
      refine Done.seq ?_
      refine CW.region ?_
      refine OL.popC rfl rfl rfl ((by first | exact POp.ld1 rfl rfl rfl rfl | (apply POp.ld1H rfl rfl rfl; (case hm => repeat (first | exact .head _ | refine .tail _ ?_)); (case hy => rfl)))) ?_
      refine OL.popC rfl rfl rfl (POp.move rfl rfl rfl) ?_
      refine OL.popC rfl rfl rfl (POp.row rfl rfl (by first | rfl | simp_all [strip]) rfl rfl rfl rfl rfl rfl) ?_
      refine OL.appendC rfl rfl rfl rfl rfl rfl rfl rfl (AVle.refl _) (rfl) (fun v => by repeat (first | exact Upd.head _ _ _ | apply Upd.tail)) (by show (List.length (List.map _ _) + 1) * 24 ≤ _; rw [List.length_map]; omega) (by show List.length (List.map _ _) + 1 ≤ _; rw [List.length_map]; omega) (fun v20 => ?_)
      apply OL.stoC rfl rfl rfl rfl rfl rfl rfl rfl rfl rfl
      (case hu => repeat (first | exact Upd.head _ _ _ | apply Upd.tail)); (case hfit => rfl); (case hds => exact congrArg (fun z => [AV.as (.sl 1 z) v20]) (litss_snoc _ _).symm)
      refine OL.nil ?_
      refine Done.blkNormal ?_
      exact Done.roundN (by repeat (first | exact List.Sublist.refl _ | refine List.Sublist.cons _ ?_)) (⟨by rw [List.length_append, List.length_singleton]; omega, v20, rfl⟩)
  · intro D0 H1 hJ
    obtain ⟨hpl, v, rfl⟩ := hJ
    refine Done.blkNormal ?_
    refine Done.seq ?_
    refine CW.seq ?_
    refine CW.region ?_
    refine OL.popC rfl rfl rfl ((by first | exact POp.ld1 rfl rfl rfl rfl | (apply POp.ld1H rfl rfl rfl; (case hm => repeat (first | exact .head _ | refine .tail _ ?_)); (case hy => rfl)))) ?_
    apply OL.stoC rfl rfl rfl rfl rfl rfl rfl rfl rfl rfl
    (case hu => repeat (first | exact Upd.head _ _ _ | apply Upd.tail)); (case hfit => rfl); (case hds => rfl)
    apply OL.stoC rfl rfl rfl rfl rfl rfl rfl rfl rfl rfl
    (case hu => repeat (first | exact Upd.head _ _ _ | apply Upd.tail)); (case hfit => rfl); (case hds => rfl)
    refine OL.nil ?_
    refine Done.seq ?_
    refine CW.ret ?_
    refine Done.retM1 (rs := [.cell 4 127, .cell 5 4]) (H' := H) rfl (by repeat (first | exact Del.head _ _ | apply Del.tail)) ((by first | exact .cell1 inferInstance rfl (by repeat (first | exact .head _ | refine .tail _ ?_)) rfl ((by first | exact .cell1 inferInstance rfl (by repeat (first | exact .head _ | refine .tail _ ?_)) rfl (.nil) | exact .ptr1 inferInstance rfl rfl (.nil))) | exact .ptr1 inferInstance rfl rfl ((by first | exact .cell1 inferInstance rfl (by repeat (first | exact .head _ | refine .tail _ ?_)) rfl (.nil) | exact .ptr1 inferInstance rfl rfl (.nil))))) (.cons (AVle.asL _ _) (.cons (.refl _) .nil)) (by repeat (first | exact List.Sublist.refl _ | refine List.Sublist.cons _ ?_)) ?_
    exact ⟨rfl, rfl⟩
  · intro D0 code0 pre H1 hpre hJx
    exact hJx.elim
end Go.Proofs.YtiljpbljebfhnaaGreat

set_option linter.unusedVariables false
set_option linter.unusedSimpArgs false
set_option maxRecDepth 10000
namespace Go.Proofs.YtiljpbljebfhnaaGreat
open Go.Eng
open Go.Eng.Fc
theorem intEls_map (l : List Int) : (intEls l).flatten = l.map AV.i := by
  induction l with
  | nil => rfl
  | cons x r ih => simp only [intEls, List.map_cons, List.flatten_cons] at ih ⊢; rw [ih]; rfl
theorem Done.freezeS {c : Ctx} {st : St} {Q : Exit → Act → World → Prop} {e : Exit} {d b n cap k : Nat} {t : TypeId} {els : List (List AV)} {more : List AV} {H' : List Ent} (hd : envGet st.env d = some (.val (.slice (some ⟨b, 0, none⟩) n cap))) (hD : Del st.H (.blk b t (els.flatten ++ more)) H')
    (hn : els.length = n) (hk : ∀ e ∈ els, e.length = k) (hc : n ≤ cap) (hm : cap ≤ maxLen) (h : Done c ⟨(d, .sl k els) :: st.env, H'⟩ e Q) : Done c st e Q := fun a w s => h a w (s.freezeS hd hD hn hk hc hm)
def findI (p : Int → Bool) (l : List Int) : Int := match l.findIdx? p with | some i => i | none => -1
theorem findI_none {p : Int → Bool} {l : List Int} (h : ∀ x ∈ l, p x = false) : findI p l = -1 := by
  have : l.findIdx? p = none := List.findIdx?_eq_none_iff.2 h
  rw [findI, this]
theorem findI_some {p : Int → Bool} {pre : List Int} {x : Int} {rest : List Int} (h : ∀ y ∈ pre, p y = false) (hx : p x = true) : findI p (pre ++ x :: rest) = pre.length := by
  have h0 : pre.findIdx? p = none := List.findIdx?_eq_none_iff.2 h
  have : (pre ++ x :: rest).findIdx? p = some pre.length := by
    rw [List.findIdx?_append, h0]; simp [List.findIdx?_cons, hx]
  rw [findI, this]
theorem p150x {f : FuncId} {fs cs : List AV} {p : Int → Bool} (hg : PredOk Tryz.prog (.fn (.func f) fs cs) AV.i p) (l : List Int) : PCall Tryz.prog 150 [AV.ints l, .fn (.func f) fs cs] (.i (findI p l)) := by
  intro H
  have h0 := fun B => b150 (B := B) l ((hg.on l).find) [] H (by simp) ⟨rfl, by simp⟩
  refine ⟨(h0 0).1, fun B I w vs hw hh hv => ((h0 B).2 I w vs hw hh hv).mono fun e w' hr => hr.mono ?_ (fun _ h => h)⟩
  rintro y H' ⟨H1, rfl, ⟨rfl, rfl, hx⟩ | ⟨pre, x, rest, rfl, rfl, rfl, q, z, hq, hqa, hz⟩⟩
  · exact ⟨by rw [findI_none hx], rfl⟩
  · obtain ⟨e1, e2⟩ := List.append_inj' hq rfl
    simp at e2
    subst e1; subst e2
    exact ⟨by rw [findI_some hqa hz], rfl⟩
theorem found_split {p : Int → Bool} {l : List Int} (h : ¬ findI p l = -1) : ∃ pre x rest, l = pre ++ x :: rest ∧ (∀ y ∈ pre, p y = false) ∧ p x = true ∧ findI p l = pre.length := by
  induction l with
  | nil => exact absurd rfl h
  | cons y r ih =>
    cases hy : p y with
    | true => exact ⟨[], y, r, rfl, by simp, hy, findI_some (pre := []) (by simp) hy⟩
    | false =>
      have h' : ¬ findI p r = -1 := fun e => h (by
        unfold findI at e ⊢
        cases hf : r.findIdx? p with
        | none => simp [List.findIdx?_cons, hy, hf]
        | some i => rw [hf] at e; exact absurd e (by simp only; omega))
      obtain ⟨pre, x, rest, e1, e2, e3, e4⟩ := ih h'
      refine ⟨y :: pre, x, rest, by rw [e1]; rfl, ?_, e3, ?_⟩
      · intro z hz; rcases List.mem_cons.1 hz with rfl | hz; exact hy; exact e2 z hz
      · rw [e1]; exact findI_some (pre := y :: pre) (by intro z hz; rcases List.mem_cons.1 hz with rfl | hz; exact hy; exact e2 z hz) e3
theorem filter_none {p : Int → Bool} {l : List Int} (h : findI p l = -1) : l.filter (fun x => !p x) = l := by
  rw [List.filter_eq_self]
  intro x hx
  unfold findI at h
  cases hf : l.findIdx? p with
  | none => rw [List.findIdx?_eq_none_iff.1 hf x hx]; rfl
  | some i => rw [hf] at h; exact absurd h (by simp only; omega)
theorem a32 (B : Nat) (l : List Int) (hne : l ≠ []) (hl : l.length ≤ 1000000) (H : List Ent) : BCall B Tryz.prog 32 [AV.ints l] H (fun y H' => ∃ b cap more, y = .val (.slice (some ⟨b, 0, none⟩) (intEls l).length cap) ∧ (intEls l).length ≤ cap ∧ cap ≤ maxLen ∧ H' = .blk b 3 ((intEls l).flatten ++ more) :: H) (fun _ => False) := by
  refine BCall.of (n := 8) Tryz.func32 rfl (by kernel_rfl) rfl rfl (fun I w0 => ?_)
  refine CW.seq ?_
  refine CW.region ?_
  refine OL.popC rfl rfl rfl (POp.assign rfl rfl rfl) ?_
  refine OL.nil ?_
  refine Done.seq ?_
  refine CW.seq ?_
  refine CW.seq ?_
  refine CW.region ?_
  refine OL.popC rfl rfl rfl (POp.move rfl rfl rfl) ?_
  refine OL.isNilC rfl rfl rfl rfl rfl rfl rfl (AVle.refl _) rfl rfl (fun n4 hn4 => ?_)
  refine OL.nil ?_
  refine Done.seq ?_
  refine CW.cond rfl (fun h0 => ?_) (fun h0 => ?_)
  ·
    exact absurd (hn4 h0) (by simpa using hne)
  ·
    skip
    refine CW.skip ?_
    refine Done.seq ?_
    refine CW.seq ?_
    refine CW.region ?_
    refine OL.popC rfl rfl rfl (POp.row0 rfl) ?_
    refine OL.popC rfl rfl rfl (POp.move rfl rfl rfl) ?_
    refine OL.appendNew rfl rfl rfl rfl rfl rfl (AVle.refl _) rfl rfl (AVle.refl _) (by simpa using hne) (one_map (fun _ => rfl) l) (by simp; omega) (by simp; omega) (fun b cap more hc1 hc2 => ?_)
    refine OL.popC rfl rfl rfl (POp.assign rfl rfl rfl) ?_
    refine OL.nil ?_
    refine Done.seq ?_
    refine CW.ret ?_
    refine Done.retR (rs := [.tmp 2]) rfl (.tmp rfl (.nil)) (AVleL.refl _) (by exact List.Sublist.refl _) ?_
    exact ⟨b, cap, more, rfl, hc1, hc2, rfl⟩
theorem del_take {p : Int → Bool} {l : List Int} {j : Nat} (h : j < l.length) : (l.take (j + 1)).filter (fun x => !p x) = (l.take j).filter (fun x => !p x) ++ (if p (l.getD j default) then [] else [l.getD j default]) := by
  rw [← take_getD h, List.filter_append]
  generalize l.getD j default = v
  cases hp : p v <;> simp [hp]
theorem del_cell {l kept junk : List Int} {j : Nat} {more : List AV} (h : kept.length + junk.length = j) (hj : j < l.length) : ((kept ++ junk ++ l.drop j).map AV.i ++ more)[0 + ((j : Int)).toNat * 1]? = some (AV.i (l.getD j default)) := by
  rw [List.drop_eq_getElem_cons hj, getD_lt hj]
  have e : 0 + ((j : Int)).toNat * 1 = (kept ++ junk).length := by simp; omega
  rw [e, List.map_append, List.append_assoc, List.getElem?_append_right (by simp), List.map_cons]
  simp
theorem del_store {l kept junk : List Int} {i j : Nat} {more : List AV} (hi : i = kept.length) (h : kept.length + junk.length = j) (hj : j < l.length) (hn : junk ≠ []) (v : Int) (hv : v = l.getD j default) :
    ((kept ++ junk ++ l.drop j).map AV.i ++ more).take (0 + ((i : Int)).toNat * 1) ++ [AV.i v] ++ ((kept ++ junk ++ l.drop j).map AV.i ++ more).drop (0 + ((i : Int)).toNat * 1 + 1) = ((kept ++ [v]) ++ (junk.tail ++ [v]) ++ l.drop (j + 1)).map AV.i ++ more := by
  subst hi
  obtain ⟨x, r, rfl⟩ := List.exists_cons_of_ne_nil hn
  have e : 0 + ((kept.length : Int)).toNat * 1 = (kept.map AV.i).length := by simp
  rw [e]
  have e2 : (kept ++ x :: r ++ l.drop j).map AV.i ++ more = kept.map AV.i ++ (AV.i x :: (r.map AV.i ++ ((l.drop j).map AV.i ++ more))) := by simp
  have e3 : List.drop ((kept.map AV.i).length + 1) (kept.map AV.i ++ (AV.i x :: (r.map AV.i ++ ((l.drop j).map AV.i ++ more)))) = r.map AV.i ++ ((l.drop j).map AV.i ++ more) := by
    rw [← List.drop_drop, List.drop_left]; rfl
  rw [e2, List.take_left, e3, List.drop_eq_getElem_cons hj, ← getD_lt hj, ← hv]
  simp
theorem del_keep {l kept junk : List Int} {j : Nat} {more : List AV} (hj : j < l.length) : (kept ++ junk ++ l.drop j).map AV.i ++ more = (kept ++ (junk ++ [l.getD j default]) ++ l.drop (j + 1)).map AV.i ++ more := by
  rw [List.drop_eq_getElem_cons hj, getD_lt hj]; simp
theorem del_end {l kept junk : List Int} {i j n : Nat} {more : List AV} (hi : i = kept.length) : ∃ more', ((kept ++ junk ++ l.drop j).map AV.i ++ more).take (0 + i * 1) ++ List.replicate n .any ++ ((kept ++ junk ++ l.drop j).map AV.i ++ more).drop (0 + i * 1 + n) = (intEls kept).flatten ++ more' := by
  subst hi
  have e : 0 + kept.length * 1 = (kept.map AV.i).length := by simp
  have e2 : (kept ++ junk ++ l.drop j).map AV.i ++ more = kept.map AV.i ++ (junk.map AV.i ++ ((l.drop j).map AV.i ++ more)) := by simp
  rw [e, e2, List.take_left, intEls_map, List.append_assoc]
  exact ⟨_, rfl⟩
theorem b102 {f : FuncId} {fs cs : List AV} {p : Int → Bool} (hg : PredOk Tryz.prog (.fn (.func f) fs cs) AV.i p) (B : Nat) (l : List Int) (b cap : Nat) (more : List AV) (hl : l.length ≤ 1000000) (hc : (intEls l).length ≤ cap) (hcm : cap ≤ maxLen) (Hx : List Ent) :
    BCall B Tryz.prog 102 [.val (.slice (some ⟨b, 0, none⟩) (intEls l).length cap), .fn (.func f) fs cs] (.blk b 3 ((intEls l).flatten ++ more) :: Hx) (fun y H' => y = AV.ints (l.filter fun x => !p x) ∧ H' = Hx) (fun _ => False) := by
  refine BCall.of (n := 42) Tryz.func102 rfl (by kernel_rfl) rfl rfl (fun I w0 => ?_)
  refine CW.seq ?_
  refine CW.region ?_
  refine OL.popC rfl rfl rfl (POp.assign rfl rfl rfl) ?_
  refine OL.nil ?_
  refine Done.seq ?_
  refine CW.seq ?_
  refine CW.region ?_
  refine OL.popC rfl rfl rfl (POp.move rfl rfl rfl) ?_
  refine OL.popC rfl rfl rfl (POp.move rfl rfl rfl) ?_
  refine OL.popC rfl rfl rfl (POp.callB (.mk' rfl rfl rfl rfl rfl) (Borrow.blk (t := 3) (pre := []) (post := [.fn (.func f) fs cs]) (.head _) (by simp [intEls]) hc hcm) (p150x hg l)) ?_
  refine OL.popC rfl rfl rfl (POp.assign rfl rfl rfl) ?_
  refine OL.nil ?_
  refine Done.seq ?_
  refine CW.seq ?_
  refine CW.seq ?_
  refine CW.region ?_
  refine OL.popC rfl rfl rfl (POp.move rfl rfl rfl) ?_
  refine OL.popC rfl rfl rfl (POp.cmp rfl rfl rfl rfl rfl rfl) ?_
  refine OL.nil ?_
  refine Done.seq ?_
  refine CW.cond rfl (fun h0 => ?_) (fun h0 => ?_)
  ·
    try simp only [decide_eq_true_eq, decide_eq_false_iff_not, beq_iff_eq, bne_iff_ne, ne_eq, Int.not_lt, Int.not_le, beq_eq_false_iff_ne, gt_iff_lt, ge_iff_le, Bool.not_eq_true, Bool.not_eq_false, Bool.not_eq_false', bne_eq_false_iff_eq] at h0
    have hfn := filter_none h0
    refine CW.seq ?_
    refine CW.region ?_
    refine OL.popC rfl rfl rfl (POp.move rfl rfl rfl) ?_
    refine OL.popC rfl rfl rfl (POp.assign rfl rfl rfl) ?_
    refine OL.nil ?_
    refine Done.seq ?_
    refine CW.ret ?_
    refine Done.thenRet ?_
    refine Done.freezeS (d := 4) rfl (.head _ _) rfl (k := 1) (by simp [intEls]) hc hcm ?_
    refine Done.retR (rs := [.tmp 4]) (H' := Hx) rfl (.tmp rfl (.nil)) (AVleL.refl _) (by repeat (first | exact List.Sublist.refl _ | refine List.Sublist.cons _ ?_)) ?_
    exact ⟨by rw [hfn]; rfl, rfl⟩
  ·
    try simp only [decide_eq_true_eq, decide_eq_false_iff_not, beq_iff_eq, bne_iff_ne, ne_eq, Int.not_lt, Int.not_le, beq_eq_false_iff_ne, gt_iff_lt, ge_iff_le, Bool.not_eq_true, Bool.not_eq_false, Bool.not_eq_false', bne_eq_false_iff_eq] at h0
    obtain ⟨pre, x, rest, hlp, hpre, hpx, hfi⟩ := found_split h0
    have hlen : (intEls l).length = l.length := by simp [intEls]
    have hpl : pre.length + 1 ≤ l.length := by rw [hlp]; simp
    rw [hfi]
    refine CW.skip ?_
    refine Done.seq ?_
    refine CW.seq ?_
    refine CW.seq ?_
    refine CW.eqH (H' := .blk b 3 ((pre ++ [x] ++ l.drop (pre.length + 1)).map AV.i ++ more) :: Hx) (by rw [intEls_map]; congr 4; rw [hlp]; simp) ?_
    refine CW.region ?_
    refine OL.popC rfl rfl rfl (POp.move rfl rfl rfl) ?_
    refine OL.popC rfl rfl rfl (POp.arith rfl rfl rfl rfl rfl rfl (wrap64 (by omega))) ?_
    refine OL.popC rfl rfl rfl (POp.assign rfl rfl rfl) ?_
    refine OL.nil ?_
    refine Done.seq ?_
    refine CW.block ?_
    refine CW.loopJ (fun m st => ∃ (j i : Nat) (kept junk : List Int), st = ⟨[(6, .i j), (5, .i i), (0, .val (.slice (some ⟨b, 0, none⟩) (intEls l).length cap)), (1, .fn (.func f) fs cs)], .blk b 3 ((kept ++ junk ++ l.drop j).map AV.i ++ more) :: Hx⟩ ∧ m = l.length - j ∧ j ≤ l.length ∧ kept = (l.take j).filter (fun x => !p x) ∧ kept.length + junk.length = j ∧ junk ≠ [] ∧ i = kept.length) ⟨_, _, ⟨pre.length + 1, pre.length, pre, [x], rfl, rfl, hpl, by rw [hlp, List.take_succ_eq_append_getElem (by simp)]; simp [List.filter_append, hpx]; exact (List.filter_eq_self.2 (fun y hy => by rw [hpre y hy]; rfl)).symm, rfl, by simp, rfl⟩, (by repeat (first | exact trivial | refine ⟨rfl, ?_⟩)), (by repeat (first | exact List.Sublist.refl _ | refine List.Sublist.cons _ ?_))⟩ ?_
    rintro m _ ⟨j, i, kept, junk, rfl, rfl, hj, hk, hkj, hjn, hi⟩
    refine CW.seq ?_
    refine CW.seq ?_
    refine CW.region ?_
    refine OL.popC rfl rfl rfl (POp.move rfl rfl rfl) ?_
    refine OL.popC rfl rfl rfl (POp.move rfl rfl rfl) ?_
    refine OL.popC rfl rfl rfl ((by first | exact POp.lenM rfl rfl rfl | exact POp.lenA rfl rfl rfl | exact POp.lenV rfl rfl rfl | exact POp.len' rfl rfl rfl)) ?_
    refine OL.popC rfl rfl rfl (POp.cmp rfl rfl rfl rfl rfl rfl) ?_
    refine OL.nil ?_
    refine Done.seq ?_
    refine CW.cond rfl (fun h1 => ?_) (fun h1 => ?_)
    ·
      try simp only [decide_eq_true_eq, decide_eq_false_iff_not, beq_iff_eq, bne_iff_ne, ne_eq, Int.not_lt, Int.not_le, beq_eq_false_iff_ne, gt_iff_lt, ge_iff_le, Bool.not_eq_true, Bool.not_eq_false, Bool.not_eq_false', bne_eq_false_iff_eq] at h1
      rw [hlen] at h1
      have hjl : j < l.length := by omega
      have hdt := del_take (p := p) hjl
      have hjk : junk.length ≠ 0 := fun e => hjn (List.eq_nil_of_length_eq_zero e)
      refine CW.skip ?_
      refine Done.seq ?_
      refine CW.seq ?_
      refine CW.block ?_
      refine CW.seq ?_
      refine CW.region ?_
      refine OL.popC rfl rfl rfl (POp.move rfl rfl rfl) ?_
      refine OL.popC rfl rfl rfl (POp.move rfl rfl rfl) ?_
      refine OL.popC rfl rfl rfl (POp.ixC rfl rfl rfl rfl rfl (by omega)) ?_
      refine OL.popC rfl rfl rfl (POp.ld1H rfl rfl rfl (.head _) (del_cell hkj hjl)) ?_
      refine OL.popC rfl rfl rfl (POp.assign rfl rfl rfl) ?_
      refine OL.nil ?_
      refine Done.seq ?_
      refine CW.seq ?_
      refine CW.region ?_
      refine OL.popC rfl rfl rfl (POp.move rfl rfl rfl) ?_
      refine OL.popC rfl rfl rfl (POp.move rfl rfl rfl) ?_
      refine OL.vcallC rfl rfl rfl rfl rfl rfl rfl rfl (AVleL.refl _) (hg _ (l.getD j default) _) ?_
      rintro y H1 ⟨rfl, rfl⟩
      refine OL.popC rfl rfl rfl (POp.not rfl rfl rfl) ?_
      refine OL.nil ?_
      refine Done.seq ?_
      refine CW.cond rfl (fun h2 => ?_) (fun h2 => ?_)
      ·
        have hpv : p (l.getD j default) = false := by simpa using h2
        refine CW.seq ?_
        refine CW.region ?_
        refine OL.popC rfl rfl rfl (POp.move rfl rfl rfl) ?_
        refine OL.popC rfl rfl rfl (POp.move rfl rfl rfl) ?_
        refine OL.popC rfl rfl rfl (POp.move rfl rfl rfl) ?_
        refine OL.popC rfl rfl rfl (POp.ixC rfl rfl rfl rfl rfl (by omega)) ?_
        apply OL.stoC rfl rfl rfl rfl rfl rfl rfl rfl rfl rfl
        (case hu => repeat (first | exact Upd.head _ _ _ | apply Upd.tail)); (case hfit => exact Nat.ble_eq_true_of_le (by simp [bcells]; omega)); (case hds => exact del_store hi hkj hjl hjn _ rfl)
        refine OL.nil ?_
        refine Done.seq ?_
        refine CW.region ?_
        refine OL.popC rfl rfl rfl (POp.move rfl rfl rfl) ?_
        refine OL.popC rfl rfl rfl (POp.arith rfl rfl rfl rfl rfl rfl (wrap64 (by omega))) ?_
        refine OL.popC rfl rfl rfl (POp.assign rfl rfl rfl) ?_
        refine OL.nil ?_
        refine Done.blkNormal ?_
        refine Done.seq ?_
        refine CW.region ?_
        refine OL.popC rfl rfl rfl (POp.move rfl rfl rfl) ?_
        refine OL.popC rfl rfl rfl (POp.arith rfl rfl rfl rfl rfl rfl (wrap64 (by omega))) ?_
        refine OL.popC rfl rfl rfl (POp.assign rfl rfl rfl) ?_
        refine OL.nil ?_
        refine Done.againJ (⟨j + 1, i + 1, kept ++ [l.getD j default], junk.tail ++ [l.getD j default], rfl, rfl, by omega, by rw [hdt, hpv, ← hk]; rfl, by simp; omega, by simp, by simp; omega⟩) ?_ ?_ ?_
        · omega
        · repeat (first | exact trivial | refine ⟨rfl, ?_⟩)
        · repeat (first | exact List.Sublist.refl _ | refine List.Sublist.cons _ ?_)
      ·
        have hpv : p (l.getD j default) = true := by simpa using h2
        refine CW.eqH (congrArg (fun z => Ent.blk b 3 z :: Hx) (del_keep hjl)) ?_
        refine CW.skip ?_
        refine Done.blkNormal ?_
        refine Done.seq ?_
        refine CW.region ?_
        refine OL.popC rfl rfl rfl (POp.move rfl rfl rfl) ?_
        refine OL.popC rfl rfl rfl (POp.arith rfl rfl rfl rfl rfl rfl (wrap64 (by omega))) ?_
        refine OL.popC rfl rfl rfl (POp.assign rfl rfl rfl) ?_
        refine OL.nil ?_
        refine Done.againJ (⟨j + 1, i, kept, junk ++ [l.getD j default], rfl, rfl, by omega, by rw [hdt, hpv, ← hk]; simp, by simp; omega, by simp, hi⟩) ?_ ?_ ?_
        · omega
        · repeat (first | exact trivial | refine ⟨rfl, ?_⟩)
        · repeat (first | exact List.Sublist.refl _ | refine List.Sublist.cons _ ?_)
    ·
      try simp only [decide_eq_true_eq, decide_eq_false_iff_not, beq_iff_eq, bne_iff_ne, ne_eq, Int.not_lt, Int.not_le, beq_eq_false_iff_ne, gt_iff_lt, ge_iff_le, Bool.not_eq_true, Bool.not_eq_false, Bool.not_eq_false', bne_eq_false_iff_eq] at h1
      rw [hlen] at h1
      obtain rfl : j = l.length := by omega
      rw [List.take_length] at hk
      have hjk : junk.length ≠ 0 := fun e => hjn (List.eq_nil_of_length_eq_zero e)
      refine CW.exit ?_
      refine Done.thenExit ?_
      refine Done.thenExit ?_
      refine Done.blkExit ?_
      refine Done.seq ?_
      refine CW.seq ?_
      refine CW.region ?_
      refine OL.popC rfl rfl rfl (POp.move rfl rfl rfl) ?_
      refine OL.popC rfl rfl rfl (POp.move rfl rfl rfl) ?_
      refine OL.popC rfl rfl rfl (POp.slC (l := i) (m := (intEls l).length) (kh := .i64) (gh := true) rfl rfl rfl rfl rfl rfl rfl (by omega) (by omega) (by omega)) ?_
      refine OL.clearC rfl (.inl rfl) rfl rfl rfl (by omega) (by kernel_rfl) (by simp; omega) (.head _ _ _) ?_
      refine OL.nil ?_
      refine Done.seq ?_
      refine CW.seq ?_
      refine CW.region ?_
      refine OL.popC rfl rfl rfl (POp.move rfl rfl rfl) ?_
      refine OL.popC rfl rfl rfl (POp.move rfl rfl rfl) ?_
      refine OL.popC rfl rfl rfl (POp.slC (l := 0) (m := i) (kl := .i64) (gl := true) rfl rfl rfl rfl rfl rfl rfl (by omega) (by omega) (by omega)) ?_
      refine OL.popC rfl rfl rfl (POp.assign rfl rfl rfl) ?_
      refine OL.nil ?_
      refine Done.seq ?_
      refine CW.ret ?_
      obtain ⟨more2, hm2⟩ := del_end (l := l) (kept := kept) (junk := junk) (j := l.length) (more := more) (n := ((intEls l).length - i) * 1) hi
      refine Done.perm (.of_eq (congrArg (fun z => Ent.blk b 3 z :: Hx) hm2)) ?_
      refine Done.freezeS (d := 4) rfl (.head _ _) (show (intEls kept).length = i - 0 by simp [intEls]; omega) (k := 1) (by simp [intEls]) (by omega) (by omega) ?_
      refine Done.retR (rs := [.tmp 4]) (H' := Hx) rfl (.tmp rfl (.nil)) (AVleL.refl _) (by repeat (first | exact List.Sublist.refl _ | refine List.Sublist.cons _ ?_)) ?_
      exact ⟨by rw [← hk]; rfl, rfl⟩
end Go.Proofs.YtiljpbljebfhnaaGreat

set_option linter.unusedVariables false
set_option linter.unusedSimpArgs false
set_option maxRecDepth 10000
namespace Go.Proofs.YtiljpbljebfhnaaGreat
open Go.Eng
open Go.Eng.Fc
theorem p103 (m n : Int) : PCall Tryz.prog 103 [.i m, .ptr [.i n]] (.b (m == n)) := by
  intro H
  refine ACall.mk' (n := 7) Tryz.func103 rfl (by kernel_rfl) rfl rfl (fun B I w0 => ?_)
  refine CW.seq ?_
  refine CW.region ?_
  refine OL.popC rfl rfl rfl (POp.assign rfl rfl rfl) ?_
  refine OL.nil ?_
  refine Done.seq ?_
  refine CW.seq ?_
  refine CW.region ?_
  refine OL.popC rfl rfl rfl (POp.move rfl rfl rfl) ?_
  refine OL.popC rfl rfl rfl ((by first | exact POp.ld1 rfl rfl rfl rfl | (apply POp.ld1H rfl rfl rfl; (case hm => repeat (first | exact .head _ | refine .tail _ ?_)); (case hy => rfl)))) ?_
  refine OL.popC rfl rfl rfl (POp.cmp rfl rfl rfl rfl rfl rfl) ?_
  refine OL.popC rfl rfl rfl (POp.assign rfl rfl rfl) ?_
  refine OL.nil ?_
  refine Done.seq ?_
  refine CW.ret ?_
  refine Done.retR (rs := [.tmp 3]) (H' := H) rfl (.tmp rfl (.nil)) (AVleL.refl _) (by repeat (first | exact List.Sublist.refl _ | refine List.Sublist.cons _ ?_)) ?_
  exact ⟨by first | rfl | exact retI (by simp_all) | exact retB (by simp_all) | simp_all, rfl⟩
def pickL (l : List FLit) (ns : List Int) : List FLit := ns.map fun n => l.getD n.toNat default
theorem pick_snoc {l : List FLit} {ns : List Int} {k : Nat} (h : k < ns.length) : pickL l (ns.take (k + 1)) = pickL l (ns.take k) ++ [l.getD (ns.getD k default).toNat default] := by
  rw [← take_getD h, pickL, List.map_append]; rfl
theorem lits_snoc (l : List FLit) (x : FLit) : (l ++ [x]).map Lcells = l.map Lcells ++ [Lcells x] := by simp
theorem ints_snoc (l : List Int) (x : Int) : (l ++ [x]).map (fun n => [AV.i n]) = l.map (fun n => [AV.i n]) ++ [[AV.i x]] := by simp
theorem intss_snoc (l : List (List Int)) (x : List Int) : (l ++ [x]).map (fun n => [AV.ints n]) = l.map (fun n => [AV.ints n]) ++ [[AV.ints x]] := by simp
theorem p104 (l : List FLit) (ns : List Int) (hr : ∀ n ∈ ns, 0 ≤ n ∧ n < l.length) (hn : ns.length ≤ 100000) : PCall Tryz.prog 104 [AV.lits l, AV.ints ns] (AV.lits (pickL l ns)) := by
  intro H
  refine ACall.mk' (n := 23) Tryz.func104 rfl (by kernel_rfl) rfl rfl (fun B I w0 => ?_)
  refine CW.seq ?_
  refine CW.region ?_
  refine OL.popC rfl rfl rfl (POp.assign rfl rfl rfl) ?_
  refine OL.nil ?_
  refine Done.seq ?_
  refine CW.seq ?_
  refine CW.region ?_
  refine OL.popC rfl rfl rfl (POp.assign rfl rfl rfl) ?_
  refine OL.nil ?_
  refine Done.seq ?_
  refine CW.seq ?_
  refine CW.seq ?_
  refine CW.ownNil 5 118 7 rfl ?_
  refine CW.region ?_
  refine OL.popC rfl rfl rfl (POp.move rfl rfl rfl) ?_
  refine OL.popC rfl rfl rfl ((by first | exact POp.lenM rfl rfl rfl | exact POp.lenA rfl rfl rfl | exact POp.lenV rfl rfl rfl | exact POp.len' rfl rfl rfl)) ?_
  refine OL.popC rfl rfl rfl (POp.move rfl rfl rfl) ?_
  refine OL.nil ?_
  refine Done.seq ?_
  refine CW.block ?_
  refine CW.loopJ (fun m st => ∃ (k : Nat) (v : Value), st = ⟨[(10, .i k), (9, .i ns.length), (8, AV.ints ns), (5, .as (AV.lits (pickL l (ns.take k))) v), (0, AV.lits l)], .own 118 7 v :: H⟩ ∧ m = ns.length - k ∧ k ≤ ns.length) ⟨_, _, ⟨0, _, rfl, rfl, Nat.zero_le _⟩, (by repeat (first | exact trivial | refine ⟨rfl, ?_⟩)), (by repeat (first | exact List.Sublist.refl _ | refine List.Sublist.cons _ ?_))⟩ ?_
  rintro m _ ⟨k, v, rfl, rfl, hk⟩
  refine CW.boundM (t := 8) rfl (fun hbs => ?_)
  refine CW.seq ?_
  refine CW.region ?_
  refine OL.popC rfl rfl rfl (POp.cmp rfl rfl rfl rfl rfl rfl) ?_
  refine OL.nil ?_
  refine Done.seq ?_
  refine CW.seq ?_
  refine CW.cond rfl (fun h0 => ?_) (fun h0 => ?_)
  ·
    try simp only [decide_eq_true_eq, decide_eq_false_iff_not, beq_iff_eq, bne_iff_ne, ne_eq, Int.not_lt, Int.not_le, beq_eq_false_iff_ne, gt_iff_lt, ge_iff_le, Bool.not_eq_true, Bool.not_eq_false, Bool.not_eq_false', bne_eq_false_iff_eq] at h0
    have hkl : k < ns.length := by omega
    have hnr := hr (ns.getD k default) (getD_mem hkl)
    refine CW.skip ?_
    refine Done.seq ?_
    refine CW.seq ?_
    refine CW.block ?_
    refine CW.seq ?_
    refine CW.region ?_
    refine OL.popC rfl rfl rfl ((by first | exact POp.ixM rfl rfl rfl rfl rfl (by omega) | exact POp.ixI rfl rfl rfl rfl rfl (by omega))) ?_
    refine OL.popC rfl rfl rfl ((by first | exact POp.ld1 rfl rfl rfl rfl | (apply POp.ld1H rfl rfl rfl; (case hm => repeat (first | exact .head _ | refine .tail _ ?_)); (case hy => rfl)))) ?_
    refine OL.popC rfl rfl rfl (POp.assign rfl rfl rfl) ?_
    refine OL.nil ?_
    refine Done.seq ?_
    refine CW.region ?_
    refine OL.popC rfl rfl rfl (POp.move rfl rfl rfl) ?_
    refine OL.popC rfl rfl rfl (POp.move rfl rfl rfl) ?_
    refine OL.popC rfl rfl rfl (POp.move rfl rfl rfl) ?_
    refine OL.popC rfl rfl rfl ((by first | exact POp.ixM rfl rfl rfl rfl rfl (by omega) | exact POp.ixI rfl rfl rfl rfl rfl (by omega))) ?_
    refine OL.popC rfl rfl rfl ((by first | exact POp.ldA rfl rfl rfl rfl | (apply POp.ldAH rfl rfl rfl; (case hm => repeat (first | exact .head _ | refine .tail _ ?_)); (case hy => rfl); (case hn => rfl)))) ?_
    refine OL.popC rfl rfl rfl (POp.row rfl rfl (by first | rfl | simp_all [strip]) rfl rfl rfl rfl rfl rfl) ?_
    refine OL.appendC rfl rfl rfl rfl rfl rfl rfl rfl (AVle.refl _) (rfl) (fun v => by repeat (first | exact Upd.head _ _ _ | apply Upd.tail)) (by show (List.length (List.map _ _) + 1) * 88 ≤ _; rw [List.length_map, pickL, List.length_map, List.length_take]; omega) (by show List.length (List.map _ _) + 1 ≤ _; rw [List.length_map, pickL, List.length_map, List.length_take]; omega) (fun v20 => ?_)
    refine OL.popC rfl rfl rfl (POp.assign rfl rfl rfl) ?_
    refine OL.nil ?_
    refine Done.blkNormal ?_
    refine Done.seq ?_
    refine CW.le 5 (y := .as (AV.lits (pickL l (ns.take (k + 1)))) v20) rfl (by rw [pick_snoc hkl, AV.lits, lits_snoc]; exact AVle.refl _) ?_
    refine CW.region ?_
    refine OL.popC rfl rfl rfl (POp.arith rfl rfl rfl rfl rfl rfl (wrap64 (by omega))) ?_
    refine OL.popC rfl rfl rfl (POp.move rfl rfl rfl) ?_
    refine OL.nil ?_
    refine Done.againJ (⟨k + 1, v20, rfl, rfl, by omega⟩) ?_ ?_ ?_
    · omega
    · repeat (first | exact trivial | refine ⟨rfl, ?_⟩)
    · repeat (first | exact List.Sublist.refl _ | refine List.Sublist.cons _ ?_)
  ·
    try simp only [decide_eq_true_eq, decide_eq_false_iff_not, beq_iff_eq, bne_iff_ne, ne_eq, Int.not_lt, Int.not_le, beq_eq_false_iff_ne, gt_iff_lt, ge_iff_le, Bool.not_eq_true, Bool.not_eq_false, Bool.not_eq_false', bne_eq_false_iff_eq] at h0
    obtain rfl : k = ns.length := by omega
    rw [List.take_length]
    refine CW.exit ?_
    refine Done.thenExit ?_
    refine Done.thenExit ?_
    refine Done.blkExit ?_
    refine Done.seq ?_
    refine CW.seq ?_
    refine CW.region ?_
    refine OL.popC rfl rfl rfl (POp.move rfl rfl rfl) ?_
    refine OL.popC rfl rfl rfl (POp.assign rfl rfl rfl) ?_
    refine OL.nil ?_
    refine Done.seq ?_
    refine CW.ret ?_
    refine Done.retR (rs := [.tmp 4]) (H' := H) rfl (.tmp rfl (.nil)) (.cons (AVle.asL _ _) .nil) (by repeat (first | exact List.Sublist.refl _ | refine List.Sublist.cons _ ?_)) ?_
    exact ⟨by first | rfl | exact retI (by simp_all) | exact retB (by simp_all) | simp_all, rfl⟩
noncomputable def minStep (W : FW) (c : List FLit) (left : List Int) (n : Int) : List Int := if togetherK W (pickL c (left.filter fun m => !(m == n))) then left else left.filter fun m => !(m == n)
def numL (n : Nat) : List Int := (List.range n).map fun (i : Nat) => (i : Int)
noncomputable def minN (W : FW) (c : List FLit) (k : Nat) : List Int := (List.range k).foldl (fun left (n : Nat) => minStep W c left (n : Int)) (numL c.length)
noncomputable def minC (W : FW) (c : List FLit) : List Int := minN W c c.length
theorem minN_succ (W : FW) (c : List FLit) (k : Nat) : minN W c (k + 1) = minStep W c (minN W c k) k := by
  rw [minN, List.range_succ, List.foldl_append]; rfl
theorem num_succ (n : Nat) : numL (n + 1) = numL n ++ [(n : Int)] := by rw [numL, List.range_succ, List.map_append]; rfl
theorem num_len (n : Nat) : (numL n).length = n := by simp [numL]
structure MinI (c : List FLit) (k : Nat) (left : List Int) : Prop where
  rng : ∀ x ∈ left, 0 ≤ x ∧ x < c.length
  len : left.length ≤ c.length
  has : ∀ m : Nat, k ≤ m → m < c.length → (m : Int) ∈ left
theorem MinI.init (c : List FLit) : MinI c 0 (numL c.length) := by
  refine ⟨fun x hx => ?_, by rw [num_len]; omega, fun m _ hm => ?_⟩
  · obtain ⟨i, hi, rfl⟩ := List.mem_map.1 hx
    have := List.mem_range.1 hi
    omega
  · exact List.mem_map.2 ⟨m, List.mem_range.2 hm, rfl⟩
theorem MinI.filter {c : List FLit} {k : Nat} {left : List Int} (h : MinI c k left) : MinI c (k + 1) (left.filter fun m => !(m == (k : Int))) :=
  ⟨fun x hx => h.rng x (List.mem_filter.1 hx).1, Nat.le_trans (List.length_filter_le _ _) h.len, fun m h1 h2 => List.mem_filter.2 ⟨h.has m (by omega) h2, by simp; omega⟩⟩
theorem MinI.same {c : List FLit} {k : Nat} {left : List Int} (h : MinI c k left) : MinI c (k + 1) left := ⟨h.rng, h.len, fun m h1 h2 => h.has m (by omega) h2⟩
theorem minN_inv (W : FW) (c : List FLit) : ∀ k, MinI c k (minN W c k)
  | 0 => MinI.init c
  | k + 1 => by
    have h := minN_inv W c k
    rw [minN_succ, minStep]
    split
    · exact h.same
    · exact h.filter
theorem MinI.ne {c : List FLit} {k : Nat} {left : List Int} (h : MinI c k left) (hk : k < c.length) : left ≠ [] := fun e => by have := h.has k (Nat.le_refl _) hk; rw [e] at this; cases this
theorem pick_case {W : FW} {c : List FLit} {ns : List Int} (hc : CaseOk W c) (hr : ∀ n ∈ ns, 0 ≤ n ∧ n < c.length) (hl : ns.length ≤ c.length) : CaseOk W (pickL c ns) := by
  refine ⟨fun l hl => ?_, by rw [pickL, List.length_map]; exact Nat.le_trans hl hc.2⟩
  obtain ⟨n, hn, rfl⟩ := List.mem_map.1 hl
  have := hr n hn
  exact hc.1 _ (getD_mem (by omega))
theorem p35g {W : FW} {a b : Fact} (h : goodP W [a, b] = true) (hs : (impCases a b).length ≤ 400) (hno2 : ∀ c ∈ impCases a b, togetherK W c = false) : PCall Tryz.prog 35 [AV.world W, AV.fact a, AV.fact b] (.tup [AV.intss ((impCases a b).map (minC W)), .i 0]) := by
  intro H
  refine ACall.mk' (n := 78) Tryz.func35 rfl (by kernel_rfl) rfl rfl (fun B I w0 => ?_)
  have hw := good_w h
  have ha := good_f h (.head _)
  have hb := good_f h (.tail _ (.head _))
  have hG := imp_good hw ha.1 hb.1 ha.2 hb.2
  refine CW.seq ?_
  refine CW.region ?_
  refine OL.popC rfl rfl rfl (POp.boxI rfl rfl rfl rfl) ?_
  refine OL.popC rfl rfl rfl (POp.boxI rfl rfl rfl rfl) ?_
  refine OL.popC rfl rfl rfl (POp.boxI rfl rfl rfl rfl) ?_
  refine OL.popC rfl rfl rfl (POp.assign rfl rfl rfl) ?_
  refine OL.popC rfl rfl rfl (POp.assign rfl rfl rfl) ?_
  refine OL.nil ?_
  refine Done.seq ?_
  refine CW.seq ?_
  refine CW.region ?_
  refine OL.popC rfl rfl rfl ((by first | exact POp.ldA rfl rfl rfl rfl | (apply POp.ldAH rfl rfl rfl; (case hm => repeat (first | exact .head _ | refine .tail _ ?_)); (case hy => rfl); (case hn => rfl)))) ?_
  refine OL.popC rfl rfl rfl ((by first | exact POp.ldA rfl rfl rfl rfl | (apply POp.ldAH rfl rfl rfl; (case hm => repeat (first | exact .head _ | refine .tail _ ?_)); (case hy => rfl); (case hn => rfl)))) ?_
  refine OL.popC rfl rfl rfl ((by first | exact POp.ldA rfl rfl rfl rfl | (apply POp.ldAH rfl rfl rfl; (case hm => repeat (first | exact .head _ | refine .tail _ ?_)); (case hy => rfl); (case hn => rfl)))) ?_
  refine OL.popC rfl rfl rfl (POp.row rfl rfl (by first | rfl | simp_all [strip]) rfl rfl rfl rfl rfl rfl) ?_
  refine OL.popC rfl rfl rfl (POp.callLe (.mk' rfl rfl rfl rfl rfl) (.cons (.refl _) (.cons (AVle_facts [a, b] rfl) .nil)) (p80g h)) ?_
  refine OL.popC rfl rfl rfl (POp.move rfl rfl rfl) ?_
  refine OL.popC rfl rfl rfl (POp.extract rfl rfl rfl rfl) ?_
  refine OL.popC rfl rfl rfl (POp.extract rfl rfl rfl rfl) ?_
  refine OL.popC rfl rfl rfl (POp.assign rfl rfl rfl) ?_
  refine OL.popC rfl rfl rfl (POp.assign rfl rfl rfl) ?_
  refine OL.nil ?_
  refine Done.seq ?_
  refine CW.seq ?_
  refine CW.seq ?_
  refine CW.region ?_
  refine OL.popC rfl rfl rfl (POp.move rfl rfl rfl) ?_
  refine OL.popC rfl rfl rfl (POp.not rfl rfl rfl) ?_
  refine OL.nil ?_
  refine Done.seq ?_
  refine CW.cond rfl (fun h0 => ?_) (fun h0 => ?_)
  ·
    cases h0
  ·
    skip
    refine CW.skip ?_
    refine Done.seq ?_
    refine CW.seq ?_
    refine CW.region ?_
    refine OL.popC rfl rfl rfl ((by first | exact POp.ldA rfl rfl rfl rfl | (apply POp.ldAH rfl rfl rfl; (case hm => repeat (first | exact .head _ | refine .tail _ ?_)); (case hy => rfl); (case hn => rfl)))) ?_
    refine OL.popC rfl rfl rfl ((by first | exact POp.ldA rfl rfl rfl rfl | (apply POp.ldAH rfl rfl rfl; (case hm => repeat (first | exact .head _ | refine .tail _ ?_)); (case hy => rfl); (case hn => rfl)))) ?_
    refine OL.popC rfl rfl rfl (POp.call (.mk' rfl rfl rfl rfl rfl) (p101s hG hs)) ?_
    refine OL.popC rfl rfl rfl (POp.move rfl rfl rfl) ?_
    refine OL.popC rfl rfl rfl (POp.extract rfl rfl rfl rfl) ?_
    refine OL.popC rfl rfl rfl (POp.extract rfl rfl rfl rfl) ?_
    refine OL.popC rfl rfl rfl (POp.assign rfl rfl rfl) ?_
    refine OL.popC rfl rfl rfl (POp.assign rfl rfl rfl) ?_
    refine OL.nil ?_
    refine Done.seq ?_
    refine CW.seq ?_
    refine CW.seq ?_
    refine CW.region ?_
    refine OL.popC rfl rfl rfl (POp.move rfl rfl rfl) ?_
    refine OL.popC rfl rfl rfl (POp.not rfl rfl rfl) ?_
    refine OL.nil ?_
    refine Done.seq ?_
    refine CW.cond rfl (fun h1 => ?_) (fun h1 => ?_)
    ·
      cases h1
    ·
      skip
      refine CW.skip ?_
      refine Done.seq ?_
      refine CW.seq ?_
      refine CW.region ?_
      refine OL.popC rfl rfl rfl (POp.assign rfl rfl rfl) ?_
      refine OL.nil ?_
      refine Done.seq ?_
      refine CW.seq ?_
      refine CW.seq ?_
      refine CW.ownNil 11 23 1 rfl ?_
      refine CW.region ?_
      refine OL.popC rfl rfl rfl (POp.move rfl rfl rfl) ?_
      refine OL.popC rfl rfl rfl ((by first | exact POp.lenM rfl rfl rfl | exact POp.lenA rfl rfl rfl | exact POp.lenV rfl rfl rfl | exact POp.len' rfl rfl rfl)) ?_
      refine OL.popC rfl rfl rfl (POp.move rfl rfl rfl) ?_
      refine OL.nil ?_
      refine Done.seq ?_
      refine CW.block ?_
      refine CW.loopJ (fun m st => ∃ (k : Nat) (v : Value), st = ⟨[(38, .i k), (37, .i (impCases a b).length), (36, AV.litss (impCases a b)), (11, .as (AV.intss (((impCases a b).take k).map (minC W))) v), (8, Wptr W)], .own 23 1 v :: H⟩ ∧ m = (impCases a b).length - k ∧ k ≤ (impCases a b).length ∧ ∀ c ∈ (impCases a b).take k, togetherK W c = false) ⟨_, _, ⟨0, _, rfl, rfl, Nat.zero_le _, by simp⟩, (by repeat (first | exact trivial | refine ⟨rfl, ?_⟩)), (by repeat (first | exact List.Sublist.refl _ | refine List.Sublist.cons _ ?_))⟩ ?_
      rintro m _ ⟨k, v, rfl, rfl, hk, hall⟩
      refine CW.seq ?_
      refine CW.region ?_
      refine OL.popC rfl rfl rfl (POp.cmp rfl rfl rfl rfl rfl rfl) ?_
      refine OL.nil ?_
      refine Done.seq ?_
      refine CW.seq ?_
      refine CW.cond rfl (fun h2 => ?_) (fun h2 => ?_)
      ·
        try simp only [decide_eq_true_eq, decide_eq_false_iff_not, beq_iff_eq, bne_iff_ne, ne_eq, Int.not_lt, Int.not_le, beq_eq_false_iff_ne, gt_iff_lt, ge_iff_le, Bool.not_eq_true, Bool.not_eq_false, Bool.not_eq_false', bne_eq_false_iff_eq] at h2
        have hkl : k < (impCases a b).length := by omega
        obtain ⟨c, hc⟩ : ∃ c, c = (impCases a b).getD k default := ⟨_, rfl⟩
        have hcm : c ∈ impCases a b := by rw [hc]; exact getD_mem hkl
        have hcO := hG.case false c hcm
        have htk : (impCases a b).take (k + 1) = (impCases a b).take k ++ [c] := by rw [hc, take_getD hkl]
        refine CW.skip ?_
        refine Done.seq ?_
        refine CW.seq ?_
        refine CW.block ?_
        refine CW.seq ?_
        refine CW.region ?_
        refine OL.popC rfl rfl rfl ((by first | exact POp.ixM rfl rfl rfl rfl rfl (by omega) | exact POp.ixI rfl rfl rfl rfl rfl (by omega))) ?_
        refine OL.popC rfl rfl rfl ((by first | exact POp.ld1 rfl rfl rfl rfl | (apply POp.ld1H rfl rfl rfl; (case hm => repeat (first | exact .head _ | refine .tail _ ?_)); (case hy => rfl)))) ?_
        refine OL.popC rfl rfl rfl (POp.assign rfl rfl rfl) ?_
        refine OL.nil ?_
        refine Done.seq ?_
        refine CW.seq ?_
        refine CW.seq ?_
        rw [← hc]
        refine CW.region ?_
        refine OL.popC rfl rfl rfl (POp.move rfl rfl rfl) ?_
        refine OL.popC rfl rfl rfl (POp.move rfl rfl rfl) ?_
        refine OL.popC rfl rfl rfl (POp.call (.mk' rfl rfl rfl rfl rfl) (p82 hw hcO.1 hcO.2)) ?_
        refine OL.nil ?_
        refine Done.seq ?_
        refine CW.cond rfl (fun h3 => ?_) (fun h3 => ?_)
        ·
          exact absurd (hno2 c hcm) (by rw [h3]; simp)
        ·
          have hno : togetherK W c = false := by simpa using h3
          have hclen := hcO.2
          refine CW.skip ?_
          refine Done.seq ?_
          refine CW.seq ?_
          refine CW.region ?_
          refine OL.popC rfl rfl rfl (POp.assign rfl rfl rfl) ?_
          refine OL.nil ?_
          refine Done.seq ?_
          refine CW.seq ?_
          refine CW.seq ?_
          refine CW.ownNil 14 3 1 rfl ?_
          refine CW.region ?_
          refine OL.popC rfl rfl rfl (POp.move rfl rfl rfl) ?_
          refine OL.popC rfl rfl rfl ((by first | exact POp.lenM rfl rfl rfl | exact POp.lenA rfl rfl rfl | exact POp.lenV rfl rfl rfl | exact POp.len' rfl rfl rfl)) ?_
          refine OL.popC rfl rfl rfl (POp.move rfl rfl rfl) ?_
          refine OL.nil ?_
          refine Done.seq ?_
          refine CW.block ?_
          refine CW.loopJ (fun m st => ∃ (q : Nat) (v2 : Value), st = ⟨[(47, .i q), (46, .i c.length), (14, .as (AV.ints (numL q)) v2), (13, AV.lits c), (38, .i k), (37, .i (impCases a b).length), (36, AV.litss (impCases a b)), (11, .as (AV.intss (((impCases a b).take k).map (minC W))) v), (8, Wptr W)], .own 3 1 v2 :: .own 23 1 v :: H⟩ ∧ m = c.length - q ∧ q ≤ c.length) ⟨_, _, ⟨0, _, rfl, rfl, Nat.zero_le _⟩, (by repeat (first | exact trivial | refine ⟨rfl, ?_⟩)), (by repeat (first | exact List.Sublist.refl _ | refine List.Sublist.cons _ ?_))⟩ ?_
          rintro m _ ⟨q, v2, rfl, rfl, hq⟩
          refine CW.seq ?_
          refine CW.region ?_
          refine OL.popC rfl rfl rfl (POp.cmp rfl rfl rfl rfl rfl rfl) ?_
          refine OL.nil ?_
          refine Done.seq ?_
          refine CW.seq ?_
          refine CW.cond rfl (fun h4 => ?_) (fun h4 => ?_)
          ·
            try simp only [decide_eq_true_eq, decide_eq_false_iff_not, beq_iff_eq, bne_iff_ne, ne_eq, Int.not_lt, Int.not_le, beq_eq_false_iff_ne, gt_iff_lt, ge_iff_le, Bool.not_eq_true, Bool.not_eq_false, Bool.not_eq_false', bne_eq_false_iff_eq] at h4
            refine CW.skip ?_
            refine Done.seq ?_
            refine CW.seq ?_
            refine CW.block ?_
            refine CW.seq ?_
            refine CW.region ?_
            refine OL.popC rfl rfl rfl (POp.move rfl rfl rfl) ?_
            refine OL.popC rfl rfl rfl (POp.assign rfl rfl rfl) ?_
            refine OL.nil ?_
            refine Done.seq ?_
            refine CW.region ?_
            refine OL.popC rfl rfl rfl (POp.move rfl rfl rfl) ?_
            refine OL.popC rfl rfl rfl (POp.move rfl rfl rfl) ?_
            refine OL.popC rfl rfl rfl (POp.row rfl rfl (by first | rfl | simp_all [strip]) rfl rfl rfl rfl rfl rfl) ?_
            refine OL.appendC rfl rfl rfl rfl rfl rfl rfl rfl (AVle.refl _) (rfl) (fun v => by repeat (first | exact Upd.head _ _ _ | apply Upd.tail)) (by show (List.length (List.map _ _) + 1) * 8 ≤ _; rw [List.length_map, num_len]; omega) (by show List.length (List.map _ _) + 1 ≤ _; rw [List.length_map, num_len]; omega) (fun v53 => ?_)
            refine OL.popC rfl rfl rfl (POp.assign rfl rfl rfl) ?_
            refine OL.nil ?_
            refine Done.blkNormal ?_
            refine Done.seq ?_
            refine CW.le 14 (y := .as (AV.ints (numL (q + 1))) v53) rfl (by rw [num_succ, AV.ints, ints_snoc]; exact AVle.refl _) ?_
            refine CW.region ?_
            refine OL.popC rfl rfl rfl (POp.arith rfl rfl rfl rfl rfl rfl (wrap64 (by omega))) ?_
            refine OL.popC rfl rfl rfl (POp.move rfl rfl rfl) ?_
            refine OL.nil ?_
            refine Done.againJ (⟨q + 1, v53, rfl, rfl, by omega⟩) ?_ ?_ ?_
            · omega
            · repeat (first | exact trivial | refine ⟨rfl, ?_⟩)
            · repeat (first | exact List.Sublist.refl _ | refine List.Sublist.cons _ ?_)
          ·
            try simp only [decide_eq_true_eq, decide_eq_false_iff_not, beq_iff_eq, bne_iff_ne, ne_eq, Int.not_lt, Int.not_le, beq_eq_false_iff_ne, gt_iff_lt, ge_iff_le, Bool.not_eq_true, Bool.not_eq_false, Bool.not_eq_false', bne_eq_false_iff_eq] at h4
            obtain rfl : q = c.length := by omega
            refine CW.exit ?_
            refine Done.thenExit ?_
            refine Done.thenExit ?_
            refine Done.blkExit ?_
            refine Done.seq ?_
            refine CW.seq ?_
            refine CW.seq ?_
            refine CW.le 14 rfl (AVle.asL _ _) ?_
            refine CW.region ?_
            refine OL.popC rfl rfl rfl (POp.move rfl rfl rfl) ?_
            refine OL.popC rfl rfl rfl ((by first | exact POp.lenM rfl rfl rfl | exact POp.lenA rfl rfl rfl | exact POp.lenV rfl rfl rfl | exact POp.len' rfl rfl rfl)) ?_
            refine OL.popC rfl rfl rfl (POp.move rfl rfl rfl) ?_
            refine OL.nil ?_
            refine Done.seq ?_
            refine CW.block ?_
            refine CW.loopJ (fun m st => ∃ (q : Nat), st = ⟨[(57, .i q), (56, .i c.length), (14, AV.ints (minN W c q)), (13, AV.lits c), (38, .i k), (37, .i (impCases a b).length), (36, AV.litss (impCases a b)), (11, .as (AV.intss (((impCases a b).take k).map (minC W))) v), (8, Wptr W)], .own 23 1 v :: H⟩ ∧ m = c.length - q ∧ q ≤ c.length) ⟨_, _, ⟨0, rfl, rfl, Nat.zero_le _⟩, (by repeat (first | exact trivial | refine ⟨rfl, ?_⟩)), (by repeat (first | exact List.Sublist.refl _ | refine List.Sublist.cons _ ?_))⟩ ?_
            rintro m _ ⟨q, rfl, rfl, hq⟩
            have hI := minN_inv W c q
            have hIl := hI.len
            refine CW.seq ?_
            refine CW.region ?_
            refine OL.popC rfl rfl rfl (POp.cmp rfl rfl rfl rfl rfl rfl) ?_
            refine OL.nil ?_
            refine Done.seq ?_
            refine CW.seq ?_
            refine CW.cond rfl (fun h5 => ?_) (fun h5 => ?_)
            ·
              try simp only [decide_eq_true_eq, decide_eq_false_iff_not, beq_iff_eq, bne_iff_ne, ne_eq, Int.not_lt, Int.not_le, beq_eq_false_iff_ne, gt_iff_lt, ge_iff_le, Bool.not_eq_true, Bool.not_eq_false, Bool.not_eq_false', bne_eq_false_iff_eq] at h5
              have hql : q < c.length := by omega
              have hne := hI.ne hql
              have hF := hI.filter
              refine CW.skip ?_
              refine Done.seq ?_
              refine CW.seq ?_
              refine CW.block ?_
              refine CW.seq ?_
              refine CW.region ?_
              refine OL.popC rfl rfl rfl (POp.move rfl rfl rfl) ?_
              refine OL.alC rfl rfl rfl rfl (fun b0 => ?_)
              apply OL.stoC rfl rfl rfl rfl rfl rfl rfl rfl rfl rfl
              (case hu => repeat (first | exact Upd.head _ _ _ | apply Upd.tail)); (case hfit => rfl); (case hds => rfl)
              refine OL.nil ?_
              refine Done.seq ?_
              refine CW.seq ?_
              refine CW.freezeP (d := 16) rfl (by repeat (first | exact Del.head _ _ | apply Del.tail)) ?_
              refine CW.region ?_
              refine OL.popC rfl rfl rfl (POp.move rfl rfl rfl) ?_
              refine OL.bcallC rfl rfl rfl (.mk' rfl rfl rfl rfl rfl) (a32 _ (minN W c q) hne (by omega) _) ?_
              rintro y H1 ⟨bb, cap, more, rfl, hc1, hc2, rfl⟩
              refine OL.popC rfl rfl rfl (POp.makeFunc rfl rfl rfl (by first | rfl | simp_all [strip]) (by first | rfl | simp_all [strip])) ?_
              refine OL.bcallC rfl rfl rfl (.mk' rfl rfl rfl rfl rfl) (b102 (PredOk.of (fun m => p103 m q)) _ (minN W c q) bb cap more (by omega) hc1 hc2 _) ?_
              rintro y H1 ⟨rfl, rfl⟩
              refine OL.popC rfl rfl rfl (POp.assign rfl rfl rfl) ?_
              refine OL.nil ?_
              refine Done.seq ?_
              refine CW.seq ?_
              refine CW.region ?_
              refine OL.popC rfl rfl rfl (POp.move rfl rfl rfl) ?_
              refine OL.popC rfl rfl rfl (POp.move rfl rfl rfl) ?_
              refine OL.popC rfl rfl rfl (POp.move rfl rfl rfl) ?_
              refine OL.popC rfl rfl rfl (POp.call (.mk' rfl rfl rfl rfl rfl) (p104 c _ hF.rng (by have := hF.len; omega))) ?_
              refine OL.popC rfl rfl rfl (POp.call (.mk' rfl rfl rfl rfl rfl) (p82 hw (pick_case hcO hF.rng hF.len).1 (pick_case hcO hF.rng hF.len).2)) ?_
              refine OL.popC rfl rfl rfl (POp.not rfl rfl rfl) ?_
              refine OL.nil ?_
              refine Done.seq ?_
              refine CW.cond rfl (fun h6 => ?_) (fun h6 => ?_)
              ·
                have hst : minN W c (q + 1) = (minN W c q).filter fun m => !(m == (q : Int)) := by rw [minN_succ, minStep, if_neg (by simpa using h6)]
                rw [← hst]
                refine CW.region ?_
                refine OL.popC rfl rfl rfl (POp.move rfl rfl rfl) ?_
                refine OL.popC rfl rfl rfl (POp.assign rfl rfl rfl) ?_
                refine OL.nil ?_
                refine Done.blkNormal ?_
                refine Done.seq ?_
                refine CW.region ?_
                refine OL.popC rfl rfl rfl (POp.arith rfl rfl rfl rfl rfl rfl (wrap64 (by omega))) ?_
                refine OL.popC rfl rfl rfl (POp.move rfl rfl rfl) ?_
                refine OL.nil ?_
                refine Done.againJ (⟨q + 1, rfl, rfl, by omega⟩) ?_ ?_ ?_
                · omega
                · repeat (first | exact trivial | refine ⟨rfl, ?_⟩)
                · repeat (first | exact List.Sublist.refl _ | refine List.Sublist.cons _ ?_)
              ·
                have hst : minN W c (q + 1) = minN W c q := by rw [minN_succ, minStep, if_pos (by simpa using h6)]
                rw [← hst]
                refine CW.skip ?_
                refine Done.blkNormal ?_
                refine Done.seq ?_
                refine CW.region ?_
                refine OL.popC rfl rfl rfl (POp.arith rfl rfl rfl rfl rfl rfl (wrap64 (by omega))) ?_
                refine OL.popC rfl rfl rfl (POp.move rfl rfl rfl) ?_
                refine OL.nil ?_
                refine Done.againJ (⟨q + 1, rfl, rfl, by omega⟩) ?_ ?_ ?_
                · omega
                · repeat (first | exact trivial | refine ⟨rfl, ?_⟩)
                · repeat (first | exact List.Sublist.refl _ | refine List.Sublist.cons _ ?_)
            ·
              try simp only [decide_eq_true_eq, decide_eq_false_iff_not, beq_iff_eq, bne_iff_ne, ne_eq, Int.not_lt, Int.not_le, beq_eq_false_iff_ne, gt_iff_lt, ge_iff_le, Bool.not_eq_true, Bool.not_eq_false, Bool.not_eq_false', bne_eq_false_iff_eq] at h5
              obtain rfl : q = c.length := by omega
              refine CW.exit ?_
              refine Done.thenExit ?_
              refine Done.thenExit ?_
              refine Done.blkExit ?_
              refine Done.seq ?_
              refine CW.region ?_
              refine OL.popC rfl rfl rfl (POp.move rfl rfl rfl) ?_
              refine OL.popC rfl rfl rfl (POp.move rfl rfl rfl) ?_
              refine OL.popC rfl rfl rfl (POp.row rfl rfl (by first | rfl | simp_all [strip]) rfl rfl rfl rfl rfl rfl) ?_
              refine OL.appendC rfl rfl rfl rfl rfl rfl rfl rfl (AVle.refl _) (rfl) (fun v => by repeat (first | exact Upd.head _ _ _ | apply Upd.tail)) (by show (List.length (List.map _ _) + 1) * 24 ≤ _; rw [List.length_map, List.length_map, List.length_take]; omega) (by show List.length (List.map _ _) + 1 ≤ _; rw [List.length_map, List.length_map, List.length_take]; omega) (fun v75 => ?_)
              refine OL.popC rfl rfl rfl (POp.assign rfl rfl rfl) ?_
              refine OL.nil ?_
              refine Done.blkNormal ?_
              refine Done.seq ?_
              refine CW.le 11 (y := .as (AV.intss (((impCases a b).take (k + 1)).map (minC W))) v75) rfl (by rw [htk, List.map_append, AV.intss, List.map_singleton, intss_snoc]; exact AVle.refl _) ?_
              refine CW.region ?_
              refine OL.popC rfl rfl rfl (POp.arith rfl rfl rfl rfl rfl rfl (wrap64 (by omega))) ?_
              refine OL.popC rfl rfl rfl (POp.move rfl rfl rfl) ?_
              refine OL.nil ?_
              refine Done.againJ (⟨k + 1, v75, rfl, rfl, by omega, fun c2 h2 => by rw [htk] at h2; rcases List.mem_append.1 h2 with h2 | h2; exact hall c2 h2; simp at h2; subst h2; exact hno⟩) ?_ ?_ ?_
              · omega
              · repeat (first | exact trivial | refine ⟨rfl, ?_⟩)
              · repeat (first | exact List.Sublist.refl _ | refine List.Sublist.cons _ ?_)
      ·
        try simp only [decide_eq_true_eq, decide_eq_false_iff_not, beq_iff_eq, bne_iff_ne, ne_eq, Int.not_lt, Int.not_le, beq_eq_false_iff_ne, gt_iff_lt, ge_iff_le, Bool.not_eq_true, Bool.not_eq_false, Bool.not_eq_false', bne_eq_false_iff_eq] at h2
        obtain rfl : k = (impCases a b).length := by omega
        rw [List.take_length] at hall ⊢
        refine CW.exit ?_
        refine Done.thenExit ?_
        refine Done.thenExit ?_
        refine Done.blkExit ?_
        refine Done.seq ?_
        refine CW.seq ?_
        refine CW.region ?_
        refine OL.popC rfl rfl rfl (POp.move rfl rfl rfl) ?_
        refine OL.popC rfl rfl rfl (POp.assign rfl rfl rfl) ?_
        refine OL.popC rfl rfl rfl (POp.assign rfl rfl rfl) ?_
        refine OL.nil ?_
        refine Done.seq ?_
        refine CW.ret ?_
        refine Done.retR (rs := [.tmp 6, .tmp 7]) (H' := H) rfl (.tmp rfl (.tmp rfl (.nil))) (.cons (AVle.asL _ _) (.cons (.refl _) .nil)) (by repeat (first | exact List.Sublist.refl _ | refine List.Sublist.cons _ ?_)) ?_
        exact ⟨by first | rfl | exact retI (by simp_all) | exact retB (by simp_all) | simp_all, rfl⟩
end Go.Proofs.YtiljpbljebfhnaaGreat

set_option linter.unusedVariables false
set_option linter.unusedSimpArgs false
set_option maxRecDepth 10000
namespace Go.Proofs.YtiljpbljebfhnaaGreat
open Go.Eng
open Go.Eng.Fc
mutual
def putF (y : Fact) : Fact → Int → Fact
  | .mk op arg path cls n kids, i => if i = 0 then y else .mk op arg path cls n (putsF y kids (i - 1))
def putsF (y : Fact) : List Fact → Int → List Fact
  | [], _ => []
  | k :: r, i => putF y k i :: putsF y r (i - nodesN k)
end
theorem putF_zero (y f : Fact) : putF y f 0 = y := by cases f; rw [putF]; exact if_pos rfl
theorem putF_ne {y f : Fact} {i : Int} (h : ¬ i = 0) : putF y f i = .mk f.op f.arg f.path f.cls f.n (putsF y f.kids (i - 1)) := by cases f; rw [putF]; exact if_neg h
theorem nodesNs_take {l : List Fact} {j : Nat} (h : j < l.length) : nodesNs (l.take (j + 1)) = nodesNs (l.take j) + nodesN (l.getD j default) := by
  induction l generalizing j with
  | nil => simp at h
  | cons x r ih =>
    cases j with
    | zero => simp [nodesNs]
    | succ j =>
      rw [List.take_succ_cons, List.take_succ_cons, nodesNs, nodesNs, ih (by simpa using h)]
      simp only [List.getD_cons_succ]; omega
theorem nodesNs_le {l : List Fact} (j : Nat) : nodesNs (l.take j) ≤ nodesNs l := by
  induction l generalizing j with
  | nil => simp [nodesNs]
  | cons x r ih =>
    cases j with
    | zero => simp [nodesNs]
    | succ j => rw [List.take_succ_cons, nodesNs, nodesNs]; have := ih j; omega
theorem kids_nodes (f : Fact) : f.kids.length ≤ nodesN f := by
  have : ∀ l : List Fact, l.length ≤ nodesNs l := by
    intro l
    induction l with
    | nil => simp
    | cons x r ih => rw [nodesNs, List.length_cons, nodesN_eq]; omega
  have := this f.kids; rw [nodesN_eq]; omega
theorem fc_len (x : Fact) : (Fcells x).length = 6 := rfl
theorem flat_len (l : List Fact) : ((l.map Fcells).flatten).length = l.length * 6 := by
  rw [flatten_len (k := 6) (by simp [fc_len]), List.length_map]
theorem put_cell {ys K : List Fact} {j : Nat} {more : List AV} (h : ys.length = j) (hj : j < K.length) : ((((ys ++ K.drop j).map Fcells).flatten ++ more).drop (0 + ((j : Int)).toNat * 6)).take 6 = Fcells (K.getD j default) := by
  rw [List.drop_eq_getElem_cons hj, getD_lt hj]
  have e : 0 + ((j : Int)).toNat * 6 = ((ys.map Fcells).flatten).length := by rw [flat_len, h]; simp
  have e2 : ((ys ++ K[j] :: K.drop (j + 1)).map Fcells).flatten ++ more = (ys.map Fcells).flatten ++ (Fcells K[j] ++ (((K.drop (j + 1)).map Fcells).flatten ++ more)) := by
    rw [List.map_append, List.flatten_append, List.append_assoc, List.map_cons, List.flatten_cons, List.append_assoc]
  rw [e, e2, List.drop_left]
  exact List.take_left (l₁ := Fcells K[j])
theorem put_set {ys K : List Fact} {j : Nat} {more : List AV} (h : ys.length = j) (hj : j < K.length) (x : Fact) : (((ys ++ K.drop j).map Fcells).flatten ++ more).take (0 + ((j : Int)).toNat * 6) ++ bcells (.agg (Fcells x)) ++ (((ys ++ K.drop j).map Fcells).flatten ++ more).drop (0 + ((j : Int)).toNat * 6 + 6) = (((ys ++ [x]) ++ K.drop (j + 1)).map Fcells).flatten ++ more := by
  have e : 0 + ((j : Int)).toNat * 6 = ((ys.map Fcells).flatten).length := by rw [flat_len, h]; simp
  have e2 : ((ys ++ K.drop j).map Fcells).flatten ++ more = (ys.map Fcells).flatten ++ (Fcells K[j] ++ (((K.drop (j + 1)).map Fcells).flatten ++ more)) := by
    rw [List.drop_eq_getElem_cons hj, List.map_append, List.flatten_append, List.append_assoc, List.map_cons, List.flatten_cons, List.append_assoc]
  rw [e, e2, List.take_left, ← List.drop_drop, List.drop_left, show List.drop 6 (Fcells K[j] ++ (((K.drop (j + 1)).map Fcells).flatten ++ more)) = ((K.drop (j + 1)).map Fcells).flatten ++ more from List.drop_left (l₁ := Fcells K[j])]
  simp [bcells]
theorem AVle.eqI {a b : Int} (h : a = b) : AVle (.i a) (.i b) := h ▸ .refl _
theorem CW.freezeCell {c : Ctx} {r : Option Nat} {P : Program} {p : Code} {Q : Exit → Act → World → Prop} {env : List (Nat × AV)} {kb fb t tb n cap k : Nat} {els : List (List AV)} {more xs ys : List AV} {R : List Ent}
    (hn : els.length = n) (hk : ∀ e ∈ els, e.length = k) (hc : n ≤ cap) (hm : cap ≤ maxLen) (h : CW c r P p ⟨env, .blk fb tb (xs ++ .sl k els :: ys) :: R⟩ Q) : CW c r P p ⟨env, .blk kb t (els.flatten ++ more) :: .blk fb tb (xs ++ .val (.slice (some ⟨kb, 0, none⟩) n cap) :: ys) :: R⟩ Q := fun a w s => by
  refine h a w ?_
  obtain ⟨I, hw, he, hh, hv⟩ := s.mem
  obtain ⟨hB, vs, hb, hr, hni⟩ := hh.ok _ (.head _)
  obtain ⟨a1, a2, a3, a4⟩ := Imm.freeze (n := vs.size) hw hh (.head _ _) (b := kb) rfl hb (Nat.le_refl _)
  have h1 := (a4 _ vs.toList hr (by rw [← Array.length_toList, List.take_length])).take els.flatten.length
  rw [List.take_left] at h1
  refine ⟨s.ds, s.size, _, a1, he.trans a2, HeapOk.head a3 (fun ⟨q1, us, q2, q3, q4⟩ => ⟨q1, us, q2, RelL.replace (fun v hv => ?_) q3, q4⟩) rfl, hv.keep a2.keeps⟩
  rw [rel_val hv]
  exact .sl _ _ _ _ _ _ hn hc hm (els_of_cells els 0 hk h1)
theorem a192 (B : Nat) (l : List Fact) (hne : l ≠ []) (hl : l.length ≤ 100000) (H : List Ent) : BCall B Tryz.prog 192 [AV.facts l] H (fun y H' => ∃ b cap more, y = .val (.slice (some ⟨b, 0, none⟩) (l.map Fcells).length cap) ∧ (l.map Fcells).length ≤ cap ∧ cap ≤ maxLen ∧ H' = .blk b 29 ((l.map Fcells).flatten ++ more) :: H) (fun _ => False) := by
  refine BCall.of (n := 8) Tryz.func192 rfl (by kernel_rfl) rfl rfl (fun I w0 => ?_)
  refine CW.seq ?_
  refine CW.region ?_
  refine OL.popC rfl rfl rfl (POp.assign rfl rfl rfl) ?_
  refine OL.nil ?_
  refine Done.seq ?_
  refine CW.seq ?_
  refine CW.seq ?_
  refine CW.region ?_
  refine OL.popC rfl rfl rfl (POp.move rfl rfl rfl) ?_
  refine OL.isNilC rfl rfl rfl rfl rfl rfl rfl (AVle.refl _) rfl rfl (fun n4 hn4 => ?_)
  refine OL.nil ?_
  refine Done.seq ?_
  refine CW.cond rfl (fun h0 => ?_) (fun h0 => ?_)
  ·
    exact absurd (hn4 h0) (by rw [encFs_map]; simpa using hne)
  ·
    skip
    refine CW.skip ?_
    refine Done.seq ?_
    refine CW.seq ?_
    refine CW.region ?_
    refine OL.popC rfl rfl rfl (POp.row0 rfl) ?_
    refine OL.popC rfl rfl rfl (POp.move rfl rfl rfl) ?_
    refine OL.appendNew (news := l.map Fcells) rfl rfl rfl rfl rfl rfl (AVle.refl _) rfl rfl (by rw [← encFs_map]; exact AVle.refl _) (by simpa using hne) (one_map (fun _ => rfl) l) (by simp; omega) (by simp; omega) (fun b cap more hc1 hc2 => ?_)
    refine OL.popC rfl rfl rfl (POp.assign rfl rfl rfl) ?_
    refine OL.nil ?_
    refine Done.seq ?_
    refine CW.ret ?_
    refine Done.retR (rs := [.tmp 2]) rfl (.tmp rfl (.nil)) (AVleL.refl _) (by exact List.Sublist.refl _) ?_
    exact ⟨b, cap, more, rfl, hc1, hc2, rfl⟩
theorem p147_leaf (y f : Fact) (hk : f.kids = []) (i : Int) (hi : ¬ i = 0) (hb : i ≤ 1000000 ∧ -1000000 ≤ i - nodesN f) : PCall Tryz.prog 147 [AV.fact f, .i i, AV.fact y] (.tup [AV.fact (putF y f i), .i (nodesN f)]) := by
  intro H
  refine ACall.mk' (n := 57) Tryz.func147 rfl (by kernel_rfl) rfl rfl (fun B I w0 => ?_)
  have hn1 : nodesN f = 1 := by rw [nodesN_eq, hk]; rfl
  have hpf : putF y f i = f := by rw [putF_ne hi, hk, putsF]; exact Fact.ext' rfl rfl rfl rfl rfl hk.symm
  refine CW.seq ?_
  refine CW.region ?_
  refine OL.boxC rfl rfl rfl rfl rfl rfl rfl (fun b0 => ?_)
  refine OL.popC rfl rfl rfl (POp.boxI rfl rfl rfl rfl) ?_
  refine OL.alC rfl rfl rfl rfl (fun b1 => ?_)
  refine OL.popC rfl rfl rfl (POp.assign rfl rfl rfl) ?_
  refine OL.nil ?_
  refine Done.seq ?_
  refine CW.seq ?_
  refine CW.seq ?_
  refine CW.region ?_
  refine OL.popC rfl rfl rfl (POp.move rfl rfl rfl) ?_
  refine OL.popC rfl rfl rfl (POp.cmp rfl rfl rfl rfl rfl rfl) ?_
  refine OL.nil ?_
  refine Done.seq ?_
  refine CW.cond rfl (fun h0 => ?_) (fun h0 => ?_)
  ·
    exact absurd (by simpa using h0) hi
  ·
    skip
    refine CW.skip ?_
    refine Done.seq ?_
    refine CW.seq ?_
    refine CW.region ?_
    refine OL.popC rfl rfl rfl (POp.assign rfl rfl rfl) ?_
    refine OL.nil ?_
    refine Done.seq ?_
    refine CW.seq ?_
    refine CW.region ?_
    refine OL.popC rfl rfl rfl ((by first | exact POp.fa rfl rfl rfl rfl | exact POp.faP rfl rfl rfl rfl)) ?_
    refine OL.popC rfl rfl rfl ((by first | exact POp.ld1 rfl rfl rfl rfl | (apply POp.ld1H rfl rfl rfl; (case hm => repeat (first | exact .head _ | refine .tail _ ?_)); (case hy => rfl)))) ?_
    refine OL.popC rfl rfl rfl (POp.call (.mk' rfl rfl rfl rfl rfl) (p192 f.kids (by rw [hk]; simp))) ?_
    refine OL.popC rfl rfl rfl ((by first | exact POp.fa rfl rfl rfl rfl | exact POp.faP rfl rfl rfl rfl)) ?_
    apply OL.stoC rfl rfl rfl rfl rfl rfl rfl rfl rfl rfl
    (case hu => repeat (first | exact Upd.head _ _ _ | apply Upd.tail)); (case hfit => rfl); (case hds => rfl)
    refine OL.nil ?_
    refine Done.seq ?_
    refine CW.seq ?_
    refine CW.seq ?_
    refine CW.region ?_
    refine OL.popC rfl rfl rfl ((by first | exact POp.fa rfl rfl rfl rfl | exact POp.faP rfl rfl rfl rfl)) ?_
    refine OL.popC rfl rfl rfl ((by first | exact POp.ld1 rfl rfl rfl rfl | (apply POp.ld1H rfl rfl rfl; (case hm => repeat (first | exact .head _ | refine .tail _ ?_)); (case hy => rfl)))) ?_
    refine OL.popC rfl rfl rfl ((by first | exact POp.lenM rfl rfl rfl | exact POp.lenA rfl rfl rfl | exact POp.lenV rfl rfl rfl | exact POp.len' rfl rfl rfl)) ?_
    refine OL.popC rfl rfl rfl (POp.move rfl rfl rfl) ?_
    refine OL.nil ?_
    refine Done.seq ?_
    refine CW.block ?_
    refine CW.loopJ (fun m st => st = ⟨[(32, .i 0), (31, .i f.kids.length), (10, .i 1), (3, .p b0 0), (6, .p b1 0)], .blk b1 29 [.i 0, .i 0, .val (.slice none 0 0), .i 0, .i 0, .val (.slice none 0 0)] :: .blk b0 29 (Fcells f) :: H⟩ ∧ m = 0) ⟨_, _, ⟨rfl, rfl⟩, (by repeat (first | exact trivial | refine ⟨rfl, ?_⟩)), (by repeat (first | exact List.Sublist.refl _ | refine List.Sublist.cons _ ?_))⟩ ?_
    rintro m _ ⟨rfl, rfl⟩
    refine CW.seq ?_
    refine CW.region ?_
    refine OL.popC rfl rfl rfl (POp.cmp rfl rfl rfl rfl rfl rfl) ?_
    refine OL.nil ?_
    refine Done.seq ?_
    refine CW.seq ?_
    refine CW.cond rfl (fun h1 => ?_) (fun h1 => ?_)
    ·
      exfalso
      rw [hk] at h1
      exact absurd h1 (by decide)
    ·
      skip
      refine CW.exit ?_
      refine Done.thenExit ?_
      refine Done.thenExit ?_
      refine Done.blkExit ?_
      refine Done.seq ?_
      refine CW.seq ?_
      refine CW.region ?_
      refine OL.popC rfl rfl rfl ((by first | exact POp.ldA rfl rfl rfl rfl | (apply POp.ldAH rfl rfl rfl; (case hm => repeat (first | exact .head _ | refine .tail _ ?_)); (case hy => rfl); (case hn => rfl)))) ?_
      refine OL.popC rfl rfl rfl (POp.move rfl rfl rfl) ?_
      apply OL.stoC rfl rfl rfl rfl rfl rfl rfl rfl rfl rfl
      (case hu => repeat (first | exact Upd.head _ _ _ | apply Upd.tail)); (case hfit => rfl); (case hds => rfl)
      refine OL.popC rfl rfl rfl (POp.assign rfl rfl rfl) ?_
      refine OL.nil ?_
      refine Done.seq ?_
      refine CW.ret ?_
      refine Done.retR (rs := [.cell 6 29, .tmp 7]) (H' := H) rfl ((by first | exact .cellA inferInstance rfl (by repeat (first | exact .head _ | refine .tail _ ?_)) rfl rfl (.tmp rfl (.nil)) | exact .ptrA inferInstance rfl rfl (.tmp rfl (.nil)))) (AVleL.refl _) (by repeat (first | exact List.Sublist.refl _ | refine List.Sublist.cons _ ?_)) ?_
      exact ⟨by rw [hpf, hn1]; rfl, rfl⟩
theorem p147_node (y f : Fact) (hk : f.kids ≠ []) (hf : nodesN f ≤ 1000) (ih : ∀ k ∈ f.kids, ∀ i : Int, i ≤ 1000000 ∧ -1000000 ≤ i - nodesN k → PCall Tryz.prog 147 [AV.fact k, .i i, AV.fact y] (.tup [AV.fact (putF y k i), .i (nodesN k)])) (i : Int) (hi : ¬ i = 0) (hb : i ≤ 1000000 ∧ -1000000 ≤ i - nodesN f) : PCall Tryz.prog 147 [AV.fact f, .i i, AV.fact y] (.tup [AV.fact (putF y f i), .i (nodesN f)]) := by
  intro H
  refine ACall.mk' (n := 57) Tryz.func147 rfl (by kernel_rfl) rfl rfl (fun B I w0 => ?_)
  have hkl := kids_nodes f
  have hnf := nodesN_eq f
  refine CW.seq ?_
  refine CW.region ?_
  refine OL.boxC rfl rfl rfl rfl rfl rfl rfl (fun b0 => ?_)
  refine OL.popC rfl rfl rfl (POp.boxI rfl rfl rfl rfl) ?_
  refine OL.alC rfl rfl rfl rfl (fun b1 => ?_)
  refine OL.popC rfl rfl rfl (POp.assign rfl rfl rfl) ?_
  refine OL.nil ?_
  refine Done.seq ?_
  refine CW.seq ?_
  refine CW.seq ?_
  refine CW.region ?_
  refine OL.popC rfl rfl rfl (POp.move rfl rfl rfl) ?_
  refine OL.popC rfl rfl rfl (POp.cmp rfl rfl rfl rfl rfl rfl) ?_
  refine OL.nil ?_
  refine Done.seq ?_
  refine CW.cond rfl (fun h0 => ?_) (fun h0 => ?_)
  ·
    exact absurd (by simpa using h0) hi
  ·
    skip
    refine CW.skip ?_
    refine Done.seq ?_
    refine CW.seq ?_
    refine CW.region ?_
    refine OL.popC rfl rfl rfl (POp.assign rfl rfl rfl) ?_
    refine OL.nil ?_
    refine Done.seq ?_
    refine CW.seq ?_
    refine CW.region ?_
    refine OL.popC rfl rfl rfl ((by first | exact POp.fa rfl rfl rfl rfl | exact POp.faP rfl rfl rfl rfl)) ?_
    refine OL.popC rfl rfl rfl ((by first | exact POp.ld1 rfl rfl rfl rfl | (apply POp.ld1H rfl rfl rfl; (case hm => repeat (first | exact .head _ | refine .tail _ ?_)); (case hy => rfl)))) ?_
    refine OL.bcallC rfl rfl rfl (.mk' rfl rfl rfl rfl rfl) (a192 _ f.kids hk (by omega) _) ?_
    rintro z H1 ⟨kb, cap, more, rfl, hc1, hc2, rfl⟩
    refine OL.popC rfl rfl rfl ((by first | exact POp.fa rfl rfl rfl rfl | exact POp.faP rfl rfl rfl rfl)) ?_
    apply OL.stoC rfl rfl rfl rfl rfl rfl rfl rfl rfl rfl
    (case hu => repeat (first | exact Upd.head _ _ _ | apply Upd.tail)); (case hfit => rfl); (case hds => rfl)
    refine OL.nil ?_
    refine Done.seq ?_
    refine CW.seq ?_
    refine CW.seq ?_
    refine CW.region ?_
    refine OL.popC rfl rfl rfl ((by first | exact POp.fa rfl rfl rfl rfl | exact POp.faP rfl rfl rfl rfl)) ?_
    refine OL.popC rfl rfl rfl ((by first | exact POp.ld1 rfl rfl rfl rfl | (apply POp.ld1H rfl rfl rfl; (case hm => repeat (first | exact .head _ | refine .tail _ ?_)); (case hy => rfl)))) ?_
    refine OL.popC rfl rfl rfl ((by first | exact POp.lenM rfl rfl rfl | exact POp.lenA rfl rfl rfl | exact POp.lenV rfl rfl rfl | exact POp.len' rfl rfl rfl)) ?_
    refine OL.popC rfl rfl rfl (POp.move rfl rfl rfl) ?_
    refine OL.nil ?_
    refine Done.seq ?_
    refine CW.block ?_
    refine CW.loopJ (fun m st => ∃ (j : Nat) (ys : List Fact), st = ⟨[(32, .i j), (31, .i (f.kids.map Fcells).length), (30, .val (.slice (some ⟨kb, 0, none⟩) (f.kids.map Fcells).length cap)), (10, .i (1 + nodesNs (f.kids.take j) : Nat)), (1, .i i), (3, .p b0 0), (5, .ptr (Fcells y)), (6, .p b1 0)], .blk kb 29 (((ys ++ f.kids.drop j).map Fcells).flatten ++ more) :: .blk b1 29 [.i 0, .i 0, .val (.slice none 0 0), .i 0, .i 0, .val (.slice none 0 0)] :: .blk b0 29 [.i f.op, .i f.arg, AV.ints f.path, .i f.cls, .i f.n, .val (.slice (some ⟨kb, 0, none⟩) (f.kids.map Fcells).length cap)] :: H⟩ ∧ m = f.kids.length - j ∧ j ≤ f.kids.length ∧ ys.length = j ∧ ys ++ putsF y (f.kids.drop j) (i - 1 - nodesNs (f.kids.take j)) = putsF y f.kids (i - 1)) ⟨_, _, ⟨0, [], rfl, rfl, Nat.zero_le _, rfl, by simp [nodesNs]⟩, (by repeat (first | exact trivial | refine ⟨rfl, ?_⟩)), (by repeat (first | exact List.Sublist.refl _ | refine List.Sublist.cons _ ?_))⟩ ?_
    rintro m _ ⟨j, ys, rfl, rfl, hj, hyl, hys⟩
    have hlen : (f.kids.map Fcells).length = f.kids.length := List.length_map _
    refine CW.seq ?_
    refine CW.region ?_
    refine OL.popC rfl rfl rfl (POp.cmp rfl rfl rfl rfl rfl rfl) ?_
    refine OL.nil ?_
    refine Done.seq ?_
    refine CW.seq ?_
    refine CW.cond rfl (fun h1 => ?_) (fun h1 => ?_)
    ·
      try simp only [decide_eq_true_eq, decide_eq_false_iff_not, beq_iff_eq, bne_iff_ne, ne_eq, Int.not_lt, Int.not_le, beq_eq_false_iff_ne, gt_iff_lt, ge_iff_le, Bool.not_eq_true, Bool.not_eq_false, Bool.not_eq_false', bne_eq_false_iff_eq] at h1
      rw [hlen] at h1
      have hjl : j < f.kids.length := by omega
      have hnt := nodesNs_take hjl
      have hle := nodesNs_le (l := f.kids) (j + 1)
      have hkm : f.kids.getD j default ∈ f.kids := getD_mem hjl
      have hdr : putsF y (f.kids.drop j) (i - 1 - nodesNs (f.kids.take j)) = putF y (f.kids.getD j default) (i - 1 - nodesNs (f.kids.take j)) :: putsF y (f.kids.drop (j + 1)) (i - 1 - nodesNs (f.kids.take j) - nodesN (f.kids.getD j default)) := by rw [List.drop_eq_getElem_cons hjl, putsF, getD_lt hjl]
      refine CW.skip ?_
      refine Done.seq ?_
      refine CW.seq ?_
      refine CW.block ?_
      refine CW.seq ?_
      refine CW.region ?_
      refine OL.popC rfl rfl rfl (POp.move rfl rfl rfl) ?_
      refine OL.popC rfl rfl rfl (POp.ixC rfl rfl rfl rfl rfl (by omega)) ?_
      refine OL.popC rfl rfl rfl (POp.ldAH rfl rfl rfl (.head _) (put_cell hyl hjl) rfl) ?_
      refine OL.alC rfl rfl rfl rfl (fun b2 => ?_)
      refine OL.popC rfl rfl rfl (POp.assign rfl rfl rfl) ?_
      apply OL.stoC rfl rfl rfl rfl rfl rfl rfl rfl rfl rfl
      (case hu => repeat (first | exact Upd.head _ _ _ | apply Upd.tail)); (case hfit => rfl); (case hds => rfl)
      refine OL.nil ?_
      refine Done.seq ?_
      refine CW.seq ?_
      refine CW.region ?_
      refine OL.popC rfl rfl rfl ((by first | exact POp.ldA rfl rfl rfl rfl | (apply POp.ldAH rfl rfl rfl; (case hm => repeat (first | exact .head _ | refine .tail _ ?_)); (case hy => rfl); (case hn => rfl)))) ?_
      refine OL.popC rfl rfl rfl (POp.move rfl rfl rfl) ?_
      refine OL.popC rfl rfl rfl (POp.move rfl rfl rfl) ?_
      refine OL.popC rfl rfl rfl (POp.arith rfl rfl rfl rfl rfl rfl (wrap64 (by omega))) ?_
      rw [show i - ((1 + nodesNs (f.kids.take j) : Nat) : Int) = i - 1 - nodesNs (f.kids.take j) by omega]
      refine OL.popC rfl rfl rfl ((by first | exact POp.ldA rfl rfl rfl rfl | (apply POp.ldAH rfl rfl rfl; (case hm => repeat (first | exact .head _ | refine .tail _ ?_)); (case hy => rfl); (case hn => rfl)))) ?_
      refine OL.popC rfl rfl rfl (POp.call (.mk' rfl rfl rfl rfl rfl) (ih _ hkm _ (by omega))) ?_
      refine OL.popC rfl rfl rfl (POp.move rfl rfl rfl) ?_
      refine OL.popC rfl rfl rfl (POp.extract rfl rfl rfl rfl) ?_
      refine OL.popC rfl rfl rfl (POp.extract rfl rfl rfl rfl) ?_
      refine OL.alC rfl rfl rfl rfl (fun b3 => ?_)
      apply OL.stoC rfl rfl rfl rfl rfl rfl rfl rfl rfl rfl
      (case hu => repeat (first | exact Upd.head _ _ _ | apply Upd.tail)); (case hfit => rfl); (case hds => rfl)
      refine OL.popC rfl rfl rfl (POp.assign rfl rfl rfl) ?_
      refine OL.nil ?_
      refine Done.seq ?_
      refine CW.seq ?_
      refine CW.region ?_
      refine OL.popC rfl rfl rfl ((by first | exact POp.fa rfl rfl rfl rfl | exact POp.faP rfl rfl rfl rfl)) ?_
      refine OL.popC rfl rfl rfl ((by first | exact POp.ld1 rfl rfl rfl rfl | (apply POp.ld1H rfl rfl rfl; (case hm => repeat (first | exact .head _ | refine .tail _ ?_)); (case hy => rfl)))) ?_
      refine OL.popC rfl rfl rfl (POp.move rfl rfl rfl) ?_
      refine OL.popC rfl rfl rfl ((by first | exact POp.ldA rfl rfl rfl rfl | (apply POp.ldAH rfl rfl rfl; (case hm => repeat (first | exact .head _ | refine .tail _ ?_)); (case hy => rfl); (case hn => rfl)))) ?_
      refine OL.popC rfl rfl rfl (POp.ixC rfl rfl rfl rfl rfl (by omega)) ?_
      apply OL.stoC rfl rfl rfl rfl rfl rfl rfl rfl rfl rfl
      (case hu => repeat (first | exact Upd.head _ _ _ | apply Upd.tail)); (case hfit => exact Nat.ble_eq_true_of_le (by simp only [List.length_append, flat_len, bcells, fc_len, List.length_drop]; omega)); (case hds => exact put_set hyl hjl _)
      refine OL.nil ?_
      refine Done.seq ?_
      refine CW.region ?_
      refine OL.popC rfl rfl rfl (POp.move rfl rfl rfl) ?_
      refine OL.popC rfl rfl rfl (POp.move rfl rfl rfl) ?_
      refine OL.popC rfl rfl rfl (POp.arith rfl rfl rfl rfl rfl rfl (wrap64 (by omega))) ?_
      refine OL.popC rfl rfl rfl (POp.assign rfl rfl rfl) ?_
      refine OL.nil ?_
      refine Done.blkNormal ?_
      refine Done.seq ?_
      refine CW.le 10 (y := .i (1 + nodesNs (f.kids.take (j + 1)) : Nat)) rfl (AVle.eqI (by omega)) ?_
      refine CW.region ?_
      refine OL.popC rfl rfl rfl (POp.arith rfl rfl rfl rfl rfl rfl (wrap64 (by omega))) ?_
      refine OL.popC rfl rfl rfl (POp.move rfl rfl rfl) ?_
      refine OL.nil ?_
      refine Done.againJ (⟨j + 1, ys ++ [putF y (f.kids.getD j default) (i - 1 - nodesNs (f.kids.take j))], rfl, rfl, by omega, by simp; omega, by rw [← hys, hdr, hnt, List.append_assoc, List.singleton_append, show i - 1 - ((nodesNs (f.kids.take j) + nodesN (f.kids.getD j default) : Nat) : Int) = i - 1 - nodesNs (f.kids.take j) - nodesN (f.kids.getD j default) by omega]⟩) ?_ ?_ ?_
      · omega
      · repeat (first | exact trivial | refine ⟨rfl, ?_⟩)
      · repeat (first | exact List.Sublist.refl _ | refine List.Sublist.cons _ ?_)
    ·
      try simp only [decide_eq_true_eq, decide_eq_false_iff_not, beq_iff_eq, bne_iff_ne, ne_eq, Int.not_lt, Int.not_le, beq_eq_false_iff_ne, gt_iff_lt, ge_iff_le, Bool.not_eq_true, Bool.not_eq_false, Bool.not_eq_false', bne_eq_false_iff_eq] at h1
      rw [hlen] at h1
      obtain rfl : j = f.kids.length := by omega
      rw [List.drop_length, putsF, List.append_nil] at hys
      refine CW.perm (H' := .blk kb 29 (((ys ++ f.kids.drop f.kids.length).map Fcells).flatten ++ more) :: .blk b0 29 [.i f.op, .i f.arg, AV.ints f.path, .i f.cls, .i f.n, .val (.slice (some ⟨kb, 0, none⟩) (f.kids.map Fcells).length cap)] :: .blk b1 29 [.i 0, .i 0, .val (.slice none 0 0), .i 0, .i 0, .val (.slice none 0 0)] :: H) (.cons _ (.swap _ _ _)) ?_
      refine CW.eqH (H' := .blk kb 29 ((encFs ys).flatten ++ more) :: .blk b0 29 ([.i f.op, .i f.arg, AV.ints f.path, .i f.cls, .i f.n] ++ .val (.slice (some ⟨kb, 0, none⟩) (f.kids.map Fcells).length cap) :: []) :: .blk b1 29 [.i 0, .i 0, .val (.slice none 0 0), .i 0, .i 0, .val (.slice none 0 0)] :: H) (by rw [encFs_map, List.drop_length, List.append_nil]; rfl) ?_
      refine CW.freezeCell (k := 6) (by rw [encFs_map, List.length_map, hlen, hyl]) (by rw [encFs_map]; simp [fc_len]) hc1 hc2 ?_
      refine CW.exit ?_
      refine Done.thenExit ?_
      refine Done.thenExit ?_
      refine Done.blkExit ?_
      refine Done.seq ?_
      refine CW.seq ?_
      refine CW.region ?_
      refine OL.popC rfl rfl rfl ((by first | exact POp.ldA rfl rfl rfl rfl | (apply POp.ldAH rfl rfl rfl; (case hm => repeat (first | exact .head _ | refine .tail _ ?_)); (case hy => rfl); (case hn => rfl)))) ?_
      refine OL.popC rfl rfl rfl (POp.move rfl rfl rfl) ?_
      apply OL.stoC rfl rfl rfl rfl rfl rfl rfl rfl rfl rfl
      (case hu => repeat (first | exact Upd.head _ _ _ | apply Upd.tail)); (case hfit => rfl); (case hds => rfl)
      refine OL.popC rfl rfl rfl (POp.assign rfl rfl rfl) ?_
      refine OL.nil ?_
      refine Done.seq ?_
      refine CW.ret ?_
      refine Done.retR (rs := [.cell 6 29, .tmp 7]) (H' := H) rfl ((by first | exact .cellA inferInstance rfl (by repeat (first | exact .head _ | refine .tail _ ?_)) rfl rfl (.tmp rfl (.nil)) | exact .ptrA inferInstance rfl rfl (.tmp rfl (.nil)))) (AVleL.refl _) (by repeat (first | exact List.Sublist.refl _ | refine List.Sublist.cons _ ?_)) ?_
      exact ⟨by rw [putF_ne hi, ← hys, hnf, List.take_length]; rfl, rfl⟩
theorem p147_zero (y f : Fact) (h : PCall Tryz.prog 147 [AV.fact f, .i (-1), AV.fact y] (.tup [AV.fact (putF y f (-1)), .i (nodesN f)])) : PCall Tryz.prog 147 [AV.fact f, .i 0, AV.fact y] (.tup [AV.fact (putF y f 0), .i (nodesN f)]) := by
  intro H
  refine ACall.mk' (n := 57) Tryz.func147 rfl (by kernel_rfl) rfl rfl (fun B I w0 => ?_)
  refine CW.seq ?_
  refine CW.region ?_
  refine OL.boxC rfl rfl rfl rfl rfl rfl rfl (fun b0 => ?_)
  refine OL.popC rfl rfl rfl (POp.boxI rfl rfl rfl rfl) ?_
  refine OL.alC rfl rfl rfl rfl (fun b1 => ?_)
  refine OL.popC rfl rfl rfl (POp.assign rfl rfl rfl) ?_
  refine OL.nil ?_
  refine Done.seq ?_
  refine CW.seq ?_
  refine CW.seq ?_
  refine CW.region ?_
  refine OL.popC rfl rfl rfl (POp.move rfl rfl rfl) ?_
  refine OL.popC rfl rfl rfl (POp.cmp rfl rfl rfl rfl rfl rfl) ?_
  refine OL.nil ?_
  refine Done.seq ?_
  refine CW.cond rfl (fun h0 => ?_) (fun h0 => ?_)
  ·
    skip
    refine CW.seq ?_
    refine CW.region ?_
    refine OL.popC rfl rfl rfl ((by first | exact POp.ldA rfl rfl rfl rfl | (apply POp.ldAH rfl rfl rfl; (case hm => repeat (first | exact .head _ | refine .tail _ ?_)); (case hy => rfl); (case hn => rfl)))) ?_
    refine OL.popC rfl rfl rfl ((by first | exact POp.ldA rfl rfl rfl rfl | (apply POp.ldAH rfl rfl rfl; (case hm => repeat (first | exact .head _ | refine .tail _ ?_)); (case hy => rfl); (case hn => rfl)))) ?_
    refine OL.popC rfl rfl rfl (POp.call (.mk' rfl rfl rfl rfl rfl) (h)) ?_
    refine OL.popC rfl rfl rfl (POp.move rfl rfl rfl) ?_
    refine OL.popC rfl rfl rfl (POp.extract rfl rfl rfl rfl) ?_
    refine OL.popC rfl rfl rfl (POp.extract rfl rfl rfl rfl) ?_
    refine OL.alC rfl rfl rfl rfl (fun b2 => ?_)
    apply OL.stoC rfl rfl rfl rfl rfl rfl rfl rfl rfl rfl
    (case hu => repeat (first | exact Upd.head _ _ _ | apply Upd.tail)); (case hfit => rfl); (case hds => rfl)
    refine OL.popC rfl rfl rfl (POp.assign rfl rfl rfl) ?_
    refine OL.nil ?_
    refine Done.seq ?_
    refine CW.seq ?_
    refine CW.region ?_
    refine OL.popC rfl rfl rfl ((by first | exact POp.ldA rfl rfl rfl rfl | (apply POp.ldAH rfl rfl rfl; (case hm => repeat (first | exact .head _ | refine .tail _ ?_)); (case hy => rfl); (case hn => rfl)))) ?_
    refine OL.popC rfl rfl rfl (POp.move rfl rfl rfl) ?_
    apply OL.stoC rfl rfl rfl rfl rfl rfl rfl rfl rfl rfl
    (case hu => repeat (first | exact Upd.head _ _ _ | apply Upd.tail)); (case hfit => rfl); (case hds => rfl)
    refine OL.popC rfl rfl rfl (POp.assign rfl rfl rfl) ?_
    refine OL.nil ?_
    refine Done.seq ?_
    refine CW.ret ?_
    refine Done.thenRet ?_
    refine Done.retR (rs := [.cell 6 29, .tmp 7]) (H' := H) rfl ((by first | exact .cellA inferInstance rfl (by repeat (first | exact .head _ | refine .tail _ ?_)) rfl rfl (.tmp rfl (.nil)) | exact .ptrA inferInstance rfl rfl (.tmp rfl (.nil)))) (AVleL.refl _) (by repeat (first | exact List.Sublist.refl _ | refine List.Sublist.cons _ ?_)) ?_
    exact ⟨by rw [putF_zero]; rfl, rfl⟩
  ·
    exact absurd h0 (by simp)
theorem p147 (y : Fact) : ∀ f : Fact, nodesN f ≤ 1000 → ∀ i : Int, i ≤ 1000000 ∧ -1000000 ≤ i - nodesN f → PCall Tryz.prog 147 [AV.fact f, .i i, AV.fact y] (.tup [AV.fact (putF y f i), .i (nodesN f)]) := by
  refine Fact.ind1 fun f ih hn i hi => ?_
  have hk1 : ∀ l : List Fact, ∀ k ∈ l, nodesN k ≤ nodesNs l := by
    intro l
    induction l with
    | nil => intro k hk; cases hk
    | cons x r ihr => intro k hk; rw [nodesNs]; rcases List.mem_cons.1 hk with rfl | hk; omega; have := ihr k hk; omega
  have hk2 : ∀ k ∈ f.kids, nodesN k ≤ 1000 := fun k hk => by have := hk1 f.kids k hk; rw [nodesN_eq] at hn; omega
  have ne : ∀ i : Int, ¬ i = 0 → i ≤ 1000000 ∧ -1000000 ≤ i - nodesN f → PCall Tryz.prog 147 [AV.fact f, .i i, AV.fact y] (.tup [AV.fact (putF y f i), .i (nodesN f)]) := by
    intro i h0 hi
    by_cases hk : f.kids = []
    · exact p147_leaf y f hk i h0 hi
    · exact p147_node y f hk hn (fun k hkm i hi => ih k hkm (hk2 k hkm) i hi) i h0 hi
  by_cases h0 : i = 0
  · subst h0; exact p147_zero y f (ne (-1) (by omega) (by omega))
  · exact ne i h0 hi
end Go.Proofs.YtiljpbljebfhnaaGreat

set_option linter.unusedVariables false
set_option linter.unusedSimpArgs false
set_option maxRecDepth 10000
namespace Go.Proofs.YtiljpbljebfhnaaGreat
open Go.Eng
open Go.Eng.Fc
def EvR (J Jx : List Fact → List Ent → Prop) (pre l : List Fact) (Hx : List Ent) (y : AV) (H' : List Ent) : Prop :=
  ∃ b H1, y = .b b ∧ H' = H1 ++ Hx ∧ (b = false → J (pre ++ l) H1) ∧ (b = true → ∃ q, q <+: l ∧ Jx (pre ++ q) H1)
mutual
def nodesL : Fact → List Fact
  | .mk op arg path cls n kids => .mk op arg path cls n kids :: nodesLs kids
def nodesLs : List Fact → List Fact
  | [] => []
  | k :: r => nodesL k ++ nodesLs r
end
theorem nodesLs_flat : ∀ l : List Fact, nodesLs l = l.flatMap nodesL
  | [] => rfl
  | k :: r => by rw [nodesLs, nodesLs_flat r]; simp
theorem nodesL_eq (f : Fact) : nodesL f = f :: f.kids.flatMap nodesL := by cases f; rw [nodesL, nodesLs_flat]; rfl
theorem e76 {B : Nat} {f : Fn} {fs cs : List AV} {F : List Ent → Prop} {J Jx : List Fact → List Ent → Prop} {l : List Fact} (hg : FindOk B Tryz.prog (.fn f fs cs) AV.fact l F J Jx) (H Hx : List Ent) (hF : F Hx) (hJ : J [] H) :
    BCall B Tryz.prog 76 [AV.facts l, .fn f fs cs] (H ++ Hx) (EvR J Jx [] l Hx) (fun _ => False) := by
  refine BCall.of (n := 9) Tryz.func76 rfl (by kernel_rfl) rfl rfl (fun I w0 => ?_)
  refine CW.seq ?_
  refine CW.region ?_
  refine OL.popC rfl rfl rfl (POp.assign rfl rfl rfl) ?_
  refine OL.nil ?_
  refine Done.seq ?_
  refine CW.seq ?_
  refine CW.region ?_
  refine OL.popC rfl rfl rfl (POp.move rfl rfl rfl) ?_
  refine OL.popC rfl rfl rfl (POp.move rfl rfl rfl) ?_
  refine OL.bcallC rfl rfl rfl (.mk' rfl rfl rfl rfl rfl) (b130 l hg H Hx hF hJ) ?_
  rintro y H1 ⟨H2, rfl, ⟨rfl, hr⟩ | ⟨q, x, rest, hl, rfl, hr⟩⟩
  ·
    skip
    refine OL.popC rfl rfl rfl (POp.cmp rfl rfl rfl rfl rfl rfl) ?_
    refine OL.popC rfl rfl rfl (POp.assign rfl rfl rfl) ?_
    refine OL.nil ?_
    refine Done.seq ?_
    refine CW.ret ?_
    refine Done.retR (rs := [.tmp 4]) (H' := H2 ++ Hx) rfl (.tmp rfl (.nil)) (AVleL.refl _) (by exact List.Sublist.refl _) ?_
    exact ⟨false, H2, rfl, rfl, (fun _ => hr), (fun h => by cases h)⟩
  ·
    skip
    refine OL.popC rfl rfl rfl (POp.cmp rfl rfl rfl rfl rfl rfl) ?_
    refine OL.popC rfl rfl rfl (POp.assign rfl rfl rfl) ?_
    refine OL.nil ?_
    refine Done.seq ?_
    refine CW.ret ?_
    refine Done.retR (rs := [.tmp 4]) (H' := H2 ++ Hx) rfl (.tmp rfl (.nil)) (AVleL.refl _) (by exact List.Sublist.refl _) ?_
    exact ⟨true, H2, by show AV.b (decide _) = _; first | (congr 1; done) | (congr 1; simp), rfl, (fun h => by cases h), fun _ => ⟨q ++ [x], ⟨rest, by rw [hl]; simp⟩, by simpa using hr⟩⟩
theorem b191 {B : Nat} {g : Fn} {gs gc : List AV} {J Jx : List Fact → List Ent → Prop} {pre l : List Fact} {k : Fact} {H Hx : List Ent} (h : BCall B Tryz.prog 144 [AV.fact k, .fn g gs gc] (H ++ Hx) (EvR J Jx pre l Hx) (fun _ => False)) :
    BCall B Tryz.prog 191 [AV.fact k, .ptr [.fn g gs gc]] (H ++ Hx) (EvR J Jx pre l Hx) (fun _ => False) := by
  refine BCall.of (n := 7) Tryz.func191 rfl (by kernel_rfl) rfl rfl (fun I w0 => ?_)
  refine CW.seq ?_
  refine CW.region ?_
  refine OL.popC rfl rfl rfl (POp.boxI rfl rfl rfl rfl) ?_
  refine OL.popC rfl rfl rfl (POp.assign rfl rfl rfl) ?_
  refine OL.nil ?_
  refine Done.seq ?_
  refine CW.seq ?_
  refine CW.region ?_
  refine OL.popC rfl rfl rfl ((by first | exact POp.ldA rfl rfl rfl rfl | (apply POp.ldAH rfl rfl rfl; (case hm => repeat (first | exact .head _ | refine .tail _ ?_)); (case hy => rfl); (case hn => rfl)))) ?_
  refine OL.popC rfl rfl rfl ((by first | exact POp.ld1 rfl rfl rfl rfl | (apply POp.ld1H rfl rfl rfl; (case hm => repeat (first | exact .head _ | refine .tail _ ?_)); (case hy => rfl)))) ?_
  refine OL.bcallC rfl rfl rfl (.mk' rfl rfl rfl rfl rfl) (h) ?_
  rintro y H1 ⟨b, H2, rfl, rfl, e1, e2⟩
  refine OL.popC rfl rfl rfl (POp.assign rfl rfl rfl) ?_
  refine OL.nil ?_
  refine Done.seq ?_
  refine CW.ret ?_
  refine Done.retR (rs := [.tmp 3]) (H' := H2 ++ Hx) rfl (.tmp rfl (.nil)) (AVleL.refl _) (by exact List.Sublist.refl _) ?_
  exact ⟨b, H2, rfl, rfl, e1, e2⟩
theorem every_two {J Jx : List Fact → List Ent → Prop} {pre : List Fact} {f : Fact} {Hx H2 H' : List Ent} {y : AV} {b : Bool} (e1 : b = false → J (pre ++ [f]) H2) (e2 : b = true → Jx (pre ++ [f]) H2)
    (hy1 : (!b) = true → EvR (fun ks H => J (pre ++ [f] ++ ks.flatMap nodesL) H) (fun ks H => ∃ q, q <+: ks.flatMap nodesL ∧ Jx (pre ++ [f] ++ q) H) [] f.kids Hx y H') (hy2 : (!b) = false → y = .b false ∧ H' = H2 ++ Hx) :
    ∃ b2 H3, y = .b b2 ∧ H' = H3 ++ Hx ∧ ((bif b then true else b2) = false → J (pre ++ nodesL f) H3) ∧ ((bif b then true else b2) = true → ∃ q, q <+: nodesL f ∧ Jx (pre ++ q) H3) := by
  cases b with
  | true =>
    obtain ⟨rfl, rfl⟩ := hy2 rfl
    exact ⟨false, H2, rfl, rfl, (fun h => by cases h), fun _ => ⟨[f], by rw [nodesL_eq]; exact ⟨_, rfl⟩, e2 rfl⟩⟩
  | false =>
    obtain ⟨b2, H3, rfl, rfl, q1, q2⟩ := hy1 rfl
    refine ⟨b2, H3, rfl, rfl, fun h => ?_, fun h => ?_⟩
    · have := q1 h
      rw [nodesL_eq]; simpa using this
    · obtain ⟨ks, hks, q, hq, hx⟩ := q2 h
      refine ⟨f :: q, ?_, by simpa using hx⟩
      rw [nodesL_eq]
      obtain ⟨r, hr⟩ := hks
      refine List.prefix_cons_inj _ |>.2 (hq.trans ?_)
      rw [← hr]; simp
theorem flat_prefix {L pre : List Fact} {f : Fact} {ks : List Fact} {k : Fact} (hL : pre ++ nodesL f <+: L) (hp : ks ++ [k] <+: f.kids) : pre ++ [f] ++ ks.flatMap nodesL ++ nodesL k <+: L := by
  refine List.IsPrefix.trans ?_ hL
  obtain ⟨r, hr⟩ := hp
  rw [nodesL_eq f, ← hr]
  exact ⟨r.flatMap nodesL, by simp⟩
theorem b144_step {B : Nat} {g : Fn} {gs gc : List AV} {L : List Fact} {F : List Ent → Prop} {J Jx : List Fact → List Ent → Prop} (hg : FindOk B Tryz.prog (.fn g gs gc) AV.fact L F J Jx) (f : Fact)
    (ih : ∀ k ∈ f.kids, ∀ pre, pre ++ nodesL k <+: L → ∀ H Hx, F Hx → J pre H → BCall B Tryz.prog 144 [AV.fact k, .fn g gs gc] (H ++ Hx) (EvR J Jx pre (nodesL k) Hx) (fun _ => False)) (pre : List Fact) (hL : pre ++ nodesL f <+: L) (H Hx : List Ent) (hF : F Hx) (hJ : J pre H) :
    BCall B Tryz.prog 144 [AV.fact f, .fn g gs gc] (H ++ Hx) (EvR J Jx pre (nodesL f) Hx) (fun _ => False) := by
  have hcl : FindOk B Tryz.prog (.fn (.func 191) [] [.ptr [.fn g gs gc]]) AV.fact f.kids F (fun ks H => J (pre ++ [f] ++ ks.flatMap nodesL) H) (fun ks H => ∃ q, q <+: ks.flatMap nodesL ∧ Jx (pre ++ [f] ++ q) H) := by
    intro ks k H1 Hy hp hF1 hJ1
    refine VCall.mono (VCall.fnB (b191 (ih k (hp.subset (by simp)) _ (flat_prefix hL hp) H1 Hy hF1 hJ1))) ?_ (fun _ h => h)
    rintro y H' ⟨b, H2, rfl, rfl, e1, e2⟩
    exact ⟨b, H2, rfl, rfl, fun h => by simpa using e1 h, fun h => by obtain ⟨q, hq, hx⟩ := e2 h; exact ⟨ks.flatMap nodesL ++ q, by simp; exact hq, by simpa using hx⟩⟩
  refine BCall.of (n := 14) Tryz.func144 rfl (by kernel_rfl) rfl rfl (fun I w0 => ?_)
  refine CW.seq ?_
  refine CW.region ?_
  refine OL.popC rfl rfl rfl (POp.boxI rfl rfl rfl rfl) ?_
  refine OL.popC rfl rfl rfl (POp.boxI rfl rfl rfl rfl) ?_
  refine OL.popC rfl rfl rfl (POp.assign rfl rfl rfl) ?_
  refine OL.nil ?_
  refine Done.seq ?_
  refine CW.seq ?_
  refine CW.region ?_
  refine OL.popC rfl rfl rfl ((by first | exact POp.ld1 rfl rfl rfl rfl | (apply POp.ld1H rfl rfl rfl; (case hm => repeat (first | exact .head _ | refine .tail _ ?_)); (case hy => rfl)))) ?_
  refine OL.popC rfl rfl rfl ((by first | exact POp.ldA rfl rfl rfl rfl | (apply POp.ldAH rfl rfl rfl; (case hm => repeat (first | exact .head _ | refine .tail _ ?_)); (case hy => rfl); (case hn => rfl)))) ?_
  refine OL.vcallC rfl rfl rfl rfl rfl rfl rfl rfl (AVleL.refl _) (hg pre f H Hx ((show pre ++ [f] <+: pre ++ nodesL f by rw [nodesL_eq]; exact ⟨f.kids.flatMap nodesL, by simp⟩).trans hL) hF hJ) ?_
  rintro y H1 ⟨b, H2, rfl, rfl, e1, e2⟩
  refine OL.popC rfl rfl rfl (POp.move rfl rfl rfl) ?_
  refine OL.guardC rfl rfl rfl rfl rfl rfl (fun hg => (by first | exact POp.fa rfl rfl rfl rfl | exact POp.faP rfl rfl rfl rfl)) ?_
  refine OL.guardC rfl rfl rfl rfl rfl rfl (fun hg => (by first | exact POp.ld1 rfl rfl (by first | rfl | exact hg | exact (Bool.and_eq_true_iff.1 hg).1 | exact (Bool.and_eq_true_iff.1 (Bool.and_eq_true_iff.1 hg).1).1 | simp_all) rfl | (apply POp.ld1H rfl rfl (by first | rfl | exact hg | exact (Bool.and_eq_true_iff.1 hg).1 | exact (Bool.and_eq_true_iff.1 (Bool.and_eq_true_iff.1 hg).1).1 | simp_all); (case hm => repeat (first | exact .head _ | refine .tail _ ?_)); (case hy => rfl)))) ?_
  refine OL.guardC rfl rfl rfl rfl rfl rfl (fun hg => POp.makeFunc rfl rfl rfl (by first | rfl | simp_all [strip]) (by first | rfl | simp_all [strip])) ?_
  refine OL.bcallG rfl rfl rfl rfl rfl rfl (fun hg => .mk' rfl rfl rfl rfl (by simp_all [strip])) (fun hg1 => e76 hcl H2 Hx hF (by simpa using e1 (by simpa using hg1))) ?_
  intro y H' hy1 hy2
  obtain ⟨b2, H3, rfl, rfl, r1, r2⟩ := every_two e1 e2 hy1 hy2
  refine OL.popC rfl rfl rfl (POp.pick rfl rfl rfl rfl rfl (fun _ => rfl) (by first | exact fun h => h | (intro h; rw [h]; rfl) | (intro h; simp_all))) ?_
  refine OL.popC rfl rfl rfl (POp.assign rfl rfl rfl) ?_
  refine OL.nil ?_
  refine Done.seq ?_
  refine CW.ret ?_
  refine Done.retR (rs := [.tmp 4]) (H' := H3 ++ Hx) rfl (.tmp rfl (.nil)) (AVleL.refl _) (by exact List.Sublist.refl _) ?_
  exact ⟨_, H3, rfl, rfl, r1, r2⟩
theorem b144 {B : Nat} {g : Fn} {gs gc : List AV} {L : List Fact} {F : List Ent → Prop} {J Jx : List Fact → List Ent → Prop} (hg : FindOk B Tryz.prog (.fn g gs gc) AV.fact L F J Jx) : ∀ f : Fact, ∀ pre, pre ++ nodesL f <+: L → ∀ H Hx, F Hx → J pre H →
    BCall B Tryz.prog 144 [AV.fact f, .fn g gs gc] (H ++ Hx) (EvR J Jx pre (nodesL f) Hx) (fun _ => False) :=
  Fact.ind1 fun f ih pre hL H Hx hF hJ => b144_step hg f ih pre hL H Hx hF hJ
end Go.Proofs.YtiljpbljebfhnaaGreat
