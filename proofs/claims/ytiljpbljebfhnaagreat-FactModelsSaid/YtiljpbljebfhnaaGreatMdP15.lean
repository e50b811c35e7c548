/- Part 15 of the proof: contracts of functions of the program and what they need. No condition beyond those that each theorem names. -/
import Derived.Test.YtiljpbljebfhnaaGreatMdP14
set_option linter.unusedVariables false
set_option linter.unusedSimpArgs false
set_option maxRecDepth 10000
namespace Go.Proofs.YtiljpbljebfhnaaGreat
open Go.Eng
open Go.Eng.Fc
def goV (W : FW) (kn : K2) (a : Int) (st : List Int × Option Val) (r : List Int) : Option Val := (r.foldl (fun (st : List Int × Option Val) s => (st.1 ++ [s], st.2.bind fun v => stepV W kn a st.1 v s)) st).2
theorem goV_none {W : FW} {kn : K2} {a : Int} : ∀ (r p : List Int), goV W kn a (p, none) r = none
 | [], _ => rfl
 | s :: r, p => goV_none r (p ++ [s])
theorem goV_cons (W : FW) (kn : K2) (a : Int) (p : List Int) (v : Val) (s : Int) (r : List Int) : goV W kn a (p, some v) (s :: r) = goV W kn a (p ++ [s], stepV W kn a p v s) r := rfl
def Same (W : FW) (kn : K2) (a : Int) (bits : List Nat) (os : Obs) (u : Int × Int) (st : List Int × Option Val) (r : List Int) : Prop :=
 ((atP (moreW W bits) os u r).2 = true ∧ ∃ v, goV W kn a st r = some v ∧ SameV W bits os (atP (moreW W bits) os u r).1 v) ∨ ((atP (moreW W bits) os u r).2 = false ∧ goV W kn a st r = none)
theorem dead_same (W : FW) (kn : K2) (a : Int) (bits : List Nat) (os : Obs) (p : List Int) : ∀ r, Same W kn a bits os (2, 0) (p, some .non) r
 | [] => .inl ⟨rfl, .non, rfl, rfl⟩
 | s :: r => .inr ⟨rfl, by rw [goV_cons]; exact goV_none r _⟩
theorem idx_in {l : List Int} {v : Int} (h : v ∈ l) : ∃ j : Nat, idxP l v = j ∧ l[j]? = some v := by
 unfold idxP
 cases hf : l.findIdx? (fun x => x == v) with
 | none => have := List.findIdx?_eq_none_iff.1 hf v h; simp at this
 | some i =>
  obtain ⟨h1, h2, _⟩ := List.findIdx?_eq_some_iff_getElem.1 hf
  exact ⟨i, rfl, by rw [List.getElem?_eq_getElem h1]; simpa using h2⟩
theorem walk_same {W : FW} {c : List FLit} (h : LsOk W c) {a : Int} {bits : List Nat} {os : Obs} (hl : W.parents.length + bits.length ≤ 60) : ∀ (r : List Int) {lo d : Nat} {p : List Int} {u : Int × Int}, p.length + d = 2 → Stands W (stageK c) a bits os lo d p u → canAt W (stage2 c) a p = true → (∀ s ∈ r, 0 ≤ s ∧ s < W.owner.length) →
  Same W (stage2 c) a bits os u (p, some (vAt W (stage2 c) a p)) r
 | [], lo, d, p, u, hd, hs, hc, _ => .inl ⟨rfl, _, rfl, stands_same h hl hd hs hc⟩
 | s :: r, lo, d, p, u, hd, hs, hc, hr => by
  have hk := stage_rep h.ok a p (by omega)
  have hca := hc
  rw [can_at h (by omega)] at hca
  have hsr := hr s (.head _)
  unfold Stands at hs
  rw [intK_stage h.ok (by omega), noneK_stage h.ok (by omega), hk, obj_stage h.ok d p hd] at hs
  rcases hs with ⟨h1, h2⟩ | ⟨h1, h2, h3⟩ | ⟨h1, h2, i, cl, sl, h3, h4, h5, h6, h7, h8⟩
  ·refine .inr ⟨by subst h2; rfl, ?_⟩
   rw [goV_cons]
   unfold vAt; rw [if_pos h1]; exact goV_none r _
  ·refine .inr ⟨by subst h3; rfl, ?_⟩
   rw [goV_cons]
   unfold vAt; rw [if_neg (by rw [h1]; simp), if_pos h2]; exact goV_none r _
  ·rw [h1, h2, Bool.false_or, Bool.false_or] at hca
   obtain ⟨q1, q2⟩ := obj_closed h hca
   have hf := obj_f h hca
   have hv : vAt W (stage2 c) a p = .obj fun c' => c' == 0 || (objAt W (stage2 c) a p).1.testBit c' := by
    unfold vAt; rw [if_neg (by rw [h1]; simp), if_neg (by rw [h2]; simp)]
   have e : clsAt os u = cl := by rw [clsAt, h3, Int.toNat_natCast, List.getD_eq_getElem?_getD, h5]; rfl
   have ho := owner_ok h.w (i := s.toNat) (by omega)
   have hn0 : (ownerN W s == 0) = false := beq_eq_false_iff_ne.2 (by rw [ownerN]; omega)
   have hok : okO (moreW W bits) os u s = (objAt W (stage2 c) a p).1.testBit (ownerN W s) := by
    rw [okO, e, has_owns h.w hl h6 q1 q2 hsr, h3]; rfl
   unfold Same
   rw [goV_cons, hv]
   have hst : stepV W (stage2 c) a p (.obj fun c' => c' == 0 || (objAt W (stage2 c) a p).1.testBit c') s = if (objAt W (stage2 c) a p).1.testBit (ownerN W s) = true then (if (stage2 c a p).slots.contains s = true then some (vAt W (stage2 c) a (p ++ [s])) else some .non) else none := by
    simp only [stepV, hn0, Bool.false_or, decide_eq_true hsr.1, decide_eq_true hsr.2, Bool.true_and]
   rw [hst]
   cases hb : (objAt W (stage2 c) a p).1.testBit (ownerN W s) with
   | false =>
    refine .inr ⟨?_, by rw [if_neg (by simp)]; exact goV_none r _⟩
    rw [atP, hok, hb]; rfl
   | true =>
    rw [if_pos rfl, atP, hok, hb, if_pos rfl]
    have hmem : s ∈ slotsOf (moreW W bits) cl := by
     rw [slots_owns h.w hl h6 q1 q2]
     refine List.mem_map.2 ⟨s.toNat, List.mem_filter.2 ⟨List.mem_range.2 (by omega), hb⟩, by omega⟩
    obtain ⟨j, hj1, hj2⟩ := idx_in hmem
    rw [slots_owns h.w hl h6 q1 q2, List.getElem?_map] at hj2
    obtain ⟨k, hk1, hk2⟩ := Option.map_eq_some_iff.1 hj2
    have hjl := (List.getElem?_eq_some_iff.1 hk1).1
    have hst2 : stepO (moreW W bits) os u s = sl.getD j default := by
     rw [stepO, e, hj1, h3, Int.toNat_natCast, Int.toNat_natCast, List.getD_eq_getElem?_getD (l := os), h5]; rfl
    rw [hst2]
    have h9 := h8 j k (sl.getD j default) hk1 (by rw [List.getD_eq_getElem?_getD, List.getElem?_eq_getElem (by omega)]; rfl)
    generalize sl.getD j default = w at h9
    have hrr : ∀ x ∈ r, 0 ≤ x ∧ x < W.owner.length := fun x hx => hr x (.tail _ hx)
    cases d with
    | zero =>
     have hno : (stage2 c a p).slots.contains s = false := by
      cases hx : (stage2 c a p).slots.contains s with
      | false => rfl
      | true => have := slot_len h (List.contains_iff_mem.1 hx); omega
     rw [if_neg (by rw [hno]; simp)]
     simp only at h9; subst h9
     exact dead_same W _ a bits os _ r
    | succ d =>
     simp only at h9
     rw [hk2] at h9
     by_cases hx : (stage2 c a p).slots.contains s = true
     ·rw [if_pos hx] at h9 ⊢
      exact walk_same h hl r (by simp; omega) h9 ((hf.slots s (List.contains_iff_mem.1 hx)).2 hb) hrr
     ·rw [if_neg hx] at h9 ⊢
      subst h9
      exact dead_same W _ a bits os _ r
theorem val_same {W : FW} {bits : List Nat} {os : Obs} {u : Int × Int} {v : Val} {f : Fact} (hs : SameV W bits os u v) (hc : f.op = 2 → 0 ≤ f.cls ∧ f.cls < 3 + W.parents.length) : valL f (toVal (moreW W bits) os u) = valL f v := by
 cases v with
 | int n => rw [show u = (1, n) from hs]; rfl
 | non => rw [show u = (2, 0) from hs]; rfl
 | obj S =>
  obtain ⟨h1, h2⟩ := hs
  have e : toVal (moreW W bits) os u = .obj fun c => upB (moreW W bits) (clsAt os u).toNat c := by rw [toVal, h1]; rfl
  rw [e]
  by_cases h : f.op = 2
  ·rw [valL_is h, valL_is h]
   have := hc h
   exact h2 _ (by omega)
  ·rw [valL_no h, valL_no h]
theorem leaf_same {W : FW} {c : List FLit} (h : LsOk W c) (ht : together2 W c = true) (K : KnOk W (stageK c)) (hl : W.parents.length + (argsV W (stageK c) 3).2.1.length ≤ 60) {f : Fact} (hf : nodeOkB W f = true) (hlf : leafP f = true) :
  evL (VO (moreW W (argsV W (stageK c) 3).2.1) (argsV W (stageK c) 3).2.2 (argsV W (stageK c) 3).1) f = evL (mkV W (stage2 c)) f := by
 have hW := world_own h.w
 have hB := big_more h.w hl
 have hlen := (args_ok K hW 3 (by omega)).2.2.2
 have hst := args_stand K hW 3 (by omega)
 have hn := hf
 simp only [nodeOkB, Bool.and_eq_true] at hn
 have h3 := hn.2
 rw [if_pos hlf] at h3
 simp only [argP, pathP, Bool.and_eq_true, Bool.not_eq_true', Bool.or_eq_false_iff, Bool.not_eq_false', decide_eq_false_iff_not, decide_eq_true_eq, List.all_eq_true] at h3
 obtain ⟨⟨⟨ha1, ha2⟩, hp1, hp2⟩, hlo⟩ := h3
 generalize argsV W (stageK c) 3 = acc at *
 obtain ⟨q, hq⟩ : ∃ q : Nat, f.arg = q := ⟨f.arg.toNat, by omega⟩
 have hq3 : q < 3 := by omega
 have hu : acc.1[q]? = some (acc.1.getD q default) := by rw [List.getD_eq_getElem?_getD, List.getElem?_eq_getElem (by omega)]; rfl
 have hS := hst q _ hu
 have hca : canAt W (stage2 c) (q : Int) [] = true := by
  rw [together2, Bool.and_eq_true, Bool.and_eq_true] at ht
  have : q = 0 ∨ q = 1 ∨ q = 2 := by omega
  rcases this with rfl | rfl | rfl
  ·exact ht.1.1
  ·exact ht.1.2
  ·exact ht.2
 have hw := walk_same h hl f.path rfl hS hca (fun s hs => by have := hp2 s hs; simp only [slotP, Bool.and_eq_true, decide_eq_true_eq] at this; exact this)
 have hmk : mkV W (stage2 c) f.arg f.path = goV W (stage2 c) (q : Int) ([], some (vAt W (stage2 c) (q : Int) [])) f.path := by
  rw [mkV, if_pos ⟨by omega, by omega⟩, hq]; rfl
 have hcl : f.op = 2 → 0 ≤ f.cls ∧ f.cls < 3 + W.parents.length := fun h2 => by
  rw [leafOkP, if_pos h2] at hlo
  simp only [Bool.and_eq_true, Fc.classP, decide_eq_true_eq] at hlo
  exact hlo.2
 unfold evL
 rw [vo_leaf (hB.node hf) hlf (by omega), hmk, hq, Int.toNat_natCast]
 rcases hw with ⟨w1, v, w2, w3⟩ | ⟨w1, w2⟩
 ·rw [if_pos w1, w2]
  exact val_same w3 hcl
 ·rw [if_neg (by rw [w1]; simp), w2]
theorem bd_walk {l : FLit} : ∀ (r : List Int) (n : Nat) (kn : Value → Kn) (pre : List Int), Bd n kn → Bd (n + r.length) (walkK l kn pre r)
 | [], n, kn, pre, h => h
 | s :: r, n, kn, pre, h => by
  have h1 : Bd (n + 1) (updK kn (keyS l.f.arg pre) (slotF s (kn (keyS l.f.arg pre)))) := (h.mono (Nat.le_succ n)).upd ((h _).slot s) _
  have h2 := bd_walk (l := l) r (n + 1) _ (pre ++ [s]) (h1.upd ((h1 (keyS l.f.arg (pre ++ [s]))).need l) (keyS l.f.arg (pre ++ [s])))
  rw [walkK]
  exact h2.mono (by simp only [List.length_cons]; omega)
theorem bd_add {W : FW} {l : FLit} (hl : LitOk W l) (hp : l.f.path.length ≤ 2) {n : Nat} {kn : Value → Kn} (h : Bd n kn) : Bd (n + 3) (addK kn l) := by
 have h0 : Bd n (add0K kn l) := h.upd ((h _).need l) _
 have h1 := (bd_walk (l := l) l.f.path n _ [] h0).mono (m := n + 2) (by omega)
 exact (h1.mono (Nat.le_succ _)).upd ((h1 _).ask hl) _
theorem bd_stage {W : FW} : ∀ (ls : List FLit) (n : Nat) (kn : Value → Kn), (∀ l ∈ ls, LitOk W l) → Bd n kn → Bd (n + 3 * ls.length) (ls.foldl addK kn)
 | [], n, kn, _, h => h
 | l :: r, n, kn, hl, h => by
  have h1 := bd_stage r (n + 3) _ (fun x hx => hl x (.tail _ hx)) (bd_add (hl l (.head _)) (hl l (.head _)).path h)
  exact h1.mono (by simp only [List.length_cons]; omega)
theorem stage_kn {W : FW} {c : List FLit} (hl : ∀ l ∈ c, LitOk W l) (hn : c.length ≤ 300) : KnOk W (stageK c) := by
 refine stage_ok hl ((bd_stage c 0 _ hl (fun v => ⟨by decide, by decide, Nat.zero_le _, Nat.zero_le _⟩)).mono (by omega))
theorem model_holds {W : FW} {f : Fact} (hw : worldP W = true) (hf : wfB W f = true) {c : List FLit} (hc : c ∈ casesP f false) (ht : together2 W c = true) (hn : c.length ≤ 300) (hl : W.parents.length + (argsV W (stageK c) 3).2.1.length ≤ 60) :
  ev (VO (moreW W (argsV W (stageK c) 3).2.1) (argsV W (stageK c) 3).2.2 (argsV W (stageK c) 3).1) f = true := by
 have h := case_ls hw hf hc
 rw [ev_congr (W := W) (V := mkV W (stage2 c)) (fun g hg hlg => leaf_same h ht (stage_kn h.ok hn) hl hg hlg) f hf]
 have := cases_ev (mkV W (stage2 c)) f (wf_ok f hf) false
 rw [Bool.bne_false] at this
 rw [← this, List.any_eq_true]
 exact ⟨c, hc, List.all_eq_true.2 (mk_lits h ht)⟩
theorem int_rng2 {W : FW} {ls : List FLit} (h : LsOk W ls) {a : Int} {p : List Int} (hi : integer2 (stage2 ls) a p = true) : -1000000000 ≤ freeK (stage2 ls a p).nots (stage2 ls a p).low ∧ freeK (stage2 ls a p).nots (stage2 ls a p).low ≤ 1000000000 := by
 rw [integer2, Bool.and_eq_true, decide_eq_true_eq] at hi
 have hk := freeK_spec (stage2 ls a p).nots (stage2 ls a p).low
 have ht' := h.tri a p
 have hf := (num_fold (freeK (stage2 ls a p).nots (stage2 ls a p).low) (ls.filter (hitL a p)) rs0 (fun l hm => (h.ok l (List.mem_filter.1 hm).1).op)).1 (by rw [← ht']; exact ⟨hk.2.1, hi.1, hk.1⟩)
 exact ⟨hf.1.1, hf.1.2.1⟩
theorem valP_mono {u : Int × Int} {m m' : Nat} (h : valP u m = true) (hm : m ≤ m') : valP u m' = true := by
 unfold valP at h ⊢
 split
 ·rename_i h1; rw [if_pos h1] at h; exact h
 ·rename_i h1
  rw [if_neg h1] at h
  split
  ·rename_i h2; rw [if_pos h2] at h; exact h
  ·rename_i h2
   rw [if_neg h2] at h
   simp only [Bool.and_eq_true, decide_eq_true_eq] at h ⊢
   exact ⟨h.1, by omega⟩
def ThOk (W : FW) (bits : List Nat) (m : Nat) (o : Int × List (Int × Int)) : Prop := ∃ s : Nat, IsCls W bits s o.1 ∧ (∀ x, s.testBit x = true → 3 ≤ x ∧ x < 3 + W.parents.length) ∧ (∀ x y, s.testBit x = true → upB W x y = true → y = 0 ∨ s.testBit y = true) ∧ o.2.length = (ownsK W s W.owner.length).length ∧ ∀ u ∈ o.2, valP u m = true
theorem ThOk.mono {W : FW} {bits bits' : List Nat} {m m' : Nat} {o : Int × List (Int × Int)} (h : ThOk W bits m o) (hb : bits <+: bits') (hm : m ≤ m') : ThOk W bits' m' o := by
 obtain ⟨s, h1, h2, h3, h4, h5⟩ := h
 exact ⟨s, h1.mono hb, h2, h3, h4, fun u hu => valP_mono (h5 u hu) hm⟩
def AllTh (W : FW) (bits : List Nat) (lo : Nat) (os : Obs) : Prop := ∀ i, lo ≤ i → ∀ o, os[i]? = some o → ThOk W bits os.length o
theorem AllTh.trans {W : FW} {bits bits' : List Nat} {lo : Nat} {os os' : Obs} (h : AllTh W bits lo os) (hb : bits <+: bits') (ho : os <+: os') (h' : AllTh W bits' os.length os') : AllTh W bits' lo os' := fun i hi o e => by
 rcases Nat.lt_or_ge i os.length with hlt | hge
 ·obtain ⟨r, rfl⟩ := ho
  rw [List.getElem?_append_left hlt] at e
  exact (h i hi o e).mono hb (by simp)
 ·exact h' i hge o e
theorem slots_things {W : FW} {kn : Value → Kn} {a : Int} {rec : MSt → List Int → (Int × Int) × MSt} {s : Nat} {p : List Int} {st : MSt}
  (hr : ∀ k : Nat, (kn (keyS a p)).slots.contains (k : Int) = true → s.testBit (W.owner.getD k default).toNat = true → ∀ st' : MSt, st'.1 <+: (rec st' (p ++ [(k : Int)])).2.1 ∧ st'.2 <+: (rec st' (p ++ [(k : Int)])).2.2 ∧ valP (rec st' (p ++ [(k : Int)])).1 (rec st' (p ++ [(k : Int)])).2.2.length = true ∧ AllTh W (rec st' (p ++ [(k : Int)])).2.1 st'.2.length (rec st' (p ++ [(k : Int)])).2.2) :
  ∀ n, AllTh W (slotsV W kn a rec s p st n).2.1 st.2.length (slotsV W kn a rec s p st n).2.2 ∧ ∀ u ∈ (slotsV W kn a rec s p st n).1, valP u (slotsV W kn a rec s p st n).2.2.length = true
 | 0 => ⟨fun i hi o e => by have := (List.getElem?_eq_some_iff.1 e).1; exact absurd this (by simp only [slotsV, List.range_zero, List.foldl_nil]; omega), fun u hu => by simp [slotsV] at hu⟩
 | n + 1 => by
  obtain ⟨h1, h2⟩ := slots_things hr n
  rw [slotsV_succ]
  generalize slotsV W kn a rec s p st n = acc at *
  unfold slotV
  by_cases hb : s.testBit (W.owner.getD n default).toNat = true
  ·rw [if_pos hb]
   by_cases hc : (kn (keyS a p)).slots.contains (n : Int) = true
   ·rw [if_pos hc]
    obtain ⟨g1, g2, g3, g4⟩ := hr n hc hb acc.2
    refine ⟨h1.trans g1 g2 g4, fun u hu => ?_⟩
    rcases List.mem_append.1 hu with hu | hu
    ·exact valP_mono (h2 u hu) g2.length_le
    ·rw [List.mem_singleton] at hu; subst hu; exact g3
   ·rw [if_neg hc]
    refine ⟨h1, fun u hu => ?_⟩
    rcases List.mem_append.1 hu with hu | hu
    ·exact h2 u hu
    ·rw [List.mem_singleton] at hu; subst hu; rfl
  ·rw [if_neg hb]; exact ⟨h1, h2⟩
theorem things_core {W : FW} {c : List FLit} (h : LsOk W c) {a : Int} {d : Nat} {rec : MSt → List Int → (Int × Int) × MSt} {p : List Int} (hd : p.length + d = 2) (hc : canAt W (stage2 c) a p = true) (st : MSt)
  (hp : ∀ k : Nat, (stageK c (keyS a p)).slots.contains (k : Int) = true → ∀ st' : MSt, st'.1 <+: (rec st' (p ++ [(k : Int)])).2.1 ∧ st'.2 <+: (rec st' (p ++ [(k : Int)])).2.2)
  (hr : ∀ k : Nat, (stageK c (keyS a p)).slots.contains (k : Int) = true → canAt W (stage2 c) a (p ++ [(k : Int)]) = true → ∀ st' : MSt, valP (rec st' (p ++ [(k : Int)])).1 (rec st' (p ++ [(k : Int)])).2.2.length = true ∧ AllTh W (rec st' (p ++ [(k : Int)])).2.1 st'.2.length (rec st' (p ++ [(k : Int)])).2.2) :
  valP (valueS W (stageK c) a d rec st p).1 (valueS W (stageK c) a d rec st p).2.2.length = true ∧ AllTh W (valueS W (stageK c) a d rec st p).2.1 st.2.length (valueS W (stageK c) a d rec st p).2.2 := by
 have hk := stage_rep h.ok a p (by omega)
 have hca := hc
 rw [can_at h (by omega)] at hca
 have hnew : AllTh W st.1 st.2.length st.2 := fun i hi o e => by
  have := (List.getElem?_eq_some_iff.1 e).1
  omega
 cases hi : integerOk (stageK c) a p with
 | true =>
  rw [value_int hi]
  refine ⟨?_, hnew⟩
  rw [intK_stage h.ok (by omega)] at hi
  have := int_rng2 h hi
  rw [hk]
  simp only [valP, if_true, Bool.and_eq_true, decide_eq_true_eq]
  exact this
 | false =>
  cases hn : noneOk (stageK c) a p with
  | true => rw [value_none hi hn]; exact ⟨rfl, hnew⟩
  | false =>
   rw [value_obj (d := d) (rec := rec) (st := st) hi hn rfl rfl, obj_stage h.ok d p hd]
   rw [intK_stage h.ok (by omega)] at hi
   rw [noneK_stage h.ok (by omega)] at hn
   rw [hi, hn, Bool.false_or, Bool.false_or] at hca
   obtain ⟨q1, q2⟩ := obj_closed h hca
   have hf := obj_f h hca
   generalize (objAt W (stage2 c) a p).1 = s at q1 q2 hf ⊢
   obtain ⟨hc1, hc2⟩ := class_is W st.1 s
   have hS := slots_stand (W := W) (kn := stageK c) (a := a) (rec := rec) (s := s) (p := p) (st := ((classP W st.1 s).2, st.2 ++ [((classP W st.1 s).1, [])])) (G := fun _ _ _ => True) (fun _ _ _ _ _ _ _ => trivial) (fun k hk st' _ => ⟨(hp k hk st').1, (hp k hk st').2, trivial⟩) W.owner.length
   have hT := slots_things (W := W) (kn := stageK c) (a := a) (rec := rec) (s := s) (p := p) (st := ((classP W st.1 s).2, st.2 ++ [((classP W st.1 s).1, [])])) (fun k hk2 hb st' => by
    have hm : (k : Int) ∈ (stage2 c a p).slots := by rw [← hk]; exact List.contains_iff_mem.1 hk2
    have := (hf.slots _ hm).2 (by rw [ownerN, Int.toNat_natCast]; exact hb)
    exact ⟨(hp k hk2 st').1, (hp k hk2 st').2, hr k hk2 this st'⟩) W.owner.length
   generalize slotsV W (stageK c) a rec s p ((classP W st.1 s).2, st.2 ++ [((classP W st.1 s).1, [])]) W.owner.length = acc at hS hT ⊢
   obtain ⟨h1, h2, h3, _⟩ := hS
   obtain ⟨h5, h6⟩ := hT
   obtain ⟨t, ht⟩ := h2
   simp only at ht h1
   simp only [List.length_append, List.length_singleton] at h5
   have e1 : acc.2.2.getD st.2.length default = ((classP W st.1 s).1, []) := by
    rw [← ht, List.getD_eq_getElem?_getD, List.append_assoc, List.getElem?_append_right (Nat.le_refl _)]; simp
   have hlen : st.2.length < acc.2.2.length := by rw [← ht]; simp
   refine ⟨?_, fun i hi2 o e => ?_⟩
   ·show valP (3, (st.2.length : Int)) ((acc.2.2.set st.2.length _).length : Int) = true
    rw [List.length_set, valP, if_neg (show ¬ (3 : Int) = 1 by decide), if_neg (show ¬ (3 : Int) = 2 by decide)]
    simp only [Bool.and_eq_true, decide_eq_true_eq]
    exact ⟨⟨rfl, by omega⟩, by omega⟩
   ·have e' : (acc.2.2.set st.2.length ((acc.2.2.getD st.2.length default).1, acc.1))[i]? = some o := e
    show ThOk W acc.2.1 (acc.2.2.set st.2.length _).length o
    rw [List.length_set]
    rcases Nat.eq_or_lt_of_le hi2 with heq | hlt
    ·subst heq
     rw [List.getElem?_set_self hlen, e1] at e'
     obtain rfl := Option.some.inj e'
     exact ⟨s, hc1.mono h1, q1, q2, h3, h6⟩
    ·rw [List.getElem?_set_ne (by omega)] at e'
     exact h5 i (by omega) o e'
theorem value_things {W : FW} {c : List FLit} (h : LsOk W c) (K : KnOk W (stageK c)) {a : Int} : ∀ (d : Nat) (p : List Int), goodSpot a p → p.length + d = 2 → canAt W (stage2 c) a p = true → ∀ st : MSt,
  valP (valueP W (stageK c) a d st p).1 (valueP W (stageK c) a d st p).2.2.length = true ∧ AllTh W (valueP W (stageK c) a d st p).2.1 st.2.length (valueP W (stageK c) a d st p).2.2 := by
 have hW := world_own h.w
 intro d
 induction d with
 | zero =>
  intro p hg hd hc st
  have hno : ∀ k : Nat, ¬ (stageK c (keyS a p)).slots.contains (k : Int) = true := fun k hk => by
   have := List.contains_iff_mem.1 hk
   rw [K.deep a p hg (by omega)] at this; cases this
  exact things_core h hd hc st (fun k hk => absurd hk (hno k)) (fun k hk => absurd hk (hno k))
 | succ d ih =>
  intro p hg hd hc st
  have hnx : ∀ k : Nat, (stageK c (keyS a p)).slots.contains (k : Int) = true → goodSpot a (p ++ [(k : Int)]) := fun k hk => (kn_next K hW hg (List.contains_iff_mem.1 hk)).2
  exact things_core h hd hc st (fun k hk st' => by
   obtain ⟨r1, r2, _⟩ := value_stands K hW d (p ++ [(k : Int)]) (hnx k hk) (by simp; omega) st'
   exact ⟨r1, r2⟩) (fun k hk hcan st' => ih (p ++ [(k : Int)]) (hnx k hk) (by simp; omega) hcan st')
theorem args_things {W : FW} {c : List FLit} (h : LsOk W c) (K : KnOk W (stageK c)) (ht : together2 W c = true) : ∀ k, k ≤ 3 → AllTh W (argsV W (stageK c) k).2.1 0 (argsV W (stageK c) k).2.2 ∧ ∀ u ∈ (argsV W (stageK c) k).1, valP u (argsV W (stageK c) k).2.2.length = true
 | 0, _ => ⟨fun i hi o e => by simp [argsV] at e, fun u hu => by simp [argsV] at hu⟩
 | k + 1, hk => by
  obtain ⟨h1, h2⟩ := args_things h K ht k (by omega)
  rw [argsV_succ]
  generalize argsV W (stageK c) k = acc at *
  have hca : canAt W (stage2 c) (k : Int) [] = true := by
   rw [together2, Bool.and_eq_true, Bool.and_eq_true] at ht
   have : k = 0 ∨ k = 1 ∨ k = 2 := by omega
   rcases this with rfl | rfl | rfl
   ·exact ht.1.1
   ·exact ht.1.2
   ·exact ht.2
  obtain ⟨g1, g2, _⟩ := value_stands K (world_own h.w) 2 [] (spot_root (a := k) (by omega)) rfl acc.2
  obtain ⟨g3, g4⟩ := value_things h K 2 [] (spot_root (a := k) (by omega)) rfl hca acc.2
  refine ⟨h1.trans g1 g2 g4, fun u hu => ?_⟩
  rcases List.mem_append.1 hu with hu | hu
  ·exact valP_mono (h2 u hu) g2.length_le
  ·rw [List.mem_singleton] at hu; subst hu; exact g3
theorem things_of {W : FW} (hw : worldP W = true) {bits : List Nat} (hl : W.parents.length + bits.length ≤ 60) {os : Obs} (h : AllTh W bits 0 os) (hn : os.length ≤ 40) : thingsP (moreW W bits) os = true := by
 rw [thingsP, decide_eq_true (by omega), Bool.true_and, List.all_eq_true]
 intro o ho
 obtain ⟨i, hi, rfl⟩ := List.getElem_of_mem ho
 obtain ⟨s, h1, h2, h3, h4, h5⟩ := h i (Nat.zero_le _) _ (List.getElem?_eq_getElem hi)
 rw [thingP, slots_owns hw hl h1 h2 h3, List.length_map, h4, beq_self_eq_true, Bool.and_true, List.all_eq_true.2 h5, Bool.and_true]
 have hp : (moreW W bits).parents.length = W.parents.length + bits.length := by show (W.parents ++ bits.map _).length = _; simp
 simp only [ownP, Bool.and_eq_true, decide_eq_true_eq]
 rcases h1 with ⟨h6, h7, _⟩ | ⟨j, h6, h7⟩
 ·omega
 ·have := (List.getElem?_eq_some_iff.1 h6).1
  omega
theorem mdl_ok {W : FW} {f : Fact} (hg : goodP W [f] = true) (h20 : W.parents.length ≤ 20) {c : List FLit} (hf : firstC W f = some c) : MdlOk W f (modelC W c) ∧ W.parents.length + (argsV W (stageK c) 3).2.1.length ≤ 60 := by
 have hw := good_w hg
 have h1 := good_f1 hg
 have hc : c ∈ casesP f false := List.mem_of_find?_eq_some hf
 have ht : together2 W c = true := List.find?_some hf
 have h := case_ls hw h1.2.2.1 hc
 have hlen := cases_half f (wf_ok f h1.2.2.1) false c hc
 have hnod := h1.2.2.2
 have K := stage_kn h.ok (by omega)
 have hfew := model_few h K
 have hl : W.parents.length + (argsV W (stageK c) 3).2.1.length ≤ 60 := by omega
 obtain ⟨t1, t2⟩ := args_things h K ht 3 (by omega)
 have h3 := (args_ok K (world_own hw) 3 (by omega)).2.2.2
 have hB := big_more hw hl
 exact ⟨⟨world_more hw hl, bigger_more W _, things_of hw hl t1 (by show (argsV W (stageK c) 3).2.2.length ≤ 40; omega), h3, by
  show argsP (argsV W (stageK c) 3).1 ((argsV W (stageK c) 3).2.2.length : Int) = true
  rw [argsP, List.all_eq_true.2 t2, Bool.and_true, decide_eq_true (by omega), decide_eq_true (by omega)]; rfl, hB.wf f h1.2.2.1, spk_three f h1.2.2.1, model_holds hw h1.2.2.1 hc ht (by omega) hl⟩, hl⟩
theorem p13 (g : Gv) : PCall Tryz.prog 13 [AV.given g] (.b true) := by
 cases h : goodP g.W [g.A] with
 | false => exact p13n g h
 | true =>
  rcases Nat.lt_or_ge 20 g.W.parents.length with hl | hl
  ·exact p13l g h hl
  ·cases hf : firstC g.W g.A with
   | none => exact p13x g h hl hf
   | some c => exact p13g g h hl hf (mdl_ok h hl hf).1
end Go.Proofs.YtiljpbljebfhnaaGreat
