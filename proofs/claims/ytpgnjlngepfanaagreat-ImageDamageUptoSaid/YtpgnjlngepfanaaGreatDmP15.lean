/- Part 15 of the proof: contracts of functions of the program and what they need. No condition beyond those that each theorem names. -/
import Derived.Test.YtpgnjlngepfanaaGreatDmP14
set_option linter.unusedVariables false
set_option linter.unusedSimpArgs false
set_option maxRecDepth 10000
namespace Go.Proofs.YtpgnjlngepfanaaGreat
open Go.Eng
open Go.Eng.Fc
open Go.Eng.Bd
open Go.Eng.Im (U8 u8 u8s sumR splitR Sec kindsP damP damA)
open Go.Eng.Im (U8 u8 u8s sumR splitR Sec kindsP)
def xorU (x y : U8) : U8 := ⟨x.val ^^^ y.val, Nat.xor_lt_two_pow (n := 8) x.isLt y.isLt⟩
theorem xorU_ne {x y : U8} (h : y.val ≠ 0) : xorU x y ≠ x := by
 intro e
 have e : x.val ^^^ y.val = x.val := congrArg Fin.val e
 apply h
 have e2 : x.val ^^^ (x.val ^^^ y.val) = x.val ^^^ x.val := congrArg (x.val ^^^ ·) e
 rwa [← Nat.xor_assoc, Nat.xor_self, Nat.zero_xor] at e2
theorem bv8 (x : U8) : (BitVec.ofInt IntKind.u8.bits (x.val : Int)).toNat = x.val := by
 have := x.isLt
 simp [IntKind.bits] <;> omega
theorem u8_xor (x y : U8) : bitI .xor .u8 (x.val : Int) (y.val : Int) = some ((xorU x y).val : Int) := by
 show some (IntKind.u8.wrap _) = _
 rw [BitVec.toNat_xor, bv8, bv8]
 exact congrArg some (Im.u8_wrap8 (xorU x y))
theorem cellU_get {l : List U8} {more : List AV} {i : Nat} (h : i < l.length) : ((l.map fun x => [u8 x]).flatten ++ more)[0 + ((i : Nat) : Int).toNat * 1]? = some (u8 (l.getD i default)) := by
 have e : (l.map fun x => [u8 x]).flatten = l.map u8 := by
  clear h
  induction l with
  | nil => rfl
  | cons a r ih => rw [List.map_cons, List.flatten_cons, ih]; rfl
 rw [e, Int.toNat_natCast, Nat.zero_add, Nat.mul_one, List.getElem?_append_left (by rw [List.length_map]; exact h), List.getElem?_map, List.getD_eq_getElem?_getD, List.getElem?_eq_getElem h]; rfl
theorem flatU (l : List U8) : (l.map fun x => [u8 x]).flatten = l.map u8 := by
 induction l with
 | nil => rfl
 | cons a r ih => rw [List.map_cons, List.flatten_cons, ih]; rfl
theorem cellU_fit {l : List U8} {more : List AV} {i : Nat} (h : i < l.length) : Nat.ble (0 + ((i : Nat) : Int).toNat * 1 + 1) ((l.map fun x => [u8 x]).flatten ++ more).length = true := by
 rw [Nat.ble_eq, flatU, List.length_append, List.length_map, Int.toNat_natCast]; omega
theorem cellU_set {l : List U8} {more : List AV} {i : Nat} {v : U8} (h : i < l.length) : ((l.map fun x => [u8 x]).flatten ++ more).take (0 + ((i : Nat) : Int).toNat * 1) ++ [u8 v] ++ ((l.map fun x => [u8 x]).flatten ++ more).drop (0 + ((i : Nat) : Int).toNat * 1 + 1) = ((l.set i v).map fun x => [u8 x]).flatten ++ more := by
 rw [flatU, flatU, Int.toNat_natCast, Nat.zero_add, Nat.mul_one, List.take_append_of_le_length (by rw [List.length_map]; omega), List.drop_append_of_le_length (by rw [List.length_map]; omega), List.map_set, List.set_eq_take_append_cons_drop, if_pos (by rw [List.length_map]; exact h)]
 simp
structure Dam (b : List U8) (x : U8) (L : List Raw) : Prop where
 eq : b = 67 :: x :: L.flatMap rawW
 x : x = 79 ∨ x = 80
 ok : ∀ s ∈ L, s.Ok
 sm : ∀ s ∈ L, s.sum = sumR s.kind s.body
 bl : ∀ s ∈ L, s.body.length < 128 ^ 3
 len : b.length ≤ 100000
theorem rawOf_ok {k : U8} {b : List U8} (h : b.length ≤ 100000) : (rawOf k b).Ok ∧ (rawOf k b).sum = sumR (rawOf k b).kind (rawOf k b).body ∧ (rawOf k b).body.length < 128 ^ 3 := ⟨⟨by show b.length ≤ _; omega, sumR_len k b⟩, rfl, by show b.length < 2097152; omega⟩
theorem image_dam {p : Prog} {objs : List Th} (h : checkP p objs = true) : ∃ x L, Dam (imageQ p objs) x L ∧ L.length = 2 := by
 obtain ⟨h1, h2, h3⟩ := ok_of h
 have hl1 := progW_len h1
 have hl2 := objs_len h2 h3
 have g1 := rawOf_ok (k := 1) (b := progW p) (by omega)
 have g2 := rawOf_ok (k := 2) (b := listW thW objs) (by omega)
 refine ⟨79, [rawOf 1 (progW p), rawOf 2 (listW thW objs)], ⟨?_, .inl rfl, ?_, ?_, ?_, by rw [imageQ_of h]; exact image_len h⟩, rfl⟩
 ·rw [imageQ_of h, imageP, List.flatMap_cons, List.flatMap_cons, raw_of, raw_of]; simp
 all_goals
  intro s hs
  simp only [List.mem_cons, List.not_mem_nil, or_false] at hs
  rcases hs with rfl | rfl
 ·exact g1.1
 ·exact g2.1
 ·exact g1.2.1
 ·exact g2.2.1
 ·exact g1.2.2
 ·exact g2.2.2
theorem part_dam {p : Prog} {objs : List Th} {roots : List (Int × Int)} (h : askedP p objs roots = true) : ∃ x L, Dam (partQ p objs roots) x L ∧ L.length = 1 := by
 obtain ⟨h1, h2⟩ := part_len h
 have g1 := rawOf_ok (k := 3) (b := partB p objs roots) (by omega)
 refine ⟨80, [rawOf 3 (partB p objs roots)], ⟨?_, .inr rfl, ?_, ?_, ?_, by rw [partQ, if_pos h]; exact h1⟩, rfl⟩
 ·rw [partQ, if_pos h, partP, List.flatMap_cons, raw_of]; simp
 all_goals
  intro s hs
  simp only [List.mem_cons, List.not_mem_nil, or_false] at hs
  subst hs
 ·exact g1.1
 ·exact g1.2.1
 ·exact g1.2.2
theorem Dam.spots {b : List U8} {x : U8} {L : List Raw} (h : Dam b x L) : (spotsP L).length = b.length := by
 have := spotsP_len h.ok L.length
 rw [List.take_length] at this
 rw [this, pos_all L x, h.eq]
theorem getD_any {l : List Int} {i : Nat} (h : i < l.length) (d e : Int) : l.getD i d = l.getD i e := by
 rw [List.getD_eq_getElem?_getD, List.getD_eq_getElem?_getD, List.getElem?_eq_getElem h]; rfl
theorem Dam.law {b : List U8} {x : U8} {L : List Raw} (h : Dam b x L) {i : Nat} (hi : i < b.length) {n : Int} (hn : (spotsP L).getD i default = n) (h0 : 0 ≤ n) {v : U8} (hv : v ≠ b.getD i default) : ∃ M : List Sec, M.length = L.length ∧ sectA (b.set i v) = .tup [.sl 1 (kindsP M), .sl 1 ([n].map fun n => [AV.i n]), .i 0] ∧ re (b.set i v) = 4 := by
 have hs := h.spots
 rw [getD_any (by omega) default (-1)] at hn
 have hv2 : v ≠ (67 :: x :: L.flatMap rawW).getD i default := by rw [← h.eq]; exact hv
 obtain ⟨k, M, e1, e2, e3, e4, e5⟩ := damaged h.x h.ok h.sm hn h0 hv2
 rw [← h.eq] at e4
 refine ⟨M, e3, ?_, ?_⟩
 ·rw [sectA, e4]
  have : damP M M.length = [n] := by
   rw [damP, filter_one M.length k (by omega) e5, e1]; rfl
  simp only [damA, this]
 ·have hb : bodiesR (b.set i v) 79 [1, 2] = none := bodies_no3 e4 (i := k) (by omega) (by rw [kindOk, e5 k (by omega)]; simp)
  rw [re, readR, hb]
theorem cloneR (l : List U8) (hne : l ≠ []) (hl : l.length ≤ 1000000) (H : List Ent) : ACall Tryz.prog 43 [u8s l] H (fun y H' => ∃ v, y = .val v ∧ H' = .row 5 1 v (l.map fun x => [u8 x]).length (l.map fun x => [u8 x]).flatten :: H) (fun _ _ => False) := by
 refine ACall.mk' (n := 8) Tryz.func43 rfl (by kernel_rfl) rfl rfl (fun B I w0 => ?_)
 refine S2 ?_; refine Oas ?_; refine S5 ?_; refine Omv ?_
 refine OL.isNilC rfl rfl rfl rfl rfl rfl rfl (AVle.refl _) rfl rfl (fun n4 hn4 => ?_)
 refine S2 ?_
 refine CW.cond rfl (fun h0 => ?_) (fun h0 => ?_)
 ·
  exact absurd (hn4 h0) (by simpa using hne)
 ·
  refine S4 ?_
  refine OL.row0Own rfl rfl rfl rfl (fun v5 => ?_)
  refine Omv ?_
  refine OL.ownRow0 (d := 5) rfl (.head _ _ _) ?_
  refine OL.appendRow (news := l.map fun x => [u8 x]) rfl rfl rfl rfl rfl rfl rfl rfl (AVle.refl _) (by simpa using hne) (one_u8s l) (fun v => .head _ _ _) (by simp; omega) (by simp; omega) (fun v7 => ?_)
  refine Oas ?_; refine S3 ?_
  refine Done.retR (rs := [.tmp 2]) (H' := _) rfl (.tmp rfl (.nil)) (AVleL.refl _) (by exact List.Sublist.refl _) ?_
  exact ⟨v7, rfl, by simp⟩
theorem eqInts (a : List Int) : PCall Tryz.prog 44 [AV.ints a, AV.ints a] (.b true) := by
 intro H
 refine ACall.mk' (n := 26) Tryz.func44 rfl (by kernel_rfl) rfl rfl (fun B I w0 => ?_)
 refine CW.boundM (t := 0) rfl (fun hb0 => ?_)
 refine S2 ?_; refine Oas ?_; refine S5 ?_; refine Omv ?_; refine Oln ?_; refine Omv ?_; refine Oln ?_; refine Ocm ?_; refine S2 ?_
 refine CW.cond rfl (fun h0 => ?_) (fun h0 => ?_)
 ·
  exact absurd h0 (by simp)
 ·
  refine S5 ?_; refine Omv ?_; refine Oln ?_; refine Omv ?_; refine S3 ?_
  refine lj (fun m st => ∃ i : Nat, st = ⟨[(13, .i i), (12, .i a.length), (0, AV.ints a), (1, AV.ints a)], H⟩ ∧ m = a.length - i ∧ i ≤ a.length) (⟨0, rfl, rfl, by omega⟩) ?_
  rintro m _ ⟨i, rfl, rfl, hi⟩
  refine S2 ?_; refine Ocm ?_; refine S3 ?_
  refine CW.cond rfl (fun h1 => ?_) (fun h1 => ?_)
  ·
   replace h1 := nm h1
   have hil : i < a.length := by omega
   refine S6 ?_; refine Omv ?_; refine Oas ?_; refine S3 ?_
   refine CW.dp mixed ?_
   refine DP.anyC 0 8 26 rfl (by decide +kernel) rfl rfl (by decide +kernel) ?_
   refine Amv ?_; refine Amv ?_
   refine AD.popC rfl rfl rfl ((by first | exact POp.ixM rfl rfl rfl rfl rfl hil | exact POp.ixI rfl rfl rfl rfl rfl hil)) ?_
   refine Ald ?_; refine Amv ?_; refine Amv ?_
   refine AD.popC rfl rfl rfl ((by first | exact POp.ixM rfl rfl rfl rfl rfl hil | exact POp.ixI rfl rfl rfl rfl rfl hil)) ?_
   refine Ald ?_
   refine AD.nil ?_
   refine DP.tailC 8 (by decide +kernel) rfl ?_
   refine Ocm ?_; refine S2 ?_
   refine CW.cond rfl (fun h2 => ?_) (fun h2 => ?_)
   ·
    exact absurd h2 (by simp)
   ·
    refine S4 ?_; refine Oar ?_; refine Omv ?_; refine S1 ?_
    exact ag (⟨i + 1, rfl, rfl, hil⟩)
  ·
   replace h1 := nm h1
   refine S7 ?_; refine Oas ?_; refine S3 ?_
   refine r1 4 (H) ?_
   exact ⟨by rfl, rfl⟩
theorem damageC {g : Gv} (hp : g.p.Small) {n : Nat} (hn : n < 65536) (y : U8) : PCall Tryz.prog 11 [AV.given g, .val (.int .u16 n), u8 y] (.b true) := by
 intro H
 refine ACall.mk' (n := 136) Tryz.func11 rfl (by kernel_rfl) rfl rfl (fun B I w0 => ?_)
 refine S2 ?_; refine Obx ?_; refine Oas ?_; refine S5 ?_; refine Omv ?_; refine S3 ?_
 refine lj (fun m st => ∃ k : Nat, st = ⟨[(20, .i k), (3, .ptr (Gcells g)), (2, u8 y), (1, .val (.int .u16 n))], H⟩ ∧ m = 2 - k ∧ k ≤ 2) (⟨0, rfl, rfl, by omega⟩) ?_
 rintro m _ ⟨k, rfl, rfl, hk⟩
 refine S2 ?_; refine Ocm ?_; refine S3 ?_
 refine CW.cond rfl (fun h0 => ?_) (fun h0 => ?_)
 ·
  replace h0 := nm h0
  have hk2 : k < 2 := by omega
  refine S6 ?_; refine Omv ?_; refine Oas ?_; refine S4 ?_; refine Ofa ?_; refine Ola ?_; refine Ofa ?_; refine Old ?_
  refine OL.popC rfl rfl rfl (POp.call (.mk' rfl rfl rfl rfl rfl) (imageC hp g.objs okG_of)) ?_
  refine Omv ?_; refine Oex ?_; refine Oex ?_; refine Oas ?_; refine Oas ?_; refine S2 ?_
  refine CW.cutJ (fun st => ∃ (b : List U8) (e : Int), st = ⟨[(9, .i e), (8, u8s b), (7, .i k), (20, .i k), (3, .ptr (Gcells g)), (2, u8 y), (1, .val (.int .u16 n))], H⟩ ∧ (e = 0 → ∃ x L, Dam b x L ∧ L.length = 2 - k)) ?_ ?_
  ·
   refine S2 ?_; refine Omv ?_; refine Ocm ?_; refine S2 ?_
   refine CW.cond rfl (fun h1 => ?_) (fun h1 => ?_)
   ·
    replace h1 := nm h1
    have hk1 : k = 1 := by omega
    refine S1 ?_; refine Ofa ?_; refine Ola ?_; refine Ofa ?_; refine Old ?_; refine Ofa ?_; refine Old ?_
    refine OL.popC rfl rfl rfl (POp.call (.mk' rfl rfl rfl rfl rfl) (partC hp g.objs g.roots)) ?_
    refine Omv ?_; refine Oex ?_; refine Oex ?_; refine Oas ?_; refine Oas ?_; refine S1 ?_
    exact Done.cutJ ⟨_, (if askedP g.p g.objs g.roots then 0 else 2), rfl, fun he => by rw [hk1]; exact part_dam (by cases h : askedP g.p g.objs g.roots with | true => rfl | false => rw [h] at he; simp at he)⟩ (by repeat (first | exact trivial | refine ⟨rfl, ?_⟩)) (by repeat (first | exact List.Sublist.refl _ | refine List.Sublist.cons _ ?_))
   ·
    replace h1 := nm h1
    have hk1 : k = 0 := by omega
    refine S1 ?_
    exact Done.cutJ ⟨_, (if checkP g.p g.objs then 0 else 2), rfl, fun he => by rw [hk1]; exact image_dam (by cases h : checkP g.p g.objs with | true => rfl | false => rw [h] at he; simp at he)⟩ (by repeat (first | exact trivial | refine ⟨rfl, ?_⟩)) (by repeat (first | exact List.Sublist.refl _ | refine List.Sublist.cons _ ?_))
  ·
   rintro _ ⟨b, e, rfl, hbd⟩
   refine S3 ?_; refine Omv ?_; refine Ocm ?_; refine Omv ?_; refine Pmv ?_; refine Pcm ?_; refine Opk ?_; refine S2 ?_
   refine CW.cond rfl (fun h2 => ?_) (fun h2 => ?_)
   ·
    refine S5 ?_; refine Oar ?_; refine Omv ?_; refine S1 ?_
    exact ag (⟨k + 1, rfl, rfl, by omega⟩)
   ·
    rw [Bool.cond_true_left, Bool.or_eq_false_iff, bne_eq_false_iff_eq, beq_eq_false_iff_ne] at h2
    obtain ⟨rfl, hy⟩ := h2
    obtain ⟨x, L, hD, hLl⟩ := hbd rfl
    have hbl := hD.len
    have hsp := hD.spots
    have hb2 : 2 ≤ b.length := by rw [hD.eq]; simp
    refine S5 ?_; refine Omv ?_; refine Oln ?_; refine Ocm ?_; refine Omv ?_; refine Pmv ?_; refine Pln ?_; refine Pcm ?_; refine Opk ?_; refine S2 ?_
    refine CW.cond rfl (fun h3 => ?_) (fun h3 => ?_)
    ·
     exfalso
     rw [Bool.cond_true_left, Bool.or_eq_true, decide_eq_true_eq, decide_eq_true_eq] at h3
     omega
    ·
     refine S4 ?_; refine Omv ?_
     refine OL.popC rfl rfl rfl (POp.call (.mk' rfl rfl rfl rfl rfl) ((by have h := spotsC hD.ok hD.bl (by omega) (by rw [← hD.eq]; exact hD.len); rw [← hD.eq] at h; exact h))) ?_
     refine Oas ?_; refine S5 ?_; refine Omv ?_; refine Oln ?_; refine Omv ?_; refine Oln ?_; refine Ocm ?_; refine S2 ?_
     refine CW.cond rfl (fun h4 => ?_) (fun h4 => ?_)
     ·
      exact absurd h4 (by rw [hsp]; simp)
     ·
      refine S4 ?_; refine Omv ?_
      refine OL.popC rfl rfl rfl (POp.cv rfl rfl rfl (wrap64 (by omega))) ?_
      refine Omv ?_; refine Oln ?_
      refine OL.popC rfl rfl rfl (POp.div rfl rfl rfl rfl rfl (by omega) (.inr ⟨rfl, rfl⟩)) ?_
      refine Oas ?_; refine S3 ?_
      obtain ⟨i, hi⟩ : ∃ i, i = n % b.length := ⟨_, rfl⟩
      have hil : i < b.length := by rw [hi]; exact Nat.mod_lt _ (by omega)
      refine CW.le 11 (y := .i i) rfl (AVle.eqI (by rw [hi, Int.ofNat_tmod])) ?_
      refine S1 ?_; refine Omv ?_
      refine OL.bcallC rfl rfl rfl (.mk' rfl rfl rfl rfl rfl) ((cloneR b (by rintro rfl; simp at hb2) (by omega) H).b) ?_
      rintro _ _ ⟨v, rfl, rfl⟩
      refine Oas ?_; refine S3 ?_
      refine CW.rowBlk (t := 5) (by rw [List.length_map]; omega) (fun b cap more => .head _ _ _) (fun cb cap more e1 e2 e3 e4 e5 => ?_)
      subst e1
      refine S1 ?_; refine Omv ?_; refine Omv ?_
      refine OL.popC rfl rfl rfl (POp.ixC rfl rfl rfl rfl rfl (by simp only [List.length_map, Int.toNat_natCast]; omega)) ?_
      refine OL.popC rfl rfl rfl ((by first | exact POp.ld1 rfl rfl rfl rfl | (apply POp.ld1H rfl rfl rfl; (case hm => repeat (first | exact .head _ | refine .tail _ ?_)); (case hy => exact cellU_get hil)))) ?_
      refine Omv ?_
      refine OL.popC rfl rfl rfl (POp.bits rfl rfl rfl rfl rfl (u8_xor _ y)) ?_
      refine OL.popC rfl rfl rfl (POp.ixC rfl rfl rfl rfl rfl (by simp only [List.length_map, Int.toNat_natCast]; omega)) ?_
      apply OL.stoC rfl rfl rfl rfl rfl rfl rfl rfl rfl rfl
      (case hu => repeat (first | exact Upd.head _ _ _ | apply Upd.tail)); (case hfit => exact cellU_fit hil); (case hds => exact cellU_set hil)
      refine S3 ?_
      obtain ⟨v, hv⟩ : ∃ v, v = xorU (b.getD i default) y := ⟨_, rfl⟩
      rw [← hv]
      obtain ⟨c, hc⟩ : ∃ c, c = b.set i v := ⟨_, rfl⟩
      have hcl : c.length = b.length := by rw [hc, List.length_set]
      rw [← hc]
      refine CW.freezeS (k := 1) (d := 12) rfl (.head _ _) (by simp [hcl]) (fun e he => by obtain ⟨y, _, rfl⟩ := List.mem_map.1 he; rfl) e2 e3 ?_
      refine CW.le 12 (y := u8s c) rfl (AVle.refl _) ?_
      refine S1 ?_; refine Omv ?_
      refine OL.popC rfl rfl rfl (POp.call (.mk' rfl rfl rfl rfl rfl) (readU c (by omega))) ?_
      refine Omv ?_; refine Oex ?_; refine Oex ?_; refine Oex ?_
      refine OL.alC rfl rfl rfl rfl (fun ab => ?_)
      refine Sto ?_; refine Oas ?_; refine Oas ?_; refine S2 ?_
      refine CW.cutJ (fun st => st = ⟨[(9, .i (re c)), (10, AV.ints (spotsP L)), (11, .i i), (12, u8s c), (7, .i k), (20, .i k), (3, .ptr (Gcells g)), (2, u8 y), (1, .val (.int .u16 n))], H⟩) ?_ ?_
      ·
       refine S1 ?_
       refine CW.freezeP (d := 13) rfl (by repeat (first | exact Del.head _ _ | apply Del.tail)) ?_
       refine S1 ?_; refine Omv ?_; refine Ocm ?_; refine S2 ?_
       refine CW.cond rfl (fun h5 => ?_) (fun h5 => ?_)
       ·
        replace h5 := nm h5
        obtain ⟨he, hck⟩ := re_ok (b := c) h5
        refine S2 ?_; refine Ola ?_; refine Omv ?_
        refine OL.popC rfl rfl rfl (POp.call (.mk' rfl rfl rfl rfl rfl) (imageC (small_ok (ok_of hck).1) (ro c) okG_of)) ?_
        refine Omv ?_; refine Oex ?_; refine Oex ?_; refine Oas ?_; refine Oas ?_; refine S3 ?_
        rw [he, if_pos hck]
        refine S1 ?_; refine Omv ?_; refine Ocm ?_; refine Omv ?_; refine Pmv ?_; refine Pmv ?_
        refine OL.guardC rfl rfl rfl rfl rfl rfl (fun hg => POp.call (.mk' rfl rfl rfl rfl (by first | rfl | ((repeat (first | exact hg | rfl | refine Bool.and_eq_true_iff.2 ⟨?_, ?_⟩)); done) | simp_all [strip, constAV])) (eqU8 c)) ?_
        refine Pnt ?_; refine Opk ?_; refine S2 ?_
        refine CW.cond rfl (fun h6 => ?_) (fun h6 => ?_)
        ·
         exact absurd h6 (by simp)
        ·
         refine S1 ?_
         exact Done.cutJ rfl (by repeat (first | exact trivial | refine ⟨rfl, ?_⟩)) (by repeat (first | exact List.Sublist.refl _ | refine List.Sublist.cons _ ?_))
       ·
        refine S1 ?_
        exact Done.cutJ rfl (by repeat (first | exact trivial | refine ⟨rfl, ?_⟩)) (by repeat (first | exact List.Sublist.refl _ | refine List.Sublist.cons _ ?_))
      ·
       rintro _ rfl
       refine S3 ?_; refine Omv ?_; refine Omv ?_
       refine OL.popC rfl rfl rfl ((by first | exact POp.ixM rfl rfl rfl rfl rfl (by rw [hsp]; exact hil) | exact POp.ixI rfl rfl rfl rfl rfl (by rw [hsp]; exact hil))) ?_
       refine Old ?_; refine Ocm ?_; refine S2 ?_
       refine CW.cond rfl (fun h7 => ?_) (fun h7 => ?_)
       ·
        refine S5 ?_; refine Oar ?_; refine Omv ?_; refine S1 ?_
        exact ag (⟨k + 1, rfl, rfl, by omega⟩)
       ·
        replace h7 := nm h7
        obtain ⟨M, hM, hsa, hre⟩ := hD.law hil rfl (by omega) (v := v) (by rw [hv]; exact xorU_ne (by omega))
        rw [← hc] at hsa hre
        have hkl : ((kindsP M).length : Int) = 2 - k := by rw [kindsP, List.length_map, hM, hLl]; omega
        refine S4 ?_; refine Omv ?_
        refine OL.popC rfl rfl rfl (POp.call (.mk' rfl rfl rfl rfl rfl) ((by have h := q23 c (by omega); rw [hsa] at h; exact h))) ?_
        refine Omv ?_; refine Oex ?_; refine Oex ?_; refine Oex ?_; refine Oas ?_; refine Oas ?_; refine Oas ?_; refine S3 ?_
        rw [hre]
        refine S1 ?_; refine Omv ?_; refine Ocm ?_; refine Omv ?_; refine Pmv ?_; refine Pcm ?_; refine Opk ?_; refine Omv ?_; refine Pmv ?_; refine Pln ?_; refine Pmv ?_; refine Par ?_
        refine Pcm ?_; refine Opk ?_; refine Omv ?_; refine Pmv ?_; refine Pmv ?_; refine Pmv ?_
        refine OL.guardC rfl rfl rfl rfl rfl rfl (fun hg => (by first | exact POp.ixM rfl rfl (gd hg) rfl (gd hg) (by rw [hsp]; exact hil) | exact POp.ixI rfl rfl (gd hg) rfl (gd hg) (by rw [hsp]; exact hil))) ?_
        refine Pld ?_
        refine OL.guardC rfl rfl rfl rfl rfl rfl (fun hg => POp.le (x := AV.ints [(spotsP L).getD i default]) (POp.row rfl rfl (by first | rfl | simp_all [strip]) rfl rfl rfl rfl rfl rfl) (AVle.refl _)) ?_
        refine OL.guardC rfl rfl rfl rfl rfl rfl (fun hg => POp.call (.mk' rfl rfl rfl rfl (by first | rfl | ((repeat (first | exact hg | rfl | refine Bool.and_eq_true_iff.2 ⟨?_, ?_⟩)); done) | simp_all [strip, constAV])) (eqInts [(spotsP L).getD i default])) ?_
        refine Pnt ?_; refine Opk ?_; refine S2 ?_
        refine CW.cond rfl (fun h8 => ?_) (fun h8 => ?_)
        ·
         rw [hkl] at h8
         exact absurd h8 (by simp)
        ·
         refine S4 ?_; refine Oar ?_; refine Omv ?_; refine S1 ?_
         exact ag (⟨k + 1, rfl, rfl, by omega⟩)
 ·
  refine S7 ?_
  refine OL.popC rfl rfl rfl (POp.call (.mk' rfl rfl rfl rfl rfl) (knownC)) ?_
  refine Oas ?_; refine S3 ?_
  refine r1 6 (H) ?_
  exact ⟨by rfl, rfl⟩
end Go.Proofs.YtpgnjlngepfanaaGreat
