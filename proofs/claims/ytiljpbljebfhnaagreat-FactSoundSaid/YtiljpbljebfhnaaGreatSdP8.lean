/- Part 8 of the proof: contracts of functions of the program and what they need. No condition beyond those that each theorem names. -/
import Derived.Test.YtiljpbljebfhnaaGreatSdP7
import Derived.Tactics
import Derived.Tactics2
import Derived.Laws.Pointers
import Derived.TacticsInMore
import Derived.RegionIn
import Derived.RecoverIn
set_option linter.unusedVariables false
set_option linter.unusedSimpArgs false
set_option maxRecDepth 10000
namespace Go.Proofs.YtiljpbljebfhnaaGreat
open Go.Eng
open Go.Eng.Fc
theorem CW.eqH {c : Ctx} {r : Option Nat} {P : Program} {st : St} {Q : Exit → Act → World → Prop} {p : Code} {H' : List Ent} (hp : st.H = H') (h : CW c r P p ⟨st.env, H'⟩ Q) : CW c r P p st Q := CW.perm (.of_eq hp) h
theorem permIn (x : Ent) (mb : Nat) (K1 : List KB) (e : KB) (K2 : List KB) (Hx : List Ent) : (x :: SentsAt mb K1 e K2 Hx).Perm (Sents mb (K1 ++ e :: K2) (x :: Hx)) := by
 unfold Sents SentsAt KBents
 simp only [List.flatMap_append, List.flatMap_cons]
 generalize e.ents = E
 generalize Ent.map mb _ = m
 classical
 exact List.perm_iff_count.2 fun a => by simp only [List.count_append, List.count_cons]; omega
theorem permIn0 (x : Ent) (mb : Nat) (K : List KB) (Hx : List Ent) : (x :: Sents mb K Hx).Perm (Sents mb K (x :: Hx)) := by
 unfold Sents
 generalize Ent.map mb _ = m
 classical
 exact List.perm_iff_count.2 fun a => by simp only [List.count_append, List.count_cons]; omega
theorem permOut (x : Ent) (mb : Nat) (K1 : List KB) (e : KB) (K2 : List KB) (Hx : List Ent) : (SentsAt mb K1 e K2 (x :: Hx)).Perm (x :: SentsAt mb K1 e K2 Hx) := by
 unfold SentsAt
 generalize e.ents = E
 generalize Ent.map mb _ = m
 classical
 exact List.perm_iff_count.2 fun a => by simp only [List.count_append, List.count_cons]; omega
theorem SentsAt_upd {mb : Nat} {K1 : List KB} {e e' : KB} {K2 : List KB} {Hx : List Ent} (h1 : e'.key = e.key) (h2 : e'.blk = e.blk) : SentsAt mb K1 e' K2 Hx = e'.ents ++ (.map mb (KBmap (K1 ++ e :: K2)) :: (KBents (K1 ++ K2) ++ Hx)) := by
 unfold SentsAt KBmap
 simp only [List.map_append, List.map_cons, h1, h2]
def needF (l : FLit) (k : Kn) : Kn := { k with needed := bif k.needed then true else !l.neg }
def slotF (s : Int) (k : Kn) : Kn := if k.slots.contains s then k else { k with slots := sortI (k.slots ++ [s]) }
noncomputable def walkK (l : FLit) : (Value → Kn) → List Int → List Int → (Value → Kn)
 | kn, _, [] => kn
 | kn, pre, s :: r =>
  let kn1 := updK kn (keyS l.f.arg pre) (slotF s (kn (keyS l.f.arg pre)))
  walkK l (updK kn1 (keyS l.f.arg (pre ++ [s])) (needF l (kn1 (keyS l.f.arg (pre ++ [s]))))) (pre ++ [s]) r
noncomputable def add0K (kn : Value → Kn) (l : FLit) : Value → Kn := updK kn (keyS l.f.arg []) (needF l (kn (keyS l.f.arg [])))
noncomputable def addK (kn : Value → Kn) (l : FLit) : Value → Kn :=
 updK (walkK l (add0K kn l) [] l.f.path) (keyS l.f.arg l.f.path) (askK (walkK l (add0K kn l) [] l.f.path (keyS l.f.arg l.f.path)) l)
structure KnB (n : Nat) (k : Kn) : Prop where
 must : k.must < 18446744073709551616
 no : k.no < 18446744073709551616
 nots : k.nots.length ≤ n
 slots : k.slots.length ≤ n
def Bd (n : Nat) (kn : Value → Kn) : Prop := ∀ v, KnB n (kn v)
theorem Bd.upd {n : Nat} {kn : Value → Kn} (h : Bd n kn) {k : Kn} (hk : KnB n k) (key : Value) : Bd n (updK kn key k) := fun v => by
 unfold updK
 split
 ·exact hk
 ·exact h v
theorem KnB.mono {n m : Nat} {k : Kn} (h : KnB n k) (hm : n ≤ m) : KnB m k := ⟨h.must, h.no, Nat.le_trans h.nots hm, Nat.le_trans h.slots hm⟩
theorem Bd.mono {n m : Nat} {kn : Value → Kn} (h : Bd n kn) (hm : n ≤ m) : Bd m kn := fun v => (h v).mono hm
theorem KnB.need {n : Nat} {k : Kn} (h : KnB n k) (l : FLit) : KnB n (needF l k) := ⟨h.must, h.no, h.nots, h.slots⟩
theorem KnB.slot {n : Nat} {k : Kn} (h : KnB n k) (s : Int) : KnB (n + 1) (slotF s k) := by
 unfold slotF
 split
 ·exact h.mono (by omega)
 ·exact ⟨h.must, h.no, Nat.le_trans h.nots (by omega), by show (sortI _).length ≤ _; unfold sortI; rw [List.length_mergeSort]; simp; exact h.slots⟩
theorem KnB.ask {W : FW} {n : Nat} {k : Kn} (h : KnB n k) {l : FLit} (hl : LitOk W l) : KnB (n + 1) (askK k l) := by
 have h' := h.mono (Nat.le_succ n)
 unfold askK
 split
 ·rename_i h2
  have := hl.cls h2
  split
  ·exact ⟨h'.must, or64 h'.no (pow64 (by omega)), h'.nots, h'.slots⟩
  ·exact ⟨or64 h'.must (pow64 (by omega)), h'.no, h'.nots, h'.slots⟩
 ·split
  ·split
   ·exact ⟨h'.must, h'.no, h'.nots, h'.slots⟩
   ·exact ⟨h'.must, h'.no, h'.nots, h'.slots⟩
  ·split
   ·exact ⟨h'.must, h'.no, by simp; exact h.nots, h'.slots⟩
   ·exact ⟨h'.must, h'.no, h'.nots, h'.slots⟩
theorem askK_slots (k : Kn) (l : FLit) : (askK k l).slots = k.slots := by
 unfold askK; split <;> split <;> first | rfl | (split <;> rfl)
theorem KRep.updE {K1 K2 : List KB} {e e' : KB} {kn : Value → Kn} {key : Value} (h : KRep (K1 ++ e :: K2) kn) (hk : e'.key = e.key) (hek : e.key = key) {k : Kn} (hkk : e'.kn = k) : KRep (K1 ++ e' :: K2) (updK kn key k) := by
 subst hek; subst hkk; exact h.upd hk
theorem KRep.kn {K1 K2 : List KB} {e : KB} {kn : Value → Kn} {key : Value} (h : KRep (K1 ++ e :: K2) kn) (hek : e.key = key) : e.kn = kn key := by subst hek; exact (h.has e (by simp)).symm
theorem p165 {W : FW} {l : FLit} (hl : LitOk W l) (hW : W.owner.length ≤ 40) (B mb : Nat) {K : List KB} {kn : Value → Kn} (hK : KRep K kn) {n : Nat} (hB : Bd n kn) (hn : n ≤ 900) (Hx : List Ent) :
  BCall B Tryz.prog 165 [sceneP W mb, AV.lit l] (Sents mb K Hx) (fun y H' => ∃ K', y = .tup [] ∧ KRep K' (addK kn l) ∧ Bd (n + 3) (addK kn l) ∧ H' = Sents mb K' Hx) (fun _ => False) := by
 refine BCall.of (n := 79) Tryz.func165 rfl (by kernel_rfl) rfl rfl (fun I w0 => ?_)
 have hgs : ∀ j, goodSpot l.f.arg (l.f.path.take j) := fun j => ⟨hl.arg.1, by have := hl.arg.2; omega, by have := hl.path; rw [List.length_take]; omega, fun s hs => by have := hl.slot s (List.mem_of_mem_take hs); omega⟩
 have hpl := hl.path
 refine S2 ?_; refine Obx ?_; refine S4 ?_; refine Ofa ?_; refine Ofa ?_; refine Old ?_; refine Obd ?_
 refine OL.alC rfl rfl rfl rfl (fun sb => ?_)
 refine Sto ?_; refine S4 ?_; refine Omv ?_; refine Ola ?_
 refine OL.perm (permIn0 _ _ _ _) ?_
 refine OL.bcallC rfl rfl rfl (.mk' rfl rfl rfl rfl rfl) (pb170 B W mb hK l.f.arg [] (goodKey_of (hgs 0)) (.blk sb 158 (spotCells l.f.arg []) :: Hx)) ?_
 rintro y H1 ⟨K1, e, K2, rfl, hA, rfl⟩
 refine OL.perm (permOut _ _ _ _ _ _) ?_
 refine Oas ?_; refine S4 ?_; refine Omv ?_; refine Omv ?_; refine Onc ?_; refine Ofa ?_; refine Old ?_; refine Omv ?_; refine Pfa ?_; refine Pld ?_; refine Pnt ?_; refine Opk ?_
 refine Onc ?_; refine Ofa ?_; refine Sto ?_; refine S4 ?_
 have hR0 : KRep (K1 ++ { e with kn := needF l e.kn } :: K2) (add0K kn l) := hA.rep.updE (e' := { e with kn := needF l e.kn }) rfl hA.ek (by rw [hA.ekn])
 have hB0 : Bd n (add0K kn l) := hB.upd ((hB _).need l) _
 refine CW.eqH (H' := .blk sb 158 (spotCells l.f.arg []) :: SentsAt mb K1 { e with kn := needF l e.kn } K2 Hx) (congrArg (List.cons _) (SentsAt_upd (e := e) (e' := { e with kn := needF l e.kn }) rfl rfl).symm) ?_
 refine S1 ?_; refine Ofa ?_; refine Ofa ?_; refine Old ?_; refine Oln ?_; refine Omv ?_; refine S3 ?_
 refine lj (fun m st => ∃ (j : Nat) (K1 : List KB) (e : KB) (K2 : List KB) (knj : Value → Kn), st = ⟨[(31, .i j), (30, .i l.f.path.length), (29, AV.ints l.f.path), (5, .p e.blk 0), (4, .p sb 0), (0, sceneP W mb), (3, .ptr (Lcells l))], .blk sb 158 (spotCells l.f.arg (l.f.path.take j)) :: SentsAt mb K1 e K2 Hx⟩ ∧ m = l.f.path.length - j ∧ j ≤ l.f.path.length ∧ KRep (K1 ++ e :: K2) knj ∧ e.key = keyS l.f.arg (l.f.path.take j) ∧ Bd (n + j) knj ∧ walkK l knj (l.f.path.take j) (l.f.path.drop j) = walkK l (add0K kn l) [] l.f.path) (⟨0, K1, _, K2, add0K kn l, rfl, rfl, Nat.zero_le _, hR0, hA.ek, hB0, rfl⟩) ?_
 rintro m _ ⟨j, K1, e, K2, knj, rfl, rfl, hj, hR, hek, hBj, hwk⟩
 refine CW.boundM (t := 29) rfl (fun hbs => ?_)
 refine S2 ?_; refine Ocm ?_; refine S3 ?_
 refine CW.cond rfl (fun h0 => ?_) (fun h0 => ?_)
 ·
  replace h0 := nm h0
  have hjl : j < l.f.path.length := by omega
  obtain ⟨s, hs⟩ : ∃ s, s = l.f.path.getD j default := ⟨_, rfl⟩
  have hsm : s ∈ l.f.path := by rw [hs]; exact getD_mem hjl
  have hss := hl.slot s hsm
  have htk : l.f.path.take (j + 1) = l.f.path.take j ++ [s] := by rw [List.take_succ_eq_append_getElem hjl, hs, getD_lt hjl]
  have hdr : l.f.path.drop j = s :: l.f.path.drop (j + 1) := by rw [List.drop_eq_getElem_cons hjl, hs, getD_lt hjl]
  have hek1 := hR.kn hek
  refine S6 ?_; refine Oix ?_; refine Old ?_; refine Oas ?_; refine S2 ?_
  refine CW.cutJ (fun st => ∃ e1 : KB, st = ⟨[(7, .i s), (31, .i j), (30, .i l.f.path.length), (29, AV.ints l.f.path), (5, .p e1.blk 0), (4, .p sb 0), (0, sceneP W mb), (3, .ptr (Lcells l))], .blk sb 158 (spotCells l.f.arg (l.f.path.take j)) :: SentsAt mb K1 e1 K2 Hx⟩ ∧ KRep (K1 ++ e1 :: K2) (updK knj (keyS l.f.arg (l.f.path.take j)) (slotF s (knj (keyS l.f.arg (l.f.path.take j)))))) ?_ ?_
  ·
   refine S1 ?_
   have hs0 : AV.i (l.f.path.getD j default) = AV.i s := by rw [hs]
   rw [← hs]
   refine S1 ?_; refine Omv ?_; refine Onc ?_; refine Ofa ?_; refine Old ?_; refine Omv ?_
   refine OL.popC rfl rfl rfl (POp.callB (.mk' rfl rfl rfl rfl rfl) (Borrow.row (pre := []) (post := [.i s]) (t := 3) (.tail _ (.tail _ (.tail _ (.head _)))) (by simp [intEls])) (p33 e.kn.slots s)) ?_
   refine Ont ?_; refine S2 ?_
   refine CW.cond rfl (fun h1 => ?_) (fun h1 => ?_)
   ·
    replace h1 := nm h1
    refine S2 ?_; refine Omv ?_; refine Omv ?_; refine Onc ?_; refine Ofa ?_; refine Old ?_; refine Omv ?_
    refine OL.popC rfl rfl rfl (POp.row rfl rfl (by first | rfl | simp_all [strip]) rfl rfl rfl rfl rfl rfl) ?_
    refine OL.appendRow (news := [[AV.i s]]) rfl rfl rfl rfl rfl rfl rfl rfl (AVle.refl _) (by simp) rfl (fun v => by repeat (first | exact Upd.head _ _ _ | apply Upd.tail)) (by have := (hBj (keyS l.f.arg (l.f.path.take j))).slots; rw [← hek1] at this; simp; omega) (by have := (hBj (keyS l.f.arg (l.f.path.take j))).slots; rw [← hek1] at this; simp; omega) (fun v49 => ?_)
    refine Onc ?_; refine Ofa ?_
    refine OL.rowOne (v := v49) (.tail _ (.tail _ (.tail _ (.head _)))) (fun hv49 => ?_)
    apply OL.stoC rfl rfl rfl rfl rfl rfl rfl (one_bOk hv49) (one_all hv49) rfl
    (case hu => repeat (first | exact Upd.head _ _ _ | apply Upd.tail)); (case hfit => rfl); (case hds => rfl)
    refine S3 ?_; refine Omv ?_; refine Onc ?_; refine Ofa ?_; refine Old ?_
    refine OL.eqH (H' := .blk sb 158 (spotCells l.f.arg (l.f.path.take j)) :: .blk e.blk 209 (KBcells e.kn e.vn v49) :: rowE e.vn e.kn.nots :: rowE v49 (e.kn.slots ++ [s]) :: .map mb (KBmap (K1 ++ e :: K2)) :: (KBents (K1 ++ K2) ++ Hx)) (by rw [rowE_snoc]; rfl) ?_
    refine OL.perm (List.perm_middle (l₁ := [_, _, _])) ?_
    refine OL.bcallC rfl rfl rfl (.mk' rfl rfl rfl rfl rfl) (p60 B v49 (e.kn.slots ++ [s]) (by have := (hBj (keyS l.f.arg (l.f.path.take j))).slots; rw [← hek1] at this; simp; omega) _) ?_
    rintro y H1 ⟨rfl, rfl⟩
    refine OL.perm (List.perm_middle (l₁ := [_, _, _])).symm ?_
    refine S1 ?_
    refine Done.perm (H' := .blk sb 158 (spotCells l.f.arg (l.f.path.take j)) :: SentsAt mb K1 { e with kn := { e.kn with slots := sortI (e.kn.slots ++ [s]) }, vs := v49 } K2 Hx) (.of_eq (congrArg (List.cons _) (SentsAt_upd (e := e) (e' := { e with kn := { e.kn with slots := sortI (e.kn.slots ++ [s]) }, vs := v49 }) rfl rfl).symm)) ?_
    exact Done.cutJ ⟨{ e with kn := { e.kn with slots := sortI (e.kn.slots ++ [s]) }, vs := v49 }, rfl, hR.updE (e' := { e with kn := { e.kn with slots := sortI (e.kn.slots ++ [s]) }, vs := v49 }) rfl hek (by rw [← hek1, slotF, if_neg (by simpa using h1)])⟩ (by repeat (first | exact trivial | refine ⟨rfl, ?_⟩)) (by repeat (first | exact List.Sublist.refl _ | refine List.Sublist.cons _ ?_))
   ·
    replace h1 := nm h1
    refine S1 ?_
    exact Done.cutJ ⟨e, rfl, hR.updE rfl hek (by rw [← hek1, slotF, if_pos (by simpa using h1)])⟩ (by repeat (first | exact trivial | refine ⟨rfl, ?_⟩)) (by repeat (first | exact List.Sublist.refl _ | refine List.Sublist.cons _ ?_))
  ·
   rintro _ ⟨e1, rfl, hR1⟩
   have hB1 : Bd (n + j + 1) (updK knj (keyS l.f.arg (l.f.path.take j)) (slotF s (knj (keyS l.f.arg (l.f.path.take j))))) := (hBj.mono (Nat.le_succ _)).upd ((hBj _).slot s) _
   refine S2 ?_; refine Ola ?_; refine Omv ?_
   refine OL.popC rfl rfl rfl (POp.call (.mk' rfl rfl rfl rfl rfl) (p171 l.f.arg (l.f.path.take j) s (by rw [List.length_take]; omega))) ?_
   refine Sto ?_; refine S4 ?_; refine Omv ?_; refine Ola ?_
   refine OL.perm (permIn _ _ _ _ _ _) ?_
   refine OL.bcallC rfl rfl rfl (.mk' rfl rfl rfl rfl rfl) (pb170 B W mb hR1 l.f.arg (l.f.path.take j ++ [s]) (goodKey_of (htk ▸ hgs (j + 1))) (.blk sb 158 (spotCells l.f.arg (l.f.path.take j ++ [s])) :: Hx)) ?_
   rintro y H1 ⟨K3, e2, K4, rfl, hA2, rfl⟩
   refine OL.perm (permOut _ _ _ _ _ _) ?_
   refine Oas ?_; refine S3 ?_; refine Omv ?_; refine Omv ?_; refine Onc ?_; refine Ofa ?_; refine Old ?_; refine Omv ?_; refine Pfa ?_; refine Pld ?_; refine Pnt ?_; refine Opk ?_
   refine Onc ?_; refine Ofa ?_; refine Sto ?_; refine S3 ?_
   refine CW.eqH (H' := .blk sb 158 (spotCells l.f.arg (l.f.path.take j ++ [s])) :: SentsAt mb K3 { e2 with kn := needF l e2.kn } K4 Hx) (congrArg (List.cons _) (SentsAt_upd (e := e2) (e' := { e2 with kn := needF l e2.kn }) rfl rfl).symm) ?_
   have hR2 := hA2.rep.updE (e' := { e2 with kn := needF l e2.kn }) rfl hA2.ek (by rw [hA2.ekn])
   have hek2 := hA2.ek
   have hwk2 := hwk
   rw [hdr, walkK] at hwk2
   rw [← htk] at hek2 hwk2 hR2 ⊢
   refine S1 ?_; refine Oar ?_; refine Omv ?_; refine S1 ?_
   exact ag (⟨j + 1, K3, { e2 with kn := needF l e2.kn }, K4, _, rfl, rfl, by omega, hR2, hek2, hB1.upd ((hB1 _).need l) _, hwk2⟩)
 ·
  replace h0 := nm h0
  obtain rfl : j = l.f.path.length := by omega
  rw [List.drop_length, walkK] at hwk
  rw [List.take_length] at hek ⊢
  subst hwk
  have hek1 := hR.kn hek
  have hbe := hBj (keyS l.f.arg l.f.path)
  have hbe1 := hbe
  rw [← hek1] at hbe1
  refine S6 ?_; refine Omv ?_; refine Ola ?_
  refine OL.perm (List.perm_middle (l₁ := [_, _])).symm ?_
  refine OL.bcallC rfl rfl rfl (.mk' rfl rfl rfl rfl rfl) (p201 hl B e.blk e.kn e.vn e.vs hbe1.must hbe1.no (by have := hbe1.nots; omega) _) ?_
  rintro y H1 ⟨vn2, rfl, rfl⟩
  refine S1 ?_
  refine Done.perm (H' := .blk sb 158 (spotCells l.f.arg l.f.path) :: SentsAt mb K1 { e with kn := askK e.kn l, vn := vn2 } K2 Hx) (by rw [SentsAt_upd (e := e) (e' := { e with kn := askK e.kn l, vn := vn2 }) rfl rfl]; simp only [KB.ents, askK_slots]; exact (List.perm_middle (l₁ := [_, _]))) ?_
  refine Done.perm ((permPick mb K1 _ K2 Hx).symm.cons _) ?_
  refine Done.norR (rs := []) rfl (.nil) (AVleL.refl _) (by exact List.Sublist.cons _ (List.Sublist.refl _)) ?_
  exact ⟨K1 ++ { e with kn := askK e.kn l, vn := vn2 } :: K2, rfl, hR.updE (e' := { e with kn := askK e.kn l, vn := vn2 }) rfl hek (by rw [← hek1]), (hBj.mono (show n + l.f.path.length ≤ n + 3 by omega)).upd ((hbe.ask hl).mono (by omega)) _, rfl⟩
theorem HeapOk.head {B : Nat} {I : Imm} {w : World} {H : List Ent} {e e' : Ent} (hh : HeapOk B I w (e :: H)) (h : e.ok B I w → e'.ok B I w) (hf : e'.foot = e.foot) : HeapOk B I w (e' :: H) := by
 refine ⟨fun f hm => ?_, List.pairwise_cons.2 ⟨fun f hfm b hb => (List.pairwise_cons.1 hh.apart).1 f hfm b (by rw [← hf]; exact hb), (List.pairwise_cons.1 hh.apart).2⟩⟩
 rcases List.mem_cons.1 hm with rfl | hm
 ·exact h (hh.ok _ (.head _))
 ·exact hh.ok f (.tail _ hm)
theorem RelL.replace {I : Imm} {w : World} {x y : AV} (h : ∀ v, Rel I w x v → Rel I w y v) : ∀ {xs ys : List AV} {vs : List Value}, RelL I w (xs ++ x :: ys) vs → RelL I w (xs ++ y :: ys) vs := fun {xs ys vs} hr => by
 obtain ⟨us, zs, rfl, h1, h2⟩ := hr.append_inv
 cases h2 with
 | cons _ v _ zs hx ht => exact h1.append (.cons _ _ _ _ (h v hx) ht)
theorem freezeAll {B : Nat} {w : World} {mb : Nat} {Hx : List Ent} : ∀ (K : List KB) (D : List (Value × AV)) {I : Imm}, WOk B I w → HeapOk B I w (.map mb (D ++ KBmap K) :: (KBents K ++ Hx)) →
  ∃ J, WOk B J w ∧ Ext B I w J w ∧ HeapOk B J w (.map mb (D ++ K.map fun e => (e.key, AV.ptr (Kcells e.kn))) :: Hx)
 | [], D, I, hw, hh => ⟨I, hw, Ext.refl _ _ _, by simpa [KBmap, KBents] using hh⟩
 | e :: K, D, I, hw, hh => by
  have hp : (Ent.map mb (D ++ KBmap (e :: K)) :: (KBents (e :: K) ++ Hx)).Perm (rowE e.vs e.kn.slots :: rowE e.vn e.kn.nots :: .blk e.blk 209 (KBcells e.kn e.vn e.vs) :: .map mb (D ++ KBmap (e :: K)) :: (KBents K ++ Hx)) := by
   unfold KBents
   simp only [List.flatMap_cons, KB.ents]
   classical
   exact List.perm_iff_count.2 fun a => by simp only [List.count_append, List.count_cons, List.count_nil]; omega
  obtain ⟨J1, a1, a2, a3, a4⟩ := HeapOk.freezeRow hw (hh.perm hp) (by simp [intEls])
  obtain ⟨J2, b1, b2, b3, b4⟩ := HeapOk.freezeRow a1 a3 (by simp [intEls])
  obtain ⟨J3, c1, c2, c3, c4⟩ := HeapOk.freezeBlk (ds := Kcells e.kn) b1 b3 (fun vs hv => by
   unfold KBcells at hv
   have h1 := RelL.replace (xs := [_, _]) (y := AV.ints e.kn.nots) (fun v h => by rw [rel_val h]; exact b4) hv
   have h2 := RelL.replace (xs := [_, _, _, _, _, _, _]) (y := AV.ints e.kn.slots) (fun v h => by rw [rel_val h]; exact a4.keep b2.keeps) h1
   exact h2)
  have hd := HeapOk.head c3 (e' := .map mb (D ++ (e.key, AV.ptr (Kcells e.kn)) :: KBmap K)) (fun ⟨q1, ⟨en, cl, q2, q3, q4⟩, q5⟩ => ⟨q1, ⟨en, cl, q2, by rw [q3]; simp [KBmap], by
   simp only [KBmap, List.map_append, List.map_cons] at q4 ⊢
   exact RelL.replace (fun v h => by rw [rel_val h]; exact c4) q4⟩, q5⟩) rfl
  rw [show D ++ (e.key, AV.ptr (Kcells e.kn)) :: KBmap K = (D ++ [(e.key, AV.ptr (Kcells e.kn))]) ++ KBmap K by simp] at hd
  obtain ⟨J, d1, d2, d3⟩ := freezeAll K _ c1 hd
  exact ⟨J, d1, a2.trans (b2.trans (c2.trans d2)), by simpa using d3⟩
theorem Sat.freezeScene {c : Ctx} {a : Act} {w : World} {env : List (Nat × AV)} {mb : Nat} {K : List KB} {kn : Value → Kn} {Hx : List Ent} (hK : KRep K kn) (s : Sat c ⟨env, Sents mb K Hx⟩ a w) : Sat c ⟨env, sceneH mb kn :: Hx⟩ a w := by
 obtain ⟨I, hw, he, hh, hv⟩ := s.mem
 obtain ⟨J, h1, h2, h3⟩ := freezeAll K [] hw (by simpa [Sents] using hh)
 refine ⟨s.ds, s.size, J, h1, he.trans h2, h3.lazy (fun p hp => ?_) (fun v _ hv => ?_), hv.keep h2.keeps⟩
 ·obtain ⟨e, hem, rfl⟩ := List.mem_map.1 hp
  exact ⟨hK.good e hem, by rw [hK.has e hem]⟩
 ·rw [hK.none v (fun e he hek => hv (e.key, AV.ptr (Kcells e.kn)) (by simpa using ⟨e, he, rfl, rfl⟩) hek)]
theorem CW.freezeScene {c : Ctx} {r : Option Nat} {P : Program} {p : Code} {Q : Exit → Act → World → Prop} {env : List (Nat × AV)} {mb : Nat} {K : List KB} {kn : Value → Kn} {Hx : List Ent} (hK : KRep K kn) (h : CW c r P p ⟨env, sceneH mb kn :: Hx⟩ Q) : CW c r P p ⟨env, Sents mb K Hx⟩ Q := fun a w s => h a w (Sat.freezeScene hK s)
noncomputable def stageK (ls : List FLit) : Value → Kn := ls.foldl addK (fun _ => kn0)
theorem stage_take {ls : List FLit} {j : Nat} (h : j < ls.length) : addK (stageK (ls.take j)) (ls.getD j default) = stageK (ls.take (j + 1)) := by
 rw [List.take_succ_eq_append_getElem h, stageK, stageK, List.foldl_append, getD_lt h]; rfl
theorem p115 {W : FW} {ls : List FLit} (hl : ∀ l ∈ ls, LitOk W l) (hW : W.owner.length ≤ 40) (hn : ls.length ≤ 300) (B : Nat) (Hx : List Ent) :
  BCall B Tryz.prog 115 [Wptr W, AV.lits ls] Hx (fun y H' => ∃ mb, y = sceneP W mb ∧ Bd 900 (stageK ls) ∧ H' = sceneH mb (stageK ls) :: Hx) (fun _ => False) := by
 refine BCall.of (n := 23) Tryz.func115 rfl (by kernel_rfl) rfl rfl (fun I w0 => ?_)
 refine S2 ?_; refine Oas ?_; refine S4 ?_; refine Omv ?_
 refine OL.mkMap rfl rfl rfl rfl (fun mb => ?_)
 refine Obd ?_; refine Obx ?_; refine Oas ?_; refine S4 ?_
 refine CW.eqH (H' := Sents mb [] Hx) rfl ?_
 refine S1 ?_; refine Omv ?_; refine Oln ?_; refine Omv ?_; refine S3 ?_
 refine lj (fun m st => ∃ (j : Nat) (K : List KB), st = ⟨[(14, .i j), (13, .i ls.length), (12, AV.lits ls), (5, sceneP W mb)], Sents mb K Hx⟩ ∧ m = ls.length - j ∧ j ≤ ls.length ∧ KRep K (stageK (ls.take j)) ∧ Bd (3 * j) (stageK (ls.take j))) (⟨0, [], rfl, rfl, Nat.zero_le _, ⟨by simp, fun _ _ => rfl, by simp, .nil⟩, fun _ => ⟨by simp [stageK, kn0], by simp [stageK, kn0], by simp [stageK, kn0], by simp [stageK, kn0]⟩⟩) ?_
 rintro m _ ⟨j, K, rfl, rfl, hj, hK, hB⟩
 refine CW.boundM (t := 12) rfl (fun hbs => ?_)
 refine S2 ?_; refine Ocm ?_; refine S3 ?_
 refine CW.cond rfl (fun h0 => ?_) (fun h0 => ?_)
 ·
  replace h0 := nm h0
  have hjl : j < ls.length := by omega
  refine S6 ?_; refine Oix ?_; refine Ola ?_
  refine OL.alC rfl rfl rfl rfl (fun b0 => ?_)
  refine Sto ?_; refine S3 ?_; refine Omv ?_; refine Ola ?_
  refine OL.perm (permIn0 _ _ _ _) ?_
  refine OL.bcallC rfl rfl rfl (.mk' rfl rfl rfl rfl rfl) (p165 (hl _ (getD_mem hjl)) hW B mb hK hB (by omega) _) ?_
  rintro y H1 ⟨K2, rfl, hK2, hB2, rfl⟩
  refine OL.perm (permIn0 _ _ _ _).symm ?_
  rw [stage_take hjl] at hK2 hB2
  refine S4 ?_; refine Oar ?_; refine Omv ?_; refine S1 ?_
  exact ag (⟨j + 1, K2, rfl, rfl, by omega, hK2, hB2.mono (by omega)⟩)
 ·
  replace h0 := nm h0
  obtain rfl : j = ls.length := by omega
  rw [List.take_length] at hK hB
  refine S6 ?_
  refine CW.freezeScene hK ?_
  refine S1 ?_; refine Omv ?_; refine Oas ?_; refine S3 ?_
  refine Done.retR (rs := [.tmp 4]) rfl (.tmp rfl (.nil)) (AVleL.refl _) (by exact List.Sublist.refl _) ?_
  exact ⟨mb, rfl, hB.mono (by omega), rfl⟩
structure KI (W : FW) (kn : Value → Kn) : Prop where
 slot : ∀ v, ∀ s ∈ (kn v).slots, 0 ≤ s ∧ s < W.owner.length
 deep : ∀ arg path, path.length = 2 → (kn (keyS arg path)).slots = []
 low : ∀ v, -1000000000 ≤ (kn v).low ∧ (kn v).low ≤ 1000000000
theorem KI.upd {W : FW} {kn : Value → Kn} (h : KI W kn) {key : Value} {k : Kn} (hs : ∀ s ∈ k.slots, 0 ≤ s ∧ s < W.owner.length) (hd : ∀ arg path, path.length = 2 → keyS arg path = key → k.slots = []) (hl : -1000000000 ≤ k.low ∧ k.low ≤ 1000000000) : KI W (updK kn key k) := by
 refine ⟨fun v => ?_, fun arg path hp => ?_, fun v => ?_⟩ <;> unfold updK <;> split
 ·exact hs
 ·exact h.slot v
 ·rename_i e; exact hd arg path hp e
 ·exact h.deep arg path hp
 ·exact hl
 ·exact h.low v
theorem keyS_len {a b : Int} {p q : List Int} (h : keyS a p = keyS b q) : p.length = q.length := by
 have h1 := congrArg (fun v : Value => match v with | .agg a => (match a.toList[1]? with | some (Value.int _ n) => n | _ => (0 : Int)) | _ => (0 : Int)) h
 simp only [keyV] at h1
 have h2 : (p.length : Int) = q.length := h1
 omega
theorem KI.need {W : FW} {kn : Value → Kn} (h : KI W kn) (l : FLit) (key : Value) : KI W (updK kn key (needF l (kn key))) :=
 h.upd (h.slot key) (fun arg path hp e => by subst e; exact h.deep arg path hp) (h.low key)
theorem KI.slotS {W : FW} {kn : Value → Kn} (h : KI W kn) {s : Int} (hs : 0 ≤ s ∧ s < W.owner.length) (arg : Int) (pre : List Int) (hp : pre.length < 2) : KI W (updK kn (keyS arg pre) (slotF s (kn (keyS arg pre)))) := by
 refine h.upd ?_ (fun arg' path' hp' e => absurd (keyS_len e) (by omega)) ?_
 ·intro x hx
  unfold slotF at hx
  split at hx
  ·exact h.slot _ x hx
  ·rcases List.mem_append.1 (List.mem_mergeSort.1 hx) with hx | hx
   ·exact h.slot _ x hx
   ·simp at hx; subst hx; exact hs
 ·unfold slotF
  split
  ·exact h.low _
  ·exact h.low (keyS arg pre)
theorem KI.walk {W : FW} {l : FLit} : ∀ (r : List Int) {kn : Value → Kn} (pre : List Int), KI W kn → (∀ s ∈ r, 0 ≤ s ∧ s < W.owner.length) → pre.length + r.length ≤ 2 → KI W (walkK l kn pre r)
 | [], kn, pre, h, _, _ => h
 | s :: r, kn, pre, h, hr, hp => by
  rw [walkK]
  simp only [List.length_cons] at hp
  exact KI.walk r (pre ++ [s]) ((h.slotS (hr s (.head _)) _ pre (by omega)).need l _) (fun x hx => hr x (.tail _ hx)) (by simp; omega)
theorem KI.add {W : FW} {kn : Value → Kn} (h : KI W kn) {l : FLit} (hl : LitOk W l) : KI W (addK kn l) := by
 have h1 := KI.walk (l := l) l.f.path [] (h.need l (keyS l.f.arg [])) hl.slot (by have := hl.path; simp; omega)
 unfold addK
 have hn := hl.n
 refine h1.upd (fun s hs => ?_) (fun arg path hp e => ?_) ?_
 ·rw [askK_slots] at hs; exact h1.slot _ s hs
 ·rw [askK_slots]; rw [← e]; exact h1.deep arg path hp
 ·have := h1.low (keyS l.f.arg l.f.path)
  have key : ∀ k : Kn, -1000000000 ≤ k.low ∧ k.low ≤ 1000000000 → -1000000000 ≤ (askK k l).low ∧ (askK k l).low ≤ 1000000000 := by
   intro k hk
   unfold askK
   split
   ·split <;> exact hk
   ·split
    ·split
     ·simp only []; split <;> omega
     ·exact hk
    ·split
     ·exact hk
     ·simp only []; split <;> omega
  exact key _ this
theorem KI.stage {W : FW} {ls : List FLit} (hl : ∀ l ∈ ls, LitOk W l) : KI W (stageK ls) := by
 unfold stageK
 have : ∀ (ls : List FLit) (kn : Value → Kn), KI W kn → (∀ l ∈ ls, LitOk W l) → KI W (ls.foldl addK kn) := by
  intro ls
  induction ls with
  | nil => intro kn h _; exact h
  | cons l ls ih => intro kn h hl; exact ih _ (h.add (hl l (.head _))) (fun x hx => hl x (.tail _ hx))
 exact this ls _ ⟨fun v s hs => by simp [kn0] at hs, fun _ _ _ => rfl, fun v => by show -1000000000 ≤ (-1000000000 : Int) ∧ (-1000000000 : Int) ≤ _; omega⟩ hl
theorem stage_ok {W : FW} {ls : List FLit} (hl : ∀ l ∈ ls, LitOk W l) (hb : Bd 900 (stageK ls)) : KnOk W (stageK ls) :=
 let h := KI.stage hl
 ⟨fun _ _ _ => h.slot _, fun arg path _ hp => h.deep arg path hp, fun v => (hb v).must, fun v => (hb v).no, fun v => by have := h.low v; omega, fun v => by have := (hb v).nots; omega⟩
def clashV : Value := .iface 173 (.agg #[])
theorem assert_clash (w : World) : (Instr.typeAssert clashV 20 173 true).run Tryz.prog w = .ok (.tuple #[.agg #[], .bool true]) w := by
 simp [Instr.typeAssert, clashV, run_underlying (show Tryz.prog.underlying 173 = some (.struct #[]) by kernel_rfl)]
theorem assert_nil (w : World) : (Instr.typeAssert .nilIface 20 173 true).run Tryz.prog w = .ok (.tuple #[.agg #[], .bool false]) w := by
 have h := Tryz.zeroValue173 w
 simp [Instr.typeAssert, run_underlying (show Tryz.prog.underlying 173 = some (.struct #[]) by kernel_rfl), h]
theorem catch_panicking (b : Nat) (x : Bool) (w : World) (hc : w.cell? ⟨b, 0, none⟩ = some (.bool x)) (hz : w.frozen? ⟨b, 0, none⟩ = false) (hb : b < w.heap.size) :
  CallsDIn (Eng.FW none) 0 Tryz.prog 138 #[.pointer (some ⟨b, 0, none⟩)] (.panicking [{ v := clashV, recovered := false }]) w fun e u' w' =>
   e = .returned (.tuple #[]) ∧ u' = .panicking [{ v := clashV, recovered := true }] ∧ w' = (w.alloc (.cells #[] 173)).setCell ⟨b, 0, none⟩ (.bool false) := by
 have hc2 : (w.alloc (.cells #[] 173)).cell? ⟨b, 0, none⟩ = some (.bool x) := by rw [World.cell?_alloc_lt w _ ⟨b, 0, none⟩ hb]; exact hc
 have hz2 : (w.alloc (.cells #[] 173)).frozen? ⟨b, 0, none⟩ = false := by rw [World.frozen?_of_block (Go.RowKit.Below.heap_alloc w _ b hb)]; exact hz
 refine callsDIn_of_wpSIn Tryz.func138 rfl trivial fun c₀ cs hu => ?_
 apply wpSIn_seq
 apply wpSIn_region
 have hta := fun w => assert_clash w
 simp [wpOpsSIn, go_sem, recoverD, hu, Tryz.ntmps138, Exit.thenS, Eng.FW, hta]
 apply wpSIn_seq
 apply wpSIn_region
 simp [wpOpsSIn, go_sem, Exit.thenS]
 refine wpSIn_cond (t := true) (by simp [Act.eval, Array.replicate]) ?_
 simp only [if_true]
 apply wpSIn_region
 simp [wpOpsSIn, go_sem, hc2, hz2, bodyPostS, results, Tryz.results138]
theorem catch_idle (b : Nat) (w : World) :
  CallsDIn (Eng.FW none) 0 Tryz.prog 138 #[.pointer (some ⟨b, 0, none⟩)] .returning w fun e u' w' => e = .returned (.tuple #[]) ∧ u' = .returning ∧ w' = w.alloc (.cells #[] 173) := by
 refine callsDIn_of_wpSIn Tryz.func138 rfl trivial fun c₀ cs hu => ?_
 apply wpSIn_seq
 apply wpSIn_region
 have hta := fun w => assert_nil w
 simp [wpOpsSIn, go_sem, recoverD, hu, Tryz.ntmps138, Exit.thenS, Eng.FW, hta]
 apply wpSIn_seq
 apply wpSIn_region
 simp [wpOpsSIn, go_sem, Exit.thenS]
 refine wpSIn_cond (t := false) (by simp [Act.eval, Array.replicate]) ?_
 simp only [Bool.false_eq_true, if_false]
 refine wpSIn_of_wpIn rfl (wpIn_skip ?_)
 cases c₀
 simp_all [bodyPostS, results, Tryz.results138]
theorem goodSpot0 {arg : Int} (h : 0 ≤ arg ∧ arg < 3) : goodSpot arg [] := ⟨h.1, by omega, by simp, by simp⟩
def wholeK (W : FW) (kn : Value → Kn) (n : Nat) : Bool := (List.range n).all fun i => canK W kn 2 i []
theorem wholeK_succ (W : FW) (kn : Value → Kn) (n : Nat) : wholeK W kn (n + 1) = (wholeK W kn n && canK W kn 2 n []) := by
 simp [wholeK, List.range_succ]
theorem clash_is : AV.is (.iface 173 (.agg [])) (.iface 173 (.agg #[])) := by
 intro I w u h
 cases h with
 | iface _ _ v hv =>
  cases hv with
  | agg _ vs hr =>
   have : vs.toList = [] := List.eq_nil_of_length_eq_zero hr.length
   rw [Array.toList_eq_nil_iff.1 this]
theorem p139 {W : FW} {mb : Nat} {kn : Value → Kn} (K : KnOk W kn) (hw : worldP W = true) (hall : wholeK W kn 3 = true) : PCallIn Tryz.prog [sceneH mb kn] 139 [sceneP W mb] (.tup []) := by
 intro H hm
 refine ACall.mk' (n := 14) Tryz.func139 rfl (by kernel_rfl) rfl rfl (fun B I w0 => ?_)
 refine S2 ?_; refine Omv ?_; refine S3 ?_
 refine lj (fun m st => ∃ i : Nat, st = ⟨[(3, .i i), (0, sceneP W mb)], H⟩ ∧ m = 3 - i ∧ i ≤ 3 ∧ wholeK W kn i = true) (⟨0, rfl, rfl, by omega, rfl⟩) ?_
 rintro m _ ⟨i, rfl, rfl, hi, hwh⟩
 refine S2 ?_; refine Ocm ?_; refine S3 ?_
 refine CW.cond rfl (fun h0 => ?_) (fun h0 => ?_)
 ·
  replace h0 := nm h0
  refine S6 ?_; refine Omv ?_; refine Oas ?_; refine S4 ?_; refine Omv ?_; refine Omv ?_; refine Obd ?_
  refine OL.popC rfl rfl rfl (POp.callIn (.mk' rfl rfl rfl rfl rfl) (AVleL.refl _) (p186 K hw 2 [] (goodSpot0 (arg := i) (by omega)) rfl) (fun e he => by repeat (first | exact hm e he | apply List.mem_cons_of_mem))) ?_
  refine Ont ?_; refine S2 ?_
  refine CW.cond rfl (fun h1 => ?_) (fun h1 => ?_)
  ·
   exfalso
   simp only [wholeK, List.all_eq_true, List.mem_range] at hall
   have := hall i (by omega)
   rw [this] at h1
   cases h1
  ·
   have hc : canK W kn 2 i [] = true := by simpa using h1
   refine S4 ?_; refine Oar ?_; refine Omv ?_; refine S1 ?_
   exact ag (⟨i + 1, rfl, rfl, by omega, by rw [wholeK_succ, hwh, hc]; rfl⟩)
 ·
  replace h0 := nm h0
  refine S4 ?_
  refine Done.norR (rs := []) (H' := H) rfl (.nil) (AVleL.refl _) (by repeat (first | exact List.Sublist.refl _ | refine List.Sublist.cons _ ?_)) ?_
  exact ⟨rfl, rfl⟩
theorem p139x {W : FW} {mb : Nat} {kn : Value → Kn} (K : KnOk W kn) (hw : worldP W = true) (hall : wholeK W kn 3 = false) (B : Nat) (H : List Ent) (hm : ∀ e ∈ [sceneH mb kn], e ∈ H) : XCall B Tryz.prog 139 [sceneP W mb] H clashV := by
 refine XCall.of (n := 14) Tryz.func139 rfl (by kernel_rfl) rfl rfl (fun I w0 => ?_)
 refine S2 ?_; refine Omv ?_; refine S3 ?_
 refine lj (fun m st => ∃ i : Nat, st = ⟨[(3, .i i), (0, sceneP W mb)], H⟩ ∧ m = 3 - i ∧ i ≤ 3 ∧ wholeK W kn i = true) (⟨0, rfl, rfl, by omega, rfl⟩) ?_
 rintro m _ ⟨i, rfl, rfl, hi, hwh⟩
 refine S2 ?_; refine Ocm ?_; refine S3 ?_
 refine CW.cond rfl (fun h0 => ?_) (fun h0 => ?_)
 ·
  replace h0 := nm h0
  refine S6 ?_; refine Omv ?_; refine Oas ?_; refine S4 ?_; refine Omv ?_; refine Omv ?_; refine Obd ?_
  refine OL.popC rfl rfl rfl (POp.callIn (.mk' rfl rfl rfl rfl rfl) (AVleL.refl _) (p186 K hw 2 [] (goodSpot0 (arg := i) (by omega)) rfl) (fun e he => by repeat (first | exact hm e he | apply List.mem_cons_of_mem))) ?_
  refine Ont ?_; refine S2 ?_
  refine CW.cond rfl (fun h1 => ?_) (fun h1 => ?_)
  ·
   replace h1 := nm h1
   refine S1 ?_; refine Obd ?_
   refine OL.popC rfl rfl rfl (POp.makeIface rfl rfl rfl (by kernel_rfl)) ?_
   refine OL.panicX rfl rfl rfl rfl clash_is ?_
   intro a w s
   exact panX (P := Tryz.prog) (fn := Tryz.f139) s
  ·
   have hc : canK W kn 2 i [] = true := by simpa using h1
   refine S4 ?_; refine Oar ?_; refine Omv ?_; refine S1 ?_
   exact ag (⟨i + 1, rfl, rfl, by omega, by rw [wholeK_succ, hwh, hc]; rfl⟩)
 ·
  exfalso
  simp only [decide_eq_false_iff_not] at h0
  obtain rfl : i = 3 := by omega
  rw [hall] at hwh; cases hwh
noncomputable def togetherK (W : FW) (ls : List FLit) : Bool := wholeK W (stageK ls) 3
def dfr (tb : Nat) : Deferred := { target := .fn (.func 138) #[.pointer (some ⟨tb, 0, none⟩)], args := #[] }
theorem leave_f82 {B : Nat} {I0 : Imm} {w0 : World} {env : List (Nat × AV)} {tb : Nat} {x : Bool} {H : List Ent} {a : Act} {w : World} {E : AV → Prop} (hs : ∃ I, WOk B I w ∧ Ext B I0 w0 I w ∧ HeapOk B I w (.blk tb 4 [.b x] :: H) ∧ EnvOk I w (envGet env) a) (ht : envGet env 4 = some (.p tb 0)) :
  LeavesIn (Eng.FW none) 0 Tryz.prog Tryz.f82 a.tmps (RetP B I0 w0 (fun y H' => y = .b x ∧ H' = H) E) [] .returning w := by
 obtain ⟨I, hw, he, hh, hv⟩ := hs
 obtain ⟨v, h1, h2⟩ := ResOk.res (P := Tryz.prog) (c := ⟨B, I0, w0, 0, []⟩) (st := ⟨env, .blk tb 4 [.b x] :: H⟩) hh hv (fn := Tryz.f82) (rs := [.cell 4 4]) rfl (.cell1 inferInstance ht (.head _) rfl .nil)
 exact ⟨v, h1, I, H, hw, he, hh.tail, .inl ⟨v, _, rfl, h2, rfl, rfl⟩⟩
theorem invoke_dfr (tb : Nat) (w : World) : (invoke (.fn (.func 138) #[.pointer (some ⟨tb, 0, none⟩)]) #[]).run Tryz.prog w = .ok (.enter 138 #[.pointer (some ⟨tb, 0, none⟩)]) w := by
 have : fnOk Tryz.prog 138 = true := by kernel_rfl
 have h := run_callFunc this #[.pointer (some ⟨tb, 0, none⟩)] w
 simp [invoke]
theorem ret_f82 {B : Nat} {I0 : Imm} {w0 : World} {env : List (Nat × AV)} {tb : Nat} {x : Bool} {H : List Ent} {a : Act} {w : World} {E : AV → Prop} {n : Nat} (s : Sat ⟨B, I0, w0, n, [dfr tb]⟩ ⟨env, .blk tb 4 [.b x] :: H⟩ a w) (ht : envGet env 4 = some (.p tb 0)) :
  bodyPostDIn (Eng.FW none) 0 Tryz.prog Tryz.f82 (RetP B I0 w0 (fun y H' => y = .b x ∧ H' = H) E) .ret a w := by
 show LeavesIn _ _ _ _ _ _ a.defers .returning w
 rw [s.ds]
 refine leavesIn_cons (f := 138) (args := #[.pointer (some ⟨tb, 0, none⟩)]) (by simp) (by simp [Eng.FW]) (invoke_dfr tb w) (fun _ _ => trivial) ?_
 refine (catch_idle tb w).mono ?_
 rintro e u' w' ⟨rfl, rfl, rfl⟩
 obtain ⟨I, hw, he, hh, hv⟩ := s.mem
 exact leave_f82 ⟨I, hw.alloc _, he.trans (ext_alloc hw _), hh.alloc hw _, hv.keep (keeps_alloc hw _)⟩ ht
theorem pan_f82 {B : Nat} {I0 : Imm} {w0 : World} {env : List (Nat × AV)} {tb : Nat} {x : Bool} {H : List Ent} {a : Act} {w : World} {E : AV → Prop} {n : Nat} (s : Sat ⟨B, I0, w0, n, [dfr tb]⟩ ⟨env, .blk tb 4 [.b x] :: H⟩ a w) (ht : envGet env 4 = some (.p tb 0)) :
  bodyPostDIn (Eng.FW none) 0 Tryz.prog Tryz.f82 (RetP B I0 w0 (fun y H' => y = .b false ∧ H' = H) E) (.panic [{ v := clashV, recovered := false }]) a w := by
 show LeavesIn _ _ _ _ _ _ a.defers (.panicking [{ v := clashV, recovered := false }]) w
 rw [s.ds]
 obtain ⟨I, hw, he, hh, hv⟩ := s.mem
 obtain ⟨hB, vs, hb, hr, hni⟩ := hh.ok _ (.head _)
 have hvs : vs = #[.bool x] := by
  have h1 := rel_vals (vs := [.bool x]) hr
  exact Array.toList_inj.1 h1
 subst hvs
 have hlt : tb < w.heap.size := (Array.getElem?_eq_some_iff.1 hb).1
 refine leavesIn_cons (f := 138) (args := #[.pointer (some ⟨tb, 0, none⟩)]) (by simp) (by simp [Eng.FW]) (invoke_dfr tb w) (fun _ _ => trivial) ?_
 refine (catch_panicking tb x w (by rw [cell_of_blk hb]; rfl) (by simp [World.frozen?, hb]) hlt).mono ?_
 rintro e u' w' ⟨rfl, rfl, rfl⟩
 have hw1 := hw.alloc (.cells #[] 173)
 have hh1 := hh.alloc hw (.cells #[] 173)
 have hb1 : (w.alloc (.cells #[] 173)).heap[tb]? = some (.cells #[.bool x] 4 (0, 0)) := by rw [Go.RowKit.Below.heap_alloc w _ tb hlt]; exact hb
 have hk1 := keeps_alloc hw (.cells #[] 173)
 have he1 := he.trans (ext_alloc hw (.cells #[] 173))
 have hv1 := hv.keep hk1
 generalize w.alloc (.cells #[] 173) = w1 at *
 have hset : (w1.setCell ⟨tb, 0, none⟩ (.bool false)).heap[tb]? = some (.cells #[.bool false] 4 (0, 0)) := one_setCell hb1
 have hcell : ∀ b i, I b i → (w1.setCell ⟨tb, 0, none⟩ (.bool false)).cell? ⟨b, i, none⟩ = w1.cell? ⟨b, i, none⟩ := fun b i hI =>
  World.cell?_of_block (a := ⟨b, i, none⟩) (Go.RowKit.Below.heap_setCell _ _ _ _ (fun e => hni i (by rw [← (show b = tb from e)]; exact hI)))
 have hk2 : Keeps I w1 I (w1.setCell ⟨tb, 0, none⟩ (.bool false)) := ⟨fun _ _ h => h, hcell⟩
 have hbel := (Go.RowKit.Below.refl B w1).setCell (p := ⟨tb, 0, none⟩) hB (.bool false)
 exact leave_f82 (x := false) (env := env) ⟨I, ⟨Nat.le_trans hw1.base hbel.size, fun b i hI => by rw [hcell b i hI]; exact hw1.there b i hI⟩, he1.trans ⟨fun _ _ h => h, hcell, hbel⟩,
  hh1.upd (.head _ _ _) hk2 (fun b _ hne => Go.RowKit.Below.heap_setCell _ _ _ _ (fun e => hne (by rw [show b = tb from e]; rfl))) (fun _ _ h => .inl h) ⟨hB, #[.bool false], hset, .cons _ _ _ _ (.val _) .nil, hni⟩ (fun _ h => .inl h), hv1.keep hk2⟩ ht
theorem p82 {W : FW} (hw : worldP W = true) {ls : List FLit} (hl : ∀ l ∈ ls, LitOk W l) (hn : ls.length ≤ 300) : PCall Tryz.prog 82 [Wptr W, AV.lits ls] (.b (togetherK W ls)) := by
 intro H
 refine ACall.mkD (n := 10) Tryz.func82 rfl (by kernel_rfl) rfl rfl (fun B I w0 => ?_)
 refine S2 ?_
 refine OL.alC rfl rfl rfl rfl (fun tb => ?_)
 refine S4 ?_; refine Omf ?_
 refine OL.deferC (vs := [.pointer (some ⟨tb, 0, none⟩)]) rfl rfl rfl rfl rfl rfl ?_
 refine S4 ?_; refine Omv ?_; refine Omv ?_
 refine OL.bcallC rfl rfl rfl (.mk' rfl rfl rfl rfl rfl) (p115 hl (world_own hw) hn _ _) ?_
 rintro y H1 ⟨mb, rfl, hB, rfl⟩
 have hK := stage_ok hl hB
 cases hT : togetherK W ls
 ·
  refine OL.xcall rfl (.mk' rfl rfl rfl rfl rfl) (p139x hK hw hT _ _ (by simp)) ?_
  intro a w s
  exact pan_f82 (s.weaken (st' := ⟨_, .blk tb 4 [.b false] :: H⟩) (fun _ _ h => h) (List.sublist_cons_self _ _)) (by rfl)
 ·
  refine OL.bcallC rfl rfl rfl (.mk' rfl rfl rfl rfl rfl) (p139 hK hw hT _ (by simp)).b ?_
  rintro y H1 ⟨rfl, rfl⟩
  refine S4 ?_; refine Sto ?_; refine S3 ?_
  intro a w s
  exact ret_f82 (s.weaken (st' := ⟨_, .blk tb 4 [.b true] :: H⟩) (fun _ _ h => h) (List.sublist_cons_self _ _)) (by rfl)
def CaseOk (W : FW) (c : List FLit) : Prop := (∀ l ∈ c, LitOk W l) ∧ c.length ≤ 300
structure GoodF (W : FW) (f : Fact) : Prop where
 ok : okB f = true
 nodes : nodesN f ≤ 1000
 case : ∀ b, ∀ c ∈ casesP f b, CaseOk W c
noncomputable def canF (W : FW) (f : Fact) : Bool := (casesP f false).any (togetherK W)
theorem canF_no {W : FW} {f : Fact} (h : ∀ y ∈ casesP f false, togetherK W y = false) : canF W f = false := by
 rw [canF, List.any_eq_false]; intro x hx; rw [h x hx]; simp
theorem canF_yes {W : FW} {f : Fact} {pre : List (List FLit)} (hp : pre <+: casesP f false) {y : List FLit} (hy : y ∈ pre) (h : togetherK W y = true) : canF W f = true := by
 rw [canF, List.any_eq_true]; exact ⟨y, hp.subset hy, h⟩
theorem p84 {W : FW} (hw : worldP W = true) {f : Fact} (hG : GoodF W f) : PCall Tryz.prog 84 [Wptr W, AV.fact f] (.b (canF W f)) := by
 intro H
 refine ACall.mkM (n := 14) Tryz.func84 rfl (by kernel_rfl) rfl rfl (fun B I w0 => ?_)
 refine S2 ?_; refine Obx ?_; refine Obx ?_; refine Oas ?_; refine S2 ?_
 refine CW.scope ?_
 refine S2 ?_
 refine OL.alC rfl rfl rfl rfl (fun fb => ?_)
 refine Sto ?_; refine S3 ?_
 refine CW.label ?_
 refine S4 ?_; refine Ola ?_
 refine OL.popC rfl rfl rfl (POp.call (.mk' rfl rfl rfl rfl rfl) ((p81 _ _))) ?_
 refine S3 ?_
 refine CW.weaken (st' := ⟨[(2, .ptr [Wptr W]), (5, .p fb 0), (8, .fn (.func 132) [] [.ptr (Fcells f), .ptr [.b false]]), (3, .ptr (Fcells f))], [.blk fb 4 [.b false]] ++ H⟩) (by repeat (first | exact trivial | refine ⟨rfl, ?_⟩)) (by repeat (first | exact List.Sublist.refl _ | refine List.Sublist.cons _ ?_)) ?_
 refine CW.rangeFunc (AV.lits) (casesP f false) (fun pre H1 => H1 = [.blk fb 4 [.b false]] ∧ ∀ y ∈ pre, togetherK W y = false) (fun code pre H1 => code = .exit 0 ∧ H1 = [.blk fb 4 [.b true]] ∧ ∃ y ∈ pre, togetherK W y = true) ([.blk fb 4 [.b false]]) (H) (fun x => [(6, AV.lits x), (9, AV.lits x), (2, .ptr [Wptr W]), (5, .p fb 0), (8, .fn (.func 132) [] [.ptr (Fcells f), .ptr [.b false]]), (3, .ptr (Fcells f))]) rfl rfl rfl rfl (seq132 f hG.ok hG.nodes false) (⟨rfl, by simp⟩) ?_ ?_ ?_ ?_
 ·intro l0 I1 w1 x Hy
  refine S1 ?_; refine Oas ?_; refine S1 ?_
  exact fun a w s => ⟨_, rfl, s⟩
 ·intro l0 D0 lp pre x H1 Hy I1 w1 hpre hJ
  obtain ⟨rfl, hJp⟩ := hJ
  obtain ⟨hxl, hxn⟩ := hG.case false x (hpre.subset (by simp))
  refine S3 ?_; refine Old ?_; refine Omv ?_
  refine OL.popC rfl rfl rfl (POp.call (.mk' rfl rfl rfl rfl rfl) (p82 hw hxl hxn)) ?_
  refine S2 ?_
  refine CW.cond rfl (fun h0 => ?_) (fun h0 => ?_)
  ·
   have h0 := h0
   refine S2 ?_; refine Sto ?_; refine S4 ?_
   exact Done.roundE (by repeat (first | exact List.Sublist.refl _ | refine List.Sublist.cons _ ?_)) (⟨rfl, rfl, x, by simp, h0⟩)
  ·
   have h0 := h0
   refine S2 ?_
   exact Done.roundN (by repeat (first | exact List.Sublist.refl _ | refine List.Sublist.cons _ ?_)) (⟨rfl, fun y hy => by rcases List.mem_append.1 hy with hy | hy; exact hJp y hy; simp at hy; subst hy; exact h0⟩)
 ·intro D0 H1 hJ
  obtain ⟨rfl, hJp⟩ := hJ
  have hc := canF_no hJp
  refine S4 ?_; refine Old ?_; refine Oas ?_; refine S3 ?_
  refine Done.scopeR ?_
  refine Done.retM1 (rs := [.tmp 4]) (H' := H) rfl (by repeat (first | exact Del.head _ _ | apply Del.tail)) (.tmp rfl (.nil)) (AVleL.refl _) (by repeat (first | exact List.Sublist.refl _ | refine List.Sublist.cons _ ?_)) ?_
  exact ⟨retB (by rw [hc]), rfl⟩
 ·intro D0 code0 pre H1 hpre hJx
  obtain ⟨rfl, rfl, y, hy, hyt⟩ := hJx
  have hc := canF_yes hpre hy hyt
  ·
   refine S5 ?_; refine Old ?_; refine Oas ?_; refine S3 ?_
   refine Done.scopeR ?_
   refine Done.retM1 (rs := [.tmp 4]) (H' := H) rfl (by repeat (first | exact Del.head _ _ | apply Del.tail)) (.tmp rfl (.nil)) (AVleL.refl _) (by repeat (first | exact List.Sublist.refl _ | refine List.Sublist.cons _ ?_)) ?_
   exact ⟨retB (by rw [hc]), rfl⟩
theorem PCall.weak {P : Program} {f : FuncId} {xs : List AV} {y z : AV} (h : PCall P f xs y) (hle : AVle y z) : PCall P f xs z := fun H =>
 ⟨(h H).1, fun B I w vs hw hh hv => ((h H).2 B I w vs hw hh hv).mono fun e w' ⟨I', H', a, b, d, hr⟩ => ⟨I', H', a, b, d, hr.elim (fun ⟨v, x, e1, e2, e3, e4⟩ => .inl ⟨v, z, e1, hle _ _ _ (e3 ▸ e2), rfl, e4⟩) (fun ⟨_, _, _, _, h⟩ => h.elim)⟩⟩
def nodeOkB (W : FW) (f : Fact) : Bool := decide (1 ≤ f.op) && decide (f.op ≤ 7) && ((f.kids.length : Int) == kidsP f.op) && (if leafP f then argP W f && leafOkP W f else plainP f)
mutual
def wfB (W : FW) : Fact → Bool
 | .mk op arg path cls n kids => nodeOkB W (.mk op arg path cls n kids) && wfBs W kids
def wfBs (W : FW) : List Fact → Bool
 | [] => true
 | f :: r => wfB W f && wfBs W r
end
theorem wfBs_mem {W : FW} : ∀ {l : List Fact}, wfBs W l = true ↔ ∀ k ∈ l, wfB W k = true
 | [] => by simp [wfBs]
 | x :: r => by simp [wfBs, wfBs_mem (l := r)]
theorem wfB_iff {W : FW} {f : Fact} : wfB W f = true ↔ nodeOkB W f = true ∧ ∀ k ∈ f.kids, wfB W k = true := by
 cases f; rw [wfB, Bool.and_eq_true, wfBs_mem]; rfl
theorem leaf_kids {W : FW} {f : Fact} (h : nodeOkB W f = true) (hl : leafP f = true) : f.kids = [] := by
 simp only [nodeOkB, leafP, Bool.and_eq_true, decide_eq_true_eq, beq_iff_eq] at h hl
 have : kidsP f.op = 0 := by rw [kidsP, if_neg (by omega), if_neg (by omega)]
 rw [this] at h
 exact List.eq_nil_of_length_eq_zero (by omega)
mutual
theorem node_wf (W : FW) : ∀ (f : Fact) (left deep : Int), (nodeP W f left deep).1 = true → wfB W f = true ∧ (nodeP W f left deep).2 = left - nodesN f
 | .mk op arg path cls n kids, left, deep, h => by
  rw [nodeP] at h ⊢
  rw [wfB, nodesN]
  by_cases h1 : badP (.mk op arg path cls n kids) (left - 1) deep = true
  ·rw [if_pos h1] at h; cases h
  ·rw [if_neg h1] at h ⊢
   have hk : nodeOkB W (.mk op arg path cls n kids) = (if leafP (.mk op arg path cls n kids) then argP W (.mk op arg path cls n kids) && leafOkP W (.mk op arg path cls n kids) else plainP (.mk op arg path cls n kids)) := by
    simp only [badP, Bool.not_eq_true, Bool.or_eq_false_iff, decide_eq_false_iff_not, bne_eq_false_iff_eq] at h1
    rw [nodeOkB]
    rw [show (decide (1 ≤ (Fact.mk op arg path cls n kids).op) && decide ((Fact.mk op arg path cls n kids).op ≤ 7) && (((Fact.mk op arg path cls n kids).kids.length : Int) == kidsP (Fact.mk op arg path cls n kids).op)) = true by
     simp only [Bool.and_eq_true, decide_eq_true_eq, beq_iff_eq]; exact ⟨⟨by omega, by omega⟩, h1.2⟩]
    rfl
   by_cases h2 : leafP (.mk op arg path cls n kids) = true
   ·rw [if_pos h2] at h ⊢
    rw [if_pos h2] at hk
    have h' : (argP W (.mk op arg path cls n kids) && leafOkP W (.mk op arg path cls n kids)) = true := h
    have hn : nodeOkB W (.mk op arg path cls n kids) = true := hk.trans h'
    have hkk : kids = [] := leaf_kids hn h2
    subst hkk
    refine ⟨by rw [hn]; rfl, by simp [nodesNs]⟩
   ·rw [if_neg h2] at h ⊢
    rw [if_neg h2] at hk
    by_cases h3 : plainP (.mk op arg path cls n kids) = true
    ·rw [if_pos h3] at h ⊢
     have := nodes_wf W kids (left - 1) (deep - 1) h
     refine ⟨by rw [hk, h3, this.1]; rfl, by rw [this.2]; omega⟩
    ·rw [if_neg h3] at h; cases h
theorem nodes_wf (W : FW) : ∀ (l : List Fact) (left deep : Int), (nodesP W l left deep).1 = true → wfBs W l = true ∧ (nodesP W l left deep).2 = left - nodesNs l
 | [], left, deep, h => by rw [nodesP, wfBs, nodesNs]; simp
 | k :: r, left, deep, h => by
  rw [nodesP] at h ⊢
  rw [wfBs, nodesNs]
  by_cases h1 : (nodeP W k left deep).1 = true
  ·rw [if_pos h1] at h ⊢
   have a := node_wf W k left deep h1
   have b := nodes_wf W r _ deep h
   exact ⟨by rw [a.1, b.1]; rfl, by rw [b.2, a.2]; omega⟩
  ·rw [if_neg h1] at h; exact absurd h h1
end
theorem formed_wf {W : FW} {f : Fact} (h : formedP W f = true) : wfB W f = true ∧ nodesN f ≤ 24 := by
 have h1 := node_wf W f 24 12 h
 have h2 := (nodeP_left W f 24 12).2 h
 exact ⟨h1.1, by omega⟩
theorem wf_ok {W : FW} : ∀ f : Fact, wfB W f = true → okB f = true := by
 refine Fact.ind1 fun f ih h => ?_
 obtain ⟨h1, h2⟩ := wfB_iff.1 h
 have h3 : f.path.length ≤ 1000 := by
  simp only [nodeOkB, Bool.and_eq_true] at h1
  have := h1.2
  split at this
  ·simp only [argP, pathP, Bool.and_eq_true, Bool.not_eq_true', Bool.or_eq_false_iff, Bool.not_eq_false', decide_eq_true_eq] at this
   have := this.1.2.1; omega
  ·simp only [plainP, Bool.not_eq_true', Bool.or_eq_false_iff, decide_eq_false_iff_not] at this
   have := this.1.1.2; omega
 simp only [nodeOkB, Bool.and_eq_true, decide_eq_true_eq, beq_iff_eq] at h1
 have hk : ∀ l : List Fact, (∀ k ∈ l, okB k = true) → okBs l = true := by
  intro l
  induction l with
  | nil => intro _; rfl
  | cons x r ihr => intro hx; rw [okBs, hx x (.head _), ihr (fun k hk => hx k (.tail _ hk))]; rfl
 cases f
 rw [okB]
 simp only [Fact.op, Fact.kids, Fact.path] at h1 h3 h2 ih
 simp only [Bool.and_eq_true, decide_eq_true_eq, beq_iff_eq]
 exact ⟨⟨⟨⟨h1.1.1.1, h1.1.1.2⟩, h1.1.2⟩, h3⟩, hk _ (fun k hkm => ih k hkm (h2 k hkm))⟩
theorem joined_mem {a b : List FLit} {l : FLit} (h : l ∈ joinedP a b) : l ∈ a ∨ l ∈ b := by
 unfold joinedP at h
 induction b generalizing a with
 | nil => exact .inl h
 | cons x r ih =>
  rcases ih (a := joinStep a x) h with h | h
  ·unfold joinStep at h
   split at h
   ·exact .inl h
   ·rcases List.mem_append.1 h with h | h
    ·exact .inl h
    ·simp at h; subst h; exact .inr (.head _)
  ·exact .inr (.tail _ h)
theorem wf_lits {W : FW} : ∀ f : Fact, wfB W f = true → ∀ b, ∀ c ∈ casesP f b, ∀ l ∈ c, nodeOkB W l.f = true ∧ leafP l.f = true := by
 refine Fact.ind1 fun f ih h b c hc l hl => ?_
 obtain ⟨hn, hk⟩ := wfB_iff.1 h
 have hok := wf_ok f h
 by_cases h1 : f.op = 1
 ·rw [cases_true h1] at hc
  cases b <;> simp at hc
  subst hc; cases hl
 by_cases h5 : f.op = 5
 ·have hk1 := kids_one hok h5
  rw [cases_not h5 (by omega)] at hc
  exact ih _ (getD_mem (by omega)) (hk _ (getD_mem (by omega))) _ c hc l hl
 by_cases hlf : leafP f = true
 ·rw [cases_leaf h1 h5 hlf] at hc
  simp at hc; subst hc; simp at hl; subst hl
  exact ⟨hn, hlf⟩
 ·have hlf' : leafP f = false := by simpa using hlf
  have hk2 := kids_two hok h1 h5 hlf'
  have i0 := ih (f.kids.getD 0 default) (getD_mem (by omega)) (hk _ (getD_mem (by omega))) b
  have i1 := ih (f.kids.getD 1 default) (getD_mem (by omega)) (hk _ (getD_mem (by omega))) b
  cases hcc : (b == (f.op == 6)) with
  | true =>
   rw [cases_either h1 h5 hlf' hcc (by omega)] at hc
   rcases List.mem_append.1 hc with h | h
   ·exact i0 c h l hl
   ·exact i1 c h l hl
  | false =>
   rw [cases_both h1 h5 hlf' hcc (by omega)] at hc
   obtain ⟨x, hx, hc⟩ := List.mem_flatMap.1 hc
   obtain ⟨y, hy, rfl⟩ := List.mem_map.1 hc
   rcases joined_mem hl with h | h
   ·exact i0 x hx l h
   ·exact i1 y hy l h
theorem lit_ok {W : FW} (hw : worldP W = true) {l : FLit} (h : nodeOkB W l.f = true) (hl : leafP l.f = true) : LitOk W l := by
 have hP := world_len hw
 have hkids := leaf_kids h hl
 simp only [nodeOkB, Bool.and_eq_true] at h
 have h2 := h.2
 rw [if_pos hl] at h2
 simp only [leafP, Bool.and_eq_true, decide_eq_true_eq] at hl
 simp only [argP, pathP, Bool.and_eq_true, Bool.not_eq_true', Bool.or_eq_false_iff, Bool.not_eq_false', decide_eq_true_eq, decide_eq_false_iff_not, List.all_eq_true, slotP] at h2
 obtain ⟨⟨⟨ha1, ha2⟩, hp1, hp2⟩, ho⟩ := h2
 unfold leafOkP at ho
 refine ⟨hl, fun h3 => ?_, ?_, ⟨by omega, by omega⟩, by omega, hp2, hkids⟩
 ·rw [if_pos h3] at ho
  simp only [classP, Bool.and_eq_true, decide_eq_true_eq] at ho
  exact ⟨ho.2.1, by have := ho.2.2; omega⟩
 ·split at ho
  ·simp only [Bool.and_eq_true, beq_iff_eq] at ho; omega
  ·simp only [Bool.and_eq_true, beq_iff_eq, decide_eq_true_eq] at ho; omega
theorem good_of {W : FW} (hw : worldP W = true) {f : Fact} (h : wfB W f = true) (hn : nodesN f ≤ 300) : GoodF W f :=
 ⟨wf_ok f h, by omega, fun b c hc => ⟨fun l hl => let ⟨a, b⟩ := wf_lits f h b c hc l hl; lit_ok hw a b, Nat.le_trans (cases_len f (wf_ok f h) b c hc) hn⟩⟩
theorem wf_not {W : FW} {f : Fact} (h : wfB W f = true) : wfB W (notF f) = true := by
 rw [wfB_iff]; refine ⟨by rfl, fun k hk => ?_⟩; simp [notF, Fact.kids] at hk; subst hk; exact h
theorem wf_and {W : FW} {f g : Fact} (h : wfB W f = true) (h' : wfB W g = true) : wfB W (andF f g) = true := by
 rw [wfB_iff]; refine ⟨by rfl, fun k hk => ?_⟩; simp [andF, Fact.kids] at hk; rcases hk with rfl | rfl <;> assumption
theorem nodes_not (f : Fact) : nodesN (notF f) = nodesN f + 1 := by simp [notF, nodesN, nodesNs]; omega
theorem nodes_and (f g : Fact) : nodesN (andF f g) = nodesN f + nodesN g + 1 := by simp [andF, nodesN, nodesNs]; omega
noncomputable def impF (W : FW) (a b : Fact) : Bool := !canF W (andF a (notF b))
def goodP (W : FW) (l : List Fact) : Bool := worldP W && l.all (formedP W)
theorem p80g {W : FW} {l : List Fact} (h : goodP W l = true) : PCall Tryz.prog 80 [AV.world W, AV.facts l] (.tup [Wptr W, .b true]) := by
 simp only [goodP, Bool.and_eq_true] at h
 have := p80t h.1 l
 rwa [h.2] at this
theorem p80n {W : FW} {l : List Fact} (h : goodP W l = false) : PCall Tryz.prog 80 [AV.world W, AV.facts l] (.tup [.one, .b false]) := by
 cases hw : worldP W with
 | false => exact p80f hw l
 | true =>
  rw [goodP, hw, Bool.true_and] at h
  have := p80t hw l
  rw [h] at this
  exact PCall.weak this (AVle.tup (.cons (AVle.one rfl (fun _ h => by cases h)) (.cons (.refl _) .nil)))
theorem p94 {W : FW} (hw : worldP W = true) {a b : Fact} (ha : wfB W a = true) (hb : wfB W b = true) (hna : nodesN a ≤ 100) (hnb : nodesN b ≤ 100) : PCall Tryz.prog 94 [Wptr W, AV.fact a, AV.fact b] (.b (impF W a b)) := by
 intro H
 refine ACall.mk' (n := 14) Tryz.func94 rfl (by kernel_rfl) rfl rfl (fun B I w0 => ?_)
 refine S2 ?_; refine Obx ?_; refine Obx ?_; refine Oas ?_; refine S3 ?_
 refine CW.dp mixed ?_
 refine DP.anyC 0 5 14 rfl (by decide +kernel) rfl rfl (by decide +kernel) ?_
 refine Amv ?_; refine Ala ?_; refine Ala ?_
 refine AD.popC rfl rfl rfl (POp.call (.mk' rfl rfl rfl rfl rfl) (p140 b)) ?_
 refine AD.popC rfl rfl rfl (POp.call (.mk' rfl rfl rfl rfl rfl) (p143 a (notF b))) ?_
 refine AD.nil ?_
 refine DP.tailC 5 (by decide +kernel) rfl ?_
 refine OL.popC rfl rfl rfl (POp.call (.mk' rfl rfl rfl rfl rfl) (p84 hw (good_of hw (wf_and ha (wf_not hb)) (by rw [nodes_and, nodes_not]; omega)))) ?_
 refine Ont ?_; refine Oas ?_; refine S3 ?_
 refine r1 6 (H) ?_
 exact ⟨by first | rfl | exact retI (by simp_all) | exact retB (by simp_all) | simp_all, rfl⟩
theorem good_w {W : FW} {l : List Fact} (h : goodP W l = true) : worldP W = true := by simp only [goodP, Bool.and_eq_true] at h; exact h.1
theorem good_f {W : FW} {l : List Fact} (h : goodP W l = true) {f : Fact} (hf : f ∈ l) : wfB W f = true ∧ nodesN f ≤ 24 := by
 simp only [goodP, Bool.and_eq_true, List.all_eq_true] at h; exact formed_wf (h.2 f hf)
theorem p18g {W : FW} {f : Fact} (h : goodP W [f] = true) : PCall Tryz.prog 18 [AV.world W, AV.fact f] (.tup [.b (canF W f), .i 0]) := by
 intro H
 refine ACall.mk' (n := 20) Tryz.func18 rfl (by kernel_rfl) rfl rfl (fun B I w0 => ?_)
 refine S2 ?_; refine Obx ?_; refine Obx ?_; refine Oas ?_; refine Oas ?_; refine S4 ?_; refine Ola ?_; refine Ola ?_
 refine OL.popC rfl rfl rfl (POp.row rfl rfl (by first | rfl | simp_all [strip]) rfl rfl rfl rfl rfl rfl) ?_
 refine OL.popC rfl rfl rfl (POp.callLe (.mk' rfl rfl rfl rfl rfl) (.cons (.refl _) (.cons (AVle_facts [f] rfl) .nil)) (p80g h)) ?_
 refine Omv ?_; refine Oex ?_; refine Oex ?_; refine Oas ?_; refine Oas ?_; refine S5 ?_; refine Omv ?_; refine Ont ?_; refine S2 ?_
 refine CW.cond rfl (fun h0 => ?_) (fun h0 => ?_)
 ·
  cases h0
 ·
  refine S4 ?_; refine Omv ?_; refine Ola ?_
  refine OL.popC rfl rfl rfl (POp.call (.mk' rfl rfl rfl rfl rfl) (p84 (good_w h) (good_of (good_w h) (good_f h (.head _)).1 (Nat.le_trans (good_f h (.head _)).2 (by omega))))) ?_
  refine Oas ?_; refine Oas ?_; refine S3 ?_
  refine Done.retR (rs := [.tmp 4, .tmp 5]) (H' := H) rfl (.tmp rfl (.tmp rfl (.nil))) (AVleL.refl _) (by repeat (first | exact List.Sublist.refl _ | refine List.Sublist.cons _ ?_)) ?_
  exact ⟨by first | rfl | exact retI (by simp_all) | exact retB (by simp_all) | simp_all, rfl⟩
theorem p24g {W : FW} {a b : Fact} (h : goodP W [a, b] = true) : PCall Tryz.prog 24 [AV.world W, AV.fact a, AV.fact b] (.tup [.b (impF W a b), .i 0]) := by
 intro H
 refine ACall.mk' (n := 24) Tryz.func24 rfl (by kernel_rfl) rfl rfl (fun B I w0 => ?_)
 refine S2 ?_; refine Obx ?_; refine Obx ?_; refine Obx ?_; refine Oas ?_; refine Oas ?_; refine S4 ?_; refine Ola ?_; refine Ola ?_; refine Ola ?_
 refine OL.popC rfl rfl rfl (POp.row rfl rfl (by first | rfl | simp_all [strip]) rfl rfl rfl rfl rfl rfl) ?_
 refine OL.popC rfl rfl rfl (POp.callLe (.mk' rfl rfl rfl rfl rfl) (.cons (.refl _) (.cons (AVle_facts [a, b] rfl) .nil)) (p80g h)) ?_
 refine Omv ?_; refine Oex ?_; refine Oex ?_; refine Oas ?_; refine Oas ?_; refine S5 ?_; refine Omv ?_; refine Ont ?_; refine S2 ?_
 refine CW.cond rfl (fun h0 => ?_) (fun h0 => ?_)
 ·
  cases h0
 ·
  refine S4 ?_; refine Omv ?_; refine Ola ?_; refine Ola ?_
  refine OL.popC rfl rfl rfl (POp.call (.mk' rfl rfl rfl rfl rfl) (p94 (good_w h) (good_f h (.head _)).1 (good_f h (.tail _ (.head _))).1 (Nat.le_trans (good_f h (.head _)).2 (by omega)) (Nat.le_trans (good_f h (.tail _ (.head _))).2 (by omega)))) ?_
  refine Oas ?_; refine Oas ?_; refine S3 ?_
  refine Done.retR (rs := [.tmp 6, .tmp 7]) (H' := H) rfl (.tmp rfl (.tmp rfl (.nil))) (AVleL.refl _) (by repeat (first | exact List.Sublist.refl _ | refine List.Sublist.cons _ ?_)) ?_
  exact ⟨by first | rfl | exact retI (by simp_all) | exact retB (by simp_all) | simp_all, rfl⟩
theorem p24n {W : FW} {a b : Fact} (h : goodP W [a, b] = false) : PCall Tryz.prog 24 [AV.world W, AV.fact a, AV.fact b] (.tup [.b false, .i 2]) := by
 intro H
 refine ACall.mk' (n := 24) Tryz.func24 rfl (by kernel_rfl) rfl rfl (fun B I w0 => ?_)
 refine S2 ?_; refine Obx ?_; refine Obx ?_; refine Obx ?_; refine Oas ?_; refine Oas ?_; refine S4 ?_; refine Ola ?_; refine Ola ?_; refine Ola ?_
 refine OL.popC rfl rfl rfl (POp.row rfl rfl (by first | rfl | simp_all [strip]) rfl rfl rfl rfl rfl rfl) ?_
 refine OL.popC rfl rfl rfl (POp.callLe (.mk' rfl rfl rfl rfl rfl) (.cons (.refl _) (.cons (AVle_facts [a, b] rfl) .nil)) (p80n h)) ?_
 refine Omv ?_; refine Oex ?_; refine Oex ?_; refine Oas ?_; refine Oas ?_; refine S5 ?_; refine Omv ?_; refine Ont ?_; refine S2 ?_
 refine CW.cond rfl (fun h0 => ?_) (fun h0 => ?_)
 ·
  refine S2 ?_; refine Oas ?_; refine Oas ?_; refine S4 ?_
  refine Done.retR (rs := [.tmp 6, .tmp 7]) (H' := H) rfl (.tmp rfl (.tmp rfl (.nil))) (AVleL.refl _) (by repeat (first | exact List.Sublist.refl _ | refine List.Sublist.cons _ ?_)) ?_
  exact ⟨by first | rfl | exact retI (by simp_all) | exact retB (by simp_all) | simp_all, rfl⟩
 ·
  cases h0
theorem p47g {W : FW} {f : Fact} (h : goodP W [f] = true) : PCall Tryz.prog 47 [AV.world W, AV.fact f] (.i 0) := by
 intro H
 refine ACall.mk' (n := 16) Tryz.func47 rfl (by kernel_rfl) rfl rfl (fun B I w0 => ?_)
 refine S2 ?_; refine Obx ?_; refine Obx ?_; refine Oas ?_; refine S4 ?_; refine Ola ?_; refine Ola ?_
 refine OL.popC rfl rfl rfl (POp.row rfl rfl (by first | rfl | simp_all [strip]) rfl rfl rfl rfl rfl rfl) ?_
 refine OL.popC rfl rfl rfl (POp.callLe (.mk' rfl rfl rfl rfl rfl) (.cons (.refl _) (.cons (AVle_facts [f] rfl) .nil)) (p80g h)) ?_
 refine Omv ?_; refine Oex ?_; refine Oex ?_; refine Oas ?_; refine Oas ?_; refine S4 ?_; refine Omv ?_
 refine OL.popC rfl rfl rfl (POp.call (.mk' rfl rfl rfl rfl rfl) ((p109 _))) ?_
 refine Oas ?_; refine S3 ?_
 refine r1 4 (H) ?_
 exact ⟨by first | rfl | exact retI (by simp_all) | exact retB (by simp_all) | simp_all, rfl⟩
theorem p47n {W : FW} {f : Fact} (h : goodP W [f] = false) : PCall Tryz.prog 47 [AV.world W, AV.fact f] (.i 2) := by
 intro H
 refine ACall.mk' (n := 16) Tryz.func47 rfl (by kernel_rfl) rfl rfl (fun B I w0 => ?_)
 refine S2 ?_; refine Obx ?_; refine Obx ?_; refine Oas ?_; refine S4 ?_; refine Ola ?_; refine Ola ?_
 refine OL.popC rfl rfl rfl (POp.row rfl rfl (by first | rfl | simp_all [strip]) rfl rfl rfl rfl rfl rfl) ?_
 refine OL.popC rfl rfl rfl (POp.callLe (.mk' rfl rfl rfl rfl rfl) (.cons (.refl _) (.cons (AVle_facts [f] rfl) .nil)) (p80n h)) ?_
 refine Omv ?_; refine Oex ?_; refine Oex ?_; refine Oas ?_; refine Oas ?_; refine S4 ?_; refine Omv ?_
 refine OL.popC rfl rfl rfl (POp.call (.mk' rfl rfl rfl rfl rfl) ((p109 _))) ?_
 refine Oas ?_; refine S3 ?_
 refine r1 4 (H) ?_
 exact ⟨by first | rfl | exact retI (by simp_all) | exact retB (by simp_all) | simp_all, rfl⟩
def belowP (W : FW) (a b : Int) : Bool := ((upsP W).getD a.toNat 0).testBit b.toNat
theorem p40g {W : FW} (h : worldP W = true) {a b : Int} (hc : (classP W a && classP W b) = true) : PCall Tryz.prog 40 [AV.world W, .i a, .i b] (.tup [.b (belowP W a b), .i 0]) := by
 intro H
 refine ACall.mk' (n := 37) Tryz.func40 rfl (by kernel_rfl) rfl rfl (fun B I w0 => ?_)
 have hP := world_len h
 have hca := hc
 simp only [Bool.and_eq_true] at hca
 have hcb := hca
 simp only [classP, Bool.and_eq_true, decide_eq_true_eq] at hcb
 refine S2 ?_; refine Obx ?_; refine Oas ?_; refine Oas ?_; refine S4 ?_; refine Ola ?_
 refine OL.popC rfl rfl rfl (POp.call (.mk' rfl rfl rfl rfl rfl) (p105t h)) ?_
 refine Omv ?_; refine Oex ?_; refine Oex ?_; refine Oas ?_; refine Oas ?_; refine S5 ?_; refine Omv ?_; refine Ont ?_; refine Omv ?_; refine Pmv ?_; refine Pmv ?_
 refine OL.guardC rfl rfl rfl rfl rfl rfl (fun hg => POp.call (.mk' rfl rfl rfl rfl (by first | rfl | ((repeat (first | exact hg | rfl | refine Bool.and_eq_true_iff.2 ⟨?_, ?_⟩)); done) | simp_all [strip, constAV])) (p106 W a (world_len h))) ?_
 refine Pnt ?_; refine Opk ?_; refine Omv ?_; refine Pmv ?_; refine Pmv ?_
 refine OL.guardC rfl rfl rfl rfl rfl rfl (fun hg => POp.call (.mk' rfl rfl rfl rfl (by first | rfl | ((repeat (first | exact hg | rfl | refine Bool.and_eq_true_iff.2 ⟨?_, ?_⟩)); done) | simp_all [strip, constAV])) (p106 W b (world_len h))) ?_
 refine Pnt ?_; refine Opk ?_; refine S2 ?_
 refine CW.cond rfl (fun h0 => ?_) (fun h0 => ?_)
 ·
  simp [hca.1, hca.2] at h0
 ·
  refine S4 ?_; refine Omv ?_; refine Omv ?_; refine Onc ?_; refine Ofa ?_; refine Oia ?_
  refine OL.popC rfl rfl rfl (POp.ld1 rfl rfl rfl (up_drop (c := a.toNat) (by simp) (by rw [ups_len]; omega))) ?_
  refine Omv ?_
  refine OL.popC rfl rfl rfl (POp.call (.mk' rfl rfl rfl rfl rfl) (p107 _ b (by omega) (u_get (ups_lt hP) _))) ?_
  refine Oas ?_; refine Oas ?_; refine S3 ?_
  refine Done.retR (rs := [.tmp 6, .tmp 7]) (H' := H) rfl (.tmp rfl (.tmp rfl (.nil))) (AVleL.refl _) (by repeat (first | exact List.Sublist.refl _ | refine List.Sublist.cons _ ?_)) ?_
  exact ⟨by first | rfl | exact retI (by simp_all) | exact retB (by simp_all) | simp_all, rfl⟩
theorem p40c {W : FW} (h : worldP W = true) {a b : Int} (hc : (classP W a && classP W b) = false) : PCall Tryz.prog 40 [AV.world W, .i a, .i b] (.tup [.b false, .i 2]) := by
 intro H
 refine ACall.mk' (n := 37) Tryz.func40 rfl (by kernel_rfl) rfl rfl (fun B I w0 => ?_)
 refine S2 ?_; refine Obx ?_; refine Oas ?_; refine Oas ?_; refine S4 ?_; refine Ola ?_
 refine OL.popC rfl rfl rfl (POp.call (.mk' rfl rfl rfl rfl rfl) (p105t h)) ?_
 refine Omv ?_; refine Oex ?_; refine Oex ?_; refine Oas ?_; refine Oas ?_; refine S5 ?_; refine Omv ?_; refine Ont ?_; refine Omv ?_; refine Pmv ?_; refine Pmv ?_
 refine OL.guardC rfl rfl rfl rfl rfl rfl (fun hg => POp.call (.mk' rfl rfl rfl rfl (by first | rfl | ((repeat (first | exact hg | rfl | refine Bool.and_eq_true_iff.2 ⟨?_, ?_⟩)); done) | simp_all [strip, constAV])) (p106 W a (world_len h))) ?_
 refine Pnt ?_; refine Opk ?_; refine Omv ?_; refine Pmv ?_; refine Pmv ?_
 refine OL.guardC rfl rfl rfl rfl rfl rfl (fun hg => POp.call (.mk' rfl rfl rfl rfl (by first | rfl | ((repeat (first | exact hg | rfl | refine Bool.and_eq_true_iff.2 ⟨?_, ?_⟩)); done) | simp_all [strip, constAV])) (p106 W b (world_len h))) ?_
 refine Pnt ?_; refine Opk ?_; refine S2 ?_
 refine CW.cond rfl (fun h0 => ?_) (fun h0 => ?_)
 ·
  refine S2 ?_; refine Oas ?_; refine Oas ?_; refine S4 ?_
  refine Done.retR (rs := [.tmp 6, .tmp 7]) (H' := H) rfl (.tmp rfl (.tmp rfl (.nil))) (AVleL.refl _) (by repeat (first | exact List.Sublist.refl _ | refine List.Sublist.cons _ ?_)) ?_
  exact ⟨by first | rfl | exact retI (by simp_all) | exact retB (by simp_all) | simp_all, rfl⟩
 ·
  revert h0 hc; cases classP W a <;> cases classP W b <;> simp
abbrev AV.factss (l : List (List Fact)) : AV := .sl 1 (l.map fun x => [AV.facts x])
abbrev AV.litss (l : List (List FLit)) : AV := .sl 1 (l.map fun x => [AV.lits x])
theorem lit_small {W : FW} {l : FLit} (h : LitOk W l) : smallB l.f = true := by
 have h1 := h.path; have h2 := h.kids
 cases hl : l.f with
 | mk a b c d e k =>
  rw [hl] at h1 h2
  simp only [Fact.path, Fact.kids] at h1 h2
  subst h2
  simp [smallB, smallBs]; omega
theorem cases_count : ∀ f : Fact, okB f = true → ∀ c, (casesP f c).length ≤ 2 ^ nodesN f := by
 refine Fact.ind1 fun f ih hok c => ?_
 have hp := ok_parts hok
 have h2 : 1 ≤ 2 ^ nodesN f := Nat.one_le_two_pow
 by_cases h1 : f.op = 1
 ·rw [cases_true h1]; cases c
  ·exact h2
  ·simp
 by_cases h5 : f.op = 5
 ·have hk := kids_one hok h5
  rw [cases_not h5 (by omega)]
  have := ih (f.kids.getD 0 default) (getD_mem (by omega)) (hp.2.2.2.2 _ (getD_mem (by omega))) (!c)
  refine Nat.le_trans this (Nat.pow_le_pow_right (by omega) ?_)
  have h3 := nodesNs_one f.kids (by omega)
  rw [nodesN_eq f]
  omega
 by_cases hlf : leafP f = true
 ·rw [cases_leaf h1 h5 hlf]; simpa using h2
 ·have hlf' : leafP f = false := by simpa using hlf
  have hk := kids_two hok h1 h5 hlf'
  have n2 := nodesNs_two f.kids (by omega)
  have i0 := ih (f.kids.getD 0 default) (getD_mem (by omega)) (hp.2.2.2.2 _ (getD_mem (by omega))) c
  have i1 := ih (f.kids.getD 1 default) (getD_mem (by omega)) (hp.2.2.2.2 _ (getD_mem (by omega))) c
  have e1 : 2 ^ (nodesN (f.kids.getD 0 default) + nodesN (f.kids.getD 1 default) + 1) ≤ 2 ^ nodesN f := Nat.pow_le_pow_right (by omega) (by rw [nodesN_eq f]; omega)
  rw [Nat.pow_succ, Nat.pow_add] at e1
  have p0 : 1 ≤ 2 ^ nodesN (f.kids.getD 0 default) := Nat.one_le_two_pow
  have p1 : 1 ≤ 2 ^ nodesN (f.kids.getD 1 default) := Nat.one_le_two_pow
  generalize hA : 2 ^ nodesN (f.kids.getD 0 default) = A at *
  generalize hB : 2 ^ nodesN (f.kids.getD 1 default) = B at *
  have hab : A + B ≤ A * B * 2 := by
   have h1 : A * 1 ≤ A * B := Nat.mul_le_mul_left A p1
   have h2 : 1 * B ≤ A * B := Nat.mul_le_mul_right B p0
   omega
  cases hc : (c == (f.op == 6)) with
  | true =>
   rw [cases_either h1 h5 hlf' hc (by omega), List.length_append]
   omega
  | false =>
   rw [cases_both h1 h5 hlf' hc (by omega), List.length_flatMap]
   have key : ∀ l : List (List FLit), (l.map fun a => ((casesP (f.kids.getD 1 default) c).map (joinedP a)).length).sum = l.length * (casesP (f.kids.getD 1 default) c).length := by
    intro l
    induction l with
    | nil => simp
    | cons x r ihr => rw [List.map_cons, List.sum_cons, ihr, List.length_map, List.length_cons, Nat.add_mul]; omega
   rw [key]
   have := Nat.mul_le_mul i0 i1
   omega
def factL (c : List FLit) : List Fact := c.map litF
noncomputable def casesL (W : FW) (l : List (List FLit)) : List (List Fact) := (l.filter (togetherK W)).map factL
theorem casesL_yes {W : FW} {l : List (List FLit)} {x : List FLit} (h : togetherK W x = true) : casesL W (l ++ [x]) = casesL W l ++ [factL x] := by
 simp [casesL, List.filter_append, h]
theorem casesL_no {W : FW} {l : List (List FLit)} {x : List FLit} (h : togetherK W x = false) : casesL W (l ++ [x]) = casesL W l := by
 simp [casesL, List.filter_append, h]
theorem casesL_len (W : FW) (l : List (List FLit)) : (casesL W l).length ≤ l.length := by
 rw [casesL, List.length_map]; exact List.length_filter_le _ _
theorem factL_snoc (x : List FLit) (k : Nat) (h : k < x.length) : factL (x.take (k + 1)) = factL (x.take k) ++ [litF (x.getD k default)] := by
 rw [← take_getD h, factL, List.map_append]; rfl
theorem factss_snoc (l : List (List Fact)) (x : List Fact) : (l ++ [x]).map (fun x => [AV.facts x]) = l.map (fun x => [AV.facts x]) ++ [[AV.facts x]] := by simp
theorem litss_snoc (l : List (List FLit)) (x : List FLit) : (l ++ [x]).map (fun x => [AV.lits x]) = l.map (fun x => [AV.lits x]) ++ [[AV.lits x]] := by simp
theorem p17g {W : FW} {f : Fact} (h : goodP W [f] = true) : PCall Tryz.prog 17 [AV.world W, AV.fact f] (.tup [AV.factss (casesL W (casesP f false)), .i 0]) := by
 intro H
 refine ACall.mkM (n := 46) Tryz.func17 rfl (by kernel_rfl) rfl rfl (fun B I w0 => ?_)
 have hw := good_w h
 have hf := good_f h (.head _)
 have hG := good_of hw hf.1 (Nat.le_trans hf.2 (by omega))
 have hcnt := cases_count f hG.ok false
 have hcnt2 : 2 ^ nodesN f ≤ 2 ^ 24 := Nat.pow_le_pow_right (by omega) hf.2
 refine S2 ?_; refine Obx ?_; refine Obx ?_; refine Oas ?_; refine Oas ?_; refine S4 ?_; refine Ola ?_; refine Ola ?_
 refine OL.popC rfl rfl rfl (POp.row rfl rfl (by first | rfl | simp_all [strip]) rfl rfl rfl rfl rfl rfl) ?_
 refine OL.popC rfl rfl rfl (POp.callLe (.mk' rfl rfl rfl rfl rfl) (.cons (.refl _) (.cons (AVle_facts [f] rfl) .nil)) (p80g h)) ?_
 refine Omv ?_; refine Oex ?_; refine Oex ?_
 refine OL.alC rfl rfl rfl rfl (fun xb => ?_)
 refine Sto ?_; refine Oas ?_; refine S5 ?_; refine Omv ?_; refine Ont ?_; refine S2 ?_
 refine CW.cond rfl (fun h0 => ?_) (fun h0 => ?_)
 ·
  cases h0
 ·
  refine S4 ?_
  refine OL.alC rfl rfl rfl rfl (fun ob => ?_)
  refine S4 ?_
  refine CW.ownNilB 27 1 0 (.head _ _ _) rfl rfl ?_
  refine S1 ?_; refine Ola ?_
  refine OL.popC rfl rfl rfl (POp.call (.mk' rfl rfl rfl rfl rfl) ((p81 _ _))) ?_
  refine S3 ?_
  refine CW.weaken (st' := ⟨[(6, .p xb 0), (8, .p ob 0), (23, .fn (.func 132) [] [.ptr (Fcells f), .ptr [.b false]])], [.own 27 1 (.slice none 0 0), .blk ob 34 [.as (AV.factss []) (.slice none 0 0)], .blk xb 109 [Wptr W]] ++ H⟩) (by repeat (first | exact trivial | refine ⟨rfl, ?_⟩)) (by repeat (first | exact List.Sublist.refl _ | refine List.Sublist.cons _ ?_)) ?_
  refine CW.rangeFunc (AV.lits) (casesP f false) (fun pre H1 => ∃ v, H1 = [.own 27 1 v, .blk ob 34 [.as (AV.factss (casesL W pre)) v], .blk xb 109 [Wptr W]]) (fun code pre H1 => False) ([.own 27 1 (.slice none 0 0), .blk ob 34 [.as (AV.factss []) (.slice none 0 0)], .blk xb 109 [Wptr W]]) (H) (fun x => (9, AV.lits x) :: (24, AV.lits x) :: [(6, .p xb 0), (8, .p ob 0), (23, .fn (.func 132) [] [.ptr (Fcells f), .ptr [.b false]])]) rfl rfl rfl rfl (seq132 f hG.ok hG.nodes false) (⟨_, rfl⟩) ?_ ?_ ?_ ?_
  ·intro l0 I1 w1 x Hy
   refine S1 ?_; refine Oas ?_; refine S1 ?_
   exact fun a w s => ⟨_, rfl, s⟩
  ·intro l0 D0 lp pre x H1 Hy I1 w1 hpre hJ
   obtain ⟨v, rfl⟩ := hJ
   obtain ⟨hxl, hxn⟩ := hG.case false x (hpre.subset (by simp))
   have hlen := casesL_len W pre
   have hpl := hpre.length_le
   rw [List.length_append] at hpl
   refine S4 ?_; refine Old ?_; refine Omv ?_
   refine OL.popC rfl rfl rfl (POp.call (.mk' rfl rfl rfl rfl rfl) (p82 hw hxl hxn)) ?_
   refine Ont ?_; refine S2 ?_
   refine CW.cond rfl (fun h1 => ?_) (fun h1 => ?_)
   ·
    have hno : togetherK W x = false := by simpa using h1
    refine S3 ?_
    exact Done.roundN (by repeat (first | exact List.Sublist.refl _ | refine List.Sublist.cons _ ?_)) (⟨v, congrArg (fun z => [Ent.own 27 1 v, .blk ob 34 [.as (AV.factss z) v], .blk xb 109 [Wptr W]]) (casesL_no hno).symm⟩)
   ·
    have hyes : togetherK W x = true := by simpa using h1
    refine S4 ?_; refine Oas ?_; refine S4 ?_
    refine CW.ownNil 10 29 6 rfl ?_
    refine S1 ?_; refine Omv ?_; refine Oln ?_; refine Omv ?_; refine S3 ?_
    refine lj (fun m st => ∃ (k : Nat) (v2 : Value), st = ⟨[(31, .i k), (30, .i x.length), (29, AV.lits x), (10, .as (AV.facts (factL (x.take k))) v2), (6, .p xb 0), (8, .p ob 0)], .own 29 6 v2 :: .loop l0 lp (envGet ([(6, .p xb 0), (8, .p ob 0), (23, .fn (.func 132) [] [.ptr (Fcells f), .ptr [.b false]])])) :: .obj D0 (.deferred (some [])) :: ([.own 27 1 v, .blk ob 34 [.as (AV.factss (casesL W pre)) v], .blk xb 109 [Wptr W]] ++ Hy)⟩ ∧ m = x.length - k ∧ k ≤ x.length) (⟨0, _, rfl, rfl, Nat.zero_le _⟩) ?_
    rintro m _ ⟨k, v2, rfl, rfl, hk⟩
    refine CW.boundM (t := 29) rfl (fun hbs => ?_)
    refine S2 ?_; refine Ocm ?_; refine S3 ?_
    refine CW.cond rfl (fun h2 => ?_) (fun h2 => ?_)
    ·
     replace h2 := nm h2
     have hkl : k < x.length := by omega
     refine S6 ?_; refine Oix ?_; refine Ola ?_
     refine OL.alC rfl rfl rfl rfl (fun b2 => ?_)
     refine Sto ?_; refine S3 ?_; refine Omv ?_; refine Ola ?_
     refine OL.popC rfl rfl rfl (POp.call (.mk' rfl rfl rfl rfl rfl) (p83 (x.getD k default) (lit_small (hxl _ (getD_mem hkl))))) ?_
     refine OL.popC rfl rfl rfl (POp.row rfl rfl (by first | rfl | simp_all [strip]) rfl rfl rfl rfl rfl rfl) ?_
     refine OL.appendC rfl rfl rfl rfl rfl rfl rfl rfl (AVle.refl _) (rfl) (fun v => by repeat (first | exact Upd.head _ _ _ | apply Upd.tail)) (by show (List.length (encFs _) + 1) * 80 ≤ _; rw [len_facts, factL, List.length_map, List.length_take]; omega) (by show List.length (encFs _) + 1 ≤ _; rw [len_facts, factL, List.length_map, List.length_take]; omega) (fun v39 => ?_)
     refine Oas ?_; refine S3 ?_
     refine CW.le 10 (y := .as (AV.facts (factL (x.take (k + 1)))) v39) rfl (by rw [factL_snoc x k hkl, show AV.facts (factL (x.take k) ++ [litF (x.getD k default)]) = AV.sl 6 (encFs (factL (x.take k)) ++ [Fcells (litF (x.getD k default))]) from congrArg _ (facts_snoc _ _).symm]; exact AVle.refl _) ?_
     refine S1 ?_; refine Oar ?_; refine Omv ?_; refine S1 ?_
     exact ag (⟨k + 1, v39, rfl, rfl, by omega⟩)
    ·
     replace h2 := nm h2
     obtain rfl : k = x.length := by omega
     rw [List.take_length]
     refine S6 ?_; refine Old ?_; refine Omv ?_
     refine OL.popC rfl rfl rfl (POp.row rfl rfl (by first | rfl | simp_all [strip]) rfl rfl rfl rfl rfl rfl) ?_
     refine OL.appendC rfl rfl rfl rfl rfl rfl rfl rfl (AVle.sl (.cons (.cons (AVle.asL _ _) .nil) .nil)) (rfl) (fun v => by repeat (first | exact Upd.head _ _ _ | apply Upd.tail)) (by show (List.length (List.map _ _) + 1) * 24 ≤ _; rw [List.length_map]; omega) (by show List.length (List.map _ _) + 1 ≤ _; rw [List.length_map]; omega) (fun v44 => ?_)
     apply OL.stoC rfl rfl rfl rfl rfl rfl rfl rfl rfl rfl
     (case hu => repeat (first | exact Upd.head _ _ _ | apply Upd.tail)); (case hfit => rfl); (case hds => exact congrArg (fun z => [AV.as (.sl 1 z) v44]) ((factss_snoc _ _).symm.trans (by rw [← casesL_yes hyes])))
     refine S2 ?_
     exact Done.roundN (by repeat (first | exact List.Sublist.refl _ | refine List.Sublist.cons _ ?_)) (⟨v44, rfl⟩)
  ·intro D0 H1 hJ
   obtain ⟨v, rfl⟩ := hJ
   refine S4 ?_; refine Old ?_; refine Oas ?_; refine Oas ?_; refine S3 ?_
   refine Done.retM1 (rs := [.tmp 4, .tmp 5]) (H' := H) rfl (by repeat (first | exact Del.head _ _ | apply Del.tail)) (.tmp rfl (.tmp rfl (.nil))) (.cons (AVle.asL _ _) (.cons (.refl _) .nil)) (by repeat (first | exact List.Sublist.refl _ | refine List.Sublist.cons _ ?_)) ?_
   exact ⟨rfl, rfl⟩
  ·intro D0 code0 pre H1 hpre hJx
   exact hJx.elim
def impCases (a b : Fact) : List (List FLit) := casesP (andF a (notF b)) false
theorem imp_good {W : FW} (hw : worldP W = true) {a b : Fact} (ha : wfB W a = true) (hb : wfB W b = true) (hna : nodesN a ≤ 24) (hnb : nodesN b ≤ 24) : GoodF W (andF a (notF b)) :=
 good_of hw (wf_and ha (wf_not hb)) (by rw [nodes_and, nodes_not]; omega)
theorem p101s {W : FW} {a b : Fact} (hG : GoodF W (andF a (notF b))) (hs : (impCases a b).length ≤ 400) : PCall Tryz.prog 101 [AV.fact a, AV.fact b] (.tup [AV.litss (impCases a b), .b true]) := by
 intro H
 refine ACall.mkM (n := 22) Tryz.func101 rfl (by kernel_rfl) rfl rfl (fun B I w0 => ?_)
 refine S2 ?_; refine Obx ?_; refine Obx ?_
 refine OL.alC rfl rfl rfl rfl (fun b4 => ?_)
 refine OL.alC rfl rfl rfl rfl (fun b5 => ?_)
 refine S4 ?_
 refine OL.alC rfl rfl rfl rfl (fun ob => ?_)
 refine S4 ?_
 refine CW.ownNilB 115 1 0 (.head _ _ _) rfl rfl ?_
 refine CW.dp mixed ?_
 refine DP.anyC 0 3 22 rfl (by decide +kernel) rfl rfl (by decide +kernel) ?_
 refine Ala ?_; refine Ala ?_
 refine AD.popC rfl rfl rfl (POp.call (.mk' rfl rfl rfl rfl rfl) (p140 b)) ?_
 refine AD.nil ?_
 refine DP.tailC 3 (by decide +kernel) rfl ?_
 refine OL.popC rfl rfl rfl (POp.call (.mk' rfl rfl rfl rfl rfl) (p143 a (notF b))) ?_
 refine OL.popC rfl rfl rfl (POp.call (.mk' rfl rfl rfl rfl rfl) (p81 (andF a (notF b)) false)) ?_
 refine S3 ?_
 refine CW.weaken (st' := ⟨[(4, .p b4 0), (5, .p b5 0), (6, .p ob 0), (12, .fn (.func 132) [] [.ptr (Fcells (andF a (notF b))), .ptr [.b false]])], [.own 115 1 (.slice none 0 0), .blk ob 127 [.as (AV.litss []) (.slice none 0 0)], .blk b5 4 [.b false], .blk b4 127 [.val (.slice none 0 0)]] ++ H⟩) (by repeat (first | exact trivial | refine ⟨rfl, ?_⟩)) (by repeat (first | exact List.Sublist.refl _ | refine List.Sublist.cons _ ?_)) ?_
 refine CW.rangeFunc (AV.lits) (impCases a b) (fun pre H1 => pre.length ≤ 400 ∧ ∃ v, H1 = [.own 115 1 v, .blk ob 127 [.as (AV.litss pre) v], .blk b5 4 [.b false], .blk b4 127 [.val (.slice none 0 0)]]) (fun code pre H1 => False) ([.own 115 1 (.slice none 0 0), .blk ob 127 [.as (AV.litss []) (.slice none 0 0)], .blk b5 4 [.b false], .blk b4 127 [.val (.slice none 0 0)]]) (H) (fun x => (7, AV.lits x) :: (13, AV.lits x) :: [(4, .p b4 0), (5, .p b5 0), (6, .p ob 0), (12, .fn (.func 132) [] [.ptr (Fcells (andF a (notF b))), .ptr [.b false]])]) rfl rfl rfl rfl (seq132 (andF a (notF b)) hG.ok hG.nodes false) (⟨Nat.zero_le _, _, rfl⟩) ?_ ?_ ?_ ?_
 ·intro l0 I1 w1 x Hy
  refine S1 ?_; refine Oas ?_; refine S1 ?_
  exact fun a w s => ⟨_, rfl, s⟩
 ·intro l0 D0 lp pre x H1 Hy I1 w1 hpre hJ
  obtain ⟨hpl, v, rfl⟩ := hJ
  have hpp := hpre.length_le
  rw [List.length_append, List.length_singleton] at hpp
  refine S4 ?_; refine Old ?_; refine Oln ?_; refine Ocm ?_; refine S2 ?_
  refine CW.cond rfl (fun h0 => ?_) (fun h0 => ?_)
  ·
   exfalso
   simp only [beq_iff_eq, List.length_map] at h0
   omega
  ·
   replace h0 := nm h0
   rw [List.length_map] at h0
   refine S3 ?_; refine Old ?_; refine Omv ?_
   refine OL.popC rfl rfl rfl (POp.row rfl rfl (by first | rfl | simp_all [strip]) rfl rfl rfl rfl rfl rfl) ?_
   refine OL.appendC rfl rfl rfl rfl rfl rfl rfl rfl (AVle.refl _) (rfl) (fun v => by repeat (first | exact Upd.head _ _ _ | apply Upd.tail)) (by show (List.length (List.map _ _) + 1) * 24 ≤ _; rw [List.length_map]; omega) (by show List.length (List.map _ _) + 1 ≤ _; rw [List.length_map]; omega) (fun v20 => ?_)
   apply OL.stoC rfl rfl rfl rfl rfl rfl rfl rfl rfl rfl
   (case hu => repeat (first | exact Upd.head _ _ _ | apply Upd.tail)); (case hfit => rfl); (case hds => exact congrArg (fun z => [AV.as (.sl 1 z) v20]) (litss_snoc _ _).symm)
   refine S2 ?_
   exact Done.roundN (by repeat (first | exact List.Sublist.refl _ | refine List.Sublist.cons _ ?_)) (⟨by rw [List.length_append, List.length_singleton]; omega, v20, rfl⟩)
 ·intro D0 H1 hJ
  obtain ⟨hpl, v, rfl⟩ := hJ
  refine S4 ?_; refine Old ?_; refine Sto ?_; refine Sto ?_; refine S3 ?_
  refine Done.retM1 (rs := [.cell 4 127, .cell 5 4]) (H' := H) rfl (by repeat (first | exact Del.head _ _ | apply Del.tail)) ((by first | exact .cell1 inferInstance rfl (by repeat (first | exact .head _ | refine .tail _ ?_)) rfl ((by first | exact .cell1 inferInstance rfl (by repeat (first | exact .head _ | refine .tail _ ?_)) rfl (.nil) | exact .ptr1 inferInstance rfl rfl (.nil))) | exact .ptr1 inferInstance rfl rfl ((by first | exact .cell1 inferInstance rfl (by repeat (first | exact .head _ | refine .tail _ ?_)) rfl (.nil) | exact .ptr1 inferInstance rfl rfl (.nil))))) (.cons (AVle.asL _ _) (.cons (.refl _) .nil)) (by repeat (first | exact List.Sublist.refl _ | refine List.Sublist.cons _ ?_)) ?_
  exact ⟨rfl, rfl⟩
 ·intro D0 code0 pre H1 hpre hJx
  exact hJx.elim
theorem intEls_map (l : List Int) : (intEls l).flatten = l.map AV.i := by
 induction l with
 | nil => rfl
 | cons x r ih => simp only [intEls, List.map_cons, List.flatten_cons] at ih ⊢; rw [ih]; rfl
theorem Done.freezeS {c : Ctx} {st : St} {Q : Exit → Act → World → Prop} {e : Exit} {d b n cap k : Nat} {t : TypeId} {els : List (List AV)} {more : List AV} {H' : List Ent} (hd : envGet st.env d = some (.val (.slice (some ⟨b, 0, none⟩) n cap))) (hD : Del st.H (.blk b t (els.flatten ++ more)) H')
  (hn : els.length = n) (hk : ∀ e ∈ els, e.length = k) (hc : n ≤ cap) (hm : cap ≤ maxLen) (h : Done c ⟨(d, .sl k els) :: st.env, H'⟩ e Q) : Done c st e Q := fun a w s => h a w (s.freezeS hd hD hn hk hc hm)
def findI (p : Int → Bool) (l : List Int) : Int := match l.findIdx? p with | some i => i | none => -1
theorem findI_none {p : Int → Bool} {l : List Int} (h : ∀ x ∈ l, p x = false) : findI p l = -1 := by
 have : l.findIdx? p = none := List.findIdx?_eq_none_iff.2 h
 rw [findI, this]
theorem findI_some {p : Int → Bool} {pre : List Int} {x : Int} {rest : List Int} (h : ∀ y ∈ pre, p y = false) (hx : p x = true) : findI p (pre ++ x :: rest) = pre.length := by
 have h0 : pre.findIdx? p = none := List.findIdx?_eq_none_iff.2 h
 have : (pre ++ x :: rest).findIdx? p = some pre.length := by
  rw [List.findIdx?_append, h0]; simp [List.findIdx?_cons, hx]
 rw [findI, this]
theorem p150x {f : FuncId} {fs cs : List AV} {p : Int → Bool} (hg : PredOk Tryz.prog (.fn (.func f) fs cs) AV.i p) (l : List Int) : PCall Tryz.prog 150 [AV.ints l, .fn (.func f) fs cs] (.i (findI p l)) := by
 intro H
 have h0 := fun B => b150 (B := B) l ((hg.on l).find) [] H (by simp) ⟨rfl, by simp⟩
 refine ⟨(h0 0).1, fun B I w vs hw hh hv => ((h0 B).2 I w vs hw hh hv).mono fun e w' hr => hr.mono ?_ (fun _ h => h)⟩
 rintro y H' ⟨H1, rfl, ⟨rfl, rfl, hx⟩ | ⟨pre, x, rest, rfl, rfl, rfl, q, z, hq, hqa, hz⟩⟩
 ·exact ⟨by rw [findI_none hx], rfl⟩
 ·obtain ⟨e1, e2⟩ := List.append_inj' hq rfl
  simp at e2
  subst e1; subst e2
  exact ⟨by rw [findI_some hqa hz], rfl⟩
theorem found_split {p : Int → Bool} {l : List Int} (h : ¬ findI p l = -1) : ∃ pre x rest, l = pre ++ x :: rest ∧ (∀ y ∈ pre, p y = false) ∧ p x = true ∧ findI p l = pre.length := by
 induction l with
 | nil => exact absurd rfl h
 | cons y r ih =>
  cases hy : p y with
  | true => exact ⟨[], y, r, rfl, by simp, hy, findI_some (pre := []) (by simp) hy⟩
  | false =>
   have h' : ¬ findI p r = -1 := fun e => h (by
    unfold findI at e ⊢
    cases hf : r.findIdx? p with
    | none => simp [List.findIdx?_cons, hy, hf]
    | some i => rw [hf] at e; exact absurd e (by simp only; omega))
   obtain ⟨pre, x, rest, e1, e2, e3, e4⟩ := ih h'
   refine ⟨y :: pre, x, rest, by rw [e1]; rfl, ?_, e3, ?_⟩
   ·intro z hz; rcases List.mem_cons.1 hz with rfl | hz; exact hy; exact e2 z hz
   ·rw [e1]; exact findI_some (pre := y :: pre) (by intro z hz; rcases List.mem_cons.1 hz with rfl | hz; exact hy; exact e2 z hz) e3
theorem filter_none {p : Int → Bool} {l : List Int} (h : findI p l = -1) : l.filter (fun x => !p x) = l := by
 rw [List.filter_eq_self]
 intro x hx
 unfold findI at h
 cases hf : l.findIdx? p with
 | none => rw [List.findIdx?_eq_none_iff.1 hf x hx]; rfl
 | some i => rw [hf] at h; exact absurd h (by simp only; omega)
theorem a32 (B : Nat) (l : List Int) (hne : l ≠ []) (hl : l.length ≤ 1000000) (H : List Ent) : BCall B Tryz.prog 32 [AV.ints l] H (fun y H' => ∃ b cap more, y = .val (.slice (some ⟨b, 0, none⟩) (intEls l).length cap) ∧ (intEls l).length ≤ cap ∧ cap ≤ maxLen ∧ H' = .blk b 3 ((intEls l).flatten ++ more) :: H) (fun _ => False) := by
 refine BCall.of (n := 8) Tryz.func32 rfl (by kernel_rfl) rfl rfl (fun I w0 => ?_)
 refine S2 ?_; refine Oas ?_; refine S5 ?_; refine Omv ?_
 refine OL.isNilC rfl rfl rfl rfl rfl rfl rfl (AVle.refl _) rfl rfl (fun n4 hn4 => ?_)
 refine S2 ?_
 refine CW.cond rfl (fun h0 => ?_) (fun h0 => ?_)
 ·
  exact absurd (hn4 h0) (by simpa using hne)
 ·
  refine S4 ?_; refine Or0 ?_; refine Omv ?_
  refine OL.appendNew rfl rfl rfl rfl rfl rfl (AVle.refl _) rfl rfl (AVle.refl _) (by simpa using hne) (one_map (fun _ => rfl) l) (by simp; omega) (by simp; omega) (fun b cap more hc1 hc2 => ?_)
  refine Oas ?_; refine S3 ?_
  refine Done.retR (rs := [.tmp 2]) rfl (.tmp rfl (.nil)) (AVleL.refl _) (by exact List.Sublist.refl _) ?_
  exact ⟨b, cap, more, rfl, hc1, hc2, rfl⟩
theorem del_take {p : Int → Bool} {l : List Int} {j : Nat} (h : j < l.length) : (l.take (j + 1)).filter (fun x => !p x) = (l.take j).filter (fun x => !p x) ++ (if p (l.getD j default) then [] else [l.getD j default]) := by
 rw [← take_getD h, List.filter_append]
 generalize l.getD j default = v
 cases hp : p v <;> simp [hp]
theorem del_cell {l kept junk : List Int} {j : Nat} {more : List AV} (h : kept.length + junk.length = j) (hj : j < l.length) : ((kept ++ junk ++ l.drop j).map AV.i ++ more)[0 + ((j : Int)).toNat * 1]? = some (AV.i (l.getD j default)) := by
 rw [List.drop_eq_getElem_cons hj, getD_lt hj]
 have e : 0 + ((j : Int)).toNat * 1 = (kept ++ junk).length := by simp; omega
 rw [e, List.map_append, List.append_assoc, List.getElem?_append_right (by simp), List.map_cons]
 simp
theorem del_store {l kept junk : List Int} {i j : Nat} {more : List AV} (hi : i = kept.length) (h : kept.length + junk.length = j) (hj : j < l.length) (hn : junk ≠ []) (v : Int) (hv : v = l.getD j default) :
  ((kept ++ junk ++ l.drop j).map AV.i ++ more).take (0 + ((i : Int)).toNat * 1) ++ [AV.i v] ++ ((kept ++ junk ++ l.drop j).map AV.i ++ more).drop (0 + ((i : Int)).toNat * 1 + 1) = ((kept ++ [v]) ++ (junk.tail ++ [v]) ++ l.drop (j + 1)).map AV.i ++ more := by
 subst hi
 obtain ⟨x, r, rfl⟩ := List.exists_cons_of_ne_nil hn
 have e : 0 + ((kept.length : Int)).toNat * 1 = (kept.map AV.i).length := by simp
 rw [e]
 have e2 : (kept ++ x :: r ++ l.drop j).map AV.i ++ more = kept.map AV.i ++ (AV.i x :: (r.map AV.i ++ ((l.drop j).map AV.i ++ more))) := by simp
 have e3 : List.drop ((kept.map AV.i).length + 1) (kept.map AV.i ++ (AV.i x :: (r.map AV.i ++ ((l.drop j).map AV.i ++ more)))) = r.map AV.i ++ ((l.drop j).map AV.i ++ more) := by
  rw [← List.drop_drop, List.drop_left]; rfl
 rw [e2, List.take_left, e3, List.drop_eq_getElem_cons hj, ← getD_lt hj, ← hv]
 simp
theorem del_keep {l kept junk : List Int} {j : Nat} {more : List AV} (hj : j < l.length) : (kept ++ junk ++ l.drop j).map AV.i ++ more = (kept ++ (junk ++ [l.getD j default]) ++ l.drop (j + 1)).map AV.i ++ more := by
 rw [List.drop_eq_getElem_cons hj, getD_lt hj]; simp
theorem del_end {l kept junk : List Int} {i j n : Nat} {more : List AV} (hi : i = kept.length) : ∃ more', ((kept ++ junk ++ l.drop j).map AV.i ++ more).take (0 + i * 1) ++ List.replicate n .any ++ ((kept ++ junk ++ l.drop j).map AV.i ++ more).drop (0 + i * 1 + n) = (intEls kept).flatten ++ more' := by
 subst hi
 have e : 0 + kept.length * 1 = (kept.map AV.i).length := by simp
 have e2 : (kept ++ junk ++ l.drop j).map AV.i ++ more = kept.map AV.i ++ (junk.map AV.i ++ ((l.drop j).map AV.i ++ more)) := by simp
 rw [e, e2, List.take_left, intEls_map, List.append_assoc]
 exact ⟨_, rfl⟩
theorem b102 {f : FuncId} {fs cs : List AV} {p : Int → Bool} (hg : PredOk Tryz.prog (.fn (.func f) fs cs) AV.i p) (B : Nat) (l : List Int) (b cap : Nat) (more : List AV) (hl : l.length ≤ 1000000) (hc : (intEls l).length ≤ cap) (hcm : cap ≤ maxLen) (Hx : List Ent) :
  BCall B Tryz.prog 102 [.val (.slice (some ⟨b, 0, none⟩) (intEls l).length cap), .fn (.func f) fs cs] (.blk b 3 ((intEls l).flatten ++ more) :: Hx) (fun y H' => y = AV.ints (l.filter fun x => !p x) ∧ H' = Hx) (fun _ => False) := by
 refine BCall.of (n := 42) Tryz.func102 rfl (by kernel_rfl) rfl rfl (fun I w0 => ?_)
 refine S2 ?_; refine Oas ?_; refine S4 ?_; refine Omv ?_; refine Omv ?_
 refine OL.popC rfl rfl rfl (POp.callB (.mk' rfl rfl rfl rfl rfl) (Borrow.blk (t := 3) (pre := []) (post := [.fn (.func f) fs cs]) (.head _) (by simp [intEls]) hc hcm) (p150x hg l)) ?_
 refine Oas ?_; refine S5 ?_; refine Omv ?_; refine Ocm ?_; refine S2 ?_
 refine CW.cond rfl (fun h0 => ?_) (fun h0 => ?_)
 ·
  replace h0 := nm h0
  have hfn := filter_none h0
  refine S2 ?_; refine Omv ?_; refine Oas ?_; refine S4 ?_
  refine Done.freezeS (d := 4) rfl (.head _ _) rfl (k := 1) (by simp [intEls]) hc hcm ?_
  refine r1 4 (Hx) ?_
  exact ⟨by rw [hfn]; rfl, rfl⟩
 ·
  replace h0 := nm h0
  obtain ⟨pre, x, rest, hlp, hpre, hpx, hfi⟩ := found_split h0
  have hlen : (intEls l).length = l.length := by simp [intEls]
  have hpl : pre.length + 1 ≤ l.length := by rw [hlp]; simp
  rw [hfi]
  refine S4 ?_
  refine CW.eqH (H' := .blk b 3 ((pre ++ [x] ++ l.drop (pre.length + 1)).map AV.i ++ more) :: Hx) (by rw [intEls_map]; congr 4; rw [hlp]; simp) ?_
  refine S1 ?_; refine Omv ?_; refine Oar ?_; refine Oas ?_; refine S3 ?_
  refine lj (fun m st => ∃ (j i : Nat) (kept junk : List Int), st = ⟨[(6, .i j), (5, .i i), (0, .val (.slice (some ⟨b, 0, none⟩) (intEls l).length cap)), (1, .fn (.func f) fs cs)], .blk b 3 ((kept ++ junk ++ l.drop j).map AV.i ++ more) :: Hx⟩ ∧ m = l.length - j ∧ j ≤ l.length ∧ kept = (l.take j).filter (fun x => !p x) ∧ kept.length + junk.length = j ∧ junk ≠ [] ∧ i = kept.length) (⟨pre.length + 1, pre.length, pre, [x], rfl, rfl, hpl, by rw [hlp, List.take_succ_eq_append_getElem (by simp)]; simp [List.filter_append, hpx]; exact (List.filter_eq_self.2 (fun y hy => by rw [hpre y hy]; rfl)).symm, rfl, by simp, rfl⟩) ?_
  rintro m _ ⟨j, i, kept, junk, rfl, rfl, hj, hk, hkj, hjn, hi⟩
  refine S3 ?_; refine Omv ?_; refine Omv ?_; refine Oln ?_; refine Ocm ?_; refine S2 ?_
  refine CW.cond rfl (fun h1 => ?_) (fun h1 => ?_)
  ·
   replace h1 := nm h1
   rw [hlen] at h1
   have hjl : j < l.length := by omega
   have hdt := del_take (p := p) hjl
   have hjk : junk.length ≠ 0 := fun e => hjn (List.eq_nil_of_length_eq_zero e)
   refine S6 ?_; refine Omv ?_; refine Omv ?_
   refine OL.popC rfl rfl rfl (POp.ixC rfl rfl rfl rfl rfl (by omega)) ?_
   refine OL.popC rfl rfl rfl (POp.ld1H rfl rfl rfl (.head _) (del_cell hkj hjl)) ?_
   refine Oas ?_; refine S4 ?_; refine Omv ?_; refine Omv ?_
   refine OL.vcallC rfl rfl rfl rfl rfl rfl rfl rfl (AVleL.refl _) (hg _ (l.getD j default) _) ?_
   rintro y H1 ⟨rfl, rfl⟩
   refine Ont ?_; refine S2 ?_
   refine CW.cond rfl (fun h2 => ?_) (fun h2 => ?_)
   ·
    have hpv : p (l.getD j default) = false := by simpa using h2
    refine S2 ?_; refine Omv ?_; refine Omv ?_; refine Omv ?_
    refine OL.popC rfl rfl rfl (POp.ixC rfl rfl rfl rfl rfl (by omega)) ?_
    apply OL.stoC rfl rfl rfl rfl rfl rfl rfl rfl rfl rfl
    (case hu => repeat (first | exact Upd.head _ _ _ | apply Upd.tail)); (case hfit => exact Nat.ble_eq_true_of_le (by simp [bcells]; omega)); (case hds => exact del_store hi hkj hjl hjn _ rfl)
    refine S3 ?_; refine Omv ?_; refine Oar ?_; refine Oas ?_; refine S4 ?_; refine Omv ?_; refine Oar ?_; refine Oas ?_; refine S1 ?_
    exact ag (⟨j + 1, i + 1, kept ++ [l.getD j default], junk.tail ++ [l.getD j default], rfl, rfl, by omega, by rw [hdt, hpv, ← hk]; rfl, by simp; omega, by simp, by simp; omega⟩)
   ·
    have hpv : p (l.getD j default) = true := by simpa using h2
    refine CW.eqH (congrArg (fun z => Ent.blk b 3 z :: Hx) (del_keep hjl)) ?_
    refine S4 ?_; refine Omv ?_; refine Oar ?_; refine Oas ?_; refine S1 ?_
    exact ag (⟨j + 1, i, kept, junk ++ [l.getD j default], rfl, rfl, by omega, by rw [hdt, hpv, ← hk]; simp, by simp; omega, by simp, hi⟩)
  ·
   replace h1 := nm h1
   rw [hlen] at h1
   obtain rfl : j = l.length := by omega
   rw [List.take_length] at hk
   have hjk : junk.length ≠ 0 := fun e => hjn (List.eq_nil_of_length_eq_zero e)
   refine S7 ?_; refine Omv ?_; refine Omv ?_
   refine OL.popC rfl rfl rfl (POp.slC (l := i) (m := (intEls l).length) (kh := .i64) (gh := true) rfl rfl rfl rfl rfl rfl rfl (by omega) (by omega) (by omega)) ?_
   refine OL.clearC rfl (.inl rfl) rfl rfl rfl (by omega) (by kernel_rfl) (by simp; omega) (.head _ _ _) ?_
   refine S4 ?_; refine Omv ?_; refine Omv ?_
   refine OL.popC rfl rfl rfl (POp.slC (l := 0) (m := i) (kl := .i64) (gl := true) rfl rfl rfl rfl rfl rfl rfl (by omega) (by omega) (by omega)) ?_
   refine Oas ?_; refine S3 ?_
   obtain ⟨more2, hm2⟩ := del_end (l := l) (kept := kept) (junk := junk) (j := l.length) (more := more) (n := ((intEls l).length - i) * 1) hi
   refine Done.perm (.of_eq (congrArg (fun z => Ent.blk b 3 z :: Hx) hm2)) ?_
   refine Done.freezeS (d := 4) rfl (.head _ _) (show (intEls kept).length = i - 0 by simp [intEls]; omega) (k := 1) (by simp [intEls]) (by omega) (by omega) ?_
   refine r1 4 (Hx) ?_
   exact ⟨by rw [← hk]; rfl, rfl⟩
theorem p103 (m n : Int) : PCall Tryz.prog 103 [.i m, .ptr [.i n]] (.b (m == n)) := by
 intro H
 refine ACall.mk' (n := 7) Tryz.func103 rfl (by kernel_rfl) rfl rfl (fun B I w0 => ?_)
 refine S2 ?_; refine Oas ?_; refine S4 ?_; refine Omv ?_; refine Old ?_; refine Ocm ?_; refine Oas ?_; refine S3 ?_
 refine r1 3 (H) ?_
 exact ⟨by first | rfl | exact retI (by simp_all) | exact retB (by simp_all) | simp_all, rfl⟩
def pickL (l : List FLit) (ns : List Int) : List FLit := ns.map fun n => l.getD n.toNat default
theorem pick_snoc {l : List FLit} {ns : List Int} {k : Nat} (h : k < ns.length) : pickL l (ns.take (k + 1)) = pickL l (ns.take k) ++ [l.getD (ns.getD k default).toNat default] := by
 rw [← take_getD h, pickL, List.map_append]; rfl
theorem lits_snoc (l : List FLit) (x : FLit) : (l ++ [x]).map Lcells = l.map Lcells ++ [Lcells x] := by simp
theorem ints_snoc (l : List Int) (x : Int) : (l ++ [x]).map (fun n => [AV.i n]) = l.map (fun n => [AV.i n]) ++ [[AV.i x]] := by simp
theorem intss_snoc (l : List (List Int)) (x : List Int) : (l ++ [x]).map (fun n => [AV.ints n]) = l.map (fun n => [AV.ints n]) ++ [[AV.ints x]] := by simp
theorem p104 (l : List FLit) (ns : List Int) (hr : ∀ n ∈ ns, 0 ≤ n ∧ n < l.length) (hn : ns.length ≤ 100000) : PCall Tryz.prog 104 [AV.lits l, AV.ints ns] (AV.lits (pickL l ns)) := by
 intro H
 refine ACall.mk' (n := 23) Tryz.func104 rfl (by kernel_rfl) rfl rfl (fun B I w0 => ?_)
 refine S2 ?_; refine Oas ?_; refine S4 ?_; refine Oas ?_; refine S4 ?_
 refine CW.ownNil 5 118 7 rfl ?_
 refine S1 ?_; refine Omv ?_; refine Oln ?_; refine Omv ?_; refine S3 ?_
 refine lj (fun m st => ∃ (k : Nat) (v : Value), st = ⟨[(10, .i k), (9, .i ns.length), (8, AV.ints ns), (5, .as (AV.lits (pickL l (ns.take k))) v), (0, AV.lits l)], .own 118 7 v :: H⟩ ∧ m = ns.length - k ∧ k ≤ ns.length) (⟨0, _, rfl, rfl, Nat.zero_le _⟩) ?_
 rintro m _ ⟨k, v, rfl, rfl, hk⟩
 refine CW.boundM (t := 8) rfl (fun hbs => ?_)
 refine S2 ?_; refine Ocm ?_; refine S3 ?_
 refine CW.cond rfl (fun h0 => ?_) (fun h0 => ?_)
 ·
  replace h0 := nm h0
  have hkl : k < ns.length := by omega
  have hnr := hr (ns.getD k default) (getD_mem hkl)
  refine S6 ?_; refine Oix ?_; refine Old ?_; refine Oas ?_; refine S3 ?_; refine Omv ?_; refine Omv ?_; refine Omv ?_; refine Oix ?_; refine Ola ?_
  refine OL.popC rfl rfl rfl (POp.row rfl rfl (by first | rfl | simp_all [strip]) rfl rfl rfl rfl rfl rfl) ?_
  refine OL.appendC rfl rfl rfl rfl rfl rfl rfl rfl (AVle.refl _) (rfl) (fun v => by repeat (first | exact Upd.head _ _ _ | apply Upd.tail)) (by show (List.length (List.map _ _) + 1) * 88 ≤ _; rw [List.length_map, pickL, List.length_map, List.length_take]; omega) (by show List.length (List.map _ _) + 1 ≤ _; rw [List.length_map, pickL, List.length_map, List.length_take]; omega) (fun v20 => ?_)
  refine Oas ?_; refine S3 ?_
  refine CW.le 5 (y := .as (AV.lits (pickL l (ns.take (k + 1)))) v20) rfl (by rw [pick_snoc hkl, AV.lits, lits_snoc]; exact AVle.refl _) ?_
  refine S1 ?_; refine Oar ?_; refine Omv ?_; refine S1 ?_
  exact ag (⟨k + 1, v20, rfl, rfl, by omega⟩)
 ·
  replace h0 := nm h0
  obtain rfl : k = ns.length := by omega
  rw [List.take_length]
  refine S7 ?_; refine Omv ?_; refine Oas ?_; refine S3 ?_
  refine Done.retR (rs := [.tmp 4]) (H' := H) rfl (.tmp rfl (.nil)) (.cons (AVle.asL _ _) .nil) (by repeat (first | exact List.Sublist.refl _ | refine List.Sublist.cons _ ?_)) ?_
  exact ⟨by first | rfl | exact retI (by simp_all) | exact retB (by simp_all) | simp_all, rfl⟩
noncomputable def minStep (W : FW) (c : List FLit) (left : List Int) (n : Int) : List Int := if togetherK W (pickL c (left.filter fun m => !(m == n))) then left else left.filter fun m => !(m == n)
def numL (n : Nat) : List Int := (List.range n).map fun (i : Nat) => (i : Int)
noncomputable def minN (W : FW) (c : List FLit) (k : Nat) : List Int := (List.range k).foldl (fun left (n : Nat) => minStep W c left (n : Int)) (numL c.length)
noncomputable def minC (W : FW) (c : List FLit) : List Int := minN W c c.length
theorem minN_succ (W : FW) (c : List FLit) (k : Nat) : minN W c (k + 1) = minStep W c (minN W c k) k := by
 rw [minN, List.range_succ, List.foldl_append]; rfl
theorem num_succ (n : Nat) : numL (n + 1) = numL n ++ [(n : Int)] := by rw [numL, List.range_succ, List.map_append]; rfl
theorem num_len (n : Nat) : (numL n).length = n := by simp [numL]
structure MinI (c : List FLit) (k : Nat) (left : List Int) : Prop where
 rng : ∀ x ∈ left, 0 ≤ x ∧ x < c.length
 len : left.length ≤ c.length
 has : ∀ m : Nat, k ≤ m → m < c.length → (m : Int) ∈ left
theorem MinI.init (c : List FLit) : MinI c 0 (numL c.length) := by
 refine ⟨fun x hx => ?_, by rw [num_len]; omega, fun m _ hm => ?_⟩
 ·obtain ⟨i, hi, rfl⟩ := List.mem_map.1 hx
  have := List.mem_range.1 hi
  omega
 ·exact List.mem_map.2 ⟨m, List.mem_range.2 hm, rfl⟩
theorem MinI.filter {c : List FLit} {k : Nat} {left : List Int} (h : MinI c k left) : MinI c (k + 1) (left.filter fun m => !(m == (k : Int))) :=
 ⟨fun x hx => h.rng x (List.mem_filter.1 hx).1, Nat.le_trans (List.length_filter_le _ _) h.len, fun m h1 h2 => List.mem_filter.2 ⟨h.has m (by omega) h2, by simp; omega⟩⟩
theorem MinI.same {c : List FLit} {k : Nat} {left : List Int} (h : MinI c k left) : MinI c (k + 1) left := ⟨h.rng, h.len, fun m h1 h2 => h.has m (by omega) h2⟩
theorem minN_inv (W : FW) (c : List FLit) : ∀ k, MinI c k (minN W c k)
 | 0 => MinI.init c
 | k + 1 => by
  have h := minN_inv W c k
  rw [minN_succ, minStep]
  split
  ·exact h.same
  ·exact h.filter
theorem MinI.ne {c : List FLit} {k : Nat} {left : List Int} (h : MinI c k left) (hk : k < c.length) : left ≠ [] := fun e => by have := h.has k (Nat.le_refl _) hk; rw [e] at this; cases this
theorem pick_case {W : FW} {c : List FLit} {ns : List Int} (hc : CaseOk W c) (hr : ∀ n ∈ ns, 0 ≤ n ∧ n < c.length) (hl : ns.length ≤ c.length) : CaseOk W (pickL c ns) := by
 refine ⟨fun l hl => ?_, by rw [pickL, List.length_map]; exact Nat.le_trans hl hc.2⟩
 obtain ⟨n, hn, rfl⟩ := List.mem_map.1 hl
 have := hr n hn
 exact hc.1 _ (getD_mem (by omega))
theorem p35g {W : FW} {a b : Fact} (h : goodP W [a, b] = true) (hs : (impCases a b).length ≤ 400) (hno2 : ∀ c ∈ impCases a b, togetherK W c = false) : PCall Tryz.prog 35 [AV.world W, AV.fact a, AV.fact b] (.tup [AV.intss ((impCases a b).map (minC W)), .i 0]) := by
 intro H
 refine ACall.mk' (n := 78) Tryz.func35 rfl (by kernel_rfl) rfl rfl (fun B I w0 => ?_)
 have hw := good_w h
 have ha := good_f h (.head _)
 have hb := good_f h (.tail _ (.head _))
 have hG := imp_good hw ha.1 hb.1 ha.2 hb.2
 refine S2 ?_; refine Obx ?_; refine Obx ?_; refine Obx ?_; refine Oas ?_; refine Oas ?_; refine S4 ?_; refine Ola ?_; refine Ola ?_; refine Ola ?_
 refine OL.popC rfl rfl rfl (POp.row rfl rfl (by first | rfl | simp_all [strip]) rfl rfl rfl rfl rfl rfl) ?_
 refine OL.popC rfl rfl rfl (POp.callLe (.mk' rfl rfl rfl rfl rfl) (.cons (.refl _) (.cons (AVle_facts [a, b] rfl) .nil)) (p80g h)) ?_
 refine Omv ?_; refine Oex ?_; refine Oex ?_; refine Oas ?_; refine Oas ?_; refine S5 ?_; refine Omv ?_; refine Ont ?_; refine S2 ?_
 refine CW.cond rfl (fun h0 => ?_) (fun h0 => ?_)
 ·
  cases h0
 ·
  refine S4 ?_; refine Ola ?_; refine Ola ?_
  refine OL.popC rfl rfl rfl (POp.call (.mk' rfl rfl rfl rfl rfl) (p101s hG hs)) ?_
  refine Omv ?_; refine Oex ?_; refine Oex ?_; refine Oas ?_; refine Oas ?_; refine S5 ?_; refine Omv ?_; refine Ont ?_; refine S2 ?_
  refine CW.cond rfl (fun h1 => ?_) (fun h1 => ?_)
  ·
   cases h1
  ·
   refine S4 ?_; refine Oas ?_; refine S4 ?_
   refine CW.ownNil 11 23 1 rfl ?_
   refine S1 ?_; refine Omv ?_; refine Oln ?_; refine Omv ?_; refine S3 ?_
   refine lj (fun m st => ∃ (k : Nat) (v : Value), st = ⟨[(38, .i k), (37, .i (impCases a b).length), (36, AV.litss (impCases a b)), (11, .as (AV.intss (((impCases a b).take k).map (minC W))) v), (8, Wptr W)], .own 23 1 v :: H⟩ ∧ m = (impCases a b).length - k ∧ k ≤ (impCases a b).length ∧ ∀ c ∈ (impCases a b).take k, togetherK W c = false) (⟨0, _, rfl, rfl, Nat.zero_le _, by simp⟩) ?_
   rintro m _ ⟨k, v, rfl, rfl, hk, hall⟩
   refine S2 ?_; refine Ocm ?_; refine S3 ?_
   refine CW.cond rfl (fun h2 => ?_) (fun h2 => ?_)
   ·
    replace h2 := nm h2
    have hkl : k < (impCases a b).length := by omega
    obtain ⟨c, hc⟩ : ∃ c, c = (impCases a b).getD k default := ⟨_, rfl⟩
    have hcm : c ∈ impCases a b := by rw [hc]; exact getD_mem hkl
    have hcO := hG.case false c hcm
    have htk : (impCases a b).take (k + 1) = (impCases a b).take k ++ [c] := by rw [hc, take_getD hkl]
    refine S6 ?_; refine Oix ?_; refine Old ?_; refine Oas ?_; refine S4 ?_
    rw [← hc]
    refine S1 ?_; refine Omv ?_; refine Omv ?_
    refine OL.popC rfl rfl rfl (POp.call (.mk' rfl rfl rfl rfl rfl) (p82 hw hcO.1 hcO.2)) ?_
    refine S2 ?_
    refine CW.cond rfl (fun h3 => ?_) (fun h3 => ?_)
    ·
     exact absurd (hno2 c hcm) (by rw [h3]; simp)
    ·
     have hno : togetherK W c = false := by simpa using h3
     have hclen := hcO.2
     refine S4 ?_; refine Oas ?_; refine S4 ?_
     refine CW.ownNil 14 3 1 rfl ?_
     refine S1 ?_; refine Omv ?_; refine Oln ?_; refine Omv ?_; refine S3 ?_
     refine lj (fun m st => ∃ (q : Nat) (v2 : Value), st = ⟨[(47, .i q), (46, .i c.length), (14, .as (AV.ints (numL q)) v2), (13, AV.lits c), (38, .i k), (37, .i (impCases a b).length), (36, AV.litss (impCases a b)), (11, .as (AV.intss (((impCases a b).take k).map (minC W))) v), (8, Wptr W)], .own 3 1 v2 :: .own 23 1 v :: H⟩ ∧ m = c.length - q ∧ q ≤ c.length) (⟨0, _, rfl, rfl, Nat.zero_le _⟩) ?_
     rintro m _ ⟨q, v2, rfl, rfl, hq⟩
     refine S2 ?_; refine Ocm ?_; refine S3 ?_
     refine CW.cond rfl (fun h4 => ?_) (fun h4 => ?_)
     ·
      replace h4 := nm h4
      refine S6 ?_; refine Omv ?_; refine Oas ?_; refine S3 ?_; refine Omv ?_; refine Omv ?_
      refine OL.popC rfl rfl rfl (POp.row rfl rfl (by first | rfl | simp_all [strip]) rfl rfl rfl rfl rfl rfl) ?_
      refine OL.appendC rfl rfl rfl rfl rfl rfl rfl rfl (AVle.refl _) (rfl) (fun v => by repeat (first | exact Upd.head _ _ _ | apply Upd.tail)) (by show (List.length (List.map _ _) + 1) * 8 ≤ _; rw [List.length_map, num_len]; omega) (by show List.length (List.map _ _) + 1 ≤ _; rw [List.length_map, num_len]; omega) (fun v53 => ?_)
      refine Oas ?_; refine S3 ?_
      refine CW.le 14 (y := .as (AV.ints (numL (q + 1))) v53) rfl (by rw [num_succ, AV.ints, ints_snoc]; exact AVle.refl _) ?_
      refine S1 ?_; refine Oar ?_; refine Omv ?_; refine S1 ?_
      exact ag (⟨q + 1, v53, rfl, rfl, by omega⟩)
     ·
      replace h4 := nm h4
      obtain rfl : q = c.length := by omega
      refine S7 ?_
      refine CW.le 14 rfl (AVle.asL _ _) ?_
      refine S1 ?_; refine Omv ?_; refine Oln ?_; refine Omv ?_; refine S3 ?_
      refine lj (fun m st => ∃ (q : Nat), st = ⟨[(57, .i q), (56, .i c.length), (14, AV.ints (minN W c q)), (13, AV.lits c), (38, .i k), (37, .i (impCases a b).length), (36, AV.litss (impCases a b)), (11, .as (AV.intss (((impCases a b).take k).map (minC W))) v), (8, Wptr W)], .own 23 1 v :: H⟩ ∧ m = c.length - q ∧ q ≤ c.length) (⟨0, rfl, rfl, Nat.zero_le _⟩) ?_
      rintro m _ ⟨q, rfl, rfl, hq⟩
      have hI := minN_inv W c q
      have hIl := hI.len
      refine S2 ?_; refine Ocm ?_; refine S3 ?_
      refine CW.cond rfl (fun h5 => ?_) (fun h5 => ?_)
      ·
       replace h5 := nm h5
       have hql : q < c.length := by omega
       have hne := hI.ne hql
       have hF := hI.filter
       refine S6 ?_; refine Omv ?_
       refine OL.alC rfl rfl rfl rfl (fun b0 => ?_)
       refine Sto ?_; refine S3 ?_
       refine CW.freezeP (d := 16) rfl (by repeat (first | exact Del.head _ _ | apply Del.tail)) ?_
       refine S1 ?_; refine Omv ?_
       refine OL.bcallC rfl rfl rfl (.mk' rfl rfl rfl rfl rfl) (a32 _ (minN W c q) hne (by omega) _) ?_
       rintro y H1 ⟨bb, cap, more, rfl, hc1, hc2, rfl⟩
       refine Omf ?_
       refine OL.bcallC rfl rfl rfl (.mk' rfl rfl rfl rfl rfl) (b102 (PredOk.of (fun m => p103 m q)) _ (minN W c q) bb cap more (by omega) hc1 hc2 _) ?_
       rintro y H1 ⟨rfl, rfl⟩
       refine Oas ?_; refine S4 ?_; refine Omv ?_; refine Omv ?_; refine Omv ?_
       refine OL.popC rfl rfl rfl (POp.call (.mk' rfl rfl rfl rfl rfl) (p104 c _ hF.rng (by have := hF.len; omega))) ?_
       refine OL.popC rfl rfl rfl (POp.call (.mk' rfl rfl rfl rfl rfl) (p82 hw (pick_case hcO hF.rng hF.len).1 (pick_case hcO hF.rng hF.len).2)) ?_
       refine Ont ?_; refine S2 ?_
       refine CW.cond rfl (fun h6 => ?_) (fun h6 => ?_)
       ·
        have hst : minN W c (q + 1) = (minN W c q).filter fun m => !(m == (q : Int)) := by rw [minN_succ, minStep, if_neg (by simpa using h6)]
        rw [← hst]
        refine S1 ?_; refine Omv ?_; refine Oas ?_; refine S4 ?_; refine Oar ?_; refine Omv ?_; refine S1 ?_
        exact ag (⟨q + 1, rfl, rfl, by omega⟩)
       ·
        have hst : minN W c (q + 1) = minN W c q := by rw [minN_succ, minStep, if_pos (by simpa using h6)]
        rw [← hst]
        refine S4 ?_; refine Oar ?_; refine Omv ?_; refine S1 ?_
        exact ag (⟨q + 1, rfl, rfl, by omega⟩)
      ·
       replace h5 := nm h5
       obtain rfl : q = c.length := by omega
       refine S6 ?_; refine Omv ?_; refine Omv ?_
       refine OL.popC rfl rfl rfl (POp.row rfl rfl (by first | rfl | simp_all [strip]) rfl rfl rfl rfl rfl rfl) ?_
       refine OL.appendC rfl rfl rfl rfl rfl rfl rfl rfl (AVle.refl _) (rfl) (fun v => by repeat (first | exact Upd.head _ _ _ | apply Upd.tail)) (by show (List.length (List.map _ _) + 1) * 24 ≤ _; rw [List.length_map, List.length_map, List.length_take]; omega) (by show List.length (List.map _ _) + 1 ≤ _; rw [List.length_map, List.length_map, List.length_take]; omega) (fun v75 => ?_)
       refine Oas ?_; refine S3 ?_
       refine CW.le 11 (y := .as (AV.intss (((impCases a b).take (k + 1)).map (minC W))) v75) rfl (by rw [htk, List.map_append, AV.intss, List.map_singleton, intss_snoc]; exact AVle.refl _) ?_
       refine S1 ?_; refine Oar ?_; refine Omv ?_; refine S1 ?_
       exact ag (⟨k + 1, v75, rfl, rfl, by omega, fun c2 h2 => by rw [htk] at h2; rcases List.mem_append.1 h2 with h2 | h2; exact hall c2 h2; simp at h2; subst h2; exact hno⟩)
   ·
    replace h2 := nm h2
    obtain rfl : k = (impCases a b).length := by omega
    rw [List.take_length] at hall ⊢
    refine S7 ?_; refine Omv ?_; refine Oas ?_; refine Oas ?_; refine S3 ?_
    refine Done.retR (rs := [.tmp 6, .tmp 7]) (H' := H) rfl (.tmp rfl (.tmp rfl (.nil))) (.cons (AVle.asL _ _) (.cons (.refl _) .nil)) (by repeat (first | exact List.Sublist.refl _ | refine List.Sublist.cons _ ?_)) ?_
    exact ⟨by first | rfl | exact retI (by simp_all) | exact retB (by simp_all) | simp_all, rfl⟩
end Go.Proofs.YtiljpbljebfhnaaGreat
