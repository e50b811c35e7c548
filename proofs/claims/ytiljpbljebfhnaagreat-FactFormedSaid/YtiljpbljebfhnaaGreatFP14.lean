/- Part 14 of the proof: contracts of functions of the program and what they need. No condition beyond those that each theorem names. -/
import Derived.Test.YtiljpbljebfhnaaGreatFP13
import Derived.ProofKit
set_option linter.unusedVariables false
set_option linter.unusedSimpArgs false
set_option maxRecDepth 10000
namespace Go.Proofs.YtiljpbljebfhnaaGreat
open Go.Eng
open Go.Eng.Fc
open Go.ChangeShapes
/-! ### what is handed to a law -/
section
variable {H : Type} {enc : TypeId × Value → H} {w : World} {base : Nat} {spare : Nat → Bool} {held : Bool}
theorem reads_ints (n : Nat) : Reads enc Tryz.prog w base spare held n 23 (fun l : List Int => [AV.ints l]) :=
  Reads.le (reads_slice (n := n) Tryz.underlying23 (by kernel_rfl) (by omega) (fun _ => rfl) (reads_int Tryz.underlying3)) (by omega)
theorem reads_intss (n : Nat) : Reads enc Tryz.prog w base spare held n 22 (fun l : List (List Int) => [AV.intss l]) :=
  Reads.le (reads_slice (n := n) Tryz.underlying22 (by kernel_rfl) (by omega) (fun _ => rfl) (reads_ints n)) (by omega)
theorem reads_world (n : Nat) : Reads enc Tryz.prog w base spare held n 25 Wcells := fun fuel hf cs x h => by
  obtain ⟨xs, m, rfl, _, hl, hn, hg⟩ := DataW.trod_struct Tryz.underlying25 h
  have hl : cs.length = 2 := hl.trans (by kernel_rfl)
  have h0 := hg 0 _ rfl
  have h1 := hg 1 _ rfl
  rw [List.getElem?_eq_getElem (by rw [hn]; decide)] at h0 h1
  obtain ⟨y0, r0⟩ := reads_intss m m (Nat.le_refl _) _ _ h0
  obtain ⟨y1, r1⟩ := reads_ints m m (Nat.le_refl _) _ _ h1
  refine ⟨⟨y0, y1⟩, ?_⟩
  have := relL_join (a := 0) (n := 1) (m := 1) r0 r1
  rwa [List.drop_zero, List.take_of_length_le (by omega)] at this
theorem reads_fact : ∀ n : Nat, Reads enc Tryz.prog w base spare held n 29 Fcells
  | 0, fuel, hf, cs, x, h => by
    obtain ⟨xs, m, rfl, _⟩ := DataW.trod_struct Tryz.underlying29 h
    omega
  | n + 1, fuel, hf, cs, x, h => by
    obtain ⟨xs, m, rfl, _, hl, hn, hg⟩ := DataW.trod_struct Tryz.underlying29 h
    have hl : cs.length = 6 := hl.trans (by kernel_rfl)
    have h0 := hg 0 _ rfl
    have h1 := hg 1 _ rfl
    have h2 := hg 2 _ rfl
    have h3 := hg 3 _ rfl
    have h4 := hg 4 _ rfl
    have h5 := hg 5 _ rfl
    rw [List.getElem?_eq_getElem (by rw [hn]; decide)] at h0 h1 h2 h3 h4 h5
    obtain ⟨y0, r0⟩ := reads_int (n := m) Tryz.underlying26 m (Nat.le_refl _) _ _ h0
    obtain ⟨y1, r1⟩ := reads_int (n := m) Tryz.underlying3 m (Nat.le_refl _) _ _ h1
    obtain ⟨y2, r2⟩ := reads_ints m m (Nat.le_refl _) _ _ h2
    obtain ⟨y3, r3⟩ := reads_int (n := m) Tryz.underlying3 m (Nat.le_refl _) _ _ h3
    obtain ⟨y4, r4⟩ := reads_int (n := m) Tryz.underlying3 m (Nat.le_refl _) _ _ h4
    obtain ⟨y5, r5⟩ := reads_slice (n := n) (k := 6) Tryz.underlying27 (by kernel_rfl) (by omega) (fun _ => rfl) (reads_fact n) m (by omega) _ _ h5
    refine ⟨.mk y0 y1 y2 y3 y4 y5, ?_⟩
    have r5 : RelL (allI w) w [AV.sl 6 (y5.map Fcells)] _ := r5
    rw [← encFs_map] at r5
    have := relL_join (a := 0) (n := 5) (m := 1) (relL_join (a := 0) (n := 4) (m := 1) (relL_join (a := 0) (n := 3) (m := 1) (relL_join (a := 0) (n := 2) (m := 1) (relL_join (a := 0) (n := 1) (m := 1) r0 r1) r2) r3) r4) r5
    rwa [List.drop_zero, List.take_of_length_le (by omega)] at this
theorem reads_val (n : Nat) : Reads enc Tryz.prog w base spare held n 97 (fun v : Int × Int => [AV.i v.1, AV.i v.2]) := fun fuel hf cs x h => by
  obtain ⟨xs, m, rfl, _, hl, hn, hg⟩ := DataW.trod_struct Tryz.underlying97 h
  have hl : cs.length = 2 := hl.trans (by kernel_rfl)
  have h0 := hg 0 _ rfl
  have h1 := hg 1 _ rfl
  rw [List.getElem?_eq_getElem (by rw [hn]; decide)] at h0 h1
  obtain ⟨y0, r0⟩ := reads_int (n := m) Tryz.underlying95 m (Nat.le_refl _) _ _ h0
  obtain ⟨y1, r1⟩ := reads_int (n := m) Tryz.underlying3 m (Nat.le_refl _) _ _ h1
  refine ⟨⟨y0, y1⟩, ?_⟩
  have := relL_join (a := 0) (n := 1) (m := 1) r0 r1
  rwa [List.drop_zero, List.take_of_length_le (by omega)] at this
theorem reads_vals (n : Nat) : Reads enc Tryz.prog w base spare held n 31 (fun l : List (Int × Int) => [AV.vals l]) :=
  Reads.le (reads_slice (n := n) Tryz.underlying31 (by kernel_rfl) (by omega) (fun _ => rfl) (reads_val n)) (by omega)
theorem reads_thing (n : Nat) : Reads enc Tryz.prog w base spare held n 160 (fun o : Int × List (Int × Int) => [AV.i o.1, AV.vals o.2]) := fun fuel hf cs x h => by
  obtain ⟨xs, m, rfl, _, hl, hn, hg⟩ := DataW.trod_struct Tryz.underlying160 h
  have hl : cs.length = 2 := hl.trans (by kernel_rfl)
  have h0 := hg 0 _ rfl
  have h1 := hg 1 _ rfl
  rw [List.getElem?_eq_getElem (by rw [hn]; decide)] at h0 h1
  obtain ⟨y0, r0⟩ := reads_int (n := m) Tryz.underlying3 m (Nat.le_refl _) _ _ h0
  obtain ⟨y1, r1⟩ := reads_vals m m (Nat.le_refl _) _ _ h1
  refine ⟨⟨y0, y1⟩, ?_⟩
  have := relL_join (a := 0) (n := 1) (m := 1) r0 r1
  rwa [List.drop_zero, List.take_of_length_le (by omega)] at this
theorem reads_things (n : Nat) : Reads enc Tryz.prog w base spare held n 30 (fun l : List (Int × List (Int × Int)) => [AV.things l]) :=
  Reads.le (reads_slice (n := n) Tryz.underlying30 (by kernel_rfl) (by omega) (fun _ => rfl) (reads_thing n)) (by omega)
theorem reads_given (n : Nat) : Reads enc Tryz.prog w base spare held n 33 Gcells := fun fuel hf cs x h => by
  obtain ⟨xs, m, rfl, _, hl, hn, hg⟩ := DataW.trod_struct Tryz.underlying33 h
  have hl : cs.length = 18 := hl.trans (by kernel_rfl)
  have h0 := hg 0 _ rfl
  have h1 := hg 1 _ rfl
  have h2 := hg 2 _ rfl
  have h3 := hg 3 _ rfl
  have h4 := hg 4 _ rfl
  have h5 := hg 5 _ rfl
  have h6 := hg 6 _ rfl
  rw [List.getElem?_eq_getElem (by rw [hn]; decide)] at h0 h1 h2 h3 h4 h5 h6
  obtain ⟨y0, r0⟩ := reads_world m m (Nat.le_refl _) _ _ h0
  obtain ⟨y1, r1⟩ := reads_fact m m (Nat.le_refl _) _ _ h1
  obtain ⟨y2, r2⟩ := reads_fact m m (Nat.le_refl _) _ _ h2
  obtain ⟨y3, r3⟩ := reads_things m m (Nat.le_refl _) _ _ h3
  obtain ⟨y4, r4⟩ := reads_vals m m (Nat.le_refl _) _ _ h4
  obtain ⟨y5, r5⟩ := reads_int (n := m) Tryz.underlying3 m (Nat.le_refl _) _ _ h5
  obtain ⟨y6, r6⟩ := reads_ints m m (Nat.le_refl _) _ _ h6
  refine ⟨⟨y0, y1, y2, y3, y4, y5, y6⟩, ?_⟩
  have := relL_join (a := 0) (n := 17) (m := 1) (relL_join (a := 0) (n := 16) (m := 1) (relL_join (a := 0) (n := 15) (m := 1) (relL_join (a := 0) (n := 14) (m := 1) (relL_join (a := 0) (n := 8) (m := 6) (relL_join (a := 0) (n := 2) (m := 6) r0 r1) r2) r3) r4) r5) r6
  rwa [List.drop_zero, List.take_of_length_le (by omega)] at this
end
def givenZero : Array Value := #[.slice none 0 0, .slice none 0 0, .int .i64 0, .int .i64 0, .slice none 0 0, .int .i64 0, .int .i64 0, .slice none 0 0, .int .i64 0, .int .i64 0, .slice none 0 0, .int .i64 0, .int .i64 0, .slice none 0 0, .slice none 0 0, .slice none 0 0, .int .i64 0, .slice none 0 0]
section
variable {H : Type} {enc : TypeId × Value → H} {w : World} {v : Value} {d : DataW H} {ps : List MemPlace} {base base' : Nat} {r : Reach}
theorem given_of (h : DataW.Trod enc Tryz.prog w base (fun _ => true) true 33 v d ps) : ∃ g, Rel (allI w) w (AV.given g) v := by
  obtain ⟨fuel, h⟩ := h
  obtain ⟨g, hg⟩ := reads_given fuel fuel (Nat.le_refl _) _ _ h
  exact ⟨g, rel_agg hg (by simp [Gcells, Wcells, Fcells])⟩
/-- a value of a type of one cell is that cell -/
theorem one_rel {I : Imm} {t : TypeId} {x : AV} (hu : (match Tryz.prog.underlying t with | some (.int _) => true | some (.slice _) => true | _ => false) = true) (hv : Value.okWide Tryz.prog w r base t v) (h : RelL I w [x] v.cells.toList) : Rel I w x v := by
  cases v with
  | agg vs =>
    exfalso
    unfold Value.okWide at hv
    split at hv
    · rename_i e; rw [e] at hu; cases hu
    · rename_i e; rw [e] at hu; cases hu
    · unfold Cell.okWide Cell.ok at hv
      split at hv <;> simp_all
  | _ => simp only [Value.cells] at h; cases h with | cons _ _ _ _ h _ => exact h
theorem int_of (hv : Value.okWide Tryz.prog w r base 3 v) (h : DataW.Trod enc Tryz.prog w base' (fun _ => true) true 3 v d ps) : ∃ n : Int, Rel (allI w) w (.i n) v := by
  obtain ⟨fuel, h⟩ := h
  obtain ⟨n, hn⟩ := reads_int (n := fuel) Tryz.underlying3 fuel (Nat.le_refl _) _ _ h
  exact ⟨n, one_rel (by kernel_rfl) hv hn⟩
end
end Go.Proofs.YtiljpbljebfhnaaGreat
