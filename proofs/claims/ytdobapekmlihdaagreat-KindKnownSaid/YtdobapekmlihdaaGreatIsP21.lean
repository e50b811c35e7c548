/- Part 21 of the proof: contracts of functions of the program and what they need. No condition beyond those that each theorem names. -/
import Derived.Test.YtdobapekmlihdaaGreatIsP20
set_option maxRecDepth 100000
namespace Go.Proofs.YtdobapekmlihdaaGreat
open Go.Eng
theorem laidOutK : laidOutB Tryz.prog = true := by kernel_rfl
theorem mixedK : Tryz.prog.follows .mixedOrders = true := by kernel_rfl
theorem known : Ev.Says Tryz.prog 11 := Ev.then_says (by kernel_rfl) <|
 Ev.seg_then laidOutK mixedK (T := fun _ => false) (fun _ h => (by cases h)) (by rw [← EvK.k_segT_eq]; exact KA_seg1) <|
 Ev.seg_then laidOutK mixedK (T := fun _ => false) (fun _ h => (by cases h)) (by rw [← EvK.k_segT_eq]; exact KA_seg2) <|
 Ev.seg_then laidOutK mixedK (T := fun _ => false) (fun _ h => (by cases h)) (by rw [← EvK.k_segT_eq]; exact KA_seg3) <|
 Ev.seg_then laidOutK mixedK (T := fun _ => false) (fun _ h => (by cases h)) (by rw [← EvK.k_segT_eq]; exact KA_seg4) <|
 Ev.seg_then laidOutK mixedK (T := fun _ => false) (fun _ h => (by cases h)) (by rw [← EvK.k_segT_eq]; exact KA_seg5) <|
 Ev.end_then laidOutK mixedK (T := fun _ => false) (fun _ h => (by cases h)) (by rw [← EvK.k_endT_eq]; exact KA_fin)
theorem kindKnown : Ev.Says Tryz.prog 3 := Ev.then_says (by kernel_rfl) <|
 Ev.seg_then laidOutK mixedK (T := fun f => Nat.beq f 11) (fun f h => (by rw [Nat.eq_of_beq_eq_true h]; exact known)) (by rw [← EvK.k_segT_eq]; exact KB_seg1) <|
 Ev.seg_then laidOutK mixedK (T := fun f => Nat.beq f 11) (fun f h => (by rw [Nat.eq_of_beq_eq_true h]; exact known)) (by rw [← EvK.k_segT_eq]; exact KB_seg2) <|
 Ev.seg_then laidOutK mixedK (T := fun f => Nat.beq f 11) (fun f h => (by rw [Nat.eq_of_beq_eq_true h]; exact known)) (by rw [← EvK.k_segT_eq]; exact KB_seg3) <|
 Ev.seg_then laidOutK mixedK (T := fun f => Nat.beq f 11) (fun f h => (by rw [Nat.eq_of_beq_eq_true h]; exact known)) (by rw [← EvK.k_segT_eq]; exact KB_seg4) <|
 Ev.end_then laidOutK mixedK (T := fun f => Nat.beq f 11) (fun f h => (by rw [Nat.eq_of_beq_eq_true h]; exact known)) (by rw [← EvK.k_endT_eq]; exact KB_fin)
end Go.Proofs.YtdobapekmlihdaaGreat
