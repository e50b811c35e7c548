/- Part 21 of the proof: contracts of functions of the program and what they need. No condition beyond those that each theorem names. -/
import Derived.Test.YtdobapekmlihdabGreatIsP20
set_option maxRecDepth 100000
namespace Go.Proofs.YtdobapekmlihdabGreat
open Go.Eng
theorem laidOutK : laidOutB Tryz.prog = true := by kernel_rfl
theorem mixedK : Tryz.prog.follows .mixedOrders = true := by kernel_rfl
theorem known : Ev.Says Tryz.prog 13 := Ev.then_says (by kernel_rfl) <|
 Ev.seg_then laidOutK mixedK (T := fun _ => false) (fun _ h => (by cases h)) (by rw [← EvK.k_segT_eq]; exact KC_seg1) <|
 Ev.seg_then laidOutK mixedK (T := fun _ => false) (fun _ h => (by cases h)) (by rw [← EvK.k_segT_eq]; exact KC_seg2) <|
 Ev.seg_then laidOutK mixedK (T := fun _ => false) (fun _ h => (by cases h)) (by rw [← EvK.k_segT_eq]; exact KC_seg3) <|
 Ev.seg_then laidOutK mixedK (T := fun _ => false) (fun _ h => (by cases h)) (by rw [← EvK.k_segT_eq]; exact KC_seg4) <|
 Ev.seg_then laidOutK mixedK (T := fun _ => false) (fun _ h => (by cases h)) (by rw [← EvK.k_segT_eq]; exact KC_seg5) <|
 Ev.end_then laidOutK mixedK (T := fun _ => false) (fun _ h => (by cases h)) (by rw [← EvK.k_endT_eq]; exact KC_fin)
theorem vowKnown : Ev.Says Tryz.prog 3 := Ev.then_says (by kernel_rfl) <|
 Ev.seg_then laidOutK mixedK (T := fun f => Nat.beq f 13) (fun f h => (by rw [Nat.eq_of_beq_eq_true h]; exact known)) (by rw [← EvK.k_segT_eq]; exact KD_seg1) <|
 Ev.seg_then laidOutK mixedK (T := fun f => Nat.beq f 13) (fun f h => (by rw [Nat.eq_of_beq_eq_true h]; exact known)) (by rw [← EvK.k_segT_eq]; exact KD_seg2) <|
 Ev.seg_then laidOutK mixedK (T := fun f => Nat.beq f 13) (fun f h => (by rw [Nat.eq_of_beq_eq_true h]; exact known)) (by rw [← EvK.k_segT_eq]; exact KD_seg3) <|
 Ev.seg_then laidOutK mixedK (T := fun f => Nat.beq f 13) (fun f h => (by rw [Nat.eq_of_beq_eq_true h]; exact known)) (by rw [← EvK.k_segT_eq]; exact KD_seg4) <|
 Ev.end_then laidOutK mixedK (T := fun f => Nat.beq f 13) (fun f h => (by rw [Nat.eq_of_beq_eq_true h]; exact known)) (by rw [← EvK.k_endT_eq]; exact KD_fin)
end Go.Proofs.YtdobapekmlihdabGreat
