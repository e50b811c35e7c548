/- Part 6 of the proof: contracts of functions of the program and what they need. No condition beyond those that each theorem names. -/
import Derived.Test.YtpgnjlngepfanaaGreatDmP5
set_option linter.unusedVariables false
set_option linter.unusedSimpArgs false
namespace Go.Eng
open Go.RowKit (Below)
section
variable {P : Program} {H : List Ent} {ρ : Nat → Option AV} {o : Oper}
theorem bv64n (a : Int) (h : -9223372036854775808 ≤ a ∧ a ≤ 9223372036854775807) : IntKind.i64.wrap (BitVec.ofInt 64 (-1) ^^^ BitVec.ofInt 64 a).toNat = -a - 1 := by
 have e : BitVec.ofInt 64 (-1) ^^^ BitVec.ofInt 64 a = ~~~ BitVec.ofInt 64 a := by
  rw [show BitVec.ofInt 64 (-1) = BitVec.allOnes 64 by decide, BitVec.xor_comm, BitVec.xor_allOnes]
 rw [e, BitVec.toNat_not, BitVec.toNat_ofInt, show ((2 ^ 64 : Nat) : Int) = 18446744073709551616 by rfl, show (2 : Nat) ^ 64 = 18446744073709551616 by rfl]
 have h3 : ((18446744073709551616 - 1 - (a % 18446744073709551616).toNat : Nat) : Int) = 18446744073709551615 - a % 18446744073709551616 := by omega
 rw [h3]
 show (if (true && decide ((18446744073709551615 - a % 18446744073709551616) % 18446744073709551616 ≥ (9223372036854775808 : Int))) = true then (18446744073709551615 - a % 18446744073709551616) % 18446744073709551616 - (18446744073709551616 : Int) else (18446744073709551615 - a % 18446744073709551616) % 18446744073709551616) = _
 rw [Bool.true_and]
 simp only [decide_eq_true_eq]
 split <;> omega
theorem POp.unX {t : TypeId} {x : Operand} {a d : Int} {g : Bool} (h : o.op = .unOp .xor t x) (hx : aev ρ x = some (g, .i a)) (hg : g = true) (hr : -9223372036854775808 ≤ a ∧ a ≤ 9223372036854775807) (hd : -a - 1 = d) : POp P H ρ o (.i d) := by
 refine .same (by simp [h]) fun I w f ho => ?_
 have h1 := rel_val (ho.get (by simp [h, Op.operands]) hx hg)
 subst hd
 refine ⟨.int .i64 (-a - 1), ?_, .val _⟩
 have h2 := bv64n a hr
 simp [execOp, h, h1, Op.unary, Op.intBits, IntKind.signed, IntKind.bits] at h2 ⊢
 exact h2
end
section
variable {c : Ctx} {r : Option Nat} {P : Program} {ops : Array Oper} {l rest : List Oper} {o : Oper} {env : List (Nat × AV)} {H : List Ent} {Q : Exit → Act → World → Prop} {d : Nat}
theorem OL.rowBlk {t e by_ : Nat} {n k : Nat} {ps : Array (Nat × Operand)} {zs : List Value} {ys : List (Bool × AV)} (els : List (List AV)) [hA : HasApp P t (e, k, by_)] [hR : HasRow P t (k, zs)] (hgd : o.guard = none) (hd : o.dst = some d) (hn : Nat.blt d c.n = true) (h : o.op = .buildSlice t n ps)
  (hy : aevs (envGet env) (ps.toList.map (·.2)) = some ys) (hg : ys.all (·.1) = true) (hsm : Nat.ble (n * k) 16777216 = true) (hpos : Nat.blt 0 (n * k) = true)
  (hf : bfill (fun i => some (i * k, k)) ((rowZero n k zs).map .val) (partsOf ps.toList ys) = some els.flatten)
  (next : ∀ b, OL c r P ops rest ⟨(d, .val (.slice (some ⟨b, 0, none⟩) n n)) :: env, .blk b e els.flatten :: H⟩ Q) : OL c r P ops (o :: rest) ⟨env, H⟩ Q := by
 intro a w s
 refine wpListIn_plain hgd fun K hK => ?_
 obtain ⟨I, hw, he, hh, hv⟩ := s.mem
 have ho := hv.ops o
 obtain ⟨e1, e2⟩ := parts_rel ho ps (by simp [h, Op.operands]) hy hg
 obtain ⟨us, h1, h2⟩ := bfill_rel _ _ ((rowZero n k zs).map .val) (rowZero n k zs).toArray els.flatten (by simpa using relL_val _) e1 e2 hf
 have hsm := Nat.le_of_ble_eq_true hsm
 have hpos : 0 < n * k := Nat.le_of_ble_eq_true hpos
 obtain ⟨i, z, hu, hi, hz, hki, hby, hzs, hk0⟩ := appInfo_spec hA.h
 have hrun := buildSlice_run' hu hR.h (ps.map fun (i, x) => (i, a.eval x)) us hsm hpos h1 w
 refine Runs.of_value (R := fun v w' => v = .slice (some ⟨w.heap.size, 0, none⟩) n n ∧ w' = w.alloc (.cells us e)) (E := fun _ _ => False) (v := .slice (some ⟨w.heap.size, 0, none⟩) n n) (w' := w.alloc (.cells us e)) (by simp [h]) (by simp [execOp, h, hrun]) ⟨rfl, rfl⟩ K Q ?_ (fun _ _ h => h.elim)
 rintro v w' ⟨rfl, rfl⟩
 refine hK _ _ (next w.heap.size _ _ ⟨by rw [put_defers]; exact s.ds, by rw [tmps_put_size]; exact s.size, I, hw.alloc _, he.trans (ext_alloc hw _), hh.new hw e _ us h2, ?_⟩)
 rw [hd]
 exact (hv.keep (keeps_alloc hw _)).put (dst := some d) (by rw [s.size]; exact hn) (.val _)
end
section
variable {P : Program} {H : List Ent} {ρ : Nat → Option AV} {o : Oper}
theorem POp.neI {t t' : TypeId} {x y : Operand} {n : Nat} (as bs : List Int) {gx gy : Bool} [he : HasEq P t n] (h : o.op = .binOp .neq t x y t') (hx : aev ρ x = some (gx, .agg (as.map AV.i))) (hy : aev ρ y = some (gy, .agg (bs.map AV.i))) (hgx : gx = true) (hgy : gy = true)
  (ha : Nat.beq as.length n = true) (hb : Nat.beq bs.length n = true) : POp P H ρ o (.b (as != bs)) := by
 have ha := Nat.eq_of_beq_eq_true ha
 have hb := Nat.eq_of_beq_eq_true hb
 have hh := he.h
 simp only [eqInts, Bool.and_eq_true, Bool.not_eq_true'] at hh
 obtain ⟨⟨h1, h2⟩, h3⟩ := hh
 obtain ⟨fs, hu⟩ : ∃ fs, P.underlying t = some (.struct fs) := by
  split at h1
  ·rename_i fs e; exact ⟨fs, e⟩
  ·cases h1
 rw [hu] at h1
 simp only [Bool.and_eq_true, beq_iff_eq] at h1
 have hfo : P.fieldsOf t = fs := by rw [Program.fieldsOf, hu]
 refine .same (by simp [h]) fun I w f ho => ?_
 have q1 := ho.get (by simp [h, Op.operands]) hx hgx
 have q2 := ho.get (by simp [h, Op.operands]) hy hgy
 generalize hv : f.eval x = u at q1
 generalize hz : f.eval y = z at q2
 cases q1 with
 | agg _ vs hl1 =>
  cases q2 with
  | agg _ us hl2 =>
   have e1 : vs = intsArr as := Array.toList_inj.1 (by rw [aggInts_rel hl1])
   have e2 : us = intsArr bs := Array.toList_inj.1 (by rw [aggInts_rel hl2])
   subst e1; subst e2
   refine ⟨.bool (as != bs), ?_, .val _⟩
   have hrun := eqFields_ints (P := P) (w := w) 9998 ha hb fs.toList 0 (by omega) h1.2
   rw [List.drop_zero, List.drop_zero] at hrun
   simp only [execOp, h, hv, hz, Sem.run_bind]
   rw [run_eqGuard_agg w .neq t x y _ _ h3]
   simp only [Result.andThen_ok]
   rw [run_neq_struct, run_equalIn_agg w 9999 t _ _ (by rw [hfo]; exact hu) h2, hfo, hrun]
   rfl
end
end Go.Eng
