/- Part 6 of the proof: contracts of functions of the program and what they need. No condition beyond those that each theorem names. -/
import Derived.Test.YtpgnjlngepfanaaGreatIbP5
import Derived.Laws.StructEq
import Derived.ChangeKeysEq
set_option linter.unusedVariables false
set_option linter.unusedSimpArgs false
namespace Go.Eng
open Go.RowKit (Below)
theorem bfill_row {k : Nat} : ∀ (parts : List (Nat × AV)) (i0 : Nat) (cs : List AV), parts.map (·.1) = (List.range parts.length).map (i0 + ·) → (∀ p ∈ parts, bOk p.2 = true ∧ (bcells p.2).length = k) → (i0 + parts.length) * k ≤ cs.length →
  bfill (fun i => some (i * k, k)) cs parts = some (cs.take (i0 * k) ++ (parts.map fun p => bcells p.2).flatten ++ cs.drop ((i0 + parts.length) * k))
 | [], i0, cs, _, _, _ => by simp [bfill]
 | (i, x) :: r, i0, cs, hi, hp, hl => by
  have hx := hp (i, x) (.head _)
  rw [List.length_cons, List.range_succ_eq_map, List.map_cons, List.map_cons, List.cons.injEq, List.map_map] at hi
  obtain ⟨e, hi⟩ := hi
  simp only [Nat.add_zero] at e
  subst e
  rw [List.length_cons] at hl
  have hm : (i + 1) * k ≤ cs.length := Nat.le_trans (Nat.mul_le_mul_right k (by omega)) hl
  have e1 : (i + 1) * k = i * k + k := Nat.succ_mul i k
  have hlen : (cs.take (i * k) ++ bcells x ++ cs.drop (i * k + k)).length = cs.length := by
   simp only [List.length_append, List.length_take, List.length_drop, hx.2]
   omega
  rw [bfill]
  simp only [hx.1, hx.2, Nat.beq_refl, Bool.true_and, Nat.ble_eq_true_of_le (e1 ▸ hm), cond_true]
  rw [bfill_row r (i + 1) _ (by rw [hi]; exact List.map_congr_left fun a _ => by simp; omega) (fun p h => hp p (.tail _ h)) (by rw [hlen]; rw [show i + 1 + r.length = i + (r.length + 1) by omega]; exact hl)]
  rw [show i + 1 + r.length = i + (r.length + 1) by omega, e1]
  congr 1
  have t1 : (cs.take (i * k) ++ bcells x ++ cs.drop (i * k + k)).take (i * k + k) = cs.take (i * k) ++ bcells x := by
   rw [List.take_append_of_le_length (by simp only [List.length_append, List.length_take, hx.2]; omega), List.take_of_length_le (by simp only [List.length_append, List.length_take, hx.2]; omega)]
  have t2 : (cs.take (i * k) ++ bcells x ++ cs.drop (i * k + k)).drop ((i + (r.length + 1)) * k) = cs.drop ((i + (r.length + 1)) * k) := by
   have hle : i * k + k ≤ (i + (r.length + 1)) * k := by rw [← e1]; exact Nat.mul_le_mul_right k (by omega)
   rw [List.drop_append, List.drop_of_length_le (by simp only [List.length_append, List.length_take, hx.2]; omega), List.nil_append, List.drop_drop]
   congr 1
   simp only [List.length_append, List.length_take, hx.2]; omega
  rw [t1, t2]
  simp
section
variable {P : Program} {H : List Ent} {ρ : Nat → Option AV} {o : Oper}
theorem POp.rowK {t : TypeId} {n k : Nat} {ps : Array (Nat × Operand)} {zs : List Value} (ys : List (Bool × AV)) [hR : HasRow P t (k, zs)] (h : o.op = .buildSlice t n ps)
  (hy : aevs ρ (ps.toList.map (·.2)) = some ys) (hg : ys.all (·.1) = true) (hidx : ps.toList.map (·.1) = List.range n) (hb : ys.all (fun y => bOk y.2 && Nat.beq (bcells y.2).length k) = true) (hlen : Nat.beq ys.length n = true)
  (hsm : Nat.ble (n * k) 16777216 = true) (hpos : Nat.blt 0 (n * k) = true) : POp P H ρ o (.sl k (ys.map fun y => bcells y.2)) := by
 have hn := Nat.eq_of_beq_eq_true hlen
 simp only [List.all_eq_true, Bool.and_eq_true] at hb
 have hpl : partsOf ps.toList ys = (List.range n).zip (ys.map (·.2)) := by rw [partsOf, hidx]
 have hzl : ((List.range n).zip (ys.map (·.2))).map (·.2) = ys.map (·.2) := List.map_snd_zip (by rw [List.length_range, List.length_map, hn]; exact Nat.le_refl _)
 have hzf : ((List.range n).zip (ys.map (·.2))).map (·.1) = List.range n := List.map_fst_zip (by rw [List.length_range, List.length_map, hn]; exact Nat.le_refl _)
 have hzn : ((List.range n).zip (ys.map (·.2))).length = n := by rw [List.length_zip, List.length_range, List.length_map, hn, Nat.min_self]
 have hmm : (ys.map (·.2)).map bcells = ys.map fun y => bcells y.2 := by rw [List.map_map]; rfl
 have hall : (ys.map fun y => bcells y.2).all (fun e => Nat.beq e.length k) = true := by
  rw [List.all_eq_true]; intro e he
  obtain ⟨y, hy, rfl⟩ := List.mem_map.1 he
  exact (hb y hy).2
 refine POp.row (hR := hR) h hy hg (els := ys.map fun y => bcells y.2) ?_ (by rw [List.length_map]; exact hlen) hall hsm hpos ?_
 ·rw [hpl, show (fun x : Nat × AV => bcells x.2) = bcells ∘ (·.2) from rfl, ← List.map_map, hzl, hmm]
 ·rw [hpl, bfill_row ((List.range n).zip (ys.map (·.2))) 0 _ (by rw [hzf, hzn]; simp) ?_ ?_]
  ·rw [hzn]
   have hzlen : ((rowZero n k zs).map AV.val).length = n * k := by simp [rowZero]
   rw [show (0 + n) * k = n * k by rw [Nat.zero_add], List.drop_of_length_le (by rw [hzlen]; exact Nat.le_refl _)]
   simp only [Nat.zero_mul, List.take_zero, List.nil_append, List.append_nil]
   rw [show (fun p : Nat × AV => bcells p.2) = bcells ∘ (·.2) from rfl, ← List.map_map, hzl, hmm]
  ·intro p hp
   obtain ⟨y, hy, e⟩ := List.mem_map.1 (List.of_mem_zip hp).2
   have := hb y hy
   rw [← e]
   exact ⟨this.1, Nat.eq_of_beq_eq_true this.2⟩
  ·rw [hzn]; simp [rowZero]
end
def eqField (P : Program) (p : Field × Nat) : Bool := p.1.offset == p.2 && p.1.name != "_" && P.plainKey p.1.type && (match P.underlying p.1.type with | some (.int _) => true | _ => false)
def eqInts (P : Program) (t : TypeId) (n : Nat) : Bool := (match P.underlying t with | some (.struct fs) => fs.toList.length == n && fs.toList.zipIdx.all (eqField P) | _ => false) && !P.stoodInHeld t && !P.eqGuardType P.depth t
class HasEq (P : Program) (t : TypeId) (n : outParam Nat) : Prop where
 h : eqInts P t n = true
abbrev intsArr (l : List Int) : Array Value := (l.map fun n => Value.int .i64 n).toArray
theorem eqFields_ints {P : Program} {w : World} (d : Nat) {as bs : List Int} {n : Nat} (ha : as.length = n) (hb : bs.length = n) : ∀ (fs : List Field) (k : Nat), k + fs.length = n → ((fs.zipIdx k).all (eqField P)) = true →
  (Op.eqFields (d + 1) (intsArr as) (intsArr bs) fs).run P w = .ok (as.drop k == bs.drop k) w
 | [], k, hk, _ => by
  rw [List.length_nil] at hk
  rw [List.drop_of_length_le (by omega), List.drop_of_length_le (by omega)]; rfl
 | f :: fs, k, hk, hf => by
  rw [List.length_cons] at hk
  rw [List.zipIdx_cons, List.all_cons, Bool.and_eq_true] at hf
  have h1 := hf.1
  simp only [eqField, Bool.and_eq_true, beq_iff_eq, bne_iff_ne, ne_eq] at h1
  obtain ⟨⟨⟨ho, hn⟩, hp⟩, hu⟩ := h1
  obtain ⟨k', hu⟩ : ∃ k', P.underlying f.type = some (.int k') := by
   split at hu
   ·rename_i k' e; exact ⟨k', e⟩
   ·cases hu
  have hka : k < as.length := by omega
  have hkb : k < bs.length := by omega
  have ga : (intsArr as)[f.offset]? = some (.int .i64 as[k]) := by rw [ho]; simp [intsArr, List.getElem?_eq_getElem hka]
  have gb : (intsArr bs)[f.offset]? = some (.int .i64 bs[k]) := by rw [ho]; simp [intsArr, List.getElem?_eq_getElem hkb]
  have hab : (as.drop k == bs.drop k) = (as[k] == bs[k] && as.drop (k + 1) == bs.drop (k + 1)) := by rw [List.drop_eq_getElem_cons hka, List.drop_eq_getElem_cons hkb]; rfl
  rw [hab]
  simp only [Op.eqFields, Sem.run_ite, Sem.run_bind]
  rw [if_pos hn, Go.run_part_plain (w := w) hp ga]
  simp only [Result.andThen_ok]
  rw [Go.run_part_plain (w := w) hp gb]
  simp only [Result.andThen_ok]
  rw [run_equalIn_int w d f.type .i64 k' as[k] bs[k] hu]
  simp only [Result.andThen_ok]
  have ih := eqFields_ints (P := P) (w := w) d ha hb fs (k + 1) (by omega) hf.2
  by_cases e : as[k] = bs[k]
  ·have e2 : (as[k] == bs[k]) = true := by simpa using e
   rw [e2]
   simp only [Bool.not_true, Bool.false_eq_true, if_false, Bool.true_and]
   exact ih
  ·have e2 : (as[k] == bs[k]) = false := by simpa using e
   rw [e2]
   simp only [Bool.not_false, if_true, Sem.run_pure, Bool.false_and]
section
variable {P : Program} {H : List Ent} {ρ : Nat → Option AV} {o : Oper}
theorem aggInts_rel {I : Imm} {w : World} : ∀ {l : List Int} {vs : List Value}, RelL I w (l.map AV.i) vs → vs = l.map fun n => Value.int .i64 n
 | [], _, h => by cases h; rfl
 | n :: r, _, h => by
  cases h with
  | cons _ v _ vs hv ht =>
   rw [rel_val hv, aggInts_rel ht]; rfl
theorem POp.eqI {t t' : TypeId} {x y : Operand} {n : Nat} (as bs : List Int) {gx gy : Bool} [he : HasEq P t n] (h : o.op = .binOp .eql t x y t') (hx : aev ρ x = some (gx, .agg (as.map AV.i))) (hy : aev ρ y = some (gy, .agg (bs.map AV.i))) (hgx : gx = true) (hgy : gy = true)
  (ha : Nat.beq as.length n = true) (hb : Nat.beq bs.length n = true) : POp P H ρ o (.b (as == bs)) := by
 have ha := Nat.eq_of_beq_eq_true ha
 have hb := Nat.eq_of_beq_eq_true hb
 have hh := he.h
 simp only [eqInts, Bool.and_eq_true, Bool.not_eq_true'] at hh
 obtain ⟨⟨h1, h2⟩, h3⟩ := hh
 obtain ⟨fs, hu⟩ : ∃ fs, P.underlying t = some (.struct fs) := by
  split at h1
  ·rename_i fs e; exact ⟨fs, e⟩
  ·cases h1
 rw [hu] at h1
 simp only [Bool.and_eq_true, beq_iff_eq] at h1
 have hfo : P.fieldsOf t = fs := by rw [Program.fieldsOf, hu]
 refine .same (by simp [h]) fun I w f ho => ?_
 have q1 := ho.get (by simp [h, Op.operands]) hx hgx
 have q2 := ho.get (by simp [h, Op.operands]) hy hgy
 generalize hv : f.eval x = u at q1
 generalize hz : f.eval y = z at q2
 cases q1 with
 | agg _ vs hl1 =>
  cases q2 with
  | agg _ us hl2 =>
   have e1 : vs = intsArr as := Array.toList_inj.1 (by rw [aggInts_rel hl1])
   have e2 : us = intsArr bs := Array.toList_inj.1 (by rw [aggInts_rel hl2])
   subst e1; subst e2
   refine ⟨.bool (as == bs), ?_, .val _⟩
   have hrun := eqFields_ints (P := P) (w := w) 9998 ha hb fs.toList 0 (by omega) h1.2
   rw [List.drop_zero, List.drop_zero] at hrun
   simp only [execOp, h, hv, hz, Sem.run_bind]
   rw [run_eqGuard_agg w .eql t x y _ _ h3]
   simp only [Result.andThen_ok]
   rw [run_eql_struct, run_equalIn_agg w 9999 t _ _ (by rw [hfo]; exact hu) h2, hfo, hrun]
   rfl
end
section
variable {P : Program} {H : List Ent} {ρ : Nat → Option AV} {o : Oper}
theorem POp.lookupI2 {t : TypeId} {x kx : Operand} {b : Nat} {ke : Nat × Nat} {l : List (Int × AV)} {k : Int} {g1 g2 : Bool} {zv : Value} [hM : HasMapI P t ke] [hZ : HasZ P ke.2 zv] (h : o.op = .lookup t x kx true)
  (hx : aev ρ x = some (g1, .val (.map (some b)))) (hg1 : g1 = true) (hk : aev ρ kx = some (g2, .i k)) (hg2 : g2 = true) (hm : imapE b l ∈ H) (hl : IMapOk l) (hsm : smallKey k) : POp P H ρ o (.tup [(getI l k).getD (.val zv), .b (getI l k).isSome]) := by
 intro B I w r a Hc hw hh hs ho
 have hxv := rel_val (ho.get (by simp [h, Op.operands]) hx hg1)
 have hkv := rel_val (ho.get (by simp [h, Op.operands]) hk hg2)
 obtain ⟨hB, ⟨en, cl, hb, hkeys, hvals⟩, hni⟩ := hh.ok _ (hs _ hm)
 have K := Go.Maps.int_keyed hM.int
 obtain ⟨lx, hlx⟩ := goodKey_int hM.int hsm
 have hall : ∀ e ∈ en.toList, ∃ l, keyOf P ke.1 e.key = some l := fun e he => by
  have : e.key ∈ (l.map fun p => ((Value.int .i64 p.1, p.2) : Value × AV)).map (·.1) := by rw [← hkeys]; exact List.mem_map_of_mem he
  rw [List.map_map] at this
  obtain ⟨p, hp, hpe⟩ := List.mem_map.1 this
  rw [← hpe]; exact goodKey_int hM.int (hl.small p hp)
 have hchk := K.check w en.isEmpty hlx
 have hget : (getObj b).run P w = .ok (.map en cl) w := by simp [getObj, Sem.run, hb]
 rcases K.find w hlx en.toList hall with ⟨hf, hne⟩ | ⟨j, e, hf, hj, hke⟩
 ·have hz := zero_of hZ.h w
  have hrun : (execOp a.eval o).run P w = .ok (.value (.tuple #[zv, .bool false])) w := by
   simp [execOp, h, Instr.lookup, run_underlying hM.h, hxv, hkv, hget, hchk, hf, hz]
  have hg : getI l k = none := getI_new l k fun p hp e => by
   have : (Value.int .i64 p.1) ∈ en.toList.map (·.key) := by rw [hkeys, List.map_map]; exact List.mem_map.2 ⟨p, hp, rfl⟩
   obtain ⟨e', he', hee⟩ := List.mem_map.1 this
   exact hne e' he' (by rw [hee, e])
  refine Runs.of_value (by simp [h]) hrun ⟨I, hw, Ext.refl _ _ _, hh, ?_⟩
  rw [hg]; exact .tup _ _ (.cons _ _ _ _ (.val _) (.cons _ _ _ _ (.val _) .nil))
 ·have hrun : (execOp a.eval o).run P w = .ok (.value (.tuple #[e.val, .bool true])) w := by
   simp [execOp, h, Instr.lookup, run_underlying hM.h, hxv, hkv, hget, hchk, hf]
  obtain ⟨u, hu1, hu2⟩ := relL_get hvals (i := j) (v := e.val) (by rw [List.getElem?_map, hj]; rfl)
  have hlj : l[j]? = some (k, u) := by
   rw [List.map_map, List.getElem?_map] at hu1
   cases hp : l[j]? with
   | none => rw [hp] at hu1; cases hu1
   | some p =>
    rw [hp] at hu1
    have h2 : ((l.map fun p => ((Value.int .i64 p.1, p.2) : Value × AV)).map (·.1))[j]? = some e.key := by rw [← hkeys, List.getElem?_map, hj]; rfl
    rw [List.map_map, List.getElem?_map, hp] at h2
    simp at hu1 h2
    rw [hke] at h2
    simp at h2
    rw [show p = (k, u) from Prod.ext h2 hu1]
  refine Runs.of_value (by simp [h]) hrun ⟨I, hw, Ext.refl _ _ _, hh, ?_⟩
  rw [(putI_at l k .any j u hl.nodup hlj).2]; exact .tup _ _ (.cons _ _ _ _ hu2 (.cons _ _ _ _ (.val _) .nil))
end
section
variable {P : Program} {H : List Ent} {ρ : Nat → Option AV} {o : Oper}
theorem bv64n (a : Int) (h : -9223372036854775808 ≤ a ∧ a ≤ 9223372036854775807) : IntKind.i64.wrap (BitVec.ofInt 64 (-1) ^^^ BitVec.ofInt 64 a).toNat = -a - 1 := by
 have e : BitVec.ofInt 64 (-1) ^^^ BitVec.ofInt 64 a = ~~~ BitVec.ofInt 64 a := by
  rw [show BitVec.ofInt 64 (-1) = BitVec.allOnes 64 by decide, BitVec.xor_comm, BitVec.xor_allOnes]
 rw [e, BitVec.toNat_not, BitVec.toNat_ofInt, show ((2 ^ 64 : Nat) : Int) = 18446744073709551616 by rfl, show (2 : Nat) ^ 64 = 18446744073709551616 by rfl]
 have h3 : ((18446744073709551616 - 1 - (a % 18446744073709551616).toNat : Nat) : Int) = 18446744073709551615 - a % 18446744073709551616 := by omega
 rw [h3]
 show (if (true && decide ((18446744073709551615 - a % 18446744073709551616) % 18446744073709551616 ≥ (9223372036854775808 : Int))) = true then (18446744073709551615 - a % 18446744073709551616) % 18446744073709551616 - (18446744073709551616 : Int) else (18446744073709551615 - a % 18446744073709551616) % 18446744073709551616) = _
 rw [Bool.true_and]
 simp only [decide_eq_true_eq]
 split <;> omega
theorem POp.unX {t : TypeId} {x : Operand} {a d : Int} {g : Bool} (h : o.op = .unOp .xor t x) (hx : aev ρ x = some (g, .i a)) (hg : g = true) (hr : -9223372036854775808 ≤ a ∧ a ≤ 9223372036854775807) (hd : -a - 1 = d) : POp P H ρ o (.i d) := by
 refine .same (by simp [h]) fun I w f ho => ?_
 have h1 := rel_val (ho.get (by simp [h, Op.operands]) hx hg)
 subst hd
 refine ⟨.int .i64 (-a - 1), ?_, .val _⟩
 have h2 := bv64n a hr
 simp [execOp, h, h1, Op.unary, Op.intBits, IntKind.signed, IntKind.bits] at h2 ⊢
 exact h2
end
section
variable {c : Ctx} {r : Option Nat} {P : Program} {ops : Array Oper} {l rest : List Oper} {o : Oper} {env : List (Nat × AV)} {H : List Ent} {Q : Exit → Act → World → Prop} {d : Nat}
theorem OL.rowBlk {t e by_ : Nat} {n k : Nat} {ps : Array (Nat × Operand)} {zs : List Value} {ys : List (Bool × AV)} (els : List (List AV)) [hA : HasApp P t (e, k, by_)] [hR : HasRow P t (k, zs)] (hgd : o.guard = none) (hd : o.dst = some d) (hn : Nat.blt d c.n = true) (h : o.op = .buildSlice t n ps)
  (hy : aevs (envGet env) (ps.toList.map (·.2)) = some ys) (hg : ys.all (·.1) = true) (hsm : Nat.ble (n * k) 16777216 = true) (hpos : Nat.blt 0 (n * k) = true)
  (hf : bfill (fun i => some (i * k, k)) ((rowZero n k zs).map .val) (partsOf ps.toList ys) = some els.flatten)
  (next : ∀ b, OL c r P ops rest ⟨(d, .val (.slice (some ⟨b, 0, none⟩) n n)) :: env, .blk b e els.flatten :: H⟩ Q) : OL c r P ops (o :: rest) ⟨env, H⟩ Q := by
 intro a w s
 refine wpListIn_plain hgd fun K hK => ?_
 obtain ⟨I, hw, he, hh, hv⟩ := s.mem
 have ho := hv.ops o
 obtain ⟨e1, e2⟩ := parts_rel ho ps (by simp [h, Op.operands]) hy hg
 obtain ⟨us, h1, h2⟩ := bfill_rel _ _ ((rowZero n k zs).map .val) (rowZero n k zs).toArray els.flatten (by simpa using relL_val _) e1 e2 hf
 have hsm := Nat.le_of_ble_eq_true hsm
 have hpos : 0 < n * k := Nat.le_of_ble_eq_true hpos
 obtain ⟨i, z, hu, hi, hz, hki, hby, hzs, hk0⟩ := appInfo_spec hA.h
 have hrun := buildSlice_run' hu hR.h (ps.map fun (i, x) => (i, a.eval x)) us hsm hpos h1 w
 refine Runs.of_value (R := fun v w' => v = .slice (some ⟨w.heap.size, 0, none⟩) n n ∧ w' = w.alloc (.cells us e)) (E := fun _ _ => False) (v := .slice (some ⟨w.heap.size, 0, none⟩) n n) (w' := w.alloc (.cells us e)) (by simp [h]) (by simp [execOp, h, hrun]) ⟨rfl, rfl⟩ K Q ?_ (fun _ _ h => h.elim)
 rintro v w' ⟨rfl, rfl⟩
 refine hK _ _ (next w.heap.size _ _ ⟨by rw [put_defers]; exact s.ds, by rw [tmps_put_size]; exact s.size, I, hw.alloc _, he.trans (ext_alloc hw _), hh.new hw e _ us h2, ?_⟩)
 rw [hd]
 exact (hv.keep (keeps_alloc hw _)).put (dst := some d) (by rw [s.size]; exact hn) (.val _)
end
section
variable {P : Program} {H : List Ent} {ρ : Nat → Option AV} {o : Oper}
theorem POp.neI {t t' : TypeId} {x y : Operand} {n : Nat} (as bs : List Int) {gx gy : Bool} [he : HasEq P t n] (h : o.op = .binOp .neq t x y t') (hx : aev ρ x = some (gx, .agg (as.map AV.i))) (hy : aev ρ y = some (gy, .agg (bs.map AV.i))) (hgx : gx = true) (hgy : gy = true)
  (ha : Nat.beq as.length n = true) (hb : Nat.beq bs.length n = true) : POp P H ρ o (.b (as != bs)) := by
 have ha := Nat.eq_of_beq_eq_true ha
 have hb := Nat.eq_of_beq_eq_true hb
 have hh := he.h
 simp only [eqInts, Bool.and_eq_true, Bool.not_eq_true'] at hh
 obtain ⟨⟨h1, h2⟩, h3⟩ := hh
 obtain ⟨fs, hu⟩ : ∃ fs, P.underlying t = some (.struct fs) := by
  split at h1
  ·rename_i fs e; exact ⟨fs, e⟩
  ·cases h1
 rw [hu] at h1
 simp only [Bool.and_eq_true, beq_iff_eq] at h1
 have hfo : P.fieldsOf t = fs := by rw [Program.fieldsOf, hu]
 refine .same (by simp [h]) fun I w f ho => ?_
 have q1 := ho.get (by simp [h, Op.operands]) hx hgx
 have q2 := ho.get (by simp [h, Op.operands]) hy hgy
 generalize hv : f.eval x = u at q1
 generalize hz : f.eval y = z at q2
 cases q1 with
 | agg _ vs hl1 =>
  cases q2 with
  | agg _ us hl2 =>
   have e1 : vs = intsArr as := Array.toList_inj.1 (by rw [aggInts_rel hl1])
   have e2 : us = intsArr bs := Array.toList_inj.1 (by rw [aggInts_rel hl2])
   subst e1; subst e2
   refine ⟨.bool (as != bs), ?_, .val _⟩
   have hrun := eqFields_ints (P := P) (w := w) 9998 ha hb fs.toList 0 (by omega) h1.2
   rw [List.drop_zero, List.drop_zero] at hrun
   simp only [execOp, h, hv, hz, Sem.run_bind]
   rw [run_eqGuard_agg w .neq t x y _ _ h3]
   simp only [Result.andThen_ok]
   rw [run_neq_struct, run_equalIn_agg w 9999 t _ _ (by rw [hfo]; exact hu) h2, hfo, hrun]
   rfl
end
end Go.Eng
