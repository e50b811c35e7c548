/- The engine, part 16: pure calls that read private memory, rows that are written in place, maps of a run's own. No condition: general lemmas over any program. -/
import Derived.Test.YtiljpbljebfhnaaGreatKP3
import Derived.Maps.AppendAt
import Derived.OneCell
import Derived.Scope
import Derived.OpenShut
import Derived.ProofKit

set_option linter.unusedVariables false
set_option linter.unusedSimpArgs false
namespace Go.Eng
open Go.RowKit (Below)

/-! ### a pure call that reads private memory -/
/-- what is handed may be read as ys, by what lies in private memory -/
def Borrow (H : List Ent) (xs ys : List AV) : Prop :=
  ∀ (B : Nat) (I : Imm) (w : World) (Hc : List Ent) (vs : List Value), WOk B I w → HeapOk B I w Hc → (∀ e ∈ H, e ∈ Hc) → RelL I w xs vs →
    ∃ J : Imm, (∀ b o, J b o → ∃ c, w.cell? ⟨b, o, none⟩ = some c) ∧ RelL J w ys vs

theorem Ent.ok_same {B : Nat} {I : Imm} {w w' : World} {e : Ent} (h : e.ok B I w) (hI : ∀ b o, I b o → w'.cell? ⟨b, o, none⟩ = w.cell? ⟨b, o, none⟩) (hb : ∀ b, b < w.heap.size → w'.heap[b]? = w.heap[b]?) : e.ok B I w' :=
  Ent.keep h ⟨fun _ _ x => x, hI⟩ (fun b hf => hb b (Ent.foot_lt h hf).2) (fun _ _ _ x => x)

theorem cell_same {w w' : World} (hb : ∀ b, b < w.heap.size → w'.heap[b]? = w.heap[b]?) {b o : Nat} (hlt : b < w.heap.size) : w'.cell? ⟨b, o, none⟩ = w.cell? ⟨b, o, none⟩ :=
  World.cell?_of_block (a := ⟨b, o, none⟩) (hb b hlt)

section
variable {P : Program} {H : List Ent} {ρ : Nat → Option AV} {o : Oper}

theorem POp.callB {f : FuncId} {xs ys : List AV} {v : Value} (hc : CallOk P ρ o f xs) (hb : Borrow H xs ys) (h : PCall P f ys (.val v)) : POp P H ρ o (.val v) := by
  intro B I w r a Hc hw hh hs ho
  obtain ⟨vs, h1, h2⟩ := hc.run I w a ho
  obtain ⟨J, hJ, hys⟩ := hb B I w Hc vs hw hh hs h1
  obtain ⟨hok, hcall⟩ := h []
  refine Runs.of_enter hc.nodefer (h2 hok) ((hcall w.heap.size J w vs ⟨Nat.le_refl _, hJ⟩ .nil hys).mono fun e w' hr => ?_)
  obtain ⟨I', H', hw', he', hh', hr⟩ := hr
  rcases hr with ⟨u, x, rfl, hx, rfl, rfl⟩ | ⟨v, x, rfl, _, hE⟩
  · have hu := rel_val hx
    subst hu
    have hbk := he'.below.block
    have hc : ∀ b i, I b i → w'.cell? ⟨b, i, none⟩ = w.cell? ⟨b, i, none⟩ := fun b i hi => cell_same hbk (hw.lt hi)
    refine ⟨I, ⟨Nat.le_trans hw.base he'.below.size, fun b i hi => by rw [hc b i hi]; exact hw.there b i hi⟩, ⟨fun _ _ x => x, hc, he'.below.mono hw.base⟩, ⟨fun e he => Ent.ok_same (hh.ok e he) hc hbk, hh.apart⟩, .val _⟩
  · exact hE.elim

theorem RelL.append_inv {I : Imm} {w : World} : ∀ {xs ys : List AV} {vs : List Value}, RelL I w (xs ++ ys) vs → ∃ us zs, vs = us ++ zs ∧ RelL I w xs us ∧ RelL I w ys zs
  | [], _, vs, h => ⟨[], vs, rfl, .nil, h⟩
  | x :: xs, ys, _, .cons _ v _ vs hx ht => by
    obtain ⟨us, zs, rfl, h1, h2⟩ := RelL.append_inv ht
    exact ⟨v :: us, zs, rfl, .cons _ _ _ _ hx h1, h2⟩

theorem els_of_row {I : Imm} {w : World} {k b : Nat} {els : List (List AV)} (hk : ∀ e ∈ els, e.length = k) (h : Cells I w b 0 els.flatten) : Els I w k b 0 els := els_of_cells els 0 hk h

/-- a row's reading -/
theorem row_rel {B : Nat} {I : Imm} {w : World} {t k : Nat} {v : Value} {els : List (List AV)} (h : Ent.ok B I w (.row t k v els.length els.flatten)) (hk : ∀ e ∈ els, e.length = k) :
    ∃ J : Imm, (∀ b o, I b o → J b o) ∧ (∀ b o, J b o → I b o ∨ v.ownBlock = some b) ∧ (∀ b o, J b o → I b o ∨ ∃ c, w.cell? ⟨b, o, none⟩ = some c) ∧ Rel J w (.sl k els) v := by
  obtain ⟨xs, hrow, hr, hni⟩ := h
  rcases hrow.2 with ⟨rfl, hn⟩ | ⟨g, cap, cur, rfl, hBg, hg, hnc, hcm, hcs, htk⟩
  · have : els = [] := List.eq_nil_of_length_eq_zero hn
    subst this
    exact ⟨I, fun _ _ h => h, fun _ _ h => .inl h, fun _ _ h => .inl h, .sl0 _ _ _⟩
  · have hlen : xs.length = els.length * k := hrow.1
    have hsz : els.length * k ≤ cur.size := by rw [hcs]; exact Nat.mul_le_mul_right k hnc
    let J : Imm := fun b o => I b o ∨ (b = g ∧ o < els.length * k)
    have hJ : Keeps I w J w := ⟨fun _ _ x => .inl x, fun _ _ _ => rfl⟩
    refine ⟨J, fun _ _ x => .inl x, fun b o x => x.elim .inl (fun x => .inr (by rw [x.1]; rfl)), fun b o x => ?_, ?_⟩
    · rcases x with x | ⟨rfl, x⟩
      · exact .inl x
      · exact .inr ⟨cur[o]'(by omega), by rw [cell_of_blk hg]; exact Array.getElem?_eq_getElem (by omega)⟩
    · refine .sl _ _ _ _ _ _ rfl hnc hcm (els_of_row hk (cells_of hg _ xs 0 (hr.keep hJ) (fun j u hu => ?_) (fun j hj => .inr ⟨rfl, ?_⟩)))
      · rw [← htk, List.getElem?_take] at hu
        split at hu
        · simpa using hu
        · cases hu
      · rw [flatten_len hk] at hj; omega

theorem Borrow.row {t k : Nat} {v : Value} {els : List (List AV)} {pre post : List AV} (hm : Ent.row t k v els.length els.flatten ∈ H) (hk : ∀ e ∈ els, e.length = k) : Borrow H (pre ++ .val v :: post) (pre ++ .sl k els :: post) := by
  intro B I w Hc vs hw hh hs hr
  obtain ⟨J, h1, h2, h3, h4⟩ := row_rel (hh.ok _ (hs _ hm)) hk
  have kk : Keeps I w J w := ⟨h1, fun _ _ _ => rfl⟩
  refine ⟨J, fun b o hb => (h3 b o hb).elim (fun x => hw.there b o x) id, ?_⟩
  obtain ⟨us, zs, rfl, r1, r2⟩ := hr.append_inv
  cases r2 with
  | cons _ u _ zs hx ht =>
    have := rel_val hx
    subst this
    exact (r1.keep kk).append (.cons _ _ _ _ h4 (ht.keep kk))
theorem Borrow.refl (xs : List AV) : Borrow H xs xs := fun B I w Hc vs hw _ _ hr => ⟨I, hw.there, hr⟩
theorem Borrow.le {xs ys zs : List AV} (h : Borrow H xs ys) (hl : AVleL ys zs) : Borrow H xs zs := fun B I w Hc vs hw hh hs hr =>
  let ⟨J, h1, h2⟩ := h B I w Hc vs hw hh hs hr; ⟨J, h1, hl.rel h2⟩
end

/-! ### rows -/
theorem Ent.row_nil (B : Nat) (I : Imm) (w : World) (t k : Nat) : Ent.ok B I w (.row t k (.slice none 0 0) 0 []) :=
  ⟨[], World.ownsRow_nil _ _ _ _, .nil, fun g hg => by simp [Value.ownBlock] at hg⟩
theorem Ent.own_nil (B : Nat) (I : Imm) (w : World) (t k : Nat) : Ent.ok B I w (.own t k (.slice none 0 0)) :=
  ⟨0, [], World.ownsRow_nil _ _ _ _, fun g hg => by simp [Value.ownBlock] at hg⟩
theorem HeapOk.consNil {B : Nat} {I : Imm} {w : World} {H : List Ent} {e : Ent} (h : HeapOk B I w H) (he : e.ok B I w) (hf : e.foot = none) : HeapOk B I w (e :: H) :=
  ⟨fun f hm => (List.mem_cons.1 hm).elim (fun q => q ▸ he) (h.ok f), List.pairwise_cons.2 ⟨fun f _ b hb => (by rw [hf] at hb; cases hb), h.apart⟩⟩

section
variable {c : Ctx} {r : Option Nat} {P : Program} {ops : Array Oper} {l rest : List Oper} {o : Oper} {env : List (Nat × AV)} {H : List Ent} {Q : Exit → Act → World → Prop} {d : Nat}

theorem Sat.consNil {st : St} {a : Act} {w : World} {e : Ent} (s : Sat c st a w) (he : ∀ B I w, e.ok B I w) (hf : e.foot = none) : Sat c ⟨st.env, e :: st.H⟩ a w :=
  let ⟨I, hw, hx, hh, hv⟩ := s.mem; ⟨s.ds, s.size, I, hw, hx, hh.consNil (he _ _ _) hf, hv⟩
theorem CW.rowNil {p : Code} (t k : Nat) (h : CW c r P p ⟨env, .row t k (.slice none 0 0) 0 [] :: H⟩ Q) : CW c r P p ⟨env, H⟩ Q := fun a w s => h a w (s.consNil (fun B I w => Ent.row_nil B I w t k) rfl)
theorem CW.ownNil' {p : Code} (t k : Nat) (h : CW c r P p ⟨env, .own t k (.slice none 0 0) :: H⟩ Q) : CW c r P p ⟨env, H⟩ Q := fun a w s => h a w (s.consNil (fun B I w => Ent.own_nil B I w t k) rfl)
theorem Done.rowNil {e : Exit} (t k : Nat) (h : Done c ⟨env, .row t k (.slice none 0 0) 0 [] :: H⟩ e Q) : Done c ⟨env, H⟩ e Q := fun a w s => h a w (s.consNil (fun B I w => Ent.row_nil B I w t k) rfl)
theorem Done.ownNil' {e : Exit} (t k : Nat) (h : Done c ⟨env, .own t k (.slice none 0 0) :: H⟩ e Q) : Done c ⟨env, H⟩ e Q := fun a w s => h a w (s.consNil (fun B I w => Ent.own_nil B I w t k) rfl)

/-- append to a row that is written in place -/
theorem appendRow_runs {B : Nat} {I : Imm} {w : World} {a : Act} {ρ : Nat → Option AV} {s z : Operand} {t e k by_ n : Nat} {cs : List AV} {news : List (List AV)} {v : Value} {y : AV} {g1 g2 : Bool} {H' : Value → List Ent} [hA : HasApp P t (e, k, by_)]
    (h : o.op = .call { callee := .builtin .append, args := #[s, z], argTypes := #[t, t] }) (hs : aev ρ s = some (g1, .val v)) (hg1 : g1 = true) (hz : aev ρ z = some (g2, y)) (hg2 : g2 = true) (hy : AVle y (.sl k news)) (hne : news ≠ [])
    (h1 : news.all allOne = true) (hu : ∀ v', Upd H (.row e k v n cs) (.row e k v' (n + news.length) (cs ++ news.flatten)) (H' v')) (hb : (n + news.length) * by_ ≤ 140737488355328) (hb' : n + news.length ≤ 9223372036854775807)
    (hw : WOk B I w) (hh : HeapOk B I w H) (ho : OpsOk I w ρ a o) : Runs P r o a w (fun x w' => ∃ I', WOk B I' w' ∧ Ext B I w I' w' ∧ HeapOk B I' w' (H' x)) (fun _ _ => False) := by
  obtain ⟨i, zv, hut, hi, hzz, hsz, hby, hzs, hk0⟩ := appInfo_spec hA.h
  have hsv := rel_val (ho.get (by simp [h, Op.operands, Call.operands]) hs hg1)
  have hzr := hy _ _ _ (ho.get (by simp [h, Op.operands, Call.operands]) hz hg2)
  have hnl := hzr.elsLen
  obtain ⟨xs, hrow, hrx, hni⟩ := hh.ok _ (hu v).mem
  -- the source
  generalize hzv : a.eval z = zval at hzr
  cases hzr with
  | sl0 => exact absurd rfl hne
  | sl _ _ b off len cap hl hc hm hels =>
    obtain ⟨us, r1, r2, r3⟩ := hels.values
    have hlu : us.length = news.length * k := r2
    obtain ⟨v', w', e1, e2, e3, _, e5⟩ := run_append_own_at (P := P) w B t o.type e i zv k by_ hut hi hzz hsz hby hzs hk0 v n xs hrow ⟨b, off, none⟩ news.length cap us hlu r3 (relL_one r1 (all_one_flatten h1)) (by simp only [maxLen]; omega) hb hw.base
    have hbel : Below B w w' := (Below.refl B w).grown e3 hw.base (fun j hj => by
      rcases hrow.2 with ⟨rfl, _⟩ | ⟨g, cap, cur, rfl, hBg, _⟩
      · simp [Value.ownBlock] at hj
      · simp [Value.ownBlock] at hj; omega)
    -- what is immutable is not in the row
    have hcell : ∀ b i, I b i → w'.cell? ⟨b, i, none⟩ = w.cell? ⟨b, i, none⟩ := fun b i hI =>
      World.cell?_of_block (a := ⟨b, i, none⟩) (e3.block b (hw.lt hI) (fun e => hni b e.symm i hI))
    have hkk : Keeps I w I w' := ⟨fun _ _ x => x, hcell⟩
    subst hl
    have hr : (Builtin.append_ #[t, t] o.type #[a.eval s, a.eval z]).run P w = .ok v' w' := by rw [hsv, hzv]; exact e1
    have hf' : ∀ b, (Value.ownBlock v') = some b → (Value.ownBlock v) = some b ∨ w.heap.size ≤ b := fun b hb => by
      rcases e5 with e | e
      · exact .inl (by rw [← e]; exact hb)
      · rw [hb] at e; cases e; exact .inr (Nat.le_refl _)
    refine Runs.of_value (by simp [h]) (run_appendOp h a w hr) ⟨I, ⟨Nat.le_trans hw.base hbel.size, fun b o hI => by rw [hcell b o hI]; exact hw.there b o hI⟩, ⟨hkk.imm, hkk.cell, hbel⟩, ?_⟩
    refine hh.upd (hu v') hkk (fun b hlt hne => e3.block b hlt (fun e => hne e.symm)) (fun b o hx => .inl hx) ⟨_, e2, (hrx.append r1).keep hkk, fun g hg o hI => ?_⟩ hf'
    rcases hf' g hg with hx | hx
    · exact hni g hx o hI
    · have := hw.lt hI; omega

theorem OL.appendRow {s z : Operand} {t e k by_ n : Nat} {cs : List AV} {news : List (List AV)} {v : Value} {y : AV} {g1 g2 : Bool} {H' : Value → List Ent} [hA : HasApp P t (e, k, by_)] (hgd : o.guard = none) (hd : o.dst = some d) (hn : Nat.blt d c.n = true)
    (h : o.op = .call { callee := .builtin .append, args := #[s, z], argTypes := #[t, t] }) (hs : aev (envGet env) s = some (g1, .val v)) (hg1 : g1 = true) (hz : aev (envGet env) z = some (g2, y)) (hg2 : g2 = true) (hy : AVle y (.sl k news)) (hne : news ≠ [])
    (h1 : news.all allOne = true) (hu : ∀ v', Upd H (.row e k v n cs) (.row e k v' (n + news.length) (cs ++ news.flatten)) (H' v')) (hb : (n + news.length) * by_ ≤ 140737488355328) (hb' : n + news.length ≤ 9223372036854775807)
    (next : ∀ v', OL c r P ops rest ⟨(d, .val v') :: env, H' v'⟩ Q) : OL c r P ops (o :: rest) ⟨env, H⟩ Q := by
  intro a w sat
  refine wpListIn_plain hgd fun K hK => ?_
  obtain ⟨I, hw, he, hh, hv⟩ := sat.mem
  refine appendRow_runs h hs hg1 hz hg2 hy hne h1 hu hb hb' hw hh (hv.ops o) K Q ?_ (fun _ _ h => h.elim)
  rintro x w' ⟨I', q1, q2, q3⟩
  refine hK _ _ (next x _ _ ⟨by rw [put_defers]; exact sat.ds, by rw [tmps_put_size]; exact sat.size, I', q1, he.trans q2, q3, ?_⟩)
  rw [hd]
  exact (hv.keep q2.keeps).put (dst := some d) (by rw [sat.size]; exact hn) (.val _)

theorem Ent.row_one {B : Nat} {I : Imm} {w : World} {t k n : Nat} {v : Value} {cs : List AV} (h : Ent.ok B I w (.row t k v n cs)) : v.oneCell' = true := by
  obtain ⟨xs, hrow, _⟩ := h
  rcases hrow.2 with ⟨rfl, _⟩ | ⟨g, cap, cur, rfl, _⟩ <;> rfl
theorem OL.rowOne {t k n : Nat} {v : Value} {cs : List AV} (hm : Ent.row t k v n cs ∈ H) (h : v.oneCell' = true → OL c r P ops l ⟨env, H⟩ Q) : OL c r P ops l ⟨env, H⟩ Q := fun a w s =>
  let ⟨I, _, _, hh, _⟩ := s.mem; h (Ent.row_one (hh.ok _ hm)) a w s
theorem one_bOk {v : Value} (h : v.oneCell' = true) : bOk (.val v) = true := h
theorem one_all {v : Value} (h : v.oneCell' = true) : allOne (bcells (.val v)) = true := by simp [allOne, bcells, one_bOk h]

/-! ### maps of a run's own -/
theorem run_newMap {t : TypeId} (h : o.op = .makeMap t none) (a : Act) (w : World) : (execOp a.eval o).run P w = .ok (.value (.map (some w.heap.size))) (w.alloc (.map #[] 0)) := by
  simp [execOp, h, Instr.makeMap]

theorem OL.mkMap {t : TypeId} (hgd : o.guard = none) (hd : o.dst = some d) (hn : Nat.blt d c.n = true) (h : o.op = .makeMap t none)
    (next : ∀ b, OL c r P ops rest ⟨(d, .val (.map (some b))) :: env, .map b [] :: H⟩ Q) : OL c r P ops (o :: rest) ⟨env, H⟩ Q := by
  intro a w s
  refine wpListIn_plain hgd fun K hK => ?_
  obtain ⟨I, hw, he, hh, hv⟩ := s.mem
  refine Runs.of_value (R := fun v w' => v = .map (some w.heap.size) ∧ w' = w.alloc (.map #[] 0)) (E := fun _ _ => False) (by simp [h]) (run_newMap h a w) ⟨rfl, rfl⟩ K Q ?_ (fun _ _ h => h.elim)
  rintro v w' ⟨rfl, rfl⟩
  have hnew : Ent.ok c.B I (w.alloc (.map #[] 0)) (.map w.heap.size []) := ⟨hw.base, ⟨#[], 0, heap_alloc_new w _, rfl, .nil⟩, fun o ho => absurd (hw.lt ho) (Nat.lt_irrefl _)⟩
  have h' := hh.alloc hw (.map #[] 0)
  refine hK _ _ (next w.heap.size _ _ ⟨by rw [put_defers]; exact s.ds, by rw [tmps_put_size]; exact s.size, I, hw.alloc _, he.trans (ext_alloc hw _), ⟨fun e he => ?_, List.pairwise_cons.2 ⟨fun f hf b hb => ?_, h'.apart⟩⟩, ?_⟩)
  · rcases List.mem_cons.1 he with rfl | he
    · exact hnew
    · exact h'.ok e he
  · simp [Ent.foot] at hb; subst hb
    intro hfb
    exact absurd (Ent.foot_lt (hh.ok f hf) hfb).2 (Nat.lt_irrefl _)
  · have := (hv.keep (keeps_alloc hw (.map #[] 0))).put (dst := some d) (x := .val (.map (some w.heap.size))) (v := .map (some w.heap.size)) (by rw [s.size]; exact hn) (.val _)
    rw [hd]; exact this

theorem relL_get {I : Imm} {w : World} : ∀ {xs : List AV} {vs : List Value}, RelL I w xs vs → ∀ {i : Nat} {v : Value}, vs[i]? = some v → ∃ x, xs[i]? = some x ∧ Rel I w x v
  | _, _, .nil, i, v, h => by simp at h
  | _, _, .cons x v xs vs hx ht, 0, u, h => ⟨x, by simp, by simp at h; exact h ▸ hx⟩
  | _, _, .cons x v xs vs hx ht, i + 1, u, h => by
    obtain ⟨y, h1, h2⟩ := relL_get ht (i := i) (v := u) (by simpa using h)
    exact ⟨y, by simpa using h1, h2⟩

theorem OL.lookupM {t : TypeId} {x kx : Operand} {b : Nat} {ke : Nat × Nat} {es : List (Value × AV)} {vs : List Value} {y : AV} {g1 g2 : Bool} [hM : HasMap P t ke] (hgd : o.guard = none) (hd : o.dst = some d) (hn : Nat.blt d c.n = true) (h : o.op = .lookup t x kx true)
    (hx : aev (envGet env) x = some (g1, .val (.map (some b)))) (hg1 : g1 = true) (hk : aev (envGet env) kx = some (g2, y)) (hg2 : g2 = true) (hy : AVle y (.agg (vs.map .val))) (hm : Ent.map b es ∈ H) (hgood : goodKey P ke.1 (.agg vs.toArray)) (hes : ∀ p ∈ es, goodKey P ke.1 p.1)
    (found : ∀ u, (Value.agg vs.toArray, u) ∈ es → OL c r P ops rest ⟨(d, .tup [u, .b true]) :: env, H⟩ Q)
    (absent : (∀ p ∈ es, p.1 ≠ .agg vs.toArray) → OL c r P ops rest ⟨(d, .tup [.val (.pointer none), .b false]) :: env, H⟩ Q) : OL c r P ops (o :: rest) ⟨env, H⟩ Q := by
  intro a w s
  refine wpListIn_plain hgd fun K hK => ?_
  obtain ⟨I, hw, he, hh, hv⟩ := s.mem
  have hxv := rel_val ((hv.ops o).get (by simp [h, Op.operands]) hx hg1)
  have hkv : a.eval kx = .agg vs.toArray := by
    have h0 := hy _ _ _ ((hv.ops o).get (by simp [h, Op.operands]) hk hg2)
    generalize a.eval kx = u at h0
    cases h0 with
    | agg _ us hr => have := rel_vals hr; rw [← this]
  obtain ⟨hB, ⟨en, cl, hb, hkeys, hvals⟩, hni⟩ := hh.ok _ hm
  obtain ⟨lx, hlx⟩ := hgood
  have hall : ∀ e ∈ en.toList, ∃ l, keyOf P ke.1 e.key = some l := fun e he => by
    have : e.key ∈ es.map (·.1) := by rw [← hkeys]; exact List.mem_map_of_mem he
    obtain ⟨p, hp, hpe⟩ := List.mem_map.1 this
    rw [← hpe]; exact hes p hp
  have hchk := hM.key.check w en.isEmpty hlx
  have hget : (getObj b).run P w = .ok (.map en cl) w := by simp [getObj, Sem.run, hb]
  rcases hM.key.find w hlx en.toList hall with ⟨hf, hne⟩ | ⟨j, e, hf, hj, hke⟩
  · have hz : (zeroValue ke.2).run P w = .ok (.pointer none) w := by
      have := hM.zero
      cases hi : P.info? ke.2 with
      | none => simp [hi] at this
      | some inf => simp [hi] at this; simp [zeroValue, typeInfo, hi, this]
    have hrun : (execOp a.eval o).run P w = .ok (.value (.tuple #[.pointer none, .bool false])) w := by
      simp [execOp, h, Instr.lookup, run_underlying hM.h, hxv, hkv, hget, hchk, hf, hz]
    refine Runs.of_value (R := fun v w' => v = .tuple #[.pointer none, .bool false] ∧ w' = w) (E := fun _ _ => False) (by simp [h]) hrun ⟨rfl, rfl⟩ K Q ?_ (fun _ _ h => h.elim)
    rintro v w' ⟨rfl, rfl⟩
    refine hK _ _ (absent (fun p hp hpe => ?_) _ _ ⟨by rw [put_defers]; exact s.ds, by rw [tmps_put_size]; exact s.size, I, hw, he, hh, ?_⟩)
    · have : p.1 ∈ en.toList.map (·.key) := by rw [hkeys]; exact List.mem_map_of_mem hp
      obtain ⟨e, he, hee⟩ := List.mem_map.1 this
      exact hne e he (by rw [hee, hpe])
    · have := hv.put (dst := some d) (x := .tup [.val (.pointer none), .b false]) (v := .tuple #[.pointer none, .bool false]) (by rw [s.size]; exact hn) (.tup _ _ (.cons _ _ _ _ (.val _) (.cons _ _ _ _ (.val _) .nil)))
      rw [hd]; exact this
  · have hrun : (execOp a.eval o).run P w = .ok (.value (.tuple #[e.val, .bool true])) w := by
      simp [execOp, h, Instr.lookup, run_underlying hM.h, hxv, hkv, hget, hchk, hf]
    refine Runs.of_value (R := fun v w' => v = .tuple #[e.val, .bool true] ∧ w' = w) (E := fun _ _ => False) (by simp [h]) hrun ⟨rfl, rfl⟩ K Q ?_ (fun _ _ h => h.elim)
    rintro v w' ⟨rfl, rfl⟩
    obtain ⟨u, hu1, hu2⟩ := relL_get hvals (i := j) (v := e.val) (by rw [List.getElem?_map, hj]; rfl)
    have hmem : (Value.agg vs.toArray, u) ∈ es := by
      rw [List.getElem?_map] at hu1
      cases hp : es[j]? with
      | none => rw [hp] at hu1; cases hu1
      | some p =>
        rw [hp] at hu1
        have h2 : (es.map (·.1))[j]? = some e.key := by rw [← hkeys, List.getElem?_map, hj]; rfl
        rw [List.getElem?_map, hp] at h2
        simp at hu1 h2
        have : p = (Value.agg vs.toArray, u) := Prod.ext (h2.trans hke) hu1
        rw [← this]; exact List.mem_of_getElem? hp
    refine hK _ _ (found u hmem _ _ ⟨by rw [put_defers]; exact s.ds, by rw [tmps_put_size]; exact s.size, I, hw, he, hh, ?_⟩)
    have := hv.put (dst := some d) (x := .tup [u, .b true]) (v := .tuple #[e.val, .bool true]) (by rw [s.size]; exact hn) (.tup _ _ (.cons _ _ _ _ hu2 (.cons _ _ _ _ (.val _) .nil)))
    rw [hd]; exact this

theorem OL.mapUpdateM {t : TypeId} {x kx z : Operand} {b : Nat} {ke : Nat × Nat} {es : List (Value × AV)} {vs : List Value} {y u : AV} {g1 g2 g3 : Bool} {H' : List Ent} [hM : HasMap P t ke] (hgd : o.guard = none) (hd : o.dst = none) (h : o.op = .mapUpdate t x kx z)
    (hx : aev (envGet env) x = some (g1, .val (.map (some b)))) (hg1 : g1 = true) (hk : aev (envGet env) kx = some (g2, y)) (hg2 : g2 = true) (hy : AVle y (.agg (vs.map .val))) (hz : aev (envGet env) z = some (g3, u)) (hg3 : g3 = true)
    (hu : Upd H (.map b es) (.map b (es ++ [(.agg vs.toArray, u)])) H') (hgood : goodKey P ke.1 (.agg vs.toArray)) (hes : ∀ p ∈ es, goodKey P ke.1 p.1) (hnew : ∀ p ∈ es, p.1 ≠ .agg vs.toArray) (next : OL c r P ops rest ⟨env, H'⟩ Q) : OL c r P ops (o :: rest) ⟨env, H⟩ Q := by
  intro a w s
  refine wpListIn_plain hgd fun K hK => ?_
  obtain ⟨I, hw, he, hh, hv⟩ := s.mem
  have hxv := rel_val ((hv.ops o).get (by simp [h, Op.operands]) hx hg1)
  have hkv : a.eval kx = .agg vs.toArray := by
    have h0 := hy _ _ _ ((hv.ops o).get (by simp [h, Op.operands]) hk hg2)
    generalize a.eval kx = u at h0
    cases h0 with
    | agg _ us hr => have := rel_vals hr; rw [← this]
  have hzv := (hv.ops o).get (by simp [h, Op.operands]) hz hg3
  obtain ⟨hB, ⟨en, cl, hb, hkeys, hvals⟩, hni⟩ := hh.ok _ hu.mem
  obtain ⟨lx, hlx⟩ := hgood
  have hall : ∀ e ∈ en.toList, ∃ l, keyOf P ke.1 e.key = some l := fun e he => by
    have : e.key ∈ es.map (·.1) := by rw [← hkeys]; exact List.mem_map_of_mem he
    obtain ⟨p, hp, hpe⟩ := List.mem_map.1 this
    rw [← hpe]; exact hes p hp
  have hchk := hM.key.check w false hlx
  have hget : (getObj b).run P w = .ok (.map en cl) w := by simp [getObj, Sem.run, hb]
  have hset : ∀ o' : Obj, (setObj b o').run P w = .ok () (w.putObj b o') := fun o' => by simp [setObj, Sem.run, hb, World.putObj]
  have hlt : b < w.heap.size := (Array.getElem?_eq_some_iff.1 hb).1
  rcases hM.key.find w hlx en.toList hall with ⟨hf, hne⟩ | ⟨j, e, hf, hj, hke⟩
  · generalize hen : en.push { key := .agg vs.toArray, val := a.eval z, born := cl } = en'
    have hrun : (execOp a.eval o).run P w = .ok .skip (w.putObj b (.map en' (cl + 1))) := by
      rw [← hen]
      simp [execOp, h, Instr.mapUpdate, run_underlying hM.h, hxv, hkv, hget, hchk, hf, hset]
    have hk : Keeps I w I (w.putObj b (.map en' (cl + 1))) := putObj_keeps (B := c.B) hni
    refine Runs.of_skip (R := fun v w' => v = undef ∧ w' = w.putObj b (.map en' (cl + 1))) (E := fun _ _ => False) (by simp [h]) hrun ⟨rfl, rfl⟩ K Q ?_ (fun _ _ h => h.elim)
    rintro v w' ⟨rfl, rfl⟩
    have hh' : HeapOk c.B I (w.putObj b (.map en' (cl + 1))) H' := by
      refine hh.upd hu hk (fun b' _ hne => World.putObj_heap_other (fun e => hne (by rw [e]; rfl))) (fun _ _ x => .inl x) ⟨hB, ⟨en', cl + 1, World.putObj_heap_same hlt, ?_, ?_⟩, hni⟩ (fun _ hb => .inl hb)
      · subst hen; simp [hkeys]
      · subst hen
        simp only [Array.toList_push, List.map_append, List.map_cons, List.map_nil]
        exact ((hvals.keep hk).append (.cons _ _ _ _ (hzv.keep hk) .nil))
    refine hK _ _ ?_
    rw [hd]
    exact next _ _ ⟨s.ds, s.size, I, hw.putObj hni, he.trans (Ext.putObj hB hni), hh', hv.keep hk⟩
  · exfalso
    have hj' : e.key ∈ en.toList.map (·.key) := List.mem_map_of_mem (List.mem_of_getElem? hj)
    rw [hkeys] at hj'
    obtain ⟨p, hp, hpe⟩ := List.mem_map.1 hj'
    exact hnew p hp (hpe.trans hke)

/-- a map that was made becomes one whose entries are made when asked for -/
theorem HeapOk.lazy {B : Nat} {I : Imm} {w : World} {H : List Ent} {b : Nat} {good : Value → Prop} {κ : Value → List AV} {dd : List AV} {es : List (Value × AV)} (hh : HeapOk B I w (.map b es :: H)) (hes : ∀ p ∈ es, good p.1 ∧ p.2 = .ptr (κ p.1)) (hd : ∀ v, good v → (∀ p ∈ es, p.1 ≠ v) → κ v = dd) : HeapOk B I w (.lmap b good κ dd :: H) := by
  obtain ⟨hB, ⟨en, cl, hb, hkeys, hvals⟩, hni⟩ := hh.ok _ (.head _)
  refine ⟨fun f hf => ?_, List.pairwise_cons.2 ⟨(List.pairwise_cons.1 hh.apart).1, (List.pairwise_cons.1 hh.apart).2⟩⟩
  rcases List.mem_cons.1 hf with rfl | hf
  · refine ⟨hB, ⟨en, cl, hb, fun e he => ?_, fun v hg hn => hd v hg fun p hp hpv => ?_⟩, hni⟩
    · obtain ⟨j, hj⟩ := List.mem_iff_getElem?.1 he
      obtain ⟨u, hu1, hu2⟩ := relL_get hvals (i := j) (v := e.val) (by rw [List.getElem?_map, hj]; rfl)
      rw [List.getElem?_map] at hu1
      cases hp : es[j]? with
      | none => rw [hp] at hu1; cases hu1
      | some p =>
        rw [hp] at hu1
        have h2 : (es.map (·.1))[j]? = some e.key := by rw [← hkeys, List.getElem?_map, hj]; rfl
        rw [List.getElem?_map, hp] at h2
        simp at hu1 h2
        obtain ⟨q1, q2⟩ := hes p (List.mem_of_getElem? hp)
        rw [h2] at q1 q2
        rw [← hu1, q2] at hu2
        exact ⟨q1, hu2⟩
    · have : p.1 ∈ en.toList.map (·.key) := by rw [hkeys]; exact List.mem_map_of_mem hp
      obtain ⟨e, he, hee⟩ := List.mem_map.1 this
      exact hn e he (by rw [hee, hpv])
  · exact hh.ok f (.tail _ hf)

/-! ### what becomes immutable, told of memory alone -/
theorem HeapOk.freezeRow {B : Nat} {I : Imm} {w : World} {H : List Ent} {t k : Nat} {v : Value} {els : List (List AV)} (hw : WOk B I w) (hh : HeapOk B I w (.row t k v els.length els.flatten :: H)) (hk : ∀ e ∈ els, e.length = k) :
    ∃ J, WOk B J w ∧ Ext B I w J w ∧ HeapOk B J w H ∧ Rel J w (.sl k els) v := by
  obtain ⟨J, h1, h2, h3, h4⟩ := row_rel (hh.ok _ (.head _)) hk
  have kk : Keeps I w J w := ⟨h1, fun _ _ _ => rfl⟩
  refine ⟨J, ⟨hw.base, fun b o hb => (h3 b o hb).elim (hw.there b o) id⟩, ⟨h1, fun _ _ _ => rfl, Below.refl _ _⟩, hh.tail.keep kk (fun _ _ _ _ => rfl) (fun f hf b hb o ho => ?_), h4⟩
  rcases h2 b o ho with h | h
  · exact h
  · exact absurd hb ((List.pairwise_cons.1 hh.apart).1 f hf b h)
theorem HeapOk.freezeBlk {B : Nat} {I : Imm} {w : World} {H : List Ent} {b t : Nat} {cs ds : List AV} (hw : WOk B I w) (hh : HeapOk B I w (.blk b t cs :: H)) (hle : ∀ vs, RelL I w cs vs → RelL I w ds vs) :
    ∃ J, WOk B J w ∧ Ext B I w J w ∧ HeapOk B J w H ∧ Rel J w (.ptr ds) (.pointer (some ⟨b, 0, none⟩)) := by
  obtain ⟨hB, vs, hb, hr, hni⟩ := hh.ok _ (.head _)
  obtain ⟨a1, a2, a3, a4⟩ := Imm.freeze (n := vs.size) hw hh (.head _ _) (b := b) rfl hb (Nat.le_refl _)
  exact ⟨_, a1, a2, a3, .ptr _ _ _ (a4 ds vs.toList (hle _ hr) (by rw [← Array.length_toList, List.take_length]))⟩
end
end Go.Eng

/- The engine, part 17: statements whose order is open, with stores among operations that come in whatever order. No condition: general lemmas over any program. -/
set_option linter.unusedVariables false
set_option linter.unusedSimpArgs false
namespace Go.Eng
open Go.RowKit (Below)

def SOk (P : Program) (H0 H1 : List Ent) (ρ : Nat → Option AV) (o : Oper) : Prop :=
  ∀ (B : Nat) (I : Imm) (w : World) (r : Option Nat) (a : Act), WOk B I w → HeapOk B I w H0 → OpsOk I w ρ a o → Runs P r o a w (fun v w' => ∃ I', WOk B I' w' ∧ Ext B I w I' w' ∧ HeapOk B I' w' H1) (fun _ _ => False)

/-- what is known of memory at a stage -/
abbrev Mem := Nat → Act → Imm → World → Prop
def EOk (P : Program) (M0 M1 : Mem) (ops : List Oper) (env : List (Nat × AV)) (o : Oper) (y : AV) : Prop :=
  o.guard = none ∧ ∀ (B : Nat) (I : Imm) (w : World) (r : Option Nat) (a : Act), WOk B I w → M0 B a I w → OpsOk I w (envGet env) a o → (∀ d, o.dst = some d → d < a.tmps.size) →
    Runs P r o a w (fun v w' => ∃ I', WOk B I' w' ∧ Ext B I w I' w' ∧ M1 B (a.put o.dst v) I' w' ∧ Rel I' w' y v) (fun _ _ => False)

theorem SOk.congr {P : Program} {H H1 : List Ent} {ρ ρ' : Nat → Option AV} {o : Oper} (h : SOk P H H1 ρ o) (he : ∀ t, .tmp t ∈ o.op.operands.toList → ρ t = ρ' t) : SOk P H H1 ρ' o := by
  intro B I w r a hw hh ho
  refine h B I w r a hw hh (fun y hy z hz => ho y hy z ?_)
  cases y with
  | tmp t => rw [← hz]; exact (he t (by simpa using hy)).symm
  | const v => exact hz
  | global g => exact hz
  | func f => exact hz

theorem OpsOk.congr {I : Imm} {w : World} {ρ ρ' : Nat → Option AV} {a : Act} {o : Oper} (ho : OpsOk I w ρ' a o) (he : ∀ t, .tmp t ∈ o.op.operands.toList → ρ t = ρ' t) : OpsOk I w ρ a o := fun y hy z hz => ho y hy z (by
  cases y with
  | tmp t => rw [← hz]; exact (he t (by simpa using hy)).symm
  | const v => exact hz
  | global g => exact hz
  | func f => exact hz)
theorem EOk.congr {P : Program} {H0 H1 : Mem} {ops : List Oper} {env env' : List (Nat × AV)} {o : Oper} {y : AV} (h : EOk P H0 H1 ops env o y) (same : ∀ t ∈ looks ops o, envGet env t = envGet env' t) : EOk P H0 H1 ops env' o y :=
  ⟨h.1, fun B I w r a hw hm ho hz => h.2 B I w r a hw hm (ho.congr fun t ht => same t (mem_looks ht)) hz⟩

theorem EOk.run {c : Ctx} {r : Option Nat} {P : Program} {l : List Oper} {H H1 : Mem} {env : List (Nat × AV)} {o : Oper} {y : AV} {Q : Exit → Act → World → Prop} (h : EOk P H H1 l env o y) {i : Nat} (hi : l[i]? = some o)
    {a : Act} {w : World} {I : Imm} (hw : WOk c.B I w) (hh : H c.B a I w) (hv : ∀ t ∈ looks l o, ∀ z, envGet env t = some z → Rel I w z (a.tmps.getD t undef)) (hn : ∀ t ∈ looks l o, t < a.tmps.size) (hz : ∀ d, o.dst = some d → d < a.tmps.size)
    {K : Act → World → Prop} (hK : ∀ v w' I', WOk c.B I' w' → Ext c.B I w I' w' → H1 c.B (a.put o.dst v) I' w' → Rel I' w' y v → K (a.put o.dst v) w') : wpOpIn (FW r) 0 P l.toArray Q i K a w := by
  obtain ⟨hg, hs⟩ := h
  have hops : OpsOk I w (envGet env) a o := fun x hx z hz => by
    cases x with
    | tmp t => exact hv t (mem_looks (by simpa using hx)) z hz
    | const v => simp [aeval] at hz; subst hz; exact rel_const v
    | global g => simp [aeval] at hz; subst hz; exact .val _
    | func f => simp [aeval] at hz; subst hz; exact .fn _ _ _ _ _ .nil .nil
  have hio : l.toArray[i]? = some o := by simpa using hi
  unfold wpOpIn
  simp only [hio]
  have hwant : Region.wanted o (yielded l.toArray a.tmps) = true := by simp [Region.wanted, hg]
  rw [if_pos hwant]
  exact hs c.B I w r a hw hh hops hz K Q (fun v w' ⟨I', h1, h2, h3, h4⟩ => hK v w' I' h1 h2 h3 h4) (fun _ _ h => h.elim)

/-- how many of the stores are over at least, at most, when an operation comes -/
def loOf (l : List Oper) (ss : List Nat) (i : Nat) : Nat := ss.countP fun s => ((masks l []).getD i 0).testBit s
def hiOf (l : List Oper) (ss : List Nat) (i : Nat) : Nat := ss.countP fun s => !((masks l []).getD s 0).testBit i && !Nat.beq s i
def stp (ss : List Nat) (i : Nat) : Nat := ss.countP fun s => Nat.beq s i
def TOk (P : Program) (Hs : Nat → Mem) (l : List Oper) (ss : List Nat) (i : Nat) (env : List (Nat × AV)) (o : Oper) (x : AV) : Prop :=
  ∀ j, loOf l ss i ≤ j → j ≤ hiOf l ss i → EOk P (Hs j) (Hs (j + stp ss i)) l env o x
def TD (P : Program) (Hs : Nat → Mem) (l : List Oper) (ss : List Nat) (n : Nat) : Nat → List Oper → List (Nat × AV) → (List (Nat × AV) → Prop) → Prop
  | _, [], env, K => K env
  | i, o :: rest, env, K => ∃ x, TOk P Hs l ss i env o x ∧ dstOk n o.dst = true ∧ TD P Hs l ss n (i + 1) rest (putEnv o.dst x env) K

theorem TD_spec {P : Program} {Hs : Nat → Mem} {ops : List Oper} {ss : List Nat} {n : Nat} : ∀ (k : Nat) (l : List Oper) (env : List (Nat × AV)) (K : List (Nat × AV) → Prop), TD P Hs ops ss n k l env K →
    ∃ xs : List AV, xs.length = l.length ∧ K (puts env l xs) ∧ ∀ i o x, l[i]? = some o → xs[i]? = some x → TOk P Hs ops ss (k + i) (puts env (l.take i) (xs.take i)) o x ∧ dstOk n o.dst = true
  | k, [], env, K, h => ⟨[], rfl, h, by simp⟩
  | k, o :: l, env, K, ⟨x, h1, h2, h3⟩ => by
    obtain ⟨xs, hl, hK, hx⟩ := TD_spec (k + 1) l _ K h3
    refine ⟨x :: xs, by simp [hl], hK, fun i o' x' ho' hx' => ?_⟩
    cases i with
    | zero =>
      simp at ho' hx'
      subst ho'; subst hx'
      exact ⟨h1, h2⟩
    | succ i =>
      simp at ho' hx'
      have := hx i o' x' ho' hx'
      rw [show k + 1 + i = k + (i + 1) by omega] at this
      exact this

theorem TD.mono {P : Program} {Hs : Nat → Mem} {ops : List Oper} {ss : List Nat} {n : Nat} {K K' : List (Nat × AV) → Prop} (hk : ∀ env, K env → K' env) : ∀ {k : Nat} {l : List Oper} {env : List (Nat × AV)}, TD P Hs ops ss n k l env K → TD P Hs ops ss n k l env K'
  | _, [], _, h => hk _ h
  | _, _ :: _, _, ⟨x, h1, h2, h3⟩ => ⟨x, h1, h2, h3.mono hk⟩

def ssChk (ss : List Nat) (k m : Nat) : Bool := ss.all (fun s => Nat.ble k s && Nat.blt s m) && decide ss.Nodup
theorem ssChk_of {ss : List Nat} {k m : Nat} (h : ssChk ss k m = true) : (∀ s ∈ ss, k ≤ s ∧ s < m) ∧ ss.Nodup := by
  simp only [ssChk, Bool.and_eq_true, List.all_eq_true, decide_eq_true_eq] at h
  exact ⟨fun s hs => ⟨Nat.le_of_ble_eq_true (h.1 s hs).1, Nat.lt_of_succ_le (by simpa [Nat.blt] using (h.1 s hs).2)⟩, h.2⟩

theorem stage_set {listed : Array Bool} {i : Nat} (hset : ∀ j, (listed.setIfInBounds i true).getD j false = if i = j then true else listed.getD j false) (h1 : listed.getD i false = false) : ∀ {ss : List Nat}, ss.Nodup →
    (ss.countP fun s => (listed.setIfInBounds i true).getD s false) = (ss.countP fun s => listed.getD s false) + stp ss i
  | [], _ => rfl
  | s :: ss, hn => by
    obtain ⟨hn1, hn2⟩ := List.nodup_cons.1 hn
    have ih := stage_set hset h1 hn2
    unfold stp at ih ⊢
    rw [List.countP_cons, List.countP_cons, List.countP_cons, ih]
    rw [hset s]
    by_cases e : i = s
    · subst e
      simp [h1]
      have : List.countP (fun s => Nat.beq s i) ss = 0 := List.countP_eq_zero.2 fun s hs hb => hn1 (by have := Nat.eq_of_beq_eq_true hb; subst this; exact hs)
      omega
    · have hb : Nat.beq s i = false := by
        cases hx : Nat.beq s i with
        | false => rfl
        | true => exact absurd (Nat.eq_of_beq_eq_true hx).symm e
      rw [if_neg e, hb]
      simp
      omega

section
variable {c : Ctx} {r : Option Nat} {P : Program} {l : List Oper} {st : St} {Q : Exit → Act → World → Prop}
/-- operations that come in whatever order, upon which all that are left wait -/
theorem DP.anyS {k m : Nat} {Hs : Nat → Mem} {ss : List Nat} (hchk : segChk l k m = true) (hss : ssChk ss k m = true) (hkm : k ≤ m) (hml : m ≤ l.length) (hlk : (l.all fun o => (looks l o).all fun t => Nat.blt t c.n) = true) (hH : ∀ B a I w, HeapOk B I w st.H → Hs 0 B a I w)
    (h : TD P Hs l ss c.n k ((l.drop k).take (m - k)) st.env fun env => ∀ a w I, a.defers = c.ds → a.tmps.size = c.n → WOk c.B I w → Ext c.B c.I0 c.w0 I w → Hs ss.length c.B a I w → EnvOk I w (envGet env) a → KD c r P l Q m a w) : DP c r P l Q k st := by
  have ok := segOk_of hchk
  obtain ⟨hsr, hnd⟩ := ssChk_of hss
  obtain ⟨xs, hxl, htail, hspec⟩ := TD_spec _ _ _ _ h
  have hxm : xs.length = m - k := by rw [hxl, List.length_take, List.length_drop]; omega
  generalize hS : (l.drop k).take (m - k) = S at *
  have takeAt : ∀ (i : Nat) (o : Oper), S[i]? = some o ↔ i < m - k ∧ l[k + i]? = some o := by
    intro i o
    rw [← hS, List.getElem?_take]
    by_cases hi : i < m - k
    · rw [if_pos hi, List.getElem?_drop]; simp [hi]
    · rw [if_neg hi]; simp [hi]
  generalize hF : puts st.env S xs = envF at htail
  have hlook : ∀ (i : Nat) (o : Oper), l[i]? = some o → ∀ t ∈ looks l o, t < c.n := by
    intro i o ho t ht
    simp only [List.all_eq_true] at hlk
    have := hlk o (List.mem_of_getElem? ho) t ht
    exact Nat.lt_of_succ_le (by simpa [Nat.blt] using this)
  have fin : ∀ (i : Nat) (o : Oper) (x : AV), i < m - k → l[k + i]? = some o → xs[i]? = some x → TOk P Hs l ss (k + i) envF o x ∧ dstOk c.n o.dst = true := by
    intro i o x hi ho hx
    obtain ⟨h1, h2⟩ := hspec i o x ((takeAt i o).2 ⟨hi, ho⟩) hx
    refine ⟨?_, h2⟩
    have same : ∀ t ∈ looks l o, envGet (puts st.env (S.take i) (xs.take i)) t = envGet envF t := by
      intro t ht
      rw [← hF, puts_split i S xs st.env hxl]
      symm
      apply puts_other
      intro j o' ho' e
      rw [List.getElem?_drop] at ho'
      obtain ⟨hj, hoj⟩ := (takeAt _ _).1 ho'
      have := (ok.looked (k + i) o (k + (i + j)) o' t (by omega) (by omega) ho (by omega) (by omega) hoj e ht).1
      omega
    exact fun j hj1 hj2 => (h1 j hj1 hj2).congr same
  have finAt : ∀ (i : Nat) (o : Oper) (x : AV) (t : Nat), i < m - k → l[k + i]? = some o → xs[i]? = some x → o.dst = some t → envGet envF t = some x := by
    intro i o x t hi ho hx hd
    rw [← hF]
    refine puts_at S xs st.env i t o x ((takeAt i o).2 ⟨hi, ho⟩) hx hd (fun j o' ho' e => ?_)
    obtain ⟨hj, hoj⟩ := (takeAt _ _).1 ho'
    rcases Nat.decEq j i with hne | he
    · exact absurd hd (ok.apart (k + i) o (k + j) o' t (by omega) (by omega) ho (by omega) (by omega) hoj e (by omega))
    · exact he
  have finOther : ∀ t, (∀ (i : Nat) (o : Oper), i < m - k → l[k + i]? = some o → o.dst ≠ some t) → envGet envF t = envGet st.env t := by
    intro t ht
    rw [← hF]
    exact puts_other _ _ _ _ fun i o ho => let ⟨h1, h2⟩ := (takeAt i o).1 ho; ht i o h1 h2
  have main : ∀ (cnt fuel : Nat) (listed : Array Bool) (a : Act) (w : World) (I : Imm), listed.size = l.length → (cnt = (List.range m).countP fun i => !listed.getD i false) → cnt + (l.length - m) ≤ fuel → Closed l (fun i => listed.getD i false = true) →
      (∀ i, i < k → listed.getD i false = true) → (∀ i, listed.getD i false = true → i < m) → a.defers = c.ds → a.tmps.size = c.n → WOk c.B I w → Ext c.B c.I0 c.w0 I w → Hs (ss.countP fun s => listed.getD s false) c.B a I w →
      (∀ t x, envGet envF t = some x → (∀ (i : Nat) (o : Oper), i < m - k → l[k + i]? = some o → o.dst = some t → listed.getD (k + i) false = true) → Rel I w x (a.tmps.getD t undef)) →
      wpAnyIn (FW r) 0 P .any l.toArray Q fuel listed a w := by
    intro cnt
    induction cnt with
    | zero =>
      intro fuel listed a w I hsz hf hfu hcl hlk' hlm hd hts hw he hh hv
      have hall : ∀ i, i < m → listed.getD i false = true := by
        intro i hi
        have := List.countP_eq_zero.1 hf.symm i (by simpa using hi)
        simpa using this
      have hst : ss.countP (fun s => listed.getD s false) = ss.length := List.countP_eq_length.2 fun s hs => by simpa using hall s (hsr s hs).2
      rw [hst] at hh
      exact htail a w I hd hts hw he hh (fun t x hx => hv t x hx (fun i o hi _ _ => hall (k + i) (by omega))) fuel listed hsz (fun i => ⟨hlm i, hall i⟩) (by omega)
    | succ cnt ih =>
      intro fuel listed a w I hsz hf hfu hcl hlk' hlm hd hts hw he hh hv
      obtain ⟨fuel, rfl⟩ : ∃ f, fuel = f + 1 := ⟨fuel - 1, by omega⟩
      have hex : ∃ i, i < m ∧ listed.getD i false = false ∧ ∀ j, j < i → listed.getD j false = true := by
        have : ∃ i, i < m ∧ listed.getD i false = false := by
          refine Classical.byContradiction fun hn => ?_
          have : (List.range m).countP (fun i => !listed.getD i false) = 0 := by
            rw [List.countP_eq_zero]
            intro i hi
            simp only [List.mem_range] at hi
            cases hx : listed.getD i false with
            | true => simp
            | false => exact absurd ⟨i, hi, hx⟩ hn
          omega
        obtain ⟨i, hi⟩ := this
        induction i using Nat.strongRecOn with
        | _ i ihi =>
          by_cases hx : ∃ j, j < i ∧ listed.getD j false = false
          · obtain ⟨j, hj, hj2⟩ := hx
            exact ihi j hj ⟨by omega, hj2⟩
          · exact ⟨i, hi.1, hi.2, fun j hj => by
              cases hy : listed.getD j false with
              | true => rfl
              | false => exact absurd ⟨j, hj, hy⟩ hx⟩
      obtain ⟨i0, hi0m, hi0, hi0b⟩ := hex
      have hi0k : k ≤ i0 := by
        rcases Nat.lt_or_ge i0 k with h | h
        · rw [hlk' i0 h] at hi0; cases hi0
        · exact h
      refine ⟨fun h0 => ?_, fun i hi => ?_⟩
      · exfalso
        have hok : l[i0]? = some l[i0] := List.getElem?_eq_getElem (by omega)
        have : i0 ∈ Region.ready .any l.toArray listed := by
          rw [mem_ready]
          refine ⟨by rw [getD_true_iff (by omega)]; exact hi0, l[i0], by simp, fun e he hb => ?_⟩
          exact hi0b _ (ok.back i0 _ hok e.on (by simp only [deps, List.mem_filterMap]; exact ⟨e, by simpa using he, by simp [hb]⟩))
        rw [h0] at this; cases this
      · obtain ⟨h1, o, h2, h3⟩ := mem_ready.1 hi
        have ho : l[i]? = some o := by simpa using h2
        have hlt : i < l.length := (List.getElem?_eq_some_iff.1 ho).1
        rw [getD_true_iff (by omega)] at h1
        have hdeps : ∀ k ∈ deps o, listed.getD k false = true := by
          intro k hk
          simp only [deps, List.mem_filterMap] at hk
          obtain ⟨e, he, hb⟩ := hk
          split at hb
          · rename_i hbi; simp at hb; subst hb; exact h3 e (by simpa using he) hbi
          · cases hb
        have hms : (masks l [])[i]? = some ((masks l []).getD i 0) := by
          have : i < (masks l []).length := by rw [masks_len]; simpa using hlt
          simp [List.getD, this]
        have hanc := masks_spec l _ hcl l [] (by simp) (by simp) (by simp) i _ o hms ho hdeps
        have hik : k ≤ i := by
          rcases Nat.lt_or_ge i k with h | h
          · rw [hlk' i h] at h1; cases h1
          · exact h
        have him : i < m := by
          rcases Nat.lt_or_ge i m with h | h
          · exact h
          · have := hanc i0 (ok.tail i h hlt i0 hi0k hi0m)
            rw [hi0] at this; cases this
        obtain ⟨q, rfl⟩ : ∃ q, i = k + q := ⟨i - k, by omega⟩
        have hq : q < m - k := by omega
        have hxi : xs[q]? = some xs[q] := List.getElem?_eq_getElem (by omega)
        obtain ⟨hA, hdst⟩ := fin q o _ hq ho hxi
        have avail : ∀ t ∈ looks l o, ∀ (i' : Nat) (o' : Oper), i' < m - k → l[k + i']? = some o' → o'.dst = some t → listed.getD (k + i') false = true := fun t ht i' o' hi' ho' hd' => hanc _ (ok.looked (k + q) o (k + i') o' t hik him ho (by omega) (by omega) ho' hd' ht).2
        have hlo : loOf l ss (k + q) ≤ ss.countP fun s => listed.getD s false := by
          unfold loOf
          exact List.countP_mono_left fun s _ hs => hanc s hs
        have hhi : (ss.countP fun s => listed.getD s false) ≤ hiOf l ss (k + q) := by
          unfold hiOf
          refine List.countP_mono_left fun s hs hl => ?_
          simp only [Bool.and_eq_true, Bool.not_eq_true']
          refine ⟨?_, ?_⟩
          · cases hb : ((masks l []).getD s 0).testBit (k + q) with
            | false => rfl
            | true =>
              exfalso
              have hsl : s < l.length := by have := (hsr s hs).2; omega
              have hos : l[s]? = some l[s] := List.getElem?_eq_getElem hsl
              have hms2 : (masks l [])[s]? = some ((masks l []).getD s 0) := by
                have : s < (masks l []).length := by rw [masks_len]; simpa using hsl
                simp [List.getD, this]
              have := masks_spec l _ hcl l [] (by simp) (by simp) (by simp) s _ _ hms2 hos (fun j hj => hcl s _ hl hos j hj) (k + q) hb
              rw [h1] at this; cases this
          · cases hb : Nat.beq s (k + q) with
            | false => rfl
            | true =>
              exfalso
              rw [Nat.eq_of_beq_eq_true hb] at hl
              rw [h1] at hl; cases hl
        refine (hA _ hlo hhi).run (c := c) ho hw hh (fun t ht z hz => hv t z hz (avail t ht)) (fun t ht => by rw [hts]; exact hlook _ o ho t ht) (fun d' hd' => by rw [hts]; rw [hd'] at hdst; exact Nat.lt_of_succ_le (by simpa [dstOk, Nat.blt] using hdst)) ?_
        intro v w' I' hw' he' hh' hx
        have hset : ∀ j, (listed.setIfInBounds (k + q) true).getD j false = if k + q = j then true else listed.getD j false := fun j => getD_set _ _ _ (by omega)
        refine ih fuel (listed.setIfInBounds (k + q) true) _ w' I' (by simp [hsz]) ?_ (by omega) ?_ ?_ ?_ (by rw [put_defers]; exact hd) (by rw [tmps_put_size]; exact hts) hw' (he.trans he') (by rw [stage_set hset h1 hnd]; exact hh') ?_
        · have : (List.range m).countP (fun j => !listed.getD j false) = (List.range m).countP (fun j => !(listed.setIfInBounds (k + q) true).getD j false) + 1 := by
            have key : ∀ (n : Nat), (List.range n).countP (fun j => !listed.getD j false) = (List.range n).countP (fun j => !(listed.setIfInBounds (k + q) true).getD j false) + (if k + q < n then 1 else 0) := by
              intro n
              induction n with
              | zero => simp
              | succ n ihn =>
                rw [List.range_succ, List.countP_append, List.countP_append, ihn]
                simp only [List.countP_cons, List.countP_nil, Nat.zero_add, hset n]
                by_cases e : k + q = n
                · subst e
                  rw [if_neg (Nat.lt_irrefl _), if_pos (Nat.lt_succ_self _), if_pos rfl, h1]
                  simp
                · rw [if_neg e]
                  by_cases hlt' : k + q < n
                  · rw [if_pos hlt', if_pos (Nat.lt_succ_of_lt hlt')]; omega
                  · rw [if_neg hlt', if_neg (show ¬ k + q < n + 1 by omega)]; omega
            rw [key, if_pos him]
          omega
        · intro j oj hj hoj k' hk
          rw [hset]
          by_cases e : k + q = k'
          · rw [if_pos e]
          · rw [if_neg e]
            rw [hset] at hj
            by_cases e' : k + q = j
            · subst e'
              rw [ho] at hoj; cases hoj
              exact hdeps k' hk
            · rw [if_neg e'] at hj
              exact hcl j oj hj hoj k' hk
        · intro j hj
          rw [hset, if_neg (by omega)]
          exact hlk' j hj
        · intro j hj
          rw [hset] at hj
          by_cases e : k + q = j
          · omega
          · rw [if_neg e] at hj; exact hlm j hj
        · intro t x hxt hav
          by_cases hdt : o.dst = some t
          · rw [hdt]
            have : x = xs[q] := by
              have := finAt q o _ t hq ho hxi hdt
              rw [this] at hxt; exact (Option.some.inj hxt).symm
            subst this
            rw [tmps_put_same (by rw [hts]; rw [hdt] at hdst; exact Nat.lt_of_succ_le (by simpa [dstOk, Nat.blt] using hdst))]
            exact hx
          · have hold : Rel I w x (a.tmps.getD t undef) := hv t x hxt fun i' o' hi' ho' hd' => by
              have := hav i' o' hi' ho' hd'
              rw [hset] at this
              by_cases e : k + q = k + i'
              · have e2 : q = i' := by omega
                subst e2
                rw [ho] at ho'; cases ho'
                exact absurd hd' hdt
              · rw [if_neg e] at this; exact this
            have hget : (a.put o.dst v).tmps.getD t undef = a.tmps.getD t undef := by
              cases hod : o.dst with
              | none => rfl
              | some d => exact tmps_put_other (fun e => hdt (by rw [hod, e]))
            rw [hget]
            exact hold.keep he'.keeps
  intro a w s fuel listed hsz hli hfu
  obtain ⟨I, hw, he, hh, hv⟩ := s.mem
  have hst0 : (ss.countP fun s => listed.getD s false) = 0 := List.countP_eq_zero.2 fun s hs hl => by have := (hli s).1 hl; have := (hsr s hs).1; omega
  refine main _ fuel listed a w I hsz rfl ?_ (fun i o hi ho j hj => (hli j).2 (by have := ok.back i o ho j hj; have := (hli i).1 hi; omega)) (fun i hi => (hli i).2 hi) (fun i hi => by have := (hli i).1 hi; omega) s.ds s.size hw he (by rw [hst0]; exact hH _ _ _ _ hh) ?_
  · have : (List.range m).countP (fun i => !listed.getD i false) ≤ m - k := by
      have e : List.range m = List.range k ++ (List.range (m - k)).map (k + ·) := by
        rw [← List.range_add]; congr 1; omega
      rw [e, List.countP_append]
      have z : (List.range k).countP (fun i => !listed.getD i false) = 0 := by
        rw [List.countP_eq_zero]; intro i hi; simp only [List.mem_range] at hi; simp [(hli i).2 hi]
      rw [z]
      have := List.countP_le_length (p := fun i => !listed.getD i false) (l := (List.range (m - k)).map (k + ·))
      simpa using this
    omega
  · intro t x hx hav
    have : envGet st.env t = some x := by
      rw [← finOther t (fun i o hi ho hd => ?_)]
      · exact hx
      · have := hav i o hi ho hd
        have := (hli (k + i)).1 this
        omega
    exact hv t x this

/-! the forms that the printed proofs use -/

/-- memory at a stage, by what is private -/
abbrev HM (Hs : Nat → List Ent) : Nat → Mem := fun j B _ I w => HeapOk B I w (Hs j)
theorem DP.anySC {env : List (Nat × AV)} {H : List Ent} (Hs : Nat → List Ent) (ss : List Nat) (k m n : Nat) (hn : c.n = n) (hchk : segChk l k m = true) (hss : ssChk ss k m = true) (hkm : Nat.ble k m = true) (hml : Nat.ble m l.length = true) (hlk : (l.all fun o => (looks l o).all fun t => Nat.blt t n) = true) (hH : H = Hs 0)
    (h : TD P (HM Hs) l ss c.n k ((l.drop k).take (m - k)) env fun env => DP c r P l Q m ⟨env, Hs ss.length⟩) : DP c r P l Q k ⟨env, H⟩ :=
  DP.anyS (Hs := HM Hs) hchk hss (Nat.le_of_ble_eq_true hkm) (Nat.le_of_ble_eq_true hml) (by rw [hn]; exact hlk) (fun B a I w hh => by show HeapOk B I w (Hs 0); rw [← hH]; exact hh) (h.mono fun env hd a w I q1 q2 q3 q4 q5 q6 => hd a w ⟨q1, q2, I, q3, q4, q5, q6⟩)

/-- .. with one operation of which comes a value that is not known ahead -/
abbrev GM (H0 : List Ent) (Hg : Value → List Ent) (de : Nat) : Nat → Mem := fun j B a I w => match j with
  | 0 => HeapOk B I w H0
  | _ => HeapOk B I w (Hg (a.tmps.getD de undef))
theorem DP.anyGC {env : List (Nat × AV)} {H : List Ent} (Hg : Value → List Ent) (de e : Nat) (k m n : Nat) (hn : c.n = n) (hchk : segChk l k m = true) (hss : ssChk [e] k m = true) (hkm : Nat.ble k m = true) (hml : Nat.ble m l.length = true) (hlk : (l.all fun o => (looks l o).all fun t => Nat.blt t n) = true)
    (h : TD P (GM H Hg de) l [e] c.n k ((l.drop k).take (m - k)) env fun env => ∀ γ, DP c r P l Q m ⟨(de, .val γ) :: env, Hg γ⟩) : DP c r P l Q k ⟨env, H⟩ :=
  DP.anyS (Hs := GM H Hg de) hchk hss (Nat.le_of_ble_eq_true hkm) (Nat.le_of_ble_eq_true hml) (by rw [hn]; exact hlk) (fun B a I w hh => hh) (h.mono fun env hd a w I q1 q2 q3 q4 q5 q6 => hd (a.tmps.getD de undef) a w ⟨q1, q2, I, q3, q4, q5, Sat.put1 q6 (.val _)⟩)
end

section
variable {P : Program} {L rest : List Oper} {ss : List Nat} {n i d : Nat} {o : Oper} {env : List (Nat × AV)} {K : List (Nat × AV) → Prop} {x : AV} {M : Nat → Mem} {Hs : Nat → List Ent}
theorem TD.nil (h : K env) : TD P M L ss n i [] env K := h
theorem TD.popC (lo hi : Nat) (hl : loOf L ss i = lo) (hh : hiOf L ss i = hi) (hs : stp ss i = 0) (hg : o.guard = none) (hd : o.dst = some d) (hn : Nat.blt d n = true) (h : ∀ j, lo ≤ j → j ≤ hi → POp P (Hs j) (envGet env) o x) (next : TD P (HM Hs) L ss n (i + 1) rest ((d, x) :: env) K) : TD P (HM Hs) L ss n i (o :: rest) env K :=
  ⟨x, fun j h1 h2 => by
    rw [hs]
    exact ⟨hg, fun B I w r a hw hm ho hz => h j (by omega) (by omega) B I w r a _ hw hm (fun _ h => h) ho⟩, dstOk_of hd hn, by rw [hd]; exact next⟩
theorem TD.stoC (q : Nat) (hl : loOf L ss i = q) (hh : hiOf L ss i = q) (hs : stp ss i = 1) (hg : o.guard = none) (hd : o.dst = none) (h : SOk P (Hs q) (Hs (q + 1)) (envGet env) o) (next : TD P (HM Hs) L ss n (i + 1) rest env K) : TD P (HM Hs) L ss n i (o :: rest) env K :=
  ⟨.any, fun j h1 h2 => by
    obtain rfl : j = q := by omega
    rw [hs]
    exact ⟨hg, fun B I w r a hw hm ho hz => (h B I w r a hw hm ho).mono (fun v w' ⟨I', a1, a2, a3⟩ => ⟨I', a1, a2, a3, .any _⟩) (fun _ _ h => h)⟩, by rw [hd]; rfl, by rw [hd]; exact next⟩

variable {H : List Ent} {Hg : Value → List Ent} {de : Nat}
theorem TD.popG0 (hh : hiOf L ss i = 0) (hs : stp ss i = 0) (hg : o.guard = none) (hd : o.dst = some d) (hn : Nat.blt d n = true) (h : POp P H (envGet env) o x) (next : TD P (GM H Hg de) L ss n (i + 1) rest ((d, x) :: env) K) : TD P (GM H Hg de) L ss n i (o :: rest) env K :=
  ⟨x, fun j h1 h2 => by
    obtain rfl : j = 0 := by omega
    rw [hs]
    exact ⟨hg, fun B I w r a hw hm ho hz => h B I w r a _ hw hm (fun _ h => h) ho⟩, dstOk_of hd hn, by rw [hd]; exact next⟩
theorem TD.popG (hs : stp ss i = 0) (hg : o.guard = none) (hd : o.dst = some d) (hn : Nat.blt d n = true) (hde : Nat.beq d de = false) (h : ∀ H, POp P H (envGet env) o x) (next : TD P (GM H Hg de) L ss n (i + 1) rest ((d, x) :: env) K) : TD P (GM H Hg de) L ss n i (o :: rest) env K :=
  ⟨x, fun j h1 h2 => by
    rw [hs]
    refine ⟨hg, fun B I w r a hw hm ho hz => ?_⟩
    cases j with
    | zero => exact h H B I w r a _ hw hm (fun _ h => h) ho
    | succ j =>
      refine (h (Hg (a.tmps.getD de undef)) B I w r a _ hw hm (fun _ h => h) ho).mono (fun v w' ⟨I', a1, a2, a3, a4⟩ => ⟨I', a1, a2, ?_, a4⟩) (fun _ _ h => h)
      have e : (a.put o.dst v).tmps.getD de undef = a.tmps.getD de undef := by
        rw [hd]; exact tmps_put_other (fun e => by subst e; simp at hde)
      show HeapOk B I' w' (Hg ((a.put o.dst v).tmps.getD de undef))
      rw [e]; exact a3, dstOk_of hd hn, by rw [hd]; exact next⟩
theorem TD.effG (hh : hiOf L ss i = 0) (hs : stp ss i = 1) (hg : o.guard = none) (hd : o.dst = some de) (hn : Nat.blt de n = true)
    (h : ∀ (B : Nat) (I : Imm) (w : World) (r : Option Nat) (a : Act), WOk B I w → HeapOk B I w H → OpsOk I w (envGet env) a o → Runs P r o a w (fun x w' => ∃ I', WOk B I' w' ∧ Ext B I w I' w' ∧ HeapOk B I' w' (Hg x)) (fun _ _ => False))
    (next : TD P (GM H Hg de) L ss n (i + 1) rest ((de, .any) :: env) K) : TD P (GM H Hg de) L ss n i (o :: rest) env K :=
  ⟨.any, fun j h1 h2 => by
    obtain rfl : j = 0 := by omega
    rw [hs]
    refine ⟨hg, fun B I w r a hw hm ho hz => (h B I w r a hw hm ho).mono (fun v w' ⟨I', a1, a2, a3⟩ => ⟨I', a1, a2, ?_, .any _⟩) (fun _ _ h => h)⟩
    show HeapOk B I' w' (Hg ((a.put o.dst v).tmps.getD de undef))
    rw [hd, tmps_put_same (hz de hd)]; exact a3, dstOk_of hd hn, by rw [hd]; exact next⟩

theorem SOk.store {H H' : List Ent} {ρ : Nat → Option AV} {t tb : TypeId} {p z : Operand} {y : AV} {gp g : Bool} {b off m : Nat} {cs ds : List AV} {agg : Bool} [ht : HasTy P t (agg, m)] (h : o.op = .store t p z)
    (hp : aev ρ p = some (gp, .p b off)) (hgp : gp = true) (hz : aev ρ z = some (g, y)) (hg : g = true) (hb : bOk y = true) (h1 : allOne (bcells y) = true)
    (hm : Nat.beq (bcells y).length m = true) (hu : Upd H (.blk b tb cs) (.blk b tb ds) H') (hfit : Nat.ble (off + (bcells y).length) cs.length = true) (hds : cs.take off ++ bcells y ++ cs.drop (off + (bcells y).length) = ds) : SOk P H H' ρ o := by
  intro B I w r a hw hh ho
  subst hds
  have ht' : tyInfo P t = some (agg, (bcells y).length) := by rw [Nat.eq_of_beq_eq_true hm]; exact ht.h
  have hpv := rel_val (ho.get (by simp [h, Op.operands]) hp hgp)
  have hzv := bcells_rel (ho.get (by simp [h, Op.operands]) hz hg) hb
  obtain ⟨hB, vs, hblk, hrel, hni⟩ := hh.ok _ hu.mem
  have hone := relL_one hzv h1
  have hlen : (a.eval z).cells.toList.length = (bcells y).length := hzv.length
  have hcl : vs.size = cs.length := by have := hrel.length; simpa using this
  have hfit' : off + 0 + (a.eval z).cells.toList.length ≤ vs.size := by
    have := Nat.le_of_ble_eq_true hfit
    rw [hlen, hcl]; omega
  have hrun := run_storeCells_at P b off tb (a.eval z).cells.toList 0 vs w hblk hfit' hone
  obtain ⟨_, hsz⟩ := tyInfo_run ht' w
  generalize hcur : (vs.toList.take (off + 0) ++ (a.eval z).cells.toList ++ vs.toList.drop (off + 0 + (a.eval z).cells.toList.length)).toArray = cur at hrun
  have hsize : (a.eval z).cells.size = (bcells y).length := by simpa using hlen
  have hexec : (execOp a.eval o).run P w = .ok .skip (w.setRow b cur) := by
    simp [execOp, h, Instr.storeAt, hpv, Instr.sureAddr, storeVar, hsz, hsize, hrun]
  have hkeep : Keeps I w I (w.setRow b cur) := ⟨fun _ _ x => x, fun b' o' hI => by
    have hne : b' ≠ b := fun e => by subst e; exact hni o' hI
    exact World.cell?_of_block (a := ⟨b', o', none⟩) (setRow_other w b b' cur hne)⟩
  have hext : Ext B I w I (w.setRow b cur) := ⟨hkeep.imm, hkeep.cell, ⟨rfl, rfl, rfl, by simp, fun k hk => setRow_other w b k cur (by omega)⟩⟩
  have hw' : WOk B I (w.setRow b cur) := ⟨by simpa using hw.base, fun b' o' hI => by rw [hkeep.cell b' o' hI]; exact hw.there b' o' hI⟩
  have hrel' : RelL I w (cs.take off ++ bcells y ++ cs.drop (off + (bcells y).length)) cur.toList := by
    rw [← hcur]
    simp only [Nat.add_zero, hlen]
    exact ((hrel.take off).append hzv).append (hrel.drop _)
  have hh' : HeapOk B I (w.setRow b cur) H' := by
    refine hh.upd hu hkeep (fun k hk hne => setRow_other w b k cur (fun e => hne (by subst e; rfl))) (fun _ _ x => .inl x) ?_ (fun k hk => .inl hk)
    exact ⟨hB, cur, setRow_heap w b vs cur tb (0, 0) hblk, hrel'.keep hkeep, hni⟩
  exact Runs.of_skip (by simp [h]) hexec ⟨I, hw', hext, hh'⟩
end
end Go.Eng

/- The engine, part 18: panics, deferred calls. No condition: general lemmas over any program. -/
set_option linter.unusedVariables false
set_option linter.unusedSimpArgs false
namespace Go.Eng
open Go.RowKit (Below)

/-- a call that panics with a value, and leaves private memory alone -/
def PanR (B : Nat) (I0 : Imm) (w0 : World) (pv : Value) (H : List Ent) : Ending → World → Prop := fun e w' => e = .panicked [{ v := pv, recovered := false }] ∧ ∃ I', WOk B I' w' ∧ Ext B I0 w0 I' w' ∧ HeapOk B I' w' H
def XCall (B : Nat) (P : Program) (f : FuncId) (xs : List AV) (H : List Ent) (pv : Value) : Prop :=
  fnOk P f = true ∧ ∀ (I : Imm) (w : World) (vs : List Value), WOk B I w → HeapOk B I w H → RelL I w xs vs → Calls P f vs.toArray w (PanR B I w pv H)

section
variable {P : Program}

theorem enter_sat {B : Nat} {I : Imm} {w : World} {n : Nat} {fn : Func} {xs : List AV} {vs : List Value} {H : List Ent} (hn : fn.ntmps = n) (hl : Nat.ble xs.length n = true) (hw : WOk B I w) (hh : HeapOk B I w H) (hv : RelL I w xs vs) :
    Sat ⟨B, I, w, n, []⟩ ⟨envOf 0 xs, H⟩ { tmps := vs.toArray ++ Array.replicate (fn.ntmps - vs.toArray.size) undef, defers := [] } w := by
  refine ⟨rfl, ?_, I, hw, Ext.refl _ _ _, hh, fun t y hy => ?_⟩
  · have := hv.length
    have := Nat.le_of_ble_eq_true hl
    simp; omega
  · obtain ⟨v, h1, h2⟩ := hv.get (by have := (envOf_get xs 0 t y hy).2; simpa using this)
    have : (vs.toArray ++ Array.replicate (fn.ntmps - vs.toArray.size) undef).getD t undef = v := by
      have hlt := (List.getElem?_eq_some_iff.1 h1).1
      simp only [Array.getD_eq_getD_getElem?]
      rw [Array.getElem?_append_left (by simpa using hlt)]
      simp [h1]
    rw [this]; exact h2

theorem XCall.of {B : Nat} {f : FuncId} {fn : Func} {code : Code} {xs : List AV} {H : List Ent} {pv : Value} {n : Nat} (hf : P.funcs[f]? = some fn) (hb : fn.body = some code) (hnm : (fn.name == "runtime.NumGoroutine") = false)
    (hn : fn.ntmps = n) (hl : Nat.ble xs.length n = true) (h : ∀ I w, CW ⟨B, I, w, n, []⟩ none P code ⟨envOf 0 xs, H⟩ (bodyPost P fn (PanR B I w pv H))) : XCall B P f xs H pv :=
  ⟨by simp [fnOk, hf, hb, hnm], fun I w vs hw hh hv => calls_of_FW (n := 0) (callsIn_of_wp hf hb trivial (h I w _ w (enter_sat hn hl hw hh hv)) rfl)⟩

/-- a function that defers -/
theorem ACall.mkD {f : FuncId} {fn : Func} {code : Code} {xs : List AV} {H : List Ent} {Φ : AV → List Ent → Prop} {E : AV → Prop} {n : Nat} (hf : P.funcs[f]? = some fn) (hb : fn.body = some code) (hnm : (fn.name == "runtime.NumGoroutine") = false)
    (hn : fn.ntmps = n) (hl : Nat.ble xs.length n = true) (h : ∀ B I w, CW ⟨B, I, w, n, []⟩ none P code ⟨envOf 0 xs, H⟩ (bodyPostDIn (FW none) 0 P fn (RetP B I w Φ E))) : ACall P f xs H Φ E :=
  ⟨by simp [fnOk, hf, hb, hnm], fun B I w vs hw hh hv => calls_of_FW (n := 0) (callsIn_of_wp_defers hf hb trivial (h B I w _ w (enter_sat hn hl hw hh hv)) rfl)⟩

variable {c : Ctx} {r : Option Nat} {ops : Array Oper} {l rest : List Oper} {o : Oper} {env : List (Nat × AV)} {H : List Ent} {Q : Exit → Act → World → Prop} {d : Nat}

def ifaceOk (P : Program) (t : TypeId) : Bool := match P.underlying t with
  | some (.interface _) => false
  | some _ => true
  | none => false
theorem POp.makeIface {ρ : Nat → Option AV} {t : TypeId} {x : Operand} {y : AV} {g : Bool} (h : o.op = .makeInterface t x) (hx : aev ρ x = some (g, y)) (hg : g = true) (ht : ifaceOk P t = true) : POp P H ρ o (.iface t y) := by
  intro B I w r a Hc hw hh hs ho
  have hr : (execOp a.eval o).run P w = .ok (.value (.iface t (a.eval x))) w := by
    unfold ifaceOk at ht
    cases hu : P.underlying t with
    | none => simp [hu] at ht
    | some u => cases u <;> simp [hu] at ht <;> simp [execOp, h, Instr.makeInterface, run_underlying hu]
  exact Runs.of_value (by simp [h]) hr ⟨I, hw, Ext.refl _ _ _, hh, .iface _ _ _ (ho.get (by simp [h, Op.operands]) hx hg)⟩

/-- a value that is known to the letter -/
def AV.is (y : AV) (v : Value) : Prop := ∀ (I : Imm) (w : World) (u : Value), Rel I w y u → u = v
theorem OL.panicX {x : Operand} {y : AV} {g : Bool} {t : TypeId} {v : Value} (hgd : o.guard = none) (h : o.op = .panic x) (hx : aev (envGet env) x = some (g, y)) (hg : g = true) (hy : y.is (.iface t v))
    (next : Done c ⟨env, H⟩ (.panic [{ v := .iface t v, recovered := false }]) Q) : OL c r P ops (o :: rest) ⟨env, H⟩ Q := by
  intro a w s
  refine wpListIn_plain hgd fun K hK => ?_
  obtain ⟨I, hw, he, hh, hv⟩ := s.mem
  have hxv := hy _ _ _ ((hv.ops o).get (by simp [h, Op.operands]) hx hg)
  have hr : (execOp a.eval o).run P w = .halt (.panic (.iface t v)) w := by
    simp [execOp, h, hxv, Instr.panic]
  refine Runs.of_panic (R := fun _ _ => False) (E := fun ch w' => ch = [{ v := .iface t v, recovered := false }] ∧ w' = w) (by simp [h]) hr ⟨rfl, rfl⟩ K Q (fun _ _ h => h.elim) ?_
  rintro ch w' ⟨rfl, rfl⟩
  exact next a w' s
theorem panX {B : Nat} {I0 : Imm} {w0 : World} {n : Nat} {fn : Func} {pv : Value} {a : Act} {w : World} (s : Sat ⟨B, I0, w0, n, []⟩ ⟨env, H⟩ a w) : bodyPost P fn (PanR B I0 w0 pv H) (.panic [{ v := pv, recovered := false }]) a w :=
  let ⟨I, hw, he, hh, _⟩ := s.mem; ⟨s.ds, rfl, I, hw, he, hh⟩

theorem OL.xcall {f : FuncId} {xs : List AV} {pv : Value} (hg : o.guard = none) (hc : CallOk P (envGet env) o f xs) (h : XCall c.B P f xs H pv) (next : Done c ⟨env, H⟩ (.panic [{ v := pv, recovered := false }]) Q) : OL c r P ops (o :: rest) ⟨env, H⟩ Q := by
  intro a w s
  refine wpListIn_plain hg fun K hK => ?_
  obtain ⟨I, hw, he, hh, hv⟩ := s.mem
  obtain ⟨vs, h1, h2⟩ := hc.run I w a (hv.ops o)
  obtain ⟨hok, hcall⟩ := h
  refine Runs.of_enter (R := fun _ _ => False) (E := fun ch w' => ch = [{ v := pv, recovered := false }] ∧ ∃ I', WOk c.B I' w' ∧ Ext c.B I w I' w' ∧ HeapOk c.B I' w' H) hc.nodefer (h2 hok) ((hcall I w vs hw hh h1).mono fun e w' hr => ?_) K Q (fun _ _ h => h.elim) ?_
  · obtain ⟨rfl, hr⟩ := hr
    exact ⟨rfl, hr⟩
  · rintro ch w' ⟨rfl, I', q1, q2, q3⟩
    exact next a w' ⟨s.ds, s.size, I', q1, he.trans q2, q3, hv.keep q2.keeps⟩

theorem OL.deferC {x : Operand} {ts : Array TypeId} {k : FuncId} {vs : List Value} {g : Bool} (hr0 : r = none) (hgd : o.guard = none) (hd : o.dst = none) (h : o.op = .defer { callee := .value x, args := #[], argTypes := ts }) (hx : aev (envGet env) x = some (g, .fn (.func k) [] (vs.map .val))) (hg : g = true)
    (next : OL ⟨c.B, c.I0, c.w0, c.n, { target := .fn (.func k) vs.toArray, args := #[] } :: c.ds⟩ r P ops rest ⟨env, H⟩ Q) : OL c r P ops (o :: rest) ⟨env, H⟩ Q := by
  intro a w s
  refine wpListIn_plain hgd fun K hK => ?_
  obtain ⟨I, hw, he, hh, hv⟩ := s.mem
  have hxv : a.eval x = .func (.func k) #[] vs.toArray := by
    have h0 := (hv.ops o).get (by simp [h, Op.operands, Call.operands]) hx hg
    generalize a.eval x = u at h0
    cases h0 with
    | fn _ _ _ vf vc hf hc =>
      have h1 := rel_vals hc
      have h2 : vf.toList = [] := by
        have := hf.length
        exact List.eq_nil_of_length_eq_zero this
      rw [← h1]
      congr
      exact Array.toList_eq_nil_iff.1 h2
  have hr : (execOp a.eval o).run P w = .ok (.defer { target := .fn (.func k) vs.toArray, args := #[] }) w := by
    simp [execOp, h, resolve, Deferred.ofValue, hxv]
  unfold Oper.wpIn
  refine ⟨fun _ _ => trivial, ?_⟩
  subst hr0
  have hs : o.semAt (FW none).round a.eval = execOp a.eval o := rfl
  rw [hs, hr, Oper.uponIn_defer]
  refine hK _ _ ?_
  rw [hd]
  exact next _ _ ⟨by show _ :: a.defers = _; rw [s.ds], s.size, I, hw, he, hh, fun t y hy => hv t y hy⟩

/-! ### scopes -/
theorem CW.scope {st : St} {p : Code} (h : CW c none P p st (Exit.noGoto Q)) : CW c none P (.scope p) st Q := fun a w s =>
  (wpIn_wide (n := 0)).2 (wp_scope_straight ((wpIn_wide (n := 0)).1 (h a w s)))
theorem CW.label {st : St} {k : Nat} (h : Done c st .normal Q) : CW c r P (.label k) st Q := fun a w s => wpIn_label (h a w s)
theorem Done.scopeN {st : St} (h : Done c st .normal Q) : Done c st .normal (Exit.noGoto Q) := h
theorem Done.scopeR {st : St} (h : Done c st .ret Q) : Done c st .ret (Exit.noGoto Q) := h
theorem Done.scopeX {st : St} {k : Nat} (h : Done c st (.exit k) Q) : Done c st (.exit k) (Exit.noGoto Q) := h
end
end Go.Eng

/- The engine, part 19: a new row that is written in place: its elements, slices of it, clear. No condition: general lemmas over any program. -/
set_option linter.unusedVariables false
set_option linter.unusedSimpArgs false
namespace Go.Eng
open Go.RowKit (Below)

section
variable {P : Program} {H : List Ent} {ρ : Nat → Option AV} {o : Oper}

/-- an element's address, of a slice whose value is known -/
theorem POp.ixC {t : TypeId} {x y : Operand} {k b off n cap : Nat} {kk : IntKind} {i : Int} {gx gy : Bool} [ht : HasSl P t k] (h : o.op = .indexAddr t x y) (hx : aev ρ x = some (gx, .val (.slice (some ⟨b, off, none⟩) n cap))) (hgx : gx = true) (hy : aev ρ y = some (gy, .val (.int kk i))) (hgy : gy = true) (h0 : 0 ≤ i ∧ i < n) : POp P H ρ o (.p b (off + i.toNat * k)) := by
  refine .same (by simp [h]) fun I w f ho => ?_
  have h1 := rel_val (ho.get (by simp [h, Op.operands]) hx hgx)
  have h2 := rel_val (ho.get (by simp [h, Op.operands]) hy hgy)
  exact ⟨.pointer (some ⟨b, off + i.toNat * k, none⟩), by simp [execOp, h, h1, h2, run_indexSl ht.h b off n cap kk i h0.1 h0.2 w], .val _⟩

theorem run_sliceC {t : TypeId} {k : Nat} (ht : slSize P t = some k) (b off n cap l m : Nat) (lo hi : Option Value) (kl kh : IntKind) (hl : match lo with | none => l = 0 | some v => v = .int kl (l : Int)) (hh : match hi with | none => m = n | some v => v = .int kh (m : Int)) (h1 : l ≤ m) (h2 : m ≤ cap) (h3 : l < cap) (w : World) :
    (Instr.sliceAt t (.slice (some ⟨b, off, none⟩) n cap) lo hi none).run P w = .ok (.slice (some ⟨b, off + l * k, none⟩) (m - l) (cap - l)) w := by
  obtain ⟨e, inf, hu, hi', hk⟩ := slSize_spec ht
  have hne : ¬ (cap = l) := by omega
  cases lo <;> cases hi <;> simp only at hl hh <;> subst hl <;> subst hh <;>
    simp [Instr.sliceAt, Instr.slice, run_underlying hu, Instr.sliceBounds, Instr.sliceBound, asIntOf, sizeOf, typeInfo, hi', hk, h1, h2, hne, Addr.add] <;> omega

theorem POp.slC {t : TypeId} {x : Operand} {lo hi : Option Operand} {k b off n cap l m : Nat} {gx gl gh : Bool} {kl kh : IntKind} [ht : HasSl P t k] (h : o.op = .slice t x lo hi none) (hx : aev ρ x = some (gx, .val (.slice (some ⟨b, off, none⟩) n cap))) (hgx : gx = true)
    (hlo : match lo with | none => l = 0 | some y => aev ρ y = some (gl, .val (.int kl (l : Int)))) (hgl : gl = true) (hhi : match hi with | none => m = n | some y => aev ρ y = some (gh, .val (.int kh (m : Int)))) (hgh : gh = true) (h1 : l ≤ m) (h2 : m ≤ cap) (h3 : l < cap) :
    POp P H ρ o (.val (.slice (some ⟨b, off + l * k, none⟩) (m - l) (cap - l))) := by
  refine .same (by simp [h]) fun I w f ho => ?_
  have hr := rel_val (ho.get (by simp [h, Op.operands]) hx hgx)
  have hl0 : ∀ y, lo = some y → f.eval y = .int kl (l : Int) := fun y e => by
    subst e; exact rel_val (ho.get (by simp [h, Op.operands]) hlo hgl)
  have hh0 : ∀ y, hi = some y → f.eval y = .int kh (m : Int) := fun y e => by
    subst e; exact rel_val (ho.get (by simp [h, Op.operands]) hhi hgh)
  refine ⟨_, ?_, .val (.slice (some ⟨b, off + l * k, none⟩) (m - l) (cap - l))⟩
  have := run_sliceC ht.h b off n cap l m (lo.map f.eval) (hi.map f.eval) kl kh (by cases lo with | none => exact hlo | some y => exact hl0 y rfl) (by cases hi with | none => exact hhi | some y => exact hh0 y rfl) h1 h2 h3 w
  simp [execOp, h, hr, this]

theorem Borrow.blk {t b k cap : Nat} {els : List (List AV)} {more : List AV} {pre post : List AV} (hm : Ent.blk b t (els.flatten ++ more) ∈ H) (hk : ∀ e ∈ els, e.length = k) (hc : els.length ≤ cap) (hcm : cap ≤ maxLen) : Borrow H (pre ++ .val (.slice (some ⟨b, 0, none⟩) els.length cap) :: post) (pre ++ .sl k els :: post) := by
  intro B I w Hc vs hw hh hs hr
  obtain ⟨hB, us, hb, hrel, hni⟩ := hh.ok _ (hs _ hm)
  let J : Imm := fun b' o' => I b' o' ∨ (b' = b ∧ o' < us.size)
  have kk : Keeps I w J w := ⟨fun _ _ h => .inl h, fun _ _ _ => rfl⟩
  refine ⟨J, fun b' o' h => ?_, ?_⟩
  · rcases h with h | ⟨rfl, h⟩
    · exact hw.there b' o' h
    · exact ⟨us[o'], by rw [cell_of_blk hb]; exact Array.getElem?_eq_getElem h⟩
  obtain ⟨as, zs, rfl, r1, r2⟩ := hr.append_inv
  cases r2 with
  | cons _ u _ zs hx ht =>
    have := rel_val hx
    subst this
    have hlen := hrel.length
    rw [List.length_append, flatten_len hk] at hlen
    have hsz : us.size = els.length * k + more.length := by simpa using hlen
    have hcells : Cells J w b 0 (els.flatten ++ more) := cells_of hb _ us.toList 0 (hrel.keep kk) (fun j u hu => by simpa using hu) (fun j hj => .inr ⟨rfl, by rw [List.length_append, flatten_len hk] at hj; omega⟩)
    have hc2 := hcells.take els.flatten.length
    rw [List.take_left] at hc2
    exact (r1.keep kk).append (.cons _ _ _ _ (.sl _ _ _ _ _ _ rfl hc hcm (els_of_cells els 0 hk hc2)) (ht.keep kk))
end

section
variable {c : Ctx} {r : Option Nat} {P : Program} {ops : Array Oper} {l rest : List Oper} {o : Oper} {env : List (Nat × AV)} {H : List Ent} {Q : Exit → Act → World → Prop} {d : Nat}

/-- append onto nothing: a new block of the run's own -/
theorem OL.appendNew {s z : Operand} {t tx e k by_ k' : Nat} {news : List (List AV)} {y0 y : AV} {g1 g2 : Bool} [hA : HasApp P t (e, k, by_)] [hX : HasSl P tx k'] (hgd : o.guard = none) (hd : o.dst = some d) (hn : Nat.blt d c.n = true)
    (h : o.op = .call { callee := .builtin .append, args := #[s, z], argTypes := #[t, tx] }) (hs : aev (envGet env) s = some (g1, y0)) (hg1 : g1 = true) (hy0 : AVle y0 .e0) (hz : aev (envGet env) z = some (g2, y)) (hg2 : g2 = true) (hy : AVle y (.sl k news)) (hne : news ≠ [])
    (h1 : news.all allOne = true) (hb : news.length * by_ ≤ 140737488355328) (hb' : news.length ≤ 9223372036854775807)
    (next : ∀ b cap more, news.length ≤ cap → cap ≤ maxLen → OL c r P ops rest ⟨(d, .val (.slice (some ⟨b, 0, none⟩) news.length cap)) :: env, .blk b e (news.flatten ++ more) :: H⟩ Q) : OL c r P ops (o :: rest) ⟨env, H⟩ Q := by
  intro a w sat
  refine wpListIn_plain hgd fun K hK => ?_
  obtain ⟨I, hw, he, hh, hv⟩ := sat.mem
  have ho := hv.ops o
  obtain ⟨i, zv, hu, hi, hzz, hsz, hby, hzs, hk0⟩ := appInfo_spec hA.h
  obtain ⟨e', _, hu', _⟩ := slSize_spec hX.h
  obtain ⟨ad, hsv⟩ : ∃ ad, a.eval s = .slice ad 0 0 := by
    have h0 := hy0 _ _ _ (ho.get (by simp [h, Op.operands, Call.operands]) hs hg1)
    generalize a.eval s = u at h0
    cases h0; exact ⟨_, rfl⟩
  obtain ⟨us, r1, r2⟩ := src_of (P := P) (tx := tx) hu' (hy _ _ _ (ho.get (by simp [h, Op.operands, Call.operands]) hz hg2)) h1
  rw [← hsz] at r2
  have hn0 : news.length ≠ 0 := fun e => hne (List.eq_nil_of_length_eq_zero e)
  have hfc : (Builtin.firstCells i.size 0 (.slice ad 0 0)).run P w.drew = .ok (#[] : Array Value) w.drew := by
    cases ad with
    | none => simp [Builtin.firstCells]
    | some ad => exact run_firstCells_some w.drew i.size 0 ad 0 0 [] (by simp) (by simp)
  have hnc : Builtin.nextslicecap (0 + news.length) 0 * i.bytes ≤ 281474976710656 := growslice_fits (by omega) (by rw [hby, Nat.zero_add]; exact hb)
  have hr := run_append_grow_src (P := P) w t tx o.type e i zv hu hi hzz ad 0 0 [] hfc (a.eval z) news.length us r2 (by omega) (by omega) hnc
  simp only [Nat.zero_add, List.nil_append] at hr
  generalize hG : grownCap w news.length 0 e = G at hr
  have hge : news.length ≤ G := by rw [← hG]; exact grownCap_ge w news.length 0 e
  have hcm : G ≤ maxLen := by rw [← hG]; exact grownCap_le_maxLen w news.length 0 e (by simp only [maxLen]; omega)
  generalize hcur : us.toArray ++ Builtin.zeroCells zv.cells (G - news.length) = cur at hr
  have hwd := hw.drew
  have hrel : RelL I w.drew (news.flatten ++ (Builtin.zeroCells zv.cells (G - news.length)).toList.map .val) cur.toList := by
    rw [← hcur]
    simpa using (r1.keep keeps_drew).append (relL_val (I := I) (w := w.drew) (Builtin.zeroCells zv.cells (G - news.length)).toList)
  refine Runs.of_value (R := fun v w' => v = .slice (some ⟨w.heap.size, 0, none⟩) news.length G ∧ w' = w.drew.alloc (.cells cur e)) (E := fun _ _ => False) (by simp [h]) (run_appendOp h a w (by rw [hsv]; exact hr)) ⟨rfl, rfl⟩ K Q ?_ (fun _ _ h => h.elim)
  rintro v w' ⟨rfl, rfl⟩
  refine hK _ _ (next w.heap.size G _ hge hcm _ _ ⟨by rw [put_defers]; exact sat.ds, by rw [tmps_put_size]; exact sat.size, I, hwd.alloc _, he.trans (ext_drew.trans (ext_alloc hwd _)), hh.drew.new hwd e _ cur hrel, ?_⟩)
  have := ((hv.keep keeps_drew).keep (keeps_alloc hwd (.cells cur e))).put (dst := some d) (x := .val (.slice (some ⟨w.heap.size, 0, none⟩) news.length G)) (v := .slice (some ⟨w.heap.size, 0, none⟩) news.length G) (by rw [sat.size]; exact hn) (.val _)
  rw [hd]; exact this

theorem relL_any {I : Imm} {w : World} : ∀ {n : Nat} {vs : List Value}, vs.length = n → RelL I w (List.replicate n .any) vs
  | 0, [], _ => .nil
  | n + 1, v :: vs, h => .cons _ _ _ _ (.any _) (relL_any (by simpa using h))

/-- clear, of a slice whose value is known -/
theorem OL.clearC {x : Operand} {t e k by_ b off n cap tb : Nat} {cs : List AV} {g : Bool} {H' : List Ent} [hA : HasApp P t (e, k, by_)] (hgd : o.guard = none) (hd : o.dst = none ∨ ∃ d', o.dst = some d' ∧ Nat.blt d' c.n = true)
    (h : o.op = .call { callee := .builtin .clear, args := #[x], argTypes := #[t] }) (hx : aev (envGet env) x = some (g, .val (.slice (some ⟨b, off, none⟩) n cap))) (hg : g = true) (hn0 : n ≠ 0) (hz1 : ((P.info? e).bind (·.zero)).all (fun z => z.cells.toList.all (·.oneCell')) = true)
    (hfit : off + n * k ≤ cs.length) (hu : Upd H (.blk b tb cs) (.blk b tb (cs.take off ++ List.replicate (n * k) .any ++ cs.drop (off + n * k))) H') (next : OL c r P ops rest ⟨putEnv o.dst .any env, H'⟩ Q) : OL c r P ops (o :: rest) ⟨env, H⟩ Q := by
  intro a w s
  refine wpListIn_plain hgd fun K hK => ?_
  obtain ⟨I, hw, he, hh, hv⟩ := s.mem
  have hxv := rel_val ((hv.ops o).get (by simp [h, Op.operands, Call.operands]) hx hg)
  obtain ⟨i, zv, hut, hi, hzz, hsz, hby, hzs, hk0⟩ := appInfo_spec hA.h
  obtain ⟨hB, vs, hblk, hrel, hni⟩ := hh.ok _ hu.mem
  have hcl : vs.size = cs.length := by have := hrel.length; simpa using this
  have hzl : (Builtin.zeroCells zv.cells n).toList.length = n * k := by
    have := size_zeroCells zv.cells n
    rw [hzs] at this; simpa using this
  have hone : ∀ u ∈ (Builtin.zeroCells zv.cells n).toList, u.oneCell' = true := by
    intro u hu
    simp only [hi, hzz, Option.bind_some, Option.all_some, List.all_eq_true] at hz1
    simp only [Builtin.zeroCells, Array.toList_map, List.mem_map] at hu
    obtain ⟨j, _, rfl⟩ := hu
    have hj : j % zv.cells.size < zv.cells.size := Nat.mod_lt _ (by omega)
    rw [getElem!_pos zv.cells _ hj]
    exact hz1 _ (by simp)
  have hrun := run_storeCells_at P b off tb (Builtin.zeroCells zv.cells n).toList 0 vs w hblk (by rw [hzl, hcl]; omega) hone
  generalize hcur : (vs.toList.take (off + 0) ++ (Builtin.zeroCells zv.cells n).toList ++ vs.toList.drop (off + 0 + (Builtin.zeroCells zv.cells n).toList.length)).toArray = cur at hrun
  have hz : (zeroValue e).run P w = .ok zv w := by simp [zeroValue, typeInfo, hi, hzz]
  have hexec : (execOp a.eval o).run P w = .ok (.value (.tuple #[])) (w.setRow b cur) := by
    try simp only [Nat.add_zero] at hrun
    obtain ⟨q, rfl⟩ : ∃ q, n = q + 1 := ⟨n - 1, by omega⟩
    simp [execOp, h, hxv, resolve, invoke, builtin, Builtin.clear_, run_underlying hut, hz, hrun]
  have hkeep : Keeps I w I (w.setRow b cur) := ⟨fun _ _ x => x, fun b' o' hI => by
    have hne : b' ≠ b := fun e => by subst e; exact hni o' hI
    exact World.cell?_of_block (a := ⟨b', o', none⟩) (setRow_other w b b' cur hne)⟩
  have hext : Ext c.B I w I (w.setRow b cur) := ⟨hkeep.imm, hkeep.cell, ⟨rfl, rfl, rfl, by simp, fun k hk => setRow_other w b k cur (by omega)⟩⟩
  have hw' : WOk c.B I (w.setRow b cur) := ⟨by simpa using hw.base, fun b' o' hI => by rw [hkeep.cell b' o' hI]; exact hw.there b' o' hI⟩
  have hrel' : RelL I w (cs.take off ++ List.replicate (n * k) .any ++ cs.drop (off + n * k)) cur.toList := by
    rw [← hcur]
    simp only [Nat.add_zero, hzl]
    exact ((hrel.take off).append (relL_any hzl)).append (hrel.drop _)
  have hh' : HeapOk c.B I (w.setRow b cur) H' := by
    refine hh.upd hu hkeep (fun k hk hne => setRow_other w b k cur (fun e => hne (by subst e; rfl))) (fun _ _ x => .inl x) ?_ (fun k hk => .inl hk)
    exact ⟨hB, cur, setRow_heap w b vs cur tb (0, 0) hblk, hrel'.keep hkeep, hni⟩
  refine Runs.of_value (R := fun v w' => w' = w.setRow b cur) (E := fun _ _ => False) (by simp [h]) hexec rfl K Q ?_ (fun _ _ h => h.elim)
  rintro v w' rfl
  refine hK _ _ (next _ _ ⟨by rw [put_defers]; exact s.ds, by rw [tmps_put_size]; exact s.size, I, hw', he.trans hext, hh', ?_⟩)
  refine (hv.keep hkeep).put ?_ (.any _)
  rcases hd with hd | ⟨d', hd, hlt⟩
  · rw [hd]; rfl
  · rw [hd, s.size]; exact hlt
end
end Go.Eng

/- The engine, part 20: a new block that is made among operations in whatever order. No condition: general lemmas over any program. -/
set_option linter.unusedVariables false
set_option linter.unusedSimpArgs false
namespace Go.Eng
open Go.RowKit (Below)
section
variable {c : Ctx} {r : Option Nat} {P : Program} {l : List Oper} {Q : Exit → Act → World → Prop}
abbrev AM (H0 : List Ent) (Hb : Nat → Nat → List Ent) (de : Nat) : Nat → Mem := fun j B a I w => match j with
  | 0 => HeapOk B I w H0
  | j + 1 => ∃ b, a.tmps.getD de undef = .pointer (some ⟨b, 0, none⟩) ∧ HeapOk B I w (Hb j b)
theorem DP.anyAC {env : List (Nat × AV)} {H : List Ent} (Hb : Nat → Nat → List Ent) (de : Nat) (ss : List Nat) (q : Nat) (k m n : Nat) (hn : c.n = n) (hchk : segChk l k m = true) (hss : ssChk ss k m = true) (hq : ss.length = q + 1) (hkm : Nat.ble k m = true) (hml : Nat.ble m l.length = true) (hlk : (l.all fun o => (looks l o).all fun t => Nat.blt t n) = true)
    (h : TD P (AM H Hb de) l ss c.n k ((l.drop k).take (m - k)) env fun env => ∀ b, DP c r P l Q m ⟨(de, .p b 0) :: env, Hb q b⟩) : DP c r P l Q k ⟨env, H⟩ :=
  DP.anyS (Hs := AM H Hb de) hchk hss (Nat.le_of_ble_eq_true hkm) (Nat.le_of_ble_eq_true hml) (by rw [hn]; exact hlk) (fun B a I w hh => hh) (h.mono fun env hd a w I q1 q2 q3 q4 q5 q6 => by
    rw [hq] at q5
    obtain ⟨b, hb, hh⟩ := q5
    exact hd b a w ⟨q1, q2, I, q3, q4, hh, Sat.put1 q6 (by rw [hb]; exact .val _)⟩)
end
section
variable {P : Program} {L rest : List Oper} {ss : List Nat} {n i d : Nat} {o : Oper} {env : List (Nat × AV)} {K : List (Nat × AV) → Prop} {x : AV} {H : List Ent} {Hb : Nat → Nat → List Ent} {de : Nat}
theorem TD.popA (hs : stp ss i = 0) (hg : o.guard = none) (hd : o.dst = some d) (hn : Nat.blt d n = true) (hde : Nat.beq d de = false) (h : ∀ H, POp P H (envGet env) o x) (next : TD P (AM H Hb de) L ss n (i + 1) rest ((d, x) :: env) K) : TD P (AM H Hb de) L ss n i (o :: rest) env K :=
  ⟨x, fun j h1 h2 => by
    rw [hs]
    refine ⟨hg, fun B I w r a hw hm ho hz => ?_⟩
    cases j with
    | zero => exact h H B I w r a _ hw hm (fun _ h => h) ho
    | succ j =>
      obtain ⟨b, hb, hh⟩ := hm
      refine (h (Hb j b) B I w r a _ hw hh (fun _ h => h) ho).mono (fun v w' ⟨I', a1, a2, a3, a4⟩ => ⟨I', a1, a2, ⟨b, ?_, a3⟩, a4⟩) (fun _ _ h => h)
      rw [← hb, hd]
      exact tmps_put_other (fun e => by subst e; simp at hde), dstOk_of hd hn, by rw [hd]; exact next⟩
theorem TD.effA {t : TypeId} {zs : List Value} [hz : HasZero P t zs] (hh : hiOf L ss i = 0) (hs : stp ss i = 1) (hg : o.guard = none) (hd : o.dst = some de) (hn : Nat.blt de n = true) (h : o.op = .alloc t)
    (hH : ∀ b, Hb 0 b = .blk b t (zs.map .val) :: H) (next : TD P (AM H Hb de) L ss n (i + 1) rest ((de, .any) :: env) K) : TD P (AM H Hb de) L ss n i (o :: rest) env K :=
  ⟨.any, fun j h1 h2 => by
    obtain rfl : j = 0 := by omega
    rw [hs]
    refine ⟨hg, fun B I w r a hw hm ho hzz => ?_⟩
    have hz' := hz.h
    unfold zeroCells at hz'
    cases hi : P.info? t with
    | none => simp [hi] at hz'
    | some inf =>
      cases hz2 : inf.zero with
      | none => simp [hi, hz2] at hz'
      | some z =>
        simp [hi, hz2] at hz'
        have h1 : RelL I w (zs.map .val) z.cells.toList := by rw [hz']; exact relL_val zs
        refine Runs.of_value (v := .pointer (some ⟨w.heap.size, 0, none⟩)) (w' := w.alloc (.cells z.cells t)) (by simp [h]) (by simp [execOp, h, Instr.alloc, newVar, newRow, zeroValue, typeInfo, hi, hz2]) ⟨I, hw.alloc _, ext_alloc hw _, ⟨w.heap.size, ?_, ?_⟩, .any _⟩
        · rw [hd]; exact tmps_put_same (hzz de hd)
        · rw [hH]; exact HeapOk.new hm hw t _ _ h1, dstOk_of hd hn, by rw [hd]; exact next⟩
theorem TD.stoA (q : Nat) (hl : loOf L ss i = q + 1) (hh : hiOf L ss i = q + 1) (hs : stp ss i = 1) (hg : o.guard = none) (hd : o.dst = none) (h : ∀ b, SOk P (Hb q b) (Hb (q + 1) b) (envGet ((de, .p b 0) :: env)) o) (next : TD P (AM H Hb de) L ss n (i + 1) rest env K) : TD P (AM H Hb de) L ss n i (o :: rest) env K :=
  ⟨.any, fun j h1 h2 => by
    obtain rfl : j = q + 1 := by omega
    rw [hs]
    refine ⟨hg, fun B I w r a hw hm ho hz => ?_⟩
    obtain ⟨b, hb, hhp⟩ := hm
    have ho' : OpsOk I w (envGet ((de, .p b 0) :: env)) a o := fun x hx y hy => by
      cases x with
      | tmp t =>
        simp only [aeval] at hy
        rw [envGet_cons] at hy
        split at hy
        · rename_i e
          subst e
          cases hy
          show Rel I w (.p b 0) (a.tmps.getD t undef)
          rw [hb]; exact .val _
        · exact ho _ hx y hy
      | const v => exact ho _ hx y hy
      | global g => exact ho _ hx y hy
      | func f => exact ho _ hx y hy
    exact (h b B I w r a hw hhp ho').mono (fun v w' ⟨I', a1, a2, a3⟩ => ⟨I', a1, a2, ⟨b, by rw [hd]; exact hb, a3⟩, .any _⟩) (fun _ _ h => h), by rw [hd]; rfl, by rw [hd]; exact next⟩
end
end Go.Eng

/- The engine, part 21: what a statement's form asks behind a call that left everything below the old heap as it was. No condition: general lemmas over any program. -/
set_option linter.unusedVariables false
set_option linter.unusedSimpArgs false
namespace Go.Eng
open Go.RowKit (Below)
open Go.ChangeShapes Go.WideShapes Go.ChangeAt Go.RowKit

/-- post, where nothing below the old size of the heap has turned -/
theorem post_of_below {H : Type} {enc : TypeId × Value → H} {P : Program} {f : Func} {s : ChangeSpec} {apart fresh handsOn again : Bool} {W W' : World} {args : Array Value} {v : Value} {ds gs : List (DataW H)} {before pa pv : List MemPlace}
    (hW : DataW.Whole enc P f.params.toList s.vars apart W args.toList ds gs before)
    (hres : ∀ (b : Nat) (sp : Nat → Bool) (hd : Bool), DataW.TrodAll enc P W' b sp hd f.resultTypes.toList (v.resultList f.resultTypes.size) (s.fn H (ds ++ gs)).results [])
    (hargs : ∀ sp : Nat → Bool, (∀ p ∈ before, sp p.block = true) → DataW.TrodAll enc P W' 0 sp true f.params.toList args.toList (s.fn H (ds ++ gs)).args pa)
    (hvars : ∀ sp : Nat → Bool, (∀ p ∈ before, sp p.block = true) → DataW.TrodVars enc P W' sp s.vars (s.fn H (ds ++ gs)).vars pv)
    (hps : before = pa ++ pv) (hb : Below W.heap.size W W')
    (hok : ∀ (j : Nat) (t : TypeId) (r : Value), f.resultTypes[j]? = some t → (v.resultList f.resultTypes.size)[j]? = some r → Value.okWide P W' .any 0 t r) :
    s.post enc P f apart fresh handsOn again W args v W' := by
  have hold : ∀ p ∈ before, (fun b => decide (b < W.heap.size)) p.block = true := fun p hp => by simpa using hW.lt p hp
  have hlt : ∀ p ∈ before, p.block < W.heap.size := fun p hp => hW.lt p hp
  refine ⟨ds, gs, before, [], pa, pv, hW, hres _ _ _, hargs _ hold, hvars _ hold, hb.frame _, fun _ => ?_⟩
  obtain ⟨_, _, _, _, _, hz, hn⟩ := hW
  refine ⟨hok, _, _, ([] ++ pa) ++ pv, ⟨[] ++ pa, pv, trodAll_append (hargs _ (fun _ _ => rfl)) (hres _ _ _), hvars _ (fun _ _ => rfl), rfl, ?_, ?_⟩, ?_⟩
  · intro b off hp
    have hp' : MemPlace.cell b off ∈ before := by rw [hps]; simpa using hp
    rw [hb.frozen (p := ⟨b, off, none⟩) (hlt _ hp')]
    exact hz b off hp'
  · intro ha
    have := hn ha
    rw [hps] at this
    simpa using this
  · intro p hp _
    rw [hps]
    simpa using hp
end Go.Eng
