/- The engine, part 19: a new row that is written in place: its elements, slices of it, clear. No condition: general lemmas over any program. -/
import Derived.Test.YtiljpbljebfhnaaGreatPdP3
import Derived.OpenShut
import Derived.ProofKit
import Derived.Laws.MakeOwn
import Derived.Carry
import Derived.Laws.StructEq
import Derived.ChangeKeysEq
import Derived.Deep.AppendSrc

set_option linter.unusedVariables false
set_option linter.unusedSimpArgs false
namespace Go.Eng
open Go.RowKit (Below)

section
variable {P : Program} {H : List Ent} {ρ : Nat → Option AV} {o : Oper}

/-- an element's address, of a slice whose value is known -/
theorem POp.ixC {t : TypeId} {x y : Operand} {k b off n cap : Nat} {kk : IntKind} {i : Int} {gx gy : Bool} [ht : HasSl P t k] (h : o.op = .indexAddr t x y) (hx : aev ρ x = some (gx, .val (.slice (some ⟨b, off, none⟩) n cap))) (hgx : gx = true) (hy : aev ρ y = some (gy, .val (.int kk i))) (hgy : gy = true) (h0 : 0 ≤ i ∧ i < n) : POp P H ρ o (.p b (off + i.toNat * k)) := by
  refine .same (by simp [h]) fun I w f ho => ?_
  have h1 := rel_val (ho.get (by simp [h, Op.operands]) hx hgx)
  have h2 := rel_val (ho.get (by simp [h, Op.operands]) hy hgy)
  exact ⟨.pointer (some ⟨b, off + i.toNat * k, none⟩), by simp [execOp, h, h1, h2, run_indexSl ht.h b off n cap kk i h0.1 h0.2 w], .val _⟩

theorem run_sliceC {t : TypeId} {k : Nat} (ht : slSize P t = some k) (b off n cap l m : Nat) (lo hi : Option Value) (kl kh : IntKind) (hl : match lo with | none => l = 0 | some v => v = .int kl (l : Int)) (hh : match hi with | none => m = n | some v => v = .int kh (m : Int)) (h1 : l ≤ m) (h2 : m ≤ cap) (h3 : l < cap) (w : World) :
    (Instr.sliceAt t (.slice (some ⟨b, off, none⟩) n cap) lo hi none).run P w = .ok (.slice (some ⟨b, off + l * k, none⟩) (m - l) (cap - l)) w := by
  obtain ⟨e, inf, hu, hi', hk⟩ := slSize_spec ht
  have hne : ¬ (cap = l) := by omega
  cases lo <;> cases hi <;> simp only at hl hh <;> subst hl <;> subst hh <;>
    simp [Instr.sliceAt, Instr.slice, run_underlying hu, Instr.sliceBounds, Instr.sliceBound, asIntOf, sizeOf, typeInfo, hi', hk, h1, h2, hne, Addr.add] <;> omega

theorem POp.slC {t : TypeId} {x : Operand} {lo hi : Option Operand} {k b off n cap l m : Nat} {gx gl gh : Bool} {kl kh : IntKind} [ht : HasSl P t k] (h : o.op = .slice t x lo hi none) (hx : aev ρ x = some (gx, .val (.slice (some ⟨b, off, none⟩) n cap))) (hgx : gx = true)
    (hlo : match lo with | none => l = 0 | some y => aev ρ y = some (gl, .val (.int kl (l : Int)))) (hgl : gl = true) (hhi : match hi with | none => m = n | some y => aev ρ y = some (gh, .val (.int kh (m : Int)))) (hgh : gh = true) (h1 : l ≤ m) (h2 : m ≤ cap) (h3 : l < cap) :
    POp P H ρ o (.val (.slice (some ⟨b, off + l * k, none⟩) (m - l) (cap - l))) := by
  refine .same (by simp [h]) fun I w f ho => ?_
  have hr := rel_val (ho.get (by simp [h, Op.operands]) hx hgx)
  have hl0 : ∀ y, lo = some y → f.eval y = .int kl (l : Int) := fun y e => by
    subst e; exact rel_val (ho.get (by simp [h, Op.operands]) hlo hgl)
  have hh0 : ∀ y, hi = some y → f.eval y = .int kh (m : Int) := fun y e => by
    subst e; exact rel_val (ho.get (by simp [h, Op.operands]) hhi hgh)
  refine ⟨_, ?_, .val (.slice (some ⟨b, off + l * k, none⟩) (m - l) (cap - l))⟩
  have := run_sliceC ht.h b off n cap l m (lo.map f.eval) (hi.map f.eval) kl kh (by cases lo with | none => exact hlo | some y => exact hl0 y rfl) (by cases hi with | none => exact hhi | some y => exact hh0 y rfl) h1 h2 h3 w
  simp [execOp, h, hr, this]

theorem Borrow.blk {t b k cap : Nat} {els : List (List AV)} {more : List AV} {pre post : List AV} (hm : Ent.blk b t (els.flatten ++ more) ∈ H) (hk : ∀ e ∈ els, e.length = k) (hc : els.length ≤ cap) (hcm : cap ≤ maxLen) : Borrow H (pre ++ .val (.slice (some ⟨b, 0, none⟩) els.length cap) :: post) (pre ++ .sl k els :: post) := by
  intro B I w Hc vs hw hh hs hr
  obtain ⟨hB, us, hb, hrel, hni⟩ := hh.ok _ (hs _ hm)
  let J : Imm := fun b' o' => I b' o' ∨ (b' = b ∧ o' < us.size)
  have kk : Keeps I w J w := ⟨fun _ _ h => .inl h, fun _ _ _ => rfl⟩
  refine ⟨J, fun b' o' h => ?_, ?_⟩
  · rcases h with h | ⟨rfl, h⟩
    · exact hw.there b' o' h
    · exact ⟨us[o'], by rw [cell_of_blk hb]; exact Array.getElem?_eq_getElem h⟩
  obtain ⟨as, zs, rfl, r1, r2⟩ := hr.append_inv
  cases r2 with
  | cons _ u _ zs hx ht =>
    have := rel_val hx
    subst this
    have hlen := hrel.length
    rw [List.length_append, flatten_len hk] at hlen
    have hsz : us.size = els.length * k + more.length := by simpa using hlen
    have hcells : Cells J w b 0 (els.flatten ++ more) := cells_of hb _ us.toList 0 (hrel.keep kk) (fun j u hu => by simpa using hu) (fun j hj => .inr ⟨rfl, by rw [List.length_append, flatten_len hk] at hj; omega⟩)
    have hc2 := hcells.take els.flatten.length
    rw [List.take_left] at hc2
    exact (r1.keep kk).append (.cons _ _ _ _ (.sl _ _ _ _ _ _ rfl hc hcm (els_of_cells els 0 hk hc2)) (ht.keep kk))
end

section
variable {c : Ctx} {r : Option Nat} {P : Program} {ops : Array Oper} {l rest : List Oper} {o : Oper} {env : List (Nat × AV)} {H : List Ent} {Q : Exit → Act → World → Prop} {d : Nat}

/-- append onto nothing: a new block of the run's own -/
theorem OL.appendNew {s z : Operand} {t tx e k by_ k' : Nat} {news : List (List AV)} {y0 y : AV} {g1 g2 : Bool} [hA : HasApp P t (e, k, by_)] [hX : HasSl P tx k'] (hgd : o.guard = none) (hd : o.dst = some d) (hn : Nat.blt d c.n = true)
    (h : o.op = .call { callee := .builtin .append, args := #[s, z], argTypes := #[t, tx] }) (hs : aev (envGet env) s = some (g1, y0)) (hg1 : g1 = true) (hy0 : AVle y0 .e0) (hz : aev (envGet env) z = some (g2, y)) (hg2 : g2 = true) (hy : AVle y (.sl k news)) (hne : news ≠ [])
    (h1 : news.all allOne = true) (hb : news.length * by_ ≤ 140737488355328) (hb' : news.length ≤ 9223372036854775807)
    (next : ∀ b cap more, news.length ≤ cap → cap ≤ maxLen → OL c r P ops rest ⟨(d, .val (.slice (some ⟨b, 0, none⟩) news.length cap)) :: env, .blk b e (news.flatten ++ more) :: H⟩ Q) : OL c r P ops (o :: rest) ⟨env, H⟩ Q := by
  intro a w sat
  refine wpListIn_plain hgd fun K hK => ?_
  obtain ⟨I, hw, he, hh, hv⟩ := sat.mem
  have ho := hv.ops o
  obtain ⟨i, zv, hu, hi, hzz, hsz, hby, hzs, hk0⟩ := appInfo_spec hA.h
  obtain ⟨e', _, hu', _⟩ := slSize_spec hX.h
  obtain ⟨ad, hsv⟩ : ∃ ad, a.eval s = .slice ad 0 0 := by
    have h0 := hy0 _ _ _ (ho.get (by simp [h, Op.operands, Call.operands]) hs hg1)
    generalize a.eval s = u at h0
    cases h0; exact ⟨_, rfl⟩
  obtain ⟨us, r1, r2⟩ := src_of (P := P) (tx := tx) hu' (hy _ _ _ (ho.get (by simp [h, Op.operands, Call.operands]) hz hg2)) h1
  rw [← hsz] at r2
  have hn0 : news.length ≠ 0 := fun e => hne (List.eq_nil_of_length_eq_zero e)
  have hfc : (Builtin.firstCells i.size 0 (.slice ad 0 0)).run P w.drew = .ok (#[] : Array Value) w.drew := by
    cases ad with
    | none => simp [Builtin.firstCells]
    | some ad => exact run_firstCells_some w.drew i.size 0 ad 0 0 [] (by simp) (by simp)
  have hnc : Builtin.nextslicecap (0 + news.length) 0 * i.bytes ≤ 281474976710656 := growslice_fits (by omega) (by rw [hby, Nat.zero_add]; exact hb)
  have hr := run_append_grow_src (P := P) w t tx o.type e i zv hu hi hzz ad 0 0 [] hfc (a.eval z) news.length us r2 (by omega) (by omega) hnc
  simp only [Nat.zero_add, List.nil_append] at hr
  generalize hG : grownCap w news.length 0 e = G at hr
  have hge : news.length ≤ G := by rw [← hG]; exact grownCap_ge w news.length 0 e
  have hcm : G ≤ maxLen := by rw [← hG]; exact grownCap_le_maxLen w news.length 0 e (by simp only [maxLen]; omega)
  generalize hcur : us.toArray ++ Builtin.zeroCells zv.cells (G - news.length) = cur at hr
  have hwd := hw.drew
  have hrel : RelL I w.drew (news.flatten ++ (Builtin.zeroCells zv.cells (G - news.length)).toList.map .val) cur.toList := by
    rw [← hcur]
    simpa using (r1.keep keeps_drew).append (relL_val (I := I) (w := w.drew) (Builtin.zeroCells zv.cells (G - news.length)).toList)
  refine Runs.of_value (R := fun v w' => v = .slice (some ⟨w.heap.size, 0, none⟩) news.length G ∧ w' = w.drew.alloc (.cells cur e)) (E := fun _ _ => False) (by simp [h]) (run_appendOp h a w (by rw [hsv]; exact hr)) ⟨rfl, rfl⟩ K Q ?_ (fun _ _ h => h.elim)
  rintro v w' ⟨rfl, rfl⟩
  refine hK _ _ (next w.heap.size G _ hge hcm _ _ ⟨by rw [put_defers]; exact sat.ds, by rw [tmps_put_size]; exact sat.size, I, hwd.alloc _, he.trans (ext_drew.trans (ext_alloc hwd _)), hh.drew.new hwd e _ cur hrel, ?_⟩)
  have := ((hv.keep keeps_drew).keep (keeps_alloc hwd (.cells cur e))).put (dst := some d) (x := .val (.slice (some ⟨w.heap.size, 0, none⟩) news.length G)) (v := .slice (some ⟨w.heap.size, 0, none⟩) news.length G) (by rw [sat.size]; exact hn) (.val _)
  rw [hd]; exact this

theorem relL_any {I : Imm} {w : World} : ∀ {n : Nat} {vs : List Value}, vs.length = n → RelL I w (List.replicate n .any) vs
  | 0, [], _ => .nil
  | n + 1, v :: vs, h => .cons _ _ _ _ (.any _) (relL_any (by simpa using h))

/-- clear, of a slice whose value is known -/
theorem OL.clearC {x : Operand} {t e k by_ b off n cap tb : Nat} {cs : List AV} {g : Bool} {H' : List Ent} [hA : HasApp P t (e, k, by_)] (hgd : o.guard = none) (hd : o.dst = none ∨ ∃ d', o.dst = some d' ∧ Nat.blt d' c.n = true)
    (h : o.op = .call { callee := .builtin .clear, args := #[x], argTypes := #[t] }) (hx : aev (envGet env) x = some (g, .val (.slice (some ⟨b, off, none⟩) n cap))) (hg : g = true) (hn0 : n ≠ 0) (hz1 : ((P.info? e).bind (·.zero)).all (fun z => z.cells.toList.all (·.oneCell')) = true)
    (hfit : off + n * k ≤ cs.length) (hu : Upd H (.blk b tb cs) (.blk b tb (cs.take off ++ List.replicate (n * k) .any ++ cs.drop (off + n * k))) H') (next : OL c r P ops rest ⟨putEnv o.dst .any env, H'⟩ Q) : OL c r P ops (o :: rest) ⟨env, H⟩ Q := by
  intro a w s
  refine wpListIn_plain hgd fun K hK => ?_
  obtain ⟨I, hw, he, hh, hv⟩ := s.mem
  have hxv := rel_val ((hv.ops o).get (by simp [h, Op.operands, Call.operands]) hx hg)
  obtain ⟨i, zv, hut, hi, hzz, hsz, hby, hzs, hk0⟩ := appInfo_spec hA.h
  obtain ⟨hB, vs, hblk, hrel, hni⟩ := hh.ok _ hu.mem
  have hcl : vs.size = cs.length := by have := hrel.length; simpa using this
  have hzl : (Builtin.zeroCells zv.cells n).toList.length = n * k := by
    have := size_zeroCells zv.cells n
    rw [hzs] at this; simpa using this
  have hone : ∀ u ∈ (Builtin.zeroCells zv.cells n).toList, u.oneCell' = true := by
    intro u hu
    simp only [hi, hzz, Option.bind_some, Option.all_some, List.all_eq_true] at hz1
    simp only [Builtin.zeroCells, Array.toList_map, List.mem_map] at hu
    obtain ⟨j, _, rfl⟩ := hu
    have hj : j % zv.cells.size < zv.cells.size := Nat.mod_lt _ (by omega)
    rw [getElem!_pos zv.cells _ hj]
    exact hz1 _ (by simp)
  have hrun := run_storeCells_at P b off tb (Builtin.zeroCells zv.cells n).toList 0 vs w hblk (by rw [hzl, hcl]; omega) hone
  generalize hcur : (vs.toList.take (off + 0) ++ (Builtin.zeroCells zv.cells n).toList ++ vs.toList.drop (off + 0 + (Builtin.zeroCells zv.cells n).toList.length)).toArray = cur at hrun
  have hz : (zeroValue e).run P w = .ok zv w := by simp [zeroValue, typeInfo, hi, hzz]
  have hexec : (execOp a.eval o).run P w = .ok (.value (.tuple #[])) (w.setRow b cur) := by
    try simp only [Nat.add_zero] at hrun
    obtain ⟨q, rfl⟩ : ∃ q, n = q + 1 := ⟨n - 1, by omega⟩
    simp [execOp, h, hxv, resolve, invoke, builtin, Builtin.clear_, run_underlying hut, hz, hrun]
  have hkeep : Keeps I w I (w.setRow b cur) := ⟨fun _ _ x => x, fun b' o' hI => by
    have hne : b' ≠ b := fun e => by subst e; exact hni o' hI
    exact World.cell?_of_block (a := ⟨b', o', none⟩) (setRow_other w b b' cur hne)⟩
  have hext : Ext c.B I w I (w.setRow b cur) := ⟨hkeep.imm, hkeep.cell, ⟨rfl, rfl, rfl, by simp, fun k hk => setRow_other w b k cur (by omega)⟩⟩
  have hw' : WOk c.B I (w.setRow b cur) := ⟨by simpa using hw.base, fun b' o' hI => by rw [hkeep.cell b' o' hI]; exact hw.there b' o' hI⟩
  have hrel' : RelL I w (cs.take off ++ List.replicate (n * k) .any ++ cs.drop (off + n * k)) cur.toList := by
    rw [← hcur]
    simp only [Nat.add_zero, hzl]
    exact ((hrel.take off).append (relL_any hzl)).append (hrel.drop _)
  have hh' : HeapOk c.B I (w.setRow b cur) H' := by
    refine hh.upd hu hkeep (fun k hk hne => setRow_other w b k cur (fun e => hne (by subst e; rfl))) (fun _ _ x => .inl x) ?_ (fun k hk => .inl hk)
    exact ⟨hB, cur, setRow_heap w b vs cur tb (0, 0) hblk, hrel'.keep hkeep, hni⟩
  refine Runs.of_value (R := fun v w' => w' = w.setRow b cur) (E := fun _ _ => False) (by simp [h]) hexec rfl K Q ?_ (fun _ _ h => h.elim)
  rintro v w' rfl
  refine hK _ _ (next _ _ ⟨by rw [put_defers]; exact s.ds, by rw [tmps_put_size]; exact s.size, I, hw', he.trans hext, hh', ?_⟩)
  refine (hv.keep hkeep).put ?_ (.any _)
  rcases hd with hd | ⟨d', hd, hlt⟩
  · rw [hd]; rfl
  · rw [hd, s.size]; exact hlt
end
end Go.Eng

/- The engine, part 20: a new block that is made among operations in whatever order. No condition: general lemmas over any program. -/
set_option linter.unusedVariables false
set_option linter.unusedSimpArgs false
namespace Go.Eng
open Go.RowKit (Below)
section
variable {c : Ctx} {r : Option Nat} {P : Program} {l : List Oper} {Q : Exit → Act → World → Prop}
abbrev AM (H0 : List Ent) (Hb : Nat → Nat → List Ent) (de : Nat) : Nat → Mem := fun j B a I w => match j with
  | 0 => HeapOk B I w H0
  | j + 1 => ∃ b, a.tmps.getD de undef = .pointer (some ⟨b, 0, none⟩) ∧ HeapOk B I w (Hb j b)
theorem DP.anyAC {env : List (Nat × AV)} {H : List Ent} (Hb : Nat → Nat → List Ent) (de : Nat) (ss : List Nat) (q : Nat) (k m n : Nat) (hn : c.n = n) (hchk : segChk l k m = true) (hss : ssChk ss k m = true) (hq : ss.length = q + 1) (hkm : Nat.ble k m = true) (hml : Nat.ble m l.length = true) (hlk : (l.all fun o => (looks l o).all fun t => Nat.blt t n) = true)
    (h : TD P (AM H Hb de) l ss c.n k ((l.drop k).take (m - k)) env fun env => ∀ b, DP c r P l Q m ⟨(de, .p b 0) :: env, Hb q b⟩) : DP c r P l Q k ⟨env, H⟩ :=
  DP.anyS (Hs := AM H Hb de) hchk hss (Nat.le_of_ble_eq_true hkm) (Nat.le_of_ble_eq_true hml) (by rw [hn]; exact hlk) (fun B a I w hh => hh) (h.mono fun env hd a w I q1 q2 q3 q4 q5 q6 => by
    rw [hq] at q5
    obtain ⟨b, hb, hh⟩ := q5
    exact hd b a w ⟨q1, q2, I, q3, q4, hh, Sat.put1 q6 (by rw [hb]; exact .val _)⟩)
end
section
variable {P : Program} {L rest : List Oper} {ss : List Nat} {n i d : Nat} {o : Oper} {env : List (Nat × AV)} {K : List (Nat × AV) → Prop} {x : AV} {H : List Ent} {Hb : Nat → Nat → List Ent} {de : Nat}
theorem TD.popA (hs : stp ss i = 0) (hg : o.guard = none) (hd : o.dst = some d) (hn : Nat.blt d n = true) (hde : Nat.beq d de = false) (h : ∀ H, POp P H (envGet env) o x) (next : TD P (AM H Hb de) L ss n (i + 1) rest ((d, x) :: env) K) : TD P (AM H Hb de) L ss n i (o :: rest) env K :=
  ⟨x, fun j h1 h2 => by
    rw [hs]
    refine ⟨hg, fun B I w r a hw hm ho hz => ?_⟩
    cases j with
    | zero => exact h H B I w r a _ hw hm (fun _ h => h) ho
    | succ j =>
      obtain ⟨b, hb, hh⟩ := hm
      refine (h (Hb j b) B I w r a _ hw hh (fun _ h => h) ho).mono (fun v w' ⟨I', a1, a2, a3, a4⟩ => ⟨I', a1, a2, ⟨b, ?_, a3⟩, a4⟩) (fun _ _ h => h)
      rw [← hb, hd]
      exact tmps_put_other (fun e => by subst e; simp at hde), dstOk_of hd hn, by rw [hd]; exact next⟩
theorem TD.effA {t : TypeId} {zs : List Value} [hz : HasZero P t zs] (hh : hiOf L ss i = 0) (hs : stp ss i = 1) (hg : o.guard = none) (hd : o.dst = some de) (hn : Nat.blt de n = true) (h : o.op = .alloc t)
    (hH : ∀ b, Hb 0 b = .blk b t (zs.map .val) :: H) (next : TD P (AM H Hb de) L ss n (i + 1) rest ((de, .any) :: env) K) : TD P (AM H Hb de) L ss n i (o :: rest) env K :=
  ⟨.any, fun j h1 h2 => by
    obtain rfl : j = 0 := by omega
    rw [hs]
    refine ⟨hg, fun B I w r a hw hm ho hzz => ?_⟩
    have hz' := hz.h
    unfold zeroCells at hz'
    cases hi : P.info? t with
    | none => simp [hi] at hz'
    | some inf =>
      cases hz2 : inf.zero with
      | none => simp [hi, hz2] at hz'
      | some z =>
        simp [hi, hz2] at hz'
        have h1 : RelL I w (zs.map .val) z.cells.toList := by rw [hz']; exact relL_val zs
        refine Runs.of_value (v := .pointer (some ⟨w.heap.size, 0, none⟩)) (w' := w.alloc (.cells z.cells t)) (by simp [h]) (by simp [execOp, h, Instr.alloc, newVar, newRow, zeroValue, typeInfo, hi, hz2]) ⟨I, hw.alloc _, ext_alloc hw _, ⟨w.heap.size, ?_, ?_⟩, .any _⟩
        · rw [hd]; exact tmps_put_same (hzz de hd)
        · rw [hH]; exact HeapOk.new hm hw t _ _ h1, dstOk_of hd hn, by rw [hd]; exact next⟩
theorem TD.stoA (q : Nat) (hl : loOf L ss i = q + 1) (hh : hiOf L ss i = q + 1) (hs : stp ss i = 1) (hg : o.guard = none) (hd : o.dst = none) (h : ∀ b, SOk P (Hb q b) (Hb (q + 1) b) (envGet ((de, .p b 0) :: env)) o) (next : TD P (AM H Hb de) L ss n (i + 1) rest env K) : TD P (AM H Hb de) L ss n i (o :: rest) env K :=
  ⟨.any, fun j h1 h2 => by
    obtain rfl : j = q + 1 := by omega
    rw [hs]
    refine ⟨hg, fun B I w r a hw hm ho hz => ?_⟩
    obtain ⟨b, hb, hhp⟩ := hm
    have ho' : OpsOk I w (envGet ((de, .p b 0) :: env)) a o := fun x hx y hy => by
      cases x with
      | tmp t =>
        simp only [aeval] at hy
        rw [envGet_cons] at hy
        split at hy
        · rename_i e
          subst e
          cases hy
          show Rel I w (.p b 0) (a.tmps.getD t undef)
          rw [hb]; exact .val _
        · exact ho _ hx y hy
      | const v => exact ho _ hx y hy
      | global g => exact ho _ hx y hy
      | func f => exact ho _ hx y hy
    exact (h b B I w r a hw hhp ho').mono (fun v w' ⟨I', a1, a2, a3⟩ => ⟨I', a1, a2, ⟨b, by rw [hd]; exact hb, a3⟩, .any _⟩) (fun _ _ h => h), by rw [hd]; rfl, by rw [hd]; exact next⟩
end
end Go.Eng

/- The engine, part 21: what a statement's form asks behind a call that left everything below the old heap as it was. No condition: general lemmas over any program. -/
set_option linter.unusedVariables false
set_option linter.unusedSimpArgs false
namespace Go.Eng
open Go.RowKit (Below)
open Go.ChangeShapes Go.WideShapes Go.ChangeAt Go.RowKit

/-- post, where nothing below the old size of the heap has turned -/
theorem post_of_below {H : Type} {enc : TypeId × Value → H} {P : Program} {f : Func} {s : ChangeSpec} {apart fresh handsOn again : Bool} {W W' : World} {args : Array Value} {v : Value} {ds gs : List (DataW H)} {before pa pv : List MemPlace}
    (hW : DataW.Whole enc P f.params.toList s.vars apart W args.toList ds gs before)
    (hres : ∀ (b : Nat) (sp : Nat → Bool) (hd : Bool), DataW.TrodAll enc P W' b sp hd f.resultTypes.toList (v.resultList f.resultTypes.size) (s.fn H (ds ++ gs)).results [])
    (hargs : ∀ sp : Nat → Bool, (∀ p ∈ before, sp p.block = true) → DataW.TrodAll enc P W' 0 sp true f.params.toList args.toList (s.fn H (ds ++ gs)).args pa)
    (hvars : ∀ sp : Nat → Bool, (∀ p ∈ before, sp p.block = true) → DataW.TrodVars enc P W' sp s.vars (s.fn H (ds ++ gs)).vars pv)
    (hps : before = pa ++ pv) (hb : Below W.heap.size W W')
    (hok : ∀ (j : Nat) (t : TypeId) (r : Value), f.resultTypes[j]? = some t → (v.resultList f.resultTypes.size)[j]? = some r → Value.okWide P W' .any 0 t r) :
    s.post enc P f apart fresh handsOn again W args v W' := by
  have hold : ∀ p ∈ before, (fun b => decide (b < W.heap.size)) p.block = true := fun p hp => by simpa using hW.lt p hp
  have hlt : ∀ p ∈ before, p.block < W.heap.size := fun p hp => hW.lt p hp
  refine ⟨ds, gs, before, [], pa, pv, hW, hres _ _ _, hargs _ hold, hvars _ hold, hb.frame _, fun _ => ?_⟩
  obtain ⟨_, _, _, _, _, hz, hn⟩ := hW
  refine ⟨hok, _, _, ([] ++ pa) ++ pv, ⟨[] ++ pa, pv, trodAll_append (hargs _ (fun _ _ => rfl)) (hres _ _ _), hvars _ (fun _ _ => rfl), rfl, ?_, ?_⟩, ?_⟩
  · intro b off hp
    have hp' : MemPlace.cell b off ∈ before := by rw [hps]; simpa using hp
    rw [hb.frozen (p := ⟨b, off, none⟩) (hlt _ hp')]
    exact hz b off hp'
  · intro ha
    have := hn ha
    rw [hps] at this
    simpa using this
  · intro p hp _
    rw [hps]
    simpa using hp
end Go.Eng

/- The engine, part 22: a new row of a given length. No condition: general lemmas over any program. -/
set_option linter.unusedVariables false
set_option linter.unusedSimpArgs false
namespace Go.Eng
open Go.RowKit (Below)

def mkInfo (P : Program) (t : TypeId) : Option (TypeId × Nat × Value) :=
  match P.underlying t with
  | some (.slice e) => match P.info? e with
    | some i => match i.zero with
      | some z => match z.cells.toList with
        | [v] => bif Nat.beq i.size 1 then some (e, i.bytes, v) else none
        | _ => none
      | none => none
    | none => none
  | _ => none
class HasMk (P : Program) (t : Nat) (x : outParam (Nat × Nat × Value)) : Prop where h : mkInfo P t = some x

section
variable {P : Program} {c : Ctx} {r : Option Nat} {ops : Array Oper} {rest : List Oper} {env : List (Nat × AV)} {H : List Ent} {Q : Exit → Act → World → Prop} {o : Oper} {d : Nat}

end
end Go.Eng

/- The engine, part 23: what a statement's form hands to a call, as the engine's values. No condition: general lemmas over any program. -/
set_option linter.unusedVariables false
set_option linter.unusedSimpArgs false
namespace Go.Eng
open Go.RowKit (Below)
open Go.ChangeShapes Go.WideShapes

/-- every cell that lies there is taken as one that stays -/
def allI (w : World) : Imm := fun b o => ∃ c, w.cell? ⟨b, o, none⟩ = some c
theorem allI_ok (w : World) : WOk w.heap.size (allI w) w := ⟨Nat.le_refl _, fun _ _ h => h⟩

section
variable {H : Type} {enc : TypeId × Value → H} {P : Program} {w : World} {base : Nat} {spare : Nat → Bool} {held : Bool}

/-- what is read at a type, with so much fuel, is so enclosed -/
def Reads (enc : TypeId × Value → H) (P : Program) (w : World) (base : Nat) (spare : Nat → Bool) (held : Bool) (n : Nat) (t : TypeId) {α : Type} (e : α → List AV) : Prop :=
  ∀ fuel, fuel ≤ n → ∀ cs x, DataW.trod enc P w base spare held fuel t cs = some x → ∃ y : α, RelL (allI w) w (e y) cs

theorem Reads.le {n m : Nat} {t : TypeId} {α : Type} {e : α → List AV} (h : Reads enc P w base spare held n t e) (hm : m ≤ n) : Reads enc P w base spare held m t e := fun f hf => h f (Nat.le_trans hf hm)

theorem reads_int {n : Nat} {t : TypeId} (ht : P.underlying t = some (.int .i64)) : Reads enc P w base spare held n t (fun q : Int => [AV.i q]) := fun fuel _ cs x h => by
  obtain ⟨q, rfl, _⟩ := DataW.trod_int ht h
  exact ⟨q, .cons _ _ _ _ (.val _) .nil⟩
theorem cells_all {b o : Nat} : ∀ {xs : List AV} {cs : List Value}, RelL (allI w) w xs cs → (∀ i, i < cs.length → w.cell? ⟨b, o + i, none⟩ = cs[i]?) → Cells (allI w) w b o xs
  | [], cs, _, _ => .nil _ _
  | x :: xs, cs, h, hc => by
    cases h with
    | cons _ v _ vs hx ht =>
      have h0 := hc 0 (by simp)
      simp at h0
      exact .cons _ _ _ _ _ h0 ⟨v, h0⟩ hx (cells_all ht fun i hi => by
        have := hc (i + 1) (by simp; omega)
        rw [Nat.add_assoc, Nat.add_comm 1 i]; simpa using this)

theorem reads_slice {n k : Nat} {t e : TypeId} {α : Type} {en : α → List AV} (ht : P.underlying t = some (.slice e)) (hk : P.cellsOf e = k) (hk0 : 0 < k) (hen : ∀ y, (en y).length = k) (he : Reads enc P w base spare held n e en) :
    Reads enc P w base spare held (n + 1) t (fun l : List α => [AV.sl k (l.map en)]) := fun fuel hf cs x h => by
  rcases DataW.trod_slice ht h with ⟨rfl, _⟩ | ⟨a, len, cap, elems, rest, m, rfl, rfl, rfl, hb, hc, hm, hl, hget, _⟩
  · exact ⟨[], .cons _ _ _ _ (.sl0 _ _ _) .nil⟩
  · have key : ∀ j, j ≤ len → ∃ l : List α, l.length = j ∧ (j = 0 ∨ a.spot = none) ∧ Els (allI w) w k a.block a.off (l.map en) := by
      intro j
      induction j with
      | zero => intro _; exact ⟨[], rfl, .inl rfl, .nil _ _ _⟩
      | succ j ih =>
        intro hj
        obtain ⟨l, h1, h2, h3⟩ := ih (by omega)
        have hg := hget j (by omega)
        rw [List.getElem?_eq_getElem (by omega)] at hg
        obtain ⟨cs', h4, h5⟩ := Option.bind_eq_some_iff.1 hg
        obtain ⟨h6, h7, h8⟩ := World.cells?_some h4
        obtain ⟨y, hy⟩ := he m (by omega) cs' _ h5
        have hlen : cs'.length = k := by rw [h7, hk]
        have hsp : a.spot = none := by
          by_cases hj0 : j = 0
          · have h9 := h8 0 (by omega)
            rw [List.getElem?_eq_getElem (by omega), hj0, Nat.zero_mul] at h9
            have e3 : (a.add 0).add 0 = a := by simp [Addr.add]
            rw [e3] at h9
            cases hs : a.spot with
            | none => rfl
            | some q =>
              exfalso
              unfold World.cell? at h9
              rw [hs] at h9
              split at h9 <;> simp at h9
          · exact h2.resolve_left (by omega)
        refine ⟨l ++ [y], by simp [h1], .inr hsp, ?_⟩
        rw [List.map_append]
        have hcl : Cells (allI w) w a.block (a.off + j * k) (en y) := cells_all hy fun i hi => by
          have h9 := h8 i (by omega)
          have e2 : (a.add (j * P.cellsOf e)).add i = ⟨a.block, a.off + j * k + i, none⟩ := by
            rw [Addr.add_add, hk]
            unfold Addr.add
            split
            · obtain ⟨ab, ao, asp⟩ := a
              simp at hsp; subst hsp; simp; omega
            · simp <;> omega
          rw [e2] at h9; exact h9
        exact h3.append (.cons _ _ _ _ _ (hen y) (by rw [List.length_map, h1]; exact hcl) (.nil _ _ _))
    obtain ⟨l, h1, h2, h3⟩ := key len (Nat.le_refl _)
    refine ⟨l, .cons _ _ _ _ ?_ .nil⟩
    rcases h2 with h2 | h2
    · have : l = [] := List.eq_nil_of_length_eq_zero (by omega)
      subst this h2
      exact .sl0 _ _ _
    · obtain ⟨b, o, sp⟩ := a
      simp at h2; subst h2
      exact .sl _ _ _ _ _ _ (by simp [h1]) hc hm h3

theorem relL_join {I : Imm} {xs ys : List AV} {cs : List Value} {a n m : Nat} (h1 : RelL I w xs ((cs.drop a).take n)) (h2 : RelL I w ys ((cs.drop (a + n)).take m)) : RelL I w (xs ++ ys) ((cs.drop a).take (n + m)) := by
  rw [List.take_add, List.drop_drop]; exact h1.append h2

/-- a struct's cells make one aggregate -/
theorem rel_agg {I : Imm} {xs : List AV} {v : Value} (h : RelL I w xs v.cells.toList) (hn : xs.length ≠ 1) : Rel I w (.agg xs) v := by
  have hl := h.length
  cases v with
  | agg vs => exact .agg _ _ h
  | _ => simp [Value.cells] at hl; omega
end

/-- an argument is behind the call as it was -/
theorem args_stay {H : Type} {enc : TypeId × Value → H} {P : Program} (hl : laidOutB P = true) {W W' : World} (hb : Below W.heap.size W W') {sp : Nat → Bool} :
    ∀ {ts : List TypeId} {vs : List Value} {ds : List (DataW H)} {ps : List MemPlace}, (∀ t ∈ ts, P.readableRec t = true ∧ t < P.types.size) → DataW.TrodAll enc P W 0 (fun _ => true) true ts vs ds ps →
      (∀ p ∈ ps, p.block < W.heap.size) → (∀ p ∈ ps, sp p.block = true) → DataW.TrodAll enc P W' 0 sp true ts vs ds ps
  | [], vs, ds, ps, _, h, _, _ => by
    obtain ⟨rfl, rfl, rfl⟩ := trodAll_nil h
    exact h
  | t :: ts, vs, ds, ps, ht, h, h1, h2 => by
    obtain ⟨v, vs1, d, ds1, a, b, rfl, rfl, rfl, h3, h4⟩ := trodAll_cons h
    have hr := ht t (.head _)
    exact ⟨a, b, Go.WideElems.Trod_stays hl hr.1 hr.2 h3 (fun p hp => hb.same (h1 p (List.mem_append_left _ hp))) (fun p hp => h2 p (List.mem_append_left _ hp)),
      args_stay hl hb (fun t' ht' => ht t' (.tail _ ht')) h4 (fun p hp => h1 p (List.mem_append_right _ hp)) (fun p hp => h2 p (List.mem_append_right _ hp)), rfl⟩
end Go.Eng

/- The engine, part 29: the lines of printed proofs under short names. No condition: general lemmas over any program. -/
set_option linter.unusedVariables false
namespace Go.Eng

section
variable {c : Ctx} {r : Option Nat} {P : Program} {ops : Array Oper} {rest L : List Oper} {o : Oper} {env : List (Nat × AV)} {H : List Ent} {Q : Exit → Act → World → Prop} {x : AV} {d n j k : Nat} {want g : Bool} {K : List (Nat × AV) → Prop}
theorem Omv (next : OL c r P ops rest ⟨(d, x) :: env, H⟩ Q) (s : o.guard = none ∧ o.dst = some d ∧ Nat.blt d c.n = true ∧ POp P H (envGet env) o x := by exact ⟨rfl, rfl, rfl, POp.move rfl rfl rfl⟩) : OL c r P ops (o :: rest) ⟨env, H⟩ Q := OL.popC s.1 s.2.1 s.2.2.1 s.2.2.2 next
theorem Pmv (next : OL c r P ops rest ⟨(d, .opt g x) :: env, H⟩ Q) (s : o.guard = some (j, want) ∧ (ops[j]?).bind (·.dst) = some k ∧ Nat.blt k c.n = true ∧ mkG (envGet env k) want = some g ∧ o.dst = some d ∧ Nat.blt d c.n = true ∧ (g = true → POp P H (envGet env) o x) := by exact ⟨rfl, rfl, rfl, rfl, rfl, rfl, fun hg => POp.move rfl rfl (by first | rfl | exact hg | exact (Bool.and_eq_true_iff.1 hg).1 | exact (Bool.and_eq_true_iff.1 (Bool.and_eq_true_iff.1 hg).1).1 | simp_all)⟩) : OL c r P ops (o :: rest) ⟨env, H⟩ Q := OL.guardC s.1 s.2.1 s.2.2.1 s.2.2.2.1 s.2.2.2.2.1 s.2.2.2.2.2.1 s.2.2.2.2.2.2 next
theorem Amv (next : AD P H L n rest ((d, x) :: env) K) (s : o.guard = none ∧ o.dst = some d ∧ Nat.blt d n = true ∧ POp P H (envGet env) o x := by exact ⟨rfl, rfl, rfl, POp.move rfl rfl rfl⟩) : AD P H L n (o :: rest) env K := AD.popC s.1 s.2.1 s.2.2.1 s.2.2.2 next
theorem Oas (next : OL c r P ops rest ⟨(d, x) :: env, H⟩ Q) (s : o.guard = none ∧ o.dst = some d ∧ Nat.blt d c.n = true ∧ POp P H (envGet env) o x := by exact ⟨rfl, rfl, rfl, POp.assign rfl rfl rfl⟩) : OL c r P ops (o :: rest) ⟨env, H⟩ Q := OL.popC s.1 s.2.1 s.2.2.1 s.2.2.2 next
theorem Aas (next : AD P H L n rest ((d, x) :: env) K) (s : o.guard = none ∧ o.dst = some d ∧ Nat.blt d n = true ∧ POp P H (envGet env) o x := by exact ⟨rfl, rfl, rfl, POp.assign rfl rfl rfl⟩) : AD P H L n (o :: rest) env K := AD.popC s.1 s.2.1 s.2.2.1 s.2.2.2 next
theorem Ola (next : OL c r P ops rest ⟨(d, x) :: env, H⟩ Q) (s : o.guard = none ∧ o.dst = some d ∧ Nat.blt d c.n = true ∧ POp P H (envGet env) o x := by exact ⟨rfl, rfl, rfl, (by first | exact POp.ldA rfl rfl rfl rfl | (apply POp.ldAH rfl rfl rfl; (case hm => repeat (first | exact .head _ | refine .tail _ ?_)); (case hy => rfl); (case hn => rfl)))⟩) : OL c r P ops (o :: rest) ⟨env, H⟩ Q := OL.popC s.1 s.2.1 s.2.2.1 s.2.2.2 next
theorem Pla (next : OL c r P ops rest ⟨(d, .opt g x) :: env, H⟩ Q) (s : o.guard = some (j, want) ∧ (ops[j]?).bind (·.dst) = some k ∧ Nat.blt k c.n = true ∧ mkG (envGet env k) want = some g ∧ o.dst = some d ∧ Nat.blt d c.n = true ∧ (g = true → POp P H (envGet env) o x) := by exact ⟨rfl, rfl, rfl, rfl, rfl, rfl, fun hg => (by first | exact POp.ldA rfl rfl (by first | rfl | exact hg | exact (Bool.and_eq_true_iff.1 hg).1 | exact (Bool.and_eq_true_iff.1 (Bool.and_eq_true_iff.1 hg).1).1 | simp_all) rfl | (apply POp.ldAH rfl rfl (by first | rfl | exact hg | exact (Bool.and_eq_true_iff.1 hg).1 | exact (Bool.and_eq_true_iff.1 (Bool.and_eq_true_iff.1 hg).1).1 | simp_all); (case hm => repeat (first | exact .head _ | refine .tail _ ?_)); (case hy => rfl); (case hn => rfl)))⟩) : OL c r P ops (o :: rest) ⟨env, H⟩ Q := OL.guardC s.1 s.2.1 s.2.2.1 s.2.2.2.1 s.2.2.2.2.1 s.2.2.2.2.2.1 s.2.2.2.2.2.2 next
theorem Ala (next : AD P H L n rest ((d, x) :: env) K) (s : o.guard = none ∧ o.dst = some d ∧ Nat.blt d n = true ∧ POp P H (envGet env) o x := by exact ⟨rfl, rfl, rfl, (by first | exact POp.ldA rfl rfl rfl rfl | (apply POp.ldAH rfl rfl rfl; (case hm => repeat (first | exact .head _ | refine .tail _ ?_)); (case hy => rfl); (case hn => rfl)))⟩) : AD P H L n (o :: rest) env K := AD.popC s.1 s.2.1 s.2.2.1 s.2.2.2 next
theorem Old (next : OL c r P ops rest ⟨(d, x) :: env, H⟩ Q) (s : o.guard = none ∧ o.dst = some d ∧ Nat.blt d c.n = true ∧ POp P H (envGet env) o x := by exact ⟨rfl, rfl, rfl, (by first | exact POp.ld1 rfl rfl rfl rfl | (apply POp.ld1H rfl rfl rfl; (case hm => repeat (first | exact .head _ | refine .tail _ ?_)); (case hy => rfl)))⟩) : OL c r P ops (o :: rest) ⟨env, H⟩ Q := OL.popC s.1 s.2.1 s.2.2.1 s.2.2.2 next
theorem Pld (next : OL c r P ops rest ⟨(d, .opt g x) :: env, H⟩ Q) (s : o.guard = some (j, want) ∧ (ops[j]?).bind (·.dst) = some k ∧ Nat.blt k c.n = true ∧ mkG (envGet env k) want = some g ∧ o.dst = some d ∧ Nat.blt d c.n = true ∧ (g = true → POp P H (envGet env) o x) := by exact ⟨rfl, rfl, rfl, rfl, rfl, rfl, fun hg => (by first | exact POp.ld1 rfl rfl (by first | rfl | exact hg | exact (Bool.and_eq_true_iff.1 hg).1 | exact (Bool.and_eq_true_iff.1 (Bool.and_eq_true_iff.1 hg).1).1 | simp_all) rfl | (apply POp.ld1H rfl rfl (by first | rfl | exact hg | exact (Bool.and_eq_true_iff.1 hg).1 | exact (Bool.and_eq_true_iff.1 (Bool.and_eq_true_iff.1 hg).1).1 | simp_all); (case hm => repeat (first | exact .head _ | refine .tail _ ?_)); (case hy => rfl)))⟩) : OL c r P ops (o :: rest) ⟨env, H⟩ Q := OL.guardC s.1 s.2.1 s.2.2.1 s.2.2.2.1 s.2.2.2.2.1 s.2.2.2.2.2.1 s.2.2.2.2.2.2 next
theorem Ald (next : AD P H L n rest ((d, x) :: env) K) (s : o.guard = none ∧ o.dst = some d ∧ Nat.blt d n = true ∧ POp P H (envGet env) o x := by exact ⟨rfl, rfl, rfl, (by first | exact POp.ld1 rfl rfl rfl rfl | (apply POp.ld1H rfl rfl rfl; (case hm => repeat (first | exact .head _ | refine .tail _ ?_)); (case hy => rfl)))⟩) : AD P H L n (o :: rest) env K := AD.popC s.1 s.2.1 s.2.2.1 s.2.2.2 next
theorem Ofa (next : OL c r P ops rest ⟨(d, x) :: env, H⟩ Q) (s : o.guard = none ∧ o.dst = some d ∧ Nat.blt d c.n = true ∧ POp P H (envGet env) o x := by exact ⟨rfl, rfl, rfl, (by first | exact POp.fa rfl rfl rfl rfl | exact POp.faP rfl rfl rfl rfl)⟩) : OL c r P ops (o :: rest) ⟨env, H⟩ Q := OL.popC s.1 s.2.1 s.2.2.1 s.2.2.2 next
theorem Pfa (next : OL c r P ops rest ⟨(d, .opt g x) :: env, H⟩ Q) (s : o.guard = some (j, want) ∧ (ops[j]?).bind (·.dst) = some k ∧ Nat.blt k c.n = true ∧ mkG (envGet env k) want = some g ∧ o.dst = some d ∧ Nat.blt d c.n = true ∧ (g = true → POp P H (envGet env) o x) := by exact ⟨rfl, rfl, rfl, rfl, rfl, rfl, fun hg => (by first | exact POp.fa rfl rfl (by first | rfl | exact hg | exact (Bool.and_eq_true_iff.1 hg).1 | exact (Bool.and_eq_true_iff.1 (Bool.and_eq_true_iff.1 hg).1).1 | simp_all) rfl | exact POp.faP rfl rfl (by first | rfl | exact hg | exact (Bool.and_eq_true_iff.1 hg).1 | exact (Bool.and_eq_true_iff.1 (Bool.and_eq_true_iff.1 hg).1).1 | simp_all) rfl)⟩) : OL c r P ops (o :: rest) ⟨env, H⟩ Q := OL.guardC s.1 s.2.1 s.2.2.1 s.2.2.2.1 s.2.2.2.2.1 s.2.2.2.2.2.1 s.2.2.2.2.2.2 next
theorem Afa (next : AD P H L n rest ((d, x) :: env) K) (s : o.guard = none ∧ o.dst = some d ∧ Nat.blt d n = true ∧ POp P H (envGet env) o x := by exact ⟨rfl, rfl, rfl, (by first | exact POp.fa rfl rfl rfl rfl | exact POp.faP rfl rfl rfl rfl)⟩) : AD P H L n (o :: rest) env K := AD.popC s.1 s.2.1 s.2.2.1 s.2.2.2 next
theorem Ocm (next : OL c r P ops rest ⟨(d, x) :: env, H⟩ Q) (s : o.guard = none ∧ o.dst = some d ∧ Nat.blt d c.n = true ∧ POp P H (envGet env) o x := by exact ⟨rfl, rfl, rfl, POp.cmp rfl rfl rfl rfl rfl rfl⟩) : OL c r P ops (o :: rest) ⟨env, H⟩ Q := OL.popC s.1 s.2.1 s.2.2.1 s.2.2.2 next
theorem Pcm (next : OL c r P ops rest ⟨(d, .opt g x) :: env, H⟩ Q) (s : o.guard = some (j, want) ∧ (ops[j]?).bind (·.dst) = some k ∧ Nat.blt k c.n = true ∧ mkG (envGet env k) want = some g ∧ o.dst = some d ∧ Nat.blt d c.n = true ∧ (g = true → POp P H (envGet env) o x) := by exact ⟨rfl, rfl, rfl, rfl, rfl, rfl, fun hg => POp.cmp rfl rfl rfl (by first | rfl | exact hg | exact (Bool.and_eq_true_iff.1 hg).1 | exact (Bool.and_eq_true_iff.1 (Bool.and_eq_true_iff.1 hg).1).1 | simp_all) (by first | rfl | exact hg | exact (Bool.and_eq_true_iff.1 hg).1 | exact (Bool.and_eq_true_iff.1 (Bool.and_eq_true_iff.1 hg).1).1 | simp_all) rfl⟩) : OL c r P ops (o :: rest) ⟨env, H⟩ Q := OL.guardC s.1 s.2.1 s.2.2.1 s.2.2.2.1 s.2.2.2.2.1 s.2.2.2.2.2.1 s.2.2.2.2.2.2 next
theorem Oex (next : OL c r P ops rest ⟨(d, x) :: env, H⟩ Q) (s : o.guard = none ∧ o.dst = some d ∧ Nat.blt d c.n = true ∧ POp P H (envGet env) o x := by exact ⟨rfl, rfl, rfl, POp.extract rfl rfl rfl rfl⟩) : OL c r P ops (o :: rest) ⟨env, H⟩ Q := OL.popC s.1 s.2.1 s.2.2.1 s.2.2.2 next
theorem Aex (next : AD P H L n rest ((d, x) :: env) K) (s : o.guard = none ∧ o.dst = some d ∧ Nat.blt d n = true ∧ POp P H (envGet env) o x := by exact ⟨rfl, rfl, rfl, POp.extract rfl rfl rfl rfl⟩) : AD P H L n (o :: rest) env K := AD.popC s.1 s.2.1 s.2.2.1 s.2.2.2 next
theorem Ont (next : OL c r P ops rest ⟨(d, x) :: env, H⟩ Q) (s : o.guard = none ∧ o.dst = some d ∧ Nat.blt d c.n = true ∧ POp P H (envGet env) o x := by exact ⟨rfl, rfl, rfl, POp.not rfl rfl rfl⟩) : OL c r P ops (o :: rest) ⟨env, H⟩ Q := OL.popC s.1 s.2.1 s.2.2.1 s.2.2.2 next
theorem Pnt (next : OL c r P ops rest ⟨(d, .opt g x) :: env, H⟩ Q) (s : o.guard = some (j, want) ∧ (ops[j]?).bind (·.dst) = some k ∧ Nat.blt k c.n = true ∧ mkG (envGet env k) want = some g ∧ o.dst = some d ∧ Nat.blt d c.n = true ∧ (g = true → POp P H (envGet env) o x) := by exact ⟨rfl, rfl, rfl, rfl, rfl, rfl, fun hg => POp.not rfl rfl (by first | rfl | exact hg | exact (Bool.and_eq_true_iff.1 hg).1 | exact (Bool.and_eq_true_iff.1 (Bool.and_eq_true_iff.1 hg).1).1 | simp_all)⟩) : OL c r P ops (o :: rest) ⟨env, H⟩ Q := OL.guardC s.1 s.2.1 s.2.2.1 s.2.2.2.1 s.2.2.2.2.1 s.2.2.2.2.2.1 s.2.2.2.2.2.2 next
theorem Ant (next : AD P H L n rest ((d, x) :: env) K) (s : o.guard = none ∧ o.dst = some d ∧ Nat.blt d n = true ∧ POp P H (envGet env) o x := by exact ⟨rfl, rfl, rfl, POp.not rfl rfl rfl⟩) : AD P H L n (o :: rest) env K := AD.popC s.1 s.2.1 s.2.2.1 s.2.2.2 next
theorem Oar (next : OL c r P ops rest ⟨(d, x) :: env, H⟩ Q) (s : o.guard = none ∧ o.dst = some d ∧ Nat.blt d c.n = true ∧ POp P H (envGet env) o x := by exact ⟨rfl, rfl, rfl, POp.arith rfl rfl rfl rfl rfl rfl (wrap64 (by omega))⟩) : OL c r P ops (o :: rest) ⟨env, H⟩ Q := OL.popC s.1 s.2.1 s.2.2.1 s.2.2.2 next
theorem Par (next : OL c r P ops rest ⟨(d, .opt g x) :: env, H⟩ Q) (s : o.guard = some (j, want) ∧ (ops[j]?).bind (·.dst) = some k ∧ Nat.blt k c.n = true ∧ mkG (envGet env k) want = some g ∧ o.dst = some d ∧ Nat.blt d c.n = true ∧ (g = true → POp P H (envGet env) o x) := by exact ⟨rfl, rfl, rfl, rfl, rfl, rfl, fun hg => POp.arith rfl rfl rfl (by first | rfl | exact hg | exact (Bool.and_eq_true_iff.1 hg).1 | exact (Bool.and_eq_true_iff.1 (Bool.and_eq_true_iff.1 hg).1).1 | simp_all) (by first | rfl | exact hg | exact (Bool.and_eq_true_iff.1 hg).1 | exact (Bool.and_eq_true_iff.1 (Bool.and_eq_true_iff.1 hg).1).1 | simp_all) rfl (wrap64 (by omega))⟩) : OL c r P ops (o :: rest) ⟨env, H⟩ Q := OL.guardC s.1 s.2.1 s.2.2.1 s.2.2.2.1 s.2.2.2.2.1 s.2.2.2.2.2.1 s.2.2.2.2.2.2 next
theorem Oln (next : OL c r P ops rest ⟨(d, x) :: env, H⟩ Q) (s : o.guard = none ∧ o.dst = some d ∧ Nat.blt d c.n = true ∧ POp P H (envGet env) o x := by exact ⟨rfl, rfl, rfl, (by first | exact POp.lenM rfl rfl rfl | exact POp.lenA rfl rfl rfl | exact POp.lenV rfl rfl rfl | exact POp.len' rfl rfl rfl)⟩) : OL c r P ops (o :: rest) ⟨env, H⟩ Q := OL.popC s.1 s.2.1 s.2.2.1 s.2.2.2 next
theorem Pln (next : OL c r P ops rest ⟨(d, .opt g x) :: env, H⟩ Q) (s : o.guard = some (j, want) ∧ (ops[j]?).bind (·.dst) = some k ∧ Nat.blt k c.n = true ∧ mkG (envGet env k) want = some g ∧ o.dst = some d ∧ Nat.blt d c.n = true ∧ (g = true → POp P H (envGet env) o x) := by exact ⟨rfl, rfl, rfl, rfl, rfl, rfl, fun hg => (by first | exact POp.lenM rfl rfl (by first | rfl | exact hg | exact (Bool.and_eq_true_iff.1 hg).1 | exact (Bool.and_eq_true_iff.1 (Bool.and_eq_true_iff.1 hg).1).1 | simp_all) | exact POp.lenA rfl rfl (by first | rfl | exact hg | exact (Bool.and_eq_true_iff.1 hg).1 | exact (Bool.and_eq_true_iff.1 (Bool.and_eq_true_iff.1 hg).1).1 | simp_all) | exact POp.lenV rfl rfl (by first | rfl | exact hg | exact (Bool.and_eq_true_iff.1 hg).1 | exact (Bool.and_eq_true_iff.1 (Bool.and_eq_true_iff.1 hg).1).1 | simp_all) | exact POp.len' rfl rfl (by first | rfl | exact hg | exact (Bool.and_eq_true_iff.1 hg).1 | exact (Bool.and_eq_true_iff.1 (Bool.and_eq_true_iff.1 hg).1).1 | simp_all))⟩) : OL c r P ops (o :: rest) ⟨env, H⟩ Q := OL.guardC s.1 s.2.1 s.2.2.1 s.2.2.2.1 s.2.2.2.2.1 s.2.2.2.2.2.1 s.2.2.2.2.2.2 next
theorem Aln (next : AD P H L n rest ((d, x) :: env) K) (s : o.guard = none ∧ o.dst = some d ∧ Nat.blt d n = true ∧ POp P H (envGet env) o x := by exact ⟨rfl, rfl, rfl, (by first | exact POp.lenM rfl rfl rfl | exact POp.lenA rfl rfl rfl | exact POp.lenV rfl rfl rfl | exact POp.len' rfl rfl rfl)⟩) : AD P H L n (o :: rest) env K := AD.popC s.1 s.2.1 s.2.2.1 s.2.2.2 next
theorem Onc (next : OL c r P ops rest ⟨(d, x) :: env, H⟩ Q) (s : o.guard = none ∧ o.dst = some d ∧ Nat.blt d c.n = true ∧ POp P H (envGet env) o x := by exact ⟨rfl, rfl, rfl, (by first | exact POp.nilCheck rfl rfl rfl | exact POp.nilCheckP rfl rfl rfl | exact POp.nilCheckF rfl rfl rfl)⟩) : OL c r P ops (o :: rest) ⟨env, H⟩ Q := OL.popC s.1 s.2.1 s.2.2.1 s.2.2.2 next
theorem Pnc (next : OL c r P ops rest ⟨(d, .opt g x) :: env, H⟩ Q) (s : o.guard = some (j, want) ∧ (ops[j]?).bind (·.dst) = some k ∧ Nat.blt k c.n = true ∧ mkG (envGet env k) want = some g ∧ o.dst = some d ∧ Nat.blt d c.n = true ∧ (g = true → POp P H (envGet env) o x) := by exact ⟨rfl, rfl, rfl, rfl, rfl, rfl, fun hg => (by first | exact POp.nilCheck rfl rfl (by first | rfl | exact hg | exact (Bool.and_eq_true_iff.1 hg).1 | exact (Bool.and_eq_true_iff.1 (Bool.and_eq_true_iff.1 hg).1).1 | simp_all) | exact POp.nilCheckP rfl rfl (by first | rfl | exact hg | exact (Bool.and_eq_true_iff.1 hg).1 | exact (Bool.and_eq_true_iff.1 (Bool.and_eq_true_iff.1 hg).1).1 | simp_all) | exact POp.nilCheckF rfl rfl (by first | rfl | exact hg | exact (Bool.and_eq_true_iff.1 hg).1 | exact (Bool.and_eq_true_iff.1 (Bool.and_eq_true_iff.1 hg).1).1 | simp_all))⟩) : OL c r P ops (o :: rest) ⟨env, H⟩ Q := OL.guardC s.1 s.2.1 s.2.2.1 s.2.2.2.1 s.2.2.2.2.1 s.2.2.2.2.2.1 s.2.2.2.2.2.2 next
theorem Anc (next : AD P H L n rest ((d, x) :: env) K) (s : o.guard = none ∧ o.dst = some d ∧ Nat.blt d n = true ∧ POp P H (envGet env) o x := by exact ⟨rfl, rfl, rfl, (by first | exact POp.nilCheck rfl rfl rfl | exact POp.nilCheckP rfl rfl rfl | exact POp.nilCheckF rfl rfl rfl)⟩) : AD P H L n (o :: rest) env K := AD.popC s.1 s.2.1 s.2.2.1 s.2.2.2 next
theorem Obd (next : OL c r P ops rest ⟨(d, x) :: env, H⟩ Q) (s : o.guard = none ∧ o.dst = some d ∧ Nat.blt d c.n = true ∧ POp P H (envGet env) o x := by exact ⟨rfl, rfl, rfl, POp.build' rfl rfl (by first | rfl | simp_all [strip]) rfl⟩) : OL c r P ops (o :: rest) ⟨env, H⟩ Q := OL.popC s.1 s.2.1 s.2.2.1 s.2.2.2 next
theorem Oeb (next : OL c r P ops rest ⟨(d, x) :: env, H⟩ Q) (s : o.guard = none ∧ o.dst = some d ∧ Nat.blt d c.n = true ∧ POp P H (envGet env) o x := by exact ⟨rfl, rfl, rfl, POp.eqB (op := .eql) rfl rfl rfl rfl rfl⟩) : OL c r P ops (o :: rest) ⟨env, H⟩ Q := OL.popC s.1 s.2.1 s.2.2.1 s.2.2.2 next
theorem Peb (next : OL c r P ops rest ⟨(d, .opt g x) :: env, H⟩ Q) (s : o.guard = some (j, want) ∧ (ops[j]?).bind (·.dst) = some k ∧ Nat.blt k c.n = true ∧ mkG (envGet env k) want = some g ∧ o.dst = some d ∧ Nat.blt d c.n = true ∧ (g = true → POp P H (envGet env) o x) := by exact ⟨rfl, rfl, rfl, rfl, rfl, rfl, fun hg => POp.eqB (op := .eql) rfl rfl (by first | rfl | exact hg | exact (Bool.and_eq_true_iff.1 hg).1 | exact (Bool.and_eq_true_iff.1 (Bool.and_eq_true_iff.1 hg).1).1 | simp_all) rfl (by first | rfl | exact hg | exact (Bool.and_eq_true_iff.1 hg).1 | exact (Bool.and_eq_true_iff.1 (Bool.and_eq_true_iff.1 hg).1).1 | simp_all)⟩) : OL c r P ops (o :: rest) ⟨env, H⟩ Q := OL.guardC s.1 s.2.1 s.2.2.1 s.2.2.2.1 s.2.2.2.2.1 s.2.2.2.2.2.1 s.2.2.2.2.2.2 next
theorem Opk (next : OL c r P ops rest ⟨(d, x) :: env, H⟩ Q) (s : o.guard = none ∧ o.dst = some d ∧ Nat.blt d c.n = true ∧ POp P H (envGet env) o x := by exact ⟨rfl, rfl, rfl, POp.pick rfl rfl rfl rfl rfl (by first | exact fun _ => rfl | exact fun h => h | (intro h; rw [h]; rfl) | (intro h; simp_all)) (by first | exact fun _ => rfl | exact fun h => h | (intro h; rw [h]; rfl) | (intro h; simp_all))⟩) : OL c r P ops (o :: rest) ⟨env, H⟩ Q := OL.popC s.1 s.2.1 s.2.2.1 s.2.2.2 next
theorem Ppk (next : OL c r P ops rest ⟨(d, .opt g x) :: env, H⟩ Q) (s : o.guard = some (j, want) ∧ (ops[j]?).bind (·.dst) = some k ∧ Nat.blt k c.n = true ∧ mkG (envGet env k) want = some g ∧ o.dst = some d ∧ Nat.blt d c.n = true ∧ (g = true → POp P H (envGet env) o x) := by exact ⟨rfl, rfl, rfl, rfl, rfl, rfl, fun hg => POp.pick rfl rfl (by first | rfl | exact hg | exact (Bool.and_eq_true_iff.1 hg).1 | exact (Bool.and_eq_true_iff.1 (Bool.and_eq_true_iff.1 hg).1).1 | simp_all) rfl rfl (by first | exact fun _ => rfl | exact fun h => h | (intro h; rw [h]; rfl) | (intro h; simp_all)) (by first | exact fun _ => rfl | exact fun h => h | (intro h; rw [h]; rfl) | (intro h; simp_all))⟩) : OL c r P ops (o :: rest) ⟨env, H⟩ Q := OL.guardC s.1 s.2.1 s.2.2.1 s.2.2.2.1 s.2.2.2.2.1 s.2.2.2.2.2.1 s.2.2.2.2.2.2 next
theorem Obx (next : OL c r P ops rest ⟨(d, x) :: env, H⟩ Q) (s : o.guard = none ∧ o.dst = some d ∧ Nat.blt d c.n = true ∧ POp P H (envGet env) o x := by exact ⟨rfl, rfl, rfl, POp.boxI rfl rfl rfl rfl⟩) : OL c r P ops (o :: rest) ⟨env, H⟩ Q := OL.popC s.1 s.2.1 s.2.2.1 s.2.2.2 next
theorem Or0 (next : OL c r P ops rest ⟨(d, x) :: env, H⟩ Q) (s : o.guard = none ∧ o.dst = some d ∧ Nat.blt d c.n = true ∧ POp P H (envGet env) o x := by exact ⟨rfl, rfl, rfl, POp.row0 rfl⟩) : OL c r P ops (o :: rest) ⟨env, H⟩ Q := OL.popC s.1 s.2.1 s.2.2.1 s.2.2.2 next
theorem Oix (next : OL c r P ops rest ⟨(d, x) :: env, H⟩ Q) (s : o.guard = none ∧ o.dst = some d ∧ Nat.blt d c.n = true ∧ POp P H (envGet env) o x := by exact ⟨rfl, rfl, rfl, (by first | exact POp.ixM rfl rfl rfl rfl rfl (by omega) | exact POp.ixI rfl rfl rfl rfl rfl (by omega))⟩) : OL c r P ops (o :: rest) ⟨env, H⟩ Q := OL.popC s.1 s.2.1 s.2.2.1 s.2.2.2 next
theorem Pix (next : OL c r P ops rest ⟨(d, .opt g x) :: env, H⟩ Q) (s : o.guard = some (j, want) ∧ (ops[j]?).bind (·.dst) = some k ∧ Nat.blt k c.n = true ∧ mkG (envGet env k) want = some g ∧ o.dst = some d ∧ Nat.blt d c.n = true ∧ (g = true → POp P H (envGet env) o x) := by exact ⟨rfl, rfl, rfl, rfl, rfl, rfl, fun hg => (by first | exact POp.ixM rfl rfl (by first | rfl | exact hg | exact (Bool.and_eq_true_iff.1 hg).1 | exact (Bool.and_eq_true_iff.1 (Bool.and_eq_true_iff.1 hg).1).1 | simp_all) rfl (by first | rfl | exact hg | exact (Bool.and_eq_true_iff.1 hg).1 | exact (Bool.and_eq_true_iff.1 (Bool.and_eq_true_iff.1 hg).1).1 | simp_all) (by omega) | exact POp.ixI rfl rfl (by first | rfl | exact hg | exact (Bool.and_eq_true_iff.1 hg).1 | exact (Bool.and_eq_true_iff.1 (Bool.and_eq_true_iff.1 hg).1).1 | simp_all) rfl (by first | rfl | exact hg | exact (Bool.and_eq_true_iff.1 hg).1 | exact (Bool.and_eq_true_iff.1 (Bool.and_eq_true_iff.1 hg).1).1 | simp_all) (by omega))⟩) : OL c r P ops (o :: rest) ⟨env, H⟩ Q := OL.guardC s.1 s.2.1 s.2.2.1 s.2.2.2.1 s.2.2.2.2.1 s.2.2.2.2.2.1 s.2.2.2.2.2.2 next
theorem Aix (next : AD P H L n rest ((d, x) :: env) K) (s : o.guard = none ∧ o.dst = some d ∧ Nat.blt d n = true ∧ POp P H (envGet env) o x := by exact ⟨rfl, rfl, rfl, (by first | exact POp.ixM rfl rfl rfl rfl rfl (by omega) | exact POp.ixI rfl rfl rfl rfl rfl (by omega))⟩) : AD P H L n (o :: rest) env K := AD.popC s.1 s.2.1 s.2.2.1 s.2.2.2 next
theorem Oia (next : OL c r P ops rest ⟨(d, x) :: env, H⟩ Q) (s : o.guard = none ∧ o.dst = some d ∧ Nat.blt d c.n = true ∧ POp P H (envGet env) o x := by exact ⟨rfl, rfl, rfl, (by first | exact POp.ia rfl rfl rfl rfl rfl (by omega) | exact POp.iaP rfl rfl rfl rfl rfl (by omega))⟩) : OL c r P ops (o :: rest) ⟨env, H⟩ Q := OL.popC s.1 s.2.1 s.2.2.1 s.2.2.2 next
theorem Omf (next : OL c r P ops rest ⟨(d, x) :: env, H⟩ Q) (s : o.guard = none ∧ o.dst = some d ∧ Nat.blt d c.n = true ∧ POp P H (envGet env) o x := by exact ⟨rfl, rfl, rfl, POp.makeFunc rfl rfl rfl (by first | rfl | simp_all [strip]) (by first | rfl | simp_all [strip])⟩) : OL c r P ops (o :: rest) ⟨env, H⟩ Q := OL.popC s.1 s.2.1 s.2.2.1 s.2.2.2 next
theorem Pmf (next : OL c r P ops rest ⟨(d, .opt g x) :: env, H⟩ Q) (s : o.guard = some (j, want) ∧ (ops[j]?).bind (·.dst) = some k ∧ Nat.blt k c.n = true ∧ mkG (envGet env k) want = some g ∧ o.dst = some d ∧ Nat.blt d c.n = true ∧ (g = true → POp P H (envGet env) o x) := by exact ⟨rfl, rfl, rfl, rfl, rfl, rfl, fun hg => POp.makeFunc rfl rfl rfl (by first | rfl | simp_all [strip]) (by first | rfl | simp_all [strip])⟩) : OL c r P ops (o :: rest) ⟨env, H⟩ Q := OL.guardC s.1 s.2.1 s.2.2.1 s.2.2.2.1 s.2.2.2.2.1 s.2.2.2.2.2.1 s.2.2.2.2.2.2 next
theorem Amf (next : AD P H L n rest ((d, x) :: env) K) (s : o.guard = none ∧ o.dst = some d ∧ Nat.blt d n = true ∧ POp P H (envGet env) o x := by exact ⟨rfl, rfl, rfl, POp.makeFunc rfl rfl rfl (by first | rfl | simp_all [strip]) (by first | rfl | simp_all [strip])⟩) : AD P H L n (o :: rest) env K := AD.popC s.1 s.2.1 s.2.2.1 s.2.2.2 next
end
/-- what is left to show, kept from the eyes of the proofs of side conditions -/
structure Hid (p : Prop) : Prop where
  out : p
/-- one step on the way from operation to operation; which one, the code says -/
theorem S1 {goal next : Prop} (k : next) (h : Hid next → goal := by
    intro k
    first
      | with_reducible refine Done.seq ?_
      | with_reducible refine CW.seq ?_
      | with_reducible refine CW.region ?_
      | with_reducible refine OL.nil ?_
      | with_reducible refine CW.skip ?_
      | with_reducible refine CW.ret ?_
      | with_reducible refine CW.block ?_
      | with_reducible refine CW.exit ?_
      | with_reducible refine Done.thenRet ?_
      | with_reducible refine Done.thenExit ?_
      | with_reducible refine Done.blkNormal ?_
      | with_reducible refine Done.blkRet ?_
      | with_reducible refine Done.blkExit ?_
      | refine Done.blkOther rfl ?_
    exact k.out) : goal := h ⟨k⟩
theorem S2 {goal next : Prop} (k : next) (h : Hid next → goal := by
    intro k
    iterate 2 refine S1 ?_
    exact k.out) : goal := h ⟨k⟩
theorem S3 {goal next : Prop} (k : next) (h : Hid next → goal := by
    intro k
    iterate 3 refine S1 ?_
    exact k.out) : goal := h ⟨k⟩
theorem S4 {goal next : Prop} (k : next) (h : Hid next → goal := by
    intro k
    iterate 4 refine S1 ?_
    exact k.out) : goal := h ⟨k⟩
theorem S5 {goal next : Prop} (k : next) (h : Hid next → goal := by
    intro k
    iterate 5 refine S1 ?_
    exact k.out) : goal := h ⟨k⟩
theorem S6 {goal next : Prop} (k : next) (h : Hid next → goal := by
    intro k
    iterate 6 refine S1 ?_
    exact k.out) : goal := h ⟨k⟩
theorem S7 {goal next : Prop} (k : next) (h : Hid next → goal := by
    intro k
    iterate 7 refine S1 ?_
    exact k.out) : goal := h ⟨k⟩
theorem S8 {goal next : Prop} (k : next) (h : Hid next → goal := by
    intro k
    iterate 8 refine S1 ?_
    exact k.out) : goal := h ⟨k⟩
theorem S9 {goal next : Prop} (k : next) (h : Hid next → goal := by
    intro k
    iterate 9 refine S1 ?_
    exact k.out) : goal := h ⟨k⟩
theorem S10 {goal next : Prop} (k : next) (h : Hid next → goal := by
    intro k
    iterate 10 refine S1 ?_
    exact k.out) : goal := h ⟨k⟩
theorem S11 {goal next : Prop} (k : next) (h : Hid next → goal := by
    intro k
    iterate 11 refine S1 ?_
    exact k.out) : goal := h ⟨k⟩
theorem S12 {goal next : Prop} (k : next) (h : Hid next → goal := by
    intro k
    iterate 12 refine S1 ?_
    exact k.out) : goal := h ⟨k⟩
theorem S13 {goal next : Prop} (k : next) (h : Hid next → goal := by
    intro k
    iterate 13 refine S1 ?_
    exact k.out) : goal := h ⟨k⟩
theorem S14 {goal next : Prop} (k : next) (h : Hid next → goal := by
    intro k
    iterate 14 refine S1 ?_
    exact k.out) : goal := h ⟨k⟩
theorem S15 {goal next : Prop} (k : next) (h : Hid next → goal := by
    intro k
    iterate 15 refine S1 ?_
    exact k.out) : goal := h ⟨k⟩
theorem S16 {goal next : Prop} (k : next) (h : Hid next → goal := by
    intro k
    iterate 16 refine S1 ?_
    exact k.out) : goal := h ⟨k⟩
theorem S17 {goal next : Prop} (k : next) (h : Hid next → goal := by
    intro k
    iterate 17 refine S1 ?_
    exact k.out) : goal := h ⟨k⟩
theorem S18 {goal next : Prop} (k : next) (h : Hid next → goal := by
    intro k
    iterate 18 refine S1 ?_
    exact k.out) : goal := h ⟨k⟩
theorem S19 {goal next : Prop} (k : next) (h : Hid next → goal := by
    intro k
    iterate 19 refine S1 ?_
    exact k.out) : goal := h ⟨k⟩
theorem S20 {goal next : Prop} (k : next) (h : Hid next → goal := by
    intro k
    iterate 20 refine S1 ?_
    exact k.out) : goal := h ⟨k⟩
theorem S21 {goal next : Prop} (k : next) (h : Hid next → goal := by
    intro k
    iterate 21 refine S1 ?_
    exact k.out) : goal := h ⟨k⟩
theorem S22 {goal next : Prop} (k : next) (h : Hid next → goal := by
    intro k
    iterate 22 refine S1 ?_
    exact k.out) : goal := h ⟨k⟩
theorem S23 {goal next : Prop} (k : next) (h : Hid next → goal := by
    intro k
    iterate 23 refine S1 ?_
    exact k.out) : goal := h ⟨k⟩
theorem S24 {goal next : Prop} (k : next) (h : Hid next → goal := by
    intro k
    iterate 24 refine S1 ?_
    exact k.out) : goal := h ⟨k⟩
theorem S25 {goal next : Prop} (k : next) (h : Hid next → goal := by
    intro k
    iterate 25 refine S1 ?_
    exact k.out) : goal := h ⟨k⟩
theorem S26 {goal next : Prop} (k : next) (h : Hid next → goal := by
    intro k
    iterate 26 refine S1 ?_
    exact k.out) : goal := h ⟨k⟩
theorem S27 {goal next : Prop} (k : next) (h : Hid next → goal := by
    intro k
    iterate 27 refine S1 ?_
    exact k.out) : goal := h ⟨k⟩
theorem S28 {goal next : Prop} (k : next) (h : Hid next → goal := by
    intro k
    iterate 28 refine S1 ?_
    exact k.out) : goal := h ⟨k⟩
theorem S29 {goal next : Prop} (k : next) (h : Hid next → goal := by
    intro k
    iterate 29 refine S1 ?_
    exact k.out) : goal := h ⟨k⟩
theorem S30 {goal next : Prop} (k : next) (h : Hid next → goal := by
    intro k
    iterate 30 refine S1 ?_
    exact k.out) : goal := h ⟨k⟩
/-- a store -/
theorem Sto {goal next : Prop} (k : next) (h : Hid next → goal := by
    intro k
    apply OL.stoC rfl rfl rfl rfl rfl rfl rfl rfl rfl rfl; (case hu => repeat (first | exact Upd.head _ _ _ | apply Upd.tail)); (case hfit => rfl); (case hds => rfl)
    exact k.out) : goal := h ⟨k⟩
theorem gd {G p : Prop} (hg : G) (h : G → p := by
    intro hg
    first | rfl | exact hg | exact (Bool.and_eq_true_iff.1 hg).1 | exact (Bool.and_eq_true_iff.1 (Bool.and_eq_true_iff.1 hg).1).1 | simp_all) : p := h hg
/-- what a condition says, in the usual form -/
theorem nm {p q : Prop} (h : p) (s : p → q := by
    intro h
    first
      | (simp only [decide_eq_true_eq, decide_eq_false_iff_not, beq_iff_eq, bne_iff_ne, ne_eq, Int.not_lt, Int.not_le, beq_eq_false_iff_ne, gt_iff_lt, ge_iff_le, Bool.not_eq_true, Bool.not_eq_false, Bool.not_eq_false', bne_eq_false_iff_eq] at h; exact h)
      | exact h) : q := s h
section
variable {c : Ctx} {r : Option Nat} {P : Program} {Q : Exit → Act → World → Prop} {st : St}
theorem lj (J : Nat → Go.Eng.St → Prop) {p : Code} {m : Nat} {st' : Go.Eng.St} (hJ : J m st')
    (round : ∀ m st', J m st' → CW c r P p st' (Exit.then (fun a w => ∃ m' st'', m' < m ∧ J m' st'' ∧ Sat c st'' a w) Q))
    (he : envLe st'.env st.env := by repeat (first | exact trivial | refine ⟨rfl, ?_⟩))
    (hH : st'.H.Sublist st.H := by repeat (first | exact List.Sublist.refl _ | refine List.Sublist.cons _ ?_)) : CW c r P (.loop p) st Q :=
  CW.loopJ J ⟨m, st', hJ, he, hH⟩ round
theorem ag {J : Nat → Go.Eng.St → Prop} {m m' : Nat} {st' : Go.Eng.St} (hJ : J m' st') (hm : m' < m := by omega) (he : envLe st'.env st.env := by repeat (first | exact trivial | refine ⟨rfl, ?_⟩))
    (hH : st'.H.Sublist st.H := by repeat (first | exact List.Sublist.refl _ | refine List.Sublist.cons _ ?_)) : Done c st .normal (Exit.then (fun a w => ∃ m' st'', m' < m ∧ J m' st'' ∧ Sat c st'' a w) Q) :=
  Done.againJ hJ hm he hH
theorem r1 {fn : Func} {B : Nat} {I0 : Imm} {w0 : World} {n : Nat} {Φ : AV → List Ent → Prop} {E : AV → Prop} (t : Nat) (H' : List Ent) {y : AV} (hΦ : Φ (tupOf [y]) H') (hr : fn.results = #[.tmp t] := by exact rfl) (hy : ResOk P st [.tmp t] [y] := by exact .tmp rfl .nil)
    (hH : H'.Sublist st.H := by repeat (first | exact List.Sublist.refl _ | refine List.Sublist.cons _ ?_)) : Done ⟨B, I0, w0, n, []⟩ st .ret (bodyPost P fn (RetP B I0 w0 Φ E)) :=
  Done.retR (rs := [.tmp t]) (H' := H') hr hy (AVleL.refl _) hH hΦ
end
end Go.Eng

/- The engine, part 24: two appends, one onto the other, among operations in whatever order. No condition: general lemmas over any program. -/
set_option linter.unusedVariables false
set_option linter.unusedSimpArgs false
namespace Go.Eng
open Go.RowKit (Below)
section
variable {P : Program} {r : Option Nat} {o : Oper} {H : List Ent}
end

section
variable {c : Ctx} {r : Option Nat} {P : Program} {l : List Oper} {Q : Exit → Act → World → Prop}
end
section
variable {P : Program} {L rest : List Oper} {ss : List Nat} {n i d : Nat} {o : Oper} {env : List (Nat × AV)} {K : List (Nat × AV) → Prop} {x : AV} {H : List Ent} {e k : Nat} {E1 E2 : List (List AV)} {d1 d2 : Nat}
end
end Go.Eng

/- The engine, part 25: a field of a struct's value. No condition: general lemmas over any program. -/
set_option linter.unusedVariables false
set_option linter.unusedSimpArgs false
namespace Go.Eng
def fldV (P : Program) (t : TypeId) (f : Nat) : Option Nat :=
  match P.underlying t with
  | some (.struct fs) => match fs[f]? with
    | some fd => match tyInfo P fd.type with
      | some (false, _) => some fd.offset
      | _ => none
    | none => none
  | _ => none
class HasFldV (P : Program) (t f : Nat) (x : outParam Nat) : Prop where h : fldV P t f = some x
section
variable {P : Program} {H : List Ent} {ρ : Nat → Option AV} {o : Oper}
end
end Go.Eng

/- The engine, part 26: operations in whatever order, of which one writes a variable that others have read. No condition: general lemmas over any program. -/
set_option linter.unusedVariables false
set_option linter.unusedSimpArgs false
namespace Go.Eng
open Go.RowKit (Below)

structure SegOkW (l : List Oper) (k m dW : Nat) : Prop where
  back : ∀ i o, l[i]? = some o → ∀ j ∈ deps o, j < i
  tail : ∀ i, m ≤ i → i < l.length → ∀ j, k ≤ j → j < m → ((masks l []).getD i 0).testBit j = true
  apart : ∀ i oi j oj d, k ≤ i → i < m → l[i]? = some oi → k ≤ j → j < m → l[j]? = some oj → oj.dst = some d → i ≠ j → oi.dst ≠ some d
  looked : ∀ i oi j oj d, d ≠ dW → k ≤ i → i < m → l[i]? = some oi → k ≤ j → j < m → l[j]? = some oj → oj.dst = some d → d ∈ looks l oi → j < i ∧ ((masks l []).getD i 0).testBit j = true

section
variable {c : Ctx} {r : Option Nat} {P : Program} {l : List Oper} {st : St} {Q : Exit → Act → World → Prop}
end
section
variable {c : Ctx} {r : Option Nat} {P : Program} {l : List Oper} {Q : Exit → Act → World → Prop}
end
section
variable {P : Program} {L rest : List Oper} {n i d e : Nat} {o : Oper} {env : List (Nat × AV)} {K : List (Nat × AV) → Prop} {x : AV} {H : List Ent} {x0 x1 : AV} {dW : Nat}
end
end Go.Eng

/- The engine, part 27: slice literals onto which is appended later; two calls of which each makes such a list, among operations in whatever order. No condition: general lemmas over any program. -/
set_option linter.unusedVariables false
set_option linter.unusedSimpArgs false
namespace Go.Eng
open Go.RowKit (Below)

section
variable {c : Ctx} {r : Option Nat} {P : Program} {ops : Array Oper} {l rest : List Oper} {o : Oper} {env : List (Nat × AV)} {H : List Ent} {Q : Exit → Act → World → Prop} {d : Nat}
end

section
variable {c : Ctx} {r : Option Nat} {P : Program} {l : List Oper} {Q : Exit → Act → World → Prop}
end
section
variable {P : Program} {L rest : List Oper} {ss : List Nat} {n i d : Nat} {o : Oper} {env : List (Nat × AV)} {K : List (Nat × AV) → Prop} {x : AV} {H : List Ent} {e1 k1 e2 k2 d1 d2 : Nat}
end
end Go.Eng

/- The engine, part 28: append onto a slice whose reading is a weaker one; onto nothing. No condition: general lemmas over any program. -/
set_option linter.unusedVariables false
set_option linter.unusedSimpArgs false
namespace Go.Eng
open Go.RowKit (Below)
section
variable {c : Ctx} {r : Option Nat} {P : Program} {ops : Array Oper} {l rest : List Oper} {o : Oper} {st : St} {Q : Exit → Act → World → Prop} {x : AV}
end
section
variable {c : Ctx} {r : Option Nat} {P : Program} {ops : Array Oper} {rest : List Oper} {o : Oper} {env : List (Nat × AV)} {H : List Ent} {Q : Exit → Act → World → Prop} {d : Nat}
end
end Go.Eng

/- The engine, part 30: several new variables that are made and set among operations in whatever order. No condition: general lemmas over any program. -/
set_option linter.unusedVariables false
set_option linter.unusedSimpArgs false
namespace Go.Eng
open Go.RowKit (Below)

/-- which operations an operation waits for, has been shown -/
def ShutS (l : List Oper) (S : Nat → Bool) : Prop := ∀ i oi, l[i]? = some oi → S i = true → ∀ j, ((masks l []).getD i 0).testBit j = true → S j = true
def addS (S : Nat → Bool) (i : Nat) : Nat → Bool := fun j => if j = i then true else S j
def UOk (P : Program) (M : (Nat → Bool) → Mem) (l : List Oper) (i : Nat) (env : List (Nat × AV)) (o : Oper) (x : AV) : Prop :=
  ∀ S, ShutS l S → (∀ j, ((masks l []).getD i 0).testBit j = true → S j = true) → S i = false → EOk P (M S) (M (addS S i)) l env o x
def UD (P : Program) (M : (Nat → Bool) → Mem) (l : List Oper) (n : Nat) : Nat → List Oper → List (Nat × AV) → (List (Nat × AV) → Prop) → Prop
  | _, [], env, K => K env
  | i, o :: rest, env, K => ∃ x, UOk P M l i env o x ∧ dstOk n o.dst = true ∧ UD P M l n (i + 1) rest (putEnv o.dst x env) K
theorem UD.mono {P : Program} {M : (Nat → Bool) → Mem} {ops : List Oper} {n : Nat} {K K' : List (Nat × AV) → Prop} (hk : ∀ env, K env → K' env) : ∀ {k : Nat} {l : List Oper} {env : List (Nat × AV)}, UD P M ops n k l env K → UD P M ops n k l env K'
  | _, [], _, h => hk _ h
  | _, _ :: _, _, ⟨x, h1, h2, h3⟩ => ⟨x, h1, h2, h3.mono hk⟩

section
variable {c : Ctx} {r : Option Nat} {P : Program} {l : List Oper} {st : St} {Q : Exit → Act → World → Prop}
end

/-- a variable: the operation that makes it, its temporary, its type, the cells that it begins with, the operation that sets it, what it is set to -/
structure VS where
  e : Nat
  d : Nat
  t : TypeId
  zs : List Value
  s : Nat
  ys : List AV
def VS.ent (S : Nat → Bool) (bs : Nat → Nat) (v : VS) : Option Ent := if S v.e then some (.blk (bs v.d) v.t (if S v.s then v.ys else v.zs.map .val)) else none
def VS.ents (S : Nat → Bool) (bs : Nat → Nat) (vs : List VS) : List Ent := vs.filterMap (VS.ent S bs)
def VM (H : List Ent) (vs : List VS) (S : Nat → Bool) : Mem := fun B a I w =>
  ∃ bs : Nat → Nat, (∀ v ∈ vs, S v.e = true → a.tmps.getD v.d undef = .pointer (some ⟨bs v.d, 0, none⟩)) ∧ HeapOk B I w (VS.ents S bs vs ++ H)
theorem Upd.under {e e' : Ent} {H : List Ent} : ∀ (X : List Ent), Upd (X ++ e :: H) e e' (X ++ e' :: H)
  | [] => .head _ _ _
  | f :: X => .tail _ _ _ _ _ (Upd.under X)

section
variable {c : Ctx} {r : Option Nat} {P : Program} {l : List Oper} {Q : Exit → Act → World → Prop}
theorem EnvOk.vars {I : Imm} {w : World} {a : Act} {env : List (Nat × AV)} {bs : Nat → Nat} (h : EnvOk I w (envGet env) a) : ∀ (vs : List VS), (∀ v ∈ vs, a.tmps.getD v.d undef = .pointer (some ⟨bs v.d, 0, none⟩)) → EnvOk I w (envGet (vs.map (fun v => (v.d, AV.p (bs v.d) 0)) ++ env)) a
  | [], _ => h
  | v :: r, hv => fun t x hx => by
    rw [List.map_cons, List.cons_append, envGet_cons] at hx
    split at hx
    · rename_i e
      cases hx
      subst e
      rw [hv v (.head _)]; exact .val _
    · exact EnvOk.vars h r (fun u hu => hv u (.tail _ hu)) t x hx
end
section
variable {P : Program} {L rest : List Oper} {vs : List VS} {n i d : Nat} {o : Oper} {env : List (Nat × AV)} {K : List (Nat × AV) → Prop} {x : AV} {H : List Ent}
theorem UD.nil {M : (Nat → Bool) → Mem} (h : K env) : UD P M L n i [] env K := h
end
end Go.Eng

/- The engine, part 31: slice literals of many cells. No condition: general lemmas over any program. -/
set_option linter.unusedVariables false
namespace Go.Eng
section
variable {P : Program} {H : List Ent} {ρ : Nat → Option AV} {o : Oper}
end
end Go.Eng

/- The engine, part 32: lists and variables that are made among operations in whatever order. No condition: general lemmas over any program. -/
set_option linter.unusedVariables false
set_option linter.unusedSimpArgs false
namespace Go.Eng
open Go.RowKit (Below)

def blkOf : Value → Nat
  | .pointer (some a) => a.block
  | _ => 0
/-- a list that a call makes, or a variable: the operation, its temporary, what lies there -/
inductive ES where
  | own (i d e k : Nat) (y : AV)
  | al (i d : Nat) (t : TypeId) (zs : List Value)
def ES.i : ES → Nat
  | .own i _ _ _ _ => i
  | .al i _ _ _ => i
def ES.d : ES → Nat
  | .own _ d _ _ _ => d
  | .al _ d _ _ => d
def ES.en : ES → Value → Ent
  | .own _ _ e k _, v => .own e k v
  | .al _ _ t zs, v => .blk (blkOf v) t (zs.map .val)
def ES.okE : ES → Value → Prop
  | .own _ _ _ _ _, _ => True
  | .al _ _ _ _, v => v = .pointer (some ⟨blkOf v, 0, none⟩)
def ES.av : ES → Value → AV
  | .own _ _ _ _ y, v => .as y v
  | .al _ _ _ _, v => .p (blkOf v) 0
def ES.y : ES → AV
  | .own _ _ _ _ y => y
  | .al _ _ _ _ => .any
def ES.mem (S : Nat → Bool) (f : Nat → Value) (es : List ES) : List Ent := es.filterMap fun s => if S s.i then some (s.en (f s.d)) else none
/-- a value that is made of them: the operation, its temporary, of which temporaries, how -/
structure LS where
  i : Nat
  d : Nat
  ds : List Nat
  x : List Value → AV
theorem EnvOk.made {I : Imm} {w : World} {a : Act} {env : List (Nat × AV)} (h : EnvOk I w (envGet env) a) : ∀ (es : List ES), (∀ s ∈ es, s.okE (a.tmps.getD s.d undef) ∧ envGet env s.d = some s.y) → EnvOk I w (envGet (es.map (fun s => (s.d, s.av (a.tmps.getD s.d undef))) ++ env)) a
  | [], _ => h
  | s :: r, hv => fun t x hx => by
    rw [List.map_cons, List.cons_append, envGet_cons] at hx
    split at hx
    · rename_i e
      cases hx
      subst e
      have h1 := hv s (.head _)
      cases s with
      | own i d e k y => exact .as _ _ (h d y h1.2)
      | al i d t zs =>
        have h2 : a.tmps.getD d undef = .pointer (some ⟨blkOf (a.tmps.getD d undef), 0, none⟩) := h1.1
        show Rel I w (.p (blkOf (a.tmps.getD d undef)) 0) (a.tmps.getD d undef)
        generalize a.tmps.getD d undef = v at h2
        rw [h2]; exact .val _
    · exact EnvOk.made h r (fun u hu => hv u (.tail _ hu)) t x hx
section
variable {c : Ctx} {r : Option Nat} {P : Program} {l : List Oper} {Q : Exit → Act → World → Prop}
end
section
variable {P : Program} {L rest : List Oper} {es : List ES} {ls : List LS} {n i d : Nat} {o : Oper} {env : List (Nat × AV)} {K : List (Nat × AV) → Prop} {x : AV} {H : List Ent}
end
end Go.Eng

/- The engine, part 33: whether structs of integers are equal. No condition: general lemmas over any program. -/
set_option linter.unusedVariables false
namespace Go.Eng
def eqField (P : Program) (p : Field × Nat) : Bool := p.1.offset == p.2 && p.1.name != "_" && P.plainKey p.1.type && (match P.underlying p.1.type with | some (.int _) => true | _ => false)
def eqInts (P : Program) (t : TypeId) (n : Nat) : Bool := (match P.underlying t with | some (.struct fs) => fs.toList.length == n && fs.toList.zipIdx.all (eqField P) | _ => false) && !P.stoodInHeld t && !P.eqGuardType P.depth t
class HasEq (P : Program) (t : TypeId) (n : outParam Nat) : Prop where
  h : eqInts P t n = true
abbrev intsArr (l : List Int) : Array Value := (l.map fun n => Value.int .i64 n).toArray
theorem eqFields_ints {P : Program} {w : World} (d : Nat) {as bs : List Int} {n : Nat} (ha : as.length = n) (hb : bs.length = n) : ∀ (fs : List Field) (k : Nat), k + fs.length = n → ((fs.zipIdx k).all (eqField P)) = true →
    (Op.eqFields (d + 1) (intsArr as) (intsArr bs) fs).run P w = .ok (as.drop k == bs.drop k) w
  | [], k, hk, _ => by
    rw [List.length_nil] at hk
    rw [List.drop_of_length_le (by omega), List.drop_of_length_le (by omega)]; rfl
  | f :: fs, k, hk, hf => by
    rw [List.length_cons] at hk
    rw [List.zipIdx_cons, List.all_cons, Bool.and_eq_true] at hf
    have h1 := hf.1
    simp only [eqField, Bool.and_eq_true, beq_iff_eq, bne_iff_ne, ne_eq] at h1
    obtain ⟨⟨⟨ho, hn⟩, hp⟩, hu⟩ := h1
    obtain ⟨k', hu⟩ : ∃ k', P.underlying f.type = some (.int k') := by
      split at hu
      · rename_i k' e; exact ⟨k', e⟩
      · cases hu
    have hka : k < as.length := by omega
    have hkb : k < bs.length := by omega
    have ga : (intsArr as)[f.offset]? = some (.int .i64 as[k]) := by rw [ho]; simp [intsArr, List.getElem?_eq_getElem hka]
    have gb : (intsArr bs)[f.offset]? = some (.int .i64 bs[k]) := by rw [ho]; simp [intsArr, List.getElem?_eq_getElem hkb]
    have hab : (as.drop k == bs.drop k) = (as[k] == bs[k] && as.drop (k + 1) == bs.drop (k + 1)) := by rw [List.drop_eq_getElem_cons hka, List.drop_eq_getElem_cons hkb]; rfl
    rw [hab]
    simp only [Op.eqFields, Sem.run_ite, Sem.run_bind]
    rw [if_pos hn, Go.run_part_plain (w := w) hp ga]
    simp only [Result.andThen_ok]
    rw [Go.run_part_plain (w := w) hp gb]
    simp only [Result.andThen_ok]
    rw [run_equalIn_int w d f.type .i64 k' as[k] bs[k] hu]
    simp only [Result.andThen_ok]
    have ih := eqFields_ints (P := P) (w := w) d ha hb fs (k + 1) (by omega) hf.2
    by_cases e : as[k] = bs[k]
    · have e2 : (as[k] == bs[k]) = true := by simpa using e
      rw [e2]
      simp only [Bool.not_true, Bool.false_eq_true, if_false, Bool.true_and]
      exact ih
    · have e2 : (as[k] == bs[k]) = false := by simpa using e
      rw [e2]
      simp only [Bool.not_false, if_true, Sem.run_pure, Bool.false_and]
section
variable {P : Program} {H : List Ent} {ρ : Nat → Option AV} {o : Oper}
theorem aggInts_rel {I : Imm} {w : World} : ∀ {l : List Int} {vs : List Value}, RelL I w (l.map AV.i) vs → vs = l.map fun n => Value.int .i64 n
  | [], _, h => by cases h; rfl
  | n :: r, _, h => by
    cases h with
    | cons _ v _ vs hv ht =>
      rw [rel_val hv, aggInts_rel ht]; rfl
theorem POp.eqI {t t' : TypeId} {x y : Operand} {n : Nat} (as bs : List Int) {gx gy : Bool} [he : HasEq P t n] (h : o.op = .binOp .eql t x y t') (hx : aev ρ x = some (gx, .agg (as.map AV.i))) (hy : aev ρ y = some (gy, .agg (bs.map AV.i))) (hgx : gx = true) (hgy : gy = true)
    (ha : Nat.beq as.length n = true) (hb : Nat.beq bs.length n = true) : POp P H ρ o (.b (as == bs)) := by
  have ha := Nat.eq_of_beq_eq_true ha
  have hb := Nat.eq_of_beq_eq_true hb
  have hh := he.h
  simp only [eqInts, Bool.and_eq_true, Bool.not_eq_true'] at hh
  obtain ⟨⟨h1, h2⟩, h3⟩ := hh
  obtain ⟨fs, hu⟩ : ∃ fs, P.underlying t = some (.struct fs) := by
    split at h1
    · rename_i fs e; exact ⟨fs, e⟩
    · cases h1
  rw [hu] at h1
  simp only [Bool.and_eq_true, beq_iff_eq] at h1
  have hfo : P.fieldsOf t = fs := by rw [Program.fieldsOf, hu]
  refine .same (by simp [h]) fun I w f ho => ?_
  have q1 := ho.get (by simp [h, Op.operands]) hx hgx
  have q2 := ho.get (by simp [h, Op.operands]) hy hgy
  generalize hv : f.eval x = u at q1
  generalize hz : f.eval y = z at q2
  cases q1 with
  | agg _ vs hl1 =>
    cases q2 with
    | agg _ us hl2 =>
      have e1 : vs = intsArr as := Array.toList_inj.1 (by rw [aggInts_rel hl1])
      have e2 : us = intsArr bs := Array.toList_inj.1 (by rw [aggInts_rel hl2])
      subst e1; subst e2
      refine ⟨.bool (as == bs), ?_, .val _⟩
      have hrun := eqFields_ints (P := P) (w := w) 9998 ha hb fs.toList 0 (by omega) h1.2
      rw [List.drop_zero, List.drop_zero] at hrun
      simp only [execOp, h, hv, hz, Sem.run_bind]
      rw [run_eqGuard_agg w .eql t x y _ _ h3]
      simp only [Result.andThen_ok]
      rw [run_eql_struct, run_equalIn_agg w 9999 t _ _ (by rw [hfo]; exact hu) h2, hfo, hrun]
      rfl
end
end Go.Eng

/- The engine, part 34: parts of a block, appended onto one another within the block's room. No condition: general lemmas over any program. -/
set_option linter.unusedVariables false
set_option linter.unusedSimpArgs false
namespace Go.Eng
open Go.RowKit (Below)
section
variable {P : Program} {H : List Ent} {ρ : Nat → Option AV} {o : Oper}
/-- what is behind all that a slice has room for -/
theorem POp.slEnd {t : TypeId} {x y : Operand} {k b off n cap : Nat} {gx gl : Bool} {kl : IntKind} [ht : HasSl P t k] (h : o.op = .slice t x (some y) none none) (hx : aev ρ x = some (gx, .val (.slice (some ⟨b, off, none⟩) n cap))) (hgx : gx = true)
    (hlo : aev ρ y = some (gl, .val (.int kl (n : Int)))) (hgl : gl = true) (hn : n = cap) : POp P H ρ o (.val (.slice (some ⟨b, off, none⟩) 0 0)) := by
  refine .same (by simp [h]) fun I w f ho => ?_
  have hr := rel_val (ho.get (by simp [h, Op.operands]) hx hgx)
  have hl := rel_val (ho.get (by simp [h, Op.operands]) hlo hgl)
  obtain ⟨e, inf, hu, hi', hk⟩ := slSize_spec ht.h
  subst hn
  refine ⟨_, ?_, .val (.slice (some ⟨b, off, none⟩) 0 0)⟩
  have : (Instr.sliceAt t (.slice (some ⟨b, off, none⟩) n n) (some (.int kl (n : Int))) none none).run P w = .ok (.slice (some ⟨b, off, none⟩) 0 0) w := by
    simp [Instr.sliceAt, Instr.slice, run_underlying hu, Instr.sliceBounds, Instr.sliceBound, asIntOf, sizeOf, typeInfo, hi', hk, Addr.add]
  simp [execOp, h, hr, hl, this]
/-- a slice with three bounds -/
theorem POp.sl3C {t : TypeId} {x y z u : Operand} {k b off n cap l m : Nat} {gx gy gz gu : Bool} {ky kz ku : IntKind} [ht : HasSl P t k] (h : o.op = .slice t x (some y) (some z) (some u)) (hx : aev ρ x = some (gx, .val (.slice (some ⟨b, off, none⟩) n cap))) (hgx : gx = true)
    (hy : aev ρ y = some (gy, .val (.int ky (l : Int)))) (hgy : gy = true) (hz : aev ρ z = some (gz, .val (.int kz (m : Int)))) (hgz : gz = true) (hu : aev ρ u = some (gu, .val (.int ku (n : Int)))) (hgu : gu = true) (h1 : l ≤ m) (h2 : m ≤ n) (h3 : n ≤ cap) (h4 : l < n) :
    POp P H ρ o (.val (.slice (some ⟨b, off + l * k, none⟩) (m - l) (n - l))) := by
  refine .same (by simp [h]) fun I w f ho => ?_
  have hr := rel_val (ho.get (by simp [h, Op.operands]) hx hgx)
  have q1 := rel_val (ho.get (by simp [h, Op.operands]) hy hgy)
  have q2 := rel_val (ho.get (by simp [h, Op.operands]) hz hgz)
  have q3 := rel_val (ho.get (by simp [h, Op.operands]) hu hgu)
  obtain ⟨e, inf, hut, hi', hk⟩ := slSize_spec ht.h
  refine ⟨_, ?_, .val (.slice (some ⟨b, off + l * k, none⟩) (m - l) (n - l))⟩
  have hne : ¬ (n = l) := by omega
  have : (Instr.sliceAt t (.slice (some ⟨b, off, none⟩) n cap) (some (.int ky (l : Int))) (some (.int kz (m : Int))) (some (.int ku (n : Int)))).run P w = .ok (.slice (some ⟨b, off + l * k, none⟩) (m - l) (n - l)) w := by
    simp [Instr.sliceAt, Instr.slice, run_underlying hut, Instr.sliceBounds, Instr.sliceBound, asIntOf, sizeOf, typeInfo, hi', hk, h1, h2, h3, hne, Addr.add] <;> omega
  simp [execOp, h, hr, q1, q2, q3, this]
end
section
variable {c : Ctx} {r : Option Nat} {P : Program} {ops : Array Oper} {l rest : List Oper} {o : Oper} {env : List (Nat × AV)} {H : List Ent} {Q : Exit → Act → World → Prop} {d : Nat}
/-- append of a part of a block onto another one, where there is room -/
theorem OL.appendRoom {s z : Operand} {t tx e k by_ k' b off n1 c1 off2 n2 c2 tb : Nat} {cs : List AV} {g1 g2 : Bool} {H' : List Ent} [hA : HasApp P t (e, k, by_)] [hX : HasSl P tx k'] (hgd : o.guard = none) (hd : o.dst = some d) (hn : Nat.blt d c.n = true)
    (h : o.op = .call { callee := .builtin .append, args := #[s, z], argTypes := #[t, tx] }) (hs : aev (envGet env) s = some (g1, .val (.slice (some ⟨b, off, none⟩) n1 c1))) (hg1 : g1 = true) (hz : aev (envGet env) z = some (g2, .val (.slice (some ⟨b, off2, none⟩) n2 c2))) (hg2 : g2 = true)
    (hroom : n1 + n2 ≤ c1) (h1 : allOne ((cs.drop off2).take (n2 * k)) = true) (hf1 : off + n1 * k + n2 * k ≤ cs.length) (hf2 : off2 + n2 * k ≤ cs.length)
    (hu : Upd H (.blk b tb cs) (.blk b tb (cs.take (off + n1 * k) ++ (cs.drop off2).take (n2 * k) ++ cs.drop (off + n1 * k + n2 * k))) H')
    (next : OL c r P ops rest ⟨(d, .val (.slice (some ⟨b, off, none⟩) (n1 + n2) c1)) :: env, H'⟩ Q) : OL c r P ops (o :: rest) ⟨env, H⟩ Q := by
  intro a w sat
  refine wpListIn_plain hgd fun K hK => ?_
  obtain ⟨I, hw, he, hh, hv⟩ := sat.mem
  have ho := hv.ops o
  obtain ⟨i, zv, hut, hi, hzz, hsz, hby, hzs, hk0⟩ := appInfo_spec hA.h
  obtain ⟨e', _, hu', _⟩ := slSize_spec hX.h
  have hsv := rel_val (ho.get (by simp [h, Op.operands, Call.operands]) hs hg1)
  have hzv := rel_val (ho.get (by simp [h, Op.operands, Call.operands]) hz hg2)
  obtain ⟨hB, vs, hblk, hrel, hni⟩ := hh.ok _ hu.mem
  have hcl : vs.size = cs.length := by have := hrel.length; simpa using this
  let news := (vs.toList.drop off2).take (n2 * k)
  have hnl : news.length = n2 * k := by simp only [news, List.length_take, List.length_drop, Array.length_toList]; omega
  have hnone : ∀ v ∈ news, v.oneCell' = true := relL_one ((hrel.drop off2).take (n2 * k)) h1
  have hsrc : Src P i.size tx (.slice (some ⟨b, off2, none⟩) n2 c2) n2 news w := Src.ofSlice w hu' ⟨b, off2, none⟩ n2 c2 news (by rw [hnl, hsz]) (fun j u hj => by
    have hjl : j < n2 * k := by rw [← hnl]; exact (List.getElem?_eq_some_iff.1 hj).1
    have h5 : vs[off2 + j]? = some u := by
      simp only [news, List.getElem?_take, if_pos hjl, List.getElem?_drop] at hj
      simpa using hj
    rw [Addr.add_lit, cell_of_blk hblk]; exact h5) hnone
  have hst := run_storeCells_at P b (off + n1 * k) tb news 0 vs w hblk (by rw [hnl]; omega) hnone
  simp only [Nat.add_zero, hnl] at hst
  generalize hcur : (vs.toList.take (off + n1 * k) ++ news ++ vs.toList.drop (off + n1 * k + n2 * k)).toArray = cur at hst
  have hr : (Builtin.append_ #[t, tx] o.type #[a.eval s, a.eval z]).run P w = .ok (.slice (some ⟨b, off, none⟩) (n1 + n2) c1) (w.setRow b cur) := by
    have hfc := hsrc.cells
    rw [hsz] at hfc
    rw [hsv, hzv]
    simp [Builtin.append_, run_underlying hut, run_underlying hu', sizeOf, typeInfo, hi, hsrc.len, hroom, hfc, Addr.add_lit, hsz, hst]
  have hkeep : Keeps I w I (w.setRow b cur) := ⟨fun _ _ x => x, fun b' o' hI => by
    have hne : b' ≠ b := fun e => by subst e; exact hni o' hI
    exact World.cell?_of_block (a := ⟨b', o', none⟩) (setRow_other w b b' cur hne)⟩
  have hext : Ext c.B I w I (w.setRow b cur) := ⟨hkeep.imm, hkeep.cell, ⟨rfl, rfl, rfl, by simp, fun k hk => setRow_other w b k cur (by omega)⟩⟩
  have hw' : WOk c.B I (w.setRow b cur) := ⟨by simpa using hw.base, fun b' o' hI => by rw [hkeep.cell b' o' hI]; exact hw.there b' o' hI⟩
  have hrel' : RelL I w (cs.take (off + n1 * k) ++ (cs.drop off2).take (n2 * k) ++ cs.drop (off + n1 * k + n2 * k)) cur.toList := by
    rw [← hcur]
    exact ((hrel.take _).append ((hrel.drop _).take _)).append (hrel.drop _)
  have hh' : HeapOk c.B I (w.setRow b cur) H' := by
    refine hh.upd hu hkeep (fun k hk hne => setRow_other w b k cur (fun e => hne (by subst e; rfl))) (fun _ _ x => .inl x) ?_ (fun k hk => .inl hk)
    exact ⟨hB, cur, setRow_heap w b vs cur tb (0, 0) hblk, hrel'.keep hkeep, hni⟩
  refine Runs.of_value (R := fun v w' => v = .slice (some ⟨b, off, none⟩) (n1 + n2) c1 ∧ w' = w.setRow b cur) (E := fun _ _ => False) (by simp [h]) (run_appendOp h a w hr) ⟨rfl, rfl⟩ K Q ?_ (fun _ _ h => h.elim)
  rintro v w' ⟨rfl, rfl⟩
  refine hK _ _ (next _ _ ⟨by rw [put_defers]; exact sat.ds, by rw [tmps_put_size]; exact sat.size, I, hw', he.trans hext, hh', ?_⟩)
  have := (hv.keep hkeep).put (dst := some d) (x := .val (.slice (some ⟨b, off, none⟩) (n1 + n2) c1)) (v := .slice (some ⟨b, off, none⟩) (n1 + n2) c1) (by rw [sat.size]; exact hn) (.val _)
  rw [hd]; exact this
end
end Go.Eng

/- The engine, part 35: rows as blocks, blocks as rows. No condition: general lemmas over any program. -/
set_option linter.unusedVariables false
namespace Go.Eng
open Go.RowKit (Below)
theorem Del.perm {H H' : List Ent} {e : Ent} (h : Del H e H') : H.Perm (e :: H') := by
  induction h with
  | head => exact .refl _
  | tail f e H H' _ ih => exact (ih.cons f).trans (.swap _ _ _)
/-- one private place told otherwise -/
theorem HeapOk.turn {B : Nat} {I : Imm} {w : World} {H H' : List Ent} {e e' : Ent} (h : HeapOk B I w H) (hu : Upd H e e' H') (hok : e.ok B I w → e'.ok B I w) (hft : ∀ b, e'.foot = some b → e.foot = some b) : HeapOk B I w H' :=
  h.upd hu ⟨fun _ _ x => x, fun _ _ _ => rfl⟩ (fun _ _ _ => rfl) (fun _ _ x => .inl x) (hok (h.ok _ hu.mem)) (fun b hb => .inl (hft b hb))
theorem Ent.own_row0 {B : Nat} {I : Imm} {w : World} {t k k' : Nat} {v : Value} (hv : Rel I w (.sl k' []) v) (h : Ent.ok B I w (.own t k v)) : Ent.ok B I w (.row t k v 0 []) := by
  obtain ⟨n, xs, hrow, hni⟩ := h
  have hn : n = 0 := by
    rcases hrow.2 with ⟨rfl, h0⟩ | ⟨g, cap, cur, rfl, _⟩
    · exact h0
    · cases hv with
      | sl0 => rfl
      | sl _ _ b off len cap hl => exact hl.symm
  subst hn
  have hx : xs = [] := List.eq_nil_of_length_eq_zero (by have := hrow.1; omega)
  subst hx
  exact ⟨[], hrow, .nil, fun g hg o => hni g hg o (by omega)⟩
section
variable {c : Ctx} {r : Option Nat} {P : Program} {ops : Array Oper} {l rest : List Oper} {o : Oper} {env : List (Nat × AV)} {H : List Ent} {Q : Exit → Act → World → Prop} {d : Nat}
theorem OL.ownRow0 {t k k' : Nat} {v : Value} {H' : List Ent} (hd : envGet env d = some (.as (.sl k' []) v)) (hu : Upd H (.own t k v) (.row t k v 0 []) H') (h : OL c r P ops l ⟨(d, .val v) :: env, H'⟩ Q) : OL c r P ops l ⟨env, H⟩ Q := fun a w s => by
  obtain ⟨I, hw, he, hh, hv⟩ := s.mem
  have h0 := hv d _ hd
  have h1 : Rel I w (.sl k' []) v := by
    generalize a.tmps.getD d undef = u at h0
    cases h0 with | as _ _ hx => exact hx
  have h2 : a.tmps.getD d undef = v := by
    generalize a.tmps.getD d undef = u at h0
    cases h0; rfl
  exact h a w ⟨s.ds, s.size, I, hw, he, hh.turn hu (Ent.own_row0 h1) (fun _ x => x), fun t x hx => by
    rw [envGet_cons] at hx
    split at hx
    · rename_i e; cases hx; subst e; rw [h2]; exact .val _
    · exact hv t x hx⟩
theorem Sat.freezeRow {t k : Nat} {v : Value} {els : List (List AV)} {H' : List Ent} {a : Act} {w : World} (s : Sat c ⟨env, H⟩ a w) (hd : envGet env d = some (.val v)) (hD : Del H (.row t k v els.length els.flatten) H') (hk : ∀ e ∈ els, e.length = k) : Sat c ⟨(d, .sl k els) :: env, H'⟩ a w := by
  obtain ⟨I, hw, he, hh, hv⟩ := s.mem
  obtain ⟨J, j1, j2, j3, j4⟩ := HeapOk.freezeRow hw (hh.perm hD.perm) hk
  refine ⟨s.ds, s.size, J, j1, he.trans j2, j3, fun t x hx => ?_⟩
  rw [envGet_cons] at hx
  split at hx
  · rename_i e; cases hx; subst e; rw [rel_val (hv _ _ hd)]; exact j4
  · exact (hv t x hx).keep j2.keeps
theorem CW.freezeRow {p : Code} {t k : Nat} {v : Value} {els : List (List AV)} {H' : List Ent} (hd : envGet env d = some (.val v)) (hD : Del H (.row t k v els.length els.flatten) H') (hk : ∀ e ∈ els, e.length = k)
    (h : CW c r P p ⟨(d, .sl k els) :: env, H'⟩ Q) : CW c r P p ⟨env, H⟩ Q := fun a w s => h a w (s.freezeRow hd hD hk)
theorem Done.freezeRow {ex : Exit} {t k : Nat} {v : Value} {els : List (List AV)} {H' : List Ent} (hd : envGet env d = some (.val v)) (hD : Del H (.row t k v els.length els.flatten) H') (hk : ∀ e ∈ els, e.length = k)
    (h : Done c ⟨(d, .sl k els) :: env, H'⟩ ex Q) : Done c ⟨env, H⟩ ex Q := fun a w s => h a w (s.freezeRow hd hD hk)
end
end Go.Eng
