/- Part 4 of the proof: contracts of functions of the program and what they need. No condition beyond those that each theorem names. -/
import Derived.Test.YtiljpbljebfhnaaGreatSdP3
import Derived.OpenShut
import Derived.ProofKit
import Derived.Laws.MakeOwn
import Derived.Carry
import Derived.Laws.StructEq
import Derived.ChangeKeysEq
import Derived.Deep.AppendSrc
set_option linter.unusedVariables false
set_option linter.unusedSimpArgs false
namespace Go.Eng
open Go.RowKit (Below)
section
variable {P : Program} {H : List Ent} {ρ : Nat → Option AV} {o : Oper}
theorem POp.ixC {t : TypeId} {x y : Operand} {k b off n cap : Nat} {kk : IntKind} {i : Int} {gx gy : Bool} [ht : HasSl P t k] (h : o.op = .indexAddr t x y) (hx : aev ρ x = some (gx, .val (.slice (some ⟨b, off, none⟩) n cap))) (hgx : gx = true) (hy : aev ρ y = some (gy, .val (.int kk i))) (hgy : gy = true) (h0 : 0 ≤ i ∧ i < n) : POp P H ρ o (.p b (off + i.toNat * k)) := by
 refine .same (by simp [h]) fun I w f ho => ?_
 have h1 := rel_val (ho.get (by simp [h, Op.operands]) hx hgx)
 have h2 := rel_val (ho.get (by simp [h, Op.operands]) hy hgy)
 exact ⟨.pointer (some ⟨b, off + i.toNat * k, none⟩), by simp [execOp, h, h1, h2, run_indexSl ht.h b off n cap kk i h0.1 h0.2 w], .val _⟩
theorem run_sliceC {t : TypeId} {k : Nat} (ht : slSize P t = some k) (b off n cap l m : Nat) (lo hi : Option Value) (kl kh : IntKind) (hl : match lo with | none => l = 0 | some v => v = .int kl (l : Int)) (hh : match hi with | none => m = n | some v => v = .int kh (m : Int)) (h1 : l ≤ m) (h2 : m ≤ cap) (h3 : l < cap) (w : World) :
  (Instr.sliceAt t (.slice (some ⟨b, off, none⟩) n cap) lo hi none).run P w = .ok (.slice (some ⟨b, off + l * k, none⟩) (m - l) (cap - l)) w := by
 obtain ⟨e, inf, hu, hi', hk⟩ := slSize_spec ht
 have hne : ¬ (cap = l) := by omega
 cases lo <;> cases hi <;> simp only at hl hh <;> subst hl <;> subst hh <;>
  simp [Instr.sliceAt, Instr.slice, run_underlying hu, Instr.sliceBounds, Instr.sliceBound, asIntOf, sizeOf, typeInfo, hi', hk, h1, h2, hne, Addr.add] <;> omega
theorem POp.slC {t : TypeId} {x : Operand} {lo hi : Option Operand} {k b off n cap l m : Nat} {gx gl gh : Bool} {kl kh : IntKind} [ht : HasSl P t k] (h : o.op = .slice t x lo hi none) (hx : aev ρ x = some (gx, .val (.slice (some ⟨b, off, none⟩) n cap))) (hgx : gx = true)
  (hlo : match lo with | none => l = 0 | some y => aev ρ y = some (gl, .val (.int kl (l : Int)))) (hgl : gl = true) (hhi : match hi with | none => m = n | some y => aev ρ y = some (gh, .val (.int kh (m : Int)))) (hgh : gh = true) (h1 : l ≤ m) (h2 : m ≤ cap) (h3 : l < cap) :
  POp P H ρ o (.val (.slice (some ⟨b, off + l * k, none⟩) (m - l) (cap - l))) := by
 refine .same (by simp [h]) fun I w f ho => ?_
 have hr := rel_val (ho.get (by simp [h, Op.operands]) hx hgx)
 have hl0 : ∀ y, lo = some y → f.eval y = .int kl (l : Int) := fun y e => by
  subst e; exact rel_val (ho.get (by simp [h, Op.operands]) hlo hgl)
 have hh0 : ∀ y, hi = some y → f.eval y = .int kh (m : Int) := fun y e => by
  subst e; exact rel_val (ho.get (by simp [h, Op.operands]) hhi hgh)
 refine ⟨_, ?_, .val (.slice (some ⟨b, off + l * k, none⟩) (m - l) (cap - l))⟩
 have := run_sliceC ht.h b off n cap l m (lo.map f.eval) (hi.map f.eval) kl kh (by cases lo with | none => exact hlo | some y => exact hl0 y rfl) (by cases hi with | none => exact hhi | some y => exact hh0 y rfl) h1 h2 h3 w
 simp [execOp, h, hr, this]
theorem Borrow.blk {t b k cap : Nat} {els : List (List AV)} {more : List AV} {pre post : List AV} (hm : Ent.blk b t (els.flatten ++ more) ∈ H) (hk : ∀ e ∈ els, e.length = k) (hc : els.length ≤ cap) (hcm : cap ≤ maxLen) : Borrow H (pre ++ .val (.slice (some ⟨b, 0, none⟩) els.length cap) :: post) (pre ++ .sl k els :: post) := by
 intro B I w Hc vs hw hh hs hr
 obtain ⟨hB, us, hb, hrel, hni⟩ := hh.ok _ (hs _ hm)
 let J : Imm := fun b' o' => I b' o' ∨ (b' = b ∧ o' < us.size)
 have kk : Keeps I w J w := ⟨fun _ _ h => .inl h, fun _ _ _ => rfl⟩
 refine ⟨J, fun b' o' h => ?_, ?_⟩
 ·rcases h with h | ⟨rfl, h⟩
  ·exact hw.there b' o' h
  ·exact ⟨us[o'], by rw [cell_of_blk hb]; exact Array.getElem?_eq_getElem h⟩
 obtain ⟨as, zs, rfl, r1, r2⟩ := hr.append_inv
 cases r2 with
 | cons _ u _ zs hx ht =>
  have := rel_val hx
  subst this
  have hlen := hrel.length
  rw [List.length_append, flatten_len hk] at hlen
  have hsz : us.size = els.length * k + more.length := by simpa using hlen
  have hcells : Cells J w b 0 (els.flatten ++ more) := cells_of hb _ us.toList 0 (hrel.keep kk) (fun j u hu => by simpa using hu) (fun j hj => .inr ⟨rfl, by rw [List.length_append, flatten_len hk] at hj; omega⟩)
  have hc2 := hcells.take els.flatten.length
  rw [List.take_left] at hc2
  exact (r1.keep kk).append (.cons _ _ _ _ (.sl _ _ _ _ _ _ rfl hc hcm (els_of_cells els 0 hk hc2)) (ht.keep kk))
end
section
variable {c : Ctx} {r : Option Nat} {P : Program} {ops : Array Oper} {l rest : List Oper} {o : Oper} {env : List (Nat × AV)} {H : List Ent} {Q : Exit → Act → World → Prop} {d : Nat}
theorem OL.appendNew {s z : Operand} {t tx e k by_ k' : Nat} {news : List (List AV)} {y0 y : AV} {g1 g2 : Bool} [hA : HasApp P t (e, k, by_)] [hX : HasSl P tx k'] (hgd : o.guard = none) (hd : o.dst = some d) (hn : Nat.blt d c.n = true)
  (h : o.op = .call { callee := .builtin .append, args := #[s, z], argTypes := #[t, tx] }) (hs : aev (envGet env) s = some (g1, y0)) (hg1 : g1 = true) (hy0 : AVle y0 .e0) (hz : aev (envGet env) z = some (g2, y)) (hg2 : g2 = true) (hy : AVle y (.sl k news)) (hne : news ≠ [])
  (h1 : news.all allOne = true) (hb : news.length * by_ ≤ 140737488355328) (hb' : news.length ≤ 9223372036854775807)
  (next : ∀ b cap more, news.length ≤ cap → cap ≤ maxLen → OL c r P ops rest ⟨(d, .val (.slice (some ⟨b, 0, none⟩) news.length cap)) :: env, .blk b e (news.flatten ++ more) :: H⟩ Q) : OL c r P ops (o :: rest) ⟨env, H⟩ Q := by
 intro a w sat
 refine wpListIn_plain hgd fun K hK => ?_
 obtain ⟨I, hw, he, hh, hv⟩ := sat.mem
 have ho := hv.ops o
 obtain ⟨i, zv, hu, hi, hzz, hsz, hby, hzs, hk0⟩ := appInfo_spec hA.h
 obtain ⟨e', _, hu', _⟩ := slSize_spec hX.h
 obtain ⟨ad, hsv⟩ : ∃ ad, a.eval s = .slice ad 0 0 := by
  have h0 := hy0 _ _ _ (ho.get (by simp [h, Op.operands, Call.operands]) hs hg1)
  generalize a.eval s = u at h0
  cases h0; exact ⟨_, rfl⟩
 obtain ⟨us, r1, r2⟩ := src_of (P := P) (tx := tx) hu' (hy _ _ _ (ho.get (by simp [h, Op.operands, Call.operands]) hz hg2)) h1
 rw [← hsz] at r2
 have hn0 : news.length ≠ 0 := fun e => hne (List.eq_nil_of_length_eq_zero e)
 have hfc : (Builtin.firstCells i.size 0 (.slice ad 0 0)).run P w.drew = .ok (#[] : Array Value) w.drew := by
  cases ad with
  | none => simp [Builtin.firstCells]
  | some ad => exact run_firstCells_some w.drew i.size 0 ad 0 0 [] (by simp) (by simp)
 have hnc : Builtin.nextslicecap (0 + news.length) 0 * i.bytes ≤ 281474976710656 := growslice_fits (by omega) (by rw [hby, Nat.zero_add]; exact hb)
 have hr := run_append_grow_src (P := P) w t tx o.type e i zv hu hi hzz ad 0 0 [] hfc (a.eval z) news.length us r2 (by omega) (by omega) hnc
 simp only [Nat.zero_add, List.nil_append] at hr
 generalize hG : grownCap w news.length 0 e = G at hr
 have hge : news.length ≤ G := by rw [← hG]; exact grownCap_ge w news.length 0 e
 have hcm : G ≤ maxLen := by rw [← hG]; exact grownCap_le_maxLen w news.length 0 e (by simp only [maxLen]; omega)
 generalize hcur : us.toArray ++ Builtin.zeroCells zv.cells (G - news.length) = cur at hr
 have hwd := hw.drew
 have hrel : RelL I w.drew (news.flatten ++ (Builtin.zeroCells zv.cells (G - news.length)).toList.map .val) cur.toList := by
  rw [← hcur]
  simpa using (r1.keep keeps_drew).append (relL_val (I := I) (w := w.drew) (Builtin.zeroCells zv.cells (G - news.length)).toList)
 refine Runs.of_value (R := fun v w' => v = .slice (some ⟨w.heap.size, 0, none⟩) news.length G ∧ w' = w.drew.alloc (.cells cur e)) (E := fun _ _ => False) (by simp [h]) (run_appendOp h a w (by rw [hsv]; exact hr)) ⟨rfl, rfl⟩ K Q ?_ (fun _ _ h => h.elim)
 rintro v w' ⟨rfl, rfl⟩
 refine hK _ _ (next w.heap.size G _ hge hcm _ _ ⟨by rw [put_defers]; exact sat.ds, by rw [tmps_put_size]; exact sat.size, I, hwd.alloc _, he.trans (ext_drew.trans (ext_alloc hwd _)), hh.drew.new hwd e _ cur hrel, ?_⟩)
 have := ((hv.keep keeps_drew).keep (keeps_alloc hwd (.cells cur e))).put (dst := some d) (x := .val (.slice (some ⟨w.heap.size, 0, none⟩) news.length G)) (v := .slice (some ⟨w.heap.size, 0, none⟩) news.length G) (by rw [sat.size]; exact hn) (.val _)
 rw [hd]; exact this
theorem relL_any {I : Imm} {w : World} : ∀ {n : Nat} {vs : List Value}, vs.length = n → RelL I w (List.replicate n .any) vs
 | 0, [], _ => .nil
 | n + 1, v :: vs, h => .cons _ _ _ _ (.any _) (relL_any (by simpa using h))
theorem OL.clearC {x : Operand} {t e k by_ b off n cap tb : Nat} {cs : List AV} {g : Bool} {H' : List Ent} [hA : HasApp P t (e, k, by_)] (hgd : o.guard = none) (hd : o.dst = none ∨ ∃ d', o.dst = some d' ∧ Nat.blt d' c.n = true)
  (h : o.op = .call { callee := .builtin .clear, args := #[x], argTypes := #[t] }) (hx : aev (envGet env) x = some (g, .val (.slice (some ⟨b, off, none⟩) n cap))) (hg : g = true) (hn0 : n ≠ 0) (hz1 : ((P.info? e).bind (·.zero)).all (fun z => z.cells.toList.all (·.oneCell')) = true)
  (hfit : off + n * k ≤ cs.length) (hu : Upd H (.blk b tb cs) (.blk b tb (cs.take off ++ List.replicate (n * k) .any ++ cs.drop (off + n * k))) H') (next : OL c r P ops rest ⟨putEnv o.dst .any env, H'⟩ Q) : OL c r P ops (o :: rest) ⟨env, H⟩ Q := by
 intro a w s
 refine wpListIn_plain hgd fun K hK => ?_
 obtain ⟨I, hw, he, hh, hv⟩ := s.mem
 have hxv := rel_val ((hv.ops o).get (by simp [h, Op.operands, Call.operands]) hx hg)
 obtain ⟨i, zv, hut, hi, hzz, hsz, hby, hzs, hk0⟩ := appInfo_spec hA.h
 obtain ⟨hB, vs, hblk, hrel, hni⟩ := hh.ok _ hu.mem
 have hcl : vs.size = cs.length := by have := hrel.length; simpa using this
 have hzl : (Builtin.zeroCells zv.cells n).toList.length = n * k := by
  have := size_zeroCells zv.cells n
  rw [hzs] at this; simpa using this
 have hone : ∀ u ∈ (Builtin.zeroCells zv.cells n).toList, u.oneCell' = true := by
  intro u hu
  simp only [hi, hzz, Option.bind_some, Option.all_some, List.all_eq_true] at hz1
  simp only [Builtin.zeroCells, Array.toList_map, List.mem_map] at hu
  obtain ⟨j, _, rfl⟩ := hu
  have hj : j % zv.cells.size < zv.cells.size := Nat.mod_lt _ (by omega)
  rw [getElem!_pos zv.cells _ hj]
  exact hz1 _ (by simp)
 have hrun := run_storeCells_at P b off tb (Builtin.zeroCells zv.cells n).toList 0 vs w hblk (by rw [hzl, hcl]; omega) hone
 generalize hcur : (vs.toList.take (off + 0) ++ (Builtin.zeroCells zv.cells n).toList ++ vs.toList.drop (off + 0 + (Builtin.zeroCells zv.cells n).toList.length)).toArray = cur at hrun
 have hz : (zeroValue e).run P w = .ok zv w := by simp [zeroValue, typeInfo, hi, hzz]
 have hexec : (execOp a.eval o).run P w = .ok (.value (.tuple #[])) (w.setRow b cur) := by
  try simp only [Nat.add_zero] at hrun
  obtain ⟨q, rfl⟩ : ∃ q, n = q + 1 := ⟨n - 1, by omega⟩
  simp [execOp, h, hxv, resolve, invoke, builtin, Builtin.clear_, run_underlying hut, hz, hrun]
 have hkeep : Keeps I w I (w.setRow b cur) := ⟨fun _ _ x => x, fun b' o' hI => by
  have hne : b' ≠ b := fun e => by subst e; exact hni o' hI
  exact World.cell?_of_block (a := ⟨b', o', none⟩) (setRow_other w b b' cur hne)⟩
 have hext : Ext c.B I w I (w.setRow b cur) := ⟨hkeep.imm, hkeep.cell, ⟨rfl, rfl, rfl, by simp, fun k hk => setRow_other w b k cur (by omega)⟩⟩
 have hw' : WOk c.B I (w.setRow b cur) := ⟨by simpa using hw.base, fun b' o' hI => by rw [hkeep.cell b' o' hI]; exact hw.there b' o' hI⟩
 have hrel' : RelL I w (cs.take off ++ List.replicate (n * k) .any ++ cs.drop (off + n * k)) cur.toList := by
  rw [← hcur]
  simp only [Nat.add_zero, hzl]
  exact ((hrel.take off).append (relL_any hzl)).append (hrel.drop _)
 have hh' : HeapOk c.B I (w.setRow b cur) H' := by
  refine hh.upd hu hkeep (fun k hk hne => setRow_other w b k cur (fun e => hne (by subst e; rfl))) (fun _ _ x => .inl x) ?_ (fun k hk => .inl hk)
  exact ⟨hB, cur, setRow_heap w b vs cur tb (0, 0) hblk, hrel'.keep hkeep, hni⟩
 refine Runs.of_value (R := fun v w' => w' = w.setRow b cur) (E := fun _ _ => False) (by simp [h]) hexec rfl K Q ?_ (fun _ _ h => h.elim)
 rintro v w' rfl
 refine hK _ _ (next _ _ ⟨by rw [put_defers]; exact s.ds, by rw [tmps_put_size]; exact s.size, I, hw', he.trans hext, hh', ?_⟩)
 refine (hv.keep hkeep).put ?_ (.any _)
 rcases hd with hd | ⟨d', hd, hlt⟩
 ·rw [hd]; rfl
 ·rw [hd, s.size]; exact hlt
end
section
variable {c : Ctx} {r : Option Nat} {P : Program} {l : List Oper} {Q : Exit → Act → World → Prop}
abbrev AM (H0 : List Ent) (Hb : Nat → Nat → List Ent) (de : Nat) : Nat → Mem := fun j B a I w => match j with
 | 0 => HeapOk B I w H0
 | j + 1 => ∃ b, a.tmps.getD de undef = .pointer (some ⟨b, 0, none⟩) ∧ HeapOk B I w (Hb j b)
theorem DP.anyAC {env : List (Nat × AV)} {H : List Ent} (Hb : Nat → Nat → List Ent) (de : Nat) (ss : List Nat) (q : Nat) (k m n : Nat) (hn : c.n = n) (hchk : segChk l k m = true) (hss : ssChk ss k m = true) (hq : ss.length = q + 1) (hkm : Nat.ble k m = true) (hml : Nat.ble m l.length = true) (hlk : (l.all fun o => (looks l o).all fun t => Nat.blt t n) = true)
  (h : TD P (AM H Hb de) l ss c.n k ((l.drop k).take (m - k)) env fun env => ∀ b, DP c r P l Q m ⟨(de, .p b 0) :: env, Hb q b⟩) : DP c r P l Q k ⟨env, H⟩ :=
 DP.anyS (Hs := AM H Hb de) hchk hss (Nat.le_of_ble_eq_true hkm) (Nat.le_of_ble_eq_true hml) (by rw [hn]; exact hlk) (fun B a I w hh => hh) (h.mono fun env hd a w I q1 q2 q3 q4 q5 q6 => by
  rw [hq] at q5
  obtain ⟨b, hb, hh⟩ := q5
  exact hd b a w ⟨q1, q2, I, q3, q4, hh, Sat.put1 q6 (by rw [hb]; exact .val _)⟩)
end
section
variable {P : Program} {L rest : List Oper} {ss : List Nat} {n i d : Nat} {o : Oper} {env : List (Nat × AV)} {K : List (Nat × AV) → Prop} {x : AV} {H : List Ent} {Hb : Nat → Nat → List Ent} {de : Nat}
theorem TD.popA (hs : stp ss i = 0) (hg : o.guard = none) (hd : o.dst = some d) (hn : Nat.blt d n = true) (hde : Nat.beq d de = false) (h : ∀ H, POp P H (envGet env) o x) (next : TD P (AM H Hb de) L ss n (i + 1) rest ((d, x) :: env) K) : TD P (AM H Hb de) L ss n i (o :: rest) env K :=
 ⟨x, fun j h1 h2 => by
  rw [hs]
  refine ⟨hg, fun B I w r a hw hm ho hz => ?_⟩
  cases j with
  | zero => exact h H B I w r a _ hw hm (fun _ h => h) ho
  | succ j =>
   obtain ⟨b, hb, hh⟩ := hm
   refine (h (Hb j b) B I w r a _ hw hh (fun _ h => h) ho).mono (fun v w' ⟨I', a1, a2, a3, a4⟩ => ⟨I', a1, a2, ⟨b, ?_, a3⟩, a4⟩) (fun _ _ h => h)
   rw [← hb, hd]
   exact tmps_put_other (fun e => by subst e; simp at hde), dstOk_of hd hn, by rw [hd]; exact next⟩
theorem TD.effA {t : TypeId} {zs : List Value} [hz : HasZero P t zs] (hh : hiOf L ss i = 0) (hs : stp ss i = 1) (hg : o.guard = none) (hd : o.dst = some de) (hn : Nat.blt de n = true) (h : o.op = .alloc t)
  (hH : ∀ b, Hb 0 b = .blk b t (zs.map .val) :: H) (next : TD P (AM H Hb de) L ss n (i + 1) rest ((de, .any) :: env) K) : TD P (AM H Hb de) L ss n i (o :: rest) env K :=
 ⟨.any, fun j h1 h2 => by
  obtain rfl : j = 0 := by omega
  rw [hs]
  refine ⟨hg, fun B I w r a hw hm ho hzz => ?_⟩
  have hz' := hz.h
  unfold zeroCells at hz'
  cases hi : P.info? t with
  | none => simp [hi] at hz'
  | some inf =>
   cases hz2 : inf.zero with
   | none => simp [hi, hz2] at hz'
   | some z =>
    simp [hi, hz2] at hz'
    have h1 : RelL I w (zs.map .val) z.cells.toList := by rw [hz']; exact relL_val zs
    refine Runs.of_value (v := .pointer (some ⟨w.heap.size, 0, none⟩)) (w' := w.alloc (.cells z.cells t)) (by simp [h]) (by simp [execOp, h, Instr.alloc, newVar, newRow, zeroValue, typeInfo, hi, hz2]) ⟨I, hw.alloc _, ext_alloc hw _, ⟨w.heap.size, ?_, ?_⟩, .any _⟩
    ·rw [hd]; exact tmps_put_same (hzz de hd)
    ·rw [hH]; exact HeapOk.new hm hw t _ _ h1, dstOk_of hd hn, by rw [hd]; exact next⟩
theorem TD.stoA (q : Nat) (hl : loOf L ss i = q + 1) (hh : hiOf L ss i = q + 1) (hs : stp ss i = 1) (hg : o.guard = none) (hd : o.dst = none) (h : ∀ b, SOk P (Hb q b) (Hb (q + 1) b) (envGet ((de, .p b 0) :: env)) o) (next : TD P (AM H Hb de) L ss n (i + 1) rest env K) : TD P (AM H Hb de) L ss n i (o :: rest) env K :=
 ⟨.any, fun j h1 h2 => by
  obtain rfl : j = q + 1 := by omega
  rw [hs]
  refine ⟨hg, fun B I w r a hw hm ho hz => ?_⟩
  obtain ⟨b, hb, hhp⟩ := hm
  have ho' : OpsOk I w (envGet ((de, .p b 0) :: env)) a o := fun x hx y hy => by
   cases x with
   | tmp t =>
    simp only [aeval] at hy
    rw [envGet_cons] at hy
    split at hy
    ·rename_i e
     subst e
     cases hy
     show Rel I w (.p b 0) (a.tmps.getD t undef)
     rw [hb]; exact .val _
    ·exact ho _ hx y hy
   | const v => exact ho _ hx y hy
   | global g => exact ho _ hx y hy
   | func f => exact ho _ hx y hy
  exact (h b B I w r a hw hhp ho').mono (fun v w' ⟨I', a1, a2, a3⟩ => ⟨I', a1, a2, ⟨b, by rw [hd]; exact hb, a3⟩, .any _⟩) (fun _ _ h => h), by rw [hd]; rfl, by rw [hd]; exact next⟩
end
open Go.ChangeShapes Go.WideShapes Go.ChangeAt Go.RowKit
theorem post_of_below {H : Type} {enc : TypeId × Value → H} {P : Program} {f : Func} {s : ChangeSpec} {apart fresh handsOn again : Bool} {W W' : World} {args : Array Value} {v : Value} {ds gs : List (DataW H)} {before pa pv : List MemPlace}
  (hW : DataW.Whole enc P f.params.toList s.vars apart W args.toList ds gs before)
  (hres : ∀ (b : Nat) (sp : Nat → Bool) (hd : Bool), DataW.TrodAll enc P W' b sp hd f.resultTypes.toList (v.resultList f.resultTypes.size) (s.fn H (ds ++ gs)).results [])
  (hargs : ∀ sp : Nat → Bool, (∀ p ∈ before, sp p.block = true) → DataW.TrodAll enc P W' 0 sp true f.params.toList args.toList (s.fn H (ds ++ gs)).args pa)
  (hvars : ∀ sp : Nat → Bool, (∀ p ∈ before, sp p.block = true) → DataW.TrodVars enc P W' sp s.vars (s.fn H (ds ++ gs)).vars pv)
  (hps : before = pa ++ pv) (hb : Below W.heap.size W W')
  (hok : ∀ (j : Nat) (t : TypeId) (r : Value), f.resultTypes[j]? = some t → (v.resultList f.resultTypes.size)[j]? = some r → Value.okWide P W' .any 0 t r) :
  s.post enc P f apart fresh handsOn again W args v W' := by
 have hold : ∀ p ∈ before, (fun b => decide (b < W.heap.size)) p.block = true := fun p hp => by simpa using hW.lt p hp
 have hlt : ∀ p ∈ before, p.block < W.heap.size := fun p hp => hW.lt p hp
 refine ⟨ds, gs, before, [], pa, pv, hW, hres _ _ _, hargs _ hold, hvars _ hold, hb.frame _, fun _ => ?_⟩
 obtain ⟨_, _, _, _, _, hz, hn⟩ := hW
 refine ⟨hok, _, _, ([] ++ pa) ++ pv, ⟨[] ++ pa, pv, trodAll_append (hargs _ (fun _ _ => rfl)) (hres _ _ _), hvars _ (fun _ _ => rfl), rfl, ?_, ?_⟩, ?_⟩
 ·intro b off hp
  have hp' : MemPlace.cell b off ∈ before := by rw [hps]; simpa using hp
  rw [hb.frozen (p := ⟨b, off, none⟩) (hlt _ hp')]
  exact hz b off hp'
 ·intro ha
  have := hn ha
  rw [hps] at this
  simpa using this
 ·intro p hp _
  rw [hps]
  simpa using hp
def mkInfo (P : Program) (t : TypeId) : Option (TypeId × Nat × Value) :=
 match P.underlying t with
 | some (.slice e) => match P.info? e with
  | some i => match i.zero with
   | some z => match z.cells.toList with
    | [v] => bif Nat.beq i.size 1 then some (e, i.bytes, v) else none
    | _ => none
   | none => none
  | none => none
 | _ => none
class HasMk (P : Program) (t : Nat) (x : outParam (Nat × Nat × Value)) : Prop where h : mkInfo P t = some x
section
variable {P : Program} {c : Ctx} {r : Option Nat} {ops : Array Oper} {rest : List Oper} {env : List (Nat × AV)} {H : List Ent} {Q : Exit → Act → World → Prop} {o : Oper} {d : Nat}
end
open Go.ChangeShapes Go.WideShapes
def allI (w : World) : Imm := fun b o => ∃ c, w.cell? ⟨b, o, none⟩ = some c
theorem allI_ok (w : World) : WOk w.heap.size (allI w) w := ⟨Nat.le_refl _, fun _ _ h => h⟩
section
variable {H : Type} {enc : TypeId × Value → H} {P : Program} {w : World} {base : Nat} {spare : Nat → Bool} {held : Bool}
def Reads (enc : TypeId × Value → H) (P : Program) (w : World) (base : Nat) (spare : Nat → Bool) (held : Bool) (n : Nat) (t : TypeId) {α : Type} (e : α → List AV) : Prop :=
 ∀ fuel, fuel ≤ n → ∀ cs x, DataW.trod enc P w base spare held fuel t cs = some x → ∃ y : α, RelL (allI w) w (e y) cs
theorem Reads.le {n m : Nat} {t : TypeId} {α : Type} {e : α → List AV} (h : Reads enc P w base spare held n t e) (hm : m ≤ n) : Reads enc P w base spare held m t e := fun f hf => h f (Nat.le_trans hf hm)
theorem reads_int {n : Nat} {t : TypeId} (ht : P.underlying t = some (.int .i64)) : Reads enc P w base spare held n t (fun q : Int => [AV.i q]) := fun fuel _ cs x h => by
 obtain ⟨q, rfl, _⟩ := DataW.trod_int ht h
 exact ⟨q, .cons _ _ _ _ (.val _) .nil⟩
theorem cells_all {b o : Nat} : ∀ {xs : List AV} {cs : List Value}, RelL (allI w) w xs cs → (∀ i, i < cs.length → w.cell? ⟨b, o + i, none⟩ = cs[i]?) → Cells (allI w) w b o xs
 | [], cs, _, _ => .nil _ _
 | x :: xs, cs, h, hc => by
  cases h with
  | cons _ v _ vs hx ht =>
   have h0 := hc 0 (by simp)
   simp at h0
   exact .cons _ _ _ _ _ h0 ⟨v, h0⟩ hx (cells_all ht fun i hi => by
    have := hc (i + 1) (by simp; omega)
    rw [Nat.add_assoc, Nat.add_comm 1 i]; simpa using this)
theorem reads_slice {n k : Nat} {t e : TypeId} {α : Type} {en : α → List AV} (ht : P.underlying t = some (.slice e)) (hk : P.cellsOf e = k) (hk0 : 0 < k) (hen : ∀ y, (en y).length = k) (he : Reads enc P w base spare held n e en) :
  Reads enc P w base spare held (n + 1) t (fun l : List α => [AV.sl k (l.map en)]) := fun fuel hf cs x h => by
 rcases DataW.trod_slice ht h with ⟨rfl, _⟩ | ⟨a, len, cap, elems, rest, m, rfl, rfl, rfl, hb, hc, hm, hl, hget, _⟩
 ·exact ⟨[], .cons _ _ _ _ (.sl0 _ _ _) .nil⟩
 ·have key : ∀ j, j ≤ len → ∃ l : List α, l.length = j ∧ (j = 0 ∨ a.spot = none) ∧ Els (allI w) w k a.block a.off (l.map en) := by
   intro j
   induction j with
   | zero => intro _; exact ⟨[], rfl, .inl rfl, .nil _ _ _⟩
   | succ j ih =>
    intro hj
    obtain ⟨l, h1, h2, h3⟩ := ih (by omega)
    have hg := hget j (by omega)
    rw [List.getElem?_eq_getElem (by omega)] at hg
    obtain ⟨cs', h4, h5⟩ := Option.bind_eq_some_iff.1 hg
    obtain ⟨h6, h7, h8⟩ := World.cells?_some h4
    obtain ⟨y, hy⟩ := he m (by omega) cs' _ h5
    have hlen : cs'.length = k := by rw [h7, hk]
    have hsp : a.spot = none := by
     by_cases hj0 : j = 0
     ·have h9 := h8 0 (by omega)
      rw [List.getElem?_eq_getElem (by omega), hj0, Nat.zero_mul] at h9
      have e3 : (a.add 0).add 0 = a := by simp [Addr.add]
      rw [e3] at h9
      cases hs : a.spot with
      | none => rfl
      | some q =>
       exfalso
       unfold World.cell? at h9
       rw [hs] at h9
       split at h9 <;> simp at h9
     ·exact h2.resolve_left (by omega)
    refine ⟨l ++ [y], by simp [h1], .inr hsp, ?_⟩
    rw [List.map_append]
    have hcl : Cells (allI w) w a.block (a.off + j * k) (en y) := cells_all hy fun i hi => by
     have h9 := h8 i (by omega)
     have e2 : (a.add (j * P.cellsOf e)).add i = ⟨a.block, a.off + j * k + i, none⟩ := by
      rw [Addr.add_add, hk]
      unfold Addr.add
      split
      ·obtain ⟨ab, ao, asp⟩ := a
       simp at hsp; subst hsp; simp; omega
      ·simp <;> omega
     rw [e2] at h9; exact h9
    exact h3.append (.cons _ _ _ _ _ (hen y) (by rw [List.length_map, h1]; exact hcl) (.nil _ _ _))
  obtain ⟨l, h1, h2, h3⟩ := key len (Nat.le_refl _)
  refine ⟨l, .cons _ _ _ _ ?_ .nil⟩
  rcases h2 with h2 | h2
  ·have : l = [] := List.eq_nil_of_length_eq_zero (by omega)
   subst this h2
   exact .sl0 _ _ _
  ·obtain ⟨b, o, sp⟩ := a
   simp at h2; subst h2
   exact .sl _ _ _ _ _ _ (by simp [h1]) hc hm h3
theorem relL_join {I : Imm} {xs ys : List AV} {cs : List Value} {a n m : Nat} (h1 : RelL I w xs ((cs.drop a).take n)) (h2 : RelL I w ys ((cs.drop (a + n)).take m)) : RelL I w (xs ++ ys) ((cs.drop a).take (n + m)) := by
 rw [List.take_add, List.drop_drop]; exact h1.append h2
theorem rel_agg {I : Imm} {xs : List AV} {v : Value} (h : RelL I w xs v.cells.toList) (hn : xs.length ≠ 1) : Rel I w (.agg xs) v := by
 have hl := h.length
 cases v with
 | agg vs => exact .agg _ _ h
 | _ => simp [Value.cells] at hl; omega
end
theorem args_stay {H : Type} {enc : TypeId × Value → H} {P : Program} (hl : laidOutB P = true) {W W' : World} (hb : Below W.heap.size W W') {sp : Nat → Bool} :
  ∀ {ts : List TypeId} {vs : List Value} {ds : List (DataW H)} {ps : List MemPlace}, (∀ t ∈ ts, P.readableRec t = true ∧ t < P.types.size) → DataW.TrodAll enc P W 0 (fun _ => true) true ts vs ds ps →
   (∀ p ∈ ps, p.block < W.heap.size) → (∀ p ∈ ps, sp p.block = true) → DataW.TrodAll enc P W' 0 sp true ts vs ds ps
 | [], vs, ds, ps, _, h, _, _ => by
  obtain ⟨rfl, rfl, rfl⟩ := trodAll_nil h
  exact h
 | t :: ts, vs, ds, ps, ht, h, h1, h2 => by
  obtain ⟨v, vs1, d, ds1, a, b, rfl, rfl, rfl, h3, h4⟩ := trodAll_cons h
  have hr := ht t (.head _)
  exact ⟨a, b, Go.WideElems.Trod_stays hl hr.1 hr.2 h3 (fun p hp => hb.same (h1 p (List.mem_append_left _ hp))) (fun p hp => h2 p (List.mem_append_left _ hp)),
   args_stay hl hb (fun t' ht' => ht t' (.tail _ ht')) h4 (fun p hp => h1 p (List.mem_append_right _ hp)) (fun p hp => h2 p (List.mem_append_right _ hp)), rfl⟩
section
variable {c : Ctx} {r : Option Nat} {P : Program} {ops : Array Oper} {rest L : List Oper} {o : Oper} {env : List (Nat × AV)} {H : List Ent} {Q : Exit → Act → World → Prop} {x : AV} {d n j k : Nat} {want g : Bool} {K : List (Nat × AV) → Prop}
theorem Omv (next : OL c r P ops rest ⟨(d, x) :: env, H⟩ Q) (s : o.guard = none ∧ o.dst = some d ∧ Nat.blt d c.n = true ∧ POp P H (envGet env) o x := by exact ⟨rfl, rfl, rfl, POp.move rfl rfl rfl⟩) : OL c r P ops (o :: rest) ⟨env, H⟩ Q := OL.popC s.1 s.2.1 s.2.2.1 s.2.2.2 next
theorem Pmv (next : OL c r P ops rest ⟨(d, .opt g x) :: env, H⟩ Q) (s : o.guard = some (j, want) ∧ (ops[j]?).bind (·.dst) = some k ∧ Nat.blt k c.n = true ∧ mkG (envGet env k) want = some g ∧ o.dst = some d ∧ Nat.blt d c.n = true ∧ (g = true → POp P H (envGet env) o x) := by exact ⟨rfl, rfl, rfl, rfl, rfl, rfl, fun hg => POp.move rfl rfl (by first | rfl | exact hg | exact (Bool.and_eq_true_iff.1 hg).1 | exact (Bool.and_eq_true_iff.1 (Bool.and_eq_true_iff.1 hg).1).1 | simp_all)⟩) : OL c r P ops (o :: rest) ⟨env, H⟩ Q := OL.guardC s.1 s.2.1 s.2.2.1 s.2.2.2.1 s.2.2.2.2.1 s.2.2.2.2.2.1 s.2.2.2.2.2.2 next
theorem Amv (next : AD P H L n rest ((d, x) :: env) K) (s : o.guard = none ∧ o.dst = some d ∧ Nat.blt d n = true ∧ POp P H (envGet env) o x := by exact ⟨rfl, rfl, rfl, POp.move rfl rfl rfl⟩) : AD P H L n (o :: rest) env K := AD.popC s.1 s.2.1 s.2.2.1 s.2.2.2 next
theorem Oas (next : OL c r P ops rest ⟨(d, x) :: env, H⟩ Q) (s : o.guard = none ∧ o.dst = some d ∧ Nat.blt d c.n = true ∧ POp P H (envGet env) o x := by exact ⟨rfl, rfl, rfl, POp.assign rfl rfl rfl⟩) : OL c r P ops (o :: rest) ⟨env, H⟩ Q := OL.popC s.1 s.2.1 s.2.2.1 s.2.2.2 next
theorem Aas (next : AD P H L n rest ((d, x) :: env) K) (s : o.guard = none ∧ o.dst = some d ∧ Nat.blt d n = true ∧ POp P H (envGet env) o x := by exact ⟨rfl, rfl, rfl, POp.assign rfl rfl rfl⟩) : AD P H L n (o :: rest) env K := AD.popC s.1 s.2.1 s.2.2.1 s.2.2.2 next
theorem Ola (next : OL c r P ops rest ⟨(d, x) :: env, H⟩ Q) (s : o.guard = none ∧ o.dst = some d ∧ Nat.blt d c.n = true ∧ POp P H (envGet env) o x := by exact ⟨rfl, rfl, rfl, (by first | exact POp.ldA rfl rfl rfl rfl | (apply POp.ldAH rfl rfl rfl; (case hm => repeat (first | exact .head _ | refine .tail _ ?_)); (case hy => rfl); (case hn => rfl)))⟩) : OL c r P ops (o :: rest) ⟨env, H⟩ Q := OL.popC s.1 s.2.1 s.2.2.1 s.2.2.2 next
theorem Pla (next : OL c r P ops rest ⟨(d, .opt g x) :: env, H⟩ Q) (s : o.guard = some (j, want) ∧ (ops[j]?).bind (·.dst) = some k ∧ Nat.blt k c.n = true ∧ mkG (envGet env k) want = some g ∧ o.dst = some d ∧ Nat.blt d c.n = true ∧ (g = true → POp P H (envGet env) o x) := by exact ⟨rfl, rfl, rfl, rfl, rfl, rfl, fun hg => (by first | exact POp.ldA rfl rfl (by first | rfl | exact hg | exact (Bool.and_eq_true_iff.1 hg).1 | exact (Bool.and_eq_true_iff.1 (Bool.and_eq_true_iff.1 hg).1).1 | simp_all) rfl | (apply POp.ldAH rfl rfl (by first | rfl | exact hg | exact (Bool.and_eq_true_iff.1 hg).1 | exact (Bool.and_eq_true_iff.1 (Bool.and_eq_true_iff.1 hg).1).1 | simp_all); (case hm => repeat (first | exact .head _ | refine .tail _ ?_)); (case hy => rfl); (case hn => rfl)))⟩) : OL c r P ops (o :: rest) ⟨env, H⟩ Q := OL.guardC s.1 s.2.1 s.2.2.1 s.2.2.2.1 s.2.2.2.2.1 s.2.2.2.2.2.1 s.2.2.2.2.2.2 next
theorem Ala (next : AD P H L n rest ((d, x) :: env) K) (s : o.guard = none ∧ o.dst = some d ∧ Nat.blt d n = true ∧ POp P H (envGet env) o x := by exact ⟨rfl, rfl, rfl, (by first | exact POp.ldA rfl rfl rfl rfl | (apply POp.ldAH rfl rfl rfl; (case hm => repeat (first | exact .head _ | refine .tail _ ?_)); (case hy => rfl); (case hn => rfl)))⟩) : AD P H L n (o :: rest) env K := AD.popC s.1 s.2.1 s.2.2.1 s.2.2.2 next
theorem Old (next : OL c r P ops rest ⟨(d, x) :: env, H⟩ Q) (s : o.guard = none ∧ o.dst = some d ∧ Nat.blt d c.n = true ∧ POp P H (envGet env) o x := by exact ⟨rfl, rfl, rfl, (by first | exact POp.ld1 rfl rfl rfl rfl | (apply POp.ld1H rfl rfl rfl; (case hm => repeat (first | exact .head _ | refine .tail _ ?_)); (case hy => rfl)))⟩) : OL c r P ops (o :: rest) ⟨env, H⟩ Q := OL.popC s.1 s.2.1 s.2.2.1 s.2.2.2 next
theorem Pld (next : OL c r P ops rest ⟨(d, .opt g x) :: env, H⟩ Q) (s : o.guard = some (j, want) ∧ (ops[j]?).bind (·.dst) = some k ∧ Nat.blt k c.n = true ∧ mkG (envGet env k) want = some g ∧ o.dst = some d ∧ Nat.blt d c.n = true ∧ (g = true → POp P H (envGet env) o x) := by exact ⟨rfl, rfl, rfl, rfl, rfl, rfl, fun hg => (by first | exact POp.ld1 rfl rfl (by first | rfl | exact hg | exact (Bool.and_eq_true_iff.1 hg).1 | exact (Bool.and_eq_true_iff.1 (Bool.and_eq_true_iff.1 hg).1).1 | simp_all) rfl | (apply POp.ld1H rfl rfl (by first | rfl | exact hg | exact (Bool.and_eq_true_iff.1 hg).1 | exact (Bool.and_eq_true_iff.1 (Bool.and_eq_true_iff.1 hg).1).1 | simp_all); (case hm => repeat (first | exact .head _ | refine .tail _ ?_)); (case hy => rfl)))⟩) : OL c r P ops (o :: rest) ⟨env, H⟩ Q := OL.guardC s.1 s.2.1 s.2.2.1 s.2.2.2.1 s.2.2.2.2.1 s.2.2.2.2.2.1 s.2.2.2.2.2.2 next
theorem Ald (next : AD P H L n rest ((d, x) :: env) K) (s : o.guard = none ∧ o.dst = some d ∧ Nat.blt d n = true ∧ POp P H (envGet env) o x := by exact ⟨rfl, rfl, rfl, (by first | exact POp.ld1 rfl rfl rfl rfl | (apply POp.ld1H rfl rfl rfl; (case hm => repeat (first | exact .head _ | refine .tail _ ?_)); (case hy => rfl)))⟩) : AD P H L n (o :: rest) env K := AD.popC s.1 s.2.1 s.2.2.1 s.2.2.2 next
theorem Ofa (next : OL c r P ops rest ⟨(d, x) :: env, H⟩ Q) (s : o.guard = none ∧ o.dst = some d ∧ Nat.blt d c.n = true ∧ POp P H (envGet env) o x := by exact ⟨rfl, rfl, rfl, (by first | exact POp.fa rfl rfl rfl rfl | exact POp.faP rfl rfl rfl rfl)⟩) : OL c r P ops (o :: rest) ⟨env, H⟩ Q := OL.popC s.1 s.2.1 s.2.2.1 s.2.2.2 next
theorem Pfa (next : OL c r P ops rest ⟨(d, .opt g x) :: env, H⟩ Q) (s : o.guard = some (j, want) ∧ (ops[j]?).bind (·.dst) = some k ∧ Nat.blt k c.n = true ∧ mkG (envGet env k) want = some g ∧ o.dst = some d ∧ Nat.blt d c.n = true ∧ (g = true → POp P H (envGet env) o x) := by exact ⟨rfl, rfl, rfl, rfl, rfl, rfl, fun hg => (by first | exact POp.fa rfl rfl (by first | rfl | exact hg | exact (Bool.and_eq_true_iff.1 hg).1 | exact (Bool.and_eq_true_iff.1 (Bool.and_eq_true_iff.1 hg).1).1 | simp_all) rfl | exact POp.faP rfl rfl (by first | rfl | exact hg | exact (Bool.and_eq_true_iff.1 hg).1 | exact (Bool.and_eq_true_iff.1 (Bool.and_eq_true_iff.1 hg).1).1 | simp_all) rfl)⟩) : OL c r P ops (o :: rest) ⟨env, H⟩ Q := OL.guardC s.1 s.2.1 s.2.2.1 s.2.2.2.1 s.2.2.2.2.1 s.2.2.2.2.2.1 s.2.2.2.2.2.2 next
theorem Afa (next : AD P H L n rest ((d, x) :: env) K) (s : o.guard = none ∧ o.dst = some d ∧ Nat.blt d n = true ∧ POp P H (envGet env) o x := by exact ⟨rfl, rfl, rfl, (by first | exact POp.fa rfl rfl rfl rfl | exact POp.faP rfl rfl rfl rfl)⟩) : AD P H L n (o :: rest) env K := AD.popC s.1 s.2.1 s.2.2.1 s.2.2.2 next
theorem Ocm (next : OL c r P ops rest ⟨(d, x) :: env, H⟩ Q) (s : o.guard = none ∧ o.dst = some d ∧ Nat.blt d c.n = true ∧ POp P H (envGet env) o x := by exact ⟨rfl, rfl, rfl, POp.cmp rfl rfl rfl rfl rfl rfl⟩) : OL c r P ops (o :: rest) ⟨env, H⟩ Q := OL.popC s.1 s.2.1 s.2.2.1 s.2.2.2 next
theorem Pcm (next : OL c r P ops rest ⟨(d, .opt g x) :: env, H⟩ Q) (s : o.guard = some (j, want) ∧ (ops[j]?).bind (·.dst) = some k ∧ Nat.blt k c.n = true ∧ mkG (envGet env k) want = some g ∧ o.dst = some d ∧ Nat.blt d c.n = true ∧ (g = true → POp P H (envGet env) o x) := by exact ⟨rfl, rfl, rfl, rfl, rfl, rfl, fun hg => POp.cmp rfl rfl rfl (by first | rfl | exact hg | exact (Bool.and_eq_true_iff.1 hg).1 | exact (Bool.and_eq_true_iff.1 (Bool.and_eq_true_iff.1 hg).1).1 | simp_all) (by first | rfl | exact hg | exact (Bool.and_eq_true_iff.1 hg).1 | exact (Bool.and_eq_true_iff.1 (Bool.and_eq_true_iff.1 hg).1).1 | simp_all) rfl⟩) : OL c r P ops (o :: rest) ⟨env, H⟩ Q := OL.guardC s.1 s.2.1 s.2.2.1 s.2.2.2.1 s.2.2.2.2.1 s.2.2.2.2.2.1 s.2.2.2.2.2.2 next
theorem Oex (next : OL c r P ops rest ⟨(d, x) :: env, H⟩ Q) (s : o.guard = none ∧ o.dst = some d ∧ Nat.blt d c.n = true ∧ POp P H (envGet env) o x := by exact ⟨rfl, rfl, rfl, POp.extract rfl rfl rfl rfl⟩) : OL c r P ops (o :: rest) ⟨env, H⟩ Q := OL.popC s.1 s.2.1 s.2.2.1 s.2.2.2 next
theorem Aex (next : AD P H L n rest ((d, x) :: env) K) (s : o.guard = none ∧ o.dst = some d ∧ Nat.blt d n = true ∧ POp P H (envGet env) o x := by exact ⟨rfl, rfl, rfl, POp.extract rfl rfl rfl rfl⟩) : AD P H L n (o :: rest) env K := AD.popC s.1 s.2.1 s.2.2.1 s.2.2.2 next
theorem Ont (next : OL c r P ops rest ⟨(d, x) :: env, H⟩ Q) (s : o.guard = none ∧ o.dst = some d ∧ Nat.blt d c.n = true ∧ POp P H (envGet env) o x := by exact ⟨rfl, rfl, rfl, POp.not rfl rfl rfl⟩) : OL c r P ops (o :: rest) ⟨env, H⟩ Q := OL.popC s.1 s.2.1 s.2.2.1 s.2.2.2 next
theorem Pnt (next : OL c r P ops rest ⟨(d, .opt g x) :: env, H⟩ Q) (s : o.guard = some (j, want) ∧ (ops[j]?).bind (·.dst) = some k ∧ Nat.blt k c.n = true ∧ mkG (envGet env k) want = some g ∧ o.dst = some d ∧ Nat.blt d c.n = true ∧ (g = true → POp P H (envGet env) o x) := by exact ⟨rfl, rfl, rfl, rfl, rfl, rfl, fun hg => POp.not rfl rfl (by first | rfl | exact hg | exact (Bool.and_eq_true_iff.1 hg).1 | exact (Bool.and_eq_true_iff.1 (Bool.and_eq_true_iff.1 hg).1).1 | simp_all)⟩) : OL c r P ops (o :: rest) ⟨env, H⟩ Q := OL.guardC s.1 s.2.1 s.2.2.1 s.2.2.2.1 s.2.2.2.2.1 s.2.2.2.2.2.1 s.2.2.2.2.2.2 next
theorem Ant (next : AD P H L n rest ((d, x) :: env) K) (s : o.guard = none ∧ o.dst = some d ∧ Nat.blt d n = true ∧ POp P H (envGet env) o x := by exact ⟨rfl, rfl, rfl, POp.not rfl rfl rfl⟩) : AD P H L n (o :: rest) env K := AD.popC s.1 s.2.1 s.2.2.1 s.2.2.2 next
theorem Oar (next : OL c r P ops rest ⟨(d, x) :: env, H⟩ Q) (s : o.guard = none ∧ o.dst = some d ∧ Nat.blt d c.n = true ∧ POp P H (envGet env) o x := by exact ⟨rfl, rfl, rfl, POp.arith rfl rfl rfl rfl rfl rfl (wrap64 (by omega))⟩) : OL c r P ops (o :: rest) ⟨env, H⟩ Q := OL.popC s.1 s.2.1 s.2.2.1 s.2.2.2 next
theorem Par (next : OL c r P ops rest ⟨(d, .opt g x) :: env, H⟩ Q) (s : o.guard = some (j, want) ∧ (ops[j]?).bind (·.dst) = some k ∧ Nat.blt k c.n = true ∧ mkG (envGet env k) want = some g ∧ o.dst = some d ∧ Nat.blt d c.n = true ∧ (g = true → POp P H (envGet env) o x) := by exact ⟨rfl, rfl, rfl, rfl, rfl, rfl, fun hg => POp.arith rfl rfl rfl (by first | rfl | exact hg | exact (Bool.and_eq_true_iff.1 hg).1 | exact (Bool.and_eq_true_iff.1 (Bool.and_eq_true_iff.1 hg).1).1 | simp_all) (by first | rfl | exact hg | exact (Bool.and_eq_true_iff.1 hg).1 | exact (Bool.and_eq_true_iff.1 (Bool.and_eq_true_iff.1 hg).1).1 | simp_all) rfl (wrap64 (by omega))⟩) : OL c r P ops (o :: rest) ⟨env, H⟩ Q := OL.guardC s.1 s.2.1 s.2.2.1 s.2.2.2.1 s.2.2.2.2.1 s.2.2.2.2.2.1 s.2.2.2.2.2.2 next
theorem Oln (next : OL c r P ops rest ⟨(d, x) :: env, H⟩ Q) (s : o.guard = none ∧ o.dst = some d ∧ Nat.blt d c.n = true ∧ POp P H (envGet env) o x := by exact ⟨rfl, rfl, rfl, (by first | exact POp.lenM rfl rfl rfl | exact POp.lenA rfl rfl rfl | exact POp.lenV rfl rfl rfl | exact POp.len' rfl rfl rfl)⟩) : OL c r P ops (o :: rest) ⟨env, H⟩ Q := OL.popC s.1 s.2.1 s.2.2.1 s.2.2.2 next
theorem Pln (next : OL c r P ops rest ⟨(d, .opt g x) :: env, H⟩ Q) (s : o.guard = some (j, want) ∧ (ops[j]?).bind (·.dst) = some k ∧ Nat.blt k c.n = true ∧ mkG (envGet env k) want = some g ∧ o.dst = some d ∧ Nat.blt d c.n = true ∧ (g = true → POp P H (envGet env) o x) := by exact ⟨rfl, rfl, rfl, rfl, rfl, rfl, fun hg => (by first | exact POp.lenM rfl rfl (by first | rfl | exact hg | exact (Bool.and_eq_true_iff.1 hg).1 | exact (Bool.and_eq_true_iff.1 (Bool.and_eq_true_iff.1 hg).1).1 | simp_all) | exact POp.lenA rfl rfl (by first | rfl | exact hg | exact (Bool.and_eq_true_iff.1 hg).1 | exact (Bool.and_eq_true_iff.1 (Bool.and_eq_true_iff.1 hg).1).1 | simp_all) | exact POp.lenV rfl rfl (by first | rfl | exact hg | exact (Bool.and_eq_true_iff.1 hg).1 | exact (Bool.and_eq_true_iff.1 (Bool.and_eq_true_iff.1 hg).1).1 | simp_all) | exact POp.len' rfl rfl (by first | rfl | exact hg | exact (Bool.and_eq_true_iff.1 hg).1 | exact (Bool.and_eq_true_iff.1 (Bool.and_eq_true_iff.1 hg).1).1 | simp_all))⟩) : OL c r P ops (o :: rest) ⟨env, H⟩ Q := OL.guardC s.1 s.2.1 s.2.2.1 s.2.2.2.1 s.2.2.2.2.1 s.2.2.2.2.2.1 s.2.2.2.2.2.2 next
theorem Aln (next : AD P H L n rest ((d, x) :: env) K) (s : o.guard = none ∧ o.dst = some d ∧ Nat.blt d n = true ∧ POp P H (envGet env) o x := by exact ⟨rfl, rfl, rfl, (by first | exact POp.lenM rfl rfl rfl | exact POp.lenA rfl rfl rfl | exact POp.lenV rfl rfl rfl | exact POp.len' rfl rfl rfl)⟩) : AD P H L n (o :: rest) env K := AD.popC s.1 s.2.1 s.2.2.1 s.2.2.2 next
theorem Onc (next : OL c r P ops rest ⟨(d, x) :: env, H⟩ Q) (s : o.guard = none ∧ o.dst = some d ∧ Nat.blt d c.n = true ∧ POp P H (envGet env) o x := by exact ⟨rfl, rfl, rfl, (by first | exact POp.nilCheck rfl rfl rfl | exact POp.nilCheckP rfl rfl rfl | exact POp.nilCheckF rfl rfl rfl)⟩) : OL c r P ops (o :: rest) ⟨env, H⟩ Q := OL.popC s.1 s.2.1 s.2.2.1 s.2.2.2 next
theorem Pnc (next : OL c r P ops rest ⟨(d, .opt g x) :: env, H⟩ Q) (s : o.guard = some (j, want) ∧ (ops[j]?).bind (·.dst) = some k ∧ Nat.blt k c.n = true ∧ mkG (envGet env k) want = some g ∧ o.dst = some d ∧ Nat.blt d c.n = true ∧ (g = true → POp P H (envGet env) o x) := by exact ⟨rfl, rfl, rfl, rfl, rfl, rfl, fun hg => (by first | exact POp.nilCheck rfl rfl (by first | rfl | exact hg | exact (Bool.and_eq_true_iff.1 hg).1 | exact (Bool.and_eq_true_iff.1 (Bool.and_eq_true_iff.1 hg).1).1 | simp_all) | exact POp.nilCheckP rfl rfl (by first | rfl | exact hg | exact (Bool.and_eq_true_iff.1 hg).1 | exact (Bool.and_eq_true_iff.1 (Bool.and_eq_true_iff.1 hg).1).1 | simp_all) | exact POp.nilCheckF rfl rfl (by first | rfl | exact hg | exact (Bool.and_eq_true_iff.1 hg).1 | exact (Bool.and_eq_true_iff.1 (Bool.and_eq_true_iff.1 hg).1).1 | simp_all))⟩) : OL c r P ops (o :: rest) ⟨env, H⟩ Q := OL.guardC s.1 s.2.1 s.2.2.1 s.2.2.2.1 s.2.2.2.2.1 s.2.2.2.2.2.1 s.2.2.2.2.2.2 next
theorem Anc (next : AD P H L n rest ((d, x) :: env) K) (s : o.guard = none ∧ o.dst = some d ∧ Nat.blt d n = true ∧ POp P H (envGet env) o x := by exact ⟨rfl, rfl, rfl, (by first | exact POp.nilCheck rfl rfl rfl | exact POp.nilCheckP rfl rfl rfl | exact POp.nilCheckF rfl rfl rfl)⟩) : AD P H L n (o :: rest) env K := AD.popC s.1 s.2.1 s.2.2.1 s.2.2.2 next
theorem Obd (next : OL c r P ops rest ⟨(d, x) :: env, H⟩ Q) (s : o.guard = none ∧ o.dst = some d ∧ Nat.blt d c.n = true ∧ POp P H (envGet env) o x := by exact ⟨rfl, rfl, rfl, POp.build' rfl rfl (by first | rfl | simp_all [strip]) rfl⟩) : OL c r P ops (o :: rest) ⟨env, H⟩ Q := OL.popC s.1 s.2.1 s.2.2.1 s.2.2.2 next
theorem Oeb (next : OL c r P ops rest ⟨(d, x) :: env, H⟩ Q) (s : o.guard = none ∧ o.dst = some d ∧ Nat.blt d c.n = true ∧ POp P H (envGet env) o x := by exact ⟨rfl, rfl, rfl, POp.eqB (op := .eql) rfl rfl rfl rfl rfl⟩) : OL c r P ops (o :: rest) ⟨env, H⟩ Q := OL.popC s.1 s.2.1 s.2.2.1 s.2.2.2 next
theorem Peb (next : OL c r P ops rest ⟨(d, .opt g x) :: env, H⟩ Q) (s : o.guard = some (j, want) ∧ (ops[j]?).bind (·.dst) = some k ∧ Nat.blt k c.n = true ∧ mkG (envGet env k) want = some g ∧ o.dst = some d ∧ Nat.blt d c.n = true ∧ (g = true → POp P H (envGet env) o x) := by exact ⟨rfl, rfl, rfl, rfl, rfl, rfl, fun hg => POp.eqB (op := .eql) rfl rfl (by first | rfl | exact hg | exact (Bool.and_eq_true_iff.1 hg).1 | exact (Bool.and_eq_true_iff.1 (Bool.and_eq_true_iff.1 hg).1).1 | simp_all) rfl (by first | rfl | exact hg | exact (Bool.and_eq_true_iff.1 hg).1 | exact (Bool.and_eq_true_iff.1 (Bool.and_eq_true_iff.1 hg).1).1 | simp_all)⟩) : OL c r P ops (o :: rest) ⟨env, H⟩ Q := OL.guardC s.1 s.2.1 s.2.2.1 s.2.2.2.1 s.2.2.2.2.1 s.2.2.2.2.2.1 s.2.2.2.2.2.2 next
theorem Opk (next : OL c r P ops rest ⟨(d, x) :: env, H⟩ Q) (s : o.guard = none ∧ o.dst = some d ∧ Nat.blt d c.n = true ∧ POp P H (envGet env) o x := by exact ⟨rfl, rfl, rfl, POp.pick rfl rfl rfl rfl rfl (by first | exact fun _ => rfl | exact fun h => h | (intro h; rw [h]; rfl) | (intro h; simp_all)) (by first | exact fun _ => rfl | exact fun h => h | (intro h; rw [h]; rfl) | (intro h; simp_all))⟩) : OL c r P ops (o :: rest) ⟨env, H⟩ Q := OL.popC s.1 s.2.1 s.2.2.1 s.2.2.2 next
theorem Obx (next : OL c r P ops rest ⟨(d, x) :: env, H⟩ Q) (s : o.guard = none ∧ o.dst = some d ∧ Nat.blt d c.n = true ∧ POp P H (envGet env) o x := by exact ⟨rfl, rfl, rfl, POp.boxI rfl rfl rfl rfl⟩) : OL c r P ops (o :: rest) ⟨env, H⟩ Q := OL.popC s.1 s.2.1 s.2.2.1 s.2.2.2 next
theorem Or0 (next : OL c r P ops rest ⟨(d, x) :: env, H⟩ Q) (s : o.guard = none ∧ o.dst = some d ∧ Nat.blt d c.n = true ∧ POp P H (envGet env) o x := by exact ⟨rfl, rfl, rfl, POp.row0 rfl⟩) : OL c r P ops (o :: rest) ⟨env, H⟩ Q := OL.popC s.1 s.2.1 s.2.2.1 s.2.2.2 next
theorem Oix (next : OL c r P ops rest ⟨(d, x) :: env, H⟩ Q) (s : o.guard = none ∧ o.dst = some d ∧ Nat.blt d c.n = true ∧ POp P H (envGet env) o x := by exact ⟨rfl, rfl, rfl, (by first | exact POp.ixM rfl rfl rfl rfl rfl (by omega) | exact POp.ixI rfl rfl rfl rfl rfl (by omega))⟩) : OL c r P ops (o :: rest) ⟨env, H⟩ Q := OL.popC s.1 s.2.1 s.2.2.1 s.2.2.2 next
theorem Aix (next : AD P H L n rest ((d, x) :: env) K) (s : o.guard = none ∧ o.dst = some d ∧ Nat.blt d n = true ∧ POp P H (envGet env) o x := by exact ⟨rfl, rfl, rfl, (by first | exact POp.ixM rfl rfl rfl rfl rfl (by omega) | exact POp.ixI rfl rfl rfl rfl rfl (by omega))⟩) : AD P H L n (o :: rest) env K := AD.popC s.1 s.2.1 s.2.2.1 s.2.2.2 next
theorem Oia (next : OL c r P ops rest ⟨(d, x) :: env, H⟩ Q) (s : o.guard = none ∧ o.dst = some d ∧ Nat.blt d c.n = true ∧ POp P H (envGet env) o x := by exact ⟨rfl, rfl, rfl, (by first | exact POp.ia rfl rfl rfl rfl rfl (by omega) | exact POp.iaP rfl rfl rfl rfl rfl (by omega))⟩) : OL c r P ops (o :: rest) ⟨env, H⟩ Q := OL.popC s.1 s.2.1 s.2.2.1 s.2.2.2 next
theorem Aia (next : AD P H L n rest ((d, x) :: env) K) (s : o.guard = none ∧ o.dst = some d ∧ Nat.blt d n = true ∧ POp P H (envGet env) o x := by exact ⟨rfl, rfl, rfl, (by first | exact POp.ia rfl rfl rfl rfl rfl (by omega) | exact POp.iaP rfl rfl rfl rfl rfl (by omega))⟩) : AD P H L n (o :: rest) env K := AD.popC s.1 s.2.1 s.2.2.1 s.2.2.2 next
theorem Omf (next : OL c r P ops rest ⟨(d, x) :: env, H⟩ Q) (s : o.guard = none ∧ o.dst = some d ∧ Nat.blt d c.n = true ∧ POp P H (envGet env) o x := by exact ⟨rfl, rfl, rfl, POp.makeFunc rfl rfl rfl (by first | rfl | simp_all [strip]) (by first | rfl | simp_all [strip])⟩) : OL c r P ops (o :: rest) ⟨env, H⟩ Q := OL.popC s.1 s.2.1 s.2.2.1 s.2.2.2 next
theorem Pmf (next : OL c r P ops rest ⟨(d, .opt g x) :: env, H⟩ Q) (s : o.guard = some (j, want) ∧ (ops[j]?).bind (·.dst) = some k ∧ Nat.blt k c.n = true ∧ mkG (envGet env k) want = some g ∧ o.dst = some d ∧ Nat.blt d c.n = true ∧ (g = true → POp P H (envGet env) o x) := by exact ⟨rfl, rfl, rfl, rfl, rfl, rfl, fun hg => POp.makeFunc rfl rfl rfl (by first | rfl | simp_all [strip]) (by first | rfl | simp_all [strip])⟩) : OL c r P ops (o :: rest) ⟨env, H⟩ Q := OL.guardC s.1 s.2.1 s.2.2.1 s.2.2.2.1 s.2.2.2.2.1 s.2.2.2.2.2.1 s.2.2.2.2.2.2 next
theorem Amf (next : AD P H L n rest ((d, x) :: env) K) (s : o.guard = none ∧ o.dst = some d ∧ Nat.blt d n = true ∧ POp P H (envGet env) o x := by exact ⟨rfl, rfl, rfl, POp.makeFunc rfl rfl rfl (by first | rfl | simp_all [strip]) (by first | rfl | simp_all [strip])⟩) : AD P H L n (o :: rest) env K := AD.popC s.1 s.2.1 s.2.2.1 s.2.2.2 next
end
structure Hid (p : Prop) : Prop where
 out : p
theorem S1 {goal next : Prop} (k : next) (h : Hid next → goal := by
  intro k
  first
   | with_reducible refine Done.seq ?_
   | with_reducible refine CW.seq ?_
   | with_reducible refine CW.region ?_
   | with_reducible refine OL.nil ?_
   | with_reducible refine CW.skip ?_
   | with_reducible refine CW.ret ?_
   | with_reducible refine CW.block ?_
   | with_reducible refine CW.exit ?_
   | with_reducible refine Done.thenRet ?_
   | with_reducible refine Done.thenExit ?_
   | with_reducible refine Done.blkNormal ?_
   | with_reducible refine Done.blkRet ?_
   | with_reducible refine Done.blkExit ?_
   | refine Done.blkOther rfl ?_
  exact k.out) : goal := h ⟨k⟩
theorem S2 {goal next : Prop} (k : next) (h : Hid next → goal := by
  intro k
  iterate 2 refine S1 ?_
  exact k.out) : goal := h ⟨k⟩
theorem S3 {goal next : Prop} (k : next) (h : Hid next → goal := by
  intro k
  iterate 3 refine S1 ?_
  exact k.out) : goal := h ⟨k⟩
theorem S4 {goal next : Prop} (k : next) (h : Hid next → goal := by
  intro k
  iterate 4 refine S1 ?_
  exact k.out) : goal := h ⟨k⟩
theorem S5 {goal next : Prop} (k : next) (h : Hid next → goal := by
  intro k
  iterate 5 refine S1 ?_
  exact k.out) : goal := h ⟨k⟩
theorem S6 {goal next : Prop} (k : next) (h : Hid next → goal := by
  intro k
  iterate 6 refine S1 ?_
  exact k.out) : goal := h ⟨k⟩
theorem S7 {goal next : Prop} (k : next) (h : Hid next → goal := by
  intro k
  iterate 7 refine S1 ?_
  exact k.out) : goal := h ⟨k⟩
theorem S8 {goal next : Prop} (k : next) (h : Hid next → goal := by
  intro k
  iterate 8 refine S1 ?_
  exact k.out) : goal := h ⟨k⟩
theorem S9 {goal next : Prop} (k : next) (h : Hid next → goal := by
  intro k
  iterate 9 refine S1 ?_
  exact k.out) : goal := h ⟨k⟩
theorem S10 {goal next : Prop} (k : next) (h : Hid next → goal := by
  intro k
  iterate 10 refine S1 ?_
  exact k.out) : goal := h ⟨k⟩
theorem S11 {goal next : Prop} (k : next) (h : Hid next → goal := by
  intro k
  iterate 11 refine S1 ?_
  exact k.out) : goal := h ⟨k⟩
theorem S12 {goal next : Prop} (k : next) (h : Hid next → goal := by
  intro k
  iterate 12 refine S1 ?_
  exact k.out) : goal := h ⟨k⟩
theorem S13 {goal next : Prop} (k : next) (h : Hid next → goal := by
  intro k
  iterate 13 refine S1 ?_
  exact k.out) : goal := h ⟨k⟩
theorem S14 {goal next : Prop} (k : next) (h : Hid next → goal := by
  intro k
  iterate 14 refine S1 ?_
  exact k.out) : goal := h ⟨k⟩
theorem S15 {goal next : Prop} (k : next) (h : Hid next → goal := by
  intro k
  iterate 15 refine S1 ?_
  exact k.out) : goal := h ⟨k⟩
theorem S16 {goal next : Prop} (k : next) (h : Hid next → goal := by
  intro k
  iterate 16 refine S1 ?_
  exact k.out) : goal := h ⟨k⟩
theorem S17 {goal next : Prop} (k : next) (h : Hid next → goal := by
  intro k
  iterate 17 refine S1 ?_
  exact k.out) : goal := h ⟨k⟩
theorem S18 {goal next : Prop} (k : next) (h : Hid next → goal := by
  intro k
  iterate 18 refine S1 ?_
  exact k.out) : goal := h ⟨k⟩
theorem S19 {goal next : Prop} (k : next) (h : Hid next → goal := by
  intro k
  iterate 19 refine S1 ?_
  exact k.out) : goal := h ⟨k⟩
theorem S20 {goal next : Prop} (k : next) (h : Hid next → goal := by
  intro k
  iterate 20 refine S1 ?_
  exact k.out) : goal := h ⟨k⟩
theorem S21 {goal next : Prop} (k : next) (h : Hid next → goal := by
  intro k
  iterate 21 refine S1 ?_
  exact k.out) : goal := h ⟨k⟩
theorem S22 {goal next : Prop} (k : next) (h : Hid next → goal := by
  intro k
  iterate 22 refine S1 ?_
  exact k.out) : goal := h ⟨k⟩
theorem S23 {goal next : Prop} (k : next) (h : Hid next → goal := by
  intro k
  iterate 23 refine S1 ?_
  exact k.out) : goal := h ⟨k⟩
theorem S24 {goal next : Prop} (k : next) (h : Hid next → goal := by
  intro k
  iterate 24 refine S1 ?_
  exact k.out) : goal := h ⟨k⟩
theorem S25 {goal next : Prop} (k : next) (h : Hid next → goal := by
  intro k
  iterate 25 refine S1 ?_
  exact k.out) : goal := h ⟨k⟩
theorem S26 {goal next : Prop} (k : next) (h : Hid next → goal := by
  intro k
  iterate 26 refine S1 ?_
  exact k.out) : goal := h ⟨k⟩
theorem S27 {goal next : Prop} (k : next) (h : Hid next → goal := by
  intro k
  iterate 27 refine S1 ?_
  exact k.out) : goal := h ⟨k⟩
theorem S28 {goal next : Prop} (k : next) (h : Hid next → goal := by
  intro k
  iterate 28 refine S1 ?_
  exact k.out) : goal := h ⟨k⟩
theorem S29 {goal next : Prop} (k : next) (h : Hid next → goal := by
  intro k
  iterate 29 refine S1 ?_
  exact k.out) : goal := h ⟨k⟩
theorem S30 {goal next : Prop} (k : next) (h : Hid next → goal := by
  intro k
  iterate 30 refine S1 ?_
  exact k.out) : goal := h ⟨k⟩
theorem Sto {goal next : Prop} (k : next) (h : Hid next → goal := by
  intro k
  apply OL.stoC rfl rfl rfl rfl rfl rfl rfl rfl rfl rfl; (case hu => repeat (first | exact Upd.head _ _ _ | apply Upd.tail)); (case hfit => rfl); (case hds => rfl)
  exact k.out) : goal := h ⟨k⟩
theorem gd {G p : Prop} (hg : G) (h : G → p := by
  intro hg
  first | rfl | exact hg | exact (Bool.and_eq_true_iff.1 hg).1 | exact (Bool.and_eq_true_iff.1 (Bool.and_eq_true_iff.1 hg).1).1 | simp_all) : p := h hg
theorem nm {p q : Prop} (h : p) (s : p → q := by
  intro h
  first
   | (simp only [decide_eq_true_eq, decide_eq_false_iff_not, beq_iff_eq, bne_iff_ne, ne_eq, Int.not_lt, Int.not_le, beq_eq_false_iff_ne, gt_iff_lt, ge_iff_le, Bool.not_eq_true, Bool.not_eq_false, Bool.not_eq_false', bne_eq_false_iff_eq] at h; exact h)
   | exact h) : q := s h
section
variable {c : Ctx} {r : Option Nat} {P : Program} {Q : Exit → Act → World → Prop} {st : St}
theorem lj (J : Nat → Go.Eng.St → Prop) {p : Code} {m : Nat} {st' : Go.Eng.St} (hJ : J m st')
  (round : ∀ m st', J m st' → CW c r P p st' (Exit.then (fun a w => ∃ m' st'', m' < m ∧ J m' st'' ∧ Sat c st'' a w) Q))
  (he : envLe st'.env st.env := by repeat (first | exact trivial | refine ⟨rfl, ?_⟩))
  (hH : st'.H.Sublist st.H := by repeat (first | exact List.Sublist.refl _ | refine List.Sublist.cons _ ?_)) : CW c r P (.loop p) st Q :=
 CW.loopJ J ⟨m, st', hJ, he, hH⟩ round
theorem ag {J : Nat → Go.Eng.St → Prop} {m m' : Nat} {st' : Go.Eng.St} (hJ : J m' st') (hm : m' < m := by omega) (he : envLe st'.env st.env := by repeat (first | exact trivial | refine ⟨rfl, ?_⟩))
  (hH : st'.H.Sublist st.H := by repeat (first | exact List.Sublist.refl _ | refine List.Sublist.cons _ ?_)) : Done c st .normal (Exit.then (fun a w => ∃ m' st'', m' < m ∧ J m' st'' ∧ Sat c st'' a w) Q) :=
 Done.againJ hJ hm he hH
theorem r1 {fn : Func} {B : Nat} {I0 : Imm} {w0 : World} {n : Nat} {Φ : AV → List Ent → Prop} {E : AV → Prop} (t : Nat) (H' : List Ent) {y : AV} (hΦ : Φ (tupOf [y]) H') (hr : fn.results = #[.tmp t] := by exact rfl) (hy : ResOk P st [.tmp t] [y] := by exact .tmp rfl .nil)
  (hH : H'.Sublist st.H := by repeat (first | exact List.Sublist.refl _ | refine List.Sublist.cons _ ?_)) : Done ⟨B, I0, w0, n, []⟩ st .ret (bodyPost P fn (RetP B I0 w0 Φ E)) :=
 Done.retR (rs := [.tmp t]) (H' := H') hr hy (AVleL.refl _) hH hΦ
end
section
variable {P : Program} {r : Option Nat} {o : Oper} {H : List Ent}
end
section
variable {c : Ctx} {r : Option Nat} {P : Program} {l : List Oper} {Q : Exit → Act → World → Prop}
end
section
variable {P : Program} {L rest : List Oper} {ss : List Nat} {n i d : Nat} {o : Oper} {env : List (Nat × AV)} {K : List (Nat × AV) → Prop} {x : AV} {H : List Ent} {e k : Nat} {E1 E2 : List (List AV)} {d1 d2 : Nat}
end
def fldV (P : Program) (t : TypeId) (f : Nat) : Option Nat :=
 match P.underlying t with
 | some (.struct fs) => match fs[f]? with
  | some fd => match tyInfo P fd.type with
   | some (false, _) => some fd.offset
   | _ => none
  | none => none
 | _ => none
class HasFldV (P : Program) (t f : Nat) (x : outParam Nat) : Prop where h : fldV P t f = some x
section
variable {P : Program} {H : List Ent} {ρ : Nat → Option AV} {o : Oper}
end
structure SegOkW (l : List Oper) (k m dW : Nat) : Prop where
 back : ∀ i o, l[i]? = some o → ∀ j ∈ deps o, j < i
 tail : ∀ i, m ≤ i → i < l.length → ∀ j, k ≤ j → j < m → ((masks l []).getD i 0).testBit j = true
 apart : ∀ i oi j oj d, k ≤ i → i < m → l[i]? = some oi → k ≤ j → j < m → l[j]? = some oj → oj.dst = some d → i ≠ j → oi.dst ≠ some d
 looked : ∀ i oi j oj d, d ≠ dW → k ≤ i → i < m → l[i]? = some oi → k ≤ j → j < m → l[j]? = some oj → oj.dst = some d → d ∈ looks l oi → j < i ∧ ((masks l []).getD i 0).testBit j = true
section
variable {c : Ctx} {r : Option Nat} {P : Program} {l : List Oper} {st : St} {Q : Exit → Act → World → Prop}
end
section
variable {c : Ctx} {r : Option Nat} {P : Program} {l : List Oper} {Q : Exit → Act → World → Prop}
end
section
variable {P : Program} {L rest : List Oper} {n i d e : Nat} {o : Oper} {env : List (Nat × AV)} {K : List (Nat × AV) → Prop} {x : AV} {H : List Ent} {x0 x1 : AV} {dW : Nat}
end
section
variable {c : Ctx} {r : Option Nat} {P : Program} {ops : Array Oper} {l rest : List Oper} {o : Oper} {env : List (Nat × AV)} {H : List Ent} {Q : Exit → Act → World → Prop} {d : Nat}
end
section
variable {c : Ctx} {r : Option Nat} {P : Program} {l : List Oper} {Q : Exit → Act → World → Prop}
end
section
variable {P : Program} {L rest : List Oper} {ss : List Nat} {n i d : Nat} {o : Oper} {env : List (Nat × AV)} {K : List (Nat × AV) → Prop} {x : AV} {H : List Ent} {e1 k1 e2 k2 d1 d2 : Nat}
end
section
variable {c : Ctx} {r : Option Nat} {P : Program} {ops : Array Oper} {l rest : List Oper} {o : Oper} {st : St} {Q : Exit → Act → World → Prop} {x : AV}
end
section
variable {c : Ctx} {r : Option Nat} {P : Program} {ops : Array Oper} {rest : List Oper} {o : Oper} {env : List (Nat × AV)} {H : List Ent} {Q : Exit → Act → World → Prop} {d : Nat}
end
def ShutS (l : List Oper) (S : Nat → Bool) : Prop := ∀ i oi, l[i]? = some oi → S i = true → ∀ j, ((masks l []).getD i 0).testBit j = true → S j = true
def addS (S : Nat → Bool) (i : Nat) : Nat → Bool := fun j => if j = i then true else S j
def UOk (P : Program) (M : (Nat → Bool) → Mem) (l : List Oper) (i : Nat) (env : List (Nat × AV)) (o : Oper) (x : AV) : Prop :=
 ∀ S, ShutS l S → (∀ j, ((masks l []).getD i 0).testBit j = true → S j = true) → S i = false → EOk P (M S) (M (addS S i)) l env o x
def UD (P : Program) (M : (Nat → Bool) → Mem) (l : List Oper) (n : Nat) : Nat → List Oper → List (Nat × AV) → (List (Nat × AV) → Prop) → Prop
 | _, [], env, K => K env
 | i, o :: rest, env, K => ∃ x, UOk P M l i env o x ∧ dstOk n o.dst = true ∧ UD P M l n (i + 1) rest (putEnv o.dst x env) K
theorem UD_spec {P : Program} {M : (Nat → Bool) → Mem} {ops : List Oper} {n : Nat} : ∀ (k : Nat) (l : List Oper) (env : List (Nat × AV)) (K : List (Nat × AV) → Prop), UD P M ops n k l env K →
  ∃ xs : List AV, xs.length = l.length ∧ K (puts env l xs) ∧ ∀ i o x, l[i]? = some o → xs[i]? = some x → UOk P M ops (k + i) (puts env (l.take i) (xs.take i)) o x ∧ dstOk n o.dst = true
 | k, [], env, K, h => ⟨[], rfl, h, by simp⟩
 | k, o :: l, env, K, ⟨x, h1, h2, h3⟩ => by
  obtain ⟨xs, hl, hK, hx⟩ := UD_spec (k + 1) l _ K h3
  refine ⟨x :: xs, by simp [hl], hK, fun i o' x' ho' hx' => ?_⟩
  cases i with
  | zero =>
   simp at ho' hx'
   subst ho'; subst hx'
   exact ⟨h1, h2⟩
  | succ i =>
   simp at ho' hx'
   have := hx i o' x' ho' hx'
   rw [show k + 1 + i = k + (i + 1) by omega] at this
   exact this
theorem UD.mono {P : Program} {M : (Nat → Bool) → Mem} {ops : List Oper} {n : Nat} {K K' : List (Nat × AV) → Prop} (hk : ∀ env, K env → K' env) : ∀ {k : Nat} {l : List Oper} {env : List (Nat × AV)}, UD P M ops n k l env K → UD P M ops n k l env K'
 | _, [], _, h => hk _ h
 | _, _ :: _, _, ⟨x, h1, h2, h3⟩ => ⟨x, h1, h2, h3.mono hk⟩
section
variable {c : Ctx} {r : Option Nat} {P : Program} {l : List Oper} {st : St} {Q : Exit → Act → World → Prop}
theorem DP.anyU {k m : Nat} {M : (Nat → Bool) → Mem} (hchk : segChk l k m = true) (hkm : k ≤ m) (hml : m ≤ l.length) (hlk : (l.all fun o => (looks l o).all fun t => Nat.blt t c.n) = true) (hH : ∀ B a I w, HeapOk B I w st.H → M (fun i => Nat.blt i k) B a I w)
  (h : UD P M l c.n k ((l.drop k).take (m - k)) st.env fun env => ∀ a w I, a.defers = c.ds → a.tmps.size = c.n → WOk c.B I w → Ext c.B c.I0 c.w0 I w → M (fun i => Nat.blt i m) c.B a I w → EnvOk I w (envGet env) a → KD c r P l Q m a w) : DP c r P l Q k st := by
 have ok := segOk_of hchk
 obtain ⟨xs, hxl, htail, hspec⟩ := UD_spec _ _ _ _ h
 have hxm : xs.length = m - k := by rw [hxl, List.length_take, List.length_drop]; omega
 generalize hS : (l.drop k).take (m - k) = S at *
 have takeAt : ∀ (i : Nat) (o : Oper), S[i]? = some o ↔ i < m - k ∧ l[k + i]? = some o := by
  intro i o
  rw [← hS, List.getElem?_take]
  by_cases hi : i < m - k
  ·rw [if_pos hi, List.getElem?_drop]; simp [hi]
  ·rw [if_neg hi]; simp [hi]
 generalize hF : puts st.env S xs = envF at htail
 have hlook : ∀ (i : Nat) (o : Oper), l[i]? = some o → ∀ t ∈ looks l o, t < c.n := by
  intro i o ho t ht
  simp only [List.all_eq_true] at hlk
  have := hlk o (List.mem_of_getElem? ho) t ht
  exact Nat.lt_of_succ_le (by simpa [Nat.blt] using this)
 have fin : ∀ (i : Nat) (o : Oper) (x : AV), i < m - k → l[k + i]? = some o → xs[i]? = some x → UOk P M l (k + i) envF o x ∧ dstOk c.n o.dst = true := by
  intro i o x hi ho hx
  obtain ⟨h1, h2⟩ := hspec i o x ((takeAt i o).2 ⟨hi, ho⟩) hx
  refine ⟨?_, h2⟩
  have same : ∀ t ∈ looks l o, envGet (puts st.env (S.take i) (xs.take i)) t = envGet envF t := by
   intro t ht
   rw [← hF, puts_split i S xs st.env hxl]
   symm
   apply puts_other
   intro j o' ho' e
   rw [List.getElem?_drop] at ho'
   obtain ⟨hj, hoj⟩ := (takeAt _ _).1 ho'
   have := (ok.looked (k + i) o (k + (i + j)) o' t (by omega) (by omega) ho (by omega) (by omega) hoj e ht).1
   omega
  exact fun S hS1 hS2 hS3 => (h1 S hS1 hS2 hS3).congr same
 have finAt : ∀ (i : Nat) (o : Oper) (x : AV) (t : Nat), i < m - k → l[k + i]? = some o → xs[i]? = some x → o.dst = some t → envGet envF t = some x := by
  intro i o x t hi ho hx hd
  rw [← hF]
  refine puts_at S xs st.env i t o x ((takeAt i o).2 ⟨hi, ho⟩) hx hd (fun j o' ho' e => ?_)
  obtain ⟨hj, hoj⟩ := (takeAt _ _).1 ho'
  rcases Nat.decEq j i with hne | he
  ·exact absurd hd (ok.apart (k + i) o (k + j) o' t (by omega) (by omega) ho (by omega) (by omega) hoj e (by omega))
  ·exact he
 have finOther : ∀ t, (∀ (i : Nat) (o : Oper), i < m - k → l[k + i]? = some o → o.dst ≠ some t) → envGet envF t = envGet st.env t := by
  intro t ht
  rw [← hF]
  exact puts_other _ _ _ _ fun i o ho => let ⟨h1, h2⟩ := (takeAt i o).1 ho; ht i o h1 h2
 have main : ∀ (cnt fuel : Nat) (listed : Array Bool) (a : Act) (w : World) (I : Imm), listed.size = l.length → (cnt = (List.range m).countP fun i => !listed.getD i false) → cnt + (l.length - m) ≤ fuel → Closed l (fun i => listed.getD i false = true) →
   (∀ i, i < k → listed.getD i false = true) → (∀ i, listed.getD i false = true → i < m) → a.defers = c.ds → a.tmps.size = c.n → WOk c.B I w → Ext c.B c.I0 c.w0 I w → M (fun s => listed.getD s false) c.B a I w →
   (∀ t x, envGet envF t = some x → (∀ (i : Nat) (o : Oper), i < m - k → l[k + i]? = some o → o.dst = some t → listed.getD (k + i) false = true) → Rel I w x (a.tmps.getD t undef)) →
   wpAnyIn (FW r) 0 P .any l.toArray Q fuel listed a w := by
  intro cnt
  induction cnt with
  | zero =>
   intro fuel listed a w I hsz hf hfu hcl hlk' hlm hd hts hw he hh hv
   have hall : ∀ i, i < m → listed.getD i false = true := by
    intro i hi
    have := List.countP_eq_zero.1 hf.symm i (by simpa using hi)
    simpa using this
   have hst : (fun s => listed.getD s false) = fun i => Nat.blt i m := funext fun i => by
    rw [Bool.eq_iff_iff]
    exact ⟨fun h => by have := hlm i h; exact Nat.ble_eq_true_of_le this, fun h => hall i (Nat.lt_of_succ_le (by simpa [Nat.blt] using h))⟩
   rw [hst] at hh
   exact htail a w I hd hts hw he hh (fun t x hx => hv t x hx (fun i o hi _ _ => hall (k + i) (by omega))) fuel listed hsz (fun i => ⟨hlm i, hall i⟩) (by omega)
  | succ cnt ih =>
   intro fuel listed a w I hsz hf hfu hcl hlk' hlm hd hts hw he hh hv
   obtain ⟨fuel, rfl⟩ : ∃ f, fuel = f + 1 := ⟨fuel - 1, by omega⟩
   have hex : ∃ i, i < m ∧ listed.getD i false = false ∧ ∀ j, j < i → listed.getD j false = true := by
    have : ∃ i, i < m ∧ listed.getD i false = false := by
     refine Classical.byContradiction fun hn => ?_
     have : (List.range m).countP (fun i => !listed.getD i false) = 0 := by
      rw [List.countP_eq_zero]
      intro i hi
      simp only [List.mem_range] at hi
      cases hx : listed.getD i false with
      | true => simp
      | false => exact absurd ⟨i, hi, hx⟩ hn
     omega
    obtain ⟨i, hi⟩ := this
    induction i using Nat.strongRecOn with
    | _ i ihi =>
     by_cases hx : ∃ j, j < i ∧ listed.getD j false = false
     ·obtain ⟨j, hj, hj2⟩ := hx
      exact ihi j hj ⟨by omega, hj2⟩
     ·exact ⟨i, hi.1, hi.2, fun j hj => by
       cases hy : listed.getD j false with
       | true => rfl
       | false => exact absurd ⟨j, hj, hy⟩ hx⟩
   obtain ⟨i0, hi0m, hi0, hi0b⟩ := hex
   have hi0k : k ≤ i0 := by
    rcases Nat.lt_or_ge i0 k with h | h
    ·rw [hlk' i0 h] at hi0; cases hi0
    ·exact h
   refine ⟨fun h0 => ?_, fun i hi => ?_⟩
   ·exfalso
    have hok : l[i0]? = some l[i0] := List.getElem?_eq_getElem (by omega)
    have : i0 ∈ Region.ready .any l.toArray listed := by
     rw [mem_ready]
     refine ⟨by rw [getD_true_iff (by omega)]; exact hi0, l[i0], by simp, fun e he hb => ?_⟩
     exact hi0b _ (ok.back i0 _ hok e.on (by simp only [deps, List.mem_filterMap]; exact ⟨e, by simpa using he, by simp [hb]⟩))
    rw [h0] at this; cases this
   ·obtain ⟨h1, o, h2, h3⟩ := mem_ready.1 hi
    have ho : l[i]? = some o := by simpa using h2
    have hlt : i < l.length := (List.getElem?_eq_some_iff.1 ho).1
    rw [getD_true_iff (by omega)] at h1
    have hdeps : ∀ k ∈ deps o, listed.getD k false = true := by
     intro k hk
     simp only [deps, List.mem_filterMap] at hk
     obtain ⟨e, he, hb⟩ := hk
     split at hb
     ·rename_i hbi; simp at hb; subst hb; exact h3 e (by simpa using he) hbi
     ·cases hb
    have hms : (masks l [])[i]? = some ((masks l []).getD i 0) := by
     have : i < (masks l []).length := by rw [masks_len]; simpa using hlt
     simp [List.getD, this]
    have hanc := masks_spec l _ hcl l [] (by simp) (by simp) (by simp) i _ o hms ho hdeps
    have hik : k ≤ i := by
     rcases Nat.lt_or_ge i k with h | h
     ·rw [hlk' i h] at h1; cases h1
     ·exact h
    have him : i < m := by
     rcases Nat.lt_or_ge i m with h | h
     ·exact h
     ·have := hanc i0 (ok.tail i h hlt i0 hi0k hi0m)
      rw [hi0] at this; cases this
    obtain ⟨q, rfl⟩ : ∃ q, i = k + q := ⟨i - k, by omega⟩
    have hq : q < m - k := by omega
    have hxi : xs[q]? = some xs[q] := List.getElem?_eq_getElem (by omega)
    obtain ⟨hA, hdst⟩ := fin q o _ hq ho hxi
    have avail : ∀ t ∈ looks l o, ∀ (i' : Nat) (o' : Oper), i' < m - k → l[k + i']? = some o' → o'.dst = some t → listed.getD (k + i') false = true := fun t ht i' o' hi' ho' hd' => hanc _ (ok.looked (k + q) o (k + i') o' t hik him ho (by omega) (by omega) ho' hd' ht).2
    have hshut : ShutS l fun s => listed.getD s false := fun s os hos hs j hj => by
     have hsl : s < l.length := (List.getElem?_eq_some_iff.1 hos).1
     have hms2 : (masks l [])[s]? = some ((masks l []).getD s 0) := by
      have : s < (masks l []).length := by rw [masks_len]; simpa using hsl
      simp [List.getD, this]
     exact masks_spec l _ hcl l [] (by simp) (by simp) (by simp) s _ _ hms2 hos (fun j hj => hcl s _ hs hos j hj) j hj
    refine (hA _ hshut hanc h1).run (c := c) ho hw hh (fun t ht z hz => hv t z hz (avail t ht)) (fun t ht => by rw [hts]; exact hlook _ o ho t ht) (fun d' hd' => by rw [hts]; rw [hd'] at hdst; exact Nat.lt_of_succ_le (by simpa [dstOk, Nat.blt] using hdst)) ?_
    intro v w' I' hw' he' hh' hx
    have hset : ∀ j, (listed.setIfInBounds (k + q) true).getD j false = if k + q = j then true else listed.getD j false := fun j => getD_set _ _ _ (by omega)
    have hsetS : (fun s => (listed.setIfInBounds (k + q) true).getD s false) = addS (fun s => listed.getD s false) (k + q) := by
     funext j
     rw [hset]
     unfold addS
     by_cases e : k + q = j
     ·rw [if_pos e, if_pos e.symm]
     ·rw [if_neg e, if_neg fun h => e h.symm]
    refine ih fuel (listed.setIfInBounds (k + q) true) _ w' I' (by simp [hsz]) ?_ (by omega) ?_ ?_ ?_ (by rw [put_defers]; exact hd) (by rw [tmps_put_size]; exact hts) hw' (he.trans he') (by rw [hsetS]; exact hh') ?_
    ·have : (List.range m).countP (fun j => !listed.getD j false) = (List.range m).countP (fun j => !(listed.setIfInBounds (k + q) true).getD j false) + 1 := by
      have key : ∀ (n : Nat), (List.range n).countP (fun j => !listed.getD j false) = (List.range n).countP (fun j => !(listed.setIfInBounds (k + q) true).getD j false) + (if k + q < n then 1 else 0) := by
       intro n
       induction n with
       | zero => simp
       | succ n ihn =>
        rw [List.range_succ, List.countP_append, List.countP_append, ihn]
        simp only [List.countP_cons, List.countP_nil, Nat.zero_add, hset n]
        by_cases e : k + q = n
        ·subst e
         rw [if_neg (Nat.lt_irrefl _), if_pos (Nat.lt_succ_self _), if_pos rfl, h1]
         simp
        ·rw [if_neg e]
         by_cases hlt' : k + q < n
         ·rw [if_pos hlt', if_pos (Nat.lt_succ_of_lt hlt')]; omega
         ·rw [if_neg hlt', if_neg (show ¬ k + q < n + 1 by omega)]; omega
      rw [key, if_pos him]
     omega
    ·intro j oj hj hoj k' hk
     rw [hset]
     by_cases e : k + q = k'
     ·rw [if_pos e]
     ·rw [if_neg e]
      rw [hset] at hj
      by_cases e' : k + q = j
      ·subst e'
       rw [ho] at hoj; cases hoj
       exact hdeps k' hk
      ·rw [if_neg e'] at hj
       exact hcl j oj hj hoj k' hk
    ·intro j hj
     rw [hset, if_neg (by omega)]
     exact hlk' j hj
    ·intro j hj
     rw [hset] at hj
     by_cases e : k + q = j
     ·omega
     ·rw [if_neg e] at hj; exact hlm j hj
    ·intro t x hxt hav
     by_cases hdt : o.dst = some t
     ·rw [hdt]
      have : x = xs[q] := by
       have := finAt q o _ t hq ho hxi hdt
       rw [this] at hxt; exact (Option.some.inj hxt).symm
      subst this
      rw [tmps_put_same (by rw [hts]; rw [hdt] at hdst; exact Nat.lt_of_succ_le (by simpa [dstOk, Nat.blt] using hdst))]
      exact hx
     ·have hold : Rel I w x (a.tmps.getD t undef) := hv t x hxt fun i' o' hi' ho' hd' => by
       have := hav i' o' hi' ho' hd'
       rw [hset] at this
       by_cases e : k + q = k + i'
       ·have e2 : q = i' := by omega
        subst e2
        rw [ho] at ho'; cases ho'
        exact absurd hd' hdt
       ·rw [if_neg e] at this; exact this
      have hget : (a.put o.dst v).tmps.getD t undef = a.tmps.getD t undef := by
       cases hod : o.dst with
       | none => rfl
       | some d => exact tmps_put_other (fun e => hdt (by rw [hod, e]))
      rw [hget]
      exact hold.keep he'.keeps
 intro a w s fuel listed hsz hli hfu
 obtain ⟨I, hw, he, hh, hv⟩ := s.mem
 have hst0 : (fun s => listed.getD s false) = fun i => Nat.blt i k := funext fun i => by
  rw [Bool.eq_iff_iff]
  exact ⟨fun h => Nat.ble_eq_true_of_le ((hli i).1 h), fun h => (hli i).2 (Nat.lt_of_succ_le (by simpa [Nat.blt] using h))⟩
 refine main _ fuel listed a w I hsz rfl ?_ (fun i o hi ho j hj => (hli j).2 (by have := ok.back i o ho j hj; have := (hli i).1 hi; omega)) (fun i hi => (hli i).2 hi) (fun i hi => by have := (hli i).1 hi; omega) s.ds s.size hw he (by rw [hst0]; exact hH _ _ _ _ hh) ?_
 ·have : (List.range m).countP (fun i => !listed.getD i false) ≤ m - k := by
   have e : List.range m = List.range k ++ (List.range (m - k)).map (k + ·) := by
    rw [← List.range_add]; congr 1; omega
   rw [e, List.countP_append]
   have z : (List.range k).countP (fun i => !listed.getD i false) = 0 := by
    rw [List.countP_eq_zero]; intro i hi; simp only [List.mem_range] at hi; simp [(hli i).2 hi]
   rw [z]
   have := List.countP_le_length (p := fun i => !listed.getD i false) (l := (List.range (m - k)).map (k + ·))
   simpa using this
  omega
 ·intro t x hx hav
  have : envGet st.env t = some x := by
   rw [← finOther t (fun i o hi ho hd => ?_)]
   ·exact hx
   ·have := hav i o hi ho hd
    have := (hli (k + i)).1 this
    omega
  exact hv t x this
end
structure VS where
 e : Nat
 d : Nat
 t : TypeId
 zs : List Value
 s : Nat
 ys : List AV
def VS.ent (S : Nat → Bool) (bs : Nat → Nat) (v : VS) : Option Ent := if S v.e then some (.blk (bs v.d) v.t (if S v.s then v.ys else v.zs.map .val)) else none
def VS.ents (S : Nat → Bool) (bs : Nat → Nat) (vs : List VS) : List Ent := vs.filterMap (VS.ent S bs)
def VM (H : List Ent) (vs : List VS) (S : Nat → Bool) : Mem := fun B a I w =>
 ∃ bs : Nat → Nat, (∀ v ∈ vs, S v.e = true → a.tmps.getD v.d undef = .pointer (some ⟨bs v.d, 0, none⟩)) ∧ HeapOk B I w (VS.ents S bs vs ++ H)
def vsChk (l : List Oper) (vs : List VS) (k m : Nat) : Bool := (vs.all fun v => Nat.ble k v.e && Nat.blt v.e m && Nat.ble k v.s && Nat.blt v.s m && ((masks l []).getD v.s 0).testBit v.e && vs.all fun u => !Nat.beq u.e v.s) && decide (vs.map (·.e)).Nodup && decide (vs.map (·.s)).Nodup && decide (vs.map (·.d)).Nodup
theorem nodup_at {α : Type} (f : α → Nat) {l pre post : List α} {v u : α} (h : (l.map f).Nodup) (hl : l = pre ++ v :: post) (hu : u ∈ pre ∨ u ∈ post) : f u ≠ f v := by
 subst hl
 rw [List.map_append, List.map_cons] at h
 have h2 := List.nodup_append.1 h
 rcases hu with hu | hu
 ·exact fun e => h2.2.2 (f u) (List.mem_map_of_mem hu) (f v) (by simp) e
 ·exact fun e => (List.nodup_cons.1 h2.2.1).1 (by rw [← e]; exact List.mem_map_of_mem hu)
theorem ents_congr {S S' : Nat → Bool} {bs bs' : Nat → Nat} : ∀ {vs : List VS}, (∀ v ∈ vs, VS.ent S bs v = VS.ent S' bs' v) → VS.ents S bs vs = VS.ents S' bs' vs
 | [], _ => rfl
 | v :: r, h => by
  have h1 := h v (.head _)
  have h2 := ents_congr (vs := r) fun u hu => h u (.tail _ hu)
  unfold VS.ents at *
  rw [List.filterMap_cons, List.filterMap_cons, h1, h2]
theorem ents_app {S : Nat → Bool} {bs : Nat → Nat} {a b : List VS} : VS.ents S bs (a ++ b) = VS.ents S bs a ++ VS.ents S bs b := List.filterMap_append
theorem ents_some {S : Nat → Bool} {bs : Nat → Nat} {v : VS} {r : List VS} {e : Ent} (h : VS.ent S bs v = some e) : VS.ents S bs (v :: r) = e :: VS.ents S bs r := List.filterMap_cons_some h
theorem ents_none {S : Nat → Bool} {bs : Nat → Nat} {v : VS} {r : List VS} (h : VS.ent S bs v = none) : VS.ents S bs (v :: r) = VS.ents S bs r := List.filterMap_cons_none h
theorem Upd.under {e e' : Ent} {H : List Ent} : ∀ (X : List Ent), Upd (X ++ e :: H) e e' (X ++ e' :: H)
 | [] => .head _ _ _
 | f :: X => .tail _ _ _ _ _ (Upd.under X)
section
variable {c : Ctx} {r : Option Nat} {P : Program} {l : List Oper} {Q : Exit → Act → World → Prop}
theorem ents_zero {bs : Nat → Nat} {k : Nat} : ∀ {vs : List VS}, (∀ v ∈ vs, Nat.blt v.e k = false) → VS.ents (fun i => Nat.blt i k) bs vs = []
 | [], _ => rfl
 | v :: r, h => by rw [ents_none (by rw [VS.ent, if_neg (by rw [h v (.head _)]; simp)]), ents_zero fun u hu => h u (.tail _ hu)]
theorem ents_all {bs : Nat → Nat} {m : Nat} : ∀ {vs : List VS}, (∀ v ∈ vs, Nat.blt v.e m = true ∧ Nat.blt v.s m = true) → VS.ents (fun i => Nat.blt i m) bs vs = vs.map fun v => Ent.blk (bs v.d) v.t v.ys
 | [], _ => rfl
 | v :: r, h => by
  have := h v (.head _)
  rw [ents_some (e := .blk (bs v.d) v.t v.ys) (by rw [VS.ent, if_pos this.1, if_pos this.2]), ents_all fun u hu => h u (.tail _ hu)]; rfl
theorem EnvOk.vars {I : Imm} {w : World} {a : Act} {env : List (Nat × AV)} {bs : Nat → Nat} (h : EnvOk I w (envGet env) a) : ∀ (vs : List VS), (∀ v ∈ vs, a.tmps.getD v.d undef = .pointer (some ⟨bs v.d, 0, none⟩)) → EnvOk I w (envGet (vs.map (fun v => (v.d, AV.p (bs v.d) 0)) ++ env)) a
 | [], _ => h
 | v :: r, hv => fun t x hx => by
  rw [List.map_cons, List.cons_append, envGet_cons] at hx
  split at hx
  ·rename_i e
   cases hx
   subst e
   rw [hv v (.head _)]; exact .val _
  ·exact EnvOk.vars h r (fun u hu => hv u (.tail _ hu)) t x hx
theorem DP.anyV {env : List (Nat × AV)} {H : List Ent} (vs : List VS) (k m n : Nat) (hn : c.n = n) (hchk : segChk l k m = true) (hvs : vsChk l vs k m = true) (hkm : Nat.ble k m = true) (hml : Nat.ble m l.length = true) (hlk : (l.all fun o => (looks l o).all fun t => Nat.blt t n) = true)
  (h : UD P (VM H vs) l c.n k ((l.drop k).take (m - k)) env fun env => ∀ bs : Nat → Nat, DP c r P l Q m ⟨vs.map (fun v => (v.d, AV.p (bs v.d) 0)) ++ env, vs.map (fun v => Ent.blk (bs v.d) v.t v.ys) ++ H⟩) : DP c r P l Q k ⟨env, H⟩ := by
 simp only [vsChk, Bool.and_eq_true, List.all_eq_true, decide_eq_true_eq, Bool.not_eq_true'] at hvs
 obtain ⟨⟨⟨hv1, hv2⟩, hv3⟩, hv4⟩ := hvs
 refine DP.anyU (M := VM H vs) hchk (Nat.le_of_ble_eq_true hkm) (Nat.le_of_ble_eq_true hml) (by rw [hn]; exact hlk) (fun B a I w hh => ⟨fun _ => 0, fun v hv hs => ?_, ?_⟩) (h.mono fun env hd a w I q1 q2 q3 q4 q5 q6 => ?_)
 ·have h1 := Nat.le_of_ble_eq_true (hv1 v hv).1.1.1.1.1
  have : Nat.blt v.e k = false := by rw [Bool.eq_false_iff]; intro hb; have := Nat.lt_of_succ_le (by simpa [Nat.blt] using hb); omega
  have hs : Nat.blt v.e k = true := hs
  rw [this] at hs; cases hs
 ·rw [ents_zero fun v hv => by
   have h1 := Nat.le_of_ble_eq_true (hv1 v hv).1.1.1.1.1
   rw [Bool.eq_false_iff]; intro hb; have := Nat.lt_of_succ_le (by simpa [Nat.blt] using hb); omega]
  exact hh
 ·obtain ⟨bs, hb, hh⟩ := q5
  have hh' : HeapOk c.B I w (vs.map (fun v => Ent.blk (bs v.d) v.t v.ys) ++ H) := by rwa [ents_all fun v hv => ⟨(hv1 v hv).1.1.1.1.2, (hv1 v hv).1.1.2⟩] at hh
  exact hd bs a w ⟨q1, q2, I, q3, q4, hh', q6.vars vs fun v hv => hb v hv (hv1 v hv).1.1.1.1.2⟩
end
section
variable {P : Program} {L rest : List Oper} {vs : List VS} {n i d : Nat} {o : Oper} {env : List (Nat × AV)} {K : List (Nat × AV) → Prop} {x : AV} {H : List Ent}
theorem UD.nil {M : (Nat → Bool) → Mem} (h : K env) : UD P M L n i [] env K := h
theorem addS_other {S : Nat → Bool} {i j : Nat} (h : j ≠ i) : addS S i j = S j := if_neg h
theorem addS_same {S : Nat → Bool} {i : Nat} : addS S i i = true := if_pos rfl
theorem UD.popV (hi : (vs.all fun v => !Nat.beq v.e i && !Nat.beq v.s i && !Nat.beq v.d d) = true) (hg : o.guard = none) (hd : o.dst = some d) (hn : Nat.blt d n = true) (h : POp P H (envGet env) o x) (next : UD P (VM H vs) L n (i + 1) rest ((d, x) :: env) K) : UD P (VM H vs) L n i (o :: rest) env K :=
 ⟨x, fun S _ _ hSi => ⟨hg, fun B I w r a hw hm ho hz => by
  obtain ⟨bs, hb, hh⟩ := hm
  simp only [List.all_eq_true, Bool.and_eq_true, Bool.not_eq_true'] at hi
  have ne : ∀ {a b : Nat}, Nat.beq a b = false → a ≠ b := fun h e => by subst e; simp at h
  have he : ∀ v ∈ vs, VS.ent (addS S i) bs v = VS.ent S bs v := fun v hv => by
   rw [VS.ent, VS.ent, addS_other (ne (hi v hv).1.1), addS_other (ne (hi v hv).1.2)]
  refine (h B I w r a _ hw hh (fun e he => List.mem_append_right _ he) ho).mono (fun v w' ⟨I', a1, a2, a3, a4⟩ => ⟨I', a1, a2, ⟨bs, fun u hu hs => ?_, ?_⟩, a4⟩) (fun _ _ h => h)
  ·rw [addS_other (ne (hi u hu).1.1)] at hs
   rw [hd, tmps_put_other (ne (hi u hu).2)]
   exact hb u hu hs
  ·rw [ents_congr he]; exact a3⟩, dstOk_of hd hn, by rw [hd]; exact next⟩
theorem UD.effV (pre post : List VS) (v : VS) (hvs : vs = pre ++ v :: post) (hc : ∃ k m, vsChk L vs k m = true) {zs : List Value} [hz : HasZero P v.t zs] (hzs : v.zs = zs) (hi : v.e = i) (hg : o.guard = none) (hd : o.dst = some v.d) (hn : Nat.blt v.d n = true) (h : o.op = .alloc v.t) (hL : Nat.blt v.s L.length = true)
  (next : UD P (VM H vs) L n (i + 1) rest ((v.d, .any) :: env) K) : UD P (VM H vs) L n i (o :: rest) env K := by
 obtain ⟨k, m, hc⟩ := hc
 simp only [vsChk, Bool.and_eq_true, List.all_eq_true, decide_eq_true_eq, Bool.not_eq_true'] at hc
 obtain ⟨⟨⟨hv1, hv2⟩, hv3⟩, hv4⟩ := hc
 have hvm : v ∈ vs := by rw [hvs]; simp
 have ne : ∀ {a b : Nat}, Nat.beq a b = false → a ≠ b := fun h e => by subst e; simp at h
 refine ⟨.any, fun S hshut _ hSi => ⟨hg, fun B I w r a hw hm ho hzz => ?_⟩, dstOk_of hd hn, by rw [hd]; exact next⟩
 obtain ⟨bs, hb, hh⟩ := hm
 have hz' := hz.h
 unfold zeroCells at hz'
 cases hin : P.info? v.t with
 | none => simp [hin] at hz'
 | some inf =>
  cases hz2 : inf.zero with
  | none => simp [hin, hz2] at hz'
  | some z =>
   simp [hin, hz2] at hz'
   have h1 : RelL I w (zs.map .val) z.cells.toList := by rw [hz']; exact relL_val zs
   have hsv : v.s ≠ i := fun e => ne ((hv1 v hvm).2 v hvm) (by rw [hi, e])
   have hSs : S v.s = false := by
    rw [Bool.eq_false_iff]; intro hs
    have hlt : v.s < L.length := Nat.lt_of_succ_le (by simpa [Nat.blt] using hL)
    have := hshut v.s L[v.s] (List.getElem?_eq_getElem hlt) hs v.e (hv1 v hvm).1.2
    rw [hi, hSi] at this; cases this
   let bs' : Nat → Nat := fun d => if d = v.d then w.heap.size else bs d
   have hother : ∀ u, u ∈ pre ∨ u ∈ post → VS.ent (addS S i) bs' u = VS.ent S bs u := fun u hu => by
    have hum : u ∈ vs := by rw [hvs]; rcases hu with hu | hu <;> simp [hu]
    have e1 : u.e ≠ i := by rw [← hi]; exact nodup_at (·.e) hv2 hvs hu
    have e2 : u.d ≠ v.d := nodup_at (·.d) hv4 hvs hu
    have e3 : u.s ≠ i := fun e => ne ((hv1 u hum).2 v hvm) (by rw [hi, e])
    rw [VS.ent, VS.ent, addS_other e1, addS_other e3, show bs' u.d = bs u.d from if_neg e2]
   have hnew : VS.ent (addS S i) bs' v = some (.blk w.heap.size v.t (zs.map .val)) := by
    rw [VS.ent, hi, addS_same, if_pos rfl, addS_other hsv, hSs, show bs' v.d = w.heap.size from if_pos rfl, hzs]; rfl
   have hold : VS.ent S bs v = none := by rw [VS.ent, hi, hSi]; rfl
   have e1 : VS.ents S bs vs = VS.ents S bs pre ++ VS.ents S bs post := by rw [hvs, ents_app, ents_none hold]
   have e2 : VS.ents (addS S i) bs' vs = VS.ents S bs pre ++ .blk w.heap.size v.t (zs.map .val) :: VS.ents S bs post := by
    rw [hvs, ents_app, ents_some hnew, ents_congr fun u hu => hother u (.inl hu), ents_congr fun u hu => hother u (.inr hu)]
   rw [e1] at hh
   refine Runs.of_value (v := .pointer (some ⟨w.heap.size, 0, none⟩)) (w' := w.alloc (.cells z.cells v.t)) (by simp [h]) (by simp [execOp, h, Instr.alloc, newVar, newRow, zeroValue, typeInfo, hin, hz2]) ⟨I, hw.alloc _, ext_alloc hw _, ⟨bs', fun u hu hs => ?_, ?_⟩, .any _⟩
   ·by_cases e : u.d = v.d
    ·rw [e, hd, tmps_put_same (hzz v.d hd), show bs' v.d = w.heap.size from if_pos rfl]
    ·rw [hd, tmps_put_other e, show bs' u.d = bs u.d from if_neg e]
     refine hb u hu ?_
     have hu2 : u ∈ pre ∨ u ∈ post := by
      rw [hvs] at hu
      rcases List.mem_append.1 hu with h' | h'
      ·exact .inl h'
      ·rcases List.mem_cons.1 h' with h' | h'
       ·exact absurd (by rw [h']) e
       ·exact .inr h'
     have : u.e ≠ i := by rw [← hi]; exact nodup_at (·.e) hv2 hvs hu2
     rwa [addS_other this] at hs
   ·rw [e2]
    have := HeapOk.new hh hw v.t _ _ h1
    exact this.perm (by rw [List.append_assoc, List.append_assoc]; exact List.perm_middle.symm)
theorem UD.stoV (pre post : List VS) (v : VS) (hvs : vs = pre ++ v :: post) (hc : ∃ k m, vsChk L vs k m = true) (hi : v.s = i) (hg : o.guard = none) (hd : o.dst = none) (h : ∀ b H' H'', Upd H' (.blk b v.t (v.zs.map .val)) (.blk b v.t v.ys) H'' → SOk P H' H'' (envGet ((v.d, .p b 0) :: env)) o) (next : UD P (VM H vs) L n (i + 1) rest env K) : UD P (VM H vs) L n i (o :: rest) env K := by
 obtain ⟨k, m, hc⟩ := hc
 simp only [vsChk, Bool.and_eq_true, List.all_eq_true, decide_eq_true_eq, Bool.not_eq_true'] at hc
 obtain ⟨⟨⟨hv1, hv2⟩, hv3⟩, hv4⟩ := hc
 have hvm : v ∈ vs := by rw [hvs]; simp
 have ne : ∀ {a b : Nat}, Nat.beq a b = false → a ≠ b := fun h e => by subst e; simp at h
 refine ⟨.any, fun S hshut hmask hSi => ⟨hg, fun B I w r a hw hm ho hzz => ?_⟩, by rw [hd]; rfl, by rw [hd]; exact next⟩
 obtain ⟨bs, hb, hh⟩ := hm
 have hSe : S v.e = true := hmask _ (by rw [← hi]; exact (hv1 v hvm).1.2)
 have hp := hb v hvm hSe
 have ho' : OpsOk I w (envGet ((v.d, .p (bs v.d) 0) :: env)) a o := fun x hx y hy => by
  cases x with
  | tmp t =>
   simp only [aeval] at hy
   rw [envGet_cons] at hy
   split at hy
   ·rename_i e
    subst e
    cases hy
    show Rel I w (.p (bs v.d) 0) (a.tmps.getD v.d undef)
    rw [hp]; exact .val _
   ·exact ho _ hx y hy
  | const v => exact ho _ hx y hy
  | global g => exact ho _ hx y hy
  | func f => exact ho _ hx y hy
 have hother : ∀ u, u ∈ pre ∨ u ∈ post → VS.ent (addS S i) bs u = VS.ent S bs u := fun u hu => by
  have hum : u ∈ vs := by rw [hvs]; rcases hu with hu | hu <;> simp [hu]
  have e1 : u.s ≠ i := by rw [← hi]; exact nodup_at (·.s) hv3 hvs hu
  have e3 : u.e ≠ i := fun e => ne ((hv1 v hvm).2 u hum) (by rw [hi, e])
  rw [VS.ent, VS.ent, addS_other e1, addS_other e3]
 have hes : v.e ≠ i := fun e => ne ((hv1 v hvm).2 v hvm) (by rw [hi, e])
 have hold : VS.ent S bs v = some (.blk (bs v.d) v.t (v.zs.map .val)) := by
  rw [VS.ent, if_pos hSe, hi, if_neg (by rw [hSi]; simp)]
 have hnew : VS.ent (addS S i) bs v = some (.blk (bs v.d) v.t v.ys) := by
  rw [VS.ent, addS_other hes, if_pos hSe, hi, addS_same, if_pos rfl]
 have e1 : VS.ents S bs vs ++ H = VS.ents S bs pre ++ .blk (bs v.d) v.t (v.zs.map .val) :: (VS.ents S bs post ++ H) := by rw [hvs, ents_app, ents_some hold, List.append_assoc]; rfl
 have e2 : VS.ents (addS S i) bs vs ++ H = VS.ents S bs pre ++ .blk (bs v.d) v.t v.ys :: (VS.ents S bs post ++ H) := by
  rw [hvs, ents_app, ents_some hnew, ents_congr fun u hu => hother u (.inl hu), ents_congr fun u hu => hother u (.inr hu), List.append_assoc]; rfl
 rw [e1] at hh
 refine (h (bs v.d) _ _ (Upd.under _) B I w r a hw hh ho').mono (fun x w' ⟨I', a1, a2, a3⟩ => ⟨I', a1, a2, ⟨bs, fun u hu hs => ?_, by rw [e2]; exact a3⟩, .any _⟩) (fun _ _ h => h)
 rw [hd]
 refine hb u hu ?_
 have : u.e ≠ i := fun e => ne ((hv1 v hvm).2 u hu) (by rw [hi, e])
 rwa [addS_other this] at hs
end
section
variable {P : Program} {H : List Ent} {ρ : Nat → Option AV} {o : Oper}
end
def blkOf : Value → Nat
 | .pointer (some a) => a.block
 | _ => 0
inductive ES where
 | own (i d e k : Nat) (y : AV)
 | al (i d : Nat) (t : TypeId) (zs : List Value)
def ES.i : ES → Nat
 | .own i _ _ _ _ => i
 | .al i _ _ _ => i
def ES.d : ES → Nat
 | .own _ d _ _ _ => d
 | .al _ d _ _ => d
def ES.en : ES → Value → Ent
 | .own _ _ e k _, v => .own e k v
 | .al _ _ t zs, v => .blk (blkOf v) t (zs.map .val)
def ES.okE : ES → Value → Prop
 | .own _ _ _ _ _, _ => True
 | .al _ _ _ _, v => v = .pointer (some ⟨blkOf v, 0, none⟩)
def ES.av : ES → Value → AV
 | .own _ _ _ _ y, v => .as y v
 | .al _ _ _ _, v => .p (blkOf v) 0
def ES.y : ES → AV
 | .own _ _ _ _ y => y
 | .al _ _ _ _ => .any
def ES.mem (S : Nat → Bool) (f : Nat → Value) (es : List ES) : List Ent := es.filterMap fun s => if S s.i then some (s.en (f s.d)) else none
structure LS where
 i : Nat
 d : Nat
 ds : List Nat
 x : List Value → AV
theorem EnvOk.made {I : Imm} {w : World} {a : Act} {env : List (Nat × AV)} (h : EnvOk I w (envGet env) a) : ∀ (es : List ES), (∀ s ∈ es, s.okE (a.tmps.getD s.d undef) ∧ envGet env s.d = some s.y) → EnvOk I w (envGet (es.map (fun s => (s.d, s.av (a.tmps.getD s.d undef))) ++ env)) a
 | [], _ => h
 | s :: r, hv => fun t x hx => by
  rw [List.map_cons, List.cons_append, envGet_cons] at hx
  split at hx
  ·rename_i e
   cases hx
   subst e
   have h1 := hv s (.head _)
   cases s with
   | own i d e k y => exact .as _ _ (h d y h1.2)
   | al i d t zs =>
    have h2 : a.tmps.getD d undef = .pointer (some ⟨blkOf (a.tmps.getD d undef), 0, none⟩) := h1.1
    show Rel I w (.p (blkOf (a.tmps.getD d undef)) 0) (a.tmps.getD d undef)
    generalize a.tmps.getD d undef = v at h2
    rw [h2]; exact .val _
  ·exact EnvOk.made h r (fun u hu => hv u (.tail _ hu)) t x hx
section
variable {c : Ctx} {r : Option Nat} {P : Program} {l : List Oper} {Q : Exit → Act → World → Prop}
end
section
variable {P : Program} {L rest : List Oper} {es : List ES} {ls : List LS} {n i d : Nat} {o : Oper} {env : List (Nat × AV)} {K : List (Nat × AV) → Prop} {x : AV} {H : List Ent}
end
def eqField (P : Program) (p : Field × Nat) : Bool := p.1.offset == p.2 && p.1.name != "_" && P.plainKey p.1.type && (match P.underlying p.1.type with | some (.int _) => true | _ => false)
def eqInts (P : Program) (t : TypeId) (n : Nat) : Bool := (match P.underlying t with | some (.struct fs) => fs.toList.length == n && fs.toList.zipIdx.all (eqField P) | _ => false) && !P.stoodInHeld t && !P.eqGuardType P.depth t
class HasEq (P : Program) (t : TypeId) (n : outParam Nat) : Prop where
 h : eqInts P t n = true
abbrev intsArr (l : List Int) : Array Value := (l.map fun n => Value.int .i64 n).toArray
theorem eqFields_ints {P : Program} {w : World} (d : Nat) {as bs : List Int} {n : Nat} (ha : as.length = n) (hb : bs.length = n) : ∀ (fs : List Field) (k : Nat), k + fs.length = n → ((fs.zipIdx k).all (eqField P)) = true →
  (Op.eqFields (d + 1) (intsArr as) (intsArr bs) fs).run P w = .ok (as.drop k == bs.drop k) w
 | [], k, hk, _ => by
  rw [List.length_nil] at hk
  rw [List.drop_of_length_le (by omega), List.drop_of_length_le (by omega)]; rfl
 | f :: fs, k, hk, hf => by
  rw [List.length_cons] at hk
  rw [List.zipIdx_cons, List.all_cons, Bool.and_eq_true] at hf
  have h1 := hf.1
  simp only [eqField, Bool.and_eq_true, beq_iff_eq, bne_iff_ne, ne_eq] at h1
  obtain ⟨⟨⟨ho, hn⟩, hp⟩, hu⟩ := h1
  obtain ⟨k', hu⟩ : ∃ k', P.underlying f.type = some (.int k') := by
   split at hu
   ·rename_i k' e; exact ⟨k', e⟩
   ·cases hu
  have hka : k < as.length := by omega
  have hkb : k < bs.length := by omega
  have ga : (intsArr as)[f.offset]? = some (.int .i64 as[k]) := by rw [ho]; simp [intsArr, List.getElem?_eq_getElem hka]
  have gb : (intsArr bs)[f.offset]? = some (.int .i64 bs[k]) := by rw [ho]; simp [intsArr, List.getElem?_eq_getElem hkb]
  have hab : (as.drop k == bs.drop k) = (as[k] == bs[k] && as.drop (k + 1) == bs.drop (k + 1)) := by rw [List.drop_eq_getElem_cons hka, List.drop_eq_getElem_cons hkb]; rfl
  rw [hab]
  simp only [Op.eqFields, Sem.run_ite, Sem.run_bind]
  rw [if_pos hn, Go.run_part_plain (w := w) hp ga]
  simp only [Result.andThen_ok]
  rw [Go.run_part_plain (w := w) hp gb]
  simp only [Result.andThen_ok]
  rw [run_equalIn_int w d f.type .i64 k' as[k] bs[k] hu]
  simp only [Result.andThen_ok]
  have ih := eqFields_ints (P := P) (w := w) d ha hb fs (k + 1) (by omega) hf.2
  by_cases e : as[k] = bs[k]
  ·have e2 : (as[k] == bs[k]) = true := by simpa using e
   rw [e2]
   simp only [Bool.not_true, Bool.false_eq_true, if_false, Bool.true_and]
   exact ih
  ·have e2 : (as[k] == bs[k]) = false := by simpa using e
   rw [e2]
   simp only [Bool.not_false, if_true, Sem.run_pure, Bool.false_and]
section
variable {P : Program} {H : List Ent} {ρ : Nat → Option AV} {o : Oper}
theorem aggInts_rel {I : Imm} {w : World} : ∀ {l : List Int} {vs : List Value}, RelL I w (l.map AV.i) vs → vs = l.map fun n => Value.int .i64 n
 | [], _, h => by cases h; rfl
 | n :: r, _, h => by
  cases h with
  | cons _ v _ vs hv ht =>
   rw [rel_val hv, aggInts_rel ht]; rfl
theorem POp.eqI {t t' : TypeId} {x y : Operand} {n : Nat} (as bs : List Int) {gx gy : Bool} [he : HasEq P t n] (h : o.op = .binOp .eql t x y t') (hx : aev ρ x = some (gx, .agg (as.map AV.i))) (hy : aev ρ y = some (gy, .agg (bs.map AV.i))) (hgx : gx = true) (hgy : gy = true)
  (ha : Nat.beq as.length n = true) (hb : Nat.beq bs.length n = true) : POp P H ρ o (.b (as == bs)) := by
 have ha := Nat.eq_of_beq_eq_true ha
 have hb := Nat.eq_of_beq_eq_true hb
 have hh := he.h
 simp only [eqInts, Bool.and_eq_true, Bool.not_eq_true'] at hh
 obtain ⟨⟨h1, h2⟩, h3⟩ := hh
 obtain ⟨fs, hu⟩ : ∃ fs, P.underlying t = some (.struct fs) := by
  split at h1
  ·rename_i fs e; exact ⟨fs, e⟩
  ·cases h1
 rw [hu] at h1
 simp only [Bool.and_eq_true, beq_iff_eq] at h1
 have hfo : P.fieldsOf t = fs := by rw [Program.fieldsOf, hu]
 refine .same (by simp [h]) fun I w f ho => ?_
 have q1 := ho.get (by simp [h, Op.operands]) hx hgx
 have q2 := ho.get (by simp [h, Op.operands]) hy hgy
 generalize hv : f.eval x = u at q1
 generalize hz : f.eval y = z at q2
 cases q1 with
 | agg _ vs hl1 =>
  cases q2 with
  | agg _ us hl2 =>
   have e1 : vs = intsArr as := Array.toList_inj.1 (by rw [aggInts_rel hl1])
   have e2 : us = intsArr bs := Array.toList_inj.1 (by rw [aggInts_rel hl2])
   subst e1; subst e2
   refine ⟨.bool (as == bs), ?_, .val _⟩
   have hrun := eqFields_ints (P := P) (w := w) 9998 ha hb fs.toList 0 (by omega) h1.2
   rw [List.drop_zero, List.drop_zero] at hrun
   simp only [execOp, h, hv, hz, Sem.run_bind]
   rw [run_eqGuard_agg w .eql t x y _ _ h3]
   simp only [Result.andThen_ok]
   rw [run_eql_struct, run_equalIn_agg w 9999 t _ _ (by rw [hfo]; exact hu) h2, hfo, hrun]
   rfl
end
section
variable {P : Program} {H : List Ent} {ρ : Nat → Option AV} {o : Oper}
end
section
variable {c : Ctx} {r : Option Nat} {P : Program} {ops : Array Oper} {l rest : List Oper} {o : Oper} {env : List (Nat × AV)} {H : List Ent} {Q : Exit → Act → World → Prop} {d : Nat}
end
theorem Del.perm {H H' : List Ent} {e : Ent} (h : Del H e H') : H.Perm (e :: H') := by
 induction h with
 | head => exact .refl _
 | tail f e H H' _ ih => exact (ih.cons f).trans (.swap _ _ _)
theorem HeapOk.turn {B : Nat} {I : Imm} {w : World} {H H' : List Ent} {e e' : Ent} (h : HeapOk B I w H) (hu : Upd H e e' H') (hok : e.ok B I w → e'.ok B I w) (hft : ∀ b, e'.foot = some b → e.foot = some b) : HeapOk B I w H' :=
 h.upd hu ⟨fun _ _ x => x, fun _ _ _ => rfl⟩ (fun _ _ _ => rfl) (fun _ _ x => .inl x) (hok (h.ok _ hu.mem)) (fun b hb => .inl (hft b hb))
theorem Ent.row_blk {B : Nat} {I : Imm} {w : World} {t k n : Nat} {v : Value} {cs : List AV} (hn : n ≠ 0) (h : Ent.ok B I w (.row t k v n cs)) :
  ∃ b cap more, v = .slice (some ⟨b, 0, none⟩) n cap ∧ n ≤ cap ∧ cap ≤ maxLen ∧ (cs ++ more).length = cap * k ∧ cs.length = n * k ∧ Ent.ok B I w (.blk b t (cs ++ more)) := by
 obtain ⟨xs, hrow, hr, hni⟩ := h
 rcases hrow.2 with ⟨rfl, h0⟩ | ⟨g, cap, cur, rfl, hBg, hg, hnc, hcm, hcs, htk⟩
 ·exact absurd h0 hn
 ·have hlen := hr.length
  have hx := hrow.1
  have hle : n * k ≤ cur.size := by rw [hcs]; exact Nat.mul_le_mul_right k hnc
  refine ⟨g, cap, (cur.toList.drop (n * k)).map .val, rfl, hnc, hcm, ?_, by omega, hBg, cur, hg, ?_, fun o => hni g rfl o⟩
  ·have hz : cs.length = n * k := by omega
   have hy : cur.toList.length = cap * k := hcs
   rw [List.length_append, List.length_map, List.length_drop, hz, hy, Nat.add_sub_cancel' (hcs ▸ hle)]
  ·have h2 := hr.append (relL_val (I := I) (w := w) (cur.toList.drop (n * k)))
   rw [← htk] at h2
   rwa [List.take_append_drop] at h2
theorem Ent.blk_row {B : Nat} {I : Imm} {w : World} {t k n b cap : Nat} {cs more : List AV} (h1 : n ≤ cap) (h2 : cap ≤ maxLen) (h3 : (cs ++ more).length = cap * k) (h4 : cs.length = n * k) (h : Ent.ok B I w (.blk b t (cs ++ more))) :
  Ent.ok B I w (.row t k (.slice (some ⟨b, 0, none⟩) n cap) n cs) := by
 obtain ⟨hB, vs, hb, hr, hni⟩ := h
 have hl := hr.length
 rw [Array.length_toList] at hl
 obtain ⟨as, zs, e, r1, r2⟩ := hr.append_inv
 have ha := r1.length
 refine ⟨as, ⟨by omega, .inr ⟨b, cap, vs, rfl, hB, hb, h1, h2, by omega, ?_⟩⟩, r1, fun g hg o => by simp [Value.ownBlock] at hg; subst hg; exact hni o⟩
 rw [e, ← h4, ← ha, List.take_left]
section
variable {c : Ctx} {r : Option Nat} {P : Program} {ops : Array Oper} {l rest : List Oper} {o : Oper} {env : List (Nat × AV)} {H : List Ent} {Q : Exit → Act → World → Prop} {d : Nat}
theorem CW.rowBlk {p : Code} {t k n : Nat} {v : Value} {cs : List AV} {H' : Nat → Nat → List AV → List Ent} (hn : n ≠ 0) (hu : ∀ b cap more, Upd H (.row t k v n cs) (.blk b t (cs ++ more)) (H' b cap more))
  (h : ∀ b cap more, v = .slice (some ⟨b, 0, none⟩) n cap → n ≤ cap → cap ≤ maxLen → (cs ++ more).length = cap * k → cs.length = n * k → CW c r P p ⟨env, H' b cap more⟩ Q) : CW c r P p ⟨env, H⟩ Q := fun a w s => by
 obtain ⟨I, hw, he, hh, hv⟩ := s.mem
 obtain ⟨b, cap, more, e1, e2, e3, e4, e5, e6⟩ := Ent.row_blk hn (hh.ok _ (hu 0 0 []).mem)
 refine h b cap more e1 e2 e3 e4 e5 a w ⟨s.ds, s.size, I, hw, he, hh.turn (hu b cap more) (fun _ => e6) (fun x hx => ?_), hv⟩
 subst e1; exact hx
theorem CW.blkRow {p : Code} {t k n b cap : Nat} {cs more : List AV} {H' : List Ent} (h1 : n ≤ cap) (h2 : cap ≤ maxLen) (h3 : (cs ++ more).length = cap * k) (h4 : cs.length = n * k) (hu : Upd H (.blk b t (cs ++ more)) (.row t k (.slice (some ⟨b, 0, none⟩) n cap) n cs) H')
  (h : CW c r P p ⟨env, H'⟩ Q) : CW c r P p ⟨env, H⟩ Q := fun a w s => by
 obtain ⟨I, hw, he, hh, hv⟩ := s.mem
 exact h a w ⟨s.ds, s.size, I, hw, he, hh.turn hu (Ent.blk_row h1 h2 h3 h4) (fun x hx => hx), hv⟩
theorem Sat.freezeRow {t k : Nat} {v : Value} {els : List (List AV)} {H' : List Ent} {a : Act} {w : World} (s : Sat c ⟨env, H⟩ a w) (hd : envGet env d = some (.val v)) (hD : Del H (.row t k v els.length els.flatten) H') (hk : ∀ e ∈ els, e.length = k) : Sat c ⟨(d, .sl k els) :: env, H'⟩ a w := by
 obtain ⟨I, hw, he, hh, hv⟩ := s.mem
 obtain ⟨J, j1, j2, j3, j4⟩ := HeapOk.freezeRow hw (hh.perm hD.perm) hk
 refine ⟨s.ds, s.size, J, j1, he.trans j2, j3, fun t x hx => ?_⟩
 rw [envGet_cons] at hx
 split at hx
 ·rename_i e; cases hx; subst e; rw [rel_val (hv _ _ hd)]; exact j4
 ·exact (hv t x hx).keep j2.keeps
theorem CW.freezeRow {p : Code} {t k : Nat} {v : Value} {els : List (List AV)} {H' : List Ent} (hd : envGet env d = some (.val v)) (hD : Del H (.row t k v els.length els.flatten) H') (hk : ∀ e ∈ els, e.length = k)
  (h : CW c r P p ⟨(d, .sl k els) :: env, H'⟩ Q) : CW c r P p ⟨env, H⟩ Q := fun a w s => h a w (s.freezeRow hd hD hk)
theorem Done.freezeRow {ex : Exit} {t k : Nat} {v : Value} {els : List (List AV)} {H' : List Ent} (hd : envGet env d = some (.val v)) (hD : Del H (.row t k v els.length els.flatten) H') (hk : ∀ e ∈ els, e.length = k)
  (h : Done c ⟨(d, .sl k els) :: env, H'⟩ ex Q) : Done c ⟨env, H⟩ ex Q := fun a w s => h a w (s.freezeRow hd hD hk)
end
structure CE where
 i : Nat
 d : Nat
 u : Bool
def CE.inst (es : List CE) (p : List Bool) (f : Nat → Value) : List (Option Value) := List.zipWith (fun e b => if b then some (f e.d) else none) es p
def CE.vals : List CE → List Bool → (Nat → Value) → List (Nat × AV)
 | e :: es, b :: p, f => match b, e.u with
  | true, true => (e.d, .val (f e.d)) :: CE.vals es p f
  | _, _ => CE.vals es p f
 | _, _, _ => []
def CE.pat (es : List CE) (S : Nat → Bool) : List Bool := es.map fun e => S e.i
def XM {G : Type} (HS : G → List (Option Value) → List Ent) (es : List CE) (S : Nat → Bool) : Mem := fun B a I w => ∃ g, HeapOk B I w (HS g (CE.inst es (CE.pat es S) fun d => a.tmps.getD d undef))
def CE.okPat (L : List Oper) (es : List CE) (i : Nat) (p : List Bool) : Bool := (es.zip p).all fun x => (!((masks L []).getD i 0).testBit x.1.i || x.2) && (!x.2 || (!((masks L []).getD x.1.i 0).testBit i && !Nat.beq x.1.i i && (es.zip p).all fun y => !((masks L []).getD x.1.i 0).testBit y.1.i || y.2))
def bools : Nat → List (List Bool)
 | 0 => [[]]
 | n + 1 => (bools n).flatMap fun p => [false :: p, true :: p]
def CE.fits (L : List Oper) (es : List CE) (i : Nat) (pats : List (List Bool)) : Bool := (es.all fun e => Nat.blt e.i L.length) && (bools es.length).all fun p => !CE.okPat L es i p || pats.contains p
def AllP {α : Type} : List α → (α → Prop) → Prop
 | [], _ => True
 | a :: r, Q => Q a ∧ AllP r Q
theorem AllP.at {α : Type} {Q : α → Prop} : ∀ {l : List α}, AllP l Q → ∀ a ∈ l, Q a
 | _ :: _, ⟨h, _⟩, _, .head _ => h
 | _ :: _, ⟨_, h⟩, _, .tail _ ha => AllP.at h _ ha
theorem bools_all : ∀ (p : List Bool), p ∈ bools p.length
 | [] => .head _
 | b :: p => List.mem_flatMap.2 ⟨p, bools_all p, by cases b <;> simp⟩
theorem inst_pat (es : List CE) (S : Nat → Bool) (f : Nat → Value) : CE.inst es (CE.pat es S) f = es.map fun e => if S e.i then some (f e.d) else none := by
 induction es with
 | nil => rfl
 | cons e r ih => simp only [CE.inst, CE.pat, List.map_cons, List.zipWith_cons_cons] at ih ⊢; rw [ih]
theorem zip_pat {es : List CE} {S : Nat → Bool} : ∀ x ∈ es.zip (CE.pat es S), x.1 ∈ es ∧ x.2 = S x.1.i := by
 induction es with
 | nil => intro x hx; cases hx
 | cons e r ih =>
  intro x hx
  simp only [CE.pat, List.map_cons, List.zip_cons_cons, List.mem_cons] at hx
  rcases hx with rfl | hx
  ·exact ⟨.head _, rfl⟩
  ·exact ⟨.tail _ (ih x hx).1, (ih x hx).2⟩
theorem CE.fits_of {L : List Oper} {es : List CE} {i : Nat} {pats : List (List Bool)} {S : Nat → Bool} (h : CE.fits L es i pats = true) (hs : ShutS L S) (hm : ∀ j, ((masks L []).getD i 0).testBit j = true → S j = true) (hi : S i = false) : CE.pat es S ∈ pats := by
 simp only [CE.fits, Bool.and_eq_true, List.all_eq_true] at h
 obtain ⟨hb, h⟩ := h
 have hlt : ∀ e ∈ es, e.i < L.length := fun e he => Nat.lt_of_succ_le (by simpa [Nat.blt] using hb e he)
 have h1 := h (CE.pat es S) (by have := bools_all (CE.pat es S); rwa [CE.pat, List.length_map] at this)
 have key : CE.okPat L es i (CE.pat es S) = true := by
  rw [CE.okPat, List.all_eq_true]
  intro x hx
  obtain ⟨x1, x2⟩ := zip_pat x hx
  rw [Bool.and_eq_true]
  refine ⟨?_, ?_⟩
  ·cases hb : ((masks L []).getD i 0).testBit x.1.i with
   | false => rfl
   | true => rw [x2, hm _ hb]; rfl
  ·cases hx2 : x.2 with
   | false => rfl
   | true =>
    rw [hx2] at x2
    have hsh := hs x.1.i _ (List.getElem?_eq_getElem (hlt _ x1)) x2.symm
    simp only [Bool.not_true, Bool.false_or, Bool.and_eq_true, Bool.not_eq_true', List.all_eq_true]
    refine ⟨⟨?_, ?_⟩, fun y hy => ?_⟩
    ·cases hb : ((masks L []).getD x.1.i 0).testBit i with
     | false => rfl
     | true => rw [hsh i hb] at hi; cases hi
    ·cases hb : Nat.beq x.1.i i with
     | false => rfl
     | true => rw [Nat.eq_of_beq_eq_true hb, hi] at x2; cases x2
    ·obtain ⟨y1, y2⟩ := zip_pat y hy
     cases hb : ((masks L []).getD x.1.i 0).testBit y.1.i with
     | false => rfl
     | true => rw [y2, hsh _ hb]; rfl
 rw [key] at h1
 simpa using h1
theorem env_vals {f : Nat → Value} {env : List (Nat × AV)} {t : Nat} {y : AV} : ∀ (es : List CE) (p : List Bool), envGet (CE.vals es p f ++ env) t = some y → y = .val (f t) ∨ envGet env t = some y
 | [], p, h => .inr h
 | _ :: _, [], h => .inr h
 | e :: es, b :: p, h => by
  unfold CE.vals at h
  split at h
  ·rw [List.cons_append, envGet_cons] at h
   split at h
   ·rename_i e1; cases h; rw [e1]; exact .inl rfl
   ·exact env_vals es p h
  ·exact env_vals es p h
theorem ops_vals {I : Imm} {w : World} {a : Act} {o : Oper} {env : List (Nat × AV)} (es : List CE) (p : List Bool) (h : OpsOk I w (envGet env) a o) : OpsOk I w (envGet (CE.vals es p (fun d => a.tmps.getD d undef) ++ env)) a o := fun x hx y hy => by
 cases x with
 | tmp u =>
  simp only [aeval] at hy
  rcases env_vals es p hy with rfl | hy
  ·exact .val _
  ·exact h _ hx y hy
 | const v => exact h _ hx y hy
 | global g => exact h _ hx y hy
 | func f => exact h _ hx y hy
theorem EnvOk.vals {I : Imm} {w : World} {a : Act} {env : List (Nat × AV)} (es : List CE) (p : List Bool) (h : EnvOk I w (envGet env) a) : EnvOk I w (envGet (CE.vals es p (fun d => a.tmps.getD d undef) ++ env)) a := fun t x hx => by
 rcases env_vals es p hx with rfl | hx
 ·exact .val _
 ·exact h t x hx
def FOk {G : Type} (P : Program) (H : List Ent) (H' : G → Value → List Ent) (ρ : Nat → Option AV) (o : Oper) (x : AV) : Prop := ∀ (B : Nat) (I : Imm) (w : World) (r : Option Nat) (a : Act), WOk B I w → HeapOk B I w H → OpsOk I w ρ a o →
 Runs P r o a w (fun v w' => ∃ I' g, WOk B I' w' ∧ Ext B I w I' w' ∧ HeapOk B I' w' (H' g v) ∧ Rel I' w' x v) (fun _ _ => False)
section
variable {c : Ctx} {r : Option Nat} {P : Program} {l : List Oper} {Q : Exit → Act → World → Prop} {G : Type}
theorem DP.anyH {env : List (Nat × AV)} {H : List Ent} (es : List CE) (g0 : G) (HS : G → List (Option Value) → List Ent) (k m n : Nat) (hn : c.n = n) (hchk : segChk l k m = true) (hes : (es.all fun e => Nat.ble k e.i && Nat.blt e.i m) = true) (hkm : Nat.ble k m = true) (hml : Nat.ble m l.length = true) (hlk : (l.all fun o => (looks l o).all fun t => Nat.blt t n) = true)
  (h0 : HS g0 (es.map fun _ => none) = H)
  (h : UD P (XM HS es) l c.n k ((l.drop k).take (m - k)) env fun env => ∀ (g : G) (f : Nat → Value), DP c r P l Q m ⟨CE.vals es (es.map fun _ => true) f ++ env, HS g (es.map fun e => some (f e.d))⟩) : DP c r P l Q k ⟨env, H⟩ := by
 simp only [List.all_eq_true, Bool.and_eq_true] at hes
 have blk : ∀ i, Nat.ble k i = true → Nat.blt i k = false := fun i hi => by
  have h1 := Nat.le_of_ble_eq_true hi
  rw [Bool.eq_false_iff]; intro hb; have := Nat.lt_of_succ_le (by simpa [Nat.blt] using hb); omega
 refine DP.anyU (M := XM HS es) hchk (Nat.le_of_ble_eq_true hkm) (Nat.le_of_ble_eq_true hml) (by rw [hn]; exact hlk) (fun B a I w hh => ⟨g0, ?_⟩) (h.mono fun env hd a w I q1 q2 q3 q4 q5 q6 => ?_)
 ·have e : CE.inst es (CE.pat es fun i => Nat.blt i k) (fun d => a.tmps.getD d undef) = es.map fun _ => none := by
   rw [inst_pat]
   exact List.map_congr_left fun e he => by rw [blk _ (hes e he).1]; rfl
  rw [e, h0]; exact hh
 ·obtain ⟨g, hh⟩ := q5
  have e : CE.inst es (CE.pat es fun i => Nat.blt i m) (fun d => a.tmps.getD d undef) = es.map fun e => some (a.tmps.getD e.d undef) := by
   rw [inst_pat]
   exact List.map_congr_left fun e he => by rw [(hes e he).2]; rfl
  rw [e] at hh
  exact hd g (fun d => a.tmps.getD d undef) a w ⟨q1, q2, I, q3, q4, hh, q6.vals es _⟩
end
section
variable {P : Program} {L rest : List Oper} {es : List CE} {n i d : Nat} {o : Oper} {env : List (Nat × AV)} {K : List (Nat × AV) → Prop} {x : AV} {G : Type} {HS : G → List (Option Value) → List Ent}
theorem UD.popG (pats : List (List Bool)) (hi : (es.all fun e => !Nat.beq e.i i && !Nat.beq e.d d) = true) (hf : CE.fits L es i pats = true) (hg : o.guard = none) (hd : o.dst = some d) (hn : Nat.blt d n = true)
  (h : AllP pats fun p => ∀ g f, POp P (HS g (CE.inst es p f)) (envGet (CE.vals es p f ++ env)) o x) (next : UD P (XM HS es) L n (i + 1) rest ((d, x) :: env) K) : UD P (XM HS es) L n i (o :: rest) env K :=
 ⟨x, fun S hshut hmask hSi => ⟨hg, fun B I w r a hw hm ho hz => by
  obtain ⟨g, hm⟩ := hm
  simp only [List.all_eq_true, Bool.and_eq_true, Bool.not_eq_true'] at hi
  have ne : ∀ {a b : Nat}, Nat.beq a b = false → a ≠ b := fun h e => by subst e; simp at h
  refine (h.at _ (CE.fits_of hf hshut hmask hSi) g (fun d => a.tmps.getD d undef) B I w r a _ hw hm (fun e he => he) (ops_vals es _ ho)).mono (fun v w' ⟨I', a1, a2, a3, a4⟩ => ⟨I', a1, a2, ⟨g, ?_⟩, a4⟩) (fun _ _ h => h)
  have e : CE.inst es (CE.pat es (addS S i)) (fun d => (a.put o.dst v).tmps.getD d undef) = CE.inst es (CE.pat es S) (fun d => a.tmps.getD d undef) := by
   rw [inst_pat, inst_pat]
   exact List.map_congr_left fun e he => by rw [addS_other (ne (hi e he).1), hd, tmps_put_other (ne (hi e he).2)]
  rw [e]; exact a3⟩, dstOk_of hd hn, by rw [hd]; exact next⟩
theorem inst_set {S : Nat → Bool} {f f' : Nat → Value} {q : Nat} {e : CE} {u : Value} (he : es[q]? = some e) (hu : f' e.d = u) (ho : ∀ q' e', q' ≠ q → es[q']? = some e' → e'.i ≠ e.i ∧ f' e'.d = f e'.d) : CE.inst es (CE.pat es (addS S e.i)) f' = (CE.inst es (CE.pat es S) f).set q (some u) := by
 rw [inst_pat, inst_pat]
 refine List.ext_getElem? fun j => ?_
 rw [List.getElem?_set, List.length_map, List.getElem?_map, List.getElem?_map]
 have hq := (List.getElem?_eq_some_iff.1 he).1
 by_cases hj : q = j
 ·subst hj
  rw [if_pos rfl, if_pos hq, he]
  show some (if addS S e.i e.i = true then some (f' e.d) else none) = _
  rw [addS_same, hu]; rfl
 ·rw [if_neg hj]
  cases hje : es[j]? with
  | none => rfl
  | some e' =>
   have := ho j e' (fun h => hj h.symm) hje
   show some (if addS S e.i e'.i = true then some (f' e'.d) else none) = some (if S e'.i = true then some (f e'.d) else none)
   rw [addS_other this.1, this.2]
theorem UD.effG (q : Nat) (pats : List (List Bool)) {e : CE} (he : es[q]? = some e) (hi : e.i = i) (ho : ((es.take q ++ es.drop (q + 1)).all fun e' => !Nat.beq e'.i i && !Nat.beq e'.d e.d) = true) (hf : CE.fits L es i pats = true) (hg : o.guard = none) (hd : o.dst = some e.d) (hn : Nat.blt e.d n = true)
  (h : AllP pats fun p => ∀ g f, FOk P (HS g (CE.inst es p f)) (fun g' v => HS g' ((CE.inst es p f).set q (some v))) (envGet (CE.vals es p f ++ env)) o x) (next : UD P (XM HS es) L n (i + 1) rest ((e.d, x) :: env) K) : UD P (XM HS es) L n i (o :: rest) env K :=
 ⟨x, fun S hshut hmask hSi => ⟨hg, fun B I w r a hw hm hops hz => by
  obtain ⟨g, hm⟩ := hm
  simp only [List.all_eq_true, Bool.and_eq_true, Bool.not_eq_true'] at ho
  have ne : ∀ {a b : Nat}, Nat.beq a b = false → a ≠ b := fun h e => by subst e; simp at h
  refine (h.at _ (CE.fits_of hf hshut hmask hSi) g (fun d => a.tmps.getD d undef) B I w r a hw hm (ops_vals es _ hops)).mono (fun v w' ⟨I', g', a1, a2, a3, a4⟩ => ⟨I', a1, a2, ⟨g', ?_⟩, a4⟩) (fun _ _ h => h)
  rw [← hi, inst_set (S := S) (f := fun d => a.tmps.getD d undef) (f' := fun d => (a.put o.dst v).tmps.getD d undef) (u := v) he (by rw [hd]; exact tmps_put_same (hz _ hd)) (fun q' e' hq he' => ?_)]
  ·exact a3
  ·have hm' : e' ∈ es.take q ++ es.drop (q + 1) := by
    rw [List.mem_append]
    rcases Nat.lt_or_gt_of_ne hq with h1 | h1
    ·exact .inl (List.mem_of_getElem? (i := q') (by rw [List.getElem?_take, if_pos h1]; exact he'))
    ·exact .inr (List.mem_of_getElem? (i := q' - (q + 1)) (by rw [List.getElem?_drop, show q + 1 + (q' - (q + 1)) = q' by omega]; exact he'))
   refine ⟨by rw [hi]; exact ne (ho _ hm').1, ?_⟩
   show (a.put o.dst v).tmps.getD e'.d undef = _
   rw [hd]; exact tmps_put_other (ne (ho _ hm').2)⟩, dstOk_of hd hn, by rw [hd]; exact next⟩
theorem FOk.sto {H : List Ent} {H' : List Ent} {ρ : Nat → Option AV} (g : G) (h : SOk P H H' ρ o) : FOk P H (fun (_ : G) _ => H') ρ o .any := fun B I w r a hw hh ho => (h B I w r a hw hh ho).mono (fun v w' ⟨I', a1, a2, a3⟩ => ⟨I', g, a1, a2, a3, .any _⟩) (fun _ _ h => h)
theorem FOk.app {H : List Ent} {ρ : Nat → Option AV} {s z : Operand} {t e k by_ m : Nat} {cs : List AV} {news : List (List AV)} {v : Value} {y : AV} {g1 g2 : Bool} {H' : G → Value → List Ent} (g : G) [hA : HasApp P t (e, k, by_)]
  (h : o.op = .call { callee := .builtin .append, args := #[s, z], argTypes := #[t, t] }) (hs : aev ρ s = some (g1, .val v)) (hg1 : g1 = true) (hz : aev ρ z = some (g2, y)) (hg2 : g2 = true) (hy : AVle y (.sl k news)) (hne : news ≠ [])
  (h1 : news.all allOne = true) (hu : ∀ v', Upd H (.row e k v m cs) (.row e k v' (m + news.length) (cs ++ news.flatten)) (H' g v')) (hb : (m + news.length) * by_ ≤ 140737488355328) (hb' : m + news.length ≤ 9223372036854775807) : FOk P H H' ρ o .any := fun B I w r a hw hh ho =>
 (appendRow_runs h hs hg1 hz hg2 hy hne h1 hu hb hb' hw hh ho).mono (fun v w' ⟨I', a1, a2, a3⟩ => ⟨I', g, a1, a2, a3, .any _⟩) (fun _ _ h => h)
theorem FOk.bcall {H : List Ent} {ρ : Nat → Option AV} {f : FuncId} {xs : List AV} {Φ : AV → List Ent → Prop} {H' : G → Value → List Ent} (hc : CallOk P ρ o f xs) (h : ∀ B, BCall B P f xs H Φ (fun _ => False)) (hq : ∀ y H1, Φ y H1 → ∃ g, y = x ∧ ∀ v, H' g v = H1) : FOk P H H' ρ o x := fun B I w r a hw hh ho =>
 (bcall_runs (c := ⟨B, I, w, 0, []⟩) hc (h B) hw hh ho).mono (fun v w' hR => by
  obtain ⟨I', H1, y, a1, a2, a3, a4, a5⟩ := hR
  obtain ⟨g, rfl, hv⟩ := hq _ _ a5
  exact ⟨I', g, a1, a2, by rw [hv]; exact a3, a4⟩) (fun _ _ h => h)
end
end Go.Eng
