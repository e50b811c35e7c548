/- Part 4 of the proof: contracts of functions of the program and what they need. No condition beyond those that each theorem names. -/
import Derived.Test.YtiljpbljebfhnaaGreatMdP3
import Derived.OpenShut
import Derived.ProofKit
import Derived.Laws.MakeOwn
import Derived.Carry
set_option linter.unusedVariables false
set_option linter.unusedSimpArgs false
namespace Go.Eng
open Go.RowKit (Below)
section
variable {P : Program} {H : List Ent} {ρ : Nat → Option AV} {o : Oper}
theorem POp.ixC {t : TypeId} {x y : Operand} {k b off n cap : Nat} {kk : IntKind} {i : Int} {gx gy : Bool} [ht : HasSl P t k] (h : o.op = .indexAddr t x y) (hx : aev ρ x = some (gx, .val (.slice (some ⟨b, off, none⟩) n cap))) (hgx : gx = true) (hy : aev ρ y = some (gy, .val (.int kk i))) (hgy : gy = true) (h0 : 0 ≤ i ∧ i < n) : POp P H ρ o (.p b (off + i.toNat * k)) := by
 refine .same (by simp [h]) fun I w f ho => ?_
 have h1 := rel_val (ho.get (by simp [h, Op.operands]) hx hgx)
 have h2 := rel_val (ho.get (by simp [h, Op.operands]) hy hgy)
 exact ⟨.pointer (some ⟨b, off + i.toNat * k, none⟩), by simp [execOp, h, h1, h2, run_indexSl ht.h b off n cap kk i h0.1 h0.2 w], .val _⟩
theorem run_sliceC {t : TypeId} {k : Nat} (ht : slSize P t = some k) (b off n cap l m : Nat) (lo hi : Option Value) (kl kh : IntKind) (hl : match lo with | none => l = 0 | some v => v = .int kl (l : Int)) (hh : match hi with | none => m = n | some v => v = .int kh (m : Int)) (h1 : l ≤ m) (h2 : m ≤ cap) (h3 : l < cap) (w : World) :
  (Instr.sliceAt t (.slice (some ⟨b, off, none⟩) n cap) lo hi none).run P w = .ok (.slice (some ⟨b, off + l * k, none⟩) (m - l) (cap - l)) w := by
 obtain ⟨e, inf, hu, hi', hk⟩ := slSize_spec ht
 have hne : ¬ (cap = l) := by omega
 cases lo <;> cases hi <;> simp only at hl hh <;> subst hl <;> subst hh <;>
  simp [Instr.sliceAt, Instr.slice, run_underlying hu, Instr.sliceBounds, Instr.sliceBound, asIntOf, sizeOf, typeInfo, hi', hk, h1, h2, hne, Addr.add] <;> omega
theorem POp.slC {t : TypeId} {x : Operand} {lo hi : Option Operand} {k b off n cap l m : Nat} {gx gl gh : Bool} {kl kh : IntKind} [ht : HasSl P t k] (h : o.op = .slice t x lo hi none) (hx : aev ρ x = some (gx, .val (.slice (some ⟨b, off, none⟩) n cap))) (hgx : gx = true)
  (hlo : match lo with | none => l = 0 | some y => aev ρ y = some (gl, .val (.int kl (l : Int)))) (hgl : gl = true) (hhi : match hi with | none => m = n | some y => aev ρ y = some (gh, .val (.int kh (m : Int)))) (hgh : gh = true) (h1 : l ≤ m) (h2 : m ≤ cap) (h3 : l < cap) :
  POp P H ρ o (.val (.slice (some ⟨b, off + l * k, none⟩) (m - l) (cap - l))) := by
 refine .same (by simp [h]) fun I w f ho => ?_
 have hr := rel_val (ho.get (by simp [h, Op.operands]) hx hgx)
 have hl0 : ∀ y, lo = some y → f.eval y = .int kl (l : Int) := fun y e => by
  subst e; exact rel_val (ho.get (by simp [h, Op.operands]) hlo hgl)
 have hh0 : ∀ y, hi = some y → f.eval y = .int kh (m : Int) := fun y e => by
  subst e; exact rel_val (ho.get (by simp [h, Op.operands]) hhi hgh)
 refine ⟨_, ?_, .val (.slice (some ⟨b, off + l * k, none⟩) (m - l) (cap - l))⟩
 have := run_sliceC ht.h b off n cap l m (lo.map f.eval) (hi.map f.eval) kl kh (by cases lo with | none => exact hlo | some y => exact hl0 y rfl) (by cases hi with | none => exact hhi | some y => exact hh0 y rfl) h1 h2 h3 w
 simp [execOp, h, hr, this]
theorem Borrow.blk {t b k cap : Nat} {els : List (List AV)} {more : List AV} {pre post : List AV} (hm : Ent.blk b t (els.flatten ++ more) ∈ H) (hk : ∀ e ∈ els, e.length = k) (hc : els.length ≤ cap) (hcm : cap ≤ maxLen) : Borrow H (pre ++ .val (.slice (some ⟨b, 0, none⟩) els.length cap) :: post) (pre ++ .sl k els :: post) := by
 intro B I w Hc vs hw hh hs hr
 obtain ⟨hB, us, hb, hrel, hni⟩ := hh.ok _ (hs _ hm)
 let J : Imm := fun b' o' => I b' o' ∨ (b' = b ∧ o' < us.size)
 have kk : Keeps I w J w := ⟨fun _ _ h => .inl h, fun _ _ _ => rfl⟩
 refine ⟨J, fun b' o' h => ?_, ?_⟩
 ·rcases h with h | ⟨rfl, h⟩
  ·exact hw.there b' o' h
  ·exact ⟨us[o'], by rw [cell_of_blk hb]; exact Array.getElem?_eq_getElem h⟩
 obtain ⟨as, zs, rfl, r1, r2⟩ := hr.append_inv
 cases r2 with
 | cons _ u _ zs hx ht =>
  have := rel_val hx
  subst this
  have hlen := hrel.length
  rw [List.length_append, flatten_len hk] at hlen
  have hsz : us.size = els.length * k + more.length := by simpa using hlen
  have hcells : Cells J w b 0 (els.flatten ++ more) := cells_of hb _ us.toList 0 (hrel.keep kk) (fun j u hu => by simpa using hu) (fun j hj => .inr ⟨rfl, by rw [List.length_append, flatten_len hk] at hj; omega⟩)
  have hc2 := hcells.take els.flatten.length
  rw [List.take_left] at hc2
  exact (r1.keep kk).append (.cons _ _ _ _ (.sl _ _ _ _ _ _ rfl hc hcm (els_of_cells els 0 hk hc2)) (ht.keep kk))
end
section
variable {c : Ctx} {r : Option Nat} {P : Program} {ops : Array Oper} {l rest : List Oper} {o : Oper} {env : List (Nat × AV)} {H : List Ent} {Q : Exit → Act → World → Prop} {d : Nat}
theorem OL.appendNew {s z : Operand} {t tx e k by_ k' : Nat} {news : List (List AV)} {y0 y : AV} {g1 g2 : Bool} [hA : HasApp P t (e, k, by_)] [hX : HasSl P tx k'] (hgd : o.guard = none) (hd : o.dst = some d) (hn : Nat.blt d c.n = true)
  (h : o.op = .call { callee := .builtin .append, args := #[s, z], argTypes := #[t, tx] }) (hs : aev (envGet env) s = some (g1, y0)) (hg1 : g1 = true) (hy0 : AVle y0 .e0) (hz : aev (envGet env) z = some (g2, y)) (hg2 : g2 = true) (hy : AVle y (.sl k news)) (hne : news ≠ [])
  (h1 : news.all allOne = true) (hb : news.length * by_ ≤ 140737488355328) (hb' : news.length ≤ 9223372036854775807)
  (next : ∀ b cap more, news.length ≤ cap → cap ≤ maxLen → OL c r P ops rest ⟨(d, .val (.slice (some ⟨b, 0, none⟩) news.length cap)) :: env, .blk b e (news.flatten ++ more) :: H⟩ Q) : OL c r P ops (o :: rest) ⟨env, H⟩ Q := by
 intro a w sat
 refine wpListIn_plain hgd fun K hK => ?_
 obtain ⟨I, hw, he, hh, hv⟩ := sat.mem
 have ho := hv.ops o
 obtain ⟨i, zv, hu, hi, hzz, hsz, hby, hzs, hk0⟩ := appInfo_spec hA.h
 obtain ⟨e', _, hu', _⟩ := slSize_spec hX.h
 obtain ⟨ad, hsv⟩ : ∃ ad, a.eval s = .slice ad 0 0 := by
  have h0 := hy0 _ _ _ (ho.get (by simp [h, Op.operands, Call.operands]) hs hg1)
  generalize a.eval s = u at h0
  cases h0; exact ⟨_, rfl⟩
 obtain ⟨us, r1, r2⟩ := src_of (P := P) (tx := tx) hu' (hy _ _ _ (ho.get (by simp [h, Op.operands, Call.operands]) hz hg2)) h1
 rw [← hsz] at r2
 have hn0 : news.length ≠ 0 := fun e => hne (List.eq_nil_of_length_eq_zero e)
 have hfc : (Builtin.firstCells i.size 0 (.slice ad 0 0)).run P w.drew = .ok (#[] : Array Value) w.drew := by
  cases ad with
  | none => simp [Builtin.firstCells]
  | some ad => exact run_firstCells_some w.drew i.size 0 ad 0 0 [] (by simp) (by simp)
 have hnc : Builtin.nextslicecap (0 + news.length) 0 * i.bytes ≤ 281474976710656 := growslice_fits (by omega) (by rw [hby, Nat.zero_add]; exact hb)
 have hr := run_append_grow_src (P := P) w t tx o.type e i zv hu hi hzz ad 0 0 [] hfc (a.eval z) news.length us r2 (by omega) (by omega) hnc
 simp only [Nat.zero_add, List.nil_append] at hr
 generalize hG : grownCap w news.length 0 e = G at hr
 have hge : news.length ≤ G := by rw [← hG]; exact grownCap_ge w news.length 0 e
 have hcm : G ≤ maxLen := by rw [← hG]; exact grownCap_le_maxLen w news.length 0 e (by simp only [maxLen]; omega)
 generalize hcur : us.toArray ++ Builtin.zeroCells zv.cells (G - news.length) = cur at hr
 have hwd := hw.drew
 have hrel : RelL I w.drew (news.flatten ++ (Builtin.zeroCells zv.cells (G - news.length)).toList.map .val) cur.toList := by
  rw [← hcur]
  simpa using (r1.keep keeps_drew).append (relL_val (I := I) (w := w.drew) (Builtin.zeroCells zv.cells (G - news.length)).toList)
 refine Runs.of_value (R := fun v w' => v = .slice (some ⟨w.heap.size, 0, none⟩) news.length G ∧ w' = w.drew.alloc (.cells cur e)) (E := fun _ _ => False) (by simp [h]) (run_appendOp h a w (by rw [hsv]; exact hr)) ⟨rfl, rfl⟩ K Q ?_ (fun _ _ h => h.elim)
 rintro v w' ⟨rfl, rfl⟩
 refine hK _ _ (next w.heap.size G _ hge hcm _ _ ⟨by rw [put_defers]; exact sat.ds, by rw [tmps_put_size]; exact sat.size, I, hwd.alloc _, he.trans (ext_drew.trans (ext_alloc hwd _)), hh.drew.new hwd e _ cur hrel, ?_⟩)
 have := ((hv.keep keeps_drew).keep (keeps_alloc hwd (.cells cur e))).put (dst := some d) (x := .val (.slice (some ⟨w.heap.size, 0, none⟩) news.length G)) (v := .slice (some ⟨w.heap.size, 0, none⟩) news.length G) (by rw [sat.size]; exact hn) (.val _)
 rw [hd]; exact this
theorem relL_any {I : Imm} {w : World} : ∀ {n : Nat} {vs : List Value}, vs.length = n → RelL I w (List.replicate n .any) vs
 | 0, [], _ => .nil
 | n + 1, v :: vs, h => .cons _ _ _ _ (.any _) (relL_any (by simpa using h))
theorem OL.clearC {x : Operand} {t e k by_ b off n cap tb : Nat} {cs : List AV} {g : Bool} {H' : List Ent} [hA : HasApp P t (e, k, by_)] (hgd : o.guard = none) (hd : o.dst = none ∨ ∃ d', o.dst = some d' ∧ Nat.blt d' c.n = true)
  (h : o.op = .call { callee := .builtin .clear, args := #[x], argTypes := #[t] }) (hx : aev (envGet env) x = some (g, .val (.slice (some ⟨b, off, none⟩) n cap))) (hg : g = true) (hn0 : n ≠ 0) (hz1 : ((P.info? e).bind (·.zero)).all (fun z => z.cells.toList.all (·.oneCell')) = true)
  (hfit : off + n * k ≤ cs.length) (hu : Upd H (.blk b tb cs) (.blk b tb (cs.take off ++ List.replicate (n * k) .any ++ cs.drop (off + n * k))) H') (next : OL c r P ops rest ⟨putEnv o.dst .any env, H'⟩ Q) : OL c r P ops (o :: rest) ⟨env, H⟩ Q := by
 intro a w s
 refine wpListIn_plain hgd fun K hK => ?_
 obtain ⟨I, hw, he, hh, hv⟩ := s.mem
 have hxv := rel_val ((hv.ops o).get (by simp [h, Op.operands, Call.operands]) hx hg)
 obtain ⟨i, zv, hut, hi, hzz, hsz, hby, hzs, hk0⟩ := appInfo_spec hA.h
 obtain ⟨hB, vs, hblk, hrel, hni⟩ := hh.ok _ hu.mem
 have hcl : vs.size = cs.length := by have := hrel.length; simpa using this
 have hzl : (Builtin.zeroCells zv.cells n).toList.length = n * k := by
  have := size_zeroCells zv.cells n
  rw [hzs] at this; simpa using this
 have hone : ∀ u ∈ (Builtin.zeroCells zv.cells n).toList, u.oneCell' = true := by
  intro u hu
  simp only [hi, hzz, Option.bind_some, Option.all_some, List.all_eq_true] at hz1
  simp only [Builtin.zeroCells, Array.toList_map, List.mem_map] at hu
  obtain ⟨j, _, rfl⟩ := hu
  have hj : j % zv.cells.size < zv.cells.size := Nat.mod_lt _ (by omega)
  rw [getElem!_pos zv.cells _ hj]
  exact hz1 _ (by simp)
 have hrun := run_storeCells_at P b off tb (Builtin.zeroCells zv.cells n).toList 0 vs w hblk (by rw [hzl, hcl]; omega) hone
 generalize hcur : (vs.toList.take (off + 0) ++ (Builtin.zeroCells zv.cells n).toList ++ vs.toList.drop (off + 0 + (Builtin.zeroCells zv.cells n).toList.length)).toArray = cur at hrun
 have hz : (zeroValue e).run P w = .ok zv w := by simp [zeroValue, typeInfo, hi, hzz]
 have hexec : (execOp a.eval o).run P w = .ok (.value (.tuple #[])) (w.setRow b cur) := by
  try simp only [Nat.add_zero] at hrun
  obtain ⟨q, rfl⟩ : ∃ q, n = q + 1 := ⟨n - 1, by omega⟩
  simp [execOp, h, hxv, resolve, invoke, builtin, Builtin.clear_, run_underlying hut, hz, hrun]
 have hkeep : Keeps I w I (w.setRow b cur) := ⟨fun _ _ x => x, fun b' o' hI => by
  have hne : b' ≠ b := fun e => by subst e; exact hni o' hI
  exact World.cell?_of_block (a := ⟨b', o', none⟩) (setRow_other w b b' cur hne)⟩
 have hext : Ext c.B I w I (w.setRow b cur) := ⟨hkeep.imm, hkeep.cell, ⟨rfl, rfl, rfl, by simp, fun k hk => setRow_other w b k cur (by omega)⟩⟩
 have hw' : WOk c.B I (w.setRow b cur) := ⟨by simpa using hw.base, fun b' o' hI => by rw [hkeep.cell b' o' hI]; exact hw.there b' o' hI⟩
 have hrel' : RelL I w (cs.take off ++ List.replicate (n * k) .any ++ cs.drop (off + n * k)) cur.toList := by
  rw [← hcur]
  simp only [Nat.add_zero, hzl]
  exact ((hrel.take off).append (relL_any hzl)).append (hrel.drop _)
 have hh' : HeapOk c.B I (w.setRow b cur) H' := by
  refine hh.upd hu hkeep (fun k hk hne => setRow_other w b k cur (fun e => hne (by subst e; rfl))) (fun _ _ x => .inl x) ?_ (fun k hk => .inl hk)
  exact ⟨hB, cur, setRow_heap w b vs cur tb (0, 0) hblk, hrel'.keep hkeep, hni⟩
 refine Runs.of_value (R := fun v w' => w' = w.setRow b cur) (E := fun _ _ => False) (by simp [h]) hexec rfl K Q ?_ (fun _ _ h => h.elim)
 rintro v w' rfl
 refine hK _ _ (next _ _ ⟨by rw [put_defers]; exact s.ds, by rw [tmps_put_size]; exact s.size, I, hw', he.trans hext, hh', ?_⟩)
 refine (hv.keep hkeep).put ?_ (.any _)
 rcases hd with hd | ⟨d', hd, hlt⟩
 ·rw [hd]; rfl
 ·rw [hd, s.size]; exact hlt
end
section
variable {c : Ctx} {r : Option Nat} {P : Program} {l : List Oper} {Q : Exit → Act → World → Prop}
abbrev AM (H0 : List Ent) (Hb : Nat → Nat → List Ent) (de : Nat) : Nat → Mem := fun j B a I w => match j with
 | 0 => HeapOk B I w H0
 | j + 1 => ∃ b, a.tmps.getD de undef = .pointer (some ⟨b, 0, none⟩) ∧ HeapOk B I w (Hb j b)
theorem DP.anyAC {env : List (Nat × AV)} {H : List Ent} (Hb : Nat → Nat → List Ent) (de : Nat) (ss : List Nat) (q : Nat) (k m n : Nat) (hn : c.n = n) (hchk : segChk l k m = true) (hss : ssChk ss k m = true) (hq : ss.length = q + 1) (hkm : Nat.ble k m = true) (hml : Nat.ble m l.length = true) (hlk : (l.all fun o => (looks l o).all fun t => Nat.blt t n) = true)
  (h : TD P (AM H Hb de) l ss c.n k ((l.drop k).take (m - k)) env fun env => ∀ b, DP c r P l Q m ⟨(de, .p b 0) :: env, Hb q b⟩) : DP c r P l Q k ⟨env, H⟩ :=
 DP.anyS (Hs := AM H Hb de) hchk hss (Nat.le_of_ble_eq_true hkm) (Nat.le_of_ble_eq_true hml) (by rw [hn]; exact hlk) (fun B a I w hh => hh) (h.mono fun env hd a w I q1 q2 q3 q4 q5 q6 => by
  rw [hq] at q5
  obtain ⟨b, hb, hh⟩ := q5
  exact hd b a w ⟨q1, q2, I, q3, q4, hh, Sat.put1 q6 (by rw [hb]; exact .val _)⟩)
end
section
variable {P : Program} {L rest : List Oper} {ss : List Nat} {n i d : Nat} {o : Oper} {env : List (Nat × AV)} {K : List (Nat × AV) → Prop} {x : AV} {H : List Ent} {Hb : Nat → Nat → List Ent} {de : Nat}
theorem TD.popA (hs : stp ss i = 0) (hg : o.guard = none) (hd : o.dst = some d) (hn : Nat.blt d n = true) (hde : Nat.beq d de = false) (h : ∀ H, POp P H (envGet env) o x) (next : TD P (AM H Hb de) L ss n (i + 1) rest ((d, x) :: env) K) : TD P (AM H Hb de) L ss n i (o :: rest) env K :=
 ⟨x, fun j h1 h2 => by
  rw [hs]
  refine ⟨hg, fun B I w r a hw hm ho hz => ?_⟩
  cases j with
  | zero => exact h H B I w r a _ hw hm (fun _ h => h) ho
  | succ j =>
   obtain ⟨b, hb, hh⟩ := hm
   refine (h (Hb j b) B I w r a _ hw hh (fun _ h => h) ho).mono (fun v w' ⟨I', a1, a2, a3, a4⟩ => ⟨I', a1, a2, ⟨b, ?_, a3⟩, a4⟩) (fun _ _ h => h)
   rw [← hb, hd]
   exact tmps_put_other (fun e => by subst e; simp at hde), dstOk_of hd hn, by rw [hd]; exact next⟩
theorem TD.effA {t : TypeId} {zs : List Value} [hz : HasZero P t zs] (hh : hiOf L ss i = 0) (hs : stp ss i = 1) (hg : o.guard = none) (hd : o.dst = some de) (hn : Nat.blt de n = true) (h : o.op = .alloc t)
  (hH : ∀ b, Hb 0 b = .blk b t (zs.map .val) :: H) (next : TD P (AM H Hb de) L ss n (i + 1) rest ((de, .any) :: env) K) : TD P (AM H Hb de) L ss n i (o :: rest) env K :=
 ⟨.any, fun j h1 h2 => by
  obtain rfl : j = 0 := by omega
  rw [hs]
  refine ⟨hg, fun B I w r a hw hm ho hzz => ?_⟩
  have hz' := hz.h
  unfold zeroCells at hz'
  cases hi : P.info? t with
  | none => simp [hi] at hz'
  | some inf =>
   cases hz2 : inf.zero with
   | none => simp [hi, hz2] at hz'
   | some z =>
    simp [hi, hz2] at hz'
    have h1 : RelL I w (zs.map .val) z.cells.toList := by rw [hz']; exact relL_val zs
    refine Runs.of_value (v := .pointer (some ⟨w.heap.size, 0, none⟩)) (w' := w.alloc (.cells z.cells t)) (by simp [h]) (by simp [execOp, h, Instr.alloc, newVar, newRow, zeroValue, typeInfo, hi, hz2]) ⟨I, hw.alloc _, ext_alloc hw _, ⟨w.heap.size, ?_, ?_⟩, .any _⟩
    ·rw [hd]; exact tmps_put_same (hzz de hd)
    ·rw [hH]; exact HeapOk.new hm hw t _ _ h1, dstOk_of hd hn, by rw [hd]; exact next⟩
theorem TD.stoA (q : Nat) (hl : loOf L ss i = q + 1) (hh : hiOf L ss i = q + 1) (hs : stp ss i = 1) (hg : o.guard = none) (hd : o.dst = none) (h : ∀ b, SOk P (Hb q b) (Hb (q + 1) b) (envGet ((de, .p b 0) :: env)) o) (next : TD P (AM H Hb de) L ss n (i + 1) rest env K) : TD P (AM H Hb de) L ss n i (o :: rest) env K :=
 ⟨.any, fun j h1 h2 => by
  obtain rfl : j = q + 1 := by omega
  rw [hs]
  refine ⟨hg, fun B I w r a hw hm ho hz => ?_⟩
  obtain ⟨b, hb, hhp⟩ := hm
  have ho' : OpsOk I w (envGet ((de, .p b 0) :: env)) a o := fun x hx y hy => by
   cases x with
   | tmp t =>
    simp only [aeval] at hy
    rw [envGet_cons] at hy
    split at hy
    ·rename_i e
     subst e
     cases hy
     show Rel I w (.p b 0) (a.tmps.getD t undef)
     rw [hb]; exact .val _
    ·exact ho _ hx y hy
   | const v => exact ho _ hx y hy
   | global g => exact ho _ hx y hy
   | func f => exact ho _ hx y hy
  exact (h b B I w r a hw hhp ho').mono (fun v w' ⟨I', a1, a2, a3⟩ => ⟨I', a1, a2, ⟨b, by rw [hd]; exact hb, a3⟩, .any _⟩) (fun _ _ h => h), by rw [hd]; rfl, by rw [hd]; exact next⟩
end
open Go.ChangeShapes Go.WideShapes Go.ChangeAt Go.RowKit
theorem post_of_below {H : Type} {enc : TypeId × Value → H} {P : Program} {f : Func} {s : ChangeSpec} {apart fresh handsOn again : Bool} {W W' : World} {args : Array Value} {v : Value} {ds gs : List (DataW H)} {before pa pv : List MemPlace}
  (hW : DataW.Whole enc P f.params.toList s.vars apart W args.toList ds gs before)
  (hres : ∀ (b : Nat) (sp : Nat → Bool) (hd : Bool), DataW.TrodAll enc P W' b sp hd f.resultTypes.toList (v.resultList f.resultTypes.size) (s.fn H (ds ++ gs)).results [])
  (hargs : ∀ sp : Nat → Bool, (∀ p ∈ before, sp p.block = true) → DataW.TrodAll enc P W' 0 sp true f.params.toList args.toList (s.fn H (ds ++ gs)).args pa)
  (hvars : ∀ sp : Nat → Bool, (∀ p ∈ before, sp p.block = true) → DataW.TrodVars enc P W' sp s.vars (s.fn H (ds ++ gs)).vars pv)
  (hps : before = pa ++ pv) (hb : Below W.heap.size W W')
  (hok : ∀ (j : Nat) (t : TypeId) (r : Value), f.resultTypes[j]? = some t → (v.resultList f.resultTypes.size)[j]? = some r → Value.okWide P W' .any 0 t r) :
  s.post enc P f apart fresh handsOn again W args v W' := by
 have hold : ∀ p ∈ before, (fun b => decide (b < W.heap.size)) p.block = true := fun p hp => by simpa using hW.lt p hp
 have hlt : ∀ p ∈ before, p.block < W.heap.size := fun p hp => hW.lt p hp
 refine ⟨ds, gs, before, [], pa, pv, hW, hres _ _ _, hargs _ hold, hvars _ hold, hb.frame _, fun _ => ?_⟩
 obtain ⟨_, _, _, _, _, hz, hn⟩ := hW
 refine ⟨hok, _, _, ([] ++ pa) ++ pv, ⟨[] ++ pa, pv, trodAll_append (hargs _ (fun _ _ => rfl)) (hres _ _ _), hvars _ (fun _ _ => rfl), rfl, ?_, ?_⟩, ?_⟩
 ·intro b off hp
  have hp' : MemPlace.cell b off ∈ before := by rw [hps]; simpa using hp
  rw [hb.frozen (p := ⟨b, off, none⟩) (hlt _ hp')]
  exact hz b off hp'
 ·intro ha
  have := hn ha
  rw [hps] at this
  simpa using this
 ·intro p hp _
  rw [hps]
  simpa using hp
def mkInfo (P : Program) (t : TypeId) : Option (TypeId × Nat × Value) :=
 match P.underlying t with
 | some (.slice e) => match P.info? e with
  | some i => match i.zero with
   | some z => match z.cells.toList with
    | [v] => bif Nat.beq i.size 1 then some (e, i.bytes, v) else none
    | _ => none
   | none => none
  | none => none
 | _ => none
class HasMk (P : Program) (t : Nat) (x : outParam (Nat × Nat × Value)) : Prop where h : mkInfo P t = some x
theorem mkInfo_spec {P : Program} {t e by_ : Nat} {v : Value} (h : mkInfo P t = some (e, by_, v)) : ∃ i z, P.underlying t = some (.slice e) ∧ P.info? e = some i ∧ i.zero = some z ∧ i.size = 1 ∧ i.bytes = by_ ∧ z.cells = #[v] := by
 unfold mkInfo at h
 split at h
 ·rename_i e' hu
  split at h
  ·rename_i i hi
   split at h
   ·rename_i z hz
    split at h
    ·rename_i v' hv
     cases hc : Nat.beq i.size 1 with
     | false => simp [hc] at h
     | true =>
      simp only [hc, cond_true, Option.some.injEq, Prod.mk.injEq] at h
      obtain ⟨rfl, rfl, rfl⟩ := h
      exact ⟨i, z, hu, hi, hz, Nat.eq_of_beq_eq_true hc, rfl, by apply Array.ext'; simpa using hv⟩
    ·cases h
   ·cases h
  ·cases h
 ·cases h
theorem madeCells_one (v : Value) (n : Nat) : madeCells #[v] n = (List.replicate n v).toArray := by
 apply Array.ext'
 simp only [madeCells, Array.toList_map, Array.toList_range, List.size_toArray, List.length_singleton, Nat.mod_one]
 apply List.ext_getElem
 ·simp
 ·intro i h1 h2; simp
section
variable {P : Program} {c : Ctx} {r : Option Nat} {ops : Array Oper} {rest : List Oper} {env : List (Nat × AV)} {H : List Ent} {Q : Exit → Act → World → Prop} {o : Oper} {d : Nat}
theorem OL.mkSl {x y : Operand} {t e by_ n : Nat} {v : Value} {kx ky : IntKind} {g1 g2 : Bool} [hM : HasMk P t (e, by_, v)] (hgd : o.guard = none) (hd : o.dst = some d) (hn : Nat.blt d c.n = true) (h : o.op = .makeSlice t x y)
  (hx : aev (envGet env) x = some (g1, .val (.int kx (n : Int)))) (hg1 : g1 = true) (hy : aev (envGet env) y = some (g2, .val (.int ky (n : Int)))) (hg2 : g2 = true) (hb : by_ * n ≤ 281474976710656) (hm : n ≤ maxLen)
  (next : ∀ b, OL c r P ops rest ⟨(d, .val (.slice (some ⟨b, 0, none⟩) n n)) :: env, .blk b e (List.replicate n (.val v)) :: H⟩ Q) : OL c r P ops (o :: rest) ⟨env, H⟩ Q := by
 intro a w s
 refine wpListIn_plain hgd fun K hK => ?_
 obtain ⟨I, hw, he, hh, hv⟩ := s.mem
 obtain ⟨i, z, hu, hi, hz, hk, hby, hzs⟩ := mkInfo_spec hM.h
 have ho := hv
 have e1 : a.eval x = .int kx (n : Int) := rel_val ((hv.ops o).get (by simp [h, Op.operands]) hx hg1)
 have e2 : a.eval y = .int ky (n : Int) := rel_val ((hv.ops o).get (by simp [h, Op.operands]) hy hg2)
 have hrun := run_make (P := P) w t e i z hu hi hz kx ky (n : Int) (n : Int) (by omega) (Int.le_refl _) (by subst hby; have : ((i.bytes * n : Nat) : Int) ≤ 281474976710656 := (by omega); rwa [Int.natCast_mul] at this) (by simp [maxLen] at hm; omega)
 rw [hzs, hk, Nat.mul_one, Int.toNat_natCast, madeCells_one] at hrun
 refine Runs.of_value (R := fun u w' => u = .slice (some ⟨w.heap.size, 0, none⟩) n n ∧ w' = w.alloc (.cells (List.replicate n v).toArray e)) (E := fun _ _ => False) (by simp [h]) (v := .slice (some ⟨w.heap.size, 0, none⟩) n n) (w' := w.alloc (.cells (List.replicate n v).toArray e)) (by simp [execOp, h, e1, e2, hrun]) ⟨rfl, rfl⟩ K Q ?_ (fun _ _ h => h.elim)
 rintro u w' ⟨rfl, rfl⟩
 have h1 : RelL I w (List.replicate n (.val v)) (List.replicate n v) := by have := relL_val (I := I) (w := w) (List.replicate n v); rwa [List.map_replicate] at this
 refine hK _ _ (next w.heap.size _ _ ⟨by rw [put_defers]; exact s.ds, by rw [tmps_put_size]; exact s.size, I, hw.alloc _, he.trans (ext_alloc hw _), hh.new hw e _ _ (by simpa using h1), ?_⟩)
 rw [hd]
 exact (hv.keep (keeps_alloc hw _)).put (dst := some d) (by rw [s.size]; exact hn) (.val _)
theorem OL.mkSlC {x y : Operand} {t e by_ : Nat} (n : Nat) {m : Int} {v : Value} {kx ky : IntKind} {g1 g2 : Bool} [hM : HasMk P t (e, by_, v)] (hgd : o.guard = none) (hd : o.dst = some d) (hn : Nat.blt d c.n = true) (h : o.op = .makeSlice t x y)
  (hx : aev (envGet env) x = some (g1, .val (.int kx m))) (hg1 : g1 = true) (hy : aev (envGet env) y = some (g2, .val (.int ky m))) (hg2 : g2 = true) (he : m = (n : Int)) (hb : by_ * n ≤ 281474976710656) (hm : n ≤ maxLen)
  (next : ∀ b, OL c r P ops rest ⟨(d, .val (.slice (some ⟨b, 0, none⟩) n n)) :: env, .blk b e (List.replicate n (.val v)) :: H⟩ Q) : OL c r P ops (o :: rest) ⟨env, H⟩ Q := by
 subst he; exact OL.mkSl hgd hd hn h hx hg1 hy hg2 hb hm next
end
open Go.ChangeShapes Go.WideShapes
def allI (w : World) : Imm := fun b o => ∃ c, w.cell? ⟨b, o, none⟩ = some c
theorem allI_ok (w : World) : WOk w.heap.size (allI w) w := ⟨Nat.le_refl _, fun _ _ h => h⟩
section
variable {H : Type} {enc : TypeId × Value → H} {P : Program} {w : World} {base : Nat} {spare : Nat → Bool} {held : Bool}
def Reads (enc : TypeId × Value → H) (P : Program) (w : World) (base : Nat) (spare : Nat → Bool) (held : Bool) (n : Nat) (t : TypeId) {α : Type} (e : α → List AV) : Prop :=
 ∀ fuel, fuel ≤ n → ∀ cs x, DataW.trod enc P w base spare held fuel t cs = some x → ∃ y : α, RelL (allI w) w (e y) cs
theorem Reads.le {n m : Nat} {t : TypeId} {α : Type} {e : α → List AV} (h : Reads enc P w base spare held n t e) (hm : m ≤ n) : Reads enc P w base spare held m t e := fun f hf => h f (Nat.le_trans hf hm)
theorem reads_int {n : Nat} {t : TypeId} (ht : P.underlying t = some (.int .i64)) : Reads enc P w base spare held n t (fun q : Int => [AV.i q]) := fun fuel _ cs x h => by
 obtain ⟨q, rfl, _⟩ := DataW.trod_int ht h
 exact ⟨q, .cons _ _ _ _ (.val _) .nil⟩
theorem cells_all {b o : Nat} : ∀ {xs : List AV} {cs : List Value}, RelL (allI w) w xs cs → (∀ i, i < cs.length → w.cell? ⟨b, o + i, none⟩ = cs[i]?) → Cells (allI w) w b o xs
 | [], cs, _, _ => .nil _ _
 | x :: xs, cs, h, hc => by
  cases h with
  | cons _ v _ vs hx ht =>
   have h0 := hc 0 (by simp)
   simp at h0
   exact .cons _ _ _ _ _ h0 ⟨v, h0⟩ hx (cells_all ht fun i hi => by
    have := hc (i + 1) (by simp; omega)
    rw [Nat.add_assoc, Nat.add_comm 1 i]; simpa using this)
theorem reads_slice {n k : Nat} {t e : TypeId} {α : Type} {en : α → List AV} (ht : P.underlying t = some (.slice e)) (hk : P.cellsOf e = k) (hk0 : 0 < k) (hen : ∀ y, (en y).length = k) (he : Reads enc P w base spare held n e en) :
  Reads enc P w base spare held (n + 1) t (fun l : List α => [AV.sl k (l.map en)]) := fun fuel hf cs x h => by
 rcases DataW.trod_slice ht h with ⟨rfl, _⟩ | ⟨a, len, cap, elems, rest, m, rfl, rfl, rfl, hb, hc, hm, hl, hget, _⟩
 ·exact ⟨[], .cons _ _ _ _ (.sl0 _ _ _) .nil⟩
 ·have key : ∀ j, j ≤ len → ∃ l : List α, l.length = j ∧ (j = 0 ∨ a.spot = none) ∧ Els (allI w) w k a.block a.off (l.map en) := by
   intro j
   induction j with
   | zero => intro _; exact ⟨[], rfl, .inl rfl, .nil _ _ _⟩
   | succ j ih =>
    intro hj
    obtain ⟨l, h1, h2, h3⟩ := ih (by omega)
    have hg := hget j (by omega)
    rw [List.getElem?_eq_getElem (by omega)] at hg
    obtain ⟨cs', h4, h5⟩ := Option.bind_eq_some_iff.1 hg
    obtain ⟨h6, h7, h8⟩ := World.cells?_some h4
    obtain ⟨y, hy⟩ := he m (by omega) cs' _ h5
    have hlen : cs'.length = k := by rw [h7, hk]
    have hsp : a.spot = none := by
     by_cases hj0 : j = 0
     ·have h9 := h8 0 (by omega)
      rw [List.getElem?_eq_getElem (by omega), hj0, Nat.zero_mul] at h9
      have e3 : (a.add 0).add 0 = a := by simp [Addr.add]
      rw [e3] at h9
      cases hs : a.spot with
      | none => rfl
      | some q =>
       exfalso
       unfold World.cell? at h9
       rw [hs] at h9
       split at h9 <;> simp at h9
     ·exact h2.resolve_left (by omega)
    refine ⟨l ++ [y], by simp [h1], .inr hsp, ?_⟩
    rw [List.map_append]
    have hcl : Cells (allI w) w a.block (a.off + j * k) (en y) := cells_all hy fun i hi => by
     have h9 := h8 i (by omega)
     have e2 : (a.add (j * P.cellsOf e)).add i = ⟨a.block, a.off + j * k + i, none⟩ := by
      rw [Addr.add_add, hk]
      unfold Addr.add
      split
      ·obtain ⟨ab, ao, asp⟩ := a
       simp at hsp; subst hsp; simp; omega
      ·simp <;> omega
     rw [e2] at h9; exact h9
    exact h3.append (.cons _ _ _ _ _ (hen y) (by rw [List.length_map, h1]; exact hcl) (.nil _ _ _))
  obtain ⟨l, h1, h2, h3⟩ := key len (Nat.le_refl _)
  refine ⟨l, .cons _ _ _ _ ?_ .nil⟩
  rcases h2 with h2 | h2
  ·have : l = [] := List.eq_nil_of_length_eq_zero (by omega)
   subst this h2
   exact .sl0 _ _ _
  ·obtain ⟨b, o, sp⟩ := a
   simp at h2; subst h2
   exact .sl _ _ _ _ _ _ (by simp [h1]) hc hm h3
theorem relL_join {I : Imm} {xs ys : List AV} {cs : List Value} {a n m : Nat} (h1 : RelL I w xs ((cs.drop a).take n)) (h2 : RelL I w ys ((cs.drop (a + n)).take m)) : RelL I w (xs ++ ys) ((cs.drop a).take (n + m)) := by
 rw [List.take_add, List.drop_drop]; exact h1.append h2
theorem rel_agg {I : Imm} {xs : List AV} {v : Value} (h : RelL I w xs v.cells.toList) (hn : xs.length ≠ 1) : Rel I w (.agg xs) v := by
 have hl := h.length
 cases v with
 | agg vs => exact .agg _ _ h
 | _ => simp [Value.cells] at hl; omega
end
theorem args_stay {H : Type} {enc : TypeId × Value → H} {P : Program} (hl : laidOutB P = true) {W W' : World} (hb : Below W.heap.size W W') {sp : Nat → Bool} :
  ∀ {ts : List TypeId} {vs : List Value} {ds : List (DataW H)} {ps : List MemPlace}, (∀ t ∈ ts, P.readableRec t = true ∧ t < P.types.size) → DataW.TrodAll enc P W 0 (fun _ => true) true ts vs ds ps →
   (∀ p ∈ ps, p.block < W.heap.size) → (∀ p ∈ ps, sp p.block = true) → DataW.TrodAll enc P W' 0 sp true ts vs ds ps
 | [], vs, ds, ps, _, h, _, _ => by
  obtain ⟨rfl, rfl, rfl⟩ := trodAll_nil h
  exact h
 | t :: ts, vs, ds, ps, ht, h, h1, h2 => by
  obtain ⟨v, vs1, d, ds1, a, b, rfl, rfl, rfl, h3, h4⟩ := trodAll_cons h
  have hr := ht t (.head _)
  exact ⟨a, b, Go.WideElems.Trod_stays hl hr.1 hr.2 h3 (fun p hp => hb.same (h1 p (List.mem_append_left _ hp))) (fun p hp => h2 p (List.mem_append_left _ hp)),
   args_stay hl hb (fun t' ht' => ht t' (.tail _ ht')) h4 (fun p hp => h1 p (List.mem_append_right _ hp)) (fun p hp => h2 p (List.mem_append_right _ hp)), rfl⟩
section
variable {c : Ctx} {r : Option Nat} {P : Program} {ops : Array Oper} {rest L : List Oper} {o : Oper} {env : List (Nat × AV)} {H : List Ent} {Q : Exit → Act → World → Prop} {x : AV} {d n j k : Nat} {want g : Bool} {K : List (Nat × AV) → Prop}
theorem Omv (next : OL c r P ops rest ⟨(d, x) :: env, H⟩ Q) (s : o.guard = none ∧ o.dst = some d ∧ Nat.blt d c.n = true ∧ POp P H (envGet env) o x := by exact ⟨rfl, rfl, rfl, POp.move rfl rfl rfl⟩) : OL c r P ops (o :: rest) ⟨env, H⟩ Q := OL.popC s.1 s.2.1 s.2.2.1 s.2.2.2 next
theorem Pmv (next : OL c r P ops rest ⟨(d, .opt g x) :: env, H⟩ Q) (s : o.guard = some (j, want) ∧ (ops[j]?).bind (·.dst) = some k ∧ Nat.blt k c.n = true ∧ mkG (envGet env k) want = some g ∧ o.dst = some d ∧ Nat.blt d c.n = true ∧ (g = true → POp P H (envGet env) o x) := by exact ⟨rfl, rfl, rfl, rfl, rfl, rfl, fun hg => POp.move rfl rfl (by first | rfl | exact hg | exact (Bool.and_eq_true_iff.1 hg).1 | exact (Bool.and_eq_true_iff.1 (Bool.and_eq_true_iff.1 hg).1).1 | simp_all)⟩) : OL c r P ops (o :: rest) ⟨env, H⟩ Q := OL.guardC s.1 s.2.1 s.2.2.1 s.2.2.2.1 s.2.2.2.2.1 s.2.2.2.2.2.1 s.2.2.2.2.2.2 next
theorem Amv (next : AD P H L n rest ((d, x) :: env) K) (s : o.guard = none ∧ o.dst = some d ∧ Nat.blt d n = true ∧ POp P H (envGet env) o x := by exact ⟨rfl, rfl, rfl, POp.move rfl rfl rfl⟩) : AD P H L n (o :: rest) env K := AD.popC s.1 s.2.1 s.2.2.1 s.2.2.2 next
theorem Oas (next : OL c r P ops rest ⟨(d, x) :: env, H⟩ Q) (s : o.guard = none ∧ o.dst = some d ∧ Nat.blt d c.n = true ∧ POp P H (envGet env) o x := by exact ⟨rfl, rfl, rfl, POp.assign rfl rfl rfl⟩) : OL c r P ops (o :: rest) ⟨env, H⟩ Q := OL.popC s.1 s.2.1 s.2.2.1 s.2.2.2 next
theorem Aas (next : AD P H L n rest ((d, x) :: env) K) (s : o.guard = none ∧ o.dst = some d ∧ Nat.blt d n = true ∧ POp P H (envGet env) o x := by exact ⟨rfl, rfl, rfl, POp.assign rfl rfl rfl⟩) : AD P H L n (o :: rest) env K := AD.popC s.1 s.2.1 s.2.2.1 s.2.2.2 next
theorem Ola (next : OL c r P ops rest ⟨(d, x) :: env, H⟩ Q) (s : o.guard = none ∧ o.dst = some d ∧ Nat.blt d c.n = true ∧ POp P H (envGet env) o x := by exact ⟨rfl, rfl, rfl, (by first | exact POp.ldA rfl rfl rfl rfl | (apply POp.ldAH rfl rfl rfl; (case hm => repeat (first | exact .head _ | refine .tail _ ?_)); (case hy => rfl); (case hn => rfl)))⟩) : OL c r P ops (o :: rest) ⟨env, H⟩ Q := OL.popC s.1 s.2.1 s.2.2.1 s.2.2.2 next
theorem Pla (next : OL c r P ops rest ⟨(d, .opt g x) :: env, H⟩ Q) (s : o.guard = some (j, want) ∧ (ops[j]?).bind (·.dst) = some k ∧ Nat.blt k c.n = true ∧ mkG (envGet env k) want = some g ∧ o.dst = some d ∧ Nat.blt d c.n = true ∧ (g = true → POp P H (envGet env) o x) := by exact ⟨rfl, rfl, rfl, rfl, rfl, rfl, fun hg => (by first | exact POp.ldA rfl rfl (by first | rfl | exact hg | exact (Bool.and_eq_true_iff.1 hg).1 | exact (Bool.and_eq_true_iff.1 (Bool.and_eq_true_iff.1 hg).1).1 | simp_all) rfl | (apply POp.ldAH rfl rfl (by first | rfl | exact hg | exact (Bool.and_eq_true_iff.1 hg).1 | exact (Bool.and_eq_true_iff.1 (Bool.and_eq_true_iff.1 hg).1).1 | simp_all); (case hm => repeat (first | exact .head _ | refine .tail _ ?_)); (case hy => rfl); (case hn => rfl)))⟩) : OL c r P ops (o :: rest) ⟨env, H⟩ Q := OL.guardC s.1 s.2.1 s.2.2.1 s.2.2.2.1 s.2.2.2.2.1 s.2.2.2.2.2.1 s.2.2.2.2.2.2 next
theorem Ala (next : AD P H L n rest ((d, x) :: env) K) (s : o.guard = none ∧ o.dst = some d ∧ Nat.blt d n = true ∧ POp P H (envGet env) o x := by exact ⟨rfl, rfl, rfl, (by first | exact POp.ldA rfl rfl rfl rfl | (apply POp.ldAH rfl rfl rfl; (case hm => repeat (first | exact .head _ | refine .tail _ ?_)); (case hy => rfl); (case hn => rfl)))⟩) : AD P H L n (o :: rest) env K := AD.popC s.1 s.2.1 s.2.2.1 s.2.2.2 next
theorem Old (next : OL c r P ops rest ⟨(d, x) :: env, H⟩ Q) (s : o.guard = none ∧ o.dst = some d ∧ Nat.blt d c.n = true ∧ POp P H (envGet env) o x := by exact ⟨rfl, rfl, rfl, (by first | exact POp.ld1 rfl rfl rfl rfl | (apply POp.ld1H rfl rfl rfl; (case hm => repeat (first | exact .head _ | refine .tail _ ?_)); (case hy => rfl)))⟩) : OL c r P ops (o :: rest) ⟨env, H⟩ Q := OL.popC s.1 s.2.1 s.2.2.1 s.2.2.2 next
theorem Pld (next : OL c r P ops rest ⟨(d, .opt g x) :: env, H⟩ Q) (s : o.guard = some (j, want) ∧ (ops[j]?).bind (·.dst) = some k ∧ Nat.blt k c.n = true ∧ mkG (envGet env k) want = some g ∧ o.dst = some d ∧ Nat.blt d c.n = true ∧ (g = true → POp P H (envGet env) o x) := by exact ⟨rfl, rfl, rfl, rfl, rfl, rfl, fun hg => (by first | exact POp.ld1 rfl rfl (by first | rfl | exact hg | exact (Bool.and_eq_true_iff.1 hg).1 | exact (Bool.and_eq_true_iff.1 (Bool.and_eq_true_iff.1 hg).1).1 | simp_all) rfl | (apply POp.ld1H rfl rfl (by first | rfl | exact hg | exact (Bool.and_eq_true_iff.1 hg).1 | exact (Bool.and_eq_true_iff.1 (Bool.and_eq_true_iff.1 hg).1).1 | simp_all); (case hm => repeat (first | exact .head _ | refine .tail _ ?_)); (case hy => rfl)))⟩) : OL c r P ops (o :: rest) ⟨env, H⟩ Q := OL.guardC s.1 s.2.1 s.2.2.1 s.2.2.2.1 s.2.2.2.2.1 s.2.2.2.2.2.1 s.2.2.2.2.2.2 next
theorem Ald (next : AD P H L n rest ((d, x) :: env) K) (s : o.guard = none ∧ o.dst = some d ∧ Nat.blt d n = true ∧ POp P H (envGet env) o x := by exact ⟨rfl, rfl, rfl, (by first | exact POp.ld1 rfl rfl rfl rfl | (apply POp.ld1H rfl rfl rfl; (case hm => repeat (first | exact .head _ | refine .tail _ ?_)); (case hy => rfl)))⟩) : AD P H L n (o :: rest) env K := AD.popC s.1 s.2.1 s.2.2.1 s.2.2.2 next
theorem Ofa (next : OL c r P ops rest ⟨(d, x) :: env, H⟩ Q) (s : o.guard = none ∧ o.dst = some d ∧ Nat.blt d c.n = true ∧ POp P H (envGet env) o x := by exact ⟨rfl, rfl, rfl, (by first | exact POp.fa rfl rfl rfl rfl | exact POp.faP rfl rfl rfl rfl)⟩) : OL c r P ops (o :: rest) ⟨env, H⟩ Q := OL.popC s.1 s.2.1 s.2.2.1 s.2.2.2 next
theorem Pfa (next : OL c r P ops rest ⟨(d, .opt g x) :: env, H⟩ Q) (s : o.guard = some (j, want) ∧ (ops[j]?).bind (·.dst) = some k ∧ Nat.blt k c.n = true ∧ mkG (envGet env k) want = some g ∧ o.dst = some d ∧ Nat.blt d c.n = true ∧ (g = true → POp P H (envGet env) o x) := by exact ⟨rfl, rfl, rfl, rfl, rfl, rfl, fun hg => (by first | exact POp.fa rfl rfl (by first | rfl | exact hg | exact (Bool.and_eq_true_iff.1 hg).1 | exact (Bool.and_eq_true_iff.1 (Bool.and_eq_true_iff.1 hg).1).1 | simp_all) rfl | exact POp.faP rfl rfl (by first | rfl | exact hg | exact (Bool.and_eq_true_iff.1 hg).1 | exact (Bool.and_eq_true_iff.1 (Bool.and_eq_true_iff.1 hg).1).1 | simp_all) rfl)⟩) : OL c r P ops (o :: rest) ⟨env, H⟩ Q := OL.guardC s.1 s.2.1 s.2.2.1 s.2.2.2.1 s.2.2.2.2.1 s.2.2.2.2.2.1 s.2.2.2.2.2.2 next
theorem Afa (next : AD P H L n rest ((d, x) :: env) K) (s : o.guard = none ∧ o.dst = some d ∧ Nat.blt d n = true ∧ POp P H (envGet env) o x := by exact ⟨rfl, rfl, rfl, (by first | exact POp.fa rfl rfl rfl rfl | exact POp.faP rfl rfl rfl rfl)⟩) : AD P H L n (o :: rest) env K := AD.popC s.1 s.2.1 s.2.2.1 s.2.2.2 next
theorem Ocm (next : OL c r P ops rest ⟨(d, x) :: env, H⟩ Q) (s : o.guard = none ∧ o.dst = some d ∧ Nat.blt d c.n = true ∧ POp P H (envGet env) o x := by exact ⟨rfl, rfl, rfl, POp.cmp rfl rfl rfl rfl rfl rfl⟩) : OL c r P ops (o :: rest) ⟨env, H⟩ Q := OL.popC s.1 s.2.1 s.2.2.1 s.2.2.2 next
theorem Pcm (next : OL c r P ops rest ⟨(d, .opt g x) :: env, H⟩ Q) (s : o.guard = some (j, want) ∧ (ops[j]?).bind (·.dst) = some k ∧ Nat.blt k c.n = true ∧ mkG (envGet env k) want = some g ∧ o.dst = some d ∧ Nat.blt d c.n = true ∧ (g = true → POp P H (envGet env) o x) := by exact ⟨rfl, rfl, rfl, rfl, rfl, rfl, fun hg => POp.cmp rfl rfl rfl (by first | rfl | exact hg | exact (Bool.and_eq_true_iff.1 hg).1 | exact (Bool.and_eq_true_iff.1 (Bool.and_eq_true_iff.1 hg).1).1 | simp_all) (by first | rfl | exact hg | exact (Bool.and_eq_true_iff.1 hg).1 | exact (Bool.and_eq_true_iff.1 (Bool.and_eq_true_iff.1 hg).1).1 | simp_all) rfl⟩) : OL c r P ops (o :: rest) ⟨env, H⟩ Q := OL.guardC s.1 s.2.1 s.2.2.1 s.2.2.2.1 s.2.2.2.2.1 s.2.2.2.2.2.1 s.2.2.2.2.2.2 next
theorem Oex (next : OL c r P ops rest ⟨(d, x) :: env, H⟩ Q) (s : o.guard = none ∧ o.dst = some d ∧ Nat.blt d c.n = true ∧ POp P H (envGet env) o x := by exact ⟨rfl, rfl, rfl, POp.extract rfl rfl rfl rfl⟩) : OL c r P ops (o :: rest) ⟨env, H⟩ Q := OL.popC s.1 s.2.1 s.2.2.1 s.2.2.2 next
theorem Aex (next : AD P H L n rest ((d, x) :: env) K) (s : o.guard = none ∧ o.dst = some d ∧ Nat.blt d n = true ∧ POp P H (envGet env) o x := by exact ⟨rfl, rfl, rfl, POp.extract rfl rfl rfl rfl⟩) : AD P H L n (o :: rest) env K := AD.popC s.1 s.2.1 s.2.2.1 s.2.2.2 next
theorem Ont (next : OL c r P ops rest ⟨(d, x) :: env, H⟩ Q) (s : o.guard = none ∧ o.dst = some d ∧ Nat.blt d c.n = true ∧ POp P H (envGet env) o x := by exact ⟨rfl, rfl, rfl, POp.not rfl rfl rfl⟩) : OL c r P ops (o :: rest) ⟨env, H⟩ Q := OL.popC s.1 s.2.1 s.2.2.1 s.2.2.2 next
theorem Pnt (next : OL c r P ops rest ⟨(d, .opt g x) :: env, H⟩ Q) (s : o.guard = some (j, want) ∧ (ops[j]?).bind (·.dst) = some k ∧ Nat.blt k c.n = true ∧ mkG (envGet env k) want = some g ∧ o.dst = some d ∧ Nat.blt d c.n = true ∧ (g = true → POp P H (envGet env) o x) := by exact ⟨rfl, rfl, rfl, rfl, rfl, rfl, fun hg => POp.not rfl rfl (by first | rfl | exact hg | exact (Bool.and_eq_true_iff.1 hg).1 | exact (Bool.and_eq_true_iff.1 (Bool.and_eq_true_iff.1 hg).1).1 | simp_all)⟩) : OL c r P ops (o :: rest) ⟨env, H⟩ Q := OL.guardC s.1 s.2.1 s.2.2.1 s.2.2.2.1 s.2.2.2.2.1 s.2.2.2.2.2.1 s.2.2.2.2.2.2 next
theorem Ant (next : AD P H L n rest ((d, x) :: env) K) (s : o.guard = none ∧ o.dst = some d ∧ Nat.blt d n = true ∧ POp P H (envGet env) o x := by exact ⟨rfl, rfl, rfl, POp.not rfl rfl rfl⟩) : AD P H L n (o :: rest) env K := AD.popC s.1 s.2.1 s.2.2.1 s.2.2.2 next
theorem Oar (next : OL c r P ops rest ⟨(d, x) :: env, H⟩ Q) (s : o.guard = none ∧ o.dst = some d ∧ Nat.blt d c.n = true ∧ POp P H (envGet env) o x := by exact ⟨rfl, rfl, rfl, POp.arith rfl rfl rfl rfl rfl rfl (wrap64 (by omega))⟩) : OL c r P ops (o :: rest) ⟨env, H⟩ Q := OL.popC s.1 s.2.1 s.2.2.1 s.2.2.2 next
theorem Par (next : OL c r P ops rest ⟨(d, .opt g x) :: env, H⟩ Q) (s : o.guard = some (j, want) ∧ (ops[j]?).bind (·.dst) = some k ∧ Nat.blt k c.n = true ∧ mkG (envGet env k) want = some g ∧ o.dst = some d ∧ Nat.blt d c.n = true ∧ (g = true → POp P H (envGet env) o x) := by exact ⟨rfl, rfl, rfl, rfl, rfl, rfl, fun hg => POp.arith rfl rfl rfl (by first | rfl | exact hg | exact (Bool.and_eq_true_iff.1 hg).1 | exact (Bool.and_eq_true_iff.1 (Bool.and_eq_true_iff.1 hg).1).1 | simp_all) (by first | rfl | exact hg | exact (Bool.and_eq_true_iff.1 hg).1 | exact (Bool.and_eq_true_iff.1 (Bool.and_eq_true_iff.1 hg).1).1 | simp_all) rfl (wrap64 (by omega))⟩) : OL c r P ops (o :: rest) ⟨env, H⟩ Q := OL.guardC s.1 s.2.1 s.2.2.1 s.2.2.2.1 s.2.2.2.2.1 s.2.2.2.2.2.1 s.2.2.2.2.2.2 next
theorem Oln (next : OL c r P ops rest ⟨(d, x) :: env, H⟩ Q) (s : o.guard = none ∧ o.dst = some d ∧ Nat.blt d c.n = true ∧ POp P H (envGet env) o x := by exact ⟨rfl, rfl, rfl, (by first | exact POp.lenM rfl rfl rfl | exact POp.lenA rfl rfl rfl | exact POp.lenV rfl rfl rfl | exact POp.len' rfl rfl rfl)⟩) : OL c r P ops (o :: rest) ⟨env, H⟩ Q := OL.popC s.1 s.2.1 s.2.2.1 s.2.2.2 next
theorem Pln (next : OL c r P ops rest ⟨(d, .opt g x) :: env, H⟩ Q) (s : o.guard = some (j, want) ∧ (ops[j]?).bind (·.dst) = some k ∧ Nat.blt k c.n = true ∧ mkG (envGet env k) want = some g ∧ o.dst = some d ∧ Nat.blt d c.n = true ∧ (g = true → POp P H (envGet env) o x) := by exact ⟨rfl, rfl, rfl, rfl, rfl, rfl, fun hg => (by first | exact POp.lenM rfl rfl (by first | rfl | exact hg | exact (Bool.and_eq_true_iff.1 hg).1 | exact (Bool.and_eq_true_iff.1 (Bool.and_eq_true_iff.1 hg).1).1 | simp_all) | exact POp.lenA rfl rfl (by first | rfl | exact hg | exact (Bool.and_eq_true_iff.1 hg).1 | exact (Bool.and_eq_true_iff.1 (Bool.and_eq_true_iff.1 hg).1).1 | simp_all) | exact POp.lenV rfl rfl (by first | rfl | exact hg | exact (Bool.and_eq_true_iff.1 hg).1 | exact (Bool.and_eq_true_iff.1 (Bool.and_eq_true_iff.1 hg).1).1 | simp_all) | exact POp.len' rfl rfl (by first | rfl | exact hg | exact (Bool.and_eq_true_iff.1 hg).1 | exact (Bool.and_eq_true_iff.1 (Bool.and_eq_true_iff.1 hg).1).1 | simp_all))⟩) : OL c r P ops (o :: rest) ⟨env, H⟩ Q := OL.guardC s.1 s.2.1 s.2.2.1 s.2.2.2.1 s.2.2.2.2.1 s.2.2.2.2.2.1 s.2.2.2.2.2.2 next
theorem Aln (next : AD P H L n rest ((d, x) :: env) K) (s : o.guard = none ∧ o.dst = some d ∧ Nat.blt d n = true ∧ POp P H (envGet env) o x := by exact ⟨rfl, rfl, rfl, (by first | exact POp.lenM rfl rfl rfl | exact POp.lenA rfl rfl rfl | exact POp.lenV rfl rfl rfl | exact POp.len' rfl rfl rfl)⟩) : AD P H L n (o :: rest) env K := AD.popC s.1 s.2.1 s.2.2.1 s.2.2.2 next
theorem Onc (next : OL c r P ops rest ⟨(d, x) :: env, H⟩ Q) (s : o.guard = none ∧ o.dst = some d ∧ Nat.blt d c.n = true ∧ POp P H (envGet env) o x := by exact ⟨rfl, rfl, rfl, (by first | exact POp.nilCheck rfl rfl rfl | exact POp.nilCheckP rfl rfl rfl | exact POp.nilCheckF rfl rfl rfl)⟩) : OL c r P ops (o :: rest) ⟨env, H⟩ Q := OL.popC s.1 s.2.1 s.2.2.1 s.2.2.2 next
theorem Pnc (next : OL c r P ops rest ⟨(d, .opt g x) :: env, H⟩ Q) (s : o.guard = some (j, want) ∧ (ops[j]?).bind (·.dst) = some k ∧ Nat.blt k c.n = true ∧ mkG (envGet env k) want = some g ∧ o.dst = some d ∧ Nat.blt d c.n = true ∧ (g = true → POp P H (envGet env) o x) := by exact ⟨rfl, rfl, rfl, rfl, rfl, rfl, fun hg => (by first | exact POp.nilCheck rfl rfl (by first | rfl | exact hg | exact (Bool.and_eq_true_iff.1 hg).1 | exact (Bool.and_eq_true_iff.1 (Bool.and_eq_true_iff.1 hg).1).1 | simp_all) | exact POp.nilCheckP rfl rfl (by first | rfl | exact hg | exact (Bool.and_eq_true_iff.1 hg).1 | exact (Bool.and_eq_true_iff.1 (Bool.and_eq_true_iff.1 hg).1).1 | simp_all) | exact POp.nilCheckF rfl rfl (by first | rfl | exact hg | exact (Bool.and_eq_true_iff.1 hg).1 | exact (Bool.and_eq_true_iff.1 (Bool.and_eq_true_iff.1 hg).1).1 | simp_all))⟩) : OL c r P ops (o :: rest) ⟨env, H⟩ Q := OL.guardC s.1 s.2.1 s.2.2.1 s.2.2.2.1 s.2.2.2.2.1 s.2.2.2.2.2.1 s.2.2.2.2.2.2 next
theorem Anc (next : AD P H L n rest ((d, x) :: env) K) (s : o.guard = none ∧ o.dst = some d ∧ Nat.blt d n = true ∧ POp P H (envGet env) o x := by exact ⟨rfl, rfl, rfl, (by first | exact POp.nilCheck rfl rfl rfl | exact POp.nilCheckP rfl rfl rfl | exact POp.nilCheckF rfl rfl rfl)⟩) : AD P H L n (o :: rest) env K := AD.popC s.1 s.2.1 s.2.2.1 s.2.2.2 next
theorem Obd (next : OL c r P ops rest ⟨(d, x) :: env, H⟩ Q) (s : o.guard = none ∧ o.dst = some d ∧ Nat.blt d c.n = true ∧ POp P H (envGet env) o x := by exact ⟨rfl, rfl, rfl, POp.build' rfl rfl (by first | rfl | simp_all [strip]) rfl⟩) : OL c r P ops (o :: rest) ⟨env, H⟩ Q := OL.popC s.1 s.2.1 s.2.2.1 s.2.2.2 next
theorem Oeb (next : OL c r P ops rest ⟨(d, x) :: env, H⟩ Q) (s : o.guard = none ∧ o.dst = some d ∧ Nat.blt d c.n = true ∧ POp P H (envGet env) o x := by exact ⟨rfl, rfl, rfl, POp.eqB (op := .eql) rfl rfl rfl rfl rfl⟩) : OL c r P ops (o :: rest) ⟨env, H⟩ Q := OL.popC s.1 s.2.1 s.2.2.1 s.2.2.2 next
theorem Peb (next : OL c r P ops rest ⟨(d, .opt g x) :: env, H⟩ Q) (s : o.guard = some (j, want) ∧ (ops[j]?).bind (·.dst) = some k ∧ Nat.blt k c.n = true ∧ mkG (envGet env k) want = some g ∧ o.dst = some d ∧ Nat.blt d c.n = true ∧ (g = true → POp P H (envGet env) o x) := by exact ⟨rfl, rfl, rfl, rfl, rfl, rfl, fun hg => POp.eqB (op := .eql) rfl rfl (by first | rfl | exact hg | exact (Bool.and_eq_true_iff.1 hg).1 | exact (Bool.and_eq_true_iff.1 (Bool.and_eq_true_iff.1 hg).1).1 | simp_all) rfl (by first | rfl | exact hg | exact (Bool.and_eq_true_iff.1 hg).1 | exact (Bool.and_eq_true_iff.1 (Bool.and_eq_true_iff.1 hg).1).1 | simp_all)⟩) : OL c r P ops (o :: rest) ⟨env, H⟩ Q := OL.guardC s.1 s.2.1 s.2.2.1 s.2.2.2.1 s.2.2.2.2.1 s.2.2.2.2.2.1 s.2.2.2.2.2.2 next
theorem Onb (next : OL c r P ops rest ⟨(d, x) :: env, H⟩ Q) (s : o.guard = none ∧ o.dst = some d ∧ Nat.blt d c.n = true ∧ POp P H (envGet env) o x := by exact ⟨rfl, rfl, rfl, POp.neB (op := .eql) rfl rfl rfl rfl rfl⟩) : OL c r P ops (o :: rest) ⟨env, H⟩ Q := OL.popC s.1 s.2.1 s.2.2.1 s.2.2.2 next
theorem Opk (next : OL c r P ops rest ⟨(d, x) :: env, H⟩ Q) (s : o.guard = none ∧ o.dst = some d ∧ Nat.blt d c.n = true ∧ POp P H (envGet env) o x := by exact ⟨rfl, rfl, rfl, POp.pick rfl rfl rfl rfl rfl (by first | exact fun _ => rfl | exact fun h => h | (intro h; rw [h]; rfl) | (intro h; simp_all)) (by first | exact fun _ => rfl | exact fun h => h | (intro h; rw [h]; rfl) | (intro h; simp_all))⟩) : OL c r P ops (o :: rest) ⟨env, H⟩ Q := OL.popC s.1 s.2.1 s.2.2.1 s.2.2.2 next
theorem Ppk (next : OL c r P ops rest ⟨(d, .opt g x) :: env, H⟩ Q) (s : o.guard = some (j, want) ∧ (ops[j]?).bind (·.dst) = some k ∧ Nat.blt k c.n = true ∧ mkG (envGet env k) want = some g ∧ o.dst = some d ∧ Nat.blt d c.n = true ∧ (g = true → POp P H (envGet env) o x) := by exact ⟨rfl, rfl, rfl, rfl, rfl, rfl, fun hg => POp.pick rfl rfl (by first | rfl | exact hg | exact (Bool.and_eq_true_iff.1 hg).1 | exact (Bool.and_eq_true_iff.1 (Bool.and_eq_true_iff.1 hg).1).1 | simp_all) rfl rfl (by first | exact fun _ => rfl | exact fun h => h | (intro h; rw [h]; rfl) | (intro h; simp_all)) (by first | exact fun _ => rfl | exact fun h => h | (intro h; rw [h]; rfl) | (intro h; simp_all))⟩) : OL c r P ops (o :: rest) ⟨env, H⟩ Q := OL.guardC s.1 s.2.1 s.2.2.1 s.2.2.2.1 s.2.2.2.2.1 s.2.2.2.2.2.1 s.2.2.2.2.2.2 next
theorem Obx (next : OL c r P ops rest ⟨(d, x) :: env, H⟩ Q) (s : o.guard = none ∧ o.dst = some d ∧ Nat.blt d c.n = true ∧ POp P H (envGet env) o x := by exact ⟨rfl, rfl, rfl, POp.boxI rfl rfl rfl rfl⟩) : OL c r P ops (o :: rest) ⟨env, H⟩ Q := OL.popC s.1 s.2.1 s.2.2.1 s.2.2.2 next
theorem Or0 (next : OL c r P ops rest ⟨(d, x) :: env, H⟩ Q) (s : o.guard = none ∧ o.dst = some d ∧ Nat.blt d c.n = true ∧ POp P H (envGet env) o x := by exact ⟨rfl, rfl, rfl, POp.row0 rfl⟩) : OL c r P ops (o :: rest) ⟨env, H⟩ Q := OL.popC s.1 s.2.1 s.2.2.1 s.2.2.2 next
theorem Oix (next : OL c r P ops rest ⟨(d, x) :: env, H⟩ Q) (s : o.guard = none ∧ o.dst = some d ∧ Nat.blt d c.n = true ∧ POp P H (envGet env) o x := by exact ⟨rfl, rfl, rfl, (by first | exact POp.ixM rfl rfl rfl rfl rfl (by omega) | exact POp.ixI rfl rfl rfl rfl rfl (by omega))⟩) : OL c r P ops (o :: rest) ⟨env, H⟩ Q := OL.popC s.1 s.2.1 s.2.2.1 s.2.2.2 next
theorem Aix (next : AD P H L n rest ((d, x) :: env) K) (s : o.guard = none ∧ o.dst = some d ∧ Nat.blt d n = true ∧ POp P H (envGet env) o x := by exact ⟨rfl, rfl, rfl, (by first | exact POp.ixM rfl rfl rfl rfl rfl (by omega) | exact POp.ixI rfl rfl rfl rfl rfl (by omega))⟩) : AD P H L n (o :: rest) env K := AD.popC s.1 s.2.1 s.2.2.1 s.2.2.2 next
theorem Oia (next : OL c r P ops rest ⟨(d, x) :: env, H⟩ Q) (s : o.guard = none ∧ o.dst = some d ∧ Nat.blt d c.n = true ∧ POp P H (envGet env) o x := by exact ⟨rfl, rfl, rfl, (by first | exact POp.ia rfl rfl rfl rfl rfl (by omega) | exact POp.iaP rfl rfl rfl rfl rfl (by omega))⟩) : OL c r P ops (o :: rest) ⟨env, H⟩ Q := OL.popC s.1 s.2.1 s.2.2.1 s.2.2.2 next
theorem Aia (next : AD P H L n rest ((d, x) :: env) K) (s : o.guard = none ∧ o.dst = some d ∧ Nat.blt d n = true ∧ POp P H (envGet env) o x := by exact ⟨rfl, rfl, rfl, (by first | exact POp.ia rfl rfl rfl rfl rfl (by omega) | exact POp.iaP rfl rfl rfl rfl rfl (by omega))⟩) : AD P H L n (o :: rest) env K := AD.popC s.1 s.2.1 s.2.2.1 s.2.2.2 next
theorem Omf (next : OL c r P ops rest ⟨(d, x) :: env, H⟩ Q) (s : o.guard = none ∧ o.dst = some d ∧ Nat.blt d c.n = true ∧ POp P H (envGet env) o x := by exact ⟨rfl, rfl, rfl, POp.makeFunc rfl rfl rfl (by first | rfl | simp_all [strip]) (by first | rfl | simp_all [strip])⟩) : OL c r P ops (o :: rest) ⟨env, H⟩ Q := OL.popC s.1 s.2.1 s.2.2.1 s.2.2.2 next
theorem Pmf (next : OL c r P ops rest ⟨(d, .opt g x) :: env, H⟩ Q) (s : o.guard = some (j, want) ∧ (ops[j]?).bind (·.dst) = some k ∧ Nat.blt k c.n = true ∧ mkG (envGet env k) want = some g ∧ o.dst = some d ∧ Nat.blt d c.n = true ∧ (g = true → POp P H (envGet env) o x) := by exact ⟨rfl, rfl, rfl, rfl, rfl, rfl, fun hg => POp.makeFunc rfl rfl rfl (by first | rfl | simp_all [strip]) (by first | rfl | simp_all [strip])⟩) : OL c r P ops (o :: rest) ⟨env, H⟩ Q := OL.guardC s.1 s.2.1 s.2.2.1 s.2.2.2.1 s.2.2.2.2.1 s.2.2.2.2.2.1 s.2.2.2.2.2.2 next
theorem Amf (next : AD P H L n rest ((d, x) :: env) K) (s : o.guard = none ∧ o.dst = some d ∧ Nat.blt d n = true ∧ POp P H (envGet env) o x := by exact ⟨rfl, rfl, rfl, POp.makeFunc rfl rfl rfl (by first | rfl | simp_all [strip]) (by first | rfl | simp_all [strip])⟩) : AD P H L n (o :: rest) env K := AD.popC s.1 s.2.1 s.2.2.1 s.2.2.2 next
end
structure Hid (p : Prop) : Prop where
 out : p
theorem S1 {goal next : Prop} (k : next) (h : Hid next → goal := by
  intro k
  first
   | with_reducible refine Done.seq ?_
   | with_reducible refine CW.seq ?_
   | with_reducible refine CW.region ?_
   | with_reducible refine OL.nil ?_
   | with_reducible refine CW.skip ?_
   | with_reducible refine CW.ret ?_
   | with_reducible refine CW.block ?_
   | with_reducible refine CW.exit ?_
   | with_reducible refine Done.thenRet ?_
   | with_reducible refine Done.thenExit ?_
   | with_reducible refine Done.blkNormal ?_
   | with_reducible refine Done.blkRet ?_
   | with_reducible refine Done.blkExit ?_
   | refine Done.blkOther rfl ?_
  exact k.out) : goal := h ⟨k⟩
theorem S2 {goal next : Prop} (k : next) (h : Hid next → goal := by
  intro k
  iterate 2 refine S1 ?_
  exact k.out) : goal := h ⟨k⟩
theorem S3 {goal next : Prop} (k : next) (h : Hid next → goal := by
  intro k
  iterate 3 refine S1 ?_
  exact k.out) : goal := h ⟨k⟩
theorem S4 {goal next : Prop} (k : next) (h : Hid next → goal := by
  intro k
  iterate 4 refine S1 ?_
  exact k.out) : goal := h ⟨k⟩
theorem S5 {goal next : Prop} (k : next) (h : Hid next → goal := by
  intro k
  iterate 5 refine S1 ?_
  exact k.out) : goal := h ⟨k⟩
theorem S6 {goal next : Prop} (k : next) (h : Hid next → goal := by
  intro k
  iterate 6 refine S1 ?_
  exact k.out) : goal := h ⟨k⟩
theorem S7 {goal next : Prop} (k : next) (h : Hid next → goal := by
  intro k
  iterate 7 refine S1 ?_
  exact k.out) : goal := h ⟨k⟩
theorem S8 {goal next : Prop} (k : next) (h : Hid next → goal := by
  intro k
  iterate 8 refine S1 ?_
  exact k.out) : goal := h ⟨k⟩
theorem S9 {goal next : Prop} (k : next) (h : Hid next → goal := by
  intro k
  iterate 9 refine S1 ?_
  exact k.out) : goal := h ⟨k⟩
theorem S10 {goal next : Prop} (k : next) (h : Hid next → goal := by
  intro k
  iterate 10 refine S1 ?_
  exact k.out) : goal := h ⟨k⟩
theorem S11 {goal next : Prop} (k : next) (h : Hid next → goal := by
  intro k
  iterate 11 refine S1 ?_
  exact k.out) : goal := h ⟨k⟩
theorem S12 {goal next : Prop} (k : next) (h : Hid next → goal := by
  intro k
  iterate 12 refine S1 ?_
  exact k.out) : goal := h ⟨k⟩
theorem S13 {goal next : Prop} (k : next) (h : Hid next → goal := by
  intro k
  iterate 13 refine S1 ?_
  exact k.out) : goal := h ⟨k⟩
theorem S14 {goal next : Prop} (k : next) (h : Hid next → goal := by
  intro k
  iterate 14 refine S1 ?_
  exact k.out) : goal := h ⟨k⟩
theorem S15 {goal next : Prop} (k : next) (h : Hid next → goal := by
  intro k
  iterate 15 refine S1 ?_
  exact k.out) : goal := h ⟨k⟩
theorem S16 {goal next : Prop} (k : next) (h : Hid next → goal := by
  intro k
  iterate 16 refine S1 ?_
  exact k.out) : goal := h ⟨k⟩
theorem S17 {goal next : Prop} (k : next) (h : Hid next → goal := by
  intro k
  iterate 17 refine S1 ?_
  exact k.out) : goal := h ⟨k⟩
theorem S18 {goal next : Prop} (k : next) (h : Hid next → goal := by
  intro k
  iterate 18 refine S1 ?_
  exact k.out) : goal := h ⟨k⟩
theorem S19 {goal next : Prop} (k : next) (h : Hid next → goal := by
  intro k
  iterate 19 refine S1 ?_
  exact k.out) : goal := h ⟨k⟩
theorem S20 {goal next : Prop} (k : next) (h : Hid next → goal := by
  intro k
  iterate 20 refine S1 ?_
  exact k.out) : goal := h ⟨k⟩
theorem S21 {goal next : Prop} (k : next) (h : Hid next → goal := by
  intro k
  iterate 21 refine S1 ?_
  exact k.out) : goal := h ⟨k⟩
theorem S22 {goal next : Prop} (k : next) (h : Hid next → goal := by
  intro k
  iterate 22 refine S1 ?_
  exact k.out) : goal := h ⟨k⟩
theorem S23 {goal next : Prop} (k : next) (h : Hid next → goal := by
  intro k
  iterate 23 refine S1 ?_
  exact k.out) : goal := h ⟨k⟩
theorem S24 {goal next : Prop} (k : next) (h : Hid next → goal := by
  intro k
  iterate 24 refine S1 ?_
  exact k.out) : goal := h ⟨k⟩
theorem S25 {goal next : Prop} (k : next) (h : Hid next → goal := by
  intro k
  iterate 25 refine S1 ?_
  exact k.out) : goal := h ⟨k⟩
theorem S26 {goal next : Prop} (k : next) (h : Hid next → goal := by
  intro k
  iterate 26 refine S1 ?_
  exact k.out) : goal := h ⟨k⟩
theorem S27 {goal next : Prop} (k : next) (h : Hid next → goal := by
  intro k
  iterate 27 refine S1 ?_
  exact k.out) : goal := h ⟨k⟩
theorem S28 {goal next : Prop} (k : next) (h : Hid next → goal := by
  intro k
  iterate 28 refine S1 ?_
  exact k.out) : goal := h ⟨k⟩
theorem S29 {goal next : Prop} (k : next) (h : Hid next → goal := by
  intro k
  iterate 29 refine S1 ?_
  exact k.out) : goal := h ⟨k⟩
theorem S30 {goal next : Prop} (k : next) (h : Hid next → goal := by
  intro k
  iterate 30 refine S1 ?_
  exact k.out) : goal := h ⟨k⟩
theorem Sto {goal next : Prop} (k : next) (h : Hid next → goal := by
  intro k
  apply OL.stoC rfl rfl rfl rfl rfl rfl rfl rfl rfl rfl; (case hu => repeat (first | exact Upd.head _ _ _ | apply Upd.tail)); (case hfit => rfl); (case hds => rfl)
  exact k.out) : goal := h ⟨k⟩
theorem gd {G p : Prop} (hg : G) (h : G → p := by
  intro hg
  first | rfl | exact hg | exact (Bool.and_eq_true_iff.1 hg).1 | exact (Bool.and_eq_true_iff.1 (Bool.and_eq_true_iff.1 hg).1).1 | simp_all) : p := h hg
theorem nm {p q : Prop} (h : p) (s : p → q := by
  intro h
  first
   | (simp only [decide_eq_true_eq, decide_eq_false_iff_not, beq_iff_eq, bne_iff_ne, ne_eq, Int.not_lt, Int.not_le, beq_eq_false_iff_ne, gt_iff_lt, ge_iff_le, Bool.not_eq_true, Bool.not_eq_false, Bool.not_eq_false', bne_eq_false_iff_eq] at h; exact h)
   | exact h) : q := s h
section
variable {c : Ctx} {r : Option Nat} {P : Program} {Q : Exit → Act → World → Prop} {st : St}
theorem lj (J : Nat → Go.Eng.St → Prop) {p : Code} {m : Nat} {st' : Go.Eng.St} (hJ : J m st')
  (round : ∀ m st', J m st' → CW c r P p st' (Exit.then (fun a w => ∃ m' st'', m' < m ∧ J m' st'' ∧ Sat c st'' a w) Q))
  (he : envLe st'.env st.env := by repeat (first | exact trivial | refine ⟨rfl, ?_⟩))
  (hH : st'.H.Sublist st.H := by repeat (first | exact List.Sublist.refl _ | refine List.Sublist.cons _ ?_)) : CW c r P (.loop p) st Q :=
 CW.loopJ J ⟨m, st', hJ, he, hH⟩ round
theorem ag {J : Nat → Go.Eng.St → Prop} {m m' : Nat} {st' : Go.Eng.St} (hJ : J m' st') (hm : m' < m := by omega) (he : envLe st'.env st.env := by repeat (first | exact trivial | refine ⟨rfl, ?_⟩))
  (hH : st'.H.Sublist st.H := by repeat (first | exact List.Sublist.refl _ | refine List.Sublist.cons _ ?_)) : Done c st .normal (Exit.then (fun a w => ∃ m' st'', m' < m ∧ J m' st'' ∧ Sat c st'' a w) Q) :=
 Done.againJ hJ hm he hH
theorem r1 {fn : Func} {B : Nat} {I0 : Imm} {w0 : World} {n : Nat} {Φ : AV → List Ent → Prop} {E : AV → Prop} (t : Nat) (H' : List Ent) {y : AV} (hΦ : Φ (tupOf [y]) H') (hr : fn.results = #[.tmp t] := by exact rfl) (hy : ResOk P st [.tmp t] [y] := by exact .tmp rfl .nil)
  (hH : H'.Sublist st.H := by repeat (first | exact List.Sublist.refl _ | refine List.Sublist.cons _ ?_)) : Done ⟨B, I0, w0, n, []⟩ st .ret (bodyPost P fn (RetP B I0 w0 Φ E)) :=
 Done.retR (rs := [.tmp t]) (H' := H') hr hy (AVleL.refl _) hH hΦ
end
section
variable {P : Program} {r : Option Nat} {o : Oper} {H : List Ent}
theorem appendRow_runs0 {B : Nat} {I : Imm} {w : World} {a : Act} {ρ : Nat → Option AV} {s z : Operand} {t e k by_ n : Nat} {cs : List AV} {news : List (List AV)} {v : Value} {y : AV} {g1 g2 : Bool} {H' : Value → List Ent} [hA : HasApp P t (e, k, by_)]
  (h : o.op = .call { callee := .builtin .append, args := #[s, z], argTypes := #[t, t] }) (hs : aev ρ s = some (g1, .val v)) (hg1 : g1 = true) (hz : aev ρ z = some (g2, y)) (hg2 : g2 = true) (hy : AVle y (.sl k news))
  (h1 : news.all allOne = true) (hu : ∀ v', Upd H (.row e k v n cs) (.row e k v' (n + news.length) (cs ++ news.flatten)) (H' v')) (hb : (n + news.length) * by_ ≤ 140737488355328) (hb' : n + news.length ≤ 9223372036854775807)
  (hw : WOk B I w) (hh : HeapOk B I w H) (ho : OpsOk I w ρ a o) : Runs P r o a w (fun x w' => ∃ I', WOk B I' w' ∧ Ext B I w I' w' ∧ HeapOk B I' w' (H' x)) (fun _ _ => False) := by
 by_cases hne : news = []
 ·subst hne
  obtain ⟨i, zv, hut, hi, hzz, hsz, hby, hzs, hk0⟩ := appInfo_spec hA.h
  have hsv := rel_val (ho.get (by simp [h, Op.operands, Call.operands]) hs hg1)
  have hzr := hy _ _ _ (ho.get (by simp [h, Op.operands, Call.operands]) hz hg2)
  obtain ⟨xs, hrow, hrx, hni⟩ := hh.ok _ (hu v).mem
  obtain ⟨us, r1, r2⟩ := src_of (P := P) (tx := t) hut hzr (by simp)
  have hus : us = [] := by cases r1; rfl
  subst hus
  rw [← hsz] at r2
  have hv : ∃ ad m cp, v = .slice ad m cp ∧ m ≤ cp := by
   rcases hrow.2 with ⟨rfl, _⟩ | ⟨g, cap, cur, rfl, _, _, hc, _⟩
   ·exact ⟨none, 0, 0, rfl, Nat.le_refl _⟩
   ·exact ⟨_, _, _, rfl, hc⟩
  obtain ⟨ad, m, cp, rfl, hle⟩ := hv
  have hr := run_append_nothing (P := P) w t t o.type e i hut hi ad m cp hle (a.eval z) r2
  refine Runs.of_value (by simp [h]) (run_appendOp h a w (by rw [hsv]; exact hr)) ⟨I, hw, Ext.refl _ _ _, ?_⟩
  refine hh.upd (hu _) ⟨fun _ _ x => x, fun _ _ _ => rfl⟩ (fun b _ _ => rfl) (fun b o hx => .inl hx) ⟨xs, by simpa using hrow, by simpa using hrx, hni⟩ (fun b hb => .inl hb)
 ·exact appendRow_runs h hs hg1 hz hg2 hy hne h1 hu hb hb' hw hh ho
end
abbrev CM (e k : Nat) (H : List Ent) (E1 E2 : List (List AV)) (d1 d2 : Nat) : Nat → Mem := fun j B a I w => match j with
 | 0 => HeapOk B I w (.row e k (.slice none 0 0) 0 [] :: H)
 | 1 => HeapOk B I w (.row e k (a.tmps.getD d1 undef) E1.length E1.flatten :: H)
 | _ => HeapOk B I w (.row e k (a.tmps.getD d2 undef) (E1 ++ E2).length (E1 ++ E2).flatten :: H)
section
variable {c : Ctx} {r : Option Nat} {P : Program} {l : List Oper} {Q : Exit → Act → World → Prop}
theorem DP.anyCC {env : List (Nat × AV)} {H : List Ent} (e k : Nat) (E1 E2 : List (List AV)) (d1 d2 s1 s2 : Nat) (kk m n : Nat) (hlen : ∀ x ∈ E1 ++ E2, x.length = k) (hn : c.n = n) (hchk : segChk l kk m = true) (hss : ssChk [s1, s2] kk m = true) (hkm : Nat.ble kk m = true) (hml : Nat.ble m l.length = true) (hlk : (l.all fun o => (looks l o).all fun t => Nat.blt t n) = true)
  (h : TD P (CM e k H E1 E2 d1 d2) l [s1, s2] c.n kk ((l.drop kk).take (m - kk)) env fun env => DP c r P l Q m ⟨(d2, .sl k (E1 ++ E2)) :: env, H⟩) : DP c r P l Q kk ⟨env, H⟩ :=
 DP.anyS (Hs := CM e k H E1 E2 d1 d2) hchk hss (Nat.le_of_ble_eq_true hkm) (Nat.le_of_ble_eq_true hml) (by rw [hn]; exact hlk) (fun B a I w hh => hh.consNil (Ent.row_nil B I w e k) rfl) (h.mono fun env hd a w I q1 q2 q3 q4 q5 q6 => by
  obtain ⟨J, a1, a2, a3, a4⟩ := HeapOk.freezeRow q3 q5 hlen
  exact hd a w ⟨q1, q2, J, a1, q4.trans a2, a3, Sat.put1 (q6.keep a2.keeps) a4⟩)
end
section
variable {P : Program} {L rest : List Oper} {ss : List Nat} {n i d : Nat} {o : Oper} {env : List (Nat × AV)} {K : List (Nat × AV) → Prop} {x : AV} {H : List Ent} {e k : Nat} {E1 E2 : List (List AV)} {d1 d2 : Nat}
theorem TD.popCC (hs : stp ss i = 0) (hg : o.guard = none) (hd : o.dst = some d) (hn : Nat.blt d n = true) (hd1 : Nat.beq d d1 = false) (hd2 : Nat.beq d d2 = false) (h : ∀ H, POp P H (envGet env) o x) (next : TD P (CM e k H E1 E2 d1 d2) L ss n (i + 1) rest ((d, x) :: env) K) : TD P (CM e k H E1 E2 d1 d2) L ss n i (o :: rest) env K :=
 ⟨x, fun j h1 h2 => by
  rw [hs]
  refine ⟨hg, fun B I w r a hw hm ho hz => ?_⟩
  have e1 : ∀ v, (a.put o.dst v).tmps.getD d1 undef = a.tmps.getD d1 undef := fun v => by rw [hd]; exact tmps_put_other (fun e => by subst e; simp at hd1)
  have e2 : ∀ v, (a.put o.dst v).tmps.getD d2 undef = a.tmps.getD d2 undef := fun v => by rw [hd]; exact tmps_put_other (fun e => by subst e; simp at hd2)
  match j with
  | 0 => exact h _ B I w r a _ hw hm (fun _ h => h) ho
  | 1 =>
   refine (h _ B I w r a _ hw hm (fun _ h => h) ho).mono (fun v w' ⟨I', a1, a2, a3, a4⟩ => ⟨I', a1, a2, ?_, a4⟩) (fun _ _ h => h)
   show HeapOk B I' w' (.row e k ((a.put o.dst v).tmps.getD d1 undef) E1.length E1.flatten :: H)
   rw [e1]; exact a3
  | j + 2 =>
   refine (h _ B I w r a _ hw hm (fun _ h => h) ho).mono (fun v w' ⟨I', a1, a2, a3, a4⟩ => ⟨I', a1, a2, ?_, a4⟩) (fun _ _ h => h)
   show HeapOk B I' w' (.row e k ((a.put o.dst v).tmps.getD d2 undef) (E1 ++ E2).length (E1 ++ E2).flatten :: H)
   rw [e2]; exact a3, dstOk_of hd hn, by rw [hd]; exact next⟩
theorem TD.app1 {s z : Operand} {t by_ : Nat} {y : AV} {g1 g2 : Bool} [hA : HasApp P t (e, k, by_)] (hh : hiOf L ss i = 0) (hs : stp ss i = 1) (hg : o.guard = none) (hd : o.dst = some d1) (hn : Nat.blt d1 n = true)
  (h : o.op = .call { callee := .builtin .append, args := #[s, z], argTypes := #[t, t] }) (hsv : aev (envGet env) s = some (g1, .val (.slice none 0 0))) (hg1 : g1 = true) (hz : aev (envGet env) z = some (g2, y)) (hg2 : g2 = true) (hy : AVle y (.sl k E1))
  (h1 : E1.all allOne = true) (hb : E1.length * by_ ≤ 140737488355328) (hb' : E1.length ≤ 9223372036854775807)
  (next : TD P (CM e k H E1 E2 d1 d2) L ss n (i + 1) rest ((d1, .any) :: env) K) : TD P (CM e k H E1 E2 d1 d2) L ss n i (o :: rest) env K :=
 ⟨.any, fun j q1 q2 => by
  obtain rfl : j = 0 := by omega
  rw [hs]
  refine ⟨hg, fun B I w r a hw hm ho hzz => ?_⟩
  refine (appendRow_runs0 (news := E1) (H' := fun v => .row e k v E1.length E1.flatten :: H) h hsv hg1 hz hg2 hy h1 (fun v' => by rw [Nat.zero_add]; exact .head _ _ _) (by rw [Nat.zero_add]; exact hb) (by omega) hw hm ho).mono (fun v w' ⟨I', a1, a2, a3⟩ => ⟨I', a1, a2, ?_, .any _⟩) (fun _ _ h => h)
  show HeapOk B I' w' (.row e k ((a.put o.dst v).tmps.getD d1 undef) E1.length E1.flatten :: H)
  rw [hd, tmps_put_same (hzz d1 hd)]; exact a3, dstOk_of hd hn, by rw [hd]; exact next⟩
theorem TD.app2 {s z : Operand} {t by_ : Nat} {y : AV} {g2 : Bool} [hA : HasApp P t (e, k, by_)] (hl : loOf L ss i = 1) (hh : hiOf L ss i = 1) (hs : stp ss i = 1) (hg : o.guard = none) (hd : o.dst = some d2) (hn : Nat.blt d2 n = true)
  (h : o.op = .call { callee := .builtin .append, args := #[s, z], argTypes := #[t, t] }) (hsv : s = .tmp d1) (hz : ∀ γ, aev (envGet ((d1, .val γ) :: env)) z = some (g2, y)) (hg2 : g2 = true) (hy : AVle y (.sl k E2))
  (h1 : E2.all allOne = true) (hb : (E1.length + E2.length) * by_ ≤ 140737488355328) (hb' : E1.length + E2.length ≤ 9223372036854775807)
  (next : TD P (CM e k H E1 E2 d1 d2) L ss n (i + 1) rest ((d2, .any) :: env) K) : TD P (CM e k H E1 E2 d1 d2) L ss n i (o :: rest) env K :=
 ⟨.any, fun j q1 q2 => by
  obtain rfl : j = 1 := by omega
  rw [hs]
  refine ⟨hg, fun B I w r a hw hm ho hzz => ?_⟩
  have ho' : OpsOk I w (envGet ((d1, .val (a.tmps.getD d1 undef)) :: env)) a o := fun x hx y hy => by
   cases x with
   | tmp t =>
    simp only [aeval] at hy
    rw [envGet_cons] at hy
    split at hy
    ·rename_i e
     subst e
     cases hy
     exact .val _
    ·exact ho _ hx y hy
   | const v => exact ho _ hx y hy
   | global g => exact ho _ hx y hy
   | func f => exact ho _ hx y hy
  refine (appendRow_runs0 (news := E2) (v := a.tmps.getD d1 undef) (g1 := true) (H' := fun v => .row e k v (E1 ++ E2).length (E1 ++ E2).flatten :: H) h (by subst hsv; simp [aev, aeval, envGet_cons, strip]) rfl (hz _) hg2 hy h1 (fun v' => by rw [List.length_append, List.flatten_append]; exact .head _ _ _) hb hb' hw hm ho').mono (fun v w' ⟨I', a1, a2, a3⟩ => ⟨I', a1, a2, ?_, .any _⟩) (fun _ _ h => h)
  show HeapOk B I' w' (.row e k ((a.put o.dst v).tmps.getD d2 undef) (E1 ++ E2).length (E1 ++ E2).flatten :: H)
  rw [hd, tmps_put_same (hzz d2 hd)]; exact a3, dstOk_of hd hn, by rw [hd]; exact next⟩
end
def fldV (P : Program) (t : TypeId) (f : Nat) : Option Nat :=
 match P.underlying t with
 | some (.struct fs) => match fs[f]? with
  | some fd => match tyInfo P fd.type with
   | some (false, _) => some fd.offset
   | _ => none
  | none => none
 | _ => none
class HasFldV (P : Program) (t f : Nat) (x : outParam Nat) : Prop where h : fldV P t f = some x
section
variable {P : Program} {H : List Ent} {ρ : Nat → Option AV} {o : Oper}
theorem run_fieldV {t : TypeId} {f off : Nat} (h : fldV P t f = some off) (cs : Array Value) (v : Value) (hv : cs[off]? = some v) (w : World) : (Instr.field t (.agg cs) f).run P w = .ok v w := by
 unfold fldV at h
 split at h
 ·rename_i fs hu
  split at h
  ·rename_i fd hf
   split at h
   ·rename_i n hi
    cases h
    have h1 := (tyInfo_run hi w).1
    simp only [Instr.field, Sem.run_bind, run_underlying hu, Result.andThen_ok, hf, asAgg, Sem.run_pure, part, h1, hv, Bool.false_eq_true, if_false]
   ·cases h
  ·cases h
 ·cases h
theorem POp.fieldV {t : TypeId} {x : Operand} {f off : Nat} {cs : List AV} {y : AV} {g : Bool} [hf : HasFldV P t f off] (h : o.op = .field t x f) (hx : aev ρ x = some (g, .agg cs)) (hg : g = true) (hy : cs[off]? = some y) : POp P H ρ o y := by
 refine .same (by simp [h]) fun I w a ho => ?_
 have h1 := ho.get (by simp [h, Op.operands]) hx hg
 generalize ha : a.eval x = u at h1
 cases h1 with
 | agg _ vs hr =>
  obtain ⟨v, hv, hrel⟩ := hr.get hy
  exact ⟨v, by simp [execOp, h, ha, run_fieldV hf.h vs v (by simpa using hv) w], hrel⟩
end
def segChkW (l : List Oper) (k m dW : Nat) : Bool :=
 let ms := masks l []
 (l.zipIdx.all fun p => (deps p.1).all fun j => Nat.blt j p.2) &&
 (l.zipIdx.all fun p => Nat.blt p.2 m || (List.range m).all fun j => Nat.blt j k || (ms.getD p.2 0).testBit j) &&
 ((l.take m).zipIdx.all fun p => Nat.blt p.2 k || ((l.take m).zipIdx.all fun q => match q.1.dst with
  | some d => (Nat.beq p.2 q.2 || Nat.blt q.2 k || !(match p.1.dst with | some d' => Nat.beq d d' | none => false)) && (!((looks l p.1).any (Nat.beq d)) || Nat.beq d dW || Nat.blt q.2 k || (Nat.blt q.2 p.2 && (ms.getD p.2 0).testBit q.2))
  | none => true))
structure SegOkW (l : List Oper) (k m dW : Nat) : Prop where
 back : ∀ i o, l[i]? = some o → ∀ j ∈ deps o, j < i
 tail : ∀ i, m ≤ i → i < l.length → ∀ j, k ≤ j → j < m → ((masks l []).getD i 0).testBit j = true
 apart : ∀ i oi j oj d, k ≤ i → i < m → l[i]? = some oi → k ≤ j → j < m → l[j]? = some oj → oj.dst = some d → i ≠ j → oi.dst ≠ some d
 looked : ∀ i oi j oj d, d ≠ dW → k ≤ i → i < m → l[i]? = some oi → k ≤ j → j < m → l[j]? = some oj → oj.dst = some d → d ∈ looks l oi → j < i ∧ ((masks l []).getD i 0).testBit j = true
theorem segOkW_of {l : List Oper} {k m dW : Nat} (h : segChkW l k m dW = true) : SegOkW l k m dW := by
 simp only [segChkW, Bool.and_eq_true, List.all_eq_true] at h
 obtain ⟨⟨h1, h2⟩, h3⟩ := h
 have key : ∀ i oi j oj d, k ≤ i → i < m → l[i]? = some oi → k ≤ j → j < m → l[j]? = some oj → oj.dst = some d → (i = j ∨ oi.dst ≠ some d) ∧ (d ≠ dW → d ∈ looks l oi → j < i ∧ ((masks l []).getD i 0).testBit j = true) := by
  intro i oi j oj d hki hi hoi hkj hj hoj hd
  have hti : (l.take m)[i]? = some oi := by rw [List.getElem?_take, if_pos hi]; exact hoi
  have htj : (l.take m)[j]? = some oj := by rw [List.getElem?_take, if_pos hj]; exact hoj
  have h4 := h3 _ (mem_zipIdx_of hti)
  simp only [Bool.or_eq_true, List.all_eq_true] at h4
  have nk : ∀ x, k ≤ x → ¬ Nat.blt x k = true := fun x hx hb => by
   have := Nat.lt_of_succ_le (by simpa [Nat.blt] using hb); omega
  rcases h4 with h4 | h4
  ·exact absurd h4 (nk i hki)
  have := h4 _ (mem_zipIdx_of htj)
  simp only [hd, Bool.and_eq_true, Bool.or_eq_true, Bool.not_eq_true'] at this
  obtain ⟨ha, hb⟩ := this
  refine ⟨?_, fun hdw hm => ?_⟩
  ·rcases ha with (ha | ha) | ha
   ·exact .inl (Nat.eq_of_beq_eq_true ha)
   ·exact absurd ha (nk j hkj)
   ·refine .inr fun e => ?_
    rw [e] at ha
    simp at ha
  ·rcases hb with ((hb | hb) | hb) | hb
   ·exfalso
    rw [List.any_eq_false] at hb
    exact hb d hm (by simp)
   ·exact absurd (Nat.eq_of_beq_eq_true hb) hdw
   ·exact absurd hb (nk j hkj)
   ·exact ⟨Nat.lt_of_succ_le (by simpa [Nat.blt] using hb.1), hb.2⟩
 refine ⟨fun i o ho j hj => ?_, fun i hi hl j hkj hj => ?_, fun i oi j oj d hki hi hoi hkj hj hoj hd hne => ?_, fun i oi j oj d hdw hki hi hoi hkj hj hoj hd hm => (key i oi j oj d hki hi hoi hkj hj hoj hd).2 hdw hm⟩
 ·have := h1 _ (mem_zipIdx_of ho) j hj
  exact Nat.lt_of_succ_le (by simpa [Nat.blt] using this)
 ·have := h2 _ (mem_zipIdx_of (List.getElem?_eq_getElem hl))
  simp only [Bool.or_eq_true] at this
  rcases this with h | h
  ·have : i < m := Nat.lt_of_succ_le (by simpa [Nat.blt] using h)
   omega
  ·rw [List.all_eq_true] at h
   have := h j (by simpa using hj)
   simp only [Bool.or_eq_true] at this
   rcases this with h | h
   ·have : j < k := Nat.lt_of_succ_le (by simpa [Nat.blt] using h)
    omega
   ·exact h
 ·rcases (key i oi j oj d hki hi hoi hkj hj hoj hd).1 with h | h
  ·exact absurd h hne
  ·exact h
section
variable {c : Ctx} {r : Option Nat} {P : Program} {l : List Oper} {st : St} {Q : Exit → Act → World → Prop}
theorem DP.anyW {k m : Nat} {Hs : Nat → Mem} {ss : List Nat} (dW : Nat) (hst : envGet st.env dW = some .any) (hchk : segChkW l k m dW = true) (hss : ssChk ss k m = true) (hkm : k ≤ m) (hml : m ≤ l.length) (hlk : (l.all fun o => (looks l o).all fun t => Nat.blt t c.n) = true) {env0 : List (Nat × AV)} (hE : ∀ a w I, EnvOk I w (envGet env0) a → EnvOk I w (envGet st.env) a) (hH : ∀ a w I, HeapOk c.B I w st.H → EnvOk I w (envGet env0) a → Hs 0 c.B a I w)
  (h : TD P Hs l ss c.n k ((l.drop k).take (m - k)) st.env fun env => envGet env dW = some .any ∧ ∀ a w I, a.defers = c.ds → a.tmps.size = c.n → WOk c.B I w → Ext c.B c.I0 c.w0 I w → Hs ss.length c.B a I w → EnvOk I w (envGet env) a → KD c r P l Q m a w) : DP c r P l Q k ⟨env0, st.H⟩ := by
 have ok := segOkW_of hchk
 obtain ⟨hsr, hnd⟩ := ssChk_of hss
 obtain ⟨xs, hxl, ⟨hdW, htail⟩, hspec⟩ := TD_spec _ _ _ _ h
 have hxm : xs.length = m - k := by rw [hxl, List.length_take, List.length_drop]; omega
 generalize hS : (l.drop k).take (m - k) = S at *
 have takeAt : ∀ (i : Nat) (o : Oper), S[i]? = some o ↔ i < m - k ∧ l[k + i]? = some o := by
  intro i o
  rw [← hS, List.getElem?_take]
  by_cases hi : i < m - k
  ·rw [if_pos hi, List.getElem?_drop]; simp [hi]
  ·rw [if_neg hi]; simp [hi]
 generalize hF : puts st.env S xs = envF at htail hdW
 have hlook : ∀ (i : Nat) (o : Oper), l[i]? = some o → ∀ t ∈ looks l o, t < c.n := by
  intro i o ho t ht
  simp only [List.all_eq_true] at hlk
  have := hlk o (List.mem_of_getElem? ho) t ht
  exact Nat.lt_of_succ_le (by simpa [Nat.blt] using this)
 have fin : ∀ (i : Nat) (o : Oper) (x : AV), i < m - k → l[k + i]? = some o → xs[i]? = some x → TOk P Hs l ss (k + i) envF o x ∧ dstOk c.n o.dst = true := by
  intro i o x hi ho hx
  obtain ⟨h1, h2⟩ := hspec i o x ((takeAt i o).2 ⟨hi, ho⟩) hx
  refine ⟨?_, h2⟩
  have same : ∀ t ∈ looks l o, envGet (puts st.env (S.take i) (xs.take i)) t = envGet envF t := by
   intro t ht
   by_cases htW : t = dW
   ·subst htW
    rw [hdW]
    by_cases hw : ∃ (j : Nat) (o' : Oper), j < i ∧ S[j]? = some o' ∧ o'.dst = some t
    ·obtain ⟨j, o', hji, hoj, hdj⟩ := hw
     obtain ⟨hjm, hoj'⟩ := (takeAt _ _).1 hoj
     have hxj : xs[j]? = some xs[j] := List.getElem?_eq_getElem (by omega)
     have e1 : envGet (puts st.env S xs) t = some xs[j] := puts_at S xs st.env j t o' _ hoj hxj hdj (fun q oq hoq eq => by
      obtain ⟨hqm, hoq'⟩ := (takeAt _ _).1 hoq
      rcases Nat.decEq q j with hne | he
      ·exact absurd hdj (ok.apart (k + j) o' (k + q) oq t (by omega) (by omega) hoj' (by omega) (by omega) hoq' eq (by omega))
      ·exact he)
     have e2 : envGet (puts st.env (S.take i) (xs.take i)) t = some xs[j] := puts_at (S.take i) (xs.take i) st.env j t o' _ (by rw [List.getElem?_take, if_pos hji]; exact hoj) (by rw [List.getElem?_take, if_pos hji]; exact hxj) hdj (fun q oq hoq eq => by
      rw [List.getElem?_take] at hoq
      split at hoq
      ·obtain ⟨hqm, hoq'⟩ := (takeAt _ _).1 hoq
       rcases Nat.decEq q j with hne | he
       ·exact absurd hdj (ok.apart (k + j) o' (k + q) oq t (by omega) (by omega) hoj' (by omega) (by omega) hoq' eq (by omega))
       ·exact he
      ·cases hoq)
     rw [e2, ← e1, hF, hdW]
    ·rw [puts_other _ _ _ _ (fun q oq hoq eq => by
      rw [List.getElem?_take] at hoq
      split at hoq
      ·rename_i hq; exact hw ⟨q, oq, hq, hoq, eq⟩
      ·cases hoq), hst]
   rw [← hF, puts_split i S xs st.env hxl]
   symm
   apply puts_other
   intro j o' ho' e
   rw [List.getElem?_drop] at ho'
   obtain ⟨hj, hoj⟩ := (takeAt _ _).1 ho'
   have := (ok.looked (k + i) o (k + (i + j)) o' t htW (by omega) (by omega) ho (by omega) (by omega) hoj e ht).1
   omega
  exact fun j hj1 hj2 => (h1 j hj1 hj2).congr same
 have finAt : ∀ (i : Nat) (o : Oper) (x : AV) (t : Nat), i < m - k → l[k + i]? = some o → xs[i]? = some x → o.dst = some t → envGet envF t = some x := by
  intro i o x t hi ho hx hd
  rw [← hF]
  refine puts_at S xs st.env i t o x ((takeAt i o).2 ⟨hi, ho⟩) hx hd (fun j o' ho' e => ?_)
  obtain ⟨hj, hoj⟩ := (takeAt _ _).1 ho'
  rcases Nat.decEq j i with hne | he
  ·exact absurd hd (ok.apart (k + i) o (k + j) o' t (by omega) (by omega) ho (by omega) (by omega) hoj e (by omega))
  ·exact he
 have finOther : ∀ t, (∀ (i : Nat) (o : Oper), i < m - k → l[k + i]? = some o → o.dst ≠ some t) → envGet envF t = envGet st.env t := by
  intro t ht
  rw [← hF]
  exact puts_other _ _ _ _ fun i o ho => let ⟨h1, h2⟩ := (takeAt i o).1 ho; ht i o h1 h2
 have main : ∀ (cnt fuel : Nat) (listed : Array Bool) (a : Act) (w : World) (I : Imm), listed.size = l.length → (cnt = (List.range m).countP fun i => !listed.getD i false) → cnt + (l.length - m) ≤ fuel → Closed l (fun i => listed.getD i false = true) →
   (∀ i, i < k → listed.getD i false = true) → (∀ i, listed.getD i false = true → i < m) → a.defers = c.ds → a.tmps.size = c.n → WOk c.B I w → Ext c.B c.I0 c.w0 I w → Hs (ss.countP fun s => listed.getD s false) c.B a I w →
   (∀ t x, envGet envF t = some x → (∀ (i : Nat) (o : Oper), i < m - k → l[k + i]? = some o → o.dst = some t → listed.getD (k + i) false = true) → Rel I w x (a.tmps.getD t undef)) →
   wpAnyIn (FW r) 0 P .any l.toArray Q fuel listed a w := by
  intro cnt
  induction cnt with
  | zero =>
   intro fuel listed a w I hsz hf hfu hcl hlk' hlm hd hts hw he hh hv
   have hall : ∀ i, i < m → listed.getD i false = true := by
    intro i hi
    have := List.countP_eq_zero.1 hf.symm i (by simpa using hi)
    simpa using this
   have hst : ss.countP (fun s => listed.getD s false) = ss.length := List.countP_eq_length.2 fun s hs => by simpa using hall s (hsr s hs).2
   rw [hst] at hh
   exact htail a w I hd hts hw he hh (fun t x hx => hv t x hx (fun i o hi _ _ => hall (k + i) (by omega))) fuel listed hsz (fun i => ⟨hlm i, hall i⟩) (by omega)
  | succ cnt ih =>
   intro fuel listed a w I hsz hf hfu hcl hlk' hlm hd hts hw he hh hv
   obtain ⟨fuel, rfl⟩ : ∃ f, fuel = f + 1 := ⟨fuel - 1, by omega⟩
   have hex : ∃ i, i < m ∧ listed.getD i false = false ∧ ∀ j, j < i → listed.getD j false = true := by
    have : ∃ i, i < m ∧ listed.getD i false = false := by
     refine Classical.byContradiction fun hn => ?_
     have : (List.range m).countP (fun i => !listed.getD i false) = 0 := by
      rw [List.countP_eq_zero]
      intro i hi
      simp only [List.mem_range] at hi
      cases hx : listed.getD i false with
      | true => simp
      | false => exact absurd ⟨i, hi, hx⟩ hn
     omega
    obtain ⟨i, hi⟩ := this
    induction i using Nat.strongRecOn with
    | _ i ihi =>
     by_cases hx : ∃ j, j < i ∧ listed.getD j false = false
     ·obtain ⟨j, hj, hj2⟩ := hx
      exact ihi j hj ⟨by omega, hj2⟩
     ·exact ⟨i, hi.1, hi.2, fun j hj => by
       cases hy : listed.getD j false with
       | true => rfl
       | false => exact absurd ⟨j, hj, hy⟩ hx⟩
   obtain ⟨i0, hi0m, hi0, hi0b⟩ := hex
   have hi0k : k ≤ i0 := by
    rcases Nat.lt_or_ge i0 k with h | h
    ·rw [hlk' i0 h] at hi0; cases hi0
    ·exact h
   refine ⟨fun h0 => ?_, fun i hi => ?_⟩
   ·exfalso
    have hok : l[i0]? = some l[i0] := List.getElem?_eq_getElem (by omega)
    have : i0 ∈ Region.ready .any l.toArray listed := by
     rw [mem_ready]
     refine ⟨by rw [getD_true_iff (by omega)]; exact hi0, l[i0], by simp, fun e he hb => ?_⟩
     exact hi0b _ (ok.back i0 _ hok e.on (by simp only [deps, List.mem_filterMap]; exact ⟨e, by simpa using he, by simp [hb]⟩))
    rw [h0] at this; cases this
   ·obtain ⟨h1, o, h2, h3⟩ := mem_ready.1 hi
    have ho : l[i]? = some o := by simpa using h2
    have hlt : i < l.length := (List.getElem?_eq_some_iff.1 ho).1
    rw [getD_true_iff (by omega)] at h1
    have hdeps : ∀ k ∈ deps o, listed.getD k false = true := by
     intro k hk
     simp only [deps, List.mem_filterMap] at hk
     obtain ⟨e, he, hb⟩ := hk
     split at hb
     ·rename_i hbi; simp at hb; subst hb; exact h3 e (by simpa using he) hbi
     ·cases hb
    have hms : (masks l [])[i]? = some ((masks l []).getD i 0) := by
     have : i < (masks l []).length := by rw [masks_len]; simpa using hlt
     simp [List.getD, this]
    have hanc := masks_spec l _ hcl l [] (by simp) (by simp) (by simp) i _ o hms ho hdeps
    have hik : k ≤ i := by
     rcases Nat.lt_or_ge i k with h | h
     ·rw [hlk' i h] at h1; cases h1
     ·exact h
    have him : i < m := by
     rcases Nat.lt_or_ge i m with h | h
     ·exact h
     ·have := hanc i0 (ok.tail i h hlt i0 hi0k hi0m)
      rw [hi0] at this; cases this
    obtain ⟨q, rfl⟩ : ∃ q, i = k + q := ⟨i - k, by omega⟩
    have hq : q < m - k := by omega
    have hxi : xs[q]? = some xs[q] := List.getElem?_eq_getElem (by omega)
    obtain ⟨hA, hdst⟩ := fin q o _ hq ho hxi
    have avail : ∀ t ∈ looks l o, t ≠ dW → ∀ (i' : Nat) (o' : Oper), i' < m - k → l[k + i']? = some o' → o'.dst = some t → listed.getD (k + i') false = true := fun t ht htW i' o' hi' ho' hd' => hanc _ (ok.looked (k + q) o (k + i') o' t htW hik him ho (by omega) (by omega) ho' hd' ht).2
    have hlo : loOf l ss (k + q) ≤ ss.countP fun s => listed.getD s false := by
     unfold loOf
     exact List.countP_mono_left fun s _ hs => hanc s hs
    have hhi : (ss.countP fun s => listed.getD s false) ≤ hiOf l ss (k + q) := by
     unfold hiOf
     refine List.countP_mono_left fun s hs hl => ?_
     simp only [Bool.and_eq_true, Bool.not_eq_true']
     refine ⟨?_, ?_⟩
     ·cases hb : ((masks l []).getD s 0).testBit (k + q) with
      | false => rfl
      | true =>
       exfalso
       have hsl : s < l.length := by have := (hsr s hs).2; omega
       have hos : l[s]? = some l[s] := List.getElem?_eq_getElem hsl
       have hms2 : (masks l [])[s]? = some ((masks l []).getD s 0) := by
        have : s < (masks l []).length := by rw [masks_len]; simpa using hsl
        simp [List.getD, this]
       have := masks_spec l _ hcl l [] (by simp) (by simp) (by simp) s _ _ hms2 hos (fun j hj => hcl s _ hl hos j hj) (k + q) hb
       rw [h1] at this; cases this
     ·cases hb : Nat.beq s (k + q) with
      | false => rfl
      | true =>
       exfalso
       rw [Nat.eq_of_beq_eq_true hb] at hl
       rw [h1] at hl; cases hl
    refine (hA _ hlo hhi).run (c := c) ho hw hh (fun t ht z hz => by
     by_cases htW : t = dW
     ·subst htW; rw [hdW] at hz; cases hz; exact .any _
     ·exact hv t z hz (avail t ht htW)) (fun t ht => by rw [hts]; exact hlook _ o ho t ht) (fun d' hd' => by rw [hts]; rw [hd'] at hdst; exact Nat.lt_of_succ_le (by simpa [dstOk, Nat.blt] using hdst)) ?_
    intro v w' I' hw' he' hh' hx
    have hset : ∀ j, (listed.setIfInBounds (k + q) true).getD j false = if k + q = j then true else listed.getD j false := fun j => getD_set _ _ _ (by omega)
    refine ih fuel (listed.setIfInBounds (k + q) true) _ w' I' (by simp [hsz]) ?_ (by omega) ?_ ?_ ?_ (by rw [put_defers]; exact hd) (by rw [tmps_put_size]; exact hts) hw' (he.trans he') (by rw [stage_set hset h1 hnd]; exact hh') ?_
    ·have : (List.range m).countP (fun j => !listed.getD j false) = (List.range m).countP (fun j => !(listed.setIfInBounds (k + q) true).getD j false) + 1 := by
      have key : ∀ (n : Nat), (List.range n).countP (fun j => !listed.getD j false) = (List.range n).countP (fun j => !(listed.setIfInBounds (k + q) true).getD j false) + (if k + q < n then 1 else 0) := by
       intro n
       induction n with
       | zero => simp
       | succ n ihn =>
        rw [List.range_succ, List.countP_append, List.countP_append, ihn]
        simp only [List.countP_cons, List.countP_nil, Nat.zero_add, hset n]
        by_cases e : k + q = n
        ·subst e
         rw [if_neg (Nat.lt_irrefl _), if_pos (Nat.lt_succ_self _), if_pos rfl, h1]
         simp
        ·rw [if_neg e]
         by_cases hlt' : k + q < n
         ·rw [if_pos hlt', if_pos (Nat.lt_succ_of_lt hlt')]; omega
         ·rw [if_neg hlt', if_neg (show ¬ k + q < n + 1 by omega)]; omega
      rw [key, if_pos him]
     omega
    ·intro j oj hj hoj k' hk
     rw [hset]
     by_cases e : k + q = k'
     ·rw [if_pos e]
     ·rw [if_neg e]
      rw [hset] at hj
      by_cases e' : k + q = j
      ·subst e'
       rw [ho] at hoj; cases hoj
       exact hdeps k' hk
      ·rw [if_neg e'] at hj
       exact hcl j oj hj hoj k' hk
    ·intro j hj
     rw [hset, if_neg (by omega)]
     exact hlk' j hj
    ·intro j hj
     rw [hset] at hj
     by_cases e : k + q = j
     ·omega
     ·rw [if_neg e] at hj; exact hlm j hj
    ·intro t x hxt hav
     by_cases hdt : o.dst = some t
     ·rw [hdt]
      have : x = xs[q] := by
       have := finAt q o _ t hq ho hxi hdt
       rw [this] at hxt; exact (Option.some.inj hxt).symm
      subst this
      rw [tmps_put_same (by rw [hts]; rw [hdt] at hdst; exact Nat.lt_of_succ_le (by simpa [dstOk, Nat.blt] using hdst))]
      exact hx
     ·have hold : Rel I w x (a.tmps.getD t undef) := hv t x hxt fun i' o' hi' ho' hd' => by
       have := hav i' o' hi' ho' hd'
       rw [hset] at this
       by_cases e : k + q = k + i'
       ·have e2 : q = i' := by omega
        subst e2
        rw [ho] at ho'; cases ho'
        exact absurd hd' hdt
       ·rw [if_neg e] at this; exact this
      have hget : (a.put o.dst v).tmps.getD t undef = a.tmps.getD t undef := by
       cases hod : o.dst with
       | none => rfl
       | some d => exact tmps_put_other (fun e => hdt (by rw [hod, e]))
      rw [hget]
      exact hold.keep he'.keeps
 intro a w s fuel listed hsz hli hfu
 obtain ⟨I, hw, he, hh, hv0⟩ := s.mem
 have hv := hE _ _ _ hv0
 have hst0 : (ss.countP fun s => listed.getD s false) = 0 := List.countP_eq_zero.2 fun s hs hl => by have := (hli s).1 hl; have := (hsr s hs).1; omega
 refine main _ fuel listed a w I hsz rfl ?_ (fun i o hi ho j hj => (hli j).2 (by have := ok.back i o ho j hj; have := (hli i).1 hi; omega)) (fun i hi => (hli i).2 hi) (fun i hi => by have := (hli i).1 hi; omega) s.ds s.size hw he (by rw [hst0]; exact hH _ _ _ hh hv0) ?_
 ·have : (List.range m).countP (fun i => !listed.getD i false) ≤ m - k := by
   have e : List.range m = List.range k ++ (List.range (m - k)).map (k + ·) := by
    rw [← List.range_add]; congr 1; omega
   rw [e, List.countP_append]
   have z : (List.range k).countP (fun i => !listed.getD i false) = 0 := by
    rw [List.countP_eq_zero]; intro i hi; simp only [List.mem_range] at hi; simp [(hli i).2 hi]
   rw [z]
   have := List.countP_le_length (p := fun i => !listed.getD i false) (l := (List.range (m - k)).map (k + ·))
   simpa using this
  omega
 ·intro t x hx hav
  have : envGet st.env t = some x := by
   rw [← finOther t (fun i o hi ho hd => ?_)]
   ·exact hx
   ·have := hav i o hi ho hd
    have := (hli (k + i)).1 this
    omega
  exact hv t x this
end
abbrev WM (H : List Ent) (x0 x1 : AV) (dW : Nat) : Nat → Mem := fun j B a I w => HeapOk B I w H ∧ match j with
 | 0 => Rel I w x0 (a.tmps.getD dW undef)
 | _ => Rel I w x1 (a.tmps.getD dW undef)
section
variable {c : Ctx} {r : Option Nat} {P : Program} {l : List Oper} {Q : Exit → Act → World → Prop}
theorem DP.anyWC {env : List (Nat × AV)} {H : List Ent} {x0 : AV} (x1 : AV) (dW e : Nat) (k m n : Nat) (h0 : envGet env dW = some x0) (hn : c.n = n) (hchk : segChkW l k m dW = true) (hss : ssChk [e] k m = true) (hkm : Nat.ble k m = true) (hml : Nat.ble m l.length = true) (hlk : (l.all fun o => (looks l o).all fun t => Nat.blt t n) = true)
  (h : TD P (WM H x0 x1 dW) l [e] c.n k ((l.drop k).take (m - k)) ((dW, .any) :: env) fun env => envGet env dW = some .any ∧ DP c r P l Q m ⟨(dW, x1) :: env, H⟩) : DP c r P l Q k ⟨env, H⟩ := by
 refine DP.anyW (Hs := WM H x0 x1 dW) (st := ⟨(dW, .any) :: env, H⟩) dW (by simp [envGet_cons]) hchk hss (Nat.le_of_ble_eq_true hkm) (Nat.le_of_ble_eq_true hml) (by rw [hn]; exact hlk) (fun a w I hv => Sat.put1 hv (.any _)) (fun a w I hh hv => ⟨hh, hv dW x0 h0⟩) (h.mono fun env' hd => ⟨hd.1, fun a w I q1 q2 q3 q4 q5 q6 => hd.2 a w ⟨q1, q2, I, q3, q4, q5.1, Sat.put1 q6 q5.2⟩⟩)
end
section
variable {P : Program} {L rest : List Oper} {n i d e : Nat} {o : Oper} {env : List (Nat × AV)} {K : List (Nat × AV) → Prop} {x : AV} {H : List Ent} {x0 x1 : AV} {dW : Nat}
theorem opsOk_put {I : Imm} {w : World} {a : Act} {o : Oper} {env : List (Nat × AV)} {d : Nat} {y : AV} (ho : OpsOk I w (envGet env) a o) (h : Rel I w y (a.tmps.getD d undef)) : OpsOk I w (envGet ((d, y) :: env)) a o := fun z hz u hu => by
 cases z with
 | tmp t =>
  simp only [aeval] at hu
  rw [envGet_cons] at hu
  split at hu
  ·rename_i e
   subst e
   cases hu
   exact h
  ·exact ho _ hz u hu
 | const v => exact ho _ hz u hu
 | global g => exact ho _ hz u hu
 | func f => exact ho _ hz u hu
theorem TD.popW0 (hh : hiOf L [e] i = 0) (hs : stp [e] i = 0) (hg : o.guard = none) (hd : o.dst = some d) (hn : Nat.blt d n = true) (hne : Nat.beq d dW = false) (h : POp P H (envGet ((dW, x0) :: env)) o x) (next : TD P (WM H x0 x1 dW) L [e] n (i + 1) rest ((d, x) :: env) K) : TD P (WM H x0 x1 dW) L [e] n i (o :: rest) env K :=
 ⟨x, fun j h1 h2 => by
  obtain rfl : j = 0 := by omega
  rw [hs]
  refine ⟨hg, fun B I w r a hw hm ho hz => ?_⟩
  refine (h B I w r a _ hw hm.1 (fun _ h => h) (opsOk_put ho hm.2)).mono (fun v w' ⟨I', a1, a2, a3, a4⟩ => ⟨I', a1, a2, ⟨a3, ?_⟩, a4⟩) (fun _ _ h => h)
  show Rel I' w' x0 ((a.put o.dst v).tmps.getD dW undef)
  rw [hd, tmps_put_other (fun e => by subst e; simp at hne)]
  exact hm.2.keep a2.keeps, dstOk_of hd hn, by rw [hd]; exact next⟩
theorem TD.popW (hs : stp [e] i = 0) (hg : o.guard = none) (hd : o.dst = some d) (hn : Nat.blt d n = true) (hne : Nat.beq d dW = false) (h : POp P H (envGet env) o x) (next : TD P (WM H x0 x1 dW) L [e] n (i + 1) rest ((d, x) :: env) K) : TD P (WM H x0 x1 dW) L [e] n i (o :: rest) env K :=
 ⟨x, fun j h1 h2 => by
  rw [hs]
  refine ⟨hg, fun B I w r a hw hm ho hz => ?_⟩
  refine (h B I w r a _ hw hm.1 (fun _ h => h) ho).mono (fun v w' ⟨I', a1, a2, a3, a4⟩ => ⟨I', a1, a2, ⟨a3, ?_⟩, a4⟩) (fun _ _ h => h)
  have e : (a.put o.dst v).tmps.getD dW undef = a.tmps.getD dW undef := by rw [hd]; exact tmps_put_other (fun e => by subst e; simp at hne)
  match j with
  | 0 => show Rel I' w' x0 _; rw [e]; exact Rel.keep a2.keeps hm.2
  | j + 1 => show Rel I' w' x1 _; rw [e]; exact Rel.keep a2.keeps hm.2, dstOk_of hd hn, by rw [hd]; exact next⟩
theorem TD.assW (hh : hiOf L [e] i = 0) (hs : stp [e] i = 1) (hg : o.guard = none) (hd : o.dst = some dW) (hn : Nat.blt dW n = true) (h : POp P H (envGet env) o x1) (next : TD P (WM H x0 x1 dW) L [e] n (i + 1) rest ((dW, .any) :: env) K) : TD P (WM H x0 x1 dW) L [e] n i (o :: rest) env K :=
 ⟨.any, fun j h1 h2 => by
  obtain rfl : j = 0 := by omega
  rw [hs]
  refine ⟨hg, fun B I w r a hw hm ho hz => ?_⟩
  refine (h B I w r a _ hw hm.1 (fun _ h => h) ho).mono (fun v w' ⟨I', a1, a2, a3, a4⟩ => ⟨I', a1, a2, ⟨a3, ?_⟩, .any _⟩) (fun _ _ h => h)
  show Rel I' w' x1 ((a.put o.dst v).tmps.getD dW undef)
  rw [hd, tmps_put_same (hz dW hd)]; exact a4, dstOk_of hd hn, by rw [hd]; exact next⟩
end
theorem buildSlice_run' {P : Program} {t e : TypeId} {n k : Nat} {zs : List Value} (hue : P.underlying t = some (.slice e)) (hr : rowInfo P t = some (k, zs)) (parts : Array (Nat × Value)) (us : Array Value) (hsm : n * k ≤ 16777216) (hpos : 0 < n * k)
  (h : Instr.fill (fun i => some (i * k, k)) (rowZero n k zs).toArray parts.toList = some us) (w : World) :
  (Instr.buildSlice t n parts).run P w = .ok (.slice (some ⟨w.heap.size, 0, none⟩) n n) (w.alloc (.cells us e)) := by
 obtain ⟨e', i, z, hu, hi, hz, hk, hzs⟩ := rowInfo_spec hr
 obtain rfl : e' = e := by rw [hu] at hue; cases hue; rfl
 have hsm' : ¬ n * i.size > 2 ^ 24 := by rw [hk]; omega
 have hpos' : ¬ n * i.size = 0 := by rw [hk]; omega
 have hf : Instr.fill (fun j => some (j * i.size, i.size)) ((Array.range (n * i.size)).map (z.cells[· % z.cells.size]!)) parts.toList = some us := ?_
 ·simp [Instr.buildSlice, run_underlying hu, sizeOf, typeInfo, zeroValue, hi, hz, hsm', hpos', hf, newRow]
 rw [hk, ← h]
 congr 1
 apply Array.ext'
 simp only [rowZero, Array.toList_map, Array.toList_range, ← hzs]
 refine List.map_congr_left fun j _ => ?_
 simp [Array.getElem!_eq_getD, Array.getD_eq_getD_getElem?, List.getD_eq_getElem?_getD]
section
variable {c : Ctx} {r : Option Nat} {P : Program} {ops : Array Oper} {l rest : List Oper} {o : Oper} {env : List (Nat × AV)} {H : List Ent} {Q : Exit → Act → World → Prop} {d : Nat}
theorem OL.rowOwn {t e by_ : Nat} {n k : Nat} {ps : Array (Nat × Operand)} {zs : List Value} {ys : List (Bool × AV)} {els : List (List AV)} [hA : HasApp P t (e, k, by_)] [hR : HasRow P t (k, zs)] (hgd : o.guard = none) (hd : o.dst = some d) (hn : Nat.blt d c.n = true) (h : o.op = .buildSlice t n ps)
  (hy : aevs (envGet env) (ps.toList.map (·.2)) = some ys) (hg : ys.all (·.1) = true) (hels : (partsOf ps.toList ys).map (fun x => bcells x.2) = els) (hlen : Nat.beq els.length n = true) (hk : els.all (fun e => Nat.beq e.length k) = true)
  (hsm : Nat.ble (n * k) 16777216 = true) (hpos : Nat.blt 0 (n * k) = true)
  (hf : bfill (fun i => some (i * k, k)) ((rowZero n k zs).map .val) (partsOf ps.toList ys) = some els.flatten)
  (next : ∀ v, OL c r P ops rest ⟨(d, .as (.sl k els) v) :: env, .own e k v :: H⟩ Q) : OL c r P ops (o :: rest) ⟨env, H⟩ Q := by
 intro a w s
 refine wpListIn_plain hgd fun K hK => ?_
 obtain ⟨I, hw, he, hh, hv⟩ := s.mem
 have ho := hv.ops o
 obtain ⟨e1, e2⟩ := parts_rel ho ps (by simp [h, Op.operands]) hy hg
 obtain ⟨us, h1, h2⟩ := bfill_rel _ _ ((rowZero n k zs).map .val) (rowZero n k zs).toArray els.flatten (by simpa using relL_val _) e1 e2 hf
 have hsm := Nat.le_of_ble_eq_true hsm
 have hpos : 0 < n * k := Nat.le_of_ble_eq_true hpos
 obtain ⟨i, z, hu, hi, hz, hki, hby, hzs, hk0⟩ := appInfo_spec hA.h
 have hrun := buildSlice_run' hu hR.h (ps.map fun (i, x) => (i, a.eval x)) us hsm hpos h1 w
 obtain ⟨a1, a2, a3, a4⟩ := Imm.add_new hw e us
 have hn' := Nat.eq_of_beq_eq_true hlen
 have hnk : n ≤ n * k := by
  rcases Nat.eq_zero_or_pos k with rfl | hk'
  ·simp at hpos
  ·exact Nat.le_mul_of_pos_right n hk'
 have hkl : ∀ x ∈ els, x.length = k := fun x hx => Nat.eq_of_beq_eq_true (List.all_eq_true.1 hk x hx)
 have hus : us.size = n * k := by
  have := h2.length
  rw [flatten_len hkl, hn'] at this
  simpa using this
 refine Runs.of_value (R := fun v w' => v = .slice (some ⟨w.heap.size, 0, none⟩) n n ∧ w' = w.alloc (.cells us e)) (E := fun _ _ => False) (v := .slice (some ⟨w.heap.size, 0, none⟩) n n) (w' := w.alloc (.cells us e)) (by simp [h]) (by simp [execOp, h, hrun]) ⟨rfl, rfl⟩ K Q ?_ (fun _ _ h => h.elim)
 rintro v w' ⟨rfl, rfl⟩
 have hrow : (w.alloc (.cells us e)).ownsRow c.B e k (.slice (some ⟨w.heap.size, 0, none⟩) n n) n us.toList := ⟨by simpa using hus, .inr ⟨w.heap.size, n, us, rfl, hw.base, heap_alloc_new w _, Nat.le_refl _, by simp only [maxLen]; omega, hus, by rw [← hus, ← Array.length_toList]; exact List.take_length⟩⟩
 have h3 := a3 _ hh
 refine hK _ _ (next (.slice (some ⟨w.heap.size, 0, none⟩) n n) _ _ ⟨by rw [put_defers]; exact s.ds, by rw [tmps_put_size]; exact s.size, _, a1, he.trans a2, ⟨fun f hf => ?_, List.pairwise_cons.2 ⟨fun f hf b hb e => ?_, h3.apart⟩⟩, ?_⟩)
 ·rcases List.mem_cons.1 hf with rfl | hf
  ·refine ⟨n, us.toList, hrow, fun g hg o hgo ho => ?_⟩
   simp [Value.ownBlock] at hg; subst hg
   rcases ho with ho | ⟨_, ho⟩
   ·exact absurd (hw.lt ho) (Nat.lt_irrefl _)
   ·omega
  ·exact h3.ok f hf
 ·simp [Ent.foot, Value.ownBlock] at hb; subst hb
  exact absurd (Ent.foot_lt (hh.ok f hf) e).2 (Nat.lt_irrefl _)
 ·rw [hd]
  refine (hv.keep a2.keeps).put (dst := some d) (by rw [s.size]; exact hn) (.as _ _ (.sl _ _ _ _ _ _ hn' (Nat.le_refl _) (by simp only [maxLen]; omega) ?_))
  exact els_of_cells els 0 hkl (a4 _ h2)
end
abbrev BM (H : List Ent) (e1 k1 e2 k2 d1 d2 : Nat) : Nat → Mem := fun j B a I w => match j with
 | 0 => HeapOk B I w H
 | 1 => HeapOk B I w (.own e1 k1 (a.tmps.getD d1 undef) :: H)
 | _ => HeapOk B I w (.own e2 k2 (a.tmps.getD d2 undef) :: .own e1 k1 (a.tmps.getD d1 undef) :: H)
def OCall (P : Program) (f : FuncId) (xs : List AV) (e k : Nat) (y : AV) : Prop := ∀ H, ACall P f xs H (fun x H' => ∃ v, x = .as y v ∧ H' = .own e k v :: H) (fun _ => False)
section
variable {c : Ctx} {r : Option Nat} {P : Program} {l : List Oper} {Q : Exit → Act → World → Prop}
theorem DP.anyB {env : List (Nat × AV)} {H : List Ent} (e1 k1 : Nat) (y1 : AV) (d1 s1 : Nat) (kk m n : Nat) (hn : c.n = n) (hchk : segChk l kk m = true) (hss : ssChk [s1] kk m = true) (hkm : Nat.ble kk m = true) (hml : Nat.ble m l.length = true) (hlk : (l.all fun o => (looks l o).all fun t => Nat.blt t n) = true)
  (h : TD P (BM H e1 k1 e1 k1 d1 d1) l [s1] c.n kk ((l.drop kk).take (m - kk)) env fun env => envGet env d1 = some y1 ∧ ∀ γ1, DP c r P l Q m ⟨(d1, .as y1 γ1) :: env, .own e1 k1 γ1 :: H⟩) : DP c r P l Q kk ⟨env, H⟩ :=
 DP.anyS (Hs := BM H e1 k1 e1 k1 d1 d1) hchk hss (Nat.le_of_ble_eq_true hkm) (Nat.le_of_ble_eq_true hml) (by rw [hn]; exact hlk) (fun B a I w hh => hh) (h.mono fun env ⟨g1, hd⟩ a w I q1 q2 q3 q4 q5 q6 =>
  hd (a.tmps.getD d1 undef) a w ⟨q1, q2, I, q3, q4, q5, Sat.put1 q6 (.as _ _ (q6 _ _ g1))⟩)
end
section
variable {P : Program} {L rest : List Oper} {ss : List Nat} {n i d : Nat} {o : Oper} {env : List (Nat × AV)} {K : List (Nat × AV) → Prop} {x : AV} {H : List Ent} {e1 k1 e2 k2 d1 d2 : Nat}
theorem OCall.runs {f : FuncId} {xs : List AV} {e k : Nat} {y : AV} {ρ : Nat → Option AV} (hc : CallOk P ρ o f xs) (h : OCall P f xs e k y) (H : List Ent) {B : Nat} {I : Imm} {w : World} {r : Option Nat} {a : Act} (hw : WOk B I w) (hh : HeapOk B I w H) (ho : OpsOk I w ρ a o) :
  Runs P r o a w (fun v w' => ∃ I', WOk B I' w' ∧ Ext B I w I' w' ∧ HeapOk B I' w' (.own e k v :: H) ∧ Rel I' w' y v) (fun _ _ => False) := by
 obtain ⟨vs, h1, h2⟩ := hc.run I w a ho
 obtain ⟨hok, hcall⟩ := h H
 refine Runs.of_enter hc.nodefer (h2 hok) ((hcall B I w vs hw hh h1).mono fun e w' hr => ?_)
 obtain ⟨I', H', hw', he', hh', hr⟩ := hr
 rcases hr with ⟨v, x, rfl, hx, u, rfl, rfl⟩ | ⟨v, x, rfl, _, hE⟩
 ·cases hx with
  | as _ _ hx => exact ⟨I', hw', he', hh', hx⟩
 ·exact hE.elim
theorem TD.popB (hs : stp ss i = 0) (hg : o.guard = none) (hd : o.dst = some d) (hn : Nat.blt d n = true) (hd1 : Nat.beq d d1 = false) (hd2 : Nat.beq d d2 = false) (h : ∀ H, POp P H (envGet env) o x) (next : TD P (BM H e1 k1 e2 k2 d1 d2) L ss n (i + 1) rest ((d, x) :: env) K) : TD P (BM H e1 k1 e2 k2 d1 d2) L ss n i (o :: rest) env K :=
 ⟨x, fun j h1 h2 => by
  rw [hs]
  refine ⟨hg, fun B I w r a hw hm ho hz => ?_⟩
  have p1 : ∀ v, (a.put o.dst v).tmps.getD d1 undef = a.tmps.getD d1 undef := fun v => by rw [hd]; exact tmps_put_other (fun e => by subst e; simp at hd1)
  have p2 : ∀ v, (a.put o.dst v).tmps.getD d2 undef = a.tmps.getD d2 undef := fun v => by rw [hd]; exact tmps_put_other (fun e => by subst e; simp at hd2)
  match j with
  | 0 => exact h _ B I w r a _ hw hm (fun _ h => h) ho
  | 1 =>
   refine (h _ B I w r a _ hw hm (fun _ h => h) ho).mono (fun v w' ⟨I', a1, a2, a3, a4⟩ => ⟨I', a1, a2, ?_, a4⟩) (fun _ _ h => h)
   show HeapOk B I' w' (.own e1 k1 ((a.put o.dst v).tmps.getD d1 undef) :: H)
   rw [p1]; exact a3
  | j + 2 =>
   refine (h _ B I w r a _ hw hm (fun _ h => h) ho).mono (fun v w' ⟨I', a1, a2, a3, a4⟩ => ⟨I', a1, a2, ?_, a4⟩) (fun _ _ h => h)
   show HeapOk B I' w' (.own e2 k2 ((a.put o.dst v).tmps.getD d2 undef) :: .own e1 k1 ((a.put o.dst v).tmps.getD d1 undef) :: H)
   rw [p1, p2]; exact a3, dstOk_of hd hn, by rw [hd]; exact next⟩
theorem TD.own1 {f : FuncId} {xs : List AV} {y : AV} (hh : hiOf L ss i = 0) (hs : stp ss i = 1) (hg : o.guard = none) (hd : o.dst = some d1) (hn : Nat.blt d1 n = true) (hc : CallOk P (envGet env) o f xs) (h : OCall P f xs e1 k1 y)
  (next : TD P (BM H e1 k1 e2 k2 d1 d2) L ss n (i + 1) rest ((d1, y) :: env) K) : TD P (BM H e1 k1 e2 k2 d1 d2) L ss n i (o :: rest) env K :=
 ⟨y, fun j q1 q2 => by
  obtain rfl : j = 0 := by omega
  rw [hs]
  refine ⟨hg, fun B I w r a hw hm ho hzz => ?_⟩
  refine (h.runs hc _ hw hm ho).mono (fun v w' ⟨I', a1, a2, a3, a4⟩ => ⟨I', a1, a2, ?_, a4⟩) (fun _ _ h => h)
  show HeapOk B I' w' (.own e1 k1 ((a.put o.dst v).tmps.getD d1 undef) :: H)
  rw [hd, tmps_put_same (hzz d1 hd)]; exact a3, dstOk_of hd hn, by rw [hd]; exact next⟩
end
end Go.Eng
