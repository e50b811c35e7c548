/- The engine, part 28: append onto a slice whose reading is a weaker one; onto nothing. No condition: general lemmas over any program. -/
import Derived.Test.YtiljpbljebfhnaaGreatPfP4

set_option linter.unusedVariables false
set_option linter.unusedSimpArgs false
namespace Go.Eng
open Go.RowKit (Below)
section
variable {c : Ctx} {r : Option Nat} {P : Program} {ops : Array Oper} {l rest : List Oper} {o : Oper} {st : St} {Q : Exit → Act → World → Prop} {x : AV}
theorem OL.appendOwnLe {y0 : AV} {s z : Operand} {t tx e k by_ k' : Nat} {els news : List (List AV)} {v : Value} {y : AV} {g1 g2 : Bool} {H' : Value → List Ent} [hA : HasApp P t (e, k, by_)] [hX : HasSl P tx k'] (hgd : o.guard = none) (hd : dstOk c.n o.dst = true)
    (h : o.op = .call { callee := .builtin .append, args := #[s, z], argTypes := #[t, tx] }) (hs : aev (envGet st.env) s = some (g1, y0)) (hg1 : g1 = true) (hy0 : AVle y0 (.as (.sl k els) v)) (hz : aev (envGet st.env) z = some (g2, y)) (hg2 : g2 = true) (hy : AVle y (.sl k news))
    (h1 : news.all allOne = true) (hu : ∀ v', Upd st.H (.own e k v) (.own e k v') (H' v')) (hb : (els.length + news.length) * by_ ≤ 140737488355328) (hb' : els.length + news.length ≤ 9223372036854775807)
    (next : ∀ v', OL c r P ops rest ⟨putEnv o.dst (.as (.sl k (els ++ news)) v') st.env, H' v'⟩ Q) : OL c r P ops (o :: rest) st Q := by
  intro a w sat
  refine wpListIn_plain hgd fun K hK => ?_
  obtain ⟨I, hw, he, hh, hv⟩ := sat.mem
  obtain ⟨i, zv, hut, hi, hzz, hsz, hby, hzs, hk0⟩ := appInfo_spec hA.h
  obtain ⟨e', _, hu', _⟩ := slSize_spec hX.h
  have hsv0 := hy0 _ _ _ ((hv.ops o).get (by simp [h, Op.operands, Call.operands]) hs hg1)
  obtain ⟨hsv, hold⟩ : a.eval s = v ∧ Rel I w (.sl k els) v := by
    generalize a.eval s = u at hsv0
    cases hsv0 with
    | as _ _ hx => exact ⟨rfl, hx⟩
  have hzr := hy _ _ _ ((hv.ops o).get (by simp [h, Op.operands, Call.operands]) hz hg2)
  obtain ⟨us, r1, r2⟩ := src_of (P := P) (tx := tx) hu' hzr h1
  rw [← hsz] at r2
  obtain ⟨n, xs, hrow, hni⟩ := hh.ok _ (hu v).mem
  -- what is asked of what comes of it
  suffices hmain : ∃ v' I' w', (Builtin.append_ #[t, tx] o.type #[v, a.eval z]).run P w = .ok v' w' ∧ WOk c.B I' w' ∧ Ext c.B I w I' w' ∧ HeapOk c.B I' w' (H' v') ∧ Rel I' w' (.sl k (els ++ news)) v' by
    obtain ⟨v', I', w', e1, e2, e3, e4, e5⟩ := hmain
    refine Runs.of_value (R := fun x w'' => x = v' ∧ w'' = w') (E := fun _ _ => False) (by simp [h]) (run_appendOp h a w (by rw [hsv]; exact e1)) ⟨rfl, rfl⟩ K Q ?_ (fun _ _ h => h.elim)
    rintro x w'' ⟨rfl, rfl⟩
    refine hK _ _ (next x _ _ ⟨by rw [put_defers]; exact sat.ds, by rw [tmps_put_size]; exact sat.size, I', e2, he.trans e3, e4, ?_⟩)
    exact (hv.keep e3.keeps).put (by rw [sat.size]; exact hd) (.as _ _ e5)
  have hnl := hzr.elsLen
  have hol := hold.elsLen
  -- nothing is appended
  by_cases hn : news.length = 0
  · have hel : news = [] := List.eq_nil_of_length_eq_zero hn
    subst hel
    have hus : us = [] := by cases r1; rfl
    subst hus
    obtain ⟨ad, m, cp, hvv, hle⟩ : ∃ ad m cp, v = .slice ad m cp ∧ m ≤ cp := by
      rcases hrow.2 with ⟨rfl, _⟩ | ⟨g, cap, cur, rfl, _, _, hc, _⟩
      · exact ⟨_, _, _, rfl, Nat.le_refl _⟩
      · exact ⟨_, _, _, rfl, hc⟩
    have hr := run_append_nothing (P := P) w t tx o.type e i hut hi ad m cp hle (a.eval z) r2
    rw [← hvv] at hr
    exact ⟨v, I, w, hr, hw, Ext.refl _ _ _, hh.upd (hu v) ⟨fun _ _ x => x, fun _ _ _ => rfl⟩ (fun _ _ _ => rfl) (fun _ _ x => .inl x) ⟨n, xs, hrow, hni⟩ (fun _ hb => .inl hb), by simpa using hold⟩
  -- a new row
  have grown : ∀ (ad : Option Addr) (m old : Nat) (olds : List Value), m = els.length → RelL I w els.flatten olds → (Builtin.firstCells i.size m (.slice ad m old)).run P w.drew = .ok olds.toArray w.drew → old < m + news.length → v = .slice ad m old →
      ∃ v' I' w', (Builtin.append_ #[t, tx] o.type #[v, a.eval z]).run P w = .ok v' w' ∧ WOk c.B I' w' ∧ Ext c.B I w I' w' ∧ HeapOk c.B I' w' (H' v') ∧ Rel I' w' (.sl k (els ++ news)) v' := by
    intro ad m old olds hm hrel hfc hlt hveq
    subst hm
    have hnc : Builtin.nextslicecap (els.length + news.length) old * i.bytes ≤ 281474976710656 := growslice_fits hlt (by rw [hby]; exact hb)
    have hr := run_append_grow_src (P := P) w t tx o.type e i zv hut hi hzz ad els.length old olds hfc (a.eval z) news.length us r2 hlt (by omega) hnc
    rw [← hveq] at hr
    generalize hG : grownCap w (els.length + news.length) old e = G at hr
    have hge : els.length + news.length ≤ G := by rw [← hG]; exact grownCap_ge w _ old e
    have hcm : G ≤ maxLen := by rw [← hG]; exact grownCap_le_maxLen w _ old e (by simp only [maxLen]; omega)
    generalize hcur : (olds ++ us).toArray ++ Builtin.zeroCells zv.cells (G - (els.length + news.length)) = cur at hr
    have hlo : olds.length = els.length * k := by rw [hrel.length, flatten_len hol]
    have hlu : us.length = news.length * k := by rw [r1.length, flatten_len hnl]
    have hcs : cur.size = G * k := by
      rw [← hcur]
      simp only [Array.size_append, List.size_toArray, List.length_append, size_zeroCells, hzs, hlo, hlu, ← Nat.add_mul]
      congr 1; omega
    have hxlen : (olds ++ us).length = (els.length + news.length) * k := by rw [List.length_append, hlo, hlu, Nat.add_mul]
    have htk : cur.toList.take ((els.length + news.length) * k) = olds ++ us := by
      rw [← hcur, ← hxlen, Array.toList_append]
      exact List.take_left
    -- the first cells become immutable, the spare ones stay private
    have hwd := hw.drew
    let I' : Imm := fun b o => I b o ∨ (b = w.heap.size ∧ o < (els.length + news.length) * k)
    have hkk : Keeps I w I' (w.drew.alloc (.cells cur e)) := ⟨fun _ _ x => .inl x, fun b o x => (keeps_alloc hwd _).cell b o x⟩
    have hnew : (w.drew.alloc (.cells cur e)).heap[w.heap.size]? = some (.cells cur e (0, 0)) := heap_alloc_new w.drew _
    refine ⟨.slice (some ⟨w.heap.size, 0, none⟩) (els.length + news.length) G, I', _, hr, ⟨(hwd.alloc _).base, fun b o hx => ?_⟩, ⟨hkk.imm, hkk.cell, (ext_drew.trans (ext_alloc hwd (.cells cur e))).below⟩, ?_, ?_⟩
    · rcases hx with hx | ⟨rfl, hx⟩
      · exact (hwd.alloc _).there b o hx
      · have : o < cur.size := by rw [hcs]; exact Nat.lt_of_lt_of_le hx (Nat.mul_le_mul_right k hge)
        exact ⟨cur[o], by rw [cell_of_blk hnew]; exact Array.getElem?_eq_getElem this⟩
    · refine hh.upd (hu _) hkk (fun b hlt _ => Below.heap_alloc w.drew _ b hlt) (fun b o hx => hx.elim .inl (fun hx => .inr (.inr (by rw [hx.1]; exact Nat.le_refl _)))) ?_ (fun b hb => .inr ?_)
      · refine ⟨els.length + news.length, olds ++ us, ⟨hxlen, .inr ⟨w.heap.size, G, cur, rfl, hw.base, hnew, hge, hcm, hcs, htk⟩⟩, fun g hg o ho hI => ?_⟩
        simp [Value.ownBlock] at hg; subst hg
        rcases hI with hI | ⟨_, hI⟩
        · exact absurd (hw.lt hI) (Nat.lt_irrefl _)
        · omega
      · simp [Ent.foot, Value.ownBlock] at hb; omega
    · refine .sl _ _ _ _ _ _ (by simp) hge hcm (els_of_cells _ _ (fun x hx => (List.mem_append.1 hx).elim (hol x) (hnl x)) ?_)
      rw [List.flatten_append]
      refine cells_of hnew _ (olds ++ us) 0 ((hrel.append r1).keep hkk) (fun j u hu => ?_) (fun j hj => .inr ⟨rfl, ?_⟩)
      · rw [← htk, List.getElem?_take] at hu
        split at hu
        · simpa using hu
        · cases hu
      · rw [← List.flatten_append, flatten_len (fun x hx => (List.mem_append.1 hx).elim (hol x) (hnl x)), List.length_append] at hj
        omega
  rcases hrow.2 with ⟨hv0, hn0⟩ | ⟨g, cap, cur, hv1, hBg, hg, hnc, hcm, hcs, htake⟩
  · -- from nil
    subst hv0
    have hel : els = [] := by
      cases hold with
      | sl0 => rfl
    subst hel
    exact grown none 0 0 [] rfl .nil (by simp [Builtin.firstCells]) (by simp; omega) rfl
  · subst hv1
    have hnels : n = els.length := by cases hold with
      | sl0 => rfl
      | sl _ _ _ _ _ _ hl _ _ _ => exact hl.symm
    subst hnels
    have hcells : Els I w k g 0 els := by cases hold with
      | sl0 => exact .nil _ _ _
      | sl _ _ _ _ _ _ _ _ _ he => exact he
    obtain ⟨olds, q1, q2, q3⟩ := hcells.values
    have hcl : ∀ j u, olds[j]? = some u → cur[j]? = some u := fun j u hu => by
      have := q3 j u hu
      have e1 : (⟨g, 0, none⟩ : Addr).add j = ⟨g, j, none⟩ := by unfold Addr.add; split <;> simp_all
      rw [e1, cell_of_blk hg] at this
      exact this
    have holds : olds = xs := by
      rw [← htake]
      apply List.ext_getElem?
      intro j
      rw [List.getElem?_take]
      by_cases hj : j < els.length * k
      · rw [if_pos hj]
        have hlt : j < olds.length := by omega
        rw [List.getElem?_eq_getElem hlt]
        have := hcl j _ (List.getElem?_eq_getElem hlt)
        simpa using this.symm
      · rw [if_neg hj, List.getElem?_eq_none (by omega)]
    by_cases hroom : els.length + news.length ≤ cap
    · -- in place
      have hfit : els.length * i.size + us.length ≤ cur.size := by rw [hcs, r2.newsLen, hsz, ← Nat.add_mul]; exact Nat.mul_le_mul_right _ hroom
      have hlu : us.length = news.length * k := by rw [r1.length, flatten_len hnl]
      have hst := run_storeCells_at P g (els.length * i.size) e us 0 cur w hg (by simpa using hfit) r2.one
      simp only [Nat.add_zero] at hst
      have hr : (Builtin.append_ #[t, tx] o.type #[.slice (some ⟨g, 0, none⟩) els.length cap, a.eval z]).run P w = .ok (.slice (some ⟨g, 0, none⟩) (els.length + news.length) cap) (w.setRow g (cur.toList.take (els.length * i.size) ++ us ++ cur.toList.drop (els.length * i.size + us.length)).toArray) := by
        rcases r2.kind with ⟨e'', hk⟩ | hk <;> simp [Builtin.append_, run_underlying hut, run_underlying hk, sizeOf, typeInfo, hi, r2.len, hroom, r2.cells, Addr.add_lit, hst]
      rw [hsz] at hr
      generalize hcur' : (cur.toList.take (els.length * k) ++ us ++ cur.toList.drop (els.length * k + us.length)).toArray = cur' at hr
      have hblk : (w.setRow g cur').heap[g]? = some (.cells cur' e (0, 0)) := setRow_heap w g cur cur' e (0, 0) hg
      let I' : Imm := fun b o => I b o ∨ (b = g ∧ o < (els.length + news.length) * k)
      have hcs' : cur'.size = cap * k := by
        rw [← hcur']
        simp only [List.size_toArray, List.length_append, List.length_take, List.length_drop, Array.length_toList]
        rw [hsz] at hfit
        omega
      have htk' : cur'.toList.take ((els.length + news.length) * k) = xs ++ us := by
        rw [← hcur', htake]
        have : (els.length + news.length) * k = (xs ++ us).length := by rw [List.length_append, hrow.1, hlu, Nat.add_mul]
        rw [this]
        exact List.take_left
      have hold' : ∀ j, j < els.length * k → cur'[j]? = cur[j]? := fun j hj => by
        rw [← hcur']
        have h0 : j < cur.size := by rw [hcs]; exact Nat.lt_of_lt_of_le hj (Nat.mul_le_mul_right k hnc)
        simp only [List.getElem?_toArray]
        rw [List.append_assoc, List.getElem?_append_left (by simp; omega), List.getElem?_take, if_pos hj]
        simp
      have hkk : Keeps I w I' (w.setRow g cur') := ⟨fun _ _ x => .inl x, fun b o x => by
        by_cases hb : b = g
        · subst hb
          have ho : o < els.length * k := Nat.lt_of_not_le fun hle => hni b rfl o hle x
          rw [cell_of_blk hblk, cell_of_blk hg]
          exact hold' o ho
        · exact World.cell?_of_block (a := ⟨b, o, none⟩) (setRow_other w g b cur' hb)⟩
      refine ⟨_, I', _, hr, ⟨by simpa using hw.base, fun b o hx => ?_⟩, ⟨hkk.imm, hkk.cell, ⟨rfl, rfl, rfl, by simp, fun j hj => setRow_other w g j cur' (by omega)⟩⟩, ?_, ?_⟩
      · rcases hx with hx | ⟨rfl, hx⟩
        · rw [hkk.cell b o hx]; exact hw.there b o hx
        · have : o < cur'.size := by rw [hcs']; exact Nat.lt_of_lt_of_le hx (Nat.mul_le_mul_right k hroom)
          exact ⟨cur'[o], by rw [cell_of_blk hblk]; exact Array.getElem?_eq_getElem this⟩
      · refine hh.upd (hu _) hkk (fun b hlt hne => setRow_other w g b cur' (fun e => hne (by subst e; rfl))) (fun b o hx => hx.elim .inl (fun hx => .inr (.inl (by rw [hx.1]; rfl)))) ?_ (fun b hb => .inl hb)
        refine ⟨els.length + news.length, xs ++ us, ⟨by rw [List.length_append, hrow.1, hlu, Nat.add_mul], .inr ⟨g, cap, cur', rfl, hBg, hblk, hroom, hcm, hcs', htk'⟩⟩, fun g' hg' o ho hI => ?_⟩
        simp [Value.ownBlock] at hg'; subst hg'
        rcases hI with hI | ⟨_, hI⟩
        · exact hni g rfl o (Nat.le_trans (Nat.mul_le_mul_right k (by omega)) ho) hI
        · omega
      · refine .sl _ _ _ _ _ _ (by simp) hroom hcm (els_of_cells _ _ (fun x hx => (List.mem_append.1 hx).elim (hol x) (hnl x)) ?_)
        rw [List.flatten_append]
        rw [holds] at q1
        refine cells_of hblk _ (xs ++ us) 0 ((q1.append r1).keep hkk) (fun j u hu => ?_) (fun j hj => .inr ⟨rfl, ?_⟩)
        · rw [← htk', List.getElem?_take] at hu
          split at hu
          · simpa using hu
          · cases hu
        · rw [← List.flatten_append, flatten_len (fun x hx => (List.mem_append.1 hx).elim (hol x) (hnl x)), List.length_append] at hj
          omega
    · refine grown (some ⟨g, 0, none⟩) els.length cap olds rfl q1 ?_ (by omega) rfl
      rw [hsz]
      exact run_firstCells_some w.drew k els.length ⟨g, 0, none⟩ els.length cap olds q2 (by simpa using q3)

end
section
variable {c : Ctx} {r : Option Nat} {P : Program} {ops : Array Oper} {rest : List Oper} {o : Oper} {env : List (Nat × AV)} {H : List Ent} {Q : Exit → Act → World → Prop} {d : Nat}
theorem AVle_asNil (k : Nat) : AVle (.val (.slice none 0 0)) (.as (.sl k []) (.slice none 0 0)) := fun I w v h => by
  cases h; exact .as _ _ (.sl0 _ _ _)
/-- append onto nothing: a list onto which more may be appended -/
theorem OL.appendNil {s z : Operand} {t tx e k by_ k' : Nat} {news : List (List AV)} {y : AV} {g1 g2 : Bool} [hA : HasApp P t (e, k, by_)] [hX : HasSl P tx k'] (hgd : o.guard = none) (hd : o.dst = some d) (hn : Nat.blt d c.n = true)
    (h : o.op = .call { callee := .builtin .append, args := #[s, z], argTypes := #[t, tx] }) (hs : aev (envGet env) s = some (g1, .val (.slice none 0 0))) (hg1 : g1 = true) (hz : aev (envGet env) z = some (g2, y)) (hg2 : g2 = true) (hy : AVle y (.sl k news))
    (h1 : news.all allOne = true) (hb : news.length * by_ ≤ 140737488355328) (hb' : news.length ≤ 9223372036854775807)
    (next : ∀ v', OL c r P ops rest ⟨(d, .as (.sl k news) v') :: env, .own e k v' :: H⟩ Q) : OL c r P ops (o :: rest) ⟨env, H⟩ Q := by
  intro a w sat
  obtain ⟨I, hw, he, hh, hv⟩ := sat.mem
  have sat' : Sat c ⟨env, .own e k (.slice none 0 0) :: H⟩ a w := ⟨sat.ds, sat.size, I, hw, he, ⟨fun f hf => by
    rcases List.mem_cons.1 hf with rfl | hf
    · exact ⟨0, [], World.ownsRow_nil _ _ _ _, fun g hg => by simp [Value.ownBlock] at hg⟩
    · exact hh.ok f hf, List.pairwise_cons.2 ⟨fun f hf b hb => by simp [Ent.foot, Value.ownBlock] at hb, hh.apart⟩⟩, hv⟩
  refine OL.appendOwnLe (els := []) (v := .slice none 0 0) (H' := fun v' => .own e k v' :: H) hgd (dstOk_of hd hn) h hs hg1 (AVle_asNil k) hz hg2 hy h1 (fun v' => .head _ _ _) (by simpa using hb) (by simpa using hb') (fun v' => ?_) a w sat'
  rw [hd]
  exact next v'
end
end Go.Eng

/- The engine, part 30: several new variables that are made and set among operations in whatever order. No condition: general lemmas over any program. -/
set_option linter.unusedVariables false
set_option linter.unusedSimpArgs false
namespace Go.Eng
open Go.RowKit (Below)

/-- which operations an operation waits for, has been shown -/
def ShutS (l : List Oper) (S : Nat → Bool) : Prop := ∀ i oi, l[i]? = some oi → S i = true → ∀ j, ((masks l []).getD i 0).testBit j = true → S j = true
def addS (S : Nat → Bool) (i : Nat) : Nat → Bool := fun j => if j = i then true else S j
def UOk (P : Program) (M : (Nat → Bool) → Mem) (l : List Oper) (i : Nat) (env : List (Nat × AV)) (o : Oper) (x : AV) : Prop :=
  ∀ S, ShutS l S → (∀ j, ((masks l []).getD i 0).testBit j = true → S j = true) → S i = false → EOk P (M S) (M (addS S i)) l env o x
def UD (P : Program) (M : (Nat → Bool) → Mem) (l : List Oper) (n : Nat) : Nat → List Oper → List (Nat × AV) → (List (Nat × AV) → Prop) → Prop
  | _, [], env, K => K env
  | i, o :: rest, env, K => ∃ x, UOk P M l i env o x ∧ dstOk n o.dst = true ∧ UD P M l n (i + 1) rest (putEnv o.dst x env) K
section
variable {c : Ctx} {r : Option Nat} {P : Program} {l : List Oper} {st : St} {Q : Exit → Act → World → Prop}
end

/-- a variable: the operation that makes it, its temporary, its type, the cells that it begins with, the operation that sets it, what it is set to -/
structure VS where
  e : Nat
  d : Nat
  t : TypeId
  zs : List Value
  s : Nat
  ys : List AV
def VS.ent (S : Nat → Bool) (bs : Nat → Nat) (v : VS) : Option Ent := if S v.e then some (.blk (bs v.d) v.t (if S v.s then v.ys else v.zs.map .val)) else none
def VS.ents (S : Nat → Bool) (bs : Nat → Nat) (vs : List VS) : List Ent := vs.filterMap (VS.ent S bs)
def VM (H : List Ent) (vs : List VS) (S : Nat → Bool) : Mem := fun B a I w =>
  ∃ bs : Nat → Nat, (∀ v ∈ vs, S v.e = true → a.tmps.getD v.d undef = .pointer (some ⟨bs v.d, 0, none⟩)) ∧ HeapOk B I w (VS.ents S bs vs ++ H)
theorem Upd.under {e e' : Ent} {H : List Ent} : ∀ (X : List Ent), Upd (X ++ e :: H) e e' (X ++ e' :: H)
  | [] => .head _ _ _
  | f :: X => .tail _ _ _ _ _ (Upd.under X)

section
variable {c : Ctx} {r : Option Nat} {P : Program} {l : List Oper} {Q : Exit → Act → World → Prop}
theorem EnvOk.vars {I : Imm} {w : World} {a : Act} {env : List (Nat × AV)} {bs : Nat → Nat} (h : EnvOk I w (envGet env) a) : ∀ (vs : List VS), (∀ v ∈ vs, a.tmps.getD v.d undef = .pointer (some ⟨bs v.d, 0, none⟩)) → EnvOk I w (envGet (vs.map (fun v => (v.d, AV.p (bs v.d) 0)) ++ env)) a
  | [], _ => h
  | v :: r, hv => fun t x hx => by
    rw [List.map_cons, List.cons_append, envGet_cons] at hx
    split at hx
    · rename_i e
      cases hx
      subst e
      rw [hv v (.head _)]; exact .val _
    · exact EnvOk.vars h r (fun u hu => hv u (.tail _ hu)) t x hx
end
section
variable {P : Program} {L rest : List Oper} {vs : List VS} {n i d : Nat} {o : Oper} {env : List (Nat × AV)} {K : List (Nat × AV) → Prop} {x : AV} {H : List Ent}
theorem UD.nil {M : (Nat → Bool) → Mem} (h : K env) : UD P M L n i [] env K := h
end
end Go.Eng

/- The engine, part 31: slice literals of many cells. No condition: general lemmas over any program. -/
set_option linter.unusedVariables false
namespace Go.Eng
section
variable {P : Program} {H : List Ent} {ρ : Nat → Option AV} {o : Oper}
end
end Go.Eng

/- The engine, part 32: lists and variables that are made among operations in whatever order. No condition: general lemmas over any program. -/
set_option linter.unusedVariables false
set_option linter.unusedSimpArgs false
namespace Go.Eng
open Go.RowKit (Below)

def blkOf : Value → Nat
  | .pointer (some a) => a.block
  | _ => 0
/-- a list that a call makes, or a variable: the operation, its temporary, what lies there -/
inductive ES where
  | own (i d e k : Nat) (y : AV)
  | al (i d : Nat) (t : TypeId) (zs : List Value)
def ES.i : ES → Nat
  | .own i _ _ _ _ => i
  | .al i _ _ _ => i
def ES.d : ES → Nat
  | .own _ d _ _ _ => d
  | .al _ d _ _ => d
def ES.en : ES → Value → Ent
  | .own _ _ e k _, v => .own e k v
  | .al _ _ t zs, v => .blk (blkOf v) t (zs.map .val)
def ES.okE : ES → Value → Prop
  | .own _ _ _ _ _, _ => True
  | .al _ _ _ _, v => v = .pointer (some ⟨blkOf v, 0, none⟩)
def ES.av : ES → Value → AV
  | .own _ _ _ _ y, v => .as y v
  | .al _ _ _ _, v => .p (blkOf v) 0
def ES.y : ES → AV
  | .own _ _ _ _ y => y
  | .al _ _ _ _ => .any
def ES.mem (S : Nat → Bool) (f : Nat → Value) (es : List ES) : List Ent := es.filterMap fun s => if S s.i then some (s.en (f s.d)) else none
/-- a value that is made of them: the operation, its temporary, of which temporaries, how -/
structure LS where
  i : Nat
  d : Nat
  ds : List Nat
  x : List Value → AV
theorem EnvOk.made {I : Imm} {w : World} {a : Act} {env : List (Nat × AV)} (h : EnvOk I w (envGet env) a) : ∀ (es : List ES), (∀ s ∈ es, s.okE (a.tmps.getD s.d undef) ∧ envGet env s.d = some s.y) → EnvOk I w (envGet (es.map (fun s => (s.d, s.av (a.tmps.getD s.d undef))) ++ env)) a
  | [], _ => h
  | s :: r, hv => fun t x hx => by
    rw [List.map_cons, List.cons_append, envGet_cons] at hx
    split at hx
    · rename_i e
      cases hx
      subst e
      have h1 := hv s (.head _)
      cases s with
      | own i d e k y => exact .as _ _ (h d y h1.2)
      | al i d t zs =>
        have h2 : a.tmps.getD d undef = .pointer (some ⟨blkOf (a.tmps.getD d undef), 0, none⟩) := h1.1
        show Rel I w (.p (blkOf (a.tmps.getD d undef)) 0) (a.tmps.getD d undef)
        generalize a.tmps.getD d undef = v at h2
        rw [h2]; exact .val _
    · exact EnvOk.made h r (fun u hu => hv u (.tail _ hu)) t x hx
section
variable {c : Ctx} {r : Option Nat} {P : Program} {l : List Oper} {Q : Exit → Act → World → Prop}
end
section
variable {P : Program} {L rest : List Oper} {es : List ES} {ls : List LS} {n i d : Nat} {o : Oper} {env : List (Nat × AV)} {K : List (Nat × AV) → Prop} {x : AV} {H : List Ent}
end
end Go.Eng
