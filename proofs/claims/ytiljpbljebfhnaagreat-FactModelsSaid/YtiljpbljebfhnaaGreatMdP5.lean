/- Part 5 of the proof: contracts of functions of the program and what they need. No condition beyond those that each theorem names. -/
import Derived.Test.YtiljpbljebfhnaaGreatMdP4
import Derived.Laws.StructEq
import Derived.ChangeKeysEq
import Derived.Deep.AppendSrc
set_option linter.unusedVariables false
set_option linter.unusedSimpArgs false
namespace Go.Eng
open Go.RowKit (Below)
section
variable {c : Ctx} {r : Option Nat} {P : Program} {ops : Array Oper} {l rest : List Oper} {o : Oper} {st : St} {Q : Exit → Act → World → Prop} {x : AV}
theorem OL.appendOwnLe {y0 : AV} {s z : Operand} {t tx e k by_ k' : Nat} {els news : List (List AV)} {v : Value} {y : AV} {g1 g2 : Bool} {H' : Value → List Ent} [hA : HasApp P t (e, k, by_)] [hX : HasSl P tx k'] (hgd : o.guard = none) (hd : dstOk c.n o.dst = true)
  (h : o.op = .call { callee := .builtin .append, args := #[s, z], argTypes := #[t, tx] }) (hs : aev (envGet st.env) s = some (g1, y0)) (hg1 : g1 = true) (hy0 : AVle y0 (.as (.sl k els) v)) (hz : aev (envGet st.env) z = some (g2, y)) (hg2 : g2 = true) (hy : AVle y (.sl k news))
  (h1 : news.all allOne = true) (hu : ∀ v', Upd st.H (.own e k v) (.own e k v') (H' v')) (hb : (els.length + news.length) * by_ ≤ 140737488355328) (hb' : els.length + news.length ≤ 9223372036854775807)
  (next : ∀ v', OL c r P ops rest ⟨putEnv o.dst (.as (.sl k (els ++ news)) v') st.env, H' v'⟩ Q) : OL c r P ops (o :: rest) st Q := by
 intro a w sat
 refine wpListIn_plain hgd fun K hK => ?_
 obtain ⟨I, hw, he, hh, hv⟩ := sat.mem
 obtain ⟨i, zv, hut, hi, hzz, hsz, hby, hzs, hk0⟩ := appInfo_spec hA.h
 obtain ⟨e', _, hu', _⟩ := slSize_spec hX.h
 have hsv0 := hy0 _ _ _ ((hv.ops o).get (by simp [h, Op.operands, Call.operands]) hs hg1)
 obtain ⟨hsv, hold⟩ : a.eval s = v ∧ Rel I w (.sl k els) v := by
  generalize a.eval s = u at hsv0
  cases hsv0 with
  | as _ _ hx => exact ⟨rfl, hx⟩
 have hzr := hy _ _ _ ((hv.ops o).get (by simp [h, Op.operands, Call.operands]) hz hg2)
 obtain ⟨us, r1, r2⟩ := src_of (P := P) (tx := tx) hu' hzr h1
 rw [← hsz] at r2
 obtain ⟨n, xs, hrow, hni⟩ := hh.ok _ (hu v).mem
 suffices hmain : ∃ v' I' w', (Builtin.append_ #[t, tx] o.type #[v, a.eval z]).run P w = .ok v' w' ∧ WOk c.B I' w' ∧ Ext c.B I w I' w' ∧ HeapOk c.B I' w' (H' v') ∧ Rel I' w' (.sl k (els ++ news)) v' by
  obtain ⟨v', I', w', e1, e2, e3, e4, e5⟩ := hmain
  refine Runs.of_value (R := fun x w'' => x = v' ∧ w'' = w') (E := fun _ _ => False) (by simp [h]) (run_appendOp h a w (by rw [hsv]; exact e1)) ⟨rfl, rfl⟩ K Q ?_ (fun _ _ h => h.elim)
  rintro x w'' ⟨rfl, rfl⟩
  refine hK _ _ (next x _ _ ⟨by rw [put_defers]; exact sat.ds, by rw [tmps_put_size]; exact sat.size, I', e2, he.trans e3, e4, ?_⟩)
  exact (hv.keep e3.keeps).put (by rw [sat.size]; exact hd) (.as _ _ e5)
 have hnl := hzr.elsLen
 have hol := hold.elsLen
 by_cases hn : news.length = 0
 ·have hel : news = [] := List.eq_nil_of_length_eq_zero hn
  subst hel
  have hus : us = [] := by cases r1; rfl
  subst hus
  obtain ⟨ad, m, cp, hvv, hle⟩ : ∃ ad m cp, v = .slice ad m cp ∧ m ≤ cp := by
   rcases hrow.2 with ⟨rfl, _⟩ | ⟨g, cap, cur, rfl, _, _, hc, _⟩
   ·exact ⟨_, _, _, rfl, Nat.le_refl _⟩
   ·exact ⟨_, _, _, rfl, hc⟩
  have hr := run_append_nothing (P := P) w t tx o.type e i hut hi ad m cp hle (a.eval z) r2
  rw [← hvv] at hr
  exact ⟨v, I, w, hr, hw, Ext.refl _ _ _, hh.upd (hu v) ⟨fun _ _ x => x, fun _ _ _ => rfl⟩ (fun _ _ _ => rfl) (fun _ _ x => .inl x) ⟨n, xs, hrow, hni⟩ (fun _ hb => .inl hb), by simpa using hold⟩
 have grown : ∀ (ad : Option Addr) (m old : Nat) (olds : List Value), m = els.length → RelL I w els.flatten olds → (Builtin.firstCells i.size m (.slice ad m old)).run P w.drew = .ok olds.toArray w.drew → old < m + news.length → v = .slice ad m old →
   ∃ v' I' w', (Builtin.append_ #[t, tx] o.type #[v, a.eval z]).run P w = .ok v' w' ∧ WOk c.B I' w' ∧ Ext c.B I w I' w' ∧ HeapOk c.B I' w' (H' v') ∧ Rel I' w' (.sl k (els ++ news)) v' := by
  intro ad m old olds hm hrel hfc hlt hveq
  subst hm
  have hnc : Builtin.nextslicecap (els.length + news.length) old * i.bytes ≤ 281474976710656 := growslice_fits hlt (by rw [hby]; exact hb)
  have hr := run_append_grow_src (P := P) w t tx o.type e i zv hut hi hzz ad els.length old olds hfc (a.eval z) news.length us r2 hlt (by omega) hnc
  rw [← hveq] at hr
  generalize hG : grownCap w (els.length + news.length) old e = G at hr
  have hge : els.length + news.length ≤ G := by rw [← hG]; exact grownCap_ge w _ old e
  have hcm : G ≤ maxLen := by rw [← hG]; exact grownCap_le_maxLen w _ old e (by simp only [maxLen]; omega)
  generalize hcur : (olds ++ us).toArray ++ Builtin.zeroCells zv.cells (G - (els.length + news.length)) = cur at hr
  have hlo : olds.length = els.length * k := by rw [hrel.length, flatten_len hol]
  have hlu : us.length = news.length * k := by rw [r1.length, flatten_len hnl]
  have hcs : cur.size = G * k := by
   rw [← hcur]
   simp only [Array.size_append, List.size_toArray, List.length_append, size_zeroCells, hzs, hlo, hlu, ← Nat.add_mul]
   congr 1; omega
  have hxlen : (olds ++ us).length = (els.length + news.length) * k := by rw [List.length_append, hlo, hlu, Nat.add_mul]
  have htk : cur.toList.take ((els.length + news.length) * k) = olds ++ us := by
   rw [← hcur, ← hxlen, Array.toList_append]
   exact List.take_left
  have hwd := hw.drew
  let I' : Imm := fun b o => I b o ∨ (b = w.heap.size ∧ o < (els.length + news.length) * k)
  have hkk : Keeps I w I' (w.drew.alloc (.cells cur e)) := ⟨fun _ _ x => .inl x, fun b o x => (keeps_alloc hwd _).cell b o x⟩
  have hnew : (w.drew.alloc (.cells cur e)).heap[w.heap.size]? = some (.cells cur e (0, 0)) := heap_alloc_new w.drew _
  refine ⟨.slice (some ⟨w.heap.size, 0, none⟩) (els.length + news.length) G, I', _, hr, ⟨(hwd.alloc _).base, fun b o hx => ?_⟩, ⟨hkk.imm, hkk.cell, (ext_drew.trans (ext_alloc hwd (.cells cur e))).below⟩, ?_, ?_⟩
  ·rcases hx with hx | ⟨rfl, hx⟩
   ·exact (hwd.alloc _).there b o hx
   ·have : o < cur.size := by rw [hcs]; exact Nat.lt_of_lt_of_le hx (Nat.mul_le_mul_right k hge)
    exact ⟨cur[o], by rw [cell_of_blk hnew]; exact Array.getElem?_eq_getElem this⟩
  ·refine hh.upd (hu _) hkk (fun b hlt _ => Below.heap_alloc w.drew _ b hlt) (fun b o hx => hx.elim .inl (fun hx => .inr (.inr (by rw [hx.1]; exact Nat.le_refl _)))) ?_ (fun b hb => .inr ?_)
   ·refine ⟨els.length + news.length, olds ++ us, ⟨hxlen, .inr ⟨w.heap.size, G, cur, rfl, hw.base, hnew, hge, hcm, hcs, htk⟩⟩, fun g hg o ho hI => ?_⟩
    simp [Value.ownBlock] at hg; subst hg
    rcases hI with hI | ⟨_, hI⟩
    ·exact absurd (hw.lt hI) (Nat.lt_irrefl _)
    ·omega
   ·simp [Ent.foot, Value.ownBlock] at hb; omega
  ·refine .sl _ _ _ _ _ _ (by simp) hge hcm (els_of_cells _ _ (fun x hx => (List.mem_append.1 hx).elim (hol x) (hnl x)) ?_)
   rw [List.flatten_append]
   refine cells_of hnew _ (olds ++ us) 0 ((hrel.append r1).keep hkk) (fun j u hu => ?_) (fun j hj => .inr ⟨rfl, ?_⟩)
   ·rw [← htk, List.getElem?_take] at hu
    split at hu
    ·simpa using hu
    ·cases hu
   ·rw [← List.flatten_append, flatten_len (fun x hx => (List.mem_append.1 hx).elim (hol x) (hnl x)), List.length_append] at hj
    omega
 rcases hrow.2 with ⟨hv0, hn0⟩ | ⟨g, cap, cur, hv1, hBg, hg, hnc, hcm, hcs, htake⟩
 ·-- from nil
  subst hv0
  have hel : els = [] := by
   cases hold with
   | sl0 => rfl
  subst hel
  exact grown none 0 0 [] rfl .nil (by simp [Builtin.firstCells]) (by simp; omega) rfl
 ·subst hv1
  have hnels : n = els.length := by cases hold with
   | sl0 => rfl
   | sl _ _ _ _ _ _ hl _ _ _ => exact hl.symm
  subst hnels
  have hcells : Els I w k g 0 els := by cases hold with
   | sl0 => exact .nil _ _ _
   | sl _ _ _ _ _ _ _ _ _ he => exact he
  obtain ⟨olds, q1, q2, q3⟩ := hcells.values
  have hcl : ∀ j u, olds[j]? = some u → cur[j]? = some u := fun j u hu => by
   have := q3 j u hu
   have e1 : (⟨g, 0, none⟩ : Addr).add j = ⟨g, j, none⟩ := by unfold Addr.add; split <;> simp_all
   rw [e1, cell_of_blk hg] at this
   exact this
  have holds : olds = xs := by
   rw [← htake]
   apply List.ext_getElem?
   intro j
   rw [List.getElem?_take]
   by_cases hj : j < els.length * k
   ·rw [if_pos hj]
    have hlt : j < olds.length := by omega
    rw [List.getElem?_eq_getElem hlt]
    have := hcl j _ (List.getElem?_eq_getElem hlt)
    simpa using this.symm
   ·rw [if_neg hj, List.getElem?_eq_none (by omega)]
  by_cases hroom : els.length + news.length ≤ cap
  ·-- in place
   have hfit : els.length * i.size + us.length ≤ cur.size := by rw [hcs, r2.newsLen, hsz, ← Nat.add_mul]; exact Nat.mul_le_mul_right _ hroom
   have hlu : us.length = news.length * k := by rw [r1.length, flatten_len hnl]
   have hst := run_storeCells_at P g (els.length * i.size) e us 0 cur w hg (by simpa using hfit) r2.one
   simp only [Nat.add_zero] at hst
   have hr : (Builtin.append_ #[t, tx] o.type #[.slice (some ⟨g, 0, none⟩) els.length cap, a.eval z]).run P w = .ok (.slice (some ⟨g, 0, none⟩) (els.length + news.length) cap) (w.setRow g (cur.toList.take (els.length * i.size) ++ us ++ cur.toList.drop (els.length * i.size + us.length)).toArray) := by
    rcases r2.kind with ⟨e'', hk⟩ | hk <;> simp [Builtin.append_, run_underlying hut, run_underlying hk, sizeOf, typeInfo, hi, r2.len, hroom, r2.cells, Addr.add_lit, hst]
   rw [hsz] at hr
   generalize hcur' : (cur.toList.take (els.length * k) ++ us ++ cur.toList.drop (els.length * k + us.length)).toArray = cur' at hr
   have hblk : (w.setRow g cur').heap[g]? = some (.cells cur' e (0, 0)) := setRow_heap w g cur cur' e (0, 0) hg
   let I' : Imm := fun b o => I b o ∨ (b = g ∧ o < (els.length + news.length) * k)
   have hcs' : cur'.size = cap * k := by
    rw [← hcur']
    simp only [List.size_toArray, List.length_append, List.length_take, List.length_drop, Array.length_toList]
    rw [hsz] at hfit
    omega
   have htk' : cur'.toList.take ((els.length + news.length) * k) = xs ++ us := by
    rw [← hcur', htake]
    have : (els.length + news.length) * k = (xs ++ us).length := by rw [List.length_append, hrow.1, hlu, Nat.add_mul]
    rw [this]
    exact List.take_left
   have hold' : ∀ j, j < els.length * k → cur'[j]? = cur[j]? := fun j hj => by
    rw [← hcur']
    have h0 : j < cur.size := by rw [hcs]; exact Nat.lt_of_lt_of_le hj (Nat.mul_le_mul_right k hnc)
    simp only [List.getElem?_toArray]
    rw [List.append_assoc, List.getElem?_append_left (by simp; omega), List.getElem?_take, if_pos hj]
    simp
   have hkk : Keeps I w I' (w.setRow g cur') := ⟨fun _ _ x => .inl x, fun b o x => by
    by_cases hb : b = g
    ·subst hb
     have ho : o < els.length * k := Nat.lt_of_not_le fun hle => hni b rfl o hle x
     rw [cell_of_blk hblk, cell_of_blk hg]
     exact hold' o ho
    ·exact World.cell?_of_block (a := ⟨b, o, none⟩) (setRow_other w g b cur' hb)⟩
   refine ⟨_, I', _, hr, ⟨by simpa using hw.base, fun b o hx => ?_⟩, ⟨hkk.imm, hkk.cell, ⟨rfl, rfl, rfl, by simp, fun j hj => setRow_other w g j cur' (by omega)⟩⟩, ?_, ?_⟩
   ·rcases hx with hx | ⟨rfl, hx⟩
    ·rw [hkk.cell b o hx]; exact hw.there b o hx
    ·have : o < cur'.size := by rw [hcs']; exact Nat.lt_of_lt_of_le hx (Nat.mul_le_mul_right k hroom)
     exact ⟨cur'[o], by rw [cell_of_blk hblk]; exact Array.getElem?_eq_getElem this⟩
   ·refine hh.upd (hu _) hkk (fun b hlt hne => setRow_other w g b cur' (fun e => hne (by subst e; rfl))) (fun b o hx => hx.elim .inl (fun hx => .inr (.inl (by rw [hx.1]; rfl)))) ?_ (fun b hb => .inl hb)
    refine ⟨els.length + news.length, xs ++ us, ⟨by rw [List.length_append, hrow.1, hlu, Nat.add_mul], .inr ⟨g, cap, cur', rfl, hBg, hblk, hroom, hcm, hcs', htk'⟩⟩, fun g' hg' o ho hI => ?_⟩
    simp [Value.ownBlock] at hg'; subst hg'
    rcases hI with hI | ⟨_, hI⟩
    ·exact hni g rfl o (Nat.le_trans (Nat.mul_le_mul_right k (by omega)) ho) hI
    ·omega
   ·refine .sl _ _ _ _ _ _ (by simp) hroom hcm (els_of_cells _ _ (fun x hx => (List.mem_append.1 hx).elim (hol x) (hnl x)) ?_)
    rw [List.flatten_append]
    rw [holds] at q1
    refine cells_of hblk _ (xs ++ us) 0 ((q1.append r1).keep hkk) (fun j u hu => ?_) (fun j hj => .inr ⟨rfl, ?_⟩)
    ·rw [← htk', List.getElem?_take] at hu
     split at hu
     ·simpa using hu
     ·cases hu
    ·rw [← List.flatten_append, flatten_len (fun x hx => (List.mem_append.1 hx).elim (hol x) (hnl x)), List.length_append] at hj
     omega
  ·refine grown (some ⟨g, 0, none⟩) els.length cap olds rfl q1 ?_ (by omega) rfl
   rw [hsz]
   exact run_firstCells_some w.drew k els.length ⟨g, 0, none⟩ els.length cap olds q2 (by simpa using q3)
end
section
variable {c : Ctx} {r : Option Nat} {P : Program} {ops : Array Oper} {rest : List Oper} {o : Oper} {env : List (Nat × AV)} {H : List Ent} {Q : Exit → Act → World → Prop} {d : Nat}
theorem AVle_asNil (k : Nat) : AVle (.val (.slice none 0 0)) (.as (.sl k []) (.slice none 0 0)) := fun I w v h => by
 cases h; exact .as _ _ (.sl0 _ _ _)
theorem OL.appendNil {s z : Operand} {t tx e k by_ k' : Nat} {news : List (List AV)} {y : AV} {g1 g2 : Bool} [hA : HasApp P t (e, k, by_)] [hX : HasSl P tx k'] (hgd : o.guard = none) (hd : o.dst = some d) (hn : Nat.blt d c.n = true)
  (h : o.op = .call { callee := .builtin .append, args := #[s, z], argTypes := #[t, tx] }) (hs : aev (envGet env) s = some (g1, .val (.slice none 0 0))) (hg1 : g1 = true) (hz : aev (envGet env) z = some (g2, y)) (hg2 : g2 = true) (hy : AVle y (.sl k news))
  (h1 : news.all allOne = true) (hb : news.length * by_ ≤ 140737488355328) (hb' : news.length ≤ 9223372036854775807)
  (next : ∀ v', OL c r P ops rest ⟨(d, .as (.sl k news) v') :: env, .own e k v' :: H⟩ Q) : OL c r P ops (o :: rest) ⟨env, H⟩ Q := by
 intro a w sat
 obtain ⟨I, hw, he, hh, hv⟩ := sat.mem
 have sat' : Sat c ⟨env, .own e k (.slice none 0 0) :: H⟩ a w := ⟨sat.ds, sat.size, I, hw, he, ⟨fun f hf => by
  rcases List.mem_cons.1 hf with rfl | hf
  ·exact ⟨0, [], World.ownsRow_nil _ _ _ _, fun g hg => by simp [Value.ownBlock] at hg⟩
  ·exact hh.ok f hf, List.pairwise_cons.2 ⟨fun f hf b hb => by simp [Ent.foot, Value.ownBlock] at hb, hh.apart⟩⟩, hv⟩
 refine OL.appendOwnLe (els := []) (v := .slice none 0 0) (H' := fun v' => .own e k v' :: H) hgd (dstOk_of hd hn) h hs hg1 (AVle_asNil k) hz hg2 hy h1 (fun v' => .head _ _ _) (by simpa using hb) (by simpa using hb') (fun v' => ?_) a w sat'
 rw [hd]
 exact next v'
end
def ShutS (l : List Oper) (S : Nat → Bool) : Prop := ∀ i oi, l[i]? = some oi → S i = true → ∀ j, ((masks l []).getD i 0).testBit j = true → S j = true
def addS (S : Nat → Bool) (i : Nat) : Nat → Bool := fun j => if j = i then true else S j
def UOk (P : Program) (M : (Nat → Bool) → Mem) (l : List Oper) (i : Nat) (env : List (Nat × AV)) (o : Oper) (x : AV) : Prop :=
 ∀ S, ShutS l S → (∀ j, ((masks l []).getD i 0).testBit j = true → S j = true) → S i = false → EOk P (M S) (M (addS S i)) l env o x
def UD (P : Program) (M : (Nat → Bool) → Mem) (l : List Oper) (n : Nat) : Nat → List Oper → List (Nat × AV) → (List (Nat × AV) → Prop) → Prop
 | _, [], env, K => K env
 | i, o :: rest, env, K => ∃ x, UOk P M l i env o x ∧ dstOk n o.dst = true ∧ UD P M l n (i + 1) rest (putEnv o.dst x env) K
theorem UD_spec {P : Program} {M : (Nat → Bool) → Mem} {ops : List Oper} {n : Nat} : ∀ (k : Nat) (l : List Oper) (env : List (Nat × AV)) (K : List (Nat × AV) → Prop), UD P M ops n k l env K →
  ∃ xs : List AV, xs.length = l.length ∧ K (puts env l xs) ∧ ∀ i o x, l[i]? = some o → xs[i]? = some x → UOk P M ops (k + i) (puts env (l.take i) (xs.take i)) o x ∧ dstOk n o.dst = true
 | k, [], env, K, h => ⟨[], rfl, h, by simp⟩
 | k, o :: l, env, K, ⟨x, h1, h2, h3⟩ => by
  obtain ⟨xs, hl, hK, hx⟩ := UD_spec (k + 1) l _ K h3
  refine ⟨x :: xs, by simp [hl], hK, fun i o' x' ho' hx' => ?_⟩
  cases i with
  | zero =>
   simp at ho' hx'
   subst ho'; subst hx'
   exact ⟨h1, h2⟩
  | succ i =>
   simp at ho' hx'
   have := hx i o' x' ho' hx'
   rw [show k + 1 + i = k + (i + 1) by omega] at this
   exact this
theorem UD.mono {P : Program} {M : (Nat → Bool) → Mem} {ops : List Oper} {n : Nat} {K K' : List (Nat × AV) → Prop} (hk : ∀ env, K env → K' env) : ∀ {k : Nat} {l : List Oper} {env : List (Nat × AV)}, UD P M ops n k l env K → UD P M ops n k l env K'
 | _, [], _, h => hk _ h
 | _, _ :: _, _, ⟨x, h1, h2, h3⟩ => ⟨x, h1, h2, h3.mono hk⟩
section
variable {c : Ctx} {r : Option Nat} {P : Program} {l : List Oper} {st : St} {Q : Exit → Act → World → Prop}
theorem DP.anyU {k m : Nat} {M : (Nat → Bool) → Mem} (hchk : segChk l k m = true) (hkm : k ≤ m) (hml : m ≤ l.length) (hlk : (l.all fun o => (looks l o).all fun t => Nat.blt t c.n) = true) (hH : ∀ B a I w, HeapOk B I w st.H → M (fun i => Nat.blt i k) B a I w)
  (h : UD P M l c.n k ((l.drop k).take (m - k)) st.env fun env => ∀ a w I, a.defers = c.ds → a.tmps.size = c.n → WOk c.B I w → Ext c.B c.I0 c.w0 I w → M (fun i => Nat.blt i m) c.B a I w → EnvOk I w (envGet env) a → KD c r P l Q m a w) : DP c r P l Q k st := by
 have ok := segOk_of hchk
 obtain ⟨xs, hxl, htail, hspec⟩ := UD_spec _ _ _ _ h
 have hxm : xs.length = m - k := by rw [hxl, List.length_take, List.length_drop]; omega
 generalize hS : (l.drop k).take (m - k) = S at *
 have takeAt : ∀ (i : Nat) (o : Oper), S[i]? = some o ↔ i < m - k ∧ l[k + i]? = some o := by
  intro i o
  rw [← hS, List.getElem?_take]
  by_cases hi : i < m - k
  ·rw [if_pos hi, List.getElem?_drop]; simp [hi]
  ·rw [if_neg hi]; simp [hi]
 generalize hF : puts st.env S xs = envF at htail
 have hlook : ∀ (i : Nat) (o : Oper), l[i]? = some o → ∀ t ∈ looks l o, t < c.n := by
  intro i o ho t ht
  simp only [List.all_eq_true] at hlk
  have := hlk o (List.mem_of_getElem? ho) t ht
  exact Nat.lt_of_succ_le (by simpa [Nat.blt] using this)
 have fin : ∀ (i : Nat) (o : Oper) (x : AV), i < m - k → l[k + i]? = some o → xs[i]? = some x → UOk P M l (k + i) envF o x ∧ dstOk c.n o.dst = true := by
  intro i o x hi ho hx
  obtain ⟨h1, h2⟩ := hspec i o x ((takeAt i o).2 ⟨hi, ho⟩) hx
  refine ⟨?_, h2⟩
  have same : ∀ t ∈ looks l o, envGet (puts st.env (S.take i) (xs.take i)) t = envGet envF t := by
   intro t ht
   rw [← hF, puts_split i S xs st.env hxl]
   symm
   apply puts_other
   intro j o' ho' e
   rw [List.getElem?_drop] at ho'
   obtain ⟨hj, hoj⟩ := (takeAt _ _).1 ho'
   have := (ok.looked (k + i) o (k + (i + j)) o' t (by omega) (by omega) ho (by omega) (by omega) hoj e ht).1
   omega
  exact fun S hS1 hS2 hS3 => (h1 S hS1 hS2 hS3).congr same
 have finAt : ∀ (i : Nat) (o : Oper) (x : AV) (t : Nat), i < m - k → l[k + i]? = some o → xs[i]? = some x → o.dst = some t → envGet envF t = some x := by
  intro i o x t hi ho hx hd
  rw [← hF]
  refine puts_at S xs st.env i t o x ((takeAt i o).2 ⟨hi, ho⟩) hx hd (fun j o' ho' e => ?_)
  obtain ⟨hj, hoj⟩ := (takeAt _ _).1 ho'
  rcases Nat.decEq j i with hne | he
  ·exact absurd hd (ok.apart (k + i) o (k + j) o' t (by omega) (by omega) ho (by omega) (by omega) hoj e (by omega))
  ·exact he
 have finOther : ∀ t, (∀ (i : Nat) (o : Oper), i < m - k → l[k + i]? = some o → o.dst ≠ some t) → envGet envF t = envGet st.env t := by
  intro t ht
  rw [← hF]
  exact puts_other _ _ _ _ fun i o ho => let ⟨h1, h2⟩ := (takeAt i o).1 ho; ht i o h1 h2
 have main : ∀ (cnt fuel : Nat) (listed : Array Bool) (a : Act) (w : World) (I : Imm), listed.size = l.length → (cnt = (List.range m).countP fun i => !listed.getD i false) → cnt + (l.length - m) ≤ fuel → Closed l (fun i => listed.getD i false = true) →
   (∀ i, i < k → listed.getD i false = true) → (∀ i, listed.getD i false = true → i < m) → a.defers = c.ds → a.tmps.size = c.n → WOk c.B I w → Ext c.B c.I0 c.w0 I w → M (fun s => listed.getD s false) c.B a I w →
   (∀ t x, envGet envF t = some x → (∀ (i : Nat) (o : Oper), i < m - k → l[k + i]? = some o → o.dst = some t → listed.getD (k + i) false = true) → Rel I w x (a.tmps.getD t undef)) →
   wpAnyIn (FW r) 0 P .any l.toArray Q fuel listed a w := by
  intro cnt
  induction cnt with
  | zero =>
   intro fuel listed a w I hsz hf hfu hcl hlk' hlm hd hts hw he hh hv
   have hall : ∀ i, i < m → listed.getD i false = true := by
    intro i hi
    have := List.countP_eq_zero.1 hf.symm i (by simpa using hi)
    simpa using this
   have hst : (fun s => listed.getD s false) = fun i => Nat.blt i m := funext fun i => by
    rw [Bool.eq_iff_iff]
    exact ⟨fun h => by have := hlm i h; exact Nat.ble_eq_true_of_le this, fun h => hall i (Nat.lt_of_succ_le (by simpa [Nat.blt] using h))⟩
   rw [hst] at hh
   exact htail a w I hd hts hw he hh (fun t x hx => hv t x hx (fun i o hi _ _ => hall (k + i) (by omega))) fuel listed hsz (fun i => ⟨hlm i, hall i⟩) (by omega)
  | succ cnt ih =>
   intro fuel listed a w I hsz hf hfu hcl hlk' hlm hd hts hw he hh hv
   obtain ⟨fuel, rfl⟩ : ∃ f, fuel = f + 1 := ⟨fuel - 1, by omega⟩
   have hex : ∃ i, i < m ∧ listed.getD i false = false ∧ ∀ j, j < i → listed.getD j false = true := by
    have : ∃ i, i < m ∧ listed.getD i false = false := by
     refine Classical.byContradiction fun hn => ?_
     have : (List.range m).countP (fun i => !listed.getD i false) = 0 := by
      rw [List.countP_eq_zero]
      intro i hi
      simp only [List.mem_range] at hi
      cases hx : listed.getD i false with
      | true => simp
      | false => exact absurd ⟨i, hi, hx⟩ hn
     omega
    obtain ⟨i, hi⟩ := this
    induction i using Nat.strongRecOn with
    | _ i ihi =>
     by_cases hx : ∃ j, j < i ∧ listed.getD j false = false
     ·obtain ⟨j, hj, hj2⟩ := hx
      exact ihi j hj ⟨by omega, hj2⟩
     ·exact ⟨i, hi.1, hi.2, fun j hj => by
       cases hy : listed.getD j false with
       | true => rfl
       | false => exact absurd ⟨j, hj, hy⟩ hx⟩
   obtain ⟨i0, hi0m, hi0, hi0b⟩ := hex
   have hi0k : k ≤ i0 := by
    rcases Nat.lt_or_ge i0 k with h | h
    ·rw [hlk' i0 h] at hi0; cases hi0
    ·exact h
   refine ⟨fun h0 => ?_, fun i hi => ?_⟩
   ·exfalso
    have hok : l[i0]? = some l[i0] := List.getElem?_eq_getElem (by omega)
    have : i0 ∈ Region.ready .any l.toArray listed := by
     rw [mem_ready]
     refine ⟨by rw [getD_true_iff (by omega)]; exact hi0, l[i0], by simp, fun e he hb => ?_⟩
     exact hi0b _ (ok.back i0 _ hok e.on (by simp only [deps, List.mem_filterMap]; exact ⟨e, by simpa using he, by simp [hb]⟩))
    rw [h0] at this; cases this
   ·obtain ⟨h1, o, h2, h3⟩ := mem_ready.1 hi
    have ho : l[i]? = some o := by simpa using h2
    have hlt : i < l.length := (List.getElem?_eq_some_iff.1 ho).1
    rw [getD_true_iff (by omega)] at h1
    have hdeps : ∀ k ∈ deps o, listed.getD k false = true := by
     intro k hk
     simp only [deps, List.mem_filterMap] at hk
     obtain ⟨e, he, hb⟩ := hk
     split at hb
     ·rename_i hbi; simp at hb; subst hb; exact h3 e (by simpa using he) hbi
     ·cases hb
    have hms : (masks l [])[i]? = some ((masks l []).getD i 0) := by
     have : i < (masks l []).length := by rw [masks_len]; simpa using hlt
     simp [List.getD, this]
    have hanc := masks_spec l _ hcl l [] (by simp) (by simp) (by simp) i _ o hms ho hdeps
    have hik : k ≤ i := by
     rcases Nat.lt_or_ge i k with h | h
     ·rw [hlk' i h] at h1; cases h1
     ·exact h
    have him : i < m := by
     rcases Nat.lt_or_ge i m with h | h
     ·exact h
     ·have := hanc i0 (ok.tail i h hlt i0 hi0k hi0m)
      rw [hi0] at this; cases this
    obtain ⟨q, rfl⟩ : ∃ q, i = k + q := ⟨i - k, by omega⟩
    have hq : q < m - k := by omega
    have hxi : xs[q]? = some xs[q] := List.getElem?_eq_getElem (by omega)
    obtain ⟨hA, hdst⟩ := fin q o _ hq ho hxi
    have avail : ∀ t ∈ looks l o, ∀ (i' : Nat) (o' : Oper), i' < m - k → l[k + i']? = some o' → o'.dst = some t → listed.getD (k + i') false = true := fun t ht i' o' hi' ho' hd' => hanc _ (ok.looked (k + q) o (k + i') o' t hik him ho (by omega) (by omega) ho' hd' ht).2
    have hshut : ShutS l fun s => listed.getD s false := fun s os hos hs j hj => by
     have hsl : s < l.length := (List.getElem?_eq_some_iff.1 hos).1
     have hms2 : (masks l [])[s]? = some ((masks l []).getD s 0) := by
      have : s < (masks l []).length := by rw [masks_len]; simpa using hsl
      simp [List.getD, this]
     exact masks_spec l _ hcl l [] (by simp) (by simp) (by simp) s _ _ hms2 hos (fun j hj => hcl s _ hs hos j hj) j hj
    refine (hA _ hshut hanc h1).run (c := c) ho hw hh (fun t ht z hz => hv t z hz (avail t ht)) (fun t ht => by rw [hts]; exact hlook _ o ho t ht) (fun d' hd' => by rw [hts]; rw [hd'] at hdst; exact Nat.lt_of_succ_le (by simpa [dstOk, Nat.blt] using hdst)) ?_
    intro v w' I' hw' he' hh' hx
    have hset : ∀ j, (listed.setIfInBounds (k + q) true).getD j false = if k + q = j then true else listed.getD j false := fun j => getD_set _ _ _ (by omega)
    have hsetS : (fun s => (listed.setIfInBounds (k + q) true).getD s false) = addS (fun s => listed.getD s false) (k + q) := by
     funext j
     rw [hset]
     unfold addS
     by_cases e : k + q = j
     ·rw [if_pos e, if_pos e.symm]
     ·rw [if_neg e, if_neg fun h => e h.symm]
    refine ih fuel (listed.setIfInBounds (k + q) true) _ w' I' (by simp [hsz]) ?_ (by omega) ?_ ?_ ?_ (by rw [put_defers]; exact hd) (by rw [tmps_put_size]; exact hts) hw' (he.trans he') (by rw [hsetS]; exact hh') ?_
    ·have : (List.range m).countP (fun j => !listed.getD j false) = (List.range m).countP (fun j => !(listed.setIfInBounds (k + q) true).getD j false) + 1 := by
      have key : ∀ (n : Nat), (List.range n).countP (fun j => !listed.getD j false) = (List.range n).countP (fun j => !(listed.setIfInBounds (k + q) true).getD j false) + (if k + q < n then 1 else 0) := by
       intro n
       induction n with
       | zero => simp
       | succ n ihn =>
        rw [List.range_succ, List.countP_append, List.countP_append, ihn]
        simp only [List.countP_cons, List.countP_nil, Nat.zero_add, hset n]
        by_cases e : k + q = n
        ·subst e
         rw [if_neg (Nat.lt_irrefl _), if_pos (Nat.lt_succ_self _), if_pos rfl, h1]
         simp
        ·rw [if_neg e]
         by_cases hlt' : k + q < n
         ·rw [if_pos hlt', if_pos (Nat.lt_succ_of_lt hlt')]; omega
         ·rw [if_neg hlt', if_neg (show ¬ k + q < n + 1 by omega)]; omega
      rw [key, if_pos him]
     omega
    ·intro j oj hj hoj k' hk
     rw [hset]
     by_cases e : k + q = k'
     ·rw [if_pos e]
     ·rw [if_neg e]
      rw [hset] at hj
      by_cases e' : k + q = j
      ·subst e'
       rw [ho] at hoj; cases hoj
       exact hdeps k' hk
      ·rw [if_neg e'] at hj
       exact hcl j oj hj hoj k' hk
    ·intro j hj
     rw [hset, if_neg (by omega)]
     exact hlk' j hj
    ·intro j hj
     rw [hset] at hj
     by_cases e : k + q = j
     ·omega
     ·rw [if_neg e] at hj; exact hlm j hj
    ·intro t x hxt hav
     by_cases hdt : o.dst = some t
     ·rw [hdt]
      have : x = xs[q] := by
       have := finAt q o _ t hq ho hxi hdt
       rw [this] at hxt; exact (Option.some.inj hxt).symm
      subst this
      rw [tmps_put_same (by rw [hts]; rw [hdt] at hdst; exact Nat.lt_of_succ_le (by simpa [dstOk, Nat.blt] using hdst))]
      exact hx
     ·have hold : Rel I w x (a.tmps.getD t undef) := hv t x hxt fun i' o' hi' ho' hd' => by
       have := hav i' o' hi' ho' hd'
       rw [hset] at this
       by_cases e : k + q = k + i'
       ·have e2 : q = i' := by omega
        subst e2
        rw [ho] at ho'; cases ho'
        exact absurd hd' hdt
       ·rw [if_neg e] at this; exact this
      have hget : (a.put o.dst v).tmps.getD t undef = a.tmps.getD t undef := by
       cases hod : o.dst with
       | none => rfl
       | some d => exact tmps_put_other (fun e => hdt (by rw [hod, e]))
      rw [hget]
      exact hold.keep he'.keeps
 intro a w s fuel listed hsz hli hfu
 obtain ⟨I, hw, he, hh, hv⟩ := s.mem
 have hst0 : (fun s => listed.getD s false) = fun i => Nat.blt i k := funext fun i => by
  rw [Bool.eq_iff_iff]
  exact ⟨fun h => Nat.ble_eq_true_of_le ((hli i).1 h), fun h => (hli i).2 (Nat.lt_of_succ_le (by simpa [Nat.blt] using h))⟩
 refine main _ fuel listed a w I hsz rfl ?_ (fun i o hi ho j hj => (hli j).2 (by have := ok.back i o ho j hj; have := (hli i).1 hi; omega)) (fun i hi => (hli i).2 hi) (fun i hi => by have := (hli i).1 hi; omega) s.ds s.size hw he (by rw [hst0]; exact hH _ _ _ _ hh) ?_
 ·have : (List.range m).countP (fun i => !listed.getD i false) ≤ m - k := by
   have e : List.range m = List.range k ++ (List.range (m - k)).map (k + ·) := by
    rw [← List.range_add]; congr 1; omega
   rw [e, List.countP_append]
   have z : (List.range k).countP (fun i => !listed.getD i false) = 0 := by
    rw [List.countP_eq_zero]; intro i hi; simp only [List.mem_range] at hi; simp [(hli i).2 hi]
   rw [z]
   have := List.countP_le_length (p := fun i => !listed.getD i false) (l := (List.range (m - k)).map (k + ·))
   simpa using this
  omega
 ·intro t x hx hav
  have : envGet st.env t = some x := by
   rw [← finOther t (fun i o hi ho hd => ?_)]
   ·exact hx
   ·have := hav i o hi ho hd
    have := (hli (k + i)).1 this
    omega
  exact hv t x this
end
structure VS where
 e : Nat
 d : Nat
 t : TypeId
 zs : List Value
 s : Nat
 ys : List AV
def VS.ent (S : Nat → Bool) (bs : Nat → Nat) (v : VS) : Option Ent := if S v.e then some (.blk (bs v.d) v.t (if S v.s then v.ys else v.zs.map .val)) else none
def VS.ents (S : Nat → Bool) (bs : Nat → Nat) (vs : List VS) : List Ent := vs.filterMap (VS.ent S bs)
def VM (H : List Ent) (vs : List VS) (S : Nat → Bool) : Mem := fun B a I w =>
 ∃ bs : Nat → Nat, (∀ v ∈ vs, S v.e = true → a.tmps.getD v.d undef = .pointer (some ⟨bs v.d, 0, none⟩)) ∧ HeapOk B I w (VS.ents S bs vs ++ H)
def vsChk (l : List Oper) (vs : List VS) (k m : Nat) : Bool := (vs.all fun v => Nat.ble k v.e && Nat.blt v.e m && Nat.ble k v.s && Nat.blt v.s m && ((masks l []).getD v.s 0).testBit v.e && vs.all fun u => !Nat.beq u.e v.s) && decide (vs.map (·.e)).Nodup && decide (vs.map (·.s)).Nodup && decide (vs.map (·.d)).Nodup
theorem nodup_at {α : Type} (f : α → Nat) {l pre post : List α} {v u : α} (h : (l.map f).Nodup) (hl : l = pre ++ v :: post) (hu : u ∈ pre ∨ u ∈ post) : f u ≠ f v := by
 subst hl
 rw [List.map_append, List.map_cons] at h
 have h2 := List.nodup_append.1 h
 rcases hu with hu | hu
 ·exact fun e => h2.2.2 (f u) (List.mem_map_of_mem hu) (f v) (by simp) e
 ·exact fun e => (List.nodup_cons.1 h2.2.1).1 (by rw [← e]; exact List.mem_map_of_mem hu)
theorem ents_congr {S S' : Nat → Bool} {bs bs' : Nat → Nat} : ∀ {vs : List VS}, (∀ v ∈ vs, VS.ent S bs v = VS.ent S' bs' v) → VS.ents S bs vs = VS.ents S' bs' vs
 | [], _ => rfl
 | v :: r, h => by
  have h1 := h v (.head _)
  have h2 := ents_congr (vs := r) fun u hu => h u (.tail _ hu)
  unfold VS.ents at *
  rw [List.filterMap_cons, List.filterMap_cons, h1, h2]
theorem ents_app {S : Nat → Bool} {bs : Nat → Nat} {a b : List VS} : VS.ents S bs (a ++ b) = VS.ents S bs a ++ VS.ents S bs b := List.filterMap_append
theorem ents_some {S : Nat → Bool} {bs : Nat → Nat} {v : VS} {r : List VS} {e : Ent} (h : VS.ent S bs v = some e) : VS.ents S bs (v :: r) = e :: VS.ents S bs r := List.filterMap_cons_some h
theorem ents_none {S : Nat → Bool} {bs : Nat → Nat} {v : VS} {r : List VS} (h : VS.ent S bs v = none) : VS.ents S bs (v :: r) = VS.ents S bs r := List.filterMap_cons_none h
theorem Upd.under {e e' : Ent} {H : List Ent} : ∀ (X : List Ent), Upd (X ++ e :: H) e e' (X ++ e' :: H)
 | [] => .head _ _ _
 | f :: X => .tail _ _ _ _ _ (Upd.under X)
section
variable {c : Ctx} {r : Option Nat} {P : Program} {l : List Oper} {Q : Exit → Act → World → Prop}
theorem ents_zero {bs : Nat → Nat} {k : Nat} : ∀ {vs : List VS}, (∀ v ∈ vs, Nat.blt v.e k = false) → VS.ents (fun i => Nat.blt i k) bs vs = []
 | [], _ => rfl
 | v :: r, h => by rw [ents_none (by rw [VS.ent, if_neg (by rw [h v (.head _)]; simp)]), ents_zero fun u hu => h u (.tail _ hu)]
theorem ents_all {bs : Nat → Nat} {m : Nat} : ∀ {vs : List VS}, (∀ v ∈ vs, Nat.blt v.e m = true ∧ Nat.blt v.s m = true) → VS.ents (fun i => Nat.blt i m) bs vs = vs.map fun v => Ent.blk (bs v.d) v.t v.ys
 | [], _ => rfl
 | v :: r, h => by
  have := h v (.head _)
  rw [ents_some (e := .blk (bs v.d) v.t v.ys) (by rw [VS.ent, if_pos this.1, if_pos this.2]), ents_all fun u hu => h u (.tail _ hu)]; rfl
theorem EnvOk.vars {I : Imm} {w : World} {a : Act} {env : List (Nat × AV)} {bs : Nat → Nat} (h : EnvOk I w (envGet env) a) : ∀ (vs : List VS), (∀ v ∈ vs, a.tmps.getD v.d undef = .pointer (some ⟨bs v.d, 0, none⟩)) → EnvOk I w (envGet (vs.map (fun v => (v.d, AV.p (bs v.d) 0)) ++ env)) a
 | [], _ => h
 | v :: r, hv => fun t x hx => by
  rw [List.map_cons, List.cons_append, envGet_cons] at hx
  split at hx
  ·rename_i e
   cases hx
   subst e
   rw [hv v (.head _)]; exact .val _
  ·exact EnvOk.vars h r (fun u hu => hv u (.tail _ hu)) t x hx
theorem DP.anyV {env : List (Nat × AV)} {H : List Ent} (vs : List VS) (k m n : Nat) (hn : c.n = n) (hchk : segChk l k m = true) (hvs : vsChk l vs k m = true) (hkm : Nat.ble k m = true) (hml : Nat.ble m l.length = true) (hlk : (l.all fun o => (looks l o).all fun t => Nat.blt t n) = true)
  (h : UD P (VM H vs) l c.n k ((l.drop k).take (m - k)) env fun env => ∀ bs : Nat → Nat, DP c r P l Q m ⟨vs.map (fun v => (v.d, AV.p (bs v.d) 0)) ++ env, vs.map (fun v => Ent.blk (bs v.d) v.t v.ys) ++ H⟩) : DP c r P l Q k ⟨env, H⟩ := by
 simp only [vsChk, Bool.and_eq_true, List.all_eq_true, decide_eq_true_eq, Bool.not_eq_true'] at hvs
 obtain ⟨⟨⟨hv1, hv2⟩, hv3⟩, hv4⟩ := hvs
 refine DP.anyU (M := VM H vs) hchk (Nat.le_of_ble_eq_true hkm) (Nat.le_of_ble_eq_true hml) (by rw [hn]; exact hlk) (fun B a I w hh => ⟨fun _ => 0, fun v hv hs => ?_, ?_⟩) (h.mono fun env hd a w I q1 q2 q3 q4 q5 q6 => ?_)
 ·have h1 := Nat.le_of_ble_eq_true (hv1 v hv).1.1.1.1.1
  have : Nat.blt v.e k = false := by rw [Bool.eq_false_iff]; intro hb; have := Nat.lt_of_succ_le (by simpa [Nat.blt] using hb); omega
  have hs : Nat.blt v.e k = true := hs
  rw [this] at hs; cases hs
 ·rw [ents_zero fun v hv => by
   have h1 := Nat.le_of_ble_eq_true (hv1 v hv).1.1.1.1.1
   rw [Bool.eq_false_iff]; intro hb; have := Nat.lt_of_succ_le (by simpa [Nat.blt] using hb); omega]
  exact hh
 ·obtain ⟨bs, hb, hh⟩ := q5
  have hh' : HeapOk c.B I w (vs.map (fun v => Ent.blk (bs v.d) v.t v.ys) ++ H) := by rwa [ents_all fun v hv => ⟨(hv1 v hv).1.1.1.1.2, (hv1 v hv).1.1.2⟩] at hh
  exact hd bs a w ⟨q1, q2, I, q3, q4, hh', q6.vars vs fun v hv => hb v hv (hv1 v hv).1.1.1.1.2⟩
end
section
variable {P : Program} {L rest : List Oper} {vs : List VS} {n i d : Nat} {o : Oper} {env : List (Nat × AV)} {K : List (Nat × AV) → Prop} {x : AV} {H : List Ent}
theorem UD.nil {M : (Nat → Bool) → Mem} (h : K env) : UD P M L n i [] env K := h
theorem addS_other {S : Nat → Bool} {i j : Nat} (h : j ≠ i) : addS S i j = S j := if_neg h
theorem addS_same {S : Nat → Bool} {i : Nat} : addS S i i = true := if_pos rfl
theorem UD.popV (hi : (vs.all fun v => !Nat.beq v.e i && !Nat.beq v.s i && !Nat.beq v.d d) = true) (hg : o.guard = none) (hd : o.dst = some d) (hn : Nat.blt d n = true) (h : POp P H (envGet env) o x) (next : UD P (VM H vs) L n (i + 1) rest ((d, x) :: env) K) : UD P (VM H vs) L n i (o :: rest) env K :=
 ⟨x, fun S _ _ hSi => ⟨hg, fun B I w r a hw hm ho hz => by
  obtain ⟨bs, hb, hh⟩ := hm
  simp only [List.all_eq_true, Bool.and_eq_true, Bool.not_eq_true'] at hi
  have ne : ∀ {a b : Nat}, Nat.beq a b = false → a ≠ b := fun h e => by subst e; simp at h
  have he : ∀ v ∈ vs, VS.ent (addS S i) bs v = VS.ent S bs v := fun v hv => by
   rw [VS.ent, VS.ent, addS_other (ne (hi v hv).1.1), addS_other (ne (hi v hv).1.2)]
  refine (h B I w r a _ hw hh (fun e he => List.mem_append_right _ he) ho).mono (fun v w' ⟨I', a1, a2, a3, a4⟩ => ⟨I', a1, a2, ⟨bs, fun u hu hs => ?_, ?_⟩, a4⟩) (fun _ _ h => h)
  ·rw [addS_other (ne (hi u hu).1.1)] at hs
   rw [hd, tmps_put_other (ne (hi u hu).2)]
   exact hb u hu hs
  ·rw [ents_congr he]; exact a3⟩, dstOk_of hd hn, by rw [hd]; exact next⟩
theorem UD.effV (pre post : List VS) (v : VS) (hvs : vs = pre ++ v :: post) (hc : ∃ k m, vsChk L vs k m = true) {zs : List Value} [hz : HasZero P v.t zs] (hzs : v.zs = zs) (hi : v.e = i) (hg : o.guard = none) (hd : o.dst = some v.d) (hn : Nat.blt v.d n = true) (h : o.op = .alloc v.t) (hL : Nat.blt v.s L.length = true)
  (next : UD P (VM H vs) L n (i + 1) rest ((v.d, .any) :: env) K) : UD P (VM H vs) L n i (o :: rest) env K := by
 obtain ⟨k, m, hc⟩ := hc
 simp only [vsChk, Bool.and_eq_true, List.all_eq_true, decide_eq_true_eq, Bool.not_eq_true'] at hc
 obtain ⟨⟨⟨hv1, hv2⟩, hv3⟩, hv4⟩ := hc
 have hvm : v ∈ vs := by rw [hvs]; simp
 have ne : ∀ {a b : Nat}, Nat.beq a b = false → a ≠ b := fun h e => by subst e; simp at h
 refine ⟨.any, fun S hshut _ hSi => ⟨hg, fun B I w r a hw hm ho hzz => ?_⟩, dstOk_of hd hn, by rw [hd]; exact next⟩
 obtain ⟨bs, hb, hh⟩ := hm
 have hz' := hz.h
 unfold zeroCells at hz'
 cases hin : P.info? v.t with
 | none => simp [hin] at hz'
 | some inf =>
  cases hz2 : inf.zero with
  | none => simp [hin, hz2] at hz'
  | some z =>
   simp [hin, hz2] at hz'
   have h1 : RelL I w (zs.map .val) z.cells.toList := by rw [hz']; exact relL_val zs
   have hsv : v.s ≠ i := fun e => ne ((hv1 v hvm).2 v hvm) (by rw [hi, e])
   have hSs : S v.s = false := by
    rw [Bool.eq_false_iff]; intro hs
    have hlt : v.s < L.length := Nat.lt_of_succ_le (by simpa [Nat.blt] using hL)
    have := hshut v.s L[v.s] (List.getElem?_eq_getElem hlt) hs v.e (hv1 v hvm).1.2
    rw [hi, hSi] at this; cases this
   let bs' : Nat → Nat := fun d => if d = v.d then w.heap.size else bs d
   have hother : ∀ u, u ∈ pre ∨ u ∈ post → VS.ent (addS S i) bs' u = VS.ent S bs u := fun u hu => by
    have hum : u ∈ vs := by rw [hvs]; rcases hu with hu | hu <;> simp [hu]
    have e1 : u.e ≠ i := by rw [← hi]; exact nodup_at (·.e) hv2 hvs hu
    have e2 : u.d ≠ v.d := nodup_at (·.d) hv4 hvs hu
    have e3 : u.s ≠ i := fun e => ne ((hv1 u hum).2 v hvm) (by rw [hi, e])
    rw [VS.ent, VS.ent, addS_other e1, addS_other e3, show bs' u.d = bs u.d from if_neg e2]
   have hnew : VS.ent (addS S i) bs' v = some (.blk w.heap.size v.t (zs.map .val)) := by
    rw [VS.ent, hi, addS_same, if_pos rfl, addS_other hsv, hSs, show bs' v.d = w.heap.size from if_pos rfl, hzs]; rfl
   have hold : VS.ent S bs v = none := by rw [VS.ent, hi, hSi]; rfl
   have e1 : VS.ents S bs vs = VS.ents S bs pre ++ VS.ents S bs post := by rw [hvs, ents_app, ents_none hold]
   have e2 : VS.ents (addS S i) bs' vs = VS.ents S bs pre ++ .blk w.heap.size v.t (zs.map .val) :: VS.ents S bs post := by
    rw [hvs, ents_app, ents_some hnew, ents_congr fun u hu => hother u (.inl hu), ents_congr fun u hu => hother u (.inr hu)]
   rw [e1] at hh
   refine Runs.of_value (v := .pointer (some ⟨w.heap.size, 0, none⟩)) (w' := w.alloc (.cells z.cells v.t)) (by simp [h]) (by simp [execOp, h, Instr.alloc, newVar, newRow, zeroValue, typeInfo, hin, hz2]) ⟨I, hw.alloc _, ext_alloc hw _, ⟨bs', fun u hu hs => ?_, ?_⟩, .any _⟩
   ·by_cases e : u.d = v.d
    ·rw [e, hd, tmps_put_same (hzz v.d hd), show bs' v.d = w.heap.size from if_pos rfl]
    ·rw [hd, tmps_put_other e, show bs' u.d = bs u.d from if_neg e]
     refine hb u hu ?_
     have hu2 : u ∈ pre ∨ u ∈ post := by
      rw [hvs] at hu
      rcases List.mem_append.1 hu with h' | h'
      ·exact .inl h'
      ·rcases List.mem_cons.1 h' with h' | h'
       ·exact absurd (by rw [h']) e
       ·exact .inr h'
     have : u.e ≠ i := by rw [← hi]; exact nodup_at (·.e) hv2 hvs hu2
     rwa [addS_other this] at hs
   ·rw [e2]
    have := HeapOk.new hh hw v.t _ _ h1
    exact this.perm (by rw [List.append_assoc, List.append_assoc]; exact List.perm_middle.symm)
theorem UD.stoV (pre post : List VS) (v : VS) (hvs : vs = pre ++ v :: post) (hc : ∃ k m, vsChk L vs k m = true) (hi : v.s = i) (hg : o.guard = none) (hd : o.dst = none) (h : ∀ b H' H'', Upd H' (.blk b v.t (v.zs.map .val)) (.blk b v.t v.ys) H'' → SOk P H' H'' (envGet ((v.d, .p b 0) :: env)) o) (next : UD P (VM H vs) L n (i + 1) rest env K) : UD P (VM H vs) L n i (o :: rest) env K := by
 obtain ⟨k, m, hc⟩ := hc
 simp only [vsChk, Bool.and_eq_true, List.all_eq_true, decide_eq_true_eq, Bool.not_eq_true'] at hc
 obtain ⟨⟨⟨hv1, hv2⟩, hv3⟩, hv4⟩ := hc
 have hvm : v ∈ vs := by rw [hvs]; simp
 have ne : ∀ {a b : Nat}, Nat.beq a b = false → a ≠ b := fun h e => by subst e; simp at h
 refine ⟨.any, fun S hshut hmask hSi => ⟨hg, fun B I w r a hw hm ho hzz => ?_⟩, by rw [hd]; rfl, by rw [hd]; exact next⟩
 obtain ⟨bs, hb, hh⟩ := hm
 have hSe : S v.e = true := hmask _ (by rw [← hi]; exact (hv1 v hvm).1.2)
 have hp := hb v hvm hSe
 have ho' : OpsOk I w (envGet ((v.d, .p (bs v.d) 0) :: env)) a o := fun x hx y hy => by
  cases x with
  | tmp t =>
   simp only [aeval] at hy
   rw [envGet_cons] at hy
   split at hy
   ·rename_i e
    subst e
    cases hy
    show Rel I w (.p (bs v.d) 0) (a.tmps.getD v.d undef)
    rw [hp]; exact .val _
   ·exact ho _ hx y hy
  | const v => exact ho _ hx y hy
  | global g => exact ho _ hx y hy
  | func f => exact ho _ hx y hy
 have hother : ∀ u, u ∈ pre ∨ u ∈ post → VS.ent (addS S i) bs u = VS.ent S bs u := fun u hu => by
  have hum : u ∈ vs := by rw [hvs]; rcases hu with hu | hu <;> simp [hu]
  have e1 : u.s ≠ i := by rw [← hi]; exact nodup_at (·.s) hv3 hvs hu
  have e3 : u.e ≠ i := fun e => ne ((hv1 v hvm).2 u hum) (by rw [hi, e])
  rw [VS.ent, VS.ent, addS_other e1, addS_other e3]
 have hes : v.e ≠ i := fun e => ne ((hv1 v hvm).2 v hvm) (by rw [hi, e])
 have hold : VS.ent S bs v = some (.blk (bs v.d) v.t (v.zs.map .val)) := by
  rw [VS.ent, if_pos hSe, hi, if_neg (by rw [hSi]; simp)]
 have hnew : VS.ent (addS S i) bs v = some (.blk (bs v.d) v.t v.ys) := by
  rw [VS.ent, addS_other hes, if_pos hSe, hi, addS_same, if_pos rfl]
 have e1 : VS.ents S bs vs ++ H = VS.ents S bs pre ++ .blk (bs v.d) v.t (v.zs.map .val) :: (VS.ents S bs post ++ H) := by rw [hvs, ents_app, ents_some hold, List.append_assoc]; rfl
 have e2 : VS.ents (addS S i) bs vs ++ H = VS.ents S bs pre ++ .blk (bs v.d) v.t v.ys :: (VS.ents S bs post ++ H) := by
  rw [hvs, ents_app, ents_some hnew, ents_congr fun u hu => hother u (.inl hu), ents_congr fun u hu => hother u (.inr hu), List.append_assoc]; rfl
 rw [e1] at hh
 refine (h (bs v.d) _ _ (Upd.under _) B I w r a hw hh ho').mono (fun x w' ⟨I', a1, a2, a3⟩ => ⟨I', a1, a2, ⟨bs, fun u hu hs => ?_, by rw [e2]; exact a3⟩, .any _⟩) (fun _ _ h => h)
 rw [hd]
 refine hb u hu ?_
 have : u.e ≠ i := fun e => ne ((hv1 v hvm).2 u hu) (by rw [hi, e])
 rwa [addS_other this] at hs
end
section
variable {P : Program} {H : List Ent} {ρ : Nat → Option AV} {o : Oper}
end
def blkOf : Value → Nat
 | .pointer (some a) => a.block
 | _ => 0
inductive ES where
 | own (i d e k : Nat) (y : AV)
 | al (i d : Nat) (t : TypeId) (zs : List Value)
def ES.i : ES → Nat
 | .own i _ _ _ _ => i
 | .al i _ _ _ => i
def ES.d : ES → Nat
 | .own _ d _ _ _ => d
 | .al _ d _ _ => d
def ES.en : ES → Value → Ent
 | .own _ _ e k _, v => .own e k v
 | .al _ _ t zs, v => .blk (blkOf v) t (zs.map .val)
def ES.okE : ES → Value → Prop
 | .own _ _ _ _ _, _ => True
 | .al _ _ _ _, v => v = .pointer (some ⟨blkOf v, 0, none⟩)
def ES.av : ES → Value → AV
 | .own _ _ _ _ y, v => .as y v
 | .al _ _ _ _, v => .p (blkOf v) 0
def ES.y : ES → AV
 | .own _ _ _ _ y => y
 | .al _ _ _ _ => .any
def ES.mem (S : Nat → Bool) (f : Nat → Value) (es : List ES) : List Ent := es.filterMap fun s => if S s.i then some (s.en (f s.d)) else none
structure LS where
 i : Nat
 d : Nat
 ds : List Nat
 x : List Value → AV
theorem EnvOk.made {I : Imm} {w : World} {a : Act} {env : List (Nat × AV)} (h : EnvOk I w (envGet env) a) : ∀ (es : List ES), (∀ s ∈ es, s.okE (a.tmps.getD s.d undef) ∧ envGet env s.d = some s.y) → EnvOk I w (envGet (es.map (fun s => (s.d, s.av (a.tmps.getD s.d undef))) ++ env)) a
 | [], _ => h
 | s :: r, hv => fun t x hx => by
  rw [List.map_cons, List.cons_append, envGet_cons] at hx
  split at hx
  ·rename_i e
   cases hx
   subst e
   have h1 := hv s (.head _)
   cases s with
   | own i d e k y => exact .as _ _ (h d y h1.2)
   | al i d t zs =>
    have h2 : a.tmps.getD d undef = .pointer (some ⟨blkOf (a.tmps.getD d undef), 0, none⟩) := h1.1
    show Rel I w (.p (blkOf (a.tmps.getD d undef)) 0) (a.tmps.getD d undef)
    generalize a.tmps.getD d undef = v at h2
    rw [h2]; exact .val _
  ·exact EnvOk.made h r (fun u hu => hv u (.tail _ hu)) t x hx
section
variable {c : Ctx} {r : Option Nat} {P : Program} {l : List Oper} {Q : Exit → Act → World → Prop}
end
section
variable {P : Program} {L rest : List Oper} {es : List ES} {ls : List LS} {n i d : Nat} {o : Oper} {env : List (Nat × AV)} {K : List (Nat × AV) → Prop} {x : AV} {H : List Ent}
end
def eqField (P : Program) (p : Field × Nat) : Bool := p.1.offset == p.2 && p.1.name != "_" && P.plainKey p.1.type && (match P.underlying p.1.type with | some (.int _) => true | _ => false)
def eqInts (P : Program) (t : TypeId) (n : Nat) : Bool := (match P.underlying t with | some (.struct fs) => fs.toList.length == n && fs.toList.zipIdx.all (eqField P) | _ => false) && !P.stoodInHeld t && !P.eqGuardType P.depth t
class HasEq (P : Program) (t : TypeId) (n : outParam Nat) : Prop where
 h : eqInts P t n = true
abbrev intsArr (l : List Int) : Array Value := (l.map fun n => Value.int .i64 n).toArray
theorem eqFields_ints {P : Program} {w : World} (d : Nat) {as bs : List Int} {n : Nat} (ha : as.length = n) (hb : bs.length = n) : ∀ (fs : List Field) (k : Nat), k + fs.length = n → ((fs.zipIdx k).all (eqField P)) = true →
  (Op.eqFields (d + 1) (intsArr as) (intsArr bs) fs).run P w = .ok (as.drop k == bs.drop k) w
 | [], k, hk, _ => by
  rw [List.length_nil] at hk
  rw [List.drop_of_length_le (by omega), List.drop_of_length_le (by omega)]; rfl
 | f :: fs, k, hk, hf => by
  rw [List.length_cons] at hk
  rw [List.zipIdx_cons, List.all_cons, Bool.and_eq_true] at hf
  have h1 := hf.1
  simp only [eqField, Bool.and_eq_true, beq_iff_eq, bne_iff_ne, ne_eq] at h1
  obtain ⟨⟨⟨ho, hn⟩, hp⟩, hu⟩ := h1
  obtain ⟨k', hu⟩ : ∃ k', P.underlying f.type = some (.int k') := by
   split at hu
   ·rename_i k' e; exact ⟨k', e⟩
   ·cases hu
  have hka : k < as.length := by omega
  have hkb : k < bs.length := by omega
  have ga : (intsArr as)[f.offset]? = some (.int .i64 as[k]) := by rw [ho]; simp [intsArr, List.getElem?_eq_getElem hka]
  have gb : (intsArr bs)[f.offset]? = some (.int .i64 bs[k]) := by rw [ho]; simp [intsArr, List.getElem?_eq_getElem hkb]
  have hab : (as.drop k == bs.drop k) = (as[k] == bs[k] && as.drop (k + 1) == bs.drop (k + 1)) := by rw [List.drop_eq_getElem_cons hka, List.drop_eq_getElem_cons hkb]; rfl
  rw [hab]
  simp only [Op.eqFields, Sem.run_ite, Sem.run_bind]
  rw [if_pos hn, Go.run_part_plain (w := w) hp ga]
  simp only [Result.andThen_ok]
  rw [Go.run_part_plain (w := w) hp gb]
  simp only [Result.andThen_ok]
  rw [run_equalIn_int w d f.type .i64 k' as[k] bs[k] hu]
  simp only [Result.andThen_ok]
  have ih := eqFields_ints (P := P) (w := w) d ha hb fs (k + 1) (by omega) hf.2
  by_cases e : as[k] = bs[k]
  ·have e2 : (as[k] == bs[k]) = true := by simpa using e
   rw [e2]
   simp only [Bool.not_true, Bool.false_eq_true, if_false, Bool.true_and]
   exact ih
  ·have e2 : (as[k] == bs[k]) = false := by simpa using e
   rw [e2]
   simp only [Bool.not_false, if_true, Sem.run_pure, Bool.false_and]
section
variable {P : Program} {H : List Ent} {ρ : Nat → Option AV} {o : Oper}
theorem aggInts_rel {I : Imm} {w : World} : ∀ {l : List Int} {vs : List Value}, RelL I w (l.map AV.i) vs → vs = l.map fun n => Value.int .i64 n
 | [], _, h => by cases h; rfl
 | n :: r, _, h => by
  cases h with
  | cons _ v _ vs hv ht =>
   rw [rel_val hv, aggInts_rel ht]; rfl
theorem POp.eqI {t t' : TypeId} {x y : Operand} {n : Nat} (as bs : List Int) {gx gy : Bool} [he : HasEq P t n] (h : o.op = .binOp .eql t x y t') (hx : aev ρ x = some (gx, .agg (as.map AV.i))) (hy : aev ρ y = some (gy, .agg (bs.map AV.i))) (hgx : gx = true) (hgy : gy = true)
  (ha : Nat.beq as.length n = true) (hb : Nat.beq bs.length n = true) : POp P H ρ o (.b (as == bs)) := by
 have ha := Nat.eq_of_beq_eq_true ha
 have hb := Nat.eq_of_beq_eq_true hb
 have hh := he.h
 simp only [eqInts, Bool.and_eq_true, Bool.not_eq_true'] at hh
 obtain ⟨⟨h1, h2⟩, h3⟩ := hh
 obtain ⟨fs, hu⟩ : ∃ fs, P.underlying t = some (.struct fs) := by
  split at h1
  ·rename_i fs e; exact ⟨fs, e⟩
  ·cases h1
 rw [hu] at h1
 simp only [Bool.and_eq_true, beq_iff_eq] at h1
 have hfo : P.fieldsOf t = fs := by rw [Program.fieldsOf, hu]
 refine .same (by simp [h]) fun I w f ho => ?_
 have q1 := ho.get (by simp [h, Op.operands]) hx hgx
 have q2 := ho.get (by simp [h, Op.operands]) hy hgy
 generalize hv : f.eval x = u at q1
 generalize hz : f.eval y = z at q2
 cases q1 with
 | agg _ vs hl1 =>
  cases q2 with
  | agg _ us hl2 =>
   have e1 : vs = intsArr as := Array.toList_inj.1 (by rw [aggInts_rel hl1])
   have e2 : us = intsArr bs := Array.toList_inj.1 (by rw [aggInts_rel hl2])
   subst e1; subst e2
   refine ⟨.bool (as == bs), ?_, .val _⟩
   have hrun := eqFields_ints (P := P) (w := w) 9998 ha hb fs.toList 0 (by omega) h1.2
   rw [List.drop_zero, List.drop_zero] at hrun
   simp only [execOp, h, hv, hz, Sem.run_bind]
   rw [run_eqGuard_agg w .eql t x y _ _ h3]
   simp only [Result.andThen_ok]
   rw [run_eql_struct, run_equalIn_agg w 9999 t _ _ (by rw [hfo]; exact hu) h2, hfo, hrun]
   rfl
end
section
variable {P : Program} {H : List Ent} {ρ : Nat → Option AV} {o : Oper}
end
section
variable {c : Ctx} {r : Option Nat} {P : Program} {ops : Array Oper} {l rest : List Oper} {o : Oper} {env : List (Nat × AV)} {H : List Ent} {Q : Exit → Act → World → Prop} {d : Nat}
end
theorem Del.perm {H H' : List Ent} {e : Ent} (h : Del H e H') : H.Perm (e :: H') := by
 induction h with
 | head => exact .refl _
 | tail f e H H' _ ih => exact (ih.cons f).trans (.swap _ _ _)
theorem HeapOk.turn {B : Nat} {I : Imm} {w : World} {H H' : List Ent} {e e' : Ent} (h : HeapOk B I w H) (hu : Upd H e e' H') (hok : e.ok B I w → e'.ok B I w) (hft : ∀ b, e'.foot = some b → e.foot = some b) : HeapOk B I w H' :=
 h.upd hu ⟨fun _ _ x => x, fun _ _ _ => rfl⟩ (fun _ _ _ => rfl) (fun _ _ x => .inl x) (hok (h.ok _ hu.mem)) (fun b hb => .inl (hft b hb))
theorem Ent.row_blk {B : Nat} {I : Imm} {w : World} {t k n : Nat} {v : Value} {cs : List AV} (hn : n ≠ 0) (h : Ent.ok B I w (.row t k v n cs)) :
  ∃ b cap more, v = .slice (some ⟨b, 0, none⟩) n cap ∧ n ≤ cap ∧ cap ≤ maxLen ∧ (cs ++ more).length = cap * k ∧ cs.length = n * k ∧ Ent.ok B I w (.blk b t (cs ++ more)) := by
 obtain ⟨xs, hrow, hr, hni⟩ := h
 rcases hrow.2 with ⟨rfl, h0⟩ | ⟨g, cap, cur, rfl, hBg, hg, hnc, hcm, hcs, htk⟩
 ·exact absurd h0 hn
 ·have hlen := hr.length
  have hx := hrow.1
  have hle : n * k ≤ cur.size := by rw [hcs]; exact Nat.mul_le_mul_right k hnc
  refine ⟨g, cap, (cur.toList.drop (n * k)).map .val, rfl, hnc, hcm, ?_, by omega, hBg, cur, hg, ?_, fun o => hni g rfl o⟩
  ·have hz : cs.length = n * k := by omega
   have hy : cur.toList.length = cap * k := hcs
   rw [List.length_append, List.length_map, List.length_drop, hz, hy, Nat.add_sub_cancel' (hcs ▸ hle)]
  ·have h2 := hr.append (relL_val (I := I) (w := w) (cur.toList.drop (n * k)))
   rw [← htk] at h2
   rwa [List.take_append_drop] at h2
theorem Ent.blk_row {B : Nat} {I : Imm} {w : World} {t k n b cap : Nat} {cs more : List AV} (h1 : n ≤ cap) (h2 : cap ≤ maxLen) (h3 : (cs ++ more).length = cap * k) (h4 : cs.length = n * k) (h : Ent.ok B I w (.blk b t (cs ++ more))) :
  Ent.ok B I w (.row t k (.slice (some ⟨b, 0, none⟩) n cap) n cs) := by
 obtain ⟨hB, vs, hb, hr, hni⟩ := h
 have hl := hr.length
 rw [Array.length_toList] at hl
 obtain ⟨as, zs, e, r1, r2⟩ := hr.append_inv
 have ha := r1.length
 refine ⟨as, ⟨by omega, .inr ⟨b, cap, vs, rfl, hB, hb, h1, h2, by omega, ?_⟩⟩, r1, fun g hg o => by simp [Value.ownBlock] at hg; subst hg; exact hni o⟩
 rw [e, ← h4, ← ha, List.take_left]
section
variable {c : Ctx} {r : Option Nat} {P : Program} {ops : Array Oper} {l rest : List Oper} {o : Oper} {env : List (Nat × AV)} {H : List Ent} {Q : Exit → Act → World → Prop} {d : Nat}
theorem CW.rowBlk {p : Code} {t k n : Nat} {v : Value} {cs : List AV} {H' : Nat → Nat → List AV → List Ent} (hn : n ≠ 0) (hu : ∀ b cap more, Upd H (.row t k v n cs) (.blk b t (cs ++ more)) (H' b cap more))
  (h : ∀ b cap more, v = .slice (some ⟨b, 0, none⟩) n cap → n ≤ cap → cap ≤ maxLen → (cs ++ more).length = cap * k → cs.length = n * k → CW c r P p ⟨env, H' b cap more⟩ Q) : CW c r P p ⟨env, H⟩ Q := fun a w s => by
 obtain ⟨I, hw, he, hh, hv⟩ := s.mem
 obtain ⟨b, cap, more, e1, e2, e3, e4, e5, e6⟩ := Ent.row_blk hn (hh.ok _ (hu 0 0 []).mem)
 refine h b cap more e1 e2 e3 e4 e5 a w ⟨s.ds, s.size, I, hw, he, hh.turn (hu b cap more) (fun _ => e6) (fun x hx => ?_), hv⟩
 subst e1; exact hx
theorem CW.blkRow {p : Code} {t k n b cap : Nat} {cs more : List AV} {H' : List Ent} (h1 : n ≤ cap) (h2 : cap ≤ maxLen) (h3 : (cs ++ more).length = cap * k) (h4 : cs.length = n * k) (hu : Upd H (.blk b t (cs ++ more)) (.row t k (.slice (some ⟨b, 0, none⟩) n cap) n cs) H')
  (h : CW c r P p ⟨env, H'⟩ Q) : CW c r P p ⟨env, H⟩ Q := fun a w s => by
 obtain ⟨I, hw, he, hh, hv⟩ := s.mem
 exact h a w ⟨s.ds, s.size, I, hw, he, hh.turn hu (Ent.blk_row h1 h2 h3 h4) (fun x hx => hx), hv⟩
theorem Sat.freezeRow {t k : Nat} {v : Value} {els : List (List AV)} {H' : List Ent} {a : Act} {w : World} (s : Sat c ⟨env, H⟩ a w) (hd : envGet env d = some (.val v)) (hD : Del H (.row t k v els.length els.flatten) H') (hk : ∀ e ∈ els, e.length = k) : Sat c ⟨(d, .sl k els) :: env, H'⟩ a w := by
 obtain ⟨I, hw, he, hh, hv⟩ := s.mem
 obtain ⟨J, j1, j2, j3, j4⟩ := HeapOk.freezeRow hw (hh.perm hD.perm) hk
 refine ⟨s.ds, s.size, J, j1, he.trans j2, j3, fun t x hx => ?_⟩
 rw [envGet_cons] at hx
 split at hx
 ·rename_i e; cases hx; subst e; rw [rel_val (hv _ _ hd)]; exact j4
 ·exact (hv t x hx).keep j2.keeps
theorem CW.freezeRow {p : Code} {t k : Nat} {v : Value} {els : List (List AV)} {H' : List Ent} (hd : envGet env d = some (.val v)) (hD : Del H (.row t k v els.length els.flatten) H') (hk : ∀ e ∈ els, e.length = k)
  (h : CW c r P p ⟨(d, .sl k els) :: env, H'⟩ Q) : CW c r P p ⟨env, H⟩ Q := fun a w s => h a w (s.freezeRow hd hD hk)
theorem Done.freezeRow {ex : Exit} {t k : Nat} {v : Value} {els : List (List AV)} {H' : List Ent} (hd : envGet env d = some (.val v)) (hD : Del H (.row t k v els.length els.flatten) H') (hk : ∀ e ∈ els, e.length = k)
  (h : Done c ⟨(d, .sl k els) :: env, H'⟩ ex Q) : Done c ⟨env, H⟩ ex Q := fun a w s => h a w (s.freezeRow hd hD hk)
end
structure CE where
 i : Nat
 d : Nat
 u : Bool
def CE.inst (es : List CE) (p : List Bool) (f : Nat → Value) : List (Option Value) := List.zipWith (fun e b => if b then some (f e.d) else none) es p
def CE.vals : List CE → List Bool → (Nat → Value) → List (Nat × AV)
 | e :: es, b :: p, f => match b, e.u with
  | true, true => (e.d, .val (f e.d)) :: CE.vals es p f
  | _, _ => CE.vals es p f
 | _, _, _ => []
def CE.pat (es : List CE) (S : Nat → Bool) : List Bool := es.map fun e => S e.i
def XM {G : Type} (HS : G → List (Option Value) → List Ent) (es : List CE) (S : Nat → Bool) : Mem := fun B a I w => ∃ g, HeapOk B I w (HS g (CE.inst es (CE.pat es S) fun d => a.tmps.getD d undef))
def CE.okPat (L : List Oper) (es : List CE) (i : Nat) (p : List Bool) : Bool := (es.zip p).all fun x => (!((masks L []).getD i 0).testBit x.1.i || x.2) && (!x.2 || (!((masks L []).getD x.1.i 0).testBit i && !Nat.beq x.1.i i && (es.zip p).all fun y => !((masks L []).getD x.1.i 0).testBit y.1.i || y.2))
def bools : Nat → List (List Bool)
 | 0 => [[]]
 | n + 1 => (bools n).flatMap fun p => [false :: p, true :: p]
def CE.fits (L : List Oper) (es : List CE) (i : Nat) (pats : List (List Bool)) : Bool := (es.all fun e => Nat.blt e.i L.length) && (bools es.length).all fun p => !CE.okPat L es i p || pats.contains p
def AllP {α : Type} : List α → (α → Prop) → Prop
 | [], _ => True
 | a :: r, Q => Q a ∧ AllP r Q
theorem AllP.at {α : Type} {Q : α → Prop} : ∀ {l : List α}, AllP l Q → ∀ a ∈ l, Q a
 | _ :: _, ⟨h, _⟩, _, .head _ => h
 | _ :: _, ⟨_, h⟩, _, .tail _ ha => AllP.at h _ ha
theorem bools_all : ∀ (p : List Bool), p ∈ bools p.length
 | [] => .head _
 | b :: p => List.mem_flatMap.2 ⟨p, bools_all p, by cases b <;> simp⟩
theorem inst_pat (es : List CE) (S : Nat → Bool) (f : Nat → Value) : CE.inst es (CE.pat es S) f = es.map fun e => if S e.i then some (f e.d) else none := by
 induction es with
 | nil => rfl
 | cons e r ih => simp only [CE.inst, CE.pat, List.map_cons, List.zipWith_cons_cons] at ih ⊢; rw [ih]
theorem zip_pat {es : List CE} {S : Nat → Bool} : ∀ x ∈ es.zip (CE.pat es S), x.1 ∈ es ∧ x.2 = S x.1.i := by
 induction es with
 | nil => intro x hx; cases hx
 | cons e r ih =>
  intro x hx
  simp only [CE.pat, List.map_cons, List.zip_cons_cons, List.mem_cons] at hx
  rcases hx with rfl | hx
  ·exact ⟨.head _, rfl⟩
  ·exact ⟨.tail _ (ih x hx).1, (ih x hx).2⟩
theorem CE.fits_of {L : List Oper} {es : List CE} {i : Nat} {pats : List (List Bool)} {S : Nat → Bool} (h : CE.fits L es i pats = true) (hs : ShutS L S) (hm : ∀ j, ((masks L []).getD i 0).testBit j = true → S j = true) (hi : S i = false) : CE.pat es S ∈ pats := by
 simp only [CE.fits, Bool.and_eq_true, List.all_eq_true] at h
 obtain ⟨hb, h⟩ := h
 have hlt : ∀ e ∈ es, e.i < L.length := fun e he => Nat.lt_of_succ_le (by simpa [Nat.blt] using hb e he)
 have h1 := h (CE.pat es S) (by have := bools_all (CE.pat es S); rwa [CE.pat, List.length_map] at this)
 have key : CE.okPat L es i (CE.pat es S) = true := by
  rw [CE.okPat, List.all_eq_true]
  intro x hx
  obtain ⟨x1, x2⟩ := zip_pat x hx
  rw [Bool.and_eq_true]
  refine ⟨?_, ?_⟩
  ·cases hb : ((masks L []).getD i 0).testBit x.1.i with
   | false => rfl
   | true => rw [x2, hm _ hb]; rfl
  ·cases hx2 : x.2 with
   | false => rfl
   | true =>
    rw [hx2] at x2
    have hsh := hs x.1.i _ (List.getElem?_eq_getElem (hlt _ x1)) x2.symm
    simp only [Bool.not_true, Bool.false_or, Bool.and_eq_true, Bool.not_eq_true', List.all_eq_true]
    refine ⟨⟨?_, ?_⟩, fun y hy => ?_⟩
    ·cases hb : ((masks L []).getD x.1.i 0).testBit i with
     | false => rfl
     | true => rw [hsh i hb] at hi; cases hi
    ·cases hb : Nat.beq x.1.i i with
     | false => rfl
     | true => rw [Nat.eq_of_beq_eq_true hb, hi] at x2; cases x2
    ·obtain ⟨y1, y2⟩ := zip_pat y hy
     cases hb : ((masks L []).getD x.1.i 0).testBit y.1.i with
     | false => rfl
     | true => rw [y2, hsh _ hb]; rfl
 rw [key] at h1
 simpa using h1
theorem env_vals {f : Nat → Value} {env : List (Nat × AV)} {t : Nat} {y : AV} : ∀ (es : List CE) (p : List Bool), envGet (CE.vals es p f ++ env) t = some y → y = .val (f t) ∨ envGet env t = some y
 | [], p, h => .inr h
 | _ :: _, [], h => .inr h
 | e :: es, b :: p, h => by
  unfold CE.vals at h
  split at h
  ·rw [List.cons_append, envGet_cons] at h
   split at h
   ·rename_i e1; cases h; rw [e1]; exact .inl rfl
   ·exact env_vals es p h
  ·exact env_vals es p h
theorem ops_vals {I : Imm} {w : World} {a : Act} {o : Oper} {env : List (Nat × AV)} (es : List CE) (p : List Bool) (h : OpsOk I w (envGet env) a o) : OpsOk I w (envGet (CE.vals es p (fun d => a.tmps.getD d undef) ++ env)) a o := fun x hx y hy => by
 cases x with
 | tmp u =>
  simp only [aeval] at hy
  rcases env_vals es p hy with rfl | hy
  ·exact .val _
  ·exact h _ hx y hy
 | const v => exact h _ hx y hy
 | global g => exact h _ hx y hy
 | func f => exact h _ hx y hy
theorem EnvOk.vals {I : Imm} {w : World} {a : Act} {env : List (Nat × AV)} (es : List CE) (p : List Bool) (h : EnvOk I w (envGet env) a) : EnvOk I w (envGet (CE.vals es p (fun d => a.tmps.getD d undef) ++ env)) a := fun t x hx => by
 rcases env_vals es p hx with rfl | hx
 ·exact .val _
 ·exact h t x hx
def FOk {G : Type} (P : Program) (H : List Ent) (H' : G → Value → List Ent) (ρ : Nat → Option AV) (o : Oper) (x : AV) : Prop := ∀ (B : Nat) (I : Imm) (w : World) (r : Option Nat) (a : Act), WOk B I w → HeapOk B I w H → OpsOk I w ρ a o →
 Runs P r o a w (fun v w' => ∃ I' g, WOk B I' w' ∧ Ext B I w I' w' ∧ HeapOk B I' w' (H' g v) ∧ Rel I' w' x v) (fun _ _ => False)
section
variable {c : Ctx} {r : Option Nat} {P : Program} {l : List Oper} {Q : Exit → Act → World → Prop} {G : Type}
theorem DP.anyH {env : List (Nat × AV)} {H : List Ent} (es : List CE) (g0 : G) (HS : G → List (Option Value) → List Ent) (k m n : Nat) (hn : c.n = n) (hchk : segChk l k m = true) (hes : (es.all fun e => Nat.ble k e.i && Nat.blt e.i m) = true) (hkm : Nat.ble k m = true) (hml : Nat.ble m l.length = true) (hlk : (l.all fun o => (looks l o).all fun t => Nat.blt t n) = true)
  (h0 : HS g0 (es.map fun _ => none) = H)
  (h : UD P (XM HS es) l c.n k ((l.drop k).take (m - k)) env fun env => ∀ (g : G) (f : Nat → Value), DP c r P l Q m ⟨CE.vals es (es.map fun _ => true) f ++ env, HS g (es.map fun e => some (f e.d))⟩) : DP c r P l Q k ⟨env, H⟩ := by
 simp only [List.all_eq_true, Bool.and_eq_true] at hes
 have blk : ∀ i, Nat.ble k i = true → Nat.blt i k = false := fun i hi => by
  have h1 := Nat.le_of_ble_eq_true hi
  rw [Bool.eq_false_iff]; intro hb; have := Nat.lt_of_succ_le (by simpa [Nat.blt] using hb); omega
 refine DP.anyU (M := XM HS es) hchk (Nat.le_of_ble_eq_true hkm) (Nat.le_of_ble_eq_true hml) (by rw [hn]; exact hlk) (fun B a I w hh => ⟨g0, ?_⟩) (h.mono fun env hd a w I q1 q2 q3 q4 q5 q6 => ?_)
 ·have e : CE.inst es (CE.pat es fun i => Nat.blt i k) (fun d => a.tmps.getD d undef) = es.map fun _ => none := by
   rw [inst_pat]
   exact List.map_congr_left fun e he => by rw [blk _ (hes e he).1]; rfl
  rw [e, h0]; exact hh
 ·obtain ⟨g, hh⟩ := q5
  have e : CE.inst es (CE.pat es fun i => Nat.blt i m) (fun d => a.tmps.getD d undef) = es.map fun e => some (a.tmps.getD e.d undef) := by
   rw [inst_pat]
   exact List.map_congr_left fun e he => by rw [(hes e he).2]; rfl
  rw [e] at hh
  exact hd g (fun d => a.tmps.getD d undef) a w ⟨q1, q2, I, q3, q4, hh, q6.vals es _⟩
end
section
variable {P : Program} {L rest : List Oper} {es : List CE} {n i d : Nat} {o : Oper} {env : List (Nat × AV)} {K : List (Nat × AV) → Prop} {x : AV} {G : Type} {HS : G → List (Option Value) → List Ent}
theorem UD.popG (pats : List (List Bool)) (hi : (es.all fun e => !Nat.beq e.i i && !Nat.beq e.d d) = true) (hf : CE.fits L es i pats = true) (hg : o.guard = none) (hd : o.dst = some d) (hn : Nat.blt d n = true)
  (h : AllP pats fun p => ∀ g f, POp P (HS g (CE.inst es p f)) (envGet (CE.vals es p f ++ env)) o x) (next : UD P (XM HS es) L n (i + 1) rest ((d, x) :: env) K) : UD P (XM HS es) L n i (o :: rest) env K :=
 ⟨x, fun S hshut hmask hSi => ⟨hg, fun B I w r a hw hm ho hz => by
  obtain ⟨g, hm⟩ := hm
  simp only [List.all_eq_true, Bool.and_eq_true, Bool.not_eq_true'] at hi
  have ne : ∀ {a b : Nat}, Nat.beq a b = false → a ≠ b := fun h e => by subst e; simp at h
  refine (h.at _ (CE.fits_of hf hshut hmask hSi) g (fun d => a.tmps.getD d undef) B I w r a _ hw hm (fun e he => he) (ops_vals es _ ho)).mono (fun v w' ⟨I', a1, a2, a3, a4⟩ => ⟨I', a1, a2, ⟨g, ?_⟩, a4⟩) (fun _ _ h => h)
  have e : CE.inst es (CE.pat es (addS S i)) (fun d => (a.put o.dst v).tmps.getD d undef) = CE.inst es (CE.pat es S) (fun d => a.tmps.getD d undef) := by
   rw [inst_pat, inst_pat]
   exact List.map_congr_left fun e he => by rw [addS_other (ne (hi e he).1), hd, tmps_put_other (ne (hi e he).2)]
  rw [e]; exact a3⟩, dstOk_of hd hn, by rw [hd]; exact next⟩
theorem inst_set {S : Nat → Bool} {f f' : Nat → Value} {q : Nat} {e : CE} {u : Value} (he : es[q]? = some e) (hu : f' e.d = u) (ho : ∀ q' e', q' ≠ q → es[q']? = some e' → e'.i ≠ e.i ∧ f' e'.d = f e'.d) : CE.inst es (CE.pat es (addS S e.i)) f' = (CE.inst es (CE.pat es S) f).set q (some u) := by
 rw [inst_pat, inst_pat]
 refine List.ext_getElem? fun j => ?_
 rw [List.getElem?_set, List.length_map, List.getElem?_map, List.getElem?_map]
 have hq := (List.getElem?_eq_some_iff.1 he).1
 by_cases hj : q = j
 ·subst hj
  rw [if_pos rfl, if_pos hq, he]
  show some (if addS S e.i e.i = true then some (f' e.d) else none) = _
  rw [addS_same, hu]; rfl
 ·rw [if_neg hj]
  cases hje : es[j]? with
  | none => rfl
  | some e' =>
   have := ho j e' (fun h => hj h.symm) hje
   show some (if addS S e.i e'.i = true then some (f' e'.d) else none) = some (if S e'.i = true then some (f e'.d) else none)
   rw [addS_other this.1, this.2]
theorem UD.effG (q : Nat) (pats : List (List Bool)) {e : CE} (he : es[q]? = some e) (hi : e.i = i) (ho : ((es.take q ++ es.drop (q + 1)).all fun e' => !Nat.beq e'.i i && !Nat.beq e'.d e.d) = true) (hf : CE.fits L es i pats = true) (hg : o.guard = none) (hd : o.dst = some e.d) (hn : Nat.blt e.d n = true)
  (h : AllP pats fun p => ∀ g f, FOk P (HS g (CE.inst es p f)) (fun g' v => HS g' ((CE.inst es p f).set q (some v))) (envGet (CE.vals es p f ++ env)) o x) (next : UD P (XM HS es) L n (i + 1) rest ((e.d, x) :: env) K) : UD P (XM HS es) L n i (o :: rest) env K :=
 ⟨x, fun S hshut hmask hSi => ⟨hg, fun B I w r a hw hm hops hz => by
  obtain ⟨g, hm⟩ := hm
  simp only [List.all_eq_true, Bool.and_eq_true, Bool.not_eq_true'] at ho
  have ne : ∀ {a b : Nat}, Nat.beq a b = false → a ≠ b := fun h e => by subst e; simp at h
  refine (h.at _ (CE.fits_of hf hshut hmask hSi) g (fun d => a.tmps.getD d undef) B I w r a hw hm (ops_vals es _ hops)).mono (fun v w' ⟨I', g', a1, a2, a3, a4⟩ => ⟨I', a1, a2, ⟨g', ?_⟩, a4⟩) (fun _ _ h => h)
  rw [← hi, inst_set (S := S) (f := fun d => a.tmps.getD d undef) (f' := fun d => (a.put o.dst v).tmps.getD d undef) (u := v) he (by rw [hd]; exact tmps_put_same (hz _ hd)) (fun q' e' hq he' => ?_)]
  ·exact a3
  ·have hm' : e' ∈ es.take q ++ es.drop (q + 1) := by
    rw [List.mem_append]
    rcases Nat.lt_or_gt_of_ne hq with h1 | h1
    ·exact .inl (List.mem_of_getElem? (i := q') (by rw [List.getElem?_take, if_pos h1]; exact he'))
    ·exact .inr (List.mem_of_getElem? (i := q' - (q + 1)) (by rw [List.getElem?_drop, show q + 1 + (q' - (q + 1)) = q' by omega]; exact he'))
   refine ⟨by rw [hi]; exact ne (ho _ hm').1, ?_⟩
   show (a.put o.dst v).tmps.getD e'.d undef = _
   rw [hd]; exact tmps_put_other (ne (ho _ hm').2)⟩, dstOk_of hd hn, by rw [hd]; exact next⟩
theorem FOk.sto {H : List Ent} {H' : List Ent} {ρ : Nat → Option AV} (g : G) (h : SOk P H H' ρ o) : FOk P H (fun (_ : G) _ => H') ρ o .any := fun B I w r a hw hh ho => (h B I w r a hw hh ho).mono (fun v w' ⟨I', a1, a2, a3⟩ => ⟨I', g, a1, a2, a3, .any _⟩) (fun _ _ h => h)
theorem FOk.app {H : List Ent} {ρ : Nat → Option AV} {s z : Operand} {t e k by_ m : Nat} {cs : List AV} {news : List (List AV)} {v : Value} {y : AV} {g1 g2 : Bool} {H' : G → Value → List Ent} (g : G) [hA : HasApp P t (e, k, by_)]
  (h : o.op = .call { callee := .builtin .append, args := #[s, z], argTypes := #[t, t] }) (hs : aev ρ s = some (g1, .val v)) (hg1 : g1 = true) (hz : aev ρ z = some (g2, y)) (hg2 : g2 = true) (hy : AVle y (.sl k news)) (hne : news ≠ [])
  (h1 : news.all allOne = true) (hu : ∀ v', Upd H (.row e k v m cs) (.row e k v' (m + news.length) (cs ++ news.flatten)) (H' g v')) (hb : (m + news.length) * by_ ≤ 140737488355328) (hb' : m + news.length ≤ 9223372036854775807) : FOk P H H' ρ o .any := fun B I w r a hw hh ho =>
 (appendRow_runs h hs hg1 hz hg2 hy hne h1 hu hb hb' hw hh ho).mono (fun v w' ⟨I', a1, a2, a3⟩ => ⟨I', g, a1, a2, a3, .any _⟩) (fun _ _ h => h)
theorem FOk.bcall {H : List Ent} {ρ : Nat → Option AV} {f : FuncId} {xs : List AV} {Φ : AV → List Ent → Prop} {H' : G → Value → List Ent} (hc : CallOk P ρ o f xs) (h : ∀ B, BCall B P f xs H Φ (fun _ => False)) (hq : ∀ y H1, Φ y H1 → ∃ g, y = x ∧ ∀ v, H' g v = H1) : FOk P H H' ρ o x := fun B I w r a hw hh ho =>
 (bcall_runs (c := ⟨B, I, w, 0, []⟩) hc (h B) hw hh ho).mono (fun v w' hR => by
  obtain ⟨I', H1, y, a1, a2, a3, a4, a5⟩ := hR
  obtain ⟨g, rfl, hv⟩ := hq _ _ a5
  exact ⟨I', g, a1, a2, by rw [hv]; exact a3, a4⟩) (fun _ _ h => h)
end
theorem POp.lenR {P : Program} {H : List Ent} {ρ : Nat → Option AV} {o : Oper} {x : Operand} {t e k k' n : Nat} {v : Value} {cs : List AV} {g : Bool} [ht : HasSl P t k'] (h : o.op = .call { callee := .builtin .len, args := #[x], argTypes := #[t] }) (hx : aev ρ x = some (g, .val v)) (hg : g = true) (hm : Ent.row e k v n cs ∈ H) : POp P H ρ o (.i n) := by
 refine .sameH (by simp [h]) fun B I w f hH ho => ?_
 have h1 := rel_val (ho.get (by simp [h, Op.operands, Call.operands]) hx hg)
 obtain ⟨xs, hrow, _⟩ := hH _ hm
 rcases hrow.2 with ⟨rfl, rfl⟩ | ⟨b, cap, cur, rfl, _⟩
 ·exact ⟨.int .i64 0, by simp [execOp, h, h1, resolve, invoke, builtin, run_len_sl t none 0 0 (isSl_of ht.h) w], .val _⟩
 ·exact ⟨.int .i64 n, by simp [execOp, h, h1, resolve, invoke, builtin, run_len_sl t (some ⟨b, 0, none⟩) n cap (isSl_of ht.h) w], .val _⟩
end Go.Eng
