/- The engine, part 24: two appends, one onto the other, among operations in whatever order. No condition: general lemmas over any program. -/
import Derived.Test.YtiljpbljebfhnaaGreatCaP9

set_option linter.unusedVariables false
set_option linter.unusedSimpArgs false
namespace Go.Eng
open Go.RowKit (Below)
section
variable {P : Program} {r : Option Nat} {o : Oper} {H : List Ent}
theorem appendRow_runs0 {B : Nat} {I : Imm} {w : World} {a : Act} {ρ : Nat → Option AV} {s z : Operand} {t e k by_ n : Nat} {cs : List AV} {news : List (List AV)} {v : Value} {y : AV} {g1 g2 : Bool} {H' : Value → List Ent} [hA : HasApp P t (e, k, by_)]
    (h : o.op = .call { callee := .builtin .append, args := #[s, z], argTypes := #[t, t] }) (hs : aev ρ s = some (g1, .val v)) (hg1 : g1 = true) (hz : aev ρ z = some (g2, y)) (hg2 : g2 = true) (hy : AVle y (.sl k news))
    (h1 : news.all allOne = true) (hu : ∀ v', Upd H (.row e k v n cs) (.row e k v' (n + news.length) (cs ++ news.flatten)) (H' v')) (hb : (n + news.length) * by_ ≤ 140737488355328) (hb' : n + news.length ≤ 9223372036854775807)
    (hw : WOk B I w) (hh : HeapOk B I w H) (ho : OpsOk I w ρ a o) : Runs P r o a w (fun x w' => ∃ I', WOk B I' w' ∧ Ext B I w I' w' ∧ HeapOk B I' w' (H' x)) (fun _ _ => False) := by
  by_cases hne : news = []
  · subst hne
    obtain ⟨i, zv, hut, hi, hzz, hsz, hby, hzs, hk0⟩ := appInfo_spec hA.h
    have hsv := rel_val (ho.get (by simp [h, Op.operands, Call.operands]) hs hg1)
    have hzr := hy _ _ _ (ho.get (by simp [h, Op.operands, Call.operands]) hz hg2)
    obtain ⟨xs, hrow, hrx, hni⟩ := hh.ok _ (hu v).mem
    obtain ⟨us, r1, r2⟩ := src_of (P := P) (tx := t) hut hzr (by simp)
    have hus : us = [] := by cases r1; rfl
    subst hus
    rw [← hsz] at r2
    have hv : ∃ ad m cp, v = .slice ad m cp ∧ m ≤ cp := by
      rcases hrow.2 with ⟨rfl, _⟩ | ⟨g, cap, cur, rfl, _, _, hc, _⟩
      · exact ⟨none, 0, 0, rfl, Nat.le_refl _⟩
      · exact ⟨_, _, _, rfl, hc⟩
    obtain ⟨ad, m, cp, rfl, hle⟩ := hv
    have hr := run_append_nothing (P := P) w t t o.type e i hut hi ad m cp hle (a.eval z) r2
    refine Runs.of_value (by simp [h]) (run_appendOp h a w (by rw [hsv]; exact hr)) ⟨I, hw, Ext.refl _ _ _, ?_⟩
    refine hh.upd (hu _) ⟨fun _ _ x => x, fun _ _ _ => rfl⟩ (fun b _ _ => rfl) (fun b o hx => .inl hx) ⟨xs, by simpa using hrow, by simpa using hrx, hni⟩ (fun b hb => .inl hb)
  · exact appendRow_runs h hs hg1 hz hg2 hy hne h1 hu hb hb' hw hh ho
end

/-- memory: nothing appended, the first, both -/
abbrev CM (e k : Nat) (H : List Ent) (E1 E2 : List (List AV)) (d1 d2 : Nat) : Nat → Mem := fun j B a I w => match j with
  | 0 => HeapOk B I w (.row e k (.slice none 0 0) 0 [] :: H)
  | 1 => HeapOk B I w (.row e k (a.tmps.getD d1 undef) E1.length E1.flatten :: H)
  | _ => HeapOk B I w (.row e k (a.tmps.getD d2 undef) (E1 ++ E2).length (E1 ++ E2).flatten :: H)
section
variable {c : Ctx} {r : Option Nat} {P : Program} {l : List Oper} {Q : Exit → Act → World → Prop}
theorem DP.anyCC {env : List (Nat × AV)} {H : List Ent} (e k : Nat) (E1 E2 : List (List AV)) (d1 d2 s1 s2 : Nat) (kk m n : Nat) (hlen : ∀ x ∈ E1 ++ E2, x.length = k) (hn : c.n = n) (hchk : segChk l kk m = true) (hss : ssChk [s1, s2] kk m = true) (hkm : Nat.ble kk m = true) (hml : Nat.ble m l.length = true) (hlk : (l.all fun o => (looks l o).all fun t => Nat.blt t n) = true)
    (h : TD P (CM e k H E1 E2 d1 d2) l [s1, s2] c.n kk ((l.drop kk).take (m - kk)) env fun env => DP c r P l Q m ⟨(d2, .sl k (E1 ++ E2)) :: env, H⟩) : DP c r P l Q kk ⟨env, H⟩ :=
  DP.anyS (Hs := CM e k H E1 E2 d1 d2) hchk hss (Nat.le_of_ble_eq_true hkm) (Nat.le_of_ble_eq_true hml) (by rw [hn]; exact hlk) (fun B a I w hh => hh.consNil (Ent.row_nil B I w e k) rfl) (h.mono fun env hd a w I q1 q2 q3 q4 q5 q6 => by
    obtain ⟨J, a1, a2, a3, a4⟩ := HeapOk.freezeRow q3 q5 hlen
    exact hd a w ⟨q1, q2, J, a1, q4.trans a2, a3, Sat.put1 (q6.keep a2.keeps) a4⟩)
end
section
variable {P : Program} {L rest : List Oper} {ss : List Nat} {n i d : Nat} {o : Oper} {env : List (Nat × AV)} {K : List (Nat × AV) → Prop} {x : AV} {H : List Ent} {e k : Nat} {E1 E2 : List (List AV)} {d1 d2 : Nat}
theorem TD.popCC (hs : stp ss i = 0) (hg : o.guard = none) (hd : o.dst = some d) (hn : Nat.blt d n = true) (hd1 : Nat.beq d d1 = false) (hd2 : Nat.beq d d2 = false) (h : ∀ H, POp P H (envGet env) o x) (next : TD P (CM e k H E1 E2 d1 d2) L ss n (i + 1) rest ((d, x) :: env) K) : TD P (CM e k H E1 E2 d1 d2) L ss n i (o :: rest) env K :=
  ⟨x, fun j h1 h2 => by
    rw [hs]
    refine ⟨hg, fun B I w r a hw hm ho hz => ?_⟩
    have e1 : ∀ v, (a.put o.dst v).tmps.getD d1 undef = a.tmps.getD d1 undef := fun v => by rw [hd]; exact tmps_put_other (fun e => by subst e; simp at hd1)
    have e2 : ∀ v, (a.put o.dst v).tmps.getD d2 undef = a.tmps.getD d2 undef := fun v => by rw [hd]; exact tmps_put_other (fun e => by subst e; simp at hd2)
    match j with
    | 0 => exact h _ B I w r a _ hw hm (fun _ h => h) ho
    | 1 =>
      refine (h _ B I w r a _ hw hm (fun _ h => h) ho).mono (fun v w' ⟨I', a1, a2, a3, a4⟩ => ⟨I', a1, a2, ?_, a4⟩) (fun _ _ h => h)
      show HeapOk B I' w' (.row e k ((a.put o.dst v).tmps.getD d1 undef) E1.length E1.flatten :: H)
      rw [e1]; exact a3
    | j + 2 =>
      refine (h _ B I w r a _ hw hm (fun _ h => h) ho).mono (fun v w' ⟨I', a1, a2, a3, a4⟩ => ⟨I', a1, a2, ?_, a4⟩) (fun _ _ h => h)
      show HeapOk B I' w' (.row e k ((a.put o.dst v).tmps.getD d2 undef) (E1 ++ E2).length (E1 ++ E2).flatten :: H)
      rw [e2]; exact a3, dstOk_of hd hn, by rw [hd]; exact next⟩
theorem TD.app1 {s z : Operand} {t by_ : Nat} {y : AV} {g1 g2 : Bool} [hA : HasApp P t (e, k, by_)] (hh : hiOf L ss i = 0) (hs : stp ss i = 1) (hg : o.guard = none) (hd : o.dst = some d1) (hn : Nat.blt d1 n = true)
    (h : o.op = .call { callee := .builtin .append, args := #[s, z], argTypes := #[t, t] }) (hsv : aev (envGet env) s = some (g1, .val (.slice none 0 0))) (hg1 : g1 = true) (hz : aev (envGet env) z = some (g2, y)) (hg2 : g2 = true) (hy : AVle y (.sl k E1))
    (h1 : E1.all allOne = true) (hb : E1.length * by_ ≤ 140737488355328) (hb' : E1.length ≤ 9223372036854775807)
    (next : TD P (CM e k H E1 E2 d1 d2) L ss n (i + 1) rest ((d1, .any) :: env) K) : TD P (CM e k H E1 E2 d1 d2) L ss n i (o :: rest) env K :=
  ⟨.any, fun j q1 q2 => by
    obtain rfl : j = 0 := by omega
    rw [hs]
    refine ⟨hg, fun B I w r a hw hm ho hzz => ?_⟩
    refine (appendRow_runs0 (news := E1) (H' := fun v => .row e k v E1.length E1.flatten :: H) h hsv hg1 hz hg2 hy h1 (fun v' => by rw [Nat.zero_add]; exact .head _ _ _) (by rw [Nat.zero_add]; exact hb) (by omega) hw hm ho).mono (fun v w' ⟨I', a1, a2, a3⟩ => ⟨I', a1, a2, ?_, .any _⟩) (fun _ _ h => h)
    show HeapOk B I' w' (.row e k ((a.put o.dst v).tmps.getD d1 undef) E1.length E1.flatten :: H)
    rw [hd, tmps_put_same (hzz d1 hd)]; exact a3, dstOk_of hd hn, by rw [hd]; exact next⟩
theorem TD.app2 {s z : Operand} {t by_ : Nat} {y : AV} {g2 : Bool} [hA : HasApp P t (e, k, by_)] (hl : loOf L ss i = 1) (hh : hiOf L ss i = 1) (hs : stp ss i = 1) (hg : o.guard = none) (hd : o.dst = some d2) (hn : Nat.blt d2 n = true)
    (h : o.op = .call { callee := .builtin .append, args := #[s, z], argTypes := #[t, t] }) (hsv : s = .tmp d1) (hz : ∀ γ, aev (envGet ((d1, .val γ) :: env)) z = some (g2, y)) (hg2 : g2 = true) (hy : AVle y (.sl k E2))
    (h1 : E2.all allOne = true) (hb : (E1.length + E2.length) * by_ ≤ 140737488355328) (hb' : E1.length + E2.length ≤ 9223372036854775807)
    (next : TD P (CM e k H E1 E2 d1 d2) L ss n (i + 1) rest ((d2, .any) :: env) K) : TD P (CM e k H E1 E2 d1 d2) L ss n i (o :: rest) env K :=
  ⟨.any, fun j q1 q2 => by
    obtain rfl : j = 1 := by omega
    rw [hs]
    refine ⟨hg, fun B I w r a hw hm ho hzz => ?_⟩
    have ho' : OpsOk I w (envGet ((d1, .val (a.tmps.getD d1 undef)) :: env)) a o := fun x hx y hy => by
      cases x with
      | tmp t =>
        simp only [aeval] at hy
        rw [envGet_cons] at hy
        split at hy
        · rename_i e
          subst e
          cases hy
          exact .val _
        · exact ho _ hx y hy
      | const v => exact ho _ hx y hy
      | global g => exact ho _ hx y hy
      | func f => exact ho _ hx y hy
    refine (appendRow_runs0 (news := E2) (v := a.tmps.getD d1 undef) (g1 := true) (H' := fun v => .row e k v (E1 ++ E2).length (E1 ++ E2).flatten :: H) h (by subst hsv; simp [aev, aeval, envGet_cons, strip]) rfl (hz _) hg2 hy h1 (fun v' => by rw [List.length_append, List.flatten_append]; exact .head _ _ _) hb hb' hw hm ho').mono (fun v w' ⟨I', a1, a2, a3⟩ => ⟨I', a1, a2, ?_, .any _⟩) (fun _ _ h => h)
    show HeapOk B I' w' (.row e k ((a.put o.dst v).tmps.getD d2 undef) (E1 ++ E2).length (E1 ++ E2).flatten :: H)
    rw [hd, tmps_put_same (hzz d2 hd)]; exact a3, dstOk_of hd hn, by rw [hd]; exact next⟩
end
end Go.Eng

/- The engine, part 25: a field of a struct's value. No condition: general lemmas over any program. -/
set_option linter.unusedVariables false
set_option linter.unusedSimpArgs false
namespace Go.Eng
def fldV (P : Program) (t : TypeId) (f : Nat) : Option Nat :=
  match P.underlying t with
  | some (.struct fs) => match fs[f]? with
    | some fd => match tyInfo P fd.type with
      | some (false, _) => some fd.offset
      | _ => none
    | none => none
  | _ => none
class HasFldV (P : Program) (t f : Nat) (x : outParam Nat) : Prop where h : fldV P t f = some x
section
variable {P : Program} {H : List Ent} {ρ : Nat → Option AV} {o : Oper}
theorem run_fieldV {t : TypeId} {f off : Nat} (h : fldV P t f = some off) (cs : Array Value) (v : Value) (hv : cs[off]? = some v) (w : World) : (Instr.field t (.agg cs) f).run P w = .ok v w := by
  unfold fldV at h
  split at h
  · rename_i fs hu
    split at h
    · rename_i fd hf
      split at h
      · rename_i n hi
        cases h
        have h1 := (tyInfo_run hi w).1
        simp only [Instr.field, Sem.run_bind, run_underlying hu, Result.andThen_ok, hf, asAgg, Sem.run_pure, part, h1, hv, Bool.false_eq_true, if_false]
      · cases h
    · cases h
  · cases h
theorem POp.fieldV {t : TypeId} {x : Operand} {f off : Nat} {cs : List AV} {y : AV} {g : Bool} [hf : HasFldV P t f off] (h : o.op = .field t x f) (hx : aev ρ x = some (g, .agg cs)) (hg : g = true) (hy : cs[off]? = some y) : POp P H ρ o y := by
  refine .same (by simp [h]) fun I w a ho => ?_
  have h1 := ho.get (by simp [h, Op.operands]) hx hg
  generalize ha : a.eval x = u at h1
  cases h1 with
  | agg _ vs hr =>
    obtain ⟨v, hv, hrel⟩ := hr.get hy
    exact ⟨v, by simp [execOp, h, ha, run_fieldV hf.h vs v (by simpa using hv) w], hrel⟩
end
end Go.Eng
