/- Part 4 of the proof: contracts of functions of the program and what they need. No condition beyond those that each theorem names. -/
import Derived.Test.YtpgnjlngepfanaaGreatImageAlikesP3
import Derived.Laws.BytesString
import Derived.RecoverIn
set_option maxHeartbeats 1000000
set_option linter.unusedVariables false
set_option linter.unusedSimpArgs false
namespace Go.Eng
open Go.RowKit (Below)
section
variable {P : Program} {c : Ctx} {r : Option Nat} {ops : Array Oper} {l rest : List Oper} {o : Oper} {st : St} {Q : Exit → Act → World → Prop} {x : AV}
theorem panM {B D : Nat} {I0 : Imm} {w0 : World} {n : Nat} {fn : Func} {Φ : AV → List Ent → Prop} {E : AV → List Ent → Prop} {env : List (Nat × AV)} {H H' H'' : List Ent} {y : AV} {a : Act} {w : World} {v : Value}
  (hD : Del H (.obj D (.deferred (some []))) H'') (hH : H'.Sublist H'') (hE : E y H') (s : Sat ⟨B, I0, w0, n, [mark D]⟩ ⟨env, H⟩ a w) (hy : ∀ J w, Rel J w y v) : bodyPostM (FW none) 0 P fn (RetP B I0 w0 Φ E) (.panic [{ v := v, recovered := false }]) a w := by
 obtain ⟨I, hw, he, hh, hv⟩ := s.mem
 obtain ⟨hB, hb, hni⟩ := hh.ok _ hD.mem
 show LeavesInM _ _ _ _ _ _ a.defers _ _
 rw [show a.defers = [mark D] from s.ds]
 have hk : Keeps I w I (w.putObj D (.deferred none)) := putObj_keeps (B := B) hni
 have hh' : HeapOk B I (w.putObj D (.deferred none)) H'' := by
  refine (hh.sub hD.sub).keep hk (fun f hf b hfb => World.putObj_heap_other (fun e => ?_)) (fun _ _ _ _ _ x => x)
  subst e
  exact hD.apart hh.apart f hf _ rfl hfb
 exact ⟨Ys, .inl ⟨D, _, rfl, run_takeDeferred hb, I, H', hw.putObj hni, he.trans (Ext.putObj hB hni), hh'.sub hH, .inr ⟨v, y, rfl, hy _ _, hE⟩⟩⟩
def SeqS {α : Type} (B : Nat) (P : Program) (gv : AV) (enc : α → AV) (L : List α) (Hs : List Ent) (Hn : List Ent → Prop) (own : AV → Prop) : Prop :=
 ∀ (J Jx : List α → List Ent → Prop) (f : Fn) (fs cs : List AV), CbOk B P (.fn f fs cs) enc L (fun _ => True) J Jx → ∀ H Hx, J [] H →
  VCall B P gv [.fn f fs cs] (H ++ (Hs ++ Hx)) (fun _ H' => ∃ H1 Hs', H' = H1 ++ (Hs' ++ Hx) ∧ ((Hn Hs' ∧ J L H1) ∨ ∃ pre, pre <+: L ∧ Jx pre H1))
   (fun y H' => ∃ H1 Hs', H' = H1 ++ (Hs' ++ Hx) ∧ own y ∧ J L H1)
theorem CW.rangeFuncE {α : Type} {t p : Nat} {assign body : Code} {f : FuncId} {caps : List AV} (enc : α → AV) (L : List α) (J : List α → List Ent → Prop) (Jx : Code → List α → List Ent → Prop) (H Hs Hx : List Ent) (Hn : List Ent → Prop) (own : AV → Prop) (env' : α → List (Nat × AV))
  (hr : r = none) (hH : st.H = H ++ (Hs ++ Hx)) (hg : envGet st.env t = some (.fn (.func f) [] caps)) (hp : Nat.blt p c.n = true) (hseq : SeqS c.B P (.fn (.func f) [] caps) enc L Hs Hn own) (hJ : J [] H)
  (assignOk : ∀ (l : Nat) (I : Imm) (w : World) (x : α) (Hy : List Ent), CW ⟨c.B, I, w, c.n, []⟩ (some l) P assign ⟨(p, enc x) :: st.env, Hy⟩ (Exit.then (fun a w' => ∃ st', st' = (⟨env' x, Hy⟩ : St) ∧ Sat ⟨c.B, I, w, c.n, []⟩ st' a w') (fun _ _ _ => False)))
  (round : ∀ (l D : Nat) (lp : Loop) (pre : List α) (x : α) (H1 Hy : List Ent) (I : Imm) (w : World), pre ++ [x] <+: L → J pre H1 →
   CW ⟨c.B, I, w, c.n, []⟩ (some l) P body ⟨env' x, .loop l lp (envGet st.env) :: .obj D (.deferred (some [])) :: (H1 ++ Hy)⟩ (roundEnd c.B I w l D lp (envGet st.env) J Jx (pre ++ [x]) Hy))
  (done : ∀ (D : Nat) (H1 Hs' : List Ent), Hn Hs' → J L H1 → Done ⟨c.B, c.I0, c.w0, c.n, { target := .collected D, args := #[] } :: c.ds⟩ ⟨st.env, .obj D (.deferred (some [])) :: (H1 ++ (Hs' ++ Hx))⟩ .normal Q)
  (jump : ∀ (D : Nat) (code : Code) (pre : List α) (H1 Hs' : List Ent), pre <+: L → Jx code pre H1 → CW ⟨c.B, c.I0, c.w0, c.n, { target := .collected D, args := #[] } :: c.ds⟩ r P code ⟨st.env, .obj D (.deferred (some [])) :: (H1 ++ (Hs' ++ Hx))⟩ Q)
  (pan : ∀ (D : Nat) (y : AV) (H1 Hs' : List Ent), own y → J L H1 → ∀ (I : Imm) (v : Value) (a : Act) (w : World), Sat ⟨c.B, c.I0, c.w0, c.n, { target := .collected D, args := #[] } :: c.ds⟩ ⟨st.env, .obj D (.deferred (some [])) :: (H1 ++ (Hs' ++ Hx))⟩ a w → Rel I w y v → Q (.panic [{ v := v, recovered := false }]) a w) :
  CW c r P (.rangeFunc (.tmp t) #[p] assign body) st Q := by
 intro a w s
 subst hr
 obtain ⟨I, hw, he, hh, hv⟩ := s.mem
 rw [hH] at hh
 refine wpIn_rangeFunc fun fn hfn => ?_
 obtain ⟨lr, hlr⟩ : ∃ lr : Loop, lr = { state := .ready, pending := none, fn, tmps := a.tmps, params := #[p], assign, body, defers := w.heap.size } := ⟨_, rfl⟩
 have hgv := hv t _ hg
 generalize hu : a.tmps.getD t undef = u at hgv
 cases hgv with
 | fn _ _ _ vf vc hf hc =>
 have hvf : vf = #[] := by cases vf with | mk l => cases hf; rfl
 subst hvf
 have hh1 := hh.newObj hw (.deferred (some []))
 have hw1 := hw.alloc (.deferred (some []))
 have hv1 := hv.keep (keeps_alloc hw (.deferred (some [])))
 have hh2 := hh1.newLoop hw1 lr (envGet st.env) (by rw [hlr]; exact hv1)
 have hw2 := hw1.alloc (.loop lr)
 rw [World.size_alloc] at hh2
 have k2 : Ext c.B I w I ((w.alloc (.deferred (some []))).alloc (.loop lr)) := (ext_alloc hw _).trans (ext_alloc hw1 _)
 let J' : List α → List Ent → Prop := fun pre Hf => ∃ H1, J pre H1 ∧ Hf = .loop (w.heap.size + 1) lr (envGet st.env) :: .obj w.heap.size (.deferred (some [])) :: H1
 let Jx' : List α → List Ent → Prop := fun pre Hf => ∃ code H1, Jx code pre H1 ∧ Hf = .loop (w.heap.size + 1) { lr with state := .done, pending := some code } (envGet st.env) :: .obj w.heap.size (.deferred (some [])) :: H1
 have hsz : a.tmps.size = c.n := s.size
 have hpn : p < c.n := Nat.lt_of_succ_le (by simpa [Nat.blt] using hp)
 have hcb : CbOk c.B P (.fn (.yield (w.heap.size + 1)) [] []) enc L (fun _ => True) J' Jx' := by
  rintro pre x Hf Hy hpx _ ⟨H1, hJ1, rfl⟩ I2 W v vs hwW hhW hvW hvs
  obtain rfl : v = .func (.yield (w.heap.size + 1)) #[] #[] := by
   cases hvW with
   | fn _ _ _ vf vc hf hc =>
    cases vf with
    | mk lf => cases vc with
     | mk lc => cases hf; cases hc; rfl
  cases hvs with
  | cons _ v1 _ vs' hx1 ht =>
  cases ht
  obtain ⟨hBl, hbl, hρ, hnil⟩ := hhW.ok (.loop (w.heap.size + 1) lr (envGet st.env)) Ys
  have hy := run_yield (P := P) (args := #[v1]) hbl (by rw [hlr]; rfl)
  refine .inr ⟨_, rfl, fn, a.tmps.setIfInBounds p v1, assign, body, ?_, ?_⟩
  ·rw [hlr] at hy
   simpa using hy
  ·refine roundIn_of_wpIn (F := FW none) (n := 0) trivial ?_
   have hhW' : HeapOk c.B I2 W (.loop (w.heap.size + 1) lr (envGet st.env) :: .obj w.heap.size (.deferred (some [])) :: (H1 ++ Hy)) := by
    simpa [List.append_assoc] using hhW
   have hst : Sat ⟨c.B, I2, W, c.n, []⟩ ⟨(p, enc x) :: st.env, .loop (w.heap.size + 1) lr (envGet st.env) :: .obj w.heap.size (.deferred (some [])) :: (H1 ++ Hy)⟩ { tmps := a.tmps.setIfInBounds p v1, defers := [] } W := by
    refine ⟨rfl, by simpa using hsz, I2, hwW, Ext.refl _ _ _, hhW', ?_⟩
    refine envGet_zip (a := a) (fun t y hty => ?_) (by rw [hsz]; exact hpn) hx1 []
    have := hρ t y hty
    rw [hlr] at this
    exact this
   refine wpIn_mono (assignOk (w.heap.size + 1) I2 W x _ _ W hst) fun e a3 W3 hp3 => ?_
   cases e with
   | normal =>
    obtain ⟨st', rfl, s3⟩ := hp3
    obtain ⟨I3, hw3, he3, hh3, hv3⟩ := s3.mem
    obtain ⟨hBl3, hbl3, _, hni3⟩ := hh3.ok _ (.head _)
    refine ⟨_, run_beginRound hbl3 (by rw [hlr]), ?_⟩
    have hh4 := hh3.putLoop (lp' := { lr with state := .busy }) (.head _ _ _) rfl
    have he4 : Ext c.B I3 W3 I3 (W3.putObj (w.heap.size + 1) (.loop { lr with state := .busy })) := Ext.putObj hBl3 hni3
    have s4 : Sat ⟨c.B, I2, W, c.n, []⟩ ⟨env' x, .loop (w.heap.size + 1) { lr with state := .busy } (envGet st.env) :: .obj w.heap.size (.deferred (some [])) :: (H1 ++ Hy)⟩ a3 (W3.putObj (w.heap.size + 1) (.loop { lr with state := .busy })) :=
     ⟨s3.ds, s3.size, I3, hw3.putObj hni3, he3.trans he4, hh4, hv3.keep he4.keeps⟩
    refine wpIn_mono (round _ _ _ pre x H1 Hy I2 W hpx hJ1 a3 _ s4) fun e a5 W5 hp5 => ?_
    obtain ⟨I5, H5, hw5, he5, hh5, hcase⟩ := hp5
    obtain ⟨hBl5, hbl5, _, hni5⟩ := hh5.ok _ (.head _)
    have fin : ∀ jp : Option Code, (Instr.endRound (w.heap.size + 1) jp).run P W5 = .ok (.bool jp.isNone) (W5.putObj (w.heap.size + 1) (.loop { lr with state := if jp.isNone then .ready else .done, pending := jp })) ∧
      ∀ (b : Bool) (Hn : List Ent), b = jp.isNone → Hn = .loop (w.heap.size + 1) { lr with state := if jp.isNone then .ready else .done, pending := jp } (envGet st.env) :: .obj w.heap.size (.deferred (some [])) :: H5 → (b = true → J' (pre ++ [x]) Hn) → (b = false → Jx' (pre ++ [x]) Hn) →
       RetP c.B I2 W (fun y H' => ∃ b H1, y = .b b ∧ H' = H1 ++ Hy ∧ (b = true → J' (pre ++ [x]) H1) ∧ (b = false → Jx' (pre ++ [x]) H1)) (fun _ _ => False) (.returned (.bool jp.isNone)) (W5.putObj (w.heap.size + 1) (.loop { lr with state := if jp.isNone then .ready else .done, pending := jp })) := by
     intro jp
     refine ⟨by have h9 := run_endRound (P := P) jp hbl5; exact h9, fun b Hn hb hHn h1 h2 => ?_⟩
     have hh6 := hh5.putLoop (lp' := { lr with state := if jp.isNone then .ready else .done, pending := jp }) (.head _ _ _) rfl
     refine ⟨I5, Hn ++ Hy, hw5.putObj hni5, he5.trans (Ext.putObj hBl5 hni5), ?_, .inl ⟨_, .b b, rfl, by rw [hb]; exact .val _, b, Hn, rfl, rfl, h1, h2⟩⟩
     rw [hHn]
     simpa [List.append_assoc] using hh6
    cases e with
    | normal =>
     obtain ⟨e1, e2⟩ := fin none
     exact ⟨_, _, e1, e2 true _ rfl rfl (fun _ => ⟨H5, hcase, by rw [hlr]; rfl⟩) (fun h => by cases h)⟩
    | ret =>
     obtain ⟨e1, e2⟩ := fin (some .ret)
     exact ⟨_, _, e1, e2 false _ rfl rfl (fun h => by cases h) (fun _ => ⟨.ret, H5, hcase, rfl⟩)⟩
    | exit id =>
     obtain ⟨e1, e2⟩ := fin (some (.exit id))
     exact ⟨_, _, e1, e2 false _ rfl rfl (fun h => by cases h) (fun _ => ⟨.exit id, H5, hcase, rfl⟩)⟩
    | goto t => exact hcase.elim
    | panic ch => exact hcase.elim
    | outgrown => exact hcase.elim
   | exit id => exact hp3.elim
   | goto t => exact hp3.elim
   | ret => exact hp3.elim
   | panic ch => exact hp3.elim
   | outgrown => exact hp3.elim
 have hcall := hseq J' Jx' _ _ _ hcb _ Hx ⟨H, hJ, rfl⟩ I _ (.func (.func f) #[] vc) [.func (.yield (w.heap.size + 1)) #[] #[]] hw2 (by simpa using hh2) (.fn _ _ _ _ _ .nil (hc.keep k2.keeps)) (.cons _ _ _ _ (.fn _ _ _ _ _ .nil .nil) .nil)
 rcases hcall with ⟨f', vf', vc', e1, hok, hcalls⟩ | ⟨l, e1, _⟩
 ·simp only [Value.func.injEq, Fn.func.injEq] at e1
  obtain ⟨rfl, rfl, rfl⟩ := e1
  refine ⟨w.heap.size + 1, [{ target := .collected w.heap.size, args := #[] }], (w.alloc (.deferred (some []))).alloc (.loop lr), { target := .fn (.func f) vc, args := #[.func (.yield (w.heap.size + 1)) #[] #[]] }, (w.alloc (.deferred (some []))).alloc (.loop lr), f,
   #[.func (.yield (w.heap.size + 1)) #[] #[]] ++ vc, (w.alloc (.deferred (some []))).alloc (.loop lr), ?_, ?_, fun _ _ => trivial, ?_, by simp [FW], ?_⟩
  ·rw [hlr]; exact run_enterLoop_outer fn a.tmps #[p] assign body
  ·have hev : a.eval (.tmp t) = .func (.func f) #[] vc := hu
   simp only [resolve, rangeCall, hev]
   simp [Deferred.ofValue, Act.eval]
  ·simp [invoke, run_callFunc hok]
  ·have e0 : (#[] ++ [Value.func (Fn.yield (w.heap.size + 1)) #[] #[]].toArray ++ vc) = #[Value.func (Fn.yield (w.heap.size + 1)) #[] #[]] ++ vc := by simp
   rw [e0] at hcalls
   refine callsIn_FW (hcalls.mono fun e W hR => ?_)
   obtain ⟨I6, H6, hw6, he6, hh6, hor⟩ := hR
   rcases hor with hor | hor
   ·obtain ⟨v, y, rfl, _, hor⟩ := hor
    obtain ⟨Hn', Hs', rfl, hJn⟩ := hor
    rcases hJn with ⟨hns, H1, hJL, rfl⟩ | ⟨pre, hpre, code, H1, hJX, rfl⟩
    ·obtain ⟨hB6, hb6, _, hni6⟩ := hh6.ok _ (.head _)
     have hpn6 : lr.pending = none := by rw [hlr]
     have hrun6 := run_endLoop (P := P) hb6 (by rw [hlr]; simp)
     rw [hpn6] at hrun6
     refine ⟨none, _, hrun6, ?_⟩
     have hh7 := (hh6.putLoop (lp' := { lr with state := .exhausted }) (.head _ _ _) rfl).tail
     have he7 : Ext c.B I6 W I6 (W.putObj (w.heap.size + 1) (.loop { lr with state := .exhausted })) := Ext.putObj hB6 hni6
     rw [hpn6] at he7 hh7
     refine done w.heap.size H1 Hs' hns hJL _ _ ⟨?_, s.size, I6, hw6.putObj hni6, (he.trans (k2.trans he6)).trans he7, hh7, (hv.keep (k2.trans he6).keeps).keep he7.keeps⟩
     show _ :: a.defers = _
     rw [s.ds]
    ·obtain ⟨hB6, hb6, _, hni6⟩ := hh6.ok _ (.head _)
     refine ⟨some code, _, run_endLoop (P := P) hb6 Ys, ?_⟩
     have hh7 := (hh6.putLoop (lp' := { lr with state := .exhausted, pending := some code }) (.head _ _ _) rfl).tail
     have he7 : Ext c.B I6 W I6 (W.putObj (w.heap.size + 1) (.loop { lr with state := .exhausted, pending := some code })) := Ext.putObj hB6 hni6
     refine jump w.heap.size code pre H1 Hs' hpre hJX _ _ ⟨?_, s.size, I6, hw6.putObj hni6, (he.trans (k2.trans he6)).trans he7, hh7, (hv.keep (k2.trans he6).keeps).keep he7.keeps⟩
     show _ :: a.defers = _
     rw [s.ds]
   ·obtain ⟨v, y, rfl, hy, Hn', Hs', rfl, hown, H1, hJL, rfl⟩ := hor
    refine pan w.heap.size y H1 Hs' hown hJL I6 v _ _ ⟨?_, s.size, I6, hw6, he.trans (k2.trans he6), hh6.tail, hv.keep (k2.trans he6).keeps⟩ hy
    show _ :: a.defers = _
    rw [s.ds]
 ·simp at e1
end
section
variable {P : Program} {c : Ctx} {r : Option Nat} {ops : Array Oper} {l rest : List Oper} {o : Oper} {env : List (Nat × AV)} {H : List Ent} {Q : Exit → Act → World → Prop} {d : Nat}
structure AV.Const (y : AV) (v : Value) : Prop where
 is : ∀ (I : Imm) (w : World) (u : Value), Rel I w y u → u = v
 rel : ∀ (I : Imm) (w : World), Rel I w y v
def RCall (P : Program) (f : FuncId) (xs : List AV) (H : List Ent) (o : Option (AV × List Ent)) (Hf : List Ent) (pv : AV) : Prop :=
 ACall P f xs H (fun y H' => o = some (y, H')) (fun y H' => o = none ∧ y = pv ∧ H' = Hf)
theorem RCall.ok {f : FuncId} {xs : List AV} {H1 Hf : List Ent} {y pv : AV} (h : RCall P f xs H (some (y, H1)) Hf pv) : ACall P f xs H (fun y' H' => y' = y ∧ H' = H1) (fun _ _ => False) :=
 ACall.weak h (fun _ _ e => by cases e; exact ⟨rfl, rfl⟩) (fun _ _ ⟨e, _⟩ => by cases e)
theorem RCall.of {f : FuncId} {xs : List AV} {H1 Hf : List Ent} {y pv : AV} (h : ACall P f xs H (fun y' H' => y' = y ∧ H' = H1) (fun _ _ => False)) : RCall P f xs H (some (y, H1)) Hf pv :=
 ACall.weak h (fun _ _ ⟨e, e'⟩ => by rw [e, e']) (fun _ _ e => e.elim)
theorem OL.rcallS {f : FuncId} {xs : List AV} {H1 Hf : List Ent} {y pv : AV} (hg : o.guard = none) (hd : o.dst = some d) (hn : Nat.blt d c.n = true) (hc : CallOk P (envGet env) o f xs) (h : RCall P f xs H (some (y, H1)) Hf pv)
  (next : OL c r P ops rest ⟨(d, y) :: env, H1⟩ Q) : OL c r P ops (o :: rest) ⟨env, H⟩ Q :=
 OL.bcallC hg hd hn hc h.ok.b (fun _ _ ⟨e, e'⟩ => by subst e; subst e'; exact next)
theorem OL.rcallN {f : FuncId} {xs : List AV} {Hf : List Ent} {pv : AV} {v : Value} (hg : o.guard = none) (hd : dstOk c.n o.dst = true) (hc : CallOk P (envGet env) o f xs) (h : RCall P f xs H none Hf pv) (hv : pv.Const v)
  (next : Done c ⟨env, Hf⟩ (.panic [{ v := v, recovered := false }]) Q) : OL c r P ops (o :: rest) ⟨env, H⟩ Q :=
 OL.bcall hg hd hc h.b (fun _ _ e => by cases e) (fun y H' ⟨_, e1, e2⟩ a w s I u hu => by
  subst e1; subst e2
  rw [hv.is I w u hu]; exact next a w s)
theorem OL.panicC {x : Operand} {y : AV} {g : Bool} {t : TypeId} {v : Value} (hgd : o.guard = none) (h : o.op = .panic x) (hx : aev (envGet env) x = some (g, y)) (hg : g = true) (hy : y.Const (.iface t v))
  (next : Done c ⟨env, H⟩ (.panic [{ v := .iface t v, recovered := false }]) Q) : OL c r P ops (o :: rest) ⟨env, H⟩ Q := OL.panicX hgd h hx hg hy.is next
theorem outP {B : Nat} {I0 : Imm} {w0 : World} {n : Nat} {fn : Func} {Φ : AV → List Ent → Prop} {E : AV → List Ent → Prop} {Hf : List Ent} {y : AV} {v : Value} (hy : y.Const v) (hH : Hf.Sublist H) (hE : E y Hf) :
  ∀ a w, Sat ⟨B, I0, w0, n, []⟩ ⟨env, H⟩ a w → bodyPost P fn (RetP B I0 w0 Φ E) (.panic [{ v := v, recovered := false }]) a w :=
 fun a w s => let ⟨J, hw, he, hh, _⟩ := s.mem; ⟨s.ds, J, Hf, hw, he, hh.sub hH, .inr ⟨v, y, rfl, hy.rel _ _, hE⟩⟩
theorem outM {B D : Nat} {I0 : Imm} {w0 : World} {n : Nat} {fn : Func} {Φ : AV → List Ent → Prop} {E : AV → List Ent → Prop} {Hf H'' : List Ent} {y : AV} {v : Value} (hy : y.Const v) (hD : Del H (.obj D (.deferred (some []))) H'') (hH : Hf.Sublist H'') (hE : E y Hf) :
  ∀ a w, Sat ⟨B, I0, w0, n, [mark D]⟩ ⟨env, H⟩ a w → bodyPostM (FW none) 0 P fn (RetP B I0 w0 Φ E) (.panic [{ v := v, recovered := false }]) a w :=
 fun a w s => panM hD hH hE s hy.rel
def strOf (ns : List Int) : ByteArray := ⟨(ns.map fun n => UInt8.ofNat n.toNat).toArray⟩
theorem fold_strOf : ∀ (ns : List Int) (b : ByteArray), ns.foldl (fun r n => r.push (UInt8.ofNat n.toNat)) b = ⟨b.data ++ (ns.map fun n => UInt8.ofNat n.toNat).toArray⟩
 | [], b => by simp
 | n :: ns, b => by
  rw [List.foldl_cons, fold_strOf ns]
  congr 1
  apply Array.ext'
  simp [ByteArray.push]
def bytesStr (P : Program) (src dst : TypeId) : Bool := match P.underlying src, P.underlying dst with
 | some (.slice e), some .string => (match P.underlying e with | some (.int .u8) => true | _ => false)
 | _, _ => false
theorem bytesStr_spec {src dst : TypeId} (h : bytesStr P src dst = true) : ∃ e, P.underlying src = some (.slice e) ∧ P.underlying dst = some .string ∧ P.underlying e = some (.int .u8) := by
 unfold bytesStr at h
 split at h
 ·rename_i e h1 h2
  split at h
  ·rename_i h3; exact ⟨e, h1, h2, h3⟩
  ·cases h
 ·cases h
theorem POp.bytesStr {ρ : Nat → Option AV} {src dst : TypeId} {x : Operand} {g : Bool} {ns : List Int} (h : o.op = .convert src dst x) (hx : aev ρ x = some (g, .sl 1 (ns.map fun n => [.val (.int .u8 n)]))) (hg : g = true) (hb : bytesStr P src dst = true) :
  POp P H ρ o (.val (.string (strOf ns))) := by
 refine .same YB fun I w f ho => ?_
 obtain ⟨e, h1, h2, h3⟩ := bytesStr_spec hb
 have hr := ho.get Yl hx hg
 refine ⟨.string (strOf ns), ?_, .val _⟩
 generalize hu : f.eval x = u at hr
 have fin : ∀ b off n c, u = .slice (some ⟨b, off, none⟩) n c → ns.length = n → (∀ (j : Nat) (v : Value), (ns.map (Value.int .u8))[j]? = some v → w.cell? ⟨b, off + j, none⟩ = some v) → (execOp f.eval o).run P w = .ok (.value (.string (strOf ns))) w := by
  rintro b off n c rfl hl hc
  have hld := run_loadCells_list (P := P) w ⟨b, off, none⟩ (ns.map (Value.int .u8)) (fun j v hj => by rw [Addr.add_lit]; exact hc j v hj)
  rw [List.length_map, hl] at hld
  have hs := run_bytesToString (P := P) w ⟨b, off, none⟩ n c ns hld
  rw [fold_strOf] at hs
  have e3 : (⟨ByteArray.empty.data ++ (ns.map fun n => UInt8.ofNat n.toNat).toArray⟩ : ByteArray) = strOf ns := by unfold strOf; congr 1; apply Array.ext'; rw [Array.toList_append]; rfl
  rw [e3] at hs
  simp [execOp, h, hu, convert, run_underlying h1, run_underlying h2, run_underlying h3, hs]
 generalize hm : (ns.map fun n => [AV.val (.int .u8 n)]) = els at hr
 cases hr with
 | sl0 _ a c =>
  have : ns = [] := by simpa using hm
  subst this
  have e0 : strOf [] = ByteArray.empty := rfl
  rw [e0]
  cases a with
  | none => simp [execOp, h, hu, convert, run_underlying h1, run_underlying h2, run_underlying h3, Conv.bytesToString]
  | some a =>
   have hld := run_loadCells_list (P := P) w a [] (fun j v hj => by simp at hj)
   have hs := run_bytesToString (P := P) w a 0 c [] hld
   simp [execOp, h, hu, convert, run_underlying h1, run_underlying h2, run_underlying h3, hs]
 | sl _ _ b off len cap hl hc hmx he =>
  refine fin b off len cap rfl (by rw [← hl, ← hm]; simp) fun j v hj => ?_
  have hj' : ∃ n, ns[j]? = some n ∧ v = .int .u8 n := by
   rw [List.getElem?_map] at hj
   cases hn : ns[j]? with
   | none => rw [hn] at hj; cases hj
   | some n => rw [hn] at hj; simp at hj; exact ⟨n, rfl, hj.symm⟩
  obtain ⟨n, hn, rfl⟩ := hj'
  have hget : els[j]? = some [AV.val (.int .u8 n)] := by rw [← hm, List.getElem?_map, hn]; rfl
  obtain ⟨_, hcell⟩ := he.get hget
  obtain ⟨v, q1, _, q2⟩ := hcell.get (i := 0) (x := .val (.int .u8 n)) rfl
  rw [rel_val q2] at q1
  simpa using q1
theorem POp.eqS {ρ : Nat → Option AV} {t t' : TypeId} {x y : Operand} {a b : ByteArray} {gx gy : Bool} (h : o.op = .binOp .eql t x y t') (hx : aev ρ x = some (gx, .val (.string a))) (hy : aev ρ y = some (gy, .val (.string b)))
  (hgx : gx = true) (hgy : gy = true) : POp P H ρ o (.b (a.data.toList == b.data.toList)) := by
 refine .same YB fun I w f ho => ?_
 have h1 := rel_val (ho.get Yl hx hgx)
 have h2 := rel_val (ho.get Yl hy hgy)
 exact ⟨.bool (a.data.toList == b.data.toList), by simp [execOp, h, h1, h2, eqGuard, binOp, Op.stringOp, ByteArray.toList_eq], .val _⟩
theorem strOf_eq (l m : List (Fin 256)) : ((strOf (l.map fun x => (x.val : Int))).data.toList == (strOf (m.map fun x => (x.val : Int))).data.toList) = (l == m) := by
 have e : ∀ l : List (Fin 256), (strOf (l.map fun x => (x.val : Int))).data.toList = l.map fun x => UInt8.ofNat x.val := fun l => by simp [strOf, Function.comp_def]
 rw [e, e]
 have inj : ∀ x y : Fin 256, UInt8.ofNat x.val = UInt8.ofNat y.val → x = y := fun x y h => by
  have := congrArg UInt8.toNat h
  simp only [UInt8.toNat_ofNat'] at this
  ext; omega
 by_cases h : l = m
 ·subst h; simp
 ·rw [beq_eq_false_iff_ne.2 h, beq_eq_false_iff_ne.2 fun k => h ((List.map_inj_right inj).1 k)]
theorem run_slTo3 {t : TypeId} {k : Nat} (ht : slSize P t = some k) (a : Option Addr) (len cap n : Nat) (kh km : IntKind) (h1 : n ≤ cap) (w : World) :
  (Instr.sliceAt t (.slice a len cap) none (some (.int kh (n : Int))) (some (.int km (n : Int)))).run P w = .ok (.slice a n n) w := by
 obtain ⟨e, inf, hu, hi', hk⟩ := slSize_spec ht
 cases n with
 | zero => simp [Instr.sliceAt, Instr.slice, run_underlying hu, Instr.sliceBounds, Instr.sliceBound, asIntOf, sizeOf, typeInfo, hi', hk]
 | succ n =>
  cases a with
  | none =>
   have h2 : (n : Int) + 1 ≤ cap := by omega
   simp [Instr.sliceAt, Instr.slice, run_underlying hu, Instr.sliceBounds, Instr.sliceBound, asIntOf, sizeOf, typeInfo, hi', hk, h1, h2, show (0 : Int) ≤ (n : Int) + 1 by omega]
  | some a =>
   have h2 : (n : Int) + 1 ≤ cap := by omega
   simp [Instr.sliceAt, Instr.slice, run_underlying hu, Instr.sliceBounds, Instr.sliceBound, asIntOf, sizeOf, typeInfo, hi', hk, h1, h2, show (0 : Int) ≤ (n : Int) + 1 by omega, Addr.add]
theorem POp.slTo3 {α : Type} {F : List α → List (List AV)} {enc : α → List AV} {xs : List α} {ρ : Nat → Option AV} {t : TypeId} {x y z : Operand} {k : Nat} {n : Nat} {gx gh gm : Bool} {kh km : IntKind} [ht : HasSl P t k] [hF : MapLike F enc] (h : o.op = .slice t x none (some y) (some z)) (hx : aev ρ x = some (gx, .sl k (F xs))) (hgx : gx = true)
  (hhi : aev ρ y = some (gh, .val (.int kh (n : Int)))) (hgh : gh = true) (hmx : aev ρ z = some (gm, .val (.int km (n : Int)))) (hgm : gm = true) (h1 : n ≤ xs.length) : POp P H ρ o (.sl k (F (xs.take n))) := by
 rw [hF.h] at hx
 rw [hF.h]
 refine .same YB fun I w f ho => ?_
 have r1 := ho.get Yl hx hgx
 have r2 := rel_val (ho.get Yl hhi hgh)
 have r3 := rel_val (ho.get Yl hmx hgm)
 generalize hu : f.eval x = u at r1
 rw [List.map_take]
 have hl' : n ≤ (xs.map enc).length := by simpa using h1
 revert r1 hl'
 generalize xs.map enc = els
 intro r1 hl'
 cases r1 with
 | sl0 _ a c =>
  have hn0 : n = 0 := by simpa using hl'
  have e1 : (execOp f.eval o).run P w = .ok (.value (.slice a n n)) w := by
   have := run_slTo3 ht.h a 0 c n kh km Yb w
   simp [execOp, h, hu, r2, r3, this]
  subst hn0
  exact ⟨_, e1, .sl0 _ _ _⟩
 | sl _ _ b off len cap hl hc hm he =>
  have hn : n ≤ cap := by omega
  have e1 : (execOp f.eval o).run P w = .ok (.value (.slice (some ⟨b, off, none⟩) n n)) w := by
   have := run_slTo3 ht.h (some ⟨b, off, none⟩) len cap n kh km hn w
   simp [execOp, h, hu, r2, r3, this]
  exact ⟨_, e1, .sl _ _ b off n n (by rw [List.length_take]; omega) (Nat.le_refl _) Yb (he.take n)⟩
end
def ShutS (l : List Oper) (S : Nat → Bool) : Prop := ∀ i oi, l[i]? = some oi → S i = true → ∀ j, ((masks l []).getD i 0).testBit j = true → S j = true
def addS (S : Nat → Bool) (i : Nat) : Nat → Bool := fun j => if j = i then true else S j
abbrev PX := Nat → Imm → World → List PanicEntry → World → Prop
abbrev noX : PX := fun _ _ _ _ _ => False
def EOkX (X : PX) (P : Program) (M0 M1 : Mem) (ops : List Oper) (env : List (Nat × AV)) (o : Oper) (y : AV) : Prop :=
 o.guard = none ∧ ∀ (B : Nat) (I : Imm) (w : World) (r : Option Nat) (a : Act), WOk B I w → M0 B a I w → OpsOk I w (envGet env) a o → (∀ d, o.dst = some d → d < a.tmps.size) →
  Runs P r o a w (fun v w' => ∃ I', WOk B I' w' ∧ Ext B I w I' w' ∧ M1 B (a.put o.dst v) I' w' ∧ Rel I' w' y v) (X B I w)
theorem EOkX.congr {X : PX} {P : Program} {H0 H1 : Mem} {ops : List Oper} {env env' : List (Nat × AV)} {o : Oper} {y : AV} (h : EOkX X P H0 H1 ops env o y) (same : ∀ t ∈ looks ops o, envGet env t = envGet env' t) : EOkX X P H0 H1 ops env' o y :=
 ⟨h.1, fun B I w r a hw hm ho hz => h.2 B I w r a hw hm (ho.congr fun t ht => same t (mem_looks ht)) hz⟩
theorem EOkX.run {X : PX} {c : Ctx} {r : Option Nat} {P : Program} {l : List Oper} {H H1 : Mem} {env : List (Nat × AV)} {o : Oper} {y : AV} {Q : Exit → Act → World → Prop} (h : EOkX X P H H1 l env o y) {i : Nat} (hi : l[i]? = some o)
  {a : Act} {w : World} {I : Imm} (hw : WOk c.B I w) (hh : H c.B a I w) (hv : ∀ t ∈ looks l o, ∀ z, envGet env t = some z → Rel I w z (a.tmps.getD t undef)) (hn : ∀ t ∈ looks l o, t < a.tmps.size) (hz : ∀ d, o.dst = some d → d < a.tmps.size)
  {K : Act → World → Prop} (hK : ∀ v w' I', WOk c.B I' w' → Ext c.B I w I' w' → H1 c.B (a.put o.dst v) I' w' → Rel I' w' y v → K (a.put o.dst v) w') (hX : ∀ ch w', X c.B I w ch w' → Q (.panic ch) a w') : wpOpIn (FW r) 0 P l.toArray Q i K a w := by
 obtain ⟨hg, hs⟩ := h
 have hops : OpsOk I w (envGet env) a o := fun x hx z hz => by
  cases x with
  | tmp t => exact hv t (mem_looks (by simpa using hx)) z hz
  | const v => simp [aeval] at hz; subst hz; exact rel_const v
  | global g => simp [aeval] at hz; subst hz; exact .val _
  | func f => simp [aeval] at hz; subst hz; exact .fn _ _ _ _ _ .nil .nil
 have hio : l.toArray[i]? = some o := by simpa using hi
 unfold wpOpIn
 simp only [hio]
 have hwant : Region.wanted o (yielded l.toArray a.tmps) = true := by simp [Region.wanted, hg]
 rw [if_pos hwant]
 exact hs c.B I w r a hw hh hops hz K Q (fun v w' ⟨I', h1, h2, h3, h4⟩ => hK v w' I' h1 h2 h3 h4) hX
def UOkX (X : PX) (P : Program) (M : (Nat → Bool) → Mem) (l : List Oper) (i : Nat) (env : List (Nat × AV)) (o : Oper) (x : AV) : Prop :=
 ∀ S, ShutS l S → (∀ j, ((masks l []).getD i 0).testBit j = true → S j = true) → S i = false → EOkX X P (M S) (M (addS S i)) l env o x
def UDX (X : PX) (P : Program) (M : (Nat → Bool) → Mem) (l : List Oper) (n : Nat) : Nat → List Oper → List (Nat × AV) → (List (Nat × AV) → Prop) → Prop
 | _, [], env, K => K env
 | i, o :: rest, env, K => ∃ x, UOkX X P M l i env o x ∧ dstOk n o.dst = true ∧ UDX X P M l n (i + 1) rest (putEnv o.dst x env) K
abbrev UD := UDX noX
theorem UD_spec {X : PX} {P : Program} {M : (Nat → Bool) → Mem} {ops : List Oper} {n : Nat} : ∀ (k : Nat) (l : List Oper) (env : List (Nat × AV)) (K : List (Nat × AV) → Prop), UDX X P M ops n k l env K →
  ∃ xs : List AV, xs.length = l.length ∧ K (puts env l xs) ∧ ∀ i o x, l[i]? = some o → xs[i]? = some x → UOkX X P M ops (k + i) (puts env (l.take i) (xs.take i)) o x ∧ dstOk n o.dst = true
 | k, [], env, K, h => ⟨[], rfl, h, Ys⟩
 | k, o :: l, env, K, ⟨x, h1, h2, h3⟩ => by
  obtain ⟨xs, hl, hK, hx⟩ := UD_spec (k + 1) l _ K h3
  refine ⟨x :: xs, by simp [hl], hK, fun i o' x' ho' hx' => ?_⟩
  cases i with
  | zero =>
   simp at ho' hx'
   subst ho'; subst hx'
   exact ⟨h1, h2⟩
  | succ i =>
   simp at ho' hx'
   have := hx i o' x' ho' hx'
   rw [show k + 1 + i = k + (i + 1) by omega] at this
   exact this
theorem UDX.mono {X : PX} {P : Program} {M : (Nat → Bool) → Mem} {ops : List Oper} {n : Nat} {K K' : List (Nat × AV) → Prop} (hk : ∀ env, K env → K' env) : ∀ {k : Nat} {l : List Oper} {env : List (Nat × AV)}, UDX X P M ops n k l env K → UDX X P M ops n k l env K'
 | _, [], _, h => hk _ h
 | _, _ :: _, _, ⟨x, h1, h2, h3⟩ => ⟨x, h1, h2, h3.mono hk⟩
section
variable {c : Ctx} {r : Option Nat} {P : Program} {l : List Oper} {st : St} {Q : Exit → Act → World → Prop}
theorem DP.anyUX {X : PX} {k m : Nat} {M : (Nat → Bool) → Mem} (hchk : segChk l k m = true) (hkm : k ≤ m) (hml : m ≤ l.length) (hlk : (l.all fun o => (looks l o).all fun t => Nat.blt t c.n) = true) (hH : ∀ B a I w, HeapOk B I w st.H → M (fun i => Nat.blt i k) B a I w)
  (pan : ∀ (I : Imm) (w : World) (a : Act) ch w', a.defers = c.ds → a.tmps.size = c.n → WOk c.B I w → Ext c.B c.I0 c.w0 I w → X c.B I w ch w' → Q (.panic ch) a w')
  (h : UDX X P M l c.n k ((l.drop k).take (m - k)) st.env fun env => ∀ a w I, a.defers = c.ds → a.tmps.size = c.n → WOk c.B I w → Ext c.B c.I0 c.w0 I w → M (fun i => Nat.blt i m) c.B a I w → EnvOk I w (envGet env) a → KD c r P l Q m a w) : DP c r P l Q k st := by
 have ok := segOk_of hchk
 obtain ⟨xs, hxl, htail, hspec⟩ := UD_spec _ _ _ _ h
 have hxm : xs.length = m - k := by rw [hxl, List.length_take, List.length_drop]; omega
 generalize hS : (l.drop k).take (m - k) = S at *
 have takeAt : ∀ (i : Nat) (o : Oper), S[i]? = some o ↔ i < m - k ∧ l[k + i]? = some o := by
  intro i o
  rw [← hS, List.getElem?_take]
  by_cases hi : i < m - k
  ·rw [if_pos hi, List.getElem?_drop]; simp [hi]
  ·rw [if_neg hi]; simp [hi]
 generalize hF : puts st.env S xs = envF at htail
 have hlook : ∀ (i : Nat) (o : Oper), l[i]? = some o → ∀ t ∈ looks l o, t < c.n := by
  intro i o ho t ht
  simp only [List.all_eq_true] at hlk
  have := hlk o (List.mem_of_getElem? ho) t ht
  exact Nat.lt_of_succ_le Ybe
 have fin : ∀ (i : Nat) (o : Oper) (x : AV), i < m - k → l[k + i]? = some o → xs[i]? = some x → UOkX X P M l (k + i) envF o x ∧ dstOk c.n o.dst = true := by
  intro i o x hi ho hx
  obtain ⟨h1, h2⟩ := hspec i o x ((takeAt i o).2 ⟨hi, ho⟩) hx
  refine ⟨?_, h2⟩
  have same : ∀ t ∈ looks l o, envGet (puts st.env (S.take i) (xs.take i)) t = envGet envF t := by
   intro t ht
   rw [← hF, puts_split i S xs st.env hxl]
   symm
   apply puts_other
   intro j o' ho' e
   rw [List.getElem?_drop] at ho'
   obtain ⟨hj, hoj⟩ := (takeAt _ _).1 ho'
   have := (ok.looked (k + i) o (k + (i + j)) o' t Yb Yb ho Yb Yb hoj e ht).1
   omega
  exact fun S hS1 hS2 hS3 => (h1 S hS1 hS2 hS3).congr same
 have finAt : ∀ (i : Nat) (o : Oper) (x : AV) (t : Nat), i < m - k → l[k + i]? = some o → xs[i]? = some x → o.dst = some t → envGet envF t = some x := by
  intro i o x t hi ho hx hd
  rw [← hF]
  refine puts_at S xs st.env i t o x ((takeAt i o).2 ⟨hi, ho⟩) hx hd (fun j o' ho' e => ?_)
  obtain ⟨hj, hoj⟩ := (takeAt _ _).1 ho'
  rcases Nat.decEq j i with hne | he
  ·exact absurd hd (ok.apart (k + i) o (k + j) o' t Yb Yb ho Yb Yb hoj e Yb)
  ·exact he
 have finOther : ∀ t, (∀ (i : Nat) (o : Oper), i < m - k → l[k + i]? = some o → o.dst ≠ some t) → envGet envF t = envGet st.env t := by
  intro t ht
  rw [← hF]
  exact puts_other _ _ _ _ fun i o ho => let ⟨h1, h2⟩ := (takeAt i o).1 ho; ht i o h1 h2
 have main : ∀ (cnt fuel : Nat) (listed : Array Bool) (a : Act) (w : World) (I : Imm), listed.size = l.length → (cnt = (List.range m).countP fun i => !listed.getD i false) → cnt + (l.length - m) ≤ fuel → Closed l (fun i => listed.getD i false = true) →
   (∀ i, i < k → listed.getD i false = true) → (∀ i, listed.getD i false = true → i < m) → a.defers = c.ds → a.tmps.size = c.n → WOk c.B I w → Ext c.B c.I0 c.w0 I w → M (fun s => listed.getD s false) c.B a I w →
   (∀ t x, envGet envF t = some x → (∀ (i : Nat) (o : Oper), i < m - k → l[k + i]? = some o → o.dst = some t → listed.getD (k + i) false = true) → Rel I w x (a.tmps.getD t undef)) →
   wpAnyIn (FW r) 0 P .any l.toArray Q fuel listed a w := by
  intro cnt
  induction cnt with
  | zero =>
   intro fuel listed a w I hsz hf hfu hcl hlk' hlm hd hts hw he hh hv
   have hall : ∀ i, i < m → listed.getD i false = true := by
    intro i hi
    have := List.countP_eq_zero.1 hf.symm i (by simpa using hi)
    simpa using this
   have hst : (fun s => listed.getD s false) = fun i => Nat.blt i m := funext fun i => by
    rw [Bool.eq_iff_iff]
    exact ⟨fun h => by have := hlm i h; exact Nat.ble_eq_true_of_le this, fun h => hall i (Nat.lt_of_succ_le Ybc)⟩
   rw [hst] at hh
   exact htail a w I hd hts hw he hh (fun t x hx => hv t x hx (fun i o hi _ _ => hall (k + i) Yb)) fuel listed hsz (fun i => ⟨hlm i, hall i⟩) Yb
  | succ cnt ih =>
   intro fuel listed a w I hsz hf hfu hcl hlk' hlm hd hts hw he hh hv
   obtain ⟨fuel, rfl⟩ : ∃ f, fuel = f + 1 := ⟨fuel - 1, Yb⟩
   have hex : ∃ i, i < m ∧ listed.getD i false = false ∧ ∀ j, j < i → listed.getD j false = true := by
    have : ∃ i, i < m ∧ listed.getD i false = false := by
     refine Classical.byContradiction fun hn => ?_
     have : (List.range m).countP (fun i => !listed.getD i false) = 0 := by
      rw [List.countP_eq_zero]
      intro i hi
      simp only [List.mem_range] at hi
      cases hx : listed.getD i false with
      | true => simp
      | false => exact absurd ⟨i, hi, hx⟩ hn
     omega
    obtain ⟨i, hi⟩ := this
    induction i using Nat.strongRecOn with
    | _ i ihi =>
     by_cases hx : ∃ j, j < i ∧ listed.getD j false = false
     ·obtain ⟨j, hj, hj2⟩ := hx
      exact ihi j hj ⟨Yb, hj2⟩
     ·exact ⟨i, hi.1, hi.2, fun j hj => by
       cases hy : listed.getD j false with
       | true => rfl
       | false => exact absurd ⟨j, hj, hy⟩ hx⟩
   obtain ⟨i0, hi0m, hi0, hi0b⟩ := hex
   have hi0k : k ≤ i0 := by
    rcases Nat.lt_or_ge i0 k with h | h
    ·rw [hlk' i0 h] at hi0; cases hi0
    ·exact h
   refine ⟨fun h0 => ?_, fun i hi => ?_⟩
   ·exfalso
    have hok : l[i0]? = some l[i0] := List.getElem?_eq_getElem Yb
    have : i0 ∈ Region.ready .any l.toArray listed := by
     rw [mem_ready]
     refine ⟨Ybk, l[i0], Ys, fun e he hb => ?_⟩
     exact hi0b _ (ok.back i0 _ hok e.on YY)
    rw [h0] at this; cases this
   ·obtain ⟨h1, o, h2, h3⟩ := mem_ready.1 hi
    have ho : l[i]? = some o := by simpa using h2
    have hlt : i < l.length := (List.getElem?_eq_some_iff.1 ho).1
    rw [getD_true_iff Yb] at h1
    have hdeps : ∀ k ∈ deps o, listed.getD k false = true := by
     intro k hk
     simp only [deps, List.mem_filterMap] at hk
     obtain ⟨e, he, hb⟩ := hk
     split at hb
     ·rename_i hbi; simp at hb; subst hb; exact h3 e Ya6 hbi
     ·cases hb
    have hms : (masks l [])[i]? = some ((masks l []).getD i 0) := by
     have : i < (masks l []).length := by rw [masks_len]; simpa using hlt
     simp [List.getD, this]
    have hanc := masks_spec l _ hcl l [] Ys Ys Ys i _ o hms ho hdeps
    have hik : k ≤ i := by
     rcases Nat.lt_or_ge i k with h | h
     ·rw [hlk' i h] at h1; cases h1
     ·exact h
    have him : i < m := by
     rcases Nat.lt_or_ge i m with h | h
     ·exact h
     ·have := hanc i0 (ok.tail i h hlt i0 hi0k hi0m)
      rw [hi0] at this; cases this
    obtain ⟨q, rfl⟩ : ∃ q, i = k + q := ⟨i - k, Yb⟩
    have hq : q < m - k := by omega
    have hxi : xs[q]? = some xs[q] := List.getElem?_eq_getElem Yb
    obtain ⟨hA, hdst⟩ := fin q o _ hq ho hxi
    have avail : ∀ t ∈ looks l o, ∀ (i' : Nat) (o' : Oper), i' < m - k → l[k + i']? = some o' → o'.dst = some t → listed.getD (k + i') false = true := fun t ht i' o' hi' ho' hd' => hanc _ (ok.looked (k + q) o (k + i') o' t hik him ho Yb Yb ho' hd' ht).2
    have hshut : ShutS l fun s => listed.getD s false := fun s os hos hs j hj => by
     have hsl : s < l.length := (List.getElem?_eq_some_iff.1 hos).1
     have hms2 : (masks l [])[s]? = some ((masks l []).getD s 0) := by
      have : s < (masks l []).length := by rw [masks_len]; simpa using hsl
      simp [List.getD, this]
     exact masks_spec l _ hcl l [] Ys Ys Ys s _ _ hms2 hos (fun j hj => hcl s _ hs hos j hj) j hj
    refine (hA _ hshut hanc h1).run (c := c) ho hw hh (fun t ht z hz => hv t z hz (avail t ht)) (fun t ht => by rw [hts]; exact hlook _ o ho t ht) (fun d' hd' => by rw [hts]; rw [hd'] at hdst; exact Nat.lt_of_succ_le YaY) ?_ (fun ch w' hx => pan I w a ch w' hd hts hw he hx)
    intro v w' I' hw' he' hh' hx
    have hset : ∀ j, (listed.setIfInBounds (k + q) true).getD j false = if k + q = j then true else listed.getD j false := fun j => getD_set _ _ _ Yb
    have hsetS : (fun s => (listed.setIfInBounds (k + q) true).getD s false) = addS (fun s => listed.getD s false) (k + q) := by
     funext j
     rw [hset]
     unfold addS
     by_cases e : k + q = j
     ·rw [if_pos e, if_pos e.symm]
     ·rw [if_neg e, if_neg fun h => e h.symm]
    refine ih fuel (listed.setIfInBounds (k + q) true) _ w' I' (by simp [hsz]) ?_ Yb ?_ ?_ ?_ (by rw [put_defers]; exact hd) (by rw [tmps_put_size]; exact hts) hw' (he.trans he') (by rw [hsetS]; exact hh') ?_
    ·have : (List.range m).countP (fun j => !listed.getD j false) = (List.range m).countP (fun j => !(listed.setIfInBounds (k + q) true).getD j false) + 1 := by
      have key : ∀ (n : Nat), (List.range n).countP (fun j => !listed.getD j false) = (List.range n).countP (fun j => !(listed.setIfInBounds (k + q) true).getD j false) + (if k + q < n then 1 else 0) := by
       intro n
       induction n with
       | zero => simp
       | succ n ihn =>
        rw [List.range_succ, List.countP_append, List.countP_append, ihn]
        simp only [List.countP_cons, List.countP_nil, Nat.zero_add, hset n]
        by_cases e : k + q = n
        ·subst e
         rw [if_neg (Nat.lt_irrefl _), if_pos (Nat.lt_succ_self _), if_pos rfl, h1]
         simp
        ·rw [if_neg e]
         by_cases hlt' : k + q < n
         ·rw [if_pos hlt', if_pos (Nat.lt_succ_of_lt hlt')]; omega
         ·rw [if_neg hlt', if_neg (show ¬ k + q < n + 1 by omega)]; omega
      rw [key, if_pos him]
     omega
    ·intro j oj hj hoj k' hk
     rw [hset]
     by_cases e : k + q = k'
     ·rw [if_pos e]
     ·rw [if_neg e]
      rw [hset] at hj
      by_cases e' : k + q = j
      ·subst e'
       rw [ho] at hoj; cases hoj
       exact hdeps k' hk
      ·rw [if_neg e'] at hj
       exact hcl j oj hj hoj k' hk
    ·intro j hj
     rw [hset, if_neg Yb]
     exact hlk' j hj
    ·intro j hj
     rw [hset] at hj
     by_cases e : k + q = j
     ·omega
     ·rw [if_neg e] at hj; exact hlm j hj
    ·intro t x hxt hav
     by_cases hdt : o.dst = some t
     ·rw [hdt]
      have : x = xs[q] := by
       have := finAt q o _ t hq ho hxi hdt
       rw [this] at hxt; exact (Option.some.inj hxt).symm
      subst this
      rw [tmps_put_same Yan]
      exact hx
     ·have hold : Rel I w x (a.tmps.getD t undef) := hv t x hxt fun i' o' hi' ho' hd' => by
       have := hav i' o' hi' ho' hd'
       rw [hset] at this
       by_cases e : k + q = k + i'
       ·have e2 : q = i' := by omega
        subst e2
        rw [ho] at ho'; cases ho'
        exact absurd hd' hdt
       ·rw [if_neg e] at this; exact this
      have hget : (a.put o.dst v).tmps.getD t undef = a.tmps.getD t undef := by
       cases hod : o.dst with
       | none => rfl
       | some d => exact tmps_put_other (fun e => hdt (by rw [hod, e]))
      rw [hget]
      exact hold.keep he'.keeps
 intro a w s fuel listed hsz hli hfu
 obtain ⟨I, hw, he, hh, hv⟩ := s.mem
 have hst0 : (fun s => listed.getD s false) = fun i => Nat.blt i k := funext fun i => by
  rw [Bool.eq_iff_iff]
  exact ⟨fun h => Nat.ble_eq_true_of_le ((hli i).1 h), fun h => (hli i).2 (Nat.lt_of_succ_le Ybc)⟩
 refine main _ fuel listed a w I hsz rfl ?_ (fun i o hi ho j hj => (hli j).2 Ya0) (fun i hi => (hli i).2 hi) (fun i hi => by have := (hli i).1 hi; omega) s.ds s.size hw he (by rw [hst0]; exact hH _ _ _ _ hh) ?_
 ·have : (List.range m).countP (fun i => !listed.getD i false) ≤ m - k := by
   have e : List.range m = List.range k ++ (List.range (m - k)).map (k + ·) := by
    rw [← List.range_add]; congr 1; omega
   rw [e, List.countP_append]
   have z : (List.range k).countP (fun i => !listed.getD i false) = 0 := by
    rw [List.countP_eq_zero]; intro i hi; simp only [List.mem_range] at hi; simp [(hli i).2 hi]
   rw [z]
   have := List.countP_le_length (p := fun i => !listed.getD i false) (l := (List.range (m - k)).map (k + ·))
   simpa using this
  omega
 ·intro t x hx hav
  have : envGet st.env t = some x := by
   rw [← finOther t (fun i o hi ho hd => ?_)]
   ·exact hx
   ·have := hav i o hi ho hd
    have := (hli (k + i)).1 this
    omega
  exact hv t x this
theorem DP.anyU {k m : Nat} {M : (Nat → Bool) → Mem} (hchk : segChk l k m = true) (hkm : k ≤ m) (hml : m ≤ l.length) (hlk : (l.all fun o => (looks l o).all fun t => Nat.blt t c.n) = true) (hH : ∀ B a I w, HeapOk B I w st.H → M (fun i => Nat.blt i k) B a I w)
  (h : UD P M l c.n k ((l.drop k).take (m - k)) st.env fun env => ∀ a w I, a.defers = c.ds → a.tmps.size = c.n → WOk c.B I w → Ext c.B c.I0 c.w0 I w → M (fun i => Nat.blt i m) c.B a I w → EnvOk I w (envGet env) a → KD c r P l Q m a w) : DP c r P l Q k st :=
 DP.anyUX hchk hkm hml hlk hH (fun _ _ _ _ _ _ _ _ _ h => h.elim) h
end
structure VS where
 e : Nat
 d : Nat
 t : TypeId
 zs : List Value
 s : Nat
 ys : List AV
theorem Upd.under {e e' : Ent} {H : List Ent} : ∀ (X : List Ent), Upd (X ++ e :: H) e e' (X ++ e' :: H)
 | [] => .head _ _ _
 | f :: X => .tail _ _ _ _ _ (Upd.under X)
section
variable {c : Ctx} {r : Option Nat} {P : Program} {l : List Oper} {Q : Exit → Act → World → Prop}
theorem EnvOk.vars {I : Imm} {w : World} {a : Act} {env : List (Nat × AV)} {bs : Nat → Nat} (h : EnvOk I w (envGet env) a) : ∀ (vs : List VS), (∀ v ∈ vs, a.tmps.getD v.d undef = .pointer (some ⟨bs v.d, 0, none⟩)) → EnvOk I w (envGet (vs.map (fun v => (v.d, AV.p (bs v.d) 0)) ++ env)) a
 | [], _ => h
 | v :: r, hv => fun t x hx => by
  rw [List.map_cons, List.cons_append, envGet_cons] at hx
  split at hx
  ·rename_i e
   cases hx
   subst e
   rw [hv v (.head _)]; exact .val _
  ·exact EnvOk.vars h r (fun u hu => hv u (.tail _ hu)) t x hx
end
section
variable {P : Program} {L rest : List Oper} {vs : List VS} {n i d : Nat} {o : Oper} {env : List (Nat × AV)} {K : List (Nat × AV) → Prop} {x : AV} {H : List Ent}
theorem UD.nil {X : PX} {M : (Nat → Bool) → Mem} (h : K env) : UDX X P M L n i [] env K := h
theorem addS_other {S : Nat → Bool} {i j : Nat} (h : j ≠ i) : addS S i j = S j := if_neg h
theorem addS_same {S : Nat → Bool} {i : Nat} : addS S i i = true := if_pos rfl
end
structure CE where
 i : Nat
 d : Nat
 u : Bool
def CE.inst (es : List CE) (p : List Bool) (f : Nat → Value) : List (Option Value) := List.zipWith (fun e b => if b then some (f e.d) else none) es p
def CE.vals : List CE → List Bool → (Nat → Value) → List (Nat × AV)
 | e :: es, b :: p, f => match b, e.u with
  | true, true => (e.d, .val (f e.d)) :: CE.vals es p f
  | _, _ => CE.vals es p f
 | _, _, _ => []
def CE.pat (es : List CE) (S : Nat → Bool) : List Bool := es.map fun e => S e.i
def XM {G : Type} (HS : G → List (Option Value) → List Ent) (es : List CE) (S : Nat → Bool) : Mem := fun B a I w => ∃ g, HeapOk B I w (HS g (CE.inst es (CE.pat es S) fun d => a.tmps.getD d undef))
def CE.okPat (L : List Oper) (es : List CE) (i : Nat) (p : List Bool) : Bool := (es.zip p).all fun x => (!((masks L []).getD i 0).testBit x.1.i || x.2) && (!x.2 || (!((masks L []).getD x.1.i 0).testBit i && !Nat.beq x.1.i i && (es.zip p).all fun y => !((masks L []).getD x.1.i 0).testBit y.1.i || y.2))
def bools : Nat → List (List Bool)
 | 0 => [[]]
 | n + 1 => (bools n).flatMap fun p => [false :: p, true :: p]
def CE.fits (L : List Oper) (es : List CE) (i : Nat) (pats : List (List Bool)) : Bool := (es.all fun e => Nat.blt e.i L.length) && (bools es.length).all fun p => !CE.okPat L es i p || pats.contains p
def AllP {α : Type} : List α → (α → Prop) → Prop
 | [], _ => True
 | a :: r, Q => Q a ∧ AllP r Q
theorem AllP.at {α : Type} {Q : α → Prop} : ∀ {l : List α}, AllP l Q → ∀ a ∈ l, Q a
 | _ :: _, ⟨h, _⟩, _, .head _ => h
 | _ :: _, ⟨_, h⟩, _, .tail _ ha => AllP.at h _ ha
theorem bools_all : ∀ (p : List Bool), p ∈ bools p.length
 | [] => .head _
 | b :: p => List.mem_flatMap.2 ⟨p, bools_all p, by cases b <;> simp⟩
theorem inst_pat (es : List CE) (S : Nat → Bool) (f : Nat → Value) : CE.inst es (CE.pat es S) f = es.map fun e => if S e.i then some (f e.d) else none := by
 induction es with
 | nil => rfl
 | cons e r ih => simp only [CE.inst, CE.pat, List.map_cons, List.zipWith_cons_cons] at ih ⊢; rw [ih]
theorem zip_pat {es : List CE} {S : Nat → Bool} : ∀ x ∈ es.zip (CE.pat es S), x.1 ∈ es ∧ x.2 = S x.1.i := by
 induction es with
 | nil => intro x hx; cases hx
 | cons e r ih =>
  intro x hx
  simp only [CE.pat, List.map_cons, List.zip_cons_cons, List.mem_cons] at hx
  rcases hx with rfl | hx
  ·exact ⟨.head _, rfl⟩
  ·exact ⟨.tail _ (ih x hx).1, (ih x hx).2⟩
theorem CE.fits_of {L : List Oper} {es : List CE} {i : Nat} {pats : List (List Bool)} {S : Nat → Bool} (h : CE.fits L es i pats = true) (hs : ShutS L S) (hm : ∀ j, ((masks L []).getD i 0).testBit j = true → S j = true) (hi : S i = false) : CE.pat es S ∈ pats := by
 simp only [CE.fits, Bool.and_eq_true, List.all_eq_true] at h
 obtain ⟨hb, h⟩ := h
 have hlt : ∀ e ∈ es, e.i < L.length := fun e he => Nat.lt_of_succ_le (by simpa [Nat.blt] using hb e he)
 have h1 := h (CE.pat es S) (by have := bools_all (CE.pat es S); rwa [CE.pat, List.length_map] at this)
 have key : CE.okPat L es i (CE.pat es S) = true := by
  rw [CE.okPat, List.all_eq_true]
  intro x hx
  obtain ⟨x1, x2⟩ := zip_pat x hx
  rw [Bool.and_eq_true]
  refine ⟨?_, ?_⟩
  ·cases hb : ((masks L []).getD i 0).testBit x.1.i with
   | false => rfl
   | true => rw [x2, hm _ hb]; rfl
  ·cases hx2 : x.2 with
   | false => rfl
   | true =>
    rw [hx2] at x2
    have hsh := hs x.1.i _ (List.getElem?_eq_getElem (hlt _ x1)) x2.symm
    simp only [Bool.not_true, Bool.false_or, Bool.and_eq_true, Bool.not_eq_true', List.all_eq_true]
    refine ⟨⟨?_, ?_⟩, fun y hy => ?_⟩
    ·cases hb : ((masks L []).getD x.1.i 0).testBit i with
     | false => rfl
     | true => rw [hsh i hb] at hi; cases hi
    ·cases hb : Nat.beq x.1.i i with
     | false => rfl
     | true => rw [Nat.eq_of_beq_eq_true hb, hi] at x2; cases x2
    ·obtain ⟨y1, y2⟩ := zip_pat y hy
     cases hb : ((masks L []).getD x.1.i 0).testBit y.1.i with
     | false => rfl
     | true => rw [y2, hsh _ hb]; rfl
 rw [key] at h1
 simpa using h1
theorem env_vals {f : Nat → Value} {env : List (Nat × AV)} {t : Nat} {y : AV} : ∀ (es : List CE) (p : List Bool), envGet (CE.vals es p f ++ env) t = some y → y = .val (f t) ∨ envGet env t = some y
 | [], p, h => .inr h
 | _ :: _, [], h => .inr h
 | e :: es, b :: p, h => by
  unfold CE.vals at h
  split at h
  ·rw [List.cons_append, envGet_cons] at h
   split at h
   ·rename_i e1; cases h; rw [e1]; exact .inl rfl
   ·exact env_vals es p h
  ·exact env_vals es p h
theorem ops_vals {I : Imm} {w : World} {a : Act} {o : Oper} {env : List (Nat × AV)} (es : List CE) (p : List Bool) (h : OpsOk I w (envGet env) a o) : OpsOk I w (envGet (CE.vals es p (fun d => a.tmps.getD d undef) ++ env)) a o := fun x hx y hy => by
 cases x with
 | tmp u =>
  simp only [aeval] at hy
  rcases env_vals es p hy with rfl | hy
  ·exact .val _
  ·exact h _ hx y hy
 | const v => exact h _ hx y hy
 | global g => exact h _ hx y hy
 | func f => exact h _ hx y hy
theorem EnvOk.vals {I : Imm} {w : World} {a : Act} {env : List (Nat × AV)} (es : List CE) (p : List Bool) (h : EnvOk I w (envGet env) a) : EnvOk I w (envGet (CE.vals es p (fun d => a.tmps.getD d undef) ++ env)) a := fun t x hx => by
 rcases env_vals es p hx with rfl | hx
 ·exact .val _
 ·exact h t x hx
def FOk {G : Type} (P : Program) (H : List Ent) (H' : G → Value → List Ent) (ρ : Nat → Option AV) (o : Oper) (x : AV) : Prop := ∀ (B : Nat) (I : Imm) (w : World) (r : Option Nat) (a : Act), WOk B I w → HeapOk B I w H → OpsOk I w ρ a o →
 Runs P r o a w (fun v w' => ∃ I' g, WOk B I' w' ∧ Ext B I w I' w' ∧ HeapOk B I' w' (H' g v) ∧ Rel I' w' x v) (fun _ _ => False)
section
variable {c : Ctx} {r : Option Nat} {P : Program} {l : List Oper} {Q : Exit → Act → World → Prop} {G : Type}
theorem DP.anyH {env : List (Nat × AV)} {H : List Ent} (es : List CE) (g0 : G) (HS : G → List (Option Value) → List Ent) (k m n : Nat) (hn : c.n = n) (hchk : segChk l k m = true) (hes : (es.all fun e => Nat.ble k e.i && Nat.blt e.i m) = true) (hkm : Nat.ble k m = true) (hml : Nat.ble m l.length = true) (hlk : (l.all fun o => (looks l o).all fun t => Nat.blt t n) = true)
  (h0 : HS g0 (es.map fun _ => none) = H)
  (h : UD P (XM HS es) l c.n k ((l.drop k).take (m - k)) env fun env => ∀ (g : G) (f : Nat → Value), DP c r P l Q m ⟨CE.vals es (es.map fun _ => true) f ++ env, HS g (es.map fun e => some (f e.d))⟩) : DP c r P l Q k ⟨env, H⟩ := by
 simp only [List.all_eq_true, Bool.and_eq_true] at hes
 have blk : ∀ i, Nat.ble k i = true → Nat.blt i k = false := fun i hi => by
  have h1 := Nat.le_of_ble_eq_true hi
  rw [Bool.eq_false_iff]; intro hb; have := Nat.lt_of_succ_le (by simpa [Nat.blt] using hb); omega
 refine DP.anyU (M := XM HS es) hchk (Nat.le_of_ble_eq_true hkm) (Nat.le_of_ble_eq_true hml) (by rw [hn]; exact hlk) (fun B a I w hh => ⟨g0, ?_⟩) (h.mono fun env hd a w I q1 q2 q3 q4 q5 q6 => ?_)
 ·have e : CE.inst es (CE.pat es fun i => Nat.blt i k) (fun d => a.tmps.getD d undef) = es.map fun _ => none := by
   rw [inst_pat]
   exact List.map_congr_left fun e he => by rw [blk _ (hes e he).1]; rfl
  rw [e, h0]; exact hh
 ·obtain ⟨g, hh⟩ := q5
  have e : CE.inst es (CE.pat es fun i => Nat.blt i m) (fun d => a.tmps.getD d undef) = es.map fun e => some (a.tmps.getD e.d undef) := by
   rw [inst_pat]
   exact List.map_congr_left fun e he => by rw [(hes e he).2]; rfl
  rw [e] at hh
  exact hd g (fun d => a.tmps.getD d undef) a w ⟨q1, q2, I, q3, q4, hh, q6.vals es _⟩
end
section
variable {P : Program} {L rest : List Oper} {es : List CE} {n i d : Nat} {o : Oper} {env : List (Nat × AV)} {K : List (Nat × AV) → Prop} {x : AV} {G : Type} {HS : G → List (Option Value) → List Ent}
theorem UD.popG (pats : List (List Bool)) (hi : (es.all fun e => !Nat.beq e.i i && !Nat.beq e.d d) = true) (hf : CE.fits L es i pats = true) (hg : o.guard = none) (hd : o.dst = some d) (hn : Nat.blt d n = true)
  (h : AllP pats fun p => ∀ g f, POp P (HS g (CE.inst es p f)) (envGet (CE.vals es p f ++ env)) o x) (next : UD P (XM HS es) L n (i + 1) rest ((d, x) :: env) K) : UD P (XM HS es) L n i (o :: rest) env K :=
 ⟨x, fun S hshut hmask hSi => ⟨hg, fun B I w r a hw hm ho hz => by
  obtain ⟨g, hm⟩ := hm
  simp only [List.all_eq_true, Bool.and_eq_true, Bool.not_eq_true'] at hi
  have ne : ∀ {a b : Nat}, Nat.beq a b = false → a ≠ b := fun h e => by subst e; simp at h
  refine (h.at _ (CE.fits_of hf hshut hmask hSi) g (fun d => a.tmps.getD d undef) B I w r a _ hw hm (fun e he => he) (ops_vals es _ ho)).mono (fun v w' ⟨I', a1, a2, a3, a4⟩ => ⟨I', a1, a2, ⟨g, ?_⟩, a4⟩) (fun _ _ h => h)
  have e : CE.inst es (CE.pat es (addS S i)) (fun d => (a.put o.dst v).tmps.getD d undef) = CE.inst es (CE.pat es S) (fun d => a.tmps.getD d undef) := by
   rw [inst_pat, inst_pat]
   exact List.map_congr_left fun e he => by rw [addS_other (ne (hi e he).1), hd, tmps_put_other (ne (hi e he).2)]
  rw [e]; exact a3⟩, dstOk_of hd hn, Y0⟩
theorem inst_set {S : Nat → Bool} {f f' : Nat → Value} {q : Nat} {e : CE} {u : Value} (he : es[q]? = some e) (hu : f' e.d = u) (ho : ∀ q' e', q' ≠ q → es[q']? = some e' → e'.i ≠ e.i ∧ f' e'.d = f e'.d) : CE.inst es (CE.pat es (addS S e.i)) f' = (CE.inst es (CE.pat es S) f).set q (some u) := by
 rw [inst_pat, inst_pat]
 refine List.ext_getElem? fun j => ?_
 rw [List.getElem?_set, List.length_map, List.getElem?_map, List.getElem?_map]
 have hq := (List.getElem?_eq_some_iff.1 he).1
 by_cases hj : q = j
 ·subst hj
  rw [if_pos rfl, if_pos hq, he]
  show some (if addS S e.i e.i = true then some (f' e.d) else none) = _
  rw [addS_same, hu]; rfl
 ·rw [if_neg hj]
  cases hje : es[j]? with
  | none => rfl
  | some e' =>
   have := ho j e' (fun h => hj h.symm) hje
   show some (if addS S e.i e'.i = true then some (f' e'.d) else none) = some (if S e'.i = true then some (f e'.d) else none)
   rw [addS_other this.1, this.2]
theorem UD.effG (q : Nat) (pats : List (List Bool)) {e : CE} (he : es[q]? = some e) (hi : e.i = i) (ho : ((es.take q ++ es.drop (q + 1)).all fun e' => !Nat.beq e'.i i && !Nat.beq e'.d e.d) = true) (hf : CE.fits L es i pats = true) (hg : o.guard = none) (hd : o.dst = some e.d) (hn : Nat.blt e.d n = true)
  (h : AllP pats fun p => ∀ g f, FOk P (HS g (CE.inst es p f)) (fun g' v => HS g' ((CE.inst es p f).set q (some v))) (envGet (CE.vals es p f ++ env)) o x) (next : UD P (XM HS es) L n (i + 1) rest ((e.d, x) :: env) K) : UD P (XM HS es) L n i (o :: rest) env K :=
 ⟨x, fun S hshut hmask hSi => ⟨hg, fun B I w r a hw hm hops hz => by
  obtain ⟨g, hm⟩ := hm
  simp only [List.all_eq_true, Bool.and_eq_true, Bool.not_eq_true'] at ho
  have ne : ∀ {a b : Nat}, Nat.beq a b = false → a ≠ b := fun h e => by subst e; simp at h
  refine (h.at _ (CE.fits_of hf hshut hmask hSi) g (fun d => a.tmps.getD d undef) B I w r a hw hm (ops_vals es _ hops)).mono (fun v w' ⟨I', g', a1, a2, a3, a4⟩ => ⟨I', a1, a2, ⟨g', ?_⟩, a4⟩) (fun _ _ h => h)
  rw [← hi, inst_set (S := S) (f := fun d => a.tmps.getD d undef) (f' := fun d => (a.put o.dst v).tmps.getD d undef) (u := v) he (by rw [hd]; exact tmps_put_same (hz _ hd)) (fun q' e' hq he' => ?_)]
  ·exact a3
  ·have hm' : e' ∈ es.take q ++ es.drop (q + 1) := by
    rw [List.mem_append]
    rcases Nat.lt_or_gt_of_ne hq with h1 | h1
    ·exact .inl (List.mem_of_getElem? (i := q') (by rw [List.getElem?_take, if_pos h1]; exact he'))
    ·exact .inr (List.mem_of_getElem? (i := q' - (q + 1)) (by rw [List.getElem?_drop, show q + 1 + (q' - (q + 1)) = q' by omega]; exact he'))
   refine ⟨by rw [hi]; exact ne (ho _ hm').1, ?_⟩
   show (a.put o.dst v).tmps.getD e'.d undef = _
   rw [hd]; exact tmps_put_other (ne (ho _ hm').2)⟩, dstOk_of hd hn, Y0⟩
theorem FOk.sto {H : List Ent} {H' : List Ent} {ρ : Nat → Option AV} (g : G) (h : SOk P H H' ρ o) : FOk P H (fun (_ : G) _ => H') ρ o .any := fun B I w r a hw hh ho => (h B I w r a hw hh ho).mono (fun v w' ⟨I', a1, a2, a3⟩ => ⟨I', g, a1, a2, a3, .any _⟩) (fun _ _ h => h)
theorem FOk.app {H : List Ent} {ρ : Nat → Option AV} {s z : Operand} {t e k by_ m : Nat} {cs : List AV} {news : List (List AV)} {v : Value} {y : AV} {g1 g2 : Bool} {H' : G → Value → List Ent} (g : G) [hA : HasApp P t (e, k, by_)]
  (h : o.op = .call { callee := .builtin .append, args := #[s, z], argTypes := #[t, t] }) (hs : aev ρ s = some (g1, .val v)) (hg1 : g1 = true) (hz : aev ρ z = some (g2, y)) (hg2 : g2 = true) (hy : AVle y (.sl k news)) (hne : news ≠ [])
  (h1 : news.all allOne = true) (hu : ∀ v', Upd H (.row e k v m cs) (.row e k v' (m + news.length) (cs ++ news.flatten)) (H' g v')) (hb : (m + news.length) * by_ ≤ 140737488355328) (hb' : m + news.length ≤ 9223372036854775807) : FOk P H H' ρ o .any := fun B I w r a hw hh ho =>
 (appendRow_runs h hs hg1 hz hg2 hy hne h1 hu hb hb' hw hh ho).mono (fun v w' ⟨I', a1, a2, a3⟩ => ⟨I', g, a1, a2, a3, .any _⟩) (fun _ _ h => h)
theorem FOk.bcall {H : List Ent} {ρ : Nat → Option AV} {f : FuncId} {xs : List AV} {Φ : AV → List Ent → Prop} {H' : G → Value → List Ent} (hc : CallOk P ρ o f xs) (h : ∀ B, BCall B P f xs H Φ (fun _ _ => False)) (hq : ∀ y H1, Φ y H1 → ∃ g, y = x ∧ ∀ v, H' g v = H1) : FOk P H H' ρ o x := fun B I w r a hw hh ho =>
 (bcall_runs (c := ⟨B, I, w, 0, []⟩) hc (h B) hw hh ho).mono (fun v w' hR => by
  obtain ⟨I', H1, y, a1, a2, a3, a4, a5⟩ := hR
  obtain ⟨g, rfl, hv⟩ := hq _ _ a5
  exact ⟨I', g, a1, a2, by rw [hv]; exact a3, a4⟩) (fun _ _ h => h)
end
def PM (H : List Ent) (q : Nat) : (Nat → Bool) → Mem := fun S B _ I w => S q = false ∧ HeapOk B I w H
def PanX (v : Value) (Hf : List Ent) : PX := fun B I w ch w' => ch = [{ v := v, recovered := false }] ∧ ∃ J, WOk B J w' ∧ Ext B I w J w' ∧ HeapOk B J w' Hf
section
variable {c : Ctx} {r : Option Nat} {P : Program} {l : List Oper} {Q : Exit → Act → World → Prop}
theorem DP.anyPan {env : List (Nat × AV)} {H Hf : List Ent} {v : Value} (q k m n : Nat) (hn : c.n = n) (hchk : segChk l k m = true) (hq : (Nat.ble k q && Nat.blt q m) = true) (hml : Nat.ble m l.length = true) (hlk : (l.all fun o => (looks l o).all fun t => Nat.blt t n) = true)
  (pan : ∀ env, Done c ⟨env, Hf⟩ (.panic [{ v := v, recovered := false }]) Q)
  (h : UDX (PanX v Hf) P (PM H q) l c.n k ((l.drop k).take (m - k)) env fun _ => True) : DP c r P l Q k ⟨env, H⟩ := by
 simp only [Bool.and_eq_true] at hq
 have h1 := Nat.le_of_ble_eq_true hq.1
 have h2 : q < m := Nat.lt_of_succ_le (by simpa [Nat.blt] using hq.2)
 refine DP.anyUX (M := PM H q) hchk Yb (Nat.le_of_ble_eq_true hml) (by rw [hn]; exact hlk) (fun B a I w hh => ⟨by rw [Bool.eq_false_iff]; intro hb; have := Nat.lt_of_succ_le (by simpa [Nat.blt] using hb); omega, hh⟩) ?_ (h.mono fun env _ a w I _ _ _ _ hm _ => ?_)
 ·rintro I w a ch w' hd hs hw he ⟨rfl, J, j1, j2, j3⟩
  exact pan [] a w' ⟨hd, hs, J, j1, he.trans j2, j3, fun t x hx => by simp [envGet] at hx⟩
 ·have h3 : Nat.blt q m = false := hm.1
  rw [hq.2] at h3; cases h3
end
section
variable {P : Program} {L rest : List Oper} {n i d q : Nat} {o : Oper} {env : List (Nat × AV)} {K : List (Nat × AV) → Prop} {x : AV} {H Hf : List Ent} {X : PX}
theorem UD.popP (hi : Nat.beq i q = false) (hg : o.guard = none) (hd : o.dst = some d) (hn : Nat.blt d n = true) (h : POp P H (envGet env) o x) (next : UDX X P (PM H q) L n (i + 1) rest ((d, x) :: env) K) : UDX X P (PM H q) L n i (o :: rest) env K :=
 ⟨x, fun S hshut hmask hSi => ⟨hg, fun B I w r a hw hm ho hz => by
  have hne : q ≠ i := fun e => by subst e; simp at hi
  exact (h B I w r a _ hw hm.2 (fun e he => he) ho).mono (fun v w' ⟨I', a1, a2, a3, a4⟩ => ⟨I', a1, a2, ⟨by rw [addS_other hne]; exact hm.1, a3⟩, a4⟩) (fun _ _ h => h.elim)⟩, dstOk_of hd hn, Y0⟩
theorem UD.waitP (hm : ((masks L []).getD i 0).testBit q = true) (hg : o.guard = none) (hd : dstOk n o.dst = true) (next : UDX X P (PM H q) L n (i + 1) rest (putEnv o.dst .any env) K) : UDX X P (PM H q) L n i (o :: rest) env K :=
 ⟨.any, fun S hshut hmask hSi => ⟨hg, fun B I w r a hw hmem ho hz => by
  have := hmask q hm
  rw [hmem.1] at this; cases this⟩, hd, next⟩
theorem UD.panP {f : FuncId} {xs : List AV} {pv : AV} {v : Value} (hi : Nat.beq i q = true) (hg : o.guard = none) (hd : dstOk n o.dst = true) (hc : CallOk P (envGet env) o f xs) (h : RCall P f xs H none Hf pv) (hv : pv.Const v)
  (next : UDX (PanX v Hf) P (PM H q) L n (i + 1) rest (putEnv o.dst .any env) K) : UDX (PanX v Hf) P (PM H q) L n i (o :: rest) env K :=
 ⟨.any, fun S hshut hmask hSi => ⟨hg, fun B I w r a hw hm ho hz => by
  obtain ⟨vs, h1, h2⟩ := hc.run I w a ho
  obtain ⟨hok, hcall⟩ := h
  refine Runs.of_enter hc.nodefer (h2 hok) ((hcall B I w vs hw hm.2 h1).mono fun e w' hr => ?_)
  obtain ⟨I', H', b1, b2, b3, hr⟩ := hr
  rcases hr with ⟨v', x', rfl, _, e⟩ | ⟨v', x', rfl, hx, _, rfl, rfl⟩
  ·cases e
  ·rw [hv.is _ _ _ hx]
   exact ⟨rfl, I', b1, b2, b3⟩⟩, hd, next⟩
end
section
variable {P : Program} {H : List Ent} {ρ : Nat → Option AV} {o : Oper} {x : AV} {G : Type}
theorem FOk.rcall {f : FuncId} {xs : List AV} {H1 Hf : List Ent} {pv : AV} {H' : G → Value → List Ent} (g : G) (hc : CallOk P ρ o f xs) (h : RCall P f xs H (some (x, H1)) Hf pv) (hH : ∀ v, H' g v = H1) : FOk P H H' ρ o x :=
 FOk.bcall hc (fun B => h.ok.b) fun y H2 ⟨e1, e2⟩ => ⟨g, e1, fun v => by rw [hH, e2]⟩
end
section
variable {c : Ctx} {r : Option Nat} {P : Program} {st : St} {Q : Exit → Act → World → Prop}
theorem CW.eqH {p : Code} {H' : List Ent} (hp : st.H = H') (h : CW c r P p ⟨st.env, H'⟩ Q) : CW c r P p st Q := CW.perm (.of_eq hp) h
theorem Done.eqH {e : Exit} {H' : List Ent} (hp : st.H = H') (h : Done c ⟨st.env, H'⟩ e Q) : Done c st e Q := Done.perm (.of_eq hp) h
end
section
variable {P : Program} {f : FuncId} {fs xs cs : List AV} {H H1 Hf : List Ent} {y pv : AV} {B : Nat}
theorem RCall.vS (h : RCall P f (fs ++ xs ++ cs) H (some (y, H1)) Hf pv) : VCall B P (.fn (.func f) fs cs) xs H (fun _ H' => H' = H1) (fun _ _ => False) :=
 VCall.fn (ACall.weak h.ok (fun _ _ e => e.2) (fun _ _ e => e))
theorem RCall.vN (h : RCall P f (fs ++ xs ++ cs) H none Hf pv) : VCall B P (.fn (.func f) fs cs) xs H (fun _ _ => False) (fun y H' => y = pv ∧ H' = Hf) :=
 VCall.fn (ACall.weak (show ACall P f _ H _ _ from h) (fun _ _ e => by cases e) (fun _ _ e => e.2))
end
section
variable {P : Program} {r : Option Nat} {o : Oper} {H : List Ent}
end
section
variable {c : Ctx} {r : Option Nat} {P : Program} {l : List Oper} {Q : Exit → Act → World → Prop}
end
section
variable {P : Program} {L rest : List Oper} {ss : List Nat} {n i d : Nat} {o : Oper} {env : List (Nat × AV)} {K : List (Nat × AV) → Prop} {x : AV} {H : List Ent} {e k : Nat} {E1 E2 : List (List AV)} {d1 d2 : Nat}
end
def fldV (P : Program) (t : TypeId) (f : Nat) : Option Nat :=
 match P.underlying t with
 | some (.struct fs) => match fs[f]? with
  | some fd => match tyInfo P fd.type with
   | some (false, _) => some fd.offset
   | _ => none
  | none => none
 | _ => none
class HasFldV (P : Program) (t f : Nat) (x : outParam Nat) : Prop where h : fldV P t f = some x
section
variable {P : Program} {H : List Ent} {ρ : Nat → Option AV} {o : Oper}
end
structure SegOkW (l : List Oper) (k m dW : Nat) : Prop where
 back : ∀ i o, l[i]? = some o → ∀ j ∈ deps o, j < i
 tail : ∀ i, m ≤ i → i < l.length → ∀ j, k ≤ j → j < m → ((masks l []).getD i 0).testBit j = true
 apart : ∀ i oi j oj d, k ≤ i → i < m → l[i]? = some oi → k ≤ j → j < m → l[j]? = some oj → oj.dst = some d → i ≠ j → oi.dst ≠ some d
 looked : ∀ i oi j oj d, d ≠ dW → k ≤ i → i < m → l[i]? = some oi → k ≤ j → j < m → l[j]? = some oj → oj.dst = some d → d ∈ looks l oi → j < i ∧ ((masks l []).getD i 0).testBit j = true
section
variable {c : Ctx} {r : Option Nat} {P : Program} {l : List Oper} {st : St} {Q : Exit → Act → World → Prop}
end
section
variable {c : Ctx} {r : Option Nat} {P : Program} {l : List Oper} {Q : Exit → Act → World → Prop}
end
section
variable {P : Program} {L rest : List Oper} {n i d e : Nat} {o : Oper} {env : List (Nat × AV)} {K : List (Nat × AV) → Prop} {x : AV} {H : List Ent} {x0 x1 : AV} {dW : Nat}
end
theorem buildSlice_run' {P : Program} {t e : TypeId} {n k : Nat} {zs : List Value} (hue : P.underlying t = some (.slice e)) (hr : rowInfo P t = some (k, zs)) (parts : Array (Nat × Value)) (us : Array Value) (hsm : n * k ≤ 16777216) (hpos : 0 < n * k)
  (h : Instr.fill (fun i => some (i * k, k)) (rowZero n k zs).toArray parts.toList = some us) (w : World) :
  (Instr.buildSlice t n parts).run P w = .ok (.slice (some ⟨w.heap.size, 0, none⟩) n n) (w.alloc (.cells us e)) := by
 obtain ⟨e', i, z, hu, hi, hz, hk, hzs⟩ := rowInfo_spec hr
 obtain rfl : e' = e := by rw [hu] at hue; cases hue; rfl
 have hsm' : ¬ n * i.size > 2 ^ 24 := by rw [hk]; omega
 have hpos' : ¬ n * i.size = 0 := by rw [hk]; omega
 have hf : Instr.fill (fun j => some (j * i.size, i.size)) ((Array.range (n * i.size)).map (z.cells[· % z.cells.size]!)) parts.toList = some us := ?_
 ·simp [Instr.buildSlice, run_underlying hu, sizeOf, typeInfo, zeroValue, hi, hz, hsm', hpos', hf, newRow]
 rw [hk, ← h]
 congr 1
 apply Array.ext'
 simp only [rowZero, Array.toList_map, Array.toList_range, ← hzs]
 refine List.map_congr_left fun j _ => ?_
 simp [Array.getElem!_eq_getD, Array.getD_eq_getD_getElem?, List.getD_eq_getElem?_getD]
section
variable {c : Ctx} {r : Option Nat} {P : Program} {ops : Array Oper} {l rest : List Oper} {o : Oper} {env : List (Nat × AV)} {H : List Ent} {Q : Exit → Act → World → Prop} {d : Nat}
theorem OL.rowOwn {t e by_ : Nat} {n k : Nat} {ps : Array (Nat × Operand)} {zs : List Value} {ys : List (Bool × AV)} {els : List (List AV)} [hA : HasApp P t (e, k, by_)] [hR : HasRow P t (k, zs)] (hgd : o.guard = none) (hd : o.dst = some d) (hn : Nat.blt d c.n = true) (h : o.op = .buildSlice t n ps)
  (hy : aevs (envGet env) (ps.toList.map (·.2)) = some ys) (hg : ys.all (·.1) = true) (hels : (partsOf ps.toList ys).map (fun x => bcells x.2) = els) (hlen : Nat.beq els.length n = true) (hk : els.all (fun e => Nat.beq e.length k) = true)
  (hsm : Nat.ble (n * k) 16777216 = true) (hpos : Nat.blt 0 (n * k) = true)
  (hf : bfill (fun i => some (i * k, k)) ((rowZero n k zs).map .val) (partsOf ps.toList ys) = some els.flatten)
  (next : ∀ v, OL c r P ops rest ⟨(d, .as (.sl k els) v) :: env, .own e k v :: H⟩ Q) : OL c r P ops (o :: rest) ⟨env, H⟩ Q := by
 intro a w s
 refine wpListIn_plain hgd fun K hK => ?_
 obtain ⟨I, hw, he, hh, hv⟩ := s.mem
 have ho := hv.ops o
 obtain ⟨e1, e2⟩ := parts_rel ho ps Yl hy hg
 obtain ⟨us, h1, h2⟩ := bfill_rel _ _ ((rowZero n k zs).map .val) (rowZero n k zs).toArray els.flatten (by simpa using relL_val _) e1 e2 hf
 have hsm := Nat.le_of_ble_eq_true hsm
 have hpos : 0 < n * k := Nat.le_of_ble_eq_true hpos
 obtain ⟨i, z, hu, hi, hz, hki, hby, hzs, hk0⟩ := appInfo_spec hA.h
 have hrun := buildSlice_run' hu hR.h (ps.map fun (i, x) => (i, a.eval x)) us hsm hpos h1 w
 obtain ⟨a1, a2, a3, a4⟩ := Imm.add_new hw e us
 have hn' := Nat.eq_of_beq_eq_true hlen
 have hnk : n ≤ n * k := by
  rcases Nat.eq_zero_or_pos k with rfl | hk'
  ·simp at hpos
  ·exact Nat.le_mul_of_pos_right n hk'
 have hkl : ∀ x ∈ els, x.length = k := fun x hx => Nat.eq_of_beq_eq_true (List.all_eq_true.1 hk x hx)
 have hus : us.size = n * k := by
  have := h2.length
  rw [flatten_len hkl, hn'] at this
  simpa using this
 refine Runs.of_value (R := fun v w' => v = .slice (some ⟨w.heap.size, 0, none⟩) n n ∧ w' = w.alloc (.cells us e)) (E := fun _ _ => False) (v := .slice (some ⟨w.heap.size, 0, none⟩) n n) (w' := w.alloc (.cells us e)) YB Ybm ⟨rfl, rfl⟩ K Q ?_ (fun _ _ h => h.elim)
 rintro v w' ⟨rfl, rfl⟩
 have hrow : (w.alloc (.cells us e)).ownsRow c.B e k (.slice (some ⟨w.heap.size, 0, none⟩) n n) n us.toList := ⟨by simpa using hus, .inr ⟨w.heap.size, n, us, rfl, hw.base, heap_alloc_new w _, Nat.le_refl _, YX, hus, by rw [← hus, ← Array.length_toList]; exact List.take_length⟩⟩
 have h3 := a3 _ hh
 refine hK _ _ (next (.slice (some ⟨w.heap.size, 0, none⟩) n n) _ _ ⟨YW, YO, _, a1, he.trans a2, ⟨fun f hf => ?_, List.pairwise_cons.2 ⟨fun f hf b hb e => ?_, h3.apart⟩⟩, ?_⟩)
 ·rcases List.mem_cons.1 hf with rfl | hf
  ·refine ⟨n, us.toList, hrow, fun g hg o hgo ho => ?_⟩
   simp [Value.ownBlock] at hg; subst hg
   rcases ho with ho | ⟨_, ho⟩
   ·exact absurd (hw.lt ho) (Nat.lt_irrefl _)
   ·omega
  ·exact h3.ok f hf
 ·simp [Ent.foot, Value.ownBlock] at hb; subst hb
  exact absurd (Ent.foot_lt (hh.ok f hf) e).2 (Nat.lt_irrefl _)
 ·rw [hd]
  refine (hv.keep a2.keeps).put (dst := some d) Ybq (.as _ _ (.sl _ _ _ _ _ _ hn' (Nat.le_refl _) YX ?_))
  exact els_of_cells els 0 hkl (a4 _ h2)
end
section
variable {c : Ctx} {r : Option Nat} {P : Program} {l : List Oper} {Q : Exit → Act → World → Prop}
end
section
variable {P : Program} {L rest : List Oper} {ss : List Nat} {n i d : Nat} {o : Oper} {env : List (Nat × AV)} {K : List (Nat × AV) → Prop} {x : AV} {H : List Ent} {e1 k1 e2 k2 d1 d2 : Nat}
end
def blkOf : Value → Nat
 | .pointer (some a) => a.block
 | _ => 0
inductive ES where
 | own (i d e k : Nat) (y : AV)
 | al (i d : Nat) (t : TypeId) (zs : List Value)
def ES.i : ES → Nat
 | .own i _ _ _ _ => i
 | .al i _ _ _ => i
def ES.d : ES → Nat
 | .own _ d _ _ _ => d
 | .al _ d _ _ => d
def ES.en : ES → Value → Ent
 | .own _ _ e k _, v => .own e k v
 | .al _ _ t zs, v => .blk (blkOf v) t (zs.map .val)
def ES.okE : ES → Value → Prop
 | .own _ _ _ _ _, _ => True
 | .al _ _ _ _, v => v = .pointer (some ⟨blkOf v, 0, none⟩)
def ES.av : ES → Value → AV
 | .own _ _ _ _ y, v => .as y v
 | .al _ _ _ _, v => .p (blkOf v) 0
def ES.y : ES → AV
 | .own _ _ _ _ y => y
 | .al _ _ _ _ => .any
def ES.mem (S : Nat → Bool) (f : Nat → Value) (es : List ES) : List Ent := es.filterMap fun s => if S s.i then some (s.en (f s.d)) else none
structure LS where
 i : Nat
 d : Nat
 ds : List Nat
 x : List Value → AV
theorem EnvOk.made {I : Imm} {w : World} {a : Act} {env : List (Nat × AV)} (h : EnvOk I w (envGet env) a) : ∀ (es : List ES), (∀ s ∈ es, s.okE (a.tmps.getD s.d undef) ∧ envGet env s.d = some s.y) → EnvOk I w (envGet (es.map (fun s => (s.d, s.av (a.tmps.getD s.d undef))) ++ env)) a
 | [], _ => h
 | s :: r, hv => fun t x hx => by
  rw [List.map_cons, List.cons_append, envGet_cons] at hx
  split at hx
  ·rename_i e
   cases hx
   subst e
   have h1 := hv s (.head _)
   cases s with
   | own i d e k y => exact .as _ _ (h d y h1.2)
   | al i d t zs =>
    have h2 : a.tmps.getD d undef = .pointer (some ⟨blkOf (a.tmps.getD d undef), 0, none⟩) := h1.1
    show Rel I w (.p (blkOf (a.tmps.getD d undef)) 0) (a.tmps.getD d undef)
    generalize a.tmps.getD d undef = v at h2
    rw [h2]; exact .val _
  ·exact EnvOk.made h r (fun u hu => hv u (.tail _ hu)) t x hx
section
variable {c : Ctx} {r : Option Nat} {P : Program} {l : List Oper} {Q : Exit → Act → World → Prop}
end
section
variable {P : Program} {L rest : List Oper} {es : List ES} {ls : List LS} {n i d : Nat} {o : Oper} {env : List (Nat × AV)} {K : List (Nat × AV) → Prop} {x : AV} {H : List Ent}
end
abbrev Js := List (Option Value)
def kvals (xs : Nat → Js → AV) (J : Js) : Nat → List CE → List Bool → List (Nat × AV)
 | q, e :: es, true :: p => (e.d, xs q J) :: kvals xs J (q + 1) es p
 | q, _ :: es, false :: p => kvals xs J (q + 1) es p
 | _, _, _ => []
def KM (HS : Js → List Ent) (xs : Nat → Js → AV) (es : List CE) (S : Nat → Bool) : Mem := fun B a I w =>
 HeapOk B I w (HS (CE.inst es (CE.pat es S) fun d => a.tmps.getD d undef)) ∧ ∀ q e, es[q]? = some e → S e.i = true → Rel I w (xs q (CE.inst es (CE.pat es S) fun d => a.tmps.getD d undef)) (a.tmps.getD e.d undef)
theorem kvals_get {xs : Nat → Js → AV} {J : Js} {env : List (Nat × AV)} {t : Nat} {y : AV} {S : Nat → Bool} : ∀ (es : List CE) (q : Nat), envGet (kvals xs J q es (CE.pat es S) ++ env) t = some y → (∃ j e, es[j]? = some e ∧ S e.i = true ∧ e.d = t ∧ y = xs (q + j) J) ∨ envGet env t = some y
 | [], q, h => .inr h
 | e :: es, q, h => by
  simp only [CE.pat, List.map_cons] at h
  cases hb : S e.i with
  | true =>
   rw [hb] at h
   simp only [kvals, List.cons_append, envGet_cons] at h
   split at h
   ·rename_i e1; cases h; exact .inl ⟨0, e, rfl, hb, e1.symm, rfl⟩
   ·rcases kvals_get es (q + 1) h with ⟨j, e', h1, h2, h3, h4⟩ | h
    ·exact .inl ⟨j + 1, e', h1, h2, h3, by rw [h4, show q + 1 + j = q + (j + 1) by omega]⟩
    ·exact .inr h
  | false =>
   rw [hb] at h
   rcases kvals_get es (q + 1) h with ⟨j, e', h1, h2, h3, h4⟩ | h
   ·exact .inl ⟨j + 1, e', h1, h2, h3, by rw [h4, show q + 1 + j = q + (j + 1) by omega]⟩
   ·exact .inr h
theorem ops_kvals {I : Imm} {w : World} {a : Act} {o : Oper} {env : List (Nat × AV)} {xs : Nat → Js → AV} {J : Js} {S : Nat → Bool} {es : List CE} (hk : ∀ q e, es[q]? = some e → S e.i = true → Rel I w (xs q J) (a.tmps.getD e.d undef)) (h : OpsOk I w (envGet env) a o) :
  OpsOk I w (envGet (kvals xs J 0 es (CE.pat es S) ++ env)) a o := fun x hx y hy => by
 cases x with
 | tmp u =>
  simp only [aeval] at hy
  rcases kvals_get es 0 hy with ⟨j, e, h1, h2, h3, h4⟩ | hy
  ·have := hk j e h1 h2
   rw [Nat.zero_add] at h4
   rw [h4, ← h3]; exact this
  ·exact h _ hx y hy
 | const v => exact h _ hx y hy
 | global g => exact h _ hx y hy
 | func f => exact h _ hx y hy
def KOk (X : PX) (P : Program) (H : List Ent) (H' : Value → List Ent) (x : Value → AV) (ρ : Nat → Option AV) (o : Oper) : Prop := ∀ (B : Nat) (I : Imm) (w : World) (r : Option Nat) (a : Act), WOk B I w → HeapOk B I w H → OpsOk I w ρ a o →
 Runs P r o a w (fun v w' => ∃ I', WOk B I' w' ∧ Ext B I w I' w' ∧ HeapOk B I' w' (H' v) ∧ Rel I' w' (x v) v) (X B I w)
section
variable {c : Ctx} {r : Option Nat} {P : Program} {l : List Oper} {Q : Exit → Act → World → Prop} {X : PX}
theorem DP.anyK {env : List (Nat × AV)} {H : List Ent} (es : List CE) (HS : Js → List Ent) (xs : Nat → Js → AV) (k m n : Nat) (hn : c.n = n) (hchk : segChk l k m = true) (hes : (es.all fun e => Nat.ble k e.i && Nat.blt e.i m) = true) (hkm : Nat.ble k m = true) (hml : Nat.ble m l.length = true) (hlk : (l.all fun o => (looks l o).all fun t => Nat.blt t n) = true)
  (h0 : HS (es.map fun _ => none) = H)
  (pan : ∀ (I : Imm) (w : World) (a : Act) ch w', a.defers = c.ds → a.tmps.size = c.n → WOk c.B I w → Ext c.B c.I0 c.w0 I w → X c.B I w ch w' → Q (.panic ch) a w')
  (h : UDX X P (KM HS xs es) l c.n k ((l.drop k).take (m - k)) env fun env => ∀ (f : Nat → Value), DP c r P l Q m ⟨kvals xs (es.map fun e => some (f e.d)) 0 es (es.map fun _ => true) ++ env, HS (es.map fun e => some (f e.d))⟩) : DP c r P l Q k ⟨env, H⟩ := by
 simp only [List.all_eq_true, Bool.and_eq_true] at hes
 have blk : ∀ i, Nat.ble k i = true → Nat.blt i k = false := fun i hi => by
  have h1 := Nat.le_of_ble_eq_true hi
  rw [Bool.eq_false_iff]; intro hb; have := Nat.lt_of_succ_le (by simpa [Nat.blt] using hb); omega
 refine DP.anyUX (M := KM HS xs es) hchk (Nat.le_of_ble_eq_true hkm) (Nat.le_of_ble_eq_true hml) (by rw [hn]; exact hlk) (fun B a I w hh => ⟨?_, fun q e he hs => ?_⟩) pan (h.mono fun env hd a w I q1 q2 q3 q4 q5 q6 => ?_)
 ·have e : CE.inst es (CE.pat es fun i => Nat.blt i k) (fun d => a.tmps.getD d undef) = es.map fun _ => none := by
   rw [inst_pat]
   exact List.map_congr_left fun e he => by rw [blk _ (hes e he).1]; rfl
  rw [e, h0]; exact hh
 ·have h3 : Nat.blt e.i k = true := hs
  rw [blk _ (hes e (List.mem_of_getElem? he)).1] at h3; cases h3
 ·obtain ⟨hh, hr⟩ := q5
  have e : CE.inst es (CE.pat es fun i => Nat.blt i m) (fun d => a.tmps.getD d undef) = es.map fun e => some (a.tmps.getD e.d undef) := by
   rw [inst_pat]
   exact List.map_congr_left fun e he => by rw [(hes e he).2]; rfl
  have e2 : CE.pat es (fun i => Nat.blt i m) = es.map fun _ => true := List.map_congr_left fun e he => (hes e he).2
  rw [e] at hh hr
  refine hd (fun d => a.tmps.getD d undef) a w ⟨q1, q2, I, q3, q4, hh, fun t y hy => ?_⟩
  rw [← e2] at hy
  rcases kvals_get es 0 hy with ⟨j, e', h1, h2, h3, h4⟩ | hy
  ·have := hr j e' h1 h2
   rw [Nat.zero_add] at h4
   rw [h4, ← h3]; exact this
  ·exact q6 t y hy
end
section
variable {P : Program} {L rest : List Oper} {es : List CE} {n i d : Nat} {o : Oper} {env : List (Nat × AV)} {K : List (Nat × AV) → Prop} {x : AV} {HS : Js → List Ent} {xs : Nat → Js → AV} {X : PX}
theorem UD.popK (pats : List (List Bool)) (hi : (es.all fun e => !Nat.beq e.i i && !Nat.beq e.d d) = true) (hf : CE.fits L es i pats = true) (hg : o.guard = none) (hd : o.dst = some d) (hn : Nat.blt d n = true)
  (h : AllP pats fun p => ∀ f, POp P (HS (CE.inst es p f)) (envGet (kvals xs (CE.inst es p f) 0 es p ++ env)) o x) (next : UDX X P (KM HS xs es) L n (i + 1) rest ((d, x) :: env) K) : UDX X P (KM HS xs es) L n i (o :: rest) env K :=
 ⟨x, fun S hshut hmask hSi => ⟨hg, fun B I w r a hw hm ho hz => by
  obtain ⟨hm, hr⟩ := hm
  simp only [List.all_eq_true, Bool.and_eq_true, Bool.not_eq_true'] at hi
  have ne : ∀ {a b : Nat}, Nat.beq a b = false → a ≠ b := fun h e => by subst e; simp at h
  refine (h.at _ (CE.fits_of hf hshut hmask hSi) (fun d => a.tmps.getD d undef) B I w r a _ hw hm (fun e he => he) (ops_kvals hr ho)).mono (fun v w' ⟨I', a1, a2, a3, a4⟩ => ⟨I', a1, a2, ?_, a4⟩) (fun _ _ h => h.elim)
  have e : CE.inst es (CE.pat es (addS S i)) (fun d => (a.put o.dst v).tmps.getD d undef) = CE.inst es (CE.pat es S) (fun d => a.tmps.getD d undef) := by
   rw [inst_pat, inst_pat]
   exact List.map_congr_left fun e he => by rw [addS_other (ne (hi e he).1), hd, tmps_put_other (ne (hi e he).2)]
  refine ⟨by rw [e]; exact a3, fun q e' he' hs => ?_⟩
  have hme := List.mem_of_getElem? he'
  rw [e, show (a.put o.dst v).tmps.getD e'.d undef = a.tmps.getD e'.d undef by rw [hd, tmps_put_other (ne (hi e' hme).2)]]
  rw [addS_other (ne (hi e' hme).1)] at hs
  exact (hr q e' he' hs).keep a2.keeps⟩, dstOk_of hd hn, Y0⟩
theorem UD.effK (q : Nat) (pats : List (List Bool)) {e : CE} (he : es[q]? = some e) (hi : e.i = i) (ho : ((es.take q ++ es.drop (q + 1)).all fun e' => !Nat.beq e'.i i && !Nat.beq e'.d e.d) = true) (hf : CE.fits L es i pats = true) (hg : o.guard = none) (hd : o.dst = some e.d) (hn : Nat.blt e.d n = true)
  (h : AllP pats fun p => ∀ f, KOk X P (HS (CE.inst es p f)) (fun v => HS ((CE.inst es p f).set q (some v))) (fun v => xs q ((CE.inst es p f).set q (some v))) (envGet (kvals xs (CE.inst es p f) 0 es p ++ env)) o ∧ ∀ v q', p[q']? = some true → xs q' ((CE.inst es p f).set q (some v)) = xs q' (CE.inst es p f))
  (next : UDX X P (KM HS xs es) L n (i + 1) rest ((e.d, .any) :: env) K) : UDX X P (KM HS xs es) L n i (o :: rest) env K :=
 ⟨.any, fun S hshut hmask hSi => ⟨hg, fun B I w r a hw hm hops hz => by
  obtain ⟨hm, hr⟩ := hm
  simp only [List.all_eq_true, Bool.and_eq_true, Bool.not_eq_true'] at ho
  have ne : ∀ {a b : Nat}, Nat.beq a b = false → a ≠ b := fun h e => by subst e; simp at h
  obtain ⟨hk, hst⟩ := h.at _ (CE.fits_of hf hshut hmask hSi) (fun d => a.tmps.getD d undef)
  refine (hk B I w r a hw hm (ops_kvals hr hops)).mono (fun v w' ⟨I', a1, a2, a3, a4⟩ => ⟨I', a1, a2, ?_, .any _⟩) (fun _ _ h => h)
  have hoth : ∀ q' e', q' ≠ q → es[q']? = some e' → e'.i ≠ e.i ∧ (a.put o.dst v).tmps.getD e'.d undef = a.tmps.getD e'.d undef := fun q' e' hq he' => by
   have hm' : e' ∈ es.take q ++ es.drop (q + 1) := by
    rw [List.mem_append]
    rcases Nat.lt_or_gt_of_ne hq with h1 | h1
    ·exact .inl (List.mem_of_getElem? (i := q') (by rw [List.getElem?_take, if_pos h1]; exact he'))
    ·exact .inr (List.mem_of_getElem? (i := q' - (q + 1)) (by rw [List.getElem?_drop, show q + 1 + (q' - (q + 1)) = q' by omega]; exact he'))
   refine ⟨by rw [hi]; exact ne (ho _ hm').1, ?_⟩
   rw [hd]; exact tmps_put_other (ne (ho _ hm').2)
  have hval : (a.put o.dst v).tmps.getD e.d undef = v := by rw [hd]; exact tmps_put_same (hz _ hd)
  have hset := inst_set (es := es) (S := S) (f := fun d => a.tmps.getD d undef) (f' := fun d => (a.put o.dst v).tmps.getD d undef) (u := v) he hval hoth
  rw [← hi]
  refine ⟨by rw [hset]; exact a3, fun q' e' he' hs => ?_⟩
  rw [hset]
  by_cases hq : q' = q
  ·subst hq
   rw [he] at he'; cases he'
   rw [hval]; exact a4
  ·obtain ⟨o1, o2⟩ := hoth q' e' hq he'
   rw [addS_other o1] at hs
   rw [o2, hst v q' (by rw [CE.pat, List.getElem?_map, he']; exact congrArg some hs)]
   exact (hr q' e' he' hs).keep a2.keeps⟩, dstOk_of hd hn, Y0⟩
end
section
variable {P : Program} {H : List Ent} {ρ : Nat → Option AV} {o : Oper} {X : PX}
theorem KOk.rcall {f : FuncId} {ys : List AV} {H1 Hf : List Ent} {y pv : AV} {H' : Value → List Ent} {x : Value → AV} (hc : CallOk P ρ o f ys) (h : RCall P f ys H (some (y, H1)) Hf pv) (hH : ∀ v, H' v = H1) (hx : ∀ v, x v = y) : KOk X P H H' x ρ o := fun B I w r a hw hh ho =>
 (bcall_runs (c := ⟨B, I, w, 0, []⟩) hc (h.ok.b) hw hh ho).mono (fun v w' hR => by
  obtain ⟨I', H2, z, a1, a2, a3, a4, a5, a6⟩ := hR
  subst a5; subst a6
  exact ⟨I', a1, a2, by rw [hH]; exact a3, by rw [hx]; exact a4⟩) (fun _ _ h => h.elim)
theorem KOk.bcall {f : FuncId} {ys : List AV} {Φ : AV → List Ent → Prop} {H' : Value → List Ent} {x : Value → AV} (hc : CallOk P ρ o f ys) (h : ∀ B, BCall B P f ys H Φ (fun _ _ => False)) (hq : ∀ v y H1, Φ y H1 → H' v = H1 ∧ x v = y) : KOk X P H H' x ρ o := fun B I w r a hw hh ho =>
 (bcall_runs (c := ⟨B, I, w, 0, []⟩) hc (h B) hw hh ho).mono (fun v w' hR => by
  obtain ⟨I', H2, z, a1, a2, a3, a4, a5⟩ := hR
  obtain ⟨e1, e2⟩ := hq v _ _ a5
  exact ⟨I', a1, a2, by rw [e1]; exact a3, by rw [e2]; exact a4⟩) (fun _ _ h => h.elim)
theorem KOk.pan {f : FuncId} {ys : List AV} {Hf : List Ent} {pv : AV} {v0 : Value} {H' : Value → List Ent} {x : Value → AV} (hc : CallOk P ρ o f ys) (h : RCall P f ys H none Hf pv) (hv : pv.Const v0) : KOk (PanX v0 Hf) P H H' x ρ o := fun B I w r a hw hh ho => by
 obtain ⟨vs, h1, h2⟩ := hc.run I w a ho
 obtain ⟨hok, hcall⟩ := h
 refine Runs.of_enter hc.nodefer (h2 hok) ((hcall B I w vs hw hh h1).mono fun e w' hr => ?_)
 obtain ⟨I', H1, b1, b2, b3, hr⟩ := hr
 rcases hr with ⟨v', x', rfl, _, e⟩ | ⟨v', x', rfl, hx, _, rfl, rfl⟩
 ·cases e
 ·rw [hv.is _ _ _ hx]
  exact ⟨rfl, I', b1, b2, b3⟩
theorem KOk.pop {y : AV} {H' : Value → List Ent} {x : Value → AV} (h : POp P H ρ o y) (hH : ∀ v, H' v = H) (hx : ∀ v, x v = y) : KOk X P H H' x ρ o := fun B I w r a hw hh ho =>
 (h B I w r a _ hw hh (fun e he => he) ho).mono (fun v w' ⟨I', a1, a2, a3, a4⟩ => ⟨I', a1, a2, by rw [hH]; exact a3, by rw [hx]; exact a4⟩) (fun _ _ h => h.elim)
theorem KOk.sto {H1 : List Ent} {H' : Value → List Ent} {x : Value → AV} (h : SOk P H H1 ρ o) (hH : ∀ v, H' v = H1) (hx : ∀ v, x v = .any) : KOk X P H H' x ρ o := fun B I w r a hw hh ho =>
 (h B I w r a hw hh ho).mono (fun v w' ⟨I', a1, a2, a3⟩ => ⟨I', a1, a2, by rw [hH]; exact a3, by rw [hx]; exact .any _⟩) (fun _ _ h => h.elim)
abbrev noMem : List Ent := [.obj 0 (.deferred none), .obj 0 (.deferred (some []))]
theorem noMem_no {B : Nat} {I : Imm} {w : World} {Hc : List Ent} (h : HeapOk B I w Hc) (hm : ∀ e ∈ noMem, e ∈ Hc) : False := by
 have h1 := (h.ok _ (hm _ (.head _))).2.1
 have h2 := (h.ok _ (hm _ (.tail _ (.head _)))).2.1
 rw [h1] at h2
 cases h2
theorem Sat.no {c : Ctx} {env : List (Nat × AV)} {a : Act} {w : World} (s : Sat c ⟨env, noMem⟩ a w) : False := let ⟨_, _, _, hh, _⟩ := s.mem; noMem_no hh fun _ h => h
theorem KOk.no {H' : Value → List Ent} {x : Value → AV} : KOk X P noMem H' x ρ o := fun B I w r a hw hh ho => (noMem_no hh fun _ h => h).elim
theorem POp.no {x : AV} : POp P noMem ρ o x := fun B I w r a Hc hw hh hs ho => (noMem_no hh hs).elim
theorem KOk.box {t : TypeId} {z : Operand} {y : AV} {g : Bool} {H' : Value → List Ent} {x : Value → AV} (h : o.op = .box t z) (hz : aev ρ z = some (g, y)) (hg : g = true) (hb : bOk y = true) (hH : ∀ v, H' v = .blk (blkOf v) t (bcells y) :: H) (hx : ∀ v, x v = .p (blkOf v) 0) : KOk X P H H' x ρ o := fun B I w r a hw hh ho => by
 have h1 := bcells_rel (ho.get Yl hz hg) hb
 refine Runs.of_value YB (v := .pointer (some ⟨w.heap.size, 0, none⟩)) (w' := w.alloc (.cells (a.eval z).cells t)) Ybh ⟨I, hw.alloc _, ext_alloc hw _, ?_, ?_⟩
 ·rw [hH]; exact hh.new hw t _ _ h1
 ·rw [hx]; exact .val _
theorem KOk.al {t : TypeId} {zs : List Value} {H' : Value → List Ent} {x : Value → AV} [hz : HasZero P t zs] (h : o.op = .alloc t) (hH : ∀ v, H' v = .blk (blkOf v) t (zs.map .val) :: H) (hx : ∀ v, x v = .p (blkOf v) 0) : KOk X P H H' x ρ o := fun B I w r a hw hh ho => by
 have hz' := hz.h
 unfold zeroCells at hz'
 cases hin : P.info? t with
 | none => simp [hin] at hz'
 | some inf =>
  cases hz2 : inf.zero with
  | none => simp [hin, hz2] at hz'
  | some z =>
   simp [hin, hz2] at hz'
   have h1 : RelL I w (zs.map .val) z.cells.toList := by rw [hz']; exact relL_val zs
   refine Runs.of_value YB (v := .pointer (some ⟨w.heap.size, 0, none⟩)) (w' := w.alloc (.cells z.cells t)) (by simp [execOp, h, Instr.alloc, newVar, newRow, zeroValue, typeInfo, hin, hz2]) ⟨I, hw.alloc _, ext_alloc hw _, ?_, ?_⟩
   ·rw [hH]; exact hh.new hw t _ _ h1
   ·rw [hx]; exact .val _
end
end Go.Eng

set_option linter.unusedVariables false
set_option linter.unusedSimpArgs false
namespace Go
def Exit.inBlockS (id : Nat) (Q : Exit → Act → List Frame → World → Prop) : Exit → Act → List Frame → World → Prop
 | .exit id', a, cs, w => if id' = id then Q .normal a cs w else Q (.exit id') a cs w
 | e, a, cs, w => Q e a cs w
theorem wpSIn_block {F : Fence} {n : Nat} {P : Program} {Q : Exit → Act → List Frame → World → Prop} {a : Act} {cs : List Frame} {w : World} {id : Nat} {c : Code} (h : c.wpSIn F n P (Exit.inBlockS id Q) a cs w) : (Code.block id c).wpSIn F n P Q a cs w := by
 intro b k hb hro hF hroom
 have h0 : (lone (b.atR a (.code (.block id c) :: k)) cs w).fenced P F := fenced_calm hF hroom rfl
 obtain ⟨e, a₁, cs₁, w₁, hl, hq, harr⟩ := h b (.inBlock id :: k) hb hro hF hroom
 cases e with
 | normal => exact ⟨.normal, a₁, cs₁, w₁, hl, hq, .head h0 stepR_block (StepsIn.trans harr (.one (fenced_calm hF (hl ▸ hroom) rfl) stepR_inBlock))⟩
 | exit id' =>
  by_cases hid : id' = id
  ·simp only [Exit.inBlockS, hid, if_true] at hq
   exact ⟨.normal, a₁, cs₁, w₁, hl, hq, .head h0 stepR_block (harr.1 k (by simp [exitTo, hid]))⟩
  ·simp only [Exit.inBlockS, hid, if_false] at hq
   have this : (id == id') = false := by simp; exact fun h => hid h.symm
   have hx : exitTo id' (.inBlock id :: k) = exitTo id' k := by simp [exitTo, this]
   exact ⟨.exit id', a₁, cs₁, w₁, hl, hq, fun k' hk => .head h0 stepR_block (harr.1 k' Yba),
    fun hr' hk => let ⟨k₁, h1, h2⟩ := harr.2 hr' Yba; ⟨k₁, h1, .head h0 stepR_block h2⟩⟩
 | goto l =>
  have hx : gotoIn l (.inBlock id :: k) = gotoIn l k := by simp [gotoIn]
  exact ⟨_, a₁, cs₁, w₁, hl, hq, fun k' hk => .head h0 stepR_block (harr.1 k' Yba),
   fun hr' hk => let ⟨k₁, h1, h2⟩ := harr.2 hr' Yba; ⟨k₁, h1, .head h0 stepR_block h2⟩⟩
 | ret => exact ⟨_, a₁, cs₁, w₁, hl, hq, .of_steps (.one h0 stepR_block) harr⟩
 | panic ch => exact ⟨_, a₁, cs₁, w₁, hl, hq, .of_steps (.one h0 stepR_block) harr⟩
 | outgrown => exact ⟨_, a₁, cs₁, w₁, hl, hq, .of_steps (.one h0 stepR_block) harr⟩
def wpF (f : FuncId) (F : Fence) (n : Nat) (P : Program) (c : Code) (Q : Exit → Act → World → Prop) (a : Act) (w : World) : Prop :=
 ∀ (b : Frame) (k : List Item) (cs : List Frame), b.roundOf = F.round → b.fn = f → F.fn b.fn → F.room (cs.length + 1 + n) → ∃ e a' w', Q e a' w' ∧ ArrivesIn (Machine.fenced P F) P (lone (b.atR a (.code c :: k)) cs w) b k cs e a' w'
section
variable {f : FuncId} {F : Fence} {n : Nat} {P : Program} {Q : Exit → Act → World → Prop} {a : Act} {w : World}
theorem wpF.of {c : Code} (h : c.wpIn F n P Q a w) : wpF f F n P c Q a w := fun b k cs hro _ hb hr => h b k cs hro hb hr
theorem wpF.mono {c : Code} {Q' : Exit → Act → World → Prop} (h : wpF f F n P c Q a w) (hq : ∀ e a w, Q e a w → Q' e a w) : wpF f F n P c Q' a w := fun b k cs hro he hb hr =>
 let ⟨e, a', w', h1, h2⟩ := h b k cs hro he hb hr; ⟨e, a', w', hq _ _ _ h1, h2⟩
theorem wpF.seq {x y : Code} (h : wpF f F n P x (Exit.then (wpF f F n P y Q) Q) a w) : wpF f F n P (.seq x y) Q a w := by
 intro b k cs hro he hb hr
 have h0 : (lone (b.atR a (.code (.seq x y) :: k)) cs w).fenced P F := fenced_calm hb hr rfl
 obtain ⟨e, a₁, w₁, hq, harr⟩ := h b (.code y :: k) cs hro he hb hr
 cases e with
 | normal =>
  obtain ⟨e₂, a₂, w₂, hq₂, harr₂⟩ := hq b k cs hro he hb hr
  exact ⟨e₂, a₂, w₂, hq₂, .of_steps (.head h0 stepR_seq harr) harr₂⟩
 | exit id => exact ⟨_, a₁, w₁, hq, .of_steps (.one h0 stepR_seq) (.pass (x := .code y) rfl (fun _ _ => .inl Ys) harr)⟩
 | goto l => exact ⟨_, a₁, w₁, hq, .of_steps (.one h0 stepR_seq) (.pass (x := .code y) rfl (fun _ _ => .inl Ys) harr)⟩
 | ret => exact ⟨_, a₁, w₁, hq, .of_steps (.one h0 stepR_seq) (.pass (x := .code y) rfl (fun _ _ => .inl Ys) harr)⟩
 | panic ch => exact ⟨_, a₁, w₁, hq, .of_steps (.one h0 stepR_seq) (.pass (x := .code y) rfl (fun _ _ => .inl Ys) harr)⟩
 | outgrown => exact ⟨_, a₁, w₁, hq, .of_steps (.one h0 stepR_seq) (.pass (x := .code y) rfl (fun _ _ => .inl Ys) harr)⟩
theorem wpF.block {id : Nat} {c : Code} (h : wpF f F n P c (Exit.inBlock id Q) a w) : wpF f F n P (.block id c) Q a w := by
 intro b k cs hro he hb hr
 have h0 : (lone (b.atR a (.code (.block id c) :: k)) cs w).fenced P F := fenced_calm hb hr rfl
 obtain ⟨e, a₁, w₁, hq, harr⟩ := h b (.inBlock id :: k) cs hro he hb hr
 cases e with
 | normal => exact ⟨.normal, a₁, w₁, hq, .head h0 stepR_block (StepsIn.trans harr (.one (fenced_calm hb hr rfl) stepR_inBlock))⟩
 | exit id' =>
  by_cases hid : id' = id
  ·simp only [Exit.inBlock, hid, if_true] at hq
   exact ⟨.normal, a₁, w₁, hq, .head h0 stepR_block (harr.1 k (by simp [exitTo, hid]))⟩
  ·simp only [Exit.inBlock, hid, if_false] at hq
   have this : (id == id') = false := by simp; exact fun h => hid h.symm
   have hx : exitTo id' (.inBlock id :: k) = exitTo id' k := by simp [exitTo, this]
   exact ⟨.exit id', a₁, w₁, hq, fun k' hk => .head h0 stepR_block (harr.1 k' Yba),
    fun hr' hk => let ⟨k₁, h1, h2⟩ := harr.2 hr' Yba; ⟨k₁, h1, .head h0 stepR_block h2⟩⟩
 | goto l =>
  have hx : gotoIn l (.inBlock id :: k) = gotoIn l k := by simp [gotoIn]
  exact ⟨_, a₁, w₁, hq, fun k' hk => .head h0 stepR_block (harr.1 k' Yba),
   fun hr' hk => let ⟨k₁, h1, h2⟩ := harr.2 hr' Yba; ⟨k₁, h1, .head h0 stepR_block h2⟩⟩
 | ret => exact ⟨_, a₁, w₁, hq, .of_steps (.one h0 stepR_block) harr⟩
 | panic ch => exact ⟨_, a₁, w₁, hq, .of_steps (.one h0 stepR_block) harr⟩
 | outgrown => exact ⟨_, a₁, w₁, hq, .of_steps (.one h0 stepR_block) harr⟩
theorem callsIn_of_wpF {fn : Func} {c : Code} {args : Array Value} {R : Ending → World → Prop} (hf : P.funcs[f]? = some fn) (hb : fn.body = some c) (hF : F.fn f)
  (h : wpF f F n P c (bodyPostM F n P fn R) { tmps := args ++ Array.replicate (fn.ntmps - args.size) undef, defers := [] } w) (hro : F.round = none := by rfl) : CallsIn F n P f args w R := by
 refine ⟨hF, fun cs hr => ?_⟩
 let b : Frame := { (default : Frame) with fn := f, kind := .normal, roundOf := none }
 have henter : Frame.enter P f args .normal = b.atR { tmps := args ++ Array.replicate (fn.ntmps - args.size) undef, defers := [] } [.code c] := by
  simp [Frame.enter, Frame.atR, hf, hb, b]
 obtain ⟨e, a', w', hq, harr⟩ := h b [] cs hro.symm rfl hF hr
 rw [← henter] at harr
 cases e with
 | normal =>
  obtain ⟨e', w'', fr', hR, hs, hfn, hl⟩ := leaves_stepsInM a'.defers .returning w' { b.atR a' [] with mode := .returning } cs rfl rfl rfl hf rfl hF hr hq
  exact ⟨e', w'', fr', hR, ComesIn.of_steps (StepsIn.trans harr (.one (fenced_calm (fr := b.atR a' []) hF hr rfl) (stepR_end rfl))) hs, hfn, hl⟩
 | ret =>
  obtain ⟨todo, hs₀⟩ := harr.1 rfl
  obtain ⟨e', w'', fr', hR, hs, hfn, hl⟩ := leaves_stepsInM a'.defers .returning w' { b.atR a' todo with mode := .returning } cs rfl rfl rfl hf rfl hF hr hq
  exact ⟨e', w'', fr', hR, ComesIn.of_steps hs₀ hs, hfn, hl⟩
 | panic chain =>
  obtain ⟨todo, hs₀⟩ := harr
  obtain ⟨e', w'', fr', hR, hs, hfn, hl⟩ := leaves_stepsInM a'.defers (.panicking chain) w' { b.atR a' todo with mode := .panicking chain } cs rfl rfl rfl hf rfl hF hr hq
  exact ⟨e', w'', fr', hR, ComesIn.of_steps hs₀ hs, hfn, hl⟩
 | exit id => exact hq.elim
 | goto l => exact hq.elim
 | outgrown => exact ⟨.outgrown, w', b, hq, harr.resolve_left (by simp [b]), rfl, trivial⟩
def roundPostP (P : Program) (l : Nat) (R : Ending → World → Prop) : Exit → Act → World → Prop
 | .panic chain, a, w => a.defers = [] ∧ R (.panicked chain) w
 | e, a, w => roundPost P l R e a w
theorem roundIn_of_wpInP {l : Nat} {fn : Func} {tmps : Array Value} {assign body : Code} {R : Ending → World → Prop} (hF : F.fn f) (hfn : P.funcs[f]? = some fn)
  (h : assign.wpIn (F.inRound l) n P (Exit.then (fun a₁ w₁ => ∃ w₂, (Instr.beginRound l).run P w₁ = .ok () w₂ ∧ body.wpIn (F.inRound l) n P (roundPostP P l R) a₁ w₂) (fun _ _ _ => False)) { tmps := tmps, defers := [] } w) :
  RoundIn F n P l f tmps assign body w R := by
 refine ⟨hF, fun c cs hr => ?_⟩
 let b : Frame := { (default : Frame) with fn := f, kind := .normal, roundOf := some l }
 have hb0 : Frame.round l f tmps assign body .normal = b.atR { tmps := tmps, defers := [] } [.code assign, .beginRound, .code body] := by
  simp [Frame.round, Frame.atR, b]
 have hr' : (F.inRound l).room ((c :: cs).length + 1 + n) := hr
 have hF' : (F.inRound l).fn b.fn := hF
 obtain ⟨e, a₁, w₁, hq, harr⟩ := h b [.beginRound, .code body] (c :: cs) rfl hF' hr'
 rw [← hb0] at harr
 cases e with
 | normal =>
  obtain ⟨w₂, hbr, hbody⟩ := hq
  have s1 : StepsIn (Machine.fenced P (F.inRound l)) P (lone (b.atR a₁ [.beginRound, .code body]) (c :: cs) w₁) (lone (b.atR a₁ [.code body]) (c :: cs) w₂) :=
   .one (fenced_calm (fr := b.atR a₁ [.beginRound, .code body]) hF' hr' rfl) (stepR_beginRound rfl hbr)
  obtain ⟨e₂, a₂, w₃, hq₂, harr₂⟩ := hbody b [] (c :: cs) rfl hF' hr'
  cases e₂ with
  | normal =>
   obtain ⟨v, w₄, hend, hR⟩ := hq₂
   exact ⟨.returned v, w₄, hR, (StepsIn.trans harr s1).trans (StepsIn.trans harr₂ (.one (fenced_calm (fr := b.atR a₂ []) hF' hr' rfl) (stepR_round_end rfl rfl hend)))⟩
  | ret =>
   obtain ⟨v, w₄, hend, hR⟩ := hq₂
   obtain ⟨k₁, hs⟩ := harr₂.2 rfl
   exact ⟨.returned v, w₄, hR, (StepsIn.trans harr s1).trans (StepsIn.trans hs (.one (fenced_calm (fr := b.atR a₂ (.code .ret :: k₁)) hF' hr' rfl) (stepR_round_ret rfl rfl hend)))⟩
  | exit id =>
   obtain ⟨v, w₄, hend, hR⟩ := hq₂
   obtain ⟨k₁, hk, hs⟩ := harr₂.2 rfl rfl
   exact ⟨.returned v, w₄, hR, (StepsIn.trans harr s1).trans (StepsIn.trans hs (.one (fenced_calm (fr := b.atR a₂ (.code (.exit id) :: k₁)) hF' hr' rfl) (stepR_round_exit rfl rfl hk hend)))⟩
  | goto t =>
   obtain ⟨v, w₄, hend, hR⟩ := hq₂
   obtain ⟨k₁, hk, hs⟩ := harr₂.2 rfl rfl
   exact ⟨.returned v, w₄, hR, (StepsIn.trans harr s1).trans (StepsIn.trans hs (.one (fenced_calm (fr := b.atR a₂ (.code (.goto t) :: k₁)) hF' hr' rfl) (stepR_round_goto rfl rfl hk hend)))⟩
  | panic chain =>
   obtain ⟨hd, hR⟩ := hq₂
   obtain ⟨todo, hs⟩ := harr₂
   have hl : ({ b.atR a₂ todo with mode := .panicking chain } : Frame).leaving P w₃ (.panicked chain) := ⟨rfl, hd, fn, hfn⟩
   exact ⟨.panicked chain, w₃, hR, (StepsIn.trans harr s1).trans (StepsIn.trans hs (.one (fenced_leaving (n := n) hF' hr' hl) (step_leave_panicked hl)))⟩
  | outgrown => exact hq₂.elim
 | exit id => exact hq.elim
 | goto t => exact hq.elim
 | ret => exact hq.elim
 | panic chain => exact hq.elim
 | outgrown => exact hq.elim
theorem wpF.rangeFunc {g : Operand} {ps : Array Tmp} {assign body : Code}
  (h : ∃ (l : Nat) (mark : List Deferred) (w₁ : World) (d : Deferred) (w₁' : World) (f' : FuncId) (args : Array Value) (w₂ : World),
   (Instr.enterLoop f a.tmps ps assign body F.round).run P w = .ok (l, mark) w₁ ∧
   (resolve a.eval (rangeCall g l) 0).run P w₁ = .ok d w₁' ∧
   (∀ f', Target.leads P w₁' d.target d.args = some f' → F.fn f') ∧
   (invoke d.target d.args).run P w₁' = .ok (.enter f' args) w₂ ∧
   (F.depth.isSome = true → 1 ≤ n) ∧
   CallsIn F (n - 1) P f' args w₂ (rangePost F n P l Q { a with defers := mark ++ a.defers })) :
  wpF f F n P (Code.rangeFunc g ps assign body) Q a w := by
 intro b k cs hro he' hb hr
 obtain ⟨l, mark, w₁, d, w₁', f', args, w₂, he, hres, hlead, hinv, hn, hF, hcall⟩ := h
 rw [← hro, ← he'] at he
 have h0 : (lone (b.atR a (.code (.rangeFunc g ps assign body) :: k)) cs w).fenced P F := by
  refine fenced_lone (.inl hb) (fun f' hf' => hlead f' ?_) (Fence.room_le hr Yb)
  have hev := Frame.eval_atR b a (.code (.rangeFunc g ps assign body) :: k)
  simp only [Frame.atR] at hev
  simp only [Frame.about, Frame.atR, he, hev, hres] at hf'
  exact hf'
 have henter := stepR_rangeFunc (P := P) (b := b) (a := a) (k := k) (cs := cs) (w := w) he hres hinv
 have hroom : F.room ((b.atR { a with defers := mark ++ a.defers } (.inRangeFunc l :: k) :: cs).length + 1 + (n - 1)) := Fence.room_enter hr hn
 obtain ⟨e, w₃, fr, hR, hsteps, hfn, hleave⟩ := hcall (b.atR { a with defers := mark ++ a.defers } (.inRangeFunc l :: k) :: cs) hroom
 cases e with
 | outgrown =>
  obtain ⟨a₀, w₀, hq⟩ := hR
  exact ⟨.outgrown, a₀, w₀, hq, .inr (Outgrown.of_steps (.one henter) hsteps)⟩
 | returned v =>
  have hl : (lone fr (b.atR { a with defers := mark ++ a.defers } (.inRangeFunc l :: k) :: cs) w₃).fenced P F := fenced_leaving (hfn ▸ hF) hroom hleave
  obtain ⟨jump, w₄, hend, hj⟩ := hR
  have sback : StepsIn (Machine.fenced P F) P (lone (b.atR a (.code (.rangeFunc g ps assign body) :: k)) cs w) (lone (b.atR { a with defers := mark ++ a.defers } ((jump.map Item.code).toList ++ k)) cs w₄) := by
   refine .head h0 henter (StepsIn.trans hsteps (.head hl ?_ (.one (fenced_calm (fr := b.atR { a with defers := mark ++ a.defers } (.endRangeFunc l :: k)) hb hr rfl) (stepR_endRangeFunc hend))))
   rw [← finish_atR_inRangeFunc l v]; exact step_leave_returned hleave
  cases jump with
  | none => exact ⟨.normal, _, w₄, hj, sback⟩
  | some c =>
   obtain ⟨e', a'', w₅, hq, harr⟩ := hj b k cs hro hb hr
   exact ⟨e', a'', w₅, hq, .of_steps sback harr⟩
 | panicked chain =>
  have hl : (lone fr (b.atR { a with defers := mark ++ a.defers } (.inRangeFunc l :: k) :: cs) w₃).fenced P F := fenced_leaving (hfn ▸ hF) hroom hleave
  refine ⟨.panic chain, _, w₃, hR, .inRangeFunc l :: k, .head h0 henter (StepsIn.trans hsteps (.one hl ?_))⟩
  rw [← Frame.raise_atR]; exact step_leave_panicked hleave
end
end Go
