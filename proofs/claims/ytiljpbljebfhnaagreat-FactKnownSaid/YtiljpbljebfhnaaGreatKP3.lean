/- The engine, part 10: ranges over functions. No condition: general lemmas over any program. -/
import Derived.Test.YtiljpbljebfhnaaGreatKP2
import Derived.Laws.Cover3
import Derived.Maps.Keyed

set_option linter.unusedVariables false
set_option linter.unusedSimpArgs false
namespace Go.Eng
open Go.RowKit (Below)

/-- what may be called with elements, one after the other, until it says no: J: what private memory is when pre has come; Jx: .. and it has said no -/
def CbOk {α : Type} (B : Nat) (P : Program) (g : AV) (enc : α → AV) (L : List α) (F : List Ent → Prop) (J Jx : List α → List Ent → Prop) : Prop :=
  ∀ pre x H Hx, pre ++ [x] <+: L → F Hx → J pre H → VCall B P g [enc x] (H ++ Hx) (fun y H' => ∃ b H1, y = .b b ∧ H' = H1 ++ Hx ∧ (b = true → J (pre ++ [x]) H1) ∧ (b = false → Jx (pre ++ [x]) H1)) (fun _ => False)

/-- a function that hands the elements of L on, one after the other -/
def SeqOk {α : Type} (B : Nat) (P : Program) (gv : AV) (enc : α → AV) (L : List α) : Prop :=
  ∀ (J Jx : List α → List Ent → Prop) (f : Fn) (fs cs : List AV), CbOk B P (.fn f fs cs) enc L (fun _ => True) J Jx → ∀ H Hx, J [] H →
    VCall B P gv [.fn f fs cs] (H ++ Hx) (fun _ H' => ∃ H1, H' = H1 ++ Hx ∧ (J L H1 ∨ ∃ pre, pre <+: L ∧ Jx pre H1)) (fun _ => False)

theorem HeapOk.newObj {B : Nat} {I : Imm} {w : World} {H : List Ent} (h : HeapOk B I w H) (hw : WOk B I w) (o : Obj) : HeapOk B I (w.alloc o) (.obj w.heap.size o :: H) := by
  have h' := h.alloc hw o
  refine ⟨fun e he => ?_, List.pairwise_cons.2 ⟨fun f hf b hb => ?_, h'.apart⟩⟩
  · rcases List.mem_cons.1 he with rfl | he
    · exact ⟨hw.base, World.alloc_heap_new w o, fun o' ho => absurd (hw.lt ho) (Nat.lt_irrefl _)⟩
    · exact h'.ok e he
  · simp [Ent.foot] at hb; subst hb
    intro e
    exact absurd (Ent.foot_lt (h.ok f hf) e).2 (Nat.lt_irrefl _)

theorem putObj_keeps {B : Nat} {I : Imm} {w : World} {b : Nat} {o' : Obj} (hni : ∀ o, ¬ I b o) : Keeps I w I (w.putObj b o') :=
  ⟨fun _ _ x => x, fun b' o x => World.cell?_of_block (a := ⟨b', o, none⟩) (World.putObj_heap_other (fun e => hni o (e ▸ x)))⟩

theorem WOk.putObj {B : Nat} {I : Imm} {w : World} (h : WOk B I w) {b : Nat} {o' : Obj} (hni : ∀ o, ¬ I b o) : WOk B I (w.putObj b o') :=
  ⟨by simpa using h.base, fun b' o x => by rw [(putObj_keeps (B := B) (o' := o') hni).cell b' o x]; exact h.there b' o x⟩

theorem below_putObj {B b : Nat} {w : World} {o : Obj} (h : B ≤ b) : Below B w (w.putObj b o) :=
  ⟨rfl, rfl, rfl, by simp, fun j hj => World.putObj_heap_other (by omega)⟩

theorem HeapOk.putLoop {B : Nat} {I : Imm} {w : World} {H H' : List Ent} {b : Nat} {lp lp' : Loop} {ρ : Nat → Option AV} (h : HeapOk B I w H) (hu : Upd H (.loop b lp ρ) (.loop b lp' ρ) H') (ht : lp'.tmps = lp.tmps) : HeapOk B I (w.putObj b (.loop lp')) H' := by
  obtain ⟨hB, hb, hv, hni⟩ := h.ok _ hu.mem
  refine h.upd hu (putObj_keeps (B := B) hni) (fun k hk hne => World.putObj_heap_other (fun e => hne (by rw [e]; rfl))) (fun _ _ x => .inl x) ⟨hB, World.putObj_heap_same (Array.getElem?_eq_some_iff.1 hb).1, fun t x hx => ?_, hni⟩ (fun k hk => .inl hk)
  rw [ht]
  exact (hv t x hx).keep (putObj_keeps (B := B) hni)

theorem HeapOk.newLoop {B : Nat} {I : Imm} {w : World} {H : List Ent} (h : HeapOk B I w H) (hw : WOk B I w) (lp : Loop) (ρ : Nat → Option AV) (hρ : ∀ t x, ρ t = some x → Rel I w x (lp.tmps.getD t undef)) : HeapOk B I (w.alloc (.loop lp)) (.loop w.heap.size lp ρ :: H) := by
  have h' := h.alloc hw (.loop lp)
  refine ⟨fun e he => ?_, List.pairwise_cons.2 ⟨fun f hf b hb => ?_, h'.apart⟩⟩
  · rcases List.mem_cons.1 he with rfl | he
    · exact ⟨hw.base, World.alloc_heap_new w _, fun t x hx => (hρ t x hx).keep (keeps_alloc hw _), fun o' ho => absurd (hw.lt ho) (Nat.lt_irrefl _)⟩
    · exact h'.ok e he
  · simp [Ent.foot] at hb; subst hb
    intro e
    exact absurd (Ent.foot_lt (h.ok f hf) e).2 (Nat.lt_irrefl _)

theorem Ext.putObj {B : Nat} {I : Imm} {w : World} {b : Nat} {o' : Obj} (hB : B ≤ b) (hni : ∀ o, ¬ I b o) : Ext B I w I (w.putObj b o') :=
  ⟨fun _ _ x => x, (putObj_keeps (B := B) hni).cell, below_putObj hB⟩

/-- how a round's body may end -/
def roundEnd {α : Type} (B : Nat) (I0 : Imm) (w0 : World) (l D : Nat) (lp : Loop) (ρ : Nat → Option AV) (J : List α → List Ent → Prop) (Jx : Code → List α → List Ent → Prop) (pre : List α) (Hx : List Ent) : Exit → Act → World → Prop := fun e _ w =>
  ∃ I H, WOk B I w ∧ Ext B I0 w0 I w ∧ HeapOk B I w (.loop l lp ρ :: .obj D (.deferred (some [])) :: (H ++ Hx)) ∧
    match e with
    | .normal => J pre H
    | .ret => Jx .ret pre H
    | .exit id => Jx (.exit id) pre H
    | _ => False

/-- what is asked of elements, one after the other, until it says yes -/
def FindOk {α : Type} (B : Nat) (P : Program) (g : AV) (enc : α → AV) (L : List α) (F : List Ent → Prop) (J Jx : List α → List Ent → Prop) : Prop :=
  ∀ pre x H Hx, pre ++ [x] <+: L → F Hx → J pre H → VCall B P g [enc x] (H ++ Hx) (fun y H' => ∃ b H1, y = .b b ∧ H' = H1 ++ Hx ∧ (b = false → J (pre ++ [x]) H1) ∧ (b = true → Jx (pre ++ [x]) H1)) (fun _ => False)

/-- .. that changes nothing, asked of elements of a list, where there is some private memory -/
def PredOn {α : Type} (P : Program) (Hm : List Ent) (g : AV) (enc : α → AV) (l : List α) (p : α → Bool) : Prop := ∀ x ∈ l, ∀ B H, (∀ e ∈ Hm, e ∈ H) → VCall B P g [enc x] H (fun y H' => y = .b (p x) ∧ H' = H) (fun _ => False)

/-- .. that changes nothing -/
def PredOk {α : Type} (P : Program) (g : AV) (enc : α → AV) (p : α → Bool) : Prop := ∀ B x H, VCall B P g [enc x] H (fun y H' => y = .b (p x) ∧ H' = H) (fun _ => False)

theorem PredOk.on {α : Type} {P : Program} {g : AV} {enc : α → AV} {p : α → Bool} (h : PredOk P g enc p) (l : List α) : PredOn P [] g enc l p := fun x _ B H _ => h B x H

theorem PredOn.find {α : Type} {B : Nat} {P : Program} {Hm : List Ent} {g : AV} {enc : α → AV} {l : List α} {p : α → Bool} (h : PredOn P Hm g enc l p) : FindOk B P g enc l (fun Hx => ∀ e ∈ Hm, e ∈ Hx) (fun pre H => H = [] ∧ ∀ x ∈ pre, p x = false) (fun pre H => H = [] ∧ ∃ q x, pre = q ++ [x] ∧ (∀ y ∈ q, p y = false) ∧ p x = true) := by
  rintro pre x H Hx hpx hF ⟨rfl, hp⟩ I w v vs hw hh hv hvs
  have := h x (hpx.subset (by simp)) B Hx hF I w v vs hw hh hv hvs
  have conv : ∀ e w', RetP B I w (fun y H' => y = .b (p x) ∧ H' = Hx) (fun _ => False) e w' → RetP B I w (fun y H' => ∃ b H1, y = .b b ∧ H' = H1 ++ Hx ∧ (b = false → H1 = [] ∧ ∀ y ∈ pre ++ [x], p y = false) ∧ (b = true → H1 = [] ∧ ∃ q z, pre ++ [x] = q ++ [z] ∧ (∀ y ∈ q, p y = false) ∧ p z = true)) (fun _ => False) e w' := by
    rintro e w' ⟨I', H', a, b, d, hr⟩
    refine ⟨I', H', a, b, d, hr.elim (fun ⟨v, y, e1, e2, e3, e4⟩ => .inl ⟨v, y, e1, e2, p x, [], e3, by simp [e4], fun hb => ⟨rfl, fun y hy => ?_⟩, fun hb => ⟨rfl, pre, x, rfl, hp, hb⟩⟩) (fun ⟨_, _, _, _, h⟩ => h.elim)⟩
    rcases List.mem_append.1 hy with hy | hy
    · exact hp y hy
    · simp at hy; subst hy; exact hb
  exact this.elim (fun ⟨f, vf, vc, e, hok, hc⟩ => .inl ⟨f, vf, vc, e, hok, hc.mono conv⟩) (fun ⟨l, e, hy⟩ => .inr ⟨l, e, hy.mono conv⟩)

section
variable {c : Ctx} {r : Option Nat} {P : Program} {ops : Array Oper} {rest : List Oper} {o : Oper} {st : St} {Q : Exit → Act → World → Prop} {x : AV}

theorem Done.roundN {α : Type} {B : Nat} {I0 : Imm} {w0 : World} {n l D : Nat} {lp : Loop} {ρ : Nat → Option AV} {J : List α → List Ent → Prop} {Jx : Code → List α → List Ent → Prop} {pre : List α} {H Hx : List Ent} {ds : List Deferred}
    (hH : (.loop l lp ρ :: .obj D (.deferred (some [])) :: (H ++ Hx)).Sublist st.H) (hJ : J pre H) : Done ⟨B, I0, w0, n, ds⟩ st .normal (roundEnd B I0 w0 l D lp ρ J Jx pre Hx) := fun a w s =>
  let ⟨I, hw, he, hh, hv⟩ := s.mem; ⟨I, H, hw, he, hh.sub hH, hJ⟩
theorem Done.roundR {α : Type} {B : Nat} {I0 : Imm} {w0 : World} {n l D : Nat} {lp : Loop} {ρ : Nat → Option AV} {J : List α → List Ent → Prop} {Jx : Code → List α → List Ent → Prop} {pre : List α} {H Hx : List Ent} {ds : List Deferred}
    (hH : (.loop l lp ρ :: .obj D (.deferred (some [])) :: (H ++ Hx)).Sublist st.H) (hJ : Jx .ret pre H) : Done ⟨B, I0, w0, n, ds⟩ st .ret (roundEnd B I0 w0 l D lp ρ J Jx pre Hx) := fun a w s =>
  let ⟨I, hw, he, hh, hv⟩ := s.mem; ⟨I, H, hw, he, hh.sub hH, hJ⟩
theorem Done.roundE {α : Type} {B : Nat} {I0 : Imm} {w0 : World} {n l D id : Nat} {lp : Loop} {ρ : Nat → Option AV} {J : List α → List Ent → Prop} {Jx : Code → List α → List Ent → Prop} {pre : List α} {H Hx : List Ent} {ds : List Deferred}
    (hH : (.loop l lp ρ :: .obj D (.deferred (some [])) :: (H ++ Hx)).Sublist st.H) (hJ : Jx (.exit id) pre H) : Done ⟨B, I0, w0, n, ds⟩ st (.exit id) (roundEnd B I0 w0 l D lp ρ J Jx pre Hx) := fun a w s =>
  let ⟨I, hw, he, hh, hv⟩ := s.mem; ⟨I, H, hw, he, hh.sub hH, hJ⟩

theorem VCall.perm {B : Nat} {g : AV} {xs : List AV} {H H' : List Ent} {Φ : AV → List Ent → Prop} {E : AV → Prop} (h : VCall B P g xs H Φ E) (hp : H'.Perm H) : VCall B P g xs H' Φ E :=
  fun I w v vs hw hh hv hvs => h I w v vs hw (hh.perm hp) hv hvs

theorem RetP.mono {B : Nat} {I : Imm} {w : World} {Φ Φ' : AV → List Ent → Prop} {E E' : AV → Prop} {e : Ending} {w' : World} (h : RetP B I w Φ E e w') (h1 : ∀ y H, Φ y H → Φ' y H) (h2 : ∀ y, E y → E' y) : RetP B I w Φ' E' e w' := by
  obtain ⟨I', H', a, b, d, hr⟩ := h
  exact ⟨I', H', a, b, d, hr.elim (fun ⟨v, x, e1, e2, e3⟩ => .inl ⟨v, x, e1, e2, h1 _ _ e3⟩) (fun ⟨v, x, e1, e2, e3⟩ => .inr ⟨v, x, e1, e2, h2 _ e3⟩)⟩

theorem FCall.mono {v : Value} {vs : List Value} {w : World} {R R' : Ending → World → Prop} (h : FCall P v vs w R) (hr : ∀ e w, R e w → R' e w) : FCall P v vs w R' :=
  h.elim (fun ⟨f, vf, vc, e, hok, hc⟩ => .inl ⟨f, vf, vc, e, hok, hc.mono hr⟩) (fun ⟨l, e, hy⟩ => .inr ⟨l, e, hy.mono hr⟩)

theorem VCall.mono {B : Nat} {g : AV} {xs : List AV} {H : List Ent} {Φ Φ' : AV → List Ent → Prop} {E E' : AV → Prop} (h : VCall B P g xs H Φ E) (h1 : ∀ y H, Φ y H → Φ' y H) (h2 : ∀ y, E y → E' y) : VCall B P g xs H Φ' E' :=
  fun I w v vs hw hh hv hvs => (h I w v vs hw hh hv hvs).mono fun _ _ hr => hr.mono h1 h2

theorem envGet_zip {I : Imm} {w : World} {env : List (Nat × AV)} {a : Act} {p : Nat} {v : Value} {y : AV} (h : EnvOk I w (envGet env) a) (hp : p < a.tmps.size) (hy : Rel I w y v) (ds : List Deferred) : EnvOk I w (envGet ((p, y) :: env)) { tmps := a.tmps.setIfInBounds p v, defers := ds } := by
  intro t z hz
  rw [envGet_cons] at hz
  show Rel I w z ((a.tmps.setIfInBounds p v).getD t undef)
  split at hz
  · rename_i e; subst e; simp at hz; subst hz
    simp [Array.getD, hp]; exact hy
  · rename_i e
    have := h t z hz
    simp only [Array.getD_eq_getD_getElem?] at this ⊢
    rwa [Array.getElem?_setIfInBounds_ne (Ne.symm e)]

/-- THE STATEMENT, not within a round of another one -/
theorem CW.rangeFunc {α : Type} {t p : Nat} {assign body : Code} {f : FuncId} {caps : List AV} (enc : α → AV) (L : List α) (J : List α → List Ent → Prop) (Jx : Code → List α → List Ent → Prop) (H Hx : List Ent) (env' : α → List (Nat × AV))
    (hr : r = none) (hH : st.H = H ++ Hx) (hg : envGet st.env t = some (.fn (.func f) [] caps)) (hp : Nat.blt p c.n = true) (hseq : SeqOk c.B P (.fn (.func f) [] caps) enc L) (hJ : J [] H)
    (assignOk : ∀ (l : Nat) (I : Imm) (w : World) (x : α) (Hy : List Ent), CW ⟨c.B, I, w, c.n, []⟩ (some l) P assign ⟨(p, enc x) :: st.env, Hy⟩ (Exit.then (fun a w' => ∃ st', st' = (⟨env' x, Hy⟩ : St) ∧ Sat ⟨c.B, I, w, c.n, []⟩ st' a w') (fun _ _ _ => False)))
    (round : ∀ (l D : Nat) (lp : Loop) (pre : List α) (x : α) (H1 Hy : List Ent) (I : Imm) (w : World), pre ++ [x] <+: L → J pre H1 →
      CW ⟨c.B, I, w, c.n, []⟩ (some l) P body ⟨env' x, .loop l lp (envGet st.env) :: .obj D (.deferred (some [])) :: (H1 ++ Hy)⟩ (roundEnd c.B I w l D lp (envGet st.env) J Jx (pre ++ [x]) Hy))
    (done : ∀ (D : Nat) (H1 : List Ent), J L H1 → Done ⟨c.B, c.I0, c.w0, c.n, { target := .collected D, args := #[] } :: c.ds⟩ ⟨st.env, .obj D (.deferred (some [])) :: (H1 ++ Hx)⟩ .normal Q)
    (jump : ∀ (D : Nat) (code : Code) (pre : List α) (H1 : List Ent), pre <+: L → Jx code pre H1 → CW ⟨c.B, c.I0, c.w0, c.n, { target := .collected D, args := #[] } :: c.ds⟩ r P code ⟨st.env, .obj D (.deferred (some [])) :: (H1 ++ Hx)⟩ Q) :
    CW c r P (.rangeFunc (.tmp t) #[p] assign body) st Q := by
  intro a w s
  subst hr
  obtain ⟨I, hw, he, hh, hv⟩ := s.mem
  rw [hH] at hh
  refine wpIn_rangeFunc fun fn hfn => ?_
  obtain ⟨lr, hlr⟩ : ∃ lr : Loop, lr = { state := .ready, pending := none, fn, tmps := a.tmps, params := #[p], assign, body, defers := w.heap.size } := ⟨_, rfl⟩
  have hgv := hv t _ hg
  generalize hu : a.tmps.getD t undef = u at hgv
  cases hgv with
  | fn _ _ _ vf vc hf hc =>
  have hvf : vf = #[] := by cases vf with | mk l => cases hf; rfl
  subst hvf
  have hh1 := hh.newObj hw (.deferred (some []))
  have hw1 := hw.alloc (.deferred (some []))
  have hv1 := hv.keep (keeps_alloc hw (.deferred (some [])))
  have hh2 := hh1.newLoop hw1 lr (envGet st.env) (by rw [hlr]; exact hv1)
  have hw2 := hw1.alloc (.loop lr)
  rw [World.size_alloc] at hh2
  have k2 : Ext c.B I w I ((w.alloc (.deferred (some []))).alloc (.loop lr)) := (ext_alloc hw _).trans (ext_alloc hw1 _)
  let J' : List α → List Ent → Prop := fun pre Hf => ∃ H1, J pre H1 ∧ Hf = .loop (w.heap.size + 1) lr (envGet st.env) :: .obj w.heap.size (.deferred (some [])) :: (H1 ++ Hx)
  let Jx' : List α → List Ent → Prop := fun pre Hf => ∃ code H1, Jx code pre H1 ∧ Hf = .loop (w.heap.size + 1) { lr with state := .done, pending := some code } (envGet st.env) :: .obj w.heap.size (.deferred (some [])) :: (H1 ++ Hx)
  have hsz : a.tmps.size = c.n := s.size
  have hpn : p < c.n := Nat.lt_of_succ_le (by simpa [Nat.blt] using hp)
  have hcb : CbOk c.B P (.fn (.yield (w.heap.size + 1)) [] []) enc L (fun _ => True) J' Jx' := by
    rintro pre x Hf Hy hpx _ ⟨H1, hJ1, rfl⟩ I2 W v vs hwW hhW hvW hvs
    obtain rfl : v = .func (.yield (w.heap.size + 1)) #[] #[] := by
      cases hvW with
      | fn _ _ _ vf vc hf hc =>
        cases vf with
        | mk lf => cases vc with
          | mk lc => cases hf; cases hc; rfl
    cases hvs with
    | cons _ v1 _ vs' hx1 ht =>
    cases ht
    obtain ⟨hBl, hbl, hρ, hnil⟩ := hhW.ok (.loop (w.heap.size + 1) lr (envGet st.env)) (by simp)
    have hy := run_yield (P := P) (args := #[v1]) hbl (by rw [hlr]; rfl)
    refine .inr ⟨_, rfl, fn, a.tmps.setIfInBounds p v1, assign, body, ?_, ?_⟩
    · rw [hlr] at hy
      simpa using hy
    · refine roundIn_of_wpIn (F := FW none) (n := 0) trivial ?_
      have hhW' : HeapOk c.B I2 W (.loop (w.heap.size + 1) lr (envGet st.env) :: .obj w.heap.size (.deferred (some [])) :: (H1 ++ (Hx ++ Hy))) := by
        simpa [List.append_assoc] using hhW
      have hst : Sat ⟨c.B, I2, W, c.n, []⟩ ⟨(p, enc x) :: st.env, .loop (w.heap.size + 1) lr (envGet st.env) :: .obj w.heap.size (.deferred (some [])) :: (H1 ++ (Hx ++ Hy))⟩ { tmps := a.tmps.setIfInBounds p v1, defers := [] } W := by
        refine ⟨rfl, by simpa using hsz, I2, hwW, Ext.refl _ _ _, hhW', ?_⟩
        refine envGet_zip (a := a) (fun t y hty => ?_) (by rw [hsz]; exact hpn) hx1 []
        have := hρ t y hty
        rw [hlr] at this
        exact this
      refine wpIn_mono (assignOk (w.heap.size + 1) I2 W x _ _ W hst) fun e a3 W3 hp3 => ?_
      cases e with
      | normal =>
        obtain ⟨st', rfl, s3⟩ := hp3
        obtain ⟨I3, hw3, he3, hh3, hv3⟩ := s3.mem
        obtain ⟨hBl3, hbl3, _, hni3⟩ := hh3.ok _ (.head _)
        refine ⟨_, run_beginRound hbl3 (by rw [hlr]), ?_⟩
        have hh4 := hh3.putLoop (lp' := { lr with state := .busy }) (.head _ _ _) rfl
        have he4 : Ext c.B I3 W3 I3 (W3.putObj (w.heap.size + 1) (.loop { lr with state := .busy })) := Ext.putObj hBl3 hni3
        have s4 : Sat ⟨c.B, I2, W, c.n, []⟩ ⟨env' x, .loop (w.heap.size + 1) { lr with state := .busy } (envGet st.env) :: .obj w.heap.size (.deferred (some [])) :: (H1 ++ (Hx ++ Hy))⟩ a3 (W3.putObj (w.heap.size + 1) (.loop { lr with state := .busy })) :=
          ⟨s3.ds, s3.size, I3, hw3.putObj hni3, he3.trans he4, hh4, hv3.keep he4.keeps⟩
        refine wpIn_mono (round _ _ _ pre x H1 (Hx ++ Hy) I2 W hpx hJ1 a3 _ s4) fun e a5 W5 hp5 => ?_
        obtain ⟨I5, H5, hw5, he5, hh5, hcase⟩ := hp5
        obtain ⟨hBl5, hbl5, _, hni5⟩ := hh5.ok _ (.head _)
        have fin : ∀ jp : Option Code, (Instr.endRound (w.heap.size + 1) jp).run P W5 = .ok (.bool jp.isNone) (W5.putObj (w.heap.size + 1) (.loop { lr with state := if jp.isNone then .ready else .done, pending := jp })) ∧
            ∀ (b : Bool) (Hn : List Ent), b = jp.isNone → Hn = .loop (w.heap.size + 1) { lr with state := if jp.isNone then .ready else .done, pending := jp } (envGet st.env) :: .obj w.heap.size (.deferred (some [])) :: (H5 ++ Hx) → (b = true → J' (pre ++ [x]) Hn) → (b = false → Jx' (pre ++ [x]) Hn) →
              RetP c.B I2 W (fun y H' => ∃ b H1, y = .b b ∧ H' = H1 ++ Hy ∧ (b = true → J' (pre ++ [x]) H1) ∧ (b = false → Jx' (pre ++ [x]) H1)) (fun _ => False) (.returned (.bool jp.isNone)) (W5.putObj (w.heap.size + 1) (.loop { lr with state := if jp.isNone then .ready else .done, pending := jp })) := by
          intro jp
          refine ⟨by have h9 := run_endRound (P := P) jp hbl5; exact h9, fun b Hn hb hHn h1 h2 => ?_⟩
          have hh6 := hh5.putLoop (lp' := { lr with state := if jp.isNone then .ready else .done, pending := jp }) (.head _ _ _) rfl
          refine ⟨I5, Hn ++ Hy, hw5.putObj hni5, he5.trans (Ext.putObj hBl5 hni5), ?_, .inl ⟨_, .b b, rfl, by rw [hb]; exact .val _, b, Hn, rfl, rfl, h1, h2⟩⟩
          rw [hHn]
          simpa [List.append_assoc] using hh6
        cases e with
        | normal =>
          obtain ⟨e1, e2⟩ := fin none
          exact ⟨_, _, e1, e2 true _ rfl rfl (fun _ => ⟨H5, hcase, by rw [hlr]; rfl⟩) (fun h => by cases h)⟩
        | ret =>
          obtain ⟨e1, e2⟩ := fin (some .ret)
          exact ⟨_, _, e1, e2 false _ rfl rfl (fun h => by cases h) (fun _ => ⟨.ret, H5, hcase, rfl⟩)⟩
        | exit id =>
          obtain ⟨e1, e2⟩ := fin (some (.exit id))
          exact ⟨_, _, e1, e2 false _ rfl rfl (fun h => by cases h) (fun _ => ⟨.exit id, H5, hcase, rfl⟩)⟩
        | goto t => exact hcase.elim
        | panic ch => exact hcase.elim
        | outgrown => exact hcase.elim
      | exit id => exact hp3.elim
      | goto t => exact hp3.elim
      | ret => exact hp3.elim
      | panic ch => exact hp3.elim
      | outgrown => exact hp3.elim
  have hcall := hseq J' Jx' _ _ _ hcb _ [] ⟨H, hJ, rfl⟩ I _ (.func (.func f) #[] vc) [.func (.yield (w.heap.size + 1)) #[] #[]] hw2 (by simpa using hh2) (.fn _ _ _ _ _ .nil (hc.keep k2.keeps)) (.cons _ _ _ _ (.fn _ _ _ _ _ .nil .nil) .nil)
  rcases hcall with ⟨f', vf', vc', e1, hok, hcalls⟩ | ⟨l, e1, _⟩
  · simp only [Value.func.injEq, Fn.func.injEq] at e1
    obtain ⟨rfl, rfl, rfl⟩ := e1
    refine ⟨w.heap.size + 1, [{ target := .collected w.heap.size, args := #[] }], (w.alloc (.deferred (some []))).alloc (.loop lr), { target := .fn (.func f) vc, args := #[.func (.yield (w.heap.size + 1)) #[] #[]] }, (w.alloc (.deferred (some []))).alloc (.loop lr), f,
      #[.func (.yield (w.heap.size + 1)) #[] #[]] ++ vc, (w.alloc (.deferred (some []))).alloc (.loop lr), ?_, ?_, fun _ _ => trivial, ?_, by simp [FW], ?_⟩
    · rw [hlr]; exact run_enterLoop_outer fn a.tmps #[p] assign body
    · have hev : a.eval (.tmp t) = .func (.func f) #[] vc := hu
      simp only [resolve, rangeCall, hev]
      simp [Deferred.ofValue, Act.eval]
    · simp [invoke, run_callFunc hok]
    · have e0 : (#[] ++ [Value.func (Fn.yield (w.heap.size + 1)) #[] #[]].toArray ++ vc) = #[Value.func (Fn.yield (w.heap.size + 1)) #[] #[]] ++ vc := by simp
      rw [e0] at hcalls
      refine callsIn_FW (hcalls.mono fun e W hR => ?_)
      obtain ⟨I6, H6, hw6, he6, hh6, hor⟩ := hR
      rcases hor with hor | hor
      · obtain ⟨v, y, rfl, _, hor⟩ := hor
        obtain ⟨Hn, hHn, hJn⟩ := hor
        rw [List.append_nil] at hHn
        subst hHn
        rcases hJn with ⟨H1, hJL, rfl⟩ | ⟨pre, hpre, code, H1, hJX, rfl⟩
        · obtain ⟨hB6, hb6, _, hni6⟩ := hh6.ok _ (.head _)
          have hpn6 : lr.pending = none := by rw [hlr]
          have hrun6 := run_endLoop (P := P) hb6 (by rw [hlr]; simp)
          rw [hpn6] at hrun6
          refine ⟨none, _, hrun6, ?_⟩
          have hh7 := (hh6.putLoop (lp' := { lr with state := .exhausted }) (.head _ _ _) rfl).tail
          have he7 : Ext c.B I6 W I6 (W.putObj (w.heap.size + 1) (.loop { lr with state := .exhausted })) := Ext.putObj hB6 hni6
          rw [hpn6] at he7 hh7
          refine done w.heap.size H1 hJL _ _ ⟨?_, s.size, I6, hw6.putObj hni6, (he.trans (k2.trans he6)).trans he7, hh7, (hv.keep (k2.trans he6).keeps).keep he7.keeps⟩
          show _ :: a.defers = _
          rw [s.ds]
        · obtain ⟨hB6, hb6, _, hni6⟩ := hh6.ok _ (.head _)
          refine ⟨some code, _, run_endLoop (P := P) hb6 (by simp), ?_⟩
          have hh7 := (hh6.putLoop (lp' := { lr with state := .exhausted, pending := some code }) (.head _ _ _) rfl).tail
          have he7 : Ext c.B I6 W I6 (W.putObj (w.heap.size + 1) (.loop { lr with state := .exhausted, pending := some code })) := Ext.putObj hB6 hni6
          refine jump w.heap.size code pre H1 hpre hJX _ _ ⟨?_, s.size, I6, hw6.putObj hni6, (he.trans (k2.trans he6)).trans he7, hh7, (hv.keep (k2.trans he6).keeps).keep he7.keeps⟩
          show _ :: a.defers = _
          rw [s.ds]
      · obtain ⟨_, _, _, _, hF⟩ := hor
        exact hF.elim
  · simp at e1
end
end Go.Eng

/- The engine, part 11: functions that hold a range over a function; rows that are written. No condition: general lemmas over any program. -/
set_option linter.unusedVariables false
set_option linter.unusedSimpArgs false
namespace Go.Eng
open Go.RowKit (Below)

section
variable {c : Ctx} {r : Option Nat} {P : Program} {ops : Array Oper} {l rest : List Oper} {o : Oper} {st : St} {Q : Exit → Act → World → Prop} {x : AV}

abbrev mark (D : Nat) : Deferred := { target := .collected D, args := #[] }

/-- a function's contract, out of its code, where it holds a range over a function -/
theorem ACall.mkM {f : FuncId} {fn : Func} {code : Code} {xs : List AV} {H : List Ent} {Φ : AV → List Ent → Prop} {E : AV → Prop} {n : Nat} (hf : P.funcs[f]? = some fn) (hb : fn.body = some code) (hnm : (fn.name == "runtime.NumGoroutine") = false)
    (hn : fn.ntmps = n) (hl : Nat.ble xs.length n = true) (h : ∀ B I w, CW ⟨B, I, w, n, []⟩ none P code ⟨envOf 0 xs, H⟩ (bodyPostM (FW none) 0 P fn (RetP B I w Φ E))) : ACall P f xs H Φ E := by
  refine ⟨by simp [fnOk, hf, hb, hnm], fun B I w vs hw hh hv => calls_of_FW (n := 0) (callsIn_of_wp_marks hf hb trivial ?_ rfl)⟩
  refine h B I w _ w ⟨rfl, ?_, I, hw, Ext.refl _ _ _, hh, fun t y hy => ?_⟩
  · have := hv.length
    have := Nat.le_of_ble_eq_true hl
    simp; omega
  · obtain ⟨v, h1, h2⟩ := hv.get (by have := (envOf_get xs 0 t y hy).2; simpa using this)
    have : (vs.toArray ++ Array.replicate (fn.ntmps - vs.toArray.size) undef).getD t undef = v := by
      have hlt := (List.getElem?_eq_some_iff.1 h1).1
      simp only [Array.getD_eq_getD_getElem?]
      rw [Array.getElem?_append_left (by simpa using hlt)]
      simp [h1]
    rw [this]; exact h2

theorem AVleL.tupOf {ys zs : List AV} (h : AVleL ys zs) : AVle (tupOf ys) (tupOf zs) := by
  cases h with
  | nil => exact AVle.refl _
  | cons hx ht =>
    cases ht with
    | nil => exact hx
    | cons hy ht => exact AVle.tup (.cons hx (.cons hy ht))

theorem Done.retM0 {fn : Func} {B : Nat} {I0 : Imm} {w0 : World} {n : Nat} {Φ : AV → List Ent → Prop} {E : AV → Prop} {rs : List ResultVar} {ys zs : List AV} {H' : List Ent} (hr : fn.results = rs.toArray) (h : ResOk P st rs ys) (hle : AVleL ys zs)
    (hH : H'.Sublist st.H) (hΦ : Φ (tupOf zs) H') : Done ⟨B, I0, w0, n, []⟩ st .ret (bodyPostM (FW none) 0 P fn (RetP B I0 w0 Φ E)) := by
  intro a w s
  obtain ⟨I, hw, he, hh, hv⟩ := s.mem
  obtain ⟨v, h1, h2⟩ := h.res (c := ⟨B, I0, w0, n, []⟩) hh hv hr
  show LeavesInM _ _ _ _ _ _ a.defers _ _
  rw [show a.defers = [] from s.ds]
  exact ⟨v, h1, I, H', hw, he, hh.sub hH, .inl ⟨v, _, rfl, hle.tupOf _ _ _ h2, hΦ⟩⟩

theorem Done.retM1 {fn : Func} {B D : Nat} {I0 : Imm} {w0 : World} {n : Nat} {Φ : AV → List Ent → Prop} {E : AV → Prop} {rs : List ResultVar} {ys zs : List AV} {H' H'' : List Ent} (hr : fn.results = rs.toArray) (hD : Del st.H (.obj D (.deferred (some []))) H'') (h : ResOk P ⟨st.env, H''⟩ rs ys) (hle : AVleL ys zs)
    (hH : H'.Sublist H'') (hΦ : Φ (tupOf zs) H') : Done ⟨B, I0, w0, n, [mark D]⟩ st .ret (bodyPostM (FW none) 0 P fn (RetP B I0 w0 Φ E)) := by
  intro a w s
  obtain ⟨I, hw, he, hh, hv⟩ := s.mem
  obtain ⟨hB, hb, hni⟩ := hh.ok _ hD.mem
  show LeavesInM _ _ _ _ _ _ a.defers _ _
  rw [show a.defers = [mark D] from s.ds]
  have hk : Keeps I w I (w.putObj D (.deferred none)) := putObj_keeps (B := B) hni
  have hh' : HeapOk B I (w.putObj D (.deferred none)) H'' := by
    refine (hh.sub hD.sub).keep hk (fun f hf b hfb => World.putObj_heap_other (fun e => ?_)) (fun _ _ _ _ _ x => x)
    subst e
    exact hD.apart hh.apart f hf _ rfl hfb
  obtain ⟨v, h1, h2⟩ := h.res (c := ⟨B, I0, w0, n, []⟩) (st := ⟨st.env, H''⟩) hh' (hv.keep hk) hr
  exact ⟨by simp, .inl ⟨D, _, rfl, run_takeDeferred hb, v, h1, I, H', hw.putObj hni, he.trans (Ext.putObj hB hni), hh'.sub hH, .inl ⟨v, _, rfl, hle.tupOf _ _ _ h2, hΦ⟩⟩⟩

/-- a call of a function whose contract is told at this bound -/
theorem OL.bcall {f : FuncId} {xs : List AV} {Φ : AV → List Ent → Prop} {E : AV → Prop} (hg : o.guard = none) (hd : dstOk c.n o.dst = true) (hc : CallOk P (envGet st.env) o f xs) (h : BCall c.B P f xs st.H Φ E)
    (next : ∀ y H', Φ y H' → OL c r P ops rest ⟨putEnv o.dst y st.env, H'⟩ Q)
    (pan : ∀ y H', E y → ∀ a w, Sat c ⟨st.env, H'⟩ a w → ∀ I v, Rel I w y v → Q (.panic [{ v, recovered := false }]) a w) : OL c r P ops (o :: rest) st Q := by
  intro a w s
  refine wpListIn_plain hg fun K hK => ?_
  obtain ⟨I, hw, he, hh, hv⟩ := s.mem
  obtain ⟨vs, h1, h2⟩ := hc.run I w a (hv.ops o)
  obtain ⟨hok, hcall⟩ := h
  refine Runs.of_enter (R := fun v w' => ∃ I' H' x, WOk c.B I' w' ∧ Ext c.B I w I' w' ∧ HeapOk c.B I' w' H' ∧ Rel I' w' x v ∧ Φ x H')
    (E := fun ch w' => ∃ I' H' v x, WOk c.B I' w' ∧ Ext c.B I w I' w' ∧ HeapOk c.B I' w' H' ∧ ch = [{ v, recovered := false }] ∧ Rel I' w' x v ∧ E x) hc.nodefer (h2 hok) ((hcall I w vs hw hh h1).mono fun e w' hr => ?_) K Q ?_ ?_
  · obtain ⟨I', H', hw', he', hh', hr⟩ := hr
    rcases hr with ⟨v, x, rfl, hx, hΦ⟩ | ⟨v, x, rfl, hx, hE⟩
    · exact ⟨I', H', x, hw', he', hh', hx, hΦ⟩
    · exact ⟨I', H', v, x, hw', he', hh', rfl, hx, hE⟩
  · rintro v w' ⟨I', H', x, hw', he', hh', hx, hΦ⟩
    refine hK _ _ (next x H' hΦ _ _ ⟨by rw [put_defers]; exact s.ds, by rw [tmps_put_size]; exact s.size, I', hw', he.trans he', hh', ?_⟩)
    exact (hv.keep he'.keeps).put (by rw [s.size]; exact hd) hx
  · rintro ch w' ⟨I', H', v, x, hw', he', hh', rfl, hx, hE⟩
    exact pan x H' hE a w' ⟨s.ds, s.size, I', hw', he.trans he', hh', hv.keep he'.keeps⟩ I' v hx

theorem Rel.slLen {I : Imm} {w : World} {k : Nat} {els : List (List AV)} {v : Value} (h : Rel I w (.sl k els) v) : els.length ≤ maxLen := by
  cases h with
  | sl0 => simp
  | sl _ _ b off len cap hl hc hm he => omega

/-- what a reading behind a pointer, in a struct, says of its list's length -/
theorem CW.boundP {α : Type} {F : List α → List (List AV)} {enc : α → List AV} [hF : MapLike F enc] {xs : List α} {p : Code} {t k i : Nat} {cs : List AV} (ht : envGet st.env t = some (.ptr cs)) (hi : cs[i]? = some (.sl k (F xs))) (h : xs.length ≤ 9223372036854775807 → CW c r P p st Q) : CW c r P p st Q := by
  intro a w s
  refine h ?_ a w s
  obtain ⟨I, hw, he, hh, hv⟩ := s.mem
  have h0 := hv t _ ht
  generalize a.tmps.getD t undef = u at h0
  cases h0 with
  | ptr _ b o hc =>
    obtain ⟨v, _, _, h2⟩ := hc.get hi
    have := h2.slLen
    rw [hF.h, List.length_map] at this
    simpa [maxLen] using this
theorem CW.boundA {α : Type} {F : List α → List (List AV)} {enc : α → List AV} [hF : MapLike F enc] {xs : List α} {p : Code} {t k i : Nat} {cs : List AV} (ht : envGet st.env t = some (.agg cs)) (hi : cs[i]? = some (.sl k (F xs))) (h : xs.length ≤ 9223372036854775807 → CW c r P p st Q) : CW c r P p st Q := by
  intro a w s
  refine h ?_ a w s
  obtain ⟨I, hw, he, hh, hv⟩ := s.mem
  have h0 := hv t _ ht
  generalize a.tmps.getD t undef = u at h0
  cases h0 with
  | agg _ vs hc =>
    obtain ⟨v, _, h2⟩ := hc.get hi
    have := h2.slLen
    rw [hF.h, List.length_map] at this
    simpa [maxLen] using this

theorem PredOk.of {α : Type} {fid : FuncId} {fs cs : List AV} {enc : α → AV} {p : α → Bool} (h : ∀ x, PCall P fid (fs ++ [enc x] ++ cs) (.b (p x))) : PredOk P (.fn (.func fid) fs cs) enc p := fun B x H => VCall.fn (h x H)

theorem PredOk.cb {α : Type} {B : Nat} {g : AV} {enc : α → AV} {p : α → Bool} (h : PredOk P g enc p) (L : List α) : CbOk B P g enc L (fun _ => True) (fun pre H => H = [] ∧ ∀ x ∈ pre, p x = true) (fun pre H => H = [] ∧ ∃ q x, pre = q ++ [x] ∧ p x = false) := by
  rintro pre x H Hx _ _ ⟨rfl, hp⟩
  refine VCall.mono (h B x Hx) ?_ (fun _ h => h)
  rintro _ _ ⟨rfl, rfl⟩
  refine ⟨p x, [], rfl, rfl, fun hb => ⟨rfl, fun y hy => ?_⟩, fun hb => ⟨rfl, pre, x, rfl, hb⟩⟩
  rcases List.mem_append.1 hy with hy | hy
  · exact hp y hy
  · simp at hy; subst hy; exact hb

theorem AVle.ite1 {c : Prop} [Decidable c] {x : AV} (hb : bOk x = true) (hx : ∀ cs, x ≠ .agg cs) : AVle x (if c then x else .one) := by
  split
  · exact .refl _
  · exact .one hb hx
theorem AVle.ite {c : Prop} [Decidable c] (x : AV) : AVle x (if c then x else .any) := by
  split
  · exact AVle.refl _
  · exact AVle.any _

/-- what a search with a predicate that may turn memory hands back -/
def FoundAt {α : Type} (J Jx : List α → List Ent → Prop) (l : List α) (Hx : List Ent) (y : AV) (H' : List Ent) : Prop :=
  ∃ H1, H' = H1 ++ Hx ∧ ((y = .i (-1) ∧ J l H1) ∨ ∃ pre x rest, l = pre ++ x :: rest ∧ y = .i pre.length ∧ Jx (pre ++ [x]) H1)

/-- a pure function that needs some private memory -/
def PCallIn (P : Program) (Hm : List Ent) (f : FuncId) (xs : List AV) (y : AV) : Prop := ∀ H, (∀ e ∈ Hm, e ∈ H) → ACall P f xs H (fun x H' => x = y ∧ H' = H) (fun _ => False)
/-- .. of which a fact on the result is told -/
def QCallIn (P : Program) (Hm : List Ent) (f : FuncId) (xs : List AV) (Φ : AV → Prop) : Prop := ∀ H, (∀ e ∈ Hm, e ∈ H) → ACall P f xs H (fun x H' => Φ x ∧ H' = H) (fun _ => False)
theorem PCallIn.pure {P : Program} {f : FuncId} {xs : List AV} {y : AV} (h : PCallIn P [] f xs y) : PCall P f xs y := fun H => h H (by simp)
theorem QCallIn.pure {P : Program} {f : FuncId} {xs : List AV} {Φ : AV → Prop} (h : QCallIn P [] f xs Φ) : QCall P f xs Φ := fun H => h H (by simp)

theorem PredOn.of {α : Type} {Hm : List Ent} {fid : FuncId} {fs cs : List AV} {enc : α → AV} {l : List α} {p : α → Bool} (h : ∀ x ∈ l, PCallIn P Hm fid (fs ++ [enc x] ++ cs) (.b (p x))) : PredOn P Hm (.fn (.func fid) fs cs) enc l p := fun x hx B H hH => VCall.fn (h x hx H hH)

theorem find_pure {α : Type} {fid : FuncId} {xs : List AV} {g : AV} {enc : α → AV} {Hm : List Ent} {p : α → Bool} {l : List α} (hok : fnOk P fid = true) (hb : ∀ (B : Nat) (F : List Ent → Prop) (J Jx : List α → List Ent → Prop), FindOk B P g enc l F J Jx → ∀ H Hx, F Hx → J [] H → BCall B P fid xs (H ++ Hx) (FoundAt J Jx l Hx) (fun _ => False))
    (hp : PredOn P Hm g enc l p) : QCallIn P Hm fid xs (fun y => ∃ n : Int, y = .i n ∧ decide (n ≥ 0) = l.any p) := by
  intro Hx hHx
  refine ⟨hok, fun B I w vs hw hh hvs => ((hb B _ _ _ hp.find [] Hx hHx ⟨rfl, by simp⟩).2 I w vs hw hh hvs).mono fun e w' hr => hr.mono (fun y H hy => ?_) fun _ h => h⟩
  obtain ⟨H1, rfl, hy⟩ := hy
  rcases hy with ⟨rfl, rfl, hall⟩ | ⟨pre, x, rest, rfl, rfl, rfl, q, z, hq, hqq, hz⟩
  · refine ⟨⟨-1, rfl, ?_⟩, rfl⟩
    rw [show decide ((-1 : Int) ≥ 0) = false from rfl]
    symm
    rw [List.any_eq_false]
    intro x hx; simp [hall x hx]
  · refine ⟨⟨pre.length, rfl, ?_⟩, rfl⟩
    have h2 := List.append_inj' hq rfl
    obtain ⟨rfl, h3⟩ := h2
    simp at h3; subst h3
    rw [show decide (((pre.length : Nat) : Int) ≥ 0) = true from by simp]
    symm
    rw [List.any_eq_true]
    exact ⟨x, by simp, hz⟩

/-! ### rows that are written -/
/-- s[:0:0] -/
theorem run_slice0 {t : TypeId} {k : Nat} (ht : slSize P t = some k) (a : Option Addr) (n cap : Nat) (w : World) :
    ∃ a', (Instr.slice t (.slice a n cap) none (some (.int .i64 0)) (some (.int .i64 0))).run P w = .ok (.slice a' 0 0) w := by
  obtain ⟨e, i, hu, hi, hs⟩ := slSize_spec ht
  cases a with
  | none => exact ⟨none, by simp [Instr.slice, Instr.sliceBounds, Instr.sliceBound, asIntOf, run_underlying hu, sizeOf, typeInfo, hi]⟩
  | some a => exact ⟨some a, by simp [Instr.slice, Instr.sliceBounds, Instr.sliceBound, asIntOf, run_underlying hu, sizeOf, typeInfo, hi]⟩

theorem POp.slice0 {H : List Ent} {ρ : Nat → Option AV} {t : TypeId} {x y z : Operand} {k : Nat} {els : List (List AV)} {u : AV} {g g1 g2 : Bool} [ht : HasSl P t k] (h : o.op = .slice t x none (some y) (some z)) (hx : aev ρ x = some (g, u)) (hg : g = true) (hu : AVle u (.sl k els))
    (hy : aev ρ y = some (g1, .i 0)) (hg1 : g1 = true) (hz : aev ρ z = some (g2, .i 0)) (hg2 : g2 = true) : POp P H ρ o .e0 := by
  refine .same (by simp [h]) fun I w a ho => ?_
  have h0 := hu _ _ _ (ho.get (by simp [h, Op.operands]) hx hg)
  have h1 := rel_val (ho.get (by simp [h, Op.operands]) hy hg1)
  have h2 := rel_val (ho.get (by simp [h, Op.operands]) hz hg2)
  obtain ⟨ad, n, cap, hv⟩ : ∃ ad n cap, a.eval x = .slice ad n cap := by
    generalize a.eval x = v at h0
    cases h0 with
    | sl0 => exact ⟨_, _, _, rfl⟩
    | sl => exact ⟨_, _, _, rfl⟩
  obtain ⟨a', hr⟩ := run_slice0 ht.h ad n cap w
  have hr' : (Instr.sliceAt t (.slice ad n cap) none (some (.int .i64 0)) (some (.int .i64 0))).run P w = .ok (.slice a' 0 0) w := by
    obtain ⟨e, i, hu, _, _⟩ := slSize_spec ht.h
    simp [Instr.sliceAt, run_underlying hu, hr]
  exact ⟨_, by simp [execOp, h, hv, h1, h2, hr'], .e0 a'⟩

/-- s == nil: it may be so where there is nothing in it -/
theorem OL.isNil {t t' : TypeId} {x y : Operand} {k : Nat} {els : List (List AV)} {g gy : Bool} {u : AV} (hgd : o.guard = none) (hd : dstOk c.n o.dst = true) (h : o.op = .binOp .eql t x y t') (ht : isSl P t = true) (hx : aev (envGet st.env) x = some (g, u)) (hg : g = true) (hu : AVle u (.sl k els))
    (hy : aev (envGet st.env) y = some (gy, .val (.slice none 0 0))) (hgy : gy = true) (next : ∀ b : Bool, (b = true → els = []) → OL c r P ops rest ⟨putEnv o.dst (.b b) st.env, st.H⟩ Q) : OL c r P ops (o :: rest) st Q := by
  intro a w s
  refine wpListIn_plain hgd fun K hK => ?_
  obtain ⟨I, hw, he, hh, hv⟩ := s.mem
  have h0 := hu _ _ _ ((hv.ops o).get (by simp [h, Op.operands]) hx hg)
  have h1 := rel_val ((hv.ops o).get (by simp [h, Op.operands]) hy hgy)
  obtain ⟨ad, n, cap, hv', hnil⟩ : ∃ ad n cap, a.eval x = .slice ad n cap ∧ (ad = none → els = []) := by
    generalize a.eval x = v at h0
    cases h0 with
    | sl0 => exact ⟨_, _, _, rfl, fun _ => rfl⟩
    | sl => exact ⟨_, _, _, rfl, fun e => by cases e⟩
  refine Runs.of_value (R := fun v w' => v = .bool ad.isNone ∧ w' = w) (E := fun _ _ => False) (by simp [h]) (v := .bool ad.isNone) (w' := w) ?_ ⟨rfl, rfl⟩ K Q ?_ (fun _ _ h => h.elim)
  · have hsl := isSl_elem ht
    have := run_equal_slice_nil (P := P) w t _ ad n cap hsl
    simp [execOp, h, hv', h1, eqGuard, binOp, this]
  rintro v w' ⟨rfl, rfl⟩
  refine hK _ _ (next ad.isNone (fun e => hnil (by simpa using e)) _ _ ⟨by rw [put_defers]; exact s.ds, by rw [tmps_put_size]; exact s.size, I, hw, he, hh, ?_⟩)
  exact hv.put (by rw [s.size]; exact hd) (.val _)
end
end Go.Eng

/- The engine, part 12: the rules as the printed proofs use them: small terms. No condition: general lemmas over any program. -/
set_option linter.unusedVariables false
namespace Go.Eng

section
variable {c : Ctx} {r : Option Nat} {P : Program} {ops : Array Oper} {l rest : List Oper} {o : Oper} {env : List (Nat × AV)} {H : List Ent} {Q : Exit → Act → World → Prop} {x : AV} {d n : Nat}

theorem dstOk_of (hd : o.dst = some d) (hn : Nat.blt d n = true) : dstOk n o.dst = true := by rw [hd]; exact hn

theorem OL.popC (hg : o.guard = none) (hd : o.dst = some d) (hn : Nat.blt d c.n = true) (h : POp P H (envGet env) o x) (next : OL c r P ops rest ⟨(d, x) :: env, H⟩ Q) : OL c r P ops (o :: rest) ⟨env, H⟩ Q :=
  OL.pop hg (dstOk_of hd hn) h (by rw [hd]; exact next)
/-- .. whose result nobody looks at -/
theorem OL.pop0 (hg : o.guard = none) (hd : o.dst = none) (h : POp P H (envGet env) o x) (next : OL c r P ops rest ⟨env, H⟩ Q) : OL c r P ops (o :: rest) ⟨env, H⟩ Q :=
  OL.pop hg (by rw [hd]; rfl) h (by rw [hd]; exact next)
theorem OL.guardC {j k : Nat} {want G : Bool} (hg : o.guard = some (j, want)) (hj : (ops[j]?).bind (·.dst) = some k) (hdj : Nat.blt k c.n = true) (hG : mkG (envGet env k) want = some G)
    (hd : o.dst = some d) (hn : Nat.blt d c.n = true) (h : G = true → POp P H (envGet env) o x) (next : OL c r P ops rest ⟨(d, .opt G x) :: env, H⟩ Q) : OL c r P ops (o :: rest) ⟨env, H⟩ Q :=
  OL.guarded hg hj hdj hG (dstOk_of hd hn) h (by rw [hd]; exact next)
theorem OL.alC {t : TypeId} {zs : List Value} [hz : HasZero P t zs] (hgd : o.guard = none) (hd : o.dst = some d) (hn : Nat.blt d c.n = true) (h : o.op = .alloc t)
    (next : ∀ b, OL c r P ops rest ⟨(d, .p b 0) :: env, .blk b t (zs.map .val) :: H⟩ Q) : OL c r P ops (o :: rest) ⟨env, H⟩ Q := OL.al hgd (dstOk_of hd hn) h (by rw [hd]; exact next)
theorem OL.boxC {t : TypeId} {z : Operand} {y : AV} {g : Bool} (hgd : o.guard = none) (hd : o.dst = some d) (hn : Nat.blt d c.n = true) (h : o.op = .box t z) (hz : aev (envGet env) z = some (g, y)) (hg : g = true) (hb : bOk y = true)
    (next : ∀ b, OL c r P ops rest ⟨(d, .p b 0) :: env, .blk b t (bcells y) :: H⟩ Q) : OL c r P ops (o :: rest) ⟨env, H⟩ Q := OL.box hgd (dstOk_of hd hn) h hz hg hb (by rw [hd]; exact next)
theorem OL.stoC {t tb : TypeId} {p z : Operand} {y : AV} {gp g : Bool} {b off n : Nat} {cs ds : List AV} {H' : List Ent} {agg : Bool} [ht : HasTy P t (agg, n)] (hgd : o.guard = none) (hd : o.dst = none) (h : o.op = .store t p z)
    (hp : aev (envGet env) p = some (gp, .p b off)) (hgp : gp = true) (hz : aev (envGet env) z = some (g, y)) (hg : g = true) (hb : bOk y = true) (h1 : allOne (bcells y) = true)
    (hn : Nat.beq (bcells y).length n = true) (hu : Upd H (.blk b tb cs) (.blk b tb ds) H') (hfit : Nat.ble (off + n) cs.length = true) (hds : cs.take off ++ bcells y ++ cs.drop (off + n) = ds)
    (next : OL c r P ops rest ⟨env, H'⟩ Q) : OL c r P ops (o :: rest) ⟨env, H⟩ Q := OL.sto hgd (by rw [hd]; rfl) h hp hgp hz hg hb h1 hn hu hfit hds (by rw [hd]; exact next)
theorem OL.qcallC {f : FuncId} {xs : List AV} {Φ : AV → Prop} (hg : o.guard = none) (hd : o.dst = some d) (hn : Nat.blt d c.n = true) (hc : CallOk P (envGet env) o f xs) (h : QCall P f xs Φ)
    (next : ∀ y, Φ y → OL c r P ops rest ⟨(d, y) :: env, H⟩ Q) : OL c r P ops (o :: rest) ⟨env, H⟩ Q := OL.qcall hg (dstOk_of hd hn) hc h (by rw [hd]; exact next)
theorem OL.bcallC {f : FuncId} {xs : List AV} {Φ : AV → List Ent → Prop} (hg : o.guard = none) (hd : o.dst = some d) (hn : Nat.blt d c.n = true) (hc : CallOk P (envGet env) o f xs) (h : BCall c.B P f xs H Φ (fun _ => False))
    (next : ∀ y H', Φ y H' → OL c r P ops rest ⟨(d, y) :: env, H'⟩ Q) : OL c r P ops (o :: rest) ⟨env, H⟩ Q := OL.bcall hg (dstOk_of hd hn) hc h (by rw [hd]; exact next) (fun _ _ h => h.elim)
/-- a call of a function without a result -/
theorem OL.bcall0 {f : FuncId} {xs : List AV} {Φ : AV → List Ent → Prop} (hg : o.guard = none) (hd : o.dst = none) (hc : CallOk P (envGet env) o f xs) (h : BCall c.B P f xs H Φ (fun _ => False))
    (next : ∀ y H', Φ y H' → OL c r P ops rest ⟨env, H'⟩ Q) : OL c r P ops (o :: rest) ⟨env, H⟩ Q := OL.bcall hg (by rw [hd]; rfl) hc h (by rw [hd]; exact next) (fun _ _ h => h.elim)
theorem OL.vcallC {x : Operand} {args : Array Operand} {ts : Array TypeId} {gv : AV} {ys : List (Bool × AV)} {xs : List AV} {g : Bool} {Φ : AV → List Ent → Prop} (hgd : o.guard = none) (hd : o.dst = some d) (hn : Nat.blt d c.n = true)
    (h : o.op = .call { callee := .value x, args := args, argTypes := ts }) (hx : aev (envGet env) x = some (g, gv)) (hg : g = true) (ha : aevs (envGet env) args.toList = some ys) (hys : ys.all (·.1) = true) (hle : AVleL (ys.map (·.2)) xs)
    (hv : VCall c.B P gv xs H Φ (fun _ => False)) (next : ∀ y H', Φ y H' → OL c r P ops rest ⟨(d, y) :: env, H'⟩ Q) : OL c r P ops (o :: rest) ⟨env, H⟩ Q := OL.vcall hgd (dstOk_of hd hn) h hx hg ha hys hle hv (by rw [hd]; exact next) (fun _ _ h => h.elim)
theorem OL.appendC {s z : Operand} {t tx e k by_ k' : Nat} {els news : List (List AV)} {v : Value} {y : AV} {g1 g2 : Bool} {H' : Value → List Ent} [hA : HasApp P t (e, k, by_)] [hX : HasSl P tx k'] (hgd : o.guard = none) (hd : o.dst = some d) (hn : Nat.blt d c.n = true)
    (h : o.op = .call { callee := .builtin .append, args := #[s, z], argTypes := #[t, tx] }) (hs : aev (envGet env) s = some (g1, .as (.sl k els) v)) (hg1 : g1 = true) (hz : aev (envGet env) z = some (g2, y)) (hg2 : g2 = true) (hy : AVle y (.sl k news))
    (h1 : news.all allOne = true) (hu : ∀ v', Upd H (.own e k v) (.own e k v') (H' v')) (hb : (els.length + news.length) * by_ ≤ 140737488355328) (hb' : els.length + news.length ≤ 9223372036854775807)
    (next : ∀ v', OL c r P ops rest ⟨(d, .as (.sl k (els ++ news)) v') :: env, H' v'⟩ Q) : OL c r P ops (o :: rest) ⟨env, H⟩ Q := OL.appendOwn hgd (dstOk_of hd hn) h hs hg1 hz hg2 hy h1 hu hb hb' (by rw [hd]; exact next)
theorem OL.isNilC {t t' : TypeId} {x y : Operand} {k : Nat} {els : List (List AV)} {g gy : Bool} {u : AV} (hgd : o.guard = none) (hd : o.dst = some d) (hn : Nat.blt d c.n = true) (h : o.op = .binOp .eql t x y t') (ht : isSl P t = true) (hx : aev (envGet env) x = some (g, u)) (hg : g = true) (hu : AVle u (.sl k els))
    (hy : aev (envGet env) y = some (gy, .val (.slice none 0 0))) (hgy : gy = true) (next : ∀ b : Bool, (b = true → els = []) → OL c r P ops rest ⟨(d, .b b) :: env, H⟩ Q) : OL c r P ops (o :: rest) ⟨env, H⟩ Q := OL.isNil hgd (dstOk_of hd hn) h ht hx hg hu hy hgy (by rw [hd]; exact next)

theorem AD.popC {L : List Oper} {K : List (Nat × AV) → Prop} (hg : o.guard = none) (hd : o.dst = some d) (hn : Nat.blt d n = true) (h : POp P H (envGet env) o x) (next : AD P H L n rest ((d, x) :: env) K) : AD P H L n (o :: rest) env K :=
  AD.pop hg (dstOk_of hd hn) h (by rw [hd]; exact next)
theorem AD.guardC {L : List Oper} {K : List (Nat × AV) → Prop} {j k : Nat} {want G : Bool} (hg : o.guard = some (j, want)) (hj : (L[j]?).bind (·.dst) = some k) (hG : mkG (envGet env k) want = some G)
    (hd : o.dst = some d) (hn : Nat.blt d n = true) (h : G = true → POp P H (envGet env) o x) (next : AD P H L n rest ((d, .opt G x) :: env) K) : AD P H L n (o :: rest) env K :=
  AD.guarded hg hj hG (dstOk_of hd hn) h (by rw [hd]; exact next)

/-- a list, in a cell of a block, onto which nothing has been appended yet -/
theorem Sat.ownNilB {c : Ctx} {st : St} {a : Act} {w : World} {b t e k i : Nat} {cs ds : List AV} {H' : List Ent} (s : Sat c st a w) (hu : Upd st.H (.blk b t cs) (.blk b t ds) H') (hi : cs[i]? = some (.val (.slice none 0 0))) (hds : cs.set i (.as (.sl k []) (.slice none 0 0)) = ds) :
    Sat c ⟨st.env, .own e k (.slice none 0 0) :: H'⟩ a w := by
  obtain ⟨I, hw, he, hh, hv⟩ := s.mem
  subst hds
  have hk : Keeps I w I w := ⟨fun _ _ x => x, fun _ _ _ => rfl⟩
  obtain ⟨hB, vs, hb, hr, hni⟩ := hh.ok _ hu.mem
  have hr' : RelL I w (cs.set i (.as (.sl k []) (.slice none 0 0))) vs.toList := by
    have key : ∀ (xs : List AV) (us : List Value) (i : Nat), RelL I w xs us → xs[i]? = some (.val (.slice none 0 0)) → RelL I w (xs.set i (.as (.sl k []) (.slice none 0 0))) us := by
      intro xs
      induction xs with
      | nil => intro us i _ h; simp at h
      | cons x xs ih =>
        intro us i hr h
        cases hr with
        | cons _ v _ us' hx ht =>
          cases i with
          | zero =>
            simp at h; subst h
            cases hx
            exact .cons _ _ _ _ (.as _ _ (.sl0 _ _ _)) ht
          | succ i => exact .cons _ _ _ _ hx (ih us' i ht (by simpa using h))
    exact key _ _ _ hr hi
  have h2 : HeapOk c.B I w H' := hh.upd hu hk (fun _ _ _ => rfl) (fun _ _ x => .inl x) ⟨hB, vs, hb, hr', hni⟩ (fun _ hb => .inl hb)
  refine ⟨s.ds, s.size, I, hw, he, ⟨fun f hf => ?_, List.pairwise_cons.2 ⟨fun f hf b hb => by simp [Ent.foot, Value.ownBlock] at hb, h2.apart⟩⟩, hv⟩
  rcases List.mem_cons.1 hf with rfl | hf
  · exact ⟨0, [], World.ownsRow_nil _ _ _ _, fun g hg => by simp [Value.ownBlock] at hg⟩
  · exact h2.ok f hf
theorem CW.ownNilB {p : Code} {b t : Nat} (e k i : Nat) {cs ds : List AV} {H' : List Ent} (hu : Upd H (.blk b t cs) (.blk b t ds) H') (hi : cs[i]? = some (.val (.slice none 0 0))) (hds : cs.set i (.as (.sl k []) (.slice none 0 0)) = ds) (h : CW c r P p ⟨env, .own e k (.slice none 0 0) :: H'⟩ Q) : CW c r P p ⟨env, H⟩ Q :=
  fun a w s => h a w (s.ownNilB hu hi hds)

theorem Done.ownNil {st : St} {ex : Exit} (d e k : Nat) (hd : envGet st.env d = some (.val (.slice none 0 0))) (h : Done c ⟨(d, .as (.sl k []) (.slice none 0 0)) :: st.env, .own e k (.slice none 0 0) :: st.H⟩ ex Q) : Done c st ex Q :=
  fun a w s => h a w (s.ownNil hd)

/-- an empty slice literal, onto which is appended -/
theorem OL.row0Own {t e k by_ : Nat} [hA : HasApp P t (e, k, by_)] (hgd : o.guard = none) (hd : o.dst = some d) (hn : Nat.blt d c.n = true) (h : o.op = .buildSlice t 0 #[])
    (next : ∀ v, OL c r P ops rest ⟨(d, .as (.sl k []) v) :: env, .own e k v :: H⟩ Q) : OL c r P ops (o :: rest) ⟨env, H⟩ Q := by
  intro a w s
  refine wpListIn_plain hgd fun K hK => ?_
  obtain ⟨I, hw, he, hh, hv⟩ := s.mem
  obtain ⟨i, z, hu, hi, hz, hk, hby, hzs, hk0⟩ := appInfo_spec hA.h
  have hrun : (Instr.buildSlice t 0 #[]).run P w = .ok (.slice (some ⟨w.heap.size, 0, none⟩) 0 0) (w.alloc (.cells #[] e)) := by
    simp [Instr.buildSlice, run_underlying hu, sizeOf, typeInfo, hi, Instr.fill, newRow, show Array.range 0 = #[] from by decide +kernel]
  refine Runs.of_value (R := fun v w' => v = .slice (some ⟨w.heap.size, 0, none⟩) 0 0 ∧ w' = w.alloc (.cells #[] e)) (E := fun _ _ => False) (by simp [h]) (v := .slice (some ⟨w.heap.size, 0, none⟩) 0 0) (w' := w.alloc (.cells #[] e)) (by simp [execOp, h, hrun]) ⟨rfl, rfl⟩ K Q ?_ (fun _ _ h => h.elim)
  rintro v w' ⟨rfl, rfl⟩
  have h1 := hh.alloc hw (.cells #[] e)
  have hrow : (w.alloc (.cells #[] e)).ownsRow c.B e k (.slice (some ⟨w.heap.size, 0, none⟩) 0 0) 0 [] := ⟨by simp, .inr ⟨w.heap.size, 0, #[], rfl, hw.base, heap_alloc_new w _, Nat.le_refl _, by simp [maxLen], by simp, by simp⟩⟩
  refine hK _ _ (next (.slice (some ⟨w.heap.size, 0, none⟩) 0 0) _ _ ⟨by rw [put_defers]; exact s.ds, by rw [tmps_put_size]; exact s.size, I, hw.alloc _, he.trans (ext_alloc hw _), ⟨fun f hf => ?_, List.pairwise_cons.2 ⟨fun f hf b hb e => ?_, h1.apart⟩⟩, ?_⟩)
  · rcases List.mem_cons.1 hf with rfl | hf
    · refine ⟨0, [], hrow, fun g hg o _ ho => ?_⟩
      simp [Value.ownBlock] at hg; subst hg
      exact absurd (hw.lt ho) (Nat.lt_irrefl _)
    · exact h1.ok f hf
  · simp [Ent.foot, Value.ownBlock] at hb; subst hb
    exact absurd (Ent.foot_lt (hh.ok f hf) e).2 (Nat.lt_irrefl _)
  · rw [hd]
    have := (hv.keep (keeps_alloc hw (.cells #[] e))).put (dst := some d) (x := .as (.sl k []) (.slice (some ⟨w.heap.size, 0, none⟩) 0 0)) (v := .slice (some ⟨w.heap.size, 0, none⟩) 0 0) (by rw [s.size]; exact hn) (.as _ _ (.sl0 _ _ _))
    exact this

/-- a part of a mapped list -/
theorem POp.slM {α : Type} {F : List α → List (List AV)} {enc : α → List AV} {xs : List α} {ρ : Nat → Option AV} {t : TypeId} {x : Operand} {lo hi : Option Operand} {k : Nat} {l n : Nat} {gx gl gh : Bool} {kl kh : IntKind} [ht : HasSl P t k] [hF : MapLike F enc] (h : o.op = .slice t x lo hi none) (hx : aev ρ x = some (gx, .sl k (F xs))) (hgx : gx = true)
    (hlo : match lo with | none => l = 0 | some y => aev ρ y = some (gl, .val (.int kl (l : Int)))) (hgl : gl = true) (hhi : match hi with | none => n = xs.length | some y => aev ρ y = some (gh, .val (.int kh (n : Int)))) (hgh : gh = true)
    (h1 : l ≤ n ∧ n ≤ xs.length) : POp P H ρ o (.sl k (F ((xs.take n).drop l))) := by
  rw [hF.h] at hx
  have := POp.sl' (H := H) (ht := ht) h hx hgx hlo hgl (n := n) (by cases hi <;> simpa using hhi) hgh (by simpa using h1)
  rw [hF.h, List.map_drop, List.map_take]
  exact this

theorem POp.slTo {α : Type} {F : List α → List (List AV)} {enc : α → List AV} {xs : List α} {ρ : Nat → Option AV} {t : TypeId} {x y : Operand} {k : Nat} {n : Nat} {gx gh : Bool} {kh : IntKind} [ht : HasSl P t k] [hF : MapLike F enc] (h : o.op = .slice t x none (some y) none) (hx : aev ρ x = some (gx, .sl k (F xs))) (hgx : gx = true)
    (hhi : aev ρ y = some (gh, .val (.int kh (n : Int)))) (hgh : gh = true) (h1 : n ≤ xs.length) : POp P H ρ o (.sl k (F (xs.take n))) := by
  have := POp.slM (H := H) (kl := .i64) (gl := true) (l := 0) (ht := ht) (hF := hF) h hx hgx rfl rfl hhi hgh ⟨Nat.zero_le _, h1⟩
  simpa using this
theorem POp.slFrom {α : Type} {F : List α → List (List AV)} {enc : α → List AV} {xs : List α} {ρ : Nat → Option AV} {t : TypeId} {x y : Operand} {k : Nat} {n : Nat} {gx gh : Bool} {kh : IntKind} [ht : HasSl P t k] [hF : MapLike F enc] (h : o.op = .slice t x (some y) none none) (hx : aev ρ x = some (gx, .sl k (F xs))) (hgx : gx = true)
    (hhi : aev ρ y = some (gh, .val (.int kh (n : Int)))) (hgh : gh = true) (h1 : n ≤ xs.length) : POp P H ρ o (.sl k (F (xs.drop n))) := by
  have := POp.slM (H := H) (kh := .i64) (gh := true) (n := xs.length) (ht := ht) (hF := hF) h hx hgx hhi hgh rfl rfl ⟨h1, Nat.le_refl _⟩
  simpa using this

theorem CW.drawC {id : Nat} {l : List Oper} (m n : Nat) (hn : c.n = n) (hm : P.follows .mixedOrders = true) (hchk : drawChk l m = true) (hml : Nat.ble m l.length = true)
    (hlk : (l.all fun o => (looks l o).all fun t => Nat.blt t n) = true)
    (h : AD P H l c.n (l.take m) env fun env => OL c r P l.toArray (l.drop m) ⟨env, H⟩ Q) : CW c r P (.region id l.toArray true) ⟨env, H⟩ Q := CW.drawN m n hn hm hchk hml hlk h
end
end Go.Eng

/- The engine, part 13: statements whose order is open, in stretches: some whose operations come in whatever order, some of one operation. No condition: general lemmas over any program. -/
set_option linter.unusedVariables false
set_option linter.unusedSimpArgs false
namespace Go.Eng
open Go.RowKit (Below)

/-- what a stretch asks of the order -/
def segChk (l : List Oper) (k m : Nat) : Bool :=
  let ms := masks l []
  (l.zipIdx.all fun p => (deps p.1).all fun j => Nat.blt j p.2) &&
  (l.zipIdx.all fun p => Nat.blt p.2 m || (List.range m).all fun j => Nat.blt j k || (ms.getD p.2 0).testBit j) &&
  ((l.take m).zipIdx.all fun p => Nat.blt p.2 k || ((l.take m).zipIdx.all fun q => match q.1.dst with
    | some d => (Nat.beq p.2 q.2 || Nat.blt q.2 k || !(match p.1.dst with | some d' => Nat.beq d d' | none => false)) && (!((looks l p.1).any (Nat.beq d)) || Nat.blt q.2 k || (Nat.blt q.2 p.2 && (ms.getD p.2 0).testBit q.2))
    | none => true))

structure SegOk (l : List Oper) (k m : Nat) : Prop where
  back : ∀ i o, l[i]? = some o → ∀ j ∈ deps o, j < i
  tail : ∀ i, m ≤ i → i < l.length → ∀ j, k ≤ j → j < m → ((masks l []).getD i 0).testBit j = true
  apart : ∀ i oi j oj d, k ≤ i → i < m → l[i]? = some oi → k ≤ j → j < m → l[j]? = some oj → oj.dst = some d → i ≠ j → oi.dst ≠ some d
  looked : ∀ i oi j oj d, k ≤ i → i < m → l[i]? = some oi → k ≤ j → j < m → l[j]? = some oj → oj.dst = some d → d ∈ looks l oi → j < i ∧ ((masks l []).getD i 0).testBit j = true

theorem segOk_of {l : List Oper} {k m : Nat} (h : segChk l k m = true) : SegOk l k m := by
  simp only [segChk, Bool.and_eq_true, List.all_eq_true] at h
  obtain ⟨⟨h1, h2⟩, h3⟩ := h
  have key : ∀ i oi j oj d, k ≤ i → i < m → l[i]? = some oi → k ≤ j → j < m → l[j]? = some oj → oj.dst = some d → (i = j ∨ oi.dst ≠ some d) ∧ (d ∈ looks l oi → j < i ∧ ((masks l []).getD i 0).testBit j = true) := by
    intro i oi j oj d hki hi hoi hkj hj hoj hd
    have hti : (l.take m)[i]? = some oi := by rw [List.getElem?_take, if_pos hi]; exact hoi
    have htj : (l.take m)[j]? = some oj := by rw [List.getElem?_take, if_pos hj]; exact hoj
    have h4 := h3 _ (mem_zipIdx_of hti)
    simp only [Bool.or_eq_true, List.all_eq_true] at h4
    have nk : ∀ x, k ≤ x → ¬ Nat.blt x k = true := fun x hx hb => by
      have := Nat.lt_of_succ_le (by simpa [Nat.blt] using hb); omega
    rcases h4 with h4 | h4
    · exact absurd h4 (nk i hki)
    have := h4 _ (mem_zipIdx_of htj)
    simp only [hd, Bool.and_eq_true, Bool.or_eq_true, Bool.not_eq_true'] at this
    obtain ⟨ha, hb⟩ := this
    refine ⟨?_, fun hm => ?_⟩
    · rcases ha with (ha | ha) | ha
      · exact .inl (Nat.eq_of_beq_eq_true ha)
      · exact absurd ha (nk j hkj)
      · refine .inr fun e => ?_
        rw [e] at ha
        simp at ha
    · rcases hb with (hb | hb) | hb
      · exfalso
        rw [List.any_eq_false] at hb
        exact hb d hm (by simp)
      · exact absurd hb (nk j hkj)
      · exact ⟨Nat.lt_of_succ_le (by simpa [Nat.blt] using hb.1), hb.2⟩
  refine ⟨fun i o ho j hj => ?_, fun i hi hl j hkj hj => ?_, fun i oi j oj d hki hi hoi hkj hj hoj hd hne => ?_, fun i oi j oj d hki hi hoi hkj hj hoj hd hm => (key i oi j oj d hki hi hoi hkj hj hoj hd).2 hm⟩
  · have := h1 _ (mem_zipIdx_of ho) j hj
    exact Nat.lt_of_succ_le (by simpa [Nat.blt] using this)
  · have := h2 _ (mem_zipIdx_of (List.getElem?_eq_getElem hl))
    simp only [Bool.or_eq_true] at this
    rcases this with h | h
    · have : i < m := Nat.lt_of_succ_le (by simpa [Nat.blt] using h)
      omega
    · rw [List.all_eq_true] at h
      have := h j (by simpa using hj)
      simp only [Bool.or_eq_true] at this
      rcases this with h | h
      · have : j < k := Nat.lt_of_succ_le (by simpa [Nat.blt] using h)
        omega
      · exact h
  · rcases (key i oi j oj d hki hi hoi hkj hj hoj hd).1 with h | h
    · exact absurd h hne
    · exact h

theorem masks_len : ∀ (l' : List Oper) (acc : List Nat), (masks l' acc).length = acc.length + l'.length := by
  intro l'; induction l' with
  | nil => intro acc; simp [masks]
  | cons o l' ih => intro acc; rw [masks, ih]; simp; omega

theorem wpIn_mono2 {F : Fence} {n : Nat} {P : Program} {o : Oper} {a : Act} {w : World} {K K' : Act → World → Prop} {Q Q' : Exit → Act → World → Prop} (h : ∀ a w, K a w → K' a w) (hp : ∀ ch a w, Q (.panic ch) a w → Q' (.panic ch) a w) (ho : ∀ a w, Q .outgrown a w → Q' .outgrown a w)
    (hh : o.wpIn F n P a w K Q) : o.wpIn F n P a w K' Q' := by
  have hl : LetsOut Q → LetsOut Q' := fun ⟨a, w, h⟩ => ⟨a, w, ho a w h⟩
  unfold Oper.wpIn at *
  refine ⟨hh.1, ?_⟩
  have hh := hh.2
  generalize (o.semAt F.round a.eval).run P w = r at *
  cases r with
  | ok x w' =>
    cases x <;> simp only [Oper.uponIn] at hh ⊢ <;>
      first
        | exact h _ _ hh
        | exact ⟨hh.1, CallsIn.mono hh.2 (fun e w'' he => by cases e <;> first | exact h _ _ he | exact hp _ _ _ he | exact hl he)⟩
        | exact ⟨hh.1, RowsIn.mono hh.2 (fun _ _ he => h _ _ he)⟩
        | exact ⟨hh.1, RoundIn.mono hh.2 (fun e w'' he => by cases e <;> first | exact h _ _ he | exact hp _ _ _ he | exact hl he)⟩
  | halt x w' => cases x <;> simp only [Oper.uponIn] at hh ⊢ <;> first | exact hp _ _ _ hh | exact hh

section
variable {c : Ctx} {r : Option Nat} {P : Program} {l : List Oper} {st : St} {Q : Exit → Act → World → Prop}

/-- the first k operations are over -/
def KD (c : Ctx) (r : Option Nat) (P : Program) (l : List Oper) (Q : Exit → Act → World → Prop) (k : Nat) (a : Act) (w : World) : Prop :=
  ∀ (fuel : Nat) (listed : Array Bool), listed.size = l.length → (∀ i, listed.getD i false = true ↔ i < k) → l.length - k ≤ fuel → wpAnyIn (FW r) 0 P .any l.toArray Q fuel listed a w
def DP (c : Ctx) (r : Option Nat) (P : Program) (l : List Oper) (Q : Exit → Act → World → Prop) (k : Nat) (st : St) : Prop := ∀ a w, Sat c st a w → KD c r P l Q k a w

theorem CW.dp {id : Nat} (hm : P.follows .mixedOrders = true) (h : DP c r P l Q 0 st) : CW c r P (.region id l.toArray true) st Q := by
  intro a w s
  refine wpIn_region_any hm ?_
  show wpAnyIn (FW r) 0 P .any l.toArray Q l.toArray.size (Array.replicate l.toArray.size false) a w.drew
  refine h a w.drew ⟨s.ds, s.size, ?_⟩ _ _ (by simp) (fun i => by simp [Array.getD]) (by simp)
  obtain ⟨I, hw, he, hh, hv⟩ := s.mem
  exact ⟨I, hw.drew, he.drew, hh.drew, hv.keep keeps_drew⟩

theorem Done.dp {k : Nat} (h : DP c r P l Q k st) : Done c st .normal (Exit.then (KD c r P l Q k) Q) := h

theorem DP.done {k : Nat} (hk : k = l.length) (h : Done c st .normal Q) : DP c r P l Q k st := by
  intro a w s fuel listed hsz hli hfu
  have hr : Region.ready .any l.toArray listed = [] := by
    cases hr : Region.ready .any l.toArray listed with
    | nil => rfl
    | cons i rs =>
      exfalso
      have hi : i ∈ Region.ready .any l.toArray listed := by rw [hr]; simp
      obtain ⟨h1, o, h2, _⟩ := mem_ready.1 hi
      have hlt : i < l.length := by
        have := (Array.getElem?_eq_some_iff.1 h2).1
        simpa using this
      rw [getD_true_iff (by omega), (hli i).2 (by omega)] at h1; cases h1
  exact wpAnyIn_done hr (h a w s) fuel

/-- one operation, upon which all that are left wait -/
theorem DP.one {k : Nat} {o : Oper} (hchk : segChk l k (k + 1) = true) (ho : l[k]? = some o) (h : OL c r P l.toArray [o] st (Exit.then (KD c r P l Q (k + 1)) Q)) : DP c r P l Q k st := by
  have ok := segOk_of hchk
  intro a w s fuel listed hsz hli hfu
  have hkl : k < l.length := (List.getElem?_eq_some_iff.1 ho).1
  obtain ⟨fuel, rfl⟩ : ∃ f, fuel = f + 1 := ⟨fuel - 1, by omega⟩
  have hmem : ∀ i ∈ Region.ready .any l.toArray listed, i = k := by
    intro i hi
    obtain ⟨h1, oi, h2, h3⟩ := mem_ready.1 hi
    have hlt : i < l.length := by
      have := (Array.getElem?_eq_some_iff.1 h2).1
      simpa using this
    rw [getD_true_iff (by omega)] at h1
    have hge : k ≤ i := by
      rcases Nat.lt_or_ge i k with h | h
      · rw [(hli i).2 h] at h1; cases h1
      · exact h
    rcases Nat.lt_or_ge k i with hlt' | hge'
    · exfalso
      have hoi : l[i]? = some oi := by simpa using h2
      have hcl2 : Closed l (fun j => listed.getD j false = true) := fun j oj hj hoj j' hj' => (hli j').2 (by have := ok.back j oj hoj j' hj'; have := (hli j).1 hj; omega)
      have hms : (masks l [])[i]? = some ((masks l []).getD i 0) := by
        have : i < (masks l []).length := by rw [masks_len]; simpa using hlt
        simp [List.getD, this]
      have := masks_spec l _ hcl2 l [] (by simp) (by simp) (by simp) i _ oi hms hoi (fun j hj => by
        simp only [deps, List.mem_filterMap] at hj
        obtain ⟨e, he, hb⟩ := hj
        split at hb
        · rename_i hbi; simp at hb; subst hb; exact h3 e (by simpa using he) hbi
        · cases hb) k (ok.tail i (by omega) hlt k (Nat.le_refl _) (Nat.lt_succ_self _))
      exact Nat.lt_irrefl _ ((hli k).1 this)
    · omega
  refine ⟨fun h0 => ?_, fun i hi => ?_⟩
  · exfalso
    have : k ∈ Region.ready .any l.toArray listed := by
      rw [mem_ready]
      refine ⟨?_, o, by simpa using ho, fun e he hb => ?_⟩
      · rw [getD_true_iff (by omega)]
        cases hx : listed.getD k false with
        | false => rfl
        | true => exact absurd ((hli k).1 hx) (Nat.lt_irrefl _)
      · exact (hli _).2 (ok.back k _ ho e.on (by simp only [deps, List.mem_filterMap]; exact ⟨e, by simpa using he, by simp [hb]⟩))
    rw [h0] at this; cases this
  · have hik := hmem i hi
    subst hik
    unfold wpOpIn
    have hio : l.toArray[i]? = some o := by simpa using ho
    simp only [hio]
    have hwp := h a w s
    have next : ∀ a w, KD c r P l Q (i + 1) a w → wpAnyIn (FW r) 0 P .any l.toArray Q fuel (listed.setIfInBounds i true) a w := by
      intro a w hk
      refine hk fuel _ (by simp [hsz]) (fun j => ?_) (by omega)
      rw [getD_set _ _ _ (by omega)]
      by_cases e : i = j
      · subst e; simp
      · rw [if_neg e, hli]; omega
    unfold wpListIn at hwp
    split at hwp
    · rename_i hwant; rw [if_pos hwant]
      exact wpIn_mono2 next (fun _ _ _ h => h) (fun _ _ h => h) hwp
    · rename_i hwant; rw [if_neg hwant]; exact ⟨hwp.1, next _ _ hwp.2⟩

def tailChk (l : List Oper) (k : Nat) : Bool :=
  let ms := masks l []
  (l.zipIdx.all fun p => (deps p.1).all fun j => Nat.blt j p.2) &&
  (l.zipIdx.all fun p => Nat.blt p.2 k || (List.range p.2).all fun j => Nat.blt j k || (ms.getD p.2 0).testBit j)

/-- the operations that are left, one by one -/
theorem DP.tail {k : Nat} (hchk : tailChk l k = true) (hkl : k ≤ l.length) (h : OL c r P l.toArray (l.drop k) st Q) : DP c r P l Q k st := by
  simp only [tailChk, Bool.and_eq_true, List.all_eq_true] at hchk
  obtain ⟨h1, h2⟩ := hchk
  have back : ∀ i o, l[i]? = some o → ∀ j ∈ deps o, j < i := fun i o ho j hj => by
    have := h1 _ (mem_zipIdx_of ho) j hj
    exact Nat.lt_of_succ_le (by simpa [Nat.blt] using this)
  have tail : ∀ i, k ≤ i → i < l.length → ∀ j, k ≤ j → j < i → ((masks l []).getD i 0).testBit j = true := fun i hi hl j hkj hj => by
    have := h2 _ (mem_zipIdx_of (List.getElem?_eq_getElem hl))
    simp only [Bool.or_eq_true] at this
    rcases this with h | h
    · have : i < k := Nat.lt_of_succ_le (by simpa [Nat.blt] using h)
      omega
    · rw [List.all_eq_true] at h
      have := h j (by simpa using hj)
      simp only [Bool.or_eq_true] at this
      rcases this with h | h
      · have : j < k := Nat.lt_of_succ_le (by simpa [Nat.blt] using h)
        omega
      · exact h
  intro a w s fuel listed hsz hli hfu
  have key : ∀ (p fuel : Nat) (listed : Array Bool) (a : Act) (w : World), listed.size = l.length → p ≤ l.length → k ≤ p → (∀ i, listed.getD i false = true ↔ i < p) → l.length - p ≤ fuel →
      wpListIn (FW r) 0 P l.toArray Q (l.drop p) a w → wpAnyIn (FW r) 0 P .any l.toArray Q fuel listed a w := by
    intro p
    induction hp : l.length - p generalizing p with
    | zero =>
      intro fuel listed a w hsz hpl hkp hli hfu hwp
      have hpl' : p = l.length := by omega
      rw [show l.drop p = [] by rw [hpl']; simp] at hwp
      · have hr : Region.ready .any l.toArray listed = [] := by
          cases hr : Region.ready .any l.toArray listed with
          | nil => rfl
          | cons i rs =>
            exfalso
            have hi : i ∈ Region.ready .any l.toArray listed := by rw [hr]; simp
            obtain ⟨h1, o, h2, _⟩ := mem_ready.1 hi
            have hlt : i < l.length := by
              have := (Array.getElem?_eq_some_iff.1 h2).1
              simpa using this
            rw [getD_true_iff (by omega), (hli i).2 (by omega)] at h1; cases h1
        exact wpAnyIn_done hr hwp fuel
    | succ q ihk =>
      intro fuel listed a w hsz hpl hkp hli hfu hwp
      obtain ⟨fuel, rfl⟩ : ∃ f, fuel = f + 1 := ⟨fuel - 1, by omega⟩
      have hpl' : p < l.length := by omega
      have hok : l[p]? = some l[p] := List.getElem?_eq_getElem hpl'
      have hmem : ∀ i ∈ Region.ready .any l.toArray listed, i = p := by
        intro i hi
        obtain ⟨h1, o, h2, h3⟩ := mem_ready.1 hi
        have hlt : i < l.length := by
          have := (Array.getElem?_eq_some_iff.1 h2).1
          simpa using this
        rw [getD_true_iff (by omega)] at h1
        have hge : p ≤ i := by
          rcases Nat.lt_or_ge i p with h | h
          · rw [(hli i).2 h] at h1; cases h1
          · exact h
        rcases Nat.lt_or_ge p i with hlt' | hge'
        · exfalso
          have ho : l[i]? = some o := by simpa using h2
          have hcl2 : Closed l (fun j => listed.getD j false = true) := fun j oj hj hoj j' hj' => (hli j').2 (by have := back j oj hoj j' hj'; have := (hli j).1 hj; omega)
          have hms : (masks l [])[i]? = some ((masks l []).getD i 0) := by
            have : i < (masks l []).length := by rw [masks_len]; simpa using hlt
            simp [List.getD, this]
          have := masks_spec l _ hcl2 l [] (by simp) (by simp) (by simp) i _ o hms ho (fun j hj => by
            simp only [deps, List.mem_filterMap] at hj
            obtain ⟨e, he, hb⟩ := hj
            split at hb
            · rename_i hbi; simp at hb; subst hb; exact h3 e (by simpa using he) hbi
            · cases hb) p (tail i (by omega) hlt p hkp hlt')
          exact Nat.lt_irrefl _ ((hli p).1 this)
        · omega
      rw [List.drop_eq_getElem_cons hpl'] at hwp
      refine ⟨fun h0 => ?_, fun i hi => ?_⟩
      · exfalso
        have : p ∈ Region.ready .any l.toArray listed := by
          rw [mem_ready]
          refine ⟨?_, l[p], by simp, fun e he hb => ?_⟩
          · rw [getD_true_iff (by omega)]
            cases hx : listed.getD p false with
            | false => rfl
            | true => exact absurd ((hli p).1 hx) (Nat.lt_irrefl _)
          · exact (hli _).2 (back p _ hok e.on (by simp only [deps, List.mem_filterMap]; exact ⟨e, by simpa using he, by simp [hb]⟩))
        rw [h0] at this; cases this
      · have hik := hmem i hi
        subst hik
        unfold wpOpIn
        have hio : l.toArray[i]? = some l[i] := by simp
        simp only [hio]
        have next : ∀ a w, wpListIn (FW r) 0 P l.toArray Q (l.drop (i + 1)) a w → wpAnyIn (FW r) 0 P .any l.toArray Q fuel (listed.setIfInBounds i true) a w := by
          intro a w hwp
          refine ihk (i + 1) (by omega) fuel _ a w (by simp [hsz]) (by omega) (by omega) (fun j => ?_) (by omega) hwp
          rw [getD_set _ _ _ (by omega)]
          by_cases e : i = j
          · subst e; simp
          · rw [if_neg e, hli]; omega
        unfold wpListIn at hwp
        split at hwp
        · rename_i hwant; rw [if_pos hwant]; exact Oper.wpIn_mono next hwp
        · rename_i hwant; rw [if_neg hwant]; exact ⟨hwp.1, next _ _ hwp.2⟩
  exact key k fuel listed a w hsz hkl (Nat.le_refl _) hli hfu (h a w s)

/-- operations that come in whatever order, upon which all that are left wait -/
theorem DP.any {k m : Nat} (hchk : segChk l k m = true) (hkm : k ≤ m) (hml : m ≤ l.length) (hlk : (l.all fun o => (looks l o).all fun t => Nat.blt t c.n) = true)
    (h : AD P st.H l c.n ((l.drop k).take (m - k)) st.env fun env => DP c r P l Q m ⟨env, st.H⟩) : DP c r P l Q k st := by
  have ok := segOk_of hchk
  obtain ⟨xs, hxl, htail, hspec⟩ := AD_spec _ _ _ h
  have hxm : xs.length = m - k := by rw [hxl, List.length_take, List.length_drop]; omega
  generalize hS : (l.drop k).take (m - k) = S at *
  have takeAt : ∀ (i : Nat) (o : Oper), S[i]? = some o ↔ i < m - k ∧ l[k + i]? = some o := by
    intro i o
    rw [← hS, List.getElem?_take]
    by_cases hi : i < m - k
    · rw [if_pos hi, List.getElem?_drop]; simp [hi]
    · rw [if_neg hi]; simp [hi]
  generalize hF : puts st.env S xs = envF at htail
  have hlook : ∀ (i : Nat) (o : Oper), l[i]? = some o → ∀ t ∈ looks l o, t < c.n := by
    intro i o ho t ht
    simp only [List.all_eq_true] at hlk
    have := hlk o (List.mem_of_getElem? ho) t ht
    exact Nat.lt_of_succ_le (by simpa [Nat.blt] using this)
  have fin : ∀ (i : Nat) (o : Oper) (x : AV), i < m - k → l[k + i]? = some o → xs[i]? = some x → AOk P st.H l envF o x ∧ dstOk c.n o.dst = true := by
    intro i o x hi ho hx
    obtain ⟨h1, h2⟩ := hspec i o x ((takeAt i o).2 ⟨hi, ho⟩) hx
    refine ⟨?_, h2⟩
    have same : ∀ t ∈ looks l o, envGet (puts st.env (S.take i) (xs.take i)) t = envGet envF t := by
      intro t ht
      rw [← hF, puts_split i S xs st.env hxl]
      symm
      apply puts_other
      intro j o' ho' e
      rw [List.getElem?_drop] at ho'
      obtain ⟨hj, hoj⟩ := (takeAt _ _).1 ho'
      have := (ok.looked (k + i) o (k + (i + j)) o' t (by omega) (by omega) ho (by omega) (by omega) hoj e ht).1
      omega
    rcases h1 with ⟨hg, hp⟩ | ⟨j, want, d, G, y, hg, hj, hG, hp, rfl⟩
    · exact .inl ⟨hg, hp.congr fun t ht => same t (mem_looks ht)⟩
    · have hdl : d ∈ looks l o := List.mem_append_right _ (by simp [hg, hj])
      exact .inr ⟨j, want, d, G, y, hg, hj, by rw [← same d hdl]; exact hG, fun e => (hp e).congr fun t ht => same t (mem_looks ht), rfl⟩
  have finAt : ∀ (i : Nat) (o : Oper) (x : AV) (t : Nat), i < m - k → l[k + i]? = some o → xs[i]? = some x → o.dst = some t → envGet envF t = some x := by
    intro i o x t hi ho hx hd
    rw [← hF]
    refine puts_at S xs st.env i t o x ((takeAt i o).2 ⟨hi, ho⟩) hx hd (fun j o' ho' e => ?_)
    obtain ⟨hj, hoj⟩ := (takeAt _ _).1 ho'
    rcases Nat.decEq j i with hne | he
    · exact absurd hd (ok.apart (k + i) o (k + j) o' t (by omega) (by omega) ho (by omega) (by omega) hoj e (by omega))
    · exact he
  have finOther : ∀ t, (∀ (i : Nat) (o : Oper), i < m - k → l[k + i]? = some o → o.dst ≠ some t) → envGet envF t = envGet st.env t := by
    intro t ht
    rw [← hF]
    exact puts_other _ _ _ _ fun i o ho => let ⟨h1, h2⟩ := (takeAt i o).1 ho; ht i o h1 h2
  have main : ∀ (cnt fuel : Nat) (listed : Array Bool) (a : Act) (w : World) (I : Imm), listed.size = l.length → (cnt = (List.range m).countP fun i => !listed.getD i false) → cnt + (l.length - m) ≤ fuel → Closed l (fun i => listed.getD i false = true) →
      (∀ i, i < k → listed.getD i false = true) → (∀ i, listed.getD i false = true → i < m) → a.defers = c.ds → a.tmps.size = c.n → WOk c.B I w → Ext c.B c.I0 c.w0 I w → HeapOk c.B I w st.H →
      (∀ t x, envGet envF t = some x → (∀ (i : Nat) (o : Oper), i < m - k → l[k + i]? = some o → o.dst = some t → listed.getD (k + i) false = true) → Rel I w x (a.tmps.getD t undef)) →
      wpAnyIn (FW r) 0 P .any l.toArray Q fuel listed a w := by
    intro cnt
    induction cnt with
    | zero =>
      intro fuel listed a w I hsz hf hfu hcl hlk' hlm hd hts hw he hh hv
      have hall : ∀ i, i < m → listed.getD i false = true := by
        intro i hi
        have := List.countP_eq_zero.1 hf.symm i (by simpa using hi)
        simpa using this
      have hs : Sat c ⟨envF, st.H⟩ a w := ⟨hd, hts, I, hw, he, hh, fun t x hx => hv t x hx (fun i o hi _ _ => hall (k + i) (by omega))⟩
      exact htail a w hs fuel listed hsz (fun i => ⟨hlm i, hall i⟩) (by omega)
    | succ cnt ih =>
      intro fuel listed a w I hsz hf hfu hcl hlk' hlm hd hts hw he hh hv
      obtain ⟨fuel, rfl⟩ : ∃ f, fuel = f + 1 := ⟨fuel - 1, by omega⟩
      have hex : ∃ i, i < m ∧ listed.getD i false = false ∧ ∀ j, j < i → listed.getD j false = true := by
        have : ∃ i, i < m ∧ listed.getD i false = false := by
          refine Classical.byContradiction fun hn => ?_
          have : (List.range m).countP (fun i => !listed.getD i false) = 0 := by
            rw [List.countP_eq_zero]
            intro i hi
            simp only [List.mem_range] at hi
            cases hx : listed.getD i false with
            | true => simp
            | false => exact absurd ⟨i, hi, hx⟩ hn
          omega
        obtain ⟨i, hi⟩ := this
        induction i using Nat.strongRecOn with
        | _ i ihi =>
          by_cases hx : ∃ j, j < i ∧ listed.getD j false = false
          · obtain ⟨j, hj, hj2⟩ := hx
            exact ihi j hj ⟨by omega, hj2⟩
          · exact ⟨i, hi.1, hi.2, fun j hj => by
              cases hy : listed.getD j false with
              | true => rfl
              | false => exact absurd ⟨j, hj, hy⟩ hx⟩
      obtain ⟨i0, hi0m, hi0, hi0b⟩ := hex
      have hi0k : k ≤ i0 := by
        rcases Nat.lt_or_ge i0 k with h | h
        · rw [hlk' i0 h] at hi0; cases hi0
        · exact h
      refine ⟨fun h0 => ?_, fun i hi => ?_⟩
      · exfalso
        have hok : l[i0]? = some l[i0] := List.getElem?_eq_getElem (by omega)
        have : i0 ∈ Region.ready .any l.toArray listed := by
          rw [mem_ready]
          refine ⟨by rw [getD_true_iff (by omega)]; exact hi0, l[i0], by simp, fun e he hb => ?_⟩
          exact hi0b _ (ok.back i0 _ hok e.on (by simp only [deps, List.mem_filterMap]; exact ⟨e, by simpa using he, by simp [hb]⟩))
        rw [h0] at this; cases this
      · obtain ⟨h1, o, h2, h3⟩ := mem_ready.1 hi
        have ho : l[i]? = some o := by simpa using h2
        have hlt : i < l.length := (List.getElem?_eq_some_iff.1 ho).1
        rw [getD_true_iff (by omega)] at h1
        have hdeps : ∀ k ∈ deps o, listed.getD k false = true := by
          intro k hk
          simp only [deps, List.mem_filterMap] at hk
          obtain ⟨e, he, hb⟩ := hk
          split at hb
          · rename_i hbi; simp at hb; subst hb; exact h3 e (by simpa using he) hbi
          · cases hb
        have hms : (masks l [])[i]? = some ((masks l []).getD i 0) := by
          have : i < (masks l []).length := by rw [masks_len]; simpa using hlt
          simp [List.getD, this]
        have hanc := masks_spec l _ hcl l [] (by simp) (by simp) (by simp) i _ o hms ho hdeps
        have hik : k ≤ i := by
          rcases Nat.lt_or_ge i k with h | h
          · rw [hlk' i h] at h1; cases h1
          · exact h
        have him : i < m := by
          rcases Nat.lt_or_ge i m with h | h
          · exact h
          · have := hanc i0 (ok.tail i h hlt i0 hi0k hi0m)
            rw [hi0] at this; cases this
        obtain ⟨q, rfl⟩ : ∃ q, i = k + q := ⟨i - k, by omega⟩
        have hq : q < m - k := by omega
        have hxi : xs[q]? = some xs[q] := List.getElem?_eq_getElem (by omega)
        obtain ⟨hA, hdst⟩ := fin q o _ hq ho hxi
        have avail : ∀ t ∈ looks l o, ∀ (i' : Nat) (o' : Oper), i' < m - k → l[k + i']? = some o' → o'.dst = some t → listed.getD (k + i') false = true := fun t ht i' o' hi' ho' hd' => hanc _ (ok.looked (k + q) o (k + i') o' t hik him ho (by omega) (by omega) ho' hd' ht).2
        refine hA.run (c := c) ho hw hh (fun t ht z hz => hv t z hz (avail t ht)) (fun t ht => by rw [hts]; exact hlook _ o ho t ht) ?_
        intro v w' I' hw' he' hh' hx
        have hset : ∀ j, (listed.setIfInBounds (k + q) true).getD j false = if k + q = j then true else listed.getD j false := fun j => getD_set _ _ _ (by omega)
        refine ih fuel (listed.setIfInBounds (k + q) true) _ w' I' (by simp [hsz]) ?_ (by omega) ?_ ?_ ?_ (by rw [put_defers]; exact hd) (by rw [tmps_put_size]; exact hts) hw' (he.trans he') hh' ?_
        · have : (List.range m).countP (fun j => !listed.getD j false) = (List.range m).countP (fun j => !(listed.setIfInBounds (k + q) true).getD j false) + 1 := by
            have key : ∀ (n : Nat), (List.range n).countP (fun j => !listed.getD j false) = (List.range n).countP (fun j => !(listed.setIfInBounds (k + q) true).getD j false) + (if k + q < n then 1 else 0) := by
              intro n
              induction n with
              | zero => simp
              | succ n ihn =>
                rw [List.range_succ, List.countP_append, List.countP_append, ihn]
                simp only [List.countP_cons, List.countP_nil, Nat.zero_add, hset n]
                by_cases e : k + q = n
                · subst e
                  rw [if_neg (Nat.lt_irrefl _), if_pos (Nat.lt_succ_self _), if_pos rfl, h1]
                  simp
                · rw [if_neg e]
                  by_cases hlt' : k + q < n
                  · rw [if_pos hlt', if_pos (Nat.lt_succ_of_lt hlt')]; omega
                  · rw [if_neg hlt', if_neg (show ¬ k + q < n + 1 by omega)]; omega
            rw [key, if_pos him]
          omega
        · intro j oj hj hoj k' hk
          rw [hset]
          by_cases e : k + q = k'
          · rw [if_pos e]
          · rw [if_neg e]
            rw [hset] at hj
            by_cases e' : k + q = j
            · subst e'
              rw [ho] at hoj; cases hoj
              exact hdeps k' hk
            · rw [if_neg e'] at hj
              exact hcl j oj hj hoj k' hk
        · intro j hj
          rw [hset, if_neg (by omega)]
          exact hlk' j hj
        · intro j hj
          rw [hset] at hj
          by_cases e : k + q = j
          · omega
          · rw [if_neg e] at hj; exact hlm j hj
        · intro t x hxt hav
          by_cases hdt : o.dst = some t
          · rw [hdt]
            have : x = xs[q] := by
              have := finAt q o _ t hq ho hxi hdt
              rw [this] at hxt; exact (Option.some.inj hxt).symm
            subst this
            rw [tmps_put_same (by rw [hts]; rw [hdt] at hdst; exact Nat.lt_of_succ_le (by simpa [dstOk, Nat.blt] using hdst))]
            exact hx
          · have hold : Rel I w x (a.tmps.getD t undef) := hv t x hxt fun i' o' hi' ho' hd' => by
              have := hav i' o' hi' ho' hd'
              rw [hset] at this
              by_cases e : k + q = k + i'
              · have e2 : q = i' := by omega
                subst e2
                rw [ho] at ho'; cases ho'
                exact absurd hd' hdt
              · rw [if_neg e] at this; exact this
            have hget : (a.put o.dst v).tmps.getD t undef = a.tmps.getD t undef := by
              cases hod : o.dst with
              | none => rfl
              | some d => exact tmps_put_other (fun e => hdt (by rw [hod, e]))
            rw [hget]
            exact hold.keep he'.keeps
  intro a w s fuel listed hsz hli hfu
  obtain ⟨I, hw, he, hh, hv⟩ := s.mem
  refine main _ fuel listed a w I hsz rfl ?_ (fun i o hi ho j hj => (hli j).2 (by have := ok.back i o ho j hj; have := (hli i).1 hi; omega)) (fun i hi => (hli i).2 hi) (fun i hi => by have := (hli i).1 hi; omega) s.ds s.size hw he hh ?_
  · have : (List.range m).countP (fun i => !listed.getD i false) ≤ m - k := by
      have e : List.range m = List.range k ++ (List.range (m - k)).map (k + ·) := by
        rw [← List.range_add]; congr 1; omega
      rw [e, List.countP_append]
      have z : (List.range k).countP (fun i => !listed.getD i false) = 0 := by
        rw [List.countP_eq_zero]; intro i hi; simp only [List.mem_range] at hi; simp [(hli i).2 hi]
      rw [z]
      have := List.countP_le_length (p := fun i => !listed.getD i false) (l := (List.range (m - k)).map (k + ·))
      simpa using this
    omega
  · intro t x hx hav
    have : envGet st.env t = some x := by
      rw [← finOther t (fun i o hi ho hd => ?_)]
      · exact hx
      · have := hav i o hi ho hd
        have := (hli (k + i)).1 this
        omega
    exact hv t x this

/-! the forms that the printed proofs use -/
theorem DP.anyC {env : List (Nat × AV)} {H : List Ent} (k m n : Nat) (hn : c.n = n) (hchk : segChk l k m = true) (hkm : Nat.ble k m = true) (hml : Nat.ble m l.length = true) (hlk : (l.all fun o => (looks l o).all fun t => Nat.blt t n) = true)
    (h : AD P H l c.n ((l.drop k).take (m - k)) env fun env => DP c r P l Q m ⟨env, H⟩) : DP c r P l Q k ⟨env, H⟩ :=
  DP.any hchk (Nat.le_of_ble_eq_true hkm) (Nat.le_of_ble_eq_true hml) (by rw [hn]; exact hlk) h
theorem DP.tailC (k : Nat) (hchk : tailChk l k = true) (hkl : Nat.ble k l.length = true) (h : OL c r P l.toArray (l.drop k) st Q) : DP c r P l Q k st := DP.tail hchk (Nat.le_of_ble_eq_true hkl) h
end
end Go.Eng

/- The engine, part 14: calls under a condition. No condition: general lemmas over any program. -/
set_option linter.unusedVariables false
set_option linter.unusedSimpArgs false
namespace Go.Eng

section
variable {c : Ctx} {r : Option Nat} {P : Program} {ops : Array Oper} {l rest : List Oper} {o : Oper} {env : List (Nat × AV)} {H : List Ent} {Q : Exit → Act → World → Prop} {x : AV} {d n : Nat}

def CallR (B : Nat) (I : Imm) (w : World) (Φ : AV → List Ent → Prop) : Value → World → Prop := fun v w' => ∃ I' H' x, WOk B I' w' ∧ Ext B I w I' w' ∧ HeapOk B I' w' H' ∧ Rel I' w' x v ∧ Φ x H'

theorem bcall_runs {a : Act} {w : World} {I : Imm} {f : FuncId} {xs : List AV} {Φ : AV → List Ent → Prop} {ρ : Nat → Option AV} (hc : CallOk P ρ o f xs) (h : BCall c.B P f xs H Φ (fun _ => False)) (hw : WOk c.B I w) (hh : HeapOk c.B I w H) (ho : OpsOk I w ρ a o) :
    Runs P r o a w (CallR c.B I w Φ) (fun _ _ => False) := by
  obtain ⟨vs, h1, h2⟩ := hc.run I w a ho
  obtain ⟨hok, hcall⟩ := h
  refine Runs.of_enter hc.nodefer (h2 hok) ((hcall I w vs hw hh h1).mono fun e w' hr => ?_)
  obtain ⟨I', H', hw', he', hh', hr⟩ := hr
  rcases hr with ⟨v, x, rfl, hx, hΦ⟩ | ⟨v, x, rfl, hx, hE⟩
  · exact ⟨I', H', x, hw', he', hh', hx, hΦ⟩
  · exact hE.elim

theorem vcall_runs {a : Act} {w : World} {I : Imm} {y : Operand} {args : Array Operand} {ts : Array TypeId} {gv : AV} {ys : List (Bool × AV)} {xs : List AV} {g : Bool} {Φ : AV → List Ent → Prop} {ρ : Nat → Option AV} (h : o.op = .call { callee := .value y, args := args, argTypes := ts })
    (hx : aev ρ y = some (g, gv)) (hg : g = true) (ha : aevs ρ args.toList = some ys) (hys : ys.all (·.1) = true) (hle : AVleL (ys.map (·.2)) xs)
    (hv : VCall c.B P gv xs H Φ (fun _ => False)) (hw : WOk c.B I w) (hh : HeapOk c.B I w H) (ho : OpsOk I w ρ a o) : Runs P r o a w (CallR c.B I w Φ) (fun _ _ => False) := by
  have h1 := ho.get (by simp [h, Op.operands, Call.operands]) hx hg
  have h2 := hle.rel (aevs_rel ho args.toList ys (fun z hz => by simp [h, Op.operands, Call.operands]; right; simpa using hz) ha (by simpa using hys))
  have conv : ∀ e w', RetP c.B I w Φ (fun _ => False) e w' → match e with
      | .returned v => CallR c.B I w Φ v w'
      | .panicked ch => False
      | .outgrown => False := by
    rintro e w' ⟨I', H', hw', he', hh', ⟨v, x, rfl, hx, hΦ⟩ | ⟨v, x, rfl, hx, hE⟩⟩
    · exact ⟨I', H', x, hw', he', hh', hx, hΦ⟩
    · exact hE
  have e2 : (args.toList.map a.eval).toArray = args.map a.eval := by apply Array.ext'; simp
  rcases hv I w _ _ hw hh h1 h2 with ⟨f, vf, vc, e1, hok, hcall⟩ | ⟨l, e1, fn, tmps, assign, body, hy, hR⟩
  · rw [e2] at hcall
    exact Runs.of_enter (by simp [h]) (run_call h hok a w e1) (hcall.mono conv)
  · rw [e2] at hy
    exact Runs.of_round (by simp [h]) (run_callYield h a w e1 hy) (hR.mono conv)

/-- an effect under a condition -/
theorem OL.guardE {j k : Nat} {want G : Bool} {Φ : AV → List Ent → Prop} (hg : o.guard = some (j, want)) (hj : (ops[j]?).bind (·.dst) = some k) (hdj : Nat.blt k c.n = true) (hG : mkG (envGet env k) want = some G)
    (hd : o.dst = some d) (hn : Nat.blt d c.n = true) (h : G = true → ∀ (a : Act) (w : World) (I : Imm), WOk c.B I w → HeapOk c.B I w H → OpsOk I w (envGet env) a o → Runs P r o a w (CallR c.B I w Φ) (fun _ _ => False))
    (next : ∀ y H', (G = true → Φ y H') → (G = false → y = .b false ∧ H' = H) → OL c r P ops rest ⟨(d, .opt G y) :: env, H'⟩ Q) : OL c r P ops (o :: rest) ⟨env, H⟩ Q := by
  intro a w s
  obtain ⟨I, hw, he, hh, hv⟩ := s.mem
  have hwant := mkG_wanted (I := I) (w := w) (a := a) hj hg (fun z hz => hv k z hz) hG (by rw [s.size]; exact Nat.lt_of_succ_le (by simpa [Nat.blt] using hdj))
  unfold wpListIn
  rw [hwant]
  have hds := dstOk_of hd hn
  cases G with
  | true =>
    rw [if_pos rfl]
    refine h rfl a w I hw hh (hv.ops o) _ Q ?_ (fun _ _ h => h.elim)
    rintro v w' ⟨I', H', x, hw', he', hh', hx, hΦ⟩
    refine next x H' (fun _ => hΦ) (fun e => by cases e) _ _ ⟨by rw [put_defers]; exact s.ds, by rw [tmps_put_size]; exact s.size, I', hw', he.trans he', hh', ?_⟩
    have := (hv.keep he'.keeps).put (dst := o.dst) (by rw [s.size]; exact hds) (.opt true x v (fun _ => hx) (fun e => by cases e))
    rw [hd] at this ⊢
    exact this
  | false =>
    rw [if_neg (by simp)]
    refine ⟨fun _ _ => trivial, next (.b false) H (fun e => by cases e) (fun _ => ⟨rfl, rfl⟩) _ _ ⟨by rw [put_defers]; exact s.ds, by rw [tmps_put_size]; exact s.size, I, hw, he, hh, ?_⟩⟩
    have := hv.put (dst := o.dst) (by rw [s.size]; exact hds) (.opt false (.b false) undef (fun e => by cases e) (fun _ => rfl))
    rw [hd] at this ⊢
    exact this

theorem OL.bcallG {j k : Nat} {want G : Bool} {f : FuncId} {xs : List AV} {Φ : AV → List Ent → Prop} (hg : o.guard = some (j, want)) (hj : (ops[j]?).bind (·.dst) = some k) (hdj : Nat.blt k c.n = true) (hG : mkG (envGet env k) want = some G)
    (hd : o.dst = some d) (hn : Nat.blt d c.n = true) (hc : G = true → CallOk P (envGet env) o f xs) (h : G = true → BCall c.B P f xs H Φ (fun _ => False))
    (next : ∀ y H', (G = true → Φ y H') → (G = false → y = .b false ∧ H' = H) → OL c r P ops rest ⟨(d, .opt G y) :: env, H'⟩ Q) : OL c r P ops (o :: rest) ⟨env, H⟩ Q :=
  OL.guardE hg hj hdj hG hd hn (fun e a w I hw hh ho => bcall_runs (hc e) (h e) hw hh ho) next

theorem OL.vcallG {j k : Nat} {want G : Bool} {y : Operand} {args : Array Operand} {ts : Array TypeId} {gv : AV} {ys : List (Bool × AV)} {xs : List AV} {g : Bool} {Φ : AV → List Ent → Prop} (hgd : o.guard = some (j, want)) (hj : (ops[j]?).bind (·.dst) = some k) (hdj : Nat.blt k c.n = true) (hG : mkG (envGet env k) want = some G)
    (hd : o.dst = some d) (hn : Nat.blt d c.n = true) (h : o.op = .call { callee := .value y, args := args, argTypes := ts })
    (hx : aev (envGet env) y = some (g, gv)) (hg : G = true → g = true) (ha : aevs (envGet env) args.toList = some ys) (hys : G = true → ys.all (·.1) = true) (hle : AVleL (ys.map (·.2)) xs) (hv : G = true → VCall c.B P gv xs H Φ (fun _ => False))
    (next : ∀ y H', (G = true → Φ y H') → (G = false → y = .b false ∧ H' = H) → OL c r P ops rest ⟨(d, .opt G y) :: env, H'⟩ Q) : OL c r P ops (o :: rest) ⟨env, H⟩ Q :=
  OL.guardE hgd hj hdj hG hd hn (fun e a w I hw hh ho => vcall_runs h hx (hg e) ha (hys e) hle (hv e) hw hh ho) next
end
end Go.Eng

/- The engine, part 15: a map whose entries are made when they are asked for. No condition: general lemmas over any program. -/
set_option linter.unusedVariables false
set_option linter.unusedSimpArgs false
namespace Go.Eng
open Go.RowKit (Below)

def goodKey (P : Program) (k : TypeId) (v : Value) : Prop := ∃ l, keyOf P k v = some l
class HasMap (P : Program) (t : Nat) (x : outParam (Nat × Nat)) : Prop where
  h : P.underlying t = some (.map x.1 x.2)
  key : Go.Maps.Keyed P x.1
  zero : ((P.info? x.2).bind (·.zero)) = some (.pointer none)

theorem rel_vals {I : Imm} {w : World} : ∀ {vs us : List Value}, RelL I w (vs.map .val) us → us = vs
  | [], _, .nil => rfl
  | v :: vs, _, .cons _ _ _ _ h t => by rw [rel_val h, rel_vals t]

/-- a key that is a struct of two integers and an array of two -/
theorem goodKey_spot {P : Program} {k i ar m : Nat} (hs : (P.underlying k).map (fun d => match d with | .struct fs => fs.toList.map (fun f => (f.name, f.type, f.offset)) | _ => []) = some [("arg", i, 0), ("many", i, 1), ("path", ar, 2)]) (hm : P.types.size = m + 2) (hi : P.underlying i = some (.int .i64)) (har : P.underlying ar = some (.array 2 i))
    (ck : P.cellsOf k = 4) (car : P.cellsOf ar = 2) (ci : P.cellsOf i = 1) (kt : P.keyType k = true) {a b c d : Int} (ha : (Go.Lit.int .i64 a).wf = true) (hb : (Go.Lit.int .i64 b).wf = true) (hc : (Go.Lit.int .i64 c).wf = true) (hd : (Go.Lit.int .i64 d).wf = true) :
    goodKey P k (.agg #[.int .i64 a, .int .i64 b, .int .i64 c, .int .i64 d]) := by
  cases hu : P.underlying k with
  | none => simp [hu] at hs
  | some t =>
    simp only [hu, Option.map_some, Option.some.injEq] at hs
    cases t with
    | struct fs =>
      obtain ⟨fl⟩ := fs
      simp only at hs
      rcases fl with _ | ⟨f0, _ | ⟨f1, _ | ⟨f2, _ | ⟨f3, r⟩⟩⟩⟩
      · simp at hs
      · simp at hs
      · simp at hs
      · simp only [List.map_cons, List.map_nil, List.cons.injEq, Prod.mk.injEq, and_true] at hs
        obtain ⟨⟨n0, t0, o0⟩, ⟨n1, t1, o1⟩, ⟨n2, t2, o2⟩⟩ := hs
        have hform : (Value.agg #[.int .i64 a, .int .i64 b, .int .i64 c, .int .i64 d]).formed P k = true := by simp [Value.formed, hu, ck]
        have hint : ∀ (q : Nat) (x : Int), (Go.Lit.int .i64 x).wf = true → P.keyLits (q + 1) i [.int .i64 x] = some [.int .i64 x] := fun q x hx => by simp [Program.keyLits, hi, hx]
        have harr : P.keyLits (m + 1 + 1) ar [.int .i64 c, .int .i64 d] = some [.int .i64 c, .int .i64 d] := by
          simp [Program.keyLits, har, hi, car, ci, hc, hd, List.range, List.range.loop]
        have hlits : P.keyLits (P.types.size + 1) k [.int .i64 a, .int .i64 b, .int .i64 c, .int .i64 d] = some [.int .i64 a, .int .i64 b, .int .i64 c, .int .i64 d] := by
          rw [hm]
          simp [Program.keyLits, hu, har, hi, ck, n0, n1, n2, t0, t1, t2, o0, o1, o2, ci, car, ha, hb, hc, hd, List.range, List.range.loop]
        exact ⟨.string (keyBytes [.int .i64 a, .int .i64 b, .int .i64 c, .int .i64 d]), by
          have hc4 : (Value.agg #[.int .i64 a, .int .i64 b, .int .i64 c, .int .i64 d]).cells.toList = [.int .i64 a, .int .i64 b, .int .i64 c, .int .i64 d] := rfl
          simp only [keyOf, hu, kt, hform, Bool.and_self, if_true, hc4, hlits, Option.map_some]⟩
      · simp at hs
    | _ => simp at hs

theorem PCall.inH {P : Program} {f : FuncId} {xs : List AV} {y : AV} (h : PCall P f xs y) (Hm : List Ent) : PCallIn P Hm f xs y := fun H _ => h H

theorem POp.callIn {P : Program} {H : List Ent} {ρ : Nat → Option AV} {o : Oper} {f : FuncId} {xs ys : List AV} {y : AV} {Hm : List Ent} (hc : CallOk P ρ o f xs) (hle : AVleL xs ys) (h : PCallIn P Hm f ys y) (hm : ∀ e ∈ Hm, e ∈ H) : POp P H ρ o y := by
  intro B I w r a Hc hw hh hs ho
  obtain ⟨vs, h1, h2⟩ := (hc.le hle).run I w a ho
  obtain ⟨hok, hcall⟩ := h Hc (fun e he => hs e (hm e he))
  refine Runs.of_enter hc.nodefer (h2 hok) ((hcall B I w vs hw hh h1).mono fun e w' hr => ?_)
  obtain ⟨I', H', hw', he', hh', hr⟩ := hr
  rcases hr with ⟨v, x, rfl, hx, rfl, rfl⟩ | ⟨v, x, rfl, _, hE⟩
  · exact ⟨I', hw', he', hh', hx⟩
  · exact hE.elim

section
variable {c : Ctx} {r : Option Nat} {P : Program} {ops : Array Oper} {l rest : List Oper} {o : Oper} {env : List (Nat × AV)} {H : List Ent} {Q : Exit → Act → World → Prop} {d : Nat}

theorem OL.qcallIn {f : FuncId} {xs : List AV} {Φ : AV → Prop} {Hm : List Ent} (hg : o.guard = none) (hd : o.dst = some d) (hn : Nat.blt d c.n = true) (hc : CallOk P (envGet env) o f xs) (h : QCallIn P Hm f xs Φ) (hm : ∀ e ∈ Hm, e ∈ H)
    (next : ∀ y, Φ y → OL c r P ops rest ⟨(d, y) :: env, H⟩ Q) : OL c r P ops (o :: rest) ⟨env, H⟩ Q :=
  OL.bcallC hg hd hn hc (h H hm).b (fun y H' ⟨h1, h2⟩ => by subst h2; exact next y h1)

theorem OL.lookupL {t : TypeId} {x kx : Operand} {b : Nat} {ke : Nat × Nat} {κ : Value → List AV} {dd : List AV} {vs : List Value} {y : AV} {g1 g2 : Bool} [hM : HasMap P t ke] (hgd : o.guard = none) (hd : o.dst = some d) (hn : Nat.blt d c.n = true) (h : o.op = .lookup t x kx true)
    (hx : aev (envGet env) x = some (g1, .val (.map (some b)))) (hg1 : g1 = true) (hk : aev (envGet env) kx = some (g2, y)) (hg2 : g2 = true) (hy : AVle y (.agg (vs.map .val))) (hm : Ent.lmap b (goodKey P ke.1) κ dd ∈ H) (hgood : goodKey P ke.1 (.agg vs.toArray))
    (found : OL c r P ops rest ⟨(d, .tup [.ptr (κ (.agg vs.toArray)), .b true]) :: env, H⟩ Q)
    (absent : κ (.agg vs.toArray) = dd → OL c r P ops rest ⟨(d, .tup [.val (.pointer none), .b false]) :: env, H⟩ Q) : OL c r P ops (o :: rest) ⟨env, H⟩ Q := by
  intro a w s
  refine wpListIn_plain hgd fun K hK => ?_
  obtain ⟨I, hw, he, hh, hv⟩ := s.mem
  have hxv := rel_val ((hv.ops o).get (by simp [h, Op.operands]) hx hg1)
  have hkv : a.eval kx = .agg vs.toArray := by
    have h0 := hy _ _ _ ((hv.ops o).get (by simp [h, Op.operands]) hk hg2)
    generalize a.eval kx = u at h0
    cases h0 with
    | agg _ us hr => have := rel_vals hr; rw [← this]
  obtain ⟨hB, ⟨en, cl, hb, hent, habs⟩, hni⟩ := hh.ok _ hm
  obtain ⟨lx, hlx⟩ := hgood
  have hall : ∀ e ∈ en.toList, ∃ l, keyOf P ke.1 e.key = some l := fun e he => (hent e he).1
  have hchk := hM.key.check w en.isEmpty hlx
  have hget : (getObj b).run P w = .ok (.map en cl) w := by simp [getObj, Sem.run, hb]
  rcases hM.key.find w hlx en.toList hall with ⟨hf, hne⟩ | ⟨j, e, hf, hj, hke⟩
  · have hz : (zeroValue ke.2).run P w = .ok (.pointer none) w := by
      have := hM.zero
      cases hi : P.info? ke.2 with
      | none => simp [hi] at this
      | some inf => simp [hi] at this; simp [zeroValue, typeInfo, hi, this]
    have hrun : (execOp a.eval o).run P w = .ok (.value (.tuple #[.pointer none, .bool false])) w := by
      simp [execOp, h, Instr.lookup, run_underlying hM.h, hxv, hkv, hget, hchk, hf, hz]
    refine Runs.of_value (R := fun v w' => v = .tuple #[.pointer none, .bool false] ∧ w' = w) (E := fun _ _ => False) (by simp [h]) hrun ⟨rfl, rfl⟩ K Q ?_ (fun _ _ h => h.elim)
    rintro v w' ⟨rfl, rfl⟩
    refine hK _ _ (absent (habs _ ⟨lx, hlx⟩ hne) _ _ ⟨by rw [put_defers]; exact s.ds, by rw [tmps_put_size]; exact s.size, I, hw, he, hh, ?_⟩)
    have := hv.put (dst := some d) (x := .tup [.val (.pointer none), .b false]) (v := .tuple #[.pointer none, .bool false]) (by rw [s.size]; exact hn) (.tup _ _ (.cons _ _ _ _ (.val _) (.cons _ _ _ _ (.val _) .nil)))
    rw [hd]; exact this
  · have hrun : (execOp a.eval o).run P w = .ok (.value (.tuple #[e.val, .bool true])) w := by
      simp [execOp, h, Instr.lookup, run_underlying hM.h, hxv, hkv, hget, hchk, hf]
    refine Runs.of_value (R := fun v w' => v = .tuple #[e.val, .bool true] ∧ w' = w) (E := fun _ _ => False) (by simp [h]) hrun ⟨rfl, rfl⟩ K Q ?_ (fun _ _ h => h.elim)
    rintro v w' ⟨rfl, rfl⟩
    refine hK _ _ (found _ _ ⟨by rw [put_defers]; exact s.ds, by rw [tmps_put_size]; exact s.size, I, hw, he, hh, ?_⟩)
    have hr := (hent e (List.mem_of_getElem? hj)).2
    rw [hke] at hr
    have := hv.put (dst := some d) (x := .tup [.ptr (κ (.agg vs.toArray)), .b true]) (v := .tuple #[e.val, .bool true]) (by rw [s.size]; exact hn) (.tup _ _ (.cons _ _ _ _ hr (.cons _ _ _ _ (.val _) .nil)))
    rw [hd]; exact this

theorem OL.mapUpdateL {t : TypeId} {x kx z : Operand} {b : Nat} {ke : Nat × Nat} {κ : Value → List AV} {dd : List AV} {vs : List Value} {y u : AV} {g1 g2 g3 : Bool} [hM : HasMap P t ke] (hgd : o.guard = none) (hd : o.dst = none) (h : o.op = .mapUpdate t x kx z)
    (hx : aev (envGet env) x = some (g1, .val (.map (some b)))) (hg1 : g1 = true) (hk : aev (envGet env) kx = some (g2, y)) (hg2 : g2 = true) (hy : AVle y (.agg (vs.map .val))) (hz : aev (envGet env) z = some (g3, u)) (hg3 : g3 = true) (hu : AVle u (.ptr (κ (.agg vs.toArray))))
    (hm : Ent.lmap b (goodKey P ke.1) κ dd ∈ H) (hgood : goodKey P ke.1 (.agg vs.toArray)) (next : OL c r P ops rest ⟨env, H⟩ Q) : OL c r P ops (o :: rest) ⟨env, H⟩ Q := by
  intro a w s
  refine wpListIn_plain hgd fun K hK => ?_
  obtain ⟨I, hw, he, hh, hv⟩ := s.mem
  have hxv := rel_val ((hv.ops o).get (by simp [h, Op.operands]) hx hg1)
  have hkv : a.eval kx = .agg vs.toArray := by
    have h0 := hy _ _ _ ((hv.ops o).get (by simp [h, Op.operands]) hk hg2)
    generalize a.eval kx = u at h0
    cases h0 with
    | agg _ us hr => have := rel_vals hr; rw [← this]
  have hzv := hu _ _ _ ((hv.ops o).get (by simp [h, Op.operands]) hz hg3)
  obtain ⟨hB, ⟨en, cl, hb, hent, habs⟩, hni⟩ := hh.ok _ hm
  have hgood' := hgood
  obtain ⟨lx, hlx⟩ := hgood
  have hall : ∀ e ∈ en.toList, ∃ l, keyOf P ke.1 e.key = some l := fun e he => (hent e he).1
  have hchk := hM.key.check w false hlx
  have hget : (getObj b).run P w = .ok (.map en cl) w := by simp [getObj, Sem.run, hb]
  have hset : ∀ o' : Obj, (setObj b o').run P w = .ok () (w.putObj b o') := fun o' => by simp [setObj, Sem.run, hb, World.putObj]
  have hlt : b < w.heap.size := (Array.getElem?_eq_some_iff.1 hb).1
  -- behind the store
  have fin : ∀ (en' : Array MapEntry) (cl' : Nat), (∀ e ∈ en'.toList, goodKey P ke.1 e.key ∧ Rel I w (.ptr (κ e.key)) e.val) → (∀ v, goodKey P ke.1 v → (∀ e ∈ en'.toList, e.key ≠ v) → κ v = dd) →
      (execOp a.eval o).run P w = .ok .skip (w.putObj b (.map en' cl')) → o.wpIn (FW r) 0 P a w K Q := by
    intro en' cl' h1 h2 hrun
    have hk : Keeps I w I (w.putObj b (.map en' cl')) := putObj_keeps (B := c.B) hni
    refine Runs.of_skip (R := fun v w' => v = undef ∧ w' = w.putObj b (.map en' cl')) (E := fun _ _ => False) (by simp [h]) hrun ⟨rfl, rfl⟩ K Q ?_ (fun _ _ h => h.elim)
    rintro v w' ⟨rfl, rfl⟩
    have hh' : HeapOk c.B I (w.putObj b (.map en' cl')) H := by
      refine ⟨fun f hf => ?_, hh.apart⟩
      by_cases hfb : f.foot = some b
      · -- it is the map itself
        have : f = .lmap b (goodKey P ke.1) κ dd := by
          refine Classical.byContradiction fun hne => ?_
          have hp := hh.apart
          obtain ⟨i, hi, hfi⟩ := List.mem_iff_getElem.1 hf
          obtain ⟨j, hj, hmj⟩ := List.mem_iff_getElem.1 hm
          rw [List.pairwise_iff_getElem] at hp
          rcases Nat.lt_trichotomy i j with hij | hij | hij
          · exact hp i j hi hj hij b (by rw [hfi]; exact hfb) (by rw [hmj]; rfl)
          · subst hij; rw [hfi] at hmj; exact hne hmj
          · exact hp j i hj hi hij b (by rw [hmj]; rfl) (by rw [hfi]; exact hfb)
        subst this
        exact ⟨hB, ⟨en', cl', World.putObj_heap_same hlt, fun e he => ⟨(h1 e he).1, (h1 e he).2.keep hk⟩, h2⟩, hni⟩
      · exact Ent.keep (hh.ok f hf) hk (fun b' hb' => World.putObj_heap_other (fun e => hfb (by rw [← e]; exact hb'))) (fun _ _ _ x => x)
    refine hK _ _ ?_
    rw [hd]
    exact next _ _ ⟨s.ds, s.size, I, hw.putObj hni, he.trans (Ext.putObj hB hni), hh', hv.keep hk⟩
  rcases hM.key.find w hlx en.toList hall with ⟨hf, hne⟩ | ⟨j, e, hf, hj, hke⟩
  · refine fin (en.push { key := .agg vs.toArray, val := a.eval z, born := cl }) (cl + 1) ?_ ?_ ?_
    · intro e he
      rw [Array.toList_push] at he
      rcases List.mem_append.1 he with he | he
      · exact hent e he
      · simp at he; subst he; exact ⟨hgood', hzv⟩
    · intro v hvg hn
      exact habs v hvg fun e he => hn e (by rw [Array.toList_push]; exact List.mem_append_left _ he)
    · simp [execOp, h, Instr.mapUpdate, run_underlying hM.h, hxv, hkv, hget, hchk, hf, hset]
  · have hej : en[j]? = some e := by simpa using hj
    have hstay := hM.key.stays w hlx
    refine fin (en.modify j fun e => { e with key := .agg vs.toArray, val := a.eval z }) cl ?_ ?_ ?_
    · intro e' he'
      obtain ⟨i, hi⟩ := List.mem_iff_getElem?.1 he'
      rw [Array.getElem?_toList, Array.getElem?_modify] at hi
      split at hi
      · cases hx : en[i]? with
        | none => simp [hx] at hi
        | some e2 => simp [hx] at hi; subst hi; exact ⟨hgood', hzv⟩
      · exact hent e' (List.mem_of_getElem? (by simpa using hi))
    · intro v hvg hn
      refine habs v hvg fun e' he' => ?_
      obtain ⟨i, hi⟩ := List.mem_iff_getElem?.1 he'
      have hi : en[i]? = some e' := by simpa using hi
      by_cases hij : j = i
      · subst hij
        rw [hej] at hi; cases hi
        rw [hke]
        have := hn { e with key := .agg vs.toArray, val := a.eval z } (List.mem_of_getElem? (i := j) (by rw [Array.getElem?_toList, Array.getElem?_modify, if_pos rfl, hej]; rfl))
        exact this
      · exact hn e' (List.mem_of_getElem? (i := i) (by rw [Array.getElem?_toList, Array.getElem?_modify, if_neg hij]; exact hi))
    · simp [execOp, h, Instr.mapUpdate, run_underlying hM.h, hxv, hkv, hget, hchk, hf, hset, hej, hke, hstay]
end
end Go.Eng
