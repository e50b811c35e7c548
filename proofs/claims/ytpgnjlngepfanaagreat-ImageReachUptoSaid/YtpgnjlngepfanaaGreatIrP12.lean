/- Part 12 of the proof: contracts of functions of the program and what they need. No condition beyond those that each theorem names. -/
import Derived.Test.YtpgnjlngepfanaaGreatIrP11
import Derived.RecoverIn
import Derived.RangeFuncNested
set_option linter.unusedVariables false
set_option linter.unusedSimpArgs false
namespace Go.Ev
open Go.Eng
open Go.RowKit (Below)
section
variable {P : Program} {r : Run}
theorem resV_inv {env : Tr CV} : ∀ (rs : List ResultVar) (s : S) (f : List CV → S → Option Ret) {res : Ret}, resV P env rs s f = some res →
  ∃ xs s1, f xs s1 = some res ∧ Ev s s1 ∧ s1.h = s.h ∧ s1.nx = s.nx ∧ ∀ (K : Nat → Prop) (B : Nat) (ρ : Rho) (a : Act) (w : World), MK P K B ρ s.h w → (∀ k, s1.R.testBit k = true → K k) → EnvC ρ env a → ∃ vs, (rs.mapM (resStep a.tmps)).run P w = .ok vs w ∧ CRL ρ xs vs
 | [], s, f, res, h => ⟨[], s, h, Ev.refl s, rfl, rfl, fun K B ρ a w _ _ _ => ⟨[], rfl, .nil⟩⟩
 | .tmp t :: rs, s, f, res, h => by
  unfold resV at h
  split at h
  ·rename_i x hx
   obtain ⟨xs, s1, h1, h2, h3, h4, h5⟩ := resV_inv rs s _ h
   refine ⟨x :: xs, s1, h1, h2, h3, h4, fun K B ρ a w hm hK he => ?_⟩
   obtain ⟨vs, e1, e2⟩ := h5 K B ρ a w hm hK he
   refine ⟨a.tmps.getD t undef :: vs, ?_, .cons _ _ _ _ (he t x hx) e2⟩
   have e0 : (resStep a.tmps (.tmp t)).run P w = .ok (a.tmps.getD t undef) w := rfl
   simp only [List.mapM_cons, Sem.run_bind, e0, e1, Result.andThen_ok, Sem.run_pure]
  ·cases h
 | .cell b t :: rs, s, f, res, h => by
  unfold resV at h
  split at h
  ·rename_i k o n hb ht
   obtain ⟨tt, cs, opn, l, g1, g2, g3⟩ := rdRow_inv h
   obtain ⟨xs, s1, h1, h2, h3, h4, h5⟩ := resV_inv rs (s.read k) _ g3
   refine ⟨.agg l :: xs, s1, h1, (Ev.read s k).trans h2, h3, h4, fun K B ρ a w hm hK he => ?_⟩
   have hk : K k := hK k (h2.R k (read_bit s k))
   obtain ⟨vs, e1, e2⟩ := h5 K B ρ a w hm hK he
   obtain ⟨bb, m, us, q1, _, q3, q4, q5, q6⟩ := hm.cells hk g1 g2
   have hv := he b _ hb
   generalize hu : a.tmps.getD b undef = u at hv
   cases hv with
   | ptr _ _ b' n' hr =>
    rw [q1] at hr; cases hr
    have hl := run_loadVar_agg ht bb o _ w q5 q6
    refine ⟨.agg ((us.toList.drop o).take n).toArray :: vs, ?_, .cons _ _ _ _ (.agg _ _ (by simpa using q4)) e2⟩
    have e0 : (resStep a.tmps (.cell b t)).run P w = .ok (.agg ((us.toList.drop o).take n).toArray) w := by
     simp only [resStep, hu, asAddr, Sem.run_bind, Sem.run_pure, Result.andThen_ok, hl]
    simp only [List.mapM_cons, Sem.run_bind, e0, e1, Result.andThen_ok, Sem.run_pure]
  ·rename_i k o n hb ht
   obtain ⟨tt, cs, opn, l, g1, g2, g3⟩ := rdRow_inv h
   split at g3
   ·rename_i x
    obtain ⟨xs, s1, h1, h2, h3, h4, h5⟩ := resV_inv rs (s.read k) _ g3
    refine ⟨x :: xs, s1, h1, (Ev.read s k).trans h2, h3, h4, fun K B ρ a w hm hK he => ?_⟩
    have hk : K k := hK k (h2.R k (read_bit s k))
    obtain ⟨vs, e1, e2⟩ := h5 K B ρ a w hm hK he
    obtain ⟨bb, m, us, q1, _, q3, q4, q5, q6⟩ := hm.cells hk g1 g2
    have hv := he b _ hb
    generalize hu : a.tmps.getD b undef = u at hv
    cases hv with
    | ptr _ _ b' n' hr =>
     rw [q1] at hr; cases hr
     obtain ⟨v, e3, e4⟩ := q4.get (i := 0) rfl
     have hl := run_loadVar_one ht bb o v w (q6 0 v e3)
     refine ⟨v :: vs, ?_, .cons _ _ _ _ e4 e2⟩
     have e0 : (resStep a.tmps (.cell b t)).run P w = .ok v w := by
      simp only [resStep, hu, asAddr, Sem.run_bind, Sem.run_pure, Result.andThen_ok, hl]
     simp only [List.mapM_cons, Sem.run_bind, e0, e1, Result.andThen_ok, Sem.run_pure]
   ·cases g3
  ·cases h
theorem results_of {fn : Func} {tmps : Array Value} {vs : List Value} {w : World} (h : (fn.results.toList.mapM (resStep tmps)).run P w = .ok vs w) : (results fn tmps).run P w = .ok (if h : vs.length = 1 then vs[0] else .tuple vs.toArray) w := by
 unfold Go.results
 have hr : fn.results = fn.results.toList.toArray := by simp
 rw [hr, List.mapM_toArray]
 simp only [Sem.run_bind, Sem.run_map]
 have key : ∀ g : ResultVar → Sem Value, (∀ r, g r = resStep tmps r) → (fn.results.toList.mapM g).run P w = .ok vs w := fun g hg => by rw [show g = resStep tmps from funext hg]; exact h
 rw [key _ (fun r => by cases r <;> rfl)]
 simp
theorem tup_rel {ρ : Rho} {xs : List CV} {vs : List Value} (h : CRL ρ xs vs) : CR ρ (tupV xs) (if h : vs.length = 1 then vs[0] else .tuple vs.toArray) := by
 cases h with
 | nil => exact .tup _ _ .nil
 | cons x v xs vs hx ht =>
  cases ht with
  | nil => simpa [tupV] using hx
  | cons y u xs vs hy ht => exact .tup _ _ (.cons _ _ _ _ hx (.cons _ _ _ _ hy ht))
theorem resV_ret {env : Tr CV} {fn : Func} {s : S} {res : Ret} (h : resV P env fn.results.toList s (fun l s => some (.ok (tupV l) s)) = some res) : ∃ x s1, res = .ok x s1 ∧ Ev s s1 ∧ ∀ (K : Nat → Prop) (B : Nat) (ρ : Rho) (a : Act) (w : World), Pre P K B ρ s s1 w → EnvC ρ env a → ∃ v, (results fn a.tmps).run P w = .ok v w ∧ Go1 P K B ρ s w ρ s1 w ∧ CR ρ x v := by
 obtain ⟨xs, s1, h1, h2, h3, h4, h5⟩ := resV_inv _ _ _ h
 simp only [Option.some.injEq] at h1
 refine ⟨_, _, h1.symm, h2, fun K B ρ a w hp he => ?_⟩
 obtain ⟨vs, e1, e2⟩ := h5 K B ρ a w hp.mem hp.cov.R he
 exact ⟨_, results_of e1, .same hp.mem h3 h4 rfl (.refl w), tup_rel e2⟩
theorem setArgs_get : ∀ (xs : List CV) (i : Nat) (e e' : Tr CV), setArgs i xs e = some e' → ∀ t, e'.get t = if i ≤ t ∧ t < i + xs.length then xs[t - i]? else e.get t
 | [], i, e, e', h, t => by
  simp only [setArgs, Option.some.injEq] at h; subst h
  rw [if_neg (by intro ⟨a, b⟩; simp only [List.length_nil] at b; omega)]
 | x :: xs, i, e, e', h, t => by
  unfold setArgs at h
  split at h
  ·rename_i e2 h2
   rw [setArgs_get xs (i + 1) e2 e' h t, Tr.get_set _ _ _ _ _ h2]
   by_cases h1 : t = i
   ·subst h1
    rw [if_neg (by omega), if_pos rfl, if_pos (by simp)]; simp
   ·rw [if_neg h1]
    by_cases h3 : i ≤ t ∧ t < i + (x :: xs).length
    ·rw [if_pos h3]
     simp only [List.length_cons] at h3
     rw [if_pos (by omega), show t - i = (t - (i + 1)) + 1 by omega]; simp
    ·rw [if_neg h3]
     simp only [List.length_cons] at h3
     rw [if_neg (by omega)]
  ·cases h
theorem args_envC {ρ : Rho} {xs : List CV} {vs : List Value} {e : Tr CV} {n : Nat} {ds : List Deferred} (h : setArgs 0 xs .nil = some e) (hr : CRL ρ xs vs) (hn : xs.length ≤ n) : EnvC ρ e { tmps := vs.toArray ++ Array.replicate (n - vs.toArray.size) undef, defers := ds } := by
 intro t x hx
 rw [setArgs_get _ _ _ _ h] at hx
 split at hx
 ·rename_i ht
  simp only [Nat.sub_zero] at hx
  obtain ⟨v, h1, h2⟩ := hr.get hx
  have hlt := (List.getElem?_eq_some_iff.1 h1).1
  have : (vs.toArray ++ Array.replicate (n - vs.toArray.size) undef).getD t undef = v := by
   simp only [Array.getD_eq_getD_getElem?]
   rw [Array.getElem?_append_left (by simpa using hlt)]
   simp [h1]
  rw [this]; exact h2
 ·cases hx
theorem setPs_envC {ρ : Rho} {n : Nat} : ∀ (ps : List Nat) (xs : List CV) (vs : List Value) (e e' : Tr CV) (tm : Array Value), setPs n ps xs e = some e' → CRL ρ xs vs → tm.size = n → (∀ t x, e.get t = some x → CR ρ x (tm.getD t undef)) →
  (∀ t x, e'.get t = some x → CR ρ x (((ps.zip vs).foldl (fun tm (p, v) => tm.setIfInBounds p v) tm).getD t undef)) ∧ ((ps.zip vs).foldl (fun tm (p, v) => tm.setIfInBounds p v) tm).size = n ∧ ps.length = vs.length
 | [], xs, vs, e, e', tm, h, hr, hn, he => by
  cases xs with
  | nil =>
   cases hr
   simp only [setPs, Option.some.injEq] at h; subst h
   exact ⟨he, hn, rfl⟩
  | cons x xs => simp [setPs] at h
 | p :: ps, xs, vs, e, e', tm, h, hr, hn, he => by
  cases hr with
  | nil => simp [setPs] at h
  | cons x v xs vs hx ht =>
   unfold setPs at h
   cases hb : Nat.blt p n with
   | false => rw [hb] at h; cases h
   | true =>
    rw [hb, bif_t] at h
    split at h
    ·rename_i e2 h2
     have hp := blt_of hb
     obtain ⟨h3, h4, h5⟩ := setPs_envC ps xs vs e2 e' (tm.setIfInBounds p v) h ht (by simpa using hn) (fun t y hy => by
      rw [Tr.get_set _ _ _ _ _ h2] at hy
      split at hy
      ·rename_i e; subst e; cases hy
       simp [Array.getD, hn, hp]; exact hx
      ·rename_i e
       have := he t y hy
       simp only [Array.getD_eq_getD_getElem?] at this ⊢
       rwa [Array.getElem?_setIfInBounds_ne (Ne.symm e)])
     exact ⟨h3, h4, by simp [h5]⟩
    ·cases h
end
def Calm (r : Result Next) : Prop := (∃ v w, r = .ok (.value v) w) ∨ (∃ w, r = .ok .skip w) ∨ ∃ h w, r = .halt h w
theorem calm_v (P : Program) (s : Sem Value) (w : World) : Calm ((do pure (.value (← s)) : Sem Next).run P w) := by
 simp only [Sem.run_bind]
 cases s.run P w with
 | ok v w' => exact .inl ⟨v, w', rfl⟩
 | halt h w' => exact .inr (.inr ⟨h, w', rfl⟩)
theorem calm_u (P : Program) (s : Sem Unit) (w : World) : Calm ((do s; pure .skip : Sem Next).run P w) := by
 simp only [Sem.run_bind]
 cases s.run P w with
 | ok v w' => exact .inr (.inl ⟨w', rfl⟩)
 | halt h w' => exact .inr (.inr ⟨h, w', rfl⟩)
theorem calm_a (x : Result Value) : Calm (x.andThen fun a w' => Result.ok (Next.value a) w') := by
 cases x with
 | ok v w' => exact .inl ⟨v, w', rfl⟩
 | halt h w' => exact .inr (.inr ⟨h, w', rfl⟩)
section
variable {P : Program} {r : Run} {env : Tr CV} {o : Oper} {s : S} {res : Ret}
theorem opV_calm (h : opV P env o.op s = some res) {ρ : Rho} {a : Act} (he : EnvC ρ env a) (w : World) : Calm ((execOp a.eval o).run P w) := by
 cases hop : o.op <;> rw [hop] at h <;> (try (simp only [opV] at h; cases h; done)) <;> simp only [execOp, hop]
 case move x => exact .inl ⟨_, _, rfl⟩
 case assign x => exact .inl ⟨_, _, rfl⟩
 case pick c x y =>
  simp only [Sem.run_bind]
  cases (asBool (a.eval c)).run P w with
  | ok v w' => exact .inl ⟨_, w', rfl⟩
  | halt h w' => exact .inr (.inr ⟨h, w', rfl⟩)
 case nilCheck x =>
  simp only [opV, o_nilCheck] at h
  split at h
  ·rename_i k o' hx
   have hv := ev_sound he hx
   generalize a.eval x = u at hv ⊢
   cases hv; exact .inl ⟨_, _, rfl⟩
  ·rename_i f c d hx
   have hv := ev_sound he hx
   generalize a.eval x = u at hv ⊢
   cases hv; exact .inl ⟨_, _, rfl⟩
  ·rename_i t v hx
   have hv := ev_sound he hx
   generalize a.eval x = u at hv ⊢
   cases hv; exact .inl ⟨_, _, rfl⟩
  ·rename_i k hx
   have hv := ev_sound he hx
   generalize a.eval x = u at hv ⊢
   cases hv; exact .inl ⟨_, _, rfl⟩
  ·cases h
 case call c =>
  obtain ⟨ce, ar, at_⟩ := c
  simp only [opV, o_call] at h
  split at h <;> first | (cases h; done) | skip
  all_goals
   simp only [resolve, invoke, builtin, Sem.run_bind, Sem.run_pure, Result.andThen_ok]
   exact calm_a _
 all_goals first | exact calm_v P _ w | exact calm_u P _ w
theorem Runs.calm {a : Act} {w : World} {R : Value → World → Prop} (h : Runs P none o a w R (fun _ _ => False)) (hd : ∀ c, o.op ≠ .defer c) (hc : Calm ((execOp a.eval o).run P w)) : ∃ v w', R v w' ∧ ((∃ u, (execOp a.eval o).run P w = .ok (.value u) w' ∧ a.put o.dst u = a.put o.dst v) ∨ ((execOp a.eval o).run P w = .ok .skip w' ∧ a.put o.dst undef = a.put o.dst v)) := by
 have h1 := (h (fun a' w' => ∃ v, a' = a.put o.dst v ∧ R v w') (fun _ _ _ => False) (fun v w' hr => ⟨v, rfl, hr⟩) (fun _ _ h => h)).2
 have hs : o.semAt (FW none).round a.eval = execOp a.eval o := Oper.semAt_none _ _
 rw [hs] at h1
 rcases hc with ⟨v, w', e⟩ | ⟨w', e⟩ | ⟨x, w', e⟩
 ·rw [e] at h1 ⊢
  obtain ⟨v', e1, e2⟩ := h1
  exact ⟨v', w', e2, .inl ⟨v, rfl, e1⟩⟩
 ·rw [e] at h1 ⊢
  obtain ⟨v', e1, e2⟩ := h1
  exact ⟨v', w', e2, .inr ⟨rfl, e1⟩⟩
 ·rw [e] at h1
  cases x <;> exact h1.elim
def ModeOk (ρ : Rho) : Dm → FrameMode → Prop
 | ⟨none, false⟩, u => u = .returning
 | ⟨none, true⟩, _ => False
 | ⟨some x, false⟩, u => ∃ v, u = .panicking [{ v := v, recovered := false }] ∧ CR ρ x v
 | ⟨some x, true⟩, u => ∃ v, u = .panicking [{ v := v, recovered := true }]
theorem ModeOk.le {ρ ρ' : Rho} (hl : Le ρ ρ') : ∀ {m : Dm} {u : FrameMode}, ModeOk ρ m u → ModeOk ρ' m u
 | ⟨none, false⟩, _, h => h
 | ⟨none, true⟩, _, h => h
 | ⟨some x, false⟩, _, ⟨v, h1, h2⟩ => ⟨v, h1, h2.le hl⟩
 | ⟨some x, true⟩, _, h => h
structure ActD (ρ : Rho) (n : Nat) (env : Tr CV) (a : Act) : Prop where
 size : a.tmps.size = n
 ds : a.defers = []
 env : EnvC ρ env a
theorem ActD.put {ρ : Rho} {n : Nat} {env env' : Tr CV} {a : Act} (h : ActD ρ n env a) {dst : Option Nat} {x : CV} {v : Value} (hp : putE n dst x env = some env') (hx : CR ρ x v) : ActD ρ n env' (a.put dst v) :=
 ⟨by rw [tmps_put_size]; exact h.size, by rw [put_defers]; exact h.ds, h.env.put h.size hp hx⟩
theorem ActD.le {ρ ρ' : Rho} {n : Nat} {env : Tr CV} {a : Act} (h : ActD ρ n env a) (hl : Le ρ ρ') : ActD ρ' n env a := ⟨h.size, h.ds, h.env.le hl⟩
def PostD (P : Program) (K : Nat → Prop) (B : Nat) (ρ : Rho) (s : S) (w : World) (ex : Ex) (n : Nat) (env' : Tr CV) (m' : Dm) (s' : S) (e : Exit) (a' : Act) (u' : FrameMode) (w' : World) : Prop :=
 ∃ ρ', Go1 P K B ρ s w ρ' s' w' ∧ ExOk ρ' ex e ∧ ActD ρ' n env' a' ∧ ModeOk ρ' m' u'
theorem PostD.left {K : Nat → Prop} {B : Nat} {ρ ρ1 : Rho} {s s1 s' : S} {w w1 w' : World} {ex : Ex} {n : Nat} {env' : Tr CV} {m' : Dm} {e : Exit} {a' : Act} {u' : FrameMode} (g : Go1 P K B ρ s w ρ1 s1 w1) (e1 : Ev s s1) (e2 : Ev s1 s') (h : PostD P K B ρ1 s1 w1 ex n env' m' s' e a' u' w') : PostD P K B ρ s w ex n env' m' s' e a' u' w' :=
 let ⟨ρ', h1, h2⟩ := h; ⟨ρ', g.trans h1 e1 e2, h2⟩
theorem recover_exec {c : Call} (h : o.op = .call c) (hc : c.callee = .builtin .recover) (a : Act) (w : World) : (execOp a.eval o).run P w = .ok .recover w := by
 obtain ⟨ce, ar, at_⟩ := c
 simp only at hc
 subst hc
 simp [execOp, h, resolve, invoke, builtin]
theorem regR_sound (hl : laidOutB P = true) {n : Nat} {all : List Oper} : ∀ (rest : List Oper) (i : Nat) (env : Tr CV) (m : Dm) (s : S) {env' : Tr CV} {m' : Dm} {s' : S}, (∀ j, rest[j]? = all[i + j]?) → regR P n all rest env m s = some (env', m', s') →
  Ev s s' ∧ ∀ (K : Nat → Prop) (B : Nat) (ρ : Rho) (a : Act) (w : World) (c0 : Frame) (cs : List Frame) (Q : Exit → Act → List Frame → World → Prop), Pre P K B ρ s s' w → ActD ρ n env a → ModeOk ρ m c0.mode →
   (∀ e a' u' w', PostD P K B ρ s w .normal n env' m' s' e a' u' w' → Q e a' ({ c0 with mode := u' } :: cs) w') → wpOpsSIn (FW none) 0 P all.toArray Q (List.range' i rest.length) a (c0 :: cs) w
 | [], i, env, m, s, env', m', s', hr, h => by
  simp only [regR, Option.some.injEq, Prod.mk.injEq] at h
  obtain ⟨rfl, rfl, rfl⟩ := h
  exact ⟨Ev.refl _, fun K B ρ a w c0 cs Q hp ha hm hQ => hQ _ _ c0.mode _ ⟨ρ, Go1.refl hp.mem, rfl, ha, hm⟩⟩
 | o :: rest, i, env, m, s, env', m', s', hr, h => by
  have ho : all.toArray[i]? = some o := by have := hr 0; simpa using this.symm
  have hr' : ∀ j, rest[j]? = all[i + 1 + j]? := fun j => by
   have := hr (j + 1)
   rwa [show i + (j + 1) = i + 1 + j by omega] at this
  have calm : ∀ {res : Ret}, opV P env o.op s = some res → guardV all env o = some true → (∀ c, o.op ≠ .defer c) → ∀ {x : CV} {s1 : S}, res = .ok x s1 → ∀ {env1 : Tr CV}, putE n o.dst x env = some env1 → regR P n all rest env1 m s1 = some (env', m', s') → Ev s s' ∧ ∀ (K : Nat → Prop) (B : Nat) (ρ : Rho) (a : Act) (w : World) (c0 : Frame) (cs : List Frame) (Q : Exit → Act → List Frame → World → Prop), Pre P K B ρ s s' w → ActD ρ n env a → ModeOk ρ m c0.mode →
   (∀ e a' u' w', PostD P K B ρ s w .normal n env' m' s' e a' u' w' → Q e a' ({ c0 with mode := u' } :: cs) w') → wpOpsSIn (FW none) 0 P all.toArray Q (List.range' i (o :: rest).length) a (c0 :: cs) w := by
   intro res hv hg hd x s1 hres env1 hput hh
   subst hres
   have hop := opV_sound hl hv
   obtain ⟨h1, h2⟩ := regR_sound hl rest (i + 1) env1 m s1 hr' hh
   refine ⟨hop.1.trans h1, fun K B ρ a w c0 cs Q hp ha hm hQ => ?_⟩
   rw [List.length_cons, List.range'_succ]
   unfold wpOpsSIn
   simp only [ho]
   refine ⟨fun _ _ => trivial, ?_⟩
   have hw : Region.wanted o (yielded all.toArray a.tmps) = true := guard_sound hg ha.env
   simp only [hw, if_true]
   obtain ⟨v, w1, ⟨ρ1, g, hx⟩, hcase⟩ := Runs.calm (hop.2 K B ρ none a w (hp.left h1) ha.env) hd (opV_calm hv ha.env w)
   have next := h2 K B ρ1 (a.put o.dst v) w1 c0 cs Q (hp.right hop.1 g) ((ha.le g.ext).put hput hx) (hm.le g.ext) fun e a' u' w' hpost => hQ e a' u' w' (hpost.left g hop.1 h1)
   rcases hcase with ⟨u, e1, e2⟩ | ⟨e1, e2⟩
   ·simp only [e1]
    rw [e2]; exact next
   ·simp only [e1]
    rw [e2]; exact next
  unfold regR at h
  split at h
  ·cases h
  ·rename_i hg
   split at h
   ·rename_i env1 hput
    obtain ⟨h1, h2⟩ := regR_sound hl rest (i + 1) env1 m s hr' h
    refine ⟨h1, fun K B ρ a w c0 cs Q hp ha hm hQ => ?_⟩
    rw [List.length_cons, List.range'_succ]
    unfold wpOpsSIn
    simp only [ho]
    refine ⟨fun _ _ => trivial, ?_⟩
    have hw : Region.wanted o (yielded all.toArray a.tmps) = false := guard_sound hg ha.env
    simp only [hw, Bool.false_eq_true, if_false]
    exact h2 K B ρ _ w c0 cs Q hp (ha.put hput (.tup _ _ .nil)) hm hQ
   ·cases h
  ·rename_i hg
   split at h
   ·rename_i c hop
    split at h
    ·rename_i hc
     split at h
     ·rename_i x
      split at h
      ·rename_i env1 hput
       obtain ⟨h1, h2⟩ := regR_sound hl rest (i + 1) env1 _ s hr' h
       refine ⟨h1, fun K B ρ a w c0 cs Q hp ha hm hQ => ?_⟩
       rw [List.length_cons, List.range'_succ]
       unfold wpOpsSIn
       simp only [ho]
       refine ⟨fun _ _ => trivial, ?_⟩
       have hw : Region.wanted o (yielded all.toArray a.tmps) = true := guard_sound hg ha.env
       simp only [hw, if_true, recover_exec hop hc a w]
       obtain ⟨v, hm1, hx⟩ := hm
       simp only [recoverD, hm1]
       exact h2 K B ρ _ w { c0 with mode := .panicking [{ v := v, recovered := true }] } cs Q hp (ha.put hput hx) ⟨v, rfl⟩ hQ
      ·cases h
     ·rename_i hne
      split at h
      ·rename_i env1 hput
       obtain ⟨h1, h2⟩ := regR_sound hl rest (i + 1) env1 _ s hr' h
       refine ⟨h1, fun K B ρ a w c0 cs Q hp ha hm hQ => ?_⟩
       rw [List.length_cons, List.range'_succ]
       unfold wpOpsSIn
       simp only [ho]
       refine ⟨fun _ _ => trivial, ?_⟩
       have hw : Region.wanted o (yielded all.toArray a.tmps) = true := guard_sound hg ha.env
       have hrec : recoverD (c0 :: cs) = none := by
        obtain ⟨p, b⟩ := m
        cases p with
        | none => cases b with
         | false => have hm : c0.mode = .returning := hm; simp [recoverD, hm]
         | true => exact hm.elim
        | some x => cases b with
         | false => exact absurd rfl (hne x)
         | true => obtain ⟨v, hm⟩ := hm; simp [recoverD, hm]
       simp only [hw, if_true, recover_exec hop hc a w, hrec]
       exact h2 K B ρ _ w c0 cs Q hp (ha.put hput (.val _)) hm hQ
      ·cases h
    ·split at h
     ·rename_i x s1 hv
      split at h
      ·rename_i env1 hput
       exact calm hv hg (by simp [hop]) rfl hput h
      ·cases h
     ·cases h
   ·split at h
    ·rename_i x s1 hv
     split at h
     ·rename_i env1 hput
      refine calm hv hg (fun c hd => ?_) rfl hput h
      rw [hd] at hv
      simp [opV] at hv
     ·cases h
    ·cases h
theorem codeD_sound (hl : laidOutB P = true) (R : RunOk P r) {n : Nat} : ∀ (c : Code) (env : Tr CV) (m : Dm) (s : S) {ex : Ex} {env' : Tr CV} {m' : Dm} {s' : S}, codeD P r n c env m s = some (ex, env', m', s') →
  Ev s s' ∧ ∀ (K : Nat → Prop) (B : Nat) (ρ : Rho) (a : Act) (w : World) (c0 : Frame) (cs : List Frame) (Q : Exit → Act → List Frame → World → Prop), Pre P K B ρ s s' w → ActD ρ n env a → ModeOk ρ m c0.mode →
   (∀ e a' u' w', PostD P K B ρ s w ex n env' m' s' e a' u' w' → Q e a' ({ c0 with mode := u' } :: cs) w') → c.wpSIn (FW none) 0 P Q a (c0 :: cs) w := by
 have plain : ∀ (c : Code) (env : Tr CV) (m : Dm) (s : S) {ex : Ex} {env' : Tr CV} {m' : Dm} {s' : S}, (match r.code c ⟨n, env, [], none⟩ s with
   | some (ex, ⟨_, env', [], _⟩, s') => some (ex, env', m, s')
   | _ => none) = some (ex, env', m', s') → Ev s s' ∧ ∀ (K : Nat → Prop) (B : Nat) (ρ : Rho) (a : Act) (w : World) (c0 : Frame) (cs : List Frame) (Q : Exit → Act → List Frame → World → Prop), Pre P K B ρ s s' w → ActD ρ n env a → ModeOk ρ m c0.mode →
   (∀ e a' u' w', PostD P K B ρ s w ex n env' m' s' e a' u' w' → Q e a' ({ c0 with mode := u' } :: cs) w') → c.wpSIn (FW none) 0 P Q a (c0 :: cs) w := by
  intro c env m s ex env' m' s' h
  split at h
  ·rename_i ex1 n1 env1 rd1 s1 hc
   simp only [Option.some.injEq, Prod.mk.injEq] at h
   obtain ⟨rfl, rfl, rfl, rfl⟩ := h
   obtain ⟨h1, h2, h3, h4⟩ := R.code _ _ _ _ _ _ hc
   simp only at h2 h3
   subst h2
   refine ⟨h1, fun K B ρ a w c0 cs Q hp ha hm hQ => wpSIn_of_wpIn rfl (wpL_wp ?_)⟩
   refine h4 K B ρ none a w _ hp ⟨ha.size, ha.env, by rw [ha.ds]; exact .nil, rfl⟩ fun e a' w' ⟨ρ', g, hex, hfr⟩ => ?_
   refine hQ e a' c0.mode w' ⟨ρ', g, hex, ⟨hfr.size, ?_, hfr.env⟩, hm.le g.ext⟩
   have hds := hfr.ds
   cases hh : a'.defers with
   | nil => rfl
   | cons d ds => rw [hh] at hds; cases hds
  ·cases h
 intro c
 induction c with
 | seq x y ihx ihy =>
  intro env m s ex env' m' s' h
  unfold codeD at h
  split at h
  ·rename_i env1 m1 s1 hx
   obtain ⟨h1, h2⟩ := ihx env m s hx
   obtain ⟨h3, h4⟩ := ihy env1 m1 s1 h
   refine ⟨h1.trans h3, fun K B ρ a w c0 cs Q hp ha hm hQ => wpSIn_seq (h2 K B ρ a w c0 cs _ (hp.left h3) ha hm ?_)⟩
   rintro e a' u' w' ⟨ρ', g, hex, ha', hm'⟩
   cases hex
   exact h4 K B ρ' a' w' { c0 with mode := u' } cs Q (hp.right h1 g) ha' hm' fun e a' u' w' hpost => hQ e a' u' w' (hpost.left g h1 h3)
  ·rename_i hne
   obtain ⟨h1, h2⟩ := ihx env m s h
   refine ⟨h1, fun K B ρ a w c0 cs Q hp ha hm hQ => wpSIn_seq (h2 K B ρ a w c0 cs _ hp ha hm ?_)⟩
   intro e a' u' w' hpost
   have h3 := hQ e a' u' w' hpost
   obtain ⟨ρ', g, hex, ha', hm'⟩ := hpost
   cases ex with
   | normal => exact absurd h (hne _ _ _)
   | exit id => cases hex; exact h3
   | ret => cases hex; exact h3
   | pan x => obtain ⟨v, rfl, _⟩ := hex; exact h3
 | cond t x y ihx ihy =>
  intro env m s ex env' m' s' h
  unfold codeD at h
  split at h
  ·rename_i hv
   obtain ⟨h1, h2⟩ := ihx env m s h
   exact ⟨h1, fun K B ρ a w c0 cs Q hp ha hm hQ => wpSIn_cond (t := true) (ev_sound ha.env hv).val_eq (h2 K B ρ a w c0 cs Q hp ha hm hQ)⟩
  ·rename_i hv
   obtain ⟨h1, h2⟩ := ihy env m s h
   exact ⟨h1, fun K B ρ a w c0 cs Q hp ha hm hQ => wpSIn_cond (t := false) (ev_sound ha.env hv).val_eq (h2 K B ρ a w c0 cs Q hp ha hm hQ)⟩
  ·cases h
 | region id ops any =>
  intro env m s ex env' m' s' h
  cases any with
  | true => exact plain _ _ _ _ h
  | false =>
   unfold codeD at h
   cases hb : hasRec ops.toList with
   | false => rw [hb] at h; exact plain _ _ _ _ h
   | true =>
    rw [hb, bif_t] at h
    split at h
    ·rename_i env1 m1 s1 hreg
     simp only [Option.some.injEq, Prod.mk.injEq] at h
     obtain ⟨rfl, rfl, rfl, rfl⟩ := h
     obtain ⟨h1, h2⟩ := regR_sound hl ops.toList 0 env m s (by simp) hreg
     refine ⟨h1, fun K B ρ a w c0 cs Q hp ha hm hQ => wpSIn_region ?_⟩
     have := h2 K B ρ a w c0 cs Q hp ha hm hQ
     rwa [Array.toArray_toList, Array.length_toList, ← List.range_eq_range'] at this
    ·cases h
 | _ => intro env m s ex env' m' s' h; exact plain _ _ _ _ h
end
section
variable {P : Program} {r : Run} {n : Nat}
theorem regR_p {all : List Oper} : ∀ (rest : List Oper) (env : Tr CV) (m : Dm) (s : S) {env' : Tr CV} {m' : Dm} {s' : S}, regR P n all rest env m s = some (env', m', s') → m'.p = m.p
 | [], env, m, s, env', m', s', h => by
  simp only [regR, Option.some.injEq, Prod.mk.injEq] at h
  obtain ⟨rfl, rfl, rfl⟩ := h; rfl
 | o :: rest, env, m, s, env', m', s', h => by
  unfold regR at h
  split at h
  ·cases h
  ·split at h
   ·exact regR_p rest _ _ _ h
   ·cases h
  ·split at h
   ·split at h
    ·split at h
     ·split at h
      ·have := regR_p rest _ _ _ h; exact this
      ·cases h
     ·split at h
      ·exact regR_p rest _ _ _ h
      ·cases h
    ·split at h
     ·split at h
      ·exact regR_p rest _ _ _ h
      ·cases h
     ·cases h
   ·split at h
    ·split at h
     ·exact regR_p rest _ _ _ h
     ·cases h
    ·cases h
theorem codeD_p : ∀ (c : Code) (env : Tr CV) (m : Dm) (s : S) {ex : Ex} {env' : Tr CV} {m' : Dm} {s' : S}, codeD P r n c env m s = some (ex, env', m', s') → m'.p = m.p := by
 have plain : ∀ (c : Code) (env : Tr CV) (m : Dm) (s : S) {ex : Ex} {env' : Tr CV} {m' : Dm} {s' : S}, (match r.code c ⟨n, env, [], none⟩ s with
   | some (ex, ⟨_, env', [], _⟩, s') => some (ex, env', m, s')
   | _ => none) = some (ex, env', m', s') → m'.p = m.p := by
  intro c env m s ex env' m' s' h
  split at h
  ·simp only [Option.some.injEq, Prod.mk.injEq] at h
   obtain ⟨rfl, rfl, rfl, rfl⟩ := h; rfl
  ·cases h
 intro c
 induction c with
 | seq x y ihx ihy =>
  intro env m s ex env' m' s' h
  unfold codeD at h
  split at h
  ·rename_i env1 m1 s1 hx
   exact (ihy _ _ _ h).trans (ihx _ _ _ hx)
  ·exact ihx _ _ _ h
 | cond t x y ihx ihy =>
  intro env m s ex env' m' s' h
  unfold codeD at h
  split at h
  ·exact ihx _ _ _ h
  ·exact ihy _ _ _ h
  ·cases h
 | region id ops any =>
  intro env m s ex env' m' s' h
  cases any with
  | true => exact plain _ _ _ _ h
  | false =>
   unfold codeD at h
   cases hb : hasRec ops.toList with
   | false => rw [hb] at h; exact plain _ _ _ _ h
   | true =>
    rw [hb, bif_t] at h
    split at h
    ·rename_i env1 m1 s1 hreg
     simp only [Option.some.injEq, Prod.mk.injEq] at h
     obtain ⟨rfl, rfl, rfl, rfl⟩ := h
     exact regR_p _ _ _ _ hreg
    ·cases h
 | _ => intro env m s ex env' m' s' h; exact plain _ _ _ _ h
theorem fnOk_of {f : FuncId} {fn : Func} {code : Code} {args : List CV} {α : Type} {x : Option α} {y : α} (h : (bif fnOk P f && Nat.ble (len args) fn.ntmps then x else none) = some y) : fnOk P f = true ∧ args.length ≤ fn.ntmps ∧ x = some y := by
 cases hb : (fnOk P f && Nat.ble (len args) fn.ntmps) with
 | false => rw [hb] at h; cases h
 | true =>
  rw [hb, bif_t] at h
  obtain ⟨h1, h2⟩ := (Bool.and_eq_true _ _).mp hb
  exact ⟨h1, by rw [← len_eq]; exact Nat.le_of_ble_eq_true h2, h⟩
theorem callD_sound (hl : laidOutB P = true) (R : RunOk P r) {f : FuncId} {args : List CV} {p : Option CV} {s s' : S} {back : Bool} (h : callD P r f args p s = some (back, s')) :
  Ev s s' ∧ fnOk P f = true ∧ ∀ (K : Nat → Prop) (B : Nat) (ρ : Rho) (vs : List Value) (w : World) (u : FrameMode) (Q : Ending → FrameMode → World → Prop), Pre P K B ρ s s' w → CRL ρ args vs → ModeOk ρ ⟨p, false⟩ u →
   (∀ v u' w' ρ', Go1 P K B ρ s w ρ' s' w' → ModeOk ρ' ⟨p, back⟩ u' → Q (.returned v) u' w') → CallsDIn (FW none) 0 P f vs.toArray u w Q := by
 unfold callD at h
 split at h
 ·cases h
 ·rename_i fn hf
  split at h
  ·rename_i code env hb hargs
   obtain ⟨hok, hlen, h⟩ := fnOk_of (args := args) (code := code) h
   have key : ∀ {ex : Ex} {env' : Tr CV} {m : Dm} {s1 : S}, codeD P r fn.ntmps code env ⟨p, false⟩ s = some (ex, env', m, s1) → (ex = .normal ∨ ex = .ret) → (match resV P env' fn.results.toList s1 fun l s => some (.ok (tupV l) s) with
    | some (.ok _ s') => some (m.back, s')
    | _ => none) = some (back, s') → Ev s s' ∧ fnOk P f = true ∧ ∀ (K : Nat → Prop) (B : Nat) (ρ : Rho) (vs : List Value) (w : World) (u : FrameMode) (Q : Ending → FrameMode → World → Prop), Pre P K B ρ s s' w → CRL ρ args vs → ModeOk ρ ⟨p, false⟩ u →
   (∀ v u' w' ρ', Go1 P K B ρ s w ρ' s' w' → ModeOk ρ' ⟨p, back⟩ u' → Q (.returned v) u' w') → CallsDIn (FW none) 0 P f vs.toArray u w Q := by
    intro ex env' m s1 hcode hex hres
    obtain ⟨h1, h2⟩ := codeD_sound hl R code env ⟨p, false⟩ s hcode
    have hmp := codeD_p code env ⟨p, false⟩ s hcode
    split at hres
    ·rename_i x s2 hr
     simp only [Option.some.injEq, Prod.mk.injEq] at hres
     obtain ⟨rfl, rfl⟩ := hres
     obtain ⟨x', s3, e1, e2, e3⟩ := resV_ret hr
     cases e1
     refine ⟨h1.trans e2, hok, fun K B ρ vs w u Q hp hvs hm hQ => ?_⟩
     refine callsDIn_of_wpSIn hf hb trivial fun c0 cs hc0 => ?_
     refine h2 K B ρ _ w c0 cs _ (hp.left e2) ⟨?_, rfl, args_envC hargs hvs hlen⟩ (by rw [hc0]; exact hm) ?_
     ·have := hvs.length
      simp; omega
     ·rintro e a' u' w' ⟨ρ', g, hexo, ha', hm'⟩
      obtain ⟨v, q1, q2, q3⟩ := e3 K B ρ' a' w' (hp.right h1 g) ha'.env
      have hmm : ModeOk ρ' ⟨p, m.back⟩ u' := by
       have : m = ⟨p, m.back⟩ := by obtain ⟨mp, mb⟩ := m; simp only at hmp; subst hmp; rfl
       rwa [this] at hm'
      have hfin := hQ v u' w' ρ' (g.trans q2 h1 e2) hmm
      rcases hex with rfl | rfl
      ·cases hexo
       exact ⟨ha'.ds, u', rfl, v, q1, hfin⟩
      ·cases hexo
       exact ⟨ha'.ds, u', rfl, v, q1, hfin⟩
    ·cases hres
   split at h
   ·rename_i env' m s1 hcode
    exact key hcode (.inl rfl) h
   ·rename_i env' m s1 hcode
    exact key hcode (.inr rfl) h
   ·cases h
  ·cases h
def OutOk (ρ : Rho) : Option CV → FrameMode → Prop
 | none, u => u = .returning
 | some x, u => ∃ v, u = .panicking [{ v := v, recovered := false }] ∧ CR ρ x v
theorem OutOk.mode {ρ : Rho} : ∀ {p : Option CV} {u : FrameMode}, OutOk ρ p u → ModeOk ρ ⟨p, false⟩ u
 | none, _, h => h
 | some _, _, h => h
theorem OutOk.run {ρ : Rho} : ∀ {p : Option CV} {u : FrameMode}, OutOk ρ p u → u ≠ .run
 | none, _, h => by rw [h]; simp
 | some _, _, ⟨v, h, _⟩ => by rw [h]; simp
theorem OutOk.le {ρ ρ' : Rho} (hl : Le ρ ρ') : ∀ {p : Option CV} {u : FrameMode}, OutOk ρ p u → OutOk ρ' p u
 | none, _, h => h
 | some _, _, ⟨v, h, h2⟩ => ⟨v, h, h2.le hl⟩
theorem leave_sound (hl : laidOutB P = true) (R : RunOk P r) {fn : Func} {env : Tr CV} : ∀ (ds : List SD) (p : Option CV) (s : S) {res : Ret}, leave P r fn env ds p s = some res →
  Ev s res.s ∧ ∀ (K : Nat → Prop) (B : Nat) (ρ : Rho) (a : Act) (w : World) (ds' : List Deferred) (u : FrameMode) (Q : Ending → World → Prop), Pre P K B ρ s res.s w → F2 (DOk ρ) ds ds' → EnvC ρ env a → OutOk ρ p u →
   (∀ e w', RetR P K B ρ s w res e w' → Q e w') → LeavesInM (FW none) 0 P fn a.tmps Q ds' u w
 | [], none, s, res, h => by
  unfold leave at h
  obtain ⟨x, s1, rfl, h2, h3⟩ := resV_ret h
  refine ⟨h2, fun K B ρ a w ds' u Q hp hds he hu hQ => ?_⟩
  cases hds
  obtain rfl : u = .returning := hu
  obtain ⟨v, q1, q2, q3⟩ := h3 K B ρ a w hp he
  exact ⟨v, q1, hQ _ _ ⟨ρ, v, rfl, q2, q3⟩⟩
 | [], some x, s, res, h => by
  unfold leave at h
  cases h
  refine ⟨Ev.refl _, fun K B ρ a w ds' u Q hp hds he hu hQ => ?_⟩
  cases hds
  obtain ⟨v, rfl, hx⟩ := hu
  exact hQ _ _ ⟨ρ, v, rfl, Go1.refl hp.mem, hx⟩
 | .mark k :: ds, p, s, res, h => by
  unfold leave at h
  obtain ⟨ob, g1, h⟩ := rd_inv h
  cases ob with
  | dfr =>
   simp only at h
   obtain ⟨o0, h', g2, g3, h⟩ := wr_inv h
   obtain ⟨h1, h2⟩ := leave_sound hl R ds p _ h
   have e1 : Ev s (s.read k) := Ev.read s k
   have e2 : Ev (s.read k) ((s.read k).write k h') := Ev.write g2 g3
   refine ⟨(e1.trans e2).trans h1, fun K B ρ a w ds' u Q hp hds he hu hQ => ?_⟩
   cases hds with
   | cons hd ht =>
    obtain ⟨b, m, q1, rfl⟩ := hd
    have hK : K k := hp.cov.W k (h1.W k (write_bit _ _ _))
    obtain ⟨b', m', ob, q2, q3, q4, q5⟩ := hp.mem.obj k _ hK g1
    rw [q1] at q2; cases q2
    obtain rfl : ob = .deferred (some []) := q5
    have hlt : b < w.heap.size := (Array.getElem?_eq_some_iff.1 q4).1
    have gg : Go1 P K B ρ s w ρ ((s.read k).write k h') (w.putObj b (.deferred none)) :=
     (Go1.read hp.mem k).trans (Go1.set (s := s.read k) (o0 := o0) (o' := .gone) (ob := .deferred (some [])) (ob' := .deferred none) hp.mem hK g2 g3 q1 q4 (World.putObj_heap_same hlt) (by simp [World.putObj]) (fun j hj => World.putObj_heap_other hj) ⟨rfl, rfl, rfl⟩ rfl) e1 e2
    refine ⟨hu.run, .inl ⟨b, _, rfl, run_takeDeferred q4, ?_⟩⟩
    refine h2 K B ρ a _ _ u Q (hp.right (e1.trans e2) gg) ht he hu fun e w' hr => hQ e w' (hr.left gg (e1.trans e2) h1)
  | _ => cases h
 | .call f args caps :: ds, p, s, res, h => by
  unfold leave at h
  split at h
  ·cases h
  ·rename_i l hcat
   have hcat := cat_eq hcat
   have run : ∀ {back : Bool} {s1 : S} {p' : Option CV}, callD P r f l p s = some (back, s1) → (p' = if back then none else p) → leave P r fn env ds p' s1 = some res → Ev s res.s ∧ ∀ (K : Nat → Prop) (B : Nat) (ρ : Rho) (a : Act) (w : World) (ds' : List Deferred) (u : FrameMode) (Q : Ending → World → Prop), Pre P K B ρ s res.s w → F2 (DOk ρ) (.call f args caps :: ds) ds' → EnvC ρ env a → OutOk ρ p u →
   (∀ e w', RetR P K B ρ s w res e w' → Q e w') → LeavesInM (FW none) 0 P fn a.tmps Q ds' u w := by
    intro back s1 p' hc hp' hlv
    obtain ⟨h1, hok, h2⟩ := callD_sound hl R hc
    obtain ⟨h3, h4⟩ := leave_sound hl R ds p' s1 hlv
    refine ⟨h1.trans h3, fun K B ρ a w ds' u Q hp hds he hu hQ => ?_⟩
    cases hds with
    | @cons _ _ _ dsr hd ht =>
     obtain ⟨vs, vc, q1, q2, rfl⟩ := hd
     have eargs : (vs ++ vc.toList).toArray = vs.toArray ++ vc := by apply Array.ext'; simp
     refine ⟨hu.run, .inr ⟨by simp [FW], .func f, vc, f, vs.toArray ++ vc, rfl, by simp [invoke, run_callFunc hok], fun _ _ => trivial, ?_⟩⟩
     have hcall := h2 K B ρ (vs ++ vc.toList) w u (fun
      | .returned _, u', w' => LeavesInM (FW none) 0 P fn a.tmps Q dsr (settle u') w'
      | .panicked chain, u', w' => LeavesInM (FW none) 0 P fn a.tmps Q dsr (raised u' chain) w'
      | .outgrown, _, w' => Q .outgrown w') (hp.left h3) (by rw [hcat]; exact q1.append q2) hu.mode ?_
     ·rw [eargs] at hcall
      exact hcall
     ·intro v u' w' ρ' g hm
      refine h4 K B ρ' a w' _ (settle u') Q (hp.right h1 g) (ht.imp fun _ _ => DOk.le g.ext) (he.le g.ext) ?_ fun e w'' hr => hQ e w'' (hr.left g h1 h3)
      subst hp'
      cases back with
      | true =>
       cases p with
       | none => exact hm.elim
       | some x => obtain ⟨v', rfl⟩ := hm; rfl
      | false =>
       cases p with
       | none => have hm : u' = .returning := hm; subst hm; rfl
       | some x => obtain ⟨v', rfl, hx⟩ := hm; exact ⟨v', rfl, hx⟩
   split at h
   ·rename_i s1 hc; exact run hc rfl h
   ·rename_i s1 hc; exact run hc rfl h
   ·cases h
theorem callN_sound (hl : laidOutB P = true) (R : RunOk P r) {f : FuncId} {args : List CV} {s : S} {res : Ret} (h : callN P r f args s = some res) : CallS P f args s res := by
 unfold callN at h
 split at h
 ·cases h
 ·rename_i fn hf
  split at h
  ·rename_i code env hb hargs
   obtain ⟨hok, hlen, h⟩ := fnOk_of (args := args) (code := code) h
   have key : ∀ {ex : Ex} {n' : Nat} {env' : Tr CV} {ds : List SD} {rd' : Option Nat} {s1 : S} {p : Option CV}, r.code code ⟨fn.ntmps, env, [], none⟩ s = some (ex, ⟨n', env', ds, rd'⟩, s1) → (p = none ∧ (ex = .normal ∨ ex = .ret) ∨ ∃ x, p = some x ∧ ex = .pan x) → leave P r fn env' ds p s1 = some res → CallS P f args s res := by
    intro ex n' env' ds rd' s1 p hcode hex hlv
    obtain ⟨h1, _, _, h2⟩ := R.code _ _ _ _ _ _ hcode
    obtain ⟨h3, h4⟩ := leave_sound hl R ds p s1 hlv
    refine ⟨h1.trans h3, hok, fun K B ρ vs w hp hvs => calls_of_FW (n := 0) (callsIn_of_wp_marks hf hb trivial (wpL_wp ?_) rfl)⟩
    refine h2 K B ρ none _ w _ (hp.left h3) ⟨?_, args_envC hargs hvs hlen, .nil, rfl⟩ ?_
    ·have := hvs.length
     simp; omega
    ·rintro e a' w' ⟨ρ', g, hexo, hfr⟩
     have fin : ∀ u, OutOk ρ' p u → LeavesInM (FW none) 0 P fn a'.tmps (RetR P K B ρ s w res) a'.defers u w' := fun u hu =>
      h4 K B ρ' a' w' a'.defers u _ (hp.right h1 g) hfr.ds hfr.env hu fun e w'' hr => hr.left g h1 h3
     rcases hex with ⟨rfl, rfl | rfl⟩ | ⟨x, rfl, rfl⟩
     ·cases hexo; exact fin _ rfl
     ·cases hexo; exact fin _ rfl
     ·obtain ⟨v, rfl, hx⟩ := hexo
      exact fin _ ⟨v, rfl, hx⟩
   split at h
   ·rename_i hcode; exact key hcode (.inl ⟨rfl, .inl rfl⟩) h
   ·rename_i hcode; exact key hcode (.inl ⟨rfl, .inr rfl⟩) h
   ·rename_i x _ _ _ _ _ hcode; exact key hcode (.inr ⟨x, rfl, rfl⟩) h
   ·cases h
  ·cases h
end
section
variable {P : Program} {r : Run}
theorem MK.loop {K : Nat → Prop} {B : Nat} {ρ : Rho} {s : S} {w : World} (hm : MK P K B ρ s.h w) {k : Nat} {st : LoopState} {pd : Option Code} {env : Tr CV} {n : Nat} {ps : List Nat} {as bo : Code} {d : Nat} (hK : K k) (h0 : s.h.get k = some (.loop st pd env n ps as bo d)) {b m : Nat} (hρ : ρ k = some (b, m)) :
  ∃ lp : Loop, w.heap[b]? = some (.loop lp) ∧ lp.state = st ∧ lp.pending = pd ∧ lp.params = ps.toArray ∧ lp.assign = as ∧ lp.body = bo ∧ lp.tmps.size = n ∧ (∀ t x, env.get t = some x → CR ρ x (lp.tmps.getD t undef)) ∧ ∃ n', ρ d = some (lp.defers, n') := by
 obtain ⟨b', m', ob, h1, h2, h3, h4⟩ := hm.obj k _ hK h0
 rw [hρ] at h1; cases h1
 obtain ⟨lp, rfl, h5⟩ := h4
 exact ⟨lp, h3, h5⟩
theorem Go1.loopSt {K : Nat → Prop} {B : Nat} {ρ : Rho} {s : S} {w : World} (hm : MK P K B ρ s.h w) {k : Nat} {st st' : LoopState} {pd pd' : Option Code} {env : Tr CV} {n : Nat} {ps : List Nat} {as bo : Code} {d : Nat} {h' : Tr CO} (hK : K k) (h0 : s.h.get k = some (.loop st pd env n ps as bo d))
  (hs : Tr.set 24 s.h k (some (.loop st' pd' env n ps as bo d)) = some h') {b m : Nat} (hρ : ρ k = some (b, m)) {lp : Loop} (hb : w.heap[b]? = some (.loop lp)) : Go1 P K B ρ s w ρ (s.write k h') (w.putObj b (.loop { lp with state := st', pending := pd' })) := by
 obtain ⟨lp', h1, _, _, h2, h3, h4, h5, h6, h7⟩ := hm.loop hK h0 hρ
 rw [hb] at h1; cases h1
 have hlt : b < w.heap.size := (Array.getElem?_eq_some_iff.1 hb).1
 exact Go1.set hm hK h0 hs hρ hb (World.putObj_heap_same hlt) (by simp [World.putObj]) (fun j hj => World.putObj_heap_other hj) ⟨rfl, rfl, rfl⟩ ⟨_, rfl, rfl, rfl, h2, h3, h4, h5, h6, h7⟩
theorem zip_fold (ps : List Nat) (vs : List Value) (tm : Array Value) : (ps.toArray.zip vs.toArray).foldl (fun tmps (t, a) => tmps.setIfInBounds t a) tm = (ps.zip vs).foldl (fun tm (p, v) => tm.setIfInBounds p v) tm := by
 rw [List.zip_toArray, List.foldl_toArray]
theorem roundN_sound (hl : laidOutB P = true) (R : RunOk P r) {k : Nat} {args : List CV} {s : S} {res : Ret} (h : roundN P r k args s = some res) : RoundS P k args s res := by
 unfold roundN at h
 obtain ⟨ob, g1, h⟩ := rd_inv h
 split at h
 ·rename_i st pd env n ps assign body d
  split at h
  ·cases h
  ·rename_i env1 hps
   split at h
   ·rename_i n' env2 rd2 s1 hassign
    obtain ⟨evA, nA, rA, runA⟩ := R.code _ _ _ _ _ _ hassign
    obtain ⟨ob2, g2, h⟩ := rd_inv h
    split at h
    ·rename_i pd2 env' n2 ps' as' bo' d'
     obtain ⟨o2, h2, g3, g4, h⟩ := wr_inv h
     have e0 : Ev s (s.read k) := Ev.read s k
     have e1 : Ev s1 (s1.read k) := Ev.read s1 k
     have e2 : Ev (s1.read k) ((s1.read k).write k h2) := Ev.write g3 g4
     have eA := (e0.trans evA).trans (e1.trans e2)
     have key : ∀ {ex : Ex} {fr3 : Fr} {s3 : S} {jp : Option Code} {res : Ret}, r.code body ⟨n, env2, [], some k⟩ ((s1.read k).write k h2) = some (ex, fr3, s3) → (ex = .normal ∧ jp = none ∨ ex = .ret ∧ jp = some .ret ∨ ∃ id, ex = .exit id ∧ jp = some (.exit id)) →
       (rd s3 k fun ob s => match ob with
        | .loop _ _ env' n' ps' as' bo' d' => wr s k (some (.loop (if jp.isNone then .ready else .done) jp env' n' ps' as' bo' d')) fun s => some (.ok (.val (.bool jp.isNone)) s)
        | _ => none) = some res → RoundS P k args s res := by
      intro ex fr3 s3 jp res hbody hex h
      obtain ⟨evB, nB, rB, runB⟩ := R.code _ _ _ _ _ _ hbody
      obtain ⟨ob3, g5, h⟩ := rd_inv h
      split at h
      ·rename_i st3 pd3 env3 n3 ps3 as3 bo3 d3
       obtain ⟨o3, h3, g6, g7, h⟩ := wr_inv h
       simp only [Option.some.injEq] at h
       subst h
       have e3 : Ev s3 (s3.read k) := Ev.read s3 k
       have e4 : Ev (s3.read k) ((s3.read k).write k h3) := Ev.write g6 g7
       have eB := e3.trans e4
       refine ⟨eA.trans (evB.trans eB), fun K B ρ vs w b m hp hρ hvs => ?_⟩
       have hK : K k := hp.cov.W k (write_bit _ _ _)
       obtain ⟨lp, hb, q1, q2, q3, q4, q5, q6, q7, q8⟩ := hp.mem.loop hK g1 hρ
       obtain ⟨f1, f2, f3⟩ := setPs_envC ps args vs env env1 lp.tmps hps hvs q6 q7
       have hy := run_yield (P := P) (args := vs.toArray) hb (by rw [q3]; simp [f3])
       rw [q3, zip_fold] at hy
       refine ⟨_, _, _, _, hy, roundIn_of_wpIn (F := FW none) (n := 0) trivial ?_⟩
       have p0 : Pre P K B ρ (s.read k) s1 w := (hp.right e0 (Go1.read hp.mem k)).left ((e1.trans e2).trans (evB.trans eB))
       rw [q4, q5]
       refine wpL_wp (F := FW (some b)) (runA K B ρ (some b) _ w _ p0 ⟨f2, f1, .nil, ⟨b, m, hρ, rfl⟩⟩ ?_)
       rintro e a1 w1 ⟨ρ1, gA, hexA, frA⟩
       cases hexA
       have gA' : Go1 P K B ρ s w ρ1 s1 w1 := (Go1.read hp.mem k).trans gA e0 evA
       have hρ1 : ρ1 k = some (b, m) := gA.ext _ _ hρ
       obtain ⟨lp1, hb1, r1, r2, r3, r4, r5, r6, r7, r8⟩ := MK.loop (s := s1) gA.mem hK g2 hρ1
       have gW : Go1 P K B ρ1 s1 w1 ρ1 ((s1.read k).write k h2) (w1.putObj b (.loop { lp1 with state := .busy, pending := pd2 })) :=
        (Go1.read gA.mem k).trans (Go1.loopSt (s := s1.read k) gA.mem hK g2 g4 hρ1 hb1) e1 e2
       have hbusy : ({ lp1 with state := .busy, pending := pd2 } : Loop) = { lp1 with state := .busy } := by rw [← r2]
       rw [hbusy] at gW
       refine ⟨_, run_beginRound hb1 r1, ?_⟩
       have g2' : Go1 P K B ρ s w ρ1 ((s1.read k).write k h2) (w1.putObj b (.loop { lp1 with state := .busy })) := gA'.trans gW (e0.trans evA) (e1.trans e2)
       have hds : a1.defers = [] := by
        have := frA.ds
        cases hh : a1.defers with
        | nil => rfl
        | cons d ds => rw [hh] at this; cases this
       have p2 : Pre P K B ρ1 ((s1.read k).write k h2) s3 (w1.putObj b (.loop { lp1 with state := .busy })) := (hp.right eA g2').left eB
       refine wpL_wp (F := FW (some b)) (runB K B ρ1 (some b) a1 _ _ p2 ⟨by have := frA.size; simp only at nA; rw [this, nA], frA.env, by rw [hds]; exact .nil, ⟨b, m, hρ1, rfl⟩⟩ ?_)
       rintro e a3 w3 ⟨ρ3, gB, hexB, frB⟩
       have hρ3 : ρ3 k = some (b, m) := gB.ext _ _ hρ1
       obtain ⟨lp3, hb3, t1, t2, t3⟩ := MK.loop (s := s3) gB.mem hK g5 hρ3
       have gE : Go1 P K B ρ3 s3 w3 ρ3 ((s3.read k).write k h3) (w3.putObj b (.loop { lp3 with state := if jp.isNone then .ready else .done, pending := jp })) :=
        (Go1.read gB.mem k).trans (Go1.loopSt (s := s3.read k) gB.mem hK g5 g7 hρ3 hb3) e3 e4
       have gAll : Go1 P K B ρ s w ρ3 ((s3.read k).write k h3) (w3.putObj b (.loop { lp3 with state := if jp.isNone then .ready else .done, pending := jp })) :=
        (g2'.trans gB eA evB).trans gE (eA.trans evB) eB
       have hrun := run_endRound (P := P) jp hb3
       have hR : RetR P K B ρ s w (.ok (.val (.bool jp.isNone)) ((s3.read k).write k h3)) (.returned (.bool jp.isNone)) (w3.putObj b (.loop { lp3 with state := if jp.isNone then .ready else .done, pending := jp })) := ⟨ρ3, _, rfl, gAll, .val _⟩
       rcases hex with ⟨rfl, rfl⟩ | ⟨rfl, rfl⟩ | ⟨id, rfl, rfl⟩
       ·cases hexB; exact ⟨_, _, hrun, hR⟩
       ·cases hexB; exact ⟨_, _, hrun, hR⟩
       ·cases hexB; exact ⟨_, _, hrun, hR⟩
      ·cases h
     split at h
     ·rename_i hbody; exact key (jp := none) hbody (.inl ⟨rfl, rfl⟩) h
     ·rename_i hbody; exact key (jp := some .ret) hbody (.inr (.inl ⟨rfl, rfl⟩)) h
     ·rename_i id _ _ hbody; exact key (jp := some (.exit id)) hbody (.inr (.inr ⟨id, rfl, rfl⟩)) h
     ·cases h
    ·cases h
   ·cases h
 ·cases h
def rangeGo (P : Program) (r : Run) (n : Nat) (env : Tr CV) (rr : Option Nat) (f : FuncId) (first caps : List CV) (ps : List Nat) (assign body : Code) (d : Nat) (ds' : List SD) (s : S) : Option (Ex × Fr × S) :=
 nw s (.loop .ready none env n ps assign body d) fun k s => match app2 first [.yld k] caps with
 | none => none
 | some l => match r.call f l s with
  | none => none
  | some (.pan x s) => some (.pan x, ⟨n, env, ds', rr⟩, s)
  | some (.ok _ s) => rd s k fun ob s => match ob with
   | .loop .ready none env' n' ps' as' bo' d' => wr s k (some (.loop .exhausted none env' n' ps' as' bo' d')) fun s => some (.normal, ⟨n, env, ds', rr⟩, s)
   | .loop .done (some j) env' n' ps' as' bo' d' => wr s k (some (.loop .exhausted (some j) env' n' ps' as' bo' d')) fun s => r.code j ⟨n, env, ds', rr⟩ s
   | _ => none
theorem app2_eq {a b c l : List CV} (h : app2 a b c = some l) : l = a ++ (b ++ c) := by
 unfold app2 at h
 split at h
 ·rename_i m hm; rw [cat_eq hm] at h; exact cat_eq h
 ·cases h
theorem rangeGo_sound (R : RunOk P r) {n : Nat} {env : Tr CV} {rr : Option Nat} {f : FuncId} {first caps : List CV} {ps : List Nat} {assign body : Code} {d : Nat} {ds' : List SD} {s : S} {ex : Ex} {fr' : Fr} {s' : S} (h : rangeGo P r n env rr f first caps ps assign body d ds' s = some (ex, fr', s')) :
  Ev s s' ∧ fr'.n = n ∧ fr'.rd = rr ∧ ∀ (K : Nat → Prop) (B : Nat) (ρ : Rho) (r0 : Option Nat) (a : Act) (w : World) (Q : Exit → Act → World → Prop) (g : Operand) (D nd : Nat) (fnid : FuncId), Pre P K B ρ s s' w → FrOk ρ ⟨n, env, ds', rr⟩ r0 a → CR ρ (.fn f first caps) (a.eval g) → ρ d = some (D, nd) →
   (∀ e a' w', Post P K B ρ s w ex fr' s' r0 e a' w' → Q e a' w') → ∃ dd args, (resolve a.eval (rangeCall g w.heap.size) 0).run P (w.alloc (.loop { state := .ready, pending := none, fn := fnid, tmps := a.tmps, params := ps.toArray, assign, body, defers := D })) = .ok dd (w.alloc (.loop { state := .ready, pending := none, fn := fnid, tmps := a.tmps, params := ps.toArray, assign, body, defers := D })) ∧
    (invoke dd.target dd.args).run P (w.alloc (.loop { state := .ready, pending := none, fn := fnid, tmps := a.tmps, params := ps.toArray, assign, body, defers := D })) = .ok (.enter f args) (w.alloc (.loop { state := .ready, pending := none, fn := fnid, tmps := a.tmps, params := ps.toArray, assign, body, defers := D })) ∧
    CallsIn (FW r0) (0 - 1) P f args (w.alloc (.loop { state := .ready, pending := none, fn := fnid, tmps := a.tmps, params := ps.toArray, assign, body, defers := D })) (rangePost (FW r0) 0 P w.heap.size Q a) := by
 unfold rangeGo at h
 obtain ⟨h1, g1, h⟩ := nw_inv h
 split at h
 ·cases h
 ·rename_i l hl2
  have hl3 := app2_eq hl2
  have e1 : Ev s (s.new h1) := Ev.new g1
  have start : ∀ {res : Ret}, CallS P f l (s.new h1) res → ∀ (e2 : Ev res.s s') (K : Nat → Prop) (B : Nat) (ρ : Rho) (r0 : Option Nat) (a : Act) (w : World) (Q : Exit → Act → World → Prop) (g : Operand) (D nd : Nat) (fnid : FuncId), Pre P K B ρ s s' w → FrOk ρ ⟨n, env, ds', rr⟩ r0 a → CR ρ (.fn f first caps) (a.eval g) → ρ d = some (D, nd) →
    (∀ e w', (∃ ρ1, ρ1 s.nx = some (w.heap.size, 0) ∧ Go1 P K B ρ s w ρ1 (s.new h1) (w.alloc (.loop { state := .ready, pending := none, fn := fnid, tmps := a.tmps, params := ps.toArray, assign, body, defers := D })) ∧ RetR P K B ρ1 (s.new h1) (w.alloc (.loop { state := .ready, pending := none, fn := fnid, tmps := a.tmps, params := ps.toArray, assign, body, defers := D })) res e w') → rangePost (FW r0) 0 P w.heap.size Q a e w') →
    ∃ dd args, (resolve a.eval (rangeCall g w.heap.size) 0).run P (w.alloc (.loop { state := .ready, pending := none, fn := fnid, tmps := a.tmps, params := ps.toArray, assign, body, defers := D })) = .ok dd (w.alloc (.loop { state := .ready, pending := none, fn := fnid, tmps := a.tmps, params := ps.toArray, assign, body, defers := D })) ∧
    (invoke dd.target dd.args).run P (w.alloc (.loop { state := .ready, pending := none, fn := fnid, tmps := a.tmps, params := ps.toArray, assign, body, defers := D })) = .ok (.enter f args) (w.alloc (.loop { state := .ready, pending := none, fn := fnid, tmps := a.tmps, params := ps.toArray, assign, body, defers := D })) ∧
    CallsIn (FW r0) (0 - 1) P f args (w.alloc (.loop { state := .ready, pending := none, fn := fnid, tmps := a.tmps, params := ps.toArray, assign, body, defers := D })) (rangePost (FW r0) 0 P w.heap.size Q a) := by
   intro res hc e2 K B ρ r0 a w Q g D nd fnid hp hf hg hD hQ
   obtain ⟨c1, c2, c3⟩ := hc
   generalize hlr : ({ state := .ready, pending := none, fn := fnid, tmps := a.tmps, params := ps.toArray, assign, body, defers := D } : Loop) = lr at *
   have hfr := hp.fresh s.nx (Nat.le_refl _) (Nat.lt_of_lt_of_le (Nat.lt_succ_self _) (c1.trans e2).nx)
   have hle := Rho.put_le (w.heap.size, 0) hfr
   have gN : Go1 P K B ρ s w (ρ.put s.nx (w.heap.size, 0)) (s.new h1) (w.alloc (.loop lr)) :=
    Go1.new hp.mem (hp.cov.up _ (Nat.le_refl _)) g1 hfr hp.base rfl (alloc_like _ _) ⟨lr, rfl, by rw [← hlr], by rw [← hlr], by rw [← hlr], by rw [← hlr], by rw [← hlr], by rw [← hlr]; exact hf.size, fun t x hx => by rw [← hlr]; exact (hf.env t x hx).le hle, nd, by rw [← hlr]; exact hle _ _ hD⟩
   have hk1 : (ρ.put s.nx (w.heap.size, 0)) s.nx = some (w.heap.size, 0) := Rho.put_same _ _ _
   generalize hu : a.eval g = u at hg
   cases hg with
   | fn _ _ _ vf vc hvf hvc =>
    refine ⟨{ target := .fn (.func f) vc, args := vf ++ #[.func (.yield w.heap.size) #[] #[]] }, vf ++ #[.func (.yield w.heap.size) #[] #[]] ++ vc, ?_, by simp [invoke, run_callFunc c2], ?_⟩
    ·simp only [resolve, rangeCall, hu]
     simp [Deferred.ofValue, Act.eval]
    ·have hcall := c3 K B _ (vf.toList ++ ([.func (.yield w.heap.size) #[] #[]] ++ vc.toList)) _ ((hp.right e1 gN).left e2) (by rw [hl3]; exact (hvf.le hle).append ((CRL.cons _ _ _ _ (.yld _ _ _ hk1) .nil).append (hvc.le hle)))
     have earr : (vf.toList ++ ([Value.func (.yield w.heap.size) #[] #[]] ++ vc.toList)).toArray = vf ++ #[.func (.yield w.heap.size) #[] #[]] ++ vc := by apply Array.ext'; simp
     rw [earr] at hcall
     exact callsIn_FW (hcall.mono fun e w' hr => hQ e w' ⟨_, hk1, gN, hr⟩)
  split at h
  ·cases h
  ·rename_i x s1 hcall
   simp only [Option.some.injEq, Prod.mk.injEq] at h
   obtain ⟨rfl, rfl, rfl⟩ := h
   have hc := R.call _ _ _ _ hcall
   refine ⟨e1.trans hc.1, rfl, rfl, fun K B ρ r0 a w Q g D nd fnid hp hf hg hD hQ => start hc (Ev.refl _) K B ρ r0 a w Q g D nd fnid hp hf hg hD ?_⟩
   rintro e w' ⟨ρ1, _, gN, ρ2, v, rfl, g2, hx⟩
   exact hQ _ _ _ ⟨ρ2, gN.trans g2 e1 hc.1, ⟨v, rfl, hx⟩, hf.le (gN.ext.trans g2.ext)⟩
  ·rename_i x s1 hcall
   have hc := R.call _ _ _ _ hcall
   obtain ⟨ob, g2, h⟩ := rd_inv h
   split at h
   ·rename_i env' n' ps' as' bo' d'
    obtain ⟨o3, h3, g3, g4, h⟩ := wr_inv h
    simp only [Option.some.injEq, Prod.mk.injEq] at h
    obtain ⟨rfl, rfl, rfl⟩ := h
    have e2 : Ev s1 (s1.read s.nx) := Ev.read _ _
    have e3 : Ev (s1.read s.nx) ((s1.read s.nx).write s.nx h3) := Ev.write g3 g4
    refine ⟨(e1.trans hc.1).trans (e2.trans e3), rfl, rfl, fun K B ρ r0 a w Q g D nd fnid hp hf hg hD hQ => start hc (e2.trans e3) K B ρ r0 a w Q g D nd fnid hp hf hg hD ?_⟩
    rintro e w' ⟨ρ1, hk1, gN, ρ2, v, rfl, gC, hx⟩
    have hK : K s.nx := hp.cov.up _ (Nat.le_refl _)
    have hk2 := gC.ext _ _ hk1
    obtain ⟨lp, hb, q1, q2, _⟩ := MK.loop (s := s1) gC.mem hK g2 hk2
    have gE := (Go1.read gC.mem s.nx).trans (Go1.loopSt (s := s1.read s.nx) gC.mem hK g2 g4 hk2 hb) e2 e3
    have hrun := run_endLoop (P := P) hb (by rw [q1]; simp)
    rw [q2] at hrun
    refine ⟨none, _, hrun, ?_⟩
    exact hQ _ _ _ ⟨ρ2, (gN.trans gC e1 hc.1).trans gE (e1.trans hc.1) (e2.trans e3), rfl, hf.le ((gN.ext.trans gC.ext).trans gE.ext)⟩
   ·rename_i j env' n' ps' as' bo' d'
    obtain ⟨o3, h3, g3, g4, h⟩ := wr_inv h
    have e2 : Ev s1 (s1.read s.nx) := Ev.read _ _
    have e3 : Ev (s1.read s.nx) ((s1.read s.nx).write s.nx h3) := Ev.write g3 g4
    obtain ⟨e4, nn, rn, run⟩ := R.code _ _ _ _ _ _ h
    have e123 := (e1.trans hc.1).trans (e2.trans e3)
    refine ⟨e123.trans e4, nn, rn, fun K B ρ r0 a w Q g D nd fnid hp hf hg hD hQ => start hc ((e2.trans e3).trans e4) K B ρ r0 a w Q g D nd fnid hp hf hg hD ?_⟩
    rintro e w' ⟨ρ1, hk1, gN, ρ2, v, rfl, gC, hx⟩
    have hK : K s.nx := hp.cov.up _ (Nat.le_refl _)
    have hk2 := gC.ext _ _ hk1
    obtain ⟨lp, hb, q1, q2, _⟩ := MK.loop (s := s1) gC.mem hK g2 hk2
    have gE := (Go1.read gC.mem s.nx).trans (Go1.loopSt (s := s1.read s.nx) gC.mem hK g2 g4 hk2 hb) e2 e3
    have hrun := run_endLoop (P := P) hb (by rw [q1]; simp)
    rw [q2] at hrun
    refine ⟨some j, _, hrun, ?_⟩
    have gAll := (gN.trans gC e1 hc.1).trans gE (e1.trans hc.1) (e2.trans e3)
    exact wpL_wp (run K B ρ2 r0 a _ Q (hp.right e123 gAll) (hf.le gAll.ext) fun e a' w' hpost => hQ _ _ _ (hpost.left gAll e123 e4))
   ·cases h
end
section
variable {P : Program} {r : Run}
theorem rangeN_sound (R : RunOk P r) {g : Operand} {ps : List Nat} {assign body : Code} {fr fr' : Fr} {s s' : S} {ex : Ex} (h : rangeN P r g ps assign body fr s = some (ex, fr', s')) : CodeS P (.rangeFunc g ps.toArray assign body) fr s ex fr' s' := by
 obtain ⟨n, env, ds, rr⟩ := fr
 unfold rangeN at h
 simp only at h
 split at h
 ·rename_i f first caps hg
  cases rr with
  | none =>
   simp only at h
   obtain ⟨h1, g1, h⟩ := nw_inv h
   have h : rangeGo P r n env none f first caps ps assign body s.nx (.mark s.nx :: ds) (s.new h1) = some (ex, fr', s') := h
   obtain ⟨e2, nn, rn, run⟩ := rangeGo_sound R h
   have e1 : Ev s (s.new h1) := Ev.new g1
   refine ⟨e1.trans e2, nn, rn, fun K B ρ r0 a w Q hp hf hQ => ?_⟩
   obtain rfl : r0 = none := hf.rd
   show (Code.rangeFunc g ps.toArray assign body).wpIn (FW none) 0 P Q a w
   refine wpIn_rangeFunc fun fnid hfn => ?_
   have hfr := hp.fresh s.nx (Nat.le_refl _) (Nat.lt_of_lt_of_le (Nat.lt_succ_self _) e2.nx)
   have hle := Rho.put_le (w.heap.size, 0) hfr
   have gN : Go1 P K B ρ s w (ρ.put s.nx (w.heap.size, 0)) (s.new h1) (w.alloc (.deferred (some []))) :=
    Go1.new hp.mem (hp.cov.up _ (Nat.le_refl _)) g1 hfr hp.base rfl (alloc_like _ _) rfl
   have hk1 : (ρ.put s.nx (w.heap.size, 0)) s.nx = some (w.heap.size, 0) := Rho.put_same _ _ _
   have hf1 : FrOk (ρ.put s.nx (w.heap.size, 0)) ⟨n, env, .mark s.nx :: ds, none⟩ none { a with defers := { target := .collected w.heap.size, args := #[] } :: a.defers } :=
    ⟨hf.size, hf.env.le hle, .cons ⟨_, _, hk1, rfl⟩ (hf.ds.imp fun _ _ => DOk.le hle), rfl⟩
   have hgv : CR (ρ.put s.nx (w.heap.size, 0)) (.fn f first caps) (a.eval g) := (ev_sound hf.env hg).le hle
   obtain ⟨dd, args, q1, q2, q3⟩ := run K B _ none { a with defers := { target := .collected w.heap.size, args := #[] } :: a.defers } (w.alloc (.deferred (some []))) Q g w.heap.size 0 fnid (hp.right e1 gN) hf1 hgv hk1 fun e a' w' hpost => hQ e a' w' (hpost.left gN e1 e2)
   rw [World.size_alloc] at q1 q3
   exact ⟨_, _, _, dd, _, f, args, _, run_enterLoop_outer fnid a.tmps ps.toArray assign body, q1, fun _ _ => trivial, q2, by simp [FW], q3⟩
  | some l =>
   simp only at h
   obtain ⟨ob, g1, h⟩ := rd_inv h
   split at h
   ·rename_i st pd env' n' ps' as' bo' d
    have h : rangeGo P r n env (some l) f first caps ps assign body d ds (s.read l) = some (ex, fr', s') := h
    obtain ⟨e2, nn, rn, run⟩ := rangeGo_sound R h
    have e1 : Ev s (s.read l) := Ev.read _ _
    refine ⟨e1.trans e2, nn, rn, fun K B ρ r0 a w Q hp hf hQ => ?_⟩
    obtain ⟨b, m, hb, rfl⟩ := hf.rd
    show (Code.rangeFunc g ps.toArray assign body).wpIn (FW (some b)) 0 P Q a w
    refine wpIn_rangeFunc fun fnid hfn => ?_
    have hK : K l := hp.cov.R l (e2.R l (read_bit s l))
    obtain ⟨lp, hlp, _, _, _, _, _, _, _, nd, hD⟩ := hp.mem.loop hK g1 hb
    have gN : Go1 P K B ρ s w ρ (s.read l) w := Go1.read hp.mem l
    obtain ⟨dd, args, q1, q2, q3⟩ := run K B ρ (some b) a w Q g lp.defers nd fnid (hp.right e1 gN) ⟨hf.size, hf.env, hf.ds, ⟨b, m, hb, rfl⟩⟩ (ev_sound hf.env hg) hD fun e a' w' hpost => hQ e a' w' (hpost.left gN e1 e2)
    exact ⟨_, [], _, dd, _, f, args, _, run_enterLoop_inner hlp fnid a.tmps ps.toArray assign body, q1, fun _ _ => trivial, q2, by simp [FW], q3⟩
   ·cases h
 ·cases h
theorem codeN_sound (hl : laidOutB P = true) (hmix : P.follows .mixedOrders = true) (R : RunOk P r) {c : Code} {fr fr' : Fr} {s s' : S} {ex : Ex} (h : codeN P r c fr s = some (ex, fr', s')) : CodeS P c fr s ex fr' s' := by
 cases c with
 | skip =>
  simp only [codeN, Option.some.injEq, Prod.mk.injEq] at h
  obtain ⟨rfl, rfl, rfl⟩ := h
  exact ⟨Ev.refl _, rfl, rfl, fun K B ρ rr a w Q hp hf hQ => wpIn_skip (hQ _ _ _ ⟨ρ, Go1.refl hp.mem, rfl, hf⟩)⟩
 | label k =>
  simp only [codeN, Option.some.injEq, Prod.mk.injEq] at h
  obtain ⟨rfl, rfl, rfl⟩ := h
  exact ⟨Ev.refl _, rfl, rfl, fun K B ρ rr a w Q hp hf hQ => wpIn_label (hQ _ _ _ ⟨ρ, Go1.refl hp.mem, rfl, hf⟩)⟩
 | ret =>
  simp only [codeN, Option.some.injEq, Prod.mk.injEq] at h
  obtain ⟨rfl, rfl, rfl⟩ := h
  exact ⟨Ev.refl _, rfl, rfl, fun K B ρ rr a w Q hp hf hQ => wpIn_ret (hQ _ _ _ ⟨ρ, Go1.refl hp.mem, rfl, hf⟩)⟩
 | exit id =>
  simp only [codeN, Option.some.injEq, Prod.mk.injEq] at h
  obtain ⟨rfl, rfl, rfl⟩ := h
  exact ⟨Ev.refl _, rfl, rfl, fun K B ρ rr a w Q hp hf hQ => wpIn_exit (hQ _ _ _ ⟨ρ, Go1.refl hp.mem, rfl, hf⟩)⟩
 | region id ops any =>
  cases any with
  | false =>
   obtain ⟨h1, h2, h3, h4⟩ := regS_sound hl R _ _ _ (show regS P r ops.toList ops.toList fr s = some (ex, fr', s') from h)
   refine ⟨h1, h2, h3, fun K B ρ rr a w Q hp hf hQ => ?_⟩
   have := wpIn_region_lit (id := id) (h4 K B ρ rr a w Q hp hf hQ)
   rwa [Array.toArray_toList] at this
  | true =>
   have h : (bif drawOk ops.toList then regD P r ops.toList ops.toList 0 (masks ops.toList []) [] fr s else none) = some (ex, fr', s') := h
   cases hb : drawOk ops.toList with
   | false => rw [hb] at h; cases h
   | true =>
    rw [hb, bif_t] at h
    have := regD_sound (id := id) hl hmix R hb h
    rwa [Array.toArray_toList] at this
 | seq x y =>
  have h : (match r.code x fr s with
   | some (.normal, fr', s') => r.code y fr' s'
   | x => x) = some (ex, fr', s') := h
  split at h
  ·rename_i fr1 s1 hx
   obtain ⟨h1, h2, h3, h4⟩ := R.code _ _ _ _ _ _ hx
   obtain ⟨h5, h6, h7, h8⟩ := R.code _ _ _ _ _ _ h
   refine ⟨h1.trans h5, h6.trans h2, h7.trans h3, fun K B ρ rr a w Q hp hf hQ => wpIn_seq (wpL_wp (h4 K B ρ rr a w _ (hp.left h5) hf ?_))⟩
   rintro e a' w' ⟨ρ', g, hex, hfr⟩
   cases hex
   exact wpL_wp (h8 K B ρ' rr a' w' Q (hp.right h1 g) hfr fun e a' w' hpost => hQ _ _ _ (hpost.left g h1 h5))
  ·rename_i hne
   obtain ⟨h1, h2, h3, h4⟩ := R.code _ _ _ _ _ _ h
   refine ⟨h1, h2, h3, fun K B ρ rr a w Q hp hf hQ => wpIn_seq (wpL_wp (h4 K B ρ rr a w _ hp hf ?_))⟩
   intro e a' w' hpost
   have h5 := hQ e a' w' hpost
   obtain ⟨ρ', g, hex, hfr⟩ := hpost
   cases ex with
   | normal => exact absurd h (hne _ _)
   | exit id => cases hex; exact h5
   | ret => cases hex; exact h5
   | pan x => obtain ⟨v, rfl, _⟩ := hex; exact h5
 | cond t x y =>
  have h : (match ev fr.env t with
   | some (.val (.bool true)) => r.code x fr s
   | some (.val (.bool false)) => r.code y fr s
   | _ => none) = some (ex, fr', s') := h
  split at h
  ·rename_i hv
   obtain ⟨h1, h2, h3, h4⟩ := R.code _ _ _ _ _ _ h
   exact ⟨h1, h2, h3, fun K B ρ rr a w Q hp hf hQ => wpIn_cond_true (ev_sound hf.env hv).val_eq (wpL_wp (h4 K B ρ rr a w Q hp hf hQ))⟩
  ·rename_i hv
   obtain ⟨h1, h2, h3, h4⟩ := R.code _ _ _ _ _ _ h
   exact ⟨h1, h2, h3, fun K B ρ rr a w Q hp hf hQ => wpIn_cond_false (ev_sound hf.env hv).val_eq (wpL_wp (h4 K B ρ rr a w Q hp hf hQ))⟩
  ·cases h
 | block id b =>
  have h : (match r.code b fr s with
   | some (.exit id', fr', s') => bif Nat.beq id' id then some (.normal, fr', s') else some (.exit id', fr', s')
   | x => x) = some (ex, fr', s') := h
  split at h
  ·rename_i id' fr1 s1 hx
   obtain ⟨h1, h2, h3, h4⟩ := R.code _ _ _ _ _ _ hx
   cases hb : Nat.beq id' id with
   | true =>
    rw [hb, bif_t] at h
    simp only [Option.some.injEq, Prod.mk.injEq] at h
    obtain ⟨rfl, rfl, rfl⟩ := h
    have := beq_of hb; subst this
    refine ⟨h1, h2, h3, fun K B ρ rr a w Q hp hf hQ => wpIn_block (wpL_wp (h4 K B ρ rr a w _ hp hf ?_))⟩
    rintro e a' w' ⟨ρ', g, hex, hfr⟩
    cases hex
    simp only [Exit.inBlock, if_true]
    exact hQ _ _ _ ⟨ρ', g, rfl, hfr⟩
   | false =>
    rw [hb, bif_f] at h
    simp only [Option.some.injEq, Prod.mk.injEq] at h
    obtain ⟨rfl, rfl, rfl⟩ := h
    refine ⟨h1, h2, h3, fun K B ρ rr a w Q hp hf hQ => wpIn_block (wpL_wp (h4 K B ρ rr a w _ hp hf ?_))⟩
    rintro e a' w' ⟨ρ', g, hex, hfr⟩
    cases hex
    simp only [Exit.inBlock, if_neg (nbeq_of hb)]
    exact hQ _ _ _ ⟨ρ', g, rfl, hfr⟩
  ·rename_i hne
   obtain ⟨h1, h2, h3, h4⟩ := R.code _ _ _ _ _ _ h
   refine ⟨h1, h2, h3, fun K B ρ rr a w Q hp hf hQ => wpIn_block (wpL_wp (h4 K B ρ rr a w _ hp hf ?_))⟩
   intro e a' w' hpost
   have h5 := hQ e a' w' hpost
   obtain ⟨ρ', g, hex, hfr⟩ := hpost
   cases ex with
   | normal => cases hex; exact h5
   | exit id' => exact absurd h (hne _ _ _)
   | ret => cases hex; exact h5
   | pan x => obtain ⟨v, rfl, _⟩ := hex; exact h5
 | loop b =>
  have h : (match r.code b fr s with
   | some (.normal, fr', s') => r.code (.loop b) fr' s'
   | x => x) = some (ex, fr', s') := h
  split at h
  ·rename_i fr1 s1 hx
   obtain ⟨h1, h2, h3, h4⟩ := R.code _ _ _ _ _ _ hx
   obtain ⟨h5, h6, h7, h8⟩ := R.code _ _ _ _ _ _ h
   refine ⟨h1.trans h5, h6.trans h2, h7.trans h3, fun K B ρ rr a w Q hp hf hQ => loopW_step (wpL_wp (h4 K B ρ rr a w _ (hp.left h5) hf ?_))⟩
   rintro e a' w' ⟨ρ', g, hex, hfr⟩
   cases hex
   exact h8 K B ρ' rr a' w' Q (hp.right h1 g) hfr fun e a' w' hpost => hQ _ _ _ (hpost.left g h1 h5)
  ·rename_i hne
   obtain ⟨h1, h2, h3, h4⟩ := R.code _ _ _ _ _ _ h
   refine ⟨h1, h2, h3, fun K B ρ rr a w Q hp hf hQ => loopW_step (wpL_wp (h4 K B ρ rr a w _ hp hf ?_))⟩
   intro e a' w' hpost
   have h5 := hQ e a' w' hpost
   obtain ⟨ρ', g, hex, hfr⟩ := hpost
   cases ex with
   | normal => exact absurd h (hne _ _)
   | exit id => cases hex; exact h5
   | ret => cases hex; exact h5
   | pan x => obtain ⟨v, rfl, _⟩ := hex; exact h5
 | scope b =>
  have h : (match fr.rd with
   | none => r.code b fr s
   | some _ => none) = some (ex, fr', s') := h
  split at h
  ·rename_i hrd
   obtain ⟨h1, h2, h3, h4⟩ := R.code _ _ _ _ _ _ h
   refine ⟨h1, h2, h3, fun K B ρ rr a w Q hp hf hQ => ?_⟩
   have hrr := hf.rd
   rw [hrd] at hrr
   obtain rfl : rr = none := hrr
   show (Code.scope b).wpIn (FW none) 0 P Q a w
   refine (wpIn_wide (n := 0)).2 (wp_scope_straight ((wpIn_wide (n := 0)).1 (wpL_wp (h4 K B ρ none a w _ hp hf ?_))))
   intro e a' w' hpost
   have h5 := hQ e a' w' hpost
   obtain ⟨ρ', g, hex, hfr⟩ := hpost
   cases ex with
   | normal => cases hex; exact h5
   | exit id => cases hex; exact h5
   | ret => cases hex; exact h5
   | pan x => obtain ⟨v, rfl, _⟩ := hex; exact h5
  ·cases h
 | rangeFunc g ps assign body =>
  have := rangeN_sound R (show rangeN P r g ps.toList assign body fr s = some (ex, fr', s') from h)
  rwa [Array.toArray_toList] at this
 | _ => simp [codeN] at h
theorem call_true {f : FuncId} {s : S} (h : fnOk P f = true ∧ ∀ w, Calls P f #[] w fun e w' => e = .returned (.bool true) ∧ Below w.heap.size w w') : CallS P f [] s (.ok (.val (.bool true)) s) := by
 refine ⟨Ev.refl s, h.1, fun K B ρ vs w hp hvs => ?_⟩
 cases hvs
 refine (h.2 w).mono fun e w' ⟨he, hb⟩ => ⟨ρ, _, he, ?_, .val _⟩
 refine ⟨Le.refl _, fun _ _ => rfl, ⟨fun k o hk ho => ?_, hp.mem.inj⟩, hb.size, hb.os, hb.tape, hb.output, fun b hlt _ => hb.block b hlt, fun k b n h1 h2 _ => absurd h2 (Nat.not_lt_of_le h1)⟩
 obtain ⟨b, n, ob, h1, h2, h3, h4⟩ := hp.mem.obj k o hk ho
 exact ⟨b, n, ob, h1, h2, by rw [hb.block b (Array.getElem?_eq_some_iff.1 h3).1]; exact h3, h4⟩
end
def Says (P : Program) (f : FuncId) : Prop := fnOk P f = true ∧ ∀ w, Calls P f #[] w fun e w' => e = .returned (.bool true) ∧ Below w.heap.size w w'
section
variable {P : Program} {r : Run}
theorem runT_ok (hl : laidOutB P = true) (hmix : P.follows .mixedOrders = true) {T : FuncId → Bool} (hT : ∀ f, T f = true → Says P f) : ∀ n, RunOk P (runT P T n)
 | 0 => ⟨fun _ _ _ _ h => (by cases h), fun _ _ _ _ _ _ h => (by cases h), fun _ _ _ _ h => (by cases h)⟩
 | n + 1 => ⟨fun f args s res h => (by
   have h : callT P T (runT P T n) f args s = some res := h
   unfold callT at h
   cases hb : T f with
   | true =>
    rw [hb, bif_t] at h
    split at h
    ·simp only [Option.some.injEq] at h
     subst h
     exact call_true (hT f hb)
    ·cases h
   | false => rw [hb, bif_f] at h; exact callN_sound hl (runT_ok hl hmix hT n) h), fun _ _ _ _ _ _ h => codeN_sound hl hmix (runT_ok hl hmix hT n) h, fun _ _ _ _ h => roundN_sound hl (runT_ok hl hmix hT n) h⟩
end
structure TI (P : Program) (w0 : World) (ρ : Rho) (s : S) (w : World) : Prop where
 mem : MK P (fun _ => True) w0.heap.size ρ s.h w
 base : ∀ k b n, ρ k = some (b, n) → w0.heap.size ≤ b
 fresh : ∀ k, s.nx ≤ k → ρ k = none
 wf : ∀ k o, s.h.get k = some o → k < s.nx
 below : Below w0.heap.size w0 w
section
variable {P : Program} {r : Run} {w0 : World}
theorem TI.step {c : Code} {fr fr' : Fr} {s s' : S} {ex : Ex} (h : CodeS P c fr s ex fr' s') {ρ : Rho} {a : Act} {w : World} (hI : TI P w0 ρ s w) (hf : FrOk ρ fr none a) {Q : Exit → Act → World → Prop}
  (hQ : ∀ ρ' e a' w', TI P w0 ρ' s' w' → ExOk ρ' ex e → FrOk ρ' fr' none a' → Q e a' w') : wpL (FW none) P c Q a w := by
 obtain ⟨h1, _, _, h2⟩ := h
 refine h2 (fun _ => True) w0.heap.size ρ none a w Q ⟨⟨fun _ _ => trivial, fun _ _ => trivial, fun _ _ => trivial⟩, hI.mem, hI.below.size, fun k h1 _ => hI.fresh k h1, hI.wf⟩ hf ?_
 rintro e a' w' ⟨ρ', g, hex, hfr⟩
 refine hQ ρ' e a' w' ⟨g.mem, fun k b n hk => ?_, fun k hk => ?_, h1.wf hI.wf, hI.below.trans ⟨g.os, g.tape, g.out, g.size, fun b hb => ?_⟩⟩ hex hfr
 ·by_cases hr : k < s.nx ∨ s'.nx ≤ k
  ·rw [g.dom k hr] at hk; exact hI.base k b n hk
  ·rcases g.newb k b n (by omega) (by omega) hk with h3 | ⟨j, n', _, h3⟩
   ·exact Nat.le_trans hI.below.size h3
   ·exact hI.base j b n' h3
 ·rw [g.dom k (.inr hk)]; exact hI.fresh k (Nat.le_trans h1.nx hk)
 ·exact g.frame b (Nat.lt_of_lt_of_le hb hI.below.size) fun k n _ hk => absurd (hI.base k b n hk) (Nat.not_le_of_lt hb)
def Goal (P : Program) (w0 : World) (Q : Exit → Act → World → Prop) (c : Code) (fr : Fr) (s : S) : Prop := ∀ ρ a w, TI P w0 ρ s w → FrOk ρ fr none a → c.wpIn (FW none) 0 P Q a w
theorem cut_sound (R : RunOk P r) {Q : Exit → Act → World → Prop} : ∀ (j : Nat) (c : Code) (fr : Fr) (s : S) {fr1 : Fr} {s1 : S} {c' : Code}, cutR r j c fr s = some (fr1, s1) → dropC j c = some c' → Goal P w0 Q c' fr1 s1 → Goal P w0 Q c fr s
 | 0, c, fr, s, fr1, s1, c', h, hd, hg => by
  simp only [cutR, Option.some.injEq, Prod.mk.injEq] at h
  simp only [dropC, Option.some.injEq] at hd
  obtain ⟨rfl, rfl⟩ := h
  exact hd ▸ hg
 | j + 1, c, fr, s, fr1, s1, c', h, hd, hg => by
  cases c with
  | seq x y =>
   simp only [cutR] at h
   simp only [dropC] at hd
   split at h
   ·rename_i fr2 s2 hx
    intro ρ a w hI hf
    refine wpIn_seq (wpL_wp (TI.step (R.code _ _ _ _ _ _ hx) hI hf fun ρ' e a' w' hI' hex hf' => ?_))
    cases hex
    exact cut_sound R j y fr2 s2 h hd hg ρ' a' w' hI' hf'
   ·cases h
  | _ => simp [cutR] at h
theorem keepV_get : ∀ (l : List Nat) (e t t' : Tr CV), keepV l e t = some t' → ∀ k x, t'.get k = some x → e.get k = some x ∨ t.get k = some x
 | [], e, t, t', h, k, x, hx => by simp only [keepV, Option.some.injEq] at h; exact .inr (h ▸ hx)
 | i :: r, e, t, t', h, k, x, hx => by
  simp only [keepV] at h
  split at h
  ·rename_i y hy
   split at h
   ·rename_i t2 ht
    rcases keepV_get r e t2 t' h k x hx with h1 | h1
    ·exact .inl h1
    ·rw [Tr.get_set _ _ _ _ _ ht] at h1
     split at h1
     ·rename_i hk; subst hk; exact .inl (hy.trans h1)
     ·exact .inr h1
   ·cases h
  ·cases h
theorem keepO_get : ∀ (l : List Nat) (e t t' : Tr CO), keepO l e t = some t' → ∀ k x, t'.get k = some x → e.get k = some x ∨ t.get k = some x
 | [], e, t, t', h, k, x, hx => by simp only [keepO, Option.some.injEq] at h; exact .inr (h ▸ hx)
 | i :: r, e, t, t', h, k, x, hx => by
  simp only [keepO] at h
  split at h
  ·rename_i y hy
   split at h
   ·rename_i t2 ht
    rcases keepO_get r e t2 t' h k x hx with h1 | h1
    ·exact .inl h1
    ·rw [Tr.get_set _ _ _ _ _ ht] at h1
     split at h1
     ·rename_i hk; subst hk; exact .inl (hy.trans h1)
     ·exact .inr h1
   ·cases h
  ·cases h
def Then (P : Program) (f : FuncId) (i : Nat) (fr : Fr) (s : S) : Prop :=
 ∀ fn code, P.funcs[f]? = some fn → fn.body = some code → ∃ c, dropC i code = some c ∧ ∀ w0, Goal P w0 (bodyPostM (FW none) 0 P fn fun e w' => e = .returned (.bool true) ∧ Below w0.heap.size w0 w') c fr s
theorem dropC_add : ∀ (i j : Nat) (c c' : Code), dropC i c = some c' → dropC (i + j) c = dropC j c'
 | 0, j, c, c', h => by simp only [dropC, Option.some.injEq] at h; rw [Nat.zero_add, h]
 | i + 1, j, c, c', h => by
  cases c with
  | seq x y => simp only [dropC] at h; rw [Nat.add_right_comm]; exact dropC_add i j y c' h
  | _ => simp [dropC] at h
theorem seg_then (hl : laidOutB P = true) (hmix : P.follows .mixedOrders = true) {T : FuncId → Bool} (hT : ∀ f, T f = true → Says P f) {n : Nat} {f : FuncId} {i j : Nat} {es hs : List Nat} {fr fr' : Fr} {s s' : S} (h : segT P T n f i j es hs fr s = some (fr', s')) (hn : Then P f (i + j) fr' s') : Then P f i fr s := by
 intro fn code hf hb
 obtain ⟨c', hd', hg⟩ := hn fn code hf hb
 unfold segT at h
 rw [hf] at h
 simp only [hb] at h
 split at h
 ·cases h
 ·rename_i c hd
  refine ⟨c, hd, fun w0 => ?_⟩
  split at h
  ·rename_i m env hp nx _ _ hcut
   split at h
   ·rename_i e' h' he hh
    simp only [Option.some.injEq, Prod.mk.injEq] at h
    obtain ⟨rfl, rfl⟩ := h
    refine cut_sound (runT_ok hl hmix hT n) j c fr s hcut (by rw [← dropC_add i j code c hd]; exact hd') fun ρ a w hI hfr => ?_
    refine hg w0 ρ a w ⟨⟨fun k o hk ho => ?_, fun k k' o o' b m m' _ _ ho ho' => ?_⟩, hI.base, hI.fresh, fun k o ho => ?_, hI.below⟩ ⟨hfr.size, fun t y hy => ?_, hfr.ds, hfr.rd⟩
    ·rcases keepO_get _ _ _ _ hh k o ho with h1 | h1
     ·exact hI.mem.obj k o hk h1
     ·cases h1
    ·rcases keepO_get _ _ _ _ hh k o ho with h1 | h1
     ·rcases keepO_get _ _ _ _ hh k' o' ho' with h2 | h2
      ·exact hI.mem.inj k k' o o' b m m' trivial trivial h1 h2
      ·cases h2
     ·cases h1
    ·rcases keepO_get _ _ _ _ hh k o ho with h1 | h1
     ·exact hI.wf k o h1
     ·cases h1
    ·rcases keepV_get _ _ _ _ he t y hy with h1 | h1
     ·exact hfr.env t y h1
     ·cases h1
   ·cases h
  ·cases h
theorem isT_eq {x : Option Ret} (h : isT x = true) : ∃ s, x = some (.ok (.val (.bool true)) s) := by
 unfold isT at h
 split at h
 ·exact ⟨_, rfl⟩
 ·cases h
theorem end_then (hl : laidOutB P = true) (hmix : P.follows .mixedOrders = true) {T : FuncId → Bool} (hT : ∀ f, T f = true → Says P f) {n : Nat} {f : FuncId} {i : Nat} {fr : Fr} {s : S} (h : endT P T n f i fr s = true) : Then P f i fr s := by
 intro fn code hf hb
 unfold endT at h
 rw [hf] at h
 simp only [hb] at h
 split at h
 ·cases h
 ·rename_i c hd
  refine ⟨c, hd, fun w0 ρ a w hI hfr => ?_⟩
  have R := runT_ok hl hmix hT n
  have key : ∀ {ex : Ex} {n' : Nat} {env' : Tr CV} {ds : List SD} {rd' : Option Nat} {s1 : S}, (runT P T n).code c fr s = some (ex, ⟨n', env', ds, rd'⟩, s1) → (ex = .normal ∨ ex = .ret) → isT (leave P (runT P T n) fn env' ds none s1) = true → c.wpIn (FW none) 0 P (bodyPostM (FW none) 0 P fn fun e w' => e = .returned (.bool true) ∧ Below w0.heap.size w0 w') a w := by
   intro ex n' env' ds rd' s1 hcode hex hlv
   obtain ⟨s2, hlv⟩ := isT_eq hlv
   obtain ⟨h3, h4⟩ := leave_sound hl R ds none s1 hlv
   refine wpL_wp (TI.step (R.code _ _ _ _ _ _ hcode) hI hfr fun ρ' e a' w' hI' hexo hfr' => ?_)
   have fin : LeavesInM (FW none) 0 P fn a'.tmps (fun e w' => e = .returned (.bool true) ∧ Below w0.heap.size w0 w') a'.defers .returning w' := by
    refine h4 (fun _ => True) w0.heap.size ρ' a' w' a'.defers _ _ ⟨⟨fun _ _ => trivial, fun _ _ => trivial, fun _ _ => trivial⟩, hI'.mem, hI'.below.size, fun k h1 _ => hI'.fresh k h1, hI'.wf⟩ hfr'.ds hfr'.env rfl fun e w'' hr => ?_
    obtain ⟨ρ2, u, rfl, g, hx⟩ := hr
    rw [hx.val_eq]
    exact ⟨rfl, hI'.below.trans ⟨g.os, g.tape, g.out, g.size, fun b hb => g.frame b (Nat.lt_of_lt_of_le hb hI'.below.size) fun k n _ hk => absurd (hI'.base k b n hk) (Nat.not_le_of_lt hb)⟩⟩
   rcases hex with rfl | rfl
   ·cases hexo; exact fin
   ·cases hexo; exact fin
  split at h
  ·rename_i hcode; exact key hcode (.inl rfl) h
  ·rename_i hcode; exact key hcode (.inr rfl) h
  ·cases h
theorem then_says {f : FuncId} (hok : fnOk P f = true) (h : Then P f 0 (fr0 P f) S0) : Says P f := by
 refine ⟨hok, fun w => ?_⟩
 unfold fnOk at hok
 split at hok
 ·rename_i fn hf
  cases hb : fn.body with
  | none => simp [hb] at hok
  | some code =>
   obtain ⟨c, hd, hg⟩ := h fn code hf hb
   simp only [dropC, Option.some.injEq] at hd
   subst hd
   refine calls_of_FW (n := 0) (callsIn_of_wp_marks hf hb trivial ?_ rfl)
   refine hg w (fun _ => none) _ w ⟨⟨fun k o _ ho => (by cases ho), fun k k' o o' b n n' _ _ ho => (by cases ho)⟩, fun k b n hk => (by cases hk), fun _ _ => rfl, fun k o ho => (by cases ho), Below.refl _ _⟩ ⟨?_, ?_, ?_, ?_⟩
   ·simp [fr0, hf]
   ·intro t y hy; simp only [fr0, hf] at hy; cases hy
   ·simp only [fr0, hf]; exact .nil
   ·simp only [fr0, hf]; rfl
 ·cases hok
end
end Go.Ev
