/- Part 2 of the proof: contracts of functions of the program and what they need. No condition beyond those that each theorem names. -/
import Derived.Test.YtpgnjlngepfanaaGreatIkP1
import Derived.Maps.AppendAt
import Derived.OneCell
import Derived.Scope
import Derived.Laws.StructEq
import Derived.ChangeKeysEq
import Derived.OpenShut
import Derived.ProofKit
import Derived.Laws.MakeOwn
set_option linter.unusedVariables false
set_option linter.unusedSimpArgs false
namespace Go.Eng
open Go.RowKit (Below)
open Go.ChangeShapes Go.WideShapes Go.ChangeAt Go.RowKit
def Borrow (H : List Ent) (xs ys : List AV) : Prop :=
 ∀ (B : Nat) (I : Imm) (w : World) (Hc : List Ent) (vs : List Value), WOk B I w → HeapOk B I w Hc → (∀ e ∈ H, e ∈ Hc) → RelL I w xs vs →
  ∃ J : Imm, (∀ b o, J b o → ∃ c, w.cell? ⟨b, o, none⟩ = some c) ∧ RelL J w ys vs
section
variable {P : Program} {H : List Ent} {ρ : Nat → Option AV} {o : Oper}
theorem RelL.append_inv {I : Imm} {w : World} : ∀ {xs ys : List AV} {vs : List Value}, RelL I w (xs ++ ys) vs → ∃ us zs, vs = us ++ zs ∧ RelL I w xs us ∧ RelL I w ys zs
 | [], _, vs, h => ⟨[], vs, rfl, .nil, h⟩
 | x :: xs, ys, _, .cons _ v _ vs hx ht => by
  obtain ⟨us, zs, rfl, h1, h2⟩ := RelL.append_inv ht
  exact ⟨v :: us, zs, rfl, .cons _ _ _ _ hx h1, h2⟩
theorem els_of_row {I : Imm} {w : World} {k b : Nat} {els : List (List AV)} (hk : ∀ e ∈ els, e.length = k) (h : Cells I w b 0 els.flatten) : Els I w k b 0 els := els_of_cells els 0 hk h
theorem row_rel {B : Nat} {I : Imm} {w : World} {t k : Nat} {v : Value} {els : List (List AV)} (h : Ent.ok B I w (.row t k v els.length els.flatten)) (hk : ∀ e ∈ els, e.length = k) :
  ∃ J : Imm, (∀ b o, I b o → J b o) ∧ (∀ b o, J b o → I b o ∨ v.ownBlock = some b) ∧ (∀ b o, J b o → I b o ∨ ∃ c, w.cell? ⟨b, o, none⟩ = some c) ∧ Rel J w (.sl k els) v := by
 obtain ⟨xs, hrow, hr, hni⟩ := h
 rcases hrow.2 with ⟨rfl, hn⟩ | ⟨g, cap, cur, rfl, hBg, hg, hnc, hcm, hcs, htk⟩
 ·have : els = [] := List.eq_nil_of_length_eq_zero hn
  subst this
  exact ⟨I, fun _ _ h => h, fun _ _ h => .inl h, fun _ _ h => .inl h, .sl0 _ _ _⟩
 ·have hlen : xs.length = els.length * k := hrow.1
  have hsz : els.length * k ≤ cur.size := by rw [hcs]; exact Nat.mul_le_mul_right k hnc
  let J : Imm := fun b o => I b o ∨ (b = g ∧ o < els.length * k)
  have hJ : Keeps I w J w := ⟨fun _ _ x => .inl x, fun _ _ _ => rfl⟩
  refine ⟨J, fun _ _ x => .inl x, fun b o x => x.elim .inl (fun x => .inr (by rw [x.1]; rfl)), fun b o x => ?_, ?_⟩
  ·rcases x with x | ⟨rfl, x⟩
   ·exact .inl x
   ·exact .inr ⟨cur[o]'(by omega), by rw [cell_of_blk hg]; exact Array.getElem?_eq_getElem (by omega)⟩
  ·refine .sl _ _ _ _ _ _ rfl hnc hcm (els_of_row hk (cells_of hg _ xs 0 (hr.keep hJ) (fun j u hu => ?_) (fun j hj => .inr ⟨rfl, ?_⟩)))
   ·rw [← htk, List.getElem?_take] at hu
    split at hu
    ·simpa using hu
    ·cases hu
   ·rw [flatten_len hk] at hj; omega
theorem Borrow.row {t k : Nat} {v : Value} {els : List (List AV)} {pre post : List AV} (hm : Ent.row t k v els.length els.flatten ∈ H) (hk : ∀ e ∈ els, e.length = k) : Borrow H (pre ++ .val v :: post) (pre ++ .sl k els :: post) := by
 intro B I w Hc vs hw hh hs hr
 obtain ⟨J, h1, h2, h3, h4⟩ := row_rel (hh.ok _ (hs _ hm)) hk
 have kk : Keeps I w J w := ⟨h1, fun _ _ _ => rfl⟩
 refine ⟨J, fun b o hb => (h3 b o hb).elim (fun x => hw.there b o x) id, ?_⟩
 obtain ⟨us, zs, rfl, r1, r2⟩ := hr.append_inv
 cases r2 with
 | cons _ u _ zs hx ht =>
  have := rel_val hx
  subst this
  exact (r1.keep kk).append (.cons _ _ _ _ h4 (ht.keep kk))
theorem Borrow.refl (xs : List AV) : Borrow H xs xs := fun B I w Hc vs hw _ _ hr => ⟨I, hw.there, hr⟩
theorem Borrow.le {xs ys zs : List AV} (h : Borrow H xs ys) (hl : AVleL ys zs) : Borrow H xs zs := fun B I w Hc vs hw hh hs hr =>
 let ⟨J, h1, h2⟩ := h B I w Hc vs hw hh hs hr; ⟨J, h1, hl.rel h2⟩
end
section
variable {c : Ctx} {r : Option Nat} {P : Program} {ops : Array Oper} {l rest : List Oper} {o : Oper} {env : List (Nat × AV)} {H : List Ent} {Q : Exit → Act → World → Prop} {d : Nat}
theorem run_newMap {t : TypeId} (h : o.op = .makeMap t none) (a : Act) (w : World) : (execOp a.eval o).run P w = .ok (.value (.map (some w.heap.size))) (w.alloc (.map #[] 0)) := by
 simp [execOp, h, Instr.makeMap]
end
def SOk (P : Program) (H0 H1 : List Ent) (ρ : Nat → Option AV) (o : Oper) : Prop :=
 ∀ (B : Nat) (I : Imm) (w : World) (r : Option Nat) (a : Act), WOk B I w → HeapOk B I w H0 → OpsOk I w ρ a o → Runs P r o a w (fun v w' => ∃ I', WOk B I' w' ∧ Ext B I w I' w' ∧ HeapOk B I' w' H1) (fun _ _ => False)
abbrev Mem := Nat → Act → Imm → World → Prop
def EOk (P : Program) (M0 M1 : Mem) (ops : List Oper) (env : List (Nat × AV)) (o : Oper) (y : AV) : Prop :=
 o.guard = none ∧ ∀ (B : Nat) (I : Imm) (w : World) (r : Option Nat) (a : Act), WOk B I w → M0 B a I w → OpsOk I w (envGet env) a o → (∀ d, o.dst = some d → d < a.tmps.size) →
  Runs P r o a w (fun v w' => ∃ I', WOk B I' w' ∧ Ext B I w I' w' ∧ M1 B (a.put o.dst v) I' w' ∧ Rel I' w' y v) (fun _ _ => False)
theorem SOk.congr {P : Program} {H H1 : List Ent} {ρ ρ' : Nat → Option AV} {o : Oper} (h : SOk P H H1 ρ o) (he : ∀ t, .tmp t ∈ o.op.operands.toList → ρ t = ρ' t) : SOk P H H1 ρ' o := by
 intro B I w r a hw hh ho
 refine h B I w r a hw hh (fun y hy z hz => ho y hy z ?_)
 cases y with
 | tmp t => rw [← hz]; exact (he t (by simpa using hy)).symm
 | const v => exact hz
 | global g => exact hz
 | func f => exact hz
theorem OpsOk.congr {I : Imm} {w : World} {ρ ρ' : Nat → Option AV} {a : Act} {o : Oper} (ho : OpsOk I w ρ' a o) (he : ∀ t, .tmp t ∈ o.op.operands.toList → ρ t = ρ' t) : OpsOk I w ρ a o := fun y hy z hz => ho y hy z (by
 cases y with
 | tmp t => rw [← hz]; exact (he t (by simpa using hy)).symm
 | const v => exact hz
 | global g => exact hz
 | func f => exact hz)
theorem EOk.congr {P : Program} {H0 H1 : Mem} {ops : List Oper} {env env' : List (Nat × AV)} {o : Oper} {y : AV} (h : EOk P H0 H1 ops env o y) (same : ∀ t ∈ looks ops o, envGet env t = envGet env' t) : EOk P H0 H1 ops env' o y :=
 ⟨h.1, fun B I w r a hw hm ho hz => h.2 B I w r a hw hm (ho.congr fun t ht => same t (mem_looks ht)) hz⟩
theorem EOk.run {c : Ctx} {r : Option Nat} {P : Program} {l : List Oper} {H H1 : Mem} {env : List (Nat × AV)} {o : Oper} {y : AV} {Q : Exit → Act → World → Prop} (h : EOk P H H1 l env o y) {i : Nat} (hi : l[i]? = some o)
  {a : Act} {w : World} {I : Imm} (hw : WOk c.B I w) (hh : H c.B a I w) (hv : ∀ t ∈ looks l o, ∀ z, envGet env t = some z → Rel I w z (a.tmps.getD t undef)) (hn : ∀ t ∈ looks l o, t < a.tmps.size) (hz : ∀ d, o.dst = some d → d < a.tmps.size)
  {K : Act → World → Prop} (hK : ∀ v w' I', WOk c.B I' w' → Ext c.B I w I' w' → H1 c.B (a.put o.dst v) I' w' → Rel I' w' y v → K (a.put o.dst v) w') : wpOpIn (FW r) 0 P l.toArray Q i K a w := by
 obtain ⟨hg, hs⟩ := h
 have hops : OpsOk I w (envGet env) a o := fun x hx z hz => by
  cases x with
  | tmp t => exact hv t (mem_looks (by simpa using hx)) z hz
  | const v => simp [aeval] at hz; subst hz; exact rel_const v
  | global g => simp [aeval] at hz; subst hz; exact .val _
  | func f => simp [aeval] at hz; subst hz; exact .fn _ _ _ _ _ .nil .nil
 have hio : l.toArray[i]? = some o := by simpa using hi
 unfold wpOpIn
 simp only [hio]
 have hwant : Region.wanted o (yielded l.toArray a.tmps) = true := by simp [Region.wanted, hg]
 rw [if_pos hwant]
 exact hs c.B I w r a hw hh hops hz K Q (fun v w' ⟨I', h1, h2, h3, h4⟩ => hK v w' I' h1 h2 h3 h4) (fun _ _ h => h.elim)
def loOf (l : List Oper) (ss : List Nat) (i : Nat) : Nat := ss.countP fun s => ((masks l []).getD i 0).testBit s
def hiOf (l : List Oper) (ss : List Nat) (i : Nat) : Nat := ss.countP fun s => !((masks l []).getD s 0).testBit i && !Nat.beq s i
def stp (ss : List Nat) (i : Nat) : Nat := ss.countP fun s => Nat.beq s i
def TOk (P : Program) (Hs : Nat → Mem) (l : List Oper) (ss : List Nat) (i : Nat) (env : List (Nat × AV)) (o : Oper) (x : AV) : Prop :=
 ∀ j, loOf l ss i ≤ j → j ≤ hiOf l ss i → EOk P (Hs j) (Hs (j + stp ss i)) l env o x
def TD (P : Program) (Hs : Nat → Mem) (l : List Oper) (ss : List Nat) (n : Nat) : Nat → List Oper → List (Nat × AV) → (List (Nat × AV) → Prop) → Prop
 | _, [], env, K => K env
 | i, o :: rest, env, K => ∃ x, TOk P Hs l ss i env o x ∧ dstOk n o.dst = true ∧ TD P Hs l ss n (i + 1) rest (putEnv o.dst x env) K
theorem TD.mono {P : Program} {Hs : Nat → Mem} {ops : List Oper} {ss : List Nat} {n : Nat} {K K' : List (Nat × AV) → Prop} (hk : ∀ env, K env → K' env) : ∀ {k : Nat} {l : List Oper} {env : List (Nat × AV)}, TD P Hs ops ss n k l env K → TD P Hs ops ss n k l env K'
 | _, [], _, h => hk _ h
 | _, _ :: _, _, ⟨x, h1, h2, h3⟩ => ⟨x, h1, h2, h3.mono hk⟩
section
variable {c : Ctx} {r : Option Nat} {P : Program} {l : List Oper} {st : St} {Q : Exit → Act → World → Prop}
end
section
variable {P : Program} {L rest : List Oper} {ss : List Nat} {n i d : Nat} {o : Oper} {env : List (Nat × AV)} {K : List (Nat × AV) → Prop} {x : AV} {M : Nat → Mem} {Hs : Nat → List Ent}
theorem TD.nil (h : K env) : TD P M L ss n i [] env K := h
variable {H : List Ent} {Hg : Value → List Ent} {de : Nat}
theorem SOk.store {H H' : List Ent} {ρ : Nat → Option AV} {t tb : TypeId} {p z : Operand} {y : AV} {gp g : Bool} {b off m : Nat} {cs ds : List AV} {agg : Bool} [ht : HasTy P t (agg, m)] (h : o.op = .store t p z)
  (hp : aev ρ p = some (gp, .p b off)) (hgp : gp = true) (hz : aev ρ z = some (g, y)) (hg : g = true) (hb : bOk y = true) (h1 : allOne (bcells y) = true)
  (hm : Nat.beq (bcells y).length m = true) (hu : Upd H (.blk b tb cs) (.blk b tb ds) H') (hfit : Nat.ble (off + (bcells y).length) cs.length = true) (hds : cs.take off ++ bcells y ++ cs.drop (off + (bcells y).length) = ds) : SOk P H H' ρ o := by
 intro B I w r a hw hh ho
 subst hds
 have ht' : tyInfo P t = some (agg, (bcells y).length) := by rw [Nat.eq_of_beq_eq_true hm]; exact ht.h
 have hpv := rel_val (ho.get (by simp [h, Op.operands]) hp hgp)
 have hzv := bcells_rel (ho.get (by simp [h, Op.operands]) hz hg) hb
 obtain ⟨hB, vs, hblk, hrel, hni⟩ := hh.ok _ hu.mem
 have hone := relL_one hzv h1
 have hlen : (a.eval z).cells.toList.length = (bcells y).length := hzv.length
 have hcl : vs.size = cs.length := by have := hrel.length; simpa using this
 have hfit' : off + 0 + (a.eval z).cells.toList.length ≤ vs.size := by
  have := Nat.le_of_ble_eq_true hfit
  rw [hlen, hcl]; omega
 have hrun := run_storeCells_at P b off tb (a.eval z).cells.toList 0 vs w hblk hfit' hone
 obtain ⟨_, hsz⟩ := tyInfo_run ht' w
 generalize hcur : (vs.toList.take (off + 0) ++ (a.eval z).cells.toList ++ vs.toList.drop (off + 0 + (a.eval z).cells.toList.length)).toArray = cur at hrun
 have hsize : (a.eval z).cells.size = (bcells y).length := by simpa using hlen
 have hexec : (execOp a.eval o).run P w = .ok .skip (w.setRow b cur) := by
  simp [execOp, h, Instr.storeAt, hpv, Instr.sureAddr, storeVar, hsz, hsize, hrun]
 have hkeep : Keeps I w I (w.setRow b cur) := ⟨fun _ _ x => x, fun b' o' hI => by
  have hne : b' ≠ b := fun e => by subst e; exact hni o' hI
  exact World.cell?_of_block (a := ⟨b', o', none⟩) (setRow_other w b b' cur hne)⟩
 have hext : Ext B I w I (w.setRow b cur) := ⟨hkeep.imm, hkeep.cell, ⟨rfl, rfl, rfl, by simp, fun k hk => setRow_other w b k cur (by omega)⟩⟩
 have hw' : WOk B I (w.setRow b cur) := ⟨by simpa using hw.base, fun b' o' hI => by rw [hkeep.cell b' o' hI]; exact hw.there b' o' hI⟩
 have hrel' : RelL I w (cs.take off ++ bcells y ++ cs.drop (off + (bcells y).length)) cur.toList := by
  rw [← hcur]
  simp only [Nat.add_zero, hlen]
  exact ((hrel.take off).append hzv).append (hrel.drop _)
 have hh' : HeapOk B I (w.setRow b cur) H' := by
  refine hh.upd hu hkeep (fun k hk hne => setRow_other w b k cur (fun e => hne (by subst e; rfl))) (fun _ _ x => .inl x) ?_ (fun k hk => .inl hk)
  exact ⟨hB, cur, setRow_heap w b vs cur tb (0, 0) hblk, hrel'.keep hkeep, hni⟩
 exact Runs.of_skip (by simp [h]) hexec ⟨I, hw', hext, hh'⟩
end
section
variable {P : Program}
variable {c : Ctx} {r : Option Nat} {ops : Array Oper} {l rest : List Oper} {o : Oper} {env : List (Nat × AV)} {H : List Ent} {Q : Exit → Act → World → Prop} {d : Nat}
def AV.is (y : AV) (v : Value) : Prop := ∀ (I : Imm) (w : World) (u : Value), Rel I w y u → u = v
theorem CW.scope {st : St} {p : Code} (h : CW c none P p st (Exit.noGoto Q)) : CW c none P (.scope p) st Q := fun a w s =>
 (wpIn_wide (n := 0)).2 (wp_scope_straight ((wpIn_wide (n := 0)).1 (h a w s)))
theorem CW.label {st : St} {k : Nat} (h : Done c st .normal Q) : CW c r P (.label k) st Q := fun a w s => wpIn_label (h a w s)
end
section
variable {P : Program} {H : List Ent} {ρ : Nat → Option AV} {o : Oper}
theorem Borrow.blk {t b k cap : Nat} {els : List (List AV)} {more : List AV} {pre post : List AV} (hm : Ent.blk b t (els.flatten ++ more) ∈ H) (hk : ∀ e ∈ els, e.length = k) (hc : els.length ≤ cap) (hcm : cap ≤ maxLen) : Borrow H (pre ++ .val (.slice (some ⟨b, 0, none⟩) els.length cap) :: post) (pre ++ .sl k els :: post) := by
 intro B I w Hc vs hw hh hs hr
 obtain ⟨hB, us, hb, hrel, hni⟩ := hh.ok _ (hs _ hm)
 let J : Imm := fun b' o' => I b' o' ∨ (b' = b ∧ o' < us.size)
 have kk : Keeps I w J w := ⟨fun _ _ h => .inl h, fun _ _ _ => rfl⟩
 refine ⟨J, fun b' o' h => ?_, ?_⟩
 ·rcases h with h | ⟨rfl, h⟩
  ·exact hw.there b' o' h
  ·exact ⟨us[o'], by rw [cell_of_blk hb]; exact Array.getElem?_eq_getElem h⟩
 obtain ⟨as, zs, rfl, r1, r2⟩ := hr.append_inv
 cases r2 with
 | cons _ u _ zs hx ht =>
  have := rel_val hx
  subst this
  have hlen := hrel.length
  rw [List.length_append, flatten_len hk] at hlen
  have hsz : us.size = els.length * k + more.length := by simpa using hlen
  have hcells : Cells J w b 0 (els.flatten ++ more) := cells_of hb _ us.toList 0 (hrel.keep kk) (fun j u hu => by simpa using hu) (fun j hj => .inr ⟨rfl, by rw [List.length_append, flatten_len hk] at hj; omega⟩)
  have hc2 := hcells.take els.flatten.length
  rw [List.take_left] at hc2
  exact (r1.keep kk).append (.cons _ _ _ _ (.sl _ _ _ _ _ _ rfl hc hcm (els_of_cells els 0 hk hc2)) (ht.keep kk))
end
section
variable {c : Ctx} {r : Option Nat} {P : Program} {ops : Array Oper} {l rest : List Oper} {o : Oper} {env : List (Nat × AV)} {H : List Ent} {Q : Exit → Act → World → Prop} {d : Nat}
end
section
variable {c : Ctx} {r : Option Nat} {P : Program} {l : List Oper} {Q : Exit → Act → World → Prop}
end
section
variable {P : Program} {L rest : List Oper} {ss : List Nat} {n i d : Nat} {o : Oper} {env : List (Nat × AV)} {K : List (Nat × AV) → Prop} {x : AV} {H : List Ent} {Hb : Nat → Nat → List Ent} {de : Nat}
end
def eqField (P : Program) (p : Field × Nat) : Bool := p.1.offset == p.2 && p.1.name != "_" && P.plainKey p.1.type && (match P.underlying p.1.type with | some (.int _) => true | _ => false)
def eqInts (P : Program) (t : TypeId) (n : Nat) : Bool := (match P.underlying t with | some (.struct fs) => fs.toList.length == n && fs.toList.zipIdx.all (eqField P) | _ => false) && !P.stoodInHeld t && !P.eqGuardType P.depth t
class HasEq (P : Program) (t : TypeId) (n : outParam Nat) : Prop where
 h : eqInts P t n = true
abbrev intsArr (l : List Int) : Array Value := (l.map fun n => Value.int .i64 n).toArray
theorem eqFields_ints {P : Program} {w : World} (d : Nat) {as bs : List Int} {n : Nat} (ha : as.length = n) (hb : bs.length = n) : ∀ (fs : List Field) (k : Nat), k + fs.length = n → ((fs.zipIdx k).all (eqField P)) = true →
  (Op.eqFields (d + 1) (intsArr as) (intsArr bs) fs).run P w = .ok (as.drop k == bs.drop k) w
 | [], k, hk, _ => by
  rw [List.length_nil] at hk
  rw [List.drop_of_length_le (by omega), List.drop_of_length_le (by omega)]; rfl
 | f :: fs, k, hk, hf => by
  rw [List.length_cons] at hk
  rw [List.zipIdx_cons, List.all_cons, Bool.and_eq_true] at hf
  have h1 := hf.1
  simp only [eqField, Bool.and_eq_true, beq_iff_eq, bne_iff_ne, ne_eq] at h1
  obtain ⟨⟨⟨ho, hn⟩, hp⟩, hu⟩ := h1
  obtain ⟨k', hu⟩ : ∃ k', P.underlying f.type = some (.int k') := by
   split at hu
   ·rename_i k' e; exact ⟨k', e⟩
   ·cases hu
  have hka : k < as.length := by omega
  have hkb : k < bs.length := by omega
  have ga : (intsArr as)[f.offset]? = some (.int .i64 as[k]) := by rw [ho]; simp [intsArr, List.getElem?_eq_getElem hka]
  have gb : (intsArr bs)[f.offset]? = some (.int .i64 bs[k]) := by rw [ho]; simp [intsArr, List.getElem?_eq_getElem hkb]
  have hab : (as.drop k == bs.drop k) = (as[k] == bs[k] && as.drop (k + 1) == bs.drop (k + 1)) := by rw [List.drop_eq_getElem_cons hka, List.drop_eq_getElem_cons hkb]; rfl
  rw [hab]
  simp only [Op.eqFields, Sem.run_ite, Sem.run_bind]
  rw [if_pos hn, Go.run_part_plain (w := w) hp ga]
  simp only [Result.andThen_ok]
  rw [Go.run_part_plain (w := w) hp gb]
  simp only [Result.andThen_ok]
  rw [run_equalIn_int w d f.type .i64 k' as[k] bs[k] hu]
  simp only [Result.andThen_ok]
  have ih := eqFields_ints (P := P) (w := w) d ha hb fs (k + 1) (by omega) hf.2
  by_cases e : as[k] = bs[k]
  ·have e2 : (as[k] == bs[k]) = true := by simpa using e
   rw [e2]
   simp only [Bool.not_true, Bool.false_eq_true, if_false, Bool.true_and]
   exact ih
  ·have e2 : (as[k] == bs[k]) = false := by simpa using e
   rw [e2]
   simp only [Bool.not_false, if_true, Sem.run_pure, Bool.false_and]
section
variable {P : Program} {H : List Ent} {ρ : Nat → Option AV} {o : Oper}
end
theorem post_of_below {H : Type} {enc : TypeId × Value → H} {P : Program} {f : Func} {s : ChangeSpec} {apart fresh handsOn again : Bool} {W W' : World} {args : Array Value} {v : Value} {ds gs : List (DataW H)} {before pa pv : List MemPlace}
  (hW : DataW.Whole enc P f.params.toList s.vars apart W args.toList ds gs before)
  (hres : ∀ (b : Nat) (sp : Nat → Bool) (hd : Bool), DataW.TrodAll enc P W' b sp hd f.resultTypes.toList (v.resultList f.resultTypes.size) (s.fn H (ds ++ gs)).results [])
  (hargs : ∀ sp : Nat → Bool, (∀ p ∈ before, sp p.block = true) → DataW.TrodAll enc P W' 0 sp true f.params.toList args.toList (s.fn H (ds ++ gs)).args pa)
  (hvars : ∀ sp : Nat → Bool, (∀ p ∈ before, sp p.block = true) → DataW.TrodVars enc P W' sp s.vars (s.fn H (ds ++ gs)).vars pv)
  (hps : before = pa ++ pv) (hb : Below W.heap.size W W')
  (hok : ∀ (j : Nat) (t : TypeId) (r : Value), f.resultTypes[j]? = some t → (v.resultList f.resultTypes.size)[j]? = some r → Value.okWide P W' .any 0 t r) :
  s.post enc P f apart fresh handsOn again W args v W' := by
 have hold : ∀ p ∈ before, (fun b => decide (b < W.heap.size)) p.block = true := fun p hp => by simpa using hW.lt p hp
 have hlt : ∀ p ∈ before, p.block < W.heap.size := fun p hp => hW.lt p hp
 refine ⟨ds, gs, before, [], pa, pv, hW, hres _ _ _, hargs _ hold, hvars _ hold, hb.frame _, fun _ => ?_⟩
 obtain ⟨_, _, _, _, _, hz, hn⟩ := hW
 refine ⟨hok, _, _, ([] ++ pa) ++ pv, ⟨[] ++ pa, pv, trodAll_append (hargs _ (fun _ _ => rfl)) (hres _ _ _), hvars _ (fun _ _ => rfl), rfl, ?_, ?_⟩, ?_⟩
 ·intro b off hp
  have hp' : MemPlace.cell b off ∈ before := by rw [hps]; simpa using hp
  rw [hb.frozen (p := ⟨b, off, none⟩) (hlt _ hp')]
  exact hz b off hp'
 ·intro ha
  have := hn ha
  rw [hps] at this
  simpa using this
 ·intro p hp _
  rw [hps]
  simpa using hp
def mkInfo (P : Program) (t : TypeId) : Option (TypeId × Nat × Value) :=
 match P.underlying t with
 | some (.slice e) => match P.info? e with
  | some i => match i.zero with
   | some z => match z.cells.toList with
    | [v] => bif Nat.beq i.size 1 then some (e, i.bytes, v) else none
    | _ => none
   | none => none
  | none => none
 | _ => none
class HasMk (P : Program) (t : Nat) (x : outParam (Nat × Nat × Value)) : Prop where h : mkInfo P t = some x
section
variable {P : Program} {c : Ctx} {r : Option Nat} {ops : Array Oper} {rest : List Oper} {env : List (Nat × AV)} {H : List Ent} {Q : Exit → Act → World → Prop} {o : Oper} {d : Nat}
end
def ShutS (l : List Oper) (S : Nat → Bool) : Prop := ∀ i oi, l[i]? = some oi → S i = true → ∀ j, ((masks l []).getD i 0).testBit j = true → S j = true
def addS (S : Nat → Bool) (i : Nat) : Nat → Bool := fun j => if j = i then true else S j
def UOk (P : Program) (M : (Nat → Bool) → Mem) (l : List Oper) (i : Nat) (env : List (Nat × AV)) (o : Oper) (x : AV) : Prop :=
 ∀ S, ShutS l S → (∀ j, ((masks l []).getD i 0).testBit j = true → S j = true) → S i = false → EOk P (M S) (M (addS S i)) l env o x
def UD (P : Program) (M : (Nat → Bool) → Mem) (l : List Oper) (n : Nat) : Nat → List Oper → List (Nat × AV) → (List (Nat × AV) → Prop) → Prop
 | _, [], env, K => K env
 | i, o :: rest, env, K => ∃ x, UOk P M l i env o x ∧ dstOk n o.dst = true ∧ UD P M l n (i + 1) rest (putEnv o.dst x env) K
theorem UD.mono {P : Program} {M : (Nat → Bool) → Mem} {ops : List Oper} {n : Nat} {K K' : List (Nat × AV) → Prop} (hk : ∀ env, K env → K' env) : ∀ {k : Nat} {l : List Oper} {env : List (Nat × AV)}, UD P M ops n k l env K → UD P M ops n k l env K'
 | _, [], _, h => hk _ h
 | _, _ :: _, _, ⟨x, h1, h2, h3⟩ => ⟨x, h1, h2, h3.mono hk⟩
section
variable {c : Ctx} {r : Option Nat} {P : Program} {l : List Oper} {st : St} {Q : Exit → Act → World → Prop}
end
structure VS where
 e : Nat
 d : Nat
 t : TypeId
 zs : List Value
 s : Nat
 ys : List AV
theorem nodup_at {α : Type} (f : α → Nat) {l pre post : List α} {v u : α} (h : (l.map f).Nodup) (hl : l = pre ++ v :: post) (hu : u ∈ pre ∨ u ∈ post) : f u ≠ f v := by
 subst hl
 rw [List.map_append, List.map_cons] at h
 have h2 := List.nodup_append.1 h
 rcases hu with hu | hu
 ·exact fun e => h2.2.2 (f u) (List.mem_map_of_mem hu) (f v) (by simp) e
 ·exact fun e => (List.nodup_cons.1 h2.2.1).1 (by rw [← e]; exact List.mem_map_of_mem hu)
theorem Upd.under {e e' : Ent} {H : List Ent} : ∀ (X : List Ent), Upd (X ++ e :: H) e e' (X ++ e' :: H)
 | [] => .head _ _ _
 | f :: X => .tail _ _ _ _ _ (Upd.under X)
section
variable {c : Ctx} {r : Option Nat} {P : Program} {l : List Oper} {Q : Exit → Act → World → Prop}
theorem EnvOk.vars {I : Imm} {w : World} {a : Act} {env : List (Nat × AV)} {bs : Nat → Nat} (h : EnvOk I w (envGet env) a) : ∀ (vs : List VS), (∀ v ∈ vs, a.tmps.getD v.d undef = .pointer (some ⟨bs v.d, 0, none⟩)) → EnvOk I w (envGet (vs.map (fun v => (v.d, AV.p (bs v.d) 0)) ++ env)) a
 | [], _ => h
 | v :: r, hv => fun t x hx => by
  rw [List.map_cons, List.cons_append, envGet_cons] at hx
  split at hx
  ·rename_i e
   cases hx
   subst e
   rw [hv v (.head _)]; exact .val _
  ·exact EnvOk.vars h r (fun u hu => hv u (.tail _ hu)) t x hx
end
section
variable {P : Program} {L rest : List Oper} {vs : List VS} {n i d : Nat} {o : Oper} {env : List (Nat × AV)} {K : List (Nat × AV) → Prop} {x : AV} {H : List Ent}
theorem UD.nil {M : (Nat → Bool) → Mem} (h : K env) : UD P M L n i [] env K := h
end
end Go.Eng
