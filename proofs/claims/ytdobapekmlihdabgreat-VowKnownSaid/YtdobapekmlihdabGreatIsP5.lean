/- Part 5 of the proof: contracts of functions of the program and what they need. No condition beyond those that each theorem names. -/
import Derived.Test.YtdobapekmlihdabGreatIsP4
set_option linter.unusedVariables false
namespace Go.Ev
open Go.Eng
def stepC (P : Program) (r : Run) (env : Tr CV) (c : Call) (s : S) : Option Ret :=
 match c.callee with
 | .value x => match ev env x, evs env c.args.toList with
  | some f, some xs => callV r f xs s
  | _, _ => none
 | .invoke x name => match ev env x, evs env c.args.toList with
  | some (.iface t v), some xs => match methV P t name with
   | some f => callV r (.fn f [] []) (v :: xs) s
   | none => none
  | _, _ => none
 | _ => o_call P env c s
def stepPan (env : Tr CV) (x : Operand) (s : S) : Option Ret := match ev env x with | some (.iface t v) => some (.pan (.iface t v) s) | _ => none
def mapF (P : Program) (env : Tr CV) (t : TypeId) (r : Option Operand) (s : S) : Option Ret := match r with
 | none => o_makeMap0 P env t s
 | some r => o_makeMap1 P env t r s
def stepF : Op → Program → Run → Tr CV → S → Option Ret
 | .call c => fun P r env s => stepC P r env c s
 | .panic x => fun _ _ env s => stepPan env x s
 | .move x => fun P _ env s => o_move P env x s
 | .assign x => fun P _ env s => o_move P env x s
 | .pick c a b => fun P _ env s => o_pick P env c a b s
 | .alloc t => fun P _ env s => o_alloc P env t s
 | .box t x => fun P _ env s => o_box P env t x s
 | .build t ps => fun P _ env s => o_build P env t ps s
 | .buildSlice t n ps => fun P _ env s => o_buildSlice P env t n ps s
 | .load t p => fun P _ env s => o_load P env t p s
 | .store t p x => fun P _ env s => o_store P env t p x s
 | .nilCheck x => fun P _ env s => o_nilCheck P env x s
 | .binOp op t x y _ => fun P _ env s => o_binOp P env op t x y s
 | .unOp op _ x => fun P _ env s => o_unOp P env op x s
 | .convert src dst x => fun P _ env s => o_convert P env src dst x s
 | .makeInterface t x => fun P _ env s => o_makeInterface P env t x s
 | .makeFunc fn first caps => fun P _ env s => o_makeFunc P env fn first caps s
 | .makeMap t r => fun P _ env s => mapF P env t r s
 | .makeSlice t l c => fun P _ env s => o_makeSlice P env t l c s
 | .slice t x lo hi mx => fun P _ env s => o_slice P env t x lo hi mx s
 | .fieldAddr t x f => fun P _ env s => o_fieldAddr P env t x f s
 | .field t x f => fun P _ env s => o_field P env t x f s
 | .indexAddr t x i => fun P _ env s => o_indexAddr P env t x i s
 | .index t x i => fun P _ env s => o_index P env t x i s
 | .lookup t m k ok => fun P _ env s => o_lookup P env t m k ok s
 | .mapUpdate t m k x => fun P _ env s => o_mapUpdate P env t m k x s
 | .insert t m k x => fun P _ env s => o_mapUpdate P env t m k x s
 | .mapEntry t m k => fun P _ env s => o_mapEntry P env t m k s
 | .entryStore _ m k x => fun P _ env s => o_entryStore P env m k x s
 | .extract x i => fun P _ env s => o_extract P env x i s
 | .typeAssert x _ t ok => fun P _ env s => o_typeAssert P env x t ok s
 | _ => fun _ _ _ _ => none
def stepOp' (P : Program) (r : Run) (env : Tr CV) (o : Oper) (s : S) : Option Ret := stepF o.op P r env s
theorem stepOp'_eq : @stepOp' = @stepOp := by
 funext P r env o s
 unfold stepOp' stepOp
 cases o.op with
 | call c => cases h : c.callee <;> simp only [stepF, stepC, opV, h] <;> rfl
 | makeMap t r => cases r <;> rfl
 | _ => rfl
def opF : Op → Program → Tr CV → S → Option Ret
 | .call c => fun P env s => o_call P env c s
 | .move x => fun P env s => o_move P env x s
 | .assign x => fun P env s => o_move P env x s
 | .pick c a b => fun P env s => o_pick P env c a b s
 | .alloc t => fun P env s => o_alloc P env t s
 | .box t x => fun P env s => o_box P env t x s
 | .build t ps => fun P env s => o_build P env t ps s
 | .buildSlice t n ps => fun P env s => o_buildSlice P env t n ps s
 | .load t p => fun P env s => o_load P env t p s
 | .store t p x => fun P env s => o_store P env t p x s
 | .nilCheck x => fun P env s => o_nilCheck P env x s
 | .binOp op t x y _ => fun P env s => o_binOp P env op t x y s
 | .unOp op _ x => fun P env s => o_unOp P env op x s
 | .convert src dst x => fun P env s => o_convert P env src dst x s
 | .makeInterface t x => fun P env s => o_makeInterface P env t x s
 | .makeFunc fn first caps => fun P env s => o_makeFunc P env fn first caps s
 | .makeMap t r => fun P env s => mapF P env t r s
 | .makeSlice t l c => fun P env s => o_makeSlice P env t l c s
 | .slice t x lo hi mx => fun P env s => o_slice P env t x lo hi mx s
 | .fieldAddr t x f => fun P env s => o_fieldAddr P env t x f s
 | .field t x f => fun P env s => o_field P env t x f s
 | .indexAddr t x i => fun P env s => o_indexAddr P env t x i s
 | .index t x i => fun P env s => o_index P env t x i s
 | .lookup t m k ok => fun P env s => o_lookup P env t m k ok s
 | .mapUpdate t m k x => fun P env s => o_mapUpdate P env t m k x s
 | .insert t m k x => fun P env s => o_mapUpdate P env t m k x s
 | .mapEntry t m k => fun P env s => o_mapEntry P env t m k s
 | .entryStore _ m k x => fun P env s => o_entryStore P env m k x s
 | .extract x i => fun P env s => o_extract P env x i s
 | .typeAssert x _ t ok => fun P env s => o_typeAssert P env x t ok s
 | _ => fun _ _ _ => none
def opV' (P : Program) (env : Tr CV) (o : Op) (s : S) : Option Ret := opF o P env s
theorem opV'_eq : @opV' = @opV := by
 funext P env o s
 unfold opV' opV
 cases o with
 | makeMap t r => cases r <;> rfl
 | _ => rfl
def regQ (o : Oper) (ih : Fr → S → Option (Ex × Fr × S)) (n : Nat) (env : Tr CV) (ds : List SD) (rr : Option Nat) (s : S) : Option (Ex × Fr × S) :=
 match o.op with
 | .defer c => match rr with
  | some _ => none
  | none => match deferV env c with
   | none => none
   | some d => match putE n o.dst (.tup []) env with | some env' => ih ⟨n, env', d :: ds, rr⟩ s | none => none
 | _ => none
def regS' (P : Program) (r : Run) (all : List Oper) : List Oper → Fr → S → Option (Ex × Fr × S)
 | [], fr, s => some (.normal, fr, s)
 | o :: rest, ⟨n, env, ds, rr⟩, s => match guardV all env o with
  | none => none
  | some false => match putE n o.dst (.tup []) env with | some env' => regS' P r all rest ⟨n, env', ds, rr⟩ s | none => none
  | some true => match stepOp P r env o s with
    | none => regQ o (fun fr s => regS' P r all rest fr s) n env ds rr s
    | some (.ok x s') => match putE n o.dst x env with | some env' => regS' P r all rest ⟨n, env', ds, rr⟩ s' | none => none
    | some (.pan x s') => some (.pan x, ⟨n, env, ds, rr⟩, s')
theorem regS'_law (P : Program) (r : Run) (all : List Oper) : ∀ l fr s, regS' P r all l fr s = regS P r all l fr s
 | [], fr, s => rfl
 | o :: rest, ⟨n, env, ds, rr⟩, s => by
  have ih : regS' P r all rest = regS P r all rest := by funext fr s; exact regS'_law P r all rest fr s
  unfold regS' regS
  rw [ih]
  cases guardV all env o with
  | none => rfl
  | some b => cases b with
   | false => rfl
   | true =>
    show (match stepOp P r env o s with
     | none => regQ o (fun fr s => regS P r all rest fr s) n env ds rr s
     | some (.ok x s') => match putE n o.dst x env with | some env' => regS P r all rest ⟨n, env', ds, rr⟩ s' | none => none
     | some (.pan x s') => some (.pan x, ⟨n, env, ds, rr⟩, s')) = _
    have hq : stepOp P r env o s = none ∨ ∀ c, o.op ≠ .defer c := by
     cases h : o.op with
     | defer c => exact .inl (by unfold stepOp; rw [h]; rfl)
     | _ => exact .inr (by intro c h'; cases h')
    unfold regQ
    cases h : o.op with
    | defer c =>
     have hn : stepOp P r env o s = none := by unfold stepOp; rw [h]; rfl
     rw [hn]
     rfl
    | _ => cases stepOp P r env o s with
     | none => rfl
     | some x => rfl
theorem regS'_eq : @regS' = @regS := by funext P r all l fr s; exact regS'_law P r all l fr s
def codeSeq (r : Run) (a b : Code) (fr : Fr) (s : S) : Option (Ex × Fr × S) := match r.code a fr s with
 | some (.normal, fr', s') => r.code b fr' s'
 | x => x
def codeCond (r : Run) (c : Operand) (a b : Code) (fr : Fr) (s : S) : Option (Ex × Fr × S) := match ev fr.env c with
 | some (.val (.bool true)) => r.code a fr s
 | some (.val (.bool false)) => r.code b fr s
 | _ => none
def codeBlock (r : Run) (id : Nat) (b : Code) (fr : Fr) (s : S) : Option (Ex × Fr × S) := match r.code b fr s with
 | some (.exit id', fr', s') => bif Nat.beq id' id then some (.normal, fr', s') else some (.exit id', fr', s')
 | x => x
def codeLoop (r : Run) (b : Code) (fr : Fr) (s : S) : Option (Ex × Fr × S) := match r.code b fr s with
 | some (.normal, fr', s') => r.code (.loop b) fr' s'
 | x => x
def codeScope (r : Run) (b : Code) (fr : Fr) (s : S) : Option (Ex × Fr × S) := match fr.rd with
 | none => r.code b fr s
 | some _ => none
def codeReg (P : Program) (r : Run) (ops : Array Oper) (draw : Bool) (fr : Fr) (s : S) : Option (Ex × Fr × S) := match draw with
 | false => regS P r ops.toList ops.toList fr s
 | true => bif drawOk ops.toList then regD P r ops.toList ops.toList 0 (masks ops.toList []) [] fr s else none
def codeF : Code → Program → Run → Fr → S → Option (Ex × Fr × S)
 | .skip => fun _ _ fr s => some (.normal, fr, s)
 | .label _ => fun _ _ fr s => some (.normal, fr, s)
 | .ret => fun _ _ fr s => some (.ret, fr, s)
 | .exit id => fun _ _ fr s => some (.exit id, fr, s)
 | .region _ ops draw => fun P r fr s => codeReg P r ops draw fr s
 | .seq a b => fun _ r fr s => codeSeq r a b fr s
 | .cond c a b => fun _ r fr s => codeCond r c a b fr s
 | .block id b => fun _ r fr s => codeBlock r id b fr s
 | .loop b => fun _ r fr s => codeLoop r b fr s
 | .scope b => fun _ r fr s => codeScope r b fr s
 | .rangeFunc g ps assign body => fun P r fr s => rangeN P r g ps.toList assign body fr s
 | _ => fun _ _ _ _ => none
def codeN' (P : Program) (r : Run) (c : Code) (fr : Fr) (s : S) : Option (Ex × Fr × S) := codeF c P r fr s
theorem codeN'_eq : @codeN' = @codeN := by
 funext P r c fr s
 unfold codeN' codeN
 cases c with
 | region id ops d => cases d <;> rfl
 | _ => rfl
end Go.Ev
