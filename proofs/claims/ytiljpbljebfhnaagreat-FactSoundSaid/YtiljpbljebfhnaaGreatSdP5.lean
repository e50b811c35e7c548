/- Part 5 of the proof: contracts of functions of the program and what they need. No condition beyond those that each theorem names. -/
import Derived.Test.YtiljpbljebfhnaaGreatSdP4
set_option linter.unusedVariables false
namespace Go.Eng
theorem POp.lenR {P : Program} {H : List Ent} {ρ : Nat → Option AV} {o : Oper} {x : Operand} {t e k k' n : Nat} {v : Value} {cs : List AV} {g : Bool} [ht : HasSl P t k'] (h : o.op = .call { callee := .builtin .len, args := #[x], argTypes := #[t] }) (hx : aev ρ x = some (g, .val v)) (hg : g = true) (hm : Ent.row e k v n cs ∈ H) : POp P H ρ o (.i n) := by
 refine .sameH (by simp [h]) fun B I w f hH ho => ?_
 have h1 := rel_val (ho.get (by simp [h, Op.operands, Call.operands]) hx hg)
 obtain ⟨xs, hrow, _⟩ := hH _ hm
 rcases hrow.2 with ⟨rfl, rfl⟩ | ⟨b, cap, cur, rfl, _⟩
 ·exact ⟨.int .i64 0, by simp [execOp, h, h1, resolve, invoke, builtin, run_len_sl t none 0 0 (isSl_of ht.h) w], .val _⟩
 ·exact ⟨.int .i64 n, by simp [execOp, h, h1, resolve, invoke, builtin, run_len_sl t (some ⟨b, 0, none⟩) n cap (isSl_of ht.h) w], .val _⟩
end Go.Eng
