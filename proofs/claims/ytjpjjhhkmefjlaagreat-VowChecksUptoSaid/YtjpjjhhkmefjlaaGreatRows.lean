/-
  NARROWER THAN 'FOR EVERY INPUT', by the rows' own cells (each row's printed sentence says how): KindMays: loops · KindOutcomes: loops · VowWholes: loops · VowJudges: loops · VowChecks: loops.
  DERIVED. THE GIVEN ROWS OF THIS SEAT. 5 by the template 'for every input the law returns true; each argument reads behind the call as it read before'; 0 by the template 'total and deterministic' (their statements: YtjpjjhhkmefjlaaGreatTotals.lean).
  GIVEN WITH THE SEED: the statements are not yours to turn. If you find one false, say at which input.
  Laid BY PROGRAM, IN A SANDBOX (cutbox-rows.mjs): the forced cells as the released guide's own fill.sh prints them over the translation 237e4f7fb70db03d… (all of the seat's roots in one cut). By AI agents, Wed Nov 11 2026. No macro, syntax, notation, axiom, sorry.
-/
import Derived.Test.YtjpjjhhkmefjlaaGreatChecked
import GoSem.Claim
import GoSem.ClaimJoined
import GoSem.ClaimMapViews
import Derived.JoinedTies
import Derived.KernelRfl
namespace Go.Proofs.YtjpjjhhkmefjlaaGreat
/- THE CELL 'sum', in the pinned program and in every row, IS THE sha256 OF THE DUMP (.gsa) THAT YtjpjjhhkmefjlaaGreatProg.lean LOADS. Nothing in Lean hashes anything: it is a label: what it is worth is what the hold of that sum in a sandbox is worth. -/
noncomputable def Tryz.pinned : Pinned := { name := "ytjpjjhhkmefjlaagreat", sum := "237e4f7fb70db03da5462475e79cf1b355c43d1d60c4226da3633adf15204007", checked := Tryz.checked }
namespace Rows
def none {H : Type} : Left H := { results := [], args := [] }

/-- 'consortlaw18.KindMays': WHATEVER THE INPUT: true; the input reads as it did. -/
def kindMaysSpec : ChangeSpec := { name := "kindMays", fn := fun _ => fun
  | [d1, d2, d3, d4] => { results := [.lit (.bool true)], args := [d1, d2, d3, d4] }
  | _ => none }
def kindMaysRow : OpenClaim := { program := "ytjpjjhhkmefjlaagreat", sum := "237e4f7fb70db03da5462475e79cf1b355c43d1d60c4226da3633adf15204007", func := "consort/consortlaw18.KindMays", spec := "kindMays", unfollowed := true, recurses := true, loops := true, plainKeys := false, apart := false }
def KindMaysSaid : Prop := kindMaysRow.holds Tryz.pinned (OpenSpec.ofChange kindMaysSpec)

/-- ITS FALSE NEIGHBOUR: 'it returns false'. Refute it at one input. -/
def kindMaysWrong : ChangeSpec := { name := "kindMays", fn := fun _ => fun
  | [d1, d2, d3, d4] => { results := [.lit (.bool false)], args := [d1, d2, d3, d4] }
  | _ => none }
def KindMaysWrongFalsely : Prop := kindMaysRow.holds Tryz.pinned (OpenSpec.ofChange kindMaysWrong)

/-- 'consortlaw18.KindOutcomes': WHATEVER THE INPUT: true; the input reads as it did. -/
def kindOutcomesSpec : ChangeSpec := { name := "kindOutcomes", fn := fun _ => fun
  | [d1, d2, d3, d4] => { results := [.lit (.bool true)], args := [d1, d2, d3, d4] }
  | _ => none }
def kindOutcomesRow : OpenClaim := { program := "ytjpjjhhkmefjlaagreat", sum := "237e4f7fb70db03da5462475e79cf1b355c43d1d60c4226da3633adf15204007", func := "consort/consortlaw18.KindOutcomes", spec := "kindOutcomes", unfollowed := true, recurses := true, loops := true, plainKeys := false, apart := false }
def KindOutcomesSaid : Prop := kindOutcomesRow.holds Tryz.pinned (OpenSpec.ofChange kindOutcomesSpec)

/-- ITS FALSE NEIGHBOUR: 'it returns false'. Refute it at one input. -/
def kindOutcomesWrong : ChangeSpec := { name := "kindOutcomes", fn := fun _ => fun
  | [d1, d2, d3, d4] => { results := [.lit (.bool false)], args := [d1, d2, d3, d4] }
  | _ => none }
def KindOutcomesWrongFalsely : Prop := kindOutcomesRow.holds Tryz.pinned (OpenSpec.ofChange kindOutcomesWrong)

/-- 'consortlaw25.VowWholes': WHATEVER THE INPUT: true; the input reads as it did. -/
def vowWholesSpec : ChangeSpec := { name := "vowWholes", fn := fun _ => fun
  | [d] => { results := [.lit (.bool true)], args := [d] }
  | _ => none }
def vowWholesRow : OpenClaim := { program := "ytjpjjhhkmefjlaagreat", sum := "237e4f7fb70db03da5462475e79cf1b355c43d1d60c4226da3633adf15204007", func := "consort/consortlaw25.VowWholes", spec := "vowWholes", unfollowed := true, recurses := true, loops := true, plainKeys := false, apart := false }
def VowWholesSaid : Prop := vowWholesRow.holds Tryz.pinned (OpenSpec.ofChange vowWholesSpec)

/-- ITS FALSE NEIGHBOUR: 'it returns false'. Refute it at one input. -/
def vowWholesWrong : ChangeSpec := { name := "vowWholes", fn := fun _ => fun
  | [d] => { results := [.lit (.bool false)], args := [d] }
  | _ => none }
def VowWholesWrongFalsely : Prop := vowWholesRow.holds Tryz.pinned (OpenSpec.ofChange vowWholesWrong)

/-- 'consortlaw25.VowJudges': WHATEVER THE INPUT: true; the input reads as it did. -/
def vowJudgesSpec : ChangeSpec := { name := "vowJudges", fn := fun _ => fun
  | [d1, d2, d3] => { results := [.lit (.bool true)], args := [d1, d2, d3] }
  | _ => none }
def vowJudgesRow : OpenClaim := { program := "ytjpjjhhkmefjlaagreat", sum := "237e4f7fb70db03da5462475e79cf1b355c43d1d60c4226da3633adf15204007", func := "consort/consortlaw25.VowJudges", spec := "vowJudges", unfollowed := true, recurses := true, loops := true, plainKeys := false, apart := false }
def VowJudgesSaid : Prop := vowJudgesRow.holds Tryz.pinned (OpenSpec.ofChange vowJudgesSpec)

/-- ITS FALSE NEIGHBOUR: 'it returns false'. Refute it at one input. -/
def vowJudgesWrong : ChangeSpec := { name := "vowJudges", fn := fun _ => fun
  | [d1, d2, d3] => { results := [.lit (.bool false)], args := [d1, d2, d3] }
  | _ => none }
def VowJudgesWrongFalsely : Prop := vowJudgesRow.holds Tryz.pinned (OpenSpec.ofChange vowJudgesWrong)

/-- 'consortlaw25.VowChecks': WHATEVER THE INPUT: true; the input reads as it did. -/
def vowChecksSpec : ChangeSpec := { name := "vowChecks", fn := fun _ => fun
  | [d] => { results := [.lit (.bool true)], args := [d] }
  | _ => none }
def vowChecksRow : OpenClaim := { program := "ytjpjjhhkmefjlaagreat", sum := "237e4f7fb70db03da5462475e79cf1b355c43d1d60c4226da3633adf15204007", func := "consort/consortlaw25.VowChecks", spec := "vowChecks", unfollowed := true, recurses := true, loops := true, plainKeys := false, apart := false }
def VowChecksSaid : Prop := vowChecksRow.holds Tryz.pinned (OpenSpec.ofChange vowChecksSpec)

/-- ITS FALSE NEIGHBOUR: 'it returns false'. Refute it at one input. -/
def vowChecksWrong : ChangeSpec := { name := "vowChecks", fn := fun _ => fun
  | [d] => { results := [.lit (.bool false)], args := [d] }
  | _ => none }
def VowChecksWrongFalsely : Prop := vowChecksRow.holds Tryz.pinned (OpenSpec.ofChange vowChecksWrong)

/- THE SECOND FORM. 'bulk': how many values and letters a reading holds, each counted each time it is reached (what is shared counts as often as it is met; a slice's spare places count too). A statement '..UptoSaid' is the law's where the arguments, and the package variables that the reading takes, are together of bulk at most 1048576: NARROWER than '..Said'. Prove '..Said' where nothing that the law and all that it calls make is longer than what came in: it says more and counts as full. Else prove '..UptoSaid'. A law counts once. -/
mutual
def uptoBulk {H : Type} : DataW H → Nat
  | .lit (.string bytes) => bytes.length + 1
  | .lit _ => 1
  | .nil => 1
  | .ptr d => uptoBulk d + 1
  | .slice elems spare => uptoBulkAll elems + uptoBulkAll spare + 1
  | .agg parts => uptoBulkAll parts + 1
  | .iface _ d => uptoBulk d + 1
  | .map entries => uptoBulkEntries entries + 1
  | .held _ => 1
def uptoBulkAll {H : Type} : List (DataW H) → Nat
  | [] => 0
  | d :: r => uptoBulk d + uptoBulkAll r
def uptoBulkEntries {H : Type} : List (Lit × DataW H) → Nat
  | [] => 0
  | x :: r => uptoBulkEntry x + uptoBulkEntries r
def uptoBulkEntry {H : Type} : Lit × DataW H → Nat
  | (.string bytes, d) => bytes.length + uptoBulk d + 1
  | (_, d) => uptoBulk d + 1
 end
def uptoSmall : (H : Type) → List (DataW H) → Bool := fun _ ds => decide (uptoBulkAll ds ≤ 1048576)
def OpenSpec.upto (s : _root_.Go.ChangeSpec) : _root_.Go.OpenSpec := { _root_.Go.OpenSpec.ofChange s with cond := some uptoSmall }

/-- 'consortlaw18.KindMays', WHERE WHAT IT READS IS OF BULK AT MOST 1048576: true; the input reads as it did. -/
def kindMaysUptoRow : OpenClaim := { program := "ytjpjjhhkmefjlaagreat", sum := "237e4f7fb70db03da5462475e79cf1b355c43d1d60c4226da3633adf15204007", func := "consort/consortlaw18.KindMays", spec := "kindMays", unfollowed := true, recurses := true, loops := true, plainKeys := false, apart := false, narrowed := true }
def KindMaysUptoSaid : Prop := kindMaysUptoRow.holds Tryz.pinned (OpenSpec.upto kindMaysSpec)

/-- 'consortlaw18.KindOutcomes', WHERE WHAT IT READS IS OF BULK AT MOST 1048576: true; the input reads as it did. -/
def kindOutcomesUptoRow : OpenClaim := { program := "ytjpjjhhkmefjlaagreat", sum := "237e4f7fb70db03da5462475e79cf1b355c43d1d60c4226da3633adf15204007", func := "consort/consortlaw18.KindOutcomes", spec := "kindOutcomes", unfollowed := true, recurses := true, loops := true, plainKeys := false, apart := false, narrowed := true }
def KindOutcomesUptoSaid : Prop := kindOutcomesUptoRow.holds Tryz.pinned (OpenSpec.upto kindOutcomesSpec)

/-- 'consortlaw25.VowWholes', WHERE WHAT IT READS IS OF BULK AT MOST 1048576: true; the input reads as it did. -/
def vowWholesUptoRow : OpenClaim := { program := "ytjpjjhhkmefjlaagreat", sum := "237e4f7fb70db03da5462475e79cf1b355c43d1d60c4226da3633adf15204007", func := "consort/consortlaw25.VowWholes", spec := "vowWholes", unfollowed := true, recurses := true, loops := true, plainKeys := false, apart := false, narrowed := true }
def VowWholesUptoSaid : Prop := vowWholesUptoRow.holds Tryz.pinned (OpenSpec.upto vowWholesSpec)

/-- 'consortlaw25.VowJudges', WHERE WHAT IT READS IS OF BULK AT MOST 1048576: true; the input reads as it did. -/
def vowJudgesUptoRow : OpenClaim := { program := "ytjpjjhhkmefjlaagreat", sum := "237e4f7fb70db03da5462475e79cf1b355c43d1d60c4226da3633adf15204007", func := "consort/consortlaw25.VowJudges", spec := "vowJudges", unfollowed := true, recurses := true, loops := true, plainKeys := false, apart := false, narrowed := true }
def VowJudgesUptoSaid : Prop := vowJudgesUptoRow.holds Tryz.pinned (OpenSpec.upto vowJudgesSpec)

/-- 'consortlaw25.VowChecks', WHERE WHAT IT READS IS OF BULK AT MOST 1048576: true; the input reads as it did. -/
def vowChecksUptoRow : OpenClaim := { program := "ytjpjjhhkmefjlaagreat", sum := "237e4f7fb70db03da5462475e79cf1b355c43d1d60c4226da3633adf15204007", func := "consort/consortlaw25.VowChecks", spec := "vowChecks", unfollowed := true, recurses := true, loops := true, plainKeys := false, apart := false, narrowed := true }
def VowChecksUptoSaid : Prop := vowChecksUptoRow.holds Tryz.pinned (OpenSpec.upto vowChecksSpec)

end Rows
end Go.Proofs.YtjpjjhhkmefjlaaGreat
