/-
  NARROWER THAN 'FOR EVERY INPUT', by the rows' own cells (each row's printed sentence says how): MeanChecks: loops · MeanObjects: loops · MeanEvals: loops · MeanCalls: loops · MeanRuns: loops · MeanMore: loops · MeanKeeps: loops · MeanFirst: loops · MeanApart: loops · MeanJoins: loops.
  DERIVED. THE GIVEN ROWS OF THIS SEAT. 10 by the template 'for every input the law returns true; each argument reads behind the call as it read before'; 0 by the template 'total and deterministic' (their statements: YtkifepjiiokfpaaGreatTotals.lean).
  GIVEN WITH THE SEED: the statements are not yours to turn. If you find one false, say at which input.
  Laid BY PROGRAM, IN A SANDBOX (cutbox-rows.mjs): the forced cells as the released guide's own fill.sh prints them over the translation 58c4d891bccdd86b… (all of the seat's roots in one cut). By AI agents, Wed Nov 11 2026. No macro, syntax, notation, axiom, sorry.
-/
import Derived.Test.YtkifepjiiokfpaaGreatChecked
import GoSem.Claim
import GoSem.ClaimJoined
import GoSem.ClaimMapViews
import Derived.JoinedTies
import Derived.KernelRfl
namespace Go.Proofs.YtkifepjiiokfpaaGreat
/- THE CELL 'sum', in the pinned program and in every row, IS THE sha256 OF THE DUMP (.gsa) THAT YtkifepjiiokfpaaGreatProg.lean LOADS. Nothing in Lean hashes anything: it is a label: what it is worth is what the hold of that sum in a sandbox is worth. -/
noncomputable def Tryz.pinned : Pinned := { name := "ytkifepjiiokfpaagreat", sum := "58c4d891bccdd86b71512aec27669a671dd292e0c46f547eba0d78d3a3e45e03", checked := Tryz.checked }
namespace Rows
def none {H : Type} : Left H := { results := [], args := [] }

/-- 'consortlaw07.MeanChecks': WHATEVER THE INPUT: true; the input reads as it did. -/
def meanChecksSpec : ChangeSpec := { name := "meanChecks", fn := fun _ => fun
  | [d1, d2] => { results := [.lit (.bool true)], args := [d1, d2] }
  | _ => none }
def meanChecksRow : OpenClaim := { program := "ytkifepjiiokfpaagreat", sum := "58c4d891bccdd86b71512aec27669a671dd292e0c46f547eba0d78d3a3e45e03", func := "consort/consortlaw07.MeanChecks", spec := "meanChecks", unfollowed := true, recurses := true, loops := true, plainKeys := false, apart := false }
def MeanChecksSaid : Prop := meanChecksRow.holds Tryz.pinned (OpenSpec.ofChange meanChecksSpec)

/-- ITS FALSE NEIGHBOUR: 'it returns false'. Refute it at one input. -/
def meanChecksWrong : ChangeSpec := { name := "meanChecks", fn := fun _ => fun
  | [d1, d2] => { results := [.lit (.bool false)], args := [d1, d2] }
  | _ => none }
def MeanChecksWrongFalsely : Prop := meanChecksRow.holds Tryz.pinned (OpenSpec.ofChange meanChecksWrong)

/-- 'consortlaw07.MeanObjects': WHATEVER THE INPUT: true; the input reads as it did. -/
def meanObjectsSpec : ChangeSpec := { name := "meanObjects", fn := fun _ => fun
  | [d1, d2, d3, d4] => { results := [.lit (.bool true)], args := [d1, d2, d3, d4] }
  | _ => none }
def meanObjectsRow : OpenClaim := { program := "ytkifepjiiokfpaagreat", sum := "58c4d891bccdd86b71512aec27669a671dd292e0c46f547eba0d78d3a3e45e03", func := "consort/consortlaw07.MeanObjects", spec := "meanObjects", unfollowed := true, recurses := true, loops := true, plainKeys := false, apart := false }
def MeanObjectsSaid : Prop := meanObjectsRow.holds Tryz.pinned (OpenSpec.ofChange meanObjectsSpec)

/-- ITS FALSE NEIGHBOUR: 'it returns false'. Refute it at one input. -/
def meanObjectsWrong : ChangeSpec := { name := "meanObjects", fn := fun _ => fun
  | [d1, d2, d3, d4] => { results := [.lit (.bool false)], args := [d1, d2, d3, d4] }
  | _ => none }
def MeanObjectsWrongFalsely : Prop := meanObjectsRow.holds Tryz.pinned (OpenSpec.ofChange meanObjectsWrong)

/-- 'consortlaw07.MeanEvals': WHATEVER THE INPUT: true; the input reads as it did. -/
def meanEvalsSpec : ChangeSpec := { name := "meanEvals", fn := fun _ => fun
  | [d1, d2, d3, d4, d5] => { results := [.lit (.bool true)], args := [d1, d2, d3, d4, d5] }
  | _ => none }
def meanEvalsRow : OpenClaim := { program := "ytkifepjiiokfpaagreat", sum := "58c4d891bccdd86b71512aec27669a671dd292e0c46f547eba0d78d3a3e45e03", func := "consort/consortlaw07.MeanEvals", spec := "meanEvals", unfollowed := true, recurses := true, loops := true, plainKeys := false, apart := false }
def MeanEvalsSaid : Prop := meanEvalsRow.holds Tryz.pinned (OpenSpec.ofChange meanEvalsSpec)

/-- ITS FALSE NEIGHBOUR: 'it returns false'. Refute it at one input. -/
def meanEvalsWrong : ChangeSpec := { name := "meanEvals", fn := fun _ => fun
  | [d1, d2, d3, d4, d5] => { results := [.lit (.bool false)], args := [d1, d2, d3, d4, d5] }
  | _ => none }
def MeanEvalsWrongFalsely : Prop := meanEvalsRow.holds Tryz.pinned (OpenSpec.ofChange meanEvalsWrong)

/-- 'consortlaw07.MeanCalls': WHATEVER THE INPUT: true; the input reads as it did. -/
def meanCallsSpec : ChangeSpec := { name := "meanCalls", fn := fun _ => fun
  | [d1, d2, d3, d4, d5] => { results := [.lit (.bool true)], args := [d1, d2, d3, d4, d5] }
  | _ => none }
def meanCallsRow : OpenClaim := { program := "ytkifepjiiokfpaagreat", sum := "58c4d891bccdd86b71512aec27669a671dd292e0c46f547eba0d78d3a3e45e03", func := "consort/consortlaw07.MeanCalls", spec := "meanCalls", unfollowed := true, recurses := true, loops := true, plainKeys := false, apart := false }
def MeanCallsSaid : Prop := meanCallsRow.holds Tryz.pinned (OpenSpec.ofChange meanCallsSpec)

/-- ITS FALSE NEIGHBOUR: 'it returns false'. Refute it at one input. -/
def meanCallsWrong : ChangeSpec := { name := "meanCalls", fn := fun _ => fun
  | [d1, d2, d3, d4, d5] => { results := [.lit (.bool false)], args := [d1, d2, d3, d4, d5] }
  | _ => none }
def MeanCallsWrongFalsely : Prop := meanCallsRow.holds Tryz.pinned (OpenSpec.ofChange meanCallsWrong)

/-- 'consortlaw07.MeanRuns': WHATEVER THE INPUT: true; the input reads as it did. -/
def meanRunsSpec : ChangeSpec := { name := "meanRuns", fn := fun _ => fun
  | [d1, d2] => { results := [.lit (.bool true)], args := [d1, d2] }
  | _ => none }
def meanRunsRow : OpenClaim := { program := "ytkifepjiiokfpaagreat", sum := "58c4d891bccdd86b71512aec27669a671dd292e0c46f547eba0d78d3a3e45e03", func := "consort/consortlaw07.MeanRuns", spec := "meanRuns", unfollowed := true, recurses := true, loops := true, plainKeys := false, apart := false }
def MeanRunsSaid : Prop := meanRunsRow.holds Tryz.pinned (OpenSpec.ofChange meanRunsSpec)

/-- ITS FALSE NEIGHBOUR: 'it returns false'. Refute it at one input. -/
def meanRunsWrong : ChangeSpec := { name := "meanRuns", fn := fun _ => fun
  | [d1, d2] => { results := [.lit (.bool false)], args := [d1, d2] }
  | _ => none }
def MeanRunsWrongFalsely : Prop := meanRunsRow.holds Tryz.pinned (OpenSpec.ofChange meanRunsWrong)

/-- 'consortlaw07.MeanMore': WHATEVER THE INPUT: true; the input reads as it did. -/
def meanMoreSpec : ChangeSpec := { name := "meanMore", fn := fun _ => fun
  | [d1, d2, d3] => { results := [.lit (.bool true)], args := [d1, d2, d3] }
  | _ => none }
def meanMoreRow : OpenClaim := { program := "ytkifepjiiokfpaagreat", sum := "58c4d891bccdd86b71512aec27669a671dd292e0c46f547eba0d78d3a3e45e03", func := "consort/consortlaw07.MeanMore", spec := "meanMore", unfollowed := true, recurses := true, loops := true, plainKeys := false, apart := false }
def MeanMoreSaid : Prop := meanMoreRow.holds Tryz.pinned (OpenSpec.ofChange meanMoreSpec)

/-- ITS FALSE NEIGHBOUR: 'it returns false'. Refute it at one input. -/
def meanMoreWrong : ChangeSpec := { name := "meanMore", fn := fun _ => fun
  | [d1, d2, d3] => { results := [.lit (.bool false)], args := [d1, d2, d3] }
  | _ => none }
def MeanMoreWrongFalsely : Prop := meanMoreRow.holds Tryz.pinned (OpenSpec.ofChange meanMoreWrong)

/-- 'consortlaw07.MeanKeeps': WHATEVER THE INPUT: true; the input reads as it did. -/
def meanKeepsSpec : ChangeSpec := { name := "meanKeeps", fn := fun _ => fun
  | [d1, d2, d3, d4, d5] => { results := [.lit (.bool true)], args := [d1, d2, d3, d4, d5] }
  | _ => none }
def meanKeepsRow : OpenClaim := { program := "ytkifepjiiokfpaagreat", sum := "58c4d891bccdd86b71512aec27669a671dd292e0c46f547eba0d78d3a3e45e03", func := "consort/consortlaw07.MeanKeeps", spec := "meanKeeps", unfollowed := true, recurses := true, loops := true, plainKeys := false, apart := false }
def MeanKeepsSaid : Prop := meanKeepsRow.holds Tryz.pinned (OpenSpec.ofChange meanKeepsSpec)

/-- ITS FALSE NEIGHBOUR: 'it returns false'. Refute it at one input. -/
def meanKeepsWrong : ChangeSpec := { name := "meanKeeps", fn := fun _ => fun
  | [d1, d2, d3, d4, d5] => { results := [.lit (.bool false)], args := [d1, d2, d3, d4, d5] }
  | _ => none }
def MeanKeepsWrongFalsely : Prop := meanKeepsRow.holds Tryz.pinned (OpenSpec.ofChange meanKeepsWrong)

/-- 'consortlaw07.MeanFirst': WHATEVER THE INPUT: true; the input reads as it did. -/
def meanFirstSpec : ChangeSpec := { name := "meanFirst", fn := fun _ => fun
  | [d1, d2, d3, d4, d5] => { results := [.lit (.bool true)], args := [d1, d2, d3, d4, d5] }
  | _ => none }
def meanFirstRow : OpenClaim := { program := "ytkifepjiiokfpaagreat", sum := "58c4d891bccdd86b71512aec27669a671dd292e0c46f547eba0d78d3a3e45e03", func := "consort/consortlaw07.MeanFirst", spec := "meanFirst", unfollowed := true, recurses := true, loops := true, plainKeys := false, apart := false }
def MeanFirstSaid : Prop := meanFirstRow.holds Tryz.pinned (OpenSpec.ofChange meanFirstSpec)

/-- ITS FALSE NEIGHBOUR: 'it returns false'. Refute it at one input. -/
def meanFirstWrong : ChangeSpec := { name := "meanFirst", fn := fun _ => fun
  | [d1, d2, d3, d4, d5] => { results := [.lit (.bool false)], args := [d1, d2, d3, d4, d5] }
  | _ => none }
def MeanFirstWrongFalsely : Prop := meanFirstRow.holds Tryz.pinned (OpenSpec.ofChange meanFirstWrong)

/-- 'consortlaw07.MeanApart': WHATEVER THE INPUT: true; the input reads as it did. -/
def meanApartSpec : ChangeSpec := { name := "meanApart", fn := fun _ => fun
  | [d1, d2, d3] => { results := [.lit (.bool true)], args := [d1, d2, d3] }
  | _ => none }
def meanApartRow : OpenClaim := { program := "ytkifepjiiokfpaagreat", sum := "58c4d891bccdd86b71512aec27669a671dd292e0c46f547eba0d78d3a3e45e03", func := "consort/consortlaw07.MeanApart", spec := "meanApart", unfollowed := true, recurses := true, loops := true, plainKeys := false, apart := false }
def MeanApartSaid : Prop := meanApartRow.holds Tryz.pinned (OpenSpec.ofChange meanApartSpec)

/-- ITS FALSE NEIGHBOUR: 'it returns false'. Refute it at one input. -/
def meanApartWrong : ChangeSpec := { name := "meanApart", fn := fun _ => fun
  | [d1, d2, d3] => { results := [.lit (.bool false)], args := [d1, d2, d3] }
  | _ => none }
def MeanApartWrongFalsely : Prop := meanApartRow.holds Tryz.pinned (OpenSpec.ofChange meanApartWrong)

/-- 'consortlaw07.MeanJoins': WHATEVER THE INPUT: true; the input reads as it did. -/
def meanJoinsSpec : ChangeSpec := { name := "meanJoins", fn := fun _ => fun
  | [d1, d2, d3, d4, d5] => { results := [.lit (.bool true)], args := [d1, d2, d3, d4, d5] }
  | _ => none }
def meanJoinsRow : OpenClaim := { program := "ytkifepjiiokfpaagreat", sum := "58c4d891bccdd86b71512aec27669a671dd292e0c46f547eba0d78d3a3e45e03", func := "consort/consortlaw07.MeanJoins", spec := "meanJoins", unfollowed := true, recurses := true, loops := true, plainKeys := false, apart := false }
def MeanJoinsSaid : Prop := meanJoinsRow.holds Tryz.pinned (OpenSpec.ofChange meanJoinsSpec)

/-- ITS FALSE NEIGHBOUR: 'it returns false'. Refute it at one input. -/
def meanJoinsWrong : ChangeSpec := { name := "meanJoins", fn := fun _ => fun
  | [d1, d2, d3, d4, d5] => { results := [.lit (.bool false)], args := [d1, d2, d3, d4, d5] }
  | _ => none }
def MeanJoinsWrongFalsely : Prop := meanJoinsRow.holds Tryz.pinned (OpenSpec.ofChange meanJoinsWrong)

/- THE SECOND FORM. 'bulk': how many values and letters a reading holds, each counted each time it is reached (what is shared counts as often as it is met; a slice's spare places count too). A statement '..UptoSaid' is the law's where the arguments, and the package variables that the reading takes, are together of bulk at most 1048576: NARROWER than '..Said'. Prove '..Said' where nothing that the law and all that it calls make is longer than what came in: it says more and counts as full. Else prove '..UptoSaid'. A law counts once. -/
mutual
def uptoBulk {H : Type} : DataW H → Nat
  | .lit (.string bytes) => bytes.length + 1
  | .lit _ => 1
  | .nil => 1
  | .ptr d => uptoBulk d + 1
  | .slice elems spare => uptoBulkAll elems + uptoBulkAll spare + 1
  | .agg parts => uptoBulkAll parts + 1
  | .iface _ d => uptoBulk d + 1
  | .map entries => uptoBulkEntries entries + 1
  | .held _ => 1
def uptoBulkAll {H : Type} : List (DataW H) → Nat
  | [] => 0
  | d :: r => uptoBulk d + uptoBulkAll r
def uptoBulkEntries {H : Type} : List (Lit × DataW H) → Nat
  | [] => 0
  | x :: r => uptoBulkEntry x + uptoBulkEntries r
def uptoBulkEntry {H : Type} : Lit × DataW H → Nat
  | (.string bytes, d) => bytes.length + uptoBulk d + 1
  | (_, d) => uptoBulk d + 1
 end
def uptoSmall : (H : Type) → List (DataW H) → Bool := fun _ ds => decide (uptoBulkAll ds ≤ 1048576)
def OpenSpec.upto (s : _root_.Go.ChangeSpec) : _root_.Go.OpenSpec := { _root_.Go.OpenSpec.ofChange s with cond := some uptoSmall }

/-- 'consortlaw07.MeanChecks', WHERE WHAT IT READS IS OF BULK AT MOST 1048576: true; the input reads as it did. -/
def meanChecksUptoRow : OpenClaim := { program := "ytkifepjiiokfpaagreat", sum := "58c4d891bccdd86b71512aec27669a671dd292e0c46f547eba0d78d3a3e45e03", func := "consort/consortlaw07.MeanChecks", spec := "meanChecks", unfollowed := true, recurses := true, loops := true, plainKeys := false, apart := false, narrowed := true }
def MeanChecksUptoSaid : Prop := meanChecksUptoRow.holds Tryz.pinned (OpenSpec.upto meanChecksSpec)

/-- 'consortlaw07.MeanObjects', WHERE WHAT IT READS IS OF BULK AT MOST 1048576: true; the input reads as it did. -/
def meanObjectsUptoRow : OpenClaim := { program := "ytkifepjiiokfpaagreat", sum := "58c4d891bccdd86b71512aec27669a671dd292e0c46f547eba0d78d3a3e45e03", func := "consort/consortlaw07.MeanObjects", spec := "meanObjects", unfollowed := true, recurses := true, loops := true, plainKeys := false, apart := false, narrowed := true }
def MeanObjectsUptoSaid : Prop := meanObjectsUptoRow.holds Tryz.pinned (OpenSpec.upto meanObjectsSpec)

/-- 'consortlaw07.MeanEvals', WHERE WHAT IT READS IS OF BULK AT MOST 1048576: true; the input reads as it did. -/
def meanEvalsUptoRow : OpenClaim := { program := "ytkifepjiiokfpaagreat", sum := "58c4d891bccdd86b71512aec27669a671dd292e0c46f547eba0d78d3a3e45e03", func := "consort/consortlaw07.MeanEvals", spec := "meanEvals", unfollowed := true, recurses := true, loops := true, plainKeys := false, apart := false, narrowed := true }
def MeanEvalsUptoSaid : Prop := meanEvalsUptoRow.holds Tryz.pinned (OpenSpec.upto meanEvalsSpec)

/-- 'consortlaw07.MeanCalls', WHERE WHAT IT READS IS OF BULK AT MOST 1048576: true; the input reads as it did. -/
def meanCallsUptoRow : OpenClaim := { program := "ytkifepjiiokfpaagreat", sum := "58c4d891bccdd86b71512aec27669a671dd292e0c46f547eba0d78d3a3e45e03", func := "consort/consortlaw07.MeanCalls", spec := "meanCalls", unfollowed := true, recurses := true, loops := true, plainKeys := false, apart := false, narrowed := true }
def MeanCallsUptoSaid : Prop := meanCallsUptoRow.holds Tryz.pinned (OpenSpec.upto meanCallsSpec)

/-- 'consortlaw07.MeanRuns', WHERE WHAT IT READS IS OF BULK AT MOST 1048576: true; the input reads as it did. -/
def meanRunsUptoRow : OpenClaim := { program := "ytkifepjiiokfpaagreat", sum := "58c4d891bccdd86b71512aec27669a671dd292e0c46f547eba0d78d3a3e45e03", func := "consort/consortlaw07.MeanRuns", spec := "meanRuns", unfollowed := true, recurses := true, loops := true, plainKeys := false, apart := false, narrowed := true }
def MeanRunsUptoSaid : Prop := meanRunsUptoRow.holds Tryz.pinned (OpenSpec.upto meanRunsSpec)

/-- 'consortlaw07.MeanMore', WHERE WHAT IT READS IS OF BULK AT MOST 1048576: true; the input reads as it did. -/
def meanMoreUptoRow : OpenClaim := { program := "ytkifepjiiokfpaagreat", sum := "58c4d891bccdd86b71512aec27669a671dd292e0c46f547eba0d78d3a3e45e03", func := "consort/consortlaw07.MeanMore", spec := "meanMore", unfollowed := true, recurses := true, loops := true, plainKeys := false, apart := false, narrowed := true }
def MeanMoreUptoSaid : Prop := meanMoreUptoRow.holds Tryz.pinned (OpenSpec.upto meanMoreSpec)

/-- 'consortlaw07.MeanKeeps', WHERE WHAT IT READS IS OF BULK AT MOST 1048576: true; the input reads as it did. -/
def meanKeepsUptoRow : OpenClaim := { program := "ytkifepjiiokfpaagreat", sum := "58c4d891bccdd86b71512aec27669a671dd292e0c46f547eba0d78d3a3e45e03", func := "consort/consortlaw07.MeanKeeps", spec := "meanKeeps", unfollowed := true, recurses := true, loops := true, plainKeys := false, apart := false, narrowed := true }
def MeanKeepsUptoSaid : Prop := meanKeepsUptoRow.holds Tryz.pinned (OpenSpec.upto meanKeepsSpec)

/-- 'consortlaw07.MeanFirst', WHERE WHAT IT READS IS OF BULK AT MOST 1048576: true; the input reads as it did. -/
def meanFirstUptoRow : OpenClaim := { program := "ytkifepjiiokfpaagreat", sum := "58c4d891bccdd86b71512aec27669a671dd292e0c46f547eba0d78d3a3e45e03", func := "consort/consortlaw07.MeanFirst", spec := "meanFirst", unfollowed := true, recurses := true, loops := true, plainKeys := false, apart := false, narrowed := true }
def MeanFirstUptoSaid : Prop := meanFirstUptoRow.holds Tryz.pinned (OpenSpec.upto meanFirstSpec)

/-- 'consortlaw07.MeanApart', WHERE WHAT IT READS IS OF BULK AT MOST 1048576: true; the input reads as it did. -/
def meanApartUptoRow : OpenClaim := { program := "ytkifepjiiokfpaagreat", sum := "58c4d891bccdd86b71512aec27669a671dd292e0c46f547eba0d78d3a3e45e03", func := "consort/consortlaw07.MeanApart", spec := "meanApart", unfollowed := true, recurses := true, loops := true, plainKeys := false, apart := false, narrowed := true }
def MeanApartUptoSaid : Prop := meanApartUptoRow.holds Tryz.pinned (OpenSpec.upto meanApartSpec)

/-- 'consortlaw07.MeanJoins', WHERE WHAT IT READS IS OF BULK AT MOST 1048576: true; the input reads as it did. -/
def meanJoinsUptoRow : OpenClaim := { program := "ytkifepjiiokfpaagreat", sum := "58c4d891bccdd86b71512aec27669a671dd292e0c46f547eba0d78d3a3e45e03", func := "consort/consortlaw07.MeanJoins", spec := "meanJoins", unfollowed := true, recurses := true, loops := true, plainKeys := false, apart := false, narrowed := true }
def MeanJoinsUptoSaid : Prop := meanJoinsUptoRow.holds Tryz.pinned (OpenSpec.upto meanJoinsSpec)

end Rows
end Go.Proofs.YtkifepjiiokfpaaGreat
