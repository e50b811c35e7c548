/-
  NARROWER THAN 'FOR EVERY INPUT', by the rows' own cells (each row's printed sentence says how): KindCloses: loops · KindInfers: loops · KindLeast: loops · KindMore: loops.
  DERIVED. THE GIVEN ROWS OF THIS SEAT. 4 by the template 'for every input the law returns true; each argument reads behind the call as it read before'; 0 by the template 'total and deterministic' (their statements: YtodccgailpkgeaaGreatTotals.lean).
  GIVEN WITH THE SEED: the statements are not yours to turn. If you find one false, say at which input.
  Laid BY PROGRAM, IN A SANDBOX (cutbox-rows.mjs): the forced cells as the released guide's own fill.sh prints them over the translation 90e55a8c5e819aa5… (all of the seat's roots in one cut). By AI agents, Wed Nov 11 2026. No macro, syntax, notation, axiom, sorry.
-/
import Derived.Test.YtodccgailpkgeaaGreatChecked
import GoSem.Claim
import GoSem.ClaimJoined
import GoSem.ClaimMapViews
import Derived.JoinedTies
import Derived.KernelRfl
namespace Go.Proofs.YtodccgailpkgeaaGreat
/- THE CELL 'sum', in the pinned program and in every row, IS THE sha256 OF THE DUMP (.gsa) THAT YtodccgailpkgeaaGreatProg.lean LOADS. Nothing in Lean hashes anything: it is a label: what it is worth is what the hold of that sum in a sandbox is worth. -/
noncomputable def Tryz.pinned : Pinned := { name := "ytodccgailpkgeaagreat", sum := "90e55a8c5e819aa5da925bf9b6d4fbc3e755d23aafaa43948b05c44ccaecf969", checked := Tryz.checked }
namespace Rows
def none {H : Type} : Left H := { results := [], args := [] }

/-- 'consortlaw18.KindCloses': WHATEVER THE INPUT: true; the input reads as it did. -/
def kindClosesSpec : ChangeSpec := { name := "kindCloses", fn := fun _ => fun
  | [d1, d2] => { results := [.lit (.bool true)], args := [d1, d2] }
  | _ => none }
def kindClosesRow : OpenClaim := { program := "ytodccgailpkgeaagreat", sum := "90e55a8c5e819aa5da925bf9b6d4fbc3e755d23aafaa43948b05c44ccaecf969", func := "consort/consortlaw18.KindCloses", spec := "kindCloses", unfollowed := true, recurses := true, loops := true, plainKeys := false, apart := false }
def KindClosesSaid : Prop := kindClosesRow.holds Tryz.pinned (OpenSpec.ofChange kindClosesSpec)

/-- ITS FALSE NEIGHBOUR: 'it returns false'. Refute it at one input. -/
def kindClosesWrong : ChangeSpec := { name := "kindCloses", fn := fun _ => fun
  | [d1, d2] => { results := [.lit (.bool false)], args := [d1, d2] }
  | _ => none }
def KindClosesWrongFalsely : Prop := kindClosesRow.holds Tryz.pinned (OpenSpec.ofChange kindClosesWrong)

/-- 'consortlaw18.KindInfers': WHATEVER THE INPUT: true; the input reads as it did. -/
def kindInfersSpec : ChangeSpec := { name := "kindInfers", fn := fun _ => fun
  | [d] => { results := [.lit (.bool true)], args := [d] }
  | _ => none }
def kindInfersRow : OpenClaim := { program := "ytodccgailpkgeaagreat", sum := "90e55a8c5e819aa5da925bf9b6d4fbc3e755d23aafaa43948b05c44ccaecf969", func := "consort/consortlaw18.KindInfers", spec := "kindInfers", unfollowed := true, recurses := true, loops := true, plainKeys := false, apart := false }
def KindInfersSaid : Prop := kindInfersRow.holds Tryz.pinned (OpenSpec.ofChange kindInfersSpec)

/-- ITS FALSE NEIGHBOUR: 'it returns false'. Refute it at one input. -/
def kindInfersWrong : ChangeSpec := { name := "kindInfers", fn := fun _ => fun
  | [d] => { results := [.lit (.bool false)], args := [d] }
  | _ => none }
def KindInfersWrongFalsely : Prop := kindInfersRow.holds Tryz.pinned (OpenSpec.ofChange kindInfersWrong)

/-- 'consortlaw18.KindLeast': WHATEVER THE INPUT: true; the input reads as it did. -/
def kindLeastSpec : ChangeSpec := { name := "kindLeast", fn := fun _ => fun
  | [d1, d2, d3] => { results := [.lit (.bool true)], args := [d1, d2, d3] }
  | _ => none }
def kindLeastRow : OpenClaim := { program := "ytodccgailpkgeaagreat", sum := "90e55a8c5e819aa5da925bf9b6d4fbc3e755d23aafaa43948b05c44ccaecf969", func := "consort/consortlaw18.KindLeast", spec := "kindLeast", unfollowed := true, recurses := true, loops := true, plainKeys := false, apart := false }
def KindLeastSaid : Prop := kindLeastRow.holds Tryz.pinned (OpenSpec.ofChange kindLeastSpec)

/-- ITS FALSE NEIGHBOUR: 'it returns false'. Refute it at one input. -/
def kindLeastWrong : ChangeSpec := { name := "kindLeast", fn := fun _ => fun
  | [d1, d2, d3] => { results := [.lit (.bool false)], args := [d1, d2, d3] }
  | _ => none }
def KindLeastWrongFalsely : Prop := kindLeastRow.holds Tryz.pinned (OpenSpec.ofChange kindLeastWrong)

/-- 'consortlaw18.KindMore': WHATEVER THE INPUT: true; the input reads as it did. -/
def kindMoreSpec : ChangeSpec := { name := "kindMore", fn := fun _ => fun
  | [d1, d2] => { results := [.lit (.bool true)], args := [d1, d2] }
  | _ => none }
def kindMoreRow : OpenClaim := { program := "ytodccgailpkgeaagreat", sum := "90e55a8c5e819aa5da925bf9b6d4fbc3e755d23aafaa43948b05c44ccaecf969", func := "consort/consortlaw18.KindMore", spec := "kindMore", unfollowed := true, recurses := true, loops := true, plainKeys := false, apart := false }
def KindMoreSaid : Prop := kindMoreRow.holds Tryz.pinned (OpenSpec.ofChange kindMoreSpec)

/-- ITS FALSE NEIGHBOUR: 'it returns false'. Refute it at one input. -/
def kindMoreWrong : ChangeSpec := { name := "kindMore", fn := fun _ => fun
  | [d1, d2] => { results := [.lit (.bool false)], args := [d1, d2] }
  | _ => none }
def KindMoreWrongFalsely : Prop := kindMoreRow.holds Tryz.pinned (OpenSpec.ofChange kindMoreWrong)

/- THE SECOND FORM. 'bulk': how many values and letters a reading holds, each counted each time it is reached (what is shared counts as often as it is met; a slice's spare places count too). A statement '..UptoSaid' is the law's where the arguments, and the package variables that the reading takes, are together of bulk at most 1048576: NARROWER than '..Said'. Prove '..Said' where nothing that the law and all that it calls make is longer than what came in: it says more and counts as full. Else prove '..UptoSaid'. A law counts once. -/
mutual
def uptoBulk {H : Type} : DataW H → Nat
  | .lit (.string bytes) => bytes.length + 1
  | .lit _ => 1
  | .nil => 1
  | .ptr d => uptoBulk d + 1
  | .slice elems spare => uptoBulkAll elems + uptoBulkAll spare + 1
  | .agg parts => uptoBulkAll parts + 1
  | .iface _ d => uptoBulk d + 1
  | .map entries => uptoBulkEntries entries + 1
  | .held _ => 1
def uptoBulkAll {H : Type} : List (DataW H) → Nat
  | [] => 0
  | d :: r => uptoBulk d + uptoBulkAll r
def uptoBulkEntries {H : Type} : List (Lit × DataW H) → Nat
  | [] => 0
  | x :: r => uptoBulkEntry x + uptoBulkEntries r
def uptoBulkEntry {H : Type} : Lit × DataW H → Nat
  | (.string bytes, d) => bytes.length + uptoBulk d + 1
  | (_, d) => uptoBulk d + 1
 end
def uptoSmall : (H : Type) → List (DataW H) → Bool := fun _ ds => decide (uptoBulkAll ds ≤ 1048576)
def OpenSpec.upto (s : _root_.Go.ChangeSpec) : _root_.Go.OpenSpec := { _root_.Go.OpenSpec.ofChange s with cond := some uptoSmall }

/-- 'consortlaw18.KindCloses', WHERE WHAT IT READS IS OF BULK AT MOST 1048576: true; the input reads as it did. -/
def kindClosesUptoRow : OpenClaim := { program := "ytodccgailpkgeaagreat", sum := "90e55a8c5e819aa5da925bf9b6d4fbc3e755d23aafaa43948b05c44ccaecf969", func := "consort/consortlaw18.KindCloses", spec := "kindCloses", unfollowed := true, recurses := true, loops := true, plainKeys := false, apart := false, narrowed := true }
def KindClosesUptoSaid : Prop := kindClosesUptoRow.holds Tryz.pinned (OpenSpec.upto kindClosesSpec)

/-- 'consortlaw18.KindInfers', WHERE WHAT IT READS IS OF BULK AT MOST 1048576: true; the input reads as it did. -/
def kindInfersUptoRow : OpenClaim := { program := "ytodccgailpkgeaagreat", sum := "90e55a8c5e819aa5da925bf9b6d4fbc3e755d23aafaa43948b05c44ccaecf969", func := "consort/consortlaw18.KindInfers", spec := "kindInfers", unfollowed := true, recurses := true, loops := true, plainKeys := false, apart := false, narrowed := true }
def KindInfersUptoSaid : Prop := kindInfersUptoRow.holds Tryz.pinned (OpenSpec.upto kindInfersSpec)

/-- 'consortlaw18.KindLeast', WHERE WHAT IT READS IS OF BULK AT MOST 1048576: true; the input reads as it did. -/
def kindLeastUptoRow : OpenClaim := { program := "ytodccgailpkgeaagreat", sum := "90e55a8c5e819aa5da925bf9b6d4fbc3e755d23aafaa43948b05c44ccaecf969", func := "consort/consortlaw18.KindLeast", spec := "kindLeast", unfollowed := true, recurses := true, loops := true, plainKeys := false, apart := false, narrowed := true }
def KindLeastUptoSaid : Prop := kindLeastUptoRow.holds Tryz.pinned (OpenSpec.upto kindLeastSpec)

/-- 'consortlaw18.KindMore', WHERE WHAT IT READS IS OF BULK AT MOST 1048576: true; the input reads as it did. -/
def kindMoreUptoRow : OpenClaim := { program := "ytodccgailpkgeaagreat", sum := "90e55a8c5e819aa5da925bf9b6d4fbc3e755d23aafaa43948b05c44ccaecf969", func := "consort/consortlaw18.KindMore", spec := "kindMore", unfollowed := true, recurses := true, loops := true, plainKeys := false, apart := false, narrowed := true }
def KindMoreUptoSaid : Prop := kindMoreUptoRow.holds Tryz.pinned (OpenSpec.upto kindMoreSpec)

end Rows
end Go.Proofs.YtodccgailpkgeaaGreat
