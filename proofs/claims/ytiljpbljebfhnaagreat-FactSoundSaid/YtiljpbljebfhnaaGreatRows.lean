/-
  NARROWER THAN 'FOR EVERY INPUT', by the rows' own cells (each row's printed sentence says how): FactCases: loops · FactImplies: loops · FactShorts: loops · FactOpen: loops · FactOrder: loops · FactShorter: loops · FactFormed: loops · FactProofs: loops · FactProved: loops · FactModels: loops · FactHolds: loops · FactCased: loops · FactSound: loops.
  DERIVED. THE GIVEN ROWS OF THIS SEAT. 14 by the template 'for every input the law returns true; each argument reads behind the call as it read before'; 0 by the template 'total and deterministic' (their statements: YtiljpbljebfhnaaGreatTotals.lean).
  GIVEN WITH THE SEED: the statements are not yours to turn. If you find one false, say at which input.
  Laid BY PROGRAM, IN A SANDBOX (cutbox-rows.mjs): the forced cells as the released guide's own fill.sh prints them over the translation 1e6248d07aeb9d7b… (all of the seat's roots in one cut). By AI agents, Wed Nov 11 2026. No macro, syntax, notation, axiom, sorry.
-/
import Derived.Test.YtiljpbljebfhnaaGreatChecked
import GoSem.Claim
import GoSem.ClaimJoined
import GoSem.ClaimMapViews
import Derived.JoinedTies
import Derived.KernelRfl
namespace Go.Proofs.YtiljpbljebfhnaaGreat
/- THE CELL 'sum', in the pinned program and in every row, IS THE sha256 OF THE DUMP (.gsa) THAT YtiljpbljebfhnaaGreatProg.lean LOADS. Nothing in Lean hashes anything: it is a label: what it is worth is what the hold of that sum in a sandbox is worth. -/
noncomputable def Tryz.pinned : Pinned := { name := "ytiljpbljebfhnaagreat", sum := "1e6248d07aeb9d7b35ef02eb89e8072e61f0139f96f15a69b7333cdc7ae20681", checked := Tryz.checked }
namespace Rows
def none {H : Type} : Left H := { results := [], args := [] }

/-- 'consortlaw04.FactCases': WHATEVER THE INPUT: true; the input reads as it did. -/
def factCasesSpec : ChangeSpec := { name := "factCases", fn := fun _ => fun
  | [d] => { results := [.lit (.bool true)], args := [d] }
  | _ => none }
def factCasesRow : OpenClaim := { program := "ytiljpbljebfhnaagreat", sum := "1e6248d07aeb9d7b35ef02eb89e8072e61f0139f96f15a69b7333cdc7ae20681", func := "consort/consortlaw04.FactCases", spec := "factCases", unfollowed := true, recurses := true, loops := true, plainKeys := false, apart := false }
def FactCasesSaid : Prop := factCasesRow.holds Tryz.pinned (OpenSpec.ofChange factCasesSpec)

/-- ITS FALSE NEIGHBOUR: 'it returns false'. Refute it at one input. -/
def factCasesWrong : ChangeSpec := { name := "factCases", fn := fun _ => fun
  | [d] => { results := [.lit (.bool false)], args := [d] }
  | _ => none }
def FactCasesWrongFalsely : Prop := factCasesRow.holds Tryz.pinned (OpenSpec.ofChange factCasesWrong)

/-- 'consortlaw04.FactImplies': WHATEVER THE INPUT: true; the input reads as it did. -/
def factImpliesSpec : ChangeSpec := { name := "factImplies", fn := fun _ => fun
  | [d] => { results := [.lit (.bool true)], args := [d] }
  | _ => none }
def factImpliesRow : OpenClaim := { program := "ytiljpbljebfhnaagreat", sum := "1e6248d07aeb9d7b35ef02eb89e8072e61f0139f96f15a69b7333cdc7ae20681", func := "consort/consortlaw04.FactImplies", spec := "factImplies", unfollowed := true, recurses := true, loops := true, plainKeys := false, apart := false }
def FactImpliesSaid : Prop := factImpliesRow.holds Tryz.pinned (OpenSpec.ofChange factImpliesSpec)

/-- ITS FALSE NEIGHBOUR: 'it returns false'. Refute it at one input. -/
def factImpliesWrong : ChangeSpec := { name := "factImplies", fn := fun _ => fun
  | [d] => { results := [.lit (.bool false)], args := [d] }
  | _ => none }
def FactImpliesWrongFalsely : Prop := factImpliesRow.holds Tryz.pinned (OpenSpec.ofChange factImpliesWrong)

/-- 'consortlaw04.FactShorts': WHATEVER THE INPUT: true; the input reads as it did. -/
def factShortsSpec : ChangeSpec := { name := "factShorts", fn := fun _ => fun
  | [d] => { results := [.lit (.bool true)], args := [d] }
  | _ => none }
def factShortsRow : OpenClaim := { program := "ytiljpbljebfhnaagreat", sum := "1e6248d07aeb9d7b35ef02eb89e8072e61f0139f96f15a69b7333cdc7ae20681", func := "consort/consortlaw04.FactShorts", spec := "factShorts", unfollowed := true, recurses := true, loops := true, plainKeys := false, apart := false }
def FactShortsSaid : Prop := factShortsRow.holds Tryz.pinned (OpenSpec.ofChange factShortsSpec)

/-- ITS FALSE NEIGHBOUR: 'it returns false'. Refute it at one input. -/
def factShortsWrong : ChangeSpec := { name := "factShorts", fn := fun _ => fun
  | [d] => { results := [.lit (.bool false)], args := [d] }
  | _ => none }
def FactShortsWrongFalsely : Prop := factShortsRow.holds Tryz.pinned (OpenSpec.ofChange factShortsWrong)

/-- 'consortlaw04.FactOpen': WHATEVER THE INPUT: true; the input reads as it did. -/
def factOpenSpec : ChangeSpec := { name := "factOpen", fn := fun _ => fun
  | [d1, d2, d3] => { results := [.lit (.bool true)], args := [d1, d2, d3] }
  | _ => none }
def factOpenRow : OpenClaim := { program := "ytiljpbljebfhnaagreat", sum := "1e6248d07aeb9d7b35ef02eb89e8072e61f0139f96f15a69b7333cdc7ae20681", func := "consort/consortlaw04.FactOpen", spec := "factOpen", unfollowed := true, recurses := true, loops := true, plainKeys := false, apart := false }
def FactOpenSaid : Prop := factOpenRow.holds Tryz.pinned (OpenSpec.ofChange factOpenSpec)

/-- ITS FALSE NEIGHBOUR: 'it returns false'. Refute it at one input. -/
def factOpenWrong : ChangeSpec := { name := "factOpen", fn := fun _ => fun
  | [d1, d2, d3] => { results := [.lit (.bool false)], args := [d1, d2, d3] }
  | _ => none }
def FactOpenWrongFalsely : Prop := factOpenRow.holds Tryz.pinned (OpenSpec.ofChange factOpenWrong)

/-- 'consortlaw04.FactKnown': WHATEVER THE INPUT: true; the input reads as it did. -/
def factKnownSpec : ChangeSpec := { name := "factKnown", fn := fun _ => fun
  | [] => { results := [.lit (.bool true)], args := [] }
  | _ => none }
def factKnownRow : OpenClaim := { program := "ytiljpbljebfhnaagreat", sum := "1e6248d07aeb9d7b35ef02eb89e8072e61f0139f96f15a69b7333cdc7ae20681", func := "consort/consortlaw04.FactKnown", spec := "factKnown", unfollowed := true, recurses := true, plainKeys := false, apart := false }
def FactKnownSaid : Prop := factKnownRow.holds Tryz.pinned (OpenSpec.ofChange factKnownSpec)

/-- ITS FALSE NEIGHBOUR: 'it returns false'. Refute it at one input. -/
def factKnownWrong : ChangeSpec := { name := "factKnown", fn := fun _ => fun
  | [] => { results := [.lit (.bool false)], args := [] }
  | _ => none }
def FactKnownWrongFalsely : Prop := factKnownRow.holds Tryz.pinned (OpenSpec.ofChange factKnownWrong)

/-- 'consortlaw04.FactOrder': WHATEVER THE INPUT: true; the input reads as it did. -/
def factOrderSpec : ChangeSpec := { name := "factOrder", fn := fun _ => fun
  | [d1, d2] => { results := [.lit (.bool true)], args := [d1, d2] }
  | _ => none }
def factOrderRow : OpenClaim := { program := "ytiljpbljebfhnaagreat", sum := "1e6248d07aeb9d7b35ef02eb89e8072e61f0139f96f15a69b7333cdc7ae20681", func := "consort/consortlaw04.FactOrder", spec := "factOrder", unfollowed := true, recurses := true, loops := true, plainKeys := false, apart := false }
def FactOrderSaid : Prop := factOrderRow.holds Tryz.pinned (OpenSpec.ofChange factOrderSpec)

/-- ITS FALSE NEIGHBOUR: 'it returns false'. Refute it at one input. -/
def factOrderWrong : ChangeSpec := { name := "factOrder", fn := fun _ => fun
  | [d1, d2] => { results := [.lit (.bool false)], args := [d1, d2] }
  | _ => none }
def FactOrderWrongFalsely : Prop := factOrderRow.holds Tryz.pinned (OpenSpec.ofChange factOrderWrong)

/-- 'consortlaw04.FactShorter': WHATEVER THE INPUT: true; the input reads as it did. -/
def factShorterSpec : ChangeSpec := { name := "factShorter", fn := fun _ => fun
  | [d] => { results := [.lit (.bool true)], args := [d] }
  | _ => none }
def factShorterRow : OpenClaim := { program := "ytiljpbljebfhnaagreat", sum := "1e6248d07aeb9d7b35ef02eb89e8072e61f0139f96f15a69b7333cdc7ae20681", func := "consort/consortlaw04.FactShorter", spec := "factShorter", unfollowed := true, recurses := true, loops := true, plainKeys := false, apart := false }
def FactShorterSaid : Prop := factShorterRow.holds Tryz.pinned (OpenSpec.ofChange factShorterSpec)

/-- ITS FALSE NEIGHBOUR: 'it returns false'. Refute it at one input. -/
def factShorterWrong : ChangeSpec := { name := "factShorter", fn := fun _ => fun
  | [d] => { results := [.lit (.bool false)], args := [d] }
  | _ => none }
def FactShorterWrongFalsely : Prop := factShorterRow.holds Tryz.pinned (OpenSpec.ofChange factShorterWrong)

/-- 'consortlaw04.FactFormed': WHATEVER THE INPUT: true; the input reads as it did. -/
def factFormedSpec : ChangeSpec := { name := "factFormed", fn := fun _ => fun
  | [d1, d2, d3] => { results := [.lit (.bool true)], args := [d1, d2, d3] }
  | _ => none }
def factFormedRow : OpenClaim := { program := "ytiljpbljebfhnaagreat", sum := "1e6248d07aeb9d7b35ef02eb89e8072e61f0139f96f15a69b7333cdc7ae20681", func := "consort/consortlaw04.FactFormed", spec := "factFormed", unfollowed := true, recurses := true, loops := true, plainKeys := false, apart := false }
def FactFormedSaid : Prop := factFormedRow.holds Tryz.pinned (OpenSpec.ofChange factFormedSpec)

/-- ITS FALSE NEIGHBOUR: 'it returns false'. Refute it at one input. -/
def factFormedWrong : ChangeSpec := { name := "factFormed", fn := fun _ => fun
  | [d1, d2, d3] => { results := [.lit (.bool false)], args := [d1, d2, d3] }
  | _ => none }
def FactFormedWrongFalsely : Prop := factFormedRow.holds Tryz.pinned (OpenSpec.ofChange factFormedWrong)

/-- 'consortlaw04.FactProofs': WHATEVER THE INPUT: true; the input reads as it did. -/
def factProofsSpec : ChangeSpec := { name := "factProofs", fn := fun _ => fun
  | [d1, d2] => { results := [.lit (.bool true)], args := [d1, d2] }
  | _ => none }
def factProofsRow : OpenClaim := { program := "ytiljpbljebfhnaagreat", sum := "1e6248d07aeb9d7b35ef02eb89e8072e61f0139f96f15a69b7333cdc7ae20681", func := "consort/consortlaw04.FactProofs", spec := "factProofs", unfollowed := true, recurses := true, loops := true, plainKeys := false, apart := false }
def FactProofsSaid : Prop := factProofsRow.holds Tryz.pinned (OpenSpec.ofChange factProofsSpec)

/-- ITS FALSE NEIGHBOUR: 'it returns false'. Refute it at one input. -/
def factProofsWrong : ChangeSpec := { name := "factProofs", fn := fun _ => fun
  | [d1, d2] => { results := [.lit (.bool false)], args := [d1, d2] }
  | _ => none }
def FactProofsWrongFalsely : Prop := factProofsRow.holds Tryz.pinned (OpenSpec.ofChange factProofsWrong)

/-- 'consortlaw04.FactProved': WHATEVER THE INPUT: true; the input reads as it did. -/
def factProvedSpec : ChangeSpec := { name := "factProved", fn := fun _ => fun
  | [d1, d2, d3] => { results := [.lit (.bool true)], args := [d1, d2, d3] }
  | _ => none }
def factProvedRow : OpenClaim := { program := "ytiljpbljebfhnaagreat", sum := "1e6248d07aeb9d7b35ef02eb89e8072e61f0139f96f15a69b7333cdc7ae20681", func := "consort/consortlaw04.FactProved", spec := "factProved", unfollowed := true, recurses := true, loops := true, plainKeys := false, apart := false }
def FactProvedSaid : Prop := factProvedRow.holds Tryz.pinned (OpenSpec.ofChange factProvedSpec)

/-- ITS FALSE NEIGHBOUR: 'it returns false'. Refute it at one input. -/
def factProvedWrong : ChangeSpec := { name := "factProved", fn := fun _ => fun
  | [d1, d2, d3] => { results := [.lit (.bool false)], args := [d1, d2, d3] }
  | _ => none }
def FactProvedWrongFalsely : Prop := factProvedRow.holds Tryz.pinned (OpenSpec.ofChange factProvedWrong)

/-- 'consortlaw04.FactModels': WHATEVER THE INPUT: true; the input reads as it did. -/
def factModelsSpec : ChangeSpec := { name := "factModels", fn := fun _ => fun
  | [d] => { results := [.lit (.bool true)], args := [d] }
  | _ => none }
def factModelsRow : OpenClaim := { program := "ytiljpbljebfhnaagreat", sum := "1e6248d07aeb9d7b35ef02eb89e8072e61f0139f96f15a69b7333cdc7ae20681", func := "consort/consortlaw04.FactModels", spec := "factModels", unfollowed := true, recurses := true, loops := true, plainKeys := false, apart := false }
def FactModelsSaid : Prop := factModelsRow.holds Tryz.pinned (OpenSpec.ofChange factModelsSpec)

/-- ITS FALSE NEIGHBOUR: 'it returns false'. Refute it at one input. -/
def factModelsWrong : ChangeSpec := { name := "factModels", fn := fun _ => fun
  | [d] => { results := [.lit (.bool false)], args := [d] }
  | _ => none }
def FactModelsWrongFalsely : Prop := factModelsRow.holds Tryz.pinned (OpenSpec.ofChange factModelsWrong)

/-- 'consortlaw04.FactHolds': WHATEVER THE INPUT: true; the input reads as it did. -/
def factHoldsSpec : ChangeSpec := { name := "factHolds", fn := fun _ => fun
  | [d] => { results := [.lit (.bool true)], args := [d] }
  | _ => none }
def factHoldsRow : OpenClaim := { program := "ytiljpbljebfhnaagreat", sum := "1e6248d07aeb9d7b35ef02eb89e8072e61f0139f96f15a69b7333cdc7ae20681", func := "consort/consortlaw04.FactHolds", spec := "factHolds", unfollowed := true, recurses := true, loops := true, plainKeys := false, apart := false }
def FactHoldsSaid : Prop := factHoldsRow.holds Tryz.pinned (OpenSpec.ofChange factHoldsSpec)

/-- ITS FALSE NEIGHBOUR: 'it returns false'. Refute it at one input. -/
def factHoldsWrong : ChangeSpec := { name := "factHolds", fn := fun _ => fun
  | [d] => { results := [.lit (.bool false)], args := [d] }
  | _ => none }
def FactHoldsWrongFalsely : Prop := factHoldsRow.holds Tryz.pinned (OpenSpec.ofChange factHoldsWrong)

/-- 'consortlaw04.FactCased': WHATEVER THE INPUT: true; the input reads as it did. -/
def factCasedSpec : ChangeSpec := { name := "factCased", fn := fun _ => fun
  | [d] => { results := [.lit (.bool true)], args := [d] }
  | _ => none }
def factCasedRow : OpenClaim := { program := "ytiljpbljebfhnaagreat", sum := "1e6248d07aeb9d7b35ef02eb89e8072e61f0139f96f15a69b7333cdc7ae20681", func := "consort/consortlaw04.FactCased", spec := "factCased", unfollowed := true, recurses := true, loops := true, plainKeys := false, apart := false }
def FactCasedSaid : Prop := factCasedRow.holds Tryz.pinned (OpenSpec.ofChange factCasedSpec)

/-- ITS FALSE NEIGHBOUR: 'it returns false'. Refute it at one input. -/
def factCasedWrong : ChangeSpec := { name := "factCased", fn := fun _ => fun
  | [d] => { results := [.lit (.bool false)], args := [d] }
  | _ => none }
def FactCasedWrongFalsely : Prop := factCasedRow.holds Tryz.pinned (OpenSpec.ofChange factCasedWrong)

/-- 'consortlaw04.FactSound': WHATEVER THE INPUT: true; the input reads as it did. -/
def factSoundSpec : ChangeSpec := { name := "factSound", fn := fun _ => fun
  | [d] => { results := [.lit (.bool true)], args := [d] }
  | _ => none }
def factSoundRow : OpenClaim := { program := "ytiljpbljebfhnaagreat", sum := "1e6248d07aeb9d7b35ef02eb89e8072e61f0139f96f15a69b7333cdc7ae20681", func := "consort/consortlaw04.FactSound", spec := "factSound", unfollowed := true, recurses := true, loops := true, plainKeys := false, apart := false }
def FactSoundSaid : Prop := factSoundRow.holds Tryz.pinned (OpenSpec.ofChange factSoundSpec)

/-- ITS FALSE NEIGHBOUR: 'it returns false'. Refute it at one input. -/
def factSoundWrong : ChangeSpec := { name := "factSound", fn := fun _ => fun
  | [d] => { results := [.lit (.bool false)], args := [d] }
  | _ => none }
def FactSoundWrongFalsely : Prop := factSoundRow.holds Tryz.pinned (OpenSpec.ofChange factSoundWrong)

/- THE SECOND FORM. 'bulk': how many values and letters a reading holds, each counted each time it is reached (what is shared counts as often as it is met; a slice's spare places count too). A statement '..UptoSaid' is the law's where the arguments, and the package variables that the reading takes, are together of bulk at most 1048576: NARROWER than '..Said'. Prove '..Said' where nothing that the law and all that it calls make is longer than what came in: it says more and counts as full. Else prove '..UptoSaid'. A law counts once. -/
mutual
def uptoBulk {H : Type} : DataW H → Nat
  | .lit (.string bytes) => bytes.length + 1
  | .lit _ => 1
  | .nil => 1
  | .ptr d => uptoBulk d + 1
  | .slice elems spare => uptoBulkAll elems + uptoBulkAll spare + 1
  | .agg parts => uptoBulkAll parts + 1
  | .iface _ d => uptoBulk d + 1
  | .map entries => uptoBulkEntries entries + 1
  | .held _ => 1
def uptoBulkAll {H : Type} : List (DataW H) → Nat
  | [] => 0
  | d :: r => uptoBulk d + uptoBulkAll r
def uptoBulkEntries {H : Type} : List (Lit × DataW H) → Nat
  | [] => 0
  | x :: r => uptoBulkEntry x + uptoBulkEntries r
def uptoBulkEntry {H : Type} : Lit × DataW H → Nat
  | (.string bytes, d) => bytes.length + uptoBulk d + 1
  | (_, d) => uptoBulk d + 1
 end
def uptoSmall : (H : Type) → List (DataW H) → Bool := fun _ ds => decide (uptoBulkAll ds ≤ 1048576)
def OpenSpec.upto (s : _root_.Go.ChangeSpec) : _root_.Go.OpenSpec := { _root_.Go.OpenSpec.ofChange s with cond := some uptoSmall }

/-- 'consortlaw04.FactCases', WHERE WHAT IT READS IS OF BULK AT MOST 1048576: true; the input reads as it did. -/
def factCasesUptoRow : OpenClaim := { program := "ytiljpbljebfhnaagreat", sum := "1e6248d07aeb9d7b35ef02eb89e8072e61f0139f96f15a69b7333cdc7ae20681", func := "consort/consortlaw04.FactCases", spec := "factCases", unfollowed := true, recurses := true, loops := true, plainKeys := false, apart := false, narrowed := true }
def FactCasesUptoSaid : Prop := factCasesUptoRow.holds Tryz.pinned (OpenSpec.upto factCasesSpec)

/-- 'consortlaw04.FactImplies', WHERE WHAT IT READS IS OF BULK AT MOST 1048576: true; the input reads as it did. -/
def factImpliesUptoRow : OpenClaim := { program := "ytiljpbljebfhnaagreat", sum := "1e6248d07aeb9d7b35ef02eb89e8072e61f0139f96f15a69b7333cdc7ae20681", func := "consort/consortlaw04.FactImplies", spec := "factImplies", unfollowed := true, recurses := true, loops := true, plainKeys := false, apart := false, narrowed := true }
def FactImpliesUptoSaid : Prop := factImpliesUptoRow.holds Tryz.pinned (OpenSpec.upto factImpliesSpec)

/-- 'consortlaw04.FactShorts', WHERE WHAT IT READS IS OF BULK AT MOST 1048576: true; the input reads as it did. -/
def factShortsUptoRow : OpenClaim := { program := "ytiljpbljebfhnaagreat", sum := "1e6248d07aeb9d7b35ef02eb89e8072e61f0139f96f15a69b7333cdc7ae20681", func := "consort/consortlaw04.FactShorts", spec := "factShorts", unfollowed := true, recurses := true, loops := true, plainKeys := false, apart := false, narrowed := true }
def FactShortsUptoSaid : Prop := factShortsUptoRow.holds Tryz.pinned (OpenSpec.upto factShortsSpec)

/-- 'consortlaw04.FactOpen', WHERE WHAT IT READS IS OF BULK AT MOST 1048576: true; the input reads as it did. -/
def factOpenUptoRow : OpenClaim := { program := "ytiljpbljebfhnaagreat", sum := "1e6248d07aeb9d7b35ef02eb89e8072e61f0139f96f15a69b7333cdc7ae20681", func := "consort/consortlaw04.FactOpen", spec := "factOpen", unfollowed := true, recurses := true, loops := true, plainKeys := false, apart := false, narrowed := true }
def FactOpenUptoSaid : Prop := factOpenUptoRow.holds Tryz.pinned (OpenSpec.upto factOpenSpec)

/-- 'consortlaw04.FactKnown', WHERE WHAT IT READS IS OF BULK AT MOST 1048576: true; the input reads as it did. -/
def factKnownUptoRow : OpenClaim := { program := "ytiljpbljebfhnaagreat", sum := "1e6248d07aeb9d7b35ef02eb89e8072e61f0139f96f15a69b7333cdc7ae20681", func := "consort/consortlaw04.FactKnown", spec := "factKnown", unfollowed := true, recurses := true, plainKeys := false, apart := false, narrowed := true }
def FactKnownUptoSaid : Prop := factKnownUptoRow.holds Tryz.pinned (OpenSpec.upto factKnownSpec)

/-- 'consortlaw04.FactOrder', WHERE WHAT IT READS IS OF BULK AT MOST 1048576: true; the input reads as it did. -/
def factOrderUptoRow : OpenClaim := { program := "ytiljpbljebfhnaagreat", sum := "1e6248d07aeb9d7b35ef02eb89e8072e61f0139f96f15a69b7333cdc7ae20681", func := "consort/consortlaw04.FactOrder", spec := "factOrder", unfollowed := true, recurses := true, loops := true, plainKeys := false, apart := false, narrowed := true }
def FactOrderUptoSaid : Prop := factOrderUptoRow.holds Tryz.pinned (OpenSpec.upto factOrderSpec)

/-- 'consortlaw04.FactShorter', WHERE WHAT IT READS IS OF BULK AT MOST 1048576: true; the input reads as it did. -/
def factShorterUptoRow : OpenClaim := { program := "ytiljpbljebfhnaagreat", sum := "1e6248d07aeb9d7b35ef02eb89e8072e61f0139f96f15a69b7333cdc7ae20681", func := "consort/consortlaw04.FactShorter", spec := "factShorter", unfollowed := true, recurses := true, loops := true, plainKeys := false, apart := false, narrowed := true }
def FactShorterUptoSaid : Prop := factShorterUptoRow.holds Tryz.pinned (OpenSpec.upto factShorterSpec)

/-- 'consortlaw04.FactFormed', WHERE WHAT IT READS IS OF BULK AT MOST 1048576: true; the input reads as it did. -/
def factFormedUptoRow : OpenClaim := { program := "ytiljpbljebfhnaagreat", sum := "1e6248d07aeb9d7b35ef02eb89e8072e61f0139f96f15a69b7333cdc7ae20681", func := "consort/consortlaw04.FactFormed", spec := "factFormed", unfollowed := true, recurses := true, loops := true, plainKeys := false, apart := false, narrowed := true }
def FactFormedUptoSaid : Prop := factFormedUptoRow.holds Tryz.pinned (OpenSpec.upto factFormedSpec)

/-- 'consortlaw04.FactProofs', WHERE WHAT IT READS IS OF BULK AT MOST 1048576: true; the input reads as it did. -/
def factProofsUptoRow : OpenClaim := { program := "ytiljpbljebfhnaagreat", sum := "1e6248d07aeb9d7b35ef02eb89e8072e61f0139f96f15a69b7333cdc7ae20681", func := "consort/consortlaw04.FactProofs", spec := "factProofs", unfollowed := true, recurses := true, loops := true, plainKeys := false, apart := false, narrowed := true }
def FactProofsUptoSaid : Prop := factProofsUptoRow.holds Tryz.pinned (OpenSpec.upto factProofsSpec)

/-- 'consortlaw04.FactProved', WHERE WHAT IT READS IS OF BULK AT MOST 1048576: true; the input reads as it did. -/
def factProvedUptoRow : OpenClaim := { program := "ytiljpbljebfhnaagreat", sum := "1e6248d07aeb9d7b35ef02eb89e8072e61f0139f96f15a69b7333cdc7ae20681", func := "consort/consortlaw04.FactProved", spec := "factProved", unfollowed := true, recurses := true, loops := true, plainKeys := false, apart := false, narrowed := true }
def FactProvedUptoSaid : Prop := factProvedUptoRow.holds Tryz.pinned (OpenSpec.upto factProvedSpec)

/-- 'consortlaw04.FactModels', WHERE WHAT IT READS IS OF BULK AT MOST 1048576: true; the input reads as it did. -/
def factModelsUptoRow : OpenClaim := { program := "ytiljpbljebfhnaagreat", sum := "1e6248d07aeb9d7b35ef02eb89e8072e61f0139f96f15a69b7333cdc7ae20681", func := "consort/consortlaw04.FactModels", spec := "factModels", unfollowed := true, recurses := true, loops := true, plainKeys := false, apart := false, narrowed := true }
def FactModelsUptoSaid : Prop := factModelsUptoRow.holds Tryz.pinned (OpenSpec.upto factModelsSpec)

/-- 'consortlaw04.FactHolds', WHERE WHAT IT READS IS OF BULK AT MOST 1048576: true; the input reads as it did. -/
def factHoldsUptoRow : OpenClaim := { program := "ytiljpbljebfhnaagreat", sum := "1e6248d07aeb9d7b35ef02eb89e8072e61f0139f96f15a69b7333cdc7ae20681", func := "consort/consortlaw04.FactHolds", spec := "factHolds", unfollowed := true, recurses := true, loops := true, plainKeys := false, apart := false, narrowed := true }
def FactHoldsUptoSaid : Prop := factHoldsUptoRow.holds Tryz.pinned (OpenSpec.upto factHoldsSpec)

/-- 'consortlaw04.FactCased', WHERE WHAT IT READS IS OF BULK AT MOST 1048576: true; the input reads as it did. -/
def factCasedUptoRow : OpenClaim := { program := "ytiljpbljebfhnaagreat", sum := "1e6248d07aeb9d7b35ef02eb89e8072e61f0139f96f15a69b7333cdc7ae20681", func := "consort/consortlaw04.FactCased", spec := "factCased", unfollowed := true, recurses := true, loops := true, plainKeys := false, apart := false, narrowed := true }
def FactCasedUptoSaid : Prop := factCasedUptoRow.holds Tryz.pinned (OpenSpec.upto factCasedSpec)

/-- 'consortlaw04.FactSound', WHERE WHAT IT READS IS OF BULK AT MOST 1048576: true; the input reads as it did. -/
def factSoundUptoRow : OpenClaim := { program := "ytiljpbljebfhnaagreat", sum := "1e6248d07aeb9d7b35ef02eb89e8072e61f0139f96f15a69b7333cdc7ae20681", func := "consort/consortlaw04.FactSound", spec := "factSound", unfollowed := true, recurses := true, loops := true, plainKeys := false, apart := false, narrowed := true }
def FactSoundUptoSaid : Prop := factSoundUptoRow.holds Tryz.pinned (OpenSpec.upto factSoundSpec)

end Rows
end Go.Proofs.YtiljpbljebfhnaaGreat
