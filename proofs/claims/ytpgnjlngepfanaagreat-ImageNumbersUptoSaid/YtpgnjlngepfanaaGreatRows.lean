/-
  NARROWER THAN 'FOR EVERY INPUT', by the rows' own cells (each row's printed sentence says how): ImageWrites: loops · ImageReaches: loops · ImageLoads: loops · ImageAlikes: loops · ImageReach: loops · ImageBack: loops · ImageDamage: loops · ImageSaved: loops · ImageNumbers: loops.
  DERIVED. THE GIVEN ROWS OF THIS SEAT. 12 by the template 'for every input the law returns true; each argument reads behind the call as it read before'; 0 by the template 'total and deterministic' (their statements: YtpgnjlngepfanaaGreatTotals.lean).
  GIVEN WITH THE SEED: the statements are not yours to turn. If you find one false, say at which input.
  Laid BY PROGRAM, IN A SANDBOX (cutbox-rows.mjs): the forced cells as the released guide's own fill.sh prints them over the translation 193c5340eae846cd… (all of the seat's roots in one cut). By AI agents, Wed Nov 11 2026. No macro, syntax, notation, axiom, sorry.
-/
import Derived.Test.YtpgnjlngepfanaaGreatChecked
import GoSem.Claim
import GoSem.ClaimJoined
import GoSem.ClaimMapViews
import Derived.JoinedTies
import Derived.KernelRfl
namespace Go.Proofs.YtpgnjlngepfanaaGreat
/- THE CELL 'sum', in the pinned program and in every row, IS THE sha256 OF THE DUMP (.gsa) THAT YtpgnjlngepfanaaGreatProg.lean LOADS. Nothing in Lean hashes anything: it is a label: what it is worth is what the hold of that sum in a sandbox is worth. -/
noncomputable def Tryz.pinned : Pinned := { name := "ytpgnjlngepfanaagreat", sum := "193c5340eae846cdef2d29e71fb2f78754cab129116043991c1793a7ecfc17b5", checked := Tryz.checked }
namespace Rows
def none {H : Type} : Left H := { results := [], args := [] }

/-- 'consortlaw21.ImageWrites': WHATEVER THE INPUT: true; the input reads as it did. -/
def imageWritesSpec : ChangeSpec := { name := "imageWrites", fn := fun _ => fun
  | [d] => { results := [.lit (.bool true)], args := [d] }
  | _ => none }
def imageWritesRow : OpenClaim := { program := "ytpgnjlngepfanaagreat", sum := "193c5340eae846cdef2d29e71fb2f78754cab129116043991c1793a7ecfc17b5", func := "consort/consortlaw21.ImageWrites", spec := "imageWrites", unfollowed := true, recurses := true, loops := true, apart := false }
def ImageWritesSaid : Prop := imageWritesRow.holds Tryz.pinned (OpenSpec.ofChange imageWritesSpec)

/-- ITS FALSE NEIGHBOUR: 'it returns false'. Refute it at one input. -/
def imageWritesWrong : ChangeSpec := { name := "imageWrites", fn := fun _ => fun
  | [d] => { results := [.lit (.bool false)], args := [d] }
  | _ => none }
def ImageWritesWrongFalsely : Prop := imageWritesRow.holds Tryz.pinned (OpenSpec.ofChange imageWritesWrong)

/-- 'consortlaw21.ImageReads': WHATEVER THE INPUT: true; the input reads as it did. -/
def imageReadsSpec : ChangeSpec := { name := "imageReads", fn := fun _ => fun
  | [d] => { results := [.lit (.bool true)], args := [d] }
  | _ => none }
def imageReadsRow : OpenClaim := { program := "ytpgnjlngepfanaagreat", sum := "193c5340eae846cdef2d29e71fb2f78754cab129116043991c1793a7ecfc17b5", func := "consort/consortlaw21.ImageReads", spec := "imageReads", unfollowed := true, recurses := true, apart := false }
def ImageReadsSaid : Prop := imageReadsRow.holds Tryz.pinned (OpenSpec.ofChange imageReadsSpec)

/-- ITS FALSE NEIGHBOUR: 'it returns false'. Refute it at one input. -/
def imageReadsWrong : ChangeSpec := { name := "imageReads", fn := fun _ => fun
  | [d] => { results := [.lit (.bool false)], args := [d] }
  | _ => none }
def ImageReadsWrongFalsely : Prop := imageReadsRow.holds Tryz.pinned (OpenSpec.ofChange imageReadsWrong)

/-- 'consortlaw21.ImageSections': WHATEVER THE INPUT: true; the input reads as it did. -/
def imageSectionsSpec : ChangeSpec := { name := "imageSections", fn := fun _ => fun
  | [d] => { results := [.lit (.bool true)], args := [d] }
  | _ => none }
def imageSectionsRow : OpenClaim := { program := "ytpgnjlngepfanaagreat", sum := "193c5340eae846cdef2d29e71fb2f78754cab129116043991c1793a7ecfc17b5", func := "consort/consortlaw21.ImageSections", spec := "imageSections", unfollowed := true, recurses := true, apart := false }
def ImageSectionsSaid : Prop := imageSectionsRow.holds Tryz.pinned (OpenSpec.ofChange imageSectionsSpec)

/-- ITS FALSE NEIGHBOUR: 'it returns false'. Refute it at one input. -/
def imageSectionsWrong : ChangeSpec := { name := "imageSections", fn := fun _ => fun
  | [d] => { results := [.lit (.bool false)], args := [d] }
  | _ => none }
def ImageSectionsWrongFalsely : Prop := imageSectionsRow.holds Tryz.pinned (OpenSpec.ofChange imageSectionsWrong)

/-- 'consortlaw21.ImageReaches': WHATEVER THE INPUT: true; the input reads as it did. -/
def imageReachesSpec : ChangeSpec := { name := "imageReaches", fn := fun _ => fun
  | [d] => { results := [.lit (.bool true)], args := [d] }
  | _ => none }
def imageReachesRow : OpenClaim := { program := "ytpgnjlngepfanaagreat", sum := "193c5340eae846cdef2d29e71fb2f78754cab129116043991c1793a7ecfc17b5", func := "consort/consortlaw21.ImageReaches", spec := "imageReaches", unfollowed := true, recurses := true, loops := true, apart := false }
def ImageReachesSaid : Prop := imageReachesRow.holds Tryz.pinned (OpenSpec.ofChange imageReachesSpec)

/-- ITS FALSE NEIGHBOUR: 'it returns false'. Refute it at one input. -/
def imageReachesWrong : ChangeSpec := { name := "imageReaches", fn := fun _ => fun
  | [d] => { results := [.lit (.bool false)], args := [d] }
  | _ => none }
def ImageReachesWrongFalsely : Prop := imageReachesRow.holds Tryz.pinned (OpenSpec.ofChange imageReachesWrong)

/-- 'consortlaw21.ImageLoads': WHATEVER THE INPUT: true; the input reads as it did. -/
def imageLoadsSpec : ChangeSpec := { name := "imageLoads", fn := fun _ => fun
  | [d] => { results := [.lit (.bool true)], args := [d] }
  | _ => none }
def imageLoadsRow : OpenClaim := { program := "ytpgnjlngepfanaagreat", sum := "193c5340eae846cdef2d29e71fb2f78754cab129116043991c1793a7ecfc17b5", func := "consort/consortlaw21.ImageLoads", spec := "imageLoads", unfollowed := true, recurses := true, loops := true, apart := false }
def ImageLoadsSaid : Prop := imageLoadsRow.holds Tryz.pinned (OpenSpec.ofChange imageLoadsSpec)

/-- ITS FALSE NEIGHBOUR: 'it returns false'. Refute it at one input. -/
def imageLoadsWrong : ChangeSpec := { name := "imageLoads", fn := fun _ => fun
  | [d] => { results := [.lit (.bool false)], args := [d] }
  | _ => none }
def ImageLoadsWrongFalsely : Prop := imageLoadsRow.holds Tryz.pinned (OpenSpec.ofChange imageLoadsWrong)

/-- 'consortlaw21.ImageAlikes': WHATEVER THE INPUT: true; the input reads as it did. -/
def imageAlikesSpec : ChangeSpec := { name := "imageAlikes", fn := fun _ => fun
  | [d] => { results := [.lit (.bool true)], args := [d] }
  | _ => none }
def imageAlikesRow : OpenClaim := { program := "ytpgnjlngepfanaagreat", sum := "193c5340eae846cdef2d29e71fb2f78754cab129116043991c1793a7ecfc17b5", func := "consort/consortlaw21.ImageAlikes", spec := "imageAlikes", unfollowed := true, recurses := true, loops := true, apart := false }
def ImageAlikesSaid : Prop := imageAlikesRow.holds Tryz.pinned (OpenSpec.ofChange imageAlikesSpec)

/-- ITS FALSE NEIGHBOUR: 'it returns false'. Refute it at one input. -/
def imageAlikesWrong : ChangeSpec := { name := "imageAlikes", fn := fun _ => fun
  | [d] => { results := [.lit (.bool false)], args := [d] }
  | _ => none }
def ImageAlikesWrongFalsely : Prop := imageAlikesRow.holds Tryz.pinned (OpenSpec.ofChange imageAlikesWrong)

/-- 'consortlaw21.ImageReach': WHATEVER THE INPUT: true; the input reads as it did. -/
def imageReachSpec : ChangeSpec := { name := "imageReach", fn := fun _ => fun
  | [d] => { results := [.lit (.bool true)], args := [d] }
  | _ => none }
def imageReachRow : OpenClaim := { program := "ytpgnjlngepfanaagreat", sum := "193c5340eae846cdef2d29e71fb2f78754cab129116043991c1793a7ecfc17b5", func := "consort/consortlaw21.ImageReach", spec := "imageReach", unfollowed := true, recurses := true, loops := true, apart := false }
def ImageReachSaid : Prop := imageReachRow.holds Tryz.pinned (OpenSpec.ofChange imageReachSpec)

/-- ITS FALSE NEIGHBOUR: 'it returns false'. Refute it at one input. -/
def imageReachWrong : ChangeSpec := { name := "imageReach", fn := fun _ => fun
  | [d] => { results := [.lit (.bool false)], args := [d] }
  | _ => none }
def ImageReachWrongFalsely : Prop := imageReachRow.holds Tryz.pinned (OpenSpec.ofChange imageReachWrong)

/-- 'consortlaw21.ImageBack': WHATEVER THE INPUT: true; the input reads as it did. -/
def imageBackSpec : ChangeSpec := { name := "imageBack", fn := fun _ => fun
  | [d] => { results := [.lit (.bool true)], args := [d] }
  | _ => none }
def imageBackRow : OpenClaim := { program := "ytpgnjlngepfanaagreat", sum := "193c5340eae846cdef2d29e71fb2f78754cab129116043991c1793a7ecfc17b5", func := "consort/consortlaw21.ImageBack", spec := "imageBack", unfollowed := true, recurses := true, loops := true, apart := false }
def ImageBackSaid : Prop := imageBackRow.holds Tryz.pinned (OpenSpec.ofChange imageBackSpec)

/-- ITS FALSE NEIGHBOUR: 'it returns false'. Refute it at one input. -/
def imageBackWrong : ChangeSpec := { name := "imageBack", fn := fun _ => fun
  | [d] => { results := [.lit (.bool false)], args := [d] }
  | _ => none }
def ImageBackWrongFalsely : Prop := imageBackRow.holds Tryz.pinned (OpenSpec.ofChange imageBackWrong)

/-- 'consortlaw21.ImageDamage': WHATEVER THE INPUT: true; the input reads as it did. -/
def imageDamageSpec : ChangeSpec := { name := "imageDamage", fn := fun _ => fun
  | [d1, d2, d3] => { results := [.lit (.bool true)], args := [d1, d2, d3] }
  | _ => none }
def imageDamageRow : OpenClaim := { program := "ytpgnjlngepfanaagreat", sum := "193c5340eae846cdef2d29e71fb2f78754cab129116043991c1793a7ecfc17b5", func := "consort/consortlaw21.ImageDamage", spec := "imageDamage", unfollowed := true, recurses := true, loops := true, apart := false }
def ImageDamageSaid : Prop := imageDamageRow.holds Tryz.pinned (OpenSpec.ofChange imageDamageSpec)

/-- ITS FALSE NEIGHBOUR: 'it returns false'. Refute it at one input. -/
def imageDamageWrong : ChangeSpec := { name := "imageDamage", fn := fun _ => fun
  | [d1, d2, d3] => { results := [.lit (.bool false)], args := [d1, d2, d3] }
  | _ => none }
def ImageDamageWrongFalsely : Prop := imageDamageRow.holds Tryz.pinned (OpenSpec.ofChange imageDamageWrong)

/-- 'consortlaw21.ImageSaved': WHATEVER THE INPUT: true; the input reads as it did. -/
def imageSavedSpec : ChangeSpec := { name := "imageSaved", fn := fun _ => fun
  | [d] => { results := [.lit (.bool true)], args := [d] }
  | _ => none }
def imageSavedRow : OpenClaim := { program := "ytpgnjlngepfanaagreat", sum := "193c5340eae846cdef2d29e71fb2f78754cab129116043991c1793a7ecfc17b5", func := "consort/consortlaw21.ImageSaved", spec := "imageSaved", unfollowed := true, recurses := true, loops := true, apart := false }
def ImageSavedSaid : Prop := imageSavedRow.holds Tryz.pinned (OpenSpec.ofChange imageSavedSpec)

/-- ITS FALSE NEIGHBOUR: 'it returns false'. Refute it at one input. -/
def imageSavedWrong : ChangeSpec := { name := "imageSaved", fn := fun _ => fun
  | [d] => { results := [.lit (.bool false)], args := [d] }
  | _ => none }
def ImageSavedWrongFalsely : Prop := imageSavedRow.holds Tryz.pinned (OpenSpec.ofChange imageSavedWrong)

/-- 'consortlaw21.ImageKnown': WHATEVER THE INPUT: true; the input reads as it did. -/
def imageKnownSpec : ChangeSpec := { name := "imageKnown", fn := fun _ => fun
  | [] => { results := [.lit (.bool true)], args := [] }
  | _ => none }
def imageKnownRow : OpenClaim := { program := "ytpgnjlngepfanaagreat", sum := "193c5340eae846cdef2d29e71fb2f78754cab129116043991c1793a7ecfc17b5", func := "consort/consortlaw21.ImageKnown", spec := "imageKnown", unfollowed := true, recurses := true, apart := false }
def ImageKnownSaid : Prop := imageKnownRow.holds Tryz.pinned (OpenSpec.ofChange imageKnownSpec)

/-- ITS FALSE NEIGHBOUR: 'it returns false'. Refute it at one input. -/
def imageKnownWrong : ChangeSpec := { name := "imageKnown", fn := fun _ => fun
  | [] => { results := [.lit (.bool false)], args := [] }
  | _ => none }
def ImageKnownWrongFalsely : Prop := imageKnownRow.holds Tryz.pinned (OpenSpec.ofChange imageKnownWrong)

/-- 'consortlaw21.ImageNumbers': WHATEVER THE INPUT: true; the input reads as it did. -/
def imageNumbersSpec : ChangeSpec := { name := "imageNumbers", fn := fun _ => fun
  | [d1, d2] => { results := [.lit (.bool true)], args := [d1, d2] }
  | _ => none }
def imageNumbersRow : OpenClaim := { program := "ytpgnjlngepfanaagreat", sum := "193c5340eae846cdef2d29e71fb2f78754cab129116043991c1793a7ecfc17b5", func := "consort/consortlaw21.ImageNumbers", spec := "imageNumbers", inPlace := ["slices.overlaps[int]"], unfollowed := true, recurses := true, loops := true, apart := false }
def ImageNumbersSaid : Prop := imageNumbersRow.holds Tryz.pinned (OpenSpec.ofChange imageNumbersSpec)

/-- ITS FALSE NEIGHBOUR: 'it returns false'. Refute it at one input. -/
def imageNumbersWrong : ChangeSpec := { name := "imageNumbers", fn := fun _ => fun
  | [d1, d2] => { results := [.lit (.bool false)], args := [d1, d2] }
  | _ => none }
def ImageNumbersWrongFalsely : Prop := imageNumbersRow.holds Tryz.pinned (OpenSpec.ofChange imageNumbersWrong)

/- THE SECOND FORM. 'bulk': how many values and letters a reading holds, each counted each time it is reached (what is shared counts as often as it is met; a slice's spare places count too). A statement '..UptoSaid' is the law's where the arguments, and the package variables that the reading takes, are together of bulk at most 1048576: NARROWER than '..Said'. Prove '..Said' where nothing that the law and all that it calls make is longer than what came in: it says more and counts as full. Else prove '..UptoSaid'. A law counts once. -/
mutual
def uptoBulk {H : Type} : DataW H → Nat
  | .lit (.string bytes) => bytes.length + 1
  | .lit _ => 1
  | .nil => 1
  | .ptr d => uptoBulk d + 1
  | .slice elems spare => uptoBulkAll elems + uptoBulkAll spare + 1
  | .agg parts => uptoBulkAll parts + 1
  | .iface _ d => uptoBulk d + 1
  | .map entries => uptoBulkEntries entries + 1
  | .held _ => 1
def uptoBulkAll {H : Type} : List (DataW H) → Nat
  | [] => 0
  | d :: r => uptoBulk d + uptoBulkAll r
def uptoBulkEntries {H : Type} : List (Lit × DataW H) → Nat
  | [] => 0
  | x :: r => uptoBulkEntry x + uptoBulkEntries r
def uptoBulkEntry {H : Type} : Lit × DataW H → Nat
  | (.string bytes, d) => bytes.length + uptoBulk d + 1
  | (_, d) => uptoBulk d + 1
 end
def uptoSmall : (H : Type) → List (DataW H) → Bool := fun _ ds => decide (uptoBulkAll ds ≤ 1048576)
def OpenSpec.upto (s : _root_.Go.ChangeSpec) : _root_.Go.OpenSpec := { _root_.Go.OpenSpec.ofChange s with cond := some uptoSmall }

/-- 'consortlaw21.ImageWrites', WHERE WHAT IT READS IS OF BULK AT MOST 1048576: true; the input reads as it did. -/
def imageWritesUptoRow : OpenClaim := { program := "ytpgnjlngepfanaagreat", sum := "193c5340eae846cdef2d29e71fb2f78754cab129116043991c1793a7ecfc17b5", func := "consort/consortlaw21.ImageWrites", spec := "imageWrites", unfollowed := true, recurses := true, loops := true, apart := false, narrowed := true }
def ImageWritesUptoSaid : Prop := imageWritesUptoRow.holds Tryz.pinned (OpenSpec.upto imageWritesSpec)

/-- 'consortlaw21.ImageReads', WHERE WHAT IT READS IS OF BULK AT MOST 1048576: true; the input reads as it did. -/
def imageReadsUptoRow : OpenClaim := { program := "ytpgnjlngepfanaagreat", sum := "193c5340eae846cdef2d29e71fb2f78754cab129116043991c1793a7ecfc17b5", func := "consort/consortlaw21.ImageReads", spec := "imageReads", unfollowed := true, recurses := true, apart := false, narrowed := true }
def ImageReadsUptoSaid : Prop := imageReadsUptoRow.holds Tryz.pinned (OpenSpec.upto imageReadsSpec)

/-- 'consortlaw21.ImageSections', WHERE WHAT IT READS IS OF BULK AT MOST 1048576: true; the input reads as it did. -/
def imageSectionsUptoRow : OpenClaim := { program := "ytpgnjlngepfanaagreat", sum := "193c5340eae846cdef2d29e71fb2f78754cab129116043991c1793a7ecfc17b5", func := "consort/consortlaw21.ImageSections", spec := "imageSections", unfollowed := true, recurses := true, apart := false, narrowed := true }
def ImageSectionsUptoSaid : Prop := imageSectionsUptoRow.holds Tryz.pinned (OpenSpec.upto imageSectionsSpec)

/-- 'consortlaw21.ImageReaches', WHERE WHAT IT READS IS OF BULK AT MOST 1048576: true; the input reads as it did. -/
def imageReachesUptoRow : OpenClaim := { program := "ytpgnjlngepfanaagreat", sum := "193c5340eae846cdef2d29e71fb2f78754cab129116043991c1793a7ecfc17b5", func := "consort/consortlaw21.ImageReaches", spec := "imageReaches", unfollowed := true, recurses := true, loops := true, apart := false, narrowed := true }
def ImageReachesUptoSaid : Prop := imageReachesUptoRow.holds Tryz.pinned (OpenSpec.upto imageReachesSpec)

/-- 'consortlaw21.ImageLoads', WHERE WHAT IT READS IS OF BULK AT MOST 1048576: true; the input reads as it did. -/
def imageLoadsUptoRow : OpenClaim := { program := "ytpgnjlngepfanaagreat", sum := "193c5340eae846cdef2d29e71fb2f78754cab129116043991c1793a7ecfc17b5", func := "consort/consortlaw21.ImageLoads", spec := "imageLoads", unfollowed := true, recurses := true, loops := true, apart := false, narrowed := true }
def ImageLoadsUptoSaid : Prop := imageLoadsUptoRow.holds Tryz.pinned (OpenSpec.upto imageLoadsSpec)

/-- 'consortlaw21.ImageAlikes', WHERE WHAT IT READS IS OF BULK AT MOST 1048576: true; the input reads as it did. -/
def imageAlikesUptoRow : OpenClaim := { program := "ytpgnjlngepfanaagreat", sum := "193c5340eae846cdef2d29e71fb2f78754cab129116043991c1793a7ecfc17b5", func := "consort/consortlaw21.ImageAlikes", spec := "imageAlikes", unfollowed := true, recurses := true, loops := true, apart := false, narrowed := true }
def ImageAlikesUptoSaid : Prop := imageAlikesUptoRow.holds Tryz.pinned (OpenSpec.upto imageAlikesSpec)

/-- 'consortlaw21.ImageReach', WHERE WHAT IT READS IS OF BULK AT MOST 1048576: true; the input reads as it did. -/
def imageReachUptoRow : OpenClaim := { program := "ytpgnjlngepfanaagreat", sum := "193c5340eae846cdef2d29e71fb2f78754cab129116043991c1793a7ecfc17b5", func := "consort/consortlaw21.ImageReach", spec := "imageReach", unfollowed := true, recurses := true, loops := true, apart := false, narrowed := true }
def ImageReachUptoSaid : Prop := imageReachUptoRow.holds Tryz.pinned (OpenSpec.upto imageReachSpec)

/-- 'consortlaw21.ImageBack', WHERE WHAT IT READS IS OF BULK AT MOST 1048576: true; the input reads as it did. -/
def imageBackUptoRow : OpenClaim := { program := "ytpgnjlngepfanaagreat", sum := "193c5340eae846cdef2d29e71fb2f78754cab129116043991c1793a7ecfc17b5", func := "consort/consortlaw21.ImageBack", spec := "imageBack", unfollowed := true, recurses := true, loops := true, apart := false, narrowed := true }
def ImageBackUptoSaid : Prop := imageBackUptoRow.holds Tryz.pinned (OpenSpec.upto imageBackSpec)

/-- 'consortlaw21.ImageDamage', WHERE WHAT IT READS IS OF BULK AT MOST 1048576: true; the input reads as it did. -/
def imageDamageUptoRow : OpenClaim := { program := "ytpgnjlngepfanaagreat", sum := "193c5340eae846cdef2d29e71fb2f78754cab129116043991c1793a7ecfc17b5", func := "consort/consortlaw21.ImageDamage", spec := "imageDamage", unfollowed := true, recurses := true, loops := true, apart := false, narrowed := true }
def ImageDamageUptoSaid : Prop := imageDamageUptoRow.holds Tryz.pinned (OpenSpec.upto imageDamageSpec)

/-- 'consortlaw21.ImageSaved', WHERE WHAT IT READS IS OF BULK AT MOST 1048576: true; the input reads as it did. -/
def imageSavedUptoRow : OpenClaim := { program := "ytpgnjlngepfanaagreat", sum := "193c5340eae846cdef2d29e71fb2f78754cab129116043991c1793a7ecfc17b5", func := "consort/consortlaw21.ImageSaved", spec := "imageSaved", unfollowed := true, recurses := true, loops := true, apart := false, narrowed := true }
def ImageSavedUptoSaid : Prop := imageSavedUptoRow.holds Tryz.pinned (OpenSpec.upto imageSavedSpec)

/-- 'consortlaw21.ImageKnown', WHERE WHAT IT READS IS OF BULK AT MOST 1048576: true; the input reads as it did. -/
def imageKnownUptoRow : OpenClaim := { program := "ytpgnjlngepfanaagreat", sum := "193c5340eae846cdef2d29e71fb2f78754cab129116043991c1793a7ecfc17b5", func := "consort/consortlaw21.ImageKnown", spec := "imageKnown", unfollowed := true, recurses := true, apart := false, narrowed := true }
def ImageKnownUptoSaid : Prop := imageKnownUptoRow.holds Tryz.pinned (OpenSpec.upto imageKnownSpec)

/-- 'consortlaw21.ImageNumbers', WHERE WHAT IT READS IS OF BULK AT MOST 1048576: true; the input reads as it did. -/
def imageNumbersUptoRow : OpenClaim := { program := "ytpgnjlngepfanaagreat", sum := "193c5340eae846cdef2d29e71fb2f78754cab129116043991c1793a7ecfc17b5", func := "consort/consortlaw21.ImageNumbers", spec := "imageNumbers", inPlace := ["slices.overlaps[int]"], unfollowed := true, recurses := true, loops := true, apart := false, narrowed := true }
def ImageNumbersUptoSaid : Prop := imageNumbersUptoRow.holds Tryz.pinned (OpenSpec.upto imageNumbersSpec)

end Rows
end Go.Proofs.YtpgnjlngepfanaaGreat
