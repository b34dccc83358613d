/-
  NARROWER THAN 'FOR EVERY INPUT', by the rows' own cells (each row's printed sentence says how): DuesShares: laid · DuesFairs: laid · DuesPowers: laid · DuesPivots: laid · DuesAverages: laid · DuesShapley: laid · DuesUnions: laid · DuesCosts: laid · DuesOwn: laid · DuesEnds: laid · DuesMargins: laid · DuesChecks: laid.
  DERIVED. THE GIVEN ROWS OF THIS SEAT. 12 by the template 'for every input the law returns true; each argument reads behind the call as it read before'; 0 by the template 'total and deterministic' (their statements: YtdjpaifhmiocnaaDoorTotals.lean).
  GIVEN WITH THE SEED: the statements are not yours to turn. If you find one false, say at which input.
  Laid BY PROGRAM, IN A SANDBOX (cutbox-rows.mjs): the forced cells as the released guide's own fill.sh prints them over the translation e4e78e3625e29955… (all of the seat's roots in one cut). By AI agents, Wed Nov 11 2026. No macro, syntax, notation, axiom, sorry.
-/
import Derived.Test.YtdjpaifhmiocnaaDoorChecked
import GoSem.Claim
import GoSem.ClaimJoined
import GoSem.ClaimMapViews
import Derived.JoinedTies
import Derived.KernelRfl
namespace Go.Proofs.YtdjpaifhmiocnaaDoor
/- THE CELL 'sum', in the pinned program and in every row, IS THE sha256 OF THE DUMP (.gsa) THAT YtdjpaifhmiocnaaDoorProg.lean LOADS. Nothing in Lean hashes anything: it is a label: what it is worth is what the hold of that sum in a sandbox is worth. -/
noncomputable def Tryd.pinned : Pinned := { name := "ytdjpaifhmiocnaadoor", sum := "e4e78e3625e299557d96128e5f5bf3e1b9b891ec75b2e8423c54445b12f41271", checked := Tryd.checked }
namespace Rows
def none {H : Type} : Left H := { results := [], args := [] }

/- WHAT THE LISTED PACKAGE-LEVEL VARIABLES READ AS WHEN THE CALL BEGINS. Each datum BY PROGRAM (the guide's laid-datum.mjs) off the statement by which the dump's own 'gosem.cut.vars' lays the variable. In a bare row this is a premise. The card (YtdjpaifhmiocnaaDoorCards.lean) ties it to the program's text. -/
def laid_math_bits_deBruijn32tab {H : Type} : DataW H := .agg [.lit (.int .u8 0), .lit (.int .u8 1), .lit (.int .u8 28), .lit (.int .u8 2), .lit (.int .u8 29), .lit (.int .u8 14), .lit (.int .u8 24), .lit (.int .u8 3), .lit (.int .u8 30), .lit (.int .u8 22), .lit (.int .u8 20), .lit (.int .u8 15), .lit (.int .u8 25), .lit (.int .u8 17), .lit (.int .u8 4), .lit (.int .u8 8), .lit (.int .u8 31), .lit (.int .u8 27), .lit (.int .u8 13), .lit (.int .u8 23), .lit (.int .u8 21), .lit (.int .u8 19), .lit (.int .u8 16), .lit (.int .u8 7), .lit (.int .u8 26), .lit (.int .u8 12), .lit (.int .u8 18), .lit (.int .u8 6), .lit (.int .u8 11), .lit (.int .u8 5), .lit (.int .u8 10), .lit (.int .u8 9)]
def laid_math_bits_deBruijn64tab {H : Type} : DataW H := .agg [.lit (.int .u8 0), .lit (.int .u8 1), .lit (.int .u8 56), .lit (.int .u8 2), .lit (.int .u8 57), .lit (.int .u8 49), .lit (.int .u8 28), .lit (.int .u8 3), .lit (.int .u8 61), .lit (.int .u8 58), .lit (.int .u8 42), .lit (.int .u8 50), .lit (.int .u8 38), .lit (.int .u8 29), .lit (.int .u8 17), .lit (.int .u8 4), .lit (.int .u8 62), .lit (.int .u8 47), .lit (.int .u8 59), .lit (.int .u8 36), .lit (.int .u8 45), .lit (.int .u8 43), .lit (.int .u8 51), .lit (.int .u8 22), .lit (.int .u8 53), .lit (.int .u8 39), .lit (.int .u8 33), .lit (.int .u8 30), .lit (.int .u8 24), .lit (.int .u8 18), .lit (.int .u8 12), .lit (.int .u8 5), .lit (.int .u8 63), .lit (.int .u8 55), .lit (.int .u8 48), .lit (.int .u8 27), .lit (.int .u8 60), .lit (.int .u8 41), .lit (.int .u8 37), .lit (.int .u8 16), .lit (.int .u8 46), .lit (.int .u8 35), .lit (.int .u8 44), .lit (.int .u8 21), .lit (.int .u8 52), .lit (.int .u8 32), .lit (.int .u8 23), .lit (.int .u8 11), .lit (.int .u8 54), .lit (.int .u8 26), .lit (.int .u8 40), .lit (.int .u8 15), .lit (.int .u8 34), .lit (.int .u8 20), .lit (.int .u8 31), .lit (.int .u8 10), .lit (.int .u8 25), .lit (.int .u8 14), .lit (.int .u8 19), .lit (.int .u8 9), .lit (.int .u8 13), .lit (.int .u8 8), .lit (.int .u8 7), .lit (.int .u8 6)]
def laid_careen_dues_none {H : Type} : DataW H := .agg [.lit (.int .i64 0), .lit (.int .i64 1)]

/-- 'careenlaw10.DuesShares': WHATEVER THE INPUT: true; the input reads as it did. -/
def duesSharesSpec : ChangeSpec := { name := "duesShares", fn := fun _ => fun
  | [d1, d2] => { results := [.lit (.bool true)], args := [d1, d2] }
  | _ => none }
def duesSharesRow : OpenClaim := { program := "ytdjpaifhmiocnaadoor", sum := "e4e78e3625e299557d96128e5f5bf3e1b9b891ec75b2e8423c54445b12f41271", func := "careen/careenlaw10.DuesShares", spec := "duesShares", unfollowed := true, recurses := true, named := ["careen/dues.none", "math/bits.deBruijn32tab", "math/bits.deBruijn64tab"], apart := false, laid := [("math/bits.deBruijn32tab", laid_math_bits_deBruijn32tab), ("math/bits.deBruijn64tab", laid_math_bits_deBruijn64tab), ("careen/dues.none", laid_careen_dues_none)] }
def DuesSharesSaid : Prop := duesSharesRow.holds Tryd.pinned (OpenSpec.ofChange duesSharesSpec)

/-- ITS FALSE NEIGHBOUR: 'it returns false'. Refute it at one input. -/
def duesSharesWrong : ChangeSpec := { name := "duesShares", fn := fun _ => fun
  | [d1, d2] => { results := [.lit (.bool false)], args := [d1, d2] }
  | _ => none }
def DuesSharesWrongFalsely : Prop := duesSharesRow.holds Tryd.pinned (OpenSpec.ofChange duesSharesWrong)

/-- 'careenlaw10.DuesFairs': WHATEVER THE INPUT: true; the input reads as it did. -/
def duesFairsSpec : ChangeSpec := { name := "duesFairs", fn := fun _ => fun
  | [d1, d2] => { results := [.lit (.bool true)], args := [d1, d2] }
  | _ => none }
def duesFairsRow : OpenClaim := { program := "ytdjpaifhmiocnaadoor", sum := "e4e78e3625e299557d96128e5f5bf3e1b9b891ec75b2e8423c54445b12f41271", func := "careen/careenlaw10.DuesFairs", spec := "duesFairs", unfollowed := true, recurses := true, named := ["math/bits.deBruijn32tab", "math/bits.deBruijn64tab", "careen/dues.none"], apart := false, laid := [("math/bits.deBruijn32tab", laid_math_bits_deBruijn32tab), ("math/bits.deBruijn64tab", laid_math_bits_deBruijn64tab), ("careen/dues.none", laid_careen_dues_none)] }
def DuesFairsSaid : Prop := duesFairsRow.holds Tryd.pinned (OpenSpec.ofChange duesFairsSpec)

/-- ITS FALSE NEIGHBOUR: 'it returns false'. Refute it at one input. -/
def duesFairsWrong : ChangeSpec := { name := "duesFairs", fn := fun _ => fun
  | [d1, d2] => { results := [.lit (.bool false)], args := [d1, d2] }
  | _ => none }
def DuesFairsWrongFalsely : Prop := duesFairsRow.holds Tryd.pinned (OpenSpec.ofChange duesFairsWrong)

/-- 'careenlaw10.DuesPowers': WHATEVER THE INPUT: true; the input reads as it did. -/
def duesPowersSpec : ChangeSpec := { name := "duesPowers", fn := fun _ => fun
  | [d1, d2] => { results := [.lit (.bool true)], args := [d1, d2] }
  | _ => none }
def duesPowersRow : OpenClaim := { program := "ytdjpaifhmiocnaadoor", sum := "e4e78e3625e299557d96128e5f5bf3e1b9b891ec75b2e8423c54445b12f41271", func := "careen/careenlaw10.DuesPowers", spec := "duesPowers", unfollowed := true, recurses := true, named := ["math/bits.deBruijn32tab", "math/bits.deBruijn64tab", "careen/dues.none"], apart := false, laid := [("math/bits.deBruijn32tab", laid_math_bits_deBruijn32tab), ("math/bits.deBruijn64tab", laid_math_bits_deBruijn64tab), ("careen/dues.none", laid_careen_dues_none)] }
def DuesPowersSaid : Prop := duesPowersRow.holds Tryd.pinned (OpenSpec.ofChange duesPowersSpec)

/-- ITS FALSE NEIGHBOUR: 'it returns false'. Refute it at one input. -/
def duesPowersWrong : ChangeSpec := { name := "duesPowers", fn := fun _ => fun
  | [d1, d2] => { results := [.lit (.bool false)], args := [d1, d2] }
  | _ => none }
def DuesPowersWrongFalsely : Prop := duesPowersRow.holds Tryd.pinned (OpenSpec.ofChange duesPowersWrong)

/-- 'careenlaw10.DuesPivots': WHATEVER THE INPUT: true; the input reads as it did. -/
def duesPivotsSpec : ChangeSpec := { name := "duesPivots", fn := fun _ => fun
  | [d1, d2] => { results := [.lit (.bool true)], args := [d1, d2] }
  | _ => none }
def duesPivotsRow : OpenClaim := { program := "ytdjpaifhmiocnaadoor", sum := "e4e78e3625e299557d96128e5f5bf3e1b9b891ec75b2e8423c54445b12f41271", func := "careen/careenlaw10.DuesPivots", spec := "duesPivots", unfollowed := true, recurses := true, named := ["math/bits.deBruijn32tab", "math/bits.deBruijn64tab", "careen/dues.none"], apart := false, laid := [("math/bits.deBruijn32tab", laid_math_bits_deBruijn32tab), ("math/bits.deBruijn64tab", laid_math_bits_deBruijn64tab), ("careen/dues.none", laid_careen_dues_none)] }
def DuesPivotsSaid : Prop := duesPivotsRow.holds Tryd.pinned (OpenSpec.ofChange duesPivotsSpec)

/-- ITS FALSE NEIGHBOUR: 'it returns false'. Refute it at one input. -/
def duesPivotsWrong : ChangeSpec := { name := "duesPivots", fn := fun _ => fun
  | [d1, d2] => { results := [.lit (.bool false)], args := [d1, d2] }
  | _ => none }
def DuesPivotsWrongFalsely : Prop := duesPivotsRow.holds Tryd.pinned (OpenSpec.ofChange duesPivotsWrong)

/-- 'careenlaw10.DuesAverages': WHATEVER THE INPUT: true; the input reads as it did. -/
def duesAveragesSpec : ChangeSpec := { name := "duesAverages", fn := fun _ => fun
  | [d] => { results := [.lit (.bool true)], args := [d] }
  | _ => none }
def duesAveragesRow : OpenClaim := { program := "ytdjpaifhmiocnaadoor", sum := "e4e78e3625e299557d96128e5f5bf3e1b9b891ec75b2e8423c54445b12f41271", func := "careen/careenlaw10.DuesAverages", spec := "duesAverages", unfollowed := true, recurses := true, named := ["math/bits.deBruijn32tab", "math/bits.deBruijn64tab", "careen/dues.none"], apart := false, laid := [("math/bits.deBruijn32tab", laid_math_bits_deBruijn32tab), ("math/bits.deBruijn64tab", laid_math_bits_deBruijn64tab), ("careen/dues.none", laid_careen_dues_none)] }
def DuesAveragesSaid : Prop := duesAveragesRow.holds Tryd.pinned (OpenSpec.ofChange duesAveragesSpec)

/-- ITS FALSE NEIGHBOUR: 'it returns false'. Refute it at one input. -/
def duesAveragesWrong : ChangeSpec := { name := "duesAverages", fn := fun _ => fun
  | [d] => { results := [.lit (.bool false)], args := [d] }
  | _ => none }
def DuesAveragesWrongFalsely : Prop := duesAveragesRow.holds Tryd.pinned (OpenSpec.ofChange duesAveragesWrong)

/-- 'careenlaw10.DuesShapley': WHATEVER THE INPUT: true; the input reads as it did. -/
def duesShapleySpec : ChangeSpec := { name := "duesShapley", fn := fun _ => fun
  | [d1, d2] => { results := [.lit (.bool true)], args := [d1, d2] }
  | _ => none }
def duesShapleyRow : OpenClaim := { program := "ytdjpaifhmiocnaadoor", sum := "e4e78e3625e299557d96128e5f5bf3e1b9b891ec75b2e8423c54445b12f41271", func := "careen/careenlaw10.DuesShapley", spec := "duesShapley", unfollowed := true, recurses := true, named := ["careen/dues.none", "math/bits.deBruijn32tab", "math/bits.deBruijn64tab"], apart := false, laid := [("math/bits.deBruijn32tab", laid_math_bits_deBruijn32tab), ("math/bits.deBruijn64tab", laid_math_bits_deBruijn64tab), ("careen/dues.none", laid_careen_dues_none)] }
def DuesShapleySaid : Prop := duesShapleyRow.holds Tryd.pinned (OpenSpec.ofChange duesShapleySpec)

/-- ITS FALSE NEIGHBOUR: 'it returns false'. Refute it at one input. -/
def duesShapleyWrong : ChangeSpec := { name := "duesShapley", fn := fun _ => fun
  | [d1, d2] => { results := [.lit (.bool false)], args := [d1, d2] }
  | _ => none }
def DuesShapleyWrongFalsely : Prop := duesShapleyRow.holds Tryd.pinned (OpenSpec.ofChange duesShapleyWrong)

/-- 'careenlaw10.DuesUnions': WHATEVER THE INPUT: true; the input reads as it did. -/
def duesUnionsSpec : ChangeSpec := { name := "duesUnions", fn := fun _ => fun
  | [d1, d2] => { results := [.lit (.bool true)], args := [d1, d2] }
  | _ => none }
def duesUnionsRow : OpenClaim := { program := "ytdjpaifhmiocnaadoor", sum := "e4e78e3625e299557d96128e5f5bf3e1b9b891ec75b2e8423c54445b12f41271", func := "careen/careenlaw10.DuesUnions", spec := "duesUnions", unfollowed := true, recurses := true, named := ["math/bits.deBruijn32tab", "math/bits.deBruijn64tab", "careen/dues.none"], apart := false, laid := [("math/bits.deBruijn32tab", laid_math_bits_deBruijn32tab), ("math/bits.deBruijn64tab", laid_math_bits_deBruijn64tab), ("careen/dues.none", laid_careen_dues_none)] }
def DuesUnionsSaid : Prop := duesUnionsRow.holds Tryd.pinned (OpenSpec.ofChange duesUnionsSpec)

/-- ITS FALSE NEIGHBOUR: 'it returns false'. Refute it at one input. -/
def duesUnionsWrong : ChangeSpec := { name := "duesUnions", fn := fun _ => fun
  | [d1, d2] => { results := [.lit (.bool false)], args := [d1, d2] }
  | _ => none }
def DuesUnionsWrongFalsely : Prop := duesUnionsRow.holds Tryd.pinned (OpenSpec.ofChange duesUnionsWrong)

/-- 'careenlaw10.DuesCosts': WHATEVER THE INPUT: true; the input reads as it did. -/
def duesCostsSpec : ChangeSpec := { name := "duesCosts", fn := fun _ => fun
  | [d1, d2] => { results := [.lit (.bool true)], args := [d1, d2] }
  | _ => none }
def duesCostsRow : OpenClaim := { program := "ytdjpaifhmiocnaadoor", sum := "e4e78e3625e299557d96128e5f5bf3e1b9b891ec75b2e8423c54445b12f41271", func := "careen/careenlaw10.DuesCosts", spec := "duesCosts", unfollowed := true, recurses := true, named := ["math/bits.deBruijn32tab", "math/bits.deBruijn64tab", "careen/dues.none"], apart := false, laid := [("math/bits.deBruijn32tab", laid_math_bits_deBruijn32tab), ("math/bits.deBruijn64tab", laid_math_bits_deBruijn64tab), ("careen/dues.none", laid_careen_dues_none)] }
def DuesCostsSaid : Prop := duesCostsRow.holds Tryd.pinned (OpenSpec.ofChange duesCostsSpec)

/-- ITS FALSE NEIGHBOUR: 'it returns false'. Refute it at one input. -/
def duesCostsWrong : ChangeSpec := { name := "duesCosts", fn := fun _ => fun
  | [d1, d2] => { results := [.lit (.bool false)], args := [d1, d2] }
  | _ => none }
def DuesCostsWrongFalsely : Prop := duesCostsRow.holds Tryd.pinned (OpenSpec.ofChange duesCostsWrong)

/-- 'careenlaw10.DuesOwn': WHATEVER THE INPUT: true; the input reads as it did. -/
def duesOwnSpec : ChangeSpec := { name := "duesOwn", fn := fun _ => fun
  | [d1, d2] => { results := [.lit (.bool true)], args := [d1, d2] }
  | _ => none }
def duesOwnRow : OpenClaim := { program := "ytdjpaifhmiocnaadoor", sum := "e4e78e3625e299557d96128e5f5bf3e1b9b891ec75b2e8423c54445b12f41271", func := "careen/careenlaw10.DuesOwn", spec := "duesOwn", unfollowed := true, recurses := true, named := ["careen/dues.none", "math/bits.deBruijn32tab", "math/bits.deBruijn64tab"], apart := false, laid := [("math/bits.deBruijn32tab", laid_math_bits_deBruijn32tab), ("math/bits.deBruijn64tab", laid_math_bits_deBruijn64tab), ("careen/dues.none", laid_careen_dues_none)] }
def DuesOwnSaid : Prop := duesOwnRow.holds Tryd.pinned (OpenSpec.ofChange duesOwnSpec)

/-- ITS FALSE NEIGHBOUR: 'it returns false'. Refute it at one input. -/
def duesOwnWrong : ChangeSpec := { name := "duesOwn", fn := fun _ => fun
  | [d1, d2] => { results := [.lit (.bool false)], args := [d1, d2] }
  | _ => none }
def DuesOwnWrongFalsely : Prop := duesOwnRow.holds Tryd.pinned (OpenSpec.ofChange duesOwnWrong)

/-- 'careenlaw10.DuesEnds': WHATEVER THE INPUT: true; the input reads as it did. -/
def duesEndsSpec : ChangeSpec := { name := "duesEnds", fn := fun _ => fun
  | [d1, d2] => { results := [.lit (.bool true)], args := [d1, d2] }
  | _ => none }
def duesEndsRow : OpenClaim := { program := "ytdjpaifhmiocnaadoor", sum := "e4e78e3625e299557d96128e5f5bf3e1b9b891ec75b2e8423c54445b12f41271", func := "careen/careenlaw10.DuesEnds", spec := "duesEnds", unfollowed := true, recurses := true, named := ["careen/dues.none", "math/bits.deBruijn32tab", "math/bits.deBruijn64tab"], apart := false, laid := [("math/bits.deBruijn32tab", laid_math_bits_deBruijn32tab), ("math/bits.deBruijn64tab", laid_math_bits_deBruijn64tab), ("careen/dues.none", laid_careen_dues_none)] }
def DuesEndsSaid : Prop := duesEndsRow.holds Tryd.pinned (OpenSpec.ofChange duesEndsSpec)

/-- ITS FALSE NEIGHBOUR: 'it returns false'. Refute it at one input. -/
def duesEndsWrong : ChangeSpec := { name := "duesEnds", fn := fun _ => fun
  | [d1, d2] => { results := [.lit (.bool false)], args := [d1, d2] }
  | _ => none }
def DuesEndsWrongFalsely : Prop := duesEndsRow.holds Tryd.pinned (OpenSpec.ofChange duesEndsWrong)

/-- 'careenlaw10.DuesMargins': WHATEVER THE INPUT: true; the input reads as it did. -/
def duesMarginsSpec : ChangeSpec := { name := "duesMargins", fn := fun _ => fun
  | [d1, d2] => { results := [.lit (.bool true)], args := [d1, d2] }
  | _ => none }
def duesMarginsRow : OpenClaim := { program := "ytdjpaifhmiocnaadoor", sum := "e4e78e3625e299557d96128e5f5bf3e1b9b891ec75b2e8423c54445b12f41271", func := "careen/careenlaw10.DuesMargins", spec := "duesMargins", unfollowed := true, recurses := true, named := ["careen/dues.none", "math/bits.deBruijn32tab", "math/bits.deBruijn64tab"], apart := false, laid := [("math/bits.deBruijn32tab", laid_math_bits_deBruijn32tab), ("math/bits.deBruijn64tab", laid_math_bits_deBruijn64tab), ("careen/dues.none", laid_careen_dues_none)] }
def DuesMarginsSaid : Prop := duesMarginsRow.holds Tryd.pinned (OpenSpec.ofChange duesMarginsSpec)

/-- ITS FALSE NEIGHBOUR: 'it returns false'. Refute it at one input. -/
def duesMarginsWrong : ChangeSpec := { name := "duesMargins", fn := fun _ => fun
  | [d1, d2] => { results := [.lit (.bool false)], args := [d1, d2] }
  | _ => none }
def DuesMarginsWrongFalsely : Prop := duesMarginsRow.holds Tryd.pinned (OpenSpec.ofChange duesMarginsWrong)

/-- 'careenlaw10.DuesChecks': WHATEVER THE INPUT: true; the input reads as it did. -/
def duesChecksSpec : ChangeSpec := { name := "duesChecks", fn := fun _ => fun
  | [d1, d2, d3] => { results := [.lit (.bool true)], args := [d1, d2, d3] }
  | _ => none }
def duesChecksRow : OpenClaim := { program := "ytdjpaifhmiocnaadoor", sum := "e4e78e3625e299557d96128e5f5bf3e1b9b891ec75b2e8423c54445b12f41271", func := "careen/careenlaw10.DuesChecks", spec := "duesChecks", unfollowed := true, recurses := true, named := ["careen/dues.none", "math/bits.deBruijn32tab", "math/bits.deBruijn64tab"], apart := false, laid := [("math/bits.deBruijn32tab", laid_math_bits_deBruijn32tab), ("math/bits.deBruijn64tab", laid_math_bits_deBruijn64tab), ("careen/dues.none", laid_careen_dues_none)] }
def DuesChecksSaid : Prop := duesChecksRow.holds Tryd.pinned (OpenSpec.ofChange duesChecksSpec)

/-- ITS FALSE NEIGHBOUR: 'it returns false'. Refute it at one input. -/
def duesChecksWrong : ChangeSpec := { name := "duesChecks", fn := fun _ => fun
  | [d1, d2, d3] => { results := [.lit (.bool false)], args := [d1, d2, d3] }
  | _ => none }
def DuesChecksWrongFalsely : Prop := duesChecksRow.holds Tryd.pinned (OpenSpec.ofChange duesChecksWrong)

/- THE SECOND FORM. 'bulk': how many values and letters a reading holds, each counted each time it is reached (what is shared counts as often as it is met; a slice's spare places count too). A statement '..UptoSaid' is the law's where the arguments, and the package variables that the reading takes, are together of bulk at most 1048576: NARROWER than '..Said'. Prove '..Said' where nothing that the law and all that it calls make is longer than what came in: it says more and counts as full. Else prove '..UptoSaid'. A law counts once. -/
mutual
def uptoBulk {H : Type} : DataW H → Nat
  | .lit (.string bytes) => bytes.length + 1
  | .lit _ => 1
  | .nil => 1
  | .ptr d => uptoBulk d + 1
  | .slice elems spare => uptoBulkAll elems + uptoBulkAll spare + 1
  | .agg parts => uptoBulkAll parts + 1
  | .iface _ d => uptoBulk d + 1
  | .map entries => uptoBulkEntries entries + 1
  | .held _ => 1
def uptoBulkAll {H : Type} : List (DataW H) → Nat
  | [] => 0
  | d :: r => uptoBulk d + uptoBulkAll r
def uptoBulkEntries {H : Type} : List (Lit × DataW H) → Nat
  | [] => 0
  | x :: r => uptoBulkEntry x + uptoBulkEntries r
def uptoBulkEntry {H : Type} : Lit × DataW H → Nat
  | (.string bytes, d) => bytes.length + uptoBulk d + 1
  | (_, d) => uptoBulk d + 1
 end
def uptoSmall : (H : Type) → List (DataW H) → Bool := fun _ ds => decide (uptoBulkAll ds ≤ 1048576)
def OpenSpec.upto (s : _root_.Go.ChangeSpec) : _root_.Go.OpenSpec := { _root_.Go.OpenSpec.ofChange s with cond := some uptoSmall }

/-- 'careenlaw10.DuesShares', WHERE WHAT IT READS IS OF BULK AT MOST 1048576: true; the input reads as it did. -/
def duesSharesUptoRow : OpenClaim := { program := "ytdjpaifhmiocnaadoor", sum := "e4e78e3625e299557d96128e5f5bf3e1b9b891ec75b2e8423c54445b12f41271", func := "careen/careenlaw10.DuesShares", spec := "duesShares", unfollowed := true, recurses := true, named := ["careen/dues.none", "math/bits.deBruijn32tab", "math/bits.deBruijn64tab"], apart := false, laid := [("math/bits.deBruijn32tab", laid_math_bits_deBruijn32tab), ("math/bits.deBruijn64tab", laid_math_bits_deBruijn64tab), ("careen/dues.none", laid_careen_dues_none)], narrowed := true }
def DuesSharesUptoSaid : Prop := duesSharesUptoRow.holds Tryd.pinned (OpenSpec.upto duesSharesSpec)

/-- 'careenlaw10.DuesFairs', WHERE WHAT IT READS IS OF BULK AT MOST 1048576: true; the input reads as it did. -/
def duesFairsUptoRow : OpenClaim := { program := "ytdjpaifhmiocnaadoor", sum := "e4e78e3625e299557d96128e5f5bf3e1b9b891ec75b2e8423c54445b12f41271", func := "careen/careenlaw10.DuesFairs", spec := "duesFairs", unfollowed := true, recurses := true, named := ["math/bits.deBruijn32tab", "math/bits.deBruijn64tab", "careen/dues.none"], apart := false, laid := [("math/bits.deBruijn32tab", laid_math_bits_deBruijn32tab), ("math/bits.deBruijn64tab", laid_math_bits_deBruijn64tab), ("careen/dues.none", laid_careen_dues_none)], narrowed := true }
def DuesFairsUptoSaid : Prop := duesFairsUptoRow.holds Tryd.pinned (OpenSpec.upto duesFairsSpec)

/-- 'careenlaw10.DuesPowers', WHERE WHAT IT READS IS OF BULK AT MOST 1048576: true; the input reads as it did. -/
def duesPowersUptoRow : OpenClaim := { program := "ytdjpaifhmiocnaadoor", sum := "e4e78e3625e299557d96128e5f5bf3e1b9b891ec75b2e8423c54445b12f41271", func := "careen/careenlaw10.DuesPowers", spec := "duesPowers", unfollowed := true, recurses := true, named := ["math/bits.deBruijn32tab", "math/bits.deBruijn64tab", "careen/dues.none"], apart := false, laid := [("math/bits.deBruijn32tab", laid_math_bits_deBruijn32tab), ("math/bits.deBruijn64tab", laid_math_bits_deBruijn64tab), ("careen/dues.none", laid_careen_dues_none)], narrowed := true }
def DuesPowersUptoSaid : Prop := duesPowersUptoRow.holds Tryd.pinned (OpenSpec.upto duesPowersSpec)

/-- 'careenlaw10.DuesPivots', WHERE WHAT IT READS IS OF BULK AT MOST 1048576: true; the input reads as it did. -/
def duesPivotsUptoRow : OpenClaim := { program := "ytdjpaifhmiocnaadoor", sum := "e4e78e3625e299557d96128e5f5bf3e1b9b891ec75b2e8423c54445b12f41271", func := "careen/careenlaw10.DuesPivots", spec := "duesPivots", unfollowed := true, recurses := true, named := ["math/bits.deBruijn32tab", "math/bits.deBruijn64tab", "careen/dues.none"], apart := false, laid := [("math/bits.deBruijn32tab", laid_math_bits_deBruijn32tab), ("math/bits.deBruijn64tab", laid_math_bits_deBruijn64tab), ("careen/dues.none", laid_careen_dues_none)], narrowed := true }
def DuesPivotsUptoSaid : Prop := duesPivotsUptoRow.holds Tryd.pinned (OpenSpec.upto duesPivotsSpec)

/-- 'careenlaw10.DuesAverages', WHERE WHAT IT READS IS OF BULK AT MOST 1048576: true; the input reads as it did. -/
def duesAveragesUptoRow : OpenClaim := { program := "ytdjpaifhmiocnaadoor", sum := "e4e78e3625e299557d96128e5f5bf3e1b9b891ec75b2e8423c54445b12f41271", func := "careen/careenlaw10.DuesAverages", spec := "duesAverages", unfollowed := true, recurses := true, named := ["math/bits.deBruijn32tab", "math/bits.deBruijn64tab", "careen/dues.none"], apart := false, laid := [("math/bits.deBruijn32tab", laid_math_bits_deBruijn32tab), ("math/bits.deBruijn64tab", laid_math_bits_deBruijn64tab), ("careen/dues.none", laid_careen_dues_none)], narrowed := true }
def DuesAveragesUptoSaid : Prop := duesAveragesUptoRow.holds Tryd.pinned (OpenSpec.upto duesAveragesSpec)

/-- 'careenlaw10.DuesShapley', WHERE WHAT IT READS IS OF BULK AT MOST 1048576: true; the input reads as it did. -/
def duesShapleyUptoRow : OpenClaim := { program := "ytdjpaifhmiocnaadoor", sum := "e4e78e3625e299557d96128e5f5bf3e1b9b891ec75b2e8423c54445b12f41271", func := "careen/careenlaw10.DuesShapley", spec := "duesShapley", unfollowed := true, recurses := true, named := ["careen/dues.none", "math/bits.deBruijn32tab", "math/bits.deBruijn64tab"], apart := false, laid := [("math/bits.deBruijn32tab", laid_math_bits_deBruijn32tab), ("math/bits.deBruijn64tab", laid_math_bits_deBruijn64tab), ("careen/dues.none", laid_careen_dues_none)], narrowed := true }
def DuesShapleyUptoSaid : Prop := duesShapleyUptoRow.holds Tryd.pinned (OpenSpec.upto duesShapleySpec)

/-- 'careenlaw10.DuesUnions', WHERE WHAT IT READS IS OF BULK AT MOST 1048576: true; the input reads as it did. -/
def duesUnionsUptoRow : OpenClaim := { program := "ytdjpaifhmiocnaadoor", sum := "e4e78e3625e299557d96128e5f5bf3e1b9b891ec75b2e8423c54445b12f41271", func := "careen/careenlaw10.DuesUnions", spec := "duesUnions", unfollowed := true, recurses := true, named := ["math/bits.deBruijn32tab", "math/bits.deBruijn64tab", "careen/dues.none"], apart := false, laid := [("math/bits.deBruijn32tab", laid_math_bits_deBruijn32tab), ("math/bits.deBruijn64tab", laid_math_bits_deBruijn64tab), ("careen/dues.none", laid_careen_dues_none)], narrowed := true }
def DuesUnionsUptoSaid : Prop := duesUnionsUptoRow.holds Tryd.pinned (OpenSpec.upto duesUnionsSpec)

/-- 'careenlaw10.DuesCosts', WHERE WHAT IT READS IS OF BULK AT MOST 1048576: true; the input reads as it did. -/
def duesCostsUptoRow : OpenClaim := { program := "ytdjpaifhmiocnaadoor", sum := "e4e78e3625e299557d96128e5f5bf3e1b9b891ec75b2e8423c54445b12f41271", func := "careen/careenlaw10.DuesCosts", spec := "duesCosts", unfollowed := true, recurses := true, named := ["math/bits.deBruijn32tab", "math/bits.deBruijn64tab", "careen/dues.none"], apart := false, laid := [("math/bits.deBruijn32tab", laid_math_bits_deBruijn32tab), ("math/bits.deBruijn64tab", laid_math_bits_deBruijn64tab), ("careen/dues.none", laid_careen_dues_none)], narrowed := true }
def DuesCostsUptoSaid : Prop := duesCostsUptoRow.holds Tryd.pinned (OpenSpec.upto duesCostsSpec)

/-- 'careenlaw10.DuesOwn', WHERE WHAT IT READS IS OF BULK AT MOST 1048576: true; the input reads as it did. -/
def duesOwnUptoRow : OpenClaim := { program := "ytdjpaifhmiocnaadoor", sum := "e4e78e3625e299557d96128e5f5bf3e1b9b891ec75b2e8423c54445b12f41271", func := "careen/careenlaw10.DuesOwn", spec := "duesOwn", unfollowed := true, recurses := true, named := ["careen/dues.none", "math/bits.deBruijn32tab", "math/bits.deBruijn64tab"], apart := false, laid := [("math/bits.deBruijn32tab", laid_math_bits_deBruijn32tab), ("math/bits.deBruijn64tab", laid_math_bits_deBruijn64tab), ("careen/dues.none", laid_careen_dues_none)], narrowed := true }
def DuesOwnUptoSaid : Prop := duesOwnUptoRow.holds Tryd.pinned (OpenSpec.upto duesOwnSpec)

/-- 'careenlaw10.DuesEnds', WHERE WHAT IT READS IS OF BULK AT MOST 1048576: true; the input reads as it did. -/
def duesEndsUptoRow : OpenClaim := { program := "ytdjpaifhmiocnaadoor", sum := "e4e78e3625e299557d96128e5f5bf3e1b9b891ec75b2e8423c54445b12f41271", func := "careen/careenlaw10.DuesEnds", spec := "duesEnds", unfollowed := true, recurses := true, named := ["careen/dues.none", "math/bits.deBruijn32tab", "math/bits.deBruijn64tab"], apart := false, laid := [("math/bits.deBruijn32tab", laid_math_bits_deBruijn32tab), ("math/bits.deBruijn64tab", laid_math_bits_deBruijn64tab), ("careen/dues.none", laid_careen_dues_none)], narrowed := true }
def DuesEndsUptoSaid : Prop := duesEndsUptoRow.holds Tryd.pinned (OpenSpec.upto duesEndsSpec)

/-- 'careenlaw10.DuesMargins', WHERE WHAT IT READS IS OF BULK AT MOST 1048576: true; the input reads as it did. -/
def duesMarginsUptoRow : OpenClaim := { program := "ytdjpaifhmiocnaadoor", sum := "e4e78e3625e299557d96128e5f5bf3e1b9b891ec75b2e8423c54445b12f41271", func := "careen/careenlaw10.DuesMargins", spec := "duesMargins", unfollowed := true, recurses := true, named := ["careen/dues.none", "math/bits.deBruijn32tab", "math/bits.deBruijn64tab"], apart := false, laid := [("math/bits.deBruijn32tab", laid_math_bits_deBruijn32tab), ("math/bits.deBruijn64tab", laid_math_bits_deBruijn64tab), ("careen/dues.none", laid_careen_dues_none)], narrowed := true }
def DuesMarginsUptoSaid : Prop := duesMarginsUptoRow.holds Tryd.pinned (OpenSpec.upto duesMarginsSpec)

/-- 'careenlaw10.DuesChecks', WHERE WHAT IT READS IS OF BULK AT MOST 1048576: true; the input reads as it did. -/
def duesChecksUptoRow : OpenClaim := { program := "ytdjpaifhmiocnaadoor", sum := "e4e78e3625e299557d96128e5f5bf3e1b9b891ec75b2e8423c54445b12f41271", func := "careen/careenlaw10.DuesChecks", spec := "duesChecks", unfollowed := true, recurses := true, named := ["careen/dues.none", "math/bits.deBruijn32tab", "math/bits.deBruijn64tab"], apart := false, laid := [("math/bits.deBruijn32tab", laid_math_bits_deBruijn32tab), ("math/bits.deBruijn64tab", laid_math_bits_deBruijn64tab), ("careen/dues.none", laid_careen_dues_none)], narrowed := true }
def DuesChecksUptoSaid : Prop := duesChecksUptoRow.holds Tryd.pinned (OpenSpec.upto duesChecksSpec)

end Rows
end Go.Proofs.YtdjpaifhmiocnaaDoor
