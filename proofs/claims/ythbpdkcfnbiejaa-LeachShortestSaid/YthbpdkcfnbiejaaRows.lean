/-
  No cell of these rows narrows 'for every input' (looked for: loops, veiled, ifaces, maps, wideKeys, modest, calm, conditions, laid).
  DERIVED. THE GIVEN ROWS OF THIS SEAT. 16 by the template 'for every input the law returns true; each argument reads behind the call as it read before'; 0 by the template 'total and deterministic' (their statements: YthbpdkcfnbiejaaTotals.lean).
  GIVEN WITH THE SEED: the statements are not yours to turn. If you find one false, say at which input.
  Laid BY PROGRAM, IN A SANDBOX (cutbox-rows.mjs): the forced cells as the released guide's own fill.sh prints them over the translation db1a47b97d9a5137… (all of the seat's roots in one cut). By AI agents, Wed Nov 11 2026. No macro, syntax, notation, axiom, sorry.
-/
import Derived.Test.YthbpdkcfnbiejaaChecked
import GoSem.Claim
import GoSem.ClaimJoined
import GoSem.ClaimMapViews
import Derived.JoinedTies
import Derived.KernelRfl
namespace Go.Proofs.Ythbpdkcfnbiejaa
/- THE CELL 'sum', in the pinned program and in every row, IS THE sha256 OF THE DUMP (.gsa) THAT YthbpdkcfnbiejaaProg.lean LOADS. Nothing in Lean hashes anything: it is a label: what it is worth is what the hold of that sum in a sandbox is worth. -/
noncomputable def Try.pinned : Pinned := { name := "ythbpdkcfnbiejaa", sum := "db1a47b97d9a5137f331fa187c8d6aae18f7836d4419c4d883ec535c7c5e6e59", checked := Try.checked }
namespace Rows
def none {H : Type} : Left H := { results := [], args := [] }

/-- 'saltdomelaw01.LeachBounds': WHATEVER THE INPUT: true; the input reads as it did. -/
def leachBoundsSpec : ChangeSpec := { name := "leachBounds", fn := fun _ => fun
  | [d1, d2, d3, d4] => { results := [.lit (.bool true)], args := [d1, d2, d3, d4] }
  | _ => none }
def leachBoundsRow : OpenClaim := { program := "ythbpdkcfnbiejaa", sum := "db1a47b97d9a5137f331fa187c8d6aae18f7836d4419c4d883ec535c7c5e6e59", func := "saltdome/saltdomelaw01.LeachBounds", spec := "leachBounds", unfollowed := true, recurses := true, plainKeys := false, apart := false }
def LeachBoundsSaid : Prop := leachBoundsRow.holds Try.pinned (OpenSpec.ofChange leachBoundsSpec)

/-- ITS FALSE NEIGHBOUR: 'it returns false'. Refute it at one input. -/
def leachBoundsWrong : ChangeSpec := { name := "leachBounds", fn := fun _ => fun
  | [d1, d2, d3, d4] => { results := [.lit (.bool false)], args := [d1, d2, d3, d4] }
  | _ => none }
def LeachBoundsWrongFalsely : Prop := leachBoundsRow.holds Try.pinned (OpenSpec.ofChange leachBoundsWrong)

/-- 'saltdomelaw01.LeachGrades': WHATEVER THE INPUT: true; the input reads as it did. -/
def leachGradesSpec : ChangeSpec := { name := "leachGrades", fn := fun _ => fun
  | [d1, d2] => { results := [.lit (.bool true)], args := [d1, d2] }
  | _ => none }
def leachGradesRow : OpenClaim := { program := "ythbpdkcfnbiejaa", sum := "db1a47b97d9a5137f331fa187c8d6aae18f7836d4419c4d883ec535c7c5e6e59", func := "saltdome/saltdomelaw01.LeachGrades", spec := "leachGrades", unfollowed := true, recurses := true, plainKeys := false, apart := false }
def LeachGradesSaid : Prop := leachGradesRow.holds Try.pinned (OpenSpec.ofChange leachGradesSpec)

/-- ITS FALSE NEIGHBOUR: 'it returns false'. Refute it at one input. -/
def leachGradesWrong : ChangeSpec := { name := "leachGrades", fn := fun _ => fun
  | [d1, d2] => { results := [.lit (.bool false)], args := [d1, d2] }
  | _ => none }
def LeachGradesWrongFalsely : Prop := leachGradesRow.holds Try.pinned (OpenSpec.ofChange leachGradesWrong)

/-- 'saltdomelaw01.LeachFaults': WHATEVER THE INPUT: true; the input reads as it did. -/
def leachFaultsSpec : ChangeSpec := { name := "leachFaults", fn := fun _ => fun
  | [d1, d2] => { results := [.lit (.bool true)], args := [d1, d2] }
  | _ => none }
def leachFaultsRow : OpenClaim := { program := "ythbpdkcfnbiejaa", sum := "db1a47b97d9a5137f331fa187c8d6aae18f7836d4419c4d883ec535c7c5e6e59", func := "saltdome/saltdomelaw01.LeachFaults", spec := "leachFaults", unfollowed := true, recurses := true, plainKeys := false, apart := false }
def LeachFaultsSaid : Prop := leachFaultsRow.holds Try.pinned (OpenSpec.ofChange leachFaultsSpec)

/-- ITS FALSE NEIGHBOUR: 'it returns false'. Refute it at one input. -/
def leachFaultsWrong : ChangeSpec := { name := "leachFaults", fn := fun _ => fun
  | [d1, d2] => { results := [.lit (.bool false)], args := [d1, d2] }
  | _ => none }
def LeachFaultsWrongFalsely : Prop := leachFaultsRow.holds Try.pinned (OpenSpec.ofChange leachFaultsWrong)

/-- 'saltdomelaw01.LeachPlans': WHATEVER THE INPUT: true; the input reads as it did. -/
def leachPlansSpec : ChangeSpec := { name := "leachPlans", fn := fun _ => fun
  | [d1, d2, d3] => { results := [.lit (.bool true)], args := [d1, d2, d3] }
  | _ => none }
def leachPlansRow : OpenClaim := { program := "ythbpdkcfnbiejaa", sum := "db1a47b97d9a5137f331fa187c8d6aae18f7836d4419c4d883ec535c7c5e6e59", func := "saltdome/saltdomelaw01.LeachPlans", spec := "leachPlans", unfollowed := true, recurses := true, plainKeys := false, apart := false }
def LeachPlansSaid : Prop := leachPlansRow.holds Try.pinned (OpenSpec.ofChange leachPlansSpec)

/-- ITS FALSE NEIGHBOUR: 'it returns false'. Refute it at one input. -/
def leachPlansWrong : ChangeSpec := { name := "leachPlans", fn := fun _ => fun
  | [d1, d2, d3] => { results := [.lit (.bool false)], args := [d1, d2, d3] }
  | _ => none }
def LeachPlansWrongFalsely : Prop := leachPlansRow.holds Try.pinned (OpenSpec.ofChange leachPlansWrong)

/-- 'saltdomelaw01.LeachLeast': WHATEVER THE INPUT: true; the input reads as it did. -/
def leachLeastSpec : ChangeSpec := { name := "leachLeast", fn := fun _ => fun
  | [d1, d2, d3] => { results := [.lit (.bool true)], args := [d1, d2, d3] }
  | _ => none }
def leachLeastRow : OpenClaim := { program := "ythbpdkcfnbiejaa", sum := "db1a47b97d9a5137f331fa187c8d6aae18f7836d4419c4d883ec535c7c5e6e59", func := "saltdome/saltdomelaw01.LeachLeast", spec := "leachLeast", unfollowed := true, recurses := true, plainKeys := false, apart := false }
def LeachLeastSaid : Prop := leachLeastRow.holds Try.pinned (OpenSpec.ofChange leachLeastSpec)

/-- ITS FALSE NEIGHBOUR: 'it returns false'. Refute it at one input. -/
def leachLeastWrong : ChangeSpec := { name := "leachLeast", fn := fun _ => fun
  | [d1, d2, d3] => { results := [.lit (.bool false)], args := [d1, d2, d3] }
  | _ => none }
def LeachLeastWrongFalsely : Prop := leachLeastRow.holds Try.pinned (OpenSpec.ofChange leachLeastWrong)

/-- 'saltdomelaw01.LeachChecks': WHATEVER THE INPUT: true; the input reads as it did. -/
def leachChecksSpec : ChangeSpec := { name := "leachChecks", fn := fun _ => fun
  | [d1, d2] => { results := [.lit (.bool true)], args := [d1, d2] }
  | _ => none }
def leachChecksRow : OpenClaim := { program := "ythbpdkcfnbiejaa", sum := "db1a47b97d9a5137f331fa187c8d6aae18f7836d4419c4d883ec535c7c5e6e59", func := "saltdome/saltdomelaw01.LeachChecks", spec := "leachChecks", unfollowed := true, recurses := true, plainKeys := false, apart := false }
def LeachChecksSaid : Prop := leachChecksRow.holds Try.pinned (OpenSpec.ofChange leachChecksSpec)

/-- ITS FALSE NEIGHBOUR: 'it returns false'. Refute it at one input. -/
def leachChecksWrong : ChangeSpec := { name := "leachChecks", fn := fun _ => fun
  | [d1, d2] => { results := [.lit (.bool false)], args := [d1, d2] }
  | _ => none }
def LeachChecksWrongFalsely : Prop := leachChecksRow.holds Try.pinned (OpenSpec.ofChange leachChecksWrong)

/-- 'saltdomelaw01.LeachShapes': WHATEVER THE INPUT: true; the input reads as it did. -/
def leachShapesSpec : ChangeSpec := { name := "leachShapes", fn := fun _ => fun
  | [d1, d2] => { results := [.lit (.bool true)], args := [d1, d2] }
  | _ => none }
def leachShapesRow : OpenClaim := { program := "ythbpdkcfnbiejaa", sum := "db1a47b97d9a5137f331fa187c8d6aae18f7836d4419c4d883ec535c7c5e6e59", func := "saltdome/saltdomelaw01.LeachShapes", spec := "leachShapes", unfollowed := true, recurses := true, plainKeys := false, apart := false }
def LeachShapesSaid : Prop := leachShapesRow.holds Try.pinned (OpenSpec.ofChange leachShapesSpec)

/-- ITS FALSE NEIGHBOUR: 'it returns false'. Refute it at one input. -/
def leachShapesWrong : ChangeSpec := { name := "leachShapes", fn := fun _ => fun
  | [d1, d2] => { results := [.lit (.bool false)], args := [d1, d2] }
  | _ => none }
def LeachShapesWrongFalsely : Prop := leachShapesRow.holds Try.pinned (OpenSpec.ofChange leachShapesWrong)

/-- 'saltdomelaw01.LeachMore': WHATEVER THE INPUT: true; the input reads as it did. -/
def leachMoreSpec : ChangeSpec := { name := "leachMore", fn := fun _ => fun
  | [d1, d2, d3, d4] => { results := [.lit (.bool true)], args := [d1, d2, d3, d4] }
  | _ => none }
def leachMoreRow : OpenClaim := { program := "ythbpdkcfnbiejaa", sum := "db1a47b97d9a5137f331fa187c8d6aae18f7836d4419c4d883ec535c7c5e6e59", func := "saltdome/saltdomelaw01.LeachMore", spec := "leachMore", unfollowed := true, recurses := true, plainKeys := false, apart := false }
def LeachMoreSaid : Prop := leachMoreRow.holds Try.pinned (OpenSpec.ofChange leachMoreSpec)

/-- ITS FALSE NEIGHBOUR: 'it returns false'. Refute it at one input. -/
def leachMoreWrong : ChangeSpec := { name := "leachMore", fn := fun _ => fun
  | [d1, d2, d3, d4] => { results := [.lit (.bool false)], args := [d1, d2, d3, d4] }
  | _ => none }
def LeachMoreWrongFalsely : Prop := leachMoreRow.holds Try.pinned (OpenSpec.ofChange leachMoreWrong)

/-- 'saltdomelaw01.LeachSharp': WHATEVER THE INPUT: true; the input reads as it did. -/
def leachSharpSpec : ChangeSpec := { name := "leachSharp", fn := fun _ => fun
  | [d1, d2, d3, d4] => { results := [.lit (.bool true)], args := [d1, d2, d3, d4] }
  | _ => none }
def leachSharpRow : OpenClaim := { program := "ythbpdkcfnbiejaa", sum := "db1a47b97d9a5137f331fa187c8d6aae18f7836d4419c4d883ec535c7c5e6e59", func := "saltdome/saltdomelaw01.LeachSharp", spec := "leachSharp", unfollowed := true, recurses := true, plainKeys := false, apart := false }
def LeachSharpSaid : Prop := leachSharpRow.holds Try.pinned (OpenSpec.ofChange leachSharpSpec)

/-- ITS FALSE NEIGHBOUR: 'it returns false'. Refute it at one input. -/
def leachSharpWrong : ChangeSpec := { name := "leachSharp", fn := fun _ => fun
  | [d1, d2, d3, d4] => { results := [.lit (.bool false)], args := [d1, d2, d3, d4] }
  | _ => none }
def LeachSharpWrongFalsely : Prop := leachSharpRow.holds Try.pinned (OpenSpec.ofChange leachSharpWrong)

/-- 'saltdomelaw01.LeachPlays': WHATEVER THE INPUT: true; the input reads as it did. -/
def leachPlaysSpec : ChangeSpec := { name := "leachPlays", fn := fun _ => fun
  | [d1, d2, d3] => { results := [.lit (.bool true)], args := [d1, d2, d3] }
  | _ => none }
def leachPlaysRow : OpenClaim := { program := "ythbpdkcfnbiejaa", sum := "db1a47b97d9a5137f331fa187c8d6aae18f7836d4419c4d883ec535c7c5e6e59", func := "saltdome/saltdomelaw01.LeachPlays", spec := "leachPlays", unfollowed := true, recurses := true, plainKeys := false, apart := false }
def LeachPlaysSaid : Prop := leachPlaysRow.holds Try.pinned (OpenSpec.ofChange leachPlaysSpec)

/-- ITS FALSE NEIGHBOUR: 'it returns false'. Refute it at one input. -/
def leachPlaysWrong : ChangeSpec := { name := "leachPlays", fn := fun _ => fun
  | [d1, d2, d3] => { results := [.lit (.bool false)], args := [d1, d2, d3] }
  | _ => none }
def LeachPlaysWrongFalsely : Prop := leachPlaysRow.holds Try.pinned (OpenSpec.ofChange leachPlaysWrong)

/-- 'saltdomelaw01.LeachSalt': WHATEVER THE INPUT: true; the input reads as it did. -/
def leachSaltSpec : ChangeSpec := { name := "leachSalt", fn := fun _ => fun
  | [d1, d2, d3] => { results := [.lit (.bool true)], args := [d1, d2, d3] }
  | _ => none }
def leachSaltRow : OpenClaim := { program := "ythbpdkcfnbiejaa", sum := "db1a47b97d9a5137f331fa187c8d6aae18f7836d4419c4d883ec535c7c5e6e59", func := "saltdome/saltdomelaw01.LeachSalt", spec := "leachSalt", unfollowed := true, recurses := true, plainKeys := false, apart := false }
def LeachSaltSaid : Prop := leachSaltRow.holds Try.pinned (OpenSpec.ofChange leachSaltSpec)

/-- ITS FALSE NEIGHBOUR: 'it returns false'. Refute it at one input. -/
def leachSaltWrong : ChangeSpec := { name := "leachSalt", fn := fun _ => fun
  | [d1, d2, d3] => { results := [.lit (.bool false)], args := [d1, d2, d3] }
  | _ => none }
def LeachSaltWrongFalsely : Prop := leachSaltRow.holds Try.pinned (OpenSpec.ofChange leachSaltWrong)

/-- 'saltdomelaw01.LeachStrong': WHATEVER THE INPUT: true; the input reads as it did. -/
def leachStrongSpec : ChangeSpec := { name := "leachStrong", fn := fun _ => fun
  | [d1, d2, d3] => { results := [.lit (.bool true)], args := [d1, d2, d3] }
  | _ => none }
def leachStrongRow : OpenClaim := { program := "ythbpdkcfnbiejaa", sum := "db1a47b97d9a5137f331fa187c8d6aae18f7836d4419c4d883ec535c7c5e6e59", func := "saltdome/saltdomelaw01.LeachStrong", spec := "leachStrong", unfollowed := true, recurses := true, plainKeys := false, apart := false }
def LeachStrongSaid : Prop := leachStrongRow.holds Try.pinned (OpenSpec.ofChange leachStrongSpec)

/-- ITS FALSE NEIGHBOUR: 'it returns false'. Refute it at one input. -/
def leachStrongWrong : ChangeSpec := { name := "leachStrong", fn := fun _ => fun
  | [d1, d2, d3] => { results := [.lit (.bool false)], args := [d1, d2, d3] }
  | _ => none }
def LeachStrongWrongFalsely : Prop := leachStrongRow.holds Try.pinned (OpenSpec.ofChange leachStrongWrong)

/-- 'saltdomelaw01.LeachSafe': WHATEVER THE INPUT: true; the input reads as it did. -/
def leachSafeSpec : ChangeSpec := { name := "leachSafe", fn := fun _ => fun
  | [d1, d2, d3] => { results := [.lit (.bool true)], args := [d1, d2, d3] }
  | _ => none }
def leachSafeRow : OpenClaim := { program := "ythbpdkcfnbiejaa", sum := "db1a47b97d9a5137f331fa187c8d6aae18f7836d4419c4d883ec535c7c5e6e59", func := "saltdome/saltdomelaw01.LeachSafe", spec := "leachSafe", unfollowed := true, recurses := true, plainKeys := false, apart := false }
def LeachSafeSaid : Prop := leachSafeRow.holds Try.pinned (OpenSpec.ofChange leachSafeSpec)

/-- ITS FALSE NEIGHBOUR: 'it returns false'. Refute it at one input. -/
def leachSafeWrong : ChangeSpec := { name := "leachSafe", fn := fun _ => fun
  | [d1, d2, d3] => { results := [.lit (.bool false)], args := [d1, d2, d3] }
  | _ => none }
def LeachSafeWrongFalsely : Prop := leachSafeRow.holds Try.pinned (OpenSpec.ofChange leachSafeWrong)

/-- 'saltdomelaw01.LeachFlawed': WHATEVER THE INPUT: true; the input reads as it did. -/
def leachFlawedSpec : ChangeSpec := { name := "leachFlawed", fn := fun _ => fun
  | [d1, d2] => { results := [.lit (.bool true)], args := [d1, d2] }
  | _ => none }
def leachFlawedRow : OpenClaim := { program := "ythbpdkcfnbiejaa", sum := "db1a47b97d9a5137f331fa187c8d6aae18f7836d4419c4d883ec535c7c5e6e59", func := "saltdome/saltdomelaw01.LeachFlawed", spec := "leachFlawed", unfollowed := true, recurses := true, plainKeys := false, apart := false }
def LeachFlawedSaid : Prop := leachFlawedRow.holds Try.pinned (OpenSpec.ofChange leachFlawedSpec)

/-- ITS FALSE NEIGHBOUR: 'it returns false'. Refute it at one input. -/
def leachFlawedWrong : ChangeSpec := { name := "leachFlawed", fn := fun _ => fun
  | [d1, d2] => { results := [.lit (.bool false)], args := [d1, d2] }
  | _ => none }
def LeachFlawedWrongFalsely : Prop := leachFlawedRow.holds Try.pinned (OpenSpec.ofChange leachFlawedWrong)

/-- 'saltdomelaw01.LeachTrue': WHATEVER THE INPUT: true; the input reads as it did. -/
def leachTrueSpec : ChangeSpec := { name := "leachTrue", fn := fun _ => fun
  | [d1, d2, d3, d4, d5] => { results := [.lit (.bool true)], args := [d1, d2, d3, d4, d5] }
  | _ => none }
def leachTrueRow : OpenClaim := { program := "ythbpdkcfnbiejaa", sum := "db1a47b97d9a5137f331fa187c8d6aae18f7836d4419c4d883ec535c7c5e6e59", func := "saltdome/saltdomelaw01.LeachTrue", spec := "leachTrue", unfollowed := true, recurses := true, plainKeys := false, apart := false }
def LeachTrueSaid : Prop := leachTrueRow.holds Try.pinned (OpenSpec.ofChange leachTrueSpec)

/-- ITS FALSE NEIGHBOUR: 'it returns false'. Refute it at one input. -/
def leachTrueWrong : ChangeSpec := { name := "leachTrue", fn := fun _ => fun
  | [d1, d2, d3, d4, d5] => { results := [.lit (.bool false)], args := [d1, d2, d3, d4, d5] }
  | _ => none }
def LeachTrueWrongFalsely : Prop := leachTrueRow.holds Try.pinned (OpenSpec.ofChange leachTrueWrong)

/-- 'saltdomelaw01.LeachShortest': WHATEVER THE INPUT: true; the input reads as it did. -/
def leachShortestSpec : ChangeSpec := { name := "leachShortest", fn := fun _ => fun
  | [d1, d2, d3, d4, d5] => { results := [.lit (.bool true)], args := [d1, d2, d3, d4, d5] }
  | _ => none }
def leachShortestRow : OpenClaim := { program := "ythbpdkcfnbiejaa", sum := "db1a47b97d9a5137f331fa187c8d6aae18f7836d4419c4d883ec535c7c5e6e59", func := "saltdome/saltdomelaw01.LeachShortest", spec := "leachShortest", unfollowed := true, recurses := true, plainKeys := false, apart := false }
def LeachShortestSaid : Prop := leachShortestRow.holds Try.pinned (OpenSpec.ofChange leachShortestSpec)

/-- ITS FALSE NEIGHBOUR: 'it returns false'. Refute it at one input. -/
def leachShortestWrong : ChangeSpec := { name := "leachShortest", fn := fun _ => fun
  | [d1, d2, d3, d4, d5] => { results := [.lit (.bool false)], args := [d1, d2, d3, d4, d5] }
  | _ => none }
def LeachShortestWrongFalsely : Prop := leachShortestRow.holds Try.pinned (OpenSpec.ofChange leachShortestWrong)

/- THE SECOND FORM. 'bulk': how many values and letters a reading holds, each counted each time it is reached (what is shared counts as often as it is met; a slice's spare places count too). A statement '..UptoSaid' is the law's where the arguments, and the package variables that the reading takes, are together of bulk at most 1048576: NARROWER than '..Said'. Prove '..Said' where nothing that the law and all that it calls make is longer than what came in: it says more and counts as full. Else prove '..UptoSaid'. A law counts once. -/
mutual
def uptoBulk {H : Type} : DataW H → Nat
  | .lit (.string bytes) => bytes.length + 1
  | .lit _ => 1
  | .nil => 1
  | .ptr d => uptoBulk d + 1
  | .slice elems spare => uptoBulkAll elems + uptoBulkAll spare + 1
  | .agg parts => uptoBulkAll parts + 1
  | .iface _ d => uptoBulk d + 1
  | .map entries => uptoBulkEntries entries + 1
  | .held _ => 1
def uptoBulkAll {H : Type} : List (DataW H) → Nat
  | [] => 0
  | d :: r => uptoBulk d + uptoBulkAll r
def uptoBulkEntries {H : Type} : List (Lit × DataW H) → Nat
  | [] => 0
  | x :: r => uptoBulkEntry x + uptoBulkEntries r
def uptoBulkEntry {H : Type} : Lit × DataW H → Nat
  | (.string bytes, d) => bytes.length + uptoBulk d + 1
  | (_, d) => uptoBulk d + 1
 end
def uptoSmall : (H : Type) → List (DataW H) → Bool := fun _ ds => decide (uptoBulkAll ds ≤ 1048576)
def OpenSpec.upto (s : _root_.Go.ChangeSpec) : _root_.Go.OpenSpec := { _root_.Go.OpenSpec.ofChange s with cond := some uptoSmall }

/-- 'saltdomelaw01.LeachBounds', WHERE WHAT IT READS IS OF BULK AT MOST 1048576: true; the input reads as it did. -/
def leachBoundsUptoRow : OpenClaim := { program := "ythbpdkcfnbiejaa", sum := "db1a47b97d9a5137f331fa187c8d6aae18f7836d4419c4d883ec535c7c5e6e59", func := "saltdome/saltdomelaw01.LeachBounds", spec := "leachBounds", unfollowed := true, recurses := true, plainKeys := false, apart := false, narrowed := true }
def LeachBoundsUptoSaid : Prop := leachBoundsUptoRow.holds Try.pinned (OpenSpec.upto leachBoundsSpec)

/-- 'saltdomelaw01.LeachGrades', WHERE WHAT IT READS IS OF BULK AT MOST 1048576: true; the input reads as it did. -/
def leachGradesUptoRow : OpenClaim := { program := "ythbpdkcfnbiejaa", sum := "db1a47b97d9a5137f331fa187c8d6aae18f7836d4419c4d883ec535c7c5e6e59", func := "saltdome/saltdomelaw01.LeachGrades", spec := "leachGrades", unfollowed := true, recurses := true, plainKeys := false, apart := false, narrowed := true }
def LeachGradesUptoSaid : Prop := leachGradesUptoRow.holds Try.pinned (OpenSpec.upto leachGradesSpec)

/-- 'saltdomelaw01.LeachFaults', WHERE WHAT IT READS IS OF BULK AT MOST 1048576: true; the input reads as it did. -/
def leachFaultsUptoRow : OpenClaim := { program := "ythbpdkcfnbiejaa", sum := "db1a47b97d9a5137f331fa187c8d6aae18f7836d4419c4d883ec535c7c5e6e59", func := "saltdome/saltdomelaw01.LeachFaults", spec := "leachFaults", unfollowed := true, recurses := true, plainKeys := false, apart := false, narrowed := true }
def LeachFaultsUptoSaid : Prop := leachFaultsUptoRow.holds Try.pinned (OpenSpec.upto leachFaultsSpec)

/-- 'saltdomelaw01.LeachPlans', WHERE WHAT IT READS IS OF BULK AT MOST 1048576: true; the input reads as it did. -/
def leachPlansUptoRow : OpenClaim := { program := "ythbpdkcfnbiejaa", sum := "db1a47b97d9a5137f331fa187c8d6aae18f7836d4419c4d883ec535c7c5e6e59", func := "saltdome/saltdomelaw01.LeachPlans", spec := "leachPlans", unfollowed := true, recurses := true, plainKeys := false, apart := false, narrowed := true }
def LeachPlansUptoSaid : Prop := leachPlansUptoRow.holds Try.pinned (OpenSpec.upto leachPlansSpec)

/-- 'saltdomelaw01.LeachLeast', WHERE WHAT IT READS IS OF BULK AT MOST 1048576: true; the input reads as it did. -/
def leachLeastUptoRow : OpenClaim := { program := "ythbpdkcfnbiejaa", sum := "db1a47b97d9a5137f331fa187c8d6aae18f7836d4419c4d883ec535c7c5e6e59", func := "saltdome/saltdomelaw01.LeachLeast", spec := "leachLeast", unfollowed := true, recurses := true, plainKeys := false, apart := false, narrowed := true }
def LeachLeastUptoSaid : Prop := leachLeastUptoRow.holds Try.pinned (OpenSpec.upto leachLeastSpec)

/-- 'saltdomelaw01.LeachChecks', WHERE WHAT IT READS IS OF BULK AT MOST 1048576: true; the input reads as it did. -/
def leachChecksUptoRow : OpenClaim := { program := "ythbpdkcfnbiejaa", sum := "db1a47b97d9a5137f331fa187c8d6aae18f7836d4419c4d883ec535c7c5e6e59", func := "saltdome/saltdomelaw01.LeachChecks", spec := "leachChecks", unfollowed := true, recurses := true, plainKeys := false, apart := false, narrowed := true }
def LeachChecksUptoSaid : Prop := leachChecksUptoRow.holds Try.pinned (OpenSpec.upto leachChecksSpec)

/-- 'saltdomelaw01.LeachShapes', WHERE WHAT IT READS IS OF BULK AT MOST 1048576: true; the input reads as it did. -/
def leachShapesUptoRow : OpenClaim := { program := "ythbpdkcfnbiejaa", sum := "db1a47b97d9a5137f331fa187c8d6aae18f7836d4419c4d883ec535c7c5e6e59", func := "saltdome/saltdomelaw01.LeachShapes", spec := "leachShapes", unfollowed := true, recurses := true, plainKeys := false, apart := false, narrowed := true }
def LeachShapesUptoSaid : Prop := leachShapesUptoRow.holds Try.pinned (OpenSpec.upto leachShapesSpec)

/-- 'saltdomelaw01.LeachMore', WHERE WHAT IT READS IS OF BULK AT MOST 1048576: true; the input reads as it did. -/
def leachMoreUptoRow : OpenClaim := { program := "ythbpdkcfnbiejaa", sum := "db1a47b97d9a5137f331fa187c8d6aae18f7836d4419c4d883ec535c7c5e6e59", func := "saltdome/saltdomelaw01.LeachMore", spec := "leachMore", unfollowed := true, recurses := true, plainKeys := false, apart := false, narrowed := true }
def LeachMoreUptoSaid : Prop := leachMoreUptoRow.holds Try.pinned (OpenSpec.upto leachMoreSpec)

/-- 'saltdomelaw01.LeachSharp', WHERE WHAT IT READS IS OF BULK AT MOST 1048576: true; the input reads as it did. -/
def leachSharpUptoRow : OpenClaim := { program := "ythbpdkcfnbiejaa", sum := "db1a47b97d9a5137f331fa187c8d6aae18f7836d4419c4d883ec535c7c5e6e59", func := "saltdome/saltdomelaw01.LeachSharp", spec := "leachSharp", unfollowed := true, recurses := true, plainKeys := false, apart := false, narrowed := true }
def LeachSharpUptoSaid : Prop := leachSharpUptoRow.holds Try.pinned (OpenSpec.upto leachSharpSpec)

/-- 'saltdomelaw01.LeachPlays', WHERE WHAT IT READS IS OF BULK AT MOST 1048576: true; the input reads as it did. -/
def leachPlaysUptoRow : OpenClaim := { program := "ythbpdkcfnbiejaa", sum := "db1a47b97d9a5137f331fa187c8d6aae18f7836d4419c4d883ec535c7c5e6e59", func := "saltdome/saltdomelaw01.LeachPlays", spec := "leachPlays", unfollowed := true, recurses := true, plainKeys := false, apart := false, narrowed := true }
def LeachPlaysUptoSaid : Prop := leachPlaysUptoRow.holds Try.pinned (OpenSpec.upto leachPlaysSpec)

/-- 'saltdomelaw01.LeachSalt', WHERE WHAT IT READS IS OF BULK AT MOST 1048576: true; the input reads as it did. -/
def leachSaltUptoRow : OpenClaim := { program := "ythbpdkcfnbiejaa", sum := "db1a47b97d9a5137f331fa187c8d6aae18f7836d4419c4d883ec535c7c5e6e59", func := "saltdome/saltdomelaw01.LeachSalt", spec := "leachSalt", unfollowed := true, recurses := true, plainKeys := false, apart := false, narrowed := true }
def LeachSaltUptoSaid : Prop := leachSaltUptoRow.holds Try.pinned (OpenSpec.upto leachSaltSpec)

/-- 'saltdomelaw01.LeachStrong', WHERE WHAT IT READS IS OF BULK AT MOST 1048576: true; the input reads as it did. -/
def leachStrongUptoRow : OpenClaim := { program := "ythbpdkcfnbiejaa", sum := "db1a47b97d9a5137f331fa187c8d6aae18f7836d4419c4d883ec535c7c5e6e59", func := "saltdome/saltdomelaw01.LeachStrong", spec := "leachStrong", unfollowed := true, recurses := true, plainKeys := false, apart := false, narrowed := true }
def LeachStrongUptoSaid : Prop := leachStrongUptoRow.holds Try.pinned (OpenSpec.upto leachStrongSpec)

/-- 'saltdomelaw01.LeachSafe', WHERE WHAT IT READS IS OF BULK AT MOST 1048576: true; the input reads as it did. -/
def leachSafeUptoRow : OpenClaim := { program := "ythbpdkcfnbiejaa", sum := "db1a47b97d9a5137f331fa187c8d6aae18f7836d4419c4d883ec535c7c5e6e59", func := "saltdome/saltdomelaw01.LeachSafe", spec := "leachSafe", unfollowed := true, recurses := true, plainKeys := false, apart := false, narrowed := true }
def LeachSafeUptoSaid : Prop := leachSafeUptoRow.holds Try.pinned (OpenSpec.upto leachSafeSpec)

/-- 'saltdomelaw01.LeachFlawed', WHERE WHAT IT READS IS OF BULK AT MOST 1048576: true; the input reads as it did. -/
def leachFlawedUptoRow : OpenClaim := { program := "ythbpdkcfnbiejaa", sum := "db1a47b97d9a5137f331fa187c8d6aae18f7836d4419c4d883ec535c7c5e6e59", func := "saltdome/saltdomelaw01.LeachFlawed", spec := "leachFlawed", unfollowed := true, recurses := true, plainKeys := false, apart := false, narrowed := true }
def LeachFlawedUptoSaid : Prop := leachFlawedUptoRow.holds Try.pinned (OpenSpec.upto leachFlawedSpec)

/-- 'saltdomelaw01.LeachTrue', WHERE WHAT IT READS IS OF BULK AT MOST 1048576: true; the input reads as it did. -/
def leachTrueUptoRow : OpenClaim := { program := "ythbpdkcfnbiejaa", sum := "db1a47b97d9a5137f331fa187c8d6aae18f7836d4419c4d883ec535c7c5e6e59", func := "saltdome/saltdomelaw01.LeachTrue", spec := "leachTrue", unfollowed := true, recurses := true, plainKeys := false, apart := false, narrowed := true }
def LeachTrueUptoSaid : Prop := leachTrueUptoRow.holds Try.pinned (OpenSpec.upto leachTrueSpec)

/-- 'saltdomelaw01.LeachShortest', WHERE WHAT IT READS IS OF BULK AT MOST 1048576: true; the input reads as it did. -/
def leachShortestUptoRow : OpenClaim := { program := "ythbpdkcfnbiejaa", sum := "db1a47b97d9a5137f331fa187c8d6aae18f7836d4419c4d883ec535c7c5e6e59", func := "saltdome/saltdomelaw01.LeachShortest", spec := "leachShortest", unfollowed := true, recurses := true, plainKeys := false, apart := false, narrowed := true }
def LeachShortestUptoSaid : Prop := leachShortestUptoRow.holds Try.pinned (OpenSpec.upto leachShortestSpec)

end Rows
end Go.Proofs.Ythbpdkcfnbiejaa
