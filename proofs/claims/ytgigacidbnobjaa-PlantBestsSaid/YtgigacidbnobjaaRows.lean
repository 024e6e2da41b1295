/-
  No cell of these rows narrows 'for every input' (looked for: loops, veiled, ifaces, maps, wideKeys, modest, calm, conditions, laid).
  DERIVED. THE GIVEN ROWS OF THIS SEAT. 12 by the template 'for every input the law returns true; each argument reads behind the call as it read before'; 0 by the template 'total and deterministic' (their statements: YtgigacidbnobjaaTotals.lean).
  GIVEN WITH THE SEED: the statements are not yours to turn. If you find one false, say at which input.
  Laid BY PROGRAM, IN A SANDBOX (cutbox-rows.mjs): the forced cells as the released guide's own fill.sh prints them over the translation 0ceb8637b042d039… (all of the seat's roots in one cut). By AI agents, Wed Nov 11 2026. No macro, syntax, notation, axiom, sorry.
-/
import Derived.Test.YtgigacidbnobjaaChecked
import GoSem.Claim
import GoSem.ClaimJoined
import GoSem.ClaimMapViews
import Derived.JoinedTies
import Derived.KernelRfl
namespace Go.Proofs.Ytgigacidbnobjaa
/- THE CELL 'sum', in the pinned program and in every row, IS THE sha256 OF THE DUMP (.gsa) THAT YtgigacidbnobjaaProg.lean LOADS. Nothing in Lean hashes anything: it is a label: what it is worth is what the hold of that sum in a sandbox is worth. -/
noncomputable def Try.pinned : Pinned := { name := "ytgigacidbnobjaa", sum := "0ceb8637b042d03930c8aab99f58c718f6df94a07d7f393722404b8eae483c8d", checked := Try.checked }
namespace Rows
def none {H : Type} : Left H := { results := [], args := [] }

/-- 'saltdomelaw05.PlantShares': WHATEVER THE INPUT: true; the input reads as it did. -/
def plantSharesSpec : ChangeSpec := { name := "plantShares", fn := fun _ => fun
  | [d1, d2, d3, d4] => { results := [.lit (.bool true)], args := [d1, d2, d3, d4] }
  | _ => none }
def plantSharesRow : OpenClaim := { program := "ytgigacidbnobjaa", sum := "0ceb8637b042d03930c8aab99f58c718f6df94a07d7f393722404b8eae483c8d", func := "saltdome/saltdomelaw05.PlantShares", spec := "plantShares", unfollowed := true, recurses := true, plainKeys := false, apart := false }
def PlantSharesSaid : Prop := plantSharesRow.holds Try.pinned (OpenSpec.ofChange plantSharesSpec)

/-- ITS FALSE NEIGHBOUR: 'it returns false'. Refute it at one input. -/
def plantSharesWrong : ChangeSpec := { name := "plantShares", fn := fun _ => fun
  | [d1, d2, d3, d4] => { results := [.lit (.bool false)], args := [d1, d2, d3, d4] }
  | _ => none }
def PlantSharesWrongFalsely : Prop := plantSharesRow.holds Try.pinned (OpenSpec.ofChange plantSharesWrong)

/-- 'saltdomelaw05.PlantLeast': WHATEVER THE INPUT: true; the input reads as it did. -/
def plantLeastSpec : ChangeSpec := { name := "plantLeast", fn := fun _ => fun
  | [d1, d2, d3, d4, d5] => { results := [.lit (.bool true)], args := [d1, d2, d3, d4, d5] }
  | _ => none }
def plantLeastRow : OpenClaim := { program := "ytgigacidbnobjaa", sum := "0ceb8637b042d03930c8aab99f58c718f6df94a07d7f393722404b8eae483c8d", func := "saltdome/saltdomelaw05.PlantLeast", spec := "plantLeast", unfollowed := true, recurses := true, plainKeys := false, apart := false }
def PlantLeastSaid : Prop := plantLeastRow.holds Try.pinned (OpenSpec.ofChange plantLeastSpec)

/-- ITS FALSE NEIGHBOUR: 'it returns false'. Refute it at one input. -/
def plantLeastWrong : ChangeSpec := { name := "plantLeast", fn := fun _ => fun
  | [d1, d2, d3, d4, d5] => { results := [.lit (.bool false)], args := [d1, d2, d3, d4, d5] }
  | _ => none }
def PlantLeastWrongFalsely : Prop := plantLeastRow.holds Try.pinned (OpenSpec.ofChange plantLeastWrong)

/-- 'saltdomelaw05.PlantWeaks': WHATEVER THE INPUT: true; the input reads as it did. -/
def plantWeaksSpec : ChangeSpec := { name := "plantWeaks", fn := fun _ => fun
  | [d1, d2, d3, d4] => { results := [.lit (.bool true)], args := [d1, d2, d3, d4] }
  | _ => none }
def plantWeaksRow : OpenClaim := { program := "ytgigacidbnobjaa", sum := "0ceb8637b042d03930c8aab99f58c718f6df94a07d7f393722404b8eae483c8d", func := "saltdome/saltdomelaw05.PlantWeaks", spec := "plantWeaks", unfollowed := true, recurses := true, plainKeys := false, apart := false }
def PlantWeaksSaid : Prop := plantWeaksRow.holds Try.pinned (OpenSpec.ofChange plantWeaksSpec)

/-- ITS FALSE NEIGHBOUR: 'it returns false'. Refute it at one input. -/
def plantWeaksWrong : ChangeSpec := { name := "plantWeaks", fn := fun _ => fun
  | [d1, d2, d3, d4] => { results := [.lit (.bool false)], args := [d1, d2, d3, d4] }
  | _ => none }
def PlantWeaksWrongFalsely : Prop := plantWeaksRow.holds Try.pinned (OpenSpec.ofChange plantWeaksWrong)

/-- 'saltdomelaw05.PlantSpare': WHATEVER THE INPUT: true; the input reads as it did. -/
def plantSpareSpec : ChangeSpec := { name := "plantSpare", fn := fun _ => fun
  | [d1, d2, d3, d4, d5, d6] => { results := [.lit (.bool true)], args := [d1, d2, d3, d4, d5, d6] }
  | _ => none }
def plantSpareRow : OpenClaim := { program := "ytgigacidbnobjaa", sum := "0ceb8637b042d03930c8aab99f58c718f6df94a07d7f393722404b8eae483c8d", func := "saltdome/saltdomelaw05.PlantSpare", spec := "plantSpare", unfollowed := true, recurses := true, plainKeys := false, apart := false }
def PlantSpareSaid : Prop := plantSpareRow.holds Try.pinned (OpenSpec.ofChange plantSpareSpec)

/-- ITS FALSE NEIGHBOUR: 'it returns false'. Refute it at one input. -/
def plantSpareWrong : ChangeSpec := { name := "plantSpare", fn := fun _ => fun
  | [d1, d2, d3, d4, d5, d6] => { results := [.lit (.bool false)], args := [d1, d2, d3, d4, d5, d6] }
  | _ => none }
def PlantSpareWrongFalsely : Prop := plantSpareRow.holds Try.pinned (OpenSpec.ofChange plantSpareWrong)

/-- 'saltdomelaw05.PlantFaults': WHATEVER THE INPUT: true; the input reads as it did. -/
def plantFaultsSpec : ChangeSpec := { name := "plantFaults", fn := fun _ => fun
  | [d1, d2, d3] => { results := [.lit (.bool true)], args := [d1, d2, d3] }
  | _ => none }
def plantFaultsRow : OpenClaim := { program := "ytgigacidbnobjaa", sum := "0ceb8637b042d03930c8aab99f58c718f6df94a07d7f393722404b8eae483c8d", func := "saltdome/saltdomelaw05.PlantFaults", spec := "plantFaults", unfollowed := true, recurses := true, plainKeys := false, apart := false }
def PlantFaultsSaid : Prop := plantFaultsRow.holds Try.pinned (OpenSpec.ofChange plantFaultsSpec)

/-- ITS FALSE NEIGHBOUR: 'it returns false'. Refute it at one input. -/
def plantFaultsWrong : ChangeSpec := { name := "plantFaults", fn := fun _ => fun
  | [d1, d2, d3] => { results := [.lit (.bool false)], args := [d1, d2, d3] }
  | _ => none }
def PlantFaultsWrongFalsely : Prop := plantFaultsRow.holds Try.pinned (OpenSpec.ofChange plantFaultsWrong)

/-- 'saltdomelaw05.PlantCarries': WHATEVER THE INPUT: true; the input reads as it did. -/
def plantCarriesSpec : ChangeSpec := { name := "plantCarries", fn := fun _ => fun
  | [d1, d2, d3, d4] => { results := [.lit (.bool true)], args := [d1, d2, d3, d4] }
  | _ => none }
def plantCarriesRow : OpenClaim := { program := "ytgigacidbnobjaa", sum := "0ceb8637b042d03930c8aab99f58c718f6df94a07d7f393722404b8eae483c8d", func := "saltdome/saltdomelaw05.PlantCarries", spec := "plantCarries", unfollowed := true, recurses := true, plainKeys := false, apart := false }
def PlantCarriesSaid : Prop := plantCarriesRow.holds Try.pinned (OpenSpec.ofChange plantCarriesSpec)

/-- ITS FALSE NEIGHBOUR: 'it returns false'. Refute it at one input. -/
def plantCarriesWrong : ChangeSpec := { name := "plantCarries", fn := fun _ => fun
  | [d1, d2, d3, d4] => { results := [.lit (.bool false)], args := [d1, d2, d3, d4] }
  | _ => none }
def PlantCarriesWrongFalsely : Prop := plantCarriesRow.holds Try.pinned (OpenSpec.ofChange plantCarriesWrong)

/-- 'saltdomelaw05.PlantCosts': WHATEVER THE INPUT: true; the input reads as it did. -/
def plantCostsSpec : ChangeSpec := { name := "plantCosts", fn := fun _ => fun
  | [d1, d2, d3] => { results := [.lit (.bool true)], args := [d1, d2, d3] }
  | _ => none }
def plantCostsRow : OpenClaim := { program := "ytgigacidbnobjaa", sum := "0ceb8637b042d03930c8aab99f58c718f6df94a07d7f393722404b8eae483c8d", func := "saltdome/saltdomelaw05.PlantCosts", spec := "plantCosts", unfollowed := true, recurses := true, plainKeys := false, apart := false }
def PlantCostsSaid : Prop := plantCostsRow.holds Try.pinned (OpenSpec.ofChange plantCostsSpec)

/-- ITS FALSE NEIGHBOUR: 'it returns false'. Refute it at one input. -/
def plantCostsWrong : ChangeSpec := { name := "plantCosts", fn := fun _ => fun
  | [d1, d2, d3] => { results := [.lit (.bool false)], args := [d1, d2, d3] }
  | _ => none }
def PlantCostsWrongFalsely : Prop := plantCostsRow.holds Try.pinned (OpenSpec.ofChange plantCostsWrong)

/-- 'saltdomelaw05.PlantTrue': WHATEVER THE INPUT: true; the input reads as it did. -/
def plantTrueSpec : ChangeSpec := { name := "plantTrue", fn := fun _ => fun
  | [d1, d2, d3, d4] => { results := [.lit (.bool true)], args := [d1, d2, d3, d4] }
  | _ => none }
def plantTrueRow : OpenClaim := { program := "ytgigacidbnobjaa", sum := "0ceb8637b042d03930c8aab99f58c718f6df94a07d7f393722404b8eae483c8d", func := "saltdome/saltdomelaw05.PlantTrue", spec := "plantTrue", unfollowed := true, recurses := true, plainKeys := false, apart := false }
def PlantTrueSaid : Prop := plantTrueRow.holds Try.pinned (OpenSpec.ofChange plantTrueSpec)

/-- ITS FALSE NEIGHBOUR: 'it returns false'. Refute it at one input. -/
def plantTrueWrong : ChangeSpec := { name := "plantTrue", fn := fun _ => fun
  | [d1, d2, d3, d4] => { results := [.lit (.bool false)], args := [d1, d2, d3, d4] }
  | _ => none }
def PlantTrueWrongFalsely : Prop := plantTrueRow.holds Try.pinned (OpenSpec.ofChange plantTrueWrong)

/-- 'saltdomelaw05.PlantBests': WHATEVER THE INPUT: true; the input reads as it did. -/
def plantBestsSpec : ChangeSpec := { name := "plantBests", fn := fun _ => fun
  | [d1, d2] => { results := [.lit (.bool true)], args := [d1, d2] }
  | _ => none }
def plantBestsRow : OpenClaim := { program := "ytgigacidbnobjaa", sum := "0ceb8637b042d03930c8aab99f58c718f6df94a07d7f393722404b8eae483c8d", func := "saltdome/saltdomelaw05.PlantBests", spec := "plantBests", unfollowed := true, recurses := true, plainKeys := false, apart := false }
def PlantBestsSaid : Prop := plantBestsRow.holds Try.pinned (OpenSpec.ofChange plantBestsSpec)

/-- ITS FALSE NEIGHBOUR: 'it returns false'. Refute it at one input. -/
def plantBestsWrong : ChangeSpec := { name := "plantBests", fn := fun _ => fun
  | [d1, d2] => { results := [.lit (.bool false)], args := [d1, d2] }
  | _ => none }
def PlantBestsWrongFalsely : Prop := plantBestsRow.holds Try.pinned (OpenSpec.ofChange plantBestsWrong)

/-- 'saltdomelaw05.PlantCheapest': WHATEVER THE INPUT: true; the input reads as it did. -/
def plantCheapestSpec : ChangeSpec := { name := "plantCheapest", fn := fun _ => fun
  | [d1, d2, d3] => { results := [.lit (.bool true)], args := [d1, d2, d3] }
  | _ => none }
def plantCheapestRow : OpenClaim := { program := "ytgigacidbnobjaa", sum := "0ceb8637b042d03930c8aab99f58c718f6df94a07d7f393722404b8eae483c8d", func := "saltdome/saltdomelaw05.PlantCheapest", spec := "plantCheapest", unfollowed := true, recurses := true, plainKeys := false, apart := false }
def PlantCheapestSaid : Prop := plantCheapestRow.holds Try.pinned (OpenSpec.ofChange plantCheapestSpec)

/-- ITS FALSE NEIGHBOUR: 'it returns false'. Refute it at one input. -/
def plantCheapestWrong : ChangeSpec := { name := "plantCheapest", fn := fun _ => fun
  | [d1, d2, d3] => { results := [.lit (.bool false)], args := [d1, d2, d3] }
  | _ => none }
def PlantCheapestWrongFalsely : Prop := plantCheapestRow.holds Try.pinned (OpenSpec.ofChange plantCheapestWrong)

/-- 'saltdomelaw05.PlantMore': WHATEVER THE INPUT: true; the input reads as it did. -/
def plantMoreSpec : ChangeSpec := { name := "plantMore", fn := fun _ => fun
  | [d1, d2, d3, d4, d5] => { results := [.lit (.bool true)], args := [d1, d2, d3, d4, d5] }
  | _ => none }
def plantMoreRow : OpenClaim := { program := "ytgigacidbnobjaa", sum := "0ceb8637b042d03930c8aab99f58c718f6df94a07d7f393722404b8eae483c8d", func := "saltdome/saltdomelaw05.PlantMore", spec := "plantMore", unfollowed := true, recurses := true, plainKeys := false, apart := false }
def PlantMoreSaid : Prop := plantMoreRow.holds Try.pinned (OpenSpec.ofChange plantMoreSpec)

/-- ITS FALSE NEIGHBOUR: 'it returns false'. Refute it at one input. -/
def plantMoreWrong : ChangeSpec := { name := "plantMore", fn := fun _ => fun
  | [d1, d2, d3, d4, d5] => { results := [.lit (.bool false)], args := [d1, d2, d3, d4, d5] }
  | _ => none }
def PlantMoreWrongFalsely : Prop := plantMoreRow.holds Try.pinned (OpenSpec.ofChange plantMoreWrong)

/-- 'saltdomelaw05.PlantChecks': WHATEVER THE INPUT: true; the input reads as it did. -/
def plantChecksSpec : ChangeSpec := { name := "plantChecks", fn := fun _ => fun
  | [d1, d2, d3] => { results := [.lit (.bool true)], args := [d1, d2, d3] }
  | _ => none }
def plantChecksRow : OpenClaim := { program := "ytgigacidbnobjaa", sum := "0ceb8637b042d03930c8aab99f58c718f6df94a07d7f393722404b8eae483c8d", func := "saltdome/saltdomelaw05.PlantChecks", spec := "plantChecks", unfollowed := true, recurses := true, plainKeys := false, apart := false }
def PlantChecksSaid : Prop := plantChecksRow.holds Try.pinned (OpenSpec.ofChange plantChecksSpec)

/-- ITS FALSE NEIGHBOUR: 'it returns false'. Refute it at one input. -/
def plantChecksWrong : ChangeSpec := { name := "plantChecks", fn := fun _ => fun
  | [d1, d2, d3] => { results := [.lit (.bool false)], args := [d1, d2, d3] }
  | _ => none }
def PlantChecksWrongFalsely : Prop := plantChecksRow.holds Try.pinned (OpenSpec.ofChange plantChecksWrong)

/- THE SECOND FORM. 'bulk': how many values and letters a reading holds, each counted each time it is reached (what is shared counts as often as it is met; a slice's spare places count too). A statement '..UptoSaid' is the law's where the arguments, and the package variables that the reading takes, are together of bulk at most 1048576: NARROWER than '..Said'. Prove '..Said' where nothing that the law and all that it calls make is longer than what came in: it says more and counts as full. Else prove '..UptoSaid'. A law counts once. -/
mutual
def uptoBulk {H : Type} : DataW H → Nat
  | .lit (.string bytes) => bytes.length + 1
  | .lit _ => 1
  | .nil => 1
  | .ptr d => uptoBulk d + 1
  | .slice elems spare => uptoBulkAll elems + uptoBulkAll spare + 1
  | .agg parts => uptoBulkAll parts + 1
  | .iface _ d => uptoBulk d + 1
  | .map entries => uptoBulkEntries entries + 1
  | .held _ => 1
def uptoBulkAll {H : Type} : List (DataW H) → Nat
  | [] => 0
  | d :: r => uptoBulk d + uptoBulkAll r
def uptoBulkEntries {H : Type} : List (Lit × DataW H) → Nat
  | [] => 0
  | x :: r => uptoBulkEntry x + uptoBulkEntries r
def uptoBulkEntry {H : Type} : Lit × DataW H → Nat
  | (.string bytes, d) => bytes.length + uptoBulk d + 1
  | (_, d) => uptoBulk d + 1
 end
def uptoSmall : (H : Type) → List (DataW H) → Bool := fun _ ds => decide (uptoBulkAll ds ≤ 1048576)
def OpenSpec.upto (s : _root_.Go.ChangeSpec) : _root_.Go.OpenSpec := { _root_.Go.OpenSpec.ofChange s with cond := some uptoSmall }

/-- 'saltdomelaw05.PlantShares', WHERE WHAT IT READS IS OF BULK AT MOST 1048576: true; the input reads as it did. -/
def plantSharesUptoRow : OpenClaim := { program := "ytgigacidbnobjaa", sum := "0ceb8637b042d03930c8aab99f58c718f6df94a07d7f393722404b8eae483c8d", func := "saltdome/saltdomelaw05.PlantShares", spec := "plantShares", unfollowed := true, recurses := true, plainKeys := false, apart := false, narrowed := true }
def PlantSharesUptoSaid : Prop := plantSharesUptoRow.holds Try.pinned (OpenSpec.upto plantSharesSpec)

/-- 'saltdomelaw05.PlantLeast', WHERE WHAT IT READS IS OF BULK AT MOST 1048576: true; the input reads as it did. -/
def plantLeastUptoRow : OpenClaim := { program := "ytgigacidbnobjaa", sum := "0ceb8637b042d03930c8aab99f58c718f6df94a07d7f393722404b8eae483c8d", func := "saltdome/saltdomelaw05.PlantLeast", spec := "plantLeast", unfollowed := true, recurses := true, plainKeys := false, apart := false, narrowed := true }
def PlantLeastUptoSaid : Prop := plantLeastUptoRow.holds Try.pinned (OpenSpec.upto plantLeastSpec)

/-- 'saltdomelaw05.PlantWeaks', WHERE WHAT IT READS IS OF BULK AT MOST 1048576: true; the input reads as it did. -/
def plantWeaksUptoRow : OpenClaim := { program := "ytgigacidbnobjaa", sum := "0ceb8637b042d03930c8aab99f58c718f6df94a07d7f393722404b8eae483c8d", func := "saltdome/saltdomelaw05.PlantWeaks", spec := "plantWeaks", unfollowed := true, recurses := true, plainKeys := false, apart := false, narrowed := true }
def PlantWeaksUptoSaid : Prop := plantWeaksUptoRow.holds Try.pinned (OpenSpec.upto plantWeaksSpec)

/-- 'saltdomelaw05.PlantSpare', WHERE WHAT IT READS IS OF BULK AT MOST 1048576: true; the input reads as it did. -/
def plantSpareUptoRow : OpenClaim := { program := "ytgigacidbnobjaa", sum := "0ceb8637b042d03930c8aab99f58c718f6df94a07d7f393722404b8eae483c8d", func := "saltdome/saltdomelaw05.PlantSpare", spec := "plantSpare", unfollowed := true, recurses := true, plainKeys := false, apart := false, narrowed := true }
def PlantSpareUptoSaid : Prop := plantSpareUptoRow.holds Try.pinned (OpenSpec.upto plantSpareSpec)

/-- 'saltdomelaw05.PlantFaults', WHERE WHAT IT READS IS OF BULK AT MOST 1048576: true; the input reads as it did. -/
def plantFaultsUptoRow : OpenClaim := { program := "ytgigacidbnobjaa", sum := "0ceb8637b042d03930c8aab99f58c718f6df94a07d7f393722404b8eae483c8d", func := "saltdome/saltdomelaw05.PlantFaults", spec := "plantFaults", unfollowed := true, recurses := true, plainKeys := false, apart := false, narrowed := true }
def PlantFaultsUptoSaid : Prop := plantFaultsUptoRow.holds Try.pinned (OpenSpec.upto plantFaultsSpec)

/-- 'saltdomelaw05.PlantCarries', WHERE WHAT IT READS IS OF BULK AT MOST 1048576: true; the input reads as it did. -/
def plantCarriesUptoRow : OpenClaim := { program := "ytgigacidbnobjaa", sum := "0ceb8637b042d03930c8aab99f58c718f6df94a07d7f393722404b8eae483c8d", func := "saltdome/saltdomelaw05.PlantCarries", spec := "plantCarries", unfollowed := true, recurses := true, plainKeys := false, apart := false, narrowed := true }
def PlantCarriesUptoSaid : Prop := plantCarriesUptoRow.holds Try.pinned (OpenSpec.upto plantCarriesSpec)

/-- 'saltdomelaw05.PlantCosts', WHERE WHAT IT READS IS OF BULK AT MOST 1048576: true; the input reads as it did. -/
def plantCostsUptoRow : OpenClaim := { program := "ytgigacidbnobjaa", sum := "0ceb8637b042d03930c8aab99f58c718f6df94a07d7f393722404b8eae483c8d", func := "saltdome/saltdomelaw05.PlantCosts", spec := "plantCosts", unfollowed := true, recurses := true, plainKeys := false, apart := false, narrowed := true }
def PlantCostsUptoSaid : Prop := plantCostsUptoRow.holds Try.pinned (OpenSpec.upto plantCostsSpec)

/-- 'saltdomelaw05.PlantTrue', WHERE WHAT IT READS IS OF BULK AT MOST 1048576: true; the input reads as it did. -/
def plantTrueUptoRow : OpenClaim := { program := "ytgigacidbnobjaa", sum := "0ceb8637b042d03930c8aab99f58c718f6df94a07d7f393722404b8eae483c8d", func := "saltdome/saltdomelaw05.PlantTrue", spec := "plantTrue", unfollowed := true, recurses := true, plainKeys := false, apart := false, narrowed := true }
def PlantTrueUptoSaid : Prop := plantTrueUptoRow.holds Try.pinned (OpenSpec.upto plantTrueSpec)

/-- 'saltdomelaw05.PlantBests', WHERE WHAT IT READS IS OF BULK AT MOST 1048576: true; the input reads as it did. -/
def plantBestsUptoRow : OpenClaim := { program := "ytgigacidbnobjaa", sum := "0ceb8637b042d03930c8aab99f58c718f6df94a07d7f393722404b8eae483c8d", func := "saltdome/saltdomelaw05.PlantBests", spec := "plantBests", unfollowed := true, recurses := true, plainKeys := false, apart := false, narrowed := true }
def PlantBestsUptoSaid : Prop := plantBestsUptoRow.holds Try.pinned (OpenSpec.upto plantBestsSpec)

/-- 'saltdomelaw05.PlantCheapest', WHERE WHAT IT READS IS OF BULK AT MOST 1048576: true; the input reads as it did. -/
def plantCheapestUptoRow : OpenClaim := { program := "ytgigacidbnobjaa", sum := "0ceb8637b042d03930c8aab99f58c718f6df94a07d7f393722404b8eae483c8d", func := "saltdome/saltdomelaw05.PlantCheapest", spec := "plantCheapest", unfollowed := true, recurses := true, plainKeys := false, apart := false, narrowed := true }
def PlantCheapestUptoSaid : Prop := plantCheapestUptoRow.holds Try.pinned (OpenSpec.upto plantCheapestSpec)

/-- 'saltdomelaw05.PlantMore', WHERE WHAT IT READS IS OF BULK AT MOST 1048576: true; the input reads as it did. -/
def plantMoreUptoRow : OpenClaim := { program := "ytgigacidbnobjaa", sum := "0ceb8637b042d03930c8aab99f58c718f6df94a07d7f393722404b8eae483c8d", func := "saltdome/saltdomelaw05.PlantMore", spec := "plantMore", unfollowed := true, recurses := true, plainKeys := false, apart := false, narrowed := true }
def PlantMoreUptoSaid : Prop := plantMoreUptoRow.holds Try.pinned (OpenSpec.upto plantMoreSpec)

/-- 'saltdomelaw05.PlantChecks', WHERE WHAT IT READS IS OF BULK AT MOST 1048576: true; the input reads as it did. -/
def plantChecksUptoRow : OpenClaim := { program := "ytgigacidbnobjaa", sum := "0ceb8637b042d03930c8aab99f58c718f6df94a07d7f393722404b8eae483c8d", func := "saltdome/saltdomelaw05.PlantChecks", spec := "plantChecks", unfollowed := true, recurses := true, plainKeys := false, apart := false, narrowed := true }
def PlantChecksUptoSaid : Prop := plantChecksUptoRow.holds Try.pinned (OpenSpec.upto plantChecksSpec)

end Rows
end Go.Proofs.Ytgigacidbnobjaa
