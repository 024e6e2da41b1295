/-
  No cell of these rows narrows 'for every input' (looked for: loops, veiled, ifaces, maps, wideKeys, modest, calm, conditions, laid).
  DERIVED. THE GIVEN ROWS OF THIS SEAT. 8 by the template 'for every input the law returns true; each argument reads behind the call as it read before'; 0 by the template 'total and deterministic' (their statements: YtpgpaficdabmkaaTotals.lean).
  GIVEN WITH THE SEED: the statements are not yours to turn. If you find one false, say at which input.
  Laid BY PROGRAM, IN A SANDBOX (cutbox-rows.mjs): the forced cells as the released guide's own fill.sh prints them over the translation 5cd7cebe4f6d8eda… (all of the seat's roots in one cut). By AI agents, Wed Nov 11 2026. No macro, syntax, notation, axiom, sorry.
-/
import Derived.Test.YtpgpaficdabmkaaChecked
import GoSem.Claim
import GoSem.ClaimJoined
import GoSem.ClaimMapViews
import Derived.JoinedTies
import Derived.KernelRfl
namespace Go.Proofs.Ytpgpaficdabmkaa
/- THE CELL 'sum', in the pinned program and in every row, IS THE sha256 OF THE DUMP (.gsa) THAT YtpgpaficdabmkaaProg.lean LOADS. Nothing in Lean hashes anything: it is a label: what it is worth is what the hold of that sum in a sandbox is worth. -/
noncomputable def Try.pinned : Pinned := { name := "ytpgpaficdabmkaa", sum := "5cd7cebe4f6d8eda71d40b4827400ede0ca996ed0061c52f248dce7286ddcb8d", checked := Try.checked }
namespace Rows
def none {H : Type} : Left H := { results := [], args := [] }

/-- 'saltdomelaw02.CreepMoves': WHATEVER THE INPUT: true; the input reads as it did. -/
def creepMovesSpec : ChangeSpec := { name := "creepMoves", fn := fun _ => fun
  | [d1, d2, d3, d4, d5] => { results := [.lit (.bool true)], args := [d1, d2, d3, d4, d5] }
  | _ => none }
def creepMovesRow : OpenClaim := { program := "ytpgpaficdabmkaa", sum := "5cd7cebe4f6d8eda71d40b4827400ede0ca996ed0061c52f248dce7286ddcb8d", func := "saltdome/saltdomelaw02.CreepMoves", spec := "creepMoves", unfollowed := true, recurses := true, apart := false }
def CreepMovesSaid : Prop := creepMovesRow.holds Try.pinned (OpenSpec.ofChange creepMovesSpec)

/-- ITS FALSE NEIGHBOUR: 'it returns false'. Refute it at one input. -/
def creepMovesWrong : ChangeSpec := { name := "creepMoves", fn := fun _ => fun
  | [d1, d2, d3, d4, d5] => { results := [.lit (.bool false)], args := [d1, d2, d3, d4, d5] }
  | _ => none }
def CreepMovesWrongFalsely : Prop := creepMovesRow.holds Try.pinned (OpenSpec.ofChange creepMovesWrong)

/-- 'saltdomelaw02.CreepTrue': WHATEVER THE INPUT: true; the input reads as it did. -/
def creepTrueSpec : ChangeSpec := { name := "creepTrue", fn := fun _ => fun
  | [d1, d2, d3, d4, d5] => { results := [.lit (.bool true)], args := [d1, d2, d3, d4, d5] }
  | _ => none }
def creepTrueRow : OpenClaim := { program := "ytpgpaficdabmkaa", sum := "5cd7cebe4f6d8eda71d40b4827400ede0ca996ed0061c52f248dce7286ddcb8d", func := "saltdome/saltdomelaw02.CreepTrue", spec := "creepTrue", unfollowed := true, recurses := true, apart := false }
def CreepTrueSaid : Prop := creepTrueRow.holds Try.pinned (OpenSpec.ofChange creepTrueSpec)

/-- ITS FALSE NEIGHBOUR: 'it returns false'. Refute it at one input. -/
def creepTrueWrong : ChangeSpec := { name := "creepTrue", fn := fun _ => fun
  | [d1, d2, d3, d4, d5] => { results := [.lit (.bool false)], args := [d1, d2, d3, d4, d5] }
  | _ => none }
def CreepTrueWrongFalsely : Prop := creepTrueRow.holds Try.pinned (OpenSpec.ofChange creepTrueWrong)

/-- 'saltdomelaw02.CreepFaults': WHATEVER THE INPUT: true; the input reads as it did. -/
def creepFaultsSpec : ChangeSpec := { name := "creepFaults", fn := fun _ => fun
  | [d1, d2] => { results := [.lit (.bool true)], args := [d1, d2] }
  | _ => none }
def creepFaultsRow : OpenClaim := { program := "ytpgpaficdabmkaa", sum := "5cd7cebe4f6d8eda71d40b4827400ede0ca996ed0061c52f248dce7286ddcb8d", func := "saltdome/saltdomelaw02.CreepFaults", spec := "creepFaults", unfollowed := true, recurses := true, apart := false }
def CreepFaultsSaid : Prop := creepFaultsRow.holds Try.pinned (OpenSpec.ofChange creepFaultsSpec)

/-- ITS FALSE NEIGHBOUR: 'it returns false'. Refute it at one input. -/
def creepFaultsWrong : ChangeSpec := { name := "creepFaults", fn := fun _ => fun
  | [d1, d2] => { results := [.lit (.bool false)], args := [d1, d2] }
  | _ => none }
def CreepFaultsWrongFalsely : Prop := creepFaultsRow.holds Try.pinned (OpenSpec.ofChange creepFaultsWrong)

/-- 'saltdomelaw02.CreepHolds': WHATEVER THE INPUT: true; the input reads as it did. -/
def creepHoldsSpec : ChangeSpec := { name := "creepHolds", fn := fun _ => fun
  | [d1, d2, d3] => { results := [.lit (.bool true)], args := [d1, d2, d3] }
  | _ => none }
def creepHoldsRow : OpenClaim := { program := "ytpgpaficdabmkaa", sum := "5cd7cebe4f6d8eda71d40b4827400ede0ca996ed0061c52f248dce7286ddcb8d", func := "saltdome/saltdomelaw02.CreepHolds", spec := "creepHolds", unfollowed := true, recurses := true, apart := false }
def CreepHoldsSaid : Prop := creepHoldsRow.holds Try.pinned (OpenSpec.ofChange creepHoldsSpec)

/-- ITS FALSE NEIGHBOUR: 'it returns false'. Refute it at one input. -/
def creepHoldsWrong : ChangeSpec := { name := "creepHolds", fn := fun _ => fun
  | [d1, d2, d3] => { results := [.lit (.bool false)], args := [d1, d2, d3] }
  | _ => none }
def CreepHoldsWrongFalsely : Prop := creepHoldsRow.holds Try.pinned (OpenSpec.ofChange creepHoldsWrong)

/-- 'saltdomelaw02.CreepMore': WHATEVER THE INPUT: true; the input reads as it did. -/
def creepMoreSpec : ChangeSpec := { name := "creepMore", fn := fun _ => fun
  | [d1, d2, d3, d4, d5, d6, d7] => { results := [.lit (.bool true)], args := [d1, d2, d3, d4, d5, d6, d7] }
  | _ => none }
def creepMoreRow : OpenClaim := { program := "ytpgpaficdabmkaa", sum := "5cd7cebe4f6d8eda71d40b4827400ede0ca996ed0061c52f248dce7286ddcb8d", func := "saltdome/saltdomelaw02.CreepMore", spec := "creepMore", unfollowed := true, recurses := true, apart := false }
def CreepMoreSaid : Prop := creepMoreRow.holds Try.pinned (OpenSpec.ofChange creepMoreSpec)

/-- ITS FALSE NEIGHBOUR: 'it returns false'. Refute it at one input. -/
def creepMoreWrong : ChangeSpec := { name := "creepMore", fn := fun _ => fun
  | [d1, d2, d3, d4, d5, d6, d7] => { results := [.lit (.bool false)], args := [d1, d2, d3, d4, d5, d6, d7] }
  | _ => none }
def CreepMoreWrongFalsely : Prop := creepMoreRow.holds Try.pinned (OpenSpec.ofChange creepMoreWrong)

/-- 'saltdomelaw02.CreepChecks': WHATEVER THE INPUT: true; the input reads as it did. -/
def creepChecksSpec : ChangeSpec := { name := "creepChecks", fn := fun _ => fun
  | [d1, d2, d3] => { results := [.lit (.bool true)], args := [d1, d2, d3] }
  | _ => none }
def creepChecksRow : OpenClaim := { program := "ytpgpaficdabmkaa", sum := "5cd7cebe4f6d8eda71d40b4827400ede0ca996ed0061c52f248dce7286ddcb8d", func := "saltdome/saltdomelaw02.CreepChecks", spec := "creepChecks", unfollowed := true, recurses := true, apart := false }
def CreepChecksSaid : Prop := creepChecksRow.holds Try.pinned (OpenSpec.ofChange creepChecksSpec)

/-- ITS FALSE NEIGHBOUR: 'it returns false'. Refute it at one input. -/
def creepChecksWrong : ChangeSpec := { name := "creepChecks", fn := fun _ => fun
  | [d1, d2, d3] => { results := [.lit (.bool false)], args := [d1, d2, d3] }
  | _ => none }
def CreepChecksWrongFalsely : Prop := creepChecksRow.holds Try.pinned (OpenSpec.ofChange creepChecksWrong)

/-- 'saltdomelaw02.CreepKeeps': WHATEVER THE INPUT: true; the input reads as it did. -/
def creepKeepsSpec : ChangeSpec := { name := "creepKeeps", fn := fun _ => fun
  | [d1, d2, d3, d4, d5] => { results := [.lit (.bool true)], args := [d1, d2, d3, d4, d5] }
  | _ => none }
def creepKeepsRow : OpenClaim := { program := "ytpgpaficdabmkaa", sum := "5cd7cebe4f6d8eda71d40b4827400ede0ca996ed0061c52f248dce7286ddcb8d", func := "saltdome/saltdomelaw02.CreepKeeps", spec := "creepKeeps", unfollowed := true, recurses := true, apart := false }
def CreepKeepsSaid : Prop := creepKeepsRow.holds Try.pinned (OpenSpec.ofChange creepKeepsSpec)

/-- ITS FALSE NEIGHBOUR: 'it returns false'. Refute it at one input. -/
def creepKeepsWrong : ChangeSpec := { name := "creepKeeps", fn := fun _ => fun
  | [d1, d2, d3, d4, d5] => { results := [.lit (.bool false)], args := [d1, d2, d3, d4, d5] }
  | _ => none }
def CreepKeepsWrongFalsely : Prop := creepKeepsRow.holds Try.pinned (OpenSpec.ofChange creepKeepsWrong)

/-- 'saltdomelaw02.CreepLeast': WHATEVER THE INPUT: true; the input reads as it did. -/
def creepLeastSpec : ChangeSpec := { name := "creepLeast", fn := fun _ => fun
  | [d1, d2, d3, d4, d5] => { results := [.lit (.bool true)], args := [d1, d2, d3, d4, d5] }
  | _ => none }
def creepLeastRow : OpenClaim := { program := "ytpgpaficdabmkaa", sum := "5cd7cebe4f6d8eda71d40b4827400ede0ca996ed0061c52f248dce7286ddcb8d", func := "saltdome/saltdomelaw02.CreepLeast", spec := "creepLeast", unfollowed := true, recurses := true, apart := false }
def CreepLeastSaid : Prop := creepLeastRow.holds Try.pinned (OpenSpec.ofChange creepLeastSpec)

/-- ITS FALSE NEIGHBOUR: 'it returns false'. Refute it at one input. -/
def creepLeastWrong : ChangeSpec := { name := "creepLeast", fn := fun _ => fun
  | [d1, d2, d3, d4, d5] => { results := [.lit (.bool false)], args := [d1, d2, d3, d4, d5] }
  | _ => none }
def CreepLeastWrongFalsely : Prop := creepLeastRow.holds Try.pinned (OpenSpec.ofChange creepLeastWrong)

/- THE SECOND FORM. 'bulk': how many values and letters a reading holds, each counted each time it is reached (what is shared counts as often as it is met; a slice's spare places count too). A statement '..UptoSaid' is the law's where the arguments, and the package variables that the reading takes, are together of bulk at most 1048576: NARROWER than '..Said'. Prove '..Said' where nothing that the law and all that it calls make is longer than what came in: it says more and counts as full. Else prove '..UptoSaid'. A law counts once. -/
mutual
def uptoBulk {H : Type} : DataW H → Nat
  | .lit (.string bytes) => bytes.length + 1
  | .lit _ => 1
  | .nil => 1
  | .ptr d => uptoBulk d + 1
  | .slice elems spare => uptoBulkAll elems + uptoBulkAll spare + 1
  | .agg parts => uptoBulkAll parts + 1
  | .iface _ d => uptoBulk d + 1
  | .map entries => uptoBulkEntries entries + 1
  | .held _ => 1
def uptoBulkAll {H : Type} : List (DataW H) → Nat
  | [] => 0
  | d :: r => uptoBulk d + uptoBulkAll r
def uptoBulkEntries {H : Type} : List (Lit × DataW H) → Nat
  | [] => 0
  | x :: r => uptoBulkEntry x + uptoBulkEntries r
def uptoBulkEntry {H : Type} : Lit × DataW H → Nat
  | (.string bytes, d) => bytes.length + uptoBulk d + 1
  | (_, d) => uptoBulk d + 1
 end
def uptoSmall : (H : Type) → List (DataW H) → Bool := fun _ ds => decide (uptoBulkAll ds ≤ 1048576)
def OpenSpec.upto (s : _root_.Go.ChangeSpec) : _root_.Go.OpenSpec := { _root_.Go.OpenSpec.ofChange s with cond := some uptoSmall }

/-- 'saltdomelaw02.CreepMoves', WHERE WHAT IT READS IS OF BULK AT MOST 1048576: true; the input reads as it did. -/
def creepMovesUptoRow : OpenClaim := { program := "ytpgpaficdabmkaa", sum := "5cd7cebe4f6d8eda71d40b4827400ede0ca996ed0061c52f248dce7286ddcb8d", func := "saltdome/saltdomelaw02.CreepMoves", spec := "creepMoves", unfollowed := true, recurses := true, apart := false, narrowed := true }
def CreepMovesUptoSaid : Prop := creepMovesUptoRow.holds Try.pinned (OpenSpec.upto creepMovesSpec)

/-- 'saltdomelaw02.CreepTrue', WHERE WHAT IT READS IS OF BULK AT MOST 1048576: true; the input reads as it did. -/
def creepTrueUptoRow : OpenClaim := { program := "ytpgpaficdabmkaa", sum := "5cd7cebe4f6d8eda71d40b4827400ede0ca996ed0061c52f248dce7286ddcb8d", func := "saltdome/saltdomelaw02.CreepTrue", spec := "creepTrue", unfollowed := true, recurses := true, apart := false, narrowed := true }
def CreepTrueUptoSaid : Prop := creepTrueUptoRow.holds Try.pinned (OpenSpec.upto creepTrueSpec)

/-- 'saltdomelaw02.CreepFaults', WHERE WHAT IT READS IS OF BULK AT MOST 1048576: true; the input reads as it did. -/
def creepFaultsUptoRow : OpenClaim := { program := "ytpgpaficdabmkaa", sum := "5cd7cebe4f6d8eda71d40b4827400ede0ca996ed0061c52f248dce7286ddcb8d", func := "saltdome/saltdomelaw02.CreepFaults", spec := "creepFaults", unfollowed := true, recurses := true, apart := false, narrowed := true }
def CreepFaultsUptoSaid : Prop := creepFaultsUptoRow.holds Try.pinned (OpenSpec.upto creepFaultsSpec)

/-- 'saltdomelaw02.CreepHolds', WHERE WHAT IT READS IS OF BULK AT MOST 1048576: true; the input reads as it did. -/
def creepHoldsUptoRow : OpenClaim := { program := "ytpgpaficdabmkaa", sum := "5cd7cebe4f6d8eda71d40b4827400ede0ca996ed0061c52f248dce7286ddcb8d", func := "saltdome/saltdomelaw02.CreepHolds", spec := "creepHolds", unfollowed := true, recurses := true, apart := false, narrowed := true }
def CreepHoldsUptoSaid : Prop := creepHoldsUptoRow.holds Try.pinned (OpenSpec.upto creepHoldsSpec)

/-- 'saltdomelaw02.CreepMore', WHERE WHAT IT READS IS OF BULK AT MOST 1048576: true; the input reads as it did. -/
def creepMoreUptoRow : OpenClaim := { program := "ytpgpaficdabmkaa", sum := "5cd7cebe4f6d8eda71d40b4827400ede0ca996ed0061c52f248dce7286ddcb8d", func := "saltdome/saltdomelaw02.CreepMore", spec := "creepMore", unfollowed := true, recurses := true, apart := false, narrowed := true }
def CreepMoreUptoSaid : Prop := creepMoreUptoRow.holds Try.pinned (OpenSpec.upto creepMoreSpec)

/-- 'saltdomelaw02.CreepChecks', WHERE WHAT IT READS IS OF BULK AT MOST 1048576: true; the input reads as it did. -/
def creepChecksUptoRow : OpenClaim := { program := "ytpgpaficdabmkaa", sum := "5cd7cebe4f6d8eda71d40b4827400ede0ca996ed0061c52f248dce7286ddcb8d", func := "saltdome/saltdomelaw02.CreepChecks", spec := "creepChecks", unfollowed := true, recurses := true, apart := false, narrowed := true }
def CreepChecksUptoSaid : Prop := creepChecksUptoRow.holds Try.pinned (OpenSpec.upto creepChecksSpec)

/-- 'saltdomelaw02.CreepKeeps', WHERE WHAT IT READS IS OF BULK AT MOST 1048576: true; the input reads as it did. -/
def creepKeepsUptoRow : OpenClaim := { program := "ytpgpaficdabmkaa", sum := "5cd7cebe4f6d8eda71d40b4827400ede0ca996ed0061c52f248dce7286ddcb8d", func := "saltdome/saltdomelaw02.CreepKeeps", spec := "creepKeeps", unfollowed := true, recurses := true, apart := false, narrowed := true }
def CreepKeepsUptoSaid : Prop := creepKeepsUptoRow.holds Try.pinned (OpenSpec.upto creepKeepsSpec)

/-- 'saltdomelaw02.CreepLeast', WHERE WHAT IT READS IS OF BULK AT MOST 1048576: true; the input reads as it did. -/
def creepLeastUptoRow : OpenClaim := { program := "ytpgpaficdabmkaa", sum := "5cd7cebe4f6d8eda71d40b4827400ede0ca996ed0061c52f248dce7286ddcb8d", func := "saltdome/saltdomelaw02.CreepLeast", spec := "creepLeast", unfollowed := true, recurses := true, apart := false, narrowed := true }
def CreepLeastUptoSaid : Prop := creepLeastUptoRow.holds Try.pinned (OpenSpec.upto creepLeastSpec)

end Rows
end Go.Proofs.Ytpgpaficdabmkaa
