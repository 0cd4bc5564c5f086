/-
  No cell of these rows narrows 'for every input' (looked for: loops, veiled, ifaces, maps, wideKeys, modest, calm, conditions, laid).
  DERIVED. THE GIVEN ROWS OF THIS SEAT. 12 by the template 'for every input the law returns true; each argument reads behind the call as it read before'; 0 by the template 'total and deterministic' (their statements: YtllhghcepbkpeaaTotals.lean).
  GIVEN WITH THE SEED: the statements are not yours to turn. If you find one false, say at which input.
  Laid BY PROGRAM, IN A SANDBOX (cutbox-rows.mjs): the forced cells as the released guide's own fill.sh prints them over the translation 90cc748d97f3dca2… (all of the seat's roots in one cut). By AI agents, Wed Nov 11 2026. No macro, syntax, notation, axiom, sorry.
-/
import Derived.Test.YtllhghcepbkpeaaChecked
import GoSem.Claim
import GoSem.ClaimJoined
import GoSem.ClaimMapViews
import Derived.JoinedTies
import Derived.KernelRfl
namespace Go.Proofs.Ytllhghcepbkpeaa
/- THE CELL 'sum', in the pinned program and in every row, IS THE sha256 OF THE DUMP (.gsa) THAT YtllhghcepbkpeaaProg.lean LOADS. Nothing in Lean hashes anything: it is a label: what it is worth is what the hold of that sum in a sandbox is worth. -/
noncomputable def Try.pinned : Pinned := { name := "ytllhghcepbkpeaa", sum := "90cc748d97f3dca231947763115b1295891506884c29caf7388d8ef32eef7788", checked := Try.checked }
namespace Rows
def none {H : Type} : Left H := { results := [], args := [] }

/-- 'laws.FnExactAreMoves': WHATEVER THE INPUT: true; the input reads as it did. -/
def fnExactAreMovesSpec : ChangeSpec := { name := "fnExactAreMoves", fn := fun _ => fun
  | [d] => { results := [.lit (.bool true)], args := [d] }
  | _ => none }
def fnExactAreMovesRow : OpenClaim := { program := "ytllhghcepbkpeaa", sum := "90cc748d97f3dca231947763115b1295891506884c29caf7388d8ef32eef7788", func := "loop.example/g01049/laws.FnExactAreMoves", spec := "fnExactAreMoves", apart := false }
def FnExactAreMovesSaid : Prop := fnExactAreMovesRow.holds Try.pinned (OpenSpec.ofChange fnExactAreMovesSpec)

/-- ITS FALSE NEIGHBOUR: 'it returns false'. Refute it at one input. -/
def fnExactAreMovesWrong : ChangeSpec := { name := "fnExactAreMoves", fn := fun _ => fun
  | [d] => { results := [.lit (.bool false)], args := [d] }
  | _ => none }
def FnExactAreMovesWrongFalsely : Prop := fnExactAreMovesRow.holds Try.pinned (OpenSpec.ofChange fnExactAreMovesWrong)

/-- 'laws.FnExactPeopleIn': WHATEVER THE INPUT: true; the input reads as it did. -/
def fnExactPeopleInSpec : ChangeSpec := { name := "fnExactPeopleIn", fn := fun _ => fun
  | [d1, d2, d3] => { results := [.lit (.bool true)], args := [d1, d2, d3] }
  | _ => none }
def fnExactPeopleInRow : OpenClaim := { program := "ytllhghcepbkpeaa", sum := "90cc748d97f3dca231947763115b1295891506884c29caf7388d8ef32eef7788", func := "loop.example/g01049/laws.FnExactPeopleIn", spec := "fnExactPeopleIn", apart := false }
def FnExactPeopleInSaid : Prop := fnExactPeopleInRow.holds Try.pinned (OpenSpec.ofChange fnExactPeopleInSpec)

/-- ITS FALSE NEIGHBOUR: 'it returns false'. Refute it at one input. -/
def fnExactPeopleInWrong : ChangeSpec := { name := "fnExactPeopleIn", fn := fun _ => fun
  | [d1, d2, d3] => { results := [.lit (.bool false)], args := [d1, d2, d3] }
  | _ => none }
def FnExactPeopleInWrongFalsely : Prop := fnExactPeopleInRow.holds Try.pinned (OpenSpec.ofChange fnExactPeopleInWrong)

/-- 'laws.FnExactFullestTime': WHATEVER THE INPUT: true; the input reads as it did. -/
def fnExactFullestTimeSpec : ChangeSpec := { name := "fnExactFullestTime", fn := fun _ => fun
  | [d1, d2] => { results := [.lit (.bool true)], args := [d1, d2] }
  | _ => none }
def fnExactFullestTimeRow : OpenClaim := { program := "ytllhghcepbkpeaa", sum := "90cc748d97f3dca231947763115b1295891506884c29caf7388d8ef32eef7788", func := "loop.example/g01049/laws.FnExactFullestTime", spec := "fnExactFullestTime", apart := false }
def FnExactFullestTimeSaid : Prop := fnExactFullestTimeRow.holds Try.pinned (OpenSpec.ofChange fnExactFullestTimeSpec)

/-- ITS FALSE NEIGHBOUR: 'it returns false'. Refute it at one input. -/
def fnExactFullestTimeWrong : ChangeSpec := { name := "fnExactFullestTime", fn := fun _ => fun
  | [d1, d2] => { results := [.lit (.bool false)], args := [d1, d2] }
  | _ => none }
def FnExactFullestTimeWrongFalsely : Prop := fnExactFullestTimeRow.holds Try.pinned (OpenSpec.ofChange fnExactFullestTimeWrong)

/-- 'laws.FnExactIsClear': WHATEVER THE INPUT: true; the input reads as it did. -/
def fnExactIsClearSpec : ChangeSpec := { name := "fnExactIsClear", fn := fun _ => fun
  | [d1, d2, d3] => { results := [.lit (.bool true)], args := [d1, d2, d3] }
  | _ => none }
def fnExactIsClearRow : OpenClaim := { program := "ytllhghcepbkpeaa", sum := "90cc748d97f3dca231947763115b1295891506884c29caf7388d8ef32eef7788", func := "loop.example/g01049/laws.FnExactIsClear", spec := "fnExactIsClear", apart := false }
def FnExactIsClearSaid : Prop := fnExactIsClearRow.holds Try.pinned (OpenSpec.ofChange fnExactIsClearSpec)

/-- ITS FALSE NEIGHBOUR: 'it returns false'. Refute it at one input. -/
def fnExactIsClearWrong : ChangeSpec := { name := "fnExactIsClear", fn := fun _ => fun
  | [d1, d2, d3] => { results := [.lit (.bool false)], args := [d1, d2, d3] }
  | _ => none }
def FnExactIsClearWrongFalsely : Prop := fnExactIsClearRow.holds Try.pinned (OpenSpec.ofChange fnExactIsClearWrong)

/-- 'laws.FnExactAddMove': WHATEVER THE INPUT: true; the input reads as it did. -/
def fnExactAddMoveSpec : ChangeSpec := { name := "fnExactAddMove", fn := fun _ => fun
  | [d1, d2] => { results := [.lit (.bool true)], args := [d1, d2] }
  | _ => none }
def fnExactAddMoveRow : OpenClaim := { program := "ytllhghcepbkpeaa", sum := "90cc748d97f3dca231947763115b1295891506884c29caf7388d8ef32eef7788", func := "loop.example/g01049/laws.FnExactAddMove", spec := "fnExactAddMove", apart := false }
def FnExactAddMoveSaid : Prop := fnExactAddMoveRow.holds Try.pinned (OpenSpec.ofChange fnExactAddMoveSpec)

/-- ITS FALSE NEIGHBOUR: 'it returns false'. Refute it at one input. -/
def fnExactAddMoveWrong : ChangeSpec := { name := "fnExactAddMove", fn := fun _ => fun
  | [d1, d2] => { results := [.lit (.bool false)], args := [d1, d2] }
  | _ => none }
def FnExactAddMoveWrongFalsely : Prop := fnExactAddMoveRow.holds Try.pinned (OpenSpec.ofChange fnExactAddMoveWrong)

/-- 'laws.FnExactClearFrom': WHATEVER THE INPUT: true; the input reads as it did. -/
def fnExactClearFromSpec : ChangeSpec := { name := "fnExactClearFrom", fn := fun _ => fun
  | [d1, d2, d3] => { results := [.lit (.bool true)], args := [d1, d2, d3] }
  | _ => none }
def fnExactClearFromRow : OpenClaim := { program := "ytllhghcepbkpeaa", sum := "90cc748d97f3dca231947763115b1295891506884c29caf7388d8ef32eef7788", func := "loop.example/g01049/laws.FnExactClearFrom", spec := "fnExactClearFrom", apart := false }
def FnExactClearFromSaid : Prop := fnExactClearFromRow.holds Try.pinned (OpenSpec.ofChange fnExactClearFromSpec)

/-- ITS FALSE NEIGHBOUR: 'it returns false'. Refute it at one input. -/
def fnExactClearFromWrong : ChangeSpec := { name := "fnExactClearFrom", fn := fun _ => fun
  | [d1, d2, d3] => { results := [.lit (.bool false)], args := [d1, d2, d3] }
  | _ => none }
def FnExactClearFromWrongFalsely : Prop := fnExactClearFromRow.holds Try.pinned (OpenSpec.ofChange fnExactClearFromWrong)

/-- 'laws.FnExactOccupiedAt': WHATEVER THE INPUT: true; the input reads as it did. -/
def fnExactOccupiedAtSpec : ChangeSpec := { name := "fnExactOccupiedAt", fn := fun _ => fun
  | [d1, d2] => { results := [.lit (.bool true)], args := [d1, d2] }
  | _ => none }
def fnExactOccupiedAtRow : OpenClaim := { program := "ytllhghcepbkpeaa", sum := "90cc748d97f3dca231947763115b1295891506884c29caf7388d8ef32eef7788", func := "loop.example/g01049/laws.FnExactOccupiedAt", spec := "fnExactOccupiedAt", apart := false }
def FnExactOccupiedAtSaid : Prop := fnExactOccupiedAtRow.holds Try.pinned (OpenSpec.ofChange fnExactOccupiedAtSpec)

/-- ITS FALSE NEIGHBOUR: 'it returns false'. Refute it at one input. -/
def fnExactOccupiedAtWrong : ChangeSpec := { name := "fnExactOccupiedAt", fn := fun _ => fun
  | [d1, d2] => { results := [.lit (.bool false)], args := [d1, d2] }
  | _ => none }
def FnExactOccupiedAtWrongFalsely : Prop := fnExactOccupiedAtRow.holds Try.pinned (OpenSpec.ofChange fnExactOccupiedAtWrong)

/-- 'laws.FnExactAreAllClear': WHATEVER THE INPUT: true; the input reads as it did. -/
def fnExactAreAllClearSpec : ChangeSpec := { name := "fnExactAreAllClear", fn := fun _ => fun
  | [d1, d2, d3] => { results := [.lit (.bool true)], args := [d1, d2, d3] }
  | _ => none }
def fnExactAreAllClearRow : OpenClaim := { program := "ytllhghcepbkpeaa", sum := "90cc748d97f3dca231947763115b1295891506884c29caf7388d8ef32eef7788", func := "loop.example/g01049/laws.FnExactAreAllClear", spec := "fnExactAreAllClear", apart := false }
def FnExactAreAllClearSaid : Prop := fnExactAreAllClearRow.holds Try.pinned (OpenSpec.ofChange fnExactAreAllClearSpec)

/-- ITS FALSE NEIGHBOUR: 'it returns false'. Refute it at one input. -/
def fnExactAreAllClearWrong : ChangeSpec := { name := "fnExactAreAllClear", fn := fun _ => fun
  | [d1, d2, d3] => { results := [.lit (.bool false)], args := [d1, d2, d3] }
  | _ => none }
def FnExactAreAllClearWrongFalsely : Prop := fnExactAreAllClearRow.holds Try.pinned (OpenSpec.ofChange fnExactAreAllClearWrong)

/-- 'laws.FnZones': WHATEVER THE INPUT: true; the input reads as it did. -/
def fnZonesSpec : ChangeSpec := { name := "fnZones", fn := fun _ => fun
  | [d] => { results := [.lit (.bool true)], args := [d] }
  | _ => none }
def fnZonesRow : OpenClaim := { program := "ytllhghcepbkpeaa", sum := "90cc748d97f3dca231947763115b1295891506884c29caf7388d8ef32eef7788", func := "loop.example/g01049/laws.FnZones", spec := "fnZones", apart := false }
def FnZonesSaid : Prop := fnZonesRow.holds Try.pinned (OpenSpec.ofChange fnZonesSpec)

/-- ITS FALSE NEIGHBOUR: 'it returns false'. Refute it at one input. -/
def fnZonesWrong : ChangeSpec := { name := "fnZones", fn := fun _ => fun
  | [d] => { results := [.lit (.bool false)], args := [d] }
  | _ => none }
def FnZonesWrongFalsely : Prop := fnZonesRow.holds Try.pinned (OpenSpec.ofChange fnZonesWrong)

/-- 'laws.FnClear': WHATEVER THE INPUT: true; the input reads as it did. -/
def fnClearSpec : ChangeSpec := { name := "fnClear", fn := fun _ => fun
  | [d] => { results := [.lit (.bool true)], args := [d] }
  | _ => none }
def fnClearRow : OpenClaim := { program := "ytllhghcepbkpeaa", sum := "90cc748d97f3dca231947763115b1295891506884c29caf7388d8ef32eef7788", func := "loop.example/g01049/laws.FnClear", spec := "fnClear", apart := false }
def FnClearSaid : Prop := fnClearRow.holds Try.pinned (OpenSpec.ofChange fnClearSpec)

/-- ITS FALSE NEIGHBOUR: 'it returns false'. Refute it at one input. -/
def fnClearWrong : ChangeSpec := { name := "fnClear", fn := fun _ => fun
  | [d] => { results := [.lit (.bool false)], args := [d] }
  | _ => none }
def FnClearWrongFalsely : Prop := fnClearRow.holds Try.pinned (OpenSpec.ofChange fnClearWrong)

/-- 'laws.FnExactStopTick': WHATEVER THE INPUT: true; the input reads as it did. -/
def fnExactStopTickSpec : ChangeSpec := { name := "fnExactStopTick", fn := fun _ => fun
  | [d1, d2, d3, d4] => { results := [.lit (.bool true)], args := [d1, d2, d3, d4] }
  | _ => none }
def fnExactStopTickRow : OpenClaim := { program := "ytllhghcepbkpeaa", sum := "90cc748d97f3dca231947763115b1295891506884c29caf7388d8ef32eef7788", func := "loop.example/g01049/laws.FnExactStopTick", spec := "fnExactStopTick", apart := false }
def FnExactStopTickSaid : Prop := fnExactStopTickRow.holds Try.pinned (OpenSpec.ofChange fnExactStopTickSpec)

/-- ITS FALSE NEIGHBOUR: 'it returns false'. Refute it at one input. -/
def fnExactStopTickWrong : ChangeSpec := { name := "fnExactStopTick", fn := fun _ => fun
  | [d1, d2, d3, d4] => { results := [.lit (.bool false)], args := [d1, d2, d3, d4] }
  | _ => none }
def FnExactStopTickWrongFalsely : Prop := fnExactStopTickRow.holds Try.pinned (OpenSpec.ofChange fnExactStopTickWrong)

/-- 'laws.FnExactLatestSending': WHATEVER THE INPUT: true; the input reads as it did. -/
def fnExactLatestSendingSpec : ChangeSpec := { name := "fnExactLatestSending", fn := fun _ => fun
  | [d1, d2, d3, d4] => { results := [.lit (.bool true)], args := [d1, d2, d3, d4] }
  | _ => none }
def fnExactLatestSendingRow : OpenClaim := { program := "ytllhghcepbkpeaa", sum := "90cc748d97f3dca231947763115b1295891506884c29caf7388d8ef32eef7788", func := "loop.example/g01049/laws.FnExactLatestSending", spec := "fnExactLatestSending", apart := false }
def FnExactLatestSendingSaid : Prop := fnExactLatestSendingRow.holds Try.pinned (OpenSpec.ofChange fnExactLatestSendingSpec)

/-- ITS FALSE NEIGHBOUR: 'it returns false'. Refute it at one input. -/
def fnExactLatestSendingWrong : ChangeSpec := { name := "fnExactLatestSending", fn := fun _ => fun
  | [d1, d2, d3, d4] => { results := [.lit (.bool false)], args := [d1, d2, d3, d4] }
  | _ => none }
def FnExactLatestSendingWrongFalsely : Prop := fnExactLatestSendingRow.holds Try.pinned (OpenSpec.ofChange fnExactLatestSendingWrong)

/- THE SECOND FORM. 'bulk': how many values and letters a reading holds, each counted each time it is reached (what is shared counts as often as it is met; a slice's spare places count too). A statement '..UptoSaid' is the law's where the arguments, and the package variables that the reading takes, are together of bulk at most 1048576: NARROWER than '..Said'. Prove '..Said' where nothing that the law and all that it calls make is longer than what came in: it says more and counts as full. Else prove '..UptoSaid'. A law counts once. -/
mutual
def uptoBulk {H : Type} : DataW H → Nat
  | .lit (.string bytes) => bytes.length + 1
  | .lit _ => 1
  | .nil => 1
  | .ptr d => uptoBulk d + 1
  | .slice elems spare => uptoBulkAll elems + uptoBulkAll spare + 1
  | .agg parts => uptoBulkAll parts + 1
  | .iface _ d => uptoBulk d + 1
  | .map entries => uptoBulkEntries entries + 1
  | .held _ => 1
def uptoBulkAll {H : Type} : List (DataW H) → Nat
  | [] => 0
  | d :: r => uptoBulk d + uptoBulkAll r
def uptoBulkEntries {H : Type} : List (Lit × DataW H) → Nat
  | [] => 0
  | x :: r => uptoBulkEntry x + uptoBulkEntries r
def uptoBulkEntry {H : Type} : Lit × DataW H → Nat
  | (.string bytes, d) => bytes.length + uptoBulk d + 1
  | (_, d) => uptoBulk d + 1
 end
def uptoSmall : (H : Type) → List (DataW H) → Bool := fun _ ds => decide (uptoBulkAll ds ≤ 1048576)
def OpenSpec.upto (s : _root_.Go.ChangeSpec) : _root_.Go.OpenSpec := { _root_.Go.OpenSpec.ofChange s with cond := some uptoSmall }

/-- 'laws.FnExactAreMoves', WHERE WHAT IT READS IS OF BULK AT MOST 1048576: true; the input reads as it did. -/
def fnExactAreMovesUptoRow : OpenClaim := { program := "ytllhghcepbkpeaa", sum := "90cc748d97f3dca231947763115b1295891506884c29caf7388d8ef32eef7788", func := "loop.example/g01049/laws.FnExactAreMoves", spec := "fnExactAreMoves", apart := false, narrowed := true }
def FnExactAreMovesUptoSaid : Prop := fnExactAreMovesUptoRow.holds Try.pinned (OpenSpec.upto fnExactAreMovesSpec)

/-- 'laws.FnExactPeopleIn', WHERE WHAT IT READS IS OF BULK AT MOST 1048576: true; the input reads as it did. -/
def fnExactPeopleInUptoRow : OpenClaim := { program := "ytllhghcepbkpeaa", sum := "90cc748d97f3dca231947763115b1295891506884c29caf7388d8ef32eef7788", func := "loop.example/g01049/laws.FnExactPeopleIn", spec := "fnExactPeopleIn", apart := false, narrowed := true }
def FnExactPeopleInUptoSaid : Prop := fnExactPeopleInUptoRow.holds Try.pinned (OpenSpec.upto fnExactPeopleInSpec)

/-- 'laws.FnExactFullestTime', WHERE WHAT IT READS IS OF BULK AT MOST 1048576: true; the input reads as it did. -/
def fnExactFullestTimeUptoRow : OpenClaim := { program := "ytllhghcepbkpeaa", sum := "90cc748d97f3dca231947763115b1295891506884c29caf7388d8ef32eef7788", func := "loop.example/g01049/laws.FnExactFullestTime", spec := "fnExactFullestTime", apart := false, narrowed := true }
def FnExactFullestTimeUptoSaid : Prop := fnExactFullestTimeUptoRow.holds Try.pinned (OpenSpec.upto fnExactFullestTimeSpec)

/-- 'laws.FnExactIsClear', WHERE WHAT IT READS IS OF BULK AT MOST 1048576: true; the input reads as it did. -/
def fnExactIsClearUptoRow : OpenClaim := { program := "ytllhghcepbkpeaa", sum := "90cc748d97f3dca231947763115b1295891506884c29caf7388d8ef32eef7788", func := "loop.example/g01049/laws.FnExactIsClear", spec := "fnExactIsClear", apart := false, narrowed := true }
def FnExactIsClearUptoSaid : Prop := fnExactIsClearUptoRow.holds Try.pinned (OpenSpec.upto fnExactIsClearSpec)

/-- 'laws.FnExactAddMove', WHERE WHAT IT READS IS OF BULK AT MOST 1048576: true; the input reads as it did. -/
def fnExactAddMoveUptoRow : OpenClaim := { program := "ytllhghcepbkpeaa", sum := "90cc748d97f3dca231947763115b1295891506884c29caf7388d8ef32eef7788", func := "loop.example/g01049/laws.FnExactAddMove", spec := "fnExactAddMove", apart := false, narrowed := true }
def FnExactAddMoveUptoSaid : Prop := fnExactAddMoveUptoRow.holds Try.pinned (OpenSpec.upto fnExactAddMoveSpec)

/-- 'laws.FnExactClearFrom', WHERE WHAT IT READS IS OF BULK AT MOST 1048576: true; the input reads as it did. -/
def fnExactClearFromUptoRow : OpenClaim := { program := "ytllhghcepbkpeaa", sum := "90cc748d97f3dca231947763115b1295891506884c29caf7388d8ef32eef7788", func := "loop.example/g01049/laws.FnExactClearFrom", spec := "fnExactClearFrom", apart := false, narrowed := true }
def FnExactClearFromUptoSaid : Prop := fnExactClearFromUptoRow.holds Try.pinned (OpenSpec.upto fnExactClearFromSpec)

/-- 'laws.FnExactOccupiedAt', WHERE WHAT IT READS IS OF BULK AT MOST 1048576: true; the input reads as it did. -/
def fnExactOccupiedAtUptoRow : OpenClaim := { program := "ytllhghcepbkpeaa", sum := "90cc748d97f3dca231947763115b1295891506884c29caf7388d8ef32eef7788", func := "loop.example/g01049/laws.FnExactOccupiedAt", spec := "fnExactOccupiedAt", apart := false, narrowed := true }
def FnExactOccupiedAtUptoSaid : Prop := fnExactOccupiedAtUptoRow.holds Try.pinned (OpenSpec.upto fnExactOccupiedAtSpec)

/-- 'laws.FnExactAreAllClear', WHERE WHAT IT READS IS OF BULK AT MOST 1048576: true; the input reads as it did. -/
def fnExactAreAllClearUptoRow : OpenClaim := { program := "ytllhghcepbkpeaa", sum := "90cc748d97f3dca231947763115b1295891506884c29caf7388d8ef32eef7788", func := "loop.example/g01049/laws.FnExactAreAllClear", spec := "fnExactAreAllClear", apart := false, narrowed := true }
def FnExactAreAllClearUptoSaid : Prop := fnExactAreAllClearUptoRow.holds Try.pinned (OpenSpec.upto fnExactAreAllClearSpec)

/-- 'laws.FnZones', WHERE WHAT IT READS IS OF BULK AT MOST 1048576: true; the input reads as it did. -/
def fnZonesUptoRow : OpenClaim := { program := "ytllhghcepbkpeaa", sum := "90cc748d97f3dca231947763115b1295891506884c29caf7388d8ef32eef7788", func := "loop.example/g01049/laws.FnZones", spec := "fnZones", apart := false, narrowed := true }
def FnZonesUptoSaid : Prop := fnZonesUptoRow.holds Try.pinned (OpenSpec.upto fnZonesSpec)

/-- 'laws.FnClear', WHERE WHAT IT READS IS OF BULK AT MOST 1048576: true; the input reads as it did. -/
def fnClearUptoRow : OpenClaim := { program := "ytllhghcepbkpeaa", sum := "90cc748d97f3dca231947763115b1295891506884c29caf7388d8ef32eef7788", func := "loop.example/g01049/laws.FnClear", spec := "fnClear", apart := false, narrowed := true }
def FnClearUptoSaid : Prop := fnClearUptoRow.holds Try.pinned (OpenSpec.upto fnClearSpec)

/-- 'laws.FnExactStopTick', WHERE WHAT IT READS IS OF BULK AT MOST 1048576: true; the input reads as it did. -/
def fnExactStopTickUptoRow : OpenClaim := { program := "ytllhghcepbkpeaa", sum := "90cc748d97f3dca231947763115b1295891506884c29caf7388d8ef32eef7788", func := "loop.example/g01049/laws.FnExactStopTick", spec := "fnExactStopTick", apart := false, narrowed := true }
def FnExactStopTickUptoSaid : Prop := fnExactStopTickUptoRow.holds Try.pinned (OpenSpec.upto fnExactStopTickSpec)

/-- 'laws.FnExactLatestSending', WHERE WHAT IT READS IS OF BULK AT MOST 1048576: true; the input reads as it did. -/
def fnExactLatestSendingUptoRow : OpenClaim := { program := "ytllhghcepbkpeaa", sum := "90cc748d97f3dca231947763115b1295891506884c29caf7388d8ef32eef7788", func := "loop.example/g01049/laws.FnExactLatestSending", spec := "fnExactLatestSending", apart := false, narrowed := true }
def FnExactLatestSendingUptoSaid : Prop := fnExactLatestSendingUptoRow.holds Try.pinned (OpenSpec.upto fnExactLatestSendingSpec)

end Rows
end Go.Proofs.Ytllhghcepbkpeaa
