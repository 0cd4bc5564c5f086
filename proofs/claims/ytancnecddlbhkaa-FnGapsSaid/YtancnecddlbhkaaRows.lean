/-
  No cell of these rows narrows 'for every input' (looked for: loops, veiled, ifaces, maps, wideKeys, modest, calm, conditions, laid).
  DERIVED. THE GIVEN ROWS OF THIS SEAT. 12 by the template 'for every input the law returns true; each argument reads behind the call as it read before'; 0 by the template 'total and deterministic' (their statements: YtancnecddlbhkaaTotals.lean).
  GIVEN WITH THE SEED: the statements are not yours to turn. If you find one false, say at which input.
  Laid BY PROGRAM, IN A SANDBOX (cutbox-rows.mjs): the forced cells as the released guide's own fill.sh prints them over the translation 4d3b5d45d0be90ff… (all of the seat's roots in one cut). By AI agents, Wed Nov 11 2026. No macro, syntax, notation, axiom, sorry.
-/
import Derived.Test.YtancnecddlbhkaaChecked
import GoSem.Claim
import GoSem.ClaimJoined
import GoSem.ClaimMapViews
import Derived.JoinedTies
import Derived.KernelRfl
namespace Go.Proofs.Ytancnecddlbhkaa
/- THE CELL 'sum', in the pinned program and in every row, IS THE sha256 OF THE DUMP (.gsa) THAT YtancnecddlbhkaaProg.lean LOADS. Nothing in Lean hashes anything: it is a label: what it is worth is what the hold of that sum in a sandbox is worth. -/
noncomputable def Try.pinned : Pinned := { name := "ytancnecddlbhkaa", sum := "4d3b5d45d0be90ffa850530390246879563a12fb1a2f4eb5e9e4a1e8508495f8", checked := Try.checked }
namespace Rows
def none {H : Type} : Left H := { results := [], args := [] }

/-- 'laws.FnExactCountPlacings': WHATEVER THE INPUT: true; the input reads as it did. -/
def fnExactCountPlacingsSpec : ChangeSpec := { name := "fnExactCountPlacings", fn := fun _ => fun
  | [d] => { results := [.lit (.bool true)], args := [d] }
  | _ => none }
def fnExactCountPlacingsRow : OpenClaim := { program := "ytancnecddlbhkaa", sum := "4d3b5d45d0be90ffa850530390246879563a12fb1a2f4eb5e9e4a1e8508495f8", func := "loop.example/g01049/laws.FnExactCountPlacings", spec := "fnExactCountPlacings", recurses := true, apart := false }
def FnExactCountPlacingsSaid : Prop := fnExactCountPlacingsRow.holds Try.pinned (OpenSpec.ofChange fnExactCountPlacingsSpec)

/-- ITS FALSE NEIGHBOUR: 'it returns false'. Refute it at one input. -/
def fnExactCountPlacingsWrong : ChangeSpec := { name := "fnExactCountPlacings", fn := fun _ => fun
  | [d] => { results := [.lit (.bool false)], args := [d] }
  | _ => none }
def FnExactCountPlacingsWrongFalsely : Prop := fnExactCountPlacingsRow.holds Try.pinned (OpenSpec.ofChange fnExactCountPlacingsWrong)

/-- 'laws.FnExactSpotsFor': WHATEVER THE INPUT: true; the input reads as it did. -/
def fnExactSpotsForSpec : ChangeSpec := { name := "fnExactSpotsFor", fn := fun _ => fun
  | [d1, d2] => { results := [.lit (.bool true)], args := [d1, d2] }
  | _ => none }
def fnExactSpotsForRow : OpenClaim := { program := "ytancnecddlbhkaa", sum := "4d3b5d45d0be90ffa850530390246879563a12fb1a2f4eb5e9e4a1e8508495f8", func := "loop.example/g01049/laws.FnExactSpotsFor", spec := "fnExactSpotsFor", apart := false }
def FnExactSpotsForSaid : Prop := fnExactSpotsForRow.holds Try.pinned (OpenSpec.ofChange fnExactSpotsForSpec)

/-- ITS FALSE NEIGHBOUR: 'it returns false'. Refute it at one input. -/
def fnExactSpotsForWrong : ChangeSpec := { name := "fnExactSpotsFor", fn := fun _ => fun
  | [d1, d2] => { results := [.lit (.bool false)], args := [d1, d2] }
  | _ => none }
def FnExactSpotsForWrongFalsely : Prop := fnExactSpotsForRow.holds Try.pinned (OpenSpec.ofChange fnExactSpotsForWrong)

/-- 'laws.FnExactIsPlacing': WHATEVER THE INPUT: true; the input reads as it did. -/
def fnExactIsPlacingSpec : ChangeSpec := { name := "fnExactIsPlacing", fn := fun _ => fun
  | [d1, d2] => { results := [.lit (.bool true)], args := [d1, d2] }
  | _ => none }
def fnExactIsPlacingRow : OpenClaim := { program := "ytancnecddlbhkaa", sum := "4d3b5d45d0be90ffa850530390246879563a12fb1a2f4eb5e9e4a1e8508495f8", func := "loop.example/g01049/laws.FnExactIsPlacing", spec := "fnExactIsPlacing", apart := false }
def FnExactIsPlacingSaid : Prop := fnExactIsPlacingRow.holds Try.pinned (OpenSpec.ofChange fnExactIsPlacingSpec)

/-- ITS FALSE NEIGHBOUR: 'it returns false'. Refute it at one input. -/
def fnExactIsPlacingWrong : ChangeSpec := { name := "fnExactIsPlacing", fn := fun _ => fun
  | [d1, d2] => { results := [.lit (.bool false)], args := [d1, d2] }
  | _ => none }
def FnExactIsPlacingWrongFalsely : Prop := fnExactIsPlacingRow.holds Try.pinned (OpenSpec.ofChange fnExactIsPlacingWrong)

/-- 'laws.FnExactCostOf': WHATEVER THE INPUT: true; the input reads as it did. -/
def fnExactCostOfSpec : ChangeSpec := { name := "fnExactCostOf", fn := fun _ => fun
  | [d1, d2] => { results := [.lit (.bool true)], args := [d1, d2] }
  | _ => none }
def fnExactCostOfRow : OpenClaim := { program := "ytancnecddlbhkaa", sum := "4d3b5d45d0be90ffa850530390246879563a12fb1a2f4eb5e9e4a1e8508495f8", func := "loop.example/g01049/laws.FnExactCostOf", spec := "fnExactCostOf", apart := false }
def FnExactCostOfSaid : Prop := fnExactCostOfRow.holds Try.pinned (OpenSpec.ofChange fnExactCostOfSpec)

/-- ITS FALSE NEIGHBOUR: 'it returns false'. Refute it at one input. -/
def fnExactCostOfWrong : ChangeSpec := { name := "fnExactCostOf", fn := fun _ => fun
  | [d1, d2] => { results := [.lit (.bool false)], args := [d1, d2] }
  | _ => none }
def FnExactCostOfWrongFalsely : Prop := fnExactCostOfRow.holds Try.pinned (OpenSpec.ofChange fnExactCostOfWrong)

/-- 'laws.FnPlacings': WHATEVER THE INPUT: true; the input reads as it did. -/
def fnPlacingsSpec : ChangeSpec := { name := "fnPlacings", fn := fun _ => fun
  | [d] => { results := [.lit (.bool true)], args := [d] }
  | _ => none }
def fnPlacingsRow : OpenClaim := { program := "ytancnecddlbhkaa", sum := "4d3b5d45d0be90ffa850530390246879563a12fb1a2f4eb5e9e4a1e8508495f8", func := "loop.example/g01049/laws.FnPlacings", spec := "fnPlacings", recurses := true, apart := false }
def FnPlacingsSaid : Prop := fnPlacingsRow.holds Try.pinned (OpenSpec.ofChange fnPlacingsSpec)

/-- ITS FALSE NEIGHBOUR: 'it returns false'. Refute it at one input. -/
def fnPlacingsWrong : ChangeSpec := { name := "fnPlacings", fn := fun _ => fun
  | [d] => { results := [.lit (.bool false)], args := [d] }
  | _ => none }
def FnPlacingsWrongFalsely : Prop := fnPlacingsRow.holds Try.pinned (OpenSpec.ofChange fnPlacingsWrong)

/-- 'laws.FnExactGreatestGap': WHATEVER THE INPUT: true; the input reads as it did. -/
def fnExactGreatestGapSpec : ChangeSpec := { name := "fnExactGreatestGap", fn := fun _ => fun
  | [d] => { results := [.lit (.bool true)], args := [d] }
  | _ => none }
def fnExactGreatestGapRow : OpenClaim := { program := "ytancnecddlbhkaa", sum := "4d3b5d45d0be90ffa850530390246879563a12fb1a2f4eb5e9e4a1e8508495f8", func := "loop.example/g01049/laws.FnExactGreatestGap", spec := "fnExactGreatestGap", recurses := true, apart := false }
def FnExactGreatestGapSaid : Prop := fnExactGreatestGapRow.holds Try.pinned (OpenSpec.ofChange fnExactGreatestGapSpec)

/-- ITS FALSE NEIGHBOUR: 'it returns false'. Refute it at one input. -/
def fnExactGreatestGapWrong : ChangeSpec := { name := "fnExactGreatestGap", fn := fun _ => fun
  | [d] => { results := [.lit (.bool false)], args := [d] }
  | _ => none }
def FnExactGreatestGapWrongFalsely : Prop := fnExactGreatestGapRow.holds Try.pinned (OpenSpec.ofChange fnExactGreatestGapWrong)

/-- 'laws.FnExactFixedSpots': WHATEVER THE INPUT: true; the input reads as it did. -/
def fnExactFixedSpotsSpec : ChangeSpec := { name := "fnExactFixedSpots", fn := fun _ => fun
  | [d] => { results := [.lit (.bool true)], args := [d] }
  | _ => none }
def fnExactFixedSpotsRow : OpenClaim := { program := "ytancnecddlbhkaa", sum := "4d3b5d45d0be90ffa850530390246879563a12fb1a2f4eb5e9e4a1e8508495f8", func := "loop.example/g01049/laws.FnExactFixedSpots", spec := "fnExactFixedSpots", recurses := true, apart := false }
def FnExactFixedSpotsSaid : Prop := fnExactFixedSpotsRow.holds Try.pinned (OpenSpec.ofChange fnExactFixedSpotsSpec)

/-- ITS FALSE NEIGHBOUR: 'it returns false'. Refute it at one input. -/
def fnExactFixedSpotsWrong : ChangeSpec := { name := "fnExactFixedSpots", fn := fun _ => fun
  | [d] => { results := [.lit (.bool false)], args := [d] }
  | _ => none }
def FnExactFixedSpotsWrongFalsely : Prop := fnExactFixedSpotsRow.holds Try.pinned (OpenSpec.ofChange fnExactFixedSpotsWrong)

/-- 'laws.FnExactBestPlacing': WHATEVER THE INPUT: true; the input reads as it did. -/
def fnExactBestPlacingSpec : ChangeSpec := { name := "fnExactBestPlacing", fn := fun _ => fun
  | [d] => { results := [.lit (.bool true)], args := [d] }
  | _ => none }
def fnExactBestPlacingRow : OpenClaim := { program := "ytancnecddlbhkaa", sum := "4d3b5d45d0be90ffa850530390246879563a12fb1a2f4eb5e9e4a1e8508495f8", func := "loop.example/g01049/laws.FnExactBestPlacing", spec := "fnExactBestPlacing", recurses := true, apart := false }
def FnExactBestPlacingSaid : Prop := fnExactBestPlacingRow.holds Try.pinned (OpenSpec.ofChange fnExactBestPlacingSpec)

/-- ITS FALSE NEIGHBOUR: 'it returns false'. Refute it at one input. -/
def fnExactBestPlacingWrong : ChangeSpec := { name := "fnExactBestPlacing", fn := fun _ => fun
  | [d] => { results := [.lit (.bool false)], args := [d] }
  | _ => none }
def FnExactBestPlacingWrongFalsely : Prop := fnExactBestPlacingRow.holds Try.pinned (OpenSpec.ofChange fnExactBestPlacingWrong)

/-- 'laws.FnGaps': WHATEVER THE INPUT: true; the input reads as it did. -/
def fnGapsSpec : ChangeSpec := { name := "fnGaps", fn := fun _ => fun
  | [d] => { results := [.lit (.bool true)], args := [d] }
  | _ => none }
def fnGapsRow : OpenClaim := { program := "ytancnecddlbhkaa", sum := "4d3b5d45d0be90ffa850530390246879563a12fb1a2f4eb5e9e4a1e8508495f8", func := "loop.example/g01049/laws.FnGaps", spec := "fnGaps", recurses := true, apart := false }
def FnGapsSaid : Prop := fnGapsRow.holds Try.pinned (OpenSpec.ofChange fnGapsSpec)

/-- ITS FALSE NEIGHBOUR: 'it returns false'. Refute it at one input. -/
def fnGapsWrong : ChangeSpec := { name := "fnGaps", fn := fun _ => fun
  | [d] => { results := [.lit (.bool false)], args := [d] }
  | _ => none }
def FnGapsWrongFalsely : Prop := fnGapsRow.holds Try.pinned (OpenSpec.ofChange fnGapsWrong)

/-- 'laws.FnExactPlacingAfter': WHATEVER THE INPUT: true; the input reads as it did. -/
def fnExactPlacingAfterSpec : ChangeSpec := { name := "fnExactPlacingAfter", fn := fun _ => fun
  | [d1, d2] => { results := [.lit (.bool true)], args := [d1, d2] }
  | _ => none }
def fnExactPlacingAfterRow : OpenClaim := { program := "ytancnecddlbhkaa", sum := "4d3b5d45d0be90ffa850530390246879563a12fb1a2f4eb5e9e4a1e8508495f8", func := "loop.example/g01049/laws.FnExactPlacingAfter", spec := "fnExactPlacingAfter", recurses := true, apart := false }
def FnExactPlacingAfterSaid : Prop := fnExactPlacingAfterRow.holds Try.pinned (OpenSpec.ofChange fnExactPlacingAfterSpec)

/-- ITS FALSE NEIGHBOUR: 'it returns false'. Refute it at one input. -/
def fnExactPlacingAfterWrong : ChangeSpec := { name := "fnExactPlacingAfter", fn := fun _ => fun
  | [d1, d2] => { results := [.lit (.bool false)], args := [d1, d2] }
  | _ => none }
def FnExactPlacingAfterWrongFalsely : Prop := fnExactPlacingAfterRow.holds Try.pinned (OpenSpec.ofChange fnExactPlacingAfterWrong)

/-- 'laws.FnExactWithoutAreas': WHATEVER THE INPUT: true; the input reads as it did. -/
def fnExactWithoutAreasSpec : ChangeSpec := { name := "fnExactWithoutAreas", fn := fun _ => fun
  | [d1, d2] => { results := [.lit (.bool true)], args := [d1, d2] }
  | _ => none }
def fnExactWithoutAreasRow : OpenClaim := { program := "ytancnecddlbhkaa", sum := "4d3b5d45d0be90ffa850530390246879563a12fb1a2f4eb5e9e4a1e8508495f8", func := "loop.example/g01049/laws.FnExactWithoutAreas", spec := "fnExactWithoutAreas", apart := false }
def FnExactWithoutAreasSaid : Prop := fnExactWithoutAreasRow.holds Try.pinned (OpenSpec.ofChange fnExactWithoutAreasSpec)

/-- ITS FALSE NEIGHBOUR: 'it returns false'. Refute it at one input. -/
def fnExactWithoutAreasWrong : ChangeSpec := { name := "fnExactWithoutAreas", fn := fun _ => fun
  | [d1, d2] => { results := [.lit (.bool false)], args := [d1, d2] }
  | _ => none }
def FnExactWithoutAreasWrongFalsely : Prop := fnExactWithoutAreasRow.holds Try.pinned (OpenSpec.ofChange fnExactWithoutAreasWrong)

/-- 'laws.FnEveryField': WHATEVER THE INPUT: true; the input reads as it did. -/
def fnEveryFieldSpec : ChangeSpec := { name := "fnEveryField", fn := fun _ => fun
  | [d] => { results := [.lit (.bool true)], args := [d] }
  | _ => none }
def fnEveryFieldRow : OpenClaim := { program := "ytancnecddlbhkaa", sum := "4d3b5d45d0be90ffa850530390246879563a12fb1a2f4eb5e9e4a1e8508495f8", func := "loop.example/g01049/laws.FnEveryField", spec := "fnEveryField", recurses := true, apart := false }
def FnEveryFieldSaid : Prop := fnEveryFieldRow.holds Try.pinned (OpenSpec.ofChange fnEveryFieldSpec)

/-- ITS FALSE NEIGHBOUR: 'it returns false'. Refute it at one input. -/
def fnEveryFieldWrong : ChangeSpec := { name := "fnEveryField", fn := fun _ => fun
  | [d] => { results := [.lit (.bool false)], args := [d] }
  | _ => none }
def FnEveryFieldWrongFalsely : Prop := fnEveryFieldRow.holds Try.pinned (OpenSpec.ofChange fnEveryFieldWrong)

/- THE SECOND FORM. 'bulk': how many values and letters a reading holds, each counted each time it is reached (what is shared counts as often as it is met; a slice's spare places count too). A statement '..UptoSaid' is the law's where the arguments, and the package variables that the reading takes, are together of bulk at most 1048576: NARROWER than '..Said'. Prove '..Said' where nothing that the law and all that it calls make is longer than what came in: it says more and counts as full. Else prove '..UptoSaid'. A law counts once. -/
mutual
def uptoBulk {H : Type} : DataW H → Nat
  | .lit (.string bytes) => bytes.length + 1
  | .lit _ => 1
  | .nil => 1
  | .ptr d => uptoBulk d + 1
  | .slice elems spare => uptoBulkAll elems + uptoBulkAll spare + 1
  | .agg parts => uptoBulkAll parts + 1
  | .iface _ d => uptoBulk d + 1
  | .map entries => uptoBulkEntries entries + 1
  | .held _ => 1
def uptoBulkAll {H : Type} : List (DataW H) → Nat
  | [] => 0
  | d :: r => uptoBulk d + uptoBulkAll r
def uptoBulkEntries {H : Type} : List (Lit × DataW H) → Nat
  | [] => 0
  | x :: r => uptoBulkEntry x + uptoBulkEntries r
def uptoBulkEntry {H : Type} : Lit × DataW H → Nat
  | (.string bytes, d) => bytes.length + uptoBulk d + 1
  | (_, d) => uptoBulk d + 1
 end
def uptoSmall : (H : Type) → List (DataW H) → Bool := fun _ ds => decide (uptoBulkAll ds ≤ 1048576)
def OpenSpec.upto (s : _root_.Go.ChangeSpec) : _root_.Go.OpenSpec := { _root_.Go.OpenSpec.ofChange s with cond := some uptoSmall }

/-- 'laws.FnExactCountPlacings', WHERE WHAT IT READS IS OF BULK AT MOST 1048576: true; the input reads as it did. -/
def fnExactCountPlacingsUptoRow : OpenClaim := { program := "ytancnecddlbhkaa", sum := "4d3b5d45d0be90ffa850530390246879563a12fb1a2f4eb5e9e4a1e8508495f8", func := "loop.example/g01049/laws.FnExactCountPlacings", spec := "fnExactCountPlacings", recurses := true, apart := false, narrowed := true }
def FnExactCountPlacingsUptoSaid : Prop := fnExactCountPlacingsUptoRow.holds Try.pinned (OpenSpec.upto fnExactCountPlacingsSpec)

/-- 'laws.FnExactSpotsFor', WHERE WHAT IT READS IS OF BULK AT MOST 1048576: true; the input reads as it did. -/
def fnExactSpotsForUptoRow : OpenClaim := { program := "ytancnecddlbhkaa", sum := "4d3b5d45d0be90ffa850530390246879563a12fb1a2f4eb5e9e4a1e8508495f8", func := "loop.example/g01049/laws.FnExactSpotsFor", spec := "fnExactSpotsFor", apart := false, narrowed := true }
def FnExactSpotsForUptoSaid : Prop := fnExactSpotsForUptoRow.holds Try.pinned (OpenSpec.upto fnExactSpotsForSpec)

/-- 'laws.FnExactIsPlacing', WHERE WHAT IT READS IS OF BULK AT MOST 1048576: true; the input reads as it did. -/
def fnExactIsPlacingUptoRow : OpenClaim := { program := "ytancnecddlbhkaa", sum := "4d3b5d45d0be90ffa850530390246879563a12fb1a2f4eb5e9e4a1e8508495f8", func := "loop.example/g01049/laws.FnExactIsPlacing", spec := "fnExactIsPlacing", apart := false, narrowed := true }
def FnExactIsPlacingUptoSaid : Prop := fnExactIsPlacingUptoRow.holds Try.pinned (OpenSpec.upto fnExactIsPlacingSpec)

/-- 'laws.FnExactCostOf', WHERE WHAT IT READS IS OF BULK AT MOST 1048576: true; the input reads as it did. -/
def fnExactCostOfUptoRow : OpenClaim := { program := "ytancnecddlbhkaa", sum := "4d3b5d45d0be90ffa850530390246879563a12fb1a2f4eb5e9e4a1e8508495f8", func := "loop.example/g01049/laws.FnExactCostOf", spec := "fnExactCostOf", apart := false, narrowed := true }
def FnExactCostOfUptoSaid : Prop := fnExactCostOfUptoRow.holds Try.pinned (OpenSpec.upto fnExactCostOfSpec)

/-- 'laws.FnPlacings', WHERE WHAT IT READS IS OF BULK AT MOST 1048576: true; the input reads as it did. -/
def fnPlacingsUptoRow : OpenClaim := { program := "ytancnecddlbhkaa", sum := "4d3b5d45d0be90ffa850530390246879563a12fb1a2f4eb5e9e4a1e8508495f8", func := "loop.example/g01049/laws.FnPlacings", spec := "fnPlacings", recurses := true, apart := false, narrowed := true }
def FnPlacingsUptoSaid : Prop := fnPlacingsUptoRow.holds Try.pinned (OpenSpec.upto fnPlacingsSpec)

/-- 'laws.FnExactGreatestGap', WHERE WHAT IT READS IS OF BULK AT MOST 1048576: true; the input reads as it did. -/
def fnExactGreatestGapUptoRow : OpenClaim := { program := "ytancnecddlbhkaa", sum := "4d3b5d45d0be90ffa850530390246879563a12fb1a2f4eb5e9e4a1e8508495f8", func := "loop.example/g01049/laws.FnExactGreatestGap", spec := "fnExactGreatestGap", recurses := true, apart := false, narrowed := true }
def FnExactGreatestGapUptoSaid : Prop := fnExactGreatestGapUptoRow.holds Try.pinned (OpenSpec.upto fnExactGreatestGapSpec)

/-- 'laws.FnExactFixedSpots', WHERE WHAT IT READS IS OF BULK AT MOST 1048576: true; the input reads as it did. -/
def fnExactFixedSpotsUptoRow : OpenClaim := { program := "ytancnecddlbhkaa", sum := "4d3b5d45d0be90ffa850530390246879563a12fb1a2f4eb5e9e4a1e8508495f8", func := "loop.example/g01049/laws.FnExactFixedSpots", spec := "fnExactFixedSpots", recurses := true, apart := false, narrowed := true }
def FnExactFixedSpotsUptoSaid : Prop := fnExactFixedSpotsUptoRow.holds Try.pinned (OpenSpec.upto fnExactFixedSpotsSpec)

/-- 'laws.FnExactBestPlacing', WHERE WHAT IT READS IS OF BULK AT MOST 1048576: true; the input reads as it did. -/
def fnExactBestPlacingUptoRow : OpenClaim := { program := "ytancnecddlbhkaa", sum := "4d3b5d45d0be90ffa850530390246879563a12fb1a2f4eb5e9e4a1e8508495f8", func := "loop.example/g01049/laws.FnExactBestPlacing", spec := "fnExactBestPlacing", recurses := true, apart := false, narrowed := true }
def FnExactBestPlacingUptoSaid : Prop := fnExactBestPlacingUptoRow.holds Try.pinned (OpenSpec.upto fnExactBestPlacingSpec)

/-- 'laws.FnGaps', WHERE WHAT IT READS IS OF BULK AT MOST 1048576: true; the input reads as it did. -/
def fnGapsUptoRow : OpenClaim := { program := "ytancnecddlbhkaa", sum := "4d3b5d45d0be90ffa850530390246879563a12fb1a2f4eb5e9e4a1e8508495f8", func := "loop.example/g01049/laws.FnGaps", spec := "fnGaps", recurses := true, apart := false, narrowed := true }
def FnGapsUptoSaid : Prop := fnGapsUptoRow.holds Try.pinned (OpenSpec.upto fnGapsSpec)

/-- 'laws.FnExactPlacingAfter', WHERE WHAT IT READS IS OF BULK AT MOST 1048576: true; the input reads as it did. -/
def fnExactPlacingAfterUptoRow : OpenClaim := { program := "ytancnecddlbhkaa", sum := "4d3b5d45d0be90ffa850530390246879563a12fb1a2f4eb5e9e4a1e8508495f8", func := "loop.example/g01049/laws.FnExactPlacingAfter", spec := "fnExactPlacingAfter", recurses := true, apart := false, narrowed := true }
def FnExactPlacingAfterUptoSaid : Prop := fnExactPlacingAfterUptoRow.holds Try.pinned (OpenSpec.upto fnExactPlacingAfterSpec)

/-- 'laws.FnExactWithoutAreas', WHERE WHAT IT READS IS OF BULK AT MOST 1048576: true; the input reads as it did. -/
def fnExactWithoutAreasUptoRow : OpenClaim := { program := "ytancnecddlbhkaa", sum := "4d3b5d45d0be90ffa850530390246879563a12fb1a2f4eb5e9e4a1e8508495f8", func := "loop.example/g01049/laws.FnExactWithoutAreas", spec := "fnExactWithoutAreas", apart := false, narrowed := true }
def FnExactWithoutAreasUptoSaid : Prop := fnExactWithoutAreasUptoRow.holds Try.pinned (OpenSpec.upto fnExactWithoutAreasSpec)

/-- 'laws.FnEveryField', WHERE WHAT IT READS IS OF BULK AT MOST 1048576: true; the input reads as it did. -/
def fnEveryFieldUptoRow : OpenClaim := { program := "ytancnecddlbhkaa", sum := "4d3b5d45d0be90ffa850530390246879563a12fb1a2f4eb5e9e4a1e8508495f8", func := "loop.example/g01049/laws.FnEveryField", spec := "fnEveryField", recurses := true, apart := false, narrowed := true }
def FnEveryFieldUptoSaid : Prop := fnEveryFieldUptoRow.holds Try.pinned (OpenSpec.upto fnEveryFieldSpec)

end Rows
end Go.Proofs.Ytancnecddlbhkaa
