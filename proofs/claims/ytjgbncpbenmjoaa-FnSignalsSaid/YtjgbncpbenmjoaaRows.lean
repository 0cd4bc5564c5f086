/-
  No cell of these rows narrows 'for every input' (looked for: loops, veiled, ifaces, maps, wideKeys, modest, calm, conditions, laid).
  DERIVED. THE GIVEN ROWS OF THIS SEAT. 11 by the template 'for every input the law returns true; each argument reads behind the call as it read before'; 0 by the template 'total and deterministic' (their statements: YtjgbncpbenmjoaaTotals.lean).
  GIVEN WITH THE SEED: the statements are not yours to turn. If you find one false, say at which input.
  Laid BY PROGRAM, IN A SANDBOX (cutbox-rows.mjs): the forced cells as the released guide's own fill.sh prints them over the translation 44619b46005682ef… (all of the seat's roots in one cut). By AI agents, Wed Nov 11 2026. No macro, syntax, notation, axiom, sorry.
-/
import Derived.Test.YtjgbncpbenmjoaaChecked
import GoSem.Claim
import GoSem.ClaimJoined
import GoSem.ClaimMapViews
import Derived.JoinedTies
import Derived.KernelRfl
namespace Go.Proofs.Ytjgbncpbenmjoaa
/- THE CELL 'sum', in the pinned program and in every row, IS THE sha256 OF THE DUMP (.gsa) THAT YtjgbncpbenmjoaaProg.lean LOADS. Nothing in Lean hashes anything: it is a label: what it is worth is what the hold of that sum in a sandbox is worth. -/
noncomputable def Try.pinned : Pinned := { name := "ytjgbncpbenmjoaa", sum := "44619b46005682efabbf8b109f86c7ab0bd10f66ab3dd2bf295a836069116b3e", checked := Try.checked }
namespace Rows
def none {H : Type} : Left H := { results := [], args := [] }

/-- 'laws.FnExactAreSignals': WHATEVER THE INPUT: true; the input reads as it did. -/
def fnExactAreSignalsSpec : ChangeSpec := { name := "fnExactAreSignals", fn := fun _ => fun
  | [d] => { results := [.lit (.bool true)], args := [d] }
  | _ => none }
def fnExactAreSignalsRow : OpenClaim := { program := "ytjgbncpbenmjoaa", sum := "44619b46005682efabbf8b109f86c7ab0bd10f66ab3dd2bf295a836069116b3e", func := "loop.example/g01049/laws.FnExactAreSignals", spec := "fnExactAreSignals", apart := false }
def FnExactAreSignalsSaid : Prop := fnExactAreSignalsRow.holds Try.pinned (OpenSpec.ofChange fnExactAreSignalsSpec)

/-- ITS FALSE NEIGHBOUR: 'it returns false'. Refute it at one input. -/
def fnExactAreSignalsWrong : ChangeSpec := { name := "fnExactAreSignals", fn := fun _ => fun
  | [d] => { results := [.lit (.bool false)], args := [d] }
  | _ => none }
def FnExactAreSignalsWrongFalsely : Prop := fnExactAreSignalsRow.holds Try.pinned (OpenSpec.ofChange fnExactAreSignalsWrong)

/-- 'laws.FnExactAddSignal': WHATEVER THE INPUT: true; the input reads as it did. -/
def fnExactAddSignalSpec : ChangeSpec := { name := "fnExactAddSignal", fn := fun _ => fun
  | [d1, d2] => { results := [.lit (.bool true)], args := [d1, d2] }
  | _ => none }
def fnExactAddSignalRow : OpenClaim := { program := "ytjgbncpbenmjoaa", sum := "44619b46005682efabbf8b109f86c7ab0bd10f66ab3dd2bf295a836069116b3e", func := "loop.example/g01049/laws.FnExactAddSignal", spec := "fnExactAddSignal", apart := false }
def FnExactAddSignalSaid : Prop := fnExactAddSignalRow.holds Try.pinned (OpenSpec.ofChange fnExactAddSignalSpec)

/-- ITS FALSE NEIGHBOUR: 'it returns false'. Refute it at one input. -/
def fnExactAddSignalWrong : ChangeSpec := { name := "fnExactAddSignal", fn := fun _ => fun
  | [d1, d2] => { results := [.lit (.bool false)], args := [d1, d2] }
  | _ => none }
def FnExactAddSignalWrongFalsely : Prop := fnExactAddSignalRow.holds Try.pinned (OpenSpec.ofChange fnExactAddSignalWrong)

/-- 'laws.FnExactFiringTicks': WHATEVER THE INPUT: true; the input reads as it did. -/
def fnExactFiringTicksSpec : ChangeSpec := { name := "fnExactFiringTicks", fn := fun _ => fun
  | [d1, d2, d3] => { results := [.lit (.bool true)], args := [d1, d2, d3] }
  | _ => none }
def fnExactFiringTicksRow : OpenClaim := { program := "ytjgbncpbenmjoaa", sum := "44619b46005682efabbf8b109f86c7ab0bd10f66ab3dd2bf295a836069116b3e", func := "loop.example/g01049/laws.FnExactFiringTicks", spec := "fnExactFiringTicks", apart := false }
def FnExactFiringTicksSaid : Prop := fnExactFiringTicksRow.holds Try.pinned (OpenSpec.ofChange fnExactFiringTicksSpec)

/-- ITS FALSE NEIGHBOUR: 'it returns false'. Refute it at one input. -/
def fnExactFiringTicksWrong : ChangeSpec := { name := "fnExactFiringTicks", fn := fun _ => fun
  | [d1, d2, d3] => { results := [.lit (.bool false)], args := [d1, d2, d3] }
  | _ => none }
def FnExactFiringTicksWrongFalsely : Prop := fnExactFiringTicksRow.holds Try.pinned (OpenSpec.ofChange fnExactFiringTicksWrong)

/-- 'laws.FnExactControllerAt': WHATEVER THE INPUT: true; the input reads as it did. -/
def fnExactControllerAtSpec : ChangeSpec := { name := "fnExactControllerAt", fn := fun _ => fun
  | [d1, d2] => { results := [.lit (.bool true)], args := [d1, d2] }
  | _ => none }
def fnExactControllerAtRow : OpenClaim := { program := "ytjgbncpbenmjoaa", sum := "44619b46005682efabbf8b109f86c7ab0bd10f66ab3dd2bf295a836069116b3e", func := "loop.example/g01049/laws.FnExactControllerAt", spec := "fnExactControllerAt", apart := false }
def FnExactControllerAtSaid : Prop := fnExactControllerAtRow.holds Try.pinned (OpenSpec.ofChange fnExactControllerAtSpec)

/-- ITS FALSE NEIGHBOUR: 'it returns false'. Refute it at one input. -/
def fnExactControllerAtWrong : ChangeSpec := { name := "fnExactControllerAt", fn := fun _ => fun
  | [d1, d2] => { results := [.lit (.bool false)], args := [d1, d2] }
  | _ => none }
def FnExactControllerAtWrongFalsely : Prop := fnExactControllerAtRow.holds Try.pinned (OpenSpec.ofChange fnExactControllerAtWrong)

/-- 'laws.FnExactRefusedSignals': WHATEVER THE INPUT: true; the input reads as it did. -/
def fnExactRefusedSignalsSpec : ChangeSpec := { name := "fnExactRefusedSignals", fn := fun _ => fun
  | [d] => { results := [.lit (.bool true)], args := [d] }
  | _ => none }
def fnExactRefusedSignalsRow : OpenClaim := { program := "ytjgbncpbenmjoaa", sum := "44619b46005682efabbf8b109f86c7ab0bd10f66ab3dd2bf295a836069116b3e", func := "loop.example/g01049/laws.FnExactRefusedSignals", spec := "fnExactRefusedSignals", apart := false }
def FnExactRefusedSignalsSaid : Prop := fnExactRefusedSignalsRow.holds Try.pinned (OpenSpec.ofChange fnExactRefusedSignalsSpec)

/-- ITS FALSE NEIGHBOUR: 'it returns false'. Refute it at one input. -/
def fnExactRefusedSignalsWrong : ChangeSpec := { name := "fnExactRefusedSignals", fn := fun _ => fun
  | [d] => { results := [.lit (.bool false)], args := [d] }
  | _ => none }
def FnExactRefusedSignalsWrongFalsely : Prop := fnExactRefusedSignalsRow.holds Try.pinned (OpenSpec.ofChange fnExactRefusedSignalsWrong)

/-- 'laws.FnSignals': WHATEVER THE INPUT: true; the input reads as it did. -/
def fnSignalsSpec : ChangeSpec := { name := "fnSignals", fn := fun _ => fun
  | [d] => { results := [.lit (.bool true)], args := [d] }
  | _ => none }
def fnSignalsRow : OpenClaim := { program := "ytjgbncpbenmjoaa", sum := "44619b46005682efabbf8b109f86c7ab0bd10f66ab3dd2bf295a836069116b3e", func := "loop.example/g01049/laws.FnSignals", spec := "fnSignals", apart := false }
def FnSignalsSaid : Prop := fnSignalsRow.holds Try.pinned (OpenSpec.ofChange fnSignalsSpec)

/-- ITS FALSE NEIGHBOUR: 'it returns false'. Refute it at one input. -/
def fnSignalsWrong : ChangeSpec := { name := "fnSignals", fn := fun _ => fun
  | [d] => { results := [.lit (.bool false)], args := [d] }
  | _ => none }
def FnSignalsWrongFalsely : Prop := fnSignalsRow.holds Try.pinned (OpenSpec.ofChange fnSignalsWrong)

/-- 'laws.FnExactFiredTicks': WHATEVER THE INPUT: true; the input reads as it did. -/
def fnExactFiredTicksSpec : ChangeSpec := { name := "fnExactFiredTicks", fn := fun _ => fun
  | [d1, d2] => { results := [.lit (.bool true)], args := [d1, d2] }
  | _ => none }
def fnExactFiredTicksRow : OpenClaim := { program := "ytjgbncpbenmjoaa", sum := "44619b46005682efabbf8b109f86c7ab0bd10f66ab3dd2bf295a836069116b3e", func := "loop.example/g01049/laws.FnExactFiredTicks", spec := "fnExactFiredTicks", apart := false }
def FnExactFiredTicksSaid : Prop := fnExactFiredTicksRow.holds Try.pinned (OpenSpec.ofChange fnExactFiredTicksSpec)

/-- ITS FALSE NEIGHBOUR: 'it returns false'. Refute it at one input. -/
def fnExactFiredTicksWrong : ChangeSpec := { name := "fnExactFiredTicks", fn := fun _ => fun
  | [d1, d2] => { results := [.lit (.bool false)], args := [d1, d2] }
  | _ => none }
def FnExactFiredTicksWrongFalsely : Prop := fnExactFiredTicksRow.holds Try.pinned (OpenSpec.ofChange fnExactFiredTicksWrong)

/-- 'laws.FnExactFiredSafely': WHATEVER THE INPUT: true; the input reads as it did. -/
def fnExactFiredSafelySpec : ChangeSpec := { name := "fnExactFiredSafely", fn := fun _ => fun
  | [d1, d2, d3, d4] => { results := [.lit (.bool true)], args := [d1, d2, d3, d4] }
  | _ => none }
def fnExactFiredSafelyRow : OpenClaim := { program := "ytjgbncpbenmjoaa", sum := "44619b46005682efabbf8b109f86c7ab0bd10f66ab3dd2bf295a836069116b3e", func := "loop.example/g01049/laws.FnExactFiredSafely", spec := "fnExactFiredSafely", apart := false }
def FnExactFiredSafelySaid : Prop := fnExactFiredSafelyRow.holds Try.pinned (OpenSpec.ofChange fnExactFiredSafelySpec)

/-- ITS FALSE NEIGHBOUR: 'it returns false'. Refute it at one input. -/
def fnExactFiredSafelyWrong : ChangeSpec := { name := "fnExactFiredSafely", fn := fun _ => fun
  | [d1, d2, d3, d4] => { results := [.lit (.bool false)], args := [d1, d2, d3, d4] }
  | _ => none }
def FnExactFiredSafelyWrongFalsely : Prop := fnExactFiredSafelyRow.holds Try.pinned (OpenSpec.ofChange fnExactFiredSafelyWrong)

/-- 'laws.FnExactMissedCues': WHATEVER THE INPUT: true; the input reads as it did. -/
def fnExactMissedCuesSpec : ChangeSpec := { name := "fnExactMissedCues", fn := fun _ => fun
  | [d1, d2, d3, d4] => { results := [.lit (.bool true)], args := [d1, d2, d3, d4] }
  | _ => none }
def fnExactMissedCuesRow : OpenClaim := { program := "ytjgbncpbenmjoaa", sum := "44619b46005682efabbf8b109f86c7ab0bd10f66ab3dd2bf295a836069116b3e", func := "loop.example/g01049/laws.FnExactMissedCues", spec := "fnExactMissedCues", apart := false }
def FnExactMissedCuesSaid : Prop := fnExactMissedCuesRow.holds Try.pinned (OpenSpec.ofChange fnExactMissedCuesSpec)

/-- ITS FALSE NEIGHBOUR: 'it returns false'. Refute it at one input. -/
def fnExactMissedCuesWrong : ChangeSpec := { name := "fnExactMissedCues", fn := fun _ => fun
  | [d1, d2, d3, d4] => { results := [.lit (.bool false)], args := [d1, d2, d3, d4] }
  | _ => none }
def FnExactMissedCuesWrongFalsely : Prop := fnExactMissedCuesRow.holds Try.pinned (OpenSpec.ofChange fnExactMissedCuesWrong)

/-- 'laws.FnFired': WHATEVER THE INPUT: true; the input reads as it did. -/
def fnFiredSpec : ChangeSpec := { name := "fnFired", fn := fun _ => fun
  | [d] => { results := [.lit (.bool true)], args := [d] }
  | _ => none }
def fnFiredRow : OpenClaim := { program := "ytjgbncpbenmjoaa", sum := "44619b46005682efabbf8b109f86c7ab0bd10f66ab3dd2bf295a836069116b3e", func := "loop.example/g01049/laws.FnFired", spec := "fnFired", apart := false }
def FnFiredSaid : Prop := fnFiredRow.holds Try.pinned (OpenSpec.ofChange fnFiredSpec)

/-- ITS FALSE NEIGHBOUR: 'it returns false'. Refute it at one input. -/
def fnFiredWrong : ChangeSpec := { name := "fnFired", fn := fun _ => fun
  | [d] => { results := [.lit (.bool false)], args := [d] }
  | _ => none }
def FnFiredWrongFalsely : Prop := fnFiredRow.holds Try.pinned (OpenSpec.ofChange fnFiredWrong)

/-- 'laws.FnEveryFiring': WHATEVER THE INPUT: true; the input reads as it did. -/
def fnEveryFiringSpec : ChangeSpec := { name := "fnEveryFiring", fn := fun _ => fun
  | [d1, d2, d3, d4] => { results := [.lit (.bool true)], args := [d1, d2, d3, d4] }
  | _ => none }
def fnEveryFiringRow : OpenClaim := { program := "ytjgbncpbenmjoaa", sum := "44619b46005682efabbf8b109f86c7ab0bd10f66ab3dd2bf295a836069116b3e", func := "loop.example/g01049/laws.FnEveryFiring", spec := "fnEveryFiring", apart := false }
def FnEveryFiringSaid : Prop := fnEveryFiringRow.holds Try.pinned (OpenSpec.ofChange fnEveryFiringSpec)

/-- ITS FALSE NEIGHBOUR: 'it returns false'. Refute it at one input. -/
def fnEveryFiringWrong : ChangeSpec := { name := "fnEveryFiring", fn := fun _ => fun
  | [d1, d2, d3, d4] => { results := [.lit (.bool false)], args := [d1, d2, d3, d4] }
  | _ => none }
def FnEveryFiringWrongFalsely : Prop := fnEveryFiringRow.holds Try.pinned (OpenSpec.ofChange fnEveryFiringWrong)

/- THE SECOND FORM. 'bulk': how many values and letters a reading holds, each counted each time it is reached (what is shared counts as often as it is met; a slice's spare places count too). A statement '..UptoSaid' is the law's where the arguments, and the package variables that the reading takes, are together of bulk at most 1048576: NARROWER than '..Said'. Prove '..Said' where nothing that the law and all that it calls make is longer than what came in: it says more and counts as full. Else prove '..UptoSaid'. A law counts once. -/
mutual
def uptoBulk {H : Type} : DataW H → Nat
  | .lit (.string bytes) => bytes.length + 1
  | .lit _ => 1
  | .nil => 1
  | .ptr d => uptoBulk d + 1
  | .slice elems spare => uptoBulkAll elems + uptoBulkAll spare + 1
  | .agg parts => uptoBulkAll parts + 1
  | .iface _ d => uptoBulk d + 1
  | .map entries => uptoBulkEntries entries + 1
  | .held _ => 1
def uptoBulkAll {H : Type} : List (DataW H) → Nat
  | [] => 0
  | d :: r => uptoBulk d + uptoBulkAll r
def uptoBulkEntries {H : Type} : List (Lit × DataW H) → Nat
  | [] => 0
  | x :: r => uptoBulkEntry x + uptoBulkEntries r
def uptoBulkEntry {H : Type} : Lit × DataW H → Nat
  | (.string bytes, d) => bytes.length + uptoBulk d + 1
  | (_, d) => uptoBulk d + 1
 end
def uptoSmall : (H : Type) → List (DataW H) → Bool := fun _ ds => decide (uptoBulkAll ds ≤ 1048576)
def OpenSpec.upto (s : _root_.Go.ChangeSpec) : _root_.Go.OpenSpec := { _root_.Go.OpenSpec.ofChange s with cond := some uptoSmall }

/-- 'laws.FnExactAreSignals', WHERE WHAT IT READS IS OF BULK AT MOST 1048576: true; the input reads as it did. -/
def fnExactAreSignalsUptoRow : OpenClaim := { program := "ytjgbncpbenmjoaa", sum := "44619b46005682efabbf8b109f86c7ab0bd10f66ab3dd2bf295a836069116b3e", func := "loop.example/g01049/laws.FnExactAreSignals", spec := "fnExactAreSignals", apart := false, narrowed := true }
def FnExactAreSignalsUptoSaid : Prop := fnExactAreSignalsUptoRow.holds Try.pinned (OpenSpec.upto fnExactAreSignalsSpec)

/-- 'laws.FnExactAddSignal', WHERE WHAT IT READS IS OF BULK AT MOST 1048576: true; the input reads as it did. -/
def fnExactAddSignalUptoRow : OpenClaim := { program := "ytjgbncpbenmjoaa", sum := "44619b46005682efabbf8b109f86c7ab0bd10f66ab3dd2bf295a836069116b3e", func := "loop.example/g01049/laws.FnExactAddSignal", spec := "fnExactAddSignal", apart := false, narrowed := true }
def FnExactAddSignalUptoSaid : Prop := fnExactAddSignalUptoRow.holds Try.pinned (OpenSpec.upto fnExactAddSignalSpec)

/-- 'laws.FnExactFiringTicks', WHERE WHAT IT READS IS OF BULK AT MOST 1048576: true; the input reads as it did. -/
def fnExactFiringTicksUptoRow : OpenClaim := { program := "ytjgbncpbenmjoaa", sum := "44619b46005682efabbf8b109f86c7ab0bd10f66ab3dd2bf295a836069116b3e", func := "loop.example/g01049/laws.FnExactFiringTicks", spec := "fnExactFiringTicks", apart := false, narrowed := true }
def FnExactFiringTicksUptoSaid : Prop := fnExactFiringTicksUptoRow.holds Try.pinned (OpenSpec.upto fnExactFiringTicksSpec)

/-- 'laws.FnExactControllerAt', WHERE WHAT IT READS IS OF BULK AT MOST 1048576: true; the input reads as it did. -/
def fnExactControllerAtUptoRow : OpenClaim := { program := "ytjgbncpbenmjoaa", sum := "44619b46005682efabbf8b109f86c7ab0bd10f66ab3dd2bf295a836069116b3e", func := "loop.example/g01049/laws.FnExactControllerAt", spec := "fnExactControllerAt", apart := false, narrowed := true }
def FnExactControllerAtUptoSaid : Prop := fnExactControllerAtUptoRow.holds Try.pinned (OpenSpec.upto fnExactControllerAtSpec)

/-- 'laws.FnExactRefusedSignals', WHERE WHAT IT READS IS OF BULK AT MOST 1048576: true; the input reads as it did. -/
def fnExactRefusedSignalsUptoRow : OpenClaim := { program := "ytjgbncpbenmjoaa", sum := "44619b46005682efabbf8b109f86c7ab0bd10f66ab3dd2bf295a836069116b3e", func := "loop.example/g01049/laws.FnExactRefusedSignals", spec := "fnExactRefusedSignals", apart := false, narrowed := true }
def FnExactRefusedSignalsUptoSaid : Prop := fnExactRefusedSignalsUptoRow.holds Try.pinned (OpenSpec.upto fnExactRefusedSignalsSpec)

/-- 'laws.FnSignals', WHERE WHAT IT READS IS OF BULK AT MOST 1048576: true; the input reads as it did. -/
def fnSignalsUptoRow : OpenClaim := { program := "ytjgbncpbenmjoaa", sum := "44619b46005682efabbf8b109f86c7ab0bd10f66ab3dd2bf295a836069116b3e", func := "loop.example/g01049/laws.FnSignals", spec := "fnSignals", apart := false, narrowed := true }
def FnSignalsUptoSaid : Prop := fnSignalsUptoRow.holds Try.pinned (OpenSpec.upto fnSignalsSpec)

/-- 'laws.FnExactFiredTicks', WHERE WHAT IT READS IS OF BULK AT MOST 1048576: true; the input reads as it did. -/
def fnExactFiredTicksUptoRow : OpenClaim := { program := "ytjgbncpbenmjoaa", sum := "44619b46005682efabbf8b109f86c7ab0bd10f66ab3dd2bf295a836069116b3e", func := "loop.example/g01049/laws.FnExactFiredTicks", spec := "fnExactFiredTicks", apart := false, narrowed := true }
def FnExactFiredTicksUptoSaid : Prop := fnExactFiredTicksUptoRow.holds Try.pinned (OpenSpec.upto fnExactFiredTicksSpec)

/-- 'laws.FnExactFiredSafely', WHERE WHAT IT READS IS OF BULK AT MOST 1048576: true; the input reads as it did. -/
def fnExactFiredSafelyUptoRow : OpenClaim := { program := "ytjgbncpbenmjoaa", sum := "44619b46005682efabbf8b109f86c7ab0bd10f66ab3dd2bf295a836069116b3e", func := "loop.example/g01049/laws.FnExactFiredSafely", spec := "fnExactFiredSafely", apart := false, narrowed := true }
def FnExactFiredSafelyUptoSaid : Prop := fnExactFiredSafelyUptoRow.holds Try.pinned (OpenSpec.upto fnExactFiredSafelySpec)

/-- 'laws.FnExactMissedCues', WHERE WHAT IT READS IS OF BULK AT MOST 1048576: true; the input reads as it did. -/
def fnExactMissedCuesUptoRow : OpenClaim := { program := "ytjgbncpbenmjoaa", sum := "44619b46005682efabbf8b109f86c7ab0bd10f66ab3dd2bf295a836069116b3e", func := "loop.example/g01049/laws.FnExactMissedCues", spec := "fnExactMissedCues", apart := false, narrowed := true }
def FnExactMissedCuesUptoSaid : Prop := fnExactMissedCuesUptoRow.holds Try.pinned (OpenSpec.upto fnExactMissedCuesSpec)

/-- 'laws.FnFired', WHERE WHAT IT READS IS OF BULK AT MOST 1048576: true; the input reads as it did. -/
def fnFiredUptoRow : OpenClaim := { program := "ytjgbncpbenmjoaa", sum := "44619b46005682efabbf8b109f86c7ab0bd10f66ab3dd2bf295a836069116b3e", func := "loop.example/g01049/laws.FnFired", spec := "fnFired", apart := false, narrowed := true }
def FnFiredUptoSaid : Prop := fnFiredUptoRow.holds Try.pinned (OpenSpec.upto fnFiredSpec)

/-- 'laws.FnEveryFiring', WHERE WHAT IT READS IS OF BULK AT MOST 1048576: true; the input reads as it did. -/
def fnEveryFiringUptoRow : OpenClaim := { program := "ytjgbncpbenmjoaa", sum := "44619b46005682efabbf8b109f86c7ab0bd10f66ab3dd2bf295a836069116b3e", func := "loop.example/g01049/laws.FnEveryFiring", spec := "fnEveryFiring", apart := false, narrowed := true }
def FnEveryFiringUptoSaid : Prop := fnEveryFiringUptoRow.holds Try.pinned (OpenSpec.upto fnEveryFiringSpec)

end Rows
end Go.Proofs.Ytjgbncpbenmjoaa
