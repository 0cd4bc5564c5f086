/-
  No cell of these rows narrows 'for every input' (looked for: loops, veiled, ifaces, maps, wideKeys, modest, calm, conditions, laid).
  DERIVED. THE GIVEN ROWS OF THIS SEAT. 7 by the template 'for every input the law returns true; each argument reads behind the call as it read before'; 0 by the template 'total and deterministic' (their statements: YtiblahniohjbbaaTotals.lean).
  GIVEN WITH THE SEED: the statements are not yours to turn. If you find one false, say at which input.
  Laid BY PROGRAM, IN A SANDBOX (cutbox-rows.mjs): the forced cells as the released guide's own fill.sh prints them over the translation a38120a37b59f0bc… (all of the seat's roots in one cut). By AI agents, Wed Nov 11 2026. No macro, syntax, notation, axiom, sorry.
-/
import Derived.Test.YtiblahniohjbbaaChecked
import GoSem.Claim
import GoSem.ClaimJoined
import GoSem.ClaimMapViews
import Derived.JoinedTies
import Derived.KernelRfl
namespace Go.Proofs.Ytiblahniohjbbaa
/- THE CELL 'sum', in the pinned program and in every row, IS THE sha256 OF THE DUMP (.gsa) THAT YtiblahniohjbbaaProg.lean LOADS. Nothing in Lean hashes anything: it is a label: what it is worth is what the hold of that sum in a sandbox is worth. -/
noncomputable def Try.pinned : Pinned := { name := "ytiblahniohjbbaa", sum := "a38120a37b59f0bc9e9ac68f76c6bd8a62df28096e4d5cd3ecf2574484bb4231", checked := Try.checked }
namespace Rows
def none {H : Type} : Left H := { results := [], args := [] }

/-- 'laws.FnClosures': WHATEVER THE INPUT: true; the input reads as it did. -/
def fnClosuresSpec : ChangeSpec := { name := "fnClosures", fn := fun _ => fun
  | [d] => { results := [.lit (.bool true)], args := [d] }
  | _ => none }
def fnClosuresRow : OpenClaim := { program := "ytiblahniohjbbaa", sum := "a38120a37b59f0bc9e9ac68f76c6bd8a62df28096e4d5cd3ecf2574484bb4231", func := "loop.example/g01049/laws.FnClosures", spec := "fnClosures", recurses := true, apart := false }
def FnClosuresSaid : Prop := fnClosuresRow.holds Try.pinned (OpenSpec.ofChange fnClosuresSpec)

/-- ITS FALSE NEIGHBOUR: 'it returns false'. Refute it at one input. -/
def fnClosuresWrong : ChangeSpec := { name := "fnClosures", fn := fun _ => fun
  | [d] => { results := [.lit (.bool false)], args := [d] }
  | _ => none }
def FnClosuresWrongFalsely : Prop := fnClosuresRow.holds Try.pinned (OpenSpec.ofChange fnClosuresWrong)

/-- 'laws.FnExactNeededAreas': WHATEVER THE INPUT: true; the input reads as it did. -/
def fnExactNeededAreasSpec : ChangeSpec := { name := "fnExactNeededAreas", fn := fun _ => fun
  | [d] => { results := [.lit (.bool true)], args := [d] }
  | _ => none }
def fnExactNeededAreasRow : OpenClaim := { program := "ytiblahniohjbbaa", sum := "a38120a37b59f0bc9e9ac68f76c6bd8a62df28096e4d5cd3ecf2574484bb4231", func := "loop.example/g01049/laws.FnExactNeededAreas", spec := "fnExactNeededAreas", recurses := true, apart := false }
def FnExactNeededAreasSaid : Prop := fnExactNeededAreasRow.holds Try.pinned (OpenSpec.ofChange fnExactNeededAreasSpec)

/-- ITS FALSE NEIGHBOUR: 'it returns false'. Refute it at one input. -/
def fnExactNeededAreasWrong : ChangeSpec := { name := "fnExactNeededAreas", fn := fun _ => fun
  | [d] => { results := [.lit (.bool false)], args := [d] }
  | _ => none }
def FnExactNeededAreasWrongFalsely : Prop := fnExactNeededAreasRow.holds Try.pinned (OpenSpec.ofChange fnExactNeededAreasWrong)

/-- 'laws.FnExactMinimalClosures': WHATEVER THE INPUT: true; the input reads as it did. -/
def fnExactMinimalClosuresSpec : ChangeSpec := { name := "fnExactMinimalClosures", fn := fun _ => fun
  | [d] => { results := [.lit (.bool true)], args := [d] }
  | _ => none }
def fnExactMinimalClosuresRow : OpenClaim := { program := "ytiblahniohjbbaa", sum := "a38120a37b59f0bc9e9ac68f76c6bd8a62df28096e4d5cd3ecf2574484bb4231", func := "loop.example/g01049/laws.FnExactMinimalClosures", spec := "fnExactMinimalClosures", recurses := true, apart := false }
def FnExactMinimalClosuresSaid : Prop := fnExactMinimalClosuresRow.holds Try.pinned (OpenSpec.ofChange fnExactMinimalClosuresSpec)

/-- ITS FALSE NEIGHBOUR: 'it returns false'. Refute it at one input. -/
def fnExactMinimalClosuresWrong : ChangeSpec := { name := "fnExactMinimalClosures", fn := fun _ => fun
  | [d] => { results := [.lit (.bool false)], args := [d] }
  | _ => none }
def FnExactMinimalClosuresWrongFalsely : Prop := fnExactMinimalClosuresRow.holds Try.pinned (OpenSpec.ofChange fnExactMinimalClosuresWrong)

/-- 'laws.FnExactIsClosure': WHATEVER THE INPUT: true; the input reads as it did. -/
def fnExactIsClosureSpec : ChangeSpec := { name := "fnExactIsClosure", fn := fun _ => fun
  | [d1, d2] => { results := [.lit (.bool true)], args := [d1, d2] }
  | _ => none }
def fnExactIsClosureRow : OpenClaim := { program := "ytiblahniohjbbaa", sum := "a38120a37b59f0bc9e9ac68f76c6bd8a62df28096e4d5cd3ecf2574484bb4231", func := "loop.example/g01049/laws.FnExactIsClosure", spec := "fnExactIsClosure", recurses := true, apart := false }
def FnExactIsClosureSaid : Prop := fnExactIsClosureRow.holds Try.pinned (OpenSpec.ofChange fnExactIsClosureSpec)

/-- ITS FALSE NEIGHBOUR: 'it returns false'. Refute it at one input. -/
def fnExactIsClosureWrong : ChangeSpec := { name := "fnExactIsClosure", fn := fun _ => fun
  | [d1, d2] => { results := [.lit (.bool false)], args := [d1, d2] }
  | _ => none }
def FnExactIsClosureWrongFalsely : Prop := fnExactIsClosureRow.holds Try.pinned (OpenSpec.ofChange fnExactIsClosureWrong)

/-- 'laws.FnExactBlockingAreas': WHATEVER THE INPUT: true; the input reads as it did. -/
def fnExactBlockingAreasSpec : ChangeSpec := { name := "fnExactBlockingAreas", fn := fun _ => fun
  | [d] => { results := [.lit (.bool true)], args := [d] }
  | _ => none }
def fnExactBlockingAreasRow : OpenClaim := { program := "ytiblahniohjbbaa", sum := "a38120a37b59f0bc9e9ac68f76c6bd8a62df28096e4d5cd3ecf2574484bb4231", func := "loop.example/g01049/laws.FnExactBlockingAreas", spec := "fnExactBlockingAreas", recurses := true, apart := false }
def FnExactBlockingAreasSaid : Prop := fnExactBlockingAreasRow.holds Try.pinned (OpenSpec.ofChange fnExactBlockingAreasSpec)

/-- ITS FALSE NEIGHBOUR: 'it returns false'. Refute it at one input. -/
def fnExactBlockingAreasWrong : ChangeSpec := { name := "fnExactBlockingAreas", fn := fun _ => fun
  | [d] => { results := [.lit (.bool false)], args := [d] }
  | _ => none }
def FnExactBlockingAreasWrongFalsely : Prop := fnExactBlockingAreasRow.holds Try.pinned (OpenSpec.ofChange fnExactBlockingAreasWrong)

/-- 'laws.FnMinimal': WHATEVER THE INPUT: true; the input reads as it did. -/
def fnMinimalSpec : ChangeSpec := { name := "fnMinimal", fn := fun _ => fun
  | [d] => { results := [.lit (.bool true)], args := [d] }
  | _ => none }
def fnMinimalRow : OpenClaim := { program := "ytiblahniohjbbaa", sum := "a38120a37b59f0bc9e9ac68f76c6bd8a62df28096e4d5cd3ecf2574484bb4231", func := "loop.example/g01049/laws.FnMinimal", spec := "fnMinimal", recurses := true, apart := false }
def FnMinimalSaid : Prop := fnMinimalRow.holds Try.pinned (OpenSpec.ofChange fnMinimalSpec)

/-- ITS FALSE NEIGHBOUR: 'it returns false'. Refute it at one input. -/
def fnMinimalWrong : ChangeSpec := { name := "fnMinimal", fn := fun _ => fun
  | [d] => { results := [.lit (.bool false)], args := [d] }
  | _ => none }
def FnMinimalWrongFalsely : Prop := fnMinimalRow.holds Try.pinned (OpenSpec.ofChange fnMinimalWrong)

/-- 'laws.FnExactSmallestClosure': WHATEVER THE INPUT: true; the input reads as it did. -/
def fnExactSmallestClosureSpec : ChangeSpec := { name := "fnExactSmallestClosure", fn := fun _ => fun
  | [d] => { results := [.lit (.bool true)], args := [d] }
  | _ => none }
def fnExactSmallestClosureRow : OpenClaim := { program := "ytiblahniohjbbaa", sum := "a38120a37b59f0bc9e9ac68f76c6bd8a62df28096e4d5cd3ecf2574484bb4231", func := "loop.example/g01049/laws.FnExactSmallestClosure", spec := "fnExactSmallestClosure", recurses := true, apart := false }
def FnExactSmallestClosureSaid : Prop := fnExactSmallestClosureRow.holds Try.pinned (OpenSpec.ofChange fnExactSmallestClosureSpec)

/-- ITS FALSE NEIGHBOUR: 'it returns false'. Refute it at one input. -/
def fnExactSmallestClosureWrong : ChangeSpec := { name := "fnExactSmallestClosure", fn := fun _ => fun
  | [d] => { results := [.lit (.bool false)], args := [d] }
  | _ => none }
def FnExactSmallestClosureWrongFalsely : Prop := fnExactSmallestClosureRow.holds Try.pinned (OpenSpec.ofChange fnExactSmallestClosureWrong)

/- THE SECOND FORM. 'bulk': how many values and letters a reading holds, each counted each time it is reached (what is shared counts as often as it is met; a slice's spare places count too). A statement '..UptoSaid' is the law's where the arguments, and the package variables that the reading takes, are together of bulk at most 1048576: NARROWER than '..Said'. Prove '..Said' where nothing that the law and all that it calls make is longer than what came in: it says more and counts as full. Else prove '..UptoSaid'. A law counts once. -/
mutual
def uptoBulk {H : Type} : DataW H → Nat
  | .lit (.string bytes) => bytes.length + 1
  | .lit _ => 1
  | .nil => 1
  | .ptr d => uptoBulk d + 1
  | .slice elems spare => uptoBulkAll elems + uptoBulkAll spare + 1
  | .agg parts => uptoBulkAll parts + 1
  | .iface _ d => uptoBulk d + 1
  | .map entries => uptoBulkEntries entries + 1
  | .held _ => 1
def uptoBulkAll {H : Type} : List (DataW H) → Nat
  | [] => 0
  | d :: r => uptoBulk d + uptoBulkAll r
def uptoBulkEntries {H : Type} : List (Lit × DataW H) → Nat
  | [] => 0
  | x :: r => uptoBulkEntry x + uptoBulkEntries r
def uptoBulkEntry {H : Type} : Lit × DataW H → Nat
  | (.string bytes, d) => bytes.length + uptoBulk d + 1
  | (_, d) => uptoBulk d + 1
 end
def uptoSmall : (H : Type) → List (DataW H) → Bool := fun _ ds => decide (uptoBulkAll ds ≤ 1048576)
def OpenSpec.upto (s : _root_.Go.ChangeSpec) : _root_.Go.OpenSpec := { _root_.Go.OpenSpec.ofChange s with cond := some uptoSmall }

/-- 'laws.FnClosures', WHERE WHAT IT READS IS OF BULK AT MOST 1048576: true; the input reads as it did. -/
def fnClosuresUptoRow : OpenClaim := { program := "ytiblahniohjbbaa", sum := "a38120a37b59f0bc9e9ac68f76c6bd8a62df28096e4d5cd3ecf2574484bb4231", func := "loop.example/g01049/laws.FnClosures", spec := "fnClosures", recurses := true, apart := false, narrowed := true }
def FnClosuresUptoSaid : Prop := fnClosuresUptoRow.holds Try.pinned (OpenSpec.upto fnClosuresSpec)

/-- 'laws.FnExactNeededAreas', WHERE WHAT IT READS IS OF BULK AT MOST 1048576: true; the input reads as it did. -/
def fnExactNeededAreasUptoRow : OpenClaim := { program := "ytiblahniohjbbaa", sum := "a38120a37b59f0bc9e9ac68f76c6bd8a62df28096e4d5cd3ecf2574484bb4231", func := "loop.example/g01049/laws.FnExactNeededAreas", spec := "fnExactNeededAreas", recurses := true, apart := false, narrowed := true }
def FnExactNeededAreasUptoSaid : Prop := fnExactNeededAreasUptoRow.holds Try.pinned (OpenSpec.upto fnExactNeededAreasSpec)

/-- 'laws.FnExactMinimalClosures', WHERE WHAT IT READS IS OF BULK AT MOST 1048576: true; the input reads as it did. -/
def fnExactMinimalClosuresUptoRow : OpenClaim := { program := "ytiblahniohjbbaa", sum := "a38120a37b59f0bc9e9ac68f76c6bd8a62df28096e4d5cd3ecf2574484bb4231", func := "loop.example/g01049/laws.FnExactMinimalClosures", spec := "fnExactMinimalClosures", recurses := true, apart := false, narrowed := true }
def FnExactMinimalClosuresUptoSaid : Prop := fnExactMinimalClosuresUptoRow.holds Try.pinned (OpenSpec.upto fnExactMinimalClosuresSpec)

/-- 'laws.FnExactIsClosure', WHERE WHAT IT READS IS OF BULK AT MOST 1048576: true; the input reads as it did. -/
def fnExactIsClosureUptoRow : OpenClaim := { program := "ytiblahniohjbbaa", sum := "a38120a37b59f0bc9e9ac68f76c6bd8a62df28096e4d5cd3ecf2574484bb4231", func := "loop.example/g01049/laws.FnExactIsClosure", spec := "fnExactIsClosure", recurses := true, apart := false, narrowed := true }
def FnExactIsClosureUptoSaid : Prop := fnExactIsClosureUptoRow.holds Try.pinned (OpenSpec.upto fnExactIsClosureSpec)

/-- 'laws.FnExactBlockingAreas', WHERE WHAT IT READS IS OF BULK AT MOST 1048576: true; the input reads as it did. -/
def fnExactBlockingAreasUptoRow : OpenClaim := { program := "ytiblahniohjbbaa", sum := "a38120a37b59f0bc9e9ac68f76c6bd8a62df28096e4d5cd3ecf2574484bb4231", func := "loop.example/g01049/laws.FnExactBlockingAreas", spec := "fnExactBlockingAreas", recurses := true, apart := false, narrowed := true }
def FnExactBlockingAreasUptoSaid : Prop := fnExactBlockingAreasUptoRow.holds Try.pinned (OpenSpec.upto fnExactBlockingAreasSpec)

/-- 'laws.FnMinimal', WHERE WHAT IT READS IS OF BULK AT MOST 1048576: true; the input reads as it did. -/
def fnMinimalUptoRow : OpenClaim := { program := "ytiblahniohjbbaa", sum := "a38120a37b59f0bc9e9ac68f76c6bd8a62df28096e4d5cd3ecf2574484bb4231", func := "loop.example/g01049/laws.FnMinimal", spec := "fnMinimal", recurses := true, apart := false, narrowed := true }
def FnMinimalUptoSaid : Prop := fnMinimalUptoRow.holds Try.pinned (OpenSpec.upto fnMinimalSpec)

/-- 'laws.FnExactSmallestClosure', WHERE WHAT IT READS IS OF BULK AT MOST 1048576: true; the input reads as it did. -/
def fnExactSmallestClosureUptoRow : OpenClaim := { program := "ytiblahniohjbbaa", sum := "a38120a37b59f0bc9e9ac68f76c6bd8a62df28096e4d5cd3ecf2574484bb4231", func := "loop.example/g01049/laws.FnExactSmallestClosure", spec := "fnExactSmallestClosure", recurses := true, apart := false, narrowed := true }
def FnExactSmallestClosureUptoSaid : Prop := fnExactSmallestClosureUptoRow.holds Try.pinned (OpenSpec.upto fnExactSmallestClosureSpec)

end Rows
end Go.Proofs.Ytiblahniohjbbaa
