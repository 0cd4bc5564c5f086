/-
  No cell of these rows narrows 'for every input' (looked for: loops, veiled, ifaces, maps, wideKeys, modest, calm, conditions, laid).
  DERIVED. THE GIVEN ROWS OF THIS SEAT. 11 by the template 'for every input the law returns true; each argument reads behind the call as it read before'; 0 by the template 'total and deterministic' (their statements: YtapcjchgcppanaaTotals.lean).
  GIVEN WITH THE SEED: the statements are not yours to turn. If you find one false, say at which input.
  Laid BY PROGRAM, IN A SANDBOX (cutbox-rows.mjs): the forced cells as the released guide's own fill.sh prints them over the translation cab721d344effaaa… (all of the seat's roots in one cut). By AI agents, Wed Nov 11 2026. No macro, syntax, notation, axiom, sorry.
-/
import Derived.Test.YtapcjchgcppanaaChecked
import GoSem.Claim
import GoSem.ClaimJoined
import GoSem.ClaimMapViews
import Derived.JoinedTies
import Derived.KernelRfl
namespace Go.Proofs.Ytapcjchgcppanaa
/- THE CELL 'sum', in the pinned program and in every row, IS THE sha256 OF THE DUMP (.gsa) THAT YtapcjchgcppanaaProg.lean LOADS. Nothing in Lean hashes anything: it is a label: what it is worth is what the hold of that sum in a sandbox is worth. -/
noncomputable def Try.pinned : Pinned := { name := "ytapcjchgcppanaa", sum := "cab721d344effaaa5d9f2ed11e85c3bc8b517b3ea6ea8b5c4e02a9f013a84733", checked := Try.checked }
namespace Rows
def none {H : Type} : Left H := { results := [], args := [] }

/-- 'laws.FnExactIsSound': WHATEVER THE INPUT: true; the input reads as it did. -/
def fnExactIsSoundSpec : ChangeSpec := { name := "fnExactIsSound", fn := fun _ => fun
  | [d] => { results := [.lit (.bool true)], args := [d] }
  | _ => none }
def fnExactIsSoundRow : OpenClaim := { program := "ytapcjchgcppanaa", sum := "cab721d344effaaa5d9f2ed11e85c3bc8b517b3ea6ea8b5c4e02a9f013a84733", func := "loop.example/g01049/laws.FnExactIsSound", spec := "fnExactIsSound", apart := false }
def FnExactIsSoundSaid : Prop := fnExactIsSoundRow.holds Try.pinned (OpenSpec.ofChange fnExactIsSoundSpec)

/-- ITS FALSE NEIGHBOUR: 'it returns false'. Refute it at one input. -/
def fnExactIsSoundWrong : ChangeSpec := { name := "fnExactIsSound", fn := fun _ => fun
  | [d] => { results := [.lit (.bool false)], args := [d] }
  | _ => none }
def FnExactIsSoundWrongFalsely : Prop := fnExactIsSoundRow.holds Try.pinned (OpenSpec.ofChange fnExactIsSoundWrong)

/-- 'laws.FnExactMayFire': WHATEVER THE INPUT: true; the input reads as it did. -/
def fnExactMayFireSpec : ChangeSpec := { name := "fnExactMayFire", fn := fun _ => fun
  | [d] => { results := [.lit (.bool true)], args := [d] }
  | _ => none }
def fnExactMayFireRow : OpenClaim := { program := "ytapcjchgcppanaa", sum := "cab721d344effaaa5d9f2ed11e85c3bc8b517b3ea6ea8b5c4e02a9f013a84733", func := "loop.example/g01049/laws.FnExactMayFire", spec := "fnExactMayFire", apart := false }
def FnExactMayFireSaid : Prop := fnExactMayFireRow.holds Try.pinned (OpenSpec.ofChange fnExactMayFireSpec)

/-- ITS FALSE NEIGHBOUR: 'it returns false'. Refute it at one input. -/
def fnExactMayFireWrong : ChangeSpec := { name := "fnExactMayFire", fn := fun _ => fun
  | [d] => { results := [.lit (.bool false)], args := [d] }
  | _ => none }
def FnExactMayFireWrongFalsely : Prop := fnExactMayFireRow.holds Try.pinned (OpenSpec.ofChange fnExactMayFireWrong)

/-- 'laws.FnExactTicksLeft': WHATEVER THE INPUT: true; the input reads as it did. -/
def fnExactTicksLeftSpec : ChangeSpec := { name := "fnExactTicksLeft", fn := fun _ => fun
  | [d] => { results := [.lit (.bool true)], args := [d] }
  | _ => none }
def fnExactTicksLeftRow : OpenClaim := { program := "ytapcjchgcppanaa", sum := "cab721d344effaaa5d9f2ed11e85c3bc8b517b3ea6ea8b5c4e02a9f013a84733", func := "loop.example/g01049/laws.FnExactTicksLeft", spec := "fnExactTicksLeft", apart := false }
def FnExactTicksLeftSaid : Prop := fnExactTicksLeftRow.holds Try.pinned (OpenSpec.ofChange fnExactTicksLeftSpec)

/-- ITS FALSE NEIGHBOUR: 'it returns false'. Refute it at one input. -/
def fnExactTicksLeftWrong : ChangeSpec := { name := "fnExactTicksLeft", fn := fun _ => fun
  | [d] => { results := [.lit (.bool false)], args := [d] }
  | _ => none }
def FnExactTicksLeftWrongFalsely : Prop := fnExactTicksLeftRow.holds Try.pinned (OpenSpec.ofChange fnExactTicksLeftWrong)

/-- 'laws.FnExactReadInputs': WHATEVER THE INPUT: true; the input reads as it did. -/
def fnExactReadInputsSpec : ChangeSpec := { name := "fnExactReadInputs", fn := fun _ => fun
  | [d] => { results := [.lit (.bool true)], args := [d] }
  | _ => none }
def fnExactReadInputsRow : OpenClaim := { program := "ytapcjchgcppanaa", sum := "cab721d344effaaa5d9f2ed11e85c3bc8b517b3ea6ea8b5c4e02a9f013a84733", func := "loop.example/g01049/laws.FnExactReadInputs", spec := "fnExactReadInputs", apart := false }
def FnExactReadInputsSaid : Prop := fnExactReadInputsRow.holds Try.pinned (OpenSpec.ofChange fnExactReadInputsSpec)

/-- ITS FALSE NEIGHBOUR: 'it returns false'. Refute it at one input. -/
def fnExactReadInputsWrong : ChangeSpec := { name := "fnExactReadInputs", fn := fun _ => fun
  | [d] => { results := [.lit (.bool false)], args := [d] }
  | _ => none }
def FnExactReadInputsWrongFalsely : Prop := fnExactReadInputsRow.holds Try.pinned (OpenSpec.ofChange fnExactReadInputsWrong)

/-- 'laws.FnExactInputsText': WHATEVER THE INPUT: true; the input reads as it did. -/
def fnExactInputsTextSpec : ChangeSpec := { name := "fnExactInputsText", fn := fun _ => fun
  | [d] => { results := [.lit (.bool true)], args := [d] }
  | _ => none }
def fnExactInputsTextRow : OpenClaim := { program := "ytapcjchgcppanaa", sum := "cab721d344effaaa5d9f2ed11e85c3bc8b517b3ea6ea8b5c4e02a9f013a84733", func := "loop.example/g01049/laws.FnExactInputsText", spec := "fnExactInputsText", apart := false }
def FnExactInputsTextSaid : Prop := fnExactInputsTextRow.holds Try.pinned (OpenSpec.ofChange fnExactInputsTextSpec)

/-- ITS FALSE NEIGHBOUR: 'it returns false'. Refute it at one input. -/
def fnExactInputsTextWrong : ChangeSpec := { name := "fnExactInputsText", fn := fun _ => fun
  | [d] => { results := [.lit (.bool false)], args := [d] }
  | _ => none }
def FnExactInputsTextWrongFalsely : Prop := fnExactInputsTextRow.holds Try.pinned (OpenSpec.ofChange fnExactInputsTextWrong)

/-- 'laws.FnExactGiveInput': WHATEVER THE INPUT: true; the input reads as it did. -/
def fnExactGiveInputSpec : ChangeSpec := { name := "fnExactGiveInput", fn := fun _ => fun
  | [d1, d2] => { results := [.lit (.bool true)], args := [d1, d2] }
  | _ => none }
def fnExactGiveInputRow : OpenClaim := { program := "ytapcjchgcppanaa", sum := "cab721d344effaaa5d9f2ed11e85c3bc8b517b3ea6ea8b5c4e02a9f013a84733", func := "loop.example/g01049/laws.FnExactGiveInput", spec := "fnExactGiveInput", apart := false }
def FnExactGiveInputSaid : Prop := fnExactGiveInputRow.holds Try.pinned (OpenSpec.ofChange fnExactGiveInputSpec)

/-- ITS FALSE NEIGHBOUR: 'it returns false'. Refute it at one input. -/
def fnExactGiveInputWrong : ChangeSpec := { name := "fnExactGiveInput", fn := fun _ => fun
  | [d1, d2] => { results := [.lit (.bool false)], args := [d1, d2] }
  | _ => none }
def FnExactGiveInputWrongFalsely : Prop := fnExactGiveInputRow.holds Try.pinned (OpenSpec.ofChange fnExactGiveInputWrong)

/-- 'laws.FnExactAllowedInputs': WHATEVER THE INPUT: true; the input reads as it did. -/
def fnExactAllowedInputsSpec : ChangeSpec := { name := "fnExactAllowedInputs", fn := fun _ => fun
  | [d] => { results := [.lit (.bool true)], args := [d] }
  | _ => none }
def fnExactAllowedInputsRow : OpenClaim := { program := "ytapcjchgcppanaa", sum := "cab721d344effaaa5d9f2ed11e85c3bc8b517b3ea6ea8b5c4e02a9f013a84733", func := "loop.example/g01049/laws.FnExactAllowedInputs", spec := "fnExactAllowedInputs", apart := false }
def FnExactAllowedInputsSaid : Prop := fnExactAllowedInputsRow.holds Try.pinned (OpenSpec.ofChange fnExactAllowedInputsSpec)

/-- ITS FALSE NEIGHBOUR: 'it returns false'. Refute it at one input. -/
def fnExactAllowedInputsWrong : ChangeSpec := { name := "fnExactAllowedInputs", fn := fun _ => fun
  | [d] => { results := [.lit (.bool false)], args := [d] }
  | _ => none }
def FnExactAllowedInputsWrongFalsely : Prop := fnExactAllowedInputsRow.holds Try.pinned (OpenSpec.ofChange fnExactAllowedInputsWrong)

/-- 'laws.FnInputTexts': WHATEVER THE INPUT: true; the input reads as it did. -/
def fnInputTextsSpec : ChangeSpec := { name := "fnInputTexts", fn := fun _ => fun
  | [d] => { results := [.lit (.bool true)], args := [d] }
  | _ => none }
def fnInputTextsRow : OpenClaim := { program := "ytapcjchgcppanaa", sum := "cab721d344effaaa5d9f2ed11e85c3bc8b517b3ea6ea8b5c4e02a9f013a84733", func := "loop.example/g01049/laws.FnInputTexts", spec := "fnInputTexts", apart := false }
def FnInputTextsSaid : Prop := fnInputTextsRow.holds Try.pinned (OpenSpec.ofChange fnInputTextsSpec)

/-- ITS FALSE NEIGHBOUR: 'it returns false'. Refute it at one input. -/
def fnInputTextsWrong : ChangeSpec := { name := "fnInputTexts", fn := fun _ => fun
  | [d] => { results := [.lit (.bool false)], args := [d] }
  | _ => none }
def FnInputTextsWrongFalsely : Prop := fnInputTextsRow.holds Try.pinned (OpenSpec.ofChange fnInputTextsWrong)

/-- 'laws.FnExactGiveInputs': WHATEVER THE INPUT: true; the input reads as it did. -/
def fnExactGiveInputsSpec : ChangeSpec := { name := "fnExactGiveInputs", fn := fun _ => fun
  | [d1, d2] => { results := [.lit (.bool true)], args := [d1, d2] }
  | _ => none }
def fnExactGiveInputsRow : OpenClaim := { program := "ytapcjchgcppanaa", sum := "cab721d344effaaa5d9f2ed11e85c3bc8b517b3ea6ea8b5c4e02a9f013a84733", func := "loop.example/g01049/laws.FnExactGiveInputs", spec := "fnExactGiveInputs", apart := false }
def FnExactGiveInputsSaid : Prop := fnExactGiveInputsRow.holds Try.pinned (OpenSpec.ofChange fnExactGiveInputsSpec)

/-- ITS FALSE NEIGHBOUR: 'it returns false'. Refute it at one input. -/
def fnExactGiveInputsWrong : ChangeSpec := { name := "fnExactGiveInputs", fn := fun _ => fun
  | [d1, d2] => { results := [.lit (.bool false)], args := [d1, d2] }
  | _ => none }
def FnExactGiveInputsWrongFalsely : Prop := fnExactGiveInputsRow.holds Try.pinned (OpenSpec.ofChange fnExactGiveInputsWrong)

/-- 'laws.FnControllers': WHATEVER THE INPUT: true; the input reads as it did. -/
def fnControllersSpec : ChangeSpec := { name := "fnControllers", fn := fun _ => fun
  | [d] => { results := [.lit (.bool true)], args := [d] }
  | _ => none }
def fnControllersRow : OpenClaim := { program := "ytapcjchgcppanaa", sum := "cab721d344effaaa5d9f2ed11e85c3bc8b517b3ea6ea8b5c4e02a9f013a84733", func := "loop.example/g01049/laws.FnControllers", spec := "fnControllers", apart := false }
def FnControllersSaid : Prop := fnControllersRow.holds Try.pinned (OpenSpec.ofChange fnControllersSpec)

/-- ITS FALSE NEIGHBOUR: 'it returns false'. Refute it at one input. -/
def fnControllersWrong : ChangeSpec := { name := "fnControllers", fn := fun _ => fun
  | [d] => { results := [.lit (.bool false)], args := [d] }
  | _ => none }
def FnControllersWrongFalsely : Prop := fnControllersRow.holds Try.pinned (OpenSpec.ofChange fnControllersWrong)

/-- 'laws.FnInputs': WHATEVER THE INPUT: true; the input reads as it did. -/
def fnInputsSpec : ChangeSpec := { name := "fnInputs", fn := fun _ => fun
  | [d] => { results := [.lit (.bool true)], args := [d] }
  | _ => none }
def fnInputsRow : OpenClaim := { program := "ytapcjchgcppanaa", sum := "cab721d344effaaa5d9f2ed11e85c3bc8b517b3ea6ea8b5c4e02a9f013a84733", func := "loop.example/g01049/laws.FnInputs", spec := "fnInputs", apart := false }
def FnInputsSaid : Prop := fnInputsRow.holds Try.pinned (OpenSpec.ofChange fnInputsSpec)

/-- ITS FALSE NEIGHBOUR: 'it returns false'. Refute it at one input. -/
def fnInputsWrong : ChangeSpec := { name := "fnInputs", fn := fun _ => fun
  | [d] => { results := [.lit (.bool false)], args := [d] }
  | _ => none }
def FnInputsWrongFalsely : Prop := fnInputsRow.holds Try.pinned (OpenSpec.ofChange fnInputsWrong)

/- THE SECOND FORM. 'bulk': how many values and letters a reading holds, each counted each time it is reached (what is shared counts as often as it is met; a slice's spare places count too). A statement '..UptoSaid' is the law's where the arguments, and the package variables that the reading takes, are together of bulk at most 1048576: NARROWER than '..Said'. Prove '..Said' where nothing that the law and all that it calls make is longer than what came in: it says more and counts as full. Else prove '..UptoSaid'. A law counts once. -/
mutual
def uptoBulk {H : Type} : DataW H → Nat
  | .lit (.string bytes) => bytes.length + 1
  | .lit _ => 1
  | .nil => 1
  | .ptr d => uptoBulk d + 1
  | .slice elems spare => uptoBulkAll elems + uptoBulkAll spare + 1
  | .agg parts => uptoBulkAll parts + 1
  | .iface _ d => uptoBulk d + 1
  | .map entries => uptoBulkEntries entries + 1
  | .held _ => 1
def uptoBulkAll {H : Type} : List (DataW H) → Nat
  | [] => 0
  | d :: r => uptoBulk d + uptoBulkAll r
def uptoBulkEntries {H : Type} : List (Lit × DataW H) → Nat
  | [] => 0
  | x :: r => uptoBulkEntry x + uptoBulkEntries r
def uptoBulkEntry {H : Type} : Lit × DataW H → Nat
  | (.string bytes, d) => bytes.length + uptoBulk d + 1
  | (_, d) => uptoBulk d + 1
 end
def uptoSmall : (H : Type) → List (DataW H) → Bool := fun _ ds => decide (uptoBulkAll ds ≤ 1048576)
def OpenSpec.upto (s : _root_.Go.ChangeSpec) : _root_.Go.OpenSpec := { _root_.Go.OpenSpec.ofChange s with cond := some uptoSmall }

/-- 'laws.FnExactIsSound', WHERE WHAT IT READS IS OF BULK AT MOST 1048576: true; the input reads as it did. -/
def fnExactIsSoundUptoRow : OpenClaim := { program := "ytapcjchgcppanaa", sum := "cab721d344effaaa5d9f2ed11e85c3bc8b517b3ea6ea8b5c4e02a9f013a84733", func := "loop.example/g01049/laws.FnExactIsSound", spec := "fnExactIsSound", apart := false, narrowed := true }
def FnExactIsSoundUptoSaid : Prop := fnExactIsSoundUptoRow.holds Try.pinned (OpenSpec.upto fnExactIsSoundSpec)

/-- 'laws.FnExactMayFire', WHERE WHAT IT READS IS OF BULK AT MOST 1048576: true; the input reads as it did. -/
def fnExactMayFireUptoRow : OpenClaim := { program := "ytapcjchgcppanaa", sum := "cab721d344effaaa5d9f2ed11e85c3bc8b517b3ea6ea8b5c4e02a9f013a84733", func := "loop.example/g01049/laws.FnExactMayFire", spec := "fnExactMayFire", apart := false, narrowed := true }
def FnExactMayFireUptoSaid : Prop := fnExactMayFireUptoRow.holds Try.pinned (OpenSpec.upto fnExactMayFireSpec)

/-- 'laws.FnExactTicksLeft', WHERE WHAT IT READS IS OF BULK AT MOST 1048576: true; the input reads as it did. -/
def fnExactTicksLeftUptoRow : OpenClaim := { program := "ytapcjchgcppanaa", sum := "cab721d344effaaa5d9f2ed11e85c3bc8b517b3ea6ea8b5c4e02a9f013a84733", func := "loop.example/g01049/laws.FnExactTicksLeft", spec := "fnExactTicksLeft", apart := false, narrowed := true }
def FnExactTicksLeftUptoSaid : Prop := fnExactTicksLeftUptoRow.holds Try.pinned (OpenSpec.upto fnExactTicksLeftSpec)

/-- 'laws.FnExactReadInputs', WHERE WHAT IT READS IS OF BULK AT MOST 1048576: true; the input reads as it did. -/
def fnExactReadInputsUptoRow : OpenClaim := { program := "ytapcjchgcppanaa", sum := "cab721d344effaaa5d9f2ed11e85c3bc8b517b3ea6ea8b5c4e02a9f013a84733", func := "loop.example/g01049/laws.FnExactReadInputs", spec := "fnExactReadInputs", apart := false, narrowed := true }
def FnExactReadInputsUptoSaid : Prop := fnExactReadInputsUptoRow.holds Try.pinned (OpenSpec.upto fnExactReadInputsSpec)

/-- 'laws.FnExactInputsText', WHERE WHAT IT READS IS OF BULK AT MOST 1048576: true; the input reads as it did. -/
def fnExactInputsTextUptoRow : OpenClaim := { program := "ytapcjchgcppanaa", sum := "cab721d344effaaa5d9f2ed11e85c3bc8b517b3ea6ea8b5c4e02a9f013a84733", func := "loop.example/g01049/laws.FnExactInputsText", spec := "fnExactInputsText", apart := false, narrowed := true }
def FnExactInputsTextUptoSaid : Prop := fnExactInputsTextUptoRow.holds Try.pinned (OpenSpec.upto fnExactInputsTextSpec)

/-- 'laws.FnExactGiveInput', WHERE WHAT IT READS IS OF BULK AT MOST 1048576: true; the input reads as it did. -/
def fnExactGiveInputUptoRow : OpenClaim := { program := "ytapcjchgcppanaa", sum := "cab721d344effaaa5d9f2ed11e85c3bc8b517b3ea6ea8b5c4e02a9f013a84733", func := "loop.example/g01049/laws.FnExactGiveInput", spec := "fnExactGiveInput", apart := false, narrowed := true }
def FnExactGiveInputUptoSaid : Prop := fnExactGiveInputUptoRow.holds Try.pinned (OpenSpec.upto fnExactGiveInputSpec)

/-- 'laws.FnExactAllowedInputs', WHERE WHAT IT READS IS OF BULK AT MOST 1048576: true; the input reads as it did. -/
def fnExactAllowedInputsUptoRow : OpenClaim := { program := "ytapcjchgcppanaa", sum := "cab721d344effaaa5d9f2ed11e85c3bc8b517b3ea6ea8b5c4e02a9f013a84733", func := "loop.example/g01049/laws.FnExactAllowedInputs", spec := "fnExactAllowedInputs", apart := false, narrowed := true }
def FnExactAllowedInputsUptoSaid : Prop := fnExactAllowedInputsUptoRow.holds Try.pinned (OpenSpec.upto fnExactAllowedInputsSpec)

/-- 'laws.FnInputTexts', WHERE WHAT IT READS IS OF BULK AT MOST 1048576: true; the input reads as it did. -/
def fnInputTextsUptoRow : OpenClaim := { program := "ytapcjchgcppanaa", sum := "cab721d344effaaa5d9f2ed11e85c3bc8b517b3ea6ea8b5c4e02a9f013a84733", func := "loop.example/g01049/laws.FnInputTexts", spec := "fnInputTexts", apart := false, narrowed := true }
def FnInputTextsUptoSaid : Prop := fnInputTextsUptoRow.holds Try.pinned (OpenSpec.upto fnInputTextsSpec)

/-- 'laws.FnExactGiveInputs', WHERE WHAT IT READS IS OF BULK AT MOST 1048576: true; the input reads as it did. -/
def fnExactGiveInputsUptoRow : OpenClaim := { program := "ytapcjchgcppanaa", sum := "cab721d344effaaa5d9f2ed11e85c3bc8b517b3ea6ea8b5c4e02a9f013a84733", func := "loop.example/g01049/laws.FnExactGiveInputs", spec := "fnExactGiveInputs", apart := false, narrowed := true }
def FnExactGiveInputsUptoSaid : Prop := fnExactGiveInputsUptoRow.holds Try.pinned (OpenSpec.upto fnExactGiveInputsSpec)

/-- 'laws.FnControllers', WHERE WHAT IT READS IS OF BULK AT MOST 1048576: true; the input reads as it did. -/
def fnControllersUptoRow : OpenClaim := { program := "ytapcjchgcppanaa", sum := "cab721d344effaaa5d9f2ed11e85c3bc8b517b3ea6ea8b5c4e02a9f013a84733", func := "loop.example/g01049/laws.FnControllers", spec := "fnControllers", apart := false, narrowed := true }
def FnControllersUptoSaid : Prop := fnControllersUptoRow.holds Try.pinned (OpenSpec.upto fnControllersSpec)

/-- 'laws.FnInputs', WHERE WHAT IT READS IS OF BULK AT MOST 1048576: true; the input reads as it did. -/
def fnInputsUptoRow : OpenClaim := { program := "ytapcjchgcppanaa", sum := "cab721d344effaaa5d9f2ed11e85c3bc8b517b3ea6ea8b5c4e02a9f013a84733", func := "loop.example/g01049/laws.FnInputs", spec := "fnInputs", apart := false, narrowed := true }
def FnInputsUptoSaid : Prop := fnInputsUptoRow.holds Try.pinned (OpenSpec.upto fnInputsSpec)

end Rows
end Go.Proofs.Ytapcjchgcppanaa
