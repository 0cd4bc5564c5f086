/-
  No cell of these rows narrows 'for every input' (looked for: loops, veiled, ifaces, maps, wideKeys, modest, calm, conditions, laid).
  DERIVED. THE GIVEN ROWS OF THIS SEAT. 9 by the template 'for every input the law returns true; each argument reads behind the call as it read before'; 0 by the template 'total and deterministic' (their statements: YtnfmfebmjlglgaaTotals.lean).
  GIVEN WITH THE SEED: the statements are not yours to turn. If you find one false, say at which input.
  Laid BY PROGRAM, IN A SANDBOX (cutbox-rows.mjs): the forced cells as the released guide's own fill.sh prints them over the translation b237534e17682bed… (all of the seat's roots in one cut). By AI agents, Wed Nov 11 2026. No macro, syntax, notation, axiom, sorry.
-/
import Derived.Test.YtnfmfebmjlglgaaChecked
import GoSem.Claim
import GoSem.ClaimJoined
import GoSem.ClaimMapViews
import Derived.JoinedTies
import Derived.KernelRfl
namespace Go.Proofs.Ytnfmfebmjlglgaa
/- THE CELL 'sum', in the pinned program and in every row, IS THE sha256 OF THE DUMP (.gsa) THAT YtnfmfebmjlglgaaProg.lean LOADS. Nothing in Lean hashes anything: it is a label: what it is worth is what the hold of that sum in a sandbox is worth. -/
noncomputable def Try.pinned : Pinned := { name := "ytnfmfebmjlglgaa", sum := "b237534e17682bedebf6cf3821a83c9ee3ded9768a254f58f82176b5fb6ec66a", checked := Try.checked }
namespace Rows
def none {H : Type} : Left H := { results := [], args := [] }

/-- 'laws.FnExactEmptyTubes': WHATEVER THE INPUT: true; the input reads as it did. -/
def fnExactEmptyTubesSpec : ChangeSpec := { name := "fnExactEmptyTubes", fn := fun _ => fun
  | [d1, d2] => { results := [.lit (.bool true)], args := [d1, d2] }
  | _ => none }
def fnExactEmptyTubesRow : OpenClaim := { program := "ytnfmfebmjlglgaa", sum := "b237534e17682bedebf6cf3821a83c9ee3ded9768a254f58f82176b5fb6ec66a", func := "loop.example/g01049/laws.FnExactEmptyTubes", spec := "fnExactEmptyTubes", apart := false }
def FnExactEmptyTubesSaid : Prop := fnExactEmptyTubesRow.holds Try.pinned (OpenSpec.ofChange fnExactEmptyTubesSpec)

/-- ITS FALSE NEIGHBOUR: 'it returns false'. Refute it at one input. -/
def fnExactEmptyTubesWrong : ChangeSpec := { name := "fnExactEmptyTubes", fn := fun _ => fun
  | [d1, d2] => { results := [.lit (.bool false)], args := [d1, d2] }
  | _ => none }
def FnExactEmptyTubesWrongFalsely : Prop := fnExactEmptyTubesRow.holds Try.pinned (OpenSpec.ofChange fnExactEmptyTubesWrong)

/-- 'laws.FnExactCountLoads': WHATEVER THE INPUT: true; the input reads as it did. -/
def fnExactCountLoadsSpec : ChangeSpec := { name := "fnExactCountLoads", fn := fun _ => fun
  | [d1, d2] => { results := [.lit (.bool true)], args := [d1, d2] }
  | _ => none }
def fnExactCountLoadsRow : OpenClaim := { program := "ytnfmfebmjlglgaa", sum := "b237534e17682bedebf6cf3821a83c9ee3ded9768a254f58f82176b5fb6ec66a", func := "loop.example/g01049/laws.FnExactCountLoads", spec := "fnExactCountLoads", apart := false }
def FnExactCountLoadsSaid : Prop := fnExactCountLoadsRow.holds Try.pinned (OpenSpec.ofChange fnExactCountLoadsSpec)

/-- ITS FALSE NEIGHBOUR: 'it returns false'. Refute it at one input. -/
def fnExactCountLoadsWrong : ChangeSpec := { name := "fnExactCountLoads", fn := fun _ => fun
  | [d1, d2] => { results := [.lit (.bool false)], args := [d1, d2] }
  | _ => none }
def FnExactCountLoadsWrongFalsely : Prop := fnExactCountLoadsRow.holds Try.pinned (OpenSpec.ofChange fnExactCountLoadsWrong)

/-- 'laws.FnExactTubesFor': WHATEVER THE INPUT: true; the input reads as it did. -/
def fnExactTubesForSpec : ChangeSpec := { name := "fnExactTubesFor", fn := fun _ => fun
  | [d1, d2, d3] => { results := [.lit (.bool true)], args := [d1, d2, d3] }
  | _ => none }
def fnExactTubesForRow : OpenClaim := { program := "ytnfmfebmjlglgaa", sum := "b237534e17682bedebf6cf3821a83c9ee3ded9768a254f58f82176b5fb6ec66a", func := "loop.example/g01049/laws.FnExactTubesFor", spec := "fnExactTubesFor", apart := false }
def FnExactTubesForSaid : Prop := fnExactTubesForRow.holds Try.pinned (OpenSpec.ofChange fnExactTubesForSpec)

/-- ITS FALSE NEIGHBOUR: 'it returns false'. Refute it at one input. -/
def fnExactTubesForWrong : ChangeSpec := { name := "fnExactTubesFor", fn := fun _ => fun
  | [d1, d2, d3] => { results := [.lit (.bool false)], args := [d1, d2, d3] }
  | _ => none }
def FnExactTubesForWrongFalsely : Prop := fnExactTubesForRow.holds Try.pinned (OpenSpec.ofChange fnExactTubesForWrong)

/-- 'laws.FnExactUnloadTube': WHATEVER THE INPUT: true; the input reads as it did. -/
def fnExactUnloadTubeSpec : ChangeSpec := { name := "fnExactUnloadTube", fn := fun _ => fun
  | [d1, d2, d3] => { results := [.lit (.bool true)], args := [d1, d2, d3] }
  | _ => none }
def fnExactUnloadTubeRow : OpenClaim := { program := "ytnfmfebmjlglgaa", sum := "b237534e17682bedebf6cf3821a83c9ee3ded9768a254f58f82176b5fb6ec66a", func := "loop.example/g01049/laws.FnExactUnloadTube", spec := "fnExactUnloadTube", apart := false }
def FnExactUnloadTubeSaid : Prop := fnExactUnloadTubeRow.holds Try.pinned (OpenSpec.ofChange fnExactUnloadTubeSpec)

/-- ITS FALSE NEIGHBOUR: 'it returns false'. Refute it at one input. -/
def fnExactUnloadTubeWrong : ChangeSpec := { name := "fnExactUnloadTube", fn := fun _ => fun
  | [d1, d2, d3] => { results := [.lit (.bool false)], args := [d1, d2, d3] }
  | _ => none }
def FnExactUnloadTubeWrongFalsely : Prop := fnExactUnloadTubeRow.holds Try.pinned (OpenSpec.ofChange fnExactUnloadTubeWrong)

/-- 'laws.FnExactLoadTube': WHATEVER THE INPUT: true; the input reads as it did. -/
def fnExactLoadTubeSpec : ChangeSpec := { name := "fnExactLoadTube", fn := fun _ => fun
  | [d1, d2, d3, d4] => { results := [.lit (.bool true)], args := [d1, d2, d3, d4] }
  | _ => none }
def fnExactLoadTubeRow : OpenClaim := { program := "ytnfmfebmjlglgaa", sum := "b237534e17682bedebf6cf3821a83c9ee3ded9768a254f58f82176b5fb6ec66a", func := "loop.example/g01049/laws.FnExactLoadTube", spec := "fnExactLoadTube", apart := false }
def FnExactLoadTubeSaid : Prop := fnExactLoadTubeRow.holds Try.pinned (OpenSpec.ofChange fnExactLoadTubeSpec)

/-- ITS FALSE NEIGHBOUR: 'it returns false'. Refute it at one input. -/
def fnExactLoadTubeWrong : ChangeSpec := { name := "fnExactLoadTube", fn := fun _ => fun
  | [d1, d2, d3, d4] => { results := [.lit (.bool false)], args := [d1, d2, d3, d4] }
  | _ => none }
def FnExactLoadTubeWrongFalsely : Prop := fnExactLoadTubeRow.holds Try.pinned (OpenSpec.ofChange fnExactLoadTubeWrong)

/-- 'laws.FnExactLoadBest': WHATEVER THE INPUT: true; the input reads as it did. -/
def fnExactLoadBestSpec : ChangeSpec := { name := "fnExactLoadBest", fn := fun _ => fun
  | [d1, d2, d3] => { results := [.lit (.bool true)], args := [d1, d2, d3] }
  | _ => none }
def fnExactLoadBestRow : OpenClaim := { program := "ytnfmfebmjlglgaa", sum := "b237534e17682bedebf6cf3821a83c9ee3ded9768a254f58f82176b5fb6ec66a", func := "loop.example/g01049/laws.FnExactLoadBest", spec := "fnExactLoadBest", apart := false }
def FnExactLoadBestSaid : Prop := fnExactLoadBestRow.holds Try.pinned (OpenSpec.ofChange fnExactLoadBestSpec)

/-- ITS FALSE NEIGHBOUR: 'it returns false'. Refute it at one input. -/
def fnExactLoadBestWrong : ChangeSpec := { name := "fnExactLoadBest", fn := fun _ => fun
  | [d1, d2, d3] => { results := [.lit (.bool false)], args := [d1, d2, d3] }
  | _ => none }
def FnExactLoadBestWrongFalsely : Prop := fnExactLoadBestRow.holds Try.pinned (OpenSpec.ofChange fnExactLoadBestWrong)

/-- 'laws.FnRacks': WHATEVER THE INPUT: true; the input reads as it did. -/
def fnRacksSpec : ChangeSpec := { name := "fnRacks", fn := fun _ => fun
  | [d] => { results := [.lit (.bool true)], args := [d] }
  | _ => none }
def fnRacksRow : OpenClaim := { program := "ytnfmfebmjlglgaa", sum := "b237534e17682bedebf6cf3821a83c9ee3ded9768a254f58f82176b5fb6ec66a", func := "loop.example/g01049/laws.FnRacks", spec := "fnRacks", apart := false }
def FnRacksSaid : Prop := fnRacksRow.holds Try.pinned (OpenSpec.ofChange fnRacksSpec)

/-- ITS FALSE NEIGHBOUR: 'it returns false'. Refute it at one input. -/
def fnRacksWrong : ChangeSpec := { name := "fnRacks", fn := fun _ => fun
  | [d] => { results := [.lit (.bool false)], args := [d] }
  | _ => none }
def FnRacksWrongFalsely : Prop := fnRacksRow.holds Try.pinned (OpenSpec.ofChange fnRacksWrong)

/-- 'laws.FnLoaded': WHATEVER THE INPUT: true; the input reads as it did. -/
def fnLoadedSpec : ChangeSpec := { name := "fnLoaded", fn := fun _ => fun
  | [d] => { results := [.lit (.bool true)], args := [d] }
  | _ => none }
def fnLoadedRow : OpenClaim := { program := "ytnfmfebmjlglgaa", sum := "b237534e17682bedebf6cf3821a83c9ee3ded9768a254f58f82176b5fb6ec66a", func := "loop.example/g01049/laws.FnLoaded", spec := "fnLoaded", apart := false }
def FnLoadedSaid : Prop := fnLoadedRow.holds Try.pinned (OpenSpec.ofChange fnLoadedSpec)

/-- ITS FALSE NEIGHBOUR: 'it returns false'. Refute it at one input. -/
def fnLoadedWrong : ChangeSpec := { name := "fnLoaded", fn := fun _ => fun
  | [d] => { results := [.lit (.bool false)], args := [d] }
  | _ => none }
def FnLoadedWrongFalsely : Prop := fnLoadedRow.holds Try.pinned (OpenSpec.ofChange fnLoadedWrong)

/-- 'laws.FnExactIsField': WHATEVER THE INPUT: true; the input reads as it did. -/
def fnExactIsFieldSpec : ChangeSpec := { name := "fnExactIsField", fn := fun _ => fun
  | [d] => { results := [.lit (.bool true)], args := [d] }
  | _ => none }
def fnExactIsFieldRow : OpenClaim := { program := "ytnfmfebmjlglgaa", sum := "b237534e17682bedebf6cf3821a83c9ee3ded9768a254f58f82176b5fb6ec66a", func := "loop.example/g01049/laws.FnExactIsField", spec := "fnExactIsField", apart := false }
def FnExactIsFieldSaid : Prop := fnExactIsFieldRow.holds Try.pinned (OpenSpec.ofChange fnExactIsFieldSpec)

/-- ITS FALSE NEIGHBOUR: 'it returns false'. Refute it at one input. -/
def fnExactIsFieldWrong : ChangeSpec := { name := "fnExactIsField", fn := fun _ => fun
  | [d] => { results := [.lit (.bool false)], args := [d] }
  | _ => none }
def FnExactIsFieldWrongFalsely : Prop := fnExactIsFieldRow.holds Try.pinned (OpenSpec.ofChange fnExactIsFieldWrong)

/- THE SECOND FORM. 'bulk': how many values and letters a reading holds, each counted each time it is reached (what is shared counts as often as it is met; a slice's spare places count too). A statement '..UptoSaid' is the law's where the arguments, and the package variables that the reading takes, are together of bulk at most 1048576: NARROWER than '..Said'. Prove '..Said' where nothing that the law and all that it calls make is longer than what came in: it says more and counts as full. Else prove '..UptoSaid'. A law counts once. -/
mutual
def uptoBulk {H : Type} : DataW H → Nat
  | .lit (.string bytes) => bytes.length + 1
  | .lit _ => 1
  | .nil => 1
  | .ptr d => uptoBulk d + 1
  | .slice elems spare => uptoBulkAll elems + uptoBulkAll spare + 1
  | .agg parts => uptoBulkAll parts + 1
  | .iface _ d => uptoBulk d + 1
  | .map entries => uptoBulkEntries entries + 1
  | .held _ => 1
def uptoBulkAll {H : Type} : List (DataW H) → Nat
  | [] => 0
  | d :: r => uptoBulk d + uptoBulkAll r
def uptoBulkEntries {H : Type} : List (Lit × DataW H) → Nat
  | [] => 0
  | x :: r => uptoBulkEntry x + uptoBulkEntries r
def uptoBulkEntry {H : Type} : Lit × DataW H → Nat
  | (.string bytes, d) => bytes.length + uptoBulk d + 1
  | (_, d) => uptoBulk d + 1
 end
def uptoSmall : (H : Type) → List (DataW H) → Bool := fun _ ds => decide (uptoBulkAll ds ≤ 1048576)
def OpenSpec.upto (s : _root_.Go.ChangeSpec) : _root_.Go.OpenSpec := { _root_.Go.OpenSpec.ofChange s with cond := some uptoSmall }

/-- 'laws.FnExactEmptyTubes', WHERE WHAT IT READS IS OF BULK AT MOST 1048576: true; the input reads as it did. -/
def fnExactEmptyTubesUptoRow : OpenClaim := { program := "ytnfmfebmjlglgaa", sum := "b237534e17682bedebf6cf3821a83c9ee3ded9768a254f58f82176b5fb6ec66a", func := "loop.example/g01049/laws.FnExactEmptyTubes", spec := "fnExactEmptyTubes", apart := false, narrowed := true }
def FnExactEmptyTubesUptoSaid : Prop := fnExactEmptyTubesUptoRow.holds Try.pinned (OpenSpec.upto fnExactEmptyTubesSpec)

/-- 'laws.FnExactCountLoads', WHERE WHAT IT READS IS OF BULK AT MOST 1048576: true; the input reads as it did. -/
def fnExactCountLoadsUptoRow : OpenClaim := { program := "ytnfmfebmjlglgaa", sum := "b237534e17682bedebf6cf3821a83c9ee3ded9768a254f58f82176b5fb6ec66a", func := "loop.example/g01049/laws.FnExactCountLoads", spec := "fnExactCountLoads", apart := false, narrowed := true }
def FnExactCountLoadsUptoSaid : Prop := fnExactCountLoadsUptoRow.holds Try.pinned (OpenSpec.upto fnExactCountLoadsSpec)

/-- 'laws.FnExactTubesFor', WHERE WHAT IT READS IS OF BULK AT MOST 1048576: true; the input reads as it did. -/
def fnExactTubesForUptoRow : OpenClaim := { program := "ytnfmfebmjlglgaa", sum := "b237534e17682bedebf6cf3821a83c9ee3ded9768a254f58f82176b5fb6ec66a", func := "loop.example/g01049/laws.FnExactTubesFor", spec := "fnExactTubesFor", apart := false, narrowed := true }
def FnExactTubesForUptoSaid : Prop := fnExactTubesForUptoRow.holds Try.pinned (OpenSpec.upto fnExactTubesForSpec)

/-- 'laws.FnExactUnloadTube', WHERE WHAT IT READS IS OF BULK AT MOST 1048576: true; the input reads as it did. -/
def fnExactUnloadTubeUptoRow : OpenClaim := { program := "ytnfmfebmjlglgaa", sum := "b237534e17682bedebf6cf3821a83c9ee3ded9768a254f58f82176b5fb6ec66a", func := "loop.example/g01049/laws.FnExactUnloadTube", spec := "fnExactUnloadTube", apart := false, narrowed := true }
def FnExactUnloadTubeUptoSaid : Prop := fnExactUnloadTubeUptoRow.holds Try.pinned (OpenSpec.upto fnExactUnloadTubeSpec)

/-- 'laws.FnExactLoadTube', WHERE WHAT IT READS IS OF BULK AT MOST 1048576: true; the input reads as it did. -/
def fnExactLoadTubeUptoRow : OpenClaim := { program := "ytnfmfebmjlglgaa", sum := "b237534e17682bedebf6cf3821a83c9ee3ded9768a254f58f82176b5fb6ec66a", func := "loop.example/g01049/laws.FnExactLoadTube", spec := "fnExactLoadTube", apart := false, narrowed := true }
def FnExactLoadTubeUptoSaid : Prop := fnExactLoadTubeUptoRow.holds Try.pinned (OpenSpec.upto fnExactLoadTubeSpec)

/-- 'laws.FnExactLoadBest', WHERE WHAT IT READS IS OF BULK AT MOST 1048576: true; the input reads as it did. -/
def fnExactLoadBestUptoRow : OpenClaim := { program := "ytnfmfebmjlglgaa", sum := "b237534e17682bedebf6cf3821a83c9ee3ded9768a254f58f82176b5fb6ec66a", func := "loop.example/g01049/laws.FnExactLoadBest", spec := "fnExactLoadBest", apart := false, narrowed := true }
def FnExactLoadBestUptoSaid : Prop := fnExactLoadBestUptoRow.holds Try.pinned (OpenSpec.upto fnExactLoadBestSpec)

/-- 'laws.FnRacks', WHERE WHAT IT READS IS OF BULK AT MOST 1048576: true; the input reads as it did. -/
def fnRacksUptoRow : OpenClaim := { program := "ytnfmfebmjlglgaa", sum := "b237534e17682bedebf6cf3821a83c9ee3ded9768a254f58f82176b5fb6ec66a", func := "loop.example/g01049/laws.FnRacks", spec := "fnRacks", apart := false, narrowed := true }
def FnRacksUptoSaid : Prop := fnRacksUptoRow.holds Try.pinned (OpenSpec.upto fnRacksSpec)

/-- 'laws.FnLoaded', WHERE WHAT IT READS IS OF BULK AT MOST 1048576: true; the input reads as it did. -/
def fnLoadedUptoRow : OpenClaim := { program := "ytnfmfebmjlglgaa", sum := "b237534e17682bedebf6cf3821a83c9ee3ded9768a254f58f82176b5fb6ec66a", func := "loop.example/g01049/laws.FnLoaded", spec := "fnLoaded", apart := false, narrowed := true }
def FnLoadedUptoSaid : Prop := fnLoadedUptoRow.holds Try.pinned (OpenSpec.upto fnLoadedSpec)

/-- 'laws.FnExactIsField', WHERE WHAT IT READS IS OF BULK AT MOST 1048576: true; the input reads as it did. -/
def fnExactIsFieldUptoRow : OpenClaim := { program := "ytnfmfebmjlglgaa", sum := "b237534e17682bedebf6cf3821a83c9ee3ded9768a254f58f82176b5fb6ec66a", func := "loop.example/g01049/laws.FnExactIsField", spec := "fnExactIsField", apart := false, narrowed := true }
def FnExactIsFieldUptoSaid : Prop := fnExactIsFieldUptoRow.holds Try.pinned (OpenSpec.upto fnExactIsFieldSpec)

end Rows
end Go.Proofs.Ytnfmfebmjlglgaa
