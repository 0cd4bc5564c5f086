/- The same rows, where others are written: what lies apart is kept. No condition. -/
import Derived.Test.YtjgbncpbenmjoaaSpare
import Derived.Test.YtjgbncpbenmjoaaWMore
namespace Go.Proofs.YtjgbncpbenmjoaaW.PrintWords
open Go.RowKit
namespace Kd
section
variable {α : Type} [Fil α] {d : Kd α} {e : Nat} {w w1 : World} {base : Nat} {ok ok' : Nat → Prop} {v u : Value} {xs : List α}
theorem P_kept {W2 : World} {S : Nat → Prop} {W : World} (h : d.P e W base ok v xs) (hk : Kept W W2 S) (hne : ∀ k, ok k → ¬ S k) : d.P e W2 base ok v xs := P_map h h.1 (fun _ _ hr _ => R_kept hr hk hne)
theorem P_keptB {W2 : World} {S : Nat → Prop} {W : World} (h : d.P e W base ok v xs) (hk : Kept W W2 S) (hne : ∀ k, ok k → ¬ S k) : d.P e W2 base (fun k => ok k ∧ (¬ S k ∧ k < W.heap.size)) v xs :=
  P_map h (fun k hk2 => ⟨h.1 k hk2, hne k (h.1 k hk2), P_lt h k hk2⟩) (fun _ _ hr _ => R_keptB hr hk hne)
theorem P_tight2 (hE : d.E = []) (h : d.P e w base ok v xs) : d.P e w base (fun k => some k = v.ownBlock ∧ ok k) v xs :=
  P_map h (fun k hk => ⟨hk.symm, h.1 k hk⟩) (fun _ _ hr eb => by have := R_tight2 hE hr; rwa [← eb] at this)
end
end Kd
end Go.Proofs.YtjgbncpbenmjoaaW.PrintWords
