/- Short forms, a further part: cells beside stores, blocks of rows, blocks kept. No condition. -/
import Derived.Test.YtnfmfebmjlglgaaCm9
namespace Go.Proofs.YtnfmfebmjlglgaaW.PrintWords
open Go.RowKit Go.Proofs.YtnfmfebmjlglgaaW.PrintLast
theorem cfr {W : World} {g g2 i j : Nat} {u v : Value} (hp : Aside0 (g ≠ g2)) (h : W.cell? ⟨g, i, none⟩ = some v) : (W.setCell ⟨g2, j, none⟩ u).cell? ⟨g, i, none⟩ = some v := (cell_far (p := ⟨g2, j, none⟩) hp.out u).trans h
theorem cfa {W W2 : World} {a : Addr} {v : Value} (h : W.cell? a = some v) (k : W.cell? a = some v → W2.cell? a = some v := by intro h; repeat (first | (with_reducible first | exact h | apply cfr (by assumption)) | exact h)) : W2.cell? a = some v := k h
theorem bq {a : Addr} {g : Nat} {p : Prop} (x : a.block ≠ g) (h : a.block ≠ g → p := by intro x; first | exact x | (rw [add_block]; exact x) | (show (Addr.add _ _).block ≠ _; rw [add_block]; exact x) | (dsimp only; exact x)) : p := h x
theorem ob {α : Type} {d : Kd α} {e base n c t g : Nat} {ad : Addr} {w : World} {ok : Nat → Prop} {xs : List α} {cs : Array Value} (h : Aside0 (d.R e w base ok (.slice (some ad) n c) xs)) (b : Aside0 (w.heap[g]? = some (.cells cs t (0, 0)))) (ht : e ≠ t := by decide) : ad.block ≠ g := Kd.own_blk (Kd.R_ne h.out b.out ht)
theorem kk {W W2 w1 : World} {g g2 : Nat} {o : Obj} (hk : KeepBut W2 w1 g none) (b : Aside0 (W.heap[g2]? = some o)) (n : Aside0 (g2 ≠ g)) (k : W.heap[g2]? = some o → W2.heap[g2]? = some o := by intro h; repeat (first | (with_reducible first | refine blk_drewN ?_ _ | refine blk_drew ?_ | refine blk_alloc ?_ _ | refine far_ (by assumption) ?_) | exact h)) : Aside0 (w1.heap[g2]? = some o) := ⟨KeepBut.blk hk (k b.out) n.out (by simp)⟩
end Go.Proofs.YtnfmfebmjlglgaaW.PrintWords
