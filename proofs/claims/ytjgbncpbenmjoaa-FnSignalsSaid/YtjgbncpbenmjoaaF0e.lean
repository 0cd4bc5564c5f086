/- Go functions of the program, each as a Lean function, and the proof that each call comes to what the Lean function tells; no condition beyond those that stand there. -/
import Derived.Test.YtjgbncpbenmjoaaF00
import Derived.Test.YtjgbncpbenmjoaaWEqStruct
namespace Go.Proofs.Ytjgbncpbenmjoaa.Pall
open Go.RowKit Go.Proofs.YtjgbncpbenmjoaaW.PrintWords
set_option linter.unusedVariables false
set_option linter.unusedSimpArgs false

theorem eqA33 (d : Nat) (w : World) (x0 y0 : Int) (x1 y1 : Int) :
    (Op.equalIn (d + 2) 33 (.agg #[.int .i64 x0, .int .i64 x1]) (.agg #[.int .i64 y0, .int .i64 y1])).run Try.prog w = .ok (x0 == y0 && (x1 == y1)) w := by
  refine eqA_of Try.underlying33 (by kernel_rfl) ?_
  refine eqf_cons (by rfl) (by go_simp; rfl) (by go_simp; rfl) (by go_simp) ?_
  exact eqf_last (by rfl) (by go_simp; rfl) (by go_simp; rfl) (by go_simp)


theorem eqA41 (d : Nat) (w : World) (x0 y0 : Bool) (x1 y1 : Bool) (x2 y2 : Bool) (x3 y3 : Bool) (x4 y4 : Bool) (x5 y5 : Int) :
    (Op.equalIn (d + 2) 41 (.agg #[.bool x0, .bool x1, .bool x2, .bool x3, .bool x4, .int .i64 x5]) (.agg #[.bool y0, .bool y1, .bool y2, .bool y3, .bool y4, .int .i64 y5])).run Try.prog w = .ok (x0 == y0 && (x1 == y1 && (x2 == y2 && (x3 == y3 && (x4 == y4 && (x5 == y5)))))) w := by
  refine eqA_of Try.underlying41 (by kernel_rfl) ?_
  refine eqf_cons (by rfl) (by go_simp; rfl) (by go_simp; rfl) (by go_simp) ?_
  refine eqf_cons (by rfl) (by go_simp; rfl) (by go_simp; rfl) (by go_simp) ?_
  refine eqf_cons (by rfl) (by go_simp; rfl) (by go_simp; rfl) (by go_simp) ?_
  refine eqf_cons (by rfl) (by go_simp; rfl) (by go_simp; rfl) (by go_simp) ?_
  refine eqf_cons (by rfl) (by go_simp; rfl) (by go_simp; rfl) (by go_simp) ?_
  exact eqf_last (by rfl) (by go_simp; rfl) (by go_simp; rfl) (by go_simp)


-- NOT PRINTED: function 73 (impl_desk_begin)



/-- A state of type 96 at block g of W; what its slices lead to came in by w0. -/
def IsS96 (w0 W : World) (g : Nat) (f0 : List (S33)) (f1 : Int) (f2 : Int) (f3 : Bool) (f4 : Bool) (f5 : Bool) (f6 : Bool) (f7 : Bool) (f8 : Int) (f9 : List Int) : Prop := ∃ A0 c0, ∃ A9 c9, W.heap[g]? = some (.cells #[.slice A0 f0.length c0, .int .i64 f1, .int .i64 f2, .bool f3, .bool f4, .bool f5, .bool f6, .bool f7, .int .i64 f8, .slice A9 f9.length c9] 96 (0, 0)) ∧ w0.heap.size ≤ g ∧ Kd.C k33 w0 A0 f0.length f0 ∧ Kd.C (Kd.int .i64) w0 A9 f9.length f9
theorem IsS96.grown {w0 W : World} {g : Nat} {f0 : List (S33)} {f1 : Int} {f2 : Int} {f3 : Bool} {f4 : Bool} {f5 : Bool} {f6 : Bool} {f7 : Bool} {f8 : Int} {f9 : List Int} {W1 : World} {row : Option Nat} (h : IsS96 w0 W g f0 f1 f2 f3 f4 f5 f6 f7 f8 f9) (hw : W.grownBy W1 row) (hne : some g ≠ row) : IsS96 w0 W1 g f0 f1 f2 f3 f4 f5 f6 f7 f8 f9 := by
  obtain ⟨A0, c0, A9, c9, hb, hg, hr0, hr9⟩ := h
  exact ⟨A0, c0, A9, c9, blk_grown hb hw hne, hg, hr0, hr9⟩
theorem IsS96.fresh {w0 W : World} {g : Nat} {f0 : List (S33)} {f1 : Int} {f2 : Int} {f3 : Bool} {f4 : Bool} {f5 : Bool} {f6 : Bool} {f7 : Bool} {f8 : Int} {f9 : List Int} (h : IsS96 w0 W g f0 f1 f2 f3 f4 f5 f6 f7 f8 f9) : ∀ k, W.heap.size ≤ k → k ≠ g := by
  obtain ⟨A0, c0, A9, c9, hb, hg, hr0, hr9⟩ := h
  exact Kd.freshB hb
theorem IsS96.below {w0 W : World} {g : Nat} {f0 : List (S33)} {f1 : Int} {f2 : Int} {f3 : Bool} {f4 : Bool} {f5 : Bool} {f6 : Bool} {f7 : Bool} {f8 : Int} {f9 : List Int} {W1 : World} (h : IsS96 w0 W g f0 f1 f2 f3 f4 f5 f6 f7 f8 f9) (hw : Below W.heap.size W W1) : IsS96 w0 W1 g f0 f1 f2 f3 f4 f5 f6 f7 f8 f9 := h.grown (grown_of_below hw none) (by simp)
theorem IsS96.alloc {w0 W : World} {g : Nat} {f0 : List (S33)} {f1 : Int} {f2 : Int} {f3 : Bool} {f4 : Bool} {f5 : Bool} {f6 : Bool} {f7 : Bool} {f8 : Int} {f9 : List Int} (h : IsS96 w0 W g f0 f1 f2 f3 f4 f5 f6 f7 f8 f9) (o : Obj) : IsS96 w0 (W.alloc o) g f0 f1 f2 f3 f4 f5 f6 f7 f8 f9 := h.below (below_alloc (Below.refl _ _) o)
theorem IsS96.drewN {w0 W : World} {g : Nat} {f0 : List (S33)} {f1 : Int} {f2 : Int} {f3 : Bool} {f4 : Bool} {f5 : Bool} {f6 : Bool} {f7 : Bool} {f8 : Int} {f9 : List Int} (h : IsS96 w0 W g f0 f1 f2 f3 f4 f5 f6 f7 f8 f9) (m : Nat) : IsS96 w0 (W.drewN m) g f0 f1 f2 f3 f4 f5 f6 f7 f8 f9 := h
theorem IsS96.drew {w0 W : World} {g : Nat} {f0 : List (S33)} {f1 : Int} {f2 : Int} {f3 : Bool} {f4 : Bool} {f5 : Bool} {f6 : Bool} {f7 : Bool} {f8 : Int} {f9 : List Int} (h : IsS96 w0 W g f0 f1 f2 f3 f4 f5 f6 f7 f8 f9) : IsS96 w0 W.drew g f0 f1 f2 f3 f4 f5 f6 f7 f8 f9 := h
theorem IsS96.apart {w0 W : World} {g : Nat} {f0 : List (S33)} {f1 : Int} {f2 : Int} {f3 : Bool} {f4 : Bool} {f5 : Bool} {f6 : Bool} {f7 : Bool} {f8 : Int} {f9 : List Int} {α : Type} {d : Kd α} {e : Nat} {base : Nat} {ok : Nat → Prop} {v : Value} {xs : List α} (h : IsS96 w0 W g f0 f1 f2 f3 f4 f5 f6 f7 f8 f9) (ho : d.R e W base ok v xs) (ht : ∀ q, q ∈ e :: d.E → q ≠ 96) : d.R e W base (fun k => ok k ∧ k ≠ g) v xs := by
  obtain ⟨A0, c0, A9, c9, hb, hg, hr0, hr9⟩ := h
  exact Kd.R_types ho hb ht
theorem IsS96.own_ne {w0 W : World} {g : Nat} {f0 : List (S33)} {f1 : Int} {f2 : Int} {f3 : Bool} {f4 : Bool} {f5 : Bool} {f6 : Bool} {f7 : Bool} {f8 : Int} {f9 : List Int} {α : Type} {d : Kd α} {e : Nat} {base : Nat} {ok : Nat → Prop} {v : Value} {xs : List α} (h : IsS96 w0 W g f0 f1 f2 f3 f4 f5 f6 f7 f8 f9) (ho : d.R e W base ok v xs) (ht : e ≠ 96) : some g ≠ v.ownBlock := by
  obtain ⟨A0, c0, A9, c9, hb, hg, hr0, hr9⟩ := h
  exact Kd.R_ne ho hb ht
theorem IsS96.lt {w0 W : World} {g : Nat} {f0 : List (S33)} {f1 : Int} {f2 : Int} {f3 : Bool} {f4 : Bool} {f5 : Bool} {f6 : Bool} {f7 : Bool} {f8 : Int} {f9 : List Int} (h : IsS96 w0 W g f0 f1 f2 f3 f4 f5 f6 f7 f8 f9) : g < W.heap.size := by
  obtain ⟨A0, c0, A9, c9, hb, hg, hr0, hr9⟩ := h
  exact blk_lt hb
theorem IsS96.ge {w0 W : World} {g : Nat} {f0 : List (S33)} {f1 : Int} {f2 : Int} {f3 : Bool} {f4 : Bool} {f5 : Bool} {f6 : Bool} {f7 : Bool} {f8 : Int} {f9 : List Int} (h : IsS96 w0 W g f0 f1 f2 f3 f4 f5 f6 f7 f8 f9) : w0.heap.size ≤ g := by
  obtain ⟨A0, c0, A9, c9, hb, hg, hr0, hr9⟩ := h
  exact hg
theorem IsS96.ne_blk {w0 W : World} {g : Nat} {f0 : List (S33)} {f1 : Int} {f2 : Int} {f3 : Bool} {f4 : Bool} {f5 : Bool} {f6 : Bool} {f7 : Bool} {f8 : Int} {f9 : List Int} {a : Nat} {cs : Array Value} {t : TypeId} {fr : Nat × Nat} (h : IsS96 w0 W g f0 f1 f2 f3 f4 f5 f6 f7 f8 f9) (hb2 : W.heap[a]? = some (.cells cs t fr)) (ht : t ≠ 96) : g ≠ a := by
  obtain ⟨A0, c0, A9, c9, hb, hg, hr0, hr9⟩ := h
  rintro rfl
  rw [hb] at hb2
  injection hb2 with hb2
  injection hb2 with _ ht2
  exact ht ht2.symm
theorem IsS96.far {w0 W : World} {g : Nat} {f0 : List (S33)} {f1 : Int} {f2 : Int} {f3 : Bool} {f4 : Bool} {f5 : Bool} {f6 : Bool} {f7 : Bool} {f8 : Int} {f9 : List Int} {p : Addr} (h : IsS96 w0 W g f0 f1 f2 f3 f4 f5 f6 f7 f8 f9) (hne : g ≠ p.block) (u : Value) : IsS96 w0 (W.setCell p u) g f0 f1 f2 f3 f4 f5 f6 f7 f8 f9 := by
  obtain ⟨A0, c0, A9, c9, hb, hg, hr0, hr9⟩ := h
  exact ⟨A0, c0, A9, c9, blk_far hb hne u, hg, hr0, hr9⟩
theorem cellS96_0 {W : World} {g : Nat} {A0 : Option Addr} {c0 : Nat} {A9 : Option Addr} {c9 : Nat} {f0 : List (S33)} {f1 : Int} {f2 : Int} {f3 : Bool} {f4 : Bool} {f5 : Bool} {f6 : Bool} {f7 : Bool} {f8 : Int} {f9 : List Int} (h : W.heap[g]? = some (.cells #[.slice A0 f0.length c0, .int .i64 f1, .int .i64 f2, .bool f3, .bool f4, .bool f5, .bool f6, .bool f7, .int .i64 f8, .slice A9 f9.length c9] 96 (0, 0))) : W.cell? ⟨g, 0, none⟩ = some (.slice A0 f0.length c0) := (blk_cell h 0).trans rfl
theorem cellS96_1 {W : World} {g : Nat} {A0 : Option Addr} {c0 : Nat} {A9 : Option Addr} {c9 : Nat} {f0 : List (S33)} {f1 : Int} {f2 : Int} {f3 : Bool} {f4 : Bool} {f5 : Bool} {f6 : Bool} {f7 : Bool} {f8 : Int} {f9 : List Int} (h : W.heap[g]? = some (.cells #[.slice A0 f0.length c0, .int .i64 f1, .int .i64 f2, .bool f3, .bool f4, .bool f5, .bool f6, .bool f7, .int .i64 f8, .slice A9 f9.length c9] 96 (0, 0))) : W.cell? ⟨g, 1, none⟩ = some (.int .i64 f1) := (blk_cell h 1).trans rfl
theorem IsS96.set_1 {w0 W : World} {g : Nat} {f0 : List (S33)} {f1 : Int} {f2 : Int} {f3 : Bool} {f4 : Bool} {f5 : Bool} {f6 : Bool} {f7 : Bool} {f8 : Int} {f9 : List Int} (h : IsS96 w0 W g f0 f1 f2 f3 f4 f5 f6 f7 f8 f9) (x : Int) : IsS96 w0 (W.setCell ⟨g, 1, none⟩ (.int .i64 x)) g f0 x f2 f3 f4 f5 f6 f7 f8 f9 := by
  obtain ⟨A0, c0, A9, c9, hb, hg, hr0, hr9⟩ := h
  exact ⟨A0, c0, A9, c9, by simpa using blk_set hb 1 (.int .i64 x), hg, hr0, hr9⟩
theorem cellS96_2 {W : World} {g : Nat} {A0 : Option Addr} {c0 : Nat} {A9 : Option Addr} {c9 : Nat} {f0 : List (S33)} {f1 : Int} {f2 : Int} {f3 : Bool} {f4 : Bool} {f5 : Bool} {f6 : Bool} {f7 : Bool} {f8 : Int} {f9 : List Int} (h : W.heap[g]? = some (.cells #[.slice A0 f0.length c0, .int .i64 f1, .int .i64 f2, .bool f3, .bool f4, .bool f5, .bool f6, .bool f7, .int .i64 f8, .slice A9 f9.length c9] 96 (0, 0))) : W.cell? ⟨g, 2, none⟩ = some (.int .i64 f2) := (blk_cell h 2).trans rfl
theorem IsS96.set_2 {w0 W : World} {g : Nat} {f0 : List (S33)} {f1 : Int} {f2 : Int} {f3 : Bool} {f4 : Bool} {f5 : Bool} {f6 : Bool} {f7 : Bool} {f8 : Int} {f9 : List Int} (h : IsS96 w0 W g f0 f1 f2 f3 f4 f5 f6 f7 f8 f9) (x : Int) : IsS96 w0 (W.setCell ⟨g, 2, none⟩ (.int .i64 x)) g f0 f1 x f3 f4 f5 f6 f7 f8 f9 := by
  obtain ⟨A0, c0, A9, c9, hb, hg, hr0, hr9⟩ := h
  exact ⟨A0, c0, A9, c9, by simpa using blk_set hb 2 (.int .i64 x), hg, hr0, hr9⟩
theorem cellS96_3 {W : World} {g : Nat} {A0 : Option Addr} {c0 : Nat} {A9 : Option Addr} {c9 : Nat} {f0 : List (S33)} {f1 : Int} {f2 : Int} {f3 : Bool} {f4 : Bool} {f5 : Bool} {f6 : Bool} {f7 : Bool} {f8 : Int} {f9 : List Int} (h : W.heap[g]? = some (.cells #[.slice A0 f0.length c0, .int .i64 f1, .int .i64 f2, .bool f3, .bool f4, .bool f5, .bool f6, .bool f7, .int .i64 f8, .slice A9 f9.length c9] 96 (0, 0))) : W.cell? ⟨g, 3, none⟩ = some (.bool f3) := (blk_cell h 3).trans rfl
theorem IsS96.set_3 {w0 W : World} {g : Nat} {f0 : List (S33)} {f1 : Int} {f2 : Int} {f3 : Bool} {f4 : Bool} {f5 : Bool} {f6 : Bool} {f7 : Bool} {f8 : Int} {f9 : List Int} (h : IsS96 w0 W g f0 f1 f2 f3 f4 f5 f6 f7 f8 f9) (x : Bool) : IsS96 w0 (W.setCell ⟨g, 3, none⟩ (.bool x)) g f0 f1 f2 x f4 f5 f6 f7 f8 f9 := by
  obtain ⟨A0, c0, A9, c9, hb, hg, hr0, hr9⟩ := h
  exact ⟨A0, c0, A9, c9, by simpa using blk_set hb 3 (.bool x), hg, hr0, hr9⟩
theorem cellS96_4 {W : World} {g : Nat} {A0 : Option Addr} {c0 : Nat} {A9 : Option Addr} {c9 : Nat} {f0 : List (S33)} {f1 : Int} {f2 : Int} {f3 : Bool} {f4 : Bool} {f5 : Bool} {f6 : Bool} {f7 : Bool} {f8 : Int} {f9 : List Int} (h : W.heap[g]? = some (.cells #[.slice A0 f0.length c0, .int .i64 f1, .int .i64 f2, .bool f3, .bool f4, .bool f5, .bool f6, .bool f7, .int .i64 f8, .slice A9 f9.length c9] 96 (0, 0))) : W.cell? ⟨g, 4, none⟩ = some (.bool f4) := (blk_cell h 4).trans rfl
theorem IsS96.set_4 {w0 W : World} {g : Nat} {f0 : List (S33)} {f1 : Int} {f2 : Int} {f3 : Bool} {f4 : Bool} {f5 : Bool} {f6 : Bool} {f7 : Bool} {f8 : Int} {f9 : List Int} (h : IsS96 w0 W g f0 f1 f2 f3 f4 f5 f6 f7 f8 f9) (x : Bool) : IsS96 w0 (W.setCell ⟨g, 4, none⟩ (.bool x)) g f0 f1 f2 f3 x f5 f6 f7 f8 f9 := by
  obtain ⟨A0, c0, A9, c9, hb, hg, hr0, hr9⟩ := h
  exact ⟨A0, c0, A9, c9, by simpa using blk_set hb 4 (.bool x), hg, hr0, hr9⟩
theorem cellS96_5 {W : World} {g : Nat} {A0 : Option Addr} {c0 : Nat} {A9 : Option Addr} {c9 : Nat} {f0 : List (S33)} {f1 : Int} {f2 : Int} {f3 : Bool} {f4 : Bool} {f5 : Bool} {f6 : Bool} {f7 : Bool} {f8 : Int} {f9 : List Int} (h : W.heap[g]? = some (.cells #[.slice A0 f0.length c0, .int .i64 f1, .int .i64 f2, .bool f3, .bool f4, .bool f5, .bool f6, .bool f7, .int .i64 f8, .slice A9 f9.length c9] 96 (0, 0))) : W.cell? ⟨g, 5, none⟩ = some (.bool f5) := (blk_cell h 5).trans rfl
theorem IsS96.set_5 {w0 W : World} {g : Nat} {f0 : List (S33)} {f1 : Int} {f2 : Int} {f3 : Bool} {f4 : Bool} {f5 : Bool} {f6 : Bool} {f7 : Bool} {f8 : Int} {f9 : List Int} (h : IsS96 w0 W g f0 f1 f2 f3 f4 f5 f6 f7 f8 f9) (x : Bool) : IsS96 w0 (W.setCell ⟨g, 5, none⟩ (.bool x)) g f0 f1 f2 f3 f4 x f6 f7 f8 f9 := by
  obtain ⟨A0, c0, A9, c9, hb, hg, hr0, hr9⟩ := h
  exact ⟨A0, c0, A9, c9, by simpa using blk_set hb 5 (.bool x), hg, hr0, hr9⟩
theorem cellS96_6 {W : World} {g : Nat} {A0 : Option Addr} {c0 : Nat} {A9 : Option Addr} {c9 : Nat} {f0 : List (S33)} {f1 : Int} {f2 : Int} {f3 : Bool} {f4 : Bool} {f5 : Bool} {f6 : Bool} {f7 : Bool} {f8 : Int} {f9 : List Int} (h : W.heap[g]? = some (.cells #[.slice A0 f0.length c0, .int .i64 f1, .int .i64 f2, .bool f3, .bool f4, .bool f5, .bool f6, .bool f7, .int .i64 f8, .slice A9 f9.length c9] 96 (0, 0))) : W.cell? ⟨g, 6, none⟩ = some (.bool f6) := (blk_cell h 6).trans rfl
theorem IsS96.set_6 {w0 W : World} {g : Nat} {f0 : List (S33)} {f1 : Int} {f2 : Int} {f3 : Bool} {f4 : Bool} {f5 : Bool} {f6 : Bool} {f7 : Bool} {f8 : Int} {f9 : List Int} (h : IsS96 w0 W g f0 f1 f2 f3 f4 f5 f6 f7 f8 f9) (x : Bool) : IsS96 w0 (W.setCell ⟨g, 6, none⟩ (.bool x)) g f0 f1 f2 f3 f4 f5 x f7 f8 f9 := by
  obtain ⟨A0, c0, A9, c9, hb, hg, hr0, hr9⟩ := h
  exact ⟨A0, c0, A9, c9, by simpa using blk_set hb 6 (.bool x), hg, hr0, hr9⟩
theorem cellS96_7 {W : World} {g : Nat} {A0 : Option Addr} {c0 : Nat} {A9 : Option Addr} {c9 : Nat} {f0 : List (S33)} {f1 : Int} {f2 : Int} {f3 : Bool} {f4 : Bool} {f5 : Bool} {f6 : Bool} {f7 : Bool} {f8 : Int} {f9 : List Int} (h : W.heap[g]? = some (.cells #[.slice A0 f0.length c0, .int .i64 f1, .int .i64 f2, .bool f3, .bool f4, .bool f5, .bool f6, .bool f7, .int .i64 f8, .slice A9 f9.length c9] 96 (0, 0))) : W.cell? ⟨g, 7, none⟩ = some (.bool f7) := (blk_cell h 7).trans rfl
theorem IsS96.set_7 {w0 W : World} {g : Nat} {f0 : List (S33)} {f1 : Int} {f2 : Int} {f3 : Bool} {f4 : Bool} {f5 : Bool} {f6 : Bool} {f7 : Bool} {f8 : Int} {f9 : List Int} (h : IsS96 w0 W g f0 f1 f2 f3 f4 f5 f6 f7 f8 f9) (x : Bool) : IsS96 w0 (W.setCell ⟨g, 7, none⟩ (.bool x)) g f0 f1 f2 f3 f4 f5 f6 x f8 f9 := by
  obtain ⟨A0, c0, A9, c9, hb, hg, hr0, hr9⟩ := h
  exact ⟨A0, c0, A9, c9, by simpa using blk_set hb 7 (.bool x), hg, hr0, hr9⟩
theorem cellS96_8 {W : World} {g : Nat} {A0 : Option Addr} {c0 : Nat} {A9 : Option Addr} {c9 : Nat} {f0 : List (S33)} {f1 : Int} {f2 : Int} {f3 : Bool} {f4 : Bool} {f5 : Bool} {f6 : Bool} {f7 : Bool} {f8 : Int} {f9 : List Int} (h : W.heap[g]? = some (.cells #[.slice A0 f0.length c0, .int .i64 f1, .int .i64 f2, .bool f3, .bool f4, .bool f5, .bool f6, .bool f7, .int .i64 f8, .slice A9 f9.length c9] 96 (0, 0))) : W.cell? ⟨g, 8, none⟩ = some (.int .i64 f8) := (blk_cell h 8).trans rfl
theorem IsS96.set_8 {w0 W : World} {g : Nat} {f0 : List (S33)} {f1 : Int} {f2 : Int} {f3 : Bool} {f4 : Bool} {f5 : Bool} {f6 : Bool} {f7 : Bool} {f8 : Int} {f9 : List Int} (h : IsS96 w0 W g f0 f1 f2 f3 f4 f5 f6 f7 f8 f9) (x : Int) : IsS96 w0 (W.setCell ⟨g, 8, none⟩ (.int .i64 x)) g f0 f1 f2 f3 f4 f5 f6 f7 x f9 := by
  obtain ⟨A0, c0, A9, c9, hb, hg, hr0, hr9⟩ := h
  exact ⟨A0, c0, A9, c9, by simpa using blk_set hb 8 (.int .i64 x), hg, hr0, hr9⟩
theorem cellS96_9 {W : World} {g : Nat} {A0 : Option Addr} {c0 : Nat} {A9 : Option Addr} {c9 : Nat} {f0 : List (S33)} {f1 : Int} {f2 : Int} {f3 : Bool} {f4 : Bool} {f5 : Bool} {f6 : Bool} {f7 : Bool} {f8 : Int} {f9 : List Int} (h : W.heap[g]? = some (.cells #[.slice A0 f0.length c0, .int .i64 f1, .int .i64 f2, .bool f3, .bool f4, .bool f5, .bool f6, .bool f7, .int .i64 f8, .slice A9 f9.length c9] 96 (0, 0))) : W.cell? ⟨g, 9, none⟩ = some (.slice A9 f9.length c9) := (blk_cell h 9).trans rfl
def IsS123 (w0 W : World) (g : Nat) (f0 : List Int) (f1 : Int) (f2 : Int) : Prop := ∃ A0 c0, W.heap[g]? = some (.cells #[.slice A0 f0.length c0, .int .i64 f1, .int .i64 f2] 123 (0, 0)) ∧ w0.heap.size ≤ g ∧ Kd.C (Kd.int .u8) w0 A0 f0.length f0
theorem IsS123.grown {w0 W : World} {g : Nat} {f0 : List Int} {f1 : Int} {f2 : Int} {W1 : World} {row : Option Nat} (h : IsS123 w0 W g f0 f1 f2) (hw : W.grownBy W1 row) (hne : some g ≠ row) : IsS123 w0 W1 g f0 f1 f2 := by
  obtain ⟨A0, c0, hb, hg, hr0⟩ := h
  exact ⟨A0, c0, blk_grown hb hw hne, hg, hr0⟩
theorem IsS123.fresh {w0 W : World} {g : Nat} {f0 : List Int} {f1 : Int} {f2 : Int} (h : IsS123 w0 W g f0 f1 f2) : ∀ k, W.heap.size ≤ k → k ≠ g := by
  obtain ⟨A0, c0, hb, hg, hr0⟩ := h
  exact Kd.freshB hb
theorem IsS123.below {w0 W : World} {g : Nat} {f0 : List Int} {f1 : Int} {f2 : Int} {W1 : World} (h : IsS123 w0 W g f0 f1 f2) (hw : Below W.heap.size W W1) : IsS123 w0 W1 g f0 f1 f2 := h.grown (grown_of_below hw none) (by simp)
theorem IsS123.alloc {w0 W : World} {g : Nat} {f0 : List Int} {f1 : Int} {f2 : Int} (h : IsS123 w0 W g f0 f1 f2) (o : Obj) : IsS123 w0 (W.alloc o) g f0 f1 f2 := h.below (below_alloc (Below.refl _ _) o)
theorem IsS123.drewN {w0 W : World} {g : Nat} {f0 : List Int} {f1 : Int} {f2 : Int} (h : IsS123 w0 W g f0 f1 f2) (m : Nat) : IsS123 w0 (W.drewN m) g f0 f1 f2 := h
theorem IsS123.drew {w0 W : World} {g : Nat} {f0 : List Int} {f1 : Int} {f2 : Int} (h : IsS123 w0 W g f0 f1 f2) : IsS123 w0 W.drew g f0 f1 f2 := h
theorem IsS123.apart {w0 W : World} {g : Nat} {f0 : List Int} {f1 : Int} {f2 : Int} {α : Type} {d : Kd α} {e : Nat} {base : Nat} {ok : Nat → Prop} {v : Value} {xs : List α} (h : IsS123 w0 W g f0 f1 f2) (ho : d.R e W base ok v xs) (ht : ∀ q, q ∈ e :: d.E → q ≠ 123) : d.R e W base (fun k => ok k ∧ k ≠ g) v xs := by
  obtain ⟨A0, c0, hb, hg, hr0⟩ := h
  exact Kd.R_types ho hb ht
theorem IsS123.own_ne {w0 W : World} {g : Nat} {f0 : List Int} {f1 : Int} {f2 : Int} {α : Type} {d : Kd α} {e : Nat} {base : Nat} {ok : Nat → Prop} {v : Value} {xs : List α} (h : IsS123 w0 W g f0 f1 f2) (ho : d.R e W base ok v xs) (ht : e ≠ 123) : some g ≠ v.ownBlock := by
  obtain ⟨A0, c0, hb, hg, hr0⟩ := h
  exact Kd.R_ne ho hb ht
theorem IsS123.lt {w0 W : World} {g : Nat} {f0 : List Int} {f1 : Int} {f2 : Int} (h : IsS123 w0 W g f0 f1 f2) : g < W.heap.size := by
  obtain ⟨A0, c0, hb, hg, hr0⟩ := h
  exact blk_lt hb
theorem IsS123.ge {w0 W : World} {g : Nat} {f0 : List Int} {f1 : Int} {f2 : Int} (h : IsS123 w0 W g f0 f1 f2) : w0.heap.size ≤ g := by
  obtain ⟨A0, c0, hb, hg, hr0⟩ := h
  exact hg
theorem IsS123.ne_blk {w0 W : World} {g : Nat} {f0 : List Int} {f1 : Int} {f2 : Int} {a : Nat} {cs : Array Value} {t : TypeId} {fr : Nat × Nat} (h : IsS123 w0 W g f0 f1 f2) (hb2 : W.heap[a]? = some (.cells cs t fr)) (ht : t ≠ 123) : g ≠ a := by
  obtain ⟨A0, c0, hb, hg, hr0⟩ := h
  rintro rfl
  rw [hb] at hb2
  injection hb2 with hb2
  injection hb2 with _ ht2
  exact ht ht2.symm
theorem IsS123.far {w0 W : World} {g : Nat} {f0 : List Int} {f1 : Int} {f2 : Int} {p : Addr} (h : IsS123 w0 W g f0 f1 f2) (hne : g ≠ p.block) (u : Value) : IsS123 w0 (W.setCell p u) g f0 f1 f2 := by
  obtain ⟨A0, c0, hb, hg, hr0⟩ := h
  exact ⟨A0, c0, blk_far hb hne u, hg, hr0⟩
theorem cellS123_0 {W : World} {g : Nat} {A0 : Option Addr} {c0 : Nat} {f0 : List Int} {f1 : Int} {f2 : Int} (h : W.heap[g]? = some (.cells #[.slice A0 f0.length c0, .int .i64 f1, .int .i64 f2] 123 (0, 0))) : W.cell? ⟨g, 0, none⟩ = some (.slice A0 f0.length c0) := (blk_cell h 0).trans rfl
theorem cellS123_1 {W : World} {g : Nat} {A0 : Option Addr} {c0 : Nat} {f0 : List Int} {f1 : Int} {f2 : Int} (h : W.heap[g]? = some (.cells #[.slice A0 f0.length c0, .int .i64 f1, .int .i64 f2] 123 (0, 0))) : W.cell? ⟨g, 1, none⟩ = some (.int .i64 f1) := (blk_cell h 1).trans rfl
theorem IsS123.set_1 {w0 W : World} {g : Nat} {f0 : List Int} {f1 : Int} {f2 : Int} (h : IsS123 w0 W g f0 f1 f2) (x : Int) : IsS123 w0 (W.setCell ⟨g, 1, none⟩ (.int .i64 x)) g f0 x f2 := by
  obtain ⟨A0, c0, hb, hg, hr0⟩ := h
  exact ⟨A0, c0, by simpa using blk_set hb 1 (.int .i64 x), hg, hr0⟩
theorem cellS123_2 {W : World} {g : Nat} {A0 : Option Addr} {c0 : Nat} {f0 : List Int} {f1 : Int} {f2 : Int} (h : W.heap[g]? = some (.cells #[.slice A0 f0.length c0, .int .i64 f1, .int .i64 f2] 123 (0, 0))) : W.cell? ⟨g, 2, none⟩ = some (.int .i64 f2) := (blk_cell h 2).trans rfl
theorem IsS123.set_2 {w0 W : World} {g : Nat} {f0 : List Int} {f1 : Int} {f2 : Int} (h : IsS123 w0 W g f0 f1 f2) (x : Int) : IsS123 w0 (W.setCell ⟨g, 2, none⟩ (.int .i64 x)) g f0 f1 x := by
  obtain ⟨A0, c0, hb, hg, hr0⟩ := h
  exact ⟨A0, c0, by simpa using blk_set hb 2 (.int .i64 x), hg, hr0⟩
def IsS103 (w0 W : World) (g : Nat) (f0 : List Int) (f1 : Int) (f2 : Int) : Prop := ∃ A0 c0, W.heap[g]? = some (.cells #[.slice A0 f0.length c0, .int .i64 f1, .int .u64 f2] 103 (0, 0)) ∧ w0.heap.size ≤ g ∧ Kd.C (Kd.int .u8) w0 A0 f0.length f0
theorem IsS103.grown {w0 W : World} {g : Nat} {f0 : List Int} {f1 : Int} {f2 : Int} {W1 : World} {row : Option Nat} (h : IsS103 w0 W g f0 f1 f2) (hw : W.grownBy W1 row) (hne : some g ≠ row) : IsS103 w0 W1 g f0 f1 f2 := by
  obtain ⟨A0, c0, hb, hg, hr0⟩ := h
  exact ⟨A0, c0, blk_grown hb hw hne, hg, hr0⟩
theorem IsS103.fresh {w0 W : World} {g : Nat} {f0 : List Int} {f1 : Int} {f2 : Int} (h : IsS103 w0 W g f0 f1 f2) : ∀ k, W.heap.size ≤ k → k ≠ g := by
  obtain ⟨A0, c0, hb, hg, hr0⟩ := h
  exact Kd.freshB hb
theorem IsS103.below {w0 W : World} {g : Nat} {f0 : List Int} {f1 : Int} {f2 : Int} {W1 : World} (h : IsS103 w0 W g f0 f1 f2) (hw : Below W.heap.size W W1) : IsS103 w0 W1 g f0 f1 f2 := h.grown (grown_of_below hw none) (by simp)
theorem IsS103.alloc {w0 W : World} {g : Nat} {f0 : List Int} {f1 : Int} {f2 : Int} (h : IsS103 w0 W g f0 f1 f2) (o : Obj) : IsS103 w0 (W.alloc o) g f0 f1 f2 := h.below (below_alloc (Below.refl _ _) o)
theorem IsS103.drewN {w0 W : World} {g : Nat} {f0 : List Int} {f1 : Int} {f2 : Int} (h : IsS103 w0 W g f0 f1 f2) (m : Nat) : IsS103 w0 (W.drewN m) g f0 f1 f2 := h
theorem IsS103.drew {w0 W : World} {g : Nat} {f0 : List Int} {f1 : Int} {f2 : Int} (h : IsS103 w0 W g f0 f1 f2) : IsS103 w0 W.drew g f0 f1 f2 := h
theorem IsS103.apart {w0 W : World} {g : Nat} {f0 : List Int} {f1 : Int} {f2 : Int} {α : Type} {d : Kd α} {e : Nat} {base : Nat} {ok : Nat → Prop} {v : Value} {xs : List α} (h : IsS103 w0 W g f0 f1 f2) (ho : d.R e W base ok v xs) (ht : ∀ q, q ∈ e :: d.E → q ≠ 103) : d.R e W base (fun k => ok k ∧ k ≠ g) v xs := by
  obtain ⟨A0, c0, hb, hg, hr0⟩ := h
  exact Kd.R_types ho hb ht
theorem IsS103.own_ne {w0 W : World} {g : Nat} {f0 : List Int} {f1 : Int} {f2 : Int} {α : Type} {d : Kd α} {e : Nat} {base : Nat} {ok : Nat → Prop} {v : Value} {xs : List α} (h : IsS103 w0 W g f0 f1 f2) (ho : d.R e W base ok v xs) (ht : e ≠ 103) : some g ≠ v.ownBlock := by
  obtain ⟨A0, c0, hb, hg, hr0⟩ := h
  exact Kd.R_ne ho hb ht
theorem IsS103.lt {w0 W : World} {g : Nat} {f0 : List Int} {f1 : Int} {f2 : Int} (h : IsS103 w0 W g f0 f1 f2) : g < W.heap.size := by
  obtain ⟨A0, c0, hb, hg, hr0⟩ := h
  exact blk_lt hb
theorem IsS103.ge {w0 W : World} {g : Nat} {f0 : List Int} {f1 : Int} {f2 : Int} (h : IsS103 w0 W g f0 f1 f2) : w0.heap.size ≤ g := by
  obtain ⟨A0, c0, hb, hg, hr0⟩ := h
  exact hg
theorem IsS103.ne_blk {w0 W : World} {g : Nat} {f0 : List Int} {f1 : Int} {f2 : Int} {a : Nat} {cs : Array Value} {t : TypeId} {fr : Nat × Nat} (h : IsS103 w0 W g f0 f1 f2) (hb2 : W.heap[a]? = some (.cells cs t fr)) (ht : t ≠ 103) : g ≠ a := by
  obtain ⟨A0, c0, hb, hg, hr0⟩ := h
  rintro rfl
  rw [hb] at hb2
  injection hb2 with hb2
  injection hb2 with _ ht2
  exact ht ht2.symm
theorem IsS103.far {w0 W : World} {g : Nat} {f0 : List Int} {f1 : Int} {f2 : Int} {p : Addr} (h : IsS103 w0 W g f0 f1 f2) (hne : g ≠ p.block) (u : Value) : IsS103 w0 (W.setCell p u) g f0 f1 f2 := by
  obtain ⟨A0, c0, hb, hg, hr0⟩ := h
  exact ⟨A0, c0, blk_far hb hne u, hg, hr0⟩
theorem cellS103_0 {W : World} {g : Nat} {A0 : Option Addr} {c0 : Nat} {f0 : List Int} {f1 : Int} {f2 : Int} (h : W.heap[g]? = some (.cells #[.slice A0 f0.length c0, .int .i64 f1, .int .u64 f2] 103 (0, 0))) : W.cell? ⟨g, 0, none⟩ = some (.slice A0 f0.length c0) := (blk_cell h 0).trans rfl
theorem cellS103_1 {W : World} {g : Nat} {A0 : Option Addr} {c0 : Nat} {f0 : List Int} {f1 : Int} {f2 : Int} (h : W.heap[g]? = some (.cells #[.slice A0 f0.length c0, .int .i64 f1, .int .u64 f2] 103 (0, 0))) : W.cell? ⟨g, 1, none⟩ = some (.int .i64 f1) := (blk_cell h 1).trans rfl
theorem IsS103.set_1 {w0 W : World} {g : Nat} {f0 : List Int} {f1 : Int} {f2 : Int} (h : IsS103 w0 W g f0 f1 f2) (x : Int) : IsS103 w0 (W.setCell ⟨g, 1, none⟩ (.int .i64 x)) g f0 x f2 := by
  obtain ⟨A0, c0, hb, hg, hr0⟩ := h
  exact ⟨A0, c0, by simpa using blk_set hb 1 (.int .i64 x), hg, hr0⟩
theorem cellS103_2 {W : World} {g : Nat} {A0 : Option Addr} {c0 : Nat} {f0 : List Int} {f1 : Int} {f2 : Int} (h : W.heap[g]? = some (.cells #[.slice A0 f0.length c0, .int .i64 f1, .int .u64 f2] 103 (0, 0))) : W.cell? ⟨g, 2, none⟩ = some (.int .u64 f2) := (blk_cell h 2).trans rfl
theorem IsS103.set_2 {w0 W : World} {g : Nat} {f0 : List Int} {f1 : Int} {f2 : Int} (h : IsS103 w0 W g f0 f1 f2) (x : Int) : IsS103 w0 (W.setCell ⟨g, 2, none⟩ (.int .u64 x)) g f0 f1 x := by
  obtain ⟨A0, c0, hb, hg, hr0⟩ := h
  exact ⟨A0, c0, by simpa using blk_set hb 2 (.int .u64 x), hg, hr0⟩
theorem vi103 {w0 W W2 : World} {g : Nat} {f0 : List Int} {f1 : Int} {f2 : Int} {e0 : List Int} {e1 : Int} {e2 : Int} (h : IsS103 w0 W g f0 f1 f2) (k : IsS103 w0 W g f0 f1 f2 → IsS103 w0 W2 g e0 e1 e2 := by intro h; repeat (first | (with_reducible first | exact h | apply IsS103.alloc | apply IsS103.drewN | apply IsS103.drew | apply IsS103.set_1 | apply IsS103.set_2) | exact h)) : IsS103 w0 W2 g e0 e1 e2 := k h
theorem vj103 {w W W1 W2 : World} {g : Nat} {f0 : List Int} {f1 : Int} {f2 : Int} (h : Below w.heap.size w W) (i : IsS103 w W1 g f0 f1 f2) (k : w.heap.size ≤ g → Below w.heap.size w W → Below w.heap.size w W2 := by intro i h; repeat (first | (with_reducible first | exact h | apply below_alloc | apply pw_below_drewN | apply below_drew1 | refine below_set ?_ i) | exact h)) : Below w.heap.size w W2 := k (IsS103.ge i) h
theorem vi123 {w0 W W2 : World} {g : Nat} {f0 : List Int} {f1 : Int} {f2 : Int} {e0 : List Int} {e1 : Int} {e2 : Int} (h : IsS123 w0 W g f0 f1 f2) (k : IsS123 w0 W g f0 f1 f2 → IsS123 w0 W2 g e0 e1 e2 := by intro h; repeat (first | (with_reducible first | exact h | apply IsS123.alloc | apply IsS123.drewN | apply IsS123.drew | apply IsS123.set_1 | apply IsS123.set_2) | exact h)) : IsS123 w0 W2 g e0 e1 e2 := k h
theorem vj123 {w W W1 W2 : World} {g : Nat} {f0 : List Int} {f1 : Int} {f2 : Int} (h : Below w.heap.size w W) (i : IsS123 w W1 g f0 f1 f2) (k : w.heap.size ≤ g → Below w.heap.size w W → Below w.heap.size w W2 := by intro i h; repeat (first | (with_reducible first | exact h | apply below_alloc | apply pw_below_drewN | apply below_drew1 | refine below_set ?_ i) | exact h)) : Below w.heap.size w W2 := k (IsS123.ge i) h
theorem vg123 {w W W1 W2 : World} {g j : Nat} {f0 : List Int} {f1 : Int} {f2 : Int} (h : Below w.heap.size w W) (i : IsS123 w W1 g f0 f1 f2) (q : w.heap.size ≤ j) (k : w.heap.size ≤ g → w.heap.size ≤ j → Below w.heap.size w W → Below w.heap.size w W2 := by intro i q h; repeat (first | (with_reducible first | exact h | apply below_alloc | apply pw_below_drewN | apply below_drew1 | refine below_set ?_ i | refine below_set ?_ q) | exact h)) : Below w.heap.size w W2 := k (IsS123.ge i) q h
theorem vi96 {w0 W W2 : World} {g : Nat} {f0 : List (S33)} {f1 : Int} {f2 : Int} {f3 : Bool} {f4 : Bool} {f5 : Bool} {f6 : Bool} {f7 : Bool} {f8 : Int} {f9 : List Int} {e0 : List (S33)} {e1 : Int} {e2 : Int} {e3 : Bool} {e4 : Bool} {e5 : Bool} {e6 : Bool} {e7 : Bool} {e8 : Int} {e9 : List Int} (h : IsS96 w0 W g f0 f1 f2 f3 f4 f5 f6 f7 f8 f9) (k : IsS96 w0 W g f0 f1 f2 f3 f4 f5 f6 f7 f8 f9 → IsS96 w0 W2 g e0 e1 e2 e3 e4 e5 e6 e7 e8 e9 := by intro h; repeat (first | (with_reducible first | exact h | apply IsS96.alloc | apply IsS96.drewN | apply IsS96.drew | apply IsS96.set_1 | apply IsS96.set_2 | apply IsS96.set_3 | apply IsS96.set_4 | apply IsS96.set_5 | apply IsS96.set_6 | apply IsS96.set_7 | apply IsS96.set_8) | exact h)) : IsS96 w0 W2 g e0 e1 e2 e3 e4 e5 e6 e7 e8 e9 := k h
theorem vj96 {w W W1 W2 : World} {g : Nat} {f0 : List (S33)} {f1 : Int} {f2 : Int} {f3 : Bool} {f4 : Bool} {f5 : Bool} {f6 : Bool} {f7 : Bool} {f8 : Int} {f9 : List Int} (h : Below w.heap.size w W) (i : IsS96 w W1 g f0 f1 f2 f3 f4 f5 f6 f7 f8 f9) (k : w.heap.size ≤ g → Below w.heap.size w W → Below w.heap.size w W2 := by intro i h; repeat (first | (with_reducible first | exact h | apply below_alloc | apply pw_below_drewN | apply below_drew1 | refine below_set ?_ i) | exact h)) : Below w.heap.size w W2 := k (IsS96.ge i) h
theorem vq {w W W2 : World} {j : Nat} (h : Below w.heap.size w W) (q : w.heap.size ≤ j) (k : w.heap.size ≤ j → Below w.heap.size w W → Below w.heap.size w W2 := by intro q h; repeat (first | (with_reducible first | exact h | apply below_alloc | apply pw_below_drewN | apply below_drew1 | refine below_set ?_ q) | exact h)) : Below w.heap.size w W2 := k q h
theorem vK {w W W2 : World} {g : Nat} (h : KeepBut w W g none) (k : KeepBut w W g none → KeepBut w W2 g none := by intro h; repeat (first | (with_reducible first | exact h | apply KeepBut.set_ | apply keep_drewN | apply keep_drew | apply keep_alloc) | exact h)) : KeepBut w W2 g none := k h

end Go.Proofs.Ytjgbncpbenmjoaa.Pall
