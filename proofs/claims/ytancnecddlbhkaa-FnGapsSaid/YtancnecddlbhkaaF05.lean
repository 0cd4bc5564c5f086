/- Go functions of the program, each as a Lean function, and the proof that each call comes to what the Lean function tells; no condition beyond those that stand there. -/
import Derived.Test.YtancnecddlbhkaaF00
import Derived.Test.YtancnecddlbhkaaSpare
import Derived.Test.YtancnecddlbhkaaCm
import Derived.Test.YtancnecddlbhkaaCm3
import Derived.Test.YtancnecddlbhkaaCm6
namespace Go.Proofs.Ytancnecddlbhkaa.Pall
open Go.RowKit Go.Proofs.YtancnecddlbhkaaW.PrintWords
set_option linter.unusedVariables false
set_option linter.unusedSimpArgs false

/-! ### spec_l01Own: function 90 -/
def spec_l01Own.f (l0 : List Int) : Option (List Int) := (some (([] : List Int) : List Int)).bind fun y0 => (if y0.length + l0.length < 17592186044416 then (some (y0 ++ l0)) else (none))
set_option maxHeartbeats 8000000 in
set_option maxRecDepth 100000 in
theorem spec_l01Own.calls (A0 : Option Addr) (c0 : Nat) (l0 : List Int) (r : List Int) (w : World) (hr0 : Kd.C (Kd.int .i64) w A0 l0.length l0) (hc0 : l0.length ≤ c0) (h : spec_l01Own.f l0 = some r) :
  Calls Try.prog 90 #[.slice A0 l0.length c0] w fun e w' => ∃ v0_ : Value, e = .returned (v0_) ∧ Kd.R (Kd.int .i64) 2 w' w.heap.size (fun _ => True) v0_ r ∧ Below w.heap.size w w' := by
 have HR0 := ak hr0; have HC0 := ak hc0; clear hr0 hc0; have HB := ak (Below.refl w.heap.size w); unfold spec_l01Own.f at h; have H := h; clear h; obtain ⟨y0, Ny0, H⟩ := bnE H; by_cases c2 : y0.length + l0.length < 17592186044416
 ·rw [if_pos c2] at H; have LMc2 := ak c2; clear c2; obtain ⟨y1, hy1⟩ := gen_ ((y0 ++ l0 : List Int)); rw [← hy1] at H; have Ny1 := ak hy1; clear hy1; obtain rfl := sj H; go_enter Try.func90, Try.ntmps90; go_wp2_with (first | ((with_reducible refine gate_dst (N := 3) rfl ?_); refine Kd.R_lit (Kd.int .i64) _ 2 ?hg (N := 3) ?hd (xs := ([] : List Int)) (inner := []) (ok := fun _ => True) (okp := fun _ => True) ?hr ?hp (fun _ hk => hk) trivial (Below.refl _ _) (Nat.le_refl _) (by simp) ?_; (case hd => rfl); (case hg => rfl); (case hr => first | (go_simp; done) | (go_simp; rfl)); (case hp => exact (Reps.none _ _)); intro v4 w3 ho2 hb hg_ hnew_; clear hg_ hnew_; (first | rw [← Ny0.1] at ho2 | (simp only [Int.reduceToNat] at ho2; rw [← Ny0.1] at ho2)); have HO3 := ak (Kd.R_lower ho2 (below_size (vb HB.1))); replace HB := bs HB hb; clear hb ho2) | ((with_reducible refine at_bi (b := .append) (xs := #[.tmp 3, .tmp 4]) rfl ?_); at_builtin; refine Kd.R_append_rows (Kd.int .i64) (w0 := w) w.heap.size rfl (.tmp 3) (.tmp 4) 24 2 (.int .i64 0) 8 rfl Try.underlying24 info2 rfl (by decide) (by omega) v4 y0 l0 _ _ _ (fun _ => True) (fun _ => False) rfl rfl ?aO ?aR (fun _ _ h => h) (fun _ h => h.elim) ?aF ?aB ?aS ?aL ?_; (case aR => exact vd HR0.1 HB.1); (case aB => exact (vb HB.1)); (case aF => exact (fun _ _ => trivial)); (case aO => exact (vr HO3.1)); (case aS => exact (below_size (vb HB.1))); (case aL => have := LMc2.1; omega); intro v6 w5 ho hb hg hat; rw [← Ny1.1] at ho; have n0_ := ak (hb); have n1_ := ak (ho); clear HB; clear HO3; have HB := n0_; have HO5 := n1_; clear n0_ n1_; clear ho hb hg hat))
  go_ret
  exact ⟨_, ew, vr HO5.1, vb HB.1⟩
 ·exact nO_ c2 H


/-! ### impl_copyList: function 91 -/
def impl_copyList.f (l0 : List Int) : Option (List Int) := (some (([] : List Int) : List Int)).bind fun y0 => (if y0.length + l0.length < 17592186044416 then (some (y0 ++ l0)) else (none))
set_option maxHeartbeats 8000000 in
set_option maxRecDepth 100000 in
theorem impl_copyList.calls (A0 : Option Addr) (c0 : Nat) (l0 : List Int) (r : List Int) (w : World) (hr0 : Kd.C (Kd.int .i64) w A0 l0.length l0) (hc0 : l0.length ≤ c0) (h : impl_copyList.f l0 = some r) :
  Calls Try.prog 91 #[.slice A0 l0.length c0] w fun e w' => ∃ v0_ : Value, e = .returned (v0_) ∧ Kd.R (Kd.int .i64) 2 w' w.heap.size (fun _ => True) v0_ r ∧ Below w.heap.size w w' := by
 have HR0 := ak hr0; have HC0 := ak hc0; clear hr0 hc0; have HB := ak (Below.refl w.heap.size w); unfold impl_copyList.f at h; have H := h; clear h; obtain ⟨y0, Ny0, H⟩ := bnE H; by_cases c2 : y0.length + l0.length < 17592186044416
 ·rw [if_pos c2] at H; have LMc2 := ak c2; clear c2; obtain ⟨y1, hy1⟩ := gen_ ((y0 ++ l0 : List Int)); rw [← hy1] at H; have Ny1 := ak hy1; clear hy1; obtain rfl := sj H; go_enter Try.func91, Try.ntmps91; go_wp2_with (first | ((with_reducible refine gate_dst (N := 3) rfl ?_); refine Kd.R_lit (Kd.int .i64) _ 2 ?hg (N := 3) ?hd (xs := ([] : List Int)) (inner := []) (ok := fun _ => True) (okp := fun _ => True) ?hr ?hp (fun _ hk => hk) trivial (Below.refl _ _) (Nat.le_refl _) (by simp) ?_; (case hd => rfl); (case hg => rfl); (case hr => first | (go_simp; done) | (go_simp; rfl)); (case hp => exact (Reps.none _ _)); intro v4 w3 ho2 hb hg_ hnew_; clear hg_ hnew_; (first | rw [← Ny0.1] at ho2 | (simp only [Int.reduceToNat] at ho2; rw [← Ny0.1] at ho2)); have HO3 := ak (Kd.R_lower ho2 (below_size (vb HB.1))); replace HB := bs HB hb; clear hb ho2) | ((with_reducible refine at_bi (b := .append) (xs := #[.tmp 3, .tmp 4]) rfl ?_); at_builtin; refine Kd.R_append_rows (Kd.int .i64) (w0 := w) w.heap.size rfl (.tmp 3) (.tmp 4) 24 2 (.int .i64 0) 8 rfl Try.underlying24 info2 rfl (by decide) (by omega) v4 y0 l0 _ _ _ (fun _ => True) (fun _ => False) rfl rfl ?aO ?aR (fun _ _ h => h) (fun _ h => h.elim) ?aF ?aB ?aS ?aL ?_; (case aR => exact vd HR0.1 HB.1); (case aB => exact (vb HB.1)); (case aF => exact (fun _ _ => trivial)); (case aO => exact (vr HO3.1)); (case aS => exact (below_size (vb HB.1))); (case aL => have := LMc2.1; omega); intro v6 w5 ho hb hg hat; rw [← Ny1.1] at ho; have n0_ := ak (hb); have n1_ := ak (ho); clear HB; clear HO3; have HB := n0_; have HO5 := n1_; clear n0_ n1_; clear ho hb hg hat))
  go_ret
  exact ⟨_, ew, vr HO5.1, vb HB.1⟩
 ·exact nO_ c2 H


end Go.Proofs.Ytancnecddlbhkaa.Pall
