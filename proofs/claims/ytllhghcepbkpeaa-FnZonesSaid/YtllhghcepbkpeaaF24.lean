/- Go functions of the program, each as a Lean function, and the proof that each call comes to what the Lean function tells; no condition beyond those that stand there. -/
import Derived.Test.YtllhghcepbkpeaaF00
import Derived.Test.YtllhghcepbkpeaaF03
import Derived.Test.YtllhghcepbkpeaaF08
import Derived.Test.YtllhghcepbkpeaaSq
import Derived.Test.YtllhghcepbkpeaaWKept
import Derived.Test.YtllhghcepbkpeaaWLast
import Derived.Test.YtllhghcepbkpeaaWMore
import Derived.Test.YtllhghcepbkpeaaWRepsOne
import Derived.Test.YtllhghcepbkpeaaWShare
import Derived.Test.YtllhghcepbkpeaaWTab
import Derived.Test.YtllhghcepbkpeaaSpare
import Derived.Test.YtllhghcepbkpeaaCm
import Derived.Test.YtllhghcepbkpeaaCm4
import Derived.Test.YtllhghcepbkpeaaCm3
import Derived.Laws.Cover1
import Derived.Laws.CopyOwn
import Derived.Deep.RegionLaw
namespace Go.Proofs.Ytllhghcepbkpeaa.Pall
open Go.RowKit Go.Proofs.YtllhghcepbkpeaaW.PrintWords Go.Proofs.YtllhghcepbkpeaaW.PrintLast Go.Proofs.YtllhghcepbkpeaaW.PrintMore
set_option linter.unusedVariables false
set_option linter.unusedSimpArgs false

/-! ### spec_l20Insert: function 80 -/
def spec_l20Insert.l0 : Nat → List ByteArray → ByteArray → Int → Option (List ByteArray)
 | 0, _, _, _ => none
 | k + 1, x0, x1, x5 => if x5 < (x0.length : Int) then (if 0 ≤ x5 then (if (Op.bytesLess ((rdOf ByteArray.empty x0 x5).toList) x1.toList) = true then (spec_l20Insert.l0 k x0 x1 (wrap64 (x5 + 1))) else (if (rdOf ByteArray.empty x0 x5).toList = x1.toList then (some x0) else ((some (([] : List ByteArray) : List ByteArray)).bind fun y422 => (if x5 ≤ (x0.length : Int) then ((some (x0.take (x5 : Int).toNat : List ByteArray)).bind fun y425 => (if y422.length + y425.length < 8796093022208 then ((some (y422 ++ y425 : List ByteArray)).bind fun y430 => ((some (([x1] : List ByteArray) : List ByteArray)).bind fun y433 => (if y430.length + y433.length < 8796093022208 then ((some (y430 ++ y433 : List ByteArray)).bind fun y436 => ((some (x0.drop (x5 : Int).toNat : List ByteArray)).bind fun y439 => (if y436.length + y439.length < 8796093022208 then (some (y436 ++ y439)) else (none)))) else (none)))) else (none))) else (none))))) else (none)) else ((some (([] : List ByteArray) : List ByteArray)).bind fun y447 => (if 0 ≤ x5 then (if x5 ≤ (x0.length : Int) then ((some (x0.take (x5 : Int).toNat : List ByteArray)).bind fun y450 => (if y447.length + y450.length < 8796093022208 then ((some (y447 ++ y450 : List ByteArray)).bind fun y455 => ((some (([x1] : List ByteArray) : List ByteArray)).bind fun y458 => (if y455.length + y458.length < 8796093022208 then ((some (y455 ++ y458 : List ByteArray)).bind fun y461 => ((some (x0.drop (x5 : Int).toNat : List ByteArray)).bind fun y464 => (if y461.length + y464.length < 8796093022208 then (some (y461 ++ y464)) else (none)))) else (none)))) else (none))) else (none)) else (none)))
def spec_l20Insert.f (k : Nat) (l0 : List ByteArray) (a1 : ByteArray) : Option (List ByteArray) := spec_l20Insert.l0 k l0 a1 0
theorem spec_l20Insert.mono_l : ∀ k, (∀ y0 y1 y2, LeO (spec_l20Insert.l0 k y0 y1 y2) (spec_l20Insert.l0 (k + 1) y0 y1 y2))
 | 0 => fun _ _ _ r h => by simp [spec_l20Insert.l0] at h
 | k + 1 => by
  have ih0 := spec_l20Insert.mono_l k
  ·intro y0 y1 y2; unfold spec_l20Insert.l0
   repeat' first | (with_reducible first | exact ih0 _ _ _ | exact LeO.refl _ | exact LeO.none _ | refine LeO.ite ?_ ?_ | refine LeO.bind ?_ (fun _ => ?_)) | exact ih0 _ _ _ | exact LeO.none _ | refine LeO.ite ?_ ?_ | refine LeO.bind ?_ (fun _ => ?_)
theorem spec_l20Insert.mono : ∀ a0 a1 k, LeO (spec_l20Insert.f k a0 a1) (spec_l20Insert.f (k + 1) a0 a1) := by
 intro a0 a1 k; have ih0 := spec_l20Insert.mono_l k; unfold spec_l20Insert.f
 repeat' first | (with_reducible first | exact ih0 _ _ _ | exact LeO.refl _ | exact LeO.none _ | refine LeO.ite ?_ ?_ | refine LeO.bind ?_ (fun _ => ?_)) | exact ih0 _ _ _ | exact LeO.none _ | refine LeO.ite ?_ ?_ | refine LeO.bind ?_ (fun _ => ?_)
def spec_l20Insert.T6 : Bool × List (List Nat × List Nat) := (true, [([], []), ([], []), ([], []), ([1, 2], [1, 2]), ([0, 3], [0, 3]), ([], []), ([5], [5]), ([4, 6, 4], [4, 6]), ([], []), ([], []), ([8, 9], [8, 9]), ([7, 10, 7], [7, 10]), ([11, 11, 0, 1, 2, 3, 4, 5, 6, 7, 8, 9, 10, 11], [11])])
def spec_l20Insert.B6 : List Nat := [0, 0, 0, 6, 15, 0, 32, 127, 0, 0, 768, 2047, 4095]
theorem spec_l20Insert.tab6 : rtab .any (opsOf Try.f80 6) = spec_l20Insert.T6 := by kernel_rfl
theorem spec_l20Insert.bits6 : waitsOk spec_l20Insert.T6.2 spec_l20Insert.B6 = true := by kernel_rfl
set_option maxHeartbeats 8000000 in
set_option maxRecDepth 100000 in
theorem spec_l20Insert.calls (k : Nat) (P0_ : Nat → Prop) (A0 : Option Addr) (c0 : Nat) (l0 : List ByteArray) (a1 : ByteArray) (r : List ByteArray) (w : World) (hs0 : Kd.V Kd.string 9 w w.heap.size (fun k_ => P0_ k_) (.slice A0 l0.length c0) l0) (h : spec_l20Insert.f k l0 a1 = some r) :
  Calls Try.prog 80 #[.slice A0 l0.length c0, .string a1] w fun e w' => ∃ v0_ : Value, e = .returned (v0_) ∧ Kd.V Kd.string 9 w' w.heap.size (fun k_ => (P0_ k_ ∨ w.heap.size ≤ k_)) v0_ r ∧ Below w.heap.size w w' := by
 have HO0 := ak (show Kd.V Kd.string 9 w w.heap.size (fun k_ => (P0_ k_ ∨ w.heap.size ≤ k_)) (.slice A0 l0.length c0) l0 from Kd.V_mono hs0 (fun k_ hk => .inl hk)); have HB := ak (Below.refl w.heap.size w); unfold spec_l20Insert.f at h; have H := h; clear h; have H' := ak H; clear H; go_enter Try.func80, Try.ntmps80; go_wp2
 go_loopg [5] k (fun kq v5 w' => ∃ (x5_1 : Int), v5 = .int .i64 x5_1 ∧ Aside0 (spec_l20Insert.l0 kq l0 a1 x5_1 = some r) ∧ Aside0 (kq ≤ k) ∧ Aside0 (Kd.V Kd.string 9 w' w.heap.size (fun k_ => (P0_ k_ ∨ w.heap.size ≤ k_)) (.slice A0 l0.length c0) l0) ∧ Aside0 (Below w.heap.size w w'))
 case atStart => exact ⟨(0), (by first | rfl | (simp; done) | (simp [*]; done)), H', ⟨Nat.le_refl _⟩, ⟨vV HO0.out⟩, ⟨vb HB.out⟩⟩
 case round =>
  clear H'; (try clear p2); obtain ⟨x5_1, rfl, HA, HK1, HO_0, HB⟩ := hrel
  cases gk with
  | zero => exact absurd HA.out (by simp [spec_l20Insert.l0])
  | succ k1 =>
   have H := HA.out; clear HA; simp only [spec_l20Insert.l0] at H
   by_cases c3 : x5_1 < (l0.length : Int)
   ·rw [if_pos c3] at H; have c3b0 := decide_eq_true c3; clear c3; by_cases c4 : 0 ≤ x5_1
    ·rw [if_pos c4] at H; have c4b0 := decide_eq_true c4; clear c4; by_cases c5 : (Op.bytesLess ((rdOf ByteArray.empty l0 x5_1).toList) a1.toList) = true
     ·rw [if_pos c5] at H; have c5b0 : (Op.bytesLess ((rdOf ByteArray.empty l0 x5_1).toList) a1.toList) = true := c5; clear c5; have H' := ak H; clear H; have p420 : 0 ≤ (x5_1 : Int) := od; have q420 : x5_1 < (l0.length : Int) := od; obtain ⟨ad420, e420, hx420_0⟩ := Kd.at_string (Kd.V_reads' HO_0.out).2.2 x5_1 p420 q420
      cases e420; replace p420 := eq_true p420; replace q420 := eq_true q420; go_wp2
      go_roundg k1
      case measure => have := HK1.out; omega
      case rel => exact ⟨(wrap64 (x5_1 + 1)), (by first | rfl | (simp; done) | (simp [*]; done)), H', ⟨by have := HK1.out; omega⟩, ⟨vV HO_0.out⟩, ⟨vb HB.out⟩⟩
     ·rw [if_neg c5] at H; have c5b0 : (Op.bytesLess ((rdOf ByteArray.empty l0 x5_1).toList) a1.toList) = false := by simpa using c5
      clear c5; by_cases c6 : (rdOf ByteArray.empty l0 x5_1).toList = a1.toList
      ·rw [if_pos c6] at H; have c6b0 : ((rdOf ByteArray.empty l0 x5_1).toList == a1.toList) = true := beq_iff_eq.mpr c6; have c6b1 : ((rdOf ByteArray.empty l0 x5_1).toList != a1.toList) = false := bne_eq_false_iff_eq.mpr c6; clear c6; obtain rfl := Option.some.inj H; have p420 : 0 ≤ (x5_1 : Int) := od; have q420 : x5_1 < (l0.length : Int) := od; obtain ⟨ad420, e420, hx420_0⟩ := Kd.at_string (Kd.V_reads' HO_0.out).2.2 x5_1 p420 q420
       cases e420; replace p420 := eq_true p420; replace q420 := eq_true q420; have p421 : 0 ≤ (x5_1 : Int) := od; have q421 : x5_1 < (l0.length : Int) := od; obtain ⟨ad421, e421, hx421_0⟩ := Kd.at_string (Kd.V_reads' HO_0.out).2.2 x5_1 p421 q421; obtain rfl : ad420 = ad421 := (by injection e421); replace p421 := eq_true p421; replace q421 := eq_true q421; go_wp2
       go_ret
       exact ⟨_, ew, vV HO_0.out, vb HB.out⟩
      ·rw [if_neg c6] at H; have c6b0 : ((rdOf ByteArray.empty l0 x5_1).toList == a1.toList) = false := beq_eq_false_iff_ne.mpr c6; have c6b1 : ((rdOf ByteArray.empty l0 x5_1).toList != a1.toList) = true := bne_iff_ne.mpr c6; obtain ⟨y422, Ny422, H⟩ := bnE H; have c7b0 := eq_true (od : 0 ≤ x5_1); by_cases c8 : x5_1 ≤ (l0.length : Int)
       ·rw [if_pos c8] at H; have c8b0 := eq_true c8; have c8b1 : decide (x5_1 ≤ (l0.length : Int)) = true := decide_eq_true c8; clear c8; obtain ⟨y425, Ny425, H⟩ := bnE H; by_cases c9 : y422.length + y425.length < 8796093022208
        ·rw [if_pos c9] at H; have LMc9 := ak c9; clear c9; obtain ⟨y430, Ny430, H⟩ := bnE H; obtain ⟨y433, Ny433, H⟩ := bnE H; by_cases c10 : y430.length + y433.length < 8796093022208
         ·rw [if_pos c10] at H; have LMc10 := ak c10; clear c10; obtain ⟨y436, Ny436, H⟩ := bnE H; have c11b0 := eq_true (od : 0 ≤ x5_1); have c12b0 := eq_true (od : x5_1 ≤ (l0.length : Int)); obtain ⟨y439, Ny439, H⟩ := bnE H; by_cases c13 : y436.length + y439.length < 8796093022208
          ·rw [if_pos c13] at H; have LMc13 := ak c13; clear c13; obtain ⟨y444, hy444⟩ := gen_ ((y436 ++ y439 : List ByteArray)); rw [← hy444] at H; have Ny444 := ak hy444; clear hy444; obtain rfl := Option.some.inj H; have p420 : 0 ≤ (x5_1 : Int) := od; have q420 : x5_1 < (l0.length : Int) := od; obtain ⟨ad420, e420, hx420_0⟩ := Kd.at_string (Kd.V_reads' HO_0.out).2.2 x5_1 p420 q420
           cases e420; replace p420 := eq_true p420; replace q420 := eq_true q420; have p421 : 0 ≤ (x5_1 : Int) := od; have q421 : x5_1 < (l0.length : Int) := od; obtain ⟨ad421, e421, hx421_0⟩ := Kd.at_string (Kd.V_reads' HO_0.out).2.2 x5_1 p421 q421; obtain rfl : ad420 = ad421 := (by injection e421); replace p421 := eq_true p421; replace q421 := eq_true q421; (try go_wp2)
           replace HO_0 := ak (Kd.V_drew HO_0.out); replace HB := ak (below_drew1 HB.out); have q15 : (x5_1 : Int) ≤ ((l0.length : Int) : Int) := od; obtain ⟨i015, hi015, _, hsz15, _⟩ := info_parts info9; have hroom15 : l0.length ≤ c0 := (Kd.V_reads' HO_0.out).2.1; have hC15 : Kd.F Kd.string _ _ (some ad420) l0.length l0 := (Kd.V_at (base := w.heap.size) HO_0.out).2.2; have hcut15 := cut_to (P := Try.prog) 46 9 .i64 Try.underlying46 hi015 (some ad420) l0.length c0 x5_1 (od) q15 hroom15; have hr15 := Kd.F_take (m := (x5_1 : Int).toNat) hC15 (by omega); have hy15 : y425.length = (x5_1 : Int).toNat := (by rw [Ny425.out, List.length_take]; omega); rw [← Ny425.out] at hr15; rw [← hy15] at hcut15; have HO429 := ak (show Kd.V Kd.string 9 _ w.heap.size _ (.slice (some ad420) y425.length c0) y425 from Kd.V_mk (by omega) hr15); have HC429 := ak (show y425.length ≤ c0 from by omega); clear hr15 hC15 hroom15 hi015 hsz15; have KY15 := ak hy15; clear hy15; replace q15 := eq_true q15; have q16 : (x5_1 : Int) ≤ ((l0.length : Int) : Int) := od; obtain ⟨i016, hi016, _, hsz16, _⟩ := info_parts info9; have hroom16 : l0.length ≤ c0 := (Kd.V_reads' HO_0.out).2.1; have hC16 : Kd.F Kd.string _ _ (some ad420) l0.length l0 := (Kd.V_at (base := w.heap.size) HO_0.out).2.2; have q016 : (0 : Int) ≤ (x5_1 : Int) := od; have hcut16 := cut_from (P := Try.prog) 46 9 .i64 Try.underlying46 hi016 1 hsz16 (some ad420) l0.length c0 x5_1 q016 q16; have hr16 := Kd.F_cut (m := (x5_1 : Int).toNat) (c := c0) hC16 (by omega) hroom16
           obtain ⟨A16, hA16⟩ : ∃ A1, A1 = (if c0 = (x5_1 : Int).toNat then (some ad420) else ((some ad420) : Option Addr).map (·.add ((x5_1 : Int).toNat * 1))) := ⟨_, rfl⟩; obtain ⟨c16, hc16⟩ : ∃ c1, c1 = c0 - (x5_1 : Int).toNat := ⟨_, rfl⟩; have hy16 : y439.length = l0.length - (x5_1 : Int).toNat := (by rw [Ny439.out, List.length_drop] <;> omega); rw [show (l0).drop (x5_1 : Int).toNat = y439 from Ny439.out.symm] at hr16; replace hr16 : Kd.F Kd.string _ _ A16 y439.length y439 := (by rw [hA16]; exact hr16); rw [← hy16, ← hA16, ← hc16] at hcut16; have HO443 := ak (show Kd.V Kd.string 9 _ w.heap.size _ (.slice A16 y439.length c16) y439 from Kd.V_mk (by rw [hy16, hc16]; exact Nat.sub_le_sub_right hroom16 _) hr16); have HC443 := ak (show y439.length ≤ c16 from by rw [hy16, hc16]; exact Nat.sub_le_sub_right hroom16 _); clear hr16 hC16 hroom16 hi016 hsz16 hc16; have KY16 := ak hy16; have KA16 := ak hA16; clear hy16 hA16; replace q16 := eq_true q16; refine start_ (n := 13) (S := fun w' => True) (ds := []) (tf 0 13) (by kernel_rfl) rfl rfl trivial (fun hHeld => ?_); refine with_tabW spec_l20Insert.tab6 spec_l20Insert.bits6 (fun HT_ HW_ => ?_); generalize wr.drew = w14 at HO_0 HB HO429 HO443 hHeld ⊢; refine pu_ 1 34 #[false, true, false, false, false, false, false, false, false, false, false, false, false] rfl rfl ?_; refine pu_ 2 35 #[false, true, true, false, false, false, false, false, false, false, false, false, false] rfl rfl ?_; refine pu_ 3 36 #[false, true, true, true, false, false, false, false, false, false, false, false, false] rfl rfl ?_
           refine pu_ 5 38 #[false, true, true, true, false, true, false, false, false, false, false, false, false] rfl rfl ?_; refine pu_ 8 41 #[false, true, true, true, false, true, false, false, true, false, false, false, false] rfl rfl ?_; refine pu_ 9 42 #[false, true, true, true, false, true, false, false, true, true, false, false, false] rfl rfl ?_; refine pu_ 10 43 #[false, true, true, true, false, true, false, false, true, true, true, false, false] rfl rfl ?_; refine join_ (σ := Value × Value × Value) 3 #[true, true, true, true, true, true, true, false, true, true, true, false, false] (fun s_ => [(33, s_.1), (37, s_.2.1), (39, s_.2.2)]) (fun s_ w' => (Kd.V Kd.string 9 w' w.heap.size (fun k_ => (P0_ k_ ∨ w.heap.size ≤ k_) ∧ some k_ ≠ (s_.2.1 : Value).ownBlock ∧ some k_ ≠ (s_.2.2 : Value).ownBlock) (.slice (some ad420) y425.length c0) y425) ∧ (Kd.R Kd.string 9 w' w.heap.size (fun k_ => (w.heap.size ≤ k_) ∧ some k_ ≠ (s_.2.2 : Value).ownBlock) s_.2.1 y430) ∧ (Kd.R Kd.string 9 w' w.heap.size (fun k_ => (w.heap.size ≤ k_) ∧ some k_ ≠ (s_.2.1 : Value).ownBlock) s_.2.2 y433) ∧ (Kd.V Kd.string 9 w' w.heap.size (fun k_ => (P0_ k_ ∨ w.heap.size ≤ k_) ∧ some k_ ≠ (s_.2.1 : Value).ownBlock ∧ some k_ ≠ (s_.2.2 : Value).ownBlock) (.slice A16 y439.length c16) y439) ∧ (Kd.V Kd.string 9 w' w.heap.size (fun k_ => (P0_ k_ ∨ w.heap.size ≤ k_) ∧ some k_ ≠ (s_.2.1 : Value).ownBlock ∧ some k_ ≠ (s_.2.2 : Value).ownBlock) (.slice (some ad420) l0.length c0) l0) ∧ (Below w.heap.size w w')) ?_ ?_
           rotate_left
           ·intro hCont; refine two_ (i := 0) (j := 6) (Ni := some 33) (Nj := some 39) #[true, true, true, true, false, true, false, false, true, true, true, false, false] #[false, true, true, true, false, true, true, false, true, true, true, false, false] rfl rfl rfl rfl (two_of HT_.out (by kernel_rfl)) (by decide) (by decide) (fun K hK => ?_) (fun K hK => ?_)
            ·skip
             refine Kd.R_lit_step Kd.string _ 9 ?hg (N := 33) ?hd (xs := ([] : List ByteArray)) (inner := []) (ok := fun _ => True) (okp := fun _ => True) ?hr ?hp (fun _ hk => hk) trivial (Below.refl _ _) (Nat.le_refl _) (by simp) ?_; (case hd => rfl); (case hg => rfl); (case hr => first | (go_simp; done) | (go_simp; rfl)); (case hp => exact (Reps.none _ _)); intro v423 w17 ho18 hb hg_ hnew_; clear hg_ hnew_; (first | rw [← Ny422.out] at ho18 | (simp only [Int.reduceToNat] at ho18; rw [← Ny422.out] at ho18))
             replace HO_0 := ak (Kd.V_elder' (vV HO_0.out) (Kd.R_base ho18) hb); replace HO429 := ak (Kd.V_elder' (vV HO429.out) (Kd.R_base ho18) hb); replace HO443 := ak (Kd.V_elder' (vV HO443.out) (Kd.R_base ho18) hb); have HO424 := ak (Kd.R_lower (Kd.R_newM (M := fun k_ => (w.heap.size ≤ k_)) ho18 (below_size (vb HB.out)) (fun k_ h_ => h_)) (below_size (vb HB.out))); replace HB := bs HB hb; clear hb ho18; refine hK.out _ _ trivial (fun hHeld => ?_); clear hK K; refine norm_ (a' := ?_) ?_ ?_
             rotate_left
             ·show Act.put _ (some 33) _ = _
              simp only [Act.put, List.setIfInBounds_toArray, List.set_cons_zero, List.set_cons_succ, i64_w, i32_w]
              rfl
             refine two_ (i := 4) (j := 6) (Ni := some 37) (Nj := some 39) #[true, true, true, true, true, true, false, false, true, true, true, false, false] #[true, true, true, true, false, true, true, false, true, true, true, false, false] rfl rfl rfl rfl (two_of HT_.out (by kernel_rfl)) (by decide) (by decide) (fun K hK => ?_) (fun K hK => ?_)
             ·skip
              refine Kd.R_append_rows_step Kd.string (w0 := w) w.heap.size (by rfl) (.tmp 33) (.tmp 36) 46 9 (.string ⟨#[]⟩) 16 rfl Try.underlying46 info9 rfl (by decide) (by omega) v423 y422 y425 _ _ _ (fun k_ => (w.heap.size ≤ k_)) (fun _ => False) rfl rfl ?aO ?aR (fun _ _ h => h) (fun _ h => h.elim) ?aF ?aB ?aS ?aL ?_; (case aR => repeat (first | exact (Kd.V_reads' HO429.out).2.2 | (with_reducible refine Kd.C_alloc ?_ _) | (with_reducible refine Kd.C_drewN ?_ _) | (with_reducible refine Kd.C_drew ?_)))
              (case aB => exact (vb HB.out))
              (case aF => exact (fun k_ hk => (Nat.le_trans (below_size (vb HB.out)) hk)))
              (case aO => exact (by (with_reducible repeat (first | apply Kd.R_alloc | apply Kd.R_drewN | apply Kd.R_drew)); exact Kd.R_mono HO424.out (fun _ hk => hk.1)))
              (case aS => exact (below_size (vb HB.out)))
              (case aL => have := LMc9.out; omega)
              intro v431 w19 ho hb hg hat; rw [← Ny430.out] at ho; have n0_ := ak (Kd.V_afterv (ok := (fun k_ => (P0_ k_ ∨ w.heap.size ≤ k_))) (vV HO_0.out) hg hat); have n1_ := ak (Kd.V_afterv (ok := (fun k_ => (P0_ k_ ∨ w.heap.size ≤ k_))) (vV HO429.out) hg hat); have n2_ := ak (Kd.V_afterv (ok := (fun k_ => (P0_ k_ ∨ w.heap.size ≤ k_))) (vV HO443.out) hg hat); have n3_ := ak (hb); have n4_ := ak (ho); clear HO_0; clear HO429; clear HO443; clear HB; clear HO424; have HO_0 := n0_; have HO429 := n1_; have HO443 := n2_; have HB := n3_; have HO432 := n4_; clear n0_ n1_ n2_ n3_ n4_; clear ho hb hg hat; refine hK.out _ _ trivial (fun hHeld => ?_); clear hK K; refine norm_ (a' := ?_) ?_ ?_
              rotate_left
              ·show Act.put _ (some 37) _ = _
               simp only [Act.put, List.setIfInBounds_toArray, List.set_cons_zero, List.set_cons_succ, i64_w, i32_w]
               rfl
              refine one_ (i := 6) (N := some 39) #[true, true, true, true, true, true, true, false, true, true, true, false, false] rfl rfl (one_of HT_.out (by kernel_rfl)) (by decide) (fun K hK => ?_); refine Kd.R_lit_step Kd.string _ 9 ?hg (N := 39) ?hd (xs := ([a1] : List ByteArray)) (inner := [.string a1]) (ok := fun _ => True) (okp := fun _ => True) ?hr ?hp (fun _ hk => hk) trivial (Below.refl _ _) (Nat.le_refl _) (by simp) ?_; (case hd => rfl); (case hg => rfl); (case hr => first | (go_simp; done) | (go_simp; rfl)); (case hp => exact (Reps.one (show Kd.M Kd.string _ _ _ a1 [.string a1] from rfl) (Reps.none _ _))); intro v434 w20 ho21 hb hg_ hnew_; clear hg_ hnew_; (first | rw [← Ny433.out] at ho21 | (simp only [Int.reduceToNat] at ho21; rw [← Ny433.out] at ho21))
              replace HO_0 := ak (Kd.V_elder' (vV HO_0.out) (Kd.R_base ho21) hb); replace HO429 := ak (Kd.V_elder' (vV HO429.out) (Kd.R_base ho21) hb); replace HO443 := ak (Kd.V_elder' (vV HO443.out) (Kd.R_base ho21) hb); have HO435 := ak (Kd.R_lower (Kd.R_new' (Kd.R_newM (M := fun k_ => (w.heap.size ≤ k_)) ho21 (below_size (vb HB.out)) (fun k_ h_ => h_)) (Kd.R_lt (vr HO432.out))) (below_size (vb HB.out))); replace HO432 := ak (Kd.R_elder' (vr HO432.out) (Kd.R_base ho21) hb); replace HB := bs HB hb; clear hb ho21; refine hK.out _ _ trivial (fun hHeld => ?_); clear hK K; refine norm_ (a' := ?_) ?_ ?_
              rotate_left
              ·show Act.put _ (some 39) _ = _
               simp only [Act.put, List.setIfInBounds_toArray, List.set_cons_zero, List.set_cons_succ, i64_w, i32_w]
               rfl
              exact norm_ (by simp only [putAll, Act.put, List.setIfInBounds_toArray, List.set_cons_zero, List.set_cons_succ]) (hCont (v423, v431, v434) _ ⟨(by (with_reducible repeat (first | apply Kd.V_alloc | apply Kd.V_drewN | apply Kd.V_drew)); exact Kd.V_mono HO429.out (fun _ hk => ⟨hk.1.1, ⟨hk.1.2, hk.2⟩⟩)), (vr HO432.out), (by (with_reducible repeat (first | apply Kd.R_alloc | apply Kd.R_drewN | apply Kd.R_drew)); exact Kd.R_mono HO435.out (fun _ hk => ⟨hk.1.1, hk.2⟩)), (by (with_reducible repeat (first | apply Kd.V_alloc | apply Kd.V_drewN | apply Kd.V_drew)); exact Kd.V_mono HO443.out (fun _ hk => ⟨hk.1.1, ⟨hk.1.2, hk.2⟩⟩)), (by (with_reducible repeat (first | apply Kd.V_alloc | apply Kd.V_drewN | apply Kd.V_drew)); exact Kd.V_mono HO_0.out (fun _ hk => ⟨hk.1.1, ⟨hk.1.2, hk.2⟩⟩)), (vb HB.out)⟩)
             ·skip
              refine Kd.R_lit_step Kd.string _ 9 ?hg (N := 39) ?hd (xs := ([a1] : List ByteArray)) (inner := [.string a1]) (ok := fun _ => True) (okp := fun _ => True) ?hr ?hp (fun _ hk => hk) trivial (Below.refl _ _) (Nat.le_refl _) (by simp) ?_; (case hd => rfl); (case hg => rfl); (case hr => first | (go_simp; done) | (go_simp; rfl)); (case hp => exact (Reps.one (show Kd.M Kd.string _ _ _ a1 [.string a1] from rfl) (Reps.none _ _))); intro v434 w19 ho20 hb hg_ hnew_; clear hg_ hnew_; (first | rw [← Ny433.out] at ho20 | (simp only [Int.reduceToNat] at ho20; rw [← Ny433.out] at ho20))
              replace HO_0 := ak (Kd.V_elder' (vV HO_0.out) (Kd.R_base ho20) hb); replace HO429 := ak (Kd.V_elder' (vV HO429.out) (Kd.R_base ho20) hb); replace HO443 := ak (Kd.V_elder' (vV HO443.out) (Kd.R_base ho20) hb); have HO435 := ak (Kd.R_lower (Kd.R_new' (Kd.R_newM (M := fun k_ => (w.heap.size ≤ k_)) ho20 (below_size (vb HB.out)) (fun k_ h_ => h_)) (Kd.R_lt (vr HO424.out))) (below_size (vb HB.out))); replace HO424 := ak (Kd.R_elder' (vr HO424.out) (Kd.R_base ho20) hb); replace HB := bs HB hb; clear hb ho20; refine hK.out _ _ trivial (fun hHeld => ?_); clear hK K; refine norm_ (a' := ?_) ?_ ?_
              rotate_left
              ·show Act.put _ (some 39) _ = _
               simp only [Act.put, List.setIfInBounds_toArray, List.set_cons_zero, List.set_cons_succ, i64_w, i32_w]
               rfl
              refine one_ (i := 4) (N := some 37) #[true, true, true, true, true, true, true, false, true, true, true, false, false] rfl rfl (one_of HT_.out (by kernel_rfl)) (by decide) (fun K hK => ?_); refine Kd.R_append_rows_step Kd.string (w0 := w) w.heap.size (by rfl) (.tmp 33) (.tmp 36) 46 9 (.string ⟨#[]⟩) 16 rfl Try.underlying46 info9 rfl (by decide) (by omega) v423 y422 y425 _ _ _ (fun k_ => (w.heap.size ≤ k_) ∧ some k_ ≠ (v434 : Value).ownBlock) (fun _ => False) rfl rfl ?aO ?aR (fun _ _ h => h) (fun _ h => h.elim) ?aF ?aB ?aS ?aL ?_; (case aR => repeat (first | exact (Kd.V_reads' HO429.out).2.2 | (with_reducible refine Kd.C_alloc ?_ _) | (with_reducible refine Kd.C_drewN ?_ _) | (with_reducible refine Kd.C_drew ?_)))
              (case aB => exact (vb HB.out))
              (case aF => exact (fun k_ hk => ⟨(Nat.le_trans (below_size (vb HB.out)) hk), Kd.fresh' (Kd.R_lt (vr HO435.out)) k_ hk⟩))
              (case aO => exact (by (with_reducible repeat (first | apply Kd.R_alloc | apply Kd.R_drewN | apply Kd.R_drew)); exact Kd.R_mono HO424.out (fun _ hk => ⟨hk.1.1, hk.2⟩)))
              (case aS => exact (below_size (vb HB.out)))
              (case aL => have := LMc9.out; omega)
              intro v431 w21 ho hb hg hat; rw [← Ny430.out] at ho; have n0_ := ak (Kd.V_afterv (ok := (fun k_ => (P0_ k_ ∨ w.heap.size ≤ k_) ∧ some k_ ≠ (v434 : Value).ownBlock)) (by (with_reducible repeat (first | apply Kd.V_alloc | apply Kd.V_drewN | apply Kd.V_drew)); exact Kd.V_mono HO_0.out (fun _ hk => ⟨⟨hk.1.1, hk.2⟩, hk.1.2⟩)) hg hat); have n1_ := ak (Kd.V_afterv (ok := (fun k_ => (P0_ k_ ∨ w.heap.size ≤ k_) ∧ some k_ ≠ (v434 : Value).ownBlock)) (by (with_reducible repeat (first | apply Kd.V_alloc | apply Kd.V_drewN | apply Kd.V_drew)); exact Kd.V_mono HO429.out (fun _ hk => ⟨⟨hk.1.1, hk.2⟩, hk.1.2⟩)) hg hat); have n2_ := ak (Kd.V_afterv (ok := (fun k_ => (P0_ k_ ∨ w.heap.size ≤ k_) ∧ some k_ ≠ (v434 : Value).ownBlock)) (by (with_reducible repeat (first | apply Kd.V_alloc | apply Kd.V_drewN | apply Kd.V_drew)); exact Kd.V_mono HO443.out (fun _ hk => ⟨⟨hk.1.1, hk.2⟩, hk.1.2⟩)) hg hat); have n3_ := ak (Kd.R_after (ok := (fun k_ => (w.heap.size ≤ k_))) (by (with_reducible repeat (first | apply Kd.R_alloc | apply Kd.R_drewN | apply Kd.R_drew)); exact Kd.R_mono HO435.out (fun _ hk => ⟨hk.1.1, hk.2⟩)) hg hat); have n4_ := ak (hb); have n5_ := ak (ho); clear HO_0; clear HO429; clear HO443; clear HO435; clear HB; clear HO424; have HO_0 := n0_; have HO429 := n1_; have HO443 := n2_; have HO435 := n3_; have HB := n4_; have HO432 := n5_; clear n0_ n1_ n2_ n3_ n4_ n5_; clear ho hb hg hat; refine hK.out _ _ trivial (fun hHeld => ?_); clear hK K
              refine norm_ (a' := ?_) ?_ ?_
              rotate_left
              ·show Act.put _ (some 37) _ = _
               simp only [Act.put, List.setIfInBounds_toArray, List.set_cons_zero, List.set_cons_succ, i64_w, i32_w]
               rfl
              exact norm_ (by simp only [putAll, Act.put, List.setIfInBounds_toArray, List.set_cons_zero, List.set_cons_succ]) (hCont (v423, v431, v434) _ ⟨(by (with_reducible repeat (first | apply Kd.V_alloc | apply Kd.V_drewN | apply Kd.V_drew)); exact Kd.V_mono HO429.out (fun _ hk => ⟨hk.1.1, ⟨hk.2, hk.1.2⟩⟩)), (vr HO432.out), (vr HO435.out), (by (with_reducible repeat (first | apply Kd.V_alloc | apply Kd.V_drewN | apply Kd.V_drew)); exact Kd.V_mono HO443.out (fun _ hk => ⟨hk.1.1, ⟨hk.2, hk.1.2⟩⟩)), (by (with_reducible repeat (first | apply Kd.V_alloc | apply Kd.V_drewN | apply Kd.V_drew)); exact Kd.V_mono HO_0.out (fun _ hk => ⟨hk.1.1, ⟨hk.2, hk.1.2⟩⟩)), (vb HB.out)⟩)
            ·skip
             refine Kd.R_lit_step Kd.string _ 9 ?hg (N := 39) ?hd (xs := ([a1] : List ByteArray)) (inner := [.string a1]) (ok := fun _ => True) (okp := fun _ => True) ?hr ?hp (fun _ hk => hk) trivial (Below.refl _ _) (Nat.le_refl _) (by simp) ?_; (case hd => rfl); (case hg => rfl); (case hr => first | (go_simp; done) | (go_simp; rfl)); (case hp => exact (Reps.one (show Kd.M Kd.string _ _ _ a1 [.string a1] from rfl) (Reps.none _ _))); intro v434 w17 ho18 hb hg_ hnew_; clear hg_ hnew_; (first | rw [← Ny433.out] at ho18 | (simp only [Int.reduceToNat] at ho18; rw [← Ny433.out] at ho18))
             replace HO_0 := ak (Kd.V_elder' (vV HO_0.out) (Kd.R_base ho18) hb); replace HO429 := ak (Kd.V_elder' (vV HO429.out) (Kd.R_base ho18) hb); replace HO443 := ak (Kd.V_elder' (vV HO443.out) (Kd.R_base ho18) hb); have HO435 := ak (Kd.R_lower (Kd.R_newM (M := fun k_ => (w.heap.size ≤ k_)) ho18 (below_size (vb HB.out)) (fun k_ h_ => h_)) (below_size (vb HB.out))); replace HB := bs HB hb; clear hb ho18; refine hK.out _ _ trivial (fun hHeld => ?_); clear hK K; refine norm_ (a' := ?_) ?_ ?_
             rotate_left
             ·show Act.put _ (some 39) _ = _
              simp only [Act.put, List.setIfInBounds_toArray, List.set_cons_zero, List.set_cons_succ, i64_w, i32_w]
              rfl
             refine one_ (i := 0) (N := some 33) #[true, true, true, true, false, true, true, false, true, true, true, false, false] rfl rfl (one_of HT_.out (by kernel_rfl)) (by decide) (fun K hK => ?_); refine Kd.R_lit_step Kd.string _ 9 ?hg (N := 33) ?hd (xs := ([] : List ByteArray)) (inner := []) (ok := fun _ => True) (okp := fun _ => True) ?hr ?hp (fun _ hk => hk) trivial (Below.refl _ _) (Nat.le_refl _) (by simp) ?_; (case hd => rfl); (case hg => rfl); (case hr => first | (go_simp; done) | (go_simp; rfl)); (case hp => exact (Reps.none _ _)); intro v423 w19 ho20 hb hg_ hnew_; clear hg_ hnew_; (first | rw [← Ny422.out] at ho20 | (simp only [Int.reduceToNat] at ho20; rw [← Ny422.out] at ho20))
             replace HO_0 := ak (Kd.V_elder' (vV HO_0.out) (Kd.R_base ho20) hb); replace HO429 := ak (Kd.V_elder' (vV HO429.out) (Kd.R_base ho20) hb); replace HO443 := ak (Kd.V_elder' (vV HO443.out) (Kd.R_base ho20) hb); have HO424 := ak (Kd.R_lower (Kd.R_new' (Kd.R_newM (M := fun k_ => (w.heap.size ≤ k_)) ho20 (below_size (vb HB.out)) (fun k_ h_ => h_)) (Kd.R_lt (vr HO435.out))) (below_size (vb HB.out))); replace HO435 := ak (Kd.R_elder' (vr HO435.out) (Kd.R_base ho20) hb); replace HB := bs HB hb; clear hb ho20; refine hK.out _ _ trivial (fun hHeld => ?_); clear hK K; refine norm_ (a' := ?_) ?_ ?_
             rotate_left
             ·show Act.put _ (some 33) _ = _
              simp only [Act.put, List.setIfInBounds_toArray, List.set_cons_zero, List.set_cons_succ, i64_w, i32_w]
              rfl
             refine one_ (i := 4) (N := some 37) #[true, true, true, true, true, true, true, false, true, true, true, false, false] rfl rfl (one_of HT_.out (by kernel_rfl)) (by decide) (fun K hK => ?_); refine Kd.R_append_rows_step Kd.string (w0 := w) w.heap.size (by rfl) (.tmp 33) (.tmp 36) 46 9 (.string ⟨#[]⟩) 16 rfl Try.underlying46 info9 rfl (by decide) (by omega) v423 y422 y425 _ _ _ (fun k_ => (w.heap.size ≤ k_) ∧ some k_ ≠ (v434 : Value).ownBlock) (fun _ => False) rfl rfl ?aO ?aR (fun _ _ h => h) (fun _ h => h.elim) ?aF ?aB ?aS ?aL ?_; (case aR => repeat (first | exact (Kd.V_reads' HO429.out).2.2 | (with_reducible refine Kd.C_alloc ?_ _) | (with_reducible refine Kd.C_drewN ?_ _) | (with_reducible refine Kd.C_drew ?_)))
             (case aB => exact (vb HB.out))
             (case aF => exact (fun k_ hk => ⟨(Nat.le_trans (below_size (vb HB.out)) hk), Kd.fresh' (Kd.R_lt (vr HO435.out)) k_ hk⟩))
             (case aO => exact (by (with_reducible repeat (first | apply Kd.R_alloc | apply Kd.R_drewN | apply Kd.R_drew)); exact Kd.R_mono HO424.out (fun _ hk => ⟨hk.1.1, hk.2⟩)))
             (case aS => exact (below_size (vb HB.out)))
             (case aL => have := LMc9.out; omega)
             intro v431 w21 ho hb hg hat; rw [← Ny430.out] at ho; have n0_ := ak (Kd.V_afterv (ok := (fun k_ => (P0_ k_ ∨ w.heap.size ≤ k_) ∧ some k_ ≠ (v434 : Value).ownBlock)) (vV HO_0.out) hg hat); have n1_ := ak (Kd.V_afterv (ok := (fun k_ => (P0_ k_ ∨ w.heap.size ≤ k_) ∧ some k_ ≠ (v434 : Value).ownBlock)) (vV HO429.out) hg hat); have n2_ := ak (Kd.V_afterv (ok := (fun k_ => (P0_ k_ ∨ w.heap.size ≤ k_) ∧ some k_ ≠ (v434 : Value).ownBlock)) (vV HO443.out) hg hat); have n3_ := ak (Kd.R_after (ok := (fun k_ => (w.heap.size ≤ k_))) (by (with_reducible repeat (first | apply Kd.R_alloc | apply Kd.R_drewN | apply Kd.R_drew)); exact Kd.R_mono HO435.out (fun _ hk => ⟨hk.1.1, hk.2⟩)) hg hat); have n4_ := ak (hb); have n5_ := ak (ho); clear HO_0; clear HO429; clear HO443; clear HO435; clear HB; clear HO424; have HO_0 := n0_; have HO429 := n1_; have HO443 := n2_; have HO435 := n3_; have HB := n4_; have HO432 := n5_; clear n0_ n1_ n2_ n3_ n4_ n5_; clear ho hb hg hat; refine hK.out _ _ trivial (fun hHeld => ?_); clear hK K; refine norm_ (a' := ?_) ?_ ?_
             rotate_left
             ·show Act.put _ (some 37) _ = _
              simp only [Act.put, List.setIfInBounds_toArray, List.set_cons_zero, List.set_cons_succ, i64_w, i32_w]
              rfl
             exact norm_ (by simp only [putAll, Act.put, List.setIfInBounds_toArray, List.set_cons_zero, List.set_cons_succ]) (hCont (v423, v431, v434) _ ⟨(by (with_reducible repeat (first | apply Kd.V_alloc | apply Kd.V_drewN | apply Kd.V_drew)); exact Kd.V_mono HO429.out (fun _ hk => ⟨hk.1.1, ⟨hk.2, hk.1.2⟩⟩)), (vr HO432.out), (vr HO435.out), (by (with_reducible repeat (first | apply Kd.V_alloc | apply Kd.V_drewN | apply Kd.V_drew)); exact Kd.V_mono HO443.out (fun _ hk => ⟨hk.1.1, ⟨hk.2, hk.1.2⟩⟩)), (by (with_reducible repeat (first | apply Kd.V_alloc | apply Kd.V_drewN | apply Kd.V_drew)); exact Kd.V_mono HO_0.out (fun _ hk => ⟨hk.1.1, ⟨hk.2, hk.1.2⟩⟩)), (vb HB.out)⟩)
           rintro ⟨v423, v431, v434⟩ w22 ⟨h0_, h1_, h2_, h3_, h4_, h5_⟩; have n0_ : Aside0 (Kd.V Kd.string 9 w22 w.heap.size (fun k_ => (P0_ k_ ∨ w.heap.size ≤ k_) ∧ some k_ ≠ (v431 : Value).ownBlock ∧ some k_ ≠ (v434 : Value).ownBlock) (.slice (some ad420) y425.length c0) y425) := ⟨h0_⟩; have n1_ : Aside0 (Kd.R Kd.string 9 w22 w.heap.size (fun k_ => (w.heap.size ≤ k_) ∧ some k_ ≠ (v434 : Value).ownBlock) v431 y430) := ⟨h1_⟩; have n2_ : Aside0 (Kd.R Kd.string 9 w22 w.heap.size (fun k_ => (w.heap.size ≤ k_) ∧ some k_ ≠ (v431 : Value).ownBlock) v434 y433) := ⟨h2_⟩; have n3_ : Aside0 (Kd.V Kd.string 9 w22 w.heap.size (fun k_ => (P0_ k_ ∨ w.heap.size ≤ k_) ∧ some k_ ≠ (v431 : Value).ownBlock ∧ some k_ ≠ (v434 : Value).ownBlock) (.slice A16 y439.length c16) y439) := ⟨h3_⟩; have n4_ : Aside0 (Kd.V Kd.string 9 w22 w.heap.size (fun k_ => (P0_ k_ ∨ w.heap.size ≤ k_) ∧ some k_ ≠ (v431 : Value).ownBlock ∧ some k_ ≠ (v434 : Value).ownBlock) (.slice (some ad420) l0.length c0) l0) := ⟨h4_⟩; have n5_ : Aside0 (Below w.heap.size w w22) := ⟨h5_⟩; clear HO_0; clear HB; clear h0_ h1_ h2_ h3_ h4_ h5_; have HO429 := n0_; have HO432 := n1_; have HO435 := n2_; have HO443 := n3_; have HO_0 := n4_; have HB := n5_; clear n0_ n1_ n2_ n3_ n4_ n5_; have hHeld := trivial; obtain ⟨Ao24, co24, eo24⟩ := Kd.R_slice HO435.out; (first | subst eo24 | (injection eo24 with f1_ f2_ f3_; have f4_ := f1_.symm; have f5_ := f3_.symm; clear f1_ f2_ f3_; subst f4_; subst f5_))
           refine norm_ (a' := ?_) ?_ ?_
           rotate_left
           ·simp only [putAll, Act.put, List.setIfInBounds_toArray, List.set_cons_zero, List.set_cons_succ]
            rfl
           refine one_ (i := 7) (N := some 40) (tf 11 2) rfl rfl (one_of HT_.out (by kernel_rfl)) (by decide) (fun K hK => ?_); refine Kd.R_append_rows_step Kd.string (w0 := w) w.heap.size (by rfl) (.tmp 37) (.tmp 39) 46 9 (.string ⟨#[]⟩) 16 rfl Try.underlying46 info9 rfl (by decide) (by omega) v431 y430 y433 _ _ _ (fun k_ => (w.heap.size ≤ k_) ∧ some k_ ≠ (.slice Ao24 y433.length co24 : Value).ownBlock) (fun _ => False) rfl rfl ?aO ?aR (fun _ _ h => h) (fun _ h => h.elim) ?aF ?aB ?aS ?aL ?_; (case aR => repeat (first | exact (Kd.R_reads' HO435.out).2.2 | (with_reducible refine Kd.C_alloc ?_ _) | (with_reducible refine Kd.C_drewN ?_ _) | (with_reducible refine Kd.C_drew ?_)))
           (case aB => exact (vb HB.out))
           (case aF => exact (fun k_ hk => ⟨(Nat.le_trans (below_size (vb HB.out)) hk), Kd.fresh' (Kd.R_lt (vr HO435.out)) k_ hk⟩))
           (case aO => exact (vr HO432.out))
           (case aS => exact (below_size (vb HB.out)))
           (case aL => have := LMc10.out; omega)
           intro v437 w23 ho hb hg hat; rw [← Ny436.out] at ho; have n0_ := ak (Kd.V_afterv (ok := (fun k_ => (P0_ k_ ∨ w.heap.size ≤ k_) ∧ some k_ ≠ (.slice Ao24 y433.length co24 : Value).ownBlock)) (by (with_reducible repeat (first | apply Kd.V_alloc | apply Kd.V_drewN | apply Kd.V_drew)); exact Kd.V_mono HO_0.out (fun _ hk => ⟨⟨hk.1, hk.2.2⟩, hk.2.1⟩)) hg hat); have n1_ := ak (Kd.V_afterv (ok := (fun k_ => (P0_ k_ ∨ w.heap.size ≤ k_) ∧ some k_ ≠ (.slice Ao24 y433.length co24 : Value).ownBlock)) (by (with_reducible repeat (first | apply Kd.V_alloc | apply Kd.V_drewN | apply Kd.V_drew)); exact Kd.V_mono HO429.out (fun _ hk => ⟨⟨hk.1, hk.2.2⟩, hk.2.1⟩)) hg hat); have n2_ := ak (Kd.V_afterv (ok := (fun k_ => (P0_ k_ ∨ w.heap.size ≤ k_) ∧ some k_ ≠ (.slice Ao24 y433.length co24 : Value).ownBlock)) (by (with_reducible repeat (first | apply Kd.V_alloc | apply Kd.V_drewN | apply Kd.V_drew)); exact Kd.V_mono HO443.out (fun _ hk => ⟨⟨hk.1, hk.2.2⟩, hk.2.1⟩)) hg hat); have n3_ := ak (Kd.R_after (ok := (fun k_ => (w.heap.size ≤ k_))) (vr HO435.out) hg hat); have n4_ := ak (hb); have n5_ := ak (ho); clear HO_0; clear HO429; clear HO443; clear HO435; clear HB; clear HO432; have HO_0 := n0_; have HO429 := n1_; have HO443 := n2_; have HO435 := n3_; have HB := n4_; have HO438 := n5_; clear n0_ n1_ n2_ n3_ n4_ n5_; clear ho hb hg hat; refine hK.out _ _ trivial (fun hHeld => ?_); clear hK K; refine norm_ (a' := ?_) ?_ ?_
           rotate_left
           ·show Act.put _ (some 40) _ = _
            simp only [Act.put, List.setIfInBounds_toArray, List.set_cons_zero, List.set_cons_succ, i64_w, i32_w]
            rfl
           refine one_ (i := 11) (N := some 44) (tf 12 1) rfl rfl (one_of HT_.out (by kernel_rfl)) (by decide) (fun K hK => ?_); refine Kd.R_append_rows_step Kd.string (w0 := w) w.heap.size (by rfl) (.tmp 40) (.tmp 43) 46 9 (.string ⟨#[]⟩) 16 rfl Try.underlying46 info9 rfl (by decide) (by omega) v437 y436 y439 _ _ _ (fun k_ => (w.heap.size ≤ k_) ∧ some k_ ≠ (.slice Ao24 y433.length co24 : Value).ownBlock) (fun _ => False) rfl rfl ?aO ?aR (fun _ _ h => h) (fun _ h => h.elim) ?aF ?aB ?aS ?aL ?_; (case aR => repeat (first | exact (Kd.V_reads' HO443.out).2.2 | (with_reducible refine Kd.C_alloc ?_ _) | (with_reducible refine Kd.C_drewN ?_ _) | (with_reducible refine Kd.C_drew ?_)))
           (case aB => exact (vb HB.out))
           (case aF => exact (fun k_ hk => ⟨(Nat.le_trans (below_size (vb HB.out)) hk), Kd.fresh' (Kd.R_lt (vr HO435.out)) k_ hk⟩))
           (case aO => exact (vr HO438.out))
           (case aS => exact (below_size (vb HB.out)))
           (case aL => have := LMc13.out; omega)
           intro v445 w25 ho hb hg hat; rw [← Ny444.out] at ho; have n0_ := ak (Kd.V_afterv (ok := (fun k_ => (P0_ k_ ∨ w.heap.size ≤ k_) ∧ some k_ ≠ (.slice Ao24 y433.length co24 : Value).ownBlock)) (vV HO_0.out) hg hat); have n1_ := ak (Kd.V_afterv (ok := (fun k_ => (P0_ k_ ∨ w.heap.size ≤ k_) ∧ some k_ ≠ (.slice Ao24 y433.length co24 : Value).ownBlock)) (vV HO429.out) hg hat); have n2_ := ak (Kd.V_afterv (ok := (fun k_ => (P0_ k_ ∨ w.heap.size ≤ k_) ∧ some k_ ≠ (.slice Ao24 y433.length co24 : Value).ownBlock)) (vV HO443.out) hg hat); have n3_ := ak (Kd.R_after (ok := (fun k_ => (w.heap.size ≤ k_))) (vr HO435.out) hg hat); have n4_ := ak (hb); have n5_ := ak (ho); clear HO_0; clear HO429; clear HO443; clear HO435; clear HB; clear HO438; have HO_0 := n0_; have HO429 := n1_; have HO443 := n2_; have HO435 := n3_; have HB := n4_; have HO446 := n5_; clear n0_ n1_ n2_ n3_ n4_ n5_; clear ho hb hg hat; refine hK.out _ _ trivial (fun hHeld => ?_); clear hK K; refine norm_ (a' := ?_) ?_ ?_
           rotate_left
           ·show Act.put _ (some 44) _ = _
            simp only [Act.put, List.setIfInBounds_toArray, List.set_cons_zero, List.set_cons_succ, i64_w, i32_w]
            rfl
           refine pu_ 12 4 (tf 13 0) rfl rfl ?_; refine done_ (done_of HT_.out (by kernel_rfl)) ?_; (try go_wp2)
           go_ret
           exact ⟨_, ew, Kd.V_mono (Kd.R_V (by (with_reducible repeat (first | apply Kd.R_alloc | apply Kd.R_drewN | apply Kd.R_drew)); exact Kd.R_mono HO446.out (fun _ hk => hk.1))) (fun k_ hk => by first | exact ⟨(.inr (hk.1)), hk.2⟩ | exact (.inr (hk))), vb HB.out⟩
          ·rw [if_neg c13] at H; exact absurd H (by simp)
         ·rw [if_neg c10] at H; exact absurd H (by simp)
        ·rw [if_neg c9] at H; exact absurd H (by simp)
       ·rw [if_neg c8] at H; exact absurd H (by simp)
    ·rw [if_neg c4] at H; exact absurd H (by simp)
   ·rw [if_neg c3] at H; have c3b0 := decide_eq_false c3; clear c3; obtain ⟨y447, Ny447, H⟩ := bnE H; by_cases c26 : 0 ≤ x5_1
    ·rw [if_pos c26] at H; have c26b0 := eq_true c26; have c26b1 : decide (0 ≤ x5_1) = true := decide_eq_true c26; clear c26; by_cases c27 : x5_1 ≤ (l0.length : Int)
     ·rw [if_pos c27] at H; have c27b0 := eq_true c27; have c27b1 : decide (x5_1 ≤ (l0.length : Int)) = true := decide_eq_true c27; clear c27; obtain ⟨y450, Ny450, H⟩ := bnE H; by_cases c28 : y447.length + y450.length < 8796093022208
      ·rw [if_pos c28] at H; have LMc28 := ak c28; clear c28; obtain ⟨y455, Ny455, H⟩ := bnE H; obtain ⟨y458, Ny458, H⟩ := bnE H; by_cases c29 : y455.length + y458.length < 8796093022208
       ·rw [if_pos c29] at H; have LMc29 := ak c29; clear c29; obtain ⟨y461, Ny461, H⟩ := bnE H; have c30b0 := eq_true (od : 0 ≤ x5_1); have c31b0 := eq_true (od : x5_1 ≤ (l0.length : Int)); obtain ⟨y464, Ny464, H⟩ := bnE H; by_cases c32 : y461.length + y464.length < 8796093022208
        ·rw [if_pos c32] at H; have LMc32 := ak c32; clear c32; obtain ⟨y469, hy469⟩ := gen_ ((y461 ++ y464 : List ByteArray)); rw [← hy469] at H; have Ny469 := ak hy469; clear hy469; obtain rfl := Option.some.inj H; (try go_wp2)
         replace HO_0 := ak (Kd.V_drew HO_0.out); replace HB := ak (below_drew1 HB.out); have q34 : (x5_1 : Int) ≤ ((l0.length : Int) : Int) := od; obtain ⟨i034, hi034, _, hsz34, _⟩ := info_parts info9; have hroom34 : l0.length ≤ c0 := (Kd.V_reads' HO_0.out).2.1; have hC34 : Kd.F Kd.string _ _ A0 l0.length l0 := (Kd.V_at (base := w.heap.size) HO_0.out).2.2; have hcut34 := cut_to (P := Try.prog) 46 9 .i64 Try.underlying46 hi034 A0 l0.length c0 x5_1 (od) q34 hroom34; have hr34 := Kd.F_take (m := (x5_1 : Int).toNat) hC34 (by omega); have hy34 : y450.length = (x5_1 : Int).toNat := (by rw [Ny450.out, List.length_take]; omega); rw [← Ny450.out] at hr34; rw [← hy34] at hcut34; have HO454 := ak (show Kd.V Kd.string 9 _ w.heap.size _ (.slice A0 y450.length c0) y450 from Kd.V_mk (by omega) hr34); have HC454 := ak (show y450.length ≤ c0 from by omega); clear hr34 hC34 hroom34 hi034 hsz34; have KY34 := ak hy34; clear hy34; replace q34 := eq_true q34; have q35 : (x5_1 : Int) ≤ ((l0.length : Int) : Int) := od; obtain ⟨i035, hi035, _, hsz35, _⟩ := info_parts info9; have hroom35 : l0.length ≤ c0 := (Kd.V_reads' HO_0.out).2.1; have hC35 : Kd.F Kd.string _ _ A0 l0.length l0 := (Kd.V_at (base := w.heap.size) HO_0.out).2.2; have q035 : (0 : Int) ≤ (x5_1 : Int) := od; have hcut35 := cut_from (P := Try.prog) 46 9 .i64 Try.underlying46 hi035 1 hsz35 A0 l0.length c0 x5_1 q035 q35; have hr35 := Kd.F_cut (m := (x5_1 : Int).toNat) (c := c0) hC35 (by omega) hroom35; obtain ⟨A35, hA35⟩ : ∃ A1, A1 = (if c0 = (x5_1 : Int).toNat then A0 else (A0 : Option Addr).map (·.add ((x5_1 : Int).toNat * 1))) := ⟨_, rfl⟩
         obtain ⟨c35, hc35⟩ : ∃ c1, c1 = c0 - (x5_1 : Int).toNat := ⟨_, rfl⟩; have hy35 : y464.length = l0.length - (x5_1 : Int).toNat := (by rw [Ny464.out, List.length_drop] <;> omega); rw [show (l0).drop (x5_1 : Int).toNat = y464 from Ny464.out.symm] at hr35; replace hr35 : Kd.F Kd.string _ _ A35 y464.length y464 := (by rw [hA35]; exact hr35); rw [← hy35, ← hA35, ← hc35] at hcut35; have HO468 := ak (show Kd.V Kd.string 9 _ w.heap.size _ (.slice A35 y464.length c35) y464 from Kd.V_mk (by rw [hy35, hc35]; exact Nat.sub_le_sub_right hroom35 _) hr35); have HC468 := ak (show y464.length ≤ c35 from by rw [hy35, hc35]; exact Nat.sub_le_sub_right hroom35 _); clear hr35 hC35 hroom35 hi035 hsz35 hc35; have KY35 := ak hy35; have KA35 := ak hA35; clear hy35 hA35; replace q35 := eq_true q35; refine start_ (n := 13) (S := fun w' => True) (ds := []) (tf 0 13) (by kernel_rfl) rfl rfl trivial (fun hHeld => ?_); refine with_tabW spec_l20Insert.tab6 spec_l20Insert.bits6 (fun HT_ HW_ => ?_); generalize wr.drew = w33 at HO_0 HB HO454 HO468 hHeld ⊢; refine pu_ 1 34 #[false, true, false, false, false, false, false, false, false, false, false, false, false] rfl rfl ?_; refine pu_ 2 35 #[false, true, true, false, false, false, false, false, false, false, false, false, false] rfl rfl ?_; refine pu_ 3 36 #[false, true, true, true, false, false, false, false, false, false, false, false, false] rfl rfl ?_; refine pu_ 5 38 #[false, true, true, true, false, true, false, false, false, false, false, false, false] rfl rfl ?_
         refine pu_ 8 41 #[false, true, true, true, false, true, false, false, true, false, false, false, false] rfl rfl ?_; refine pu_ 9 42 #[false, true, true, true, false, true, false, false, true, true, false, false, false] rfl rfl ?_; refine pu_ 10 43 #[false, true, true, true, false, true, false, false, true, true, true, false, false] rfl rfl ?_; refine join_ (σ := Value × Value × Value) 3 #[true, true, true, true, true, true, true, false, true, true, true, false, false] (fun s_ => [(33, s_.1), (37, s_.2.1), (39, s_.2.2)]) (fun s_ w' => (Kd.V Kd.string 9 w' w.heap.size (fun k_ => (P0_ k_ ∨ w.heap.size ≤ k_) ∧ some k_ ≠ (s_.2.1 : Value).ownBlock ∧ some k_ ≠ (s_.2.2 : Value).ownBlock) (.slice A0 y450.length c0) y450) ∧ (Kd.R Kd.string 9 w' w.heap.size (fun k_ => (w.heap.size ≤ k_) ∧ some k_ ≠ (s_.2.2 : Value).ownBlock) s_.2.1 y455) ∧ (Kd.R Kd.string 9 w' w.heap.size (fun k_ => (w.heap.size ≤ k_) ∧ some k_ ≠ (s_.2.1 : Value).ownBlock) s_.2.2 y458) ∧ (Kd.V Kd.string 9 w' w.heap.size (fun k_ => (P0_ k_ ∨ w.heap.size ≤ k_) ∧ some k_ ≠ (s_.2.1 : Value).ownBlock ∧ some k_ ≠ (s_.2.2 : Value).ownBlock) (.slice A35 y464.length c35) y464) ∧ (Kd.V Kd.string 9 w' w.heap.size (fun k_ => (P0_ k_ ∨ w.heap.size ≤ k_) ∧ some k_ ≠ (s_.2.1 : Value).ownBlock ∧ some k_ ≠ (s_.2.2 : Value).ownBlock) (.slice A0 l0.length c0) l0) ∧ (Below w.heap.size w w')) ?_ ?_
         rotate_left
         ·intro hCont; refine two_ (i := 0) (j := 6) (Ni := some 33) (Nj := some 39) #[true, true, true, true, false, true, false, false, true, true, true, false, false] #[false, true, true, true, false, true, true, false, true, true, true, false, false] rfl rfl rfl rfl (two_of HT_.out (by kernel_rfl)) (by decide) (by decide) (fun K hK => ?_) (fun K hK => ?_)
          ·skip
           refine Kd.R_lit_step Kd.string _ 9 ?hg (N := 33) ?hd (xs := ([] : List ByteArray)) (inner := []) (ok := fun _ => True) (okp := fun _ => True) ?hr ?hp (fun _ hk => hk) trivial (Below.refl _ _) (Nat.le_refl _) (by simp) ?_; (case hd => rfl); (case hg => rfl); (case hr => first | (go_simp; done) | (go_simp; rfl)); (case hp => exact (Reps.none _ _)); intro v448 w36 ho37 hb hg_ hnew_; clear hg_ hnew_; (first | rw [← Ny447.out] at ho37 | (simp only [Int.reduceToNat] at ho37; rw [← Ny447.out] at ho37))
           replace HO_0 := ak (Kd.V_elder' (vV HO_0.out) (Kd.R_base ho37) hb); replace HO454 := ak (Kd.V_elder' (vV HO454.out) (Kd.R_base ho37) hb); replace HO468 := ak (Kd.V_elder' (vV HO468.out) (Kd.R_base ho37) hb); have HO449 := ak (Kd.R_lower (Kd.R_newM (M := fun k_ => (w.heap.size ≤ k_)) ho37 (below_size (vb HB.out)) (fun k_ h_ => h_)) (below_size (vb HB.out))); replace HB := bs HB hb; clear hb ho37; refine hK.out _ _ trivial (fun hHeld => ?_); clear hK K; refine norm_ (a' := ?_) ?_ ?_
           rotate_left
           ·show Act.put _ (some 33) _ = _
            simp only [Act.put, List.setIfInBounds_toArray, List.set_cons_zero, List.set_cons_succ, i64_w, i32_w]
            rfl
           refine two_ (i := 4) (j := 6) (Ni := some 37) (Nj := some 39) #[true, true, true, true, true, true, false, false, true, true, true, false, false] #[true, true, true, true, false, true, true, false, true, true, true, false, false] rfl rfl rfl rfl (two_of HT_.out (by kernel_rfl)) (by decide) (by decide) (fun K hK => ?_) (fun K hK => ?_)
           ·skip
            refine Kd.R_append_rows_step Kd.string (w0 := w) w.heap.size (by rfl) (.tmp 33) (.tmp 36) 46 9 (.string ⟨#[]⟩) 16 rfl Try.underlying46 info9 rfl (by decide) (by omega) v448 y447 y450 _ _ _ (fun k_ => (w.heap.size ≤ k_)) (fun _ => False) rfl rfl ?aO ?aR (fun _ _ h => h) (fun _ h => h.elim) ?aF ?aB ?aS ?aL ?_; (case aR => repeat (first | exact (Kd.V_reads' HO454.out).2.2 | (with_reducible refine Kd.C_alloc ?_ _) | (with_reducible refine Kd.C_drewN ?_ _) | (with_reducible refine Kd.C_drew ?_)))
            (case aB => exact (vb HB.out))
            (case aF => exact (fun k_ hk => (Nat.le_trans (below_size (vb HB.out)) hk)))
            (case aO => exact (by (with_reducible repeat (first | apply Kd.R_alloc | apply Kd.R_drewN | apply Kd.R_drew)); exact Kd.R_mono HO449.out (fun _ hk => hk.1)))
            (case aS => exact (below_size (vb HB.out)))
            (case aL => have := LMc28.out; omega)
            intro v456 w38 ho hb hg hat; rw [← Ny455.out] at ho; have n0_ := ak (Kd.V_afterv (ok := (fun k_ => (P0_ k_ ∨ w.heap.size ≤ k_))) (vV HO_0.out) hg hat); have n1_ := ak (Kd.V_afterv (ok := (fun k_ => (P0_ k_ ∨ w.heap.size ≤ k_))) (vV HO454.out) hg hat); have n2_ := ak (Kd.V_afterv (ok := (fun k_ => (P0_ k_ ∨ w.heap.size ≤ k_))) (vV HO468.out) hg hat); have n3_ := ak (hb); have n4_ := ak (ho); clear HO_0; clear HO454; clear HO468; clear HB; clear HO449; have HO_0 := n0_; have HO454 := n1_; have HO468 := n2_; have HB := n3_; have HO457 := n4_; clear n0_ n1_ n2_ n3_ n4_; clear ho hb hg hat; refine hK.out _ _ trivial (fun hHeld => ?_); clear hK K; refine norm_ (a' := ?_) ?_ ?_
            rotate_left
            ·show Act.put _ (some 37) _ = _
             simp only [Act.put, List.setIfInBounds_toArray, List.set_cons_zero, List.set_cons_succ, i64_w, i32_w]
             rfl
            refine one_ (i := 6) (N := some 39) #[true, true, true, true, true, true, true, false, true, true, true, false, false] rfl rfl (one_of HT_.out (by kernel_rfl)) (by decide) (fun K hK => ?_); refine Kd.R_lit_step Kd.string _ 9 ?hg (N := 39) ?hd (xs := ([a1] : List ByteArray)) (inner := [.string a1]) (ok := fun _ => True) (okp := fun _ => True) ?hr ?hp (fun _ hk => hk) trivial (Below.refl _ _) (Nat.le_refl _) (by simp) ?_; (case hd => rfl); (case hg => rfl); (case hr => first | (go_simp; done) | (go_simp; rfl)); (case hp => exact (Reps.one (show Kd.M Kd.string _ _ _ a1 [.string a1] from rfl) (Reps.none _ _))); intro v459 w39 ho40 hb hg_ hnew_; clear hg_ hnew_; (first | rw [← Ny458.out] at ho40 | (simp only [Int.reduceToNat] at ho40; rw [← Ny458.out] at ho40))
            replace HO_0 := ak (Kd.V_elder' (vV HO_0.out) (Kd.R_base ho40) hb); replace HO454 := ak (Kd.V_elder' (vV HO454.out) (Kd.R_base ho40) hb); replace HO468 := ak (Kd.V_elder' (vV HO468.out) (Kd.R_base ho40) hb); have HO460 := ak (Kd.R_lower (Kd.R_new' (Kd.R_newM (M := fun k_ => (w.heap.size ≤ k_)) ho40 (below_size (vb HB.out)) (fun k_ h_ => h_)) (Kd.R_lt (vr HO457.out))) (below_size (vb HB.out))); replace HO457 := ak (Kd.R_elder' (vr HO457.out) (Kd.R_base ho40) hb); replace HB := bs HB hb; clear hb ho40; refine hK.out _ _ trivial (fun hHeld => ?_); clear hK K; refine norm_ (a' := ?_) ?_ ?_
            rotate_left
            ·show Act.put _ (some 39) _ = _
             simp only [Act.put, List.setIfInBounds_toArray, List.set_cons_zero, List.set_cons_succ, i64_w, i32_w]
             rfl
            exact norm_ (by simp only [putAll, Act.put, List.setIfInBounds_toArray, List.set_cons_zero, List.set_cons_succ]) (hCont (v448, v456, v459) _ ⟨(by (with_reducible repeat (first | apply Kd.V_alloc | apply Kd.V_drewN | apply Kd.V_drew)); exact Kd.V_mono HO454.out (fun _ hk => ⟨hk.1.1, ⟨hk.1.2, hk.2⟩⟩)), (vr HO457.out), (by (with_reducible repeat (first | apply Kd.R_alloc | apply Kd.R_drewN | apply Kd.R_drew)); exact Kd.R_mono HO460.out (fun _ hk => ⟨hk.1.1, hk.2⟩)), (by (with_reducible repeat (first | apply Kd.V_alloc | apply Kd.V_drewN | apply Kd.V_drew)); exact Kd.V_mono HO468.out (fun _ hk => ⟨hk.1.1, ⟨hk.1.2, hk.2⟩⟩)), (by (with_reducible repeat (first | apply Kd.V_alloc | apply Kd.V_drewN | apply Kd.V_drew)); exact Kd.V_mono HO_0.out (fun _ hk => ⟨hk.1.1, ⟨hk.1.2, hk.2⟩⟩)), (vb HB.out)⟩)
           ·skip
            refine Kd.R_lit_step Kd.string _ 9 ?hg (N := 39) ?hd (xs := ([a1] : List ByteArray)) (inner := [.string a1]) (ok := fun _ => True) (okp := fun _ => True) ?hr ?hp (fun _ hk => hk) trivial (Below.refl _ _) (Nat.le_refl _) (by simp) ?_; (case hd => rfl); (case hg => rfl); (case hr => first | (go_simp; done) | (go_simp; rfl)); (case hp => exact (Reps.one (show Kd.M Kd.string _ _ _ a1 [.string a1] from rfl) (Reps.none _ _))); intro v459 w38 ho39 hb hg_ hnew_; clear hg_ hnew_; (first | rw [← Ny458.out] at ho39 | (simp only [Int.reduceToNat] at ho39; rw [← Ny458.out] at ho39))
            replace HO_0 := ak (Kd.V_elder' (vV HO_0.out) (Kd.R_base ho39) hb); replace HO454 := ak (Kd.V_elder' (vV HO454.out) (Kd.R_base ho39) hb); replace HO468 := ak (Kd.V_elder' (vV HO468.out) (Kd.R_base ho39) hb); have HO460 := ak (Kd.R_lower (Kd.R_new' (Kd.R_newM (M := fun k_ => (w.heap.size ≤ k_)) ho39 (below_size (vb HB.out)) (fun k_ h_ => h_)) (Kd.R_lt (vr HO449.out))) (below_size (vb HB.out))); replace HO449 := ak (Kd.R_elder' (vr HO449.out) (Kd.R_base ho39) hb); replace HB := bs HB hb; clear hb ho39; refine hK.out _ _ trivial (fun hHeld => ?_); clear hK K; refine norm_ (a' := ?_) ?_ ?_
            rotate_left
            ·show Act.put _ (some 39) _ = _
             simp only [Act.put, List.setIfInBounds_toArray, List.set_cons_zero, List.set_cons_succ, i64_w, i32_w]
             rfl
            refine one_ (i := 4) (N := some 37) #[true, true, true, true, true, true, true, false, true, true, true, false, false] rfl rfl (one_of HT_.out (by kernel_rfl)) (by decide) (fun K hK => ?_); refine Kd.R_append_rows_step Kd.string (w0 := w) w.heap.size (by rfl) (.tmp 33) (.tmp 36) 46 9 (.string ⟨#[]⟩) 16 rfl Try.underlying46 info9 rfl (by decide) (by omega) v448 y447 y450 _ _ _ (fun k_ => (w.heap.size ≤ k_) ∧ some k_ ≠ (v459 : Value).ownBlock) (fun _ => False) rfl rfl ?aO ?aR (fun _ _ h => h) (fun _ h => h.elim) ?aF ?aB ?aS ?aL ?_; (case aR => repeat (first | exact (Kd.V_reads' HO454.out).2.2 | (with_reducible refine Kd.C_alloc ?_ _) | (with_reducible refine Kd.C_drewN ?_ _) | (with_reducible refine Kd.C_drew ?_)))
            (case aB => exact (vb HB.out))
            (case aF => exact (fun k_ hk => ⟨(Nat.le_trans (below_size (vb HB.out)) hk), Kd.fresh' (Kd.R_lt (vr HO460.out)) k_ hk⟩))
            (case aO => exact (by (with_reducible repeat (first | apply Kd.R_alloc | apply Kd.R_drewN | apply Kd.R_drew)); exact Kd.R_mono HO449.out (fun _ hk => ⟨hk.1.1, hk.2⟩)))
            (case aS => exact (below_size (vb HB.out)))
            (case aL => have := LMc28.out; omega)
            intro v456 w40 ho hb hg hat; rw [← Ny455.out] at ho; have n0_ := ak (Kd.V_afterv (ok := (fun k_ => (P0_ k_ ∨ w.heap.size ≤ k_) ∧ some k_ ≠ (v459 : Value).ownBlock)) (by (with_reducible repeat (first | apply Kd.V_alloc | apply Kd.V_drewN | apply Kd.V_drew)); exact Kd.V_mono HO_0.out (fun _ hk => ⟨⟨hk.1.1, hk.2⟩, hk.1.2⟩)) hg hat); have n1_ := ak (Kd.V_afterv (ok := (fun k_ => (P0_ k_ ∨ w.heap.size ≤ k_) ∧ some k_ ≠ (v459 : Value).ownBlock)) (by (with_reducible repeat (first | apply Kd.V_alloc | apply Kd.V_drewN | apply Kd.V_drew)); exact Kd.V_mono HO454.out (fun _ hk => ⟨⟨hk.1.1, hk.2⟩, hk.1.2⟩)) hg hat); have n2_ := ak (Kd.V_afterv (ok := (fun k_ => (P0_ k_ ∨ w.heap.size ≤ k_) ∧ some k_ ≠ (v459 : Value).ownBlock)) (by (with_reducible repeat (first | apply Kd.V_alloc | apply Kd.V_drewN | apply Kd.V_drew)); exact Kd.V_mono HO468.out (fun _ hk => ⟨⟨hk.1.1, hk.2⟩, hk.1.2⟩)) hg hat); have n3_ := ak (Kd.R_after (ok := (fun k_ => (w.heap.size ≤ k_))) (by (with_reducible repeat (first | apply Kd.R_alloc | apply Kd.R_drewN | apply Kd.R_drew)); exact Kd.R_mono HO460.out (fun _ hk => ⟨hk.1.1, hk.2⟩)) hg hat); have n4_ := ak (hb); have n5_ := ak (ho); clear HO_0; clear HO454; clear HO468; clear HO460; clear HB; clear HO449; have HO_0 := n0_; have HO454 := n1_; have HO468 := n2_; have HO460 := n3_; have HB := n4_; have HO457 := n5_; clear n0_ n1_ n2_ n3_ n4_ n5_; clear ho hb hg hat; refine hK.out _ _ trivial (fun hHeld => ?_); clear hK K
            refine norm_ (a' := ?_) ?_ ?_
            rotate_left
            ·show Act.put _ (some 37) _ = _
             simp only [Act.put, List.setIfInBounds_toArray, List.set_cons_zero, List.set_cons_succ, i64_w, i32_w]
             rfl
            exact norm_ (by simp only [putAll, Act.put, List.setIfInBounds_toArray, List.set_cons_zero, List.set_cons_succ]) (hCont (v448, v456, v459) _ ⟨(by (with_reducible repeat (first | apply Kd.V_alloc | apply Kd.V_drewN | apply Kd.V_drew)); exact Kd.V_mono HO454.out (fun _ hk => ⟨hk.1.1, ⟨hk.2, hk.1.2⟩⟩)), (vr HO457.out), (vr HO460.out), (by (with_reducible repeat (first | apply Kd.V_alloc | apply Kd.V_drewN | apply Kd.V_drew)); exact Kd.V_mono HO468.out (fun _ hk => ⟨hk.1.1, ⟨hk.2, hk.1.2⟩⟩)), (by (with_reducible repeat (first | apply Kd.V_alloc | apply Kd.V_drewN | apply Kd.V_drew)); exact Kd.V_mono HO_0.out (fun _ hk => ⟨hk.1.1, ⟨hk.2, hk.1.2⟩⟩)), (vb HB.out)⟩)
          ·skip
           refine Kd.R_lit_step Kd.string _ 9 ?hg (N := 39) ?hd (xs := ([a1] : List ByteArray)) (inner := [.string a1]) (ok := fun _ => True) (okp := fun _ => True) ?hr ?hp (fun _ hk => hk) trivial (Below.refl _ _) (Nat.le_refl _) (by simp) ?_; (case hd => rfl); (case hg => rfl); (case hr => first | (go_simp; done) | (go_simp; rfl)); (case hp => exact (Reps.one (show Kd.M Kd.string _ _ _ a1 [.string a1] from rfl) (Reps.none _ _))); intro v459 w36 ho37 hb hg_ hnew_; clear hg_ hnew_; (first | rw [← Ny458.out] at ho37 | (simp only [Int.reduceToNat] at ho37; rw [← Ny458.out] at ho37))
           replace HO_0 := ak (Kd.V_elder' (vV HO_0.out) (Kd.R_base ho37) hb); replace HO454 := ak (Kd.V_elder' (vV HO454.out) (Kd.R_base ho37) hb); replace HO468 := ak (Kd.V_elder' (vV HO468.out) (Kd.R_base ho37) hb); have HO460 := ak (Kd.R_lower (Kd.R_newM (M := fun k_ => (w.heap.size ≤ k_)) ho37 (below_size (vb HB.out)) (fun k_ h_ => h_)) (below_size (vb HB.out))); replace HB := bs HB hb; clear hb ho37; refine hK.out _ _ trivial (fun hHeld => ?_); clear hK K; refine norm_ (a' := ?_) ?_ ?_
           rotate_left
           ·show Act.put _ (some 39) _ = _
            simp only [Act.put, List.setIfInBounds_toArray, List.set_cons_zero, List.set_cons_succ, i64_w, i32_w]
            rfl
           refine one_ (i := 0) (N := some 33) #[true, true, true, true, false, true, true, false, true, true, true, false, false] rfl rfl (one_of HT_.out (by kernel_rfl)) (by decide) (fun K hK => ?_); refine Kd.R_lit_step Kd.string _ 9 ?hg (N := 33) ?hd (xs := ([] : List ByteArray)) (inner := []) (ok := fun _ => True) (okp := fun _ => True) ?hr ?hp (fun _ hk => hk) trivial (Below.refl _ _) (Nat.le_refl _) (by simp) ?_; (case hd => rfl); (case hg => rfl); (case hr => first | (go_simp; done) | (go_simp; rfl)); (case hp => exact (Reps.none _ _)); intro v448 w38 ho39 hb hg_ hnew_; clear hg_ hnew_; (first | rw [← Ny447.out] at ho39 | (simp only [Int.reduceToNat] at ho39; rw [← Ny447.out] at ho39))
           replace HO_0 := ak (Kd.V_elder' (vV HO_0.out) (Kd.R_base ho39) hb); replace HO454 := ak (Kd.V_elder' (vV HO454.out) (Kd.R_base ho39) hb); replace HO468 := ak (Kd.V_elder' (vV HO468.out) (Kd.R_base ho39) hb); have HO449 := ak (Kd.R_lower (Kd.R_new' (Kd.R_newM (M := fun k_ => (w.heap.size ≤ k_)) ho39 (below_size (vb HB.out)) (fun k_ h_ => h_)) (Kd.R_lt (vr HO460.out))) (below_size (vb HB.out))); replace HO460 := ak (Kd.R_elder' (vr HO460.out) (Kd.R_base ho39) hb); replace HB := bs HB hb; clear hb ho39; refine hK.out _ _ trivial (fun hHeld => ?_); clear hK K; refine norm_ (a' := ?_) ?_ ?_
           rotate_left
           ·show Act.put _ (some 33) _ = _
            simp only [Act.put, List.setIfInBounds_toArray, List.set_cons_zero, List.set_cons_succ, i64_w, i32_w]
            rfl
           refine one_ (i := 4) (N := some 37) #[true, true, true, true, true, true, true, false, true, true, true, false, false] rfl rfl (one_of HT_.out (by kernel_rfl)) (by decide) (fun K hK => ?_); refine Kd.R_append_rows_step Kd.string (w0 := w) w.heap.size (by rfl) (.tmp 33) (.tmp 36) 46 9 (.string ⟨#[]⟩) 16 rfl Try.underlying46 info9 rfl (by decide) (by omega) v448 y447 y450 _ _ _ (fun k_ => (w.heap.size ≤ k_) ∧ some k_ ≠ (v459 : Value).ownBlock) (fun _ => False) rfl rfl ?aO ?aR (fun _ _ h => h) (fun _ h => h.elim) ?aF ?aB ?aS ?aL ?_; (case aR => repeat (first | exact (Kd.V_reads' HO454.out).2.2 | (with_reducible refine Kd.C_alloc ?_ _) | (with_reducible refine Kd.C_drewN ?_ _) | (with_reducible refine Kd.C_drew ?_)))
           (case aB => exact (vb HB.out))
           (case aF => exact (fun k_ hk => ⟨(Nat.le_trans (below_size (vb HB.out)) hk), Kd.fresh' (Kd.R_lt (vr HO460.out)) k_ hk⟩))
           (case aO => exact (by (with_reducible repeat (first | apply Kd.R_alloc | apply Kd.R_drewN | apply Kd.R_drew)); exact Kd.R_mono HO449.out (fun _ hk => ⟨hk.1.1, hk.2⟩)))
           (case aS => exact (below_size (vb HB.out)))
           (case aL => have := LMc28.out; omega)
           intro v456 w40 ho hb hg hat; rw [← Ny455.out] at ho; have n0_ := ak (Kd.V_afterv (ok := (fun k_ => (P0_ k_ ∨ w.heap.size ≤ k_) ∧ some k_ ≠ (v459 : Value).ownBlock)) (vV HO_0.out) hg hat); have n1_ := ak (Kd.V_afterv (ok := (fun k_ => (P0_ k_ ∨ w.heap.size ≤ k_) ∧ some k_ ≠ (v459 : Value).ownBlock)) (vV HO454.out) hg hat); have n2_ := ak (Kd.V_afterv (ok := (fun k_ => (P0_ k_ ∨ w.heap.size ≤ k_) ∧ some k_ ≠ (v459 : Value).ownBlock)) (vV HO468.out) hg hat); have n3_ := ak (Kd.R_after (ok := (fun k_ => (w.heap.size ≤ k_))) (by (with_reducible repeat (first | apply Kd.R_alloc | apply Kd.R_drewN | apply Kd.R_drew)); exact Kd.R_mono HO460.out (fun _ hk => ⟨hk.1.1, hk.2⟩)) hg hat); have n4_ := ak (hb); have n5_ := ak (ho); clear HO_0; clear HO454; clear HO468; clear HO460; clear HB; clear HO449; have HO_0 := n0_; have HO454 := n1_; have HO468 := n2_; have HO460 := n3_; have HB := n4_; have HO457 := n5_; clear n0_ n1_ n2_ n3_ n4_ n5_; clear ho hb hg hat; refine hK.out _ _ trivial (fun hHeld => ?_); clear hK K; refine norm_ (a' := ?_) ?_ ?_
           rotate_left
           ·show Act.put _ (some 37) _ = _
            simp only [Act.put, List.setIfInBounds_toArray, List.set_cons_zero, List.set_cons_succ, i64_w, i32_w]
            rfl
           exact norm_ (by simp only [putAll, Act.put, List.setIfInBounds_toArray, List.set_cons_zero, List.set_cons_succ]) (hCont (v448, v456, v459) _ ⟨(by (with_reducible repeat (first | apply Kd.V_alloc | apply Kd.V_drewN | apply Kd.V_drew)); exact Kd.V_mono HO454.out (fun _ hk => ⟨hk.1.1, ⟨hk.2, hk.1.2⟩⟩)), (vr HO457.out), (vr HO460.out), (by (with_reducible repeat (first | apply Kd.V_alloc | apply Kd.V_drewN | apply Kd.V_drew)); exact Kd.V_mono HO468.out (fun _ hk => ⟨hk.1.1, ⟨hk.2, hk.1.2⟩⟩)), (by (with_reducible repeat (first | apply Kd.V_alloc | apply Kd.V_drewN | apply Kd.V_drew)); exact Kd.V_mono HO_0.out (fun _ hk => ⟨hk.1.1, ⟨hk.2, hk.1.2⟩⟩)), (vb HB.out)⟩)
         rintro ⟨v448, v456, v459⟩ w41 ⟨h0_, h1_, h2_, h3_, h4_, h5_⟩; have n0_ : Aside0 (Kd.V Kd.string 9 w41 w.heap.size (fun k_ => (P0_ k_ ∨ w.heap.size ≤ k_) ∧ some k_ ≠ (v456 : Value).ownBlock ∧ some k_ ≠ (v459 : Value).ownBlock) (.slice A0 y450.length c0) y450) := ⟨h0_⟩; have n1_ : Aside0 (Kd.R Kd.string 9 w41 w.heap.size (fun k_ => (w.heap.size ≤ k_) ∧ some k_ ≠ (v459 : Value).ownBlock) v456 y455) := ⟨h1_⟩; have n2_ : Aside0 (Kd.R Kd.string 9 w41 w.heap.size (fun k_ => (w.heap.size ≤ k_) ∧ some k_ ≠ (v456 : Value).ownBlock) v459 y458) := ⟨h2_⟩; have n3_ : Aside0 (Kd.V Kd.string 9 w41 w.heap.size (fun k_ => (P0_ k_ ∨ w.heap.size ≤ k_) ∧ some k_ ≠ (v456 : Value).ownBlock ∧ some k_ ≠ (v459 : Value).ownBlock) (.slice A35 y464.length c35) y464) := ⟨h3_⟩; have n4_ : Aside0 (Kd.V Kd.string 9 w41 w.heap.size (fun k_ => (P0_ k_ ∨ w.heap.size ≤ k_) ∧ some k_ ≠ (v456 : Value).ownBlock ∧ some k_ ≠ (v459 : Value).ownBlock) (.slice A0 l0.length c0) l0) := ⟨h4_⟩; have n5_ : Aside0 (Below w.heap.size w w41) := ⟨h5_⟩; clear HO_0; clear HB; clear h0_ h1_ h2_ h3_ h4_ h5_; have HO454 := n0_; have HO457 := n1_; have HO460 := n2_; have HO468 := n3_; have HO_0 := n4_; have HB := n5_; clear n0_ n1_ n2_ n3_ n4_ n5_; have hHeld := trivial; obtain ⟨Ao43, co43, eo43⟩ := Kd.R_slice HO460.out; (first | subst eo43 | (injection eo43 with f1_ f2_ f3_; have f4_ := f1_.symm; have f5_ := f3_.symm; clear f1_ f2_ f3_; subst f4_; subst f5_))
         refine norm_ (a' := ?_) ?_ ?_
         rotate_left
         ·simp only [putAll, Act.put, List.setIfInBounds_toArray, List.set_cons_zero, List.set_cons_succ]
          rfl
         refine one_ (i := 7) (N := some 40) (tf 11 2) rfl rfl (one_of HT_.out (by kernel_rfl)) (by decide) (fun K hK => ?_); refine Kd.R_append_rows_step Kd.string (w0 := w) w.heap.size (by rfl) (.tmp 37) (.tmp 39) 46 9 (.string ⟨#[]⟩) 16 rfl Try.underlying46 info9 rfl (by decide) (by omega) v456 y455 y458 _ _ _ (fun k_ => (w.heap.size ≤ k_) ∧ some k_ ≠ (.slice Ao43 y458.length co43 : Value).ownBlock) (fun _ => False) rfl rfl ?aO ?aR (fun _ _ h => h) (fun _ h => h.elim) ?aF ?aB ?aS ?aL ?_; (case aR => repeat (first | exact (Kd.R_reads' HO460.out).2.2 | (with_reducible refine Kd.C_alloc ?_ _) | (with_reducible refine Kd.C_drewN ?_ _) | (with_reducible refine Kd.C_drew ?_)))
         (case aB => exact (vb HB.out))
         (case aF => exact (fun k_ hk => ⟨(Nat.le_trans (below_size (vb HB.out)) hk), Kd.fresh' (Kd.R_lt (vr HO460.out)) k_ hk⟩))
         (case aO => exact (vr HO457.out))
         (case aS => exact (below_size (vb HB.out)))
         (case aL => have := LMc29.out; omega)
         intro v462 w42 ho hb hg hat; rw [← Ny461.out] at ho; have n0_ := ak (Kd.V_afterv (ok := (fun k_ => (P0_ k_ ∨ w.heap.size ≤ k_) ∧ some k_ ≠ (.slice Ao43 y458.length co43 : Value).ownBlock)) (by (with_reducible repeat (first | apply Kd.V_alloc | apply Kd.V_drewN | apply Kd.V_drew)); exact Kd.V_mono HO_0.out (fun _ hk => ⟨⟨hk.1, hk.2.2⟩, hk.2.1⟩)) hg hat); have n1_ := ak (Kd.V_afterv (ok := (fun k_ => (P0_ k_ ∨ w.heap.size ≤ k_) ∧ some k_ ≠ (.slice Ao43 y458.length co43 : Value).ownBlock)) (by (with_reducible repeat (first | apply Kd.V_alloc | apply Kd.V_drewN | apply Kd.V_drew)); exact Kd.V_mono HO454.out (fun _ hk => ⟨⟨hk.1, hk.2.2⟩, hk.2.1⟩)) hg hat); have n2_ := ak (Kd.V_afterv (ok := (fun k_ => (P0_ k_ ∨ w.heap.size ≤ k_) ∧ some k_ ≠ (.slice Ao43 y458.length co43 : Value).ownBlock)) (by (with_reducible repeat (first | apply Kd.V_alloc | apply Kd.V_drewN | apply Kd.V_drew)); exact Kd.V_mono HO468.out (fun _ hk => ⟨⟨hk.1, hk.2.2⟩, hk.2.1⟩)) hg hat); have n3_ := ak (Kd.R_after (ok := (fun k_ => (w.heap.size ≤ k_))) (vr HO460.out) hg hat); have n4_ := ak (hb); have n5_ := ak (ho); clear HO_0; clear HO454; clear HO468; clear HO460; clear HB; clear HO457; have HO_0 := n0_; have HO454 := n1_; have HO468 := n2_; have HO460 := n3_; have HB := n4_; have HO463 := n5_; clear n0_ n1_ n2_ n3_ n4_ n5_; clear ho hb hg hat; refine hK.out _ _ trivial (fun hHeld => ?_); clear hK K; refine norm_ (a' := ?_) ?_ ?_
         rotate_left
         ·show Act.put _ (some 40) _ = _
          simp only [Act.put, List.setIfInBounds_toArray, List.set_cons_zero, List.set_cons_succ, i64_w, i32_w]
          rfl
         refine one_ (i := 11) (N := some 44) (tf 12 1) rfl rfl (one_of HT_.out (by kernel_rfl)) (by decide) (fun K hK => ?_); refine Kd.R_append_rows_step Kd.string (w0 := w) w.heap.size (by rfl) (.tmp 40) (.tmp 43) 46 9 (.string ⟨#[]⟩) 16 rfl Try.underlying46 info9 rfl (by decide) (by omega) v462 y461 y464 _ _ _ (fun k_ => (w.heap.size ≤ k_) ∧ some k_ ≠ (.slice Ao43 y458.length co43 : Value).ownBlock) (fun _ => False) rfl rfl ?aO ?aR (fun _ _ h => h) (fun _ h => h.elim) ?aF ?aB ?aS ?aL ?_; (case aR => repeat (first | exact (Kd.V_reads' HO468.out).2.2 | (with_reducible refine Kd.C_alloc ?_ _) | (with_reducible refine Kd.C_drewN ?_ _) | (with_reducible refine Kd.C_drew ?_)))
         (case aB => exact (vb HB.out))
         (case aF => exact (fun k_ hk => ⟨(Nat.le_trans (below_size (vb HB.out)) hk), Kd.fresh' (Kd.R_lt (vr HO460.out)) k_ hk⟩))
         (case aO => exact (vr HO463.out))
         (case aS => exact (below_size (vb HB.out)))
         (case aL => have := LMc32.out; omega)
         intro v470 w44 ho hb hg hat; rw [← Ny469.out] at ho; have n0_ := ak (Kd.V_afterv (ok := (fun k_ => (P0_ k_ ∨ w.heap.size ≤ k_) ∧ some k_ ≠ (.slice Ao43 y458.length co43 : Value).ownBlock)) (vV HO_0.out) hg hat); have n1_ := ak (Kd.V_afterv (ok := (fun k_ => (P0_ k_ ∨ w.heap.size ≤ k_) ∧ some k_ ≠ (.slice Ao43 y458.length co43 : Value).ownBlock)) (vV HO454.out) hg hat); have n2_ := ak (Kd.V_afterv (ok := (fun k_ => (P0_ k_ ∨ w.heap.size ≤ k_) ∧ some k_ ≠ (.slice Ao43 y458.length co43 : Value).ownBlock)) (vV HO468.out) hg hat); have n3_ := ak (Kd.R_after (ok := (fun k_ => (w.heap.size ≤ k_))) (vr HO460.out) hg hat); have n4_ := ak (hb); have n5_ := ak (ho); clear HO_0; clear HO454; clear HO468; clear HO460; clear HB; clear HO463; have HO_0 := n0_; have HO454 := n1_; have HO468 := n2_; have HO460 := n3_; have HB := n4_; have HO471 := n5_; clear n0_ n1_ n2_ n3_ n4_ n5_; clear ho hb hg hat; refine hK.out _ _ trivial (fun hHeld => ?_); clear hK K; refine norm_ (a' := ?_) ?_ ?_
         rotate_left
         ·show Act.put _ (some 44) _ = _
          simp only [Act.put, List.setIfInBounds_toArray, List.set_cons_zero, List.set_cons_succ, i64_w, i32_w]
          rfl
         refine pu_ 12 4 (tf 13 0) rfl rfl ?_; refine done_ (done_of HT_.out (by kernel_rfl)) ?_; (try go_wp2)
         go_ret
         exact ⟨_, ew, Kd.V_mono (Kd.R_V (by (with_reducible repeat (first | apply Kd.R_alloc | apply Kd.R_drewN | apply Kd.R_drew)); exact Kd.R_mono HO471.out (fun _ hk => hk.1))) (fun k_ hk => by first | exact ⟨(.inr (hk.1)), hk.2⟩ | exact (.inr (hk))), vb HB.out⟩
        ·rw [if_neg c32] at H; exact absurd H (by simp)
       ·rw [if_neg c29] at H; exact absurd H (by simp)
      ·rw [if_neg c28] at H; exact absurd H (by simp)
     ·rw [if_neg c27] at H; exact absurd H (by simp)
    ·rw [if_neg c26] at H; exact absurd H (by simp)


/-! ### spec_OccupiedAt: function 35 -/
def spec_OccupiedAt.l0 : Nat → List (S42) → List ByteArray → Int → Int → Option (List ByteArray × Int)
 | 0, _, _, _, _ => none
 | k + 1, x0, x7, x8, x9 => if x9 < x8 then (if 0 ≤ x9 then (if x9 < (x0.length : Int) then ((spec_l20People.f k x0 ((rd_T42 x0 x9).f1) x8).bind fun t478 => (if t478 > 0 then ((spec_l20Insert.f k x7 ((rd_T42 x0 x9).f1)).bind fun t480 => (spec_OccupiedAt.l0 k x0 t480 x8 (wrap64 (x9 + 1)))) else (spec_OccupiedAt.l0 k x0 x7 x8 (wrap64 (x9 + 1))))) else (none)) else (none)) else (some (x7, 0))
def spec_OccupiedAt.f (k : Nat) (l0 : List (S42)) (a1 : Int) : Option (List ByteArray × Int) := (spec_l20Code.f k l0 (⟨#[97]⟩ : ByteArray) a1).bind fun t472 => (if t472 = 0 then ((spec_l20Upto.f k l0 a1).bind fun t476 => (spec_OccupiedAt.l0 k l0 (([] : List ByteArray)) t476 0)) else (some (([] : List ByteArray), t472)))
theorem spec_OccupiedAt.mono_l : ∀ k, (∀ y0 y1 y2 y3, LeO (spec_OccupiedAt.l0 k y0 y1 y2 y3) (spec_OccupiedAt.l0 (k + 1) y0 y1 y2 y3))
 | 0 => fun _ _ _ _ r h => by simp [spec_OccupiedAt.l0] at h
 | k + 1 => by
  have ih0 := spec_OccupiedAt.mono_l k
  ·intro y0 y1 y2 y3; unfold spec_OccupiedAt.l0
   repeat' first | (with_reducible first | exact ih0 _ _ _ _ | exact spec_l20Code.mono _ _ _ _ | exact spec_l20Insert.mono _ _ _ | exact spec_l20People.mono _ _ _ _ | exact spec_l20Upto.mono _ _ _ | exact LeO.refl _ | exact LeO.none _ | refine LeO.ite ?_ ?_ | refine LeO.bind ?_ (fun _ => ?_)) | exact ih0 _ _ _ _ | exact spec_l20Code.mono _ _ _ _ | exact spec_l20Insert.mono _ _ _ | exact spec_l20People.mono _ _ _ _ | exact spec_l20Upto.mono _ _ _ | exact LeO.none _ | refine LeO.ite ?_ ?_ | refine LeO.bind ?_ (fun _ => ?_)
theorem spec_OccupiedAt.mono : ∀ a0 a1 k, LeO (spec_OccupiedAt.f k a0 a1) (spec_OccupiedAt.f (k + 1) a0 a1) := by
 intro a0 a1 k; have ih0 := spec_OccupiedAt.mono_l k; unfold spec_OccupiedAt.f
 repeat' first | (with_reducible first | exact ih0 _ _ _ _ | exact spec_l20Code.mono _ _ _ _ | exact spec_l20Insert.mono _ _ _ | exact spec_l20People.mono _ _ _ _ | exact spec_l20Upto.mono _ _ _ | exact LeO.refl _ | exact LeO.none _ | refine LeO.ite ?_ ?_ | refine LeO.bind ?_ (fun _ => ?_)) | exact ih0 _ _ _ _ | exact spec_l20Code.mono _ _ _ _ | exact spec_l20Insert.mono _ _ _ | exact spec_l20People.mono _ _ _ _ | exact spec_l20Upto.mono _ _ _ | exact LeO.none _ | refine LeO.ite ?_ ?_ | refine LeO.bind ?_ (fun _ => ?_)
set_option maxHeartbeats 8000000 in
set_option maxRecDepth 100000 in
theorem spec_OccupiedAt.calls (k : Nat) (A0 : Option Addr) (c0 : Nat) (l0 : List (S42)) (a1 : Int) (r1 : List ByteArray) (r2 : Int) (w : World) (hr0 : Kd.C k42 w A0 l0.length l0) (hc0 : l0.length ≤ c0) (h : spec_OccupiedAt.f k l0 a1 = some (r1, r2)) :
  Calls Try.prog 35 #[.slice A0 l0.length c0, .int .i64 a1] w fun e w' => ∃ v0_ : Value, e = .returned (.tuple #[v0_, .int .i64 r2]) ∧ Kd.V Kd.string 9 w' w.heap.size (fun k_ => (w.heap.size ≤ k_)) v0_ r1 ∧ Below w.heap.size w w' := by
 have HR0 := ak hr0; have HC0 := ak hc0; clear hr0 hc0; have HB := ak (Below.refl w.heap.size w); unfold spec_OccupiedAt.f at h; have H := h; clear h; obtain ⟨t472, A3, H⟩ := bnk H; by_cases c4 : t472 = 0
 ·rw [if_pos c4] at H; obtain ⟨c4b0, c4b1⟩ := bqt c4; clear c4; obtain ⟨y473, hy473⟩ := gen_ (([] : List ByteArray)); rw [← hy473] at H; have Ny473 := ak hy473; clear hy473; obtain ⟨t476, A5, H⟩ := bnk H; have H' := ak H; clear H; go_enter Try.func35, Try.ntmps35; go_wp2_with (first | ((with_reducible refine at_fn (f := 72) rfl ?_); refine gl (some 12) Try.func72 #[.slice A0 l0.length c0, .string (⟨#[97]⟩ : ByteArray), .int .i64 a1] ?_; (with_reducible refine (spec_l20Code.calls k _ _ l0 (⟨#[97]⟩ : ByteArray) a1 t472 _ ?side1 HC0.out A3.out).mono ?_); (case side1 => exact vc HR0.out); rintro e w6 ⟨rfl, hb⟩; refine ⟨_, rfl, ?_⟩; replace HB := bs HB hb; (try clear hb); (try clear hb2); (try clear hk); (try clear hi)) | ((with_reducible refine gate_dst (N := 16) rfl ?_); refine Kd.R_lit Kd.string _ 9 ?hg (N := 16) ?hd (xs := ([] : List ByteArray)) (inner := []) (ok := fun _ => True) (okp := fun _ => True) ?hr ?hp (fun _ hk => hk) trivial (Below.refl _ _) (Nat.le_refl _) (by simp) ?_; (case hd => rfl); (case hg => rfl); (case hr => first | (go_simp; done) | (go_simp; rfl)); (case hp => exact (Reps.none _ _)); intro v474 w7 ho8 hb hg_ hnew_; clear hg_ hnew_; (first | rw [← Ny473.out] at ho8 | (simp only [Int.reduceToNat] at ho8; rw [← Ny473.out] at ho8)); have HO475 := ak (Kd.R_lower (Kd.R_newM (M := fun k_ => (w.heap.size ≤ k_)) ho8 (below_size (vb HB.out)) (fun k_ h_ => h_)) (below_size (vb HB.out))); replace HB := bs HB hb; clear hb ho8) | ((with_reducible refine at_fn (f := 73) rfl ?_); refine gl (some 19) Try.func73 #[.slice A0 l0.length c0, .int .i64 a1] ?_; (with_reducible refine (spec_l20Upto.calls k _ _ l0 a1 t476 _ ?side1 HC0.out A5.out).mono ?_); (case side1 => exact vd HR0.out HB.out); rintro e w' ⟨rfl, ⟨nd, rfl⟩⟩; refine ⟨_, rfl, ?_⟩))
  go_loopg [7, 9] k (fun kq v7 v9 w' => ∃ (x7_1 : List ByteArray) (x9_1 : Int), v9 = .int .i64 x9_1 ∧ Aside0 (spec_OccupiedAt.l0 kq l0 x7_1 t476 x9_1 = some (r1, r2)) ∧ Aside0 (kq ≤ k) ∧ Aside0 (Kd.V Kd.string 9 w' w.heap.size (fun k_ => (w.heap.size ≤ k_)) v7 x7_1) ∧ Aside0 (Below w.heap.size w w'))
  case atStart => exact ⟨(y473), (0), (by first | rfl | (simp; done) | (simp [*]; done)), H', ⟨Nat.le_refl _⟩, ⟨Kd.R_V (by (with_reducible repeat (first | apply Kd.R_alloc | apply Kd.R_drewN | apply Kd.R_drew)); exact Kd.R_mono HO475.out (fun _ hk => hk.1))⟩, ⟨vb HB.out⟩⟩
  case round =>
   clear H'; (try clear p2); (try clear c3); (try clear c4); (try clear c4b0); (try clear c4b1); (try clear c7); obtain ⟨x7_1, x9_1, rfl, HA, HK1, HO_7, HB⟩ := hrel
   cases gk with
   | zero => exact absurd HA.out (by simp [spec_OccupiedAt.l0])
   | succ k1 =>
    have H := HA.out; clear HA; simp only [spec_OccupiedAt.l0] at H
    by_cases c9 : x9_1 < t476
    ·rw [if_pos c9] at H; have c9b0 := decide_eq_true c9; clear c9; by_cases c10 : 0 ≤ x9_1
     ·rw [if_pos c10] at H; have c10b0 := decide_eq_true c10; clear c10; by_cases c11 : x9_1 < (l0.length : Int)
      ·rw [if_pos c11] at H; have c11b0 := decide_eq_true c11; clear c11; obtain ⟨t478, A12, H⟩ := bnk H; by_cases c13 : t478 > 0
       ·rw [if_pos c13] at H; have c13b0 := decide_eq_true c13; clear c13; obtain ⟨t480, A14, H⟩ := bnk H; have H' := ak H; clear H; have p477 : 0 ≤ (x9_1 : Int) := od; have q477 : x9_1 < (l0.length : Int) := od; obtain ⟨ad477, e477, hx477_0, hx477_1, hx477_2⟩ := at_T42 HR0.out x9_1 p477 q477
        cases e477; replace hx477_0 := cb HB.out hx477_0; replace hx477_1 := cb HB.out hx477_1; replace hx477_2 := cb HB.out hx477_2; replace p477 := eq_true p477; replace q477 := eq_true q477; go_wp2_with (first | ((with_reducible refine at_fn (f := 65) rfl ?_); refine gl (some 32) Try.func65 #[.slice (some ad477) l0.length c0, .string ((rd_T42 l0 x9_1).f1), .int .i64 t476] ?_; (with_reducible refine (spec_l20People.calls k1 _ _ l0 ((rd_T42 l0 x9_1).f1) t476 t478 _ ?side1 HC0.out A12.out).mono ?_); (case side1 => exact vd HR0.out HB.out); rintro e w' ⟨rfl, ⟨nd, rfl⟩⟩; refine ⟨_, rfl, ?_⟩; have p479 : 0 ≤ (x9_1 : Int) := od; have q479 : x9_1 < (l0.length : Int) := od; obtain ⟨ad479, e479, hx479_0, hx479_1, hx479_2⟩ := at_T42 HR0.out x9_1 p479 q479; obtain rfl : ad477 = ad479 := (by injection e479); replace hx479_0 := cb HB.out hx479_0; replace hx479_1 := cb HB.out hx479_1; replace hx479_2 := cb HB.out hx479_2; replace p479 := eq_true p479; replace q479 := eq_true q479; obtain ⟨Ao15, co15, eo15⟩ := Kd.V_slice HO_7.out; subst eo15) | ((with_reducible refine at_fn (f := 80) rfl ?_); refine gl (some 40) Try.func80 #[.slice Ao15 x7_1.length co15, .string ((rd_T42 l0 x9_1).f1)] ?_; (with_reducible refine (spec_l20Insert.calls k1 (fun k_ => (w.heap.size ≤ k_)) _ _ x7_1 ((rd_T42 l0 x9_1).f1) t480 _ ?side1 A14.out).mono ?_); (case side1 => exact HO_7.out); rintro e w16 ⟨v481, rfl, ho0, hb⟩; refine ⟨_, rfl, ?_⟩; replace HO_7 := ak (Kd.V_below (vV HO_7.out) hb); have HO482 := ak (Kd.V_lower (Kd.V_mono (ok' := fun k_ => (w.heap.size ≤ k_)) ho0 (fun k_ hk_ => Or.elim hk_ (fun hs_ => hs_) (fun hn_ => (Nat.le_trans (below_size (vb HB.out)) hn_)))) (below_size (vb HB.out))); replace HB := bs HB hb; (try clear hb); (try clear hb2); (try clear hk); (try clear hi); (try clear ho0)))
        go_roundg k1
        case measure => have := HK1.out; omega
        case rel => exact ⟨(t480), (wrap64 (x9_1 + 1)), (by first | rfl | (simp; done) | (simp [*]; done)), H', ⟨by have := HK1.out; omega⟩, ⟨vV HO482.out⟩, ⟨vb HB.out⟩⟩
       ·rw [if_neg c13] at H; have c13b0 := decide_eq_false c13; clear c13; have H' := ak H; clear H; have p477 : 0 ≤ (x9_1 : Int) := od; have q477 : x9_1 < (l0.length : Int) := od; obtain ⟨ad477, e477, hx477_0, hx477_1, hx477_2⟩ := at_T42 HR0.out x9_1 p477 q477
        cases e477; replace hx477_0 := cb HB.out hx477_0; replace hx477_1 := cb HB.out hx477_1; replace hx477_2 := cb HB.out hx477_2; replace p477 := eq_true p477; replace q477 := eq_true q477; go_wp2_with (first | ((with_reducible refine at_fn (f := 65) rfl ?_); refine gl (some 32) Try.func65 #[.slice (some ad477) l0.length c0, .string ((rd_T42 l0 x9_1).f1), .int .i64 t476] ?_; (with_reducible refine (spec_l20People.calls k1 _ _ l0 ((rd_T42 l0 x9_1).f1) t476 t478 _ ?side1 HC0.out A12.out).mono ?_); (case side1 => exact vd HR0.out HB.out); rintro e w' ⟨rfl, ⟨nd, rfl⟩⟩; refine ⟨_, rfl, ?_⟩))
        go_roundg k1
        case measure => have := HK1.out; omega
        case rel => exact ⟨(x7_1), (wrap64 (x9_1 + 1)), (by first | rfl | (simp; done) | (simp [*]; done)), H', ⟨by have := HK1.out; omega⟩, ⟨vV HO_7.out⟩, ⟨vb HB.out⟩⟩
      ·rw [if_neg c11] at H; exact absurd H (by simp)
     ·rw [if_neg c10] at H; exact absurd H (by simp)
    ·rw [if_neg c9] at H; have c9b0 := decide_eq_false c9; clear c9; simp only [Option.some.injEq, Prod.mk.injEq] at H
     obtain ⟨rfl, rfl⟩ := H; go_wp2
     go_ret2
     exact ⟨_, ew, vV HO_7.out, vb HB.out⟩
 ·rw [if_neg c4] at H; obtain ⟨c4b0, c4b1⟩ := bqf c4; simp only [Option.some.injEq, Prod.mk.injEq] at H
  obtain ⟨rfl, rfl⟩ := H; go_enter Try.func35, Try.ntmps35; go_wp2_with (first | ((with_reducible refine at_fn (f := 72) rfl ?_); refine gl (some 12) Try.func72 #[.slice A0 l0.length c0, .string (⟨#[97]⟩ : ByteArray), .int .i64 a1] ?_; (with_reducible refine (spec_l20Code.calls k _ _ l0 (⟨#[97]⟩ : ByteArray) a1 t472 _ ?side1 HC0.out A3.out).mono ?_); (case side1 => exact vc HR0.out); rintro e w17 ⟨rfl, hb⟩; refine ⟨_, rfl, ?_⟩; replace HB := bs HB hb; (try clear hb); (try clear hb2); (try clear hk); (try clear hi)))
  go_ret2
  exact ⟨_, ew, Kd.V_nil _ _ _ _ _, vb HB.out⟩


/-! ### impl_putWord: function 81 -/
theorem less_swap : ∀ x y : List UInt8, (!(Op.bytesLess x y || x == y)) = Op.bytesLess y x
  | [], [] => by simp [Op.bytesLess]
  | [], _ :: _ => by simp [Op.bytesLess]
  | _ :: _, [] => by simp [Op.bytesLess]
  | a :: x, b :: y => by
    have ih := less_swap x y
    by_cases h1 : a < b
    · have h2 : ¬ b < a := by rw [UInt8.lt_iff_toNat_lt] at h1 ⊢; omega
      have h3 : ¬ a = b := by rintro rfl; rw [UInt8.lt_iff_toNat_lt] at h1; omega
      have h4 : ¬ b = a := fun h => h3 h.symm
      simp [Op.bytesLess, h1, h2, h3, h4]
    · by_cases h3 : a = b
      · subst h3
        simp only [Op.bytesLess, h1, decide_false, Bool.false_or, beq_self_eq_true, Bool.true_and, List.cons_beq_cons]
        exact ih
      · have h2 : b < a := by
          rw [UInt8.lt_iff_toNat_lt] at h1 ⊢
          have : a.toNat ≠ b.toNat := fun h => h3 (UInt8.toNat_inj.mp h)
          omega
        have h4 : ¬ b = a := fun h => h3 h.symm
        simp [Op.bytesLess, h1, h2, h3, h4]
theorem gtr_str (t : TypeId) (a b : ByteArray) : binOp .gtr t (.string a) (.string b) = pure (.bool (Op.bytesLess b.toList a.toList)) := by
  rw [← less_swap]; simp [binOp, Op.stringOp]
attribute [local go_sem high] gtr_str
theorem step_copy_row_ {P : Program} {ops : Array Oper} {o : Oper} {a : Act} {w : World} {K : Act → World → Prop} {Q : Exit → Act → World → Prop} {E : Prop} (hgd : o.guard = none) (d s : Operand) (dT sT : TypeId)
    (ho : o.op = .call { callee := .builtin .copy, args := #[d, s], argTypes := #[dT, sT] }) (elem : TypeId) (hu : P.underlying dT = some (.slice elem)) (hsz : (P.info? elem).map (·.size) = some 1)
    (g off dLen dCap : Nat) (ad : Addr) (sLen sCap : Nat) (hd : a.eval d = .slice (some ⟨g, off, none⟩) dLen dCap) (hs : a.eval s = .slice (some ad) sLen sCap)
    (cur : Array Value) (t : TypeId) (hg : w.heap[g]? = some (.cells cur t (0, 0))) (cs : List Value) (hn : cs.length = Nat.min sLen dLen)
    (hsrc : ∀ j v, cs[j]? = some v → w.cell? (ad.add j) = some v) (hfit : off + cs.length ≤ cur.size) (h1 : ∀ v ∈ cs, v.oneCell' = true)
    (h : K (a.put o.dst (goInt cs.length)) (w.setRow g (cur.toList.take off ++ (cs ++ cur.toList.drop (off + cs.length))).toArray)) : if Region.wanted o (yielded ops a.tmps) = true then Oper.wp P o a w K Q else E := by
  have hw : Region.wanted o (yielded ops a.tmps) = true := by simp [Region.wanted, hgd]
  rw [if_pos hw]
  have hrun := run_copy_row (P := P) w dT sT o.type elem g off dLen dCap ad sLen sCap cur t cs hu hsz hg hn hsrc hfit h1
  unfold Oper.wp
  simp [execOp, ho, resolve, invoke, builtin, hd, hs, hrun, Result.andThen]
  exact h
theorem step_copy_none_ {P : Program} {ops : Array Oper} {o : Oper} {a : Act} {w : World} {K : Act → World → Prop} {Q : Exit → Act → World → Prop} {E : Prop} (hgd : o.guard = none) (d s : Operand) (dT sT : TypeId)
    (ho : o.op = .call { callee := .builtin .copy, args := #[d, s], argTypes := #[dT, sT] }) (elem : TypeId) (hu : P.underlying dT = some (.slice elem)) (hsz : (P.info? elem).map (·.size) = some 1)
    (dp sp : Option Addr) (dLen dCap sLen sCap : Nat) (hd : a.eval d = .slice dp dLen dCap) (hs : a.eval s = .slice sp sLen sCap) (hn : Nat.min sLen dLen = 0)
    (h : K (a.put o.dst (goInt 0)) w) : if Region.wanted o (yielded ops a.tmps) = true then Oper.wp P o a w K Q else E := by
  have hw : Region.wanted o (yielded ops a.tmps) = true := by simp [Region.wanted, hgd]
  rw [if_pos hw]
  have hrun := run_copy_none (P := P) w dT sT o.type elem dp sp dLen dCap sLen sCap hu hsz hn
  unfold Oper.wp
  simp [execOp, ho, resolve, invoke, builtin, hd, hs, hrun, Result.andThen]
  exact h
theorem ins_row (cur : List Value) (l : List ByteArray) (e x : ByteArray) (m : Nat) (hm : m ≤ l.length) (h : cur.take (l.length + 1) = encs Value.string (l ++ [e])) :
    ((cur.take (m + 1) ++ encs Value.string (l.drop m) ++ cur.drop (l.length + 1)).set m (.string x)).take (l.length + 1) = encs Value.string (l.take m ++ [x] ++ l.drop m) := by
  have h1 : cur.take (m + 1) = encs Value.string ((l ++ [e]).take (m + 1)) := by
    have : cur.take (m + 1) = (cur.take (l.length + 1)).take (m + 1) := by rw [List.take_take, Nat.min_eq_left (by omega)]
    rw [this, h]; simp [encs, List.map_take]
  have hl : (encs Value.string ((l ++ [e]).take (m + 1))).length = m + 1 := by simp [encs]; omega
  have h2 : (encs Value.string ((l ++ [e]).take (m + 1))).set m (.string x) = encs Value.string (l.take m) ++ [Value.string x] := by
    rw [List.set_eq_take_append_cons_drop, if_pos (by omega), List.drop_of_length_le (by omega)]
    have h3 : (encs Value.string ((l ++ [e]).take (m + 1))).take m = encs Value.string (l.take m) := by
      simp only [encs, ← List.map_take, List.take_take, Nat.min_eq_left (Nat.le_succ m), List.take_append_of_le_length hm]
    rw [h3]
  rw [h1, List.append_assoc, List.set_append_left _ _ (by rw [hl]; omega), h2, ← List.append_assoc]
  rw [List.take_left' (by simp [encs]; omega)]
  simp [encs]
theorem w64_id {x : Int} (h0 : -9223372036854775808 ≤ x) (h1 : x ≤ 9223372036854775807) : wrap64 x = x := by rw [← i64_w, IntKind.wrap_i64]; omega
theorem src_row (cur : Array Value) (l : List ByteArray) (e : ByteArray) (m : Nat) (h : cur.toList.take (l.length + 1) = encs Value.string (l ++ [e])) (j : Nat) (v : Value) (hv : (encs Value.string (l.drop m))[j]? = some v) : cur[m + j]? = some v := by
  have hv' : (encs Value.string l)[m + j]? = some v := by simpa [encs, List.getElem?_drop, ← List.map_drop] using hv
  have hj : m + j < l.length := by have := (List.getElem?_eq_some_iff.1 hv').1; simpa [encs] using this
  have h2 : cur.toList[m + j]? = (cur.toList.take (l.length + 1))[m + j]? := by rw [List.getElem?_take, if_pos (by omega)]
  rw [← Array.getElem?_toList, h2, h]
  rw [show encs Value.string (l ++ [e]) = encs Value.string l ++ encs Value.string [e] by simp [encs], List.getElem?_append_left (by simp [encs]; omega)]
  exact hv'
theorem add_pl (b o j : Nat) : (⟨b, o, none⟩ : Addr).add j = ⟨b, o + j, none⟩ := by unfold Addr.add; split <;> simp_all
theorem hx_1 {x j n : Int} (h : wrap64 (x - 1) = j) (h0 : 0 ≤ x) (h2 : x ≤ n + 1) (hq : j < n) (hn : n < 8796093022208) : x ≤ n := by
  rw [w64_id (by omega) (by omega)] at h; omega
theorem hx_2 {m j n : Int} (h : wrap64 (m + 1) = j) (h0 : 0 ≤ m) (h2 : m ≤ n) (hn : n < 8796093022208) : j = m + 1 := by
  rw [w64_id (by omega) (by omega)] at h; omega
theorem nat_of {x : Int} (h : 0 ≤ x) : ∃ m : Nat, x = m := ⟨x.toNat, by omega⟩
theorem le_of_i {m n : Nat} (h : (m : Int) ≤ (n : Int)) : m ≤ n := by omega
theorem lt_i {n : Nat} (h : n < 8796093022208) : (n : Int) < 8796093022208 := by omega
theorem le_1 {m n : Nat} (h : m ≤ n) : (m : Int) ≤ ((n + 1 : Nat) : Int) := by omega
theorem le_2 {m n : Nat} (h : m ≤ n) : (m : Int) + 1 ≤ ((n + 1 : Nat) : Int) := by omega
theorem i_1 (m : Nat) : ((m : Int) + 1).toNat = m + 1 := by omega
theorem ne_1 {m n c : Nat} (h : m ≤ n) (hl : ¬ m = n) (hc : n + 1 ≤ c) : ¬ c = m + 1 := by omega
theorem ne_0 {m n c : Nat} (h : m ≤ n) (hc : n + 1 ≤ c) : ¬ c = m := by omega
theorem cs_len (l : List ByteArray) (m : Nat) (hm : m ≤ l.length) : (encs Value.string (l.drop m)).length = Nat.min (l.length + 1 - m) (l.length + 1 - (m + 1)) := by
  simp only [encs, List.length_map, List.length_drop]; show _ = min _ _; omega
theorem cs_fit (l : List ByteArray) (m c z : Nat) (hm : m ≤ l.length) (hc : l.length + 1 ≤ c) (hz : z = c) : m + 1 + (encs Value.string (l.drop m)).length ≤ z := by
  simp only [encs, List.length_map, List.length_drop]; omega
theorem cs_one (l : List ByteArray) : ∀ v ∈ encs Value.string l, v.oneCell' = true := by
  intro v hv; simp only [encs, List.mem_map] at hv; obtain ⟨x, _, rfl⟩ := hv; rfl
theorem row_len (cur : List Value) (l : List ByteArray) (m c : Nat) (hm : m ≤ l.length) (hc : l.length + 1 ≤ c) (hz : cur.length = c) : l.length + 1 ≤ (List.take (m + 1) cur ++ (encs Value.string (List.drop m l) ++ List.drop (m + 1 + (encs Value.string (List.drop m l)).length) cur)).length := by
  simp [encs]; omega
theorem lt_2 {m n : Nat} (h : m ≤ n) : (m : Int) < ((n + 1 : Nat) : Int) := by omega
theorem lt_3 {m n : Nat} (h : m ≤ n) : (m : Int) < (n : Int) + 1 := by omega
theorem lt_4 {m n k : Nat} (h : m ≤ n) (h2 : n + 1 ≤ k) : m < k := by omega
theorem ins_len (l : List ByteArray) (x : ByteArray) (m : Nat) (hm : m ≤ l.length) : (l.take m ++ [x] ++ l.drop m).length = l.length + 1 := by simp; omega
theorem len_1 (l : List ByteArray) (m : Nat) (hm : m ≤ l.length) : m + 1 + (encs Value.string (List.drop m l)).length = l.length + 1 := by simp [encs]; omega
theorem len_2 (cur : List Value) (l : List ByteArray) (m c : Nat) (hm : m ≤ l.length) (hc : l.length + 1 ≤ c) (hz : cur.length = c) : (List.take (m + 1) cur ++ (encs Value.string (List.drop m l) ++ List.drop (l.length + 1) cur)).length = c := by simp [encs]; omega
theorem none_len {m n : Nat} (h : m = n) : Nat.min (n + 1 - m) (n + 1 - (m + 1)) = 0 := by show min _ _ = 0; omega
theorem row_same (cur : List Value) (l : List ByteArray) (m : Nat) (h : m = l.length) : List.take (m + 1) cur ++ encs Value.string (List.drop m l) ++ List.drop (l.length + 1) cur = cur := by subst h; simp [encs]
def impl_putWord.l0 : Nat → List ByteArray → ByteArray → Int → Option (List ByteArray)
  | 0, _, _, _ => none
  | k + 1, x0, x1, x5 => if x5 > 0 then (if 0 ≤ (wrap64 (x5 - 1)) then (if (wrap64 (x5 - 1)) < (x0.length : Int) then (if (Op.bytesLess x1.toList ((rdOf ByteArray.empty x0 (wrap64 (x5 - 1))).toList)) = true then (impl_putWord.l0 k x0 x1 (wrap64 (x5 - 1))) else (if (rdOf ByteArray.empty x0 (wrap64 (x5 - 1))).toList = x1.toList then (some x0) else (if x0.length < 8796093022208 then ((some (x0 ++ [(⟨#[]⟩ : ByteArray)] : List ByteArray)).bind fun y478 => (if 0 ≤ (wrap64 (x5 + 1)) then (if (wrap64 (x5 + 1)) ≤ (y478.length : Int) then (if 0 ≤ x5 then (if x5 ≤ (y478.length : Int) then (some (x0.take (x5 : Int).toNat ++ [x1] ++ x0.drop (x5 : Int).toNat)) else (none)) else (none)) else (none)) else (none))) else (none)))) else (none)) else (none)) else (if x0.length < 8796093022208 then ((some (x0 ++ [(⟨#[]⟩ : ByteArray)] : List ByteArray)).bind fun y489 => (if 0 ≤ (wrap64 (x5 + 1)) then (if (wrap64 (x5 + 1)) ≤ (y489.length : Int) then (if 0 ≤ x5 then (if x5 ≤ (y489.length : Int) then (some (x0.take (x5 : Int).toNat ++ [x1] ++ x0.drop (x5 : Int).toNat)) else (none)) else (none)) else (none)) else (none))) else (none))
def impl_putWord.f (k : Nat) (l0 : List ByteArray) (a1 : ByteArray) : Option (List ByteArray) := impl_putWord.l0 k l0 a1 (l0.length : Int)
theorem impl_putWord.mono_l : ∀ k, (∀ y0 y1 y2, LeO (impl_putWord.l0 k y0 y1 y2) (impl_putWord.l0 (k + 1) y0 y1 y2))
  | 0 => fun _ _ _ r h => by simp [impl_putWord.l0] at h
  | k + 1 => by
    have ih0 := impl_putWord.mono_l k
    · intro y0 y1 y2
      unfold impl_putWord.l0
      repeat' first
      | (with_reducible exact ih0 _ _ _)
      | (with_reducible exact LeO.refl _)
      | (with_reducible exact LeO.none _)
      | (with_reducible refine LeO.ite ?_ ?_)
      | (with_reducible refine LeO.bind ?_ (fun _ => ?_))
      | exact ih0 _ _ _
      | exact LeO.none _
      | refine LeO.ite ?_ ?_
      | refine LeO.bind ?_ (fun _ => ?_)
theorem impl_putWord.mono : ∀ a0 a1 k, LeO (impl_putWord.f k a0 a1) (impl_putWord.f (k + 1) a0 a1) := by
  intro a0 a1 k
  have ih0 := impl_putWord.mono_l k
  unfold impl_putWord.f
  repeat' first
      | (with_reducible exact ih0 _ _ _)
      | (with_reducible exact LeO.refl _)
      | (with_reducible exact LeO.none _)
      | (with_reducible refine LeO.ite ?_ ?_)
      | (with_reducible refine LeO.bind ?_ (fun _ => ?_))
      | exact ih0 _ _ _
      | exact LeO.none _
      | refine LeO.ite ?_ ?_
      | refine LeO.bind ?_ (fun _ => ?_)
set_option maxHeartbeats 8000000 in
set_option maxRecDepth 100000 in
theorem impl_putWord.calls (k : Nat) (P0_ : Nat → Prop) (u9000_ : Value) (l0 : List ByteArray) (a1 : ByteArray) (r : List ByteArray) (w0 w : World) (hB : Below w0.heap.size w0 w) (ho0 : Kd.R Kd.string 9 w w0.heap.size P0_ u9000_ l0) (h : impl_putWord.f k l0 a1 = some r) :
    Calls Try.prog 81 #[u9000_, .string a1] w fun e w' => ∃ v0_ : Value, e = .returned (v0_) ∧ Kd.R Kd.string 9 w' w0.heap.size (fun k_ => (P0_ k_ ∨ w.heap.size ≤ k_)) v0_ r ∧ Below w0.heap.size w0 w' ∧ Kept w w' (fun k_ => P0_ k_) := by
  have HO0 := Aside0.mk (show Kd.R Kd.string 9 w w0.heap.size (fun k_ => (P0_ k_ ∨ w.heap.size ≤ k_)) u9000_ l0 from Kd.R_mono ho0 (fun k_ hk => (.inl hk)))
  have HK := Aside0.mk (Kept.refl w (fun k_ => P0_ k_))
  have HW0 := Aside0.mk hB.size
  have HB := Aside0.mk hB
  clear hB
  have H : (impl_putWord.l0 k l0 a1 (l0.length : Int)) = some r := h
  clear h
  have H' := Aside0.mk H
  clear H
  obtain ⟨Ao3, co3, eo3⟩ := Kd.R_slice HO0.out
  subst eo3
  go_enter Try.func81, Try.ntmps81
  go_wp2
  repeat (go_quiet (fail); try go_wp2)
  go_loopg [5] k (fun kq v5 w' => ∃ (x5_1 : Int), v5 = .int .i64 x5_1 ∧ Aside0 (impl_putWord.l0 kq l0 a1 x5_1 = some r) ∧ Aside0 (kq ≤ k) ∧ Aside0 (Kd.R Kd.string 9 w' w0.heap.size (fun k_ => (P0_ k_ ∨ w.heap.size ≤ k_)) (.slice Ao3 l0.length co3) l0) ∧ Aside0 (Kept w w' (fun k_ => P0_ k_)) ∧ Aside0 (Below w0.heap.size w0 w'))
  case atStart => exact ⟨((l0.length : Int)), (by first | rfl | (simp; done) | (simp [*]; done)), H', ⟨Nat.le_refl _⟩, ⟨by (with_reducible repeat (first | apply Kd.R_alloc | apply Kd.R_drewN | apply Kd.R_drew)); exact HO0.out⟩, ⟨by repeat (first | (with_reducible first | exact HK.out | apply Kept.alloc | apply Kept.drewN | apply Kept.drew) | exact HK.out)⟩, ⟨by repeat (first | (with_reducible first | exact HB.out | apply below_alloc | apply pw_below_drewN | apply below_drew1) | exact HB.out)⟩⟩
  case round =>
    clear H'
    try clear p2
    obtain ⟨x5_1, rfl, HA, HK1, HO_0, HK, HB⟩ := hrel
    cases gk with
    | zero => exact absurd HA.out (by simp [impl_putWord.l0])
    | succ k1 =>
      have H := HA.out
      clear HA
      simp only [impl_putWord.l0] at H
      by_cases c4 : x5_1 > 0
      · rw [if_pos c4] at H
        have c4b0 : decide (0 < x5_1) = true := decide_eq_true c4
        clear c4
        obtain ⟨ji5, hji5⟩ : ∃ j_ : Int, (wrap64 (x5_1 - 1)) = j_ := ⟨_, rfl⟩
        replace H : (if 0 ≤ (ji5) then (if (ji5) < (l0.length : Int) then (if (Op.bytesLess a1.toList ((rdOf ByteArray.empty l0 (ji5)).toList)) = true then (impl_putWord.l0 k1 l0 a1 ji5) else (if (rdOf ByteArray.empty l0 (ji5)).toList = a1.toList then (some l0) else (if l0.length < 8796093022208 then ((some (l0 ++ [(⟨#[]⟩ : ByteArray)] : List ByteArray)).bind fun y478 => (if 0 ≤ (wrap64 (x5_1 + 1)) then (if (wrap64 (x5_1 + 1)) ≤ (y478.length : Int) then (if 0 ≤ x5_1 then (if x5_1 ≤ (y478.length : Int) then (some (l0.take (x5_1 : Int).toNat ++ [a1] ++ l0.drop (x5_1 : Int).toNat)) else (none)) else (none)) else (none)) else (none))) else (none)))) else (none)) else (none)) = some r := by first | (rw [hji5] at H; exact H) | (simp only [hji5] at H ⊢; exact H)
        have hji5w : (IntKind.i64.wrap (x5_1 - 1)) = ji5 := (i64_w _).trans hji5
        by_cases c6 : 0 ≤ (ji5)
        · rw [if_pos c6] at H
          have c6b0 : decide (0 ≤ (ji5)) = true := decide_eq_true c6
          clear c6
          by_cases c7 : (ji5) < (l0.length : Int)
          · rw [if_pos c7] at H
            have c7b0 : decide ((ji5) < (l0.length : Int)) = true := decide_eq_true c7
            clear c7
            by_cases c8 : (Op.bytesLess a1.toList ((rdOf ByteArray.empty l0 (ji5)).toList)) = true
            · rw [if_pos c8] at H
              have c8b0 : (Op.bytesLess a1.toList ((rdOf ByteArray.empty l0 (ji5)).toList)) = true := c8
              clear c8
              have H' := Aside0.mk H
              clear H
              have p476 : 0 ≤ ((ji5) : Int) := of_decide_eq_true (by first | (with_reducible assumption) | assumption)
              have q476 : (ji5) < (l0.length : Int) := of_decide_eq_true (by first | (with_reducible assumption) | assumption)
              obtain ⟨ad476, e476, hx476_0⟩ := Kd.at_string (Kd.R_reads' HO_0.out).2.2 (ji5) p476 q476
              cases e476
              replace p476 := eq_true p476
              replace q476 := eq_true q476
              go_wp2
              repeat (go_quiet (fail); try go_wp2)
              go_roundg k1
              case measure => have := HK1.out; omega
              case rel => exact ⟨(ji5), (by first | rfl | (simp; done) | (simp only [← hji5] <;> (first | rfl | simp)) | (simp [*]; done)), H', ⟨by have := HK1.out; omega⟩, ⟨by (with_reducible repeat (first | apply Kd.R_alloc | apply Kd.R_drewN | apply Kd.R_drew)); exact HO_0.out⟩, ⟨by repeat (first | (with_reducible first | exact HK.out | apply Kept.alloc | apply Kept.drewN | apply Kept.drew) | exact HK.out)⟩, ⟨by repeat (first | (with_reducible first | exact HB.out | apply below_alloc | apply pw_below_drewN | apply below_drew1) | exact HB.out)⟩⟩
            · rw [if_neg c8] at H
              have c8b0 : (Op.bytesLess a1.toList ((rdOf ByteArray.empty l0 (ji5)).toList)) = false := by simpa using c8
              clear c8
              by_cases c9 : (rdOf ByteArray.empty l0 (ji5)).toList = a1.toList
              · rw [if_pos c9] at H
                have c9b0 : ((rdOf ByteArray.empty l0 (ji5)).toList == a1.toList) = true := beq_iff_eq.mpr c9
                have c9b1 : ((rdOf ByteArray.empty l0 (ji5)).toList != a1.toList) = false := bne_eq_false_iff_eq.mpr c9
                clear c9
                obtain rfl := Option.some.inj H
                have p476 : 0 ≤ ((ji5) : Int) := of_decide_eq_true (by first | (with_reducible assumption) | assumption)
                have q476 : (ji5) < (l0.length : Int) := of_decide_eq_true (by first | (with_reducible assumption) | assumption)
                obtain ⟨ad476, e476, hx476_0⟩ := Kd.at_string (Kd.R_reads' HO_0.out).2.2 (ji5) p476 q476
                cases e476
                replace p476 := eq_true p476
                replace q476 := eq_true q476
                have p477 : 0 ≤ ((ji5) : Int) := of_decide_eq_true (by first | (with_reducible assumption) | assumption)
                have q477 : (ji5) < (l0.length : Int) := of_decide_eq_true (by first | (with_reducible assumption) | assumption)
                obtain ⟨ad477, e477, hx477_0⟩ := Kd.at_string (Kd.R_reads' HO_0.out).2.2 (ji5) p477 q477
                obtain rfl : ad476 = ad477 := (by injection e477)
                replace p477 := eq_true p477
                replace q477 := eq_true q477
                go_wp2
                repeat (go_quiet (fail); try go_wp2)
                go_ret
                exact ⟨_, by first | rfl | (simp [errW_none, errW_some] <;> rfl) | (simp only [← hji5]; first | rfl | (simp [errW_none, errW_some] <;> rfl)) | (simp [*, errW_none, errW_some] <;> rfl), by (with_reducible repeat (first | apply Kd.R_alloc | apply Kd.R_drewN | apply Kd.R_drew)); exact HO_0.out, by repeat (first | (with_reducible first | exact HB.out | apply below_alloc | apply pw_below_drewN | apply below_drew1) | exact HB.out), by repeat (first | (with_reducible first | exact HK.out | apply Kept.alloc | apply Kept.drewN | apply Kept.drew) | exact HK.out)⟩
              · rw [if_neg c9] at H
                have c9b0 : ((rdOf ByteArray.empty l0 (ji5)).toList == a1.toList) = false := beq_eq_false_iff_ne.mpr c9
                have c9b1 : ((rdOf ByteArray.empty l0 (ji5)).toList != a1.toList) = true := bne_iff_ne.mpr c9
                by_cases c10 : l0.length < 8796093022208
                · rw [if_pos c10] at H
                  have LMc10 := Aside0.mk c10
                  clear c10
                  obtain ⟨y478, hy478⟩ : ∃ y_ : List ByteArray, y_ = (l0 ++ [(⟨#[]⟩ : ByteArray)]) := ⟨_, rfl⟩
                  replace H : (if 0 ≤ (wrap64 (x5_1 + 1)) then (if (wrap64 (x5_1 + 1)) ≤ (y478.length : Int) then (if 0 ≤ x5_1 then (if x5_1 ≤ (y478.length : Int) then (some (l0.take (x5_1 : Int).toNat ++ [a1] ++ l0.drop (x5_1 : Int).toNat)) else (none)) else (none)) else (none)) else (none)) = some r := by first | (rw [hy478]; with_reducible exact H) | (have H2_ := (Option.bind_some _ _).symm.trans H; rw [hy478]; with_reducible exact H2_) | (have H2_ := (Option.bind_some _ _).symm.trans H; with_reducible exact H2_) | with_reducible exact H | (rw [hy478]; exact H) | exact H
                  have Ny478 := Aside0.mk hy478
                  clear hy478
                  obtain ⟨ji11, hji11⟩ : ∃ j_ : Int, (wrap64 (x5_1 + 1)) = j_ := ⟨_, rfl⟩
                  replace H : (if 0 ≤ (ji11) then (if (ji11) ≤ (y478.length : Int) then (if 0 ≤ x5_1 then (if x5_1 ≤ (y478.length : Int) then (some (l0.take (x5_1 : Int).toNat ++ [a1] ++ l0.drop (x5_1 : Int).toNat)) else (none)) else (none)) else (none)) else (none)) = some r := by first | (rw [hji11] at H; exact H) | (simp only [hji11] at H ⊢; exact H)
                  have hji11w : (IntKind.i64.wrap (x5_1 + 1)) = ji11 := (i64_w _).trans hji11
                  by_cases c12 : 0 ≤ (ji11)
                  · rw [if_pos c12] at H
                    have c12b0 := eq_true c12
                    have c12b1 : decide (0 ≤ (ji11)) = true := decide_eq_true c12
                    clear c12
                    by_cases c13 : (ji11) ≤ (y478.length : Int)
                    · rw [if_pos c13] at H
                      have c13b0 := eq_true c13
                      have c13b1 : decide ((ji11) ≤ (y478.length : Int)) = true := decide_eq_true c13
                      clear c13
                      obtain ⟨y481, hy481⟩ : ∃ y_ : List ByteArray, y_ = (y478.drop ((ji11) : Int).toNat) := ⟨_, rfl⟩
                      replace H : (if 0 ≤ x5_1 then (if x5_1 ≤ (y478.length : Int) then (some (l0.take (x5_1 : Int).toNat ++ [a1] ++ l0.drop (x5_1 : Int).toNat)) else (none)) else (none)) = some r := by first | (rw [hy481]; with_reducible exact H) | (have H2_ := (Option.bind_some _ _).symm.trans H; rw [hy481]; with_reducible exact H2_) | (have H2_ := (Option.bind_some _ _).symm.trans H; with_reducible exact H2_) | with_reducible exact H | (rw [hy481]; exact H) | exact H
                      have Ny481 := Aside0.mk hy481
                      clear hy481
                      by_cases c14 : 0 ≤ x5_1
                      · rw [if_pos c14] at H
                        have c14b0 := eq_true c14
                        have c14b1 : decide (0 ≤ x5_1) = true := decide_eq_true c14
                        clear c14
                        by_cases c15 : x5_1 ≤ (y478.length : Int)
                        · rw [if_pos c15] at H
                          have c15b0 := eq_true c15
                          have c15b1 : decide (x5_1 ≤ (y478.length : Int)) = true := decide_eq_true c15
                          clear c15
                          obtain ⟨y485, hy485⟩ : ∃ y_ : List ByteArray, y_ = (y478.drop (x5_1 : Int).toNat) := ⟨_, rfl⟩
                          replace H : (some (l0.take (x5_1 : Int).toNat ++ [a1] ++ l0.drop (x5_1 : Int).toNat)) = some r := by first | (rw [hy485]; with_reducible exact H) | (have H2_ := (Option.bind_some _ _).symm.trans H; rw [hy485]; with_reducible exact H2_) | (have H2_ := (Option.bind_some _ _).symm.trans H; with_reducible exact H2_) | with_reducible exact H | (rw [hy485]; exact H) | exact H
                          have Ny485 := Aside0.mk hy485
                          clear hy485
                          obtain rfl := Option.some.inj H
                          have p476 : 0 ≤ ((ji5) : Int) := of_decide_eq_true (by first | (with_reducible assumption) | assumption)
                          have q476 : (ji5) < (l0.length : Int) := of_decide_eq_true (by first | (with_reducible assumption) | assumption)
                          obtain ⟨ad476, e476, hx476_0⟩ := Kd.at_string (Kd.R_reads' HO_0.out).2.2 (ji5) p476 q476
                          cases e476
                          replace p476 := eq_true p476
                          replace q476 := eq_true q476
                          have p477 : 0 ≤ ((ji5) : Int) := of_decide_eq_true (by first | (with_reducible assumption) | assumption)
                          have q477 : (ji5) < (l0.length : Int) := of_decide_eq_true (by first | (with_reducible assumption) | assumption)
                          obtain ⟨ad477, e477, hx477_0⟩ := Kd.at_string (Kd.R_reads' HO_0.out).2.2 (ji5) p477 q477
                          obtain rfl : ad476 = ad477 := (by injection e477)
                          replace p477 := eq_true p477
                          replace q477 := eq_true q477
                          go_wp2_with (first | ((with_reducible refine gate_builtin (b := .append) (xs := #[.tmp 33, .tmp 34]) rfl ?_); at_builtin; refine Kd.R_append Kd.string (w0 := w0) w0.heap.size rfl (.tmp 33) (.tmp 34) 46 9 (.string ⟨#[]⟩) 16 rfl Try.underlying46 info9 rfl (by decide) (by omega) (.slice (some ad476) l0.length co3) l0 (⟨#[]⟩ : ByteArray) [.string (⟨#[]⟩ : ByteArray)] (fun k_ => (P0_ k_ ∨ w.heap.size ≤ k_)) (fun _ => False) rfl rfl ?aP (fun _ hk => hk.elim) ?aF ?aO ?aB ?aS ?aL ?_; (case aP => exact rfl); (case aB => exact (by repeat (first | (with_reducible first | exact HB.out | apply below_alloc | apply pw_below_drewN | apply below_drew1) | exact HB.out))); (case aF => exact (fun k hk => .inr (by first | exact Nat.le_trans (Kept.alloc HK.out _).1 hk | exact Nat.le_trans HK.out.1 hk))); (case aO => exact (by (with_reducible repeat (first | apply Kd.R_alloc | apply Kd.R_drewN | apply Kd.R_drew)); exact HO_0.out)); (case aS => exact (below_size (by repeat (first | (with_reducible first | exact HB.out | apply below_alloc | apply pw_below_drewN | apply below_drew1) | exact HB.out)))); (case aL => have := LMc10.out; omega); intro v846 w22 ho hb hg hat))
                          repeat (go_quiet (fail); try go_wp2)
                          have hown := Kd.own_of_R ho
                          rcases hown.2 with ⟨_, hz⟩ | ⟨g, cap, cur, hv, hbg, hh, hnc, hcm, hsz, htk⟩
                          · exact absurd hz (by simp)
                          have hx0 : 0 ≤ x5_1 := of_eq_true c14b0
                          have hyl : y478.length = l0.length + 1 := by rw [Ny478.out]; simp
                          have hx2 : x5_1 ≤ (y478.length : Int) := of_eq_true c15b0
                          rw [hyl] at hx2
                          have hx1 : x5_1 ≤ (l0.length : Int) := hx_1 hji5 hx0 (by push_cast at hx2; exact hx2) (of_eq_true q476) (lt_i LMc10.out)
                          obtain ⟨m, rfl⟩ := nat_of hx0
                          have hm : m ≤ l0.length := le_of_i hx1
                          have hji := hx_2 hji11 hx0 hx1 (lt_i LMc10.out)
                          subst hji
                          obtain ⟨i0, hi0, _, hsz0, _⟩ := info_parts info9
                          simp only [List.length_append, List.length_singleton, Nat.mul_one] at hv hnc htk hcm hsz
                          subst hv
                          have hcutA := cut_from (P := Try.prog) 46 9 .i64 Try.underlying46 hi0 1 hsz0 (some ⟨g, 0, none⟩) (l0.length + 1) cap ((m : Int) + 1) (Int.le_add_one hx0) (le_2 hm)
                          have hcutB := cut_from (P := Try.prog) 46 9 .i64 Try.underlying46 hi0 1 hsz0 (some ⟨g, 0, none⟩) (l0.length + 1) cap (m : Int) hx0 (le_1 hm)
                          by_cases hlast : m = l0.length
                          · subst hlast
                            by_cases hcap : cap = l0.length + 1
                            · subst hcap
                              rw [i_1 l0.length, if_pos rfl] at hcutA
                              rw [Int.toNat_natCast l0.length, if_neg (ne_0 hm hnc)] at hcutB
                              simp only [Option.map_some, Addr.add, Nat.zero_add, Nat.mul_one] at hcutA hcutB
                              go_region_law (refine step_copy_none_ rfl (.tmp 39) (.tmp 42) 46 46 rfl 9 Try.underlying46 (by rw [hi0]; simp [hsz0]) (some ⟨g, 0, none⟩) (some ⟨g, l0.length, none⟩) (l0.length + 1 - (l0.length + 1)) ((l0.length + 1) - (l0.length + 1)) (l0.length + 1 - l0.length) ((l0.length + 1) - l0.length) (by simp [Act.eval, Act.put]) (by simp [Act.eval, Act.put]; first | exact fun h => h.symm | (intro h; simp [h])) (none_len rfl) ?_)
                              have hokg : P0_ g ∨ w.heap.size ≤ g := ho.1 g (by simp [Value.ownBlock])
                              have hK3 : Kept w w22.drew (fun k_ => P0_ k_) := Kept.drew (Kept.of_grown hg HK.out (fun k hk => HO_0.out.1 k hk))
                              have hB3 := below_drew1 hb
                              have hin := ins_row cur.toList l0 _ a1 l0.length hm htk
                              rw [row_same cur.toList l0 l0.length rfl] at hin
                              have hrs : cur.toList.length = (l0.length + 1) := by rw [Array.length_toList, hsz]
                              have hrl : l0.length + 1 ≤ cur.toList.length := by rw [hrs]; exact hnc
                              have hh3 : w22.drew.heap[g]? = some (.cells cur.toList.toArray 9 (0, 0)) := by rw [Array.toArray_toList]; exact hh
                              generalize w22.drew = W3 at hh3 hB3 hK3 ⊢
                              generalize cur.toList = row at hh3 hrl hin hrs
                              have hc3 : W3.cell? ⟨g, l0.length, none⟩ = some (row[l0.length]'(lt_4 hm hrl)) := by rw [blk_cell hh3]; simp
                              have hf3 : W3.frozen? ⟨g, l0.length, none⟩ = false := blk_frozen hh3 l0.length
                              have hp3 : 0 ≤ (l0.length : Int) := hx0
                              have hq3 : (l0.length : Int) < ((l0.length + 1 : Nat) : Int) := lt_2 hm
                              have hq4 : (l0.length : Int) < (l0.length : Int) + 1 := lt_3 hm
                              have fin : Kd.R Kd.string 9 (W3.setCell ⟨g, l0.length, none⟩ (.string a1)) w0.heap.size (fun k_ => (P0_ k_ ∨ w.heap.size ≤ k_)) (.slice (some ⟨g, 0, none⟩) (l0.length + 1) (l0.length + 1)) (l0.take l0.length ++ [a1] ++ l0.drop l0.length) := by
                                have hl := ins_len l0 a1 l0.length hm
                                refine Kd.R_of_own ⟨by rw [encs_length, Nat.mul_one], .inr ⟨g, (l0.length + 1), row.toArray.setIfInBounds l0.length (.string a1), ?_, hbg, blk_put hh3 l0.length _ rfl, ?_, hcm, ?_, ?_⟩⟩ ?_
                                · rw [hl]
                                · rw [hl]; exact hnc
                                · rw [Array.size_setIfInBounds, List.size_toArray, hrs, Nat.mul_one]
                                · rw [hl, Nat.mul_one, Array.toList_setIfInBounds]; simpa [List.append_assoc] using hin
                                · intro k hk; simp only [Value.ownBlock, Option.some.injEq] at hk; subst hk; exact hokg
                              have fb : Below w0.heap.size w0 (W3.setCell ⟨g, l0.length, none⟩ (.string a1)) := Below.setCell hB3 hbg _
                              have fk : Kept w (W3.setCell ⟨g, l0.length, none⟩ (.string a1)) (fun k_ => P0_ k_) := Kept.setCell hK3 hokg _
                              have el : List.take l0.length l0 ++ [a1] ++ List.drop l0.length l0 = l0 ++ [a1] := by simp
                              rw [el] at fin
                              go_wp2
                              all_goals go_ret
                              · exfalso
                                have hlen : l0.length = 0 := by simp [h]
                                have h2 := of_eq_true q476
                                rw [hlen] at h2
                                exact absurd (Int.lt_of_le_of_lt (of_eq_true p476) h2) (by decide)
                              · exact ⟨.slice (some ⟨g, 0, none⟩) (l0.length + 1) (l0.length + 1), rfl, (by first | exact fin | simpa using fin), fb, fk⟩
                            · rw [i_1 l0.length, if_neg hcap] at hcutA
                              rw [Int.toNat_natCast l0.length, if_neg (ne_0 hm hnc)] at hcutB
                              simp only [Option.map_some, Addr.add, Nat.zero_add, Nat.mul_one] at hcutA hcutB
                              go_region_law (refine step_copy_none_ rfl (.tmp 39) (.tmp 42) 46 46 rfl 9 Try.underlying46 (by rw [hi0]; simp [hsz0]) (some ⟨g, l0.length + 1, none⟩) (some ⟨g, l0.length, none⟩) (l0.length + 1 - (l0.length + 1)) (cap - (l0.length + 1)) (l0.length + 1 - l0.length) (cap - l0.length) (by simp [Act.eval, Act.put]) (by simp [Act.eval, Act.put]; first | exact fun h => h.symm | (intro h; simp [h])) (none_len rfl) ?_)
                              have hokg : P0_ g ∨ w.heap.size ≤ g := ho.1 g (by simp [Value.ownBlock])
                              have hK3 : Kept w w22.drew (fun k_ => P0_ k_) := Kept.drew (Kept.of_grown hg HK.out (fun k hk => HO_0.out.1 k hk))
                              have hB3 := below_drew1 hb
                              have hin := ins_row cur.toList l0 _ a1 l0.length hm htk
                              rw [row_same cur.toList l0 l0.length rfl] at hin
                              have hrs : cur.toList.length = cap := by rw [Array.length_toList, hsz]
                              have hrl : l0.length + 1 ≤ cur.toList.length := by rw [hrs]; exact hnc
                              have hh3 : w22.drew.heap[g]? = some (.cells cur.toList.toArray 9 (0, 0)) := by rw [Array.toArray_toList]; exact hh
                              generalize w22.drew = W3 at hh3 hB3 hK3 ⊢
                              generalize cur.toList = row at hh3 hrl hin hrs
                              have hc3 : W3.cell? ⟨g, l0.length, none⟩ = some (row[l0.length]'(lt_4 hm hrl)) := by rw [blk_cell hh3]; simp
                              have hf3 : W3.frozen? ⟨g, l0.length, none⟩ = false := blk_frozen hh3 l0.length
                              have hp3 : 0 ≤ (l0.length : Int) := hx0
                              have hq3 : (l0.length : Int) < ((l0.length + 1 : Nat) : Int) := lt_2 hm
                              have hq4 : (l0.length : Int) < (l0.length : Int) + 1 := lt_3 hm
                              have fin : Kd.R Kd.string 9 (W3.setCell ⟨g, l0.length, none⟩ (.string a1)) w0.heap.size (fun k_ => (P0_ k_ ∨ w.heap.size ≤ k_)) (.slice (some ⟨g, 0, none⟩) (l0.length + 1) cap) (l0.take l0.length ++ [a1] ++ l0.drop l0.length) := by
                                have hl := ins_len l0 a1 l0.length hm
                                refine Kd.R_of_own ⟨by rw [encs_length, Nat.mul_one], .inr ⟨g, cap, row.toArray.setIfInBounds l0.length (.string a1), ?_, hbg, blk_put hh3 l0.length _ rfl, ?_, hcm, ?_, ?_⟩⟩ ?_
                                · rw [hl]
                                · rw [hl]; exact hnc
                                · rw [Array.size_setIfInBounds, List.size_toArray, hrs, Nat.mul_one]
                                · rw [hl, Nat.mul_one, Array.toList_setIfInBounds]; simpa [List.append_assoc] using hin
                                · intro k hk; simp only [Value.ownBlock, Option.some.injEq] at hk; subst hk; exact hokg
                              have fb : Below w0.heap.size w0 (W3.setCell ⟨g, l0.length, none⟩ (.string a1)) := Below.setCell hB3 hbg _
                              have fk : Kept w (W3.setCell ⟨g, l0.length, none⟩ (.string a1)) (fun k_ => P0_ k_) := Kept.setCell hK3 hokg _
                              have el : List.take l0.length l0 ++ [a1] ++ List.drop l0.length l0 = l0 ++ [a1] := by simp
                              rw [el] at fin
                              go_wp2
                              all_goals go_ret
                              · exfalso
                                have hlen : l0.length = 0 := by simp [h]
                                have h2 := of_eq_true q476
                                rw [hlen] at h2
                                exact absurd (Int.lt_of_le_of_lt (of_eq_true p476) h2) (by decide)
                              · exact ⟨.slice (some ⟨g, 0, none⟩) (l0.length + 1) cap, rfl, (by first | exact fin | simpa using fin), fb, fk⟩
                          · rw [i_1 m, if_neg (ne_1 hm hlast hnc)] at hcutA
                            rw [Int.toNat_natCast m, if_neg (ne_0 hm hnc)] at hcutB
                            simp only [Option.map_some, Addr.add, Nat.zero_add, Nat.mul_one] at hcutA hcutB
                            have hsrc : ∀ j v, (encs Value.string (l0.drop m))[j]? = some v → w22.drew.cell? ((⟨g, m, none⟩ : Addr).add j) = some v := by
                              intro j v hv
                              rw [add_pl]
                              exact (blk_cell (w := w22.drew) hh (m + j)).trans (src_row cur l0 _ m htk j v hv)
                            go_region_law (refine step_copy_row_ rfl (.tmp 39) (.tmp 42) 46 46 rfl 9 Try.underlying46 (by rw [hi0]; simp [hsz0]) g (m + 1) (l0.length + 1 - (m + 1)) (cap - (m + 1)) ⟨g, m, none⟩ (l0.length + 1 - m) (cap - m) (by simp [Act.eval, Act.put]) (by simp [Act.eval, Act.put]; exact fun h => h.symm) cur 9 hh (encs Value.string (l0.drop m)) (cs_len l0 m hm) hsrc (cs_fit l0 m cap _ hm hnc hsz) (cs_one _) ?_)
                            have hh3 := setRow_heap w22.drew g cur (List.take (m + 1) cur.toList ++ (encs Value.string (List.drop m l0) ++ List.drop (m + 1 + (encs Value.string (List.drop m l0)).length) cur.toList)).toArray 9 (0, 0) hh
                            have hokg : P0_ g ∨ w.heap.size ≤ g := ho.1 g (by simp [Value.ownBlock])
                            have hK2 : Kept w w22 (fun k_ => P0_ k_) := Kept.of_grown hg HK.out (fun k hk => HO_0.out.1 k hk)
                            have hB3 := below_setRow (below_drew1 hb) hbg (List.take (m + 1) cur.toList ++ (encs Value.string (List.drop m l0) ++ List.drop (m + 1 + (encs Value.string (List.drop m l0)).length) cur.toList)).toArray
                            have hK3 : Kept w (w22.drew.setRow g (List.take (m + 1) cur.toList ++ (encs Value.string (List.drop m l0) ++ List.drop (m + 1 + (encs Value.string (List.drop m l0)).length) cur.toList)).toArray) (fun k_ => P0_ k_) := Kept.then_ (S2 := fun k => k = g) hK2 ⟨(below_setRow (Below.refl 0 w22.drew) (Nat.zero_le g) _).size, fun i _ hn => setRow_other w22.drew g i _ hn⟩ (fun k hk => hk ▸ hokg)
                            generalize w22.drew.setRow g _ = W3 at hh3 hB3 hK3 ⊢
                            have hrl := row_len cur.toList l0 m cap hm hnc (by rw [Array.length_toList, hsz])
                            have hin := ins_row cur.toList l0 _ a1 m hm htk
                            rw [len_1 l0 m hm] at hh3 hrl
                            rw [List.append_assoc] at hin
                            have hcl : cur.toList.length = cap := by rw [Array.length_toList, hsz]
                            have hrs := len_2 cur.toList l0 m cap hm hnc hcl
                            obtain ⟨row, hrow⟩ : ∃ row, List.take (m + 1) cur.toList ++ (encs Value.string (List.drop m l0) ++ List.drop (l0.length + 1) cur.toList) = row := ⟨_, rfl⟩
                            rw [hrow] at hh3 hrl hin hrs
                            have hc3 : W3.cell? ⟨g, m, none⟩ = some (row[m]'(lt_4 hm hrl)) := by rw [blk_cell hh3]; simp
                            have hf3 : W3.frozen? ⟨g, m, none⟩ = false := blk_frozen hh3 m
                            have hp3 : 0 ≤ (m : Int) := hx0
                            have hq3 : (m : Int) < ((l0.length + 1 : Nat) : Int) := lt_2 hm
                            have hq4 : (m : Int) < (l0.length : Int) + 1 := lt_3 hm
                            have fin : Kd.R Kd.string 9 (W3.setCell ⟨g, m, none⟩ (.string a1)) w0.heap.size (fun k_ => (P0_ k_ ∨ w.heap.size ≤ k_)) (.slice (some ⟨g, 0, none⟩) (l0.length + 1) cap) (l0.take m ++ [a1] ++ l0.drop m) := by
                              have hl := ins_len l0 a1 m hm
                              refine Kd.R_of_own ⟨by rw [encs_length, Nat.mul_one], .inr ⟨g, cap, row.toArray.setIfInBounds m (.string a1), ?_, hbg, blk_put hh3 m _ rfl, ?_, hcm, ?_, ?_⟩⟩ ?_
                              · rw [hl]
                              · rw [hl]; exact hnc
                              · rw [Array.size_setIfInBounds, List.size_toArray, hrs, Nat.mul_one]
                              · rw [hl, Nat.mul_one, Array.toList_setIfInBounds]; simpa [List.append_assoc] using hin
                              · intro k hk; simp only [Value.ownBlock, Option.some.injEq] at hk; subst hk; exact hokg
                            have fb : Below w0.heap.size w0 (W3.setCell ⟨g, m, none⟩ (.string a1)) := Below.setCell hB3 hbg _
                            have fk : Kept w (W3.setCell ⟨g, m, none⟩ (.string a1)) (fun k_ => P0_ k_) := Kept.setCell hK3 hokg _
                            go_wp2
                            all_goals go_ret
                            · subst h; exact ⟨.slice (some ⟨g, 0, none⟩) (l0.length + 1) cap, rfl, fin, fb, fk⟩
                            · exact ⟨.slice (some ⟨g, 0, none⟩) (l0.length + 1) cap, rfl, (by first | exact fin | (rw [show l0.take m ++ a1 :: l0.drop m = l0.take m ++ [a1] ++ l0.drop m from by simp]; exact fin)), fb, fk⟩
                        · rw [if_neg c15] at H
                          exact absurd H (by simp)
                      · rw [if_neg c14] at H
                        exact absurd H (by simp)
                    · rw [if_neg c13] at H
                      exact absurd H (by simp)
                  · rw [if_neg c12] at H
                    exact absurd H (by simp)
                · rw [if_neg c10] at H
                  exact absurd H (by simp)
          · rw [if_neg c7] at H
            exact absurd H (by simp)
        · rw [if_neg c6] at H
          exact absurd H (by simp)
      · rw [if_neg c4] at H
        have c4b0 : decide (0 < x5_1) = false := decide_eq_false c4
        clear c4
        by_cases c16 : l0.length < 8796093022208
        · rw [if_pos c16] at H
          have LMc16 := Aside0.mk c16
          clear c16
          obtain ⟨y489, hy489⟩ : ∃ y_ : List ByteArray, y_ = (l0 ++ [(⟨#[]⟩ : ByteArray)]) := ⟨_, rfl⟩
          replace H : (if 0 ≤ (wrap64 (x5_1 + 1)) then (if (wrap64 (x5_1 + 1)) ≤ (y489.length : Int) then (if 0 ≤ x5_1 then (if x5_1 ≤ (y489.length : Int) then (some (l0.take (x5_1 : Int).toNat ++ [a1] ++ l0.drop (x5_1 : Int).toNat)) else (none)) else (none)) else (none)) else (none)) = some r := by first | (rw [hy489]; with_reducible exact H) | (have H2_ := (Option.bind_some _ _).symm.trans H; rw [hy489]; with_reducible exact H2_) | (have H2_ := (Option.bind_some _ _).symm.trans H; with_reducible exact H2_) | with_reducible exact H | (rw [hy489]; exact H) | exact H
          have Ny489 := Aside0.mk hy489
          clear hy489
          obtain ⟨ji17, hji17⟩ : ∃ j_ : Int, (wrap64 (x5_1 + 1)) = j_ := ⟨_, rfl⟩
          replace H : (if 0 ≤ (ji17) then (if (ji17) ≤ (y489.length : Int) then (if 0 ≤ x5_1 then (if x5_1 ≤ (y489.length : Int) then (some (l0.take (x5_1 : Int).toNat ++ [a1] ++ l0.drop (x5_1 : Int).toNat)) else (none)) else (none)) else (none)) else (none)) = some r := by first | (rw [hji17] at H; exact H) | (simp only [hji17] at H ⊢; exact H)
          have hji17w : (IntKind.i64.wrap (x5_1 + 1)) = ji17 := (i64_w _).trans hji17
          by_cases c18 : 0 ≤ (ji17)
          · rw [if_pos c18] at H
            have c18b0 := eq_true c18
            have c18b1 : decide (0 ≤ (ji17)) = true := decide_eq_true c18
            clear c18
            by_cases c19 : (ji17) ≤ (y489.length : Int)
            · rw [if_pos c19] at H
              have c19b0 := eq_true c19
              have c19b1 : decide ((ji17) ≤ (y489.length : Int)) = true := decide_eq_true c19
              clear c19
              obtain ⟨y492, hy492⟩ : ∃ y_ : List ByteArray, y_ = (y489.drop ((ji17) : Int).toNat) := ⟨_, rfl⟩
              replace H : (if 0 ≤ x5_1 then (if x5_1 ≤ (y489.length : Int) then (some (l0.take (x5_1 : Int).toNat ++ [a1] ++ l0.drop (x5_1 : Int).toNat)) else (none)) else (none)) = some r := by first | (rw [hy492]; with_reducible exact H) | (have H2_ := (Option.bind_some _ _).symm.trans H; rw [hy492]; with_reducible exact H2_) | (have H2_ := (Option.bind_some _ _).symm.trans H; with_reducible exact H2_) | with_reducible exact H | (rw [hy492]; exact H) | exact H
              have Ny492 := Aside0.mk hy492
              clear hy492
              by_cases c20 : 0 ≤ x5_1
              · rw [if_pos c20] at H
                have c20b0 := eq_true c20
                have c20b1 : decide (0 ≤ x5_1) = true := decide_eq_true c20
                clear c20
                by_cases c21 : x5_1 ≤ (y489.length : Int)
                · rw [if_pos c21] at H
                  have c21b0 := eq_true c21
                  have c21b1 : decide (x5_1 ≤ (y489.length : Int)) = true := decide_eq_true c21
                  clear c21
                  obtain ⟨y496, hy496⟩ : ∃ y_ : List ByteArray, y_ = (y489.drop (x5_1 : Int).toNat) := ⟨_, rfl⟩
                  replace H : (some (l0.take (x5_1 : Int).toNat ++ [a1] ++ l0.drop (x5_1 : Int).toNat)) = some r := by first | (rw [hy496]; with_reducible exact H) | (have H2_ := (Option.bind_some _ _).symm.trans H; rw [hy496]; with_reducible exact H2_) | (have H2_ := (Option.bind_some _ _).symm.trans H; with_reducible exact H2_) | with_reducible exact H | (rw [hy496]; exact H) | exact H
                  have Ny496 := Aside0.mk hy496
                  clear hy496
                  obtain rfl := Option.some.inj H
                  go_wp2_with (first | ((with_reducible refine gate_builtin (b := .append) (xs := #[.tmp 33, .tmp 34]) rfl ?_); at_builtin; refine Kd.R_append Kd.string (w0 := w0) w0.heap.size rfl (.tmp 33) (.tmp 34) 46 9 (.string ⟨#[]⟩) 16 rfl Try.underlying46 info9 rfl (by decide) (by omega) (.slice Ao3 l0.length co3) l0 (⟨#[]⟩ : ByteArray) [.string (⟨#[]⟩ : ByteArray)] (fun k_ => (P0_ k_ ∨ w.heap.size ≤ k_)) (fun _ => False) rfl rfl ?aP (fun _ hk => hk.elim) ?aF ?aO ?aB ?aS ?aL ?_; (case aP => exact rfl); (case aB => exact (by repeat (first | (with_reducible first | exact HB.out | apply below_alloc | apply pw_below_drewN | apply below_drew1) | exact HB.out))); (case aF => exact (fun k hk => .inr (by first | exact Nat.le_trans (Kept.alloc HK.out _).1 hk | exact Nat.le_trans HK.out.1 hk))); (case aO => exact (by (with_reducible repeat (first | apply Kd.R_alloc | apply Kd.R_drewN | apply Kd.R_drew)); exact HO_0.out)); (case aS => exact (below_size (by repeat (first | (with_reducible first | exact HB.out | apply below_alloc | apply pw_below_drewN | apply below_drew1) | exact HB.out)))); (case aL => have := LMc16.out; omega); intro v846 w22 ho hb hg hat))
                  repeat (go_quiet (fail); try go_wp2)
                  have hown := Kd.own_of_R ho
                  rcases hown.2 with ⟨_, hz⟩ | ⟨g, cap, cur, hv, hbg, hh, hnc, hcm, hsz, htk⟩
                  · exact absurd hz (by simp)
                  have hx0 : 0 ≤ x5_1 := of_eq_true c20b0
                  have hyl : y489.length = l0.length + 1 := by rw [Ny489.out]; simp
                  have hx2 : x5_1 ≤ (y489.length : Int) := of_eq_true c21b0
                  rw [hyl] at hx2
                  have hx1 : x5_1 ≤ (l0.length : Int) := Int.le_trans (Int.not_lt.mp (of_decide_eq_false c4b0)) (Int.natCast_nonneg _)
                  obtain ⟨m, rfl⟩ := nat_of hx0
                  have hm : m ≤ l0.length := le_of_i hx1
                  have hji := hx_2 hji17 hx0 hx1 (lt_i LMc16.out)
                  subst hji
                  obtain ⟨i0, hi0, _, hsz0, _⟩ := info_parts info9
                  simp only [List.length_append, List.length_singleton, Nat.mul_one] at hv hnc htk hcm hsz
                  subst hv
                  have hcutA := cut_from (P := Try.prog) 46 9 .i64 Try.underlying46 hi0 1 hsz0 (some ⟨g, 0, none⟩) (l0.length + 1) cap ((m : Int) + 1) (Int.le_add_one hx0) (le_2 hm)
                  have hcutB := cut_from (P := Try.prog) 46 9 .i64 Try.underlying46 hi0 1 hsz0 (some ⟨g, 0, none⟩) (l0.length + 1) cap (m : Int) hx0 (le_1 hm)
                  by_cases hlast : m = l0.length
                  · subst hlast
                    by_cases hcap : cap = l0.length + 1
                    · subst hcap
                      rw [i_1 l0.length, if_pos rfl] at hcutA
                      rw [Int.toNat_natCast l0.length, if_neg (ne_0 hm hnc)] at hcutB
                      simp only [Option.map_some, Addr.add, Nat.zero_add, Nat.mul_one] at hcutA hcutB
                      go_region_law (refine step_copy_none_ rfl (.tmp 39) (.tmp 42) 46 46 rfl 9 Try.underlying46 (by rw [hi0]; simp [hsz0]) (some ⟨g, 0, none⟩) (some ⟨g, l0.length, none⟩) (l0.length + 1 - (l0.length + 1)) ((l0.length + 1) - (l0.length + 1)) (l0.length + 1 - l0.length) ((l0.length + 1) - l0.length) (by simp [Act.eval, Act.put]) (by simp [Act.eval, Act.put]; first | exact fun h => h.symm | (intro h; simp [h])) (none_len rfl) ?_)
                      have hokg : P0_ g ∨ w.heap.size ≤ g := ho.1 g (by simp [Value.ownBlock])
                      have hK3 : Kept w w22.drew (fun k_ => P0_ k_) := Kept.drew (Kept.of_grown hg HK.out (fun k hk => HO_0.out.1 k hk))
                      have hB3 := below_drew1 hb
                      have hin := ins_row cur.toList l0 _ a1 l0.length hm htk
                      rw [row_same cur.toList l0 l0.length rfl] at hin
                      have hrs : cur.toList.length = (l0.length + 1) := by rw [Array.length_toList, hsz]
                      have hrl : l0.length + 1 ≤ cur.toList.length := by rw [hrs]; exact hnc
                      have hh3 : w22.drew.heap[g]? = some (.cells cur.toList.toArray 9 (0, 0)) := by rw [Array.toArray_toList]; exact hh
                      generalize w22.drew = W3 at hh3 hB3 hK3 ⊢
                      generalize cur.toList = row at hh3 hrl hin hrs
                      have hc3 : W3.cell? ⟨g, l0.length, none⟩ = some (row[l0.length]'(lt_4 hm hrl)) := by rw [blk_cell hh3]; simp
                      have hf3 : W3.frozen? ⟨g, l0.length, none⟩ = false := blk_frozen hh3 l0.length
                      have hp3 : 0 ≤ (l0.length : Int) := hx0
                      have hq3 : (l0.length : Int) < ((l0.length + 1 : Nat) : Int) := lt_2 hm
                      have hq4 : (l0.length : Int) < (l0.length : Int) + 1 := lt_3 hm
                      have fin : Kd.R Kd.string 9 (W3.setCell ⟨g, l0.length, none⟩ (.string a1)) w0.heap.size (fun k_ => (P0_ k_ ∨ w.heap.size ≤ k_)) (.slice (some ⟨g, 0, none⟩) (l0.length + 1) (l0.length + 1)) (l0.take l0.length ++ [a1] ++ l0.drop l0.length) := by
                        have hl := ins_len l0 a1 l0.length hm
                        refine Kd.R_of_own ⟨by rw [encs_length, Nat.mul_one], .inr ⟨g, (l0.length + 1), row.toArray.setIfInBounds l0.length (.string a1), ?_, hbg, blk_put hh3 l0.length _ rfl, ?_, hcm, ?_, ?_⟩⟩ ?_
                        · rw [hl]
                        · rw [hl]; exact hnc
                        · rw [Array.size_setIfInBounds, List.size_toArray, hrs, Nat.mul_one]
                        · rw [hl, Nat.mul_one, Array.toList_setIfInBounds]; simpa [List.append_assoc] using hin
                        · intro k hk; simp only [Value.ownBlock, Option.some.injEq] at hk; subst hk; exact hokg
                      have fb : Below w0.heap.size w0 (W3.setCell ⟨g, l0.length, none⟩ (.string a1)) := Below.setCell hB3 hbg _
                      have fk : Kept w (W3.setCell ⟨g, l0.length, none⟩ (.string a1)) (fun k_ => P0_ k_) := Kept.setCell hK3 hokg _
                      have el : List.take l0.length l0 ++ [a1] ++ List.drop l0.length l0 = l0 ++ [a1] := by simp
                      rw [el] at fin
                      go_wp2
                      all_goals go_ret
                      · have e0 : (⟨g, l0.length, none⟩ : Addr) = ⟨g, 0, none⟩ := by simp [h]
                        have el2 : l0 = [] := by first | exact h | exact List.length_eq_zero_iff.mp h
                        subst el2
                        exact ⟨_, rfl, fin, fb, fk⟩
                      · exact ⟨.slice (some ⟨g, 0, none⟩) (l0.length + 1) (l0.length + 1), rfl, (by first | exact fin | simpa using fin), fb, fk⟩
                    · rw [i_1 l0.length, if_neg hcap] at hcutA
                      rw [Int.toNat_natCast l0.length, if_neg (ne_0 hm hnc)] at hcutB
                      simp only [Option.map_some, Addr.add, Nat.zero_add, Nat.mul_one] at hcutA hcutB
                      go_region_law (refine step_copy_none_ rfl (.tmp 39) (.tmp 42) 46 46 rfl 9 Try.underlying46 (by rw [hi0]; simp [hsz0]) (some ⟨g, l0.length + 1, none⟩) (some ⟨g, l0.length, none⟩) (l0.length + 1 - (l0.length + 1)) (cap - (l0.length + 1)) (l0.length + 1 - l0.length) (cap - l0.length) (by simp [Act.eval, Act.put]) (by simp [Act.eval, Act.put]; first | exact fun h => h.symm | (intro h; simp [h])) (none_len rfl) ?_)
                      have hokg : P0_ g ∨ w.heap.size ≤ g := ho.1 g (by simp [Value.ownBlock])
                      have hK3 : Kept w w22.drew (fun k_ => P0_ k_) := Kept.drew (Kept.of_grown hg HK.out (fun k hk => HO_0.out.1 k hk))
                      have hB3 := below_drew1 hb
                      have hin := ins_row cur.toList l0 _ a1 l0.length hm htk
                      rw [row_same cur.toList l0 l0.length rfl] at hin
                      have hrs : cur.toList.length = cap := by rw [Array.length_toList, hsz]
                      have hrl : l0.length + 1 ≤ cur.toList.length := by rw [hrs]; exact hnc
                      have hh3 : w22.drew.heap[g]? = some (.cells cur.toList.toArray 9 (0, 0)) := by rw [Array.toArray_toList]; exact hh
                      generalize w22.drew = W3 at hh3 hB3 hK3 ⊢
                      generalize cur.toList = row at hh3 hrl hin hrs
                      have hc3 : W3.cell? ⟨g, l0.length, none⟩ = some (row[l0.length]'(lt_4 hm hrl)) := by rw [blk_cell hh3]; simp
                      have hf3 : W3.frozen? ⟨g, l0.length, none⟩ = false := blk_frozen hh3 l0.length
                      have hp3 : 0 ≤ (l0.length : Int) := hx0
                      have hq3 : (l0.length : Int) < ((l0.length + 1 : Nat) : Int) := lt_2 hm
                      have hq4 : (l0.length : Int) < (l0.length : Int) + 1 := lt_3 hm
                      have fin : Kd.R Kd.string 9 (W3.setCell ⟨g, l0.length, none⟩ (.string a1)) w0.heap.size (fun k_ => (P0_ k_ ∨ w.heap.size ≤ k_)) (.slice (some ⟨g, 0, none⟩) (l0.length + 1) cap) (l0.take l0.length ++ [a1] ++ l0.drop l0.length) := by
                        have hl := ins_len l0 a1 l0.length hm
                        refine Kd.R_of_own ⟨by rw [encs_length, Nat.mul_one], .inr ⟨g, cap, row.toArray.setIfInBounds l0.length (.string a1), ?_, hbg, blk_put hh3 l0.length _ rfl, ?_, hcm, ?_, ?_⟩⟩ ?_
                        · rw [hl]
                        · rw [hl]; exact hnc
                        · rw [Array.size_setIfInBounds, List.size_toArray, hrs, Nat.mul_one]
                        · rw [hl, Nat.mul_one, Array.toList_setIfInBounds]; simpa [List.append_assoc] using hin
                        · intro k hk; simp only [Value.ownBlock, Option.some.injEq] at hk; subst hk; exact hokg
                      have fb : Below w0.heap.size w0 (W3.setCell ⟨g, l0.length, none⟩ (.string a1)) := Below.setCell hB3 hbg _
                      have fk : Kept w (W3.setCell ⟨g, l0.length, none⟩ (.string a1)) (fun k_ => P0_ k_) := Kept.setCell hK3 hokg _
                      have el : List.take l0.length l0 ++ [a1] ++ List.drop l0.length l0 = l0 ++ [a1] := by simp
                      rw [el] at fin
                      go_wp2
                      all_goals go_ret
                      · have e0 : (⟨g, l0.length, none⟩ : Addr) = ⟨g, 0, none⟩ := by simp [h]
                        have el2 : l0 = [] := by first | exact h | exact List.length_eq_zero_iff.mp h
                        subst el2
                        exact ⟨_, rfl, fin, fb, fk⟩
                      · exact ⟨.slice (some ⟨g, 0, none⟩) (l0.length + 1) cap, rfl, (by first | exact fin | simpa using fin), fb, fk⟩
                  · rw [i_1 m, if_neg (ne_1 hm hlast hnc)] at hcutA
                    rw [Int.toNat_natCast m, if_neg (ne_0 hm hnc)] at hcutB
                    simp only [Option.map_some, Addr.add, Nat.zero_add, Nat.mul_one] at hcutA hcutB
                    have hsrc : ∀ j v, (encs Value.string (l0.drop m))[j]? = some v → w22.drew.cell? ((⟨g, m, none⟩ : Addr).add j) = some v := by
                      intro j v hv
                      rw [add_pl]
                      exact (blk_cell (w := w22.drew) hh (m + j)).trans (src_row cur l0 _ m htk j v hv)
                    go_region_law (refine step_copy_row_ rfl (.tmp 39) (.tmp 42) 46 46 rfl 9 Try.underlying46 (by rw [hi0]; simp [hsz0]) g (m + 1) (l0.length + 1 - (m + 1)) (cap - (m + 1)) ⟨g, m, none⟩ (l0.length + 1 - m) (cap - m) (by simp [Act.eval, Act.put]) (by simp [Act.eval, Act.put]; exact fun h => h.symm) cur 9 hh (encs Value.string (l0.drop m)) (cs_len l0 m hm) hsrc (cs_fit l0 m cap _ hm hnc hsz) (cs_one _) ?_)
                    have hh3 := setRow_heap w22.drew g cur (List.take (m + 1) cur.toList ++ (encs Value.string (List.drop m l0) ++ List.drop (m + 1 + (encs Value.string (List.drop m l0)).length) cur.toList)).toArray 9 (0, 0) hh
                    have hokg : P0_ g ∨ w.heap.size ≤ g := ho.1 g (by simp [Value.ownBlock])
                    have hK2 : Kept w w22 (fun k_ => P0_ k_) := Kept.of_grown hg HK.out (fun k hk => HO_0.out.1 k hk)
                    have hB3 := below_setRow (below_drew1 hb) hbg (List.take (m + 1) cur.toList ++ (encs Value.string (List.drop m l0) ++ List.drop (m + 1 + (encs Value.string (List.drop m l0)).length) cur.toList)).toArray
                    have hK3 : Kept w (w22.drew.setRow g (List.take (m + 1) cur.toList ++ (encs Value.string (List.drop m l0) ++ List.drop (m + 1 + (encs Value.string (List.drop m l0)).length) cur.toList)).toArray) (fun k_ => P0_ k_) := Kept.then_ (S2 := fun k => k = g) hK2 ⟨(below_setRow (Below.refl 0 w22.drew) (Nat.zero_le g) _).size, fun i _ hn => setRow_other w22.drew g i _ hn⟩ (fun k hk => hk ▸ hokg)
                    generalize w22.drew.setRow g _ = W3 at hh3 hB3 hK3 ⊢
                    have hrl := row_len cur.toList l0 m cap hm hnc (by rw [Array.length_toList, hsz])
                    have hin := ins_row cur.toList l0 _ a1 m hm htk
                    rw [len_1 l0 m hm] at hh3 hrl
                    rw [List.append_assoc] at hin
                    have hcl : cur.toList.length = cap := by rw [Array.length_toList, hsz]
                    have hrs := len_2 cur.toList l0 m cap hm hnc hcl
                    obtain ⟨row, hrow⟩ : ∃ row, List.take (m + 1) cur.toList ++ (encs Value.string (List.drop m l0) ++ List.drop (l0.length + 1) cur.toList) = row := ⟨_, rfl⟩
                    rw [hrow] at hh3 hrl hin hrs
                    have hc3 : W3.cell? ⟨g, m, none⟩ = some (row[m]'(lt_4 hm hrl)) := by rw [blk_cell hh3]; simp
                    have hf3 : W3.frozen? ⟨g, m, none⟩ = false := blk_frozen hh3 m
                    have hp3 : 0 ≤ (m : Int) := hx0
                    have hq3 : (m : Int) < ((l0.length + 1 : Nat) : Int) := lt_2 hm
                    have hq4 : (m : Int) < (l0.length : Int) + 1 := lt_3 hm
                    have fin : Kd.R Kd.string 9 (W3.setCell ⟨g, m, none⟩ (.string a1)) w0.heap.size (fun k_ => (P0_ k_ ∨ w.heap.size ≤ k_)) (.slice (some ⟨g, 0, none⟩) (l0.length + 1) cap) (l0.take m ++ [a1] ++ l0.drop m) := by
                      have hl := ins_len l0 a1 m hm
                      refine Kd.R_of_own ⟨by rw [encs_length, Nat.mul_one], .inr ⟨g, cap, row.toArray.setIfInBounds m (.string a1), ?_, hbg, blk_put hh3 m _ rfl, ?_, hcm, ?_, ?_⟩⟩ ?_
                      · rw [hl]
                      · rw [hl]; exact hnc
                      · rw [Array.size_setIfInBounds, List.size_toArray, hrs, Nat.mul_one]
                      · rw [hl, Nat.mul_one, Array.toList_setIfInBounds]; simpa [List.append_assoc] using hin
                      · intro k hk; simp only [Value.ownBlock, Option.some.injEq] at hk; subst hk; exact hokg
                    have fb : Below w0.heap.size w0 (W3.setCell ⟨g, m, none⟩ (.string a1)) := Below.setCell hB3 hbg _
                    have fk : Kept w (W3.setCell ⟨g, m, none⟩ (.string a1)) (fun k_ => P0_ k_) := Kept.setCell hK3 hokg _
                    go_wp2
                    all_goals go_ret
                    · subst h; exact ⟨.slice (some ⟨g, 0, none⟩) (l0.length + 1) cap, rfl, fin, fb, fk⟩
                    · exact ⟨.slice (some ⟨g, 0, none⟩) (l0.length + 1) cap, rfl, (by first | exact fin | (rw [show l0.take m ++ a1 :: l0.drop m = l0.take m ++ [a1] ++ l0.drop m from by simp]; exact fin)), fb, fk⟩
                · rw [if_neg c21] at H
                  exact absurd H (by simp)
              · rw [if_neg c20] at H
                exact absurd H (by simp)
            · rw [if_neg c19] at H
              exact absurd H (by simp)
          · rw [if_neg c18] at H
            exact absurd H (by simp)
        · rw [if_neg c16] at H
          exact absurd H (by simp)


end Go.Proofs.Ytllhghcepbkpeaa.Pall
