/- Go functions of the program, each as a Lean function, and the proof that each call comes to what the Lean function tells; no condition beyond those that stand there. -/
import Derived.Test.YtapcjchgcppanaaF00
import Derived.Test.YtapcjchgcppanaaF01
import Derived.Test.YtapcjchgcppanaaF11
import Derived.Test.YtapcjchgcppanaaSq
import Derived.Test.YtapcjchgcppanaaWLast
import Derived.Test.YtapcjchgcppanaaWTab
import Derived.Test.YtapcjchgcppanaaSpare
import Derived.Test.YtapcjchgcppanaaCm
import Derived.Test.YtapcjchgcppanaaCm3
namespace Go.Proofs.Ytapcjchgcppanaa.Pall
open Go.RowKit Go.Proofs.YtapcjchgcppanaaW.PrintWords Go.Proofs.YtapcjchgcppanaaW.PrintLast
set_option linter.unusedVariables false
set_option linter.unusedSimpArgs false

/-! ### spec_l01Words: function 63 -/
def spec_l01Words.l0 : Nat → List ByteArray → ByteArray → ByteArray → Int → Option (ByteArray)
 | 0, _, _, _, _ => none
 | k + 1, x0, x1, x5, x6 => if x6 < (x0.length : Int) then (if x6 > 0 then (if x5.size + x1.size ≤ 9223372036854775807 then (if 0 ≤ x6 then (if (x5 ++ x1).size + (rdOf ByteArray.empty x0 x6).size ≤ 9223372036854775807 then (spec_l01Words.l0 k x0 x1 ((x5 ++ x1) ++ (rdOf ByteArray.empty x0 x6)) (wrap64 (x6 + 1))) else (none)) else (none)) else (none)) else (if 0 ≤ x6 then (if x5.size + (rdOf ByteArray.empty x0 x6).size ≤ 9223372036854775807 then (spec_l01Words.l0 k x0 x1 (x5 ++ (rdOf ByteArray.empty x0 x6)) (wrap64 (x6 + 1))) else (none)) else (none))) else (some x5)
def spec_l01Words.f (k : Nat) (l0 : List ByteArray) (a1 : ByteArray) : Option (ByteArray) := spec_l01Words.l0 k l0 a1 (⟨#[]⟩ : ByteArray) 0
theorem spec_l01Words.mono_l : ∀ k, (∀ y0 y1 y2 y3, LeO (spec_l01Words.l0 k y0 y1 y2 y3) (spec_l01Words.l0 (k + 1) y0 y1 y2 y3))
 | 0 => fun _ _ _ _ r h => by simp [spec_l01Words.l0] at h
 | k + 1 => by
  have ih0 := spec_l01Words.mono_l k
  ·intro y0 y1 y2 y3; unfold spec_l01Words.l0
   repeat' first | (with_reducible first | exact ih0 _ _ _ _ | exact LeO.refl _ | exact LeO.none _ | refine LeO.ite ?_ ?_ | refine LeO.bind ?_ (fun _ => ?_)) | exact ih0 _ _ _ _ | exact LeO.none _ | refine LeO.ite ?_ ?_ | refine LeO.bind ?_ (fun _ => ?_)
theorem spec_l01Words.mono : ∀ a0 a1 k, LeO (spec_l01Words.f k a0 a1) (spec_l01Words.f (k + 1) a0 a1) := by
 intro a0 a1 k; have ih0 := spec_l01Words.mono_l k; unfold spec_l01Words.f
 repeat' first | (with_reducible first | exact ih0 _ _ _ _ | exact LeO.refl _ | exact LeO.none _ | refine LeO.ite ?_ ?_ | refine LeO.bind ?_ (fun _ => ?_)) | exact ih0 _ _ _ _ | exact LeO.none _ | refine LeO.ite ?_ ?_ | refine LeO.bind ?_ (fun _ => ?_)
set_option maxHeartbeats 8000000 in
set_option maxRecDepth 100000 in
theorem spec_l01Words.calls (k : Nat) (A0 : Option Addr) (c0 : Nat) (l0 : List ByteArray) (a1 : ByteArray) (r : ByteArray) (w : World) (hr0 : Kd.C Kd.string w A0 l0.length l0) (hc0 : l0.length ≤ c0) (h : spec_l01Words.f k l0 a1 = some r) :
  Calls Try.prog 63 #[.slice A0 l0.length c0, .string a1] w fun e w' => e = .returned (.string r) ∧ Drawn0 w w' := by
 have HR0 := ak hr0; have HC0 := ak hc0; clear hr0 hc0; unfold spec_l01Words.f at h; have H := h; clear h; have H' := ak H; clear H; go_enter Try.func63, Try.ntmps63; go_wp2
 go_loopg [5, 6] k (fun kq v5 v6 w' => ∃ (x5_1 : ByteArray) (x6_1 : Int), v5 = .string x5_1 ∧ v6 = .int .i64 x6_1 ∧ Aside0 (spec_l01Words.l0 kq l0 a1 x5_1 x6_1 = some r) ∧ Aside0 (kq ≤ k) ∧ Drawn0 w w')
 case atStart => exact ⟨((⟨#[]⟩ : ByteArray)), (0), (by first | rfl | (simp; done) | (simp [*]; done)), (by first | rfl | (simp; done) | (simp [*]; done)), H', ⟨Nat.le_refl _⟩, by repeat (first | exact Drawn0.refl _ | apply Drawn0.step)⟩
 case round =>
  clear H'; (try clear p2); obtain ⟨x5_1, x6_1, rfl, rfl, HA, HK1, ⟨m1, rfl⟩⟩ := hrel
  cases gk with
  | zero => exact absurd HA.out (by simp [spec_l01Words.l0])
  | succ k1 =>
   have H := HA.out; clear HA; simp only [spec_l01Words.l0] at H
   by_cases c3 : x6_1 < (l0.length : Int)
   ·rw [if_pos c3] at H; have c3b0 := decide_eq_true c3; clear c3; by_cases c4 : x6_1 > 0
    ·rw [if_pos c4] at H; have c4b0 := decide_eq_true c4; clear c4; by_cases c5 : x5_1.size + a1.size ≤ 9223372036854775807
     ·rw [if_pos c5] at H; have c5b0 := eq_true c5; have c5b1 : decide (x5_1.size + a1.size ≤ 9223372036854775807) = true := decide_eq_true c5; (try have c5b2 : (9223372036854775807 < x5_1.size + a1.size) = False := eq_false (Nat.not_lt.2 c5))
      by_cases c6 : 0 ≤ x6_1
      ·rw [if_pos c6] at H; have c6b0 := decide_eq_true c6; clear c6; by_cases c7 : (x5_1 ++ a1).size + (rdOf ByteArray.empty l0 x6_1).size ≤ 9223372036854775807
       ·rw [if_pos c7] at H; have c7b0 := eq_true c7; have c7b1 : decide ((x5_1 ++ a1).size + (rdOf ByteArray.empty l0 x6_1).size ≤ 9223372036854775807) = true := decide_eq_true c7; (try have c7b2 : (9223372036854775807 < (x5_1 ++ a1).size + (rdOf ByteArray.empty l0 x6_1).size) = False := eq_false (Nat.not_lt.2 c7))
        have H' := ak H; clear H; have p236 : 0 ≤ (x6_1 : Int) := od; have q236 : x6_1 < (l0.length : Int) := od; obtain ⟨ad236, e236, hx236_0⟩ := Kd.at_string HR0.out x6_1 p236 q236
        cases e236; replace p236 := eq_true p236; replace q236 := eq_true q236; go_wp2
        go_roundg k1
        case measure => have := HK1.out; omega
        case rel => exact ⟨((x5_1 ++ a1) ++ (rdOf ByteArray.empty l0 x6_1)), (wrap64 (x6_1 + 1)), (by first | rfl | (simp; done) | (simp [*]; done)), (by first | rfl | (simp; done) | (simp [*]; done)), H', ⟨by have := HK1.out; omega⟩, by repeat (first | exact Drawn0.refl _ | apply Drawn0.step)⟩
       ·rw [if_neg c7] at H; exact absurd H (by simp)
      ·rw [if_neg c6] at H; exact absurd H (by simp)
     ·rw [if_neg c5] at H; exact absurd H (by simp)
    ·rw [if_neg c4] at H; have c4b0 := decide_eq_false c4; clear c4; by_cases c8 : 0 ≤ x6_1
     ·rw [if_pos c8] at H; have c8b0 := decide_eq_true c8; clear c8; by_cases c9 : x5_1.size + (rdOf ByteArray.empty l0 x6_1).size ≤ 9223372036854775807
      ·rw [if_pos c9] at H; have c9b0 := eq_true c9; have c9b1 : decide (x5_1.size + (rdOf ByteArray.empty l0 x6_1).size ≤ 9223372036854775807) = true := decide_eq_true c9; (try have c9b2 : (9223372036854775807 < x5_1.size + (rdOf ByteArray.empty l0 x6_1).size) = False := eq_false (Nat.not_lt.2 c9))
       have H' := ak H; clear H; have p237 : 0 ≤ (x6_1 : Int) := od; have q237 : x6_1 < (l0.length : Int) := od; obtain ⟨ad237, e237, hx237_0⟩ := Kd.at_string HR0.out x6_1 p237 q237
       cases e237; replace p237 := eq_true p237; replace q237 := eq_true q237; go_wp2
       go_roundg k1
       case measure => have := HK1.out; omega
       case rel => exact ⟨(x5_1 ++ (rdOf ByteArray.empty l0 x6_1)), (wrap64 (x6_1 + 1)), (by first | rfl | (simp; done) | (simp [*]; done)), (by first | rfl | (simp; done) | (simp [*]; done)), H', ⟨by have := HK1.out; omega⟩, by repeat (first | exact Drawn0.refl _ | apply Drawn0.step)⟩
      ·rw [if_neg c9] at H; exact absurd H (by simp)
     ·rw [if_neg c8] at H; exact absurd H (by simp)
   ·rw [if_neg c3] at H; have c3b0 := decide_eq_false c3; clear c3; obtain rfl := Option.some.inj H; go_wp2
    go_ret
    exact ⟨by first | rfl | (simp; done) | (simp [*]; done), by repeat (first | exact Drawn0.refl _ | apply Drawn0.step)⟩


/-! ### spec_l21Text: function 51 -/
def spec_l21Text.l0 : Nat → List Int → List ByteArray → Int → Option (ByteArray)
 | 0, _, _, _ => none
 | k + 1, x0, x3, x4 => if x4 < (x0.length : Int) then ((spec_l21Words.f).bind fun t241 => (if 0 ≤ x4 then (if 0 ≤ (rd x0 x4) then (if (rd x0 x4) < (t241.length : Int) then (if x3.length < 8796093022208 then (spec_l21Text.l0 k x0 (x3 ++ [rdOf ByteArray.empty t241 (rd x0 x4)]) (wrap64 (x4 + 1))) else (none)) else (none)) else (none)) else (none))) else (if (x3.length : Int) = 0 then (some (⟨#[45]⟩ : ByteArray)) else ((spec_l01Words.f k x3 (⟨#[32]⟩ : ByteArray)).bind fun t249 => (some t249)))
def spec_l21Text.f (k : Nat) (l0 : List Int) : Option (ByteArray) := spec_l21Text.l0 k l0 (([] : List ByteArray)) 0
theorem spec_l21Text.mono_l : ∀ k, (∀ y0 y1 y2, LeO (spec_l21Text.l0 k y0 y1 y2) (spec_l21Text.l0 (k + 1) y0 y1 y2))
 | 0 => fun _ _ _ r h => by simp [spec_l21Text.l0] at h
 | k + 1 => by
  have ih0 := spec_l21Text.mono_l k
  ·intro y0 y1 y2; unfold spec_l21Text.l0
   repeat' first | (with_reducible first | exact ih0 _ _ _ | exact spec_l01Words.mono _ _ _ | exact LeO.refl _ | exact LeO.none _ | refine LeO.ite ?_ ?_ | refine LeO.bind ?_ (fun _ => ?_)) | exact ih0 _ _ _ | exact spec_l01Words.mono _ _ _ | exact LeO.none _ | refine LeO.ite ?_ ?_ | refine LeO.bind ?_ (fun _ => ?_)
theorem spec_l21Text.mono : ∀ a0 k, LeO (spec_l21Text.f k a0) (spec_l21Text.f (k + 1) a0) := by
 intro a0 k; have ih0 := spec_l21Text.mono_l k; unfold spec_l21Text.f
 repeat' first | (with_reducible first | exact ih0 _ _ _ | exact spec_l01Words.mono _ _ _ | exact LeO.refl _ | exact LeO.none _ | refine LeO.ite ?_ ?_ | refine LeO.bind ?_ (fun _ => ?_)) | exact ih0 _ _ _ | exact spec_l01Words.mono _ _ _ | exact LeO.none _ | refine LeO.ite ?_ ?_ | refine LeO.bind ?_ (fun _ => ?_)
def spec_l21Text.T5 : Bool × List (List Nat × List Nat) := (true, [([], []), ([], []), ([], []), ([], []), ([2, 3], [2, 3]), ([4], [4]), ([1, 5], [1, 5]), ([6], [6]), ([7], [7]), ([0, 8, 1], [0, 8]), ([9, 9, 0, 1, 2, 3, 4, 5, 6, 7, 8, 9], [0, 9])])
def spec_l21Text.B5 : List Nat := [0, 0, 0, 0, 12, 28, 62, 126, 254, 511, 1023]
theorem spec_l21Text.tab5 : rtab .any (opsOf Try.f51 5) = spec_l21Text.T5 := by kernel_rfl
theorem spec_l21Text.bits5 : waitsOk spec_l21Text.T5.2 spec_l21Text.B5 = true := by kernel_rfl
set_option maxHeartbeats 8000000 in
set_option maxRecDepth 100000 in
theorem spec_l21Text.calls (k : Nat) (A0 : Option Addr) (c0 : Nat) (l0 : List Int) (r : ByteArray) (w : World) (hr0 : Kd.C (Kd.int .i64) w A0 l0.length l0) (hc0 : l0.length ≤ c0) (h : spec_l21Text.f k l0 = some r) :
  Calls Try.prog 51 #[.slice A0 l0.length c0] w fun e w' => e = .returned (.string r) ∧ Below w.heap.size w w' := by
 have HR0 := ak hr0; have HC0 := ak hc0; clear hr0 hc0; have HB := ak (Below.refl w.heap.size w); unfold spec_l21Text.f at h; have H := h; clear h; obtain ⟨y238, hy238⟩ := gen_ (([] : List ByteArray)); rw [← hy238] at H; have Ny238 := ak hy238; clear hy238; have H' := ak H; clear H; go_enter Try.func51, Try.ntmps51; go_wp2_with (first | ((with_reducible refine gate_dst (N := 5) rfl ?_); refine Kd.R_lit Kd.string _ 9 ?hg (N := 5) ?hd (xs := ([] : List ByteArray)) (inner := []) (ok := fun _ => True) (okp := fun _ => True) ?hr ?hp (fun _ hk => hk) trivial (Below.refl _ _) (Nat.le_refl _) (by simp) ?_; (case hd => rfl); (case hg => rfl); (case hr => first | (go_simp; done) | (go_simp; rfl)); (case hp => exact (Reps.none _ _)); intro v239 w2 ho3 hb hg_ hnew_; clear hg_ hnew_; (first | rw [← Ny238.out] at ho3 | (simp only [Int.reduceToNat] at ho3; rw [← Ny238.out] at ho3)); have HO240 := ak (Kd.R_lower ho3 (below_size (vb HB.out))); replace HB := bs HB hb; clear hb ho3))
 go_loopg [3, 4] k (fun kq v3 v4 w' => ∃ (x3_1 : List ByteArray) (x4_1 : Int), v4 = .int .i64 x4_1 ∧ Aside0 (spec_l21Text.l0 kq l0 x3_1 x4_1 = some r) ∧ Aside0 (kq ≤ k) ∧ Aside0 (Kd.R Kd.string 9 w' w.heap.size (fun _ => True) v3 x3_1) ∧ Aside0 (Below w.heap.size w w'))
 case atStart => exact ⟨(y238), (0), (by first | rfl | (simp; done) | (simp [*]; done)), H', ⟨Nat.le_refl _⟩, ⟨by (with_reducible repeat (first | apply Kd.R_alloc | apply Kd.R_drewN | apply Kd.R_drew)); exact HO240.out⟩, ⟨vb HB.out⟩⟩
 case round =>
  clear H'; (try clear p2); obtain ⟨x3_1, x4_1, rfl, HA, HK1, HO_3, HB⟩ := hrel
  cases gk with
  | zero => exact absurd HA.out (by simp [spec_l21Text.l0])
  | succ k1 =>
   have H := HA.out; clear HA; simp only [spec_l21Text.l0] at H
   by_cases c4 : x4_1 < (l0.length : Int)
   ·rw [if_pos c4] at H; have c4b0 := decide_eq_true c4; clear c4; obtain ⟨t241, A5, H⟩ := bnk H; by_cases c6 : 0 ≤ x4_1
    ·rw [if_pos c6] at H; have c6b0 := decide_eq_true c6; clear c6; by_cases c7 : 0 ≤ (rd l0 x4_1)
     ·rw [if_pos c7] at H; have c7b0 := decide_eq_true c7; clear c7; by_cases c8 : (rd l0 x4_1) < (t241.length : Int)
      ·rw [if_pos c8] at H; have c8b0 := decide_eq_true c8; clear c8; by_cases c9 : x3_1.length < 8796093022208
       ·rw [if_pos c9] at H; have LMc9 := ak c9; clear c9; obtain ⟨y246, hy246⟩ := gen_ ((x3_1 ++ [rdOf ByteArray.empty t241 (rd l0 x4_1)] : List ByteArray)); rw [← hy246] at H; have Ny246 := ak hy246; clear hy246; have H' := ak H; clear H; (try go_wp2)
        replace HO_3 := ak (Kd.R_drew HO_3.out); replace HB := ak (below_drew1 HB.out); have p244 : 0 ≤ (x4_1 : Int) := od; have q244 : x4_1 < (l0.length : Int) := od; obtain ⟨ad244, e244, hx244_0⟩ := Kd.at_int HR0.out x4_1 p244 q244; have hw244_0 := hx244_0
        cases e244; replace hx244_0 := cb HB.out hx244_0; replace p244 := eq_true p244; replace q244 := eq_true q244; refine start_ (n := 11) (S := fun w' => w'.cell? (ad244.add (x4_1).toNat) = some (.int .i64 (rd l0 x4_1))) (ds := [8, 9]) (tf 0 11) (by kernel_rfl) rfl rfl ((HB.out.cell (World.block_lt_of_cell? w _ hw244_0)).trans hw244_0) (fun hHeld => ?_); refine with_tabW spec_l21Text.tab5 spec_l21Text.bits5 (fun HT_ HW_ => ?_); generalize wr.drew = w10 at HO_3 HB hx244_0 hHeld ⊢; refine pu_ 0 12 (tf 1 10) rfl rfl ?_; refine pu_ 2 14 #[true, false, true, false, false, false, false, false, false, false, false] rfl rfl ?_; refine pu_ 3 15 #[true, false, true, true, false, false, false, false, false, false, false] rfl rfl ?_; refine pu_ 4 16 #[true, false, true, true, true, false, false, false, false, false, false] rfl rfl ?_; refine ta1_ 5 17 #[true, false, true, true, true, true, false, false, false, false, false] rfl rfl ?_; refine one_ (i := 1) (N := some 13) (tf 6 5) rfl rfl (one_of HT_.out (by kernel_rfl)) (by decide) (fun K hK => ?_); refine goes_ Try.func48 (by kernel_rfl) rfl #[] (by rfl) rfl rfl (by (try simp only [List.map_toArray, List.map_cons, List.map_nil]); first | done | rfl | (simp only [List.length_drop, List.length_take]; rfl)) ?_; with_reducible refine (spec_l21Words.calls  t241 _ A5.out).mono ?_
        rintro e w11 ⟨v242, rfl, ho0, hb⟩; refine ⟨_, rfl, ?_⟩; have HO243 := ak (Kd.R_lower (Kd.R_new' ho0 (Kd.R_lt (vr HO_3.out))) (below_size (vb HB.out))); replace HO_3 := ak (Kd.R_elder' (vr HO_3.out) (Kd.R_base ho0) hb); replace HB := bs HB hb; (try clear hb)
        (try clear hb2)
        (try clear hk)
        (try clear hi)
        (try clear ho0)
        obtain ⟨Ao12, co12, eo12⟩ := Kd.R_slice HO243.out; (first | subst eo12 | (injection eo12 with f1_ f2_ f3_; have f4_ := f1_.symm; have f5_ := f3_.symm; clear f1_ f2_ f3_; subst f4_; subst f5_))
        have p245 : 0 ≤ ((rd l0 x4_1) : Int) := od; have q245 : (rd l0 x4_1) < (t241.length : Int) := od; obtain ⟨ad245, e245, hx245_0⟩ := Kd.at_string (Kd.R_reads' HO243.out).2.2 (rd l0 x4_1) p245 q245
        cases e245; replace p245 := eq_true p245; replace q245 := eq_true q245; refine hK.out _ _ ((HB.out.cell (World.block_lt_of_cell? w _ hw244_0)).trans hw244_0) (fun hHeld => ?_); clear hK K; refine norm_ (a' := ?_) ?_ ?_
        rotate_left
        ·show Act.put _ (some 13) _ = _
         simp only [Act.put, List.setIfInBounds_toArray, List.set_cons_zero, List.set_cons_succ, i64_w, i32_w]
         rfl
        refine pu_ 6 18 (tf 7 4) rfl rfl ?_; refine one_ (i := 7) (N := some 19) (tf 8 3) rfl rfl (one_of HT_.out (by kernel_rfl)) (by decide) (fun K hK => ?_); refine value_ (w1 := ?_) (v := ?_) (by rfl) rfl ?_ ?_
        rotate_left 2
        ·go_simp
         constructor
         ·rfl
         ·rfl
        refine hK.out _ _ hHeld (fun hHeld => ?_); clear hK K; refine norm_ (a' := ?_) ?_ ?_
        rotate_left
        ·show Act.put _ (some 19) _ = _
         simp only [Act.put, List.setIfInBounds_toArray, List.set_cons_zero, List.set_cons_succ, i64_w, i32_w]
         rfl
        refine last_ (i := 8) (N := some 20) (tf 9 2) rfl rfl (one_of HT_.out (by kernel_rfl)) (by decide) (fun K hK => ?_); refine value_ (w1 := ?_) (v := ?_) (by rfl) rfl ?_ ?_
        rotate_left 2
        ·go_simp
         constructor
         ·rfl
         ·rfl
        refine hK.out _ _ ?_; clear hK K; refine norm_ (a' := ?_) ?_ ?_
        rotate_left
        ·show Act.put _ (some 20) _ = _
         simp only [Act.put, List.setIfInBounds_toArray, List.set_cons_zero, List.set_cons_succ, i64_w, i32_w]
         rfl
        refine last_ (i := 9) (N := some 21) (tf 10 1) rfl rfl (one_of HT_.out (by kernel_rfl)) (by decide) (fun K hK => ?_); refine Kd.R_append_step Kd.string (w0 := w) w.heap.size (by rfl) (.tmp 12) (.tmp 20) 59 9 (.string ⟨#[]⟩) 16 rfl Try.underlying59 info9 rfl (by decide) (by omega) u3 x3_1 (rdOf ByteArray.empty t241 (rd l0 x4_1)) [.string (rdOf ByteArray.empty t241 (rd l0 x4_1))] (fun k_ => some k_ ≠ (.slice (some ad245) t241.length co12 : Value).ownBlock) (fun _ => False) rfl rfl ?aP (fun _ hk => hk.elim) ?aF ?aO ?aB ?aS ?aL ?_; (case aP => exact rfl)
        (case aB => exact (vb HB.out))
        (case aF => exact (fun k_ hk => Kd.fresh' (Kd.R_lt (vr HO243.out)) k_ hk))
        (case aO => exact (by (with_reducible repeat (first | apply Kd.R_alloc | apply Kd.R_drewN | apply Kd.R_drew)); exact Kd.R_mono HO_3.out (fun _ hk => hk.2)))
        (case aS => exact (below_size (vb HB.out)))
        (case aL => have := LMc9.out; omega)
        intro v247 w13 ho hb hg hat; rw [← Ny246.out] at ho; have n0_ := ak (Kd.R_after (ok := (fun _ => True)) (vr HO243.out) hg hat); have n1_ := ak (hb); have n2_ := ak (ho); clear HO243; clear HB; clear HO_3; have HO243 := n0_; have HB := n1_; have HO248 := n2_; clear n0_ n1_ n2_; clear ho hb hg hat; refine hK.out _ _ ?_; clear hK K; refine norm_ (a' := ?_) ?_ ?_
        rotate_left
        ·show Act.put _ (some 21) _ = _
         simp only [Act.put, List.setIfInBounds_toArray, List.set_cons_zero, List.set_cons_succ, i64_w, i32_w]
         rfl
        refine pu_ 10 3 (tf 11 0) rfl rfl ?_; refine done_ (done_of HT_.out (by kernel_rfl)) ?_; (try go_wp2)
        go_roundg k1
        case measure => have := HK1.out; omega
        case rel => exact ⟨(y246), (wrap64 (x4_1 + 1)), (by first | rfl | (simp; done) | (simp [*]; done)), H', ⟨by have := HK1.out; omega⟩, ⟨by (with_reducible repeat (first | apply Kd.R_alloc | apply Kd.R_drewN | apply Kd.R_drew)); exact Kd.R_mono HO248.out (fun _ hk => trivial)⟩, ⟨vb HB.out⟩⟩
       ·rw [if_neg c9] at H; exact absurd H (by simp)
      ·rw [if_neg c8] at H; exact absurd H (by simp)
     ·rw [if_neg c7] at H; exact absurd H (by simp)
    ·rw [if_neg c6] at H; exact absurd H (by simp)
   ·rw [if_neg c4] at H; have c4b0 := decide_eq_false c4; clear c4; by_cases c14 : (x3_1.length : Int) = 0
    ·rw [if_pos c14] at H; obtain ⟨c14b0, c14b1⟩ := bqt c14; clear c14; obtain rfl := Option.some.inj H; obtain ⟨Ao15, co15, eo15⟩ := Kd.R_slice HO_3.out; subst eo15; go_wp2
     go_ret
     exact ⟨ew, vb HB.out⟩
    ·rw [if_neg c14] at H; obtain ⟨c14b0, c14b1⟩ := bqf c14; have c14b2 : ¬ (x3_1 = []) := fun h_ => c14 (by rw [h_]; rfl)
     obtain ⟨t249, A16, H⟩ := bnk H; obtain rfl := Option.some.inj H; obtain ⟨Ao17, co17, eo17⟩ := Kd.R_slice HO_3.out; subst eo17; go_wp2_with (first | ((with_reducible refine at_fn (f := 63) rfl ?_); refine gl (some 26) Try.func63 #[.slice Ao17 x3_1.length co17, .string (⟨#[32]⟩ : ByteArray)] ?_; (with_reducible refine (spec_l01Words.calls k1 _ _ x3_1 (⟨#[32]⟩ : ByteArray) t249 _ ?side1 ?side2 A16.out).mono ?_); (case side1 => repeat (first | exact (Kd.R_reads' HO_3.out).2.2 | (with_reducible refine Kd.C_alloc ?_ _) | (with_reducible refine Kd.C_drewN ?_ _) | (with_reducible refine Kd.C_drew ?_))); (case side2 => exact (Kd.R_reads' HO_3.out).2.1); rintro e w' ⟨rfl, ⟨nd, rfl⟩⟩; refine ⟨_, rfl, ?_⟩))
     go_ret
     exact ⟨ew, vb HB.out⟩


/-! ### spec_InputsText: function 26 -/
def spec_InputsText.l0 : Nat → List Int → Int → Option (ByteArray × Int)
 | 0, _, _ => none
 | k + 1, x0, x4 => if x4 < (x0.length : Int) then (if 0 ≤ x4 then ((spec_l01In.f (rd x0 x4) 0 9).bind fun t251 => (if t251 = true then (spec_InputsText.l0 k x0 (wrap64 (x4 + 1))) else (some ((⟨#[]⟩ : ByteArray), 2)))) else (none)) else (if (x0.length : Int) > 60 then (some ((⟨#[]⟩ : ByteArray), 3)) else ((spec_l21Text.f k x0).bind fun t252 => (some (t252, 0))))
def spec_InputsText.f (k : Nat) (l0 : List Int) : Option (ByteArray × Int) := spec_InputsText.l0 k l0 0
theorem spec_InputsText.mono_l : ∀ k, (∀ y0 y1, LeO (spec_InputsText.l0 k y0 y1) (spec_InputsText.l0 (k + 1) y0 y1))
 | 0 => fun _ _ r h => by simp [spec_InputsText.l0] at h
 | k + 1 => by
  have ih0 := spec_InputsText.mono_l k
  ·intro y0 y1; unfold spec_InputsText.l0
   repeat' first | (with_reducible first | exact ih0 _ _ | exact spec_l21Text.mono _ _ | exact LeO.refl _ | exact LeO.none _ | refine LeO.ite ?_ ?_ | refine LeO.bind ?_ (fun _ => ?_)) | exact ih0 _ _ | exact spec_l21Text.mono _ _ | exact LeO.none _ | refine LeO.ite ?_ ?_ | refine LeO.bind ?_ (fun _ => ?_)
theorem spec_InputsText.mono : ∀ a0 k, LeO (spec_InputsText.f k a0) (spec_InputsText.f (k + 1) a0) := by
 intro a0 k; have ih0 := spec_InputsText.mono_l k; unfold spec_InputsText.f
 repeat' first | (with_reducible first | exact ih0 _ _ | exact spec_l21Text.mono _ _ | exact LeO.refl _ | exact LeO.none _ | refine LeO.ite ?_ ?_ | refine LeO.bind ?_ (fun _ => ?_)) | exact ih0 _ _ | exact spec_l21Text.mono _ _ | exact LeO.none _ | refine LeO.ite ?_ ?_ | refine LeO.bind ?_ (fun _ => ?_)
set_option maxHeartbeats 8000000 in
set_option maxRecDepth 100000 in
theorem spec_InputsText.calls (k : Nat) (A0 : Option Addr) (c0 : Nat) (l0 : List Int) (r1 : ByteArray) (r2 : Int) (w : World) (hr0 : Kd.C (Kd.int .i64) w A0 l0.length l0) (hc0 : l0.length ≤ c0) (h : spec_InputsText.f k l0 = some (r1, r2)) :
  Calls Try.prog 26 #[.slice A0 l0.length c0] w fun e w' => e = .returned (.tuple #[.string r1, .int .i64 r2]) ∧ Below w.heap.size w w' := by
 have HR0 := ak hr0; have HC0 := ak hc0; clear hr0 hc0; have HB := ak (Below.refl w.heap.size w); unfold spec_InputsText.f at h; have H := h; clear h; have H' := ak H; clear H; go_enter Try.func26, Try.ntmps26; go_wp2
 go_loopg [4] k (fun kq v4 w' => ∃ (x4_1 : Int), v4 = .int .i64 x4_1 ∧ Aside0 (spec_InputsText.l0 kq l0 x4_1 = some (r1, r2)) ∧ Aside0 (kq ≤ k) ∧ Aside0 (Below w.heap.size w w'))
 case atStart => exact ⟨(0), (by first | rfl | (simp; done) | (simp [*]; done)), H', ⟨Nat.le_refl _⟩, ⟨vb HB.out⟩⟩
 case round =>
  clear H'; obtain ⟨x4_1, rfl, HA, HK1, HB⟩ := hrel
  cases gk with
  | zero => exact absurd HA.out (by simp [spec_InputsText.l0])
  | succ k1 =>
   have H := HA.out; clear HA; simp only [spec_InputsText.l0] at H
   by_cases c2 : x4_1 < (l0.length : Int)
   ·rw [if_pos c2] at H; have c2b0 := decide_eq_true c2; clear c2; by_cases c3 : 0 ≤ x4_1
    ·rw [if_pos c3] at H; have c3b0 := decide_eq_true c3; clear c3; obtain ⟨t251, A4, H⟩ := bnk H; by_cases c5 : t251 = true
     ·subst c5; rw [if_pos rfl] at H; have H' := ak H; clear H; have p250 : 0 ≤ (x4_1 : Int) := od; have q250 : x4_1 < (l0.length : Int) := od; obtain ⟨ad250, e250, hx250_0⟩ := Kd.at_int HR0.out x4_1 p250 q250
      cases e250; replace hx250_0 := cb HB.out hx250_0; replace p250 := eq_true p250; replace q250 := eq_true q250; go_wp2_with (first | ((with_reducible refine at_fn (f := 44) rfl ?_); refine gl (some 15) Try.func44 #[.int .i64 (rd l0 x4_1), .int .i64 0, .int .i64 9] ?_; (with_reducible refine (spec_l01In.calls (rd l0 x4_1) 0 9 _ _ A4.out).mono ?_); rintro e w' ⟨rfl, ⟨nd, rfl⟩⟩; refine ⟨_, rfl, ?_⟩))
      go_roundg k1
      case measure => have := HK1.out; omega
      case rel => exact ⟨(wrap64 (x4_1 + 1)), (by first | rfl | (simp; done) | (simp [*]; done)), H', ⟨by have := HK1.out; omega⟩, ⟨vb HB.out⟩⟩
     ·replace c5 := Bool.eq_false_iff.mpr c5; subst c5; rw [if_neg nf] at H; simp only [Option.some.injEq, Prod.mk.injEq] at H
      obtain ⟨rfl, rfl⟩ := H; have p250 : 0 ≤ (x4_1 : Int) := od; have q250 : x4_1 < (l0.length : Int) := od; obtain ⟨ad250, e250, hx250_0⟩ := Kd.at_int HR0.out x4_1 p250 q250
      cases e250; replace hx250_0 := cb HB.out hx250_0; replace p250 := eq_true p250; replace q250 := eq_true q250; go_wp2_with (first | ((with_reducible refine at_fn (f := 44) rfl ?_); refine gl (some 15) Try.func44 #[.int .i64 (rd l0 x4_1), .int .i64 0, .int .i64 9] ?_; (with_reducible refine (spec_l01In.calls (rd l0 x4_1) 0 9 _ _ A4.out).mono ?_); rintro e w' ⟨rfl, ⟨nd, rfl⟩⟩; refine ⟨_, rfl, ?_⟩))
      go_ret2
      exact ⟨ew, vb HB.out⟩
    ·rw [if_neg c3] at H; exact absurd H (by simp)
   ·rw [if_neg c2] at H; have c2b0 := decide_eq_false c2; clear c2; by_cases c6 : (l0.length : Int) > 60
    ·rw [if_pos c6] at H; have c6b0 := decide_eq_true c6; have c6b1 : decide (60 < l0.length) = true := decide_eq_true (by omega); clear c6; simp only [Option.some.injEq, Prod.mk.injEq] at H
     obtain ⟨rfl, rfl⟩ := H; go_wp2
     go_ret2
     exact ⟨ew, vb HB.out⟩
    ·rw [if_neg c6] at H; have c6b0 := decide_eq_false c6; have c6b1 : decide (60 < l0.length) = false := decide_eq_false (by omega); clear c6; obtain ⟨t252, A7, H⟩ := bnk H; simp only [Option.some.injEq, Prod.mk.injEq] at H
     obtain ⟨rfl, rfl⟩ := H; go_wp2_with (first | ((with_reducible refine at_fn (f := 51) rfl ?_); refine gl (some 21) Try.func51 #[.slice A0 l0.length c0] ?_; (with_reducible refine (spec_l21Text.calls k1 _ _ l0 t252 _ ?side1 HC0.out A7.out).mono ?_); (case side1 => exact vd HR0.out HB.out); rintro e w8 ⟨rfl, hb⟩; refine ⟨_, rfl, ?_⟩; replace HB := bs HB hb; (try clear hb); (try clear hb2); (try clear hk); (try clear hi)))
     go_ret2
     exact ⟨ew, vb HB.out⟩


/-! ### impl_allWithin: function 53 -/
def impl_allWithin.l0 : Nat → Int → Int → List Int → Int → Int → Option (Bool)
 | 0, _, _, _, _, _ => none
 | k + 1, x1, x2, x9, x10, x11 => if x11 < x10 then (if 0 ≤ x11 then (if x11 < (x9.length : Int) then ((impl_within.f (rd x9 x11) x1 x2).bind fun t264 => (if t264 = true then (impl_allWithin.l0 k x1 x2 x9 x10 (wrap64 (x11 + 1))) else (some false))) else (none)) else (none)) else (some true)
def impl_allWithin.f (k : Nat) (l0 : List Int) (a1 : Int) (a2 : Int) : Option (Bool) := impl_allWithin.l0 k a1 a2 l0 (l0.length : Int) 0
theorem impl_allWithin.mono_l : ∀ k, (∀ y0 y1 y2 y3 y4, LeO (impl_allWithin.l0 k y0 y1 y2 y3 y4) (impl_allWithin.l0 (k + 1) y0 y1 y2 y3 y4))
 | 0 => fun _ _ _ _ _ r h => by simp [impl_allWithin.l0] at h
 | k + 1 => by
  have ih0 := impl_allWithin.mono_l k
  ·intro y0 y1 y2 y3 y4; unfold impl_allWithin.l0
   repeat' first | (with_reducible first | exact ih0 _ _ _ _ _ | exact LeO.refl _ | exact LeO.none _ | refine LeO.ite ?_ ?_ | refine LeO.bind ?_ (fun _ => ?_)) | exact ih0 _ _ _ _ _ | exact LeO.none _ | refine LeO.ite ?_ ?_ | refine LeO.bind ?_ (fun _ => ?_)
theorem impl_allWithin.mono : ∀ a0 a1 a2 k, LeO (impl_allWithin.f k a0 a1 a2) (impl_allWithin.f (k + 1) a0 a1 a2) := by
 intro a0 a1 a2 k; have ih0 := impl_allWithin.mono_l k; unfold impl_allWithin.f
 repeat' first | (with_reducible first | exact ih0 _ _ _ _ _ | exact LeO.refl _ | exact LeO.none _ | refine LeO.ite ?_ ?_ | refine LeO.bind ?_ (fun _ => ?_)) | exact ih0 _ _ _ _ _ | exact LeO.none _ | refine LeO.ite ?_ ?_ | refine LeO.bind ?_ (fun _ => ?_)
set_option maxHeartbeats 8000000 in
set_option maxRecDepth 100000 in
theorem impl_allWithin.calls (k : Nat) (A0 : Option Addr) (c0 : Nat) (l0 : List Int) (a1 : Int) (a2 : Int) (r : Bool) (w : World) (hr0 : Kd.C (Kd.int .i64) w A0 l0.length l0) (hc0 : l0.length ≤ c0) (h : impl_allWithin.f k l0 a1 a2 = some r) :
  Calls Try.prog 53 #[.slice A0 l0.length c0, .int .i64 a1, .int .i64 a2] w fun e w' => e = .returned (.bool r) ∧ Drawn0 w w' := by
 have HR0 := ak hr0; have HC0 := ak hc0; clear hr0 hc0; unfold impl_allWithin.f at h; have H := h; clear h; have H' := ak H; clear H; go_enter Try.func53, Try.ntmps53; go_wp2
 go_loopg [11] k (fun kq v11 w' => ∃ (x11_1 : Int), v11 = .int .i64 x11_1 ∧ Aside0 (impl_allWithin.l0 kq a1 a2 l0 (l0.length : Int) x11_1 = some r) ∧ Aside0 (kq ≤ k) ∧ Drawn0 w w')
 case atStart => exact ⟨(0), (by first | rfl | (simp; done) | (simp [*]; done)), H', ⟨Nat.le_refl _⟩, by repeat (first | exact Drawn0.refl _ | apply Drawn0.step)⟩
 case round =>
  clear H'; (try clear p2); obtain ⟨x11_1, rfl, HA, HK1, ⟨m1, rfl⟩⟩ := hrel
  cases gk with
  | zero => exact absurd HA.out (by simp [impl_allWithin.l0])
  | succ k1 =>
   have H := HA.out; clear HA; simp only [impl_allWithin.l0] at H
   by_cases c4 : x11_1 < (l0.length : Int)
   ·rw [if_pos c4] at H; have c4b0 := decide_eq_true c4; clear c4; by_cases c5 : 0 ≤ x11_1
    ·rw [if_pos c5] at H; have c5b0 := decide_eq_true c5; clear c5; by_cases c6 : x11_1 < (l0.length : Int)
     ·rw [if_pos c6] at H; have c6b0 := decide_eq_true c6; clear c6; obtain ⟨t264, A7, H⟩ := bnk H; by_cases c8 : t264 = true
      ·subst c8; rw [if_pos rfl] at H; have H' := ak H; clear H; have p263 : 0 ≤ (x11_1 : Int) := od; have q263 : x11_1 < (l0.length : Int) := od; obtain ⟨ad263, e263, hx263_0⟩ := Kd.at_int HR0.out x11_1 p263 q263
       cases e263; replace p263 := eq_true p263; replace q263 := eq_true q263; go_wp2_with (first | ((with_reducible refine at_fn (f := 45) rfl ?_); refine gl (some 18) Try.func45 #[.int .i64 (rd l0 x11_1), .int .i64 a1, .int .i64 a2] ?_; (with_reducible refine (impl_within.calls (rd l0 x11_1) a1 a2 _ _ A7.out).mono ?_); rintro e w' ⟨rfl, ⟨nd, rfl⟩⟩; refine ⟨_, rfl, ?_⟩))
       go_roundg k1
       case measure => have := HK1.out; omega
       case rel => exact ⟨(wrap64 (x11_1 + 1)), (by first | rfl | (simp; done) | (simp [*]; done)), H', ⟨by have := HK1.out; omega⟩, by repeat (first | exact Drawn0.refl _ | apply Drawn0.step)⟩
      ·replace c8 := Bool.eq_false_iff.mpr c8; subst c8; rw [if_neg nf] at H; obtain rfl := Option.some.inj H; have p263 : 0 ≤ (x11_1 : Int) := od; have q263 : x11_1 < (l0.length : Int) := od; obtain ⟨ad263, e263, hx263_0⟩ := Kd.at_int HR0.out x11_1 p263 q263
       cases e263; replace p263 := eq_true p263; replace q263 := eq_true q263; go_wp2_with (first | ((with_reducible refine at_fn (f := 45) rfl ?_); refine gl (some 18) Try.func45 #[.int .i64 (rd l0 x11_1), .int .i64 a1, .int .i64 a2] ?_; (with_reducible refine (impl_within.calls (rd l0 x11_1) a1 a2 _ _ A7.out).mono ?_); rintro e w' ⟨rfl, ⟨nd, rfl⟩⟩; refine ⟨_, rfl, ?_⟩))
       go_ret
       exact ⟨by first | rfl | (simp; done) | (simp [*]; done), by repeat (first | exact Drawn0.refl _ | apply Drawn0.step)⟩
     ·rw [if_neg c6] at H; exact absurd H (by simp)
    ·rw [if_neg c5] at H; exact absurd H (by simp)
   ·rw [if_neg c4] at H; have c4b0 := decide_eq_false c4; clear c4; obtain rfl := Option.some.inj H; go_wp2
    go_ret
    exact ⟨by first | rfl | (simp; done) | (simp [*]; done), by repeat (first | exact Drawn0.refl _ | apply Drawn0.step)⟩


/-! ### impl_joinWith: function 54 -/
def impl_joinWith.l0 : Nat → ByteArray → ByteArray → List ByteArray → Int → Int → Option (ByteArray)
 | 0, _, _, _, _, _ => none
 | k + 1, x1, x5, x8, x9, x10 => if x10 < x9 then (if 0 ≤ x10 then (if x10 < (x8.length : Int) then (if x10 > 0 then (if x5.size + x1.size ≤ 9223372036854775807 then (if (x5 ++ x1).size + (rdOf ByteArray.empty x8 x10).size ≤ 9223372036854775807 then (impl_joinWith.l0 k x1 ((x5 ++ x1) ++ (rdOf ByteArray.empty x8 x10)) x8 x9 (wrap64 (x10 + 1))) else (none)) else (none)) else (if x5.size + (rdOf ByteArray.empty x8 x10).size ≤ 9223372036854775807 then (impl_joinWith.l0 k x1 (x5 ++ (rdOf ByteArray.empty x8 x10)) x8 x9 (wrap64 (x10 + 1))) else (none))) else (none)) else (none)) else (some x5)
def impl_joinWith.f (k : Nat) (l0 : List ByteArray) (a1 : ByteArray) : Option (ByteArray) := impl_joinWith.l0 k a1 (⟨#[]⟩ : ByteArray) l0 (l0.length : Int) 0
theorem impl_joinWith.mono_l : ∀ k, (∀ y0 y1 y2 y3 y4, LeO (impl_joinWith.l0 k y0 y1 y2 y3 y4) (impl_joinWith.l0 (k + 1) y0 y1 y2 y3 y4))
 | 0 => fun _ _ _ _ _ r h => by simp [impl_joinWith.l0] at h
 | k + 1 => by
  have ih0 := impl_joinWith.mono_l k
  ·intro y0 y1 y2 y3 y4; unfold impl_joinWith.l0
   repeat' first | (with_reducible first | exact ih0 _ _ _ _ _ | exact LeO.refl _ | exact LeO.none _ | refine LeO.ite ?_ ?_ | refine LeO.bind ?_ (fun _ => ?_)) | exact ih0 _ _ _ _ _ | exact LeO.none _ | refine LeO.ite ?_ ?_ | refine LeO.bind ?_ (fun _ => ?_)
theorem impl_joinWith.mono : ∀ a0 a1 k, LeO (impl_joinWith.f k a0 a1) (impl_joinWith.f (k + 1) a0 a1) := by
 intro a0 a1 k; have ih0 := impl_joinWith.mono_l k; unfold impl_joinWith.f
 repeat' first | (with_reducible first | exact ih0 _ _ _ _ _ | exact LeO.refl _ | exact LeO.none _ | refine LeO.ite ?_ ?_ | refine LeO.bind ?_ (fun _ => ?_)) | exact ih0 _ _ _ _ _ | exact LeO.none _ | refine LeO.ite ?_ ?_ | refine LeO.bind ?_ (fun _ => ?_)
set_option maxHeartbeats 8000000 in
set_option maxRecDepth 100000 in
theorem impl_joinWith.calls (k : Nat) (A0 : Option Addr) (c0 : Nat) (l0 : List ByteArray) (a1 : ByteArray) (r : ByteArray) (w : World) (hr0 : Kd.C Kd.string w A0 l0.length l0) (hc0 : l0.length ≤ c0) (h : impl_joinWith.f k l0 a1 = some r) :
  Calls Try.prog 54 #[.slice A0 l0.length c0, .string a1] w fun e w' => e = .returned (.string r) ∧ Drawn0 w w' := by
 have HR0 := ak hr0; have HC0 := ak hc0; clear hr0 hc0; unfold impl_joinWith.f at h; have H := h; clear h; have H' := ak H; clear H; go_enter Try.func54, Try.ntmps54; go_wp2
 go_loopg [5, 10] k (fun kq v5 v10 w' => ∃ (x5_1 : ByteArray) (x10_1 : Int), v5 = .string x5_1 ∧ v10 = .int .i64 x10_1 ∧ Aside0 (impl_joinWith.l0 kq a1 x5_1 l0 (l0.length : Int) x10_1 = some r) ∧ Aside0 (kq ≤ k) ∧ Drawn0 w w')
 case atStart => exact ⟨((⟨#[]⟩ : ByteArray)), (0), (by first | rfl | (simp; done) | (simp [*]; done)), (by first | rfl | (simp; done) | (simp [*]; done)), H', ⟨Nat.le_refl _⟩, by repeat (first | exact Drawn0.refl _ | apply Drawn0.step)⟩
 case round =>
  clear H'; (try clear p2); obtain ⟨x5_1, x10_1, rfl, rfl, HA, HK1, ⟨m1, rfl⟩⟩ := hrel
  cases gk with
  | zero => exact absurd HA.out (by simp [impl_joinWith.l0])
  | succ k1 =>
   have H := HA.out; clear HA; simp only [impl_joinWith.l0] at H
   by_cases c3 : x10_1 < (l0.length : Int)
   ·rw [if_pos c3] at H; have c3b0 := decide_eq_true c3; clear c3; by_cases c4 : 0 ≤ x10_1
    ·rw [if_pos c4] at H; have c4b0 := decide_eq_true c4; clear c4; by_cases c5 : x10_1 < (l0.length : Int)
     ·rw [if_pos c5] at H; have c5b0 := decide_eq_true c5; clear c5; by_cases c6 : x10_1 > 0
      ·rw [if_pos c6] at H; have c6b0 := decide_eq_true c6; clear c6; by_cases c7 : x5_1.size + a1.size ≤ 9223372036854775807
       ·rw [if_pos c7] at H; have c7b0 := eq_true c7; have c7b1 : decide (x5_1.size + a1.size ≤ 9223372036854775807) = true := decide_eq_true c7; (try have c7b2 : (9223372036854775807 < x5_1.size + a1.size) = False := eq_false (Nat.not_lt.2 c7))
        by_cases c8 : (x5_1 ++ a1).size + (rdOf ByteArray.empty l0 x10_1).size ≤ 9223372036854775807
        ·rw [if_pos c8] at H; have c8b0 := eq_true c8; have c8b1 : decide ((x5_1 ++ a1).size + (rdOf ByteArray.empty l0 x10_1).size ≤ 9223372036854775807) = true := decide_eq_true c8; (try have c8b2 : (9223372036854775807 < (x5_1 ++ a1).size + (rdOf ByteArray.empty l0 x10_1).size) = False := eq_false (Nat.not_lt.2 c8))
         have H' := ak H; clear H; have p265 : 0 ≤ (x10_1 : Int) := od; have q265 : x10_1 < (l0.length : Int) := od; obtain ⟨ad265, e265, hx265_0⟩ := Kd.at_string HR0.out x10_1 p265 q265
         cases e265; replace p265 := eq_true p265; replace q265 := eq_true q265; go_wp2
         go_roundg k1
         case measure => have := HK1.out; omega
         case rel => exact ⟨((x5_1 ++ a1) ++ (rdOf ByteArray.empty l0 x10_1)), (wrap64 (x10_1 + 1)), (by first | rfl | (simp; done) | (simp [*]; done)), (by first | rfl | (simp; done) | (simp [*]; done)), H', ⟨by have := HK1.out; omega⟩, by repeat (first | exact Drawn0.refl _ | apply Drawn0.step)⟩
        ·rw [if_neg c8] at H; exact absurd H (by simp)
       ·rw [if_neg c7] at H; exact absurd H (by simp)
      ·rw [if_neg c6] at H; have c6b0 := decide_eq_false c6; clear c6; by_cases c9 : x5_1.size + (rdOf ByteArray.empty l0 x10_1).size ≤ 9223372036854775807
       ·rw [if_pos c9] at H; have c9b0 := eq_true c9; have c9b1 : decide (x5_1.size + (rdOf ByteArray.empty l0 x10_1).size ≤ 9223372036854775807) = true := decide_eq_true c9; (try have c9b2 : (9223372036854775807 < x5_1.size + (rdOf ByteArray.empty l0 x10_1).size) = False := eq_false (Nat.not_lt.2 c9))
        have H' := ak H; clear H; have p265 : 0 ≤ (x10_1 : Int) := od; have q265 : x10_1 < (l0.length : Int) := od; obtain ⟨ad265, e265, hx265_0⟩ := Kd.at_string HR0.out x10_1 p265 q265
        cases e265; replace p265 := eq_true p265; replace q265 := eq_true q265; go_wp2
        go_roundg k1
        case measure => have := HK1.out; omega
        case rel => exact ⟨(x5_1 ++ (rdOf ByteArray.empty l0 x10_1)), (wrap64 (x10_1 + 1)), (by first | rfl | (simp; done) | (simp [*]; done)), (by first | rfl | (simp; done) | (simp [*]; done)), H', ⟨by have := HK1.out; omega⟩, by repeat (first | exact Drawn0.refl _ | apply Drawn0.step)⟩
       ·rw [if_neg c9] at H; exact absurd H (by simp)
     ·rw [if_neg c5] at H; exact absurd H (by simp)
    ·rw [if_neg c4] at H; exact absurd H (by simp)
   ·rw [if_neg c3] at H; have c3b0 := decide_eq_false c3; clear c3; obtain rfl := Option.some.inj H; go_wp2
    go_ret
    exact ⟨by first | rfl | (simp; done) | (simp [*]; done), by repeat (first | exact Drawn0.refl _ | apply Drawn0.step)⟩


/-! ### impl_InputsText: function 28 -/
def impl_InputsText.l0 : Nat → List ByteArray → List Int → Int → Int → Option (ByteArray × Int)
 | 0, _, _, _, _ => none
 | k + 1, x4, x16, x17, x18 => if x18 < x17 then (if 0 ≤ x18 then (if x18 < (x16.length : Int) then ((impl_inputWords.f).bind fun t268 => (if 0 ≤ (rd x16 x18) then (if (rd x16 x18) < (t268.length : Int) then (if x4.length < 8796093022208 then (impl_InputsText.l0 k (x4 ++ [rdOf ByteArray.empty t268 (rd x16 x18)]) x16 x17 (wrap64 (x18 + 1))) else (none)) else (none)) else (none))) else (none)) else (none)) else ((impl_joinWith.f k x4 (⟨#[32]⟩ : ByteArray)).bind fun t275 => (some (t275, 0)))
def impl_InputsText.f (k : Nat) (l0 : List Int) : Option (ByteArray × Int) := (impl_allWithin.f k l0 0 9).bind fun t266 => (if t266 = true then (if (l0.length : Int) > 60 then (some ((⟨#[]⟩ : ByteArray), 3)) else (if (l0.length : Int) = 0 then (some ((⟨#[45]⟩ : ByteArray), 0)) else (impl_InputsText.l0 k ([] : List ByteArray) l0 (l0.length : Int) 0))) else (some ((⟨#[]⟩ : ByteArray), 2)))
theorem impl_InputsText.mono_l : ∀ k, (∀ y0 y1 y2 y3, LeO (impl_InputsText.l0 k y0 y1 y2 y3) (impl_InputsText.l0 (k + 1) y0 y1 y2 y3))
 | 0 => fun _ _ _ _ r h => by simp [impl_InputsText.l0] at h
 | k + 1 => by
  have ih0 := impl_InputsText.mono_l k
  ·intro y0 y1 y2 y3; unfold impl_InputsText.l0
   repeat' first | (with_reducible first | exact ih0 _ _ _ _ | exact impl_allWithin.mono _ _ _ _ | exact impl_joinWith.mono _ _ _ | exact LeO.refl _ | exact LeO.none _ | refine LeO.ite ?_ ?_ | refine LeO.bind ?_ (fun _ => ?_)) | exact ih0 _ _ _ _ | exact impl_allWithin.mono _ _ _ _ | exact impl_joinWith.mono _ _ _ | exact LeO.none _ | refine LeO.ite ?_ ?_ | refine LeO.bind ?_ (fun _ => ?_)
theorem impl_InputsText.mono : ∀ a0 k, LeO (impl_InputsText.f k a0) (impl_InputsText.f (k + 1) a0) := by
 intro a0 k; have ih0 := impl_InputsText.mono_l k; unfold impl_InputsText.f
 repeat' first | (with_reducible first | exact ih0 _ _ _ _ | exact impl_allWithin.mono _ _ _ _ | exact impl_joinWith.mono _ _ _ | exact LeO.refl _ | exact LeO.none _ | refine LeO.ite ?_ ?_ | refine LeO.bind ?_ (fun _ => ?_)) | exact ih0 _ _ _ _ | exact impl_allWithin.mono _ _ _ _ | exact impl_joinWith.mono _ _ _ | exact LeO.none _ | refine LeO.ite ?_ ?_ | refine LeO.bind ?_ (fun _ => ?_)
set_option maxHeartbeats 8000000 in
set_option maxRecDepth 100000 in
theorem impl_InputsText.calls (k : Nat) (A0 : Option Addr) (c0 : Nat) (l0 : List Int) (r1 : ByteArray) (r2 : Int) (w : World) (hr0 : Kd.C (Kd.int .i64) w A0 l0.length l0) (hc0 : l0.length ≤ c0) (h : impl_InputsText.f k l0 = some (r1, r2)) :
  Calls Try.prog 28 #[.slice A0 l0.length c0] w fun e w' => e = .returned (.tuple #[.string r1, .int .i64 r2]) ∧ Below w.heap.size w w' := by
 have HR0 := ak hr0; have HC0 := ak hc0; clear hr0 hc0; have HB := ak (Below.refl w.heap.size w); unfold impl_InputsText.f at h; have H := h; clear h; obtain ⟨t266, A2, H⟩ := bnk H; by_cases c3 : t266 = true
 subst c3; rw [if_pos rfl] at H; by_cases c4 : (l0.length : Int) > 60
 rw [if_pos c4] at H; have c4b0 := decide_eq_true c4; have c4b1 : decide (60 < l0.length) = true := decide_eq_true (by omega); clear c4; simp only [Option.some.injEq, Prod.mk.injEq] at H
 obtain ⟨rfl, rfl⟩ := H; rotate_left
 rw [if_neg c4] at H; have c4b0 := decide_eq_false c4; have c4b1 : decide (60 < l0.length) = false := decide_eq_false (by omega); clear c4; by_cases c5 : (l0.length : Int) = 0
 rw [if_pos c5] at H; obtain ⟨c5b0, c5b1⟩ := bqt c5; clear c5; simp only [Option.some.injEq, Prod.mk.injEq] at H
 obtain ⟨rfl, rfl⟩ := H; rotate_left
 ·rw [if_neg c5] at H; obtain ⟨c5b0, c5b1⟩ := bqf c5; have c5b2 : ¬ (l0 = []) := fun h_ => c5 (by rw [h_]; rfl)
  have H' := ak H; clear H; go_enter Try.func28, Try.ntmps28; go_wp2_with (first | ((with_reducible refine at_fn (f := 53) rfl ?_); refine gl (some 8) Try.func53 #[.slice A0 l0.length c0, .int .i64 0, .int .i64 9] ?_; (with_reducible refine (impl_allWithin.calls k _ _ l0 0 9 _ _ ?side1 HC0.out A2.out).mono ?_); (case side1 => repeat (first | exact HR0.out | (with_reducible refine Kd.C_alloc ?_ _) | (with_reducible refine Kd.C_drewN ?_ _) | (with_reducible refine Kd.C_drew ?_))); rintro e w' ⟨rfl, ⟨nd, rfl⟩⟩; refine ⟨_, rfl, ?_⟩))
  go_loopg [4, 18] k (fun kq v4 v18 w' => ∃ (x4_1 : List ByteArray) (x18_1 : Int), v18 = .int .i64 x18_1 ∧ Aside0 (impl_InputsText.l0 kq x4_1 l0 (l0.length : Int) x18_1 = some (r1, r2)) ∧ Aside0 (kq ≤ k) ∧ Aside0 (Kd.R Kd.string 9 w' w.heap.size (fun _ => True) v4 x4_1) ∧ Aside0 (Below w.heap.size w w'))
  case atStart => exact ⟨(([] : List ByteArray)), (0), (by first | rfl | (simp; done) | (simp [*]; done)), H', ⟨Nat.le_refl _⟩, ⟨by first | exact Kd.R_nil _ _ _ _ _ | exact Kd.N_nil _ _ _ _ _ | exact Kd.V_nil _ _ _ _ _ | exact Kd.Q_nil _ _ _ _ _ | exact Kd.S_nil _ _ _ _ _⟩, ⟨vb HB.out⟩⟩
  case round =>
   clear H'; (try clear c2); (try clear p2); (try clear c3); (try clear c4); (try clear c4b0); (try clear c4b1); (try clear c5); (try clear c5b0); (try clear c5b1); (try clear c5b2); obtain ⟨x4_1, x18_1, rfl, HA, HK1, HO_4, HB⟩ := hrel
   cases gk with
   | zero => exact absurd HA.out (by simp [impl_InputsText.l0])
   | succ k1 =>
    have H := HA.out; clear HA; simp only [impl_InputsText.l0] at H
    by_cases c6 : x18_1 < (l0.length : Int)
    ·rw [if_pos c6] at H; have c6b0 := decide_eq_true c6; clear c6; by_cases c7 : 0 ≤ x18_1
     ·rw [if_pos c7] at H; have c7b0 := decide_eq_true c7; clear c7; by_cases c8 : x18_1 < (l0.length : Int)
      ·rw [if_pos c8] at H; have c8b0 := decide_eq_true c8; clear c8; obtain ⟨t268, A9, H⟩ := bnk H; by_cases c10 : 0 ≤ (rd l0 x18_1)
       ·rw [if_pos c10] at H; have c10b0 := decide_eq_true c10; clear c10; by_cases c11 : (rd l0 x18_1) < (t268.length : Int)
        ·rw [if_pos c11] at H; have c11b0 := decide_eq_true c11; clear c11; by_cases c12 : x4_1.length < 8796093022208
         ·rw [if_pos c12] at H; have LMc12 := ak c12; clear c12; obtain ⟨y272, hy272⟩ := gen_ ((x4_1 ++ [rdOf ByteArray.empty t268 (rd l0 x18_1)] : List ByteArray)); rw [← hy272] at H; have Ny272 := ak hy272; clear hy272; have H' := ak H; clear H; have p267 : 0 ≤ (x18_1 : Int) := od; have q267 : x18_1 < (l0.length : Int) := od; obtain ⟨ad267, e267, hx267_0⟩ := Kd.at_int HR0.out x18_1 p267 q267
          cases e267; replace hx267_0 := cb HB.out hx267_0; replace p267 := eq_true p267; replace q267 := eq_true q267; go_wp2_with (first | ((with_reducible refine at_fn (f := 50) rfl ?_); refine gl (some 23) Try.func50 #[] ?_; (with_reducible refine (impl_inputWords.calls  t268 _ A9.out).mono ?_); rintro e w13 ⟨v269, rfl, ho0, hb⟩; refine ⟨_, rfl, ?_⟩; have HO270 := ak (Kd.R_lower (Kd.R_new' ho0 (Kd.R_lt (vr HO_4.out))) (below_size (vb HB.out))); replace HO_4 := ak (Kd.R_elder' (vr HO_4.out) (Kd.R_base ho0) hb); replace HB := bs HB hb; (try clear hb); (try clear hb2); (try clear hk); (try clear hi); (try clear ho0); obtain ⟨Ao14, co14, eo14⟩ := Kd.R_slice HO270.out; subst eo14; have p271 : 0 ≤ ((rd l0 x18_1) : Int) := od; have q271 : (rd l0 x18_1) < (t268.length : Int) := od; obtain ⟨ad271, e271, hx271_0⟩ := Kd.at_string (Kd.R_reads' HO270.out).2.2 (rd l0 x18_1) p271 q271; cases e271; replace p271 := eq_true p271; replace q271 := eq_true q271) | ((with_reducible refine at_bi (b := .append) (xs := #[.tmp 22, .tmp 27]) rfl ?_); at_builtin; refine Kd.R_append Kd.string (w0 := w) w.heap.size rfl (.tmp 22) (.tmp 27) 59 9 (.string ⟨#[]⟩) 16 rfl Try.underlying59 info9 rfl (by decide) (by omega) u4 x4_1 (rdOf ByteArray.empty t268 (rd l0 x18_1)) [.string (rdOf ByteArray.empty t268 (rd l0 x18_1))] (fun k_ => some k_ ≠ (.slice (some ad271) t268.length co14 : Value).ownBlock) (fun _ => False) rfl rfl ?aP (fun _ hk => hk.elim) ?aF ?aO ?aB ?aS ?aL ?_; (case aP => exact rfl); (case aB => exact (vb HB.out)); (case aF => exact (fun k_ hk => Kd.fresh' (Kd.R_lt (vr HO270.out)) k_ hk)); (case aO => exact (by (with_reducible repeat (first | apply Kd.R_alloc | apply Kd.R_drewN | apply Kd.R_drew)); exact Kd.R_mono HO_4.out (fun _ hk => hk.2))); (case aS => exact (below_size (vb HB.out))); (case aL => have := LMc12.out; omega); intro v273 w15 ho hb hg hat; rw [← Ny272.out] at ho; have n0_ := ak (Kd.R_after (ok := (fun _ => True)) (vr HO270.out) hg hat); have n1_ := ak (hb); have n2_ := ak (ho); clear HO270; clear HB; clear HO_4; have HO270 := n0_; have HB := n1_; have HO274 := n2_; clear n0_ n1_ n2_; clear ho hb hg hat))
          go_roundg k1
          case measure => have := HK1.out; omega
          case rel => exact ⟨(y272), (wrap64 (x18_1 + 1)), (by first | rfl | (simp; done) | (simp [*]; done)), H', ⟨by have := HK1.out; omega⟩, ⟨by (with_reducible repeat (first | apply Kd.R_alloc | apply Kd.R_drewN | apply Kd.R_drew)); exact Kd.R_mono HO274.out (fun _ hk => trivial)⟩, ⟨vb HB.out⟩⟩
         ·rw [if_neg c12] at H; exact absurd H (by simp)
        ·rw [if_neg c11] at H; exact absurd H (by simp)
       ·rw [if_neg c10] at H; exact absurd H (by simp)
      ·rw [if_neg c8] at H; exact absurd H (by simp)
     ·rw [if_neg c7] at H; exact absurd H (by simp)
    ·rw [if_neg c6] at H; have c6b0 := decide_eq_false c6; clear c6; obtain ⟨t275, A16, H⟩ := bnk H; simp only [Option.some.injEq, Prod.mk.injEq] at H
     obtain ⟨rfl, rfl⟩ := H; obtain ⟨Ao17, co17, eo17⟩ := Kd.R_slice HO_4.out; subst eo17; go_wp2_with (first | ((with_reducible refine at_fn (f := 54) rfl ?_); refine gl (some 31) Try.func54 #[.slice Ao17 x4_1.length co17, .string (⟨#[32]⟩ : ByteArray)] ?_; (with_reducible refine (impl_joinWith.calls k1 _ _ x4_1 (⟨#[32]⟩ : ByteArray) t275 _ ?side1 ?side2 A16.out).mono ?_); (case side1 => repeat (first | exact (Kd.R_reads' HO_4.out).2.2 | (with_reducible refine Kd.C_alloc ?_ _) | (with_reducible refine Kd.C_drewN ?_ _) | (with_reducible refine Kd.C_drew ?_))); (case side2 => exact (Kd.R_reads' HO_4.out).2.1); rintro e w' ⟨rfl, ⟨nd, rfl⟩⟩; refine ⟨_, rfl, ?_⟩))
     go_ret2
     exact ⟨ew, vb HB.out⟩
 replace c3 := Bool.eq_false_iff.mpr c3; subst c3; rw [if_neg nf] at H; simp only [Option.some.injEq, Prod.mk.injEq] at H
 obtain ⟨rfl, rfl⟩ := H; rotate_left
 all_goals
  go_enter Try.func28, Try.ntmps28; go_wp2_with (first | ((with_reducible refine at_fn (f := 53) rfl ?_); refine gl (some 8) Try.func53 #[.slice A0 l0.length c0, .int .i64 0, .int .i64 9] ?_; (with_reducible refine (impl_allWithin.calls k _ _ l0 0 9 _ _ ?side1 HC0.out A2.out).mono ?_); (case side1 => repeat (first | exact HR0.out | (with_reducible refine Kd.C_alloc ?_ _) | (with_reducible refine Kd.C_drewN ?_ _) | (with_reducible refine Kd.C_drew ?_))); rintro e w' ⟨rfl, ⟨nd, rfl⟩⟩; refine ⟨_, rfl, ?_⟩))
  go_ret2
  exact ⟨ew, vb HB.out⟩


end Go.Proofs.Ytapcjchgcppanaa.Pall
