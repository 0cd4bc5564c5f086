/- Go functions of the program, each as a Lean function, and the proof that each call comes to what the Lean function tells; no condition beyond those that stand there. -/
import Derived.Test.YtjgbncpbenmjoaaF00
import Derived.Test.YtjgbncpbenmjoaaF10
import Derived.Test.YtjgbncpbenmjoaaSq
import Derived.Test.YtjgbncpbenmjoaaWLast
import Derived.Test.YtjgbncpbenmjoaaWMore
import Derived.Test.YtjgbncpbenmjoaaWTab
import Derived.Test.YtjgbncpbenmjoaaSpare
import Derived.Test.YtjgbncpbenmjoaaCm
import Derived.Test.YtjgbncpbenmjoaaCm3
namespace Go.Proofs.Ytjgbncpbenmjoaa.Pall
open Go.RowKit Go.Proofs.YtjgbncpbenmjoaaW.PrintWords Go.Proofs.YtjgbncpbenmjoaaW.PrintLast Go.Proofs.YtjgbncpbenmjoaaW.PrintMore
attribute [local go_sem] max2_int min2_int max_two min_two max_three min_three max_four min_four
set_option linter.unusedVariables false
set_option linter.unusedSimpArgs false

/-! ### impl_giveInput: function 98 -/
def impl_giveInput.f (a0_0 : Bool) (a0_1 : Bool) (a0_2 : Bool) (a0_3 : Bool) (a0_4 : Bool) (a0_5 : Int) (a1 : Int) : Option (Bool × Bool × Bool × Bool × Bool × Int × Int) := if a1 = 0 then (if a0_0 = true then ((impl_safe.f (!a0_0) a0_1 a0_2 a0_3 a0_4 a0_5).bind fun bt375 => (some (bt375.1, bt375.2.1, bt375.2.2.1, bt375.2.2.2.1, bt375.2.2.2.2.1, bt375.2.2.2.2.2, 0))) else (some (!a0_0, a0_1, a0_2, a0_3, a0_4, a0_5, 0))) else (if a1 = 1 then (if a0_1 = true then ((impl_safe.f a0_0 (!a0_1) a0_2 a0_3 a0_4 a0_5).bind fun bt381 => (some (bt381.1, bt381.2.1, bt381.2.2.1, bt381.2.2.2.1, bt381.2.2.2.2.1, bt381.2.2.2.2.2, 0))) else (some (a0_0, !a0_1, a0_2, a0_3, a0_4, a0_5, 0))) else (if a1 = 2 then (if a0_0 = true then (if a0_1 = true then (if a0_4 = true then (some (false, false, false, false, false, 0, 5)) else (some (a0_0, a0_1, true, false, a0_4, 0, 0))) else (some (false, false, false, false, false, 0, 5))) else (some (false, false, false, false, false, 0, 5))) else (if a1 = 3 then ((impl_safe.f a0_0 a0_1 a0_2 a0_3 a0_4 a0_5).bind fun bt387 => (some (bt387.1, bt387.2.1, bt387.2.2.1, bt387.2.2.2.1, bt387.2.2.2.2.1, bt387.2.2.2.2.2, 0))) else (if a1 = 4 then (if a0_2 = true then (if a0_3 = true then (some (false, false, false, false, false, 0, 5)) else (some (a0_0, a0_1, a0_2, true, a0_4, a0_5, 0))) else (some (false, false, false, false, false, 0, 5))) else (if a1 = 5 then (if a0_3 = true then (some (a0_0, a0_1, a0_2, false, a0_4, a0_5, 0)) else (some (false, false, false, false, false, 0, 5))) else (if a1 = 6 then ((impl_safe.f a0_0 a0_1 a0_2 a0_3 a0_4 a0_5).bind fun bt393 => (some (bt393.1, bt393.2.1, bt393.2.2.1, bt393.2.2.2.1, true, bt393.2.2.2.2.2, 0))) else (if a1 = 7 then (some (a0_0, a0_1, a0_2, a0_3, a0_4, 0, 0)) else (if a1 = 8 then (if (mn (wrap64 (a0_5 + 1)) 4) > 3 then ((impl_safe.f a0_0 a0_1 a0_2 a0_3 a0_4 (mn (wrap64 (a0_5 + 1)) 4)).bind fun bt399 => (some (bt399.1, bt399.2.1, bt399.2.2.1, bt399.2.2.2.1, bt399.2.2.2.2.1, bt399.2.2.2.2.2, 0))) else (some (a0_0, a0_1, a0_2, a0_3, a0_4, mn (wrap64 (a0_5 + 1)) 4, 0))) else (if a1 = 9 then (if a0_4 = true then (if a0_0 = true then (some (false, false, false, false, false, 0, 5)) else (if a0_1 = true then (some (false, false, false, false, false, 0, 5)) else (some (a0_0, a0_1, a0_2, a0_3, false, a0_5, 0)))) else (some (false, false, false, false, false, 0, 5))) else (some (false, false, false, false, false, 0, 2)))))))))))
set_option maxHeartbeats 8000000 in
set_option maxRecDepth 100000 in
theorem impl_giveInput.calls (a0_0 : Bool) (a0_1 : Bool) (a0_2 : Bool) (a0_3 : Bool) (a0_4 : Bool) (a0_5 : Int) (a1 : Int) (r1 : Bool) (r2 : Bool) (r3 : Bool) (r4 : Bool) (r5 : Bool) (r6 : Int) (r7 : Int) (w : World) (h : impl_giveInput.f a0_0 a0_1 a0_2 a0_3 a0_4 a0_5 a1 = some (r1, r2, r3, r4, r5, r6, r7)) :
  Calls Try.prog 98 #[.agg #[.bool a0_0, .bool a0_1, .bool a0_2, .bool a0_3, .bool a0_4, .int .i64 a0_5], .int .i64 a1] w fun e w' => e = .returned (.tuple #[.agg #[.bool r1, .bool r2, .bool r3, .bool r4, .bool r5, .int .i64 r6], .int .i64 r7]) ∧ Below w.heap.size w w' := by
 have hu41 := Try.underlying41; have HB := ak (Below.refl w.heap.size w); have H : (if a1 = 0 then (if a0_0 = true then ((impl_safe.f (!a0_0) a0_1 a0_2 a0_3 a0_4 a0_5).bind fun bt375 => (some (bt375.1, bt375.2.1, bt375.2.2.1, bt375.2.2.2.1, bt375.2.2.2.2.1, bt375.2.2.2.2.2, 0))) else (some (!a0_0, a0_1, a0_2, a0_3, a0_4, a0_5, 0))) else (if a1 = 1 then (if a0_1 = true then ((impl_safe.f a0_0 (!a0_1) a0_2 a0_3 a0_4 a0_5).bind fun bt381 => (some (bt381.1, bt381.2.1, bt381.2.2.1, bt381.2.2.2.1, bt381.2.2.2.2.1, bt381.2.2.2.2.2, 0))) else (some (a0_0, !a0_1, a0_2, a0_3, a0_4, a0_5, 0))) else (if a1 = 2 then (if a0_0 = true then (if a0_1 = true then (if a0_4 = true then (some (false, false, false, false, false, 0, 5)) else (some (a0_0, a0_1, true, false, a0_4, 0, 0))) else (some (false, false, false, false, false, 0, 5))) else (some (false, false, false, false, false, 0, 5))) else (if a1 = 3 then ((impl_safe.f a0_0 a0_1 a0_2 a0_3 a0_4 a0_5).bind fun bt387 => (some (bt387.1, bt387.2.1, bt387.2.2.1, bt387.2.2.2.1, bt387.2.2.2.2.1, bt387.2.2.2.2.2, 0))) else (if a1 = 4 then (if a0_2 = true then (if a0_3 = true then (some (false, false, false, false, false, 0, 5)) else (some (a0_0, a0_1, a0_2, true, a0_4, a0_5, 0))) else (some (false, false, false, false, false, 0, 5))) else (if a1 = 5 then (if a0_3 = true then (some (a0_0, a0_1, a0_2, false, a0_4, a0_5, 0)) else (some (false, false, false, false, false, 0, 5))) else (if a1 = 6 then ((impl_safe.f a0_0 a0_1 a0_2 a0_3 a0_4 a0_5).bind fun bt393 => (some (bt393.1, bt393.2.1, bt393.2.2.1, bt393.2.2.2.1, true, bt393.2.2.2.2.2, 0))) else (if a1 = 7 then (some (a0_0, a0_1, a0_2, a0_3, a0_4, 0, 0)) else (if a1 = 8 then (if (mn (wrap64 (a0_5 + 1)) 4) > 3 then ((impl_safe.f a0_0 a0_1 a0_2 a0_3 a0_4 (mn (wrap64 (a0_5 + 1)) 4)).bind fun bt399 => (some (bt399.1, bt399.2.1, bt399.2.2.1, bt399.2.2.2.1, bt399.2.2.2.2.1, bt399.2.2.2.2.2, 0))) else (some (a0_0, a0_1, a0_2, a0_3, a0_4, mn (wrap64 (a0_5 + 1)) 4, 0))) else (if a1 = 9 then (if a0_4 = true then (if a0_0 = true then (some (false, false, false, false, false, 0, 5)) else (if a0_1 = true then (some (false, false, false, false, false, 0, 5)) else (some (a0_0, a0_1, a0_2, a0_3, false, a0_5, 0)))) else (some (false, false, false, false, false, 0, 5))) else (some (false, false, false, false, false, 0, 2)))))))))))) = some (r1, r2, r3, r4, r5, r6, r7) := h
 clear h; by_cases c3 : a1 = 0
 rw [if_pos c3] at H; obtain ⟨c3b0, c3b1⟩ := bqt c3; clear c3; by_cases c4 : a0_0 = true
 ·subst c4; rw [if_pos rfl] at H; obtain ⟨⟨t375, t376, t377, t378, t379, t380⟩, A50, H⟩ := bnd H; replace H : (some (t375, t376, t377, t378, t379, t380, 0)) = some (r1, r2, r3, r4, r5, r6, r7) := H; have A5 := ak A50; clear A50; simp only [Option.some.injEq, Prod.mk.injEq] at H
  obtain ⟨rfl, rfl, rfl, rfl, rfl, rfl, rfl⟩ := H; go_enter Try.func98, Try.ntmps98; go_wp2_with (first | ((with_reducible refine gate_dst (N := 2) rfl ?_); refine bx 2 #[.bool true, .bool a0_1, .bool a0_2, .bool a0_3, .bool a0_4, .int .i64 a0_5] 41 ?_; intro gb373 hg w6 hbox hb; have BK373 := ak hbox; have GW373 := gw hg HB; have GE373 := gw hg HB; replace HB := bs HB hb; clear hb hbox hg) | ((with_reducible refine gate_dst (N := 4) rfl ?_); refine bx 4 #[.bool false, .bool false, .bool false, .bool false, .bool false, .int .i64 0] 41 ?_; intro gb374 hg w7 hbox hb; have BK374 := ak hbox; have GW374 := gw hg HB; have GE374 := gw hg HB; replace HB := bs HB hb; have NB373_374 := ak ((by rw [hg]; exact Nat.ne_of_lt (blk_lt (vk BK373.out)) : gb373 ≠ gb374)); have NB374_373 := ak ((by rw [hg]; exact Nat.ne_of_gt (blk_lt (vk BK373.out)) : gb374 ≠ gb373)); replace BK373 := kb BK373 hb; clear hb hbox hg; have hnb8 := NB373_374.out; have hnc8 := NB374_373.out; have hcz9 := cz6 BK373.out) | ((with_reducible refine at_fn (f := 113) rfl ?_); refine gl (some 18) Try.func113 #[.agg #[.bool (!true), .bool a0_1, .bool a0_2, .bool a0_3, .bool a0_4, .int .i64 a0_5]] ?_; (with_reducible refine (impl_safe.calls (!true) a0_1 a0_2 a0_3 a0_4 a0_5 t375 t376 t377 t378 t379 t380 _ A5.out).mono ?_); rintro e w10 ⟨rfl, hb⟩; refine ⟨_, rfl, ?_⟩; replace BK373 := ak (blk_below (g := gb373) (o := .cells #[.bool (!true), .bool a0_1, .bool a0_2, .bool a0_3, .bool a0_4, .int .i64 a0_5] 41 (0, 0)) (vz BK373.out) hb); replace BK374 := kb BK374 hb; replace HB := bs HB hb; (try clear hb); (try clear hb2); (try clear hk); (try clear hi); have hcz11 := cz6 BK373.out; have hcz12 := cz6 BK374.out))
  refine bodyPost_ret (results_ct rfl _ _ gb374 41 #[.bool t375, .bool t376, .bool t377, .bool t378, .bool t379, .int .i64 t380] (0, 0) _ rfl (vz BK374.out) Try.underlying41 rfl (by kernel_rfl)) rfl ?_; exact ⟨ew, vb HB.out⟩
 ·replace c4 := Bool.eq_false_iff.mpr c4; subst c4; rw [if_neg nf] at H; simp only [Option.some.injEq, Prod.mk.injEq] at H
  obtain ⟨rfl, rfl, rfl, rfl, rfl, rfl, rfl⟩ := H; go_enter Try.func98, Try.ntmps98; go_wp2_with (first | ((with_reducible refine gate_dst (N := 2) rfl ?_); refine bx 2 #[.bool false, .bool a0_1, .bool a0_2, .bool a0_3, .bool a0_4, .int .i64 a0_5] 41 ?_; intro gb373 hg w13 hbox hb; have BK373 := ak hbox; have GW373 := gw hg HB; have GE373 := gw hg HB; replace HB := bs HB hb; clear hb hbox hg) | ((with_reducible refine gate_dst (N := 4) rfl ?_); refine bx 4 #[.bool false, .bool false, .bool false, .bool false, .bool false, .int .i64 0] 41 ?_; intro gb374 hg w14 hbox hb; have BK374 := ak hbox; have GW374 := gw hg HB; have GE374 := gw hg HB; replace HB := bs HB hb; have NB373_374 := ak ((by rw [hg]; exact Nat.ne_of_lt (blk_lt (vk BK373.out)) : gb373 ≠ gb374)); have NB374_373 := ak ((by rw [hg]; exact Nat.ne_of_gt (blk_lt (vk BK373.out)) : gb374 ≠ gb373)); replace BK373 := kb BK373 hb; clear hb hbox hg; have hnb15 := NB373_374.out; have hnc15 := NB374_373.out; have hcz16 := cz6 BK373.out; have hcz17 := cz6 BK374.out))
  refine bodyPost_ret (results_ct rfl _ _ gb374 41 #[.bool (!false), .bool a0_1, .bool a0_2, .bool a0_3, .bool a0_4, .int .i64 a0_5] (0, 0) _ rfl (vz BK374.out) Try.underlying41 rfl (by kernel_rfl)) rfl ?_; exact ⟨ew, vb HB.out⟩
 rw [if_neg c3] at H; obtain ⟨c3b0, c3b1⟩ := bqf c3; by_cases c18 : a1 = 1
 rw [if_pos c18] at H; obtain ⟨c18b0, c18b1⟩ := bqt c18; clear c18; by_cases c19 : a0_1 = true
 ·subst c19; rw [if_pos rfl] at H; obtain ⟨⟨t381, t382, t383, t384, t385, t386⟩, A200, H⟩ := bnd H; replace H : (some (t381, t382, t383, t384, t385, t386, 0)) = some (r1, r2, r3, r4, r5, r6, r7) := H; have A20 := ak A200; clear A200; simp only [Option.some.injEq, Prod.mk.injEq] at H
  obtain ⟨rfl, rfl, rfl, rfl, rfl, rfl, rfl⟩ := H; go_enter Try.func98, Try.ntmps98; go_wp2_with (first | ((with_reducible refine gate_dst (N := 2) rfl ?_); refine bx 2 #[.bool a0_0, .bool true, .bool a0_2, .bool a0_3, .bool a0_4, .int .i64 a0_5] 41 ?_; intro gb373 hg w21 hbox hb; have BK373 := ak hbox; have GW373 := gw hg HB; have GE373 := gw hg HB; replace HB := bs HB hb; clear hb hbox hg) | ((with_reducible refine gate_dst (N := 4) rfl ?_); refine bx 4 #[.bool false, .bool false, .bool false, .bool false, .bool false, .int .i64 0] 41 ?_; intro gb374 hg w22 hbox hb; have BK374 := ak hbox; have GW374 := gw hg HB; have GE374 := gw hg HB; replace HB := bs HB hb; have NB373_374 := ak ((by rw [hg]; exact Nat.ne_of_lt (blk_lt (vk BK373.out)) : gb373 ≠ gb374)); have NB374_373 := ak ((by rw [hg]; exact Nat.ne_of_gt (blk_lt (vk BK373.out)) : gb374 ≠ gb373)); replace BK373 := kb BK373 hb; clear hb hbox hg; have hnb23 := NB373_374.out; have hnc23 := NB374_373.out; have hcz24 := cz6 BK373.out) | ((with_reducible refine at_fn (f := 113) rfl ?_); refine gl (some 29) Try.func113 #[.agg #[.bool a0_0, .bool (!true), .bool a0_2, .bool a0_3, .bool a0_4, .int .i64 a0_5]] ?_; (with_reducible refine (impl_safe.calls a0_0 (!true) a0_2 a0_3 a0_4 a0_5 t381 t382 t383 t384 t385 t386 _ A20.out).mono ?_); rintro e w25 ⟨rfl, hb⟩; refine ⟨_, rfl, ?_⟩; replace BK373 := ak (blk_below (g := gb373) (o := .cells #[.bool a0_0, .bool (!true), .bool a0_2, .bool a0_3, .bool a0_4, .int .i64 a0_5] 41 (0, 0)) (vz BK373.out) hb); replace BK374 := kb BK374 hb; replace HB := bs HB hb; (try clear hb); (try clear hb2); (try clear hk); (try clear hi); have hcz26 := cz6 BK373.out; have hcz27 := cz6 BK374.out))
  refine bodyPost_ret (results_ct rfl _ _ gb374 41 #[.bool t381, .bool t382, .bool t383, .bool t384, .bool t385, .int .i64 t386] (0, 0) _ rfl (vz BK374.out) Try.underlying41 rfl (by kernel_rfl)) rfl ?_; exact ⟨ew, vb HB.out⟩
 ·replace c19 := Bool.eq_false_iff.mpr c19; subst c19; rw [if_neg nf] at H; simp only [Option.some.injEq, Prod.mk.injEq] at H
  obtain ⟨rfl, rfl, rfl, rfl, rfl, rfl, rfl⟩ := H; go_enter Try.func98, Try.ntmps98; go_wp2_with (first | ((with_reducible refine gate_dst (N := 2) rfl ?_); refine bx 2 #[.bool a0_0, .bool false, .bool a0_2, .bool a0_3, .bool a0_4, .int .i64 a0_5] 41 ?_; intro gb373 hg w28 hbox hb; have BK373 := ak hbox; have GW373 := gw hg HB; have GE373 := gw hg HB; replace HB := bs HB hb; clear hb hbox hg) | ((with_reducible refine gate_dst (N := 4) rfl ?_); refine bx 4 #[.bool false, .bool false, .bool false, .bool false, .bool false, .int .i64 0] 41 ?_; intro gb374 hg w29 hbox hb; have BK374 := ak hbox; have GW374 := gw hg HB; have GE374 := gw hg HB; replace HB := bs HB hb; have NB373_374 := ak ((by rw [hg]; exact Nat.ne_of_lt (blk_lt (vk BK373.out)) : gb373 ≠ gb374)); have NB374_373 := ak ((by rw [hg]; exact Nat.ne_of_gt (blk_lt (vk BK373.out)) : gb374 ≠ gb373)); replace BK373 := kb BK373 hb; clear hb hbox hg; have hnb30 := NB373_374.out; have hnc30 := NB374_373.out; have hcz31 := cz6 BK373.out; have hcz32 := cz6 BK374.out))
  refine bodyPost_ret (results_ct rfl _ _ gb374 41 #[.bool a0_0, .bool (!false), .bool a0_2, .bool a0_3, .bool a0_4, .int .i64 a0_5] (0, 0) _ rfl (vz BK374.out) Try.underlying41 rfl (by kernel_rfl)) rfl ?_; exact ⟨ew, vb HB.out⟩
 rw [if_neg c18] at H; obtain ⟨c18b0, c18b1⟩ := bqf c18; by_cases c33 : a1 = 2
 rw [if_pos c33] at H; obtain ⟨c33b0, c33b1⟩ := bqt c33; clear c33; by_cases c34 : a0_0 = true
 subst c34; rw [if_pos rfl] at H; by_cases c35 : a0_1 = true
 subst c35; rw [if_pos rfl] at H; by_cases c36 : a0_4 = true
 subst c36; rw [if_pos rfl] at H; simp only [Option.some.injEq, Prod.mk.injEq] at H
 obtain ⟨rfl, rfl, rfl, rfl, rfl, rfl, rfl⟩ := H; rotate_left
 ·replace c36 := Bool.eq_false_iff.mpr c36; subst c36; rw [if_neg nf] at H; simp only [Option.some.injEq, Prod.mk.injEq] at H
  obtain ⟨rfl, rfl, rfl, rfl, rfl, rfl, rfl⟩ := H; go_enter Try.func98, Try.ntmps98; go_wp2_with (first | ((with_reducible refine gate_dst (N := 2) rfl ?_); refine bx 2 #[.bool true, .bool true, .bool a0_2, .bool a0_3, .bool false, .int .i64 a0_5] 41 ?_; intro gb373 hg w42 hbox hb; have BK373 := ak hbox; have GW373 := gw hg HB; have GE373 := gw hg HB; replace HB := bs HB hb; clear hb hbox hg) | ((with_reducible refine gate_dst (N := 4) rfl ?_); refine bx 4 #[.bool false, .bool false, .bool false, .bool false, .bool false, .int .i64 0] 41 ?_; intro gb374 hg w43 hbox hb; have BK374 := ak hbox; have GW374 := gw hg HB; have GE374 := gw hg HB; replace HB := bs HB hb; have NB373_374 := ak ((by rw [hg]; exact Nat.ne_of_lt (blk_lt (vk BK373.out)) : gb373 ≠ gb374)); have NB374_373 := ak ((by rw [hg]; exact Nat.ne_of_gt (blk_lt (vk BK373.out)) : gb374 ≠ gb373)); replace BK373 := kb BK373 hb; clear hb hbox hg; have hnb44 := NB373_374.out; have hnc44 := NB374_373.out; have hcz45 := cz6 BK373.out; have hcz46 := cz6 BK374.out))
  refine bodyPost_ret (results_ct rfl _ _ gb374 41 #[.bool true, .bool true, .bool true, .bool false, .bool false, .int .i64 0] (0, 0) _ rfl (vz BK374.out) Try.underlying41 rfl (by kernel_rfl)) rfl ?_; exact ⟨ew, vb HB.out⟩
 replace c35 := Bool.eq_false_iff.mpr c35; subst c35; rw [if_neg nf] at H; simp only [Option.some.injEq, Prod.mk.injEq] at H
 obtain ⟨rfl, rfl, rfl, rfl, rfl, rfl, rfl⟩ := H; rotate_left
 replace c34 := Bool.eq_false_iff.mpr c34; subst c34; rw [if_neg nf] at H; simp only [Option.some.injEq, Prod.mk.injEq] at H
 obtain ⟨rfl, rfl, rfl, rfl, rfl, rfl, rfl⟩ := H; rotate_left
 rw [if_neg c33] at H; obtain ⟨c33b0, c33b1⟩ := bqf c33; by_cases c57 : a1 = 3
 ·rw [if_pos c57] at H; obtain ⟨c57b0, c57b1⟩ := bqt c57; clear c57; obtain ⟨⟨t387, t388, t389, t390, t391, t392⟩, A580, H⟩ := bnd H; replace H : (some (t387, t388, t389, t390, t391, t392, 0)) = some (r1, r2, r3, r4, r5, r6, r7) := H; have A58 := ak A580; clear A580; simp only [Option.some.injEq, Prod.mk.injEq] at H
  obtain ⟨rfl, rfl, rfl, rfl, rfl, rfl, rfl⟩ := H; go_enter Try.func98, Try.ntmps98; go_wp2_with (first | ((with_reducible refine gate_dst (N := 2) rfl ?_); refine bx 2 #[.bool a0_0, .bool a0_1, .bool a0_2, .bool a0_3, .bool a0_4, .int .i64 a0_5] 41 ?_; intro gb373 hg w59 hbox hb; have BK373 := ak hbox; have GW373 := gw hg HB; have GE373 := gw hg HB; replace HB := bs HB hb; clear hb hbox hg) | ((with_reducible refine gate_dst (N := 4) rfl ?_); refine bx 4 #[.bool false, .bool false, .bool false, .bool false, .bool false, .int .i64 0] 41 ?_; intro gb374 hg w60 hbox hb; have BK374 := ak hbox; have GW374 := gw hg HB; have GE374 := gw hg HB; replace HB := bs HB hb; have NB373_374 := ak ((by rw [hg]; exact Nat.ne_of_lt (blk_lt (vk BK373.out)) : gb373 ≠ gb374)); have NB374_373 := ak ((by rw [hg]; exact Nat.ne_of_gt (blk_lt (vk BK373.out)) : gb374 ≠ gb373)); replace BK373 := kb BK373 hb; clear hb hbox hg; have hnb61 := NB373_374.out; have hnc61 := NB374_373.out; have hcz62 := cz6 BK373.out) | ((with_reducible refine at_fn (f := 113) rfl ?_); refine gl (some 51) Try.func113 #[.agg #[.bool a0_0, .bool a0_1, .bool a0_2, .bool a0_3, .bool a0_4, .int .i64 a0_5]] ?_; (with_reducible refine (impl_safe.calls a0_0 a0_1 a0_2 a0_3 a0_4 a0_5 t387 t388 t389 t390 t391 t392 _ A58.out).mono ?_); rintro e w63 ⟨rfl, hb⟩; refine ⟨_, rfl, ?_⟩; replace BK373 := kb BK373 hb; replace BK374 := kb BK374 hb; replace HB := bs HB hb; (try clear hb); (try clear hb2); (try clear hk); (try clear hi); have hcz64 := cz6 BK373.out; have hcz65 := cz6 BK374.out))
  refine bodyPost_ret (results_ct rfl _ _ gb374 41 #[.bool t387, .bool t388, .bool t389, .bool t390, .bool t391, .int .i64 t392] (0, 0) _ rfl (vz BK374.out) Try.underlying41 rfl (by kernel_rfl)) rfl ?_; exact ⟨ew, vb HB.out⟩
 rw [if_neg c57] at H; obtain ⟨c57b0, c57b1⟩ := bqf c57; by_cases c66 : a1 = 4
 rw [if_pos c66] at H; obtain ⟨c66b0, c66b1⟩ := bqt c66; clear c66; by_cases c67 : a0_2 = true
 subst c67; rw [if_pos rfl] at H; by_cases c68 : a0_3 = true
 subst c68; rw [if_pos rfl] at H; simp only [Option.some.injEq, Prod.mk.injEq] at H
 obtain ⟨rfl, rfl, rfl, rfl, rfl, rfl, rfl⟩ := H; rotate_left
 ·replace c68 := Bool.eq_false_iff.mpr c68; subst c68; rw [if_neg nf] at H; simp only [Option.some.injEq, Prod.mk.injEq] at H
  obtain ⟨rfl, rfl, rfl, rfl, rfl, rfl, rfl⟩ := H; go_enter Try.func98, Try.ntmps98; go_wp2_with (first | ((with_reducible refine gate_dst (N := 2) rfl ?_); refine bx 2 #[.bool a0_0, .bool a0_1, .bool true, .bool false, .bool a0_4, .int .i64 a0_5] 41 ?_; intro gb373 hg w74 hbox hb; have BK373 := ak hbox; have GW373 := gw hg HB; have GE373 := gw hg HB; replace HB := bs HB hb; clear hb hbox hg) | ((with_reducible refine gate_dst (N := 4) rfl ?_); refine bx 4 #[.bool false, .bool false, .bool false, .bool false, .bool false, .int .i64 0] 41 ?_; intro gb374 hg w75 hbox hb; have BK374 := ak hbox; have GW374 := gw hg HB; have GE374 := gw hg HB; replace HB := bs HB hb; have NB373_374 := ak ((by rw [hg]; exact Nat.ne_of_lt (blk_lt (vk BK373.out)) : gb373 ≠ gb374)); have NB374_373 := ak ((by rw [hg]; exact Nat.ne_of_gt (blk_lt (vk BK373.out)) : gb374 ≠ gb373)); replace BK373 := kb BK373 hb; clear hb hbox hg; have hnb76 := NB373_374.out; have hnc76 := NB374_373.out; have hcz77 := cz6 BK373.out; have hcz78 := cz6 BK374.out))
  refine bodyPost_ret (results_ct rfl _ _ gb374 41 #[.bool a0_0, .bool a0_1, .bool true, .bool true, .bool a0_4, .int .i64 a0_5] (0, 0) _ rfl (vz BK374.out) Try.underlying41 rfl (by kernel_rfl)) rfl ?_; exact ⟨ew, vb HB.out⟩
 replace c67 := Bool.eq_false_iff.mpr c67; subst c67; rw [if_neg nf] at H; simp only [Option.some.injEq, Prod.mk.injEq] at H
 obtain ⟨rfl, rfl, rfl, rfl, rfl, rfl, rfl⟩ := H; rotate_left
 rw [if_neg c66] at H; obtain ⟨c66b0, c66b1⟩ := bqf c66; by_cases c84 : a1 = 5
 rw [if_pos c84] at H; obtain ⟨c84b0, c84b1⟩ := bqt c84; clear c84; by_cases c85 : a0_3 = true
 ·subst c85; rw [if_pos rfl] at H; simp only [Option.some.injEq, Prod.mk.injEq] at H
  obtain ⟨rfl, rfl, rfl, rfl, rfl, rfl, rfl⟩ := H; go_enter Try.func98, Try.ntmps98; go_wp2_with (first | ((with_reducible refine gate_dst (N := 2) rfl ?_); refine bx 2 #[.bool a0_0, .bool a0_1, .bool a0_2, .bool true, .bool a0_4, .int .i64 a0_5] 41 ?_; intro gb373 hg w86 hbox hb; have BK373 := ak hbox; have GW373 := gw hg HB; have GE373 := gw hg HB; replace HB := bs HB hb; clear hb hbox hg) | ((with_reducible refine gate_dst (N := 4) rfl ?_); refine bx 4 #[.bool false, .bool false, .bool false, .bool false, .bool false, .int .i64 0] 41 ?_; intro gb374 hg w87 hbox hb; have BK374 := ak hbox; have GW374 := gw hg HB; have GE374 := gw hg HB; replace HB := bs HB hb; have NB373_374 := ak ((by rw [hg]; exact Nat.ne_of_lt (blk_lt (vk BK373.out)) : gb373 ≠ gb374)); have NB374_373 := ak ((by rw [hg]; exact Nat.ne_of_gt (blk_lt (vk BK373.out)) : gb374 ≠ gb373)); replace BK373 := kb BK373 hb; clear hb hbox hg; have hnb88 := NB373_374.out; have hnc88 := NB374_373.out; have hcz89 := cz6 BK373.out; have hcz90 := cz6 BK374.out))
  refine bodyPost_ret (results_ct rfl _ _ gb374 41 #[.bool a0_0, .bool a0_1, .bool a0_2, .bool false, .bool a0_4, .int .i64 a0_5] (0, 0) _ rfl (vz BK374.out) Try.underlying41 rfl (by kernel_rfl)) rfl ?_; exact ⟨ew, vb HB.out⟩
 replace c85 := Bool.eq_false_iff.mpr c85; subst c85; rw [if_neg nf] at H; simp only [Option.some.injEq, Prod.mk.injEq] at H
 obtain ⟨rfl, rfl, rfl, rfl, rfl, rfl, rfl⟩ := H; rotate_left
 rw [if_neg c84] at H; obtain ⟨c84b0, c84b1⟩ := bqf c84; by_cases c96 : a1 = 6
 ·rw [if_pos c96] at H; obtain ⟨c96b0, c96b1⟩ := bqt c96; clear c96; obtain ⟨⟨t393, t394, t395, t396, t397, t398⟩, A970, H⟩ := bnd H; replace H : (some (t393, t394, t395, t396, true, t398, 0)) = some (r1, r2, r3, r4, r5, r6, r7) := H; have A97 := ak A970; clear A970; simp only [Option.some.injEq, Prod.mk.injEq] at H
  obtain ⟨rfl, rfl, rfl, rfl, rfl, rfl, rfl⟩ := H; go_enter Try.func98, Try.ntmps98; go_upto_region 27 with (first | ((with_reducible refine gate_dst (N := 2) rfl ?_); refine bx 2 #[.bool a0_0, .bool a0_1, .bool a0_2, .bool a0_3, .bool a0_4, .int .i64 a0_5] 41 ?_; intro gb373 hg w98 hbox hb; have BK373 := ak hbox; have GW373 := gw hg HB; have GE373 := gw hg HB; replace HB := bs HB hb; clear hb hbox hg) | ((with_reducible refine gate_dst (N := 4) rfl ?_); refine bx 4 #[.bool false, .bool false, .bool false, .bool false, .bool false, .int .i64 0] 41 ?_; intro gb374 hg w99 hbox hb; have BK374 := ak hbox; have GW374 := gw hg HB; have GE374 := gw hg HB; replace HB := bs HB hb; have NB373_374 := ak ((by rw [hg]; exact Nat.ne_of_lt (blk_lt (vk BK373.out)) : gb373 ≠ gb374)); have NB374_373 := ak ((by rw [hg]; exact Nat.ne_of_gt (blk_lt (vk BK373.out)) : gb374 ≠ gb373)); replace BK373 := kb BK373 hb; clear hb hbox hg; have hnb100 := NB373_374.out; have hnc100 := NB374_373.out; have hcz101 := cz6 BK373.out) | ((with_reducible refine at_fn (f := 113) rfl ?_); refine gl (some 73) Try.func113 #[.agg #[.bool a0_0, .bool a0_1, .bool a0_2, .bool a0_3, .bool a0_4, .int .i64 a0_5]] ?_; (with_reducible refine (impl_safe.calls a0_0 a0_1 a0_2 a0_3 a0_4 a0_5 t393 t394 t395 t396 t397 t398 _ A97.out).mono ?_); rintro e w102 ⟨rfl, hb⟩; refine ⟨_, rfl, ?_⟩; replace BK373 := kb BK373 hb; replace BK374 := kb BK374 hb; replace HB := bs HB hb; (try clear hb); (try clear hb2); (try clear hk); (try clear hi); have hcz103 := cz6 BK373.out; have hcz104 := cz6 BK374.out))
  have n0_ : Aside0 ((World.setCell (World.setCell (World.setCell (World.setCell (World.setCell (World.setCell w102 ⟨gb373, 0, none⟩ (.bool t393)) ⟨gb373, 1, none⟩ (.bool t394)) ⟨gb373, 2, none⟩ (.bool t395)) ⟨gb373, 3, none⟩ (.bool t396)) ⟨gb373, 4, none⟩ (.bool t397)) ⟨gb373, 5, none⟩ (.int .i64 t398)).heap[gb373]? = some (.cells #[.bool t393, .bool t394, .bool t395, .bool t396, .bool t397, .int .i64 t398] 41 (0, 0))) := ⟨(blk_put (blk_put (blk_put (blk_put (blk_put (blk_put BK373.out 0 (.bool t393) rfl) 1 (.bool t394) rfl) 2 (.bool t395) rfl) 3 (.bool t396) rfl) 4 (.bool t397) rfl) 5 (.int .i64 t398) rfl)⟩; have n1_ : Aside0 ((World.setCell (World.setCell (World.setCell (World.setCell (World.setCell (World.setCell w102 ⟨gb373, 0, none⟩ (.bool t393)) ⟨gb373, 1, none⟩ (.bool t394)) ⟨gb373, 2, none⟩ (.bool t395)) ⟨gb373, 3, none⟩ (.bool t396)) ⟨gb373, 4, none⟩ (.bool t397)) ⟨gb373, 5, none⟩ (.int .i64 t398)).heap[gb374]? = some (.cells #[.bool false, .bool false, .bool false, .bool false, .bool false, .int .i64 0] 41 (0, 0))) := ⟨(blk_far (blk_far (blk_far (blk_far (blk_far (blk_far BK374.out NB374_373.out _) NB374_373.out _) NB374_373.out _) NB374_373.out _) NB374_373.out _) NB374_373.out _)⟩; have n2_ : Aside0 (Below w.heap.size w (World.setCell (World.setCell (World.setCell (World.setCell (World.setCell (World.setCell w102 ⟨gb373, 0, none⟩ (.bool t393)) ⟨gb373, 1, none⟩ (.bool t394)) ⟨gb373, 2, none⟩ (.bool t395)) ⟨gb373, 3, none⟩ (.bool t396)) ⟨gb373, 4, none⟩ (.bool t397)) ⟨gb373, 5, none⟩ (.int .i64 t398))) := ⟨(below_set (below_set (below_set (below_set (below_set (below_set HB.out GE373.out) GE373.out) GE373.out) GE373.out) GE373.out) GE373.out)⟩
  generalize hz_ : (World.setCell (World.setCell (World.setCell (World.setCell (World.setCell (World.setCell w102 ⟨gb373, 0, none⟩ (.bool t393)) ⟨gb373, 1, none⟩ (.bool t394)) ⟨gb373, 2, none⟩ (.bool t395)) ⟨gb373, 3, none⟩ (.bool t396)) ⟨gb373, 4, none⟩ (.bool t397)) ⟨gb373, 5, none⟩ (.int .i64 t398)) = wz at n0_ n1_ n2_ ⊢; clear hz_; clear HB BK373 BK374; have BK373 := n0_; have BK374 := n1_; have HB := n2_; clear n0_ n1_ n2_; have hczz_0 : wz.cell? ⟨gb373, 0, none⟩ = some (.bool t393) := (blk_cell BK373.out 0).trans rfl; have hfzz_0 := blk_frozen BK373.out 0; have hczz_1 : wz.cell? ⟨gb373, 1, none⟩ = some (.bool t394) := (blk_cell BK373.out 1).trans rfl; have hfzz_1 := blk_frozen BK373.out 1; have hczz_2 : wz.cell? ⟨gb373, 2, none⟩ = some (.bool t395) := (blk_cell BK373.out 2).trans rfl; have hfzz_2 := blk_frozen BK373.out 2; have hczz_3 : wz.cell? ⟨gb373, 3, none⟩ = some (.bool t396) := (blk_cell BK373.out 3).trans rfl; have hfzz_3 := blk_frozen BK373.out 3; have hczz_4 : wz.cell? ⟨gb373, 4, none⟩ = some (.bool t397) := (blk_cell BK373.out 4).trans rfl; have hfzz_4 := blk_frozen BK373.out 4; have hczz_5 : wz.cell? ⟨gb373, 5, none⟩ = some (.int .i64 t398) := (blk_cell BK373.out 5).trans rfl; have hfzz_5 := blk_frozen BK373.out 5; have hczy_0 : wz.cell? ⟨gb374, 0, none⟩ = some (.bool false) := (blk_cell BK374.out 0).trans rfl; have hfzy_0 := blk_frozen BK374.out 0; have hczy_1 : wz.cell? ⟨gb374, 1, none⟩ = some (.bool false) := (blk_cell BK374.out 1).trans rfl; have hfzy_1 := blk_frozen BK374.out 1
  have hczy_2 : wz.cell? ⟨gb374, 2, none⟩ = some (.bool false) := (blk_cell BK374.out 2).trans rfl; have hfzy_2 := blk_frozen BK374.out 2; have hczy_3 : wz.cell? ⟨gb374, 3, none⟩ = some (.bool false) := (blk_cell BK374.out 3).trans rfl; have hfzy_3 := blk_frozen BK374.out 3; have hczy_4 : wz.cell? ⟨gb374, 4, none⟩ = some (.bool false) := (blk_cell BK374.out 4).trans rfl; have hfzy_4 := blk_frozen BK374.out 4; have hczy_5 : wz.cell? ⟨gb374, 5, none⟩ = some (.int .i64 0) := (blk_cell BK374.out 5).trans rfl; have hfzy_5 := blk_frozen BK374.out 5; go_wp2
  refine bodyPost_ret (results_ct rfl _ _ gb374 41 #[.bool t393, .bool t394, .bool t395, .bool t396, .bool true, .int .i64 t398] (0, 0) _ rfl (vz BK374.out) Try.underlying41 rfl (by kernel_rfl)) rfl ?_; exact ⟨ew, vb HB.out⟩
 rw [if_neg c96] at H; obtain ⟨c96b0, c96b1⟩ := bqf c96; by_cases c105 : a1 = 7
 ·rw [if_pos c105] at H; obtain ⟨c105b0, c105b1⟩ := bqt c105; clear c105; simp only [Option.some.injEq, Prod.mk.injEq] at H
  obtain ⟨rfl, rfl, rfl, rfl, rfl, rfl, rfl⟩ := H; go_enter Try.func98, Try.ntmps98; go_wp2_with (first | ((with_reducible refine gate_dst (N := 2) rfl ?_); refine bx 2 #[.bool a0_0, .bool a0_1, .bool a0_2, .bool a0_3, .bool a0_4, .int .i64 a0_5] 41 ?_; intro gb373 hg w106 hbox hb; have BK373 := ak hbox; have GW373 := gw hg HB; have GE373 := gw hg HB; replace HB := bs HB hb; clear hb hbox hg) | ((with_reducible refine gate_dst (N := 4) rfl ?_); refine bx 4 #[.bool false, .bool false, .bool false, .bool false, .bool false, .int .i64 0] 41 ?_; intro gb374 hg w107 hbox hb; have BK374 := ak hbox; have GW374 := gw hg HB; have GE374 := gw hg HB; replace HB := bs HB hb; have NB373_374 := ak ((by rw [hg]; exact Nat.ne_of_lt (blk_lt (vk BK373.out)) : gb373 ≠ gb374)); have NB374_373 := ak ((by rw [hg]; exact Nat.ne_of_gt (blk_lt (vk BK373.out)) : gb374 ≠ gb373)); replace BK373 := kb BK373 hb; clear hb hbox hg; have hnb108 := NB373_374.out; have hnc108 := NB374_373.out; have hcz109 := cz6 BK373.out; have hcz110 := cz6 BK374.out))
  refine bodyPost_ret (results_ct rfl _ _ gb374 41 #[.bool a0_0, .bool a0_1, .bool a0_2, .bool a0_3, .bool a0_4, .int .i64 0] (0, 0) _ rfl (vz BK374.out) Try.underlying41 rfl (by kernel_rfl)) rfl ?_; exact ⟨ew, vb HB.out⟩
 rw [if_neg c105] at H; obtain ⟨c105b0, c105b1⟩ := bqf c105; by_cases c111 : a1 = 8
 rw [if_pos c111] at H; obtain ⟨c111b0, c111b1⟩ := bqt c111; clear c111; obtain ⟨ji112, hji112⟩ : ∃ j_ : Int, (mn (wrap64 (a0_5 + 1)) 4) = j_ := ⟨_, rfl⟩; replace H : (if (ji112) > 3 then ((impl_safe.f a0_0 a0_1 a0_2 a0_3 a0_4 (ji112)).bind fun bt399 => (some (bt399.1, bt399.2.1, bt399.2.2.1, bt399.2.2.2.1, bt399.2.2.2.2.1, bt399.2.2.2.2.2, 0))) else (some (a0_0, a0_1, a0_2, a0_3, a0_4, ji112, 0))) = some (r1, r2, r3, r4, r5, r6, r7) := by first | (rw [hji112] at H; exact H) | (simp only [hji112] at H ⊢; exact H)
 (try (have hji112h : ji112 ≤ 4 := by (rw [← hji112]; unfold mn; (repeat' split) <;> omega)))
 (try (have hji112g : ji112 ≤ 64 := by omega))
 have hji112_ : (if 4 < (wrap64 (a0_5 + 1)) then 4 else (wrap64 (a0_5 + 1))) = ji112 := hji112; by_cases c113 : (ji112) > 3
 ·rw [if_pos c113] at H; have c113b0 := decide_eq_true c113; clear c113; obtain ⟨⟨t399, t400, t401, t402, t403, t404⟩, A1140, H⟩ := bnd H; replace H : (some (t399, t400, t401, t402, t403, t404, 0)) = some (r1, r2, r3, r4, r5, r6, r7) := H; have A114 := ak A1140; clear A1140; simp only [Option.some.injEq, Prod.mk.injEq] at H
  obtain ⟨rfl, rfl, rfl, rfl, rfl, rfl, rfl⟩ := H; go_enter Try.func98, Try.ntmps98; go_wp2_with (first | ((with_reducible refine gate_dst (N := 2) rfl ?_); refine bx 2 #[.bool a0_0, .bool a0_1, .bool a0_2, .bool a0_3, .bool a0_4, .int .i64 a0_5] 41 ?_; intro gb373 hg w115 hbox hb; have BK373 := ak hbox; have GW373 := gw hg HB; have GE373 := gw hg HB; replace HB := bs HB hb; clear hb hbox hg) | ((with_reducible refine gate_dst (N := 4) rfl ?_); refine bx 4 #[.bool false, .bool false, .bool false, .bool false, .bool false, .int .i64 0] 41 ?_; intro gb374 hg w116 hbox hb; have BK374 := ak hbox; have GW374 := gw hg HB; have GE374 := gw hg HB; replace HB := bs HB hb; have NB373_374 := ak ((by rw [hg]; exact Nat.ne_of_lt (blk_lt (vk BK373.out)) : gb373 ≠ gb374)); have NB374_373 := ak ((by rw [hg]; exact Nat.ne_of_gt (blk_lt (vk BK373.out)) : gb374 ≠ gb373)); replace BK373 := kb BK373 hb; clear hb hbox hg; have hnb117 := NB373_374.out; have hnc117 := NB374_373.out; have hcz118 := cz6 BK373.out) | ((with_reducible refine at_fn (f := 113) rfl ?_); refine goesL_ (some 89) rfl rfl Try.func113 (by kernel_rfl) rfl #[.agg #[.bool a0_0, .bool a0_1, .bool a0_2, .bool a0_3, .bool a0_4, .int .i64 ji112]] rfl (by (try simp only [List.map_toArray, List.map_cons, List.map_nil]); first | done | (simp only [hji112]; rfl) | rfl | (simp only [List.length_drop, List.length_take]; rfl)) ?_; (with_reducible refine (impl_safe.calls a0_0 a0_1 a0_2 a0_3 a0_4 ji112 t399 t400 t401 t402 t403 t404 _ A114.out).mono ?_); rintro e w119 ⟨rfl, hb⟩; refine ⟨_, rfl, ?_⟩; replace BK373 := ak (blk_below (g := gb373) (o := .cells #[.bool a0_0, .bool a0_1, .bool a0_2, .bool a0_3, .bool a0_4, .int .i64 ji112] 41 (0, 0)) (vz BK373.out) hb); replace BK374 := kb BK374 hb; replace HB := bs HB hb; (try clear hb); (try clear hb2); (try clear hk); (try clear hi); have hcz120 := cz6 BK373.out; have hcz121 := cz6 BK374.out))
  refine bodyPost_ret (results_ct rfl _ _ gb374 41 #[.bool t399, .bool t400, .bool t401, .bool t402, .bool t403, .int .i64 t404] (0, 0) _ rfl (vz BK374.out) Try.underlying41 rfl (by kernel_rfl)) rfl ?_; exact ⟨by first | rfl | (simp [errW_none, errW_some] <;> rfl) | (simp only [← hji112]; first | rfl | (simp [errW_none, errW_some] <;> rfl)) | (simp [*, errW_none, errW_some] <;> rfl), vb HB.out⟩
 ·rw [if_neg c113] at H; have c113b0 := decide_eq_false c113; clear c113; simp only [Option.some.injEq, Prod.mk.injEq] at H
  obtain ⟨rfl, rfl, rfl, rfl, rfl, rfl, rfl⟩ := H; go_enter Try.func98, Try.ntmps98; go_wp2_with (first | ((with_reducible refine gate_dst (N := 2) rfl ?_); refine bx 2 #[.bool a0_0, .bool a0_1, .bool a0_2, .bool a0_3, .bool a0_4, .int .i64 a0_5] 41 ?_; intro gb373 hg w122 hbox hb; have BK373 := ak hbox; have GW373 := gw hg HB; have GE373 := gw hg HB; replace HB := bs HB hb; clear hb hbox hg) | ((with_reducible refine gate_dst (N := 4) rfl ?_); refine bx 4 #[.bool false, .bool false, .bool false, .bool false, .bool false, .int .i64 0] 41 ?_; intro gb374 hg w123 hbox hb; have BK374 := ak hbox; have GW374 := gw hg HB; have GE374 := gw hg HB; replace HB := bs HB hb; have NB373_374 := ak ((by rw [hg]; exact Nat.ne_of_lt (blk_lt (vk BK373.out)) : gb373 ≠ gb374)); have NB374_373 := ak ((by rw [hg]; exact Nat.ne_of_gt (blk_lt (vk BK373.out)) : gb374 ≠ gb373)); replace BK373 := kb BK373 hb; clear hb hbox hg; have hnb124 := NB373_374.out; have hnc124 := NB374_373.out; have hcz125 := cz6 BK373.out; have hcz126 := cz6 BK374.out))
  refine bodyPost_ret (results_ct rfl _ _ gb374 41 #[.bool a0_0, .bool a0_1, .bool a0_2, .bool a0_3, .bool a0_4, .int .i64 ji112] (0, 0) _ rfl (vz BK374.out) Try.underlying41 rfl (by kernel_rfl)) rfl ?_; exact ⟨by first | rfl | (simp [errW_none, errW_some] <;> rfl) | (simp only [← hji112]; first | rfl | (simp [errW_none, errW_some] <;> rfl)) | (simp [*, errW_none, errW_some] <;> rfl), vb HB.out⟩
 rw [if_neg c111] at H; obtain ⟨c111b0, c111b1⟩ := bqf c111; by_cases c127 : a1 = 9
 rw [if_pos c127] at H; obtain ⟨c127b0, c127b1⟩ := bqt c127; clear c127; by_cases c128 : a0_4 = true
 subst c128; rw [if_pos rfl] at H; by_cases c129 : a0_0 = true
 subst c129; rw [if_pos rfl] at H; simp only [Option.some.injEq, Prod.mk.injEq] at H
 obtain ⟨rfl, rfl, rfl, rfl, rfl, rfl, rfl⟩ := H; rotate_left
 replace c129 := Bool.eq_false_iff.mpr c129; subst c129; rw [if_neg nf] at H; by_cases c135 : a0_1 = true
 subst c135; rw [if_pos rfl] at H; simp only [Option.some.injEq, Prod.mk.injEq] at H
 obtain ⟨rfl, rfl, rfl, rfl, rfl, rfl, rfl⟩ := H; rotate_left
 ·replace c135 := Bool.eq_false_iff.mpr c135; subst c135; rw [if_neg nf] at H; simp only [Option.some.injEq, Prod.mk.injEq] at H
  obtain ⟨rfl, rfl, rfl, rfl, rfl, rfl, rfl⟩ := H; go_enter Try.func98, Try.ntmps98; go_wp2_with (first | ((with_reducible refine gate_dst (N := 2) rfl ?_); refine bx 2 #[.bool false, .bool false, .bool a0_2, .bool a0_3, .bool true, .int .i64 a0_5] 41 ?_; intro gb373 hg w141 hbox hb; have BK373 := ak hbox; have GW373 := gw hg HB; have GE373 := gw hg HB; replace HB := bs HB hb; clear hb hbox hg) | ((with_reducible refine gate_dst (N := 4) rfl ?_); refine bx 4 #[.bool false, .bool false, .bool false, .bool false, .bool false, .int .i64 0] 41 ?_; intro gb374 hg w142 hbox hb; have BK374 := ak hbox; have GW374 := gw hg HB; have GE374 := gw hg HB; replace HB := bs HB hb; have NB373_374 := ak ((by rw [hg]; exact Nat.ne_of_lt (blk_lt (vk BK373.out)) : gb373 ≠ gb374)); have NB374_373 := ak ((by rw [hg]; exact Nat.ne_of_gt (blk_lt (vk BK373.out)) : gb374 ≠ gb373)); replace BK373 := kb BK373 hb; clear hb hbox hg; have hnb143 := NB373_374.out; have hnc143 := NB374_373.out; have hcz144 := cz6 BK373.out; have hcz145 := cz6 BK374.out))
  refine bodyPost_ret (results_ct rfl _ _ gb374 41 #[.bool false, .bool false, .bool a0_2, .bool a0_3, .bool false, .int .i64 a0_5] (0, 0) _ rfl (vz BK374.out) Try.underlying41 rfl (by kernel_rfl)) rfl ?_; exact ⟨ew, vb HB.out⟩
 replace c128 := Bool.eq_false_iff.mpr c128; subst c128; rw [if_neg nf] at H; simp only [Option.some.injEq, Prod.mk.injEq] at H
 obtain ⟨rfl, rfl, rfl, rfl, rfl, rfl, rfl⟩ := H; rotate_left
 rw [if_neg c127] at H; obtain ⟨c127b0, c127b1⟩ := bqf c127; simp only [Option.some.injEq, Prod.mk.injEq] at H
 obtain ⟨rfl, rfl, rfl, rfl, rfl, rfl, rfl⟩ := H; rotate_left
 all_goals
  go_enter Try.func98, Try.ntmps98; go_wp2_with (first | ((with_reducible refine gate_dst (N := 2) rfl ?_); refine bx 2 #[.bool a0_0, .bool a0_1, .bool a0_2, .bool a0_3, .bool a0_4, .int .i64 a0_5] 41 ?_; intro gb373 hg w9 hbox hb; have BK373 := ak hbox; have GW373 := gw hg HB; have GE373 := gw hg HB; replace HB := bs HB hb; clear hb hbox hg) | ((with_reducible refine gate_dst (N := 2) rfl ?_); refine bx 2 #[.bool a0_0, .bool a0_1, .bool a0_2, .bool a0_3, .bool false, .int .i64 a0_5] 41 ?_; intro gb373 hg w9 hbox hb; have BK373 := ak hbox; have GW373 := gw hg HB; have GE373 := gw hg HB; replace HB := bs HB hb; clear hb hbox hg) | ((with_reducible refine gate_dst (N := 2) rfl ?_); refine bx 2 #[.bool false, .bool true, .bool a0_2, .bool a0_3, .bool true, .int .i64 a0_5] 41 ?_; intro gb373 hg w9 hbox hb; have BK373 := ak hbox; have GW373 := gw hg HB; have GE373 := gw hg HB; replace HB := bs HB hb; clear hb hbox hg) | ((with_reducible refine gate_dst (N := 2) rfl ?_); refine bx 2 #[.bool true, .bool a0_1, .bool a0_2, .bool a0_3, .bool true, .int .i64 a0_5] 41 ?_; intro gb373 hg w9 hbox hb; have BK373 := ak hbox; have GW373 := gw hg HB; have GE373 := gw hg HB; replace HB := bs HB hb; clear hb hbox hg) | ((with_reducible refine gate_dst (N := 2) rfl ?_); refine bx 2 #[.bool a0_0, .bool a0_1, .bool a0_2, .bool false, .bool a0_4, .int .i64 a0_5] 41 ?_; intro gb373 hg w9 hbox hb; have BK373 := ak hbox; have GW373 := gw hg HB; have GE373 := gw hg HB; replace HB := bs HB hb; clear hb hbox hg) | ((with_reducible refine gate_dst (N := 2) rfl ?_); refine bx 2 #[.bool a0_0, .bool a0_1, .bool false, .bool a0_3, .bool a0_4, .int .i64 a0_5] 41 ?_; intro gb373 hg w9 hbox hb; have BK373 := ak hbox; have GW373 := gw hg HB; have GE373 := gw hg HB; replace HB := bs HB hb; clear hb hbox hg) | ((with_reducible refine gate_dst (N := 2) rfl ?_); refine bx 2 #[.bool a0_0, .bool a0_1, .bool true, .bool true, .bool a0_4, .int .i64 a0_5] 41 ?_; intro gb373 hg w9 hbox hb; have BK373 := ak hbox; have GW373 := gw hg HB; have GE373 := gw hg HB; replace HB := bs HB hb; clear hb hbox hg) | ((with_reducible refine gate_dst (N := 2) rfl ?_); refine bx 2 #[.bool false, .bool a0_1, .bool a0_2, .bool a0_3, .bool a0_4, .int .i64 a0_5] 41 ?_; intro gb373 hg w9 hbox hb; have BK373 := ak hbox; have GW373 := gw hg HB; have GE373 := gw hg HB; replace HB := bs HB hb; clear hb hbox hg) | ((with_reducible refine gate_dst (N := 2) rfl ?_); refine bx 2 #[.bool true, .bool false, .bool a0_2, .bool a0_3, .bool a0_4, .int .i64 a0_5] 41 ?_; intro gb373 hg w9 hbox hb; have BK373 := ak hbox; have GW373 := gw hg HB; have GE373 := gw hg HB; replace HB := bs HB hb; clear hb hbox hg) | ((with_reducible refine gate_dst (N := 2) rfl ?_); refine bx 2 #[.bool true, .bool true, .bool a0_2, .bool a0_3, .bool true, .int .i64 a0_5] 41 ?_; intro gb373 hg w9 hbox hb; have BK373 := ak hbox; have GW373 := gw hg HB; have GE373 := gw hg HB; replace HB := bs HB hb; clear hb hbox hg) | ((with_reducible refine gate_dst (N := 4) rfl ?_); refine bx 4 #[.bool false, .bool false, .bool false, .bool false, .bool false, .int .i64 0] 41 ?_; intro gb374 hg w9 hbox hb; have BK374 := ak hbox; have GW374 := gw hg HB; have GE374 := gw hg HB; replace HB := bs HB hb; have NB373_374 := ak ((by rw [hg]; exact Nat.ne_of_lt (blk_lt (vk BK373.out)) : gb373 ≠ gb374)); have NB374_373 := ak ((by rw [hg]; exact Nat.ne_of_gt (blk_lt (vk BK373.out)) : gb374 ≠ gb373)); replace BK373 := kb BK373 hb; clear hb hbox hg; have hnb9 := NB373_374.out; have hnc9 := NB374_373.out; have hcz9 := cz6 BK373.out; have hcz9 := cz6 BK374.out; have hnb9 := NB374_373.out; have hnc9 := NB373_374.out))
  refine bodyPost_ret (results_ct rfl _ _ gb374 41 #[.bool false, .bool false, .bool false, .bool false, .bool false, .int .i64 0] (0, 0) _ rfl (vz BK374.out) Try.underlying41 rfl (by kernel_rfl)) rfl ?_; exact ⟨ew, vb HB.out⟩


/-! ### impl_desk_begin: function 73 -/
def impl_desk_begin.T1 : Bool × List (List Nat × List Nat) := (true, [([], []), ([0], [0]), ([1], [1]), ([2], [2]), ([], []), ([4], [4]), ([5], [5]), ([6], [6]), ([], []), ([8], [8]), ([9], [9]), ([10], [10]), ([7, 11], [7, 11]), ([12], [12]), ([13], [13]), ([3, 14], [3, 14]), ([15], [15]), ([16], [16]), ([16], [16]), ([], []), ([19, 17, 15, 0, 1, 2, 3, 4, 5, 6, 7, 8, 9, 10, 11, 12, 13, 14, 15, 16, 17, 19], [17, 19]), ([18, 20, 0, 1, 2, 3, 4, 5, 6, 7, 8, 9, 10, 11, 12, 13, 14, 15, 16, 17, 18, 19, 20], [18])])
def impl_desk_begin.B1 : List Nat := [0, 1, 3, 7, 0, 16, 48, 112, 0, 256, 768, 1792, 4080, 8176, 16368, 32767, 65535, 131071, 131071, 0, 786431, 2097151]
theorem impl_desk_begin.tab1 : rtab .any (opsOf Try.f73 1) = impl_desk_begin.T1 := by kernel_rfl
theorem impl_desk_begin.bits1 : waitsOk impl_desk_begin.T1.2 impl_desk_begin.B1 = true := by kernel_rfl
def impl_desk_begin.T4 : Bool × List (List Nat × List Nat) := (true, [([], []), ([], []), ([1], [1]), ([2], [2]), ([3], [3]), ([], []), ([5], [5]), ([6], [6]), ([7], [7]), ([8], [8]), ([4, 9], [4, 9]), ([0, 0, 1, 2, 3, 4, 5, 6, 7, 8, 9, 10], [0]), ([11, 0, 1, 2, 3, 4, 5, 6, 7, 8, 9, 10], [11]), ([12, 10, 10, 0, 1, 2, 3, 4, 5, 6, 7, 8, 9, 10], [10, 12])])
def impl_desk_begin.B4 : List Nat := [0, 0, 2, 6, 14, 0, 32, 96, 224, 480, 1022, 2047, 4095, 8191]
theorem impl_desk_begin.tab4 : rtab .any (opsOf Try.f73 4) = impl_desk_begin.T4 := by kernel_rfl
theorem impl_desk_begin.bits4 : waitsOk impl_desk_begin.T4.2 impl_desk_begin.B4 = true := by kernel_rfl
/-- Six cells of a block have been written: another block's cells stay. -/
theorem six_far {W : World} {s : Nat} {u0 u1 u2 u3 u4 u5 : Value} {a : Addr} {v : Value} (h : W.cell? a = some v) (hs : a.block ≠ s) :
    ((((((W.setCell ⟨s, 0, none⟩ u0).setCell ⟨s, 1, none⟩ u1).setCell ⟨s, 2, none⟩ u2).setCell ⟨s, 3, none⟩ u3).setCell ⟨s, 4, none⟩ u4).setCell ⟨s, 5, none⟩ u5).cell? a = some v := by
  rw [cell_far (p := ⟨s, 5, none⟩) hs, cell_far (p := ⟨s, 4, none⟩) hs, cell_far (p := ⟨s, 3, none⟩) hs, cell_far (p := ⟨s, 2, none⟩) hs, cell_far (p := ⟨s, 1, none⟩) hs, cell_far (p := ⟨s, 0, none⟩) hs]
  exact h
def impl_desk_begin.l0 : Nat → List S33 → Int → Int → Bool → Bool → Bool → Bool → Bool → Int → List Int → Option (Int × Bool × Bool × Bool × Bool × Bool × Int × List Int)
 | 0, _, _, _, _, _, _, _, _, _, _ => none
 | k + 1, l, x, t, b0, b1, b2, b3, b4, n, r => if x < (l.length : Int) then (if 0 ≤ x then (if (rd_T33 l x).f0 = t then ((impl_giveInput.f b0 b1 b2 b3 b4 n ((rd_T33 l x).f1)).bind fun q => (if q.2.2.2.2.2.2 = 0 then (impl_desk_begin.l0 k l (wrap64 (x + 1)) t q.1 q.2.1 q.2.2.1 q.2.2.2.1 q.2.2.2.2.1 q.2.2.2.2.2.1 r) else (if r.length < 17592186044416 then (impl_desk_begin.l0 k l (wrap64 (x + 1)) t b0 b1 b2 b3 b4 n (r ++ [x])) else (none)))) else (some (x, b0, b1, b2, b3, b4, n, r))) else (none)) else (some (x, b0, b1, b2, b3, b4, n, r))
theorem impl_desk_begin.mono_l : ∀ k, (∀ y0 y1 y2 y3 y4 y5 y6 y7 y8 y9, LeO (impl_desk_begin.l0 k y0 y1 y2 y3 y4 y5 y6 y7 y8 y9) (impl_desk_begin.l0 (k + 1) y0 y1 y2 y3 y4 y5 y6 y7 y8 y9))
 | 0 => fun _ _ _ _ _ _ _ _ _ _ r h => by simp [impl_desk_begin.l0] at h
 | k + 1 => by
  have ih0 := impl_desk_begin.mono_l k
  intro y0 y1 y2 y3 y4 y5 y6 y7 y8 y9; unfold impl_desk_begin.l0
  repeat' first | (with_reducible first | exact ih0 _ _ _ _ _ _ _ _ _ _ | exact LeO.refl _ | exact LeO.none _ | refine LeO.ite ?_ ?_ | refine LeO.bind ?_ (fun _ => ?_)) | exact ih0 _ _ _ _ _ _ _ _ _ _ | exact LeO.none _ | refine LeO.ite ?_ ?_ | refine LeO.bind ?_ (fun _ => ?_)
/-- What a desk's block holds. -/
def Dk (W : World) (g : Nat) (A0 : Option Addr) (c0 n0 : Nat) (x t : Int) (b0 b1 b2 b3 b4 : Bool) (n : Int) (v : Value) : Prop :=
  W.heap[g]? = some (.cells #[.slice A0 n0 c0, .int .i64 x, .int .i64 t, .bool b0, .bool b1, .bool b2, .bool b3, .bool b4, .int .i64 n, v] 96 (0, 0))
def OwnTo (w : World) (v v' : Value) : Prop := v'.ownBlock = v.ownBlock ∨ ∃ b, v'.ownBlock = some b ∧ w.heap.size ≤ b
theorem OwnTo.refl (w : World) (v : Value) : OwnTo w v v := .inl rfl
theorem Dk.c0 {W : World} {g : Nat} {A0 : Option Addr} {c0 n0 : Nat} {x t : Int} {b0 b1 b2 b3 b4 : Bool} {n : Int} {v : Value} (h : Dk W g A0 c0 n0 x t b0 b1 b2 b3 b4 n v) : W.cell? ⟨g, 0, none⟩ = some (.slice A0 n0 c0) := (blk_cell h 0).trans rfl
theorem Dk.c1 {W : World} {g : Nat} {A0 : Option Addr} {c0 n0 : Nat} {x t : Int} {b0 b1 b2 b3 b4 : Bool} {n : Int} {v : Value} (h : Dk W g A0 c0 n0 x t b0 b1 b2 b3 b4 n v) : W.cell? ⟨g, 1, none⟩ = some (.int .i64 x) := (blk_cell h 1).trans rfl
theorem Dk.c2 {W : World} {g : Nat} {A0 : Option Addr} {c0 n0 : Nat} {x t : Int} {b0 b1 b2 b3 b4 : Bool} {n : Int} {v : Value} (h : Dk W g A0 c0 n0 x t b0 b1 b2 b3 b4 n v) : W.cell? ⟨g, 2, none⟩ = some (.int .i64 t) := (blk_cell h 2).trans rfl
theorem Dk.c3 {W : World} {g : Nat} {A0 : Option Addr} {c0 n0 : Nat} {x t : Int} {b0 b1 b2 b3 b4 : Bool} {n : Int} {v : Value} (h : Dk W g A0 c0 n0 x t b0 b1 b2 b3 b4 n v) : W.cell? ⟨g, 3, none⟩ = some (.bool b0) := (blk_cell h 3).trans rfl
theorem Dk.c4 {W : World} {g : Nat} {A0 : Option Addr} {c0 n0 : Nat} {x t : Int} {b0 b1 b2 b3 b4 : Bool} {n : Int} {v : Value} (h : Dk W g A0 c0 n0 x t b0 b1 b2 b3 b4 n v) : W.cell? ⟨g, 4, none⟩ = some (.bool b1) := (blk_cell h 4).trans rfl
theorem Dk.c5 {W : World} {g : Nat} {A0 : Option Addr} {c0 n0 : Nat} {x t : Int} {b0 b1 b2 b3 b4 : Bool} {n : Int} {v : Value} (h : Dk W g A0 c0 n0 x t b0 b1 b2 b3 b4 n v) : W.cell? ⟨g, 5, none⟩ = some (.bool b2) := (blk_cell h 5).trans rfl
theorem Dk.c6 {W : World} {g : Nat} {A0 : Option Addr} {c0 n0 : Nat} {x t : Int} {b0 b1 b2 b3 b4 : Bool} {n : Int} {v : Value} (h : Dk W g A0 c0 n0 x t b0 b1 b2 b3 b4 n v) : W.cell? ⟨g, 6, none⟩ = some (.bool b3) := (blk_cell h 6).trans rfl
theorem Dk.c7 {W : World} {g : Nat} {A0 : Option Addr} {c0 n0 : Nat} {x t : Int} {b0 b1 b2 b3 b4 : Bool} {n : Int} {v : Value} (h : Dk W g A0 c0 n0 x t b0 b1 b2 b3 b4 n v) : W.cell? ⟨g, 7, none⟩ = some (.bool b4) := (blk_cell h 7).trans rfl
theorem Dk.c8 {W : World} {g : Nat} {A0 : Option Addr} {c0 n0 : Nat} {x t : Int} {b0 b1 b2 b3 b4 : Bool} {n : Int} {v : Value} (h : Dk W g A0 c0 n0 x t b0 b1 b2 b3 b4 n v) : W.cell? ⟨g, 8, none⟩ = some (.int .i64 n) := (blk_cell h 8).trans rfl
theorem Dk.c9 {W : World} {g : Nat} {A0 : Option Addr} {c0 n0 : Nat} {x t : Int} {b0 b1 b2 b3 b4 : Bool} {n : Int} {v : Value} (h : Dk W g A0 c0 n0 x t b0 b1 b2 b3 b4 n v) : W.cell? ⟨g, 9, none⟩ = some (v) := (blk_cell h 9).trans rfl
def DeskPost (g : Nat) (A0 : Option Addr) (c0 n0 : Nat) (x t : Int) (b0 b1 b2 b3 b4 : Bool) (n : Int) (r : List Int) (base : Nat) (ok : Nat → Prop) (v : Value) (w0 w : World) (e : Ending) (w' : World) : Prop :=
  e = .returned (.tuple #[]) ∧ ∃ v' : Value, Dk w' g A0 c0 n0 x t b0 b1 b2 b3 b4 n v' ∧ Kd.R (Kd.int .i64) 2 w' base ok v' r ∧ OwnTo w v v' ∧ KeepBut w w' g v.ownBlock ∧ Below w0.heap.size w0 w'
set_option maxHeartbeats 8000000 in
set_option maxRecDepth 100000 in
theorem impl_desk_begin.calls (k : Nat) (g : Nat) (A0 : Option Addr) (c0 : Nat) (l0 : List (S33)) (x t : Int) (b0 b1 b2 b3 b4 : Bool) (n : Int) (v : Value) (r : List Int) (x' : Int) (d0 d1 d2 d3 d4 : Bool) (n' : Int) (r' : List Int) (base : Nat) (ok : Nat → Prop) (w0 w : World)
   (hI : Dk w g A0 c0 l0.length x t b0 b1 b2 b3 b4 n v) (hg : w0.heap.size ≤ g) (hO : Kd.R (Kd.int .i64) 2 w base ok v r) (hok : ∀ k, w.heap.size ≤ k → ok k) (hbase : w0.heap.size ≤ base) (hbw : base ≤ w.heap.size) (hB : Below w0.heap.size w0 w) (hr0 : Kd.C k33 w0 A0 l0.length l0) (hc0 : l0.length ≤ c0)
   (h : impl_desk_begin.l0 k l0 x t b0 b1 b2 b3 b4 n r = some (x', d0, d1, d2, d3, d4, n', r')) :
  Calls Try.prog 73 #[.pointer (some ⟨g, 0, none⟩)] w (DeskPost g A0 c0 l0.length x' t d0 d1 d2 d3 d4 n' r' base ok v w0 w) := by
 have hu41 := Try.underlying41; have BK := ak hI; have HO := ak hO; have HK := ak (KeepBut.refl w g v.ownBlock); have HV := ak ((OwnTo.refl w v)); have HB := ak hB; have HR0 := ak hr0; have HC0 := ak hc0; have HG := ak hg; have HF := ak hok; have HBS := ak hbase; have HBW := ak hbw; clear hI hO hB hr0 hc0 hg hok hbase hbw
 have H' := ak h; clear h
 go_enter Try.func73, Try.ntmps73; go_wp2
 go_loopg [] k (fun kq w' => ∃ (x_1 : Int) (b0_1 b1_1 b2_1 b3_1 b4_1 : Bool) (n_1 : Int) (v_1 : Value) (r_1 : List Int), Aside0 (impl_desk_begin.l0 kq l0 x_1 t b0_1 b1_1 b2_1 b3_1 b4_1 n_1 r_1 = some (x', d0, d1, d2, d3, d4, n', r')) ∧ Aside0 (kq ≤ k) ∧ Aside0 (Dk w' g A0 c0 l0.length x_1 t b0_1 b1_1 b2_1 b3_1 b4_1 n_1 v_1) ∧ Aside0 (Kd.R (Kd.int .i64) 2 w' base ok v_1 r_1) ∧ Aside0 (OwnTo w v v_1) ∧ Aside0 (KeepBut w w' g v.ownBlock) ∧ Aside0 (Below w0.heap.size w0 w'))
 case atStart => exact ⟨x, b0, b1, b2, b3, b4, n, v, r, H', ⟨Nat.le_refl _⟩, BK, HO, HV, HK, HB⟩
 case round =>
  clear H' BK HO HV HK HB; obtain ⟨x_1, b0_1, b1_1, b2_1, b3_1, b4_1, n_1, v_1, r_1, HA, HK1, BK, HO, HV, HK, HB⟩ := hrel
  cases gk with
  | zero => exact absurd HA.out (by simp [impl_desk_begin.l0])
  | succ k1 =>
   have H := HA.out; clear HA; simp only [impl_desk_begin.l0] at H
   by_cases c1 : x_1 < (l0.length : Int)
   · rw [if_pos c1] at H
     by_cases c2 : 0 ≤ x_1
     · rw [if_pos c2] at H
       obtain ⟨ad1, e1, hx1_0, hx1_1⟩ := at_T33 HR0.out x_1 c2 c1
       cases e1
       have hw1_0 := hx1_0; have hw1_1 := hx1_1
       replace hx1_0 := cb HB.out hx1_0; replace hx1_1 := cb HB.out hx1_1
       have c1b := decide_eq_true c1; have c2b := decide_eq_true c2
       have z0 := BK.out.c0; have z1 := BK.out.c1; have z2 := BK.out.c2
       by_cases c3 : (rd_T33 l0 x_1).f0 = t
       · rw [if_pos c3] at H
         have c3b : ((rd_T33 l0 x_1).f0 == t) = true := by simp [c3]
         have c3k := ak c3; clear c3; have p1 := eq_true c2; have q1 := eq_true c1; clear c1 c2
         have H' := ak H; clear H
         go_wp2
         go_quiet (fail)
         go_wp2
         obtain ⟨⟨t0, t1, t2, t3, t4, t5, y⟩, A10, H⟩ := bnd H'.out; replace H : (if y = 0 then (impl_desk_begin.l0 k1 l0 (wrap64 (x_1 + 1)) t t0 t1 t2 t3 t4 t5 r_1) else (if r_1.length < 17592186044416 then (impl_desk_begin.l0 k1 l0 (wrap64 (x_1 + 1)) t b0_1 b1_1 b2_1 b3_1 b4_1 n_1 (r_1 ++ [x_1])) else (none))) = some (x', d0, d1, d2, d3, d4, n', r') := H; have A1 := ak A10; clear A10 H'; have HH := ak H; clear H
         have hBK : Aside0 (Dk (wr.drewN nq).drew g (some ad1) c0 l0.length x_1 t b0_1 b1_1 b2_1 b3_1 b4_1 n_1 v_1) := ⟨BK.out⟩; have hHO := ak (Kd.R_drew (Kd.R_drewN HO.out nq)); have hHK := ak (keep_drew (keep_drewN HK.out nq)); have hHB := ak (below_drew1 (pw_below_drewN HB.out nq))
         have hB1 := ak (below_drew1 (pw_below_drewN (Below.refl wr.heap.size wr) nq)); clear z0 z1 z2 hx1_0 hx1_1 c3b
         refine start_ (n := 22) (S := fun w' => w'.cell? ⟨g, 0, none⟩ = some (.slice (some ad1) l0.length c0) ∧ w'.cell? ⟨g, 1, none⟩ = some (.int .i64 x_1) ∧ w'.cell? ⟨g, 3, none⟩ = some (.bool b0_1) ∧ w'.cell? ⟨g, 4, none⟩ = some (.bool b1_1) ∧ w'.cell? ⟨g, 5, none⟩ = some (.bool b2_1) ∧ w'.cell? ⟨g, 6, none⟩ = some (.bool b3_1) ∧ w'.cell? ⟨g, 7, none⟩ = some (.bool b4_1) ∧ w'.cell? ⟨g, 8, none⟩ = some (.int .i64 n_1) ∧ w'.cell? ⟨(ad1.add ((x_1).toNat * 2)).block, (ad1.add ((x_1).toNat * 2)).off + 1, none⟩ = some (.int .i64 ((rd_T33 l0 x_1).f1))) (ds := []) (tf 0 22) (by kernel_rfl) rfl rfl ⟨hBK.out.c0, hBK.out.c1, hBK.out.c3, hBK.out.c4, hBK.out.c5, hBK.out.c6, hBK.out.c7, hBK.out.c8, cb hHB.out hw1_1⟩ (fun hHeld => ?_); refine with_tabW impl_desk_begin.tab1 impl_desk_begin.bits1 (fun HT_ HW_ => ?_)
         generalize (wr.drewN nq).drew = w2 at hBK hHO hHK hHB hB1 hHeld ⊢
         refine pu_ 0 33 #[true, false, false, false, false, false, false, false, false, false, false, false, false, false, false, false, false, false, false, false, false, false] rfl rfl ?_
         refine pu_ 1 34 #[true, true, false, false, false, false, false, false, false, false, false, false, false, false, false, false, false, false, false, false, false, false] rfl rfl ?_
         refine pu_ 2 35 #[true, true, true, false, false, false, false, false, false, false, false, false, false, false, false, false, false, false, false, false, false, false] rfl rfl ?_
         refine pu_ 4 37 #[true, true, true, false, true, false, false, false, false, false, false, false, false, false, false, false, false, false, false, false, false, false] rfl rfl ?_
         refine pu_ 5 38 #[true, true, true, false, true, true, false, false, false, false, false, false, false, false, false, false, false, false, false, false, false, false] rfl rfl ?_
         refine pu_ 6 39 #[true, true, true, false, true, true, true, false, false, false, false, false, false, false, false, false, false, false, false, false, false, false] rfl rfl ?_
         refine pu_ 8 41 #[true, true, true, false, true, true, true, false, true, false, false, false, false, false, false, false, false, false, false, false, false, false] rfl rfl ?_
         refine pu_ 9 42 #[true, true, true, false, true, true, true, false, true, true, false, false, false, false, false, false, false, false, false, false, false, false] rfl rfl ?_
         refine pu_ 10 43 #[true, true, true, false, true, true, true, false, true, true, true, false, false, false, false, false, false, false, false, false, false, false] rfl rfl ?_
         refine ta9_ 3 36 #[true, true, true, true, true, true, true, false, true, true, true, false, false, false, false, false, false, false, false, false, false, false] rfl rfl ?_
         refine ta9_ 7 40 #[true, true, true, true, true, true, true, true, true, true, true, false, false, false, false, false, false, false, false, false, false, false] rfl rfl ?_
         refine ta9_ 11 44 #[true, true, true, true, true, true, true, true, true, true, true, true, false, false, false, false, false, false, false, false, false, false] rfl rfl ?_
         refine pu_ 12 45 #[true, true, true, true, true, true, true, true, true, true, true, true, true, false, false, false, false, false, false, false, false, false] rfl rfl ?_
         refine pu_ 13 46 #[true, true, true, true, true, true, true, true, true, true, true, true, true, true, false, false, false, false, false, false, false, false] rfl rfl ?_
         refine ta9_ 14 47 #[true, true, true, true, true, true, true, true, true, true, true, true, true, true, true, false, false, false, false, false, false, false] rfl rfl ?_
         refine join_ (σ := Nat) 2 (tf 20 2) (fun s_ => [(48, (.tuple #[.agg #[.bool t0, .bool t1, .bool t2, .bool t3, .bool t4, .int .i64 t5], .int .i64 y])), (2, .pointer (some ⟨s_, 0, none⟩)), (32, (.tuple #[.agg #[.bool t0, .bool t1, .bool t2, .bool t3, .bool t4, .int .i64 t5], .int .i64 y])), (49, (.agg #[.bool t0, .bool t1, .bool t2, .bool t3, .bool t4, .int .i64 t5])), (50, .int .i64 y)]) (fun s_ w' => (w'.cell? ⟨g, 0, none⟩ = some (.slice (some ad1) l0.length c0) ∧ w'.cell? ⟨g, 1, none⟩ = some (.int .i64 x_1) ∧ w'.cell? ⟨g, 3, none⟩ = some (.bool b0_1) ∧ w'.cell? ⟨g, 4, none⟩ = some (.bool b1_1) ∧ w'.cell? ⟨g, 5, none⟩ = some (.bool b2_1) ∧ w'.cell? ⟨g, 6, none⟩ = some (.bool b3_1) ∧ w'.cell? ⟨g, 7, none⟩ = some (.bool b4_1) ∧ w'.cell? ⟨g, 8, none⟩ = some (.int .i64 n_1) ∧ w'.cell? ⟨(ad1.add ((x_1).toNat * 2)).block, (ad1.add ((x_1).toNat * 2)).off + 1, none⟩ = some (.int .i64 ((rd_T33 l0 x_1).f1))) ∧ (w'.heap[s_]? = some (.cells #[.bool false, .bool false, .bool false, .bool false, .bool false, .int .i64 0] 41 (0, 0))) ∧ (w2.heap.size ≤ s_) ∧ (Below w2.heap.size w2 w')) ?_ ?_
         rotate_left
         · intro hCont; refine two_ (i := 15) (j := 19) (Ni := some 48) (Nj := some 2) #[true, true, true, true, true, true, true, true, true, true, true, true, true, true, true, true, false, false, false, false, false, false] #[true, true, true, true, true, true, true, true, true, true, true, true, true, true, true, false, false, false, false, true, false, false] rfl rfl rfl rfl (two_of HT_.out (by kernel_rfl)) (by decide) (by decide) (fun K hK => ?_) (fun K hK => ?_)
           · refine goes_ Try.func98 (by kernel_rfl) rfl #[.agg #[.bool b0_1, .bool b1_1, .bool b2_1, .bool b3_1, .bool b4_1, .int .i64 n_1], .int .i64 ((rd_T33 l0 x_1).f1)] (by rfl) rfl rfl (by (try simp only [List.map_toArray, List.map_cons, List.map_nil]); first | done | rfl) ?_; with_reducible refine (impl_giveInput.calls b0_1 b1_1 b2_1 b3_1 b4_1 n_1 ((rd_T33 l0 x_1).f1) t0 t1 t2 t3 t4 t5 y _ A1.out).mono ?_
             rintro e w3 ⟨rfl, hb⟩; refine ⟨_, rfl, ?_⟩; have hB2 := ak hb; obtain ⟨s0, s1, s2, s3, s4, s5, s6, s7, s8⟩ := hHeld; refine hK.out _ _ ⟨pw_cell_below hb s0, pw_cell_below hb s1, pw_cell_below hb s2, pw_cell_below hb s3, pw_cell_below hb s4, pw_cell_below hb s5, pw_cell_below hb s6, pw_cell_below hb s7, pw_cell_below hb s8⟩ (fun hHeld => ?_); clear hb s0 s1 s2 s3 s4 s5 s6 s7 s8
             clear hK K; refine norm_ (a' := ?_) ?_ ?_
             rotate_left
             · show Act.put _ (some 48) _ = _
               simp only [Act.put, List.setIfInBounds_toArray, List.set_cons_zero, List.set_cons_succ, i64_w, i32_w]
               rfl
             refine pu_ 16 32 #[true, true, true, true, true, true, true, true, true, true, true, true, true, true, true, true, true, false, false, false, false, false] rfl rfl ?_
             refine pu_ 17 49 #[true, true, true, true, true, true, true, true, true, true, true, true, true, true, true, true, true, true, false, false, false, false] rfl rfl ?_
             refine pu_ 18 50 #[true, true, true, true, true, true, true, true, true, true, true, true, true, true, true, true, true, true, true, false, false, false] rfl rfl ?_
             refine one_ (i := 19) (N := some 2) #[true, true, true, true, true, true, true, true, true, true, true, true, true, true, true, true, true, true, true, true, false, false] rfl rfl (one_of HT_.out (by kernel_rfl)) (by decide) (fun K hK => ?_); refine box_step ?hg (N := 2) ?hd (cs := #[.bool false, .bool false, .bool false, .bool false, .bool false, .int .i64 0]) (t := 41) ?hr ?_; (case hd => rfl); (case hg => rfl); (case hr => first | (go_simp; done) | (go_simp; rfl))
             intro gb hg w4 hbox hb; have hB3 := ak (below_step hB2.out hb); have hG := ak ((by rw [hg]; exact hB2.out.size : w2.heap.size ≤ gb)); obtain ⟨s0, s1, s2, s3, s4, s5, s6, s7, s8⟩ := hHeld; refine hK.out _ _ ⟨pw_cell_below hb s0, pw_cell_below hb s1, pw_cell_below hb s2, pw_cell_below hb s3, pw_cell_below hb s4, pw_cell_below hb s5, pw_cell_below hb s6, pw_cell_below hb s7, pw_cell_below hb s8⟩ (fun hHeld => ?_); clear hb s0 s1 s2 s3 s4 s5 s6 s7 s8 hg
             clear hK K; refine norm_ (a' := ?_) ?_ ?_
             rotate_left
             · show Act.put _ (some 2) _ = _
               simp only [Act.put, List.setIfInBounds_toArray, List.set_cons_zero, List.set_cons_succ, i64_w, i32_w]
               rfl
             exact norm_ (by simp only [putAll, Act.put, List.setIfInBounds_toArray, List.set_cons_zero, List.set_cons_succ]) (hCont gb _ ⟨hHeld, hbox, hG.out, hB3.out⟩)
           · refine box_step ?hg (N := 2) ?hd (cs := #[.bool false, .bool false, .bool false, .bool false, .bool false, .int .i64 0]) (t := 41) ?hr ?_; (case hd => rfl); (case hg => rfl); (case hr => first | (go_simp; done) | (go_simp; rfl))
             intro gb hg w3 hbox hb; have hB2 := ak hb; have hG := ak ((by rw [hg]; exact Nat.le_refl _ : w2.heap.size ≤ gb)); obtain ⟨s0, s1, s2, s3, s4, s5, s6, s7, s8⟩ := hHeld; refine hK.out _ _ ⟨pw_cell_below hb s0, pw_cell_below hb s1, pw_cell_below hb s2, pw_cell_below hb s3, pw_cell_below hb s4, pw_cell_below hb s5, pw_cell_below hb s6, pw_cell_below hb s7, pw_cell_below hb s8⟩ (fun hHeld => ?_); clear hb s0 s1 s2 s3 s4 s5 s6 s7 s8 hg
             clear hK K; refine norm_ (a' := ?_) ?_ ?_
             rotate_left
             · show Act.put _ (some 2) _ = _
               simp only [Act.put, List.setIfInBounds_toArray, List.set_cons_zero, List.set_cons_succ, i64_w, i32_w]
               rfl
             refine one_ (i := 15) (N := some 48) #[true, true, true, true, true, true, true, true, true, true, true, true, true, true, true, true, false, false, false, true, false, false] rfl rfl (one_of HT_.out (by kernel_rfl)) (by decide) (fun K hK => ?_)
             refine goes_ Try.func98 (by kernel_rfl) rfl #[.agg #[.bool b0_1, .bool b1_1, .bool b2_1, .bool b3_1, .bool b4_1, .int .i64 n_1], .int .i64 ((rd_T33 l0 x_1).f1)] (by rfl) rfl rfl (by (try simp only [List.map_toArray, List.map_cons, List.map_nil]); first | done | rfl) ?_; with_reducible refine (impl_giveInput.calls b0_1 b1_1 b2_1 b3_1 b4_1 n_1 ((rd_T33 l0 x_1).f1) t0 t1 t2 t3 t4 t5 y _ A1.out).mono ?_
             rintro e w4 ⟨rfl, hb⟩; refine ⟨_, rfl, ?_⟩; have hB3 := ak (below_step hB2.out hb); replace hbox := blk_below hbox hb; obtain ⟨s0, s1, s2, s3, s4, s5, s6, s7, s8⟩ := hHeld; refine hK.out _ _ ⟨pw_cell_below hb s0, pw_cell_below hb s1, pw_cell_below hb s2, pw_cell_below hb s3, pw_cell_below hb s4, pw_cell_below hb s5, pw_cell_below hb s6, pw_cell_below hb s7, pw_cell_below hb s8⟩ (fun hHeld => ?_); clear hb s0 s1 s2 s3 s4 s5 s6 s7 s8
             clear hK K; refine norm_ (a' := ?_) ?_ ?_
             rotate_left
             · show Act.put _ (some 48) _ = _
               simp only [Act.put, List.setIfInBounds_toArray, List.set_cons_zero, List.set_cons_succ, i64_w, i32_w]
               rfl
             refine pu_ 16 32 #[true, true, true, true, true, true, true, true, true, true, true, true, true, true, true, true, true, false, false, true, false, false] rfl rfl ?_
             refine pu_ 17 49 #[true, true, true, true, true, true, true, true, true, true, true, true, true, true, true, true, true, true, false, true, false, false] rfl rfl ?_
             refine pu_ 18 50 #[true, true, true, true, true, true, true, true, true, true, true, true, true, true, true, true, true, true, true, true, false, false] rfl rfl ?_
             exact norm_ (by simp only [putAll, Act.put, List.setIfInBounds_toArray, List.set_cons_zero, List.set_cons_succ]) (hCont gb _ ⟨hHeld, hbox, hG.out, hB3.out⟩)
         rintro gb w3 ⟨hHeld, hbox, hG, hB3⟩
         refine norm_ (a' := ?_) ?_ ?_
         rotate_left
         · simp only [putAll, Act.put, List.setIfInBounds_toArray, List.set_cons_zero, List.set_cons_succ]
           rfl
         refine one_ (i := 20) (N := none) (tf 21 1) rfl rfl (one_of HT_.out (by kernel_rfl)) (by decide) (fun K hK => ?_)
         have hBX := ak hbox; have hGG := ak hG; have hB4 := ak hB3; have hgs := ak ((Nat.ne_of_lt (Nat.lt_of_lt_of_le (blk_lt hBK.out) hG) : g ≠ gb)); have hls := ak ((Nat.ne_of_lt (Nat.lt_of_lt_of_le (World.block_lt_of_cell? w2 ⟨(ad1.add ((x_1).toNat * 2)).block, (ad1.add ((x_1).toNat * 2)).off + 1, none⟩ (cb hHB.out hw1_1)) hG) : (ad1.add ((x_1).toNat * 2)).block ≠ gb)); clear hbox hG hB3
         have hs0 : w3.cell? ⟨gb, 0, none⟩ = some (.bool false) := (blk_cell hBX.out 0).trans rfl; have hf0 := blk_frozen hBX.out 0
         have hs1 : w3.cell? ⟨gb, 1, none⟩ = some (.bool false) := (blk_cell hBX.out 1).trans rfl; have hf1 := blk_frozen hBX.out 1
         have hs2 : w3.cell? ⟨gb, 2, none⟩ = some (.bool false) := (blk_cell hBX.out 2).trans rfl; have hf2 := blk_frozen hBX.out 2
         have hs3 : w3.cell? ⟨gb, 3, none⟩ = some (.bool false) := (blk_cell hBX.out 3).trans rfl; have hf3 := blk_frozen hBX.out 3
         have hs4 : w3.cell? ⟨gb, 4, none⟩ = some (.bool false) := (blk_cell hBX.out 4).trans rfl; have hf4 := blk_frozen hBX.out 4
         have hs5 : w3.cell? ⟨gb, 5, none⟩ = some (.int .i64 0) := (blk_cell hBX.out 5).trans rfl; have hf5 := blk_frozen hBX.out 5
         refine skip_ (w1 := ?_) (by rfl) rfl ?_ ?_
         rotate_left
         · go_simp
           rfl
         clear hs0 hs1 hs2 hs3 hs4 hs5 hf0 hf1 hf2 hf3 hf4 hf5
         obtain ⟨s0, s1, s2, s3, s4, s5, s6, s7, s8⟩ := hHeld; refine hK.out _ _ ⟨six_far s0 hgs.out, six_far s1 hgs.out, six_far s2 hgs.out, six_far s3 hgs.out, six_far s4 hgs.out, six_far s5 hgs.out, six_far s6 hgs.out, six_far s7 hgs.out, six_far s8 hls.out⟩ (fun hHeld => ?_); clear s0 s1 s2 s3 s4 s5 s6 s7 s8 hHeld
         clear hK K; refine pu_ 21 3 (tf 22 0) rfl rfl ?_; refine done_ (done_of HT_.out (by kernel_rfl)) ?_; clear HT_ HW_
         have hc0 : Aside0 (Below w2.heap.size w2 ((((((w3.setCell ⟨gb, 0, none⟩ (.bool t0)).setCell ⟨gb, 1, none⟩ (.bool t1)).setCell ⟨gb, 2, none⟩ (.bool t2)).setCell ⟨gb, 3, none⟩ (.bool t3)).setCell ⟨gb, 4, none⟩ (.bool t4)).setCell ⟨gb, 5, none⟩ (.int .i64 t5))) := ⟨(below_set (below_set (below_set (below_set (below_set (below_set hB4.out hGG.out) hGG.out) hGG.out) hGG.out) hGG.out) hGG.out)⟩
         have hc1 : Aside0 (((((((w3.setCell ⟨gb, 0, none⟩ (.bool t0)).setCell ⟨gb, 1, none⟩ (.bool t1)).setCell ⟨gb, 2, none⟩ (.bool t2)).setCell ⟨gb, 3, none⟩ (.bool t3)).setCell ⟨gb, 4, none⟩ (.bool t4)).setCell ⟨gb, 5, none⟩ (.int .i64 t5)).heap[gb]? = some (.cells #[.bool t0, .bool t1, .bool t2, .bool t3, .bool t4, .int .i64 t5] 41 (0, 0))) := ⟨(blk_put (blk_put (blk_put (blk_put (blk_put (blk_put hBX.out 0 (.bool t0) rfl) 1 (.bool t1) rfl) 2 (.bool t2) rfl) 3 (.bool t3) rfl) 4 (.bool t4) rfl) 5 (.int .i64 t5) rfl)⟩
         generalize ((((((w3.setCell ⟨gb, 0, none⟩ (.bool t0)).setCell ⟨gb, 1, none⟩ (.bool t1)).setCell ⟨gb, 2, none⟩ (.bool t2)).setCell ⟨gb, 3, none⟩ (.bool t3)).setCell ⟨gb, 4, none⟩ (.bool t4)).setCell ⟨gb, 5, none⟩ (.int .i64 t5)) = w4 at hc0 hc1 ⊢
         clear hB4 hBX
         replace hB1 := ak (below_step hB1.out hc0.out); replace HB := ak (below_step hHB.out hc0.out); replace BK : Aside0 (Dk w4 g (some ad1) c0 l0.length x_1 t b0_1 b1_1 b2_1 b3_1 b4_1 n_1 v_1) := ⟨blk_below hBK.out hc0.out⟩; replace HO := ak (Kd.R_below hHO.out hc0.out); replace HK := ak (KeepBut.trans hHK.out (KeepBut.of_below hc0.out g v.ownBlock) (.inl rfl)); clear hBK hHO hHK hHB hc0 hls hw1_0 hw1_1
         have HN := ak (Ne.symm hgs.out)
         by_cases cy : y = 0
         · subst cy; have H' := HH.out; rw [if_pos rfl] at H'; have H2 := ak H'; clear H' HH
           have hs0 : w4.cell? ⟨gb, 0, none⟩ = some (.bool t0) := (blk_cell hc1.out 0).trans rfl
           have hs1 : w4.cell? ⟨gb, 1, none⟩ = some (.bool t1) := (blk_cell hc1.out 1).trans rfl
           have hs2 : w4.cell? ⟨gb, 2, none⟩ = some (.bool t2) := (blk_cell hc1.out 2).trans rfl
           have hs3 : w4.cell? ⟨gb, 3, none⟩ = some (.bool t3) := (blk_cell hc1.out 3).trans rfl
           have hs4 : w4.cell? ⟨gb, 4, none⟩ = some (.bool t4) := (blk_cell hc1.out 4).trans rfl
           have hs5 : w4.cell? ⟨gb, 5, none⟩ = some (.int .i64 t5) := (blk_cell hc1.out 5).trans rfl
           have z1 := BK.out.c1; have hf1 := blk_frozen (show w4.heap[g]? = _ from BK.out) 1
           have z2 := BK.out.c2; have hf2 := blk_frozen (show w4.heap[g]? = _ from BK.out) 2
           have z3 := BK.out.c3; have hf3 := blk_frozen (show w4.heap[g]? = _ from BK.out) 3
           have z4 := BK.out.c4; have hf4 := blk_frozen (show w4.heap[g]? = _ from BK.out) 4
           have z5 := BK.out.c5; have hf5 := blk_frozen (show w4.heap[g]? = _ from BK.out) 5
           have z6 := BK.out.c6; have hf6 := blk_frozen (show w4.heap[g]? = _ from BK.out) 6
           have z7 := BK.out.c7; have hf7 := blk_frozen (show w4.heap[g]? = _ from BK.out) 7
           have z8 := BK.out.c8; have hf8 := blk_frozen (show w4.heap[g]? = _ from BK.out) 8
           have hn1 := hgs.out; have hn2 := HN.out
           go_wp2
           have hk7 : KeepBut w4 (((((((w4.setCell ⟨g, 3, none⟩ (.bool t0)).setCell ⟨g, 4, none⟩ (.bool t1)).setCell ⟨g, 5, none⟩ (.bool t2)).setCell ⟨g, 6, none⟩ (.bool t3)).setCell ⟨g, 7, none⟩ (.bool t4)).setCell ⟨g, 8, none⟩ (.int .i64 t5)).setCell ⟨g, 1, none⟩ (.int .i64 (wrap64 (x_1 + 1)))) g none := (KeepBut.set_ (KeepBut.set_ (KeepBut.set_ (KeepBut.set_ (KeepBut.set_ (KeepBut.set_ (KeepBut.set_ (KeepBut.refl w4 g none) 3 _) 4 _) 5 _) 6 _) 7 _) 8 _) 1 _)
           have hk8 : KeepBut w (((((((w4.setCell ⟨g, 3, none⟩ (.bool t0)).setCell ⟨g, 4, none⟩ (.bool t1)).setCell ⟨g, 5, none⟩ (.bool t2)).setCell ⟨g, 6, none⟩ (.bool t3)).setCell ⟨g, 7, none⟩ (.bool t4)).setCell ⟨g, 8, none⟩ (.int .i64 t5)).setCell ⟨g, 1, none⟩ (.int .i64 (wrap64 (x_1 + 1)))) g v.ownBlock := (KeepBut.set_ (KeepBut.set_ (KeepBut.set_ (KeepBut.set_ (KeepBut.set_ (KeepBut.set_ (KeepBut.set_ HK.out 3 _) 4 _) 5 _) 6 _) 7 _) 8 _) 1 _)
           have hk9 : Below w0.heap.size w0 (((((((w4.setCell ⟨g, 3, none⟩ (.bool t0)).setCell ⟨g, 4, none⟩ (.bool t1)).setCell ⟨g, 5, none⟩ (.bool t2)).setCell ⟨g, 6, none⟩ (.bool t3)).setCell ⟨g, 7, none⟩ (.bool t4)).setCell ⟨g, 8, none⟩ (.int .i64 t5)).setCell ⟨g, 1, none⟩ (.int .i64 (wrap64 (x_1 + 1)))) := (below_set (below_set (below_set (below_set (below_set (below_set (below_set HB.out HG.out) HG.out) HG.out) HG.out) HG.out) HG.out) HG.out)
           go_roundg k1
           case measure => have := HK1.out; omega
           case rel => exact ⟨wrap64 (x_1 + 1), t0, t1, t2, t3, t4, t5, v_1, r_1, H2, ⟨by have := HK1.out; omega⟩, ⟨(blk_put (blk_put (blk_put (blk_put (blk_put (blk_put (blk_put BK.out 3 (.bool t0) rfl) 4 (.bool t1) rfl) 5 (.bool t2) rfl) 6 (.bool t3) rfl) 7 (.bool t4) rfl) 8 (.int .i64 t5) rfl) 1 (.int .i64 (wrap64 (x_1 + 1))) rfl)⟩, ⟨Kd.R_mono (Kd.R_keep (Kd.R_types HO.out BK.out (by decide)) hk7 (fun _ h => h.2)) (fun _ h => h.1)⟩, HV, ⟨hk8⟩, ⟨hk9⟩⟩
         · have H' := HH.out; rw [if_neg cy] at H'; by_cases cl : r_1.length < 17592186044416
           · rw [if_pos cl] at H'; have H2 := ak H'; have LM := ak cl; clear H' HH cl
             have cyb : ((y : Int) == 0) = false := by simp [cy]
             clear cy hc1 HN hgs hGG
             go_wp2
             have hBK : Aside0 (Dk w4.drew g (some ad1) c0 l0.length x_1 t b0_1 b1_1 b2_1 b3_1 b4_1 n_1 v_1) := ⟨BK.out⟩; have hHO := ak (Kd.R_drew HO.out); have hHK := ak (keep_drew HK.out); have hHB := ak (below_drew1 HB.out); clear BK HO HK HB
             refine start_ (n := 14) (S := fun w' => w'.cell? ⟨g, 9, none⟩ = some v_1 ∧ w'.cell? ⟨g, 1, none⟩ = some (.int .i64 x_1)) (ds := [10, 13]) (tf 0 14) (by kernel_rfl) rfl rfl ⟨hBK.out.c9, hBK.out.c1⟩ (fun hHeld => ?_); refine with_tabW impl_desk_begin.tab4 impl_desk_begin.bits4 (fun HT_ HW_ => ?_)
             generalize w4.drew = w5 at hBK hHO hHK hHB hHeld ⊢
             refine pu_ 0 57 #[true, false, false, false, false, false, false, false, false, false, false, false, false, false] rfl rfl ?_
             refine pu_ 1 58 #[true, true, false, false, false, false, false, false, false, false, false, false, false, false] rfl rfl ?_
             refine pu_ 2 59 #[true, true, true, false, false, false, false, false, false, false, false, false, false, false] rfl rfl ?_
             refine pu_ 3 60 #[true, true, true, true, false, false, false, false, false, false, false, false, false, false] rfl rfl ?_
             refine pu_ 5 62 #[true, true, true, true, false, true, false, false, false, false, false, false, false, false] rfl rfl ?_
             refine pu_ 6 63 #[true, true, true, true, false, true, true, false, false, false, false, false, false, false] rfl rfl ?_
             refine pu_ 7 64 #[true, true, true, true, false, true, true, true, false, false, false, false, false, false] rfl rfl ?_
             refine ta2_ 4 61 #[true, true, true, true, true, true, true, true, false, false, false, false, false, false] rfl rfl ?_
             refine ta2_ 8 65 #[true, true, true, true, true, true, true, true, true, false, false, false, false, false] rfl rfl ?_
             refine one_ (i := 9) (N := some 66) #[true, true, true, true, true, true, true, true, true, true, false, false, false, false] rfl rfl (one_of HT_.out (by kernel_rfl)) (by decide) (fun K hK => ?_)
             refine value_ (w1 := ?_) (v := ?_) (by rfl) rfl ?_ ?_
             rotate_left 2
             · go_simp
               constructor
               · rfl
               · rfl
             obtain ⟨s0, s1⟩ := hHeld; have hb := below_alloc (Below.refl w5.heap.size w5) (.cells #[.int .i64 x_1] 2); refine hK.out _ _ ⟨pw_cell_below hb s0, pw_cell_below hb s1⟩ (fun hHeld => ?_); clear hb s0 s1
             clear hK K; refine norm_ (a' := ?_) ?_ ?_
             rotate_left
             · show Act.put _ (some 66) _ = _
               simp only [Act.put, List.setIfInBounds_toArray, List.set_cons_zero, List.set_cons_succ, i64_w, i32_w]
               rfl
             refine last_ (i := 10) (N := some 67) #[true, true, true, true, true, true, true, true, true, true, true, false, false, false] rfl rfl (one_of HT_.out (by kernel_rfl)) (by decide) (fun K hK => ?_)
             refine Kd.R_append_step (Kd.int .i64) (w0 := w5) base (by rfl) (.tmp 61) (.tmp 66) 46 2 (.int .i64 0) 8 rfl Try.underlying46 info2 rfl (by decide) (by omega) v_1 r_1 x_1 [.int .i64 x_1] ok (fun _ => False) rfl rfl ?aP (fun _ hk => hk.elim) ?aF ?aO ?aB ?aS ?aL ?_
             (case aP => exact rfl)
             (case aB => exact Below.refl _ _)
             (case aF => exact (fun k_ hk => HF.out k_ (Nat.le_trans hHK.out.1 hk)))
             (case aO => exact hHO.out)
             (case aS => exact Nat.le_trans HBW.out hHK.out.1)
             (case aL => have := LM.out; omega)
             intro v1 w6 ho hb hg hat; obtain ⟨Av, cv, e1⟩ := Kd.R_slice ho; rw [List.length_append, List.length_singleton] at e1; subst e1
             have m0 : Aside0 (Dk w6 g (some ad1) c0 l0.length x_1 t b0_1 b1_1 b2_1 b3_1 b4_1 n_1 v_1) := ⟨blk_grown hBK.out hg (Kd.R_ne hHO.out hBK.out (by decide))⟩
             have m1 := ak ho; have m2 := ak (KeepBut.trans hHK.out (KeepBut.of_grown hg g) HV.out)
             have m3 : Aside0 (OwnTo w v (.slice Av (r_1.length + 1) cv)) := ⟨by rcases hat with h | ⟨b, h, h2⟩; exact (by rcases HV.out with h3 | ⟨b3, h3, h4⟩; exact .inl (h.trans h3); exact .inr ⟨b3, h.trans h3, h4⟩); exact .inr ⟨b, h, Nat.le_trans hHK.out.1 h2⟩⟩
             have m4 := ak (hHB.out.grown hg (Nat.le_trans HBS.out (Nat.le_trans HBW.out hHK.out.1)) (fun k hk => Nat.le_trans HBS.out (Kd.R_base hHO.out k hk)))
             clear ho hb hg hat hHeld hHO hHK hBK hHB HV
             refine hK.out _ _ ?_
             clear hK K; refine norm_ (a' := ?_) ?_ ?_
             rotate_left
             · show Act.put _ (some 67) _ = _
               simp only [Act.put, List.setIfInBounds_toArray, List.set_cons_zero, List.set_cons_succ, i64_w, i32_w]
               rfl
             refine pu_ 11 68 (tf 12 2) rfl rfl ?_; refine pu_ 12 69 (tf 13 1) rfl rfl ?_
             refine last_ (i := 13) (N := none) (tf 14 0) rfl rfl (one_of HT_.out (by kernel_rfl)) (by decide) (fun K hK => ?_); have z9 := m0.out.c9; have hf9 := blk_frozen (show w6.heap[g]? = _ from m0.out) 9
             refine skip_ (w1 := ?_) (by rfl) rfl ?_ ?_
             rotate_left
             · go_simp
               rfl
             clear z9 hf9; refine hK.out _ _ ?_; clear hK K; refine done_ (done_of HT_.out (by kernel_rfl)) ?_; clear HT_ HW_
             have hk7 : Aside0 (KeepBut w6 (w6.setCell ⟨g, 9, none⟩ (.slice Av (r_1.length + 1) cv)) g none) := ⟨KeepBut.set_ (KeepBut.refl w6 g none) 9 _⟩
             have n0 : Aside0 (Dk (w6.setCell ⟨g, 9, none⟩ (.slice Av (r_1.length + 1) cv)) g (some ad1) c0 l0.length x_1 t b0_1 b1_1 b2_1 b3_1 b4_1 n_1 (.slice Av (r_1.length + 1) cv)) := ⟨blk_put m0.out 9 (.slice Av (r_1.length + 1) cv) rfl⟩
             have n1 := ak (Kd.R_mono (Kd.R_keep (Kd.R_types m1.out m0.out (by decide)) hk7.out (fun _ h => h.2)) (fun _ h => h.1)); have n2 := ak (KeepBut.set_ m2.out 9 (.slice Av (r_1.length + 1) cv)); have n4 := ak (below_set (j := 9) (v := (.slice Av (r_1.length + 1) cv)) m4.out HG.out)
             generalize w6.setCell ⟨g, 9, none⟩ (.slice Av (r_1.length + 1) cv) = w7 at n0 n1 n2 n4 ⊢; clear hk7 m0 m1 m2 m4
             have z1 := n0.out.c1; have hf1 := blk_frozen (show w7.heap[g]? = _ from n0.out) 1
             go_wp2
             have hk7 : KeepBut w7 (w7.setCell ⟨g, 1, none⟩ (.int .i64 (wrap64 (x_1 + 1)))) g none := KeepBut.set_ (KeepBut.refl w7 g none) 1 _
             go_roundg k1
             case measure => have := HK1.out; omega
             case rel => exact ⟨wrap64 (x_1 + 1), b0_1, b1_1, b2_1, b3_1, b4_1, n_1, (.slice Av (r_1.length + 1) cv), r_1 ++ [x_1], H2, ⟨by have := HK1.out; omega⟩, ⟨blk_put n0.out 1 _ rfl⟩, ⟨Kd.R_mono (Kd.R_keep (Kd.R_types n1.out n0.out (by decide)) hk7 (fun _ h => h.2)) (fun _ h => h.1)⟩, m3, ⟨KeepBut.set_ n2.out 1 _⟩, ⟨below_set n4.out HG.out⟩⟩
           · rw [if_neg cl] at H'; exact absurd H' (by simp)
       · rw [if_neg c3] at H
         have c3b : ((rd_T33 l0 x_1).f0 == t) = false := by simp [c3]
         clear c3; have p1 := eq_true c2; have q1 := eq_true c1; clear c1 c2
         simp only [Option.some.injEq, Prod.mk.injEq] at H; obtain ⟨rfl, rfl, rfl, rfl, rfl, rfl, rfl, rfl⟩ := H
         go_wp2
         go_quiet (fail)
         go_wp2
         first | go_end0 | ((try simp only [Exit.inBlock, Exit.then]); refine bodyPost_ret (results_none rfl _ _ _) rfl ?_)
         exact ⟨rfl, v_1, BK.out, Kd.R_drewN HO.out _, HV.out, keep_drewN HK.out _, pw_below_drewN HB.out _⟩
     · rw [if_neg c2] at H; exact absurd H (by simp)
   · rw [if_neg c1] at H
     simp only [Option.some.injEq, Prod.mk.injEq] at H; obtain ⟨rfl, rfl, rfl, rfl, rfl, rfl, rfl, rfl⟩ := H
     have c1b := decide_eq_false c1; clear c1; have z0 := BK.out.c0; have z1 := BK.out.c1
     go_wp2
     go_quiet (fail)
     go_wp2
     first | go_end0 | ((try simp only [Exit.inBlock, Exit.then]); refine bodyPost_ret (results_none rfl _ _ _) rfl ?_)
     exact ⟨rfl, v_1, BK.out, Kd.R_drewN HO.out _, HV.out, keep_drewN HK.out _, pw_below_drewN HB.out _⟩


/-! ### impl_desk_end: function 75 -/
def impl_desk_end.g (b0 b1 b2 b3 b4 : Bool) (n : Int) : Option (Bool × Bool × Bool × Bool × Bool × Int × Int) := impl_giveInput.f b0 b1 b2 b3 b4 n 8
def EndPost (g : Nat) (A0 : Option Addr) (c0 n0 : Nat) (x t : Int) (b0 b1 b2 b3 b4 : Bool) (n : Int) (v : Value) (w0 w : World) (e : Ending) (w' : World) : Prop :=
  e = .returned (.tuple #[]) ∧ Dk w' g A0 c0 n0 x t b0 b1 b2 b3 b4 n v ∧ KeepBut w w' g none ∧ Below w0.heap.size w0 w'
set_option maxHeartbeats 8000000 in
set_option maxRecDepth 100000 in
theorem impl_desk_end.callsD (g : Nat) (A0 : Option Addr) (c0 n0 : Nat) (x t : Int) (b0 b1 b2 b3 b4 : Bool) (n : Int) (v : Value) (t0 t1 t2 t3 t4 : Bool) (t5 y : Int) (w0 w : World)
   (hI : Dk w g A0 c0 n0 x t b0 b1 b2 b3 b4 n v) (hg : w0.heap.size ≤ g) (hB : Below w0.heap.size w0 w) (h : impl_giveInput.f b0 b1 b2 b3 b4 n 8 = some (t0, t1, t2, t3, t4, t5, y)) :
  Calls Try.prog 75 #[.pointer (some ⟨g, 0, none⟩)] w (EndPost g A0 c0 n0 x (wrap64 (t + 1)) t0 t1 t2 t3 t4 t5 v w0 w) := by
 have hu41 := Try.underlying41; have BK := ak hI; have HB := ak hB; have HG := ak hg; have A1 := ak h; clear hI hB hg h
 have z2 := BK.out.c2; have z3 := BK.out.c3; have z4 := BK.out.c4; have z5 := BK.out.c5; have z6 := BK.out.c6; have z7 := BK.out.c7; have z8 := BK.out.c8
 go_enter Try.func75, Try.ntmps75
 go_upto_region 1 with (first | ((with_reducible refine at_fn (f := 98) rfl ?_); refine gl (some 8) Try.func98 #[.agg #[.bool b0, .bool b1, .bool b2, .bool b3, .bool b4, .int .i64 n], .int .i64 8] ?_; (with_reducible refine (impl_giveInput.calls b0 b1 b2 b3 b4 n 8 t0 t1 t2 t3 t4 t5 y _ A1.out).mono ?_); rintro e w1 ⟨rfl, hb⟩; refine ⟨_, rfl, ?_⟩; have hBK : Aside0 (Dk w1 g A0 c0 n0 x t b0 b1 b2 b3 b4 n v) := ⟨blk_below BK.out hb⟩; have hHB := ak (below_step HB.out hb); have HK := ak (KeepBut.of_below hb g none); clear hb z2 z3 z4 z5 z6 z7 z8 BK HB; have z2 := hBK.out.c2; have z3 := hBK.out.c3; have z4 := hBK.out.c4; have z5 := hBK.out.c5; have z6 := hBK.out.c6; have z7 := hBK.out.c7; have z8 := hBK.out.c8; have hf2 := blk_frozen (show w1.heap[g]? = _ from hBK.out) 2; have hf3 := blk_frozen (show w1.heap[g]? = _ from hBK.out) 3; have hf4 := blk_frozen (show w1.heap[g]? = _ from hBK.out) 4; have hf5 := blk_frozen (show w1.heap[g]? = _ from hBK.out) 5; have hf6 := blk_frozen (show w1.heap[g]? = _ from hBK.out) 6; have hf7 := blk_frozen (show w1.heap[g]? = _ from hBK.out) 7; have hf8 := blk_frozen (show w1.heap[g]? = _ from hBK.out) 8))
 go_wp2
 first | go_end0 | ((try simp only [Exit.inBlock, Exit.then]); refine bodyPost_ret (results_none rfl _ _ _) rfl ?_)
 exact ⟨ew, blk_put (blk_put (blk_put (blk_put (blk_put (blk_put (blk_put hBK.out 3 (.bool t0) rfl) 4 (.bool t1) rfl) 5 (.bool t2) rfl) 6 (.bool t3) rfl) 7 (.bool t4) rfl) 8 (.int .i64 t5) rfl) 2 (.int .i64 (wrap64 (t + 1))) rfl, KeepBut.set_ (KeepBut.set_ (KeepBut.set_ (KeepBut.set_ (KeepBut.set_ (KeepBut.set_ (KeepBut.set_ HK.out 3 _) 4 _) 5 _) 6 _) 7 _) 8 _) 2 _, below_set (below_set (below_set (below_set (below_set (below_set (below_set hHB.out HG.out) HG.out) HG.out) HG.out) HG.out) HG.out) HG.out⟩


end Go.Proofs.Ytjgbncpbenmjoaa.Pall
