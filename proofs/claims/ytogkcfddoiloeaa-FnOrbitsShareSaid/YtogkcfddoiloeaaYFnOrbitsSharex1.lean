/- The walk. -/
import Derived.Test.YtogkcfddoiloeaaYFnOrbitsSharex0
namespace Go.Proofs.Ytogkcfddoiloeaa.PFnOrbitsShare
open Go.RowKit Go.Proofs.YtogkcfddoiloeaaW.PrintWords Go.Proofs.YtogkcfddoiloeaaW.PrintLast Go.Proofs.YtogkcfddoiloeaaW.PrintMore
attribute [local go_sem] max2_int min2_int max_two min_two max_three min_three max_four min_four
set_option linter.unusedVariables false
set_option linter.unusedSimpArgs false
def spec_l1In.f (a0 : Int) (a1 : Int) (a2 : Int) : Option (Bool) := if a0 ≥ a1 then (some (decide (a0 ≤ a2))) else (some false)
set_option maxHeartbeats 8000000 in
set_option maxRecDepth 100000 in
theorem spec_l1In.calls (a0 : Int) (a1 : Int) (a2 : Int) (r : Bool) (w : World) (h : spec_l1In.f a0 a1 a2 = some r) :
  Calls Try.prog 77 #[.int .i64 a0, .int .i64 a1, .int .i64 a2] w fun e w' => e = .returned (.bool r) ∧ Drawn0 w w' := by
 have H : (if a0 ≥ a1 then (some (decide (a0 ≤ a2))) else (some false)) = some r := h
 clear h
 by_cases c4 : a0 ≥ a1
 ·rw [if_pos c4] at H
  have c4b0 : decide (a1 ≤ a0) = true := decide_eq_true c4
  clear c4
  obtain rfl := Option.some.inj H
  go_enter Try.func77, Try.ntmps77
  go_wp2
  go_ret
  exact ⟨by first | rfl | (simp; done) | (simp [*]; done), by repeat (first | exact Drawn0.refl _ | apply Drawn0.step)⟩
 ·rw [if_neg c4] at H
  have c4b0 : decide (a1 ≤ a0) = false := decide_eq_false c4
  clear c4
  obtain rfl := Option.some.inj H
  go_enter Try.func77, Try.ntmps77
  go_wp2
  go_ret
  exact ⟨by first | rfl | (simp; done) | (simp [*]; done), by repeat (first | exact Drawn0.refl _ | apply Drawn0.step)⟩
def spec_arGood.f (a0_0 : Int) (a0_1 : Int) (a0_2 : Bool) (a0_3 : Bool) : Option (Bool) := (spec_l1In.f a0_0 1 12).bind fun t102 => (if t102 = true then ((spec_l1In.f a0_1 1 12).bind fun t103 => (some t103)) else (some false))
set_option maxHeartbeats 8000000 in
set_option maxRecDepth 100000 in
theorem spec_arGood.calls (a0_0 : Int) (a0_1 : Int) (a0_2 : Bool) (a0_3 : Bool) (r : Bool) (w : World) (h : spec_arGood.f a0_0 a0_1 a0_2 a0_3 = some r) :
  Calls Try.prog 105 #[.agg #[.int .i64 a0_0, .int .i64 a0_1, .bool a0_2, .bool a0_3]] w fun e w' => e = .returned (.bool r) ∧ Below w.heap.size w w' := by
 have hu28 := Try.underlying28
 have HB := zA (Below.refl w.heap.size w)
 have H : ((spec_l1In.f a0_0 1 12).bind fun t102 => (if t102 = true then ((spec_l1In.f a0_1 1 12).bind fun t103 => (some t103)) else (some false))) = some r := h
 clear h
 obtain ⟨t102, A2, H⟩ := zM H
 try dsimp only at H
 by_cases c3 : t102 = true
 ·subst c3
  have H1 : ((spec_l1In.f a0_1 1 12).bind fun t103 => (some t103)) = some r := by rw [if_pos rfl] at H; exact H
  clear H
  have H := H1
  clear H1
  obtain ⟨t103, A4, H⟩ := zM H
  try dsimp only at H
  obtain rfl := Option.some.inj H
  go_enter Try.func105, Try.ntmps105
  go_wp2_with (first | ((with_reducible refine gate_dst (N := 1) rfl ?_); refine box_event zr (N := 1) zr (cs := #[.int .i64 a0_0, .int .i64 a0_1, .bool a0_2, .bool a0_3]) (t := 28) zh ?_; intro gb101 hg w5 hbox hb; have BK101 := zA (hbox); have GW101 := zA (zG hg (below_size (zB0 HB)) : w.heap.size ≤ gb101); have GE101 := zA (zG hg (below_size (zB0 HB)) : w.heap.size ≤ gb101); replace HB := zA (below_step (zB0 HB) hb); clear hb hbox hg; obtain ⟨z6_0, z6_1, z6_2, z6_3, y6_0, y6_1, y6_2, y6_3⟩ := zc4 BK101) | ((with_reducible refine gate_callee (f := 77) rfl ?_); refine goesL_ (some 5) rfl rfl Try.func77 zn rfl #[.int .i64 a0_0, .int .i64 1, .int .i64 12] rfl zm ?_; (with_reducible refine (spec_l1In.calls a0_0 1 12 true _ A2.out).mono ?_); rintro e w' ⟨rfl, ⟨nd, rfl⟩⟩; refine ⟨_, rfl, ?_⟩) | (go_at_call 77; (with_reducible refine (spec_l1In.calls a0_1 1 12 t103 _ A4.out).mono ?_); rintro e w' ⟨rfl, ⟨nd, rfl⟩⟩))
  go_ret
  exact ⟨zt, zB1 HB GE101⟩
 ·replace c3 := Bool.eq_false_iff.mpr c3
  subst c3
  have H1 : (some false) = some r := by rw [if_neg (show ¬ (false = true) by decide)] at H; exact H
  clear H
  have H := H1
  clear H1
  obtain rfl := Option.some.inj H
  go_enter Try.func105, Try.ntmps105
  go_wp2_with (first | ((with_reducible refine gate_dst (N := 1) rfl ?_); refine box_event zr (N := 1) zr (cs := #[.int .i64 a0_0, .int .i64 a0_1, .bool a0_2, .bool a0_3]) (t := 28) zh ?_; intro gb101 hg w7 hbox hb; have BK101 := zA (hbox); have GW101 := zA (zG hg (below_size (zB0 HB)) : w.heap.size ≤ gb101); have GE101 := zA (zG hg (below_size (zB0 HB)) : w.heap.size ≤ gb101); replace HB := zA (below_step (zB0 HB) hb); clear hb hbox hg; obtain ⟨z8_0, z8_1, z8_2, z8_3, y8_0, y8_1, y8_2, y8_3⟩ := zc4 BK101) | ((with_reducible refine gate_callee (f := 77) rfl ?_); refine goesL_ (some 5) rfl rfl Try.func77 zn rfl #[.int .i64 a0_0, .int .i64 1, .int .i64 12] rfl zm ?_; (with_reducible refine (spec_l1In.calls a0_0 1 12 false _ A2.out).mono ?_); rintro e w' ⟨rfl, ⟨nd, rfl⟩⟩; refine ⟨_, rfl, ?_⟩))
  go_ret
  exact ⟨zt, zB1 HB GE101⟩
def spec_boLeaper.f (a0_0 : Int) (a0_1 : Int) : Option (Bool) := (spec_l1In.f a0_1 1 5).bind fun t105 => (if t105 = true then ((spec_l1In.f a0_0 0 a0_1).bind fun t106 => (some t106)) else (some false))
set_option maxHeartbeats 8000000 in
set_option maxRecDepth 100000 in
theorem spec_boLeaper.calls (a0_0 : Int) (a0_1 : Int) (r : Bool) (w : World) (h : spec_boLeaper.f a0_0 a0_1 = some r) :
  Calls Try.prog 107 #[.agg #[.int .i64 a0_0, .int .i64 a0_1]] w fun e w' => e = .returned (.bool r) ∧ Below w.heap.size w w' := by
 have hu30 := Try.underlying30
 have HB := zA (Below.refl w.heap.size w)
 have H : ((spec_l1In.f a0_1 1 5).bind fun t105 => (if t105 = true then ((spec_l1In.f a0_0 0 a0_1).bind fun t106 => (some t106)) else (some false))) = some r := h
 clear h
 obtain ⟨t105, A2, H⟩ := zM H
 try dsimp only at H
 by_cases c3 : t105 = true
 ·subst c3
  have H1 : ((spec_l1In.f a0_0 0 a0_1).bind fun t106 => (some t106)) = some r := by rw [if_pos rfl] at H; exact H
  clear H
  have H := H1
  clear H1
  obtain ⟨t106, A4, H⟩ := zM H
  try dsimp only at H
  obtain rfl := Option.some.inj H
  go_enter Try.func107, Try.ntmps107
  go_wp2_with (first | ((with_reducible refine gate_dst (N := 1) rfl ?_); refine box_event zr (N := 1) zr (cs := #[.int .i64 a0_0, .int .i64 a0_1]) (t := 30) zh ?_; intro gb104 hg w5 hbox hb; have BK104 := zA (hbox); have GW104 := zA (zG hg (below_size (zB0 HB)) : w.heap.size ≤ gb104); have GE104 := zA (zG hg (below_size (zB0 HB)) : w.heap.size ≤ gb104); replace HB := zA (below_step (zB0 HB) hb); clear hb hbox hg; obtain ⟨z6_0, z6_1, y6_0, y6_1⟩ := zc2 BK104) | ((with_reducible refine gate_callee (f := 77) rfl ?_); refine goesL_ (some 5) rfl rfl Try.func77 zn rfl #[.int .i64 a0_1, .int .i64 1, .int .i64 5] rfl zm ?_; (with_reducible refine (spec_l1In.calls a0_1 1 5 true _ A2.out).mono ?_); rintro e w' ⟨rfl, ⟨nd, rfl⟩⟩; refine ⟨_, rfl, ?_⟩) | (go_at_call 77; (with_reducible refine (spec_l1In.calls a0_0 0 a0_1 t106 _ A4.out).mono ?_); rintro e w' ⟨rfl, ⟨nd, rfl⟩⟩))
  go_ret
  exact ⟨zt, zB1 HB GE104⟩
 ·replace c3 := Bool.eq_false_iff.mpr c3
  subst c3
  have H1 : (some false) = some r := by rw [if_neg (show ¬ (false = true) by decide)] at H; exact H
  clear H
  have H := H1
  clear H1
  obtain rfl := Option.some.inj H
  go_enter Try.func107, Try.ntmps107
  go_wp2_with (first | ((with_reducible refine gate_dst (N := 1) rfl ?_); refine box_event zr (N := 1) zr (cs := #[.int .i64 a0_0, .int .i64 a0_1]) (t := 30) zh ?_; intro gb104 hg w7 hbox hb; have BK104 := zA (hbox); have GW104 := zA (zG hg (below_size (zB0 HB)) : w.heap.size ≤ gb104); have GE104 := zA (zG hg (below_size (zB0 HB)) : w.heap.size ≤ gb104); replace HB := zA (below_step (zB0 HB) hb); clear hb hbox hg; obtain ⟨z8_0, z8_1, y8_0, y8_1⟩ := zc2 BK104) | ((with_reducible refine gate_callee (f := 77) rfl ?_); refine goesL_ (some 5) rfl rfl Try.func77 zn rfl #[.int .i64 a0_1, .int .i64 1, .int .i64 5] rfl zm ?_; (with_reducible refine (spec_l1In.calls a0_1 1 5 false _ A2.out).mono ?_); rintro e w' ⟨rfl, ⟨nd, rfl⟩⟩; refine ⟨_, rfl, ?_⟩))
  go_ret
  exact ⟨zt, zB1 HB GE104⟩
def spec_arTwo.f (a0_0 : Int) (a0_1 : Int) (a0_2 : Bool) (a0_3 : Bool) (a1_0 : Int) (a1_1 : Int) : Option (Bool) := (spec_arGood.f a0_0 a0_1 a0_2 a0_3).bind fun t109 => (if t109 = true then ((spec_boLeaper.f a1_0 a1_1).bind fun t110 => (some t110)) else (some false))
set_option maxHeartbeats 8000000 in
set_option maxRecDepth 100000 in
theorem spec_arTwo.calls (a0_0 : Int) (a0_1 : Int) (a0_2 : Bool) (a0_3 : Bool) (a1_0 : Int) (a1_1 : Int) (r : Bool) (w : World) (h : spec_arTwo.f a0_0 a0_1 a0_2 a0_3 a1_0 a1_1 = some r) :
  Calls Try.prog 61 #[.agg #[.int .i64 a0_0, .int .i64 a0_1, .bool a0_2, .bool a0_3], .agg #[.int .i64 a1_0, .int .i64 a1_1]] w fun e w' => e = .returned (.bool r) ∧ Below w.heap.size w w' := by
 have hu28 := Try.underlying28
 have hu30 := Try.underlying30
 have HB := zA (Below.refl w.heap.size w)
 have H : ((spec_arGood.f a0_0 a0_1 a0_2 a0_3).bind fun t109 => (if t109 = true then ((spec_boLeaper.f a1_0 a1_1).bind fun t110 => (some t110)) else (some false))) = some r := h
 clear h
 obtain ⟨t109, A3, H⟩ := zM H
 try dsimp only at H
 by_cases c4 : t109 = true
 ·subst c4
  have H1 : ((spec_boLeaper.f a1_0 a1_1).bind fun t110 => (some t110)) = some r := by rw [if_pos rfl] at H; exact H
  clear H
  have H := H1
  clear H1
  obtain ⟨t110, A5, H⟩ := zM H
  try dsimp only at H
  obtain rfl := Option.some.inj H
  go_enter Try.func61, Try.ntmps61
  go_wp2_with (first | ((with_reducible refine gate_dst (N := 2) rfl ?_); refine box_event zr (N := 2) zr (cs := #[.int .i64 a0_0, .int .i64 a0_1, .bool a0_2, .bool a0_3]) (t := 28) zh ?_; intro gb107 hg w6 hbox hb; have BK107 := zA (hbox); have GW107 := zA (zG hg (below_size (zB0 HB)) : w.heap.size ≤ gb107); have GE107 := zA (zG hg (below_size (zB0 HB)) : w.heap.size ≤ gb107); replace HB := zA (below_step (zB0 HB) hb); clear hb hbox hg) | ((with_reducible refine gate_dst (N := 3) rfl ?_); refine box_event zr (N := 3) zr (cs := #[.int .i64 a1_0, .int .i64 a1_1]) (t := 30) zh ?_; intro gb108 hg w7 hbox hb; have BK108 := zA (hbox); have GW108 := zA (zG hg (below_size (zB1 HB GE107)) : w.heap.size ≤ gb108); have GE108 := zA (zG hg (below_size (zB1 HB GE107)) : w.heap.size ≤ gb108); replace HB := zA (below_step (zB1 HB GE107) hb); have NB107_108 := zA (zNl hg BK107 : gb107 ≠ gb108); have NB108_107 := zA (zNg hg BK107 : gb108 ≠ gb107); replace BK107 := zKb BK107 hb; clear hb hbox hg; have hnb8 := NB107_108.out; have hnc8 := NB108_107.out; obtain ⟨z9_0, z9_1, z9_2, z9_3, y9_0, y9_1, y9_2, y9_3⟩ := zc4 BK107) | ((with_reducible refine gate_callee (f := 105) rfl ?_); refine goesL_ (some 6) rfl rfl Try.func105 zn rfl #[.agg #[.int .i64 a0_0, .int .i64 a0_1, .bool a0_2, .bool a0_3]] rfl zm ?_; (with_reducible refine (spec_arGood.calls a0_0 a0_1 a0_2 a0_3 true _ A3.out).mono ?_); rintro e w10 ⟨rfl, hb⟩; refine ⟨_, rfl, ?_⟩; replace BK107 := zKb BK107 hb; replace BK108 := zKb BK108 hb; replace HB := zA (below_step (zB2 HB GE107 GE108) hb); (try clear hb); (try clear hb2); (try clear hk); (try clear hi); obtain ⟨z11_0, z11_1, y11_0, y11_1⟩ := zc2 BK108) | (go_at_call 107; (with_reducible refine (spec_boLeaper.calls a1_0 a1_1 t110 _ A5.out).mono ?_); rintro e w12 ⟨rfl, hb⟩; replace BK107 := zKb BK107 hb; replace BK108 := zKb BK108 hb; replace HB := zA (below_step (zB2 HB GE107 GE108) hb); (try clear hb); (try clear hb2); (try clear hk); (try clear hi)))
  go_ret
  exact ⟨zt, zB2 HB GE107 GE108⟩
 ·replace c4 := Bool.eq_false_iff.mpr c4
  subst c4
  have H1 : (some false) = some r := by rw [if_neg (show ¬ (false = true) by decide)] at H; exact H
  clear H
  have H := H1
  clear H1
  obtain rfl := Option.some.inj H
  go_enter Try.func61, Try.ntmps61
  go_wp2_with (first | ((with_reducible refine gate_dst (N := 2) rfl ?_); refine box_event zr (N := 2) zr (cs := #[.int .i64 a0_0, .int .i64 a0_1, .bool a0_2, .bool a0_3]) (t := 28) zh ?_; intro gb107 hg w13 hbox hb; have BK107 := zA (hbox); have GW107 := zA (zG hg (below_size (zB0 HB)) : w.heap.size ≤ gb107); have GE107 := zA (zG hg (below_size (zB0 HB)) : w.heap.size ≤ gb107); replace HB := zA (below_step (zB0 HB) hb); clear hb hbox hg) | ((with_reducible refine gate_dst (N := 3) rfl ?_); refine box_event zr (N := 3) zr (cs := #[.int .i64 a1_0, .int .i64 a1_1]) (t := 30) zh ?_; intro gb108 hg w14 hbox hb; have BK108 := zA (hbox); have GW108 := zA (zG hg (below_size (zB1 HB GE107)) : w.heap.size ≤ gb108); have GE108 := zA (zG hg (below_size (zB1 HB GE107)) : w.heap.size ≤ gb108); replace HB := zA (below_step (zB1 HB GE107) hb); have NB107_108 := zA (zNl hg BK107 : gb107 ≠ gb108); have NB108_107 := zA (zNg hg BK107 : gb108 ≠ gb107); replace BK107 := zKb BK107 hb; clear hb hbox hg; have hnb15 := NB107_108.out; have hnc15 := NB108_107.out; obtain ⟨z16_0, z16_1, z16_2, z16_3, y16_0, y16_1, y16_2, y16_3⟩ := zc4 BK107) | ((with_reducible refine gate_callee (f := 105) rfl ?_); refine goesL_ (some 6) rfl rfl Try.func105 zn rfl #[.agg #[.int .i64 a0_0, .int .i64 a0_1, .bool a0_2, .bool a0_3]] rfl zm ?_; (with_reducible refine (spec_arGood.calls a0_0 a0_1 a0_2 a0_3 false _ A3.out).mono ?_); rintro e w17 ⟨rfl, hb⟩; refine ⟨_, rfl, ?_⟩; replace BK107 := zKb BK107 hb; replace BK108 := zKb BK108 hb; replace HB := zA (below_step (zB2 HB GE107 GE108) hb); (try clear hb); (try clear hb2); (try clear hk); (try clear hi)))
  go_ret
  exact ⟨zt, zB2 HB GE107 GE108⟩
def spec_l1Most.f (a0 : Int) (a1 : Int) : Option (Int) := if a0 > a1 then (some a0) else (some a1)
set_option maxHeartbeats 8000000 in
set_option maxRecDepth 100000 in
theorem spec_l1Most.calls (a0 : Int) (a1 : Int) (r : Int) (w : World) (h : spec_l1Most.f a0 a1 = some r) :
  Calls Try.prog 106 #[.int .i64 a0, .int .i64 a1] w fun e w' => e = .returned (.int .i64 r) ∧ Drawn0 w w' := by
 have H : (if a0 > a1 then (some a0) else (some a1)) = some r := h
 clear h
 by_cases c3 : a0 > a1
 ·rw [if_pos c3] at H
  have c3b0 : decide (a1 < a0) = true := decide_eq_true c3
  clear c3
  obtain rfl := Option.some.inj H
  go_enter Try.func106, Try.ntmps106
  go_wp2
  go_ret
  exact ⟨by first | rfl | (simp; done) | (simp [*]; done), by repeat (first | exact Drawn0.refl _ | apply Drawn0.step)⟩
 ·rw [if_neg c3] at H
  have c3b0 : decide (a1 < a0) = false := decide_eq_false c3
  clear c3
  obtain rfl := Option.some.inj H
  go_enter Try.func106, Try.ntmps106
  go_wp2
  go_ret
  exact ⟨by first | rfl | (simp; done) | (simp [*]; done), by repeat (first | exact Drawn0.refl _ | apply Drawn0.step)⟩
def spec_l1Abs.f (a0 : Int) : Option (Int) := (spec_l1Most.f a0 (wrap64 (-a0))).bind fun t111 => (some t111)
set_option maxHeartbeats 8000000 in
set_option maxRecDepth 100000 in
theorem spec_l1Abs.calls (a0 : Int) (r : Int) (w : World) (h : spec_l1Abs.f a0 = some r) :
  Calls Try.prog 87 #[.int .i64 a0] w fun e w' => e = .returned (.int .i64 r) ∧ Drawn0 w w' := by
 have H : ((spec_l1Most.f a0 (wrap64 (-a0))).bind fun t111 => (some t111)) = some r := h
 clear h
 obtain ⟨t111, A2, H⟩ := zM H
 try dsimp only at H
 obtain rfl := Option.some.inj H
 go_enter Try.func87, Try.ntmps87
 go_wp2_with (first | ((with_reducible refine gate_callee (f := 106) rfl ?_); refine goesL_ (some 6) rfl rfl Try.func106 zn rfl #[.int .i64 a0, .int .i64 (wrap64 (-a0))] rfl zm ?_; (with_reducible refine (spec_l1Most.calls a0 (wrap64 (-a0)) t111 _ A2.out).mono ?_); rintro e w' ⟨rfl, ⟨nd, rfl⟩⟩; refine ⟨_, rfl, ?_⟩))
 go_ret
 exact ⟨by first | rfl | (simp; done) | (simp [*]; done), by repeat (first | exact Drawn0.refl _ | apply Drawn0.step)⟩
mutual
def spec_boSteps.l0 : Nat → List (List Int) → Int → Int → Int → Option ((List (List Int)))
 | 0, _, _, _, _ => none
 | k + 1, x3, x4, x113000, x113001 => if x4 ≤ x113001 then (spec_boSteps.l1 k x3 x4 (wrap64 (-x113001)) x113000 x113001) else (some x3)
def spec_boSteps.l1 : Nat → List (List Int) → Int → Int → Int → Int → Option ((List (List Int)))
 | 0, _, _, _, _, _ => none
 | k + 1, x3, x4, x5, x113000, x113001 => if x5 ≤ x113001 then ((spec_l1Abs.f x4).bind fun t113 => ((spec_l1Abs.f x5).bind fun t114 => (if t113 = x113000 then (if t114 = x113001 then (if x3.length < 5864062014805 then (spec_boSteps.l1 k (x3 ++ [(([x4, x5] : List Int))]) x4 (wrap64 (x5 + 1)) x113000 x113001) else (none)) else (if t113 = x113001 then (if t114 = x113000 then (if x3.length < 5864062014805 then (spec_boSteps.l1 k (x3 ++ [(([x4, x5] : List Int))]) x4 (wrap64 (x5 + 1)) x113000 x113001) else (none)) else (spec_boSteps.l1 k x3 x4 (wrap64 (x5 + 1)) x113000 x113001)) else (spec_boSteps.l1 k x3 x4 (wrap64 (x5 + 1)) x113000 x113001))) else (if t113 = x113001 then (if t114 = x113000 then (if x3.length < 5864062014805 then (spec_boSteps.l1 k (x3 ++ [(([x4, x5] : List Int))]) x4 (wrap64 (x5 + 1)) x113000 x113001) else (none)) else (spec_boSteps.l1 k x3 x4 (wrap64 (x5 + 1)) x113000 x113001)) else (spec_boSteps.l1 k x3 x4 (wrap64 (x5 + 1)) x113000 x113001))))) else (spec_boSteps.l0 k x3 (wrap64 (x4 + 1)) x113000 x113001)
end
def spec_boSteps.f (k : Nat) (a0_0 : Int) (a0_1 : Int) : Option ((List (List Int))) := spec_boSteps.l0 k ([] : List (List Int)) (wrap64 (-a0_1)) a0_0 a0_1
theorem spec_boSteps.mono_l : ∀ k, (∀ y0 y1 y2 y3, LeO (spec_boSteps.l0 k y0 y1 y2 y3) (spec_boSteps.l0 (k + 1) y0 y1 y2 y3)) ∧ (∀ y0 y1 y2 y3 y4, LeO (spec_boSteps.l1 k y0 y1 y2 y3 y4) (spec_boSteps.l1 (k + 1) y0 y1 y2 y3 y4))
 | 0 => ⟨fun _ _ _ _ r h => by simp [spec_boSteps.l0] at h, fun _ _ _ _ _ r h => by simp [spec_boSteps.l1] at h⟩
 | k + 1 => by
  obtain ⟨ih0, ih1⟩ := spec_boSteps.mono_l k
  refine ⟨?_, ?_⟩
  ·intro y0 y1 y2 y3
   unfold spec_boSteps.l0
   repeat' first
   | (with_reducible exact ih0 _ _ _ _)
   | (with_reducible apply ih1)
   | (with_reducible exact LeO.refl _)
   | (with_reducible exact LeO.none _)
   | (with_reducible refine LeO.ite ?_ ?_)
   | (with_reducible refine LeO.bind ?_ (fun _ => ?_))
   | exact ih0 _ _ _ _
   | apply ih1
   | exact LeO.none _
   | refine LeO.ite ?_ ?_
   | refine LeO.bind ?_ (fun _ => ?_)
  ·intro y0 y1 y2 y3 y4
   unfold spec_boSteps.l1
   repeat' first
   | (with_reducible exact ih0 _ _ _ _)
   | (with_reducible apply ih1)
   | (with_reducible exact LeO.refl _)
   | (with_reducible exact LeO.none _)
   | (with_reducible refine LeO.ite ?_ ?_)
   | (with_reducible refine LeO.bind ?_ (fun _ => ?_))
   | exact ih0 _ _ _ _
   | apply ih1
   | exact LeO.none _
   | refine LeO.ite ?_ ?_
   | refine LeO.bind ?_ (fun _ => ?_)
theorem spec_boSteps.mono : ∀ a0 a1 k, LeO (spec_boSteps.f k a0 a1) (spec_boSteps.f (k + 1) a0 a1) := by
 intro a0 a1 k
 obtain ⟨ih0, ih1⟩ := spec_boSteps.mono_l k
 unfold spec_boSteps.f
 repeat' first
   | (with_reducible exact ih0 _ _ _ _)
   | (with_reducible apply ih1)
   | (with_reducible exact LeO.refl _)
   | (with_reducible exact LeO.none _)
   | (with_reducible refine LeO.ite ?_ ?_)
   | (with_reducible refine LeO.bind ?_ (fun _ => ?_))
   | exact ih0 _ _ _ _
   | apply ih1
   | exact LeO.none _
   | refine LeO.ite ?_ ?_
   | refine LeO.bind ?_ (fun _ => ?_)
set_option maxHeartbeats 8000000 in
set_option maxRecDepth 100000 in
theorem spec_boSteps.calls (k : Nat) (a0_0 : Int) (a0_1 : Int) (r : List (List Int)) (w : World) (h : spec_boSteps.f k a0_0 a0_1 = some r) :
  Calls Try.prog 62 #[.agg #[.int .i64 a0_0, .int .i64 a0_1]] w fun e w' => ∃ v0_ : Value, e = .returned (v0_) ∧ Kd.S (Kd.slice 3 (Kd.int .i64)) 33 w' w.heap.size (fun _ => True) v0_ r ∧ Below w.heap.size w w' := by
 have hu30 := Try.underlying30
 have HB := zA (Below.refl w.heap.size w)
 have H : (spec_boSteps.l0 k ([] : List (List Int)) (wrap64 (-a0_1)) a0_0 a0_1) = some r := h
 clear h
 have H' := zA H
 clear H
 go_enter Try.func62, Try.ntmps62
 go_wp2_with (first | ((with_reducible refine gate_dst (N := 1) rfl ?_); refine box_event zr (N := 1) zr (cs := #[.int .i64 a0_0, .int .i64 a0_1]) (t := 30) zh ?_; intro gb112 hg w2 hbox hb; have BK112 := zA (hbox); have GW112 := zA (zG hg (below_size (zB0 HB)) : w.heap.size ≤ gb112); have GE112 := zA (zG hg (below_size (zB0 HB)) : w.heap.size ≤ gb112); replace HB := zA (below_step (zB0 HB) hb); clear hb hbox hg; obtain ⟨z3_0, z3_1, y3_0, y3_1⟩ := zc2 BK112))
 go_loopg [3, 4] k (fun kq v3 v4 w' => ∃ (x3_1 : List (List Int)) (x4_1 : Int), v4 = .int .i64 x4_1 ∧ Aside0 (spec_boSteps.l0 kq x3_1 x4_1 a0_0 a0_1 = some r) ∧ Aside0 (kq ≤ k) ∧ Aside0 (Kd.S (Kd.slice 3 (Kd.int .i64)) 33 w' w.heap.size (fun _ => True) v3 x3_1) ∧ Aside0 (w'.heap[gb112]? = some (.cells #[.int .i64 a0_0, .int .i64 a0_1] 30 (0, 0))) ∧ Aside0 (Below w.heap.size w w'))
 case atStart => exact ⟨(([] : List (List Int))), (wrap64 (-a0_1)), ze, H', ⟨Nat.le_refl _⟩, ⟨by first | exact Kd.S_nil _ _ _ _ _ | exact Kd.N_nil _ _ _ _ _ | exact Kd.V_nil _ _ _ _ _ | exact Kd.Q_nil _ _ _ _ _ | exact Kd.R_nil _ _ _ _ _⟩, ⟨zK BK112⟩, ⟨zB1 HB GE112⟩⟩
 case round =>
  clear H'
  (try clear z3_0 z3_1 y3_0 y3_1)
  obtain ⟨x3_1, x4_1, rfl, HA, HK1, HO_3, BK112, HB⟩ := hrel
  cases gk with
  | zero => exact absurd HA.out (by simp [spec_boSteps.l0])
  | succ k1 =>
   have H := HA.out
   clear HA
   simp only [spec_boSteps.l0] at H
   by_cases c4 : x4_1 ≤ a0_1
   ·rw [if_pos c4] at H
    have c4b0 : decide (x4_1 ≤ a0_1) = true := decide_eq_true c4
    clear c4
    have H' := zA H
    clear H
    obtain ⟨z5_0, z5_1, y5_0, y5_1⟩ := zc2 BK112
    go_wp2
    go_loopg [3, 5] k1 (fun kq v3 v5 w' => ∃ (x3_2 : List (List Int)) (x5_2 : Int), v5 = .int .i64 x5_2 ∧ Aside0 (spec_boSteps.l1 kq x3_2 x4_1 x5_2 a0_0 a0_1 = some r) ∧ Aside0 (kq ≤ k1) ∧ Aside0 (Kd.S (Kd.slice 3 (Kd.int .i64)) 33 w' w.heap.size (fun _ => True) v3 x3_2) ∧ Aside0 (w'.heap[gb112]? = some (.cells #[.int .i64 a0_0, .int .i64 a0_1] 30 (0, 0))) ∧ Aside0 (Below w.heap.size w w'))
    case atStart => exact ⟨(x3_1), (wrap64 (-a0_1)), ze, H', ⟨Nat.le_refl _⟩, ⟨zL HO_3.out⟩, ⟨zK BK112⟩, ⟨zB1 HB GE112⟩⟩
    case round =>
     clear H'
     (try clear c4); (try clear c4b0); (try clear z3_0 z3_1 y3_0 y3_1); (try clear z5_0 z5_1 y5_0 y5_1)
     obtain ⟨x3_2, x5_2, rfl, HA, HK2, HO_3, BK112, HB⟩ := hrel
     cases gk with
     | zero => exact absurd HA.out (by simp [spec_boSteps.l1])
     | succ k2 =>
      have H := HA.out
      clear HA
      simp only [spec_boSteps.l1] at H
      by_cases c6 : x5_2 ≤ a0_1
      ·rw [if_pos c6] at H
       have c6b0 : decide (x5_2 ≤ a0_1) = true := decide_eq_true c6
       clear c6
       obtain ⟨t113, A7, H⟩ := zM H
       try dsimp only at H
       obtain ⟨t114, A8, H⟩ := zM H
       try dsimp only at H
       by_cases c9 : t113 = a0_0
       ·rw [if_pos c9] at H
        have c9b0 : (t113 == a0_0) = true := beq_iff_eq.mpr c9
        have c9b1 : (t113 != a0_0) = false := bne_eq_false_iff_eq.mpr c9
        clear c9
        by_cases c10 : t114 = a0_1
        ·rw [if_pos c10] at H
         have c10b0 : (t114 == a0_1) = true := beq_iff_eq.mpr c10
         have c10b1 : (t114 != a0_1) = false := bne_eq_false_iff_eq.mpr c10
         clear c10
         obtain ⟨y115, hy115⟩ : ∃ y_ : List Int, y_ = (([x4_1, x5_2] : List Int)) := ⟨_, rfl⟩
         replace H : (if x3_2.length < 5864062014805 then (spec_boSteps.l1 k2 (x3_2 ++ [y115]) x4_1 (wrap64 (x5_2 + 1)) a0_0 a0_1) else (none)) = some r := by first | (rw [hy115]; with_reducible exact H) | (have H2_ := (Option.bind_some _ _).symm.trans H; rw [hy115]; with_reducible exact H2_) | (have H2_ := (Option.bind_some _ _).symm.trans H; with_reducible exact H2_) | with_reducible exact H | (rw [hy115]; exact H) | exact H
         have Ny115 := zA hy115
         clear hy115
         by_cases c11 : x3_2.length < 5864062014805
         ·rw [if_pos c11] at H
          have LMc11 := zA c11
          clear c11
          obtain ⟨y118, hy118⟩ : ∃ y_ : List (List Int), y_ = (x3_2 ++ [y115]) := ⟨_, rfl⟩
          replace H : (spec_boSteps.l1 k2 y118 x4_1 (wrap64 (x5_2 + 1)) a0_0 a0_1) = some r := by first | (rw [hy118]; with_reducible exact H) | (have H2_ := (Option.bind_some _ _).symm.trans H; rw [hy118]; with_reducible exact H2_) | (have H2_ := (Option.bind_some _ _).symm.trans H; with_reducible exact H2_) | with_reducible exact H | (rw [hy118]; exact H) | exact H
          have Ny118 := zA hy118
          clear hy118
          have H' := zA H
          clear H
          obtain ⟨z12_0, z12_1, y12_0, y12_1⟩ := zc2 BK112
          go_wp2_with (first | ((with_reducible refine gate_callee (f := 87) rfl ?_); refine goesL_ (some 27) rfl rfl Try.func87 zn rfl #[.int .i64 x4_1] rfl zm ?_; (with_reducible refine (spec_l1Abs.calls x4_1 t113 _ A7.out).mono ?_); rintro e w' ⟨rfl, ⟨nd, rfl⟩⟩; refine ⟨_, rfl, ?_⟩) | ((with_reducible refine gate_callee (f := 87) rfl ?_); refine goesL_ (some 29) rfl rfl Try.func87 zn rfl #[.int .i64 x5_2] rfl zm ?_; (with_reducible refine (spec_l1Abs.calls x5_2 t114 _ A8.out).mono ?_); rintro e w' ⟨rfl, ⟨nd, rfl⟩⟩; refine ⟨_, rfl, ?_⟩) | ((with_reducible refine gate_dst (N := 55) rfl ?_); refine Kd.R_lit (Kd.int .i64) _ 3 ?hg (N := 55) ?hd (xs := ([x4_1, x5_2] : List Int)) (inner := [.int .i64 x4_1, .int .i64 x5_2]) (ok := fun _ => True) (okp := fun _ => True) ?hr ?hp (fun _ hk => hk) trivial (Below.refl _ _) (Nat.le_refl _) (by simp) ?_; (case hd => rfl); (case hg => rfl); (case hr => first | (go_simp; done) | (go_simp; rfl)); (case hp => exact (Reps.one (show Kd.M (Kd.int .i64) _ _ _ x4_1 [.int .i64 x4_1] from rfl) (Reps.one (show Kd.M (Kd.int .i64) _ _ _ x5_2 [.int .i64 x5_2] from rfl) (Reps.none _ _)))); intro v116 w13 ho14 hb hg_ hnew_; clear hg_ hnew_; (first | rw [← Ny115.out] at ho14 | (simp only [Int.reduceToNat] at ho14; rw [← Ny115.out] at ho14)); replace HO_3 := zA (Kd.S_elder' (zL HO_3.out) (Kd.R_base ho14) hb); have HO117 := zA (Kd.R_lower ho14 (below_size (zB1 HB GE112))); replace BK112 := zKb BK112 hb; replace HB := zA (below_step (zB1 HB GE112) hb); clear hb ho14; obtain ⟨Ao16, co16, eo16⟩ := Kd.R_slice HO117.out; subst eo16) | ((with_reducible refine gate_builtin (b := .append) (xs := #[.tmp 52, .tmp 56]) rfl ?_); at_builtin; refine Kd.S_append (Kd.slice 3 (Kd.int .i64)) (w0 := w) w.heap.size rfl (.tmp 52) (.tmp 56) 71 33 (.slice none 0 0) 24 rfl Try.underlying71 info33 rfl (by decide) (by omega) u3 x3_2 y115 [.slice Ao16 y115.length co16] (fun _ => True) (fun k_ => some k_ = (.slice Ao16 y115.length co16 : Value).ownBlock) rfl rfl ?aP (fun k_ hk_ => ((Kd.R_mono (ok' := fun k_ => ((fun _ => True)) k_ ∧ some k_ ≠ (u3 : Value).ownBlock) (Kd.R_apart' (HO117.out) (Kd.S_typed HO_3.out) (by decide)) (fun k_ hk => ⟨trivial, hk.2⟩))).1 k_ hk_.symm) ?aF ?aO ?aB ?aS ?aL ?_; (case aP => exact Kd.M_row (Kd.R_mono (Kd.R_tight rfl (Kd.R_mono (ok' := fun k_ => ((fun _ => True)) k_ ∧ some k_ ≠ (u3 : Value).ownBlock) (Kd.R_apart' (HO117.out) (Kd.S_typed HO_3.out) (by decide)) (fun k_ hk => ⟨trivial, hk.2⟩))) (fun _ h_ => h_))); (case aB => exact (zB1 HB GE112)); (case aF => exact (fun _ _ => trivial)); (case aO => exact (by (with_reducible repeat (first | apply Kd.S_alloc | apply Kd.S_drewN | apply Kd.S_drew)); exact Kd.S_mono HO_3.out (fun k_ hk => ⟨trivial, fun e_ => hk.2 e_⟩))); (case aS => exact (below_size (zB1 HB GE112))); (case aL => have := LMc11.out; omega); intro v119 w15 ho hb hg hat; rw [← Ny118.out] at ho; have n0_ := zA (blk_grown (g := gb112) (o := .cells #[.int .i64 a0_0, .int .i64 a0_1] 30 (0, 0)) (zK BK112) hg (Kd.S_ne HO_3.out BK112.out (by decide))); have n1_ := zA (hb); have n2_ := zA (ho); clear BK112; clear HB; clear HO_3; clear HO117; have BK112 := n0_; have HB := n1_; have HO120 := n2_; clear n0_ n1_ n2_; clear ho hb hg hat))
          go_roundg k2
          case measure => have := HK1.out; have := HK2.out; omega
          case rel => exact ⟨(y118), (wrap64 (x5_2 + 1)), ze, H', ⟨by have := HK1.out; have := HK2.out; omega⟩, ⟨zL HO120.out⟩, ⟨zK BK112⟩, ⟨zB1 HB GE112⟩⟩
         ·rw [if_neg c11] at H
          exact absurd H (by simp)
        ·rw [if_neg c10] at H
         have c10b0 : (t114 == a0_1) = false := beq_eq_false_iff_ne.mpr c10
         have c10b1 : (t114 != a0_1) = true := bne_iff_ne.mpr c10
         by_cases c17 : t113 = a0_1
         ·rw [if_pos c17] at H
          have c17b0 : (t113 == a0_1) = true := beq_iff_eq.mpr c17
          have c17b1 : (t113 != a0_1) = false := bne_eq_false_iff_eq.mpr c17
          clear c17
          by_cases c18 : t114 = a0_0
          ·rw [if_pos c18] at H
           have c18b0 : (t114 == a0_0) = true := beq_iff_eq.mpr c18
           have c18b1 : (t114 != a0_0) = false := bne_eq_false_iff_eq.mpr c18
           clear c18
           obtain ⟨y121, hy121⟩ : ∃ y_ : List Int, y_ = (([x4_1, x5_2] : List Int)) := ⟨_, rfl⟩
           replace H : (if x3_2.length < 5864062014805 then (spec_boSteps.l1 k2 (x3_2 ++ [y121]) x4_1 (wrap64 (x5_2 + 1)) a0_0 a0_1) else (none)) = some r := by first | (rw [hy121]; with_reducible exact H) | (have H2_ := (Option.bind_some _ _).symm.trans H; rw [hy121]; with_reducible exact H2_) | (have H2_ := (Option.bind_some _ _).symm.trans H; with_reducible exact H2_) | with_reducible exact H | (rw [hy121]; exact H) | exact H
           have Ny121 := zA hy121
           clear hy121
           by_cases c19 : x3_2.length < 5864062014805
           ·rw [if_pos c19] at H
            have LMc19 := zA c19
            clear c19
            obtain ⟨y124, hy124⟩ : ∃ y_ : List (List Int), y_ = (x3_2 ++ [y121]) := ⟨_, rfl⟩
            replace H : (spec_boSteps.l1 k2 y124 x4_1 (wrap64 (x5_2 + 1)) a0_0 a0_1) = some r := by first | (rw [hy124]; with_reducible exact H) | (have H2_ := (Option.bind_some _ _).symm.trans H; rw [hy124]; with_reducible exact H2_) | (have H2_ := (Option.bind_some _ _).symm.trans H; with_reducible exact H2_) | with_reducible exact H | (rw [hy124]; exact H) | exact H
            have Ny124 := zA hy124
            clear hy124
            have H' := zA H
            clear H
            obtain ⟨z20_0, z20_1, y20_0, y20_1⟩ := zc2 BK112
            go_wp2_with (first | ((with_reducible refine gate_callee (f := 87) rfl ?_); refine goesL_ (some 27) rfl rfl Try.func87 zn rfl #[.int .i64 x4_1] rfl zm ?_; (with_reducible refine (spec_l1Abs.calls x4_1 t113 _ A7.out).mono ?_); rintro e w' ⟨rfl, ⟨nd, rfl⟩⟩; refine ⟨_, rfl, ?_⟩) | ((with_reducible refine gate_callee (f := 87) rfl ?_); refine goesL_ (some 29) rfl rfl Try.func87 zn rfl #[.int .i64 x5_2] rfl zm ?_; (with_reducible refine (spec_l1Abs.calls x5_2 t114 _ A8.out).mono ?_); rintro e w' ⟨rfl, ⟨nd, rfl⟩⟩; refine ⟨_, rfl, ?_⟩) | ((with_reducible refine gate_dst (N := 55) rfl ?_); refine Kd.R_lit (Kd.int .i64) _ 3 ?hg (N := 55) ?hd (xs := ([x4_1, x5_2] : List Int)) (inner := [.int .i64 x4_1, .int .i64 x5_2]) (ok := fun _ => True) (okp := fun _ => True) ?hr ?hp (fun _ hk => hk) trivial (Below.refl _ _) (Nat.le_refl _) (by simp) ?_; (case hd => rfl); (case hg => rfl); (case hr => first | (go_simp; done) | (go_simp; rfl)); (case hp => exact (Reps.one (show Kd.M (Kd.int .i64) _ _ _ x4_1 [.int .i64 x4_1] from rfl) (Reps.one (show Kd.M (Kd.int .i64) _ _ _ x5_2 [.int .i64 x5_2] from rfl) (Reps.none _ _)))); intro v122 w21 ho22 hb hg_ hnew_; clear hg_ hnew_; (first | rw [← Ny121.out] at ho22 | (simp only [Int.reduceToNat] at ho22; rw [← Ny121.out] at ho22)); replace HO_3 := zA (Kd.S_elder' (zL HO_3.out) (Kd.R_base ho22) hb); have HO123 := zA (Kd.R_lower ho22 (below_size (zB1 HB GE112))); replace BK112 := zKb BK112 hb; replace HB := zA (below_step (zB1 HB GE112) hb); clear hb ho22; obtain ⟨Ao24, co24, eo24⟩ := Kd.R_slice HO123.out; subst eo24) | ((with_reducible refine gate_builtin (b := .append) (xs := #[.tmp 52, .tmp 56]) rfl ?_); at_builtin; refine Kd.S_append (Kd.slice 3 (Kd.int .i64)) (w0 := w) w.heap.size rfl (.tmp 52) (.tmp 56) 71 33 (.slice none 0 0) 24 rfl Try.underlying71 info33 rfl (by decide) (by omega) u3 x3_2 y121 [.slice Ao24 y121.length co24] (fun _ => True) (fun k_ => some k_ = (.slice Ao24 y121.length co24 : Value).ownBlock) rfl rfl ?aP (fun k_ hk_ => ((Kd.R_mono (ok' := fun k_ => ((fun _ => True)) k_ ∧ some k_ ≠ (u3 : Value).ownBlock) (Kd.R_apart' (HO123.out) (Kd.S_typed HO_3.out) (by decide)) (fun k_ hk => ⟨trivial, hk.2⟩))).1 k_ hk_.symm) ?aF ?aO ?aB ?aS ?aL ?_; (case aP => exact Kd.M_row (Kd.R_mono (Kd.R_tight rfl (Kd.R_mono (ok' := fun k_ => ((fun _ => True)) k_ ∧ some k_ ≠ (u3 : Value).ownBlock) (Kd.R_apart' (HO123.out) (Kd.S_typed HO_3.out) (by decide)) (fun k_ hk => ⟨trivial, hk.2⟩))) (fun _ h_ => h_))); (case aB => exact (zB1 HB GE112)); (case aF => exact (fun _ _ => trivial)); (case aO => exact (by (with_reducible repeat (first | apply Kd.S_alloc | apply Kd.S_drewN | apply Kd.S_drew)); exact Kd.S_mono HO_3.out (fun k_ hk => ⟨trivial, fun e_ => hk.2 e_⟩))); (case aS => exact (below_size (zB1 HB GE112))); (case aL => have := LMc19.out; omega); intro v125 w23 ho hb hg hat; rw [← Ny124.out] at ho; have n0_ := zA (blk_grown (g := gb112) (o := .cells #[.int .i64 a0_0, .int .i64 a0_1] 30 (0, 0)) (zK BK112) hg (Kd.S_ne HO_3.out BK112.out (by decide))); have n1_ := zA (hb); have n2_ := zA (ho); clear BK112; clear HB; clear HO_3; clear HO123; have BK112 := n0_; have HB := n1_; have HO126 := n2_; clear n0_ n1_ n2_; clear ho hb hg hat))
            go_roundg k2
            case measure => have := HK1.out; have := HK2.out; omega
            case rel => exact ⟨(y124), (wrap64 (x5_2 + 1)), ze, H', ⟨by have := HK1.out; have := HK2.out; omega⟩, ⟨zL HO126.out⟩, ⟨zK BK112⟩, ⟨zB1 HB GE112⟩⟩
           ·rw [if_neg c19] at H
            exact absurd H (by simp)
          ·rw [if_neg c18] at H
           have c18b0 : (t114 == a0_0) = false := beq_eq_false_iff_ne.mpr c18
           have c18b1 : (t114 != a0_0) = true := bne_iff_ne.mpr c18
           have H' := zA H
           clear H
           obtain ⟨z25_0, z25_1, y25_0, y25_1⟩ := zc2 BK112
           go_wp2_with (first | ((with_reducible refine gate_callee (f := 87) rfl ?_); refine goesL_ (some 27) rfl rfl Try.func87 zn rfl #[.int .i64 x4_1] rfl zm ?_; (with_reducible refine (spec_l1Abs.calls x4_1 t113 _ A7.out).mono ?_); rintro e w' ⟨rfl, ⟨nd, rfl⟩⟩; refine ⟨_, rfl, ?_⟩) | ((with_reducible refine gate_callee (f := 87) rfl ?_); refine goesL_ (some 29) rfl rfl Try.func87 zn rfl #[.int .i64 x5_2] rfl zm ?_; (with_reducible refine (spec_l1Abs.calls x5_2 t114 _ A8.out).mono ?_); rintro e w' ⟨rfl, ⟨nd, rfl⟩⟩; refine ⟨_, rfl, ?_⟩))
           go_roundg k2
           case measure => have := HK1.out; have := HK2.out; omega
           case rel => exact ⟨(x3_2), (wrap64 (x5_2 + 1)), ze, H', ⟨by have := HK1.out; have := HK2.out; omega⟩, ⟨zL HO_3.out⟩, ⟨zK BK112⟩, ⟨zB1 HB GE112⟩⟩
         ·rw [if_neg c17] at H
          have c17b0 : (t113 == a0_1) = false := beq_eq_false_iff_ne.mpr c17
          have c17b1 : (t113 != a0_1) = true := bne_iff_ne.mpr c17
          have H' := zA H
          clear H
          obtain ⟨z26_0, z26_1, y26_0, y26_1⟩ := zc2 BK112
          go_wp2_with (first | ((with_reducible refine gate_callee (f := 87) rfl ?_); refine goesL_ (some 27) rfl rfl Try.func87 zn rfl #[.int .i64 x4_1] rfl zm ?_; (with_reducible refine (spec_l1Abs.calls x4_1 t113 _ A7.out).mono ?_); rintro e w' ⟨rfl, ⟨nd, rfl⟩⟩; refine ⟨_, rfl, ?_⟩) | ((with_reducible refine gate_callee (f := 87) rfl ?_); refine goesL_ (some 29) rfl rfl Try.func87 zn rfl #[.int .i64 x5_2] rfl zm ?_; (with_reducible refine (spec_l1Abs.calls x5_2 t114 _ A8.out).mono ?_); rintro e w' ⟨rfl, ⟨nd, rfl⟩⟩; refine ⟨_, rfl, ?_⟩))
          go_roundg k2
          case measure => have := HK1.out; have := HK2.out; omega
          case rel => exact ⟨(x3_2), (wrap64 (x5_2 + 1)), ze, H', ⟨by have := HK1.out; have := HK2.out; omega⟩, ⟨zL HO_3.out⟩, ⟨zK BK112⟩, ⟨zB1 HB GE112⟩⟩
       ·rw [if_neg c9] at H
        have c9b0 : (t113 == a0_0) = false := beq_eq_false_iff_ne.mpr c9
        have c9b1 : (t113 != a0_0) = true := bne_iff_ne.mpr c9
        by_cases c27 : t113 = a0_1
        ·rw [if_pos c27] at H
         have c27b0 : (t113 == a0_1) = true := beq_iff_eq.mpr c27
         have c27b1 : (t113 != a0_1) = false := bne_eq_false_iff_eq.mpr c27
         clear c27
         by_cases c28 : t114 = a0_0
         ·rw [if_pos c28] at H
          have c28b0 : (t114 == a0_0) = true := beq_iff_eq.mpr c28
          have c28b1 : (t114 != a0_0) = false := bne_eq_false_iff_eq.mpr c28
          clear c28
          obtain ⟨y127, hy127⟩ : ∃ y_ : List Int, y_ = (([x4_1, x5_2] : List Int)) := ⟨_, rfl⟩
          replace H : (if x3_2.length < 5864062014805 then (spec_boSteps.l1 k2 (x3_2 ++ [y127]) x4_1 (wrap64 (x5_2 + 1)) a0_0 a0_1) else (none)) = some r := by first | (rw [hy127]; with_reducible exact H) | (have H2_ := (Option.bind_some _ _).symm.trans H; rw [hy127]; with_reducible exact H2_) | (have H2_ := (Option.bind_some _ _).symm.trans H; with_reducible exact H2_) | with_reducible exact H | (rw [hy127]; exact H) | exact H
          have Ny127 := zA hy127
          clear hy127
          by_cases c29 : x3_2.length < 5864062014805
          ·rw [if_pos c29] at H
           have LMc29 := zA c29
           clear c29
           obtain ⟨y130, hy130⟩ : ∃ y_ : List (List Int), y_ = (x3_2 ++ [y127]) := ⟨_, rfl⟩
           replace H : (spec_boSteps.l1 k2 y130 x4_1 (wrap64 (x5_2 + 1)) a0_0 a0_1) = some r := by first | (rw [hy130]; with_reducible exact H) | (have H2_ := (Option.bind_some _ _).symm.trans H; rw [hy130]; with_reducible exact H2_) | (have H2_ := (Option.bind_some _ _).symm.trans H; with_reducible exact H2_) | with_reducible exact H | (rw [hy130]; exact H) | exact H
           have Ny130 := zA hy130
           clear hy130
           have H' := zA H
           clear H
           obtain ⟨z30_0, z30_1, y30_0, y30_1⟩ := zc2 BK112
           go_wp2_with (first | ((with_reducible refine gate_callee (f := 87) rfl ?_); refine goesL_ (some 27) rfl rfl Try.func87 zn rfl #[.int .i64 x4_1] rfl zm ?_; (with_reducible refine (spec_l1Abs.calls x4_1 t113 _ A7.out).mono ?_); rintro e w' ⟨rfl, ⟨nd, rfl⟩⟩; refine ⟨_, rfl, ?_⟩) | ((with_reducible refine gate_callee (f := 87) rfl ?_); refine goesL_ (some 29) rfl rfl Try.func87 zn rfl #[.int .i64 x5_2] rfl zm ?_; (with_reducible refine (spec_l1Abs.calls x5_2 t114 _ A8.out).mono ?_); rintro e w' ⟨rfl, ⟨nd, rfl⟩⟩; refine ⟨_, rfl, ?_⟩) | ((with_reducible refine gate_dst (N := 55) rfl ?_); refine Kd.R_lit (Kd.int .i64) _ 3 ?hg (N := 55) ?hd (xs := ([x4_1, x5_2] : List Int)) (inner := [.int .i64 x4_1, .int .i64 x5_2]) (ok := fun _ => True) (okp := fun _ => True) ?hr ?hp (fun _ hk => hk) trivial (Below.refl _ _) (Nat.le_refl _) (by simp) ?_; (case hd => rfl); (case hg => rfl); (case hr => first | (go_simp; done) | (go_simp; rfl)); (case hp => exact (Reps.one (show Kd.M (Kd.int .i64) _ _ _ x4_1 [.int .i64 x4_1] from rfl) (Reps.one (show Kd.M (Kd.int .i64) _ _ _ x5_2 [.int .i64 x5_2] from rfl) (Reps.none _ _)))); intro v128 w31 ho32 hb hg_ hnew_; clear hg_ hnew_; (first | rw [← Ny127.out] at ho32 | (simp only [Int.reduceToNat] at ho32; rw [← Ny127.out] at ho32)); replace HO_3 := zA (Kd.S_elder' (zL HO_3.out) (Kd.R_base ho32) hb); have HO129 := zA (Kd.R_lower ho32 (below_size (zB1 HB GE112))); replace BK112 := zKb BK112 hb; replace HB := zA (below_step (zB1 HB GE112) hb); clear hb ho32; obtain ⟨Ao34, co34, eo34⟩ := Kd.R_slice HO129.out; subst eo34) | ((with_reducible refine gate_builtin (b := .append) (xs := #[.tmp 52, .tmp 56]) rfl ?_); at_builtin; refine Kd.S_append (Kd.slice 3 (Kd.int .i64)) (w0 := w) w.heap.size rfl (.tmp 52) (.tmp 56) 71 33 (.slice none 0 0) 24 rfl Try.underlying71 info33 rfl (by decide) (by omega) u3 x3_2 y127 [.slice Ao34 y127.length co34] (fun _ => True) (fun k_ => some k_ = (.slice Ao34 y127.length co34 : Value).ownBlock) rfl rfl ?aP (fun k_ hk_ => ((Kd.R_mono (ok' := fun k_ => ((fun _ => True)) k_ ∧ some k_ ≠ (u3 : Value).ownBlock) (Kd.R_apart' (HO129.out) (Kd.S_typed HO_3.out) (by decide)) (fun k_ hk => ⟨trivial, hk.2⟩))).1 k_ hk_.symm) ?aF ?aO ?aB ?aS ?aL ?_; (case aP => exact Kd.M_row (Kd.R_mono (Kd.R_tight rfl (Kd.R_mono (ok' := fun k_ => ((fun _ => True)) k_ ∧ some k_ ≠ (u3 : Value).ownBlock) (Kd.R_apart' (HO129.out) (Kd.S_typed HO_3.out) (by decide)) (fun k_ hk => ⟨trivial, hk.2⟩))) (fun _ h_ => h_))); (case aB => exact (zB1 HB GE112)); (case aF => exact (fun _ _ => trivial)); (case aO => exact (by (with_reducible repeat (first | apply Kd.S_alloc | apply Kd.S_drewN | apply Kd.S_drew)); exact Kd.S_mono HO_3.out (fun k_ hk => ⟨trivial, fun e_ => hk.2 e_⟩))); (case aS => exact (below_size (zB1 HB GE112))); (case aL => have := LMc29.out; omega); intro v131 w33 ho hb hg hat; rw [← Ny130.out] at ho; have n0_ := zA (blk_grown (g := gb112) (o := .cells #[.int .i64 a0_0, .int .i64 a0_1] 30 (0, 0)) (zK BK112) hg (Kd.S_ne HO_3.out BK112.out (by decide))); have n1_ := zA (hb); have n2_ := zA (ho); clear BK112; clear HB; clear HO_3; clear HO129; have BK112 := n0_; have HB := n1_; have HO132 := n2_; clear n0_ n1_ n2_; clear ho hb hg hat))
           go_roundg k2
           case measure => have := HK1.out; have := HK2.out; omega
           case rel => exact ⟨(y130), (wrap64 (x5_2 + 1)), ze, H', ⟨by have := HK1.out; have := HK2.out; omega⟩, ⟨zL HO132.out⟩, ⟨zK BK112⟩, ⟨zB1 HB GE112⟩⟩
          ·rw [if_neg c29] at H
           exact absurd H (by simp)
         ·rw [if_neg c28] at H
          have c28b0 : (t114 == a0_0) = false := beq_eq_false_iff_ne.mpr c28
          have c28b1 : (t114 != a0_0) = true := bne_iff_ne.mpr c28
          have H' := zA H
          clear H
          obtain ⟨z35_0, z35_1, y35_0, y35_1⟩ := zc2 BK112
          go_wp2_with (first | ((with_reducible refine gate_callee (f := 87) rfl ?_); refine goesL_ (some 27) rfl rfl Try.func87 zn rfl #[.int .i64 x4_1] rfl zm ?_; (with_reducible refine (spec_l1Abs.calls x4_1 t113 _ A7.out).mono ?_); rintro e w' ⟨rfl, ⟨nd, rfl⟩⟩; refine ⟨_, rfl, ?_⟩) | ((with_reducible refine gate_callee (f := 87) rfl ?_); refine goesL_ (some 29) rfl rfl Try.func87 zn rfl #[.int .i64 x5_2] rfl zm ?_; (with_reducible refine (spec_l1Abs.calls x5_2 t114 _ A8.out).mono ?_); rintro e w' ⟨rfl, ⟨nd, rfl⟩⟩; refine ⟨_, rfl, ?_⟩))
          go_roundg k2
          case measure => have := HK1.out; have := HK2.out; omega
          case rel => exact ⟨(x3_2), (wrap64 (x5_2 + 1)), ze, H', ⟨by have := HK1.out; have := HK2.out; omega⟩, ⟨zL HO_3.out⟩, ⟨zK BK112⟩, ⟨zB1 HB GE112⟩⟩
        ·rw [if_neg c27] at H
         have c27b0 : (t113 == a0_1) = false := beq_eq_false_iff_ne.mpr c27
         have c27b1 : (t113 != a0_1) = true := bne_iff_ne.mpr c27
         have H' := zA H
         clear H
         obtain ⟨z36_0, z36_1, y36_0, y36_1⟩ := zc2 BK112
         go_wp2_with (first | ((with_reducible refine gate_callee (f := 87) rfl ?_); refine goesL_ (some 27) rfl rfl Try.func87 zn rfl #[.int .i64 x4_1] rfl zm ?_; (with_reducible refine (spec_l1Abs.calls x4_1 t113 _ A7.out).mono ?_); rintro e w' ⟨rfl, ⟨nd, rfl⟩⟩; refine ⟨_, rfl, ?_⟩) | ((with_reducible refine gate_callee (f := 87) rfl ?_); refine goesL_ (some 29) rfl rfl Try.func87 zn rfl #[.int .i64 x5_2] rfl zm ?_; (with_reducible refine (spec_l1Abs.calls x5_2 t114 _ A8.out).mono ?_); rintro e w' ⟨rfl, ⟨nd, rfl⟩⟩; refine ⟨_, rfl, ?_⟩))
         go_roundg k2
         case measure => have := HK1.out; have := HK2.out; omega
         case rel => exact ⟨(x3_2), (wrap64 (x5_2 + 1)), ze, H', ⟨by have := HK1.out; have := HK2.out; omega⟩, ⟨zL HO_3.out⟩, ⟨zK BK112⟩, ⟨zB1 HB GE112⟩⟩
      ·rw [if_neg c6] at H
       have c6b0 : decide (x5_2 ≤ a0_1) = false := decide_eq_false c6
       clear c6
       have H' := zA H
       clear H
       obtain ⟨z37_0, z37_1, y37_0, y37_1⟩ := zc2 BK112
       go_wp2
       go_roundg k2
       case measure => have := HK1.out; have := HK2.out; omega
       case rel => exact ⟨(x3_2), (wrap64 (x4_1 + 1)), ze, H', ⟨by have := HK1.out; have := HK2.out; omega⟩, ⟨zL HO_3.out⟩, ⟨zK BK112⟩, ⟨zB1 HB GE112⟩⟩
   ·rw [if_neg c4] at H
    have c4b0 : decide (x4_1 ≤ a0_1) = false := decide_eq_false c4
    clear c4
    obtain rfl := Option.some.inj H
    obtain ⟨z38_0, z38_1, y38_0, y38_1⟩ := zc2 BK112
    go_wp2
    go_ret
    exact ⟨_, zt, by (with_reducible repeat (first | apply Kd.S_alloc | apply Kd.S_drewN | apply Kd.S_drew)); exact HO_3.out, zB1 HB GE112⟩
def spec_arStep.f (a0_0 : Int) (a0_1 : Int) (a0_2 : Bool) (a0_3 : Bool) (a1 : Int) (a2 : Int) (a3 : Int) : Option (Int) := if a0_0 = 0 then (none) else (if a0_2 = true then (if a0_3 = true then (if a0_1 = 0 then (none) else ((spec_l1In.f (Int.tmod (wrap64 ((Int.tmod (wrap64 ((Int.tmod a1 a0_0) + a2)) a0_0) + a0_0)) a0_0) 0 (wrap64 (a0_0 - 1))).bind fun t134 => (if t134 = true then ((spec_l1In.f (Int.tmod (wrap64 ((Int.tmod (wrap64 ((wrap64 (Int.tdiv a1 a0_0)) + a3)) a0_1) + a0_1)) a0_1) 0 (wrap64 (a0_1 - 1))).bind fun t135 => (if t135 = true then (some (wrap64 ((wrap64 ((Int.tmod (wrap64 ((Int.tmod (wrap64 ((wrap64 (Int.tdiv a1 a0_0)) + a3)) a0_1) + a0_1)) a0_1) * a0_0)) + (Int.tmod (wrap64 ((Int.tmod (wrap64 ((Int.tmod a1 a0_0) + a2)) a0_0) + a0_0)) a0_0)))) else (some (-1)))) else (some (-1))))) else ((spec_l1In.f (Int.tmod (wrap64 ((Int.tmod (wrap64 ((Int.tmod a1 a0_0) + a2)) a0_0) + a0_0)) a0_0) 0 (wrap64 (a0_0 - 1))).bind fun t136 => (if t136 = true then ((spec_l1In.f (wrap64 ((wrap64 (Int.tdiv a1 a0_0)) + a3)) 0 (wrap64 (a0_1 - 1))).bind fun t137 => (if t137 = true then (some (wrap64 ((wrap64 ((wrap64 ((wrap64 (Int.tdiv a1 a0_0)) + a3)) * a0_0)) + (Int.tmod (wrap64 ((Int.tmod (wrap64 ((Int.tmod a1 a0_0) + a2)) a0_0) + a0_0)) a0_0)))) else (some (-1)))) else (some (-1))))) else (if a0_3 = true then (if a0_1 = 0 then (none) else ((spec_l1In.f (wrap64 ((Int.tmod a1 a0_0) + a2)) 0 (wrap64 (a0_0 - 1))).bind fun t138 => (if t138 = true then ((spec_l1In.f (Int.tmod (wrap64 ((Int.tmod (wrap64 ((wrap64 (Int.tdiv a1 a0_0)) + a3)) a0_1) + a0_1)) a0_1) 0 (wrap64 (a0_1 - 1))).bind fun t139 => (if t139 = true then (some (wrap64 ((wrap64 ((Int.tmod (wrap64 ((Int.tmod (wrap64 ((wrap64 (Int.tdiv a1 a0_0)) + a3)) a0_1) + a0_1)) a0_1) * a0_0)) + (wrap64 ((Int.tmod a1 a0_0) + a2))))) else (some (-1)))) else (some (-1))))) else ((spec_l1In.f (wrap64 ((Int.tmod a1 a0_0) + a2)) 0 (wrap64 (a0_0 - 1))).bind fun t140 => (if t140 = true then ((spec_l1In.f (wrap64 ((wrap64 (Int.tdiv a1 a0_0)) + a3)) 0 (wrap64 (a0_1 - 1))).bind fun t141 => (if t141 = true then (some (wrap64 ((wrap64 ((wrap64 ((wrap64 (Int.tdiv a1 a0_0)) + a3)) * a0_0)) + (wrap64 ((Int.tmod a1 a0_0) + a2))))) else (some (-1)))) else (some (-1))))))
set_option maxHeartbeats 8000000 in
set_option maxRecDepth 100000 in
theorem spec_arStep.calls (a0_0 : Int) (a0_1 : Int) (a0_2 : Bool) (a0_3 : Bool) (a1 : Int) (a2 : Int) (a3 : Int) (r : Int) (w : World) (h : spec_arStep.f a0_0 a0_1 a0_2 a0_3 a1 a2 a3 = some r) :
  Calls Try.prog 108 #[.agg #[.int .i64 a0_0, .int .i64 a0_1, .bool a0_2, .bool a0_3], .int .i64 a1, .int .i64 a2, .int .i64 a3] w fun e w' => e = .returned (.int .i64 r) ∧ Below w.heap.size w w' := by
 have hu28 := Try.underlying28
 have HB := zA (Below.refl w.heap.size w)
 have H : (if a0_0 = 0 then (none) else (if a0_2 = true then (if a0_3 = true then (if a0_1 = 0 then (none) else ((spec_l1In.f (Int.tmod (wrap64 ((Int.tmod (wrap64 ((Int.tmod a1 a0_0) + a2)) a0_0) + a0_0)) a0_0) 0 (wrap64 (a0_0 - 1))).bind fun t134 => (if t134 = true then ((spec_l1In.f (Int.tmod (wrap64 ((Int.tmod (wrap64 ((wrap64 (Int.tdiv a1 a0_0)) + a3)) a0_1) + a0_1)) a0_1) 0 (wrap64 (a0_1 - 1))).bind fun t135 => (if t135 = true then (some (wrap64 ((wrap64 ((Int.tmod (wrap64 ((Int.tmod (wrap64 ((wrap64 (Int.tdiv a1 a0_0)) + a3)) a0_1) + a0_1)) a0_1) * a0_0)) + (Int.tmod (wrap64 ((Int.tmod (wrap64 ((Int.tmod a1 a0_0) + a2)) a0_0) + a0_0)) a0_0)))) else (some (-1)))) else (some (-1))))) else ((spec_l1In.f (Int.tmod (wrap64 ((Int.tmod (wrap64 ((Int.tmod a1 a0_0) + a2)) a0_0) + a0_0)) a0_0) 0 (wrap64 (a0_0 - 1))).bind fun t136 => (if t136 = true then ((spec_l1In.f (wrap64 ((wrap64 (Int.tdiv a1 a0_0)) + a3)) 0 (wrap64 (a0_1 - 1))).bind fun t137 => (if t137 = true then (some (wrap64 ((wrap64 ((wrap64 ((wrap64 (Int.tdiv a1 a0_0)) + a3)) * a0_0)) + (Int.tmod (wrap64 ((Int.tmod (wrap64 ((Int.tmod a1 a0_0) + a2)) a0_0) + a0_0)) a0_0)))) else (some (-1)))) else (some (-1))))) else (if a0_3 = true then (if a0_1 = 0 then (none) else ((spec_l1In.f (wrap64 ((Int.tmod a1 a0_0) + a2)) 0 (wrap64 (a0_0 - 1))).bind fun t138 => (if t138 = true then ((spec_l1In.f (Int.tmod (wrap64 ((Int.tmod (wrap64 ((wrap64 (Int.tdiv a1 a0_0)) + a3)) a0_1) + a0_1)) a0_1) 0 (wrap64 (a0_1 - 1))).bind fun t139 => (if t139 = true then (some (wrap64 ((wrap64 ((Int.tmod (wrap64 ((Int.tmod (wrap64 ((wrap64 (Int.tdiv a1 a0_0)) + a3)) a0_1) + a0_1)) a0_1) * a0_0)) + (wrap64 ((Int.tmod a1 a0_0) + a2))))) else (some (-1)))) else (some (-1))))) else ((spec_l1In.f (wrap64 ((Int.tmod a1 a0_0) + a2)) 0 (wrap64 (a0_0 - 1))).bind fun t140 => (if t140 = true then ((spec_l1In.f (wrap64 ((wrap64 (Int.tdiv a1 a0_0)) + a3)) 0 (wrap64 (a0_1 - 1))).bind fun t141 => (if t141 = true then (some (wrap64 ((wrap64 ((wrap64 ((wrap64 (Int.tdiv a1 a0_0)) + a3)) * a0_0)) + (wrap64 ((Int.tmod a1 a0_0) + a2))))) else (some (-1)))) else (some (-1))))))) = some r := h
 clear h
 by_cases c5 : a0_0 = 0
 ·rw [if_pos c5] at H
  exact absurd H (by simp)
 ·rw [if_neg c5] at H
  have c5b0 : (a0_0 == 0) = false := beq_eq_false_iff_ne.mpr c5
  have c5b1 : (a0_0 != 0) = true := bne_iff_ne.mpr c5
  by_cases c6 : a0_2 = true
  ·subst c6
   have H1 : (if a0_3 = true then (if a0_1 = 0 then (none) else ((spec_l1In.f (Int.tmod (wrap64 ((Int.tmod (wrap64 ((Int.tmod a1 a0_0) + a2)) a0_0) + a0_0)) a0_0) 0 (wrap64 (a0_0 - 1))).bind fun t134 => (if t134 = true then ((spec_l1In.f (Int.tmod (wrap64 ((Int.tmod (wrap64 ((wrap64 (Int.tdiv a1 a0_0)) + a3)) a0_1) + a0_1)) a0_1) 0 (wrap64 (a0_1 - 1))).bind fun t135 => (if t135 = true then (some (wrap64 ((wrap64 ((Int.tmod (wrap64 ((Int.tmod (wrap64 ((wrap64 (Int.tdiv a1 a0_0)) + a3)) a0_1) + a0_1)) a0_1) * a0_0)) + (Int.tmod (wrap64 ((Int.tmod (wrap64 ((Int.tmod a1 a0_0) + a2)) a0_0) + a0_0)) a0_0)))) else (some (-1)))) else (some (-1))))) else ((spec_l1In.f (Int.tmod (wrap64 ((Int.tmod (wrap64 ((Int.tmod a1 a0_0) + a2)) a0_0) + a0_0)) a0_0) 0 (wrap64 (a0_0 - 1))).bind fun t136 => (if t136 = true then ((spec_l1In.f (wrap64 ((wrap64 (Int.tdiv a1 a0_0)) + a3)) 0 (wrap64 (a0_1 - 1))).bind fun t137 => (if t137 = true then (some (wrap64 ((wrap64 ((wrap64 ((wrap64 (Int.tdiv a1 a0_0)) + a3)) * a0_0)) + (Int.tmod (wrap64 ((Int.tmod (wrap64 ((Int.tmod a1 a0_0) + a2)) a0_0) + a0_0)) a0_0)))) else (some (-1)))) else (some (-1))))) = some r := by rw [if_pos rfl] at H; exact H
   clear H
   have H := H1
   clear H1
   by_cases c7 : a0_3 = true
   ·subst c7
    have H1 : (if a0_1 = 0 then (none) else ((spec_l1In.f (Int.tmod (wrap64 ((Int.tmod (wrap64 ((Int.tmod a1 a0_0) + a2)) a0_0) + a0_0)) a0_0) 0 (wrap64 (a0_0 - 1))).bind fun t134 => (if t134 = true then ((spec_l1In.f (Int.tmod (wrap64 ((Int.tmod (wrap64 ((wrap64 (Int.tdiv a1 a0_0)) + a3)) a0_1) + a0_1)) a0_1) 0 (wrap64 (a0_1 - 1))).bind fun t135 => (if t135 = true then (some (wrap64 ((wrap64 ((Int.tmod (wrap64 ((Int.tmod (wrap64 ((wrap64 (Int.tdiv a1 a0_0)) + a3)) a0_1) + a0_1)) a0_1) * a0_0)) + (Int.tmod (wrap64 ((Int.tmod (wrap64 ((Int.tmod a1 a0_0) + a2)) a0_0) + a0_0)) a0_0)))) else (some (-1)))) else (some (-1))))) = some r := by rw [if_pos rfl] at H; exact H
    clear H
    have H := H1
    clear H1
    by_cases c8 : a0_1 = 0
    ·rw [if_pos c8] at H
     exact absurd H (by simp)
    ·rw [if_neg c8] at H
     have c8b0 : (a0_1 == 0) = false := beq_eq_false_iff_ne.mpr c8
     have c8b1 : (a0_1 != 0) = true := bne_iff_ne.mpr c8
     obtain ⟨t134, A9, H⟩ := zM H
     try dsimp only at H
     by_cases c10 : t134 = true
     ·subst c10
      have H1 : ((spec_l1In.f (Int.tmod (wrap64 ((Int.tmod (wrap64 ((wrap64 (Int.tdiv a1 a0_0)) + a3)) a0_1) + a0_1)) a0_1) 0 (wrap64 (a0_1 - 1))).bind fun t135 => (if t135 = true then (some (wrap64 ((wrap64 ((Int.tmod (wrap64 ((Int.tmod (wrap64 ((wrap64 (Int.tdiv a1 a0_0)) + a3)) a0_1) + a0_1)) a0_1) * a0_0)) + (Int.tmod (wrap64 ((Int.tmod (wrap64 ((Int.tmod a1 a0_0) + a2)) a0_0) + a0_0)) a0_0)))) else (some (-1)))) = some r := by rw [if_pos rfl] at H; exact H
      clear H
      have H := H1
      clear H1
      obtain ⟨t135, A11, H⟩ := zM H
      try dsimp only at H
      by_cases c12 : t135 = true
      ·subst c12
       have H1 : (some (wrap64 ((wrap64 ((Int.tmod (wrap64 ((Int.tmod (wrap64 ((wrap64 (Int.tdiv a1 a0_0)) + a3)) a0_1) + a0_1)) a0_1) * a0_0)) + (Int.tmod (wrap64 ((Int.tmod (wrap64 ((Int.tmod a1 a0_0) + a2)) a0_0) + a0_0)) a0_0)))) = some r := by rw [if_pos rfl] at H; exact H
       clear H
       have H := H1
       clear H1
       obtain rfl := Option.some.inj H
       go_enter Try.func108, Try.ntmps108
       go_wp2_with (first | ((with_reducible refine gate_dst (N := 4) rfl ?_); refine box_event zr (N := 4) zr (cs := #[.int .i64 a0_0, .int .i64 a0_1, .bool true, .bool true]) (t := 28) zh ?_; intro gb133 hg w13 hbox hb; have BK133 := zA (hbox); have GW133 := zA (zG hg (below_size (zB0 HB)) : w.heap.size ≤ gb133); have GE133 := zA (zG hg (below_size (zB0 HB)) : w.heap.size ≤ gb133); replace HB := zA (below_step (zB0 HB) hb); clear hb hbox hg; obtain ⟨z14_0, z14_1, z14_2, z14_3, y14_0, y14_1, y14_2, y14_3⟩ := zc4 BK133) | (go_at_call 77; (with_reducible refine (spec_l1In.calls (Int.tmod (wrap64 ((Int.tmod (wrap64 ((Int.tmod a1 a0_0) + a2)) a0_0) + a0_0)) a0_0) 0 (wrap64 (a0_0 - 1)) true _ A9.out).mono ?_); rintro e w' ⟨rfl, ⟨nd, rfl⟩⟩; (try exact zw)) | (go_at_call 77; (with_reducible refine (spec_l1In.calls (Int.tmod (wrap64 ((Int.tmod (wrap64 ((wrap64 (Int.tdiv a1 a0_0)) + a3)) a0_1) + a0_1)) a0_1) 0 (wrap64 (a0_1 - 1)) true _ A11.out).mono ?_); rintro e w' ⟨rfl, ⟨nd, rfl⟩⟩; (try exact zw)))
       repeat (go_quiet (first | ((with_reducible refine gate_dst (N := 4) rfl ?_); refine box_event zr (N := 4) zr (cs := #[.int .i64 a0_0, .int .i64 a0_1, .bool true, .bool true]) (t := 28) zh ?_; intro gb133 hg w13 hbox hb; have BK133 := zA (hbox); have GW133 := zA (zG hg (below_size (zB0 HB)) : w.heap.size ≤ gb133); have GE133 := zA (zG hg (below_size (zB0 HB)) : w.heap.size ≤ gb133); replace HB := zA (below_step (zB0 HB) hb); clear hb hbox hg; obtain ⟨z14_0, z14_1, z14_2, z14_3, y14_0, y14_1, y14_2, y14_3⟩ := zc4 BK133) | (go_at_call 77; (with_reducible refine (spec_l1In.calls (Int.tmod (wrap64 ((Int.tmod (wrap64 ((Int.tmod a1 a0_0) + a2)) a0_0) + a0_0)) a0_0) 0 (wrap64 (a0_0 - 1)) true _ A9.out).mono ?_); rintro e w' ⟨rfl, ⟨nd, rfl⟩⟩; (try exact zw)) | (go_at_call 77; (with_reducible refine (spec_l1In.calls (Int.tmod (wrap64 ((Int.tmod (wrap64 ((wrap64 (Int.tdiv a1 a0_0)) + a3)) a0_1) + a0_1)) a0_1) 0 (wrap64 (a0_1 - 1)) true _ A11.out).mono ?_); rintro e w' ⟨rfl, ⟨nd, rfl⟩⟩; (try exact zw))); try go_wp2_with (first | ((with_reducible refine gate_dst (N := 4) rfl ?_); refine box_event zr (N := 4) zr (cs := #[.int .i64 a0_0, .int .i64 a0_1, .bool true, .bool true]) (t := 28) zh ?_; intro gb133 hg w13 hbox hb; have BK133 := zA (hbox); have GW133 := zA (zG hg (below_size (zB0 HB)) : w.heap.size ≤ gb133); have GE133 := zA (zG hg (below_size (zB0 HB)) : w.heap.size ≤ gb133); replace HB := zA (below_step (zB0 HB) hb); clear hb hbox hg; obtain ⟨z14_0, z14_1, z14_2, z14_3, y14_0, y14_1, y14_2, y14_3⟩ := zc4 BK133) | (go_at_call 77; (with_reducible refine (spec_l1In.calls (Int.tmod (wrap64 ((Int.tmod (wrap64 ((Int.tmod a1 a0_0) + a2)) a0_0) + a0_0)) a0_0) 0 (wrap64 (a0_0 - 1)) true _ A9.out).mono ?_); rintro e w' ⟨rfl, ⟨nd, rfl⟩⟩; (try exact zw)) | (go_at_call 77; (with_reducible refine (spec_l1In.calls (Int.tmod (wrap64 ((Int.tmod (wrap64 ((wrap64 (Int.tdiv a1 a0_0)) + a3)) a0_1) + a0_1)) a0_1) 0 (wrap64 (a0_1 - 1)) true _ A11.out).mono ?_); rintro e w' ⟨rfl, ⟨nd, rfl⟩⟩; (try exact zw))))
       go_ret
       exact ⟨zt, zB1 HB GE133⟩
      ·replace c12 := Bool.eq_false_iff.mpr c12
       subst c12
       have H1 : (some (-1)) = some r := by rw [if_neg (show ¬ (false = true) by decide)] at H; exact H
       clear H
       have H := H1
       clear H1
       obtain rfl := Option.some.inj H
       go_enter Try.func108, Try.ntmps108
       go_wp2_with (first | ((with_reducible refine gate_dst (N := 4) rfl ?_); refine box_event zr (N := 4) zr (cs := #[.int .i64 a0_0, .int .i64 a0_1, .bool true, .bool true]) (t := 28) zh ?_; intro gb133 hg w15 hbox hb; have BK133 := zA (hbox); have GW133 := zA (zG hg (below_size (zB0 HB)) : w.heap.size ≤ gb133); have GE133 := zA (zG hg (below_size (zB0 HB)) : w.heap.size ≤ gb133); replace HB := zA (below_step (zB0 HB) hb); clear hb hbox hg; obtain ⟨z16_0, z16_1, z16_2, z16_3, y16_0, y16_1, y16_2, y16_3⟩ := zc4 BK133) | (go_at_call 77; (with_reducible refine (spec_l1In.calls (Int.tmod (wrap64 ((Int.tmod (wrap64 ((Int.tmod a1 a0_0) + a2)) a0_0) + a0_0)) a0_0) 0 (wrap64 (a0_0 - 1)) true _ A9.out).mono ?_); rintro e w' ⟨rfl, ⟨nd, rfl⟩⟩; (try exact zw)) | (go_at_call 77; (with_reducible refine (spec_l1In.calls (Int.tmod (wrap64 ((Int.tmod (wrap64 ((wrap64 (Int.tdiv a1 a0_0)) + a3)) a0_1) + a0_1)) a0_1) 0 (wrap64 (a0_1 - 1)) false _ A11.out).mono ?_); rintro e w' ⟨rfl, ⟨nd, rfl⟩⟩; (try exact zw)))
       repeat (go_quiet (first | ((with_reducible refine gate_dst (N := 4) rfl ?_); refine box_event zr (N := 4) zr (cs := #[.int .i64 a0_0, .int .i64 a0_1, .bool true, .bool true]) (t := 28) zh ?_; intro gb133 hg w15 hbox hb; have BK133 := zA (hbox); have GW133 := zA (zG hg (below_size (zB0 HB)) : w.heap.size ≤ gb133); have GE133 := zA (zG hg (below_size (zB0 HB)) : w.heap.size ≤ gb133); replace HB := zA (below_step (zB0 HB) hb); clear hb hbox hg; obtain ⟨z16_0, z16_1, z16_2, z16_3, y16_0, y16_1, y16_2, y16_3⟩ := zc4 BK133) | (go_at_call 77; (with_reducible refine (spec_l1In.calls (Int.tmod (wrap64 ((Int.tmod (wrap64 ((Int.tmod a1 a0_0) + a2)) a0_0) + a0_0)) a0_0) 0 (wrap64 (a0_0 - 1)) true _ A9.out).mono ?_); rintro e w' ⟨rfl, ⟨nd, rfl⟩⟩; (try exact zw)) | (go_at_call 77; (with_reducible refine (spec_l1In.calls (Int.tmod (wrap64 ((Int.tmod (wrap64 ((wrap64 (Int.tdiv a1 a0_0)) + a3)) a0_1) + a0_1)) a0_1) 0 (wrap64 (a0_1 - 1)) false _ A11.out).mono ?_); rintro e w' ⟨rfl, ⟨nd, rfl⟩⟩; (try exact zw))); try go_wp2_with (first | ((with_reducible refine gate_dst (N := 4) rfl ?_); refine box_event zr (N := 4) zr (cs := #[.int .i64 a0_0, .int .i64 a0_1, .bool true, .bool true]) (t := 28) zh ?_; intro gb133 hg w15 hbox hb; have BK133 := zA (hbox); have GW133 := zA (zG hg (below_size (zB0 HB)) : w.heap.size ≤ gb133); have GE133 := zA (zG hg (below_size (zB0 HB)) : w.heap.size ≤ gb133); replace HB := zA (below_step (zB0 HB) hb); clear hb hbox hg; obtain ⟨z16_0, z16_1, z16_2, z16_3, y16_0, y16_1, y16_2, y16_3⟩ := zc4 BK133) | (go_at_call 77; (with_reducible refine (spec_l1In.calls (Int.tmod (wrap64 ((Int.tmod (wrap64 ((Int.tmod a1 a0_0) + a2)) a0_0) + a0_0)) a0_0) 0 (wrap64 (a0_0 - 1)) true _ A9.out).mono ?_); rintro e w' ⟨rfl, ⟨nd, rfl⟩⟩; (try exact zw)) | (go_at_call 77; (with_reducible refine (spec_l1In.calls (Int.tmod (wrap64 ((Int.tmod (wrap64 ((wrap64 (Int.tdiv a1 a0_0)) + a3)) a0_1) + a0_1)) a0_1) 0 (wrap64 (a0_1 - 1)) false _ A11.out).mono ?_); rintro e w' ⟨rfl, ⟨nd, rfl⟩⟩; (try exact zw))))
       go_ret
       exact ⟨zt, zB1 HB GE133⟩
     ·replace c10 := Bool.eq_false_iff.mpr c10
      subst c10
      have H1 : (some (-1)) = some r := by rw [if_neg (show ¬ (false = true) by decide)] at H; exact H
      clear H
      have H := H1
      clear H1
      obtain rfl := Option.some.inj H
      go_enter Try.func108, Try.ntmps108
      go_wp2_with (first | ((with_reducible refine gate_dst (N := 4) rfl ?_); refine box_event zr (N := 4) zr (cs := #[.int .i64 a0_0, .int .i64 a0_1, .bool true, .bool true]) (t := 28) zh ?_; intro gb133 hg w17 hbox hb; have BK133 := zA (hbox); have GW133 := zA (zG hg (below_size (zB0 HB)) : w.heap.size ≤ gb133); have GE133 := zA (zG hg (below_size (zB0 HB)) : w.heap.size ≤ gb133); replace HB := zA (below_step (zB0 HB) hb); clear hb hbox hg; obtain ⟨z18_0, z18_1, z18_2, z18_3, y18_0, y18_1, y18_2, y18_3⟩ := zc4 BK133) | (go_at_call 77; (with_reducible refine (spec_l1In.calls (Int.tmod (wrap64 ((Int.tmod (wrap64 ((Int.tmod a1 a0_0) + a2)) a0_0) + a0_0)) a0_0) 0 (wrap64 (a0_0 - 1)) false _ A9.out).mono ?_); rintro e w' ⟨rfl, ⟨nd, rfl⟩⟩; (try exact zw)))
      repeat (go_quiet (first | ((with_reducible refine gate_dst (N := 4) rfl ?_); refine box_event zr (N := 4) zr (cs := #[.int .i64 a0_0, .int .i64 a0_1, .bool true, .bool true]) (t := 28) zh ?_; intro gb133 hg w17 hbox hb; have BK133 := zA (hbox); have GW133 := zA (zG hg (below_size (zB0 HB)) : w.heap.size ≤ gb133); have GE133 := zA (zG hg (below_size (zB0 HB)) : w.heap.size ≤ gb133); replace HB := zA (below_step (zB0 HB) hb); clear hb hbox hg; obtain ⟨z18_0, z18_1, z18_2, z18_3, y18_0, y18_1, y18_2, y18_3⟩ := zc4 BK133) | (go_at_call 77; (with_reducible refine (spec_l1In.calls (Int.tmod (wrap64 ((Int.tmod (wrap64 ((Int.tmod a1 a0_0) + a2)) a0_0) + a0_0)) a0_0) 0 (wrap64 (a0_0 - 1)) false _ A9.out).mono ?_); rintro e w' ⟨rfl, ⟨nd, rfl⟩⟩; (try exact zw))); try go_wp2_with (first | ((with_reducible refine gate_dst (N := 4) rfl ?_); refine box_event zr (N := 4) zr (cs := #[.int .i64 a0_0, .int .i64 a0_1, .bool true, .bool true]) (t := 28) zh ?_; intro gb133 hg w17 hbox hb; have BK133 := zA (hbox); have GW133 := zA (zG hg (below_size (zB0 HB)) : w.heap.size ≤ gb133); have GE133 := zA (zG hg (below_size (zB0 HB)) : w.heap.size ≤ gb133); replace HB := zA (below_step (zB0 HB) hb); clear hb hbox hg; obtain ⟨z18_0, z18_1, z18_2, z18_3, y18_0, y18_1, y18_2, y18_3⟩ := zc4 BK133) | (go_at_call 77; (with_reducible refine (spec_l1In.calls (Int.tmod (wrap64 ((Int.tmod (wrap64 ((Int.tmod a1 a0_0) + a2)) a0_0) + a0_0)) a0_0) 0 (wrap64 (a0_0 - 1)) false _ A9.out).mono ?_); rintro e w' ⟨rfl, ⟨nd, rfl⟩⟩; (try exact zw))))
      go_ret
      exact ⟨zt, zB1 HB GE133⟩
   ·replace c7 := Bool.eq_false_iff.mpr c7
    subst c7
    have H1 : ((spec_l1In.f (Int.tmod (wrap64 ((Int.tmod (wrap64 ((Int.tmod a1 a0_0) + a2)) a0_0) + a0_0)) a0_0) 0 (wrap64 (a0_0 - 1))).bind fun t136 => (if t136 = true then ((spec_l1In.f (wrap64 ((wrap64 (Int.tdiv a1 a0_0)) + a3)) 0 (wrap64 (a0_1 - 1))).bind fun t137 => (if t137 = true then (some (wrap64 ((wrap64 ((wrap64 ((wrap64 (Int.tdiv a1 a0_0)) + a3)) * a0_0)) + (Int.tmod (wrap64 ((Int.tmod (wrap64 ((Int.tmod a1 a0_0) + a2)) a0_0) + a0_0)) a0_0)))) else (some (-1)))) else (some (-1)))) = some r := by rw [if_neg (show ¬ (false = true) by decide)] at H; exact H
    clear H
    have H := H1
    clear H1
    obtain ⟨t136, A19, H⟩ := zM H
    try dsimp only at H
    by_cases c20 : t136 = true
    ·subst c20
     have H1 : ((spec_l1In.f (wrap64 ((wrap64 (Int.tdiv a1 a0_0)) + a3)) 0 (wrap64 (a0_1 - 1))).bind fun t137 => (if t137 = true then (some (wrap64 ((wrap64 ((wrap64 ((wrap64 (Int.tdiv a1 a0_0)) + a3)) * a0_0)) + (Int.tmod (wrap64 ((Int.tmod (wrap64 ((Int.tmod a1 a0_0) + a2)) a0_0) + a0_0)) a0_0)))) else (some (-1)))) = some r := by rw [if_pos rfl] at H; exact H
     clear H
     have H := H1
     clear H1
     obtain ⟨t137, A21, H⟩ := zM H
     try dsimp only at H
     by_cases c22 : t137 = true
     ·subst c22
      have H1 : (some (wrap64 ((wrap64 ((wrap64 ((wrap64 (Int.tdiv a1 a0_0)) + a3)) * a0_0)) + (Int.tmod (wrap64 ((Int.tmod (wrap64 ((Int.tmod a1 a0_0) + a2)) a0_0) + a0_0)) a0_0)))) = some r := by rw [if_pos rfl] at H; exact H
      clear H
      have H := H1
      clear H1
      obtain rfl := Option.some.inj H
      go_enter Try.func108, Try.ntmps108
      go_wp2_with (first | ((with_reducible refine gate_dst (N := 4) rfl ?_); refine box_event zr (N := 4) zr (cs := #[.int .i64 a0_0, .int .i64 a0_1, .bool true, .bool false]) (t := 28) zh ?_; intro gb133 hg w23 hbox hb; have BK133 := zA (hbox); have GW133 := zA (zG hg (below_size (zB0 HB)) : w.heap.size ≤ gb133); have GE133 := zA (zG hg (below_size (zB0 HB)) : w.heap.size ≤ gb133); replace HB := zA (below_step (zB0 HB) hb); clear hb hbox hg; obtain ⟨z24_0, z24_1, z24_2, z24_3, y24_0, y24_1, y24_2, y24_3⟩ := zc4 BK133) | (go_at_call 77; (with_reducible refine (spec_l1In.calls (Int.tmod (wrap64 ((Int.tmod (wrap64 ((Int.tmod a1 a0_0) + a2)) a0_0) + a0_0)) a0_0) 0 (wrap64 (a0_0 - 1)) true _ A19.out).mono ?_); rintro e w' ⟨rfl, ⟨nd, rfl⟩⟩; (try exact zw)) | (go_at_call 77; (with_reducible refine (spec_l1In.calls (wrap64 ((wrap64 (Int.tdiv a1 a0_0)) + a3)) 0 (wrap64 (a0_1 - 1)) true _ A21.out).mono ?_); rintro e w' ⟨rfl, ⟨nd, rfl⟩⟩; (try exact zw)))
      repeat (go_quiet (first | ((with_reducible refine gate_dst (N := 4) rfl ?_); refine box_event zr (N := 4) zr (cs := #[.int .i64 a0_0, .int .i64 a0_1, .bool true, .bool false]) (t := 28) zh ?_; intro gb133 hg w23 hbox hb; have BK133 := zA (hbox); have GW133 := zA (zG hg (below_size (zB0 HB)) : w.heap.size ≤ gb133); have GE133 := zA (zG hg (below_size (zB0 HB)) : w.heap.size ≤ gb133); replace HB := zA (below_step (zB0 HB) hb); clear hb hbox hg; obtain ⟨z24_0, z24_1, z24_2, z24_3, y24_0, y24_1, y24_2, y24_3⟩ := zc4 BK133) | (go_at_call 77; (with_reducible refine (spec_l1In.calls (Int.tmod (wrap64 ((Int.tmod (wrap64 ((Int.tmod a1 a0_0) + a2)) a0_0) + a0_0)) a0_0) 0 (wrap64 (a0_0 - 1)) true _ A19.out).mono ?_); rintro e w' ⟨rfl, ⟨nd, rfl⟩⟩; (try exact zw)) | (go_at_call 77; (with_reducible refine (spec_l1In.calls (wrap64 ((wrap64 (Int.tdiv a1 a0_0)) + a3)) 0 (wrap64 (a0_1 - 1)) true _ A21.out).mono ?_); rintro e w' ⟨rfl, ⟨nd, rfl⟩⟩; (try exact zw))); try go_wp2_with (first | ((with_reducible refine gate_dst (N := 4) rfl ?_); refine box_event zr (N := 4) zr (cs := #[.int .i64 a0_0, .int .i64 a0_1, .bool true, .bool false]) (t := 28) zh ?_; intro gb133 hg w23 hbox hb; have BK133 := zA (hbox); have GW133 := zA (zG hg (below_size (zB0 HB)) : w.heap.size ≤ gb133); have GE133 := zA (zG hg (below_size (zB0 HB)) : w.heap.size ≤ gb133); replace HB := zA (below_step (zB0 HB) hb); clear hb hbox hg; obtain ⟨z24_0, z24_1, z24_2, z24_3, y24_0, y24_1, y24_2, y24_3⟩ := zc4 BK133) | (go_at_call 77; (with_reducible refine (spec_l1In.calls (Int.tmod (wrap64 ((Int.tmod (wrap64 ((Int.tmod a1 a0_0) + a2)) a0_0) + a0_0)) a0_0) 0 (wrap64 (a0_0 - 1)) true _ A19.out).mono ?_); rintro e w' ⟨rfl, ⟨nd, rfl⟩⟩; (try exact zw)) | (go_at_call 77; (with_reducible refine (spec_l1In.calls (wrap64 ((wrap64 (Int.tdiv a1 a0_0)) + a3)) 0 (wrap64 (a0_1 - 1)) true _ A21.out).mono ?_); rintro e w' ⟨rfl, ⟨nd, rfl⟩⟩; (try exact zw))))
      go_ret
      exact ⟨zt, zB1 HB GE133⟩
     ·replace c22 := Bool.eq_false_iff.mpr c22
      subst c22
      have H1 : (some (-1)) = some r := by rw [if_neg (show ¬ (false = true) by decide)] at H; exact H
      clear H
      have H := H1
      clear H1
      obtain rfl := Option.some.inj H
      go_enter Try.func108, Try.ntmps108
      go_wp2_with (first | ((with_reducible refine gate_dst (N := 4) rfl ?_); refine box_event zr (N := 4) zr (cs := #[.int .i64 a0_0, .int .i64 a0_1, .bool true, .bool false]) (t := 28) zh ?_; intro gb133 hg w25 hbox hb; have BK133 := zA (hbox); have GW133 := zA (zG hg (below_size (zB0 HB)) : w.heap.size ≤ gb133); have GE133 := zA (zG hg (below_size (zB0 HB)) : w.heap.size ≤ gb133); replace HB := zA (below_step (zB0 HB) hb); clear hb hbox hg; obtain ⟨z26_0, z26_1, z26_2, z26_3, y26_0, y26_1, y26_2, y26_3⟩ := zc4 BK133) | (go_at_call 77; (with_reducible refine (spec_l1In.calls (Int.tmod (wrap64 ((Int.tmod (wrap64 ((Int.tmod a1 a0_0) + a2)) a0_0) + a0_0)) a0_0) 0 (wrap64 (a0_0 - 1)) true _ A19.out).mono ?_); rintro e w' ⟨rfl, ⟨nd, rfl⟩⟩; (try exact zw)) | (go_at_call 77; (with_reducible refine (spec_l1In.calls (wrap64 ((wrap64 (Int.tdiv a1 a0_0)) + a3)) 0 (wrap64 (a0_1 - 1)) false _ A21.out).mono ?_); rintro e w' ⟨rfl, ⟨nd, rfl⟩⟩; (try exact zw)))
      repeat (go_quiet (first | ((with_reducible refine gate_dst (N := 4) rfl ?_); refine box_event zr (N := 4) zr (cs := #[.int .i64 a0_0, .int .i64 a0_1, .bool true, .bool false]) (t := 28) zh ?_; intro gb133 hg w25 hbox hb; have BK133 := zA (hbox); have GW133 := zA (zG hg (below_size (zB0 HB)) : w.heap.size ≤ gb133); have GE133 := zA (zG hg (below_size (zB0 HB)) : w.heap.size ≤ gb133); replace HB := zA (below_step (zB0 HB) hb); clear hb hbox hg; obtain ⟨z26_0, z26_1, z26_2, z26_3, y26_0, y26_1, y26_2, y26_3⟩ := zc4 BK133) | (go_at_call 77; (with_reducible refine (spec_l1In.calls (Int.tmod (wrap64 ((Int.tmod (wrap64 ((Int.tmod a1 a0_0) + a2)) a0_0) + a0_0)) a0_0) 0 (wrap64 (a0_0 - 1)) true _ A19.out).mono ?_); rintro e w' ⟨rfl, ⟨nd, rfl⟩⟩; (try exact zw)) | (go_at_call 77; (with_reducible refine (spec_l1In.calls (wrap64 ((wrap64 (Int.tdiv a1 a0_0)) + a3)) 0 (wrap64 (a0_1 - 1)) false _ A21.out).mono ?_); rintro e w' ⟨rfl, ⟨nd, rfl⟩⟩; (try exact zw))); try go_wp2_with (first | ((with_reducible refine gate_dst (N := 4) rfl ?_); refine box_event zr (N := 4) zr (cs := #[.int .i64 a0_0, .int .i64 a0_1, .bool true, .bool false]) (t := 28) zh ?_; intro gb133 hg w25 hbox hb; have BK133 := zA (hbox); have GW133 := zA (zG hg (below_size (zB0 HB)) : w.heap.size ≤ gb133); have GE133 := zA (zG hg (below_size (zB0 HB)) : w.heap.size ≤ gb133); replace HB := zA (below_step (zB0 HB) hb); clear hb hbox hg; obtain ⟨z26_0, z26_1, z26_2, z26_3, y26_0, y26_1, y26_2, y26_3⟩ := zc4 BK133) | (go_at_call 77; (with_reducible refine (spec_l1In.calls (Int.tmod (wrap64 ((Int.tmod (wrap64 ((Int.tmod a1 a0_0) + a2)) a0_0) + a0_0)) a0_0) 0 (wrap64 (a0_0 - 1)) true _ A19.out).mono ?_); rintro e w' ⟨rfl, ⟨nd, rfl⟩⟩; (try exact zw)) | (go_at_call 77; (with_reducible refine (spec_l1In.calls (wrap64 ((wrap64 (Int.tdiv a1 a0_0)) + a3)) 0 (wrap64 (a0_1 - 1)) false _ A21.out).mono ?_); rintro e w' ⟨rfl, ⟨nd, rfl⟩⟩; (try exact zw))))
      go_ret
      exact ⟨zt, zB1 HB GE133⟩
    ·replace c20 := Bool.eq_false_iff.mpr c20
     subst c20
     have H1 : (some (-1)) = some r := by rw [if_neg (show ¬ (false = true) by decide)] at H; exact H
     clear H
     have H := H1
     clear H1
     obtain rfl := Option.some.inj H
     go_enter Try.func108, Try.ntmps108
     go_wp2_with (first | ((with_reducible refine gate_dst (N := 4) rfl ?_); refine box_event zr (N := 4) zr (cs := #[.int .i64 a0_0, .int .i64 a0_1, .bool true, .bool false]) (t := 28) zh ?_; intro gb133 hg w27 hbox hb; have BK133 := zA (hbox); have GW133 := zA (zG hg (below_size (zB0 HB)) : w.heap.size ≤ gb133); have GE133 := zA (zG hg (below_size (zB0 HB)) : w.heap.size ≤ gb133); replace HB := zA (below_step (zB0 HB) hb); clear hb hbox hg; obtain ⟨z28_0, z28_1, z28_2, z28_3, y28_0, y28_1, y28_2, y28_3⟩ := zc4 BK133) | (go_at_call 77; (with_reducible refine (spec_l1In.calls (Int.tmod (wrap64 ((Int.tmod (wrap64 ((Int.tmod a1 a0_0) + a2)) a0_0) + a0_0)) a0_0) 0 (wrap64 (a0_0 - 1)) false _ A19.out).mono ?_); rintro e w' ⟨rfl, ⟨nd, rfl⟩⟩; (try exact zw)))
     repeat (go_quiet (first | ((with_reducible refine gate_dst (N := 4) rfl ?_); refine box_event zr (N := 4) zr (cs := #[.int .i64 a0_0, .int .i64 a0_1, .bool true, .bool false]) (t := 28) zh ?_; intro gb133 hg w27 hbox hb; have BK133 := zA (hbox); have GW133 := zA (zG hg (below_size (zB0 HB)) : w.heap.size ≤ gb133); have GE133 := zA (zG hg (below_size (zB0 HB)) : w.heap.size ≤ gb133); replace HB := zA (below_step (zB0 HB) hb); clear hb hbox hg; obtain ⟨z28_0, z28_1, z28_2, z28_3, y28_0, y28_1, y28_2, y28_3⟩ := zc4 BK133) | (go_at_call 77; (with_reducible refine (spec_l1In.calls (Int.tmod (wrap64 ((Int.tmod (wrap64 ((Int.tmod a1 a0_0) + a2)) a0_0) + a0_0)) a0_0) 0 (wrap64 (a0_0 - 1)) false _ A19.out).mono ?_); rintro e w' ⟨rfl, ⟨nd, rfl⟩⟩; (try exact zw))); try go_wp2_with (first | ((with_reducible refine gate_dst (N := 4) rfl ?_); refine box_event zr (N := 4) zr (cs := #[.int .i64 a0_0, .int .i64 a0_1, .bool true, .bool false]) (t := 28) zh ?_; intro gb133 hg w27 hbox hb; have BK133 := zA (hbox); have GW133 := zA (zG hg (below_size (zB0 HB)) : w.heap.size ≤ gb133); have GE133 := zA (zG hg (below_size (zB0 HB)) : w.heap.size ≤ gb133); replace HB := zA (below_step (zB0 HB) hb); clear hb hbox hg; obtain ⟨z28_0, z28_1, z28_2, z28_3, y28_0, y28_1, y28_2, y28_3⟩ := zc4 BK133) | (go_at_call 77; (with_reducible refine (spec_l1In.calls (Int.tmod (wrap64 ((Int.tmod (wrap64 ((Int.tmod a1 a0_0) + a2)) a0_0) + a0_0)) a0_0) 0 (wrap64 (a0_0 - 1)) false _ A19.out).mono ?_); rintro e w' ⟨rfl, ⟨nd, rfl⟩⟩; (try exact zw))))
     go_ret
     exact ⟨zt, zB1 HB GE133⟩
  ·replace c6 := Bool.eq_false_iff.mpr c6
   subst c6
   have H1 : (if a0_3 = true then (if a0_1 = 0 then (none) else ((spec_l1In.f (wrap64 ((Int.tmod a1 a0_0) + a2)) 0 (wrap64 (a0_0 - 1))).bind fun t138 => (if t138 = true then ((spec_l1In.f (Int.tmod (wrap64 ((Int.tmod (wrap64 ((wrap64 (Int.tdiv a1 a0_0)) + a3)) a0_1) + a0_1)) a0_1) 0 (wrap64 (a0_1 - 1))).bind fun t139 => (if t139 = true then (some (wrap64 ((wrap64 ((Int.tmod (wrap64 ((Int.tmod (wrap64 ((wrap64 (Int.tdiv a1 a0_0)) + a3)) a0_1) + a0_1)) a0_1) * a0_0)) + (wrap64 ((Int.tmod a1 a0_0) + a2))))) else (some (-1)))) else (some (-1))))) else ((spec_l1In.f (wrap64 ((Int.tmod a1 a0_0) + a2)) 0 (wrap64 (a0_0 - 1))).bind fun t140 => (if t140 = true then ((spec_l1In.f (wrap64 ((wrap64 (Int.tdiv a1 a0_0)) + a3)) 0 (wrap64 (a0_1 - 1))).bind fun t141 => (if t141 = true then (some (wrap64 ((wrap64 ((wrap64 ((wrap64 (Int.tdiv a1 a0_0)) + a3)) * a0_0)) + (wrap64 ((Int.tmod a1 a0_0) + a2))))) else (some (-1)))) else (some (-1))))) = some r := by rw [if_neg (show ¬ (false = true) by decide)] at H; exact H
   clear H
   have H := H1
   clear H1
   by_cases c29 : a0_3 = true
   ·subst c29
    have H1 : (if a0_1 = 0 then (none) else ((spec_l1In.f (wrap64 ((Int.tmod a1 a0_0) + a2)) 0 (wrap64 (a0_0 - 1))).bind fun t138 => (if t138 = true then ((spec_l1In.f (Int.tmod (wrap64 ((Int.tmod (wrap64 ((wrap64 (Int.tdiv a1 a0_0)) + a3)) a0_1) + a0_1)) a0_1) 0 (wrap64 (a0_1 - 1))).bind fun t139 => (if t139 = true then (some (wrap64 ((wrap64 ((Int.tmod (wrap64 ((Int.tmod (wrap64 ((wrap64 (Int.tdiv a1 a0_0)) + a3)) a0_1) + a0_1)) a0_1) * a0_0)) + (wrap64 ((Int.tmod a1 a0_0) + a2))))) else (some (-1)))) else (some (-1))))) = some r := by rw [if_pos rfl] at H; exact H
    clear H
    have H := H1
    clear H1
    by_cases c30 : a0_1 = 0
    ·rw [if_pos c30] at H
     exact absurd H (by simp)
    ·rw [if_neg c30] at H
     have c30b0 : (a0_1 == 0) = false := beq_eq_false_iff_ne.mpr c30
     have c30b1 : (a0_1 != 0) = true := bne_iff_ne.mpr c30
     obtain ⟨t138, A31, H⟩ := zM H
     try dsimp only at H
     by_cases c32 : t138 = true
     ·subst c32
      have H1 : ((spec_l1In.f (Int.tmod (wrap64 ((Int.tmod (wrap64 ((wrap64 (Int.tdiv a1 a0_0)) + a3)) a0_1) + a0_1)) a0_1) 0 (wrap64 (a0_1 - 1))).bind fun t139 => (if t139 = true then (some (wrap64 ((wrap64 ((Int.tmod (wrap64 ((Int.tmod (wrap64 ((wrap64 (Int.tdiv a1 a0_0)) + a3)) a0_1) + a0_1)) a0_1) * a0_0)) + (wrap64 ((Int.tmod a1 a0_0) + a2))))) else (some (-1)))) = some r := by rw [if_pos rfl] at H; exact H
      clear H
      have H := H1
      clear H1
      obtain ⟨t139, A33, H⟩ := zM H
      try dsimp only at H
      by_cases c34 : t139 = true
      ·subst c34
       have H1 : (some (wrap64 ((wrap64 ((Int.tmod (wrap64 ((Int.tmod (wrap64 ((wrap64 (Int.tdiv a1 a0_0)) + a3)) a0_1) + a0_1)) a0_1) * a0_0)) + (wrap64 ((Int.tmod a1 a0_0) + a2))))) = some r := by rw [if_pos rfl] at H; exact H
       clear H
       have H := H1
       clear H1
       obtain rfl := Option.some.inj H
       go_enter Try.func108, Try.ntmps108
       go_wp2_with (first | ((with_reducible refine gate_dst (N := 4) rfl ?_); refine box_event zr (N := 4) zr (cs := #[.int .i64 a0_0, .int .i64 a0_1, .bool false, .bool true]) (t := 28) zh ?_; intro gb133 hg w35 hbox hb; have BK133 := zA (hbox); have GW133 := zA (zG hg (below_size (zB0 HB)) : w.heap.size ≤ gb133); have GE133 := zA (zG hg (below_size (zB0 HB)) : w.heap.size ≤ gb133); replace HB := zA (below_step (zB0 HB) hb); clear hb hbox hg; obtain ⟨z36_0, z36_1, z36_2, z36_3, y36_0, y36_1, y36_2, y36_3⟩ := zc4 BK133) | (go_at_call 77; (with_reducible refine (spec_l1In.calls (wrap64 ((Int.tmod a1 a0_0) + a2)) 0 (wrap64 (a0_0 - 1)) true _ A31.out).mono ?_); rintro e w' ⟨rfl, ⟨nd, rfl⟩⟩; (try exact zw)) | (go_at_call 77; (with_reducible refine (spec_l1In.calls (Int.tmod (wrap64 ((Int.tmod (wrap64 ((wrap64 (Int.tdiv a1 a0_0)) + a3)) a0_1) + a0_1)) a0_1) 0 (wrap64 (a0_1 - 1)) true _ A33.out).mono ?_); rintro e w' ⟨rfl, ⟨nd, rfl⟩⟩; (try exact zw)))
       repeat (go_quiet (first | ((with_reducible refine gate_dst (N := 4) rfl ?_); refine box_event zr (N := 4) zr (cs := #[.int .i64 a0_0, .int .i64 a0_1, .bool false, .bool true]) (t := 28) zh ?_; intro gb133 hg w35 hbox hb; have BK133 := zA (hbox); have GW133 := zA (zG hg (below_size (zB0 HB)) : w.heap.size ≤ gb133); have GE133 := zA (zG hg (below_size (zB0 HB)) : w.heap.size ≤ gb133); replace HB := zA (below_step (zB0 HB) hb); clear hb hbox hg; obtain ⟨z36_0, z36_1, z36_2, z36_3, y36_0, y36_1, y36_2, y36_3⟩ := zc4 BK133) | (go_at_call 77; (with_reducible refine (spec_l1In.calls (wrap64 ((Int.tmod a1 a0_0) + a2)) 0 (wrap64 (a0_0 - 1)) true _ A31.out).mono ?_); rintro e w' ⟨rfl, ⟨nd, rfl⟩⟩; (try exact zw)) | (go_at_call 77; (with_reducible refine (spec_l1In.calls (Int.tmod (wrap64 ((Int.tmod (wrap64 ((wrap64 (Int.tdiv a1 a0_0)) + a3)) a0_1) + a0_1)) a0_1) 0 (wrap64 (a0_1 - 1)) true _ A33.out).mono ?_); rintro e w' ⟨rfl, ⟨nd, rfl⟩⟩; (try exact zw))); try go_wp2_with (first | ((with_reducible refine gate_dst (N := 4) rfl ?_); refine box_event zr (N := 4) zr (cs := #[.int .i64 a0_0, .int .i64 a0_1, .bool false, .bool true]) (t := 28) zh ?_; intro gb133 hg w35 hbox hb; have BK133 := zA (hbox); have GW133 := zA (zG hg (below_size (zB0 HB)) : w.heap.size ≤ gb133); have GE133 := zA (zG hg (below_size (zB0 HB)) : w.heap.size ≤ gb133); replace HB := zA (below_step (zB0 HB) hb); clear hb hbox hg; obtain ⟨z36_0, z36_1, z36_2, z36_3, y36_0, y36_1, y36_2, y36_3⟩ := zc4 BK133) | (go_at_call 77; (with_reducible refine (spec_l1In.calls (wrap64 ((Int.tmod a1 a0_0) + a2)) 0 (wrap64 (a0_0 - 1)) true _ A31.out).mono ?_); rintro e w' ⟨rfl, ⟨nd, rfl⟩⟩; (try exact zw)) | (go_at_call 77; (with_reducible refine (spec_l1In.calls (Int.tmod (wrap64 ((Int.tmod (wrap64 ((wrap64 (Int.tdiv a1 a0_0)) + a3)) a0_1) + a0_1)) a0_1) 0 (wrap64 (a0_1 - 1)) true _ A33.out).mono ?_); rintro e w' ⟨rfl, ⟨nd, rfl⟩⟩; (try exact zw))))
       go_ret
       exact ⟨zt, zB1 HB GE133⟩
      ·replace c34 := Bool.eq_false_iff.mpr c34
       subst c34
       have H1 : (some (-1)) = some r := by rw [if_neg (show ¬ (false = true) by decide)] at H; exact H
       clear H
       have H := H1
       clear H1
       obtain rfl := Option.some.inj H
       go_enter Try.func108, Try.ntmps108
       go_wp2_with (first | ((with_reducible refine gate_dst (N := 4) rfl ?_); refine box_event zr (N := 4) zr (cs := #[.int .i64 a0_0, .int .i64 a0_1, .bool false, .bool true]) (t := 28) zh ?_; intro gb133 hg w37 hbox hb; have BK133 := zA (hbox); have GW133 := zA (zG hg (below_size (zB0 HB)) : w.heap.size ≤ gb133); have GE133 := zA (zG hg (below_size (zB0 HB)) : w.heap.size ≤ gb133); replace HB := zA (below_step (zB0 HB) hb); clear hb hbox hg; obtain ⟨z38_0, z38_1, z38_2, z38_3, y38_0, y38_1, y38_2, y38_3⟩ := zc4 BK133) | (go_at_call 77; (with_reducible refine (spec_l1In.calls (wrap64 ((Int.tmod a1 a0_0) + a2)) 0 (wrap64 (a0_0 - 1)) true _ A31.out).mono ?_); rintro e w' ⟨rfl, ⟨nd, rfl⟩⟩; (try exact zw)) | (go_at_call 77; (with_reducible refine (spec_l1In.calls (Int.tmod (wrap64 ((Int.tmod (wrap64 ((wrap64 (Int.tdiv a1 a0_0)) + a3)) a0_1) + a0_1)) a0_1) 0 (wrap64 (a0_1 - 1)) false _ A33.out).mono ?_); rintro e w' ⟨rfl, ⟨nd, rfl⟩⟩; (try exact zw)))
       repeat (go_quiet (first | ((with_reducible refine gate_dst (N := 4) rfl ?_); refine box_event zr (N := 4) zr (cs := #[.int .i64 a0_0, .int .i64 a0_1, .bool false, .bool true]) (t := 28) zh ?_; intro gb133 hg w37 hbox hb; have BK133 := zA (hbox); have GW133 := zA (zG hg (below_size (zB0 HB)) : w.heap.size ≤ gb133); have GE133 := zA (zG hg (below_size (zB0 HB)) : w.heap.size ≤ gb133); replace HB := zA (below_step (zB0 HB) hb); clear hb hbox hg; obtain ⟨z38_0, z38_1, z38_2, z38_3, y38_0, y38_1, y38_2, y38_3⟩ := zc4 BK133) | (go_at_call 77; (with_reducible refine (spec_l1In.calls (wrap64 ((Int.tmod a1 a0_0) + a2)) 0 (wrap64 (a0_0 - 1)) true _ A31.out).mono ?_); rintro e w' ⟨rfl, ⟨nd, rfl⟩⟩; (try exact zw)) | (go_at_call 77; (with_reducible refine (spec_l1In.calls (Int.tmod (wrap64 ((Int.tmod (wrap64 ((wrap64 (Int.tdiv a1 a0_0)) + a3)) a0_1) + a0_1)) a0_1) 0 (wrap64 (a0_1 - 1)) false _ A33.out).mono ?_); rintro e w' ⟨rfl, ⟨nd, rfl⟩⟩; (try exact zw))); try go_wp2_with (first | ((with_reducible refine gate_dst (N := 4) rfl ?_); refine box_event zr (N := 4) zr (cs := #[.int .i64 a0_0, .int .i64 a0_1, .bool false, .bool true]) (t := 28) zh ?_; intro gb133 hg w37 hbox hb; have BK133 := zA (hbox); have GW133 := zA (zG hg (below_size (zB0 HB)) : w.heap.size ≤ gb133); have GE133 := zA (zG hg (below_size (zB0 HB)) : w.heap.size ≤ gb133); replace HB := zA (below_step (zB0 HB) hb); clear hb hbox hg; obtain ⟨z38_0, z38_1, z38_2, z38_3, y38_0, y38_1, y38_2, y38_3⟩ := zc4 BK133) | (go_at_call 77; (with_reducible refine (spec_l1In.calls (wrap64 ((Int.tmod a1 a0_0) + a2)) 0 (wrap64 (a0_0 - 1)) true _ A31.out).mono ?_); rintro e w' ⟨rfl, ⟨nd, rfl⟩⟩; (try exact zw)) | (go_at_call 77; (with_reducible refine (spec_l1In.calls (Int.tmod (wrap64 ((Int.tmod (wrap64 ((wrap64 (Int.tdiv a1 a0_0)) + a3)) a0_1) + a0_1)) a0_1) 0 (wrap64 (a0_1 - 1)) false _ A33.out).mono ?_); rintro e w' ⟨rfl, ⟨nd, rfl⟩⟩; (try exact zw))))
       go_ret
       exact ⟨zt, zB1 HB GE133⟩
     ·replace c32 := Bool.eq_false_iff.mpr c32
      subst c32
      have H1 : (some (-1)) = some r := by rw [if_neg (show ¬ (false = true) by decide)] at H; exact H
      clear H
      have H := H1
      clear H1
      obtain rfl := Option.some.inj H
      go_enter Try.func108, Try.ntmps108
      go_wp2_with (first | ((with_reducible refine gate_dst (N := 4) rfl ?_); refine box_event zr (N := 4) zr (cs := #[.int .i64 a0_0, .int .i64 a0_1, .bool false, .bool true]) (t := 28) zh ?_; intro gb133 hg w39 hbox hb; have BK133 := zA (hbox); have GW133 := zA (zG hg (below_size (zB0 HB)) : w.heap.size ≤ gb133); have GE133 := zA (zG hg (below_size (zB0 HB)) : w.heap.size ≤ gb133); replace HB := zA (below_step (zB0 HB) hb); clear hb hbox hg; obtain ⟨z40_0, z40_1, z40_2, z40_3, y40_0, y40_1, y40_2, y40_3⟩ := zc4 BK133) | (go_at_call 77; (with_reducible refine (spec_l1In.calls (wrap64 ((Int.tmod a1 a0_0) + a2)) 0 (wrap64 (a0_0 - 1)) false _ A31.out).mono ?_); rintro e w' ⟨rfl, ⟨nd, rfl⟩⟩; (try exact zw)))
      repeat (go_quiet (first | ((with_reducible refine gate_dst (N := 4) rfl ?_); refine box_event zr (N := 4) zr (cs := #[.int .i64 a0_0, .int .i64 a0_1, .bool false, .bool true]) (t := 28) zh ?_; intro gb133 hg w39 hbox hb; have BK133 := zA (hbox); have GW133 := zA (zG hg (below_size (zB0 HB)) : w.heap.size ≤ gb133); have GE133 := zA (zG hg (below_size (zB0 HB)) : w.heap.size ≤ gb133); replace HB := zA (below_step (zB0 HB) hb); clear hb hbox hg; obtain ⟨z40_0, z40_1, z40_2, z40_3, y40_0, y40_1, y40_2, y40_3⟩ := zc4 BK133) | (go_at_call 77; (with_reducible refine (spec_l1In.calls (wrap64 ((Int.tmod a1 a0_0) + a2)) 0 (wrap64 (a0_0 - 1)) false _ A31.out).mono ?_); rintro e w' ⟨rfl, ⟨nd, rfl⟩⟩; (try exact zw))); try go_wp2_with (first | ((with_reducible refine gate_dst (N := 4) rfl ?_); refine box_event zr (N := 4) zr (cs := #[.int .i64 a0_0, .int .i64 a0_1, .bool false, .bool true]) (t := 28) zh ?_; intro gb133 hg w39 hbox hb; have BK133 := zA (hbox); have GW133 := zA (zG hg (below_size (zB0 HB)) : w.heap.size ≤ gb133); have GE133 := zA (zG hg (below_size (zB0 HB)) : w.heap.size ≤ gb133); replace HB := zA (below_step (zB0 HB) hb); clear hb hbox hg; obtain ⟨z40_0, z40_1, z40_2, z40_3, y40_0, y40_1, y40_2, y40_3⟩ := zc4 BK133) | (go_at_call 77; (with_reducible refine (spec_l1In.calls (wrap64 ((Int.tmod a1 a0_0) + a2)) 0 (wrap64 (a0_0 - 1)) false _ A31.out).mono ?_); rintro e w' ⟨rfl, ⟨nd, rfl⟩⟩; (try exact zw))))
      go_ret
      exact ⟨zt, zB1 HB GE133⟩
   ·replace c29 := Bool.eq_false_iff.mpr c29
    subst c29
    have H1 : ((spec_l1In.f (wrap64 ((Int.tmod a1 a0_0) + a2)) 0 (wrap64 (a0_0 - 1))).bind fun t140 => (if t140 = true then ((spec_l1In.f (wrap64 ((wrap64 (Int.tdiv a1 a0_0)) + a3)) 0 (wrap64 (a0_1 - 1))).bind fun t141 => (if t141 = true then (some (wrap64 ((wrap64 ((wrap64 ((wrap64 (Int.tdiv a1 a0_0)) + a3)) * a0_0)) + (wrap64 ((Int.tmod a1 a0_0) + a2))))) else (some (-1)))) else (some (-1)))) = some r := by rw [if_neg (show ¬ (false = true) by decide)] at H; exact H
    clear H
    have H := H1
    clear H1
    obtain ⟨t140, A41, H⟩ := zM H
    try dsimp only at H
    by_cases c42 : t140 = true
    ·subst c42
     have H1 : ((spec_l1In.f (wrap64 ((wrap64 (Int.tdiv a1 a0_0)) + a3)) 0 (wrap64 (a0_1 - 1))).bind fun t141 => (if t141 = true then (some (wrap64 ((wrap64 ((wrap64 ((wrap64 (Int.tdiv a1 a0_0)) + a3)) * a0_0)) + (wrap64 ((Int.tmod a1 a0_0) + a2))))) else (some (-1)))) = some r := by rw [if_pos rfl] at H; exact H
     clear H
     have H := H1
     clear H1
     obtain ⟨t141, A43, H⟩ := zM H
     try dsimp only at H
     by_cases c44 : t141 = true
     ·subst c44
      have H1 : (some (wrap64 ((wrap64 ((wrap64 ((wrap64 (Int.tdiv a1 a0_0)) + a3)) * a0_0)) + (wrap64 ((Int.tmod a1 a0_0) + a2))))) = some r := by rw [if_pos rfl] at H; exact H
      clear H
      have H := H1
      clear H1
      obtain rfl := Option.some.inj H
      go_enter Try.func108, Try.ntmps108
      go_wp2_with (first | ((with_reducible refine gate_dst (N := 4) rfl ?_); refine box_event zr (N := 4) zr (cs := #[.int .i64 a0_0, .int .i64 a0_1, .bool false, .bool false]) (t := 28) zh ?_; intro gb133 hg w45 hbox hb; have BK133 := zA (hbox); have GW133 := zA (zG hg (below_size (zB0 HB)) : w.heap.size ≤ gb133); have GE133 := zA (zG hg (below_size (zB0 HB)) : w.heap.size ≤ gb133); replace HB := zA (below_step (zB0 HB) hb); clear hb hbox hg; obtain ⟨z46_0, z46_1, z46_2, z46_3, y46_0, y46_1, y46_2, y46_3⟩ := zc4 BK133) | (go_at_call 77; (with_reducible refine (spec_l1In.calls (wrap64 ((Int.tmod a1 a0_0) + a2)) 0 (wrap64 (a0_0 - 1)) true _ A41.out).mono ?_); rintro e w' ⟨rfl, ⟨nd, rfl⟩⟩; (try exact zw)) | (go_at_call 77; (with_reducible refine (spec_l1In.calls (wrap64 ((wrap64 (Int.tdiv a1 a0_0)) + a3)) 0 (wrap64 (a0_1 - 1)) true _ A43.out).mono ?_); rintro e w' ⟨rfl, ⟨nd, rfl⟩⟩; (try exact zw)))
      repeat (go_quiet (first | ((with_reducible refine gate_dst (N := 4) rfl ?_); refine box_event zr (N := 4) zr (cs := #[.int .i64 a0_0, .int .i64 a0_1, .bool false, .bool false]) (t := 28) zh ?_; intro gb133 hg w45 hbox hb; have BK133 := zA (hbox); have GW133 := zA (zG hg (below_size (zB0 HB)) : w.heap.size ≤ gb133); have GE133 := zA (zG hg (below_size (zB0 HB)) : w.heap.size ≤ gb133); replace HB := zA (below_step (zB0 HB) hb); clear hb hbox hg; obtain ⟨z46_0, z46_1, z46_2, z46_3, y46_0, y46_1, y46_2, y46_3⟩ := zc4 BK133) | (go_at_call 77; (with_reducible refine (spec_l1In.calls (wrap64 ((Int.tmod a1 a0_0) + a2)) 0 (wrap64 (a0_0 - 1)) true _ A41.out).mono ?_); rintro e w' ⟨rfl, ⟨nd, rfl⟩⟩; (try exact zw)) | (go_at_call 77; (with_reducible refine (spec_l1In.calls (wrap64 ((wrap64 (Int.tdiv a1 a0_0)) + a3)) 0 (wrap64 (a0_1 - 1)) true _ A43.out).mono ?_); rintro e w' ⟨rfl, ⟨nd, rfl⟩⟩; (try exact zw))); try go_wp2_with (first | ((with_reducible refine gate_dst (N := 4) rfl ?_); refine box_event zr (N := 4) zr (cs := #[.int .i64 a0_0, .int .i64 a0_1, .bool false, .bool false]) (t := 28) zh ?_; intro gb133 hg w45 hbox hb; have BK133 := zA (hbox); have GW133 := zA (zG hg (below_size (zB0 HB)) : w.heap.size ≤ gb133); have GE133 := zA (zG hg (below_size (zB0 HB)) : w.heap.size ≤ gb133); replace HB := zA (below_step (zB0 HB) hb); clear hb hbox hg; obtain ⟨z46_0, z46_1, z46_2, z46_3, y46_0, y46_1, y46_2, y46_3⟩ := zc4 BK133) | (go_at_call 77; (with_reducible refine (spec_l1In.calls (wrap64 ((Int.tmod a1 a0_0) + a2)) 0 (wrap64 (a0_0 - 1)) true _ A41.out).mono ?_); rintro e w' ⟨rfl, ⟨nd, rfl⟩⟩; (try exact zw)) | (go_at_call 77; (with_reducible refine (spec_l1In.calls (wrap64 ((wrap64 (Int.tdiv a1 a0_0)) + a3)) 0 (wrap64 (a0_1 - 1)) true _ A43.out).mono ?_); rintro e w' ⟨rfl, ⟨nd, rfl⟩⟩; (try exact zw))))
      go_ret
      exact ⟨zt, zB1 HB GE133⟩
     ·replace c44 := Bool.eq_false_iff.mpr c44
      subst c44
      have H1 : (some (-1)) = some r := by rw [if_neg (show ¬ (false = true) by decide)] at H; exact H
      clear H
      have H := H1
      clear H1
      obtain rfl := Option.some.inj H
      go_enter Try.func108, Try.ntmps108
      go_wp2_with (first | ((with_reducible refine gate_dst (N := 4) rfl ?_); refine box_event zr (N := 4) zr (cs := #[.int .i64 a0_0, .int .i64 a0_1, .bool false, .bool false]) (t := 28) zh ?_; intro gb133 hg w47 hbox hb; have BK133 := zA (hbox); have GW133 := zA (zG hg (below_size (zB0 HB)) : w.heap.size ≤ gb133); have GE133 := zA (zG hg (below_size (zB0 HB)) : w.heap.size ≤ gb133); replace HB := zA (below_step (zB0 HB) hb); clear hb hbox hg; obtain ⟨z48_0, z48_1, z48_2, z48_3, y48_0, y48_1, y48_2, y48_3⟩ := zc4 BK133) | (go_at_call 77; (with_reducible refine (spec_l1In.calls (wrap64 ((Int.tmod a1 a0_0) + a2)) 0 (wrap64 (a0_0 - 1)) true _ A41.out).mono ?_); rintro e w' ⟨rfl, ⟨nd, rfl⟩⟩; (try exact zw)) | (go_at_call 77; (with_reducible refine (spec_l1In.calls (wrap64 ((wrap64 (Int.tdiv a1 a0_0)) + a3)) 0 (wrap64 (a0_1 - 1)) false _ A43.out).mono ?_); rintro e w' ⟨rfl, ⟨nd, rfl⟩⟩; (try exact zw)))
      repeat (go_quiet (first | ((with_reducible refine gate_dst (N := 4) rfl ?_); refine box_event zr (N := 4) zr (cs := #[.int .i64 a0_0, .int .i64 a0_1, .bool false, .bool false]) (t := 28) zh ?_; intro gb133 hg w47 hbox hb; have BK133 := zA (hbox); have GW133 := zA (zG hg (below_size (zB0 HB)) : w.heap.size ≤ gb133); have GE133 := zA (zG hg (below_size (zB0 HB)) : w.heap.size ≤ gb133); replace HB := zA (below_step (zB0 HB) hb); clear hb hbox hg; obtain ⟨z48_0, z48_1, z48_2, z48_3, y48_0, y48_1, y48_2, y48_3⟩ := zc4 BK133) | (go_at_call 77; (with_reducible refine (spec_l1In.calls (wrap64 ((Int.tmod a1 a0_0) + a2)) 0 (wrap64 (a0_0 - 1)) true _ A41.out).mono ?_); rintro e w' ⟨rfl, ⟨nd, rfl⟩⟩; (try exact zw)) | (go_at_call 77; (with_reducible refine (spec_l1In.calls (wrap64 ((wrap64 (Int.tdiv a1 a0_0)) + a3)) 0 (wrap64 (a0_1 - 1)) false _ A43.out).mono ?_); rintro e w' ⟨rfl, ⟨nd, rfl⟩⟩; (try exact zw))); try go_wp2_with (first | ((with_reducible refine gate_dst (N := 4) rfl ?_); refine box_event zr (N := 4) zr (cs := #[.int .i64 a0_0, .int .i64 a0_1, .bool false, .bool false]) (t := 28) zh ?_; intro gb133 hg w47 hbox hb; have BK133 := zA (hbox); have GW133 := zA (zG hg (below_size (zB0 HB)) : w.heap.size ≤ gb133); have GE133 := zA (zG hg (below_size (zB0 HB)) : w.heap.size ≤ gb133); replace HB := zA (below_step (zB0 HB) hb); clear hb hbox hg; obtain ⟨z48_0, z48_1, z48_2, z48_3, y48_0, y48_1, y48_2, y48_3⟩ := zc4 BK133) | (go_at_call 77; (with_reducible refine (spec_l1In.calls (wrap64 ((Int.tmod a1 a0_0) + a2)) 0 (wrap64 (a0_0 - 1)) true _ A41.out).mono ?_); rintro e w' ⟨rfl, ⟨nd, rfl⟩⟩; (try exact zw)) | (go_at_call 77; (with_reducible refine (spec_l1In.calls (wrap64 ((wrap64 (Int.tdiv a1 a0_0)) + a3)) 0 (wrap64 (a0_1 - 1)) false _ A43.out).mono ?_); rintro e w' ⟨rfl, ⟨nd, rfl⟩⟩; (try exact zw))))
      go_ret
      exact ⟨zt, zB1 HB GE133⟩
    ·replace c42 := Bool.eq_false_iff.mpr c42
     subst c42
     have H1 : (some (-1)) = some r := by rw [if_neg (show ¬ (false = true) by decide)] at H; exact H
     clear H
     have H := H1
     clear H1
     obtain rfl := Option.some.inj H
     go_enter Try.func108, Try.ntmps108
     go_wp2_with (first | ((with_reducible refine gate_dst (N := 4) rfl ?_); refine box_event zr (N := 4) zr (cs := #[.int .i64 a0_0, .int .i64 a0_1, .bool false, .bool false]) (t := 28) zh ?_; intro gb133 hg w49 hbox hb; have BK133 := zA (hbox); have GW133 := zA (zG hg (below_size (zB0 HB)) : w.heap.size ≤ gb133); have GE133 := zA (zG hg (below_size (zB0 HB)) : w.heap.size ≤ gb133); replace HB := zA (below_step (zB0 HB) hb); clear hb hbox hg; obtain ⟨z50_0, z50_1, z50_2, z50_3, y50_0, y50_1, y50_2, y50_3⟩ := zc4 BK133) | (go_at_call 77; (with_reducible refine (spec_l1In.calls (wrap64 ((Int.tmod a1 a0_0) + a2)) 0 (wrap64 (a0_0 - 1)) false _ A41.out).mono ?_); rintro e w' ⟨rfl, ⟨nd, rfl⟩⟩; (try exact zw)))
     repeat (go_quiet (first | ((with_reducible refine gate_dst (N := 4) rfl ?_); refine box_event zr (N := 4) zr (cs := #[.int .i64 a0_0, .int .i64 a0_1, .bool false, .bool false]) (t := 28) zh ?_; intro gb133 hg w49 hbox hb; have BK133 := zA (hbox); have GW133 := zA (zG hg (below_size (zB0 HB)) : w.heap.size ≤ gb133); have GE133 := zA (zG hg (below_size (zB0 HB)) : w.heap.size ≤ gb133); replace HB := zA (below_step (zB0 HB) hb); clear hb hbox hg; obtain ⟨z50_0, z50_1, z50_2, z50_3, y50_0, y50_1, y50_2, y50_3⟩ := zc4 BK133) | (go_at_call 77; (with_reducible refine (spec_l1In.calls (wrap64 ((Int.tmod a1 a0_0) + a2)) 0 (wrap64 (a0_0 - 1)) false _ A41.out).mono ?_); rintro e w' ⟨rfl, ⟨nd, rfl⟩⟩; (try exact zw))); try go_wp2_with (first | ((with_reducible refine gate_dst (N := 4) rfl ?_); refine box_event zr (N := 4) zr (cs := #[.int .i64 a0_0, .int .i64 a0_1, .bool false, .bool false]) (t := 28) zh ?_; intro gb133 hg w49 hbox hb; have BK133 := zA (hbox); have GW133 := zA (zG hg (below_size (zB0 HB)) : w.heap.size ≤ gb133); have GE133 := zA (zG hg (below_size (zB0 HB)) : w.heap.size ≤ gb133); replace HB := zA (below_step (zB0 HB) hb); clear hb hbox hg; obtain ⟨z50_0, z50_1, z50_2, z50_3, y50_0, y50_1, y50_2, y50_3⟩ := zc4 BK133) | (go_at_call 77; (with_reducible refine (spec_l1In.calls (wrap64 ((Int.tmod a1 a0_0) + a2)) 0 (wrap64 (a0_0 - 1)) false _ A41.out).mono ?_); rintro e w' ⟨rfl, ⟨nd, rfl⟩⟩; (try exact zw))))
     go_ret
     exact ⟨zt, zB1 HB GE133⟩
end Go.Proofs.Ytogkcfddoiloeaa.PFnOrbitsShare
