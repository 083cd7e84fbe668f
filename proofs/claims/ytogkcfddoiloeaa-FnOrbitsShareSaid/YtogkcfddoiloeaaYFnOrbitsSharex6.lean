/- The walk. -/
import Derived.Test.YtogkcfddoiloeaaYFnOrbitsSharex5
namespace Go.Proofs.Ytogkcfddoiloeaa.PFnOrbitsShare
open Go.RowKit Go.Proofs.YtogkcfddoiloeaaW.PrintWords Go.Proofs.YtogkcfddoiloeaaW.PrintLast Go.Proofs.YtogkcfddoiloeaaW.PrintMore
attribute [local go_sem] max2_int min2_int max_two min_two max_three min_three max_four min_four
set_option linter.unusedVariables false
set_option linter.unusedSimpArgs false
def impl_TwoSteps.f (k : Nat) (a0_0 : Int) (a0_1 : Int) (a0_2 : Bool) (a0_3 : Bool) (a1_0 : Int) (a1_1 : Int) (a2 : Int) (a3 : Int) (a4 : Int) : Option (List Int × Bool) := (impl_IsAround.f a0_0 a0_1 a0_2 a0_3).bind fun t257 => (if t257 = true then ((impl_IsLeaper.f a1_0 a1_1).bind fun t258 => (if t258 = true then (if a4 < 2 then (some (([] : List Int), false)) else (if a4 > 150 then (some (([] : List Int), false)) else ((impl_Leaper_steps.f k a1_0 a1_1).bind fun t259 => (if a2 < 0 then (some (([] : List Int), false)) else (if a2 ≥ (t259.length : Int) then (some (([] : List Int), false)) else (if a3 < 0 then (some (([] : List Int), false)) else (if a3 ≥ (t259.length : Int) then (some (([] : List Int), false)) else (if 0 ≤ a2 then (if a2 < (t259.length : Int) then (if 0 ≤ a3 then (if a3 < (t259.length : Int) then ((impl_Around_twoSteps.f k a0_0 a0_1 a0_2 a0_3 (rd_L1 t259 a2) (rd_L1 t259 a3) a4).bind fun t264 => (some (t264, true))) else (none)) else (none)) else (none)) else (none))))))))) else (some (([] : List Int), false)))) else (some (([] : List Int), false)))
theorem impl_TwoSteps.mono : ∀ a0 a1 a2 a3 a4 a5 a6 a7 a8 k, LeO (impl_TwoSteps.f k a0 a1 a2 a3 a4 a5 a6 a7 a8) (impl_TwoSteps.f (k + 1) a0 a1 a2 a3 a4 a5 a6 a7 a8) := by
 intro a0 a1 a2 a3 a4 a5 a6 a7 a8 k
 unfold impl_TwoSteps.f
 repeat' first
   | (with_reducible exact impl_Around_twoSteps.mono _ _ _ _ _ _ _ _)
   | (with_reducible exact impl_Leaper_steps.mono _ _ _)
   | (with_reducible exact LeO.refl _)
   | (with_reducible exact LeO.none _)
   | (with_reducible refine LeO.ite ?_ ?_)
   | (with_reducible refine LeO.bind ?_ (fun _ => ?_))
   | exact impl_Around_twoSteps.mono _ _ _ _ _ _ _ _
   | exact impl_Leaper_steps.mono _ _ _
   | exact LeO.none _
   | refine LeO.ite ?_ ?_
   | refine LeO.bind ?_ (fun _ => ?_)
def impl_TwoSteps.T6 : Bool × List (List Nat × List Nat) := (true, [([], []), ([], []), ([], []), ([1, 2], [1, 2]), ([3], [3]), ([], []), ([], []), ([5, 6], [5, 6]), ([7], [7]), ([], []), ([0, 4, 8, 9], [0, 4, 8, 9]), ([10, 10, 0, 1, 2, 3, 4, 5, 6, 7, 8, 9, 10], [10]), ([11, 0, 1, 2, 3, 4, 5, 6, 7, 8, 9, 10, 11], [])])
def impl_TwoSteps.B6 : List Nat := [0, 0, 0, 6, 14, 0, 0, 96, 224, 0, 1023, 2047, 4095]
theorem impl_TwoSteps.tab6 : rtab .any (opsOf Try.f35 6) = impl_TwoSteps.T6 := by kernel_rfl
theorem impl_TwoSteps.bits6 : waitsOk impl_TwoSteps.T6.2 impl_TwoSteps.B6 = true := by kernel_rfl
set_option maxHeartbeats 8000000 in
set_option maxRecDepth 100000 in
theorem impl_TwoSteps.calls (k : Nat) (a0_0 : Int) (a0_1 : Int) (a0_2 : Bool) (a0_3 : Bool) (a1_0 : Int) (a1_1 : Int) (a2 : Int) (a3 : Int) (a4 : Int) (r1 : List Int) (r2 : Bool) (w : World) (h : impl_TwoSteps.f k a0_0 a0_1 a0_2 a0_3 a1_0 a1_1 a2 a3 a4 = some (r1, r2)) :
  Calls Try.prog 35 #[.agg #[.int .i64 a0_0, .int .i64 a0_1, .bool a0_2, .bool a0_3], .agg #[.int .i64 a1_0, .int .i64 a1_1], .int .i64 a2, .int .i64 a3, .int .i64 a4] w fun e w' => ∃ v0_ : Value, e = .returned (.tuple #[v0_, .bool r2]) ∧ Kd.R (Kd.int .i64) 3 w' w.heap.size (fun _ => True) v0_ r1 ∧ Below w.heap.size w w' := by
 have hu28 := Try.underlying28
 have hu30 := Try.underlying30
 have HB := zA (Below.refl w.heap.size w)
 have H : ((impl_IsAround.f a0_0 a0_1 a0_2 a0_3).bind fun t257 => (if t257 = true then ((impl_IsLeaper.f a1_0 a1_1).bind fun t258 => (if t258 = true then (if a4 < 2 then (some (([] : List Int), false)) else (if a4 > 150 then (some (([] : List Int), false)) else ((impl_Leaper_steps.f k a1_0 a1_1).bind fun t259 => (if a2 < 0 then (some (([] : List Int), false)) else (if a2 ≥ (t259.length : Int) then (some (([] : List Int), false)) else (if a3 < 0 then (some (([] : List Int), false)) else (if a3 ≥ (t259.length : Int) then (some (([] : List Int), false)) else (if 0 ≤ a2 then (if a2 < (t259.length : Int) then (if 0 ≤ a3 then (if a3 < (t259.length : Int) then ((impl_Around_twoSteps.f k a0_0 a0_1 a0_2 a0_3 (rd_L1 t259 a2) (rd_L1 t259 a3) a4).bind fun t264 => (some (t264, true))) else (none)) else (none)) else (none)) else (none))))))))) else (some (([] : List Int), false)))) else (some (([] : List Int), false)))) = some (r1, r2) := h
 clear h
 obtain ⟨t257, A6, H⟩ := zM H
 try dsimp only at H
 by_cases c7 : t257 = true
 ·subst c7
  have H1 : ((impl_IsLeaper.f a1_0 a1_1).bind fun t258 => (if t258 = true then (if a4 < 2 then (some (([] : List Int), false)) else (if a4 > 150 then (some (([] : List Int), false)) else ((impl_Leaper_steps.f k a1_0 a1_1).bind fun t259 => (if a2 < 0 then (some (([] : List Int), false)) else (if a2 ≥ (t259.length : Int) then (some (([] : List Int), false)) else (if a3 < 0 then (some (([] : List Int), false)) else (if a3 ≥ (t259.length : Int) then (some (([] : List Int), false)) else (if 0 ≤ a2 then (if a2 < (t259.length : Int) then (if 0 ≤ a3 then (if a3 < (t259.length : Int) then ((impl_Around_twoSteps.f k a0_0 a0_1 a0_2 a0_3 (rd_L1 t259 a2) (rd_L1 t259 a3) a4).bind fun t264 => (some (t264, true))) else (none)) else (none)) else (none)) else (none))))))))) else (some (([] : List Int), false)))) = some (r1, r2) := by rw [if_pos rfl] at H; exact H
  clear H
  have H := H1
  clear H1
  obtain ⟨t258, A8, H⟩ := zM H
  try dsimp only at H
  by_cases c9 : t258 = true
  ·subst c9
   have H1 : (if a4 < 2 then (some (([] : List Int), false)) else (if a4 > 150 then (some (([] : List Int), false)) else ((impl_Leaper_steps.f k a1_0 a1_1).bind fun t259 => (if a2 < 0 then (some (([] : List Int), false)) else (if a2 ≥ (t259.length : Int) then (some (([] : List Int), false)) else (if a3 < 0 then (some (([] : List Int), false)) else (if a3 ≥ (t259.length : Int) then (some (([] : List Int), false)) else (if 0 ≤ a2 then (if a2 < (t259.length : Int) then (if 0 ≤ a3 then (if a3 < (t259.length : Int) then ((impl_Around_twoSteps.f k a0_0 a0_1 a0_2 a0_3 (rd_L1 t259 a2) (rd_L1 t259 a3) a4).bind fun t264 => (some (t264, true))) else (none)) else (none)) else (none)) else (none))))))))) = some (r1, r2) := by rw [if_pos rfl] at H; exact H
   clear H
   have H := H1
   clear H1
   by_cases c10 : a4 < 2
   ·rw [if_pos c10] at H
    have c10b0 : decide (a4 < 2) = true := decide_eq_true c10
    clear c10
    simp only [Option.some.injEq, Prod.mk.injEq] at H
    obtain ⟨rfl, rfl⟩ := H
    go_enter Try.func35, Try.ntmps35
    go_wp2_with (first | ((with_reducible refine gate_dst (N := 5) rfl ?_); (try (refine gate_guard (by rfl) ?_; dsimp only)); refine box_event zr (N := 5) zr (cs := #[.int .i64 a0_0, .int .i64 a0_1, .bool a0_2, .bool a0_3]) (t := 28) zh ?_; intro gb255 hg w11 hbox hb; have BK255 := zA (hbox); have GW255 := zA (zG hg (below_size (zB0 HB)) : w.heap.size ≤ gb255); have GE255 := zA (zG hg (below_size (zB0 HB)) : w.heap.size ≤ gb255); replace HB := zA (below_step (zB0 HB) hb); clear hb hbox hg) | ((with_reducible refine gate_dst (N := 6) rfl ?_); (try (refine gate_guard (by rfl) ?_; dsimp only)); refine box_event zr (N := 6) zr (cs := #[.int .i64 a1_0, .int .i64 a1_1]) (t := 30) zh ?_; intro gb256 hg w12 hbox hb; have BK256 := zA (hbox); have GW256 := zA (zG hg (below_size (zB1 HB GE255)) : w.heap.size ≤ gb256); have GE256 := zA (zG hg (below_size (zB1 HB GE255)) : w.heap.size ≤ gb256); replace HB := zA (below_step (zB1 HB GE255) hb); have NB255_256 := zA (zNl hg BK255 : gb255 ≠ gb256); have NB256_255 := zA (zNg hg BK255 : gb256 ≠ gb255); replace BK255 := zKb BK255 hb; clear hb hbox hg; have hnb13 := NB255_256.out; have hnc13 := NB256_255.out; obtain ⟨z14_0, z14_1, z14_2, z14_3, y14_0, y14_1, y14_2, y14_3⟩ := zc4 BK255) | ((with_reducible refine gate_callee (f := 64) rfl ?_); refine goesL_ (some 14) rfl rfl Try.func64 zn rfl #[.agg #[.int .i64 a0_0, .int .i64 a0_1, .bool a0_2, .bool a0_3]] rfl zm ?_; (with_reducible refine (impl_IsAround.calls a0_0 a0_1 a0_2 a0_3 true _ A6.out).mono ?_); rintro e w15 ⟨rfl, hb⟩; refine ⟨_, rfl, ?_⟩; replace BK255 := zKb BK255 hb; replace BK256 := zKb BK256 hb; replace HB := zA (below_step (zB2 HB GE255 GE256) hb); (try clear hb); (try clear hb2); (try clear hk); (try clear hi); obtain ⟨z16_0, z16_1, y16_0, y16_1⟩ := zc2 BK256) | (go_at_call 65; (with_reducible refine (impl_IsLeaper.calls a1_0 a1_1 true _ A8.out).mono ?_); rintro e w17 ⟨rfl, hb⟩; replace BK255 := zKb BK255 hb; replace BK256 := zKb BK256 hb; replace HB := zA (below_step (zB2 HB GE255 GE256) hb); (try clear hb); (try clear hb2); (try clear hk); (try clear hi)))
    go_ret2
    exact ⟨_, zt, by first | exact Kd.R_nil _ _ _ _ _ | exact Kd.N_nil _ _ _ _ _ | exact Kd.V_nil _ _ _ _ _ | exact Kd.Q_nil _ _ _ _ _ | exact Kd.S_nil _ _ _ _ _, zB2 HB GE255 GE256⟩
   ·rw [if_neg c10] at H
    have c10b0 : decide (a4 < 2) = false := decide_eq_false c10
    clear c10
    by_cases c18 : a4 > 150
    ·rw [if_pos c18] at H
     have c18b0 : decide (150 < a4) = true := decide_eq_true c18
     clear c18
     simp only [Option.some.injEq, Prod.mk.injEq] at H
     obtain ⟨rfl, rfl⟩ := H
     go_enter Try.func35, Try.ntmps35
     go_wp2_with (first | ((with_reducible refine gate_dst (N := 5) rfl ?_); (try (refine gate_guard (by rfl) ?_; dsimp only)); refine box_event zr (N := 5) zr (cs := #[.int .i64 a0_0, .int .i64 a0_1, .bool a0_2, .bool a0_3]) (t := 28) zh ?_; intro gb255 hg w19 hbox hb; have BK255 := zA (hbox); have GW255 := zA (zG hg (below_size (zB0 HB)) : w.heap.size ≤ gb255); have GE255 := zA (zG hg (below_size (zB0 HB)) : w.heap.size ≤ gb255); replace HB := zA (below_step (zB0 HB) hb); clear hb hbox hg) | ((with_reducible refine gate_dst (N := 6) rfl ?_); (try (refine gate_guard (by rfl) ?_; dsimp only)); refine box_event zr (N := 6) zr (cs := #[.int .i64 a1_0, .int .i64 a1_1]) (t := 30) zh ?_; intro gb256 hg w20 hbox hb; have BK256 := zA (hbox); have GW256 := zA (zG hg (below_size (zB1 HB GE255)) : w.heap.size ≤ gb256); have GE256 := zA (zG hg (below_size (zB1 HB GE255)) : w.heap.size ≤ gb256); replace HB := zA (below_step (zB1 HB GE255) hb); have NB255_256 := zA (zNl hg BK255 : gb255 ≠ gb256); have NB256_255 := zA (zNg hg BK255 : gb256 ≠ gb255); replace BK255 := zKb BK255 hb; clear hb hbox hg; have hnb21 := NB255_256.out; have hnc21 := NB256_255.out; obtain ⟨z22_0, z22_1, z22_2, z22_3, y22_0, y22_1, y22_2, y22_3⟩ := zc4 BK255) | ((with_reducible refine gate_callee (f := 64) rfl ?_); refine goesL_ (some 14) rfl rfl Try.func64 zn rfl #[.agg #[.int .i64 a0_0, .int .i64 a0_1, .bool a0_2, .bool a0_3]] rfl zm ?_; (with_reducible refine (impl_IsAround.calls a0_0 a0_1 a0_2 a0_3 true _ A6.out).mono ?_); rintro e w23 ⟨rfl, hb⟩; refine ⟨_, rfl, ?_⟩; replace BK255 := zKb BK255 hb; replace BK256 := zKb BK256 hb; replace HB := zA (below_step (zB2 HB GE255 GE256) hb); (try clear hb); (try clear hb2); (try clear hk); (try clear hi); obtain ⟨z24_0, z24_1, y24_0, y24_1⟩ := zc2 BK256) | (go_at_call 65; (with_reducible refine (impl_IsLeaper.calls a1_0 a1_1 true _ A8.out).mono ?_); rintro e w25 ⟨rfl, hb⟩; replace BK255 := zKb BK255 hb; replace BK256 := zKb BK256 hb; replace HB := zA (below_step (zB2 HB GE255 GE256) hb); (try clear hb); (try clear hb2); (try clear hk); (try clear hi)))
     go_ret2
     exact ⟨_, zt, by first | exact Kd.R_nil _ _ _ _ _ | exact Kd.N_nil _ _ _ _ _ | exact Kd.V_nil _ _ _ _ _ | exact Kd.Q_nil _ _ _ _ _ | exact Kd.S_nil _ _ _ _ _, zB2 HB GE255 GE256⟩
    ·rw [if_neg c18] at H
     have c18b0 : decide (150 < a4) = false := decide_eq_false c18
     clear c18
     obtain ⟨t259, A26, H⟩ := zM H
     try dsimp only at H
     by_cases c27 : a2 < 0
     ·rw [if_pos c27] at H
      have c27b0 : decide (a2 < 0) = true := decide_eq_true c27
      clear c27
      simp only [Option.some.injEq, Prod.mk.injEq] at H
      obtain ⟨rfl, rfl⟩ := H
      go_enter Try.func35, Try.ntmps35
      go_wp2_with (first | ((with_reducible refine gate_dst (N := 5) rfl ?_); (try (refine gate_guard (by rfl) ?_; dsimp only)); refine box_event zr (N := 5) zr (cs := #[.int .i64 a0_0, .int .i64 a0_1, .bool a0_2, .bool a0_3]) (t := 28) zh ?_; intro gb255 hg w28 hbox hb; have BK255 := zA (hbox); have GW255 := zA (zG hg (below_size (zB0 HB)) : w.heap.size ≤ gb255); have GE255 := zA (zG hg (below_size (zB0 HB)) : w.heap.size ≤ gb255); replace HB := zA (below_step (zB0 HB) hb); clear hb hbox hg) | ((with_reducible refine gate_dst (N := 6) rfl ?_); (try (refine gate_guard (by rfl) ?_; dsimp only)); refine box_event zr (N := 6) zr (cs := #[.int .i64 a1_0, .int .i64 a1_1]) (t := 30) zh ?_; intro gb256 hg w29 hbox hb; have BK256 := zA (hbox); have GW256 := zA (zG hg (below_size (zB1 HB GE255)) : w.heap.size ≤ gb256); have GE256 := zA (zG hg (below_size (zB1 HB GE255)) : w.heap.size ≤ gb256); replace HB := zA (below_step (zB1 HB GE255) hb); have NB255_256 := zA (zNl hg BK255 : gb255 ≠ gb256); have NB256_255 := zA (zNg hg BK255 : gb256 ≠ gb255); replace BK255 := zKb BK255 hb; clear hb hbox hg; have hnb30 := NB255_256.out; have hnc30 := NB256_255.out; obtain ⟨z31_0, z31_1, z31_2, z31_3, y31_0, y31_1, y31_2, y31_3⟩ := zc4 BK255) | ((with_reducible refine gate_callee (f := 64) rfl ?_); refine goesL_ (some 14) rfl rfl Try.func64 zn rfl #[.agg #[.int .i64 a0_0, .int .i64 a0_1, .bool a0_2, .bool a0_3]] rfl zm ?_; (with_reducible refine (impl_IsAround.calls a0_0 a0_1 a0_2 a0_3 true _ A6.out).mono ?_); rintro e w32 ⟨rfl, hb⟩; refine ⟨_, rfl, ?_⟩; replace BK255 := zKb BK255 hb; replace BK256 := zKb BK256 hb; replace HB := zA (below_step (zB2 HB GE255 GE256) hb); (try clear hb); (try clear hb2); (try clear hk); (try clear hi); obtain ⟨z33_0, z33_1, y33_0, y33_1⟩ := zc2 BK256) | (go_at_call 65; (with_reducible refine (impl_IsLeaper.calls a1_0 a1_1 true _ A8.out).mono ?_); rintro e w34 ⟨rfl, hb⟩; replace BK255 := zKb BK255 hb; replace BK256 := zKb BK256 hb; replace HB := zA (below_step (zB2 HB GE255 GE256) hb); (try clear hb); (try clear hb2); (try clear hk); (try clear hi); obtain ⟨z35_0, z35_1, y35_0, y35_1⟩ := zc2 BK256) | ((with_reducible refine gate_callee (f := 66) rfl ?_); refine goesL_ (some 30) rfl rfl Try.func66 zn rfl #[.agg #[.int .i64 a1_0, .int .i64 a1_1]] rfl zm ?_; (with_reducible refine (impl_Leaper_steps.calls k a1_0 a1_1 t259 _ A26.out).mono ?_); rintro e w36 ⟨v260, rfl, ho0, hb⟩; refine ⟨_, rfl, ?_⟩; have HO261 := zA (Kd.S_lower ho0 (below_size (zB2 HB GE255 GE256))); replace BK255 := zKb BK255 hb; replace BK256 := zKb BK256 hb; replace HB := zA (below_step (zB2 HB GE255 GE256) hb); (try clear hb); (try clear hb2); (try clear hk); (try clear hi); (try clear ho0)))
      go_ret2
      exact ⟨_, zt, by first | exact Kd.R_nil _ _ _ _ _ | exact Kd.N_nil _ _ _ _ _ | exact Kd.V_nil _ _ _ _ _ | exact Kd.Q_nil _ _ _ _ _ | exact Kd.S_nil _ _ _ _ _, zB2 HB GE255 GE256⟩
     ·rw [if_neg c27] at H
      have c27b0 : decide (a2 < 0) = false := decide_eq_false c27
      clear c27
      by_cases c37 : a2 ≥ (t259.length : Int)
      ·rw [if_pos c37] at H
       have c37b0 : decide ((t259.length : Int) ≤ a2) = true := decide_eq_true c37
       clear c37
       simp only [Option.some.injEq, Prod.mk.injEq] at H
       obtain ⟨rfl, rfl⟩ := H
       go_enter Try.func35, Try.ntmps35
       go_wp2_with (first | ((with_reducible refine gate_dst (N := 5) rfl ?_); (try (refine gate_guard (by rfl) ?_; dsimp only)); refine box_event zr (N := 5) zr (cs := #[.int .i64 a0_0, .int .i64 a0_1, .bool a0_2, .bool a0_3]) (t := 28) zh ?_; intro gb255 hg w38 hbox hb; have BK255 := zA (hbox); have GW255 := zA (zG hg (below_size (zB0 HB)) : w.heap.size ≤ gb255); have GE255 := zA (zG hg (below_size (zB0 HB)) : w.heap.size ≤ gb255); replace HB := zA (below_step (zB0 HB) hb); clear hb hbox hg) | ((with_reducible refine gate_dst (N := 6) rfl ?_); (try (refine gate_guard (by rfl) ?_; dsimp only)); refine box_event zr (N := 6) zr (cs := #[.int .i64 a1_0, .int .i64 a1_1]) (t := 30) zh ?_; intro gb256 hg w39 hbox hb; have BK256 := zA (hbox); have GW256 := zA (zG hg (below_size (zB1 HB GE255)) : w.heap.size ≤ gb256); have GE256 := zA (zG hg (below_size (zB1 HB GE255)) : w.heap.size ≤ gb256); replace HB := zA (below_step (zB1 HB GE255) hb); have NB255_256 := zA (zNl hg BK255 : gb255 ≠ gb256); have NB256_255 := zA (zNg hg BK255 : gb256 ≠ gb255); replace BK255 := zKb BK255 hb; clear hb hbox hg; have hnb40 := NB255_256.out; have hnc40 := NB256_255.out; obtain ⟨z41_0, z41_1, z41_2, z41_3, y41_0, y41_1, y41_2, y41_3⟩ := zc4 BK255) | ((with_reducible refine gate_callee (f := 64) rfl ?_); refine goesL_ (some 14) rfl rfl Try.func64 zn rfl #[.agg #[.int .i64 a0_0, .int .i64 a0_1, .bool a0_2, .bool a0_3]] rfl zm ?_; (with_reducible refine (impl_IsAround.calls a0_0 a0_1 a0_2 a0_3 true _ A6.out).mono ?_); rintro e w42 ⟨rfl, hb⟩; refine ⟨_, rfl, ?_⟩; replace BK255 := zKb BK255 hb; replace BK256 := zKb BK256 hb; replace HB := zA (below_step (zB2 HB GE255 GE256) hb); (try clear hb); (try clear hb2); (try clear hk); (try clear hi); obtain ⟨z43_0, z43_1, y43_0, y43_1⟩ := zc2 BK256) | (go_at_call 65; (with_reducible refine (impl_IsLeaper.calls a1_0 a1_1 true _ A8.out).mono ?_); rintro e w44 ⟨rfl, hb⟩; replace BK255 := zKb BK255 hb; replace BK256 := zKb BK256 hb; replace HB := zA (below_step (zB2 HB GE255 GE256) hb); (try clear hb); (try clear hb2); (try clear hk); (try clear hi); obtain ⟨z45_0, z45_1, y45_0, y45_1⟩ := zc2 BK256) | ((with_reducible refine gate_callee (f := 66) rfl ?_); refine goesL_ (some 30) rfl rfl Try.func66 zn rfl #[.agg #[.int .i64 a1_0, .int .i64 a1_1]] rfl zm ?_; (with_reducible refine (impl_Leaper_steps.calls k a1_0 a1_1 t259 _ A26.out).mono ?_); rintro e w46 ⟨v260, rfl, ho0, hb⟩; refine ⟨_, rfl, ?_⟩; have HO261 := zA (Kd.S_lower ho0 (below_size (zB2 HB GE255 GE256))); replace BK255 := zKb BK255 hb; replace BK256 := zKb BK256 hb; replace HB := zA (below_step (zB2 HB GE255 GE256) hb); (try clear hb); (try clear hb2); (try clear hk); (try clear hi); (try clear ho0); obtain ⟨Ao47, co47, eo47⟩ := Kd.S_slice HO261.out; subst eo47))
       go_ret2
       exact ⟨_, zt, by first | exact Kd.R_nil _ _ _ _ _ | exact Kd.N_nil _ _ _ _ _ | exact Kd.V_nil _ _ _ _ _ | exact Kd.Q_nil _ _ _ _ _ | exact Kd.S_nil _ _ _ _ _, zB2 HB GE255 GE256⟩
      ·rw [if_neg c37] at H
       have c37b0 : decide ((t259.length : Int) ≤ a2) = false := decide_eq_false c37
       clear c37
       by_cases c48 : a3 < 0
       ·rw [if_pos c48] at H
        have c48b0 : decide (a3 < 0) = true := decide_eq_true c48
        clear c48
        simp only [Option.some.injEq, Prod.mk.injEq] at H
        obtain ⟨rfl, rfl⟩ := H
        go_enter Try.func35, Try.ntmps35
        go_wp2_with (first | ((with_reducible refine gate_dst (N := 5) rfl ?_); (try (refine gate_guard (by rfl) ?_; dsimp only)); refine box_event zr (N := 5) zr (cs := #[.int .i64 a0_0, .int .i64 a0_1, .bool a0_2, .bool a0_3]) (t := 28) zh ?_; intro gb255 hg w49 hbox hb; have BK255 := zA (hbox); have GW255 := zA (zG hg (below_size (zB0 HB)) : w.heap.size ≤ gb255); have GE255 := zA (zG hg (below_size (zB0 HB)) : w.heap.size ≤ gb255); replace HB := zA (below_step (zB0 HB) hb); clear hb hbox hg) | ((with_reducible refine gate_dst (N := 6) rfl ?_); (try (refine gate_guard (by rfl) ?_; dsimp only)); refine box_event zr (N := 6) zr (cs := #[.int .i64 a1_0, .int .i64 a1_1]) (t := 30) zh ?_; intro gb256 hg w50 hbox hb; have BK256 := zA (hbox); have GW256 := zA (zG hg (below_size (zB1 HB GE255)) : w.heap.size ≤ gb256); have GE256 := zA (zG hg (below_size (zB1 HB GE255)) : w.heap.size ≤ gb256); replace HB := zA (below_step (zB1 HB GE255) hb); have NB255_256 := zA (zNl hg BK255 : gb255 ≠ gb256); have NB256_255 := zA (zNg hg BK255 : gb256 ≠ gb255); replace BK255 := zKb BK255 hb; clear hb hbox hg; have hnb51 := NB255_256.out; have hnc51 := NB256_255.out; obtain ⟨z52_0, z52_1, z52_2, z52_3, y52_0, y52_1, y52_2, y52_3⟩ := zc4 BK255) | ((with_reducible refine gate_callee (f := 64) rfl ?_); refine goesL_ (some 14) rfl rfl Try.func64 zn rfl #[.agg #[.int .i64 a0_0, .int .i64 a0_1, .bool a0_2, .bool a0_3]] rfl zm ?_; (with_reducible refine (impl_IsAround.calls a0_0 a0_1 a0_2 a0_3 true _ A6.out).mono ?_); rintro e w53 ⟨rfl, hb⟩; refine ⟨_, rfl, ?_⟩; replace BK255 := zKb BK255 hb; replace BK256 := zKb BK256 hb; replace HB := zA (below_step (zB2 HB GE255 GE256) hb); (try clear hb); (try clear hb2); (try clear hk); (try clear hi); obtain ⟨z54_0, z54_1, y54_0, y54_1⟩ := zc2 BK256) | (go_at_call 65; (with_reducible refine (impl_IsLeaper.calls a1_0 a1_1 true _ A8.out).mono ?_); rintro e w55 ⟨rfl, hb⟩; replace BK255 := zKb BK255 hb; replace BK256 := zKb BK256 hb; replace HB := zA (below_step (zB2 HB GE255 GE256) hb); (try clear hb); (try clear hb2); (try clear hk); (try clear hi); obtain ⟨z56_0, z56_1, y56_0, y56_1⟩ := zc2 BK256) | ((with_reducible refine gate_callee (f := 66) rfl ?_); refine goesL_ (some 30) rfl rfl Try.func66 zn rfl #[.agg #[.int .i64 a1_0, .int .i64 a1_1]] rfl zm ?_; (with_reducible refine (impl_Leaper_steps.calls k a1_0 a1_1 t259 _ A26.out).mono ?_); rintro e w57 ⟨v260, rfl, ho0, hb⟩; refine ⟨_, rfl, ?_⟩; have HO261 := zA (Kd.S_lower ho0 (below_size (zB2 HB GE255 GE256))); replace BK255 := zKb BK255 hb; replace BK256 := zKb BK256 hb; replace HB := zA (below_step (zB2 HB GE255 GE256) hb); (try clear hb); (try clear hb2); (try clear hk); (try clear hi); (try clear ho0); obtain ⟨Ao58, co58, eo58⟩ := Kd.S_slice HO261.out; subst eo58))
        go_ret2
        exact ⟨_, zt, by first | exact Kd.R_nil _ _ _ _ _ | exact Kd.N_nil _ _ _ _ _ | exact Kd.V_nil _ _ _ _ _ | exact Kd.Q_nil _ _ _ _ _ | exact Kd.S_nil _ _ _ _ _, zB2 HB GE255 GE256⟩
       ·rw [if_neg c48] at H
        have c48b0 : decide (a3 < 0) = false := decide_eq_false c48
        clear c48
        by_cases c59 : a3 ≥ (t259.length : Int)
        ·rw [if_pos c59] at H
         have c59b0 : decide ((t259.length : Int) ≤ a3) = true := decide_eq_true c59
         clear c59
         simp only [Option.some.injEq, Prod.mk.injEq] at H
         obtain ⟨rfl, rfl⟩ := H
         go_enter Try.func35, Try.ntmps35
         go_wp2_with (first | ((with_reducible refine gate_dst (N := 5) rfl ?_); (try (refine gate_guard (by rfl) ?_; dsimp only)); refine box_event zr (N := 5) zr (cs := #[.int .i64 a0_0, .int .i64 a0_1, .bool a0_2, .bool a0_3]) (t := 28) zh ?_; intro gb255 hg w60 hbox hb; have BK255 := zA (hbox); have GW255 := zA (zG hg (below_size (zB0 HB)) : w.heap.size ≤ gb255); have GE255 := zA (zG hg (below_size (zB0 HB)) : w.heap.size ≤ gb255); replace HB := zA (below_step (zB0 HB) hb); clear hb hbox hg) | ((with_reducible refine gate_dst (N := 6) rfl ?_); (try (refine gate_guard (by rfl) ?_; dsimp only)); refine box_event zr (N := 6) zr (cs := #[.int .i64 a1_0, .int .i64 a1_1]) (t := 30) zh ?_; intro gb256 hg w61 hbox hb; have BK256 := zA (hbox); have GW256 := zA (zG hg (below_size (zB1 HB GE255)) : w.heap.size ≤ gb256); have GE256 := zA (zG hg (below_size (zB1 HB GE255)) : w.heap.size ≤ gb256); replace HB := zA (below_step (zB1 HB GE255) hb); have NB255_256 := zA (zNl hg BK255 : gb255 ≠ gb256); have NB256_255 := zA (zNg hg BK255 : gb256 ≠ gb255); replace BK255 := zKb BK255 hb; clear hb hbox hg; have hnb62 := NB255_256.out; have hnc62 := NB256_255.out; obtain ⟨z63_0, z63_1, z63_2, z63_3, y63_0, y63_1, y63_2, y63_3⟩ := zc4 BK255) | ((with_reducible refine gate_callee (f := 64) rfl ?_); refine goesL_ (some 14) rfl rfl Try.func64 zn rfl #[.agg #[.int .i64 a0_0, .int .i64 a0_1, .bool a0_2, .bool a0_3]] rfl zm ?_; (with_reducible refine (impl_IsAround.calls a0_0 a0_1 a0_2 a0_3 true _ A6.out).mono ?_); rintro e w64 ⟨rfl, hb⟩; refine ⟨_, rfl, ?_⟩; replace BK255 := zKb BK255 hb; replace BK256 := zKb BK256 hb; replace HB := zA (below_step (zB2 HB GE255 GE256) hb); (try clear hb); (try clear hb2); (try clear hk); (try clear hi); obtain ⟨z65_0, z65_1, y65_0, y65_1⟩ := zc2 BK256) | (go_at_call 65; (with_reducible refine (impl_IsLeaper.calls a1_0 a1_1 true _ A8.out).mono ?_); rintro e w66 ⟨rfl, hb⟩; replace BK255 := zKb BK255 hb; replace BK256 := zKb BK256 hb; replace HB := zA (below_step (zB2 HB GE255 GE256) hb); (try clear hb); (try clear hb2); (try clear hk); (try clear hi); obtain ⟨z67_0, z67_1, y67_0, y67_1⟩ := zc2 BK256) | ((with_reducible refine gate_callee (f := 66) rfl ?_); refine goesL_ (some 30) rfl rfl Try.func66 zn rfl #[.agg #[.int .i64 a1_0, .int .i64 a1_1]] rfl zm ?_; (with_reducible refine (impl_Leaper_steps.calls k a1_0 a1_1 t259 _ A26.out).mono ?_); rintro e w68 ⟨v260, rfl, ho0, hb⟩; refine ⟨_, rfl, ?_⟩; have HO261 := zA (Kd.S_lower ho0 (below_size (zB2 HB GE255 GE256))); replace BK255 := zKb BK255 hb; replace BK256 := zKb BK256 hb; replace HB := zA (below_step (zB2 HB GE255 GE256) hb); (try clear hb); (try clear hb2); (try clear hk); (try clear hi); (try clear ho0); obtain ⟨Ao69, co69, eo69⟩ := Kd.S_slice HO261.out; subst eo69))
         go_ret2
         exact ⟨_, zt, by first | exact Kd.R_nil _ _ _ _ _ | exact Kd.N_nil _ _ _ _ _ | exact Kd.V_nil _ _ _ _ _ | exact Kd.Q_nil _ _ _ _ _ | exact Kd.S_nil _ _ _ _ _, zB2 HB GE255 GE256⟩
        ·rw [if_neg c59] at H
         have c59b0 : decide ((t259.length : Int) ≤ a3) = false := decide_eq_false c59
         clear c59
         by_cases c70 : 0 ≤ a2
         ·rw [if_pos c70] at H
          have c70b0 : decide (0 ≤ a2) = true := decide_eq_true c70
          clear c70
          by_cases c71 : a2 < (t259.length : Int)
          ·rw [if_pos c71] at H
           have c71b0 : decide (a2 < (t259.length : Int)) = true := decide_eq_true c71
           clear c71
           by_cases c72 : 0 ≤ a3
           ·rw [if_pos c72] at H
            have c72b0 : decide (0 ≤ a3) = true := decide_eq_true c72
            clear c72
            by_cases c73 : a3 < (t259.length : Int)
            ·rw [if_pos c73] at H
             have c73b0 : decide (a3 < (t259.length : Int)) = true := decide_eq_true c73
             clear c73
             obtain ⟨t264, A74, H⟩ := zM H
             try dsimp only at H
             simp only [Option.some.injEq, Prod.mk.injEq] at H
             obtain ⟨rfl, rfl⟩ := H
             go_enter Try.func35, Try.ntmps35
             try go_wp2_with (first | ((with_reducible refine gate_dst (N := 5) rfl ?_); (try (refine gate_guard (by rfl) ?_; dsimp only)); refine box_event zr (N := 5) zr (cs := #[.int .i64 a0_0, .int .i64 a0_1, .bool a0_2, .bool a0_3]) (t := 28) zh ?_; intro gb255 hg w75 hbox hb; have BK255 := zA (hbox); have GW255 := zA (zG hg (below_size (zB0 HB)) : w.heap.size ≤ gb255); have GE255 := zA (zG hg (below_size (zB0 HB)) : w.heap.size ≤ gb255); replace HB := zA (below_step (zB0 HB) hb); clear hb hbox hg) | ((with_reducible refine gate_dst (N := 6) rfl ?_); (try (refine gate_guard (by rfl) ?_; dsimp only)); refine box_event zr (N := 6) zr (cs := #[.int .i64 a1_0, .int .i64 a1_1]) (t := 30) zh ?_; intro gb256 hg w76 hbox hb; have BK256 := zA (hbox); have GW256 := zA (zG hg (below_size (zB1 HB GE255)) : w.heap.size ≤ gb256); have GE256 := zA (zG hg (below_size (zB1 HB GE255)) : w.heap.size ≤ gb256); replace HB := zA (below_step (zB1 HB GE255) hb); have NB255_256 := zA (zNl hg BK255 : gb255 ≠ gb256); have NB256_255 := zA (zNg hg BK255 : gb256 ≠ gb255); replace BK255 := zKb BK255 hb; clear hb hbox hg; have hnb77 := NB255_256.out; have hnc77 := NB256_255.out; obtain ⟨z78_0, z78_1, z78_2, z78_3, y78_0, y78_1, y78_2, y78_3⟩ := zc4 BK255) | ((with_reducible refine gate_callee (f := 64) rfl ?_); refine goesL_ (some 14) rfl rfl Try.func64 zn rfl #[.agg #[.int .i64 a0_0, .int .i64 a0_1, .bool a0_2, .bool a0_3]] rfl zm ?_; (with_reducible refine (impl_IsAround.calls a0_0 a0_1 a0_2 a0_3 true _ A6.out).mono ?_); rintro e w79 ⟨rfl, hb⟩; refine ⟨_, rfl, ?_⟩; replace BK255 := zKb BK255 hb; replace BK256 := zKb BK256 hb; replace HB := zA (below_step (zB2 HB GE255 GE256) hb); (try clear hb); (try clear hb2); (try clear hk); (try clear hi); obtain ⟨z80_0, z80_1, y80_0, y80_1⟩ := zc2 BK256) | (go_at_call 65; (with_reducible refine (impl_IsLeaper.calls a1_0 a1_1 true _ A8.out).mono ?_); rintro e w81 ⟨rfl, hb⟩; replace BK255 := zKb BK255 hb; replace BK256 := zKb BK256 hb; replace HB := zA (below_step (zB2 HB GE255 GE256) hb); (try clear hb); (try clear hb2); (try clear hk); (try clear hi); obtain ⟨z82_0, z82_1, y82_0, y82_1⟩ := zc2 BK256) | ((with_reducible refine gate_callee (f := 66) rfl ?_); refine goesL_ (some 30) rfl rfl Try.func66 zn rfl #[.agg #[.int .i64 a1_0, .int .i64 a1_1]] rfl zm ?_; (with_reducible refine (impl_Leaper_steps.calls k a1_0 a1_1 t259 _ A26.out).mono ?_); rintro e w83 ⟨v260, rfl, ho0, hb⟩; refine ⟨_, rfl, ?_⟩; have HO261 := zA (Kd.S_lower ho0 (below_size (zB2 HB GE255 GE256))); replace BK255 := zKb BK255 hb; replace BK256 := zKb BK256 hb; replace HB := zA (below_step (zB2 HB GE255 GE256) hb); (try clear hb); (try clear hb2); (try clear hk); (try clear hi); (try clear ho0); obtain ⟨Ao84, co84, eo84⟩ := Kd.S_slice HO261.out; subst eo84))
             replace HO261 := zA (Kd.S_drew HO261.out)
             replace BK255 := zA (blk_drew BK255.out)
             replace BK256 := zA (blk_drew BK256.out)
             replace HB := zA (below_drew1 HB.out)
             have p262 : 0 ≤ (a2 : Int) := zd
             have q262 : a2 < (t259.length : Int) := zd
             obtain ⟨ad262, A262_0, c262_0, e262, hx262_0, hl262_0, hi262_0⟩ := at_L1 (Kd.S_reads' HO261.out).2.2 a2 p262 q262
             cases e262
             obtain ⟨ce262, hce262, hMe262, hcc262⟩ := Kd.S_get HO261.out [] a2 p262 (by first | exact q262 | exact zd | (have e_ := (Kd.S_reads' HO261.out).1; omega))
             obtain ⟨ve262_0, rfl, ge262_0⟩ := hMe262
             have hv262_0 := hcc262 0 _ rfl
             rw [Nat.add_zero, show ((Kd.slice 3 (Kd.int .i64))).sz = 1 from rfl, Nat.mul_one] at hv262_0
             replace hv262_0 := Option.some.inj (hv262_0.symm.trans hx262_0)
             rw [hv262_0] at ge262_0
             have HL262_0 := zA (show Kd.R (Kd.int .i64) 3 _ _ _ _ (rd_L1 t259 a2) from ge262_0)
             clear hv262_0 ge262_0
             clear hcc262 hce262
             have HR262_0 := zA hi262_0
             have HC262_0 := zA hl262_0
             clear hi262_0 hl262_0
             replace p262 := eq_true p262
             replace q262 := eq_true q262
             have p263 : 0 ≤ (a3 : Int) := zd
             have q263 : a3 < (t259.length : Int) := zd
             obtain ⟨ad263, A263_0, c263_0, e263, hx263_0, hl263_0, hi263_0⟩ := at_L1 (Kd.S_reads' HO261.out).2.2 a3 p263 q263
             obtain rfl : ad262 = ad263 := (by injection e263)
             obtain ⟨ce263, hce263, hMe263, hcc263⟩ := Kd.S_get HO261.out [] a3 p263 (by first | exact q263 | exact zd | (have e_ := (Kd.S_reads' HO261.out).1; omega))
             obtain ⟨ve263_0, rfl, ge263_0⟩ := hMe263
             have hv263_0 := hcc263 0 _ rfl
             rw [Nat.add_zero, show ((Kd.slice 3 (Kd.int .i64))).sz = 1 from rfl, Nat.mul_one] at hv263_0
             replace hv263_0 := Option.some.inj (hv263_0.symm.trans hx263_0)
             rw [hv263_0] at ge263_0
             have HL263_0 := zA (show Kd.R (Kd.int .i64) 3 _ _ _ _ (rd_L1 t259 a3) from ge263_0)
             clear hv263_0 ge263_0
             clear hcc263 hce263
             have HR263_0 := zA hi263_0
             have HC263_0 := zA hl263_0
             clear hi263_0 hl263_0
             replace p263 := eq_true p263
             replace q263 := eq_true q263
             refine start_ (n := 13) (S := fun w' => w'.cell? ⟨gb255, 0, none⟩ = some (.int .i64 a0_0) ∧ w'.cell? ⟨gb255, 1, none⟩ = some (.int .i64 a0_1) ∧ w'.cell? ⟨gb255, 2, none⟩ = some (.bool a0_2) ∧ w'.cell? ⟨gb255, 3, none⟩ = some (.bool a0_3) ∧ w'.cell? (ad262.add (a2).toNat) = some (.slice A262_0 (rd_L1 t259 a2).length c262_0) ∧ w'.cell? (ad262.add (a3).toNat) = some (.slice A263_0 (rd_L1 t259 a3).length c263_0)) (ds := []) #[false, false, false, false, false, false, false, false, false, false, false, false, false] zn rfl rfl ⟨(blk_cell BK255.out 0).trans rfl, (blk_cell BK255.out 1).trans rfl, (blk_cell BK255.out 2).trans rfl, (blk_cell BK255.out 3).trans rfl, hx262_0, hx263_0⟩ (fun hHeld => ?_); refine with_tabW impl_TwoSteps.tab6 impl_TwoSteps.bits6 (fun HT_ HW_ => ?_)
             generalize w83.drew = w85 at HO261 BK255 BK256 HB HL262_0 HL263_0 HR262_0 HR263_0 hx262_0 hx263_0 hHeld ⊢
             refine zq HT_ (i := 1) (N := some 50) ?_
             refine zq HT_ (i := 2) (N := some 51) ?_
             refine zq HT_ (i := 3) (N := some 52) ?_
             refine zq HT_ (i := 5) (N := some 54) ?_
             refine zq HT_ (i := 6) (N := some 55) ?_
             refine zq HT_ (i := 7) (N := some 56) ?_
             refine zq HT_ (i := 9) (N := some 58) ?_
             refine zx6 HT_ HW_ hHeld (i := 0) (N := some 49) ?_
             refine zx6 HT_ HW_ hHeld (i := 4) (N := some 53) ?_
             refine zx6 HT_ HW_ hHeld (i := 8) (N := some 57) ?_
             refine one_ (i := 10) (N := some 59) #[true, true, true, true, true, true, true, true, true, true, true, false, false] rfl rfl (one_of HT_.out zn) (by decide) (fun K hK => ?_)
             refine goes_ Try.func67 zn rfl #[.agg #[.int .i64 a0_0, .int .i64 a0_1, .bool a0_2, .bool a0_3], .slice A262_0 (rd_L1 t259 a2).length c262_0, .slice A263_0 (rd_L1 t259 a3).length c263_0, .int .i64 a4] (by rfl) rfl rfl zm ?_
             with_reducible refine (impl_Around_twoSteps.calls k a0_0 a0_1 a0_2 a0_3 _ _ (rd_L1 t259 a2) _ _ (rd_L1 t259 a3) a4 t264 _ ?side1 ?side2 ?side3 ?side4 A74.out).mono ?_
             (case side1 => repeat (first | exact (zC HR262_0.out) | (with_reducible refine Kd.C_alloc ?_ _) | (with_reducible refine Kd.C_drewN ?_ _) | (with_reducible refine Kd.C_drew ?_)))
             (case side2 => exact HC262_0.out)
             (case side3 => repeat (first | exact (zC HR263_0.out) | (with_reducible refine Kd.C_alloc ?_ _) | (with_reducible refine Kd.C_drewN ?_ _) | (with_reducible refine Kd.C_drew ?_)))
             (case side4 => exact HC263_0.out)
             rintro e w86 ⟨v265, rfl, ho0, hb⟩
             have HS4_ := (hb.cell (World.block_lt_of_cell? _ _ (hHeld.2.2.2.2.1))).trans (hHeld.2.2.2.2.1)
             have HS5_ := (hb.cell (World.block_lt_of_cell? _ _ (hHeld.2.2.2.2.2))).trans (hHeld.2.2.2.2.2)
             refine ⟨_, rfl, ?_⟩
             replace HO261 := zA (Kd.S_elder' (zL HO261.out) (Kd.R_base ho0) hb)
             have HO266 := zA (Kd.R_lower (Kd.R_new' (Kd.R_new' ho0 (Kd.R_lt (zR HL262_0.out))) (Kd.R_lt (zR HL263_0.out))) (below_size (zB2 HB GE255 GE256)))
             replace HL262_0 := zA (Kd.R_elder' (zR HL262_0.out) (Kd.R_base ho0) hb)
             replace HL263_0 := zA (Kd.R_elder' (zR HL263_0.out) (Kd.R_base ho0) hb)
             replace BK255 := zKb BK255 hb
             replace BK256 := zKb BK256 hb
             replace HR262_0 := zA (Kd.C_below (zC HR262_0.out) hb)
             replace HR263_0 := zA (Kd.C_below (zC HR263_0.out) hb)
             replace HB := zA (below_step (zB2 HB GE255 GE256) hb)
             (try clear hb); (try clear hb2); (try clear hk); (try clear hi); (try clear ho0)
             refine hK.out _ _ ⟨(blk_cell BK255.out 0).trans rfl, (blk_cell BK255.out 1).trans rfl, (blk_cell BK255.out 2).trans rfl, (blk_cell BK255.out 3).trans rfl, HS4_, HS5_⟩ (fun hHeld => ?_)
             clear hK K
             refine norm_ (a' := ?_) ?_ ?_
             rotate_left
             ·show Act.put _ (some 59) _ = _
              simp only [Act.put, List.setIfInBounds_toArray, List.set_cons_zero, List.set_cons_succ, i64_w, i32_w]
              rfl
             refine zq HT_ (i := 11) (N := some 10) ?_
             refine zq HT_ (i := 12) (N := some 11) ?_
             refine done_ (done_of HT_.out zn) ?_
             try go_wp2
             go_ret2
             exact ⟨_, zt, by (with_reducible repeat (first | apply Kd.R_alloc | apply Kd.R_drewN | apply Kd.R_drew)); exact Kd.R_mono HO266.out (fun _ hk => trivial), zB2 HB GE255 GE256⟩
            ·rw [if_neg c73] at H
             exact absurd H (by simp)
           ·rw [if_neg c72] at H
            exact absurd H (by simp)
          ·rw [if_neg c71] at H
           exact absurd H (by simp)
         ·rw [if_neg c70] at H
          exact absurd H (by simp)
  ·replace c9 := Bool.eq_false_iff.mpr c9
   subst c9
   have H1 : (some (([] : List Int), false)) = some (r1, r2) := by rw [if_neg (show ¬ (false = true) by decide)] at H; exact H
   clear H
   have H := H1
   clear H1
   simp only [Option.some.injEq, Prod.mk.injEq] at H
   obtain ⟨rfl, rfl⟩ := H
   go_enter Try.func35, Try.ntmps35
   go_wp2_with (first | ((with_reducible refine gate_dst (N := 5) rfl ?_); (try (refine gate_guard (by rfl) ?_; dsimp only)); refine box_event zr (N := 5) zr (cs := #[.int .i64 a0_0, .int .i64 a0_1, .bool a0_2, .bool a0_3]) (t := 28) zh ?_; intro gb255 hg w87 hbox hb; have BK255 := zA (hbox); have GW255 := zA (zG hg (below_size (zB0 HB)) : w.heap.size ≤ gb255); have GE255 := zA (zG hg (below_size (zB0 HB)) : w.heap.size ≤ gb255); replace HB := zA (below_step (zB0 HB) hb); clear hb hbox hg) | ((with_reducible refine gate_dst (N := 6) rfl ?_); (try (refine gate_guard (by rfl) ?_; dsimp only)); refine box_event zr (N := 6) zr (cs := #[.int .i64 a1_0, .int .i64 a1_1]) (t := 30) zh ?_; intro gb256 hg w88 hbox hb; have BK256 := zA (hbox); have GW256 := zA (zG hg (below_size (zB1 HB GE255)) : w.heap.size ≤ gb256); have GE256 := zA (zG hg (below_size (zB1 HB GE255)) : w.heap.size ≤ gb256); replace HB := zA (below_step (zB1 HB GE255) hb); have NB255_256 := zA (zNl hg BK255 : gb255 ≠ gb256); have NB256_255 := zA (zNg hg BK255 : gb256 ≠ gb255); replace BK255 := zKb BK255 hb; clear hb hbox hg; have hnb89 := NB255_256.out; have hnc89 := NB256_255.out; obtain ⟨z90_0, z90_1, z90_2, z90_3, y90_0, y90_1, y90_2, y90_3⟩ := zc4 BK255) | ((with_reducible refine gate_callee (f := 64) rfl ?_); refine goesL_ (some 14) rfl rfl Try.func64 zn rfl #[.agg #[.int .i64 a0_0, .int .i64 a0_1, .bool a0_2, .bool a0_3]] rfl zm ?_; (with_reducible refine (impl_IsAround.calls a0_0 a0_1 a0_2 a0_3 true _ A6.out).mono ?_); rintro e w91 ⟨rfl, hb⟩; refine ⟨_, rfl, ?_⟩; replace BK255 := zKb BK255 hb; replace BK256 := zKb BK256 hb; replace HB := zA (below_step (zB2 HB GE255 GE256) hb); (try clear hb); (try clear hb2); (try clear hk); (try clear hi); obtain ⟨z92_0, z92_1, y92_0, y92_1⟩ := zc2 BK256) | (go_at_call 65; (with_reducible refine (impl_IsLeaper.calls a1_0 a1_1 false _ A8.out).mono ?_); rintro e w93 ⟨rfl, hb⟩; replace BK255 := zKb BK255 hb; replace BK256 := zKb BK256 hb; replace HB := zA (below_step (zB2 HB GE255 GE256) hb); (try clear hb); (try clear hb2); (try clear hk); (try clear hi)))
   go_ret2
   exact ⟨_, zt, by first | exact Kd.R_nil _ _ _ _ _ | exact Kd.N_nil _ _ _ _ _ | exact Kd.V_nil _ _ _ _ _ | exact Kd.Q_nil _ _ _ _ _ | exact Kd.S_nil _ _ _ _ _, zB2 HB GE255 GE256⟩
 ·replace c7 := Bool.eq_false_iff.mpr c7
  subst c7
  have H1 : (some (([] : List Int), false)) = some (r1, r2) := by rw [if_neg (show ¬ (false = true) by decide)] at H; exact H
  clear H
  have H := H1
  clear H1
  simp only [Option.some.injEq, Prod.mk.injEq] at H
  obtain ⟨rfl, rfl⟩ := H
  go_enter Try.func35, Try.ntmps35
  go_wp2_with (first | ((with_reducible refine gate_dst (N := 5) rfl ?_); (try (refine gate_guard (by rfl) ?_; dsimp only)); refine box_event zr (N := 5) zr (cs := #[.int .i64 a0_0, .int .i64 a0_1, .bool a0_2, .bool a0_3]) (t := 28) zh ?_; intro gb255 hg w94 hbox hb; have BK255 := zA (hbox); have GW255 := zA (zG hg (below_size (zB0 HB)) : w.heap.size ≤ gb255); have GE255 := zA (zG hg (below_size (zB0 HB)) : w.heap.size ≤ gb255); replace HB := zA (below_step (zB0 HB) hb); clear hb hbox hg) | ((with_reducible refine gate_dst (N := 6) rfl ?_); (try (refine gate_guard (by rfl) ?_; dsimp only)); refine box_event zr (N := 6) zr (cs := #[.int .i64 a1_0, .int .i64 a1_1]) (t := 30) zh ?_; intro gb256 hg w95 hbox hb; have BK256 := zA (hbox); have GW256 := zA (zG hg (below_size (zB1 HB GE255)) : w.heap.size ≤ gb256); have GE256 := zA (zG hg (below_size (zB1 HB GE255)) : w.heap.size ≤ gb256); replace HB := zA (below_step (zB1 HB GE255) hb); have NB255_256 := zA (zNl hg BK255 : gb255 ≠ gb256); have NB256_255 := zA (zNg hg BK255 : gb256 ≠ gb255); replace BK255 := zKb BK255 hb; clear hb hbox hg; have hnb96 := NB255_256.out; have hnc96 := NB256_255.out; obtain ⟨z97_0, z97_1, z97_2, z97_3, y97_0, y97_1, y97_2, y97_3⟩ := zc4 BK255) | ((with_reducible refine gate_callee (f := 64) rfl ?_); refine goesL_ (some 14) rfl rfl Try.func64 zn rfl #[.agg #[.int .i64 a0_0, .int .i64 a0_1, .bool a0_2, .bool a0_3]] rfl zm ?_; (with_reducible refine (impl_IsAround.calls a0_0 a0_1 a0_2 a0_3 false _ A6.out).mono ?_); rintro e w98 ⟨rfl, hb⟩; refine ⟨_, rfl, ?_⟩; replace BK255 := zKb BK255 hb; replace BK256 := zKb BK256 hb; replace HB := zA (below_step (zB2 HB GE255 GE256) hb); (try clear hb); (try clear hb2); (try clear hk); (try clear hi)))
  go_ret2
  exact ⟨_, zt, by first | exact Kd.R_nil _ _ _ _ _ | exact Kd.N_nil _ _ _ _ _ | exact Kd.V_nil _ _ _ _ _ | exact Kd.Q_nil _ _ _ _ _ | exact Kd.S_nil _ _ _ _ _, zB2 HB GE255 GE256⟩
def impl_Around_has.f (a0_0 : Int) (a0_1 : Int) (a0_2 : Bool) (a0_3 : Bool) (a1 : Int) : Option (Bool) := if a1 ≥ 0 then (some (decide (a1 < (wrap64 (a0_0 * a0_1))))) else (some false)
set_option maxHeartbeats 8000000 in
set_option maxRecDepth 100000 in
theorem impl_Around_has.calls (a0_0 : Int) (a0_1 : Int) (a0_2 : Bool) (a0_3 : Bool) (a1 : Int) (r : Bool) (w : World) (h : impl_Around_has.f a0_0 a0_1 a0_2 a0_3 a1 = some r) :
  Calls Try.prog 92 #[.agg #[.int .i64 a0_0, .int .i64 a0_1, .bool a0_2, .bool a0_3], .int .i64 a1] w fun e w' => e = .returned (.bool r) ∧ Below w.heap.size w w' := by
 have hu28 := Try.underlying28
 have HB := zA (Below.refl w.heap.size w)
 have H : (if a1 ≥ 0 then (some (decide (a1 < (wrap64 (a0_0 * a0_1))))) else (some false)) = some r := h
 clear h
 by_cases c3 : a1 ≥ 0
 ·rw [if_pos c3] at H
  have c3b0 : decide (0 ≤ a1) = true := decide_eq_true c3
  clear c3
  obtain rfl := Option.some.inj H
  go_enter Try.func92, Try.ntmps92
  go_wp2_with (first | ((with_reducible refine gate_dst (N := 2) rfl ?_); refine box_event zr (N := 2) zr (cs := #[.int .i64 a0_0, .int .i64 a0_1, .bool a0_2, .bool a0_3]) (t := 28) zh ?_; intro gb267 hg w4 hbox hb; have BK267 := zA (hbox); have GW267 := zA (zG hg (below_size (zB0 HB)) : w.heap.size ≤ gb267); have GE267 := zA (zG hg (below_size (zB0 HB)) : w.heap.size ≤ gb267); replace HB := zA (below_step (zB0 HB) hb); clear hb hbox hg; obtain ⟨z5_0, z5_1, z5_2, z5_3, y5_0, y5_1, y5_2, y5_3⟩ := zc4 BK267))
  go_ret
  exact ⟨zt, zB1 HB GE267⟩
 ·rw [if_neg c3] at H
  have c3b0 : decide (0 ≤ a1) = false := decide_eq_false c3
  clear c3
  obtain rfl := Option.some.inj H
  go_enter Try.func92, Try.ntmps92
  go_wp2_with (first | ((with_reducible refine gate_dst (N := 2) rfl ?_); refine box_event zr (N := 2) zr (cs := #[.int .i64 a0_0, .int .i64 a0_1, .bool a0_2, .bool a0_3]) (t := 28) zh ?_; intro gb267 hg w6 hbox hb; have BK267 := zA (hbox); have GW267 := zA (zG hg (below_size (zB0 HB)) : w.heap.size ≤ gb267); have GE267 := zA (zG hg (below_size (zB0 HB)) : w.heap.size ≤ gb267); replace HB := zA (below_step (zB0 HB) hb); clear hb hbox hg))
  go_ret
  exact ⟨zt, zB1 HB GE267⟩
def impl_isStep.f (a0 : Int) (a1 : Int) : Option (Bool) := if a0 ≥ (-20) then (if a0 ≤ 20 then (if a1 ≥ (-20) then (some (decide (a1 ≤ 20))) else (some false)) else (some false)) else (some false)
set_option maxHeartbeats 8000000 in
set_option maxRecDepth 100000 in
theorem impl_isStep.calls (a0 : Int) (a1 : Int) (r : Bool) (w : World) (h : impl_isStep.f a0 a1 = some r) :
  Calls Try.prog 93 #[.int .i64 a0, .int .i64 a1] w fun e w' => e = .returned (.bool r) ∧ Drawn0 w w' := by
 have H : (if a0 ≥ (-20) then (if a0 ≤ 20 then (if a1 ≥ (-20) then (some (decide (a1 ≤ 20))) else (some false)) else (some false)) else (some false)) = some r := h
 clear h
 by_cases c3 : a0 ≥ (-20)
 ·rw [if_pos c3] at H
  have c3b0 : decide ((-20) ≤ a0) = true := decide_eq_true c3
  clear c3
  by_cases c4 : a0 ≤ 20
  ·rw [if_pos c4] at H
   have c4b0 : decide (a0 ≤ 20) = true := decide_eq_true c4
   clear c4
   by_cases c5 : a1 ≥ (-20)
   ·rw [if_pos c5] at H
    have c5b0 : decide ((-20) ≤ a1) = true := decide_eq_true c5
    clear c5
    obtain rfl := Option.some.inj H
    go_enter Try.func93, Try.ntmps93
    go_wp2
    go_ret
    exact ⟨by first | rfl | (simp; done) | (simp [*]; done), by repeat (first | exact Drawn0.refl _ | apply Drawn0.step)⟩
   ·rw [if_neg c5] at H
    have c5b0 : decide ((-20) ≤ a1) = false := decide_eq_false c5
    clear c5
    obtain rfl := Option.some.inj H
    go_enter Try.func93, Try.ntmps93
    go_wp2
    go_ret
    exact ⟨by first | rfl | (simp; done) | (simp [*]; done), by repeat (first | exact Drawn0.refl _ | apply Drawn0.step)⟩
  ·rw [if_neg c4] at H
   have c4b0 : decide (a0 ≤ 20) = false := decide_eq_false c4
   clear c4
   obtain rfl := Option.some.inj H
   go_enter Try.func93, Try.ntmps93
   go_wp2
   go_ret
   exact ⟨by first | rfl | (simp; done) | (simp [*]; done), by repeat (first | exact Drawn0.refl _ | apply Drawn0.step)⟩
 ·rw [if_neg c3] at H
  have c3b0 : decide ((-20) ≤ a0) = false := decide_eq_false c3
  clear c3
  obtain rfl := Option.some.inj H
  go_enter Try.func93, Try.ntmps93
  go_wp2
  go_ret
  exact ⟨by first | rfl | (simp; done) | (simp [*]; done), by repeat (first | exact Drawn0.refl _ | apply Drawn0.step)⟩
mutual
def impl_OrbitOf.j0 : Nat → Int → Int → Int → Bool → Int → Int → Bool → Bool → Option (List Int × Bool)
 | 0, _, _, _, _, _, _, _, _ => none
 | k + 1, x1, x2, x3, x37, x269000, x269001, x269002, x269003 => if x37 = true then (some (([] : List Int), false)) else (impl_OrbitOf.l0 k x1 x2 x3 (([x1] : List Int)) x269000 x269001 x269002 x269003)
def impl_OrbitOf.l0 : Nat → Int → Int → Int → List Int → Int → Int → Bool → Bool → Option (List Int × Bool)
 | 0, _, _, _, _, _, _, _, _ => none
 | k + 1, x1, x2, x3, x10, x269000, x269001, x269002, x269003 => if 0 ≤ (wrap64 ((x10.length : Int) - 1)) then (if (wrap64 ((x10.length : Int) - 1)) < (x10.length : Int) then ((impl_Around_step.f x269000 x269001 x269002 x269003 (rd x10 (wrap64 ((x10.length : Int) - 1))) x2 x3).bind fun bt276 => (if bt276.1 = x1 then (some (x10, true)) else (if x10.length < 17592186044416 then (impl_OrbitOf.l0 k x1 x2 x3 (x10 ++ [bt276.1]) x269000 x269001 x269002 x269003) else (none)))) else (none)) else (none)
end
def impl_OrbitOf.f (k : Nat) (a0_0 : Int) (a0_1 : Int) (a0_2 : Bool) (a0_3 : Bool) (a1 : Int) (a2 : Int) (a3 : Int) : Option (List Int × Bool) := (impl_IsAround.f a0_0 a0_1 a0_2 a0_3).bind fun t269 => (if t269 = true then (if a0_2 = true then (if a0_3 = true then ((impl_Around_has.f a0_0 a0_1 a0_2 a0_3 a1).bind fun t270 => (if t270 = true then ((impl_isStep.f a2 a3).bind fun t271 => (impl_OrbitOf.j0 k a1 a2 a3 (!t271) a0_0 a0_1 a0_2 a0_3)) else (impl_OrbitOf.j0 k a1 a2 a3 true a0_0 a0_1 a0_2 a0_3))) else (impl_OrbitOf.j0 k a1 a2 a3 true a0_0 a0_1 a0_2 a0_3)) else (impl_OrbitOf.j0 k a1 a2 a3 true a0_0 a0_1 a0_2 a0_3)) else (impl_OrbitOf.j0 k a1 a2 a3 true a0_0 a0_1 a0_2 a0_3))
theorem impl_OrbitOf.mono_l : ∀ k, (∀ y0 y1 y2 y3 y4 y5 y6 y7, LeO (impl_OrbitOf.j0 k y0 y1 y2 y3 y4 y5 y6 y7) (impl_OrbitOf.j0 (k + 1) y0 y1 y2 y3 y4 y5 y6 y7)) ∧ (∀ y0 y1 y2 y3 y4 y5 y6 y7, LeO (impl_OrbitOf.l0 k y0 y1 y2 y3 y4 y5 y6 y7) (impl_OrbitOf.l0 (k + 1) y0 y1 y2 y3 y4 y5 y6 y7))
 | 0 => ⟨fun _ _ _ _ _ _ _ _ r h => by simp [impl_OrbitOf.j0] at h, fun _ _ _ _ _ _ _ _ r h => by simp [impl_OrbitOf.l0] at h⟩
 | k + 1 => by
  obtain ⟨ih0, ih1⟩ := impl_OrbitOf.mono_l k
  refine ⟨?_, ?_⟩
  ·intro y0 y1 y2 y3 y4 y5 y6 y7
   unfold impl_OrbitOf.j0
   repeat' first
   | (with_reducible apply ih0)
   | (with_reducible apply ih1)
   | (with_reducible exact LeO.refl _)
   | (with_reducible exact LeO.none _)
   | (with_reducible refine LeO.ite ?_ ?_)
   | (with_reducible refine LeO.bind ?_ (fun _ => ?_))
   | apply ih0
   | apply ih1
   | exact LeO.none _
   | refine LeO.ite ?_ ?_
   | refine LeO.bind ?_ (fun _ => ?_)
  ·intro y0 y1 y2 y3 y4 y5 y6 y7
   unfold impl_OrbitOf.l0
   repeat' first
   | (with_reducible apply ih0)
   | (with_reducible apply ih1)
   | (with_reducible exact LeO.refl _)
   | (with_reducible exact LeO.none _)
   | (with_reducible refine LeO.ite ?_ ?_)
   | (with_reducible refine LeO.bind ?_ (fun _ => ?_))
   | apply ih0
   | apply ih1
   | exact LeO.none _
   | refine LeO.ite ?_ ?_
   | refine LeO.bind ?_ (fun _ => ?_)
theorem impl_OrbitOf.mono : ∀ a0 a1 a2 a3 a4 a5 a6 k, LeO (impl_OrbitOf.f k a0 a1 a2 a3 a4 a5 a6) (impl_OrbitOf.f (k + 1) a0 a1 a2 a3 a4 a5 a6) := by
 intro a0 a1 a2 a3 a4 a5 a6 k
 obtain ⟨ih0, ih1⟩ := impl_OrbitOf.mono_l k
 unfold impl_OrbitOf.f
 repeat' first
   | (with_reducible apply ih0)
   | (with_reducible apply ih1)
   | (with_reducible exact LeO.refl _)
   | (with_reducible exact LeO.none _)
   | (with_reducible refine LeO.ite ?_ ?_)
   | (with_reducible refine LeO.bind ?_ (fun _ => ?_))
   | apply ih0
   | apply ih1
   | exact LeO.none _
   | refine LeO.ite ?_ ?_
   | refine LeO.bind ?_ (fun _ => ?_)
def impl_OrbitOf.T4 : Bool × List (List Nat × List Nat) := (true, [([], []), ([], []), ([], []), ([2], [2]), ([3], [3]), ([1, 4], [1, 4]), ([5], [5]), ([], []), ([], []), ([0, 6, 7, 8], [0, 6, 7, 8]), ([9], [9]), ([10], [10]), ([10], [10]), ([11, 9, 0, 1, 2, 3, 4, 5, 6, 7, 8, 9, 10, 11], [11]), ([12, 13, 0, 1, 2, 3, 4, 5, 6, 7, 8, 9, 10, 11, 12, 13], [12])])
def impl_OrbitOf.B4 : List Nat := [0, 0, 0, 4, 12, 30, 62, 0, 0, 511, 1023, 2047, 2047, 4095, 16383]
theorem impl_OrbitOf.tab4 : rtab .any (opsOf Try.f45 4) = impl_OrbitOf.T4 := by kernel_rfl
theorem impl_OrbitOf.bits4 : waitsOk impl_OrbitOf.T4.2 impl_OrbitOf.B4 = true := by kernel_rfl
set_option maxHeartbeats 8000000 in
set_option maxRecDepth 100000 in
theorem impl_OrbitOf.calls (k : Nat) (a0_0 : Int) (a0_1 : Int) (a0_2 : Bool) (a0_3 : Bool) (a1 : Int) (a2 : Int) (a3 : Int) (r1 : List Int) (r2 : Bool) (w : World) (h : impl_OrbitOf.f k a0_0 a0_1 a0_2 a0_3 a1 a2 a3 = some (r1, r2)) :
  Calls Try.prog 45 #[.agg #[.int .i64 a0_0, .int .i64 a0_1, .bool a0_2, .bool a0_3], .int .i64 a1, .int .i64 a2, .int .i64 a3] w fun e w' => ∃ v0_ : Value, e = .returned (.tuple #[v0_, .bool r2]) ∧ Kd.R (Kd.int .i64) 3 w' w.heap.size (fun _ => True) v0_ r1 ∧ Below w.heap.size w w' := by
 have hu28 := Try.underlying28
 have HB := zA (Below.refl w.heap.size w)
 have H : ((impl_IsAround.f a0_0 a0_1 a0_2 a0_3).bind fun t269 => (if t269 = true then (if a0_2 = true then (if a0_3 = true then ((impl_Around_has.f a0_0 a0_1 a0_2 a0_3 a1).bind fun t270 => (if t270 = true then ((impl_isStep.f a2 a3).bind fun t271 => (impl_OrbitOf.j0 k a1 a2 a3 (!t271) a0_0 a0_1 a0_2 a0_3)) else (impl_OrbitOf.j0 k a1 a2 a3 true a0_0 a0_1 a0_2 a0_3))) else (impl_OrbitOf.j0 k a1 a2 a3 true a0_0 a0_1 a0_2 a0_3)) else (impl_OrbitOf.j0 k a1 a2 a3 true a0_0 a0_1 a0_2 a0_3)) else (impl_OrbitOf.j0 k a1 a2 a3 true a0_0 a0_1 a0_2 a0_3))) = some (r1, r2) := h
 clear h
 have HC5 := zA H
 clear H
 go_enter Try.func45, Try.ntmps45
 go_upto_region 1 with (first | ((with_reducible refine gate_dst (N := 4) rfl ?_); refine box_event zr (N := 4) zr (cs := #[.int .i64 a0_0, .int .i64 a0_1, .bool a0_2, .bool a0_3]) (t := 28) zh ?_; intro gb268 hg w6 hbox hb; have BK268 := zA (hbox); have GW268 := zA (zG hg (below_size (zB0 HB)) : w.heap.size ≤ gb268); have GE268 := zA (zG hg (below_size (zB0 HB)) : w.heap.size ≤ gb268); replace HB := zA (below_step (zB0 HB) hb); clear hb hbox hg))
 (try simp only [Act.put, List.setIfInBounds_toArray, List.set_cons_zero, List.set_cons_succ])
 go_cut [37] (fun v37 wc => ∃ (kq : Nat) (x37_4 : Bool), v37 = .bool x37_4 ∧ Aside0 (impl_OrbitOf.j0 kq a1 a2 a3 x37_4 a0_0 a0_1 a0_2 a0_3 = some (r1, r2)) ∧ Aside0 (kq ≤ k) ∧ Aside0 (wc.heap[gb268]? = some (.cells #[.int .i64 a0_0, .int .i64 a0_1, .bool a0_2, .bool a0_3] 28 (0, 0))) ∧ Aside0 (Below w.heap.size w wc))
 case first =>
  have H := HC5.out
  clear HC5
  obtain ⟨t269, A7, H⟩ := zM H
  try dsimp only at H
  by_cases c8 : t269 = true
  ·subst c8
   have H1 : (if a0_2 = true then (if a0_3 = true then ((impl_Around_has.f a0_0 a0_1 a0_2 a0_3 a1).bind fun t270 => (if t270 = true then ((impl_isStep.f a2 a3).bind fun t271 => (impl_OrbitOf.j0 k a1 a2 a3 (!t271) a0_0 a0_1 a0_2 a0_3)) else (impl_OrbitOf.j0 k a1 a2 a3 true a0_0 a0_1 a0_2 a0_3))) else (impl_OrbitOf.j0 k a1 a2 a3 true a0_0 a0_1 a0_2 a0_3)) else (impl_OrbitOf.j0 k a1 a2 a3 true a0_0 a0_1 a0_2 a0_3)) = some (r1, r2) := by rw [if_pos rfl] at H; exact H
   clear H
   have H := H1
   clear H1
   by_cases c9 : a0_2 = true
   ·subst c9
    have H1 : (if a0_3 = true then ((impl_Around_has.f a0_0 a0_1 true a0_3 a1).bind fun t270 => (if t270 = true then ((impl_isStep.f a2 a3).bind fun t271 => (impl_OrbitOf.j0 k a1 a2 a3 (!t271) a0_0 a0_1 true a0_3)) else (impl_OrbitOf.j0 k a1 a2 a3 true a0_0 a0_1 true a0_3))) else (impl_OrbitOf.j0 k a1 a2 a3 true a0_0 a0_1 true a0_3)) = some (r1, r2) := by rw [if_pos rfl] at H; exact H
    clear H
    have H := H1
    clear H1
    by_cases c10 : a0_3 = true
    ·subst c10
     have H1 : ((impl_Around_has.f a0_0 a0_1 true true a1).bind fun t270 => (if t270 = true then ((impl_isStep.f a2 a3).bind fun t271 => (impl_OrbitOf.j0 k a1 a2 a3 (!t271) a0_0 a0_1 true true)) else (impl_OrbitOf.j0 k a1 a2 a3 true a0_0 a0_1 true true))) = some (r1, r2) := by rw [if_pos rfl] at H; exact H
     clear H
     have H := H1
     clear H1
     obtain ⟨t270, A11, H⟩ := zM H
     try dsimp only at H
     by_cases c12 : t270 = true
     ·subst c12
      have H1 : ((impl_isStep.f a2 a3).bind fun t271 => (impl_OrbitOf.j0 k a1 a2 a3 (!t271) a0_0 a0_1 true true)) = some (r1, r2) := by rw [if_pos rfl] at H; exact H
      clear H
      have H := H1
      clear H1
      obtain ⟨t271, A13, H⟩ := zM H
      try dsimp only at H
      have H' := zA H
      clear H
      obtain ⟨z14_0, z14_1, z14_2, z14_3, y14_0, y14_1, y14_2, y14_3⟩ := zc4 BK268
      go_wp2_with (first | ((with_reducible refine gate_callee (f := 64) rfl ?_); refine goesL_ (some 14) rfl rfl Try.func64 zn rfl #[.agg #[.int .i64 a0_0, .int .i64 a0_1, .bool true, .bool true]] rfl zm ?_; (with_reducible refine (impl_IsAround.calls a0_0 a0_1 true true true _ A7.out).mono ?_); rintro e w15 ⟨rfl, hb⟩; refine ⟨_, rfl, ?_⟩; replace BK268 := zKb BK268 hb; replace HB := zA (below_step (zB1 HB GE268) hb); (try clear hb); (try clear hb2); (try clear hk); (try clear hi); obtain ⟨z16_0, z16_1, z16_2, z16_3, y16_0, y16_1, y16_2, y16_3⟩ := zc4 BK268) | (go_at_call 92; (with_reducible refine (impl_Around_has.calls a0_0 a0_1 true true a1 true _ A11.out).mono ?_); rintro e w17 ⟨rfl, hb⟩; replace BK268 := zKb BK268 hb; replace HB := zA (below_step (zB1 HB GE268) hb); (try clear hb); (try clear hb2); (try clear hk); (try clear hi)) | (go_at_call 93; (with_reducible refine (impl_isStep.calls a2 a3 t271 _ A13.out).mono ?_); rintro e w' ⟨rfl, ⟨nd, rfl⟩⟩))
      go_meet
      case rel => exact ⟨_, (!t271), ze, H', ⟨zO⟩, ⟨zK BK268⟩, ⟨zB1 HB GE268⟩⟩
     ·replace c12 := Bool.eq_false_iff.mpr c12
      subst c12
      have H1 : (impl_OrbitOf.j0 k a1 a2 a3 true a0_0 a0_1 true true) = some (r1, r2) := by rw [if_neg (show ¬ (false = true) by decide)] at H; exact H
      clear H
      have H := H1
      clear H1
      have H' := zA H
      clear H
      obtain ⟨z18_0, z18_1, z18_2, z18_3, y18_0, y18_1, y18_2, y18_3⟩ := zc4 BK268
      go_wp2_with (first | ((with_reducible refine gate_callee (f := 64) rfl ?_); refine goesL_ (some 14) rfl rfl Try.func64 zn rfl #[.agg #[.int .i64 a0_0, .int .i64 a0_1, .bool true, .bool true]] rfl zm ?_; (with_reducible refine (impl_IsAround.calls a0_0 a0_1 true true true _ A7.out).mono ?_); rintro e w19 ⟨rfl, hb⟩; refine ⟨_, rfl, ?_⟩; replace BK268 := zKb BK268 hb; replace HB := zA (below_step (zB1 HB GE268) hb); (try clear hb); (try clear hb2); (try clear hk); (try clear hi); obtain ⟨z20_0, z20_1, z20_2, z20_3, y20_0, y20_1, y20_2, y20_3⟩ := zc4 BK268) | (go_at_call 92; (with_reducible refine (impl_Around_has.calls a0_0 a0_1 true true a1 false _ A11.out).mono ?_); rintro e w21 ⟨rfl, hb⟩; replace BK268 := zKb BK268 hb; replace HB := zA (below_step (zB1 HB GE268) hb); (try clear hb); (try clear hb2); (try clear hk); (try clear hi)))
      go_meet
      case rel => exact ⟨_, (true), ze, H', ⟨zO⟩, ⟨zK BK268⟩, ⟨zB1 HB GE268⟩⟩
    ·replace c10 := Bool.eq_false_iff.mpr c10
     subst c10
     have H1 : (impl_OrbitOf.j0 k a1 a2 a3 true a0_0 a0_1 true false) = some (r1, r2) := by rw [if_neg (show ¬ (false = true) by decide)] at H; exact H
     clear H
     have H := H1
     clear H1
     have H' := zA H
     clear H
     obtain ⟨z22_0, z22_1, z22_2, z22_3, y22_0, y22_1, y22_2, y22_3⟩ := zc4 BK268
     go_wp2_with (first | ((with_reducible refine gate_callee (f := 64) rfl ?_); refine goesL_ (some 14) rfl rfl Try.func64 zn rfl #[.agg #[.int .i64 a0_0, .int .i64 a0_1, .bool true, .bool false]] rfl zm ?_; (with_reducible refine (impl_IsAround.calls a0_0 a0_1 true false true _ A7.out).mono ?_); rintro e w23 ⟨rfl, hb⟩; refine ⟨_, rfl, ?_⟩; replace BK268 := zKb BK268 hb; replace HB := zA (below_step (zB1 HB GE268) hb); (try clear hb); (try clear hb2); (try clear hk); (try clear hi); obtain ⟨z24_0, z24_1, z24_2, z24_3, y24_0, y24_1, y24_2, y24_3⟩ := zc4 BK268))
     go_meet
     case rel => exact ⟨_, (true), ze, H', ⟨zO⟩, ⟨zK BK268⟩, ⟨zB1 HB GE268⟩⟩
   ·replace c9 := Bool.eq_false_iff.mpr c9
    subst c9
    have H1 : (impl_OrbitOf.j0 k a1 a2 a3 true a0_0 a0_1 false a0_3) = some (r1, r2) := by rw [if_neg (show ¬ (false = true) by decide)] at H; exact H
    clear H
    have H := H1
    clear H1
    have H' := zA H
    clear H
    obtain ⟨z25_0, z25_1, z25_2, z25_3, y25_0, y25_1, y25_2, y25_3⟩ := zc4 BK268
    go_wp2_with (first | ((with_reducible refine gate_callee (f := 64) rfl ?_); refine goesL_ (some 14) rfl rfl Try.func64 zn rfl #[.agg #[.int .i64 a0_0, .int .i64 a0_1, .bool false, .bool a0_3]] rfl zm ?_; (with_reducible refine (impl_IsAround.calls a0_0 a0_1 false a0_3 true _ A7.out).mono ?_); rintro e w26 ⟨rfl, hb⟩; refine ⟨_, rfl, ?_⟩; replace BK268 := zKb BK268 hb; replace HB := zA (below_step (zB1 HB GE268) hb); (try clear hb); (try clear hb2); (try clear hk); (try clear hi); obtain ⟨z27_0, z27_1, z27_2, z27_3, y27_0, y27_1, y27_2, y27_3⟩ := zc4 BK268))
    go_meet
    case rel => exact ⟨_, (true), ze, H', ⟨zO⟩, ⟨zK BK268⟩, ⟨zB1 HB GE268⟩⟩
  ·replace c8 := Bool.eq_false_iff.mpr c8
   subst c8
   have H1 : (impl_OrbitOf.j0 k a1 a2 a3 true a0_0 a0_1 a0_2 a0_3) = some (r1, r2) := by rw [if_neg (show ¬ (false = true) by decide)] at H; exact H
   clear H
   have H := H1
   clear H1
   have H' := zA H
   clear H
   obtain ⟨z28_0, z28_1, z28_2, z28_3, y28_0, y28_1, y28_2, y28_3⟩ := zc4 BK268
   go_wp2_with (first | ((with_reducible refine gate_callee (f := 64) rfl ?_); refine goesL_ (some 14) rfl rfl Try.func64 zn rfl #[.agg #[.int .i64 a0_0, .int .i64 a0_1, .bool a0_2, .bool a0_3]] rfl zm ?_; (with_reducible refine (impl_IsAround.calls a0_0 a0_1 a0_2 a0_3 false _ A7.out).mono ?_); rintro e w29 ⟨rfl, hb⟩; refine ⟨_, rfl, ?_⟩; replace BK268 := zKb BK268 hb; replace HB := zA (below_step (zB1 HB GE268) hb); (try clear hb); (try clear hb2); (try clear hk); (try clear hi)))
   go_meet
   case rel => exact ⟨_, (true), ze, H', ⟨zO⟩, ⟨zK BK268⟩, ⟨zB1 HB GE268⟩⟩
 case rest =>
  clear HC5
  obtain ⟨kq, x37_4, rfl, HA, HJ4, BK268, HB⟩ := hcut
  cases kq with
  | zero => exact absurd HA.out (by simp [impl_OrbitOf.j0])
  | succ kj4 =>
   have H := HA.out
   clear HA
   simp only [impl_OrbitOf.j0] at H
   by_cases c30 : x37_4 = true
   ·subst c30
    have H1 : (some (([] : List Int), false)) = some (r1, r2) := by rw [if_pos rfl] at H; exact H
    clear H
    have H := H1
    clear H1
    simp only [Option.some.injEq, Prod.mk.injEq] at H
    obtain ⟨rfl, rfl⟩ := H
    go_wp2
    go_ret2
    exact ⟨_, zt, by first | exact Kd.R_nil _ _ _ _ _ | exact Kd.N_nil _ _ _ _ _ | exact Kd.V_nil _ _ _ _ _ | exact Kd.Q_nil _ _ _ _ _ | exact Kd.S_nil _ _ _ _ _, zB1 HB GE268⟩
   ·replace c30 := Bool.eq_false_iff.mpr c30
    subst c30
    have H1 : (impl_OrbitOf.l0 kj4 a1 a2 a3 (([a1] : List Int)) a0_0 a0_1 a0_2 a0_3) = some (r1, r2) := by rw [if_neg (show ¬ (false = true) by decide)] at H; exact H
    clear H
    have H := H1
    clear H1
    obtain ⟨y272, hy272⟩ : ∃ y_ : List Int, y_ = (([a1] : List Int)) := ⟨_, rfl⟩
    replace H : (impl_OrbitOf.l0 kj4 a1 a2 a3 y272 a0_0 a0_1 a0_2 a0_3) = some (r1, r2) := by first | (rw [hy272]; with_reducible exact H) | (have H2_ := (Option.bind_some _ _).symm.trans H; rw [hy272]; with_reducible exact H2_) | (have H2_ := (Option.bind_some _ _).symm.trans H; with_reducible exact H2_) | with_reducible exact H | (rw [hy272]; exact H) | exact H
    have Ny272 := zA hy272
    clear hy272
    have H' := zA H
    clear H
    go_wp2_with (first | ((with_reducible refine gate_dst (N := 39) rfl ?_); refine Kd.R_lit (Kd.int .i64) _ 3 ?hg (N := 39) ?hd (xs := ([a1] : List Int)) (inner := [.int .i64 a1]) (ok := fun _ => True) (okp := fun _ => True) ?hr ?hp (fun _ hk => hk) trivial (Below.refl _ _) (Nat.le_refl _) (by simp) ?_; (case hd => rfl); (case hg => rfl); (case hr => first | (go_simp; done) | (go_simp; rfl)); (case hp => exact (Reps.one (show Kd.M (Kd.int .i64) _ _ _ a1 [.int .i64 a1] from rfl) (Reps.none _ _))); intro v273 w31 ho32 hb hg_ hnew_; clear hg_ hnew_; (first | rw [← Ny272.out] at ho32 | (simp only [Int.reduceToNat] at ho32; rw [← Ny272.out] at ho32)); have HO274 := zA (Kd.R_lower ho32 (below_size (zB1 HB GE268))); replace BK268 := zKb BK268 hb; replace HB := zA (below_step (zB1 HB GE268) hb); clear hb ho32))
    go_loopg [10] kj4 (fun kq v10 w' => ∃ (x10_2 : List Int), Aside0 (impl_OrbitOf.l0 kq a1 a2 a3 x10_2 a0_0 a0_1 a0_2 a0_3 = some (r1, r2)) ∧ Aside0 (kq ≤ kj4) ∧ Aside0 (Kd.R (Kd.int .i64) 3 w' w.heap.size (fun _ => True) v10 x10_2) ∧ Aside0 (w'.heap[gb268]? = some (.cells #[.int .i64 a0_0, .int .i64 a0_1, .bool a0_2, .bool a0_3] 28 (0, 0))) ∧ Aside0 (Below w.heap.size w w'))
    case atStart => exact ⟨(y272), H', ⟨Nat.le_refl _⟩, ⟨zR HO274.out⟩, ⟨zK BK268⟩, ⟨zB1 HB GE268⟩⟩
    case round =>
     clear H'
     (try clear c30)
     obtain ⟨x10_2, HA, HK2, HO_10, BK268, HB⟩ := hrel
     cases gk with
     | zero => exact absurd HA.out (by simp [impl_OrbitOf.l0])
     | succ k2 =>
      have H := HA.out
      clear HA
      simp only [impl_OrbitOf.l0] at H
      obtain ⟨ji33, hji33⟩ : ∃ j_ : Int, (wrap64 ((x10_2.length : Int) - 1)) = j_ := ⟨_, rfl⟩
      replace H : (if 0 ≤ (ji33) then (if (ji33) < (x10_2.length : Int) then ((impl_Around_step.f a0_0 a0_1 a0_2 a0_3 (rd x10_2 (ji33)) a2 a3).bind fun bt276 => (if bt276.1 = a1 then (some (x10_2, true)) else (if x10_2.length < 17592186044416 then (impl_OrbitOf.l0 k2 a1 a2 a3 (x10_2 ++ [bt276.1]) a0_0 a0_1 a0_2 a0_3) else (none)))) else (none)) else (none)) = some (r1, r2) := by first | (rw [hji33] at H; exact H) | (simp only [hji33] at H ⊢; exact H)
      have hji33w : (IntKind.i64.wrap ((x10_2.length : Int) - 1)) = ji33 := (i64_w _).trans hji33
      by_cases c34 : 0 ≤ (ji33)
      ·rw [if_pos c34] at H
       have c34b0 : decide (0 ≤ (ji33)) = true := decide_eq_true c34
       clear c34
       by_cases c35 : (ji33) < (x10_2.length : Int)
       ·rw [if_pos c35] at H
        have c35b0 : decide ((ji33) < (x10_2.length : Int)) = true := decide_eq_true c35
        clear c35
        obtain ⟨⟨t276, t277⟩, A36, H⟩ := zM H
        try dsimp only at H
        by_cases c37 : t276 = a1
        ·rw [if_pos c37] at H
         have c37b0 : (t276 == a1) = true := beq_iff_eq.mpr c37
         have c37b1 : (t276 != a1) = false := bne_eq_false_iff_eq.mpr c37
         clear c37
         simp only [Option.some.injEq, Prod.mk.injEq] at H
         obtain ⟨rfl, rfl⟩ := H
         try go_wp2
         replace HO_10 := zA (Kd.R_drew HO_10.out)
         replace BK268 := zA (blk_drew BK268.out)
         replace HB := zA (below_drew1 HB.out)
         obtain ⟨Ao39, co39, eo39⟩ := Kd.R_slice HO_10.out
         (first | subst eo39 | (injection eo39 with f1_ f2_ f3_; have f4_ := f1_.symm; have f5_ := f3_.symm; clear f1_ f2_ f3_; subst f4_; subst f5_))
         have p275 : 0 ≤ ((ji33) : Int) := zd
         have q275 : (ji33) < (x10_2.length : Int) := zd
         obtain ⟨ad275, e275, hx275_0⟩ := Kd.at_int (Kd.R_reads' HO_10.out).2.2 (ji33) p275 q275
         cases e275
         replace p275 := eq_true p275
         replace q275 := eq_true q275
         refine start_ (n := 15) (S := fun w' => w'.cell? ⟨gb268, 0, none⟩ = some (.int .i64 a0_0) ∧ w'.cell? ⟨gb268, 1, none⟩ = some (.int .i64 a0_1) ∧ w'.cell? ⟨gb268, 2, none⟩ = some (.bool a0_2) ∧ w'.cell? ⟨gb268, 3, none⟩ = some (.bool a0_3) ∧ w'.cell? (ad275.add ((ji33)).toNat) = some (.int .i64 (rd x10_2 (ji33)))) (ds := []) #[false, false, false, false, false, false, false, false, false, false, false, false, false, false, false] zn rfl rfl ⟨(blk_cell BK268.out 0).trans rfl, (blk_cell BK268.out 1).trans rfl, (blk_cell BK268.out 2).trans rfl, (blk_cell BK268.out 3).trans rfl, hx275_0⟩ (fun hHeld => ?_); refine with_tabW impl_OrbitOf.tab4 impl_OrbitOf.bits4 (fun HT_ HW_ => ?_)
         generalize wr.drew = w38 at HO_10 BK268 HB hx275_0 hHeld ⊢
         refine zq HT_ (i := 1) (N := some 42) ?_
         refine zq HT_ (i := 2) (N := some 43) ?_
         refine zq HT_ (i := 3) (N := some 44) ?_
         refine zq HT_ (i := 4) (N := some 45) ?_
         refine zq HT_ (i := 5) (N := some 46) ?_
         refine zq HT_ (i := 7) (N := some 48) ?_
         refine zq HT_ (i := 8) (N := some 49) ?_
         refine zx5 HT_ HW_ hHeld (i := 0) (N := some 41) ?_
         refine zx5 HT_ HW_ hHeld (i := 6) (N := some 47) ?_
         refine one_ (i := 9) (N := some 50) #[true, true, true, true, true, true, true, true, true, true, false, false, false, false, false] rfl rfl (one_of HT_.out zn) (by decide) (fun K hK => ?_)
         refine goes_ Try.func94 zn rfl #[.agg #[.int .i64 a0_0, .int .i64 a0_1, .bool a0_2, .bool a0_3], .int .i64 (rd x10_2 (ji33)), .int .i64 a2, .int .i64 a3] (by rfl) rfl rfl (by (try simp only [List.map_toArray, List.map_cons, List.map_nil]); first | done | (simp only [hji33]; rfl) | rfl | (simp only [List.length_drop, List.length_take]; rfl)) ?_
         with_reducible refine (impl_Around_step.calls a0_0 a0_1 a0_2 a0_3 (rd x10_2 (ji33)) a2 a3 t276 t277 _ A36.out).mono ?_
         rintro e w40 ⟨rfl, hb⟩
         have HS4_ := (hb.cell (World.block_lt_of_cell? _ _ (hHeld.2.2.2.2))).trans (hHeld.2.2.2.2)
         refine ⟨_, rfl, ?_⟩
         replace HO_10 := zRb HO_10 hb
         replace BK268 := zKb BK268 hb
         replace HB := zA (below_step (zB1 HB GE268) hb)
         (try clear hb); (try clear hk)
         refine hK.out _ _ ⟨(blk_cell BK268.out 0).trans rfl, (blk_cell BK268.out 1).trans rfl, (blk_cell BK268.out 2).trans rfl, (blk_cell BK268.out 3).trans rfl, HS4_⟩ (fun hHeld => ?_)
         clear hK K
         refine norm_ (a' := ?_) ?_ ?_
         rotate_left
         ·show Act.put _ (some 50) _ = _
          simp only [Act.put, List.setIfInBounds_toArray, List.set_cons_zero, List.set_cons_succ, i64_w, i32_w]
          rfl
         refine zq HT_ (i := 10) (N := some 40) ?_
         refine zq HT_ (i := 11) (N := some 51) ?_
         refine zq HT_ (i := 12) (N := some 52) ?_
         refine zq HT_ (i := 13) (N := some 11) ?_
         refine zq HT_ (i := 14) (N := some 12) ?_
         refine done_ (done_of HT_.out zn) ?_
         try go_wp2
         go_ret2
         exact ⟨_, by first | rfl | (simp [errW_none, errW_some] <;> rfl) | (simp only [← hji33]; first | rfl | (simp [errW_none, errW_some] <;> rfl)) | (simp [*, errW_none, errW_some] <;> rfl), by (with_reducible repeat (first | apply Kd.R_alloc | apply Kd.R_drewN | apply Kd.R_drew)); exact HO_10.out, zB1 HB GE268⟩
        ·rw [if_neg c37] at H
         have c37b0 : (t276 == a1) = false := beq_eq_false_iff_ne.mpr c37
         have c37b1 : (t276 != a1) = true := bne_iff_ne.mpr c37
         by_cases c41 : x10_2.length < 17592186044416
         ·rw [if_pos c41] at H
          have LMc41 := zA c41
          clear c41
          obtain ⟨y278, hy278⟩ : ∃ y_ : List Int, y_ = (x10_2 ++ [t276]) := ⟨_, rfl⟩
          replace H : (impl_OrbitOf.l0 k2 a1 a2 a3 y278 a0_0 a0_1 a0_2 a0_3) = some (r1, r2) := by first | (rw [hy278]; with_reducible exact H) | (have H2_ := (Option.bind_some _ _).symm.trans H; rw [hy278]; with_reducible exact H2_) | (have H2_ := (Option.bind_some _ _).symm.trans H; with_reducible exact H2_) | with_reducible exact H | (rw [hy278]; exact H) | exact H
          have Ny278 := zA hy278
          clear hy278
          have H' := zA H
          clear H
          try go_wp2
          replace HO_10 := zA (Kd.R_drew HO_10.out)
          replace BK268 := zA (blk_drew BK268.out)
          replace HB := zA (below_drew1 HB.out)
          obtain ⟨Ao43, co43, eo43⟩ := Kd.R_slice HO_10.out
          (first | subst eo43 | (injection eo43 with f1_ f2_ f3_; have f4_ := f1_.symm; have f5_ := f3_.symm; clear f1_ f2_ f3_; subst f4_; subst f5_))
          have p275 : 0 ≤ ((ji33) : Int) := zd
          have q275 : (ji33) < (x10_2.length : Int) := zd
          obtain ⟨ad275, e275, hx275_0⟩ := Kd.at_int (Kd.R_reads' HO_10.out).2.2 (ji33) p275 q275
          cases e275
          replace p275 := eq_true p275
          replace q275 := eq_true q275
          refine start_ (n := 15) (S := fun w' => w'.cell? ⟨gb268, 0, none⟩ = some (.int .i64 a0_0) ∧ w'.cell? ⟨gb268, 1, none⟩ = some (.int .i64 a0_1) ∧ w'.cell? ⟨gb268, 2, none⟩ = some (.bool a0_2) ∧ w'.cell? ⟨gb268, 3, none⟩ = some (.bool a0_3) ∧ w'.cell? (ad275.add ((ji33)).toNat) = some (.int .i64 (rd x10_2 (ji33)))) (ds := []) #[false, false, false, false, false, false, false, false, false, false, false, false, false, false, false] zn rfl rfl ⟨(blk_cell BK268.out 0).trans rfl, (blk_cell BK268.out 1).trans rfl, (blk_cell BK268.out 2).trans rfl, (blk_cell BK268.out 3).trans rfl, hx275_0⟩ (fun hHeld => ?_); refine with_tabW impl_OrbitOf.tab4 impl_OrbitOf.bits4 (fun HT_ HW_ => ?_)
          generalize wr.drew = w42 at HO_10 BK268 HB hx275_0 hHeld ⊢
          refine zq HT_ (i := 1) (N := some 42) ?_
          refine zq HT_ (i := 2) (N := some 43) ?_
          refine zq HT_ (i := 3) (N := some 44) ?_
          refine zq HT_ (i := 4) (N := some 45) ?_
          refine zq HT_ (i := 5) (N := some 46) ?_
          refine zq HT_ (i := 7) (N := some 48) ?_
          refine zq HT_ (i := 8) (N := some 49) ?_
          refine zx5 HT_ HW_ hHeld (i := 0) (N := some 41) ?_
          refine zx5 HT_ HW_ hHeld (i := 6) (N := some 47) ?_
          refine one_ (i := 9) (N := some 50) #[true, true, true, true, true, true, true, true, true, true, false, false, false, false, false] rfl rfl (one_of HT_.out zn) (by decide) (fun K hK => ?_)
          refine goes_ Try.func94 zn rfl #[.agg #[.int .i64 a0_0, .int .i64 a0_1, .bool a0_2, .bool a0_3], .int .i64 (rd x10_2 (ji33)), .int .i64 a2, .int .i64 a3] (by rfl) rfl rfl (by (try simp only [List.map_toArray, List.map_cons, List.map_nil]); first | done | (simp only [hji33]; rfl) | rfl | (simp only [List.length_drop, List.length_take]; rfl)) ?_
          with_reducible refine (impl_Around_step.calls a0_0 a0_1 a0_2 a0_3 (rd x10_2 (ji33)) a2 a3 t276 t277 _ A36.out).mono ?_
          rintro e w44 ⟨rfl, hb⟩
          have HS4_ := (hb.cell (World.block_lt_of_cell? _ _ (hHeld.2.2.2.2))).trans (hHeld.2.2.2.2)
          refine ⟨_, rfl, ?_⟩
          replace HO_10 := zRb HO_10 hb
          replace BK268 := zKb BK268 hb
          replace HB := zA (below_step (zB1 HB GE268) hb)
          (try clear hb); (try clear hk)
          refine hK.out _ _ ⟨(blk_cell BK268.out 0).trans rfl, (blk_cell BK268.out 1).trans rfl, (blk_cell BK268.out 2).trans rfl, (blk_cell BK268.out 3).trans rfl, HS4_⟩ (fun hHeld => ?_)
          clear hK K
          refine norm_ (a' := ?_) ?_ ?_
          rotate_left
          ·show Act.put _ (some 50) _ = _
           simp only [Act.put, List.setIfInBounds_toArray, List.set_cons_zero, List.set_cons_succ, i64_w, i32_w]
           rfl
          refine zq HT_ (i := 10) (N := some 40) ?_
          refine zq HT_ (i := 11) (N := some 51) ?_
          refine zq HT_ (i := 12) (N := some 52) ?_
          refine zq HT_ (i := 13) (N := some 11) ?_
          refine zq HT_ (i := 14) (N := some 12) ?_
          refine done_ (done_of HT_.out zn) ?_
          try go_wp2_with (first | ((with_reducible refine gate_builtin (b := .append) (xs := #[.tmp 57, .tmp 59]) rfl ?_); at_builtin; refine Kd.R_append (Kd.int .i64) (w0 := w) w.heap.size rfl (.tmp 57) (.tmp 59) 33 3 (.int .i64 0) 8 rfl Try.underlying33 info3 rfl (by decide) (by omega) (.slice (some ad275) x10_2.length co43) x10_2 t276 [.int .i64 t276] (fun _ => True) (fun _ => False) rfl rfl ?aP (fun _ hk => hk.elim) ?aF ?aO ?aB ?aS ?aL ?_; (case aP => exact rfl); (case aB => exact (zB1 HB GE268)); (case aF => exact (fun _ _ => trivial)); (case aO => exact (zR HO_10.out)); (case aS => exact (below_size (zB1 HB GE268))); (case aL => have := LMc41.out; omega); intro v279 w45 ho hb hg hat; rw [← Ny278.out] at ho; have n0_ := zA (blk_grown (g := gb268) (o := .cells #[.int .i64 a0_0, .int .i64 a0_1, .bool a0_2, .bool a0_3] 28 (0, 0)) (zK BK268) hg (Kd.R_ne HO_10.out BK268.out (by decide))); have n1_ := zA (hb); have n2_ := zA (ho); clear BK268; clear HB; clear HO_10; have BK268 := n0_; have HB := n1_; have HO280 := n2_; clear n0_ n1_ n2_; clear ho hb hg hat))
          go_roundg k2
          case measure => have := HJ4.out; have := HK2.out; omega
          case rel => exact ⟨(y278), H', ⟨by have := HJ4.out; have := HK2.out; omega⟩, ⟨zR HO280.out⟩, ⟨zK BK268⟩, ⟨zB1 HB GE268⟩⟩
         ·rw [if_neg c41] at H
          exact absurd H (by simp)
       ·rw [if_neg c35] at H
        exact absurd H (by simp)
      ·rw [if_neg c34] at H
       exact absurd H (by simp)
def spec_arBy.f (a0 : Int) (a1 : Int) : Option (Bool) := (spec_l1In.f a0 (-20) 20).bind fun t281 => (if t281 = true then ((spec_l1In.f a1 (-20) 20).bind fun t282 => (some t282)) else (some false))
set_option maxHeartbeats 8000000 in
set_option maxRecDepth 100000 in
theorem spec_arBy.calls (a0 : Int) (a1 : Int) (r : Bool) (w : World) (h : spec_arBy.f a0 a1 = some r) :
  Calls Try.prog 114 #[.int .i64 a0, .int .i64 a1] w fun e w' => e = .returned (.bool r) ∧ Drawn0 w w' := by
 have H : ((spec_l1In.f a0 (-20) 20).bind fun t281 => (if t281 = true then ((spec_l1In.f a1 (-20) 20).bind fun t282 => (some t282)) else (some false))) = some r := h
 clear h
 obtain ⟨t281, A3, H⟩ := zM H
 try dsimp only at H
 by_cases c4 : t281 = true
 ·subst c4
  have H1 : ((spec_l1In.f a1 (-20) 20).bind fun t282 => (some t282)) = some r := by rw [if_pos rfl] at H; exact H
  clear H
  have H := H1
  clear H1
  obtain ⟨t282, A5, H⟩ := zM H
  try dsimp only at H
  obtain rfl := Option.some.inj H
  go_enter Try.func114, Try.ntmps114
  go_wp2_with (first | ((with_reducible refine gate_callee (f := 77) rfl ?_); refine goesL_ (some 6) rfl rfl Try.func77 zn rfl #[.int .i64 a0, .int .i64 (-20), .int .i64 20] rfl zm ?_; (with_reducible refine (spec_l1In.calls a0 (-20) 20 true _ A3.out).mono ?_); rintro e w' ⟨rfl, ⟨nd, rfl⟩⟩; refine ⟨_, rfl, ?_⟩) | (go_at_call 77; (with_reducible refine (spec_l1In.calls a1 (-20) 20 t282 _ A5.out).mono ?_); rintro e w' ⟨rfl, ⟨nd, rfl⟩⟩))
  go_ret
  exact ⟨by first | rfl | (simp; done) | (simp [*]; done), by repeat (first | exact Drawn0.refl _ | apply Drawn0.step)⟩
 ·replace c4 := Bool.eq_false_iff.mpr c4
  subst c4
  have H1 : (some false) = some r := by rw [if_neg (show ¬ (false = true) by decide)] at H; exact H
  clear H
  have H := H1
  clear H1
  obtain rfl := Option.some.inj H
  go_enter Try.func114, Try.ntmps114
  go_wp2_with (first | ((with_reducible refine gate_callee (f := 77) rfl ?_); refine goesL_ (some 6) rfl rfl Try.func77 zn rfl #[.int .i64 a0, .int .i64 (-20), .int .i64 20] rfl zm ?_; (with_reducible refine (spec_l1In.calls a0 (-20) 20 false _ A3.out).mono ?_); rintro e w' ⟨rfl, ⟨nd, rfl⟩⟩; refine ⟨_, rfl, ?_⟩))
  go_ret
  exact ⟨by first | rfl | (simp; done) | (simp [*]; done), by repeat (first | exact Drawn0.refl _ | apply Drawn0.step)⟩
def spec_arJoined.f (a0_0 : Int) (a0_1 : Int) (a0_2 : Bool) (a0_3 : Bool) (a1 : Int) (a2 : Int) : Option (Bool) := (spec_arGood.f a0_0 a0_1 a0_2 a0_3).bind fun t284 => (if t284 = true then (if a0_2 = true then (if a0_3 = true then ((spec_arBy.f a1 a2).bind fun t285 => (some t285)) else (some false)) else (some false)) else (some false))
set_option maxHeartbeats 8000000 in
set_option maxRecDepth 100000 in
theorem spec_arJoined.calls (a0_0 : Int) (a0_1 : Int) (a0_2 : Bool) (a0_3 : Bool) (a1 : Int) (a2 : Int) (r : Bool) (w : World) (h : spec_arJoined.f a0_0 a0_1 a0_2 a0_3 a1 a2 = some r) :
  Calls Try.prog 95 #[.agg #[.int .i64 a0_0, .int .i64 a0_1, .bool a0_2, .bool a0_3], .int .i64 a1, .int .i64 a2] w fun e w' => e = .returned (.bool r) ∧ Below w.heap.size w w' := by
 have hu28 := Try.underlying28
 have HB := zA (Below.refl w.heap.size w)
 have H : ((spec_arGood.f a0_0 a0_1 a0_2 a0_3).bind fun t284 => (if t284 = true then (if a0_2 = true then (if a0_3 = true then ((spec_arBy.f a1 a2).bind fun t285 => (some t285)) else (some false)) else (some false)) else (some false))) = some r := h
 clear h
 obtain ⟨t284, A4, H⟩ := zM H
 try dsimp only at H
 by_cases c5 : t284 = true
 ·subst c5
  have H1 : (if a0_2 = true then (if a0_3 = true then ((spec_arBy.f a1 a2).bind fun t285 => (some t285)) else (some false)) else (some false)) = some r := by rw [if_pos rfl] at H; exact H
  clear H
  have H := H1
  clear H1
  by_cases c6 : a0_2 = true
  ·subst c6
   have H1 : (if a0_3 = true then ((spec_arBy.f a1 a2).bind fun t285 => (some t285)) else (some false)) = some r := by rw [if_pos rfl] at H; exact H
   clear H
   have H := H1
   clear H1
   by_cases c7 : a0_3 = true
   ·subst c7
    have H1 : ((spec_arBy.f a1 a2).bind fun t285 => (some t285)) = some r := by rw [if_pos rfl] at H; exact H
    clear H
    have H := H1
    clear H1
    obtain ⟨t285, A8, H⟩ := zM H
    try dsimp only at H
    obtain rfl := Option.some.inj H
    go_enter Try.func95, Try.ntmps95
    go_wp2_with (first | ((with_reducible refine gate_dst (N := 3) rfl ?_); refine box_event zr (N := 3) zr (cs := #[.int .i64 a0_0, .int .i64 a0_1, .bool true, .bool true]) (t := 28) zh ?_; intro gb283 hg w9 hbox hb; have BK283 := zA (hbox); have GW283 := zA (zG hg (below_size (zB0 HB)) : w.heap.size ≤ gb283); have GE283 := zA (zG hg (below_size (zB0 HB)) : w.heap.size ≤ gb283); replace HB := zA (below_step (zB0 HB) hb); clear hb hbox hg; obtain ⟨z10_0, z10_1, z10_2, z10_3, y10_0, y10_1, y10_2, y10_3⟩ := zc4 BK283) | ((with_reducible refine gate_callee (f := 105) rfl ?_); refine goesL_ (some 8) rfl rfl Try.func105 zn rfl #[.agg #[.int .i64 a0_0, .int .i64 a0_1, .bool true, .bool true]] rfl zm ?_; (with_reducible refine (spec_arGood.calls a0_0 a0_1 true true true _ A4.out).mono ?_); rintro e w11 ⟨rfl, hb⟩; refine ⟨_, rfl, ?_⟩; replace BK283 := zKb BK283 hb; replace HB := zA (below_step (zB1 HB GE283) hb); (try clear hb); (try clear hb2); (try clear hk); (try clear hi); obtain ⟨z12_0, z12_1, z12_2, z12_3, y12_0, y12_1, y12_2, y12_3⟩ := zc4 BK283) | (go_at_call 114; (with_reducible refine (spec_arBy.calls a1 a2 t285 _ A8.out).mono ?_); rintro e w' ⟨rfl, ⟨nd, rfl⟩⟩))
    go_ret
    exact ⟨zt, zB1 HB GE283⟩
   ·replace c7 := Bool.eq_false_iff.mpr c7
    subst c7
    have H1 : (some false) = some r := by rw [if_neg (show ¬ (false = true) by decide)] at H; exact H
    clear H
    have H := H1
    clear H1
    obtain rfl := Option.some.inj H
    go_enter Try.func95, Try.ntmps95
    go_wp2_with (first | ((with_reducible refine gate_dst (N := 3) rfl ?_); refine box_event zr (N := 3) zr (cs := #[.int .i64 a0_0, .int .i64 a0_1, .bool true, .bool false]) (t := 28) zh ?_; intro gb283 hg w13 hbox hb; have BK283 := zA (hbox); have GW283 := zA (zG hg (below_size (zB0 HB)) : w.heap.size ≤ gb283); have GE283 := zA (zG hg (below_size (zB0 HB)) : w.heap.size ≤ gb283); replace HB := zA (below_step (zB0 HB) hb); clear hb hbox hg; obtain ⟨z14_0, z14_1, z14_2, z14_3, y14_0, y14_1, y14_2, y14_3⟩ := zc4 BK283) | ((with_reducible refine gate_callee (f := 105) rfl ?_); refine goesL_ (some 8) rfl rfl Try.func105 zn rfl #[.agg #[.int .i64 a0_0, .int .i64 a0_1, .bool true, .bool false]] rfl zm ?_; (with_reducible refine (spec_arGood.calls a0_0 a0_1 true false true _ A4.out).mono ?_); rintro e w15 ⟨rfl, hb⟩; refine ⟨_, rfl, ?_⟩; replace BK283 := zKb BK283 hb; replace HB := zA (below_step (zB1 HB GE283) hb); (try clear hb); (try clear hb2); (try clear hk); (try clear hi); obtain ⟨z16_0, z16_1, z16_2, z16_3, y16_0, y16_1, y16_2, y16_3⟩ := zc4 BK283))
    go_ret
    exact ⟨zt, zB1 HB GE283⟩
  ·replace c6 := Bool.eq_false_iff.mpr c6
   subst c6
   have H1 : (some false) = some r := by rw [if_neg (show ¬ (false = true) by decide)] at H; exact H
   clear H
   have H := H1
   clear H1
   obtain rfl := Option.some.inj H
   go_enter Try.func95, Try.ntmps95
   go_wp2_with (first | ((with_reducible refine gate_dst (N := 3) rfl ?_); refine box_event zr (N := 3) zr (cs := #[.int .i64 a0_0, .int .i64 a0_1, .bool false, .bool a0_3]) (t := 28) zh ?_; intro gb283 hg w17 hbox hb; have BK283 := zA (hbox); have GW283 := zA (zG hg (below_size (zB0 HB)) : w.heap.size ≤ gb283); have GE283 := zA (zG hg (below_size (zB0 HB)) : w.heap.size ≤ gb283); replace HB := zA (below_step (zB0 HB) hb); clear hb hbox hg; obtain ⟨z18_0, z18_1, z18_2, z18_3, y18_0, y18_1, y18_2, y18_3⟩ := zc4 BK283) | ((with_reducible refine gate_callee (f := 105) rfl ?_); refine goesL_ (some 8) rfl rfl Try.func105 zn rfl #[.agg #[.int .i64 a0_0, .int .i64 a0_1, .bool false, .bool a0_3]] rfl zm ?_; (with_reducible refine (spec_arGood.calls a0_0 a0_1 false a0_3 true _ A4.out).mono ?_); rintro e w19 ⟨rfl, hb⟩; refine ⟨_, rfl, ?_⟩; replace BK283 := zKb BK283 hb; replace HB := zA (below_step (zB1 HB GE283) hb); (try clear hb); (try clear hb2); (try clear hk); (try clear hi); obtain ⟨z20_0, z20_1, z20_2, z20_3, y20_0, y20_1, y20_2, y20_3⟩ := zc4 BK283))
   go_ret
   exact ⟨zt, zB1 HB GE283⟩
 ·replace c5 := Bool.eq_false_iff.mpr c5
  subst c5
  have H1 : (some false) = some r := by rw [if_neg (show ¬ (false = true) by decide)] at H; exact H
  clear H
  have H := H1
  clear H1
  obtain rfl := Option.some.inj H
  go_enter Try.func95, Try.ntmps95
  go_wp2_with (first | ((with_reducible refine gate_dst (N := 3) rfl ?_); refine box_event zr (N := 3) zr (cs := #[.int .i64 a0_0, .int .i64 a0_1, .bool a0_2, .bool a0_3]) (t := 28) zh ?_; intro gb283 hg w21 hbox hb; have BK283 := zA (hbox); have GW283 := zA (zG hg (below_size (zB0 HB)) : w.heap.size ≤ gb283); have GE283 := zA (zG hg (below_size (zB0 HB)) : w.heap.size ≤ gb283); replace HB := zA (below_step (zB0 HB) hb); clear hb hbox hg; obtain ⟨z22_0, z22_1, z22_2, z22_3, y22_0, y22_1, y22_2, y22_3⟩ := zc4 BK283) | ((with_reducible refine gate_callee (f := 105) rfl ?_); refine goesL_ (some 8) rfl rfl Try.func105 zn rfl #[.agg #[.int .i64 a0_0, .int .i64 a0_1, .bool a0_2, .bool a0_3]] rfl zm ?_; (with_reducible refine (spec_arGood.calls a0_0 a0_1 a0_2 a0_3 false _ A4.out).mono ?_); rintro e w23 ⟨rfl, hb⟩; refine ⟨_, rfl, ?_⟩; replace BK283 := zKb BK283 hb; replace HB := zA (below_step (zB1 HB GE283) hb); (try clear hb); (try clear hb2); (try clear hk); (try clear hi)))
  go_ret
  exact ⟨zt, zB1 HB GE283⟩
end Go.Proofs.Ytogkcfddoiloeaa.PFnOrbitsShare
