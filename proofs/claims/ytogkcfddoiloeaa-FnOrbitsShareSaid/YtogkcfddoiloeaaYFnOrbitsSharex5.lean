/- The walk. -/
import Derived.Test.YtogkcfddoiloeaaYFnOrbitsSharex4
namespace Go.Proofs.Ytogkcfddoiloeaa.PFnOrbitsShare
open Go.RowKit Go.Proofs.YtogkcfddoiloeaaW.PrintWords Go.Proofs.YtogkcfddoiloeaaW.PrintLast Go.Proofs.YtogkcfddoiloeaaW.PrintMore
attribute [local go_sem] max2_int min2_int max_two min_two max_three min_three max_four min_four
set_option linter.unusedVariables false
set_option linter.unusedSimpArgs false
mutual
def impl_FirstTwoSteps.j0 : Nat → Bool → Int → Int → Bool → Bool → Int → Int → Option (Int × Int × Int × Bool)
 | 0, _, _, _, _, _, _, _ => none
 | k + 1, x21, x226000, x226001, x226002, x226003, x227000, x227001 => if x21 = true then (some (0, 0, 0, false)) else ((impl_Leaper_steps.f k x227000 x227001).bind fun t229 => (impl_FirstTwoSteps.l0 k t229 t229 (t229.length : Int) 0 x226000 x226001 x226002 x226003))
def impl_FirstTwoSteps.l0 : Nat → List (List Int) → List (List Int) → Int → Int → Int → Int → Bool → Bool → Option (Int × Int × Int × Bool)
 | 0, _, _, _, _, _, _, _, _ => none
 | k + 1, x8, x24, x25, x26, x226000, x226001, x226002, x226003 => if x26 < x25 then (if 0 ≤ x26 then (if x26 < (x24.length : Int) then (impl_FirstTwoSteps.l1 k x8 x26 (rd_L1 x24 x26) x24 x25 x26 x8 (x8.length : Int) 0 x226000 x226001 x226002 x226003) else (none)) else (none)) else (some (0, 0, 0, false))
def impl_FirstTwoSteps.l1 : Nat → List (List Int) → Int → List Int → List (List Int) → Int → Int → List (List Int) → Int → Int → Int → Int → Bool → Bool → Option (Int × Int × Int × Bool)
 | 0, _, _, _, _, _, _, _, _, _, _, _, _, _ => none
 | k + 1, x8, x9, x10, x24, x25, x26, x31, x32, x33, x226000, x226001, x226002, x226003 => if x33 < x32 then (if 0 ≤ x33 then (if x33 < (x31.length : Int) then (impl_FirstTwoSteps.l2 k x8 x9 x10 x33 (rd_L1 x31 x33) 2 x24 x25 x26 x31 x32 x33 x226000 x226001 x226002 x226003) else (none)) else (none)) else (impl_FirstTwoSteps.l0 k x8 x24 x25 (wrap64 (x26 + 1)) x226000 x226001 x226002 x226003)
def impl_FirstTwoSteps.l2 : Nat → List (List Int) → Int → List Int → Int → List Int → Int → List (List Int) → Int → Int → List (List Int) → Int → Int → Int → Int → Bool → Bool → Option (Int × Int × Int × Bool)
 | 0, _, _, _, _, _, _, _, _, _, _, _, _, _, _, _, _ => none
 | k + 1, x8, x9, x10, x11, x12, x13, x24, x25, x26, x31, x32, x33, x226000, x226001, x226002, x226003 => if x13 ≤ 50 then ((impl_Around_twoSteps.f k x226000 x226001 x226002 x226003 x10 x12 x13).bind fun t234 => (if (t234.length : Int) = (wrap64 (x226000 * x226001)) then (some (x9, x11, x13, true)) else (impl_FirstTwoSteps.l2 k x8 x9 x10 x11 x12 (wrap64 (x13 + 1)) x24 x25 x26 x31 x32 x33 x226000 x226001 x226002 x226003))) else (impl_FirstTwoSteps.l1 k x8 x9 x10 x24 x25 x26 x31 x32 (wrap64 (x33 + 1)) x226000 x226001 x226002 x226003)
end
def impl_FirstTwoSteps.f (k : Nat) (a0_0 : Int) (a0_1 : Int) (a0_2 : Bool) (a0_3 : Bool) (a1_0 : Int) (a1_1 : Int) : Option (Int × Int × Int × Bool) := (impl_IsAround.f a0_0 a0_1 a0_2 a0_3).bind fun t227 => (if t227 = true then ((impl_IsLeaper.f a1_0 a1_1).bind fun t228 => (impl_FirstTwoSteps.j0 k (!t228) a0_0 a0_1 a0_2 a0_3 a1_0 a1_1)) else (impl_FirstTwoSteps.j0 k true a0_0 a0_1 a0_2 a0_3 a1_0 a1_1))
theorem impl_FirstTwoSteps.mono_l : ∀ k, (∀ y0 y1 y2 y3 y4 y5 y6, LeO (impl_FirstTwoSteps.j0 k y0 y1 y2 y3 y4 y5 y6) (impl_FirstTwoSteps.j0 (k + 1) y0 y1 y2 y3 y4 y5 y6)) ∧ (∀ y0 y1 y2 y3 y4 y5 y6 y7, LeO (impl_FirstTwoSteps.l0 k y0 y1 y2 y3 y4 y5 y6 y7) (impl_FirstTwoSteps.l0 (k + 1) y0 y1 y2 y3 y4 y5 y6 y7)) ∧ (∀ y0 y1 y2 y3 y4 y5 y6 y7 y8 y9 y10 y11 y12, LeO (impl_FirstTwoSteps.l1 k y0 y1 y2 y3 y4 y5 y6 y7 y8 y9 y10 y11 y12) (impl_FirstTwoSteps.l1 (k + 1) y0 y1 y2 y3 y4 y5 y6 y7 y8 y9 y10 y11 y12)) ∧ (∀ y0 y1 y2 y3 y4 y5 y6 y7 y8 y9 y10 y11 y12 y13 y14 y15, LeO (impl_FirstTwoSteps.l2 k y0 y1 y2 y3 y4 y5 y6 y7 y8 y9 y10 y11 y12 y13 y14 y15) (impl_FirstTwoSteps.l2 (k + 1) y0 y1 y2 y3 y4 y5 y6 y7 y8 y9 y10 y11 y12 y13 y14 y15))
 | 0 => ⟨fun _ _ _ _ _ _ _ r h => by simp [impl_FirstTwoSteps.j0] at h, fun _ _ _ _ _ _ _ _ r h => by simp [impl_FirstTwoSteps.l0] at h, fun _ _ _ _ _ _ _ _ _ _ _ _ _ r h => by simp [impl_FirstTwoSteps.l1] at h, fun _ _ _ _ _ _ _ _ _ _ _ _ _ _ _ _ r h => by simp [impl_FirstTwoSteps.l2] at h⟩
 | k + 1 => by
  obtain ⟨ih0, ih1, ih2, ih3⟩ := impl_FirstTwoSteps.mono_l k
  refine ⟨?_, ?_, ?_, ?_⟩
  ·intro y0 y1 y2 y3 y4 y5 y6
   unfold impl_FirstTwoSteps.j0
   repeat' first
   | (with_reducible apply ih0)
   | (with_reducible apply ih1)
   | (with_reducible apply ih2)
   | (with_reducible apply ih3)
   | (with_reducible exact impl_Around_twoSteps.mono _ _ _ _ _ _ _ _)
   | (with_reducible exact impl_Leaper_steps.mono _ _ _)
   | (with_reducible exact LeO.refl _)
   | (with_reducible exact LeO.none _)
   | (with_reducible refine LeO.ite ?_ ?_)
   | (with_reducible refine LeO.bind ?_ (fun _ => ?_))
   | apply ih0
   | apply ih1
   | apply ih2
   | apply ih3
   | exact impl_Around_twoSteps.mono _ _ _ _ _ _ _ _
   | exact impl_Leaper_steps.mono _ _ _
   | exact LeO.none _
   | refine LeO.ite ?_ ?_
   | refine LeO.bind ?_ (fun _ => ?_)
  ·intro y0 y1 y2 y3 y4 y5 y6 y7
   unfold impl_FirstTwoSteps.l0
   repeat' first
   | (with_reducible apply ih0)
   | (with_reducible apply ih1)
   | (with_reducible apply ih2)
   | (with_reducible apply ih3)
   | (with_reducible exact impl_Around_twoSteps.mono _ _ _ _ _ _ _ _)
   | (with_reducible exact impl_Leaper_steps.mono _ _ _)
   | (with_reducible exact LeO.refl _)
   | (with_reducible exact LeO.none _)
   | (with_reducible refine LeO.ite ?_ ?_)
   | (with_reducible refine LeO.bind ?_ (fun _ => ?_))
   | apply ih0
   | apply ih1
   | apply ih2
   | apply ih3
   | exact impl_Around_twoSteps.mono _ _ _ _ _ _ _ _
   | exact impl_Leaper_steps.mono _ _ _
   | exact LeO.none _
   | refine LeO.ite ?_ ?_
   | refine LeO.bind ?_ (fun _ => ?_)
  ·intro y0 y1 y2 y3 y4 y5 y6 y7 y8 y9 y10 y11 y12
   unfold impl_FirstTwoSteps.l1
   repeat' first
   | (with_reducible apply ih0)
   | (with_reducible apply ih1)
   | (with_reducible apply ih2)
   | (with_reducible apply ih3)
   | (with_reducible exact impl_Around_twoSteps.mono _ _ _ _ _ _ _ _)
   | (with_reducible exact impl_Leaper_steps.mono _ _ _)
   | (with_reducible exact LeO.refl _)
   | (with_reducible exact LeO.none _)
   | (with_reducible refine LeO.ite ?_ ?_)
   | (with_reducible refine LeO.bind ?_ (fun _ => ?_))
   | apply ih0
   | apply ih1
   | apply ih2
   | apply ih3
   | exact impl_Around_twoSteps.mono _ _ _ _ _ _ _ _
   | exact impl_Leaper_steps.mono _ _ _
   | exact LeO.none _
   | refine LeO.ite ?_ ?_
   | refine LeO.bind ?_ (fun _ => ?_)
  ·intro y0 y1 y2 y3 y4 y5 y6 y7 y8 y9 y10 y11 y12 y13 y14 y15
   unfold impl_FirstTwoSteps.l2
   repeat' first
   | (with_reducible apply ih0)
   | (with_reducible apply ih1)
   | (with_reducible apply ih2)
   | (with_reducible apply ih3)
   | (with_reducible exact impl_Around_twoSteps.mono _ _ _ _ _ _ _ _)
   | (with_reducible exact impl_Leaper_steps.mono _ _ _)
   | (with_reducible exact LeO.refl _)
   | (with_reducible exact LeO.none _)
   | (with_reducible refine LeO.ite ?_ ?_)
   | (with_reducible refine LeO.bind ?_ (fun _ => ?_))
   | apply ih0
   | apply ih1
   | apply ih2
   | apply ih3
   | exact impl_Around_twoSteps.mono _ _ _ _ _ _ _ _
   | exact impl_Leaper_steps.mono _ _ _
   | exact LeO.none _
   | refine LeO.ite ?_ ?_
   | refine LeO.bind ?_ (fun _ => ?_)
theorem impl_FirstTwoSteps.mono : ∀ a0 a1 a2 a3 a4 a5 k, LeO (impl_FirstTwoSteps.f k a0 a1 a2 a3 a4 a5) (impl_FirstTwoSteps.f (k + 1) a0 a1 a2 a3 a4 a5) := by
 intro a0 a1 a2 a3 a4 a5 k
 obtain ⟨ih0, ih1, ih2, ih3⟩ := impl_FirstTwoSteps.mono_l k
 unfold impl_FirstTwoSteps.f
 repeat' first
   | (with_reducible apply ih0)
   | (with_reducible apply ih1)
   | (with_reducible apply ih2)
   | (with_reducible apply ih3)
   | (with_reducible exact impl_Around_twoSteps.mono _ _ _ _ _ _ _ _)
   | (with_reducible exact impl_Leaper_steps.mono _ _ _)
   | (with_reducible exact LeO.refl _)
   | (with_reducible exact LeO.none _)
   | (with_reducible refine LeO.ite ?_ ?_)
   | (with_reducible refine LeO.bind ?_ (fun _ => ?_))
   | apply ih0
   | apply ih1
   | apply ih2
   | apply ih3
   | exact impl_Around_twoSteps.mono _ _ _ _ _ _ _ _
   | exact impl_Leaper_steps.mono _ _ _
   | exact LeO.none _
   | refine LeO.ite ?_ ?_
   | refine LeO.bind ?_ (fun _ => ?_)
def impl_FirstTwoSteps.T13 : Bool × List (List Nat × List Nat) := (true, [([], []), ([], []), ([], []), ([], []), ([0, 1, 2, 3], [0, 1, 2, 3]), ([4], [4]), ([], []), ([6], [6]), ([], []), ([8], [8]), ([7, 9], [7, 9]), ([5, 10], [5, 10])])
def impl_FirstTwoSteps.B13 : List Nat := [0, 0, 0, 0, 15, 31, 0, 64, 0, 256, 960, 2047]
theorem impl_FirstTwoSteps.tab13 : rtab .any (opsOf Try.f18 13) = impl_FirstTwoSteps.T13 := by kernel_rfl
theorem impl_FirstTwoSteps.bits13 : waitsOk impl_FirstTwoSteps.T13.2 impl_FirstTwoSteps.B13 = true := by kernel_rfl
set_option maxHeartbeats 8000000 in
set_option maxRecDepth 100000 in
theorem impl_FirstTwoSteps.calls (k : Nat) (a0_0 : Int) (a0_1 : Int) (a0_2 : Bool) (a0_3 : Bool) (a1_0 : Int) (a1_1 : Int) (r1 : Int) (r2 : Int) (r3 : Int) (r4 : Bool) (w : World) (h : impl_FirstTwoSteps.f k a0_0 a0_1 a0_2 a0_3 a1_0 a1_1 = some (r1, r2, r3, r4)) :
  Calls Try.prog 18 #[.agg #[.int .i64 a0_0, .int .i64 a0_1, .bool a0_2, .bool a0_3], .agg #[.int .i64 a1_0, .int .i64 a1_1]] w fun e w' => e = .returned (.tuple #[.int .i64 r1, .int .i64 r2, .int .i64 r3, .bool r4]) ∧ Below w.heap.size w w' := by
 have hu28 := Try.underlying28
 have hu30 := Try.underlying30
 have HB := zA (Below.refl w.heap.size w)
 have H : ((impl_IsAround.f a0_0 a0_1 a0_2 a0_3).bind fun t227 => (if t227 = true then ((impl_IsLeaper.f a1_0 a1_1).bind fun t228 => (impl_FirstTwoSteps.j0 k (!t228) a0_0 a0_1 a0_2 a0_3 a1_0 a1_1)) else (impl_FirstTwoSteps.j0 k true a0_0 a0_1 a0_2 a0_3 a1_0 a1_1))) = some (r1, r2, r3, r4) := h
 clear h
 have HC3 := zA H
 clear H
 go_enter Try.func18, Try.ntmps18
 go_upto_region 1 with (first | ((with_reducible refine gate_dst (N := 2) rfl ?_); refine box_event zr (N := 2) zr (cs := #[.int .i64 a0_0, .int .i64 a0_1, .bool a0_2, .bool a0_3]) (t := 28) zh ?_; intro gb225 hg w4 hbox hb; have BK225 := zA (hbox); have GW225 := zA (zG hg (below_size (zB0 HB)) : w.heap.size ≤ gb225); have GE225 := zA (zG hg (below_size (zB0 HB)) : w.heap.size ≤ gb225); replace HB := zA (below_step (zB0 HB) hb); clear hb hbox hg) | ((with_reducible refine gate_dst (N := 3) rfl ?_); refine box_event zr (N := 3) zr (cs := #[.int .i64 a1_0, .int .i64 a1_1]) (t := 30) zh ?_; intro gb226 hg w5 hbox hb; have BK226 := zA (hbox); have GW226 := zA (zG hg (below_size (zB1 HB GE225)) : w.heap.size ≤ gb226); have GE226 := zA (zG hg (below_size (zB1 HB GE225)) : w.heap.size ≤ gb226); replace HB := zA (below_step (zB1 HB GE225) hb); have NB225_226 := zA (zNl hg BK225 : gb225 ≠ gb226); have NB226_225 := zA (zNg hg BK225 : gb226 ≠ gb225); replace BK225 := zKb BK225 hb; clear hb hbox hg))
 (try simp only [Act.put, List.setIfInBounds_toArray, List.set_cons_zero, List.set_cons_succ])
 go_cut [21] (fun v21 wc => ∃ (kq : Nat) (x21_2 : Bool), v21 = .bool x21_2 ∧ Aside0 (impl_FirstTwoSteps.j0 kq x21_2 a0_0 a0_1 a0_2 a0_3 a1_0 a1_1 = some (r1, r2, r3, r4)) ∧ Aside0 (kq ≤ k) ∧ Aside0 (wc.heap[gb225]? = some (.cells #[.int .i64 a0_0, .int .i64 a0_1, .bool a0_2, .bool a0_3] 28 (0, 0))) ∧ Aside0 (wc.heap[gb226]? = some (.cells #[.int .i64 a1_0, .int .i64 a1_1] 30 (0, 0))) ∧ Aside0 (Below w.heap.size w wc))
 case first =>
  have H := HC3.out
  clear HC3
  obtain ⟨t227, A6, H⟩ := zM H
  try dsimp only at H
  by_cases c7 : t227 = true
  ·subst c7
   have H1 : ((impl_IsLeaper.f a1_0 a1_1).bind fun t228 => (impl_FirstTwoSteps.j0 k (!t228) a0_0 a0_1 a0_2 a0_3 a1_0 a1_1)) = some (r1, r2, r3, r4) := by rw [if_pos rfl] at H; exact H
   clear H
   have H := H1
   clear H1
   obtain ⟨t228, A8, H⟩ := zM H
   try dsimp only at H
   have H' := zA H
   clear H
   have hnb9 := NB225_226.out
   have hnc9 := NB226_225.out
   obtain ⟨z10_0, z10_1, z10_2, z10_3, y10_0, y10_1, y10_2, y10_3⟩ := zc4 BK225
   go_wp2_with (first | ((with_reducible refine gate_callee (f := 64) rfl ?_); refine goesL_ (some 15) rfl rfl Try.func64 zn rfl #[.agg #[.int .i64 a0_0, .int .i64 a0_1, .bool a0_2, .bool a0_3]] rfl zm ?_; (with_reducible refine (impl_IsAround.calls a0_0 a0_1 a0_2 a0_3 true _ A6.out).mono ?_); rintro e w11 ⟨rfl, hb⟩; refine ⟨_, rfl, ?_⟩; replace BK225 := zKb BK225 hb; replace BK226 := zKb BK226 hb; replace HB := zA (below_step (zB2 HB GE225 GE226) hb); (try clear hb); (try clear hb2); (try clear hk); (try clear hi); obtain ⟨z12_0, z12_1, y12_0, y12_1⟩ := zc2 BK226) | (go_at_call 65; (with_reducible refine (impl_IsLeaper.calls a1_0 a1_1 t228 _ A8.out).mono ?_); rintro e w13 ⟨rfl, hb⟩; replace BK225 := zKb BK225 hb; replace BK226 := zKb BK226 hb; replace HB := zA (below_step (zB2 HB GE225 GE226) hb); (try clear hb); (try clear hb2); (try clear hk); (try clear hi)))
   go_meet
   case rel => exact ⟨_, (!t228), ze, H', ⟨zO⟩, ⟨zK BK225⟩, ⟨zK BK226⟩, ⟨zB2 HB GE225 GE226⟩⟩
  ·replace c7 := Bool.eq_false_iff.mpr c7
   subst c7
   have H1 : (impl_FirstTwoSteps.j0 k true a0_0 a0_1 a0_2 a0_3 a1_0 a1_1) = some (r1, r2, r3, r4) := by rw [if_neg (show ¬ (false = true) by decide)] at H; exact H
   clear H
   have H := H1
   clear H1
   have H' := zA H
   clear H
   have hnb14 := NB225_226.out
   have hnc14 := NB226_225.out
   obtain ⟨z15_0, z15_1, z15_2, z15_3, y15_0, y15_1, y15_2, y15_3⟩ := zc4 BK225
   go_wp2_with (first | ((with_reducible refine gate_callee (f := 64) rfl ?_); refine goesL_ (some 15) rfl rfl Try.func64 zn rfl #[.agg #[.int .i64 a0_0, .int .i64 a0_1, .bool a0_2, .bool a0_3]] rfl zm ?_; (with_reducible refine (impl_IsAround.calls a0_0 a0_1 a0_2 a0_3 false _ A6.out).mono ?_); rintro e w16 ⟨rfl, hb⟩; refine ⟨_, rfl, ?_⟩; replace BK225 := zKb BK225 hb; replace BK226 := zKb BK226 hb; replace HB := zA (below_step (zB2 HB GE225 GE226) hb); (try clear hb); (try clear hb2); (try clear hk); (try clear hi)))
   go_meet
   case rel => exact ⟨_, (true), ze, H', ⟨zO⟩, ⟨zK BK225⟩, ⟨zK BK226⟩, ⟨zB2 HB GE225 GE226⟩⟩
 case rest =>
  clear HC3
  obtain ⟨kq, x21_2, rfl, HA, HJ2, BK225, BK226, HB⟩ := hcut
  cases kq with
  | zero => exact absurd HA.out (by simp [impl_FirstTwoSteps.j0])
  | succ kj2 =>
   have H := HA.out
   clear HA
   simp only [impl_FirstTwoSteps.j0] at H
   by_cases c17 : x21_2 = true
   ·subst c17
    have H1 : (some (0, 0, 0, false)) = some (r1, r2, r3, r4) := by rw [if_pos rfl] at H; exact H
    clear H
    have H := H1
    clear H1
    simp only [Option.some.injEq, Prod.mk.injEq] at H
    obtain ⟨rfl, rfl, rfl, rfl⟩ := H
    go_wp2
    refine bodyPost_ret (results_list (rs := [.tmp 4, .tmp 5, .tmp 6, .tmp 7]) rfl (by simp) (.tmp (.tmp (.tmp (.tmp .nil))))) rfl ?_
    exact ⟨zt, zB2 HB GE225 GE226⟩
   ·replace c17 := Bool.eq_false_iff.mpr c17
    subst c17
    have H1 : ((impl_Leaper_steps.f kj2 a1_0 a1_1).bind fun t229 => (impl_FirstTwoSteps.l0 kj2 t229 t229 (t229.length : Int) 0 a0_0 a0_1 a0_2 a0_3)) = some (r1, r2, r3, r4) := by rw [if_neg (show ¬ (false = true) by decide)] at H; exact H
    clear H
    have H := H1
    clear H1
    obtain ⟨t229, A18, H⟩ := zM H
    try dsimp only at H
    have H' := zA H
    clear H
    have hnb19 := NB226_225.out
    have hnc19 := NB225_226.out
    obtain ⟨z20_0, z20_1, y20_0, y20_1⟩ := zc2 BK226
    go_wp2_with (first | ((with_reducible refine gate_callee (f := 66) rfl ?_); refine goesL_ (some 23) rfl rfl Try.func66 zn rfl #[.agg #[.int .i64 a1_0, .int .i64 a1_1]] rfl zm ?_; (with_reducible refine (impl_Leaper_steps.calls kj2 a1_0 a1_1 t229 _ A18.out).mono ?_); rintro e w21 ⟨v230, rfl, ho0, hb⟩; refine ⟨_, rfl, ?_⟩; have HO231 := zA (Kd.S_lower ho0 (below_size (zB2 HB GE225 GE226))); replace BK225 := zKb BK225 hb; replace BK226 := zKb BK226 hb; replace HB := zA (below_step (zB2 HB GE225 GE226) hb); (try clear hb); (try clear hb2); (try clear hk); (try clear hi); (try clear ho0); obtain ⟨Ao22, co22, eo22⟩ := Kd.S_slice HO231.out; subst eo22))
    go_loopg [26] kj2 (fun kq v26 w' => ∃ (x26_2 : Int), v26 = .int .i64 x26_2 ∧ Aside0 (impl_FirstTwoSteps.l0 kq t229 t229 (t229.length : Int) x26_2 a0_0 a0_1 a0_2 a0_3 = some (r1, r2, r3, r4)) ∧ Aside0 (kq ≤ kj2) ∧ Aside0 (Kd.S (Kd.slice 3 (Kd.int .i64)) 33 w' w.heap.size (fun _ => True) (.slice Ao22 t229.length co22) t229) ∧ Aside0 (Kd.S (Kd.slice 3 (Kd.int .i64)) 33 w' w.heap.size (fun _ => True) (.slice Ao22 t229.length co22) t229) ∧ Aside0 (w'.heap[gb225]? = some (.cells #[.int .i64 a0_0, .int .i64 a0_1, .bool a0_2, .bool a0_3] 28 (0, 0))) ∧ Aside0 (w'.heap[gb226]? = some (.cells #[.int .i64 a1_0, .int .i64 a1_1] 30 (0, 0))) ∧ Aside0 (Below w.heap.size w w'))
    case atStart => exact ⟨(0), ze, H', ⟨Nat.le_refl _⟩, ⟨zL HO231.out⟩, ⟨zL HO231.out⟩, ⟨zK BK225⟩, ⟨zK BK226⟩, ⟨zB2 HB GE225 GE226⟩⟩
    case round =>
     clear H'
     (try clear c17); (try clear z20_0 z20_1 y20_0 y20_1)
     obtain ⟨x26_2, rfl, HA, HK2, HO_8, HO_24, BK225, BK226, HB⟩ := hrel
     cases gk with
     | zero => exact absurd HA.out (by simp [impl_FirstTwoSteps.l0])
     | succ k2 =>
      have H := HA.out
      clear HA
      simp only [impl_FirstTwoSteps.l0] at H
      by_cases c23 : x26_2 < (t229.length : Int)
      ·rw [if_pos c23] at H
       have c23b0 : decide (x26_2 < (t229.length : Int)) = true := decide_eq_true c23
       clear c23
       by_cases c24 : 0 ≤ x26_2
       ·rw [if_pos c24] at H
        have c24b0 : decide (0 ≤ x26_2) = true := decide_eq_true c24
        clear c24
        by_cases c25 : x26_2 < (t229.length : Int)
        ·rw [if_pos c25] at H
         have c25b0 : decide (x26_2 < (t229.length : Int)) = true := decide_eq_true c25
         clear c25
         have H' := zA H
         clear H
         have p232 : 0 ≤ (x26_2 : Int) := zd
         have q232 : x26_2 < (t229.length : Int) := zd
         obtain ⟨ad232, A232_0, c232_0, e232, hx232_0, hl232_0, hi232_0⟩ := at_L1 (Kd.S_reads' HO_24.out).2.2 x26_2 p232 q232
         cases e232
         obtain ⟨ce232, hce232, hMe232, hcc232⟩ := Kd.S_get HO_24.out [] x26_2 p232 (by first | exact q232 | exact zd | (have e_ := (Kd.S_reads' HO_24.out).1; omega))
         obtain ⟨ve232_0, rfl, ge232_0⟩ := hMe232
         have hv232_0 := hcc232 0 _ rfl
         rw [Nat.add_zero, show ((Kd.slice 3 (Kd.int .i64))).sz = 1 from rfl, Nat.mul_one] at hv232_0
         replace hv232_0 := Option.some.inj (hv232_0.symm.trans hx232_0)
         rw [hv232_0] at ge232_0
         have HL232_0 := zA (show Kd.R (Kd.int .i64) 3 _ _ _ _ (rd_L1 t229 x26_2) from ge232_0)
         clear hv232_0 ge232_0
         clear hcc232 hce232
         have HR232_0 := zA hi232_0
         have HC232_0 := zA hl232_0
         clear hi232_0 hl232_0
         replace p232 := eq_true p232
         replace q232 := eq_true q232
         go_wp2
         go_loopg [33] k2 (fun kq v33 w' => ∃ (x33_3 : Int), v33 = .int .i64 x33_3 ∧ Aside0 (impl_FirstTwoSteps.l1 kq t229 x26_2 (rd_L1 t229 x26_2) t229 (t229.length : Int) x26_2 t229 (t229.length : Int) x33_3 a0_0 a0_1 a0_2 a0_3 = some (r1, r2, r3, r4)) ∧ Aside0 (kq ≤ k2) ∧ Aside0 (Kd.S (Kd.slice 3 (Kd.int .i64)) 33 w' w.heap.size (fun _ => True) (.slice (some ad232) t229.length co22) t229) ∧ Aside0 (Kd.S (Kd.slice 3 (Kd.int .i64)) 33 w' w.heap.size (fun _ => True) (.slice (some ad232) t229.length co22) t229) ∧ Aside0 (Kd.S (Kd.slice 3 (Kd.int .i64)) 33 w' w.heap.size (fun _ => True) (.slice (some ad232) t229.length co22) t229) ∧ Aside0 (w'.heap[gb225]? = some (.cells #[.int .i64 a0_0, .int .i64 a0_1, .bool a0_2, .bool a0_3] 28 (0, 0))) ∧ Aside0 (w'.heap[gb226]? = some (.cells #[.int .i64 a1_0, .int .i64 a1_1] 30 (0, 0))) ∧ Aside0 (Kd.C (Kd.int .i64) w' A232_0 (rd_L1 t229 x26_2).length (rd_L1 t229 x26_2)) ∧ Aside0 (Below w.heap.size w w'))
         case atStart => exact ⟨(0), ze, H', ⟨Nat.le_refl _⟩, ⟨zL HO_8.out⟩, ⟨zL HO_24.out⟩, ⟨zL HO_8.out⟩, ⟨zK BK225⟩, ⟨zK BK226⟩, ⟨by repeat (first | (with_reducible exact HR232_0.out) | (with_reducible refine Kd.C_alloc ?_ _) | (with_reducible refine Kd.C_drewN ?_ _) | (with_reducible refine Kd.C_drew ?_) | exact HR232_0.out)⟩, ⟨zB2 HB GE225 GE226⟩⟩
         case round =>
          clear H'
          (try clear c17); (try clear c23); (try clear c23b0); (try clear c24); (try clear c24b0); (try clear c25); (try clear c25b0); (try clear z20_0 z20_1 y20_0 y20_1); (try clear hx232_0); (try clear p232 q232)
          obtain ⟨x33_3, rfl, HA, HK3, HO_8, HO_24, HO_31, BK225, BK226, HR232_0, HB⟩ := hrel
          cases gk with
          | zero => exact absurd HA.out (by simp [impl_FirstTwoSteps.l1])
          | succ k3 =>
           have H := HA.out
           clear HA
           simp only [impl_FirstTwoSteps.l1] at H
           by_cases c26 : x33_3 < (t229.length : Int)
           ·rw [if_pos c26] at H
            have c26b0 : decide (x33_3 < (t229.length : Int)) = true := decide_eq_true c26
            clear c26
            by_cases c27 : 0 ≤ x33_3
            ·rw [if_pos c27] at H
             have c27b0 : decide (0 ≤ x33_3) = true := decide_eq_true c27
             clear c27
             by_cases c28 : x33_3 < (t229.length : Int)
             ·rw [if_pos c28] at H
              have c28b0 : decide (x33_3 < (t229.length : Int)) = true := decide_eq_true c28
              clear c28
              have H' := zA H
              clear H
              have p233 : 0 ≤ (x33_3 : Int) := zd
              have q233 : x33_3 < (t229.length : Int) := zd
              obtain ⟨ad233, A233_0, c233_0, e233, hx233_0, hl233_0, hi233_0⟩ := at_L1 (Kd.S_reads' HO_31.out).2.2 x33_3 p233 q233
              obtain rfl : ad232 = ad233 := (by injection e233)
              obtain ⟨ce233, hce233, hMe233, hcc233⟩ := Kd.S_get HO_31.out [] x33_3 p233 (by first | exact q233 | exact zd | (have e_ := (Kd.S_reads' HO_31.out).1; omega))
              obtain ⟨ve233_0, rfl, ge233_0⟩ := hMe233
              have hv233_0 := hcc233 0 _ rfl
              rw [Nat.add_zero, show ((Kd.slice 3 (Kd.int .i64))).sz = 1 from rfl, Nat.mul_one] at hv233_0
              replace hv233_0 := Option.some.inj (hv233_0.symm.trans hx233_0)
              rw [hv233_0] at ge233_0
              have HL233_0 := zA (show Kd.R (Kd.int .i64) 3 _ _ _ _ (rd_L1 t229 x33_3) from ge233_0)
              clear hv233_0 ge233_0
              clear hcc233 hce233
              have HR233_0 := zA hi233_0
              have HC233_0 := zA hl233_0
              clear hi233_0 hl233_0
              replace p233 := eq_true p233
              replace q233 := eq_true q233
              go_wp2
              go_loopg [13] k3 (fun kq v13 w' => ∃ (x13_4 : Int), v13 = .int .i64 x13_4 ∧ Aside0 (impl_FirstTwoSteps.l2 kq t229 x26_2 (rd_L1 t229 x26_2) x33_3 (rd_L1 t229 x33_3) x13_4 t229 (t229.length : Int) x26_2 t229 (t229.length : Int) x33_3 a0_0 a0_1 a0_2 a0_3 = some (r1, r2, r3, r4)) ∧ Aside0 (kq ≤ k3) ∧ Aside0 (Kd.S (Kd.slice 3 (Kd.int .i64)) 33 w' w.heap.size (fun _ => True) (.slice (some ad232) t229.length co22) t229) ∧ Aside0 (Kd.S (Kd.slice 3 (Kd.int .i64)) 33 w' w.heap.size (fun _ => True) (.slice (some ad232) t229.length co22) t229) ∧ Aside0 (Kd.S (Kd.slice 3 (Kd.int .i64)) 33 w' w.heap.size (fun _ => True) (.slice (some ad232) t229.length co22) t229) ∧ Aside0 (w'.heap[gb225]? = some (.cells #[.int .i64 a0_0, .int .i64 a0_1, .bool a0_2, .bool a0_3] 28 (0, 0))) ∧ Aside0 (w'.heap[gb226]? = some (.cells #[.int .i64 a1_0, .int .i64 a1_1] 30 (0, 0))) ∧ Aside0 (Kd.C (Kd.int .i64) w' A232_0 (rd_L1 t229 x26_2).length (rd_L1 t229 x26_2)) ∧ Aside0 (Kd.C (Kd.int .i64) w' A233_0 (rd_L1 t229 x33_3).length (rd_L1 t229 x33_3)) ∧ Aside0 (Below w.heap.size w w'))
              case atStart => exact ⟨(2), ze, H', ⟨Nat.le_refl _⟩, ⟨zL HO_8.out⟩, ⟨zL HO_24.out⟩, ⟨zL HO_31.out⟩, ⟨zK BK225⟩, ⟨zK BK226⟩, ⟨by repeat (first | (with_reducible exact HR232_0.out) | (with_reducible refine Kd.C_alloc ?_ _) | (with_reducible refine Kd.C_drewN ?_ _) | (with_reducible refine Kd.C_drew ?_) | exact HR232_0.out)⟩, ⟨by repeat (first | (with_reducible exact HR233_0.out) | (with_reducible refine Kd.C_alloc ?_ _) | (with_reducible refine Kd.C_drewN ?_ _) | (with_reducible refine Kd.C_drew ?_) | exact HR233_0.out)⟩, ⟨zB2 HB GE225 GE226⟩⟩
              case round =>
               clear H'
               (try clear c17); (try clear c23); (try clear c23b0); (try clear c24); (try clear c24b0); (try clear c25); (try clear c25b0); (try clear c26); (try clear c26b0); (try clear c27); (try clear c27b0); (try clear c28); (try clear c28b0); (try clear z20_0 z20_1 y20_0 y20_1); (try clear hx232_0); (try clear hx233_0); (try clear p232); (try clear p233); (try clear q232); (try clear q233)
               obtain ⟨x13_4, rfl, HA, HK4, HO_8, HO_24, HO_31, BK225, BK226, HR232_0, HR233_0, HB⟩ := hrel
               cases gk with
               | zero => exact absurd HA.out (by simp [impl_FirstTwoSteps.l2])
               | succ k4 =>
                have H := HA.out
                clear HA
                simp only [impl_FirstTwoSteps.l2] at H
                by_cases c29 : x13_4 ≤ 50
                ·rw [if_pos c29] at H
                 have c29b0 : decide (x13_4 ≤ 50) = true := decide_eq_true c29
                 clear c29
                 obtain ⟨t234, A30, H⟩ := zM H
                 try dsimp only at H
                 by_cases c31 : (t234.length : Int) = (wrap64 (a0_0 * a0_1))
                 ·rw [if_pos c31] at H
                  have c31b0 : ((t234.length : Int) == (wrap64 (a0_0 * a0_1))) = true := beq_iff_eq.mpr c31
                  have c31b1 : ((t234.length : Int) != (wrap64 (a0_0 * a0_1))) = false := bne_eq_false_iff_eq.mpr c31
                  clear c31
                  simp only [Option.some.injEq, Prod.mk.injEq] at H
                  obtain ⟨rfl, rfl, rfl, rfl⟩ := H
                  try go_wp2
                  replace HO_8 := zA (Kd.S_drew HO_8.out)
                  replace HO_24 := zA (Kd.S_drew HO_24.out)
                  replace HO_31 := zA (Kd.S_drew HO_31.out)
                  replace BK225 := zA (blk_drew BK225.out)
                  replace BK226 := zA (blk_drew BK226.out)
                  replace HR232_0 := zA (Kd.C_drew HR232_0.out)
                  replace HR233_0 := zA (Kd.C_drew HR233_0.out)
                  replace HB := zA (below_drew1 HB.out)
                  refine start_ (n := 12) (S := fun w' => w'.cell? ⟨gb225, 0, none⟩ = some (.int .i64 a0_0) ∧ w'.cell? ⟨gb225, 1, none⟩ = some (.int .i64 a0_1) ∧ w'.cell? ⟨gb225, 2, none⟩ = some (.bool a0_2) ∧ w'.cell? ⟨gb225, 3, none⟩ = some (.bool a0_3)) (ds := []) #[false, false, false, false, false, false, false, false, false, false, false, false] zn rfl rfl ⟨(blk_cell BK225.out 0).trans rfl, (blk_cell BK225.out 1).trans rfl, (blk_cell BK225.out 2).trans rfl, (blk_cell BK225.out 3).trans rfl⟩ (fun hHeld => ?_); refine with_tabW impl_FirstTwoSteps.tab13 impl_FirstTwoSteps.bits13 (fun HT_ HW_ => ?_)
                  generalize wr.drew = w32 at HO_8 HO_24 HO_31 BK225 BK226 HR232_0 HR233_0 HB hHeld ⊢
                  refine zq HT_ (i := 1) (N := some 43) ?_
                  refine zq HT_ (i := 2) (N := some 44) ?_
                  refine zq HT_ (i := 3) (N := some 45) ?_
                  refine zq HT_ (i := 6) (N := some 48) ?_
                  refine zq HT_ (i := 8) (N := some 50) ?_
                  refine zx4 HT_ HW_ hHeld (i := 0) (N := some 42) ?_
                  refine zx4 HT_ HW_ hHeld (i := 7) (N := some 49) ?_
                  refine zx4 HT_ HW_ hHeld (i := 9) (N := some 51) ?_
                  refine zq HT_ (i := 10) (N := some 52) ?_
                  refine one_ (i := 4) (N := some 46) #[true, true, true, true, true, false, true, true, true, true, true, false] rfl rfl (one_of HT_.out zn) (by decide) (fun K hK => ?_)
                  refine goes_ Try.func67 zn rfl #[.agg #[.int .i64 a0_0, .int .i64 a0_1, .bool a0_2, .bool a0_3], .slice A232_0 (rd_L1 t229 x26_2).length c232_0, .slice A233_0 (rd_L1 t229 x33_3).length c233_0, .int .i64 x13_4] (by rfl) rfl rfl zm ?_
                  with_reducible refine (impl_Around_twoSteps.calls k4 a0_0 a0_1 a0_2 a0_3 _ _ (rd_L1 t229 x26_2) _ _ (rd_L1 t229 x33_3) x13_4 t234 _ ?side1 ?side2 ?side3 ?side4 A30.out).mono ?_
                  (case side1 => repeat (first | exact HR232_0.out | exact (Kd.C_below HR232_0.out HB.out) | (with_reducible refine Kd.C_alloc ?_ _) | (with_reducible refine Kd.C_drewN ?_ _) | (with_reducible refine Kd.C_drew ?_)))
                  (case side2 => exact HC232_0.out)
                  (case side3 => repeat (first | exact HR233_0.out | exact (Kd.C_below HR233_0.out HB.out) | (with_reducible refine Kd.C_alloc ?_ _) | (with_reducible refine Kd.C_drewN ?_ _) | (with_reducible refine Kd.C_drew ?_)))
                  (case side4 => exact HC233_0.out)
                  rintro e w33 ⟨v235, rfl, ho0, hb⟩
                  refine ⟨_, rfl, ?_⟩
                  replace HO_8 := zA (Kd.S_elder' (zL HO_8.out) (Kd.R_base ho0) hb)
                  replace HO_24 := zA (Kd.S_elder' (zL HO_24.out) (Kd.R_base ho0) hb)
                  replace HO_31 := zA (Kd.S_elder' (zL HO_31.out) (Kd.R_base ho0) hb)
                  have HO236 := zA (Kd.R_lower ho0 (below_size (zB2 HB GE225 GE226)))
                  replace BK225 := zKb BK225 hb
                  replace BK226 := zKb BK226 hb
                  replace HR232_0 := zA (Kd.C_below (zC HR232_0.out) hb)
                  replace HR233_0 := zA (Kd.C_below (zC HR233_0.out) hb)
                  replace HB := zA (below_step (zB2 HB GE225 GE226) hb)
                  (try clear hb); (try clear hb2); (try clear hk); (try clear hi); (try clear ho0)
                  obtain ⟨Ao34, co34, eo34⟩ := Kd.R_slice HO236.out
                  (first | subst eo34 | (injection eo34 with f1_ f2_ f3_; have f4_ := f1_.symm; have f5_ := f3_.symm; clear f1_ f2_ f3_; subst f4_; subst f5_))
                  refine hK.out _ _ ⟨(blk_cell BK225.out 0).trans rfl, (blk_cell BK225.out 1).trans rfl, (blk_cell BK225.out 2).trans rfl, (blk_cell BK225.out 3).trans rfl⟩ (fun hHeld => ?_)
                  clear hK K
                  refine norm_ (a' := ?_) ?_ ?_
                  rotate_left
                  ·show Act.put _ (some 46) _ = _
                   simp only [Act.put, List.setIfInBounds_toArray, List.set_cons_zero, List.set_cons_succ, i64_w, i32_w]
                   rfl
                  refine zq HT_ (i := 5) (N := some 47) ?_
                  refine zq HT_ (i := 11) (N := some 53) ?_
                  refine done_ (done_of HT_.out zn) ?_
                  try go_wp2
                  refine bodyPost_ret (results_list (rs := [.tmp 4, .tmp 5, .tmp 6, .tmp 7]) rfl (by simp) (.tmp (.tmp (.tmp (.tmp .nil))))) rfl ?_
                  exact ⟨zt, zB2 HB GE225 GE226⟩
                 ·rw [if_neg c31] at H
                  have c31b0 : ((t234.length : Int) == (wrap64 (a0_0 * a0_1))) = false := beq_eq_false_iff_ne.mpr c31
                  have c31b1 : ((t234.length : Int) != (wrap64 (a0_0 * a0_1))) = true := bne_iff_ne.mpr c31
                  have H' := zA H
                  clear H
                  try go_wp2
                  replace HO_8 := zA (Kd.S_drew HO_8.out)
                  replace HO_24 := zA (Kd.S_drew HO_24.out)
                  replace HO_31 := zA (Kd.S_drew HO_31.out)
                  replace BK225 := zA (blk_drew BK225.out)
                  replace BK226 := zA (blk_drew BK226.out)
                  replace HR232_0 := zA (Kd.C_drew HR232_0.out)
                  replace HR233_0 := zA (Kd.C_drew HR233_0.out)
                  replace HB := zA (below_drew1 HB.out)
                  refine start_ (n := 12) (S := fun w' => w'.cell? ⟨gb225, 0, none⟩ = some (.int .i64 a0_0) ∧ w'.cell? ⟨gb225, 1, none⟩ = some (.int .i64 a0_1) ∧ w'.cell? ⟨gb225, 2, none⟩ = some (.bool a0_2) ∧ w'.cell? ⟨gb225, 3, none⟩ = some (.bool a0_3)) (ds := []) #[false, false, false, false, false, false, false, false, false, false, false, false] zn rfl rfl ⟨(blk_cell BK225.out 0).trans rfl, (blk_cell BK225.out 1).trans rfl, (blk_cell BK225.out 2).trans rfl, (blk_cell BK225.out 3).trans rfl⟩ (fun hHeld => ?_); refine with_tabW impl_FirstTwoSteps.tab13 impl_FirstTwoSteps.bits13 (fun HT_ HW_ => ?_)
                  generalize wr.drew = w35 at HO_8 HO_24 HO_31 BK225 BK226 HR232_0 HR233_0 HB hHeld ⊢
                  refine zq HT_ (i := 1) (N := some 43) ?_
                  refine zq HT_ (i := 2) (N := some 44) ?_
                  refine zq HT_ (i := 3) (N := some 45) ?_
                  refine zq HT_ (i := 6) (N := some 48) ?_
                  refine zq HT_ (i := 8) (N := some 50) ?_
                  refine zx4 HT_ HW_ hHeld (i := 0) (N := some 42) ?_
                  refine zx4 HT_ HW_ hHeld (i := 7) (N := some 49) ?_
                  refine zx4 HT_ HW_ hHeld (i := 9) (N := some 51) ?_
                  refine zq HT_ (i := 10) (N := some 52) ?_
                  refine one_ (i := 4) (N := some 46) #[true, true, true, true, true, false, true, true, true, true, true, false] rfl rfl (one_of HT_.out zn) (by decide) (fun K hK => ?_)
                  refine goes_ Try.func67 zn rfl #[.agg #[.int .i64 a0_0, .int .i64 a0_1, .bool a0_2, .bool a0_3], .slice A232_0 (rd_L1 t229 x26_2).length c232_0, .slice A233_0 (rd_L1 t229 x33_3).length c233_0, .int .i64 x13_4] (by rfl) rfl rfl zm ?_
                  with_reducible refine (impl_Around_twoSteps.calls k4 a0_0 a0_1 a0_2 a0_3 _ _ (rd_L1 t229 x26_2) _ _ (rd_L1 t229 x33_3) x13_4 t234 _ ?side1 ?side2 ?side3 ?side4 A30.out).mono ?_
                  (case side1 => repeat (first | exact HR232_0.out | exact (Kd.C_below HR232_0.out HB.out) | (with_reducible refine Kd.C_alloc ?_ _) | (with_reducible refine Kd.C_drewN ?_ _) | (with_reducible refine Kd.C_drew ?_)))
                  (case side2 => exact HC232_0.out)
                  (case side3 => repeat (first | exact HR233_0.out | exact (Kd.C_below HR233_0.out HB.out) | (with_reducible refine Kd.C_alloc ?_ _) | (with_reducible refine Kd.C_drewN ?_ _) | (with_reducible refine Kd.C_drew ?_)))
                  (case side4 => exact HC233_0.out)
                  rintro e w36 ⟨v235, rfl, ho0, hb⟩
                  refine ⟨_, rfl, ?_⟩
                  replace HO_8 := zA (Kd.S_elder' (zL HO_8.out) (Kd.R_base ho0) hb)
                  replace HO_24 := zA (Kd.S_elder' (zL HO_24.out) (Kd.R_base ho0) hb)
                  replace HO_31 := zA (Kd.S_elder' (zL HO_31.out) (Kd.R_base ho0) hb)
                  have HO236 := zA (Kd.R_lower ho0 (below_size (zB2 HB GE225 GE226)))
                  replace BK225 := zKb BK225 hb
                  replace BK226 := zKb BK226 hb
                  replace HR232_0 := zA (Kd.C_below (zC HR232_0.out) hb)
                  replace HR233_0 := zA (Kd.C_below (zC HR233_0.out) hb)
                  replace HB := zA (below_step (zB2 HB GE225 GE226) hb)
                  (try clear hb); (try clear hb2); (try clear hk); (try clear hi); (try clear ho0)
                  obtain ⟨Ao37, co37, eo37⟩ := Kd.R_slice HO236.out
                  (first | subst eo37 | (injection eo37 with f1_ f2_ f3_; have f4_ := f1_.symm; have f5_ := f3_.symm; clear f1_ f2_ f3_; subst f4_; subst f5_))
                  refine hK.out _ _ ⟨(blk_cell BK225.out 0).trans rfl, (blk_cell BK225.out 1).trans rfl, (blk_cell BK225.out 2).trans rfl, (blk_cell BK225.out 3).trans rfl⟩ (fun hHeld => ?_)
                  clear hK K
                  refine norm_ (a' := ?_) ?_ ?_
                  rotate_left
                  ·show Act.put _ (some 46) _ = _
                   simp only [Act.put, List.setIfInBounds_toArray, List.set_cons_zero, List.set_cons_succ, i64_w, i32_w]
                   rfl
                  refine zq HT_ (i := 5) (N := some 47) ?_
                  refine zq HT_ (i := 11) (N := some 53) ?_
                  refine done_ (done_of HT_.out zn) ?_
                  try go_wp2
                  go_roundg k4
                  case measure => have := HJ2.out; have := HK2.out; have := HK3.out; have := HK4.out; omega
                  case rel => exact ⟨(wrap64 (x13_4 + 1)), ze, H', ⟨by have := HJ2.out; have := HK2.out; have := HK3.out; have := HK4.out; omega⟩, ⟨zL (Kd.S_mono HO_8.out (fun _ hk => trivial))⟩, ⟨zL (Kd.S_mono HO_24.out (fun _ hk => trivial))⟩, ⟨zL (Kd.S_mono HO_31.out (fun _ hk => trivial))⟩, ⟨zK BK225⟩, ⟨zK BK226⟩, ⟨by repeat (first | (with_reducible exact HR232_0.out) | (with_reducible refine Kd.C_alloc ?_ _) | (with_reducible refine Kd.C_drewN ?_ _) | (with_reducible refine Kd.C_drew ?_) | exact HR232_0.out)⟩, ⟨by repeat (first | (with_reducible exact HR233_0.out) | (with_reducible refine Kd.C_alloc ?_ _) | (with_reducible refine Kd.C_drewN ?_ _) | (with_reducible refine Kd.C_drew ?_) | exact HR233_0.out)⟩, ⟨zB2 HB GE225 GE226⟩⟩
                ·rw [if_neg c29] at H
                 have c29b0 : decide (x13_4 ≤ 50) = false := decide_eq_false c29
                 clear c29
                 have H' := zA H
                 clear H
                 go_wp2
                 go_roundg k4
                 case measure => have := HJ2.out; have := HK2.out; have := HK3.out; have := HK4.out; omega
                 case rel => exact ⟨(wrap64 (x33_3 + 1)), ze, H', ⟨by have := HJ2.out; have := HK2.out; have := HK3.out; have := HK4.out; omega⟩, ⟨zL HO_8.out⟩, ⟨zL HO_24.out⟩, ⟨zL HO_31.out⟩, ⟨zK BK225⟩, ⟨zK BK226⟩, ⟨by repeat (first | (with_reducible exact HR232_0.out) | (with_reducible refine Kd.C_alloc ?_ _) | (with_reducible refine Kd.C_drewN ?_ _) | (with_reducible refine Kd.C_drew ?_) | exact HR232_0.out)⟩, ⟨zB2 HB GE225 GE226⟩⟩
             ·rw [if_neg c28] at H
              exact absurd H (by simp)
            ·rw [if_neg c27] at H
             exact absurd H (by simp)
           ·rw [if_neg c26] at H
            have c26b0 : decide (x33_3 < (t229.length : Int)) = false := decide_eq_false c26
            clear c26
            have H' := zA H
            clear H
            go_wp2
            go_roundg k3
            case measure => have := HJ2.out; have := HK2.out; have := HK3.out; omega
            case rel => exact ⟨(wrap64 (x26_2 + 1)), ze, H', ⟨by have := HJ2.out; have := HK2.out; have := HK3.out; omega⟩, ⟨zL HO_8.out⟩, ⟨zL HO_24.out⟩, ⟨zK BK225⟩, ⟨zK BK226⟩, ⟨zB2 HB GE225 GE226⟩⟩
        ·rw [if_neg c25] at H
         exact absurd H (by simp)
       ·rw [if_neg c24] at H
        exact absurd H (by simp)
      ·rw [if_neg c23] at H
       have c23b0 : decide (x26_2 < (t229.length : Int)) = false := decide_eq_false c23
       clear c23
       simp only [Option.some.injEq, Prod.mk.injEq] at H
       obtain ⟨rfl, rfl, rfl, rfl⟩ := H
       go_wp2
       refine bodyPost_ret (results_list (rs := [.tmp 4, .tmp 5, .tmp 6, .tmp 7]) rfl (by simp) (.tmp (.tmp (.tmp (.tmp .nil))))) rfl ?_
       exact ⟨zt, zB2 HB GE225 GE226⟩
def spec_arAsked.f (k : Nat) (a0_0 : Int) (a0_1 : Int) (a0_2 : Bool) (a0_3 : Bool) (a1_0 : Int) (a1_1 : Int) (a2 : Int) (a3 : Int) (a4 : Int) : Option (Bool) := (spec_arTwo.f a0_0 a0_1 a0_2 a0_3 a1_0 a1_1).bind fun t239 => (if t239 = true then ((spec_boSteps.f k a1_0 a1_1).bind fun t240 => ((spec_l1In.f a2 0 (wrap64 ((t240.length : Int) - 1))).bind fun t243 => (if t243 = true then ((spec_boSteps.f k a1_0 a1_1).bind fun t244 => ((spec_l1In.f a3 0 (wrap64 ((t244.length : Int) - 1))).bind fun t247 => (if t247 = true then ((spec_l1In.f a4 2 150).bind fun t248 => (some t248)) else (some false)))) else (some false)))) else (some false))
theorem spec_arAsked.mono : ∀ a0 a1 a2 a3 a4 a5 a6 a7 a8 k, LeO (spec_arAsked.f k a0 a1 a2 a3 a4 a5 a6 a7 a8) (spec_arAsked.f (k + 1) a0 a1 a2 a3 a4 a5 a6 a7 a8) := by
 intro a0 a1 a2 a3 a4 a5 a6 a7 a8 k
 unfold spec_arAsked.f
 repeat' first
   | (with_reducible exact spec_boSteps.mono _ _ _)
   | (with_reducible exact LeO.refl _)
   | (with_reducible exact LeO.none _)
   | (with_reducible refine LeO.ite ?_ ?_)
   | (with_reducible refine LeO.bind ?_ (fun _ => ?_))
   | exact spec_boSteps.mono _ _ _
   | exact LeO.none _
   | refine LeO.ite ?_ ?_
   | refine LeO.bind ?_ (fun _ => ?_)
set_option maxHeartbeats 8000000 in
set_option maxRecDepth 100000 in
theorem spec_arAsked.calls (k : Nat) (a0_0 : Int) (a0_1 : Int) (a0_2 : Bool) (a0_3 : Bool) (a1_0 : Int) (a1_1 : Int) (a2 : Int) (a3 : Int) (a4 : Int) (r : Bool) (w : World) (h : spec_arAsked.f k a0_0 a0_1 a0_2 a0_3 a1_0 a1_1 a2 a3 a4 = some r) :
  Calls Try.prog 80 #[.agg #[.int .i64 a0_0, .int .i64 a0_1, .bool a0_2, .bool a0_3], .agg #[.int .i64 a1_0, .int .i64 a1_1], .int .i64 a2, .int .i64 a3, .int .i64 a4] w fun e w' => e = .returned (.bool r) ∧ Below w.heap.size w w' := by
 have hu28 := Try.underlying28
 have hu30 := Try.underlying30
 have HB := zA (Below.refl w.heap.size w)
 have H : ((spec_arTwo.f a0_0 a0_1 a0_2 a0_3 a1_0 a1_1).bind fun t239 => (if t239 = true then ((spec_boSteps.f k a1_0 a1_1).bind fun t240 => ((spec_l1In.f a2 0 (wrap64 ((t240.length : Int) - 1))).bind fun t243 => (if t243 = true then ((spec_boSteps.f k a1_0 a1_1).bind fun t244 => ((spec_l1In.f a3 0 (wrap64 ((t244.length : Int) - 1))).bind fun t247 => (if t247 = true then ((spec_l1In.f a4 2 150).bind fun t248 => (some t248)) else (some false)))) else (some false)))) else (some false))) = some r := h
 clear h
 obtain ⟨t239, A6, H⟩ := zM H
 try dsimp only at H
 by_cases c7 : t239 = true
 ·subst c7
  have H1 : ((spec_boSteps.f k a1_0 a1_1).bind fun t240 => ((spec_l1In.f a2 0 (wrap64 ((t240.length : Int) - 1))).bind fun t243 => (if t243 = true then ((spec_boSteps.f k a1_0 a1_1).bind fun t244 => ((spec_l1In.f a3 0 (wrap64 ((t244.length : Int) - 1))).bind fun t247 => (if t247 = true then ((spec_l1In.f a4 2 150).bind fun t248 => (some t248)) else (some false)))) else (some false)))) = some r := by rw [if_pos rfl] at H; exact H
  clear H
  have H := H1
  clear H1
  obtain ⟨t240, A8, H⟩ := zM H
  try dsimp only at H
  obtain ⟨t243, A9, H⟩ := zM H
  try dsimp only at H
  by_cases c10 : t243 = true
  ·subst c10
   have H1 : ((spec_boSteps.f k a1_0 a1_1).bind fun t244 => ((spec_l1In.f a3 0 (wrap64 ((t244.length : Int) - 1))).bind fun t247 => (if t247 = true then ((spec_l1In.f a4 2 150).bind fun t248 => (some t248)) else (some false)))) = some r := by rw [if_pos rfl] at H; exact H
   clear H
   have H := H1
   clear H1
   obtain ⟨t244, A11, H⟩ := zM H
   try dsimp only at H
   obtain rfl : t240 = t244 := Option.some.inj (A8.out.symm.trans A11.out)
   obtain ⟨t247, A12, H⟩ := zM H
   try dsimp only at H
   by_cases c13 : t247 = true
   ·subst c13
    have H1 : ((spec_l1In.f a4 2 150).bind fun t248 => (some t248)) = some r := by rw [if_pos rfl] at H; exact H
    clear H
    have H := H1
    clear H1
    obtain ⟨t248, A14, H⟩ := zM H
    try dsimp only at H
    obtain rfl := Option.some.inj H
    go_enter Try.func80, Try.ntmps80
    go_wp2_with (first | ((with_reducible refine gate_dst (N := 5) rfl ?_); (try (refine gate_guard (by rfl) ?_; dsimp only)); refine box_event zr (N := 5) zr (cs := #[.int .i64 a0_0, .int .i64 a0_1, .bool a0_2, .bool a0_3]) (t := 28) zh ?_; intro gb237 hg w15 hbox hb; have BK237 := zA (hbox); have GW237 := zA (zG hg (below_size (zB0 HB)) : w.heap.size ≤ gb237); have GE237 := zA (zG hg (below_size (zB0 HB)) : w.heap.size ≤ gb237); replace HB := zA (below_step (zB0 HB) hb); clear hb hbox hg) | ((with_reducible refine gate_dst (N := 6) rfl ?_); (try (refine gate_guard (by rfl) ?_; dsimp only)); refine box_event zr (N := 6) zr (cs := #[.int .i64 a1_0, .int .i64 a1_1]) (t := 30) zh ?_; intro gb238 hg w16 hbox hb; have BK238 := zA (hbox); have GW238 := zA (zG hg (below_size (zB1 HB GE237)) : w.heap.size ≤ gb238); have GE238 := zA (zG hg (below_size (zB1 HB GE237)) : w.heap.size ≤ gb238); replace HB := zA (below_step (zB1 HB GE237) hb); have NB237_238 := zA (zNl hg BK237 : gb237 ≠ gb238); have NB238_237 := zA (zNg hg BK237 : gb238 ≠ gb237); replace BK237 := zKb BK237 hb; clear hb hbox hg; have hnb17 := NB237_238.out; have hnc17 := NB238_237.out; obtain ⟨z18_0, z18_1, z18_2, z18_3, y18_0, y18_1, y18_2, y18_3⟩ := zc4 BK237; obtain ⟨z19_0, z19_1, y19_0, y19_1⟩ := zc2 BK238) | ((with_reducible refine gate_callee (f := 61) rfl ?_); refine goesL_ (some 13) rfl rfl Try.func61 zn rfl #[.agg #[.int .i64 a0_0, .int .i64 a0_1, .bool a0_2, .bool a0_3], .agg #[.int .i64 a1_0, .int .i64 a1_1]] rfl zm ?_; (with_reducible refine (spec_arTwo.calls a0_0 a0_1 a0_2 a0_3 a1_0 a1_1 true _ A6.out).mono ?_); rintro e w20 ⟨rfl, hb⟩; refine ⟨_, rfl, ?_⟩; replace BK237 := zKb BK237 hb; replace BK238 := zKb BK238 hb; replace HB := zA (below_step (zB2 HB GE237 GE238) hb); (try clear hb); (try clear hb2); (try clear hk); (try clear hi); obtain ⟨z21_0, z21_1, y21_0, y21_1⟩ := zc2 BK238) | (go_at_call 62; (with_reducible refine (spec_boSteps.calls k a1_0 a1_1 t240 _ A8.out).mono ?_); rintro e w22 ⟨v241, rfl, ho0, hb⟩; have HO242 := zA (Kd.S_lower ho0 (below_size (zB2 HB GE237 GE238))); replace BK237 := zKb BK237 hb; replace BK238 := zKb BK238 hb; replace HB := zA (below_step (zB2 HB GE237 GE238) hb); (try clear hb); (try clear hb2); (try clear hk); (try clear hi); (try clear ho0); obtain ⟨Ao23, co23, eo23⟩ := Kd.S_slice HO242.out; subst eo23) | (go_at_call 77; (with_reducible refine (spec_l1In.calls a2 0 (wrap64 ((t240.length : Int) - 1)) true _ A9.out).mono ?_); rintro e w' ⟨rfl, ⟨nd, rfl⟩⟩; obtain ⟨z24_0, z24_1, y24_0, y24_1⟩ := zc2 BK238) | (go_at_call 62; (with_reducible refine (spec_boSteps.calls k a1_0 a1_1 t240 _ A11.out).mono ?_); rintro e w25 ⟨v245, rfl, ho0, hb⟩; have HO246 := zA (Kd.S_lower (Kd.S_new' ho0 (Kd.S_lt (zL HO242.out))) (below_size (zB2 HB GE237 GE238))); replace HO242 := zA (Kd.S_elder' (zL HO242.out) (Kd.S_base ho0) hb); replace BK237 := zKb BK237 hb; replace BK238 := zKb BK238 hb; replace HB := zA (below_step (zB2 HB GE237 GE238) hb); (try clear hb); (try clear hb2); (try clear hk); (try clear hi); (try clear ho0); obtain ⟨Ao26, co26, eo26⟩ := Kd.S_slice HO246.out; subst eo26) | (go_at_call 77; (with_reducible refine (spec_l1In.calls a3 0 (wrap64 ((t240.length : Int) - 1)) true _ A12.out).mono ?_); rintro e w' ⟨rfl, ⟨nd, rfl⟩⟩) | (go_at_call 77; (with_reducible refine (spec_l1In.calls a4 2 150 t248 _ A14.out).mono ?_); rintro e w' ⟨rfl, ⟨nd, rfl⟩⟩))
    go_ret
    exact ⟨zt, zB2 HB GE237 GE238⟩
   ·replace c13 := Bool.eq_false_iff.mpr c13
    subst c13
    have H1 : (some false) = some r := by rw [if_neg (show ¬ (false = true) by decide)] at H; exact H
    clear H
    have H := H1
    clear H1
    obtain rfl := Option.some.inj H
    go_enter Try.func80, Try.ntmps80
    go_wp2_with (first | ((with_reducible refine gate_dst (N := 5) rfl ?_); (try (refine gate_guard (by rfl) ?_; dsimp only)); refine box_event zr (N := 5) zr (cs := #[.int .i64 a0_0, .int .i64 a0_1, .bool a0_2, .bool a0_3]) (t := 28) zh ?_; intro gb237 hg w27 hbox hb; have BK237 := zA (hbox); have GW237 := zA (zG hg (below_size (zB0 HB)) : w.heap.size ≤ gb237); have GE237 := zA (zG hg (below_size (zB0 HB)) : w.heap.size ≤ gb237); replace HB := zA (below_step (zB0 HB) hb); clear hb hbox hg) | ((with_reducible refine gate_dst (N := 6) rfl ?_); (try (refine gate_guard (by rfl) ?_; dsimp only)); refine box_event zr (N := 6) zr (cs := #[.int .i64 a1_0, .int .i64 a1_1]) (t := 30) zh ?_; intro gb238 hg w28 hbox hb; have BK238 := zA (hbox); have GW238 := zA (zG hg (below_size (zB1 HB GE237)) : w.heap.size ≤ gb238); have GE238 := zA (zG hg (below_size (zB1 HB GE237)) : w.heap.size ≤ gb238); replace HB := zA (below_step (zB1 HB GE237) hb); have NB237_238 := zA (zNl hg BK237 : gb237 ≠ gb238); have NB238_237 := zA (zNg hg BK237 : gb238 ≠ gb237); replace BK237 := zKb BK237 hb; clear hb hbox hg; have hnb29 := NB237_238.out; have hnc29 := NB238_237.out; obtain ⟨z30_0, z30_1, z30_2, z30_3, y30_0, y30_1, y30_2, y30_3⟩ := zc4 BK237; obtain ⟨z31_0, z31_1, y31_0, y31_1⟩ := zc2 BK238) | ((with_reducible refine gate_callee (f := 61) rfl ?_); refine goesL_ (some 13) rfl rfl Try.func61 zn rfl #[.agg #[.int .i64 a0_0, .int .i64 a0_1, .bool a0_2, .bool a0_3], .agg #[.int .i64 a1_0, .int .i64 a1_1]] rfl zm ?_; (with_reducible refine (spec_arTwo.calls a0_0 a0_1 a0_2 a0_3 a1_0 a1_1 true _ A6.out).mono ?_); rintro e w32 ⟨rfl, hb⟩; refine ⟨_, rfl, ?_⟩; replace BK237 := zKb BK237 hb; replace BK238 := zKb BK238 hb; replace HB := zA (below_step (zB2 HB GE237 GE238) hb); (try clear hb); (try clear hb2); (try clear hk); (try clear hi); obtain ⟨z33_0, z33_1, y33_0, y33_1⟩ := zc2 BK238) | (go_at_call 62; (with_reducible refine (spec_boSteps.calls k a1_0 a1_1 t240 _ A8.out).mono ?_); rintro e w34 ⟨v241, rfl, ho0, hb⟩; have HO242 := zA (Kd.S_lower ho0 (below_size (zB2 HB GE237 GE238))); replace BK237 := zKb BK237 hb; replace BK238 := zKb BK238 hb; replace HB := zA (below_step (zB2 HB GE237 GE238) hb); (try clear hb); (try clear hb2); (try clear hk); (try clear hi); (try clear ho0); obtain ⟨Ao35, co35, eo35⟩ := Kd.S_slice HO242.out; subst eo35) | (go_at_call 77; (with_reducible refine (spec_l1In.calls a2 0 (wrap64 ((t240.length : Int) - 1)) true _ A9.out).mono ?_); rintro e w' ⟨rfl, ⟨nd, rfl⟩⟩; obtain ⟨z36_0, z36_1, y36_0, y36_1⟩ := zc2 BK238) | (go_at_call 62; (with_reducible refine (spec_boSteps.calls k a1_0 a1_1 t240 _ A11.out).mono ?_); rintro e w37 ⟨v245, rfl, ho0, hb⟩; have HO246 := zA (Kd.S_lower (Kd.S_new' ho0 (Kd.S_lt (zL HO242.out))) (below_size (zB2 HB GE237 GE238))); replace HO242 := zA (Kd.S_elder' (zL HO242.out) (Kd.S_base ho0) hb); replace BK237 := zKb BK237 hb; replace BK238 := zKb BK238 hb; replace HB := zA (below_step (zB2 HB GE237 GE238) hb); (try clear hb); (try clear hb2); (try clear hk); (try clear hi); (try clear ho0); obtain ⟨Ao38, co38, eo38⟩ := Kd.S_slice HO246.out; subst eo38) | (go_at_call 77; (with_reducible refine (spec_l1In.calls a3 0 (wrap64 ((t240.length : Int) - 1)) false _ A12.out).mono ?_); rintro e w' ⟨rfl, ⟨nd, rfl⟩⟩))
    go_ret
    exact ⟨zt, zB2 HB GE237 GE238⟩
  ·replace c10 := Bool.eq_false_iff.mpr c10
   subst c10
   have H1 : (some false) = some r := by rw [if_neg (show ¬ (false = true) by decide)] at H; exact H
   clear H
   have H := H1
   clear H1
   obtain rfl := Option.some.inj H
   go_enter Try.func80, Try.ntmps80
   go_wp2_with (first | ((with_reducible refine gate_dst (N := 5) rfl ?_); (try (refine gate_guard (by rfl) ?_; dsimp only)); refine box_event zr (N := 5) zr (cs := #[.int .i64 a0_0, .int .i64 a0_1, .bool a0_2, .bool a0_3]) (t := 28) zh ?_; intro gb237 hg w39 hbox hb; have BK237 := zA (hbox); have GW237 := zA (zG hg (below_size (zB0 HB)) : w.heap.size ≤ gb237); have GE237 := zA (zG hg (below_size (zB0 HB)) : w.heap.size ≤ gb237); replace HB := zA (below_step (zB0 HB) hb); clear hb hbox hg) | ((with_reducible refine gate_dst (N := 6) rfl ?_); (try (refine gate_guard (by rfl) ?_; dsimp only)); refine box_event zr (N := 6) zr (cs := #[.int .i64 a1_0, .int .i64 a1_1]) (t := 30) zh ?_; intro gb238 hg w40 hbox hb; have BK238 := zA (hbox); have GW238 := zA (zG hg (below_size (zB1 HB GE237)) : w.heap.size ≤ gb238); have GE238 := zA (zG hg (below_size (zB1 HB GE237)) : w.heap.size ≤ gb238); replace HB := zA (below_step (zB1 HB GE237) hb); have NB237_238 := zA (zNl hg BK237 : gb237 ≠ gb238); have NB238_237 := zA (zNg hg BK237 : gb238 ≠ gb237); replace BK237 := zKb BK237 hb; clear hb hbox hg; have hnb41 := NB237_238.out; have hnc41 := NB238_237.out; obtain ⟨z42_0, z42_1, z42_2, z42_3, y42_0, y42_1, y42_2, y42_3⟩ := zc4 BK237; obtain ⟨z43_0, z43_1, y43_0, y43_1⟩ := zc2 BK238) | ((with_reducible refine gate_callee (f := 61) rfl ?_); refine goesL_ (some 13) rfl rfl Try.func61 zn rfl #[.agg #[.int .i64 a0_0, .int .i64 a0_1, .bool a0_2, .bool a0_3], .agg #[.int .i64 a1_0, .int .i64 a1_1]] rfl zm ?_; (with_reducible refine (spec_arTwo.calls a0_0 a0_1 a0_2 a0_3 a1_0 a1_1 true _ A6.out).mono ?_); rintro e w44 ⟨rfl, hb⟩; refine ⟨_, rfl, ?_⟩; replace BK237 := zKb BK237 hb; replace BK238 := zKb BK238 hb; replace HB := zA (below_step (zB2 HB GE237 GE238) hb); (try clear hb); (try clear hb2); (try clear hk); (try clear hi); obtain ⟨z45_0, z45_1, y45_0, y45_1⟩ := zc2 BK238) | (go_at_call 62; (with_reducible refine (spec_boSteps.calls k a1_0 a1_1 t240 _ A8.out).mono ?_); rintro e w46 ⟨v241, rfl, ho0, hb⟩; have HO242 := zA (Kd.S_lower ho0 (below_size (zB2 HB GE237 GE238))); replace BK237 := zKb BK237 hb; replace BK238 := zKb BK238 hb; replace HB := zA (below_step (zB2 HB GE237 GE238) hb); (try clear hb); (try clear hb2); (try clear hk); (try clear hi); (try clear ho0); obtain ⟨Ao47, co47, eo47⟩ := Kd.S_slice HO242.out; subst eo47) | (go_at_call 77; (with_reducible refine (spec_l1In.calls a2 0 (wrap64 ((t240.length : Int) - 1)) false _ A9.out).mono ?_); rintro e w' ⟨rfl, ⟨nd, rfl⟩⟩))
   go_ret
   exact ⟨zt, zB2 HB GE237 GE238⟩
 ·replace c7 := Bool.eq_false_iff.mpr c7
  subst c7
  have H1 : (some false) = some r := by rw [if_neg (show ¬ (false = true) by decide)] at H; exact H
  clear H
  have H := H1
  clear H1
  obtain rfl := Option.some.inj H
  go_enter Try.func80, Try.ntmps80
  go_wp2_with (first | ((with_reducible refine gate_dst (N := 5) rfl ?_); (try (refine gate_guard (by rfl) ?_; dsimp only)); refine box_event zr (N := 5) zr (cs := #[.int .i64 a0_0, .int .i64 a0_1, .bool a0_2, .bool a0_3]) (t := 28) zh ?_; intro gb237 hg w48 hbox hb; have BK237 := zA (hbox); have GW237 := zA (zG hg (below_size (zB0 HB)) : w.heap.size ≤ gb237); have GE237 := zA (zG hg (below_size (zB0 HB)) : w.heap.size ≤ gb237); replace HB := zA (below_step (zB0 HB) hb); clear hb hbox hg) | ((with_reducible refine gate_dst (N := 6) rfl ?_); (try (refine gate_guard (by rfl) ?_; dsimp only)); refine box_event zr (N := 6) zr (cs := #[.int .i64 a1_0, .int .i64 a1_1]) (t := 30) zh ?_; intro gb238 hg w49 hbox hb; have BK238 := zA (hbox); have GW238 := zA (zG hg (below_size (zB1 HB GE237)) : w.heap.size ≤ gb238); have GE238 := zA (zG hg (below_size (zB1 HB GE237)) : w.heap.size ≤ gb238); replace HB := zA (below_step (zB1 HB GE237) hb); have NB237_238 := zA (zNl hg BK237 : gb237 ≠ gb238); have NB238_237 := zA (zNg hg BK237 : gb238 ≠ gb237); replace BK237 := zKb BK237 hb; clear hb hbox hg; have hnb50 := NB237_238.out; have hnc50 := NB238_237.out; obtain ⟨z51_0, z51_1, z51_2, z51_3, y51_0, y51_1, y51_2, y51_3⟩ := zc4 BK237; obtain ⟨z52_0, z52_1, y52_0, y52_1⟩ := zc2 BK238) | ((with_reducible refine gate_callee (f := 61) rfl ?_); refine goesL_ (some 13) rfl rfl Try.func61 zn rfl #[.agg #[.int .i64 a0_0, .int .i64 a0_1, .bool a0_2, .bool a0_3], .agg #[.int .i64 a1_0, .int .i64 a1_1]] rfl zm ?_; (with_reducible refine (spec_arTwo.calls a0_0 a0_1 a0_2 a0_3 a1_0 a1_1 false _ A6.out).mono ?_); rintro e w53 ⟨rfl, hb⟩; refine ⟨_, rfl, ?_⟩; replace BK237 := zKb BK237 hb; replace BK238 := zKb BK238 hb; replace HB := zA (below_step (zB2 HB GE237 GE238) hb); (try clear hb); (try clear hb2); (try clear hk); (try clear hi)))
  go_ret
  exact ⟨zt, zB2 HB GE237 GE238⟩
def spec_TwoSteps.f (k : Nat) (a0_0 : Int) (a0_1 : Int) (a0_2 : Bool) (a0_3 : Bool) (a1_0 : Int) (a1_1 : Int) (a2 : Int) (a3 : Int) (a4 : Int) : Option (List Int × Bool) := (spec_arAsked.f k a0_0 a0_1 a0_2 a0_3 a1_0 a1_1 a2 a3 a4).bind fun t251 => (if t251 = true then ((spec_arTurns.f k a0_0 a0_1 a0_2 a0_3 a1_0 a1_1 a2 a3 a4).bind fun t252 => (some (t252, true))) else (some (([] : List Int), false)))
theorem spec_TwoSteps.mono : ∀ a0 a1 a2 a3 a4 a5 a6 a7 a8 k, LeO (spec_TwoSteps.f k a0 a1 a2 a3 a4 a5 a6 a7 a8) (spec_TwoSteps.f (k + 1) a0 a1 a2 a3 a4 a5 a6 a7 a8) := by
 intro a0 a1 a2 a3 a4 a5 a6 a7 a8 k
 unfold spec_TwoSteps.f
 repeat' first
   | (with_reducible exact spec_arAsked.mono _ _ _ _ _ _ _ _ _ _)
   | (with_reducible exact spec_arTurns.mono _ _ _ _ _ _ _ _ _ _)
   | (with_reducible exact LeO.refl _)
   | (with_reducible exact LeO.none _)
   | (with_reducible refine LeO.ite ?_ ?_)
   | (with_reducible refine LeO.bind ?_ (fun _ => ?_))
   | exact spec_arAsked.mono _ _ _ _ _ _ _ _ _ _
   | exact spec_arTurns.mono _ _ _ _ _ _ _ _ _ _
   | exact LeO.none _
   | refine LeO.ite ?_ ?_
   | refine LeO.bind ?_ (fun _ => ?_)
set_option maxHeartbeats 8000000 in
set_option maxRecDepth 100000 in
theorem spec_TwoSteps.calls (k : Nat) (a0_0 : Int) (a0_1 : Int) (a0_2 : Bool) (a0_3 : Bool) (a1_0 : Int) (a1_1 : Int) (a2 : Int) (a3 : Int) (a4 : Int) (r1 : List Int) (r2 : Bool) (w : World) (h : spec_TwoSteps.f k a0_0 a0_1 a0_2 a0_3 a1_0 a1_1 a2 a3 a4 = some (r1, r2)) :
  Calls Try.prog 34 #[.agg #[.int .i64 a0_0, .int .i64 a0_1, .bool a0_2, .bool a0_3], .agg #[.int .i64 a1_0, .int .i64 a1_1], .int .i64 a2, .int .i64 a3, .int .i64 a4] w fun e w' => ∃ v0_ : Value, e = .returned (.tuple #[v0_, .bool r2]) ∧ Kd.R (Kd.int .i64) 3 w' w.heap.size (fun _ => True) v0_ r1 ∧ Below w.heap.size w w' := by
 have hu28 := Try.underlying28
 have hu30 := Try.underlying30
 have HB := zA (Below.refl w.heap.size w)
 have H : ((spec_arAsked.f k a0_0 a0_1 a0_2 a0_3 a1_0 a1_1 a2 a3 a4).bind fun t251 => (if t251 = true then ((spec_arTurns.f k a0_0 a0_1 a0_2 a0_3 a1_0 a1_1 a2 a3 a4).bind fun t252 => (some (t252, true))) else (some (([] : List Int), false)))) = some (r1, r2) := h
 clear h
 obtain ⟨t251, A6, H⟩ := zM H
 try dsimp only at H
 by_cases c7 : t251 = true
 ·subst c7
  have H1 : ((spec_arTurns.f k a0_0 a0_1 a0_2 a0_3 a1_0 a1_1 a2 a3 a4).bind fun t252 => (some (t252, true))) = some (r1, r2) := by rw [if_pos rfl] at H; exact H
  clear H
  have H := H1
  clear H1
  obtain ⟨t252, A8, H⟩ := zM H
  try dsimp only at H
  simp only [Option.some.injEq, Prod.mk.injEq] at H
  obtain ⟨rfl, rfl⟩ := H
  go_enter Try.func34, Try.ntmps34
  go_wp2_with (first | ((with_reducible refine gate_dst (N := 5) rfl ?_); refine box_event zr (N := 5) zr (cs := #[.int .i64 a0_0, .int .i64 a0_1, .bool a0_2, .bool a0_3]) (t := 28) zh ?_; intro gb249 hg w9 hbox hb; have BK249 := zA (hbox); have GW249 := zA (zG hg (below_size (zB0 HB)) : w.heap.size ≤ gb249); have GE249 := zA (zG hg (below_size (zB0 HB)) : w.heap.size ≤ gb249); replace HB := zA (below_step (zB0 HB) hb); clear hb hbox hg) | ((with_reducible refine gate_dst (N := 6) rfl ?_); refine box_event zr (N := 6) zr (cs := #[.int .i64 a1_0, .int .i64 a1_1]) (t := 30) zh ?_; intro gb250 hg w10 hbox hb; have BK250 := zA (hbox); have GW250 := zA (zG hg (below_size (zB1 HB GE249)) : w.heap.size ≤ gb250); have GE250 := zA (zG hg (below_size (zB1 HB GE249)) : w.heap.size ≤ gb250); replace HB := zA (below_step (zB1 HB GE249) hb); have NB249_250 := zA (zNl hg BK249 : gb249 ≠ gb250); have NB250_249 := zA (zNg hg BK249 : gb250 ≠ gb249); replace BK249 := zKb BK249 hb; clear hb hbox hg; have hnb11 := NB249_250.out; have hnc11 := NB250_249.out; obtain ⟨z12_0, z12_1, z12_2, z12_3, y12_0, y12_1, y12_2, y12_3⟩ := zc4 BK249; obtain ⟨z13_0, z13_1, y13_0, y13_1⟩ := zc2 BK250) | ((with_reducible refine gate_callee (f := 80) rfl ?_); refine goesL_ (some 17) rfl rfl Try.func80 zn rfl #[.agg #[.int .i64 a0_0, .int .i64 a0_1, .bool a0_2, .bool a0_3], .agg #[.int .i64 a1_0, .int .i64 a1_1], .int .i64 a2, .int .i64 a3, .int .i64 a4] rfl zm ?_; (with_reducible refine (spec_arAsked.calls k a0_0 a0_1 a0_2 a0_3 a1_0 a1_1 a2 a3 a4 true _ A6.out).mono ?_); rintro e w14 ⟨rfl, hb⟩; refine ⟨_, rfl, ?_⟩; replace BK249 := zKb BK249 hb; replace BK250 := zKb BK250 hb; replace HB := zA (below_step (zB2 HB GE249 GE250) hb); (try clear hb); (try clear hb2); (try clear hk); (try clear hi); obtain ⟨z15_0, z15_1, z15_2, z15_3, y15_0, y15_1, y15_2, y15_3⟩ := zc4 BK249; obtain ⟨z16_0, z16_1, y16_0, y16_1⟩ := zc2 BK250) | ((with_reducible refine gate_callee (f := 63) rfl ?_); refine goesL_ (some 24) rfl rfl Try.func63 zn rfl #[.agg #[.int .i64 a0_0, .int .i64 a0_1, .bool a0_2, .bool a0_3], .agg #[.int .i64 a1_0, .int .i64 a1_1], .int .i64 a2, .int .i64 a3, .int .i64 a4] rfl zm ?_; (with_reducible refine (spec_arTurns.calls k a0_0 a0_1 a0_2 a0_3 a1_0 a1_1 a2 a3 a4 t252 _ A8.out).mono ?_); rintro e w17 ⟨v253, rfl, ho0, hb⟩; refine ⟨_, rfl, ?_⟩; have HO254 := zA (Kd.R_lower ho0 (below_size (zB2 HB GE249 GE250))); replace BK249 := zKb BK249 hb; replace BK250 := zKb BK250 hb; replace HB := zA (below_step (zB2 HB GE249 GE250) hb); (try clear hb); (try clear hb2); (try clear hk); (try clear hi); (try clear ho0)))
  go_ret2
  exact ⟨_, zt, by (with_reducible repeat (first | apply Kd.R_alloc | apply Kd.R_drewN | apply Kd.R_drew)); exact HO254.out, zB2 HB GE249 GE250⟩
 ·replace c7 := Bool.eq_false_iff.mpr c7
  subst c7
  have H1 : (some (([] : List Int), false)) = some (r1, r2) := by rw [if_neg (show ¬ (false = true) by decide)] at H; exact H
  clear H
  have H := H1
  clear H1
  simp only [Option.some.injEq, Prod.mk.injEq] at H
  obtain ⟨rfl, rfl⟩ := H
  go_enter Try.func34, Try.ntmps34
  go_wp2_with (first | ((with_reducible refine gate_dst (N := 5) rfl ?_); refine box_event zr (N := 5) zr (cs := #[.int .i64 a0_0, .int .i64 a0_1, .bool a0_2, .bool a0_3]) (t := 28) zh ?_; intro gb249 hg w18 hbox hb; have BK249 := zA (hbox); have GW249 := zA (zG hg (below_size (zB0 HB)) : w.heap.size ≤ gb249); have GE249 := zA (zG hg (below_size (zB0 HB)) : w.heap.size ≤ gb249); replace HB := zA (below_step (zB0 HB) hb); clear hb hbox hg) | ((with_reducible refine gate_dst (N := 6) rfl ?_); refine box_event zr (N := 6) zr (cs := #[.int .i64 a1_0, .int .i64 a1_1]) (t := 30) zh ?_; intro gb250 hg w19 hbox hb; have BK250 := zA (hbox); have GW250 := zA (zG hg (below_size (zB1 HB GE249)) : w.heap.size ≤ gb250); have GE250 := zA (zG hg (below_size (zB1 HB GE249)) : w.heap.size ≤ gb250); replace HB := zA (below_step (zB1 HB GE249) hb); have NB249_250 := zA (zNl hg BK249 : gb249 ≠ gb250); have NB250_249 := zA (zNg hg BK249 : gb250 ≠ gb249); replace BK249 := zKb BK249 hb; clear hb hbox hg; have hnb20 := NB249_250.out; have hnc20 := NB250_249.out; obtain ⟨z21_0, z21_1, z21_2, z21_3, y21_0, y21_1, y21_2, y21_3⟩ := zc4 BK249; obtain ⟨z22_0, z22_1, y22_0, y22_1⟩ := zc2 BK250) | ((with_reducible refine gate_callee (f := 80) rfl ?_); refine goesL_ (some 17) rfl rfl Try.func80 zn rfl #[.agg #[.int .i64 a0_0, .int .i64 a0_1, .bool a0_2, .bool a0_3], .agg #[.int .i64 a1_0, .int .i64 a1_1], .int .i64 a2, .int .i64 a3, .int .i64 a4] rfl zm ?_; (with_reducible refine (spec_arAsked.calls k a0_0 a0_1 a0_2 a0_3 a1_0 a1_1 a2 a3 a4 false _ A6.out).mono ?_); rintro e w23 ⟨rfl, hb⟩; refine ⟨_, rfl, ?_⟩; replace BK249 := zKb BK249 hb; replace BK250 := zKb BK250 hb; replace HB := zA (below_step (zB2 HB GE249 GE250) hb); (try clear hb); (try clear hb2); (try clear hk); (try clear hi)))
  go_ret2
  exact ⟨_, zt, by first | exact Kd.R_nil _ _ _ _ _ | exact Kd.N_nil _ _ _ _ _ | exact Kd.V_nil _ _ _ _ _ | exact Kd.Q_nil _ _ _ _ _ | exact Kd.S_nil _ _ _ _ _, zB2 HB GE249 GE250⟩
end Go.Proofs.Ytogkcfddoiloeaa.PFnOrbitsShare
