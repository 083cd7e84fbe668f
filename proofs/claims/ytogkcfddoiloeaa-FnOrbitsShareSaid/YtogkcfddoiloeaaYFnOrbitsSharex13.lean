/- The walk. -/
import Derived.Test.YtogkcfddoiloeaaYFnOrbitsSharex12
namespace Go.Proofs.Ytogkcfddoiloeaa.PFnOrbitsShare
open Go.RowKit Go.Proofs.YtogkcfddoiloeaaW.PrintWords Go.Proofs.YtogkcfddoiloeaaW.PrintLast Go.Proofs.YtogkcfddoiloeaaW.PrintMore
attribute [local go_sem] max2_int min2_int max_two min_two max_three min_three max_four min_four
set_option linter.unusedVariables false
set_option linter.unusedSimpArgs false
def laws_FnOrbitsShare.T50 : Bool × List (List Nat × List Nat) := (true, [([], []), ([], []), ([], []), ([2], [2]), ([1, 3], [1, 3]), ([4], [4]), ([], []), ([6], [6]), ([7], [7]), ([], []), ([9], [9]), ([10], [10]), ([0, 5, 8, 11], [0, 5, 8, 11]), ([12], [12]), ([13], [13]), ([13], [13]), ([14, 12, 0, 1, 2, 3, 4, 5, 6, 7, 8, 9, 10, 11, 12, 13, 14], [14]), ([15, 16, 0, 1, 2, 3, 4, 5, 6, 7, 8, 9, 10, 11, 12, 13, 14, 15, 16], [15])])
def laws_FnOrbitsShare.B50 : List Nat := [0, 0, 0, 4, 14, 30, 0, 64, 192, 0, 512, 1536, 4095, 8191, 16383, 16383, 32767, 131071]
theorem laws_FnOrbitsShare.tab50 : rtab .any (opsOf Try.f14 50) = laws_FnOrbitsShare.T50 := by kernel_rfl
theorem laws_FnOrbitsShare.bits50 : waitsOk laws_FnOrbitsShare.T50.2 laws_FnOrbitsShare.B50 = true := by kernel_rfl
set_option maxHeartbeats 80000000 in
set_option maxRecDepth 100000 in
theorem laws_FnOrbitsShare.calls (k : Nat) (A0 : Option Addr) (c0 : Nat) (l0 : List Int) (A1 : Option Addr) (c1 : Nat) (l1 : List Int) (r : Bool) (w : World) (hr0 : Kd.C (Kd.int .u8) w A0 l0.length l0) (hc0 : l0.length ≤ c0) (hr1 : Kd.C (Kd.int .u8) w A1 l1.length l1) (hc1 : l1.length ≤ c1) (h : laws_FnOrbitsShare.f k l0 l1 = some r) :
  Calls Try.prog 14 #[.slice A0 l0.length c0, .slice A1 l1.length c1] w fun e w' => e = .returned (.bool r) ∧ Below w.heap.size w w' := by
 have hu28 := Try.underlying28
 have hu30 := Try.underlying30
 have HR0 := zA hr0
 have HC0 := zA hc0
 clear hr0 hc0
 have HR1 := zA hr1
 have HC1 := zA hc1
 clear hr1 hc1
 have HB := zA (Below.refl w.heap.size w)
 have H : ((laws_big.f l0 l1).bind fun t475 => (if t475 = true then (some true) else ((spec_DrawOrbitOf.f l0).bind fun bt476 => ((impl_OrbitOf.f k bt476.1 bt476.2.1 bt476.2.2.1 bt476.2.2.2.1 bt476.2.2.2.2.1 bt476.2.2.2.2.2.1 bt476.2.2.2.2.2.2).bind fun bt484 => ((spec_OrbitOf.f k bt476.1 bt476.2.1 bt476.2.2.1 bt476.2.2.2.1 bt476.2.2.2.2.1 bt476.2.2.2.2.2.1 bt476.2.2.2.2.2.2).bind fun bt488 => ((impl_OrbitLength.f k bt476.1 bt476.2.1 bt476.2.2.1 bt476.2.2.2.1 bt476.2.2.2.2.2.1 bt476.2.2.2.2.2.2).bind fun bt492 => ((spec_OrbitLength.f k bt476.1 bt476.2.1 bt476.2.2.1 bt476.2.2.2.1 bt476.2.2.2.2.2.1 bt476.2.2.2.2.2.2).bind fun bt494 => ((impl_CountOrbits.f k bt476.1 bt476.2.1 bt476.2.2.1 bt476.2.2.2.1 bt476.2.2.2.2.2.1 bt476.2.2.2.2.2.2).bind fun bt496 => ((spec_CountOrbits.f k bt476.1 bt476.2.1 bt476.2.2.1 bt476.2.2.2.1 bt476.2.2.2.2.2.1 bt476.2.2.2.2.2.2).bind fun bt498 => (if (bt484.2 != bt488.2) = true then (laws_FnOrbitsShare.j0 k l1 bt476.2.2.2.2.1 bt476.2.2.2.2.2.1 bt476.2.2.2.2.2.2 bt484.1 bt484.2 bt492.1 bt492.2 bt496.1 true bt476.1 bt476.2.1 bt476.2.2.1 bt476.2.2.2.1) else ((laws_nSame.f k bt484.1 bt488.1).bind fun t500 => (if t500 = true then (if (bt492.2 != bt494.2) = true then (laws_FnOrbitsShare.j0 k l1 bt476.2.2.2.2.1 bt476.2.2.2.2.2.1 bt476.2.2.2.2.2.2 bt484.1 bt484.2 bt492.1 bt492.2 bt496.1 true bt476.1 bt476.2.1 bt476.2.2.1 bt476.2.2.2.1) else (if bt492.1 = bt494.1 then (if (bt496.2 != bt498.2) = true then (laws_FnOrbitsShare.j0 k l1 bt476.2.2.2.2.1 bt476.2.2.2.2.2.1 bt476.2.2.2.2.2.2 bt484.1 bt484.2 bt492.1 bt492.2 bt496.1 true bt476.1 bt476.2.1 bt476.2.2.1 bt476.2.2.2.1) else (if bt496.1 = bt498.1 then (if (bt496.2 != bt492.2) = true then (laws_FnOrbitsShare.j0 k l1 bt476.2.2.2.2.1 bt476.2.2.2.2.2.1 bt476.2.2.2.2.2.2 bt484.1 bt484.2 bt492.1 bt492.2 bt496.1 true bt476.1 bt476.2.1 bt476.2.2.1 bt476.2.2.2.1) else (if bt484.2 = true then (laws_FnOrbitsShare.j0 k l1 bt476.2.2.2.2.1 bt476.2.2.2.2.2.1 bt476.2.2.2.2.2.2 bt484.1 bt484.2 bt492.1 bt492.2 bt496.1 (!bt492.2) bt476.1 bt476.2.1 bt476.2.2.1 bt476.2.2.2.1) else (laws_FnOrbitsShare.j0 k l1 bt476.2.2.2.2.1 bt476.2.2.2.2.2.1 bt476.2.2.2.2.2.2 bt484.1 bt484.2 bt492.1 bt492.2 bt496.1 false bt476.1 bt476.2.1 bt476.2.2.1 bt476.2.2.2.1))) else (laws_FnOrbitsShare.j0 k l1 bt476.2.2.2.2.1 bt476.2.2.2.2.2.1 bt476.2.2.2.2.2.2 bt484.1 bt484.2 bt492.1 bt492.2 bt496.1 true bt476.1 bt476.2.1 bt476.2.2.1 bt476.2.2.2.1))) else (laws_FnOrbitsShare.j0 k l1 bt476.2.2.2.2.1 bt476.2.2.2.2.2.1 bt476.2.2.2.2.2.2 bt484.1 bt484.2 bt492.1 bt492.2 bt496.1 true bt476.1 bt476.2.1 bt476.2.2.1 bt476.2.2.2.1))) else (laws_FnOrbitsShare.j0 k l1 bt476.2.2.2.2.1 bt476.2.2.2.2.2.1 bt476.2.2.2.2.2.2 bt484.1 bt484.2 bt492.1 bt492.2 bt496.1 true bt476.1 bt476.2.1 bt476.2.2.1 bt476.2.2.2.1))))))))))))) = some r := h
 clear h
 obtain ⟨t475, A3, H⟩ := zM H
 try dsimp only at H
 by_cases c4 : t475 = true
 ·subst c4
  have H1 : (some true) = some r := by rw [if_pos rfl] at H; exact H
  clear H
  have H := H1
  clear H1
  obtain rfl := Option.some.inj H
  go_enter Try.func14, Try.ntmps14
  go_wp2_with (first | ((with_reducible refine gate_callee (f := 57) rfl ?_); refine goesL_ (some 59) rfl rfl Try.func57 zn rfl #[.slice A0 l0.length c0, .slice A1 l1.length c1] rfl zm ?_; (with_reducible refine (laws_big.calls _ _ l0 _ _ l1 true _ ?side1 ?side2 ?side3 ?side4 A3.out).mono ?_); (case side1 => exact zC HR0.out); (case side2 => exact HC0.out); (case side3 => exact zC HR1.out); (case side4 => exact HC1.out); rintro e w' ⟨rfl, ⟨nd, rfl⟩⟩; refine ⟨_, rfl, ?_⟩))
  go_ret
  exact ⟨zt, zB0 HB⟩
 ·replace c4 := Bool.eq_false_iff.mpr c4
  subst c4
  have H1 : ((spec_DrawOrbitOf.f l0).bind fun bt476 => ((impl_OrbitOf.f k bt476.1 bt476.2.1 bt476.2.2.1 bt476.2.2.2.1 bt476.2.2.2.2.1 bt476.2.2.2.2.2.1 bt476.2.2.2.2.2.2).bind fun bt484 => ((spec_OrbitOf.f k bt476.1 bt476.2.1 bt476.2.2.1 bt476.2.2.2.1 bt476.2.2.2.2.1 bt476.2.2.2.2.2.1 bt476.2.2.2.2.2.2).bind fun bt488 => ((impl_OrbitLength.f k bt476.1 bt476.2.1 bt476.2.2.1 bt476.2.2.2.1 bt476.2.2.2.2.2.1 bt476.2.2.2.2.2.2).bind fun bt492 => ((spec_OrbitLength.f k bt476.1 bt476.2.1 bt476.2.2.1 bt476.2.2.2.1 bt476.2.2.2.2.2.1 bt476.2.2.2.2.2.2).bind fun bt494 => ((impl_CountOrbits.f k bt476.1 bt476.2.1 bt476.2.2.1 bt476.2.2.2.1 bt476.2.2.2.2.2.1 bt476.2.2.2.2.2.2).bind fun bt496 => ((spec_CountOrbits.f k bt476.1 bt476.2.1 bt476.2.2.1 bt476.2.2.2.1 bt476.2.2.2.2.2.1 bt476.2.2.2.2.2.2).bind fun bt498 => (if (bt484.2 != bt488.2) = true then (laws_FnOrbitsShare.j0 k l1 bt476.2.2.2.2.1 bt476.2.2.2.2.2.1 bt476.2.2.2.2.2.2 bt484.1 bt484.2 bt492.1 bt492.2 bt496.1 true bt476.1 bt476.2.1 bt476.2.2.1 bt476.2.2.2.1) else ((laws_nSame.f k bt484.1 bt488.1).bind fun t500 => (if t500 = true then (if (bt492.2 != bt494.2) = true then (laws_FnOrbitsShare.j0 k l1 bt476.2.2.2.2.1 bt476.2.2.2.2.2.1 bt476.2.2.2.2.2.2 bt484.1 bt484.2 bt492.1 bt492.2 bt496.1 true bt476.1 bt476.2.1 bt476.2.2.1 bt476.2.2.2.1) else (if bt492.1 = bt494.1 then (if (bt496.2 != bt498.2) = true then (laws_FnOrbitsShare.j0 k l1 bt476.2.2.2.2.1 bt476.2.2.2.2.2.1 bt476.2.2.2.2.2.2 bt484.1 bt484.2 bt492.1 bt492.2 bt496.1 true bt476.1 bt476.2.1 bt476.2.2.1 bt476.2.2.2.1) else (if bt496.1 = bt498.1 then (if (bt496.2 != bt492.2) = true then (laws_FnOrbitsShare.j0 k l1 bt476.2.2.2.2.1 bt476.2.2.2.2.2.1 bt476.2.2.2.2.2.2 bt484.1 bt484.2 bt492.1 bt492.2 bt496.1 true bt476.1 bt476.2.1 bt476.2.2.1 bt476.2.2.2.1) else (if bt484.2 = true then (laws_FnOrbitsShare.j0 k l1 bt476.2.2.2.2.1 bt476.2.2.2.2.2.1 bt476.2.2.2.2.2.2 bt484.1 bt484.2 bt492.1 bt492.2 bt496.1 (!bt492.2) bt476.1 bt476.2.1 bt476.2.2.1 bt476.2.2.2.1) else (laws_FnOrbitsShare.j0 k l1 bt476.2.2.2.2.1 bt476.2.2.2.2.2.1 bt476.2.2.2.2.2.2 bt484.1 bt484.2 bt492.1 bt492.2 bt496.1 false bt476.1 bt476.2.1 bt476.2.2.1 bt476.2.2.2.1))) else (laws_FnOrbitsShare.j0 k l1 bt476.2.2.2.2.1 bt476.2.2.2.2.2.1 bt476.2.2.2.2.2.2 bt484.1 bt484.2 bt492.1 bt492.2 bt496.1 true bt476.1 bt476.2.1 bt476.2.2.1 bt476.2.2.2.1))) else (laws_FnOrbitsShare.j0 k l1 bt476.2.2.2.2.1 bt476.2.2.2.2.2.1 bt476.2.2.2.2.2.2 bt484.1 bt484.2 bt492.1 bt492.2 bt496.1 true bt476.1 bt476.2.1 bt476.2.2.1 bt476.2.2.2.1))) else (laws_FnOrbitsShare.j0 k l1 bt476.2.2.2.2.1 bt476.2.2.2.2.2.1 bt476.2.2.2.2.2.2 bt484.1 bt484.2 bt492.1 bt492.2 bt496.1 true bt476.1 bt476.2.1 bt476.2.2.1 bt476.2.2.2.1))))))))))) = some r := by rw [if_neg (show ¬ (false = true) by decide)] at H; exact H
  clear H
  have H := H1
  clear H1
  obtain ⟨⟨t476, t477, t478, t479, t480, t481, t482⟩, A5, H⟩ := zM H
  try dsimp only at H
  obtain ⟨⟨t484, t487⟩, A6, H⟩ := zM H
  try dsimp only at H
  obtain ⟨⟨t488, t491⟩, A7, H⟩ := zM H
  try dsimp only at H
  obtain ⟨⟨t492, t493⟩, A8, H⟩ := zM H
  try dsimp only at H
  obtain ⟨⟨t494, t495⟩, A9, H⟩ := zM H
  try dsimp only at H
  obtain ⟨⟨t496, t497⟩, A10, H⟩ := zM H
  try dsimp only at H
  obtain ⟨⟨t498, t499⟩, A11, H⟩ := zM H
  try dsimp only at H
  have HC12 := zA H
  clear H
  go_enter Try.func14, Try.ntmps14
  go_upto_region 10 with (first | ((with_reducible refine gate_callee (f := 57) rfl ?_); refine goesL_ (some 59) rfl rfl Try.func57 zn rfl #[.slice A0 l0.length c0, .slice A1 l1.length c1] rfl zm ?_; (with_reducible refine (laws_big.calls _ _ l0 _ _ l1 false _ ?side1 ?side2 ?side3 ?side4 A3.out).mono ?_); (case side1 => exact zC HR0.out); (case side2 => exact HC0.out); (case side3 => exact zC HR1.out); (case side4 => exact HC1.out); rintro e w' ⟨rfl, ⟨nd, rfl⟩⟩; refine ⟨_, rfl, ?_⟩) | ((with_reducible refine gate_callee (f := 58) rfl ?_); refine goesL_ (some 62) rfl rfl Try.func58 zn rfl #[.slice A0 l0.length c0] rfl zm ?_; (with_reducible refine (spec_DrawOrbitOf.calls _ _ l0 t476 t477 t478 t479 t480 t481 t482 _ ?side1 ?side2 A5.out).mono ?_); (case side1 => exact zC HR0.out); (case side2 => exact HC0.out); rintro e w13 ⟨rfl, hb⟩; refine ⟨_, rfl, ?_⟩; replace HB := zA (below_step (zB0 HB) hb); (try clear hb); (try clear hb2); (try clear hk); (try clear hi)) | ((with_reducible refine gate_dst (N := 5) rfl ?_); (try (refine gate_guard (by rfl) ?_; dsimp only)); refine box_event zr (N := 5) zr (cs := #[.int .i64 0, .int .i64 0, .bool false, .bool false]) (t := 28) zh ?_; intro gb483 hg w14 hbox hb; have BK483 := zA (hbox); have GW483 := zA (zG hg (below_size (zB0 HB)) : w.heap.size ≤ gb483); have GE483 := zA (zG hg (below_size (zB0 HB)) : w.heap.size ≤ gb483); replace HB := zA (below_step (zB0 HB) hb); clear hb hbox hg; obtain ⟨z15_0, z15_1, z15_2, z15_3, y15_0, y15_1, y15_2, y15_3⟩ := zc4 BK483) | ((with_reducible refine gate_callee (f := 45) rfl ?_); refine goesL_ (some 72) rfl rfl Try.func45 zn rfl #[.agg #[.int .i64 t476, .int .i64 t477, .bool t478, .bool t479], .int .i64 t480, .int .i64 t481, .int .i64 t482] rfl zm ?_; (with_reducible refine (impl_OrbitOf.calls k t476 t477 t478 t479 t480 t481 t482 t484 t487 _ A6.out).mono ?_); rintro e w16 ⟨v485, rfl, ho0, hb⟩; refine ⟨_, rfl, ?_⟩; have HO486 := zA (Kd.R_lower ho0 (below_size (zB1 HB GE483))); replace BK483 := zA (blk_below (g := gb483) (o := .cells #[.int .i64 t476, .int .i64 t477, .bool t478, .bool t479] 28 (0, 0)) (by (with_reducible repeat (first | refine blk_drewN ?_ _ | refine blk_drew ?_ | refine blk_alloc ?_ _)); refine blk_put (cs := #[.int .i64 t476, .int .i64 t477, .bool t478, .bool false]) ?_ 3 _ rfl; (with_reducible repeat (first | refine blk_drewN ?_ _ | refine blk_drew ?_ | refine blk_alloc ?_ _)); refine blk_put (cs := #[.int .i64 t476, .int .i64 t477, .bool false, .bool false]) ?_ 2 _ rfl; (with_reducible repeat (first | refine blk_drewN ?_ _ | refine blk_drew ?_ | refine blk_alloc ?_ _)); refine blk_put (cs := #[.int .i64 t476, .int .i64 0, .bool false, .bool false]) ?_ 1 _ rfl; (with_reducible repeat (first | refine blk_drewN ?_ _ | refine blk_drew ?_ | refine blk_alloc ?_ _)); refine blk_put (cs := #[.int .i64 0, .int .i64 0, .bool false, .bool false]) ?_ 0 _ rfl; (with_reducible repeat (first | refine blk_drewN ?_ _ | refine blk_drew ?_ | refine blk_alloc ?_ _)); exact BK483.out) hb); replace HB := zA (below_step (zB1 HB GE483) hb); (try clear hb); (try clear hb2); (try clear hk); (try clear hi); (try clear ho0); obtain ⟨z17_0, z17_1, z17_2, z17_3, y17_0, y17_1, y17_2, y17_3⟩ := zc4 BK483) | ((with_reducible refine gate_callee (f := 46) rfl ?_); refine goesL_ (some 80) rfl rfl Try.func46 zn rfl #[.agg #[.int .i64 t476, .int .i64 t477, .bool t478, .bool t479], .int .i64 t480, .int .i64 t481, .int .i64 t482] rfl zm ?_; (with_reducible refine (spec_OrbitOf.calls k t476 t477 t478 t479 t480 t481 t482 t488 t491 _ A7.out).mono ?_); rintro e w18 ⟨v489, rfl, ho0, hb⟩; refine ⟨_, rfl, ?_⟩; have HO490 := zA (Kd.R_lower (Kd.R_new' ho0 (Kd.R_lt (zR HO486.out))) (below_size (zB1 HB GE483))); replace HO486 := zA (Kd.R_elder' (zR HO486.out) (Kd.R_base ho0) hb); replace BK483 := zKb BK483 hb; replace HB := zA (below_step (zB1 HB GE483) hb); (try clear hb); (try clear hb2); (try clear hk); (try clear hi); (try clear ho0); obtain ⟨z19_0, z19_1, z19_2, z19_3, y19_0, y19_1, y19_2, y19_3⟩ := zc4 BK483) | ((with_reducible refine gate_callee (f := 47) rfl ?_); refine goesL_ (some 87) rfl rfl Try.func47 zn rfl #[.agg #[.int .i64 t476, .int .i64 t477, .bool t478, .bool t479], .int .i64 t481, .int .i64 t482] rfl zm ?_; (with_reducible refine (impl_OrbitLength.calls k t476 t477 t478 t479 t481 t482 t492 t493 _ A8.out).mono ?_); rintro e w20 ⟨rfl, hb⟩; refine ⟨_, rfl, ?_⟩; replace HO486 := zRb HO486 hb; replace HO490 := zRb HO490 hb; replace BK483 := zKb BK483 hb; replace HB := zA (below_step (zB1 HB GE483) hb); (try clear hb); (try clear hb2); (try clear hk); (try clear hi); obtain ⟨z21_0, z21_1, z21_2, z21_3, y21_0, y21_1, y21_2, y21_3⟩ := zc4 BK483) | ((with_reducible refine gate_callee (f := 48) rfl ?_); refine goesL_ (some 94) rfl rfl Try.func48 zn rfl #[.agg #[.int .i64 t476, .int .i64 t477, .bool t478, .bool t479], .int .i64 t481, .int .i64 t482] rfl zm ?_; (with_reducible refine (spec_OrbitLength.calls k t476 t477 t478 t479 t481 t482 t494 t495 _ A9.out).mono ?_); rintro e w22 ⟨rfl, hb⟩; refine ⟨_, rfl, ?_⟩; replace HO486 := zRb HO486 hb; replace HO490 := zRb HO490 hb; replace BK483 := zKb BK483 hb; replace HB := zA (below_step (zB1 HB GE483) hb); (try clear hb); (try clear hb2); (try clear hk); (try clear hi); obtain ⟨z23_0, z23_1, z23_2, z23_3, y23_0, y23_1, y23_2, y23_3⟩ := zc4 BK483) | ((with_reducible refine gate_callee (f := 49) rfl ?_); refine goesL_ (some 101) rfl rfl Try.func49 zn rfl #[.agg #[.int .i64 t476, .int .i64 t477, .bool t478, .bool t479], .int .i64 t481, .int .i64 t482] rfl zm ?_; (with_reducible refine (impl_CountOrbits.calls k t476 t477 t478 t479 t481 t482 t496 t497 _ A10.out).mono ?_); rintro e w24 ⟨rfl, hb⟩; refine ⟨_, rfl, ?_⟩; replace HO486 := zRb HO486 hb; replace HO490 := zRb HO490 hb; replace BK483 := zKb BK483 hb; replace HB := zA (below_step (zB1 HB GE483) hb); (try clear hb); (try clear hb2); (try clear hk); (try clear hi); obtain ⟨z25_0, z25_1, z25_2, z25_3, y25_0, y25_1, y25_2, y25_3⟩ := zc4 BK483) | ((with_reducible refine gate_callee (f := 50) rfl ?_); refine goesL_ (some 108) rfl rfl Try.func50 zn rfl #[.agg #[.int .i64 t476, .int .i64 t477, .bool t478, .bool t479], .int .i64 t481, .int .i64 t482] rfl zm ?_; (with_reducible refine (spec_CountOrbits.calls k t476 t477 t478 t479 t481 t482 t498 t499 _ A11.out).mono ?_); rintro e w26 ⟨rfl, hb⟩; refine ⟨_, rfl, ?_⟩; replace HO486 := zRb HO486 hb; replace HO490 := zRb HO490 hb; replace BK483 := zKb BK483 hb; replace HB := zA (below_step (zB1 HB GE483) hb); (try clear hb); (try clear hb2); (try clear hk); (try clear hi)))
  (try simp only [Act.put, List.setIfInBounds_toArray, List.set_cons_zero, List.set_cons_succ])
  go_cut [151] from 9999 to 9999 (fun v151 wc => ∃ (kq : Nat) (x151_11 : Bool), v151 = .bool x151_11 ∧ Aside0 (laws_FnOrbitsShare.j0 kq l1 t480 t481 t482 t484 t487 t492 t493 t496 x151_11 t476 t477 t478 t479 = some r) ∧ Aside0 (kq ≤ k) ∧ Aside0 (Kd.R (Kd.int .i64) 3 wc w.heap.size (fun _ => True) v485 t484) ∧ Aside0 (wc.heap[gb483]? = some (.cells #[.int .i64 t476, .int .i64 t477, .bool t478, .bool t479] 28 (0, 0))) ∧ Aside0 (Below w.heap.size w wc))
  case first => as_aux_lemma =>
   have H := HC12.out
   clear HC12
   by_cases c27 : (t487 != t491) = true
   ·rw [if_pos c27] at H
    have c27b0 := c27
    obtain ⟨c27b1, c27b2, c27b3⟩ := zne c27
    clear c27
    (first | rw [c27b0] | (simp only [i64_w, i32_w]; rw [c27b0]) | skip)
    have H' := zA H
    clear H
    go_wp2
    go_meet
    case rel => exact ⟨_, (true), ze, H', ⟨zO⟩, ⟨zR (Kd.R_mono HO486.out (fun _ hk => trivial))⟩, ⟨zK BK483⟩, ⟨zB1 HB GE483⟩⟩
   ·as_aux_lemma =>
    rw [if_neg c27] at H
    obtain ⟨c27b0, c27b1, c27b2⟩ := znf c27
    clear c27
    (first | rw [c27b0] | (simp only [i64_w, i32_w]; rw [c27b0]) | skip)
    obtain ⟨t500, A28, H⟩ := zM H
    try dsimp only at H
    by_cases c29 : t500 = true
    ·as_aux_lemma =>
     subst c29
     have H1 : (if (t493 != t495) = true then (laws_FnOrbitsShare.j0 k l1 t480 t481 t482 t484 t487 t492 t493 t496 true t476 t477 t478 t479) else (if t492 = t494 then (if (t497 != t499) = true then (laws_FnOrbitsShare.j0 k l1 t480 t481 t482 t484 t487 t492 t493 t496 true t476 t477 t478 t479) else (if t496 = t498 then (if (t497 != t493) = true then (laws_FnOrbitsShare.j0 k l1 t480 t481 t482 t484 t487 t492 t493 t496 true t476 t477 t478 t479) else (if t487 = true then (laws_FnOrbitsShare.j0 k l1 t480 t481 t482 t484 t487 t492 t493 t496 (!t493) t476 t477 t478 t479) else (laws_FnOrbitsShare.j0 k l1 t480 t481 t482 t484 t487 t492 t493 t496 false t476 t477 t478 t479))) else (laws_FnOrbitsShare.j0 k l1 t480 t481 t482 t484 t487 t492 t493 t496 true t476 t477 t478 t479))) else (laws_FnOrbitsShare.j0 k l1 t480 t481 t482 t484 t487 t492 t493 t496 true t476 t477 t478 t479))) = some r := by rw [if_pos rfl] at H; exact H
     clear H
     have H := H1
     clear H1
     by_cases c30 : (t493 != t495) = true
     ·rw [if_pos c30] at H
      have c30b0 := c30
      obtain ⟨c30b1, c30b2, c30b3⟩ := zne c30
      clear c30
      have H' := zA H
      clear H
      obtain ⟨Ao31, co31, eo31⟩ := Kd.R_slice HO486.out
      subst eo31
      obtain ⟨Ao32, co32, eo32⟩ := Kd.R_slice HO490.out
      subst eo32
      go_wp2_with (first | (go_at_call 51; (with_reducible refine (laws_nSame.calls k _ _ t484 _ _ t488 true _ ?side1 ?side2 ?side3 ?side4 A28.out).mono ?_); (case side1 => exact zC (Kd.R_reads' HO486.out).2.2); (case side2 => exact (Kd.R_reads' HO486.out).2.1); (case side3 => exact zC (Kd.R_reads' HO490.out).2.2); (case side4 => exact (Kd.R_reads' HO490.out).2.1); rintro e w' ⟨rfl, ⟨nd, rfl⟩⟩))
      go_meet
      case rel => exact ⟨_, (true), ze, H', ⟨zO⟩, ⟨zR (Kd.R_mono HO486.out (fun _ hk => trivial))⟩, ⟨zK BK483⟩, ⟨zB1 HB GE483⟩⟩
     ·as_aux_lemma =>
      rw [if_neg c30] at H
      obtain ⟨c30b0, c30b1, c30b2⟩ := znf c30
      clear c30
      by_cases c33 : t492 = t494
      ·as_aux_lemma =>
       rw [if_pos c33] at H
       have c33b0 : (t492 == t494) = true := beq_iff_eq.mpr c33
       have c33b1 : (t492 != t494) = false := bne_eq_false_iff_eq.mpr c33
       clear c33
       by_cases c34 : (t497 != t499) = true
       ·rw [if_pos c34] at H
        have c34b0 := c34
        obtain ⟨c34b1, c34b2, c34b3⟩ := zne c34
        clear c34
        have H' := zA H
        clear H
        obtain ⟨Ao35, co35, eo35⟩ := Kd.R_slice HO486.out
        subst eo35
        obtain ⟨Ao36, co36, eo36⟩ := Kd.R_slice HO490.out
        subst eo36
        go_wp2_with (first | (go_at_call 51; (with_reducible refine (laws_nSame.calls k _ _ t484 _ _ t488 true _ ?side1 ?side2 ?side3 ?side4 A28.out).mono ?_); (case side1 => exact zC (Kd.R_reads' HO486.out).2.2); (case side2 => exact (Kd.R_reads' HO486.out).2.1); (case side3 => exact zC (Kd.R_reads' HO490.out).2.2); (case side4 => exact (Kd.R_reads' HO490.out).2.1); rintro e w' ⟨rfl, ⟨nd, rfl⟩⟩))
        go_meet
        case rel => exact ⟨_, (true), ze, H', ⟨zO⟩, ⟨zR (Kd.R_mono HO486.out (fun _ hk => trivial))⟩, ⟨zK BK483⟩, ⟨zB1 HB GE483⟩⟩
       ·rw [if_neg c34] at H
        obtain ⟨c34b0, c34b1, c34b2⟩ := znf c34
        clear c34
        by_cases c37 : t496 = t498
        ·rw [if_pos c37] at H
         have c37b0 : (t496 == t498) = true := beq_iff_eq.mpr c37
         have c37b1 : (t496 != t498) = false := bne_eq_false_iff_eq.mpr c37
         clear c37
         by_cases c38 : (t497 != t493) = true
         ·rw [if_pos c38] at H
          have c38b0 := c38
          obtain ⟨c38b1, c38b2, c38b3⟩ := zne c38
          clear c38
          have H' := zA H
          clear H
          obtain ⟨Ao39, co39, eo39⟩ := Kd.R_slice HO486.out
          subst eo39
          obtain ⟨Ao40, co40, eo40⟩ := Kd.R_slice HO490.out
          subst eo40
          go_wp2_with (first | (go_at_call 51; (with_reducible refine (laws_nSame.calls k _ _ t484 _ _ t488 true _ ?side1 ?side2 ?side3 ?side4 A28.out).mono ?_); (case side1 => exact zC (Kd.R_reads' HO486.out).2.2); (case side2 => exact (Kd.R_reads' HO486.out).2.1); (case side3 => exact zC (Kd.R_reads' HO490.out).2.2); (case side4 => exact (Kd.R_reads' HO490.out).2.1); rintro e w' ⟨rfl, ⟨nd, rfl⟩⟩))
          go_meet
          case rel => exact ⟨_, (true), ze, H', ⟨zO⟩, ⟨zR (Kd.R_mono HO486.out (fun _ hk => trivial))⟩, ⟨zK BK483⟩, ⟨zB1 HB GE483⟩⟩
         ·rw [if_neg c38] at H
          obtain ⟨c38b0, c38b1, c38b2⟩ := znf c38
          clear c38
          by_cases c41 : t487 = true
          ·subst c41
           have H1 : (laws_FnOrbitsShare.j0 k l1 t480 t481 t482 t484 true t492 t493 t496 (!t493) t476 t477 t478 t479) = some r := by rw [if_pos rfl] at H; exact H
           clear H
           have H := H1
           clear H1
           have H' := zA H
           clear H
           obtain ⟨Ao42, co42, eo42⟩ := Kd.R_slice HO486.out
           subst eo42
           obtain ⟨Ao43, co43, eo43⟩ := Kd.R_slice HO490.out
           subst eo43
           go_wp2_with (first | (go_at_call 51; (with_reducible refine (laws_nSame.calls k _ _ t484 _ _ t488 true _ ?side1 ?side2 ?side3 ?side4 A28.out).mono ?_); (case side1 => exact zC (Kd.R_reads' HO486.out).2.2); (case side2 => exact (Kd.R_reads' HO486.out).2.1); (case side3 => exact zC (Kd.R_reads' HO490.out).2.2); (case side4 => exact (Kd.R_reads' HO490.out).2.1); rintro e w' ⟨rfl, ⟨nd, rfl⟩⟩))
           go_meet
           case rel => exact ⟨_, (!t493), ze, H', ⟨zO⟩, ⟨zR (Kd.R_mono HO486.out (fun _ hk => trivial))⟩, ⟨zK BK483⟩, ⟨zB1 HB GE483⟩⟩
          ·replace c41 := Bool.eq_false_iff.mpr c41
           subst c41
           have H1 : (laws_FnOrbitsShare.j0 k l1 t480 t481 t482 t484 false t492 t493 t496 false t476 t477 t478 t479) = some r := by rw [if_neg (show ¬ (false = true) by decide)] at H; exact H
           clear H
           have H := H1
           clear H1
           have H' := zA H
           clear H
           obtain ⟨Ao44, co44, eo44⟩ := Kd.R_slice HO486.out
           subst eo44
           obtain ⟨Ao45, co45, eo45⟩ := Kd.R_slice HO490.out
           subst eo45
           go_wp2_with (first | (go_at_call 51; (with_reducible refine (laws_nSame.calls k _ _ t484 _ _ t488 true _ ?side1 ?side2 ?side3 ?side4 A28.out).mono ?_); (case side1 => exact zC (Kd.R_reads' HO486.out).2.2); (case side2 => exact (Kd.R_reads' HO486.out).2.1); (case side3 => exact zC (Kd.R_reads' HO490.out).2.2); (case side4 => exact (Kd.R_reads' HO490.out).2.1); rintro e w' ⟨rfl, ⟨nd, rfl⟩⟩))
           go_meet
           case rel => exact ⟨_, (false), ze, H', ⟨zO⟩, ⟨zR (Kd.R_mono HO486.out (fun _ hk => trivial))⟩, ⟨zK BK483⟩, ⟨zB1 HB GE483⟩⟩
        ·rw [if_neg c37] at H
         have c37b0 : (t496 == t498) = false := beq_eq_false_iff_ne.mpr c37
         have c37b1 : (t496 != t498) = true := bne_iff_ne.mpr c37
         have H' := zA H
         clear H
         obtain ⟨Ao46, co46, eo46⟩ := Kd.R_slice HO486.out
         subst eo46
         obtain ⟨Ao47, co47, eo47⟩ := Kd.R_slice HO490.out
         subst eo47
         go_wp2_with (first | (go_at_call 51; (with_reducible refine (laws_nSame.calls k _ _ t484 _ _ t488 true _ ?side1 ?side2 ?side3 ?side4 A28.out).mono ?_); (case side1 => exact zC (Kd.R_reads' HO486.out).2.2); (case side2 => exact (Kd.R_reads' HO486.out).2.1); (case side3 => exact zC (Kd.R_reads' HO490.out).2.2); (case side4 => exact (Kd.R_reads' HO490.out).2.1); rintro e w' ⟨rfl, ⟨nd, rfl⟩⟩))
         go_meet
         case rel => exact ⟨_, (true), ze, H', ⟨zO⟩, ⟨zR (Kd.R_mono HO486.out (fun _ hk => trivial))⟩, ⟨zK BK483⟩, ⟨zB1 HB GE483⟩⟩
      ·rw [if_neg c33] at H
       have c33b0 : (t492 == t494) = false := beq_eq_false_iff_ne.mpr c33
       have c33b1 : (t492 != t494) = true := bne_iff_ne.mpr c33
       have H' := zA H
       clear H
       obtain ⟨Ao48, co48, eo48⟩ := Kd.R_slice HO486.out
       subst eo48
       obtain ⟨Ao49, co49, eo49⟩ := Kd.R_slice HO490.out
       subst eo49
       go_wp2_with (first | (go_at_call 51; (with_reducible refine (laws_nSame.calls k _ _ t484 _ _ t488 true _ ?side1 ?side2 ?side3 ?side4 A28.out).mono ?_); (case side1 => exact zC (Kd.R_reads' HO486.out).2.2); (case side2 => exact (Kd.R_reads' HO486.out).2.1); (case side3 => exact zC (Kd.R_reads' HO490.out).2.2); (case side4 => exact (Kd.R_reads' HO490.out).2.1); rintro e w' ⟨rfl, ⟨nd, rfl⟩⟩))
       go_meet
       case rel => exact ⟨_, (true), ze, H', ⟨zO⟩, ⟨zR (Kd.R_mono HO486.out (fun _ hk => trivial))⟩, ⟨zK BK483⟩, ⟨zB1 HB GE483⟩⟩
    ·replace c29 := Bool.eq_false_iff.mpr c29
     subst c29
     have H1 : (laws_FnOrbitsShare.j0 k l1 t480 t481 t482 t484 t487 t492 t493 t496 true t476 t477 t478 t479) = some r := by rw [if_neg (show ¬ (false = true) by decide)] at H; exact H
     clear H
     have H := H1
     clear H1
     have H' := zA H
     clear H
     obtain ⟨Ao50, co50, eo50⟩ := Kd.R_slice HO486.out
     subst eo50
     obtain ⟨Ao51, co51, eo51⟩ := Kd.R_slice HO490.out
     subst eo51
     go_wp2_with (first | (go_at_call 51; (with_reducible refine (laws_nSame.calls k _ _ t484 _ _ t488 false _ ?side1 ?side2 ?side3 ?side4 A28.out).mono ?_); (case side1 => exact zC (Kd.R_reads' HO486.out).2.2); (case side2 => exact (Kd.R_reads' HO486.out).2.1); (case side3 => exact zC (Kd.R_reads' HO490.out).2.2); (case side4 => exact (Kd.R_reads' HO490.out).2.1); rintro e w' ⟨rfl, ⟨nd, rfl⟩⟩))
     go_meet
     case rel => exact ⟨_, (true), ze, H', ⟨zO⟩, ⟨zR (Kd.R_mono HO486.out (fun _ hk => trivial))⟩, ⟨zK BK483⟩, ⟨zB1 HB GE483⟩⟩
  case rest =>
   clear HC12
   (try clear c1); (try clear c4); (try clear z15_0 z15_1 z15_2 z15_3 y15_0 y15_1 y15_2 y15_3); (try clear z17_0 z17_1 z17_2 z17_3 y17_0 y17_1 y17_2 y17_3); (try clear z19_0 z19_1 z19_2 z19_3 y19_0 y19_1 y19_2 y19_3); (try clear z21_0 z21_1 z21_2 z21_3 y21_0 y21_1 y21_2 y21_3); (try clear z23_0 z23_1 z23_2 z23_3 y23_0 y23_1 y23_2 y23_3); (try clear z25_0 z25_1 z25_2 z25_3 y25_0 y25_1 y25_2 y25_3)
   obtain ⟨kq, x151_11, rfl, HA, HJ11, HO_9, BK483, HB⟩ := hcut
   cases kq with
   | zero => exact absurd HA.out (by simp [laws_FnOrbitsShare.j0])
   | succ kj11 =>
    have H := HA.out
    clear HA
    simp only [laws_FnOrbitsShare.j0] at H
    by_cases c52 : x151_11 = true
    ·subst c52
     have H1 : (some false) = some r := by rw [if_pos rfl] at H; exact H
     clear H
     have H := H1
     clear H1
     obtain rfl := Option.some.inj H
     go_wp2
     go_ret
     exact ⟨zt, zB1 HB GE483⟩
    ·replace c52 := Bool.eq_false_iff.mpr c52
     subst c52
     have H1 : (if t493 = true then (laws_FnOrbitsShare.l0 kj11 l1 t480 t481 t482 t484 t487 t492 t496 1 t476 t477 t478 t479) else (laws_FnOrbitsShare.j2 kj11 l1 t480 t481 t482 t484 t487 t492 t476 t477 t478 t479)) = some r := by rw [if_neg (show ¬ (false = true) by decide)] at H; exact H
     clear H
     have H := H1
     clear H1
     have HC53 := zA H
     clear H
     go_upto_if 152 with (fail)
     go_cut [] from 9999 to 9999 (fun wc => ∃ (kq : Nat), Aside0 (laws_FnOrbitsShare.j2 kq l1 t480 t481 t482 t484 t487 t492 t476 t477 t478 t479 = some r) ∧ Aside0 (kq ≤ kj11) ∧ Aside0 (Kd.R (Kd.int .i64) 3 wc w.heap.size (fun _ => True) v485 t484) ∧ Aside0 (wc.heap[gb483]? = some (.cells #[.int .i64 t476, .int .i64 t477, .bool t478, .bool t479] 28 (0, 0))) ∧ Aside0 (Below w.heap.size w wc))
     case first => as_aux_lemma =>
      have H := HC53.out
      clear HC53
      by_cases c54 : t493 = true
      ·as_aux_lemma =>
       subst c54
       have H1 : (laws_FnOrbitsShare.l0 kj11 l1 t480 t481 t482 t484 t487 t492 t496 1 t476 t477 t478 t479) = some r := by rw [if_pos rfl] at H; exact H
       clear H
       have H := H1
       clear H1
       have H' := zA H
       clear H
       go_wp2
       go_loopg [21] kj11 (fun kq v21 w' => ∃ (x21_2 : Int), v21 = .int .i64 x21_2 ∧ Aside0 (laws_FnOrbitsShare.l0 kq l1 t480 t481 t482 t484 t487 t492 t496 x21_2 t476 t477 t478 t479 = some r) ∧ Aside0 (kq ≤ kj11) ∧ Aside0 (Kd.R (Kd.int .i64) 3 w' w.heap.size (fun _ => True) v485 t484) ∧ Aside0 (w'.heap[gb483]? = some (.cells #[.int .i64 t476, .int .i64 t477, .bool t478, .bool t479] 28 (0, 0))) ∧ Aside0 (Below w.heap.size w w'))
       case atStart => exact ⟨(1), ze, H', ⟨Nat.le_refl _⟩, ⟨zR HO_9.out⟩, ⟨zK BK483⟩, ⟨zB1 HB GE483⟩⟩
       case round => as_aux_lemma =>
        clear H'
        (try clear c1); (try clear c4); (try clear c52); (try clear c54); (try clear z15_0 z15_1 z15_2 z15_3 y15_0 y15_1 y15_2 y15_3); (try clear z17_0 z17_1 z17_2 z17_3 y17_0 y17_1 y17_2 y17_3); (try clear z19_0 z19_1 z19_2 z19_3 y19_0 y19_1 y19_2 y19_3); (try clear z21_0 z21_1 z21_2 z21_3 y21_0 y21_1 y21_2 y21_3); (try clear z23_0 z23_1 z23_2 z23_3 y23_0 y23_1 y23_2 y23_3); (try clear z25_0 z25_1 z25_2 z25_3 y25_0 y25_1 y25_2 y25_3)
        obtain ⟨x21_2, rfl, HA, HK2, HO_9, BK483, HB⟩ := hrel
        cases gk with
        | zero => exact absurd HA.out (by simp [laws_FnOrbitsShare.l0])
        | succ k2 =>
         have H := HA.out
         clear HA
         simp only [laws_FnOrbitsShare.l0] at H
         by_cases c55 : t476 = 0
         ·rw [if_pos c55] at H
          exact absurd H (by simp)
         ·as_aux_lemma =>
          rw [if_neg c55] at H
          have c55b0 : (t476 == 0) = false := beq_eq_false_iff_ne.mpr c55
          have c55b1 : (t476 != 0) = true := bne_iff_ne.mpr c55
          (first | rw [c55b0] | (simp only [i64_w, i32_w]; rw [c55b0]) | skip)
          by_cases c56 : (Int.tmod (wrap64 (x21_2 * t481)) t476) = 0
          ·rw [if_pos c56] at H
           have c56b0 : ((Int.tmod (wrap64 (x21_2 * t481)) t476) == 0) = true := beq_iff_eq.mpr c56
           have c56b1 : ((Int.tmod (wrap64 (x21_2 * t481)) t476) != 0) = false := bne_eq_false_iff_eq.mpr c56
           clear c56
           by_cases c57 : t477 = 0
           ·rw [if_pos c57] at H
            exact absurd H (by simp)
           ·rw [if_neg c57] at H
            have c57b0 : (t477 == 0) = false := beq_eq_false_iff_ne.mpr c57
            have c57b1 : (t477 != 0) = true := bne_iff_ne.mpr c57
            by_cases c58 : (Int.tmod (wrap64 (x21_2 * t482)) t477) = 0
            ·rw [if_pos c58] at H
             have c58b0 : ((Int.tmod (wrap64 (x21_2 * t482)) t477) == 0) = true := beq_iff_eq.mpr c58
             have c58b1 : ((Int.tmod (wrap64 (x21_2 * t482)) t477) != 0) = false := bne_eq_false_iff_eq.mpr c58
             clear c58
             by_cases c59 : t492 = x21_2
             ·rw [if_pos c59] at H
              have c59b0 : (t492 == x21_2) = true := beq_iff_eq.mpr c59
              have c59b1 : (t492 != x21_2) = false := bne_eq_false_iff_eq.mpr c59
              clear c59
              by_cases c60 : (wrap64 (t496 * t492)) = (wrap64 (t476 * t477))
              ·rw [if_pos c60] at H
               have c60b0 : ((wrap64 (t496 * t492)) == (wrap64 (t476 * t477))) = true := beq_iff_eq.mpr c60
               have c60b1 : ((wrap64 (t496 * t492)) != (wrap64 (t476 * t477))) = false := bne_eq_false_iff_eq.mpr c60
               clear c60
               have H' := zA H
               clear H
               obtain ⟨z61_0, z61_1, z61_2, z61_3, y61_0, y61_1, y61_2, y61_3⟩ := zc4 BK483
               go_wp2
               go_meet
               case rel => exact ⟨_, H', ⟨by have := HJ11.out; have := HK2.out; first | omega | exact Nat.le_refl _⟩, ⟨zR HO_9.out⟩, ⟨zK BK483⟩, ⟨zB1 HB GE483⟩⟩
              ·rw [if_neg c60] at H
               have c60b0 : ((wrap64 (t496 * t492)) == (wrap64 (t476 * t477))) = false := beq_eq_false_iff_ne.mpr c60
               have c60b1 : ((wrap64 (t496 * t492)) != (wrap64 (t476 * t477))) = true := bne_iff_ne.mpr c60
               obtain rfl := Option.some.inj H
               obtain ⟨z62_0, z62_1, z62_2, z62_3, y62_0, y62_1, y62_2, y62_3⟩ := zc4 BK483
               go_wp2
               go_ret
               exact ⟨zt, zB1 HB GE483⟩
             ·rw [if_neg c59] at H
              have c59b0 : (t492 == x21_2) = false := beq_eq_false_iff_ne.mpr c59
              have c59b1 : (t492 != x21_2) = true := bne_iff_ne.mpr c59
              obtain rfl := Option.some.inj H
              obtain ⟨z63_0, z63_1, z63_2, z63_3, y63_0, y63_1, y63_2, y63_3⟩ := zc4 BK483
              go_wp2
              go_ret
              exact ⟨zt, zB1 HB GE483⟩
            ·rw [if_neg c58] at H
             have c58b0 : ((Int.tmod (wrap64 (x21_2 * t482)) t477) == 0) = false := beq_eq_false_iff_ne.mpr c58
             have c58b1 : ((Int.tmod (wrap64 (x21_2 * t482)) t477) != 0) = true := bne_iff_ne.mpr c58
             by_cases c64 : (wrap64 (x21_2 + 1)) > (wrap64 (t476 * t477))
             ·rw [if_pos c64] at H
              have c64b0 : decide ((wrap64 (t476 * t477)) < (wrap64 (x21_2 + 1))) = true := decide_eq_true c64
              clear c64
              obtain rfl := Option.some.inj H
              obtain ⟨z65_0, z65_1, z65_2, z65_3, y65_0, y65_1, y65_2, y65_3⟩ := zc4 BK483
              go_wp2
              go_ret
              exact ⟨zt, zB1 HB GE483⟩
             ·rw [if_neg c64] at H
              have c64b0 : decide ((wrap64 (t476 * t477)) < (wrap64 (x21_2 + 1))) = false := decide_eq_false c64
              clear c64
              have H' := zA H
              clear H
              obtain ⟨z66_0, z66_1, z66_2, z66_3, y66_0, y66_1, y66_2, y66_3⟩ := zc4 BK483
              go_wp2
              go_roundg k2
              case measure => have := HJ11.out; have := HK2.out; omega
              case rel => exact ⟨(wrap64 (x21_2 + 1)), ze, H', ⟨by have := HJ11.out; have := HK2.out; omega⟩, ⟨zR HO_9.out⟩, ⟨zK BK483⟩, ⟨zB1 HB GE483⟩⟩
          ·rw [if_neg c56] at H
           have c56b0 : ((Int.tmod (wrap64 (x21_2 * t481)) t476) == 0) = false := beq_eq_false_iff_ne.mpr c56
           have c56b1 : ((Int.tmod (wrap64 (x21_2 * t481)) t476) != 0) = true := bne_iff_ne.mpr c56
           by_cases c67 : (wrap64 (x21_2 + 1)) > (wrap64 (t476 * t477))
           ·rw [if_pos c67] at H
            have c67b0 : decide ((wrap64 (t476 * t477)) < (wrap64 (x21_2 + 1))) = true := decide_eq_true c67
            clear c67
            obtain rfl := Option.some.inj H
            obtain ⟨z68_0, z68_1, z68_2, z68_3, y68_0, y68_1, y68_2, y68_3⟩ := zc4 BK483
            go_wp2
            go_ret
            exact ⟨zt, zB1 HB GE483⟩
           ·rw [if_neg c67] at H
            have c67b0 : decide ((wrap64 (t476 * t477)) < (wrap64 (x21_2 + 1))) = false := decide_eq_false c67
            clear c67
            have H' := zA H
            clear H
            obtain ⟨z69_0, z69_1, z69_2, z69_3, y69_0, y69_1, y69_2, y69_3⟩ := zc4 BK483
            go_wp2
            go_roundg k2
            case measure => have := HJ11.out; have := HK2.out; omega
            case rel => exact ⟨(wrap64 (x21_2 + 1)), ze, H', ⟨by have := HJ11.out; have := HK2.out; omega⟩, ⟨zR HO_9.out⟩, ⟨zK BK483⟩, ⟨zB1 HB GE483⟩⟩
      ·replace c54 := Bool.eq_false_iff.mpr c54
       subst c54
       have H1 : (laws_FnOrbitsShare.j2 kj11 l1 t480 t481 t482 t484 t487 t492 t476 t477 t478 t479) = some r := by rw [if_neg (show ¬ (false = true) by decide)] at H; exact H
       clear H
       have H := H1
       clear H1
       have H' := zA H
       clear H
       go_wp2
       go_meet
       case rel => exact ⟨_, H', ⟨by have := HJ11.out; first | omega | exact Nat.le_refl _⟩, ⟨zR HO_9.out⟩, ⟨zK BK483⟩, ⟨zB1 HB GE483⟩⟩
     case rest =>
      clear HC53
      (try clear c1); (try clear c4); (try clear c52); (try clear z15_0 z15_1 z15_2 z15_3 y15_0 y15_1 y15_2 y15_3); (try clear z17_0 z17_1 z17_2 z17_3 y17_0 y17_1 y17_2 y17_3); (try clear z19_0 z19_1 z19_2 z19_3 y19_0 y19_1 y19_2 y19_3); (try clear z21_0 z21_1 z21_2 z21_3 y21_0 y21_1 y21_2 y21_3); (try clear z23_0 z23_1 z23_2 z23_3 y23_0 y23_1 y23_2 y23_3); (try clear z25_0 z25_1 z25_2 z25_3 y25_0 y25_1 y25_2 y25_3)
      obtain ⟨kq, HA, HJ52, HO_9, BK483, HB⟩ := hcut
      cases kq with
      | zero => exact absurd HA.out (by simp [laws_FnOrbitsShare.j2])
      | succ kj52 =>
       have H := HA.out
       clear HA
       simp only [laws_FnOrbitsShare.j2] at H
       have HC70 := zA H
       clear H
       go_upto_if 192 with (fail)
       go_cut [] from 9999 to 9999 (fun wc => ∃ (kq : Nat), Aside0 (laws_FnOrbitsShare.j5 kq l1 = some r) ∧ Aside0 (kq ≤ kj52) ∧ Aside0 (wc.heap[gb483]? = some (.cells #[.int .i64 t476, .int .i64 t477, .bool t478, .bool t479] 28 (0, 0))) ∧ Aside0 (Below w.heap.size w wc))
       case first => as_aux_lemma =>
        have H := HC70.out
        clear HC70
        by_cases c71 : t487 = true
        ·as_aux_lemma =>
         subst c71
         have H1 : (if (t484.length : Int) = t492 then (if 0 < (t484.length : Int) then (laws_FnOrbitsShare.j3 kj52 l1 t481 t482 t484 t492 ((rd t484 0) != t480) t476 t477 t478 t479) else (none)) else (laws_FnOrbitsShare.j3 kj52 l1 t481 t482 t484 t492 true t476 t477 t478 t479)) = some r := by rw [if_pos rfl] at H; exact H
         clear H
         have H := H1
         clear H1
         have HC72 := zA H
         clear H
         go_upto_region 21 with (fail)
         go_cut [203] from 9999 to 9999 (fun v203 wc => ∃ (kq : Nat) (x203_71 : Bool), v203 = .bool x203_71 ∧ Aside0 (laws_FnOrbitsShare.j3 kq l1 t481 t482 t484 t492 x203_71 t476 t477 t478 t479 = some r) ∧ Aside0 (kq ≤ kj52) ∧ Aside0 (Kd.R (Kd.int .i64) 3 wc w.heap.size (fun _ => True) v485 t484) ∧ Aside0 (wc.heap[gb483]? = some (.cells #[.int .i64 t476, .int .i64 t477, .bool t478, .bool t479] 28 (0, 0))) ∧ Aside0 (Below w.heap.size w wc))
         case first => as_aux_lemma =>
          have H := HC72.out
          clear HC72
          by_cases c73 : (t484.length : Int) = t492
          ·rw [if_pos c73] at H
           have c73b0 : ((t484.length : Int) == t492) = true := beq_iff_eq.mpr c73
           have c73b1 : ((t484.length : Int) != t492) = false := bne_eq_false_iff_eq.mpr c73
           clear c73
           (first | rw [c73b0] | (simp only [i64_w, i32_w]; rw [c73b0]) | skip)
           by_cases c74 : 0 < (t484.length : Int)
           ·rw [if_pos c74] at H
            have c74b0 : decide (0 < (t484.length : Int)) = true := decide_eq_true c74
            have c74b1 : decide (0 < t484.length) = true := decide_eq_true (by omega)
            clear c74
            have H' := zA H
            clear H
            obtain ⟨Ao75, co75, eo75⟩ := Kd.R_slice HO_9.out
            subst eo75
            have p501 : 0 ≤ (0 : Int) := (by omega)
            have q501 : 0 < (t484.length : Int) := zd
            obtain ⟨ad501, e501, hx501_0⟩ := Kd.at_int (Kd.R_reads' HO_9.out).2.2 0 p501 q501
            cases e501
            have qi501 : (0 < t484.length) = True := eq_true (by omega)
            (try rw [show ((0 : Int)).toNat = 0 from rfl] at hx501_0)
            (try rw [Addr.add_zero'] at hx501_0)
            replace p501 := eq_true p501
            replace q501 := eq_true q501
            go_wp2
            go_meet
            case rel => exact ⟨_, (((rd t484 0) != t480)), ze, H', ⟨by have := HJ11.out; have := HJ52.out; first | omega | exact Nat.le_refl _⟩, ⟨zR HO_9.out⟩, ⟨zK BK483⟩, ⟨zB1 HB GE483⟩⟩
           ·rw [if_neg c74] at H
            exact absurd H (by simp)
          ·rw [if_neg c73] at H
           have c73b0 : ((t484.length : Int) == t492) = false := beq_eq_false_iff_ne.mpr c73
           have c73b1 : ((t484.length : Int) != t492) = true := bne_iff_ne.mpr c73
           (first | rw [c73b0] | (simp only [i64_w, i32_w]; rw [c73b0]) | skip)
           have H' := zA H
           clear H
           obtain ⟨Ao76, co76, eo76⟩ := Kd.R_slice HO_9.out
           subst eo76
           go_wp2
           go_meet
           case rel => exact ⟨_, (true), ze, H', ⟨by have := HJ11.out; have := HJ52.out; first | omega | exact Nat.le_refl _⟩, ⟨zR HO_9.out⟩, ⟨zK BK483⟩, ⟨zB1 HB GE483⟩⟩
         case rest => as_aux_lemma =>
          clear HC72
          (try clear c1); (try clear c4); (try clear c52); (try clear c71); (try clear z15_0 z15_1 z15_2 z15_3 y15_0 y15_1 y15_2 y15_3); (try clear z17_0 z17_1 z17_2 z17_3 y17_0 y17_1 y17_2 y17_3); (try clear z19_0 z19_1 z19_2 z19_3 y19_0 y19_1 y19_2 y19_3); (try clear z21_0 z21_1 z21_2 z21_3 y21_0 y21_1 y21_2 y21_3); (try clear z23_0 z23_1 z23_2 z23_3 y23_0 y23_1 y23_2 y23_3); (try clear z25_0 z25_1 z25_2 z25_3 y25_0 y25_1 y25_2 y25_3)
          obtain ⟨kq, x203_71, rfl, HA, HJ71, HO_9, BK483, HB⟩ := hcut
          cases kq with
          | zero => exact absurd HA.out (by simp [laws_FnOrbitsShare.j3])
          | succ kj71 =>
           have H := HA.out
           clear HA
           simp only [laws_FnOrbitsShare.j3] at H
           by_cases c77 : x203_71 = true
           ·subst c77
            have H1 : (some false) = some r := by rw [if_pos rfl] at H; exact H
            clear H
            have H := H1
            clear H1
            obtain rfl := Option.some.inj H
            go_wp2
            go_ret
            exact ⟨zt, zB1 HB GE483⟩
           ·replace c77 := Bool.eq_false_iff.mpr c77
            subst c77
            have H1 : (laws_FnOrbitsShare.l1 kj71 l1 t481 t482 t484 t492 t484 (t484.length : Int) 0 t476 t477 t478 t479) = some r := by rw [if_neg (show ¬ (false = true) by decide)] at H; exact H
            clear H
            have H := H1
            clear H1
            have H' := zA H
            clear H
            obtain ⟨Ao78, co78, eo78⟩ := Kd.R_slice HO_9.out
            subst eo78
            go_wp2
            go_loopg [206] kj71 (fun kq v206 w' => ∃ (x206_4 : Int), v206 = .int .i64 x206_4 ∧ Aside0 (laws_FnOrbitsShare.l1 kq l1 t481 t482 t484 t492 t484 (t484.length : Int) x206_4 t476 t477 t478 t479 = some r) ∧ Aside0 (kq ≤ kj71) ∧ Aside0 (Kd.R (Kd.int .i64) 3 w' w.heap.size (fun _ => True) (.slice Ao78 t484.length co78) t484) ∧ Aside0 (Kd.R (Kd.int .i64) 3 w' w.heap.size (fun _ => True) (.slice Ao78 t484.length co78) t484) ∧ Aside0 (w'.heap[gb483]? = some (.cells #[.int .i64 t476, .int .i64 t477, .bool t478, .bool t479] 28 (0, 0))) ∧ Aside0 (Below w.heap.size w w'))
            case atStart => exact ⟨(0), ze, H', ⟨Nat.le_refl _⟩, ⟨zR HO_9.out⟩, ⟨zR HO_9.out⟩, ⟨zK BK483⟩, ⟨zB1 HB GE483⟩⟩
            case round => as_aux_lemma =>
             clear H'
             (try clear c1); (try clear c4); (try clear c52); (try clear c71); (try clear c77); (try clear z15_0 z15_1 z15_2 z15_3 y15_0 y15_1 y15_2 y15_3); (try clear z17_0 z17_1 z17_2 z17_3 y17_0 y17_1 y17_2 y17_3); (try clear z19_0 z19_1 z19_2 z19_3 y19_0 y19_1 y19_2 y19_3); (try clear z21_0 z21_1 z21_2 z21_3 y21_0 y21_1 y21_2 y21_3); (try clear z23_0 z23_1 z23_2 z23_3 y23_0 y23_1 y23_2 y23_3); (try clear z25_0 z25_1 z25_2 z25_3 y25_0 y25_1 y25_2 y25_3)
             obtain ⟨x206_4, rfl, HA, HK4, HO_9, HO_204, BK483, HB⟩ := hrel
             cases gk with
             | zero => exact absurd HA.out (by simp [laws_FnOrbitsShare.l1])
             | succ k4 =>
              have H := HA.out
              clear HA
              simp only [laws_FnOrbitsShare.l1] at H
              by_cases c79 : x206_4 < (t484.length : Int)
              ·as_aux_lemma =>
               rw [if_pos c79] at H
               have c79b0 : decide (x206_4 < (t484.length : Int)) = true := decide_eq_true c79
               clear c79
               by_cases c80 : 0 ≤ x206_4
               ·as_aux_lemma =>
                rw [if_pos c80] at H
                have c80b0 : decide (0 ≤ x206_4) = true := decide_eq_true c80
                clear c80
                by_cases c81 : x206_4 < (t484.length : Int)
                ·as_aux_lemma =>
                 rw [if_pos c81] at H
                 have c81b0 : decide (x206_4 < (t484.length : Int)) = true := decide_eq_true c81
                 clear c81
                 obtain ⟨⟨t503, t504⟩, A82, H⟩ := zM H
                 try dsimp only at H
                 by_cases c83 : t504 = true
                 ·as_aux_lemma =>
                  subst c83
                  have H1 : (if t492 = 0 then (none) else (if 0 ≤ (Int.tmod (wrap64 (x206_4 + 1)) t492) then (if (Int.tmod (wrap64 (x206_4 + 1)) t492) < (t484.length : Int) then (if t503 = (rd t484 (Int.tmod (wrap64 (x206_4 + 1)) t492)) then (if x206_4 ≤ (t484.length : Int) then ((laws_nHas.f k4 (t484.take (x206_4 : Int).toNat) (rd t484 x206_4)).bind fun t510 => (if t510 = true then (some false) else (laws_FnOrbitsShare.l1 k4 l1 t481 t482 t484 t492 t484 (t484.length : Int) (wrap64 (x206_4 + 1)) t476 t477 t478 t479))) else (none)) else (some false)) else (none)) else (none))) = some r := by rw [if_pos rfl] at H; exact H
                  clear H
                  have H := H1
                  clear H1
                  by_cases c84 : t492 = 0
                  ·rw [if_pos c84] at H
                   exact absurd H (by simp)
                  ·as_aux_lemma =>
                   rw [if_neg c84] at H
                   have c84b0 : (t492 == 0) = false := beq_eq_false_iff_ne.mpr c84
                   have c84b1 : (t492 != 0) = true := bne_iff_ne.mpr c84
                   obtain ⟨ji85, hji85⟩ : ∃ j_ : Int, (Int.tmod (wrap64 (x206_4 + 1)) t492) = j_ := ⟨_, rfl⟩
                   replace H : (if 0 ≤ (ji85) then (if (ji85) < (t484.length : Int) then (if t503 = (rd t484 (ji85)) then (if x206_4 ≤ (t484.length : Int) then ((laws_nHas.f k4 (t484.take (x206_4 : Int).toNat) (rd t484 x206_4)).bind fun t510 => (if t510 = true then (some false) else (laws_FnOrbitsShare.l1 k4 l1 t481 t482 t484 t492 t484 (t484.length : Int) (wrap64 (x206_4 + 1)) t476 t477 t478 t479))) else (none)) else (some false)) else (none)) else (none)) = some r := by first | (rw [hji85] at H; exact H) | (simp only [hji85] at H ⊢; exact H)
                   (try rw [hji85] at A82)
                   by_cases c86 : 0 ≤ (ji85)
                   ·as_aux_lemma =>
                    rw [if_pos c86] at H
                    have c86b0 : decide (0 ≤ (ji85)) = true := decide_eq_true c86
                    clear c86
                    by_cases c87 : (ji85) < (t484.length : Int)
                    ·as_aux_lemma =>
                     rw [if_pos c87] at H
                     have c87b0 : decide ((ji85) < (t484.length : Int)) = true := decide_eq_true c87
                     clear c87
                     by_cases c88 : t503 = (rd t484 (ji85))
                     ·rw [if_pos c88] at H
                      have c88b0 : (t503 == (rd t484 (ji85))) = true := beq_iff_eq.mpr c88
                      have c88b1 : (t503 != (rd t484 (ji85))) = false := bne_eq_false_iff_eq.mpr c88
                      clear c88
                      have c89b0 := eq_true (zd : 0 ≤ x206_4)
                      by_cases c90 : x206_4 ≤ (t484.length : Int)
                      ·rw [if_pos c90] at H
                       have c90b0 := eq_true c90
                       have c90b1 : decide (x206_4 ≤ (t484.length : Int)) = true := decide_eq_true c90
                       clear c90
                       obtain ⟨y506, hy506⟩ : ∃ y_ : List Int, y_ = (t484.take (x206_4 : Int).toNat) := ⟨_, rfl⟩
                       replace H : ((laws_nHas.f k4 y506 (rd t484 x206_4)).bind fun t510 => (if t510 = true then (some false) else (laws_FnOrbitsShare.l1 k4 l1 t481 t482 t484 t492 t484 (t484.length : Int) (wrap64 (x206_4 + 1)) t476 t477 t478 t479))) = some r := by first | (rw [hy506]; with_reducible exact H) | (have H2_ := (Option.bind_some _ _).symm.trans H; rw [hy506]; with_reducible exact H2_) | (have H2_ := (Option.bind_some _ _).symm.trans H; with_reducible exact H2_) | with_reducible exact H | (rw [hy506]; exact H) | exact H
                       have Ny506 := zA hy506
                       clear hy506
                       obtain ⟨t510, A91, H⟩ := zM H
                       try dsimp only at H
                       by_cases c92 : t510 = true
                       ·subst c92
                        have H1 : (some false) = some r := by rw [if_pos rfl] at H; exact H
                        clear H
                        have H := H1
                        clear H1
                        obtain rfl := Option.some.inj H
                        have p502 : 0 ≤ (x206_4 : Int) := zd
                        have q502 : x206_4 < (t484.length : Int) := zd
                        obtain ⟨ad502, e502, hx502_0⟩ := Kd.at_int (Kd.R_reads' HO_204.out).2.2 x206_4 p502 q502
                        cases e502
                        replace p502 := eq_true p502
                        replace q502 := eq_true q502
                        obtain ⟨z93_0, z93_1, z93_2, z93_3, y93_0, y93_1, y93_2, y93_3⟩ := zc4 BK483
                        go_wp2_with (first | ((with_reducible refine gate_callee (f := 52) rfl ?_); refine goesL_ (some 216) rfl rfl Try.func52 zn rfl #[.agg #[.int .i64 t476, .int .i64 t477, .bool t478, .bool t479], .int .i64 (rd t484 x206_4), .int .i64 t481, .int .i64 t482] rfl zm ?_; (with_reducible refine (impl_StepAround.calls t476 t477 t478 t479 (rd t484 x206_4) t481 t482 t503 true _ A82.out).mono ?_); rintro e w94 ⟨rfl, hb⟩; refine ⟨_, rfl, ?_⟩; replace HO_9 := zRb HO_9 hb; replace HO_204 := zRb HO_204 hb; replace BK483 := zKb BK483 hb; replace HB := zA (below_step (zB1 HB GE483) hb); (try clear hb); (try clear hb2); (try clear hk); (try clear hi); have p505 : 0 ≤ ((ji85) : Int) := zd; have q505 : (ji85) < (t484.length : Int) := zd; obtain ⟨ad505, e505, hx505_0⟩ := Kd.at_int (Kd.R_reads' HO_9.out).2.2 (ji85) p505 q505; obtain rfl : ad502 = ad505 := (by injection e505); replace p505 := eq_true p505; replace q505 := eq_true q505; have q95 : (x206_4 : Int) ≤ ((t484.length : Int) : Int) := zd; obtain ⟨i095, hi095, _, hsz95, _⟩ := info_parts info3; have hroom95 : t484.length ≤ co78 := (Kd.R_reads' HO_9.out).2.1; have hC95 : Kd.C (Kd.int .i64) _ (some ad502) t484.length t484 := (Kd.R_reads' HO_9.out).2.2; have hcut95 := cut_to (P := Try.prog) 33 3 .i64 Try.underlying33 hi095 (some ad502) t484.length co78 x206_4 (zd) q95 hroom95; have hr95 := Kd.C_take (m := (x206_4 : Int).toNat) hC95 (by omega); have hy95 : y506.length = (x206_4 : Int).toNat := (by rw [Ny506.out, List.length_take]; omega); rw [← Ny506.out] at hr95; rw [← hy95] at hcut95; have HR509 := zA hr95; have HC509 := zA (show y506.length ≤ co78 from by omega); clear hr95 hC95 hroom95 hi095 hsz95; have KY95 := zA hy95; clear hy95; have KL95 := zA (show (x206_4 : Int).toNat ≤ t484.length from by omega); replace q95 := eq_true q95) | (go_at_call 53; (with_reducible refine (laws_nHas.calls k4 _ _ y506 (rd t484 x206_4) true _ ?side1 ?side2 A91.out).mono ?_); (case side1 => repeat (first | exact (zC HR509.out) | (with_reducible refine Kd.C_alloc ?_ _) | (with_reducible refine Kd.C_drewN ?_ _) | (with_reducible refine Kd.C_drew ?_))); (case side2 => exact HC509.out); rintro e w' ⟨rfl, ⟨nd, rfl⟩⟩))
                        go_ret
                        exact ⟨by first | rfl | (simp [errW_none, errW_some] <;> rfl) | (simp only [← hji85]; first | rfl | (simp [errW_none, errW_some] <;> rfl)) | (simp [*, errW_none, errW_some] <;> rfl), zB1 HB GE483⟩
                       ·replace c92 := Bool.eq_false_iff.mpr c92
                        subst c92
                        have H1 : (laws_FnOrbitsShare.l1 k4 l1 t481 t482 t484 t492 t484 (t484.length : Int) (wrap64 (x206_4 + 1)) t476 t477 t478 t479) = some r := by rw [if_neg (show ¬ (false = true) by decide)] at H; exact H
                        clear H
                        have H := H1
                        clear H1
                        have H' := zA H
                        clear H
                        have p502 : 0 ≤ (x206_4 : Int) := zd
                        have q502 : x206_4 < (t484.length : Int) := zd
                        obtain ⟨ad502, e502, hx502_0⟩ := Kd.at_int (Kd.R_reads' HO_204.out).2.2 x206_4 p502 q502
                        cases e502
                        replace p502 := eq_true p502
                        replace q502 := eq_true q502
                        obtain ⟨z96_0, z96_1, z96_2, z96_3, y96_0, y96_1, y96_2, y96_3⟩ := zc4 BK483
                        go_wp2_with (first | ((with_reducible refine gate_callee (f := 52) rfl ?_); refine goesL_ (some 216) rfl rfl Try.func52 zn rfl #[.agg #[.int .i64 t476, .int .i64 t477, .bool t478, .bool t479], .int .i64 (rd t484 x206_4), .int .i64 t481, .int .i64 t482] rfl zm ?_; (with_reducible refine (impl_StepAround.calls t476 t477 t478 t479 (rd t484 x206_4) t481 t482 t503 true _ A82.out).mono ?_); rintro e w97 ⟨rfl, hb⟩; refine ⟨_, rfl, ?_⟩; replace HO_9 := zRb HO_9 hb; replace HO_204 := zRb HO_204 hb; replace BK483 := zKb BK483 hb; replace HB := zA (below_step (zB1 HB GE483) hb); (try clear hb); (try clear hb2); (try clear hk); (try clear hi); have p505 : 0 ≤ ((ji85) : Int) := zd; have q505 : (ji85) < (t484.length : Int) := zd; obtain ⟨ad505, e505, hx505_0⟩ := Kd.at_int (Kd.R_reads' HO_9.out).2.2 (ji85) p505 q505; obtain rfl : ad502 = ad505 := (by injection e505); replace p505 := eq_true p505; replace q505 := eq_true q505; have q98 : (x206_4 : Int) ≤ ((t484.length : Int) : Int) := zd; obtain ⟨i098, hi098, _, hsz98, _⟩ := info_parts info3; have hroom98 : t484.length ≤ co78 := (Kd.R_reads' HO_9.out).2.1; have hC98 : Kd.C (Kd.int .i64) _ (some ad502) t484.length t484 := (Kd.R_reads' HO_9.out).2.2; have hcut98 := cut_to (P := Try.prog) 33 3 .i64 Try.underlying33 hi098 (some ad502) t484.length co78 x206_4 (zd) q98 hroom98; have hr98 := Kd.C_take (m := (x206_4 : Int).toNat) hC98 (by omega); have hy98 : y506.length = (x206_4 : Int).toNat := (by rw [Ny506.out, List.length_take]; omega); rw [← Ny506.out] at hr98; rw [← hy98] at hcut98; have HR509 := zA hr98; have HC509 := zA (show y506.length ≤ co78 from by omega); clear hr98 hC98 hroom98 hi098 hsz98; have KY98 := zA hy98; clear hy98; have KL98 := zA (show (x206_4 : Int).toNat ≤ t484.length from by omega); replace q98 := eq_true q98) | (go_at_call 53; (with_reducible refine (laws_nHas.calls k4 _ _ y506 (rd t484 x206_4) false _ ?side1 ?side2 A91.out).mono ?_); (case side1 => repeat (first | exact (zC HR509.out) | (with_reducible refine Kd.C_alloc ?_ _) | (with_reducible refine Kd.C_drewN ?_ _) | (with_reducible refine Kd.C_drew ?_))); (case side2 => exact HC509.out); rintro e w' ⟨rfl, ⟨nd, rfl⟩⟩))
                        go_roundg k4
                        case measure => have := HJ11.out; have := HJ52.out; have := HJ71.out; have := HK4.out; omega
                        case rel => exact ⟨(wrap64 (x206_4 + 1)), ze, H', ⟨by have := HJ11.out; have := HJ52.out; have := HJ71.out; have := HK4.out; omega⟩, ⟨zR HO_9.out⟩, ⟨zR HO_204.out⟩, ⟨zK BK483⟩, ⟨zB1 HB GE483⟩⟩
                      ·rw [if_neg c90] at H
                       exact absurd H (by simp)
                     ·rw [if_neg c88] at H
                      have c88b0 : (t503 == (rd t484 (ji85))) = false := beq_eq_false_iff_ne.mpr c88
                      have c88b1 : (t503 != (rd t484 (ji85))) = true := bne_iff_ne.mpr c88
                      obtain rfl := Option.some.inj H
                      have p502 : 0 ≤ (x206_4 : Int) := zd
                      have q502 : x206_4 < (t484.length : Int) := zd
                      obtain ⟨ad502, e502, hx502_0⟩ := Kd.at_int (Kd.R_reads' HO_204.out).2.2 x206_4 p502 q502
                      cases e502
                      replace p502 := eq_true p502
                      replace q502 := eq_true q502
                      obtain ⟨z99_0, z99_1, z99_2, z99_3, y99_0, y99_1, y99_2, y99_3⟩ := zc4 BK483
                      go_wp2_with (first | ((with_reducible refine gate_callee (f := 52) rfl ?_); refine goesL_ (some 216) rfl rfl Try.func52 zn rfl #[.agg #[.int .i64 t476, .int .i64 t477, .bool t478, .bool t479], .int .i64 (rd t484 x206_4), .int .i64 t481, .int .i64 t482] rfl zm ?_; (with_reducible refine (impl_StepAround.calls t476 t477 t478 t479 (rd t484 x206_4) t481 t482 t503 true _ A82.out).mono ?_); rintro e w100 ⟨rfl, hb⟩; refine ⟨_, rfl, ?_⟩; replace HO_9 := zRb HO_9 hb; replace HO_204 := zRb HO_204 hb; replace BK483 := zKb BK483 hb; replace HB := zA (below_step (zB1 HB GE483) hb); (try clear hb); (try clear hb2); (try clear hk); (try clear hi); have p505 : 0 ≤ ((ji85) : Int) := zd; have q505 : (ji85) < (t484.length : Int) := zd; obtain ⟨ad505, e505, hx505_0⟩ := Kd.at_int (Kd.R_reads' HO_9.out).2.2 (ji85) p505 q505; obtain rfl : ad502 = ad505 := (by injection e505); replace p505 := eq_true p505; replace q505 := eq_true q505))
                      go_ret
                      exact ⟨by first | rfl | (simp [errW_none, errW_some] <;> rfl) | (simp only [← hji85]; first | rfl | (simp [errW_none, errW_some] <;> rfl)) | (simp [*, errW_none, errW_some] <;> rfl), zB1 HB GE483⟩
                    ·rw [if_neg c87] at H
                     exact absurd H (by simp)
                   ·rw [if_neg c86] at H
                    exact absurd H (by simp)
                 ·replace c83 := Bool.eq_false_iff.mpr c83
                  subst c83
                  have H1 : (some false) = some r := by rw [if_neg (show ¬ (false = true) by decide)] at H; exact H
                  clear H
                  have H := H1
                  clear H1
                  obtain rfl := Option.some.inj H
                  have p502 : 0 ≤ (x206_4 : Int) := zd
                  have q502 : x206_4 < (t484.length : Int) := zd
                  obtain ⟨ad502, e502, hx502_0⟩ := Kd.at_int (Kd.R_reads' HO_204.out).2.2 x206_4 p502 q502
                  cases e502
                  replace p502 := eq_true p502
                  replace q502 := eq_true q502
                  obtain ⟨z101_0, z101_1, z101_2, z101_3, y101_0, y101_1, y101_2, y101_3⟩ := zc4 BK483
                  go_wp2_with (first | ((with_reducible refine gate_callee (f := 52) rfl ?_); refine goesL_ (some 216) rfl rfl Try.func52 zn rfl #[.agg #[.int .i64 t476, .int .i64 t477, .bool t478, .bool t479], .int .i64 (rd t484 x206_4), .int .i64 t481, .int .i64 t482] rfl zm ?_; (with_reducible refine (impl_StepAround.calls t476 t477 t478 t479 (rd t484 x206_4) t481 t482 t503 false _ A82.out).mono ?_); rintro e w102 ⟨rfl, hb⟩; refine ⟨_, rfl, ?_⟩; replace HO_9 := zRb HO_9 hb; replace HO_204 := zRb HO_204 hb; replace BK483 := zKb BK483 hb; replace HB := zA (below_step (zB1 HB GE483) hb); (try clear hb); (try clear hb2); (try clear hk); (try clear hi)))
                  go_ret
                  exact ⟨zt, zB1 HB GE483⟩
                ·rw [if_neg c81] at H
                 exact absurd H (by simp)
               ·rw [if_neg c80] at H
                exact absurd H (by simp)
              ·rw [if_neg c79] at H
               have c79b0 : decide (x206_4 < (t484.length : Int)) = false := decide_eq_false c79
               clear c79
               have H' := zA H
               clear H
               go_wp2
               go_meet
               case rel => exact ⟨_, H', ⟨by have := HJ11.out; have := HJ52.out; have := HJ71.out; have := HK4.out; first | omega | exact Nat.le_refl _⟩, ⟨zK BK483⟩, ⟨zB1 HB GE483⟩⟩
        ·replace c71 := Bool.eq_false_iff.mpr c71
         subst c71
         have H1 : (laws_FnOrbitsShare.j5 kj52 l1) = some r := by rw [if_neg (show ¬ (false = true) by decide)] at H; exact H
         clear H
         have H := H1
         clear H1
         have H' := zA H
         clear H
         go_wp2
         go_meet
         case rel => exact ⟨_, H', ⟨by have := HJ11.out; have := HJ52.out; first | omega | exact Nat.le_refl _⟩, ⟨zK BK483⟩, ⟨zB1 HB GE483⟩⟩
       case rest =>
        clear HC70
        (try clear c1); (try clear c4); (try clear c52); (try clear z15_0 z15_1 z15_2 z15_3 y15_0 y15_1 y15_2 y15_3); (try clear z17_0 z17_1 z17_2 z17_3 y17_0 y17_1 y17_2 y17_3); (try clear z19_0 z19_1 z19_2 z19_3 y19_0 y19_1 y19_2 y19_3); (try clear z21_0 z21_1 z21_2 z21_3 y21_0 y21_1 y21_2 y21_3); (try clear z23_0 z23_1 z23_2 z23_3 y23_0 y23_1 y23_2 y23_3); (try clear z25_0 z25_1 z25_2 z25_3 y25_0 y25_1 y25_2 y25_3)
        obtain ⟨kq, HA, HJ69, BK483, HB⟩ := hcut
        cases kq with
        | zero => exact absurd HA.out (by simp [laws_FnOrbitsShare.j5])
        | succ kj69 =>
         have H := HA.out
         clear HA
         simp only [laws_FnOrbitsShare.j5] at H
         obtain ⟨⟨t511, t512, t513, t514, t515, t516, t517, t518, t519⟩, A103, H⟩ := zM H
         try dsimp only at H
         obtain ⟨⟨t522, t525⟩, A104, H⟩ := zM H
         try dsimp only at H
         obtain ⟨⟨t526, t529⟩, A105, H⟩ := zM H
         try dsimp only at H
         obtain ⟨⟨t530, t531⟩, A106, H⟩ := zM H
         try dsimp only at H
         obtain ⟨⟨t532, t533⟩, A107, H⟩ := zM H
         try dsimp only at H
         obtain ⟨⟨t534, t535, t536, t537, t538, t539⟩, A108, H⟩ := zM H
         try dsimp only at H
         obtain ⟨⟨t542, t543, t544, t545⟩, A109, H⟩ := zM H
         try dsimp only at H
         obtain ⟨⟨t546, t547, t548, t549⟩, A110, H⟩ := zM H
         try dsimp only at H
         have HC111 := zA H
         clear H
         go_upto_region 38 with (first | ((with_reducible refine gate_callee (f := 59) rfl ?_); refine goesL_ (some 242) rfl rfl Try.func59 zn rfl #[.slice A1 l1.length c1] rfl zm ?_; (with_reducible refine (spec_DrawTwoSteps.calls _ _ l1 t511 t512 t513 t514 t515 t516 t517 t518 t519 _ ?side1 ?side2 A103.out).mono ?_); (case side1 => repeat (first | exact (Kd.C_below HR1.out HB.out) | (with_reducible refine Kd.C_alloc ?_ _) | (with_reducible refine Kd.C_drewN ?_ _) | (with_reducible refine Kd.C_drew ?_))); (case side2 => exact HC1.out); rintro e w112 ⟨rfl, hb⟩; refine ⟨_, rfl, ?_⟩; replace BK483 := zKb BK483 hb; replace HB := zA (below_step (zB1 HB GE483) hb); (try clear hb); (try clear hb2); (try clear hk); (try clear hi)) | ((with_reducible refine gate_dst (N := 26) rfl ?_); (try (refine gate_guard (by rfl) ?_; dsimp only)); refine box_event zr (N := 26) zr (cs := #[.int .i64 0, .int .i64 0, .bool false, .bool false]) (t := 28) zh ?_; intro gb520 hg w113 hbox hb; have BK520 := zA (hbox); have GW520 := zA (zG hg (below_size (zB1 HB GE483)) : w.heap.size ≤ gb520); have GE520 := zA (zG hg (below_size (zB1 HB GE483)) : w.heap.size ≤ gb520); replace HB := zA (below_step (zB1 HB GE483) hb); have NB483_520 := zA (zNl hg BK483 : gb483 ≠ gb520); have NB520_483 := zA (zNg hg BK483 : gb520 ≠ gb483); replace BK483 := zKb BK483 hb; clear hb hbox hg) | ((with_reducible refine gate_dst (N := 27) rfl ?_); (try (refine gate_guard (by rfl) ?_; dsimp only)); refine box_event zr (N := 27) zr (cs := #[.int .i64 0, .int .i64 0]) (t := 30) zh ?_; intro gb521 hg w114 hbox hb; have BK521 := zA (hbox); have GW521 := zA (zG hg (below_size (zB2 HB GE483 GE520)) : w.heap.size ≤ gb521); have GE521 := zA (zG hg (below_size (zB2 HB GE483 GE520)) : w.heap.size ≤ gb521); replace HB := zA (below_step (zB2 HB GE483 GE520) hb); have NB483_521 := zA (zNl hg BK483 : gb483 ≠ gb521); have NB521_483 := zA (zNg hg BK483 : gb521 ≠ gb483); replace BK483 := zKb BK483 hb; have NB520_521 := zA (zNl hg BK520 : gb520 ≠ gb521); have NB521_520 := zA (zNg hg BK520 : gb521 ≠ gb520); replace BK520 := zKb BK520 hb; clear hb hbox hg; have hnb115 := NB520_483.out; have hnc115 := NB483_520.out; have hnb116 := NB520_521.out; have hnc116 := NB521_520.out; obtain ⟨z117_0, z117_1, z117_2, z117_3, y117_0, y117_1, y117_2, y117_3⟩ := zc4 BK520; have hnb118 := NB521_483.out; have hnc118 := NB483_521.out; obtain ⟨z119_0, z119_1, y119_0, y119_1⟩ := zc2 BK521) | ((with_reducible refine gate_callee (f := 35) rfl ?_); refine goesL_ (some 254) rfl rfl Try.func35 zn rfl #[.agg #[.int .i64 t511, .int .i64 t512, .bool t513, .bool t514], .agg #[.int .i64 t515, .int .i64 t516], .int .i64 t517, .int .i64 t518, .int .i64 t519] rfl zm ?_; (with_reducible refine (impl_TwoSteps.calls kj69 t511 t512 t513 t514 t515 t516 t517 t518 t519 t522 t525 _ A104.out).mono ?_); rintro e w120 ⟨v523, rfl, ho0, hb⟩; refine ⟨_, rfl, ?_⟩; have HO524 := zA (Kd.R_lower ho0 (below_size (zB3 HB GE483 GE520 GE521))); replace BK483 := zA (blk_below (g := gb483) (o := .cells #[.int .i64 t476, .int .i64 t477, .bool t478, .bool t479] 28 (0, 0)) (by (with_reducible repeat (first | refine blk_drewN ?_ _ | refine blk_drew ?_ | refine blk_alloc ?_ _)); refine blk_far ?_ NB483_521.out _; (with_reducible repeat (first | refine blk_drewN ?_ _ | refine blk_drew ?_ | refine blk_alloc ?_ _)); refine blk_far ?_ NB483_521.out _; (with_reducible repeat (first | refine blk_drewN ?_ _ | refine blk_drew ?_ | refine blk_alloc ?_ _)); refine blk_far ?_ NB483_520.out _; (with_reducible repeat (first | refine blk_drewN ?_ _ | refine blk_drew ?_ | refine blk_alloc ?_ _)); refine blk_far ?_ NB483_520.out _; (with_reducible repeat (first | refine blk_drewN ?_ _ | refine blk_drew ?_ | refine blk_alloc ?_ _)); refine blk_far ?_ NB483_520.out _; (with_reducible repeat (first | refine blk_drewN ?_ _ | refine blk_drew ?_ | refine blk_alloc ?_ _)); refine blk_far ?_ NB483_520.out _; (with_reducible repeat (first | refine blk_drewN ?_ _ | refine blk_drew ?_ | refine blk_alloc ?_ _)); exact BK483.out) hb); replace BK520 := zA (blk_below (g := gb520) (o := .cells #[.int .i64 t511, .int .i64 t512, .bool t513, .bool t514] 28 (0, 0)) (by (with_reducible repeat (first | refine blk_drewN ?_ _ | refine blk_drew ?_ | refine blk_alloc ?_ _)); refine blk_far ?_ NB520_521.out _; (with_reducible repeat (first | refine blk_drewN ?_ _ | refine blk_drew ?_ | refine blk_alloc ?_ _)); refine blk_far ?_ NB520_521.out _; (with_reducible repeat (first | refine blk_drewN ?_ _ | refine blk_drew ?_ | refine blk_alloc ?_ _)); refine blk_put (cs := #[.int .i64 t511, .int .i64 t512, .bool t513, .bool false]) ?_ 3 _ rfl; (with_reducible repeat (first | refine blk_drewN ?_ _ | refine blk_drew ?_ | refine blk_alloc ?_ _)); refine blk_put (cs := #[.int .i64 t511, .int .i64 t512, .bool false, .bool false]) ?_ 2 _ rfl; (with_reducible repeat (first | refine blk_drewN ?_ _ | refine blk_drew ?_ | refine blk_alloc ?_ _)); refine blk_put (cs := #[.int .i64 t511, .int .i64 0, .bool false, .bool false]) ?_ 1 _ rfl; (with_reducible repeat (first | refine blk_drewN ?_ _ | refine blk_drew ?_ | refine blk_alloc ?_ _)); refine blk_put (cs := #[.int .i64 0, .int .i64 0, .bool false, .bool false]) ?_ 0 _ rfl; (with_reducible repeat (first | refine blk_drewN ?_ _ | refine blk_drew ?_ | refine blk_alloc ?_ _)); exact BK520.out) hb); replace BK521 := zA (blk_below (g := gb521) (o := .cells #[.int .i64 t515, .int .i64 t516] 30 (0, 0)) (by (with_reducible repeat (first | refine blk_drewN ?_ _ | refine blk_drew ?_ | refine blk_alloc ?_ _)); refine blk_put (cs := #[.int .i64 t515, .int .i64 0]) ?_ 1 _ rfl; (with_reducible repeat (first | refine blk_drewN ?_ _ | refine blk_drew ?_ | refine blk_alloc ?_ _)); refine blk_put (cs := #[.int .i64 0, .int .i64 0]) ?_ 0 _ rfl; (with_reducible repeat (first | refine blk_drewN ?_ _ | refine blk_drew ?_ | refine blk_alloc ?_ _)); refine blk_far ?_ NB521_520.out _; (with_reducible repeat (first | refine blk_drewN ?_ _ | refine blk_drew ?_ | refine blk_alloc ?_ _)); refine blk_far ?_ NB521_520.out _; (with_reducible repeat (first | refine blk_drewN ?_ _ | refine blk_drew ?_ | refine blk_alloc ?_ _)); refine blk_far ?_ NB521_520.out _; (with_reducible repeat (first | refine blk_drewN ?_ _ | refine blk_drew ?_ | refine blk_alloc ?_ _)); refine blk_far ?_ NB521_520.out _; (with_reducible repeat (first | refine blk_drewN ?_ _ | refine blk_drew ?_ | refine blk_alloc ?_ _)); exact BK521.out) hb); replace HB := zA (below_step (zB3 HB GE483 GE520 GE521) hb); (try clear hb); (try clear hb2); (try clear hk); (try clear hi); (try clear ho0); obtain ⟨z121_0, z121_1, z121_2, z121_3, y121_0, y121_1, y121_2, y121_3⟩ := zc4 BK520; obtain ⟨z122_0, z122_1, y122_0, y122_1⟩ := zc2 BK521) | ((with_reducible refine gate_callee (f := 34) rfl ?_); refine goesL_ (some 263) rfl rfl Try.func34 zn rfl #[.agg #[.int .i64 t511, .int .i64 t512, .bool t513, .bool t514], .agg #[.int .i64 t515, .int .i64 t516], .int .i64 t517, .int .i64 t518, .int .i64 t519] rfl zm ?_; (with_reducible refine (spec_TwoSteps.calls kj69 t511 t512 t513 t514 t515 t516 t517 t518 t519 t526 t529 _ A105.out).mono ?_); rintro e w123 ⟨v527, rfl, ho0, hb⟩; refine ⟨_, rfl, ?_⟩; have HO528 := zA (Kd.R_lower (Kd.R_new' ho0 (Kd.R_lt (zR HO524.out))) (below_size (zB3 HB GE483 GE520 GE521))); replace HO524 := zA (Kd.R_elder' (zR HO524.out) (Kd.R_base ho0) hb); replace BK483 := zKb BK483 hb; replace BK520 := zKb BK520 hb; replace BK521 := zKb BK521 hb; replace HB := zA (below_step (zB3 HB GE483 GE520 GE521) hb); (try clear hb); (try clear hb2); (try clear hk); (try clear hi); (try clear ho0); obtain ⟨z124_0, z124_1, z124_2, z124_3, y124_0, y124_1, y124_2, y124_3⟩ := zc4 BK520; obtain ⟨z125_0, z125_1, y125_0, y125_1⟩ := zc2 BK521) | ((with_reducible refine gate_callee (f := 54) rfl ?_); refine goesL_ (some 272) rfl rfl Try.func54 zn rfl #[.agg #[.int .i64 t511, .int .i64 t512, .bool t513, .bool t514], .agg #[.int .i64 t515, .int .i64 t516], .int .i64 t517, .int .i64 t518, .int .i64 t519] rfl zm ?_; (with_reducible refine (impl_VisitsAll.calls kj69 t511 t512 t513 t514 t515 t516 t517 t518 t519 t530 t531 _ A106.out).mono ?_); rintro e w126 ⟨rfl, hb⟩; refine ⟨_, rfl, ?_⟩; replace HO524 := zRb HO524 hb; replace HO528 := zRb HO528 hb; replace BK483 := zKb BK483 hb; replace BK520 := zKb BK520 hb; replace BK521 := zKb BK521 hb; replace HB := zA (below_step (zB3 HB GE483 GE520 GE521) hb); (try clear hb); (try clear hb2); (try clear hk); (try clear hi); obtain ⟨z127_0, z127_1, z127_2, z127_3, y127_0, y127_1, y127_2, y127_3⟩ := zc4 BK520; obtain ⟨z128_0, z128_1, y128_0, y128_1⟩ := zc2 BK521) | ((with_reducible refine gate_callee (f := 55) rfl ?_); refine goesL_ (some 281) rfl rfl Try.func55 zn rfl #[.agg #[.int .i64 t511, .int .i64 t512, .bool t513, .bool t514], .agg #[.int .i64 t515, .int .i64 t516], .int .i64 t517, .int .i64 t518, .int .i64 t519] rfl zm ?_; (with_reducible refine (spec_VisitsAll.calls kj69 t511 t512 t513 t514 t515 t516 t517 t518 t519 t532 t533 _ A107.out).mono ?_); rintro e w129 ⟨rfl, hb⟩; refine ⟨_, rfl, ?_⟩; replace HO524 := zRb HO524 hb; replace HO528 := zRb HO528 hb; replace BK483 := zKb BK483 hb; replace BK520 := zKb BK520 hb; replace BK521 := zKb BK521 hb; replace HB := zA (below_step (zB3 HB GE483 GE520 GE521) hb); (try clear hb); (try clear hb2); (try clear hk); (try clear hi)) | ((with_reducible refine gate_callee (f := 60) rfl ?_); refine goesL_ (some 286) rfl rfl Try.func60 zn rfl #[.slice A1 l1.length c1] rfl zm ?_; (with_reducible refine (spec_DrawFirstTwoSteps.calls _ _ l1 t534 t535 t536 t537 t538 t539 _ ?side1 ?side2 A108.out).mono ?_); (case side1 => repeat (first | exact (Kd.C_below HR1.out HB.out) | (with_reducible refine Kd.C_alloc ?_ _) | (with_reducible refine Kd.C_drewN ?_ _) | (with_reducible refine Kd.C_drew ?_))); (case side2 => exact HC1.out); rintro e w130 ⟨rfl, hb⟩; refine ⟨_, rfl, ?_⟩; replace HO524 := zRb HO524 hb; replace HO528 := zRb HO528 hb; replace BK483 := zKb BK483 hb; replace BK520 := zKb BK520 hb; replace BK521 := zKb BK521 hb; replace HB := zA (below_step (zB3 HB GE483 GE520 GE521) hb); (try clear hb); (try clear hb2); (try clear hk); (try clear hi)) | ((with_reducible refine gate_dst (N := 39) rfl ?_); (try (refine gate_guard (by rfl) ?_; dsimp only)); refine box_event zr (N := 39) zr (cs := #[.int .i64 0, .int .i64 0, .bool false, .bool false]) (t := 28) zh ?_; intro gb540 hg w131 hbox hb; replace HO524 := zRb HO524 hb; replace HO528 := zRb HO528 hb; have BK540 := zA (hbox); have GW540 := zA (zG hg (below_size (zB3 HB GE483 GE520 GE521)) : w.heap.size ≤ gb540); have GE540 := zA (zG hg (below_size (zB3 HB GE483 GE520 GE521)) : w.heap.size ≤ gb540); replace HB := zA (below_step (zB3 HB GE483 GE520 GE521) hb); have NB483_540 := zA (zNl hg BK483 : gb483 ≠ gb540); have NB540_483 := zA (zNg hg BK483 : gb540 ≠ gb483); replace BK483 := zKb BK483 hb; have NB520_540 := zA (zNl hg BK520 : gb520 ≠ gb540); have NB540_520 := zA (zNg hg BK520 : gb540 ≠ gb520); replace BK520 := zKb BK520 hb; have NB521_540 := zA (zNl hg BK521 : gb521 ≠ gb540); have NB540_521 := zA (zNg hg BK521 : gb540 ≠ gb521); replace BK521 := zKb BK521 hb; clear hb hbox hg) | ((with_reducible refine gate_dst (N := 40) rfl ?_); (try (refine gate_guard (by rfl) ?_; dsimp only)); refine box_event zr (N := 40) zr (cs := #[.int .i64 0, .int .i64 0]) (t := 30) zh ?_; intro gb541 hg w132 hbox hb; replace HO524 := zRb HO524 hb; replace HO528 := zRb HO528 hb; have BK541 := zA (hbox); have GW541 := zA (zG hg (below_size (zB4 HB GE483 GE520 GE521 GE540)) : w.heap.size ≤ gb541); have GE541 := zA (zG hg (below_size (zB4 HB GE483 GE520 GE521 GE540)) : w.heap.size ≤ gb541); replace HB := zA (below_step (zB4 HB GE483 GE520 GE521 GE540) hb); have NB483_541 := zA (zNl hg BK483 : gb483 ≠ gb541); have NB541_483 := zA (zNg hg BK483 : gb541 ≠ gb483); replace BK483 := zKb BK483 hb; have NB520_541 := zA (zNl hg BK520 : gb520 ≠ gb541); have NB541_520 := zA (zNg hg BK520 : gb541 ≠ gb520); replace BK520 := zKb BK520 hb; have NB521_541 := zA (zNl hg BK521 : gb521 ≠ gb541); have NB541_521 := zA (zNg hg BK521 : gb541 ≠ gb521); replace BK521 := zKb BK521 hb; have NB540_541 := zA (zNl hg BK540 : gb540 ≠ gb541); have NB541_540 := zA (zNg hg BK540 : gb541 ≠ gb540); replace BK540 := zKb BK540 hb; clear hb hbox hg; have hnb133 := NB540_483.out; have hnc133 := NB483_540.out; have hnb134 := NB540_520.out; have hnc134 := NB520_540.out; have hnb135 := NB540_521.out; have hnc135 := NB521_540.out; have hnb136 := NB540_541.out; have hnc136 := NB541_540.out; obtain ⟨z137_0, z137_1, z137_2, z137_3, y137_0, y137_1, y137_2, y137_3⟩ := zc4 BK540; have hnb138 := NB541_483.out; have hnc138 := NB483_541.out; have hnb139 := NB541_520.out; have hnc139 := NB520_541.out; have hnb140 := NB541_521.out; have hnc140 := NB521_541.out; obtain ⟨z141_0, z141_1, y141_0, y141_1⟩ := zc2 BK541) | ((with_reducible refine gate_callee (f := 18) rfl ?_); refine goesL_ (some 292) rfl rfl Try.func18 zn rfl #[.agg #[.int .i64 t534, .int .i64 t535, .bool t536, .bool t537], .agg #[.int .i64 t538, .int .i64 t539]] rfl zm ?_; (with_reducible refine (impl_FirstTwoSteps.calls kj69 t534 t535 t536 t537 t538 t539 t542 t543 t544 t545 _ A109.out).mono ?_); rintro e w142 ⟨rfl, hb⟩; refine ⟨_, rfl, ?_⟩; replace HO524 := zA (Kd.R_below (by (with_reducible repeat (first | apply Kd.R_alloc | apply Kd.R_drewN | apply Kd.R_drew)); exact (Kd.R_mono (Kd.R_mono (Kd.R_far (p := ⟨gb541, 1, none⟩) (Kd.R_far (p := ⟨gb541, 0, none⟩) (Kd.R_far (p := ⟨gb540, 3, none⟩) (Kd.R_far (p := ⟨gb540, 2, none⟩) (Kd.R_far (p := ⟨gb540, 1, none⟩) (Kd.R_far (p := ⟨gb540, 0, none⟩) (Kd.R_types (Kd.R_types HO524.out BK540.out (by decide)) BK541.out (by decide)) (fun _ hk => hk.1.2) (.int .i64 t534)) (fun _ hk => hk.1.2) (.int .i64 t535)) (fun _ hk => hk.1.2) (.bool t536)) (fun _ hk => hk.1.2) (.bool t537)) (fun _ hk => hk.2) (.int .i64 t538)) (fun _ hk => hk.2) (.int .i64 t539)) (fun _ h_ => h_.1)) (fun _ h_ => h_.1))) hb); replace HO528 := zA (Kd.R_below (by (with_reducible repeat (first | apply Kd.R_alloc | apply Kd.R_drewN | apply Kd.R_drew)); exact (Kd.R_mono (Kd.R_mono (Kd.R_far (p := ⟨gb541, 1, none⟩) (Kd.R_far (p := ⟨gb541, 0, none⟩) (Kd.R_far (p := ⟨gb540, 3, none⟩) (Kd.R_far (p := ⟨gb540, 2, none⟩) (Kd.R_far (p := ⟨gb540, 1, none⟩) (Kd.R_far (p := ⟨gb540, 0, none⟩) (Kd.R_types (Kd.R_types HO528.out BK540.out (by decide)) BK541.out (by decide)) (fun _ hk => hk.1.2) (.int .i64 t534)) (fun _ hk => hk.1.2) (.int .i64 t535)) (fun _ hk => hk.1.2) (.bool t536)) (fun _ hk => hk.1.2) (.bool t537)) (fun _ hk => hk.2) (.int .i64 t538)) (fun _ hk => hk.2) (.int .i64 t539)) (fun _ h_ => h_.1)) (fun _ h_ => h_.1))) hb); replace BK483 := zA (blk_below (g := gb483) (o := .cells #[.int .i64 t476, .int .i64 t477, .bool t478, .bool t479] 28 (0, 0)) (by (with_reducible repeat (first | refine blk_drewN ?_ _ | refine blk_drew ?_ | refine blk_alloc ?_ _)); refine blk_far ?_ NB483_541.out _; (with_reducible repeat (first | refine blk_drewN ?_ _ | refine blk_drew ?_ | refine blk_alloc ?_ _)); refine blk_far ?_ NB483_541.out _; (with_reducible repeat (first | refine blk_drewN ?_ _ | refine blk_drew ?_ | refine blk_alloc ?_ _)); refine blk_far ?_ NB483_540.out _; (with_reducible repeat (first | refine blk_drewN ?_ _ | refine blk_drew ?_ | refine blk_alloc ?_ _)); refine blk_far ?_ NB483_540.out _; (with_reducible repeat (first | refine blk_drewN ?_ _ | refine blk_drew ?_ | refine blk_alloc ?_ _)); refine blk_far ?_ NB483_540.out _; (with_reducible repeat (first | refine blk_drewN ?_ _ | refine blk_drew ?_ | refine blk_alloc ?_ _)); refine blk_far ?_ NB483_540.out _; (with_reducible repeat (first | refine blk_drewN ?_ _ | refine blk_drew ?_ | refine blk_alloc ?_ _)); exact BK483.out) hb); replace BK520 := zA (blk_below (g := gb520) (o := .cells #[.int .i64 t511, .int .i64 t512, .bool t513, .bool t514] 28 (0, 0)) (by (with_reducible repeat (first | refine blk_drewN ?_ _ | refine blk_drew ?_ | refine blk_alloc ?_ _)); refine blk_far ?_ NB520_541.out _; (with_reducible repeat (first | refine blk_drewN ?_ _ | refine blk_drew ?_ | refine blk_alloc ?_ _)); refine blk_far ?_ NB520_541.out _; (with_reducible repeat (first | refine blk_drewN ?_ _ | refine blk_drew ?_ | refine blk_alloc ?_ _)); refine blk_far ?_ NB520_540.out _; (with_reducible repeat (first | refine blk_drewN ?_ _ | refine blk_drew ?_ | refine blk_alloc ?_ _)); refine blk_far ?_ NB520_540.out _; (with_reducible repeat (first | refine blk_drewN ?_ _ | refine blk_drew ?_ | refine blk_alloc ?_ _)); refine blk_far ?_ NB520_540.out _; (with_reducible repeat (first | refine blk_drewN ?_ _ | refine blk_drew ?_ | refine blk_alloc ?_ _)); refine blk_far ?_ NB520_540.out _; (with_reducible repeat (first | refine blk_drewN ?_ _ | refine blk_drew ?_ | refine blk_alloc ?_ _)); exact BK520.out) hb); replace BK521 := zA (blk_below (g := gb521) (o := .cells #[.int .i64 t515, .int .i64 t516] 30 (0, 0)) (by (with_reducible repeat (first | refine blk_drewN ?_ _ | refine blk_drew ?_ | refine blk_alloc ?_ _)); refine blk_far ?_ NB521_541.out _; (with_reducible repeat (first | refine blk_drewN ?_ _ | refine blk_drew ?_ | refine blk_alloc ?_ _)); refine blk_far ?_ NB521_541.out _; (with_reducible repeat (first | refine blk_drewN ?_ _ | refine blk_drew ?_ | refine blk_alloc ?_ _)); refine blk_far ?_ NB521_540.out _; (with_reducible repeat (first | refine blk_drewN ?_ _ | refine blk_drew ?_ | refine blk_alloc ?_ _)); refine blk_far ?_ NB521_540.out _; (with_reducible repeat (first | refine blk_drewN ?_ _ | refine blk_drew ?_ | refine blk_alloc ?_ _)); refine blk_far ?_ NB521_540.out _; (with_reducible repeat (first | refine blk_drewN ?_ _ | refine blk_drew ?_ | refine blk_alloc ?_ _)); refine blk_far ?_ NB521_540.out _; (with_reducible repeat (first | refine blk_drewN ?_ _ | refine blk_drew ?_ | refine blk_alloc ?_ _)); exact BK521.out) hb); replace BK540 := zA (blk_below (g := gb540) (o := .cells #[.int .i64 t534, .int .i64 t535, .bool t536, .bool t537] 28 (0, 0)) (by (with_reducible repeat (first | refine blk_drewN ?_ _ | refine blk_drew ?_ | refine blk_alloc ?_ _)); refine blk_far ?_ NB540_541.out _; (with_reducible repeat (first | refine blk_drewN ?_ _ | refine blk_drew ?_ | refine blk_alloc ?_ _)); refine blk_far ?_ NB540_541.out _; (with_reducible repeat (first | refine blk_drewN ?_ _ | refine blk_drew ?_ | refine blk_alloc ?_ _)); refine blk_put (cs := #[.int .i64 t534, .int .i64 t535, .bool t536, .bool false]) ?_ 3 _ rfl; (with_reducible repeat (first | refine blk_drewN ?_ _ | refine blk_drew ?_ | refine blk_alloc ?_ _)); refine blk_put (cs := #[.int .i64 t534, .int .i64 t535, .bool false, .bool false]) ?_ 2 _ rfl; (with_reducible repeat (first | refine blk_drewN ?_ _ | refine blk_drew ?_ | refine blk_alloc ?_ _)); refine blk_put (cs := #[.int .i64 t534, .int .i64 0, .bool false, .bool false]) ?_ 1 _ rfl; (with_reducible repeat (first | refine blk_drewN ?_ _ | refine blk_drew ?_ | refine blk_alloc ?_ _)); refine blk_put (cs := #[.int .i64 0, .int .i64 0, .bool false, .bool false]) ?_ 0 _ rfl; (with_reducible repeat (first | refine blk_drewN ?_ _ | refine blk_drew ?_ | refine blk_alloc ?_ _)); exact BK540.out) hb); replace BK541 := zA (blk_below (g := gb541) (o := .cells #[.int .i64 t538, .int .i64 t539] 30 (0, 0)) (by (with_reducible repeat (first | refine blk_drewN ?_ _ | refine blk_drew ?_ | refine blk_alloc ?_ _)); refine blk_put (cs := #[.int .i64 t538, .int .i64 0]) ?_ 1 _ rfl; (with_reducible repeat (first | refine blk_drewN ?_ _ | refine blk_drew ?_ | refine blk_alloc ?_ _)); refine blk_put (cs := #[.int .i64 0, .int .i64 0]) ?_ 0 _ rfl; (with_reducible repeat (first | refine blk_drewN ?_ _ | refine blk_drew ?_ | refine blk_alloc ?_ _)); refine blk_far ?_ NB541_540.out _; (with_reducible repeat (first | refine blk_drewN ?_ _ | refine blk_drew ?_ | refine blk_alloc ?_ _)); refine blk_far ?_ NB541_540.out _; (with_reducible repeat (first | refine blk_drewN ?_ _ | refine blk_drew ?_ | refine blk_alloc ?_ _)); refine blk_far ?_ NB541_540.out _; (with_reducible repeat (first | refine blk_drewN ?_ _ | refine blk_drew ?_ | refine blk_alloc ?_ _)); refine blk_far ?_ NB541_540.out _; (with_reducible repeat (first | refine blk_drewN ?_ _ | refine blk_drew ?_ | refine blk_alloc ?_ _)); exact BK541.out) hb); replace HB := zA (below_step (zB5 HB GE483 GE520 GE521 GE540 GE541) hb); (try clear hb); (try clear hb2); (try clear hk); (try clear hi); obtain ⟨z143_0, z143_1, z143_2, z143_3, y143_0, y143_1, y143_2, y143_3⟩ := zc4 BK540; obtain ⟨z144_0, z144_1, y144_0, y144_1⟩ := zc2 BK541) | ((with_reducible refine gate_callee (f := 15) rfl ?_); refine goesL_ (some 300) rfl rfl Try.func15 zn rfl #[.agg #[.int .i64 t534, .int .i64 t535, .bool t536, .bool t537], .agg #[.int .i64 t538, .int .i64 t539]] rfl zm ?_; (with_reducible refine (spec_FirstTwoSteps.calls kj69 t534 t535 t536 t537 t538 t539 t546 t547 t548 t549 _ A110.out).mono ?_); rintro e w145 ⟨rfl, hb⟩; refine ⟨_, rfl, ?_⟩; replace HO524 := zRb HO524 hb; replace HO528 := zRb HO528 hb; replace BK483 := zKb BK483 hb; replace BK520 := zKb BK520 hb; replace BK521 := zKb BK521 hb; replace BK540 := zKb BK540 hb; replace BK541 := zKb BK541 hb; replace HB := zA (below_step (zB5 HB GE483 GE520 GE521 GE540 GE541) hb); (try clear hb); (try clear hb2); (try clear hk); (try clear hi)))
         (try simp only [Act.put, List.setIfInBounds_toArray, List.set_cons_zero, List.set_cons_succ])
         go_cut [348] from 9999 to 9999 (fun v348 wc => ∃ (kq : Nat) (x348_110 : Bool), v348 = .bool x348_110 ∧ Aside0 (laws_FnOrbitsShare.j6 kq t517 t518 t519 t522 t525 t530 t542 t543 t544 t545 x348_110 t511 t512 t513 t514 t515 t516 t534 t535 t536 t537 t538 t539 = some r) ∧ Aside0 (kq ≤ kj69) ∧ Aside0 (Kd.R (Kd.int .i64) 3 wc w.heap.size (fun _ => True) v523 t522) ∧ Aside0 (wc.heap[gb483]? = some (.cells #[.int .i64 t476, .int .i64 t477, .bool t478, .bool t479] 28 (0, 0))) ∧ Aside0 (wc.heap[gb520]? = some (.cells #[.int .i64 t511, .int .i64 t512, .bool t513, .bool t514] 28 (0, 0))) ∧ Aside0 (wc.heap[gb521]? = some (.cells #[.int .i64 t515, .int .i64 t516] 30 (0, 0))) ∧ Aside0 (wc.heap[gb540]? = some (.cells #[.int .i64 t534, .int .i64 t535, .bool t536, .bool t537] 28 (0, 0))) ∧ Aside0 (wc.heap[gb541]? = some (.cells #[.int .i64 t538, .int .i64 t539] 30 (0, 0))) ∧ Aside0 (Below w.heap.size w wc))
         case first => as_aux_lemma =>
          have H := HC111.out
          clear HC111
          by_cases c146 : (t525 != t529) = true
          ·rw [if_pos c146] at H
           have c146b0 := c146
           obtain ⟨c146b1, c146b2, c146b3⟩ := zne c146
           clear c146
           (first | rw [c146b0] | (simp only [i64_w, i32_w]; rw [c146b0]) | skip)
           have H' := zA H
           clear H
           go_wp2
           go_meet
           case rel => exact ⟨_, (true), ze, H', ⟨by have := HJ11.out; have := HJ52.out; have := HJ69.out; first | omega | exact Nat.le_refl _⟩, ⟨zR (Kd.R_mono HO524.out (fun _ hk => trivial))⟩, ⟨zK BK483⟩, ⟨zK BK520⟩, ⟨zK BK521⟩, ⟨zK BK540⟩, ⟨zK BK541⟩, ⟨zB5 HB GE483 GE520 GE521 GE540 GE541⟩⟩
          ·as_aux_lemma =>
           rw [if_neg c146] at H
           obtain ⟨c146b0, c146b1, c146b2⟩ := znf c146
           clear c146
           (first | rw [c146b0] | (simp only [i64_w, i32_w]; rw [c146b0]) | skip)
           obtain ⟨t550, A147, H⟩ := zM H
           try dsimp only at H
           by_cases c148 : t550 = true
           ·as_aux_lemma =>
            subst c148
            have H1 : (if (t531 != t533) = true then (laws_FnOrbitsShare.j6 kj69 t517 t518 t519 t522 t525 t530 t542 t543 t544 t545 true t511 t512 t513 t514 t515 t516 t534 t535 t536 t537 t538 t539) else (if (t530 != t532) = true then (laws_FnOrbitsShare.j6 kj69 t517 t518 t519 t522 t525 t530 t542 t543 t544 t545 true t511 t512 t513 t514 t515 t516 t534 t535 t536 t537 t538 t539) else (if (t531 != t525) = true then (laws_FnOrbitsShare.j6 kj69 t517 t518 t519 t522 t525 t530 t542 t543 t544 t545 true t511 t512 t513 t514 t515 t516 t534 t535 t536 t537 t538 t539) else (if (t545 != t549) = true then (laws_FnOrbitsShare.j6 kj69 t517 t518 t519 t522 t525 t530 t542 t543 t544 t545 true t511 t512 t513 t514 t515 t516 t534 t535 t536 t537 t538 t539) else (if t542 = t546 then (if t543 = t547 then (laws_FnOrbitsShare.j6 kj69 t517 t518 t519 t522 t525 t530 t542 t543 t544 t545 (t544 != t548) t511 t512 t513 t514 t515 t516 t534 t535 t536 t537 t538 t539) else (laws_FnOrbitsShare.j6 kj69 t517 t518 t519 t522 t525 t530 t542 t543 t544 t545 true t511 t512 t513 t514 t515 t516 t534 t535 t536 t537 t538 t539)) else (laws_FnOrbitsShare.j6 kj69 t517 t518 t519 t522 t525 t530 t542 t543 t544 t545 true t511 t512 t513 t514 t515 t516 t534 t535 t536 t537 t538 t539)))))) = some r := by rw [if_pos rfl] at H; exact H
            clear H
            have H := H1
            clear H1
            by_cases c149 : (t531 != t533) = true
            ·rw [if_pos c149] at H
             have c149b0 := c149
             obtain ⟨c149b1, c149b2, c149b3⟩ := zne c149
             clear c149
             have H' := zA H
             clear H
             obtain ⟨Ao150, co150, eo150⟩ := Kd.R_slice HO524.out
             subst eo150
             obtain ⟨Ao151, co151, eo151⟩ := Kd.R_slice HO528.out
             subst eo151
             go_wp2_with (first | (go_at_call 51; (with_reducible refine (laws_nSame.calls kj69 _ _ t522 _ _ t526 true _ ?side1 ?side2 ?side3 ?side4 A147.out).mono ?_); (case side1 => exact zC (Kd.R_reads' HO524.out).2.2); (case side2 => exact (Kd.R_reads' HO524.out).2.1); (case side3 => exact zC (Kd.R_reads' HO528.out).2.2); (case side4 => exact (Kd.R_reads' HO528.out).2.1); rintro e w' ⟨rfl, ⟨nd, rfl⟩⟩))
             go_meet
             case rel => exact ⟨_, (true), ze, H', ⟨by have := HJ11.out; have := HJ52.out; have := HJ69.out; first | omega | exact Nat.le_refl _⟩, ⟨zR (Kd.R_mono HO524.out (fun _ hk => trivial))⟩, ⟨zK BK483⟩, ⟨zK BK520⟩, ⟨zK BK521⟩, ⟨zK BK540⟩, ⟨zK BK541⟩, ⟨zB5 HB GE483 GE520 GE521 GE540 GE541⟩⟩
            ·as_aux_lemma =>
             rw [if_neg c149] at H
             obtain ⟨c149b0, c149b1, c149b2⟩ := znf c149
             clear c149
             by_cases c152 : (t530 != t532) = true
             ·rw [if_pos c152] at H
              have c152b0 := c152
              obtain ⟨c152b1, c152b2, c152b3⟩ := zne c152
              clear c152
              have H' := zA H
              clear H
              obtain ⟨Ao153, co153, eo153⟩ := Kd.R_slice HO524.out
              subst eo153
              obtain ⟨Ao154, co154, eo154⟩ := Kd.R_slice HO528.out
              subst eo154
              go_wp2_with (first | (go_at_call 51; (with_reducible refine (laws_nSame.calls kj69 _ _ t522 _ _ t526 true _ ?side1 ?side2 ?side3 ?side4 A147.out).mono ?_); (case side1 => exact zC (Kd.R_reads' HO524.out).2.2); (case side2 => exact (Kd.R_reads' HO524.out).2.1); (case side3 => exact zC (Kd.R_reads' HO528.out).2.2); (case side4 => exact (Kd.R_reads' HO528.out).2.1); rintro e w' ⟨rfl, ⟨nd, rfl⟩⟩))
              go_meet
              case rel => exact ⟨_, (true), ze, H', ⟨by have := HJ11.out; have := HJ52.out; have := HJ69.out; first | omega | exact Nat.le_refl _⟩, ⟨zR (Kd.R_mono HO524.out (fun _ hk => trivial))⟩, ⟨zK BK483⟩, ⟨zK BK520⟩, ⟨zK BK521⟩, ⟨zK BK540⟩, ⟨zK BK541⟩, ⟨zB5 HB GE483 GE520 GE521 GE540 GE541⟩⟩
             ·as_aux_lemma =>
              rw [if_neg c152] at H
              obtain ⟨c152b0, c152b1, c152b2⟩ := znf c152
              clear c152
              by_cases c155 : (t531 != t525) = true
              ·rw [if_pos c155] at H
               have c155b0 := c155
               obtain ⟨c155b1, c155b2, c155b3⟩ := zne c155
               clear c155
               have H' := zA H
               clear H
               obtain ⟨Ao156, co156, eo156⟩ := Kd.R_slice HO524.out
               subst eo156
               obtain ⟨Ao157, co157, eo157⟩ := Kd.R_slice HO528.out
               subst eo157
               go_wp2_with (first | (go_at_call 51; (with_reducible refine (laws_nSame.calls kj69 _ _ t522 _ _ t526 true _ ?side1 ?side2 ?side3 ?side4 A147.out).mono ?_); (case side1 => exact zC (Kd.R_reads' HO524.out).2.2); (case side2 => exact (Kd.R_reads' HO524.out).2.1); (case side3 => exact zC (Kd.R_reads' HO528.out).2.2); (case side4 => exact (Kd.R_reads' HO528.out).2.1); rintro e w' ⟨rfl, ⟨nd, rfl⟩⟩))
               go_meet
               case rel => exact ⟨_, (true), ze, H', ⟨by have := HJ11.out; have := HJ52.out; have := HJ69.out; first | omega | exact Nat.le_refl _⟩, ⟨zR (Kd.R_mono HO524.out (fun _ hk => trivial))⟩, ⟨zK BK483⟩, ⟨zK BK520⟩, ⟨zK BK521⟩, ⟨zK BK540⟩, ⟨zK BK541⟩, ⟨zB5 HB GE483 GE520 GE521 GE540 GE541⟩⟩
              ·rw [if_neg c155] at H
               obtain ⟨c155b0, c155b1, c155b2⟩ := znf c155
               clear c155
               by_cases c158 : (t545 != t549) = true
               ·rw [if_pos c158] at H
                have c158b0 := c158
                obtain ⟨c158b1, c158b2, c158b3⟩ := zne c158
                clear c158
                have H' := zA H
                clear H
                obtain ⟨Ao159, co159, eo159⟩ := Kd.R_slice HO524.out
                subst eo159
                obtain ⟨Ao160, co160, eo160⟩ := Kd.R_slice HO528.out
                subst eo160
                go_wp2_with (first | (go_at_call 51; (with_reducible refine (laws_nSame.calls kj69 _ _ t522 _ _ t526 true _ ?side1 ?side2 ?side3 ?side4 A147.out).mono ?_); (case side1 => exact zC (Kd.R_reads' HO524.out).2.2); (case side2 => exact (Kd.R_reads' HO524.out).2.1); (case side3 => exact zC (Kd.R_reads' HO528.out).2.2); (case side4 => exact (Kd.R_reads' HO528.out).2.1); rintro e w' ⟨rfl, ⟨nd, rfl⟩⟩))
                go_meet
                case rel => exact ⟨_, (true), ze, H', ⟨by have := HJ11.out; have := HJ52.out; have := HJ69.out; first | omega | exact Nat.le_refl _⟩, ⟨zR (Kd.R_mono HO524.out (fun _ hk => trivial))⟩, ⟨zK BK483⟩, ⟨zK BK520⟩, ⟨zK BK521⟩, ⟨zK BK540⟩, ⟨zK BK541⟩, ⟨zB5 HB GE483 GE520 GE521 GE540 GE541⟩⟩
               ·rw [if_neg c158] at H
                obtain ⟨c158b0, c158b1, c158b2⟩ := znf c158
                clear c158
                by_cases c161 : t542 = t546
                ·rw [if_pos c161] at H
                 have c161b0 : (t542 == t546) = true := beq_iff_eq.mpr c161
                 have c161b1 : (t542 != t546) = false := bne_eq_false_iff_eq.mpr c161
                 clear c161
                 by_cases c162 : t543 = t547
                 ·rw [if_pos c162] at H
                  have c162b0 : (t543 == t547) = true := beq_iff_eq.mpr c162
                  have c162b1 : (t543 != t547) = false := bne_eq_false_iff_eq.mpr c162
                  clear c162
                  have H' := zA H
                  clear H
                  obtain ⟨Ao163, co163, eo163⟩ := Kd.R_slice HO524.out
                  subst eo163
                  obtain ⟨Ao164, co164, eo164⟩ := Kd.R_slice HO528.out
                  subst eo164
                  go_wp2_with (first | (go_at_call 51; (with_reducible refine (laws_nSame.calls kj69 _ _ t522 _ _ t526 true _ ?side1 ?side2 ?side3 ?side4 A147.out).mono ?_); (case side1 => exact zC (Kd.R_reads' HO524.out).2.2); (case side2 => exact (Kd.R_reads' HO524.out).2.1); (case side3 => exact zC (Kd.R_reads' HO528.out).2.2); (case side4 => exact (Kd.R_reads' HO528.out).2.1); rintro e w' ⟨rfl, ⟨nd, rfl⟩⟩))
                  go_meet
                  case rel => exact ⟨_, ((t544 != t548)), ze, H', ⟨by have := HJ11.out; have := HJ52.out; have := HJ69.out; first | omega | exact Nat.le_refl _⟩, ⟨zR (Kd.R_mono HO524.out (fun _ hk => trivial))⟩, ⟨zK BK483⟩, ⟨zK BK520⟩, ⟨zK BK521⟩, ⟨zK BK540⟩, ⟨zK BK541⟩, ⟨zB5 HB GE483 GE520 GE521 GE540 GE541⟩⟩
                 ·rw [if_neg c162] at H
                  have c162b0 : (t543 == t547) = false := beq_eq_false_iff_ne.mpr c162
                  have c162b1 : (t543 != t547) = true := bne_iff_ne.mpr c162
                  have H' := zA H
                  clear H
                  obtain ⟨Ao165, co165, eo165⟩ := Kd.R_slice HO524.out
                  subst eo165
                  obtain ⟨Ao166, co166, eo166⟩ := Kd.R_slice HO528.out
                  subst eo166
                  go_wp2_with (first | (go_at_call 51; (with_reducible refine (laws_nSame.calls kj69 _ _ t522 _ _ t526 true _ ?side1 ?side2 ?side3 ?side4 A147.out).mono ?_); (case side1 => exact zC (Kd.R_reads' HO524.out).2.2); (case side2 => exact (Kd.R_reads' HO524.out).2.1); (case side3 => exact zC (Kd.R_reads' HO528.out).2.2); (case side4 => exact (Kd.R_reads' HO528.out).2.1); rintro e w' ⟨rfl, ⟨nd, rfl⟩⟩))
                  go_meet
                  case rel => exact ⟨_, (true), ze, H', ⟨by have := HJ11.out; have := HJ52.out; have := HJ69.out; first | omega | exact Nat.le_refl _⟩, ⟨zR (Kd.R_mono HO524.out (fun _ hk => trivial))⟩, ⟨zK BK483⟩, ⟨zK BK520⟩, ⟨zK BK521⟩, ⟨zK BK540⟩, ⟨zK BK541⟩, ⟨zB5 HB GE483 GE520 GE521 GE540 GE541⟩⟩
                ·rw [if_neg c161] at H
                 have c161b0 : (t542 == t546) = false := beq_eq_false_iff_ne.mpr c161
                 have c161b1 : (t542 != t546) = true := bne_iff_ne.mpr c161
                 have H' := zA H
                 clear H
                 obtain ⟨Ao167, co167, eo167⟩ := Kd.R_slice HO524.out
                 subst eo167
                 obtain ⟨Ao168, co168, eo168⟩ := Kd.R_slice HO528.out
                 subst eo168
                 go_wp2_with (first | (go_at_call 51; (with_reducible refine (laws_nSame.calls kj69 _ _ t522 _ _ t526 true _ ?side1 ?side2 ?side3 ?side4 A147.out).mono ?_); (case side1 => exact zC (Kd.R_reads' HO524.out).2.2); (case side2 => exact (Kd.R_reads' HO524.out).2.1); (case side3 => exact zC (Kd.R_reads' HO528.out).2.2); (case side4 => exact (Kd.R_reads' HO528.out).2.1); rintro e w' ⟨rfl, ⟨nd, rfl⟩⟩))
                 go_meet
                 case rel => exact ⟨_, (true), ze, H', ⟨by have := HJ11.out; have := HJ52.out; have := HJ69.out; first | omega | exact Nat.le_refl _⟩, ⟨zR (Kd.R_mono HO524.out (fun _ hk => trivial))⟩, ⟨zK BK483⟩, ⟨zK BK520⟩, ⟨zK BK521⟩, ⟨zK BK540⟩, ⟨zK BK541⟩, ⟨zB5 HB GE483 GE520 GE521 GE540 GE541⟩⟩
           ·replace c148 := Bool.eq_false_iff.mpr c148
            subst c148
            have H1 : (laws_FnOrbitsShare.j6 kj69 t517 t518 t519 t522 t525 t530 t542 t543 t544 t545 true t511 t512 t513 t514 t515 t516 t534 t535 t536 t537 t538 t539) = some r := by rw [if_neg (show ¬ (false = true) by decide)] at H; exact H
            clear H
            have H := H1
            clear H1
            have H' := zA H
            clear H
            obtain ⟨Ao169, co169, eo169⟩ := Kd.R_slice HO524.out
            subst eo169
            obtain ⟨Ao170, co170, eo170⟩ := Kd.R_slice HO528.out
            subst eo170
            go_wp2_with (first | (go_at_call 51; (with_reducible refine (laws_nSame.calls kj69 _ _ t522 _ _ t526 false _ ?side1 ?side2 ?side3 ?side4 A147.out).mono ?_); (case side1 => exact zC (Kd.R_reads' HO524.out).2.2); (case side2 => exact (Kd.R_reads' HO524.out).2.1); (case side3 => exact zC (Kd.R_reads' HO528.out).2.2); (case side4 => exact (Kd.R_reads' HO528.out).2.1); rintro e w' ⟨rfl, ⟨nd, rfl⟩⟩))
            go_meet
            case rel => exact ⟨_, (true), ze, H', ⟨by have := HJ11.out; have := HJ52.out; have := HJ69.out; first | omega | exact Nat.le_refl _⟩, ⟨zR (Kd.R_mono HO524.out (fun _ hk => trivial))⟩, ⟨zK BK483⟩, ⟨zK BK520⟩, ⟨zK BK521⟩, ⟨zK BK540⟩, ⟨zK BK541⟩, ⟨zB5 HB GE483 GE520 GE521 GE540 GE541⟩⟩
         case rest => as_aux_lemma =>
          clear HC111
          (try clear c1); (try clear c4); (try clear c52); (try clear z117_0 z117_1 z117_2 z117_3 y117_0 y117_1 y117_2 y117_3); (try clear z119_0 z119_1 y119_0 y119_1); (try clear z121_0 z121_1 z121_2 z121_3 y121_0 y121_1 y121_2 y121_3); (try clear z122_0 z122_1 y122_0 y122_1); (try clear z124_0 z124_1 z124_2 z124_3 y124_0 y124_1 y124_2 y124_3); (try clear z125_0 z125_1 y125_0 y125_1); (try clear z127_0 z127_1 z127_2 z127_3 y127_0 y127_1 y127_2 y127_3); (try clear z128_0 z128_1 y128_0 y128_1); (try clear z137_0 z137_1 z137_2 z137_3 y137_0 y137_1 y137_2 y137_3); (try clear z141_0 z141_1 y141_0 y141_1); (try clear z143_0 z143_1 z143_2 z143_3 y143_0 y143_1 y143_2 y143_3); (try clear z144_0 z144_1 y144_0 y144_1); (try clear z15_0 z15_1 z15_2 z15_3 y15_0 y15_1 y15_2 y15_3); (try clear z17_0 z17_1 z17_2 z17_3 y17_0 y17_1 y17_2 y17_3); (try clear z19_0 z19_1 z19_2 z19_3 y19_0 y19_1 y19_2 y19_3); (try clear z21_0 z21_1 z21_2 z21_3 y21_0 y21_1 y21_2 y21_3); (try clear z23_0 z23_1 z23_2 z23_3 y23_0 y23_1 y23_2 y23_3); (try clear z25_0 z25_1 z25_2 z25_3 y25_0 y25_1 y25_2 y25_3)
          obtain ⟨kq, x348_110, rfl, HA, HJ110, HO_31, BK483, BK520, BK521, BK540, BK541, HB⟩ := hcut
          cases kq with
          | zero => exact absurd HA.out (by simp [laws_FnOrbitsShare.j6])
          | succ kj110 =>
           have H := HA.out
           clear HA
           simp only [laws_FnOrbitsShare.j6] at H
           by_cases c171 : x348_110 = true
           ·subst c171
            have H1 : (some false) = some r := by rw [if_pos rfl] at H; exact H
            clear H
            have H := H1
            clear H1
            obtain rfl := Option.some.inj H
            go_wp2
            go_ret
            exact ⟨zt, zB5 HB GE483 GE520 GE521 GE540 GE541⟩
           ·replace c171 := Bool.eq_false_iff.mpr c171
            subst c171
            have H1 : (if t525 = true then ((impl_StepsOf.f kj110 t515 t516).bind fun bt551 => (if bt551.2 = true then (if 0 < (t522.length : Int) then (if (rd t522 0) = 0 then (laws_FnOrbitsShare.j7 kj110 t517 t518 t519 t522 t542 t543 t544 t545 bt551.1 (t530 != ((t522.length : Int) == (wrap64 (t511 * t512)))) t511 t512 t513 t514 t534 t535 t536 t537 t538 t539) else (laws_FnOrbitsShare.j7 kj110 t517 t518 t519 t522 t542 t543 t544 t545 bt551.1 true t511 t512 t513 t514 t534 t535 t536 t537 t538 t539)) else (none)) else (laws_FnOrbitsShare.j7 kj110 t517 t518 t519 t522 t542 t543 t544 t545 bt551.1 true t511 t512 t513 t514 t534 t535 t536 t537 t538 t539))) else (if t545 = true then ((impl_VisitsAll.f kj110 t534 t535 t536 t537 t538 t539 t542 t543 t544).bind fun bt582 => (if bt582.2 = true then (some bt582.1) else (some false))) else (some true))) = some r := by rw [if_neg (show ¬ (false = true) by decide)] at H; exact H
            clear H
            have H := H1
            clear H1
            by_cases c172 : t525 = true
            ·as_aux_lemma =>
             subst c172
             have H1 : ((impl_StepsOf.f kj110 t515 t516).bind fun bt551 => (if bt551.2 = true then (if 0 < (t522.length : Int) then (if (rd t522 0) = 0 then (laws_FnOrbitsShare.j7 kj110 t517 t518 t519 t522 t542 t543 t544 t545 bt551.1 (t530 != ((t522.length : Int) == (wrap64 (t511 * t512)))) t511 t512 t513 t514 t534 t535 t536 t537 t538 t539) else (laws_FnOrbitsShare.j7 kj110 t517 t518 t519 t522 t542 t543 t544 t545 bt551.1 true t511 t512 t513 t514 t534 t535 t536 t537 t538 t539)) else (none)) else (laws_FnOrbitsShare.j7 kj110 t517 t518 t519 t522 t542 t543 t544 t545 bt551.1 true t511 t512 t513 t514 t534 t535 t536 t537 t538 t539))) = some r := by rw [if_pos rfl] at H; exact H
             clear H
             have H := H1
             clear H1
             obtain ⟨⟨t551, t554⟩, A173, H⟩ := zM H
             try dsimp only at H
             have HC174 := zA H
             clear H
             have hnb175 := NB521_483.out
             have hnc175 := NB483_521.out
             have hnb176 := NB521_520.out
             have hnc176 := NB520_521.out
             have hnb177 := NB521_540.out
             have hnc177 := NB540_521.out
             have hnb178 := NB521_541.out
             have hnc178 := NB541_521.out
             obtain ⟨z179_0, z179_1, y179_0, y179_1⟩ := zc2 BK521
             go_upto_region 42 with (first | ((with_reducible refine gate_callee (f := 56) rfl ?_); refine goesL_ (some 352) rfl rfl Try.func56 zn rfl #[.agg #[.int .i64 t515, .int .i64 t516]] rfl zm ?_; (with_reducible refine (impl_StepsOf.calls kj110 t515 t516 t551 t554 _ A173.out).mono ?_); rintro e w180 ⟨v552, rfl, ho0, hb⟩; refine ⟨_, rfl, ?_⟩; have HO553 := zA (Kd.S_lower (Kd.S_new' ho0 (Kd.R_lt (zR HO_31.out))) (below_size (zB5 HB GE483 GE520 GE521 GE540 GE541))); replace HO_31 := zRb HO_31 hb; replace BK483 := zKb BK483 hb; replace BK520 := zKb BK520 hb; replace BK521 := zKb BK521 hb; replace BK540 := zKb BK540 hb; replace BK541 := zKb BK541 hb; replace HB := zA (below_step (zB5 HB GE483 GE520 GE521 GE540 GE541) hb); (try clear hb); (try clear hb2); (try clear hk); (try clear hi); (try clear ho0)))
             (try simp only [Act.put, List.setIfInBounds_toArray, List.set_cons_zero, List.set_cons_succ])
             go_cut [374] from 9999 to 9999 (fun v374 wc => ∃ (kq : Nat) (x374_173 : Bool), v374 = .bool x374_173 ∧ Aside0 (laws_FnOrbitsShare.j7 kq t517 t518 t519 t522 t542 t543 t544 t545 t551 x374_173 t511 t512 t513 t514 t534 t535 t536 t537 t538 t539 = some r) ∧ Aside0 (kq ≤ kj110) ∧ Aside0 (Kd.R (Kd.int .i64) 3 wc w.heap.size (fun _ => True) v523 t522) ∧ Aside0 (Kd.S (Kd.slice 3 (Kd.int .i64)) 33 wc w.heap.size (fun k_ => some k_ ≠ (v523 : Value).ownBlock) v552 t551) ∧ Aside0 (wc.heap[gb483]? = some (.cells #[.int .i64 t476, .int .i64 t477, .bool t478, .bool t479] 28 (0, 0))) ∧ Aside0 (wc.heap[gb520]? = some (.cells #[.int .i64 t511, .int .i64 t512, .bool t513, .bool t514] 28 (0, 0))) ∧ Aside0 (wc.heap[gb521]? = some (.cells #[.int .i64 t515, .int .i64 t516] 30 (0, 0))) ∧ Aside0 (wc.heap[gb540]? = some (.cells #[.int .i64 t534, .int .i64 t535, .bool t536, .bool t537] 28 (0, 0))) ∧ Aside0 (wc.heap[gb541]? = some (.cells #[.int .i64 t538, .int .i64 t539] 30 (0, 0))) ∧ Aside0 (Below w.heap.size w wc))
             case first => as_aux_lemma =>
              have H := HC174.out
              clear HC174
              by_cases c181 : t554 = true
              ·subst c181
               have H1 : (if 0 < (t522.length : Int) then (if (rd t522 0) = 0 then (laws_FnOrbitsShare.j7 kj110 t517 t518 t519 t522 t542 t543 t544 t545 t551 (t530 != ((t522.length : Int) == (wrap64 (t511 * t512)))) t511 t512 t513 t514 t534 t535 t536 t537 t538 t539) else (laws_FnOrbitsShare.j7 kj110 t517 t518 t519 t522 t542 t543 t544 t545 t551 true t511 t512 t513 t514 t534 t535 t536 t537 t538 t539)) else (none)) = some r := by rw [if_pos rfl] at H; exact H
               clear H
               have H := H1
               clear H1
               by_cases c182 : 0 < (t522.length : Int)
               ·rw [if_pos c182] at H
                have c182b0 : decide (0 < (t522.length : Int)) = true := decide_eq_true c182
                have c182b1 : decide (0 < t522.length) = true := decide_eq_true (by omega)
                clear c182
                (first | rw [c182b0] | (simp only [i64_w, i32_w]; rw [c182b0]) | skip)
                by_cases c183 : (rd t522 0) = 0
                ·rw [if_pos c183] at H
                 have c183b0 : ((rd t522 0) == 0) = true := beq_iff_eq.mpr c183
                 have c183b1 : ((rd t522 0) != 0) = false := bne_eq_false_iff_eq.mpr c183
                 clear c183
                 have H' := zA H
                 clear H
                 obtain ⟨Ao184, co184, eo184⟩ := Kd.R_slice HO_31.out
                 subst eo184
                 have p555 : 0 ≤ (0 : Int) := (by omega)
                 have q555 : 0 < (t522.length : Int) := zd
                 obtain ⟨ad555, e555, hx555_0⟩ := Kd.at_int (Kd.R_reads' HO_31.out).2.2 0 p555 q555
                 cases e555
                 have qi555 : (0 < t522.length) = True := eq_true (by omega)
                 (try rw [show ((0 : Int)).toNat = 0 from rfl] at hx555_0)
                 (try rw [Addr.add_zero'] at hx555_0)
                 replace p555 := eq_true p555
                 replace q555 := eq_true q555
                 have hnb185 := NB520_483.out
                 have hnc185 := NB483_520.out
                 have hnb186 := NB520_521.out
                 have hnc186 := NB521_520.out
                 have hnb187 := NB520_540.out
                 have hnc187 := NB540_520.out
                 have hnb188 := NB520_541.out
                 have hnc188 := NB541_520.out
                 obtain ⟨z189_0, z189_1, z189_2, z189_3, y189_0, y189_1, y189_2, y189_3⟩ := zc4 BK520
                 go_wp2
                 go_meet
                 case rel => exact ⟨_, ((t530 != ((t522.length : Int) == (wrap64 (t511 * t512))))), ze, H', ⟨by have := HJ11.out; have := HJ52.out; have := HJ69.out; have := HJ110.out; first | omega | exact Nat.le_refl _⟩, ⟨zR HO_31.out⟩, ⟨zL (Kd.S_mono HO553.out (fun _ hk => hk.2))⟩, ⟨zK BK483⟩, ⟨zK BK520⟩, ⟨zK BK521⟩, ⟨zK BK540⟩, ⟨zK BK541⟩, ⟨zB5 HB GE483 GE520 GE521 GE540 GE541⟩⟩
                ·rw [if_neg c183] at H
                 have c183b0 : ((rd t522 0) == 0) = false := beq_eq_false_iff_ne.mpr c183
                 have c183b1 : ((rd t522 0) != 0) = true := bne_iff_ne.mpr c183
                 have H' := zA H
                 clear H
                 obtain ⟨Ao190, co190, eo190⟩ := Kd.R_slice HO_31.out
                 subst eo190
                 have p555 : 0 ≤ (0 : Int) := (by omega)
                 have q555 : 0 < (t522.length : Int) := zd
                 obtain ⟨ad555, e555, hx555_0⟩ := Kd.at_int (Kd.R_reads' HO_31.out).2.2 0 p555 q555
                 cases e555
                 have qi555 : (0 < t522.length) = True := eq_true (by omega)
                 (try rw [show ((0 : Int)).toNat = 0 from rfl] at hx555_0)
                 (try rw [Addr.add_zero'] at hx555_0)
                 replace p555 := eq_true p555
                 replace q555 := eq_true q555
                 go_wp2
                 go_meet
                 case rel => exact ⟨_, (true), ze, H', ⟨by have := HJ11.out; have := HJ52.out; have := HJ69.out; have := HJ110.out; first | omega | exact Nat.le_refl _⟩, ⟨zR HO_31.out⟩, ⟨zL (Kd.S_mono HO553.out (fun _ hk => hk.2))⟩, ⟨zK BK483⟩, ⟨zK BK520⟩, ⟨zK BK521⟩, ⟨zK BK540⟩, ⟨zK BK541⟩, ⟨zB5 HB GE483 GE520 GE521 GE540 GE541⟩⟩
               ·rw [if_neg c182] at H
                exact absurd H (by simp)
              ·replace c181 := Bool.eq_false_iff.mpr c181
               subst c181
               have H1 : (laws_FnOrbitsShare.j7 kj110 t517 t518 t519 t522 t542 t543 t544 t545 t551 true t511 t512 t513 t514 t534 t535 t536 t537 t538 t539) = some r := by rw [if_neg (show ¬ (false = true) by decide)] at H; exact H
               clear H
               have H := H1
               clear H1
               have H' := zA H
               clear H
               go_wp2
               go_meet
               case rel => exact ⟨_, (true), ze, H', ⟨by have := HJ11.out; have := HJ52.out; have := HJ69.out; have := HJ110.out; first | omega | exact Nat.le_refl _⟩, ⟨zR HO_31.out⟩, ⟨zL (Kd.S_mono HO553.out (fun _ hk => hk.2))⟩, ⟨zK BK483⟩, ⟨zK BK520⟩, ⟨zK BK521⟩, ⟨zK BK540⟩, ⟨zK BK541⟩, ⟨zB5 HB GE483 GE520 GE521 GE540 GE541⟩⟩
             case rest => as_aux_lemma =>
              clear HC174
              (try clear c1); (try clear c4); (try clear c52); (try clear c171); (try clear c172); (try clear z117_0 z117_1 z117_2 z117_3 y117_0 y117_1 y117_2 y117_3); (try clear z119_0 z119_1 y119_0 y119_1); (try clear z121_0 z121_1 z121_2 z121_3 y121_0 y121_1 y121_2 y121_3); (try clear z122_0 z122_1 y122_0 y122_1); (try clear z124_0 z124_1 z124_2 z124_3 y124_0 y124_1 y124_2 y124_3); (try clear z125_0 z125_1 y125_0 y125_1); (try clear z127_0 z127_1 z127_2 z127_3 y127_0 y127_1 y127_2 y127_3); (try clear z128_0 z128_1 y128_0 y128_1); (try clear z137_0 z137_1 z137_2 z137_3 y137_0 y137_1 y137_2 y137_3); (try clear z141_0 z141_1 y141_0 y141_1); (try clear z143_0 z143_1 z143_2 z143_3 y143_0 y143_1 y143_2 y143_3); (try clear z144_0 z144_1 y144_0 y144_1); (try clear z15_0 z15_1 z15_2 z15_3 y15_0 y15_1 y15_2 y15_3); (try clear z179_0 z179_1 y179_0 y179_1); (try clear z17_0 z17_1 z17_2 z17_3 y17_0 y17_1 y17_2 y17_3); (try clear z19_0 z19_1 z19_2 z19_3 y19_0 y19_1 y19_2 y19_3); (try clear z21_0 z21_1 z21_2 z21_3 y21_0 y21_1 y21_2 y21_3); (try clear z23_0 z23_1 z23_2 z23_3 y23_0 y23_1 y23_2 y23_3); (try clear z25_0 z25_1 z25_2 z25_3 y25_0 y25_1 y25_2 y25_3)
              obtain ⟨kq, x374_173, rfl, HA, HJ173, HO_31, HO_49, BK483, BK520, BK521, BK540, BK541, HB⟩ := hcut
              cases kq with
              | zero => exact absurd HA.out (by simp [laws_FnOrbitsShare.j7])
              | succ kj173 =>
               have H := HA.out
               clear HA
               simp only [laws_FnOrbitsShare.j7] at H
               by_cases c191 : x374_173 = true
               ·subst c191
                have H1 : (some false) = some r := by rw [if_pos rfl] at H; exact H
                clear H
                have H := H1
                clear H1
                obtain rfl := Option.some.inj H
                go_wp2
                go_ret
                exact ⟨zt, zB5 HB GE483 GE520 GE521 GE540 GE541⟩
               ·replace c191 := Bool.eq_false_iff.mpr c191
                subst c191
                have H1 : (laws_FnOrbitsShare.l2 kj173 t517 t518 t519 t522 t542 t543 t544 t545 t551 1 t511 t512 t513 t514 t534 t535 t536 t537 t538 t539) = some r := by rw [if_neg (show ¬ (false = true) by decide)] at H; exact H
                clear H
                have H := H1
                clear H1
                have H' := zA H
                clear H
                go_wp2
                go_loopg [51] kj173 (fun kq v51 w' => ∃ (x51_6 : Int), v51 = .int .i64 x51_6 ∧ Aside0 (laws_FnOrbitsShare.l2 kq t517 t518 t519 t522 t542 t543 t544 t545 t551 x51_6 t511 t512 t513 t514 t534 t535 t536 t537 t538 t539 = some r) ∧ Aside0 (kq ≤ kj173) ∧ Aside0 (Kd.R (Kd.int .i64) 3 w' w.heap.size (fun _ => True) v523 t522) ∧ Aside0 (Kd.S (Kd.slice 3 (Kd.int .i64)) 33 w' w.heap.size (fun k_ => some k_ ≠ (v523 : Value).ownBlock) v552 t551) ∧ Aside0 (w'.heap[gb483]? = some (.cells #[.int .i64 t476, .int .i64 t477, .bool t478, .bool t479] 28 (0, 0))) ∧ Aside0 (w'.heap[gb520]? = some (.cells #[.int .i64 t511, .int .i64 t512, .bool t513, .bool t514] 28 (0, 0))) ∧ Aside0 (w'.heap[gb521]? = some (.cells #[.int .i64 t515, .int .i64 t516] 30 (0, 0))) ∧ Aside0 (w'.heap[gb540]? = some (.cells #[.int .i64 t534, .int .i64 t535, .bool t536, .bool t537] 28 (0, 0))) ∧ Aside0 (w'.heap[gb541]? = some (.cells #[.int .i64 t538, .int .i64 t539] 30 (0, 0))) ∧ Aside0 (Below w.heap.size w w'))
                case atStart => exact ⟨(1), ze, H', ⟨Nat.le_refl _⟩, ⟨zR HO_31.out⟩, ⟨zL HO_49.out⟩, ⟨zK BK483⟩, ⟨zK BK520⟩, ⟨zK BK521⟩, ⟨zK BK540⟩, ⟨zK BK541⟩, ⟨zB5 HB GE483 GE520 GE521 GE540 GE541⟩⟩
                case round => as_aux_lemma =>
                 clear H'
                 (try clear c1); (try clear c4); (try clear c52); (try clear c171); (try clear c172); (try clear c191); (try clear z117_0 z117_1 z117_2 z117_3 y117_0 y117_1 y117_2 y117_3); (try clear z119_0 z119_1 y119_0 y119_1); (try clear z121_0 z121_1 z121_2 z121_3 y121_0 y121_1 y121_2 y121_3); (try clear z122_0 z122_1 y122_0 y122_1); (try clear z124_0 z124_1 z124_2 z124_3 y124_0 y124_1 y124_2 y124_3); (try clear z125_0 z125_1 y125_0 y125_1); (try clear z127_0 z127_1 z127_2 z127_3 y127_0 y127_1 y127_2 y127_3); (try clear z128_0 z128_1 y128_0 y128_1); (try clear z137_0 z137_1 z137_2 z137_3 y137_0 y137_1 y137_2 y137_3); (try clear z141_0 z141_1 y141_0 y141_1); (try clear z143_0 z143_1 z143_2 z143_3 y143_0 y143_1 y143_2 y143_3); (try clear z144_0 z144_1 y144_0 y144_1); (try clear z15_0 z15_1 z15_2 z15_3 y15_0 y15_1 y15_2 y15_3); (try clear z179_0 z179_1 y179_0 y179_1); (try clear z17_0 z17_1 z17_2 z17_3 y17_0 y17_1 y17_2 y17_3); (try clear z19_0 z19_1 z19_2 z19_3 y19_0 y19_1 y19_2 y19_3); (try clear z21_0 z21_1 z21_2 z21_3 y21_0 y21_1 y21_2 y21_3); (try clear z23_0 z23_1 z23_2 z23_3 y23_0 y23_1 y23_2 y23_3); (try clear z25_0 z25_1 z25_2 z25_3 y25_0 y25_1 y25_2 y25_3)
                 obtain ⟨x51_6, rfl, HA, HK6, HO_31, HO_49, BK483, BK520, BK521, BK540, BK541, HB⟩ := hrel
                 cases gk with
                 | zero => exact absurd HA.out (by simp [laws_FnOrbitsShare.l2])
                 | succ k6 =>
                  have H := HA.out
                  clear HA
                  simp only [laws_FnOrbitsShare.l2] at H
                  by_cases c192 : x51_6 < (t522.length : Int)
                  ·as_aux_lemma =>
                   rw [if_pos c192] at H
                   have c192b0 : decide (x51_6 < (t522.length : Int)) = true := decide_eq_true c192
                   clear c192
                   by_cases c193 : 0 ≤ t517
                   ·as_aux_lemma =>
                    rw [if_pos c193] at H
                    have c193b0 : decide (0 ≤ t517) = true := decide_eq_true c193
                    clear c193
                    by_cases c194 : t517 < (t551.length : Int)
                    ·as_aux_lemma =>
                     rw [if_pos c194] at H
                     have c194b0 : decide (t517 < (t551.length : Int)) = true := decide_eq_true c194
                     clear c194
                     by_cases c195 : t519 = 0
                     ·rw [if_pos c195] at H
                      exact absurd H (by simp)
                     ·as_aux_lemma =>
                      rw [if_neg c195] at H
                      have c195b0 : (t519 == 0) = false := beq_eq_false_iff_ne.mpr c195
                      have c195b1 : (t519 != 0) = true := bne_iff_ne.mpr c195
                      by_cases c196 : (Int.tmod x51_6 t519) = 0
                      ·as_aux_lemma =>
                       rw [if_pos c196] at H
                       have c196b0 : ((Int.tmod x51_6 t519) == 0) = true := beq_iff_eq.mpr c196
                       have c196b1 : ((Int.tmod x51_6 t519) != 0) = false := bne_eq_false_iff_eq.mpr c196
                       clear c196
                       by_cases c197 : 0 ≤ t518
                       ·as_aux_lemma =>
                        rw [if_pos c197] at H
                        have c197b0 : decide (0 ≤ t518) = true := decide_eq_true c197
                        clear c197
                        by_cases c198 : t518 < (t551.length : Int)
                        ·as_aux_lemma =>
                         rw [if_pos c198] at H
                         have c198b0 : decide (t518 < (t551.length : Int)) = true := decide_eq_true c198
                         clear c198
                         obtain ⟨ji199, hji199⟩ : ∃ j_ : Int, (wrap64 (x51_6 - 1)) = j_ := ⟨_, rfl⟩
                         replace H : (if 0 ≤ (ji199) then (if (ji199) < (t522.length : Int) then (if 0 < ((rd_L1 t551 t518).length : Int) then (if 1 < ((rd_L1 t551 t518).length : Int) then ((impl_StepAround.f t511 t512 t513 t514 (rd t522 (ji199)) (rd (rd_L1 t551 t518) 0) (rd (rd_L1 t551 t518) 1)).bind fun bt561 => (if bt561.2 = true then (if 0 ≤ x51_6 then (if bt561.1 = (rd t522 x51_6) then (if x51_6 ≤ (t522.length : Int) then ((laws_nHas.f k6 (t522.take (x51_6 : Int).toNat) bt561.1).bind fun t568 => (if t568 = true then (some false) else (laws_FnOrbitsShare.l2 k6 t517 t518 t519 t522 t542 t543 t544 t545 t551 (wrap64 (x51_6 + 1)) t511 t512 t513 t514 t534 t535 t536 t537 t538 t539))) else (none)) else (some false)) else (none)) else (some false))) else (none)) else (none)) else (none)) else (none)) = some r := by first | (rw [hji199] at H; exact H) | (simp only [hji199] at H ⊢; exact H)
                         have hji199w : (IntKind.i64.wrap (x51_6 - 1)) = ji199 := (i64_w _).trans hji199
                         by_cases c200 : 0 ≤ (ji199)
                         ·as_aux_lemma =>
                          rw [if_pos c200] at H
                          have c200b0 : decide (0 ≤ (ji199)) = true := decide_eq_true c200
                          clear c200
                          by_cases c201 : (ji199) < (t522.length : Int)
                          ·as_aux_lemma =>
                           rw [if_pos c201] at H
                           have c201b0 : decide ((ji199) < (t522.length : Int)) = true := decide_eq_true c201
                           clear c201
                           by_cases c202 : 0 < ((rd_L1 t551 t518).length : Int)
                           ·as_aux_lemma =>
                            rw [if_pos c202] at H
                            have c202b0 : decide (0 < ((rd_L1 t551 t518).length : Int)) = true := decide_eq_true c202
                            have c202b1 : decide (0 < (rd_L1 t551 t518).length) = true := decide_eq_true (by omega)
                            clear c202
                            by_cases c203 : 1 < ((rd_L1 t551 t518).length : Int)
                            ·as_aux_lemma =>
                             rw [if_pos c203] at H
                             have c203b0 : decide (1 < ((rd_L1 t551 t518).length : Int)) = true := decide_eq_true c203
                             have c203b1 : decide (1 < (rd_L1 t551 t518).length) = true := decide_eq_true (by omega)
                             clear c203
                             obtain ⟨⟨t561, t562⟩, A204, H⟩ := zM H
                             try dsimp only at H
                             by_cases c205 : t562 = true
                             ·as_aux_lemma =>
                              subst c205
                              have H1 : (if 0 ≤ x51_6 then (if t561 = (rd t522 x51_6) then (if x51_6 ≤ (t522.length : Int) then ((laws_nHas.f k6 (t522.take (x51_6 : Int).toNat) t561).bind fun t568 => (if t568 = true then (some false) else (laws_FnOrbitsShare.l2 k6 t517 t518 t519 t522 t542 t543 t544 t545 t551 (wrap64 (x51_6 + 1)) t511 t512 t513 t514 t534 t535 t536 t537 t538 t539))) else (none)) else (some false)) else (none)) = some r := by rw [if_pos rfl] at H; exact H
                              clear H
                              have H := H1
                              clear H1
                              by_cases c206 : 0 ≤ x51_6
                              ·as_aux_lemma =>
                               rw [if_pos c206] at H
                               have c206b0 : decide (0 ≤ x51_6) = true := decide_eq_true c206
                               clear c206
                               by_cases c207 : t561 = (rd t522 x51_6)
                               ·as_aux_lemma =>
                                rw [if_pos c207] at H
                                have c207b0 : (t561 == (rd t522 x51_6)) = true := beq_iff_eq.mpr c207
                                have c207b1 : (t561 != (rd t522 x51_6)) = false := bne_eq_false_iff_eq.mpr c207
                                clear c207
                                have c208b0 := eq_true (zd : 0 ≤ x51_6)
                                by_cases c209 : x51_6 ≤ (t522.length : Int)
                                ·as_aux_lemma =>
                                 rw [if_pos c209] at H
                                 have c209b0 := eq_true c209
                                 have c209b1 : decide (x51_6 ≤ (t522.length : Int)) = true := decide_eq_true c209
                                 clear c209
                                 obtain ⟨y564, hy564⟩ : ∃ y_ : List Int, y_ = (t522.take (x51_6 : Int).toNat) := ⟨_, rfl⟩
                                 replace H : ((laws_nHas.f k6 y564 t561).bind fun t568 => (if t568 = true then (some false) else (laws_FnOrbitsShare.l2 k6 t517 t518 t519 t522 t542 t543 t544 t545 t551 (wrap64 (x51_6 + 1)) t511 t512 t513 t514 t534 t535 t536 t537 t538 t539))) = some r := by first | (rw [hy564]; with_reducible exact H) | (have H2_ := (Option.bind_some _ _).symm.trans H; rw [hy564]; with_reducible exact H2_) | (have H2_ := (Option.bind_some _ _).symm.trans H; with_reducible exact H2_) | with_reducible exact H | (rw [hy564]; exact H) | exact H
                                 have Ny564 := zA hy564
                                 clear hy564
                                 obtain ⟨t568, A210, H⟩ := zM H
                                 try dsimp only at H
                                 by_cases c211 : t568 = true
                                 ·as_aux_lemma =>
                                  subst c211
                                  have H1 : (some false) = some r := by rw [if_pos rfl] at H; exact H
                                  clear H
                                  have H := H1
                                  clear H1
                                  obtain rfl := Option.some.inj H
                                  obtain ⟨Ao212, co212, eo212⟩ := Kd.R_slice HO_31.out
                                  subst eo212
                                  obtain ⟨Ao213, co213, eo213⟩ := Kd.S_slice HO_49.out
                                  subst eo213
                                  have p556 : 0 ≤ (t517 : Int) := zd
                                  have q556 : t517 < (t551.length : Int) := zd
                                  obtain ⟨ad556, A556_0, c556_0, e556, hx556_0, hl556_0, hi556_0⟩ := at_L1 (Kd.S_reads' HO_49.out).2.2 t517 p556 q556
                                  cases e556
                                  obtain ⟨ce556, hce556, hMe556, hcc556⟩ := Kd.S_get HO_49.out [] t517 p556 (by first | exact q556 | exact zd | (have e_ := (Kd.S_reads' HO_49.out).1; omega))
                                  obtain ⟨ve556_0, rfl, ge556_0⟩ := hMe556
                                  have hv556_0 := hcc556 0 _ rfl
                                  rw [Nat.add_zero, show ((Kd.slice 3 (Kd.int .i64))).sz = 1 from rfl, Nat.mul_one] at hv556_0
                                  replace hv556_0 := Option.some.inj (hv556_0.symm.trans hx556_0)
                                  rw [hv556_0] at ge556_0
                                  have HL556_0 := zA (show Kd.R (Kd.int .i64) 3 _ _ _ _ (rd_L1 t551 t517) from ge556_0)
                                  clear hv556_0 ge556_0
                                  clear hcc556 hce556
                                  have HR556_0 := zA hi556_0
                                  have HC556_0 := zA hl556_0
                                  clear hi556_0 hl556_0
                                  replace p556 := eq_true p556
                                  replace q556 := eq_true q556
                                  have p557 : 0 ≤ (t518 : Int) := zd
                                  have q557 : t518 < (t551.length : Int) := zd
                                  obtain ⟨ad557, A557_0, c557_0, e557, hx557_0, hl557_0, hi557_0⟩ := at_L1 (Kd.S_reads' HO_49.out).2.2 t518 p557 q557
                                  obtain rfl : ad556 = ad557 := (by injection e557)
                                  obtain ⟨ce557, hce557, hMe557, hcc557⟩ := Kd.S_get HO_49.out [] t518 p557 (by first | exact q557 | exact zd | (have e_ := (Kd.S_reads' HO_49.out).1; omega))
                                  obtain ⟨ve557_0, rfl, ge557_0⟩ := hMe557
                                  have hv557_0 := hcc557 0 _ rfl
                                  rw [Nat.add_zero, show ((Kd.slice 3 (Kd.int .i64))).sz = 1 from rfl, Nat.mul_one] at hv557_0
                                  replace hv557_0 := Option.some.inj (hv557_0.symm.trans hx557_0)
                                  rw [hv557_0] at ge557_0
                                  have HL557_0 := zA (show Kd.R (Kd.int .i64) 3 _ _ _ _ (rd_L1 t551 t518) from ge557_0)
                                  clear hv557_0 ge557_0
                                  clear hcc557 hce557
                                  have HR557_0 := zA hi557_0
                                  have HC557_0 := zA hl557_0
                                  clear hi557_0 hl557_0
                                  replace p557 := eq_true p557
                                  replace q557 := eq_true q557
                                  try go_wp2
                                  replace HO_31 := zA (Kd.R_drew HO_31.out)
                                  replace HO_49 := zA (Kd.S_drew HO_49.out)
                                  replace HL556_0 := zA (Kd.R_drew HL556_0.out)
                                  replace HL557_0 := zA (Kd.R_drew HL557_0.out)
                                  replace BK483 := zA (blk_drew BK483.out)
                                  replace BK520 := zA (blk_drew BK520.out)
                                  replace BK521 := zA (blk_drew BK521.out)
                                  replace BK540 := zA (blk_drew BK540.out)
                                  replace BK541 := zA (blk_drew BK541.out)
                                  replace HR556_0 := zA (Kd.C_drew HR556_0.out)
                                  replace HR557_0 := zA (Kd.C_drew HR557_0.out)
                                  replace HB := zA (below_drew1 HB.out)
                                  have p558 : 0 ≤ ((ji199) : Int) := zd
                                  have q558 : (ji199) < (t522.length : Int) := zd
                                  obtain ⟨ad558, e558, hx558_0⟩ := Kd.at_int (Kd.R_reads' HO_31.out).2.2 (ji199) p558 q558
                                  cases e558
                                  replace p558 := eq_true p558
                                  replace q558 := eq_true q558
                                  have p559 : 0 ≤ (0 : Int) := (by omega)
                                  have q559 : 0 < ((rd_L1 t551 t518).length : Int) := zd
                                  obtain ⟨ad559, e559, hx559_0⟩ := Kd.at_int (zC HR557_0.out) 0 p559 q559
                                  cases e559
                                  have qi559 : (0 < (rd_L1 t551 t518).length) = True := eq_true (by omega)
                                  (try rw [show ((0 : Int)).toNat = 0 from rfl] at hx559_0)
                                  (try rw [Addr.add_zero'] at hx559_0)
                                  replace p559 := eq_true p559
                                  replace q559 := eq_true q559
                                  have p560 : 0 ≤ (1 : Int) := (by omega)
                                  have q560 : 1 < ((rd_L1 t551 t518).length : Int) := zd
                                  obtain ⟨ad560, e560, hx560_0⟩ := Kd.at_int (zC HR557_0.out) 1 p560 q560
                                  obtain rfl : ad559 = ad560 := (by injection e560)
                                  (try simp only [show (1 : Int).toNat = 1 from rfl, Nat.reduceMul, Nat.reduceEqDiff, Go.Addr.add, ↓reduceIte] at hx560_0)
                                  have qi560 : (1 < (rd_L1 t551 t518).length) = True := eq_true (by omega)
                                  (try rw [show ((1 : Int)).toNat = 1 from rfl] at hx560_0)
                                  replace p560 := eq_true p560
                                  replace q560 := eq_true q560
                                  refine start_ (n := 18) (S := fun w' => w'.cell? ⟨gb520, 0, none⟩ = some (.int .i64 t511) ∧ w'.cell? ⟨gb520, 1, none⟩ = some (.int .i64 t512) ∧ w'.cell? ⟨gb520, 2, none⟩ = some (.bool t513) ∧ w'.cell? ⟨gb520, 3, none⟩ = some (.bool t514) ∧ w'.cell? (ad558.add ((ji199)).toNat) = some (.int .i64 (rd t522 (ji199))) ∧ w'.cell? ad559 = some (.int .i64 (rd (rd_L1 t551 t518) 0)) ∧ w'.cell? ⟨ad559.block, ad559.off + 1, none⟩ = some (.int .i64 (rd (rd_L1 t551 t518) 1))) (ds := []) #[false, false, false, false, false, false, false, false, false, false, false, false, false, false, false, false, false, false] zn rfl rfl ⟨(blk_cell BK520.out 0).trans rfl, (blk_cell BK520.out 1).trans rfl, (blk_cell BK520.out 2).trans rfl, (blk_cell BK520.out 3).trans rfl, hx558_0, hx559_0, hx560_0⟩ (fun hHeld => ?_); refine with_tabW laws_FnOrbitsShare.tab50 laws_FnOrbitsShare.bits50 (fun HT_ HW_ => ?_)
                                  generalize wr.drew = w214 at HO_31 HO_49 HL556_0 HL557_0 BK483 BK520 BK521 BK540 BK541 HR556_0 HR557_0 HB hx558_0 hx559_0 hx560_0 hHeld ⊢
                                  refine zq HT_ (i := 1) (N := some 395) ?_
                                  refine zq HT_ (i := 2) (N := some 396) ?_
                                  refine zq HT_ (i := 3) (N := some 397) ?_
                                  refine zq HT_ (i := 4) (N := some 398) ?_
                                  refine zq HT_ (i := 6) (N := some 400) ?_
                                  refine zq HT_ (i := 7) (N := some 401) ?_
                                  refine zq HT_ (i := 9) (N := some 403) ?_
                                  refine zq HT_ (i := 10) (N := some 404) ?_
                                  refine zx7 HT_ HW_ hHeld (i := 0) (N := some 394) ?_
                                  refine zx7 HT_ HW_ hHeld (i := 5) (N := some 399) ?_
                                  refine zx7 HT_ HW_ hHeld (i := 8) (N := some 402) ?_
                                  refine zx7 HT_ HW_ hHeld (i := 11) (N := some 405) ?_
                                  refine one_ (i := 12) (N := some 406) #[true, true, true, true, true, true, true, true, true, true, true, true, true, false, false, false, false, false] rfl rfl (one_of HT_.out zn) (by decide) (fun K hK => ?_)
                                  refine goes_ Try.func52 zn rfl #[.agg #[.int .i64 t511, .int .i64 t512, .bool t513, .bool t514], .int .i64 (rd t522 (ji199)), .int .i64 (rd (rd_L1 t551 t518) 0), .int .i64 (rd (rd_L1 t551 t518) 1)] (by rfl) rfl rfl (by (try simp only [List.map_toArray, List.map_cons, List.map_nil]); first | done | (simp only [hji199]; rfl) | rfl | (simp only [List.length_drop, List.length_take]; rfl)) ?_
                                  with_reducible refine (impl_StepAround.calls t511 t512 t513 t514 (rd t522 (ji199)) (rd (rd_L1 t551 t518) 0) (rd (rd_L1 t551 t518) 1) t561 true _ A204.out).mono ?_
                                  rintro e w215 ⟨rfl, hb⟩
                                  have HS4_ := (hb.cell (World.block_lt_of_cell? _ _ (hHeld.2.2.2.2.1))).trans (hHeld.2.2.2.2.1)
                                  have HS5_ := (hb.cell (World.block_lt_of_cell? _ _ (hHeld.2.2.2.2.2.1))).trans (hHeld.2.2.2.2.2.1)
                                  have HS6_ := (hb.cell (World.block_lt_of_cell? _ _ (hHeld.2.2.2.2.2.2))).trans (hHeld.2.2.2.2.2.2)
                                  refine ⟨_, rfl, ?_⟩
                                  replace HO_31 := zRb HO_31 hb
                                  replace HO_49 := zA (Kd.S_below (zL HO_49.out) hb)
                                  replace HL556_0 := zRb HL556_0 hb
                                  replace HL557_0 := zRb HL557_0 hb
                                  replace BK483 := zKb BK483 hb
                                  replace BK520 := zKb BK520 hb
                                  replace BK521 := zKb BK521 hb
                                  replace BK540 := zKb BK540 hb
                                  replace BK541 := zKb BK541 hb
                                  replace HR556_0 := zA (Kd.C_below (zC HR556_0.out) hb)
                                  replace HR557_0 := zA (Kd.C_below (zC HR557_0.out) hb)
                                  replace HB := zA (below_step (zB5 HB GE483 GE520 GE521 GE540 GE541) hb)
                                  (try clear hb); (try clear hb2); (try clear hk); (try clear hi)
                                  refine hK.out _ _ ⟨(blk_cell BK520.out 0).trans rfl, (blk_cell BK520.out 1).trans rfl, (blk_cell BK520.out 2).trans rfl, (blk_cell BK520.out 3).trans rfl, HS4_, HS5_, HS6_⟩ (fun hHeld => ?_)
                                  clear hK K
                                  refine norm_ (a' := ?_) ?_ ?_
                                  rotate_left
                                  ·show Act.put _ (some 406) _ = _
                                   simp only [Act.put, List.setIfInBounds_toArray, List.set_cons_zero, List.set_cons_succ, i64_w, i32_w]
                                   rfl
                                  refine zq HT_ (i := 13) (N := some 393) ?_
                                  refine zq HT_ (i := 14) (N := some 407) ?_
                                  refine zq HT_ (i := 15) (N := some 408) ?_
                                  refine zq HT_ (i := 16) (N := some 53) ?_
                                  refine zq HT_ (i := 17) (N := some 54) ?_
                                  refine done_ (done_of HT_.out zn) ?_
                                  have p563 : 0 ≤ (x51_6 : Int) := zd
                                  have q563 : x51_6 < (t522.length : Int) := zd
                                  obtain ⟨ad563, e563, hx563_0⟩ := Kd.at_int (Kd.R_reads' HO_31.out).2.2 x51_6 p563 q563
                                  obtain rfl : ad558 = ad563 := (by injection e563)
                                  replace p563 := eq_true p563
                                  replace q563 := eq_true q563
                                  have q216 : (x51_6 : Int) ≤ ((t522.length : Int) : Int) := zd
                                  obtain ⟨i0216, hi0216, _, hsz216, _⟩ := info_parts info3
                                  have hroom216 : t522.length ≤ co212 := (Kd.R_reads' HO_31.out).2.1
                                  have hC216 : Kd.C (Kd.int .i64) _ (some ad558) t522.length t522 := (Kd.R_reads' HO_31.out).2.2
                                  have hcut216 := cut_to (P := Try.prog) 33 3 .i64 Try.underlying33 hi0216 (some ad558) t522.length co212 x51_6 (zd) q216 hroom216
                                  have hr216 := Kd.C_take (m := (x51_6 : Int).toNat) hC216 (by omega)
                                  have hy216 : y564.length = (x51_6 : Int).toNat := (by rw [Ny564.out, List.length_take]; omega)
                                  rw [← Ny564.out] at hr216
                                  rw [← hy216] at hcut216
                                  have HR567 := zA hr216
                                  have HC567 := zA (show y564.length ≤ co212 from by omega)
                                  clear hr216 hC216 hroom216 hi0216 hsz216
                                  have KY216 := zA hy216
                                  clear hy216
                                  have KL216 := zA (show (x51_6 : Int).toNat ≤ t522.length from by omega)
                                  replace q216 := eq_true q216
                                  try go_wp2_with (first | (go_at_call 53; (with_reducible refine (laws_nHas.calls k6 _ _ y564 t561 true _ ?side1 ?side2 A210.out).mono ?_); (case side1 => repeat (first | exact (zC HR567.out) | (with_reducible refine Kd.C_alloc ?_ _) | (with_reducible refine Kd.C_drewN ?_ _) | (with_reducible refine Kd.C_drew ?_))); (case side2 => exact HC567.out); rintro e w' ⟨rfl, ⟨nd, rfl⟩⟩))
                                  go_ret
                                  exact ⟨by first | rfl | (simp [errW_none, errW_some] <;> rfl) | (simp only [← hji199]; first | rfl | (simp [errW_none, errW_some] <;> rfl)) | (simp [*, errW_none, errW_some] <;> rfl), zB5 HB GE483 GE520 GE521 GE540 GE541⟩
                                 ·replace c211 := Bool.eq_false_iff.mpr c211
                                  subst c211
                                  have H1 : (laws_FnOrbitsShare.l2 k6 t517 t518 t519 t522 t542 t543 t544 t545 t551 (wrap64 (x51_6 + 1)) t511 t512 t513 t514 t534 t535 t536 t537 t538 t539) = some r := by rw [if_neg (show ¬ (false = true) by decide)] at H; exact H
                                  clear H
                                  have H := H1
                                  clear H1
                                  have H' := zA H
                                  clear H
                                  obtain ⟨Ao217, co217, eo217⟩ := Kd.R_slice HO_31.out
                                  subst eo217
                                  obtain ⟨Ao218, co218, eo218⟩ := Kd.S_slice HO_49.out
                                  subst eo218
                                  have p556 : 0 ≤ (t517 : Int) := zd
                                  have q556 : t517 < (t551.length : Int) := zd
                                  obtain ⟨ad556, A556_0, c556_0, e556, hx556_0, hl556_0, hi556_0⟩ := at_L1 (Kd.S_reads' HO_49.out).2.2 t517 p556 q556
                                  cases e556
                                  obtain ⟨ce556, hce556, hMe556, hcc556⟩ := Kd.S_get HO_49.out [] t517 p556 (by first | exact q556 | exact zd | (have e_ := (Kd.S_reads' HO_49.out).1; omega))
                                  obtain ⟨ve556_0, rfl, ge556_0⟩ := hMe556
                                  have hv556_0 := hcc556 0 _ rfl
                                  rw [Nat.add_zero, show ((Kd.slice 3 (Kd.int .i64))).sz = 1 from rfl, Nat.mul_one] at hv556_0
                                  replace hv556_0 := Option.some.inj (hv556_0.symm.trans hx556_0)
                                  rw [hv556_0] at ge556_0
                                  have HL556_0 := zA (show Kd.R (Kd.int .i64) 3 _ _ _ _ (rd_L1 t551 t517) from ge556_0)
                                  clear hv556_0 ge556_0
                                  clear hcc556 hce556
                                  have HR556_0 := zA hi556_0
                                  have HC556_0 := zA hl556_0
                                  clear hi556_0 hl556_0
                                  replace p556 := eq_true p556
                                  replace q556 := eq_true q556
                                  have p557 : 0 ≤ (t518 : Int) := zd
                                  have q557 : t518 < (t551.length : Int) := zd
                                  obtain ⟨ad557, A557_0, c557_0, e557, hx557_0, hl557_0, hi557_0⟩ := at_L1 (Kd.S_reads' HO_49.out).2.2 t518 p557 q557
                                  obtain rfl : ad556 = ad557 := (by injection e557)
                                  obtain ⟨ce557, hce557, hMe557, hcc557⟩ := Kd.S_get HO_49.out [] t518 p557 (by first | exact q557 | exact zd | (have e_ := (Kd.S_reads' HO_49.out).1; omega))
                                  obtain ⟨ve557_0, rfl, ge557_0⟩ := hMe557
                                  have hv557_0 := hcc557 0 _ rfl
                                  rw [Nat.add_zero, show ((Kd.slice 3 (Kd.int .i64))).sz = 1 from rfl, Nat.mul_one] at hv557_0
                                  replace hv557_0 := Option.some.inj (hv557_0.symm.trans hx557_0)
                                  rw [hv557_0] at ge557_0
                                  have HL557_0 := zA (show Kd.R (Kd.int .i64) 3 _ _ _ _ (rd_L1 t551 t518) from ge557_0)
                                  clear hv557_0 ge557_0
                                  clear hcc557 hce557
                                  have HR557_0 := zA hi557_0
                                  have HC557_0 := zA hl557_0
                                  clear hi557_0 hl557_0
                                  replace p557 := eq_true p557
                                  replace q557 := eq_true q557
                                  try go_wp2
                                  replace HO_31 := zA (Kd.R_drew HO_31.out)
                                  replace HO_49 := zA (Kd.S_drew HO_49.out)
                                  replace HL556_0 := zA (Kd.R_drew HL556_0.out)
                                  replace HL557_0 := zA (Kd.R_drew HL557_0.out)
                                  replace BK483 := zA (blk_drew BK483.out)
                                  replace BK520 := zA (blk_drew BK520.out)
                                  replace BK521 := zA (blk_drew BK521.out)
                                  replace BK540 := zA (blk_drew BK540.out)
                                  replace BK541 := zA (blk_drew BK541.out)
                                  replace HR556_0 := zA (Kd.C_drew HR556_0.out)
                                  replace HR557_0 := zA (Kd.C_drew HR557_0.out)
                                  replace HB := zA (below_drew1 HB.out)
                                  have p558 : 0 ≤ ((ji199) : Int) := zd
                                  have q558 : (ji199) < (t522.length : Int) := zd
                                  obtain ⟨ad558, e558, hx558_0⟩ := Kd.at_int (Kd.R_reads' HO_31.out).2.2 (ji199) p558 q558
                                  cases e558
                                  replace p558 := eq_true p558
                                  replace q558 := eq_true q558
                                  have p559 : 0 ≤ (0 : Int) := (by omega)
                                  have q559 : 0 < ((rd_L1 t551 t518).length : Int) := zd
                                  obtain ⟨ad559, e559, hx559_0⟩ := Kd.at_int (zC HR557_0.out) 0 p559 q559
                                  cases e559
                                  have qi559 : (0 < (rd_L1 t551 t518).length) = True := eq_true (by omega)
                                  (try rw [show ((0 : Int)).toNat = 0 from rfl] at hx559_0)
                                  (try rw [Addr.add_zero'] at hx559_0)
                                  replace p559 := eq_true p559
                                  replace q559 := eq_true q559
                                  have p560 : 0 ≤ (1 : Int) := (by omega)
                                  have q560 : 1 < ((rd_L1 t551 t518).length : Int) := zd
                                  obtain ⟨ad560, e560, hx560_0⟩ := Kd.at_int (zC HR557_0.out) 1 p560 q560
                                  obtain rfl : ad559 = ad560 := (by injection e560)
                                  (try simp only [show (1 : Int).toNat = 1 from rfl, Nat.reduceMul, Nat.reduceEqDiff, Go.Addr.add, ↓reduceIte] at hx560_0)
                                  have qi560 : (1 < (rd_L1 t551 t518).length) = True := eq_true (by omega)
                                  (try rw [show ((1 : Int)).toNat = 1 from rfl] at hx560_0)
                                  replace p560 := eq_true p560
                                  replace q560 := eq_true q560
                                  refine start_ (n := 18) (S := fun w' => w'.cell? ⟨gb520, 0, none⟩ = some (.int .i64 t511) ∧ w'.cell? ⟨gb520, 1, none⟩ = some (.int .i64 t512) ∧ w'.cell? ⟨gb520, 2, none⟩ = some (.bool t513) ∧ w'.cell? ⟨gb520, 3, none⟩ = some (.bool t514) ∧ w'.cell? (ad558.add ((ji199)).toNat) = some (.int .i64 (rd t522 (ji199))) ∧ w'.cell? ad559 = some (.int .i64 (rd (rd_L1 t551 t518) 0)) ∧ w'.cell? ⟨ad559.block, ad559.off + 1, none⟩ = some (.int .i64 (rd (rd_L1 t551 t518) 1))) (ds := []) #[false, false, false, false, false, false, false, false, false, false, false, false, false, false, false, false, false, false] zn rfl rfl ⟨(blk_cell BK520.out 0).trans rfl, (blk_cell BK520.out 1).trans rfl, (blk_cell BK520.out 2).trans rfl, (blk_cell BK520.out 3).trans rfl, hx558_0, hx559_0, hx560_0⟩ (fun hHeld => ?_); refine with_tabW laws_FnOrbitsShare.tab50 laws_FnOrbitsShare.bits50 (fun HT_ HW_ => ?_)
                                  generalize wr.drew = w219 at HO_31 HO_49 HL556_0 HL557_0 BK483 BK520 BK521 BK540 BK541 HR556_0 HR557_0 HB hx558_0 hx559_0 hx560_0 hHeld ⊢
                                  refine zq HT_ (i := 1) (N := some 395) ?_
                                  refine zq HT_ (i := 2) (N := some 396) ?_
                                  refine zq HT_ (i := 3) (N := some 397) ?_
                                  refine zq HT_ (i := 4) (N := some 398) ?_
                                  refine zq HT_ (i := 6) (N := some 400) ?_
                                  refine zq HT_ (i := 7) (N := some 401) ?_
                                  refine zq HT_ (i := 9) (N := some 403) ?_
                                  refine zq HT_ (i := 10) (N := some 404) ?_
                                  refine zx7 HT_ HW_ hHeld (i := 0) (N := some 394) ?_
                                  refine zx7 HT_ HW_ hHeld (i := 5) (N := some 399) ?_
                                  refine zx7 HT_ HW_ hHeld (i := 8) (N := some 402) ?_
                                  refine zx7 HT_ HW_ hHeld (i := 11) (N := some 405) ?_
                                  refine one_ (i := 12) (N := some 406) #[true, true, true, true, true, true, true, true, true, true, true, true, true, false, false, false, false, false] rfl rfl (one_of HT_.out zn) (by decide) (fun K hK => ?_)
                                  refine goes_ Try.func52 zn rfl #[.agg #[.int .i64 t511, .int .i64 t512, .bool t513, .bool t514], .int .i64 (rd t522 (ji199)), .int .i64 (rd (rd_L1 t551 t518) 0), .int .i64 (rd (rd_L1 t551 t518) 1)] (by rfl) rfl rfl (by (try simp only [List.map_toArray, List.map_cons, List.map_nil]); first | done | (simp only [hji199]; rfl) | rfl | (simp only [List.length_drop, List.length_take]; rfl)) ?_
                                  with_reducible refine (impl_StepAround.calls t511 t512 t513 t514 (rd t522 (ji199)) (rd (rd_L1 t551 t518) 0) (rd (rd_L1 t551 t518) 1) t561 true _ A204.out).mono ?_
                                  rintro e w220 ⟨rfl, hb⟩
                                  have HS4_ := (hb.cell (World.block_lt_of_cell? _ _ (hHeld.2.2.2.2.1))).trans (hHeld.2.2.2.2.1)
                                  have HS5_ := (hb.cell (World.block_lt_of_cell? _ _ (hHeld.2.2.2.2.2.1))).trans (hHeld.2.2.2.2.2.1)
                                  have HS6_ := (hb.cell (World.block_lt_of_cell? _ _ (hHeld.2.2.2.2.2.2))).trans (hHeld.2.2.2.2.2.2)
                                  refine ⟨_, rfl, ?_⟩
                                  replace HO_31 := zRb HO_31 hb
                                  replace HO_49 := zA (Kd.S_below (zL HO_49.out) hb)
                                  replace HL556_0 := zRb HL556_0 hb
                                  replace HL557_0 := zRb HL557_0 hb
                                  replace BK483 := zKb BK483 hb
                                  replace BK520 := zKb BK520 hb
                                  replace BK521 := zKb BK521 hb
                                  replace BK540 := zKb BK540 hb
                                  replace BK541 := zKb BK541 hb
                                  replace HR556_0 := zA (Kd.C_below (zC HR556_0.out) hb)
                                  replace HR557_0 := zA (Kd.C_below (zC HR557_0.out) hb)
                                  replace HB := zA (below_step (zB5 HB GE483 GE520 GE521 GE540 GE541) hb)
                                  (try clear hb); (try clear hb2); (try clear hk); (try clear hi)
                                  refine hK.out _ _ ⟨(blk_cell BK520.out 0).trans rfl, (blk_cell BK520.out 1).trans rfl, (blk_cell BK520.out 2).trans rfl, (blk_cell BK520.out 3).trans rfl, HS4_, HS5_, HS6_⟩ (fun hHeld => ?_)
                                  clear hK K
                                  refine norm_ (a' := ?_) ?_ ?_
                                  rotate_left
                                  ·show Act.put _ (some 406) _ = _
                                   simp only [Act.put, List.setIfInBounds_toArray, List.set_cons_zero, List.set_cons_succ, i64_w, i32_w]
                                   rfl
                                  refine zq HT_ (i := 13) (N := some 393) ?_
                                  refine zq HT_ (i := 14) (N := some 407) ?_
                                  refine zq HT_ (i := 15) (N := some 408) ?_
                                  refine zq HT_ (i := 16) (N := some 53) ?_
                                  refine zq HT_ (i := 17) (N := some 54) ?_
                                  refine done_ (done_of HT_.out zn) ?_
                                  have p563 : 0 ≤ (x51_6 : Int) := zd
                                  have q563 : x51_6 < (t522.length : Int) := zd
                                  obtain ⟨ad563, e563, hx563_0⟩ := Kd.at_int (Kd.R_reads' HO_31.out).2.2 x51_6 p563 q563
                                  obtain rfl : ad558 = ad563 := (by injection e563)
                                  replace p563 := eq_true p563
                                  replace q563 := eq_true q563
                                  have q221 : (x51_6 : Int) ≤ ((t522.length : Int) : Int) := zd
                                  obtain ⟨i0221, hi0221, _, hsz221, _⟩ := info_parts info3
                                  have hroom221 : t522.length ≤ co217 := (Kd.R_reads' HO_31.out).2.1
                                  have hC221 : Kd.C (Kd.int .i64) _ (some ad558) t522.length t522 := (Kd.R_reads' HO_31.out).2.2
                                  have hcut221 := cut_to (P := Try.prog) 33 3 .i64 Try.underlying33 hi0221 (some ad558) t522.length co217 x51_6 (zd) q221 hroom221
                                  have hr221 := Kd.C_take (m := (x51_6 : Int).toNat) hC221 (by omega)
                                  have hy221 : y564.length = (x51_6 : Int).toNat := (by rw [Ny564.out, List.length_take]; omega)
                                  rw [← Ny564.out] at hr221
                                  rw [← hy221] at hcut221
                                  have HR567 := zA hr221
                                  have HC567 := zA (show y564.length ≤ co217 from by omega)
                                  clear hr221 hC221 hroom221 hi0221 hsz221
                                  have KY221 := zA hy221
                                  clear hy221
                                  have KL221 := zA (show (x51_6 : Int).toNat ≤ t522.length from by omega)
                                  replace q221 := eq_true q221
                                  try go_wp2_with (first | (go_at_call 53; (with_reducible refine (laws_nHas.calls k6 _ _ y564 t561 false _ ?side1 ?side2 A210.out).mono ?_); (case side1 => repeat (first | exact (zC HR567.out) | (with_reducible refine Kd.C_alloc ?_ _) | (with_reducible refine Kd.C_drewN ?_ _) | (with_reducible refine Kd.C_drew ?_))); (case side2 => exact HC567.out); rintro e w' ⟨rfl, ⟨nd, rfl⟩⟩))
                                  go_roundg k6
                                  case measure => have := HJ11.out; have := HJ52.out; have := HJ69.out; have := HJ110.out; have := HJ173.out; have := HK6.out; omega
                                  case rel => exact ⟨(wrap64 (x51_6 + 1)), ze, H', ⟨by have := HJ11.out; have := HJ52.out; have := HJ69.out; have := HJ110.out; have := HJ173.out; have := HK6.out; omega⟩, ⟨zR HO_31.out⟩, ⟨zL HO_49.out⟩, ⟨zK BK483⟩, ⟨zK BK520⟩, ⟨zK BK521⟩, ⟨zK BK540⟩, ⟨zK BK541⟩, ⟨zB5 HB GE483 GE520 GE521 GE540 GE541⟩⟩
                                ·rw [if_neg c209] at H
                                 exact absurd H (by simp)
                               ·as_aux_lemma =>
                                rw [if_neg c207] at H
                                have c207b0 : (t561 == (rd t522 x51_6)) = false := beq_eq_false_iff_ne.mpr c207
                                have c207b1 : (t561 != (rd t522 x51_6)) = true := bne_iff_ne.mpr c207
                                obtain rfl := Option.some.inj H
                                obtain ⟨Ao222, co222, eo222⟩ := Kd.R_slice HO_31.out
                                subst eo222
                                obtain ⟨Ao223, co223, eo223⟩ := Kd.S_slice HO_49.out
                                subst eo223
                                have p556 : 0 ≤ (t517 : Int) := zd
                                have q556 : t517 < (t551.length : Int) := zd
                                obtain ⟨ad556, A556_0, c556_0, e556, hx556_0, hl556_0, hi556_0⟩ := at_L1 (Kd.S_reads' HO_49.out).2.2 t517 p556 q556
                                cases e556
                                obtain ⟨ce556, hce556, hMe556, hcc556⟩ := Kd.S_get HO_49.out [] t517 p556 (by first | exact q556 | exact zd | (have e_ := (Kd.S_reads' HO_49.out).1; omega))
                                obtain ⟨ve556_0, rfl, ge556_0⟩ := hMe556
                                have hv556_0 := hcc556 0 _ rfl
                                rw [Nat.add_zero, show ((Kd.slice 3 (Kd.int .i64))).sz = 1 from rfl, Nat.mul_one] at hv556_0
                                replace hv556_0 := Option.some.inj (hv556_0.symm.trans hx556_0)
                                rw [hv556_0] at ge556_0
                                have HL556_0 := zA (show Kd.R (Kd.int .i64) 3 _ _ _ _ (rd_L1 t551 t517) from ge556_0)
                                clear hv556_0 ge556_0
                                clear hcc556 hce556
                                have HR556_0 := zA hi556_0
                                have HC556_0 := zA hl556_0
                                clear hi556_0 hl556_0
                                replace p556 := eq_true p556
                                replace q556 := eq_true q556
                                have p557 : 0 ≤ (t518 : Int) := zd
                                have q557 : t518 < (t551.length : Int) := zd
                                obtain ⟨ad557, A557_0, c557_0, e557, hx557_0, hl557_0, hi557_0⟩ := at_L1 (Kd.S_reads' HO_49.out).2.2 t518 p557 q557
                                obtain rfl : ad556 = ad557 := (by injection e557)
                                obtain ⟨ce557, hce557, hMe557, hcc557⟩ := Kd.S_get HO_49.out [] t518 p557 (by first | exact q557 | exact zd | (have e_ := (Kd.S_reads' HO_49.out).1; omega))
                                obtain ⟨ve557_0, rfl, ge557_0⟩ := hMe557
                                have hv557_0 := hcc557 0 _ rfl
                                rw [Nat.add_zero, show ((Kd.slice 3 (Kd.int .i64))).sz = 1 from rfl, Nat.mul_one] at hv557_0
                                replace hv557_0 := Option.some.inj (hv557_0.symm.trans hx557_0)
                                rw [hv557_0] at ge557_0
                                have HL557_0 := zA (show Kd.R (Kd.int .i64) 3 _ _ _ _ (rd_L1 t551 t518) from ge557_0)
                                clear hv557_0 ge557_0
                                clear hcc557 hce557
                                have HR557_0 := zA hi557_0
                                have HC557_0 := zA hl557_0
                                clear hi557_0 hl557_0
                                replace p557 := eq_true p557
                                replace q557 := eq_true q557
                                try go_wp2
                                replace HO_31 := zA (Kd.R_drew HO_31.out)
                                replace HO_49 := zA (Kd.S_drew HO_49.out)
                                replace HL556_0 := zA (Kd.R_drew HL556_0.out)
                                replace HL557_0 := zA (Kd.R_drew HL557_0.out)
                                replace BK483 := zA (blk_drew BK483.out)
                                replace BK520 := zA (blk_drew BK520.out)
                                replace BK521 := zA (blk_drew BK521.out)
                                replace BK540 := zA (blk_drew BK540.out)
                                replace BK541 := zA (blk_drew BK541.out)
                                replace HR556_0 := zA (Kd.C_drew HR556_0.out)
                                replace HR557_0 := zA (Kd.C_drew HR557_0.out)
                                replace HB := zA (below_drew1 HB.out)
                                have p558 : 0 ≤ ((ji199) : Int) := zd
                                have q558 : (ji199) < (t522.length : Int) := zd
                                obtain ⟨ad558, e558, hx558_0⟩ := Kd.at_int (Kd.R_reads' HO_31.out).2.2 (ji199) p558 q558
                                cases e558
                                replace p558 := eq_true p558
                                replace q558 := eq_true q558
                                have p559 : 0 ≤ (0 : Int) := (by omega)
                                have q559 : 0 < ((rd_L1 t551 t518).length : Int) := zd
                                obtain ⟨ad559, e559, hx559_0⟩ := Kd.at_int (zC HR557_0.out) 0 p559 q559
                                cases e559
                                have qi559 : (0 < (rd_L1 t551 t518).length) = True := eq_true (by omega)
                                (try rw [show ((0 : Int)).toNat = 0 from rfl] at hx559_0)
                                (try rw [Addr.add_zero'] at hx559_0)
                                replace p559 := eq_true p559
                                replace q559 := eq_true q559
                                have p560 : 0 ≤ (1 : Int) := (by omega)
                                have q560 : 1 < ((rd_L1 t551 t518).length : Int) := zd
                                obtain ⟨ad560, e560, hx560_0⟩ := Kd.at_int (zC HR557_0.out) 1 p560 q560
                                obtain rfl : ad559 = ad560 := (by injection e560)
                                (try simp only [show (1 : Int).toNat = 1 from rfl, Nat.reduceMul, Nat.reduceEqDiff, Go.Addr.add, ↓reduceIte] at hx560_0)
                                have qi560 : (1 < (rd_L1 t551 t518).length) = True := eq_true (by omega)
                                (try rw [show ((1 : Int)).toNat = 1 from rfl] at hx560_0)
                                replace p560 := eq_true p560
                                replace q560 := eq_true q560
                                refine start_ (n := 18) (S := fun w' => w'.cell? ⟨gb520, 0, none⟩ = some (.int .i64 t511) ∧ w'.cell? ⟨gb520, 1, none⟩ = some (.int .i64 t512) ∧ w'.cell? ⟨gb520, 2, none⟩ = some (.bool t513) ∧ w'.cell? ⟨gb520, 3, none⟩ = some (.bool t514) ∧ w'.cell? (ad558.add ((ji199)).toNat) = some (.int .i64 (rd t522 (ji199))) ∧ w'.cell? ad559 = some (.int .i64 (rd (rd_L1 t551 t518) 0)) ∧ w'.cell? ⟨ad559.block, ad559.off + 1, none⟩ = some (.int .i64 (rd (rd_L1 t551 t518) 1))) (ds := []) #[false, false, false, false, false, false, false, false, false, false, false, false, false, false, false, false, false, false] zn rfl rfl ⟨(blk_cell BK520.out 0).trans rfl, (blk_cell BK520.out 1).trans rfl, (blk_cell BK520.out 2).trans rfl, (blk_cell BK520.out 3).trans rfl, hx558_0, hx559_0, hx560_0⟩ (fun hHeld => ?_); refine with_tabW laws_FnOrbitsShare.tab50 laws_FnOrbitsShare.bits50 (fun HT_ HW_ => ?_)
                                generalize wr.drew = w224 at HO_31 HO_49 HL556_0 HL557_0 BK483 BK520 BK521 BK540 BK541 HR556_0 HR557_0 HB hx558_0 hx559_0 hx560_0 hHeld ⊢
                                refine zq HT_ (i := 1) (N := some 395) ?_
                                refine zq HT_ (i := 2) (N := some 396) ?_
                                refine zq HT_ (i := 3) (N := some 397) ?_
                                refine zq HT_ (i := 4) (N := some 398) ?_
                                refine zq HT_ (i := 6) (N := some 400) ?_
                                refine zq HT_ (i := 7) (N := some 401) ?_
                                refine zq HT_ (i := 9) (N := some 403) ?_
                                refine zq HT_ (i := 10) (N := some 404) ?_
                                refine zx7 HT_ HW_ hHeld (i := 0) (N := some 394) ?_
                                refine zx7 HT_ HW_ hHeld (i := 5) (N := some 399) ?_
                                refine zx7 HT_ HW_ hHeld (i := 8) (N := some 402) ?_
                                refine zx7 HT_ HW_ hHeld (i := 11) (N := some 405) ?_
                                refine one_ (i := 12) (N := some 406) #[true, true, true, true, true, true, true, true, true, true, true, true, true, false, false, false, false, false] rfl rfl (one_of HT_.out zn) (by decide) (fun K hK => ?_)
                                refine goes_ Try.func52 zn rfl #[.agg #[.int .i64 t511, .int .i64 t512, .bool t513, .bool t514], .int .i64 (rd t522 (ji199)), .int .i64 (rd (rd_L1 t551 t518) 0), .int .i64 (rd (rd_L1 t551 t518) 1)] (by rfl) rfl rfl (by (try simp only [List.map_toArray, List.map_cons, List.map_nil]); first | done | (simp only [hji199]; rfl) | rfl | (simp only [List.length_drop, List.length_take]; rfl)) ?_
                                with_reducible refine (impl_StepAround.calls t511 t512 t513 t514 (rd t522 (ji199)) (rd (rd_L1 t551 t518) 0) (rd (rd_L1 t551 t518) 1) t561 true _ A204.out).mono ?_
                                rintro e w225 ⟨rfl, hb⟩
                                have HS4_ := (hb.cell (World.block_lt_of_cell? _ _ (hHeld.2.2.2.2.1))).trans (hHeld.2.2.2.2.1)
                                have HS5_ := (hb.cell (World.block_lt_of_cell? _ _ (hHeld.2.2.2.2.2.1))).trans (hHeld.2.2.2.2.2.1)
                                have HS6_ := (hb.cell (World.block_lt_of_cell? _ _ (hHeld.2.2.2.2.2.2))).trans (hHeld.2.2.2.2.2.2)
                                refine ⟨_, rfl, ?_⟩
                                replace HO_31 := zRb HO_31 hb
                                replace HO_49 := zA (Kd.S_below (zL HO_49.out) hb)
                                replace HL556_0 := zRb HL556_0 hb
                                replace HL557_0 := zRb HL557_0 hb
                                replace BK483 := zKb BK483 hb
                                replace BK520 := zKb BK520 hb
                                replace BK521 := zKb BK521 hb
                                replace BK540 := zKb BK540 hb
                                replace BK541 := zKb BK541 hb
                                replace HR556_0 := zA (Kd.C_below (zC HR556_0.out) hb)
                                replace HR557_0 := zA (Kd.C_below (zC HR557_0.out) hb)
                                replace HB := zA (below_step (zB5 HB GE483 GE520 GE521 GE540 GE541) hb)
                                (try clear hb); (try clear hb2); (try clear hk); (try clear hi)
                                refine hK.out _ _ ⟨(blk_cell BK520.out 0).trans rfl, (blk_cell BK520.out 1).trans rfl, (blk_cell BK520.out 2).trans rfl, (blk_cell BK520.out 3).trans rfl, HS4_, HS5_, HS6_⟩ (fun hHeld => ?_)
                                clear hK K
                                refine norm_ (a' := ?_) ?_ ?_
                                rotate_left
                                ·show Act.put _ (some 406) _ = _
                                 simp only [Act.put, List.setIfInBounds_toArray, List.set_cons_zero, List.set_cons_succ, i64_w, i32_w]
                                 rfl
                                refine zq HT_ (i := 13) (N := some 393) ?_
                                refine zq HT_ (i := 14) (N := some 407) ?_
                                refine zq HT_ (i := 15) (N := some 408) ?_
                                refine zq HT_ (i := 16) (N := some 53) ?_
                                refine zq HT_ (i := 17) (N := some 54) ?_
                                refine done_ (done_of HT_.out zn) ?_
                                have p563 : 0 ≤ (x51_6 : Int) := zd
                                have q563 : x51_6 < (t522.length : Int) := zd
                                obtain ⟨ad563, e563, hx563_0⟩ := Kd.at_int (Kd.R_reads' HO_31.out).2.2 x51_6 p563 q563
                                obtain rfl : ad558 = ad563 := (by injection e563)
                                replace p563 := eq_true p563
                                replace q563 := eq_true q563
                                try go_wp2
                                go_ret
                                exact ⟨by first | rfl | (simp [errW_none, errW_some] <;> rfl) | (simp only [← hji199]; first | rfl | (simp [errW_none, errW_some] <;> rfl)) | (simp [*, errW_none, errW_some] <;> rfl), zB5 HB GE483 GE520 GE521 GE540 GE541⟩
                              ·rw [if_neg c206] at H
                               exact absurd H (by simp)
                             ·replace c205 := Bool.eq_false_iff.mpr c205
                              subst c205
                              have H1 : (some false) = some r := by rw [if_neg (show ¬ (false = true) by decide)] at H; exact H
                              clear H
                              have H := H1
                              clear H1
                              obtain rfl := Option.some.inj H
                              obtain ⟨Ao226, co226, eo226⟩ := Kd.R_slice HO_31.out
                              subst eo226
                              obtain ⟨Ao227, co227, eo227⟩ := Kd.S_slice HO_49.out
                              subst eo227
                              have p556 : 0 ≤ (t517 : Int) := zd
                              have q556 : t517 < (t551.length : Int) := zd
                              obtain ⟨ad556, A556_0, c556_0, e556, hx556_0, hl556_0, hi556_0⟩ := at_L1 (Kd.S_reads' HO_49.out).2.2 t517 p556 q556
                              cases e556
                              obtain ⟨ce556, hce556, hMe556, hcc556⟩ := Kd.S_get HO_49.out [] t517 p556 (by first | exact q556 | exact zd | (have e_ := (Kd.S_reads' HO_49.out).1; omega))
                              obtain ⟨ve556_0, rfl, ge556_0⟩ := hMe556
                              have hv556_0 := hcc556 0 _ rfl
                              rw [Nat.add_zero, show ((Kd.slice 3 (Kd.int .i64))).sz = 1 from rfl, Nat.mul_one] at hv556_0
                              replace hv556_0 := Option.some.inj (hv556_0.symm.trans hx556_0)
                              rw [hv556_0] at ge556_0
                              have HL556_0 := zA (show Kd.R (Kd.int .i64) 3 _ _ _ _ (rd_L1 t551 t517) from ge556_0)
                              clear hv556_0 ge556_0
                              clear hcc556 hce556
                              have HR556_0 := zA hi556_0
                              have HC556_0 := zA hl556_0
                              clear hi556_0 hl556_0
                              replace p556 := eq_true p556
                              replace q556 := eq_true q556
                              have p557 : 0 ≤ (t518 : Int) := zd
                              have q557 : t518 < (t551.length : Int) := zd
                              obtain ⟨ad557, A557_0, c557_0, e557, hx557_0, hl557_0, hi557_0⟩ := at_L1 (Kd.S_reads' HO_49.out).2.2 t518 p557 q557
                              obtain rfl : ad556 = ad557 := (by injection e557)
                              obtain ⟨ce557, hce557, hMe557, hcc557⟩ := Kd.S_get HO_49.out [] t518 p557 (by first | exact q557 | exact zd | (have e_ := (Kd.S_reads' HO_49.out).1; omega))
                              obtain ⟨ve557_0, rfl, ge557_0⟩ := hMe557
                              have hv557_0 := hcc557 0 _ rfl
                              rw [Nat.add_zero, show ((Kd.slice 3 (Kd.int .i64))).sz = 1 from rfl, Nat.mul_one] at hv557_0
                              replace hv557_0 := Option.some.inj (hv557_0.symm.trans hx557_0)
                              rw [hv557_0] at ge557_0
                              have HL557_0 := zA (show Kd.R (Kd.int .i64) 3 _ _ _ _ (rd_L1 t551 t518) from ge557_0)
                              clear hv557_0 ge557_0
                              clear hcc557 hce557
                              have HR557_0 := zA hi557_0
                              have HC557_0 := zA hl557_0
                              clear hi557_0 hl557_0
                              replace p557 := eq_true p557
                              replace q557 := eq_true q557
                              try go_wp2
                              replace HO_31 := zA (Kd.R_drew HO_31.out)
                              replace HO_49 := zA (Kd.S_drew HO_49.out)
                              replace HL556_0 := zA (Kd.R_drew HL556_0.out)
                              replace HL557_0 := zA (Kd.R_drew HL557_0.out)
                              replace BK483 := zA (blk_drew BK483.out)
                              replace BK520 := zA (blk_drew BK520.out)
                              replace BK521 := zA (blk_drew BK521.out)
                              replace BK540 := zA (blk_drew BK540.out)
                              replace BK541 := zA (blk_drew BK541.out)
                              replace HR556_0 := zA (Kd.C_drew HR556_0.out)
                              replace HR557_0 := zA (Kd.C_drew HR557_0.out)
                              replace HB := zA (below_drew1 HB.out)
                              have p558 : 0 ≤ ((ji199) : Int) := zd
                              have q558 : (ji199) < (t522.length : Int) := zd
                              obtain ⟨ad558, e558, hx558_0⟩ := Kd.at_int (Kd.R_reads' HO_31.out).2.2 (ji199) p558 q558
                              cases e558
                              replace p558 := eq_true p558
                              replace q558 := eq_true q558
                              have p559 : 0 ≤ (0 : Int) := (by omega)
                              have q559 : 0 < ((rd_L1 t551 t518).length : Int) := zd
                              obtain ⟨ad559, e559, hx559_0⟩ := Kd.at_int (zC HR557_0.out) 0 p559 q559
                              cases e559
                              have qi559 : (0 < (rd_L1 t551 t518).length) = True := eq_true (by omega)
                              (try rw [show ((0 : Int)).toNat = 0 from rfl] at hx559_0)
                              (try rw [Addr.add_zero'] at hx559_0)
                              replace p559 := eq_true p559
                              replace q559 := eq_true q559
                              have p560 : 0 ≤ (1 : Int) := (by omega)
                              have q560 : 1 < ((rd_L1 t551 t518).length : Int) := zd
                              obtain ⟨ad560, e560, hx560_0⟩ := Kd.at_int (zC HR557_0.out) 1 p560 q560
                              obtain rfl : ad559 = ad560 := (by injection e560)
                              (try simp only [show (1 : Int).toNat = 1 from rfl, Nat.reduceMul, Nat.reduceEqDiff, Go.Addr.add, ↓reduceIte] at hx560_0)
                              have qi560 : (1 < (rd_L1 t551 t518).length) = True := eq_true (by omega)
                              (try rw [show ((1 : Int)).toNat = 1 from rfl] at hx560_0)
                              replace p560 := eq_true p560
                              replace q560 := eq_true q560
                              refine start_ (n := 18) (S := fun w' => w'.cell? ⟨gb520, 0, none⟩ = some (.int .i64 t511) ∧ w'.cell? ⟨gb520, 1, none⟩ = some (.int .i64 t512) ∧ w'.cell? ⟨gb520, 2, none⟩ = some (.bool t513) ∧ w'.cell? ⟨gb520, 3, none⟩ = some (.bool t514) ∧ w'.cell? (ad558.add ((ji199)).toNat) = some (.int .i64 (rd t522 (ji199))) ∧ w'.cell? ad559 = some (.int .i64 (rd (rd_L1 t551 t518) 0)) ∧ w'.cell? ⟨ad559.block, ad559.off + 1, none⟩ = some (.int .i64 (rd (rd_L1 t551 t518) 1))) (ds := []) #[false, false, false, false, false, false, false, false, false, false, false, false, false, false, false, false, false, false] zn rfl rfl ⟨(blk_cell BK520.out 0).trans rfl, (blk_cell BK520.out 1).trans rfl, (blk_cell BK520.out 2).trans rfl, (blk_cell BK520.out 3).trans rfl, hx558_0, hx559_0, hx560_0⟩ (fun hHeld => ?_); refine with_tabW laws_FnOrbitsShare.tab50 laws_FnOrbitsShare.bits50 (fun HT_ HW_ => ?_)
                              generalize wr.drew = w228 at HO_31 HO_49 HL556_0 HL557_0 BK483 BK520 BK521 BK540 BK541 HR556_0 HR557_0 HB hx558_0 hx559_0 hx560_0 hHeld ⊢
                              refine zq HT_ (i := 1) (N := some 395) ?_
                              refine zq HT_ (i := 2) (N := some 396) ?_
                              refine zq HT_ (i := 3) (N := some 397) ?_
                              refine zq HT_ (i := 4) (N := some 398) ?_
                              refine zq HT_ (i := 6) (N := some 400) ?_
                              refine zq HT_ (i := 7) (N := some 401) ?_
                              refine zq HT_ (i := 9) (N := some 403) ?_
                              refine zq HT_ (i := 10) (N := some 404) ?_
                              refine zx7 HT_ HW_ hHeld (i := 0) (N := some 394) ?_
                              refine zx7 HT_ HW_ hHeld (i := 5) (N := some 399) ?_
                              refine zx7 HT_ HW_ hHeld (i := 8) (N := some 402) ?_
                              refine zx7 HT_ HW_ hHeld (i := 11) (N := some 405) ?_
                              refine one_ (i := 12) (N := some 406) #[true, true, true, true, true, true, true, true, true, true, true, true, true, false, false, false, false, false] rfl rfl (one_of HT_.out zn) (by decide) (fun K hK => ?_)
                              refine goes_ Try.func52 zn rfl #[.agg #[.int .i64 t511, .int .i64 t512, .bool t513, .bool t514], .int .i64 (rd t522 (ji199)), .int .i64 (rd (rd_L1 t551 t518) 0), .int .i64 (rd (rd_L1 t551 t518) 1)] (by rfl) rfl rfl (by (try simp only [List.map_toArray, List.map_cons, List.map_nil]); first | done | (simp only [hji199]; rfl) | rfl | (simp only [List.length_drop, List.length_take]; rfl)) ?_
                              with_reducible refine (impl_StepAround.calls t511 t512 t513 t514 (rd t522 (ji199)) (rd (rd_L1 t551 t518) 0) (rd (rd_L1 t551 t518) 1) t561 false _ A204.out).mono ?_
                              rintro e w229 ⟨rfl, hb⟩
                              have HS4_ := (hb.cell (World.block_lt_of_cell? _ _ (hHeld.2.2.2.2.1))).trans (hHeld.2.2.2.2.1)
                              have HS5_ := (hb.cell (World.block_lt_of_cell? _ _ (hHeld.2.2.2.2.2.1))).trans (hHeld.2.2.2.2.2.1)
                              have HS6_ := (hb.cell (World.block_lt_of_cell? _ _ (hHeld.2.2.2.2.2.2))).trans (hHeld.2.2.2.2.2.2)
                              refine ⟨_, rfl, ?_⟩
                              replace HO_31 := zRb HO_31 hb
                              replace HO_49 := zA (Kd.S_below (zL HO_49.out) hb)
                              replace HL556_0 := zRb HL556_0 hb
                              replace HL557_0 := zRb HL557_0 hb
                              replace BK483 := zKb BK483 hb
                              replace BK520 := zKb BK520 hb
                              replace BK521 := zKb BK521 hb
                              replace BK540 := zKb BK540 hb
                              replace BK541 := zKb BK541 hb
                              replace HR556_0 := zA (Kd.C_below (zC HR556_0.out) hb)
                              replace HR557_0 := zA (Kd.C_below (zC HR557_0.out) hb)
                              replace HB := zA (below_step (zB5 HB GE483 GE520 GE521 GE540 GE541) hb)
                              (try clear hb); (try clear hb2); (try clear hk); (try clear hi)
                              refine hK.out _ _ ⟨(blk_cell BK520.out 0).trans rfl, (blk_cell BK520.out 1).trans rfl, (blk_cell BK520.out 2).trans rfl, (blk_cell BK520.out 3).trans rfl, HS4_, HS5_, HS6_⟩ (fun hHeld => ?_)
                              clear hK K
                              refine norm_ (a' := ?_) ?_ ?_
                              rotate_left
                              ·show Act.put _ (some 406) _ = _
                               simp only [Act.put, List.setIfInBounds_toArray, List.set_cons_zero, List.set_cons_succ, i64_w, i32_w]
                               rfl
                              refine zq HT_ (i := 13) (N := some 393) ?_
                              refine zq HT_ (i := 14) (N := some 407) ?_
                              refine zq HT_ (i := 15) (N := some 408) ?_
                              refine zq HT_ (i := 16) (N := some 53) ?_
                              refine zq HT_ (i := 17) (N := some 54) ?_
                              refine done_ (done_of HT_.out zn) ?_
                              try go_wp2
                              go_ret
                              exact ⟨by first | rfl | (simp [errW_none, errW_some] <;> rfl) | (simp only [← hji199]; first | rfl | (simp [errW_none, errW_some] <;> rfl)) | (simp [*, errW_none, errW_some] <;> rfl), zB5 HB GE483 GE520 GE521 GE540 GE541⟩
                            ·rw [if_neg c203] at H
                             exact absurd H (by simp)
                           ·rw [if_neg c202] at H
                            exact absurd H (by simp)
                          ·rw [if_neg c201] at H
                           exact absurd H (by simp)
                         ·rw [if_neg c200] at H
                          exact absurd H (by simp)
                        ·rw [if_neg c198] at H
                         exact absurd H (by simp)
                       ·rw [if_neg c197] at H
                        exact absurd H (by simp)
                      ·as_aux_lemma =>
                       rw [if_neg c196] at H
                       have c196b0 : ((Int.tmod x51_6 t519) == 0) = false := beq_eq_false_iff_ne.mpr c196
                       have c196b1 : ((Int.tmod x51_6 t519) != 0) = true := bne_iff_ne.mpr c196
                       obtain ⟨ji230, hji230⟩ : ∃ j_ : Int, (wrap64 (x51_6 - 1)) = j_ := ⟨_, rfl⟩
                       replace H : (if 0 ≤ (ji230) then (if (ji230) < (t522.length : Int) then (if 0 < ((rd_L1 t551 t517).length : Int) then (if 1 < ((rd_L1 t551 t517).length : Int) then ((impl_StepAround.f t511 t512 t513 t514 (rd t522 (ji230)) (rd (rd_L1 t551 t517) 0) (rd (rd_L1 t551 t517) 1)).bind fun bt572 => (if bt572.2 = true then (if 0 ≤ x51_6 then (if bt572.1 = (rd t522 x51_6) then (if x51_6 ≤ (t522.length : Int) then ((laws_nHas.f k6 (t522.take (x51_6 : Int).toNat) bt572.1).bind fun t579 => (if t579 = true then (some false) else (laws_FnOrbitsShare.l2 k6 t517 t518 t519 t522 t542 t543 t544 t545 t551 (wrap64 (x51_6 + 1)) t511 t512 t513 t514 t534 t535 t536 t537 t538 t539))) else (none)) else (some false)) else (none)) else (some false))) else (none)) else (none)) else (none)) else (none)) = some r := by first | (rw [hji230] at H; exact H) | (simp only [hji230] at H ⊢; exact H)
                       have hji230w : (IntKind.i64.wrap (x51_6 - 1)) = ji230 := (i64_w _).trans hji230
                       by_cases c231 : 0 ≤ (ji230)
                       ·as_aux_lemma =>
                        rw [if_pos c231] at H
                        have c231b0 : decide (0 ≤ (ji230)) = true := decide_eq_true c231
                        clear c231
                        by_cases c232 : (ji230) < (t522.length : Int)
                        ·as_aux_lemma =>
                         rw [if_pos c232] at H
                         have c232b0 : decide ((ji230) < (t522.length : Int)) = true := decide_eq_true c232
                         clear c232
                         by_cases c233 : 0 < ((rd_L1 t551 t517).length : Int)
                         ·as_aux_lemma =>
                          rw [if_pos c233] at H
                          have c233b0 : decide (0 < ((rd_L1 t551 t517).length : Int)) = true := decide_eq_true c233
                          have c233b1 : decide (0 < (rd_L1 t551 t517).length) = true := decide_eq_true (by omega)
                          clear c233
                          by_cases c234 : 1 < ((rd_L1 t551 t517).length : Int)
                          ·as_aux_lemma =>
                           rw [if_pos c234] at H
                           have c234b0 : decide (1 < ((rd_L1 t551 t517).length : Int)) = true := decide_eq_true c234
                           have c234b1 : decide (1 < (rd_L1 t551 t517).length) = true := decide_eq_true (by omega)
                           clear c234
                           obtain ⟨⟨t572, t573⟩, A235, H⟩ := zM H
                           try dsimp only at H
                           by_cases c236 : t573 = true
                           ·as_aux_lemma =>
                            subst c236
                            have H1 : (if 0 ≤ x51_6 then (if t572 = (rd t522 x51_6) then (if x51_6 ≤ (t522.length : Int) then ((laws_nHas.f k6 (t522.take (x51_6 : Int).toNat) t572).bind fun t579 => (if t579 = true then (some false) else (laws_FnOrbitsShare.l2 k6 t517 t518 t519 t522 t542 t543 t544 t545 t551 (wrap64 (x51_6 + 1)) t511 t512 t513 t514 t534 t535 t536 t537 t538 t539))) else (none)) else (some false)) else (none)) = some r := by rw [if_pos rfl] at H; exact H
                            clear H
                            have H := H1
                            clear H1
                            by_cases c237 : 0 ≤ x51_6
                            ·as_aux_lemma =>
                             rw [if_pos c237] at H
                             have c237b0 : decide (0 ≤ x51_6) = true := decide_eq_true c237
                             clear c237
                             by_cases c238 : t572 = (rd t522 x51_6)
                             ·as_aux_lemma =>
                              rw [if_pos c238] at H
                              have c238b0 : (t572 == (rd t522 x51_6)) = true := beq_iff_eq.mpr c238
                              have c238b1 : (t572 != (rd t522 x51_6)) = false := bne_eq_false_iff_eq.mpr c238
                              clear c238
                              have c239b0 := eq_true (zd : 0 ≤ x51_6)
                              by_cases c240 : x51_6 ≤ (t522.length : Int)
                              ·as_aux_lemma =>
                               rw [if_pos c240] at H
                               have c240b0 := eq_true c240
                               have c240b1 : decide (x51_6 ≤ (t522.length : Int)) = true := decide_eq_true c240
                               clear c240
                               obtain ⟨y575, hy575⟩ : ∃ y_ : List Int, y_ = (t522.take (x51_6 : Int).toNat) := ⟨_, rfl⟩
                               replace H : ((laws_nHas.f k6 y575 t572).bind fun t579 => (if t579 = true then (some false) else (laws_FnOrbitsShare.l2 k6 t517 t518 t519 t522 t542 t543 t544 t545 t551 (wrap64 (x51_6 + 1)) t511 t512 t513 t514 t534 t535 t536 t537 t538 t539))) = some r := by first | (rw [hy575]; with_reducible exact H) | (have H2_ := (Option.bind_some _ _).symm.trans H; rw [hy575]; with_reducible exact H2_) | (have H2_ := (Option.bind_some _ _).symm.trans H; with_reducible exact H2_) | with_reducible exact H | (rw [hy575]; exact H) | exact H
                               have Ny575 := zA hy575
                               clear hy575
                               obtain ⟨t579, A241, H⟩ := zM H
                               try dsimp only at H
                               by_cases c242 : t579 = true
                               ·as_aux_lemma =>
                                subst c242
                                have H1 : (some false) = some r := by rw [if_pos rfl] at H; exact H
                                clear H
                                have H := H1
                                clear H1
                                obtain rfl := Option.some.inj H
                                obtain ⟨Ao243, co243, eo243⟩ := Kd.R_slice HO_31.out
                                subst eo243
                                obtain ⟨Ao244, co244, eo244⟩ := Kd.S_slice HO_49.out
                                subst eo244
                                have p556 : 0 ≤ (t517 : Int) := zd
                                have q556 : t517 < (t551.length : Int) := zd
                                obtain ⟨ad556, A556_0, c556_0, e556, hx556_0, hl556_0, hi556_0⟩ := at_L1 (Kd.S_reads' HO_49.out).2.2 t517 p556 q556
                                cases e556
                                obtain ⟨ce556, hce556, hMe556, hcc556⟩ := Kd.S_get HO_49.out [] t517 p556 (by first | exact q556 | exact zd | (have e_ := (Kd.S_reads' HO_49.out).1; omega))
                                obtain ⟨ve556_0, rfl, ge556_0⟩ := hMe556
                                have hv556_0 := hcc556 0 _ rfl
                                rw [Nat.add_zero, show ((Kd.slice 3 (Kd.int .i64))).sz = 1 from rfl, Nat.mul_one] at hv556_0
                                replace hv556_0 := Option.some.inj (hv556_0.symm.trans hx556_0)
                                rw [hv556_0] at ge556_0
                                have HL556_0 := zA (show Kd.R (Kd.int .i64) 3 _ _ _ _ (rd_L1 t551 t517) from ge556_0)
                                clear hv556_0 ge556_0
                                clear hcc556 hce556
                                have HR556_0 := zA hi556_0
                                have HC556_0 := zA hl556_0
                                clear hi556_0 hl556_0
                                replace p556 := eq_true p556
                                replace q556 := eq_true q556
                                try go_wp2
                                replace HO_31 := zA (Kd.R_drew HO_31.out)
                                replace HO_49 := zA (Kd.S_drew HO_49.out)
                                replace HL556_0 := zA (Kd.R_drew HL556_0.out)
                                replace BK483 := zA (blk_drew BK483.out)
                                replace BK520 := zA (blk_drew BK520.out)
                                replace BK521 := zA (blk_drew BK521.out)
                                replace BK540 := zA (blk_drew BK540.out)
                                replace BK541 := zA (blk_drew BK541.out)
                                replace HR556_0 := zA (Kd.C_drew HR556_0.out)
                                replace HB := zA (below_drew1 HB.out)
                                have p569 : 0 ≤ ((ji230) : Int) := zd
                                have q569 : (ji230) < (t522.length : Int) := zd
                                obtain ⟨ad569, e569, hx569_0⟩ := Kd.at_int (Kd.R_reads' HO_31.out).2.2 (ji230) p569 q569
                                cases e569
                                replace p569 := eq_true p569
                                replace q569 := eq_true q569
                                have p570 : 0 ≤ (0 : Int) := (by omega)
                                have q570 : 0 < ((rd_L1 t551 t517).length : Int) := zd
                                obtain ⟨ad570, e570, hx570_0⟩ := Kd.at_int (zC HR556_0.out) 0 p570 q570
                                cases e570
                                have qi570 : (0 < (rd_L1 t551 t517).length) = True := eq_true (by omega)
                                (try rw [show ((0 : Int)).toNat = 0 from rfl] at hx570_0)
                                (try rw [Addr.add_zero'] at hx570_0)
                                replace p570 := eq_true p570
                                replace q570 := eq_true q570
                                have p571 : 0 ≤ (1 : Int) := (by omega)
                                have q571 : 1 < ((rd_L1 t551 t517).length : Int) := zd
                                obtain ⟨ad571, e571, hx571_0⟩ := Kd.at_int (zC HR556_0.out) 1 p571 q571
                                obtain rfl : ad570 = ad571 := (by injection e571)
                                (try simp only [show (1 : Int).toNat = 1 from rfl, Nat.reduceMul, Nat.reduceEqDiff, Go.Addr.add, ↓reduceIte] at hx571_0)
                                have qi571 : (1 < (rd_L1 t551 t517).length) = True := eq_true (by omega)
                                (try rw [show ((1 : Int)).toNat = 1 from rfl] at hx571_0)
                                replace p571 := eq_true p571
                                replace q571 := eq_true q571
                                refine start_ (n := 18) (S := fun w' => w'.cell? ⟨gb520, 0, none⟩ = some (.int .i64 t511) ∧ w'.cell? ⟨gb520, 1, none⟩ = some (.int .i64 t512) ∧ w'.cell? ⟨gb520, 2, none⟩ = some (.bool t513) ∧ w'.cell? ⟨gb520, 3, none⟩ = some (.bool t514) ∧ w'.cell? (ad569.add ((ji230)).toNat) = some (.int .i64 (rd t522 (ji230))) ∧ w'.cell? ad570 = some (.int .i64 (rd (rd_L1 t551 t517) 0)) ∧ w'.cell? ⟨ad570.block, ad570.off + 1, none⟩ = some (.int .i64 (rd (rd_L1 t551 t517) 1))) (ds := []) #[false, false, false, false, false, false, false, false, false, false, false, false, false, false, false, false, false, false] zn rfl rfl ⟨(blk_cell BK520.out 0).trans rfl, (blk_cell BK520.out 1).trans rfl, (blk_cell BK520.out 2).trans rfl, (blk_cell BK520.out 3).trans rfl, hx569_0, hx570_0, hx571_0⟩ (fun hHeld => ?_); refine with_tabW laws_FnOrbitsShare.tab50 laws_FnOrbitsShare.bits50 (fun HT_ HW_ => ?_)
                                generalize wr.drew = w245 at HO_31 HO_49 HL556_0 BK483 BK520 BK521 BK540 BK541 HR556_0 HB hx569_0 hx570_0 hx571_0 hHeld ⊢
                                refine zq HT_ (i := 1) (N := some 395) ?_
                                refine zq HT_ (i := 2) (N := some 396) ?_
                                refine zq HT_ (i := 3) (N := some 397) ?_
                                refine zq HT_ (i := 4) (N := some 398) ?_
                                refine zq HT_ (i := 6) (N := some 400) ?_
                                refine zq HT_ (i := 7) (N := some 401) ?_
                                refine zq HT_ (i := 9) (N := some 403) ?_
                                refine zq HT_ (i := 10) (N := some 404) ?_
                                refine zx7 HT_ HW_ hHeld (i := 0) (N := some 394) ?_
                                refine zx7 HT_ HW_ hHeld (i := 5) (N := some 399) ?_
                                refine zx7 HT_ HW_ hHeld (i := 8) (N := some 402) ?_
                                refine zx7 HT_ HW_ hHeld (i := 11) (N := some 405) ?_
                                refine one_ (i := 12) (N := some 406) #[true, true, true, true, true, true, true, true, true, true, true, true, true, false, false, false, false, false] rfl rfl (one_of HT_.out zn) (by decide) (fun K hK => ?_)
                                refine goes_ Try.func52 zn rfl #[.agg #[.int .i64 t511, .int .i64 t512, .bool t513, .bool t514], .int .i64 (rd t522 (ji230)), .int .i64 (rd (rd_L1 t551 t517) 0), .int .i64 (rd (rd_L1 t551 t517) 1)] (by rfl) rfl rfl (by (try simp only [List.map_toArray, List.map_cons, List.map_nil]); first | done | (simp only [hji230]; rfl) | rfl | (simp only [List.length_drop, List.length_take]; rfl)) ?_
                                with_reducible refine (impl_StepAround.calls t511 t512 t513 t514 (rd t522 (ji230)) (rd (rd_L1 t551 t517) 0) (rd (rd_L1 t551 t517) 1) t572 true _ A235.out).mono ?_
                                rintro e w246 ⟨rfl, hb⟩
                                have HS4_ := (hb.cell (World.block_lt_of_cell? _ _ (hHeld.2.2.2.2.1))).trans (hHeld.2.2.2.2.1)
                                have HS5_ := (hb.cell (World.block_lt_of_cell? _ _ (hHeld.2.2.2.2.2.1))).trans (hHeld.2.2.2.2.2.1)
                                have HS6_ := (hb.cell (World.block_lt_of_cell? _ _ (hHeld.2.2.2.2.2.2))).trans (hHeld.2.2.2.2.2.2)
                                refine ⟨_, rfl, ?_⟩
                                replace HO_31 := zRb HO_31 hb
                                replace HO_49 := zA (Kd.S_below (zL HO_49.out) hb)
                                replace HL556_0 := zRb HL556_0 hb
                                replace BK483 := zKb BK483 hb
                                replace BK520 := zKb BK520 hb
                                replace BK521 := zKb BK521 hb
                                replace BK540 := zKb BK540 hb
                                replace BK541 := zKb BK541 hb
                                replace HR556_0 := zA (Kd.C_below (zC HR556_0.out) hb)
                                replace HB := zA (below_step (zB5 HB GE483 GE520 GE521 GE540 GE541) hb)
                                (try clear hb); (try clear hb2); (try clear hk); (try clear hi)
                                refine hK.out _ _ ⟨(blk_cell BK520.out 0).trans rfl, (blk_cell BK520.out 1).trans rfl, (blk_cell BK520.out 2).trans rfl, (blk_cell BK520.out 3).trans rfl, HS4_, HS5_, HS6_⟩ (fun hHeld => ?_)
                                clear hK K
                                refine norm_ (a' := ?_) ?_ ?_
                                rotate_left
                                ·show Act.put _ (some 406) _ = _
                                 simp only [Act.put, List.setIfInBounds_toArray, List.set_cons_zero, List.set_cons_succ, i64_w, i32_w]
                                 rfl
                                refine zq HT_ (i := 13) (N := some 393) ?_
                                refine zq HT_ (i := 14) (N := some 407) ?_
                                refine zq HT_ (i := 15) (N := some 408) ?_
                                refine zq HT_ (i := 16) (N := some 53) ?_
                                refine zq HT_ (i := 17) (N := some 54) ?_
                                refine done_ (done_of HT_.out zn) ?_
                                have p574 : 0 ≤ (x51_6 : Int) := zd
                                have q574 : x51_6 < (t522.length : Int) := zd
                                obtain ⟨ad574, e574, hx574_0⟩ := Kd.at_int (Kd.R_reads' HO_31.out).2.2 x51_6 p574 q574
                                obtain rfl : ad569 = ad574 := (by injection e574)
                                replace p574 := eq_true p574
                                replace q574 := eq_true q574
                                have q247 : (x51_6 : Int) ≤ ((t522.length : Int) : Int) := zd
                                obtain ⟨i0247, hi0247, _, hsz247, _⟩ := info_parts info3
                                have hroom247 : t522.length ≤ co243 := (Kd.R_reads' HO_31.out).2.1
                                have hC247 : Kd.C (Kd.int .i64) _ (some ad569) t522.length t522 := (Kd.R_reads' HO_31.out).2.2
                                have hcut247 := cut_to (P := Try.prog) 33 3 .i64 Try.underlying33 hi0247 (some ad569) t522.length co243 x51_6 (zd) q247 hroom247
                                have hr247 := Kd.C_take (m := (x51_6 : Int).toNat) hC247 (by omega)
                                have hy247 : y575.length = (x51_6 : Int).toNat := (by rw [Ny575.out, List.length_take]; omega)
                                rw [← Ny575.out] at hr247
                                rw [← hy247] at hcut247
                                have HR578 := zA hr247
                                have HC578 := zA (show y575.length ≤ co243 from by omega)
                                clear hr247 hC247 hroom247 hi0247 hsz247
                                have KY247 := zA hy247
                                clear hy247
                                have KL247 := zA (show (x51_6 : Int).toNat ≤ t522.length from by omega)
                                replace q247 := eq_true q247
                                try go_wp2_with (first | (go_at_call 53; (with_reducible refine (laws_nHas.calls k6 _ _ y575 t572 true _ ?side1 ?side2 A241.out).mono ?_); (case side1 => repeat (first | exact (zC HR578.out) | (with_reducible refine Kd.C_alloc ?_ _) | (with_reducible refine Kd.C_drewN ?_ _) | (with_reducible refine Kd.C_drew ?_))); (case side2 => exact HC578.out); rintro e w' ⟨rfl, ⟨nd, rfl⟩⟩))
                                go_ret
                                exact ⟨by first | rfl | (simp [errW_none, errW_some] <;> rfl) | (simp only [← hji230]; first | rfl | (simp [errW_none, errW_some] <;> rfl)) | (simp [*, errW_none, errW_some] <;> rfl), zB5 HB GE483 GE520 GE521 GE540 GE541⟩
                               ·replace c242 := Bool.eq_false_iff.mpr c242
                                subst c242
                                have H1 : (laws_FnOrbitsShare.l2 k6 t517 t518 t519 t522 t542 t543 t544 t545 t551 (wrap64 (x51_6 + 1)) t511 t512 t513 t514 t534 t535 t536 t537 t538 t539) = some r := by rw [if_neg (show ¬ (false = true) by decide)] at H; exact H
                                clear H
                                have H := H1
                                clear H1
                                have H' := zA H
                                clear H
                                obtain ⟨Ao248, co248, eo248⟩ := Kd.R_slice HO_31.out
                                subst eo248
                                obtain ⟨Ao249, co249, eo249⟩ := Kd.S_slice HO_49.out
                                subst eo249
                                have p556 : 0 ≤ (t517 : Int) := zd
                                have q556 : t517 < (t551.length : Int) := zd
                                obtain ⟨ad556, A556_0, c556_0, e556, hx556_0, hl556_0, hi556_0⟩ := at_L1 (Kd.S_reads' HO_49.out).2.2 t517 p556 q556
                                cases e556
                                obtain ⟨ce556, hce556, hMe556, hcc556⟩ := Kd.S_get HO_49.out [] t517 p556 (by first | exact q556 | exact zd | (have e_ := (Kd.S_reads' HO_49.out).1; omega))
                                obtain ⟨ve556_0, rfl, ge556_0⟩ := hMe556
                                have hv556_0 := hcc556 0 _ rfl
                                rw [Nat.add_zero, show ((Kd.slice 3 (Kd.int .i64))).sz = 1 from rfl, Nat.mul_one] at hv556_0
                                replace hv556_0 := Option.some.inj (hv556_0.symm.trans hx556_0)
                                rw [hv556_0] at ge556_0
                                have HL556_0 := zA (show Kd.R (Kd.int .i64) 3 _ _ _ _ (rd_L1 t551 t517) from ge556_0)
                                clear hv556_0 ge556_0
                                clear hcc556 hce556
                                have HR556_0 := zA hi556_0
                                have HC556_0 := zA hl556_0
                                clear hi556_0 hl556_0
                                replace p556 := eq_true p556
                                replace q556 := eq_true q556
                                try go_wp2
                                replace HO_31 := zA (Kd.R_drew HO_31.out)
                                replace HO_49 := zA (Kd.S_drew HO_49.out)
                                replace HL556_0 := zA (Kd.R_drew HL556_0.out)
                                replace BK483 := zA (blk_drew BK483.out)
                                replace BK520 := zA (blk_drew BK520.out)
                                replace BK521 := zA (blk_drew BK521.out)
                                replace BK540 := zA (blk_drew BK540.out)
                                replace BK541 := zA (blk_drew BK541.out)
                                replace HR556_0 := zA (Kd.C_drew HR556_0.out)
                                replace HB := zA (below_drew1 HB.out)
                                have p569 : 0 ≤ ((ji230) : Int) := zd
                                have q569 : (ji230) < (t522.length : Int) := zd
                                obtain ⟨ad569, e569, hx569_0⟩ := Kd.at_int (Kd.R_reads' HO_31.out).2.2 (ji230) p569 q569
                                cases e569
                                replace p569 := eq_true p569
                                replace q569 := eq_true q569
                                have p570 : 0 ≤ (0 : Int) := (by omega)
                                have q570 : 0 < ((rd_L1 t551 t517).length : Int) := zd
                                obtain ⟨ad570, e570, hx570_0⟩ := Kd.at_int (zC HR556_0.out) 0 p570 q570
                                cases e570
                                have qi570 : (0 < (rd_L1 t551 t517).length) = True := eq_true (by omega)
                                (try rw [show ((0 : Int)).toNat = 0 from rfl] at hx570_0)
                                (try rw [Addr.add_zero'] at hx570_0)
                                replace p570 := eq_true p570
                                replace q570 := eq_true q570
                                have p571 : 0 ≤ (1 : Int) := (by omega)
                                have q571 : 1 < ((rd_L1 t551 t517).length : Int) := zd
                                obtain ⟨ad571, e571, hx571_0⟩ := Kd.at_int (zC HR556_0.out) 1 p571 q571
                                obtain rfl : ad570 = ad571 := (by injection e571)
                                (try simp only [show (1 : Int).toNat = 1 from rfl, Nat.reduceMul, Nat.reduceEqDiff, Go.Addr.add, ↓reduceIte] at hx571_0)
                                have qi571 : (1 < (rd_L1 t551 t517).length) = True := eq_true (by omega)
                                (try rw [show ((1 : Int)).toNat = 1 from rfl] at hx571_0)
                                replace p571 := eq_true p571
                                replace q571 := eq_true q571
                                refine start_ (n := 18) (S := fun w' => w'.cell? ⟨gb520, 0, none⟩ = some (.int .i64 t511) ∧ w'.cell? ⟨gb520, 1, none⟩ = some (.int .i64 t512) ∧ w'.cell? ⟨gb520, 2, none⟩ = some (.bool t513) ∧ w'.cell? ⟨gb520, 3, none⟩ = some (.bool t514) ∧ w'.cell? (ad569.add ((ji230)).toNat) = some (.int .i64 (rd t522 (ji230))) ∧ w'.cell? ad570 = some (.int .i64 (rd (rd_L1 t551 t517) 0)) ∧ w'.cell? ⟨ad570.block, ad570.off + 1, none⟩ = some (.int .i64 (rd (rd_L1 t551 t517) 1))) (ds := []) #[false, false, false, false, false, false, false, false, false, false, false, false, false, false, false, false, false, false] zn rfl rfl ⟨(blk_cell BK520.out 0).trans rfl, (blk_cell BK520.out 1).trans rfl, (blk_cell BK520.out 2).trans rfl, (blk_cell BK520.out 3).trans rfl, hx569_0, hx570_0, hx571_0⟩ (fun hHeld => ?_); refine with_tabW laws_FnOrbitsShare.tab50 laws_FnOrbitsShare.bits50 (fun HT_ HW_ => ?_)
                                generalize wr.drew = w250 at HO_31 HO_49 HL556_0 BK483 BK520 BK521 BK540 BK541 HR556_0 HB hx569_0 hx570_0 hx571_0 hHeld ⊢
                                refine zq HT_ (i := 1) (N := some 395) ?_
                                refine zq HT_ (i := 2) (N := some 396) ?_
                                refine zq HT_ (i := 3) (N := some 397) ?_
                                refine zq HT_ (i := 4) (N := some 398) ?_
                                refine zq HT_ (i := 6) (N := some 400) ?_
                                refine zq HT_ (i := 7) (N := some 401) ?_
                                refine zq HT_ (i := 9) (N := some 403) ?_
                                refine zq HT_ (i := 10) (N := some 404) ?_
                                refine zx7 HT_ HW_ hHeld (i := 0) (N := some 394) ?_
                                refine zx7 HT_ HW_ hHeld (i := 5) (N := some 399) ?_
                                refine zx7 HT_ HW_ hHeld (i := 8) (N := some 402) ?_
                                refine zx7 HT_ HW_ hHeld (i := 11) (N := some 405) ?_
                                refine one_ (i := 12) (N := some 406) #[true, true, true, true, true, true, true, true, true, true, true, true, true, false, false, false, false, false] rfl rfl (one_of HT_.out zn) (by decide) (fun K hK => ?_)
                                refine goes_ Try.func52 zn rfl #[.agg #[.int .i64 t511, .int .i64 t512, .bool t513, .bool t514], .int .i64 (rd t522 (ji230)), .int .i64 (rd (rd_L1 t551 t517) 0), .int .i64 (rd (rd_L1 t551 t517) 1)] (by rfl) rfl rfl (by (try simp only [List.map_toArray, List.map_cons, List.map_nil]); first | done | (simp only [hji230]; rfl) | rfl | (simp only [List.length_drop, List.length_take]; rfl)) ?_
                                with_reducible refine (impl_StepAround.calls t511 t512 t513 t514 (rd t522 (ji230)) (rd (rd_L1 t551 t517) 0) (rd (rd_L1 t551 t517) 1) t572 true _ A235.out).mono ?_
                                rintro e w251 ⟨rfl, hb⟩
                                have HS4_ := (hb.cell (World.block_lt_of_cell? _ _ (hHeld.2.2.2.2.1))).trans (hHeld.2.2.2.2.1)
                                have HS5_ := (hb.cell (World.block_lt_of_cell? _ _ (hHeld.2.2.2.2.2.1))).trans (hHeld.2.2.2.2.2.1)
                                have HS6_ := (hb.cell (World.block_lt_of_cell? _ _ (hHeld.2.2.2.2.2.2))).trans (hHeld.2.2.2.2.2.2)
                                refine ⟨_, rfl, ?_⟩
                                replace HO_31 := zRb HO_31 hb
                                replace HO_49 := zA (Kd.S_below (zL HO_49.out) hb)
                                replace HL556_0 := zRb HL556_0 hb
                                replace BK483 := zKb BK483 hb
                                replace BK520 := zKb BK520 hb
                                replace BK521 := zKb BK521 hb
                                replace BK540 := zKb BK540 hb
                                replace BK541 := zKb BK541 hb
                                replace HR556_0 := zA (Kd.C_below (zC HR556_0.out) hb)
                                replace HB := zA (below_step (zB5 HB GE483 GE520 GE521 GE540 GE541) hb)
                                (try clear hb); (try clear hb2); (try clear hk); (try clear hi)
                                refine hK.out _ _ ⟨(blk_cell BK520.out 0).trans rfl, (blk_cell BK520.out 1).trans rfl, (blk_cell BK520.out 2).trans rfl, (blk_cell BK520.out 3).trans rfl, HS4_, HS5_, HS6_⟩ (fun hHeld => ?_)
                                clear hK K
                                refine norm_ (a' := ?_) ?_ ?_
                                rotate_left
                                ·show Act.put _ (some 406) _ = _
                                 simp only [Act.put, List.setIfInBounds_toArray, List.set_cons_zero, List.set_cons_succ, i64_w, i32_w]
                                 rfl
                                refine zq HT_ (i := 13) (N := some 393) ?_
                                refine zq HT_ (i := 14) (N := some 407) ?_
                                refine zq HT_ (i := 15) (N := some 408) ?_
                                refine zq HT_ (i := 16) (N := some 53) ?_
                                refine zq HT_ (i := 17) (N := some 54) ?_
                                refine done_ (done_of HT_.out zn) ?_
                                have p574 : 0 ≤ (x51_6 : Int) := zd
                                have q574 : x51_6 < (t522.length : Int) := zd
                                obtain ⟨ad574, e574, hx574_0⟩ := Kd.at_int (Kd.R_reads' HO_31.out).2.2 x51_6 p574 q574
                                obtain rfl : ad569 = ad574 := (by injection e574)
                                replace p574 := eq_true p574
                                replace q574 := eq_true q574
                                have q252 : (x51_6 : Int) ≤ ((t522.length : Int) : Int) := zd
                                obtain ⟨i0252, hi0252, _, hsz252, _⟩ := info_parts info3
                                have hroom252 : t522.length ≤ co248 := (Kd.R_reads' HO_31.out).2.1
                                have hC252 : Kd.C (Kd.int .i64) _ (some ad569) t522.length t522 := (Kd.R_reads' HO_31.out).2.2
                                have hcut252 := cut_to (P := Try.prog) 33 3 .i64 Try.underlying33 hi0252 (some ad569) t522.length co248 x51_6 (zd) q252 hroom252
                                have hr252 := Kd.C_take (m := (x51_6 : Int).toNat) hC252 (by omega)
                                have hy252 : y575.length = (x51_6 : Int).toNat := (by rw [Ny575.out, List.length_take]; omega)
                                rw [← Ny575.out] at hr252
                                rw [← hy252] at hcut252
                                have HR578 := zA hr252
                                have HC578 := zA (show y575.length ≤ co248 from by omega)
                                clear hr252 hC252 hroom252 hi0252 hsz252
                                have KY252 := zA hy252
                                clear hy252
                                have KL252 := zA (show (x51_6 : Int).toNat ≤ t522.length from by omega)
                                replace q252 := eq_true q252
                                try go_wp2_with (first | (go_at_call 53; (with_reducible refine (laws_nHas.calls k6 _ _ y575 t572 false _ ?side1 ?side2 A241.out).mono ?_); (case side1 => repeat (first | exact (zC HR578.out) | (with_reducible refine Kd.C_alloc ?_ _) | (with_reducible refine Kd.C_drewN ?_ _) | (with_reducible refine Kd.C_drew ?_))); (case side2 => exact HC578.out); rintro e w' ⟨rfl, ⟨nd, rfl⟩⟩))
                                go_roundg k6
                                case measure => have := HJ11.out; have := HJ52.out; have := HJ69.out; have := HJ110.out; have := HJ173.out; have := HK6.out; omega
                                case rel => exact ⟨(wrap64 (x51_6 + 1)), ze, H', ⟨by have := HJ11.out; have := HJ52.out; have := HJ69.out; have := HJ110.out; have := HJ173.out; have := HK6.out; omega⟩, ⟨zR HO_31.out⟩, ⟨zL HO_49.out⟩, ⟨zK BK483⟩, ⟨zK BK520⟩, ⟨zK BK521⟩, ⟨zK BK540⟩, ⟨zK BK541⟩, ⟨zB5 HB GE483 GE520 GE521 GE540 GE541⟩⟩
                              ·rw [if_neg c240] at H
                               exact absurd H (by simp)
                             ·as_aux_lemma =>
                              rw [if_neg c238] at H
                              have c238b0 : (t572 == (rd t522 x51_6)) = false := beq_eq_false_iff_ne.mpr c238
                              have c238b1 : (t572 != (rd t522 x51_6)) = true := bne_iff_ne.mpr c238
                              obtain rfl := Option.some.inj H
                              obtain ⟨Ao253, co253, eo253⟩ := Kd.R_slice HO_31.out
                              subst eo253
                              obtain ⟨Ao254, co254, eo254⟩ := Kd.S_slice HO_49.out
                              subst eo254
                              have p556 : 0 ≤ (t517 : Int) := zd
                              have q556 : t517 < (t551.length : Int) := zd
                              obtain ⟨ad556, A556_0, c556_0, e556, hx556_0, hl556_0, hi556_0⟩ := at_L1 (Kd.S_reads' HO_49.out).2.2 t517 p556 q556
                              cases e556
                              obtain ⟨ce556, hce556, hMe556, hcc556⟩ := Kd.S_get HO_49.out [] t517 p556 (by first | exact q556 | exact zd | (have e_ := (Kd.S_reads' HO_49.out).1; omega))
                              obtain ⟨ve556_0, rfl, ge556_0⟩ := hMe556
                              have hv556_0 := hcc556 0 _ rfl
                              rw [Nat.add_zero, show ((Kd.slice 3 (Kd.int .i64))).sz = 1 from rfl, Nat.mul_one] at hv556_0
                              replace hv556_0 := Option.some.inj (hv556_0.symm.trans hx556_0)
                              rw [hv556_0] at ge556_0
                              have HL556_0 := zA (show Kd.R (Kd.int .i64) 3 _ _ _ _ (rd_L1 t551 t517) from ge556_0)
                              clear hv556_0 ge556_0
                              clear hcc556 hce556
                              have HR556_0 := zA hi556_0
                              have HC556_0 := zA hl556_0
                              clear hi556_0 hl556_0
                              replace p556 := eq_true p556
                              replace q556 := eq_true q556
                              try go_wp2
                              replace HO_31 := zA (Kd.R_drew HO_31.out)
                              replace HO_49 := zA (Kd.S_drew HO_49.out)
                              replace HL556_0 := zA (Kd.R_drew HL556_0.out)
                              replace BK483 := zA (blk_drew BK483.out)
                              replace BK520 := zA (blk_drew BK520.out)
                              replace BK521 := zA (blk_drew BK521.out)
                              replace BK540 := zA (blk_drew BK540.out)
                              replace BK541 := zA (blk_drew BK541.out)
                              replace HR556_0 := zA (Kd.C_drew HR556_0.out)
                              replace HB := zA (below_drew1 HB.out)
                              have p569 : 0 ≤ ((ji230) : Int) := zd
                              have q569 : (ji230) < (t522.length : Int) := zd
                              obtain ⟨ad569, e569, hx569_0⟩ := Kd.at_int (Kd.R_reads' HO_31.out).2.2 (ji230) p569 q569
                              cases e569
                              replace p569 := eq_true p569
                              replace q569 := eq_true q569
                              have p570 : 0 ≤ (0 : Int) := (by omega)
                              have q570 : 0 < ((rd_L1 t551 t517).length : Int) := zd
                              obtain ⟨ad570, e570, hx570_0⟩ := Kd.at_int (zC HR556_0.out) 0 p570 q570
                              cases e570
                              have qi570 : (0 < (rd_L1 t551 t517).length) = True := eq_true (by omega)
                              (try rw [show ((0 : Int)).toNat = 0 from rfl] at hx570_0)
                              (try rw [Addr.add_zero'] at hx570_0)
                              replace p570 := eq_true p570
                              replace q570 := eq_true q570
                              have p571 : 0 ≤ (1 : Int) := (by omega)
                              have q571 : 1 < ((rd_L1 t551 t517).length : Int) := zd
                              obtain ⟨ad571, e571, hx571_0⟩ := Kd.at_int (zC HR556_0.out) 1 p571 q571
                              obtain rfl : ad570 = ad571 := (by injection e571)
                              (try simp only [show (1 : Int).toNat = 1 from rfl, Nat.reduceMul, Nat.reduceEqDiff, Go.Addr.add, ↓reduceIte] at hx571_0)
                              have qi571 : (1 < (rd_L1 t551 t517).length) = True := eq_true (by omega)
                              (try rw [show ((1 : Int)).toNat = 1 from rfl] at hx571_0)
                              replace p571 := eq_true p571
                              replace q571 := eq_true q571
                              refine start_ (n := 18) (S := fun w' => w'.cell? ⟨gb520, 0, none⟩ = some (.int .i64 t511) ∧ w'.cell? ⟨gb520, 1, none⟩ = some (.int .i64 t512) ∧ w'.cell? ⟨gb520, 2, none⟩ = some (.bool t513) ∧ w'.cell? ⟨gb520, 3, none⟩ = some (.bool t514) ∧ w'.cell? (ad569.add ((ji230)).toNat) = some (.int .i64 (rd t522 (ji230))) ∧ w'.cell? ad570 = some (.int .i64 (rd (rd_L1 t551 t517) 0)) ∧ w'.cell? ⟨ad570.block, ad570.off + 1, none⟩ = some (.int .i64 (rd (rd_L1 t551 t517) 1))) (ds := []) #[false, false, false, false, false, false, false, false, false, false, false, false, false, false, false, false, false, false] zn rfl rfl ⟨(blk_cell BK520.out 0).trans rfl, (blk_cell BK520.out 1).trans rfl, (blk_cell BK520.out 2).trans rfl, (blk_cell BK520.out 3).trans rfl, hx569_0, hx570_0, hx571_0⟩ (fun hHeld => ?_); refine with_tabW laws_FnOrbitsShare.tab50 laws_FnOrbitsShare.bits50 (fun HT_ HW_ => ?_)
                              generalize wr.drew = w255 at HO_31 HO_49 HL556_0 BK483 BK520 BK521 BK540 BK541 HR556_0 HB hx569_0 hx570_0 hx571_0 hHeld ⊢
                              refine zq HT_ (i := 1) (N := some 395) ?_
                              refine zq HT_ (i := 2) (N := some 396) ?_
                              refine zq HT_ (i := 3) (N := some 397) ?_
                              refine zq HT_ (i := 4) (N := some 398) ?_
                              refine zq HT_ (i := 6) (N := some 400) ?_
                              refine zq HT_ (i := 7) (N := some 401) ?_
                              refine zq HT_ (i := 9) (N := some 403) ?_
                              refine zq HT_ (i := 10) (N := some 404) ?_
                              refine zx7 HT_ HW_ hHeld (i := 0) (N := some 394) ?_
                              refine zx7 HT_ HW_ hHeld (i := 5) (N := some 399) ?_
                              refine zx7 HT_ HW_ hHeld (i := 8) (N := some 402) ?_
                              refine zx7 HT_ HW_ hHeld (i := 11) (N := some 405) ?_
                              refine one_ (i := 12) (N := some 406) #[true, true, true, true, true, true, true, true, true, true, true, true, true, false, false, false, false, false] rfl rfl (one_of HT_.out zn) (by decide) (fun K hK => ?_)
                              refine goes_ Try.func52 zn rfl #[.agg #[.int .i64 t511, .int .i64 t512, .bool t513, .bool t514], .int .i64 (rd t522 (ji230)), .int .i64 (rd (rd_L1 t551 t517) 0), .int .i64 (rd (rd_L1 t551 t517) 1)] (by rfl) rfl rfl (by (try simp only [List.map_toArray, List.map_cons, List.map_nil]); first | done | (simp only [hji230]; rfl) | rfl | (simp only [List.length_drop, List.length_take]; rfl)) ?_
                              with_reducible refine (impl_StepAround.calls t511 t512 t513 t514 (rd t522 (ji230)) (rd (rd_L1 t551 t517) 0) (rd (rd_L1 t551 t517) 1) t572 true _ A235.out).mono ?_
                              rintro e w256 ⟨rfl, hb⟩
                              have HS4_ := (hb.cell (World.block_lt_of_cell? _ _ (hHeld.2.2.2.2.1))).trans (hHeld.2.2.2.2.1)
                              have HS5_ := (hb.cell (World.block_lt_of_cell? _ _ (hHeld.2.2.2.2.2.1))).trans (hHeld.2.2.2.2.2.1)
                              have HS6_ := (hb.cell (World.block_lt_of_cell? _ _ (hHeld.2.2.2.2.2.2))).trans (hHeld.2.2.2.2.2.2)
                              refine ⟨_, rfl, ?_⟩
                              replace HO_31 := zRb HO_31 hb
                              replace HO_49 := zA (Kd.S_below (zL HO_49.out) hb)
                              replace HL556_0 := zRb HL556_0 hb
                              replace BK483 := zKb BK483 hb
                              replace BK520 := zKb BK520 hb
                              replace BK521 := zKb BK521 hb
                              replace BK540 := zKb BK540 hb
                              replace BK541 := zKb BK541 hb
                              replace HR556_0 := zA (Kd.C_below (zC HR556_0.out) hb)
                              replace HB := zA (below_step (zB5 HB GE483 GE520 GE521 GE540 GE541) hb)
                              (try clear hb); (try clear hb2); (try clear hk); (try clear hi)
                              refine hK.out _ _ ⟨(blk_cell BK520.out 0).trans rfl, (blk_cell BK520.out 1).trans rfl, (blk_cell BK520.out 2).trans rfl, (blk_cell BK520.out 3).trans rfl, HS4_, HS5_, HS6_⟩ (fun hHeld => ?_)
                              clear hK K
                              refine norm_ (a' := ?_) ?_ ?_
                              rotate_left
                              ·show Act.put _ (some 406) _ = _
                               simp only [Act.put, List.setIfInBounds_toArray, List.set_cons_zero, List.set_cons_succ, i64_w, i32_w]
                               rfl
                              refine zq HT_ (i := 13) (N := some 393) ?_
                              refine zq HT_ (i := 14) (N := some 407) ?_
                              refine zq HT_ (i := 15) (N := some 408) ?_
                              refine zq HT_ (i := 16) (N := some 53) ?_
                              refine zq HT_ (i := 17) (N := some 54) ?_
                              refine done_ (done_of HT_.out zn) ?_
                              have p574 : 0 ≤ (x51_6 : Int) := zd
                              have q574 : x51_6 < (t522.length : Int) := zd
                              obtain ⟨ad574, e574, hx574_0⟩ := Kd.at_int (Kd.R_reads' HO_31.out).2.2 x51_6 p574 q574
                              obtain rfl : ad569 = ad574 := (by injection e574)
                              replace p574 := eq_true p574
                              replace q574 := eq_true q574
                              try go_wp2
                              go_ret
                              exact ⟨by first | rfl | (simp [errW_none, errW_some] <;> rfl) | (simp only [← hji230]; first | rfl | (simp [errW_none, errW_some] <;> rfl)) | (simp [*, errW_none, errW_some] <;> rfl), zB5 HB GE483 GE520 GE521 GE540 GE541⟩
                            ·rw [if_neg c237] at H
                             exact absurd H (by simp)
                           ·replace c236 := Bool.eq_false_iff.mpr c236
                            subst c236
                            have H1 : (some false) = some r := by rw [if_neg (show ¬ (false = true) by decide)] at H; exact H
                            clear H
                            have H := H1
                            clear H1
                            obtain rfl := Option.some.inj H
                            obtain ⟨Ao257, co257, eo257⟩ := Kd.R_slice HO_31.out
                            subst eo257
                            obtain ⟨Ao258, co258, eo258⟩ := Kd.S_slice HO_49.out
                            subst eo258
                            have p556 : 0 ≤ (t517 : Int) := zd
                            have q556 : t517 < (t551.length : Int) := zd
                            obtain ⟨ad556, A556_0, c556_0, e556, hx556_0, hl556_0, hi556_0⟩ := at_L1 (Kd.S_reads' HO_49.out).2.2 t517 p556 q556
                            cases e556
                            obtain ⟨ce556, hce556, hMe556, hcc556⟩ := Kd.S_get HO_49.out [] t517 p556 (by first | exact q556 | exact zd | (have e_ := (Kd.S_reads' HO_49.out).1; omega))
                            obtain ⟨ve556_0, rfl, ge556_0⟩ := hMe556
                            have hv556_0 := hcc556 0 _ rfl
                            rw [Nat.add_zero, show ((Kd.slice 3 (Kd.int .i64))).sz = 1 from rfl, Nat.mul_one] at hv556_0
                            replace hv556_0 := Option.some.inj (hv556_0.symm.trans hx556_0)
                            rw [hv556_0] at ge556_0
                            have HL556_0 := zA (show Kd.R (Kd.int .i64) 3 _ _ _ _ (rd_L1 t551 t517) from ge556_0)
                            clear hv556_0 ge556_0
                            clear hcc556 hce556
                            have HR556_0 := zA hi556_0
                            have HC556_0 := zA hl556_0
                            clear hi556_0 hl556_0
                            replace p556 := eq_true p556
                            replace q556 := eq_true q556
                            try go_wp2
                            replace HO_31 := zA (Kd.R_drew HO_31.out)
                            replace HO_49 := zA (Kd.S_drew HO_49.out)
                            replace HL556_0 := zA (Kd.R_drew HL556_0.out)
                            replace BK483 := zA (blk_drew BK483.out)
                            replace BK520 := zA (blk_drew BK520.out)
                            replace BK521 := zA (blk_drew BK521.out)
                            replace BK540 := zA (blk_drew BK540.out)
                            replace BK541 := zA (blk_drew BK541.out)
                            replace HR556_0 := zA (Kd.C_drew HR556_0.out)
                            replace HB := zA (below_drew1 HB.out)
                            have p569 : 0 ≤ ((ji230) : Int) := zd
                            have q569 : (ji230) < (t522.length : Int) := zd
                            obtain ⟨ad569, e569, hx569_0⟩ := Kd.at_int (Kd.R_reads' HO_31.out).2.2 (ji230) p569 q569
                            cases e569
                            replace p569 := eq_true p569
                            replace q569 := eq_true q569
                            have p570 : 0 ≤ (0 : Int) := (by omega)
                            have q570 : 0 < ((rd_L1 t551 t517).length : Int) := zd
                            obtain ⟨ad570, e570, hx570_0⟩ := Kd.at_int (zC HR556_0.out) 0 p570 q570
                            cases e570
                            have qi570 : (0 < (rd_L1 t551 t517).length) = True := eq_true (by omega)
                            (try rw [show ((0 : Int)).toNat = 0 from rfl] at hx570_0)
                            (try rw [Addr.add_zero'] at hx570_0)
                            replace p570 := eq_true p570
                            replace q570 := eq_true q570
                            have p571 : 0 ≤ (1 : Int) := (by omega)
                            have q571 : 1 < ((rd_L1 t551 t517).length : Int) := zd
                            obtain ⟨ad571, e571, hx571_0⟩ := Kd.at_int (zC HR556_0.out) 1 p571 q571
                            obtain rfl : ad570 = ad571 := (by injection e571)
                            (try simp only [show (1 : Int).toNat = 1 from rfl, Nat.reduceMul, Nat.reduceEqDiff, Go.Addr.add, ↓reduceIte] at hx571_0)
                            have qi571 : (1 < (rd_L1 t551 t517).length) = True := eq_true (by omega)
                            (try rw [show ((1 : Int)).toNat = 1 from rfl] at hx571_0)
                            replace p571 := eq_true p571
                            replace q571 := eq_true q571
                            refine start_ (n := 18) (S := fun w' => w'.cell? ⟨gb520, 0, none⟩ = some (.int .i64 t511) ∧ w'.cell? ⟨gb520, 1, none⟩ = some (.int .i64 t512) ∧ w'.cell? ⟨gb520, 2, none⟩ = some (.bool t513) ∧ w'.cell? ⟨gb520, 3, none⟩ = some (.bool t514) ∧ w'.cell? (ad569.add ((ji230)).toNat) = some (.int .i64 (rd t522 (ji230))) ∧ w'.cell? ad570 = some (.int .i64 (rd (rd_L1 t551 t517) 0)) ∧ w'.cell? ⟨ad570.block, ad570.off + 1, none⟩ = some (.int .i64 (rd (rd_L1 t551 t517) 1))) (ds := []) #[false, false, false, false, false, false, false, false, false, false, false, false, false, false, false, false, false, false] zn rfl rfl ⟨(blk_cell BK520.out 0).trans rfl, (blk_cell BK520.out 1).trans rfl, (blk_cell BK520.out 2).trans rfl, (blk_cell BK520.out 3).trans rfl, hx569_0, hx570_0, hx571_0⟩ (fun hHeld => ?_); refine with_tabW laws_FnOrbitsShare.tab50 laws_FnOrbitsShare.bits50 (fun HT_ HW_ => ?_)
                            generalize wr.drew = w259 at HO_31 HO_49 HL556_0 BK483 BK520 BK521 BK540 BK541 HR556_0 HB hx569_0 hx570_0 hx571_0 hHeld ⊢
                            refine zq HT_ (i := 1) (N := some 395) ?_
                            refine zq HT_ (i := 2) (N := some 396) ?_
                            refine zq HT_ (i := 3) (N := some 397) ?_
                            refine zq HT_ (i := 4) (N := some 398) ?_
                            refine zq HT_ (i := 6) (N := some 400) ?_
                            refine zq HT_ (i := 7) (N := some 401) ?_
                            refine zq HT_ (i := 9) (N := some 403) ?_
                            refine zq HT_ (i := 10) (N := some 404) ?_
                            refine zx7 HT_ HW_ hHeld (i := 0) (N := some 394) ?_
                            refine zx7 HT_ HW_ hHeld (i := 5) (N := some 399) ?_
                            refine zx7 HT_ HW_ hHeld (i := 8) (N := some 402) ?_
                            refine zx7 HT_ HW_ hHeld (i := 11) (N := some 405) ?_
                            refine one_ (i := 12) (N := some 406) #[true, true, true, true, true, true, true, true, true, true, true, true, true, false, false, false, false, false] rfl rfl (one_of HT_.out zn) (by decide) (fun K hK => ?_)
                            refine goes_ Try.func52 zn rfl #[.agg #[.int .i64 t511, .int .i64 t512, .bool t513, .bool t514], .int .i64 (rd t522 (ji230)), .int .i64 (rd (rd_L1 t551 t517) 0), .int .i64 (rd (rd_L1 t551 t517) 1)] (by rfl) rfl rfl (by (try simp only [List.map_toArray, List.map_cons, List.map_nil]); first | done | (simp only [hji230]; rfl) | rfl | (simp only [List.length_drop, List.length_take]; rfl)) ?_
                            with_reducible refine (impl_StepAround.calls t511 t512 t513 t514 (rd t522 (ji230)) (rd (rd_L1 t551 t517) 0) (rd (rd_L1 t551 t517) 1) t572 false _ A235.out).mono ?_
                            rintro e w260 ⟨rfl, hb⟩
                            have HS4_ := (hb.cell (World.block_lt_of_cell? _ _ (hHeld.2.2.2.2.1))).trans (hHeld.2.2.2.2.1)
                            have HS5_ := (hb.cell (World.block_lt_of_cell? _ _ (hHeld.2.2.2.2.2.1))).trans (hHeld.2.2.2.2.2.1)
                            have HS6_ := (hb.cell (World.block_lt_of_cell? _ _ (hHeld.2.2.2.2.2.2))).trans (hHeld.2.2.2.2.2.2)
                            refine ⟨_, rfl, ?_⟩
                            replace HO_31 := zRb HO_31 hb
                            replace HO_49 := zA (Kd.S_below (zL HO_49.out) hb)
                            replace HL556_0 := zRb HL556_0 hb
                            replace BK483 := zKb BK483 hb
                            replace BK520 := zKb BK520 hb
                            replace BK521 := zKb BK521 hb
                            replace BK540 := zKb BK540 hb
                            replace BK541 := zKb BK541 hb
                            replace HR556_0 := zA (Kd.C_below (zC HR556_0.out) hb)
                            replace HB := zA (below_step (zB5 HB GE483 GE520 GE521 GE540 GE541) hb)
                            (try clear hb); (try clear hb2); (try clear hk); (try clear hi)
                            refine hK.out _ _ ⟨(blk_cell BK520.out 0).trans rfl, (blk_cell BK520.out 1).trans rfl, (blk_cell BK520.out 2).trans rfl, (blk_cell BK520.out 3).trans rfl, HS4_, HS5_, HS6_⟩ (fun hHeld => ?_)
                            clear hK K
                            refine norm_ (a' := ?_) ?_ ?_
                            rotate_left
                            ·show Act.put _ (some 406) _ = _
                             simp only [Act.put, List.setIfInBounds_toArray, List.set_cons_zero, List.set_cons_succ, i64_w, i32_w]
                             rfl
                            refine zq HT_ (i := 13) (N := some 393) ?_
                            refine zq HT_ (i := 14) (N := some 407) ?_
                            refine zq HT_ (i := 15) (N := some 408) ?_
                            refine zq HT_ (i := 16) (N := some 53) ?_
                            refine zq HT_ (i := 17) (N := some 54) ?_
                            refine done_ (done_of HT_.out zn) ?_
                            try go_wp2
                            go_ret
                            exact ⟨by first | rfl | (simp [errW_none, errW_some] <;> rfl) | (simp only [← hji230]; first | rfl | (simp [errW_none, errW_some] <;> rfl)) | (simp [*, errW_none, errW_some] <;> rfl), zB5 HB GE483 GE520 GE521 GE540 GE541⟩
                          ·rw [if_neg c234] at H
                           exact absurd H (by simp)
                         ·rw [if_neg c233] at H
                          exact absurd H (by simp)
                        ·rw [if_neg c232] at H
                         exact absurd H (by simp)
                       ·rw [if_neg c231] at H
                        exact absurd H (by simp)
                    ·rw [if_neg c194] at H
                     exact absurd H (by simp)
                   ·rw [if_neg c193] at H
                    exact absurd H (by simp)
                  ·as_aux_lemma =>
                   rw [if_neg c192] at H
                   have c192b0 : decide (x51_6 < (t522.length : Int)) = false := decide_eq_false c192
                   clear c192
                   by_cases c261 : t545 = true
                   ·subst c261
                    have H1 : ((impl_VisitsAll.f k6 t534 t535 t536 t537 t538 t539 t542 t543 t544).bind fun bt580 => (if bt580.2 = true then (some bt580.1) else (some false))) = some r := by rw [if_pos rfl] at H; exact H
                    clear H
                    have H := H1
                    clear H1
                    obtain ⟨⟨t580, t581⟩, A262, H⟩ := zM H
                    try dsimp only at H
                    by_cases c263 : t581 = true
                    ·subst c263
                     have H1 : (some t580) = some r := by rw [if_pos rfl] at H; exact H
                     clear H
                     have H := H1
                     clear H1
                     obtain rfl := Option.some.inj H
                     obtain ⟨Ao264, co264, eo264⟩ := Kd.R_slice HO_31.out
                     subst eo264
                     have hnb265 := NB540_483.out
                     have hnc265 := NB483_540.out
                     have hnb266 := NB540_520.out
                     have hnc266 := NB520_540.out
                     have hnb267 := NB540_521.out
                     have hnc267 := NB521_540.out
                     have hnb268 := NB540_541.out
                     have hnc268 := NB541_540.out
                     obtain ⟨z269_0, z269_1, z269_2, z269_3, y269_0, y269_1, y269_2, y269_3⟩ := zc4 BK540
                     have hnb270 := NB541_483.out
                     have hnc270 := NB483_541.out
                     have hnb271 := NB541_520.out
                     have hnc271 := NB520_541.out
                     have hnb272 := NB541_521.out
                     have hnc272 := NB521_541.out
                     obtain ⟨z273_0, z273_1, y273_0, y273_1⟩ := zc2 BK541
                     go_wp2_with (first | ((with_reducible refine gate_callee (f := 54) rfl ?_); refine goesL_ (some 433) rfl rfl Try.func54 zn rfl #[.agg #[.int .i64 t534, .int .i64 t535, .bool t536, .bool t537], .agg #[.int .i64 t538, .int .i64 t539], .int .i64 t542, .int .i64 t543, .int .i64 t544] rfl zm ?_; (with_reducible refine (impl_VisitsAll.calls k6 t534 t535 t536 t537 t538 t539 t542 t543 t544 t580 true _ A262.out).mono ?_); rintro e w274 ⟨rfl, hb⟩; refine ⟨_, rfl, ?_⟩; replace HO_31 := zRb HO_31 hb; replace HO_49 := zA (Kd.S_below (zL HO_49.out) hb); replace BK483 := zKb BK483 hb; replace BK520 := zKb BK520 hb; replace BK521 := zKb BK521 hb; replace BK540 := zKb BK540 hb; replace BK541 := zKb BK541 hb; replace HB := zA (below_step (zB5 HB GE483 GE520 GE521 GE540 GE541) hb); (try clear hb); (try clear hb2); (try clear hk); (try clear hi)))
                     go_ret
                     exact ⟨zt, zB5 HB GE483 GE520 GE521 GE540 GE541⟩
                    ·replace c263 := Bool.eq_false_iff.mpr c263
                     subst c263
                     have H1 : (some false) = some r := by rw [if_neg (show ¬ (false = true) by decide)] at H; exact H
                     clear H
                     have H := H1
                     clear H1
                     obtain rfl := Option.some.inj H
                     obtain ⟨Ao275, co275, eo275⟩ := Kd.R_slice HO_31.out
                     subst eo275
                     have hnb276 := NB540_483.out
                     have hnc276 := NB483_540.out
                     have hnb277 := NB540_520.out
                     have hnc277 := NB520_540.out
                     have hnb278 := NB540_521.out
                     have hnc278 := NB521_540.out
                     have hnb279 := NB540_541.out
                     have hnc279 := NB541_540.out
                     obtain ⟨z280_0, z280_1, z280_2, z280_3, y280_0, y280_1, y280_2, y280_3⟩ := zc4 BK540
                     have hnb281 := NB541_483.out
                     have hnc281 := NB483_541.out
                     have hnb282 := NB541_520.out
                     have hnc282 := NB520_541.out
                     have hnb283 := NB541_521.out
                     have hnc283 := NB521_541.out
                     obtain ⟨z284_0, z284_1, y284_0, y284_1⟩ := zc2 BK541
                     go_wp2_with (first | ((with_reducible refine gate_callee (f := 54) rfl ?_); refine goesL_ (some 433) rfl rfl Try.func54 zn rfl #[.agg #[.int .i64 t534, .int .i64 t535, .bool t536, .bool t537], .agg #[.int .i64 t538, .int .i64 t539], .int .i64 t542, .int .i64 t543, .int .i64 t544] rfl zm ?_; (with_reducible refine (impl_VisitsAll.calls k6 t534 t535 t536 t537 t538 t539 t542 t543 t544 t580 false _ A262.out).mono ?_); rintro e w285 ⟨rfl, hb⟩; refine ⟨_, rfl, ?_⟩; replace HO_31 := zRb HO_31 hb; replace HO_49 := zA (Kd.S_below (zL HO_49.out) hb); replace BK483 := zKb BK483 hb; replace BK520 := zKb BK520 hb; replace BK521 := zKb BK521 hb; replace BK540 := zKb BK540 hb; replace BK541 := zKb BK541 hb; replace HB := zA (below_step (zB5 HB GE483 GE520 GE521 GE540 GE541) hb); (try clear hb); (try clear hb2); (try clear hk); (try clear hi)))
                     go_ret
                     exact ⟨zt, zB5 HB GE483 GE520 GE521 GE540 GE541⟩
                   ·replace c261 := Bool.eq_false_iff.mpr c261
                    subst c261
                    have H1 : (some true) = some r := by rw [if_neg (show ¬ (false = true) by decide)] at H; exact H
                    clear H
                    have H := H1
                    clear H1
                    obtain rfl := Option.some.inj H
                    obtain ⟨Ao286, co286, eo286⟩ := Kd.R_slice HO_31.out
                    subst eo286
                    go_wp2
                    go_ret
                    exact ⟨zt, zB5 HB GE483 GE520 GE521 GE540 GE541⟩
            ·replace c172 := Bool.eq_false_iff.mpr c172
             subst c172
             have H1 : (if t545 = true then ((impl_VisitsAll.f kj110 t534 t535 t536 t537 t538 t539 t542 t543 t544).bind fun bt582 => (if bt582.2 = true then (some bt582.1) else (some false))) else (some true)) = some r := by rw [if_neg (show ¬ (false = true) by decide)] at H; exact H
             clear H
             have H := H1
             clear H1
             by_cases c287 : t545 = true
             ·subst c287
              have H1 : ((impl_VisitsAll.f kj110 t534 t535 t536 t537 t538 t539 t542 t543 t544).bind fun bt582 => (if bt582.2 = true then (some bt582.1) else (some false))) = some r := by rw [if_pos rfl] at H; exact H
              clear H
              have H := H1
              clear H1
              obtain ⟨⟨t582, t583⟩, A288, H⟩ := zM H
              try dsimp only at H
              by_cases c289 : t583 = true
              ·subst c289
               have H1 : (some t582) = some r := by rw [if_pos rfl] at H; exact H
               clear H
               have H := H1
               clear H1
               obtain rfl := Option.some.inj H
               have hnb290 := NB540_483.out
               have hnc290 := NB483_540.out
               have hnb291 := NB540_520.out
               have hnc291 := NB520_540.out
               have hnb292 := NB540_521.out
               have hnc292 := NB521_540.out
               have hnb293 := NB540_541.out
               have hnc293 := NB541_540.out
               obtain ⟨z294_0, z294_1, z294_2, z294_3, y294_0, y294_1, y294_2, y294_3⟩ := zc4 BK540
               have hnb295 := NB541_483.out
               have hnc295 := NB483_541.out
               have hnb296 := NB541_520.out
               have hnc296 := NB520_541.out
               have hnb297 := NB541_521.out
               have hnc297 := NB521_541.out
               obtain ⟨z298_0, z298_1, y298_0, y298_1⟩ := zc2 BK541
               go_wp2_with (first | ((with_reducible refine gate_callee (f := 54) rfl ?_); refine goesL_ (some 433) rfl rfl Try.func54 zn rfl #[.agg #[.int .i64 t534, .int .i64 t535, .bool t536, .bool t537], .agg #[.int .i64 t538, .int .i64 t539], .int .i64 t542, .int .i64 t543, .int .i64 t544] rfl zm ?_; (with_reducible refine (impl_VisitsAll.calls kj110 t534 t535 t536 t537 t538 t539 t542 t543 t544 t582 true _ A288.out).mono ?_); rintro e w299 ⟨rfl, hb⟩; refine ⟨_, rfl, ?_⟩; replace HO_31 := zRb HO_31 hb; replace BK483 := zKb BK483 hb; replace BK520 := zKb BK520 hb; replace BK521 := zKb BK521 hb; replace BK540 := zKb BK540 hb; replace BK541 := zKb BK541 hb; replace HB := zA (below_step (zB5 HB GE483 GE520 GE521 GE540 GE541) hb); (try clear hb); (try clear hb2); (try clear hk); (try clear hi)))
               go_ret
               exact ⟨zt, zB5 HB GE483 GE520 GE521 GE540 GE541⟩
              ·replace c289 := Bool.eq_false_iff.mpr c289
               subst c289
               have H1 : (some false) = some r := by rw [if_neg (show ¬ (false = true) by decide)] at H; exact H
               clear H
               have H := H1
               clear H1
               obtain rfl := Option.some.inj H
               have hnb300 := NB540_483.out
               have hnc300 := NB483_540.out
               have hnb301 := NB540_520.out
               have hnc301 := NB520_540.out
               have hnb302 := NB540_521.out
               have hnc302 := NB521_540.out
               have hnb303 := NB540_541.out
               have hnc303 := NB541_540.out
               obtain ⟨z304_0, z304_1, z304_2, z304_3, y304_0, y304_1, y304_2, y304_3⟩ := zc4 BK540
               have hnb305 := NB541_483.out
               have hnc305 := NB483_541.out
               have hnb306 := NB541_520.out
               have hnc306 := NB520_541.out
               have hnb307 := NB541_521.out
               have hnc307 := NB521_541.out
               obtain ⟨z308_0, z308_1, y308_0, y308_1⟩ := zc2 BK541
               go_wp2_with (first | ((with_reducible refine gate_callee (f := 54) rfl ?_); refine goesL_ (some 433) rfl rfl Try.func54 zn rfl #[.agg #[.int .i64 t534, .int .i64 t535, .bool t536, .bool t537], .agg #[.int .i64 t538, .int .i64 t539], .int .i64 t542, .int .i64 t543, .int .i64 t544] rfl zm ?_; (with_reducible refine (impl_VisitsAll.calls kj110 t534 t535 t536 t537 t538 t539 t542 t543 t544 t582 false _ A288.out).mono ?_); rintro e w309 ⟨rfl, hb⟩; refine ⟨_, rfl, ?_⟩; replace HO_31 := zRb HO_31 hb; replace BK483 := zKb BK483 hb; replace BK520 := zKb BK520 hb; replace BK521 := zKb BK521 hb; replace BK540 := zKb BK540 hb; replace BK541 := zKb BK541 hb; replace HB := zA (below_step (zB5 HB GE483 GE520 GE521 GE540 GE541) hb); (try clear hb); (try clear hb2); (try clear hk); (try clear hi)))
               go_ret
               exact ⟨zt, zB5 HB GE483 GE520 GE521 GE540 GE541⟩
             ·replace c287 := Bool.eq_false_iff.mpr c287
              subst c287
              have H1 : (some true) = some r := by rw [if_neg (show ¬ (false = true) by decide)] at H; exact H
              clear H
              have H := H1
              clear H1
              obtain rfl := Option.some.inj H
              go_wp2
              go_ret
              exact ⟨zt, zB5 HB GE483 GE520 GE521 GE540 GE541⟩
/-- THE ONE PURE STATEMENT of laws_FnOrbitsShare: yours. -/
def laws_FnOrbitsShare.Pure : Prop := ∀ (l0 : List Int) (l1 : List Int), l0.length ≤ maxLen → l0.length * 1 ≤ 140737488351232 → (∀ x ∈ l0, (Lit.int .u8 x).wf = true) → l1.length ≤ maxLen → l1.length * 1 ≤ 140737488351232 → (∀ x ∈ l1, (Lit.int .u8 x).wf = true) → ∃ k, laws_FnOrbitsShare.f k l0 l1 = some true
theorem laws_FnOrbitsShare.walk (P : laws_FnOrbitsShare.Pure) (a0 : Option Addr) (len0 cap0 : Nat) (z0 : List Int) (a1 : Option Addr) (len1 cap1 : Nat) (z1 : List Int) (w : World) (w0 : (a0 = none ∧ len0 = 0 ∧ cap0 = 0 ∧ z0 = []) ∨ ∃ x, a0 = some x ∧ len0 ≤ cap0 ∧ cap0 ≤ maxLen ∧ z0.length = cap0 ∧ (∀ i, i < z0.length → w.cell? (x.add i) = some (.int .u8 (z0.getD i 0))) ∧ ∀ n ∈ z0, (Lit.int .u8 n).wf = true) (y0 : len0 * 1 ≤ 140737488351232) (w1 : (a1 = none ∧ len1 = 0 ∧ cap1 = 0 ∧ z1 = []) ∨ ∃ x, a1 = some x ∧ len1 ≤ cap1 ∧ cap1 ≤ maxLen ∧ z1.length = cap1 ∧ (∀ i, i < z1.length → w.cell? (x.add i) = some (.int .u8 (z1.getD i 0))) ∧ ∀ n ∈ z1, (Lit.int .u8 n).wf = true) (y1 : len1 * 1 ≤ 140737488351232) :
  Calls Try.prog 14 #[.slice a0 len0 cap0, .slice a1 len1 cap1] w fun e w' => e = .returned (.bool true) ∧ Below w.heap.size w w' := by
 obtain ⟨l0, rfl, hr0, hm0, hw0, hc0⟩ := ReadsInt.ofRowC w0
 obtain ⟨l1, rfl, hr1, hm1, hw1, hc1⟩ := ReadsInt.ofRowC w1
 obtain ⟨k, h⟩ := P l0 l1 hm0 y0 hw0 hm1 y1 hw1
 refine (laws_FnOrbitsShare.calls k _ _ l0 _ _ l1 true w (Kd.C_of_reads (d := (0 : Int)) (h1 := fun _ => rfl) hr0) hc0 (Kd.C_of_reads (d := (0 : Int)) (h1 := fun _ => rfl) hr1) hc1 h).mono ?_
 rintro e w' ⟨rfl, hd⟩
 exact ⟨rfl, hd⟩
end Go.Proofs.Ytogkcfddoiloeaa.PFnOrbitsShare
