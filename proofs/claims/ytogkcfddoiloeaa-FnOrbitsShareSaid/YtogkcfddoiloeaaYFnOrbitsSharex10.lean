/- The walk. -/
import Derived.Test.YtogkcfddoiloeaaYFnOrbitsSharex9
namespace Go.Proofs.Ytogkcfddoiloeaa.PFnOrbitsShare
open Go.RowKit Go.Proofs.YtogkcfddoiloeaaW.PrintWords Go.Proofs.YtogkcfddoiloeaaW.PrintLast Go.Proofs.YtogkcfddoiloeaaW.PrintMore
attribute [local go_sem] max2_int min2_int max_two min_two max_three min_three max_four min_four
set_option linter.unusedVariables false
set_option linter.unusedSimpArgs false
def spec_DrawTwoSteps.g (s0_0 : List Int) (s0_1 : Int) (s0_2 : Int) : Option (Int × Int × Bool × Bool × Int × Int × Int × Int × Int × Int × Int) := (spec_l1Cur_around.f s0_0 s0_1 s0_2 6).bind fun bt501 => ((spec_l1Cur_leaper.f s0_0 bt501.2.2.2.2.1 bt501.2.2.2.2.2).bind fun bt507 => ((spec_l1Cur_one.f s0_0 bt507.2.2.1 bt507.2.2.2 12).bind fun bt513 => (if bt513.1 = true then ((spec_l1Cur_among.f s0_0 bt513.2.1 bt513.2.2 (([(-1), 7, 8] : List Int))).bind fun bt519 => ((spec_l1Cur_pick.f s0_0 bt519.2.1 bt519.2.2 8).bind fun bt522 => ((spec_l1Cur_among.f s0_0 bt522.2.1 bt522.2.2 (([1, 150, 151] : List Int))).bind fun bt528 => (some (bt501.1, bt501.2.1, bt501.2.2.1, bt501.2.2.2.1, bt507.1, bt507.2.1, bt519.1, bt522.1, bt528.1, bt528.2.1, bt528.2.2))))) else ((spec_l1Cur_pick.f s0_0 bt513.2.1 bt513.2.2 6).bind fun bt531 => ((spec_arGood.f bt501.1 bt501.2.1 bt501.2.2.1 bt501.2.2.2.1).bind fun t534 => (if t534 = true then ((spec_l1Cur_one.f s0_0 bt531.2.1 bt531.2.2 2).bind fun bt535 => (if bt535.1 = true then ((spec_l1Most.f 2 bt501.1).bind fun t538 => ((spec_l1Cur_pick.f s0_0 bt535.2.1 bt535.2.2 8).bind fun bt539 => ((spec_l1Cur_pick.f s0_0 bt539.2.1 bt539.2.2 8).bind fun bt542 => (some (bt501.1, bt501.2.1, bt501.2.2.1, bt501.2.2.2.1, bt507.1, bt507.2.1, bt539.1, bt542.1, t538, bt542.2.1, bt542.2.2))))) else ((spec_l1Cur_pick.f s0_0 bt535.2.1 bt535.2.2 8).bind fun bt545 => ((spec_l1Cur_pick.f s0_0 bt545.2.1 bt545.2.2 8).bind fun bt548 => (some (bt501.1, bt501.2.1, bt501.2.2.1, bt501.2.2.2.1, bt507.1, bt507.2.1, bt545.1, bt548.1, wrap64 (2 + bt531.1), bt548.2.1, bt548.2.2)))))) else ((spec_l1Cur_pick.f s0_0 bt531.2.1 bt531.2.2 8).bind fun bt551 => ((spec_l1Cur_pick.f s0_0 bt551.2.1 bt551.2.2 8).bind fun bt554 => (some (bt501.1, bt501.2.1, bt501.2.2.1, bt501.2.2.2.1, bt507.1, bt507.2.1, bt551.1, bt554.1, wrap64 (2 + bt531.1), bt554.2.1, bt554.2.2))))))))))
def spec_DrawTwoSteps.T4 : Bool × List (List Nat × List Nat) := (true, [([], []), ([], []), ([], []), ([], []), ([2, 3], [2, 3]), ([], []), ([5, 4], [5]), ([], []), ([], []), ([7, 8, 6], [7, 8]), ([0, 9, 0], [0]), ([1, 10, 0, 1, 10], [1]), ([4, 11, 0, 1, 2, 3, 4, 10, 11], [4]), ([6, 12, 0, 1, 2, 3, 4, 5, 6, 10, 11, 12], [6]), ([9, 13, 0, 1, 2, 3, 4, 5, 6, 7, 8, 9, 10, 11, 12, 13], [9])])
def spec_DrawTwoSteps.B4 : List Nat := [0, 0, 0, 0, 12, 0, 60, 0, 0, 508, 1021, 2047, 4095, 8191, 16383]
theorem spec_DrawTwoSteps.tab4 : rtab .any (opsOf Try.f59 4) = spec_DrawTwoSteps.T4 := by kernel_rfl
theorem spec_DrawTwoSteps.bits4 : waitsOk spec_DrawTwoSteps.T4.2 spec_DrawTwoSteps.B4 = true := by kernel_rfl
def spec_DrawTwoSteps.T8 : Bool × List (List Nat × List Nat) := (true, [([], []), ([], []), ([], []), ([2], [2]), ([], []), ([4, 3], [4]), ([], []), ([0, 5, 0], [0]), ([1, 7, 0, 1, 7], [1]), ([3, 8, 0, 1, 2, 3, 7, 8], [3]), ([5, 9, 0, 1, 2, 3, 4, 5, 7, 8, 9], [5]), ([6, 10, 0, 1, 2, 3, 4, 5, 6, 7, 8, 9, 10], [6])])
def spec_DrawTwoSteps.B8 : List Nat := [0, 0, 0, 4, 0, 28, 0, 61, 191, 447, 959, 2047]
theorem spec_DrawTwoSteps.tab8 : rtab .any (opsOf Try.f59 8) = spec_DrawTwoSteps.T8 := by kernel_rfl
theorem spec_DrawTwoSteps.bits8 : waitsOk spec_DrawTwoSteps.T8.2 spec_DrawTwoSteps.B8 = true := by kernel_rfl
def spec_DrawTwoSteps.f (l0 : List Int) : Option (Int × Int × Bool × Bool × Int × Int × Int × Int × Int) := (spec_DrawTwoSteps.g l0 0 0).bind fun t => some (t.1, t.2.1, t.2.2.1, t.2.2.2.1, t.2.2.2.2.1, t.2.2.2.2.2.1, t.2.2.2.2.2.2.1, t.2.2.2.2.2.2.2.1, t.2.2.2.2.2.2.2.2.1)
set_option maxHeartbeats 8000000 in
set_option maxRecDepth 100000 in
theorem spec_DrawTwoSteps.calls (A0 : Option Addr) (c0 : Nat) (l0 : List Int) (r1 : Int) (r2 : Int) (r3 : Bool) (r4 : Bool) (r5 : Int) (r6 : Int) (r7 : Int) (r8 : Int) (r9 : Int) (w : World) (hr0 : Kd.C (Kd.int .u8) w A0 l0.length l0) (hc0 : l0.length ≤ c0) (h : spec_DrawTwoSteps.f l0 = some (r1, r2, r3, r4, r5, r6, r7, r8, r9)) :
  Calls Try.prog 59 #[.slice A0 l0.length c0] w fun e w' => e = .returned (.tuple #[.agg #[.int .i64 r1, .int .i64 r2, .bool r3, .bool r4], .agg #[.int .i64 r5, .int .i64 r6], .int .i64 r7, .int .i64 r8, .int .i64 r9]) ∧ Below w.heap.size w w' := by
 obtain ⟨tt_, hg_, ht_⟩ := Option.bind_eq_some_iff.mp h
 clear h
 have HR0 := zA hr0 |>.out
 obtain ⟨q1, q2, q3, q4, q5, q6, q7, q8, q9, q10, q11⟩ := tt_
 simp only [Option.some.injEq, Prod.mk.injEq] at ht_
 obtain ⟨rfl, rfl, rfl, rfl, rfl, rfl, rfl, rfl, rfl⟩ := ht_
 have h := hg_
 clear hg_
 have hu28 := Try.underlying28
 have hu30 := Try.underlying30
 have HL := zA (Nat.le_refl w.heap.size)
 have HW0 := zA (Nat.le_refl w.heap.size)
 have HB := zA (Below.refl w.heap.size w)
 have H : ((spec_l1Cur_around.f l0 0 0 6).bind fun bt501 => ((spec_l1Cur_leaper.f l0 bt501.2.2.2.2.1 bt501.2.2.2.2.2).bind fun bt507 => ((spec_l1Cur_one.f l0 bt507.2.2.1 bt507.2.2.2 12).bind fun bt513 => (if bt513.1 = true then ((spec_l1Cur_among.f l0 bt513.2.1 bt513.2.2 (([(-1), 7, 8] : List Int))).bind fun bt519 => ((spec_l1Cur_pick.f l0 bt519.2.1 bt519.2.2 8).bind fun bt522 => ((spec_l1Cur_among.f l0 bt522.2.1 bt522.2.2 (([1, 150, 151] : List Int))).bind fun bt528 => (some (bt501.1, bt501.2.1, bt501.2.2.1, bt501.2.2.2.1, bt507.1, bt507.2.1, bt519.1, bt522.1, bt528.1, bt528.2.1, bt528.2.2))))) else ((spec_l1Cur_pick.f l0 bt513.2.1 bt513.2.2 6).bind fun bt531 => ((spec_arGood.f bt501.1 bt501.2.1 bt501.2.2.1 bt501.2.2.2.1).bind fun t534 => (if t534 = true then ((spec_l1Cur_one.f l0 bt531.2.1 bt531.2.2 2).bind fun bt535 => (if bt535.1 = true then ((spec_l1Most.f 2 bt501.1).bind fun t538 => ((spec_l1Cur_pick.f l0 bt535.2.1 bt535.2.2 8).bind fun bt539 => ((spec_l1Cur_pick.f l0 bt539.2.1 bt539.2.2 8).bind fun bt542 => (some (bt501.1, bt501.2.1, bt501.2.2.1, bt501.2.2.2.1, bt507.1, bt507.2.1, bt539.1, bt542.1, t538, bt542.2.1, bt542.2.2))))) else ((spec_l1Cur_pick.f l0 bt535.2.1 bt535.2.2 8).bind fun bt545 => ((spec_l1Cur_pick.f l0 bt545.2.1 bt545.2.2 8).bind fun bt548 => (some (bt501.1, bt501.2.1, bt501.2.2.1, bt501.2.2.2.1, bt507.1, bt507.2.1, bt545.1, bt548.1, wrap64 (2 + bt531.1), bt548.2.1, bt548.2.2)))))) else ((spec_l1Cur_pick.f l0 bt531.2.1 bt531.2.2 8).bind fun bt551 => ((spec_l1Cur_pick.f l0 bt551.2.1 bt551.2.2 8).bind fun bt554 => (some (bt501.1, bt501.2.1, bt501.2.2.1, bt501.2.2.2.1, bt507.1, bt507.2.1, bt551.1, bt554.1, wrap64 (2 + bt531.1), bt554.2.1, bt554.2.2))))))))))) = some (q1, q2, q3, q4, q5, q6, q7, q8, q9, q10, q11) := h
 clear h
 obtain ⟨⟨t501, t502, t503, t504, t505, t506⟩, A2, H⟩ := zM H
 try dsimp only at H
 obtain ⟨⟨t507, t508, t509, t510⟩, A3, H⟩ := zM H
 try dsimp only at H
 obtain ⟨⟨t513, t514, t515⟩, A4, H⟩ := zM H
 try dsimp only at H
 by_cases c5 : t513 = true
 ·subst c5
  have H1 : ((spec_l1Cur_among.f l0 t514 t515 (([(-1), 7, 8] : List Int))).bind fun bt519 => ((spec_l1Cur_pick.f l0 bt519.2.1 bt519.2.2 8).bind fun bt522 => ((spec_l1Cur_among.f l0 bt522.2.1 bt522.2.2 (([1, 150, 151] : List Int))).bind fun bt528 => (some (t501, t502, t503, t504, t507, t508, bt519.1, bt522.1, bt528.1, bt528.2.1, bt528.2.2))))) = some (q1, q2, q3, q4, q5, q6, q7, q8, q9, q10, q11) := by rw [if_pos rfl] at H; exact H
  clear H
  have H := H1
  clear H1
  obtain ⟨y516, hy516⟩ : ∃ y_ : List Int, y_ = (([(-1), 7, 8] : List Int)) := ⟨_, rfl⟩
  replace H : ((spec_l1Cur_among.f l0 t514 t515 y516).bind fun bt519 => ((spec_l1Cur_pick.f l0 bt519.2.1 bt519.2.2 8).bind fun bt522 => ((spec_l1Cur_among.f l0 bt522.2.1 bt522.2.2 (([1, 150, 151] : List Int))).bind fun bt528 => (some (t501, t502, t503, t504, t507, t508, bt519.1, bt522.1, bt528.1, bt528.2.1, bt528.2.2))))) = some (q1, q2, q3, q4, q5, q6, q7, q8, q9, q10, q11) := by first | (rw [hy516]; with_reducible exact H) | (have H2_ := (Option.bind_some _ _).symm.trans H; rw [hy516]; with_reducible exact H2_) | (have H2_ := (Option.bind_some _ _).symm.trans H; with_reducible exact H2_) | with_reducible exact H | (rw [hy516]; exact H) | exact H
  have Ny516 := zA hy516
  clear hy516
  obtain ⟨⟨t519, t520, t521⟩, A6, H⟩ := zM H
  try dsimp only at H
  obtain ⟨⟨t522, t523, t524⟩, A7, H⟩ := zM H
  try dsimp only at H
  obtain ⟨y525, hy525⟩ : ∃ y_ : List Int, y_ = (([1, 150, 151] : List Int)) := ⟨_, rfl⟩
  replace H : ((spec_l1Cur_among.f l0 t523 t524 y525).bind fun bt528 => (some (t501, t502, t503, t504, t507, t508, t519, t522, bt528.1, bt528.2.1, bt528.2.2))) = some (q1, q2, q3, q4, q5, q6, q7, q8, q9, q10, q11) := by first | (rw [hy525]; with_reducible exact H) | (have H2_ := (Option.bind_some _ _).symm.trans H; rw [hy525]; with_reducible exact H2_) | (have H2_ := (Option.bind_some _ _).symm.trans H; with_reducible exact H2_) | with_reducible exact H | (rw [hy525]; exact H) | exact H
  have Ny525 := zA hy525
  clear hy525
  obtain ⟨⟨t528, t529, t530⟩, A8, H⟩ := zM H
  try dsimp only at H
  simp only [Option.some.injEq, Prod.mk.injEq] at H
  obtain ⟨rfl, rfl, rfl, rfl, rfl, rfl, rfl, rfl, rfl, rfl, rfl⟩ := H
  go_enter Try.func59, Try.ntmps59
  try go_wp2_with (first | ((with_reducible refine gate_dst (N := 2) rfl ?_); refine box_event zr (N := 2) zr (cs := #[.int .i64 0, .int .i64 0, .bool false, .bool false]) (t := 28) zh ?_; intro gb499 hg w9 hbox hb; have GE499 := zA (zG hg (below_size (zB0 HB)) : w.heap.size ≤ gb499); replace HB := zA (below_step (zB0 HB) hb); have BK499 := zA (hbox); have GW499 := GE499; clear hb hbox hg) | ((with_reducible refine gate_dst (N := 3) rfl ?_); refine box_event zr (N := 3) zr (cs := #[.int .i64 0, .int .i64 0]) (t := 30) zh ?_; intro gb500 hg w10 hbox hb; have GE500 := zA (zG hg (below_size (zB1 HB GE499)) : w.heap.size ≤ gb500); have NB499_500 := zA ((by rw [hg]; exact Nat.ne_of_lt (blk_lt (zK BK499)) : gb499 ≠ gb500)); have NB500_499 := zA ((by rw [hg]; exact Nat.ne_of_gt (blk_lt (zK BK499)) : gb500 ≠ gb499)); have n0_ := zA (below_step (zB1 HB GE499) hb); have n1_ := zKb BK499 hb; clear HB; have HB := n0_; clear BK499; have BK499 := n1_; clear n0_ n1_; have BK500 := zA (hbox); have GW500 := GE500; clear hb hbox hg) | ((with_reducible refine gate_dst (N := 13) rfl ?_); refine box_event zr (N := 13) zr (cs := #[.slice A0 l0.length c0, .int .i64 0, .int .u64 0]) (t := 115) zh ?_; intro g hg wbx hbox hb; have n0_ := zA (below_step (zB2 HB GE499 GE500) hb); have HI0 := zA (show IsS115 w wbx g l0 0 0 from ⟨A0, c0, hbox, (by rw [hg]; exact (below_size (zB2 HB GE499 GE500))), HR0⟩); have NB0_499 := zA ((by rw [hg]; exact Nat.ne_of_gt (blk_lt (zK BK499)) : g ≠ gb499)); have NB499_0 := zA ((by rw [hg]; exact Nat.ne_of_lt (blk_lt (zK BK499)) : gb499 ≠ g)); have NB0_500 := zA ((by rw [hg]; exact Nat.ne_of_gt (blk_lt (zK BK500)) : g ≠ gb500)); have NB500_0 := zA ((by rw [hg]; exact Nat.ne_of_lt (blk_lt (zK BK500)) : gb500 ≠ g)); have n1_ := zKb BK499 hb; have n2_ := zKb BK500 hb; clear HB; have HB := n0_; clear BK499; have BK499 := n1_; clear BK500; have BK500 := n2_; clear n0_ n1_ n2_; have HK := zA (KeepBut.of_below HB.out g none); clear hb hbox hg) | ((with_reducible refine gate_callee (f := 98) rfl ?_); refine goesL_ (some 15) rfl rfl Try.func98 zn rfl #[.pointer (some ⟨g, 0, none⟩), .int .i64 6] rfl zm ?_; (with_reducible refine (spec_l1Cur_around.calls g l0 0 0 6 t501 t502 t503 t504 t505 t506 w _ ?side1 ?side2 A2.out).mono ?_); (case side1 => exact zI2 HI0 NB0_499 NB0_500); (case side2 => exact zJ2 HB HI0 GE499 GE500); rintro e w11 ⟨rfl, hi, hb, hk⟩; refine ⟨_, rfl, ?_⟩; replace BK499 := zX BK499 hk NB499_0; replace BK500 := zX BK500 hk NB500_0; replace HK := zA (KeepBut.trans (zk2 HK GW499 GW500) hk (.inl rfl)); replace HB := zA (hb); replace HI0 := zA (hi); (try clear hb); (try clear hb2); (try clear hk); (try clear hi)) | ((with_reducible refine gate_callee (f := 102) rfl ?_); refine goesL_ (some 17) rfl rfl Try.func102 zn rfl #[.pointer (some ⟨g, 0, none⟩)] rfl zm ?_; (with_reducible refine (spec_l1Cur_leaper.calls g l0 t505 t506 t507 t508 t509 t510 w _ ?side1 ?side2 A3.out).mono ?_); (case side1 => exact zI2 HI0 NB0_499 NB0_500); (case side2 => exact zJ2 HB HI0 GE499 GE500); rintro e w12 ⟨rfl, hi, hb, hk⟩; refine ⟨_, rfl, ?_⟩; replace BK499 := zX BK499 hk NB499_0; replace BK500 := zX BK500 hk NB500_0; replace HK := zA (KeepBut.trans (zk2 HK GW499 GW500) hk (.inl rfl)); replace HB := zA (hb); replace HI0 := zA (hi); (try clear hb); (try clear hb2); (try clear hk); (try clear hi)) | ((with_reducible refine gate_dst (N := 8) rfl ?_); refine box_event zr (N := 8) zr (cs := #[.int .i64 0, .int .i64 0, .bool false, .bool false]) (t := 28) zh ?_; intro gb511 hg w13 hbox hb; replace HB := zA (below_step (zJ2 HB HI0 GE499 GE500) hb); have BK511 := zA (hbox); have GW511 := zA ((zG hg (keep_size (w := w) (g := g) (row := none) (zk2 HK GW499 GW500)) : w.heap.size ≤ gb511)); have GE511 := zA ((Nat.le_trans HW0.out (zG hg (keep_size (w := w) (g := g) (row := none) (zk2 HK GW499 GW500)) : w.heap.size ≤ gb511) : w.heap.size ≤ gb511)); replace HK := zA (KeepBut.trans (zk2 HK GW499 GW500) (KeepBut.of_below hb g none) (.inl rfl)); have NB499_511 := zA (zNl hg BK499 : gb499 ≠ gb511); have NB511_499 := zA (zNg hg BK499 : gb511 ≠ gb499); replace BK499 := zKb BK499 hb; have NB500_511 := zA (zNl hg BK500 : gb500 ≠ gb511); have NB511_500 := zA (zNg hg BK500 : gb511 ≠ gb500); replace BK500 := zKb BK500 hb; have NB0_511 := zA ((zP hg (show IsS115 w _ g l0 t509 t510 from zI2 HI0 NB0_499 NB0_500) : g ≠ gb511)); have NB511_0 := zA ((zQ hg (show IsS115 w _ g l0 t509 t510 from zI2 HI0 NB0_499 NB0_500) : gb511 ≠ g)); replace HI0 := zA (IsS115.below (zI2 HI0 NB0_499 NB0_500) hb); clear hb hbox hg) | ((with_reducible refine gate_dst (N := 9) rfl ?_); refine box_event zr (N := 9) zr (cs := #[.int .i64 0, .int .i64 0]) (t := 30) zh ?_; intro gb512 hg w14 hbox hb; replace HB := zA (below_step (zJ3 HB HI0 GE499 GE500 GE511) hb); have BK512 := zA (hbox); have GW512 := zA ((zG hg (keep_size (w := w) (g := g) (row := none) (zk3 HK GW499 GW500 GW511)) : w.heap.size ≤ gb512)); have GE512 := zA ((Nat.le_trans HW0.out (zG hg (keep_size (w := w) (g := g) (row := none) (zk3 HK GW499 GW500 GW511)) : w.heap.size ≤ gb512) : w.heap.size ≤ gb512)); replace HK := zA (KeepBut.trans (zk3 HK GW499 GW500 GW511) (KeepBut.of_below hb g none) (.inl rfl)); have NB499_512 := zA (zNl hg BK499 : gb499 ≠ gb512); have NB512_499 := zA (zNg hg BK499 : gb512 ≠ gb499); replace BK499 := zKb BK499 hb; have NB500_512 := zA (zNl hg BK500 : gb500 ≠ gb512); have NB512_500 := zA (zNg hg BK500 : gb512 ≠ gb500); replace BK500 := zKb BK500 hb; have NB511_512 := zA (zNl hg BK511 : gb511 ≠ gb512); have NB512_511 := zA (zNg hg BK511 : gb512 ≠ gb511); replace BK511 := zKb BK511 hb; have NB0_512 := zA ((zP hg (show IsS115 w _ g l0 t509 t510 from zI3 HI0 NB0_499 NB0_500 NB0_511) : g ≠ gb512)); have NB512_0 := zA ((zQ hg (show IsS115 w _ g l0 t509 t510 from zI3 HI0 NB0_499 NB0_500 NB0_511) : gb512 ≠ g)); replace HI0 := zA (IsS115.below (zI3 HI0 NB0_499 NB0_500 NB0_511) hb); clear hb hbox hg; have hnb15 := NB511_499.out; have hnc15 := NB499_511.out; have hnb16 := NB511_500.out; have hnc16 := NB500_511.out; have hnb17 := NB511_512.out; have hnc17 := NB512_511.out; have hnb18 := NB511_0.out; have hnc18 := NB0_511.out; obtain ⟨z19_0, z19_1, z19_2, z19_3, y19_0, y19_1, y19_2, y19_3⟩ := zc4 BK511; have hnb20 := NB512_499.out; have hnc20 := NB499_512.out; have hnb21 := NB512_500.out; have hnc21 := NB500_512.out; have hnb22 := NB512_0.out; have hnc22 := NB0_512.out; obtain ⟨z23_0, z23_1, y23_0, y23_1⟩ := zc2 BK512) | ((with_reducible refine gate_callee (f := 99) rfl ?_); refine goesL_ (some 19) rfl rfl Try.func99 zn rfl #[.pointer (some ⟨g, 0, none⟩), .int .i64 12] rfl zm ?_; (with_reducible refine (spec_l1Cur_one.calls g l0 t509 t510 12 true t514 t515 w _ ?side1 ?side2 A4.out).mono ?_); (case side1 => exact zI4 HI0 NB0_499 NB0_500 NB0_511 NB0_512); (case side2 => exact zJ4 HB HI0 GE499 GE500 GE511 GE512); rintro e w24 ⟨rfl, hi, hb, hk⟩; refine ⟨_, rfl, ?_⟩; replace BK499 := zA (KeepBut.blk hk (g' := gb499) (o := .cells #[.int .i64 0, .int .i64 0, .bool false, .bool false] 28 (0, 0)) (by (with_reducible repeat (first | refine blk_drewN ?_ _ | refine blk_drew ?_ | refine blk_alloc ?_ _)); refine blk_far ?_ NB499_512.out _; (with_reducible repeat (first | refine blk_drewN ?_ _ | refine blk_drew ?_ | refine blk_alloc ?_ _)); refine blk_far ?_ NB499_512.out _; (with_reducible repeat (first | refine blk_drewN ?_ _ | refine blk_drew ?_ | refine blk_alloc ?_ _)); refine blk_far ?_ NB499_511.out _; (with_reducible repeat (first | refine blk_drewN ?_ _ | refine blk_drew ?_ | refine blk_alloc ?_ _)); refine blk_far ?_ NB499_511.out _; (with_reducible repeat (first | refine blk_drewN ?_ _ | refine blk_drew ?_ | refine blk_alloc ?_ _)); refine blk_far ?_ NB499_511.out _; (with_reducible repeat (first | refine blk_drewN ?_ _ | refine blk_drew ?_ | refine blk_alloc ?_ _)); refine blk_far ?_ NB499_511.out _; (with_reducible repeat (first | refine blk_drewN ?_ _ | refine blk_drew ?_ | refine blk_alloc ?_ _)); exact BK499.out) NB499_0.out (by simp)); replace BK500 := zA (KeepBut.blk hk (g' := gb500) (o := .cells #[.int .i64 0, .int .i64 0] 30 (0, 0)) (by (with_reducible repeat (first | refine blk_drewN ?_ _ | refine blk_drew ?_ | refine blk_alloc ?_ _)); refine blk_far ?_ NB500_512.out _; (with_reducible repeat (first | refine blk_drewN ?_ _ | refine blk_drew ?_ | refine blk_alloc ?_ _)); refine blk_far ?_ NB500_512.out _; (with_reducible repeat (first | refine blk_drewN ?_ _ | refine blk_drew ?_ | refine blk_alloc ?_ _)); refine blk_far ?_ NB500_511.out _; (with_reducible repeat (first | refine blk_drewN ?_ _ | refine blk_drew ?_ | refine blk_alloc ?_ _)); refine blk_far ?_ NB500_511.out _; (with_reducible repeat (first | refine blk_drewN ?_ _ | refine blk_drew ?_ | refine blk_alloc ?_ _)); refine blk_far ?_ NB500_511.out _; (with_reducible repeat (first | refine blk_drewN ?_ _ | refine blk_drew ?_ | refine blk_alloc ?_ _)); refine blk_far ?_ NB500_511.out _; (with_reducible repeat (first | refine blk_drewN ?_ _ | refine blk_drew ?_ | refine blk_alloc ?_ _)); exact BK500.out) NB500_0.out (by simp)); replace BK511 := zA (KeepBut.blk hk (g' := gb511) (o := .cells #[.int .i64 t501, .int .i64 t502, .bool t503, .bool t504] 28 (0, 0)) (by (with_reducible repeat (first | refine blk_drewN ?_ _ | refine blk_drew ?_ | refine blk_alloc ?_ _)); refine blk_far ?_ NB511_512.out _; (with_reducible repeat (first | refine blk_drewN ?_ _ | refine blk_drew ?_ | refine blk_alloc ?_ _)); refine blk_far ?_ NB511_512.out _; (with_reducible repeat (first | refine blk_drewN ?_ _ | refine blk_drew ?_ | refine blk_alloc ?_ _)); refine blk_put (cs := #[.int .i64 t501, .int .i64 t502, .bool t503, .bool false]) ?_ 3 _ rfl; (with_reducible repeat (first | refine blk_drewN ?_ _ | refine blk_drew ?_ | refine blk_alloc ?_ _)); refine blk_put (cs := #[.int .i64 t501, .int .i64 t502, .bool false, .bool false]) ?_ 2 _ rfl; (with_reducible repeat (first | refine blk_drewN ?_ _ | refine blk_drew ?_ | refine blk_alloc ?_ _)); refine blk_put (cs := #[.int .i64 t501, .int .i64 0, .bool false, .bool false]) ?_ 1 _ rfl; (with_reducible repeat (first | refine blk_drewN ?_ _ | refine blk_drew ?_ | refine blk_alloc ?_ _)); refine blk_put (cs := #[.int .i64 0, .int .i64 0, .bool false, .bool false]) ?_ 0 _ rfl; (with_reducible repeat (first | refine blk_drewN ?_ _ | refine blk_drew ?_ | refine blk_alloc ?_ _)); exact BK511.out) NB511_0.out (by simp)); replace BK512 := zA (KeepBut.blk hk (g' := gb512) (o := .cells #[.int .i64 t507, .int .i64 t508] 30 (0, 0)) (by (with_reducible repeat (first | refine blk_drewN ?_ _ | refine blk_drew ?_ | refine blk_alloc ?_ _)); refine blk_put (cs := #[.int .i64 t507, .int .i64 0]) ?_ 1 _ rfl; (with_reducible repeat (first | refine blk_drewN ?_ _ | refine blk_drew ?_ | refine blk_alloc ?_ _)); refine blk_put (cs := #[.int .i64 0, .int .i64 0]) ?_ 0 _ rfl; (with_reducible repeat (first | refine blk_drewN ?_ _ | refine blk_drew ?_ | refine blk_alloc ?_ _)); refine blk_far ?_ NB512_511.out _; (with_reducible repeat (first | refine blk_drewN ?_ _ | refine blk_drew ?_ | refine blk_alloc ?_ _)); refine blk_far ?_ NB512_511.out _; (with_reducible repeat (first | refine blk_drewN ?_ _ | refine blk_drew ?_ | refine blk_alloc ?_ _)); refine blk_far ?_ NB512_511.out _; (with_reducible repeat (first | refine blk_drewN ?_ _ | refine blk_drew ?_ | refine blk_alloc ?_ _)); refine blk_far ?_ NB512_511.out _; (with_reducible repeat (first | refine blk_drewN ?_ _ | refine blk_drew ?_ | refine blk_alloc ?_ _)); exact BK512.out) NB512_0.out (by simp)); replace HK := zA (KeepBut.trans (zk4 HK GW499 GW500 GW511 GW512) hk (.inl rfl)); replace HB := zA (hb); replace HI0 := zA (hi); (try clear hb); (try clear hb2); (try clear hk); (try clear hi)))
  replace BK499 := zA (blk_drew BK499.out)
  replace BK500 := zA (blk_drew BK500.out)
  replace BK511 := zA (blk_drew BK511.out)
  replace BK512 := zA (blk_drew BK512.out)
  replace HI0 := zA (IsS115.drew HI0.out)
  replace HK := zA (keep_drew HK.out)
  replace HB := zA (below_drew1 HB.out)
  refine start_ (n := 15) (S := fun w' => True) (ds := []) #[false, false, false, false, false, false, false, false, false, false, false, false, false, false, false] zn rfl rfl trivial (fun hHeld => ?_); refine with_tabW spec_DrawTwoSteps.tab4 spec_DrawTwoSteps.bits4 (fun HT_ HW_ => ?_)
  generalize w24.drew = w25 at BK499 BK500 BK511 BK512 HI0 HK HB hHeld ⊢
  refine zq HT_ (i := 2) (N := some 22) ?_
  refine zq HT_ (i := 5) (N := some 25) ?_
  refine zq HT_ (i := 7) (N := some 27) ?_
  refine inv_at [0, 1, 3, 4, 6, 8, 9, 10, 11, 12, 13, 14] (fun a0_ b a w' => ∃ (v517 : Value) (v526 : Value), a = putSel a0_ b [(0, 20, .agg #[.int .i64 t501, .int .i64 t502, .bool t503, .bool t504]), (1, 21, .agg #[.int .i64 t507, .int .i64 t508]), (3, 23, v517), (4, 24, .int .i64 t519), (6, 26, .int .i64 t522), (8, 28, v526), (9, 29, .int .i64 t528), (12, 4, .int .i64 t519), (13, 5, .int .i64 t522), (14, 6, .int .i64 t528)] ∧ (b 10 = false → w'.heap[gb499]? = some (.cells #[.int .i64 0, .int .i64 0, .bool false, .bool false] 28 (0, 0))) ∧ (b 11 = false → w'.heap[gb500]? = some (.cells #[.int .i64 0, .int .i64 0] 30 (0, 0))) ∧ (w'.heap[gb511]? = some (.cells #[.int .i64 t501, .int .i64 t502, .bool t503, .bool t504] 28 (0, 0))) ∧ (w'.heap[gb512]? = some (.cells #[.int .i64 t507, .int .i64 t508] 30 (0, 0))) ∧ (b 4 = false → IsS115 w w' g l0 t514 t515) ∧ (KeepBut w w' g none) ∧ (Below w.heap.size w w') ∧ (b 3 = true → Kd.R (Kd.int .i64) 3 w' w.heap.size (fun _ => True) v517 y516) ∧ (b 4 = true → b 6 = false → IsS115 w w' g l0 t520 t521) ∧ (b 6 = true → b 9 = false → IsS115 w w' g l0 t523 t524) ∧ (b 8 = true → Kd.R (Kd.int .i64) 3 w' w.heap.size (fun _ => True) v526 y525) ∧ (b 9 = true → IsS115 w w' g l0 t529 t530) ∧ (b 10 = true → w'.heap[gb499]? = some (.cells #[.int .i64 t501, .int .i64 t502, .bool t503, .bool t504] 28 (0, 0))) ∧ (b 11 = true → w'.heap[gb500]? = some (.cells #[.int .i64 t507, .int .i64 t508] 30 (0, 0)))) HT_.out HW_.out zn zn ?_ ?_ ?_
  ·exact ⟨.bool false, .bool false, by simp only [putSel, Bool.false_eq_true, if_false], fun _ => BK499.out, fun _ => BK500.out, BK511.out, BK512.out, fun _ => HI0.out, HK.out, HB.out, fun h_ => absurd h_ (by decide), fun h_ => absurd h_ (by decide), fun h_ => absurd h_ (by decide), fun h_ => absurd h_ (by decide), fun h_ => absurd h_ (by decide), fun h_ => absurd h_ (by decide), fun h_ => absurd h_ (by decide)⟩
  ·skip
   clear BK499 BK500 BK511 BK512 HB HI0 HK
   refine steps_cons ?_ ?_
   ·rintro b a w' ⟨v517, v526, ha, Q_BK499, Q_BK500, Q_BK511, Q_BK512, Q_HI0, Q_HK, Q_HB, Q_HO518, Q_HI0_e4, Q_HI0_e6, Q_HO527, Q_HI0_e9, Q_BK499_e10, Q_BK500_e11⟩ hb_ hon hoff
    refine ⟨_, rfl, fun K hK => ?_⟩
    have e8 : a.tmps[8]? = some (.pointer (some ⟨gb511, 0, none⟩)) := by rw [ha]; exact (putSel_off rfl).trans rfl
    replace ha := zA ha
    have BK499 := zA (Q_BK499 (hoff 10 zn))
    have BK500 := zA (Q_BK500 (hoff 11 zn))
    have BK511 := zA Q_BK511
    have BK512 := zA Q_BK512
    have HK := zA Q_HK
    have HB := zA Q_HB
    have hc0_ : w'.cell? ⟨gb511, 0, none⟩ = some (.int .i64 t501) := (blk_cell BK511.out 0).trans rfl
    have hc1_ : w'.cell? ⟨gb511, 1, none⟩ = some (.int .i64 t502) := (blk_cell BK511.out 1).trans rfl
    have hc2_ : w'.cell? ⟨gb511, 2, none⟩ = some (.bool t503) := (blk_cell BK511.out 2).trans rfl
    have hc3_ : w'.cell? ⟨gb511, 3, none⟩ = some (.bool t504) := (blk_cell BK511.out 3).trans rfl
    refine value_ (w1 := w') (v := .agg #[.int .i64 t501, .int .i64 t502, .bool t503, .bool t504]) (by rfl) rfl ?_ ?_
    ·go_simp
     (try simp only [i64_w])
     try rfl
    refine hK.out _ _ ⟨v517, v526, (by rw [ha.out]; exact putSel_upk 0 hb_ rfl rfl rfl), Q_BK499, Q_BK500, Q_BK511, Q_BK512, Q_HI0, Q_HK, Q_HB, Q_HO518, Q_HI0_e4, Q_HI0_e6, Q_HO527, Q_HI0_e9, fun h0_ => absurd ((hoff 10 zn).symm.trans h0_) (by decide), fun h0_ => absurd ((hoff 11 zn).symm.trans h0_) (by decide)⟩
   refine steps_cons ?_ ?_
   ·rintro b a w' ⟨v517, v526, ha, Q_BK499, Q_BK500, Q_BK511, Q_BK512, Q_HI0, Q_HK, Q_HB, Q_HO518, Q_HI0_e4, Q_HI0_e6, Q_HO527, Q_HI0_e9, Q_BK499_e10, Q_BK500_e11⟩ hb_ hon hoff
    refine ⟨_, rfl, fun K hK => ?_⟩
    have e9 : a.tmps[9]? = some (.pointer (some ⟨gb512, 0, none⟩)) := by rw [ha]; exact (putSel_off rfl).trans rfl
    replace ha := zA ha
    have BK500 := zA (Q_BK500 (hoff 11 zn))
    have BK511 := zA Q_BK511
    have BK512 := zA Q_BK512
    have HK := zA Q_HK
    have HB := zA Q_HB
    have hc0_ : w'.cell? ⟨gb512, 0, none⟩ = some (.int .i64 t507) := (blk_cell BK512.out 0).trans rfl
    have hc1_ : w'.cell? ⟨gb512, 1, none⟩ = some (.int .i64 t508) := (blk_cell BK512.out 1).trans rfl
    refine value_ (w1 := w') (v := .agg #[.int .i64 t507, .int .i64 t508]) (by rfl) rfl ?_ ?_
    ·go_simp
     (try simp only [i64_w])
     try rfl
    refine hK.out _ _ ⟨v517, v526, (by rw [ha.out]; exact putSel_upk 1 hb_ rfl rfl rfl), Q_BK499, Q_BK500, Q_BK511, Q_BK512, Q_HI0, Q_HK, Q_HB, Q_HO518, Q_HI0_e4, Q_HI0_e6, Q_HO527, Q_HI0_e9, Q_BK499_e10, fun h0_ => absurd ((hoff 11 zn).symm.trans h0_) (by decide)⟩
   refine steps_cons ?_ ?_
   ·rintro b a w' ⟨v517, v526, ha, Q_BK499, Q_BK500, Q_BK511, Q_BK512, Q_HI0, Q_HK, Q_HB, Q_HO518, Q_HI0_e4, Q_HI0_e6, Q_HO527, Q_HI0_e9, Q_BK499_e10, Q_BK500_e11⟩ hb_ hon hoff
    refine ⟨_, rfl, fun K hK => ?_⟩
    replace ha := zA ha
    have BK499 := zA (Q_BK499 (hoff 10 zn))
    have BK500 := zA (Q_BK500 (hoff 11 zn))
    have BK511 := zA Q_BK511
    have BK512 := zA Q_BK512
    have HI0 := zA (Q_HI0 (hoff 4 zn))
    have HK := zA Q_HK
    have HB := zA Q_HB
    refine Kd.R_lit_step (Kd.int .i64) _ 3 ?hg (N := 23) ?hd (xs := ([(-1), 7, 8] : List Int)) (inner := [.int .i64 (-1), .int .i64 7, .int .i64 8]) (ok := fun _ => True) (okp := fun _ => True) ?hr ?hp (fun _ hk => hk) trivial (Below.refl _ _) (Nat.le_refl _) (by simp) ?_; (case hd => rfl); (case hg => rfl); (case hr => first | (go_simp; done) | (go_simp; rfl)); (case hp => exact (Reps.one (show Kd.M (Kd.int .i64) _ _ _ (-1) [.int .i64 (-1)] from rfl) (Reps.one (show Kd.M (Kd.int .i64) _ _ _ 7 [.int .i64 7] from rfl) (Reps.one (show Kd.M (Kd.int .i64) _ _ _ 8 [.int .i64 8] from rfl) (Reps.none _ _)))))
    intro v517 w26 ho27 hb hg_ hnew_
    clear hg_ hnew_
    (first | rw [← Ny516.out] at ho27 | (simp only [Int.reduceToNat] at ho27; rw [← Ny516.out] at ho27))
    have n0_ := zA (Kd.R_lower ho27 (keep_size (w := w) (g := g) (row := none) (zk4 HK GW499 GW500 GW511 GW512)))
    have n1_ := zA (IsS115.below (zI4 HI0 NB0_499 NB0_500 NB0_511 NB0_512) hb)
    have n2_ := zKb BK499 hb
    have n3_ := zKb BK500 hb
    have n4_ := zKb BK511 hb
    have n5_ := zKb BK512 hb
    have n6_ := zA (KeepBut.trans (zk4 HK GW499 GW500 GW511 GW512) (KeepBut.of_below hb g none) (.inl rfl))
    have n7_ := zA (below_step (zJ4 HB HI0 GE499 GE500 GE511 GE512) hb)
    have z_HO527 := fun (h0_ : b 8 = true) => (show Kd.R (Kd.int .i64) 3 w26 w.heap.size (fun _ => True) v526 y525 from by first | exact (Kd.R_elder' (by (with_reducible repeat (first | apply Kd.R_alloc | apply Kd.R_drewN | apply Kd.R_drew)); exact (Q_HO527 h0_)) (Kd.R_base ho27) hb) | exact Kd.R_mono (Kd.R_elder' (by (with_reducible repeat (first | apply Kd.R_alloc | apply Kd.R_drewN | apply Kd.R_drew)); exact (Q_HO527 h0_)) (Kd.R_base ho27) hb) (fun _ h_ => by first | trivial | exact h_ | exact h_.1))
    clear HI0
    clear BK499
    clear BK500
    clear BK511
    clear BK512
    clear HK
    clear HB
    have HO518 := n0_
    have HI0 := n1_
    have BK499 := n2_
    have BK500 := n3_
    have BK511 := n4_
    have BK512 := n5_
    have HK := n6_
    have HB := n7_
    clear n0_ n1_ n2_ n3_ n4_ n5_ n6_ n7_
    clear hb ho27
    refine hK.out _ _ ⟨v517, v526, (by rw [ha.out]; exact putSel_upk 2 hb_ rfl rfl rfl), fun _ => (zK BK499), fun _ => (zK BK500), (zK BK511), (zK BK512), fun _ => (zI4 HI0 NB0_499 NB0_500 NB0_511 NB0_512), (zk4 HK GW499 GW500 GW511 GW512), (zJ4 HB HI0 GE499 GE500 GE511 GE512), fun _ => (zR HO518.out), fun h0_ _ => absurd ((hoff 4 zn).symm.trans h0_) (by decide), fun h0_ _ => absurd ((hoff 6 zn).symm.trans h0_) (by decide), z_HO527, fun h0_ => absurd ((hoff 9 zn).symm.trans h0_) (by decide), fun h0_ => absurd ((hoff 10 zn).symm.trans h0_) (by decide), fun h0_ => absurd ((hoff 11 zn).symm.trans h0_) (by decide)⟩
   refine steps_cons ?_ ?_
   ·rintro b a w' ⟨v517, v526, ha, Q_BK499, Q_BK500, Q_BK511, Q_BK512, Q_HI0, Q_HK, Q_HB, Q_HO518, Q_HI0_e4, Q_HI0_e6, Q_HO527, Q_HI0_e9, Q_BK499_e10, Q_BK500_e11⟩ hb_ hon hoff
    refine ⟨_, rfl, fun K hK => ?_⟩
    have e22 : a.tmps[22]? = some (.pointer (some ⟨g, 0, none⟩)) := by rw [ha]; exact (putSel_off rfl).trans rfl
    have e23 : a.tmps[23]? = some (v517) := by rw [ha]; exact putSel_on (e := (3, 23, v517)) 2 rfl rfl (hon 3 zn) rfl
    replace ha := zA ha
    have BK499 := zA (Q_BK499 (hoff 10 zn))
    have BK500 := zA (Q_BK500 (hoff 11 zn))
    have BK511 := zA Q_BK511
    have BK512 := zA Q_BK512
    have HI0 := zA (Q_HI0 hb_)
    have HK := zA Q_HK
    have HB := zA Q_HB
    have HO518 := zA (Q_HO518 (hon 3 zn))
    obtain ⟨Ao29, co29, eo29⟩ := Kd.R_slice HO518.out
    (first | subst eo29 | (injection eo29 with f1_ f2_ f3_; have f4_ := f1_.symm; have f5_ := f3_.symm; clear f1_ f2_ f3_; subst f4_; subst f5_))
    refine goes_ Try.func103 zn rfl #[.pointer (some ⟨g, 0, none⟩), .slice Ao29 y516.length co29] (by rfl) rfl rfl (by first | (simp only [List.map_toArray, List.map_cons, List.map_nil, Act.eval, Array.getD_eq_getD_getElem?, Option.getD_some, e22, e23]; done) | (simp only [List.map_toArray, List.map_cons, List.map_nil, Act.eval, Array.getD_eq_getD_getElem?, Option.getD_some, e22, e23]; rfl)) ?_
    with_reducible refine (spec_l1Cur_among.calls g l0 t514 t515 _ _ y516 t519 t520 t521 w _ ?side1 ?side2 ?side3 ?side4 ?side5 A6.out).mono ?_
    (case side1 => exact zI4 HI0 NB0_499 NB0_500 NB0_511 NB0_512)
    (case side2 => exact zJ4 HB HI0 GE499 GE500 GE511 GE512)
    (case side3 => exact zC (Kd.R_reads' HO518.out).2.2)
    (case side4 => exact (Kd.R_reads' HO518.out).2.1)
    (case side5 => exact far_slice (IsS115.own_ne HI0.out HO518.out (by decide)))
    rintro e w30 ⟨rfl, hi, hb, hk⟩
    refine ⟨_, rfl, ?_⟩
    have n0_ := zX BK499 hk NB499_0
    have n1_ := zX BK500 hk NB500_0
    have n2_ := zX BK511 hk NB511_0
    have n3_ := zX BK512 hk NB512_0
    have n4_ := zA (Kd.R_mono (Kd.R_keep (IsS115.apart (show IsS115 w _ g l0 t514 t515 from zI4 HI0 NB0_499 NB0_500 NB0_511 NB0_512) (zR HO518.out) (by decide)) hk (fun _ h => h.2)) (fun _ h => h.1))
    have n5_ := zA (KeepBut.trans (zk4 HK GW499 GW500 GW511 GW512) hk (.inl rfl))
    have n6_ := zA (hb)
    have n7_ := zA (hi)
    have z_HO527 := fun (h0_ : b 8 = true) => (show Kd.R (Kd.int .i64) 3 w30 w.heap.size (fun _ => True) v526 y525 from by first | exact (Kd.R_mono (Kd.R_keep (IsS115.apart (show IsS115 w _ g l0 t514 t515 from zI4 HI0 NB0_499 NB0_500 NB0_511 NB0_512) (by (with_reducible repeat (first | apply Kd.R_alloc | apply Kd.R_drewN | apply Kd.R_drew)); exact (Q_HO527 h0_)) (by decide)) hk (fun _ h => h.2)) (fun _ h => h.1)) | exact Kd.R_mono (Kd.R_mono (Kd.R_keep (IsS115.apart (show IsS115 w _ g l0 t514 t515 from zI4 HI0 NB0_499 NB0_500 NB0_511 NB0_512) (by (with_reducible repeat (first | apply Kd.R_alloc | apply Kd.R_drewN | apply Kd.R_drew)); exact (Q_HO527 h0_)) (by decide)) hk (fun _ h => h.2)) (fun _ h => h.1)) (fun _ h_ => by first | trivial | exact h_ | exact h_.1))
    clear BK499
    clear BK500
    clear BK511
    clear BK512
    clear HO518
    clear HK
    clear HB
    clear HI0
    have BK499 := n0_
    have BK500 := n1_
    have BK511 := n2_
    have BK512 := n3_
    have HO518 := n4_
    have HK := n5_
    have HB := n6_
    have HI0 := n7_
    clear n0_ n1_ n2_ n3_ n4_ n5_ n6_ n7_
    (try clear hb); (try clear hb2); (try clear hk); (try clear hi)
    refine hK.out _ _ ⟨.slice Ao29 y516.length co29, v526, (by rw [ha.out]; exact putSel_upk 3 hb_ rfl rfl rfl), fun _ => (zK BK499), fun _ => (zK BK500), (zK BK511), (zK BK512), fun h0_ => absurd ((up_self b 4).symm.trans h0_) (by decide), (zk4 HK GW499 GW500 GW511 GW512), (zJ4 HB HI0 GE499 GE500 GE511 GE512), fun _ => (zR HO518.out), fun _ _ => (zI4 HI0 NB0_499 NB0_500 NB0_511 NB0_512), fun h0_ _ => absurd ((hoff 6 zn).symm.trans h0_) (by decide), z_HO527, fun h0_ => absurd ((hoff 9 zn).symm.trans h0_) (by decide), fun h0_ => absurd ((hoff 10 zn).symm.trans h0_) (by decide), fun h0_ => absurd ((hoff 11 zn).symm.trans h0_) (by decide)⟩
   refine steps_cons ?_ ?_
   ·rintro b a w' ⟨v517, v526, ha, Q_BK499, Q_BK500, Q_BK511, Q_BK512, Q_HI0, Q_HK, Q_HB, Q_HO518, Q_HI0_e4, Q_HI0_e6, Q_HO527, Q_HI0_e9, Q_BK499_e10, Q_BK500_e11⟩ hb_ hon hoff
    refine ⟨_, rfl, fun K hK => ?_⟩
    have e25 : a.tmps[25]? = some (.pointer (some ⟨g, 0, none⟩)) := by rw [ha]; exact (putSel_off rfl).trans rfl
    replace ha := zA ha
    have BK499 := zA (Q_BK499 (hoff 10 zn))
    have BK500 := zA (Q_BK500 (hoff 11 zn))
    have BK511 := zA Q_BK511
    have BK512 := zA Q_BK512
    have HK := zA Q_HK
    have HB := zA Q_HB
    have HO518 := zA (Q_HO518 (hon 3 zn))
    have HI0 := zA (Q_HI0_e4 (hon 4 zn) hb_)
    refine goes_ Try.func104 zn rfl #[.pointer (some ⟨g, 0, none⟩), .int .i64 8] (by rfl) rfl rfl (by first | (simp only [List.map_toArray, List.map_cons, List.map_nil, Act.eval, Array.getD_eq_getD_getElem?, Option.getD_some, e25]; done) | (simp only [List.map_toArray, List.map_cons, List.map_nil, Act.eval, Array.getD_eq_getD_getElem?, Option.getD_some, e25]; rfl)) ?_
    with_reducible refine (spec_l1Cur_pick.calls g l0 t520 t521 8 t522 t523 t524 w _ ?side1 ?side2 A7.out).mono ?_
    (case side1 => exact zI4 HI0 NB0_499 NB0_500 NB0_511 NB0_512)
    (case side2 => exact zJ4 HB HI0 GE499 GE500 GE511 GE512)
    rintro e w31 ⟨rfl, hi, hb, hk⟩
    refine ⟨_, rfl, ?_⟩
    have n0_ := zX BK499 hk NB499_0
    have n1_ := zX BK500 hk NB500_0
    have n2_ := zX BK511 hk NB511_0
    have n3_ := zX BK512 hk NB512_0
    have n4_ := zA (Kd.R_mono (Kd.R_keep (IsS115.apart (show IsS115 w _ g l0 t520 t521 from zI4 HI0 NB0_499 NB0_500 NB0_511 NB0_512) (zR HO518.out) (by decide)) hk (fun _ h => h.2)) (fun _ h => h.1))
    have n5_ := zA (KeepBut.trans (zk4 HK GW499 GW500 GW511 GW512) hk (.inl rfl))
    have n6_ := zA (hb)
    have n7_ := zA (hi)
    have z_HO527 := fun (h0_ : b 8 = true) => (show Kd.R (Kd.int .i64) 3 w31 w.heap.size (fun _ => True) v526 y525 from by first | exact (Kd.R_mono (Kd.R_keep (IsS115.apart (show IsS115 w _ g l0 t520 t521 from zI4 HI0 NB0_499 NB0_500 NB0_511 NB0_512) (by (with_reducible repeat (first | apply Kd.R_alloc | apply Kd.R_drewN | apply Kd.R_drew)); exact (Q_HO527 h0_)) (by decide)) hk (fun _ h => h.2)) (fun _ h => h.1)) | exact Kd.R_mono (Kd.R_mono (Kd.R_keep (IsS115.apart (show IsS115 w _ g l0 t520 t521 from zI4 HI0 NB0_499 NB0_500 NB0_511 NB0_512) (by (with_reducible repeat (first | apply Kd.R_alloc | apply Kd.R_drewN | apply Kd.R_drew)); exact (Q_HO527 h0_)) (by decide)) hk (fun _ h => h.2)) (fun _ h => h.1)) (fun _ h_ => by first | trivial | exact h_ | exact h_.1))
    clear BK499
    clear BK500
    clear BK511
    clear BK512
    clear HO518
    clear HK
    clear HB
    clear HI0
    have BK499 := n0_
    have BK500 := n1_
    have BK511 := n2_
    have BK512 := n3_
    have HO518 := n4_
    have HK := n5_
    have HB := n6_
    have HI0 := n7_
    clear n0_ n1_ n2_ n3_ n4_ n5_ n6_ n7_
    (try clear hb); (try clear hb2); (try clear hk); (try clear hi)
    refine hK.out _ _ ⟨v517, v526, (by rw [ha.out]; exact putSel_upk 4 hb_ rfl rfl rfl), fun _ => (zK BK499), fun _ => (zK BK500), (zK BK511), (zK BK512), fun h0_ => absurd ((hon 4 zn).symm.trans h0_) (by decide), (zk4 HK GW499 GW500 GW511 GW512), (zJ4 HB HI0 GE499 GE500 GE511 GE512), fun _ => (zR HO518.out), fun _ h1_ => absurd ((up_self b 6).symm.trans h1_) (by decide), fun _ _ => (zI4 HI0 NB0_499 NB0_500 NB0_511 NB0_512), z_HO527, fun h0_ => absurd ((hoff 9 zn).symm.trans h0_) (by decide), fun h0_ => absurd ((hoff 10 zn).symm.trans h0_) (by decide), fun h0_ => absurd ((hoff 11 zn).symm.trans h0_) (by decide)⟩
   refine steps_cons ?_ ?_
   ·rintro b a w' ⟨v517, v526, ha, Q_BK499, Q_BK500, Q_BK511, Q_BK512, Q_HI0, Q_HK, Q_HB, Q_HO518, Q_HI0_e4, Q_HI0_e6, Q_HO527, Q_HI0_e9, Q_BK499_e10, Q_BK500_e11⟩ hb_ hon hoff
    refine ⟨_, rfl, fun K hK => ?_⟩
    replace ha := zA ha
    have BK499 := zA (Q_BK499 (hoff 10 zn))
    have BK500 := zA (Q_BK500 (hoff 11 zn))
    have BK511 := zA Q_BK511
    have BK512 := zA Q_BK512
    have HK := zA Q_HK
    have HB := zA Q_HB
    refine Kd.R_lit_step (Kd.int .i64) _ 3 ?hg (N := 28) ?hd (xs := ([1, 150, 151] : List Int)) (inner := [.int .i64 1, .int .i64 150, .int .i64 151]) (ok := fun _ => True) (okp := fun _ => True) ?hr ?hp (fun _ hk => hk) trivial (Below.refl _ _) (Nat.le_refl _) (by simp) ?_; (case hd => rfl); (case hg => rfl); (case hr => first | (go_simp; done) | (go_simp; rfl)); (case hp => exact (Reps.one (show Kd.M (Kd.int .i64) _ _ _ 1 [.int .i64 1] from rfl) (Reps.one (show Kd.M (Kd.int .i64) _ _ _ 150 [.int .i64 150] from rfl) (Reps.one (show Kd.M (Kd.int .i64) _ _ _ 151 [.int .i64 151] from rfl) (Reps.none _ _)))))
    intro v526 w26 ho27 hb hg_ hnew_
    clear hg_ hnew_
    (first | rw [← Ny525.out] at ho27 | (simp only [Int.reduceToNat] at ho27; rw [← Ny525.out] at ho27))
    have n0_ := zA (Kd.R_lower ho27 (keep_size (w := w) (g := g) (row := none) (zk4 HK GW499 GW500 GW511 GW512)))
    have n2_ := zKb BK499 hb
    have n3_ := zKb BK500 hb
    have n4_ := zKb BK511 hb
    have n5_ := zKb BK512 hb
    have n6_ := zA (KeepBut.trans (zk4 HK GW499 GW500 GW511 GW512) (KeepBut.of_below hb g none) (.inl rfl))
    have n7_ := zA (below_step (zB4 HB GE499 GE500 GE511 GE512) hb)
    have z_HI0 := fun (h0_ : b 4 = false) => (show IsS115 w w26 g l0 t514 t515 from by first | exact (IsS115.below (by repeat (first | (with_reducible first | exact (Q_HI0 h0_) | apply IsS115.alloc | apply IsS115.drewN | apply IsS115.drew | apply IsS115.set_1 | apply IsS115.set_2 | refine IsS115.far ?_ NB0_499.out _ | refine IsS115.far ?_ NB0_500.out _ | refine IsS115.far ?_ NB0_511.out _ | refine IsS115.far ?_ NB0_512.out _) | exact (Q_HI0 h0_))) hb))
    have z_HO518 := fun (h0_ : b 3 = true) => (show Kd.R (Kd.int .i64) 3 w26 w.heap.size (fun _ => True) v517 y516 from by first | exact (Kd.R_elder' (by (with_reducible repeat (first | apply Kd.R_alloc | apply Kd.R_drewN | apply Kd.R_drew)); exact (Q_HO518 h0_)) (Kd.R_base ho27) hb) | exact Kd.R_mono (Kd.R_elder' (by (with_reducible repeat (first | apply Kd.R_alloc | apply Kd.R_drewN | apply Kd.R_drew)); exact (Q_HO518 h0_)) (Kd.R_base ho27) hb) (fun _ h_ => by first | trivial | exact h_ | exact h_.1))
    have z_HI0_e4 := fun (h0_ : b 4 = true) (h1_ : b 6 = false) => (show IsS115 w w26 g l0 t520 t521 from by first | exact (IsS115.below (by repeat (first | (with_reducible first | exact (Q_HI0_e4 h0_ h1_) | apply IsS115.alloc | apply IsS115.drewN | apply IsS115.drew | apply IsS115.set_1 | apply IsS115.set_2 | refine IsS115.far ?_ NB0_499.out _ | refine IsS115.far ?_ NB0_500.out _ | refine IsS115.far ?_ NB0_511.out _ | refine IsS115.far ?_ NB0_512.out _) | exact (Q_HI0_e4 h0_ h1_))) hb))
    have z_HI0_e6 := fun (h0_ : b 6 = true) (h1_ : b 9 = false) => (show IsS115 w w26 g l0 t523 t524 from by first | exact (IsS115.below (by repeat (first | (with_reducible first | exact (Q_HI0_e6 h0_ h1_) | apply IsS115.alloc | apply IsS115.drewN | apply IsS115.drew | apply IsS115.set_1 | apply IsS115.set_2 | refine IsS115.far ?_ NB0_499.out _ | refine IsS115.far ?_ NB0_500.out _ | refine IsS115.far ?_ NB0_511.out _ | refine IsS115.far ?_ NB0_512.out _) | exact (Q_HI0_e6 h0_ h1_))) hb))
    clear BK499
    clear BK500
    clear BK511
    clear BK512
    clear HK
    clear HB
    have HO527 := n0_
    have BK499 := n2_
    have BK500 := n3_
    have BK511 := n4_
    have BK512 := n5_
    have HK := n6_
    have HB := n7_
    clear n0_ n2_ n3_ n4_ n5_ n6_ n7_
    clear hb ho27
    refine hK.out _ _ ⟨v517, v526, (by rw [ha.out]; exact putSel_upk 5 hb_ rfl rfl rfl), fun _ => (zK BK499), fun _ => (zK BK500), (zK BK511), (zK BK512), z_HI0, (zk4 HK GW499 GW500 GW511 GW512), (zB4 HB GE499 GE500 GE511 GE512), z_HO518, z_HI0_e4, z_HI0_e6, fun _ => (zR HO527.out), fun h0_ => absurd ((hoff 9 zn).symm.trans h0_) (by decide), fun h0_ => absurd ((hoff 10 zn).symm.trans h0_) (by decide), fun h0_ => absurd ((hoff 11 zn).symm.trans h0_) (by decide)⟩
   refine steps_cons ?_ ?_
   ·rintro b a w' ⟨v517, v526, ha, Q_BK499, Q_BK500, Q_BK511, Q_BK512, Q_HI0, Q_HK, Q_HB, Q_HO518, Q_HI0_e4, Q_HI0_e6, Q_HO527, Q_HI0_e9, Q_BK499_e10, Q_BK500_e11⟩ hb_ hon hoff
    refine ⟨_, rfl, fun K hK => ?_⟩
    have e27 : a.tmps[27]? = some (.pointer (some ⟨g, 0, none⟩)) := by rw [ha]; exact (putSel_off rfl).trans rfl
    have e28 : a.tmps[28]? = some (v526) := by rw [ha]; exact putSel_on (e := (8, 28, v526)) 5 rfl rfl (hon 8 zn) rfl
    replace ha := zA ha
    have BK499 := zA (Q_BK499 (hoff 10 zn))
    have BK500 := zA (Q_BK500 (hoff 11 zn))
    have BK511 := zA Q_BK511
    have BK512 := zA Q_BK512
    have HK := zA Q_HK
    have HB := zA Q_HB
    have HO518 := zA (Q_HO518 (hon 3 zn))
    have HI0 := zA (Q_HI0_e6 (hon 6 zn) hb_)
    have HO527 := zA (Q_HO527 (hon 8 zn))
    obtain ⟨Ao34, co34, eo34⟩ := Kd.R_slice HO527.out
    (first | subst eo34 | (injection eo34 with f1_ f2_ f3_; have f4_ := f1_.symm; have f5_ := f3_.symm; clear f1_ f2_ f3_; subst f4_; subst f5_))
    refine goes_ Try.func103 zn rfl #[.pointer (some ⟨g, 0, none⟩), .slice Ao34 y525.length co34] (by rfl) rfl rfl (by first | (simp only [List.map_toArray, List.map_cons, List.map_nil, Act.eval, Array.getD_eq_getD_getElem?, Option.getD_some, e27, e28]; done) | (simp only [List.map_toArray, List.map_cons, List.map_nil, Act.eval, Array.getD_eq_getD_getElem?, Option.getD_some, e27, e28]; rfl)) ?_
    with_reducible refine (spec_l1Cur_among.calls g l0 t523 t524 _ _ y525 t528 t529 t530 w _ ?side1 ?side2 ?side3 ?side4 ?side5 A8.out).mono ?_
    (case side1 => exact zI4 HI0 NB0_499 NB0_500 NB0_511 NB0_512)
    (case side2 => exact zJ4 HB HI0 GE499 GE500 GE511 GE512)
    (case side3 => exact zC (Kd.R_reads' HO527.out).2.2)
    (case side4 => exact (Kd.R_reads' HO527.out).2.1)
    (case side5 => exact far_slice (IsS115.own_ne HI0.out HO527.out (by decide)))
    rintro e w35 ⟨rfl, hi, hb, hk⟩
    refine ⟨_, rfl, ?_⟩
    replace BK499 := zX BK499 hk NB499_0
    replace BK500 := zX BK500 hk NB500_0
    replace BK511 := zX BK511 hk NB511_0
    replace BK512 := zX BK512 hk NB512_0
    replace HO518 := zA (Kd.R_mono (Kd.R_keep (IsS115.apart (show IsS115 w _ g l0 t523 t524 from zI4 HI0 NB0_499 NB0_500 NB0_511 NB0_512) (zR HO518.out) (by decide)) hk (fun _ h => h.2)) (fun _ h => h.1))
    replace HO527 := zA (Kd.R_mono (Kd.R_keep (IsS115.apart (show IsS115 w _ g l0 t523 t524 from zI4 HI0 NB0_499 NB0_500 NB0_511 NB0_512) (zR HO527.out) (by decide)) hk (fun _ h => h.2)) (fun _ h => h.1))
    replace HK := zA (KeepBut.trans (zk4 HK GW499 GW500 GW511 GW512) hk (.inl rfl))
    replace HB := zA (hb)
    replace HI0 := zA (hi)
    (try clear hb); (try clear hb2); (try clear hk); (try clear hi)
    refine hK.out _ _ ⟨v517, .slice Ao34 y525.length co34, (by rw [ha.out]; exact putSel_upk 6 hb_ rfl rfl rfl), fun _ => (zK BK499), fun _ => (zK BK500), (zK BK511), (zK BK512), fun h0_ => absurd ((hon 4 zn).symm.trans h0_) (by decide), (zk4 HK GW499 GW500 GW511 GW512), (zJ4 HB HI0 GE499 GE500 GE511 GE512), fun _ => (zR HO518.out), fun _ h1_ => absurd ((hon 6 zn).symm.trans h1_) (by decide), fun _ h1_ => absurd ((up_self b 9).symm.trans h1_) (by decide), fun _ => (zR HO527.out), fun _ => (zI4 HI0 NB0_499 NB0_500 NB0_511 NB0_512), fun h0_ => absurd ((hoff 10 zn).symm.trans h0_) (by decide), fun h0_ => absurd ((hoff 11 zn).symm.trans h0_) (by decide)⟩
   refine steps_cons ?_ ?_
   ·rintro b a w' ⟨v517, v526, ha, Q_BK499, Q_BK500, Q_BK511, Q_BK512, Q_HI0, Q_HK, Q_HB, Q_HO518, Q_HI0_e4, Q_HI0_e6, Q_HO527, Q_HI0_e9, Q_BK499_e10, Q_BK500_e11⟩ hb_ hon hoff
    refine ⟨_, rfl, fun K hK => ?_⟩
    have e2 : a.tmps[2]? = some (.pointer (some ⟨gb499, 0, none⟩)) := by rw [ha]; exact (putSel_off rfl).trans rfl
    have e20 : a.tmps[20]? = some (.agg #[.int .i64 t501, .int .i64 t502, .bool t503, .bool t504]) := by rw [ha]; exact putSel_on (e := (0, 20, .agg #[.int .i64 t501, .int .i64 t502, .bool t503, .bool t504])) 0 rfl rfl (hon 0 zn) rfl
    replace ha := zA ha
    have BK499 := zA (Q_BK499 hb_)
    have BK500 := zA (Q_BK500 (hoff 11 zn))
    have BK511 := zA Q_BK511
    have BK512 := zA Q_BK512
    have HK := zA Q_HK
    have HB := zA Q_HB
    have HO518 := zA (Q_HO518 (hon 3 zn))
    have HO527 := zA (Q_HO527 (hon 8 zn))
    have HI0 := zA (Q_HI0_e9 (hon 9 zn))
    have hs36 : w'.cell? ⟨gb499, 0, none⟩ = some (.int .i64 0) := (blk_cell BK499.out 0).trans rfl
    have hfs36 := blk_frozen BK499.out 0
    have hns36_1 := NB500_499.out
    have hns36_2 := NB511_499.out
    have hns36_3 := NB512_499.out
    have hms36_1 := NB499_500.out
    have hms36_2 := NB499_511.out
    have hms36_3 := NB499_512.out
    have hs37 : w'.cell? ⟨gb499, 1, none⟩ = some (.int .i64 0) := (blk_cell BK499.out 1).trans rfl
    have hfs37 := blk_frozen BK499.out 1
    have hns37_1 := NB500_499.out
    have hns37_2 := NB511_499.out
    have hns37_3 := NB512_499.out
    have hms37_1 := NB499_500.out
    have hms37_2 := NB499_511.out
    have hms37_3 := NB499_512.out
    have hs38 : w'.cell? ⟨gb499, 2, none⟩ = some (.bool false) := (blk_cell BK499.out 2).trans rfl
    have hfs38 := blk_frozen BK499.out 2
    have hns38_1 := NB500_499.out
    have hns38_2 := NB511_499.out
    have hns38_3 := NB512_499.out
    have hms38_1 := NB499_500.out
    have hms38_2 := NB499_511.out
    have hms38_3 := NB499_512.out
    have hs39 : w'.cell? ⟨gb499, 3, none⟩ = some (.bool false) := (blk_cell BK499.out 3).trans rfl
    have hfs39 := blk_frozen BK499.out 3
    have hns39_1 := NB500_499.out
    have hns39_2 := NB511_499.out
    have hns39_3 := NB512_499.out
    have hms39_1 := NB499_500.out
    have hms39_2 := NB499_511.out
    have hms39_3 := NB499_512.out
    refine skip_ (w1 := ?_) (by rfl) rfl ?_ ?_
    rotate_left
    ·go_simp
     rfl
    refine hK.out _ _ ⟨v517, v526, (by rw [ha.out]; exact putSel_none (v := undef) rfl), fun h0_ => absurd ((up_self b 10).symm.trans h0_) (by decide), fun _ => (zD BK500 NB500_499), (zD BK511 NB511_499), (zD BK512 NB512_499), fun h0_ => absurd ((hon 4 zn).symm.trans h0_) (by decide), (zk4 HK GW499 GW500 GW511 GW512), (zJ4 HB HI0 GE499 GE500 GE511 GE512), fun _ => (by (with_reducible repeat (first | apply Kd.R_alloc | apply Kd.R_drewN | apply Kd.R_drew)); exact Kd.R_mono (Kd.R_far (p := ⟨gb499, 3, none⟩) (Kd.R_far (p := ⟨gb499, 2, none⟩) (Kd.R_far (p := ⟨gb499, 1, none⟩) (Kd.R_far (p := ⟨gb499, 0, none⟩) (Kd.R_types HO518.out BK499.out (by decide)) (fun _ hk => hk.2) (.int .i64 t501)) (fun _ hk => hk.2) (.int .i64 t502)) (fun _ hk => hk.2) (.bool t503)) (fun _ hk => hk.2) (.bool t504)) (fun _ hk => hk.1)), fun _ h1_ => absurd ((hon 6 zn).symm.trans h1_) (by decide), fun _ h1_ => absurd ((hon 9 zn).symm.trans h1_) (by decide), fun _ => (by (with_reducible repeat (first | apply Kd.R_alloc | apply Kd.R_drewN | apply Kd.R_drew)); exact Kd.R_mono (Kd.R_far (p := ⟨gb499, 3, none⟩) (Kd.R_far (p := ⟨gb499, 2, none⟩) (Kd.R_far (p := ⟨gb499, 1, none⟩) (Kd.R_far (p := ⟨gb499, 0, none⟩) (Kd.R_types HO527.out BK499.out (by decide)) (fun _ hk => hk.2) (.int .i64 t501)) (fun _ hk => hk.2) (.int .i64 t502)) (fun _ hk => hk.2) (.bool t503)) (fun _ hk => hk.2) (.bool t504)) (fun _ hk => hk.1)), fun _ => (zI4 HI0 NB0_499 NB0_500 NB0_511 NB0_512), fun _ => (by (with_reducible repeat (first | refine blk_drewN ?_ _ | refine blk_drew ?_ | refine blk_alloc ?_ _)); refine blk_put (cs := #[.int .i64 t501, .int .i64 t502, .bool t503, .bool false]) ?_ 3 _ rfl; (with_reducible repeat (first | refine blk_drewN ?_ _ | refine blk_drew ?_ | refine blk_alloc ?_ _)); refine blk_put (cs := #[.int .i64 t501, .int .i64 t502, .bool false, .bool false]) ?_ 2 _ rfl; (with_reducible repeat (first | refine blk_drewN ?_ _ | refine blk_drew ?_ | refine blk_alloc ?_ _)); refine blk_put (cs := #[.int .i64 t501, .int .i64 0, .bool false, .bool false]) ?_ 1 _ rfl; (with_reducible repeat (first | refine blk_drewN ?_ _ | refine blk_drew ?_ | refine blk_alloc ?_ _)); refine blk_put (cs := #[.int .i64 0, .int .i64 0, .bool false, .bool false]) ?_ 0 _ rfl; (with_reducible repeat (first | refine blk_drewN ?_ _ | refine blk_drew ?_ | refine blk_alloc ?_ _)); exact BK499.out), fun h0_ => absurd ((hoff 11 zn).symm.trans h0_) (by decide)⟩
   refine steps_cons ?_ ?_
   ·rintro b a w' ⟨v517, v526, ha, Q_BK499, Q_BK500, Q_BK511, Q_BK512, Q_HI0, Q_HK, Q_HB, Q_HO518, Q_HI0_e4, Q_HI0_e6, Q_HO527, Q_HI0_e9, Q_BK499_e10, Q_BK500_e11⟩ hb_ hon hoff
    refine ⟨_, rfl, fun K hK => ?_⟩
    have e3 : a.tmps[3]? = some (.pointer (some ⟨gb500, 0, none⟩)) := by rw [ha]; exact (putSel_off rfl).trans rfl
    have e21 : a.tmps[21]? = some (.agg #[.int .i64 t507, .int .i64 t508]) := by rw [ha]; exact putSel_on (e := (1, 21, .agg #[.int .i64 t507, .int .i64 t508])) 1 rfl rfl (hon 1 zn) rfl
    replace ha := zA ha
    have BK500 := zA (Q_BK500 hb_)
    have BK511 := zA Q_BK511
    have BK512 := zA Q_BK512
    have HK := zA Q_HK
    have HB := zA Q_HB
    have HO518 := zA (Q_HO518 (hon 3 zn))
    have HO527 := zA (Q_HO527 (hon 8 zn))
    have HI0 := zA (Q_HI0_e9 (hon 9 zn))
    have BK499 := zA (Q_BK499_e10 (hon 10 zn))
    have hs40 : w'.cell? ⟨gb500, 0, none⟩ = some (.int .i64 0) := (blk_cell BK500.out 0).trans rfl
    have hfs40 := blk_frozen BK500.out 0
    have hns40_0 := NB499_500.out
    have hns40_2 := NB511_500.out
    have hns40_3 := NB512_500.out
    have hms40_0 := NB500_499.out
    have hms40_2 := NB500_511.out
    have hms40_3 := NB500_512.out
    have hs41 : w'.cell? ⟨gb500, 1, none⟩ = some (.int .i64 0) := (blk_cell BK500.out 1).trans rfl
    have hfs41 := blk_frozen BK500.out 1
    have hns41_0 := NB499_500.out
    have hns41_2 := NB511_500.out
    have hns41_3 := NB512_500.out
    have hms41_0 := NB500_499.out
    have hms41_2 := NB500_511.out
    have hms41_3 := NB500_512.out
    refine skip_ (w1 := ?_) (by rfl) rfl ?_ ?_
    rotate_left
    ·go_simp
     rfl
    refine hK.out _ _ ⟨v517, v526, (by rw [ha.out]; exact putSel_none (v := undef) rfl), fun h0_ => absurd ((hon 10 zn).symm.trans h0_) (by decide), fun h0_ => absurd ((up_self b 11).symm.trans h0_) (by decide), (zD BK511 NB511_500), (zD BK512 NB512_500), fun h0_ => absurd ((hon 4 zn).symm.trans h0_) (by decide), (zk4 HK GW499 GW500 GW511 GW512), (zJ4 HB HI0 GE499 GE500 GE511 GE512), fun _ => (by (with_reducible repeat (first | apply Kd.R_alloc | apply Kd.R_drewN | apply Kd.R_drew)); exact Kd.R_mono (Kd.R_far (p := ⟨gb500, 1, none⟩) (Kd.R_far (p := ⟨gb500, 0, none⟩) (Kd.R_types HO518.out BK500.out (by decide)) (fun _ hk => hk.2) (.int .i64 t507)) (fun _ hk => hk.2) (.int .i64 t508)) (fun _ hk => hk.1)), fun _ h1_ => absurd ((hon 6 zn).symm.trans h1_) (by decide), fun _ h1_ => absurd ((hon 9 zn).symm.trans h1_) (by decide), fun _ => (by (with_reducible repeat (first | apply Kd.R_alloc | apply Kd.R_drewN | apply Kd.R_drew)); exact Kd.R_mono (Kd.R_far (p := ⟨gb500, 1, none⟩) (Kd.R_far (p := ⟨gb500, 0, none⟩) (Kd.R_types HO527.out BK500.out (by decide)) (fun _ hk => hk.2) (.int .i64 t507)) (fun _ hk => hk.2) (.int .i64 t508)) (fun _ hk => hk.1)), fun _ => (zI4 HI0 NB0_499 NB0_500 NB0_511 NB0_512), fun _ => (zD BK499 NB499_500), fun _ => (by (with_reducible repeat (first | refine blk_drewN ?_ _ | refine blk_drew ?_ | refine blk_alloc ?_ _)); refine blk_put (cs := #[.int .i64 t507, .int .i64 0]) ?_ 1 _ rfl; (with_reducible repeat (first | refine blk_drewN ?_ _ | refine blk_drew ?_ | refine blk_alloc ?_ _)); refine blk_put (cs := #[.int .i64 0, .int .i64 0]) ?_ 0 _ rfl; (with_reducible repeat (first | refine blk_drewN ?_ _ | refine blk_drew ?_ | refine blk_alloc ?_ _)); exact BK500.out)⟩
   refine steps_cons ?_ ?_
   ·rintro b a w' ⟨v517, v526, ha, Q_BK499, Q_BK500, Q_BK511, Q_BK512, Q_HI0, Q_HK, Q_HB, Q_HO518, Q_HI0_e4, Q_HI0_e6, Q_HO527, Q_HI0_e9, Q_BK499_e10, Q_BK500_e11⟩ hb_ hon hoff
    refine ⟨_, rfl, fun K hK => ?_⟩
    have e24 : a.tmps[24]? = some (.int .i64 t519) := by rw [ha]; exact putSel_on (e := (4, 24, .int .i64 t519)) 3 rfl rfl (hon 4 zn) rfl
    replace ha := zA ha
    have BK511 := zA Q_BK511
    have BK512 := zA Q_BK512
    have HK := zA Q_HK
    have HB := zA Q_HB
    have HO518 := zA (Q_HO518 (hon 3 zn))
    have HO527 := zA (Q_HO527 (hon 8 zn))
    have HI0 := zA (Q_HI0_e9 (hon 9 zn))
    have BK499 := zA (Q_BK499_e10 (hon 10 zn))
    have BK500 := zA (Q_BK500_e11 (hon 11 zn))
    refine value_ (w1 := w') (v := .int .i64 t519) (by rfl) rfl ?_ ?_
    ·go_simp
     (try simp only [i64_w])
     try rfl
    refine hK.out _ _ ⟨v517, v526, (by rw [ha.out]; exact putSel_upk 7 hb_ rfl rfl rfl), fun h0_ => absurd ((hon 10 zn).symm.trans h0_) (by decide), fun h0_ => absurd ((hon 11 zn).symm.trans h0_) (by decide), Q_BK511, Q_BK512, fun h0_ => absurd ((hon 4 zn).symm.trans h0_) (by decide), Q_HK, Q_HB, Q_HO518, fun _ h1_ => absurd ((hon 6 zn).symm.trans h1_) (by decide), fun _ h1_ => absurd ((hon 9 zn).symm.trans h1_) (by decide), Q_HO527, Q_HI0_e9, Q_BK499_e10, Q_BK500_e11⟩
   refine steps_cons ?_ ?_
   ·rintro b a w' ⟨v517, v526, ha, Q_BK499, Q_BK500, Q_BK511, Q_BK512, Q_HI0, Q_HK, Q_HB, Q_HO518, Q_HI0_e4, Q_HI0_e6, Q_HO527, Q_HI0_e9, Q_BK499_e10, Q_BK500_e11⟩ hb_ hon hoff
    refine ⟨_, rfl, fun K hK => ?_⟩
    have e26 : a.tmps[26]? = some (.int .i64 t522) := by rw [ha]; exact putSel_on (e := (6, 26, .int .i64 t522)) 4 rfl rfl (hon 6 zn) rfl
    replace ha := zA ha
    have BK511 := zA Q_BK511
    have BK512 := zA Q_BK512
    have HK := zA Q_HK
    have HB := zA Q_HB
    have HO518 := zA (Q_HO518 (hon 3 zn))
    have HO527 := zA (Q_HO527 (hon 8 zn))
    have HI0 := zA (Q_HI0_e9 (hon 9 zn))
    have BK499 := zA (Q_BK499_e10 (hon 10 zn))
    have BK500 := zA (Q_BK500_e11 (hon 11 zn))
    refine value_ (w1 := w') (v := .int .i64 t522) (by rfl) rfl ?_ ?_
    ·go_simp
     (try simp only [i64_w])
     try rfl
    refine hK.out _ _ ⟨v517, v526, (by rw [ha.out]; exact putSel_upk 8 hb_ rfl rfl rfl), fun h0_ => absurd ((hon 10 zn).symm.trans h0_) (by decide), fun h0_ => absurd ((hon 11 zn).symm.trans h0_) (by decide), Q_BK511, Q_BK512, fun h0_ => absurd ((hon 4 zn).symm.trans h0_) (by decide), Q_HK, Q_HB, Q_HO518, fun _ h1_ => absurd ((hon 6 zn).symm.trans h1_) (by decide), fun _ h1_ => absurd ((hon 9 zn).symm.trans h1_) (by decide), Q_HO527, Q_HI0_e9, Q_BK499_e10, Q_BK500_e11⟩
   refine steps_cons ?_ ?_
   ·rintro b a w' ⟨v517, v526, ha, Q_BK499, Q_BK500, Q_BK511, Q_BK512, Q_HI0, Q_HK, Q_HB, Q_HO518, Q_HI0_e4, Q_HI0_e6, Q_HO527, Q_HI0_e9, Q_BK499_e10, Q_BK500_e11⟩ hb_ hon hoff
    refine ⟨_, rfl, fun K hK => ?_⟩
    have e29 : a.tmps[29]? = some (.int .i64 t528) := by rw [ha]; exact putSel_on (e := (9, 29, .int .i64 t528)) 6 rfl rfl (hon 9 zn) rfl
    replace ha := zA ha
    have BK511 := zA Q_BK511
    have BK512 := zA Q_BK512
    have HK := zA Q_HK
    have HB := zA Q_HB
    have HO518 := zA (Q_HO518 (hon 3 zn))
    have HO527 := zA (Q_HO527 (hon 8 zn))
    have HI0 := zA (Q_HI0_e9 (hon 9 zn))
    have BK499 := zA (Q_BK499_e10 (hon 10 zn))
    have BK500 := zA (Q_BK500_e11 (hon 11 zn))
    refine value_ (w1 := w') (v := .int .i64 t528) (by rfl) rfl ?_ ?_
    ·go_simp
     (try simp only [i64_w])
     try rfl
    refine hK.out _ _ ⟨v517, v526, (by rw [ha.out]; exact putSel_upk 9 hb_ rfl rfl rfl), fun h0_ => absurd ((hon 10 zn).symm.trans h0_) (by decide), fun h0_ => absurd ((hon 11 zn).symm.trans h0_) (by decide), Q_BK511, Q_BK512, fun h0_ => absurd ((hon 4 zn).symm.trans h0_) (by decide), Q_HK, Q_HB, Q_HO518, fun _ h1_ => absurd ((hon 6 zn).symm.trans h1_) (by decide), fun _ h1_ => absurd ((hon 9 zn).symm.trans h1_) (by decide), Q_HO527, Q_HI0_e9, Q_BK499_e10, Q_BK500_e11⟩
   exact steps_nil
  rintro b a w41 hall ⟨v517, v526, ha, Q_BK499, Q_BK500, Q_BK511, Q_BK512, Q_HI0, Q_HK, Q_HB, Q_HO518, Q_HI0_e4, Q_HI0_e6, Q_HO527, Q_HI0_e9, Q_BK499_e10, Q_BK500_e11⟩
  clear BK499 BK500 BK511 BK512 HB HI0 HK
  have hb0_ := hall 0 zn
  have hb1_ := hall 1 zn
  have hb3_ := hall 3 zn
  have hb4_ := hall 4 zn
  have hb6_ := hall 6 zn
  have hb8_ := hall 8 zn
  have hb9_ := hall 9 zn
  have hb10_ := hall 10 zn
  have hb11_ := hall 11 zn
  have hb12_ := hall 12 zn
  have hb13_ := hall 13 zn
  have hb14_ := hall 14 zn
  subst ha
  simp only [putSel, hb0_, hb1_, hb3_, hb4_, hb6_, hb8_, hb9_, hb10_, hb11_, hb12_, hb13_, hb14_, if_true, Act.put, List.setIfInBounds_toArray, List.set_cons_zero, List.set_cons_succ]
  clear Q_BK499
  clear Q_BK500
  have BK511 := zA Q_BK511
  clear Q_BK511
  have BK512 := zA Q_BK512
  clear Q_BK512
  clear Q_HI0
  have HK := zA Q_HK
  clear Q_HK
  have HB := zA Q_HB
  clear Q_HB
  have HO518 := zA (Q_HO518 hb3_)
  clear Q_HO518
  clear Q_HI0_e4
  clear Q_HI0_e6
  have HO527 := zA (Q_HO527 hb8_)
  clear Q_HO527
  have HI0 := zA (Q_HI0_e9 hb9_)
  clear Q_HI0_e9
  have BK499 := zA (Q_BK499_e10 hb10_)
  clear Q_BK499_e10
  have BK500 := zA (Q_BK500_e11 hb11_)
  clear Q_BK500_e11
  clear hall hb0_ hb1_ hb3_ hb4_ hb6_ hb8_ hb9_ hb10_ hb11_ hb12_ hb13_ hb14_
  try go_wp2
  refine bodyPost_ret (results_list (rs := [.cell 2 28, .cell 3 30, .tmp 4, .tmp 5, .tmp 6]) rfl (by simp) (.cell gb499 28 #[.int .i64 t501, .int .i64 t502, .bool t503, .bool t504] (0, 0) _ rfl (zK BK499) Try.underlying28 rfl zn (.cell gb500 30 #[.int .i64 t507, .int .i64 t508] (0, 0) _ rfl (zK BK500) Try.underlying30 rfl zn (.tmp (.tmp (.tmp .nil)))))) rfl ?_
  exact ⟨zt, zJ4 HB HI0 GE499 GE500 GE511 GE512⟩
 ·replace c5 := Bool.eq_false_iff.mpr c5
  subst c5
  have H1 : ((spec_l1Cur_pick.f l0 t514 t515 6).bind fun bt531 => ((spec_arGood.f t501 t502 t503 t504).bind fun t534 => (if t534 = true then ((spec_l1Cur_one.f l0 bt531.2.1 bt531.2.2 2).bind fun bt535 => (if bt535.1 = true then ((spec_l1Most.f 2 t501).bind fun t538 => ((spec_l1Cur_pick.f l0 bt535.2.1 bt535.2.2 8).bind fun bt539 => ((spec_l1Cur_pick.f l0 bt539.2.1 bt539.2.2 8).bind fun bt542 => (some (t501, t502, t503, t504, t507, t508, bt539.1, bt542.1, t538, bt542.2.1, bt542.2.2))))) else ((spec_l1Cur_pick.f l0 bt535.2.1 bt535.2.2 8).bind fun bt545 => ((spec_l1Cur_pick.f l0 bt545.2.1 bt545.2.2 8).bind fun bt548 => (some (t501, t502, t503, t504, t507, t508, bt545.1, bt548.1, wrap64 (2 + bt531.1), bt548.2.1, bt548.2.2)))))) else ((spec_l1Cur_pick.f l0 bt531.2.1 bt531.2.2 8).bind fun bt551 => ((spec_l1Cur_pick.f l0 bt551.2.1 bt551.2.2 8).bind fun bt554 => (some (t501, t502, t503, t504, t507, t508, bt551.1, bt554.1, wrap64 (2 + bt531.1), bt554.2.1, bt554.2.2))))))) = some (q1, q2, q3, q4, q5, q6, q7, q8, q9, q10, q11) := by rw [if_neg (show ¬ (false = true) by decide)] at H; exact H
  clear H
  have H := H1
  clear H1
  obtain ⟨⟨t531, t532, t533⟩, A42, H⟩ := zM H
  try dsimp only at H
  obtain ⟨t534, A43, H⟩ := zM H
  try dsimp only at H
  by_cases c44 : t534 = true
  ·subst c44
   have H1 : ((spec_l1Cur_one.f l0 t532 t533 2).bind fun bt535 => (if bt535.1 = true then ((spec_l1Most.f 2 t501).bind fun t538 => ((spec_l1Cur_pick.f l0 bt535.2.1 bt535.2.2 8).bind fun bt539 => ((spec_l1Cur_pick.f l0 bt539.2.1 bt539.2.2 8).bind fun bt542 => (some (t501, t502, t503, t504, t507, t508, bt539.1, bt542.1, t538, bt542.2.1, bt542.2.2))))) else ((spec_l1Cur_pick.f l0 bt535.2.1 bt535.2.2 8).bind fun bt545 => ((spec_l1Cur_pick.f l0 bt545.2.1 bt545.2.2 8).bind fun bt548 => (some (t501, t502, t503, t504, t507, t508, bt545.1, bt548.1, wrap64 (2 + t531), bt548.2.1, bt548.2.2)))))) = some (q1, q2, q3, q4, q5, q6, q7, q8, q9, q10, q11) := by rw [if_pos rfl] at H; exact H
   clear H
   have H := H1
   clear H1
   obtain ⟨⟨t535, t536, t537⟩, A45, H⟩ := zM H
   try dsimp only at H
   by_cases c46 : t535 = true
   ·subst c46
    have H1 : ((spec_l1Most.f 2 t501).bind fun t538 => ((spec_l1Cur_pick.f l0 t536 t537 8).bind fun bt539 => ((spec_l1Cur_pick.f l0 bt539.2.1 bt539.2.2 8).bind fun bt542 => (some (t501, t502, t503, t504, t507, t508, bt539.1, bt542.1, t538, bt542.2.1, bt542.2.2))))) = some (q1, q2, q3, q4, q5, q6, q7, q8, q9, q10, q11) := by rw [if_pos rfl] at H; exact H
    clear H
    have H := H1
    clear H1
    obtain ⟨t538, A47, H⟩ := zM H
    try dsimp only at H
    obtain ⟨⟨t539, t540, t541⟩, A48, H⟩ := zM H
    try dsimp only at H
    obtain ⟨⟨t542, t543, t544⟩, A49, H⟩ := zM H
    try dsimp only at H
    simp only [Option.some.injEq, Prod.mk.injEq] at H
    obtain ⟨rfl, rfl, rfl, rfl, rfl, rfl, rfl, rfl, rfl, rfl, rfl⟩ := H
    go_enter Try.func59, Try.ntmps59
    try go_wp2_with (first | ((with_reducible refine gate_dst (N := 2) rfl ?_); refine box_event zr (N := 2) zr (cs := #[.int .i64 0, .int .i64 0, .bool false, .bool false]) (t := 28) zh ?_; intro gb499 hg w50 hbox hb; have GE499 := zA (zG hg (below_size (zB0 HB)) : w.heap.size ≤ gb499); replace HB := zA (below_step (zB0 HB) hb); have BK499 := zA (hbox); have GW499 := GE499; clear hb hbox hg) | ((with_reducible refine gate_dst (N := 3) rfl ?_); refine box_event zr (N := 3) zr (cs := #[.int .i64 0, .int .i64 0]) (t := 30) zh ?_; intro gb500 hg w51 hbox hb; have GE500 := zA (zG hg (below_size (zB1 HB GE499)) : w.heap.size ≤ gb500); have NB499_500 := zA ((by rw [hg]; exact Nat.ne_of_lt (blk_lt (zK BK499)) : gb499 ≠ gb500)); have NB500_499 := zA ((by rw [hg]; exact Nat.ne_of_gt (blk_lt (zK BK499)) : gb500 ≠ gb499)); have n0_ := zA (below_step (zB1 HB GE499) hb); have n1_ := zKb BK499 hb; clear HB; have HB := n0_; clear BK499; have BK499 := n1_; clear n0_ n1_; have BK500 := zA (hbox); have GW500 := GE500; clear hb hbox hg) | ((with_reducible refine gate_dst (N := 13) rfl ?_); refine box_event zr (N := 13) zr (cs := #[.slice A0 l0.length c0, .int .i64 0, .int .u64 0]) (t := 115) zh ?_; intro g hg wbx hbox hb; have n0_ := zA (below_step (zB2 HB GE499 GE500) hb); have HI0 := zA (show IsS115 w wbx g l0 0 0 from ⟨A0, c0, hbox, (by rw [hg]; exact (below_size (zB2 HB GE499 GE500))), HR0⟩); have NB0_499 := zA ((by rw [hg]; exact Nat.ne_of_gt (blk_lt (zK BK499)) : g ≠ gb499)); have NB499_0 := zA ((by rw [hg]; exact Nat.ne_of_lt (blk_lt (zK BK499)) : gb499 ≠ g)); have NB0_500 := zA ((by rw [hg]; exact Nat.ne_of_gt (blk_lt (zK BK500)) : g ≠ gb500)); have NB500_0 := zA ((by rw [hg]; exact Nat.ne_of_lt (blk_lt (zK BK500)) : gb500 ≠ g)); have n1_ := zKb BK499 hb; have n2_ := zKb BK500 hb; clear HB; have HB := n0_; clear BK499; have BK499 := n1_; clear BK500; have BK500 := n2_; clear n0_ n1_ n2_; have HK := zA (KeepBut.of_below HB.out g none); clear hb hbox hg) | ((with_reducible refine gate_callee (f := 98) rfl ?_); refine goesL_ (some 15) rfl rfl Try.func98 zn rfl #[.pointer (some ⟨g, 0, none⟩), .int .i64 6] rfl zm ?_; (with_reducible refine (spec_l1Cur_around.calls g l0 0 0 6 t501 t502 t503 t504 t505 t506 w _ ?side1 ?side2 A2.out).mono ?_); (case side1 => exact zI2 HI0 NB0_499 NB0_500); (case side2 => exact zJ2 HB HI0 GE499 GE500); rintro e w52 ⟨rfl, hi, hb, hk⟩; refine ⟨_, rfl, ?_⟩; replace BK499 := zX BK499 hk NB499_0; replace BK500 := zX BK500 hk NB500_0; replace HK := zA (KeepBut.trans (zk2 HK GW499 GW500) hk (.inl rfl)); replace HB := zA (hb); replace HI0 := zA (hi); (try clear hb); (try clear hb2); (try clear hk); (try clear hi)) | ((with_reducible refine gate_callee (f := 102) rfl ?_); refine goesL_ (some 17) rfl rfl Try.func102 zn rfl #[.pointer (some ⟨g, 0, none⟩)] rfl zm ?_; (with_reducible refine (spec_l1Cur_leaper.calls g l0 t505 t506 t507 t508 t509 t510 w _ ?side1 ?side2 A3.out).mono ?_); (case side1 => exact zI2 HI0 NB0_499 NB0_500); (case side2 => exact zJ2 HB HI0 GE499 GE500); rintro e w53 ⟨rfl, hi, hb, hk⟩; refine ⟨_, rfl, ?_⟩; replace BK499 := zX BK499 hk NB499_0; replace BK500 := zX BK500 hk NB500_0; replace HK := zA (KeepBut.trans (zk2 HK GW499 GW500) hk (.inl rfl)); replace HB := zA (hb); replace HI0 := zA (hi); (try clear hb); (try clear hb2); (try clear hk); (try clear hi)) | ((with_reducible refine gate_dst (N := 8) rfl ?_); refine box_event zr (N := 8) zr (cs := #[.int .i64 0, .int .i64 0, .bool false, .bool false]) (t := 28) zh ?_; intro gb511 hg w54 hbox hb; replace HB := zA (below_step (zJ2 HB HI0 GE499 GE500) hb); have BK511 := zA (hbox); have GW511 := zA ((zG hg (keep_size (w := w) (g := g) (row := none) (zk2 HK GW499 GW500)) : w.heap.size ≤ gb511)); have GE511 := zA ((Nat.le_trans HW0.out (zG hg (keep_size (w := w) (g := g) (row := none) (zk2 HK GW499 GW500)) : w.heap.size ≤ gb511) : w.heap.size ≤ gb511)); replace HK := zA (KeepBut.trans (zk2 HK GW499 GW500) (KeepBut.of_below hb g none) (.inl rfl)); have NB499_511 := zA (zNl hg BK499 : gb499 ≠ gb511); have NB511_499 := zA (zNg hg BK499 : gb511 ≠ gb499); replace BK499 := zKb BK499 hb; have NB500_511 := zA (zNl hg BK500 : gb500 ≠ gb511); have NB511_500 := zA (zNg hg BK500 : gb511 ≠ gb500); replace BK500 := zKb BK500 hb; have NB0_511 := zA ((zP hg (show IsS115 w _ g l0 t509 t510 from zI2 HI0 NB0_499 NB0_500) : g ≠ gb511)); have NB511_0 := zA ((zQ hg (show IsS115 w _ g l0 t509 t510 from zI2 HI0 NB0_499 NB0_500) : gb511 ≠ g)); replace HI0 := zA (IsS115.below (zI2 HI0 NB0_499 NB0_500) hb); clear hb hbox hg) | ((with_reducible refine gate_dst (N := 9) rfl ?_); refine box_event zr (N := 9) zr (cs := #[.int .i64 0, .int .i64 0]) (t := 30) zh ?_; intro gb512 hg w55 hbox hb; replace HB := zA (below_step (zJ3 HB HI0 GE499 GE500 GE511) hb); have BK512 := zA (hbox); have GW512 := zA ((zG hg (keep_size (w := w) (g := g) (row := none) (zk3 HK GW499 GW500 GW511)) : w.heap.size ≤ gb512)); have GE512 := zA ((Nat.le_trans HW0.out (zG hg (keep_size (w := w) (g := g) (row := none) (zk3 HK GW499 GW500 GW511)) : w.heap.size ≤ gb512) : w.heap.size ≤ gb512)); replace HK := zA (KeepBut.trans (zk3 HK GW499 GW500 GW511) (KeepBut.of_below hb g none) (.inl rfl)); have NB499_512 := zA (zNl hg BK499 : gb499 ≠ gb512); have NB512_499 := zA (zNg hg BK499 : gb512 ≠ gb499); replace BK499 := zKb BK499 hb; have NB500_512 := zA (zNl hg BK500 : gb500 ≠ gb512); have NB512_500 := zA (zNg hg BK500 : gb512 ≠ gb500); replace BK500 := zKb BK500 hb; have NB511_512 := zA (zNl hg BK511 : gb511 ≠ gb512); have NB512_511 := zA (zNg hg BK511 : gb512 ≠ gb511); replace BK511 := zKb BK511 hb; have NB0_512 := zA ((zP hg (show IsS115 w _ g l0 t509 t510 from zI3 HI0 NB0_499 NB0_500 NB0_511) : g ≠ gb512)); have NB512_0 := zA ((zQ hg (show IsS115 w _ g l0 t509 t510 from zI3 HI0 NB0_499 NB0_500 NB0_511) : gb512 ≠ g)); replace HI0 := zA (IsS115.below (zI3 HI0 NB0_499 NB0_500 NB0_511) hb); clear hb hbox hg; have hnb56 := NB511_499.out; have hnc56 := NB499_511.out; have hnb57 := NB511_500.out; have hnc57 := NB500_511.out; have hnb58 := NB511_512.out; have hnc58 := NB512_511.out; have hnb59 := NB511_0.out; have hnc59 := NB0_511.out; obtain ⟨z60_0, z60_1, z60_2, z60_3, y60_0, y60_1, y60_2, y60_3⟩ := zc4 BK511; have hnb61 := NB512_499.out; have hnc61 := NB499_512.out; have hnb62 := NB512_500.out; have hnc62 := NB500_512.out; have hnb63 := NB512_0.out; have hnc63 := NB0_512.out; obtain ⟨z64_0, z64_1, y64_0, y64_1⟩ := zc2 BK512) | ((with_reducible refine gate_callee (f := 99) rfl ?_); refine goesL_ (some 19) rfl rfl Try.func99 zn rfl #[.pointer (some ⟨g, 0, none⟩), .int .i64 12] rfl zm ?_; (with_reducible refine (spec_l1Cur_one.calls g l0 t509 t510 12 false t514 t515 w _ ?side1 ?side2 A4.out).mono ?_); (case side1 => exact zI4 HI0 NB0_499 NB0_500 NB0_511 NB0_512); (case side2 => exact zJ4 HB HI0 GE499 GE500 GE511 GE512); rintro e w65 ⟨rfl, hi, hb, hk⟩; refine ⟨_, rfl, ?_⟩; replace BK499 := zA (KeepBut.blk hk (g' := gb499) (o := .cells #[.int .i64 0, .int .i64 0, .bool false, .bool false] 28 (0, 0)) (by (with_reducible repeat (first | refine blk_drewN ?_ _ | refine blk_drew ?_ | refine blk_alloc ?_ _)); refine blk_far ?_ NB499_512.out _; (with_reducible repeat (first | refine blk_drewN ?_ _ | refine blk_drew ?_ | refine blk_alloc ?_ _)); refine blk_far ?_ NB499_512.out _; (with_reducible repeat (first | refine blk_drewN ?_ _ | refine blk_drew ?_ | refine blk_alloc ?_ _)); refine blk_far ?_ NB499_511.out _; (with_reducible repeat (first | refine blk_drewN ?_ _ | refine blk_drew ?_ | refine blk_alloc ?_ _)); refine blk_far ?_ NB499_511.out _; (with_reducible repeat (first | refine blk_drewN ?_ _ | refine blk_drew ?_ | refine blk_alloc ?_ _)); refine blk_far ?_ NB499_511.out _; (with_reducible repeat (first | refine blk_drewN ?_ _ | refine blk_drew ?_ | refine blk_alloc ?_ _)); refine blk_far ?_ NB499_511.out _; (with_reducible repeat (first | refine blk_drewN ?_ _ | refine blk_drew ?_ | refine blk_alloc ?_ _)); exact BK499.out) NB499_0.out (by simp)); replace BK500 := zA (KeepBut.blk hk (g' := gb500) (o := .cells #[.int .i64 0, .int .i64 0] 30 (0, 0)) (by (with_reducible repeat (first | refine blk_drewN ?_ _ | refine blk_drew ?_ | refine blk_alloc ?_ _)); refine blk_far ?_ NB500_512.out _; (with_reducible repeat (first | refine blk_drewN ?_ _ | refine blk_drew ?_ | refine blk_alloc ?_ _)); refine blk_far ?_ NB500_512.out _; (with_reducible repeat (first | refine blk_drewN ?_ _ | refine blk_drew ?_ | refine blk_alloc ?_ _)); refine blk_far ?_ NB500_511.out _; (with_reducible repeat (first | refine blk_drewN ?_ _ | refine blk_drew ?_ | refine blk_alloc ?_ _)); refine blk_far ?_ NB500_511.out _; (with_reducible repeat (first | refine blk_drewN ?_ _ | refine blk_drew ?_ | refine blk_alloc ?_ _)); refine blk_far ?_ NB500_511.out _; (with_reducible repeat (first | refine blk_drewN ?_ _ | refine blk_drew ?_ | refine blk_alloc ?_ _)); refine blk_far ?_ NB500_511.out _; (with_reducible repeat (first | refine blk_drewN ?_ _ | refine blk_drew ?_ | refine blk_alloc ?_ _)); exact BK500.out) NB500_0.out (by simp)); replace BK511 := zA (KeepBut.blk hk (g' := gb511) (o := .cells #[.int .i64 t501, .int .i64 t502, .bool t503, .bool t504] 28 (0, 0)) (by (with_reducible repeat (first | refine blk_drewN ?_ _ | refine blk_drew ?_ | refine blk_alloc ?_ _)); refine blk_far ?_ NB511_512.out _; (with_reducible repeat (first | refine blk_drewN ?_ _ | refine blk_drew ?_ | refine blk_alloc ?_ _)); refine blk_far ?_ NB511_512.out _; (with_reducible repeat (first | refine blk_drewN ?_ _ | refine blk_drew ?_ | refine blk_alloc ?_ _)); refine blk_put (cs := #[.int .i64 t501, .int .i64 t502, .bool t503, .bool false]) ?_ 3 _ rfl; (with_reducible repeat (first | refine blk_drewN ?_ _ | refine blk_drew ?_ | refine blk_alloc ?_ _)); refine blk_put (cs := #[.int .i64 t501, .int .i64 t502, .bool false, .bool false]) ?_ 2 _ rfl; (with_reducible repeat (first | refine blk_drewN ?_ _ | refine blk_drew ?_ | refine blk_alloc ?_ _)); refine blk_put (cs := #[.int .i64 t501, .int .i64 0, .bool false, .bool false]) ?_ 1 _ rfl; (with_reducible repeat (first | refine blk_drewN ?_ _ | refine blk_drew ?_ | refine blk_alloc ?_ _)); refine blk_put (cs := #[.int .i64 0, .int .i64 0, .bool false, .bool false]) ?_ 0 _ rfl; (with_reducible repeat (first | refine blk_drewN ?_ _ | refine blk_drew ?_ | refine blk_alloc ?_ _)); exact BK511.out) NB511_0.out (by simp)); replace BK512 := zA (KeepBut.blk hk (g' := gb512) (o := .cells #[.int .i64 t507, .int .i64 t508] 30 (0, 0)) (by (with_reducible repeat (first | refine blk_drewN ?_ _ | refine blk_drew ?_ | refine blk_alloc ?_ _)); refine blk_put (cs := #[.int .i64 t507, .int .i64 0]) ?_ 1 _ rfl; (with_reducible repeat (first | refine blk_drewN ?_ _ | refine blk_drew ?_ | refine blk_alloc ?_ _)); refine blk_put (cs := #[.int .i64 0, .int .i64 0]) ?_ 0 _ rfl; (with_reducible repeat (first | refine blk_drewN ?_ _ | refine blk_drew ?_ | refine blk_alloc ?_ _)); refine blk_far ?_ NB512_511.out _; (with_reducible repeat (first | refine blk_drewN ?_ _ | refine blk_drew ?_ | refine blk_alloc ?_ _)); refine blk_far ?_ NB512_511.out _; (with_reducible repeat (first | refine blk_drewN ?_ _ | refine blk_drew ?_ | refine blk_alloc ?_ _)); refine blk_far ?_ NB512_511.out _; (with_reducible repeat (first | refine blk_drewN ?_ _ | refine blk_drew ?_ | refine blk_alloc ?_ _)); refine blk_far ?_ NB512_511.out _; (with_reducible repeat (first | refine blk_drewN ?_ _ | refine blk_drew ?_ | refine blk_alloc ?_ _)); exact BK512.out) NB512_0.out (by simp)); replace HK := zA (KeepBut.trans (zk4 HK GW499 GW500 GW511 GW512) hk (.inl rfl)); replace HB := zA (hb); replace HI0 := zA (hi); (try clear hb); (try clear hb2); (try clear hk); (try clear hi)) | ((with_reducible refine gate_callee (f := 104) rfl ?_); refine goesL_ (some 31) rfl rfl Try.func104 zn rfl #[.pointer (some ⟨g, 0, none⟩), .int .i64 6] rfl zm ?_; (with_reducible refine (spec_l1Cur_pick.calls g l0 t514 t515 6 t531 t532 t533 w _ ?side1 ?side2 A42.out).mono ?_); (case side1 => exact zI4 HI0 NB0_499 NB0_500 NB0_511 NB0_512); (case side2 => exact zJ4 HB HI0 GE499 GE500 GE511 GE512); rintro e w66 ⟨rfl, hi, hb, hk⟩; refine ⟨_, rfl, ?_⟩; replace BK499 := zX BK499 hk NB499_0; replace BK500 := zX BK500 hk NB500_0; replace BK511 := zX BK511 hk NB511_0; replace BK512 := zX BK512 hk NB512_0; replace HK := zA (KeepBut.trans (zk4 HK GW499 GW500 GW511 GW512) hk (.inl rfl)); replace HB := zA (hb); replace HI0 := zA (hi); (try clear hb); (try clear hb2); (try clear hk); (try clear hi); obtain ⟨z67_0, z67_1, z67_2, z67_3, y67_0, y67_1, y67_2, y67_3⟩ := zc4 BK511) | ((with_reducible refine gate_callee (f := 105) rfl ?_); refine goesL_ (some 34) rfl rfl Try.func105 zn rfl #[.agg #[.int .i64 t501, .int .i64 t502, .bool t503, .bool t504]] rfl zm ?_; (with_reducible refine (spec_arGood.calls t501 t502 t503 t504 true _ A43.out).mono ?_); rintro e w68 ⟨rfl, hb⟩; refine ⟨_, rfl, ?_⟩; replace BK499 := zKb BK499 hb; replace BK500 := zKb BK500 hb; replace BK511 := zKb BK511 hb; replace BK512 := zKb BK512 hb; replace HK := zA (KeepBut.trans (zk4 HK GW499 GW500 GW511 GW512) (KeepBut.of_below hb g none) (.inl rfl)); replace HB := zA (below_step (zJ4 HB HI0 GE499 GE500 GE511 GE512) hb); replace HI0 := zA (IsS115.below (zI4 HI0 NB0_499 NB0_500 NB0_511 NB0_512) hb); (try clear hb); (try clear hb2); (try clear hk); (try clear hi)) | (go_at_call 99; (with_reducible refine (spec_l1Cur_one.calls g l0 t532 t533 2 true t536 t537 w _ ?side1 ?side2 A45.out).mono ?_); (case side1 => exact zI4 HI0 NB0_499 NB0_500 NB0_511 NB0_512); (case side2 => exact zJ4 HB HI0 GE499 GE500 GE511 GE512); rintro e w69 ⟨rfl, hi, hb, hk⟩; replace BK499 := zX BK499 hk NB499_0; replace BK500 := zX BK500 hk NB500_0; replace BK511 := zX BK511 hk NB511_0; replace BK512 := zX BK512 hk NB512_0; replace HK := zA (KeepBut.trans (zk4 HK GW499 GW500 GW511 GW512) hk (.inl rfl)); replace HB := zA (hb); replace HI0 := zA (hi); (try clear hb); (try clear hb2); (try clear hk); (try clear hi); obtain ⟨z70_0, z70_1, z70_2, z70_3, y70_0, y70_1, y70_2, y70_3⟩ := zc4 BK511) | ((with_reducible refine gate_callee (f := 106) rfl ?_); refine goesL_ (some 41) rfl rfl Try.func106 zn rfl #[.int .i64 2, .int .i64 t501] rfl zm ?_; (with_reducible refine (spec_l1Most.calls 2 t501 t538 _ A47.out).mono ?_); rintro e w' ⟨rfl, ⟨nd, rfl⟩⟩; refine ⟨_, rfl, ?_⟩; (try (rw [drewN_self w69]; generalize hq_ : World.drewN w69 _ = w69; have n0_ : Aside0 (w69.heap[gb499]? = some (.cells #[.int .i64 0, .int .i64 0, .bool false, .bool false] 28 (0, 0))) := ⟨by rw [← hq_]; exact (zK BK499)⟩; have n1_ : Aside0 (w69.heap[gb500]? = some (.cells #[.int .i64 0, .int .i64 0] 30 (0, 0))) := ⟨by rw [← hq_]; exact (zK BK500)⟩; have n2_ : Aside0 (w69.heap[gb511]? = some (.cells #[.int .i64 t501, .int .i64 t502, .bool t503, .bool t504] 28 (0, 0))) := ⟨by rw [← hq_]; exact (zK BK511)⟩; have n3_ : Aside0 (w69.heap[gb512]? = some (.cells #[.int .i64 t507, .int .i64 t508] 30 (0, 0))) := ⟨by rw [← hq_]; exact (zK BK512)⟩; have n4_ : Aside0 (IsS115 w w69 g l0 t536 t537) := ⟨by rw [← hq_]; exact (zI4 HI0 NB0_499 NB0_500 NB0_511 NB0_512)⟩; have n5_ : Aside0 (KeepBut w w69 g none) := ⟨by rw [← hq_]; exact (zk4 HK GW499 GW500 GW511 GW512)⟩; have n6_ : Aside0 (Below w.heap.size w w69) := ⟨by rw [← hq_]; exact (zJ4 HB HI0 GE499 GE500 GE511 GE512)⟩; clear BK499 BK500 BK511 BK512 HI0 HK HB hq_; have BK499 := n0_; have BK500 := n1_; have BK511 := n2_; have BK512 := n3_; have HI0 := n4_; have HK := n5_; have HB := n6_; clear n0_ n1_ n2_ n3_ n4_ n5_ n6_))))
    replace BK499 := zA (blk_drew BK499.out)
    replace BK500 := zA (blk_drew BK500.out)
    replace BK511 := zA (blk_drew BK511.out)
    replace BK512 := zA (blk_drew BK512.out)
    replace HI0 := zA (IsS115.drew HI0.out)
    replace HK := zA (keep_drew HK.out)
    replace HB := zA (below_drew1 HB.out)
    refine start_ (n := 12) (S := fun w' => w'.cell? ⟨gb511, 0, none⟩ = some (.int .i64 t501) ∧ w'.cell? ⟨gb511, 1, none⟩ = some (.int .i64 t502) ∧ w'.cell? ⟨gb511, 2, none⟩ = some (.bool t503) ∧ w'.cell? ⟨gb511, 3, none⟩ = some (.bool t504) ∧ w'.cell? ⟨gb512, 0, none⟩ = some (.int .i64 t507) ∧ w'.cell? ⟨gb512, 1, none⟩ = some (.int .i64 t508)) (ds := []) #[false, false, false, false, false, false, false, false, false, false, false, false] zn rfl rfl ⟨(blk_cell BK511.out 0).trans rfl, (blk_cell BK511.out 1).trans rfl, (blk_cell BK511.out 2).trans rfl, (blk_cell BK511.out 3).trans rfl, (blk_cell BK512.out 0).trans rfl, (blk_cell BK512.out 1).trans rfl⟩ (fun hHeld => ?_); refine with_tabW spec_DrawTwoSteps.tab8 spec_DrawTwoSteps.bits8 (fun HT_ HW_ => ?_)
    generalize w69.drew = w71 at BK499 BK500 BK511 BK512 HI0 HK HB hHeld ⊢
    refine zq HT_ (i := 2) (N := some 44) ?_
    refine zq HT_ (i := 4) (N := some 46) ?_
    refine zq HT_ (i := 6) (N := some 48) ?_
    refine zx6 HT_ HW_ hHeld (i := 0) (N := some 42) ?_
    refine zx6 HT_ HW_ hHeld (i := 1) (N := some 43) ?_
    refine one_ (i := 3) (N := some 45) #[true, true, true, true, true, false, true, false, false, false, false, false] rfl rfl (one_of HT_.out zn) (by decide) (fun K hK => ?_)
    refine goes_ Try.func104 zn rfl #[.pointer (some ⟨g, 0, none⟩), .int .i64 8] (by rfl) rfl rfl zm ?_
    with_reducible refine (spec_l1Cur_pick.calls g l0 t536 t537 8 t539 t540 t541 w _ ?side1 ?side2 A48.out).mono ?_
    (case side1 => exact zI4 HI0 NB0_499 NB0_500 NB0_511 NB0_512)
    (case side2 => exact zJ4 HB HI0 GE499 GE500 GE511 GE512)
    rintro e w72 ⟨rfl, hi, hb, hk⟩
    refine ⟨_, rfl, ?_⟩
    replace BK499 := zX BK499 hk NB499_0
    replace BK500 := zX BK500 hk NB500_0
    replace BK511 := zX BK511 hk NB511_0
    replace BK512 := zX BK512 hk NB512_0
    replace HK := zA (KeepBut.trans (zk4 HK GW499 GW500 GW511 GW512) hk (.inl rfl))
    replace HB := zA (hb)
    replace HI0 := zA (hi)
    (try clear hb); (try clear hb2); (try clear hk); (try clear hi)
    refine hK.out _ _ ⟨(blk_cell BK511.out 0).trans rfl, (blk_cell BK511.out 1).trans rfl, (blk_cell BK511.out 2).trans rfl, (blk_cell BK511.out 3).trans rfl, (blk_cell BK512.out 0).trans rfl, (blk_cell BK512.out 1).trans rfl⟩ (fun hHeld => ?_)
    clear hK K
    refine norm_ (a' := ?_) ?_ ?_
    rotate_left
    ·show Act.put _ (some 45) _ = _
     simp only [Act.put, List.setIfInBounds_toArray, List.set_cons_zero, List.set_cons_succ, i64_w, i32_w]
     rfl
    refine one_ (i := 5) (N := some 47) #[true, true, true, true, true, true, true, false, false, false, false, false] rfl rfl (one_of HT_.out zn) (by decide) (fun K hK => ?_)
    refine goes_ Try.func104 zn rfl #[.pointer (some ⟨g, 0, none⟩), .int .i64 8] (by rfl) rfl rfl zm ?_
    with_reducible refine (spec_l1Cur_pick.calls g l0 t540 t541 8 t542 t543 t544 w _ ?side1 ?side2 A49.out).mono ?_
    (case side1 => exact zI4 HI0 NB0_499 NB0_500 NB0_511 NB0_512)
    (case side2 => exact zJ4 HB HI0 GE499 GE500 GE511 GE512)
    rintro e w73 ⟨rfl, hi, hb, hk⟩
    refine ⟨_, rfl, ?_⟩
    replace BK499 := zX BK499 hk NB499_0
    replace BK500 := zX BK500 hk NB500_0
    replace BK511 := zX BK511 hk NB511_0
    replace BK512 := zX BK512 hk NB512_0
    replace HK := zA (KeepBut.trans (zk4 HK GW499 GW500 GW511 GW512) hk (.inl rfl))
    replace HB := zA (hb)
    replace HI0 := zA (hi)
    (try clear hb); (try clear hb2); (try clear hk); (try clear hi)
    refine hK.out _ _ ⟨(blk_cell BK511.out 0).trans rfl, (blk_cell BK511.out 1).trans rfl, (blk_cell BK511.out 2).trans rfl, (blk_cell BK511.out 3).trans rfl, (blk_cell BK512.out 0).trans rfl, (blk_cell BK512.out 1).trans rfl⟩ (fun hHeld => ?_)
    clear hK K
    refine norm_ (a' := ?_) ?_ ?_
    rotate_left
    ·show Act.put _ (some 47) _ = _
     simp only [Act.put, List.setIfInBounds_toArray, List.set_cons_zero, List.set_cons_succ, i64_w, i32_w]
     rfl
    refine one_ (i := 7) (N := none) #[true, true, true, true, true, true, true, true, false, false, false, false] rfl rfl (one_of HT_.out zn) (by decide) (fun K hK => ?_)
    have hs74 : w73.cell? ⟨gb499, 0, none⟩ = some (.int .i64 0) := (blk_cell BK499.out 0).trans rfl
    have hfs74 := blk_frozen BK499.out 0
    have hns74_1 := NB500_499.out
    have hns74_2 := NB511_499.out
    have hns74_3 := NB512_499.out
    have hms74_1 := NB499_500.out
    have hms74_2 := NB499_511.out
    have hms74_3 := NB499_512.out
    have hs75 : w73.cell? ⟨gb499, 1, none⟩ = some (.int .i64 0) := (blk_cell BK499.out 1).trans rfl
    have hfs75 := blk_frozen BK499.out 1
    have hns75_1 := NB500_499.out
    have hns75_2 := NB511_499.out
    have hns75_3 := NB512_499.out
    have hms75_1 := NB499_500.out
    have hms75_2 := NB499_511.out
    have hms75_3 := NB499_512.out
    have hs76 : w73.cell? ⟨gb499, 2, none⟩ = some (.bool false) := (blk_cell BK499.out 2).trans rfl
    have hfs76 := blk_frozen BK499.out 2
    have hns76_1 := NB500_499.out
    have hns76_2 := NB511_499.out
    have hns76_3 := NB512_499.out
    have hms76_1 := NB499_500.out
    have hms76_2 := NB499_511.out
    have hms76_3 := NB499_512.out
    have hs77 : w73.cell? ⟨gb499, 3, none⟩ = some (.bool false) := (blk_cell BK499.out 3).trans rfl
    have hfs77 := blk_frozen BK499.out 3
    have hns77_1 := NB500_499.out
    have hns77_2 := NB511_499.out
    have hns77_3 := NB512_499.out
    have hms77_1 := NB499_500.out
    have hms77_2 := NB499_511.out
    have hms77_3 := NB499_512.out
    refine skip_ (w1 := ?_) (by rfl) rfl ?_ ?_
    rotate_left
    ·go_simp
     rfl
    refine hK.out _ _ ⟨((cell_far (p := ⟨gb499, _, none⟩) NB511_499.out _).trans (((cell_far (p := ⟨gb499, _, none⟩) NB511_499.out _).trans (((cell_far (p := ⟨gb499, _, none⟩) NB511_499.out _).trans (((cell_far (p := ⟨gb499, _, none⟩) NB511_499.out _).trans (hHeld.1)))))))), ((cell_far (p := ⟨gb499, _, none⟩) NB511_499.out _).trans (((cell_far (p := ⟨gb499, _, none⟩) NB511_499.out _).trans (((cell_far (p := ⟨gb499, _, none⟩) NB511_499.out _).trans (((cell_far (p := ⟨gb499, _, none⟩) NB511_499.out _).trans (hHeld.2.1)))))))), ((cell_far (p := ⟨gb499, _, none⟩) NB511_499.out _).trans (((cell_far (p := ⟨gb499, _, none⟩) NB511_499.out _).trans (((cell_far (p := ⟨gb499, _, none⟩) NB511_499.out _).trans (((cell_far (p := ⟨gb499, _, none⟩) NB511_499.out _).trans (hHeld.2.2.1)))))))), ((cell_far (p := ⟨gb499, _, none⟩) NB511_499.out _).trans (((cell_far (p := ⟨gb499, _, none⟩) NB511_499.out _).trans (((cell_far (p := ⟨gb499, _, none⟩) NB511_499.out _).trans (((cell_far (p := ⟨gb499, _, none⟩) NB511_499.out _).trans (hHeld.2.2.2.1)))))))), ((cell_far (p := ⟨gb499, _, none⟩) NB512_499.out _).trans (((cell_far (p := ⟨gb499, _, none⟩) NB512_499.out _).trans (((cell_far (p := ⟨gb499, _, none⟩) NB512_499.out _).trans (((cell_far (p := ⟨gb499, _, none⟩) NB512_499.out _).trans (hHeld.2.2.2.2.1)))))))), ((cell_far (p := ⟨gb499, _, none⟩) NB512_499.out _).trans (((cell_far (p := ⟨gb499, _, none⟩) NB512_499.out _).trans (((cell_far (p := ⟨gb499, _, none⟩) NB512_499.out _).trans (((cell_far (p := ⟨gb499, _, none⟩) NB512_499.out _).trans (hHeld.2.2.2.2.2))))))))⟩ (fun hHeld => ?_)
    clear hK K
    refine one_ (i := 8) (N := none) #[true, true, true, true, true, true, true, true, true, false, false, false] rfl rfl (one_of HT_.out zn) (by decide) (fun K hK => ?_)
    have hs78 : w73.cell? ⟨gb500, 0, none⟩ = some (.int .i64 0) := (blk_cell BK500.out 0).trans rfl
    have hfs78 := blk_frozen BK500.out 0
    have hns78_0 := NB499_500.out
    have hns78_2 := NB511_500.out
    have hns78_3 := NB512_500.out
    have hms78_0 := NB500_499.out
    have hms78_2 := NB500_511.out
    have hms78_3 := NB500_512.out
    have hs79 : w73.cell? ⟨gb500, 1, none⟩ = some (.int .i64 0) := (blk_cell BK500.out 1).trans rfl
    have hfs79 := blk_frozen BK500.out 1
    have hns79_0 := NB499_500.out
    have hns79_2 := NB511_500.out
    have hns79_3 := NB512_500.out
    have hms79_0 := NB500_499.out
    have hms79_2 := NB500_511.out
    have hms79_3 := NB500_512.out
    refine skip_ (w1 := ?_) (by rfl) rfl ?_ ?_
    rotate_left
    ·go_simp
     rfl
    refine hK.out _ _ ⟨((cell_far (p := ⟨gb500, _, none⟩) NB511_500.out _).trans (((cell_far (p := ⟨gb500, _, none⟩) NB511_500.out _).trans (hHeld.1)))), ((cell_far (p := ⟨gb500, _, none⟩) NB511_500.out _).trans (((cell_far (p := ⟨gb500, _, none⟩) NB511_500.out _).trans (hHeld.2.1)))), ((cell_far (p := ⟨gb500, _, none⟩) NB511_500.out _).trans (((cell_far (p := ⟨gb500, _, none⟩) NB511_500.out _).trans (hHeld.2.2.1)))), ((cell_far (p := ⟨gb500, _, none⟩) NB511_500.out _).trans (((cell_far (p := ⟨gb500, _, none⟩) NB511_500.out _).trans (hHeld.2.2.2.1)))), ((cell_far (p := ⟨gb500, _, none⟩) NB512_500.out _).trans (((cell_far (p := ⟨gb500, _, none⟩) NB512_500.out _).trans (hHeld.2.2.2.2.1)))), ((cell_far (p := ⟨gb500, _, none⟩) NB512_500.out _).trans (((cell_far (p := ⟨gb500, _, none⟩) NB512_500.out _).trans (hHeld.2.2.2.2.2))))⟩ (fun hHeld => ?_)
    clear hK K
    refine zq HT_ (i := 9) (N := some 4) ?_
    refine zq HT_ (i := 10) (N := some 5) ?_
    refine zq HT_ (i := 11) (N := some 6) ?_
    refine done_ (done_of HT_.out zn) ?_
    try go_wp2
    refine bodyPost_ret (results_list (rs := [.cell 2 28, .cell 3 30, .tmp 4, .tmp 5, .tmp 6]) rfl (by simp) (.cell gb499 28 #[.int .i64 t501, .int .i64 t502, .bool t503, .bool t504] (0, 0) _ rfl (by (with_reducible repeat (first | refine blk_drewN ?_ _ | refine blk_drew ?_ | refine blk_alloc ?_ _)); refine blk_far ?_ NB499_500.out _; (with_reducible repeat (first | refine blk_drewN ?_ _ | refine blk_drew ?_ | refine blk_alloc ?_ _)); refine blk_far ?_ NB499_500.out _; (with_reducible repeat (first | refine blk_drewN ?_ _ | refine blk_drew ?_ | refine blk_alloc ?_ _)); refine blk_put (cs := #[.int .i64 t501, .int .i64 t502, .bool t503, .bool false]) ?_ 3 _ rfl; (with_reducible repeat (first | refine blk_drewN ?_ _ | refine blk_drew ?_ | refine blk_alloc ?_ _)); refine blk_put (cs := #[.int .i64 t501, .int .i64 t502, .bool false, .bool false]) ?_ 2 _ rfl; (with_reducible repeat (first | refine blk_drewN ?_ _ | refine blk_drew ?_ | refine blk_alloc ?_ _)); refine blk_put (cs := #[.int .i64 t501, .int .i64 0, .bool false, .bool false]) ?_ 1 _ rfl; (with_reducible repeat (first | refine blk_drewN ?_ _ | refine blk_drew ?_ | refine blk_alloc ?_ _)); refine blk_put (cs := #[.int .i64 0, .int .i64 0, .bool false, .bool false]) ?_ 0 _ rfl; (with_reducible repeat (first | refine blk_drewN ?_ _ | refine blk_drew ?_ | refine blk_alloc ?_ _)); exact BK499.out) Try.underlying28 rfl zn (.cell gb500 30 #[.int .i64 t507, .int .i64 t508] (0, 0) _ rfl (by (with_reducible repeat (first | refine blk_drewN ?_ _ | refine blk_drew ?_ | refine blk_alloc ?_ _)); refine blk_put (cs := #[.int .i64 t507, .int .i64 0]) ?_ 1 _ rfl; (with_reducible repeat (first | refine blk_drewN ?_ _ | refine blk_drew ?_ | refine blk_alloc ?_ _)); refine blk_put (cs := #[.int .i64 0, .int .i64 0]) ?_ 0 _ rfl; (with_reducible repeat (first | refine blk_drewN ?_ _ | refine blk_drew ?_ | refine blk_alloc ?_ _)); refine blk_far ?_ NB500_499.out _; (with_reducible repeat (first | refine blk_drewN ?_ _ | refine blk_drew ?_ | refine blk_alloc ?_ _)); refine blk_far ?_ NB500_499.out _; (with_reducible repeat (first | refine blk_drewN ?_ _ | refine blk_drew ?_ | refine blk_alloc ?_ _)); refine blk_far ?_ NB500_499.out _; (with_reducible repeat (first | refine blk_drewN ?_ _ | refine blk_drew ?_ | refine blk_alloc ?_ _)); refine blk_far ?_ NB500_499.out _; (with_reducible repeat (first | refine blk_drewN ?_ _ | refine blk_drew ?_ | refine blk_alloc ?_ _)); exact BK500.out) Try.underlying30 rfl zn (.tmp (.tmp (.tmp .nil)))))) rfl ?_
    exact ⟨zt, zJ4 HB HI0 GE499 GE500 GE511 GE512⟩
   ·replace c46 := Bool.eq_false_iff.mpr c46
    subst c46
    have H1 : ((spec_l1Cur_pick.f l0 t536 t537 8).bind fun bt545 => ((spec_l1Cur_pick.f l0 bt545.2.1 bt545.2.2 8).bind fun bt548 => (some (t501, t502, t503, t504, t507, t508, bt545.1, bt548.1, wrap64 (2 + t531), bt548.2.1, bt548.2.2)))) = some (q1, q2, q3, q4, q5, q6, q7, q8, q9, q10, q11) := by rw [if_neg (show ¬ (false = true) by decide)] at H; exact H
    clear H
    have H := H1
    clear H1
    obtain ⟨⟨t545, t546, t547⟩, A80, H⟩ := zM H
    try dsimp only at H
    obtain ⟨⟨t548, t549, t550⟩, A81, H⟩ := zM H
    try dsimp only at H
    simp only [Option.some.injEq, Prod.mk.injEq] at H
    obtain ⟨rfl, rfl, rfl, rfl, rfl, rfl, rfl, rfl, rfl, rfl, rfl⟩ := H
    go_enter Try.func59, Try.ntmps59
    try go_wp2_with (first | ((with_reducible refine gate_dst (N := 2) rfl ?_); refine box_event zr (N := 2) zr (cs := #[.int .i64 0, .int .i64 0, .bool false, .bool false]) (t := 28) zh ?_; intro gb499 hg w82 hbox hb; have GE499 := zA (zG hg (below_size (zB0 HB)) : w.heap.size ≤ gb499); replace HB := zA (below_step (zB0 HB) hb); have BK499 := zA (hbox); have GW499 := GE499; clear hb hbox hg) | ((with_reducible refine gate_dst (N := 3) rfl ?_); refine box_event zr (N := 3) zr (cs := #[.int .i64 0, .int .i64 0]) (t := 30) zh ?_; intro gb500 hg w83 hbox hb; have GE500 := zA (zG hg (below_size (zB1 HB GE499)) : w.heap.size ≤ gb500); have NB499_500 := zA ((by rw [hg]; exact Nat.ne_of_lt (blk_lt (zK BK499)) : gb499 ≠ gb500)); have NB500_499 := zA ((by rw [hg]; exact Nat.ne_of_gt (blk_lt (zK BK499)) : gb500 ≠ gb499)); have n0_ := zA (below_step (zB1 HB GE499) hb); have n1_ := zKb BK499 hb; clear HB; have HB := n0_; clear BK499; have BK499 := n1_; clear n0_ n1_; have BK500 := zA (hbox); have GW500 := GE500; clear hb hbox hg) | ((with_reducible refine gate_dst (N := 13) rfl ?_); refine box_event zr (N := 13) zr (cs := #[.slice A0 l0.length c0, .int .i64 0, .int .u64 0]) (t := 115) zh ?_; intro g hg wbx hbox hb; have n0_ := zA (below_step (zB2 HB GE499 GE500) hb); have HI0 := zA (show IsS115 w wbx g l0 0 0 from ⟨A0, c0, hbox, (by rw [hg]; exact (below_size (zB2 HB GE499 GE500))), HR0⟩); have NB0_499 := zA ((by rw [hg]; exact Nat.ne_of_gt (blk_lt (zK BK499)) : g ≠ gb499)); have NB499_0 := zA ((by rw [hg]; exact Nat.ne_of_lt (blk_lt (zK BK499)) : gb499 ≠ g)); have NB0_500 := zA ((by rw [hg]; exact Nat.ne_of_gt (blk_lt (zK BK500)) : g ≠ gb500)); have NB500_0 := zA ((by rw [hg]; exact Nat.ne_of_lt (blk_lt (zK BK500)) : gb500 ≠ g)); have n1_ := zKb BK499 hb; have n2_ := zKb BK500 hb; clear HB; have HB := n0_; clear BK499; have BK499 := n1_; clear BK500; have BK500 := n2_; clear n0_ n1_ n2_; have HK := zA (KeepBut.of_below HB.out g none); clear hb hbox hg) | ((with_reducible refine gate_callee (f := 98) rfl ?_); refine goesL_ (some 15) rfl rfl Try.func98 zn rfl #[.pointer (some ⟨g, 0, none⟩), .int .i64 6] rfl zm ?_; (with_reducible refine (spec_l1Cur_around.calls g l0 0 0 6 t501 t502 t503 t504 t505 t506 w _ ?side1 ?side2 A2.out).mono ?_); (case side1 => exact zI2 HI0 NB0_499 NB0_500); (case side2 => exact zJ2 HB HI0 GE499 GE500); rintro e w84 ⟨rfl, hi, hb, hk⟩; refine ⟨_, rfl, ?_⟩; replace BK499 := zX BK499 hk NB499_0; replace BK500 := zX BK500 hk NB500_0; replace HK := zA (KeepBut.trans (zk2 HK GW499 GW500) hk (.inl rfl)); replace HB := zA (hb); replace HI0 := zA (hi); (try clear hb); (try clear hb2); (try clear hk); (try clear hi)) | ((with_reducible refine gate_callee (f := 102) rfl ?_); refine goesL_ (some 17) rfl rfl Try.func102 zn rfl #[.pointer (some ⟨g, 0, none⟩)] rfl zm ?_; (with_reducible refine (spec_l1Cur_leaper.calls g l0 t505 t506 t507 t508 t509 t510 w _ ?side1 ?side2 A3.out).mono ?_); (case side1 => exact zI2 HI0 NB0_499 NB0_500); (case side2 => exact zJ2 HB HI0 GE499 GE500); rintro e w85 ⟨rfl, hi, hb, hk⟩; refine ⟨_, rfl, ?_⟩; replace BK499 := zX BK499 hk NB499_0; replace BK500 := zX BK500 hk NB500_0; replace HK := zA (KeepBut.trans (zk2 HK GW499 GW500) hk (.inl rfl)); replace HB := zA (hb); replace HI0 := zA (hi); (try clear hb); (try clear hb2); (try clear hk); (try clear hi)) | ((with_reducible refine gate_dst (N := 8) rfl ?_); refine box_event zr (N := 8) zr (cs := #[.int .i64 0, .int .i64 0, .bool false, .bool false]) (t := 28) zh ?_; intro gb511 hg w86 hbox hb; replace HB := zA (below_step (zJ2 HB HI0 GE499 GE500) hb); have BK511 := zA (hbox); have GW511 := zA ((zG hg (keep_size (w := w) (g := g) (row := none) (zk2 HK GW499 GW500)) : w.heap.size ≤ gb511)); have GE511 := zA ((Nat.le_trans HW0.out (zG hg (keep_size (w := w) (g := g) (row := none) (zk2 HK GW499 GW500)) : w.heap.size ≤ gb511) : w.heap.size ≤ gb511)); replace HK := zA (KeepBut.trans (zk2 HK GW499 GW500) (KeepBut.of_below hb g none) (.inl rfl)); have NB499_511 := zA (zNl hg BK499 : gb499 ≠ gb511); have NB511_499 := zA (zNg hg BK499 : gb511 ≠ gb499); replace BK499 := zKb BK499 hb; have NB500_511 := zA (zNl hg BK500 : gb500 ≠ gb511); have NB511_500 := zA (zNg hg BK500 : gb511 ≠ gb500); replace BK500 := zKb BK500 hb; have NB0_511 := zA ((zP hg (show IsS115 w _ g l0 t509 t510 from zI2 HI0 NB0_499 NB0_500) : g ≠ gb511)); have NB511_0 := zA ((zQ hg (show IsS115 w _ g l0 t509 t510 from zI2 HI0 NB0_499 NB0_500) : gb511 ≠ g)); replace HI0 := zA (IsS115.below (zI2 HI0 NB0_499 NB0_500) hb); clear hb hbox hg) | ((with_reducible refine gate_dst (N := 9) rfl ?_); refine box_event zr (N := 9) zr (cs := #[.int .i64 0, .int .i64 0]) (t := 30) zh ?_; intro gb512 hg w87 hbox hb; replace HB := zA (below_step (zJ3 HB HI0 GE499 GE500 GE511) hb); have BK512 := zA (hbox); have GW512 := zA ((zG hg (keep_size (w := w) (g := g) (row := none) (zk3 HK GW499 GW500 GW511)) : w.heap.size ≤ gb512)); have GE512 := zA ((Nat.le_trans HW0.out (zG hg (keep_size (w := w) (g := g) (row := none) (zk3 HK GW499 GW500 GW511)) : w.heap.size ≤ gb512) : w.heap.size ≤ gb512)); replace HK := zA (KeepBut.trans (zk3 HK GW499 GW500 GW511) (KeepBut.of_below hb g none) (.inl rfl)); have NB499_512 := zA (zNl hg BK499 : gb499 ≠ gb512); have NB512_499 := zA (zNg hg BK499 : gb512 ≠ gb499); replace BK499 := zKb BK499 hb; have NB500_512 := zA (zNl hg BK500 : gb500 ≠ gb512); have NB512_500 := zA (zNg hg BK500 : gb512 ≠ gb500); replace BK500 := zKb BK500 hb; have NB511_512 := zA (zNl hg BK511 : gb511 ≠ gb512); have NB512_511 := zA (zNg hg BK511 : gb512 ≠ gb511); replace BK511 := zKb BK511 hb; have NB0_512 := zA ((zP hg (show IsS115 w _ g l0 t509 t510 from zI3 HI0 NB0_499 NB0_500 NB0_511) : g ≠ gb512)); have NB512_0 := zA ((zQ hg (show IsS115 w _ g l0 t509 t510 from zI3 HI0 NB0_499 NB0_500 NB0_511) : gb512 ≠ g)); replace HI0 := zA (IsS115.below (zI3 HI0 NB0_499 NB0_500 NB0_511) hb); clear hb hbox hg; have hnb88 := NB511_499.out; have hnc88 := NB499_511.out; have hnb89 := NB511_500.out; have hnc89 := NB500_511.out; have hnb90 := NB511_512.out; have hnc90 := NB512_511.out; have hnb91 := NB511_0.out; have hnc91 := NB0_511.out; obtain ⟨z92_0, z92_1, z92_2, z92_3, y92_0, y92_1, y92_2, y92_3⟩ := zc4 BK511; have hnb93 := NB512_499.out; have hnc93 := NB499_512.out; have hnb94 := NB512_500.out; have hnc94 := NB500_512.out; have hnb95 := NB512_0.out; have hnc95 := NB0_512.out; obtain ⟨z96_0, z96_1, y96_0, y96_1⟩ := zc2 BK512) | ((with_reducible refine gate_callee (f := 99) rfl ?_); refine goesL_ (some 19) rfl rfl Try.func99 zn rfl #[.pointer (some ⟨g, 0, none⟩), .int .i64 12] rfl zm ?_; (with_reducible refine (spec_l1Cur_one.calls g l0 t509 t510 12 false t514 t515 w _ ?side1 ?side2 A4.out).mono ?_); (case side1 => exact zI4 HI0 NB0_499 NB0_500 NB0_511 NB0_512); (case side2 => exact zJ4 HB HI0 GE499 GE500 GE511 GE512); rintro e w97 ⟨rfl, hi, hb, hk⟩; refine ⟨_, rfl, ?_⟩; replace BK499 := zA (KeepBut.blk hk (g' := gb499) (o := .cells #[.int .i64 0, .int .i64 0, .bool false, .bool false] 28 (0, 0)) (by (with_reducible repeat (first | refine blk_drewN ?_ _ | refine blk_drew ?_ | refine blk_alloc ?_ _)); refine blk_far ?_ NB499_512.out _; (with_reducible repeat (first | refine blk_drewN ?_ _ | refine blk_drew ?_ | refine blk_alloc ?_ _)); refine blk_far ?_ NB499_512.out _; (with_reducible repeat (first | refine blk_drewN ?_ _ | refine blk_drew ?_ | refine blk_alloc ?_ _)); refine blk_far ?_ NB499_511.out _; (with_reducible repeat (first | refine blk_drewN ?_ _ | refine blk_drew ?_ | refine blk_alloc ?_ _)); refine blk_far ?_ NB499_511.out _; (with_reducible repeat (first | refine blk_drewN ?_ _ | refine blk_drew ?_ | refine blk_alloc ?_ _)); refine blk_far ?_ NB499_511.out _; (with_reducible repeat (first | refine blk_drewN ?_ _ | refine blk_drew ?_ | refine blk_alloc ?_ _)); refine blk_far ?_ NB499_511.out _; (with_reducible repeat (first | refine blk_drewN ?_ _ | refine blk_drew ?_ | refine blk_alloc ?_ _)); exact BK499.out) NB499_0.out (by simp)); replace BK500 := zA (KeepBut.blk hk (g' := gb500) (o := .cells #[.int .i64 0, .int .i64 0] 30 (0, 0)) (by (with_reducible repeat (first | refine blk_drewN ?_ _ | refine blk_drew ?_ | refine blk_alloc ?_ _)); refine blk_far ?_ NB500_512.out _; (with_reducible repeat (first | refine blk_drewN ?_ _ | refine blk_drew ?_ | refine blk_alloc ?_ _)); refine blk_far ?_ NB500_512.out _; (with_reducible repeat (first | refine blk_drewN ?_ _ | refine blk_drew ?_ | refine blk_alloc ?_ _)); refine blk_far ?_ NB500_511.out _; (with_reducible repeat (first | refine blk_drewN ?_ _ | refine blk_drew ?_ | refine blk_alloc ?_ _)); refine blk_far ?_ NB500_511.out _; (with_reducible repeat (first | refine blk_drewN ?_ _ | refine blk_drew ?_ | refine blk_alloc ?_ _)); refine blk_far ?_ NB500_511.out _; (with_reducible repeat (first | refine blk_drewN ?_ _ | refine blk_drew ?_ | refine blk_alloc ?_ _)); refine blk_far ?_ NB500_511.out _; (with_reducible repeat (first | refine blk_drewN ?_ _ | refine blk_drew ?_ | refine blk_alloc ?_ _)); exact BK500.out) NB500_0.out (by simp)); replace BK511 := zA (KeepBut.blk hk (g' := gb511) (o := .cells #[.int .i64 t501, .int .i64 t502, .bool t503, .bool t504] 28 (0, 0)) (by (with_reducible repeat (first | refine blk_drewN ?_ _ | refine blk_drew ?_ | refine blk_alloc ?_ _)); refine blk_far ?_ NB511_512.out _; (with_reducible repeat (first | refine blk_drewN ?_ _ | refine blk_drew ?_ | refine blk_alloc ?_ _)); refine blk_far ?_ NB511_512.out _; (with_reducible repeat (first | refine blk_drewN ?_ _ | refine blk_drew ?_ | refine blk_alloc ?_ _)); refine blk_put (cs := #[.int .i64 t501, .int .i64 t502, .bool t503, .bool false]) ?_ 3 _ rfl; (with_reducible repeat (first | refine blk_drewN ?_ _ | refine blk_drew ?_ | refine blk_alloc ?_ _)); refine blk_put (cs := #[.int .i64 t501, .int .i64 t502, .bool false, .bool false]) ?_ 2 _ rfl; (with_reducible repeat (first | refine blk_drewN ?_ _ | refine blk_drew ?_ | refine blk_alloc ?_ _)); refine blk_put (cs := #[.int .i64 t501, .int .i64 0, .bool false, .bool false]) ?_ 1 _ rfl; (with_reducible repeat (first | refine blk_drewN ?_ _ | refine blk_drew ?_ | refine blk_alloc ?_ _)); refine blk_put (cs := #[.int .i64 0, .int .i64 0, .bool false, .bool false]) ?_ 0 _ rfl; (with_reducible repeat (first | refine blk_drewN ?_ _ | refine blk_drew ?_ | refine blk_alloc ?_ _)); exact BK511.out) NB511_0.out (by simp)); replace BK512 := zA (KeepBut.blk hk (g' := gb512) (o := .cells #[.int .i64 t507, .int .i64 t508] 30 (0, 0)) (by (with_reducible repeat (first | refine blk_drewN ?_ _ | refine blk_drew ?_ | refine blk_alloc ?_ _)); refine blk_put (cs := #[.int .i64 t507, .int .i64 0]) ?_ 1 _ rfl; (with_reducible repeat (first | refine blk_drewN ?_ _ | refine blk_drew ?_ | refine blk_alloc ?_ _)); refine blk_put (cs := #[.int .i64 0, .int .i64 0]) ?_ 0 _ rfl; (with_reducible repeat (first | refine blk_drewN ?_ _ | refine blk_drew ?_ | refine blk_alloc ?_ _)); refine blk_far ?_ NB512_511.out _; (with_reducible repeat (first | refine blk_drewN ?_ _ | refine blk_drew ?_ | refine blk_alloc ?_ _)); refine blk_far ?_ NB512_511.out _; (with_reducible repeat (first | refine blk_drewN ?_ _ | refine blk_drew ?_ | refine blk_alloc ?_ _)); refine blk_far ?_ NB512_511.out _; (with_reducible repeat (first | refine blk_drewN ?_ _ | refine blk_drew ?_ | refine blk_alloc ?_ _)); refine blk_far ?_ NB512_511.out _; (with_reducible repeat (first | refine blk_drewN ?_ _ | refine blk_drew ?_ | refine blk_alloc ?_ _)); exact BK512.out) NB512_0.out (by simp)); replace HK := zA (KeepBut.trans (zk4 HK GW499 GW500 GW511 GW512) hk (.inl rfl)); replace HB := zA (hb); replace HI0 := zA (hi); (try clear hb); (try clear hb2); (try clear hk); (try clear hi)) | ((with_reducible refine gate_callee (f := 104) rfl ?_); refine goesL_ (some 31) rfl rfl Try.func104 zn rfl #[.pointer (some ⟨g, 0, none⟩), .int .i64 6] rfl zm ?_; (with_reducible refine (spec_l1Cur_pick.calls g l0 t514 t515 6 t531 t532 t533 w _ ?side1 ?side2 A42.out).mono ?_); (case side1 => exact zI4 HI0 NB0_499 NB0_500 NB0_511 NB0_512); (case side2 => exact zJ4 HB HI0 GE499 GE500 GE511 GE512); rintro e w98 ⟨rfl, hi, hb, hk⟩; refine ⟨_, rfl, ?_⟩; replace BK499 := zX BK499 hk NB499_0; replace BK500 := zX BK500 hk NB500_0; replace BK511 := zX BK511 hk NB511_0; replace BK512 := zX BK512 hk NB512_0; replace HK := zA (KeepBut.trans (zk4 HK GW499 GW500 GW511 GW512) hk (.inl rfl)); replace HB := zA (hb); replace HI0 := zA (hi); (try clear hb); (try clear hb2); (try clear hk); (try clear hi); obtain ⟨z99_0, z99_1, z99_2, z99_3, y99_0, y99_1, y99_2, y99_3⟩ := zc4 BK511) | ((with_reducible refine gate_callee (f := 105) rfl ?_); refine goesL_ (some 34) rfl rfl Try.func105 zn rfl #[.agg #[.int .i64 t501, .int .i64 t502, .bool t503, .bool t504]] rfl zm ?_; (with_reducible refine (spec_arGood.calls t501 t502 t503 t504 true _ A43.out).mono ?_); rintro e w100 ⟨rfl, hb⟩; refine ⟨_, rfl, ?_⟩; replace BK499 := zKb BK499 hb; replace BK500 := zKb BK500 hb; replace BK511 := zKb BK511 hb; replace BK512 := zKb BK512 hb; replace HK := zA (KeepBut.trans (zk4 HK GW499 GW500 GW511 GW512) (KeepBut.of_below hb g none) (.inl rfl)); replace HB := zA (below_step (zJ4 HB HI0 GE499 GE500 GE511 GE512) hb); replace HI0 := zA (IsS115.below (zI4 HI0 NB0_499 NB0_500 NB0_511 NB0_512) hb); (try clear hb); (try clear hb2); (try clear hk); (try clear hi)) | (go_at_call 99; (with_reducible refine (spec_l1Cur_one.calls g l0 t532 t533 2 false t536 t537 w _ ?side1 ?side2 A45.out).mono ?_); (case side1 => exact zI4 HI0 NB0_499 NB0_500 NB0_511 NB0_512); (case side2 => exact zJ4 HB HI0 GE499 GE500 GE511 GE512); rintro e w101 ⟨rfl, hi, hb, hk⟩; replace BK499 := zX BK499 hk NB499_0; replace BK500 := zX BK500 hk NB500_0; replace BK511 := zX BK511 hk NB511_0; replace BK512 := zX BK512 hk NB512_0; replace HK := zA (KeepBut.trans (zk4 HK GW499 GW500 GW511 GW512) hk (.inl rfl)); replace HB := zA (hb); replace HI0 := zA (hi); (try clear hb); (try clear hb2); (try clear hk); (try clear hi)))
    replace BK499 := zA (blk_drew BK499.out)
    replace BK500 := zA (blk_drew BK500.out)
    replace BK511 := zA (blk_drew BK511.out)
    replace BK512 := zA (blk_drew BK512.out)
    replace HI0 := zA (IsS115.drew HI0.out)
    replace HK := zA (keep_drew HK.out)
    replace HB := zA (below_drew1 HB.out)
    refine start_ (n := 12) (S := fun w' => w'.cell? ⟨gb511, 0, none⟩ = some (.int .i64 t501) ∧ w'.cell? ⟨gb511, 1, none⟩ = some (.int .i64 t502) ∧ w'.cell? ⟨gb511, 2, none⟩ = some (.bool t503) ∧ w'.cell? ⟨gb511, 3, none⟩ = some (.bool t504) ∧ w'.cell? ⟨gb512, 0, none⟩ = some (.int .i64 t507) ∧ w'.cell? ⟨gb512, 1, none⟩ = some (.int .i64 t508)) (ds := []) #[false, false, false, false, false, false, false, false, false, false, false, false] zn rfl rfl ⟨(blk_cell BK511.out 0).trans rfl, (blk_cell BK511.out 1).trans rfl, (blk_cell BK511.out 2).trans rfl, (blk_cell BK511.out 3).trans rfl, (blk_cell BK512.out 0).trans rfl, (blk_cell BK512.out 1).trans rfl⟩ (fun hHeld => ?_); refine with_tabW spec_DrawTwoSteps.tab8 spec_DrawTwoSteps.bits8 (fun HT_ HW_ => ?_)
    generalize w101.drew = w102 at BK499 BK500 BK511 BK512 HI0 HK HB hHeld ⊢
    refine zq HT_ (i := 2) (N := some 44) ?_
    refine zq HT_ (i := 4) (N := some 46) ?_
    refine zq HT_ (i := 6) (N := some 48) ?_
    refine zx6 HT_ HW_ hHeld (i := 0) (N := some 42) ?_
    refine zx6 HT_ HW_ hHeld (i := 1) (N := some 43) ?_
    refine one_ (i := 3) (N := some 45) #[true, true, true, true, true, false, true, false, false, false, false, false] rfl rfl (one_of HT_.out zn) (by decide) (fun K hK => ?_)
    refine goes_ Try.func104 zn rfl #[.pointer (some ⟨g, 0, none⟩), .int .i64 8] (by rfl) rfl rfl zm ?_
    with_reducible refine (spec_l1Cur_pick.calls g l0 t536 t537 8 t545 t546 t547 w _ ?side1 ?side2 A80.out).mono ?_
    (case side1 => exact zI4 HI0 NB0_499 NB0_500 NB0_511 NB0_512)
    (case side2 => exact zJ4 HB HI0 GE499 GE500 GE511 GE512)
    rintro e w103 ⟨rfl, hi, hb, hk⟩
    refine ⟨_, rfl, ?_⟩
    replace BK499 := zX BK499 hk NB499_0
    replace BK500 := zX BK500 hk NB500_0
    replace BK511 := zX BK511 hk NB511_0
    replace BK512 := zX BK512 hk NB512_0
    replace HK := zA (KeepBut.trans (zk4 HK GW499 GW500 GW511 GW512) hk (.inl rfl))
    replace HB := zA (hb)
    replace HI0 := zA (hi)
    (try clear hb); (try clear hb2); (try clear hk); (try clear hi)
    refine hK.out _ _ ⟨(blk_cell BK511.out 0).trans rfl, (blk_cell BK511.out 1).trans rfl, (blk_cell BK511.out 2).trans rfl, (blk_cell BK511.out 3).trans rfl, (blk_cell BK512.out 0).trans rfl, (blk_cell BK512.out 1).trans rfl⟩ (fun hHeld => ?_)
    clear hK K
    refine norm_ (a' := ?_) ?_ ?_
    rotate_left
    ·show Act.put _ (some 45) _ = _
     simp only [Act.put, List.setIfInBounds_toArray, List.set_cons_zero, List.set_cons_succ, i64_w, i32_w]
     rfl
    refine one_ (i := 5) (N := some 47) #[true, true, true, true, true, true, true, false, false, false, false, false] rfl rfl (one_of HT_.out zn) (by decide) (fun K hK => ?_)
    refine goes_ Try.func104 zn rfl #[.pointer (some ⟨g, 0, none⟩), .int .i64 8] (by rfl) rfl rfl zm ?_
    with_reducible refine (spec_l1Cur_pick.calls g l0 t546 t547 8 t548 t549 t550 w _ ?side1 ?side2 A81.out).mono ?_
    (case side1 => exact zI4 HI0 NB0_499 NB0_500 NB0_511 NB0_512)
    (case side2 => exact zJ4 HB HI0 GE499 GE500 GE511 GE512)
    rintro e w104 ⟨rfl, hi, hb, hk⟩
    refine ⟨_, rfl, ?_⟩
    replace BK499 := zX BK499 hk NB499_0
    replace BK500 := zX BK500 hk NB500_0
    replace BK511 := zX BK511 hk NB511_0
    replace BK512 := zX BK512 hk NB512_0
    replace HK := zA (KeepBut.trans (zk4 HK GW499 GW500 GW511 GW512) hk (.inl rfl))
    replace HB := zA (hb)
    replace HI0 := zA (hi)
    (try clear hb); (try clear hb2); (try clear hk); (try clear hi)
    refine hK.out _ _ ⟨(blk_cell BK511.out 0).trans rfl, (blk_cell BK511.out 1).trans rfl, (blk_cell BK511.out 2).trans rfl, (blk_cell BK511.out 3).trans rfl, (blk_cell BK512.out 0).trans rfl, (blk_cell BK512.out 1).trans rfl⟩ (fun hHeld => ?_)
    clear hK K
    refine norm_ (a' := ?_) ?_ ?_
    rotate_left
    ·show Act.put _ (some 47) _ = _
     simp only [Act.put, List.setIfInBounds_toArray, List.set_cons_zero, List.set_cons_succ, i64_w, i32_w]
     rfl
    refine one_ (i := 7) (N := none) #[true, true, true, true, true, true, true, true, false, false, false, false] rfl rfl (one_of HT_.out zn) (by decide) (fun K hK => ?_)
    have hs105 : w104.cell? ⟨gb499, 0, none⟩ = some (.int .i64 0) := (blk_cell BK499.out 0).trans rfl
    have hfs105 := blk_frozen BK499.out 0
    have hns105_1 := NB500_499.out
    have hns105_2 := NB511_499.out
    have hns105_3 := NB512_499.out
    have hms105_1 := NB499_500.out
    have hms105_2 := NB499_511.out
    have hms105_3 := NB499_512.out
    have hs106 : w104.cell? ⟨gb499, 1, none⟩ = some (.int .i64 0) := (blk_cell BK499.out 1).trans rfl
    have hfs106 := blk_frozen BK499.out 1
    have hns106_1 := NB500_499.out
    have hns106_2 := NB511_499.out
    have hns106_3 := NB512_499.out
    have hms106_1 := NB499_500.out
    have hms106_2 := NB499_511.out
    have hms106_3 := NB499_512.out
    have hs107 : w104.cell? ⟨gb499, 2, none⟩ = some (.bool false) := (blk_cell BK499.out 2).trans rfl
    have hfs107 := blk_frozen BK499.out 2
    have hns107_1 := NB500_499.out
    have hns107_2 := NB511_499.out
    have hns107_3 := NB512_499.out
    have hms107_1 := NB499_500.out
    have hms107_2 := NB499_511.out
    have hms107_3 := NB499_512.out
    have hs108 : w104.cell? ⟨gb499, 3, none⟩ = some (.bool false) := (blk_cell BK499.out 3).trans rfl
    have hfs108 := blk_frozen BK499.out 3
    have hns108_1 := NB500_499.out
    have hns108_2 := NB511_499.out
    have hns108_3 := NB512_499.out
    have hms108_1 := NB499_500.out
    have hms108_2 := NB499_511.out
    have hms108_3 := NB499_512.out
    refine skip_ (w1 := ?_) (by rfl) rfl ?_ ?_
    rotate_left
    ·go_simp
     rfl
    refine hK.out _ _ ⟨((cell_far (p := ⟨gb499, _, none⟩) NB511_499.out _).trans (((cell_far (p := ⟨gb499, _, none⟩) NB511_499.out _).trans (((cell_far (p := ⟨gb499, _, none⟩) NB511_499.out _).trans (((cell_far (p := ⟨gb499, _, none⟩) NB511_499.out _).trans (hHeld.1)))))))), ((cell_far (p := ⟨gb499, _, none⟩) NB511_499.out _).trans (((cell_far (p := ⟨gb499, _, none⟩) NB511_499.out _).trans (((cell_far (p := ⟨gb499, _, none⟩) NB511_499.out _).trans (((cell_far (p := ⟨gb499, _, none⟩) NB511_499.out _).trans (hHeld.2.1)))))))), ((cell_far (p := ⟨gb499, _, none⟩) NB511_499.out _).trans (((cell_far (p := ⟨gb499, _, none⟩) NB511_499.out _).trans (((cell_far (p := ⟨gb499, _, none⟩) NB511_499.out _).trans (((cell_far (p := ⟨gb499, _, none⟩) NB511_499.out _).trans (hHeld.2.2.1)))))))), ((cell_far (p := ⟨gb499, _, none⟩) NB511_499.out _).trans (((cell_far (p := ⟨gb499, _, none⟩) NB511_499.out _).trans (((cell_far (p := ⟨gb499, _, none⟩) NB511_499.out _).trans (((cell_far (p := ⟨gb499, _, none⟩) NB511_499.out _).trans (hHeld.2.2.2.1)))))))), ((cell_far (p := ⟨gb499, _, none⟩) NB512_499.out _).trans (((cell_far (p := ⟨gb499, _, none⟩) NB512_499.out _).trans (((cell_far (p := ⟨gb499, _, none⟩) NB512_499.out _).trans (((cell_far (p := ⟨gb499, _, none⟩) NB512_499.out _).trans (hHeld.2.2.2.2.1)))))))), ((cell_far (p := ⟨gb499, _, none⟩) NB512_499.out _).trans (((cell_far (p := ⟨gb499, _, none⟩) NB512_499.out _).trans (((cell_far (p := ⟨gb499, _, none⟩) NB512_499.out _).trans (((cell_far (p := ⟨gb499, _, none⟩) NB512_499.out _).trans (hHeld.2.2.2.2.2))))))))⟩ (fun hHeld => ?_)
    clear hK K
    refine one_ (i := 8) (N := none) #[true, true, true, true, true, true, true, true, true, false, false, false] rfl rfl (one_of HT_.out zn) (by decide) (fun K hK => ?_)
    have hs109 : w104.cell? ⟨gb500, 0, none⟩ = some (.int .i64 0) := (blk_cell BK500.out 0).trans rfl
    have hfs109 := blk_frozen BK500.out 0
    have hns109_0 := NB499_500.out
    have hns109_2 := NB511_500.out
    have hns109_3 := NB512_500.out
    have hms109_0 := NB500_499.out
    have hms109_2 := NB500_511.out
    have hms109_3 := NB500_512.out
    have hs110 : w104.cell? ⟨gb500, 1, none⟩ = some (.int .i64 0) := (blk_cell BK500.out 1).trans rfl
    have hfs110 := blk_frozen BK500.out 1
    have hns110_0 := NB499_500.out
    have hns110_2 := NB511_500.out
    have hns110_3 := NB512_500.out
    have hms110_0 := NB500_499.out
    have hms110_2 := NB500_511.out
    have hms110_3 := NB500_512.out
    refine skip_ (w1 := ?_) (by rfl) rfl ?_ ?_
    rotate_left
    ·go_simp
     rfl
    refine hK.out _ _ ⟨((cell_far (p := ⟨gb500, _, none⟩) NB511_500.out _).trans (((cell_far (p := ⟨gb500, _, none⟩) NB511_500.out _).trans (hHeld.1)))), ((cell_far (p := ⟨gb500, _, none⟩) NB511_500.out _).trans (((cell_far (p := ⟨gb500, _, none⟩) NB511_500.out _).trans (hHeld.2.1)))), ((cell_far (p := ⟨gb500, _, none⟩) NB511_500.out _).trans (((cell_far (p := ⟨gb500, _, none⟩) NB511_500.out _).trans (hHeld.2.2.1)))), ((cell_far (p := ⟨gb500, _, none⟩) NB511_500.out _).trans (((cell_far (p := ⟨gb500, _, none⟩) NB511_500.out _).trans (hHeld.2.2.2.1)))), ((cell_far (p := ⟨gb500, _, none⟩) NB512_500.out _).trans (((cell_far (p := ⟨gb500, _, none⟩) NB512_500.out _).trans (hHeld.2.2.2.2.1)))), ((cell_far (p := ⟨gb500, _, none⟩) NB512_500.out _).trans (((cell_far (p := ⟨gb500, _, none⟩) NB512_500.out _).trans (hHeld.2.2.2.2.2))))⟩ (fun hHeld => ?_)
    clear hK K
    refine zq HT_ (i := 9) (N := some 4) ?_
    refine zq HT_ (i := 10) (N := some 5) ?_
    refine zq HT_ (i := 11) (N := some 6) ?_
    refine done_ (done_of HT_.out zn) ?_
    try go_wp2
    refine bodyPost_ret (results_list (rs := [.cell 2 28, .cell 3 30, .tmp 4, .tmp 5, .tmp 6]) rfl (by simp) (.cell gb499 28 #[.int .i64 t501, .int .i64 t502, .bool t503, .bool t504] (0, 0) _ rfl (by (with_reducible repeat (first | refine blk_drewN ?_ _ | refine blk_drew ?_ | refine blk_alloc ?_ _)); refine blk_far ?_ NB499_500.out _; (with_reducible repeat (first | refine blk_drewN ?_ _ | refine blk_drew ?_ | refine blk_alloc ?_ _)); refine blk_far ?_ NB499_500.out _; (with_reducible repeat (first | refine blk_drewN ?_ _ | refine blk_drew ?_ | refine blk_alloc ?_ _)); refine blk_put (cs := #[.int .i64 t501, .int .i64 t502, .bool t503, .bool false]) ?_ 3 _ rfl; (with_reducible repeat (first | refine blk_drewN ?_ _ | refine blk_drew ?_ | refine blk_alloc ?_ _)); refine blk_put (cs := #[.int .i64 t501, .int .i64 t502, .bool false, .bool false]) ?_ 2 _ rfl; (with_reducible repeat (first | refine blk_drewN ?_ _ | refine blk_drew ?_ | refine blk_alloc ?_ _)); refine blk_put (cs := #[.int .i64 t501, .int .i64 0, .bool false, .bool false]) ?_ 1 _ rfl; (with_reducible repeat (first | refine blk_drewN ?_ _ | refine blk_drew ?_ | refine blk_alloc ?_ _)); refine blk_put (cs := #[.int .i64 0, .int .i64 0, .bool false, .bool false]) ?_ 0 _ rfl; (with_reducible repeat (first | refine blk_drewN ?_ _ | refine blk_drew ?_ | refine blk_alloc ?_ _)); exact BK499.out) Try.underlying28 rfl zn (.cell gb500 30 #[.int .i64 t507, .int .i64 t508] (0, 0) _ rfl (by (with_reducible repeat (first | refine blk_drewN ?_ _ | refine blk_drew ?_ | refine blk_alloc ?_ _)); refine blk_put (cs := #[.int .i64 t507, .int .i64 0]) ?_ 1 _ rfl; (with_reducible repeat (first | refine blk_drewN ?_ _ | refine blk_drew ?_ | refine blk_alloc ?_ _)); refine blk_put (cs := #[.int .i64 0, .int .i64 0]) ?_ 0 _ rfl; (with_reducible repeat (first | refine blk_drewN ?_ _ | refine blk_drew ?_ | refine blk_alloc ?_ _)); refine blk_far ?_ NB500_499.out _; (with_reducible repeat (first | refine blk_drewN ?_ _ | refine blk_drew ?_ | refine blk_alloc ?_ _)); refine blk_far ?_ NB500_499.out _; (with_reducible repeat (first | refine blk_drewN ?_ _ | refine blk_drew ?_ | refine blk_alloc ?_ _)); refine blk_far ?_ NB500_499.out _; (with_reducible repeat (first | refine blk_drewN ?_ _ | refine blk_drew ?_ | refine blk_alloc ?_ _)); refine blk_far ?_ NB500_499.out _; (with_reducible repeat (first | refine blk_drewN ?_ _ | refine blk_drew ?_ | refine blk_alloc ?_ _)); exact BK500.out) Try.underlying30 rfl zn (.tmp (.tmp (.tmp .nil)))))) rfl ?_
    exact ⟨zt, zJ4 HB HI0 GE499 GE500 GE511 GE512⟩
  ·replace c44 := Bool.eq_false_iff.mpr c44
   subst c44
   have H1 : ((spec_l1Cur_pick.f l0 t532 t533 8).bind fun bt551 => ((spec_l1Cur_pick.f l0 bt551.2.1 bt551.2.2 8).bind fun bt554 => (some (t501, t502, t503, t504, t507, t508, bt551.1, bt554.1, wrap64 (2 + t531), bt554.2.1, bt554.2.2)))) = some (q1, q2, q3, q4, q5, q6, q7, q8, q9, q10, q11) := by rw [if_neg (show ¬ (false = true) by decide)] at H; exact H
   clear H
   have H := H1
   clear H1
   obtain ⟨⟨t551, t552, t553⟩, A111, H⟩ := zM H
   try dsimp only at H
   obtain ⟨⟨t554, t555, t556⟩, A112, H⟩ := zM H
   try dsimp only at H
   simp only [Option.some.injEq, Prod.mk.injEq] at H
   obtain ⟨rfl, rfl, rfl, rfl, rfl, rfl, rfl, rfl, rfl, rfl, rfl⟩ := H
   go_enter Try.func59, Try.ntmps59
   try go_wp2_with (first | ((with_reducible refine gate_dst (N := 2) rfl ?_); refine box_event zr (N := 2) zr (cs := #[.int .i64 0, .int .i64 0, .bool false, .bool false]) (t := 28) zh ?_; intro gb499 hg w113 hbox hb; have GE499 := zA (zG hg (below_size (zB0 HB)) : w.heap.size ≤ gb499); replace HB := zA (below_step (zB0 HB) hb); have BK499 := zA (hbox); have GW499 := GE499; clear hb hbox hg) | ((with_reducible refine gate_dst (N := 3) rfl ?_); refine box_event zr (N := 3) zr (cs := #[.int .i64 0, .int .i64 0]) (t := 30) zh ?_; intro gb500 hg w114 hbox hb; have GE500 := zA (zG hg (below_size (zB1 HB GE499)) : w.heap.size ≤ gb500); have NB499_500 := zA ((by rw [hg]; exact Nat.ne_of_lt (blk_lt (zK BK499)) : gb499 ≠ gb500)); have NB500_499 := zA ((by rw [hg]; exact Nat.ne_of_gt (blk_lt (zK BK499)) : gb500 ≠ gb499)); have n0_ := zA (below_step (zB1 HB GE499) hb); have n1_ := zKb BK499 hb; clear HB; have HB := n0_; clear BK499; have BK499 := n1_; clear n0_ n1_; have BK500 := zA (hbox); have GW500 := GE500; clear hb hbox hg) | ((with_reducible refine gate_dst (N := 13) rfl ?_); refine box_event zr (N := 13) zr (cs := #[.slice A0 l0.length c0, .int .i64 0, .int .u64 0]) (t := 115) zh ?_; intro g hg wbx hbox hb; have n0_ := zA (below_step (zB2 HB GE499 GE500) hb); have HI0 := zA (show IsS115 w wbx g l0 0 0 from ⟨A0, c0, hbox, (by rw [hg]; exact (below_size (zB2 HB GE499 GE500))), HR0⟩); have NB0_499 := zA ((by rw [hg]; exact Nat.ne_of_gt (blk_lt (zK BK499)) : g ≠ gb499)); have NB499_0 := zA ((by rw [hg]; exact Nat.ne_of_lt (blk_lt (zK BK499)) : gb499 ≠ g)); have NB0_500 := zA ((by rw [hg]; exact Nat.ne_of_gt (blk_lt (zK BK500)) : g ≠ gb500)); have NB500_0 := zA ((by rw [hg]; exact Nat.ne_of_lt (blk_lt (zK BK500)) : gb500 ≠ g)); have n1_ := zKb BK499 hb; have n2_ := zKb BK500 hb; clear HB; have HB := n0_; clear BK499; have BK499 := n1_; clear BK500; have BK500 := n2_; clear n0_ n1_ n2_; have HK := zA (KeepBut.of_below HB.out g none); clear hb hbox hg) | ((with_reducible refine gate_callee (f := 98) rfl ?_); refine goesL_ (some 15) rfl rfl Try.func98 zn rfl #[.pointer (some ⟨g, 0, none⟩), .int .i64 6] rfl zm ?_; (with_reducible refine (spec_l1Cur_around.calls g l0 0 0 6 t501 t502 t503 t504 t505 t506 w _ ?side1 ?side2 A2.out).mono ?_); (case side1 => exact zI2 HI0 NB0_499 NB0_500); (case side2 => exact zJ2 HB HI0 GE499 GE500); rintro e w115 ⟨rfl, hi, hb, hk⟩; refine ⟨_, rfl, ?_⟩; replace BK499 := zX BK499 hk NB499_0; replace BK500 := zX BK500 hk NB500_0; replace HK := zA (KeepBut.trans (zk2 HK GW499 GW500) hk (.inl rfl)); replace HB := zA (hb); replace HI0 := zA (hi); (try clear hb); (try clear hb2); (try clear hk); (try clear hi)) | ((with_reducible refine gate_callee (f := 102) rfl ?_); refine goesL_ (some 17) rfl rfl Try.func102 zn rfl #[.pointer (some ⟨g, 0, none⟩)] rfl zm ?_; (with_reducible refine (spec_l1Cur_leaper.calls g l0 t505 t506 t507 t508 t509 t510 w _ ?side1 ?side2 A3.out).mono ?_); (case side1 => exact zI2 HI0 NB0_499 NB0_500); (case side2 => exact zJ2 HB HI0 GE499 GE500); rintro e w116 ⟨rfl, hi, hb, hk⟩; refine ⟨_, rfl, ?_⟩; replace BK499 := zX BK499 hk NB499_0; replace BK500 := zX BK500 hk NB500_0; replace HK := zA (KeepBut.trans (zk2 HK GW499 GW500) hk (.inl rfl)); replace HB := zA (hb); replace HI0 := zA (hi); (try clear hb); (try clear hb2); (try clear hk); (try clear hi)) | ((with_reducible refine gate_dst (N := 8) rfl ?_); refine box_event zr (N := 8) zr (cs := #[.int .i64 0, .int .i64 0, .bool false, .bool false]) (t := 28) zh ?_; intro gb511 hg w117 hbox hb; replace HB := zA (below_step (zJ2 HB HI0 GE499 GE500) hb); have BK511 := zA (hbox); have GW511 := zA ((zG hg (keep_size (w := w) (g := g) (row := none) (zk2 HK GW499 GW500)) : w.heap.size ≤ gb511)); have GE511 := zA ((Nat.le_trans HW0.out (zG hg (keep_size (w := w) (g := g) (row := none) (zk2 HK GW499 GW500)) : w.heap.size ≤ gb511) : w.heap.size ≤ gb511)); replace HK := zA (KeepBut.trans (zk2 HK GW499 GW500) (KeepBut.of_below hb g none) (.inl rfl)); have NB499_511 := zA (zNl hg BK499 : gb499 ≠ gb511); have NB511_499 := zA (zNg hg BK499 : gb511 ≠ gb499); replace BK499 := zKb BK499 hb; have NB500_511 := zA (zNl hg BK500 : gb500 ≠ gb511); have NB511_500 := zA (zNg hg BK500 : gb511 ≠ gb500); replace BK500 := zKb BK500 hb; have NB0_511 := zA ((zP hg (show IsS115 w _ g l0 t509 t510 from zI2 HI0 NB0_499 NB0_500) : g ≠ gb511)); have NB511_0 := zA ((zQ hg (show IsS115 w _ g l0 t509 t510 from zI2 HI0 NB0_499 NB0_500) : gb511 ≠ g)); replace HI0 := zA (IsS115.below (zI2 HI0 NB0_499 NB0_500) hb); clear hb hbox hg) | ((with_reducible refine gate_dst (N := 9) rfl ?_); refine box_event zr (N := 9) zr (cs := #[.int .i64 0, .int .i64 0]) (t := 30) zh ?_; intro gb512 hg w118 hbox hb; replace HB := zA (below_step (zJ3 HB HI0 GE499 GE500 GE511) hb); have BK512 := zA (hbox); have GW512 := zA ((zG hg (keep_size (w := w) (g := g) (row := none) (zk3 HK GW499 GW500 GW511)) : w.heap.size ≤ gb512)); have GE512 := zA ((Nat.le_trans HW0.out (zG hg (keep_size (w := w) (g := g) (row := none) (zk3 HK GW499 GW500 GW511)) : w.heap.size ≤ gb512) : w.heap.size ≤ gb512)); replace HK := zA (KeepBut.trans (zk3 HK GW499 GW500 GW511) (KeepBut.of_below hb g none) (.inl rfl)); have NB499_512 := zA (zNl hg BK499 : gb499 ≠ gb512); have NB512_499 := zA (zNg hg BK499 : gb512 ≠ gb499); replace BK499 := zKb BK499 hb; have NB500_512 := zA (zNl hg BK500 : gb500 ≠ gb512); have NB512_500 := zA (zNg hg BK500 : gb512 ≠ gb500); replace BK500 := zKb BK500 hb; have NB511_512 := zA (zNl hg BK511 : gb511 ≠ gb512); have NB512_511 := zA (zNg hg BK511 : gb512 ≠ gb511); replace BK511 := zKb BK511 hb; have NB0_512 := zA ((zP hg (show IsS115 w _ g l0 t509 t510 from zI3 HI0 NB0_499 NB0_500 NB0_511) : g ≠ gb512)); have NB512_0 := zA ((zQ hg (show IsS115 w _ g l0 t509 t510 from zI3 HI0 NB0_499 NB0_500 NB0_511) : gb512 ≠ g)); replace HI0 := zA (IsS115.below (zI3 HI0 NB0_499 NB0_500 NB0_511) hb); clear hb hbox hg; have hnb119 := NB511_499.out; have hnc119 := NB499_511.out; have hnb120 := NB511_500.out; have hnc120 := NB500_511.out; have hnb121 := NB511_512.out; have hnc121 := NB512_511.out; have hnb122 := NB511_0.out; have hnc122 := NB0_511.out; obtain ⟨z123_0, z123_1, z123_2, z123_3, y123_0, y123_1, y123_2, y123_3⟩ := zc4 BK511; have hnb124 := NB512_499.out; have hnc124 := NB499_512.out; have hnb125 := NB512_500.out; have hnc125 := NB500_512.out; have hnb126 := NB512_0.out; have hnc126 := NB0_512.out; obtain ⟨z127_0, z127_1, y127_0, y127_1⟩ := zc2 BK512) | ((with_reducible refine gate_callee (f := 99) rfl ?_); refine goesL_ (some 19) rfl rfl Try.func99 zn rfl #[.pointer (some ⟨g, 0, none⟩), .int .i64 12] rfl zm ?_; (with_reducible refine (spec_l1Cur_one.calls g l0 t509 t510 12 false t514 t515 w _ ?side1 ?side2 A4.out).mono ?_); (case side1 => exact zI4 HI0 NB0_499 NB0_500 NB0_511 NB0_512); (case side2 => exact zJ4 HB HI0 GE499 GE500 GE511 GE512); rintro e w128 ⟨rfl, hi, hb, hk⟩; refine ⟨_, rfl, ?_⟩; replace BK499 := zA (KeepBut.blk hk (g' := gb499) (o := .cells #[.int .i64 0, .int .i64 0, .bool false, .bool false] 28 (0, 0)) (by (with_reducible repeat (first | refine blk_drewN ?_ _ | refine blk_drew ?_ | refine blk_alloc ?_ _)); refine blk_far ?_ NB499_512.out _; (with_reducible repeat (first | refine blk_drewN ?_ _ | refine blk_drew ?_ | refine blk_alloc ?_ _)); refine blk_far ?_ NB499_512.out _; (with_reducible repeat (first | refine blk_drewN ?_ _ | refine blk_drew ?_ | refine blk_alloc ?_ _)); refine blk_far ?_ NB499_511.out _; (with_reducible repeat (first | refine blk_drewN ?_ _ | refine blk_drew ?_ | refine blk_alloc ?_ _)); refine blk_far ?_ NB499_511.out _; (with_reducible repeat (first | refine blk_drewN ?_ _ | refine blk_drew ?_ | refine blk_alloc ?_ _)); refine blk_far ?_ NB499_511.out _; (with_reducible repeat (first | refine blk_drewN ?_ _ | refine blk_drew ?_ | refine blk_alloc ?_ _)); refine blk_far ?_ NB499_511.out _; (with_reducible repeat (first | refine blk_drewN ?_ _ | refine blk_drew ?_ | refine blk_alloc ?_ _)); exact BK499.out) NB499_0.out (by simp)); replace BK500 := zA (KeepBut.blk hk (g' := gb500) (o := .cells #[.int .i64 0, .int .i64 0] 30 (0, 0)) (by (with_reducible repeat (first | refine blk_drewN ?_ _ | refine blk_drew ?_ | refine blk_alloc ?_ _)); refine blk_far ?_ NB500_512.out _; (with_reducible repeat (first | refine blk_drewN ?_ _ | refine blk_drew ?_ | refine blk_alloc ?_ _)); refine blk_far ?_ NB500_512.out _; (with_reducible repeat (first | refine blk_drewN ?_ _ | refine blk_drew ?_ | refine blk_alloc ?_ _)); refine blk_far ?_ NB500_511.out _; (with_reducible repeat (first | refine blk_drewN ?_ _ | refine blk_drew ?_ | refine blk_alloc ?_ _)); refine blk_far ?_ NB500_511.out _; (with_reducible repeat (first | refine blk_drewN ?_ _ | refine blk_drew ?_ | refine blk_alloc ?_ _)); refine blk_far ?_ NB500_511.out _; (with_reducible repeat (first | refine blk_drewN ?_ _ | refine blk_drew ?_ | refine blk_alloc ?_ _)); refine blk_far ?_ NB500_511.out _; (with_reducible repeat (first | refine blk_drewN ?_ _ | refine blk_drew ?_ | refine blk_alloc ?_ _)); exact BK500.out) NB500_0.out (by simp)); replace BK511 := zA (KeepBut.blk hk (g' := gb511) (o := .cells #[.int .i64 t501, .int .i64 t502, .bool t503, .bool t504] 28 (0, 0)) (by (with_reducible repeat (first | refine blk_drewN ?_ _ | refine blk_drew ?_ | refine blk_alloc ?_ _)); refine blk_far ?_ NB511_512.out _; (with_reducible repeat (first | refine blk_drewN ?_ _ | refine blk_drew ?_ | refine blk_alloc ?_ _)); refine blk_far ?_ NB511_512.out _; (with_reducible repeat (first | refine blk_drewN ?_ _ | refine blk_drew ?_ | refine blk_alloc ?_ _)); refine blk_put (cs := #[.int .i64 t501, .int .i64 t502, .bool t503, .bool false]) ?_ 3 _ rfl; (with_reducible repeat (first | refine blk_drewN ?_ _ | refine blk_drew ?_ | refine blk_alloc ?_ _)); refine blk_put (cs := #[.int .i64 t501, .int .i64 t502, .bool false, .bool false]) ?_ 2 _ rfl; (with_reducible repeat (first | refine blk_drewN ?_ _ | refine blk_drew ?_ | refine blk_alloc ?_ _)); refine blk_put (cs := #[.int .i64 t501, .int .i64 0, .bool false, .bool false]) ?_ 1 _ rfl; (with_reducible repeat (first | refine blk_drewN ?_ _ | refine blk_drew ?_ | refine blk_alloc ?_ _)); refine blk_put (cs := #[.int .i64 0, .int .i64 0, .bool false, .bool false]) ?_ 0 _ rfl; (with_reducible repeat (first | refine blk_drewN ?_ _ | refine blk_drew ?_ | refine blk_alloc ?_ _)); exact BK511.out) NB511_0.out (by simp)); replace BK512 := zA (KeepBut.blk hk (g' := gb512) (o := .cells #[.int .i64 t507, .int .i64 t508] 30 (0, 0)) (by (with_reducible repeat (first | refine blk_drewN ?_ _ | refine blk_drew ?_ | refine blk_alloc ?_ _)); refine blk_put (cs := #[.int .i64 t507, .int .i64 0]) ?_ 1 _ rfl; (with_reducible repeat (first | refine blk_drewN ?_ _ | refine blk_drew ?_ | refine blk_alloc ?_ _)); refine blk_put (cs := #[.int .i64 0, .int .i64 0]) ?_ 0 _ rfl; (with_reducible repeat (first | refine blk_drewN ?_ _ | refine blk_drew ?_ | refine blk_alloc ?_ _)); refine blk_far ?_ NB512_511.out _; (with_reducible repeat (first | refine blk_drewN ?_ _ | refine blk_drew ?_ | refine blk_alloc ?_ _)); refine blk_far ?_ NB512_511.out _; (with_reducible repeat (first | refine blk_drewN ?_ _ | refine blk_drew ?_ | refine blk_alloc ?_ _)); refine blk_far ?_ NB512_511.out _; (with_reducible repeat (first | refine blk_drewN ?_ _ | refine blk_drew ?_ | refine blk_alloc ?_ _)); refine blk_far ?_ NB512_511.out _; (with_reducible repeat (first | refine blk_drewN ?_ _ | refine blk_drew ?_ | refine blk_alloc ?_ _)); exact BK512.out) NB512_0.out (by simp)); replace HK := zA (KeepBut.trans (zk4 HK GW499 GW500 GW511 GW512) hk (.inl rfl)); replace HB := zA (hb); replace HI0 := zA (hi); (try clear hb); (try clear hb2); (try clear hk); (try clear hi)) | ((with_reducible refine gate_callee (f := 104) rfl ?_); refine goesL_ (some 31) rfl rfl Try.func104 zn rfl #[.pointer (some ⟨g, 0, none⟩), .int .i64 6] rfl zm ?_; (with_reducible refine (spec_l1Cur_pick.calls g l0 t514 t515 6 t531 t532 t533 w _ ?side1 ?side2 A42.out).mono ?_); (case side1 => exact zI4 HI0 NB0_499 NB0_500 NB0_511 NB0_512); (case side2 => exact zJ4 HB HI0 GE499 GE500 GE511 GE512); rintro e w129 ⟨rfl, hi, hb, hk⟩; refine ⟨_, rfl, ?_⟩; replace BK499 := zX BK499 hk NB499_0; replace BK500 := zX BK500 hk NB500_0; replace BK511 := zX BK511 hk NB511_0; replace BK512 := zX BK512 hk NB512_0; replace HK := zA (KeepBut.trans (zk4 HK GW499 GW500 GW511 GW512) hk (.inl rfl)); replace HB := zA (hb); replace HI0 := zA (hi); (try clear hb); (try clear hb2); (try clear hk); (try clear hi); obtain ⟨z130_0, z130_1, z130_2, z130_3, y130_0, y130_1, y130_2, y130_3⟩ := zc4 BK511) | ((with_reducible refine gate_callee (f := 105) rfl ?_); refine goesL_ (some 34) rfl rfl Try.func105 zn rfl #[.agg #[.int .i64 t501, .int .i64 t502, .bool t503, .bool t504]] rfl zm ?_; (with_reducible refine (spec_arGood.calls t501 t502 t503 t504 false _ A43.out).mono ?_); rintro e w131 ⟨rfl, hb⟩; refine ⟨_, rfl, ?_⟩; replace BK499 := zKb BK499 hb; replace BK500 := zKb BK500 hb; replace BK511 := zKb BK511 hb; replace BK512 := zKb BK512 hb; replace HK := zA (KeepBut.trans (zk4 HK GW499 GW500 GW511 GW512) (KeepBut.of_below hb g none) (.inl rfl)); replace HB := zA (below_step (zJ4 HB HI0 GE499 GE500 GE511 GE512) hb); replace HI0 := zA (IsS115.below (zI4 HI0 NB0_499 NB0_500 NB0_511 NB0_512) hb); (try clear hb); (try clear hb2); (try clear hk); (try clear hi)))
   replace BK499 := zA (blk_drew BK499.out)
   replace BK500 := zA (blk_drew BK500.out)
   replace BK511 := zA (blk_drew BK511.out)
   replace BK512 := zA (blk_drew BK512.out)
   replace HI0 := zA (IsS115.drew HI0.out)
   replace HK := zA (keep_drew HK.out)
   replace HB := zA (below_drew1 HB.out)
   refine start_ (n := 12) (S := fun w' => w'.cell? ⟨gb511, 0, none⟩ = some (.int .i64 t501) ∧ w'.cell? ⟨gb511, 1, none⟩ = some (.int .i64 t502) ∧ w'.cell? ⟨gb511, 2, none⟩ = some (.bool t503) ∧ w'.cell? ⟨gb511, 3, none⟩ = some (.bool t504) ∧ w'.cell? ⟨gb512, 0, none⟩ = some (.int .i64 t507) ∧ w'.cell? ⟨gb512, 1, none⟩ = some (.int .i64 t508)) (ds := []) #[false, false, false, false, false, false, false, false, false, false, false, false] zn rfl rfl ⟨(blk_cell BK511.out 0).trans rfl, (blk_cell BK511.out 1).trans rfl, (blk_cell BK511.out 2).trans rfl, (blk_cell BK511.out 3).trans rfl, (blk_cell BK512.out 0).trans rfl, (blk_cell BK512.out 1).trans rfl⟩ (fun hHeld => ?_); refine with_tabW spec_DrawTwoSteps.tab8 spec_DrawTwoSteps.bits8 (fun HT_ HW_ => ?_)
   generalize w131.drew = w132 at BK499 BK500 BK511 BK512 HI0 HK HB hHeld ⊢
   refine zq HT_ (i := 2) (N := some 44) ?_
   refine zq HT_ (i := 4) (N := some 46) ?_
   refine zq HT_ (i := 6) (N := some 48) ?_
   refine zx6 HT_ HW_ hHeld (i := 0) (N := some 42) ?_
   refine zx6 HT_ HW_ hHeld (i := 1) (N := some 43) ?_
   refine one_ (i := 3) (N := some 45) #[true, true, true, true, true, false, true, false, false, false, false, false] rfl rfl (one_of HT_.out zn) (by decide) (fun K hK => ?_)
   refine goes_ Try.func104 zn rfl #[.pointer (some ⟨g, 0, none⟩), .int .i64 8] (by rfl) rfl rfl zm ?_
   with_reducible refine (spec_l1Cur_pick.calls g l0 t532 t533 8 t551 t552 t553 w _ ?side1 ?side2 A111.out).mono ?_
   (case side1 => exact zI4 HI0 NB0_499 NB0_500 NB0_511 NB0_512)
   (case side2 => exact zJ4 HB HI0 GE499 GE500 GE511 GE512)
   rintro e w133 ⟨rfl, hi, hb, hk⟩
   refine ⟨_, rfl, ?_⟩
   replace BK499 := zX BK499 hk NB499_0
   replace BK500 := zX BK500 hk NB500_0
   replace BK511 := zX BK511 hk NB511_0
   replace BK512 := zX BK512 hk NB512_0
   replace HK := zA (KeepBut.trans (zk4 HK GW499 GW500 GW511 GW512) hk (.inl rfl))
   replace HB := zA (hb)
   replace HI0 := zA (hi)
   (try clear hb); (try clear hb2); (try clear hk); (try clear hi)
   refine hK.out _ _ ⟨(blk_cell BK511.out 0).trans rfl, (blk_cell BK511.out 1).trans rfl, (blk_cell BK511.out 2).trans rfl, (blk_cell BK511.out 3).trans rfl, (blk_cell BK512.out 0).trans rfl, (blk_cell BK512.out 1).trans rfl⟩ (fun hHeld => ?_)
   clear hK K
   refine norm_ (a' := ?_) ?_ ?_
   rotate_left
   ·show Act.put _ (some 45) _ = _
    simp only [Act.put, List.setIfInBounds_toArray, List.set_cons_zero, List.set_cons_succ, i64_w, i32_w]
    rfl
   refine one_ (i := 5) (N := some 47) #[true, true, true, true, true, true, true, false, false, false, false, false] rfl rfl (one_of HT_.out zn) (by decide) (fun K hK => ?_)
   refine goes_ Try.func104 zn rfl #[.pointer (some ⟨g, 0, none⟩), .int .i64 8] (by rfl) rfl rfl zm ?_
   with_reducible refine (spec_l1Cur_pick.calls g l0 t552 t553 8 t554 t555 t556 w _ ?side1 ?side2 A112.out).mono ?_
   (case side1 => exact zI4 HI0 NB0_499 NB0_500 NB0_511 NB0_512)
   (case side2 => exact zJ4 HB HI0 GE499 GE500 GE511 GE512)
   rintro e w134 ⟨rfl, hi, hb, hk⟩
   refine ⟨_, rfl, ?_⟩
   replace BK499 := zX BK499 hk NB499_0
   replace BK500 := zX BK500 hk NB500_0
   replace BK511 := zX BK511 hk NB511_0
   replace BK512 := zX BK512 hk NB512_0
   replace HK := zA (KeepBut.trans (zk4 HK GW499 GW500 GW511 GW512) hk (.inl rfl))
   replace HB := zA (hb)
   replace HI0 := zA (hi)
   (try clear hb); (try clear hb2); (try clear hk); (try clear hi)
   refine hK.out _ _ ⟨(blk_cell BK511.out 0).trans rfl, (blk_cell BK511.out 1).trans rfl, (blk_cell BK511.out 2).trans rfl, (blk_cell BK511.out 3).trans rfl, (blk_cell BK512.out 0).trans rfl, (blk_cell BK512.out 1).trans rfl⟩ (fun hHeld => ?_)
   clear hK K
   refine norm_ (a' := ?_) ?_ ?_
   rotate_left
   ·show Act.put _ (some 47) _ = _
    simp only [Act.put, List.setIfInBounds_toArray, List.set_cons_zero, List.set_cons_succ, i64_w, i32_w]
    rfl
   refine one_ (i := 7) (N := none) #[true, true, true, true, true, true, true, true, false, false, false, false] rfl rfl (one_of HT_.out zn) (by decide) (fun K hK => ?_)
   have hs135 : w134.cell? ⟨gb499, 0, none⟩ = some (.int .i64 0) := (blk_cell BK499.out 0).trans rfl
   have hfs135 := blk_frozen BK499.out 0
   have hns135_1 := NB500_499.out
   have hns135_2 := NB511_499.out
   have hns135_3 := NB512_499.out
   have hms135_1 := NB499_500.out
   have hms135_2 := NB499_511.out
   have hms135_3 := NB499_512.out
   have hs136 : w134.cell? ⟨gb499, 1, none⟩ = some (.int .i64 0) := (blk_cell BK499.out 1).trans rfl
   have hfs136 := blk_frozen BK499.out 1
   have hns136_1 := NB500_499.out
   have hns136_2 := NB511_499.out
   have hns136_3 := NB512_499.out
   have hms136_1 := NB499_500.out
   have hms136_2 := NB499_511.out
   have hms136_3 := NB499_512.out
   have hs137 : w134.cell? ⟨gb499, 2, none⟩ = some (.bool false) := (blk_cell BK499.out 2).trans rfl
   have hfs137 := blk_frozen BK499.out 2
   have hns137_1 := NB500_499.out
   have hns137_2 := NB511_499.out
   have hns137_3 := NB512_499.out
   have hms137_1 := NB499_500.out
   have hms137_2 := NB499_511.out
   have hms137_3 := NB499_512.out
   have hs138 : w134.cell? ⟨gb499, 3, none⟩ = some (.bool false) := (blk_cell BK499.out 3).trans rfl
   have hfs138 := blk_frozen BK499.out 3
   have hns138_1 := NB500_499.out
   have hns138_2 := NB511_499.out
   have hns138_3 := NB512_499.out
   have hms138_1 := NB499_500.out
   have hms138_2 := NB499_511.out
   have hms138_3 := NB499_512.out
   refine skip_ (w1 := ?_) (by rfl) rfl ?_ ?_
   rotate_left
   ·go_simp
    rfl
   refine hK.out _ _ ⟨((cell_far (p := ⟨gb499, _, none⟩) NB511_499.out _).trans (((cell_far (p := ⟨gb499, _, none⟩) NB511_499.out _).trans (((cell_far (p := ⟨gb499, _, none⟩) NB511_499.out _).trans (((cell_far (p := ⟨gb499, _, none⟩) NB511_499.out _).trans (hHeld.1)))))))), ((cell_far (p := ⟨gb499, _, none⟩) NB511_499.out _).trans (((cell_far (p := ⟨gb499, _, none⟩) NB511_499.out _).trans (((cell_far (p := ⟨gb499, _, none⟩) NB511_499.out _).trans (((cell_far (p := ⟨gb499, _, none⟩) NB511_499.out _).trans (hHeld.2.1)))))))), ((cell_far (p := ⟨gb499, _, none⟩) NB511_499.out _).trans (((cell_far (p := ⟨gb499, _, none⟩) NB511_499.out _).trans (((cell_far (p := ⟨gb499, _, none⟩) NB511_499.out _).trans (((cell_far (p := ⟨gb499, _, none⟩) NB511_499.out _).trans (hHeld.2.2.1)))))))), ((cell_far (p := ⟨gb499, _, none⟩) NB511_499.out _).trans (((cell_far (p := ⟨gb499, _, none⟩) NB511_499.out _).trans (((cell_far (p := ⟨gb499, _, none⟩) NB511_499.out _).trans (((cell_far (p := ⟨gb499, _, none⟩) NB511_499.out _).trans (hHeld.2.2.2.1)))))))), ((cell_far (p := ⟨gb499, _, none⟩) NB512_499.out _).trans (((cell_far (p := ⟨gb499, _, none⟩) NB512_499.out _).trans (((cell_far (p := ⟨gb499, _, none⟩) NB512_499.out _).trans (((cell_far (p := ⟨gb499, _, none⟩) NB512_499.out _).trans (hHeld.2.2.2.2.1)))))))), ((cell_far (p := ⟨gb499, _, none⟩) NB512_499.out _).trans (((cell_far (p := ⟨gb499, _, none⟩) NB512_499.out _).trans (((cell_far (p := ⟨gb499, _, none⟩) NB512_499.out _).trans (((cell_far (p := ⟨gb499, _, none⟩) NB512_499.out _).trans (hHeld.2.2.2.2.2))))))))⟩ (fun hHeld => ?_)
   clear hK K
   refine one_ (i := 8) (N := none) #[true, true, true, true, true, true, true, true, true, false, false, false] rfl rfl (one_of HT_.out zn) (by decide) (fun K hK => ?_)
   have hs139 : w134.cell? ⟨gb500, 0, none⟩ = some (.int .i64 0) := (blk_cell BK500.out 0).trans rfl
   have hfs139 := blk_frozen BK500.out 0
   have hns139_0 := NB499_500.out
   have hns139_2 := NB511_500.out
   have hns139_3 := NB512_500.out
   have hms139_0 := NB500_499.out
   have hms139_2 := NB500_511.out
   have hms139_3 := NB500_512.out
   have hs140 : w134.cell? ⟨gb500, 1, none⟩ = some (.int .i64 0) := (blk_cell BK500.out 1).trans rfl
   have hfs140 := blk_frozen BK500.out 1
   have hns140_0 := NB499_500.out
   have hns140_2 := NB511_500.out
   have hns140_3 := NB512_500.out
   have hms140_0 := NB500_499.out
   have hms140_2 := NB500_511.out
   have hms140_3 := NB500_512.out
   refine skip_ (w1 := ?_) (by rfl) rfl ?_ ?_
   rotate_left
   ·go_simp
    rfl
   refine hK.out _ _ ⟨((cell_far (p := ⟨gb500, _, none⟩) NB511_500.out _).trans (((cell_far (p := ⟨gb500, _, none⟩) NB511_500.out _).trans (hHeld.1)))), ((cell_far (p := ⟨gb500, _, none⟩) NB511_500.out _).trans (((cell_far (p := ⟨gb500, _, none⟩) NB511_500.out _).trans (hHeld.2.1)))), ((cell_far (p := ⟨gb500, _, none⟩) NB511_500.out _).trans (((cell_far (p := ⟨gb500, _, none⟩) NB511_500.out _).trans (hHeld.2.2.1)))), ((cell_far (p := ⟨gb500, _, none⟩) NB511_500.out _).trans (((cell_far (p := ⟨gb500, _, none⟩) NB511_500.out _).trans (hHeld.2.2.2.1)))), ((cell_far (p := ⟨gb500, _, none⟩) NB512_500.out _).trans (((cell_far (p := ⟨gb500, _, none⟩) NB512_500.out _).trans (hHeld.2.2.2.2.1)))), ((cell_far (p := ⟨gb500, _, none⟩) NB512_500.out _).trans (((cell_far (p := ⟨gb500, _, none⟩) NB512_500.out _).trans (hHeld.2.2.2.2.2))))⟩ (fun hHeld => ?_)
   clear hK K
   refine zq HT_ (i := 9) (N := some 4) ?_
   refine zq HT_ (i := 10) (N := some 5) ?_
   refine zq HT_ (i := 11) (N := some 6) ?_
   refine done_ (done_of HT_.out zn) ?_
   try go_wp2
   refine bodyPost_ret (results_list (rs := [.cell 2 28, .cell 3 30, .tmp 4, .tmp 5, .tmp 6]) rfl (by simp) (.cell gb499 28 #[.int .i64 t501, .int .i64 t502, .bool t503, .bool t504] (0, 0) _ rfl (by (with_reducible repeat (first | refine blk_drewN ?_ _ | refine blk_drew ?_ | refine blk_alloc ?_ _)); refine blk_far ?_ NB499_500.out _; (with_reducible repeat (first | refine blk_drewN ?_ _ | refine blk_drew ?_ | refine blk_alloc ?_ _)); refine blk_far ?_ NB499_500.out _; (with_reducible repeat (first | refine blk_drewN ?_ _ | refine blk_drew ?_ | refine blk_alloc ?_ _)); refine blk_put (cs := #[.int .i64 t501, .int .i64 t502, .bool t503, .bool false]) ?_ 3 _ rfl; (with_reducible repeat (first | refine blk_drewN ?_ _ | refine blk_drew ?_ | refine blk_alloc ?_ _)); refine blk_put (cs := #[.int .i64 t501, .int .i64 t502, .bool false, .bool false]) ?_ 2 _ rfl; (with_reducible repeat (first | refine blk_drewN ?_ _ | refine blk_drew ?_ | refine blk_alloc ?_ _)); refine blk_put (cs := #[.int .i64 t501, .int .i64 0, .bool false, .bool false]) ?_ 1 _ rfl; (with_reducible repeat (first | refine blk_drewN ?_ _ | refine blk_drew ?_ | refine blk_alloc ?_ _)); refine blk_put (cs := #[.int .i64 0, .int .i64 0, .bool false, .bool false]) ?_ 0 _ rfl; (with_reducible repeat (first | refine blk_drewN ?_ _ | refine blk_drew ?_ | refine blk_alloc ?_ _)); exact BK499.out) Try.underlying28 rfl zn (.cell gb500 30 #[.int .i64 t507, .int .i64 t508] (0, 0) _ rfl (by (with_reducible repeat (first | refine blk_drewN ?_ _ | refine blk_drew ?_ | refine blk_alloc ?_ _)); refine blk_put (cs := #[.int .i64 t507, .int .i64 0]) ?_ 1 _ rfl; (with_reducible repeat (first | refine blk_drewN ?_ _ | refine blk_drew ?_ | refine blk_alloc ?_ _)); refine blk_put (cs := #[.int .i64 0, .int .i64 0]) ?_ 0 _ rfl; (with_reducible repeat (first | refine blk_drewN ?_ _ | refine blk_drew ?_ | refine blk_alloc ?_ _)); refine blk_far ?_ NB500_499.out _; (with_reducible repeat (first | refine blk_drewN ?_ _ | refine blk_drew ?_ | refine blk_alloc ?_ _)); refine blk_far ?_ NB500_499.out _; (with_reducible repeat (first | refine blk_drewN ?_ _ | refine blk_drew ?_ | refine blk_alloc ?_ _)); refine blk_far ?_ NB500_499.out _; (with_reducible repeat (first | refine blk_drewN ?_ _ | refine blk_drew ?_ | refine blk_alloc ?_ _)); refine blk_far ?_ NB500_499.out _; (with_reducible repeat (first | refine blk_drewN ?_ _ | refine blk_drew ?_ | refine blk_alloc ?_ _)); exact BK500.out) Try.underlying30 rfl zn (.tmp (.tmp (.tmp .nil)))))) rfl ?_
   exact ⟨zt, zJ4 HB HI0 GE499 GE500 GE511 GE512⟩
end Go.Proofs.Ytogkcfddoiloeaa.PFnOrbitsShare
