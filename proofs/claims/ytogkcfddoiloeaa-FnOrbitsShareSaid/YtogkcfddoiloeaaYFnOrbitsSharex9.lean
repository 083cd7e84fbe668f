/- The walk. -/
import Derived.Test.YtogkcfddoiloeaaYFnOrbitsSharex8
namespace Go.Proofs.Ytogkcfddoiloeaa.PFnOrbitsShare
open Go.RowKit Go.Proofs.YtogkcfddoiloeaaW.PrintWords Go.Proofs.YtogkcfddoiloeaaW.PrintLast Go.Proofs.YtogkcfddoiloeaaW.PrintMore
attribute [local go_sem] max2_int min2_int max_two min_two max_three min_three max_four min_four
set_option linter.unusedVariables false
set_option linter.unusedSimpArgs false
def spec_DrawOrbitOf.g (s0_0 : List Int) (s0_1 : Int) (s0_2 : Int) : Option (Int × Int × Bool × Bool × Int × Int × Int × Int × Int) := (spec_l1Cur_around.f s0_0 s0_1 s0_2 9).bind fun bt420 => ((spec_l1Cur_one.f s0_0 bt420.2.2.2.2.1 bt420.2.2.2.2.2 5).bind fun bt427 => (if bt427.1 = true then ((spec_l1Cur_cellAround.f s0_0 bt427.2.1 bt427.2.2 bt420.1 bt420.2.1 bt420.2.2.1 bt420.2.2.2.1).bind fun bt430 => ((spec_l1Cur_by.f s0_0 bt430.2.1 bt430.2.2).bind fun bt433 => ((spec_l1Cur_by.f s0_0 bt433.2.1 bt433.2.2).bind fun bt436 => (some (bt420.1, bt420.2.1, bt420.2.2.1, bt420.2.2.2.1, bt430.1, bt433.1, bt436.1, bt436.2.1, bt436.2.2))))) else ((spec_l1Cur_cellAround.f s0_0 bt427.2.1 bt427.2.2 bt420.1 bt420.2.1 true true).bind fun bt439 => ((spec_l1Cur_by.f s0_0 bt439.2.1 bt439.2.2).bind fun bt442 => ((spec_l1Cur_by.f s0_0 bt442.2.1 bt442.2.2).bind fun bt445 => (some (bt420.1, bt420.2.1, true, true, bt439.1, bt442.1, bt445.1, bt445.2.1, bt445.2.2)))))))
def spec_DrawOrbitOf.T6 : Bool × List (List Nat × List Nat) := (true, [([], []), ([], []), ([], []), ([1, 2], [1, 2]), ([], []), ([4, 3], [4]), ([], []), ([6, 5], [6]), ([0, 7, 0], [0]), ([3, 8, 0, 1, 2, 3, 8], [3]), ([5, 9, 0, 1, 2, 3, 4, 5, 8, 9], [5]), ([7, 10, 0, 1, 2, 3, 4, 5, 6, 7, 8, 9, 10], [7])])
def spec_DrawOrbitOf.B6 : List Nat := [0, 0, 0, 6, 0, 30, 0, 126, 255, 511, 1023, 2047]
theorem spec_DrawOrbitOf.tab6 : rtab .any (opsOf Try.f58 6) = spec_DrawOrbitOf.T6 := by kernel_rfl
theorem spec_DrawOrbitOf.bits6 : waitsOk spec_DrawOrbitOf.T6.2 spec_DrawOrbitOf.B6 = true := by kernel_rfl
def spec_DrawOrbitOf.f (l0 : List Int) : Option (Int × Int × Bool × Bool × Int × Int × Int) := (spec_DrawOrbitOf.g l0 0 0).bind fun t => some (t.1, t.2.1, t.2.2.1, t.2.2.2.1, t.2.2.2.2.1, t.2.2.2.2.2.1, t.2.2.2.2.2.2.1)
set_option maxHeartbeats 8000000 in
set_option maxRecDepth 100000 in
theorem spec_DrawOrbitOf.calls (A0 : Option Addr) (c0 : Nat) (l0 : List Int) (r1 : Int) (r2 : Int) (r3 : Bool) (r4 : Bool) (r5 : Int) (r6 : Int) (r7 : Int) (w : World) (hr0 : Kd.C (Kd.int .u8) w A0 l0.length l0) (hc0 : l0.length ≤ c0) (h : spec_DrawOrbitOf.f l0 = some (r1, r2, r3, r4, r5, r6, r7)) :
  Calls Try.prog 58 #[.slice A0 l0.length c0] w fun e w' => e = .returned (.tuple #[.agg #[.int .i64 r1, .int .i64 r2, .bool r3, .bool r4], .int .i64 r5, .int .i64 r6, .int .i64 r7]) ∧ Below w.heap.size w w' := by
 obtain ⟨tt_, hg_, ht_⟩ := Option.bind_eq_some_iff.mp h
 clear h
 have HR0 := zA hr0 |>.out
 obtain ⟨q1, q2, q3, q4, q5, q6, q7, q8, q9⟩ := tt_
 simp only [Option.some.injEq, Prod.mk.injEq] at ht_
 obtain ⟨rfl, rfl, rfl, rfl, rfl, rfl, rfl⟩ := ht_
 have h := hg_
 clear hg_
 have hu28 := Try.underlying28
 have HL := zA (Nat.le_refl w.heap.size)
 have HW0 := zA (Nat.le_refl w.heap.size)
 have HB := zA (Below.refl w.heap.size w)
 have H : ((spec_l1Cur_around.f l0 0 0 9).bind fun bt420 => ((spec_l1Cur_one.f l0 bt420.2.2.2.2.1 bt420.2.2.2.2.2 5).bind fun bt427 => (if bt427.1 = true then ((spec_l1Cur_cellAround.f l0 bt427.2.1 bt427.2.2 bt420.1 bt420.2.1 bt420.2.2.1 bt420.2.2.2.1).bind fun bt430 => ((spec_l1Cur_by.f l0 bt430.2.1 bt430.2.2).bind fun bt433 => ((spec_l1Cur_by.f l0 bt433.2.1 bt433.2.2).bind fun bt436 => (some (bt420.1, bt420.2.1, bt420.2.2.1, bt420.2.2.2.1, bt430.1, bt433.1, bt436.1, bt436.2.1, bt436.2.2))))) else ((spec_l1Cur_cellAround.f l0 bt427.2.1 bt427.2.2 bt420.1 bt420.2.1 true true).bind fun bt439 => ((spec_l1Cur_by.f l0 bt439.2.1 bt439.2.2).bind fun bt442 => ((spec_l1Cur_by.f l0 bt442.2.1 bt442.2.2).bind fun bt445 => (some (bt420.1, bt420.2.1, true, true, bt439.1, bt442.1, bt445.1, bt445.2.1, bt445.2.2)))))))) = some (q1, q2, q3, q4, q5, q6, q7, q8, q9) := h
 clear h
 obtain ⟨⟨t420, t421, t422, t423, t424, t425⟩, A2, H⟩ := zM H
 try dsimp only at H
 obtain ⟨⟨t427, t428, t429⟩, A3, H⟩ := zM H
 try dsimp only at H
 by_cases c4 : t427 = true
 ·subst c4
  have H1 : ((spec_l1Cur_cellAround.f l0 t428 t429 t420 t421 t422 t423).bind fun bt430 => ((spec_l1Cur_by.f l0 bt430.2.1 bt430.2.2).bind fun bt433 => ((spec_l1Cur_by.f l0 bt433.2.1 bt433.2.2).bind fun bt436 => (some (t420, t421, t422, t423, bt430.1, bt433.1, bt436.1, bt436.2.1, bt436.2.2))))) = some (q1, q2, q3, q4, q5, q6, q7, q8, q9) := by rw [if_pos rfl] at H; exact H
  clear H
  have H := H1
  clear H1
  obtain ⟨⟨t430, t431, t432⟩, A5, H⟩ := zM H
  try dsimp only at H
  obtain ⟨⟨t433, t434, t435⟩, A6, H⟩ := zM H
  try dsimp only at H
  obtain ⟨⟨t436, t437, t438⟩, A7, H⟩ := zM H
  try dsimp only at H
  simp only [Option.some.injEq, Prod.mk.injEq] at H
  obtain ⟨rfl, rfl, rfl, rfl, rfl, rfl, rfl, rfl, rfl⟩ := H
  go_enter Try.func58, Try.ntmps58
  try go_wp2_with (first | ((with_reducible refine gate_dst (N := 2) rfl ?_); refine box_event zr (N := 2) zr (cs := #[.int .i64 0, .int .i64 0, .bool false, .bool false]) (t := 28) zh ?_; intro gb419 hg w8 hbox hb; have GE419 := zA (zG hg (below_size (zB0 HB)) : w.heap.size ≤ gb419); replace HB := zA (below_step (zB0 HB) hb); have BK419 := zA (hbox); have GW419 := GE419; clear hb hbox hg) | ((with_reducible refine gate_dst (N := 10) rfl ?_); refine box_event zr (N := 10) zr (cs := #[.slice A0 l0.length c0, .int .i64 0, .int .u64 0]) (t := 115) zh ?_; intro g hg wbx hbox hb; have n0_ := zA (below_step (zB1 HB GE419) hb); have HI0 := zA (show IsS115 w wbx g l0 0 0 from ⟨A0, c0, hbox, (by rw [hg]; exact (below_size (zB1 HB GE419))), HR0⟩); have NB0_419 := zA ((by rw [hg]; exact Nat.ne_of_gt (blk_lt (zK BK419)) : g ≠ gb419)); have NB419_0 := zA ((by rw [hg]; exact Nat.ne_of_lt (blk_lt (zK BK419)) : gb419 ≠ g)); have n1_ := zKb BK419 hb; clear HB; have HB := n0_; clear BK419; have BK419 := n1_; clear n0_ n1_; have HK := zA (KeepBut.of_below HB.out g none); clear hb hbox hg) | ((with_reducible refine gate_callee (f := 98) rfl ?_); refine goesL_ (some 12) rfl rfl Try.func98 zn rfl #[.pointer (some ⟨g, 0, none⟩), .int .i64 9] rfl zm ?_; (with_reducible refine (spec_l1Cur_around.calls g l0 0 0 9 t420 t421 t422 t423 t424 t425 w _ ?side1 ?side2 A2.out).mono ?_); (case side1 => exact zI1 HI0 NB0_419); (case side2 => exact zJ1 HB HI0 GE419); rintro e w9 ⟨rfl, hi, hb, hk⟩; refine ⟨_, rfl, ?_⟩; replace BK419 := zX BK419 hk NB419_0; replace HK := zA (KeepBut.trans (zk1 HK GW419) hk (.inl rfl)); replace HB := zA (hb); replace HI0 := zA (hi); (try clear hb); (try clear hb2); (try clear hk); (try clear hi)) | ((with_reducible refine gate_dst (N := 7) rfl ?_); refine box_event zr (N := 7) zr (cs := #[.int .i64 0, .int .i64 0, .bool false, .bool false]) (t := 28) zh ?_; intro gb426 hg w10 hbox hb; replace HB := zA (below_step (zJ1 HB HI0 GE419) hb); have BK426 := zA (hbox); have GW426 := zA ((zG hg (keep_size (w := w) (g := g) (row := none) (zk1 HK GW419)) : w.heap.size ≤ gb426)); have GE426 := zA ((Nat.le_trans HW0.out (zG hg (keep_size (w := w) (g := g) (row := none) (zk1 HK GW419)) : w.heap.size ≤ gb426) : w.heap.size ≤ gb426)); replace HK := zA (KeepBut.trans (zk1 HK GW419) (KeepBut.of_below hb g none) (.inl rfl)); have NB419_426 := zA (zNl hg BK419 : gb419 ≠ gb426); have NB426_419 := zA (zNg hg BK419 : gb426 ≠ gb419); replace BK419 := zKb BK419 hb; have NB0_426 := zA ((zP hg (show IsS115 w _ g l0 t424 t425 from zI1 HI0 NB0_419) : g ≠ gb426)); have NB426_0 := zA ((zQ hg (show IsS115 w _ g l0 t424 t425 from zI1 HI0 NB0_419) : gb426 ≠ g)); replace HI0 := zA (IsS115.below (zI1 HI0 NB0_419) hb); clear hb hbox hg; have hnb11 := NB426_419.out; have hnc11 := NB419_426.out; have hnb12 := NB426_0.out; have hnc12 := NB0_426.out; obtain ⟨z13_0, z13_1, z13_2, z13_3, y13_0, y13_1, y13_2, y13_3⟩ := zc4 BK426) | ((with_reducible refine gate_callee (f := 99) rfl ?_); refine goesL_ (some 14) rfl rfl Try.func99 zn rfl #[.pointer (some ⟨g, 0, none⟩), .int .i64 5] rfl zm ?_; (with_reducible refine (spec_l1Cur_one.calls g l0 t424 t425 5 true t428 t429 w _ ?side1 ?side2 A3.out).mono ?_); (case side1 => exact zI2 HI0 NB0_419 NB0_426); (case side2 => exact zJ2 HB HI0 GE419 GE426); rintro e w14 ⟨rfl, hi, hb, hk⟩; refine ⟨_, rfl, ?_⟩; replace BK419 := zA (KeepBut.blk hk (g' := gb419) (o := .cells #[.int .i64 0, .int .i64 0, .bool false, .bool false] 28 (0, 0)) (zD BK419 NB419_426) NB419_0.out (by simp)); replace BK426 := zA (KeepBut.blk hk (g' := gb426) (o := .cells #[.int .i64 t420, .int .i64 t421, .bool t422, .bool t423] 28 (0, 0)) (by (with_reducible repeat (first | refine blk_drewN ?_ _ | refine blk_drew ?_ | refine blk_alloc ?_ _)); refine blk_put (cs := #[.int .i64 t420, .int .i64 t421, .bool t422, .bool false]) ?_ 3 _ rfl; (with_reducible repeat (first | refine blk_drewN ?_ _ | refine blk_drew ?_ | refine blk_alloc ?_ _)); refine blk_put (cs := #[.int .i64 t420, .int .i64 t421, .bool false, .bool false]) ?_ 2 _ rfl; (with_reducible repeat (first | refine blk_drewN ?_ _ | refine blk_drew ?_ | refine blk_alloc ?_ _)); refine blk_put (cs := #[.int .i64 t420, .int .i64 0, .bool false, .bool false]) ?_ 1 _ rfl; (with_reducible repeat (first | refine blk_drewN ?_ _ | refine blk_drew ?_ | refine blk_alloc ?_ _)); refine blk_put (cs := #[.int .i64 0, .int .i64 0, .bool false, .bool false]) ?_ 0 _ rfl; (with_reducible repeat (first | refine blk_drewN ?_ _ | refine blk_drew ?_ | refine blk_alloc ?_ _)); exact BK426.out) NB426_0.out (by simp)); replace HK := zA (KeepBut.trans (zk2 HK GW419 GW426) hk (.inl rfl)); replace HB := zA (hb); replace HI0 := zA (hi); (try clear hb); (try clear hb2); (try clear hk); (try clear hi)))
  replace BK419 := zA (blk_drew BK419.out)
  replace BK426 := zA (blk_drew BK426.out)
  replace HI0 := zA (IsS115.drew HI0.out)
  replace HK := zA (keep_drew HK.out)
  replace HB := zA (below_drew1 HB.out)
  refine start_ (n := 12) (S := fun w' => w'.cell? ⟨gb426, 0, none⟩ = some (.int .i64 t420) ∧ w'.cell? ⟨gb426, 1, none⟩ = some (.int .i64 t421) ∧ w'.cell? ⟨gb426, 2, none⟩ = some (.bool t422) ∧ w'.cell? ⟨gb426, 3, none⟩ = some (.bool t423)) (ds := []) #[false, false, false, false, false, false, false, false, false, false, false, false] zn rfl rfl ⟨(blk_cell BK426.out 0).trans rfl, (blk_cell BK426.out 1).trans rfl, (blk_cell BK426.out 2).trans rfl, (blk_cell BK426.out 3).trans rfl⟩ (fun hHeld => ?_); refine with_tabW spec_DrawOrbitOf.tab6 spec_DrawOrbitOf.bits6 (fun HT_ HW_ => ?_)
  generalize w14.drew = w15 at BK419 BK426 HI0 HK HB hHeld ⊢
  refine zq HT_ (i := 1) (N := some 19) ?_
  refine zq HT_ (i := 4) (N := some 22) ?_
  refine zq HT_ (i := 6) (N := some 24) ?_
  refine zx4 HT_ HW_ hHeld (i := 0) (N := some 18) ?_
  refine zx4 HT_ HW_ hHeld (i := 2) (N := some 20) ?_
  refine one_ (i := 3) (N := some 21) #[true, true, true, true, true, false, true, false, false, false, false, false] rfl rfl (one_of HT_.out zn) (by decide) (fun K hK => ?_)
  refine goes_ Try.func100 zn rfl #[.pointer (some ⟨g, 0, none⟩), .agg #[.int .i64 t420, .int .i64 t421, .bool t422, .bool t423]] (by rfl) rfl rfl zm ?_
  with_reducible refine (spec_l1Cur_cellAround.calls g l0 t428 t429 t420 t421 t422 t423 t430 t431 t432 w _ ?side1 ?side2 A5.out).mono ?_
  (case side1 => exact zI2 HI0 NB0_419 NB0_426)
  (case side2 => exact zJ2 HB HI0 GE419 GE426)
  rintro e w16 ⟨rfl, hi, hb, hk⟩
  refine ⟨_, rfl, ?_⟩
  replace BK419 := zX BK419 hk NB419_0
  replace BK426 := zX BK426 hk NB426_0
  replace HK := zA (KeepBut.trans (zk2 HK GW419 GW426) hk (.inl rfl))
  replace HB := zA (hb)
  replace HI0 := zA (hi)
  (try clear hb); (try clear hb2); (try clear hk); (try clear hi)
  refine hK.out _ _ ⟨(blk_cell BK426.out 0).trans rfl, (blk_cell BK426.out 1).trans rfl, (blk_cell BK426.out 2).trans rfl, (blk_cell BK426.out 3).trans rfl⟩ (fun hHeld => ?_)
  clear hK K
  refine norm_ (a' := ?_) ?_ ?_
  rotate_left
  ·show Act.put _ (some 21) _ = _
   simp only [Act.put, List.setIfInBounds_toArray, List.set_cons_zero, List.set_cons_succ, i64_w, i32_w]
   rfl
  refine one_ (i := 5) (N := some 23) #[true, true, true, true, true, true, true, false, false, false, false, false] rfl rfl (one_of HT_.out zn) (by decide) (fun K hK => ?_)
  refine goes_ Try.func101 zn rfl #[.pointer (some ⟨g, 0, none⟩)] (by rfl) rfl rfl zm ?_
  with_reducible refine (spec_l1Cur_by.calls g l0 t431 t432 t433 t434 t435 w _ ?side1 ?side2 A6.out).mono ?_
  (case side1 => exact zI2 HI0 NB0_419 NB0_426)
  (case side2 => exact zJ2 HB HI0 GE419 GE426)
  rintro e w17 ⟨rfl, hi, hb, hk⟩
  refine ⟨_, rfl, ?_⟩
  replace BK419 := zX BK419 hk NB419_0
  replace BK426 := zX BK426 hk NB426_0
  replace HK := zA (KeepBut.trans (zk2 HK GW419 GW426) hk (.inl rfl))
  replace HB := zA (hb)
  replace HI0 := zA (hi)
  (try clear hb); (try clear hb2); (try clear hk); (try clear hi)
  refine hK.out _ _ ⟨(blk_cell BK426.out 0).trans rfl, (blk_cell BK426.out 1).trans rfl, (blk_cell BK426.out 2).trans rfl, (blk_cell BK426.out 3).trans rfl⟩ (fun hHeld => ?_)
  clear hK K
  refine norm_ (a' := ?_) ?_ ?_
  rotate_left
  ·show Act.put _ (some 23) _ = _
   simp only [Act.put, List.setIfInBounds_toArray, List.set_cons_zero, List.set_cons_succ, i64_w, i32_w]
   rfl
  refine one_ (i := 7) (N := some 25) #[true, true, true, true, true, true, true, true, false, false, false, false] rfl rfl (one_of HT_.out zn) (by decide) (fun K hK => ?_)
  refine goes_ Try.func101 zn rfl #[.pointer (some ⟨g, 0, none⟩)] (by rfl) rfl rfl zm ?_
  with_reducible refine (spec_l1Cur_by.calls g l0 t434 t435 t436 t437 t438 w _ ?side1 ?side2 A7.out).mono ?_
  (case side1 => exact zI2 HI0 NB0_419 NB0_426)
  (case side2 => exact zJ2 HB HI0 GE419 GE426)
  rintro e w18 ⟨rfl, hi, hb, hk⟩
  refine ⟨_, rfl, ?_⟩
  replace BK419 := zX BK419 hk NB419_0
  replace BK426 := zX BK426 hk NB426_0
  replace HK := zA (KeepBut.trans (zk2 HK GW419 GW426) hk (.inl rfl))
  replace HB := zA (hb)
  replace HI0 := zA (hi)
  (try clear hb); (try clear hb2); (try clear hk); (try clear hi)
  refine hK.out _ _ ⟨(blk_cell BK426.out 0).trans rfl, (blk_cell BK426.out 1).trans rfl, (blk_cell BK426.out 2).trans rfl, (blk_cell BK426.out 3).trans rfl⟩ (fun hHeld => ?_)
  clear hK K
  refine norm_ (a' := ?_) ?_ ?_
  rotate_left
  ·show Act.put _ (some 25) _ = _
   simp only [Act.put, List.setIfInBounds_toArray, List.set_cons_zero, List.set_cons_succ, i64_w, i32_w]
   rfl
  refine one_ (i := 8) (N := none) #[true, true, true, true, true, true, true, true, true, false, false, false] rfl rfl (one_of HT_.out zn) (by decide) (fun K hK => ?_)
  have hs19 : w18.cell? ⟨gb419, 0, none⟩ = some (.int .i64 0) := (blk_cell BK419.out 0).trans rfl
  have hfs19 := blk_frozen BK419.out 0
  have hns19_1 := NB426_419.out
  have hms19_1 := NB419_426.out
  have hs20 : w18.cell? ⟨gb419, 1, none⟩ = some (.int .i64 0) := (blk_cell BK419.out 1).trans rfl
  have hfs20 := blk_frozen BK419.out 1
  have hns20_1 := NB426_419.out
  have hms20_1 := NB419_426.out
  have hs21 : w18.cell? ⟨gb419, 2, none⟩ = some (.bool false) := (blk_cell BK419.out 2).trans rfl
  have hfs21 := blk_frozen BK419.out 2
  have hns21_1 := NB426_419.out
  have hms21_1 := NB419_426.out
  have hs22 : w18.cell? ⟨gb419, 3, none⟩ = some (.bool false) := (blk_cell BK419.out 3).trans rfl
  have hfs22 := blk_frozen BK419.out 3
  have hns22_1 := NB426_419.out
  have hms22_1 := NB419_426.out
  refine skip_ (w1 := ?_) (by rfl) rfl ?_ ?_
  rotate_left
  ·go_simp
   rfl
  refine hK.out _ _ ⟨((cell_far (p := ⟨gb419, _, none⟩) NB426_419.out _).trans (((cell_far (p := ⟨gb419, _, none⟩) NB426_419.out _).trans (((cell_far (p := ⟨gb419, _, none⟩) NB426_419.out _).trans (((cell_far (p := ⟨gb419, _, none⟩) NB426_419.out _).trans (hHeld.1)))))))), ((cell_far (p := ⟨gb419, _, none⟩) NB426_419.out _).trans (((cell_far (p := ⟨gb419, _, none⟩) NB426_419.out _).trans (((cell_far (p := ⟨gb419, _, none⟩) NB426_419.out _).trans (((cell_far (p := ⟨gb419, _, none⟩) NB426_419.out _).trans (hHeld.2.1)))))))), ((cell_far (p := ⟨gb419, _, none⟩) NB426_419.out _).trans (((cell_far (p := ⟨gb419, _, none⟩) NB426_419.out _).trans (((cell_far (p := ⟨gb419, _, none⟩) NB426_419.out _).trans (((cell_far (p := ⟨gb419, _, none⟩) NB426_419.out _).trans (hHeld.2.2.1)))))))), ((cell_far (p := ⟨gb419, _, none⟩) NB426_419.out _).trans (((cell_far (p := ⟨gb419, _, none⟩) NB426_419.out _).trans (((cell_far (p := ⟨gb419, _, none⟩) NB426_419.out _).trans (((cell_far (p := ⟨gb419, _, none⟩) NB426_419.out _).trans (hHeld.2.2.2))))))))⟩ (fun hHeld => ?_)
  clear hK K
  refine zq HT_ (i := 9) (N := some 3) ?_
  refine zq HT_ (i := 10) (N := some 4) ?_
  refine zq HT_ (i := 11) (N := some 5) ?_
  refine done_ (done_of HT_.out zn) ?_
  try go_wp2
  refine bodyPost_ret (results_list (rs := [.cell 2 28, .tmp 3, .tmp 4, .tmp 5]) rfl (by simp) (.cell gb419 28 #[.int .i64 t420, .int .i64 t421, .bool t422, .bool t423] (0, 0) _ rfl (by (with_reducible repeat (first | refine blk_drewN ?_ _ | refine blk_drew ?_ | refine blk_alloc ?_ _)); refine blk_put (cs := #[.int .i64 t420, .int .i64 t421, .bool t422, .bool false]) ?_ 3 _ rfl; (with_reducible repeat (first | refine blk_drewN ?_ _ | refine blk_drew ?_ | refine blk_alloc ?_ _)); refine blk_put (cs := #[.int .i64 t420, .int .i64 t421, .bool false, .bool false]) ?_ 2 _ rfl; (with_reducible repeat (first | refine blk_drewN ?_ _ | refine blk_drew ?_ | refine blk_alloc ?_ _)); refine blk_put (cs := #[.int .i64 t420, .int .i64 0, .bool false, .bool false]) ?_ 1 _ rfl; (with_reducible repeat (first | refine blk_drewN ?_ _ | refine blk_drew ?_ | refine blk_alloc ?_ _)); refine blk_put (cs := #[.int .i64 0, .int .i64 0, .bool false, .bool false]) ?_ 0 _ rfl; (with_reducible repeat (first | refine blk_drewN ?_ _ | refine blk_drew ?_ | refine blk_alloc ?_ _)); exact BK419.out) Try.underlying28 rfl zn (.tmp (.tmp (.tmp .nil))))) rfl ?_
  exact ⟨zt, zJ2 HB HI0 GE419 GE426⟩
 ·replace c4 := Bool.eq_false_iff.mpr c4
  subst c4
  have H1 : ((spec_l1Cur_cellAround.f l0 t428 t429 t420 t421 true true).bind fun bt439 => ((spec_l1Cur_by.f l0 bt439.2.1 bt439.2.2).bind fun bt442 => ((spec_l1Cur_by.f l0 bt442.2.1 bt442.2.2).bind fun bt445 => (some (t420, t421, true, true, bt439.1, bt442.1, bt445.1, bt445.2.1, bt445.2.2))))) = some (q1, q2, q3, q4, q5, q6, q7, q8, q9) := by rw [if_neg (show ¬ (false = true) by decide)] at H; exact H
  clear H
  have H := H1
  clear H1
  obtain ⟨⟨t439, t440, t441⟩, A23, H⟩ := zM H
  try dsimp only at H
  obtain ⟨⟨t442, t443, t444⟩, A24, H⟩ := zM H
  try dsimp only at H
  obtain ⟨⟨t445, t446, t447⟩, A25, H⟩ := zM H
  try dsimp only at H
  simp only [Option.some.injEq, Prod.mk.injEq] at H
  obtain ⟨rfl, rfl, rfl, rfl, rfl, rfl, rfl, rfl, rfl⟩ := H
  go_enter Try.func58, Try.ntmps58
  try go_wp2_with (first | ((with_reducible refine gate_dst (N := 2) rfl ?_); refine box_event zr (N := 2) zr (cs := #[.int .i64 0, .int .i64 0, .bool false, .bool false]) (t := 28) zh ?_; intro gb419 hg w26 hbox hb; have GE419 := zA (zG hg (below_size (zB0 HB)) : w.heap.size ≤ gb419); replace HB := zA (below_step (zB0 HB) hb); have BK419 := zA (hbox); have GW419 := GE419; clear hb hbox hg) | ((with_reducible refine gate_dst (N := 10) rfl ?_); refine box_event zr (N := 10) zr (cs := #[.slice A0 l0.length c0, .int .i64 0, .int .u64 0]) (t := 115) zh ?_; intro g hg wbx hbox hb; have n0_ := zA (below_step (zB1 HB GE419) hb); have HI0 := zA (show IsS115 w wbx g l0 0 0 from ⟨A0, c0, hbox, (by rw [hg]; exact (below_size (zB1 HB GE419))), HR0⟩); have NB0_419 := zA ((by rw [hg]; exact Nat.ne_of_gt (blk_lt (zK BK419)) : g ≠ gb419)); have NB419_0 := zA ((by rw [hg]; exact Nat.ne_of_lt (blk_lt (zK BK419)) : gb419 ≠ g)); have n1_ := zKb BK419 hb; clear HB; have HB := n0_; clear BK419; have BK419 := n1_; clear n0_ n1_; have HK := zA (KeepBut.of_below HB.out g none); clear hb hbox hg) | ((with_reducible refine gate_callee (f := 98) rfl ?_); refine goesL_ (some 12) rfl rfl Try.func98 zn rfl #[.pointer (some ⟨g, 0, none⟩), .int .i64 9] rfl zm ?_; (with_reducible refine (spec_l1Cur_around.calls g l0 0 0 9 t420 t421 t422 t423 t424 t425 w _ ?side1 ?side2 A2.out).mono ?_); (case side1 => exact zI1 HI0 NB0_419); (case side2 => exact zJ1 HB HI0 GE419); rintro e w27 ⟨rfl, hi, hb, hk⟩; refine ⟨_, rfl, ?_⟩; replace BK419 := zX BK419 hk NB419_0; replace HK := zA (KeepBut.trans (zk1 HK GW419) hk (.inl rfl)); replace HB := zA (hb); replace HI0 := zA (hi); (try clear hb); (try clear hb2); (try clear hk); (try clear hi)) | ((with_reducible refine gate_dst (N := 7) rfl ?_); refine box_event zr (N := 7) zr (cs := #[.int .i64 0, .int .i64 0, .bool false, .bool false]) (t := 28) zh ?_; intro gb426 hg w28 hbox hb; replace HB := zA (below_step (zJ1 HB HI0 GE419) hb); have BK426 := zA (hbox); have GW426 := zA ((zG hg (keep_size (w := w) (g := g) (row := none) (zk1 HK GW419)) : w.heap.size ≤ gb426)); have GE426 := zA ((Nat.le_trans HW0.out (zG hg (keep_size (w := w) (g := g) (row := none) (zk1 HK GW419)) : w.heap.size ≤ gb426) : w.heap.size ≤ gb426)); replace HK := zA (KeepBut.trans (zk1 HK GW419) (KeepBut.of_below hb g none) (.inl rfl)); have NB419_426 := zA (zNl hg BK419 : gb419 ≠ gb426); have NB426_419 := zA (zNg hg BK419 : gb426 ≠ gb419); replace BK419 := zKb BK419 hb; have NB0_426 := zA ((zP hg (show IsS115 w _ g l0 t424 t425 from zI1 HI0 NB0_419) : g ≠ gb426)); have NB426_0 := zA ((zQ hg (show IsS115 w _ g l0 t424 t425 from zI1 HI0 NB0_419) : gb426 ≠ g)); replace HI0 := zA (IsS115.below (zI1 HI0 NB0_419) hb); clear hb hbox hg; have hnb29 := NB426_419.out; have hnc29 := NB419_426.out; have hnb30 := NB426_0.out; have hnc30 := NB0_426.out; obtain ⟨z31_0, z31_1, z31_2, z31_3, y31_0, y31_1, y31_2, y31_3⟩ := zc4 BK426) | ((with_reducible refine gate_callee (f := 99) rfl ?_); refine goesL_ (some 14) rfl rfl Try.func99 zn rfl #[.pointer (some ⟨g, 0, none⟩), .int .i64 5] rfl zm ?_; (with_reducible refine (spec_l1Cur_one.calls g l0 t424 t425 5 false t428 t429 w _ ?side1 ?side2 A3.out).mono ?_); (case side1 => exact zI2 HI0 NB0_419 NB0_426); (case side2 => exact zJ2 HB HI0 GE419 GE426); rintro e w32 ⟨rfl, hi, hb, hk⟩; refine ⟨_, rfl, ?_⟩; replace BK419 := zA (KeepBut.blk hk (g' := gb419) (o := .cells #[.int .i64 0, .int .i64 0, .bool false, .bool false] 28 (0, 0)) (zD BK419 NB419_426) NB419_0.out (by simp)); replace BK426 := zA (KeepBut.blk hk (g' := gb426) (o := .cells #[.int .i64 t420, .int .i64 t421, .bool t422, .bool t423] 28 (0, 0)) (by (with_reducible repeat (first | refine blk_drewN ?_ _ | refine blk_drew ?_ | refine blk_alloc ?_ _)); refine blk_put (cs := #[.int .i64 t420, .int .i64 t421, .bool t422, .bool false]) ?_ 3 _ rfl; (with_reducible repeat (first | refine blk_drewN ?_ _ | refine blk_drew ?_ | refine blk_alloc ?_ _)); refine blk_put (cs := #[.int .i64 t420, .int .i64 t421, .bool false, .bool false]) ?_ 2 _ rfl; (with_reducible repeat (first | refine blk_drewN ?_ _ | refine blk_drew ?_ | refine blk_alloc ?_ _)); refine blk_put (cs := #[.int .i64 t420, .int .i64 0, .bool false, .bool false]) ?_ 1 _ rfl; (with_reducible repeat (first | refine blk_drewN ?_ _ | refine blk_drew ?_ | refine blk_alloc ?_ _)); refine blk_put (cs := #[.int .i64 0, .int .i64 0, .bool false, .bool false]) ?_ 0 _ rfl; (with_reducible repeat (first | refine blk_drewN ?_ _ | refine blk_drew ?_ | refine blk_alloc ?_ _)); exact BK426.out) NB426_0.out (by simp)); replace HK := zA (KeepBut.trans (zk2 HK GW419 GW426) hk (.inl rfl)); replace HB := zA (hb); replace HI0 := zA (hi); (try clear hb); (try clear hb2); (try clear hk); (try clear hi); obtain ⟨z33_0, z33_1, z33_2, z33_3, y33_0, y33_1, y33_2, y33_3⟩ := zc4 BK426))
  have n0_ : Aside0 (((w32.setCell ⟨gb426, 2, none⟩ (.bool true)).setCell ⟨gb426, 3, none⟩ (.bool true)).heap[gb419]? = some (.cells #[.int .i64 0, .int .i64 0, .bool false, .bool false] 28 (0, 0))) := ⟨by (with_reducible repeat (first | refine blk_drewN ?_ _ | refine blk_drew ?_ | refine blk_alloc ?_ _)); refine blk_far ?_ NB419_426.out _; (with_reducible repeat (first | refine blk_drewN ?_ _ | refine blk_drew ?_ | refine blk_alloc ?_ _)); refine blk_far ?_ NB419_426.out _; (with_reducible repeat (first | refine blk_drewN ?_ _ | refine blk_drew ?_ | refine blk_alloc ?_ _)); exact BK419.out⟩
  have n1_ : Aside0 (((w32.setCell ⟨gb426, 2, none⟩ (.bool true)).setCell ⟨gb426, 3, none⟩ (.bool true)).heap[gb426]? = some (.cells #[.int .i64 t420, .int .i64 t421, .bool true, .bool true] 28 (0, 0))) := ⟨by (with_reducible repeat (first | refine blk_drewN ?_ _ | refine blk_drew ?_ | refine blk_alloc ?_ _)); refine blk_put (cs := #[.int .i64 t420, .int .i64 t421, .bool true, .bool t423]) ?_ 3 _ rfl; (with_reducible repeat (first | refine blk_drewN ?_ _ | refine blk_drew ?_ | refine blk_alloc ?_ _)); refine blk_put (cs := #[.int .i64 t420, .int .i64 t421, .bool t422, .bool t423]) ?_ 2 _ rfl; (with_reducible repeat (first | refine blk_drewN ?_ _ | refine blk_drew ?_ | refine blk_alloc ?_ _)); exact BK426.out⟩
  have n2_ : Aside0 (IsS115 w ((w32.setCell ⟨gb426, 2, none⟩ (.bool true)).setCell ⟨gb426, 3, none⟩ (.bool true)) g l0 t428 t429) := ⟨zI2 HI0 NB0_419 NB0_426⟩
  have n3_ : Aside0 (KeepBut w ((w32.setCell ⟨gb426, 2, none⟩ (.bool true)).setCell ⟨gb426, 3, none⟩ (.bool true)) g none) := ⟨zk2 HK GW419 GW426⟩
  have n4_ : Aside0 (Below w.heap.size w ((w32.setCell ⟨gb426, 2, none⟩ (.bool true)).setCell ⟨gb426, 3, none⟩ (.bool true))) := ⟨zJ2 HB HI0 GE419 GE426⟩
  (try clear BK419); (try clear BK426); (try clear HI0); (try clear HK); (try clear HB)
  generalize ((w32.setCell ⟨gb426, 2, none⟩ (.bool true)).setCell ⟨gb426, 3, none⟩ (.bool true)) = w34 at n0_ n1_ n2_ n3_ n4_ ⊢
  have BK419 := n0_
  have BK426 := n1_
  have HI0 := n2_
  have HK := n3_
  have HB := n4_
  clear n0_ n1_ n2_ n3_ n4_
  replace BK419 := zA (blk_drew BK419.out)
  replace BK426 := zA (blk_drew BK426.out)
  replace HI0 := zA (IsS115.drew HI0.out)
  replace HK := zA (keep_drew HK.out)
  replace HB := zA (below_drew1 HB.out)
  refine start_ (n := 12) (S := fun w' => w'.cell? ⟨gb426, 0, none⟩ = some (.int .i64 t420) ∧ w'.cell? ⟨gb426, 1, none⟩ = some (.int .i64 t421) ∧ w'.cell? ⟨gb426, 2, none⟩ = some (.bool true) ∧ w'.cell? ⟨gb426, 3, none⟩ = some (.bool true)) (ds := []) #[false, false, false, false, false, false, false, false, false, false, false, false] zn rfl rfl ⟨(blk_cell BK426.out 0).trans rfl, (blk_cell BK426.out 1).trans rfl, (blk_cell BK426.out 2).trans rfl, (blk_cell BK426.out 3).trans rfl⟩ (fun hHeld => ?_); refine with_tabW spec_DrawOrbitOf.tab6 spec_DrawOrbitOf.bits6 (fun HT_ HW_ => ?_)
  generalize w34.drew = w35 at BK419 BK426 HI0 HK HB hHeld ⊢
  refine zq HT_ (i := 1) (N := some 19) ?_
  refine zq HT_ (i := 4) (N := some 22) ?_
  refine zq HT_ (i := 6) (N := some 24) ?_
  refine zx4 HT_ HW_ hHeld (i := 0) (N := some 18) ?_
  refine zx4 HT_ HW_ hHeld (i := 2) (N := some 20) ?_
  refine one_ (i := 3) (N := some 21) #[true, true, true, true, true, false, true, false, false, false, false, false] rfl rfl (one_of HT_.out zn) (by decide) (fun K hK => ?_)
  refine goes_ Try.func100 zn rfl #[.pointer (some ⟨g, 0, none⟩), .agg #[.int .i64 t420, .int .i64 t421, .bool true, .bool true]] (by rfl) rfl rfl zm ?_
  with_reducible refine (spec_l1Cur_cellAround.calls g l0 t428 t429 t420 t421 true true t439 t440 t441 w _ ?side1 ?side2 A23.out).mono ?_
  (case side1 => exact zI2 HI0 NB0_419 NB0_426)
  (case side2 => exact zJ2 HB HI0 GE419 GE426)
  rintro e w36 ⟨rfl, hi, hb, hk⟩
  refine ⟨_, rfl, ?_⟩
  replace BK419 := zX BK419 hk NB419_0
  replace BK426 := zX BK426 hk NB426_0
  replace HK := zA (KeepBut.trans (zk2 HK GW419 GW426) hk (.inl rfl))
  replace HB := zA (hb)
  replace HI0 := zA (hi)
  (try clear hb); (try clear hb2); (try clear hk); (try clear hi)
  refine hK.out _ _ ⟨(blk_cell BK426.out 0).trans rfl, (blk_cell BK426.out 1).trans rfl, (blk_cell BK426.out 2).trans rfl, (blk_cell BK426.out 3).trans rfl⟩ (fun hHeld => ?_)
  clear hK K
  refine norm_ (a' := ?_) ?_ ?_
  rotate_left
  ·show Act.put _ (some 21) _ = _
   simp only [Act.put, List.setIfInBounds_toArray, List.set_cons_zero, List.set_cons_succ, i64_w, i32_w]
   rfl
  refine one_ (i := 5) (N := some 23) #[true, true, true, true, true, true, true, false, false, false, false, false] rfl rfl (one_of HT_.out zn) (by decide) (fun K hK => ?_)
  refine goes_ Try.func101 zn rfl #[.pointer (some ⟨g, 0, none⟩)] (by rfl) rfl rfl zm ?_
  with_reducible refine (spec_l1Cur_by.calls g l0 t440 t441 t442 t443 t444 w _ ?side1 ?side2 A24.out).mono ?_
  (case side1 => exact zI2 HI0 NB0_419 NB0_426)
  (case side2 => exact zJ2 HB HI0 GE419 GE426)
  rintro e w37 ⟨rfl, hi, hb, hk⟩
  refine ⟨_, rfl, ?_⟩
  replace BK419 := zX BK419 hk NB419_0
  replace BK426 := zX BK426 hk NB426_0
  replace HK := zA (KeepBut.trans (zk2 HK GW419 GW426) hk (.inl rfl))
  replace HB := zA (hb)
  replace HI0 := zA (hi)
  (try clear hb); (try clear hb2); (try clear hk); (try clear hi)
  refine hK.out _ _ ⟨(blk_cell BK426.out 0).trans rfl, (blk_cell BK426.out 1).trans rfl, (blk_cell BK426.out 2).trans rfl, (blk_cell BK426.out 3).trans rfl⟩ (fun hHeld => ?_)
  clear hK K
  refine norm_ (a' := ?_) ?_ ?_
  rotate_left
  ·show Act.put _ (some 23) _ = _
   simp only [Act.put, List.setIfInBounds_toArray, List.set_cons_zero, List.set_cons_succ, i64_w, i32_w]
   rfl
  refine one_ (i := 7) (N := some 25) #[true, true, true, true, true, true, true, true, false, false, false, false] rfl rfl (one_of HT_.out zn) (by decide) (fun K hK => ?_)
  refine goes_ Try.func101 zn rfl #[.pointer (some ⟨g, 0, none⟩)] (by rfl) rfl rfl zm ?_
  with_reducible refine (spec_l1Cur_by.calls g l0 t443 t444 t445 t446 t447 w _ ?side1 ?side2 A25.out).mono ?_
  (case side1 => exact zI2 HI0 NB0_419 NB0_426)
  (case side2 => exact zJ2 HB HI0 GE419 GE426)
  rintro e w38 ⟨rfl, hi, hb, hk⟩
  refine ⟨_, rfl, ?_⟩
  replace BK419 := zX BK419 hk NB419_0
  replace BK426 := zX BK426 hk NB426_0
  replace HK := zA (KeepBut.trans (zk2 HK GW419 GW426) hk (.inl rfl))
  replace HB := zA (hb)
  replace HI0 := zA (hi)
  (try clear hb); (try clear hb2); (try clear hk); (try clear hi)
  refine hK.out _ _ ⟨(blk_cell BK426.out 0).trans rfl, (blk_cell BK426.out 1).trans rfl, (blk_cell BK426.out 2).trans rfl, (blk_cell BK426.out 3).trans rfl⟩ (fun hHeld => ?_)
  clear hK K
  refine norm_ (a' := ?_) ?_ ?_
  rotate_left
  ·show Act.put _ (some 25) _ = _
   simp only [Act.put, List.setIfInBounds_toArray, List.set_cons_zero, List.set_cons_succ, i64_w, i32_w]
   rfl
  refine one_ (i := 8) (N := none) #[true, true, true, true, true, true, true, true, true, false, false, false] rfl rfl (one_of HT_.out zn) (by decide) (fun K hK => ?_)
  have hs39 : w38.cell? ⟨gb419, 0, none⟩ = some (.int .i64 0) := (blk_cell BK419.out 0).trans rfl
  have hfs39 := blk_frozen BK419.out 0
  have hns39_1 := NB426_419.out
  have hms39_1 := NB419_426.out
  have hs40 : w38.cell? ⟨gb419, 1, none⟩ = some (.int .i64 0) := (blk_cell BK419.out 1).trans rfl
  have hfs40 := blk_frozen BK419.out 1
  have hns40_1 := NB426_419.out
  have hms40_1 := NB419_426.out
  have hs41 : w38.cell? ⟨gb419, 2, none⟩ = some (.bool false) := (blk_cell BK419.out 2).trans rfl
  have hfs41 := blk_frozen BK419.out 2
  have hns41_1 := NB426_419.out
  have hms41_1 := NB419_426.out
  have hs42 : w38.cell? ⟨gb419, 3, none⟩ = some (.bool false) := (blk_cell BK419.out 3).trans rfl
  have hfs42 := blk_frozen BK419.out 3
  have hns42_1 := NB426_419.out
  have hms42_1 := NB419_426.out
  refine skip_ (w1 := ?_) (by rfl) rfl ?_ ?_
  rotate_left
  ·go_simp
   rfl
  refine hK.out _ _ ⟨((cell_far (p := ⟨gb419, _, none⟩) NB426_419.out _).trans (((cell_far (p := ⟨gb419, _, none⟩) NB426_419.out _).trans (((cell_far (p := ⟨gb419, _, none⟩) NB426_419.out _).trans (((cell_far (p := ⟨gb419, _, none⟩) NB426_419.out _).trans (hHeld.1)))))))), ((cell_far (p := ⟨gb419, _, none⟩) NB426_419.out _).trans (((cell_far (p := ⟨gb419, _, none⟩) NB426_419.out _).trans (((cell_far (p := ⟨gb419, _, none⟩) NB426_419.out _).trans (((cell_far (p := ⟨gb419, _, none⟩) NB426_419.out _).trans (hHeld.2.1)))))))), ((cell_far (p := ⟨gb419, _, none⟩) NB426_419.out _).trans (((cell_far (p := ⟨gb419, _, none⟩) NB426_419.out _).trans (((cell_far (p := ⟨gb419, _, none⟩) NB426_419.out _).trans (((cell_far (p := ⟨gb419, _, none⟩) NB426_419.out _).trans (hHeld.2.2.1)))))))), ((cell_far (p := ⟨gb419, _, none⟩) NB426_419.out _).trans (((cell_far (p := ⟨gb419, _, none⟩) NB426_419.out _).trans (((cell_far (p := ⟨gb419, _, none⟩) NB426_419.out _).trans (((cell_far (p := ⟨gb419, _, none⟩) NB426_419.out _).trans (hHeld.2.2.2))))))))⟩ (fun hHeld => ?_)
  clear hK K
  refine zq HT_ (i := 9) (N := some 3) ?_
  refine zq HT_ (i := 10) (N := some 4) ?_
  refine zq HT_ (i := 11) (N := some 5) ?_
  refine done_ (done_of HT_.out zn) ?_
  try go_wp2
  refine bodyPost_ret (results_list (rs := [.cell 2 28, .tmp 3, .tmp 4, .tmp 5]) rfl (by simp) (.cell gb419 28 #[.int .i64 t420, .int .i64 t421, .bool true, .bool true] (0, 0) _ rfl (by (with_reducible repeat (first | refine blk_drewN ?_ _ | refine blk_drew ?_ | refine blk_alloc ?_ _)); refine blk_put (cs := #[.int .i64 t420, .int .i64 t421, .bool true, .bool false]) ?_ 3 _ rfl; (with_reducible repeat (first | refine blk_drewN ?_ _ | refine blk_drew ?_ | refine blk_alloc ?_ _)); refine blk_put (cs := #[.int .i64 t420, .int .i64 t421, .bool false, .bool false]) ?_ 2 _ rfl; (with_reducible repeat (first | refine blk_drewN ?_ _ | refine blk_drew ?_ | refine blk_alloc ?_ _)); refine blk_put (cs := #[.int .i64 t420, .int .i64 0, .bool false, .bool false]) ?_ 1 _ rfl; (with_reducible repeat (first | refine blk_drewN ?_ _ | refine blk_drew ?_ | refine blk_alloc ?_ _)); refine blk_put (cs := #[.int .i64 0, .int .i64 0, .bool false, .bool false]) ?_ 0 _ rfl; (with_reducible repeat (first | refine blk_drewN ?_ _ | refine blk_drew ?_ | refine blk_alloc ?_ _)); exact BK419.out) Try.underlying28 rfl zn (.tmp (.tmp (.tmp .nil))))) rfl ?_
  exact ⟨zt, zJ2 HB HI0 GE419 GE426⟩
def spec_l1Cur_leaper.f (s0_0 : List Int) (s0_1 : Int) (s0_2 : Int) : Option (Int × Int × Int × Int) := (spec_l1Cur_pick.f s0_0 s0_1 s0_2 16).bind fun bt421 => (if bt421.1 = 0 then ((spec_l1Cur_among.f s0_0 bt421.2.1 bt421.2.2 (([(-1), 3, 0, 4611686018427387904] : List Int))).bind fun bt427 => ((spec_l1Cur_among.f s0_0 bt427.2.1 bt427.2.2 (([0, 1, 5, 6, (-1)] : List Int))).bind fun bt433 => (some (bt427.1, bt433.1, bt433.2.1, bt433.2.2)))) else (if bt421.1 = 1 then ((spec_l1Cur_pick.f s0_0 bt421.2.1 bt421.2.2 4).bind fun bt436 => ((spec_l1Cur_pick.f s0_0 bt436.2.1 bt436.2.2 3).bind fun bt439 => ((spec_l1Most.f 1 (wrap64 (bt436.1 + bt439.1))).bind fun t442 => (some (bt436.1, t442, bt439.2.1, bt439.2.2))))) else (if bt421.1 = 2 then ((spec_l1Cur_pick.f s0_0 bt421.2.1 bt421.2.2 4).bind fun bt443 => ((spec_l1Cur_pick.f s0_0 bt443.2.1 bt443.2.2 3).bind fun bt446 => ((spec_l1Most.f 1 (wrap64 (bt443.1 + bt446.1))).bind fun t449 => (some (bt443.1, t449, bt446.2.1, bt446.2.2))))) else (if bt421.1 = 3 then ((spec_l1Cur_pick.f s0_0 bt421.2.1 bt421.2.2 4).bind fun bt450 => ((spec_l1Cur_pick.f s0_0 bt450.2.1 bt450.2.2 3).bind fun bt453 => ((spec_l1Most.f 1 (wrap64 (bt450.1 + bt453.1))).bind fun t456 => (some (bt450.1, t456, bt453.2.1, bt453.2.2))))) else (if bt421.1 = 4 then ((spec_l1Cur_pick.f s0_0 bt421.2.1 bt421.2.2 4).bind fun bt457 => ((spec_l1Cur_pick.f s0_0 bt457.2.1 bt457.2.2 3).bind fun bt460 => ((spec_l1Most.f 1 (wrap64 (bt457.1 + bt460.1))).bind fun t463 => (some (bt457.1, t463, bt460.2.1, bt460.2.2))))) else (if bt421.1 = 5 then ((spec_l1Cur_pick.f s0_0 bt421.2.1 bt421.2.2 4).bind fun bt464 => ((spec_l1Cur_pick.f s0_0 bt464.2.1 bt464.2.2 3).bind fun bt467 => ((spec_l1Most.f 1 (wrap64 (bt464.1 + bt467.1))).bind fun t470 => (some (bt464.1, t470, bt467.2.1, bt467.2.2))))) else (some (1, 2, bt421.2.1, bt421.2.2))))))))
set_option maxHeartbeats 8000000 in
set_option maxRecDepth 100000 in
theorem spec_l1Cur_leaper.calls (g : Nat) (s0_0 : List Int) (s0_1 : Int) (s0_2 : Int) (r1 : Int) (r2 : Int) (r3 : Int) (r4 : Int) (w0 w : World) (hI : IsS115 w0 w g s0_0 s0_1 s0_2) (hB : Below w0.heap.size w0 w) (h : spec_l1Cur_leaper.f s0_0 s0_1 s0_2 = some (r1, r2, r3, r4)) :
  Calls Try.prog 102 #[.pointer (some ⟨g, 0, none⟩)] w fun e w' => e = .returned (.agg #[.int .i64 r1, .int .i64 r2]) ∧ IsS115 w0 w' g s0_0 r3 r4 ∧ Below w0.heap.size w0 w' ∧ KeepBut w w' g none := by
 have hu30 := Try.underlying30
 have HI0 := zA hI
 have HK := zA (KeepBut.refl w g none)
 have HL := zA hB.size
 clear hI
 have HW0 := zA hB.size
 have HB := zA hB
 clear hB
 have H : ((spec_l1Cur_pick.f s0_0 s0_1 s0_2 16).bind fun bt421 => (if bt421.1 = 0 then ((spec_l1Cur_among.f s0_0 bt421.2.1 bt421.2.2 (([(-1), 3, 0, 4611686018427387904] : List Int))).bind fun bt427 => ((spec_l1Cur_among.f s0_0 bt427.2.1 bt427.2.2 (([0, 1, 5, 6, (-1)] : List Int))).bind fun bt433 => (some (bt427.1, bt433.1, bt433.2.1, bt433.2.2)))) else (if bt421.1 = 1 then ((spec_l1Cur_pick.f s0_0 bt421.2.1 bt421.2.2 4).bind fun bt436 => ((spec_l1Cur_pick.f s0_0 bt436.2.1 bt436.2.2 3).bind fun bt439 => ((spec_l1Most.f 1 (wrap64 (bt436.1 + bt439.1))).bind fun t442 => (some (bt436.1, t442, bt439.2.1, bt439.2.2))))) else (if bt421.1 = 2 then ((spec_l1Cur_pick.f s0_0 bt421.2.1 bt421.2.2 4).bind fun bt443 => ((spec_l1Cur_pick.f s0_0 bt443.2.1 bt443.2.2 3).bind fun bt446 => ((spec_l1Most.f 1 (wrap64 (bt443.1 + bt446.1))).bind fun t449 => (some (bt443.1, t449, bt446.2.1, bt446.2.2))))) else (if bt421.1 = 3 then ((spec_l1Cur_pick.f s0_0 bt421.2.1 bt421.2.2 4).bind fun bt450 => ((spec_l1Cur_pick.f s0_0 bt450.2.1 bt450.2.2 3).bind fun bt453 => ((spec_l1Most.f 1 (wrap64 (bt450.1 + bt453.1))).bind fun t456 => (some (bt450.1, t456, bt453.2.1, bt453.2.2))))) else (if bt421.1 = 4 then ((spec_l1Cur_pick.f s0_0 bt421.2.1 bt421.2.2 4).bind fun bt457 => ((spec_l1Cur_pick.f s0_0 bt457.2.1 bt457.2.2 3).bind fun bt460 => ((spec_l1Most.f 1 (wrap64 (bt457.1 + bt460.1))).bind fun t463 => (some (bt457.1, t463, bt460.2.1, bt460.2.2))))) else (if bt421.1 = 5 then ((spec_l1Cur_pick.f s0_0 bt421.2.1 bt421.2.2 4).bind fun bt464 => ((spec_l1Cur_pick.f s0_0 bt464.2.1 bt464.2.2 3).bind fun bt467 => ((spec_l1Most.f 1 (wrap64 (bt464.1 + bt467.1))).bind fun t470 => (some (bt464.1, t470, bt467.2.1, bt467.2.2))))) else (some (1, 2, bt421.2.1, bt421.2.2))))))))) = some (r1, r2, r3, r4) := h
 clear h
 obtain ⟨⟨t421, t422, t423⟩, A2, H⟩ := zM H
 try dsimp only at H
 by_cases c3 : t421 = 0
 ·rw [if_pos c3] at H
  have c3b0 : (t421 == 0) = true := beq_iff_eq.mpr c3
  have c3b1 : (t421 != 0) = false := bne_eq_false_iff_eq.mpr c3
  clear c3
  obtain ⟨y424, hy424⟩ : ∃ y_ : List Int, y_ = (([(-1), 3, 0, 4611686018427387904] : List Int)) := ⟨_, rfl⟩
  replace H : ((spec_l1Cur_among.f s0_0 t422 t423 y424).bind fun bt427 => ((spec_l1Cur_among.f s0_0 bt427.2.1 bt427.2.2 (([0, 1, 5, 6, (-1)] : List Int))).bind fun bt433 => (some (bt427.1, bt433.1, bt433.2.1, bt433.2.2)))) = some (r1, r2, r3, r4) := by first | (rw [hy424]; with_reducible exact H) | (have H2_ := (Option.bind_some _ _).symm.trans H; rw [hy424]; with_reducible exact H2_) | (have H2_ := (Option.bind_some _ _).symm.trans H; with_reducible exact H2_) | with_reducible exact H | (rw [hy424]; exact H) | exact H
  have Ny424 := zA hy424
  clear hy424
  obtain ⟨⟨t427, t428, t429⟩, A4, H⟩ := zM H
  try dsimp only at H
  obtain ⟨y430, hy430⟩ : ∃ y_ : List Int, y_ = (([0, 1, 5, 6, (-1)] : List Int)) := ⟨_, rfl⟩
  replace H : ((spec_l1Cur_among.f s0_0 t428 t429 y430).bind fun bt433 => (some (t427, bt433.1, bt433.2.1, bt433.2.2))) = some (r1, r2, r3, r4) := by first | (rw [hy430]; with_reducible exact H) | (have H2_ := (Option.bind_some _ _).symm.trans H; rw [hy430]; with_reducible exact H2_) | (have H2_ := (Option.bind_some _ _).symm.trans H; with_reducible exact H2_) | with_reducible exact H | (rw [hy430]; exact H) | exact H
  have Ny430 := zA hy430
  clear hy430
  obtain ⟨⟨t433, t434, t435⟩, A5, H⟩ := zM H
  try dsimp only at H
  simp only [Option.some.injEq, Prod.mk.injEq] at H
  obtain ⟨rfl, rfl, rfl, rfl⟩ := H
  go_enter Try.func102, Try.ntmps102
  go_wp2_with (first | ((with_reducible refine gate_dst (N := 2) rfl ?_); refine box_event zr (N := 2) zr (cs := #[.int .i64 0, .int .i64 0]) (t := 30) zh ?_; intro gb420 hg w6 hbox hb; replace HB := zA (below_step (zJ0 HB HI0) hb); have BK420 := zA (hbox); have GW420 := zA ((zG hg (keep_size (w := w) (g := g) (row := none) (zk0 HK)) : w.heap.size ≤ gb420)); have GE420 := zA ((Nat.le_trans HW0.out (zG hg (keep_size (w := w) (g := g) (row := none) (zk0 HK)) : w.heap.size ≤ gb420) : w0.heap.size ≤ gb420)); replace HK := zA (KeepBut.trans (zk0 HK) (KeepBut.of_below hb g none) (.inl rfl)); have NB0_420 := zA ((zP hg (show IsS115 w0 _ g s0_0 s0_1 s0_2 from zI0 HI0) : g ≠ gb420)); have NB420_0 := zA ((zQ hg (show IsS115 w0 _ g s0_0 s0_1 s0_2 from zI0 HI0) : gb420 ≠ g)); replace HI0 := zA (IsS115.below (zI0 HI0) hb); clear hb hbox hg) | ((with_reducible refine gate_callee (f := 104) rfl ?_); refine goesL_ (some 5) rfl rfl Try.func104 zn rfl #[.pointer (some ⟨g, 0, none⟩), .int .i64 16] rfl zm ?_; (with_reducible refine (spec_l1Cur_pick.calls g s0_0 s0_1 s0_2 16 t421 t422 t423 w0 _ ?side1 ?side2 A2.out).mono ?_); (case side1 => exact zI1 HI0 NB0_420); (case side2 => exact zJ1 HB HI0 GE420); rintro e w7 ⟨rfl, hi, hb, hk⟩; refine ⟨_, rfl, ?_⟩; replace BK420 := zX BK420 hk NB420_0; replace HK := zA (KeepBut.trans (zk1 HK GW420) hk (.inl rfl)); replace HB := zA (hb); replace HI0 := zA (hi); (try clear hb); (try clear hb2); (try clear hk); (try clear hi)) | ((with_reducible refine gate_dst (N := 9) rfl ?_); refine Kd.R_lit (Kd.int .i64) _ 3 ?hg (N := 9) ?hd (xs := ([(-1), 3, 0, 4611686018427387904] : List Int)) (inner := [.int .i64 (-1), .int .i64 3, .int .i64 0, .int .i64 4611686018427387904]) (ok := fun _ => True) (okp := fun _ => True) ?hr ?hp (fun _ hk => hk) trivial (Below.refl _ _) (Nat.le_refl _) (by simp) ?_; (case hd => rfl); (case hg => rfl); (case hr => first | (go_simp; done) | (go_simp; rfl)); (case hp => exact (Reps.one (show Kd.M (Kd.int .i64) _ _ _ (-1) [.int .i64 (-1)] from rfl) (Reps.one (show Kd.M (Kd.int .i64) _ _ _ 3 [.int .i64 3] from rfl) (Reps.one (show Kd.M (Kd.int .i64) _ _ _ 0 [.int .i64 0] from rfl) (Reps.one (show Kd.M (Kd.int .i64) _ _ _ 4611686018427387904 [.int .i64 4611686018427387904] from rfl) (Reps.none _ _)))))); intro v425 w8 ho9 hb hg_ hnew_; clear hg_ hnew_; (first | rw [← Ny424.out] at ho9 | (simp only [Int.reduceToNat] at ho9; rw [← Ny424.out] at ho9)); have HO426 := zA (Kd.R_lower ho9 (keep_size (w := w) (g := g) (row := none) (zk1 HK GW420))); replace BK420 := zKb BK420 hb; replace HK := zA (KeepBut.trans (zk1 HK GW420) (KeepBut.of_below hb g none) (.inl rfl)); replace HB := zA (below_step (zJ1 HB HI0 GE420) hb); replace HI0 := zA (IsS115.below (zI1 HI0 NB0_420) hb); clear hb ho9; obtain ⟨Ao10, co10, eo10⟩ := Kd.R_slice HO426.out; subst eo10) | ((with_reducible refine gate_callee (f := 103) rfl ?_); refine goesL_ (some 10) rfl rfl Try.func103 zn rfl #[.pointer (some ⟨g, 0, none⟩), .slice Ao10 y424.length co10] rfl zm ?_; (with_reducible refine (spec_l1Cur_among.calls g s0_0 t422 t423 _ _ y424 t427 t428 t429 w0 _ ?side1 ?side2 ?side3 ?side4 ?side5 A4.out).mono ?_); (case side1 => exact zI1 HI0 NB0_420); (case side2 => exact zJ1 HB HI0 GE420); (case side3 => exact zC (Kd.R_reads' HO426.out).2.2); (case side4 => exact (Kd.R_reads' HO426.out).2.1); (case side5 => exact far_slice (IsS115.own_ne HI0.out HO426.out (by decide))); rintro e w11 ⟨rfl, hi, hb, hk⟩; refine ⟨_, rfl, ?_⟩; replace BK420 := zX BK420 hk NB420_0; replace HO426 := zA (Kd.R_mono (Kd.R_keep (IsS115.apart (show IsS115 w0 _ g s0_0 t422 t423 from zI1 HI0 NB0_420) (zR HO426.out) (by decide)) hk (fun _ h => h.2)) (fun _ h => h.1)); replace HK := zA (KeepBut.trans (zk1 HK GW420) hk (.inl rfl)); replace HB := zA (hb); replace HI0 := zA (hi); (try clear hb); (try clear hb2); (try clear hk); (try clear hi)) | ((with_reducible refine gate_dst (N := 12) rfl ?_); refine Kd.R_lit (Kd.int .i64) _ 3 ?hg (N := 12) ?hd (xs := ([0, 1, 5, 6, (-1)] : List Int)) (inner := [.int .i64 0, .int .i64 1, .int .i64 5, .int .i64 6, .int .i64 (-1)]) (ok := fun _ => True) (okp := fun _ => True) ?hr ?hp (fun _ hk => hk) trivial (Below.refl _ _) (Nat.le_refl _) (by simp) ?_; (case hd => rfl); (case hg => rfl); (case hr => first | (go_simp; done) | (go_simp; rfl)); (case hp => exact (Reps.one (show Kd.M (Kd.int .i64) _ _ _ 0 [.int .i64 0] from rfl) (Reps.one (show Kd.M (Kd.int .i64) _ _ _ 1 [.int .i64 1] from rfl) (Reps.one (show Kd.M (Kd.int .i64) _ _ _ 5 [.int .i64 5] from rfl) (Reps.one (show Kd.M (Kd.int .i64) _ _ _ 6 [.int .i64 6] from rfl) (Reps.one (show Kd.M (Kd.int .i64) _ _ _ (-1) [.int .i64 (-1)] from rfl) (Reps.none _ _))))))); intro v431 w12 ho13 hb hg_ hnew_; clear hg_ hnew_; (first | rw [← Ny430.out] at ho13 | (simp only [Int.reduceToNat] at ho13; rw [← Ny430.out] at ho13)); have HO432 := zA (Kd.R_lower (Kd.R_new' ho13 (Kd.R_lt (zR HO426.out))) (keep_size (w := w) (g := g) (row := none) (zk1 HK GW420))); replace HO426 := zA (Kd.R_elder' (zR HO426.out) (Kd.R_base ho13) hb); replace BK420 := zKb BK420 hb; replace HK := zA (KeepBut.trans (zk1 HK GW420) (KeepBut.of_below hb g none) (.inl rfl)); replace HB := zA (below_step (zJ1 HB HI0 GE420) hb); replace HI0 := zA (IsS115.below (zI1 HI0 NB0_420) hb); clear hb ho13; obtain ⟨Ao14, co14, eo14⟩ := Kd.R_slice HO432.out; subst eo14) | ((with_reducible refine gate_callee (f := 103) rfl ?_); refine goesL_ (some 13) rfl rfl Try.func103 zn rfl #[.pointer (some ⟨g, 0, none⟩), .slice Ao14 y430.length co14] rfl zm ?_; (with_reducible refine (spec_l1Cur_among.calls g s0_0 t428 t429 _ _ y430 t433 t434 t435 w0 _ ?side1 ?side2 ?side3 ?side4 ?side5 A5.out).mono ?_); (case side1 => exact zI1 HI0 NB0_420); (case side2 => exact zJ1 HB HI0 GE420); (case side3 => exact zC (Kd.R_reads' HO432.out).2.2); (case side4 => exact (Kd.R_reads' HO432.out).2.1); (case side5 => exact far_slice (IsS115.own_ne HI0.out HO432.out (by decide))); rintro e w15 ⟨rfl, hi, hb, hk⟩; refine ⟨_, rfl, ?_⟩; replace BK420 := zX BK420 hk NB420_0; replace HO426 := zA (Kd.R_mono (Kd.R_keep (IsS115.apart (show IsS115 w0 _ g s0_0 t428 t429 from zI1 HI0 NB0_420) (zR HO426.out) (by decide)) hk (fun _ h => h.2)) (fun _ h => h.1)); replace HO432 := zA (Kd.R_mono (Kd.R_keep (IsS115.apart (show IsS115 w0 _ g s0_0 t428 t429 from zI1 HI0 NB0_420) (zR HO432.out) (by decide)) hk (fun _ h => h.2)) (fun _ h => h.1)); replace HK := zA (KeepBut.trans (zk1 HK GW420) hk (.inl rfl)); replace HB := zA (hb); replace HI0 := zA (hi); (try clear hb); (try clear hb2); (try clear hk); (try clear hi); have hnb16 := NB420_0.out; have hnc16 := NB0_420.out; obtain ⟨z17_0, z17_1, y17_0, y17_1⟩ := zc2 BK420))
  refine bodyPost_ret (results_cell_row rfl _ _ gb420 30 #[.int .i64 t427, .int .i64 t433] (0, 0) _ rfl (by (with_reducible repeat (first | refine blk_drewN ?_ _ | refine blk_drew ?_ | refine blk_alloc ?_ _)); refine blk_put (cs := #[.int .i64 t427, .int .i64 0]) ?_ 1 _ rfl; (with_reducible repeat (first | refine blk_drewN ?_ _ | refine blk_drew ?_ | refine blk_alloc ?_ _)); refine blk_put (cs := #[.int .i64 0, .int .i64 0]) ?_ 0 _ rfl; (with_reducible repeat (first | refine blk_drewN ?_ _ | refine blk_drew ?_ | refine blk_alloc ?_ _)); exact BK420.out) Try.underlying30 rfl zn) rfl ?_
  exact ⟨zt, zI1 HI0 NB0_420, zJ1 HB HI0 GE420, zk1 HK GW420⟩
 ·rw [if_neg c3] at H
  have c3b0 : (t421 == 0) = false := beq_eq_false_iff_ne.mpr c3
  have c3b1 : (t421 != 0) = true := bne_iff_ne.mpr c3
  by_cases c18 : t421 = 1
  ·rw [if_pos c18] at H
   have c18b0 : (t421 == 1) = true := beq_iff_eq.mpr c18
   have c18b1 : (t421 != 1) = false := bne_eq_false_iff_eq.mpr c18
   clear c18
   obtain ⟨⟨t436, t437, t438⟩, A19, H⟩ := zM H
   try dsimp only at H
   obtain ⟨⟨t439, t440, t441⟩, A20, H⟩ := zM H
   try dsimp only at H
   obtain ⟨t442, A21, H⟩ := zM H
   try dsimp only at H
   simp only [Option.some.injEq, Prod.mk.injEq] at H
   obtain ⟨rfl, rfl, rfl, rfl⟩ := H
   go_enter Try.func102, Try.ntmps102
   go_wp2_with (first | ((with_reducible refine gate_dst (N := 2) rfl ?_); refine box_event zr (N := 2) zr (cs := #[.int .i64 0, .int .i64 0]) (t := 30) zh ?_; intro gb420 hg w22 hbox hb; replace HB := zA (below_step (zJ0 HB HI0) hb); have BK420 := zA (hbox); have GW420 := zA ((zG hg (keep_size (w := w) (g := g) (row := none) (zk0 HK)) : w.heap.size ≤ gb420)); have GE420 := zA ((Nat.le_trans HW0.out (zG hg (keep_size (w := w) (g := g) (row := none) (zk0 HK)) : w.heap.size ≤ gb420) : w0.heap.size ≤ gb420)); replace HK := zA (KeepBut.trans (zk0 HK) (KeepBut.of_below hb g none) (.inl rfl)); have NB0_420 := zA ((zP hg (show IsS115 w0 _ g s0_0 s0_1 s0_2 from zI0 HI0) : g ≠ gb420)); have NB420_0 := zA ((zQ hg (show IsS115 w0 _ g s0_0 s0_1 s0_2 from zI0 HI0) : gb420 ≠ g)); replace HI0 := zA (IsS115.below (zI0 HI0) hb); clear hb hbox hg) | ((with_reducible refine gate_callee (f := 104) rfl ?_); refine goesL_ (some 5) rfl rfl Try.func104 zn rfl #[.pointer (some ⟨g, 0, none⟩), .int .i64 16] rfl zm ?_; (with_reducible refine (spec_l1Cur_pick.calls g s0_0 s0_1 s0_2 16 t421 t422 t423 w0 _ ?side1 ?side2 A2.out).mono ?_); (case side1 => exact zI1 HI0 NB0_420); (case side2 => exact zJ1 HB HI0 GE420); rintro e w23 ⟨rfl, hi, hb, hk⟩; refine ⟨_, rfl, ?_⟩; replace BK420 := zX BK420 hk NB420_0; replace HK := zA (KeepBut.trans (zk1 HK GW420) hk (.inl rfl)); replace HB := zA (hb); replace HI0 := zA (hi); (try clear hb); (try clear hb2); (try clear hk); (try clear hi)) | ((with_reducible refine gate_callee (f := 104) rfl ?_); refine goesL_ (some 22) rfl rfl Try.func104 zn rfl #[.pointer (some ⟨g, 0, none⟩), .int .i64 4] rfl zm ?_; (with_reducible refine (spec_l1Cur_pick.calls g s0_0 t422 t423 4 t436 t437 t438 w0 _ ?side1 ?side2 A19.out).mono ?_); (case side1 => exact zI1 HI0 NB0_420); (case side2 => exact zJ1 HB HI0 GE420); rintro e w24 ⟨rfl, hi, hb, hk⟩; refine ⟨_, rfl, ?_⟩; replace BK420 := zX BK420 hk NB420_0; replace HK := zA (KeepBut.trans (zk1 HK GW420) hk (.inl rfl)); replace HB := zA (hb); replace HI0 := zA (hi); (try clear hb); (try clear hb2); (try clear hk); (try clear hi)) | ((with_reducible refine gate_callee (f := 104) rfl ?_); refine goesL_ (some 26) rfl rfl Try.func104 zn rfl #[.pointer (some ⟨g, 0, none⟩), .int .i64 3] rfl zm ?_; (with_reducible refine (spec_l1Cur_pick.calls g s0_0 t437 t438 3 t439 t440 t441 w0 _ ?side1 ?side2 A20.out).mono ?_); (case side1 => exact zI1 HI0 NB0_420); (case side2 => exact zJ1 HB HI0 GE420); rintro e w25 ⟨rfl, hi, hb, hk⟩; refine ⟨_, rfl, ?_⟩; replace BK420 := zX BK420 hk NB420_0; replace HK := zA (KeepBut.trans (zk1 HK GW420) hk (.inl rfl)); replace HB := zA (hb); replace HI0 := zA (hi); (try clear hb); (try clear hb2); (try clear hk); (try clear hi)) | ((with_reducible refine gate_callee (f := 106) rfl ?_); refine goesL_ (some 28) rfl rfl Try.func106 zn rfl #[.int .i64 1, .int .i64 (wrap64 (t436 + t439))] rfl zm ?_; (with_reducible refine (spec_l1Most.calls 1 (wrap64 (t436 + t439)) t442 _ A21.out).mono ?_); rintro e w' ⟨rfl, ⟨nd, rfl⟩⟩; refine ⟨_, rfl, ?_⟩; (try (rw [drewN_self w25]; generalize hq_ : World.drewN w25 _ = w25; have n0_ : Aside0 (w25.heap[gb420]? = some (.cells #[.int .i64 0, .int .i64 0] 30 (0, 0))) := ⟨by rw [← hq_]; exact (zK BK420)⟩; have n1_ : Aside0 (IsS115 w0 w25 g s0_0 t440 t441) := ⟨by rw [← hq_]; exact (zI1 HI0 NB0_420)⟩; have n2_ : Aside0 (KeepBut w w25 g none) := ⟨by rw [← hq_]; exact (zk1 HK GW420)⟩; have n3_ : Aside0 (Below w0.heap.size w0 w25) := ⟨by rw [← hq_]; exact (zJ1 HB HI0 GE420)⟩; clear BK420 HI0 HK HB hq_; have BK420 := n0_; have HI0 := n1_; have HK := n2_; have HB := n3_; clear n0_ n1_ n2_ n3_)); have hnb26 := NB420_0.out; have hnc26 := NB0_420.out; obtain ⟨z27_0, z27_1, y27_0, y27_1⟩ := zc2 BK420))
   refine bodyPost_ret (results_cell_row rfl _ _ gb420 30 #[.int .i64 t436, .int .i64 t442] (0, 0) _ rfl (by (with_reducible repeat (first | refine blk_drewN ?_ _ | refine blk_drew ?_ | refine blk_alloc ?_ _)); refine blk_put (cs := #[.int .i64 t436, .int .i64 0]) ?_ 1 _ rfl; (with_reducible repeat (first | refine blk_drewN ?_ _ | refine blk_drew ?_ | refine blk_alloc ?_ _)); refine blk_put (cs := #[.int .i64 0, .int .i64 0]) ?_ 0 _ rfl; (with_reducible repeat (first | refine blk_drewN ?_ _ | refine blk_drew ?_ | refine blk_alloc ?_ _)); exact BK420.out) Try.underlying30 rfl zn) rfl ?_
   exact ⟨zt, zI1 HI0 NB0_420, zJ1 HB HI0 GE420, zk1 HK GW420⟩
  ·rw [if_neg c18] at H
   have c18b0 : (t421 == 1) = false := beq_eq_false_iff_ne.mpr c18
   have c18b1 : (t421 != 1) = true := bne_iff_ne.mpr c18
   by_cases c28 : t421 = 2
   ·rw [if_pos c28] at H
    have c28b0 : (t421 == 2) = true := beq_iff_eq.mpr c28
    have c28b1 : (t421 != 2) = false := bne_eq_false_iff_eq.mpr c28
    clear c28
    obtain ⟨⟨t443, t444, t445⟩, A29, H⟩ := zM H
    try dsimp only at H
    obtain ⟨⟨t446, t447, t448⟩, A30, H⟩ := zM H
    try dsimp only at H
    obtain ⟨t449, A31, H⟩ := zM H
    try dsimp only at H
    simp only [Option.some.injEq, Prod.mk.injEq] at H
    obtain ⟨rfl, rfl, rfl, rfl⟩ := H
    go_enter Try.func102, Try.ntmps102
    go_wp2_with (first | ((with_reducible refine gate_dst (N := 2) rfl ?_); refine box_event zr (N := 2) zr (cs := #[.int .i64 0, .int .i64 0]) (t := 30) zh ?_; intro gb420 hg w32 hbox hb; replace HB := zA (below_step (zJ0 HB HI0) hb); have BK420 := zA (hbox); have GW420 := zA ((zG hg (keep_size (w := w) (g := g) (row := none) (zk0 HK)) : w.heap.size ≤ gb420)); have GE420 := zA ((Nat.le_trans HW0.out (zG hg (keep_size (w := w) (g := g) (row := none) (zk0 HK)) : w.heap.size ≤ gb420) : w0.heap.size ≤ gb420)); replace HK := zA (KeepBut.trans (zk0 HK) (KeepBut.of_below hb g none) (.inl rfl)); have NB0_420 := zA ((zP hg (show IsS115 w0 _ g s0_0 s0_1 s0_2 from zI0 HI0) : g ≠ gb420)); have NB420_0 := zA ((zQ hg (show IsS115 w0 _ g s0_0 s0_1 s0_2 from zI0 HI0) : gb420 ≠ g)); replace HI0 := zA (IsS115.below (zI0 HI0) hb); clear hb hbox hg) | ((with_reducible refine gate_callee (f := 104) rfl ?_); refine goesL_ (some 5) rfl rfl Try.func104 zn rfl #[.pointer (some ⟨g, 0, none⟩), .int .i64 16] rfl zm ?_; (with_reducible refine (spec_l1Cur_pick.calls g s0_0 s0_1 s0_2 16 t421 t422 t423 w0 _ ?side1 ?side2 A2.out).mono ?_); (case side1 => exact zI1 HI0 NB0_420); (case side2 => exact zJ1 HB HI0 GE420); rintro e w33 ⟨rfl, hi, hb, hk⟩; refine ⟨_, rfl, ?_⟩; replace BK420 := zX BK420 hk NB420_0; replace HK := zA (KeepBut.trans (zk1 HK GW420) hk (.inl rfl)); replace HB := zA (hb); replace HI0 := zA (hi); (try clear hb); (try clear hb2); (try clear hk); (try clear hi)) | ((with_reducible refine gate_callee (f := 104) rfl ?_); refine goesL_ (some 22) rfl rfl Try.func104 zn rfl #[.pointer (some ⟨g, 0, none⟩), .int .i64 4] rfl zm ?_; (with_reducible refine (spec_l1Cur_pick.calls g s0_0 t422 t423 4 t443 t444 t445 w0 _ ?side1 ?side2 A29.out).mono ?_); (case side1 => exact zI1 HI0 NB0_420); (case side2 => exact zJ1 HB HI0 GE420); rintro e w34 ⟨rfl, hi, hb, hk⟩; refine ⟨_, rfl, ?_⟩; replace BK420 := zX BK420 hk NB420_0; replace HK := zA (KeepBut.trans (zk1 HK GW420) hk (.inl rfl)); replace HB := zA (hb); replace HI0 := zA (hi); (try clear hb); (try clear hb2); (try clear hk); (try clear hi)) | ((with_reducible refine gate_callee (f := 104) rfl ?_); refine goesL_ (some 26) rfl rfl Try.func104 zn rfl #[.pointer (some ⟨g, 0, none⟩), .int .i64 3] rfl zm ?_; (with_reducible refine (spec_l1Cur_pick.calls g s0_0 t444 t445 3 t446 t447 t448 w0 _ ?side1 ?side2 A30.out).mono ?_); (case side1 => exact zI1 HI0 NB0_420); (case side2 => exact zJ1 HB HI0 GE420); rintro e w35 ⟨rfl, hi, hb, hk⟩; refine ⟨_, rfl, ?_⟩; replace BK420 := zX BK420 hk NB420_0; replace HK := zA (KeepBut.trans (zk1 HK GW420) hk (.inl rfl)); replace HB := zA (hb); replace HI0 := zA (hi); (try clear hb); (try clear hb2); (try clear hk); (try clear hi)) | ((with_reducible refine gate_callee (f := 106) rfl ?_); refine goesL_ (some 28) rfl rfl Try.func106 zn rfl #[.int .i64 1, .int .i64 (wrap64 (t443 + t446))] rfl zm ?_; (with_reducible refine (spec_l1Most.calls 1 (wrap64 (t443 + t446)) t449 _ A31.out).mono ?_); rintro e w' ⟨rfl, ⟨nd, rfl⟩⟩; refine ⟨_, rfl, ?_⟩; (try (rw [drewN_self w35]; generalize hq_ : World.drewN w35 _ = w35; have n0_ : Aside0 (w35.heap[gb420]? = some (.cells #[.int .i64 0, .int .i64 0] 30 (0, 0))) := ⟨by rw [← hq_]; exact (zK BK420)⟩; have n1_ : Aside0 (IsS115 w0 w35 g s0_0 t447 t448) := ⟨by rw [← hq_]; exact (zI1 HI0 NB0_420)⟩; have n2_ : Aside0 (KeepBut w w35 g none) := ⟨by rw [← hq_]; exact (zk1 HK GW420)⟩; have n3_ : Aside0 (Below w0.heap.size w0 w35) := ⟨by rw [← hq_]; exact (zJ1 HB HI0 GE420)⟩; clear BK420 HI0 HK HB hq_; have BK420 := n0_; have HI0 := n1_; have HK := n2_; have HB := n3_; clear n0_ n1_ n2_ n3_)); have hnb36 := NB420_0.out; have hnc36 := NB0_420.out; obtain ⟨z37_0, z37_1, y37_0, y37_1⟩ := zc2 BK420))
    refine bodyPost_ret (results_cell_row rfl _ _ gb420 30 #[.int .i64 t443, .int .i64 t449] (0, 0) _ rfl (by (with_reducible repeat (first | refine blk_drewN ?_ _ | refine blk_drew ?_ | refine blk_alloc ?_ _)); refine blk_put (cs := #[.int .i64 t443, .int .i64 0]) ?_ 1 _ rfl; (with_reducible repeat (first | refine blk_drewN ?_ _ | refine blk_drew ?_ | refine blk_alloc ?_ _)); refine blk_put (cs := #[.int .i64 0, .int .i64 0]) ?_ 0 _ rfl; (with_reducible repeat (first | refine blk_drewN ?_ _ | refine blk_drew ?_ | refine blk_alloc ?_ _)); exact BK420.out) Try.underlying30 rfl zn) rfl ?_
    exact ⟨zt, zI1 HI0 NB0_420, zJ1 HB HI0 GE420, zk1 HK GW420⟩
   ·rw [if_neg c28] at H
    have c28b0 : (t421 == 2) = false := beq_eq_false_iff_ne.mpr c28
    have c28b1 : (t421 != 2) = true := bne_iff_ne.mpr c28
    by_cases c38 : t421 = 3
    ·rw [if_pos c38] at H
     have c38b0 : (t421 == 3) = true := beq_iff_eq.mpr c38
     have c38b1 : (t421 != 3) = false := bne_eq_false_iff_eq.mpr c38
     clear c38
     obtain ⟨⟨t450, t451, t452⟩, A39, H⟩ := zM H
     try dsimp only at H
     obtain ⟨⟨t453, t454, t455⟩, A40, H⟩ := zM H
     try dsimp only at H
     obtain ⟨t456, A41, H⟩ := zM H
     try dsimp only at H
     simp only [Option.some.injEq, Prod.mk.injEq] at H
     obtain ⟨rfl, rfl, rfl, rfl⟩ := H
     go_enter Try.func102, Try.ntmps102
     go_wp2_with (first | ((with_reducible refine gate_dst (N := 2) rfl ?_); refine box_event zr (N := 2) zr (cs := #[.int .i64 0, .int .i64 0]) (t := 30) zh ?_; intro gb420 hg w42 hbox hb; replace HB := zA (below_step (zJ0 HB HI0) hb); have BK420 := zA (hbox); have GW420 := zA ((zG hg (keep_size (w := w) (g := g) (row := none) (zk0 HK)) : w.heap.size ≤ gb420)); have GE420 := zA ((Nat.le_trans HW0.out (zG hg (keep_size (w := w) (g := g) (row := none) (zk0 HK)) : w.heap.size ≤ gb420) : w0.heap.size ≤ gb420)); replace HK := zA (KeepBut.trans (zk0 HK) (KeepBut.of_below hb g none) (.inl rfl)); have NB0_420 := zA ((zP hg (show IsS115 w0 _ g s0_0 s0_1 s0_2 from zI0 HI0) : g ≠ gb420)); have NB420_0 := zA ((zQ hg (show IsS115 w0 _ g s0_0 s0_1 s0_2 from zI0 HI0) : gb420 ≠ g)); replace HI0 := zA (IsS115.below (zI0 HI0) hb); clear hb hbox hg) | ((with_reducible refine gate_callee (f := 104) rfl ?_); refine goesL_ (some 5) rfl rfl Try.func104 zn rfl #[.pointer (some ⟨g, 0, none⟩), .int .i64 16] rfl zm ?_; (with_reducible refine (spec_l1Cur_pick.calls g s0_0 s0_1 s0_2 16 t421 t422 t423 w0 _ ?side1 ?side2 A2.out).mono ?_); (case side1 => exact zI1 HI0 NB0_420); (case side2 => exact zJ1 HB HI0 GE420); rintro e w43 ⟨rfl, hi, hb, hk⟩; refine ⟨_, rfl, ?_⟩; replace BK420 := zX BK420 hk NB420_0; replace HK := zA (KeepBut.trans (zk1 HK GW420) hk (.inl rfl)); replace HB := zA (hb); replace HI0 := zA (hi); (try clear hb); (try clear hb2); (try clear hk); (try clear hi)) | ((with_reducible refine gate_callee (f := 104) rfl ?_); refine goesL_ (some 22) rfl rfl Try.func104 zn rfl #[.pointer (some ⟨g, 0, none⟩), .int .i64 4] rfl zm ?_; (with_reducible refine (spec_l1Cur_pick.calls g s0_0 t422 t423 4 t450 t451 t452 w0 _ ?side1 ?side2 A39.out).mono ?_); (case side1 => exact zI1 HI0 NB0_420); (case side2 => exact zJ1 HB HI0 GE420); rintro e w44 ⟨rfl, hi, hb, hk⟩; refine ⟨_, rfl, ?_⟩; replace BK420 := zX BK420 hk NB420_0; replace HK := zA (KeepBut.trans (zk1 HK GW420) hk (.inl rfl)); replace HB := zA (hb); replace HI0 := zA (hi); (try clear hb); (try clear hb2); (try clear hk); (try clear hi)) | ((with_reducible refine gate_callee (f := 104) rfl ?_); refine goesL_ (some 26) rfl rfl Try.func104 zn rfl #[.pointer (some ⟨g, 0, none⟩), .int .i64 3] rfl zm ?_; (with_reducible refine (spec_l1Cur_pick.calls g s0_0 t451 t452 3 t453 t454 t455 w0 _ ?side1 ?side2 A40.out).mono ?_); (case side1 => exact zI1 HI0 NB0_420); (case side2 => exact zJ1 HB HI0 GE420); rintro e w45 ⟨rfl, hi, hb, hk⟩; refine ⟨_, rfl, ?_⟩; replace BK420 := zX BK420 hk NB420_0; replace HK := zA (KeepBut.trans (zk1 HK GW420) hk (.inl rfl)); replace HB := zA (hb); replace HI0 := zA (hi); (try clear hb); (try clear hb2); (try clear hk); (try clear hi)) | ((with_reducible refine gate_callee (f := 106) rfl ?_); refine goesL_ (some 28) rfl rfl Try.func106 zn rfl #[.int .i64 1, .int .i64 (wrap64 (t450 + t453))] rfl zm ?_; (with_reducible refine (spec_l1Most.calls 1 (wrap64 (t450 + t453)) t456 _ A41.out).mono ?_); rintro e w' ⟨rfl, ⟨nd, rfl⟩⟩; refine ⟨_, rfl, ?_⟩; (try (rw [drewN_self w45]; generalize hq_ : World.drewN w45 _ = w45; have n0_ : Aside0 (w45.heap[gb420]? = some (.cells #[.int .i64 0, .int .i64 0] 30 (0, 0))) := ⟨by rw [← hq_]; exact (zK BK420)⟩; have n1_ : Aside0 (IsS115 w0 w45 g s0_0 t454 t455) := ⟨by rw [← hq_]; exact (zI1 HI0 NB0_420)⟩; have n2_ : Aside0 (KeepBut w w45 g none) := ⟨by rw [← hq_]; exact (zk1 HK GW420)⟩; have n3_ : Aside0 (Below w0.heap.size w0 w45) := ⟨by rw [← hq_]; exact (zJ1 HB HI0 GE420)⟩; clear BK420 HI0 HK HB hq_; have BK420 := n0_; have HI0 := n1_; have HK := n2_; have HB := n3_; clear n0_ n1_ n2_ n3_)); have hnb46 := NB420_0.out; have hnc46 := NB0_420.out; obtain ⟨z47_0, z47_1, y47_0, y47_1⟩ := zc2 BK420))
     refine bodyPost_ret (results_cell_row rfl _ _ gb420 30 #[.int .i64 t450, .int .i64 t456] (0, 0) _ rfl (by (with_reducible repeat (first | refine blk_drewN ?_ _ | refine blk_drew ?_ | refine blk_alloc ?_ _)); refine blk_put (cs := #[.int .i64 t450, .int .i64 0]) ?_ 1 _ rfl; (with_reducible repeat (first | refine blk_drewN ?_ _ | refine blk_drew ?_ | refine blk_alloc ?_ _)); refine blk_put (cs := #[.int .i64 0, .int .i64 0]) ?_ 0 _ rfl; (with_reducible repeat (first | refine blk_drewN ?_ _ | refine blk_drew ?_ | refine blk_alloc ?_ _)); exact BK420.out) Try.underlying30 rfl zn) rfl ?_
     exact ⟨zt, zI1 HI0 NB0_420, zJ1 HB HI0 GE420, zk1 HK GW420⟩
    ·rw [if_neg c38] at H
     have c38b0 : (t421 == 3) = false := beq_eq_false_iff_ne.mpr c38
     have c38b1 : (t421 != 3) = true := bne_iff_ne.mpr c38
     by_cases c48 : t421 = 4
     ·rw [if_pos c48] at H
      have c48b0 : (t421 == 4) = true := beq_iff_eq.mpr c48
      have c48b1 : (t421 != 4) = false := bne_eq_false_iff_eq.mpr c48
      clear c48
      obtain ⟨⟨t457, t458, t459⟩, A49, H⟩ := zM H
      try dsimp only at H
      obtain ⟨⟨t460, t461, t462⟩, A50, H⟩ := zM H
      try dsimp only at H
      obtain ⟨t463, A51, H⟩ := zM H
      try dsimp only at H
      simp only [Option.some.injEq, Prod.mk.injEq] at H
      obtain ⟨rfl, rfl, rfl, rfl⟩ := H
      go_enter Try.func102, Try.ntmps102
      go_wp2_with (first | ((with_reducible refine gate_dst (N := 2) rfl ?_); refine box_event zr (N := 2) zr (cs := #[.int .i64 0, .int .i64 0]) (t := 30) zh ?_; intro gb420 hg w52 hbox hb; replace HB := zA (below_step (zJ0 HB HI0) hb); have BK420 := zA (hbox); have GW420 := zA ((zG hg (keep_size (w := w) (g := g) (row := none) (zk0 HK)) : w.heap.size ≤ gb420)); have GE420 := zA ((Nat.le_trans HW0.out (zG hg (keep_size (w := w) (g := g) (row := none) (zk0 HK)) : w.heap.size ≤ gb420) : w0.heap.size ≤ gb420)); replace HK := zA (KeepBut.trans (zk0 HK) (KeepBut.of_below hb g none) (.inl rfl)); have NB0_420 := zA ((zP hg (show IsS115 w0 _ g s0_0 s0_1 s0_2 from zI0 HI0) : g ≠ gb420)); have NB420_0 := zA ((zQ hg (show IsS115 w0 _ g s0_0 s0_1 s0_2 from zI0 HI0) : gb420 ≠ g)); replace HI0 := zA (IsS115.below (zI0 HI0) hb); clear hb hbox hg) | ((with_reducible refine gate_callee (f := 104) rfl ?_); refine goesL_ (some 5) rfl rfl Try.func104 zn rfl #[.pointer (some ⟨g, 0, none⟩), .int .i64 16] rfl zm ?_; (with_reducible refine (spec_l1Cur_pick.calls g s0_0 s0_1 s0_2 16 t421 t422 t423 w0 _ ?side1 ?side2 A2.out).mono ?_); (case side1 => exact zI1 HI0 NB0_420); (case side2 => exact zJ1 HB HI0 GE420); rintro e w53 ⟨rfl, hi, hb, hk⟩; refine ⟨_, rfl, ?_⟩; replace BK420 := zX BK420 hk NB420_0; replace HK := zA (KeepBut.trans (zk1 HK GW420) hk (.inl rfl)); replace HB := zA (hb); replace HI0 := zA (hi); (try clear hb); (try clear hb2); (try clear hk); (try clear hi)) | ((with_reducible refine gate_callee (f := 104) rfl ?_); refine goesL_ (some 22) rfl rfl Try.func104 zn rfl #[.pointer (some ⟨g, 0, none⟩), .int .i64 4] rfl zm ?_; (with_reducible refine (spec_l1Cur_pick.calls g s0_0 t422 t423 4 t457 t458 t459 w0 _ ?side1 ?side2 A49.out).mono ?_); (case side1 => exact zI1 HI0 NB0_420); (case side2 => exact zJ1 HB HI0 GE420); rintro e w54 ⟨rfl, hi, hb, hk⟩; refine ⟨_, rfl, ?_⟩; replace BK420 := zX BK420 hk NB420_0; replace HK := zA (KeepBut.trans (zk1 HK GW420) hk (.inl rfl)); replace HB := zA (hb); replace HI0 := zA (hi); (try clear hb); (try clear hb2); (try clear hk); (try clear hi)) | ((with_reducible refine gate_callee (f := 104) rfl ?_); refine goesL_ (some 26) rfl rfl Try.func104 zn rfl #[.pointer (some ⟨g, 0, none⟩), .int .i64 3] rfl zm ?_; (with_reducible refine (spec_l1Cur_pick.calls g s0_0 t458 t459 3 t460 t461 t462 w0 _ ?side1 ?side2 A50.out).mono ?_); (case side1 => exact zI1 HI0 NB0_420); (case side2 => exact zJ1 HB HI0 GE420); rintro e w55 ⟨rfl, hi, hb, hk⟩; refine ⟨_, rfl, ?_⟩; replace BK420 := zX BK420 hk NB420_0; replace HK := zA (KeepBut.trans (zk1 HK GW420) hk (.inl rfl)); replace HB := zA (hb); replace HI0 := zA (hi); (try clear hb); (try clear hb2); (try clear hk); (try clear hi)) | ((with_reducible refine gate_callee (f := 106) rfl ?_); refine goesL_ (some 28) rfl rfl Try.func106 zn rfl #[.int .i64 1, .int .i64 (wrap64 (t457 + t460))] rfl zm ?_; (with_reducible refine (spec_l1Most.calls 1 (wrap64 (t457 + t460)) t463 _ A51.out).mono ?_); rintro e w' ⟨rfl, ⟨nd, rfl⟩⟩; refine ⟨_, rfl, ?_⟩; (try (rw [drewN_self w55]; generalize hq_ : World.drewN w55 _ = w55; have n0_ : Aside0 (w55.heap[gb420]? = some (.cells #[.int .i64 0, .int .i64 0] 30 (0, 0))) := ⟨by rw [← hq_]; exact (zK BK420)⟩; have n1_ : Aside0 (IsS115 w0 w55 g s0_0 t461 t462) := ⟨by rw [← hq_]; exact (zI1 HI0 NB0_420)⟩; have n2_ : Aside0 (KeepBut w w55 g none) := ⟨by rw [← hq_]; exact (zk1 HK GW420)⟩; have n3_ : Aside0 (Below w0.heap.size w0 w55) := ⟨by rw [← hq_]; exact (zJ1 HB HI0 GE420)⟩; clear BK420 HI0 HK HB hq_; have BK420 := n0_; have HI0 := n1_; have HK := n2_; have HB := n3_; clear n0_ n1_ n2_ n3_)); have hnb56 := NB420_0.out; have hnc56 := NB0_420.out; obtain ⟨z57_0, z57_1, y57_0, y57_1⟩ := zc2 BK420))
      refine bodyPost_ret (results_cell_row rfl _ _ gb420 30 #[.int .i64 t457, .int .i64 t463] (0, 0) _ rfl (by (with_reducible repeat (first | refine blk_drewN ?_ _ | refine blk_drew ?_ | refine blk_alloc ?_ _)); refine blk_put (cs := #[.int .i64 t457, .int .i64 0]) ?_ 1 _ rfl; (with_reducible repeat (first | refine blk_drewN ?_ _ | refine blk_drew ?_ | refine blk_alloc ?_ _)); refine blk_put (cs := #[.int .i64 0, .int .i64 0]) ?_ 0 _ rfl; (with_reducible repeat (first | refine blk_drewN ?_ _ | refine blk_drew ?_ | refine blk_alloc ?_ _)); exact BK420.out) Try.underlying30 rfl zn) rfl ?_
      exact ⟨zt, zI1 HI0 NB0_420, zJ1 HB HI0 GE420, zk1 HK GW420⟩
     ·rw [if_neg c48] at H
      have c48b0 : (t421 == 4) = false := beq_eq_false_iff_ne.mpr c48
      have c48b1 : (t421 != 4) = true := bne_iff_ne.mpr c48
      by_cases c58 : t421 = 5
      ·rw [if_pos c58] at H
       have c58b0 : (t421 == 5) = true := beq_iff_eq.mpr c58
       have c58b1 : (t421 != 5) = false := bne_eq_false_iff_eq.mpr c58
       clear c58
       obtain ⟨⟨t464, t465, t466⟩, A59, H⟩ := zM H
       try dsimp only at H
       obtain ⟨⟨t467, t468, t469⟩, A60, H⟩ := zM H
       try dsimp only at H
       obtain ⟨t470, A61, H⟩ := zM H
       try dsimp only at H
       simp only [Option.some.injEq, Prod.mk.injEq] at H
       obtain ⟨rfl, rfl, rfl, rfl⟩ := H
       go_enter Try.func102, Try.ntmps102
       go_wp2_with (first | ((with_reducible refine gate_dst (N := 2) rfl ?_); refine box_event zr (N := 2) zr (cs := #[.int .i64 0, .int .i64 0]) (t := 30) zh ?_; intro gb420 hg w62 hbox hb; replace HB := zA (below_step (zJ0 HB HI0) hb); have BK420 := zA (hbox); have GW420 := zA ((zG hg (keep_size (w := w) (g := g) (row := none) (zk0 HK)) : w.heap.size ≤ gb420)); have GE420 := zA ((Nat.le_trans HW0.out (zG hg (keep_size (w := w) (g := g) (row := none) (zk0 HK)) : w.heap.size ≤ gb420) : w0.heap.size ≤ gb420)); replace HK := zA (KeepBut.trans (zk0 HK) (KeepBut.of_below hb g none) (.inl rfl)); have NB0_420 := zA ((zP hg (show IsS115 w0 _ g s0_0 s0_1 s0_2 from zI0 HI0) : g ≠ gb420)); have NB420_0 := zA ((zQ hg (show IsS115 w0 _ g s0_0 s0_1 s0_2 from zI0 HI0) : gb420 ≠ g)); replace HI0 := zA (IsS115.below (zI0 HI0) hb); clear hb hbox hg) | ((with_reducible refine gate_callee (f := 104) rfl ?_); refine goesL_ (some 5) rfl rfl Try.func104 zn rfl #[.pointer (some ⟨g, 0, none⟩), .int .i64 16] rfl zm ?_; (with_reducible refine (spec_l1Cur_pick.calls g s0_0 s0_1 s0_2 16 t421 t422 t423 w0 _ ?side1 ?side2 A2.out).mono ?_); (case side1 => exact zI1 HI0 NB0_420); (case side2 => exact zJ1 HB HI0 GE420); rintro e w63 ⟨rfl, hi, hb, hk⟩; refine ⟨_, rfl, ?_⟩; replace BK420 := zX BK420 hk NB420_0; replace HK := zA (KeepBut.trans (zk1 HK GW420) hk (.inl rfl)); replace HB := zA (hb); replace HI0 := zA (hi); (try clear hb); (try clear hb2); (try clear hk); (try clear hi)) | ((with_reducible refine gate_callee (f := 104) rfl ?_); refine goesL_ (some 22) rfl rfl Try.func104 zn rfl #[.pointer (some ⟨g, 0, none⟩), .int .i64 4] rfl zm ?_; (with_reducible refine (spec_l1Cur_pick.calls g s0_0 t422 t423 4 t464 t465 t466 w0 _ ?side1 ?side2 A59.out).mono ?_); (case side1 => exact zI1 HI0 NB0_420); (case side2 => exact zJ1 HB HI0 GE420); rintro e w64 ⟨rfl, hi, hb, hk⟩; refine ⟨_, rfl, ?_⟩; replace BK420 := zX BK420 hk NB420_0; replace HK := zA (KeepBut.trans (zk1 HK GW420) hk (.inl rfl)); replace HB := zA (hb); replace HI0 := zA (hi); (try clear hb); (try clear hb2); (try clear hk); (try clear hi)) | ((with_reducible refine gate_callee (f := 104) rfl ?_); refine goesL_ (some 26) rfl rfl Try.func104 zn rfl #[.pointer (some ⟨g, 0, none⟩), .int .i64 3] rfl zm ?_; (with_reducible refine (spec_l1Cur_pick.calls g s0_0 t465 t466 3 t467 t468 t469 w0 _ ?side1 ?side2 A60.out).mono ?_); (case side1 => exact zI1 HI0 NB0_420); (case side2 => exact zJ1 HB HI0 GE420); rintro e w65 ⟨rfl, hi, hb, hk⟩; refine ⟨_, rfl, ?_⟩; replace BK420 := zX BK420 hk NB420_0; replace HK := zA (KeepBut.trans (zk1 HK GW420) hk (.inl rfl)); replace HB := zA (hb); replace HI0 := zA (hi); (try clear hb); (try clear hb2); (try clear hk); (try clear hi)) | ((with_reducible refine gate_callee (f := 106) rfl ?_); refine goesL_ (some 28) rfl rfl Try.func106 zn rfl #[.int .i64 1, .int .i64 (wrap64 (t464 + t467))] rfl zm ?_; (with_reducible refine (spec_l1Most.calls 1 (wrap64 (t464 + t467)) t470 _ A61.out).mono ?_); rintro e w' ⟨rfl, ⟨nd, rfl⟩⟩; refine ⟨_, rfl, ?_⟩; (try (rw [drewN_self w65]; generalize hq_ : World.drewN w65 _ = w65; have n0_ : Aside0 (w65.heap[gb420]? = some (.cells #[.int .i64 0, .int .i64 0] 30 (0, 0))) := ⟨by rw [← hq_]; exact (zK BK420)⟩; have n1_ : Aside0 (IsS115 w0 w65 g s0_0 t468 t469) := ⟨by rw [← hq_]; exact (zI1 HI0 NB0_420)⟩; have n2_ : Aside0 (KeepBut w w65 g none) := ⟨by rw [← hq_]; exact (zk1 HK GW420)⟩; have n3_ : Aside0 (Below w0.heap.size w0 w65) := ⟨by rw [← hq_]; exact (zJ1 HB HI0 GE420)⟩; clear BK420 HI0 HK HB hq_; have BK420 := n0_; have HI0 := n1_; have HK := n2_; have HB := n3_; clear n0_ n1_ n2_ n3_)); have hnb66 := NB420_0.out; have hnc66 := NB0_420.out; obtain ⟨z67_0, z67_1, y67_0, y67_1⟩ := zc2 BK420))
       refine bodyPost_ret (results_cell_row rfl _ _ gb420 30 #[.int .i64 t464, .int .i64 t470] (0, 0) _ rfl (by (with_reducible repeat (first | refine blk_drewN ?_ _ | refine blk_drew ?_ | refine blk_alloc ?_ _)); refine blk_put (cs := #[.int .i64 t464, .int .i64 0]) ?_ 1 _ rfl; (with_reducible repeat (first | refine blk_drewN ?_ _ | refine blk_drew ?_ | refine blk_alloc ?_ _)); refine blk_put (cs := #[.int .i64 0, .int .i64 0]) ?_ 0 _ rfl; (with_reducible repeat (first | refine blk_drewN ?_ _ | refine blk_drew ?_ | refine blk_alloc ?_ _)); exact BK420.out) Try.underlying30 rfl zn) rfl ?_
       exact ⟨zt, zI1 HI0 NB0_420, zJ1 HB HI0 GE420, zk1 HK GW420⟩
      ·rw [if_neg c58] at H
       have c58b0 : (t421 == 5) = false := beq_eq_false_iff_ne.mpr c58
       have c58b1 : (t421 != 5) = true := bne_iff_ne.mpr c58
       simp only [Option.some.injEq, Prod.mk.injEq] at H
       obtain ⟨rfl, rfl, rfl, rfl⟩ := H
       go_enter Try.func102, Try.ntmps102
       go_wp2_with (first | ((with_reducible refine gate_dst (N := 2) rfl ?_); refine box_event zr (N := 2) zr (cs := #[.int .i64 0, .int .i64 0]) (t := 30) zh ?_; intro gb420 hg w68 hbox hb; replace HB := zA (below_step (zJ0 HB HI0) hb); have BK420 := zA (hbox); have GW420 := zA ((zG hg (keep_size (w := w) (g := g) (row := none) (zk0 HK)) : w.heap.size ≤ gb420)); have GE420 := zA ((Nat.le_trans HW0.out (zG hg (keep_size (w := w) (g := g) (row := none) (zk0 HK)) : w.heap.size ≤ gb420) : w0.heap.size ≤ gb420)); replace HK := zA (KeepBut.trans (zk0 HK) (KeepBut.of_below hb g none) (.inl rfl)); have NB0_420 := zA ((zP hg (show IsS115 w0 _ g s0_0 s0_1 s0_2 from zI0 HI0) : g ≠ gb420)); have NB420_0 := zA ((zQ hg (show IsS115 w0 _ g s0_0 s0_1 s0_2 from zI0 HI0) : gb420 ≠ g)); replace HI0 := zA (IsS115.below (zI0 HI0) hb); clear hb hbox hg) | ((with_reducible refine gate_callee (f := 104) rfl ?_); refine goesL_ (some 5) rfl rfl Try.func104 zn rfl #[.pointer (some ⟨g, 0, none⟩), .int .i64 16] rfl zm ?_; (with_reducible refine (spec_l1Cur_pick.calls g s0_0 s0_1 s0_2 16 t421 t422 t423 w0 _ ?side1 ?side2 A2.out).mono ?_); (case side1 => exact zI1 HI0 NB0_420); (case side2 => exact zJ1 HB HI0 GE420); rintro e w69 ⟨rfl, hi, hb, hk⟩; refine ⟨_, rfl, ?_⟩; replace BK420 := zX BK420 hk NB420_0; replace HK := zA (KeepBut.trans (zk1 HK GW420) hk (.inl rfl)); replace HB := zA (hb); replace HI0 := zA (hi); (try clear hb); (try clear hb2); (try clear hk); (try clear hi); have hnb70 := NB420_0.out; have hnc70 := NB0_420.out; obtain ⟨z71_0, z71_1, y71_0, y71_1⟩ := zc2 BK420))
       refine bodyPost_ret (results_cell_row rfl _ _ gb420 30 #[.int .i64 1, .int .i64 2] (0, 0) _ rfl (by (with_reducible repeat (first | refine blk_drewN ?_ _ | refine blk_drew ?_ | refine blk_alloc ?_ _)); refine blk_put (cs := #[.int .i64 1, .int .i64 0]) ?_ 1 _ rfl; (with_reducible repeat (first | refine blk_drewN ?_ _ | refine blk_drew ?_ | refine blk_alloc ?_ _)); refine blk_put (cs := #[.int .i64 0, .int .i64 0]) ?_ 0 _ rfl; (with_reducible repeat (first | refine blk_drewN ?_ _ | refine blk_drew ?_ | refine blk_alloc ?_ _)); exact BK420.out) Try.underlying30 rfl zn) rfl ?_
       exact ⟨zt, zI1 HI0 NB0_420, zJ1 HB HI0 GE420, zk1 HK GW420⟩
end Go.Proofs.Ytogkcfddoiloeaa.PFnOrbitsShare
