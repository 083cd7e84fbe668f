/- The functions that laws.FnOrbitsShareOfAll reaches and their contracts: what the call of each comes to. Conditions: none beyond those in each statement. -/
import Derived.Test.YtogkcfddoiloeaaZFnOrbitsShareOfAllx8
namespace Go.Proofs.Ytogkcfddoiloeaa.PFnOrbitsShareOfAll
open Go.RowKit Go.Proofs.YtogkcfddoiloeaaW.PrintWords Go.Proofs.YtogkcfddoiloeaaW.PrintLast Go.Proofs.YtogkcfddoiloeaaW.PrintMore
attribute [local go_sem] max2_int min2_int max_two min_two max_three min_three max_four min_four   -- for this text's walks alone
set_option linter.unusedVariables false
set_option linter.unusedSimpArgs false

def laws_FnOrbitsShareOfAll.T45 : Bool × List (List Nat × List Nat) := (true, [([], []), ([], []), ([], []), ([2], [2]), ([1, 3], [1, 3]), ([4], [4]), ([], []), ([6], [6]), ([7], [7]), ([], []), ([9], [9]), ([10], [10]), ([0, 5, 8, 11], [0, 5, 8, 11]), ([12], [12]), ([13], [13]), ([13], [13]), ([14, 12, 0, 1, 2, 3, 4, 5, 6, 7, 8, 9, 10, 11, 12, 13, 14], [14]), ([15, 16, 0, 1, 2, 3, 4, 5, 6, 7, 8, 9, 10, 11, 12, 13, 14, 15, 16], [15])])
def laws_FnOrbitsShareOfAll.B45 : List Nat := [0, 0, 0, 4, 14, 30, 0, 64, 192, 0, 512, 1536, 4095, 8191, 16383, 16383, 32767, 131071]
theorem laws_FnOrbitsShareOfAll.tab45 : rtab .any (opsOf Try.f13 45) = laws_FnOrbitsShareOfAll.T45 := by kernel_rfl
theorem laws_FnOrbitsShareOfAll.bits45 : waitsOk laws_FnOrbitsShareOfAll.T45.2 laws_FnOrbitsShareOfAll.B45 = true := by kernel_rfl
set_option maxHeartbeats 8000000 in
set_option maxRecDepth 100000 in
theorem laws_FnOrbitsShareOfAll.calls (k : Nat) (a0_0 : Int) (a0_1 : Int) (a0_2 : Bool) (a0_3 : Bool) (a1 : Int) (a2 : Int) (a3 : Int) (a4_0 : Int) (a4_1 : Int) (a4_2 : Bool) (a4_3 : Bool) (a5_0 : Int) (a5_1 : Int) (a6 : Int) (a7 : Int) (a8 : Int) (a9_0 : Int) (a9_1 : Int) (a9_2 : Bool) (a9_3 : Bool) (a10_0 : Int) (a10_1 : Int) (r : Bool) (w : World) (h : laws_FnOrbitsShareOfAll.f k a0_0 a0_1 a0_2 a0_3 a1 a2 a3 a4_0 a4_1 a4_2 a4_3 a5_0 a5_1 a6 a7 a8 a9_0 a9_1 a9_2 a9_3 a10_0 a10_1 = some r) :
  Calls Try.prog 13 #[.agg #[.int .i64 a0_0, .int .i64 a0_1, .bool a0_2, .bool a0_3], .int .i64 a1, .int .i64 a2, .int .i64 a3, .agg #[.int .i64 a4_0, .int .i64 a4_1, .bool a4_2, .bool a4_3], .agg #[.int .i64 a5_0, .int .i64 a5_1], .int .i64 a6, .int .i64 a7, .int .i64 a8, .agg #[.int .i64 a9_0, .int .i64 a9_1, .bool a9_2, .bool a9_3], .agg #[.int .i64 a10_0, .int .i64 a10_1]] w fun e w' => e = .returned (.bool r) ∧ Below w.heap.size w w' := by
 have hu28 := Try.underlying28
 have hu30 := Try.underlying30
 have HB := Aside0.mk (Below.refl w.heap.size w)
 have H : ((impl_OrbitOf.f k a0_0 a0_1 a0_2 a0_3 a1 a2 a3).bind fun bt355 => ((spec_OrbitOf.f k a0_0 a0_1 a0_2 a0_3 a1 a2 a3).bind fun bt359 => ((impl_OrbitLength.f k a0_0 a0_1 a0_2 a0_3 a2 a3).bind fun bt363 => ((spec_OrbitLength.f k a0_0 a0_1 a0_2 a0_3 a2 a3).bind fun bt365 => ((impl_CountOrbits.f k a0_0 a0_1 a0_2 a0_3 a2 a3).bind fun bt367 => ((spec_CountOrbits.f k a0_0 a0_1 a0_2 a0_3 a2 a3).bind fun bt369 => (if (bt355.2 != bt359.2) = true then (laws_FnOrbitsShareOfAll.j0 k a1 a2 a3 a6 a7 a8 bt355.1 bt355.2 bt363.1 bt363.2 bt367.1 true a0_0 a0_1 a0_2 a0_3 a4_0 a4_1 a4_2 a4_3 a5_0 a5_1 a9_0 a9_1 a9_2 a9_3 a10_0 a10_1) else ((laws_nSame.f k bt355.1 bt359.1).bind fun t371 => (if t371 = true then (if (bt363.2 != bt365.2) = true then (laws_FnOrbitsShareOfAll.j0 k a1 a2 a3 a6 a7 a8 bt355.1 bt355.2 bt363.1 bt363.2 bt367.1 true a0_0 a0_1 a0_2 a0_3 a4_0 a4_1 a4_2 a4_3 a5_0 a5_1 a9_0 a9_1 a9_2 a9_3 a10_0 a10_1) else (if bt363.1 = bt365.1 then (if (bt367.2 != bt369.2) = true then (laws_FnOrbitsShareOfAll.j0 k a1 a2 a3 a6 a7 a8 bt355.1 bt355.2 bt363.1 bt363.2 bt367.1 true a0_0 a0_1 a0_2 a0_3 a4_0 a4_1 a4_2 a4_3 a5_0 a5_1 a9_0 a9_1 a9_2 a9_3 a10_0 a10_1) else (if bt367.1 = bt369.1 then (if (bt367.2 != bt363.2) = true then (laws_FnOrbitsShareOfAll.j0 k a1 a2 a3 a6 a7 a8 bt355.1 bt355.2 bt363.1 bt363.2 bt367.1 true a0_0 a0_1 a0_2 a0_3 a4_0 a4_1 a4_2 a4_3 a5_0 a5_1 a9_0 a9_1 a9_2 a9_3 a10_0 a10_1) else (if bt355.2 = true then (laws_FnOrbitsShareOfAll.j0 k a1 a2 a3 a6 a7 a8 bt355.1 bt355.2 bt363.1 bt363.2 bt367.1 (!bt363.2) a0_0 a0_1 a0_2 a0_3 a4_0 a4_1 a4_2 a4_3 a5_0 a5_1 a9_0 a9_1 a9_2 a9_3 a10_0 a10_1) else (laws_FnOrbitsShareOfAll.j0 k a1 a2 a3 a6 a7 a8 bt355.1 bt355.2 bt363.1 bt363.2 bt367.1 false a0_0 a0_1 a0_2 a0_3 a4_0 a4_1 a4_2 a4_3 a5_0 a5_1 a9_0 a9_1 a9_2 a9_3 a10_0 a10_1))) else (laws_FnOrbitsShareOfAll.j0 k a1 a2 a3 a6 a7 a8 bt355.1 bt355.2 bt363.1 bt363.2 bt367.1 true a0_0 a0_1 a0_2 a0_3 a4_0 a4_1 a4_2 a4_3 a5_0 a5_1 a9_0 a9_1 a9_2 a9_3 a10_0 a10_1))) else (laws_FnOrbitsShareOfAll.j0 k a1 a2 a3 a6 a7 a8 bt355.1 bt355.2 bt363.1 bt363.2 bt367.1 true a0_0 a0_1 a0_2 a0_3 a4_0 a4_1 a4_2 a4_3 a5_0 a5_1 a9_0 a9_1 a9_2 a9_3 a10_0 a10_1))) else (laws_FnOrbitsShareOfAll.j0 k a1 a2 a3 a6 a7 a8 bt355.1 bt355.2 bt363.1 bt363.2 bt367.1 true a0_0 a0_1 a0_2 a0_3 a4_0 a4_1 a4_2 a4_3 a5_0 a5_1 a9_0 a9_1 a9_2 a9_3 a10_0 a10_1)))))))))) = some r := h
 clear h
 replace H := Option.bind_eq_some_iff.mp H
 obtain ⟨⟨t355, t358⟩, A120, H⟩ := H
 try dsimp only at H
 have A12 := Aside0.mk A120
 clear A120
 replace H := Option.bind_eq_some_iff.mp H
 obtain ⟨⟨t359, t362⟩, A130, H⟩ := H
 try dsimp only at H
 have A13 := Aside0.mk A130
 clear A130
 replace H := Option.bind_eq_some_iff.mp H
 obtain ⟨⟨t363, t364⟩, A140, H⟩ := H
 try dsimp only at H
 have A14 := Aside0.mk A140
 clear A140
 replace H := Option.bind_eq_some_iff.mp H
 obtain ⟨⟨t365, t366⟩, A150, H⟩ := H
 try dsimp only at H
 have A15 := Aside0.mk A150
 clear A150
 replace H := Option.bind_eq_some_iff.mp H
 obtain ⟨⟨t367, t368⟩, A160, H⟩ := H
 try dsimp only at H
 have A16 := Aside0.mk A160
 clear A160
 replace H := Option.bind_eq_some_iff.mp H
 obtain ⟨⟨t369, t370⟩, A170, H⟩ := H
 try dsimp only at H
 have A17 := Aside0.mk A170
 clear A170
 have HC18 := Aside0.mk H
 clear H
 go_enter Try.func13, Try.ntmps13
 go_upto_region 7 with (first | ((with_reducible refine gate_dst (N := 11) rfl ?_); (try (refine gate_guard (by rfl) ?_; dsimp only)); refine box_event ?hg (N := 11) ?hd (cs := #[.int .i64 a0_0, .int .i64 a0_1, .bool a0_2, .bool a0_3]) (t := 28) ?hr ?_; (case hd => rfl); (case hg => rfl); (case hr => first | (go_simp; done) | (go_simp; rfl)); intro gb350 hg w19 hbox hb; have BK350 := Aside0.mk (hbox); have GW350 := Aside0.mk (zG hg (below_size (zB0 HB)) : w.heap.size ≤ gb350); have GE350 := Aside0.mk (zG hg (below_size (zB0 HB)) : w.heap.size ≤ gb350); replace HB := Aside0.mk (below_step (zB0 HB) hb); clear hb hbox hg) | ((with_reducible refine gate_dst (N := 15) rfl ?_); (try (refine gate_guard (by rfl) ?_; dsimp only)); refine box_event ?hg (N := 15) ?hd (cs := #[.int .i64 a4_0, .int .i64 a4_1, .bool a4_2, .bool a4_3]) (t := 28) ?hr ?_; (case hd => rfl); (case hg => rfl); (case hr => first | (go_simp; done) | (go_simp; rfl)); intro gb351 hg w20 hbox hb; have BK351 := Aside0.mk (hbox); have GW351 := Aside0.mk (zG hg (below_size (zB1 HB GE350)) : w.heap.size ≤ gb351); have GE351 := Aside0.mk (zG hg (below_size (zB1 HB GE350)) : w.heap.size ≤ gb351); replace HB := Aside0.mk (below_step (zB1 HB GE350) hb); have NB350_351 := Aside0.mk (zNl hg BK350 : gb350 ≠ gb351); have NB351_350 := Aside0.mk (zNg hg BK350 : gb351 ≠ gb350); replace BK350 := zKb BK350 hb; clear hb hbox hg) | ((with_reducible refine gate_dst (N := 16) rfl ?_); (try (refine gate_guard (by rfl) ?_; dsimp only)); refine box_event ?hg (N := 16) ?hd (cs := #[.int .i64 a5_0, .int .i64 a5_1]) (t := 30) ?hr ?_; (case hd => rfl); (case hg => rfl); (case hr => first | (go_simp; done) | (go_simp; rfl)); intro gb352 hg w21 hbox hb; have BK352 := Aside0.mk (hbox); have GW352 := Aside0.mk (zG hg (below_size (zB2 HB GE350 GE351)) : w.heap.size ≤ gb352); have GE352 := Aside0.mk (zG hg (below_size (zB2 HB GE350 GE351)) : w.heap.size ≤ gb352); replace HB := Aside0.mk (below_step (zB2 HB GE350 GE351) hb); have NB350_352 := Aside0.mk (zNl hg BK350 : gb350 ≠ gb352); have NB352_350 := Aside0.mk (zNg hg BK350 : gb352 ≠ gb350); replace BK350 := zKb BK350 hb; have NB351_352 := Aside0.mk (zNl hg BK351 : gb351 ≠ gb352); have NB352_351 := Aside0.mk (zNg hg BK351 : gb352 ≠ gb351); replace BK351 := zKb BK351 hb; clear hb hbox hg) | ((with_reducible refine gate_dst (N := 20) rfl ?_); (try (refine gate_guard (by rfl) ?_; dsimp only)); refine box_event ?hg (N := 20) ?hd (cs := #[.int .i64 a9_0, .int .i64 a9_1, .bool a9_2, .bool a9_3]) (t := 28) ?hr ?_; (case hd => rfl); (case hg => rfl); (case hr => first | (go_simp; done) | (go_simp; rfl)); intro gb353 hg w22 hbox hb; have BK353 := Aside0.mk (hbox); have GW353 := Aside0.mk (zG hg (below_size (zB3 HB GE350 GE351 GE352)) : w.heap.size ≤ gb353); have GE353 := Aside0.mk (zG hg (below_size (zB3 HB GE350 GE351 GE352)) : w.heap.size ≤ gb353); replace HB := Aside0.mk (below_step (zB3 HB GE350 GE351 GE352) hb); have NB350_353 := Aside0.mk (zNl hg BK350 : gb350 ≠ gb353); have NB353_350 := Aside0.mk (zNg hg BK350 : gb353 ≠ gb350); replace BK350 := zKb BK350 hb; have NB351_353 := Aside0.mk (zNl hg BK351 : gb351 ≠ gb353); have NB353_351 := Aside0.mk (zNg hg BK351 : gb353 ≠ gb351); replace BK351 := zKb BK351 hb; have NB352_353 := Aside0.mk (zNl hg BK352 : gb352 ≠ gb353); have NB353_352 := Aside0.mk (zNg hg BK352 : gb353 ≠ gb352); replace BK352 := zKb BK352 hb; clear hb hbox hg) | ((with_reducible refine gate_dst (N := 21) rfl ?_); (try (refine gate_guard (by rfl) ?_; dsimp only)); refine box_event ?hg (N := 21) ?hd (cs := #[.int .i64 a10_0, .int .i64 a10_1]) (t := 30) ?hr ?_; (case hd => rfl); (case hg => rfl); (case hr => first | (go_simp; done) | (go_simp; rfl)); intro gb354 hg w23 hbox hb; have BK354 := Aside0.mk (hbox); have GW354 := Aside0.mk (zG hg (below_size (zB4 HB GE350 GE351 GE352 GE353)) : w.heap.size ≤ gb354); have GE354 := Aside0.mk (zG hg (below_size (zB4 HB GE350 GE351 GE352 GE353)) : w.heap.size ≤ gb354); replace HB := Aside0.mk (below_step (zB4 HB GE350 GE351 GE352 GE353) hb); have NB350_354 := Aside0.mk (zNl hg BK350 : gb350 ≠ gb354); have NB354_350 := Aside0.mk (zNg hg BK350 : gb354 ≠ gb350); replace BK350 := zKb BK350 hb; have NB351_354 := Aside0.mk (zNl hg BK351 : gb351 ≠ gb354); have NB354_351 := Aside0.mk (zNg hg BK351 : gb354 ≠ gb351); replace BK351 := zKb BK351 hb; have NB352_354 := Aside0.mk (zNl hg BK352 : gb352 ≠ gb354); have NB354_352 := Aside0.mk (zNg hg BK352 : gb354 ≠ gb352); replace BK352 := zKb BK352 hb; have NB353_354 := Aside0.mk (zNl hg BK353 : gb353 ≠ gb354); have NB354_353 := Aside0.mk (zNg hg BK353 : gb354 ≠ gb353); replace BK353 := zKb BK353 hb; clear hb hbox hg; have hnb24 := NB350_351.out; have hnc24 := NB351_350.out; have hnb25 := NB350_352.out; have hnc25 := NB352_350.out; have hnb26 := NB350_353.out; have hnc26 := NB353_350.out; have hnb27 := NB350_354.out; have hnc27 := NB354_350.out; obtain ⟨hcz28_0, hcz28_1, hcz28_2, hcz28_3, hfz28_0, hfz28_1, hfz28_2, hfz28_3⟩ := zc4 BK350) | ((with_reducible refine gate_callee (f := 45) rfl ?_); refine goesL_ (some 69) rfl rfl Try.func45 (by kernel_rfl) rfl #[.agg #[.int .i64 a0_0, .int .i64 a0_1, .bool a0_2, .bool a0_3], .int .i64 a1, .int .i64 a2, .int .i64 a3] rfl zm ?_; (with_reducible refine (impl_OrbitOf.calls k a0_0 a0_1 a0_2 a0_3 a1 a2 a3 t355 t358 _ A12.out).mono ?_); rintro e w29 ⟨v356, rfl, ho0, hb⟩; refine ⟨_, rfl, ?_⟩; have HO357 := Aside0.mk (Kd.R_lower ho0 (below_size (zB5 HB GE350 GE351 GE352 GE353 GE354))); replace BK350 := zKb BK350 hb; replace BK351 := zKb BK351 hb; replace BK352 := zKb BK352 hb; replace BK353 := zKb BK353 hb; replace BK354 := zKb BK354 hb; replace HB := Aside0.mk (below_step (zB5 HB GE350 GE351 GE352 GE353 GE354) hb); (try clear hb); (try clear hb2); (try clear hk); (try clear hi); (try clear ho0); obtain ⟨hcz30_0, hcz30_1, hcz30_2, hcz30_3, hfz30_0, hfz30_1, hfz30_2, hfz30_3⟩ := zc4 BK350) | ((with_reducible refine gate_callee (f := 46) rfl ?_); refine goesL_ (some 77) rfl rfl Try.func46 (by kernel_rfl) rfl #[.agg #[.int .i64 a0_0, .int .i64 a0_1, .bool a0_2, .bool a0_3], .int .i64 a1, .int .i64 a2, .int .i64 a3] rfl zm ?_; (with_reducible refine (spec_OrbitOf.calls k a0_0 a0_1 a0_2 a0_3 a1 a2 a3 t359 t362 _ A13.out).mono ?_); rintro e w31 ⟨v360, rfl, ho0, hb⟩; refine ⟨_, rfl, ?_⟩; have HO361 := Aside0.mk (Kd.R_lower (Kd.R_new' ho0 (Kd.R_lt (zR HO357.out))) (below_size (zB5 HB GE350 GE351 GE352 GE353 GE354))); replace HO357 := Aside0.mk (Kd.R_elder' (zR HO357.out) (Kd.R_base ho0) hb); replace BK350 := zKb BK350 hb; replace BK351 := zKb BK351 hb; replace BK352 := zKb BK352 hb; replace BK353 := zKb BK353 hb; replace BK354 := zKb BK354 hb; replace HB := Aside0.mk (below_step (zB5 HB GE350 GE351 GE352 GE353 GE354) hb); (try clear hb); (try clear hb2); (try clear hk); (try clear hi); (try clear ho0); obtain ⟨hcz32_0, hcz32_1, hcz32_2, hcz32_3, hfz32_0, hfz32_1, hfz32_2, hfz32_3⟩ := zc4 BK350) | ((with_reducible refine gate_callee (f := 47) rfl ?_); refine goesL_ (some 84) rfl rfl Try.func47 (by kernel_rfl) rfl #[.agg #[.int .i64 a0_0, .int .i64 a0_1, .bool a0_2, .bool a0_3], .int .i64 a2, .int .i64 a3] rfl zm ?_; (with_reducible refine (impl_OrbitLength.calls k a0_0 a0_1 a0_2 a0_3 a2 a3 t363 t364 _ A14.out).mono ?_); rintro e w33 ⟨rfl, hb⟩; refine ⟨_, rfl, ?_⟩; replace HO357 := zRb HO357 hb; replace HO361 := zRb HO361 hb; replace BK350 := zKb BK350 hb; replace BK351 := zKb BK351 hb; replace BK352 := zKb BK352 hb; replace BK353 := zKb BK353 hb; replace BK354 := zKb BK354 hb; replace HB := Aside0.mk (below_step (zB5 HB GE350 GE351 GE352 GE353 GE354) hb); (try clear hb); (try clear hb2); (try clear hk); (try clear hi); obtain ⟨hcz34_0, hcz34_1, hcz34_2, hcz34_3, hfz34_0, hfz34_1, hfz34_2, hfz34_3⟩ := zc4 BK350) | ((with_reducible refine gate_callee (f := 48) rfl ?_); refine goesL_ (some 91) rfl rfl Try.func48 (by kernel_rfl) rfl #[.agg #[.int .i64 a0_0, .int .i64 a0_1, .bool a0_2, .bool a0_3], .int .i64 a2, .int .i64 a3] rfl zm ?_; (with_reducible refine (spec_OrbitLength.calls k a0_0 a0_1 a0_2 a0_3 a2 a3 t365 t366 _ A15.out).mono ?_); rintro e w35 ⟨rfl, hb⟩; refine ⟨_, rfl, ?_⟩; replace HO357 := zRb HO357 hb; replace HO361 := zRb HO361 hb; replace BK350 := zKb BK350 hb; replace BK351 := zKb BK351 hb; replace BK352 := zKb BK352 hb; replace BK353 := zKb BK353 hb; replace BK354 := zKb BK354 hb; replace HB := Aside0.mk (below_step (zB5 HB GE350 GE351 GE352 GE353 GE354) hb); (try clear hb); (try clear hb2); (try clear hk); (try clear hi); obtain ⟨hcz36_0, hcz36_1, hcz36_2, hcz36_3, hfz36_0, hfz36_1, hfz36_2, hfz36_3⟩ := zc4 BK350) | ((with_reducible refine gate_callee (f := 49) rfl ?_); refine goesL_ (some 98) rfl rfl Try.func49 (by kernel_rfl) rfl #[.agg #[.int .i64 a0_0, .int .i64 a0_1, .bool a0_2, .bool a0_3], .int .i64 a2, .int .i64 a3] rfl zm ?_; (with_reducible refine (impl_CountOrbits.calls k a0_0 a0_1 a0_2 a0_3 a2 a3 t367 t368 _ A16.out).mono ?_); rintro e w37 ⟨rfl, hb⟩; refine ⟨_, rfl, ?_⟩; replace HO357 := zRb HO357 hb; replace HO361 := zRb HO361 hb; replace BK350 := zKb BK350 hb; replace BK351 := zKb BK351 hb; replace BK352 := zKb BK352 hb; replace BK353 := zKb BK353 hb; replace BK354 := zKb BK354 hb; replace HB := Aside0.mk (below_step (zB5 HB GE350 GE351 GE352 GE353 GE354) hb); (try clear hb); (try clear hb2); (try clear hk); (try clear hi); obtain ⟨hcz38_0, hcz38_1, hcz38_2, hcz38_3, hfz38_0, hfz38_1, hfz38_2, hfz38_3⟩ := zc4 BK350) | ((with_reducible refine gate_callee (f := 50) rfl ?_); refine goesL_ (some 105) rfl rfl Try.func50 (by kernel_rfl) rfl #[.agg #[.int .i64 a0_0, .int .i64 a0_1, .bool a0_2, .bool a0_3], .int .i64 a2, .int .i64 a3] rfl zm ?_; (with_reducible refine (spec_CountOrbits.calls k a0_0 a0_1 a0_2 a0_3 a2 a3 t369 t370 _ A17.out).mono ?_); rintro e w39 ⟨rfl, hb⟩; refine ⟨_, rfl, ?_⟩; replace HO357 := zRb HO357 hb; replace HO361 := zRb HO361 hb; replace BK350 := zKb BK350 hb; replace BK351 := zKb BK351 hb; replace BK352 := zKb BK352 hb; replace BK353 := zKb BK353 hb; replace BK354 := zKb BK354 hb; replace HB := Aside0.mk (below_step (zB5 HB GE350 GE351 GE352 GE353 GE354) hb); (try clear hb); (try clear hb2); (try clear hk); (try clear hi)))
 (try simp only [Act.put, List.setIfInBounds_toArray, List.set_cons_zero, List.set_cons_succ])
 go_cut [148] from 9999 to 9999 (fun v148 wc => ∃ (kq : Nat) (x148_17 : Bool), v148 = .bool x148_17 ∧ Aside0 (laws_FnOrbitsShareOfAll.j0 kq a1 a2 a3 a6 a7 a8 t355 t358 t363 t364 t367 x148_17 a0_0 a0_1 a0_2 a0_3 a4_0 a4_1 a4_2 a4_3 a5_0 a5_1 a9_0 a9_1 a9_2 a9_3 a10_0 a10_1 = some r) ∧ Aside0 (kq ≤ k) ∧ Aside0 (Kd.R (Kd.int .i64) 3 wc w.heap.size (fun _ => True) v356 t355) ∧ Aside0 (wc.heap[gb350]? = some (.cells #[.int .i64 a0_0, .int .i64 a0_1, .bool a0_2, .bool a0_3] 28 (0, 0))) ∧ Aside0 (wc.heap[gb351]? = some (.cells #[.int .i64 a4_0, .int .i64 a4_1, .bool a4_2, .bool a4_3] 28 (0, 0))) ∧ Aside0 (wc.heap[gb352]? = some (.cells #[.int .i64 a5_0, .int .i64 a5_1] 30 (0, 0))) ∧ Aside0 (wc.heap[gb353]? = some (.cells #[.int .i64 a9_0, .int .i64 a9_1, .bool a9_2, .bool a9_3] 28 (0, 0))) ∧ Aside0 (wc.heap[gb354]? = some (.cells #[.int .i64 a10_0, .int .i64 a10_1] 30 (0, 0))) ∧ Aside0 (Below w.heap.size w wc))
 case first => as_aux_lemma =>
  have H := HC18.out
  clear HC18
  by_cases c40 : (t358 != t362) = true
  ·rw [if_pos c40] at H
   have c40b0 := c40
   obtain ⟨c40b1, c40b2, c40b3⟩ := zne c40
   clear c40
   (first | rw [c40b0] | (simp only [i64_w, i32_w]; rw [c40b0]) | skip)
   have H' := Aside0.mk H
   clear H
   go_wp2
   go_meet
   case rel => exact ⟨_, (true), ze, H', ⟨zO⟩, ⟨zR (Kd.R_mono HO357.out (fun _ hk => trivial))⟩, ⟨zK BK350⟩, ⟨zK BK351⟩, ⟨zK BK352⟩, ⟨zK BK353⟩, ⟨zK BK354⟩, ⟨zB5 HB GE350 GE351 GE352 GE353 GE354⟩⟩
  ·as_aux_lemma =>
   rw [if_neg c40] at H
   obtain ⟨c40b0, c40b1, c40b2⟩ := znf c40
   clear c40
   (first | rw [c40b0] | (simp only [i64_w, i32_w]; rw [c40b0]) | skip)
   replace H := Option.bind_eq_some_iff.mp H
   obtain ⟨t371, A410, H⟩ := H
   try dsimp only at H
   have A41 := Aside0.mk A410
   clear A410
   by_cases c42 : t371 = true
   ·as_aux_lemma =>
    subst c42
    have H1 : (if (t364 != t366) = true then (laws_FnOrbitsShareOfAll.j0 k a1 a2 a3 a6 a7 a8 t355 t358 t363 t364 t367 true a0_0 a0_1 a0_2 a0_3 a4_0 a4_1 a4_2 a4_3 a5_0 a5_1 a9_0 a9_1 a9_2 a9_3 a10_0 a10_1) else (if t363 = t365 then (if (t368 != t370) = true then (laws_FnOrbitsShareOfAll.j0 k a1 a2 a3 a6 a7 a8 t355 t358 t363 t364 t367 true a0_0 a0_1 a0_2 a0_3 a4_0 a4_1 a4_2 a4_3 a5_0 a5_1 a9_0 a9_1 a9_2 a9_3 a10_0 a10_1) else (if t367 = t369 then (if (t368 != t364) = true then (laws_FnOrbitsShareOfAll.j0 k a1 a2 a3 a6 a7 a8 t355 t358 t363 t364 t367 true a0_0 a0_1 a0_2 a0_3 a4_0 a4_1 a4_2 a4_3 a5_0 a5_1 a9_0 a9_1 a9_2 a9_3 a10_0 a10_1) else (if t358 = true then (laws_FnOrbitsShareOfAll.j0 k a1 a2 a3 a6 a7 a8 t355 t358 t363 t364 t367 (!t364) a0_0 a0_1 a0_2 a0_3 a4_0 a4_1 a4_2 a4_3 a5_0 a5_1 a9_0 a9_1 a9_2 a9_3 a10_0 a10_1) else (laws_FnOrbitsShareOfAll.j0 k a1 a2 a3 a6 a7 a8 t355 t358 t363 t364 t367 false a0_0 a0_1 a0_2 a0_3 a4_0 a4_1 a4_2 a4_3 a5_0 a5_1 a9_0 a9_1 a9_2 a9_3 a10_0 a10_1))) else (laws_FnOrbitsShareOfAll.j0 k a1 a2 a3 a6 a7 a8 t355 t358 t363 t364 t367 true a0_0 a0_1 a0_2 a0_3 a4_0 a4_1 a4_2 a4_3 a5_0 a5_1 a9_0 a9_1 a9_2 a9_3 a10_0 a10_1))) else (laws_FnOrbitsShareOfAll.j0 k a1 a2 a3 a6 a7 a8 t355 t358 t363 t364 t367 true a0_0 a0_1 a0_2 a0_3 a4_0 a4_1 a4_2 a4_3 a5_0 a5_1 a9_0 a9_1 a9_2 a9_3 a10_0 a10_1))) = some r := by rw [if_pos rfl] at H; exact H
    clear H
    have H := H1
    clear H1
    by_cases c43 : (t364 != t366) = true
    ·rw [if_pos c43] at H
     have c43b0 := c43
     obtain ⟨c43b1, c43b2, c43b3⟩ := zne c43
     clear c43
     have H' := Aside0.mk H
     clear H
     obtain ⟨Ao44, co44, eo44⟩ := Kd.R_slice HO357.out
     subst eo44
     obtain ⟨Ao45, co45, eo45⟩ := Kd.R_slice HO361.out
     subst eo45
     go_wp2_with (first | (go_at_call 51; (with_reducible refine (laws_nSame.calls k _ _ t355 _ _ t359 true _ ?side1 ?side2 ?side3 ?side4 A41.out).mono ?_); (case side1 => exact zC (Kd.R_reads' HO357.out).2.2); (case side2 => exact (Kd.R_reads' HO357.out).2.1); (case side3 => exact zC (Kd.R_reads' HO361.out).2.2); (case side4 => exact (Kd.R_reads' HO361.out).2.1); rintro e w' ⟨rfl, ⟨nd, rfl⟩⟩))
     go_meet
     case rel => exact ⟨_, (true), ze, H', ⟨zO⟩, ⟨zR (Kd.R_mono HO357.out (fun _ hk => trivial))⟩, ⟨zK BK350⟩, ⟨zK BK351⟩, ⟨zK BK352⟩, ⟨zK BK353⟩, ⟨zK BK354⟩, ⟨zB5 HB GE350 GE351 GE352 GE353 GE354⟩⟩
    ·as_aux_lemma =>
     rw [if_neg c43] at H
     obtain ⟨c43b0, c43b1, c43b2⟩ := znf c43
     clear c43
     by_cases c46 : t363 = t365
     ·as_aux_lemma =>
      rw [if_pos c46] at H
      have c46b0 : (t363 == t365) = true := beq_iff_eq.mpr c46
      have c46b1 : (t363 != t365) = false := bne_eq_false_iff_eq.mpr c46
      clear c46
      by_cases c47 : (t368 != t370) = true
      ·rw [if_pos c47] at H
       have c47b0 := c47
       obtain ⟨c47b1, c47b2, c47b3⟩ := zne c47
       clear c47
       have H' := Aside0.mk H
       clear H
       obtain ⟨Ao48, co48, eo48⟩ := Kd.R_slice HO357.out
       subst eo48
       obtain ⟨Ao49, co49, eo49⟩ := Kd.R_slice HO361.out
       subst eo49
       go_wp2_with (first | (go_at_call 51; (with_reducible refine (laws_nSame.calls k _ _ t355 _ _ t359 true _ ?side1 ?side2 ?side3 ?side4 A41.out).mono ?_); (case side1 => exact zC (Kd.R_reads' HO357.out).2.2); (case side2 => exact (Kd.R_reads' HO357.out).2.1); (case side3 => exact zC (Kd.R_reads' HO361.out).2.2); (case side4 => exact (Kd.R_reads' HO361.out).2.1); rintro e w' ⟨rfl, ⟨nd, rfl⟩⟩))
       go_meet
       case rel => exact ⟨_, (true), ze, H', ⟨zO⟩, ⟨zR (Kd.R_mono HO357.out (fun _ hk => trivial))⟩, ⟨zK BK350⟩, ⟨zK BK351⟩, ⟨zK BK352⟩, ⟨zK BK353⟩, ⟨zK BK354⟩, ⟨zB5 HB GE350 GE351 GE352 GE353 GE354⟩⟩
      ·rw [if_neg c47] at H
       obtain ⟨c47b0, c47b1, c47b2⟩ := znf c47
       clear c47
       by_cases c50 : t367 = t369
       ·rw [if_pos c50] at H
        have c50b0 : (t367 == t369) = true := beq_iff_eq.mpr c50
        have c50b1 : (t367 != t369) = false := bne_eq_false_iff_eq.mpr c50
        clear c50
        by_cases c51 : (t368 != t364) = true
        ·rw [if_pos c51] at H
         have c51b0 := c51
         obtain ⟨c51b1, c51b2, c51b3⟩ := zne c51
         clear c51
         have H' := Aside0.mk H
         clear H
         obtain ⟨Ao52, co52, eo52⟩ := Kd.R_slice HO357.out
         subst eo52
         obtain ⟨Ao53, co53, eo53⟩ := Kd.R_slice HO361.out
         subst eo53
         go_wp2_with (first | (go_at_call 51; (with_reducible refine (laws_nSame.calls k _ _ t355 _ _ t359 true _ ?side1 ?side2 ?side3 ?side4 A41.out).mono ?_); (case side1 => exact zC (Kd.R_reads' HO357.out).2.2); (case side2 => exact (Kd.R_reads' HO357.out).2.1); (case side3 => exact zC (Kd.R_reads' HO361.out).2.2); (case side4 => exact (Kd.R_reads' HO361.out).2.1); rintro e w' ⟨rfl, ⟨nd, rfl⟩⟩))
         go_meet
         case rel => exact ⟨_, (true), ze, H', ⟨zO⟩, ⟨zR (Kd.R_mono HO357.out (fun _ hk => trivial))⟩, ⟨zK BK350⟩, ⟨zK BK351⟩, ⟨zK BK352⟩, ⟨zK BK353⟩, ⟨zK BK354⟩, ⟨zB5 HB GE350 GE351 GE352 GE353 GE354⟩⟩
        ·rw [if_neg c51] at H
         obtain ⟨c51b0, c51b1, c51b2⟩ := znf c51
         clear c51
         by_cases c54 : t358 = true
         ·subst c54
          have H1 : (laws_FnOrbitsShareOfAll.j0 k a1 a2 a3 a6 a7 a8 t355 true t363 t364 t367 (!t364) a0_0 a0_1 a0_2 a0_3 a4_0 a4_1 a4_2 a4_3 a5_0 a5_1 a9_0 a9_1 a9_2 a9_3 a10_0 a10_1) = some r := by rw [if_pos rfl] at H; exact H
          clear H
          have H := H1
          clear H1
          have H' := Aside0.mk H
          clear H
          obtain ⟨Ao55, co55, eo55⟩ := Kd.R_slice HO357.out
          subst eo55
          obtain ⟨Ao56, co56, eo56⟩ := Kd.R_slice HO361.out
          subst eo56
          go_wp2_with (first | (go_at_call 51; (with_reducible refine (laws_nSame.calls k _ _ t355 _ _ t359 true _ ?side1 ?side2 ?side3 ?side4 A41.out).mono ?_); (case side1 => exact zC (Kd.R_reads' HO357.out).2.2); (case side2 => exact (Kd.R_reads' HO357.out).2.1); (case side3 => exact zC (Kd.R_reads' HO361.out).2.2); (case side4 => exact (Kd.R_reads' HO361.out).2.1); rintro e w' ⟨rfl, ⟨nd, rfl⟩⟩))
          go_meet
          case rel => exact ⟨_, (!t364), ze, H', ⟨zO⟩, ⟨zR (Kd.R_mono HO357.out (fun _ hk => trivial))⟩, ⟨zK BK350⟩, ⟨zK BK351⟩, ⟨zK BK352⟩, ⟨zK BK353⟩, ⟨zK BK354⟩, ⟨zB5 HB GE350 GE351 GE352 GE353 GE354⟩⟩
         ·replace c54 := Bool.eq_false_iff.mpr c54
          subst c54
          have H1 : (laws_FnOrbitsShareOfAll.j0 k a1 a2 a3 a6 a7 a8 t355 false t363 t364 t367 false a0_0 a0_1 a0_2 a0_3 a4_0 a4_1 a4_2 a4_3 a5_0 a5_1 a9_0 a9_1 a9_2 a9_3 a10_0 a10_1) = some r := by rw [if_neg (show ¬ (false = true) by decide)] at H; exact H
          clear H
          have H := H1
          clear H1
          have H' := Aside0.mk H
          clear H
          obtain ⟨Ao57, co57, eo57⟩ := Kd.R_slice HO357.out
          subst eo57
          obtain ⟨Ao58, co58, eo58⟩ := Kd.R_slice HO361.out
          subst eo58
          go_wp2_with (first | (go_at_call 51; (with_reducible refine (laws_nSame.calls k _ _ t355 _ _ t359 true _ ?side1 ?side2 ?side3 ?side4 A41.out).mono ?_); (case side1 => exact zC (Kd.R_reads' HO357.out).2.2); (case side2 => exact (Kd.R_reads' HO357.out).2.1); (case side3 => exact zC (Kd.R_reads' HO361.out).2.2); (case side4 => exact (Kd.R_reads' HO361.out).2.1); rintro e w' ⟨rfl, ⟨nd, rfl⟩⟩))
          go_meet
          case rel => exact ⟨_, (false), ze, H', ⟨zO⟩, ⟨zR (Kd.R_mono HO357.out (fun _ hk => trivial))⟩, ⟨zK BK350⟩, ⟨zK BK351⟩, ⟨zK BK352⟩, ⟨zK BK353⟩, ⟨zK BK354⟩, ⟨zB5 HB GE350 GE351 GE352 GE353 GE354⟩⟩
       ·rw [if_neg c50] at H
        have c50b0 : (t367 == t369) = false := beq_eq_false_iff_ne.mpr c50
        have c50b1 : (t367 != t369) = true := bne_iff_ne.mpr c50
        have H' := Aside0.mk H
        clear H
        obtain ⟨Ao59, co59, eo59⟩ := Kd.R_slice HO357.out
        subst eo59
        obtain ⟨Ao60, co60, eo60⟩ := Kd.R_slice HO361.out
        subst eo60
        go_wp2_with (first | (go_at_call 51; (with_reducible refine (laws_nSame.calls k _ _ t355 _ _ t359 true _ ?side1 ?side2 ?side3 ?side4 A41.out).mono ?_); (case side1 => exact zC (Kd.R_reads' HO357.out).2.2); (case side2 => exact (Kd.R_reads' HO357.out).2.1); (case side3 => exact zC (Kd.R_reads' HO361.out).2.2); (case side4 => exact (Kd.R_reads' HO361.out).2.1); rintro e w' ⟨rfl, ⟨nd, rfl⟩⟩))
        go_meet
        case rel => exact ⟨_, (true), ze, H', ⟨zO⟩, ⟨zR (Kd.R_mono HO357.out (fun _ hk => trivial))⟩, ⟨zK BK350⟩, ⟨zK BK351⟩, ⟨zK BK352⟩, ⟨zK BK353⟩, ⟨zK BK354⟩, ⟨zB5 HB GE350 GE351 GE352 GE353 GE354⟩⟩
     ·rw [if_neg c46] at H
      have c46b0 : (t363 == t365) = false := beq_eq_false_iff_ne.mpr c46
      have c46b1 : (t363 != t365) = true := bne_iff_ne.mpr c46
      have H' := Aside0.mk H
      clear H
      obtain ⟨Ao61, co61, eo61⟩ := Kd.R_slice HO357.out
      subst eo61
      obtain ⟨Ao62, co62, eo62⟩ := Kd.R_slice HO361.out
      subst eo62
      go_wp2_with (first | (go_at_call 51; (with_reducible refine (laws_nSame.calls k _ _ t355 _ _ t359 true _ ?side1 ?side2 ?side3 ?side4 A41.out).mono ?_); (case side1 => exact zC (Kd.R_reads' HO357.out).2.2); (case side2 => exact (Kd.R_reads' HO357.out).2.1); (case side3 => exact zC (Kd.R_reads' HO361.out).2.2); (case side4 => exact (Kd.R_reads' HO361.out).2.1); rintro e w' ⟨rfl, ⟨nd, rfl⟩⟩))
      go_meet
      case rel => exact ⟨_, (true), ze, H', ⟨zO⟩, ⟨zR (Kd.R_mono HO357.out (fun _ hk => trivial))⟩, ⟨zK BK350⟩, ⟨zK BK351⟩, ⟨zK BK352⟩, ⟨zK BK353⟩, ⟨zK BK354⟩, ⟨zB5 HB GE350 GE351 GE352 GE353 GE354⟩⟩
   ·replace c42 := Bool.eq_false_iff.mpr c42
    subst c42
    have H1 : (laws_FnOrbitsShareOfAll.j0 k a1 a2 a3 a6 a7 a8 t355 t358 t363 t364 t367 true a0_0 a0_1 a0_2 a0_3 a4_0 a4_1 a4_2 a4_3 a5_0 a5_1 a9_0 a9_1 a9_2 a9_3 a10_0 a10_1) = some r := by rw [if_neg (show ¬ (false = true) by decide)] at H; exact H
    clear H
    have H := H1
    clear H1
    have H' := Aside0.mk H
    clear H
    obtain ⟨Ao63, co63, eo63⟩ := Kd.R_slice HO357.out
    subst eo63
    obtain ⟨Ao64, co64, eo64⟩ := Kd.R_slice HO361.out
    subst eo64
    go_wp2_with (first | (go_at_call 51; (with_reducible refine (laws_nSame.calls k _ _ t355 _ _ t359 false _ ?side1 ?side2 ?side3 ?side4 A41.out).mono ?_); (case side1 => exact zC (Kd.R_reads' HO357.out).2.2); (case side2 => exact (Kd.R_reads' HO357.out).2.1); (case side3 => exact zC (Kd.R_reads' HO361.out).2.2); (case side4 => exact (Kd.R_reads' HO361.out).2.1); rintro e w' ⟨rfl, ⟨nd, rfl⟩⟩))
    go_meet
    case rel => exact ⟨_, (true), ze, H', ⟨zO⟩, ⟨zR (Kd.R_mono HO357.out (fun _ hk => trivial))⟩, ⟨zK BK350⟩, ⟨zK BK351⟩, ⟨zK BK352⟩, ⟨zK BK353⟩, ⟨zK BK354⟩, ⟨zB5 HB GE350 GE351 GE352 GE353 GE354⟩⟩
 case rest => as_aux_lemma =>
  clear HC18
  (try clear hcz28_0 hcz28_1 hcz28_2 hcz28_3 hfz28_0 hfz28_1 hfz28_2 hfz28_3); (try clear hcz30_0 hcz30_1 hcz30_2 hcz30_3 hfz30_0 hfz30_1 hfz30_2 hfz30_3); (try clear hcz32_0 hcz32_1 hcz32_2 hcz32_3 hfz32_0 hfz32_1 hfz32_2 hfz32_3); (try clear hcz34_0 hcz34_1 hcz34_2 hcz34_3 hfz34_0 hfz34_1 hfz34_2 hfz34_3); (try clear hcz36_0 hcz36_1 hcz36_2 hcz36_3 hfz36_0 hfz36_1 hfz36_2 hfz36_3); (try clear hcz38_0 hcz38_1 hcz38_2 hcz38_3 hfz38_0 hfz38_1 hfz38_2 hfz38_3)
  obtain ⟨kq, x148_17, rfl, HA, HJ17, HO_23, BK350, BK351, BK352, BK353, BK354, HB⟩ := hcut
  cases kq with
  | zero => exact absurd HA.out (by simp [laws_FnOrbitsShareOfAll.j0])
  | succ kj17 =>
   have H := HA.out
   clear HA
   simp only [laws_FnOrbitsShareOfAll.j0] at H
   by_cases c65 : x148_17 = true
   ·subst c65
    have H1 : (some false) = some r := by rw [if_pos rfl] at H; exact H
    clear H
    have H := H1
    clear H1
    obtain rfl := Option.some.inj H
    go_wp2
    go_ret
    exact ⟨zt, zB5 HB GE350 GE351 GE352 GE353 GE354⟩
   ·replace c65 := Bool.eq_false_iff.mpr c65
    subst c65
    have H1 : (if t364 = true then (laws_FnOrbitsShareOfAll.l0 kj17 a1 a2 a3 a6 a7 a8 t355 t358 t363 t367 1 a0_0 a0_1 a0_2 a0_3 a4_0 a4_1 a4_2 a4_3 a5_0 a5_1 a9_0 a9_1 a9_2 a9_3 a10_0 a10_1) else (laws_FnOrbitsShareOfAll.j2 kj17 a1 a2 a3 a6 a7 a8 t355 t358 t363 a0_0 a0_1 a0_2 a0_3 a4_0 a4_1 a4_2 a4_3 a5_0 a5_1 a9_0 a9_1 a9_2 a9_3 a10_0 a10_1)) = some r := by rw [if_neg (show ¬ (false = true) by decide)] at H; exact H
    clear H
    have H := H1
    clear H1
    have HC66 := Aside0.mk H
    clear H
    go_upto_if 149 with (fail)
    go_cut [] from 9999 to 9999 (fun wc => ∃ (kq : Nat), Aside0 (laws_FnOrbitsShareOfAll.j2 kq a1 a2 a3 a6 a7 a8 t355 t358 t363 a0_0 a0_1 a0_2 a0_3 a4_0 a4_1 a4_2 a4_3 a5_0 a5_1 a9_0 a9_1 a9_2 a9_3 a10_0 a10_1 = some r) ∧ Aside0 (kq ≤ kj17) ∧ Aside0 (Kd.R (Kd.int .i64) 3 wc w.heap.size (fun _ => True) v356 t355) ∧ Aside0 (wc.heap[gb350]? = some (.cells #[.int .i64 a0_0, .int .i64 a0_1, .bool a0_2, .bool a0_3] 28 (0, 0))) ∧ Aside0 (wc.heap[gb351]? = some (.cells #[.int .i64 a4_0, .int .i64 a4_1, .bool a4_2, .bool a4_3] 28 (0, 0))) ∧ Aside0 (wc.heap[gb352]? = some (.cells #[.int .i64 a5_0, .int .i64 a5_1] 30 (0, 0))) ∧ Aside0 (wc.heap[gb353]? = some (.cells #[.int .i64 a9_0, .int .i64 a9_1, .bool a9_2, .bool a9_3] 28 (0, 0))) ∧ Aside0 (wc.heap[gb354]? = some (.cells #[.int .i64 a10_0, .int .i64 a10_1] 30 (0, 0))) ∧ Aside0 (Below w.heap.size w wc))
    case first => as_aux_lemma =>
     have H := HC66.out
     clear HC66
     by_cases c67 : t364 = true
     ·as_aux_lemma =>
      subst c67
      have H1 : (laws_FnOrbitsShareOfAll.l0 kj17 a1 a2 a3 a6 a7 a8 t355 t358 t363 t367 1 a0_0 a0_1 a0_2 a0_3 a4_0 a4_1 a4_2 a4_3 a5_0 a5_1 a9_0 a9_1 a9_2 a9_3 a10_0 a10_1) = some r := by rw [if_pos rfl] at H; exact H
      clear H
      have H := H1
      clear H1
      have H' := Aside0.mk H
      clear H
      go_wp2
      go_loopg [35] kj17 (fun kq v35 w' => ∃ (x35_2 : Int), v35 = .int .i64 x35_2 ∧ Aside0 (laws_FnOrbitsShareOfAll.l0 kq a1 a2 a3 a6 a7 a8 t355 t358 t363 t367 x35_2 a0_0 a0_1 a0_2 a0_3 a4_0 a4_1 a4_2 a4_3 a5_0 a5_1 a9_0 a9_1 a9_2 a9_3 a10_0 a10_1 = some r) ∧ Aside0 (kq ≤ kj17) ∧ Aside0 (Kd.R (Kd.int .i64) 3 w' w.heap.size (fun _ => True) v356 t355) ∧ Aside0 (w'.heap[gb350]? = some (.cells #[.int .i64 a0_0, .int .i64 a0_1, .bool a0_2, .bool a0_3] 28 (0, 0))) ∧ Aside0 (w'.heap[gb351]? = some (.cells #[.int .i64 a4_0, .int .i64 a4_1, .bool a4_2, .bool a4_3] 28 (0, 0))) ∧ Aside0 (w'.heap[gb352]? = some (.cells #[.int .i64 a5_0, .int .i64 a5_1] 30 (0, 0))) ∧ Aside0 (w'.heap[gb353]? = some (.cells #[.int .i64 a9_0, .int .i64 a9_1, .bool a9_2, .bool a9_3] 28 (0, 0))) ∧ Aside0 (w'.heap[gb354]? = some (.cells #[.int .i64 a10_0, .int .i64 a10_1] 30 (0, 0))) ∧ Aside0 (Below w.heap.size w w'))
      case atStart => exact ⟨(1), ze, H', ⟨Nat.le_refl _⟩, ⟨zR HO_23.out⟩, ⟨zK BK350⟩, ⟨zK BK351⟩, ⟨zK BK352⟩, ⟨zK BK353⟩, ⟨zK BK354⟩, ⟨zB5 HB GE350 GE351 GE352 GE353 GE354⟩⟩
      case round => as_aux_lemma =>
       clear H'
       (try clear c65); (try clear c67); (try clear hcz28_0 hcz28_1 hcz28_2 hcz28_3 hfz28_0 hfz28_1 hfz28_2 hfz28_3); (try clear hcz30_0 hcz30_1 hcz30_2 hcz30_3 hfz30_0 hfz30_1 hfz30_2 hfz30_3); (try clear hcz32_0 hcz32_1 hcz32_2 hcz32_3 hfz32_0 hfz32_1 hfz32_2 hfz32_3); (try clear hcz34_0 hcz34_1 hcz34_2 hcz34_3 hfz34_0 hfz34_1 hfz34_2 hfz34_3); (try clear hcz36_0 hcz36_1 hcz36_2 hcz36_3 hfz36_0 hfz36_1 hfz36_2 hfz36_3); (try clear hcz38_0 hcz38_1 hcz38_2 hcz38_3 hfz38_0 hfz38_1 hfz38_2 hfz38_3)
       obtain ⟨x35_2, rfl, HA, HK2, HO_23, BK350, BK351, BK352, BK353, BK354, HB⟩ := hrel
       cases gk with
       | zero => exact absurd HA.out (by simp [laws_FnOrbitsShareOfAll.l0])
       | succ k2 =>
        have H := HA.out
        clear HA
        simp only [laws_FnOrbitsShareOfAll.l0] at H
        by_cases c68 : a0_0 = 0
        ·rw [if_pos c68] at H
         exact absurd H (by simp)
        ·as_aux_lemma =>
         rw [if_neg c68] at H
         have c68b0 : (a0_0 == 0) = false := beq_eq_false_iff_ne.mpr c68
         have c68b1 : (a0_0 != 0) = true := bne_iff_ne.mpr c68
         (first | rw [c68b0] | (simp only [i64_w, i32_w]; rw [c68b0]) | skip)
         by_cases c69 : (Int.tmod (wrap64 (x35_2 * a2)) a0_0) = 0
         ·as_aux_lemma =>
          rw [if_pos c69] at H
          have c69b0 : ((Int.tmod (wrap64 (x35_2 * a2)) a0_0) == 0) = true := beq_iff_eq.mpr c69
          have c69b1 : ((Int.tmod (wrap64 (x35_2 * a2)) a0_0) != 0) = false := bne_eq_false_iff_eq.mpr c69
          clear c69
          by_cases c70 : a0_1 = 0
          ·rw [if_pos c70] at H
           exact absurd H (by simp)
          ·as_aux_lemma =>
           rw [if_neg c70] at H
           have c70b0 : (a0_1 == 0) = false := beq_eq_false_iff_ne.mpr c70
           have c70b1 : (a0_1 != 0) = true := bne_iff_ne.mpr c70
           by_cases c71 : (Int.tmod (wrap64 (x35_2 * a3)) a0_1) = 0
           ·rw [if_pos c71] at H
            have c71b0 : ((Int.tmod (wrap64 (x35_2 * a3)) a0_1) == 0) = true := beq_iff_eq.mpr c71
            have c71b1 : ((Int.tmod (wrap64 (x35_2 * a3)) a0_1) != 0) = false := bne_eq_false_iff_eq.mpr c71
            clear c71
            by_cases c72 : t363 = x35_2
            ·rw [if_pos c72] at H
             have c72b0 : (t363 == x35_2) = true := beq_iff_eq.mpr c72
             have c72b1 : (t363 != x35_2) = false := bne_eq_false_iff_eq.mpr c72
             clear c72
             by_cases c73 : (wrap64 (t367 * t363)) = (wrap64 (a0_0 * a0_1))
             ·rw [if_pos c73] at H
              have c73b0 : ((wrap64 (t367 * t363)) == (wrap64 (a0_0 * a0_1))) = true := beq_iff_eq.mpr c73
              have c73b1 : ((wrap64 (t367 * t363)) != (wrap64 (a0_0 * a0_1))) = false := bne_eq_false_iff_eq.mpr c73
              clear c73
              have H' := Aside0.mk H
              clear H
              have hnb74 := NB350_351.out
              have hnc74 := NB351_350.out
              have hnb75 := NB350_352.out
              have hnc75 := NB352_350.out
              have hnb76 := NB350_353.out
              have hnc76 := NB353_350.out
              have hnb77 := NB350_354.out
              have hnc77 := NB354_350.out
              obtain ⟨hcz78_0, hcz78_1, hcz78_2, hcz78_3, hfz78_0, hfz78_1, hfz78_2, hfz78_3⟩ := zc4 BK350
              go_wp2
              go_meet
              case rel => exact ⟨_, H', ⟨by have := HJ17.out; have := HK2.out; first | omega | exact Nat.le_refl _⟩, ⟨zR HO_23.out⟩, ⟨zK BK350⟩, ⟨zK BK351⟩, ⟨zK BK352⟩, ⟨zK BK353⟩, ⟨zK BK354⟩, ⟨zB5 HB GE350 GE351 GE352 GE353 GE354⟩⟩
             ·rw [if_neg c73] at H
              have c73b0 : ((wrap64 (t367 * t363)) == (wrap64 (a0_0 * a0_1))) = false := beq_eq_false_iff_ne.mpr c73
              have c73b1 : ((wrap64 (t367 * t363)) != (wrap64 (a0_0 * a0_1))) = true := bne_iff_ne.mpr c73
              obtain rfl := Option.some.inj H
              have hnb79 := NB350_351.out
              have hnc79 := NB351_350.out
              have hnb80 := NB350_352.out
              have hnc80 := NB352_350.out
              have hnb81 := NB350_353.out
              have hnc81 := NB353_350.out
              have hnb82 := NB350_354.out
              have hnc82 := NB354_350.out
              obtain ⟨hcz83_0, hcz83_1, hcz83_2, hcz83_3, hfz83_0, hfz83_1, hfz83_2, hfz83_3⟩ := zc4 BK350
              go_wp2
              go_ret
              exact ⟨zt, zB5 HB GE350 GE351 GE352 GE353 GE354⟩
            ·rw [if_neg c72] at H
             have c72b0 : (t363 == x35_2) = false := beq_eq_false_iff_ne.mpr c72
             have c72b1 : (t363 != x35_2) = true := bne_iff_ne.mpr c72
             obtain rfl := Option.some.inj H
             have hnb84 := NB350_351.out
             have hnc84 := NB351_350.out
             have hnb85 := NB350_352.out
             have hnc85 := NB352_350.out
             have hnb86 := NB350_353.out
             have hnc86 := NB353_350.out
             have hnb87 := NB350_354.out
             have hnc87 := NB354_350.out
             obtain ⟨hcz88_0, hcz88_1, hcz88_2, hcz88_3, hfz88_0, hfz88_1, hfz88_2, hfz88_3⟩ := zc4 BK350
             go_wp2
             go_ret
             exact ⟨zt, zB5 HB GE350 GE351 GE352 GE353 GE354⟩
           ·rw [if_neg c71] at H
            have c71b0 : ((Int.tmod (wrap64 (x35_2 * a3)) a0_1) == 0) = false := beq_eq_false_iff_ne.mpr c71
            have c71b1 : ((Int.tmod (wrap64 (x35_2 * a3)) a0_1) != 0) = true := bne_iff_ne.mpr c71
            by_cases c89 : (wrap64 (x35_2 + 1)) > (wrap64 (a0_0 * a0_1))
            ·rw [if_pos c89] at H
             have c89b0 : decide ((wrap64 (a0_0 * a0_1)) < (wrap64 (x35_2 + 1))) = true := decide_eq_true c89
             clear c89
             obtain rfl := Option.some.inj H
             have hnb90 := NB350_351.out
             have hnc90 := NB351_350.out
             have hnb91 := NB350_352.out
             have hnc91 := NB352_350.out
             have hnb92 := NB350_353.out
             have hnc92 := NB353_350.out
             have hnb93 := NB350_354.out
             have hnc93 := NB354_350.out
             obtain ⟨hcz94_0, hcz94_1, hcz94_2, hcz94_3, hfz94_0, hfz94_1, hfz94_2, hfz94_3⟩ := zc4 BK350
             go_wp2
             go_ret
             exact ⟨zt, zB5 HB GE350 GE351 GE352 GE353 GE354⟩
            ·rw [if_neg c89] at H
             have c89b0 : decide ((wrap64 (a0_0 * a0_1)) < (wrap64 (x35_2 + 1))) = false := decide_eq_false c89
             clear c89
             have H' := Aside0.mk H
             clear H
             have hnb95 := NB350_351.out
             have hnc95 := NB351_350.out
             have hnb96 := NB350_352.out
             have hnc96 := NB352_350.out
             have hnb97 := NB350_353.out
             have hnc97 := NB353_350.out
             have hnb98 := NB350_354.out
             have hnc98 := NB354_350.out
             obtain ⟨hcz99_0, hcz99_1, hcz99_2, hcz99_3, hfz99_0, hfz99_1, hfz99_2, hfz99_3⟩ := zc4 BK350
             go_wp2
             go_roundg k2
             case measure => have := HJ17.out; have := HK2.out; omega
             case rel => exact ⟨(wrap64 (x35_2 + 1)), ze, H', ⟨by have := HJ17.out; have := HK2.out; omega⟩, ⟨zR HO_23.out⟩, ⟨zK BK350⟩, ⟨zK BK351⟩, ⟨zK BK352⟩, ⟨zK BK353⟩, ⟨zK BK354⟩, ⟨zB5 HB GE350 GE351 GE352 GE353 GE354⟩⟩
         ·rw [if_neg c69] at H
          have c69b0 : ((Int.tmod (wrap64 (x35_2 * a2)) a0_0) == 0) = false := beq_eq_false_iff_ne.mpr c69
          have c69b1 : ((Int.tmod (wrap64 (x35_2 * a2)) a0_0) != 0) = true := bne_iff_ne.mpr c69
          by_cases c100 : (wrap64 (x35_2 + 1)) > (wrap64 (a0_0 * a0_1))
          ·rw [if_pos c100] at H
           have c100b0 : decide ((wrap64 (a0_0 * a0_1)) < (wrap64 (x35_2 + 1))) = true := decide_eq_true c100
           clear c100
           obtain rfl := Option.some.inj H
           have hnb101 := NB350_351.out
           have hnc101 := NB351_350.out
           have hnb102 := NB350_352.out
           have hnc102 := NB352_350.out
           have hnb103 := NB350_353.out
           have hnc103 := NB353_350.out
           have hnb104 := NB350_354.out
           have hnc104 := NB354_350.out
           obtain ⟨hcz105_0, hcz105_1, hcz105_2, hcz105_3, hfz105_0, hfz105_1, hfz105_2, hfz105_3⟩ := zc4 BK350
           go_wp2
           go_ret
           exact ⟨zt, zB5 HB GE350 GE351 GE352 GE353 GE354⟩
          ·rw [if_neg c100] at H
           have c100b0 : decide ((wrap64 (a0_0 * a0_1)) < (wrap64 (x35_2 + 1))) = false := decide_eq_false c100
           clear c100
           have H' := Aside0.mk H
           clear H
           have hnb106 := NB350_351.out
           have hnc106 := NB351_350.out
           have hnb107 := NB350_352.out
           have hnc107 := NB352_350.out
           have hnb108 := NB350_353.out
           have hnc108 := NB353_350.out
           have hnb109 := NB350_354.out
           have hnc109 := NB354_350.out
           obtain ⟨hcz110_0, hcz110_1, hcz110_2, hcz110_3, hfz110_0, hfz110_1, hfz110_2, hfz110_3⟩ := zc4 BK350
           go_wp2
           go_roundg k2
           case measure => have := HJ17.out; have := HK2.out; omega
           case rel => exact ⟨(wrap64 (x35_2 + 1)), ze, H', ⟨by have := HJ17.out; have := HK2.out; omega⟩, ⟨zR HO_23.out⟩, ⟨zK BK350⟩, ⟨zK BK351⟩, ⟨zK BK352⟩, ⟨zK BK353⟩, ⟨zK BK354⟩, ⟨zB5 HB GE350 GE351 GE352 GE353 GE354⟩⟩
     ·replace c67 := Bool.eq_false_iff.mpr c67
      subst c67
      have H1 : (laws_FnOrbitsShareOfAll.j2 kj17 a1 a2 a3 a6 a7 a8 t355 t358 t363 a0_0 a0_1 a0_2 a0_3 a4_0 a4_1 a4_2 a4_3 a5_0 a5_1 a9_0 a9_1 a9_2 a9_3 a10_0 a10_1) = some r := by rw [if_neg (show ¬ (false = true) by decide)] at H; exact H
      clear H
      have H := H1
      clear H1
      have H' := Aside0.mk H
      clear H
      go_wp2
      go_meet
      case rel => exact ⟨_, H', ⟨by have := HJ17.out; first | omega | exact Nat.le_refl _⟩, ⟨zR HO_23.out⟩, ⟨zK BK350⟩, ⟨zK BK351⟩, ⟨zK BK352⟩, ⟨zK BK353⟩, ⟨zK BK354⟩, ⟨zB5 HB GE350 GE351 GE352 GE353 GE354⟩⟩
    case rest => as_aux_lemma =>
     clear HC66
     (try clear c65); (try clear hcz28_0 hcz28_1 hcz28_2 hcz28_3 hfz28_0 hfz28_1 hfz28_2 hfz28_3); (try clear hcz30_0 hcz30_1 hcz30_2 hcz30_3 hfz30_0 hfz30_1 hfz30_2 hfz30_3); (try clear hcz32_0 hcz32_1 hcz32_2 hcz32_3 hfz32_0 hfz32_1 hfz32_2 hfz32_3); (try clear hcz34_0 hcz34_1 hcz34_2 hcz34_3 hfz34_0 hfz34_1 hfz34_2 hfz34_3); (try clear hcz36_0 hcz36_1 hcz36_2 hcz36_3 hfz36_0 hfz36_1 hfz36_2 hfz36_3); (try clear hcz38_0 hcz38_1 hcz38_2 hcz38_3 hfz38_0 hfz38_1 hfz38_2 hfz38_3)
     obtain ⟨kq, HA, HJ65, HO_23, BK350, BK351, BK352, BK353, BK354, HB⟩ := hcut
     cases kq with
     | zero => exact absurd HA.out (by simp [laws_FnOrbitsShareOfAll.j2])
     | succ kj65 =>
      have H := HA.out
      clear HA
      simp only [laws_FnOrbitsShareOfAll.j2] at H
      have HC111 := Aside0.mk H
      clear H
      go_upto_if 189 with (fail)
      go_cut [] from 9999 to 9999 (fun wc => ∃ (kq : Nat), Aside0 (laws_FnOrbitsShareOfAll.j5 kq a6 a7 a8 a4_0 a4_1 a4_2 a4_3 a5_0 a5_1 a9_0 a9_1 a9_2 a9_3 a10_0 a10_1 = some r) ∧ Aside0 (kq ≤ kj65) ∧ Aside0 (wc.heap[gb350]? = some (.cells #[.int .i64 a0_0, .int .i64 a0_1, .bool a0_2, .bool a0_3] 28 (0, 0))) ∧ Aside0 (wc.heap[gb351]? = some (.cells #[.int .i64 a4_0, .int .i64 a4_1, .bool a4_2, .bool a4_3] 28 (0, 0))) ∧ Aside0 (wc.heap[gb352]? = some (.cells #[.int .i64 a5_0, .int .i64 a5_1] 30 (0, 0))) ∧ Aside0 (wc.heap[gb353]? = some (.cells #[.int .i64 a9_0, .int .i64 a9_1, .bool a9_2, .bool a9_3] 28 (0, 0))) ∧ Aside0 (wc.heap[gb354]? = some (.cells #[.int .i64 a10_0, .int .i64 a10_1] 30 (0, 0))) ∧ Aside0 (Below w.heap.size w wc))
      case first => as_aux_lemma =>
       have H := HC111.out
       clear HC111
       by_cases c112 : t358 = true
       ·as_aux_lemma =>
        subst c112
        have H1 : (if (t355.length : Int) = t363 then (if 0 < (t355.length : Int) then (laws_FnOrbitsShareOfAll.j3 kj65 a2 a3 a6 a7 a8 t355 t363 ((rd t355 0) != a1) a0_0 a0_1 a0_2 a0_3 a4_0 a4_1 a4_2 a4_3 a5_0 a5_1 a9_0 a9_1 a9_2 a9_3 a10_0 a10_1) else (none)) else (laws_FnOrbitsShareOfAll.j3 kj65 a2 a3 a6 a7 a8 t355 t363 true a0_0 a0_1 a0_2 a0_3 a4_0 a4_1 a4_2 a4_3 a5_0 a5_1 a9_0 a9_1 a9_2 a9_3 a10_0 a10_1)) = some r := by rw [if_pos rfl] at H; exact H
        clear H
        have H := H1
        clear H1
        have HC113 := Aside0.mk H
        clear H
        go_upto_region 18 with (fail)
        go_cut [200] from 9999 to 9999 (fun v200 wc => ∃ (kq : Nat) (x200_112 : Bool), v200 = .bool x200_112 ∧ Aside0 (laws_FnOrbitsShareOfAll.j3 kq a2 a3 a6 a7 a8 t355 t363 x200_112 a0_0 a0_1 a0_2 a0_3 a4_0 a4_1 a4_2 a4_3 a5_0 a5_1 a9_0 a9_1 a9_2 a9_3 a10_0 a10_1 = some r) ∧ Aside0 (kq ≤ kj65) ∧ Aside0 (Kd.R (Kd.int .i64) 3 wc w.heap.size (fun _ => True) v356 t355) ∧ Aside0 (wc.heap[gb350]? = some (.cells #[.int .i64 a0_0, .int .i64 a0_1, .bool a0_2, .bool a0_3] 28 (0, 0))) ∧ Aside0 (wc.heap[gb351]? = some (.cells #[.int .i64 a4_0, .int .i64 a4_1, .bool a4_2, .bool a4_3] 28 (0, 0))) ∧ Aside0 (wc.heap[gb352]? = some (.cells #[.int .i64 a5_0, .int .i64 a5_1] 30 (0, 0))) ∧ Aside0 (wc.heap[gb353]? = some (.cells #[.int .i64 a9_0, .int .i64 a9_1, .bool a9_2, .bool a9_3] 28 (0, 0))) ∧ Aside0 (wc.heap[gb354]? = some (.cells #[.int .i64 a10_0, .int .i64 a10_1] 30 (0, 0))) ∧ Aside0 (Below w.heap.size w wc))
        case first => as_aux_lemma =>
         have H := HC113.out
         clear HC113
         by_cases c114 : (t355.length : Int) = t363
         ·rw [if_pos c114] at H
          have c114b0 : ((t355.length : Int) == t363) = true := beq_iff_eq.mpr c114
          have c114b1 : ((t355.length : Int) != t363) = false := bne_eq_false_iff_eq.mpr c114
          clear c114
          (first | rw [c114b0] | (simp only [i64_w, i32_w]; rw [c114b0]) | skip)
          by_cases c115 : 0 < (t355.length : Int)
          ·rw [if_pos c115] at H
           have c115b0 : decide (0 < (t355.length : Int)) = true := decide_eq_true c115
           have c115b1 : decide (0 < t355.length) = true := decide_eq_true (by omega)
           clear c115
           have H' := Aside0.mk H
           clear H
           obtain ⟨Ao116, co116, eo116⟩ := Kd.R_slice HO_23.out
           subst eo116
           have p372 : 0 ≤ (0 : Int) := (by omega)
           have q372 : 0 < (t355.length : Int) := zd
           obtain ⟨ad372, e372, hx372_0⟩ := Kd.at_int (Kd.R_reads' HO_23.out).2.2 0 p372 q372
           cases e372
           have qi372 : (0 < t355.length) = True := eq_true (by omega)
           (try rw [show ((0 : Int)).toNat = 0 from rfl] at hx372_0)
           (try rw [Addr.add_zero'] at hx372_0)
           replace p372 := eq_true p372
           replace q372 := eq_true q372
           go_wp2
           go_meet
           case rel => exact ⟨_, (((rd t355 0) != a1)), ze, H', ⟨by have := HJ17.out; have := HJ65.out; first | omega | exact Nat.le_refl _⟩, ⟨zR HO_23.out⟩, ⟨zK BK350⟩, ⟨zK BK351⟩, ⟨zK BK352⟩, ⟨zK BK353⟩, ⟨zK BK354⟩, ⟨zB5 HB GE350 GE351 GE352 GE353 GE354⟩⟩
          ·rw [if_neg c115] at H
           exact absurd H (by simp)
         ·rw [if_neg c114] at H
          have c114b0 : ((t355.length : Int) == t363) = false := beq_eq_false_iff_ne.mpr c114
          have c114b1 : ((t355.length : Int) != t363) = true := bne_iff_ne.mpr c114
          (first | rw [c114b0] | (simp only [i64_w, i32_w]; rw [c114b0]) | skip)
          have H' := Aside0.mk H
          clear H
          obtain ⟨Ao117, co117, eo117⟩ := Kd.R_slice HO_23.out
          subst eo117
          go_wp2
          go_meet
          case rel => exact ⟨_, (true), ze, H', ⟨by have := HJ17.out; have := HJ65.out; first | omega | exact Nat.le_refl _⟩, ⟨zR HO_23.out⟩, ⟨zK BK350⟩, ⟨zK BK351⟩, ⟨zK BK352⟩, ⟨zK BK353⟩, ⟨zK BK354⟩, ⟨zB5 HB GE350 GE351 GE352 GE353 GE354⟩⟩
        case rest => as_aux_lemma =>
         clear HC113
         (try clear c65); (try clear c112); (try clear hcz28_0 hcz28_1 hcz28_2 hcz28_3 hfz28_0 hfz28_1 hfz28_2 hfz28_3); (try clear hcz30_0 hcz30_1 hcz30_2 hcz30_3 hfz30_0 hfz30_1 hfz30_2 hfz30_3); (try clear hcz32_0 hcz32_1 hcz32_2 hcz32_3 hfz32_0 hfz32_1 hfz32_2 hfz32_3); (try clear hcz34_0 hcz34_1 hcz34_2 hcz34_3 hfz34_0 hfz34_1 hfz34_2 hfz34_3); (try clear hcz36_0 hcz36_1 hcz36_2 hcz36_3 hfz36_0 hfz36_1 hfz36_2 hfz36_3); (try clear hcz38_0 hcz38_1 hcz38_2 hcz38_3 hfz38_0 hfz38_1 hfz38_2 hfz38_3)
         obtain ⟨kq, x200_112, rfl, HA, HJ112, HO_23, BK350, BK351, BK352, BK353, BK354, HB⟩ := hcut
         cases kq with
         | zero => exact absurd HA.out (by simp [laws_FnOrbitsShareOfAll.j3])
         | succ kj112 =>
          have H := HA.out
          clear HA
          simp only [laws_FnOrbitsShareOfAll.j3] at H
          by_cases c118 : x200_112 = true
          ·subst c118
           have H1 : (some false) = some r := by rw [if_pos rfl] at H; exact H
           clear H
           have H := H1
           clear H1
           obtain rfl := Option.some.inj H
           go_wp2
           go_ret
           exact ⟨zt, zB5 HB GE350 GE351 GE352 GE353 GE354⟩
          ·replace c118 := Bool.eq_false_iff.mpr c118
           subst c118
           have H1 : (laws_FnOrbitsShareOfAll.l1 kj112 a2 a3 a6 a7 a8 t355 t363 t355 (t355.length : Int) 0 a0_0 a0_1 a0_2 a0_3 a4_0 a4_1 a4_2 a4_3 a5_0 a5_1 a9_0 a9_1 a9_2 a9_3 a10_0 a10_1) = some r := by rw [if_neg (show ¬ (false = true) by decide)] at H; exact H
           clear H
           have H := H1
           clear H1
           have H' := Aside0.mk H
           clear H
           obtain ⟨Ao119, co119, eo119⟩ := Kd.R_slice HO_23.out
           subst eo119
           go_wp2
           go_loopg [203] kj112 (fun kq v203 w' => ∃ (x203_4 : Int), v203 = .int .i64 x203_4 ∧ Aside0 (laws_FnOrbitsShareOfAll.l1 kq a2 a3 a6 a7 a8 t355 t363 t355 (t355.length : Int) x203_4 a0_0 a0_1 a0_2 a0_3 a4_0 a4_1 a4_2 a4_3 a5_0 a5_1 a9_0 a9_1 a9_2 a9_3 a10_0 a10_1 = some r) ∧ Aside0 (kq ≤ kj112) ∧ Aside0 (Kd.R (Kd.int .i64) 3 w' w.heap.size (fun _ => True) (.slice Ao119 t355.length co119) t355) ∧ Aside0 (Kd.R (Kd.int .i64) 3 w' w.heap.size (fun _ => True) (.slice Ao119 t355.length co119) t355) ∧ Aside0 (w'.heap[gb350]? = some (.cells #[.int .i64 a0_0, .int .i64 a0_1, .bool a0_2, .bool a0_3] 28 (0, 0))) ∧ Aside0 (w'.heap[gb351]? = some (.cells #[.int .i64 a4_0, .int .i64 a4_1, .bool a4_2, .bool a4_3] 28 (0, 0))) ∧ Aside0 (w'.heap[gb352]? = some (.cells #[.int .i64 a5_0, .int .i64 a5_1] 30 (0, 0))) ∧ Aside0 (w'.heap[gb353]? = some (.cells #[.int .i64 a9_0, .int .i64 a9_1, .bool a9_2, .bool a9_3] 28 (0, 0))) ∧ Aside0 (w'.heap[gb354]? = some (.cells #[.int .i64 a10_0, .int .i64 a10_1] 30 (0, 0))) ∧ Aside0 (Below w.heap.size w w'))
           case atStart => exact ⟨(0), ze, H', ⟨Nat.le_refl _⟩, ⟨zR HO_23.out⟩, ⟨zR HO_23.out⟩, ⟨zK BK350⟩, ⟨zK BK351⟩, ⟨zK BK352⟩, ⟨zK BK353⟩, ⟨zK BK354⟩, ⟨zB5 HB GE350 GE351 GE352 GE353 GE354⟩⟩
           case round => as_aux_lemma =>
            clear H'
            (try clear c65); (try clear c112); (try clear c118); (try clear hcz28_0 hcz28_1 hcz28_2 hcz28_3 hfz28_0 hfz28_1 hfz28_2 hfz28_3); (try clear hcz30_0 hcz30_1 hcz30_2 hcz30_3 hfz30_0 hfz30_1 hfz30_2 hfz30_3); (try clear hcz32_0 hcz32_1 hcz32_2 hcz32_3 hfz32_0 hfz32_1 hfz32_2 hfz32_3); (try clear hcz34_0 hcz34_1 hcz34_2 hcz34_3 hfz34_0 hfz34_1 hfz34_2 hfz34_3); (try clear hcz36_0 hcz36_1 hcz36_2 hcz36_3 hfz36_0 hfz36_1 hfz36_2 hfz36_3); (try clear hcz38_0 hcz38_1 hcz38_2 hcz38_3 hfz38_0 hfz38_1 hfz38_2 hfz38_3)
            obtain ⟨x203_4, rfl, HA, HK4, HO_23, HO_201, BK350, BK351, BK352, BK353, BK354, HB⟩ := hrel
            cases gk with
            | zero => exact absurd HA.out (by simp [laws_FnOrbitsShareOfAll.l1])
            | succ k4 =>
             have H := HA.out
             clear HA
             simp only [laws_FnOrbitsShareOfAll.l1] at H
             by_cases c120 : x203_4 < (t355.length : Int)
             ·as_aux_lemma =>
              rw [if_pos c120] at H
              have c120b0 : decide (x203_4 < (t355.length : Int)) = true := decide_eq_true c120
              clear c120
              by_cases c121 : 0 ≤ x203_4
              ·as_aux_lemma =>
               rw [if_pos c121] at H
               have c121b0 : decide (0 ≤ x203_4) = true := decide_eq_true c121
               clear c121
               by_cases c122 : x203_4 < (t355.length : Int)
               ·as_aux_lemma =>
                rw [if_pos c122] at H
                have c122b0 : decide (x203_4 < (t355.length : Int)) = true := decide_eq_true c122
                clear c122
                replace H := Option.bind_eq_some_iff.mp H
                obtain ⟨⟨t374, t375⟩, A1230, H⟩ := H
                try dsimp only at H
                have A123 := Aside0.mk A1230
                clear A1230
                by_cases c124 : t375 = true
                ·as_aux_lemma =>
                 subst c124
                 have H1 : (if t363 = 0 then (none) else (if 0 ≤ (Int.tmod (wrap64 (x203_4 + 1)) t363) then (if (Int.tmod (wrap64 (x203_4 + 1)) t363) < (t355.length : Int) then (if t374 = (rd t355 (Int.tmod (wrap64 (x203_4 + 1)) t363)) then (if x203_4 ≤ (t355.length : Int) then ((laws_nHas.f k4 (t355.take (x203_4 : Int).toNat) (rd t355 x203_4)).bind fun t381 => (if t381 = true then (some false) else (laws_FnOrbitsShareOfAll.l1 k4 a2 a3 a6 a7 a8 t355 t363 t355 (t355.length : Int) (wrap64 (x203_4 + 1)) a0_0 a0_1 a0_2 a0_3 a4_0 a4_1 a4_2 a4_3 a5_0 a5_1 a9_0 a9_1 a9_2 a9_3 a10_0 a10_1))) else (none)) else (some false)) else (none)) else (none))) = some r := by rw [if_pos rfl] at H; exact H
                 clear H
                 have H := H1
                 clear H1
                 by_cases c125 : t363 = 0
                 ·rw [if_pos c125] at H
                  exact absurd H (by simp)
                 ·as_aux_lemma =>
                  rw [if_neg c125] at H
                  have c125b0 : (t363 == 0) = false := beq_eq_false_iff_ne.mpr c125
                  have c125b1 : (t363 != 0) = true := bne_iff_ne.mpr c125
                  obtain ⟨ji126, hji126⟩ : ∃ j_ : Int, (Int.tmod (wrap64 (x203_4 + 1)) t363) = j_ := ⟨_, rfl⟩
                  replace H : (if 0 ≤ (ji126) then (if (ji126) < (t355.length : Int) then (if t374 = (rd t355 (ji126)) then (if x203_4 ≤ (t355.length : Int) then ((laws_nHas.f k4 (t355.take (x203_4 : Int).toNat) (rd t355 x203_4)).bind fun t381 => (if t381 = true then (some false) else (laws_FnOrbitsShareOfAll.l1 k4 a2 a3 a6 a7 a8 t355 t363 t355 (t355.length : Int) (wrap64 (x203_4 + 1)) a0_0 a0_1 a0_2 a0_3 a4_0 a4_1 a4_2 a4_3 a5_0 a5_1 a9_0 a9_1 a9_2 a9_3 a10_0 a10_1))) else (none)) else (some false)) else (none)) else (none)) = some r := by first | (rw [hji126] at H; exact H) | (simp only [hji126] at H ⊢; exact H)
                  (try rw [hji126] at A123)
                  by_cases c127 : 0 ≤ (ji126)
                  ·as_aux_lemma =>
                   rw [if_pos c127] at H
                   have c127b0 : decide (0 ≤ (ji126)) = true := decide_eq_true c127
                   clear c127
                   by_cases c128 : (ji126) < (t355.length : Int)
                   ·as_aux_lemma =>
                    rw [if_pos c128] at H
                    have c128b0 : decide ((ji126) < (t355.length : Int)) = true := decide_eq_true c128
                    clear c128
                    by_cases c129 : t374 = (rd t355 (ji126))
                    ·as_aux_lemma =>
                     rw [if_pos c129] at H
                     have c129b0 : (t374 == (rd t355 (ji126))) = true := beq_iff_eq.mpr c129
                     have c129b1 : (t374 != (rd t355 (ji126))) = false := bne_eq_false_iff_eq.mpr c129
                     clear c129
                     have c130b0 := eq_true (zd : 0 ≤ x203_4)
                     by_cases c131 : x203_4 ≤ (t355.length : Int)
                     ·rw [if_pos c131] at H
                      have c131b0 := eq_true c131
                      have c131b1 : decide (x203_4 ≤ (t355.length : Int)) = true := decide_eq_true c131
                      clear c131
                      obtain ⟨y377, hy377⟩ : ∃ y_ : List Int, y_ = (t355.take (x203_4 : Int).toNat) := ⟨_, rfl⟩
                      replace H : ((laws_nHas.f k4 y377 (rd t355 x203_4)).bind fun t381 => (if t381 = true then (some false) else (laws_FnOrbitsShareOfAll.l1 k4 a2 a3 a6 a7 a8 t355 t363 t355 (t355.length : Int) (wrap64 (x203_4 + 1)) a0_0 a0_1 a0_2 a0_3 a4_0 a4_1 a4_2 a4_3 a5_0 a5_1 a9_0 a9_1 a9_2 a9_3 a10_0 a10_1))) = some r := by first | (rw [hy377]; with_reducible exact H) | (have H2_ := (Option.bind_some _ _).symm.trans H; rw [hy377]; with_reducible exact H2_) | (have H2_ := (Option.bind_some _ _).symm.trans H; with_reducible exact H2_) | with_reducible exact H | (rw [hy377]; exact H) | exact H
                      have Ny377 := Aside0.mk hy377
                      clear hy377
                      replace H := Option.bind_eq_some_iff.mp H
                      obtain ⟨t381, A1320, H⟩ := H
                      try dsimp only at H
                      have A132 := Aside0.mk A1320
                      clear A1320
                      by_cases c133 : t381 = true
                      ·subst c133
                       have H1 : (some false) = some r := by rw [if_pos rfl] at H; exact H
                       clear H
                       have H := H1
                       clear H1
                       obtain rfl := Option.some.inj H
                       have p373 : 0 ≤ (x203_4 : Int) := zd
                       have q373 : x203_4 < (t355.length : Int) := zd
                       obtain ⟨ad373, e373, hx373_0⟩ := Kd.at_int (Kd.R_reads' HO_201.out).2.2 x203_4 p373 q373
                       cases e373
                       replace p373 := eq_true p373
                       replace q373 := eq_true q373
                       have hnb134 := NB350_351.out
                       have hnc134 := NB351_350.out
                       have hnb135 := NB350_352.out
                       have hnc135 := NB352_350.out
                       have hnb136 := NB350_353.out
                       have hnc136 := NB353_350.out
                       have hnb137 := NB350_354.out
                       have hnc137 := NB354_350.out
                       obtain ⟨hcz138_0, hcz138_1, hcz138_2, hcz138_3, hfz138_0, hfz138_1, hfz138_2, hfz138_3⟩ := zc4 BK350
                       go_wp2_with (first | ((with_reducible refine gate_callee (f := 52) rfl ?_); refine goesL_ (some 213) rfl rfl Try.func52 (by kernel_rfl) rfl #[.agg #[.int .i64 a0_0, .int .i64 a0_1, .bool a0_2, .bool a0_3], .int .i64 (rd t355 x203_4), .int .i64 a2, .int .i64 a3] rfl zm ?_; (with_reducible refine (impl_StepAround.calls a0_0 a0_1 a0_2 a0_3 (rd t355 x203_4) a2 a3 t374 true _ A123.out).mono ?_); rintro e w139 ⟨rfl, hb⟩; refine ⟨_, rfl, ?_⟩; replace HO_23 := zRb HO_23 hb; replace HO_201 := zRb HO_201 hb; replace BK350 := zKb BK350 hb; replace BK351 := zKb BK351 hb; replace BK352 := zKb BK352 hb; replace BK353 := zKb BK353 hb; replace BK354 := zKb BK354 hb; replace HB := Aside0.mk (below_step (zB5 HB GE350 GE351 GE352 GE353 GE354) hb); (try clear hb); (try clear hb2); (try clear hk); (try clear hi); have p376 : 0 ≤ ((ji126) : Int) := zd; have q376 : (ji126) < (t355.length : Int) := zd; obtain ⟨ad376, e376, hx376_0⟩ := Kd.at_int (Kd.R_reads' HO_23.out).2.2 (ji126) p376 q376; obtain rfl : ad373 = ad376 := (by injection e376); replace p376 := eq_true p376; replace q376 := eq_true q376; have q140 : (x203_4 : Int) ≤ ((t355.length : Int) : Int) := zd; obtain ⟨i0140, hi0140, _, hsz140, _⟩ := info_parts info3; have hroom140 : t355.length ≤ co119 := (Kd.R_reads' HO_23.out).2.1; have hC140 : Kd.C (Kd.int .i64) _ (some ad373) t355.length t355 := (Kd.R_reads' HO_23.out).2.2; have hcut140 := cut_to (P := Try.prog) 33 3 .i64 Try.underlying33 hi0140 (some ad373) t355.length co119 x203_4 (zd) q140 hroom140; have hr140 := Kd.C_take (m := (x203_4 : Int).toNat) hC140 (by omega); have hy140 : y377.length = (x203_4 : Int).toNat := (by rw [Ny377.out, List.length_take]; omega); rw [← Ny377.out] at hr140; rw [← hy140] at hcut140; have HR380 := Aside0.mk hr140; have HC380 := Aside0.mk (show y377.length ≤ co119 from by omega); clear hr140 hC140 hroom140 hi0140 hsz140; have KY140 := Aside0.mk hy140; clear hy140; have KL140 := Aside0.mk (show (x203_4 : Int).toNat ≤ t355.length from by omega); replace q140 := eq_true q140) | (go_at_call 53; (with_reducible refine (laws_nHas.calls k4 _ _ y377 (rd t355 x203_4) true _ ?side1 ?side2 A132.out).mono ?_); (case side1 => repeat (first | exact (zC HR380.out) | (with_reducible refine Kd.C_alloc ?_ _) | (with_reducible refine Kd.C_drewN ?_ _) | (with_reducible refine Kd.C_drew ?_))); (case side2 => exact HC380.out); rintro e w' ⟨rfl, ⟨nd, rfl⟩⟩))
                       go_ret
                       exact ⟨by first | rfl | (simp [errW_none, errW_some] <;> rfl) | (simp only [← hji126]; first | rfl | (simp [errW_none, errW_some] <;> rfl)) | (simp [*, errW_none, errW_some] <;> rfl), zB5 HB GE350 GE351 GE352 GE353 GE354⟩
                      ·replace c133 := Bool.eq_false_iff.mpr c133
                       subst c133
                       have H1 : (laws_FnOrbitsShareOfAll.l1 k4 a2 a3 a6 a7 a8 t355 t363 t355 (t355.length : Int) (wrap64 (x203_4 + 1)) a0_0 a0_1 a0_2 a0_3 a4_0 a4_1 a4_2 a4_3 a5_0 a5_1 a9_0 a9_1 a9_2 a9_3 a10_0 a10_1) = some r := by rw [if_neg (show ¬ (false = true) by decide)] at H; exact H
                       clear H
                       have H := H1
                       clear H1
                       have H' := Aside0.mk H
                       clear H
                       have p373 : 0 ≤ (x203_4 : Int) := zd
                       have q373 : x203_4 < (t355.length : Int) := zd
                       obtain ⟨ad373, e373, hx373_0⟩ := Kd.at_int (Kd.R_reads' HO_201.out).2.2 x203_4 p373 q373
                       cases e373
                       replace p373 := eq_true p373
                       replace q373 := eq_true q373
                       have hnb141 := NB350_351.out
                       have hnc141 := NB351_350.out
                       have hnb142 := NB350_352.out
                       have hnc142 := NB352_350.out
                       have hnb143 := NB350_353.out
                       have hnc143 := NB353_350.out
                       have hnb144 := NB350_354.out
                       have hnc144 := NB354_350.out
                       obtain ⟨hcz145_0, hcz145_1, hcz145_2, hcz145_3, hfz145_0, hfz145_1, hfz145_2, hfz145_3⟩ := zc4 BK350
                       go_wp2_with (first | ((with_reducible refine gate_callee (f := 52) rfl ?_); refine goesL_ (some 213) rfl rfl Try.func52 (by kernel_rfl) rfl #[.agg #[.int .i64 a0_0, .int .i64 a0_1, .bool a0_2, .bool a0_3], .int .i64 (rd t355 x203_4), .int .i64 a2, .int .i64 a3] rfl zm ?_; (with_reducible refine (impl_StepAround.calls a0_0 a0_1 a0_2 a0_3 (rd t355 x203_4) a2 a3 t374 true _ A123.out).mono ?_); rintro e w146 ⟨rfl, hb⟩; refine ⟨_, rfl, ?_⟩; replace HO_23 := zRb HO_23 hb; replace HO_201 := zRb HO_201 hb; replace BK350 := zKb BK350 hb; replace BK351 := zKb BK351 hb; replace BK352 := zKb BK352 hb; replace BK353 := zKb BK353 hb; replace BK354 := zKb BK354 hb; replace HB := Aside0.mk (below_step (zB5 HB GE350 GE351 GE352 GE353 GE354) hb); (try clear hb); (try clear hb2); (try clear hk); (try clear hi); have p376 : 0 ≤ ((ji126) : Int) := zd; have q376 : (ji126) < (t355.length : Int) := zd; obtain ⟨ad376, e376, hx376_0⟩ := Kd.at_int (Kd.R_reads' HO_23.out).2.2 (ji126) p376 q376; obtain rfl : ad373 = ad376 := (by injection e376); replace p376 := eq_true p376; replace q376 := eq_true q376; have q147 : (x203_4 : Int) ≤ ((t355.length : Int) : Int) := zd; obtain ⟨i0147, hi0147, _, hsz147, _⟩ := info_parts info3; have hroom147 : t355.length ≤ co119 := (Kd.R_reads' HO_23.out).2.1; have hC147 : Kd.C (Kd.int .i64) _ (some ad373) t355.length t355 := (Kd.R_reads' HO_23.out).2.2; have hcut147 := cut_to (P := Try.prog) 33 3 .i64 Try.underlying33 hi0147 (some ad373) t355.length co119 x203_4 (zd) q147 hroom147; have hr147 := Kd.C_take (m := (x203_4 : Int).toNat) hC147 (by omega); have hy147 : y377.length = (x203_4 : Int).toNat := (by rw [Ny377.out, List.length_take]; omega); rw [← Ny377.out] at hr147; rw [← hy147] at hcut147; have HR380 := Aside0.mk hr147; have HC380 := Aside0.mk (show y377.length ≤ co119 from by omega); clear hr147 hC147 hroom147 hi0147 hsz147; have KY147 := Aside0.mk hy147; clear hy147; have KL147 := Aside0.mk (show (x203_4 : Int).toNat ≤ t355.length from by omega); replace q147 := eq_true q147) | (go_at_call 53; (with_reducible refine (laws_nHas.calls k4 _ _ y377 (rd t355 x203_4) false _ ?side1 ?side2 A132.out).mono ?_); (case side1 => repeat (first | exact (zC HR380.out) | (with_reducible refine Kd.C_alloc ?_ _) | (with_reducible refine Kd.C_drewN ?_ _) | (with_reducible refine Kd.C_drew ?_))); (case side2 => exact HC380.out); rintro e w' ⟨rfl, ⟨nd, rfl⟩⟩))
                       go_roundg k4
                       case measure => have := HJ17.out; have := HJ65.out; have := HJ112.out; have := HK4.out; omega
                       case rel => exact ⟨(wrap64 (x203_4 + 1)), ze, H', ⟨by have := HJ17.out; have := HJ65.out; have := HJ112.out; have := HK4.out; omega⟩, ⟨zR HO_23.out⟩, ⟨zR HO_201.out⟩, ⟨zK BK350⟩, ⟨zK BK351⟩, ⟨zK BK352⟩, ⟨zK BK353⟩, ⟨zK BK354⟩, ⟨zB5 HB GE350 GE351 GE352 GE353 GE354⟩⟩
                     ·rw [if_neg c131] at H
                      exact absurd H (by simp)
                    ·rw [if_neg c129] at H
                     have c129b0 : (t374 == (rd t355 (ji126))) = false := beq_eq_false_iff_ne.mpr c129
                     have c129b1 : (t374 != (rd t355 (ji126))) = true := bne_iff_ne.mpr c129
                     obtain rfl := Option.some.inj H
                     have p373 : 0 ≤ (x203_4 : Int) := zd
                     have q373 : x203_4 < (t355.length : Int) := zd
                     obtain ⟨ad373, e373, hx373_0⟩ := Kd.at_int (Kd.R_reads' HO_201.out).2.2 x203_4 p373 q373
                     cases e373
                     replace p373 := eq_true p373
                     replace q373 := eq_true q373
                     have hnb148 := NB350_351.out
                     have hnc148 := NB351_350.out
                     have hnb149 := NB350_352.out
                     have hnc149 := NB352_350.out
                     have hnb150 := NB350_353.out
                     have hnc150 := NB353_350.out
                     have hnb151 := NB350_354.out
                     have hnc151 := NB354_350.out
                     obtain ⟨hcz152_0, hcz152_1, hcz152_2, hcz152_3, hfz152_0, hfz152_1, hfz152_2, hfz152_3⟩ := zc4 BK350
                     go_wp2_with (first | ((with_reducible refine gate_callee (f := 52) rfl ?_); refine goesL_ (some 213) rfl rfl Try.func52 (by kernel_rfl) rfl #[.agg #[.int .i64 a0_0, .int .i64 a0_1, .bool a0_2, .bool a0_3], .int .i64 (rd t355 x203_4), .int .i64 a2, .int .i64 a3] rfl zm ?_; (with_reducible refine (impl_StepAround.calls a0_0 a0_1 a0_2 a0_3 (rd t355 x203_4) a2 a3 t374 true _ A123.out).mono ?_); rintro e w153 ⟨rfl, hb⟩; refine ⟨_, rfl, ?_⟩; replace HO_23 := zRb HO_23 hb; replace HO_201 := zRb HO_201 hb; replace BK350 := zKb BK350 hb; replace BK351 := zKb BK351 hb; replace BK352 := zKb BK352 hb; replace BK353 := zKb BK353 hb; replace BK354 := zKb BK354 hb; replace HB := Aside0.mk (below_step (zB5 HB GE350 GE351 GE352 GE353 GE354) hb); (try clear hb); (try clear hb2); (try clear hk); (try clear hi); have p376 : 0 ≤ ((ji126) : Int) := zd; have q376 : (ji126) < (t355.length : Int) := zd; obtain ⟨ad376, e376, hx376_0⟩ := Kd.at_int (Kd.R_reads' HO_23.out).2.2 (ji126) p376 q376; obtain rfl : ad373 = ad376 := (by injection e376); replace p376 := eq_true p376; replace q376 := eq_true q376))
                     go_ret
                     exact ⟨by first | rfl | (simp [errW_none, errW_some] <;> rfl) | (simp only [← hji126]; first | rfl | (simp [errW_none, errW_some] <;> rfl)) | (simp [*, errW_none, errW_some] <;> rfl), zB5 HB GE350 GE351 GE352 GE353 GE354⟩
                   ·rw [if_neg c128] at H
                    exact absurd H (by simp)
                  ·rw [if_neg c127] at H
                   exact absurd H (by simp)
                ·replace c124 := Bool.eq_false_iff.mpr c124
                 subst c124
                 have H1 : (some false) = some r := by rw [if_neg (show ¬ (false = true) by decide)] at H; exact H
                 clear H
                 have H := H1
                 clear H1
                 obtain rfl := Option.some.inj H
                 have p373 : 0 ≤ (x203_4 : Int) := zd
                 have q373 : x203_4 < (t355.length : Int) := zd
                 obtain ⟨ad373, e373, hx373_0⟩ := Kd.at_int (Kd.R_reads' HO_201.out).2.2 x203_4 p373 q373
                 cases e373
                 replace p373 := eq_true p373
                 replace q373 := eq_true q373
                 have hnb154 := NB350_351.out
                 have hnc154 := NB351_350.out
                 have hnb155 := NB350_352.out
                 have hnc155 := NB352_350.out
                 have hnb156 := NB350_353.out
                 have hnc156 := NB353_350.out
                 have hnb157 := NB350_354.out
                 have hnc157 := NB354_350.out
                 obtain ⟨hcz158_0, hcz158_1, hcz158_2, hcz158_3, hfz158_0, hfz158_1, hfz158_2, hfz158_3⟩ := zc4 BK350
                 go_wp2_with (first | ((with_reducible refine gate_callee (f := 52) rfl ?_); refine goesL_ (some 213) rfl rfl Try.func52 (by kernel_rfl) rfl #[.agg #[.int .i64 a0_0, .int .i64 a0_1, .bool a0_2, .bool a0_3], .int .i64 (rd t355 x203_4), .int .i64 a2, .int .i64 a3] rfl zm ?_; (with_reducible refine (impl_StepAround.calls a0_0 a0_1 a0_2 a0_3 (rd t355 x203_4) a2 a3 t374 false _ A123.out).mono ?_); rintro e w159 ⟨rfl, hb⟩; refine ⟨_, rfl, ?_⟩; replace HO_23 := zRb HO_23 hb; replace HO_201 := zRb HO_201 hb; replace BK350 := zKb BK350 hb; replace BK351 := zKb BK351 hb; replace BK352 := zKb BK352 hb; replace BK353 := zKb BK353 hb; replace BK354 := zKb BK354 hb; replace HB := Aside0.mk (below_step (zB5 HB GE350 GE351 GE352 GE353 GE354) hb); (try clear hb); (try clear hb2); (try clear hk); (try clear hi)))
                 go_ret
                 exact ⟨zt, zB5 HB GE350 GE351 GE352 GE353 GE354⟩
               ·rw [if_neg c122] at H
                exact absurd H (by simp)
              ·rw [if_neg c121] at H
               exact absurd H (by simp)
             ·rw [if_neg c120] at H
              have c120b0 : decide (x203_4 < (t355.length : Int)) = false := decide_eq_false c120
              clear c120
              have H' := Aside0.mk H
              clear H
              go_wp2
              go_meet
              case rel => exact ⟨_, H', ⟨by have := HJ17.out; have := HJ65.out; have := HJ112.out; have := HK4.out; first | omega | exact Nat.le_refl _⟩, ⟨zK BK350⟩, ⟨zK BK351⟩, ⟨zK BK352⟩, ⟨zK BK353⟩, ⟨zK BK354⟩, ⟨zB5 HB GE350 GE351 GE352 GE353 GE354⟩⟩
       ·replace c112 := Bool.eq_false_iff.mpr c112
        subst c112
        have H1 : (laws_FnOrbitsShareOfAll.j5 kj65 a6 a7 a8 a4_0 a4_1 a4_2 a4_3 a5_0 a5_1 a9_0 a9_1 a9_2 a9_3 a10_0 a10_1) = some r := by rw [if_neg (show ¬ (false = true) by decide)] at H; exact H
        clear H
        have H := H1
        clear H1
        have H' := Aside0.mk H
        clear H
        go_wp2
        go_meet
        case rel => exact ⟨_, H', ⟨by have := HJ17.out; have := HJ65.out; first | omega | exact Nat.le_refl _⟩, ⟨zK BK350⟩, ⟨zK BK351⟩, ⟨zK BK352⟩, ⟨zK BK353⟩, ⟨zK BK354⟩, ⟨zB5 HB GE350 GE351 GE352 GE353 GE354⟩⟩
      case rest => as_aux_lemma =>
       clear HC111
       (try clear c65); (try clear hcz28_0 hcz28_1 hcz28_2 hcz28_3 hfz28_0 hfz28_1 hfz28_2 hfz28_3); (try clear hcz30_0 hcz30_1 hcz30_2 hcz30_3 hfz30_0 hfz30_1 hfz30_2 hfz30_3); (try clear hcz32_0 hcz32_1 hcz32_2 hcz32_3 hfz32_0 hfz32_1 hfz32_2 hfz32_3); (try clear hcz34_0 hcz34_1 hcz34_2 hcz34_3 hfz34_0 hfz34_1 hfz34_2 hfz34_3); (try clear hcz36_0 hcz36_1 hcz36_2 hcz36_3 hfz36_0 hfz36_1 hfz36_2 hfz36_3); (try clear hcz38_0 hcz38_1 hcz38_2 hcz38_3 hfz38_0 hfz38_1 hfz38_2 hfz38_3)
       obtain ⟨kq, HA, HJ110, BK350, BK351, BK352, BK353, BK354, HB⟩ := hcut
       cases kq with
       | zero => exact absurd HA.out (by simp [laws_FnOrbitsShareOfAll.j5])
       | succ kj110 =>
        have H := HA.out
        clear HA
        simp only [laws_FnOrbitsShareOfAll.j5] at H
        replace H := Option.bind_eq_some_iff.mp H
        obtain ⟨⟨t382, t385⟩, A1600, H⟩ := H
        try dsimp only at H
        have A160 := Aside0.mk A1600
        clear A1600
        replace H := Option.bind_eq_some_iff.mp H
        obtain ⟨⟨t386, t389⟩, A1610, H⟩ := H
        try dsimp only at H
        have A161 := Aside0.mk A1610
        clear A1610
        replace H := Option.bind_eq_some_iff.mp H
        obtain ⟨⟨t390, t391⟩, A1620, H⟩ := H
        try dsimp only at H
        have A162 := Aside0.mk A1620
        clear A1620
        replace H := Option.bind_eq_some_iff.mp H
        obtain ⟨⟨t392, t393⟩, A1630, H⟩ := H
        try dsimp only at H
        have A163 := Aside0.mk A1630
        clear A1630
        replace H := Option.bind_eq_some_iff.mp H
        obtain ⟨⟨t394, t395, t396, t397⟩, A1640, H⟩ := H
        try dsimp only at H
        have A164 := Aside0.mk A1640
        clear A1640
        replace H := Option.bind_eq_some_iff.mp H
        obtain ⟨⟨t398, t399, t400, t401⟩, A1650, H⟩ := H
        try dsimp only at H
        have A165 := Aside0.mk A1650
        clear A1650
        have HC166 := Aside0.mk H
        clear H
        have hnb167 := NB351_350.out
        have hnc167 := NB350_351.out
        have hnb168 := NB351_352.out
        have hnc168 := NB352_351.out
        have hnb169 := NB351_353.out
        have hnc169 := NB353_351.out
        have hnb170 := NB351_354.out
        have hnc170 := NB354_351.out
        obtain ⟨hcz171_0, hcz171_1, hcz171_2, hcz171_3, hfz171_0, hfz171_1, hfz171_2, hfz171_3⟩ := zc4 BK351
        have hnb172 := NB352_350.out
        have hnc172 := NB350_352.out
        have hnb173 := NB352_353.out
        have hnc173 := NB353_352.out
        have hnb174 := NB352_354.out
        have hnc174 := NB354_352.out
        obtain ⟨hcz175_0, hcz175_1, hfz175_0, hfz175_1⟩ := zc2 BK352
        go_upto_region 33 with (first | ((with_reducible refine gate_callee (f := 35) rfl ?_); refine goesL_ (some 243) rfl rfl Try.func35 (by kernel_rfl) rfl #[.agg #[.int .i64 a4_0, .int .i64 a4_1, .bool a4_2, .bool a4_3], .agg #[.int .i64 a5_0, .int .i64 a5_1], .int .i64 a6, .int .i64 a7, .int .i64 a8] rfl zm ?_; (with_reducible refine (impl_TwoSteps.calls kj110 a4_0 a4_1 a4_2 a4_3 a5_0 a5_1 a6 a7 a8 t382 t385 _ A160.out).mono ?_); rintro e w176 ⟨v383, rfl, ho0, hb⟩; refine ⟨_, rfl, ?_⟩; have HO384 := Aside0.mk (Kd.R_lower ho0 (below_size (zB5 HB GE350 GE351 GE352 GE353 GE354))); replace BK350 := zKb BK350 hb; replace BK351 := zKb BK351 hb; replace BK352 := zKb BK352 hb; replace BK353 := zKb BK353 hb; replace BK354 := zKb BK354 hb; replace HB := Aside0.mk (below_step (zB5 HB GE350 GE351 GE352 GE353 GE354) hb); (try clear hb); (try clear hb2); (try clear hk); (try clear hi); (try clear ho0); obtain ⟨hcz177_0, hcz177_1, hcz177_2, hcz177_3, hfz177_0, hfz177_1, hfz177_2, hfz177_3⟩ := zc4 BK351; obtain ⟨hcz178_0, hcz178_1, hfz178_0, hfz178_1⟩ := zc2 BK352) | ((with_reducible refine gate_callee (f := 34) rfl ?_); refine goesL_ (some 252) rfl rfl Try.func34 (by kernel_rfl) rfl #[.agg #[.int .i64 a4_0, .int .i64 a4_1, .bool a4_2, .bool a4_3], .agg #[.int .i64 a5_0, .int .i64 a5_1], .int .i64 a6, .int .i64 a7, .int .i64 a8] rfl zm ?_; (with_reducible refine (spec_TwoSteps.calls kj110 a4_0 a4_1 a4_2 a4_3 a5_0 a5_1 a6 a7 a8 t386 t389 _ A161.out).mono ?_); rintro e w179 ⟨v387, rfl, ho0, hb⟩; refine ⟨_, rfl, ?_⟩; have HO388 := Aside0.mk (Kd.R_lower (Kd.R_new' ho0 (Kd.R_lt (zR HO384.out))) (below_size (zB5 HB GE350 GE351 GE352 GE353 GE354))); replace HO384 := Aside0.mk (Kd.R_elder' (zR HO384.out) (Kd.R_base ho0) hb); replace BK350 := zKb BK350 hb; replace BK351 := zKb BK351 hb; replace BK352 := zKb BK352 hb; replace BK353 := zKb BK353 hb; replace BK354 := zKb BK354 hb; replace HB := Aside0.mk (below_step (zB5 HB GE350 GE351 GE352 GE353 GE354) hb); (try clear hb); (try clear hb2); (try clear hk); (try clear hi); (try clear ho0); obtain ⟨hcz180_0, hcz180_1, hcz180_2, hcz180_3, hfz180_0, hfz180_1, hfz180_2, hfz180_3⟩ := zc4 BK351; obtain ⟨hcz181_0, hcz181_1, hfz181_0, hfz181_1⟩ := zc2 BK352) | ((with_reducible refine gate_callee (f := 54) rfl ?_); refine goesL_ (some 261) rfl rfl Try.func54 (by kernel_rfl) rfl #[.agg #[.int .i64 a4_0, .int .i64 a4_1, .bool a4_2, .bool a4_3], .agg #[.int .i64 a5_0, .int .i64 a5_1], .int .i64 a6, .int .i64 a7, .int .i64 a8] rfl zm ?_; (with_reducible refine (impl_VisitsAll.calls kj110 a4_0 a4_1 a4_2 a4_3 a5_0 a5_1 a6 a7 a8 t390 t391 _ A162.out).mono ?_); rintro e w182 ⟨rfl, hb⟩; refine ⟨_, rfl, ?_⟩; replace HO384 := zRb HO384 hb; replace HO388 := zRb HO388 hb; replace BK350 := zKb BK350 hb; replace BK351 := zKb BK351 hb; replace BK352 := zKb BK352 hb; replace BK353 := zKb BK353 hb; replace BK354 := zKb BK354 hb; replace HB := Aside0.mk (below_step (zB5 HB GE350 GE351 GE352 GE353 GE354) hb); (try clear hb); (try clear hb2); (try clear hk); (try clear hi); obtain ⟨hcz183_0, hcz183_1, hcz183_2, hcz183_3, hfz183_0, hfz183_1, hfz183_2, hfz183_3⟩ := zc4 BK351; obtain ⟨hcz184_0, hcz184_1, hfz184_0, hfz184_1⟩ := zc2 BK352) | ((with_reducible refine gate_callee (f := 55) rfl ?_); refine goesL_ (some 270) rfl rfl Try.func55 (by kernel_rfl) rfl #[.agg #[.int .i64 a4_0, .int .i64 a4_1, .bool a4_2, .bool a4_3], .agg #[.int .i64 a5_0, .int .i64 a5_1], .int .i64 a6, .int .i64 a7, .int .i64 a8] rfl zm ?_; (with_reducible refine (spec_VisitsAll.calls kj110 a4_0 a4_1 a4_2 a4_3 a5_0 a5_1 a6 a7 a8 t392 t393 _ A163.out).mono ?_); rintro e w185 ⟨rfl, hb⟩; refine ⟨_, rfl, ?_⟩; replace HO384 := zRb HO384 hb; replace HO388 := zRb HO388 hb; replace BK350 := zKb BK350 hb; replace BK351 := zKb BK351 hb; replace BK352 := zKb BK352 hb; replace BK353 := zKb BK353 hb; replace BK354 := zKb BK354 hb; replace HB := Aside0.mk (below_step (zB5 HB GE350 GE351 GE352 GE353 GE354) hb); (try clear hb); (try clear hb2); (try clear hk); (try clear hi); have hnb186 := NB353_350.out; have hnc186 := NB350_353.out; have hnb187 := NB353_354.out; have hnc187 := NB354_353.out; obtain ⟨hcz188_0, hcz188_1, hcz188_2, hcz188_3, hfz188_0, hfz188_1, hfz188_2, hfz188_3⟩ := zc4 BK353; have hnb189 := NB354_350.out; have hnc189 := NB350_354.out; obtain ⟨hcz190_0, hcz190_1, hfz190_0, hfz190_1⟩ := zc2 BK354) | ((with_reducible refine gate_callee (f := 18) rfl ?_); refine goesL_ (some 276) rfl rfl Try.func18 (by kernel_rfl) rfl #[.agg #[.int .i64 a9_0, .int .i64 a9_1, .bool a9_2, .bool a9_3], .agg #[.int .i64 a10_0, .int .i64 a10_1]] rfl zm ?_; (with_reducible refine (impl_FirstTwoSteps.calls kj110 a9_0 a9_1 a9_2 a9_3 a10_0 a10_1 t394 t395 t396 t397 _ A164.out).mono ?_); rintro e w191 ⟨rfl, hb⟩; refine ⟨_, rfl, ?_⟩; replace HO384 := zRb HO384 hb; replace HO388 := zRb HO388 hb; replace BK350 := zKb BK350 hb; replace BK351 := zKb BK351 hb; replace BK352 := zKb BK352 hb; replace BK353 := zKb BK353 hb; replace BK354 := zKb BK354 hb; replace HB := Aside0.mk (below_step (zB5 HB GE350 GE351 GE352 GE353 GE354) hb); (try clear hb); (try clear hb2); (try clear hk); (try clear hi); obtain ⟨hcz192_0, hcz192_1, hcz192_2, hcz192_3, hfz192_0, hfz192_1, hfz192_2, hfz192_3⟩ := zc4 BK353; obtain ⟨hcz193_0, hcz193_1, hfz193_0, hfz193_1⟩ := zc2 BK354) | ((with_reducible refine gate_callee (f := 15) rfl ?_); refine goesL_ (some 284) rfl rfl Try.func15 (by kernel_rfl) rfl #[.agg #[.int .i64 a9_0, .int .i64 a9_1, .bool a9_2, .bool a9_3], .agg #[.int .i64 a10_0, .int .i64 a10_1]] rfl zm ?_; (with_reducible refine (spec_FirstTwoSteps.calls kj110 a9_0 a9_1 a9_2 a9_3 a10_0 a10_1 t398 t399 t400 t401 _ A165.out).mono ?_); rintro e w194 ⟨rfl, hb⟩; refine ⟨_, rfl, ?_⟩; replace HO384 := zRb HO384 hb; replace HO388 := zRb HO388 hb; replace BK350 := zKb BK350 hb; replace BK351 := zKb BK351 hb; replace BK352 := zKb BK352 hb; replace BK353 := zKb BK353 hb; replace BK354 := zKb BK354 hb; replace HB := Aside0.mk (below_step (zB5 HB GE350 GE351 GE352 GE353 GE354) hb); (try clear hb); (try clear hb2); (try clear hk); (try clear hi)))
        (try simp only [Act.put, List.setIfInBounds_toArray, List.set_cons_zero, List.set_cons_succ])
        go_cut [332] from 9999 to 9999 (fun v332 wc => ∃ (kq : Nat) (x332_165 : Bool), v332 = .bool x332_165 ∧ Aside0 (laws_FnOrbitsShareOfAll.j6 kq a6 a7 a8 t382 t385 t390 t394 t395 t396 t397 x332_165 a4_0 a4_1 a4_2 a4_3 a5_0 a5_1 a9_0 a9_1 a9_2 a9_3 a10_0 a10_1 = some r) ∧ Aside0 (kq ≤ kj110) ∧ Aside0 (Kd.R (Kd.int .i64) 3 wc w.heap.size (fun _ => True) v383 t382) ∧ Aside0 (wc.heap[gb350]? = some (.cells #[.int .i64 a0_0, .int .i64 a0_1, .bool a0_2, .bool a0_3] 28 (0, 0))) ∧ Aside0 (wc.heap[gb351]? = some (.cells #[.int .i64 a4_0, .int .i64 a4_1, .bool a4_2, .bool a4_3] 28 (0, 0))) ∧ Aside0 (wc.heap[gb352]? = some (.cells #[.int .i64 a5_0, .int .i64 a5_1] 30 (0, 0))) ∧ Aside0 (wc.heap[gb353]? = some (.cells #[.int .i64 a9_0, .int .i64 a9_1, .bool a9_2, .bool a9_3] 28 (0, 0))) ∧ Aside0 (wc.heap[gb354]? = some (.cells #[.int .i64 a10_0, .int .i64 a10_1] 30 (0, 0))) ∧ Aside0 (Below w.heap.size w wc))
        case first => as_aux_lemma =>
         have H := HC166.out
         clear HC166
         by_cases c195 : (t385 != t389) = true
         ·rw [if_pos c195] at H
          have c195b0 := c195
          obtain ⟨c195b1, c195b2, c195b3⟩ := zne c195
          clear c195
          (first | rw [c195b0] | (simp only [i64_w, i32_w]; rw [c195b0]) | skip)
          have H' := Aside0.mk H
          clear H
          go_wp2
          go_meet
          case rel => exact ⟨_, (true), ze, H', ⟨by have := HJ17.out; have := HJ65.out; have := HJ110.out; first | omega | exact Nat.le_refl _⟩, ⟨zR (Kd.R_mono HO384.out (fun _ hk => trivial))⟩, ⟨zK BK350⟩, ⟨zK BK351⟩, ⟨zK BK352⟩, ⟨zK BK353⟩, ⟨zK BK354⟩, ⟨zB5 HB GE350 GE351 GE352 GE353 GE354⟩⟩
         ·as_aux_lemma =>
          rw [if_neg c195] at H
          obtain ⟨c195b0, c195b1, c195b2⟩ := znf c195
          clear c195
          (first | rw [c195b0] | (simp only [i64_w, i32_w]; rw [c195b0]) | skip)
          replace H := Option.bind_eq_some_iff.mp H
          obtain ⟨t402, A1960, H⟩ := H
          try dsimp only at H
          have A196 := Aside0.mk A1960
          clear A1960
          by_cases c197 : t402 = true
          ·as_aux_lemma =>
           subst c197
           have H1 : (if (t391 != t393) = true then (laws_FnOrbitsShareOfAll.j6 kj110 a6 a7 a8 t382 t385 t390 t394 t395 t396 t397 true a4_0 a4_1 a4_2 a4_3 a5_0 a5_1 a9_0 a9_1 a9_2 a9_3 a10_0 a10_1) else (if (t390 != t392) = true then (laws_FnOrbitsShareOfAll.j6 kj110 a6 a7 a8 t382 t385 t390 t394 t395 t396 t397 true a4_0 a4_1 a4_2 a4_3 a5_0 a5_1 a9_0 a9_1 a9_2 a9_3 a10_0 a10_1) else (if (t391 != t385) = true then (laws_FnOrbitsShareOfAll.j6 kj110 a6 a7 a8 t382 t385 t390 t394 t395 t396 t397 true a4_0 a4_1 a4_2 a4_3 a5_0 a5_1 a9_0 a9_1 a9_2 a9_3 a10_0 a10_1) else (if (t397 != t401) = true then (laws_FnOrbitsShareOfAll.j6 kj110 a6 a7 a8 t382 t385 t390 t394 t395 t396 t397 true a4_0 a4_1 a4_2 a4_3 a5_0 a5_1 a9_0 a9_1 a9_2 a9_3 a10_0 a10_1) else (if t394 = t398 then (if t395 = t399 then (laws_FnOrbitsShareOfAll.j6 kj110 a6 a7 a8 t382 t385 t390 t394 t395 t396 t397 (t396 != t400) a4_0 a4_1 a4_2 a4_3 a5_0 a5_1 a9_0 a9_1 a9_2 a9_3 a10_0 a10_1) else (laws_FnOrbitsShareOfAll.j6 kj110 a6 a7 a8 t382 t385 t390 t394 t395 t396 t397 true a4_0 a4_1 a4_2 a4_3 a5_0 a5_1 a9_0 a9_1 a9_2 a9_3 a10_0 a10_1)) else (laws_FnOrbitsShareOfAll.j6 kj110 a6 a7 a8 t382 t385 t390 t394 t395 t396 t397 true a4_0 a4_1 a4_2 a4_3 a5_0 a5_1 a9_0 a9_1 a9_2 a9_3 a10_0 a10_1)))))) = some r := by rw [if_pos rfl] at H; exact H
           clear H
           have H := H1
           clear H1
           by_cases c198 : (t391 != t393) = true
           ·rw [if_pos c198] at H
            have c198b0 := c198
            obtain ⟨c198b1, c198b2, c198b3⟩ := zne c198
            clear c198
            have H' := Aside0.mk H
            clear H
            obtain ⟨Ao199, co199, eo199⟩ := Kd.R_slice HO384.out
            subst eo199
            obtain ⟨Ao200, co200, eo200⟩ := Kd.R_slice HO388.out
            subst eo200
            go_wp2_with (first | (go_at_call 51; (with_reducible refine (laws_nSame.calls kj110 _ _ t382 _ _ t386 true _ ?side1 ?side2 ?side3 ?side4 A196.out).mono ?_); (case side1 => exact zC (Kd.R_reads' HO384.out).2.2); (case side2 => exact (Kd.R_reads' HO384.out).2.1); (case side3 => exact zC (Kd.R_reads' HO388.out).2.2); (case side4 => exact (Kd.R_reads' HO388.out).2.1); rintro e w' ⟨rfl, ⟨nd, rfl⟩⟩))
            go_meet
            case rel => exact ⟨_, (true), ze, H', ⟨by have := HJ17.out; have := HJ65.out; have := HJ110.out; first | omega | exact Nat.le_refl _⟩, ⟨zR (Kd.R_mono HO384.out (fun _ hk => trivial))⟩, ⟨zK BK350⟩, ⟨zK BK351⟩, ⟨zK BK352⟩, ⟨zK BK353⟩, ⟨zK BK354⟩, ⟨zB5 HB GE350 GE351 GE352 GE353 GE354⟩⟩
           ·as_aux_lemma =>
            rw [if_neg c198] at H
            obtain ⟨c198b0, c198b1, c198b2⟩ := znf c198
            clear c198
            by_cases c201 : (t390 != t392) = true
            ·rw [if_pos c201] at H
             have c201b0 := c201
             obtain ⟨c201b1, c201b2, c201b3⟩ := zne c201
             clear c201
             have H' := Aside0.mk H
             clear H
             obtain ⟨Ao202, co202, eo202⟩ := Kd.R_slice HO384.out
             subst eo202
             obtain ⟨Ao203, co203, eo203⟩ := Kd.R_slice HO388.out
             subst eo203
             go_wp2_with (first | (go_at_call 51; (with_reducible refine (laws_nSame.calls kj110 _ _ t382 _ _ t386 true _ ?side1 ?side2 ?side3 ?side4 A196.out).mono ?_); (case side1 => exact zC (Kd.R_reads' HO384.out).2.2); (case side2 => exact (Kd.R_reads' HO384.out).2.1); (case side3 => exact zC (Kd.R_reads' HO388.out).2.2); (case side4 => exact (Kd.R_reads' HO388.out).2.1); rintro e w' ⟨rfl, ⟨nd, rfl⟩⟩))
             go_meet
             case rel => exact ⟨_, (true), ze, H', ⟨by have := HJ17.out; have := HJ65.out; have := HJ110.out; first | omega | exact Nat.le_refl _⟩, ⟨zR (Kd.R_mono HO384.out (fun _ hk => trivial))⟩, ⟨zK BK350⟩, ⟨zK BK351⟩, ⟨zK BK352⟩, ⟨zK BK353⟩, ⟨zK BK354⟩, ⟨zB5 HB GE350 GE351 GE352 GE353 GE354⟩⟩
            ·as_aux_lemma =>
             rw [if_neg c201] at H
             obtain ⟨c201b0, c201b1, c201b2⟩ := znf c201
             clear c201
             by_cases c204 : (t391 != t385) = true
             ·rw [if_pos c204] at H
              have c204b0 := c204
              obtain ⟨c204b1, c204b2, c204b3⟩ := zne c204
              clear c204
              have H' := Aside0.mk H
              clear H
              obtain ⟨Ao205, co205, eo205⟩ := Kd.R_slice HO384.out
              subst eo205
              obtain ⟨Ao206, co206, eo206⟩ := Kd.R_slice HO388.out
              subst eo206
              go_wp2_with (first | (go_at_call 51; (with_reducible refine (laws_nSame.calls kj110 _ _ t382 _ _ t386 true _ ?side1 ?side2 ?side3 ?side4 A196.out).mono ?_); (case side1 => exact zC (Kd.R_reads' HO384.out).2.2); (case side2 => exact (Kd.R_reads' HO384.out).2.1); (case side3 => exact zC (Kd.R_reads' HO388.out).2.2); (case side4 => exact (Kd.R_reads' HO388.out).2.1); rintro e w' ⟨rfl, ⟨nd, rfl⟩⟩))
              go_meet
              case rel => exact ⟨_, (true), ze, H', ⟨by have := HJ17.out; have := HJ65.out; have := HJ110.out; first | omega | exact Nat.le_refl _⟩, ⟨zR (Kd.R_mono HO384.out (fun _ hk => trivial))⟩, ⟨zK BK350⟩, ⟨zK BK351⟩, ⟨zK BK352⟩, ⟨zK BK353⟩, ⟨zK BK354⟩, ⟨zB5 HB GE350 GE351 GE352 GE353 GE354⟩⟩
             ·rw [if_neg c204] at H
              obtain ⟨c204b0, c204b1, c204b2⟩ := znf c204
              clear c204
              by_cases c207 : (t397 != t401) = true
              ·rw [if_pos c207] at H
               have c207b0 := c207
               obtain ⟨c207b1, c207b2, c207b3⟩ := zne c207
               clear c207
               have H' := Aside0.mk H
               clear H
               obtain ⟨Ao208, co208, eo208⟩ := Kd.R_slice HO384.out
               subst eo208
               obtain ⟨Ao209, co209, eo209⟩ := Kd.R_slice HO388.out
               subst eo209
               go_wp2_with (first | (go_at_call 51; (with_reducible refine (laws_nSame.calls kj110 _ _ t382 _ _ t386 true _ ?side1 ?side2 ?side3 ?side4 A196.out).mono ?_); (case side1 => exact zC (Kd.R_reads' HO384.out).2.2); (case side2 => exact (Kd.R_reads' HO384.out).2.1); (case side3 => exact zC (Kd.R_reads' HO388.out).2.2); (case side4 => exact (Kd.R_reads' HO388.out).2.1); rintro e w' ⟨rfl, ⟨nd, rfl⟩⟩))
               go_meet
               case rel => exact ⟨_, (true), ze, H', ⟨by have := HJ17.out; have := HJ65.out; have := HJ110.out; first | omega | exact Nat.le_refl _⟩, ⟨zR (Kd.R_mono HO384.out (fun _ hk => trivial))⟩, ⟨zK BK350⟩, ⟨zK BK351⟩, ⟨zK BK352⟩, ⟨zK BK353⟩, ⟨zK BK354⟩, ⟨zB5 HB GE350 GE351 GE352 GE353 GE354⟩⟩
              ·rw [if_neg c207] at H
               obtain ⟨c207b0, c207b1, c207b2⟩ := znf c207
               clear c207
               by_cases c210 : t394 = t398
               ·rw [if_pos c210] at H
                have c210b0 : (t394 == t398) = true := beq_iff_eq.mpr c210
                have c210b1 : (t394 != t398) = false := bne_eq_false_iff_eq.mpr c210
                clear c210
                by_cases c211 : t395 = t399
                ·rw [if_pos c211] at H
                 have c211b0 : (t395 == t399) = true := beq_iff_eq.mpr c211
                 have c211b1 : (t395 != t399) = false := bne_eq_false_iff_eq.mpr c211
                 clear c211
                 have H' := Aside0.mk H
                 clear H
                 obtain ⟨Ao212, co212, eo212⟩ := Kd.R_slice HO384.out
                 subst eo212
                 obtain ⟨Ao213, co213, eo213⟩ := Kd.R_slice HO388.out
                 subst eo213
                 go_wp2_with (first | (go_at_call 51; (with_reducible refine (laws_nSame.calls kj110 _ _ t382 _ _ t386 true _ ?side1 ?side2 ?side3 ?side4 A196.out).mono ?_); (case side1 => exact zC (Kd.R_reads' HO384.out).2.2); (case side2 => exact (Kd.R_reads' HO384.out).2.1); (case side3 => exact zC (Kd.R_reads' HO388.out).2.2); (case side4 => exact (Kd.R_reads' HO388.out).2.1); rintro e w' ⟨rfl, ⟨nd, rfl⟩⟩))
                 go_meet
                 case rel => exact ⟨_, ((t396 != t400)), ze, H', ⟨by have := HJ17.out; have := HJ65.out; have := HJ110.out; first | omega | exact Nat.le_refl _⟩, ⟨zR (Kd.R_mono HO384.out (fun _ hk => trivial))⟩, ⟨zK BK350⟩, ⟨zK BK351⟩, ⟨zK BK352⟩, ⟨zK BK353⟩, ⟨zK BK354⟩, ⟨zB5 HB GE350 GE351 GE352 GE353 GE354⟩⟩
                ·rw [if_neg c211] at H
                 have c211b0 : (t395 == t399) = false := beq_eq_false_iff_ne.mpr c211
                 have c211b1 : (t395 != t399) = true := bne_iff_ne.mpr c211
                 have H' := Aside0.mk H
                 clear H
                 obtain ⟨Ao214, co214, eo214⟩ := Kd.R_slice HO384.out
                 subst eo214
                 obtain ⟨Ao215, co215, eo215⟩ := Kd.R_slice HO388.out
                 subst eo215
                 go_wp2_with (first | (go_at_call 51; (with_reducible refine (laws_nSame.calls kj110 _ _ t382 _ _ t386 true _ ?side1 ?side2 ?side3 ?side4 A196.out).mono ?_); (case side1 => exact zC (Kd.R_reads' HO384.out).2.2); (case side2 => exact (Kd.R_reads' HO384.out).2.1); (case side3 => exact zC (Kd.R_reads' HO388.out).2.2); (case side4 => exact (Kd.R_reads' HO388.out).2.1); rintro e w' ⟨rfl, ⟨nd, rfl⟩⟩))
                 go_meet
                 case rel => exact ⟨_, (true), ze, H', ⟨by have := HJ17.out; have := HJ65.out; have := HJ110.out; first | omega | exact Nat.le_refl _⟩, ⟨zR (Kd.R_mono HO384.out (fun _ hk => trivial))⟩, ⟨zK BK350⟩, ⟨zK BK351⟩, ⟨zK BK352⟩, ⟨zK BK353⟩, ⟨zK BK354⟩, ⟨zB5 HB GE350 GE351 GE352 GE353 GE354⟩⟩
               ·rw [if_neg c210] at H
                have c210b0 : (t394 == t398) = false := beq_eq_false_iff_ne.mpr c210
                have c210b1 : (t394 != t398) = true := bne_iff_ne.mpr c210
                have H' := Aside0.mk H
                clear H
                obtain ⟨Ao216, co216, eo216⟩ := Kd.R_slice HO384.out
                subst eo216
                obtain ⟨Ao217, co217, eo217⟩ := Kd.R_slice HO388.out
                subst eo217
                go_wp2_with (first | (go_at_call 51; (with_reducible refine (laws_nSame.calls kj110 _ _ t382 _ _ t386 true _ ?side1 ?side2 ?side3 ?side4 A196.out).mono ?_); (case side1 => exact zC (Kd.R_reads' HO384.out).2.2); (case side2 => exact (Kd.R_reads' HO384.out).2.1); (case side3 => exact zC (Kd.R_reads' HO388.out).2.2); (case side4 => exact (Kd.R_reads' HO388.out).2.1); rintro e w' ⟨rfl, ⟨nd, rfl⟩⟩))
                go_meet
                case rel => exact ⟨_, (true), ze, H', ⟨by have := HJ17.out; have := HJ65.out; have := HJ110.out; first | omega | exact Nat.le_refl _⟩, ⟨zR (Kd.R_mono HO384.out (fun _ hk => trivial))⟩, ⟨zK BK350⟩, ⟨zK BK351⟩, ⟨zK BK352⟩, ⟨zK BK353⟩, ⟨zK BK354⟩, ⟨zB5 HB GE350 GE351 GE352 GE353 GE354⟩⟩
          ·replace c197 := Bool.eq_false_iff.mpr c197
           subst c197
           have H1 : (laws_FnOrbitsShareOfAll.j6 kj110 a6 a7 a8 t382 t385 t390 t394 t395 t396 t397 true a4_0 a4_1 a4_2 a4_3 a5_0 a5_1 a9_0 a9_1 a9_2 a9_3 a10_0 a10_1) = some r := by rw [if_neg (show ¬ (false = true) by decide)] at H; exact H
           clear H
           have H := H1
           clear H1
           have H' := Aside0.mk H
           clear H
           obtain ⟨Ao218, co218, eo218⟩ := Kd.R_slice HO384.out
           subst eo218
           obtain ⟨Ao219, co219, eo219⟩ := Kd.R_slice HO388.out
           subst eo219
           go_wp2_with (first | (go_at_call 51; (with_reducible refine (laws_nSame.calls kj110 _ _ t382 _ _ t386 false _ ?side1 ?side2 ?side3 ?side4 A196.out).mono ?_); (case side1 => exact zC (Kd.R_reads' HO384.out).2.2); (case side2 => exact (Kd.R_reads' HO384.out).2.1); (case side3 => exact zC (Kd.R_reads' HO388.out).2.2); (case side4 => exact (Kd.R_reads' HO388.out).2.1); rintro e w' ⟨rfl, ⟨nd, rfl⟩⟩))
           go_meet
           case rel => exact ⟨_, (true), ze, H', ⟨by have := HJ17.out; have := HJ65.out; have := HJ110.out; first | omega | exact Nat.le_refl _⟩, ⟨zR (Kd.R_mono HO384.out (fun _ hk => trivial))⟩, ⟨zK BK350⟩, ⟨zK BK351⟩, ⟨zK BK352⟩, ⟨zK BK353⟩, ⟨zK BK354⟩, ⟨zB5 HB GE350 GE351 GE352 GE353 GE354⟩⟩
        case rest => as_aux_lemma =>
         clear HC166
         (try clear c65); (try clear hcz171_0 hcz171_1 hcz171_2 hcz171_3 hfz171_0 hfz171_1 hfz171_2 hfz171_3); (try clear hcz175_0 hcz175_1 hfz175_0 hfz175_1); (try clear hcz177_0 hcz177_1 hcz177_2 hcz177_3 hfz177_0 hfz177_1 hfz177_2 hfz177_3); (try clear hcz178_0 hcz178_1 hfz178_0 hfz178_1); (try clear hcz180_0 hcz180_1 hcz180_2 hcz180_3 hfz180_0 hfz180_1 hfz180_2 hfz180_3); (try clear hcz181_0 hcz181_1 hfz181_0 hfz181_1); (try clear hcz183_0 hcz183_1 hcz183_2 hcz183_3 hfz183_0 hfz183_1 hfz183_2 hfz183_3); (try clear hcz184_0 hcz184_1 hfz184_0 hfz184_1); (try clear hcz188_0 hcz188_1 hcz188_2 hcz188_3 hfz188_0 hfz188_1 hfz188_2 hfz188_3); (try clear hcz190_0 hcz190_1 hfz190_0 hfz190_1); (try clear hcz192_0 hcz192_1 hcz192_2 hcz192_3 hfz192_0 hfz192_1 hfz192_2 hfz192_3); (try clear hcz193_0 hcz193_1 hfz193_0 hfz193_1); (try clear hcz28_0 hcz28_1 hcz28_2 hcz28_3 hfz28_0 hfz28_1 hfz28_2 hfz28_3); (try clear hcz30_0 hcz30_1 hcz30_2 hcz30_3 hfz30_0 hfz30_1 hfz30_2 hfz30_3); (try clear hcz32_0 hcz32_1 hcz32_2 hcz32_3 hfz32_0 hfz32_1 hfz32_2 hfz32_3); (try clear hcz34_0 hcz34_1 hcz34_2 hcz34_3 hfz34_0 hfz34_1 hfz34_2 hfz34_3); (try clear hcz36_0 hcz36_1 hcz36_2 hcz36_3 hfz36_0 hfz36_1 hfz36_2 hfz36_3); (try clear hcz38_0 hcz38_1 hcz38_2 hcz38_3 hfz38_0 hfz38_1 hfz38_2 hfz38_3)
         obtain ⟨kq, x332_165, rfl, HA, HJ165, HO_40, BK350, BK351, BK352, BK353, BK354, HB⟩ := hcut
         cases kq with
         | zero => exact absurd HA.out (by simp [laws_FnOrbitsShareOfAll.j6])
         | succ kj165 =>
          have H := HA.out
          clear HA
          simp only [laws_FnOrbitsShareOfAll.j6] at H
          by_cases c220 : x332_165 = true
          ·subst c220
           have H1 : (some false) = some r := by rw [if_pos rfl] at H; exact H
           clear H
           have H := H1
           clear H1
           obtain rfl := Option.some.inj H
           go_wp2
           go_ret
           exact ⟨zt, zB5 HB GE350 GE351 GE352 GE353 GE354⟩
          ·replace c220 := Bool.eq_false_iff.mpr c220
           subst c220
           have H1 : (if t385 = true then ((impl_StepsOf.f kj165 a5_0 a5_1).bind fun bt403 => (if bt403.2 = true then (if 0 < (t382.length : Int) then (if (rd t382 0) = 0 then (laws_FnOrbitsShareOfAll.j7 kj165 a6 a7 a8 t382 t394 t395 t396 t397 bt403.1 (t390 != ((t382.length : Int) == (wrap64 (a4_0 * a4_1)))) a4_0 a4_1 a4_2 a4_3 a9_0 a9_1 a9_2 a9_3 a10_0 a10_1) else (laws_FnOrbitsShareOfAll.j7 kj165 a6 a7 a8 t382 t394 t395 t396 t397 bt403.1 true a4_0 a4_1 a4_2 a4_3 a9_0 a9_1 a9_2 a9_3 a10_0 a10_1)) else (none)) else (laws_FnOrbitsShareOfAll.j7 kj165 a6 a7 a8 t382 t394 t395 t396 t397 bt403.1 true a4_0 a4_1 a4_2 a4_3 a9_0 a9_1 a9_2 a9_3 a10_0 a10_1))) else (if t397 = true then ((impl_VisitsAll.f kj165 a9_0 a9_1 a9_2 a9_3 a10_0 a10_1 t394 t395 t396).bind fun bt434 => (if bt434.2 = true then (some bt434.1) else (some false))) else (some true))) = some r := by rw [if_neg (show ¬ (false = true) by decide)] at H; exact H
           clear H
           have H := H1
           clear H1
           by_cases c221 : t385 = true
           ·as_aux_lemma =>
            subst c221
            have H1 : ((impl_StepsOf.f kj165 a5_0 a5_1).bind fun bt403 => (if bt403.2 = true then (if 0 < (t382.length : Int) then (if (rd t382 0) = 0 then (laws_FnOrbitsShareOfAll.j7 kj165 a6 a7 a8 t382 t394 t395 t396 t397 bt403.1 (t390 != ((t382.length : Int) == (wrap64 (a4_0 * a4_1)))) a4_0 a4_1 a4_2 a4_3 a9_0 a9_1 a9_2 a9_3 a10_0 a10_1) else (laws_FnOrbitsShareOfAll.j7 kj165 a6 a7 a8 t382 t394 t395 t396 t397 bt403.1 true a4_0 a4_1 a4_2 a4_3 a9_0 a9_1 a9_2 a9_3 a10_0 a10_1)) else (none)) else (laws_FnOrbitsShareOfAll.j7 kj165 a6 a7 a8 t382 t394 t395 t396 t397 bt403.1 true a4_0 a4_1 a4_2 a4_3 a9_0 a9_1 a9_2 a9_3 a10_0 a10_1))) = some r := by rw [if_pos rfl] at H; exact H
            clear H
            have H := H1
            clear H1
            replace H := Option.bind_eq_some_iff.mp H
            obtain ⟨⟨t403, t406⟩, A2220, H⟩ := H
            try dsimp only at H
            have A222 := Aside0.mk A2220
            clear A2220
            have HC223 := Aside0.mk H
            clear H
            have hnb224 := NB352_350.out
            have hnc224 := NB350_352.out
            have hnb225 := NB352_351.out
            have hnc225 := NB351_352.out
            have hnb226 := NB352_353.out
            have hnc226 := NB353_352.out
            have hnb227 := NB352_354.out
            have hnc227 := NB354_352.out
            obtain ⟨hcz228_0, hcz228_1, hfz228_0, hfz228_1⟩ := zc2 BK352
            go_upto_region 37 with (first | ((with_reducible refine gate_callee (f := 56) rfl ?_); refine goesL_ (some 336) rfl rfl Try.func56 (by kernel_rfl) rfl #[.agg #[.int .i64 a5_0, .int .i64 a5_1]] rfl zm ?_; (with_reducible refine (impl_StepsOf.calls kj165 a5_0 a5_1 t403 t406 _ A222.out).mono ?_); rintro e w229 ⟨v404, rfl, ho0, hb⟩; refine ⟨_, rfl, ?_⟩; have HO405 := Aside0.mk (Kd.S_lower (Kd.S_new' ho0 (Kd.R_lt (zR HO_40.out))) (below_size (zB5 HB GE350 GE351 GE352 GE353 GE354))); replace HO_40 := zRb HO_40 hb; replace BK350 := zKb BK350 hb; replace BK351 := zKb BK351 hb; replace BK352 := zKb BK352 hb; replace BK353 := zKb BK353 hb; replace BK354 := zKb BK354 hb; replace HB := Aside0.mk (below_step (zB5 HB GE350 GE351 GE352 GE353 GE354) hb); (try clear hb); (try clear hb2); (try clear hk); (try clear hi); (try clear ho0)))
            (try simp only [Act.put, List.setIfInBounds_toArray, List.set_cons_zero, List.set_cons_succ])
            go_cut [358] from 9999 to 9999 (fun v358 wc => ∃ (kq : Nat) (x358_222 : Bool), v358 = .bool x358_222 ∧ Aside0 (laws_FnOrbitsShareOfAll.j7 kq a6 a7 a8 t382 t394 t395 t396 t397 t403 x358_222 a4_0 a4_1 a4_2 a4_3 a9_0 a9_1 a9_2 a9_3 a10_0 a10_1 = some r) ∧ Aside0 (kq ≤ kj165) ∧ Aside0 (Kd.R (Kd.int .i64) 3 wc w.heap.size (fun _ => True) v383 t382) ∧ Aside0 (Kd.S (Kd.slice 3 (Kd.int .i64)) 33 wc w.heap.size (fun k_ => some k_ ≠ (v383 : Value).ownBlock) v404 t403) ∧ Aside0 (wc.heap[gb350]? = some (.cells #[.int .i64 a0_0, .int .i64 a0_1, .bool a0_2, .bool a0_3] 28 (0, 0))) ∧ Aside0 (wc.heap[gb351]? = some (.cells #[.int .i64 a4_0, .int .i64 a4_1, .bool a4_2, .bool a4_3] 28 (0, 0))) ∧ Aside0 (wc.heap[gb352]? = some (.cells #[.int .i64 a5_0, .int .i64 a5_1] 30 (0, 0))) ∧ Aside0 (wc.heap[gb353]? = some (.cells #[.int .i64 a9_0, .int .i64 a9_1, .bool a9_2, .bool a9_3] 28 (0, 0))) ∧ Aside0 (wc.heap[gb354]? = some (.cells #[.int .i64 a10_0, .int .i64 a10_1] 30 (0, 0))) ∧ Aside0 (Below w.heap.size w wc))
            case first => as_aux_lemma =>
             have H := HC223.out
             clear HC223
             by_cases c230 : t406 = true
             ·subst c230
              have H1 : (if 0 < (t382.length : Int) then (if (rd t382 0) = 0 then (laws_FnOrbitsShareOfAll.j7 kj165 a6 a7 a8 t382 t394 t395 t396 t397 t403 (t390 != ((t382.length : Int) == (wrap64 (a4_0 * a4_1)))) a4_0 a4_1 a4_2 a4_3 a9_0 a9_1 a9_2 a9_3 a10_0 a10_1) else (laws_FnOrbitsShareOfAll.j7 kj165 a6 a7 a8 t382 t394 t395 t396 t397 t403 true a4_0 a4_1 a4_2 a4_3 a9_0 a9_1 a9_2 a9_3 a10_0 a10_1)) else (none)) = some r := by rw [if_pos rfl] at H; exact H
              clear H
              have H := H1
              clear H1
              by_cases c231 : 0 < (t382.length : Int)
              ·rw [if_pos c231] at H
               have c231b0 : decide (0 < (t382.length : Int)) = true := decide_eq_true c231
               have c231b1 : decide (0 < t382.length) = true := decide_eq_true (by omega)
               clear c231
               (first | rw [c231b0] | (simp only [i64_w, i32_w]; rw [c231b0]) | skip)
               by_cases c232 : (rd t382 0) = 0
               ·rw [if_pos c232] at H
                have c232b0 : ((rd t382 0) == 0) = true := beq_iff_eq.mpr c232
                have c232b1 : ((rd t382 0) != 0) = false := bne_eq_false_iff_eq.mpr c232
                clear c232
                have H' := Aside0.mk H
                clear H
                obtain ⟨Ao233, co233, eo233⟩ := Kd.R_slice HO_40.out
                subst eo233
                have p407 : 0 ≤ (0 : Int) := (by omega)
                have q407 : 0 < (t382.length : Int) := zd
                obtain ⟨ad407, e407, hx407_0⟩ := Kd.at_int (Kd.R_reads' HO_40.out).2.2 0 p407 q407
                cases e407
                have qi407 : (0 < t382.length) = True := eq_true (by omega)
                (try rw [show ((0 : Int)).toNat = 0 from rfl] at hx407_0)
                (try rw [Addr.add_zero'] at hx407_0)
                replace p407 := eq_true p407
                replace q407 := eq_true q407
                have hnb234 := NB351_350.out
                have hnc234 := NB350_351.out
                have hnb235 := NB351_352.out
                have hnc235 := NB352_351.out
                have hnb236 := NB351_353.out
                have hnc236 := NB353_351.out
                have hnb237 := NB351_354.out
                have hnc237 := NB354_351.out
                obtain ⟨hcz238_0, hcz238_1, hcz238_2, hcz238_3, hfz238_0, hfz238_1, hfz238_2, hfz238_3⟩ := zc4 BK351
                go_wp2
                go_meet
                case rel => exact ⟨_, ((t390 != ((t382.length : Int) == (wrap64 (a4_0 * a4_1))))), ze, H', ⟨by have := HJ17.out; have := HJ65.out; have := HJ110.out; have := HJ165.out; first | omega | exact Nat.le_refl _⟩, ⟨zR HO_40.out⟩, ⟨zL (Kd.S_mono HO405.out (fun _ hk => hk.2))⟩, ⟨zK BK350⟩, ⟨zK BK351⟩, ⟨zK BK352⟩, ⟨zK BK353⟩, ⟨zK BK354⟩, ⟨zB5 HB GE350 GE351 GE352 GE353 GE354⟩⟩
               ·rw [if_neg c232] at H
                have c232b0 : ((rd t382 0) == 0) = false := beq_eq_false_iff_ne.mpr c232
                have c232b1 : ((rd t382 0) != 0) = true := bne_iff_ne.mpr c232
                have H' := Aside0.mk H
                clear H
                obtain ⟨Ao239, co239, eo239⟩ := Kd.R_slice HO_40.out
                subst eo239
                have p407 : 0 ≤ (0 : Int) := (by omega)
                have q407 : 0 < (t382.length : Int) := zd
                obtain ⟨ad407, e407, hx407_0⟩ := Kd.at_int (Kd.R_reads' HO_40.out).2.2 0 p407 q407
                cases e407
                have qi407 : (0 < t382.length) = True := eq_true (by omega)
                (try rw [show ((0 : Int)).toNat = 0 from rfl] at hx407_0)
                (try rw [Addr.add_zero'] at hx407_0)
                replace p407 := eq_true p407
                replace q407 := eq_true q407
                go_wp2
                go_meet
                case rel => exact ⟨_, (true), ze, H', ⟨by have := HJ17.out; have := HJ65.out; have := HJ110.out; have := HJ165.out; first | omega | exact Nat.le_refl _⟩, ⟨zR HO_40.out⟩, ⟨zL (Kd.S_mono HO405.out (fun _ hk => hk.2))⟩, ⟨zK BK350⟩, ⟨zK BK351⟩, ⟨zK BK352⟩, ⟨zK BK353⟩, ⟨zK BK354⟩, ⟨zB5 HB GE350 GE351 GE352 GE353 GE354⟩⟩
              ·rw [if_neg c231] at H
               exact absurd H (by simp)
             ·replace c230 := Bool.eq_false_iff.mpr c230
              subst c230
              have H1 : (laws_FnOrbitsShareOfAll.j7 kj165 a6 a7 a8 t382 t394 t395 t396 t397 t403 true a4_0 a4_1 a4_2 a4_3 a9_0 a9_1 a9_2 a9_3 a10_0 a10_1) = some r := by rw [if_neg (show ¬ (false = true) by decide)] at H; exact H
              clear H
              have H := H1
              clear H1
              have H' := Aside0.mk H
              clear H
              go_wp2
              go_meet
              case rel => exact ⟨_, (true), ze, H', ⟨by have := HJ17.out; have := HJ65.out; have := HJ110.out; have := HJ165.out; first | omega | exact Nat.le_refl _⟩, ⟨zR HO_40.out⟩, ⟨zL (Kd.S_mono HO405.out (fun _ hk => hk.2))⟩, ⟨zK BK350⟩, ⟨zK BK351⟩, ⟨zK BK352⟩, ⟨zK BK353⟩, ⟨zK BK354⟩, ⟨zB5 HB GE350 GE351 GE352 GE353 GE354⟩⟩
            case rest => as_aux_lemma =>
             clear HC223
             (try clear c65); (try clear c220); (try clear c221); (try clear hcz171_0 hcz171_1 hcz171_2 hcz171_3 hfz171_0 hfz171_1 hfz171_2 hfz171_3); (try clear hcz175_0 hcz175_1 hfz175_0 hfz175_1); (try clear hcz177_0 hcz177_1 hcz177_2 hcz177_3 hfz177_0 hfz177_1 hfz177_2 hfz177_3); (try clear hcz178_0 hcz178_1 hfz178_0 hfz178_1); (try clear hcz180_0 hcz180_1 hcz180_2 hcz180_3 hfz180_0 hfz180_1 hfz180_2 hfz180_3); (try clear hcz181_0 hcz181_1 hfz181_0 hfz181_1); (try clear hcz183_0 hcz183_1 hcz183_2 hcz183_3 hfz183_0 hfz183_1 hfz183_2 hfz183_3); (try clear hcz184_0 hcz184_1 hfz184_0 hfz184_1); (try clear hcz188_0 hcz188_1 hcz188_2 hcz188_3 hfz188_0 hfz188_1 hfz188_2 hfz188_3); (try clear hcz190_0 hcz190_1 hfz190_0 hfz190_1); (try clear hcz192_0 hcz192_1 hcz192_2 hcz192_3 hfz192_0 hfz192_1 hfz192_2 hfz192_3); (try clear hcz193_0 hcz193_1 hfz193_0 hfz193_1); (try clear hcz228_0 hcz228_1 hfz228_0 hfz228_1); (try clear hcz28_0 hcz28_1 hcz28_2 hcz28_3 hfz28_0 hfz28_1 hfz28_2 hfz28_3); (try clear hcz30_0 hcz30_1 hcz30_2 hcz30_3 hfz30_0 hfz30_1 hfz30_2 hfz30_3); (try clear hcz32_0 hcz32_1 hcz32_2 hcz32_3 hfz32_0 hfz32_1 hfz32_2 hfz32_3); (try clear hcz34_0 hcz34_1 hcz34_2 hcz34_3 hfz34_0 hfz34_1 hfz34_2 hfz34_3); (try clear hcz36_0 hcz36_1 hcz36_2 hcz36_3 hfz36_0 hfz36_1 hfz36_2 hfz36_3); (try clear hcz38_0 hcz38_1 hcz38_2 hcz38_3 hfz38_0 hfz38_1 hfz38_2 hfz38_3)
             obtain ⟨kq, x358_222, rfl, HA, HJ222, HO_40, HO_56, BK350, BK351, BK352, BK353, BK354, HB⟩ := hcut
             cases kq with
             | zero => exact absurd HA.out (by simp [laws_FnOrbitsShareOfAll.j7])
             | succ kj222 =>
              have H := HA.out
              clear HA
              simp only [laws_FnOrbitsShareOfAll.j7] at H
              by_cases c240 : x358_222 = true
              ·subst c240
               have H1 : (some false) = some r := by rw [if_pos rfl] at H; exact H
               clear H
               have H := H1
               clear H1
               obtain rfl := Option.some.inj H
               go_wp2
               go_ret
               exact ⟨zt, zB5 HB GE350 GE351 GE352 GE353 GE354⟩
              ·replace c240 := Bool.eq_false_iff.mpr c240
               subst c240
               have H1 : (laws_FnOrbitsShareOfAll.l2 kj222 a6 a7 a8 t382 t394 t395 t396 t397 t403 1 a4_0 a4_1 a4_2 a4_3 a9_0 a9_1 a9_2 a9_3 a10_0 a10_1) = some r := by rw [if_neg (show ¬ (false = true) by decide)] at H; exact H
               clear H
               have H := H1
               clear H1
               have H' := Aside0.mk H
               clear H
               go_wp2
               go_loopg [58] kj222 (fun kq v58 w' => ∃ (x58_6 : Int), v58 = .int .i64 x58_6 ∧ Aside0 (laws_FnOrbitsShareOfAll.l2 kq a6 a7 a8 t382 t394 t395 t396 t397 t403 x58_6 a4_0 a4_1 a4_2 a4_3 a9_0 a9_1 a9_2 a9_3 a10_0 a10_1 = some r) ∧ Aside0 (kq ≤ kj222) ∧ Aside0 (Kd.R (Kd.int .i64) 3 w' w.heap.size (fun _ => True) v383 t382) ∧ Aside0 (Kd.S (Kd.slice 3 (Kd.int .i64)) 33 w' w.heap.size (fun k_ => some k_ ≠ (v383 : Value).ownBlock) v404 t403) ∧ Aside0 (w'.heap[gb350]? = some (.cells #[.int .i64 a0_0, .int .i64 a0_1, .bool a0_2, .bool a0_3] 28 (0, 0))) ∧ Aside0 (w'.heap[gb351]? = some (.cells #[.int .i64 a4_0, .int .i64 a4_1, .bool a4_2, .bool a4_3] 28 (0, 0))) ∧ Aside0 (w'.heap[gb352]? = some (.cells #[.int .i64 a5_0, .int .i64 a5_1] 30 (0, 0))) ∧ Aside0 (w'.heap[gb353]? = some (.cells #[.int .i64 a9_0, .int .i64 a9_1, .bool a9_2, .bool a9_3] 28 (0, 0))) ∧ Aside0 (w'.heap[gb354]? = some (.cells #[.int .i64 a10_0, .int .i64 a10_1] 30 (0, 0))) ∧ Aside0 (Below w.heap.size w w'))
               case atStart => exact ⟨(1), ze, H', ⟨Nat.le_refl _⟩, ⟨zR HO_40.out⟩, ⟨zL HO_56.out⟩, ⟨zK BK350⟩, ⟨zK BK351⟩, ⟨zK BK352⟩, ⟨zK BK353⟩, ⟨zK BK354⟩, ⟨zB5 HB GE350 GE351 GE352 GE353 GE354⟩⟩
               case round => as_aux_lemma =>
                clear H'
                (try clear c65); (try clear c220); (try clear c221); (try clear c240); (try clear hcz171_0 hcz171_1 hcz171_2 hcz171_3 hfz171_0 hfz171_1 hfz171_2 hfz171_3); (try clear hcz175_0 hcz175_1 hfz175_0 hfz175_1); (try clear hcz177_0 hcz177_1 hcz177_2 hcz177_3 hfz177_0 hfz177_1 hfz177_2 hfz177_3); (try clear hcz178_0 hcz178_1 hfz178_0 hfz178_1); (try clear hcz180_0 hcz180_1 hcz180_2 hcz180_3 hfz180_0 hfz180_1 hfz180_2 hfz180_3); (try clear hcz181_0 hcz181_1 hfz181_0 hfz181_1); (try clear hcz183_0 hcz183_1 hcz183_2 hcz183_3 hfz183_0 hfz183_1 hfz183_2 hfz183_3); (try clear hcz184_0 hcz184_1 hfz184_0 hfz184_1); (try clear hcz188_0 hcz188_1 hcz188_2 hcz188_3 hfz188_0 hfz188_1 hfz188_2 hfz188_3); (try clear hcz190_0 hcz190_1 hfz190_0 hfz190_1); (try clear hcz192_0 hcz192_1 hcz192_2 hcz192_3 hfz192_0 hfz192_1 hfz192_2 hfz192_3); (try clear hcz193_0 hcz193_1 hfz193_0 hfz193_1); (try clear hcz228_0 hcz228_1 hfz228_0 hfz228_1); (try clear hcz28_0 hcz28_1 hcz28_2 hcz28_3 hfz28_0 hfz28_1 hfz28_2 hfz28_3); (try clear hcz30_0 hcz30_1 hcz30_2 hcz30_3 hfz30_0 hfz30_1 hfz30_2 hfz30_3); (try clear hcz32_0 hcz32_1 hcz32_2 hcz32_3 hfz32_0 hfz32_1 hfz32_2 hfz32_3); (try clear hcz34_0 hcz34_1 hcz34_2 hcz34_3 hfz34_0 hfz34_1 hfz34_2 hfz34_3); (try clear hcz36_0 hcz36_1 hcz36_2 hcz36_3 hfz36_0 hfz36_1 hfz36_2 hfz36_3); (try clear hcz38_0 hcz38_1 hcz38_2 hcz38_3 hfz38_0 hfz38_1 hfz38_2 hfz38_3)
                obtain ⟨x58_6, rfl, HA, HK6, HO_40, HO_56, BK350, BK351, BK352, BK353, BK354, HB⟩ := hrel
                cases gk with
                | zero => exact absurd HA.out (by simp [laws_FnOrbitsShareOfAll.l2])
                | succ k6 =>
                 have H := HA.out
                 clear HA
                 simp only [laws_FnOrbitsShareOfAll.l2] at H
                 by_cases c241 : x58_6 < (t382.length : Int)
                 ·as_aux_lemma =>
                  rw [if_pos c241] at H
                  have c241b0 : decide (x58_6 < (t382.length : Int)) = true := decide_eq_true c241
                  clear c241
                  by_cases c242 : 0 ≤ a6
                  ·as_aux_lemma =>
                   rw [if_pos c242] at H
                   have c242b0 : decide (0 ≤ a6) = true := decide_eq_true c242
                   clear c242
                   by_cases c243 : a6 < (t403.length : Int)
                   ·as_aux_lemma =>
                    rw [if_pos c243] at H
                    have c243b0 : decide (a6 < (t403.length : Int)) = true := decide_eq_true c243
                    clear c243
                    by_cases c244 : a8 = 0
                    ·rw [if_pos c244] at H
                     exact absurd H (by simp)
                    ·as_aux_lemma =>
                     rw [if_neg c244] at H
                     have c244b0 : (a8 == 0) = false := beq_eq_false_iff_ne.mpr c244
                     have c244b1 : (a8 != 0) = true := bne_iff_ne.mpr c244
                     by_cases c245 : (Int.tmod x58_6 a8) = 0
                     ·as_aux_lemma =>
                      rw [if_pos c245] at H
                      have c245b0 : ((Int.tmod x58_6 a8) == 0) = true := beq_iff_eq.mpr c245
                      have c245b1 : ((Int.tmod x58_6 a8) != 0) = false := bne_eq_false_iff_eq.mpr c245
                      clear c245
                      by_cases c246 : 0 ≤ a7
                      ·as_aux_lemma =>
                       rw [if_pos c246] at H
                       have c246b0 : decide (0 ≤ a7) = true := decide_eq_true c246
                       clear c246
                       by_cases c247 : a7 < (t403.length : Int)
                       ·as_aux_lemma =>
                        rw [if_pos c247] at H
                        have c247b0 : decide (a7 < (t403.length : Int)) = true := decide_eq_true c247
                        clear c247
                        obtain ⟨ji248, hji248⟩ : ∃ j_ : Int, (wrap64 (x58_6 - 1)) = j_ := ⟨_, rfl⟩
                        replace H : (if 0 ≤ (ji248) then (if (ji248) < (t382.length : Int) then (if 0 < ((rd_L1 t403 a7).length : Int) then (if 1 < ((rd_L1 t403 a7).length : Int) then ((impl_StepAround.f a4_0 a4_1 a4_2 a4_3 (rd t382 (ji248)) (rd (rd_L1 t403 a7) 0) (rd (rd_L1 t403 a7) 1)).bind fun bt413 => (if bt413.2 = true then (if 0 ≤ x58_6 then (if bt413.1 = (rd t382 x58_6) then (if x58_6 ≤ (t382.length : Int) then ((laws_nHas.f k6 (t382.take (x58_6 : Int).toNat) bt413.1).bind fun t420 => (if t420 = true then (some false) else (laws_FnOrbitsShareOfAll.l2 k6 a6 a7 a8 t382 t394 t395 t396 t397 t403 (wrap64 (x58_6 + 1)) a4_0 a4_1 a4_2 a4_3 a9_0 a9_1 a9_2 a9_3 a10_0 a10_1))) else (none)) else (some false)) else (none)) else (some false))) else (none)) else (none)) else (none)) else (none)) = some r := by first | (rw [hji248] at H; exact H) | (simp only [hji248] at H ⊢; exact H)
                        have hji248w : (IntKind.i64.wrap (x58_6 - 1)) = ji248 := (i64_w _).trans hji248
                        by_cases c249 : 0 ≤ (ji248)
                        ·as_aux_lemma =>
                         rw [if_pos c249] at H
                         have c249b0 : decide (0 ≤ (ji248)) = true := decide_eq_true c249
                         clear c249
                         by_cases c250 : (ji248) < (t382.length : Int)
                         ·as_aux_lemma =>
                          rw [if_pos c250] at H
                          have c250b0 : decide ((ji248) < (t382.length : Int)) = true := decide_eq_true c250
                          clear c250
                          by_cases c251 : 0 < ((rd_L1 t403 a7).length : Int)
                          ·as_aux_lemma =>
                           rw [if_pos c251] at H
                           have c251b0 : decide (0 < ((rd_L1 t403 a7).length : Int)) = true := decide_eq_true c251
                           have c251b1 : decide (0 < (rd_L1 t403 a7).length) = true := decide_eq_true (by omega)
                           clear c251
                           by_cases c252 : 1 < ((rd_L1 t403 a7).length : Int)
                           ·as_aux_lemma =>
                            rw [if_pos c252] at H
                            have c252b0 : decide (1 < ((rd_L1 t403 a7).length : Int)) = true := decide_eq_true c252
                            have c252b1 : decide (1 < (rd_L1 t403 a7).length) = true := decide_eq_true (by omega)
                            clear c252
                            replace H := Option.bind_eq_some_iff.mp H
                            obtain ⟨⟨t413, t414⟩, A2530, H⟩ := H
                            try dsimp only at H
                            have A253 := Aside0.mk A2530
                            clear A2530
                            by_cases c254 : t414 = true
                            ·as_aux_lemma =>
                             subst c254
                             have H1 : (if 0 ≤ x58_6 then (if t413 = (rd t382 x58_6) then (if x58_6 ≤ (t382.length : Int) then ((laws_nHas.f k6 (t382.take (x58_6 : Int).toNat) t413).bind fun t420 => (if t420 = true then (some false) else (laws_FnOrbitsShareOfAll.l2 k6 a6 a7 a8 t382 t394 t395 t396 t397 t403 (wrap64 (x58_6 + 1)) a4_0 a4_1 a4_2 a4_3 a9_0 a9_1 a9_2 a9_3 a10_0 a10_1))) else (none)) else (some false)) else (none)) = some r := by rw [if_pos rfl] at H; exact H
                             clear H
                             have H := H1
                             clear H1
                             by_cases c255 : 0 ≤ x58_6
                             ·as_aux_lemma =>
                              rw [if_pos c255] at H
                              have c255b0 : decide (0 ≤ x58_6) = true := decide_eq_true c255
                              clear c255
                              by_cases c256 : t413 = (rd t382 x58_6)
                              ·as_aux_lemma =>
                               rw [if_pos c256] at H
                               have c256b0 : (t413 == (rd t382 x58_6)) = true := beq_iff_eq.mpr c256
                               have c256b1 : (t413 != (rd t382 x58_6)) = false := bne_eq_false_iff_eq.mpr c256
                               clear c256
                               have c257b0 := eq_true (zd : 0 ≤ x58_6)
                               by_cases c258 : x58_6 ≤ (t382.length : Int)
                               ·as_aux_lemma =>
                                rw [if_pos c258] at H
                                have c258b0 := eq_true c258
                                have c258b1 : decide (x58_6 ≤ (t382.length : Int)) = true := decide_eq_true c258
                                clear c258
                                obtain ⟨y416, hy416⟩ : ∃ y_ : List Int, y_ = (t382.take (x58_6 : Int).toNat) := ⟨_, rfl⟩
                                replace H : ((laws_nHas.f k6 y416 t413).bind fun t420 => (if t420 = true then (some false) else (laws_FnOrbitsShareOfAll.l2 k6 a6 a7 a8 t382 t394 t395 t396 t397 t403 (wrap64 (x58_6 + 1)) a4_0 a4_1 a4_2 a4_3 a9_0 a9_1 a9_2 a9_3 a10_0 a10_1))) = some r := by first | (rw [hy416]; with_reducible exact H) | (have H2_ := (Option.bind_some _ _).symm.trans H; rw [hy416]; with_reducible exact H2_) | (have H2_ := (Option.bind_some _ _).symm.trans H; with_reducible exact H2_) | with_reducible exact H | (rw [hy416]; exact H) | exact H
                                have Ny416 := Aside0.mk hy416
                                clear hy416
                                replace H := Option.bind_eq_some_iff.mp H
                                obtain ⟨t420, A2590, H⟩ := H
                                try dsimp only at H
                                have A259 := Aside0.mk A2590
                                clear A2590
                                by_cases c260 : t420 = true
                                ·as_aux_lemma =>
                                 subst c260
                                 have H1 : (some false) = some r := by rw [if_pos rfl] at H; exact H
                                 clear H
                                 have H := H1
                                 clear H1
                                 obtain rfl := Option.some.inj H
                                 obtain ⟨Ao261, co261, eo261⟩ := Kd.R_slice HO_40.out
                                 subst eo261
                                 obtain ⟨Ao262, co262, eo262⟩ := Kd.S_slice HO_56.out
                                 subst eo262
                                 have p408 : 0 ≤ (a6 : Int) := zd
                                 have q408 : a6 < (t403.length : Int) := zd
                                 obtain ⟨ad408, A408_0, c408_0, e408, hx408_0, hl408_0, hi408_0⟩ := at_L1 (Kd.S_reads' HO_56.out).2.2 a6 p408 q408
                                 cases e408
                                 obtain ⟨ce408, hce408, hMe408, hcc408⟩ := Kd.S_get HO_56.out [] a6 p408 (by first | exact q408 | exact zd | (have e_ := (Kd.S_reads' HO_56.out).1; omega))
                                 obtain ⟨ve408_0, rfl, ge408_0⟩ := hMe408
                                 have hv408_0 := hcc408 0 _ rfl
                                 rw [Nat.add_zero, show ((Kd.slice 3 (Kd.int .i64))).sz = 1 from rfl, Nat.mul_one] at hv408_0
                                 replace hv408_0 := Option.some.inj (hv408_0.symm.trans hx408_0)
                                 rw [hv408_0] at ge408_0
                                 have HL408_0 := Aside0.mk (show Kd.R (Kd.int .i64) 3 _ _ _ _ (rd_L1 t403 a6) from ge408_0)
                                 clear hv408_0 ge408_0
                                 clear hcc408 hce408
                                 have HR408_0 := Aside0.mk hi408_0
                                 have HC408_0 := Aside0.mk hl408_0
                                 clear hi408_0 hl408_0
                                 replace p408 := eq_true p408
                                 replace q408 := eq_true q408
                                 have p409 : 0 ≤ (a7 : Int) := zd
                                 have q409 : a7 < (t403.length : Int) := zd
                                 obtain ⟨ad409, A409_0, c409_0, e409, hx409_0, hl409_0, hi409_0⟩ := at_L1 (Kd.S_reads' HO_56.out).2.2 a7 p409 q409
                                 obtain rfl : ad408 = ad409 := (by injection e409)
                                 obtain ⟨ce409, hce409, hMe409, hcc409⟩ := Kd.S_get HO_56.out [] a7 p409 (by first | exact q409 | exact zd | (have e_ := (Kd.S_reads' HO_56.out).1; omega))
                                 obtain ⟨ve409_0, rfl, ge409_0⟩ := hMe409
                                 have hv409_0 := hcc409 0 _ rfl
                                 rw [Nat.add_zero, show ((Kd.slice 3 (Kd.int .i64))).sz = 1 from rfl, Nat.mul_one] at hv409_0
                                 replace hv409_0 := Option.some.inj (hv409_0.symm.trans hx409_0)
                                 rw [hv409_0] at ge409_0
                                 have HL409_0 := Aside0.mk (show Kd.R (Kd.int .i64) 3 _ _ _ _ (rd_L1 t403 a7) from ge409_0)
                                 clear hv409_0 ge409_0
                                 clear hcc409 hce409
                                 have HR409_0 := Aside0.mk hi409_0
                                 have HC409_0 := Aside0.mk hl409_0
                                 clear hi409_0 hl409_0
                                 replace p409 := eq_true p409
                                 replace q409 := eq_true q409
                                 try go_wp2
                                 replace HO_40 := Aside0.mk (Kd.R_drew HO_40.out)
                                 replace HO_56 := Aside0.mk (Kd.S_drew HO_56.out)
                                 replace HL408_0 := Aside0.mk (Kd.R_drew HL408_0.out)
                                 replace HL409_0 := Aside0.mk (Kd.R_drew HL409_0.out)
                                 replace BK350 := Aside0.mk (blk_drew BK350.out)
                                 replace BK351 := Aside0.mk (blk_drew BK351.out)
                                 replace BK352 := Aside0.mk (blk_drew BK352.out)
                                 replace BK353 := Aside0.mk (blk_drew BK353.out)
                                 replace BK354 := Aside0.mk (blk_drew BK354.out)
                                 replace HR408_0 := Aside0.mk (Kd.C_drew HR408_0.out)
                                 replace HR409_0 := Aside0.mk (Kd.C_drew HR409_0.out)
                                 replace HB := Aside0.mk (below_drew1 HB.out)
                                 have p410 : 0 ≤ ((ji248) : Int) := zd
                                 have q410 : (ji248) < (t382.length : Int) := zd
                                 obtain ⟨ad410, e410, hx410_0⟩ := Kd.at_int (Kd.R_reads' HO_40.out).2.2 (ji248) p410 q410
                                 cases e410
                                 replace p410 := eq_true p410
                                 replace q410 := eq_true q410
                                 have p411 : 0 ≤ (0 : Int) := (by omega)
                                 have q411 : 0 < ((rd_L1 t403 a7).length : Int) := zd
                                 obtain ⟨ad411, e411, hx411_0⟩ := Kd.at_int (zC HR409_0.out) 0 p411 q411
                                 cases e411
                                 have qi411 : (0 < (rd_L1 t403 a7).length) = True := eq_true (by omega)
                                 (try rw [show ((0 : Int)).toNat = 0 from rfl] at hx411_0)
                                 (try rw [Addr.add_zero'] at hx411_0)
                                 replace p411 := eq_true p411
                                 replace q411 := eq_true q411
                                 have p412 : 0 ≤ (1 : Int) := (by omega)
                                 have q412 : 1 < ((rd_L1 t403 a7).length : Int) := zd
                                 obtain ⟨ad412, e412, hx412_0⟩ := Kd.at_int (zC HR409_0.out) 1 p412 q412
                                 obtain rfl : ad411 = ad412 := (by injection e412)
                                 (try simp only [show (1 : Int).toNat = 1 from rfl, Nat.reduceMul, Nat.reduceEqDiff, Go.Addr.add, ↓reduceIte] at hx412_0)
                                 have qi412 : (1 < (rd_L1 t403 a7).length) = True := eq_true (by omega)
                                 (try rw [show ((1 : Int)).toNat = 1 from rfl] at hx412_0)
                                 replace p412 := eq_true p412
                                 replace q412 := eq_true q412
                                 refine start_ (n := 18) (S := fun w' => w'.cell? ⟨gb351, 0, none⟩ = some (.int .i64 a4_0) ∧ w'.cell? ⟨gb351, 1, none⟩ = some (.int .i64 a4_1) ∧ w'.cell? ⟨gb351, 2, none⟩ = some (.bool a4_2) ∧ w'.cell? ⟨gb351, 3, none⟩ = some (.bool a4_3) ∧ w'.cell? (ad410.add ((ji248)).toNat) = some (.int .i64 (rd t382 (ji248))) ∧ w'.cell? ad411 = some (.int .i64 (rd (rd_L1 t403 a7) 0)) ∧ w'.cell? ⟨ad411.block, ad411.off + 1, none⟩ = some (.int .i64 (rd (rd_L1 t403 a7) 1))) (ds := []) #[false, false, false, false, false, false, false, false, false, false, false, false, false, false, false, false, false, false] (by kernel_rfl) rfl rfl ⟨(blk_cell BK351.out 0).trans rfl, (blk_cell BK351.out 1).trans rfl, (blk_cell BK351.out 2).trans rfl, (blk_cell BK351.out 3).trans rfl, hx410_0, hx411_0, hx412_0⟩ (fun hHeld => ?_); refine with_tabW laws_FnOrbitsShareOfAll.tab45 laws_FnOrbitsShareOfAll.bits45 (fun HT_ HW_ => ?_)
                                 generalize wr.drew = w263 at HO_40 HO_56 HL408_0 HL409_0 BK350 BK351 BK352 BK353 BK354 HR408_0 HR409_0 HB hx410_0 hx411_0 hx412_0 hHeld ⊢
                                 refine pure_ (i := 1) (N := some 379) #[false, true, false, false, false, false, false, false, false, false, false, false, false, false, false, false, false, false] rfl rfl (any_of HT_.out (by kernel_rfl)) (fun _ _ _ h => h) (Or.inl ⟨by rfl, zv⟩) zs ?_
                                 refine pure_ (i := 2) (N := some 380) #[false, true, true, false, false, false, false, false, false, false, false, false, false, false, false, false, false, false] rfl rfl (any_of HT_.out (by kernel_rfl)) (fun _ _ _ h => h) (Or.inl ⟨by rfl, zv⟩) zs ?_
                                 refine pure_ (i := 3) (N := some 381) #[false, true, true, true, false, false, false, false, false, false, false, false, false, false, false, false, false, false] rfl rfl (any_of HT_.out (by kernel_rfl)) (fun _ _ _ h => h) (Or.inl ⟨by rfl, zv⟩) zs ?_
                                 refine pure_ (i := 4) (N := some 382) #[false, true, true, true, true, false, false, false, false, false, false, false, false, false, false, false, false, false] rfl rfl (any_of HT_.out (by kernel_rfl)) (fun _ _ _ h => h) (Or.inl ⟨by rfl, zv⟩) zs ?_
                                 refine pure_ (i := 6) (N := some 384) #[false, true, true, true, true, false, true, false, false, false, false, false, false, false, false, false, false, false] rfl rfl (any_of HT_.out (by kernel_rfl)) (fun _ _ _ h => h) (Or.inl ⟨by rfl, zv⟩) zs ?_
                                 refine pure_ (i := 7) (N := some 385) #[false, true, true, true, true, false, true, true, false, false, false, false, false, false, false, false, false, false] rfl rfl (any_of HT_.out (by kernel_rfl)) (fun _ _ _ h => h) (Or.inl ⟨by rfl, zv⟩) zs ?_
                                 refine pure_ (i := 9) (N := some 387) #[false, true, true, true, true, false, true, true, false, true, false, false, false, false, false, false, false, false] rfl rfl (any_of HT_.out (by kernel_rfl)) (fun _ _ _ h => h) (Or.inl ⟨by rfl, zv⟩) zs ?_
                                 refine pure_ (i := 10) (N := some 388) #[false, true, true, true, true, false, true, true, false, true, true, false, false, false, false, false, false, false] rfl rfl (any_of HT_.out (by kernel_rfl)) (fun _ _ _ h => h) (Or.inl ⟨by rfl, zv⟩) zs ?_
                                 refine take_ (i := 0) (N := some 378) #[true, true, true, true, true, false, true, true, false, true, true, false, false, false, false, false, false, false] rfl rfl (take_ofW HT_.out HW_.out (by kernel_rfl)) (fun _ _ _ h => h) (Or.inl ⟨by rfl, zu7⟩) hHeld zs ?_
                                 refine take_ (i := 5) (N := some 383) #[true, true, true, true, true, true, true, true, false, true, true, false, false, false, false, false, false, false] rfl rfl (take_ofW HT_.out HW_.out (by kernel_rfl)) (fun _ _ _ h => h) (Or.inl ⟨by rfl, zu7⟩) hHeld zs ?_
                                 refine take_ (i := 8) (N := some 386) #[true, true, true, true, true, true, true, true, true, true, true, false, false, false, false, false, false, false] rfl rfl (take_ofW HT_.out HW_.out (by kernel_rfl)) (fun _ _ _ h => h) (Or.inl ⟨by rfl, zu7⟩) hHeld zs ?_
                                 refine take_ (i := 11) (N := some 389) #[true, true, true, true, true, true, true, true, true, true, true, true, false, false, false, false, false, false] rfl rfl (take_ofW HT_.out HW_.out (by kernel_rfl)) (fun _ _ _ h => h) (Or.inl ⟨by rfl, zu7⟩) hHeld zs ?_
                                 refine one_ (i := 12) (N := some 390) #[true, true, true, true, true, true, true, true, true, true, true, true, true, false, false, false, false, false] rfl rfl (one_of HT_.out (by kernel_rfl)) (by decide) (fun K hK => ?_)
                                 refine goes_ Try.func52 (by kernel_rfl) rfl #[.agg #[.int .i64 a4_0, .int .i64 a4_1, .bool a4_2, .bool a4_3], .int .i64 (rd t382 (ji248)), .int .i64 (rd (rd_L1 t403 a7) 0), .int .i64 (rd (rd_L1 t403 a7) 1)] (by rfl) rfl rfl (by (try simp only [List.map_toArray, List.map_cons, List.map_nil]); first | done | (simp only [hji248]; rfl) | rfl | (simp only [List.length_drop, List.length_take]; rfl)) ?_
                                 with_reducible refine (impl_StepAround.calls a4_0 a4_1 a4_2 a4_3 (rd t382 (ji248)) (rd (rd_L1 t403 a7) 0) (rd (rd_L1 t403 a7) 1) t413 true _ A253.out).mono ?_
                                 rintro e w264 ⟨rfl, hb⟩
                                 have HS4_ := (hb.cell (World.block_lt_of_cell? _ _ (hHeld.2.2.2.2.1))).trans (hHeld.2.2.2.2.1)
                                 have HS5_ := (hb.cell (World.block_lt_of_cell? _ _ (hHeld.2.2.2.2.2.1))).trans (hHeld.2.2.2.2.2.1)
                                 have HS6_ := (hb.cell (World.block_lt_of_cell? _ _ (hHeld.2.2.2.2.2.2))).trans (hHeld.2.2.2.2.2.2)
                                 refine ⟨_, rfl, ?_⟩
                                 replace HO_40 := zRb HO_40 hb
                                 replace HO_56 := Aside0.mk (Kd.S_below (zL HO_56.out) hb)
                                 replace HL408_0 := zRb HL408_0 hb
                                 replace HL409_0 := zRb HL409_0 hb
                                 replace BK350 := zKb BK350 hb
                                 replace BK351 := zKb BK351 hb
                                 replace BK352 := zKb BK352 hb
                                 replace BK353 := zKb BK353 hb
                                 replace BK354 := zKb BK354 hb
                                 replace HR408_0 := Aside0.mk (Kd.C_below (zC HR408_0.out) hb)
                                 replace HR409_0 := Aside0.mk (Kd.C_below (zC HR409_0.out) hb)
                                 replace HB := Aside0.mk (below_step (zB5 HB GE350 GE351 GE352 GE353 GE354) hb)
                                 (try clear hb); (try clear hb2); (try clear hk); (try clear hi)
                                 refine hK.out _ _ ⟨(blk_cell BK351.out 0).trans rfl, (blk_cell BK351.out 1).trans rfl, (blk_cell BK351.out 2).trans rfl, (blk_cell BK351.out 3).trans rfl, HS4_, HS5_, HS6_⟩ (fun hHeld => ?_)
                                 clear hK K
                                 refine norm_ (a' := ?_) ?_ ?_
                                 rotate_left
                                 ·show Act.put _ (some 390) _ = _
                                  simp only [Act.put, List.setIfInBounds_toArray, List.set_cons_zero, List.set_cons_succ, i64_w, i32_w]
                                  rfl
                                 refine pure_ (i := 13) (N := some 377) #[true, true, true, true, true, true, true, true, true, true, true, true, true, true, false, false, false, false] rfl rfl (any_of HT_.out (by kernel_rfl)) (fun _ _ _ h => h) (Or.inl ⟨by rfl, zv⟩) zs ?_
                                 refine pure_ (i := 14) (N := some 391) #[true, true, true, true, true, true, true, true, true, true, true, true, true, true, true, false, false, false] rfl rfl (any_of HT_.out (by kernel_rfl)) (fun _ _ _ h => h) (Or.inl ⟨by rfl, zv⟩) zs ?_
                                 refine pure_ (i := 15) (N := some 392) #[true, true, true, true, true, true, true, true, true, true, true, true, true, true, true, true, false, false] rfl rfl (any_of HT_.out (by kernel_rfl)) (fun _ _ _ h => h) (Or.inl ⟨by rfl, zv⟩) zs ?_
                                 refine pure_ (i := 16) (N := some 60) #[true, true, true, true, true, true, true, true, true, true, true, true, true, true, true, true, true, false] rfl rfl (any_of HT_.out (by kernel_rfl)) (fun _ _ _ h => h) (Or.inl ⟨by rfl, zv⟩) zs ?_
                                 refine pure_ (i := 17) (N := some 61) #[true, true, true, true, true, true, true, true, true, true, true, true, true, true, true, true, true, true] rfl rfl (any_of HT_.out (by kernel_rfl)) (fun _ _ _ h => h) (Or.inl ⟨by rfl, zv⟩) zs ?_
                                 refine done_ (done_of HT_.out (by kernel_rfl)) ?_
                                 have p415 : 0 ≤ (x58_6 : Int) := zd
                                 have q415 : x58_6 < (t382.length : Int) := zd
                                 obtain ⟨ad415, e415, hx415_0⟩ := Kd.at_int (Kd.R_reads' HO_40.out).2.2 x58_6 p415 q415
                                 obtain rfl : ad410 = ad415 := (by injection e415)
                                 replace p415 := eq_true p415
                                 replace q415 := eq_true q415
                                 have q265 : (x58_6 : Int) ≤ ((t382.length : Int) : Int) := zd
                                 obtain ⟨i0265, hi0265, _, hsz265, _⟩ := info_parts info3
                                 have hroom265 : t382.length ≤ co261 := (Kd.R_reads' HO_40.out).2.1
                                 have hC265 : Kd.C (Kd.int .i64) _ (some ad410) t382.length t382 := (Kd.R_reads' HO_40.out).2.2
                                 have hcut265 := cut_to (P := Try.prog) 33 3 .i64 Try.underlying33 hi0265 (some ad410) t382.length co261 x58_6 (zd) q265 hroom265
                                 have hr265 := Kd.C_take (m := (x58_6 : Int).toNat) hC265 (by omega)
                                 have hy265 : y416.length = (x58_6 : Int).toNat := (by rw [Ny416.out, List.length_take]; omega)
                                 rw [← Ny416.out] at hr265
                                 rw [← hy265] at hcut265
                                 have HR419 := Aside0.mk hr265
                                 have HC419 := Aside0.mk (show y416.length ≤ co261 from by omega)
                                 clear hr265 hC265 hroom265 hi0265 hsz265
                                 have KY265 := Aside0.mk hy265
                                 clear hy265
                                 have KL265 := Aside0.mk (show (x58_6 : Int).toNat ≤ t382.length from by omega)
                                 replace q265 := eq_true q265
                                 try go_wp2_with (first | (go_at_call 53; (with_reducible refine (laws_nHas.calls k6 _ _ y416 t413 true _ ?side1 ?side2 A259.out).mono ?_); (case side1 => repeat (first | exact (zC HR419.out) | (with_reducible refine Kd.C_alloc ?_ _) | (with_reducible refine Kd.C_drewN ?_ _) | (with_reducible refine Kd.C_drew ?_))); (case side2 => exact HC419.out); rintro e w' ⟨rfl, ⟨nd, rfl⟩⟩))
                                 go_ret
                                 exact ⟨by first | rfl | (simp [errW_none, errW_some] <;> rfl) | (simp only [← hji248]; first | rfl | (simp [errW_none, errW_some] <;> rfl)) | (simp [*, errW_none, errW_some] <;> rfl), zB5 HB GE350 GE351 GE352 GE353 GE354⟩
                                ·replace c260 := Bool.eq_false_iff.mpr c260
                                 subst c260
                                 have H1 : (laws_FnOrbitsShareOfAll.l2 k6 a6 a7 a8 t382 t394 t395 t396 t397 t403 (wrap64 (x58_6 + 1)) a4_0 a4_1 a4_2 a4_3 a9_0 a9_1 a9_2 a9_3 a10_0 a10_1) = some r := by rw [if_neg (show ¬ (false = true) by decide)] at H; exact H
                                 clear H
                                 have H := H1
                                 clear H1
                                 have H' := Aside0.mk H
                                 clear H
                                 obtain ⟨Ao266, co266, eo266⟩ := Kd.R_slice HO_40.out
                                 subst eo266
                                 obtain ⟨Ao267, co267, eo267⟩ := Kd.S_slice HO_56.out
                                 subst eo267
                                 have p408 : 0 ≤ (a6 : Int) := zd
                                 have q408 : a6 < (t403.length : Int) := zd
                                 obtain ⟨ad408, A408_0, c408_0, e408, hx408_0, hl408_0, hi408_0⟩ := at_L1 (Kd.S_reads' HO_56.out).2.2 a6 p408 q408
                                 cases e408
                                 obtain ⟨ce408, hce408, hMe408, hcc408⟩ := Kd.S_get HO_56.out [] a6 p408 (by first | exact q408 | exact zd | (have e_ := (Kd.S_reads' HO_56.out).1; omega))
                                 obtain ⟨ve408_0, rfl, ge408_0⟩ := hMe408
                                 have hv408_0 := hcc408 0 _ rfl
                                 rw [Nat.add_zero, show ((Kd.slice 3 (Kd.int .i64))).sz = 1 from rfl, Nat.mul_one] at hv408_0
                                 replace hv408_0 := Option.some.inj (hv408_0.symm.trans hx408_0)
                                 rw [hv408_0] at ge408_0
                                 have HL408_0 := Aside0.mk (show Kd.R (Kd.int .i64) 3 _ _ _ _ (rd_L1 t403 a6) from ge408_0)
                                 clear hv408_0 ge408_0
                                 clear hcc408 hce408
                                 have HR408_0 := Aside0.mk hi408_0
                                 have HC408_0 := Aside0.mk hl408_0
                                 clear hi408_0 hl408_0
                                 replace p408 := eq_true p408
                                 replace q408 := eq_true q408
                                 have p409 : 0 ≤ (a7 : Int) := zd
                                 have q409 : a7 < (t403.length : Int) := zd
                                 obtain ⟨ad409, A409_0, c409_0, e409, hx409_0, hl409_0, hi409_0⟩ := at_L1 (Kd.S_reads' HO_56.out).2.2 a7 p409 q409
                                 obtain rfl : ad408 = ad409 := (by injection e409)
                                 obtain ⟨ce409, hce409, hMe409, hcc409⟩ := Kd.S_get HO_56.out [] a7 p409 (by first | exact q409 | exact zd | (have e_ := (Kd.S_reads' HO_56.out).1; omega))
                                 obtain ⟨ve409_0, rfl, ge409_0⟩ := hMe409
                                 have hv409_0 := hcc409 0 _ rfl
                                 rw [Nat.add_zero, show ((Kd.slice 3 (Kd.int .i64))).sz = 1 from rfl, Nat.mul_one] at hv409_0
                                 replace hv409_0 := Option.some.inj (hv409_0.symm.trans hx409_0)
                                 rw [hv409_0] at ge409_0
                                 have HL409_0 := Aside0.mk (show Kd.R (Kd.int .i64) 3 _ _ _ _ (rd_L1 t403 a7) from ge409_0)
                                 clear hv409_0 ge409_0
                                 clear hcc409 hce409
                                 have HR409_0 := Aside0.mk hi409_0
                                 have HC409_0 := Aside0.mk hl409_0
                                 clear hi409_0 hl409_0
                                 replace p409 := eq_true p409
                                 replace q409 := eq_true q409
                                 try go_wp2
                                 replace HO_40 := Aside0.mk (Kd.R_drew HO_40.out)
                                 replace HO_56 := Aside0.mk (Kd.S_drew HO_56.out)
                                 replace HL408_0 := Aside0.mk (Kd.R_drew HL408_0.out)
                                 replace HL409_0 := Aside0.mk (Kd.R_drew HL409_0.out)
                                 replace BK350 := Aside0.mk (blk_drew BK350.out)
                                 replace BK351 := Aside0.mk (blk_drew BK351.out)
                                 replace BK352 := Aside0.mk (blk_drew BK352.out)
                                 replace BK353 := Aside0.mk (blk_drew BK353.out)
                                 replace BK354 := Aside0.mk (blk_drew BK354.out)
                                 replace HR408_0 := Aside0.mk (Kd.C_drew HR408_0.out)
                                 replace HR409_0 := Aside0.mk (Kd.C_drew HR409_0.out)
                                 replace HB := Aside0.mk (below_drew1 HB.out)
                                 have p410 : 0 ≤ ((ji248) : Int) := zd
                                 have q410 : (ji248) < (t382.length : Int) := zd
                                 obtain ⟨ad410, e410, hx410_0⟩ := Kd.at_int (Kd.R_reads' HO_40.out).2.2 (ji248) p410 q410
                                 cases e410
                                 replace p410 := eq_true p410
                                 replace q410 := eq_true q410
                                 have p411 : 0 ≤ (0 : Int) := (by omega)
                                 have q411 : 0 < ((rd_L1 t403 a7).length : Int) := zd
                                 obtain ⟨ad411, e411, hx411_0⟩ := Kd.at_int (zC HR409_0.out) 0 p411 q411
                                 cases e411
                                 have qi411 : (0 < (rd_L1 t403 a7).length) = True := eq_true (by omega)
                                 (try rw [show ((0 : Int)).toNat = 0 from rfl] at hx411_0)
                                 (try rw [Addr.add_zero'] at hx411_0)
                                 replace p411 := eq_true p411
                                 replace q411 := eq_true q411
                                 have p412 : 0 ≤ (1 : Int) := (by omega)
                                 have q412 : 1 < ((rd_L1 t403 a7).length : Int) := zd
                                 obtain ⟨ad412, e412, hx412_0⟩ := Kd.at_int (zC HR409_0.out) 1 p412 q412
                                 obtain rfl : ad411 = ad412 := (by injection e412)
                                 (try simp only [show (1 : Int).toNat = 1 from rfl, Nat.reduceMul, Nat.reduceEqDiff, Go.Addr.add, ↓reduceIte] at hx412_0)
                                 have qi412 : (1 < (rd_L1 t403 a7).length) = True := eq_true (by omega)
                                 (try rw [show ((1 : Int)).toNat = 1 from rfl] at hx412_0)
                                 replace p412 := eq_true p412
                                 replace q412 := eq_true q412
                                 refine start_ (n := 18) (S := fun w' => w'.cell? ⟨gb351, 0, none⟩ = some (.int .i64 a4_0) ∧ w'.cell? ⟨gb351, 1, none⟩ = some (.int .i64 a4_1) ∧ w'.cell? ⟨gb351, 2, none⟩ = some (.bool a4_2) ∧ w'.cell? ⟨gb351, 3, none⟩ = some (.bool a4_3) ∧ w'.cell? (ad410.add ((ji248)).toNat) = some (.int .i64 (rd t382 (ji248))) ∧ w'.cell? ad411 = some (.int .i64 (rd (rd_L1 t403 a7) 0)) ∧ w'.cell? ⟨ad411.block, ad411.off + 1, none⟩ = some (.int .i64 (rd (rd_L1 t403 a7) 1))) (ds := []) #[false, false, false, false, false, false, false, false, false, false, false, false, false, false, false, false, false, false] (by kernel_rfl) rfl rfl ⟨(blk_cell BK351.out 0).trans rfl, (blk_cell BK351.out 1).trans rfl, (blk_cell BK351.out 2).trans rfl, (blk_cell BK351.out 3).trans rfl, hx410_0, hx411_0, hx412_0⟩ (fun hHeld => ?_); refine with_tabW laws_FnOrbitsShareOfAll.tab45 laws_FnOrbitsShareOfAll.bits45 (fun HT_ HW_ => ?_)
                                 generalize wr.drew = w268 at HO_40 HO_56 HL408_0 HL409_0 BK350 BK351 BK352 BK353 BK354 HR408_0 HR409_0 HB hx410_0 hx411_0 hx412_0 hHeld ⊢
                                 refine pure_ (i := 1) (N := some 379) #[false, true, false, false, false, false, false, false, false, false, false, false, false, false, false, false, false, false] rfl rfl (any_of HT_.out (by kernel_rfl)) (fun _ _ _ h => h) (Or.inl ⟨by rfl, zv⟩) zs ?_
                                 refine pure_ (i := 2) (N := some 380) #[false, true, true, false, false, false, false, false, false, false, false, false, false, false, false, false, false, false] rfl rfl (any_of HT_.out (by kernel_rfl)) (fun _ _ _ h => h) (Or.inl ⟨by rfl, zv⟩) zs ?_
                                 refine pure_ (i := 3) (N := some 381) #[false, true, true, true, false, false, false, false, false, false, false, false, false, false, false, false, false, false] rfl rfl (any_of HT_.out (by kernel_rfl)) (fun _ _ _ h => h) (Or.inl ⟨by rfl, zv⟩) zs ?_
                                 refine pure_ (i := 4) (N := some 382) #[false, true, true, true, true, false, false, false, false, false, false, false, false, false, false, false, false, false] rfl rfl (any_of HT_.out (by kernel_rfl)) (fun _ _ _ h => h) (Or.inl ⟨by rfl, zv⟩) zs ?_
                                 refine pure_ (i := 6) (N := some 384) #[false, true, true, true, true, false, true, false, false, false, false, false, false, false, false, false, false, false] rfl rfl (any_of HT_.out (by kernel_rfl)) (fun _ _ _ h => h) (Or.inl ⟨by rfl, zv⟩) zs ?_
                                 refine pure_ (i := 7) (N := some 385) #[false, true, true, true, true, false, true, true, false, false, false, false, false, false, false, false, false, false] rfl rfl (any_of HT_.out (by kernel_rfl)) (fun _ _ _ h => h) (Or.inl ⟨by rfl, zv⟩) zs ?_
                                 refine pure_ (i := 9) (N := some 387) #[false, true, true, true, true, false, true, true, false, true, false, false, false, false, false, false, false, false] rfl rfl (any_of HT_.out (by kernel_rfl)) (fun _ _ _ h => h) (Or.inl ⟨by rfl, zv⟩) zs ?_
                                 refine pure_ (i := 10) (N := some 388) #[false, true, true, true, true, false, true, true, false, true, true, false, false, false, false, false, false, false] rfl rfl (any_of HT_.out (by kernel_rfl)) (fun _ _ _ h => h) (Or.inl ⟨by rfl, zv⟩) zs ?_
                                 refine take_ (i := 0) (N := some 378) #[true, true, true, true, true, false, true, true, false, true, true, false, false, false, false, false, false, false] rfl rfl (take_ofW HT_.out HW_.out (by kernel_rfl)) (fun _ _ _ h => h) (Or.inl ⟨by rfl, zu7⟩) hHeld zs ?_
                                 refine take_ (i := 5) (N := some 383) #[true, true, true, true, true, true, true, true, false, true, true, false, false, false, false, false, false, false] rfl rfl (take_ofW HT_.out HW_.out (by kernel_rfl)) (fun _ _ _ h => h) (Or.inl ⟨by rfl, zu7⟩) hHeld zs ?_
                                 refine take_ (i := 8) (N := some 386) #[true, true, true, true, true, true, true, true, true, true, true, false, false, false, false, false, false, false] rfl rfl (take_ofW HT_.out HW_.out (by kernel_rfl)) (fun _ _ _ h => h) (Or.inl ⟨by rfl, zu7⟩) hHeld zs ?_
                                 refine take_ (i := 11) (N := some 389) #[true, true, true, true, true, true, true, true, true, true, true, true, false, false, false, false, false, false] rfl rfl (take_ofW HT_.out HW_.out (by kernel_rfl)) (fun _ _ _ h => h) (Or.inl ⟨by rfl, zu7⟩) hHeld zs ?_
                                 refine one_ (i := 12) (N := some 390) #[true, true, true, true, true, true, true, true, true, true, true, true, true, false, false, false, false, false] rfl rfl (one_of HT_.out (by kernel_rfl)) (by decide) (fun K hK => ?_)
                                 refine goes_ Try.func52 (by kernel_rfl) rfl #[.agg #[.int .i64 a4_0, .int .i64 a4_1, .bool a4_2, .bool a4_3], .int .i64 (rd t382 (ji248)), .int .i64 (rd (rd_L1 t403 a7) 0), .int .i64 (rd (rd_L1 t403 a7) 1)] (by rfl) rfl rfl (by (try simp only [List.map_toArray, List.map_cons, List.map_nil]); first | done | (simp only [hji248]; rfl) | rfl | (simp only [List.length_drop, List.length_take]; rfl)) ?_
                                 with_reducible refine (impl_StepAround.calls a4_0 a4_1 a4_2 a4_3 (rd t382 (ji248)) (rd (rd_L1 t403 a7) 0) (rd (rd_L1 t403 a7) 1) t413 true _ A253.out).mono ?_
                                 rintro e w269 ⟨rfl, hb⟩
                                 have HS4_ := (hb.cell (World.block_lt_of_cell? _ _ (hHeld.2.2.2.2.1))).trans (hHeld.2.2.2.2.1)
                                 have HS5_ := (hb.cell (World.block_lt_of_cell? _ _ (hHeld.2.2.2.2.2.1))).trans (hHeld.2.2.2.2.2.1)
                                 have HS6_ := (hb.cell (World.block_lt_of_cell? _ _ (hHeld.2.2.2.2.2.2))).trans (hHeld.2.2.2.2.2.2)
                                 refine ⟨_, rfl, ?_⟩
                                 replace HO_40 := zRb HO_40 hb
                                 replace HO_56 := Aside0.mk (Kd.S_below (zL HO_56.out) hb)
                                 replace HL408_0 := zRb HL408_0 hb
                                 replace HL409_0 := zRb HL409_0 hb
                                 replace BK350 := zKb BK350 hb
                                 replace BK351 := zKb BK351 hb
                                 replace BK352 := zKb BK352 hb
                                 replace BK353 := zKb BK353 hb
                                 replace BK354 := zKb BK354 hb
                                 replace HR408_0 := Aside0.mk (Kd.C_below (zC HR408_0.out) hb)
                                 replace HR409_0 := Aside0.mk (Kd.C_below (zC HR409_0.out) hb)
                                 replace HB := Aside0.mk (below_step (zB5 HB GE350 GE351 GE352 GE353 GE354) hb)
                                 (try clear hb); (try clear hb2); (try clear hk); (try clear hi)
                                 refine hK.out _ _ ⟨(blk_cell BK351.out 0).trans rfl, (blk_cell BK351.out 1).trans rfl, (blk_cell BK351.out 2).trans rfl, (blk_cell BK351.out 3).trans rfl, HS4_, HS5_, HS6_⟩ (fun hHeld => ?_)
                                 clear hK K
                                 refine norm_ (a' := ?_) ?_ ?_
                                 rotate_left
                                 ·show Act.put _ (some 390) _ = _
                                  simp only [Act.put, List.setIfInBounds_toArray, List.set_cons_zero, List.set_cons_succ, i64_w, i32_w]
                                  rfl
                                 refine pure_ (i := 13) (N := some 377) #[true, true, true, true, true, true, true, true, true, true, true, true, true, true, false, false, false, false] rfl rfl (any_of HT_.out (by kernel_rfl)) (fun _ _ _ h => h) (Or.inl ⟨by rfl, zv⟩) zs ?_
                                 refine pure_ (i := 14) (N := some 391) #[true, true, true, true, true, true, true, true, true, true, true, true, true, true, true, false, false, false] rfl rfl (any_of HT_.out (by kernel_rfl)) (fun _ _ _ h => h) (Or.inl ⟨by rfl, zv⟩) zs ?_
                                 refine pure_ (i := 15) (N := some 392) #[true, true, true, true, true, true, true, true, true, true, true, true, true, true, true, true, false, false] rfl rfl (any_of HT_.out (by kernel_rfl)) (fun _ _ _ h => h) (Or.inl ⟨by rfl, zv⟩) zs ?_
                                 refine pure_ (i := 16) (N := some 60) #[true, true, true, true, true, true, true, true, true, true, true, true, true, true, true, true, true, false] rfl rfl (any_of HT_.out (by kernel_rfl)) (fun _ _ _ h => h) (Or.inl ⟨by rfl, zv⟩) zs ?_
                                 refine pure_ (i := 17) (N := some 61) #[true, true, true, true, true, true, true, true, true, true, true, true, true, true, true, true, true, true] rfl rfl (any_of HT_.out (by kernel_rfl)) (fun _ _ _ h => h) (Or.inl ⟨by rfl, zv⟩) zs ?_
                                 refine done_ (done_of HT_.out (by kernel_rfl)) ?_
                                 have p415 : 0 ≤ (x58_6 : Int) := zd
                                 have q415 : x58_6 < (t382.length : Int) := zd
                                 obtain ⟨ad415, e415, hx415_0⟩ := Kd.at_int (Kd.R_reads' HO_40.out).2.2 x58_6 p415 q415
                                 obtain rfl : ad410 = ad415 := (by injection e415)
                                 replace p415 := eq_true p415
                                 replace q415 := eq_true q415
                                 have q270 : (x58_6 : Int) ≤ ((t382.length : Int) : Int) := zd
                                 obtain ⟨i0270, hi0270, _, hsz270, _⟩ := info_parts info3
                                 have hroom270 : t382.length ≤ co266 := (Kd.R_reads' HO_40.out).2.1
                                 have hC270 : Kd.C (Kd.int .i64) _ (some ad410) t382.length t382 := (Kd.R_reads' HO_40.out).2.2
                                 have hcut270 := cut_to (P := Try.prog) 33 3 .i64 Try.underlying33 hi0270 (some ad410) t382.length co266 x58_6 (zd) q270 hroom270
                                 have hr270 := Kd.C_take (m := (x58_6 : Int).toNat) hC270 (by omega)
                                 have hy270 : y416.length = (x58_6 : Int).toNat := (by rw [Ny416.out, List.length_take]; omega)
                                 rw [← Ny416.out] at hr270
                                 rw [← hy270] at hcut270
                                 have HR419 := Aside0.mk hr270
                                 have HC419 := Aside0.mk (show y416.length ≤ co266 from by omega)
                                 clear hr270 hC270 hroom270 hi0270 hsz270
                                 have KY270 := Aside0.mk hy270
                                 clear hy270
                                 have KL270 := Aside0.mk (show (x58_6 : Int).toNat ≤ t382.length from by omega)
                                 replace q270 := eq_true q270
                                 try go_wp2_with (first | (go_at_call 53; (with_reducible refine (laws_nHas.calls k6 _ _ y416 t413 false _ ?side1 ?side2 A259.out).mono ?_); (case side1 => repeat (first | exact (zC HR419.out) | (with_reducible refine Kd.C_alloc ?_ _) | (with_reducible refine Kd.C_drewN ?_ _) | (with_reducible refine Kd.C_drew ?_))); (case side2 => exact HC419.out); rintro e w' ⟨rfl, ⟨nd, rfl⟩⟩))
                                 go_roundg k6
                                 case measure => have := HJ17.out; have := HJ65.out; have := HJ110.out; have := HJ165.out; have := HJ222.out; have := HK6.out; omega
                                 case rel => exact ⟨(wrap64 (x58_6 + 1)), ze, H', ⟨by have := HJ17.out; have := HJ65.out; have := HJ110.out; have := HJ165.out; have := HJ222.out; have := HK6.out; omega⟩, ⟨zR HO_40.out⟩, ⟨zL HO_56.out⟩, ⟨zK BK350⟩, ⟨zK BK351⟩, ⟨zK BK352⟩, ⟨zK BK353⟩, ⟨zK BK354⟩, ⟨zB5 HB GE350 GE351 GE352 GE353 GE354⟩⟩
                               ·rw [if_neg c258] at H
                                exact absurd H (by simp)
                              ·as_aux_lemma =>
                               rw [if_neg c256] at H
                               have c256b0 : (t413 == (rd t382 x58_6)) = false := beq_eq_false_iff_ne.mpr c256
                               have c256b1 : (t413 != (rd t382 x58_6)) = true := bne_iff_ne.mpr c256
                               obtain rfl := Option.some.inj H
                               obtain ⟨Ao271, co271, eo271⟩ := Kd.R_slice HO_40.out
                               subst eo271
                               obtain ⟨Ao272, co272, eo272⟩ := Kd.S_slice HO_56.out
                               subst eo272
                               have p408 : 0 ≤ (a6 : Int) := zd
                               have q408 : a6 < (t403.length : Int) := zd
                               obtain ⟨ad408, A408_0, c408_0, e408, hx408_0, hl408_0, hi408_0⟩ := at_L1 (Kd.S_reads' HO_56.out).2.2 a6 p408 q408
                               cases e408
                               obtain ⟨ce408, hce408, hMe408, hcc408⟩ := Kd.S_get HO_56.out [] a6 p408 (by first | exact q408 | exact zd | (have e_ := (Kd.S_reads' HO_56.out).1; omega))
                               obtain ⟨ve408_0, rfl, ge408_0⟩ := hMe408
                               have hv408_0 := hcc408 0 _ rfl
                               rw [Nat.add_zero, show ((Kd.slice 3 (Kd.int .i64))).sz = 1 from rfl, Nat.mul_one] at hv408_0
                               replace hv408_0 := Option.some.inj (hv408_0.symm.trans hx408_0)
                               rw [hv408_0] at ge408_0
                               have HL408_0 := Aside0.mk (show Kd.R (Kd.int .i64) 3 _ _ _ _ (rd_L1 t403 a6) from ge408_0)
                               clear hv408_0 ge408_0
                               clear hcc408 hce408
                               have HR408_0 := Aside0.mk hi408_0
                               have HC408_0 := Aside0.mk hl408_0
                               clear hi408_0 hl408_0
                               replace p408 := eq_true p408
                               replace q408 := eq_true q408
                               have p409 : 0 ≤ (a7 : Int) := zd
                               have q409 : a7 < (t403.length : Int) := zd
                               obtain ⟨ad409, A409_0, c409_0, e409, hx409_0, hl409_0, hi409_0⟩ := at_L1 (Kd.S_reads' HO_56.out).2.2 a7 p409 q409
                               obtain rfl : ad408 = ad409 := (by injection e409)
                               obtain ⟨ce409, hce409, hMe409, hcc409⟩ := Kd.S_get HO_56.out [] a7 p409 (by first | exact q409 | exact zd | (have e_ := (Kd.S_reads' HO_56.out).1; omega))
                               obtain ⟨ve409_0, rfl, ge409_0⟩ := hMe409
                               have hv409_0 := hcc409 0 _ rfl
                               rw [Nat.add_zero, show ((Kd.slice 3 (Kd.int .i64))).sz = 1 from rfl, Nat.mul_one] at hv409_0
                               replace hv409_0 := Option.some.inj (hv409_0.symm.trans hx409_0)
                               rw [hv409_0] at ge409_0
                               have HL409_0 := Aside0.mk (show Kd.R (Kd.int .i64) 3 _ _ _ _ (rd_L1 t403 a7) from ge409_0)
                               clear hv409_0 ge409_0
                               clear hcc409 hce409
                               have HR409_0 := Aside0.mk hi409_0
                               have HC409_0 := Aside0.mk hl409_0
                               clear hi409_0 hl409_0
                               replace p409 := eq_true p409
                               replace q409 := eq_true q409
                               try go_wp2
                               replace HO_40 := Aside0.mk (Kd.R_drew HO_40.out)
                               replace HO_56 := Aside0.mk (Kd.S_drew HO_56.out)
                               replace HL408_0 := Aside0.mk (Kd.R_drew HL408_0.out)
                               replace HL409_0 := Aside0.mk (Kd.R_drew HL409_0.out)
                               replace BK350 := Aside0.mk (blk_drew BK350.out)
                               replace BK351 := Aside0.mk (blk_drew BK351.out)
                               replace BK352 := Aside0.mk (blk_drew BK352.out)
                               replace BK353 := Aside0.mk (blk_drew BK353.out)
                               replace BK354 := Aside0.mk (blk_drew BK354.out)
                               replace HR408_0 := Aside0.mk (Kd.C_drew HR408_0.out)
                               replace HR409_0 := Aside0.mk (Kd.C_drew HR409_0.out)
                               replace HB := Aside0.mk (below_drew1 HB.out)
                               have p410 : 0 ≤ ((ji248) : Int) := zd
                               have q410 : (ji248) < (t382.length : Int) := zd
                               obtain ⟨ad410, e410, hx410_0⟩ := Kd.at_int (Kd.R_reads' HO_40.out).2.2 (ji248) p410 q410
                               cases e410
                               replace p410 := eq_true p410
                               replace q410 := eq_true q410
                               have p411 : 0 ≤ (0 : Int) := (by omega)
                               have q411 : 0 < ((rd_L1 t403 a7).length : Int) := zd
                               obtain ⟨ad411, e411, hx411_0⟩ := Kd.at_int (zC HR409_0.out) 0 p411 q411
                               cases e411
                               have qi411 : (0 < (rd_L1 t403 a7).length) = True := eq_true (by omega)
                               (try rw [show ((0 : Int)).toNat = 0 from rfl] at hx411_0)
                               (try rw [Addr.add_zero'] at hx411_0)
                               replace p411 := eq_true p411
                               replace q411 := eq_true q411
                               have p412 : 0 ≤ (1 : Int) := (by omega)
                               have q412 : 1 < ((rd_L1 t403 a7).length : Int) := zd
                               obtain ⟨ad412, e412, hx412_0⟩ := Kd.at_int (zC HR409_0.out) 1 p412 q412
                               obtain rfl : ad411 = ad412 := (by injection e412)
                               (try simp only [show (1 : Int).toNat = 1 from rfl, Nat.reduceMul, Nat.reduceEqDiff, Go.Addr.add, ↓reduceIte] at hx412_0)
                               have qi412 : (1 < (rd_L1 t403 a7).length) = True := eq_true (by omega)
                               (try rw [show ((1 : Int)).toNat = 1 from rfl] at hx412_0)
                               replace p412 := eq_true p412
                               replace q412 := eq_true q412
                               refine start_ (n := 18) (S := fun w' => w'.cell? ⟨gb351, 0, none⟩ = some (.int .i64 a4_0) ∧ w'.cell? ⟨gb351, 1, none⟩ = some (.int .i64 a4_1) ∧ w'.cell? ⟨gb351, 2, none⟩ = some (.bool a4_2) ∧ w'.cell? ⟨gb351, 3, none⟩ = some (.bool a4_3) ∧ w'.cell? (ad410.add ((ji248)).toNat) = some (.int .i64 (rd t382 (ji248))) ∧ w'.cell? ad411 = some (.int .i64 (rd (rd_L1 t403 a7) 0)) ∧ w'.cell? ⟨ad411.block, ad411.off + 1, none⟩ = some (.int .i64 (rd (rd_L1 t403 a7) 1))) (ds := []) #[false, false, false, false, false, false, false, false, false, false, false, false, false, false, false, false, false, false] (by kernel_rfl) rfl rfl ⟨(blk_cell BK351.out 0).trans rfl, (blk_cell BK351.out 1).trans rfl, (blk_cell BK351.out 2).trans rfl, (blk_cell BK351.out 3).trans rfl, hx410_0, hx411_0, hx412_0⟩ (fun hHeld => ?_); refine with_tabW laws_FnOrbitsShareOfAll.tab45 laws_FnOrbitsShareOfAll.bits45 (fun HT_ HW_ => ?_)
                               generalize wr.drew = w273 at HO_40 HO_56 HL408_0 HL409_0 BK350 BK351 BK352 BK353 BK354 HR408_0 HR409_0 HB hx410_0 hx411_0 hx412_0 hHeld ⊢
                               refine pure_ (i := 1) (N := some 379) #[false, true, false, false, false, false, false, false, false, false, false, false, false, false, false, false, false, false] rfl rfl (any_of HT_.out (by kernel_rfl)) (fun _ _ _ h => h) (Or.inl ⟨by rfl, zv⟩) zs ?_
                               refine pure_ (i := 2) (N := some 380) #[false, true, true, false, false, false, false, false, false, false, false, false, false, false, false, false, false, false] rfl rfl (any_of HT_.out (by kernel_rfl)) (fun _ _ _ h => h) (Or.inl ⟨by rfl, zv⟩) zs ?_
                               refine pure_ (i := 3) (N := some 381) #[false, true, true, true, false, false, false, false, false, false, false, false, false, false, false, false, false, false] rfl rfl (any_of HT_.out (by kernel_rfl)) (fun _ _ _ h => h) (Or.inl ⟨by rfl, zv⟩) zs ?_
                               refine pure_ (i := 4) (N := some 382) #[false, true, true, true, true, false, false, false, false, false, false, false, false, false, false, false, false, false] rfl rfl (any_of HT_.out (by kernel_rfl)) (fun _ _ _ h => h) (Or.inl ⟨by rfl, zv⟩) zs ?_
                               refine pure_ (i := 6) (N := some 384) #[false, true, true, true, true, false, true, false, false, false, false, false, false, false, false, false, false, false] rfl rfl (any_of HT_.out (by kernel_rfl)) (fun _ _ _ h => h) (Or.inl ⟨by rfl, zv⟩) zs ?_
                               refine pure_ (i := 7) (N := some 385) #[false, true, true, true, true, false, true, true, false, false, false, false, false, false, false, false, false, false] rfl rfl (any_of HT_.out (by kernel_rfl)) (fun _ _ _ h => h) (Or.inl ⟨by rfl, zv⟩) zs ?_
                               refine pure_ (i := 9) (N := some 387) #[false, true, true, true, true, false, true, true, false, true, false, false, false, false, false, false, false, false] rfl rfl (any_of HT_.out (by kernel_rfl)) (fun _ _ _ h => h) (Or.inl ⟨by rfl, zv⟩) zs ?_
                               refine pure_ (i := 10) (N := some 388) #[false, true, true, true, true, false, true, true, false, true, true, false, false, false, false, false, false, false] rfl rfl (any_of HT_.out (by kernel_rfl)) (fun _ _ _ h => h) (Or.inl ⟨by rfl, zv⟩) zs ?_
                               refine take_ (i := 0) (N := some 378) #[true, true, true, true, true, false, true, true, false, true, true, false, false, false, false, false, false, false] rfl rfl (take_ofW HT_.out HW_.out (by kernel_rfl)) (fun _ _ _ h => h) (Or.inl ⟨by rfl, zu7⟩) hHeld zs ?_
                               refine take_ (i := 5) (N := some 383) #[true, true, true, true, true, true, true, true, false, true, true, false, false, false, false, false, false, false] rfl rfl (take_ofW HT_.out HW_.out (by kernel_rfl)) (fun _ _ _ h => h) (Or.inl ⟨by rfl, zu7⟩) hHeld zs ?_
                               refine take_ (i := 8) (N := some 386) #[true, true, true, true, true, true, true, true, true, true, true, false, false, false, false, false, false, false] rfl rfl (take_ofW HT_.out HW_.out (by kernel_rfl)) (fun _ _ _ h => h) (Or.inl ⟨by rfl, zu7⟩) hHeld zs ?_
                               refine take_ (i := 11) (N := some 389) #[true, true, true, true, true, true, true, true, true, true, true, true, false, false, false, false, false, false] rfl rfl (take_ofW HT_.out HW_.out (by kernel_rfl)) (fun _ _ _ h => h) (Or.inl ⟨by rfl, zu7⟩) hHeld zs ?_
                               refine one_ (i := 12) (N := some 390) #[true, true, true, true, true, true, true, true, true, true, true, true, true, false, false, false, false, false] rfl rfl (one_of HT_.out (by kernel_rfl)) (by decide) (fun K hK => ?_)
                               refine goes_ Try.func52 (by kernel_rfl) rfl #[.agg #[.int .i64 a4_0, .int .i64 a4_1, .bool a4_2, .bool a4_3], .int .i64 (rd t382 (ji248)), .int .i64 (rd (rd_L1 t403 a7) 0), .int .i64 (rd (rd_L1 t403 a7) 1)] (by rfl) rfl rfl (by (try simp only [List.map_toArray, List.map_cons, List.map_nil]); first | done | (simp only [hji248]; rfl) | rfl | (simp only [List.length_drop, List.length_take]; rfl)) ?_
                               with_reducible refine (impl_StepAround.calls a4_0 a4_1 a4_2 a4_3 (rd t382 (ji248)) (rd (rd_L1 t403 a7) 0) (rd (rd_L1 t403 a7) 1) t413 true _ A253.out).mono ?_
                               rintro e w274 ⟨rfl, hb⟩
                               have HS4_ := (hb.cell (World.block_lt_of_cell? _ _ (hHeld.2.2.2.2.1))).trans (hHeld.2.2.2.2.1)
                               have HS5_ := (hb.cell (World.block_lt_of_cell? _ _ (hHeld.2.2.2.2.2.1))).trans (hHeld.2.2.2.2.2.1)
                               have HS6_ := (hb.cell (World.block_lt_of_cell? _ _ (hHeld.2.2.2.2.2.2))).trans (hHeld.2.2.2.2.2.2)
                               refine ⟨_, rfl, ?_⟩
                               replace HO_40 := zRb HO_40 hb
                               replace HO_56 := Aside0.mk (Kd.S_below (zL HO_56.out) hb)
                               replace HL408_0 := zRb HL408_0 hb
                               replace HL409_0 := zRb HL409_0 hb
                               replace BK350 := zKb BK350 hb
                               replace BK351 := zKb BK351 hb
                               replace BK352 := zKb BK352 hb
                               replace BK353 := zKb BK353 hb
                               replace BK354 := zKb BK354 hb
                               replace HR408_0 := Aside0.mk (Kd.C_below (zC HR408_0.out) hb)
                               replace HR409_0 := Aside0.mk (Kd.C_below (zC HR409_0.out) hb)
                               replace HB := Aside0.mk (below_step (zB5 HB GE350 GE351 GE352 GE353 GE354) hb)
                               (try clear hb); (try clear hb2); (try clear hk); (try clear hi)
                               refine hK.out _ _ ⟨(blk_cell BK351.out 0).trans rfl, (blk_cell BK351.out 1).trans rfl, (blk_cell BK351.out 2).trans rfl, (blk_cell BK351.out 3).trans rfl, HS4_, HS5_, HS6_⟩ (fun hHeld => ?_)
                               clear hK K
                               refine norm_ (a' := ?_) ?_ ?_
                               rotate_left
                               ·show Act.put _ (some 390) _ = _
                                simp only [Act.put, List.setIfInBounds_toArray, List.set_cons_zero, List.set_cons_succ, i64_w, i32_w]
                                rfl
                               refine pure_ (i := 13) (N := some 377) #[true, true, true, true, true, true, true, true, true, true, true, true, true, true, false, false, false, false] rfl rfl (any_of HT_.out (by kernel_rfl)) (fun _ _ _ h => h) (Or.inl ⟨by rfl, zv⟩) zs ?_
                               refine pure_ (i := 14) (N := some 391) #[true, true, true, true, true, true, true, true, true, true, true, true, true, true, true, false, false, false] rfl rfl (any_of HT_.out (by kernel_rfl)) (fun _ _ _ h => h) (Or.inl ⟨by rfl, zv⟩) zs ?_
                               refine pure_ (i := 15) (N := some 392) #[true, true, true, true, true, true, true, true, true, true, true, true, true, true, true, true, false, false] rfl rfl (any_of HT_.out (by kernel_rfl)) (fun _ _ _ h => h) (Or.inl ⟨by rfl, zv⟩) zs ?_
                               refine pure_ (i := 16) (N := some 60) #[true, true, true, true, true, true, true, true, true, true, true, true, true, true, true, true, true, false] rfl rfl (any_of HT_.out (by kernel_rfl)) (fun _ _ _ h => h) (Or.inl ⟨by rfl, zv⟩) zs ?_
                               refine pure_ (i := 17) (N := some 61) #[true, true, true, true, true, true, true, true, true, true, true, true, true, true, true, true, true, true] rfl rfl (any_of HT_.out (by kernel_rfl)) (fun _ _ _ h => h) (Or.inl ⟨by rfl, zv⟩) zs ?_
                               refine done_ (done_of HT_.out (by kernel_rfl)) ?_
                               have p415 : 0 ≤ (x58_6 : Int) := zd
                               have q415 : x58_6 < (t382.length : Int) := zd
                               obtain ⟨ad415, e415, hx415_0⟩ := Kd.at_int (Kd.R_reads' HO_40.out).2.2 x58_6 p415 q415
                               obtain rfl : ad410 = ad415 := (by injection e415)
                               replace p415 := eq_true p415
                               replace q415 := eq_true q415
                               try go_wp2
                               go_ret
                               exact ⟨by first | rfl | (simp [errW_none, errW_some] <;> rfl) | (simp only [← hji248]; first | rfl | (simp [errW_none, errW_some] <;> rfl)) | (simp [*, errW_none, errW_some] <;> rfl), zB5 HB GE350 GE351 GE352 GE353 GE354⟩
                             ·rw [if_neg c255] at H
                              exact absurd H (by simp)
                            ·replace c254 := Bool.eq_false_iff.mpr c254
                             subst c254
                             have H1 : (some false) = some r := by rw [if_neg (show ¬ (false = true) by decide)] at H; exact H
                             clear H
                             have H := H1
                             clear H1
                             obtain rfl := Option.some.inj H
                             obtain ⟨Ao275, co275, eo275⟩ := Kd.R_slice HO_40.out
                             subst eo275
                             obtain ⟨Ao276, co276, eo276⟩ := Kd.S_slice HO_56.out
                             subst eo276
                             have p408 : 0 ≤ (a6 : Int) := zd
                             have q408 : a6 < (t403.length : Int) := zd
                             obtain ⟨ad408, A408_0, c408_0, e408, hx408_0, hl408_0, hi408_0⟩ := at_L1 (Kd.S_reads' HO_56.out).2.2 a6 p408 q408
                             cases e408
                             obtain ⟨ce408, hce408, hMe408, hcc408⟩ := Kd.S_get HO_56.out [] a6 p408 (by first | exact q408 | exact zd | (have e_ := (Kd.S_reads' HO_56.out).1; omega))
                             obtain ⟨ve408_0, rfl, ge408_0⟩ := hMe408
                             have hv408_0 := hcc408 0 _ rfl
                             rw [Nat.add_zero, show ((Kd.slice 3 (Kd.int .i64))).sz = 1 from rfl, Nat.mul_one] at hv408_0
                             replace hv408_0 := Option.some.inj (hv408_0.symm.trans hx408_0)
                             rw [hv408_0] at ge408_0
                             have HL408_0 := Aside0.mk (show Kd.R (Kd.int .i64) 3 _ _ _ _ (rd_L1 t403 a6) from ge408_0)
                             clear hv408_0 ge408_0
                             clear hcc408 hce408
                             have HR408_0 := Aside0.mk hi408_0
                             have HC408_0 := Aside0.mk hl408_0
                             clear hi408_0 hl408_0
                             replace p408 := eq_true p408
                             replace q408 := eq_true q408
                             have p409 : 0 ≤ (a7 : Int) := zd
                             have q409 : a7 < (t403.length : Int) := zd
                             obtain ⟨ad409, A409_0, c409_0, e409, hx409_0, hl409_0, hi409_0⟩ := at_L1 (Kd.S_reads' HO_56.out).2.2 a7 p409 q409
                             obtain rfl : ad408 = ad409 := (by injection e409)
                             obtain ⟨ce409, hce409, hMe409, hcc409⟩ := Kd.S_get HO_56.out [] a7 p409 (by first | exact q409 | exact zd | (have e_ := (Kd.S_reads' HO_56.out).1; omega))
                             obtain ⟨ve409_0, rfl, ge409_0⟩ := hMe409
                             have hv409_0 := hcc409 0 _ rfl
                             rw [Nat.add_zero, show ((Kd.slice 3 (Kd.int .i64))).sz = 1 from rfl, Nat.mul_one] at hv409_0
                             replace hv409_0 := Option.some.inj (hv409_0.symm.trans hx409_0)
                             rw [hv409_0] at ge409_0
                             have HL409_0 := Aside0.mk (show Kd.R (Kd.int .i64) 3 _ _ _ _ (rd_L1 t403 a7) from ge409_0)
                             clear hv409_0 ge409_0
                             clear hcc409 hce409
                             have HR409_0 := Aside0.mk hi409_0
                             have HC409_0 := Aside0.mk hl409_0
                             clear hi409_0 hl409_0
                             replace p409 := eq_true p409
                             replace q409 := eq_true q409
                             try go_wp2
                             replace HO_40 := Aside0.mk (Kd.R_drew HO_40.out)
                             replace HO_56 := Aside0.mk (Kd.S_drew HO_56.out)
                             replace HL408_0 := Aside0.mk (Kd.R_drew HL408_0.out)
                             replace HL409_0 := Aside0.mk (Kd.R_drew HL409_0.out)
                             replace BK350 := Aside0.mk (blk_drew BK350.out)
                             replace BK351 := Aside0.mk (blk_drew BK351.out)
                             replace BK352 := Aside0.mk (blk_drew BK352.out)
                             replace BK353 := Aside0.mk (blk_drew BK353.out)
                             replace BK354 := Aside0.mk (blk_drew BK354.out)
                             replace HR408_0 := Aside0.mk (Kd.C_drew HR408_0.out)
                             replace HR409_0 := Aside0.mk (Kd.C_drew HR409_0.out)
                             replace HB := Aside0.mk (below_drew1 HB.out)
                             have p410 : 0 ≤ ((ji248) : Int) := zd
                             have q410 : (ji248) < (t382.length : Int) := zd
                             obtain ⟨ad410, e410, hx410_0⟩ := Kd.at_int (Kd.R_reads' HO_40.out).2.2 (ji248) p410 q410
                             cases e410
                             replace p410 := eq_true p410
                             replace q410 := eq_true q410
                             have p411 : 0 ≤ (0 : Int) := (by omega)
                             have q411 : 0 < ((rd_L1 t403 a7).length : Int) := zd
                             obtain ⟨ad411, e411, hx411_0⟩ := Kd.at_int (zC HR409_0.out) 0 p411 q411
                             cases e411
                             have qi411 : (0 < (rd_L1 t403 a7).length) = True := eq_true (by omega)
                             (try rw [show ((0 : Int)).toNat = 0 from rfl] at hx411_0)
                             (try rw [Addr.add_zero'] at hx411_0)
                             replace p411 := eq_true p411
                             replace q411 := eq_true q411
                             have p412 : 0 ≤ (1 : Int) := (by omega)
                             have q412 : 1 < ((rd_L1 t403 a7).length : Int) := zd
                             obtain ⟨ad412, e412, hx412_0⟩ := Kd.at_int (zC HR409_0.out) 1 p412 q412
                             obtain rfl : ad411 = ad412 := (by injection e412)
                             (try simp only [show (1 : Int).toNat = 1 from rfl, Nat.reduceMul, Nat.reduceEqDiff, Go.Addr.add, ↓reduceIte] at hx412_0)
                             have qi412 : (1 < (rd_L1 t403 a7).length) = True := eq_true (by omega)
                             (try rw [show ((1 : Int)).toNat = 1 from rfl] at hx412_0)
                             replace p412 := eq_true p412
                             replace q412 := eq_true q412
                             refine start_ (n := 18) (S := fun w' => w'.cell? ⟨gb351, 0, none⟩ = some (.int .i64 a4_0) ∧ w'.cell? ⟨gb351, 1, none⟩ = some (.int .i64 a4_1) ∧ w'.cell? ⟨gb351, 2, none⟩ = some (.bool a4_2) ∧ w'.cell? ⟨gb351, 3, none⟩ = some (.bool a4_3) ∧ w'.cell? (ad410.add ((ji248)).toNat) = some (.int .i64 (rd t382 (ji248))) ∧ w'.cell? ad411 = some (.int .i64 (rd (rd_L1 t403 a7) 0)) ∧ w'.cell? ⟨ad411.block, ad411.off + 1, none⟩ = some (.int .i64 (rd (rd_L1 t403 a7) 1))) (ds := []) #[false, false, false, false, false, false, false, false, false, false, false, false, false, false, false, false, false, false] (by kernel_rfl) rfl rfl ⟨(blk_cell BK351.out 0).trans rfl, (blk_cell BK351.out 1).trans rfl, (blk_cell BK351.out 2).trans rfl, (blk_cell BK351.out 3).trans rfl, hx410_0, hx411_0, hx412_0⟩ (fun hHeld => ?_); refine with_tabW laws_FnOrbitsShareOfAll.tab45 laws_FnOrbitsShareOfAll.bits45 (fun HT_ HW_ => ?_)
                             generalize wr.drew = w277 at HO_40 HO_56 HL408_0 HL409_0 BK350 BK351 BK352 BK353 BK354 HR408_0 HR409_0 HB hx410_0 hx411_0 hx412_0 hHeld ⊢
                             refine pure_ (i := 1) (N := some 379) #[false, true, false, false, false, false, false, false, false, false, false, false, false, false, false, false, false, false] rfl rfl (any_of HT_.out (by kernel_rfl)) (fun _ _ _ h => h) (Or.inl ⟨by rfl, zv⟩) zs ?_
                             refine pure_ (i := 2) (N := some 380) #[false, true, true, false, false, false, false, false, false, false, false, false, false, false, false, false, false, false] rfl rfl (any_of HT_.out (by kernel_rfl)) (fun _ _ _ h => h) (Or.inl ⟨by rfl, zv⟩) zs ?_
                             refine pure_ (i := 3) (N := some 381) #[false, true, true, true, false, false, false, false, false, false, false, false, false, false, false, false, false, false] rfl rfl (any_of HT_.out (by kernel_rfl)) (fun _ _ _ h => h) (Or.inl ⟨by rfl, zv⟩) zs ?_
                             refine pure_ (i := 4) (N := some 382) #[false, true, true, true, true, false, false, false, false, false, false, false, false, false, false, false, false, false] rfl rfl (any_of HT_.out (by kernel_rfl)) (fun _ _ _ h => h) (Or.inl ⟨by rfl, zv⟩) zs ?_
                             refine pure_ (i := 6) (N := some 384) #[false, true, true, true, true, false, true, false, false, false, false, false, false, false, false, false, false, false] rfl rfl (any_of HT_.out (by kernel_rfl)) (fun _ _ _ h => h) (Or.inl ⟨by rfl, zv⟩) zs ?_
                             refine pure_ (i := 7) (N := some 385) #[false, true, true, true, true, false, true, true, false, false, false, false, false, false, false, false, false, false] rfl rfl (any_of HT_.out (by kernel_rfl)) (fun _ _ _ h => h) (Or.inl ⟨by rfl, zv⟩) zs ?_
                             refine pure_ (i := 9) (N := some 387) #[false, true, true, true, true, false, true, true, false, true, false, false, false, false, false, false, false, false] rfl rfl (any_of HT_.out (by kernel_rfl)) (fun _ _ _ h => h) (Or.inl ⟨by rfl, zv⟩) zs ?_
                             refine pure_ (i := 10) (N := some 388) #[false, true, true, true, true, false, true, true, false, true, true, false, false, false, false, false, false, false] rfl rfl (any_of HT_.out (by kernel_rfl)) (fun _ _ _ h => h) (Or.inl ⟨by rfl, zv⟩) zs ?_
                             refine take_ (i := 0) (N := some 378) #[true, true, true, true, true, false, true, true, false, true, true, false, false, false, false, false, false, false] rfl rfl (take_ofW HT_.out HW_.out (by kernel_rfl)) (fun _ _ _ h => h) (Or.inl ⟨by rfl, zu7⟩) hHeld zs ?_
                             refine take_ (i := 5) (N := some 383) #[true, true, true, true, true, true, true, true, false, true, true, false, false, false, false, false, false, false] rfl rfl (take_ofW HT_.out HW_.out (by kernel_rfl)) (fun _ _ _ h => h) (Or.inl ⟨by rfl, zu7⟩) hHeld zs ?_
                             refine take_ (i := 8) (N := some 386) #[true, true, true, true, true, true, true, true, true, true, true, false, false, false, false, false, false, false] rfl rfl (take_ofW HT_.out HW_.out (by kernel_rfl)) (fun _ _ _ h => h) (Or.inl ⟨by rfl, zu7⟩) hHeld zs ?_
                             refine take_ (i := 11) (N := some 389) #[true, true, true, true, true, true, true, true, true, true, true, true, false, false, false, false, false, false] rfl rfl (take_ofW HT_.out HW_.out (by kernel_rfl)) (fun _ _ _ h => h) (Or.inl ⟨by rfl, zu7⟩) hHeld zs ?_
                             refine one_ (i := 12) (N := some 390) #[true, true, true, true, true, true, true, true, true, true, true, true, true, false, false, false, false, false] rfl rfl (one_of HT_.out (by kernel_rfl)) (by decide) (fun K hK => ?_)
                             refine goes_ Try.func52 (by kernel_rfl) rfl #[.agg #[.int .i64 a4_0, .int .i64 a4_1, .bool a4_2, .bool a4_3], .int .i64 (rd t382 (ji248)), .int .i64 (rd (rd_L1 t403 a7) 0), .int .i64 (rd (rd_L1 t403 a7) 1)] (by rfl) rfl rfl (by (try simp only [List.map_toArray, List.map_cons, List.map_nil]); first | done | (simp only [hji248]; rfl) | rfl | (simp only [List.length_drop, List.length_take]; rfl)) ?_
                             with_reducible refine (impl_StepAround.calls a4_0 a4_1 a4_2 a4_3 (rd t382 (ji248)) (rd (rd_L1 t403 a7) 0) (rd (rd_L1 t403 a7) 1) t413 false _ A253.out).mono ?_
                             rintro e w278 ⟨rfl, hb⟩
                             have HS4_ := (hb.cell (World.block_lt_of_cell? _ _ (hHeld.2.2.2.2.1))).trans (hHeld.2.2.2.2.1)
                             have HS5_ := (hb.cell (World.block_lt_of_cell? _ _ (hHeld.2.2.2.2.2.1))).trans (hHeld.2.2.2.2.2.1)
                             have HS6_ := (hb.cell (World.block_lt_of_cell? _ _ (hHeld.2.2.2.2.2.2))).trans (hHeld.2.2.2.2.2.2)
                             refine ⟨_, rfl, ?_⟩
                             replace HO_40 := zRb HO_40 hb
                             replace HO_56 := Aside0.mk (Kd.S_below (zL HO_56.out) hb)
                             replace HL408_0 := zRb HL408_0 hb
                             replace HL409_0 := zRb HL409_0 hb
                             replace BK350 := zKb BK350 hb
                             replace BK351 := zKb BK351 hb
                             replace BK352 := zKb BK352 hb
                             replace BK353 := zKb BK353 hb
                             replace BK354 := zKb BK354 hb
                             replace HR408_0 := Aside0.mk (Kd.C_below (zC HR408_0.out) hb)
                             replace HR409_0 := Aside0.mk (Kd.C_below (zC HR409_0.out) hb)
                             replace HB := Aside0.mk (below_step (zB5 HB GE350 GE351 GE352 GE353 GE354) hb)
                             (try clear hb); (try clear hb2); (try clear hk); (try clear hi)
                             refine hK.out _ _ ⟨(blk_cell BK351.out 0).trans rfl, (blk_cell BK351.out 1).trans rfl, (blk_cell BK351.out 2).trans rfl, (blk_cell BK351.out 3).trans rfl, HS4_, HS5_, HS6_⟩ (fun hHeld => ?_)
                             clear hK K
                             refine norm_ (a' := ?_) ?_ ?_
                             rotate_left
                             ·show Act.put _ (some 390) _ = _
                              simp only [Act.put, List.setIfInBounds_toArray, List.set_cons_zero, List.set_cons_succ, i64_w, i32_w]
                              rfl
                             refine pure_ (i := 13) (N := some 377) #[true, true, true, true, true, true, true, true, true, true, true, true, true, true, false, false, false, false] rfl rfl (any_of HT_.out (by kernel_rfl)) (fun _ _ _ h => h) (Or.inl ⟨by rfl, zv⟩) zs ?_
                             refine pure_ (i := 14) (N := some 391) #[true, true, true, true, true, true, true, true, true, true, true, true, true, true, true, false, false, false] rfl rfl (any_of HT_.out (by kernel_rfl)) (fun _ _ _ h => h) (Or.inl ⟨by rfl, zv⟩) zs ?_
                             refine pure_ (i := 15) (N := some 392) #[true, true, true, true, true, true, true, true, true, true, true, true, true, true, true, true, false, false] rfl rfl (any_of HT_.out (by kernel_rfl)) (fun _ _ _ h => h) (Or.inl ⟨by rfl, zv⟩) zs ?_
                             refine pure_ (i := 16) (N := some 60) #[true, true, true, true, true, true, true, true, true, true, true, true, true, true, true, true, true, false] rfl rfl (any_of HT_.out (by kernel_rfl)) (fun _ _ _ h => h) (Or.inl ⟨by rfl, zv⟩) zs ?_
                             refine pure_ (i := 17) (N := some 61) #[true, true, true, true, true, true, true, true, true, true, true, true, true, true, true, true, true, true] rfl rfl (any_of HT_.out (by kernel_rfl)) (fun _ _ _ h => h) (Or.inl ⟨by rfl, zv⟩) zs ?_
                             refine done_ (done_of HT_.out (by kernel_rfl)) ?_
                             try go_wp2
                             go_ret
                             exact ⟨by first | rfl | (simp [errW_none, errW_some] <;> rfl) | (simp only [← hji248]; first | rfl | (simp [errW_none, errW_some] <;> rfl)) | (simp [*, errW_none, errW_some] <;> rfl), zB5 HB GE350 GE351 GE352 GE353 GE354⟩
                           ·rw [if_neg c252] at H
                            exact absurd H (by simp)
                          ·rw [if_neg c251] at H
                           exact absurd H (by simp)
                         ·rw [if_neg c250] at H
                          exact absurd H (by simp)
                        ·rw [if_neg c249] at H
                         exact absurd H (by simp)
                       ·rw [if_neg c247] at H
                        exact absurd H (by simp)
                      ·rw [if_neg c246] at H
                       exact absurd H (by simp)
                     ·as_aux_lemma =>
                      rw [if_neg c245] at H
                      have c245b0 : ((Int.tmod x58_6 a8) == 0) = false := beq_eq_false_iff_ne.mpr c245
                      have c245b1 : ((Int.tmod x58_6 a8) != 0) = true := bne_iff_ne.mpr c245
                      obtain ⟨ji279, hji279⟩ : ∃ j_ : Int, (wrap64 (x58_6 - 1)) = j_ := ⟨_, rfl⟩
                      replace H : (if 0 ≤ (ji279) then (if (ji279) < (t382.length : Int) then (if 0 < ((rd_L1 t403 a6).length : Int) then (if 1 < ((rd_L1 t403 a6).length : Int) then ((impl_StepAround.f a4_0 a4_1 a4_2 a4_3 (rd t382 (ji279)) (rd (rd_L1 t403 a6) 0) (rd (rd_L1 t403 a6) 1)).bind fun bt424 => (if bt424.2 = true then (if 0 ≤ x58_6 then (if bt424.1 = (rd t382 x58_6) then (if x58_6 ≤ (t382.length : Int) then ((laws_nHas.f k6 (t382.take (x58_6 : Int).toNat) bt424.1).bind fun t431 => (if t431 = true then (some false) else (laws_FnOrbitsShareOfAll.l2 k6 a6 a7 a8 t382 t394 t395 t396 t397 t403 (wrap64 (x58_6 + 1)) a4_0 a4_1 a4_2 a4_3 a9_0 a9_1 a9_2 a9_3 a10_0 a10_1))) else (none)) else (some false)) else (none)) else (some false))) else (none)) else (none)) else (none)) else (none)) = some r := by first | (rw [hji279] at H; exact H) | (simp only [hji279] at H ⊢; exact H)
                      have hji279w : (IntKind.i64.wrap (x58_6 - 1)) = ji279 := (i64_w _).trans hji279
                      by_cases c280 : 0 ≤ (ji279)
                      ·as_aux_lemma =>
                       rw [if_pos c280] at H
                       have c280b0 : decide (0 ≤ (ji279)) = true := decide_eq_true c280
                       clear c280
                       by_cases c281 : (ji279) < (t382.length : Int)
                       ·as_aux_lemma =>
                        rw [if_pos c281] at H
                        have c281b0 : decide ((ji279) < (t382.length : Int)) = true := decide_eq_true c281
                        clear c281
                        by_cases c282 : 0 < ((rd_L1 t403 a6).length : Int)
                        ·as_aux_lemma =>
                         rw [if_pos c282] at H
                         have c282b0 : decide (0 < ((rd_L1 t403 a6).length : Int)) = true := decide_eq_true c282
                         have c282b1 : decide (0 < (rd_L1 t403 a6).length) = true := decide_eq_true (by omega)
                         clear c282
                         by_cases c283 : 1 < ((rd_L1 t403 a6).length : Int)
                         ·as_aux_lemma =>
                          rw [if_pos c283] at H
                          have c283b0 : decide (1 < ((rd_L1 t403 a6).length : Int)) = true := decide_eq_true c283
                          have c283b1 : decide (1 < (rd_L1 t403 a6).length) = true := decide_eq_true (by omega)
                          clear c283
                          replace H := Option.bind_eq_some_iff.mp H
                          obtain ⟨⟨t424, t425⟩, A2840, H⟩ := H
                          try dsimp only at H
                          have A284 := Aside0.mk A2840
                          clear A2840
                          by_cases c285 : t425 = true
                          ·as_aux_lemma =>
                           subst c285
                           have H1 : (if 0 ≤ x58_6 then (if t424 = (rd t382 x58_6) then (if x58_6 ≤ (t382.length : Int) then ((laws_nHas.f k6 (t382.take (x58_6 : Int).toNat) t424).bind fun t431 => (if t431 = true then (some false) else (laws_FnOrbitsShareOfAll.l2 k6 a6 a7 a8 t382 t394 t395 t396 t397 t403 (wrap64 (x58_6 + 1)) a4_0 a4_1 a4_2 a4_3 a9_0 a9_1 a9_2 a9_3 a10_0 a10_1))) else (none)) else (some false)) else (none)) = some r := by rw [if_pos rfl] at H; exact H
                           clear H
                           have H := H1
                           clear H1
                           by_cases c286 : 0 ≤ x58_6
                           ·as_aux_lemma =>
                            rw [if_pos c286] at H
                            have c286b0 : decide (0 ≤ x58_6) = true := decide_eq_true c286
                            clear c286
                            by_cases c287 : t424 = (rd t382 x58_6)
                            ·as_aux_lemma =>
                             rw [if_pos c287] at H
                             have c287b0 : (t424 == (rd t382 x58_6)) = true := beq_iff_eq.mpr c287
                             have c287b1 : (t424 != (rd t382 x58_6)) = false := bne_eq_false_iff_eq.mpr c287
                             clear c287
                             have c288b0 := eq_true (zd : 0 ≤ x58_6)
                             by_cases c289 : x58_6 ≤ (t382.length : Int)
                             ·as_aux_lemma =>
                              rw [if_pos c289] at H
                              have c289b0 := eq_true c289
                              have c289b1 : decide (x58_6 ≤ (t382.length : Int)) = true := decide_eq_true c289
                              clear c289
                              obtain ⟨y427, hy427⟩ : ∃ y_ : List Int, y_ = (t382.take (x58_6 : Int).toNat) := ⟨_, rfl⟩
                              replace H : ((laws_nHas.f k6 y427 t424).bind fun t431 => (if t431 = true then (some false) else (laws_FnOrbitsShareOfAll.l2 k6 a6 a7 a8 t382 t394 t395 t396 t397 t403 (wrap64 (x58_6 + 1)) a4_0 a4_1 a4_2 a4_3 a9_0 a9_1 a9_2 a9_3 a10_0 a10_1))) = some r := by first | (rw [hy427]; with_reducible exact H) | (have H2_ := (Option.bind_some _ _).symm.trans H; rw [hy427]; with_reducible exact H2_) | (have H2_ := (Option.bind_some _ _).symm.trans H; with_reducible exact H2_) | with_reducible exact H | (rw [hy427]; exact H) | exact H
                              have Ny427 := Aside0.mk hy427
                              clear hy427
                              replace H := Option.bind_eq_some_iff.mp H
                              obtain ⟨t431, A2900, H⟩ := H
                              try dsimp only at H
                              have A290 := Aside0.mk A2900
                              clear A2900
                              by_cases c291 : t431 = true
                              ·as_aux_lemma =>
                               subst c291
                               have H1 : (some false) = some r := by rw [if_pos rfl] at H; exact H
                               clear H
                               have H := H1
                               clear H1
                               obtain rfl := Option.some.inj H
                               obtain ⟨Ao292, co292, eo292⟩ := Kd.R_slice HO_40.out
                               subst eo292
                               obtain ⟨Ao293, co293, eo293⟩ := Kd.S_slice HO_56.out
                               subst eo293
                               have p408 : 0 ≤ (a6 : Int) := zd
                               have q408 : a6 < (t403.length : Int) := zd
                               obtain ⟨ad408, A408_0, c408_0, e408, hx408_0, hl408_0, hi408_0⟩ := at_L1 (Kd.S_reads' HO_56.out).2.2 a6 p408 q408
                               cases e408
                               obtain ⟨ce408, hce408, hMe408, hcc408⟩ := Kd.S_get HO_56.out [] a6 p408 (by first | exact q408 | exact zd | (have e_ := (Kd.S_reads' HO_56.out).1; omega))
                               obtain ⟨ve408_0, rfl, ge408_0⟩ := hMe408
                               have hv408_0 := hcc408 0 _ rfl
                               rw [Nat.add_zero, show ((Kd.slice 3 (Kd.int .i64))).sz = 1 from rfl, Nat.mul_one] at hv408_0
                               replace hv408_0 := Option.some.inj (hv408_0.symm.trans hx408_0)
                               rw [hv408_0] at ge408_0
                               have HL408_0 := Aside0.mk (show Kd.R (Kd.int .i64) 3 _ _ _ _ (rd_L1 t403 a6) from ge408_0)
                               clear hv408_0 ge408_0
                               clear hcc408 hce408
                               have HR408_0 := Aside0.mk hi408_0
                               have HC408_0 := Aside0.mk hl408_0
                               clear hi408_0 hl408_0
                               replace p408 := eq_true p408
                               replace q408 := eq_true q408
                               try go_wp2
                               replace HO_40 := Aside0.mk (Kd.R_drew HO_40.out)
                               replace HO_56 := Aside0.mk (Kd.S_drew HO_56.out)
                               replace HL408_0 := Aside0.mk (Kd.R_drew HL408_0.out)
                               replace BK350 := Aside0.mk (blk_drew BK350.out)
                               replace BK351 := Aside0.mk (blk_drew BK351.out)
                               replace BK352 := Aside0.mk (blk_drew BK352.out)
                               replace BK353 := Aside0.mk (blk_drew BK353.out)
                               replace BK354 := Aside0.mk (blk_drew BK354.out)
                               replace HR408_0 := Aside0.mk (Kd.C_drew HR408_0.out)
                               replace HB := Aside0.mk (below_drew1 HB.out)
                               have p421 : 0 ≤ ((ji279) : Int) := zd
                               have q421 : (ji279) < (t382.length : Int) := zd
                               obtain ⟨ad421, e421, hx421_0⟩ := Kd.at_int (Kd.R_reads' HO_40.out).2.2 (ji279) p421 q421
                               cases e421
                               replace p421 := eq_true p421
                               replace q421 := eq_true q421
                               have p422 : 0 ≤ (0 : Int) := (by omega)
                               have q422 : 0 < ((rd_L1 t403 a6).length : Int) := zd
                               obtain ⟨ad422, e422, hx422_0⟩ := Kd.at_int (zC HR408_0.out) 0 p422 q422
                               cases e422
                               have qi422 : (0 < (rd_L1 t403 a6).length) = True := eq_true (by omega)
                               (try rw [show ((0 : Int)).toNat = 0 from rfl] at hx422_0)
                               (try rw [Addr.add_zero'] at hx422_0)
                               replace p422 := eq_true p422
                               replace q422 := eq_true q422
                               have p423 : 0 ≤ (1 : Int) := (by omega)
                               have q423 : 1 < ((rd_L1 t403 a6).length : Int) := zd
                               obtain ⟨ad423, e423, hx423_0⟩ := Kd.at_int (zC HR408_0.out) 1 p423 q423
                               obtain rfl : ad422 = ad423 := (by injection e423)
                               (try simp only [show (1 : Int).toNat = 1 from rfl, Nat.reduceMul, Nat.reduceEqDiff, Go.Addr.add, ↓reduceIte] at hx423_0)
                               have qi423 : (1 < (rd_L1 t403 a6).length) = True := eq_true (by omega)
                               (try rw [show ((1 : Int)).toNat = 1 from rfl] at hx423_0)
                               replace p423 := eq_true p423
                               replace q423 := eq_true q423
                               refine start_ (n := 18) (S := fun w' => w'.cell? ⟨gb351, 0, none⟩ = some (.int .i64 a4_0) ∧ w'.cell? ⟨gb351, 1, none⟩ = some (.int .i64 a4_1) ∧ w'.cell? ⟨gb351, 2, none⟩ = some (.bool a4_2) ∧ w'.cell? ⟨gb351, 3, none⟩ = some (.bool a4_3) ∧ w'.cell? (ad421.add ((ji279)).toNat) = some (.int .i64 (rd t382 (ji279))) ∧ w'.cell? ad422 = some (.int .i64 (rd (rd_L1 t403 a6) 0)) ∧ w'.cell? ⟨ad422.block, ad422.off + 1, none⟩ = some (.int .i64 (rd (rd_L1 t403 a6) 1))) (ds := []) #[false, false, false, false, false, false, false, false, false, false, false, false, false, false, false, false, false, false] (by kernel_rfl) rfl rfl ⟨(blk_cell BK351.out 0).trans rfl, (blk_cell BK351.out 1).trans rfl, (blk_cell BK351.out 2).trans rfl, (blk_cell BK351.out 3).trans rfl, hx421_0, hx422_0, hx423_0⟩ (fun hHeld => ?_); refine with_tabW laws_FnOrbitsShareOfAll.tab45 laws_FnOrbitsShareOfAll.bits45 (fun HT_ HW_ => ?_)
                               generalize wr.drew = w294 at HO_40 HO_56 HL408_0 BK350 BK351 BK352 BK353 BK354 HR408_0 HB hx421_0 hx422_0 hx423_0 hHeld ⊢
                               refine pure_ (i := 1) (N := some 379) #[false, true, false, false, false, false, false, false, false, false, false, false, false, false, false, false, false, false] rfl rfl (any_of HT_.out (by kernel_rfl)) (fun _ _ _ h => h) (Or.inl ⟨by rfl, zv⟩) zs ?_
                               refine pure_ (i := 2) (N := some 380) #[false, true, true, false, false, false, false, false, false, false, false, false, false, false, false, false, false, false] rfl rfl (any_of HT_.out (by kernel_rfl)) (fun _ _ _ h => h) (Or.inl ⟨by rfl, zv⟩) zs ?_
                               refine pure_ (i := 3) (N := some 381) #[false, true, true, true, false, false, false, false, false, false, false, false, false, false, false, false, false, false] rfl rfl (any_of HT_.out (by kernel_rfl)) (fun _ _ _ h => h) (Or.inl ⟨by rfl, zv⟩) zs ?_
                               refine pure_ (i := 4) (N := some 382) #[false, true, true, true, true, false, false, false, false, false, false, false, false, false, false, false, false, false] rfl rfl (any_of HT_.out (by kernel_rfl)) (fun _ _ _ h => h) (Or.inl ⟨by rfl, zv⟩) zs ?_
                               refine pure_ (i := 6) (N := some 384) #[false, true, true, true, true, false, true, false, false, false, false, false, false, false, false, false, false, false] rfl rfl (any_of HT_.out (by kernel_rfl)) (fun _ _ _ h => h) (Or.inl ⟨by rfl, zv⟩) zs ?_
                               refine pure_ (i := 7) (N := some 385) #[false, true, true, true, true, false, true, true, false, false, false, false, false, false, false, false, false, false] rfl rfl (any_of HT_.out (by kernel_rfl)) (fun _ _ _ h => h) (Or.inl ⟨by rfl, zv⟩) zs ?_
                               refine pure_ (i := 9) (N := some 387) #[false, true, true, true, true, false, true, true, false, true, false, false, false, false, false, false, false, false] rfl rfl (any_of HT_.out (by kernel_rfl)) (fun _ _ _ h => h) (Or.inl ⟨by rfl, zv⟩) zs ?_
                               refine pure_ (i := 10) (N := some 388) #[false, true, true, true, true, false, true, true, false, true, true, false, false, false, false, false, false, false] rfl rfl (any_of HT_.out (by kernel_rfl)) (fun _ _ _ h => h) (Or.inl ⟨by rfl, zv⟩) zs ?_
                               refine take_ (i := 0) (N := some 378) #[true, true, true, true, true, false, true, true, false, true, true, false, false, false, false, false, false, false] rfl rfl (take_ofW HT_.out HW_.out (by kernel_rfl)) (fun _ _ _ h => h) (Or.inl ⟨by rfl, zu7⟩) hHeld zs ?_
                               refine take_ (i := 5) (N := some 383) #[true, true, true, true, true, true, true, true, false, true, true, false, false, false, false, false, false, false] rfl rfl (take_ofW HT_.out HW_.out (by kernel_rfl)) (fun _ _ _ h => h) (Or.inl ⟨by rfl, zu7⟩) hHeld zs ?_
                               refine take_ (i := 8) (N := some 386) #[true, true, true, true, true, true, true, true, true, true, true, false, false, false, false, false, false, false] rfl rfl (take_ofW HT_.out HW_.out (by kernel_rfl)) (fun _ _ _ h => h) (Or.inl ⟨by rfl, zu7⟩) hHeld zs ?_
                               refine take_ (i := 11) (N := some 389) #[true, true, true, true, true, true, true, true, true, true, true, true, false, false, false, false, false, false] rfl rfl (take_ofW HT_.out HW_.out (by kernel_rfl)) (fun _ _ _ h => h) (Or.inl ⟨by rfl, zu7⟩) hHeld zs ?_
                               refine one_ (i := 12) (N := some 390) #[true, true, true, true, true, true, true, true, true, true, true, true, true, false, false, false, false, false] rfl rfl (one_of HT_.out (by kernel_rfl)) (by decide) (fun K hK => ?_)
                               refine goes_ Try.func52 (by kernel_rfl) rfl #[.agg #[.int .i64 a4_0, .int .i64 a4_1, .bool a4_2, .bool a4_3], .int .i64 (rd t382 (ji279)), .int .i64 (rd (rd_L1 t403 a6) 0), .int .i64 (rd (rd_L1 t403 a6) 1)] (by rfl) rfl rfl (by (try simp only [List.map_toArray, List.map_cons, List.map_nil]); first | done | (simp only [hji279]; rfl) | rfl | (simp only [List.length_drop, List.length_take]; rfl)) ?_
                               with_reducible refine (impl_StepAround.calls a4_0 a4_1 a4_2 a4_3 (rd t382 (ji279)) (rd (rd_L1 t403 a6) 0) (rd (rd_L1 t403 a6) 1) t424 true _ A284.out).mono ?_
                               rintro e w295 ⟨rfl, hb⟩
                               have HS4_ := (hb.cell (World.block_lt_of_cell? _ _ (hHeld.2.2.2.2.1))).trans (hHeld.2.2.2.2.1)
                               have HS5_ := (hb.cell (World.block_lt_of_cell? _ _ (hHeld.2.2.2.2.2.1))).trans (hHeld.2.2.2.2.2.1)
                               have HS6_ := (hb.cell (World.block_lt_of_cell? _ _ (hHeld.2.2.2.2.2.2))).trans (hHeld.2.2.2.2.2.2)
                               refine ⟨_, rfl, ?_⟩
                               replace HO_40 := zRb HO_40 hb
                               replace HO_56 := Aside0.mk (Kd.S_below (zL HO_56.out) hb)
                               replace HL408_0 := zRb HL408_0 hb
                               replace BK350 := zKb BK350 hb
                               replace BK351 := zKb BK351 hb
                               replace BK352 := zKb BK352 hb
                               replace BK353 := zKb BK353 hb
                               replace BK354 := zKb BK354 hb
                               replace HR408_0 := Aside0.mk (Kd.C_below (zC HR408_0.out) hb)
                               replace HB := Aside0.mk (below_step (zB5 HB GE350 GE351 GE352 GE353 GE354) hb)
                               (try clear hb); (try clear hb2); (try clear hk); (try clear hi)
                               refine hK.out _ _ ⟨(blk_cell BK351.out 0).trans rfl, (blk_cell BK351.out 1).trans rfl, (blk_cell BK351.out 2).trans rfl, (blk_cell BK351.out 3).trans rfl, HS4_, HS5_, HS6_⟩ (fun hHeld => ?_)
                               clear hK K
                               refine norm_ (a' := ?_) ?_ ?_
                               rotate_left
                               ·show Act.put _ (some 390) _ = _
                                simp only [Act.put, List.setIfInBounds_toArray, List.set_cons_zero, List.set_cons_succ, i64_w, i32_w]
                                rfl
                               refine pure_ (i := 13) (N := some 377) #[true, true, true, true, true, true, true, true, true, true, true, true, true, true, false, false, false, false] rfl rfl (any_of HT_.out (by kernel_rfl)) (fun _ _ _ h => h) (Or.inl ⟨by rfl, zv⟩) zs ?_
                               refine pure_ (i := 14) (N := some 391) #[true, true, true, true, true, true, true, true, true, true, true, true, true, true, true, false, false, false] rfl rfl (any_of HT_.out (by kernel_rfl)) (fun _ _ _ h => h) (Or.inl ⟨by rfl, zv⟩) zs ?_
                               refine pure_ (i := 15) (N := some 392) #[true, true, true, true, true, true, true, true, true, true, true, true, true, true, true, true, false, false] rfl rfl (any_of HT_.out (by kernel_rfl)) (fun _ _ _ h => h) (Or.inl ⟨by rfl, zv⟩) zs ?_
                               refine pure_ (i := 16) (N := some 60) #[true, true, true, true, true, true, true, true, true, true, true, true, true, true, true, true, true, false] rfl rfl (any_of HT_.out (by kernel_rfl)) (fun _ _ _ h => h) (Or.inl ⟨by rfl, zv⟩) zs ?_
                               refine pure_ (i := 17) (N := some 61) #[true, true, true, true, true, true, true, true, true, true, true, true, true, true, true, true, true, true] rfl rfl (any_of HT_.out (by kernel_rfl)) (fun _ _ _ h => h) (Or.inl ⟨by rfl, zv⟩) zs ?_
                               refine done_ (done_of HT_.out (by kernel_rfl)) ?_
                               have p426 : 0 ≤ (x58_6 : Int) := zd
                               have q426 : x58_6 < (t382.length : Int) := zd
                               obtain ⟨ad426, e426, hx426_0⟩ := Kd.at_int (Kd.R_reads' HO_40.out).2.2 x58_6 p426 q426
                               obtain rfl : ad421 = ad426 := (by injection e426)
                               replace p426 := eq_true p426
                               replace q426 := eq_true q426
                               have q296 : (x58_6 : Int) ≤ ((t382.length : Int) : Int) := zd
                               obtain ⟨i0296, hi0296, _, hsz296, _⟩ := info_parts info3
                               have hroom296 : t382.length ≤ co292 := (Kd.R_reads' HO_40.out).2.1
                               have hC296 : Kd.C (Kd.int .i64) _ (some ad421) t382.length t382 := (Kd.R_reads' HO_40.out).2.2
                               have hcut296 := cut_to (P := Try.prog) 33 3 .i64 Try.underlying33 hi0296 (some ad421) t382.length co292 x58_6 (zd) q296 hroom296
                               have hr296 := Kd.C_take (m := (x58_6 : Int).toNat) hC296 (by omega)
                               have hy296 : y427.length = (x58_6 : Int).toNat := (by rw [Ny427.out, List.length_take]; omega)
                               rw [← Ny427.out] at hr296
                               rw [← hy296] at hcut296
                               have HR430 := Aside0.mk hr296
                               have HC430 := Aside0.mk (show y427.length ≤ co292 from by omega)
                               clear hr296 hC296 hroom296 hi0296 hsz296
                               have KY296 := Aside0.mk hy296
                               clear hy296
                               have KL296 := Aside0.mk (show (x58_6 : Int).toNat ≤ t382.length from by omega)
                               replace q296 := eq_true q296
                               try go_wp2_with (first | (go_at_call 53; (with_reducible refine (laws_nHas.calls k6 _ _ y427 t424 true _ ?side1 ?side2 A290.out).mono ?_); (case side1 => repeat (first | exact (zC HR430.out) | (with_reducible refine Kd.C_alloc ?_ _) | (with_reducible refine Kd.C_drewN ?_ _) | (with_reducible refine Kd.C_drew ?_))); (case side2 => exact HC430.out); rintro e w' ⟨rfl, ⟨nd, rfl⟩⟩))
                               go_ret
                               exact ⟨by first | rfl | (simp [errW_none, errW_some] <;> rfl) | (simp only [← hji279]; first | rfl | (simp [errW_none, errW_some] <;> rfl)) | (simp [*, errW_none, errW_some] <;> rfl), zB5 HB GE350 GE351 GE352 GE353 GE354⟩
                              ·replace c291 := Bool.eq_false_iff.mpr c291
                               subst c291
                               have H1 : (laws_FnOrbitsShareOfAll.l2 k6 a6 a7 a8 t382 t394 t395 t396 t397 t403 (wrap64 (x58_6 + 1)) a4_0 a4_1 a4_2 a4_3 a9_0 a9_1 a9_2 a9_3 a10_0 a10_1) = some r := by rw [if_neg (show ¬ (false = true) by decide)] at H; exact H
                               clear H
                               have H := H1
                               clear H1
                               have H' := Aside0.mk H
                               clear H
                               obtain ⟨Ao297, co297, eo297⟩ := Kd.R_slice HO_40.out
                               subst eo297
                               obtain ⟨Ao298, co298, eo298⟩ := Kd.S_slice HO_56.out
                               subst eo298
                               have p408 : 0 ≤ (a6 : Int) := zd
                               have q408 : a6 < (t403.length : Int) := zd
                               obtain ⟨ad408, A408_0, c408_0, e408, hx408_0, hl408_0, hi408_0⟩ := at_L1 (Kd.S_reads' HO_56.out).2.2 a6 p408 q408
                               cases e408
                               obtain ⟨ce408, hce408, hMe408, hcc408⟩ := Kd.S_get HO_56.out [] a6 p408 (by first | exact q408 | exact zd | (have e_ := (Kd.S_reads' HO_56.out).1; omega))
                               obtain ⟨ve408_0, rfl, ge408_0⟩ := hMe408
                               have hv408_0 := hcc408 0 _ rfl
                               rw [Nat.add_zero, show ((Kd.slice 3 (Kd.int .i64))).sz = 1 from rfl, Nat.mul_one] at hv408_0
                               replace hv408_0 := Option.some.inj (hv408_0.symm.trans hx408_0)
                               rw [hv408_0] at ge408_0
                               have HL408_0 := Aside0.mk (show Kd.R (Kd.int .i64) 3 _ _ _ _ (rd_L1 t403 a6) from ge408_0)
                               clear hv408_0 ge408_0
                               clear hcc408 hce408
                               have HR408_0 := Aside0.mk hi408_0
                               have HC408_0 := Aside0.mk hl408_0
                               clear hi408_0 hl408_0
                               replace p408 := eq_true p408
                               replace q408 := eq_true q408
                               try go_wp2
                               replace HO_40 := Aside0.mk (Kd.R_drew HO_40.out)
                               replace HO_56 := Aside0.mk (Kd.S_drew HO_56.out)
                               replace HL408_0 := Aside0.mk (Kd.R_drew HL408_0.out)
                               replace BK350 := Aside0.mk (blk_drew BK350.out)
                               replace BK351 := Aside0.mk (blk_drew BK351.out)
                               replace BK352 := Aside0.mk (blk_drew BK352.out)
                               replace BK353 := Aside0.mk (blk_drew BK353.out)
                               replace BK354 := Aside0.mk (blk_drew BK354.out)
                               replace HR408_0 := Aside0.mk (Kd.C_drew HR408_0.out)
                               replace HB := Aside0.mk (below_drew1 HB.out)
                               have p421 : 0 ≤ ((ji279) : Int) := zd
                               have q421 : (ji279) < (t382.length : Int) := zd
                               obtain ⟨ad421, e421, hx421_0⟩ := Kd.at_int (Kd.R_reads' HO_40.out).2.2 (ji279) p421 q421
                               cases e421
                               replace p421 := eq_true p421
                               replace q421 := eq_true q421
                               have p422 : 0 ≤ (0 : Int) := (by omega)
                               have q422 : 0 < ((rd_L1 t403 a6).length : Int) := zd
                               obtain ⟨ad422, e422, hx422_0⟩ := Kd.at_int (zC HR408_0.out) 0 p422 q422
                               cases e422
                               have qi422 : (0 < (rd_L1 t403 a6).length) = True := eq_true (by omega)
                               (try rw [show ((0 : Int)).toNat = 0 from rfl] at hx422_0)
                               (try rw [Addr.add_zero'] at hx422_0)
                               replace p422 := eq_true p422
                               replace q422 := eq_true q422
                               have p423 : 0 ≤ (1 : Int) := (by omega)
                               have q423 : 1 < ((rd_L1 t403 a6).length : Int) := zd
                               obtain ⟨ad423, e423, hx423_0⟩ := Kd.at_int (zC HR408_0.out) 1 p423 q423
                               obtain rfl : ad422 = ad423 := (by injection e423)
                               (try simp only [show (1 : Int).toNat = 1 from rfl, Nat.reduceMul, Nat.reduceEqDiff, Go.Addr.add, ↓reduceIte] at hx423_0)
                               have qi423 : (1 < (rd_L1 t403 a6).length) = True := eq_true (by omega)
                               (try rw [show ((1 : Int)).toNat = 1 from rfl] at hx423_0)
                               replace p423 := eq_true p423
                               replace q423 := eq_true q423
                               refine start_ (n := 18) (S := fun w' => w'.cell? ⟨gb351, 0, none⟩ = some (.int .i64 a4_0) ∧ w'.cell? ⟨gb351, 1, none⟩ = some (.int .i64 a4_1) ∧ w'.cell? ⟨gb351, 2, none⟩ = some (.bool a4_2) ∧ w'.cell? ⟨gb351, 3, none⟩ = some (.bool a4_3) ∧ w'.cell? (ad421.add ((ji279)).toNat) = some (.int .i64 (rd t382 (ji279))) ∧ w'.cell? ad422 = some (.int .i64 (rd (rd_L1 t403 a6) 0)) ∧ w'.cell? ⟨ad422.block, ad422.off + 1, none⟩ = some (.int .i64 (rd (rd_L1 t403 a6) 1))) (ds := []) #[false, false, false, false, false, false, false, false, false, false, false, false, false, false, false, false, false, false] (by kernel_rfl) rfl rfl ⟨(blk_cell BK351.out 0).trans rfl, (blk_cell BK351.out 1).trans rfl, (blk_cell BK351.out 2).trans rfl, (blk_cell BK351.out 3).trans rfl, hx421_0, hx422_0, hx423_0⟩ (fun hHeld => ?_); refine with_tabW laws_FnOrbitsShareOfAll.tab45 laws_FnOrbitsShareOfAll.bits45 (fun HT_ HW_ => ?_)
                               generalize wr.drew = w299 at HO_40 HO_56 HL408_0 BK350 BK351 BK352 BK353 BK354 HR408_0 HB hx421_0 hx422_0 hx423_0 hHeld ⊢
                               refine pure_ (i := 1) (N := some 379) #[false, true, false, false, false, false, false, false, false, false, false, false, false, false, false, false, false, false] rfl rfl (any_of HT_.out (by kernel_rfl)) (fun _ _ _ h => h) (Or.inl ⟨by rfl, zv⟩) zs ?_
                               refine pure_ (i := 2) (N := some 380) #[false, true, true, false, false, false, false, false, false, false, false, false, false, false, false, false, false, false] rfl rfl (any_of HT_.out (by kernel_rfl)) (fun _ _ _ h => h) (Or.inl ⟨by rfl, zv⟩) zs ?_
                               refine pure_ (i := 3) (N := some 381) #[false, true, true, true, false, false, false, false, false, false, false, false, false, false, false, false, false, false] rfl rfl (any_of HT_.out (by kernel_rfl)) (fun _ _ _ h => h) (Or.inl ⟨by rfl, zv⟩) zs ?_
                               refine pure_ (i := 4) (N := some 382) #[false, true, true, true, true, false, false, false, false, false, false, false, false, false, false, false, false, false] rfl rfl (any_of HT_.out (by kernel_rfl)) (fun _ _ _ h => h) (Or.inl ⟨by rfl, zv⟩) zs ?_
                               refine pure_ (i := 6) (N := some 384) #[false, true, true, true, true, false, true, false, false, false, false, false, false, false, false, false, false, false] rfl rfl (any_of HT_.out (by kernel_rfl)) (fun _ _ _ h => h) (Or.inl ⟨by rfl, zv⟩) zs ?_
                               refine pure_ (i := 7) (N := some 385) #[false, true, true, true, true, false, true, true, false, false, false, false, false, false, false, false, false, false] rfl rfl (any_of HT_.out (by kernel_rfl)) (fun _ _ _ h => h) (Or.inl ⟨by rfl, zv⟩) zs ?_
                               refine pure_ (i := 9) (N := some 387) #[false, true, true, true, true, false, true, true, false, true, false, false, false, false, false, false, false, false] rfl rfl (any_of HT_.out (by kernel_rfl)) (fun _ _ _ h => h) (Or.inl ⟨by rfl, zv⟩) zs ?_
                               refine pure_ (i := 10) (N := some 388) #[false, true, true, true, true, false, true, true, false, true, true, false, false, false, false, false, false, false] rfl rfl (any_of HT_.out (by kernel_rfl)) (fun _ _ _ h => h) (Or.inl ⟨by rfl, zv⟩) zs ?_
                               refine take_ (i := 0) (N := some 378) #[true, true, true, true, true, false, true, true, false, true, true, false, false, false, false, false, false, false] rfl rfl (take_ofW HT_.out HW_.out (by kernel_rfl)) (fun _ _ _ h => h) (Or.inl ⟨by rfl, zu7⟩) hHeld zs ?_
                               refine take_ (i := 5) (N := some 383) #[true, true, true, true, true, true, true, true, false, true, true, false, false, false, false, false, false, false] rfl rfl (take_ofW HT_.out HW_.out (by kernel_rfl)) (fun _ _ _ h => h) (Or.inl ⟨by rfl, zu7⟩) hHeld zs ?_
                               refine take_ (i := 8) (N := some 386) #[true, true, true, true, true, true, true, true, true, true, true, false, false, false, false, false, false, false] rfl rfl (take_ofW HT_.out HW_.out (by kernel_rfl)) (fun _ _ _ h => h) (Or.inl ⟨by rfl, zu7⟩) hHeld zs ?_
                               refine take_ (i := 11) (N := some 389) #[true, true, true, true, true, true, true, true, true, true, true, true, false, false, false, false, false, false] rfl rfl (take_ofW HT_.out HW_.out (by kernel_rfl)) (fun _ _ _ h => h) (Or.inl ⟨by rfl, zu7⟩) hHeld zs ?_
                               refine one_ (i := 12) (N := some 390) #[true, true, true, true, true, true, true, true, true, true, true, true, true, false, false, false, false, false] rfl rfl (one_of HT_.out (by kernel_rfl)) (by decide) (fun K hK => ?_)
                               refine goes_ Try.func52 (by kernel_rfl) rfl #[.agg #[.int .i64 a4_0, .int .i64 a4_1, .bool a4_2, .bool a4_3], .int .i64 (rd t382 (ji279)), .int .i64 (rd (rd_L1 t403 a6) 0), .int .i64 (rd (rd_L1 t403 a6) 1)] (by rfl) rfl rfl (by (try simp only [List.map_toArray, List.map_cons, List.map_nil]); first | done | (simp only [hji279]; rfl) | rfl | (simp only [List.length_drop, List.length_take]; rfl)) ?_
                               with_reducible refine (impl_StepAround.calls a4_0 a4_1 a4_2 a4_3 (rd t382 (ji279)) (rd (rd_L1 t403 a6) 0) (rd (rd_L1 t403 a6) 1) t424 true _ A284.out).mono ?_
                               rintro e w300 ⟨rfl, hb⟩
                               have HS4_ := (hb.cell (World.block_lt_of_cell? _ _ (hHeld.2.2.2.2.1))).trans (hHeld.2.2.2.2.1)
                               have HS5_ := (hb.cell (World.block_lt_of_cell? _ _ (hHeld.2.2.2.2.2.1))).trans (hHeld.2.2.2.2.2.1)
                               have HS6_ := (hb.cell (World.block_lt_of_cell? _ _ (hHeld.2.2.2.2.2.2))).trans (hHeld.2.2.2.2.2.2)
                               refine ⟨_, rfl, ?_⟩
                               replace HO_40 := zRb HO_40 hb
                               replace HO_56 := Aside0.mk (Kd.S_below (zL HO_56.out) hb)
                               replace HL408_0 := zRb HL408_0 hb
                               replace BK350 := zKb BK350 hb
                               replace BK351 := zKb BK351 hb
                               replace BK352 := zKb BK352 hb
                               replace BK353 := zKb BK353 hb
                               replace BK354 := zKb BK354 hb
                               replace HR408_0 := Aside0.mk (Kd.C_below (zC HR408_0.out) hb)
                               replace HB := Aside0.mk (below_step (zB5 HB GE350 GE351 GE352 GE353 GE354) hb)
                               (try clear hb); (try clear hb2); (try clear hk); (try clear hi)
                               refine hK.out _ _ ⟨(blk_cell BK351.out 0).trans rfl, (blk_cell BK351.out 1).trans rfl, (blk_cell BK351.out 2).trans rfl, (blk_cell BK351.out 3).trans rfl, HS4_, HS5_, HS6_⟩ (fun hHeld => ?_)
                               clear hK K
                               refine norm_ (a' := ?_) ?_ ?_
                               rotate_left
                               ·show Act.put _ (some 390) _ = _
                                simp only [Act.put, List.setIfInBounds_toArray, List.set_cons_zero, List.set_cons_succ, i64_w, i32_w]
                                rfl
                               refine pure_ (i := 13) (N := some 377) #[true, true, true, true, true, true, true, true, true, true, true, true, true, true, false, false, false, false] rfl rfl (any_of HT_.out (by kernel_rfl)) (fun _ _ _ h => h) (Or.inl ⟨by rfl, zv⟩) zs ?_
                               refine pure_ (i := 14) (N := some 391) #[true, true, true, true, true, true, true, true, true, true, true, true, true, true, true, false, false, false] rfl rfl (any_of HT_.out (by kernel_rfl)) (fun _ _ _ h => h) (Or.inl ⟨by rfl, zv⟩) zs ?_
                               refine pure_ (i := 15) (N := some 392) #[true, true, true, true, true, true, true, true, true, true, true, true, true, true, true, true, false, false] rfl rfl (any_of HT_.out (by kernel_rfl)) (fun _ _ _ h => h) (Or.inl ⟨by rfl, zv⟩) zs ?_
                               refine pure_ (i := 16) (N := some 60) #[true, true, true, true, true, true, true, true, true, true, true, true, true, true, true, true, true, false] rfl rfl (any_of HT_.out (by kernel_rfl)) (fun _ _ _ h => h) (Or.inl ⟨by rfl, zv⟩) zs ?_
                               refine pure_ (i := 17) (N := some 61) #[true, true, true, true, true, true, true, true, true, true, true, true, true, true, true, true, true, true] rfl rfl (any_of HT_.out (by kernel_rfl)) (fun _ _ _ h => h) (Or.inl ⟨by rfl, zv⟩) zs ?_
                               refine done_ (done_of HT_.out (by kernel_rfl)) ?_
                               have p426 : 0 ≤ (x58_6 : Int) := zd
                               have q426 : x58_6 < (t382.length : Int) := zd
                               obtain ⟨ad426, e426, hx426_0⟩ := Kd.at_int (Kd.R_reads' HO_40.out).2.2 x58_6 p426 q426
                               obtain rfl : ad421 = ad426 := (by injection e426)
                               replace p426 := eq_true p426
                               replace q426 := eq_true q426
                               have q301 : (x58_6 : Int) ≤ ((t382.length : Int) : Int) := zd
                               obtain ⟨i0301, hi0301, _, hsz301, _⟩ := info_parts info3
                               have hroom301 : t382.length ≤ co297 := (Kd.R_reads' HO_40.out).2.1
                               have hC301 : Kd.C (Kd.int .i64) _ (some ad421) t382.length t382 := (Kd.R_reads' HO_40.out).2.2
                               have hcut301 := cut_to (P := Try.prog) 33 3 .i64 Try.underlying33 hi0301 (some ad421) t382.length co297 x58_6 (zd) q301 hroom301
                               have hr301 := Kd.C_take (m := (x58_6 : Int).toNat) hC301 (by omega)
                               have hy301 : y427.length = (x58_6 : Int).toNat := (by rw [Ny427.out, List.length_take]; omega)
                               rw [← Ny427.out] at hr301
                               rw [← hy301] at hcut301
                               have HR430 := Aside0.mk hr301
                               have HC430 := Aside0.mk (show y427.length ≤ co297 from by omega)
                               clear hr301 hC301 hroom301 hi0301 hsz301
                               have KY301 := Aside0.mk hy301
                               clear hy301
                               have KL301 := Aside0.mk (show (x58_6 : Int).toNat ≤ t382.length from by omega)
                               replace q301 := eq_true q301
                               try go_wp2_with (first | (go_at_call 53; (with_reducible refine (laws_nHas.calls k6 _ _ y427 t424 false _ ?side1 ?side2 A290.out).mono ?_); (case side1 => repeat (first | exact (zC HR430.out) | (with_reducible refine Kd.C_alloc ?_ _) | (with_reducible refine Kd.C_drewN ?_ _) | (with_reducible refine Kd.C_drew ?_))); (case side2 => exact HC430.out); rintro e w' ⟨rfl, ⟨nd, rfl⟩⟩))
                               go_roundg k6
                               case measure => have := HJ17.out; have := HJ65.out; have := HJ110.out; have := HJ165.out; have := HJ222.out; have := HK6.out; omega
                               case rel => exact ⟨(wrap64 (x58_6 + 1)), ze, H', ⟨by have := HJ17.out; have := HJ65.out; have := HJ110.out; have := HJ165.out; have := HJ222.out; have := HK6.out; omega⟩, ⟨zR HO_40.out⟩, ⟨zL HO_56.out⟩, ⟨zK BK350⟩, ⟨zK BK351⟩, ⟨zK BK352⟩, ⟨zK BK353⟩, ⟨zK BK354⟩, ⟨zB5 HB GE350 GE351 GE352 GE353 GE354⟩⟩
                             ·rw [if_neg c289] at H
                              exact absurd H (by simp)
                            ·as_aux_lemma =>
                             rw [if_neg c287] at H
                             have c287b0 : (t424 == (rd t382 x58_6)) = false := beq_eq_false_iff_ne.mpr c287
                             have c287b1 : (t424 != (rd t382 x58_6)) = true := bne_iff_ne.mpr c287
                             obtain rfl := Option.some.inj H
                             obtain ⟨Ao302, co302, eo302⟩ := Kd.R_slice HO_40.out
                             subst eo302
                             obtain ⟨Ao303, co303, eo303⟩ := Kd.S_slice HO_56.out
                             subst eo303
                             have p408 : 0 ≤ (a6 : Int) := zd
                             have q408 : a6 < (t403.length : Int) := zd
                             obtain ⟨ad408, A408_0, c408_0, e408, hx408_0, hl408_0, hi408_0⟩ := at_L1 (Kd.S_reads' HO_56.out).2.2 a6 p408 q408
                             cases e408
                             obtain ⟨ce408, hce408, hMe408, hcc408⟩ := Kd.S_get HO_56.out [] a6 p408 (by first | exact q408 | exact zd | (have e_ := (Kd.S_reads' HO_56.out).1; omega))
                             obtain ⟨ve408_0, rfl, ge408_0⟩ := hMe408
                             have hv408_0 := hcc408 0 _ rfl
                             rw [Nat.add_zero, show ((Kd.slice 3 (Kd.int .i64))).sz = 1 from rfl, Nat.mul_one] at hv408_0
                             replace hv408_0 := Option.some.inj (hv408_0.symm.trans hx408_0)
                             rw [hv408_0] at ge408_0
                             have HL408_0 := Aside0.mk (show Kd.R (Kd.int .i64) 3 _ _ _ _ (rd_L1 t403 a6) from ge408_0)
                             clear hv408_0 ge408_0
                             clear hcc408 hce408
                             have HR408_0 := Aside0.mk hi408_0
                             have HC408_0 := Aside0.mk hl408_0
                             clear hi408_0 hl408_0
                             replace p408 := eq_true p408
                             replace q408 := eq_true q408
                             try go_wp2
                             replace HO_40 := Aside0.mk (Kd.R_drew HO_40.out)
                             replace HO_56 := Aside0.mk (Kd.S_drew HO_56.out)
                             replace HL408_0 := Aside0.mk (Kd.R_drew HL408_0.out)
                             replace BK350 := Aside0.mk (blk_drew BK350.out)
                             replace BK351 := Aside0.mk (blk_drew BK351.out)
                             replace BK352 := Aside0.mk (blk_drew BK352.out)
                             replace BK353 := Aside0.mk (blk_drew BK353.out)
                             replace BK354 := Aside0.mk (blk_drew BK354.out)
                             replace HR408_0 := Aside0.mk (Kd.C_drew HR408_0.out)
                             replace HB := Aside0.mk (below_drew1 HB.out)
                             have p421 : 0 ≤ ((ji279) : Int) := zd
                             have q421 : (ji279) < (t382.length : Int) := zd
                             obtain ⟨ad421, e421, hx421_0⟩ := Kd.at_int (Kd.R_reads' HO_40.out).2.2 (ji279) p421 q421
                             cases e421
                             replace p421 := eq_true p421
                             replace q421 := eq_true q421
                             have p422 : 0 ≤ (0 : Int) := (by omega)
                             have q422 : 0 < ((rd_L1 t403 a6).length : Int) := zd
                             obtain ⟨ad422, e422, hx422_0⟩ := Kd.at_int (zC HR408_0.out) 0 p422 q422
                             cases e422
                             have qi422 : (0 < (rd_L1 t403 a6).length) = True := eq_true (by omega)
                             (try rw [show ((0 : Int)).toNat = 0 from rfl] at hx422_0)
                             (try rw [Addr.add_zero'] at hx422_0)
                             replace p422 := eq_true p422
                             replace q422 := eq_true q422
                             have p423 : 0 ≤ (1 : Int) := (by omega)
                             have q423 : 1 < ((rd_L1 t403 a6).length : Int) := zd
                             obtain ⟨ad423, e423, hx423_0⟩ := Kd.at_int (zC HR408_0.out) 1 p423 q423
                             obtain rfl : ad422 = ad423 := (by injection e423)
                             (try simp only [show (1 : Int).toNat = 1 from rfl, Nat.reduceMul, Nat.reduceEqDiff, Go.Addr.add, ↓reduceIte] at hx423_0)
                             have qi423 : (1 < (rd_L1 t403 a6).length) = True := eq_true (by omega)
                             (try rw [show ((1 : Int)).toNat = 1 from rfl] at hx423_0)
                             replace p423 := eq_true p423
                             replace q423 := eq_true q423
                             refine start_ (n := 18) (S := fun w' => w'.cell? ⟨gb351, 0, none⟩ = some (.int .i64 a4_0) ∧ w'.cell? ⟨gb351, 1, none⟩ = some (.int .i64 a4_1) ∧ w'.cell? ⟨gb351, 2, none⟩ = some (.bool a4_2) ∧ w'.cell? ⟨gb351, 3, none⟩ = some (.bool a4_3) ∧ w'.cell? (ad421.add ((ji279)).toNat) = some (.int .i64 (rd t382 (ji279))) ∧ w'.cell? ad422 = some (.int .i64 (rd (rd_L1 t403 a6) 0)) ∧ w'.cell? ⟨ad422.block, ad422.off + 1, none⟩ = some (.int .i64 (rd (rd_L1 t403 a6) 1))) (ds := []) #[false, false, false, false, false, false, false, false, false, false, false, false, false, false, false, false, false, false] (by kernel_rfl) rfl rfl ⟨(blk_cell BK351.out 0).trans rfl, (blk_cell BK351.out 1).trans rfl, (blk_cell BK351.out 2).trans rfl, (blk_cell BK351.out 3).trans rfl, hx421_0, hx422_0, hx423_0⟩ (fun hHeld => ?_); refine with_tabW laws_FnOrbitsShareOfAll.tab45 laws_FnOrbitsShareOfAll.bits45 (fun HT_ HW_ => ?_)
                             generalize wr.drew = w304 at HO_40 HO_56 HL408_0 BK350 BK351 BK352 BK353 BK354 HR408_0 HB hx421_0 hx422_0 hx423_0 hHeld ⊢
                             refine pure_ (i := 1) (N := some 379) #[false, true, false, false, false, false, false, false, false, false, false, false, false, false, false, false, false, false] rfl rfl (any_of HT_.out (by kernel_rfl)) (fun _ _ _ h => h) (Or.inl ⟨by rfl, zv⟩) zs ?_
                             refine pure_ (i := 2) (N := some 380) #[false, true, true, false, false, false, false, false, false, false, false, false, false, false, false, false, false, false] rfl rfl (any_of HT_.out (by kernel_rfl)) (fun _ _ _ h => h) (Or.inl ⟨by rfl, zv⟩) zs ?_
                             refine pure_ (i := 3) (N := some 381) #[false, true, true, true, false, false, false, false, false, false, false, false, false, false, false, false, false, false] rfl rfl (any_of HT_.out (by kernel_rfl)) (fun _ _ _ h => h) (Or.inl ⟨by rfl, zv⟩) zs ?_
                             refine pure_ (i := 4) (N := some 382) #[false, true, true, true, true, false, false, false, false, false, false, false, false, false, false, false, false, false] rfl rfl (any_of HT_.out (by kernel_rfl)) (fun _ _ _ h => h) (Or.inl ⟨by rfl, zv⟩) zs ?_
                             refine pure_ (i := 6) (N := some 384) #[false, true, true, true, true, false, true, false, false, false, false, false, false, false, false, false, false, false] rfl rfl (any_of HT_.out (by kernel_rfl)) (fun _ _ _ h => h) (Or.inl ⟨by rfl, zv⟩) zs ?_
                             refine pure_ (i := 7) (N := some 385) #[false, true, true, true, true, false, true, true, false, false, false, false, false, false, false, false, false, false] rfl rfl (any_of HT_.out (by kernel_rfl)) (fun _ _ _ h => h) (Or.inl ⟨by rfl, zv⟩) zs ?_
                             refine pure_ (i := 9) (N := some 387) #[false, true, true, true, true, false, true, true, false, true, false, false, false, false, false, false, false, false] rfl rfl (any_of HT_.out (by kernel_rfl)) (fun _ _ _ h => h) (Or.inl ⟨by rfl, zv⟩) zs ?_
                             refine pure_ (i := 10) (N := some 388) #[false, true, true, true, true, false, true, true, false, true, true, false, false, false, false, false, false, false] rfl rfl (any_of HT_.out (by kernel_rfl)) (fun _ _ _ h => h) (Or.inl ⟨by rfl, zv⟩) zs ?_
                             refine take_ (i := 0) (N := some 378) #[true, true, true, true, true, false, true, true, false, true, true, false, false, false, false, false, false, false] rfl rfl (take_ofW HT_.out HW_.out (by kernel_rfl)) (fun _ _ _ h => h) (Or.inl ⟨by rfl, zu7⟩) hHeld zs ?_
                             refine take_ (i := 5) (N := some 383) #[true, true, true, true, true, true, true, true, false, true, true, false, false, false, false, false, false, false] rfl rfl (take_ofW HT_.out HW_.out (by kernel_rfl)) (fun _ _ _ h => h) (Or.inl ⟨by rfl, zu7⟩) hHeld zs ?_
                             refine take_ (i := 8) (N := some 386) #[true, true, true, true, true, true, true, true, true, true, true, false, false, false, false, false, false, false] rfl rfl (take_ofW HT_.out HW_.out (by kernel_rfl)) (fun _ _ _ h => h) (Or.inl ⟨by rfl, zu7⟩) hHeld zs ?_
                             refine take_ (i := 11) (N := some 389) #[true, true, true, true, true, true, true, true, true, true, true, true, false, false, false, false, false, false] rfl rfl (take_ofW HT_.out HW_.out (by kernel_rfl)) (fun _ _ _ h => h) (Or.inl ⟨by rfl, zu7⟩) hHeld zs ?_
                             refine one_ (i := 12) (N := some 390) #[true, true, true, true, true, true, true, true, true, true, true, true, true, false, false, false, false, false] rfl rfl (one_of HT_.out (by kernel_rfl)) (by decide) (fun K hK => ?_)
                             refine goes_ Try.func52 (by kernel_rfl) rfl #[.agg #[.int .i64 a4_0, .int .i64 a4_1, .bool a4_2, .bool a4_3], .int .i64 (rd t382 (ji279)), .int .i64 (rd (rd_L1 t403 a6) 0), .int .i64 (rd (rd_L1 t403 a6) 1)] (by rfl) rfl rfl (by (try simp only [List.map_toArray, List.map_cons, List.map_nil]); first | done | (simp only [hji279]; rfl) | rfl | (simp only [List.length_drop, List.length_take]; rfl)) ?_
                             with_reducible refine (impl_StepAround.calls a4_0 a4_1 a4_2 a4_3 (rd t382 (ji279)) (rd (rd_L1 t403 a6) 0) (rd (rd_L1 t403 a6) 1) t424 true _ A284.out).mono ?_
                             rintro e w305 ⟨rfl, hb⟩
                             have HS4_ := (hb.cell (World.block_lt_of_cell? _ _ (hHeld.2.2.2.2.1))).trans (hHeld.2.2.2.2.1)
                             have HS5_ := (hb.cell (World.block_lt_of_cell? _ _ (hHeld.2.2.2.2.2.1))).trans (hHeld.2.2.2.2.2.1)
                             have HS6_ := (hb.cell (World.block_lt_of_cell? _ _ (hHeld.2.2.2.2.2.2))).trans (hHeld.2.2.2.2.2.2)
                             refine ⟨_, rfl, ?_⟩
                             replace HO_40 := zRb HO_40 hb
                             replace HO_56 := Aside0.mk (Kd.S_below (zL HO_56.out) hb)
                             replace HL408_0 := zRb HL408_0 hb
                             replace BK350 := zKb BK350 hb
                             replace BK351 := zKb BK351 hb
                             replace BK352 := zKb BK352 hb
                             replace BK353 := zKb BK353 hb
                             replace BK354 := zKb BK354 hb
                             replace HR408_0 := Aside0.mk (Kd.C_below (zC HR408_0.out) hb)
                             replace HB := Aside0.mk (below_step (zB5 HB GE350 GE351 GE352 GE353 GE354) hb)
                             (try clear hb); (try clear hb2); (try clear hk); (try clear hi)
                             refine hK.out _ _ ⟨(blk_cell BK351.out 0).trans rfl, (blk_cell BK351.out 1).trans rfl, (blk_cell BK351.out 2).trans rfl, (blk_cell BK351.out 3).trans rfl, HS4_, HS5_, HS6_⟩ (fun hHeld => ?_)
                             clear hK K
                             refine norm_ (a' := ?_) ?_ ?_
                             rotate_left
                             ·show Act.put _ (some 390) _ = _
                              simp only [Act.put, List.setIfInBounds_toArray, List.set_cons_zero, List.set_cons_succ, i64_w, i32_w]
                              rfl
                             refine pure_ (i := 13) (N := some 377) #[true, true, true, true, true, true, true, true, true, true, true, true, true, true, false, false, false, false] rfl rfl (any_of HT_.out (by kernel_rfl)) (fun _ _ _ h => h) (Or.inl ⟨by rfl, zv⟩) zs ?_
                             refine pure_ (i := 14) (N := some 391) #[true, true, true, true, true, true, true, true, true, true, true, true, true, true, true, false, false, false] rfl rfl (any_of HT_.out (by kernel_rfl)) (fun _ _ _ h => h) (Or.inl ⟨by rfl, zv⟩) zs ?_
                             refine pure_ (i := 15) (N := some 392) #[true, true, true, true, true, true, true, true, true, true, true, true, true, true, true, true, false, false] rfl rfl (any_of HT_.out (by kernel_rfl)) (fun _ _ _ h => h) (Or.inl ⟨by rfl, zv⟩) zs ?_
                             refine pure_ (i := 16) (N := some 60) #[true, true, true, true, true, true, true, true, true, true, true, true, true, true, true, true, true, false] rfl rfl (any_of HT_.out (by kernel_rfl)) (fun _ _ _ h => h) (Or.inl ⟨by rfl, zv⟩) zs ?_
                             refine pure_ (i := 17) (N := some 61) #[true, true, true, true, true, true, true, true, true, true, true, true, true, true, true, true, true, true] rfl rfl (any_of HT_.out (by kernel_rfl)) (fun _ _ _ h => h) (Or.inl ⟨by rfl, zv⟩) zs ?_
                             refine done_ (done_of HT_.out (by kernel_rfl)) ?_
                             have p426 : 0 ≤ (x58_6 : Int) := zd
                             have q426 : x58_6 < (t382.length : Int) := zd
                             obtain ⟨ad426, e426, hx426_0⟩ := Kd.at_int (Kd.R_reads' HO_40.out).2.2 x58_6 p426 q426
                             obtain rfl : ad421 = ad426 := (by injection e426)
                             replace p426 := eq_true p426
                             replace q426 := eq_true q426
                             try go_wp2
                             go_ret
                             exact ⟨by first | rfl | (simp [errW_none, errW_some] <;> rfl) | (simp only [← hji279]; first | rfl | (simp [errW_none, errW_some] <;> rfl)) | (simp [*, errW_none, errW_some] <;> rfl), zB5 HB GE350 GE351 GE352 GE353 GE354⟩
                           ·rw [if_neg c286] at H
                            exact absurd H (by simp)
                          ·replace c285 := Bool.eq_false_iff.mpr c285
                           subst c285
                           have H1 : (some false) = some r := by rw [if_neg (show ¬ (false = true) by decide)] at H; exact H
                           clear H
                           have H := H1
                           clear H1
                           obtain rfl := Option.some.inj H
                           obtain ⟨Ao306, co306, eo306⟩ := Kd.R_slice HO_40.out
                           subst eo306
                           obtain ⟨Ao307, co307, eo307⟩ := Kd.S_slice HO_56.out
                           subst eo307
                           have p408 : 0 ≤ (a6 : Int) := zd
                           have q408 : a6 < (t403.length : Int) := zd
                           obtain ⟨ad408, A408_0, c408_0, e408, hx408_0, hl408_0, hi408_0⟩ := at_L1 (Kd.S_reads' HO_56.out).2.2 a6 p408 q408
                           cases e408
                           obtain ⟨ce408, hce408, hMe408, hcc408⟩ := Kd.S_get HO_56.out [] a6 p408 (by first | exact q408 | exact zd | (have e_ := (Kd.S_reads' HO_56.out).1; omega))
                           obtain ⟨ve408_0, rfl, ge408_0⟩ := hMe408
                           have hv408_0 := hcc408 0 _ rfl
                           rw [Nat.add_zero, show ((Kd.slice 3 (Kd.int .i64))).sz = 1 from rfl, Nat.mul_one] at hv408_0
                           replace hv408_0 := Option.some.inj (hv408_0.symm.trans hx408_0)
                           rw [hv408_0] at ge408_0
                           have HL408_0 := Aside0.mk (show Kd.R (Kd.int .i64) 3 _ _ _ _ (rd_L1 t403 a6) from ge408_0)
                           clear hv408_0 ge408_0
                           clear hcc408 hce408
                           have HR408_0 := Aside0.mk hi408_0
                           have HC408_0 := Aside0.mk hl408_0
                           clear hi408_0 hl408_0
                           replace p408 := eq_true p408
                           replace q408 := eq_true q408
                           try go_wp2
                           replace HO_40 := Aside0.mk (Kd.R_drew HO_40.out)
                           replace HO_56 := Aside0.mk (Kd.S_drew HO_56.out)
                           replace HL408_0 := Aside0.mk (Kd.R_drew HL408_0.out)
                           replace BK350 := Aside0.mk (blk_drew BK350.out)
                           replace BK351 := Aside0.mk (blk_drew BK351.out)
                           replace BK352 := Aside0.mk (blk_drew BK352.out)
                           replace BK353 := Aside0.mk (blk_drew BK353.out)
                           replace BK354 := Aside0.mk (blk_drew BK354.out)
                           replace HR408_0 := Aside0.mk (Kd.C_drew HR408_0.out)
                           replace HB := Aside0.mk (below_drew1 HB.out)
                           have p421 : 0 ≤ ((ji279) : Int) := zd
                           have q421 : (ji279) < (t382.length : Int) := zd
                           obtain ⟨ad421, e421, hx421_0⟩ := Kd.at_int (Kd.R_reads' HO_40.out).2.2 (ji279) p421 q421
                           cases e421
                           replace p421 := eq_true p421
                           replace q421 := eq_true q421
                           have p422 : 0 ≤ (0 : Int) := (by omega)
                           have q422 : 0 < ((rd_L1 t403 a6).length : Int) := zd
                           obtain ⟨ad422, e422, hx422_0⟩ := Kd.at_int (zC HR408_0.out) 0 p422 q422
                           cases e422
                           have qi422 : (0 < (rd_L1 t403 a6).length) = True := eq_true (by omega)
                           (try rw [show ((0 : Int)).toNat = 0 from rfl] at hx422_0)
                           (try rw [Addr.add_zero'] at hx422_0)
                           replace p422 := eq_true p422
                           replace q422 := eq_true q422
                           have p423 : 0 ≤ (1 : Int) := (by omega)
                           have q423 : 1 < ((rd_L1 t403 a6).length : Int) := zd
                           obtain ⟨ad423, e423, hx423_0⟩ := Kd.at_int (zC HR408_0.out) 1 p423 q423
                           obtain rfl : ad422 = ad423 := (by injection e423)
                           (try simp only [show (1 : Int).toNat = 1 from rfl, Nat.reduceMul, Nat.reduceEqDiff, Go.Addr.add, ↓reduceIte] at hx423_0)
                           have qi423 : (1 < (rd_L1 t403 a6).length) = True := eq_true (by omega)
                           (try rw [show ((1 : Int)).toNat = 1 from rfl] at hx423_0)
                           replace p423 := eq_true p423
                           replace q423 := eq_true q423
                           refine start_ (n := 18) (S := fun w' => w'.cell? ⟨gb351, 0, none⟩ = some (.int .i64 a4_0) ∧ w'.cell? ⟨gb351, 1, none⟩ = some (.int .i64 a4_1) ∧ w'.cell? ⟨gb351, 2, none⟩ = some (.bool a4_2) ∧ w'.cell? ⟨gb351, 3, none⟩ = some (.bool a4_3) ∧ w'.cell? (ad421.add ((ji279)).toNat) = some (.int .i64 (rd t382 (ji279))) ∧ w'.cell? ad422 = some (.int .i64 (rd (rd_L1 t403 a6) 0)) ∧ w'.cell? ⟨ad422.block, ad422.off + 1, none⟩ = some (.int .i64 (rd (rd_L1 t403 a6) 1))) (ds := []) #[false, false, false, false, false, false, false, false, false, false, false, false, false, false, false, false, false, false] (by kernel_rfl) rfl rfl ⟨(blk_cell BK351.out 0).trans rfl, (blk_cell BK351.out 1).trans rfl, (blk_cell BK351.out 2).trans rfl, (blk_cell BK351.out 3).trans rfl, hx421_0, hx422_0, hx423_0⟩ (fun hHeld => ?_); refine with_tabW laws_FnOrbitsShareOfAll.tab45 laws_FnOrbitsShareOfAll.bits45 (fun HT_ HW_ => ?_)
                           generalize wr.drew = w308 at HO_40 HO_56 HL408_0 BK350 BK351 BK352 BK353 BK354 HR408_0 HB hx421_0 hx422_0 hx423_0 hHeld ⊢
                           refine pure_ (i := 1) (N := some 379) #[false, true, false, false, false, false, false, false, false, false, false, false, false, false, false, false, false, false] rfl rfl (any_of HT_.out (by kernel_rfl)) (fun _ _ _ h => h) (Or.inl ⟨by rfl, zv⟩) zs ?_
                           refine pure_ (i := 2) (N := some 380) #[false, true, true, false, false, false, false, false, false, false, false, false, false, false, false, false, false, false] rfl rfl (any_of HT_.out (by kernel_rfl)) (fun _ _ _ h => h) (Or.inl ⟨by rfl, zv⟩) zs ?_
                           refine pure_ (i := 3) (N := some 381) #[false, true, true, true, false, false, false, false, false, false, false, false, false, false, false, false, false, false] rfl rfl (any_of HT_.out (by kernel_rfl)) (fun _ _ _ h => h) (Or.inl ⟨by rfl, zv⟩) zs ?_
                           refine pure_ (i := 4) (N := some 382) #[false, true, true, true, true, false, false, false, false, false, false, false, false, false, false, false, false, false] rfl rfl (any_of HT_.out (by kernel_rfl)) (fun _ _ _ h => h) (Or.inl ⟨by rfl, zv⟩) zs ?_
                           refine pure_ (i := 6) (N := some 384) #[false, true, true, true, true, false, true, false, false, false, false, false, false, false, false, false, false, false] rfl rfl (any_of HT_.out (by kernel_rfl)) (fun _ _ _ h => h) (Or.inl ⟨by rfl, zv⟩) zs ?_
                           refine pure_ (i := 7) (N := some 385) #[false, true, true, true, true, false, true, true, false, false, false, false, false, false, false, false, false, false] rfl rfl (any_of HT_.out (by kernel_rfl)) (fun _ _ _ h => h) (Or.inl ⟨by rfl, zv⟩) zs ?_
                           refine pure_ (i := 9) (N := some 387) #[false, true, true, true, true, false, true, true, false, true, false, false, false, false, false, false, false, false] rfl rfl (any_of HT_.out (by kernel_rfl)) (fun _ _ _ h => h) (Or.inl ⟨by rfl, zv⟩) zs ?_
                           refine pure_ (i := 10) (N := some 388) #[false, true, true, true, true, false, true, true, false, true, true, false, false, false, false, false, false, false] rfl rfl (any_of HT_.out (by kernel_rfl)) (fun _ _ _ h => h) (Or.inl ⟨by rfl, zv⟩) zs ?_
                           refine take_ (i := 0) (N := some 378) #[true, true, true, true, true, false, true, true, false, true, true, false, false, false, false, false, false, false] rfl rfl (take_ofW HT_.out HW_.out (by kernel_rfl)) (fun _ _ _ h => h) (Or.inl ⟨by rfl, zu7⟩) hHeld zs ?_
                           refine take_ (i := 5) (N := some 383) #[true, true, true, true, true, true, true, true, false, true, true, false, false, false, false, false, false, false] rfl rfl (take_ofW HT_.out HW_.out (by kernel_rfl)) (fun _ _ _ h => h) (Or.inl ⟨by rfl, zu7⟩) hHeld zs ?_
                           refine take_ (i := 8) (N := some 386) #[true, true, true, true, true, true, true, true, true, true, true, false, false, false, false, false, false, false] rfl rfl (take_ofW HT_.out HW_.out (by kernel_rfl)) (fun _ _ _ h => h) (Or.inl ⟨by rfl, zu7⟩) hHeld zs ?_
                           refine take_ (i := 11) (N := some 389) #[true, true, true, true, true, true, true, true, true, true, true, true, false, false, false, false, false, false] rfl rfl (take_ofW HT_.out HW_.out (by kernel_rfl)) (fun _ _ _ h => h) (Or.inl ⟨by rfl, zu7⟩) hHeld zs ?_
                           refine one_ (i := 12) (N := some 390) #[true, true, true, true, true, true, true, true, true, true, true, true, true, false, false, false, false, false] rfl rfl (one_of HT_.out (by kernel_rfl)) (by decide) (fun K hK => ?_)
                           refine goes_ Try.func52 (by kernel_rfl) rfl #[.agg #[.int .i64 a4_0, .int .i64 a4_1, .bool a4_2, .bool a4_3], .int .i64 (rd t382 (ji279)), .int .i64 (rd (rd_L1 t403 a6) 0), .int .i64 (rd (rd_L1 t403 a6) 1)] (by rfl) rfl rfl (by (try simp only [List.map_toArray, List.map_cons, List.map_nil]); first | done | (simp only [hji279]; rfl) | rfl | (simp only [List.length_drop, List.length_take]; rfl)) ?_
                           with_reducible refine (impl_StepAround.calls a4_0 a4_1 a4_2 a4_3 (rd t382 (ji279)) (rd (rd_L1 t403 a6) 0) (rd (rd_L1 t403 a6) 1) t424 false _ A284.out).mono ?_
                           rintro e w309 ⟨rfl, hb⟩
                           have HS4_ := (hb.cell (World.block_lt_of_cell? _ _ (hHeld.2.2.2.2.1))).trans (hHeld.2.2.2.2.1)
                           have HS5_ := (hb.cell (World.block_lt_of_cell? _ _ (hHeld.2.2.2.2.2.1))).trans (hHeld.2.2.2.2.2.1)
                           have HS6_ := (hb.cell (World.block_lt_of_cell? _ _ (hHeld.2.2.2.2.2.2))).trans (hHeld.2.2.2.2.2.2)
                           refine ⟨_, rfl, ?_⟩
                           replace HO_40 := zRb HO_40 hb
                           replace HO_56 := Aside0.mk (Kd.S_below (zL HO_56.out) hb)
                           replace HL408_0 := zRb HL408_0 hb
                           replace BK350 := zKb BK350 hb
                           replace BK351 := zKb BK351 hb
                           replace BK352 := zKb BK352 hb
                           replace BK353 := zKb BK353 hb
                           replace BK354 := zKb BK354 hb
                           replace HR408_0 := Aside0.mk (Kd.C_below (zC HR408_0.out) hb)
                           replace HB := Aside0.mk (below_step (zB5 HB GE350 GE351 GE352 GE353 GE354) hb)
                           (try clear hb); (try clear hb2); (try clear hk); (try clear hi)
                           refine hK.out _ _ ⟨(blk_cell BK351.out 0).trans rfl, (blk_cell BK351.out 1).trans rfl, (blk_cell BK351.out 2).trans rfl, (blk_cell BK351.out 3).trans rfl, HS4_, HS5_, HS6_⟩ (fun hHeld => ?_)
                           clear hK K
                           refine norm_ (a' := ?_) ?_ ?_
                           rotate_left
                           ·show Act.put _ (some 390) _ = _
                            simp only [Act.put, List.setIfInBounds_toArray, List.set_cons_zero, List.set_cons_succ, i64_w, i32_w]
                            rfl
                           refine pure_ (i := 13) (N := some 377) #[true, true, true, true, true, true, true, true, true, true, true, true, true, true, false, false, false, false] rfl rfl (any_of HT_.out (by kernel_rfl)) (fun _ _ _ h => h) (Or.inl ⟨by rfl, zv⟩) zs ?_
                           refine pure_ (i := 14) (N := some 391) #[true, true, true, true, true, true, true, true, true, true, true, true, true, true, true, false, false, false] rfl rfl (any_of HT_.out (by kernel_rfl)) (fun _ _ _ h => h) (Or.inl ⟨by rfl, zv⟩) zs ?_
                           refine pure_ (i := 15) (N := some 392) #[true, true, true, true, true, true, true, true, true, true, true, true, true, true, true, true, false, false] rfl rfl (any_of HT_.out (by kernel_rfl)) (fun _ _ _ h => h) (Or.inl ⟨by rfl, zv⟩) zs ?_
                           refine pure_ (i := 16) (N := some 60) #[true, true, true, true, true, true, true, true, true, true, true, true, true, true, true, true, true, false] rfl rfl (any_of HT_.out (by kernel_rfl)) (fun _ _ _ h => h) (Or.inl ⟨by rfl, zv⟩) zs ?_
                           refine pure_ (i := 17) (N := some 61) #[true, true, true, true, true, true, true, true, true, true, true, true, true, true, true, true, true, true] rfl rfl (any_of HT_.out (by kernel_rfl)) (fun _ _ _ h => h) (Or.inl ⟨by rfl, zv⟩) zs ?_
                           refine done_ (done_of HT_.out (by kernel_rfl)) ?_
                           try go_wp2
                           go_ret
                           exact ⟨by first | rfl | (simp [errW_none, errW_some] <;> rfl) | (simp only [← hji279]; first | rfl | (simp [errW_none, errW_some] <;> rfl)) | (simp [*, errW_none, errW_some] <;> rfl), zB5 HB GE350 GE351 GE352 GE353 GE354⟩
                         ·rw [if_neg c283] at H
                          exact absurd H (by simp)
                        ·rw [if_neg c282] at H
                         exact absurd H (by simp)
                       ·rw [if_neg c281] at H
                        exact absurd H (by simp)
                      ·rw [if_neg c280] at H
                       exact absurd H (by simp)
                   ·rw [if_neg c243] at H
                    exact absurd H (by simp)
                  ·rw [if_neg c242] at H
                   exact absurd H (by simp)
                 ·as_aux_lemma =>
                  rw [if_neg c241] at H
                  have c241b0 : decide (x58_6 < (t382.length : Int)) = false := decide_eq_false c241
                  clear c241
                  by_cases c310 : t397 = true
                  ·subst c310
                   have H1 : ((impl_VisitsAll.f k6 a9_0 a9_1 a9_2 a9_3 a10_0 a10_1 t394 t395 t396).bind fun bt432 => (if bt432.2 = true then (some bt432.1) else (some false))) = some r := by rw [if_pos rfl] at H; exact H
                   clear H
                   have H := H1
                   clear H1
                   replace H := Option.bind_eq_some_iff.mp H
                   obtain ⟨⟨t432, t433⟩, A3110, H⟩ := H
                   try dsimp only at H
                   have A311 := Aside0.mk A3110
                   clear A3110
                   by_cases c312 : t433 = true
                   ·subst c312
                    have H1 : (some t432) = some r := by rw [if_pos rfl] at H; exact H
                    clear H
                    have H := H1
                    clear H1
                    obtain rfl := Option.some.inj H
                    obtain ⟨Ao313, co313, eo313⟩ := Kd.R_slice HO_40.out
                    subst eo313
                    have hnb314 := NB353_350.out
                    have hnc314 := NB350_353.out
                    have hnb315 := NB353_351.out
                    have hnc315 := NB351_353.out
                    have hnb316 := NB353_352.out
                    have hnc316 := NB352_353.out
                    have hnb317 := NB353_354.out
                    have hnc317 := NB354_353.out
                    obtain ⟨hcz318_0, hcz318_1, hcz318_2, hcz318_3, hfz318_0, hfz318_1, hfz318_2, hfz318_3⟩ := zc4 BK353
                    have hnb319 := NB354_350.out
                    have hnc319 := NB350_354.out
                    have hnb320 := NB354_351.out
                    have hnc320 := NB351_354.out
                    have hnb321 := NB354_352.out
                    have hnc321 := NB352_354.out
                    obtain ⟨hcz322_0, hcz322_1, hfz322_0, hfz322_1⟩ := zc2 BK354
                    go_wp2_with (first | ((with_reducible refine gate_callee (f := 54) rfl ?_); refine goesL_ (some 417) rfl rfl Try.func54 (by kernel_rfl) rfl #[.agg #[.int .i64 a9_0, .int .i64 a9_1, .bool a9_2, .bool a9_3], .agg #[.int .i64 a10_0, .int .i64 a10_1], .int .i64 t394, .int .i64 t395, .int .i64 t396] rfl zm ?_; (with_reducible refine (impl_VisitsAll.calls k6 a9_0 a9_1 a9_2 a9_3 a10_0 a10_1 t394 t395 t396 t432 true _ A311.out).mono ?_); rintro e w323 ⟨rfl, hb⟩; refine ⟨_, rfl, ?_⟩; replace HO_40 := zRb HO_40 hb; replace HO_56 := Aside0.mk (Kd.S_below (zL HO_56.out) hb); replace BK350 := zKb BK350 hb; replace BK351 := zKb BK351 hb; replace BK352 := zKb BK352 hb; replace BK353 := zKb BK353 hb; replace BK354 := zKb BK354 hb; replace HB := Aside0.mk (below_step (zB5 HB GE350 GE351 GE352 GE353 GE354) hb); (try clear hb); (try clear hb2); (try clear hk); (try clear hi)))
                    go_ret
                    exact ⟨zt, zB5 HB GE350 GE351 GE352 GE353 GE354⟩
                   ·replace c312 := Bool.eq_false_iff.mpr c312
                    subst c312
                    have H1 : (some false) = some r := by rw [if_neg (show ¬ (false = true) by decide)] at H; exact H
                    clear H
                    have H := H1
                    clear H1
                    obtain rfl := Option.some.inj H
                    obtain ⟨Ao324, co324, eo324⟩ := Kd.R_slice HO_40.out
                    subst eo324
                    have hnb325 := NB353_350.out
                    have hnc325 := NB350_353.out
                    have hnb326 := NB353_351.out
                    have hnc326 := NB351_353.out
                    have hnb327 := NB353_352.out
                    have hnc327 := NB352_353.out
                    have hnb328 := NB353_354.out
                    have hnc328 := NB354_353.out
                    obtain ⟨hcz329_0, hcz329_1, hcz329_2, hcz329_3, hfz329_0, hfz329_1, hfz329_2, hfz329_3⟩ := zc4 BK353
                    have hnb330 := NB354_350.out
                    have hnc330 := NB350_354.out
                    have hnb331 := NB354_351.out
                    have hnc331 := NB351_354.out
                    have hnb332 := NB354_352.out
                    have hnc332 := NB352_354.out
                    obtain ⟨hcz333_0, hcz333_1, hfz333_0, hfz333_1⟩ := zc2 BK354
                    go_wp2_with (first | ((with_reducible refine gate_callee (f := 54) rfl ?_); refine goesL_ (some 417) rfl rfl Try.func54 (by kernel_rfl) rfl #[.agg #[.int .i64 a9_0, .int .i64 a9_1, .bool a9_2, .bool a9_3], .agg #[.int .i64 a10_0, .int .i64 a10_1], .int .i64 t394, .int .i64 t395, .int .i64 t396] rfl zm ?_; (with_reducible refine (impl_VisitsAll.calls k6 a9_0 a9_1 a9_2 a9_3 a10_0 a10_1 t394 t395 t396 t432 false _ A311.out).mono ?_); rintro e w334 ⟨rfl, hb⟩; refine ⟨_, rfl, ?_⟩; replace HO_40 := zRb HO_40 hb; replace HO_56 := Aside0.mk (Kd.S_below (zL HO_56.out) hb); replace BK350 := zKb BK350 hb; replace BK351 := zKb BK351 hb; replace BK352 := zKb BK352 hb; replace BK353 := zKb BK353 hb; replace BK354 := zKb BK354 hb; replace HB := Aside0.mk (below_step (zB5 HB GE350 GE351 GE352 GE353 GE354) hb); (try clear hb); (try clear hb2); (try clear hk); (try clear hi)))
                    go_ret
                    exact ⟨zt, zB5 HB GE350 GE351 GE352 GE353 GE354⟩
                  ·replace c310 := Bool.eq_false_iff.mpr c310
                   subst c310
                   have H1 : (some true) = some r := by rw [if_neg (show ¬ (false = true) by decide)] at H; exact H
                   clear H
                   have H := H1
                   clear H1
                   obtain rfl := Option.some.inj H
                   obtain ⟨Ao335, co335, eo335⟩ := Kd.R_slice HO_40.out
                   subst eo335
                   go_wp2
                   go_ret
                   exact ⟨zt, zB5 HB GE350 GE351 GE352 GE353 GE354⟩
           ·replace c221 := Bool.eq_false_iff.mpr c221
            subst c221
            have H1 : (if t397 = true then ((impl_VisitsAll.f kj165 a9_0 a9_1 a9_2 a9_3 a10_0 a10_1 t394 t395 t396).bind fun bt434 => (if bt434.2 = true then (some bt434.1) else (some false))) else (some true)) = some r := by rw [if_neg (show ¬ (false = true) by decide)] at H; exact H
            clear H
            have H := H1
            clear H1
            by_cases c336 : t397 = true
            ·subst c336
             have H1 : ((impl_VisitsAll.f kj165 a9_0 a9_1 a9_2 a9_3 a10_0 a10_1 t394 t395 t396).bind fun bt434 => (if bt434.2 = true then (some bt434.1) else (some false))) = some r := by rw [if_pos rfl] at H; exact H
             clear H
             have H := H1
             clear H1
             replace H := Option.bind_eq_some_iff.mp H
             obtain ⟨⟨t434, t435⟩, A3370, H⟩ := H
             try dsimp only at H
             have A337 := Aside0.mk A3370
             clear A3370
             by_cases c338 : t435 = true
             ·subst c338
              have H1 : (some t434) = some r := by rw [if_pos rfl] at H; exact H
              clear H
              have H := H1
              clear H1
              obtain rfl := Option.some.inj H
              have hnb339 := NB353_350.out
              have hnc339 := NB350_353.out
              have hnb340 := NB353_351.out
              have hnc340 := NB351_353.out
              have hnb341 := NB353_352.out
              have hnc341 := NB352_353.out
              have hnb342 := NB353_354.out
              have hnc342 := NB354_353.out
              obtain ⟨hcz343_0, hcz343_1, hcz343_2, hcz343_3, hfz343_0, hfz343_1, hfz343_2, hfz343_3⟩ := zc4 BK353
              have hnb344 := NB354_350.out
              have hnc344 := NB350_354.out
              have hnb345 := NB354_351.out
              have hnc345 := NB351_354.out
              have hnb346 := NB354_352.out
              have hnc346 := NB352_354.out
              obtain ⟨hcz347_0, hcz347_1, hfz347_0, hfz347_1⟩ := zc2 BK354
              go_wp2_with (first | ((with_reducible refine gate_callee (f := 54) rfl ?_); refine goesL_ (some 417) rfl rfl Try.func54 (by kernel_rfl) rfl #[.agg #[.int .i64 a9_0, .int .i64 a9_1, .bool a9_2, .bool a9_3], .agg #[.int .i64 a10_0, .int .i64 a10_1], .int .i64 t394, .int .i64 t395, .int .i64 t396] rfl zm ?_; (with_reducible refine (impl_VisitsAll.calls kj165 a9_0 a9_1 a9_2 a9_3 a10_0 a10_1 t394 t395 t396 t434 true _ A337.out).mono ?_); rintro e w348 ⟨rfl, hb⟩; refine ⟨_, rfl, ?_⟩; replace HO_40 := zRb HO_40 hb; replace BK350 := zKb BK350 hb; replace BK351 := zKb BK351 hb; replace BK352 := zKb BK352 hb; replace BK353 := zKb BK353 hb; replace BK354 := zKb BK354 hb; replace HB := Aside0.mk (below_step (zB5 HB GE350 GE351 GE352 GE353 GE354) hb); (try clear hb); (try clear hb2); (try clear hk); (try clear hi)))
              go_ret
              exact ⟨zt, zB5 HB GE350 GE351 GE352 GE353 GE354⟩
             ·replace c338 := Bool.eq_false_iff.mpr c338
              subst c338
              have H1 : (some false) = some r := by rw [if_neg (show ¬ (false = true) by decide)] at H; exact H
              clear H
              have H := H1
              clear H1
              obtain rfl := Option.some.inj H
              have hnb349 := NB353_350.out
              have hnc349 := NB350_353.out
              have hnb350 := NB353_351.out
              have hnc350 := NB351_353.out
              have hnb351 := NB353_352.out
              have hnc351 := NB352_353.out
              have hnb352 := NB353_354.out
              have hnc352 := NB354_353.out
              obtain ⟨hcz353_0, hcz353_1, hcz353_2, hcz353_3, hfz353_0, hfz353_1, hfz353_2, hfz353_3⟩ := zc4 BK353
              have hnb354 := NB354_350.out
              have hnc354 := NB350_354.out
              have hnb355 := NB354_351.out
              have hnc355 := NB351_354.out
              have hnb356 := NB354_352.out
              have hnc356 := NB352_354.out
              obtain ⟨hcz357_0, hcz357_1, hfz357_0, hfz357_1⟩ := zc2 BK354
              go_wp2_with (first | ((with_reducible refine gate_callee (f := 54) rfl ?_); refine goesL_ (some 417) rfl rfl Try.func54 (by kernel_rfl) rfl #[.agg #[.int .i64 a9_0, .int .i64 a9_1, .bool a9_2, .bool a9_3], .agg #[.int .i64 a10_0, .int .i64 a10_1], .int .i64 t394, .int .i64 t395, .int .i64 t396] rfl zm ?_; (with_reducible refine (impl_VisitsAll.calls kj165 a9_0 a9_1 a9_2 a9_3 a10_0 a10_1 t394 t395 t396 t434 false _ A337.out).mono ?_); rintro e w358 ⟨rfl, hb⟩; refine ⟨_, rfl, ?_⟩; replace HO_40 := zRb HO_40 hb; replace BK350 := zKb BK350 hb; replace BK351 := zKb BK351 hb; replace BK352 := zKb BK352 hb; replace BK353 := zKb BK353 hb; replace BK354 := zKb BK354 hb; replace HB := Aside0.mk (below_step (zB5 HB GE350 GE351 GE352 GE353 GE354) hb); (try clear hb); (try clear hb2); (try clear hk); (try clear hi)))
              go_ret
              exact ⟨zt, zB5 HB GE350 GE351 GE352 GE353 GE354⟩
            ·replace c336 := Bool.eq_false_iff.mpr c336
             subst c336
             have H1 : (some true) = some r := by rw [if_neg (show ¬ (false = true) by decide)] at H; exact H
             clear H
             have H := H1
             clear H1
             obtain rfl := Option.some.inj H
             go_wp2
             go_ret
             exact ⟨zt, zB5 HB GE350 GE351 GE352 GE353 GE354⟩

end Go.Proofs.Ytogkcfddoiloeaa.PFnOrbitsShareOfAll
