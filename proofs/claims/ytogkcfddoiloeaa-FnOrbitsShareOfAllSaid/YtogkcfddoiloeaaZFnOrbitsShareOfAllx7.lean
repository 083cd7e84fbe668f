/- The functions that laws.FnOrbitsShareOfAll reaches and their contracts: what the call of each comes to. Conditions: none beyond those in each statement. -/
import Derived.Test.YtogkcfddoiloeaaZFnOrbitsShareOfAllx6
namespace Go.Proofs.Ytogkcfddoiloeaa.PFnOrbitsShareOfAll
open Go.RowKit Go.Proofs.YtogkcfddoiloeaaW.PrintWords Go.Proofs.YtogkcfddoiloeaaW.PrintLast Go.Proofs.YtogkcfddoiloeaaW.PrintMore
attribute [local go_sem] max2_int min2_int max_two min_two max_three min_three max_four min_four   -- for this text's walks alone
set_option linter.unusedVariables false
set_option linter.unusedSimpArgs false

/-! ### spec_arCell: function 96 -/
def spec_arCell.f (a0_0 : Int) (a0_1 : Int) (a0_2 : Bool) (a0_3 : Bool) (a1 : Int) : Option (Bool) := (spec_arGood.f a0_0 a0_1 a0_2 a0_3).bind fun t287 => (if t287 = true then ((spec_l1In.f a1 0 (wrap64 ((wrap64 (a0_0 * a0_1)) - 1))).bind fun t288 => (some t288)) else (some false))
set_option maxHeartbeats 8000000 in
set_option maxRecDepth 100000 in
theorem spec_arCell.calls (a0_0 : Int) (a0_1 : Int) (a0_2 : Bool) (a0_3 : Bool) (a1 : Int) (r : Bool) (w : World) (h : spec_arCell.f a0_0 a0_1 a0_2 a0_3 a1 = some r) :
  Calls Try.prog 96 #[.agg #[.int .i64 a0_0, .int .i64 a0_1, .bool a0_2, .bool a0_3], .int .i64 a1] w fun e w' => e = .returned (.bool r) ∧ Below w.heap.size w w' := by
 have hu28 := Try.underlying28
 have HB := Aside0.mk (Below.refl w.heap.size w)
 have H : ((spec_arGood.f a0_0 a0_1 a0_2 a0_3).bind fun t287 => (if t287 = true then ((spec_l1In.f a1 0 (wrap64 ((wrap64 (a0_0 * a0_1)) - 1))).bind fun t288 => (some t288)) else (some false))) = some r := h
 clear h
 replace H := Option.bind_eq_some_iff.mp H
 obtain ⟨t287, A30, H⟩ := H
 try dsimp only at H
 have A3 := Aside0.mk A30
 clear A30
 by_cases c4 : t287 = true
 ·subst c4
  have H1 : ((spec_l1In.f a1 0 (wrap64 ((wrap64 (a0_0 * a0_1)) - 1))).bind fun t288 => (some t288)) = some r := by rw [if_pos rfl] at H; exact H
  clear H
  have H := H1
  clear H1
  replace H := Option.bind_eq_some_iff.mp H
  obtain ⟨t288, A50, H⟩ := H
  try dsimp only at H
  have A5 := Aside0.mk A50
  clear A50
  obtain rfl := Option.some.inj H
  go_enter Try.func96, Try.ntmps96
  go_wp2_with (first | ((with_reducible refine gate_dst (N := 2) rfl ?_); refine box_event ?hg (N := 2) ?hd (cs := #[.int .i64 a0_0, .int .i64 a0_1, .bool a0_2, .bool a0_3]) (t := 28) ?hr ?_; (case hd => rfl); (case hg => rfl); (case hr => first | (go_simp; done) | (go_simp; rfl)); intro gb286 hg w6 hbox hb; have BK286 := Aside0.mk (hbox); have GW286 := Aside0.mk (zG hg (below_size (zB0 HB)) : w.heap.size ≤ gb286); have GE286 := Aside0.mk (zG hg (below_size (zB0 HB)) : w.heap.size ≤ gb286); replace HB := Aside0.mk (below_step (zB0 HB) hb); clear hb hbox hg; obtain ⟨hcz7_0, hcz7_1, hcz7_2, hcz7_3, hfz7_0, hfz7_1, hfz7_2, hfz7_3⟩ := zc4 BK286) | ((with_reducible refine gate_callee (f := 105) rfl ?_); refine goesL_ (some 6) rfl rfl Try.func105 (by kernel_rfl) rfl #[.agg #[.int .i64 a0_0, .int .i64 a0_1, .bool a0_2, .bool a0_3]] rfl zm ?_; (with_reducible refine (spec_arGood.calls a0_0 a0_1 a0_2 a0_3 true _ A3.out).mono ?_); rintro e w8 ⟨rfl, hb⟩; refine ⟨_, rfl, ?_⟩; replace BK286 := zKb BK286 hb; replace HB := Aside0.mk (below_step (zB1 HB GE286) hb); (try clear hb); (try clear hb2); (try clear hk); (try clear hi); obtain ⟨hcz9_0, hcz9_1, hcz9_2, hcz9_3, hfz9_0, hfz9_1, hfz9_2, hfz9_3⟩ := zc4 BK286) | (go_at_call 77; (with_reducible refine (spec_l1In.calls a1 0 (wrap64 ((wrap64 (a0_0 * a0_1)) - 1)) t288 _ A5.out).mono ?_); rintro e w' ⟨rfl, ⟨nd, rfl⟩⟩))
  go_ret
  exact ⟨zt, zB1 HB GE286⟩
 ·replace c4 := Bool.eq_false_iff.mpr c4
  subst c4
  have H1 : (some false) = some r := by rw [if_neg (show ¬ (false = true) by decide)] at H; exact H
  clear H
  have H := H1
  clear H1
  obtain rfl := Option.some.inj H
  go_enter Try.func96, Try.ntmps96
  go_wp2_with (first | ((with_reducible refine gate_dst (N := 2) rfl ?_); refine box_event ?hg (N := 2) ?hd (cs := #[.int .i64 a0_0, .int .i64 a0_1, .bool a0_2, .bool a0_3]) (t := 28) ?hr ?_; (case hd => rfl); (case hg => rfl); (case hr => first | (go_simp; done) | (go_simp; rfl)); intro gb286 hg w10 hbox hb; have BK286 := Aside0.mk (hbox); have GW286 := Aside0.mk (zG hg (below_size (zB0 HB)) : w.heap.size ≤ gb286); have GE286 := Aside0.mk (zG hg (below_size (zB0 HB)) : w.heap.size ≤ gb286); replace HB := Aside0.mk (below_step (zB0 HB) hb); clear hb hbox hg; obtain ⟨hcz11_0, hcz11_1, hcz11_2, hcz11_3, hfz11_0, hfz11_1, hfz11_2, hfz11_3⟩ := zc4 BK286) | ((with_reducible refine gate_callee (f := 105) rfl ?_); refine goesL_ (some 6) rfl rfl Try.func105 (by kernel_rfl) rfl #[.agg #[.int .i64 a0_0, .int .i64 a0_1, .bool a0_2, .bool a0_3]] rfl zm ?_; (with_reducible refine (spec_arGood.calls a0_0 a0_1 a0_2 a0_3 false _ A3.out).mono ?_); rintro e w12 ⟨rfl, hb⟩; refine ⟨_, rfl, ?_⟩; replace BK286 := zKb BK286 hb; replace HB := Aside0.mk (below_step (zB1 HB GE286) hb); (try clear hb); (try clear hb2); (try clear hk); (try clear hi)))
  go_ret
  exact ⟨zt, zB1 HB GE286⟩

/-! ### spec_arOrbit: function 97 -/
def spec_arOrbit.l0 : Nat → Int → Int → Int → List Int → Int → Int → Int → Bool → Bool → Option (List Int)
 | 0, _, _, _, _, _, _, _, _, _ => none
 | k + 1, x1, x2, x3, x9, x10, x290000, x290001, x290002, x290003 => if x10 = x1 then (some x9) else (if x9.length < 17592186044416 then ((spec_arStep.f x290000 x290001 x290002 x290003 x10 x2 x3).bind fun t297 => (spec_arOrbit.l0 k x1 x2 x3 (x9 ++ [x10]) t297 x290000 x290001 x290002 x290003)) else (none))
def spec_arOrbit.f (k : Nat) (a0_0 : Int) (a0_1 : Int) (a0_2 : Bool) (a0_3 : Bool) (a1 : Int) (a2 : Int) (a3 : Int) : Option (List Int) := (spec_arStep.f a0_0 a0_1 a0_2 a0_3 a1 a2 a3).bind fun t293 => (spec_arOrbit.l0 k a1 a2 a3 (([a1] : List Int)) t293 a0_0 a0_1 a0_2 a0_3)
theorem spec_arOrbit.mono_l : ∀ k, (∀ y0 y1 y2 y3 y4 y5 y6 y7 y8, LeO (spec_arOrbit.l0 k y0 y1 y2 y3 y4 y5 y6 y7 y8) (spec_arOrbit.l0 (k + 1) y0 y1 y2 y3 y4 y5 y6 y7 y8))
 | 0 => fun _ _ _ _ _ _ _ _ _ r h => by simp [spec_arOrbit.l0] at h
 | k + 1 => by
  have ih0 := spec_arOrbit.mono_l k
  ·intro y0 y1 y2 y3 y4 y5 y6 y7 y8
   unfold spec_arOrbit.l0
   repeat' first
   | (with_reducible apply ih0)
   | (with_reducible exact LeO.refl _)
   | (with_reducible exact LeO.none _)
   | (with_reducible refine LeO.ite ?_ ?_)
   | (with_reducible refine LeO.bind ?_ (fun _ => ?_))
   | apply ih0
   | exact LeO.none _
   | refine LeO.ite ?_ ?_
   | refine LeO.bind ?_ (fun _ => ?_)
theorem spec_arOrbit.mono : ∀ a0 a1 a2 a3 a4 a5 a6 k, LeO (spec_arOrbit.f k a0 a1 a2 a3 a4 a5 a6) (spec_arOrbit.f (k + 1) a0 a1 a2 a3 a4 a5 a6) := by
 intro a0 a1 a2 a3 a4 a5 a6 k
 have ih0 := spec_arOrbit.mono_l k
 unfold spec_arOrbit.f
 repeat' first
   | (with_reducible apply ih0)
   | (with_reducible exact LeO.refl _)
   | (with_reducible exact LeO.none _)
   | (with_reducible refine LeO.ite ?_ ?_)
   | (with_reducible refine LeO.bind ?_ (fun _ => ?_))
   | apply ih0
   | exact LeO.none _
   | refine LeO.ite ?_ ?_
   | refine LeO.bind ?_ (fun _ => ?_)
set_option maxHeartbeats 8000000 in
set_option maxRecDepth 100000 in
theorem spec_arOrbit.calls (k : Nat) (a0_0 : Int) (a0_1 : Int) (a0_2 : Bool) (a0_3 : Bool) (a1 : Int) (a2 : Int) (a3 : Int) (r : List Int) (w : World) (h : spec_arOrbit.f k a0_0 a0_1 a0_2 a0_3 a1 a2 a3 = some r) :
  Calls Try.prog 97 #[.agg #[.int .i64 a0_0, .int .i64 a0_1, .bool a0_2, .bool a0_3], .int .i64 a1, .int .i64 a2, .int .i64 a3] w fun e w' => ∃ v0_ : Value, e = .returned (v0_) ∧ Kd.R (Kd.int .i64) 3 w' w.heap.size (fun _ => True) v0_ r ∧ Below w.heap.size w w' := by
 have hu28 := Try.underlying28
 have HB := Aside0.mk (Below.refl w.heap.size w)
 have H : ((spec_arStep.f a0_0 a0_1 a0_2 a0_3 a1 a2 a3).bind fun t293 => (spec_arOrbit.l0 k a1 a2 a3 (([a1] : List Int)) t293 a0_0 a0_1 a0_2 a0_3)) = some r := h
 clear h
 obtain ⟨y290, hy290⟩ : ∃ y_ : List Int, y_ = (([a1] : List Int)) := ⟨_, rfl⟩
 replace H : ((spec_arStep.f a0_0 a0_1 a0_2 a0_3 a1 a2 a3).bind fun t293 => (spec_arOrbit.l0 k a1 a2 a3 y290 t293 a0_0 a0_1 a0_2 a0_3)) = some r := by first | (rw [hy290]; with_reducible exact H) | (have H2_ := (Option.bind_some _ _).symm.trans H; rw [hy290]; with_reducible exact H2_) | (have H2_ := (Option.bind_some _ _).symm.trans H; with_reducible exact H2_) | with_reducible exact H | (rw [hy290]; exact H) | exact H
 have Ny290 := Aside0.mk hy290
 clear hy290
 replace H := Option.bind_eq_some_iff.mp H
 obtain ⟨t293, A50, H⟩ := H
 try dsimp only at H
 have A5 := Aside0.mk A50
 clear A50
 have H' := Aside0.mk H
 clear H
 go_enter Try.func97, Try.ntmps97
 go_wp2_with (first | ((with_reducible refine gate_dst (N := 4) rfl ?_); refine box_event ?hg (N := 4) ?hd (cs := #[.int .i64 a0_0, .int .i64 a0_1, .bool a0_2, .bool a0_3]) (t := 28) ?hr ?_; (case hd => rfl); (case hg => rfl); (case hr => first | (go_simp; done) | (go_simp; rfl)); intro gb289 hg w6 hbox hb; have BK289 := Aside0.mk (hbox); have GW289 := Aside0.mk (zG hg (below_size (zB0 HB)) : w.heap.size ≤ gb289); have GE289 := Aside0.mk (zG hg (below_size (zB0 HB)) : w.heap.size ≤ gb289); replace HB := Aside0.mk (below_step (zB0 HB) hb); clear hb hbox hg) | ((with_reducible refine gate_dst (N := 12) rfl ?_); refine Kd.R_lit (Kd.int .i64) _ 3 ?hg (N := 12) ?hd (xs := ([a1] : List Int)) (inner := [.int .i64 a1]) (ok := fun _ => True) (okp := fun _ => True) ?hr ?hp (fun _ hk => hk) trivial (Below.refl _ _) (Nat.le_refl _) (by simp) ?_; (case hd => rfl); (case hg => rfl); (case hr => first | (go_simp; done) | (go_simp; rfl)); (case hp => exact (Reps.one (show Kd.M (Kd.int .i64) _ _ _ a1 [.int .i64 a1] from rfl) (Reps.none _ _))); intro v291 w7 ho8 hb hg_ hnew_; clear hg_ hnew_; (first | rw [← Ny290.out] at ho8 | (simp only [Int.reduceToNat] at ho8; rw [← Ny290.out] at ho8)); have HO292 := Aside0.mk (Kd.R_lower ho8 (below_size (zB1 HB GE289))); replace BK289 := zKb BK289 hb; replace HB := Aside0.mk (below_step (zB1 HB GE289) hb); clear hb ho8; obtain ⟨hcz9_0, hcz9_1, hcz9_2, hcz9_3, hfz9_0, hfz9_1, hfz9_2, hfz9_3⟩ := zc4 BK289) | ((with_reducible refine gate_callee (f := 108) rfl ?_); refine goesL_ (some 17) rfl rfl Try.func108 (by kernel_rfl) rfl #[.agg #[.int .i64 a0_0, .int .i64 a0_1, .bool a0_2, .bool a0_3], .int .i64 a1, .int .i64 a2, .int .i64 a3] rfl zm ?_; (with_reducible refine (spec_arStep.calls a0_0 a0_1 a0_2 a0_3 a1 a2 a3 t293 _ A5.out).mono ?_); rintro e w10 ⟨rfl, hb⟩; refine ⟨_, rfl, ?_⟩; replace HO292 := zRb HO292 hb; replace BK289 := zKb BK289 hb; replace HB := Aside0.mk (below_step (zB1 HB GE289) hb); (try clear hb); (try clear hb2); (try clear hk); (try clear hi)))
 go_loopg [9, 10] k (fun kq v9 v10 w' => ∃ (x9_1 : List Int) (x10_1 : Int), v10 = .int .i64 x10_1 ∧ Aside0 (spec_arOrbit.l0 kq a1 a2 a3 x9_1 x10_1 a0_0 a0_1 a0_2 a0_3 = some r) ∧ Aside0 (kq ≤ k) ∧ Aside0 (Kd.R (Kd.int .i64) 3 w' w.heap.size (fun _ => True) v9 x9_1) ∧ Aside0 (w'.heap[gb289]? = some (.cells #[.int .i64 a0_0, .int .i64 a0_1, .bool a0_2, .bool a0_3] 28 (0, 0))) ∧ Aside0 (Below w.heap.size w w'))
 case atStart => exact ⟨(y290), (t293), ze, H', ⟨Nat.le_refl _⟩, ⟨zR HO292.out⟩, ⟨zK BK289⟩, ⟨zB1 HB GE289⟩⟩
 case round =>
  clear H'
  (try clear hcz9_0 hcz9_1 hcz9_2 hcz9_3 hfz9_0 hfz9_1 hfz9_2 hfz9_3)
  obtain ⟨x9_1, x10_1, rfl, HA, HK1, HO_9, BK289, HB⟩ := hrel
  cases gk with
  | zero => exact absurd HA.out (by simp [spec_arOrbit.l0])
  | succ k1 =>
   have H := HA.out
   clear HA
   simp only [spec_arOrbit.l0] at H
   by_cases c11 : x10_1 = a1
   ·rw [if_pos c11] at H
    have c11b0 : (x10_1 == a1) = true := beq_iff_eq.mpr c11
    have c11b1 : (x10_1 != a1) = false := bne_eq_false_iff_eq.mpr c11
    clear c11
    obtain rfl := Option.some.inj H
    go_wp2
    go_ret
    exact ⟨_, zt, by (with_reducible repeat (first | apply Kd.R_alloc | apply Kd.R_drewN | apply Kd.R_drew)); exact HO_9.out, zB1 HB GE289⟩
   ·rw [if_neg c11] at H
    have c11b0 : (x10_1 == a1) = false := beq_eq_false_iff_ne.mpr c11
    have c11b1 : (x10_1 != a1) = true := bne_iff_ne.mpr c11
    by_cases c12 : x9_1.length < 17592186044416
    ·rw [if_pos c12] at H
     have LMc12 := Aside0.mk c12
     clear c12
     obtain ⟨y294, hy294⟩ : ∃ y_ : List Int, y_ = (x9_1 ++ [x10_1]) := ⟨_, rfl⟩
     replace H : ((spec_arStep.f a0_0 a0_1 a0_2 a0_3 x10_1 a2 a3).bind fun t297 => (spec_arOrbit.l0 k1 a1 a2 a3 y294 t297 a0_0 a0_1 a0_2 a0_3)) = some r := by first | (rw [hy294]; with_reducible exact H) | (have H2_ := (Option.bind_some _ _).symm.trans H; rw [hy294]; with_reducible exact H2_) | (have H2_ := (Option.bind_some _ _).symm.trans H; with_reducible exact H2_) | with_reducible exact H | (rw [hy294]; exact H) | exact H
     have Ny294 := Aside0.mk hy294
     clear hy294
     replace H := Option.bind_eq_some_iff.mp H
     obtain ⟨t297, A130, H⟩ := H
     try dsimp only at H
     have A13 := Aside0.mk A130
     clear A130
     have H' := Aside0.mk H
     clear H
     go_wp2_with (first | ((with_reducible refine gate_builtin (b := .append) (xs := #[.tmp 26, .tmp 28]) rfl ?_); at_builtin; refine Kd.R_append (Kd.int .i64) (w0 := w) w.heap.size rfl (.tmp 26) (.tmp 28) 33 3 (.int .i64 0) 8 rfl Try.underlying33 info3 rfl (by decide) (by omega) u9 x9_1 x10_1 [.int .i64 x10_1] (fun _ => True) (fun _ => False) rfl rfl ?aP (fun _ hk => hk.elim) ?aF ?aO ?aB ?aS ?aL ?_; (case aP => exact rfl); (case aB => exact (zB1 HB GE289)); (case aF => exact (fun _ _ => trivial)); (case aO => exact (zR HO_9.out)); (case aS => exact (below_size (zB1 HB GE289))); (case aL => have := LMc12.out; omega); intro v295 w14 ho hb hg hat; rw [← Ny294.out] at ho; have n0_ := Aside0.mk (blk_grown (g := gb289) (o := .cells #[.int .i64 a0_0, .int .i64 a0_1, .bool a0_2, .bool a0_3] 28 (0, 0)) (zK BK289) hg (Kd.R_ne HO_9.out BK289.out (by decide))); have n1_ := Aside0.mk (hb); have n2_ := Aside0.mk (ho); clear BK289; clear HB; clear HO_9; have BK289 := n0_; have HB := n1_; have HO296 := n2_; clear n0_ n1_ n2_; clear ho hb hg hat; obtain ⟨hcz15_0, hcz15_1, hcz15_2, hcz15_3, hfz15_0, hfz15_1, hfz15_2, hfz15_3⟩ := zc4 BK289) | ((with_reducible refine gate_callee (f := 108) rfl ?_); refine goesL_ (some 25) rfl rfl Try.func108 (by kernel_rfl) rfl #[.agg #[.int .i64 a0_0, .int .i64 a0_1, .bool a0_2, .bool a0_3], .int .i64 x10_1, .int .i64 a2, .int .i64 a3] rfl zm ?_; (with_reducible refine (spec_arStep.calls a0_0 a0_1 a0_2 a0_3 x10_1 a2 a3 t297 _ A13.out).mono ?_); rintro e w16 ⟨rfl, hb⟩; refine ⟨_, rfl, ?_⟩; replace HO296 := zRb HO296 hb; replace BK289 := zKb BK289 hb; replace HB := Aside0.mk (below_step (zB1 HB GE289) hb); (try clear hb); (try clear hb2); (try clear hk); (try clear hi)))
     go_roundg k1
     case measure => have := HK1.out; omega
     case rel => exact ⟨(y294), (t297), ze, H', ⟨by have := HK1.out; omega⟩, ⟨zR HO296.out⟩, ⟨zK BK289⟩, ⟨zB1 HB GE289⟩⟩
    ·rw [if_neg c12] at H
     exact absurd H (by simp)

/-! ### spec_OrbitOf: function 46 -/
def spec_OrbitOf.f (k : Nat) (a0_0 : Int) (a0_1 : Int) (a0_2 : Bool) (a0_3 : Bool) (a1 : Int) (a2 : Int) (a3 : Int) : Option (List Int × Bool) := (spec_arJoined.f a0_0 a0_1 a0_2 a0_3 a2 a3).bind fun t299 => (if t299 = true then ((spec_arCell.f a0_0 a0_1 a0_2 a0_3 a1).bind fun t300 => (if t300 = true then ((spec_arOrbit.f k a0_0 a0_1 a0_2 a0_3 a1 a2 a3).bind fun t301 => (some (t301, true))) else (some (([] : List Int), false)))) else (some (([] : List Int), false)))
theorem spec_OrbitOf.mono : ∀ a0 a1 a2 a3 a4 a5 a6 k, LeO (spec_OrbitOf.f k a0 a1 a2 a3 a4 a5 a6) (spec_OrbitOf.f (k + 1) a0 a1 a2 a3 a4 a5 a6) := by
 intro a0 a1 a2 a3 a4 a5 a6 k
 unfold spec_OrbitOf.f
 repeat' first
   | (with_reducible exact spec_arOrbit.mono _ _ _ _ _ _ _ _)
   | (with_reducible exact LeO.refl _)
   | (with_reducible exact LeO.none _)
   | (with_reducible refine LeO.ite ?_ ?_)
   | (with_reducible refine LeO.bind ?_ (fun _ => ?_))
   | exact spec_arOrbit.mono _ _ _ _ _ _ _ _
   | exact LeO.none _
   | refine LeO.ite ?_ ?_
   | refine LeO.bind ?_ (fun _ => ?_)
set_option maxHeartbeats 8000000 in
set_option maxRecDepth 100000 in
theorem spec_OrbitOf.calls (k : Nat) (a0_0 : Int) (a0_1 : Int) (a0_2 : Bool) (a0_3 : Bool) (a1 : Int) (a2 : Int) (a3 : Int) (r1 : List Int) (r2 : Bool) (w : World) (h : spec_OrbitOf.f k a0_0 a0_1 a0_2 a0_3 a1 a2 a3 = some (r1, r2)) :
  Calls Try.prog 46 #[.agg #[.int .i64 a0_0, .int .i64 a0_1, .bool a0_2, .bool a0_3], .int .i64 a1, .int .i64 a2, .int .i64 a3] w fun e w' => ∃ v0_ : Value, e = .returned (.tuple #[v0_, .bool r2]) ∧ Kd.R (Kd.int .i64) 3 w' w.heap.size (fun _ => True) v0_ r1 ∧ Below w.heap.size w w' := by
 have hu28 := Try.underlying28
 have HB := Aside0.mk (Below.refl w.heap.size w)
 have H : ((spec_arJoined.f a0_0 a0_1 a0_2 a0_3 a2 a3).bind fun t299 => (if t299 = true then ((spec_arCell.f a0_0 a0_1 a0_2 a0_3 a1).bind fun t300 => (if t300 = true then ((spec_arOrbit.f k a0_0 a0_1 a0_2 a0_3 a1 a2 a3).bind fun t301 => (some (t301, true))) else (some (([] : List Int), false)))) else (some (([] : List Int), false)))) = some (r1, r2) := h
 clear h
 replace H := Option.bind_eq_some_iff.mp H
 obtain ⟨t299, A50, H⟩ := H
 try dsimp only at H
 have A5 := Aside0.mk A50
 clear A50
 by_cases c6 : t299 = true
 ·subst c6
  have H1 : ((spec_arCell.f a0_0 a0_1 a0_2 a0_3 a1).bind fun t300 => (if t300 = true then ((spec_arOrbit.f k a0_0 a0_1 a0_2 a0_3 a1 a2 a3).bind fun t301 => (some (t301, true))) else (some (([] : List Int), false)))) = some (r1, r2) := by rw [if_pos rfl] at H; exact H
  clear H
  have H := H1
  clear H1
  replace H := Option.bind_eq_some_iff.mp H
  obtain ⟨t300, A70, H⟩ := H
  try dsimp only at H
  have A7 := Aside0.mk A70
  clear A70
  by_cases c8 : t300 = true
  ·subst c8
   have H1 : ((spec_arOrbit.f k a0_0 a0_1 a0_2 a0_3 a1 a2 a3).bind fun t301 => (some (t301, true))) = some (r1, r2) := by rw [if_pos rfl] at H; exact H
   clear H
   have H := H1
   clear H1
   replace H := Option.bind_eq_some_iff.mp H
   obtain ⟨t301, A90, H⟩ := H
   try dsimp only at H
   have A9 := Aside0.mk A90
   clear A90
   simp only [Option.some.injEq, Prod.mk.injEq] at H
   obtain ⟨rfl, rfl⟩ := H
   go_enter Try.func46, Try.ntmps46
   go_wp2_with (first | ((with_reducible refine gate_dst (N := 4) rfl ?_); refine box_event ?hg (N := 4) ?hd (cs := #[.int .i64 a0_0, .int .i64 a0_1, .bool a0_2, .bool a0_3]) (t := 28) ?hr ?_; (case hd => rfl); (case hg => rfl); (case hr => first | (go_simp; done) | (go_simp; rfl)); intro gb298 hg w10 hbox hb; have BK298 := Aside0.mk (hbox); have GW298 := Aside0.mk (zG hg (below_size (zB0 HB)) : w.heap.size ≤ gb298); have GE298 := Aside0.mk (zG hg (below_size (zB0 HB)) : w.heap.size ≤ gb298); replace HB := Aside0.mk (below_step (zB0 HB) hb); clear hb hbox hg; obtain ⟨hcz11_0, hcz11_1, hcz11_2, hcz11_3, hfz11_0, hfz11_1, hfz11_2, hfz11_3⟩ := zc4 BK298) | ((with_reducible refine gate_callee (f := 95) rfl ?_); refine goesL_ (some 13) rfl rfl Try.func95 (by kernel_rfl) rfl #[.agg #[.int .i64 a0_0, .int .i64 a0_1, .bool a0_2, .bool a0_3], .int .i64 a2, .int .i64 a3] rfl zm ?_; (with_reducible refine (spec_arJoined.calls a0_0 a0_1 a0_2 a0_3 a2 a3 true _ A5.out).mono ?_); rintro e w12 ⟨rfl, hb⟩; refine ⟨_, rfl, ?_⟩; replace BK298 := zKb BK298 hb; replace HB := Aside0.mk (below_step (zB1 HB GE298) hb); (try clear hb); (try clear hb2); (try clear hk); (try clear hi); obtain ⟨hcz13_0, hcz13_1, hcz13_2, hcz13_3, hfz13_0, hfz13_1, hfz13_2, hfz13_3⟩ := zc4 BK298) | (go_at_call 96; (with_reducible refine (spec_arCell.calls a0_0 a0_1 a0_2 a0_3 a1 true _ A7.out).mono ?_); rintro e w14 ⟨rfl, hb⟩; replace BK298 := zKb BK298 hb; replace HB := Aside0.mk (below_step (zB1 HB GE298) hb); (try clear hb); (try clear hb2); (try clear hk); (try clear hi); obtain ⟨hcz15_0, hcz15_1, hcz15_2, hcz15_3, hfz15_0, hfz15_1, hfz15_2, hfz15_3⟩ := zc4 BK298) | ((with_reducible refine gate_callee (f := 97) rfl ?_); refine goesL_ (some 25) rfl rfl Try.func97 (by kernel_rfl) rfl #[.agg #[.int .i64 a0_0, .int .i64 a0_1, .bool a0_2, .bool a0_3], .int .i64 a1, .int .i64 a2, .int .i64 a3] rfl zm ?_; (with_reducible refine (spec_arOrbit.calls k a0_0 a0_1 a0_2 a0_3 a1 a2 a3 t301 _ A9.out).mono ?_); rintro e w16 ⟨v302, rfl, ho0, hb⟩; refine ⟨_, rfl, ?_⟩; have HO303 := Aside0.mk (Kd.R_lower ho0 (below_size (zB1 HB GE298))); replace BK298 := zKb BK298 hb; replace HB := Aside0.mk (below_step (zB1 HB GE298) hb); (try clear hb); (try clear hb2); (try clear hk); (try clear hi); (try clear ho0)))
   go_ret2
   exact ⟨_, zt, by (with_reducible repeat (first | apply Kd.R_alloc | apply Kd.R_drewN | apply Kd.R_drew)); exact HO303.out, zB1 HB GE298⟩
  ·replace c8 := Bool.eq_false_iff.mpr c8
   subst c8
   have H1 : (some (([] : List Int), false)) = some (r1, r2) := by rw [if_neg (show ¬ (false = true) by decide)] at H; exact H
   clear H
   have H := H1
   clear H1
   simp only [Option.some.injEq, Prod.mk.injEq] at H
   obtain ⟨rfl, rfl⟩ := H
   go_enter Try.func46, Try.ntmps46
   go_wp2_with (first | ((with_reducible refine gate_dst (N := 4) rfl ?_); refine box_event ?hg (N := 4) ?hd (cs := #[.int .i64 a0_0, .int .i64 a0_1, .bool a0_2, .bool a0_3]) (t := 28) ?hr ?_; (case hd => rfl); (case hg => rfl); (case hr => first | (go_simp; done) | (go_simp; rfl)); intro gb298 hg w17 hbox hb; have BK298 := Aside0.mk (hbox); have GW298 := Aside0.mk (zG hg (below_size (zB0 HB)) : w.heap.size ≤ gb298); have GE298 := Aside0.mk (zG hg (below_size (zB0 HB)) : w.heap.size ≤ gb298); replace HB := Aside0.mk (below_step (zB0 HB) hb); clear hb hbox hg; obtain ⟨hcz18_0, hcz18_1, hcz18_2, hcz18_3, hfz18_0, hfz18_1, hfz18_2, hfz18_3⟩ := zc4 BK298) | ((with_reducible refine gate_callee (f := 95) rfl ?_); refine goesL_ (some 13) rfl rfl Try.func95 (by kernel_rfl) rfl #[.agg #[.int .i64 a0_0, .int .i64 a0_1, .bool a0_2, .bool a0_3], .int .i64 a2, .int .i64 a3] rfl zm ?_; (with_reducible refine (spec_arJoined.calls a0_0 a0_1 a0_2 a0_3 a2 a3 true _ A5.out).mono ?_); rintro e w19 ⟨rfl, hb⟩; refine ⟨_, rfl, ?_⟩; replace BK298 := zKb BK298 hb; replace HB := Aside0.mk (below_step (zB1 HB GE298) hb); (try clear hb); (try clear hb2); (try clear hk); (try clear hi); obtain ⟨hcz20_0, hcz20_1, hcz20_2, hcz20_3, hfz20_0, hfz20_1, hfz20_2, hfz20_3⟩ := zc4 BK298) | (go_at_call 96; (with_reducible refine (spec_arCell.calls a0_0 a0_1 a0_2 a0_3 a1 false _ A7.out).mono ?_); rintro e w21 ⟨rfl, hb⟩; replace BK298 := zKb BK298 hb; replace HB := Aside0.mk (below_step (zB1 HB GE298) hb); (try clear hb); (try clear hb2); (try clear hk); (try clear hi)))
   go_ret2
   exact ⟨_, zt, by first | exact Kd.R_nil _ _ _ _ _ | exact Kd.N_nil _ _ _ _ _ | exact Kd.V_nil _ _ _ _ _ | exact Kd.Q_nil _ _ _ _ _ | exact Kd.S_nil _ _ _ _ _, zB1 HB GE298⟩
 ·replace c6 := Bool.eq_false_iff.mpr c6
  subst c6
  have H1 : (some (([] : List Int), false)) = some (r1, r2) := by rw [if_neg (show ¬ (false = true) by decide)] at H; exact H
  clear H
  have H := H1
  clear H1
  simp only [Option.some.injEq, Prod.mk.injEq] at H
  obtain ⟨rfl, rfl⟩ := H
  go_enter Try.func46, Try.ntmps46
  go_wp2_with (first | ((with_reducible refine gate_dst (N := 4) rfl ?_); refine box_event ?hg (N := 4) ?hd (cs := #[.int .i64 a0_0, .int .i64 a0_1, .bool a0_2, .bool a0_3]) (t := 28) ?hr ?_; (case hd => rfl); (case hg => rfl); (case hr => first | (go_simp; done) | (go_simp; rfl)); intro gb298 hg w22 hbox hb; have BK298 := Aside0.mk (hbox); have GW298 := Aside0.mk (zG hg (below_size (zB0 HB)) : w.heap.size ≤ gb298); have GE298 := Aside0.mk (zG hg (below_size (zB0 HB)) : w.heap.size ≤ gb298); replace HB := Aside0.mk (below_step (zB0 HB) hb); clear hb hbox hg; obtain ⟨hcz23_0, hcz23_1, hcz23_2, hcz23_3, hfz23_0, hfz23_1, hfz23_2, hfz23_3⟩ := zc4 BK298) | ((with_reducible refine gate_callee (f := 95) rfl ?_); refine goesL_ (some 13) rfl rfl Try.func95 (by kernel_rfl) rfl #[.agg #[.int .i64 a0_0, .int .i64 a0_1, .bool a0_2, .bool a0_3], .int .i64 a2, .int .i64 a3] rfl zm ?_; (with_reducible refine (spec_arJoined.calls a0_0 a0_1 a0_2 a0_3 a2 a3 false _ A5.out).mono ?_); rintro e w24 ⟨rfl, hb⟩; refine ⟨_, rfl, ?_⟩; replace BK298 := zKb BK298 hb; replace HB := Aside0.mk (below_step (zB1 HB GE298) hb); (try clear hb); (try clear hb2); (try clear hk); (try clear hi)))
  go_ret2
  exact ⟨_, zt, by first | exact Kd.R_nil _ _ _ _ _ | exact Kd.N_nil _ _ _ _ _ | exact Kd.V_nil _ _ _ _ _ | exact Kd.Q_nil _ _ _ _ _ | exact Kd.S_nil _ _ _ _ _, zB1 HB GE298⟩

/-! ### impl_OrbitLength: function 47 -/
def impl_OrbitLength.f (k : Nat) (a0_0 : Int) (a0_1 : Int) (a0_2 : Bool) (a0_3 : Bool) (a1 : Int) (a2 : Int) : Option (Int × Bool) := (impl_OrbitOf.f k a0_0 a0_1 a0_2 a0_3 0 a1 a2).bind fun bt305 => (some ((bt305.1.length : Int), bt305.2))
theorem impl_OrbitLength.mono : ∀ a0 a1 a2 a3 a4 a5 k, LeO (impl_OrbitLength.f k a0 a1 a2 a3 a4 a5) (impl_OrbitLength.f (k + 1) a0 a1 a2 a3 a4 a5) := by
 intro a0 a1 a2 a3 a4 a5 k
 unfold impl_OrbitLength.f
 repeat' first
   | (with_reducible exact impl_OrbitOf.mono _ _ _ _ _ _ _ _)
   | (with_reducible exact LeO.refl _)
   | (with_reducible exact LeO.none _)
   | (with_reducible refine LeO.ite ?_ ?_)
   | (with_reducible refine LeO.bind ?_ (fun _ => ?_))
   | exact impl_OrbitOf.mono _ _ _ _ _ _ _ _
   | exact LeO.none _
   | refine LeO.ite ?_ ?_
   | refine LeO.bind ?_ (fun _ => ?_)
set_option maxHeartbeats 8000000 in
set_option maxRecDepth 100000 in
theorem impl_OrbitLength.calls (k : Nat) (a0_0 : Int) (a0_1 : Int) (a0_2 : Bool) (a0_3 : Bool) (a1 : Int) (a2 : Int) (r1 : Int) (r2 : Bool) (w : World) (h : impl_OrbitLength.f k a0_0 a0_1 a0_2 a0_3 a1 a2 = some (r1, r2)) :
  Calls Try.prog 47 #[.agg #[.int .i64 a0_0, .int .i64 a0_1, .bool a0_2, .bool a0_3], .int .i64 a1, .int .i64 a2] w fun e w' => e = .returned (.tuple #[.int .i64 r1, .bool r2]) ∧ Below w.heap.size w w' := by
 have hu28 := Try.underlying28
 have HB := Aside0.mk (Below.refl w.heap.size w)
 have H : ((impl_OrbitOf.f k a0_0 a0_1 a0_2 a0_3 0 a1 a2).bind fun bt305 => (some ((bt305.1.length : Int), bt305.2))) = some (r1, r2) := h
 clear h
 replace H := Option.bind_eq_some_iff.mp H
 obtain ⟨⟨t305, t308⟩, A40, H⟩ := H
 try dsimp only at H
 have A4 := Aside0.mk A40
 clear A40
 simp only [Option.some.injEq, Prod.mk.injEq] at H
 obtain ⟨rfl, rfl⟩ := H
 go_enter Try.func47, Try.ntmps47
 go_wp2_with (first | ((with_reducible refine gate_dst (N := 3) rfl ?_); refine box_event ?hg (N := 3) ?hd (cs := #[.int .i64 a0_0, .int .i64 a0_1, .bool a0_2, .bool a0_3]) (t := 28) ?hr ?_; (case hd => rfl); (case hg => rfl); (case hr => first | (go_simp; done) | (go_simp; rfl)); intro gb304 hg w5 hbox hb; have BK304 := Aside0.mk (hbox); have GW304 := Aside0.mk (zG hg (below_size (zB0 HB)) : w.heap.size ≤ gb304); have GE304 := Aside0.mk (zG hg (below_size (zB0 HB)) : w.heap.size ≤ gb304); replace HB := Aside0.mk (below_step (zB0 HB) hb); clear hb hbox hg; obtain ⟨hcz6_0, hcz6_1, hcz6_2, hcz6_3, hfz6_0, hfz6_1, hfz6_2, hfz6_3⟩ := zc4 BK304) | ((with_reducible refine gate_callee (f := 45) rfl ?_); refine goesL_ (some 14) rfl rfl Try.func45 (by kernel_rfl) rfl #[.agg #[.int .i64 a0_0, .int .i64 a0_1, .bool a0_2, .bool a0_3], .int .i64 0, .int .i64 a1, .int .i64 a2] rfl zm ?_; (with_reducible refine (impl_OrbitOf.calls k a0_0 a0_1 a0_2 a0_3 0 a1 a2 t305 t308 _ A4.out).mono ?_); rintro e w7 ⟨v306, rfl, ho0, hb⟩; refine ⟨_, rfl, ?_⟩; have HO307 := Aside0.mk (Kd.R_lower ho0 (below_size (zB1 HB GE304))); replace BK304 := zKb BK304 hb; replace HB := Aside0.mk (below_step (zB1 HB GE304) hb); (try clear hb); (try clear hb2); (try clear hk); (try clear hi); (try clear ho0); obtain ⟨Ao8, co8, eo8⟩ := Kd.R_slice HO307.out; subst eo8))
 go_ret2
 exact ⟨zt, zB1 HB GE304⟩

/-! ### spec_OrbitLength: function 48 -/
def spec_OrbitLength.f (k : Nat) (a0_0 : Int) (a0_1 : Int) (a0_2 : Bool) (a0_3 : Bool) (a1 : Int) (a2 : Int) : Option (Int × Bool) := (spec_arJoined.f a0_0 a0_1 a0_2 a0_3 a1 a2).bind fun t310 => (if t310 = true then ((spec_arOrbit.f k a0_0 a0_1 a0_2 a0_3 0 a1 a2).bind fun t311 => (some ((t311.length : Int), true))) else (some (0, false)))
theorem spec_OrbitLength.mono : ∀ a0 a1 a2 a3 a4 a5 k, LeO (spec_OrbitLength.f k a0 a1 a2 a3 a4 a5) (spec_OrbitLength.f (k + 1) a0 a1 a2 a3 a4 a5) := by
 intro a0 a1 a2 a3 a4 a5 k
 unfold spec_OrbitLength.f
 repeat' first
   | (with_reducible exact spec_arOrbit.mono _ _ _ _ _ _ _ _)
   | (with_reducible exact LeO.refl _)
   | (with_reducible exact LeO.none _)
   | (with_reducible refine LeO.ite ?_ ?_)
   | (with_reducible refine LeO.bind ?_ (fun _ => ?_))
   | exact spec_arOrbit.mono _ _ _ _ _ _ _ _
   | exact LeO.none _
   | refine LeO.ite ?_ ?_
   | refine LeO.bind ?_ (fun _ => ?_)
set_option maxHeartbeats 8000000 in
set_option maxRecDepth 100000 in
theorem spec_OrbitLength.calls (k : Nat) (a0_0 : Int) (a0_1 : Int) (a0_2 : Bool) (a0_3 : Bool) (a1 : Int) (a2 : Int) (r1 : Int) (r2 : Bool) (w : World) (h : spec_OrbitLength.f k a0_0 a0_1 a0_2 a0_3 a1 a2 = some (r1, r2)) :
  Calls Try.prog 48 #[.agg #[.int .i64 a0_0, .int .i64 a0_1, .bool a0_2, .bool a0_3], .int .i64 a1, .int .i64 a2] w fun e w' => e = .returned (.tuple #[.int .i64 r1, .bool r2]) ∧ Below w.heap.size w w' := by
 have hu28 := Try.underlying28
 have HB := Aside0.mk (Below.refl w.heap.size w)
 have H : ((spec_arJoined.f a0_0 a0_1 a0_2 a0_3 a1 a2).bind fun t310 => (if t310 = true then ((spec_arOrbit.f k a0_0 a0_1 a0_2 a0_3 0 a1 a2).bind fun t311 => (some ((t311.length : Int), true))) else (some (0, false)))) = some (r1, r2) := h
 clear h
 replace H := Option.bind_eq_some_iff.mp H
 obtain ⟨t310, A40, H⟩ := H
 try dsimp only at H
 have A4 := Aside0.mk A40
 clear A40
 by_cases c5 : t310 = true
 ·subst c5
  have H1 : ((spec_arOrbit.f k a0_0 a0_1 a0_2 a0_3 0 a1 a2).bind fun t311 => (some ((t311.length : Int), true))) = some (r1, r2) := by rw [if_pos rfl] at H; exact H
  clear H
  have H := H1
  clear H1
  replace H := Option.bind_eq_some_iff.mp H
  obtain ⟨t311, A60, H⟩ := H
  try dsimp only at H
  have A6 := Aside0.mk A60
  clear A60
  simp only [Option.some.injEq, Prod.mk.injEq] at H
  obtain ⟨rfl, rfl⟩ := H
  go_enter Try.func48, Try.ntmps48
  go_wp2_with (first | ((with_reducible refine gate_dst (N := 3) rfl ?_); refine box_event ?hg (N := 3) ?hd (cs := #[.int .i64 a0_0, .int .i64 a0_1, .bool a0_2, .bool a0_3]) (t := 28) ?hr ?_; (case hd => rfl); (case hg => rfl); (case hr => first | (go_simp; done) | (go_simp; rfl)); intro gb309 hg w7 hbox hb; have BK309 := Aside0.mk (hbox); have GW309 := Aside0.mk (zG hg (below_size (zB0 HB)) : w.heap.size ≤ gb309); have GE309 := Aside0.mk (zG hg (below_size (zB0 HB)) : w.heap.size ≤ gb309); replace HB := Aside0.mk (below_step (zB0 HB) hb); clear hb hbox hg; obtain ⟨hcz8_0, hcz8_1, hcz8_2, hcz8_3, hfz8_0, hfz8_1, hfz8_2, hfz8_3⟩ := zc4 BK309) | ((with_reducible refine gate_callee (f := 95) rfl ?_); refine goesL_ (some 11) rfl rfl Try.func95 (by kernel_rfl) rfl #[.agg #[.int .i64 a0_0, .int .i64 a0_1, .bool a0_2, .bool a0_3], .int .i64 a1, .int .i64 a2] rfl zm ?_; (with_reducible refine (spec_arJoined.calls a0_0 a0_1 a0_2 a0_3 a1 a2 true _ A4.out).mono ?_); rintro e w9 ⟨rfl, hb⟩; refine ⟨_, rfl, ?_⟩; replace BK309 := zKb BK309 hb; replace HB := Aside0.mk (below_step (zB1 HB GE309) hb); (try clear hb); (try clear hb2); (try clear hk); (try clear hi); obtain ⟨hcz10_0, hcz10_1, hcz10_2, hcz10_3, hfz10_0, hfz10_1, hfz10_2, hfz10_3⟩ := zc4 BK309) | ((with_reducible refine gate_callee (f := 97) rfl ?_); refine goesL_ (some 16) rfl rfl Try.func97 (by kernel_rfl) rfl #[.agg #[.int .i64 a0_0, .int .i64 a0_1, .bool a0_2, .bool a0_3], .int .i64 0, .int .i64 a1, .int .i64 a2] rfl zm ?_; (with_reducible refine (spec_arOrbit.calls k a0_0 a0_1 a0_2 a0_3 0 a1 a2 t311 _ A6.out).mono ?_); rintro e w11 ⟨v312, rfl, ho0, hb⟩; refine ⟨_, rfl, ?_⟩; have HO313 := Aside0.mk (Kd.R_lower ho0 (below_size (zB1 HB GE309))); replace BK309 := zKb BK309 hb; replace HB := Aside0.mk (below_step (zB1 HB GE309) hb); (try clear hb); (try clear hb2); (try clear hk); (try clear hi); (try clear ho0); obtain ⟨Ao12, co12, eo12⟩ := Kd.R_slice HO313.out; subst eo12))
  go_ret2
  exact ⟨zt, zB1 HB GE309⟩
 ·replace c5 := Bool.eq_false_iff.mpr c5
  subst c5
  have H1 : (some (0, false)) = some (r1, r2) := by rw [if_neg (show ¬ (false = true) by decide)] at H; exact H
  clear H
  have H := H1
  clear H1
  simp only [Option.some.injEq, Prod.mk.injEq] at H
  obtain ⟨rfl, rfl⟩ := H
  go_enter Try.func48, Try.ntmps48
  go_wp2_with (first | ((with_reducible refine gate_dst (N := 3) rfl ?_); refine box_event ?hg (N := 3) ?hd (cs := #[.int .i64 a0_0, .int .i64 a0_1, .bool a0_2, .bool a0_3]) (t := 28) ?hr ?_; (case hd => rfl); (case hg => rfl); (case hr => first | (go_simp; done) | (go_simp; rfl)); intro gb309 hg w13 hbox hb; have BK309 := Aside0.mk (hbox); have GW309 := Aside0.mk (zG hg (below_size (zB0 HB)) : w.heap.size ≤ gb309); have GE309 := Aside0.mk (zG hg (below_size (zB0 HB)) : w.heap.size ≤ gb309); replace HB := Aside0.mk (below_step (zB0 HB) hb); clear hb hbox hg; obtain ⟨hcz14_0, hcz14_1, hcz14_2, hcz14_3, hfz14_0, hfz14_1, hfz14_2, hfz14_3⟩ := zc4 BK309) | ((with_reducible refine gate_callee (f := 95) rfl ?_); refine goesL_ (some 11) rfl rfl Try.func95 (by kernel_rfl) rfl #[.agg #[.int .i64 a0_0, .int .i64 a0_1, .bool a0_2, .bool a0_3], .int .i64 a1, .int .i64 a2] rfl zm ?_; (with_reducible refine (spec_arJoined.calls a0_0 a0_1 a0_2 a0_3 a1 a2 false _ A4.out).mono ?_); rintro e w15 ⟨rfl, hb⟩; refine ⟨_, rfl, ?_⟩; replace BK309 := zKb BK309 hb; replace HB := Aside0.mk (below_step (zB1 HB GE309) hb); (try clear hb); (try clear hb2); (try clear hk); (try clear hi)))
  go_ret2
  exact ⟨zt, zB1 HB GE309⟩

/-! ### impl_CountOrbits: function 49 -/
def impl_CountOrbits.f (k : Nat) (a0_0 : Int) (a0_1 : Int) (a0_2 : Bool) (a0_3 : Bool) (a1 : Int) (a2 : Int) : Option (Int × Bool) := (impl_OrbitOf.f k a0_0 a0_1 a0_2 a0_3 0 a1 a2).bind fun bt315 => (if bt315.2 = true then (if (bt315.1.length : Int) = 0 then (none) else (some (wrap64 (Int.tdiv (wrap64 (a0_0 * a0_1)) (bt315.1.length : Int)), true))) else (some (0, false)))
theorem impl_CountOrbits.mono : ∀ a0 a1 a2 a3 a4 a5 k, LeO (impl_CountOrbits.f k a0 a1 a2 a3 a4 a5) (impl_CountOrbits.f (k + 1) a0 a1 a2 a3 a4 a5) := by
 intro a0 a1 a2 a3 a4 a5 k
 unfold impl_CountOrbits.f
 repeat' first
   | (with_reducible exact impl_OrbitOf.mono _ _ _ _ _ _ _ _)
   | (with_reducible exact LeO.refl _)
   | (with_reducible exact LeO.none _)
   | (with_reducible refine LeO.ite ?_ ?_)
   | (with_reducible refine LeO.bind ?_ (fun _ => ?_))
   | exact impl_OrbitOf.mono _ _ _ _ _ _ _ _
   | exact LeO.none _
   | refine LeO.ite ?_ ?_
   | refine LeO.bind ?_ (fun _ => ?_)
set_option maxHeartbeats 8000000 in
set_option maxRecDepth 100000 in
theorem impl_CountOrbits.calls (k : Nat) (a0_0 : Int) (a0_1 : Int) (a0_2 : Bool) (a0_3 : Bool) (a1 : Int) (a2 : Int) (r1 : Int) (r2 : Bool) (w : World) (h : impl_CountOrbits.f k a0_0 a0_1 a0_2 a0_3 a1 a2 = some (r1, r2)) :
  Calls Try.prog 49 #[.agg #[.int .i64 a0_0, .int .i64 a0_1, .bool a0_2, .bool a0_3], .int .i64 a1, .int .i64 a2] w fun e w' => e = .returned (.tuple #[.int .i64 r1, .bool r2]) ∧ Below w.heap.size w w' := by
 have hu28 := Try.underlying28
 have HB := Aside0.mk (Below.refl w.heap.size w)
 have H : ((impl_OrbitOf.f k a0_0 a0_1 a0_2 a0_3 0 a1 a2).bind fun bt315 => (if bt315.2 = true then (if (bt315.1.length : Int) = 0 then (none) else (some (wrap64 (Int.tdiv (wrap64 (a0_0 * a0_1)) (bt315.1.length : Int)), true))) else (some (0, false)))) = some (r1, r2) := h
 clear h
 replace H := Option.bind_eq_some_iff.mp H
 obtain ⟨⟨t315, t318⟩, A40, H⟩ := H
 try dsimp only at H
 have A4 := Aside0.mk A40
 clear A40
 by_cases c5 : t318 = true
 ·subst c5
  have H1 : (if (t315.length : Int) = 0 then (none) else (some (wrap64 (Int.tdiv (wrap64 (a0_0 * a0_1)) (t315.length : Int)), true))) = some (r1, r2) := by rw [if_pos rfl] at H; exact H
  clear H
  have H := H1
  clear H1
  by_cases c6 : (t315.length : Int) = 0
  ·rw [if_pos c6] at H
   exact absurd H (by simp)
  ·rw [if_neg c6] at H
   have c6b0 : ((t315.length : Int) == 0) = false := beq_eq_false_iff_ne.mpr c6
   have c6b1 : ((t315.length : Int) != 0) = true := bne_iff_ne.mpr c6
   have c6b2 : ¬ (t315 = []) := fun h_ => c6 (by rw [h_]; rfl)
   simp only [Option.some.injEq, Prod.mk.injEq] at H
   obtain ⟨rfl, rfl⟩ := H
   go_enter Try.func49, Try.ntmps49
   go_wp2_with (first | ((with_reducible refine gate_dst (N := 3) rfl ?_); refine box_event ?hg (N := 3) ?hd (cs := #[.int .i64 a0_0, .int .i64 a0_1, .bool a0_2, .bool a0_3]) (t := 28) ?hr ?_; (case hd => rfl); (case hg => rfl); (case hr => first | (go_simp; done) | (go_simp; rfl)); intro gb314 hg w7 hbox hb; have BK314 := Aside0.mk (hbox); have GW314 := Aside0.mk (zG hg (below_size (zB0 HB)) : w.heap.size ≤ gb314); have GE314 := Aside0.mk (zG hg (below_size (zB0 HB)) : w.heap.size ≤ gb314); replace HB := Aside0.mk (below_step (zB0 HB) hb); clear hb hbox hg; obtain ⟨hcz8_0, hcz8_1, hcz8_2, hcz8_3, hfz8_0, hfz8_1, hfz8_2, hfz8_3⟩ := zc4 BK314) | ((with_reducible refine gate_callee (f := 45) rfl ?_); refine goesL_ (some 14) rfl rfl Try.func45 (by kernel_rfl) rfl #[.agg #[.int .i64 a0_0, .int .i64 a0_1, .bool a0_2, .bool a0_3], .int .i64 0, .int .i64 a1, .int .i64 a2] rfl zm ?_; (with_reducible refine (impl_OrbitOf.calls k a0_0 a0_1 a0_2 a0_3 0 a1 a2 t315 true _ A4.out).mono ?_); rintro e w9 ⟨v316, rfl, ho0, hb⟩; refine ⟨_, rfl, ?_⟩; have HO317 := Aside0.mk (Kd.R_lower ho0 (below_size (zB1 HB GE314))); replace BK314 := zKb BK314 hb; replace HB := Aside0.mk (below_step (zB1 HB GE314) hb); (try clear hb); (try clear hb2); (try clear hk); (try clear hi); (try clear ho0); obtain ⟨hcz10_0, hcz10_1, hcz10_2, hcz10_3, hfz10_0, hfz10_1, hfz10_2, hfz10_3⟩ := zc4 BK314; obtain ⟨Ao11, co11, eo11⟩ := Kd.R_slice HO317.out; subst eo11))
   go_ret2
   exact ⟨zt, zB1 HB GE314⟩
 ·replace c5 := Bool.eq_false_iff.mpr c5
  subst c5
  have H1 : (some (0, false)) = some (r1, r2) := by rw [if_neg (show ¬ (false = true) by decide)] at H; exact H
  clear H
  have H := H1
  clear H1
  simp only [Option.some.injEq, Prod.mk.injEq] at H
  obtain ⟨rfl, rfl⟩ := H
  go_enter Try.func49, Try.ntmps49
  go_wp2_with (first | ((with_reducible refine gate_dst (N := 3) rfl ?_); refine box_event ?hg (N := 3) ?hd (cs := #[.int .i64 a0_0, .int .i64 a0_1, .bool a0_2, .bool a0_3]) (t := 28) ?hr ?_; (case hd => rfl); (case hg => rfl); (case hr => first | (go_simp; done) | (go_simp; rfl)); intro gb314 hg w12 hbox hb; have BK314 := Aside0.mk (hbox); have GW314 := Aside0.mk (zG hg (below_size (zB0 HB)) : w.heap.size ≤ gb314); have GE314 := Aside0.mk (zG hg (below_size (zB0 HB)) : w.heap.size ≤ gb314); replace HB := Aside0.mk (below_step (zB0 HB) hb); clear hb hbox hg; obtain ⟨hcz13_0, hcz13_1, hcz13_2, hcz13_3, hfz13_0, hfz13_1, hfz13_2, hfz13_3⟩ := zc4 BK314) | ((with_reducible refine gate_callee (f := 45) rfl ?_); refine goesL_ (some 14) rfl rfl Try.func45 (by kernel_rfl) rfl #[.agg #[.int .i64 a0_0, .int .i64 a0_1, .bool a0_2, .bool a0_3], .int .i64 0, .int .i64 a1, .int .i64 a2] rfl zm ?_; (with_reducible refine (impl_OrbitOf.calls k a0_0 a0_1 a0_2 a0_3 0 a1 a2 t315 false _ A4.out).mono ?_); rintro e w14 ⟨v316, rfl, ho0, hb⟩; refine ⟨_, rfl, ?_⟩; have HO317 := Aside0.mk (Kd.R_lower ho0 (below_size (zB1 HB GE314))); replace BK314 := zKb BK314 hb; replace HB := Aside0.mk (below_step (zB1 HB GE314) hb); (try clear hb); (try clear hb2); (try clear hk); (try clear hi); (try clear ho0)))
  go_ret2
  exact ⟨zt, zB1 HB GE314⟩

/-! ### spec_CountOrbits: function 50 -/
def spec_CountOrbits.f (k : Nat) (a0_0 : Int) (a0_1 : Int) (a0_2 : Bool) (a0_3 : Bool) (a1 : Int) (a2 : Int) : Option (Int × Bool) := (spec_arJoined.f a0_0 a0_1 a0_2 a0_3 a1 a2).bind fun t320 => (if t320 = true then ((spec_arOrbit.f k a0_0 a0_1 a0_2 a0_3 0 a1 a2).bind fun t321 => (if (t321.length : Int) = 0 then (none) else (some (wrap64 (Int.tdiv (wrap64 (a0_0 * a0_1)) (t321.length : Int)), true)))) else (some (0, false)))
theorem spec_CountOrbits.mono : ∀ a0 a1 a2 a3 a4 a5 k, LeO (spec_CountOrbits.f k a0 a1 a2 a3 a4 a5) (spec_CountOrbits.f (k + 1) a0 a1 a2 a3 a4 a5) := by
 intro a0 a1 a2 a3 a4 a5 k
 unfold spec_CountOrbits.f
 repeat' first
   | (with_reducible exact spec_arOrbit.mono _ _ _ _ _ _ _ _)
   | (with_reducible exact LeO.refl _)
   | (with_reducible exact LeO.none _)
   | (with_reducible refine LeO.ite ?_ ?_)
   | (with_reducible refine LeO.bind ?_ (fun _ => ?_))
   | exact spec_arOrbit.mono _ _ _ _ _ _ _ _
   | exact LeO.none _
   | refine LeO.ite ?_ ?_
   | refine LeO.bind ?_ (fun _ => ?_)
def spec_CountOrbits.T3 : Bool × List (List Nat × List Nat) := (true, [([], []), ([0], [0]), ([], []), ([2], [2]), ([1, 3], [1, 3]), ([], []), ([], []), ([], []), ([5, 6, 7], [5, 6, 7]), ([8], [8]), ([4, 9], [4, 9]), ([10, 8, 0, 1, 2, 3, 4, 5, 6, 7, 8, 9, 10], [10]), ([11, 0, 1, 2, 3, 4, 5, 6, 7, 8, 9, 10, 11], [])])
def spec_CountOrbits.B3 : List Nat := [0, 1, 0, 4, 15, 0, 0, 0, 224, 480, 1023, 2047, 4095]
theorem spec_CountOrbits.tab3 : rtab .any (opsOf Try.f50 3) = spec_CountOrbits.T3 := by kernel_rfl
theorem spec_CountOrbits.bits3 : waitsOk spec_CountOrbits.T3.2 spec_CountOrbits.B3 = true := by kernel_rfl
set_option maxHeartbeats 8000000 in
set_option maxRecDepth 100000 in
theorem spec_CountOrbits.calls (k : Nat) (a0_0 : Int) (a0_1 : Int) (a0_2 : Bool) (a0_3 : Bool) (a1 : Int) (a2 : Int) (r1 : Int) (r2 : Bool) (w : World) (h : spec_CountOrbits.f k a0_0 a0_1 a0_2 a0_3 a1 a2 = some (r1, r2)) :
  Calls Try.prog 50 #[.agg #[.int .i64 a0_0, .int .i64 a0_1, .bool a0_2, .bool a0_3], .int .i64 a1, .int .i64 a2] w fun e w' => e = .returned (.tuple #[.int .i64 r1, .bool r2]) ∧ Below w.heap.size w w' := by
 have hu28 := Try.underlying28
 have HB := Aside0.mk (Below.refl w.heap.size w)
 have H : ((spec_arJoined.f a0_0 a0_1 a0_2 a0_3 a1 a2).bind fun t320 => (if t320 = true then ((spec_arOrbit.f k a0_0 a0_1 a0_2 a0_3 0 a1 a2).bind fun t321 => (if (t321.length : Int) = 0 then (none) else (some (wrap64 (Int.tdiv (wrap64 (a0_0 * a0_1)) (t321.length : Int)), true)))) else (some (0, false)))) = some (r1, r2) := h
 clear h
 replace H := Option.bind_eq_some_iff.mp H
 obtain ⟨t320, A40, H⟩ := H
 try dsimp only at H
 have A4 := Aside0.mk A40
 clear A40
 by_cases c5 : t320 = true
 ·subst c5
  have H1 : ((spec_arOrbit.f k a0_0 a0_1 a0_2 a0_3 0 a1 a2).bind fun t321 => (if (t321.length : Int) = 0 then (none) else (some (wrap64 (Int.tdiv (wrap64 (a0_0 * a0_1)) (t321.length : Int)), true)))) = some (r1, r2) := by rw [if_pos rfl] at H; exact H
  clear H
  have H := H1
  clear H1
  replace H := Option.bind_eq_some_iff.mp H
  obtain ⟨t321, A60, H⟩ := H
  try dsimp only at H
  have A6 := Aside0.mk A60
  clear A60
  by_cases c7 : (t321.length : Int) = 0
  ·rw [if_pos c7] at H
   exact absurd H (by simp)
  ·rw [if_neg c7] at H
   have c7b0 : ((t321.length : Int) == 0) = false := beq_eq_false_iff_ne.mpr c7
   have c7b1 : ((t321.length : Int) != 0) = true := bne_iff_ne.mpr c7
   have c7b2 : ¬ (t321 = []) := fun h_ => c7 (by rw [h_]; rfl)
   simp only [Option.some.injEq, Prod.mk.injEq] at H
   obtain ⟨rfl, rfl⟩ := H
   go_enter Try.func50, Try.ntmps50
   try go_wp2_with (first | ((with_reducible refine gate_dst (N := 3) rfl ?_); refine box_event ?hg (N := 3) ?hd (cs := #[.int .i64 a0_0, .int .i64 a0_1, .bool a0_2, .bool a0_3]) (t := 28) ?hr ?_; (case hd => rfl); (case hg => rfl); (case hr => first | (go_simp; done) | (go_simp; rfl)); intro gb319 hg w8 hbox hb; have BK319 := Aside0.mk (hbox); have GW319 := Aside0.mk (zG hg (below_size (zB0 HB)) : w.heap.size ≤ gb319); have GE319 := Aside0.mk (zG hg (below_size (zB0 HB)) : w.heap.size ≤ gb319); replace HB := Aside0.mk (below_step (zB0 HB) hb); clear hb hbox hg; obtain ⟨hcz9_0, hcz9_1, hcz9_2, hcz9_3, hfz9_0, hfz9_1, hfz9_2, hfz9_3⟩ := zc4 BK319) | ((with_reducible refine gate_callee (f := 95) rfl ?_); refine goesL_ (some 11) rfl rfl Try.func95 (by kernel_rfl) rfl #[.agg #[.int .i64 a0_0, .int .i64 a0_1, .bool a0_2, .bool a0_3], .int .i64 a1, .int .i64 a2] rfl zm ?_; (with_reducible refine (spec_arJoined.calls a0_0 a0_1 a0_2 a0_3 a1 a2 true _ A4.out).mono ?_); rintro e w10 ⟨rfl, hb⟩; refine ⟨_, rfl, ?_⟩; replace BK319 := zKb BK319 hb; replace HB := Aside0.mk (below_step (zB1 HB GE319) hb); (try clear hb); (try clear hb2); (try clear hk); (try clear hi)))
   replace BK319 := Aside0.mk (blk_drew BK319.out)
   replace HB := Aside0.mk (below_drew1 HB.out)
   refine start_ (n := 13) (S := fun w' => w'.cell? ⟨gb319, 0, none⟩ = some (.int .i64 a0_0) ∧ w'.cell? ⟨gb319, 1, none⟩ = some (.int .i64 a0_1) ∧ w'.cell? ⟨gb319, 2, none⟩ = some (.bool a0_2) ∧ w'.cell? ⟨gb319, 3, none⟩ = some (.bool a0_3)) (ds := []) #[false, false, false, false, false, false, false, false, false, false, false, false, false] (by kernel_rfl) rfl rfl ⟨(blk_cell BK319.out 0).trans rfl, (blk_cell BK319.out 1).trans rfl, (blk_cell BK319.out 2).trans rfl, (blk_cell BK319.out 3).trans rfl⟩ (fun hHeld => ?_); refine with_tabW spec_CountOrbits.tab3 spec_CountOrbits.bits3 (fun HT_ HW_ => ?_)
   generalize w10.drew = w11 at BK319 HB hHeld ⊢
   refine pure_ (i := 0) (N := some 13) #[true, false, false, false, false, false, false, false, false, false, false, false, false] rfl rfl (any_of HT_.out (by kernel_rfl)) (fun _ _ _ h => h) (Or.inl ⟨by rfl, zv⟩) zs ?_
   refine pure_ (i := 2) (N := some 15) #[true, false, true, false, false, false, false, false, false, false, false, false, false] rfl rfl (any_of HT_.out (by kernel_rfl)) (fun _ _ _ h => h) (Or.inl ⟨by rfl, zv⟩) zs ?_
   refine pure_ (i := 6) (N := some 19) #[true, false, true, false, false, false, true, false, false, false, false, false, false] rfl rfl (any_of HT_.out (by kernel_rfl)) (fun _ _ _ h => h) (Or.inl ⟨by rfl, zv⟩) zs ?_
   refine pure_ (i := 7) (N := some 20) #[true, false, true, false, false, false, true, true, false, false, false, false, false] rfl rfl (any_of HT_.out (by kernel_rfl)) (fun _ _ _ h => h) (Or.inl ⟨by rfl, zv⟩) zs ?_
   refine take_ (i := 1) (N := some 14) #[true, true, true, false, false, false, true, true, false, false, false, false, false] rfl rfl (take_ofW HT_.out HW_.out (by kernel_rfl)) (fun _ _ _ h => h) (Or.inl ⟨by rfl, zu4⟩) hHeld zs ?_
   refine take_ (i := 3) (N := some 16) #[true, true, true, true, false, false, true, true, false, false, false, false, false] rfl rfl (take_ofW HT_.out HW_.out (by kernel_rfl)) (fun _ _ _ h => h) (Or.inl ⟨by rfl, zu4⟩) hHeld zs ?_
   refine pure_ (i := 4) (N := some 17) #[true, true, true, true, true, false, true, true, false, false, false, false, false] rfl rfl (any_of HT_.out (by kernel_rfl)) (fun _ _ _ h => h) (Or.inl ⟨by rfl, zv⟩) zs ?_
   refine take_ (i := 5) (N := some 18) #[true, true, true, true, true, true, true, true, false, false, false, false, false] rfl rfl (take_ofW HT_.out HW_.out (by kernel_rfl)) (fun _ _ _ h => h) (Or.inl ⟨by rfl, zu4⟩) hHeld zs ?_
   refine one_ (i := 8) (N := some 21) #[true, true, true, true, true, true, true, true, true, false, false, false, false] rfl rfl (one_of HT_.out (by kernel_rfl)) (by decide) (fun K hK => ?_)
   refine goes_ Try.func97 (by kernel_rfl) rfl #[.agg #[.int .i64 a0_0, .int .i64 a0_1, .bool a0_2, .bool a0_3], .int .i64 0, .int .i64 a1, .int .i64 a2] (by rfl) rfl rfl zm ?_
   with_reducible refine (spec_arOrbit.calls k a0_0 a0_1 a0_2 a0_3 0 a1 a2 t321 _ A6.out).mono ?_
   rintro e w12 ⟨v322, rfl, ho0, hb⟩
   refine ⟨_, rfl, ?_⟩
   have HO323 := Aside0.mk (Kd.R_lower ho0 (below_size (zB1 HB GE319)))
   replace BK319 := zKb BK319 hb
   replace HB := Aside0.mk (below_step (zB1 HB GE319) hb)
   (try clear hb); (try clear hb2); (try clear hk); (try clear hi); (try clear ho0)
   obtain ⟨Ao13, co13, eo13⟩ := Kd.R_slice HO323.out
   (first | subst eo13 | (injection eo13 with f1_ f2_ f3_; have f4_ := f1_.symm; have f5_ := f3_.symm; clear f1_ f2_ f3_; subst f4_; subst f5_))
   refine hK.out _ _ ⟨(blk_cell BK319.out 0).trans rfl, (blk_cell BK319.out 1).trans rfl, (blk_cell BK319.out 2).trans rfl, (blk_cell BK319.out 3).trans rfl⟩ (fun hHeld => ?_)
   clear hK K
   refine norm_ (a' := ?_) ?_ ?_
   rotate_left
   ·show Act.put _ (some 21) _ = _
    simp only [Act.put, List.setIfInBounds_toArray, List.set_cons_zero, List.set_cons_succ, i64_w, i32_w]
    rfl
   refine pure_ (i := 9) (N := some 22) #[true, true, true, true, true, true, true, true, true, true, false, false, false] rfl rfl (any_of HT_.out (by kernel_rfl)) (fun _ _ _ h => h) (Or.inl ⟨by rfl, zv⟩) zs ?_
   refine pure_ (i := 10) (N := some 23) #[true, true, true, true, true, true, true, true, true, true, true, false, false] rfl rfl (any_of HT_.out (by kernel_rfl)) (fun _ _ _ h => h) (Or.inl ⟨by rfl, zv⟩) zs ?_
   refine pure_ (i := 11) (N := some 6) #[true, true, true, true, true, true, true, true, true, true, true, true, false] rfl rfl (any_of HT_.out (by kernel_rfl)) (fun _ _ _ h => h) (Or.inl ⟨by rfl, zv⟩) zs ?_
   refine pure_ (i := 12) (N := some 7) #[true, true, true, true, true, true, true, true, true, true, true, true, true] rfl rfl (any_of HT_.out (by kernel_rfl)) (fun _ _ _ h => h) (Or.inl ⟨by rfl, zv⟩) zs ?_
   refine done_ (done_of HT_.out (by kernel_rfl)) ?_
   try go_wp2
   go_ret2
   exact ⟨zt, zB1 HB GE319⟩
 ·replace c5 := Bool.eq_false_iff.mpr c5
  subst c5
  have H1 : (some (0, false)) = some (r1, r2) := by rw [if_neg (show ¬ (false = true) by decide)] at H; exact H
  clear H
  have H := H1
  clear H1
  simp only [Option.some.injEq, Prod.mk.injEq] at H
  obtain ⟨rfl, rfl⟩ := H
  go_enter Try.func50, Try.ntmps50
  go_wp2_with (first | ((with_reducible refine gate_dst (N := 3) rfl ?_); refine box_event ?hg (N := 3) ?hd (cs := #[.int .i64 a0_0, .int .i64 a0_1, .bool a0_2, .bool a0_3]) (t := 28) ?hr ?_; (case hd => rfl); (case hg => rfl); (case hr => first | (go_simp; done) | (go_simp; rfl)); intro gb319 hg w14 hbox hb; have BK319 := Aside0.mk (hbox); have GW319 := Aside0.mk (zG hg (below_size (zB0 HB)) : w.heap.size ≤ gb319); have GE319 := Aside0.mk (zG hg (below_size (zB0 HB)) : w.heap.size ≤ gb319); replace HB := Aside0.mk (below_step (zB0 HB) hb); clear hb hbox hg; obtain ⟨hcz15_0, hcz15_1, hcz15_2, hcz15_3, hfz15_0, hfz15_1, hfz15_2, hfz15_3⟩ := zc4 BK319) | ((with_reducible refine gate_callee (f := 95) rfl ?_); refine goesL_ (some 11) rfl rfl Try.func95 (by kernel_rfl) rfl #[.agg #[.int .i64 a0_0, .int .i64 a0_1, .bool a0_2, .bool a0_3], .int .i64 a1, .int .i64 a2] rfl zm ?_; (with_reducible refine (spec_arJoined.calls a0_0 a0_1 a0_2 a0_3 a1 a2 false _ A4.out).mono ?_); rintro e w16 ⟨rfl, hb⟩; refine ⟨_, rfl, ?_⟩; replace BK319 := zKb BK319 hb; replace HB := Aside0.mk (below_step (zB1 HB GE319) hb); (try clear hb); (try clear hb2); (try clear hk); (try clear hi)))
  go_ret2
  exact ⟨zt, zB1 HB GE319⟩

/-! ### laws_nSame: function 51 -/
def laws_nSame.l0 : Nat → List Int → List Int → Int → Int → Option (Bool)
 | 0, _, _, _, _ => none
 | k + 1, x0, x1, x12, x13 => if x13 < x12 then (if 0 ≤ x13 then (if x13 < (x0.length : Int) then (if x13 < (x1.length : Int) then (if (rd x0 x13) = (rd x1 x13) then (laws_nSame.l0 k x0 x1 x12 (wrap64 (x13 + 1))) else (some false)) else (none)) else (none)) else (none)) else (some true)
def laws_nSame.f (k : Nat) (l0 : List Int) (l1 : List Int) : Option (Bool) := if (l0.length : Int) = (l1.length : Int) then (laws_nSame.l0 k l0 l1 (l0.length : Int) 0) else (some false)
theorem laws_nSame.mono_l : ∀ k, (∀ y0 y1 y2 y3, LeO (laws_nSame.l0 k y0 y1 y2 y3) (laws_nSame.l0 (k + 1) y0 y1 y2 y3))
 | 0 => fun _ _ _ _ r h => by simp [laws_nSame.l0] at h
 | k + 1 => by
  have ih0 := laws_nSame.mono_l k
  ·intro y0 y1 y2 y3
   unfold laws_nSame.l0
   repeat' first
   | (with_reducible exact ih0 _ _ _ _)
   | (with_reducible exact LeO.refl _)
   | (with_reducible exact LeO.none _)
   | (with_reducible refine LeO.ite ?_ ?_)
   | (with_reducible refine LeO.bind ?_ (fun _ => ?_))
   | exact ih0 _ _ _ _
   | exact LeO.none _
   | refine LeO.ite ?_ ?_
   | refine LeO.bind ?_ (fun _ => ?_)
theorem laws_nSame.mono : ∀ a0 a1 k, LeO (laws_nSame.f k a0 a1) (laws_nSame.f (k + 1) a0 a1) := by
 intro a0 a1 k
 have ih0 := laws_nSame.mono_l k
 unfold laws_nSame.f
 repeat' first
   | (with_reducible exact ih0 _ _ _ _)
   | (with_reducible exact LeO.refl _)
   | (with_reducible exact LeO.none _)
   | (with_reducible refine LeO.ite ?_ ?_)
   | (with_reducible refine LeO.bind ?_ (fun _ => ?_))
   | exact ih0 _ _ _ _
   | exact LeO.none _
   | refine LeO.ite ?_ ?_
   | refine LeO.bind ?_ (fun _ => ?_)
set_option maxHeartbeats 8000000 in
set_option maxRecDepth 100000 in
theorem laws_nSame.calls (k : Nat) (A0 : Option Addr) (c0 : Nat) (l0 : List Int) (A1 : Option Addr) (c1 : Nat) (l1 : List Int) (r : Bool) (w : World) (hr0 : Kd.C (Kd.int .i64) w A0 l0.length l0) (hc0 : l0.length ≤ c0) (hr1 : Kd.C (Kd.int .i64) w A1 l1.length l1) (hc1 : l1.length ≤ c1) (h : laws_nSame.f k l0 l1 = some r) :
  Calls Try.prog 51 #[.slice A0 l0.length c0, .slice A1 l1.length c1] w fun e w' => e = .returned (.bool r) ∧ Drawn0 w w' := by
 have HR0 := Aside0.mk hr0
 have HC0 := Aside0.mk hc0
 clear hr0 hc0
 have HR1 := Aside0.mk hr1
 have HC1 := Aside0.mk hc1
 clear hr1 hc1
 have H : (if (l0.length : Int) = (l1.length : Int) then (laws_nSame.l0 k l0 l1 (l0.length : Int) 0) else (some false)) = some r := h
 clear h
 by_cases c3 : (l0.length : Int) = (l1.length : Int)
 ·rw [if_pos c3] at H
  have c3b0 : ((l0.length : Int) == (l1.length : Int)) = true := beq_iff_eq.mpr c3
  have c3b1 : ((l0.length : Int) != (l1.length : Int)) = false := bne_eq_false_iff_eq.mpr c3
  have c3b2 : (l0.length == l1.length) = true := by first | simpa using c3 | (simp at c3 ⊢; omega)
  clear c3
  have H' := Aside0.mk H
  clear H
  go_enter Try.func51, Try.ntmps51
  go_wp2
  repeat (go_quiet (fail); try go_wp2)
  go_loopg [13] k (fun kq v13 w' => ∃ (x13_1 : Int), v13 = .int .i64 x13_1 ∧ Aside0 (laws_nSame.l0 kq l0 l1 (l0.length : Int) x13_1 = some r) ∧ Aside0 (kq ≤ k) ∧ Drawn0 w w')
  case atStart => exact ⟨(0), ze, H', ⟨Nat.le_refl _⟩, by repeat (first | exact Drawn0.refl _ | apply Drawn0.step)⟩
  case round =>
   clear H'
   (try clear c1); (try clear c3); (try clear c3b0); (try clear c3b1); (try clear c3b2)
   obtain ⟨x13_1, rfl, HA, HK1, ⟨m1, rfl⟩⟩ := hrel
   cases gk with
   | zero => exact absurd HA.out (by simp [laws_nSame.l0])
   | succ k1 =>
    have H := HA.out
    clear HA
    simp only [laws_nSame.l0] at H
    by_cases c4 : x13_1 < (l0.length : Int)
    ·rw [if_pos c4] at H
     have c4b0 : decide (x13_1 < (l0.length : Int)) = true := decide_eq_true c4
     clear c4
     by_cases c5 : 0 ≤ x13_1
     ·rw [if_pos c5] at H
      have c5b0 : decide (0 ≤ x13_1) = true := decide_eq_true c5
      clear c5
      by_cases c6 : x13_1 < (l0.length : Int)
      ·rw [if_pos c6] at H
       have c6b0 : decide (x13_1 < (l0.length : Int)) = true := decide_eq_true c6
       clear c6
       by_cases c7 : x13_1 < (l1.length : Int)
       ·rw [if_pos c7] at H
        have c7b0 : decide (x13_1 < (l1.length : Int)) = true := decide_eq_true c7
        clear c7
        by_cases c8 : (rd l0 x13_1) = (rd l1 x13_1)
        ·rw [if_pos c8] at H
         have c8b0 : ((rd l0 x13_1) == (rd l1 x13_1)) = true := beq_iff_eq.mpr c8
         have c8b1 : ((rd l0 x13_1) != (rd l1 x13_1)) = false := bne_eq_false_iff_eq.mpr c8
         clear c8
         have H' := Aside0.mk H
         clear H
         have p324 : 0 ≤ (x13_1 : Int) := zd
         have q324 : x13_1 < (l0.length : Int) := zd
         obtain ⟨ad324, e324, hx324_0⟩ := Kd.at_int HR0.out x13_1 p324 q324
         cases e324
         replace p324 := eq_true p324
         replace q324 := eq_true q324
         have p325 : 0 ≤ (x13_1 : Int) := zd
         have q325 : x13_1 < (l1.length : Int) := zd
         obtain ⟨ad325, e325, hx325_0⟩ := Kd.at_int HR1.out x13_1 p325 q325
         cases e325
         replace p325 := eq_true p325
         replace q325 := eq_true q325
         go_wp2
         repeat (go_quiet (fail); try go_wp2)
         go_roundg k1
         case measure => have := HK1.out; omega
         case rel => exact ⟨(wrap64 (x13_1 + 1)), ze, H', ⟨by have := HK1.out; omega⟩, by repeat (first | exact Drawn0.refl _ | apply Drawn0.step)⟩
        ·rw [if_neg c8] at H
         have c8b0 : ((rd l0 x13_1) == (rd l1 x13_1)) = false := beq_eq_false_iff_ne.mpr c8
         have c8b1 : ((rd l0 x13_1) != (rd l1 x13_1)) = true := bne_iff_ne.mpr c8
         obtain rfl := Option.some.inj H
         have p324 : 0 ≤ (x13_1 : Int) := zd
         have q324 : x13_1 < (l0.length : Int) := zd
         obtain ⟨ad324, e324, hx324_0⟩ := Kd.at_int HR0.out x13_1 p324 q324
         cases e324
         replace p324 := eq_true p324
         replace q324 := eq_true q324
         have p325 : 0 ≤ (x13_1 : Int) := zd
         have q325 : x13_1 < (l1.length : Int) := zd
         obtain ⟨ad325, e325, hx325_0⟩ := Kd.at_int HR1.out x13_1 p325 q325
         cases e325
         replace p325 := eq_true p325
         replace q325 := eq_true q325
         go_wp2
         repeat (go_quiet (fail); try go_wp2)
         go_ret
         exact ⟨by first | rfl | (simp; done) | (simp [*]; done), by repeat (first | exact Drawn0.refl _ | apply Drawn0.step)⟩
       ·rw [if_neg c7] at H
        exact absurd H (by simp)
      ·rw [if_neg c6] at H
       exact absurd H (by simp)
     ·rw [if_neg c5] at H
      exact absurd H (by simp)
    ·rw [if_neg c4] at H
     have c4b0 : decide (x13_1 < (l0.length : Int)) = false := decide_eq_false c4
     clear c4
     obtain rfl := Option.some.inj H
     go_wp2
     repeat (go_quiet (fail); try go_wp2)
     go_ret
     exact ⟨by first | rfl | (simp; done) | (simp [*]; done), by repeat (first | exact Drawn0.refl _ | apply Drawn0.step)⟩
 ·rw [if_neg c3] at H
  have c3b0 : ((l0.length : Int) == (l1.length : Int)) = false := beq_eq_false_iff_ne.mpr c3
  have c3b1 : ((l0.length : Int) != (l1.length : Int)) = true := bne_iff_ne.mpr c3
  have c3b2 : (l0.length == l1.length) = false := by first | simpa using c3 | (simp at c3 ⊢; omega)
  obtain rfl := Option.some.inj H
  go_enter Try.func51, Try.ntmps51
  go_wp2
  repeat (go_quiet (fail); try go_wp2)
  go_ret
  exact ⟨by first | rfl | (simp; done) | (simp [*]; done), by repeat (first | exact Drawn0.refl _ | apply Drawn0.step)⟩

/-! ### impl_StepAround: function 52 -/
def impl_StepAround.f (a0_0 : Int) (a0_1 : Int) (a0_2 : Bool) (a0_3 : Bool) (a1 : Int) (a2 : Int) (a3 : Int) : Option (Int × Bool) := (impl_IsAround.f a0_0 a0_1 a0_2 a0_3).bind fun t327 => (if t327 = true then ((impl_Around_has.f a0_0 a0_1 a0_2 a0_3 a1).bind fun t328 => (if t328 = true then ((impl_isStep.f a2 a3).bind fun t329 => (if t329 = true then ((impl_Around_step.f a0_0 a0_1 a0_2 a0_3 a1 a2 a3).bind fun bt330 => (if bt330.2 = true then (some (bt330.1, true)) else (some (0, false)))) else (some (0, false)))) else (some (0, false)))) else (some (0, false)))
set_option maxHeartbeats 8000000 in
set_option maxRecDepth 100000 in
theorem impl_StepAround.calls (a0_0 : Int) (a0_1 : Int) (a0_2 : Bool) (a0_3 : Bool) (a1 : Int) (a2 : Int) (a3 : Int) (r1 : Int) (r2 : Bool) (w : World) (h : impl_StepAround.f a0_0 a0_1 a0_2 a0_3 a1 a2 a3 = some (r1, r2)) :
  Calls Try.prog 52 #[.agg #[.int .i64 a0_0, .int .i64 a0_1, .bool a0_2, .bool a0_3], .int .i64 a1, .int .i64 a2, .int .i64 a3] w fun e w' => e = .returned (.tuple #[.int .i64 r1, .bool r2]) ∧ Below w.heap.size w w' := by
 have hu28 := Try.underlying28
 have HB := Aside0.mk (Below.refl w.heap.size w)
 have H : ((impl_IsAround.f a0_0 a0_1 a0_2 a0_3).bind fun t327 => (if t327 = true then ((impl_Around_has.f a0_0 a0_1 a0_2 a0_3 a1).bind fun t328 => (if t328 = true then ((impl_isStep.f a2 a3).bind fun t329 => (if t329 = true then ((impl_Around_step.f a0_0 a0_1 a0_2 a0_3 a1 a2 a3).bind fun bt330 => (if bt330.2 = true then (some (bt330.1, true)) else (some (0, false)))) else (some (0, false)))) else (some (0, false)))) else (some (0, false)))) = some (r1, r2) := h
 clear h
 replace H := Option.bind_eq_some_iff.mp H
 obtain ⟨t327, A50, H⟩ := H
 try dsimp only at H
 have A5 := Aside0.mk A50
 clear A50
 by_cases c6 : t327 = true
 ·subst c6
  have H1 : ((impl_Around_has.f a0_0 a0_1 a0_2 a0_3 a1).bind fun t328 => (if t328 = true then ((impl_isStep.f a2 a3).bind fun t329 => (if t329 = true then ((impl_Around_step.f a0_0 a0_1 a0_2 a0_3 a1 a2 a3).bind fun bt330 => (if bt330.2 = true then (some (bt330.1, true)) else (some (0, false)))) else (some (0, false)))) else (some (0, false)))) = some (r1, r2) := by rw [if_pos rfl] at H; exact H
  clear H
  have H := H1
  clear H1
  replace H := Option.bind_eq_some_iff.mp H
  obtain ⟨t328, A70, H⟩ := H
  try dsimp only at H
  have A7 := Aside0.mk A70
  clear A70
  by_cases c8 : t328 = true
  ·subst c8
   have H1 : ((impl_isStep.f a2 a3).bind fun t329 => (if t329 = true then ((impl_Around_step.f a0_0 a0_1 a0_2 a0_3 a1 a2 a3).bind fun bt330 => (if bt330.2 = true then (some (bt330.1, true)) else (some (0, false)))) else (some (0, false)))) = some (r1, r2) := by rw [if_pos rfl] at H; exact H
   clear H
   have H := H1
   clear H1
   replace H := Option.bind_eq_some_iff.mp H
   obtain ⟨t329, A90, H⟩ := H
   try dsimp only at H
   have A9 := Aside0.mk A90
   clear A90
   by_cases c10 : t329 = true
   ·subst c10
    have H1 : ((impl_Around_step.f a0_0 a0_1 a0_2 a0_3 a1 a2 a3).bind fun bt330 => (if bt330.2 = true then (some (bt330.1, true)) else (some (0, false)))) = some (r1, r2) := by rw [if_pos rfl] at H; exact H
    clear H
    have H := H1
    clear H1
    replace H := Option.bind_eq_some_iff.mp H
    obtain ⟨⟨t330, t331⟩, A110, H⟩ := H
    try dsimp only at H
    have A11 := Aside0.mk A110
    clear A110
    by_cases c12 : t331 = true
    ·subst c12
     have H1 : (some (t330, true)) = some (r1, r2) := by rw [if_pos rfl] at H; exact H
     clear H
     have H := H1
     clear H1
     simp only [Option.some.injEq, Prod.mk.injEq] at H
     obtain ⟨rfl, rfl⟩ := H
     go_enter Try.func52, Try.ntmps52
     go_wp2_with (first | ((with_reducible refine gate_dst (N := 4) rfl ?_); refine box_event ?hg (N := 4) ?hd (cs := #[.int .i64 a0_0, .int .i64 a0_1, .bool a0_2, .bool a0_3]) (t := 28) ?hr ?_; (case hd => rfl); (case hg => rfl); (case hr => first | (go_simp; done) | (go_simp; rfl)); intro gb326 hg w13 hbox hb; have BK326 := Aside0.mk (hbox); have GW326 := Aside0.mk (zG hg (below_size (zB0 HB)) : w.heap.size ≤ gb326); have GE326 := Aside0.mk (zG hg (below_size (zB0 HB)) : w.heap.size ≤ gb326); replace HB := Aside0.mk (below_step (zB0 HB) hb); clear hb hbox hg; obtain ⟨hcz14_0, hcz14_1, hcz14_2, hcz14_3, hfz14_0, hfz14_1, hfz14_2, hfz14_3⟩ := zc4 BK326) | ((with_reducible refine gate_callee (f := 64) rfl ?_); refine goesL_ (some 13) rfl rfl Try.func64 (by kernel_rfl) rfl #[.agg #[.int .i64 a0_0, .int .i64 a0_1, .bool a0_2, .bool a0_3]] rfl zm ?_; (with_reducible refine (impl_IsAround.calls a0_0 a0_1 a0_2 a0_3 true _ A5.out).mono ?_); rintro e w15 ⟨rfl, hb⟩; refine ⟨_, rfl, ?_⟩; replace BK326 := zKb BK326 hb; replace HB := Aside0.mk (below_step (zB1 HB GE326) hb); (try clear hb); (try clear hb2); (try clear hk); (try clear hi); obtain ⟨hcz16_0, hcz16_1, hcz16_2, hcz16_3, hfz16_0, hfz16_1, hfz16_2, hfz16_3⟩ := zc4 BK326) | (go_at_call 92; (with_reducible refine (impl_Around_has.calls a0_0 a0_1 a0_2 a0_3 a1 true _ A7.out).mono ?_); rintro e w17 ⟨rfl, hb⟩; replace BK326 := zKb BK326 hb; replace HB := Aside0.mk (below_step (zB1 HB GE326) hb); (try clear hb); (try clear hb2); (try clear hk); (try clear hi)) | (go_at_call 93; (with_reducible refine (impl_isStep.calls a2 a3 true _ A9.out).mono ?_); rintro e w' ⟨rfl, ⟨nd, rfl⟩⟩; obtain ⟨hcz18_0, hcz18_1, hcz18_2, hcz18_3, hfz18_0, hfz18_1, hfz18_2, hfz18_3⟩ := zc4 BK326) | ((with_reducible refine gate_callee (f := 94) rfl ?_); refine goesL_ (some 32) rfl rfl Try.func94 (by kernel_rfl) rfl #[.agg #[.int .i64 a0_0, .int .i64 a0_1, .bool a0_2, .bool a0_3], .int .i64 a1, .int .i64 a2, .int .i64 a3] rfl zm ?_; (with_reducible refine (impl_Around_step.calls a0_0 a0_1 a0_2 a0_3 a1 a2 a3 t330 true _ A11.out).mono ?_); rintro e w19 ⟨rfl, hb⟩; refine ⟨_, rfl, ?_⟩; replace BK326 := zKb BK326 hb; replace HB := Aside0.mk (below_step (zB1 HB GE326) hb); (try clear hb); (try clear hb2); (try clear hk); (try clear hi)))
     go_ret2
     exact ⟨zt, zB1 HB GE326⟩
    ·replace c12 := Bool.eq_false_iff.mpr c12
     subst c12
     have H1 : (some (0, false)) = some (r1, r2) := by rw [if_neg (show ¬ (false = true) by decide)] at H; exact H
     clear H
     have H := H1
     clear H1
     simp only [Option.some.injEq, Prod.mk.injEq] at H
     obtain ⟨rfl, rfl⟩ := H
     go_enter Try.func52, Try.ntmps52
     go_wp2_with (first | ((with_reducible refine gate_dst (N := 4) rfl ?_); refine box_event ?hg (N := 4) ?hd (cs := #[.int .i64 a0_0, .int .i64 a0_1, .bool a0_2, .bool a0_3]) (t := 28) ?hr ?_; (case hd => rfl); (case hg => rfl); (case hr => first | (go_simp; done) | (go_simp; rfl)); intro gb326 hg w20 hbox hb; have BK326 := Aside0.mk (hbox); have GW326 := Aside0.mk (zG hg (below_size (zB0 HB)) : w.heap.size ≤ gb326); have GE326 := Aside0.mk (zG hg (below_size (zB0 HB)) : w.heap.size ≤ gb326); replace HB := Aside0.mk (below_step (zB0 HB) hb); clear hb hbox hg; obtain ⟨hcz21_0, hcz21_1, hcz21_2, hcz21_3, hfz21_0, hfz21_1, hfz21_2, hfz21_3⟩ := zc4 BK326) | ((with_reducible refine gate_callee (f := 64) rfl ?_); refine goesL_ (some 13) rfl rfl Try.func64 (by kernel_rfl) rfl #[.agg #[.int .i64 a0_0, .int .i64 a0_1, .bool a0_2, .bool a0_3]] rfl zm ?_; (with_reducible refine (impl_IsAround.calls a0_0 a0_1 a0_2 a0_3 true _ A5.out).mono ?_); rintro e w22 ⟨rfl, hb⟩; refine ⟨_, rfl, ?_⟩; replace BK326 := zKb BK326 hb; replace HB := Aside0.mk (below_step (zB1 HB GE326) hb); (try clear hb); (try clear hb2); (try clear hk); (try clear hi); obtain ⟨hcz23_0, hcz23_1, hcz23_2, hcz23_3, hfz23_0, hfz23_1, hfz23_2, hfz23_3⟩ := zc4 BK326) | (go_at_call 92; (with_reducible refine (impl_Around_has.calls a0_0 a0_1 a0_2 a0_3 a1 true _ A7.out).mono ?_); rintro e w24 ⟨rfl, hb⟩; replace BK326 := zKb BK326 hb; replace HB := Aside0.mk (below_step (zB1 HB GE326) hb); (try clear hb); (try clear hb2); (try clear hk); (try clear hi)) | (go_at_call 93; (with_reducible refine (impl_isStep.calls a2 a3 true _ A9.out).mono ?_); rintro e w' ⟨rfl, ⟨nd, rfl⟩⟩; obtain ⟨hcz25_0, hcz25_1, hcz25_2, hcz25_3, hfz25_0, hfz25_1, hfz25_2, hfz25_3⟩ := zc4 BK326) | ((with_reducible refine gate_callee (f := 94) rfl ?_); refine goesL_ (some 32) rfl rfl Try.func94 (by kernel_rfl) rfl #[.agg #[.int .i64 a0_0, .int .i64 a0_1, .bool a0_2, .bool a0_3], .int .i64 a1, .int .i64 a2, .int .i64 a3] rfl zm ?_; (with_reducible refine (impl_Around_step.calls a0_0 a0_1 a0_2 a0_3 a1 a2 a3 t330 false _ A11.out).mono ?_); rintro e w26 ⟨rfl, hb⟩; refine ⟨_, rfl, ?_⟩; replace BK326 := zKb BK326 hb; replace HB := Aside0.mk (below_step (zB1 HB GE326) hb); (try clear hb); (try clear hb2); (try clear hk); (try clear hi)))
     go_ret2
     exact ⟨zt, zB1 HB GE326⟩
   ·replace c10 := Bool.eq_false_iff.mpr c10
    subst c10
    have H1 : (some (0, false)) = some (r1, r2) := by rw [if_neg (show ¬ (false = true) by decide)] at H; exact H
    clear H
    have H := H1
    clear H1
    simp only [Option.some.injEq, Prod.mk.injEq] at H
    obtain ⟨rfl, rfl⟩ := H
    go_enter Try.func52, Try.ntmps52
    go_wp2_with (first | ((with_reducible refine gate_dst (N := 4) rfl ?_); refine box_event ?hg (N := 4) ?hd (cs := #[.int .i64 a0_0, .int .i64 a0_1, .bool a0_2, .bool a0_3]) (t := 28) ?hr ?_; (case hd => rfl); (case hg => rfl); (case hr => first | (go_simp; done) | (go_simp; rfl)); intro gb326 hg w27 hbox hb; have BK326 := Aside0.mk (hbox); have GW326 := Aside0.mk (zG hg (below_size (zB0 HB)) : w.heap.size ≤ gb326); have GE326 := Aside0.mk (zG hg (below_size (zB0 HB)) : w.heap.size ≤ gb326); replace HB := Aside0.mk (below_step (zB0 HB) hb); clear hb hbox hg; obtain ⟨hcz28_0, hcz28_1, hcz28_2, hcz28_3, hfz28_0, hfz28_1, hfz28_2, hfz28_3⟩ := zc4 BK326) | ((with_reducible refine gate_callee (f := 64) rfl ?_); refine goesL_ (some 13) rfl rfl Try.func64 (by kernel_rfl) rfl #[.agg #[.int .i64 a0_0, .int .i64 a0_1, .bool a0_2, .bool a0_3]] rfl zm ?_; (with_reducible refine (impl_IsAround.calls a0_0 a0_1 a0_2 a0_3 true _ A5.out).mono ?_); rintro e w29 ⟨rfl, hb⟩; refine ⟨_, rfl, ?_⟩; replace BK326 := zKb BK326 hb; replace HB := Aside0.mk (below_step (zB1 HB GE326) hb); (try clear hb); (try clear hb2); (try clear hk); (try clear hi); obtain ⟨hcz30_0, hcz30_1, hcz30_2, hcz30_3, hfz30_0, hfz30_1, hfz30_2, hfz30_3⟩ := zc4 BK326) | (go_at_call 92; (with_reducible refine (impl_Around_has.calls a0_0 a0_1 a0_2 a0_3 a1 true _ A7.out).mono ?_); rintro e w31 ⟨rfl, hb⟩; replace BK326 := zKb BK326 hb; replace HB := Aside0.mk (below_step (zB1 HB GE326) hb); (try clear hb); (try clear hb2); (try clear hk); (try clear hi)) | (go_at_call 93; (with_reducible refine (impl_isStep.calls a2 a3 false _ A9.out).mono ?_); rintro e w' ⟨rfl, ⟨nd, rfl⟩⟩))
    go_ret2
    exact ⟨zt, zB1 HB GE326⟩
  ·replace c8 := Bool.eq_false_iff.mpr c8
   subst c8
   have H1 : (some (0, false)) = some (r1, r2) := by rw [if_neg (show ¬ (false = true) by decide)] at H; exact H
   clear H
   have H := H1
   clear H1
   simp only [Option.some.injEq, Prod.mk.injEq] at H
   obtain ⟨rfl, rfl⟩ := H
   go_enter Try.func52, Try.ntmps52
   go_wp2_with (first | ((with_reducible refine gate_dst (N := 4) rfl ?_); refine box_event ?hg (N := 4) ?hd (cs := #[.int .i64 a0_0, .int .i64 a0_1, .bool a0_2, .bool a0_3]) (t := 28) ?hr ?_; (case hd => rfl); (case hg => rfl); (case hr => first | (go_simp; done) | (go_simp; rfl)); intro gb326 hg w32 hbox hb; have BK326 := Aside0.mk (hbox); have GW326 := Aside0.mk (zG hg (below_size (zB0 HB)) : w.heap.size ≤ gb326); have GE326 := Aside0.mk (zG hg (below_size (zB0 HB)) : w.heap.size ≤ gb326); replace HB := Aside0.mk (below_step (zB0 HB) hb); clear hb hbox hg; obtain ⟨hcz33_0, hcz33_1, hcz33_2, hcz33_3, hfz33_0, hfz33_1, hfz33_2, hfz33_3⟩ := zc4 BK326) | ((with_reducible refine gate_callee (f := 64) rfl ?_); refine goesL_ (some 13) rfl rfl Try.func64 (by kernel_rfl) rfl #[.agg #[.int .i64 a0_0, .int .i64 a0_1, .bool a0_2, .bool a0_3]] rfl zm ?_; (with_reducible refine (impl_IsAround.calls a0_0 a0_1 a0_2 a0_3 true _ A5.out).mono ?_); rintro e w34 ⟨rfl, hb⟩; refine ⟨_, rfl, ?_⟩; replace BK326 := zKb BK326 hb; replace HB := Aside0.mk (below_step (zB1 HB GE326) hb); (try clear hb); (try clear hb2); (try clear hk); (try clear hi); obtain ⟨hcz35_0, hcz35_1, hcz35_2, hcz35_3, hfz35_0, hfz35_1, hfz35_2, hfz35_3⟩ := zc4 BK326) | (go_at_call 92; (with_reducible refine (impl_Around_has.calls a0_0 a0_1 a0_2 a0_3 a1 false _ A7.out).mono ?_); rintro e w36 ⟨rfl, hb⟩; replace BK326 := zKb BK326 hb; replace HB := Aside0.mk (below_step (zB1 HB GE326) hb); (try clear hb); (try clear hb2); (try clear hk); (try clear hi)))
   go_ret2
   exact ⟨zt, zB1 HB GE326⟩
 ·replace c6 := Bool.eq_false_iff.mpr c6
  subst c6
  have H1 : (some (0, false)) = some (r1, r2) := by rw [if_neg (show ¬ (false = true) by decide)] at H; exact H
  clear H
  have H := H1
  clear H1
  simp only [Option.some.injEq, Prod.mk.injEq] at H
  obtain ⟨rfl, rfl⟩ := H
  go_enter Try.func52, Try.ntmps52
  go_wp2_with (first | ((with_reducible refine gate_dst (N := 4) rfl ?_); refine box_event ?hg (N := 4) ?hd (cs := #[.int .i64 a0_0, .int .i64 a0_1, .bool a0_2, .bool a0_3]) (t := 28) ?hr ?_; (case hd => rfl); (case hg => rfl); (case hr => first | (go_simp; done) | (go_simp; rfl)); intro gb326 hg w37 hbox hb; have BK326 := Aside0.mk (hbox); have GW326 := Aside0.mk (zG hg (below_size (zB0 HB)) : w.heap.size ≤ gb326); have GE326 := Aside0.mk (zG hg (below_size (zB0 HB)) : w.heap.size ≤ gb326); replace HB := Aside0.mk (below_step (zB0 HB) hb); clear hb hbox hg; obtain ⟨hcz38_0, hcz38_1, hcz38_2, hcz38_3, hfz38_0, hfz38_1, hfz38_2, hfz38_3⟩ := zc4 BK326) | ((with_reducible refine gate_callee (f := 64) rfl ?_); refine goesL_ (some 13) rfl rfl Try.func64 (by kernel_rfl) rfl #[.agg #[.int .i64 a0_0, .int .i64 a0_1, .bool a0_2, .bool a0_3]] rfl zm ?_; (with_reducible refine (impl_IsAround.calls a0_0 a0_1 a0_2 a0_3 false _ A5.out).mono ?_); rintro e w39 ⟨rfl, hb⟩; refine ⟨_, rfl, ?_⟩; replace BK326 := zKb BK326 hb; replace HB := Aside0.mk (below_step (zB1 HB GE326) hb); (try clear hb); (try clear hb2); (try clear hk); (try clear hi)))
  go_ret2
  exact ⟨zt, zB1 HB GE326⟩

/-! ### laws_nHas: function 53 -/
def laws_nHas.l0 : Nat → Int → List Int → Int → Int → Option (Bool)
 | 0, _, _, _, _ => none
 | k + 1, x1, x7, x8, x9 => if x9 < x8 then (if 0 ≤ x9 then (if x9 < (x7.length : Int) then (if (rd x7 x9) = x1 then (some true) else (laws_nHas.l0 k x1 x7 x8 (wrap64 (x9 + 1)))) else (none)) else (none)) else (some false)
def laws_nHas.f (k : Nat) (l0 : List Int) (a1 : Int) : Option (Bool) := laws_nHas.l0 k a1 l0 (l0.length : Int) 0
theorem laws_nHas.mono_l : ∀ k, (∀ y0 y1 y2 y3, LeO (laws_nHas.l0 k y0 y1 y2 y3) (laws_nHas.l0 (k + 1) y0 y1 y2 y3))
 | 0 => fun _ _ _ _ r h => by simp [laws_nHas.l0] at h
 | k + 1 => by
  have ih0 := laws_nHas.mono_l k
  ·intro y0 y1 y2 y3
   unfold laws_nHas.l0
   repeat' first
   | (with_reducible exact ih0 _ _ _ _)
   | (with_reducible exact LeO.refl _)
   | (with_reducible exact LeO.none _)
   | (with_reducible refine LeO.ite ?_ ?_)
   | (with_reducible refine LeO.bind ?_ (fun _ => ?_))
   | exact ih0 _ _ _ _
   | exact LeO.none _
   | refine LeO.ite ?_ ?_
   | refine LeO.bind ?_ (fun _ => ?_)
theorem laws_nHas.mono : ∀ a0 a1 k, LeO (laws_nHas.f k a0 a1) (laws_nHas.f (k + 1) a0 a1) := by
 intro a0 a1 k
 have ih0 := laws_nHas.mono_l k
 unfold laws_nHas.f
 repeat' first
   | (with_reducible exact ih0 _ _ _ _)
   | (with_reducible exact LeO.refl _)
   | (with_reducible exact LeO.none _)
   | (with_reducible refine LeO.ite ?_ ?_)
   | (with_reducible refine LeO.bind ?_ (fun _ => ?_))
   | exact ih0 _ _ _ _
   | exact LeO.none _
   | refine LeO.ite ?_ ?_
   | refine LeO.bind ?_ (fun _ => ?_)
set_option maxHeartbeats 8000000 in
set_option maxRecDepth 100000 in
theorem laws_nHas.calls (k : Nat) (A0 : Option Addr) (c0 : Nat) (l0 : List Int) (a1 : Int) (r : Bool) (w : World) (hr0 : Kd.C (Kd.int .i64) w A0 l0.length l0) (hc0 : l0.length ≤ c0) (h : laws_nHas.f k l0 a1 = some r) :
  Calls Try.prog 53 #[.slice A0 l0.length c0, .int .i64 a1] w fun e w' => e = .returned (.bool r) ∧ Drawn0 w w' := by
 have HR0 := Aside0.mk hr0
 have HC0 := Aside0.mk hc0
 clear hr0 hc0
 have H : (laws_nHas.l0 k a1 l0 (l0.length : Int) 0) = some r := h
 clear h
 have H' := Aside0.mk H
 clear H
 go_enter Try.func53, Try.ntmps53
 go_wp2
 go_loopg [9] k (fun kq v9 w' => ∃ (x9_1 : Int), v9 = .int .i64 x9_1 ∧ Aside0 (laws_nHas.l0 kq a1 l0 (l0.length : Int) x9_1 = some r) ∧ Aside0 (kq ≤ k) ∧ Drawn0 w w')
 case atStart => exact ⟨(0), ze, H', ⟨Nat.le_refl _⟩, by repeat (first | exact Drawn0.refl _ | apply Drawn0.step)⟩
 case round =>
  clear H'
  obtain ⟨x9_1, rfl, HA, HK1, ⟨m1, rfl⟩⟩ := hrel
  cases gk with
  | zero => exact absurd HA.out (by simp [laws_nHas.l0])
  | succ k1 =>
   have H := HA.out
   clear HA
   simp only [laws_nHas.l0] at H
   by_cases c3 : x9_1 < (l0.length : Int)
   ·rw [if_pos c3] at H
    have c3b0 : decide (x9_1 < (l0.length : Int)) = true := decide_eq_true c3
    clear c3
    by_cases c4 : 0 ≤ x9_1
    ·rw [if_pos c4] at H
     have c4b0 : decide (0 ≤ x9_1) = true := decide_eq_true c4
     clear c4
     by_cases c5 : x9_1 < (l0.length : Int)
     ·rw [if_pos c5] at H
      have c5b0 : decide (x9_1 < (l0.length : Int)) = true := decide_eq_true c5
      clear c5
      by_cases c6 : (rd l0 x9_1) = a1
      ·rw [if_pos c6] at H
       have c6b0 : ((rd l0 x9_1) == a1) = true := beq_iff_eq.mpr c6
       have c6b1 : ((rd l0 x9_1) != a1) = false := bne_eq_false_iff_eq.mpr c6
       clear c6
       obtain rfl := Option.some.inj H
       have p332 : 0 ≤ (x9_1 : Int) := zd
       have q332 : x9_1 < (l0.length : Int) := zd
       obtain ⟨ad332, e332, hx332_0⟩ := Kd.at_int HR0.out x9_1 p332 q332
       cases e332
       replace p332 := eq_true p332
       replace q332 := eq_true q332
       go_wp2
       go_ret
       exact ⟨by first | rfl | (simp; done) | (simp [*]; done), by repeat (first | exact Drawn0.refl _ | apply Drawn0.step)⟩
      ·rw [if_neg c6] at H
       have c6b0 : ((rd l0 x9_1) == a1) = false := beq_eq_false_iff_ne.mpr c6
       have c6b1 : ((rd l0 x9_1) != a1) = true := bne_iff_ne.mpr c6
       have H' := Aside0.mk H
       clear H
       have p332 : 0 ≤ (x9_1 : Int) := zd
       have q332 : x9_1 < (l0.length : Int) := zd
       obtain ⟨ad332, e332, hx332_0⟩ := Kd.at_int HR0.out x9_1 p332 q332
       cases e332
       replace p332 := eq_true p332
       replace q332 := eq_true q332
       go_wp2
       go_roundg k1
       case measure => have := HK1.out; omega
       case rel => exact ⟨(wrap64 (x9_1 + 1)), ze, H', ⟨by have := HK1.out; omega⟩, by repeat (first | exact Drawn0.refl _ | apply Drawn0.step)⟩
     ·rw [if_neg c5] at H
      exact absurd H (by simp)
    ·rw [if_neg c4] at H
     exact absurd H (by simp)
   ·rw [if_neg c3] at H
    have c3b0 : decide (x9_1 < (l0.length : Int)) = false := decide_eq_false c3
    clear c3
    obtain rfl := Option.some.inj H
    go_wp2
    go_ret
    exact ⟨by first | rfl | (simp; done) | (simp [*]; done), by repeat (first | exact Drawn0.refl _ | apply Drawn0.step)⟩

/-! ### impl_VisitsAll: function 54 -/
def impl_VisitsAll.f (k : Nat) (a0_0 : Int) (a0_1 : Int) (a0_2 : Bool) (a0_3 : Bool) (a1_0 : Int) (a1_1 : Int) (a2 : Int) (a3 : Int) (a4 : Int) : Option (Bool × Bool) := (impl_TwoSteps.f k a0_0 a0_1 a0_2 a0_3 a1_0 a1_1 a2 a3 a4).bind fun bt335 => (if bt335.2 = true then (some (((bt335.1.length : Int) == (wrap64 (a0_0 * a0_1))), true)) else (some (false, false)))
theorem impl_VisitsAll.mono : ∀ a0 a1 a2 a3 a4 a5 a6 a7 a8 k, LeO (impl_VisitsAll.f k a0 a1 a2 a3 a4 a5 a6 a7 a8) (impl_VisitsAll.f (k + 1) a0 a1 a2 a3 a4 a5 a6 a7 a8) := by
 intro a0 a1 a2 a3 a4 a5 a6 a7 a8 k
 unfold impl_VisitsAll.f
 repeat' first
   | (with_reducible exact impl_TwoSteps.mono _ _ _ _ _ _ _ _ _ _)
   | (with_reducible exact LeO.refl _)
   | (with_reducible exact LeO.none _)
   | (with_reducible refine LeO.ite ?_ ?_)
   | (with_reducible refine LeO.bind ?_ (fun _ => ?_))
   | exact impl_TwoSteps.mono _ _ _ _ _ _ _ _ _ _
   | exact LeO.none _
   | refine LeO.ite ?_ ?_
   | refine LeO.bind ?_ (fun _ => ?_)
set_option maxHeartbeats 8000000 in
set_option maxRecDepth 100000 in
theorem impl_VisitsAll.calls (k : Nat) (a0_0 : Int) (a0_1 : Int) (a0_2 : Bool) (a0_3 : Bool) (a1_0 : Int) (a1_1 : Int) (a2 : Int) (a3 : Int) (a4 : Int) (r1 : Bool) (r2 : Bool) (w : World) (h : impl_VisitsAll.f k a0_0 a0_1 a0_2 a0_3 a1_0 a1_1 a2 a3 a4 = some (r1, r2)) :
  Calls Try.prog 54 #[.agg #[.int .i64 a0_0, .int .i64 a0_1, .bool a0_2, .bool a0_3], .agg #[.int .i64 a1_0, .int .i64 a1_1], .int .i64 a2, .int .i64 a3, .int .i64 a4] w fun e w' => e = .returned (.tuple #[.bool r1, .bool r2]) ∧ Below w.heap.size w w' := by
 have hu28 := Try.underlying28
 have hu30 := Try.underlying30
 have HB := Aside0.mk (Below.refl w.heap.size w)
 have H : ((impl_TwoSteps.f k a0_0 a0_1 a0_2 a0_3 a1_0 a1_1 a2 a3 a4).bind fun bt335 => (if bt335.2 = true then (some (((bt335.1.length : Int) == (wrap64 (a0_0 * a0_1))), true)) else (some (false, false)))) = some (r1, r2) := h
 clear h
 replace H := Option.bind_eq_some_iff.mp H
 obtain ⟨⟨t335, t338⟩, A60, H⟩ := H
 try dsimp only at H
 have A6 := Aside0.mk A60
 clear A60
 by_cases c7 : t338 = true
 ·subst c7
  have H1 : (some (((t335.length : Int) == (wrap64 (a0_0 * a0_1))), true)) = some (r1, r2) := by rw [if_pos rfl] at H; exact H
  clear H
  have H := H1
  clear H1
  simp only [Option.some.injEq, Prod.mk.injEq] at H
  obtain ⟨rfl, rfl⟩ := H
  go_enter Try.func54, Try.ntmps54
  go_wp2_with (first | ((with_reducible refine gate_dst (N := 5) rfl ?_); refine box_event ?hg (N := 5) ?hd (cs := #[.int .i64 a0_0, .int .i64 a0_1, .bool a0_2, .bool a0_3]) (t := 28) ?hr ?_; (case hd => rfl); (case hg => rfl); (case hr => first | (go_simp; done) | (go_simp; rfl)); intro gb333 hg w8 hbox hb; have BK333 := Aside0.mk (hbox); have GW333 := Aside0.mk (zG hg (below_size (zB0 HB)) : w.heap.size ≤ gb333); have GE333 := Aside0.mk (zG hg (below_size (zB0 HB)) : w.heap.size ≤ gb333); replace HB := Aside0.mk (below_step (zB0 HB) hb); clear hb hbox hg) | ((with_reducible refine gate_dst (N := 6) rfl ?_); refine box_event ?hg (N := 6) ?hd (cs := #[.int .i64 a1_0, .int .i64 a1_1]) (t := 30) ?hr ?_; (case hd => rfl); (case hg => rfl); (case hr => first | (go_simp; done) | (go_simp; rfl)); intro gb334 hg w9 hbox hb; have BK334 := Aside0.mk (hbox); have GW334 := Aside0.mk (zG hg (below_size (zB1 HB GE333)) : w.heap.size ≤ gb334); have GE334 := Aside0.mk (zG hg (below_size (zB1 HB GE333)) : w.heap.size ≤ gb334); replace HB := Aside0.mk (below_step (zB1 HB GE333) hb); have NB333_334 := Aside0.mk (zNl hg BK333 : gb333 ≠ gb334); have NB334_333 := Aside0.mk (zNg hg BK333 : gb334 ≠ gb333); replace BK333 := zKb BK333 hb; clear hb hbox hg; have hnb10 := NB333_334.out; have hnc10 := NB334_333.out; obtain ⟨hcz11_0, hcz11_1, hcz11_2, hcz11_3, hfz11_0, hfz11_1, hfz11_2, hfz11_3⟩ := zc4 BK333; obtain ⟨hcz12_0, hcz12_1, hfz12_0, hfz12_1⟩ := zc2 BK334) | ((with_reducible refine gate_callee (f := 35) rfl ?_); refine goesL_ (some 20) rfl rfl Try.func35 (by kernel_rfl) rfl #[.agg #[.int .i64 a0_0, .int .i64 a0_1, .bool a0_2, .bool a0_3], .agg #[.int .i64 a1_0, .int .i64 a1_1], .int .i64 a2, .int .i64 a3, .int .i64 a4] rfl zm ?_; (with_reducible refine (impl_TwoSteps.calls k a0_0 a0_1 a0_2 a0_3 a1_0 a1_1 a2 a3 a4 t335 true _ A6.out).mono ?_); rintro e w13 ⟨v336, rfl, ho0, hb⟩; refine ⟨_, rfl, ?_⟩; have HO337 := Aside0.mk (Kd.R_lower ho0 (below_size (zB2 HB GE333 GE334))); replace BK333 := zKb BK333 hb; replace BK334 := zKb BK334 hb; replace HB := Aside0.mk (below_step (zB2 HB GE333 GE334) hb); (try clear hb); (try clear hb2); (try clear hk); (try clear hi); (try clear ho0); obtain ⟨Ao14, co14, eo14⟩ := Kd.R_slice HO337.out; subst eo14; obtain ⟨hcz15_0, hcz15_1, hcz15_2, hcz15_3, hfz15_0, hfz15_1, hfz15_2, hfz15_3⟩ := zc4 BK333))
  go_ret2
  exact ⟨zt, zB2 HB GE333 GE334⟩
 ·replace c7 := Bool.eq_false_iff.mpr c7
  subst c7
  have H1 : (some (false, false)) = some (r1, r2) := by rw [if_neg (show ¬ (false = true) by decide)] at H; exact H
  clear H
  have H := H1
  clear H1
  simp only [Option.some.injEq, Prod.mk.injEq] at H
  obtain ⟨rfl, rfl⟩ := H
  go_enter Try.func54, Try.ntmps54
  go_wp2_with (first | ((with_reducible refine gate_dst (N := 5) rfl ?_); refine box_event ?hg (N := 5) ?hd (cs := #[.int .i64 a0_0, .int .i64 a0_1, .bool a0_2, .bool a0_3]) (t := 28) ?hr ?_; (case hd => rfl); (case hg => rfl); (case hr => first | (go_simp; done) | (go_simp; rfl)); intro gb333 hg w16 hbox hb; have BK333 := Aside0.mk (hbox); have GW333 := Aside0.mk (zG hg (below_size (zB0 HB)) : w.heap.size ≤ gb333); have GE333 := Aside0.mk (zG hg (below_size (zB0 HB)) : w.heap.size ≤ gb333); replace HB := Aside0.mk (below_step (zB0 HB) hb); clear hb hbox hg) | ((with_reducible refine gate_dst (N := 6) rfl ?_); refine box_event ?hg (N := 6) ?hd (cs := #[.int .i64 a1_0, .int .i64 a1_1]) (t := 30) ?hr ?_; (case hd => rfl); (case hg => rfl); (case hr => first | (go_simp; done) | (go_simp; rfl)); intro gb334 hg w17 hbox hb; have BK334 := Aside0.mk (hbox); have GW334 := Aside0.mk (zG hg (below_size (zB1 HB GE333)) : w.heap.size ≤ gb334); have GE334 := Aside0.mk (zG hg (below_size (zB1 HB GE333)) : w.heap.size ≤ gb334); replace HB := Aside0.mk (below_step (zB1 HB GE333) hb); have NB333_334 := Aside0.mk (zNl hg BK333 : gb333 ≠ gb334); have NB334_333 := Aside0.mk (zNg hg BK333 : gb334 ≠ gb333); replace BK333 := zKb BK333 hb; clear hb hbox hg; have hnb18 := NB333_334.out; have hnc18 := NB334_333.out; obtain ⟨hcz19_0, hcz19_1, hcz19_2, hcz19_3, hfz19_0, hfz19_1, hfz19_2, hfz19_3⟩ := zc4 BK333; obtain ⟨hcz20_0, hcz20_1, hfz20_0, hfz20_1⟩ := zc2 BK334) | ((with_reducible refine gate_callee (f := 35) rfl ?_); refine goesL_ (some 20) rfl rfl Try.func35 (by kernel_rfl) rfl #[.agg #[.int .i64 a0_0, .int .i64 a0_1, .bool a0_2, .bool a0_3], .agg #[.int .i64 a1_0, .int .i64 a1_1], .int .i64 a2, .int .i64 a3, .int .i64 a4] rfl zm ?_; (with_reducible refine (impl_TwoSteps.calls k a0_0 a0_1 a0_2 a0_3 a1_0 a1_1 a2 a3 a4 t335 false _ A6.out).mono ?_); rintro e w21 ⟨v336, rfl, ho0, hb⟩; refine ⟨_, rfl, ?_⟩; have HO337 := Aside0.mk (Kd.R_lower ho0 (below_size (zB2 HB GE333 GE334))); replace BK333 := zKb BK333 hb; replace BK334 := zKb BK334 hb; replace HB := Aside0.mk (below_step (zB2 HB GE333 GE334) hb); (try clear hb); (try clear hb2); (try clear hk); (try clear hi); (try clear ho0)))
  go_ret2
  exact ⟨zt, zB2 HB GE333 GE334⟩

/-! ### spec_VisitsAll: function 55 -/
def spec_VisitsAll.f (k : Nat) (a0_0 : Int) (a0_1 : Int) (a0_2 : Bool) (a0_3 : Bool) (a1_0 : Int) (a1_1 : Int) (a2 : Int) (a3 : Int) (a4 : Int) : Option (Bool × Bool) := (spec_arAsked.f k a0_0 a0_1 a0_2 a0_3 a1_0 a1_1 a2 a3 a4).bind fun t341 => (if t341 = true then ((spec_arTurns.f k a0_0 a0_1 a0_2 a0_3 a1_0 a1_1 a2 a3 a4).bind fun t342 => (some (((t342.length : Int) == (wrap64 (a0_0 * a0_1))), true))) else (some (false, false)))
theorem spec_VisitsAll.mono : ∀ a0 a1 a2 a3 a4 a5 a6 a7 a8 k, LeO (spec_VisitsAll.f k a0 a1 a2 a3 a4 a5 a6 a7 a8) (spec_VisitsAll.f (k + 1) a0 a1 a2 a3 a4 a5 a6 a7 a8) := by
 intro a0 a1 a2 a3 a4 a5 a6 a7 a8 k
 unfold spec_VisitsAll.f
 repeat' first
   | (with_reducible exact spec_arAsked.mono _ _ _ _ _ _ _ _ _ _)
   | (with_reducible exact spec_arTurns.mono _ _ _ _ _ _ _ _ _ _)
   | (with_reducible exact LeO.refl _)
   | (with_reducible exact LeO.none _)
   | (with_reducible refine LeO.ite ?_ ?_)
   | (with_reducible refine LeO.bind ?_ (fun _ => ?_))
   | exact spec_arAsked.mono _ _ _ _ _ _ _ _ _ _
   | exact spec_arTurns.mono _ _ _ _ _ _ _ _ _ _
   | exact LeO.none _
   | refine LeO.ite ?_ ?_
   | refine LeO.bind ?_ (fun _ => ?_)
def spec_VisitsAll.T3 : Bool × List (List Nat × List Nat) := (true, [([], []), ([], []), ([], []), ([], []), ([], []), ([0, 1, 2, 3, 4], [0, 1, 2, 3, 4]), ([5], [5]), ([], []), ([7], [7]), ([], []), ([9], [9]), ([8, 10], [8, 10]), ([6, 11], [6, 11]), ([12, 5, 0, 1, 2, 3, 4, 5, 6, 7, 8, 9, 10, 11, 12], [12]), ([13, 0, 1, 2, 3, 4, 5, 6, 7, 8, 9, 10, 11, 12, 13], [])])
def spec_VisitsAll.B3 : List Nat := [0, 0, 0, 0, 0, 31, 63, 0, 128, 0, 512, 1920, 4095, 8191, 16383]
theorem spec_VisitsAll.tab3 : rtab .any (opsOf Try.f55 3) = spec_VisitsAll.T3 := by kernel_rfl
theorem spec_VisitsAll.bits3 : waitsOk spec_VisitsAll.T3.2 spec_VisitsAll.B3 = true := by kernel_rfl
set_option maxHeartbeats 8000000 in
set_option maxRecDepth 100000 in
theorem spec_VisitsAll.calls (k : Nat) (a0_0 : Int) (a0_1 : Int) (a0_2 : Bool) (a0_3 : Bool) (a1_0 : Int) (a1_1 : Int) (a2 : Int) (a3 : Int) (a4 : Int) (r1 : Bool) (r2 : Bool) (w : World) (h : spec_VisitsAll.f k a0_0 a0_1 a0_2 a0_3 a1_0 a1_1 a2 a3 a4 = some (r1, r2)) :
  Calls Try.prog 55 #[.agg #[.int .i64 a0_0, .int .i64 a0_1, .bool a0_2, .bool a0_3], .agg #[.int .i64 a1_0, .int .i64 a1_1], .int .i64 a2, .int .i64 a3, .int .i64 a4] w fun e w' => e = .returned (.tuple #[.bool r1, .bool r2]) ∧ Below w.heap.size w w' := by
 have hu28 := Try.underlying28
 have hu30 := Try.underlying30
 have HB := Aside0.mk (Below.refl w.heap.size w)
 have H : ((spec_arAsked.f k a0_0 a0_1 a0_2 a0_3 a1_0 a1_1 a2 a3 a4).bind fun t341 => (if t341 = true then ((spec_arTurns.f k a0_0 a0_1 a0_2 a0_3 a1_0 a1_1 a2 a3 a4).bind fun t342 => (some (((t342.length : Int) == (wrap64 (a0_0 * a0_1))), true))) else (some (false, false)))) = some (r1, r2) := h
 clear h
 replace H := Option.bind_eq_some_iff.mp H
 obtain ⟨t341, A60, H⟩ := H
 try dsimp only at H
 have A6 := Aside0.mk A60
 clear A60
 by_cases c7 : t341 = true
 ·subst c7
  have H1 : ((spec_arTurns.f k a0_0 a0_1 a0_2 a0_3 a1_0 a1_1 a2 a3 a4).bind fun t342 => (some (((t342.length : Int) == (wrap64 (a0_0 * a0_1))), true))) = some (r1, r2) := by rw [if_pos rfl] at H; exact H
  clear H
  have H := H1
  clear H1
  replace H := Option.bind_eq_some_iff.mp H
  obtain ⟨t342, A80, H⟩ := H
  try dsimp only at H
  have A8 := Aside0.mk A80
  clear A80
  simp only [Option.some.injEq, Prod.mk.injEq] at H
  obtain ⟨rfl, rfl⟩ := H
  go_enter Try.func55, Try.ntmps55
  try go_wp2_with (first | ((with_reducible refine gate_dst (N := 5) rfl ?_); refine box_event ?hg (N := 5) ?hd (cs := #[.int .i64 a0_0, .int .i64 a0_1, .bool a0_2, .bool a0_3]) (t := 28) ?hr ?_; (case hd => rfl); (case hg => rfl); (case hr => first | (go_simp; done) | (go_simp; rfl)); intro gb339 hg w9 hbox hb; have BK339 := Aside0.mk (hbox); have GW339 := Aside0.mk (zG hg (below_size (zB0 HB)) : w.heap.size ≤ gb339); have GE339 := Aside0.mk (zG hg (below_size (zB0 HB)) : w.heap.size ≤ gb339); replace HB := Aside0.mk (below_step (zB0 HB) hb); clear hb hbox hg) | ((with_reducible refine gate_dst (N := 6) rfl ?_); refine box_event ?hg (N := 6) ?hd (cs := #[.int .i64 a1_0, .int .i64 a1_1]) (t := 30) ?hr ?_; (case hd => rfl); (case hg => rfl); (case hr => first | (go_simp; done) | (go_simp; rfl)); intro gb340 hg w10 hbox hb; have BK340 := Aside0.mk (hbox); have GW340 := Aside0.mk (zG hg (below_size (zB1 HB GE339)) : w.heap.size ≤ gb340); have GE340 := Aside0.mk (zG hg (below_size (zB1 HB GE339)) : w.heap.size ≤ gb340); replace HB := Aside0.mk (below_step (zB1 HB GE339) hb); have NB339_340 := Aside0.mk (zNl hg BK339 : gb339 ≠ gb340); have NB340_339 := Aside0.mk (zNg hg BK339 : gb340 ≠ gb339); replace BK339 := zKb BK339 hb; clear hb hbox hg; have hnb11 := NB339_340.out; have hnc11 := NB340_339.out; obtain ⟨hcz12_0, hcz12_1, hcz12_2, hcz12_3, hfz12_0, hfz12_1, hfz12_2, hfz12_3⟩ := zc4 BK339; obtain ⟨hcz13_0, hcz13_1, hfz13_0, hfz13_1⟩ := zc2 BK340) | ((with_reducible refine gate_callee (f := 80) rfl ?_); refine goesL_ (some 17) rfl rfl Try.func80 (by kernel_rfl) rfl #[.agg #[.int .i64 a0_0, .int .i64 a0_1, .bool a0_2, .bool a0_3], .agg #[.int .i64 a1_0, .int .i64 a1_1], .int .i64 a2, .int .i64 a3, .int .i64 a4] rfl zm ?_; (with_reducible refine (spec_arAsked.calls k a0_0 a0_1 a0_2 a0_3 a1_0 a1_1 a2 a3 a4 true _ A6.out).mono ?_); rintro e w14 ⟨rfl, hb⟩; refine ⟨_, rfl, ?_⟩; replace BK339 := zKb BK339 hb; replace BK340 := zKb BK340 hb; replace HB := Aside0.mk (below_step (zB2 HB GE339 GE340) hb); (try clear hb); (try clear hb2); (try clear hk); (try clear hi)))
  replace BK339 := Aside0.mk (blk_drew BK339.out)
  replace BK340 := Aside0.mk (blk_drew BK340.out)
  replace HB := Aside0.mk (below_drew1 HB.out)
  refine start_ (n := 15) (S := fun w' => w'.cell? ⟨gb339, 0, none⟩ = some (.int .i64 a0_0) ∧ w'.cell? ⟨gb339, 1, none⟩ = some (.int .i64 a0_1) ∧ w'.cell? ⟨gb339, 2, none⟩ = some (.bool a0_2) ∧ w'.cell? ⟨gb339, 3, none⟩ = some (.bool a0_3) ∧ w'.cell? ⟨gb340, 0, none⟩ = some (.int .i64 a1_0) ∧ w'.cell? ⟨gb340, 1, none⟩ = some (.int .i64 a1_1)) (ds := []) #[false, false, false, false, false, false, false, false, false, false, false, false, false, false, false] (by kernel_rfl) rfl rfl ⟨(blk_cell BK339.out 0).trans rfl, (blk_cell BK339.out 1).trans rfl, (blk_cell BK339.out 2).trans rfl, (blk_cell BK339.out 3).trans rfl, (blk_cell BK340.out 0).trans rfl, (blk_cell BK340.out 1).trans rfl⟩ (fun hHeld => ?_); refine with_tabW spec_VisitsAll.tab3 spec_VisitsAll.bits3 (fun HT_ HW_ => ?_)
  generalize w14.drew = w15 at BK339 BK340 HB hHeld ⊢
  refine pure_ (i := 2) (N := some 21) #[false, false, true, false, false, false, false, false, false, false, false, false, false, false, false] rfl rfl (any_of HT_.out (by kernel_rfl)) (fun _ _ _ h => h) (Or.inl ⟨by rfl, zv⟩) zs ?_
  refine pure_ (i := 3) (N := some 22) #[false, false, true, true, false, false, false, false, false, false, false, false, false, false, false] rfl rfl (any_of HT_.out (by kernel_rfl)) (fun _ _ _ h => h) (Or.inl ⟨by rfl, zv⟩) zs ?_
  refine pure_ (i := 4) (N := some 23) #[false, false, true, true, true, false, false, false, false, false, false, false, false, false, false] rfl rfl (any_of HT_.out (by kernel_rfl)) (fun _ _ _ h => h) (Or.inl ⟨by rfl, zv⟩) zs ?_
  refine pure_ (i := 7) (N := some 26) #[false, false, true, true, true, false, false, true, false, false, false, false, false, false, false] rfl rfl (any_of HT_.out (by kernel_rfl)) (fun _ _ _ h => h) (Or.inl ⟨by rfl, zv⟩) zs ?_
  refine pure_ (i := 9) (N := some 28) #[false, false, true, true, true, false, false, true, false, true, false, false, false, false, false] rfl rfl (any_of HT_.out (by kernel_rfl)) (fun _ _ _ h => h) (Or.inl ⟨by rfl, zv⟩) zs ?_
  refine take_ (i := 0) (N := some 19) #[true, false, true, true, true, false, false, true, false, true, false, false, false, false, false] rfl rfl (take_ofW HT_.out HW_.out (by kernel_rfl)) (fun _ _ _ h => h) (Or.inl ⟨by rfl, zu6⟩) hHeld zs ?_
  refine take_ (i := 1) (N := some 20) #[true, true, true, true, true, false, false, true, false, true, false, false, false, false, false] rfl rfl (take_ofW HT_.out HW_.out (by kernel_rfl)) (fun _ _ _ h => h) (Or.inl ⟨by rfl, zu6⟩) hHeld zs ?_
  refine take_ (i := 8) (N := some 27) #[true, true, true, true, true, false, false, true, true, true, false, false, false, false, false] rfl rfl (take_ofW HT_.out HW_.out (by kernel_rfl)) (fun _ _ _ h => h) (Or.inl ⟨by rfl, zu6⟩) hHeld zs ?_
  refine take_ (i := 10) (N := some 29) #[true, true, true, true, true, false, false, true, true, true, true, false, false, false, false] rfl rfl (take_ofW HT_.out HW_.out (by kernel_rfl)) (fun _ _ _ h => h) (Or.inl ⟨by rfl, zu6⟩) hHeld zs ?_
  refine pure_ (i := 11) (N := some 30) #[true, true, true, true, true, false, false, true, true, true, true, true, false, false, false] rfl rfl (any_of HT_.out (by kernel_rfl)) (fun _ _ _ h => h) (Or.inl ⟨by rfl, zv⟩) zs ?_
  refine one_ (i := 5) (N := some 24) #[true, true, true, true, true, true, false, true, true, true, true, true, false, false, false] rfl rfl (one_of HT_.out (by kernel_rfl)) (by decide) (fun K hK => ?_)
  refine goes_ Try.func63 (by kernel_rfl) rfl #[.agg #[.int .i64 a0_0, .int .i64 a0_1, .bool a0_2, .bool a0_3], .agg #[.int .i64 a1_0, .int .i64 a1_1], .int .i64 a2, .int .i64 a3, .int .i64 a4] (by rfl) rfl rfl zm ?_
  with_reducible refine (spec_arTurns.calls k a0_0 a0_1 a0_2 a0_3 a1_0 a1_1 a2 a3 a4 t342 _ A8.out).mono ?_
  rintro e w16 ⟨v343, rfl, ho0, hb⟩
  refine ⟨_, rfl, ?_⟩
  have HO344 := Aside0.mk (Kd.R_lower ho0 (below_size (zB2 HB GE339 GE340)))
  replace BK339 := zKb BK339 hb
  replace BK340 := zKb BK340 hb
  replace HB := Aside0.mk (below_step (zB2 HB GE339 GE340) hb)
  (try clear hb); (try clear hb2); (try clear hk); (try clear hi); (try clear ho0)
  obtain ⟨Ao17, co17, eo17⟩ := Kd.R_slice HO344.out
  (first | subst eo17 | (injection eo17 with f1_ f2_ f3_; have f4_ := f1_.symm; have f5_ := f3_.symm; clear f1_ f2_ f3_; subst f4_; subst f5_))
  refine hK.out _ _ ⟨(blk_cell BK339.out 0).trans rfl, (blk_cell BK339.out 1).trans rfl, (blk_cell BK339.out 2).trans rfl, (blk_cell BK339.out 3).trans rfl, (blk_cell BK340.out 0).trans rfl, (blk_cell BK340.out 1).trans rfl⟩ (fun hHeld => ?_)
  clear hK K
  refine norm_ (a' := ?_) ?_ ?_
  rotate_left
  ·show Act.put _ (some 24) _ = _
   simp only [Act.put, List.setIfInBounds_toArray, List.set_cons_zero, List.set_cons_succ, i64_w, i32_w]
   rfl
  refine pure_ (i := 6) (N := some 25) #[true, true, true, true, true, true, true, true, true, true, true, true, false, false, false] rfl rfl (any_of HT_.out (by kernel_rfl)) (fun _ _ _ h => h) (Or.inl ⟨by rfl, zv⟩) zs ?_
  refine pure_ (i := 12) (N := some 31) #[true, true, true, true, true, true, true, true, true, true, true, true, true, false, false] rfl rfl (any_of HT_.out (by kernel_rfl)) (fun _ _ _ h => h) (Or.inl ⟨by rfl, zv⟩) zs ?_
  refine pure_ (i := 13) (N := some 10) #[true, true, true, true, true, true, true, true, true, true, true, true, true, true, false] rfl rfl (any_of HT_.out (by kernel_rfl)) (fun _ _ _ h => h) (Or.inl ⟨by rfl, zv⟩) zs ?_
  refine pure_ (i := 14) (N := some 11) #[true, true, true, true, true, true, true, true, true, true, true, true, true, true, true] rfl rfl (any_of HT_.out (by kernel_rfl)) (fun _ _ _ h => h) (Or.inl ⟨by rfl, zv⟩) zs ?_
  refine done_ (done_of HT_.out (by kernel_rfl)) ?_
  try go_wp2
  go_ret2
  exact ⟨zt, zB2 HB GE339 GE340⟩
 ·replace c7 := Bool.eq_false_iff.mpr c7
  subst c7
  have H1 : (some (false, false)) = some (r1, r2) := by rw [if_neg (show ¬ (false = true) by decide)] at H; exact H
  clear H
  have H := H1
  clear H1
  simp only [Option.some.injEq, Prod.mk.injEq] at H
  obtain ⟨rfl, rfl⟩ := H
  go_enter Try.func55, Try.ntmps55
  go_wp2_with (first | ((with_reducible refine gate_dst (N := 5) rfl ?_); refine box_event ?hg (N := 5) ?hd (cs := #[.int .i64 a0_0, .int .i64 a0_1, .bool a0_2, .bool a0_3]) (t := 28) ?hr ?_; (case hd => rfl); (case hg => rfl); (case hr => first | (go_simp; done) | (go_simp; rfl)); intro gb339 hg w18 hbox hb; have BK339 := Aside0.mk (hbox); have GW339 := Aside0.mk (zG hg (below_size (zB0 HB)) : w.heap.size ≤ gb339); have GE339 := Aside0.mk (zG hg (below_size (zB0 HB)) : w.heap.size ≤ gb339); replace HB := Aside0.mk (below_step (zB0 HB) hb); clear hb hbox hg) | ((with_reducible refine gate_dst (N := 6) rfl ?_); refine box_event ?hg (N := 6) ?hd (cs := #[.int .i64 a1_0, .int .i64 a1_1]) (t := 30) ?hr ?_; (case hd => rfl); (case hg => rfl); (case hr => first | (go_simp; done) | (go_simp; rfl)); intro gb340 hg w19 hbox hb; have BK340 := Aside0.mk (hbox); have GW340 := Aside0.mk (zG hg (below_size (zB1 HB GE339)) : w.heap.size ≤ gb340); have GE340 := Aside0.mk (zG hg (below_size (zB1 HB GE339)) : w.heap.size ≤ gb340); replace HB := Aside0.mk (below_step (zB1 HB GE339) hb); have NB339_340 := Aside0.mk (zNl hg BK339 : gb339 ≠ gb340); have NB340_339 := Aside0.mk (zNg hg BK339 : gb340 ≠ gb339); replace BK339 := zKb BK339 hb; clear hb hbox hg; have hnb20 := NB339_340.out; have hnc20 := NB340_339.out; obtain ⟨hcz21_0, hcz21_1, hcz21_2, hcz21_3, hfz21_0, hfz21_1, hfz21_2, hfz21_3⟩ := zc4 BK339; obtain ⟨hcz22_0, hcz22_1, hfz22_0, hfz22_1⟩ := zc2 BK340) | ((with_reducible refine gate_callee (f := 80) rfl ?_); refine goesL_ (some 17) rfl rfl Try.func80 (by kernel_rfl) rfl #[.agg #[.int .i64 a0_0, .int .i64 a0_1, .bool a0_2, .bool a0_3], .agg #[.int .i64 a1_0, .int .i64 a1_1], .int .i64 a2, .int .i64 a3, .int .i64 a4] rfl zm ?_; (with_reducible refine (spec_arAsked.calls k a0_0 a0_1 a0_2 a0_3 a1_0 a1_1 a2 a3 a4 false _ A6.out).mono ?_); rintro e w23 ⟨rfl, hb⟩; refine ⟨_, rfl, ?_⟩; replace BK339 := zKb BK339 hb; replace BK340 := zKb BK340 hb; replace HB := Aside0.mk (below_step (zB2 HB GE339 GE340) hb); (try clear hb); (try clear hb2); (try clear hk); (try clear hi)))
  go_ret2
  exact ⟨zt, zB2 HB GE339 GE340⟩

/-! ### impl_StepsOf: function 56 -/
def impl_StepsOf.f (k : Nat) (a0_0 : Int) (a0_1 : Int) : Option ((List (List Int)) × Bool) := (impl_IsLeaper.f a0_0 a0_1).bind fun t346 => (if t346 = true then ((impl_Leaper_steps.f k a0_0 a0_1).bind fun t347 => (some (t347, true))) else (some (([] : List (List Int)), false)))
theorem impl_StepsOf.mono : ∀ a0 a1 k, LeO (impl_StepsOf.f k a0 a1) (impl_StepsOf.f (k + 1) a0 a1) := by
 intro a0 a1 k
 unfold impl_StepsOf.f
 repeat' first
   | (with_reducible exact impl_Leaper_steps.mono _ _ _)
   | (with_reducible exact LeO.refl _)
   | (with_reducible exact LeO.none _)
   | (with_reducible refine LeO.ite ?_ ?_)
   | (with_reducible refine LeO.bind ?_ (fun _ => ?_))
   | exact impl_Leaper_steps.mono _ _ _
   | exact LeO.none _
   | refine LeO.ite ?_ ?_
   | refine LeO.bind ?_ (fun _ => ?_)
set_option maxHeartbeats 8000000 in
set_option maxRecDepth 100000 in
theorem impl_StepsOf.calls (k : Nat) (a0_0 : Int) (a0_1 : Int) (r1 : List (List Int)) (r2 : Bool) (w : World) (h : impl_StepsOf.f k a0_0 a0_1 = some (r1, r2)) :
  Calls Try.prog 56 #[.agg #[.int .i64 a0_0, .int .i64 a0_1]] w fun e w' => ∃ v0_ : Value, e = .returned (.tuple #[v0_, .bool r2]) ∧ Kd.S (Kd.slice 3 (Kd.int .i64)) 33 w' w.heap.size (fun _ => True) v0_ r1 ∧ Below w.heap.size w w' := by
 have hu30 := Try.underlying30
 have HB := Aside0.mk (Below.refl w.heap.size w)
 have H : ((impl_IsLeaper.f a0_0 a0_1).bind fun t346 => (if t346 = true then ((impl_Leaper_steps.f k a0_0 a0_1).bind fun t347 => (some (t347, true))) else (some (([] : List (List Int)), false)))) = some (r1, r2) := h
 clear h
 replace H := Option.bind_eq_some_iff.mp H
 obtain ⟨t346, A20, H⟩ := H
 try dsimp only at H
 have A2 := Aside0.mk A20
 clear A20
 by_cases c3 : t346 = true
 ·subst c3
  have H1 : ((impl_Leaper_steps.f k a0_0 a0_1).bind fun t347 => (some (t347, true))) = some (r1, r2) := by rw [if_pos rfl] at H; exact H
  clear H
  have H := H1
  clear H1
  replace H := Option.bind_eq_some_iff.mp H
  obtain ⟨t347, A40, H⟩ := H
  try dsimp only at H
  have A4 := Aside0.mk A40
  clear A40
  simp only [Option.some.injEq, Prod.mk.injEq] at H
  obtain ⟨rfl, rfl⟩ := H
  go_enter Try.func56, Try.ntmps56
  go_wp2_with (first | ((with_reducible refine gate_dst (N := 1) rfl ?_); refine box_event ?hg (N := 1) ?hd (cs := #[.int .i64 a0_0, .int .i64 a0_1]) (t := 30) ?hr ?_; (case hd => rfl); (case hg => rfl); (case hr => first | (go_simp; done) | (go_simp; rfl)); intro gb345 hg w5 hbox hb; have BK345 := Aside0.mk (hbox); have GW345 := Aside0.mk (zG hg (below_size (zB0 HB)) : w.heap.size ≤ gb345); have GE345 := Aside0.mk (zG hg (below_size (zB0 HB)) : w.heap.size ≤ gb345); replace HB := Aside0.mk (below_step (zB0 HB) hb); clear hb hbox hg; obtain ⟨hcz6_0, hcz6_1, hfz6_0, hfz6_1⟩ := zc2 BK345) | ((with_reducible refine gate_callee (f := 65) rfl ?_); refine goesL_ (some 5) rfl rfl Try.func65 (by kernel_rfl) rfl #[.agg #[.int .i64 a0_0, .int .i64 a0_1]] rfl zm ?_; (with_reducible refine (impl_IsLeaper.calls a0_0 a0_1 true _ A2.out).mono ?_); rintro e w7 ⟨rfl, hb⟩; refine ⟨_, rfl, ?_⟩; replace BK345 := zKb BK345 hb; replace HB := Aside0.mk (below_step (zB1 HB GE345) hb); (try clear hb); (try clear hb2); (try clear hk); (try clear hi); obtain ⟨hcz8_0, hcz8_1, hfz8_0, hfz8_1⟩ := zc2 BK345) | ((with_reducible refine gate_callee (f := 66) rfl ?_); refine goesL_ (some 8) rfl rfl Try.func66 (by kernel_rfl) rfl #[.agg #[.int .i64 a0_0, .int .i64 a0_1]] rfl zm ?_; (with_reducible refine (impl_Leaper_steps.calls k a0_0 a0_1 t347 _ A4.out).mono ?_); rintro e w9 ⟨v348, rfl, ho0, hb⟩; refine ⟨_, rfl, ?_⟩; have HO349 := Aside0.mk (Kd.S_lower ho0 (below_size (zB1 HB GE345))); replace BK345 := zKb BK345 hb; replace HB := Aside0.mk (below_step (zB1 HB GE345) hb); (try clear hb); (try clear hb2); (try clear hk); (try clear hi); (try clear ho0)))
  go_ret2
  exact ⟨_, zt, by (with_reducible repeat (first | apply Kd.S_alloc | apply Kd.S_drewN | apply Kd.S_drew)); exact HO349.out, zB1 HB GE345⟩
 ·replace c3 := Bool.eq_false_iff.mpr c3
  subst c3
  have H1 : (some (([] : List (List Int)), false)) = some (r1, r2) := by rw [if_neg (show ¬ (false = true) by decide)] at H; exact H
  clear H
  have H := H1
  clear H1
  simp only [Option.some.injEq, Prod.mk.injEq] at H
  obtain ⟨rfl, rfl⟩ := H
  go_enter Try.func56, Try.ntmps56
  go_wp2_with (first | ((with_reducible refine gate_dst (N := 1) rfl ?_); refine box_event ?hg (N := 1) ?hd (cs := #[.int .i64 a0_0, .int .i64 a0_1]) (t := 30) ?hr ?_; (case hd => rfl); (case hg => rfl); (case hr => first | (go_simp; done) | (go_simp; rfl)); intro gb345 hg w10 hbox hb; have BK345 := Aside0.mk (hbox); have GW345 := Aside0.mk (zG hg (below_size (zB0 HB)) : w.heap.size ≤ gb345); have GE345 := Aside0.mk (zG hg (below_size (zB0 HB)) : w.heap.size ≤ gb345); replace HB := Aside0.mk (below_step (zB0 HB) hb); clear hb hbox hg; obtain ⟨hcz11_0, hcz11_1, hfz11_0, hfz11_1⟩ := zc2 BK345) | ((with_reducible refine gate_callee (f := 65) rfl ?_); refine goesL_ (some 5) rfl rfl Try.func65 (by kernel_rfl) rfl #[.agg #[.int .i64 a0_0, .int .i64 a0_1]] rfl zm ?_; (with_reducible refine (impl_IsLeaper.calls a0_0 a0_1 false _ A2.out).mono ?_); rintro e w12 ⟨rfl, hb⟩; refine ⟨_, rfl, ?_⟩; replace BK345 := zKb BK345 hb; replace HB := Aside0.mk (below_step (zB1 HB GE345) hb); (try clear hb); (try clear hb2); (try clear hk); (try clear hi)))
  go_ret2
  exact ⟨_, zt, by first | exact Kd.S_nil _ _ _ _ _ | exact Kd.N_nil _ _ _ _ _ | exact Kd.V_nil _ _ _ _ _ | exact Kd.Q_nil _ _ _ _ _ | exact Kd.R_nil _ _ _ _ _, zB1 HB GE345⟩

end Go.Proofs.Ytogkcfddoiloeaa.PFnOrbitsShareOfAll
