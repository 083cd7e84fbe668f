/- The walk. -/
import Derived.Test.YtogkcfddoiloeaaYFnOrbitsSharex6
namespace Go.Proofs.Ytogkcfddoiloeaa.PFnOrbitsShare
open Go.RowKit Go.Proofs.YtogkcfddoiloeaaW.PrintWords Go.Proofs.YtogkcfddoiloeaaW.PrintLast Go.Proofs.YtogkcfddoiloeaaW.PrintMore
attribute [local go_sem] max2_int min2_int max_two min_two max_three min_three max_four min_four
set_option linter.unusedVariables false
set_option linter.unusedSimpArgs false
def spec_arCell.f (a0_0 : Int) (a0_1 : Int) (a0_2 : Bool) (a0_3 : Bool) (a1 : Int) : Option (Bool) := (spec_arGood.f a0_0 a0_1 a0_2 a0_3).bind fun t287 => (if t287 = true then ((spec_l1In.f a1 0 (wrap64 ((wrap64 (a0_0 * a0_1)) - 1))).bind fun t288 => (some t288)) else (some false))
set_option maxHeartbeats 8000000 in
set_option maxRecDepth 100000 in
theorem spec_arCell.calls (a0_0 : Int) (a0_1 : Int) (a0_2 : Bool) (a0_3 : Bool) (a1 : Int) (r : Bool) (w : World) (h : spec_arCell.f a0_0 a0_1 a0_2 a0_3 a1 = some r) :
  Calls Try.prog 96 #[.agg #[.int .i64 a0_0, .int .i64 a0_1, .bool a0_2, .bool a0_3], .int .i64 a1] w fun e w' => e = .returned (.bool r) ∧ Below w.heap.size w w' := by
 have hu28 := Try.underlying28
 have HB := zA (Below.refl w.heap.size w)
 have H : ((spec_arGood.f a0_0 a0_1 a0_2 a0_3).bind fun t287 => (if t287 = true then ((spec_l1In.f a1 0 (wrap64 ((wrap64 (a0_0 * a0_1)) - 1))).bind fun t288 => (some t288)) else (some false))) = some r := h
 clear h
 obtain ⟨t287, A3, H⟩ := zM H
 try dsimp only at H
 by_cases c4 : t287 = true
 ·subst c4
  have H1 : ((spec_l1In.f a1 0 (wrap64 ((wrap64 (a0_0 * a0_1)) - 1))).bind fun t288 => (some t288)) = some r := by rw [if_pos rfl] at H; exact H
  clear H
  have H := H1
  clear H1
  obtain ⟨t288, A5, H⟩ := zM H
  try dsimp only at H
  obtain rfl := Option.some.inj H
  go_enter Try.func96, Try.ntmps96
  go_wp2_with (first | ((with_reducible refine gate_dst (N := 2) rfl ?_); refine box_event zr (N := 2) zr (cs := #[.int .i64 a0_0, .int .i64 a0_1, .bool a0_2, .bool a0_3]) (t := 28) zh ?_; intro gb286 hg w6 hbox hb; have BK286 := zA (hbox); have GW286 := zA (zG hg (below_size (zB0 HB)) : w.heap.size ≤ gb286); have GE286 := zA (zG hg (below_size (zB0 HB)) : w.heap.size ≤ gb286); replace HB := zA (below_step (zB0 HB) hb); clear hb hbox hg; obtain ⟨z7_0, z7_1, z7_2, z7_3, y7_0, y7_1, y7_2, y7_3⟩ := zc4 BK286) | ((with_reducible refine gate_callee (f := 105) rfl ?_); refine goesL_ (some 6) rfl rfl Try.func105 zn rfl #[.agg #[.int .i64 a0_0, .int .i64 a0_1, .bool a0_2, .bool a0_3]] rfl zm ?_; (with_reducible refine (spec_arGood.calls a0_0 a0_1 a0_2 a0_3 true _ A3.out).mono ?_); rintro e w8 ⟨rfl, hb⟩; refine ⟨_, rfl, ?_⟩; replace BK286 := zKb BK286 hb; replace HB := zA (below_step (zB1 HB GE286) hb); (try clear hb); (try clear hb2); (try clear hk); (try clear hi); obtain ⟨z9_0, z9_1, z9_2, z9_3, y9_0, y9_1, y9_2, y9_3⟩ := zc4 BK286) | (go_at_call 77; (with_reducible refine (spec_l1In.calls a1 0 (wrap64 ((wrap64 (a0_0 * a0_1)) - 1)) t288 _ A5.out).mono ?_); rintro e w' ⟨rfl, ⟨nd, rfl⟩⟩))
  go_ret
  exact ⟨zt, zB1 HB GE286⟩
 ·replace c4 := Bool.eq_false_iff.mpr c4
  subst c4
  have H1 : (some false) = some r := by rw [if_neg (show ¬ (false = true) by decide)] at H; exact H
  clear H
  have H := H1
  clear H1
  obtain rfl := Option.some.inj H
  go_enter Try.func96, Try.ntmps96
  go_wp2_with (first | ((with_reducible refine gate_dst (N := 2) rfl ?_); refine box_event zr (N := 2) zr (cs := #[.int .i64 a0_0, .int .i64 a0_1, .bool a0_2, .bool a0_3]) (t := 28) zh ?_; intro gb286 hg w10 hbox hb; have BK286 := zA (hbox); have GW286 := zA (zG hg (below_size (zB0 HB)) : w.heap.size ≤ gb286); have GE286 := zA (zG hg (below_size (zB0 HB)) : w.heap.size ≤ gb286); replace HB := zA (below_step (zB0 HB) hb); clear hb hbox hg; obtain ⟨z11_0, z11_1, z11_2, z11_3, y11_0, y11_1, y11_2, y11_3⟩ := zc4 BK286) | ((with_reducible refine gate_callee (f := 105) rfl ?_); refine goesL_ (some 6) rfl rfl Try.func105 zn rfl #[.agg #[.int .i64 a0_0, .int .i64 a0_1, .bool a0_2, .bool a0_3]] rfl zm ?_; (with_reducible refine (spec_arGood.calls a0_0 a0_1 a0_2 a0_3 false _ A3.out).mono ?_); rintro e w12 ⟨rfl, hb⟩; refine ⟨_, rfl, ?_⟩; replace BK286 := zKb BK286 hb; replace HB := zA (below_step (zB1 HB GE286) hb); (try clear hb); (try clear hb2); (try clear hk); (try clear hi)))
  go_ret
  exact ⟨zt, zB1 HB GE286⟩
def spec_arOrbit.l0 : Nat → Int → Int → Int → List Int → Int → Int → Int → Bool → Bool → Option (List Int)
 | 0, _, _, _, _, _, _, _, _, _ => none
 | k + 1, x1, x2, x3, x9, x10, x290000, x290001, x290002, x290003 => if x10 = x1 then (some x9) else (if x9.length < 17592186044416 then ((spec_arStep.f x290000 x290001 x290002 x290003 x10 x2 x3).bind fun t297 => (spec_arOrbit.l0 k x1 x2 x3 (x9 ++ [x10]) t297 x290000 x290001 x290002 x290003)) else (none))
def spec_arOrbit.f (k : Nat) (a0_0 : Int) (a0_1 : Int) (a0_2 : Bool) (a0_3 : Bool) (a1 : Int) (a2 : Int) (a3 : Int) : Option (List Int) := (spec_arStep.f a0_0 a0_1 a0_2 a0_3 a1 a2 a3).bind fun t293 => (spec_arOrbit.l0 k a1 a2 a3 (([a1] : List Int)) t293 a0_0 a0_1 a0_2 a0_3)
theorem spec_arOrbit.mono_l : ∀ k, (∀ y0 y1 y2 y3 y4 y5 y6 y7 y8, LeO (spec_arOrbit.l0 k y0 y1 y2 y3 y4 y5 y6 y7 y8) (spec_arOrbit.l0 (k + 1) y0 y1 y2 y3 y4 y5 y6 y7 y8))
 | 0 => fun _ _ _ _ _ _ _ _ _ r h => by simp [spec_arOrbit.l0] at h
 | k + 1 => by
  have ih0 := spec_arOrbit.mono_l k
  ·intro y0 y1 y2 y3 y4 y5 y6 y7 y8
   unfold spec_arOrbit.l0
   repeat' first
   | (with_reducible apply ih0)
   | (with_reducible exact LeO.refl _)
   | (with_reducible exact LeO.none _)
   | (with_reducible refine LeO.ite ?_ ?_)
   | (with_reducible refine LeO.bind ?_ (fun _ => ?_))
   | apply ih0
   | exact LeO.none _
   | refine LeO.ite ?_ ?_
   | refine LeO.bind ?_ (fun _ => ?_)
theorem spec_arOrbit.mono : ∀ a0 a1 a2 a3 a4 a5 a6 k, LeO (spec_arOrbit.f k a0 a1 a2 a3 a4 a5 a6) (spec_arOrbit.f (k + 1) a0 a1 a2 a3 a4 a5 a6) := by
 intro a0 a1 a2 a3 a4 a5 a6 k
 have ih0 := spec_arOrbit.mono_l k
 unfold spec_arOrbit.f
 repeat' first
   | (with_reducible apply ih0)
   | (with_reducible exact LeO.refl _)
   | (with_reducible exact LeO.none _)
   | (with_reducible refine LeO.ite ?_ ?_)
   | (with_reducible refine LeO.bind ?_ (fun _ => ?_))
   | apply ih0
   | exact LeO.none _
   | refine LeO.ite ?_ ?_
   | refine LeO.bind ?_ (fun _ => ?_)
set_option maxHeartbeats 8000000 in
set_option maxRecDepth 100000 in
theorem spec_arOrbit.calls (k : Nat) (a0_0 : Int) (a0_1 : Int) (a0_2 : Bool) (a0_3 : Bool) (a1 : Int) (a2 : Int) (a3 : Int) (r : List Int) (w : World) (h : spec_arOrbit.f k a0_0 a0_1 a0_2 a0_3 a1 a2 a3 = some r) :
  Calls Try.prog 97 #[.agg #[.int .i64 a0_0, .int .i64 a0_1, .bool a0_2, .bool a0_3], .int .i64 a1, .int .i64 a2, .int .i64 a3] w fun e w' => ∃ v0_ : Value, e = .returned (v0_) ∧ Kd.R (Kd.int .i64) 3 w' w.heap.size (fun _ => True) v0_ r ∧ Below w.heap.size w w' := by
 have hu28 := Try.underlying28
 have HB := zA (Below.refl w.heap.size w)
 have H : ((spec_arStep.f a0_0 a0_1 a0_2 a0_3 a1 a2 a3).bind fun t293 => (spec_arOrbit.l0 k a1 a2 a3 (([a1] : List Int)) t293 a0_0 a0_1 a0_2 a0_3)) = some r := h
 clear h
 obtain ⟨y290, hy290⟩ : ∃ y_ : List Int, y_ = (([a1] : List Int)) := ⟨_, rfl⟩
 replace H : ((spec_arStep.f a0_0 a0_1 a0_2 a0_3 a1 a2 a3).bind fun t293 => (spec_arOrbit.l0 k a1 a2 a3 y290 t293 a0_0 a0_1 a0_2 a0_3)) = some r := by first | (rw [hy290]; with_reducible exact H) | (have H2_ := (Option.bind_some _ _).symm.trans H; rw [hy290]; with_reducible exact H2_) | (have H2_ := (Option.bind_some _ _).symm.trans H; with_reducible exact H2_) | with_reducible exact H | (rw [hy290]; exact H) | exact H
 have Ny290 := zA hy290
 clear hy290
 obtain ⟨t293, A5, H⟩ := zM H
 try dsimp only at H
 have H' := zA H
 clear H
 go_enter Try.func97, Try.ntmps97
 go_wp2_with (first | ((with_reducible refine gate_dst (N := 4) rfl ?_); refine box_event zr (N := 4) zr (cs := #[.int .i64 a0_0, .int .i64 a0_1, .bool a0_2, .bool a0_3]) (t := 28) zh ?_; intro gb289 hg w6 hbox hb; have BK289 := zA (hbox); have GW289 := zA (zG hg (below_size (zB0 HB)) : w.heap.size ≤ gb289); have GE289 := zA (zG hg (below_size (zB0 HB)) : w.heap.size ≤ gb289); replace HB := zA (below_step (zB0 HB) hb); clear hb hbox hg) | ((with_reducible refine gate_dst (N := 12) rfl ?_); refine Kd.R_lit (Kd.int .i64) _ 3 ?hg (N := 12) ?hd (xs := ([a1] : List Int)) (inner := [.int .i64 a1]) (ok := fun _ => True) (okp := fun _ => True) ?hr ?hp (fun _ hk => hk) trivial (Below.refl _ _) (Nat.le_refl _) (by simp) ?_; (case hd => rfl); (case hg => rfl); (case hr => first | (go_simp; done) | (go_simp; rfl)); (case hp => exact (Reps.one (show Kd.M (Kd.int .i64) _ _ _ a1 [.int .i64 a1] from rfl) (Reps.none _ _))); intro v291 w7 ho8 hb hg_ hnew_; clear hg_ hnew_; (first | rw [← Ny290.out] at ho8 | (simp only [Int.reduceToNat] at ho8; rw [← Ny290.out] at ho8)); have HO292 := zA (Kd.R_lower ho8 (below_size (zB1 HB GE289))); replace BK289 := zKb BK289 hb; replace HB := zA (below_step (zB1 HB GE289) hb); clear hb ho8; obtain ⟨z9_0, z9_1, z9_2, z9_3, y9_0, y9_1, y9_2, y9_3⟩ := zc4 BK289) | ((with_reducible refine gate_callee (f := 108) rfl ?_); refine goesL_ (some 17) rfl rfl Try.func108 zn rfl #[.agg #[.int .i64 a0_0, .int .i64 a0_1, .bool a0_2, .bool a0_3], .int .i64 a1, .int .i64 a2, .int .i64 a3] rfl zm ?_; (with_reducible refine (spec_arStep.calls a0_0 a0_1 a0_2 a0_3 a1 a2 a3 t293 _ A5.out).mono ?_); rintro e w10 ⟨rfl, hb⟩; refine ⟨_, rfl, ?_⟩; replace HO292 := zRb HO292 hb; replace BK289 := zKb BK289 hb; replace HB := zA (below_step (zB1 HB GE289) hb); (try clear hb); (try clear hb2); (try clear hk); (try clear hi)))
 go_loopg [9, 10] k (fun kq v9 v10 w' => ∃ (x9_1 : List Int) (x10_1 : Int), v10 = .int .i64 x10_1 ∧ Aside0 (spec_arOrbit.l0 kq a1 a2 a3 x9_1 x10_1 a0_0 a0_1 a0_2 a0_3 = some r) ∧ Aside0 (kq ≤ k) ∧ Aside0 (Kd.R (Kd.int .i64) 3 w' w.heap.size (fun _ => True) v9 x9_1) ∧ Aside0 (w'.heap[gb289]? = some (.cells #[.int .i64 a0_0, .int .i64 a0_1, .bool a0_2, .bool a0_3] 28 (0, 0))) ∧ Aside0 (Below w.heap.size w w'))
 case atStart => exact ⟨(y290), (t293), ze, H', ⟨Nat.le_refl _⟩, ⟨zR HO292.out⟩, ⟨zK BK289⟩, ⟨zB1 HB GE289⟩⟩
 case round =>
  clear H'
  (try clear z9_0 z9_1 z9_2 z9_3 y9_0 y9_1 y9_2 y9_3)
  obtain ⟨x9_1, x10_1, rfl, HA, HK1, HO_9, BK289, HB⟩ := hrel
  cases gk with
  | zero => exact absurd HA.out (by simp [spec_arOrbit.l0])
  | succ k1 =>
   have H := HA.out
   clear HA
   simp only [spec_arOrbit.l0] at H
   by_cases c11 : x10_1 = a1
   ·rw [if_pos c11] at H
    have c11b0 : (x10_1 == a1) = true := beq_iff_eq.mpr c11
    have c11b1 : (x10_1 != a1) = false := bne_eq_false_iff_eq.mpr c11
    clear c11
    obtain rfl := Option.some.inj H
    go_wp2
    go_ret
    exact ⟨_, zt, by (with_reducible repeat (first | apply Kd.R_alloc | apply Kd.R_drewN | apply Kd.R_drew)); exact HO_9.out, zB1 HB GE289⟩
   ·rw [if_neg c11] at H
    have c11b0 : (x10_1 == a1) = false := beq_eq_false_iff_ne.mpr c11
    have c11b1 : (x10_1 != a1) = true := bne_iff_ne.mpr c11
    by_cases c12 : x9_1.length < 17592186044416
    ·rw [if_pos c12] at H
     have LMc12 := zA c12
     clear c12
     obtain ⟨y294, hy294⟩ : ∃ y_ : List Int, y_ = (x9_1 ++ [x10_1]) := ⟨_, rfl⟩
     replace H : ((spec_arStep.f a0_0 a0_1 a0_2 a0_3 x10_1 a2 a3).bind fun t297 => (spec_arOrbit.l0 k1 a1 a2 a3 y294 t297 a0_0 a0_1 a0_2 a0_3)) = some r := by first | (rw [hy294]; with_reducible exact H) | (have H2_ := (Option.bind_some _ _).symm.trans H; rw [hy294]; with_reducible exact H2_) | (have H2_ := (Option.bind_some _ _).symm.trans H; with_reducible exact H2_) | with_reducible exact H | (rw [hy294]; exact H) | exact H
     have Ny294 := zA hy294
     clear hy294
     obtain ⟨t297, A13, H⟩ := zM H
     try dsimp only at H
     have H' := zA H
     clear H
     go_wp2_with (first | ((with_reducible refine gate_builtin (b := .append) (xs := #[.tmp 26, .tmp 28]) rfl ?_); at_builtin; refine Kd.R_append (Kd.int .i64) (w0 := w) w.heap.size rfl (.tmp 26) (.tmp 28) 33 3 (.int .i64 0) 8 rfl Try.underlying33 info3 rfl (by decide) (by omega) u9 x9_1 x10_1 [.int .i64 x10_1] (fun _ => True) (fun _ => False) rfl rfl ?aP (fun _ hk => hk.elim) ?aF ?aO ?aB ?aS ?aL ?_; (case aP => exact rfl); (case aB => exact (zB1 HB GE289)); (case aF => exact (fun _ _ => trivial)); (case aO => exact (zR HO_9.out)); (case aS => exact (below_size (zB1 HB GE289))); (case aL => have := LMc12.out; omega); intro v295 w14 ho hb hg hat; rw [← Ny294.out] at ho; have n0_ := zA (blk_grown (g := gb289) (o := .cells #[.int .i64 a0_0, .int .i64 a0_1, .bool a0_2, .bool a0_3] 28 (0, 0)) (zK BK289) hg (Kd.R_ne HO_9.out BK289.out (by decide))); have n1_ := zA (hb); have n2_ := zA (ho); clear BK289; clear HB; clear HO_9; have BK289 := n0_; have HB := n1_; have HO296 := n2_; clear n0_ n1_ n2_; clear ho hb hg hat; obtain ⟨z15_0, z15_1, z15_2, z15_3, y15_0, y15_1, y15_2, y15_3⟩ := zc4 BK289) | ((with_reducible refine gate_callee (f := 108) rfl ?_); refine goesL_ (some 25) rfl rfl Try.func108 zn rfl #[.agg #[.int .i64 a0_0, .int .i64 a0_1, .bool a0_2, .bool a0_3], .int .i64 x10_1, .int .i64 a2, .int .i64 a3] rfl zm ?_; (with_reducible refine (spec_arStep.calls a0_0 a0_1 a0_2 a0_3 x10_1 a2 a3 t297 _ A13.out).mono ?_); rintro e w16 ⟨rfl, hb⟩; refine ⟨_, rfl, ?_⟩; replace HO296 := zRb HO296 hb; replace BK289 := zKb BK289 hb; replace HB := zA (below_step (zB1 HB GE289) hb); (try clear hb); (try clear hb2); (try clear hk); (try clear hi)))
     go_roundg k1
     case measure => have := HK1.out; omega
     case rel => exact ⟨(y294), (t297), ze, H', ⟨by have := HK1.out; omega⟩, ⟨zR HO296.out⟩, ⟨zK BK289⟩, ⟨zB1 HB GE289⟩⟩
    ·rw [if_neg c12] at H
     exact absurd H (by simp)
def spec_OrbitOf.f (k : Nat) (a0_0 : Int) (a0_1 : Int) (a0_2 : Bool) (a0_3 : Bool) (a1 : Int) (a2 : Int) (a3 : Int) : Option (List Int × Bool) := (spec_arJoined.f a0_0 a0_1 a0_2 a0_3 a2 a3).bind fun t299 => (if t299 = true then ((spec_arCell.f a0_0 a0_1 a0_2 a0_3 a1).bind fun t300 => (if t300 = true then ((spec_arOrbit.f k a0_0 a0_1 a0_2 a0_3 a1 a2 a3).bind fun t301 => (some (t301, true))) else (some (([] : List Int), false)))) else (some (([] : List Int), false)))
theorem spec_OrbitOf.mono : ∀ a0 a1 a2 a3 a4 a5 a6 k, LeO (spec_OrbitOf.f k a0 a1 a2 a3 a4 a5 a6) (spec_OrbitOf.f (k + 1) a0 a1 a2 a3 a4 a5 a6) := by
 intro a0 a1 a2 a3 a4 a5 a6 k
 unfold spec_OrbitOf.f
 repeat' first
   | (with_reducible exact spec_arOrbit.mono _ _ _ _ _ _ _ _)
   | (with_reducible exact LeO.refl _)
   | (with_reducible exact LeO.none _)
   | (with_reducible refine LeO.ite ?_ ?_)
   | (with_reducible refine LeO.bind ?_ (fun _ => ?_))
   | exact spec_arOrbit.mono _ _ _ _ _ _ _ _
   | exact LeO.none _
   | refine LeO.ite ?_ ?_
   | refine LeO.bind ?_ (fun _ => ?_)
set_option maxHeartbeats 8000000 in
set_option maxRecDepth 100000 in
theorem spec_OrbitOf.calls (k : Nat) (a0_0 : Int) (a0_1 : Int) (a0_2 : Bool) (a0_3 : Bool) (a1 : Int) (a2 : Int) (a3 : Int) (r1 : List Int) (r2 : Bool) (w : World) (h : spec_OrbitOf.f k a0_0 a0_1 a0_2 a0_3 a1 a2 a3 = some (r1, r2)) :
  Calls Try.prog 46 #[.agg #[.int .i64 a0_0, .int .i64 a0_1, .bool a0_2, .bool a0_3], .int .i64 a1, .int .i64 a2, .int .i64 a3] w fun e w' => ∃ v0_ : Value, e = .returned (.tuple #[v0_, .bool r2]) ∧ Kd.R (Kd.int .i64) 3 w' w.heap.size (fun _ => True) v0_ r1 ∧ Below w.heap.size w w' := by
 have hu28 := Try.underlying28
 have HB := zA (Below.refl w.heap.size w)
 have H : ((spec_arJoined.f a0_0 a0_1 a0_2 a0_3 a2 a3).bind fun t299 => (if t299 = true then ((spec_arCell.f a0_0 a0_1 a0_2 a0_3 a1).bind fun t300 => (if t300 = true then ((spec_arOrbit.f k a0_0 a0_1 a0_2 a0_3 a1 a2 a3).bind fun t301 => (some (t301, true))) else (some (([] : List Int), false)))) else (some (([] : List Int), false)))) = some (r1, r2) := h
 clear h
 obtain ⟨t299, A5, H⟩ := zM H
 try dsimp only at H
 by_cases c6 : t299 = true
 ·subst c6
  have H1 : ((spec_arCell.f a0_0 a0_1 a0_2 a0_3 a1).bind fun t300 => (if t300 = true then ((spec_arOrbit.f k a0_0 a0_1 a0_2 a0_3 a1 a2 a3).bind fun t301 => (some (t301, true))) else (some (([] : List Int), false)))) = some (r1, r2) := by rw [if_pos rfl] at H; exact H
  clear H
  have H := H1
  clear H1
  obtain ⟨t300, A7, H⟩ := zM H
  try dsimp only at H
  by_cases c8 : t300 = true
  ·subst c8
   have H1 : ((spec_arOrbit.f k a0_0 a0_1 a0_2 a0_3 a1 a2 a3).bind fun t301 => (some (t301, true))) = some (r1, r2) := by rw [if_pos rfl] at H; exact H
   clear H
   have H := H1
   clear H1
   obtain ⟨t301, A9, H⟩ := zM H
   try dsimp only at H
   simp only [Option.some.injEq, Prod.mk.injEq] at H
   obtain ⟨rfl, rfl⟩ := H
   go_enter Try.func46, Try.ntmps46
   go_wp2_with (first | ((with_reducible refine gate_dst (N := 4) rfl ?_); refine box_event zr (N := 4) zr (cs := #[.int .i64 a0_0, .int .i64 a0_1, .bool a0_2, .bool a0_3]) (t := 28) zh ?_; intro gb298 hg w10 hbox hb; have BK298 := zA (hbox); have GW298 := zA (zG hg (below_size (zB0 HB)) : w.heap.size ≤ gb298); have GE298 := zA (zG hg (below_size (zB0 HB)) : w.heap.size ≤ gb298); replace HB := zA (below_step (zB0 HB) hb); clear hb hbox hg; obtain ⟨z11_0, z11_1, z11_2, z11_3, y11_0, y11_1, y11_2, y11_3⟩ := zc4 BK298) | ((with_reducible refine gate_callee (f := 95) rfl ?_); refine goesL_ (some 13) rfl rfl Try.func95 zn rfl #[.agg #[.int .i64 a0_0, .int .i64 a0_1, .bool a0_2, .bool a0_3], .int .i64 a2, .int .i64 a3] rfl zm ?_; (with_reducible refine (spec_arJoined.calls a0_0 a0_1 a0_2 a0_3 a2 a3 true _ A5.out).mono ?_); rintro e w12 ⟨rfl, hb⟩; refine ⟨_, rfl, ?_⟩; replace BK298 := zKb BK298 hb; replace HB := zA (below_step (zB1 HB GE298) hb); (try clear hb); (try clear hb2); (try clear hk); (try clear hi); obtain ⟨z13_0, z13_1, z13_2, z13_3, y13_0, y13_1, y13_2, y13_3⟩ := zc4 BK298) | (go_at_call 96; (with_reducible refine (spec_arCell.calls a0_0 a0_1 a0_2 a0_3 a1 true _ A7.out).mono ?_); rintro e w14 ⟨rfl, hb⟩; replace BK298 := zKb BK298 hb; replace HB := zA (below_step (zB1 HB GE298) hb); (try clear hb); (try clear hb2); (try clear hk); (try clear hi); obtain ⟨z15_0, z15_1, z15_2, z15_3, y15_0, y15_1, y15_2, y15_3⟩ := zc4 BK298) | ((with_reducible refine gate_callee (f := 97) rfl ?_); refine goesL_ (some 25) rfl rfl Try.func97 zn rfl #[.agg #[.int .i64 a0_0, .int .i64 a0_1, .bool a0_2, .bool a0_3], .int .i64 a1, .int .i64 a2, .int .i64 a3] rfl zm ?_; (with_reducible refine (spec_arOrbit.calls k a0_0 a0_1 a0_2 a0_3 a1 a2 a3 t301 _ A9.out).mono ?_); rintro e w16 ⟨v302, rfl, ho0, hb⟩; refine ⟨_, rfl, ?_⟩; have HO303 := zA (Kd.R_lower ho0 (below_size (zB1 HB GE298))); replace BK298 := zKb BK298 hb; replace HB := zA (below_step (zB1 HB GE298) hb); (try clear hb); (try clear hb2); (try clear hk); (try clear hi); (try clear ho0)))
   go_ret2
   exact ⟨_, zt, by (with_reducible repeat (first | apply Kd.R_alloc | apply Kd.R_drewN | apply Kd.R_drew)); exact HO303.out, zB1 HB GE298⟩
  ·replace c8 := Bool.eq_false_iff.mpr c8
   subst c8
   have H1 : (some (([] : List Int), false)) = some (r1, r2) := by rw [if_neg (show ¬ (false = true) by decide)] at H; exact H
   clear H
   have H := H1
   clear H1
   simp only [Option.some.injEq, Prod.mk.injEq] at H
   obtain ⟨rfl, rfl⟩ := H
   go_enter Try.func46, Try.ntmps46
   go_wp2_with (first | ((with_reducible refine gate_dst (N := 4) rfl ?_); refine box_event zr (N := 4) zr (cs := #[.int .i64 a0_0, .int .i64 a0_1, .bool a0_2, .bool a0_3]) (t := 28) zh ?_; intro gb298 hg w17 hbox hb; have BK298 := zA (hbox); have GW298 := zA (zG hg (below_size (zB0 HB)) : w.heap.size ≤ gb298); have GE298 := zA (zG hg (below_size (zB0 HB)) : w.heap.size ≤ gb298); replace HB := zA (below_step (zB0 HB) hb); clear hb hbox hg; obtain ⟨z18_0, z18_1, z18_2, z18_3, y18_0, y18_1, y18_2, y18_3⟩ := zc4 BK298) | ((with_reducible refine gate_callee (f := 95) rfl ?_); refine goesL_ (some 13) rfl rfl Try.func95 zn rfl #[.agg #[.int .i64 a0_0, .int .i64 a0_1, .bool a0_2, .bool a0_3], .int .i64 a2, .int .i64 a3] rfl zm ?_; (with_reducible refine (spec_arJoined.calls a0_0 a0_1 a0_2 a0_3 a2 a3 true _ A5.out).mono ?_); rintro e w19 ⟨rfl, hb⟩; refine ⟨_, rfl, ?_⟩; replace BK298 := zKb BK298 hb; replace HB := zA (below_step (zB1 HB GE298) hb); (try clear hb); (try clear hb2); (try clear hk); (try clear hi); obtain ⟨z20_0, z20_1, z20_2, z20_3, y20_0, y20_1, y20_2, y20_3⟩ := zc4 BK298) | (go_at_call 96; (with_reducible refine (spec_arCell.calls a0_0 a0_1 a0_2 a0_3 a1 false _ A7.out).mono ?_); rintro e w21 ⟨rfl, hb⟩; replace BK298 := zKb BK298 hb; replace HB := zA (below_step (zB1 HB GE298) hb); (try clear hb); (try clear hb2); (try clear hk); (try clear hi)))
   go_ret2
   exact ⟨_, zt, by first | exact Kd.R_nil _ _ _ _ _ | exact Kd.N_nil _ _ _ _ _ | exact Kd.V_nil _ _ _ _ _ | exact Kd.Q_nil _ _ _ _ _ | exact Kd.S_nil _ _ _ _ _, zB1 HB GE298⟩
 ·replace c6 := Bool.eq_false_iff.mpr c6
  subst c6
  have H1 : (some (([] : List Int), false)) = some (r1, r2) := by rw [if_neg (show ¬ (false = true) by decide)] at H; exact H
  clear H
  have H := H1
  clear H1
  simp only [Option.some.injEq, Prod.mk.injEq] at H
  obtain ⟨rfl, rfl⟩ := H
  go_enter Try.func46, Try.ntmps46
  go_wp2_with (first | ((with_reducible refine gate_dst (N := 4) rfl ?_); refine box_event zr (N := 4) zr (cs := #[.int .i64 a0_0, .int .i64 a0_1, .bool a0_2, .bool a0_3]) (t := 28) zh ?_; intro gb298 hg w22 hbox hb; have BK298 := zA (hbox); have GW298 := zA (zG hg (below_size (zB0 HB)) : w.heap.size ≤ gb298); have GE298 := zA (zG hg (below_size (zB0 HB)) : w.heap.size ≤ gb298); replace HB := zA (below_step (zB0 HB) hb); clear hb hbox hg; obtain ⟨z23_0, z23_1, z23_2, z23_3, y23_0, y23_1, y23_2, y23_3⟩ := zc4 BK298) | ((with_reducible refine gate_callee (f := 95) rfl ?_); refine goesL_ (some 13) rfl rfl Try.func95 zn rfl #[.agg #[.int .i64 a0_0, .int .i64 a0_1, .bool a0_2, .bool a0_3], .int .i64 a2, .int .i64 a3] rfl zm ?_; (with_reducible refine (spec_arJoined.calls a0_0 a0_1 a0_2 a0_3 a2 a3 false _ A5.out).mono ?_); rintro e w24 ⟨rfl, hb⟩; refine ⟨_, rfl, ?_⟩; replace BK298 := zKb BK298 hb; replace HB := zA (below_step (zB1 HB GE298) hb); (try clear hb); (try clear hb2); (try clear hk); (try clear hi)))
  go_ret2
  exact ⟨_, zt, by first | exact Kd.R_nil _ _ _ _ _ | exact Kd.N_nil _ _ _ _ _ | exact Kd.V_nil _ _ _ _ _ | exact Kd.Q_nil _ _ _ _ _ | exact Kd.S_nil _ _ _ _ _, zB1 HB GE298⟩
def impl_OrbitLength.f (k : Nat) (a0_0 : Int) (a0_1 : Int) (a0_2 : Bool) (a0_3 : Bool) (a1 : Int) (a2 : Int) : Option (Int × Bool) := (impl_OrbitOf.f k a0_0 a0_1 a0_2 a0_3 0 a1 a2).bind fun bt305 => (some ((bt305.1.length : Int), bt305.2))
theorem impl_OrbitLength.mono : ∀ a0 a1 a2 a3 a4 a5 k, LeO (impl_OrbitLength.f k a0 a1 a2 a3 a4 a5) (impl_OrbitLength.f (k + 1) a0 a1 a2 a3 a4 a5) := by
 intro a0 a1 a2 a3 a4 a5 k
 unfold impl_OrbitLength.f
 repeat' first
   | (with_reducible exact impl_OrbitOf.mono _ _ _ _ _ _ _ _)
   | (with_reducible exact LeO.refl _)
   | (with_reducible exact LeO.none _)
   | (with_reducible refine LeO.ite ?_ ?_)
   | (with_reducible refine LeO.bind ?_ (fun _ => ?_))
   | exact impl_OrbitOf.mono _ _ _ _ _ _ _ _
   | exact LeO.none _
   | refine LeO.ite ?_ ?_
   | refine LeO.bind ?_ (fun _ => ?_)
set_option maxHeartbeats 8000000 in
set_option maxRecDepth 100000 in
theorem impl_OrbitLength.calls (k : Nat) (a0_0 : Int) (a0_1 : Int) (a0_2 : Bool) (a0_3 : Bool) (a1 : Int) (a2 : Int) (r1 : Int) (r2 : Bool) (w : World) (h : impl_OrbitLength.f k a0_0 a0_1 a0_2 a0_3 a1 a2 = some (r1, r2)) :
  Calls Try.prog 47 #[.agg #[.int .i64 a0_0, .int .i64 a0_1, .bool a0_2, .bool a0_3], .int .i64 a1, .int .i64 a2] w fun e w' => e = .returned (.tuple #[.int .i64 r1, .bool r2]) ∧ Below w.heap.size w w' := by
 have hu28 := Try.underlying28
 have HB := zA (Below.refl w.heap.size w)
 have H : ((impl_OrbitOf.f k a0_0 a0_1 a0_2 a0_3 0 a1 a2).bind fun bt305 => (some ((bt305.1.length : Int), bt305.2))) = some (r1, r2) := h
 clear h
 obtain ⟨⟨t305, t308⟩, A4, H⟩ := zM H
 try dsimp only at H
 simp only [Option.some.injEq, Prod.mk.injEq] at H
 obtain ⟨rfl, rfl⟩ := H
 go_enter Try.func47, Try.ntmps47
 go_wp2_with (first | ((with_reducible refine gate_dst (N := 3) rfl ?_); refine box_event zr (N := 3) zr (cs := #[.int .i64 a0_0, .int .i64 a0_1, .bool a0_2, .bool a0_3]) (t := 28) zh ?_; intro gb304 hg w5 hbox hb; have BK304 := zA (hbox); have GW304 := zA (zG hg (below_size (zB0 HB)) : w.heap.size ≤ gb304); have GE304 := zA (zG hg (below_size (zB0 HB)) : w.heap.size ≤ gb304); replace HB := zA (below_step (zB0 HB) hb); clear hb hbox hg; obtain ⟨z6_0, z6_1, z6_2, z6_3, y6_0, y6_1, y6_2, y6_3⟩ := zc4 BK304) | ((with_reducible refine gate_callee (f := 45) rfl ?_); refine goesL_ (some 14) rfl rfl Try.func45 zn rfl #[.agg #[.int .i64 a0_0, .int .i64 a0_1, .bool a0_2, .bool a0_3], .int .i64 0, .int .i64 a1, .int .i64 a2] rfl zm ?_; (with_reducible refine (impl_OrbitOf.calls k a0_0 a0_1 a0_2 a0_3 0 a1 a2 t305 t308 _ A4.out).mono ?_); rintro e w7 ⟨v306, rfl, ho0, hb⟩; refine ⟨_, rfl, ?_⟩; have HO307 := zA (Kd.R_lower ho0 (below_size (zB1 HB GE304))); replace BK304 := zKb BK304 hb; replace HB := zA (below_step (zB1 HB GE304) hb); (try clear hb); (try clear hb2); (try clear hk); (try clear hi); (try clear ho0); obtain ⟨Ao8, co8, eo8⟩ := Kd.R_slice HO307.out; subst eo8))
 go_ret2
 exact ⟨zt, zB1 HB GE304⟩
def spec_OrbitLength.f (k : Nat) (a0_0 : Int) (a0_1 : Int) (a0_2 : Bool) (a0_3 : Bool) (a1 : Int) (a2 : Int) : Option (Int × Bool) := (spec_arJoined.f a0_0 a0_1 a0_2 a0_3 a1 a2).bind fun t310 => (if t310 = true then ((spec_arOrbit.f k a0_0 a0_1 a0_2 a0_3 0 a1 a2).bind fun t311 => (some ((t311.length : Int), true))) else (some (0, false)))
theorem spec_OrbitLength.mono : ∀ a0 a1 a2 a3 a4 a5 k, LeO (spec_OrbitLength.f k a0 a1 a2 a3 a4 a5) (spec_OrbitLength.f (k + 1) a0 a1 a2 a3 a4 a5) := by
 intro a0 a1 a2 a3 a4 a5 k
 unfold spec_OrbitLength.f
 repeat' first
   | (with_reducible exact spec_arOrbit.mono _ _ _ _ _ _ _ _)
   | (with_reducible exact LeO.refl _)
   | (with_reducible exact LeO.none _)
   | (with_reducible refine LeO.ite ?_ ?_)
   | (with_reducible refine LeO.bind ?_ (fun _ => ?_))
   | exact spec_arOrbit.mono _ _ _ _ _ _ _ _
   | exact LeO.none _
   | refine LeO.ite ?_ ?_
   | refine LeO.bind ?_ (fun _ => ?_)
set_option maxHeartbeats 8000000 in
set_option maxRecDepth 100000 in
theorem spec_OrbitLength.calls (k : Nat) (a0_0 : Int) (a0_1 : Int) (a0_2 : Bool) (a0_3 : Bool) (a1 : Int) (a2 : Int) (r1 : Int) (r2 : Bool) (w : World) (h : spec_OrbitLength.f k a0_0 a0_1 a0_2 a0_3 a1 a2 = some (r1, r2)) :
  Calls Try.prog 48 #[.agg #[.int .i64 a0_0, .int .i64 a0_1, .bool a0_2, .bool a0_3], .int .i64 a1, .int .i64 a2] w fun e w' => e = .returned (.tuple #[.int .i64 r1, .bool r2]) ∧ Below w.heap.size w w' := by
 have hu28 := Try.underlying28
 have HB := zA (Below.refl w.heap.size w)
 have H : ((spec_arJoined.f a0_0 a0_1 a0_2 a0_3 a1 a2).bind fun t310 => (if t310 = true then ((spec_arOrbit.f k a0_0 a0_1 a0_2 a0_3 0 a1 a2).bind fun t311 => (some ((t311.length : Int), true))) else (some (0, false)))) = some (r1, r2) := h
 clear h
 obtain ⟨t310, A4, H⟩ := zM H
 try dsimp only at H
 by_cases c5 : t310 = true
 ·subst c5
  have H1 : ((spec_arOrbit.f k a0_0 a0_1 a0_2 a0_3 0 a1 a2).bind fun t311 => (some ((t311.length : Int), true))) = some (r1, r2) := by rw [if_pos rfl] at H; exact H
  clear H
  have H := H1
  clear H1
  obtain ⟨t311, A6, H⟩ := zM H
  try dsimp only at H
  simp only [Option.some.injEq, Prod.mk.injEq] at H
  obtain ⟨rfl, rfl⟩ := H
  go_enter Try.func48, Try.ntmps48
  go_wp2_with (first | ((with_reducible refine gate_dst (N := 3) rfl ?_); refine box_event zr (N := 3) zr (cs := #[.int .i64 a0_0, .int .i64 a0_1, .bool a0_2, .bool a0_3]) (t := 28) zh ?_; intro gb309 hg w7 hbox hb; have BK309 := zA (hbox); have GW309 := zA (zG hg (below_size (zB0 HB)) : w.heap.size ≤ gb309); have GE309 := zA (zG hg (below_size (zB0 HB)) : w.heap.size ≤ gb309); replace HB := zA (below_step (zB0 HB) hb); clear hb hbox hg; obtain ⟨z8_0, z8_1, z8_2, z8_3, y8_0, y8_1, y8_2, y8_3⟩ := zc4 BK309) | ((with_reducible refine gate_callee (f := 95) rfl ?_); refine goesL_ (some 11) rfl rfl Try.func95 zn rfl #[.agg #[.int .i64 a0_0, .int .i64 a0_1, .bool a0_2, .bool a0_3], .int .i64 a1, .int .i64 a2] rfl zm ?_; (with_reducible refine (spec_arJoined.calls a0_0 a0_1 a0_2 a0_3 a1 a2 true _ A4.out).mono ?_); rintro e w9 ⟨rfl, hb⟩; refine ⟨_, rfl, ?_⟩; replace BK309 := zKb BK309 hb; replace HB := zA (below_step (zB1 HB GE309) hb); (try clear hb); (try clear hb2); (try clear hk); (try clear hi); obtain ⟨z10_0, z10_1, z10_2, z10_3, y10_0, y10_1, y10_2, y10_3⟩ := zc4 BK309) | ((with_reducible refine gate_callee (f := 97) rfl ?_); refine goesL_ (some 16) rfl rfl Try.func97 zn rfl #[.agg #[.int .i64 a0_0, .int .i64 a0_1, .bool a0_2, .bool a0_3], .int .i64 0, .int .i64 a1, .int .i64 a2] rfl zm ?_; (with_reducible refine (spec_arOrbit.calls k a0_0 a0_1 a0_2 a0_3 0 a1 a2 t311 _ A6.out).mono ?_); rintro e w11 ⟨v312, rfl, ho0, hb⟩; refine ⟨_, rfl, ?_⟩; have HO313 := zA (Kd.R_lower ho0 (below_size (zB1 HB GE309))); replace BK309 := zKb BK309 hb; replace HB := zA (below_step (zB1 HB GE309) hb); (try clear hb); (try clear hb2); (try clear hk); (try clear hi); (try clear ho0); obtain ⟨Ao12, co12, eo12⟩ := Kd.R_slice HO313.out; subst eo12))
  go_ret2
  exact ⟨zt, zB1 HB GE309⟩
 ·replace c5 := Bool.eq_false_iff.mpr c5
  subst c5
  have H1 : (some (0, false)) = some (r1, r2) := by rw [if_neg (show ¬ (false = true) by decide)] at H; exact H
  clear H
  have H := H1
  clear H1
  simp only [Option.some.injEq, Prod.mk.injEq] at H
  obtain ⟨rfl, rfl⟩ := H
  go_enter Try.func48, Try.ntmps48
  go_wp2_with (first | ((with_reducible refine gate_dst (N := 3) rfl ?_); refine box_event zr (N := 3) zr (cs := #[.int .i64 a0_0, .int .i64 a0_1, .bool a0_2, .bool a0_3]) (t := 28) zh ?_; intro gb309 hg w13 hbox hb; have BK309 := zA (hbox); have GW309 := zA (zG hg (below_size (zB0 HB)) : w.heap.size ≤ gb309); have GE309 := zA (zG hg (below_size (zB0 HB)) : w.heap.size ≤ gb309); replace HB := zA (below_step (zB0 HB) hb); clear hb hbox hg; obtain ⟨z14_0, z14_1, z14_2, z14_3, y14_0, y14_1, y14_2, y14_3⟩ := zc4 BK309) | ((with_reducible refine gate_callee (f := 95) rfl ?_); refine goesL_ (some 11) rfl rfl Try.func95 zn rfl #[.agg #[.int .i64 a0_0, .int .i64 a0_1, .bool a0_2, .bool a0_3], .int .i64 a1, .int .i64 a2] rfl zm ?_; (with_reducible refine (spec_arJoined.calls a0_0 a0_1 a0_2 a0_3 a1 a2 false _ A4.out).mono ?_); rintro e w15 ⟨rfl, hb⟩; refine ⟨_, rfl, ?_⟩; replace BK309 := zKb BK309 hb; replace HB := zA (below_step (zB1 HB GE309) hb); (try clear hb); (try clear hb2); (try clear hk); (try clear hi)))
  go_ret2
  exact ⟨zt, zB1 HB GE309⟩
def impl_CountOrbits.f (k : Nat) (a0_0 : Int) (a0_1 : Int) (a0_2 : Bool) (a0_3 : Bool) (a1 : Int) (a2 : Int) : Option (Int × Bool) := (impl_OrbitOf.f k a0_0 a0_1 a0_2 a0_3 0 a1 a2).bind fun bt315 => (if bt315.2 = true then (if (bt315.1.length : Int) = 0 then (none) else (some (wrap64 (Int.tdiv (wrap64 (a0_0 * a0_1)) (bt315.1.length : Int)), true))) else (some (0, false)))
theorem impl_CountOrbits.mono : ∀ a0 a1 a2 a3 a4 a5 k, LeO (impl_CountOrbits.f k a0 a1 a2 a3 a4 a5) (impl_CountOrbits.f (k + 1) a0 a1 a2 a3 a4 a5) := by
 intro a0 a1 a2 a3 a4 a5 k
 unfold impl_CountOrbits.f
 repeat' first
   | (with_reducible exact impl_OrbitOf.mono _ _ _ _ _ _ _ _)
   | (with_reducible exact LeO.refl _)
   | (with_reducible exact LeO.none _)
   | (with_reducible refine LeO.ite ?_ ?_)
   | (with_reducible refine LeO.bind ?_ (fun _ => ?_))
   | exact impl_OrbitOf.mono _ _ _ _ _ _ _ _
   | exact LeO.none _
   | refine LeO.ite ?_ ?_
   | refine LeO.bind ?_ (fun _ => ?_)
set_option maxHeartbeats 8000000 in
set_option maxRecDepth 100000 in
theorem impl_CountOrbits.calls (k : Nat) (a0_0 : Int) (a0_1 : Int) (a0_2 : Bool) (a0_3 : Bool) (a1 : Int) (a2 : Int) (r1 : Int) (r2 : Bool) (w : World) (h : impl_CountOrbits.f k a0_0 a0_1 a0_2 a0_3 a1 a2 = some (r1, r2)) :
  Calls Try.prog 49 #[.agg #[.int .i64 a0_0, .int .i64 a0_1, .bool a0_2, .bool a0_3], .int .i64 a1, .int .i64 a2] w fun e w' => e = .returned (.tuple #[.int .i64 r1, .bool r2]) ∧ Below w.heap.size w w' := by
 have hu28 := Try.underlying28
 have HB := zA (Below.refl w.heap.size w)
 have H : ((impl_OrbitOf.f k a0_0 a0_1 a0_2 a0_3 0 a1 a2).bind fun bt315 => (if bt315.2 = true then (if (bt315.1.length : Int) = 0 then (none) else (some (wrap64 (Int.tdiv (wrap64 (a0_0 * a0_1)) (bt315.1.length : Int)), true))) else (some (0, false)))) = some (r1, r2) := h
 clear h
 obtain ⟨⟨t315, t318⟩, A4, H⟩ := zM H
 try dsimp only at H
 by_cases c5 : t318 = true
 ·subst c5
  have H1 : (if (t315.length : Int) = 0 then (none) else (some (wrap64 (Int.tdiv (wrap64 (a0_0 * a0_1)) (t315.length : Int)), true))) = some (r1, r2) := by rw [if_pos rfl] at H; exact H
  clear H
  have H := H1
  clear H1
  by_cases c6 : (t315.length : Int) = 0
  ·rw [if_pos c6] at H
   exact absurd H (by simp)
  ·rw [if_neg c6] at H
   have c6b0 : ((t315.length : Int) == 0) = false := beq_eq_false_iff_ne.mpr c6
   have c6b1 : ((t315.length : Int) != 0) = true := bne_iff_ne.mpr c6
   have c6b2 : ¬ (t315 = []) := fun h_ => c6 (by rw [h_]; rfl)
   simp only [Option.some.injEq, Prod.mk.injEq] at H
   obtain ⟨rfl, rfl⟩ := H
   go_enter Try.func49, Try.ntmps49
   go_wp2_with (first | ((with_reducible refine gate_dst (N := 3) rfl ?_); refine box_event zr (N := 3) zr (cs := #[.int .i64 a0_0, .int .i64 a0_1, .bool a0_2, .bool a0_3]) (t := 28) zh ?_; intro gb314 hg w7 hbox hb; have BK314 := zA (hbox); have GW314 := zA (zG hg (below_size (zB0 HB)) : w.heap.size ≤ gb314); have GE314 := zA (zG hg (below_size (zB0 HB)) : w.heap.size ≤ gb314); replace HB := zA (below_step (zB0 HB) hb); clear hb hbox hg; obtain ⟨z8_0, z8_1, z8_2, z8_3, y8_0, y8_1, y8_2, y8_3⟩ := zc4 BK314) | ((with_reducible refine gate_callee (f := 45) rfl ?_); refine goesL_ (some 14) rfl rfl Try.func45 zn rfl #[.agg #[.int .i64 a0_0, .int .i64 a0_1, .bool a0_2, .bool a0_3], .int .i64 0, .int .i64 a1, .int .i64 a2] rfl zm ?_; (with_reducible refine (impl_OrbitOf.calls k a0_0 a0_1 a0_2 a0_3 0 a1 a2 t315 true _ A4.out).mono ?_); rintro e w9 ⟨v316, rfl, ho0, hb⟩; refine ⟨_, rfl, ?_⟩; have HO317 := zA (Kd.R_lower ho0 (below_size (zB1 HB GE314))); replace BK314 := zKb BK314 hb; replace HB := zA (below_step (zB1 HB GE314) hb); (try clear hb); (try clear hb2); (try clear hk); (try clear hi); (try clear ho0); obtain ⟨z10_0, z10_1, z10_2, z10_3, y10_0, y10_1, y10_2, y10_3⟩ := zc4 BK314; obtain ⟨Ao11, co11, eo11⟩ := Kd.R_slice HO317.out; subst eo11))
   go_ret2
   exact ⟨zt, zB1 HB GE314⟩
 ·replace c5 := Bool.eq_false_iff.mpr c5
  subst c5
  have H1 : (some (0, false)) = some (r1, r2) := by rw [if_neg (show ¬ (false = true) by decide)] at H; exact H
  clear H
  have H := H1
  clear H1
  simp only [Option.some.injEq, Prod.mk.injEq] at H
  obtain ⟨rfl, rfl⟩ := H
  go_enter Try.func49, Try.ntmps49
  go_wp2_with (first | ((with_reducible refine gate_dst (N := 3) rfl ?_); refine box_event zr (N := 3) zr (cs := #[.int .i64 a0_0, .int .i64 a0_1, .bool a0_2, .bool a0_3]) (t := 28) zh ?_; intro gb314 hg w12 hbox hb; have BK314 := zA (hbox); have GW314 := zA (zG hg (below_size (zB0 HB)) : w.heap.size ≤ gb314); have GE314 := zA (zG hg (below_size (zB0 HB)) : w.heap.size ≤ gb314); replace HB := zA (below_step (zB0 HB) hb); clear hb hbox hg; obtain ⟨z13_0, z13_1, z13_2, z13_3, y13_0, y13_1, y13_2, y13_3⟩ := zc4 BK314) | ((with_reducible refine gate_callee (f := 45) rfl ?_); refine goesL_ (some 14) rfl rfl Try.func45 zn rfl #[.agg #[.int .i64 a0_0, .int .i64 a0_1, .bool a0_2, .bool a0_3], .int .i64 0, .int .i64 a1, .int .i64 a2] rfl zm ?_; (with_reducible refine (impl_OrbitOf.calls k a0_0 a0_1 a0_2 a0_3 0 a1 a2 t315 false _ A4.out).mono ?_); rintro e w14 ⟨v316, rfl, ho0, hb⟩; refine ⟨_, rfl, ?_⟩; have HO317 := zA (Kd.R_lower ho0 (below_size (zB1 HB GE314))); replace BK314 := zKb BK314 hb; replace HB := zA (below_step (zB1 HB GE314) hb); (try clear hb); (try clear hb2); (try clear hk); (try clear hi); (try clear ho0)))
  go_ret2
  exact ⟨zt, zB1 HB GE314⟩
def spec_CountOrbits.f (k : Nat) (a0_0 : Int) (a0_1 : Int) (a0_2 : Bool) (a0_3 : Bool) (a1 : Int) (a2 : Int) : Option (Int × Bool) := (spec_arJoined.f a0_0 a0_1 a0_2 a0_3 a1 a2).bind fun t320 => (if t320 = true then ((spec_arOrbit.f k a0_0 a0_1 a0_2 a0_3 0 a1 a2).bind fun t321 => (if (t321.length : Int) = 0 then (none) else (some (wrap64 (Int.tdiv (wrap64 (a0_0 * a0_1)) (t321.length : Int)), true)))) else (some (0, false)))
theorem spec_CountOrbits.mono : ∀ a0 a1 a2 a3 a4 a5 k, LeO (spec_CountOrbits.f k a0 a1 a2 a3 a4 a5) (spec_CountOrbits.f (k + 1) a0 a1 a2 a3 a4 a5) := by
 intro a0 a1 a2 a3 a4 a5 k
 unfold spec_CountOrbits.f
 repeat' first
   | (with_reducible exact spec_arOrbit.mono _ _ _ _ _ _ _ _)
   | (with_reducible exact LeO.refl _)
   | (with_reducible exact LeO.none _)
   | (with_reducible refine LeO.ite ?_ ?_)
   | (with_reducible refine LeO.bind ?_ (fun _ => ?_))
   | exact spec_arOrbit.mono _ _ _ _ _ _ _ _
   | exact LeO.none _
   | refine LeO.ite ?_ ?_
   | refine LeO.bind ?_ (fun _ => ?_)
def spec_CountOrbits.T3 : Bool × List (List Nat × List Nat) := (true, [([], []), ([0], [0]), ([], []), ([2], [2]), ([1, 3], [1, 3]), ([], []), ([], []), ([], []), ([5, 6, 7], [5, 6, 7]), ([8], [8]), ([4, 9], [4, 9]), ([10, 8, 0, 1, 2, 3, 4, 5, 6, 7, 8, 9, 10], [10]), ([11, 0, 1, 2, 3, 4, 5, 6, 7, 8, 9, 10, 11], [])])
def spec_CountOrbits.B3 : List Nat := [0, 1, 0, 4, 15, 0, 0, 0, 224, 480, 1023, 2047, 4095]
theorem spec_CountOrbits.tab3 : rtab .any (opsOf Try.f50 3) = spec_CountOrbits.T3 := by kernel_rfl
theorem spec_CountOrbits.bits3 : waitsOk spec_CountOrbits.T3.2 spec_CountOrbits.B3 = true := by kernel_rfl
set_option maxHeartbeats 8000000 in
set_option maxRecDepth 100000 in
theorem spec_CountOrbits.calls (k : Nat) (a0_0 : Int) (a0_1 : Int) (a0_2 : Bool) (a0_3 : Bool) (a1 : Int) (a2 : Int) (r1 : Int) (r2 : Bool) (w : World) (h : spec_CountOrbits.f k a0_0 a0_1 a0_2 a0_3 a1 a2 = some (r1, r2)) :
  Calls Try.prog 50 #[.agg #[.int .i64 a0_0, .int .i64 a0_1, .bool a0_2, .bool a0_3], .int .i64 a1, .int .i64 a2] w fun e w' => e = .returned (.tuple #[.int .i64 r1, .bool r2]) ∧ Below w.heap.size w w' := by
 have hu28 := Try.underlying28
 have HB := zA (Below.refl w.heap.size w)
 have H : ((spec_arJoined.f a0_0 a0_1 a0_2 a0_3 a1 a2).bind fun t320 => (if t320 = true then ((spec_arOrbit.f k a0_0 a0_1 a0_2 a0_3 0 a1 a2).bind fun t321 => (if (t321.length : Int) = 0 then (none) else (some (wrap64 (Int.tdiv (wrap64 (a0_0 * a0_1)) (t321.length : Int)), true)))) else (some (0, false)))) = some (r1, r2) := h
 clear h
 obtain ⟨t320, A4, H⟩ := zM H
 try dsimp only at H
 by_cases c5 : t320 = true
 ·subst c5
  have H1 : ((spec_arOrbit.f k a0_0 a0_1 a0_2 a0_3 0 a1 a2).bind fun t321 => (if (t321.length : Int) = 0 then (none) else (some (wrap64 (Int.tdiv (wrap64 (a0_0 * a0_1)) (t321.length : Int)), true)))) = some (r1, r2) := by rw [if_pos rfl] at H; exact H
  clear H
  have H := H1
  clear H1
  obtain ⟨t321, A6, H⟩ := zM H
  try dsimp only at H
  by_cases c7 : (t321.length : Int) = 0
  ·rw [if_pos c7] at H
   exact absurd H (by simp)
  ·rw [if_neg c7] at H
   have c7b0 : ((t321.length : Int) == 0) = false := beq_eq_false_iff_ne.mpr c7
   have c7b1 : ((t321.length : Int) != 0) = true := bne_iff_ne.mpr c7
   have c7b2 : ¬ (t321 = []) := fun h_ => c7 (by rw [h_]; rfl)
   simp only [Option.some.injEq, Prod.mk.injEq] at H
   obtain ⟨rfl, rfl⟩ := H
   go_enter Try.func50, Try.ntmps50
   try go_wp2_with (first | ((with_reducible refine gate_dst (N := 3) rfl ?_); refine box_event zr (N := 3) zr (cs := #[.int .i64 a0_0, .int .i64 a0_1, .bool a0_2, .bool a0_3]) (t := 28) zh ?_; intro gb319 hg w8 hbox hb; have BK319 := zA (hbox); have GW319 := zA (zG hg (below_size (zB0 HB)) : w.heap.size ≤ gb319); have GE319 := zA (zG hg (below_size (zB0 HB)) : w.heap.size ≤ gb319); replace HB := zA (below_step (zB0 HB) hb); clear hb hbox hg; obtain ⟨z9_0, z9_1, z9_2, z9_3, y9_0, y9_1, y9_2, y9_3⟩ := zc4 BK319) | ((with_reducible refine gate_callee (f := 95) rfl ?_); refine goesL_ (some 11) rfl rfl Try.func95 zn rfl #[.agg #[.int .i64 a0_0, .int .i64 a0_1, .bool a0_2, .bool a0_3], .int .i64 a1, .int .i64 a2] rfl zm ?_; (with_reducible refine (spec_arJoined.calls a0_0 a0_1 a0_2 a0_3 a1 a2 true _ A4.out).mono ?_); rintro e w10 ⟨rfl, hb⟩; refine ⟨_, rfl, ?_⟩; replace BK319 := zKb BK319 hb; replace HB := zA (below_step (zB1 HB GE319) hb); (try clear hb); (try clear hb2); (try clear hk); (try clear hi)))
   replace BK319 := zA (blk_drew BK319.out)
   replace HB := zA (below_drew1 HB.out)
   refine start_ (n := 13) (S := fun w' => w'.cell? ⟨gb319, 0, none⟩ = some (.int .i64 a0_0) ∧ w'.cell? ⟨gb319, 1, none⟩ = some (.int .i64 a0_1) ∧ w'.cell? ⟨gb319, 2, none⟩ = some (.bool a0_2) ∧ w'.cell? ⟨gb319, 3, none⟩ = some (.bool a0_3)) (ds := []) #[false, false, false, false, false, false, false, false, false, false, false, false, false] zn rfl rfl ⟨(blk_cell BK319.out 0).trans rfl, (blk_cell BK319.out 1).trans rfl, (blk_cell BK319.out 2).trans rfl, (blk_cell BK319.out 3).trans rfl⟩ (fun hHeld => ?_); refine with_tabW spec_CountOrbits.tab3 spec_CountOrbits.bits3 (fun HT_ HW_ => ?_)
   generalize w10.drew = w11 at BK319 HB hHeld ⊢
   refine zq HT_ (i := 0) (N := some 13) ?_
   refine zq HT_ (i := 2) (N := some 15) ?_
   refine zq HT_ (i := 6) (N := some 19) ?_
   refine zq HT_ (i := 7) (N := some 20) ?_
   refine zx4 HT_ HW_ hHeld (i := 1) (N := some 14) ?_
   refine zx4 HT_ HW_ hHeld (i := 3) (N := some 16) ?_
   refine zq HT_ (i := 4) (N := some 17) ?_
   refine zx4 HT_ HW_ hHeld (i := 5) (N := some 18) ?_
   refine one_ (i := 8) (N := some 21) #[true, true, true, true, true, true, true, true, true, false, false, false, false] rfl rfl (one_of HT_.out zn) (by decide) (fun K hK => ?_)
   refine goes_ Try.func97 zn rfl #[.agg #[.int .i64 a0_0, .int .i64 a0_1, .bool a0_2, .bool a0_3], .int .i64 0, .int .i64 a1, .int .i64 a2] (by rfl) rfl rfl zm ?_
   with_reducible refine (spec_arOrbit.calls k a0_0 a0_1 a0_2 a0_3 0 a1 a2 t321 _ A6.out).mono ?_
   rintro e w12 ⟨v322, rfl, ho0, hb⟩
   refine ⟨_, rfl, ?_⟩
   have HO323 := zA (Kd.R_lower ho0 (below_size (zB1 HB GE319)))
   replace BK319 := zKb BK319 hb
   replace HB := zA (below_step (zB1 HB GE319) hb)
   (try clear hb); (try clear hb2); (try clear hk); (try clear hi); (try clear ho0)
   obtain ⟨Ao13, co13, eo13⟩ := Kd.R_slice HO323.out
   (first | subst eo13 | (injection eo13 with f1_ f2_ f3_; have f4_ := f1_.symm; have f5_ := f3_.symm; clear f1_ f2_ f3_; subst f4_; subst f5_))
   refine hK.out _ _ ⟨(blk_cell BK319.out 0).trans rfl, (blk_cell BK319.out 1).trans rfl, (blk_cell BK319.out 2).trans rfl, (blk_cell BK319.out 3).trans rfl⟩ (fun hHeld => ?_)
   clear hK K
   refine norm_ (a' := ?_) ?_ ?_
   rotate_left
   ·show Act.put _ (some 21) _ = _
    simp only [Act.put, List.setIfInBounds_toArray, List.set_cons_zero, List.set_cons_succ, i64_w, i32_w]
    rfl
   refine zq HT_ (i := 9) (N := some 22) ?_
   refine zq HT_ (i := 10) (N := some 23) ?_
   refine zq HT_ (i := 11) (N := some 6) ?_
   refine zq HT_ (i := 12) (N := some 7) ?_
   refine done_ (done_of HT_.out zn) ?_
   try go_wp2
   go_ret2
   exact ⟨zt, zB1 HB GE319⟩
 ·replace c5 := Bool.eq_false_iff.mpr c5
  subst c5
  have H1 : (some (0, false)) = some (r1, r2) := by rw [if_neg (show ¬ (false = true) by decide)] at H; exact H
  clear H
  have H := H1
  clear H1
  simp only [Option.some.injEq, Prod.mk.injEq] at H
  obtain ⟨rfl, rfl⟩ := H
  go_enter Try.func50, Try.ntmps50
  go_wp2_with (first | ((with_reducible refine gate_dst (N := 3) rfl ?_); refine box_event zr (N := 3) zr (cs := #[.int .i64 a0_0, .int .i64 a0_1, .bool a0_2, .bool a0_3]) (t := 28) zh ?_; intro gb319 hg w14 hbox hb; have BK319 := zA (hbox); have GW319 := zA (zG hg (below_size (zB0 HB)) : w.heap.size ≤ gb319); have GE319 := zA (zG hg (below_size (zB0 HB)) : w.heap.size ≤ gb319); replace HB := zA (below_step (zB0 HB) hb); clear hb hbox hg; obtain ⟨z15_0, z15_1, z15_2, z15_3, y15_0, y15_1, y15_2, y15_3⟩ := zc4 BK319) | ((with_reducible refine gate_callee (f := 95) rfl ?_); refine goesL_ (some 11) rfl rfl Try.func95 zn rfl #[.agg #[.int .i64 a0_0, .int .i64 a0_1, .bool a0_2, .bool a0_3], .int .i64 a1, .int .i64 a2] rfl zm ?_; (with_reducible refine (spec_arJoined.calls a0_0 a0_1 a0_2 a0_3 a1 a2 false _ A4.out).mono ?_); rintro e w16 ⟨rfl, hb⟩; refine ⟨_, rfl, ?_⟩; replace BK319 := zKb BK319 hb; replace HB := zA (below_step (zB1 HB GE319) hb); (try clear hb); (try clear hb2); (try clear hk); (try clear hi)))
  go_ret2
  exact ⟨zt, zB1 HB GE319⟩
def laws_nSame.l0 : Nat → List Int → List Int → Int → Int → Option (Bool)
 | 0, _, _, _, _ => none
 | k + 1, x0, x1, x12, x13 => if x13 < x12 then (if 0 ≤ x13 then (if x13 < (x0.length : Int) then (if x13 < (x1.length : Int) then (if (rd x0 x13) = (rd x1 x13) then (laws_nSame.l0 k x0 x1 x12 (wrap64 (x13 + 1))) else (some false)) else (none)) else (none)) else (none)) else (some true)
def laws_nSame.f (k : Nat) (l0 : List Int) (l1 : List Int) : Option (Bool) := if (l0.length : Int) = (l1.length : Int) then (laws_nSame.l0 k l0 l1 (l0.length : Int) 0) else (some false)
theorem laws_nSame.mono_l : ∀ k, (∀ y0 y1 y2 y3, LeO (laws_nSame.l0 k y0 y1 y2 y3) (laws_nSame.l0 (k + 1) y0 y1 y2 y3))
 | 0 => fun _ _ _ _ r h => by simp [laws_nSame.l0] at h
 | k + 1 => by
  have ih0 := laws_nSame.mono_l k
  ·intro y0 y1 y2 y3
   unfold laws_nSame.l0
   repeat' first
   | (with_reducible exact ih0 _ _ _ _)
   | (with_reducible exact LeO.refl _)
   | (with_reducible exact LeO.none _)
   | (with_reducible refine LeO.ite ?_ ?_)
   | (with_reducible refine LeO.bind ?_ (fun _ => ?_))
   | exact ih0 _ _ _ _
   | exact LeO.none _
   | refine LeO.ite ?_ ?_
   | refine LeO.bind ?_ (fun _ => ?_)
theorem laws_nSame.mono : ∀ a0 a1 k, LeO (laws_nSame.f k a0 a1) (laws_nSame.f (k + 1) a0 a1) := by
 intro a0 a1 k
 have ih0 := laws_nSame.mono_l k
 unfold laws_nSame.f
 repeat' first
   | (with_reducible exact ih0 _ _ _ _)
   | (with_reducible exact LeO.refl _)
   | (with_reducible exact LeO.none _)
   | (with_reducible refine LeO.ite ?_ ?_)
   | (with_reducible refine LeO.bind ?_ (fun _ => ?_))
   | exact ih0 _ _ _ _
   | exact LeO.none _
   | refine LeO.ite ?_ ?_
   | refine LeO.bind ?_ (fun _ => ?_)
set_option maxHeartbeats 8000000 in
set_option maxRecDepth 100000 in
theorem laws_nSame.calls (k : Nat) (A0 : Option Addr) (c0 : Nat) (l0 : List Int) (A1 : Option Addr) (c1 : Nat) (l1 : List Int) (r : Bool) (w : World) (hr0 : Kd.C (Kd.int .i64) w A0 l0.length l0) (hc0 : l0.length ≤ c0) (hr1 : Kd.C (Kd.int .i64) w A1 l1.length l1) (hc1 : l1.length ≤ c1) (h : laws_nSame.f k l0 l1 = some r) :
  Calls Try.prog 51 #[.slice A0 l0.length c0, .slice A1 l1.length c1] w fun e w' => e = .returned (.bool r) ∧ Drawn0 w w' := by
 have HR0 := zA hr0
 have HC0 := zA hc0
 clear hr0 hc0
 have HR1 := zA hr1
 have HC1 := zA hc1
 clear hr1 hc1
 have H : (if (l0.length : Int) = (l1.length : Int) then (laws_nSame.l0 k l0 l1 (l0.length : Int) 0) else (some false)) = some r := h
 clear h
 by_cases c3 : (l0.length : Int) = (l1.length : Int)
 ·rw [if_pos c3] at H
  have c3b0 : ((l0.length : Int) == (l1.length : Int)) = true := beq_iff_eq.mpr c3
  have c3b1 : ((l0.length : Int) != (l1.length : Int)) = false := bne_eq_false_iff_eq.mpr c3
  have c3b2 : (l0.length == l1.length) = true := by first | simpa using c3 | (simp at c3 ⊢; omega)
  clear c3
  have H' := zA H
  clear H
  go_enter Try.func51, Try.ntmps51
  go_wp2
  repeat (go_quiet (fail); try go_wp2)
  go_loopg [13] k (fun kq v13 w' => ∃ (x13_1 : Int), v13 = .int .i64 x13_1 ∧ Aside0 (laws_nSame.l0 kq l0 l1 (l0.length : Int) x13_1 = some r) ∧ Aside0 (kq ≤ k) ∧ Drawn0 w w')
  case atStart => exact ⟨(0), ze, H', ⟨Nat.le_refl _⟩, by repeat (first | exact Drawn0.refl _ | apply Drawn0.step)⟩
  case round =>
   clear H'
   (try clear c1); (try clear c3); (try clear c3b0); (try clear c3b1); (try clear c3b2)
   obtain ⟨x13_1, rfl, HA, HK1, ⟨m1, rfl⟩⟩ := hrel
   cases gk with
   | zero => exact absurd HA.out (by simp [laws_nSame.l0])
   | succ k1 =>
    have H := HA.out
    clear HA
    simp only [laws_nSame.l0] at H
    by_cases c4 : x13_1 < (l0.length : Int)
    ·rw [if_pos c4] at H
     have c4b0 : decide (x13_1 < (l0.length : Int)) = true := decide_eq_true c4
     clear c4
     by_cases c5 : 0 ≤ x13_1
     ·rw [if_pos c5] at H
      have c5b0 : decide (0 ≤ x13_1) = true := decide_eq_true c5
      clear c5
      by_cases c6 : x13_1 < (l0.length : Int)
      ·rw [if_pos c6] at H
       have c6b0 : decide (x13_1 < (l0.length : Int)) = true := decide_eq_true c6
       clear c6
       by_cases c7 : x13_1 < (l1.length : Int)
       ·rw [if_pos c7] at H
        have c7b0 : decide (x13_1 < (l1.length : Int)) = true := decide_eq_true c7
        clear c7
        by_cases c8 : (rd l0 x13_1) = (rd l1 x13_1)
        ·rw [if_pos c8] at H
         have c8b0 : ((rd l0 x13_1) == (rd l1 x13_1)) = true := beq_iff_eq.mpr c8
         have c8b1 : ((rd l0 x13_1) != (rd l1 x13_1)) = false := bne_eq_false_iff_eq.mpr c8
         clear c8
         have H' := zA H
         clear H
         have p324 : 0 ≤ (x13_1 : Int) := zd
         have q324 : x13_1 < (l0.length : Int) := zd
         obtain ⟨ad324, e324, hx324_0⟩ := Kd.at_int HR0.out x13_1 p324 q324
         cases e324
         replace p324 := eq_true p324
         replace q324 := eq_true q324
         have p325 : 0 ≤ (x13_1 : Int) := zd
         have q325 : x13_1 < (l1.length : Int) := zd
         obtain ⟨ad325, e325, hx325_0⟩ := Kd.at_int HR1.out x13_1 p325 q325
         cases e325
         replace p325 := eq_true p325
         replace q325 := eq_true q325
         go_wp2
         repeat (go_quiet (fail); try go_wp2)
         go_roundg k1
         case measure => have := HK1.out; omega
         case rel => exact ⟨(wrap64 (x13_1 + 1)), ze, H', ⟨by have := HK1.out; omega⟩, by repeat (first | exact Drawn0.refl _ | apply Drawn0.step)⟩
        ·rw [if_neg c8] at H
         have c8b0 : ((rd l0 x13_1) == (rd l1 x13_1)) = false := beq_eq_false_iff_ne.mpr c8
         have c8b1 : ((rd l0 x13_1) != (rd l1 x13_1)) = true := bne_iff_ne.mpr c8
         obtain rfl := Option.some.inj H
         have p324 : 0 ≤ (x13_1 : Int) := zd
         have q324 : x13_1 < (l0.length : Int) := zd
         obtain ⟨ad324, e324, hx324_0⟩ := Kd.at_int HR0.out x13_1 p324 q324
         cases e324
         replace p324 := eq_true p324
         replace q324 := eq_true q324
         have p325 : 0 ≤ (x13_1 : Int) := zd
         have q325 : x13_1 < (l1.length : Int) := zd
         obtain ⟨ad325, e325, hx325_0⟩ := Kd.at_int HR1.out x13_1 p325 q325
         cases e325
         replace p325 := eq_true p325
         replace q325 := eq_true q325
         go_wp2
         repeat (go_quiet (fail); try go_wp2)
         go_ret
         exact ⟨by first | rfl | (simp; done) | (simp [*]; done), by repeat (first | exact Drawn0.refl _ | apply Drawn0.step)⟩
       ·rw [if_neg c7] at H
        exact absurd H (by simp)
      ·rw [if_neg c6] at H
       exact absurd H (by simp)
     ·rw [if_neg c5] at H
      exact absurd H (by simp)
    ·rw [if_neg c4] at H
     have c4b0 : decide (x13_1 < (l0.length : Int)) = false := decide_eq_false c4
     clear c4
     obtain rfl := Option.some.inj H
     go_wp2
     repeat (go_quiet (fail); try go_wp2)
     go_ret
     exact ⟨by first | rfl | (simp; done) | (simp [*]; done), by repeat (first | exact Drawn0.refl _ | apply Drawn0.step)⟩
 ·rw [if_neg c3] at H
  have c3b0 : ((l0.length : Int) == (l1.length : Int)) = false := beq_eq_false_iff_ne.mpr c3
  have c3b1 : ((l0.length : Int) != (l1.length : Int)) = true := bne_iff_ne.mpr c3
  have c3b2 : (l0.length == l1.length) = false := by first | simpa using c3 | (simp at c3 ⊢; omega)
  obtain rfl := Option.some.inj H
  go_enter Try.func51, Try.ntmps51
  go_wp2
  repeat (go_quiet (fail); try go_wp2)
  go_ret
  exact ⟨by first | rfl | (simp; done) | (simp [*]; done), by repeat (first | exact Drawn0.refl _ | apply Drawn0.step)⟩
def impl_StepAround.f (a0_0 : Int) (a0_1 : Int) (a0_2 : Bool) (a0_3 : Bool) (a1 : Int) (a2 : Int) (a3 : Int) : Option (Int × Bool) := (impl_IsAround.f a0_0 a0_1 a0_2 a0_3).bind fun t327 => (if t327 = true then ((impl_Around_has.f a0_0 a0_1 a0_2 a0_3 a1).bind fun t328 => (if t328 = true then ((impl_isStep.f a2 a3).bind fun t329 => (if t329 = true then ((impl_Around_step.f a0_0 a0_1 a0_2 a0_3 a1 a2 a3).bind fun bt330 => (if bt330.2 = true then (some (bt330.1, true)) else (some (0, false)))) else (some (0, false)))) else (some (0, false)))) else (some (0, false)))
set_option maxHeartbeats 8000000 in
set_option maxRecDepth 100000 in
theorem impl_StepAround.calls (a0_0 : Int) (a0_1 : Int) (a0_2 : Bool) (a0_3 : Bool) (a1 : Int) (a2 : Int) (a3 : Int) (r1 : Int) (r2 : Bool) (w : World) (h : impl_StepAround.f a0_0 a0_1 a0_2 a0_3 a1 a2 a3 = some (r1, r2)) :
  Calls Try.prog 52 #[.agg #[.int .i64 a0_0, .int .i64 a0_1, .bool a0_2, .bool a0_3], .int .i64 a1, .int .i64 a2, .int .i64 a3] w fun e w' => e = .returned (.tuple #[.int .i64 r1, .bool r2]) ∧ Below w.heap.size w w' := by
 have hu28 := Try.underlying28
 have HB := zA (Below.refl w.heap.size w)
 have H : ((impl_IsAround.f a0_0 a0_1 a0_2 a0_3).bind fun t327 => (if t327 = true then ((impl_Around_has.f a0_0 a0_1 a0_2 a0_3 a1).bind fun t328 => (if t328 = true then ((impl_isStep.f a2 a3).bind fun t329 => (if t329 = true then ((impl_Around_step.f a0_0 a0_1 a0_2 a0_3 a1 a2 a3).bind fun bt330 => (if bt330.2 = true then (some (bt330.1, true)) else (some (0, false)))) else (some (0, false)))) else (some (0, false)))) else (some (0, false)))) = some (r1, r2) := h
 clear h
 obtain ⟨t327, A5, H⟩ := zM H
 try dsimp only at H
 by_cases c6 : t327 = true
 ·subst c6
  have H1 : ((impl_Around_has.f a0_0 a0_1 a0_2 a0_3 a1).bind fun t328 => (if t328 = true then ((impl_isStep.f a2 a3).bind fun t329 => (if t329 = true then ((impl_Around_step.f a0_0 a0_1 a0_2 a0_3 a1 a2 a3).bind fun bt330 => (if bt330.2 = true then (some (bt330.1, true)) else (some (0, false)))) else (some (0, false)))) else (some (0, false)))) = some (r1, r2) := by rw [if_pos rfl] at H; exact H
  clear H
  have H := H1
  clear H1
  obtain ⟨t328, A7, H⟩ := zM H
  try dsimp only at H
  by_cases c8 : t328 = true
  ·subst c8
   have H1 : ((impl_isStep.f a2 a3).bind fun t329 => (if t329 = true then ((impl_Around_step.f a0_0 a0_1 a0_2 a0_3 a1 a2 a3).bind fun bt330 => (if bt330.2 = true then (some (bt330.1, true)) else (some (0, false)))) else (some (0, false)))) = some (r1, r2) := by rw [if_pos rfl] at H; exact H
   clear H
   have H := H1
   clear H1
   obtain ⟨t329, A9, H⟩ := zM H
   try dsimp only at H
   by_cases c10 : t329 = true
   ·subst c10
    have H1 : ((impl_Around_step.f a0_0 a0_1 a0_2 a0_3 a1 a2 a3).bind fun bt330 => (if bt330.2 = true then (some (bt330.1, true)) else (some (0, false)))) = some (r1, r2) := by rw [if_pos rfl] at H; exact H
    clear H
    have H := H1
    clear H1
    obtain ⟨⟨t330, t331⟩, A11, H⟩ := zM H
    try dsimp only at H
    by_cases c12 : t331 = true
    ·subst c12
     have H1 : (some (t330, true)) = some (r1, r2) := by rw [if_pos rfl] at H; exact H
     clear H
     have H := H1
     clear H1
     simp only [Option.some.injEq, Prod.mk.injEq] at H
     obtain ⟨rfl, rfl⟩ := H
     go_enter Try.func52, Try.ntmps52
     go_wp2_with (first | ((with_reducible refine gate_dst (N := 4) rfl ?_); refine box_event zr (N := 4) zr (cs := #[.int .i64 a0_0, .int .i64 a0_1, .bool a0_2, .bool a0_3]) (t := 28) zh ?_; intro gb326 hg w13 hbox hb; have BK326 := zA (hbox); have GW326 := zA (zG hg (below_size (zB0 HB)) : w.heap.size ≤ gb326); have GE326 := zA (zG hg (below_size (zB0 HB)) : w.heap.size ≤ gb326); replace HB := zA (below_step (zB0 HB) hb); clear hb hbox hg; obtain ⟨z14_0, z14_1, z14_2, z14_3, y14_0, y14_1, y14_2, y14_3⟩ := zc4 BK326) | ((with_reducible refine gate_callee (f := 64) rfl ?_); refine goesL_ (some 13) rfl rfl Try.func64 zn rfl #[.agg #[.int .i64 a0_0, .int .i64 a0_1, .bool a0_2, .bool a0_3]] rfl zm ?_; (with_reducible refine (impl_IsAround.calls a0_0 a0_1 a0_2 a0_3 true _ A5.out).mono ?_); rintro e w15 ⟨rfl, hb⟩; refine ⟨_, rfl, ?_⟩; replace BK326 := zKb BK326 hb; replace HB := zA (below_step (zB1 HB GE326) hb); (try clear hb); (try clear hb2); (try clear hk); (try clear hi); obtain ⟨z16_0, z16_1, z16_2, z16_3, y16_0, y16_1, y16_2, y16_3⟩ := zc4 BK326) | (go_at_call 92; (with_reducible refine (impl_Around_has.calls a0_0 a0_1 a0_2 a0_3 a1 true _ A7.out).mono ?_); rintro e w17 ⟨rfl, hb⟩; replace BK326 := zKb BK326 hb; replace HB := zA (below_step (zB1 HB GE326) hb); (try clear hb); (try clear hb2); (try clear hk); (try clear hi)) | (go_at_call 93; (with_reducible refine (impl_isStep.calls a2 a3 true _ A9.out).mono ?_); rintro e w' ⟨rfl, ⟨nd, rfl⟩⟩; obtain ⟨z18_0, z18_1, z18_2, z18_3, y18_0, y18_1, y18_2, y18_3⟩ := zc4 BK326) | ((with_reducible refine gate_callee (f := 94) rfl ?_); refine goesL_ (some 32) rfl rfl Try.func94 zn rfl #[.agg #[.int .i64 a0_0, .int .i64 a0_1, .bool a0_2, .bool a0_3], .int .i64 a1, .int .i64 a2, .int .i64 a3] rfl zm ?_; (with_reducible refine (impl_Around_step.calls a0_0 a0_1 a0_2 a0_3 a1 a2 a3 t330 true _ A11.out).mono ?_); rintro e w19 ⟨rfl, hb⟩; refine ⟨_, rfl, ?_⟩; replace BK326 := zKb BK326 hb; replace HB := zA (below_step (zB1 HB GE326) hb); (try clear hb); (try clear hb2); (try clear hk); (try clear hi)))
     go_ret2
     exact ⟨zt, zB1 HB GE326⟩
    ·replace c12 := Bool.eq_false_iff.mpr c12
     subst c12
     have H1 : (some (0, false)) = some (r1, r2) := by rw [if_neg (show ¬ (false = true) by decide)] at H; exact H
     clear H
     have H := H1
     clear H1
     simp only [Option.some.injEq, Prod.mk.injEq] at H
     obtain ⟨rfl, rfl⟩ := H
     go_enter Try.func52, Try.ntmps52
     go_wp2_with (first | ((with_reducible refine gate_dst (N := 4) rfl ?_); refine box_event zr (N := 4) zr (cs := #[.int .i64 a0_0, .int .i64 a0_1, .bool a0_2, .bool a0_3]) (t := 28) zh ?_; intro gb326 hg w20 hbox hb; have BK326 := zA (hbox); have GW326 := zA (zG hg (below_size (zB0 HB)) : w.heap.size ≤ gb326); have GE326 := zA (zG hg (below_size (zB0 HB)) : w.heap.size ≤ gb326); replace HB := zA (below_step (zB0 HB) hb); clear hb hbox hg; obtain ⟨z21_0, z21_1, z21_2, z21_3, y21_0, y21_1, y21_2, y21_3⟩ := zc4 BK326) | ((with_reducible refine gate_callee (f := 64) rfl ?_); refine goesL_ (some 13) rfl rfl Try.func64 zn rfl #[.agg #[.int .i64 a0_0, .int .i64 a0_1, .bool a0_2, .bool a0_3]] rfl zm ?_; (with_reducible refine (impl_IsAround.calls a0_0 a0_1 a0_2 a0_3 true _ A5.out).mono ?_); rintro e w22 ⟨rfl, hb⟩; refine ⟨_, rfl, ?_⟩; replace BK326 := zKb BK326 hb; replace HB := zA (below_step (zB1 HB GE326) hb); (try clear hb); (try clear hb2); (try clear hk); (try clear hi); obtain ⟨z23_0, z23_1, z23_2, z23_3, y23_0, y23_1, y23_2, y23_3⟩ := zc4 BK326) | (go_at_call 92; (with_reducible refine (impl_Around_has.calls a0_0 a0_1 a0_2 a0_3 a1 true _ A7.out).mono ?_); rintro e w24 ⟨rfl, hb⟩; replace BK326 := zKb BK326 hb; replace HB := zA (below_step (zB1 HB GE326) hb); (try clear hb); (try clear hb2); (try clear hk); (try clear hi)) | (go_at_call 93; (with_reducible refine (impl_isStep.calls a2 a3 true _ A9.out).mono ?_); rintro e w' ⟨rfl, ⟨nd, rfl⟩⟩; obtain ⟨z25_0, z25_1, z25_2, z25_3, y25_0, y25_1, y25_2, y25_3⟩ := zc4 BK326) | ((with_reducible refine gate_callee (f := 94) rfl ?_); refine goesL_ (some 32) rfl rfl Try.func94 zn rfl #[.agg #[.int .i64 a0_0, .int .i64 a0_1, .bool a0_2, .bool a0_3], .int .i64 a1, .int .i64 a2, .int .i64 a3] rfl zm ?_; (with_reducible refine (impl_Around_step.calls a0_0 a0_1 a0_2 a0_3 a1 a2 a3 t330 false _ A11.out).mono ?_); rintro e w26 ⟨rfl, hb⟩; refine ⟨_, rfl, ?_⟩; replace BK326 := zKb BK326 hb; replace HB := zA (below_step (zB1 HB GE326) hb); (try clear hb); (try clear hb2); (try clear hk); (try clear hi)))
     go_ret2
     exact ⟨zt, zB1 HB GE326⟩
   ·replace c10 := Bool.eq_false_iff.mpr c10
    subst c10
    have H1 : (some (0, false)) = some (r1, r2) := by rw [if_neg (show ¬ (false = true) by decide)] at H; exact H
    clear H
    have H := H1
    clear H1
    simp only [Option.some.injEq, Prod.mk.injEq] at H
    obtain ⟨rfl, rfl⟩ := H
    go_enter Try.func52, Try.ntmps52
    go_wp2_with (first | ((with_reducible refine gate_dst (N := 4) rfl ?_); refine box_event zr (N := 4) zr (cs := #[.int .i64 a0_0, .int .i64 a0_1, .bool a0_2, .bool a0_3]) (t := 28) zh ?_; intro gb326 hg w27 hbox hb; have BK326 := zA (hbox); have GW326 := zA (zG hg (below_size (zB0 HB)) : w.heap.size ≤ gb326); have GE326 := zA (zG hg (below_size (zB0 HB)) : w.heap.size ≤ gb326); replace HB := zA (below_step (zB0 HB) hb); clear hb hbox hg; obtain ⟨z28_0, z28_1, z28_2, z28_3, y28_0, y28_1, y28_2, y28_3⟩ := zc4 BK326) | ((with_reducible refine gate_callee (f := 64) rfl ?_); refine goesL_ (some 13) rfl rfl Try.func64 zn rfl #[.agg #[.int .i64 a0_0, .int .i64 a0_1, .bool a0_2, .bool a0_3]] rfl zm ?_; (with_reducible refine (impl_IsAround.calls a0_0 a0_1 a0_2 a0_3 true _ A5.out).mono ?_); rintro e w29 ⟨rfl, hb⟩; refine ⟨_, rfl, ?_⟩; replace BK326 := zKb BK326 hb; replace HB := zA (below_step (zB1 HB GE326) hb); (try clear hb); (try clear hb2); (try clear hk); (try clear hi); obtain ⟨z30_0, z30_1, z30_2, z30_3, y30_0, y30_1, y30_2, y30_3⟩ := zc4 BK326) | (go_at_call 92; (with_reducible refine (impl_Around_has.calls a0_0 a0_1 a0_2 a0_3 a1 true _ A7.out).mono ?_); rintro e w31 ⟨rfl, hb⟩; replace BK326 := zKb BK326 hb; replace HB := zA (below_step (zB1 HB GE326) hb); (try clear hb); (try clear hb2); (try clear hk); (try clear hi)) | (go_at_call 93; (with_reducible refine (impl_isStep.calls a2 a3 false _ A9.out).mono ?_); rintro e w' ⟨rfl, ⟨nd, rfl⟩⟩))
    go_ret2
    exact ⟨zt, zB1 HB GE326⟩
  ·replace c8 := Bool.eq_false_iff.mpr c8
   subst c8
   have H1 : (some (0, false)) = some (r1, r2) := by rw [if_neg (show ¬ (false = true) by decide)] at H; exact H
   clear H
   have H := H1
   clear H1
   simp only [Option.some.injEq, Prod.mk.injEq] at H
   obtain ⟨rfl, rfl⟩ := H
   go_enter Try.func52, Try.ntmps52
   go_wp2_with (first | ((with_reducible refine gate_dst (N := 4) rfl ?_); refine box_event zr (N := 4) zr (cs := #[.int .i64 a0_0, .int .i64 a0_1, .bool a0_2, .bool a0_3]) (t := 28) zh ?_; intro gb326 hg w32 hbox hb; have BK326 := zA (hbox); have GW326 := zA (zG hg (below_size (zB0 HB)) : w.heap.size ≤ gb326); have GE326 := zA (zG hg (below_size (zB0 HB)) : w.heap.size ≤ gb326); replace HB := zA (below_step (zB0 HB) hb); clear hb hbox hg; obtain ⟨z33_0, z33_1, z33_2, z33_3, y33_0, y33_1, y33_2, y33_3⟩ := zc4 BK326) | ((with_reducible refine gate_callee (f := 64) rfl ?_); refine goesL_ (some 13) rfl rfl Try.func64 zn rfl #[.agg #[.int .i64 a0_0, .int .i64 a0_1, .bool a0_2, .bool a0_3]] rfl zm ?_; (with_reducible refine (impl_IsAround.calls a0_0 a0_1 a0_2 a0_3 true _ A5.out).mono ?_); rintro e w34 ⟨rfl, hb⟩; refine ⟨_, rfl, ?_⟩; replace BK326 := zKb BK326 hb; replace HB := zA (below_step (zB1 HB GE326) hb); (try clear hb); (try clear hb2); (try clear hk); (try clear hi); obtain ⟨z35_0, z35_1, z35_2, z35_3, y35_0, y35_1, y35_2, y35_3⟩ := zc4 BK326) | (go_at_call 92; (with_reducible refine (impl_Around_has.calls a0_0 a0_1 a0_2 a0_3 a1 false _ A7.out).mono ?_); rintro e w36 ⟨rfl, hb⟩; replace BK326 := zKb BK326 hb; replace HB := zA (below_step (zB1 HB GE326) hb); (try clear hb); (try clear hb2); (try clear hk); (try clear hi)))
   go_ret2
   exact ⟨zt, zB1 HB GE326⟩
 ·replace c6 := Bool.eq_false_iff.mpr c6
  subst c6
  have H1 : (some (0, false)) = some (r1, r2) := by rw [if_neg (show ¬ (false = true) by decide)] at H; exact H
  clear H
  have H := H1
  clear H1
  simp only [Option.some.injEq, Prod.mk.injEq] at H
  obtain ⟨rfl, rfl⟩ := H
  go_enter Try.func52, Try.ntmps52
  go_wp2_with (first | ((with_reducible refine gate_dst (N := 4) rfl ?_); refine box_event zr (N := 4) zr (cs := #[.int .i64 a0_0, .int .i64 a0_1, .bool a0_2, .bool a0_3]) (t := 28) zh ?_; intro gb326 hg w37 hbox hb; have BK326 := zA (hbox); have GW326 := zA (zG hg (below_size (zB0 HB)) : w.heap.size ≤ gb326); have GE326 := zA (zG hg (below_size (zB0 HB)) : w.heap.size ≤ gb326); replace HB := zA (below_step (zB0 HB) hb); clear hb hbox hg; obtain ⟨z38_0, z38_1, z38_2, z38_3, y38_0, y38_1, y38_2, y38_3⟩ := zc4 BK326) | ((with_reducible refine gate_callee (f := 64) rfl ?_); refine goesL_ (some 13) rfl rfl Try.func64 zn rfl #[.agg #[.int .i64 a0_0, .int .i64 a0_1, .bool a0_2, .bool a0_3]] rfl zm ?_; (with_reducible refine (impl_IsAround.calls a0_0 a0_1 a0_2 a0_3 false _ A5.out).mono ?_); rintro e w39 ⟨rfl, hb⟩; refine ⟨_, rfl, ?_⟩; replace BK326 := zKb BK326 hb; replace HB := zA (below_step (zB1 HB GE326) hb); (try clear hb); (try clear hb2); (try clear hk); (try clear hi)))
  go_ret2
  exact ⟨zt, zB1 HB GE326⟩
def laws_nHas.l0 : Nat → Int → List Int → Int → Int → Option (Bool)
 | 0, _, _, _, _ => none
 | k + 1, x1, x7, x8, x9 => if x9 < x8 then (if 0 ≤ x9 then (if x9 < (x7.length : Int) then (if (rd x7 x9) = x1 then (some true) else (laws_nHas.l0 k x1 x7 x8 (wrap64 (x9 + 1)))) else (none)) else (none)) else (some false)
def laws_nHas.f (k : Nat) (l0 : List Int) (a1 : Int) : Option (Bool) := laws_nHas.l0 k a1 l0 (l0.length : Int) 0
theorem laws_nHas.mono_l : ∀ k, (∀ y0 y1 y2 y3, LeO (laws_nHas.l0 k y0 y1 y2 y3) (laws_nHas.l0 (k + 1) y0 y1 y2 y3))
 | 0 => fun _ _ _ _ r h => by simp [laws_nHas.l0] at h
 | k + 1 => by
  have ih0 := laws_nHas.mono_l k
  ·intro y0 y1 y2 y3
   unfold laws_nHas.l0
   repeat' first
   | (with_reducible exact ih0 _ _ _ _)
   | (with_reducible exact LeO.refl _)
   | (with_reducible exact LeO.none _)
   | (with_reducible refine LeO.ite ?_ ?_)
   | (with_reducible refine LeO.bind ?_ (fun _ => ?_))
   | exact ih0 _ _ _ _
   | exact LeO.none _
   | refine LeO.ite ?_ ?_
   | refine LeO.bind ?_ (fun _ => ?_)
theorem laws_nHas.mono : ∀ a0 a1 k, LeO (laws_nHas.f k a0 a1) (laws_nHas.f (k + 1) a0 a1) := by
 intro a0 a1 k
 have ih0 := laws_nHas.mono_l k
 unfold laws_nHas.f
 repeat' first
   | (with_reducible exact ih0 _ _ _ _)
   | (with_reducible exact LeO.refl _)
   | (with_reducible exact LeO.none _)
   | (with_reducible refine LeO.ite ?_ ?_)
   | (with_reducible refine LeO.bind ?_ (fun _ => ?_))
   | exact ih0 _ _ _ _
   | exact LeO.none _
   | refine LeO.ite ?_ ?_
   | refine LeO.bind ?_ (fun _ => ?_)
set_option maxHeartbeats 8000000 in
set_option maxRecDepth 100000 in
theorem laws_nHas.calls (k : Nat) (A0 : Option Addr) (c0 : Nat) (l0 : List Int) (a1 : Int) (r : Bool) (w : World) (hr0 : Kd.C (Kd.int .i64) w A0 l0.length l0) (hc0 : l0.length ≤ c0) (h : laws_nHas.f k l0 a1 = some r) :
  Calls Try.prog 53 #[.slice A0 l0.length c0, .int .i64 a1] w fun e w' => e = .returned (.bool r) ∧ Drawn0 w w' := by
 have HR0 := zA hr0
 have HC0 := zA hc0
 clear hr0 hc0
 have H : (laws_nHas.l0 k a1 l0 (l0.length : Int) 0) = some r := h
 clear h
 have H' := zA H
 clear H
 go_enter Try.func53, Try.ntmps53
 go_wp2
 go_loopg [9] k (fun kq v9 w' => ∃ (x9_1 : Int), v9 = .int .i64 x9_1 ∧ Aside0 (laws_nHas.l0 kq a1 l0 (l0.length : Int) x9_1 = some r) ∧ Aside0 (kq ≤ k) ∧ Drawn0 w w')
 case atStart => exact ⟨(0), ze, H', ⟨Nat.le_refl _⟩, by repeat (first | exact Drawn0.refl _ | apply Drawn0.step)⟩
 case round =>
  clear H'
  obtain ⟨x9_1, rfl, HA, HK1, ⟨m1, rfl⟩⟩ := hrel
  cases gk with
  | zero => exact absurd HA.out (by simp [laws_nHas.l0])
  | succ k1 =>
   have H := HA.out
   clear HA
   simp only [laws_nHas.l0] at H
   by_cases c3 : x9_1 < (l0.length : Int)
   ·rw [if_pos c3] at H
    have c3b0 : decide (x9_1 < (l0.length : Int)) = true := decide_eq_true c3
    clear c3
    by_cases c4 : 0 ≤ x9_1
    ·rw [if_pos c4] at H
     have c4b0 : decide (0 ≤ x9_1) = true := decide_eq_true c4
     clear c4
     by_cases c5 : x9_1 < (l0.length : Int)
     ·rw [if_pos c5] at H
      have c5b0 : decide (x9_1 < (l0.length : Int)) = true := decide_eq_true c5
      clear c5
      by_cases c6 : (rd l0 x9_1) = a1
      ·rw [if_pos c6] at H
       have c6b0 : ((rd l0 x9_1) == a1) = true := beq_iff_eq.mpr c6
       have c6b1 : ((rd l0 x9_1) != a1) = false := bne_eq_false_iff_eq.mpr c6
       clear c6
       obtain rfl := Option.some.inj H
       have p332 : 0 ≤ (x9_1 : Int) := zd
       have q332 : x9_1 < (l0.length : Int) := zd
       obtain ⟨ad332, e332, hx332_0⟩ := Kd.at_int HR0.out x9_1 p332 q332
       cases e332
       replace p332 := eq_true p332
       replace q332 := eq_true q332
       go_wp2
       go_ret
       exact ⟨by first | rfl | (simp; done) | (simp [*]; done), by repeat (first | exact Drawn0.refl _ | apply Drawn0.step)⟩
      ·rw [if_neg c6] at H
       have c6b0 : ((rd l0 x9_1) == a1) = false := beq_eq_false_iff_ne.mpr c6
       have c6b1 : ((rd l0 x9_1) != a1) = true := bne_iff_ne.mpr c6
       have H' := zA H
       clear H
       have p332 : 0 ≤ (x9_1 : Int) := zd
       have q332 : x9_1 < (l0.length : Int) := zd
       obtain ⟨ad332, e332, hx332_0⟩ := Kd.at_int HR0.out x9_1 p332 q332
       cases e332
       replace p332 := eq_true p332
       replace q332 := eq_true q332
       go_wp2
       go_roundg k1
       case measure => have := HK1.out; omega
       case rel => exact ⟨(wrap64 (x9_1 + 1)), ze, H', ⟨by have := HK1.out; omega⟩, by repeat (first | exact Drawn0.refl _ | apply Drawn0.step)⟩
     ·rw [if_neg c5] at H
      exact absurd H (by simp)
    ·rw [if_neg c4] at H
     exact absurd H (by simp)
   ·rw [if_neg c3] at H
    have c3b0 : decide (x9_1 < (l0.length : Int)) = false := decide_eq_false c3
    clear c3
    obtain rfl := Option.some.inj H
    go_wp2
    go_ret
    exact ⟨by first | rfl | (simp; done) | (simp [*]; done), by repeat (first | exact Drawn0.refl _ | apply Drawn0.step)⟩
def impl_VisitsAll.f (k : Nat) (a0_0 : Int) (a0_1 : Int) (a0_2 : Bool) (a0_3 : Bool) (a1_0 : Int) (a1_1 : Int) (a2 : Int) (a3 : Int) (a4 : Int) : Option (Bool × Bool) := (impl_TwoSteps.f k a0_0 a0_1 a0_2 a0_3 a1_0 a1_1 a2 a3 a4).bind fun bt335 => (if bt335.2 = true then (some (((bt335.1.length : Int) == (wrap64 (a0_0 * a0_1))), true)) else (some (false, false)))
theorem impl_VisitsAll.mono : ∀ a0 a1 a2 a3 a4 a5 a6 a7 a8 k, LeO (impl_VisitsAll.f k a0 a1 a2 a3 a4 a5 a6 a7 a8) (impl_VisitsAll.f (k + 1) a0 a1 a2 a3 a4 a5 a6 a7 a8) := by
 intro a0 a1 a2 a3 a4 a5 a6 a7 a8 k
 unfold impl_VisitsAll.f
 repeat' first
   | (with_reducible exact impl_TwoSteps.mono _ _ _ _ _ _ _ _ _ _)
   | (with_reducible exact LeO.refl _)
   | (with_reducible exact LeO.none _)
   | (with_reducible refine LeO.ite ?_ ?_)
   | (with_reducible refine LeO.bind ?_ (fun _ => ?_))
   | exact impl_TwoSteps.mono _ _ _ _ _ _ _ _ _ _
   | exact LeO.none _
   | refine LeO.ite ?_ ?_
   | refine LeO.bind ?_ (fun _ => ?_)
set_option maxHeartbeats 8000000 in
set_option maxRecDepth 100000 in
theorem impl_VisitsAll.calls (k : Nat) (a0_0 : Int) (a0_1 : Int) (a0_2 : Bool) (a0_3 : Bool) (a1_0 : Int) (a1_1 : Int) (a2 : Int) (a3 : Int) (a4 : Int) (r1 : Bool) (r2 : Bool) (w : World) (h : impl_VisitsAll.f k a0_0 a0_1 a0_2 a0_3 a1_0 a1_1 a2 a3 a4 = some (r1, r2)) :
  Calls Try.prog 54 #[.agg #[.int .i64 a0_0, .int .i64 a0_1, .bool a0_2, .bool a0_3], .agg #[.int .i64 a1_0, .int .i64 a1_1], .int .i64 a2, .int .i64 a3, .int .i64 a4] w fun e w' => e = .returned (.tuple #[.bool r1, .bool r2]) ∧ Below w.heap.size w w' := by
 have hu28 := Try.underlying28
 have hu30 := Try.underlying30
 have HB := zA (Below.refl w.heap.size w)
 have H : ((impl_TwoSteps.f k a0_0 a0_1 a0_2 a0_3 a1_0 a1_1 a2 a3 a4).bind fun bt335 => (if bt335.2 = true then (some (((bt335.1.length : Int) == (wrap64 (a0_0 * a0_1))), true)) else (some (false, false)))) = some (r1, r2) := h
 clear h
 obtain ⟨⟨t335, t338⟩, A6, H⟩ := zM H
 try dsimp only at H
 by_cases c7 : t338 = true
 ·subst c7
  have H1 : (some (((t335.length : Int) == (wrap64 (a0_0 * a0_1))), true)) = some (r1, r2) := by rw [if_pos rfl] at H; exact H
  clear H
  have H := H1
  clear H1
  simp only [Option.some.injEq, Prod.mk.injEq] at H
  obtain ⟨rfl, rfl⟩ := H
  go_enter Try.func54, Try.ntmps54
  go_wp2_with (first | ((with_reducible refine gate_dst (N := 5) rfl ?_); refine box_event zr (N := 5) zr (cs := #[.int .i64 a0_0, .int .i64 a0_1, .bool a0_2, .bool a0_3]) (t := 28) zh ?_; intro gb333 hg w8 hbox hb; have BK333 := zA (hbox); have GW333 := zA (zG hg (below_size (zB0 HB)) : w.heap.size ≤ gb333); have GE333 := zA (zG hg (below_size (zB0 HB)) : w.heap.size ≤ gb333); replace HB := zA (below_step (zB0 HB) hb); clear hb hbox hg) | ((with_reducible refine gate_dst (N := 6) rfl ?_); refine box_event zr (N := 6) zr (cs := #[.int .i64 a1_0, .int .i64 a1_1]) (t := 30) zh ?_; intro gb334 hg w9 hbox hb; have BK334 := zA (hbox); have GW334 := zA (zG hg (below_size (zB1 HB GE333)) : w.heap.size ≤ gb334); have GE334 := zA (zG hg (below_size (zB1 HB GE333)) : w.heap.size ≤ gb334); replace HB := zA (below_step (zB1 HB GE333) hb); have NB333_334 := zA (zNl hg BK333 : gb333 ≠ gb334); have NB334_333 := zA (zNg hg BK333 : gb334 ≠ gb333); replace BK333 := zKb BK333 hb; clear hb hbox hg; have hnb10 := NB333_334.out; have hnc10 := NB334_333.out; obtain ⟨z11_0, z11_1, z11_2, z11_3, y11_0, y11_1, y11_2, y11_3⟩ := zc4 BK333; obtain ⟨z12_0, z12_1, y12_0, y12_1⟩ := zc2 BK334) | ((with_reducible refine gate_callee (f := 35) rfl ?_); refine goesL_ (some 20) rfl rfl Try.func35 zn rfl #[.agg #[.int .i64 a0_0, .int .i64 a0_1, .bool a0_2, .bool a0_3], .agg #[.int .i64 a1_0, .int .i64 a1_1], .int .i64 a2, .int .i64 a3, .int .i64 a4] rfl zm ?_; (with_reducible refine (impl_TwoSteps.calls k a0_0 a0_1 a0_2 a0_3 a1_0 a1_1 a2 a3 a4 t335 true _ A6.out).mono ?_); rintro e w13 ⟨v336, rfl, ho0, hb⟩; refine ⟨_, rfl, ?_⟩; have HO337 := zA (Kd.R_lower ho0 (below_size (zB2 HB GE333 GE334))); replace BK333 := zKb BK333 hb; replace BK334 := zKb BK334 hb; replace HB := zA (below_step (zB2 HB GE333 GE334) hb); (try clear hb); (try clear hb2); (try clear hk); (try clear hi); (try clear ho0); obtain ⟨Ao14, co14, eo14⟩ := Kd.R_slice HO337.out; subst eo14; obtain ⟨z15_0, z15_1, z15_2, z15_3, y15_0, y15_1, y15_2, y15_3⟩ := zc4 BK333))
  go_ret2
  exact ⟨zt, zB2 HB GE333 GE334⟩
 ·replace c7 := Bool.eq_false_iff.mpr c7
  subst c7
  have H1 : (some (false, false)) = some (r1, r2) := by rw [if_neg (show ¬ (false = true) by decide)] at H; exact H
  clear H
  have H := H1
  clear H1
  simp only [Option.some.injEq, Prod.mk.injEq] at H
  obtain ⟨rfl, rfl⟩ := H
  go_enter Try.func54, Try.ntmps54
  go_wp2_with (first | ((with_reducible refine gate_dst (N := 5) rfl ?_); refine box_event zr (N := 5) zr (cs := #[.int .i64 a0_0, .int .i64 a0_1, .bool a0_2, .bool a0_3]) (t := 28) zh ?_; intro gb333 hg w16 hbox hb; have BK333 := zA (hbox); have GW333 := zA (zG hg (below_size (zB0 HB)) : w.heap.size ≤ gb333); have GE333 := zA (zG hg (below_size (zB0 HB)) : w.heap.size ≤ gb333); replace HB := zA (below_step (zB0 HB) hb); clear hb hbox hg) | ((with_reducible refine gate_dst (N := 6) rfl ?_); refine box_event zr (N := 6) zr (cs := #[.int .i64 a1_0, .int .i64 a1_1]) (t := 30) zh ?_; intro gb334 hg w17 hbox hb; have BK334 := zA (hbox); have GW334 := zA (zG hg (below_size (zB1 HB GE333)) : w.heap.size ≤ gb334); have GE334 := zA (zG hg (below_size (zB1 HB GE333)) : w.heap.size ≤ gb334); replace HB := zA (below_step (zB1 HB GE333) hb); have NB333_334 := zA (zNl hg BK333 : gb333 ≠ gb334); have NB334_333 := zA (zNg hg BK333 : gb334 ≠ gb333); replace BK333 := zKb BK333 hb; clear hb hbox hg; have hnb18 := NB333_334.out; have hnc18 := NB334_333.out; obtain ⟨z19_0, z19_1, z19_2, z19_3, y19_0, y19_1, y19_2, y19_3⟩ := zc4 BK333; obtain ⟨z20_0, z20_1, y20_0, y20_1⟩ := zc2 BK334) | ((with_reducible refine gate_callee (f := 35) rfl ?_); refine goesL_ (some 20) rfl rfl Try.func35 zn rfl #[.agg #[.int .i64 a0_0, .int .i64 a0_1, .bool a0_2, .bool a0_3], .agg #[.int .i64 a1_0, .int .i64 a1_1], .int .i64 a2, .int .i64 a3, .int .i64 a4] rfl zm ?_; (with_reducible refine (impl_TwoSteps.calls k a0_0 a0_1 a0_2 a0_3 a1_0 a1_1 a2 a3 a4 t335 false _ A6.out).mono ?_); rintro e w21 ⟨v336, rfl, ho0, hb⟩; refine ⟨_, rfl, ?_⟩; have HO337 := zA (Kd.R_lower ho0 (below_size (zB2 HB GE333 GE334))); replace BK333 := zKb BK333 hb; replace BK334 := zKb BK334 hb; replace HB := zA (below_step (zB2 HB GE333 GE334) hb); (try clear hb); (try clear hb2); (try clear hk); (try clear hi); (try clear ho0)))
  go_ret2
  exact ⟨zt, zB2 HB GE333 GE334⟩
def spec_VisitsAll.f (k : Nat) (a0_0 : Int) (a0_1 : Int) (a0_2 : Bool) (a0_3 : Bool) (a1_0 : Int) (a1_1 : Int) (a2 : Int) (a3 : Int) (a4 : Int) : Option (Bool × Bool) := (spec_arAsked.f k a0_0 a0_1 a0_2 a0_3 a1_0 a1_1 a2 a3 a4).bind fun t341 => (if t341 = true then ((spec_arTurns.f k a0_0 a0_1 a0_2 a0_3 a1_0 a1_1 a2 a3 a4).bind fun t342 => (some (((t342.length : Int) == (wrap64 (a0_0 * a0_1))), true))) else (some (false, false)))
theorem spec_VisitsAll.mono : ∀ a0 a1 a2 a3 a4 a5 a6 a7 a8 k, LeO (spec_VisitsAll.f k a0 a1 a2 a3 a4 a5 a6 a7 a8) (spec_VisitsAll.f (k + 1) a0 a1 a2 a3 a4 a5 a6 a7 a8) := by
 intro a0 a1 a2 a3 a4 a5 a6 a7 a8 k
 unfold spec_VisitsAll.f
 repeat' first
   | (with_reducible exact spec_arAsked.mono _ _ _ _ _ _ _ _ _ _)
   | (with_reducible exact spec_arTurns.mono _ _ _ _ _ _ _ _ _ _)
   | (with_reducible exact LeO.refl _)
   | (with_reducible exact LeO.none _)
   | (with_reducible refine LeO.ite ?_ ?_)
   | (with_reducible refine LeO.bind ?_ (fun _ => ?_))
   | exact spec_arAsked.mono _ _ _ _ _ _ _ _ _ _
   | exact spec_arTurns.mono _ _ _ _ _ _ _ _ _ _
   | exact LeO.none _
   | refine LeO.ite ?_ ?_
   | refine LeO.bind ?_ (fun _ => ?_)
def spec_VisitsAll.T3 : Bool × List (List Nat × List Nat) := (true, [([], []), ([], []), ([], []), ([], []), ([], []), ([0, 1, 2, 3, 4], [0, 1, 2, 3, 4]), ([5], [5]), ([], []), ([7], [7]), ([], []), ([9], [9]), ([8, 10], [8, 10]), ([6, 11], [6, 11]), ([12, 5, 0, 1, 2, 3, 4, 5, 6, 7, 8, 9, 10, 11, 12], [12]), ([13, 0, 1, 2, 3, 4, 5, 6, 7, 8, 9, 10, 11, 12, 13], [])])
def spec_VisitsAll.B3 : List Nat := [0, 0, 0, 0, 0, 31, 63, 0, 128, 0, 512, 1920, 4095, 8191, 16383]
theorem spec_VisitsAll.tab3 : rtab .any (opsOf Try.f55 3) = spec_VisitsAll.T3 := by kernel_rfl
theorem spec_VisitsAll.bits3 : waitsOk spec_VisitsAll.T3.2 spec_VisitsAll.B3 = true := by kernel_rfl
set_option maxHeartbeats 8000000 in
set_option maxRecDepth 100000 in
theorem spec_VisitsAll.calls (k : Nat) (a0_0 : Int) (a0_1 : Int) (a0_2 : Bool) (a0_3 : Bool) (a1_0 : Int) (a1_1 : Int) (a2 : Int) (a3 : Int) (a4 : Int) (r1 : Bool) (r2 : Bool) (w : World) (h : spec_VisitsAll.f k a0_0 a0_1 a0_2 a0_3 a1_0 a1_1 a2 a3 a4 = some (r1, r2)) :
  Calls Try.prog 55 #[.agg #[.int .i64 a0_0, .int .i64 a0_1, .bool a0_2, .bool a0_3], .agg #[.int .i64 a1_0, .int .i64 a1_1], .int .i64 a2, .int .i64 a3, .int .i64 a4] w fun e w' => e = .returned (.tuple #[.bool r1, .bool r2]) ∧ Below w.heap.size w w' := by
 have hu28 := Try.underlying28
 have hu30 := Try.underlying30
 have HB := zA (Below.refl w.heap.size w)
 have H : ((spec_arAsked.f k a0_0 a0_1 a0_2 a0_3 a1_0 a1_1 a2 a3 a4).bind fun t341 => (if t341 = true then ((spec_arTurns.f k a0_0 a0_1 a0_2 a0_3 a1_0 a1_1 a2 a3 a4).bind fun t342 => (some (((t342.length : Int) == (wrap64 (a0_0 * a0_1))), true))) else (some (false, false)))) = some (r1, r2) := h
 clear h
 obtain ⟨t341, A6, H⟩ := zM H
 try dsimp only at H
 by_cases c7 : t341 = true
 ·subst c7
  have H1 : ((spec_arTurns.f k a0_0 a0_1 a0_2 a0_3 a1_0 a1_1 a2 a3 a4).bind fun t342 => (some (((t342.length : Int) == (wrap64 (a0_0 * a0_1))), true))) = some (r1, r2) := by rw [if_pos rfl] at H; exact H
  clear H
  have H := H1
  clear H1
  obtain ⟨t342, A8, H⟩ := zM H
  try dsimp only at H
  simp only [Option.some.injEq, Prod.mk.injEq] at H
  obtain ⟨rfl, rfl⟩ := H
  go_enter Try.func55, Try.ntmps55
  try go_wp2_with (first | ((with_reducible refine gate_dst (N := 5) rfl ?_); refine box_event zr (N := 5) zr (cs := #[.int .i64 a0_0, .int .i64 a0_1, .bool a0_2, .bool a0_3]) (t := 28) zh ?_; intro gb339 hg w9 hbox hb; have BK339 := zA (hbox); have GW339 := zA (zG hg (below_size (zB0 HB)) : w.heap.size ≤ gb339); have GE339 := zA (zG hg (below_size (zB0 HB)) : w.heap.size ≤ gb339); replace HB := zA (below_step (zB0 HB) hb); clear hb hbox hg) | ((with_reducible refine gate_dst (N := 6) rfl ?_); refine box_event zr (N := 6) zr (cs := #[.int .i64 a1_0, .int .i64 a1_1]) (t := 30) zh ?_; intro gb340 hg w10 hbox hb; have BK340 := zA (hbox); have GW340 := zA (zG hg (below_size (zB1 HB GE339)) : w.heap.size ≤ gb340); have GE340 := zA (zG hg (below_size (zB1 HB GE339)) : w.heap.size ≤ gb340); replace HB := zA (below_step (zB1 HB GE339) hb); have NB339_340 := zA (zNl hg BK339 : gb339 ≠ gb340); have NB340_339 := zA (zNg hg BK339 : gb340 ≠ gb339); replace BK339 := zKb BK339 hb; clear hb hbox hg; have hnb11 := NB339_340.out; have hnc11 := NB340_339.out; obtain ⟨z12_0, z12_1, z12_2, z12_3, y12_0, y12_1, y12_2, y12_3⟩ := zc4 BK339; obtain ⟨z13_0, z13_1, y13_0, y13_1⟩ := zc2 BK340) | ((with_reducible refine gate_callee (f := 80) rfl ?_); refine goesL_ (some 17) rfl rfl Try.func80 zn rfl #[.agg #[.int .i64 a0_0, .int .i64 a0_1, .bool a0_2, .bool a0_3], .agg #[.int .i64 a1_0, .int .i64 a1_1], .int .i64 a2, .int .i64 a3, .int .i64 a4] rfl zm ?_; (with_reducible refine (spec_arAsked.calls k a0_0 a0_1 a0_2 a0_3 a1_0 a1_1 a2 a3 a4 true _ A6.out).mono ?_); rintro e w14 ⟨rfl, hb⟩; refine ⟨_, rfl, ?_⟩; replace BK339 := zKb BK339 hb; replace BK340 := zKb BK340 hb; replace HB := zA (below_step (zB2 HB GE339 GE340) hb); (try clear hb); (try clear hb2); (try clear hk); (try clear hi)))
  replace BK339 := zA (blk_drew BK339.out)
  replace BK340 := zA (blk_drew BK340.out)
  replace HB := zA (below_drew1 HB.out)
  refine start_ (n := 15) (S := fun w' => w'.cell? ⟨gb339, 0, none⟩ = some (.int .i64 a0_0) ∧ w'.cell? ⟨gb339, 1, none⟩ = some (.int .i64 a0_1) ∧ w'.cell? ⟨gb339, 2, none⟩ = some (.bool a0_2) ∧ w'.cell? ⟨gb339, 3, none⟩ = some (.bool a0_3) ∧ w'.cell? ⟨gb340, 0, none⟩ = some (.int .i64 a1_0) ∧ w'.cell? ⟨gb340, 1, none⟩ = some (.int .i64 a1_1)) (ds := []) #[false, false, false, false, false, false, false, false, false, false, false, false, false, false, false] zn rfl rfl ⟨(blk_cell BK339.out 0).trans rfl, (blk_cell BK339.out 1).trans rfl, (blk_cell BK339.out 2).trans rfl, (blk_cell BK339.out 3).trans rfl, (blk_cell BK340.out 0).trans rfl, (blk_cell BK340.out 1).trans rfl⟩ (fun hHeld => ?_); refine with_tabW spec_VisitsAll.tab3 spec_VisitsAll.bits3 (fun HT_ HW_ => ?_)
  generalize w14.drew = w15 at BK339 BK340 HB hHeld ⊢
  refine zq HT_ (i := 2) (N := some 21) ?_
  refine zq HT_ (i := 3) (N := some 22) ?_
  refine zq HT_ (i := 4) (N := some 23) ?_
  refine zq HT_ (i := 7) (N := some 26) ?_
  refine zq HT_ (i := 9) (N := some 28) ?_
  refine zx6 HT_ HW_ hHeld (i := 0) (N := some 19) ?_
  refine zx6 HT_ HW_ hHeld (i := 1) (N := some 20) ?_
  refine zx6 HT_ HW_ hHeld (i := 8) (N := some 27) ?_
  refine zx6 HT_ HW_ hHeld (i := 10) (N := some 29) ?_
  refine zq HT_ (i := 11) (N := some 30) ?_
  refine one_ (i := 5) (N := some 24) #[true, true, true, true, true, true, false, true, true, true, true, true, false, false, false] rfl rfl (one_of HT_.out zn) (by decide) (fun K hK => ?_)
  refine goes_ Try.func63 zn rfl #[.agg #[.int .i64 a0_0, .int .i64 a0_1, .bool a0_2, .bool a0_3], .agg #[.int .i64 a1_0, .int .i64 a1_1], .int .i64 a2, .int .i64 a3, .int .i64 a4] (by rfl) rfl rfl zm ?_
  with_reducible refine (spec_arTurns.calls k a0_0 a0_1 a0_2 a0_3 a1_0 a1_1 a2 a3 a4 t342 _ A8.out).mono ?_
  rintro e w16 ⟨v343, rfl, ho0, hb⟩
  refine ⟨_, rfl, ?_⟩
  have HO344 := zA (Kd.R_lower ho0 (below_size (zB2 HB GE339 GE340)))
  replace BK339 := zKb BK339 hb
  replace BK340 := zKb BK340 hb
  replace HB := zA (below_step (zB2 HB GE339 GE340) hb)
  (try clear hb); (try clear hb2); (try clear hk); (try clear hi); (try clear ho0)
  obtain ⟨Ao17, co17, eo17⟩ := Kd.R_slice HO344.out
  (first | subst eo17 | (injection eo17 with f1_ f2_ f3_; have f4_ := f1_.symm; have f5_ := f3_.symm; clear f1_ f2_ f3_; subst f4_; subst f5_))
  refine hK.out _ _ ⟨(blk_cell BK339.out 0).trans rfl, (blk_cell BK339.out 1).trans rfl, (blk_cell BK339.out 2).trans rfl, (blk_cell BK339.out 3).trans rfl, (blk_cell BK340.out 0).trans rfl, (blk_cell BK340.out 1).trans rfl⟩ (fun hHeld => ?_)
  clear hK K
  refine norm_ (a' := ?_) ?_ ?_
  rotate_left
  ·show Act.put _ (some 24) _ = _
   simp only [Act.put, List.setIfInBounds_toArray, List.set_cons_zero, List.set_cons_succ, i64_w, i32_w]
   rfl
  refine zq HT_ (i := 6) (N := some 25) ?_
  refine zq HT_ (i := 12) (N := some 31) ?_
  refine zq HT_ (i := 13) (N := some 10) ?_
  refine zq HT_ (i := 14) (N := some 11) ?_
  refine done_ (done_of HT_.out zn) ?_
  try go_wp2
  go_ret2
  exact ⟨zt, zB2 HB GE339 GE340⟩
 ·replace c7 := Bool.eq_false_iff.mpr c7
  subst c7
  have H1 : (some (false, false)) = some (r1, r2) := by rw [if_neg (show ¬ (false = true) by decide)] at H; exact H
  clear H
  have H := H1
  clear H1
  simp only [Option.some.injEq, Prod.mk.injEq] at H
  obtain ⟨rfl, rfl⟩ := H
  go_enter Try.func55, Try.ntmps55
  go_wp2_with (first | ((with_reducible refine gate_dst (N := 5) rfl ?_); refine box_event zr (N := 5) zr (cs := #[.int .i64 a0_0, .int .i64 a0_1, .bool a0_2, .bool a0_3]) (t := 28) zh ?_; intro gb339 hg w18 hbox hb; have BK339 := zA (hbox); have GW339 := zA (zG hg (below_size (zB0 HB)) : w.heap.size ≤ gb339); have GE339 := zA (zG hg (below_size (zB0 HB)) : w.heap.size ≤ gb339); replace HB := zA (below_step (zB0 HB) hb); clear hb hbox hg) | ((with_reducible refine gate_dst (N := 6) rfl ?_); refine box_event zr (N := 6) zr (cs := #[.int .i64 a1_0, .int .i64 a1_1]) (t := 30) zh ?_; intro gb340 hg w19 hbox hb; have BK340 := zA (hbox); have GW340 := zA (zG hg (below_size (zB1 HB GE339)) : w.heap.size ≤ gb340); have GE340 := zA (zG hg (below_size (zB1 HB GE339)) : w.heap.size ≤ gb340); replace HB := zA (below_step (zB1 HB GE339) hb); have NB339_340 := zA (zNl hg BK339 : gb339 ≠ gb340); have NB340_339 := zA (zNg hg BK339 : gb340 ≠ gb339); replace BK339 := zKb BK339 hb; clear hb hbox hg; have hnb20 := NB339_340.out; have hnc20 := NB340_339.out; obtain ⟨z21_0, z21_1, z21_2, z21_3, y21_0, y21_1, y21_2, y21_3⟩ := zc4 BK339; obtain ⟨z22_0, z22_1, y22_0, y22_1⟩ := zc2 BK340) | ((with_reducible refine gate_callee (f := 80) rfl ?_); refine goesL_ (some 17) rfl rfl Try.func80 zn rfl #[.agg #[.int .i64 a0_0, .int .i64 a0_1, .bool a0_2, .bool a0_3], .agg #[.int .i64 a1_0, .int .i64 a1_1], .int .i64 a2, .int .i64 a3, .int .i64 a4] rfl zm ?_; (with_reducible refine (spec_arAsked.calls k a0_0 a0_1 a0_2 a0_3 a1_0 a1_1 a2 a3 a4 false _ A6.out).mono ?_); rintro e w23 ⟨rfl, hb⟩; refine ⟨_, rfl, ?_⟩; replace BK339 := zKb BK339 hb; replace BK340 := zKb BK340 hb; replace HB := zA (below_step (zB2 HB GE339 GE340) hb); (try clear hb); (try clear hb2); (try clear hk); (try clear hi)))
  go_ret2
  exact ⟨zt, zB2 HB GE339 GE340⟩
def impl_StepsOf.f (k : Nat) (a0_0 : Int) (a0_1 : Int) : Option ((List (List Int)) × Bool) := (impl_IsLeaper.f a0_0 a0_1).bind fun t346 => (if t346 = true then ((impl_Leaper_steps.f k a0_0 a0_1).bind fun t347 => (some (t347, true))) else (some (([] : List (List Int)), false)))
theorem impl_StepsOf.mono : ∀ a0 a1 k, LeO (impl_StepsOf.f k a0 a1) (impl_StepsOf.f (k + 1) a0 a1) := by
 intro a0 a1 k
 unfold impl_StepsOf.f
 repeat' first
   | (with_reducible exact impl_Leaper_steps.mono _ _ _)
   | (with_reducible exact LeO.refl _)
   | (with_reducible exact LeO.none _)
   | (with_reducible refine LeO.ite ?_ ?_)
   | (with_reducible refine LeO.bind ?_ (fun _ => ?_))
   | exact impl_Leaper_steps.mono _ _ _
   | exact LeO.none _
   | refine LeO.ite ?_ ?_
   | refine LeO.bind ?_ (fun _ => ?_)
set_option maxHeartbeats 8000000 in
set_option maxRecDepth 100000 in
theorem impl_StepsOf.calls (k : Nat) (a0_0 : Int) (a0_1 : Int) (r1 : List (List Int)) (r2 : Bool) (w : World) (h : impl_StepsOf.f k a0_0 a0_1 = some (r1, r2)) :
  Calls Try.prog 56 #[.agg #[.int .i64 a0_0, .int .i64 a0_1]] w fun e w' => ∃ v0_ : Value, e = .returned (.tuple #[v0_, .bool r2]) ∧ Kd.S (Kd.slice 3 (Kd.int .i64)) 33 w' w.heap.size (fun _ => True) v0_ r1 ∧ Below w.heap.size w w' := by
 have hu30 := Try.underlying30
 have HB := zA (Below.refl w.heap.size w)
 have H : ((impl_IsLeaper.f a0_0 a0_1).bind fun t346 => (if t346 = true then ((impl_Leaper_steps.f k a0_0 a0_1).bind fun t347 => (some (t347, true))) else (some (([] : List (List Int)), false)))) = some (r1, r2) := h
 clear h
 obtain ⟨t346, A2, H⟩ := zM H
 try dsimp only at H
 by_cases c3 : t346 = true
 ·subst c3
  have H1 : ((impl_Leaper_steps.f k a0_0 a0_1).bind fun t347 => (some (t347, true))) = some (r1, r2) := by rw [if_pos rfl] at H; exact H
  clear H
  have H := H1
  clear H1
  obtain ⟨t347, A4, H⟩ := zM H
  try dsimp only at H
  simp only [Option.some.injEq, Prod.mk.injEq] at H
  obtain ⟨rfl, rfl⟩ := H
  go_enter Try.func56, Try.ntmps56
  go_wp2_with (first | ((with_reducible refine gate_dst (N := 1) rfl ?_); refine box_event zr (N := 1) zr (cs := #[.int .i64 a0_0, .int .i64 a0_1]) (t := 30) zh ?_; intro gb345 hg w5 hbox hb; have BK345 := zA (hbox); have GW345 := zA (zG hg (below_size (zB0 HB)) : w.heap.size ≤ gb345); have GE345 := zA (zG hg (below_size (zB0 HB)) : w.heap.size ≤ gb345); replace HB := zA (below_step (zB0 HB) hb); clear hb hbox hg; obtain ⟨z6_0, z6_1, y6_0, y6_1⟩ := zc2 BK345) | ((with_reducible refine gate_callee (f := 65) rfl ?_); refine goesL_ (some 5) rfl rfl Try.func65 zn rfl #[.agg #[.int .i64 a0_0, .int .i64 a0_1]] rfl zm ?_; (with_reducible refine (impl_IsLeaper.calls a0_0 a0_1 true _ A2.out).mono ?_); rintro e w7 ⟨rfl, hb⟩; refine ⟨_, rfl, ?_⟩; replace BK345 := zKb BK345 hb; replace HB := zA (below_step (zB1 HB GE345) hb); (try clear hb); (try clear hb2); (try clear hk); (try clear hi); obtain ⟨z8_0, z8_1, y8_0, y8_1⟩ := zc2 BK345) | ((with_reducible refine gate_callee (f := 66) rfl ?_); refine goesL_ (some 8) rfl rfl Try.func66 zn rfl #[.agg #[.int .i64 a0_0, .int .i64 a0_1]] rfl zm ?_; (with_reducible refine (impl_Leaper_steps.calls k a0_0 a0_1 t347 _ A4.out).mono ?_); rintro e w9 ⟨v348, rfl, ho0, hb⟩; refine ⟨_, rfl, ?_⟩; have HO349 := zA (Kd.S_lower ho0 (below_size (zB1 HB GE345))); replace BK345 := zKb BK345 hb; replace HB := zA (below_step (zB1 HB GE345) hb); (try clear hb); (try clear hb2); (try clear hk); (try clear hi); (try clear ho0)))
  go_ret2
  exact ⟨_, zt, by (with_reducible repeat (first | apply Kd.S_alloc | apply Kd.S_drewN | apply Kd.S_drew)); exact HO349.out, zB1 HB GE345⟩
 ·replace c3 := Bool.eq_false_iff.mpr c3
  subst c3
  have H1 : (some (([] : List (List Int)), false)) = some (r1, r2) := by rw [if_neg (show ¬ (false = true) by decide)] at H; exact H
  clear H
  have H := H1
  clear H1
  simp only [Option.some.injEq, Prod.mk.injEq] at H
  obtain ⟨rfl, rfl⟩ := H
  go_enter Try.func56, Try.ntmps56
  go_wp2_with (first | ((with_reducible refine gate_dst (N := 1) rfl ?_); refine box_event zr (N := 1) zr (cs := #[.int .i64 a0_0, .int .i64 a0_1]) (t := 30) zh ?_; intro gb345 hg w10 hbox hb; have BK345 := zA (hbox); have GW345 := zA (zG hg (below_size (zB0 HB)) : w.heap.size ≤ gb345); have GE345 := zA (zG hg (below_size (zB0 HB)) : w.heap.size ≤ gb345); replace HB := zA (below_step (zB0 HB) hb); clear hb hbox hg; obtain ⟨z11_0, z11_1, y11_0, y11_1⟩ := zc2 BK345) | ((with_reducible refine gate_callee (f := 65) rfl ?_); refine goesL_ (some 5) rfl rfl Try.func65 zn rfl #[.agg #[.int .i64 a0_0, .int .i64 a0_1]] rfl zm ?_; (with_reducible refine (impl_IsLeaper.calls a0_0 a0_1 false _ A2.out).mono ?_); rintro e w12 ⟨rfl, hb⟩; refine ⟨_, rfl, ?_⟩; replace BK345 := zKb BK345 hb; replace HB := zA (below_step (zB1 HB GE345) hb); (try clear hb); (try clear hb2); (try clear hk); (try clear hi)))
  go_ret2
  exact ⟨_, zt, by first | exact Kd.S_nil _ _ _ _ _ | exact Kd.N_nil _ _ _ _ _ | exact Kd.V_nil _ _ _ _ _ | exact Kd.Q_nil _ _ _ _ _ | exact Kd.R_nil _ _ _ _ _, zB1 HB GE345⟩
def laws_big.f (l0 : List Int) (l1 : List Int) : Option (Bool) := if (l0.length : Int) > 1048576 then (some true) else (some (decide ((l1.length : Int) > (wrap64 (1048576 - (l0.length : Int))))))
set_option maxHeartbeats 8000000 in
set_option maxRecDepth 100000 in
theorem laws_big.calls (A0 : Option Addr) (c0 : Nat) (l0 : List Int) (A1 : Option Addr) (c1 : Nat) (l1 : List Int) (r : Bool) (w : World) (hr0 : Kd.C (Kd.int .u8) w A0 l0.length l0) (hc0 : l0.length ≤ c0) (hr1 : Kd.C (Kd.int .u8) w A1 l1.length l1) (hc1 : l1.length ≤ c1) (h : laws_big.f l0 l1 = some r) :
  Calls Try.prog 57 #[.slice A0 l0.length c0, .slice A1 l1.length c1] w fun e w' => e = .returned (.bool r) ∧ Drawn0 w w' := by
 have HR0 := zA hr0
 have HC0 := zA hc0
 clear hr0 hc0
 have HR1 := zA hr1
 have HC1 := zA hc1
 clear hr1 hc1
 have H : (if (l0.length : Int) > 1048576 then (some true) else (some (decide ((l1.length : Int) > (wrap64 (1048576 - (l0.length : Int))))))) = some r := h
 clear h
 by_cases c3 : (l0.length : Int) > 1048576
 ·rw [if_pos c3] at H
  have c3b0 : decide (1048576 < (l0.length : Int)) = true := decide_eq_true c3
  have c3b1 : decide (1048576 < l0.length) = true := decide_eq_true (by omega)
  clear c3
  obtain rfl := Option.some.inj H
  go_enter Try.func57, Try.ntmps57
  go_wp2
  go_ret
  exact ⟨by first | rfl | (simp; done) | (simp [*]; done), by repeat (first | exact Drawn0.refl _ | apply Drawn0.step)⟩
 ·rw [if_neg c3] at H
  have c3b0 : decide (1048576 < (l0.length : Int)) = false := decide_eq_false c3
  have c3b1 : decide (1048576 < l0.length) = false := decide_eq_false (by omega)
  clear c3
  obtain rfl := Option.some.inj H
  go_enter Try.func57, Try.ntmps57
  go_wp2
  go_ret
  exact ⟨by first | rfl | (simp; done) | (simp [*]; done), by repeat (first | exact Drawn0.refl _ | apply Drawn0.step)⟩
/-- A state of type 115 at block g of W; what its slices lead to came in by w0. -/
def IsS115 (w0 W : World) (g : Nat) (f0 : List Int) (f1 : Int) (f2 : Int) : Prop := ∃ A0 c0, W.heap[g]? = some (.cells #[.slice A0 f0.length c0, .int .i64 f1, .int .u64 f2] 115 (0, 0)) ∧ w0.heap.size ≤ g ∧ Kd.C (Kd.int .u8) w0 A0 f0.length f0
theorem IsS115.grown {w0 W : World} {g : Nat} {f0 : List Int} {f1 : Int} {f2 : Int} {W1 : World} {row : Option Nat} (h : IsS115 w0 W g f0 f1 f2) (hw : W.grownBy W1 row) (hne : some g ≠ row) : IsS115 w0 W1 g f0 f1 f2 := by
 obtain ⟨A0, c0, hb, hg, hr0⟩ := h
 exact ⟨A0, c0, blk_grown hb hw hne, hg, hr0⟩
theorem IsS115.own_neN {w0 W : World} {g : Nat} {f0 : List Int} {f1 : Int} {f2 : Int} {α : Type} {d : Kd α} {e : Nat} {base : Nat} {ok : Nat → Prop} {v : Value} {xs : List α} (h : IsS115 w0 W g f0 f1 f2) (ho : Kd.N d e W base ok v xs) (ht : e ≠ 115) : some g ≠ v.ownBlock := by
 obtain ⟨A0, c0, hb, hg, hr0⟩ := h
 exact Kd.N_ne ho hb ht
theorem IsS115.fresh {w0 W : World} {g : Nat} {f0 : List Int} {f1 : Int} {f2 : Int} (h : IsS115 w0 W g f0 f1 f2) : ∀ k, W.heap.size ≤ k → k ≠ g := by
 obtain ⟨A0, c0, hb, hg, hr0⟩ := h
 exact Kd.freshB hb
theorem IsS115.kept {w0 W : World} {g : Nat} {f0 : List Int} {f1 : Int} {f2 : Int} {W1 : World} {S : Nat → Prop} (h : IsS115 w0 W g f0 f1 f2) (hk : Kept W W1 S) (hne : ¬ S g) : IsS115 w0 W1 g f0 f1 f2 := by
 obtain ⟨A0, c0, hb, hg, hr0⟩ := h
 exact ⟨A0, c0, blk_kept hb hk hne, hg, hr0⟩
theorem IsS115.below {w0 W : World} {g : Nat} {f0 : List Int} {f1 : Int} {f2 : Int} {W1 : World} (h : IsS115 w0 W g f0 f1 f2) (hw : Below W.heap.size W W1) : IsS115 w0 W1 g f0 f1 f2 := h.grown (grown_of_below hw none) (by simp)
theorem IsS115.alloc {w0 W : World} {g : Nat} {f0 : List Int} {f1 : Int} {f2 : Int} (h : IsS115 w0 W g f0 f1 f2) (o : Obj) : IsS115 w0 (W.alloc o) g f0 f1 f2 := h.below (below_alloc (Below.refl _ _) o)
theorem IsS115.drewN {w0 W : World} {g : Nat} {f0 : List Int} {f1 : Int} {f2 : Int} (h : IsS115 w0 W g f0 f1 f2) (m : Nat) : IsS115 w0 (W.drewN m) g f0 f1 f2 := h
theorem IsS115.drew {w0 W : World} {g : Nat} {f0 : List Int} {f1 : Int} {f2 : Int} (h : IsS115 w0 W g f0 f1 f2) : IsS115 w0 W.drew g f0 f1 f2 := h
theorem IsS115.at_ {w0 W : World} {g : Nat} {f0 : List Int} {f1 : Int} {f2 : Int} {w' : World} {m : Nat} (hq : W.drewN m = w') (h : IsS115 w0 W g f0 f1 f2) : IsS115 w0 w' g f0 f1 f2 := by subst hq; exact IsS115.drewN h m
theorem IsS115.apart {w0 W : World} {g : Nat} {f0 : List Int} {f1 : Int} {f2 : Int} {α : Type} {d : Kd α} {e : Nat} {base : Nat} {ok : Nat → Prop} {v : Value} {xs : List α} (h : IsS115 w0 W g f0 f1 f2) (ho : d.R e W base ok v xs) (ht : ∀ q, q ∈ e :: d.E → q ≠ 115) : d.R e W base (fun k => ok k ∧ k ≠ g) v xs := by
 obtain ⟨A0, c0, hb, hg, hr0⟩ := h
 exact Kd.R_types ho hb ht
theorem IsS115.own_ne {w0 W : World} {g : Nat} {f0 : List Int} {f1 : Int} {f2 : Int} {α : Type} {d : Kd α} {e : Nat} {base : Nat} {ok : Nat → Prop} {v : Value} {xs : List α} (h : IsS115 w0 W g f0 f1 f2) (ho : d.R e W base ok v xs) (ht : e ≠ 115) : some g ≠ v.ownBlock := by
 obtain ⟨A0, c0, hb, hg, hr0⟩ := h
 exact Kd.R_ne ho hb ht
theorem IsS115.apartQ {w0 W : World} {g : Nat} {f0 : List Int} {f1 : Int} {f2 : Int} {α : Type} {d : Kd α} {e : Nat} {base : Nat} {ok : Nat → Prop} {v : Value} {xs : List α} (h : IsS115 w0 W g f0 f1 f2) (ho : d.Q e W base ok v xs) (ht : ∀ q, q ∈ e :: d.E → q ≠ 115) : d.Q e W base (fun k => ok k ∧ k ≠ g) v xs := by
 obtain ⟨A0, c0, hb, hg, hr0⟩ := h
 exact Kd.Q_types ho hb ht
theorem IsS115.own_neQ {w0 W : World} {g : Nat} {f0 : List Int} {f1 : Int} {f2 : Int} {α : Type} {d : Kd α} {e : Nat} {base : Nat} {ok : Nat → Prop} {v : Value} {xs : List α} (h : IsS115 w0 W g f0 f1 f2) (ho : d.Q e W base ok v xs) (ht : e ≠ 115) : some g ≠ v.ownBlock := by
 obtain ⟨A0, c0, hb, hg, hr0⟩ := h
 exact Kd.Q_ne ho hb ht
theorem IsS115.apartS {w0 W : World} {g : Nat} {f0 : List Int} {f1 : Int} {f2 : Int} {α : Type} {d : Kd α} {e : Nat} {base : Nat} {ok : Nat → Prop} {v : Value} {xs : List α} (h : IsS115 w0 W g f0 f1 f2) (ho : d.S e W base ok v xs) (ht : ∀ q, q ∈ e :: d.E → q ≠ 115) : d.S e W base (fun k => ok k ∧ k ≠ g) v xs := by
 obtain ⟨A0, c0, hb, hg, hr0⟩ := h
 exact Kd.S_types ho hb ht
theorem IsS115.own_neS {w0 W : World} {g : Nat} {f0 : List Int} {f1 : Int} {f2 : Int} {α : Type} {d : Kd α} {e : Nat} {base : Nat} {ok : Nat → Prop} {v : Value} {xs : List α} (h : IsS115 w0 W g f0 f1 f2) (ho : d.S e W base ok v xs) (ht : e ≠ 115) : some g ≠ v.ownBlock := by
 obtain ⟨A0, c0, hb, hg, hr0⟩ := h
 exact Kd.S_ne ho hb ht
theorem IsS115.lt {w0 W : World} {g : Nat} {f0 : List Int} {f1 : Int} {f2 : Int} (h : IsS115 w0 W g f0 f1 f2) : g < W.heap.size := by
 obtain ⟨A0, c0, hb, hg, hr0⟩ := h
 exact blk_lt hb
theorem IsS115.ge {w0 W : World} {g : Nat} {f0 : List Int} {f1 : Int} {f2 : Int} (h : IsS115 w0 W g f0 f1 f2) : w0.heap.size ≤ g := by
 obtain ⟨A0, c0, hb, hg, hr0⟩ := h
 exact hg
theorem IsS115.ne_blk {w0 W : World} {g : Nat} {f0 : List Int} {f1 : Int} {f2 : Int} {a : Nat} {cs : Array Value} {t : TypeId} {fr : Nat × Nat} (h : IsS115 w0 W g f0 f1 f2) (hb2 : W.heap[a]? = some (.cells cs t fr)) (ht : t ≠ 115) : g ≠ a := by
 obtain ⟨A0, c0, hb, hg, hr0⟩ := h
 rintro rfl
 rw [hb] at hb2
 injection hb2 with hb2
 injection hb2 with _ ht2
 exact ht ht2.symm
theorem IsS115.far {w0 W : World} {g : Nat} {f0 : List Int} {f1 : Int} {f2 : Int} {p : Addr} (h : IsS115 w0 W g f0 f1 f2) (hne : g ≠ p.block) (u : Value) : IsS115 w0 (W.setCell p u) g f0 f1 f2 := by
 obtain ⟨A0, c0, hb, hg, hr0⟩ := h
 exact ⟨A0, c0, blk_far hb hne u, hg, hr0⟩
theorem cellS115_0 {W : World} {g : Nat} {A0 : Option Addr} {c0 : Nat} {f0 : List Int} {f1 : Int} {f2 : Int} (h : W.heap[g]? = some (.cells #[.slice A0 f0.length c0, .int .i64 f1, .int .u64 f2] 115 (0, 0))) : W.cell? ⟨g, 0, none⟩ = some (.slice A0 f0.length c0) := (blk_cell h 0).trans rfl
theorem cellS115_1 {W : World} {g : Nat} {A0 : Option Addr} {c0 : Nat} {f0 : List Int} {f1 : Int} {f2 : Int} (h : W.heap[g]? = some (.cells #[.slice A0 f0.length c0, .int .i64 f1, .int .u64 f2] 115 (0, 0))) : W.cell? ⟨g, 1, none⟩ = some (.int .i64 f1) := (blk_cell h 1).trans rfl
theorem IsS115.set_1 {w0 W : World} {g : Nat} {f0 : List Int} {f1 : Int} {f2 : Int} (h : IsS115 w0 W g f0 f1 f2) (x : Int) : IsS115 w0 (W.setCell ⟨g, 1, none⟩ (.int .i64 x)) g f0 x f2 := by
 obtain ⟨A0, c0, hb, hg, hr0⟩ := h
 exact ⟨A0, c0, by simpa using blk_set hb 1 (.int .i64 x), hg, hr0⟩
theorem cellS115_2 {W : World} {g : Nat} {A0 : Option Addr} {c0 : Nat} {f0 : List Int} {f1 : Int} {f2 : Int} (h : W.heap[g]? = some (.cells #[.slice A0 f0.length c0, .int .i64 f1, .int .u64 f2] 115 (0, 0))) : W.cell? ⟨g, 2, none⟩ = some (.int .u64 f2) := (blk_cell h 2).trans rfl
theorem IsS115.set_2 {w0 W : World} {g : Nat} {f0 : List Int} {f1 : Int} {f2 : Int} (h : IsS115 w0 W g f0 f1 f2) (x : Int) : IsS115 w0 (W.setCell ⟨g, 2, none⟩ (.int .u64 x)) g f0 f1 x := by
 obtain ⟨A0, c0, hb, hg, hr0⟩ := h
 exact ⟨A0, c0, by simpa using blk_set hb 2 (.int .u64 x), hg, hr0⟩
theorem IsS115.new (w0 W : World) (A0 : Option Addr) (c0 : Nat) (f0 : List Int) (f1 : Int) (f2 : Int) (hB : Below w0.heap.size w0 W) (hr0 : Kd.C (Kd.int .u8) w0 A0 f0.length f0) : IsS115 w0 (W.alloc (.cells #[.slice A0 f0.length c0, .int .i64 f1, .int .u64 f2] 115)) W.heap.size f0 f1 f2 := ⟨A0, c0, by simpa using heap_alloc_new W _, hB.size, hr0⟩
theorem zI0 {P Q : Prop} (b : Aside0 Q) (g : Q → P := by intro b; repeat (first | (with_reducible first | exact b | apply IsS115.alloc | apply IsS115.drewN | apply IsS115.drew | apply IsS115.set_1 | apply IsS115.set_2) | exact b)) : P := g b.out
theorem zk0 {P Q : Prop} (b : Aside0 Q) (g : Q → P := by intro b; repeat (first | (with_reducible first | exact b | apply KeepBut.set_ | apply keep_drewN | apply keep_drew | apply keep_alloc) | exact b)) : P := g b.out
theorem zJ0 {w0 w2 : World} {g : Nat} {f0 : List Int} {f1 f2 : Int} {P Q : Prop} (b : Aside0 Q) (c : Aside0 (IsS115 w0 w2 g f0 f1 f2)) (g : Q → w0.heap.size ≤ g → P := by intro b c; repeat (first | (with_reducible first | exact b | apply below_alloc | apply pw_below_drewN | apply below_drew1 | refine below_set ?_ c) | exact b)) : P := g b.out (IsS115.ge c.out)
theorem zI1 {P Q R1 : Prop} (b : Aside0 Q) (r1 : Aside0 R1) (g : Q → R1 → P := by intro b r1; repeat (first | (with_reducible first | exact b | apply IsS115.alloc | apply IsS115.drewN | apply IsS115.drew | apply IsS115.set_1 | apply IsS115.set_2 | refine IsS115.far ?_ r1 _) | exact b)) : P := g b.out r1.out
theorem zk1 {P Q R1 : Prop} (b : Aside0 Q) (r1 : Aside0 R1) (g : Q → R1 → P := by intro b r1; repeat (first | (with_reducible first | exact b | apply KeepBut.set_ | apply keep_drewN | apply keep_drew | apply keep_alloc | refine keep_far ?_ r1 _) | exact b)) : P := g b.out r1.out
theorem zJ1 {w0 w2 : World} {g : Nat} {f0 : List Int} {f1 f2 : Int} {P Q R1 : Prop} (b : Aside0 Q) (c : Aside0 (IsS115 w0 w2 g f0 f1 f2)) (r1 : Aside0 R1) (g : Q → w0.heap.size ≤ g → R1 → P := by intro b c r1; repeat (first | (with_reducible first | exact b | apply below_alloc | apply pw_below_drewN | apply below_drew1 | refine below_set ?_ c | refine below_set ?_ r1) | exact b)) : P := g b.out (IsS115.ge c.out) r1.out
theorem zI2 {P Q R1 R2 : Prop} (b : Aside0 Q) (r1 : Aside0 R1) (r2 : Aside0 R2) (g : Q → R1 → R2 → P := by intro b r1 r2; repeat (first | (with_reducible first | exact b | apply IsS115.alloc | apply IsS115.drewN | apply IsS115.drew | apply IsS115.set_1 | apply IsS115.set_2 | refine IsS115.far ?_ r1 _ | refine IsS115.far ?_ r2 _) | exact b)) : P := g b.out r1.out r2.out
theorem zk2 {P Q R1 R2 : Prop} (b : Aside0 Q) (r1 : Aside0 R1) (r2 : Aside0 R2) (g : Q → R1 → R2 → P := by intro b r1 r2; repeat (first | (with_reducible first | exact b | apply KeepBut.set_ | apply keep_drewN | apply keep_drew | apply keep_alloc | refine keep_far ?_ r1 _ | refine keep_far ?_ r2 _) | exact b)) : P := g b.out r1.out r2.out
theorem zJ2 {w0 w2 : World} {g : Nat} {f0 : List Int} {f1 f2 : Int} {P Q R1 R2 : Prop} (b : Aside0 Q) (c : Aside0 (IsS115 w0 w2 g f0 f1 f2)) (r1 : Aside0 R1) (r2 : Aside0 R2) (g : Q → w0.heap.size ≤ g → R1 → R2 → P := by intro b c r1 r2; repeat (first | (with_reducible first | exact b | apply below_alloc | apply pw_below_drewN | apply below_drew1 | refine below_set ?_ c | refine below_set ?_ r1 | refine below_set ?_ r2) | exact b)) : P := g b.out (IsS115.ge c.out) r1.out r2.out
theorem zI3 {P Q R1 R2 R3 : Prop} (b : Aside0 Q) (r1 : Aside0 R1) (r2 : Aside0 R2) (r3 : Aside0 R3) (g : Q → R1 → R2 → R3 → P := by intro b r1 r2 r3; repeat (first | (with_reducible first | exact b | apply IsS115.alloc | apply IsS115.drewN | apply IsS115.drew | apply IsS115.set_1 | apply IsS115.set_2 | refine IsS115.far ?_ r1 _ | refine IsS115.far ?_ r2 _ | refine IsS115.far ?_ r3 _) | exact b)) : P := g b.out r1.out r2.out r3.out
theorem zk3 {P Q R1 R2 R3 : Prop} (b : Aside0 Q) (r1 : Aside0 R1) (r2 : Aside0 R2) (r3 : Aside0 R3) (g : Q → R1 → R2 → R3 → P := by intro b r1 r2 r3; repeat (first | (with_reducible first | exact b | apply KeepBut.set_ | apply keep_drewN | apply keep_drew | apply keep_alloc | refine keep_far ?_ r1 _ | refine keep_far ?_ r2 _ | refine keep_far ?_ r3 _) | exact b)) : P := g b.out r1.out r2.out r3.out
theorem zJ3 {w0 w2 : World} {g : Nat} {f0 : List Int} {f1 f2 : Int} {P Q R1 R2 R3 : Prop} (b : Aside0 Q) (c : Aside0 (IsS115 w0 w2 g f0 f1 f2)) (r1 : Aside0 R1) (r2 : Aside0 R2) (r3 : Aside0 R3) (g : Q → w0.heap.size ≤ g → R1 → R2 → R3 → P := by intro b c r1 r2 r3; repeat (first | (with_reducible first | exact b | apply below_alloc | apply pw_below_drewN | apply below_drew1 | refine below_set ?_ c | refine below_set ?_ r1 | refine below_set ?_ r2 | refine below_set ?_ r3) | exact b)) : P := g b.out (IsS115.ge c.out) r1.out r2.out r3.out
theorem zI4 {P Q R1 R2 R3 R4 : Prop} (b : Aside0 Q) (r1 : Aside0 R1) (r2 : Aside0 R2) (r3 : Aside0 R3) (r4 : Aside0 R4) (g : Q → R1 → R2 → R3 → R4 → P := by intro b r1 r2 r3 r4; repeat (first | (with_reducible first | exact b | apply IsS115.alloc | apply IsS115.drewN | apply IsS115.drew | apply IsS115.set_1 | apply IsS115.set_2 | refine IsS115.far ?_ r1 _ | refine IsS115.far ?_ r2 _ | refine IsS115.far ?_ r3 _ | refine IsS115.far ?_ r4 _) | exact b)) : P := g b.out r1.out r2.out r3.out r4.out
theorem zk4 {P Q R1 R2 R3 R4 : Prop} (b : Aside0 Q) (r1 : Aside0 R1) (r2 : Aside0 R2) (r3 : Aside0 R3) (r4 : Aside0 R4) (g : Q → R1 → R2 → R3 → R4 → P := by intro b r1 r2 r3 r4; repeat (first | (with_reducible first | exact b | apply KeepBut.set_ | apply keep_drewN | apply keep_drew | apply keep_alloc | refine keep_far ?_ r1 _ | refine keep_far ?_ r2 _ | refine keep_far ?_ r3 _ | refine keep_far ?_ r4 _) | exact b)) : P := g b.out r1.out r2.out r3.out r4.out
theorem zJ4 {w0 w2 : World} {g : Nat} {f0 : List Int} {f1 f2 : Int} {P Q R1 R2 R3 R4 : Prop} (b : Aside0 Q) (c : Aside0 (IsS115 w0 w2 g f0 f1 f2)) (r1 : Aside0 R1) (r2 : Aside0 R2) (r3 : Aside0 R3) (r4 : Aside0 R4) (g : Q → w0.heap.size ≤ g → R1 → R2 → R3 → R4 → P := by intro b c r1 r2 r3 r4; repeat (first | (with_reducible first | exact b | apply below_alloc | apply pw_below_drewN | apply below_drew1 | refine below_set ?_ c | refine below_set ?_ r1 | refine below_set ?_ r2 | refine below_set ?_ r3 | refine below_set ?_ r4) | exact b)) : P := g b.out (IsS115.ge c.out) r1.out r2.out r3.out r4.out
theorem zP {w0 w1 : World} {g g' : Nat} {f0 : List Int} {f1 f2 : Int} (hg : g' = w1.heap.size) (h : IsS115 w0 w1 g f0 f1 f2) : g ≠ g' := by rw [hg]; exact Nat.ne_of_lt (IsS115.lt h)
theorem zQ {w0 w1 : World} {g g' : Nat} {f0 : List Int} {f1 f2 : Int} (hg : g' = w1.heap.size) (h : IsS115 w0 w1 g f0 f1 f2) : g' ≠ g := by rw [hg]; exact Nat.ne_of_gt (IsS115.lt h)
theorem zX {w0 w1 w2 : World} {g g' : Nat} {o : Obj} (q : Aside0 (w0.heap[g']? = some o)) (hk : KeepBut w1 w2 g none) (hn : Aside0 (g' ≠ g)) (t : w0.heap[g']? = some o → w1.heap[g']? = some o := by intro q; (with_reducible repeat (first | refine blk_drewN ?_ _ | refine blk_drew ?_ | refine blk_alloc ?_ _)); exact q) : Aside0 (w2.heap[g']? = some o) := ⟨KeepBut.blk hk (t q.out) hn.out (by simp)⟩
end Go.Proofs.Ytogkcfddoiloeaa.PFnOrbitsShare
