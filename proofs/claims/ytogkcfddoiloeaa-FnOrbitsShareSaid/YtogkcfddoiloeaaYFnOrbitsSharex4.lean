/- The walk. -/
import Derived.Test.YtogkcfddoiloeaaYFnOrbitsSharex3
namespace Go.Proofs.Ytogkcfddoiloeaa.PFnOrbitsShare
open Go.RowKit Go.Proofs.YtogkcfddoiloeaaW.PrintWords Go.Proofs.YtogkcfddoiloeaaW.PrintLast Go.Proofs.YtogkcfddoiloeaaW.PrintMore
attribute [local go_sem] max2_int min2_int max_two min_two max_three min_three max_four min_four
set_option linter.unusedVariables false
set_option linter.unusedSimpArgs false
def impl_Around_twoSteps.l0 : Nat → List Int → List Int → Int → List Int → List Bool → Int → Int → Int → Bool → Bool → Option (List Int)
 | 0, _, _, _, _, _, _, _, _, _, _ => none
 | k + 1, x1, x2, x3, x9, x10, x11, x198000, x198001, x198002, x198003 => if x3 = 0 then (none) else (if (Int.tmod x11 x3) = 0 then (if 0 ≤ (wrap64 ((x9.length : Int) - 1)) then (if (wrap64 ((x9.length : Int) - 1)) < (x9.length : Int) then (if 0 < (x2.length : Int) then (if 1 < (x2.length : Int) then ((impl_Around_step.f x198000 x198001 x198002 x198003 (rd x9 (wrap64 ((x9.length : Int) - 1))) (rd x2 0) (rd x2 1)).bind fun bt208 => (if bt208.2 = true then (if 0 ≤ bt208.1 then (if bt208.1 < (x10.length : Int) then (if rdOf false x10 bt208.1 = true then (some x9) else (if x9.length < 17592186044416 then (impl_Around_twoSteps.l0 k x1 x2 x3 (x9 ++ [bt208.1]) (x10.set (bt208.1 : Int).toNat true) (wrap64 (x11 + 1)) x198000 x198001 x198002 x198003) else (none))) else (none)) else (none)) else (some x9))) else (none)) else (none)) else (none)) else (none)) else (if 0 ≤ (wrap64 ((x9.length : Int) - 1)) then (if (wrap64 ((x9.length : Int) - 1)) < (x9.length : Int) then (if 0 < (x1.length : Int) then (if 1 < (x1.length : Int) then ((impl_Around_step.f x198000 x198001 x198002 x198003 (rd x9 (wrap64 ((x9.length : Int) - 1))) (rd x1 0) (rd x1 1)).bind fun bt218 => (if bt218.2 = true then (if 0 ≤ bt218.1 then (if bt218.1 < (x10.length : Int) then (if rdOf false x10 bt218.1 = true then (some x9) else (if x9.length < 17592186044416 then (impl_Around_twoSteps.l0 k x1 x2 x3 (x9 ++ [bt218.1]) (x10.set (bt218.1 : Int).toNat true) (wrap64 (x11 + 1)) x198000 x198001 x198002 x198003) else (none))) else (none)) else (none)) else (some x9))) else (none)) else (none)) else (none)) else (none)))
def impl_Around_twoSteps.f (k : Nat) (a0_0 : Int) (a0_1 : Int) (a0_2 : Bool) (a0_3 : Bool) (l1 : List Int) (l2 : List Int) (a3 : Int) : Option (List Int) := if 0 ≤ (wrap64 (a0_0 * a0_1)) then (if (wrap64 (a0_0 * a0_1) : Int).toNat ≤ 281474976710656 then ((some (List.replicate (wrap64 (a0_0 * a0_1) : Int).toNat false : List Bool)).bind fun y201 => (if 0 < (y201.length : Int) then (impl_Around_twoSteps.l0 k l1 l2 a3 (([0] : List Int)) (y201.set (0 : Int).toNat true) 1 a0_0 a0_1 a0_2 a0_3) else (none))) else (none)) else (none)
theorem impl_Around_twoSteps.mono_l : ∀ k, (∀ y0 y1 y2 y3 y4 y5 y6 y7 y8 y9, LeO (impl_Around_twoSteps.l0 k y0 y1 y2 y3 y4 y5 y6 y7 y8 y9) (impl_Around_twoSteps.l0 (k + 1) y0 y1 y2 y3 y4 y5 y6 y7 y8 y9))
 | 0 => fun _ _ _ _ _ _ _ _ _ _ r h => by simp [impl_Around_twoSteps.l0] at h
 | k + 1 => by
  have ih0 := impl_Around_twoSteps.mono_l k
  ·intro y0 y1 y2 y3 y4 y5 y6 y7 y8 y9
   unfold impl_Around_twoSteps.l0
   repeat' first
   | (with_reducible apply ih0)
   | (with_reducible exact LeO.refl _)
   | (with_reducible exact LeO.none _)
   | (with_reducible refine LeO.ite ?_ ?_)
   | (with_reducible refine LeO.bind ?_ (fun _ => ?_))
   | apply ih0
   | exact LeO.none _
   | refine LeO.ite ?_ ?_
   | refine LeO.bind ?_ (fun _ => ?_)
theorem impl_Around_twoSteps.mono : ∀ a0 a1 a2 a3 a4 a5 a6 k, LeO (impl_Around_twoSteps.f k a0 a1 a2 a3 a4 a5 a6) (impl_Around_twoSteps.f (k + 1) a0 a1 a2 a3 a4 a5 a6) := by
 intro a0 a1 a2 a3 a4 a5 a6 k
 have ih0 := impl_Around_twoSteps.mono_l k
 unfold impl_Around_twoSteps.f
 repeat' first
   | (with_reducible apply ih0)
   | (with_reducible exact LeO.refl _)
   | (with_reducible exact LeO.none _)
   | (with_reducible refine LeO.ite ?_ ?_)
   | (with_reducible refine LeO.bind ?_ (fun _ => ?_))
   | apply ih0
   | exact LeO.none _
   | refine LeO.ite ?_ ?_
   | refine LeO.bind ?_ (fun _ => ?_)
def impl_Around_twoSteps.T1 : Bool × List (List Nat × List Nat) := (true, [([], []), ([], []), ([1], [1]), ([], []), ([3], [3]), ([2, 4], [2, 4]), ([5, 5], [5]), ([0, 0], [0]), ([6, 7, 0, 1, 2, 3, 4, 5, 6, 7], [6])])
def impl_Around_twoSteps.B1 : List Nat := [0, 0, 2, 0, 8, 30, 62, 1, 255]
theorem impl_Around_twoSteps.tab1 : rtab .any (opsOf Try.f67 1) = impl_Around_twoSteps.T1 := by kernel_rfl
theorem impl_Around_twoSteps.bits1 : waitsOk impl_Around_twoSteps.T1.2 impl_Around_twoSteps.B1 = true := by kernel_rfl
def impl_Around_twoSteps.T8 : Bool × List (List Nat × List Nat) := (true, [([], []), ([], []), ([], []), ([2], [2]), ([3], [3]), ([1, 4], [1, 4]), ([5], [5]), ([], []), ([7], [7]), ([8], [8]), ([], []), ([10], [10]), ([11], [11]), ([0, 6, 9, 12], [0, 6, 9, 12]), ([13], [13]), ([14], [14]), ([14], [14]), ([15, 13, 0, 1, 2, 3, 4, 5, 6, 7, 8, 9, 10, 11, 12, 13, 14, 15], [15]), ([16, 17, 0, 1, 2, 3, 4, 5, 6, 7, 8, 9, 10, 11, 12, 13, 14, 15, 16, 17], [16])])
def impl_Around_twoSteps.B8 : List Nat := [0, 0, 0, 4, 12, 30, 62, 0, 128, 384, 0, 1024, 3072, 8191, 16383, 32767, 32767, 65535, 262143]
theorem impl_Around_twoSteps.tab8 : rtab .any (opsOf Try.f67 8) = impl_Around_twoSteps.T8 := by kernel_rfl
theorem impl_Around_twoSteps.bits8 : waitsOk impl_Around_twoSteps.T8.2 impl_Around_twoSteps.B8 = true := by kernel_rfl
set_option maxHeartbeats 8000000 in
set_option maxRecDepth 100000 in
theorem impl_Around_twoSteps.calls (k : Nat) (a0_0 : Int) (a0_1 : Int) (a0_2 : Bool) (a0_3 : Bool) (A1 : Option Addr) (c1 : Nat) (l1 : List Int) (A2 : Option Addr) (c2 : Nat) (l2 : List Int) (a3 : Int) (r : List Int) (w : World) (hr1 : Kd.C (Kd.int .i64) w A1 l1.length l1) (hc1 : l1.length ≤ c1) (hr2 : Kd.C (Kd.int .i64) w A2 l2.length l2) (hc2 : l2.length ≤ c2) (h : impl_Around_twoSteps.f k a0_0 a0_1 a0_2 a0_3 l1 l2 a3 = some r) :
  Calls Try.prog 67 #[.agg #[.int .i64 a0_0, .int .i64 a0_1, .bool a0_2, .bool a0_3], .slice A1 l1.length c1, .slice A2 l2.length c2, .int .i64 a3] w fun e w' => ∃ v0_ : Value, e = .returned (v0_) ∧ Kd.R (Kd.int .i64) 3 w' w.heap.size (fun _ => True) v0_ r ∧ Below w.heap.size w w' := by
 have hu28 := Try.underlying28
 have HR1 := zA hr1
 have HC1 := zA hc1
 clear hr1 hc1
 have HR2 := zA hr2
 have HC2 := zA hc2
 clear hr2 hc2
 have HB := zA (Below.refl w.heap.size w)
 have H : (if 0 ≤ (wrap64 (a0_0 * a0_1)) then (if (wrap64 (a0_0 * a0_1) : Int).toNat ≤ 281474976710656 then ((some (List.replicate (wrap64 (a0_0 * a0_1) : Int).toNat false : List Bool)).bind fun y201 => (if 0 < (y201.length : Int) then (impl_Around_twoSteps.l0 k l1 l2 a3 (([0] : List Int)) (y201.set (0 : Int).toNat true) 1 a0_0 a0_1 a0_2 a0_3) else (none))) else (none)) else (none)) = some r := h
 clear h
 obtain ⟨y198, hy198⟩ : ∃ y_ : List Int, y_ = (([0] : List Int)) := ⟨_, rfl⟩
 replace H : (if 0 ≤ (wrap64 (a0_0 * a0_1)) then (if (wrap64 (a0_0 * a0_1) : Int).toNat ≤ 281474976710656 then ((some (List.replicate (wrap64 (a0_0 * a0_1) : Int).toNat false : List Bool)).bind fun y201 => (if 0 < (y201.length : Int) then (impl_Around_twoSteps.l0 k l1 l2 a3 y198 (y201.set (0 : Int).toNat true) 1 a0_0 a0_1 a0_2 a0_3) else (none))) else (none)) else (none)) = some r := by first | (rw [hy198]; with_reducible exact H) | (have H2_ := (Option.bind_some _ _).symm.trans H; rw [hy198]; with_reducible exact H2_) | (have H2_ := (Option.bind_some _ _).symm.trans H; with_reducible exact H2_) | with_reducible exact H | (rw [hy198]; exact H) | exact H
 have Ny198 := zA hy198
 clear hy198
 obtain ⟨ji5, hji5⟩ : ∃ j_ : Int, (wrap64 (a0_0 * a0_1)) = j_ := ⟨_, rfl⟩
 replace H : (if 0 ≤ (ji5) then (if (ji5 : Int).toNat ≤ 281474976710656 then ((some (List.replicate (ji5 : Int).toNat false : List Bool)).bind fun y201 => (if 0 < (y201.length : Int) then (impl_Around_twoSteps.l0 k l1 l2 a3 y198 (y201.set (0 : Int).toNat true) 1 a0_0 a0_1 a0_2 a0_3) else (none))) else (none)) else (none)) = some r := by first | (rw [hji5] at H; exact H) | (simp only [hji5] at H ⊢; exact H)
 have hji5w : (IntKind.i64.wrap (a0_0 * a0_1)) = ji5 := (i64_w _).trans hji5
 by_cases c6 : 0 ≤ (ji5)
 ·rw [if_pos c6] at H
  have c6b0 := eq_true c6
  have c6b1 : decide (0 ≤ (ji5)) = true := decide_eq_true c6
  clear c6
  by_cases c7 : (ji5 : Int).toNat ≤ 281474976710656
  ·rw [if_pos c7] at H
   have c7b0 := eq_true c7
   have c7b1 : decide ((ji5 : Int).toNat ≤ 281474976710656) = true := decide_eq_true c7
   clear c7
   obtain ⟨y201, hy201⟩ : ∃ y_ : List Bool, y_ = (List.replicate (ji5 : Int).toNat false) := ⟨_, rfl⟩
   replace H : (if 0 < (y201.length : Int) then (impl_Around_twoSteps.l0 k l1 l2 a3 y198 (y201.set (0 : Int).toNat true) 1 a0_0 a0_1 a0_2 a0_3) else (none)) = some r := by first | (rw [hy201]; with_reducible exact H) | (have H2_ := (Option.bind_some _ _).symm.trans H; rw [hy201]; with_reducible exact H2_) | (have H2_ := (Option.bind_some _ _).symm.trans H; with_reducible exact H2_) | with_reducible exact H | (rw [hy201]; exact H) | exact H
   have Ny201 := zA hy201
   clear hy201
   by_cases c8 : 0 < (y201.length : Int)
   ·rw [if_pos c8] at H
    have c8b0 : decide (0 < (y201.length : Int)) = true := decide_eq_true c8
    have c8b1 : decide (0 < y201.length) = true := decide_eq_true (by omega)
    clear c8
    obtain ⟨y204, hy204⟩ : ∃ y_ : List Bool, y_ = (y201.set (0 : Int).toNat true) := ⟨_, rfl⟩
    replace H : (impl_Around_twoSteps.l0 k l1 l2 a3 y198 y204 1 a0_0 a0_1 a0_2 a0_3) = some r := by first | (rw [hy204]; with_reducible exact H) | (have H2_ := (Option.bind_some _ _).symm.trans H; rw [hy204]; with_reducible exact H2_) | (have H2_ := (Option.bind_some _ _).symm.trans H; with_reducible exact H2_) | with_reducible exact H | (rw [hy204]; exact H) | exact H
    have Ny204 := zA hy204
    clear hy204
    have H' := zA H
    clear H
    go_enter Try.func67, Try.ntmps67
    try go_wp2_with (first | ((with_reducible refine gate_dst (N := 4) rfl ?_); refine box_event zr (N := 4) zr (cs := #[.int .i64 a0_0, .int .i64 a0_1, .bool a0_2, .bool a0_3]) (t := 28) zh ?_; intro gb197 hg w10 hbox hb; have BK197 := zA (hbox); have GW197 := zA (zG hg (below_size (zB0 HB)) : w.heap.size ≤ gb197); have GE197 := zA (zG hg (below_size (zB0 HB)) : w.heap.size ≤ gb197); replace HB := zA (below_step (zB0 HB) hb); clear hb hbox hg))
    replace BK197 := zA (blk_drew BK197.out)
    replace HB := zA (below_drew1 HB.out)
    refine start_ (n := 9) (S := fun w' => w'.cell? ⟨gb197, 0, none⟩ = some (.int .i64 a0_0) ∧ w'.cell? ⟨gb197, 1, none⟩ = some (.int .i64 a0_1) ∧ w'.cell? ⟨gb197, 2, none⟩ = some (.bool a0_2) ∧ w'.cell? ⟨gb197, 3, none⟩ = some (.bool a0_3)) (ds := []) #[false, false, false, false, false, false, false, false, false] zn rfl rfl ⟨(blk_cell BK197.out 0).trans rfl, (blk_cell BK197.out 1).trans rfl, (blk_cell BK197.out 2).trans rfl, (blk_cell BK197.out 3).trans rfl⟩ (fun hHeld => ?_); refine with_tabW impl_Around_twoSteps.tab1 impl_Around_twoSteps.bits1 (fun HT_ HW_ => ?_)
    generalize w10.drew = w11 at BK197 HB hHeld ⊢
    refine zq HT_ (i := 1) (N := some 16) ?_
    refine zq HT_ (i := 3) (N := some 18) ?_
    refine zx4 HT_ HW_ hHeld (i := 2) (N := some 17) ?_
    refine zx4 HT_ HW_ hHeld (i := 4) (N := some 19) ?_
    refine zq HT_ (i := 5) (N := some 20) ?_
    refine join_ (σ := Value × Value) 1 #[true, true, true, true, true, true, true, true, false] (fun s_ => [(15, s_.1), (21, s_.2), (9, s_.1)]) (fun s_ w' => (w'.cell? ⟨gb197, 0, none⟩ = some (.int .i64 a0_0) ∧ w'.cell? ⟨gb197, 1, none⟩ = some (.int .i64 a0_1) ∧ w'.cell? ⟨gb197, 2, none⟩ = some (.bool a0_2) ∧ w'.cell? ⟨gb197, 3, none⟩ = some (.bool a0_3)) ∧ (Kd.R (Kd.int .i64) 3 w' w.heap.size (fun _ => True) s_.1 y198) ∧ (Kd.R Kd.bool 4 w' w.heap.size (fun _ => True) s_.2 y201) ∧ (w'.heap[gb197]? = some (.cells #[.int .i64 a0_0, .int .i64 a0_1, .bool a0_2, .bool a0_3] 28 (0, 0))) ∧ (Below w.heap.size w w')) ?_ ?_
    rotate_left
    ·intro hCont
     refine two_ (i := 0) (j := 6) (Ni := some 15) (Nj := some 21) #[true, true, true, true, true, true, false, false, false] #[false, true, true, true, true, true, true, false, false] rfl rfl rfl rfl (two_of HT_.out zn) (by decide) (by decide) (fun K hK => ?_) (fun K hK => ?_)
     ·skip
      refine Kd.R_lit_step (Kd.int .i64) _ 3 ?hg (N := 15) ?hd (xs := ([0] : List Int)) (inner := [.int .i64 0]) (ok := fun _ => True) (okp := fun _ => True) ?hr ?hp (fun _ hk => hk) trivial (Below.refl _ _) (Nat.le_refl _) (by simp) ?_; (case hd => rfl); (case hg => rfl); (case hr => first | (go_simp; done) | (go_simp; rfl)); (case hp => exact (Reps.one (show Kd.M (Kd.int .i64) _ _ _ 0 [.int .i64 0] from rfl) (Reps.none _ _)))
      intro v199 w12 ho13 hb hg_ hnew_
      clear hg_ hnew_
      (first | rw [← Ny198.out] at ho13 | (simp only [Int.reduceToNat] at ho13; rw [← Ny198.out] at ho13))
      have HO200 := zA (Kd.R_lower ho13 (below_size (zB1 HB GE197)))
      replace BK197 := zKb BK197 hb
      replace HB := zA (below_step (zB1 HB GE197) hb)
      clear hb ho13
      refine hK.out _ _ ⟨(blk_cell BK197.out 0).trans rfl, (blk_cell BK197.out 1).trans rfl, (blk_cell BK197.out 2).trans rfl, (blk_cell BK197.out 3).trans rfl⟩ (fun hHeld => ?_)
      clear hK K
      refine norm_ (a' := ?_) ?_ ?_
      rotate_left
      ·show Act.put _ (some 15) _ = _
       simp only [Act.put, List.setIfInBounds_toArray, List.set_cons_zero, List.set_cons_succ, i64_w, i32_w]
       rfl
      refine zq HT_ (i := 7) (N := some 9) ?_
      refine one_ (i := 6) (N := some 21) #[true, true, true, true, true, true, true, true, false] rfl rfl (one_of HT_.out zn) (by decide) (fun K hK => ?_)
      refine Kd.R_make_step Kd.bool _ 4 (by rfl) (N := 21) rfl 122 _ _ rfl ji5 rfl rfl Try.underlying122 (.bool false) 1 info4 rfl (by decide) (by omega) false (ok := fun _ => True) (okp := fun _ => True) rfl (fun _ hk => hk) trivial (zd) (Nat.le_trans (Nat.mul_le_mul_right _ (zd : ji5.toNat ≤ 281474976710656)) (by omega)) (Below.refl _ _) (Nat.le_refl _) ?_
      intro v202 w14 ho15 hb hg_ hnew_
      clear hg_ hnew_
      (first | rw [← Ny201.out] at ho15 | (simp only [Int.reduceToNat] at ho15; rw [← Ny201.out] at ho15))
      replace HO200 := zRb HO200 hb
      have HO203 := zA (Kd.R_lower ho15 (below_size (zB1 HB GE197)))
      replace BK197 := zKb BK197 hb
      replace HB := zA (below_step (zB1 HB GE197) hb)
      clear hb ho15
      refine hK.out _ _ ⟨(blk_cell BK197.out 0).trans rfl, (blk_cell BK197.out 1).trans rfl, (blk_cell BK197.out 2).trans rfl, (blk_cell BK197.out 3).trans rfl⟩ (fun hHeld => ?_)
      clear hK K
      refine norm_ (a' := ?_) ?_ ?_
      rotate_left
      ·show Act.put _ (some 21) _ = _
       simp only [Act.put, List.setIfInBounds_toArray, List.set_cons_zero, List.set_cons_succ, i64_w, i32_w]
       rfl
      exact norm_ (by simp only [putAll, Act.put, List.setIfInBounds_toArray, List.set_cons_zero, List.set_cons_succ]) (hCont (v199, v202) _ ⟨hHeld, (zR HO200.out), (zR HO203.out), (zK BK197), (zB1 HB GE197)⟩)
     ·skip
      refine Kd.R_make_step Kd.bool _ 4 (by rfl) (N := 21) rfl 122 _ _ rfl ji5 rfl rfl Try.underlying122 (.bool false) 1 info4 rfl (by decide) (by omega) false (ok := fun _ => True) (okp := fun _ => True) rfl (fun _ hk => hk) trivial (zd) (Nat.le_trans (Nat.mul_le_mul_right _ (zd : ji5.toNat ≤ 281474976710656)) (by omega)) (Below.refl _ _) (Nat.le_refl _) ?_
      intro v202 w12 ho13 hb hg_ hnew_
      clear hg_ hnew_
      (first | rw [← Ny201.out] at ho13 | (simp only [Int.reduceToNat] at ho13; rw [← Ny201.out] at ho13))
      have HO203 := zA (Kd.R_lower ho13 (below_size (zB1 HB GE197)))
      replace BK197 := zKb BK197 hb
      replace HB := zA (below_step (zB1 HB GE197) hb)
      clear hb ho13
      refine hK.out _ _ ⟨(blk_cell BK197.out 0).trans rfl, (blk_cell BK197.out 1).trans rfl, (blk_cell BK197.out 2).trans rfl, (blk_cell BK197.out 3).trans rfl⟩ (fun hHeld => ?_)
      clear hK K
      refine norm_ (a' := ?_) ?_ ?_
      rotate_left
      ·show Act.put _ (some 21) _ = _
       simp only [Act.put, List.setIfInBounds_toArray, List.set_cons_zero, List.set_cons_succ, i64_w, i32_w]
       rfl
      refine one_ (i := 0) (N := some 15) #[true, true, true, true, true, true, true, false, false] rfl rfl (one_of HT_.out zn) (by decide) (fun K hK => ?_)
      refine Kd.R_lit_step (Kd.int .i64) _ 3 ?hg (N := 15) ?hd (xs := ([0] : List Int)) (inner := [.int .i64 0]) (ok := fun _ => True) (okp := fun _ => True) ?hr ?hp (fun _ hk => hk) trivial (Below.refl _ _) (Nat.le_refl _) (by simp) ?_; (case hd => rfl); (case hg => rfl); (case hr => first | (go_simp; done) | (go_simp; rfl)); (case hp => exact (Reps.one (show Kd.M (Kd.int .i64) _ _ _ 0 [.int .i64 0] from rfl) (Reps.none _ _)))
      intro v199 w14 ho15 hb hg_ hnew_
      clear hg_ hnew_
      (first | rw [← Ny198.out] at ho15 | (simp only [Int.reduceToNat] at ho15; rw [← Ny198.out] at ho15))
      replace HO203 := zRb HO203 hb
      have HO200 := zA (Kd.R_lower ho15 (below_size (zB1 HB GE197)))
      replace BK197 := zKb BK197 hb
      replace HB := zA (below_step (zB1 HB GE197) hb)
      clear hb ho15
      refine hK.out _ _ ⟨(blk_cell BK197.out 0).trans rfl, (blk_cell BK197.out 1).trans rfl, (blk_cell BK197.out 2).trans rfl, (blk_cell BK197.out 3).trans rfl⟩ (fun hHeld => ?_)
      clear hK K
      refine norm_ (a' := ?_) ?_ ?_
      rotate_left
      ·show Act.put _ (some 15) _ = _
       simp only [Act.put, List.setIfInBounds_toArray, List.set_cons_zero, List.set_cons_succ, i64_w, i32_w]
       rfl
      refine zq HT_ (i := 7) (N := some 9) ?_
      exact norm_ (by simp only [putAll, Act.put, List.setIfInBounds_toArray, List.set_cons_zero, List.set_cons_succ]) (hCont (v199, v202) _ ⟨hHeld, (zR HO200.out), (zR HO203.out), (zK BK197), (zB1 HB GE197)⟩)
    rintro ⟨v199, v202⟩ w16 ⟨hS_, h0_, h1_, h2_, h3_⟩
    have n0_ : Aside0 (Kd.R (Kd.int .i64) 3 w16 w.heap.size (fun _ => True) v199 y198) := ⟨h0_⟩
    have n1_ : Aside0 (Kd.R Kd.bool 4 w16 w.heap.size (fun _ => True) v202 y201) := ⟨h1_⟩
    have n2_ : Aside0 (w16.heap[gb197]? = some (.cells #[.int .i64 a0_0, .int .i64 a0_1, .bool a0_2, .bool a0_3] 28 (0, 0))) := ⟨h2_⟩
    have n3_ : Aside0 (Below w.heap.size w w16) := ⟨h3_⟩
    clear BK197
    clear HB
    clear h0_ h1_ h2_ h3_
    have HO200 := n0_
    have HO203 := n1_
    have BK197 := n2_
    have HB := n3_
    clear n0_ n1_ n2_ n3_
    have hHeld : w16.cell? ⟨gb197, 0, none⟩ = some (.int .i64 a0_0) ∧ w16.cell? ⟨gb197, 1, none⟩ = some (.int .i64 a0_1) ∧ w16.cell? ⟨gb197, 2, none⟩ = some (.bool a0_2) ∧ w16.cell? ⟨gb197, 3, none⟩ = some (.bool a0_3) := hS_
    refine norm_ (a' := ?_) ?_ ?_
    rotate_left
    ·simp only [putAll, Act.put, List.setIfInBounds_toArray, List.set_cons_zero, List.set_cons_succ]
     rfl
    refine zq HT_ (i := 8) (N := some 10) ?_
    refine done_ (done_of HT_.out zn) ?_
    have p9 : 0 ≤ (0 : Int) := (by omega)
    have q9 : (0 : Int) < ((y201.length : Int) : Int) := zd
    have qi9 : (0 < y201.length) = True := eq_true (by omega)
    obtain ⟨go9, co9, eo9, gb9, gl9, cl9, HG9⟩ := Kd.R_form HO203.out (by omega)
    (first | cases eo9 | (injection eo9 with ea_ en_ ec_; (first | subst ea_ | (injection ea_ with ea_; subst ea_)); subst ec_; clear en_))
    have GB9 := zA gb9
    have GG9 := zA HG9
    clear gb9 gl9 HG9
    obtain ⟨hx9_0, hf9_0⟩ := Kd.R_celln false HO203.out (0 : Int) p9 q9
    (try rw [show ((0 : Int)).toNat = 0 from rfl] at hx9_0)
    (try simp only [Nat.reduceMul, Nat.zero_mul, Nat.zero_add, Nat.reduceAdd] at hx9_0)
    (try rw [show ((0 : Int)).toNat = 0 from rfl] at hf9_0)
    (try simp only [Nat.reduceMul, Nat.zero_mul, Nat.zero_add, Nat.reduceAdd] at hf9_0)
    replace p9 := eq_true p9
    replace q9 := eq_true q9
    obtain ⟨hy17_, hz17_⟩ := Kd.R_celln false HO203.out (0 : Int) (by omega) (zd)
    (try simp only [Int.reduceToNat, Int.toNat_zero, Int.toNat_ofNat, Nat.reduceMul, Nat.zero_mul, Nat.zero_add] at hy17_ hz17_)
    (try rw [show ((0 : Int)).toNat = 0 from rfl] at hy17_)
    (try rw [show ((0 : Int)).toNat = 0 from rfl] at hz17_)
    have HP17 := Kd.R_putg HO203.out (0 : Int) true
    try go_wp2_with (first | ((with_reducible refine gate_store (t := 4) (p := 23) rfl ?_); refine store_event (t := 4) (p := 23) (v := ?vo_w18) (w1 := (w16.setCell ⟨go9, (0 : Int).toNat, none⟩ (.bool true))) ?hg ?ho ?hn ?hr ?_; (case ho => rfl); (case hg => rfl); (case hn => rfl); (case hr => first | (go_simp; done) | (go_simp; rfl)); intro w18 hw; have hg : w16.grownBy w18 (some go9) := (by rw [hw]; exact HP17.2); have hp_ : Kd.R Kd.bool 4 w18 w.heap.size (fun _ => True) (.slice (some ⟨go9, 0, none⟩) y201.length co9) y204 := (by rw [hw, Ny204.out]; exact HP17.1); clear HP17; replace BK197 := zA (blk_grown (g := gb197) (o := .cells #[.int .i64 a0_0, .int .i64 a0_1, .bool a0_2, .bool a0_3] 28 (0, 0)) (zK BK197) hg (Kd.R_ne HO203.out BK197.out (by decide))); replace HO200 := zA (Kd.R_over' (v := (.slice (some ⟨go9, 0, none⟩) y201.length co9)) (zR HO200.out) (Kd.R_typed HO203.out) (by decide) hg); replace HO203 := zA (hp_); replace HB := zA ((by rw [hw]; exact below_set (HB.out) GB9.out : Below w.heap.size w w18)); clear hg hw hp_))
    go_loopg [9, 11] k (fun kq v9 v11 w' => ∃ (x9_1 : List Int) (x10_1 : List Bool) (x11_1 : Int), v11 = .int .i64 x11_1 ∧ Aside0 (impl_Around_twoSteps.l0 kq l1 l2 a3 x9_1 x10_1 x11_1 a0_0 a0_1 a0_2 a0_3 = some r) ∧ Aside0 (kq ≤ k) ∧ Aside0 (Kd.R (Kd.int .i64) 3 w' w.heap.size (fun _ => True) v9 x9_1) ∧ Aside0 (Kd.R Kd.bool 4 w' w.heap.size (fun _ => True) (.slice (some ⟨go9, 0, none⟩) y201.length co9) x10_1) ∧ Aside0 (w'.heap[gb197]? = some (.cells #[.int .i64 a0_0, .int .i64 a0_1, .bool a0_2, .bool a0_3] 28 (0, 0))) ∧ Aside0 (Below w.heap.size w w'))
    case atStart => exact ⟨(y198), (y204), (1), ze, H', ⟨Nat.le_refl _⟩, ⟨zR HO200.out⟩, ⟨zR HO203.out⟩, ⟨zK BK197⟩, ⟨zB1 HB GE197⟩⟩
    case round =>
     clear H'
     (try clear c1); (try clear c2); (try clear c6); (try clear c6b0); (try clear c6b1); (try clear c7); (try clear c7b0); (try clear c7b1); (try clear c8); (try clear c8b0); (try clear c8b1); (try clear p9 q9); (try clear qi9); (try clear hx9_0); (try clear p9 q9)
     obtain ⟨x9_1, x10_1, x11_1, rfl, HA, HK1, HO_9, HO_10, BK197, HB⟩ := hrel
     have hl10_1 := (Kd.R_reads' HO_10.out).1
     rw [hl10_1] at HO_10
     (try simp only [hl10_1])
     (try simp only [hl10_1] at BK197)
     (try simp only [hl10_1] at HO_9)
     cases gk with
     | zero => exact absurd HA.out (by simp [impl_Around_twoSteps.l0])
     | succ k1 =>
      have H := HA.out
      clear HA
      simp only [impl_Around_twoSteps.l0] at H
      by_cases c19 : a3 = 0
      ·rw [if_pos c19] at H
       exact absurd H (by simp)
      ·rw [if_neg c19] at H
       have c19b0 : (a3 == 0) = false := beq_eq_false_iff_ne.mpr c19
       have c19b1 : (a3 != 0) = true := bne_iff_ne.mpr c19
       by_cases c20 : (Int.tmod x11_1 a3) = 0
       ·rw [if_pos c20] at H
        have c20b0 : ((Int.tmod x11_1 a3) == 0) = true := beq_iff_eq.mpr c20
        have c20b1 : ((Int.tmod x11_1 a3) != 0) = false := bne_eq_false_iff_eq.mpr c20
        clear c20
        obtain ⟨ji21, hji21⟩ : ∃ j_ : Int, (wrap64 ((x9_1.length : Int) - 1)) = j_ := ⟨_, rfl⟩
        replace H : (if 0 ≤ (ji21) then (if (ji21) < (x9_1.length : Int) then (if 0 < (l2.length : Int) then (if 1 < (l2.length : Int) then ((impl_Around_step.f a0_0 a0_1 a0_2 a0_3 (rd x9_1 (ji21)) (rd l2 0) (rd l2 1)).bind fun bt208 => (if bt208.2 = true then (if 0 ≤ bt208.1 then (if bt208.1 < (x10_1.length : Int) then (if rdOf false x10_1 bt208.1 = true then (some x9_1) else (if x9_1.length < 17592186044416 then (impl_Around_twoSteps.l0 k1 l1 l2 a3 (x9_1 ++ [bt208.1]) (x10_1.set (bt208.1 : Int).toNat true) (wrap64 (x11_1 + 1)) a0_0 a0_1 a0_2 a0_3) else (none))) else (none)) else (none)) else (some x9_1))) else (none)) else (none)) else (none)) else (none)) = some r := by first | (rw [hji21] at H; exact H) | (simp only [hji21] at H ⊢; exact H)
        have hji21w : (IntKind.i64.wrap ((x9_1.length : Int) - 1)) = ji21 := (i64_w _).trans hji21
        by_cases c22 : 0 ≤ (ji21)
        ·rw [if_pos c22] at H
         have c22b0 : decide (0 ≤ (ji21)) = true := decide_eq_true c22
         clear c22
         by_cases c23 : (ji21) < (x9_1.length : Int)
         ·rw [if_pos c23] at H
          have c23b0 : decide ((ji21) < (x9_1.length : Int)) = true := decide_eq_true c23
          clear c23
          by_cases c24 : 0 < (l2.length : Int)
          ·rw [if_pos c24] at H
           have c24b0 : decide (0 < (l2.length : Int)) = true := decide_eq_true c24
           have c24b1 : decide (0 < l2.length) = true := decide_eq_true (by omega)
           clear c24
           by_cases c25 : 1 < (l2.length : Int)
           ·rw [if_pos c25] at H
            have c25b0 : decide (1 < (l2.length : Int)) = true := decide_eq_true c25
            have c25b1 : decide (1 < l2.length) = true := decide_eq_true (by omega)
            clear c25
            obtain ⟨⟨t208, t209⟩, A26, H⟩ := zM H
            try dsimp only at H
            by_cases c27 : t209 = true
            ·subst c27
             have H1 : (if 0 ≤ t208 then (if t208 < (x10_1.length : Int) then (if rdOf false x10_1 t208 = true then (some x9_1) else (if x9_1.length < 17592186044416 then (impl_Around_twoSteps.l0 k1 l1 l2 a3 (x9_1 ++ [t208]) (x10_1.set (t208 : Int).toNat true) (wrap64 (x11_1 + 1)) a0_0 a0_1 a0_2 a0_3) else (none))) else (none)) else (none)) = some r := by rw [if_pos rfl] at H; exact H
             clear H
             have H := H1
             clear H1
             by_cases c28 : 0 ≤ t208
             ·rw [if_pos c28] at H
              have c28b0 : decide (0 ≤ t208) = true := decide_eq_true c28
              clear c28
              by_cases c29 : t208 < (x10_1.length : Int)
              ·rw [if_pos c29] at H
               have c29b0 : decide (t208 < (x10_1.length : Int)) = true := decide_eq_true c29
               clear c29
               obtain ⟨bq30, hbq30⟩ : ∃ b_ : Bool, b_ = (rdOf false x10_1 t208) := ⟨_, rfl⟩
               replace H : (if bq30 = true then (some x9_1) else (if x9_1.length < 17592186044416 then (impl_Around_twoSteps.l0 k1 l1 l2 a3 (x9_1 ++ [t208]) (x10_1.set (t208 : Int).toNat true) (wrap64 (x11_1 + 1)) a0_0 a0_1 a0_2 a0_3) else (none))) = some r := by rw [← hbq30] at H; exact H
               have Nbq30 := zA hbq30
               clear hbq30
               by_cases c31 : bq30 = true
               ·subst c31
                have H1 : (some x9_1) = some r := by rw [if_pos rfl] at H; exact H
                clear H
                have H := H1
                clear H1
                obtain rfl := Option.some.inj H
                try go_wp2
                replace HO_9 := zA (Kd.R_drew HO_9.out)
                replace HO_10 := zA (Kd.R_drew HO_10.out)
                replace BK197 := zA (blk_drew BK197.out)
                replace HB := zA (below_drew1 HB.out)
                obtain ⟨Ao33, co33, eo33⟩ := Kd.R_slice HO_9.out
                (first | subst eo33 | (injection eo33 with f1_ f2_ f3_; have f4_ := f1_.symm; have f5_ := f3_.symm; clear f1_ f2_ f3_; subst f4_; subst f5_))
                have p205 : 0 ≤ ((ji21) : Int) := zd
                have q205 : (ji21) < (x9_1.length : Int) := zd
                obtain ⟨ad205, e205, hx205_0⟩ := Kd.at_int (Kd.R_reads' HO_9.out).2.2 (ji21) p205 q205
                cases e205
                replace p205 := eq_true p205
                replace q205 := eq_true q205
                have p206 : 0 ≤ (0 : Int) := (by omega)
                have q206 : 0 < (l2.length : Int) := zd
                obtain ⟨ad206, e206, hx206_0⟩ := Kd.at_int HR2.out 0 p206 q206
                have hw206_0 := hx206_0
                (try rw [show ((0 : Int)).toNat = 0 from rfl] at hw206_0)
                (try rw [show 0 * 1 = 0 from rfl] at hw206_0)
                (try rw [Addr.add_zero'] at hw206_0)
                cases e206
                have qi206 : (0 < l2.length) = True := eq_true (by omega)
                (try rw [show ((0 : Int)).toNat = 0 from rfl] at hx206_0)
                (try rw [Addr.add_zero'] at hx206_0)
                replace hx206_0 := (HB.out.cell (World.block_lt_of_cell? w _ hx206_0)).trans hx206_0
                replace p206 := eq_true p206
                replace q206 := eq_true q206
                have p207 : 0 ≤ (1 : Int) := (by omega)
                have q207 : 1 < (l2.length : Int) := zd
                obtain ⟨ad207, e207, hx207_0⟩ := Kd.at_int HR2.out 1 p207 q207
                have hw207_0 := hx207_0
                (try rw [show ((1 : Int)).toNat = 1 from rfl] at hw207_0)
                (try rw [show 1 * 1 = 1 from rfl] at hw207_0)
                (try simp only [Nat.reduceMul, Nat.reduceEqDiff, Go.Addr.add, ↓reduceIte] at hw207_0)
                obtain rfl : ad206 = ad207 := (by injection e207)
                (try simp only [show (1 : Int).toNat = 1 from rfl, Nat.reduceMul, Nat.reduceEqDiff, Go.Addr.add, ↓reduceIte] at hx207_0)
                have qi207 : (1 < l2.length) = True := eq_true (by omega)
                (try rw [show ((1 : Int)).toNat = 1 from rfl] at hx207_0)
                replace hx207_0 := (HB.out.cell (World.block_lt_of_cell? w _ hx207_0)).trans hx207_0
                replace p207 := eq_true p207
                replace q207 := eq_true q207
                refine start_ (n := 19) (S := fun w' => w'.cell? ⟨gb197, 0, none⟩ = some (.int .i64 a0_0) ∧ w'.cell? ⟨gb197, 1, none⟩ = some (.int .i64 a0_1) ∧ w'.cell? ⟨gb197, 2, none⟩ = some (.bool a0_2) ∧ w'.cell? ⟨gb197, 3, none⟩ = some (.bool a0_3) ∧ w'.cell? (ad205.add ((ji21)).toNat) = some (.int .i64 (rd x9_1 (ji21))) ∧ w'.cell? ad206 = some (.int .i64 (rd l2 0)) ∧ w'.cell? ⟨ad206.block, ad206.off + 1, none⟩ = some (.int .i64 (rd l2 1))) (ds := []) #[false, false, false, false, false, false, false, false, false, false, false, false, false, false, false, false, false, false, false] zn rfl rfl ⟨(blk_cell BK197.out 0).trans rfl, (blk_cell BK197.out 1).trans rfl, (blk_cell BK197.out 2).trans rfl, (blk_cell BK197.out 3).trans rfl, hx205_0, ((HB.out.cell (World.block_lt_of_cell? w _ hw206_0)).trans hw206_0), ((HB.out.cell (World.block_lt_of_cell? w _ hw207_0)).trans hw207_0)⟩ (fun hHeld => ?_); refine with_tabW impl_Around_twoSteps.tab8 impl_Around_twoSteps.bits8 (fun HT_ HW_ => ?_)
                generalize wr.drew = w32 at HO_9 HO_10 BK197 HB hx205_0 hx206_0 hx207_0 hHeld ⊢
                refine zq HT_ (i := 1) (N := some 34) ?_
                refine zq HT_ (i := 2) (N := some 35) ?_
                refine zq HT_ (i := 3) (N := some 36) ?_
                refine zq HT_ (i := 4) (N := some 37) ?_
                refine zq HT_ (i := 5) (N := some 38) ?_
                refine zq HT_ (i := 7) (N := some 40) ?_
                refine zq HT_ (i := 8) (N := some 41) ?_
                refine zq HT_ (i := 10) (N := some 43) ?_
                refine zq HT_ (i := 11) (N := some 44) ?_
                refine zx7 HT_ HW_ hHeld (i := 0) (N := some 33) ?_
                refine zx7 HT_ HW_ hHeld (i := 6) (N := some 39) ?_
                refine zx7 HT_ HW_ hHeld (i := 9) (N := some 42) ?_
                refine zx7 HT_ HW_ hHeld (i := 12) (N := some 45) ?_
                refine one_ (i := 13) (N := some 46) #[true, true, true, true, true, true, true, true, true, true, true, true, true, true, false, false, false, false, false] rfl rfl (one_of HT_.out zn) (by decide) (fun K hK => ?_)
                refine goes_ Try.func94 zn rfl #[.agg #[.int .i64 a0_0, .int .i64 a0_1, .bool a0_2, .bool a0_3], .int .i64 (rd x9_1 (ji21)), .int .i64 (rd l2 0), .int .i64 (rd l2 1)] (by rfl) rfl rfl (by (try simp only [List.map_toArray, List.map_cons, List.map_nil]); first | done | (simp only [hji21]; rfl) | rfl | (simp only [List.length_drop, List.length_take]; rfl)) ?_
                with_reducible refine (impl_Around_step.calls a0_0 a0_1 a0_2 a0_3 (rd x9_1 (ji21)) (rd l2 0) (rd l2 1) t208 true _ A26.out).mono ?_
                rintro e w34 ⟨rfl, hb⟩
                have HS4_ := (hb.cell (World.block_lt_of_cell? _ _ (hHeld.2.2.2.2.1))).trans (hHeld.2.2.2.2.1)
                refine ⟨_, rfl, ?_⟩
                replace HO_9 := zRb HO_9 hb
                replace HO_10 := zRb HO_10 hb
                replace BK197 := zKb BK197 hb
                replace HB := zA (below_step (zB1 HB GE197) hb)
                (try clear hb)
                refine hK.out _ _ ⟨(blk_cell BK197.out 0).trans rfl, (blk_cell BK197.out 1).trans rfl, (blk_cell BK197.out 2).trans rfl, (blk_cell BK197.out 3).trans rfl, HS4_, ((HB.out.cell (World.block_lt_of_cell? w _ hw206_0)).trans hw206_0), ((HB.out.cell (World.block_lt_of_cell? w _ hw207_0)).trans hw207_0)⟩ (fun hHeld => ?_)
                clear hK K
                refine norm_ (a' := ?_) ?_ ?_
                rotate_left
                ·show Act.put _ (some 46) _ = _
                 simp only [Act.put, List.setIfInBounds_toArray, List.set_cons_zero, List.set_cons_succ, i64_w, i32_w]
                 rfl
                refine zq HT_ (i := 14) (N := some 32) ?_
                refine zq HT_ (i := 15) (N := some 47) ?_
                refine zq HT_ (i := 16) (N := some 48) ?_
                refine zq HT_ (i := 17) (N := some 13) ?_
                refine zq HT_ (i := 18) (N := some 14) ?_
                refine done_ (done_of HT_.out zn) ?_
                have p210 : 0 ≤ (t208 : Int) := zd
                have q210 : t208 < (x10_1.length : Int) := zd
                obtain ⟨ad210, e210, hx210_0⟩ := Kd.at_bool (Kd.R_reads' HO_10.out).2.2 t208 p210 q210
                (try rw [← Nbq30.out] at hx210_0)
                obtain rfl : (⟨go9, 0, none⟩ : Addr) = ad210 := (by injection e210)
                (first | simp only [add_plain] at hx210_0 | simp only [add_at] at hx210_0 | simp only [Addr.add, Nat.zero_add] at hx210_0 | skip)
                replace p210 := eq_true p210
                replace q210 := eq_true q210
                try go_wp2
                go_ret
                exact ⟨_, by first | rfl | (simp [errW_none, errW_some] <;> rfl) | (simp only [← hji5, ← hji21]; first | rfl | (simp [errW_none, errW_some] <;> rfl)) | (simp [*, errW_none, errW_some] <;> rfl), by (with_reducible repeat (first | apply Kd.R_alloc | apply Kd.R_drewN | apply Kd.R_drew)); exact HO_9.out, zB1 HB GE197⟩
               ·replace c31 := Bool.eq_false_iff.mpr c31
                subst c31
                have H1 : (if x9_1.length < 17592186044416 then (impl_Around_twoSteps.l0 k1 l1 l2 a3 (x9_1 ++ [t208]) (x10_1.set (t208 : Int).toNat true) (wrap64 (x11_1 + 1)) a0_0 a0_1 a0_2 a0_3) else (none)) = some r := by rw [if_neg (show ¬ (false = true) by decide)] at H; exact H
                clear H
                have H := H1
                clear H1
                obtain ⟨y211, hy211⟩ : ∃ y_ : List Bool, y_ = (x10_1.set (t208 : Int).toNat true) := ⟨_, rfl⟩
                replace H : (if x9_1.length < 17592186044416 then (impl_Around_twoSteps.l0 k1 l1 l2 a3 (x9_1 ++ [t208]) y211 (wrap64 (x11_1 + 1)) a0_0 a0_1 a0_2 a0_3) else (none)) = some r := by first | (rw [hy211]; with_reducible exact H) | (have H2_ := (Option.bind_some _ _).symm.trans H; rw [hy211]; with_reducible exact H2_) | (have H2_ := (Option.bind_some _ _).symm.trans H; with_reducible exact H2_) | with_reducible exact H | (rw [hy211]; exact H) | exact H
                have Ny211 := zA hy211
                clear hy211
                by_cases c36 : x9_1.length < 17592186044416
                ·rw [if_pos c36] at H
                 have LMc36 := zA c36
                 clear c36
                 obtain ⟨y212, hy212⟩ : ∃ y_ : List Int, y_ = (x9_1 ++ [t208]) := ⟨_, rfl⟩
                 replace H : (impl_Around_twoSteps.l0 k1 l1 l2 a3 y212 y211 (wrap64 (x11_1 + 1)) a0_0 a0_1 a0_2 a0_3) = some r := by first | (rw [hy212]; with_reducible exact H) | (have H2_ := (Option.bind_some _ _).symm.trans H; rw [hy212]; with_reducible exact H2_) | (have H2_ := (Option.bind_some _ _).symm.trans H; with_reducible exact H2_) | with_reducible exact H | (rw [hy212]; exact H) | exact H
                 have Ny212 := zA hy212
                 clear hy212
                 have H' := zA H
                 clear H
                 try go_wp2
                 replace HO_9 := zA (Kd.R_drew HO_9.out)
                 replace HO_10 := zA (Kd.R_drew HO_10.out)
                 replace BK197 := zA (blk_drew BK197.out)
                 replace HB := zA (below_drew1 HB.out)
                 obtain ⟨Ao38, co38, eo38⟩ := Kd.R_slice HO_9.out
                 (first | subst eo38 | (injection eo38 with f1_ f2_ f3_; have f4_ := f1_.symm; have f5_ := f3_.symm; clear f1_ f2_ f3_; subst f4_; subst f5_))
                 have p205 : 0 ≤ ((ji21) : Int) := zd
                 have q205 : (ji21) < (x9_1.length : Int) := zd
                 obtain ⟨ad205, e205, hx205_0⟩ := Kd.at_int (Kd.R_reads' HO_9.out).2.2 (ji21) p205 q205
                 cases e205
                 replace p205 := eq_true p205
                 replace q205 := eq_true q205
                 have p206 : 0 ≤ (0 : Int) := (by omega)
                 have q206 : 0 < (l2.length : Int) := zd
                 obtain ⟨ad206, e206, hx206_0⟩ := Kd.at_int HR2.out 0 p206 q206
                 have hw206_0 := hx206_0
                 (try rw [show ((0 : Int)).toNat = 0 from rfl] at hw206_0)
                 (try rw [show 0 * 1 = 0 from rfl] at hw206_0)
                 (try rw [Addr.add_zero'] at hw206_0)
                 cases e206
                 have qi206 : (0 < l2.length) = True := eq_true (by omega)
                 (try rw [show ((0 : Int)).toNat = 0 from rfl] at hx206_0)
                 (try rw [Addr.add_zero'] at hx206_0)
                 replace hx206_0 := (HB.out.cell (World.block_lt_of_cell? w _ hx206_0)).trans hx206_0
                 replace p206 := eq_true p206
                 replace q206 := eq_true q206
                 have p207 : 0 ≤ (1 : Int) := (by omega)
                 have q207 : 1 < (l2.length : Int) := zd
                 obtain ⟨ad207, e207, hx207_0⟩ := Kd.at_int HR2.out 1 p207 q207
                 have hw207_0 := hx207_0
                 (try rw [show ((1 : Int)).toNat = 1 from rfl] at hw207_0)
                 (try rw [show 1 * 1 = 1 from rfl] at hw207_0)
                 (try simp only [Nat.reduceMul, Nat.reduceEqDiff, Go.Addr.add, ↓reduceIte] at hw207_0)
                 obtain rfl : ad206 = ad207 := (by injection e207)
                 (try simp only [show (1 : Int).toNat = 1 from rfl, Nat.reduceMul, Nat.reduceEqDiff, Go.Addr.add, ↓reduceIte] at hx207_0)
                 have qi207 : (1 < l2.length) = True := eq_true (by omega)
                 (try rw [show ((1 : Int)).toNat = 1 from rfl] at hx207_0)
                 replace hx207_0 := (HB.out.cell (World.block_lt_of_cell? w _ hx207_0)).trans hx207_0
                 replace p207 := eq_true p207
                 replace q207 := eq_true q207
                 refine start_ (n := 19) (S := fun w' => w'.cell? ⟨gb197, 0, none⟩ = some (.int .i64 a0_0) ∧ w'.cell? ⟨gb197, 1, none⟩ = some (.int .i64 a0_1) ∧ w'.cell? ⟨gb197, 2, none⟩ = some (.bool a0_2) ∧ w'.cell? ⟨gb197, 3, none⟩ = some (.bool a0_3) ∧ w'.cell? (ad205.add ((ji21)).toNat) = some (.int .i64 (rd x9_1 (ji21))) ∧ w'.cell? ad206 = some (.int .i64 (rd l2 0)) ∧ w'.cell? ⟨ad206.block, ad206.off + 1, none⟩ = some (.int .i64 (rd l2 1))) (ds := []) #[false, false, false, false, false, false, false, false, false, false, false, false, false, false, false, false, false, false, false] zn rfl rfl ⟨(blk_cell BK197.out 0).trans rfl, (blk_cell BK197.out 1).trans rfl, (blk_cell BK197.out 2).trans rfl, (blk_cell BK197.out 3).trans rfl, hx205_0, ((HB.out.cell (World.block_lt_of_cell? w _ hw206_0)).trans hw206_0), ((HB.out.cell (World.block_lt_of_cell? w _ hw207_0)).trans hw207_0)⟩ (fun hHeld => ?_); refine with_tabW impl_Around_twoSteps.tab8 impl_Around_twoSteps.bits8 (fun HT_ HW_ => ?_)
                 generalize wr.drew = w37 at HO_9 HO_10 BK197 HB hx205_0 hx206_0 hx207_0 hHeld ⊢
                 refine zq HT_ (i := 1) (N := some 34) ?_
                 refine zq HT_ (i := 2) (N := some 35) ?_
                 refine zq HT_ (i := 3) (N := some 36) ?_
                 refine zq HT_ (i := 4) (N := some 37) ?_
                 refine zq HT_ (i := 5) (N := some 38) ?_
                 refine zq HT_ (i := 7) (N := some 40) ?_
                 refine zq HT_ (i := 8) (N := some 41) ?_
                 refine zq HT_ (i := 10) (N := some 43) ?_
                 refine zq HT_ (i := 11) (N := some 44) ?_
                 refine zx7 HT_ HW_ hHeld (i := 0) (N := some 33) ?_
                 refine zx7 HT_ HW_ hHeld (i := 6) (N := some 39) ?_
                 refine zx7 HT_ HW_ hHeld (i := 9) (N := some 42) ?_
                 refine zx7 HT_ HW_ hHeld (i := 12) (N := some 45) ?_
                 refine one_ (i := 13) (N := some 46) #[true, true, true, true, true, true, true, true, true, true, true, true, true, true, false, false, false, false, false] rfl rfl (one_of HT_.out zn) (by decide) (fun K hK => ?_)
                 refine goes_ Try.func94 zn rfl #[.agg #[.int .i64 a0_0, .int .i64 a0_1, .bool a0_2, .bool a0_3], .int .i64 (rd x9_1 (ji21)), .int .i64 (rd l2 0), .int .i64 (rd l2 1)] (by rfl) rfl rfl (by (try simp only [List.map_toArray, List.map_cons, List.map_nil]); first | done | (simp only [hji21]; rfl) | rfl | (simp only [List.length_drop, List.length_take]; rfl)) ?_
                 with_reducible refine (impl_Around_step.calls a0_0 a0_1 a0_2 a0_3 (rd x9_1 (ji21)) (rd l2 0) (rd l2 1) t208 true _ A26.out).mono ?_
                 rintro e w39 ⟨rfl, hb⟩
                 have HS4_ := (hb.cell (World.block_lt_of_cell? _ _ (hHeld.2.2.2.2.1))).trans (hHeld.2.2.2.2.1)
                 refine ⟨_, rfl, ?_⟩
                 replace HO_9 := zRb HO_9 hb
                 replace HO_10 := zRb HO_10 hb
                 replace BK197 := zKb BK197 hb
                 replace HB := zA (below_step (zB1 HB GE197) hb)
                 (try clear hb)
                 refine hK.out _ _ ⟨(blk_cell BK197.out 0).trans rfl, (blk_cell BK197.out 1).trans rfl, (blk_cell BK197.out 2).trans rfl, (blk_cell BK197.out 3).trans rfl, HS4_, ((HB.out.cell (World.block_lt_of_cell? w _ hw206_0)).trans hw206_0), ((HB.out.cell (World.block_lt_of_cell? w _ hw207_0)).trans hw207_0)⟩ (fun hHeld => ?_)
                 clear hK K
                 refine norm_ (a' := ?_) ?_ ?_
                 rotate_left
                 ·show Act.put _ (some 46) _ = _
                  simp only [Act.put, List.setIfInBounds_toArray, List.set_cons_zero, List.set_cons_succ, i64_w, i32_w]
                  rfl
                 refine zq HT_ (i := 14) (N := some 32) ?_
                 refine zq HT_ (i := 15) (N := some 47) ?_
                 refine zq HT_ (i := 16) (N := some 48) ?_
                 refine zq HT_ (i := 17) (N := some 13) ?_
                 refine zq HT_ (i := 18) (N := some 14) ?_
                 refine done_ (done_of HT_.out zn) ?_
                 have p210 : 0 ≤ (t208 : Int) := zd
                 have q210 : t208 < (x10_1.length : Int) := zd
                 obtain ⟨ad210, e210, hx210_0⟩ := Kd.at_bool (Kd.R_reads' HO_10.out).2.2 t208 p210 q210
                 (try rw [← Nbq30.out] at hx210_0)
                 obtain rfl : (⟨go9, 0, none⟩ : Addr) = ad210 := (by injection e210)
                 (first | simp only [add_plain] at hx210_0 | simp only [add_at] at hx210_0 | simp only [Addr.add, Nat.zero_add] at hx210_0 | skip)
                 replace p210 := eq_true p210
                 replace q210 := eq_true q210
                 have p35 : 0 ≤ (t208 : Int) := zd
                 have q35 : (t208 : Int) < ((x10_1.length : Int) : Int) := zd
                 obtain ⟨hx35_0, hf35_0⟩ := Kd.R_celln false HO_10.out (t208 : Int) p35 q35
                 replace p35 := eq_true p35
                 replace q35 := eq_true q35
                 obtain ⟨hy40_, hz40_⟩ := Kd.R_celln false HO_10.out (t208 : Int) (zd) (zd)
                 have HP40 := Kd.R_putg HO_10.out (t208 : Int) true
                 try go_wp2_with (first | ((with_reducible refine gate_store (t := 4) (p := 60) rfl ?_); refine store_event (t := 4) (p := 60) (v := ?vo_w41) (w1 := (w39.setCell ⟨go9, (t208 : Int).toNat, none⟩ (.bool true))) ?hg ?ho ?hn ?hr ?_; (case ho => rfl); (case hg => rfl); (case hn => rfl); (case hr => first | (go_simp; done) | (go_simp; rfl)); intro w41 hw; have hg : w39.grownBy w41 (some go9) := (by rw [hw]; exact HP40.2); have hp_ : Kd.R Kd.bool 4 w41 w.heap.size (fun _ => True) (.slice (some ⟨go9, 0, none⟩) x10_1.length co9) y211 := (by rw [hw, Ny211.out]; exact HP40.1); clear HP40; replace HO_9 := zA (Kd.R_over' (v := (.slice (some ⟨go9, 0, none⟩) x10_1.length co9)) (zR HO_9.out) (Kd.R_typed HO_10.out) (by decide) hg); replace BK197 := zA (blk_grown (g := gb197) (o := .cells #[.int .i64 a0_0, .int .i64 a0_1, .bool a0_2, .bool a0_3] 28 (0, 0)) (zK BK197) hg (Kd.R_ne HO_10.out BK197.out (by decide))); replace HO_10 := zA (hp_); replace HB := zA ((by rw [hw]; exact below_set (HB.out) GB9.out : Below w.heap.size w w41)); clear hg hw hp_) | ((with_reducible refine gate_builtin (b := .append) (xs := #[.tmp 61, .tmp 63]) rfl ?_); at_builtin; refine Kd.R_append (Kd.int .i64) (w0 := w) w.heap.size rfl (.tmp 61) (.tmp 63) 33 3 (.int .i64 0) 8 rfl Try.underlying33 info3 rfl (by decide) (by omega) (.slice (some ad205) x9_1.length co38) x9_1 t208 [.int .i64 t208] (fun _ => True) (fun _ => False) rfl rfl ?aP (fun _ hk => hk.elim) ?aF ?aO ?aB ?aS ?aL ?_; (case aP => exact rfl); (case aB => exact (zB1 HB GE197)); (case aF => exact (fun _ _ => trivial)); (case aO => exact (zR HO_9.out)); (case aS => exact (below_size (zB1 HB GE197))); (case aL => have := LMc36.out; omega); intro v213 w42 ho hb hg hat; rw [← Ny212.out] at ho; have n0_ := zA (Kd.R_over' (zR HO_10.out) (Kd.R_typed (zR HO_9.out)) (by decide) hg); have n1_ := zA (blk_grown (g := gb197) (o := .cells #[.int .i64 a0_0, .int .i64 a0_1, .bool a0_2, .bool a0_3] 28 (0, 0)) (zK BK197) hg (Kd.R_ne HO_9.out BK197.out (by decide))); have n2_ := zA (hb); have n3_ := zA (ho); clear HO_10; clear BK197; clear HB; clear HO_9; have HO_10 := n0_; have BK197 := n1_; have HB := n2_; have HO214 := n3_; clear n0_ n1_ n2_ n3_; clear ho hb hg hat))
                 (try simp only [← hl10_1])
                 go_roundg k1
                 case measure => have := HK1.out; omega
                 case rel => exact ⟨(y212), (y211), (wrap64 (x11_1 + 1)), ze, H', ⟨by have := HK1.out; omega⟩, ⟨by (try simp only [hl10_1]); (with_reducible repeat (first | apply Kd.R_alloc | apply Kd.R_drewN | apply Kd.R_drew)); exact HO214.out⟩, ⟨by (try simp only [hl10_1]); (with_reducible repeat (first | apply Kd.R_alloc | apply Kd.R_drewN | apply Kd.R_drew)); exact HO_10.out⟩, ⟨by (try simp only [hl10_1]); (with_reducible repeat (first | refine blk_drewN ?_ _ | refine blk_drew ?_ | refine blk_alloc ?_ _)); exact BK197.out⟩, ⟨zB1 HB GE197⟩⟩
                ·rw [if_neg c36] at H
                 exact absurd H (by simp)
              ·rw [if_neg c29] at H
               exact absurd H (by simp)
             ·rw [if_neg c28] at H
              exact absurd H (by simp)
            ·replace c27 := Bool.eq_false_iff.mpr c27
             subst c27
             have H1 : (some x9_1) = some r := by rw [if_neg (show ¬ (false = true) by decide)] at H; exact H
             clear H
             have H := H1
             clear H1
             obtain rfl := Option.some.inj H
             try go_wp2
             replace HO_9 := zA (Kd.R_drew HO_9.out)
             replace HO_10 := zA (Kd.R_drew HO_10.out)
             replace BK197 := zA (blk_drew BK197.out)
             replace HB := zA (below_drew1 HB.out)
             obtain ⟨Ao44, co44, eo44⟩ := Kd.R_slice HO_9.out
             (first | subst eo44 | (injection eo44 with f1_ f2_ f3_; have f4_ := f1_.symm; have f5_ := f3_.symm; clear f1_ f2_ f3_; subst f4_; subst f5_))
             have p205 : 0 ≤ ((ji21) : Int) := zd
             have q205 : (ji21) < (x9_1.length : Int) := zd
             obtain ⟨ad205, e205, hx205_0⟩ := Kd.at_int (Kd.R_reads' HO_9.out).2.2 (ji21) p205 q205
             cases e205
             replace p205 := eq_true p205
             replace q205 := eq_true q205
             have p206 : 0 ≤ (0 : Int) := (by omega)
             have q206 : 0 < (l2.length : Int) := zd
             obtain ⟨ad206, e206, hx206_0⟩ := Kd.at_int HR2.out 0 p206 q206
             have hw206_0 := hx206_0
             (try rw [show ((0 : Int)).toNat = 0 from rfl] at hw206_0)
             (try rw [show 0 * 1 = 0 from rfl] at hw206_0)
             (try rw [Addr.add_zero'] at hw206_0)
             cases e206
             have qi206 : (0 < l2.length) = True := eq_true (by omega)
             (try rw [show ((0 : Int)).toNat = 0 from rfl] at hx206_0)
             (try rw [Addr.add_zero'] at hx206_0)
             replace hx206_0 := (HB.out.cell (World.block_lt_of_cell? w _ hx206_0)).trans hx206_0
             replace p206 := eq_true p206
             replace q206 := eq_true q206
             have p207 : 0 ≤ (1 : Int) := (by omega)
             have q207 : 1 < (l2.length : Int) := zd
             obtain ⟨ad207, e207, hx207_0⟩ := Kd.at_int HR2.out 1 p207 q207
             have hw207_0 := hx207_0
             (try rw [show ((1 : Int)).toNat = 1 from rfl] at hw207_0)
             (try rw [show 1 * 1 = 1 from rfl] at hw207_0)
             (try simp only [Nat.reduceMul, Nat.reduceEqDiff, Go.Addr.add, ↓reduceIte] at hw207_0)
             obtain rfl : ad206 = ad207 := (by injection e207)
             (try simp only [show (1 : Int).toNat = 1 from rfl, Nat.reduceMul, Nat.reduceEqDiff, Go.Addr.add, ↓reduceIte] at hx207_0)
             have qi207 : (1 < l2.length) = True := eq_true (by omega)
             (try rw [show ((1 : Int)).toNat = 1 from rfl] at hx207_0)
             replace hx207_0 := (HB.out.cell (World.block_lt_of_cell? w _ hx207_0)).trans hx207_0
             replace p207 := eq_true p207
             replace q207 := eq_true q207
             refine start_ (n := 19) (S := fun w' => w'.cell? ⟨gb197, 0, none⟩ = some (.int .i64 a0_0) ∧ w'.cell? ⟨gb197, 1, none⟩ = some (.int .i64 a0_1) ∧ w'.cell? ⟨gb197, 2, none⟩ = some (.bool a0_2) ∧ w'.cell? ⟨gb197, 3, none⟩ = some (.bool a0_3) ∧ w'.cell? (ad205.add ((ji21)).toNat) = some (.int .i64 (rd x9_1 (ji21))) ∧ w'.cell? ad206 = some (.int .i64 (rd l2 0)) ∧ w'.cell? ⟨ad206.block, ad206.off + 1, none⟩ = some (.int .i64 (rd l2 1))) (ds := []) #[false, false, false, false, false, false, false, false, false, false, false, false, false, false, false, false, false, false, false] zn rfl rfl ⟨(blk_cell BK197.out 0).trans rfl, (blk_cell BK197.out 1).trans rfl, (blk_cell BK197.out 2).trans rfl, (blk_cell BK197.out 3).trans rfl, hx205_0, ((HB.out.cell (World.block_lt_of_cell? w _ hw206_0)).trans hw206_0), ((HB.out.cell (World.block_lt_of_cell? w _ hw207_0)).trans hw207_0)⟩ (fun hHeld => ?_); refine with_tabW impl_Around_twoSteps.tab8 impl_Around_twoSteps.bits8 (fun HT_ HW_ => ?_)
             generalize wr.drew = w43 at HO_9 HO_10 BK197 HB hx205_0 hx206_0 hx207_0 hHeld ⊢
             refine zq HT_ (i := 1) (N := some 34) ?_
             refine zq HT_ (i := 2) (N := some 35) ?_
             refine zq HT_ (i := 3) (N := some 36) ?_
             refine zq HT_ (i := 4) (N := some 37) ?_
             refine zq HT_ (i := 5) (N := some 38) ?_
             refine zq HT_ (i := 7) (N := some 40) ?_
             refine zq HT_ (i := 8) (N := some 41) ?_
             refine zq HT_ (i := 10) (N := some 43) ?_
             refine zq HT_ (i := 11) (N := some 44) ?_
             refine zx7 HT_ HW_ hHeld (i := 0) (N := some 33) ?_
             refine zx7 HT_ HW_ hHeld (i := 6) (N := some 39) ?_
             refine zx7 HT_ HW_ hHeld (i := 9) (N := some 42) ?_
             refine zx7 HT_ HW_ hHeld (i := 12) (N := some 45) ?_
             refine one_ (i := 13) (N := some 46) #[true, true, true, true, true, true, true, true, true, true, true, true, true, true, false, false, false, false, false] rfl rfl (one_of HT_.out zn) (by decide) (fun K hK => ?_)
             refine goes_ Try.func94 zn rfl #[.agg #[.int .i64 a0_0, .int .i64 a0_1, .bool a0_2, .bool a0_3], .int .i64 (rd x9_1 (ji21)), .int .i64 (rd l2 0), .int .i64 (rd l2 1)] (by rfl) rfl rfl (by (try simp only [List.map_toArray, List.map_cons, List.map_nil]); first | done | (simp only [hji21]; rfl) | rfl | (simp only [List.length_drop, List.length_take]; rfl)) ?_
             with_reducible refine (impl_Around_step.calls a0_0 a0_1 a0_2 a0_3 (rd x9_1 (ji21)) (rd l2 0) (rd l2 1) t208 false _ A26.out).mono ?_
             rintro e w45 ⟨rfl, hb⟩
             have HS4_ := (hb.cell (World.block_lt_of_cell? _ _ (hHeld.2.2.2.2.1))).trans (hHeld.2.2.2.2.1)
             refine ⟨_, rfl, ?_⟩
             replace HO_9 := zRb HO_9 hb
             replace HO_10 := zRb HO_10 hb
             replace BK197 := zKb BK197 hb
             replace HB := zA (below_step (zB1 HB GE197) hb)
             (try clear hb)
             refine hK.out _ _ ⟨(blk_cell BK197.out 0).trans rfl, (blk_cell BK197.out 1).trans rfl, (blk_cell BK197.out 2).trans rfl, (blk_cell BK197.out 3).trans rfl, HS4_, ((HB.out.cell (World.block_lt_of_cell? w _ hw206_0)).trans hw206_0), ((HB.out.cell (World.block_lt_of_cell? w _ hw207_0)).trans hw207_0)⟩ (fun hHeld => ?_)
             clear hK K
             refine norm_ (a' := ?_) ?_ ?_
             rotate_left
             ·show Act.put _ (some 46) _ = _
              simp only [Act.put, List.setIfInBounds_toArray, List.set_cons_zero, List.set_cons_succ, i64_w, i32_w]
              rfl
             refine zq HT_ (i := 14) (N := some 32) ?_
             refine zq HT_ (i := 15) (N := some 47) ?_
             refine zq HT_ (i := 16) (N := some 48) ?_
             refine zq HT_ (i := 17) (N := some 13) ?_
             refine zq HT_ (i := 18) (N := some 14) ?_
             refine done_ (done_of HT_.out zn) ?_
             try go_wp2
             go_ret
             exact ⟨_, by first | rfl | (simp [errW_none, errW_some] <;> rfl) | (simp only [← hji5, ← hji21]; first | rfl | (simp [errW_none, errW_some] <;> rfl)) | (simp [*, errW_none, errW_some] <;> rfl), by (with_reducible repeat (first | apply Kd.R_alloc | apply Kd.R_drewN | apply Kd.R_drew)); exact HO_9.out, zB1 HB GE197⟩
           ·rw [if_neg c25] at H
            exact absurd H (by simp)
          ·rw [if_neg c24] at H
           exact absurd H (by simp)
         ·rw [if_neg c23] at H
          exact absurd H (by simp)
        ·rw [if_neg c22] at H
         exact absurd H (by simp)
       ·rw [if_neg c20] at H
        have c20b0 : ((Int.tmod x11_1 a3) == 0) = false := beq_eq_false_iff_ne.mpr c20
        have c20b1 : ((Int.tmod x11_1 a3) != 0) = true := bne_iff_ne.mpr c20
        obtain ⟨ji46, hji46⟩ : ∃ j_ : Int, (wrap64 ((x9_1.length : Int) - 1)) = j_ := ⟨_, rfl⟩
        replace H : (if 0 ≤ (ji46) then (if (ji46) < (x9_1.length : Int) then (if 0 < (l1.length : Int) then (if 1 < (l1.length : Int) then ((impl_Around_step.f a0_0 a0_1 a0_2 a0_3 (rd x9_1 (ji46)) (rd l1 0) (rd l1 1)).bind fun bt218 => (if bt218.2 = true then (if 0 ≤ bt218.1 then (if bt218.1 < (x10_1.length : Int) then (if rdOf false x10_1 bt218.1 = true then (some x9_1) else (if x9_1.length < 17592186044416 then (impl_Around_twoSteps.l0 k1 l1 l2 a3 (x9_1 ++ [bt218.1]) (x10_1.set (bt218.1 : Int).toNat true) (wrap64 (x11_1 + 1)) a0_0 a0_1 a0_2 a0_3) else (none))) else (none)) else (none)) else (some x9_1))) else (none)) else (none)) else (none)) else (none)) = some r := by first | (rw [hji46] at H; exact H) | (simp only [hji46] at H ⊢; exact H)
        have hji46w : (IntKind.i64.wrap ((x9_1.length : Int) - 1)) = ji46 := (i64_w _).trans hji46
        by_cases c47 : 0 ≤ (ji46)
        ·rw [if_pos c47] at H
         have c47b0 : decide (0 ≤ (ji46)) = true := decide_eq_true c47
         clear c47
         by_cases c48 : (ji46) < (x9_1.length : Int)
         ·rw [if_pos c48] at H
          have c48b0 : decide ((ji46) < (x9_1.length : Int)) = true := decide_eq_true c48
          clear c48
          by_cases c49 : 0 < (l1.length : Int)
          ·rw [if_pos c49] at H
           have c49b0 : decide (0 < (l1.length : Int)) = true := decide_eq_true c49
           have c49b1 : decide (0 < l1.length) = true := decide_eq_true (by omega)
           clear c49
           by_cases c50 : 1 < (l1.length : Int)
           ·rw [if_pos c50] at H
            have c50b0 : decide (1 < (l1.length : Int)) = true := decide_eq_true c50
            have c50b1 : decide (1 < l1.length) = true := decide_eq_true (by omega)
            clear c50
            obtain ⟨⟨t218, t219⟩, A51, H⟩ := zM H
            try dsimp only at H
            by_cases c52 : t219 = true
            ·subst c52
             have H1 : (if 0 ≤ t218 then (if t218 < (x10_1.length : Int) then (if rdOf false x10_1 t218 = true then (some x9_1) else (if x9_1.length < 17592186044416 then (impl_Around_twoSteps.l0 k1 l1 l2 a3 (x9_1 ++ [t218]) (x10_1.set (t218 : Int).toNat true) (wrap64 (x11_1 + 1)) a0_0 a0_1 a0_2 a0_3) else (none))) else (none)) else (none)) = some r := by rw [if_pos rfl] at H; exact H
             clear H
             have H := H1
             clear H1
             by_cases c53 : 0 ≤ t218
             ·rw [if_pos c53] at H
              have c53b0 : decide (0 ≤ t218) = true := decide_eq_true c53
              clear c53
              by_cases c54 : t218 < (x10_1.length : Int)
              ·rw [if_pos c54] at H
               have c54b0 : decide (t218 < (x10_1.length : Int)) = true := decide_eq_true c54
               clear c54
               obtain ⟨bq55, hbq55⟩ : ∃ b_ : Bool, b_ = (rdOf false x10_1 t218) := ⟨_, rfl⟩
               replace H : (if bq55 = true then (some x9_1) else (if x9_1.length < 17592186044416 then (impl_Around_twoSteps.l0 k1 l1 l2 a3 (x9_1 ++ [t218]) (x10_1.set (t218 : Int).toNat true) (wrap64 (x11_1 + 1)) a0_0 a0_1 a0_2 a0_3) else (none))) = some r := by rw [← hbq55] at H; exact H
               have Nbq55 := zA hbq55
               clear hbq55
               by_cases c56 : bq55 = true
               ·subst c56
                have H1 : (some x9_1) = some r := by rw [if_pos rfl] at H; exact H
                clear H
                have H := H1
                clear H1
                obtain rfl := Option.some.inj H
                try go_wp2
                replace HO_9 := zA (Kd.R_drew HO_9.out)
                replace HO_10 := zA (Kd.R_drew HO_10.out)
                replace BK197 := zA (blk_drew BK197.out)
                replace HB := zA (below_drew1 HB.out)
                obtain ⟨Ao58, co58, eo58⟩ := Kd.R_slice HO_9.out
                (first | subst eo58 | (injection eo58 with f1_ f2_ f3_; have f4_ := f1_.symm; have f5_ := f3_.symm; clear f1_ f2_ f3_; subst f4_; subst f5_))
                have p215 : 0 ≤ ((ji46) : Int) := zd
                have q215 : (ji46) < (x9_1.length : Int) := zd
                obtain ⟨ad215, e215, hx215_0⟩ := Kd.at_int (Kd.R_reads' HO_9.out).2.2 (ji46) p215 q215
                cases e215
                replace p215 := eq_true p215
                replace q215 := eq_true q215
                have p216 : 0 ≤ (0 : Int) := (by omega)
                have q216 : 0 < (l1.length : Int) := zd
                obtain ⟨ad216, e216, hx216_0⟩ := Kd.at_int HR1.out 0 p216 q216
                have hw216_0 := hx216_0
                (try rw [show ((0 : Int)).toNat = 0 from rfl] at hw216_0)
                (try rw [show 0 * 1 = 0 from rfl] at hw216_0)
                (try rw [Addr.add_zero'] at hw216_0)
                cases e216
                have qi216 : (0 < l1.length) = True := eq_true (by omega)
                (try rw [show ((0 : Int)).toNat = 0 from rfl] at hx216_0)
                (try rw [Addr.add_zero'] at hx216_0)
                replace hx216_0 := (HB.out.cell (World.block_lt_of_cell? w _ hx216_0)).trans hx216_0
                replace p216 := eq_true p216
                replace q216 := eq_true q216
                have p217 : 0 ≤ (1 : Int) := (by omega)
                have q217 : 1 < (l1.length : Int) := zd
                obtain ⟨ad217, e217, hx217_0⟩ := Kd.at_int HR1.out 1 p217 q217
                have hw217_0 := hx217_0
                (try rw [show ((1 : Int)).toNat = 1 from rfl] at hw217_0)
                (try rw [show 1 * 1 = 1 from rfl] at hw217_0)
                (try simp only [Nat.reduceMul, Nat.reduceEqDiff, Go.Addr.add, ↓reduceIte] at hw217_0)
                obtain rfl : ad216 = ad217 := (by injection e217)
                (try simp only [show (1 : Int).toNat = 1 from rfl, Nat.reduceMul, Nat.reduceEqDiff, Go.Addr.add, ↓reduceIte] at hx217_0)
                have qi217 : (1 < l1.length) = True := eq_true (by omega)
                (try rw [show ((1 : Int)).toNat = 1 from rfl] at hx217_0)
                replace hx217_0 := (HB.out.cell (World.block_lt_of_cell? w _ hx217_0)).trans hx217_0
                replace p217 := eq_true p217
                replace q217 := eq_true q217
                refine start_ (n := 19) (S := fun w' => w'.cell? ⟨gb197, 0, none⟩ = some (.int .i64 a0_0) ∧ w'.cell? ⟨gb197, 1, none⟩ = some (.int .i64 a0_1) ∧ w'.cell? ⟨gb197, 2, none⟩ = some (.bool a0_2) ∧ w'.cell? ⟨gb197, 3, none⟩ = some (.bool a0_3) ∧ w'.cell? (ad215.add ((ji46)).toNat) = some (.int .i64 (rd x9_1 (ji46))) ∧ w'.cell? ad216 = some (.int .i64 (rd l1 0)) ∧ w'.cell? ⟨ad216.block, ad216.off + 1, none⟩ = some (.int .i64 (rd l1 1))) (ds := []) #[false, false, false, false, false, false, false, false, false, false, false, false, false, false, false, false, false, false, false] zn rfl rfl ⟨(blk_cell BK197.out 0).trans rfl, (blk_cell BK197.out 1).trans rfl, (blk_cell BK197.out 2).trans rfl, (blk_cell BK197.out 3).trans rfl, hx215_0, ((HB.out.cell (World.block_lt_of_cell? w _ hw216_0)).trans hw216_0), ((HB.out.cell (World.block_lt_of_cell? w _ hw217_0)).trans hw217_0)⟩ (fun hHeld => ?_); refine with_tabW impl_Around_twoSteps.tab8 impl_Around_twoSteps.bits8 (fun HT_ HW_ => ?_)
                generalize wr.drew = w57 at HO_9 HO_10 BK197 HB hx215_0 hx216_0 hx217_0 hHeld ⊢
                refine zq HT_ (i := 1) (N := some 34) ?_
                refine zq HT_ (i := 2) (N := some 35) ?_
                refine zq HT_ (i := 3) (N := some 36) ?_
                refine zq HT_ (i := 4) (N := some 37) ?_
                refine zq HT_ (i := 5) (N := some 38) ?_
                refine zq HT_ (i := 7) (N := some 40) ?_
                refine zq HT_ (i := 8) (N := some 41) ?_
                refine zq HT_ (i := 10) (N := some 43) ?_
                refine zq HT_ (i := 11) (N := some 44) ?_
                refine zx7 HT_ HW_ hHeld (i := 0) (N := some 33) ?_
                refine zx7 HT_ HW_ hHeld (i := 6) (N := some 39) ?_
                refine zx7 HT_ HW_ hHeld (i := 9) (N := some 42) ?_
                refine zx7 HT_ HW_ hHeld (i := 12) (N := some 45) ?_
                refine one_ (i := 13) (N := some 46) #[true, true, true, true, true, true, true, true, true, true, true, true, true, true, false, false, false, false, false] rfl rfl (one_of HT_.out zn) (by decide) (fun K hK => ?_)
                refine goes_ Try.func94 zn rfl #[.agg #[.int .i64 a0_0, .int .i64 a0_1, .bool a0_2, .bool a0_3], .int .i64 (rd x9_1 (ji46)), .int .i64 (rd l1 0), .int .i64 (rd l1 1)] (by rfl) rfl rfl (by (try simp only [List.map_toArray, List.map_cons, List.map_nil]); first | done | (simp only [hji46]; rfl) | rfl | (simp only [List.length_drop, List.length_take]; rfl)) ?_
                with_reducible refine (impl_Around_step.calls a0_0 a0_1 a0_2 a0_3 (rd x9_1 (ji46)) (rd l1 0) (rd l1 1) t218 true _ A51.out).mono ?_
                rintro e w59 ⟨rfl, hb⟩
                have HS4_ := (hb.cell (World.block_lt_of_cell? _ _ (hHeld.2.2.2.2.1))).trans (hHeld.2.2.2.2.1)
                refine ⟨_, rfl, ?_⟩
                replace HO_9 := zRb HO_9 hb
                replace HO_10 := zRb HO_10 hb
                replace BK197 := zKb BK197 hb
                replace HB := zA (below_step (zB1 HB GE197) hb)
                (try clear hb)
                refine hK.out _ _ ⟨(blk_cell BK197.out 0).trans rfl, (blk_cell BK197.out 1).trans rfl, (blk_cell BK197.out 2).trans rfl, (blk_cell BK197.out 3).trans rfl, HS4_, ((HB.out.cell (World.block_lt_of_cell? w _ hw216_0)).trans hw216_0), ((HB.out.cell (World.block_lt_of_cell? w _ hw217_0)).trans hw217_0)⟩ (fun hHeld => ?_)
                clear hK K
                refine norm_ (a' := ?_) ?_ ?_
                rotate_left
                ·show Act.put _ (some 46) _ = _
                 simp only [Act.put, List.setIfInBounds_toArray, List.set_cons_zero, List.set_cons_succ, i64_w, i32_w]
                 rfl
                refine zq HT_ (i := 14) (N := some 32) ?_
                refine zq HT_ (i := 15) (N := some 47) ?_
                refine zq HT_ (i := 16) (N := some 48) ?_
                refine zq HT_ (i := 17) (N := some 13) ?_
                refine zq HT_ (i := 18) (N := some 14) ?_
                refine done_ (done_of HT_.out zn) ?_
                have p220 : 0 ≤ (t218 : Int) := zd
                have q220 : t218 < (x10_1.length : Int) := zd
                obtain ⟨ad220, e220, hx220_0⟩ := Kd.at_bool (Kd.R_reads' HO_10.out).2.2 t218 p220 q220
                (try rw [← Nbq55.out] at hx220_0)
                obtain rfl : (⟨go9, 0, none⟩ : Addr) = ad220 := (by injection e220)
                (first | simp only [add_plain] at hx220_0 | simp only [add_at] at hx220_0 | simp only [Addr.add, Nat.zero_add] at hx220_0 | skip)
                replace p220 := eq_true p220
                replace q220 := eq_true q220
                try go_wp2
                go_ret
                exact ⟨_, by first | rfl | (simp [errW_none, errW_some] <;> rfl) | (simp only [← hji5, ← hji46]; first | rfl | (simp [errW_none, errW_some] <;> rfl)) | (simp [*, errW_none, errW_some] <;> rfl), by (with_reducible repeat (first | apply Kd.R_alloc | apply Kd.R_drewN | apply Kd.R_drew)); exact HO_9.out, zB1 HB GE197⟩
               ·replace c56 := Bool.eq_false_iff.mpr c56
                subst c56
                have H1 : (if x9_1.length < 17592186044416 then (impl_Around_twoSteps.l0 k1 l1 l2 a3 (x9_1 ++ [t218]) (x10_1.set (t218 : Int).toNat true) (wrap64 (x11_1 + 1)) a0_0 a0_1 a0_2 a0_3) else (none)) = some r := by rw [if_neg (show ¬ (false = true) by decide)] at H; exact H
                clear H
                have H := H1
                clear H1
                obtain ⟨y221, hy221⟩ : ∃ y_ : List Bool, y_ = (x10_1.set (t218 : Int).toNat true) := ⟨_, rfl⟩
                replace H : (if x9_1.length < 17592186044416 then (impl_Around_twoSteps.l0 k1 l1 l2 a3 (x9_1 ++ [t218]) y221 (wrap64 (x11_1 + 1)) a0_0 a0_1 a0_2 a0_3) else (none)) = some r := by first | (rw [hy221]; with_reducible exact H) | (have H2_ := (Option.bind_some _ _).symm.trans H; rw [hy221]; with_reducible exact H2_) | (have H2_ := (Option.bind_some _ _).symm.trans H; with_reducible exact H2_) | with_reducible exact H | (rw [hy221]; exact H) | exact H
                have Ny221 := zA hy221
                clear hy221
                by_cases c61 : x9_1.length < 17592186044416
                ·rw [if_pos c61] at H
                 have LMc61 := zA c61
                 clear c61
                 obtain ⟨y222, hy222⟩ : ∃ y_ : List Int, y_ = (x9_1 ++ [t218]) := ⟨_, rfl⟩
                 replace H : (impl_Around_twoSteps.l0 k1 l1 l2 a3 y222 y221 (wrap64 (x11_1 + 1)) a0_0 a0_1 a0_2 a0_3) = some r := by first | (rw [hy222]; with_reducible exact H) | (have H2_ := (Option.bind_some _ _).symm.trans H; rw [hy222]; with_reducible exact H2_) | (have H2_ := (Option.bind_some _ _).symm.trans H; with_reducible exact H2_) | with_reducible exact H | (rw [hy222]; exact H) | exact H
                 have Ny222 := zA hy222
                 clear hy222
                 have H' := zA H
                 clear H
                 try go_wp2
                 replace HO_9 := zA (Kd.R_drew HO_9.out)
                 replace HO_10 := zA (Kd.R_drew HO_10.out)
                 replace BK197 := zA (blk_drew BK197.out)
                 replace HB := zA (below_drew1 HB.out)
                 obtain ⟨Ao63, co63, eo63⟩ := Kd.R_slice HO_9.out
                 (first | subst eo63 | (injection eo63 with f1_ f2_ f3_; have f4_ := f1_.symm; have f5_ := f3_.symm; clear f1_ f2_ f3_; subst f4_; subst f5_))
                 have p215 : 0 ≤ ((ji46) : Int) := zd
                 have q215 : (ji46) < (x9_1.length : Int) := zd
                 obtain ⟨ad215, e215, hx215_0⟩ := Kd.at_int (Kd.R_reads' HO_9.out).2.2 (ji46) p215 q215
                 cases e215
                 replace p215 := eq_true p215
                 replace q215 := eq_true q215
                 have p216 : 0 ≤ (0 : Int) := (by omega)
                 have q216 : 0 < (l1.length : Int) := zd
                 obtain ⟨ad216, e216, hx216_0⟩ := Kd.at_int HR1.out 0 p216 q216
                 have hw216_0 := hx216_0
                 (try rw [show ((0 : Int)).toNat = 0 from rfl] at hw216_0)
                 (try rw [show 0 * 1 = 0 from rfl] at hw216_0)
                 (try rw [Addr.add_zero'] at hw216_0)
                 cases e216
                 have qi216 : (0 < l1.length) = True := eq_true (by omega)
                 (try rw [show ((0 : Int)).toNat = 0 from rfl] at hx216_0)
                 (try rw [Addr.add_zero'] at hx216_0)
                 replace hx216_0 := (HB.out.cell (World.block_lt_of_cell? w _ hx216_0)).trans hx216_0
                 replace p216 := eq_true p216
                 replace q216 := eq_true q216
                 have p217 : 0 ≤ (1 : Int) := (by omega)
                 have q217 : 1 < (l1.length : Int) := zd
                 obtain ⟨ad217, e217, hx217_0⟩ := Kd.at_int HR1.out 1 p217 q217
                 have hw217_0 := hx217_0
                 (try rw [show ((1 : Int)).toNat = 1 from rfl] at hw217_0)
                 (try rw [show 1 * 1 = 1 from rfl] at hw217_0)
                 (try simp only [Nat.reduceMul, Nat.reduceEqDiff, Go.Addr.add, ↓reduceIte] at hw217_0)
                 obtain rfl : ad216 = ad217 := (by injection e217)
                 (try simp only [show (1 : Int).toNat = 1 from rfl, Nat.reduceMul, Nat.reduceEqDiff, Go.Addr.add, ↓reduceIte] at hx217_0)
                 have qi217 : (1 < l1.length) = True := eq_true (by omega)
                 (try rw [show ((1 : Int)).toNat = 1 from rfl] at hx217_0)
                 replace hx217_0 := (HB.out.cell (World.block_lt_of_cell? w _ hx217_0)).trans hx217_0
                 replace p217 := eq_true p217
                 replace q217 := eq_true q217
                 refine start_ (n := 19) (S := fun w' => w'.cell? ⟨gb197, 0, none⟩ = some (.int .i64 a0_0) ∧ w'.cell? ⟨gb197, 1, none⟩ = some (.int .i64 a0_1) ∧ w'.cell? ⟨gb197, 2, none⟩ = some (.bool a0_2) ∧ w'.cell? ⟨gb197, 3, none⟩ = some (.bool a0_3) ∧ w'.cell? (ad215.add ((ji46)).toNat) = some (.int .i64 (rd x9_1 (ji46))) ∧ w'.cell? ad216 = some (.int .i64 (rd l1 0)) ∧ w'.cell? ⟨ad216.block, ad216.off + 1, none⟩ = some (.int .i64 (rd l1 1))) (ds := []) #[false, false, false, false, false, false, false, false, false, false, false, false, false, false, false, false, false, false, false] zn rfl rfl ⟨(blk_cell BK197.out 0).trans rfl, (blk_cell BK197.out 1).trans rfl, (blk_cell BK197.out 2).trans rfl, (blk_cell BK197.out 3).trans rfl, hx215_0, ((HB.out.cell (World.block_lt_of_cell? w _ hw216_0)).trans hw216_0), ((HB.out.cell (World.block_lt_of_cell? w _ hw217_0)).trans hw217_0)⟩ (fun hHeld => ?_); refine with_tabW impl_Around_twoSteps.tab8 impl_Around_twoSteps.bits8 (fun HT_ HW_ => ?_)
                 generalize wr.drew = w62 at HO_9 HO_10 BK197 HB hx215_0 hx216_0 hx217_0 hHeld ⊢
                 refine zq HT_ (i := 1) (N := some 34) ?_
                 refine zq HT_ (i := 2) (N := some 35) ?_
                 refine zq HT_ (i := 3) (N := some 36) ?_
                 refine zq HT_ (i := 4) (N := some 37) ?_
                 refine zq HT_ (i := 5) (N := some 38) ?_
                 refine zq HT_ (i := 7) (N := some 40) ?_
                 refine zq HT_ (i := 8) (N := some 41) ?_
                 refine zq HT_ (i := 10) (N := some 43) ?_
                 refine zq HT_ (i := 11) (N := some 44) ?_
                 refine zx7 HT_ HW_ hHeld (i := 0) (N := some 33) ?_
                 refine zx7 HT_ HW_ hHeld (i := 6) (N := some 39) ?_
                 refine zx7 HT_ HW_ hHeld (i := 9) (N := some 42) ?_
                 refine zx7 HT_ HW_ hHeld (i := 12) (N := some 45) ?_
                 refine one_ (i := 13) (N := some 46) #[true, true, true, true, true, true, true, true, true, true, true, true, true, true, false, false, false, false, false] rfl rfl (one_of HT_.out zn) (by decide) (fun K hK => ?_)
                 refine goes_ Try.func94 zn rfl #[.agg #[.int .i64 a0_0, .int .i64 a0_1, .bool a0_2, .bool a0_3], .int .i64 (rd x9_1 (ji46)), .int .i64 (rd l1 0), .int .i64 (rd l1 1)] (by rfl) rfl rfl (by (try simp only [List.map_toArray, List.map_cons, List.map_nil]); first | done | (simp only [hji46]; rfl) | rfl | (simp only [List.length_drop, List.length_take]; rfl)) ?_
                 with_reducible refine (impl_Around_step.calls a0_0 a0_1 a0_2 a0_3 (rd x9_1 (ji46)) (rd l1 0) (rd l1 1) t218 true _ A51.out).mono ?_
                 rintro e w64 ⟨rfl, hb⟩
                 have HS4_ := (hb.cell (World.block_lt_of_cell? _ _ (hHeld.2.2.2.2.1))).trans (hHeld.2.2.2.2.1)
                 refine ⟨_, rfl, ?_⟩
                 replace HO_9 := zRb HO_9 hb
                 replace HO_10 := zRb HO_10 hb
                 replace BK197 := zKb BK197 hb
                 replace HB := zA (below_step (zB1 HB GE197) hb)
                 (try clear hb)
                 refine hK.out _ _ ⟨(blk_cell BK197.out 0).trans rfl, (blk_cell BK197.out 1).trans rfl, (blk_cell BK197.out 2).trans rfl, (blk_cell BK197.out 3).trans rfl, HS4_, ((HB.out.cell (World.block_lt_of_cell? w _ hw216_0)).trans hw216_0), ((HB.out.cell (World.block_lt_of_cell? w _ hw217_0)).trans hw217_0)⟩ (fun hHeld => ?_)
                 clear hK K
                 refine norm_ (a' := ?_) ?_ ?_
                 rotate_left
                 ·show Act.put _ (some 46) _ = _
                  simp only [Act.put, List.setIfInBounds_toArray, List.set_cons_zero, List.set_cons_succ, i64_w, i32_w]
                  rfl
                 refine zq HT_ (i := 14) (N := some 32) ?_
                 refine zq HT_ (i := 15) (N := some 47) ?_
                 refine zq HT_ (i := 16) (N := some 48) ?_
                 refine zq HT_ (i := 17) (N := some 13) ?_
                 refine zq HT_ (i := 18) (N := some 14) ?_
                 refine done_ (done_of HT_.out zn) ?_
                 have p220 : 0 ≤ (t218 : Int) := zd
                 have q220 : t218 < (x10_1.length : Int) := zd
                 obtain ⟨ad220, e220, hx220_0⟩ := Kd.at_bool (Kd.R_reads' HO_10.out).2.2 t218 p220 q220
                 (try rw [← Nbq55.out] at hx220_0)
                 obtain rfl : (⟨go9, 0, none⟩ : Addr) = ad220 := (by injection e220)
                 (first | simp only [add_plain] at hx220_0 | simp only [add_at] at hx220_0 | simp only [Addr.add, Nat.zero_add] at hx220_0 | skip)
                 replace p220 := eq_true p220
                 replace q220 := eq_true q220
                 have p60 : 0 ≤ (t218 : Int) := zd
                 have q60 : (t218 : Int) < ((x10_1.length : Int) : Int) := zd
                 obtain ⟨hx60_0, hf60_0⟩ := Kd.R_celln false HO_10.out (t218 : Int) p60 q60
                 replace p60 := eq_true p60
                 replace q60 := eq_true q60
                 obtain ⟨hy65_, hz65_⟩ := Kd.R_celln false HO_10.out (t218 : Int) (zd) (zd)
                 have HP65 := Kd.R_putg HO_10.out (t218 : Int) true
                 try go_wp2_with (first | ((with_reducible refine gate_store (t := 4) (p := 60) rfl ?_); refine store_event (t := 4) (p := 60) (v := ?vo_w66) (w1 := (w64.setCell ⟨go9, (t218 : Int).toNat, none⟩ (.bool true))) ?hg ?ho ?hn ?hr ?_; (case ho => rfl); (case hg => rfl); (case hn => rfl); (case hr => first | (go_simp; done) | (go_simp; rfl)); intro w66 hw; have hg : w64.grownBy w66 (some go9) := (by rw [hw]; exact HP65.2); have hp_ : Kd.R Kd.bool 4 w66 w.heap.size (fun _ => True) (.slice (some ⟨go9, 0, none⟩) x10_1.length co9) y221 := (by rw [hw, Ny221.out]; exact HP65.1); clear HP65; replace HO_9 := zA (Kd.R_over' (v := (.slice (some ⟨go9, 0, none⟩) x10_1.length co9)) (zR HO_9.out) (Kd.R_typed HO_10.out) (by decide) hg); replace BK197 := zA (blk_grown (g := gb197) (o := .cells #[.int .i64 a0_0, .int .i64 a0_1, .bool a0_2, .bool a0_3] 28 (0, 0)) (zK BK197) hg (Kd.R_ne HO_10.out BK197.out (by decide))); replace HO_10 := zA (hp_); replace HB := zA ((by rw [hw]; exact below_set (HB.out) GB9.out : Below w.heap.size w w66)); clear hg hw hp_) | ((with_reducible refine gate_builtin (b := .append) (xs := #[.tmp 61, .tmp 63]) rfl ?_); at_builtin; refine Kd.R_append (Kd.int .i64) (w0 := w) w.heap.size rfl (.tmp 61) (.tmp 63) 33 3 (.int .i64 0) 8 rfl Try.underlying33 info3 rfl (by decide) (by omega) (.slice (some ad215) x9_1.length co63) x9_1 t218 [.int .i64 t218] (fun _ => True) (fun _ => False) rfl rfl ?aP (fun _ hk => hk.elim) ?aF ?aO ?aB ?aS ?aL ?_; (case aP => exact rfl); (case aB => exact (zB1 HB GE197)); (case aF => exact (fun _ _ => trivial)); (case aO => exact (zR HO_9.out)); (case aS => exact (below_size (zB1 HB GE197))); (case aL => have := LMc61.out; omega); intro v223 w67 ho hb hg hat; rw [← Ny222.out] at ho; have n0_ := zA (Kd.R_over' (zR HO_10.out) (Kd.R_typed (zR HO_9.out)) (by decide) hg); have n1_ := zA (blk_grown (g := gb197) (o := .cells #[.int .i64 a0_0, .int .i64 a0_1, .bool a0_2, .bool a0_3] 28 (0, 0)) (zK BK197) hg (Kd.R_ne HO_9.out BK197.out (by decide))); have n2_ := zA (hb); have n3_ := zA (ho); clear HO_10; clear BK197; clear HB; clear HO_9; have HO_10 := n0_; have BK197 := n1_; have HB := n2_; have HO224 := n3_; clear n0_ n1_ n2_ n3_; clear ho hb hg hat))
                 (try simp only [← hl10_1])
                 go_roundg k1
                 case measure => have := HK1.out; omega
                 case rel => exact ⟨(y222), (y221), (wrap64 (x11_1 + 1)), ze, H', ⟨by have := HK1.out; omega⟩, ⟨by (try simp only [hl10_1]); (with_reducible repeat (first | apply Kd.R_alloc | apply Kd.R_drewN | apply Kd.R_drew)); exact HO224.out⟩, ⟨by (try simp only [hl10_1]); (with_reducible repeat (first | apply Kd.R_alloc | apply Kd.R_drewN | apply Kd.R_drew)); exact HO_10.out⟩, ⟨by (try simp only [hl10_1]); (with_reducible repeat (first | refine blk_drewN ?_ _ | refine blk_drew ?_ | refine blk_alloc ?_ _)); exact BK197.out⟩, ⟨zB1 HB GE197⟩⟩
                ·rw [if_neg c61] at H
                 exact absurd H (by simp)
              ·rw [if_neg c54] at H
               exact absurd H (by simp)
             ·rw [if_neg c53] at H
              exact absurd H (by simp)
            ·replace c52 := Bool.eq_false_iff.mpr c52
             subst c52
             have H1 : (some x9_1) = some r := by rw [if_neg (show ¬ (false = true) by decide)] at H; exact H
             clear H
             have H := H1
             clear H1
             obtain rfl := Option.some.inj H
             try go_wp2
             replace HO_9 := zA (Kd.R_drew HO_9.out)
             replace HO_10 := zA (Kd.R_drew HO_10.out)
             replace BK197 := zA (blk_drew BK197.out)
             replace HB := zA (below_drew1 HB.out)
             obtain ⟨Ao69, co69, eo69⟩ := Kd.R_slice HO_9.out
             (first | subst eo69 | (injection eo69 with f1_ f2_ f3_; have f4_ := f1_.symm; have f5_ := f3_.symm; clear f1_ f2_ f3_; subst f4_; subst f5_))
             have p215 : 0 ≤ ((ji46) : Int) := zd
             have q215 : (ji46) < (x9_1.length : Int) := zd
             obtain ⟨ad215, e215, hx215_0⟩ := Kd.at_int (Kd.R_reads' HO_9.out).2.2 (ji46) p215 q215
             cases e215
             replace p215 := eq_true p215
             replace q215 := eq_true q215
             have p216 : 0 ≤ (0 : Int) := (by omega)
             have q216 : 0 < (l1.length : Int) := zd
             obtain ⟨ad216, e216, hx216_0⟩ := Kd.at_int HR1.out 0 p216 q216
             have hw216_0 := hx216_0
             (try rw [show ((0 : Int)).toNat = 0 from rfl] at hw216_0)
             (try rw [show 0 * 1 = 0 from rfl] at hw216_0)
             (try rw [Addr.add_zero'] at hw216_0)
             cases e216
             have qi216 : (0 < l1.length) = True := eq_true (by omega)
             (try rw [show ((0 : Int)).toNat = 0 from rfl] at hx216_0)
             (try rw [Addr.add_zero'] at hx216_0)
             replace hx216_0 := (HB.out.cell (World.block_lt_of_cell? w _ hx216_0)).trans hx216_0
             replace p216 := eq_true p216
             replace q216 := eq_true q216
             have p217 : 0 ≤ (1 : Int) := (by omega)
             have q217 : 1 < (l1.length : Int) := zd
             obtain ⟨ad217, e217, hx217_0⟩ := Kd.at_int HR1.out 1 p217 q217
             have hw217_0 := hx217_0
             (try rw [show ((1 : Int)).toNat = 1 from rfl] at hw217_0)
             (try rw [show 1 * 1 = 1 from rfl] at hw217_0)
             (try simp only [Nat.reduceMul, Nat.reduceEqDiff, Go.Addr.add, ↓reduceIte] at hw217_0)
             obtain rfl : ad216 = ad217 := (by injection e217)
             (try simp only [show (1 : Int).toNat = 1 from rfl, Nat.reduceMul, Nat.reduceEqDiff, Go.Addr.add, ↓reduceIte] at hx217_0)
             have qi217 : (1 < l1.length) = True := eq_true (by omega)
             (try rw [show ((1 : Int)).toNat = 1 from rfl] at hx217_0)
             replace hx217_0 := (HB.out.cell (World.block_lt_of_cell? w _ hx217_0)).trans hx217_0
             replace p217 := eq_true p217
             replace q217 := eq_true q217
             refine start_ (n := 19) (S := fun w' => w'.cell? ⟨gb197, 0, none⟩ = some (.int .i64 a0_0) ∧ w'.cell? ⟨gb197, 1, none⟩ = some (.int .i64 a0_1) ∧ w'.cell? ⟨gb197, 2, none⟩ = some (.bool a0_2) ∧ w'.cell? ⟨gb197, 3, none⟩ = some (.bool a0_3) ∧ w'.cell? (ad215.add ((ji46)).toNat) = some (.int .i64 (rd x9_1 (ji46))) ∧ w'.cell? ad216 = some (.int .i64 (rd l1 0)) ∧ w'.cell? ⟨ad216.block, ad216.off + 1, none⟩ = some (.int .i64 (rd l1 1))) (ds := []) #[false, false, false, false, false, false, false, false, false, false, false, false, false, false, false, false, false, false, false] zn rfl rfl ⟨(blk_cell BK197.out 0).trans rfl, (blk_cell BK197.out 1).trans rfl, (blk_cell BK197.out 2).trans rfl, (blk_cell BK197.out 3).trans rfl, hx215_0, ((HB.out.cell (World.block_lt_of_cell? w _ hw216_0)).trans hw216_0), ((HB.out.cell (World.block_lt_of_cell? w _ hw217_0)).trans hw217_0)⟩ (fun hHeld => ?_); refine with_tabW impl_Around_twoSteps.tab8 impl_Around_twoSteps.bits8 (fun HT_ HW_ => ?_)
             generalize wr.drew = w68 at HO_9 HO_10 BK197 HB hx215_0 hx216_0 hx217_0 hHeld ⊢
             refine zq HT_ (i := 1) (N := some 34) ?_
             refine zq HT_ (i := 2) (N := some 35) ?_
             refine zq HT_ (i := 3) (N := some 36) ?_
             refine zq HT_ (i := 4) (N := some 37) ?_
             refine zq HT_ (i := 5) (N := some 38) ?_
             refine zq HT_ (i := 7) (N := some 40) ?_
             refine zq HT_ (i := 8) (N := some 41) ?_
             refine zq HT_ (i := 10) (N := some 43) ?_
             refine zq HT_ (i := 11) (N := some 44) ?_
             refine zx7 HT_ HW_ hHeld (i := 0) (N := some 33) ?_
             refine zx7 HT_ HW_ hHeld (i := 6) (N := some 39) ?_
             refine zx7 HT_ HW_ hHeld (i := 9) (N := some 42) ?_
             refine zx7 HT_ HW_ hHeld (i := 12) (N := some 45) ?_
             refine one_ (i := 13) (N := some 46) #[true, true, true, true, true, true, true, true, true, true, true, true, true, true, false, false, false, false, false] rfl rfl (one_of HT_.out zn) (by decide) (fun K hK => ?_)
             refine goes_ Try.func94 zn rfl #[.agg #[.int .i64 a0_0, .int .i64 a0_1, .bool a0_2, .bool a0_3], .int .i64 (rd x9_1 (ji46)), .int .i64 (rd l1 0), .int .i64 (rd l1 1)] (by rfl) rfl rfl (by (try simp only [List.map_toArray, List.map_cons, List.map_nil]); first | done | (simp only [hji46]; rfl) | rfl | (simp only [List.length_drop, List.length_take]; rfl)) ?_
             with_reducible refine (impl_Around_step.calls a0_0 a0_1 a0_2 a0_3 (rd x9_1 (ji46)) (rd l1 0) (rd l1 1) t218 false _ A51.out).mono ?_
             rintro e w70 ⟨rfl, hb⟩
             have HS4_ := (hb.cell (World.block_lt_of_cell? _ _ (hHeld.2.2.2.2.1))).trans (hHeld.2.2.2.2.1)
             refine ⟨_, rfl, ?_⟩
             replace HO_9 := zRb HO_9 hb
             replace HO_10 := zRb HO_10 hb
             replace BK197 := zKb BK197 hb
             replace HB := zA (below_step (zB1 HB GE197) hb)
             (try clear hb)
             refine hK.out _ _ ⟨(blk_cell BK197.out 0).trans rfl, (blk_cell BK197.out 1).trans rfl, (blk_cell BK197.out 2).trans rfl, (blk_cell BK197.out 3).trans rfl, HS4_, ((HB.out.cell (World.block_lt_of_cell? w _ hw216_0)).trans hw216_0), ((HB.out.cell (World.block_lt_of_cell? w _ hw217_0)).trans hw217_0)⟩ (fun hHeld => ?_)
             clear hK K
             refine norm_ (a' := ?_) ?_ ?_
             rotate_left
             ·show Act.put _ (some 46) _ = _
              simp only [Act.put, List.setIfInBounds_toArray, List.set_cons_zero, List.set_cons_succ, i64_w, i32_w]
              rfl
             refine zq HT_ (i := 14) (N := some 32) ?_
             refine zq HT_ (i := 15) (N := some 47) ?_
             refine zq HT_ (i := 16) (N := some 48) ?_
             refine zq HT_ (i := 17) (N := some 13) ?_
             refine zq HT_ (i := 18) (N := some 14) ?_
             refine done_ (done_of HT_.out zn) ?_
             try go_wp2
             go_ret
             exact ⟨_, by first | rfl | (simp [errW_none, errW_some] <;> rfl) | (simp only [← hji5, ← hji46]; first | rfl | (simp [errW_none, errW_some] <;> rfl)) | (simp [*, errW_none, errW_some] <;> rfl), by (with_reducible repeat (first | apply Kd.R_alloc | apply Kd.R_drewN | apply Kd.R_drew)); exact HO_9.out, zB1 HB GE197⟩
           ·rw [if_neg c50] at H
            exact absurd H (by simp)
          ·rw [if_neg c49] at H
           exact absurd H (by simp)
         ·rw [if_neg c48] at H
          exact absurd H (by simp)
        ·rw [if_neg c47] at H
         exact absurd H (by simp)
   ·rw [if_neg c8] at H
    exact absurd H (by simp)
  ·rw [if_neg c7] at H
   exact absurd H (by simp)
 ·rw [if_neg c6] at H
  exact absurd H (by simp)
end Go.Proofs.Ytogkcfddoiloeaa.PFnOrbitsShare
