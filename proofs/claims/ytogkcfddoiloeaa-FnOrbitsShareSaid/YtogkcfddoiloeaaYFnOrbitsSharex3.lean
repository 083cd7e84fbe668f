/- The walk. -/
import Derived.Test.YtogkcfddoiloeaaYFnOrbitsSharex2
namespace Go.Proofs.Ytogkcfddoiloeaa.PFnOrbitsShare
open Go.RowKit Go.Proofs.YtogkcfddoiloeaaW.PrintWords Go.Proofs.YtogkcfddoiloeaaW.PrintLast Go.Proofs.YtogkcfddoiloeaaW.PrintMore
attribute [local go_sem] max2_int min2_int max_two min_two max_three min_three max_four min_four
set_option linter.unusedVariables false
set_option linter.unusedSimpArgs false
mutual
def spec_FirstTwoSteps.l0 : Nat → Int → Int → Int → Int → Bool → Bool → Int → Int → Option (Int × Int × Int × Bool)
 | 0, _, _, _, _, _, _, _, _ => none
 | k + 1, x8, x9, x175000, x175001, x175002, x175003, x176000, x176001 => if x9 < x8 then (spec_FirstTwoSteps.l1 k x8 x9 0 x175000 x175001 x175002 x175003 x176000 x176001) else (some (0, 0, 0, false))
def spec_FirstTwoSteps.l1 : Nat → Int → Int → Int → Int → Int → Bool → Bool → Int → Int → Option (Int × Int × Int × Bool)
 | 0, _, _, _, _, _, _, _, _, _ => none
 | k + 1, x8, x9, x10, x175000, x175001, x175002, x175003, x176000, x176001 => if x10 < x8 then (spec_FirstTwoSteps.l2 k x8 x9 x10 2 x175000 x175001 x175002 x175003 x176000 x176001) else (spec_FirstTwoSteps.l0 k x8 (wrap64 (x9 + 1)) x175000 x175001 x175002 x175003 x176000 x176001)
def spec_FirstTwoSteps.l2 : Nat → Int → Int → Int → Int → Int → Int → Bool → Bool → Int → Int → Option (Int × Int × Int × Bool)
 | 0, _, _, _, _, _, _, _, _, _, _ => none
 | k + 1, x8, x9, x10, x11, x175000, x175001, x175002, x175003, x176000, x176001 => if x11 ≤ 50 then ((spec_arTurns.f k x175000 x175001 x175002 x175003 x176000 x176001 x9 x10 x11).bind fun t180 => (if (t180.length : Int) = (wrap64 (x175000 * x175001)) then (some (x9, x10, x11, true)) else (spec_FirstTwoSteps.l2 k x8 x9 x10 (wrap64 (x11 + 1)) x175000 x175001 x175002 x175003 x176000 x176001))) else (spec_FirstTwoSteps.l1 k x8 x9 (wrap64 (x10 + 1)) x175000 x175001 x175002 x175003 x176000 x176001)
end
def spec_FirstTwoSteps.f (k : Nat) (a0_0 : Int) (a0_1 : Int) (a0_2 : Bool) (a0_3 : Bool) (a1_0 : Int) (a1_1 : Int) : Option (Int × Int × Int × Bool) := (spec_arTwo.f a0_0 a0_1 a0_2 a0_3 a1_0 a1_1).bind fun t176 => (if t176 = true then ((spec_boSteps.f k a1_0 a1_1).bind fun t177 => (spec_FirstTwoSteps.l0 k (t177.length : Int) 0 a0_0 a0_1 a0_2 a0_3 a1_0 a1_1)) else (some (0, 0, 0, false)))
theorem spec_FirstTwoSteps.mono_l : ∀ k, (∀ y0 y1 y2 y3 y4 y5 y6 y7, LeO (spec_FirstTwoSteps.l0 k y0 y1 y2 y3 y4 y5 y6 y7) (spec_FirstTwoSteps.l0 (k + 1) y0 y1 y2 y3 y4 y5 y6 y7)) ∧ (∀ y0 y1 y2 y3 y4 y5 y6 y7 y8, LeO (spec_FirstTwoSteps.l1 k y0 y1 y2 y3 y4 y5 y6 y7 y8) (spec_FirstTwoSteps.l1 (k + 1) y0 y1 y2 y3 y4 y5 y6 y7 y8)) ∧ (∀ y0 y1 y2 y3 y4 y5 y6 y7 y8 y9, LeO (spec_FirstTwoSteps.l2 k y0 y1 y2 y3 y4 y5 y6 y7 y8 y9) (spec_FirstTwoSteps.l2 (k + 1) y0 y1 y2 y3 y4 y5 y6 y7 y8 y9))
 | 0 => ⟨fun _ _ _ _ _ _ _ _ r h => by simp [spec_FirstTwoSteps.l0] at h, fun _ _ _ _ _ _ _ _ _ r h => by simp [spec_FirstTwoSteps.l1] at h, fun _ _ _ _ _ _ _ _ _ _ r h => by simp [spec_FirstTwoSteps.l2] at h⟩
 | k + 1 => by
  obtain ⟨ih0, ih1, ih2⟩ := spec_FirstTwoSteps.mono_l k
  refine ⟨?_, ?_, ?_⟩
  ·intro y0 y1 y2 y3 y4 y5 y6 y7
   unfold spec_FirstTwoSteps.l0
   repeat' first
   | (with_reducible apply ih0)
   | (with_reducible apply ih1)
   | (with_reducible apply ih2)
   | (with_reducible exact spec_arTurns.mono _ _ _ _ _ _ _ _ _ _)
   | (with_reducible exact spec_boSteps.mono _ _ _)
   | (with_reducible exact LeO.refl _)
   | (with_reducible exact LeO.none _)
   | (with_reducible refine LeO.ite ?_ ?_)
   | (with_reducible refine LeO.bind ?_ (fun _ => ?_))
   | apply ih0
   | apply ih1
   | apply ih2
   | exact spec_arTurns.mono _ _ _ _ _ _ _ _ _ _
   | exact spec_boSteps.mono _ _ _
   | exact LeO.none _
   | refine LeO.ite ?_ ?_
   | refine LeO.bind ?_ (fun _ => ?_)
  ·intro y0 y1 y2 y3 y4 y5 y6 y7 y8
   unfold spec_FirstTwoSteps.l1
   repeat' first
   | (with_reducible apply ih0)
   | (with_reducible apply ih1)
   | (with_reducible apply ih2)
   | (with_reducible exact spec_arTurns.mono _ _ _ _ _ _ _ _ _ _)
   | (with_reducible exact spec_boSteps.mono _ _ _)
   | (with_reducible exact LeO.refl _)
   | (with_reducible exact LeO.none _)
   | (with_reducible refine LeO.ite ?_ ?_)
   | (with_reducible refine LeO.bind ?_ (fun _ => ?_))
   | apply ih0
   | apply ih1
   | apply ih2
   | exact spec_arTurns.mono _ _ _ _ _ _ _ _ _ _
   | exact spec_boSteps.mono _ _ _
   | exact LeO.none _
   | refine LeO.ite ?_ ?_
   | refine LeO.bind ?_ (fun _ => ?_)
  ·intro y0 y1 y2 y3 y4 y5 y6 y7 y8 y9
   unfold spec_FirstTwoSteps.l2
   repeat' first
   | (with_reducible apply ih0)
   | (with_reducible apply ih1)
   | (with_reducible apply ih2)
   | (with_reducible exact spec_arTurns.mono _ _ _ _ _ _ _ _ _ _)
   | (with_reducible exact spec_boSteps.mono _ _ _)
   | (with_reducible exact LeO.refl _)
   | (with_reducible exact LeO.none _)
   | (with_reducible refine LeO.ite ?_ ?_)
   | (with_reducible refine LeO.bind ?_ (fun _ => ?_))
   | apply ih0
   | apply ih1
   | apply ih2
   | exact spec_arTurns.mono _ _ _ _ _ _ _ _ _ _
   | exact spec_boSteps.mono _ _ _
   | exact LeO.none _
   | refine LeO.ite ?_ ?_
   | refine LeO.bind ?_ (fun _ => ?_)
theorem spec_FirstTwoSteps.mono : ∀ a0 a1 a2 a3 a4 a5 k, LeO (spec_FirstTwoSteps.f k a0 a1 a2 a3 a4 a5) (spec_FirstTwoSteps.f (k + 1) a0 a1 a2 a3 a4 a5) := by
 intro a0 a1 a2 a3 a4 a5 k
 obtain ⟨ih0, ih1, ih2⟩ := spec_FirstTwoSteps.mono_l k
 unfold spec_FirstTwoSteps.f
 repeat' first
   | (with_reducible apply ih0)
   | (with_reducible apply ih1)
   | (with_reducible apply ih2)
   | (with_reducible exact spec_arTurns.mono _ _ _ _ _ _ _ _ _ _)
   | (with_reducible exact spec_boSteps.mono _ _ _)
   | (with_reducible exact LeO.refl _)
   | (with_reducible exact LeO.none _)
   | (with_reducible refine LeO.ite ?_ ?_)
   | (with_reducible refine LeO.bind ?_ (fun _ => ?_))
   | apply ih0
   | apply ih1
   | apply ih2
   | exact spec_arTurns.mono _ _ _ _ _ _ _ _ _ _
   | exact spec_boSteps.mono _ _ _
   | exact LeO.none _
   | refine LeO.ite ?_ ?_
   | refine LeO.bind ?_ (fun _ => ?_)
def spec_FirstTwoSteps.T13 : Bool × List (List Nat × List Nat) := (true, [([], []), ([], []), ([], []), ([], []), ([], []), ([0, 1, 2, 3, 4], [0, 1, 2, 3, 4]), ([5], [5]), ([], []), ([7], [7]), ([], []), ([9], [9]), ([8, 10], [8, 10]), ([6, 11], [6, 11])])
def spec_FirstTwoSteps.B13 : List Nat := [0, 0, 0, 0, 0, 31, 63, 0, 128, 0, 512, 1920, 4095]
theorem spec_FirstTwoSteps.tab13 : rtab .any (opsOf Try.f15 13) = spec_FirstTwoSteps.T13 := by kernel_rfl
theorem spec_FirstTwoSteps.bits13 : waitsOk spec_FirstTwoSteps.T13.2 spec_FirstTwoSteps.B13 = true := by kernel_rfl
set_option maxHeartbeats 8000000 in
set_option maxRecDepth 100000 in
theorem spec_FirstTwoSteps.calls (k : Nat) (a0_0 : Int) (a0_1 : Int) (a0_2 : Bool) (a0_3 : Bool) (a1_0 : Int) (a1_1 : Int) (r1 : Int) (r2 : Int) (r3 : Int) (r4 : Bool) (w : World) (h : spec_FirstTwoSteps.f k a0_0 a0_1 a0_2 a0_3 a1_0 a1_1 = some (r1, r2, r3, r4)) :
  Calls Try.prog 15 #[.agg #[.int .i64 a0_0, .int .i64 a0_1, .bool a0_2, .bool a0_3], .agg #[.int .i64 a1_0, .int .i64 a1_1]] w fun e w' => e = .returned (.tuple #[.int .i64 r1, .int .i64 r2, .int .i64 r3, .bool r4]) ∧ Below w.heap.size w w' := by
 have hu28 := Try.underlying28
 have hu30 := Try.underlying30
 have HB := zA (Below.refl w.heap.size w)
 have H : ((spec_arTwo.f a0_0 a0_1 a0_2 a0_3 a1_0 a1_1).bind fun t176 => (if t176 = true then ((spec_boSteps.f k a1_0 a1_1).bind fun t177 => (spec_FirstTwoSteps.l0 k (t177.length : Int) 0 a0_0 a0_1 a0_2 a0_3 a1_0 a1_1)) else (some (0, 0, 0, false)))) = some (r1, r2, r3, r4) := h
 clear h
 obtain ⟨t176, A3, H⟩ := zM H
 try dsimp only at H
 by_cases c4 : t176 = true
 ·subst c4
  have H1 : ((spec_boSteps.f k a1_0 a1_1).bind fun t177 => (spec_FirstTwoSteps.l0 k (t177.length : Int) 0 a0_0 a0_1 a0_2 a0_3 a1_0 a1_1)) = some (r1, r2, r3, r4) := by rw [if_pos rfl] at H; exact H
  clear H
  have H := H1
  clear H1
  obtain ⟨t177, A5, H⟩ := zM H
  try dsimp only at H
  have H' := zA H
  clear H
  go_enter Try.func15, Try.ntmps15
  go_wp2_with (first | ((with_reducible refine gate_dst (N := 2) rfl ?_); refine box_event zr (N := 2) zr (cs := #[.int .i64 a0_0, .int .i64 a0_1, .bool a0_2, .bool a0_3]) (t := 28) zh ?_; intro gb174 hg w6 hbox hb; have BK174 := zA (hbox); have GW174 := zA (zG hg (below_size (zB0 HB)) : w.heap.size ≤ gb174); have GE174 := zA (zG hg (below_size (zB0 HB)) : w.heap.size ≤ gb174); replace HB := zA (below_step (zB0 HB) hb); clear hb hbox hg) | ((with_reducible refine gate_dst (N := 3) rfl ?_); refine box_event zr (N := 3) zr (cs := #[.int .i64 a1_0, .int .i64 a1_1]) (t := 30) zh ?_; intro gb175 hg w7 hbox hb; have BK175 := zA (hbox); have GW175 := zA (zG hg (below_size (zB1 HB GE174)) : w.heap.size ≤ gb175); have GE175 := zA (zG hg (below_size (zB1 HB GE174)) : w.heap.size ≤ gb175); replace HB := zA (below_step (zB1 HB GE174) hb); have NB174_175 := zA (zNl hg BK174 : gb174 ≠ gb175); have NB175_174 := zA (zNg hg BK174 : gb175 ≠ gb174); replace BK174 := zKb BK174 hb; clear hb hbox hg; have hnb8 := NB174_175.out; have hnc8 := NB175_174.out; obtain ⟨z9_0, z9_1, z9_2, z9_3, y9_0, y9_1, y9_2, y9_3⟩ := zc4 BK174; obtain ⟨z10_0, z10_1, y10_0, y10_1⟩ := zc2 BK175) | ((with_reducible refine gate_callee (f := 61) rfl ?_); refine goesL_ (some 14) rfl rfl Try.func61 zn rfl #[.agg #[.int .i64 a0_0, .int .i64 a0_1, .bool a0_2, .bool a0_3], .agg #[.int .i64 a1_0, .int .i64 a1_1]] rfl zm ?_; (with_reducible refine (spec_arTwo.calls a0_0 a0_1 a0_2 a0_3 a1_0 a1_1 true _ A3.out).mono ?_); rintro e w11 ⟨rfl, hb⟩; refine ⟨_, rfl, ?_⟩; replace BK174 := zKb BK174 hb; replace BK175 := zKb BK175 hb; replace HB := zA (below_step (zB2 HB GE174 GE175) hb); (try clear hb); (try clear hb2); (try clear hk); (try clear hi); obtain ⟨z12_0, z12_1, y12_0, y12_1⟩ := zc2 BK175) | ((with_reducible refine gate_callee (f := 62) rfl ?_); refine goesL_ (some 17) rfl rfl Try.func62 zn rfl #[.agg #[.int .i64 a1_0, .int .i64 a1_1]] rfl zm ?_; (with_reducible refine (spec_boSteps.calls k a1_0 a1_1 t177 _ A5.out).mono ?_); rintro e w13 ⟨v178, rfl, ho0, hb⟩; refine ⟨_, rfl, ?_⟩; have HO179 := zA (Kd.S_lower ho0 (below_size (zB2 HB GE174 GE175))); replace BK174 := zKb BK174 hb; replace BK175 := zKb BK175 hb; replace HB := zA (below_step (zB2 HB GE174 GE175) hb); (try clear hb); (try clear hb2); (try clear hk); (try clear hi); (try clear ho0); obtain ⟨Ao14, co14, eo14⟩ := Kd.S_slice HO179.out; subst eo14))
  go_loopg [9] k (fun kq v9 w' => ∃ (x9_1 : Int), v9 = .int .i64 x9_1 ∧ Aside0 (spec_FirstTwoSteps.l0 kq (t177.length : Int) x9_1 a0_0 a0_1 a0_2 a0_3 a1_0 a1_1 = some (r1, r2, r3, r4)) ∧ Aside0 (kq ≤ k) ∧ Aside0 (w'.heap[gb174]? = some (.cells #[.int .i64 a0_0, .int .i64 a0_1, .bool a0_2, .bool a0_3] 28 (0, 0))) ∧ Aside0 (w'.heap[gb175]? = some (.cells #[.int .i64 a1_0, .int .i64 a1_1] 30 (0, 0))) ∧ Aside0 (Below w.heap.size w w'))
  case atStart => exact ⟨(0), ze, H', ⟨Nat.le_refl _⟩, ⟨zK BK174⟩, ⟨zK BK175⟩, ⟨zB2 HB GE174 GE175⟩⟩
  case round =>
   clear H'
   (try clear c4); (try clear z10_0 z10_1 y10_0 y10_1); (try clear z12_0 z12_1 y12_0 y12_1); (try clear z9_0 z9_1 z9_2 z9_3 y9_0 y9_1 y9_2 y9_3)
   obtain ⟨x9_1, rfl, HA, HK1, BK174, BK175, HB⟩ := hrel
   cases gk with
   | zero => exact absurd HA.out (by simp [spec_FirstTwoSteps.l0])
   | succ k1 =>
    have H := HA.out
    clear HA
    simp only [spec_FirstTwoSteps.l0] at H
    by_cases c15 : x9_1 < (t177.length : Int)
    ·rw [if_pos c15] at H
     have c15b0 : decide (x9_1 < (t177.length : Int)) = true := decide_eq_true c15
     clear c15
     have H' := zA H
     clear H
     go_wp2
     go_loopg [10] k1 (fun kq v10 w' => ∃ (x10_2 : Int), v10 = .int .i64 x10_2 ∧ Aside0 (spec_FirstTwoSteps.l1 kq (t177.length : Int) x9_1 x10_2 a0_0 a0_1 a0_2 a0_3 a1_0 a1_1 = some (r1, r2, r3, r4)) ∧ Aside0 (kq ≤ k1) ∧ Aside0 (w'.heap[gb174]? = some (.cells #[.int .i64 a0_0, .int .i64 a0_1, .bool a0_2, .bool a0_3] 28 (0, 0))) ∧ Aside0 (w'.heap[gb175]? = some (.cells #[.int .i64 a1_0, .int .i64 a1_1] 30 (0, 0))) ∧ Aside0 (Below w.heap.size w w'))
     case atStart => exact ⟨(0), ze, H', ⟨Nat.le_refl _⟩, ⟨zK BK174⟩, ⟨zK BK175⟩, ⟨zB2 HB GE174 GE175⟩⟩
     case round =>
      clear H'
      (try clear c4); (try clear c15); (try clear c15b0); (try clear z10_0 z10_1 y10_0 y10_1); (try clear z12_0 z12_1 y12_0 y12_1); (try clear z9_0 z9_1 z9_2 z9_3 y9_0 y9_1 y9_2 y9_3)
      obtain ⟨x10_2, rfl, HA, HK2, BK174, BK175, HB⟩ := hrel
      cases gk with
      | zero => exact absurd HA.out (by simp [spec_FirstTwoSteps.l1])
      | succ k2 =>
       have H := HA.out
       clear HA
       simp only [spec_FirstTwoSteps.l1] at H
       by_cases c16 : x10_2 < (t177.length : Int)
       ·rw [if_pos c16] at H
        have c16b0 : decide (x10_2 < (t177.length : Int)) = true := decide_eq_true c16
        clear c16
        have H' := zA H
        clear H
        go_wp2
        go_loopg [11] k2 (fun kq v11 w' => ∃ (x11_3 : Int), v11 = .int .i64 x11_3 ∧ Aside0 (spec_FirstTwoSteps.l2 kq (t177.length : Int) x9_1 x10_2 x11_3 a0_0 a0_1 a0_2 a0_3 a1_0 a1_1 = some (r1, r2, r3, r4)) ∧ Aside0 (kq ≤ k2) ∧ Aside0 (w'.heap[gb174]? = some (.cells #[.int .i64 a0_0, .int .i64 a0_1, .bool a0_2, .bool a0_3] 28 (0, 0))) ∧ Aside0 (w'.heap[gb175]? = some (.cells #[.int .i64 a1_0, .int .i64 a1_1] 30 (0, 0))) ∧ Aside0 (Below w.heap.size w w'))
        case atStart => exact ⟨(2), ze, H', ⟨Nat.le_refl _⟩, ⟨zK BK174⟩, ⟨zK BK175⟩, ⟨zB2 HB GE174 GE175⟩⟩
        case round =>
         clear H'
         (try clear c4); (try clear c15); (try clear c15b0); (try clear c16); (try clear c16b0); (try clear z10_0 z10_1 y10_0 y10_1); (try clear z12_0 z12_1 y12_0 y12_1); (try clear z9_0 z9_1 z9_2 z9_3 y9_0 y9_1 y9_2 y9_3)
         obtain ⟨x11_3, rfl, HA, HK3, BK174, BK175, HB⟩ := hrel
         cases gk with
         | zero => exact absurd HA.out (by simp [spec_FirstTwoSteps.l2])
         | succ k3 =>
          have H := HA.out
          clear HA
          simp only [spec_FirstTwoSteps.l2] at H
          by_cases c17 : x11_3 ≤ 50
          ·rw [if_pos c17] at H
           have c17b0 : decide (x11_3 ≤ 50) = true := decide_eq_true c17
           clear c17
           obtain ⟨t180, A18, H⟩ := zM H
           try dsimp only at H
           by_cases c19 : (t180.length : Int) = (wrap64 (a0_0 * a0_1))
           ·rw [if_pos c19] at H
            have c19b0 : ((t180.length : Int) == (wrap64 (a0_0 * a0_1))) = true := beq_iff_eq.mpr c19
            have c19b1 : ((t180.length : Int) != (wrap64 (a0_0 * a0_1))) = false := bne_eq_false_iff_eq.mpr c19
            clear c19
            simp only [Option.some.injEq, Prod.mk.injEq] at H
            obtain ⟨rfl, rfl, rfl, rfl⟩ := H
            try go_wp2
            replace BK174 := zA (blk_drew BK174.out)
            replace BK175 := zA (blk_drew BK175.out)
            replace HB := zA (below_drew1 HB.out)
            refine start_ (n := 13) (S := fun w' => w'.cell? ⟨gb174, 0, none⟩ = some (.int .i64 a0_0) ∧ w'.cell? ⟨gb174, 1, none⟩ = some (.int .i64 a0_1) ∧ w'.cell? ⟨gb174, 2, none⟩ = some (.bool a0_2) ∧ w'.cell? ⟨gb174, 3, none⟩ = some (.bool a0_3) ∧ w'.cell? ⟨gb175, 0, none⟩ = some (.int .i64 a1_0) ∧ w'.cell? ⟨gb175, 1, none⟩ = some (.int .i64 a1_1)) (ds := []) #[false, false, false, false, false, false, false, false, false, false, false, false, false] zn rfl rfl ⟨(blk_cell BK174.out 0).trans rfl, (blk_cell BK174.out 1).trans rfl, (blk_cell BK174.out 2).trans rfl, (blk_cell BK174.out 3).trans rfl, (blk_cell BK175.out 0).trans rfl, (blk_cell BK175.out 1).trans rfl⟩ (fun hHeld => ?_); refine with_tabW spec_FirstTwoSteps.tab13 spec_FirstTwoSteps.bits13 (fun HT_ HW_ => ?_)
            generalize wr.drew = w20 at BK174 BK175 HB hHeld ⊢
            refine zq HT_ (i := 2) (N := some 35) ?_
            refine zq HT_ (i := 3) (N := some 36) ?_
            refine zq HT_ (i := 4) (N := some 37) ?_
            refine zq HT_ (i := 7) (N := some 40) ?_
            refine zq HT_ (i := 9) (N := some 42) ?_
            refine zx6 HT_ HW_ hHeld (i := 0) (N := some 33) ?_
            refine zx6 HT_ HW_ hHeld (i := 1) (N := some 34) ?_
            refine zx6 HT_ HW_ hHeld (i := 8) (N := some 41) ?_
            refine zx6 HT_ HW_ hHeld (i := 10) (N := some 43) ?_
            refine zq HT_ (i := 11) (N := some 44) ?_
            refine one_ (i := 5) (N := some 38) #[true, true, true, true, true, true, false, true, true, true, true, true, false] rfl rfl (one_of HT_.out zn) (by decide) (fun K hK => ?_)
            refine goes_ Try.func63 zn rfl #[.agg #[.int .i64 a0_0, .int .i64 a0_1, .bool a0_2, .bool a0_3], .agg #[.int .i64 a1_0, .int .i64 a1_1], .int .i64 x9_1, .int .i64 x10_2, .int .i64 x11_3] (by rfl) rfl rfl zm ?_
            with_reducible refine (spec_arTurns.calls k3 a0_0 a0_1 a0_2 a0_3 a1_0 a1_1 x9_1 x10_2 x11_3 t180 _ A18.out).mono ?_
            rintro e w21 ⟨v181, rfl, ho0, hb⟩
            refine ⟨_, rfl, ?_⟩
            have HO182 := zA (Kd.R_lower ho0 (below_size (zB2 HB GE174 GE175)))
            replace BK174 := zKb BK174 hb
            replace BK175 := zKb BK175 hb
            replace HB := zA (below_step (zB2 HB GE174 GE175) hb)
            (try clear hb); (try clear hb2); (try clear hk); (try clear hi); (try clear ho0)
            obtain ⟨Ao22, co22, eo22⟩ := Kd.R_slice HO182.out
            (first | subst eo22 | (injection eo22 with f1_ f2_ f3_; have f4_ := f1_.symm; have f5_ := f3_.symm; clear f1_ f2_ f3_; subst f4_; subst f5_))
            refine hK.out _ _ ⟨(blk_cell BK174.out 0).trans rfl, (blk_cell BK174.out 1).trans rfl, (blk_cell BK174.out 2).trans rfl, (blk_cell BK174.out 3).trans rfl, (blk_cell BK175.out 0).trans rfl, (blk_cell BK175.out 1).trans rfl⟩ (fun hHeld => ?_)
            clear hK K
            refine norm_ (a' := ?_) ?_ ?_
            rotate_left
            ·show Act.put _ (some 38) _ = _
             simp only [Act.put, List.setIfInBounds_toArray, List.set_cons_zero, List.set_cons_succ, i64_w, i32_w]
             rfl
            refine zq HT_ (i := 6) (N := some 39) ?_
            refine zq HT_ (i := 12) (N := some 45) ?_
            refine done_ (done_of HT_.out zn) ?_
            try go_wp2
            refine bodyPost_ret (results_list (rs := [.tmp 4, .tmp 5, .tmp 6, .tmp 7]) rfl (by simp) (.tmp (.tmp (.tmp (.tmp .nil))))) rfl ?_
            exact ⟨zt, zB2 HB GE174 GE175⟩
           ·rw [if_neg c19] at H
            have c19b0 : ((t180.length : Int) == (wrap64 (a0_0 * a0_1))) = false := beq_eq_false_iff_ne.mpr c19
            have c19b1 : ((t180.length : Int) != (wrap64 (a0_0 * a0_1))) = true := bne_iff_ne.mpr c19
            have H' := zA H
            clear H
            try go_wp2
            replace BK174 := zA (blk_drew BK174.out)
            replace BK175 := zA (blk_drew BK175.out)
            replace HB := zA (below_drew1 HB.out)
            refine start_ (n := 13) (S := fun w' => w'.cell? ⟨gb174, 0, none⟩ = some (.int .i64 a0_0) ∧ w'.cell? ⟨gb174, 1, none⟩ = some (.int .i64 a0_1) ∧ w'.cell? ⟨gb174, 2, none⟩ = some (.bool a0_2) ∧ w'.cell? ⟨gb174, 3, none⟩ = some (.bool a0_3) ∧ w'.cell? ⟨gb175, 0, none⟩ = some (.int .i64 a1_0) ∧ w'.cell? ⟨gb175, 1, none⟩ = some (.int .i64 a1_1)) (ds := []) #[false, false, false, false, false, false, false, false, false, false, false, false, false] zn rfl rfl ⟨(blk_cell BK174.out 0).trans rfl, (blk_cell BK174.out 1).trans rfl, (blk_cell BK174.out 2).trans rfl, (blk_cell BK174.out 3).trans rfl, (blk_cell BK175.out 0).trans rfl, (blk_cell BK175.out 1).trans rfl⟩ (fun hHeld => ?_); refine with_tabW spec_FirstTwoSteps.tab13 spec_FirstTwoSteps.bits13 (fun HT_ HW_ => ?_)
            generalize wr.drew = w23 at BK174 BK175 HB hHeld ⊢
            refine zq HT_ (i := 2) (N := some 35) ?_
            refine zq HT_ (i := 3) (N := some 36) ?_
            refine zq HT_ (i := 4) (N := some 37) ?_
            refine zq HT_ (i := 7) (N := some 40) ?_
            refine zq HT_ (i := 9) (N := some 42) ?_
            refine zx6 HT_ HW_ hHeld (i := 0) (N := some 33) ?_
            refine zx6 HT_ HW_ hHeld (i := 1) (N := some 34) ?_
            refine zx6 HT_ HW_ hHeld (i := 8) (N := some 41) ?_
            refine zx6 HT_ HW_ hHeld (i := 10) (N := some 43) ?_
            refine zq HT_ (i := 11) (N := some 44) ?_
            refine one_ (i := 5) (N := some 38) #[true, true, true, true, true, true, false, true, true, true, true, true, false] rfl rfl (one_of HT_.out zn) (by decide) (fun K hK => ?_)
            refine goes_ Try.func63 zn rfl #[.agg #[.int .i64 a0_0, .int .i64 a0_1, .bool a0_2, .bool a0_3], .agg #[.int .i64 a1_0, .int .i64 a1_1], .int .i64 x9_1, .int .i64 x10_2, .int .i64 x11_3] (by rfl) rfl rfl zm ?_
            with_reducible refine (spec_arTurns.calls k3 a0_0 a0_1 a0_2 a0_3 a1_0 a1_1 x9_1 x10_2 x11_3 t180 _ A18.out).mono ?_
            rintro e w24 ⟨v181, rfl, ho0, hb⟩
            refine ⟨_, rfl, ?_⟩
            have HO182 := zA (Kd.R_lower ho0 (below_size (zB2 HB GE174 GE175)))
            replace BK174 := zKb BK174 hb
            replace BK175 := zKb BK175 hb
            replace HB := zA (below_step (zB2 HB GE174 GE175) hb)
            (try clear hb); (try clear hb2); (try clear hk); (try clear hi); (try clear ho0)
            obtain ⟨Ao25, co25, eo25⟩ := Kd.R_slice HO182.out
            (first | subst eo25 | (injection eo25 with f1_ f2_ f3_; have f4_ := f1_.symm; have f5_ := f3_.symm; clear f1_ f2_ f3_; subst f4_; subst f5_))
            refine hK.out _ _ ⟨(blk_cell BK174.out 0).trans rfl, (blk_cell BK174.out 1).trans rfl, (blk_cell BK174.out 2).trans rfl, (blk_cell BK174.out 3).trans rfl, (blk_cell BK175.out 0).trans rfl, (blk_cell BK175.out 1).trans rfl⟩ (fun hHeld => ?_)
            clear hK K
            refine norm_ (a' := ?_) ?_ ?_
            rotate_left
            ·show Act.put _ (some 38) _ = _
             simp only [Act.put, List.setIfInBounds_toArray, List.set_cons_zero, List.set_cons_succ, i64_w, i32_w]
             rfl
            refine zq HT_ (i := 6) (N := some 39) ?_
            refine zq HT_ (i := 12) (N := some 45) ?_
            refine done_ (done_of HT_.out zn) ?_
            try go_wp2
            go_roundg k3
            case measure => have := HK1.out; have := HK2.out; have := HK3.out; omega
            case rel => exact ⟨(wrap64 (x11_3 + 1)), ze, H', ⟨by have := HK1.out; have := HK2.out; have := HK3.out; omega⟩, ⟨zK BK174⟩, ⟨zK BK175⟩, ⟨zB2 HB GE174 GE175⟩⟩
          ·rw [if_neg c17] at H
           have c17b0 : decide (x11_3 ≤ 50) = false := decide_eq_false c17
           clear c17
           have H' := zA H
           clear H
           go_wp2
           go_roundg k3
           case measure => have := HK1.out; have := HK2.out; have := HK3.out; omega
           case rel => exact ⟨(wrap64 (x10_2 + 1)), ze, H', ⟨by have := HK1.out; have := HK2.out; have := HK3.out; omega⟩, ⟨zK BK174⟩, ⟨zK BK175⟩, ⟨zB2 HB GE174 GE175⟩⟩
       ·rw [if_neg c16] at H
        have c16b0 : decide (x10_2 < (t177.length : Int)) = false := decide_eq_false c16
        clear c16
        have H' := zA H
        clear H
        go_wp2
        go_roundg k2
        case measure => have := HK1.out; have := HK2.out; omega
        case rel => exact ⟨(wrap64 (x9_1 + 1)), ze, H', ⟨by have := HK1.out; have := HK2.out; omega⟩, ⟨zK BK174⟩, ⟨zK BK175⟩, ⟨zB2 HB GE174 GE175⟩⟩
    ·rw [if_neg c15] at H
     have c15b0 : decide (x9_1 < (t177.length : Int)) = false := decide_eq_false c15
     clear c15
     simp only [Option.some.injEq, Prod.mk.injEq] at H
     obtain ⟨rfl, rfl, rfl, rfl⟩ := H
     go_wp2
     refine bodyPost_ret (results_list (rs := [.tmp 4, .tmp 5, .tmp 6, .tmp 7]) rfl (by simp) (.tmp (.tmp (.tmp (.tmp .nil))))) rfl ?_
     exact ⟨zt, zB2 HB GE174 GE175⟩
 ·replace c4 := Bool.eq_false_iff.mpr c4
  subst c4
  have H1 : (some (0, 0, 0, false)) = some (r1, r2, r3, r4) := by rw [if_neg (show ¬ (false = true) by decide)] at H; exact H
  clear H
  have H := H1
  clear H1
  simp only [Option.some.injEq, Prod.mk.injEq] at H
  obtain ⟨rfl, rfl, rfl, rfl⟩ := H
  go_enter Try.func15, Try.ntmps15
  go_wp2_with (first | ((with_reducible refine gate_dst (N := 2) rfl ?_); refine box_event zr (N := 2) zr (cs := #[.int .i64 a0_0, .int .i64 a0_1, .bool a0_2, .bool a0_3]) (t := 28) zh ?_; intro gb174 hg w26 hbox hb; have BK174 := zA (hbox); have GW174 := zA (zG hg (below_size (zB0 HB)) : w.heap.size ≤ gb174); have GE174 := zA (zG hg (below_size (zB0 HB)) : w.heap.size ≤ gb174); replace HB := zA (below_step (zB0 HB) hb); clear hb hbox hg) | ((with_reducible refine gate_dst (N := 3) rfl ?_); refine box_event zr (N := 3) zr (cs := #[.int .i64 a1_0, .int .i64 a1_1]) (t := 30) zh ?_; intro gb175 hg w27 hbox hb; have BK175 := zA (hbox); have GW175 := zA (zG hg (below_size (zB1 HB GE174)) : w.heap.size ≤ gb175); have GE175 := zA (zG hg (below_size (zB1 HB GE174)) : w.heap.size ≤ gb175); replace HB := zA (below_step (zB1 HB GE174) hb); have NB174_175 := zA (zNl hg BK174 : gb174 ≠ gb175); have NB175_174 := zA (zNg hg BK174 : gb175 ≠ gb174); replace BK174 := zKb BK174 hb; clear hb hbox hg; have hnb28 := NB174_175.out; have hnc28 := NB175_174.out; obtain ⟨z29_0, z29_1, z29_2, z29_3, y29_0, y29_1, y29_2, y29_3⟩ := zc4 BK174; obtain ⟨z30_0, z30_1, y30_0, y30_1⟩ := zc2 BK175) | ((with_reducible refine gate_callee (f := 61) rfl ?_); refine goesL_ (some 14) rfl rfl Try.func61 zn rfl #[.agg #[.int .i64 a0_0, .int .i64 a0_1, .bool a0_2, .bool a0_3], .agg #[.int .i64 a1_0, .int .i64 a1_1]] rfl zm ?_; (with_reducible refine (spec_arTwo.calls a0_0 a0_1 a0_2 a0_3 a1_0 a1_1 false _ A3.out).mono ?_); rintro e w31 ⟨rfl, hb⟩; refine ⟨_, rfl, ?_⟩; replace BK174 := zKb BK174 hb; replace BK175 := zKb BK175 hb; replace HB := zA (below_step (zB2 HB GE174 GE175) hb); (try clear hb); (try clear hb2); (try clear hk); (try clear hi)))
  refine bodyPost_ret (results_list (rs := [.tmp 4, .tmp 5, .tmp 6, .tmp 7]) rfl (by simp) (.tmp (.tmp (.tmp (.tmp .nil))))) rfl ?_
  exact ⟨zt, zB2 HB GE174 GE175⟩
def impl_IsAround.f (a0_0 : Int) (a0_1 : Int) (a0_2 : Bool) (a0_3 : Bool) : Option (Bool) := if a0_0 ≥ 1 then (if a0_0 ≤ 12 then (if a0_1 ≥ 1 then (some (decide (a0_1 ≤ 12))) else (some false)) else (some false)) else (some false)
set_option maxHeartbeats 8000000 in
set_option maxRecDepth 100000 in
theorem impl_IsAround.calls (a0_0 : Int) (a0_1 : Int) (a0_2 : Bool) (a0_3 : Bool) (r : Bool) (w : World) (h : impl_IsAround.f a0_0 a0_1 a0_2 a0_3 = some r) :
  Calls Try.prog 64 #[.agg #[.int .i64 a0_0, .int .i64 a0_1, .bool a0_2, .bool a0_3]] w fun e w' => e = .returned (.bool r) ∧ Below w.heap.size w w' := by
 have hu28 := Try.underlying28
 have HB := zA (Below.refl w.heap.size w)
 have H : (if a0_0 ≥ 1 then (if a0_0 ≤ 12 then (if a0_1 ≥ 1 then (some (decide (a0_1 ≤ 12))) else (some false)) else (some false)) else (some false)) = some r := h
 clear h
 by_cases c2 : a0_0 ≥ 1
 ·rw [if_pos c2] at H
  have c2b0 : decide (1 ≤ a0_0) = true := decide_eq_true c2
  clear c2
  by_cases c3 : a0_0 ≤ 12
  ·rw [if_pos c3] at H
   have c3b0 : decide (a0_0 ≤ 12) = true := decide_eq_true c3
   clear c3
   by_cases c4 : a0_1 ≥ 1
   ·rw [if_pos c4] at H
    have c4b0 : decide (1 ≤ a0_1) = true := decide_eq_true c4
    clear c4
    obtain rfl := Option.some.inj H
    go_enter Try.func64, Try.ntmps64
    go_wp2_with (first | ((with_reducible refine gate_dst (N := 1) rfl ?_); refine box_event zr (N := 1) zr (cs := #[.int .i64 a0_0, .int .i64 a0_1, .bool a0_2, .bool a0_3]) (t := 28) zh ?_; intro gb183 hg w5 hbox hb; have BK183 := zA (hbox); have GW183 := zA (zG hg (below_size (zB0 HB)) : w.heap.size ≤ gb183); have GE183 := zA (zG hg (below_size (zB0 HB)) : w.heap.size ≤ gb183); replace HB := zA (below_step (zB0 HB) hb); clear hb hbox hg; obtain ⟨z6_0, z6_1, z6_2, z6_3, y6_0, y6_1, y6_2, y6_3⟩ := zc4 BK183))
    go_ret
    exact ⟨zt, zB1 HB GE183⟩
   ·rw [if_neg c4] at H
    have c4b0 : decide (1 ≤ a0_1) = false := decide_eq_false c4
    clear c4
    obtain rfl := Option.some.inj H
    go_enter Try.func64, Try.ntmps64
    go_wp2_with (first | ((with_reducible refine gate_dst (N := 1) rfl ?_); refine box_event zr (N := 1) zr (cs := #[.int .i64 a0_0, .int .i64 a0_1, .bool a0_2, .bool a0_3]) (t := 28) zh ?_; intro gb183 hg w7 hbox hb; have BK183 := zA (hbox); have GW183 := zA (zG hg (below_size (zB0 HB)) : w.heap.size ≤ gb183); have GE183 := zA (zG hg (below_size (zB0 HB)) : w.heap.size ≤ gb183); replace HB := zA (below_step (zB0 HB) hb); clear hb hbox hg; obtain ⟨z8_0, z8_1, z8_2, z8_3, y8_0, y8_1, y8_2, y8_3⟩ := zc4 BK183))
    go_ret
    exact ⟨zt, zB1 HB GE183⟩
  ·rw [if_neg c3] at H
   have c3b0 : decide (a0_0 ≤ 12) = false := decide_eq_false c3
   clear c3
   obtain rfl := Option.some.inj H
   go_enter Try.func64, Try.ntmps64
   go_wp2_with (first | ((with_reducible refine gate_dst (N := 1) rfl ?_); refine box_event zr (N := 1) zr (cs := #[.int .i64 a0_0, .int .i64 a0_1, .bool a0_2, .bool a0_3]) (t := 28) zh ?_; intro gb183 hg w9 hbox hb; have BK183 := zA (hbox); have GW183 := zA (zG hg (below_size (zB0 HB)) : w.heap.size ≤ gb183); have GE183 := zA (zG hg (below_size (zB0 HB)) : w.heap.size ≤ gb183); replace HB := zA (below_step (zB0 HB) hb); clear hb hbox hg; obtain ⟨z10_0, z10_1, z10_2, z10_3, y10_0, y10_1, y10_2, y10_3⟩ := zc4 BK183))
   go_ret
   exact ⟨zt, zB1 HB GE183⟩
 ·rw [if_neg c2] at H
  have c2b0 : decide (1 ≤ a0_0) = false := decide_eq_false c2
  clear c2
  obtain rfl := Option.some.inj H
  go_enter Try.func64, Try.ntmps64
  go_wp2_with (first | ((with_reducible refine gate_dst (N := 1) rfl ?_); refine box_event zr (N := 1) zr (cs := #[.int .i64 a0_0, .int .i64 a0_1, .bool a0_2, .bool a0_3]) (t := 28) zh ?_; intro gb183 hg w11 hbox hb; have BK183 := zA (hbox); have GW183 := zA (zG hg (below_size (zB0 HB)) : w.heap.size ≤ gb183); have GE183 := zA (zG hg (below_size (zB0 HB)) : w.heap.size ≤ gb183); replace HB := zA (below_step (zB0 HB) hb); clear hb hbox hg; obtain ⟨z12_0, z12_1, z12_2, z12_3, y12_0, y12_1, y12_2, y12_3⟩ := zc4 BK183))
  go_ret
  exact ⟨zt, zB1 HB GE183⟩
def impl_IsLeaper.f (a0_0 : Int) (a0_1 : Int) : Option (Bool) := if a0_0 ≥ 0 then (if a0_0 ≤ a0_1 then (if a0_1 ≥ 1 then (some (decide (a0_1 ≤ 5))) else (some false)) else (some false)) else (some false)
set_option maxHeartbeats 8000000 in
set_option maxRecDepth 100000 in
theorem impl_IsLeaper.calls (a0_0 : Int) (a0_1 : Int) (r : Bool) (w : World) (h : impl_IsLeaper.f a0_0 a0_1 = some r) :
  Calls Try.prog 65 #[.agg #[.int .i64 a0_0, .int .i64 a0_1]] w fun e w' => e = .returned (.bool r) ∧ Below w.heap.size w w' := by
 have hu30 := Try.underlying30
 have HB := zA (Below.refl w.heap.size w)
 have H : (if a0_0 ≥ 0 then (if a0_0 ≤ a0_1 then (if a0_1 ≥ 1 then (some (decide (a0_1 ≤ 5))) else (some false)) else (some false)) else (some false)) = some r := h
 clear h
 by_cases c2 : a0_0 ≥ 0
 ·rw [if_pos c2] at H
  have c2b0 : decide (0 ≤ a0_0) = true := decide_eq_true c2
  clear c2
  by_cases c3 : a0_0 ≤ a0_1
  ·rw [if_pos c3] at H
   have c3b0 : decide (a0_0 ≤ a0_1) = true := decide_eq_true c3
   clear c3
   by_cases c4 : a0_1 ≥ 1
   ·rw [if_pos c4] at H
    have c4b0 : decide (1 ≤ a0_1) = true := decide_eq_true c4
    clear c4
    obtain rfl := Option.some.inj H
    go_enter Try.func65, Try.ntmps65
    go_wp2_with (first | ((with_reducible refine gate_dst (N := 1) rfl ?_); refine box_event zr (N := 1) zr (cs := #[.int .i64 a0_0, .int .i64 a0_1]) (t := 30) zh ?_; intro gb184 hg w5 hbox hb; have BK184 := zA (hbox); have GW184 := zA (zG hg (below_size (zB0 HB)) : w.heap.size ≤ gb184); have GE184 := zA (zG hg (below_size (zB0 HB)) : w.heap.size ≤ gb184); replace HB := zA (below_step (zB0 HB) hb); clear hb hbox hg; obtain ⟨z6_0, z6_1, y6_0, y6_1⟩ := zc2 BK184))
    go_ret
    exact ⟨zt, zB1 HB GE184⟩
   ·rw [if_neg c4] at H
    have c4b0 : decide (1 ≤ a0_1) = false := decide_eq_false c4
    clear c4
    obtain rfl := Option.some.inj H
    go_enter Try.func65, Try.ntmps65
    go_wp2_with (first | ((with_reducible refine gate_dst (N := 1) rfl ?_); refine box_event zr (N := 1) zr (cs := #[.int .i64 a0_0, .int .i64 a0_1]) (t := 30) zh ?_; intro gb184 hg w7 hbox hb; have BK184 := zA (hbox); have GW184 := zA (zG hg (below_size (zB0 HB)) : w.heap.size ≤ gb184); have GE184 := zA (zG hg (below_size (zB0 HB)) : w.heap.size ≤ gb184); replace HB := zA (below_step (zB0 HB) hb); clear hb hbox hg; obtain ⟨z8_0, z8_1, y8_0, y8_1⟩ := zc2 BK184))
    go_ret
    exact ⟨zt, zB1 HB GE184⟩
  ·rw [if_neg c3] at H
   have c3b0 : decide (a0_0 ≤ a0_1) = false := decide_eq_false c3
   clear c3
   obtain rfl := Option.some.inj H
   go_enter Try.func65, Try.ntmps65
   go_wp2_with (first | ((with_reducible refine gate_dst (N := 1) rfl ?_); refine box_event zr (N := 1) zr (cs := #[.int .i64 a0_0, .int .i64 a0_1]) (t := 30) zh ?_; intro gb184 hg w9 hbox hb; have BK184 := zA (hbox); have GW184 := zA (zG hg (below_size (zB0 HB)) : w.heap.size ≤ gb184); have GE184 := zA (zG hg (below_size (zB0 HB)) : w.heap.size ≤ gb184); replace HB := zA (below_step (zB0 HB) hb); clear hb hbox hg; obtain ⟨z10_0, z10_1, y10_0, y10_1⟩ := zc2 BK184))
   go_ret
   exact ⟨zt, zB1 HB GE184⟩
 ·rw [if_neg c2] at H
  have c2b0 : decide (0 ≤ a0_0) = false := decide_eq_false c2
  clear c2
  obtain rfl := Option.some.inj H
  go_enter Try.func65, Try.ntmps65
  go_wp2_with (first | ((with_reducible refine gate_dst (N := 1) rfl ?_); refine box_event zr (N := 1) zr (cs := #[.int .i64 a0_0, .int .i64 a0_1]) (t := 30) zh ?_; intro gb184 hg w11 hbox hb; have BK184 := zA (hbox); have GW184 := zA (zG hg (below_size (zB0 HB)) : w.heap.size ≤ gb184); have GE184 := zA (zG hg (below_size (zB0 HB)) : w.heap.size ≤ gb184); replace HB := zA (below_step (zB0 HB) hb); clear hb hbox hg; obtain ⟨z12_0, z12_1, y12_0, y12_1⟩ := zc2 BK184))
  go_ret
  exact ⟨zt, zB1 HB GE184⟩
mutual
def impl_Leaper_steps.l0 : Nat → List (List Int) → Int → Int → Int → Option ((List (List Int)))
 | 0, _, _, _, _ => none
 | k + 1, x3, x4, x186000, x186001 => if x4 ≤ 5 then (impl_Leaper_steps.l1 k x3 x4 (-5) x186000 x186001) else (some x3)
def impl_Leaper_steps.l1 : Nat → List (List Int) → Int → Int → Int → Int → Option ((List (List Int)))
 | 0, _, _, _, _, _ => none
 | k + 1, x3, x4, x5, x186000, x186001 => if x5 ≤ 5 then (if (mn (mx x4 (wrap64 (-x4))) (mx x5 (wrap64 (-x5)))) = x186000 then (if (mx (mx x4 (wrap64 (-x4))) (mx x5 (wrap64 (-x5)))) = x186001 then (if x3.length < 5864062014805 then (impl_Leaper_steps.l1 k (x3 ++ [(([x4, x5] : List Int))]) x4 (wrap64 (x5 + 1)) x186000 x186001) else (none)) else (impl_Leaper_steps.l1 k x3 x4 (wrap64 (x5 + 1)) x186000 x186001)) else (impl_Leaper_steps.l1 k x3 x4 (wrap64 (x5 + 1)) x186000 x186001)) else (impl_Leaper_steps.l0 k x3 (wrap64 (x4 + 1)) x186000 x186001)
end
def impl_Leaper_steps.f (k : Nat) (a0_0 : Int) (a0_1 : Int) : Option ((List (List Int))) := impl_Leaper_steps.l0 k ([] : List (List Int)) (-5) a0_0 a0_1
theorem impl_Leaper_steps.mono_l : ∀ k, (∀ y0 y1 y2 y3, LeO (impl_Leaper_steps.l0 k y0 y1 y2 y3) (impl_Leaper_steps.l0 (k + 1) y0 y1 y2 y3)) ∧ (∀ y0 y1 y2 y3 y4, LeO (impl_Leaper_steps.l1 k y0 y1 y2 y3 y4) (impl_Leaper_steps.l1 (k + 1) y0 y1 y2 y3 y4))
 | 0 => ⟨fun _ _ _ _ r h => by simp [impl_Leaper_steps.l0] at h, fun _ _ _ _ _ r h => by simp [impl_Leaper_steps.l1] at h⟩
 | k + 1 => by
  obtain ⟨ih0, ih1⟩ := impl_Leaper_steps.mono_l k
  refine ⟨?_, ?_⟩
  ·intro y0 y1 y2 y3
   unfold impl_Leaper_steps.l0
   repeat' first
   | (with_reducible exact ih0 _ _ _ _)
   | (with_reducible apply ih1)
   | (with_reducible exact LeO.refl _)
   | (with_reducible exact LeO.none _)
   | (with_reducible refine LeO.ite ?_ ?_)
   | (with_reducible refine LeO.bind ?_ (fun _ => ?_))
   | exact ih0 _ _ _ _
   | apply ih1
   | exact LeO.none _
   | refine LeO.ite ?_ ?_
   | refine LeO.bind ?_ (fun _ => ?_)
  ·intro y0 y1 y2 y3 y4
   unfold impl_Leaper_steps.l1
   repeat' first
   | (with_reducible exact ih0 _ _ _ _)
   | (with_reducible apply ih1)
   | (with_reducible exact LeO.refl _)
   | (with_reducible exact LeO.none _)
   | (with_reducible refine LeO.ite ?_ ?_)
   | (with_reducible refine LeO.bind ?_ (fun _ => ?_))
   | exact ih0 _ _ _ _
   | apply ih1
   | exact LeO.none _
   | refine LeO.ite ?_ ?_
   | refine LeO.bind ?_ (fun _ => ?_)
theorem impl_Leaper_steps.mono : ∀ a0 a1 k, LeO (impl_Leaper_steps.f k a0 a1) (impl_Leaper_steps.f (k + 1) a0 a1) := by
 intro a0 a1 k
 obtain ⟨ih0, ih1⟩ := impl_Leaper_steps.mono_l k
 unfold impl_Leaper_steps.f
 repeat' first
   | (with_reducible exact ih0 _ _ _ _)
   | (with_reducible apply ih1)
   | (with_reducible exact LeO.refl _)
   | (with_reducible exact LeO.none _)
   | (with_reducible refine LeO.ite ?_ ?_)
   | (with_reducible refine LeO.bind ?_ (fun _ => ?_))
   | exact ih0 _ _ _ _
   | apply ih1
   | exact LeO.none _
   | refine LeO.ite ?_ ?_
   | refine LeO.bind ?_ (fun _ => ?_)
set_option maxHeartbeats 8000000 in
set_option maxRecDepth 100000 in
theorem impl_Leaper_steps.calls (k : Nat) (a0_0 : Int) (a0_1 : Int) (r : List (List Int)) (w : World) (h : impl_Leaper_steps.f k a0_0 a0_1 = some r) :
  Calls Try.prog 66 #[.agg #[.int .i64 a0_0, .int .i64 a0_1]] w fun e w' => ∃ v0_ : Value, e = .returned (v0_) ∧ Kd.S (Kd.slice 3 (Kd.int .i64)) 33 w' w.heap.size (fun _ => True) v0_ r ∧ Below w.heap.size w w' := by
 have hu30 := Try.underlying30
 have HB := zA (Below.refl w.heap.size w)
 have H : (impl_Leaper_steps.l0 k ([] : List (List Int)) (-5) a0_0 a0_1) = some r := h
 clear h
 have H' := zA H
 clear H
 go_enter Try.func66, Try.ntmps66
 go_wp2_with (first | ((with_reducible refine gate_dst (N := 1) rfl ?_); (try (refine gate_guard (by rfl) ?_; dsimp only)); refine box_event zr (N := 1) zr (cs := #[.int .i64 a0_0, .int .i64 a0_1]) (t := 30) zh ?_; intro gb185 hg w2 hbox hb; have BK185 := zA (hbox); have GW185 := zA (zG hg (below_size (zB0 HB)) : w.heap.size ≤ gb185); have GE185 := zA (zG hg (below_size (zB0 HB)) : w.heap.size ≤ gb185); replace HB := zA (below_step (zB0 HB) hb); clear hb hbox hg))
 go_loopg [3, 4] k (fun kq v3 v4 w' => ∃ (x3_1 : List (List Int)) (x4_1 : Int), v4 = .int .i64 x4_1 ∧ Aside0 (impl_Leaper_steps.l0 kq x3_1 x4_1 a0_0 a0_1 = some r) ∧ Aside0 (kq ≤ k) ∧ Aside0 (Kd.S (Kd.slice 3 (Kd.int .i64)) 33 w' w.heap.size (fun _ => True) v3 x3_1) ∧ Aside0 (w'.heap[gb185]? = some (.cells #[.int .i64 a0_0, .int .i64 a0_1] 30 (0, 0))) ∧ Aside0 (Below w.heap.size w w'))
 case atStart => exact ⟨(([] : List (List Int))), ((-5)), ze, H', ⟨Nat.le_refl _⟩, ⟨by first | exact Kd.S_nil _ _ _ _ _ | exact Kd.N_nil _ _ _ _ _ | exact Kd.V_nil _ _ _ _ _ | exact Kd.Q_nil _ _ _ _ _ | exact Kd.R_nil _ _ _ _ _⟩, ⟨zK BK185⟩, ⟨zB1 HB GE185⟩⟩
 case round =>
  clear H'
  obtain ⟨x3_1, x4_1, rfl, HA, HK1, HO_3, BK185, HB⟩ := hrel
  cases gk with
  | zero => exact absurd HA.out (by simp [impl_Leaper_steps.l0])
  | succ k1 =>
   have H := HA.out
   clear HA
   simp only [impl_Leaper_steps.l0] at H
   by_cases c3 : x4_1 ≤ 5
   ·rw [if_pos c3] at H
    have c3b0 : decide (x4_1 ≤ 5) = true := decide_eq_true c3
    clear c3
    have H' := zA H
    clear H
    go_wp2
    go_loopg [3, 5] k1 (fun kq v3 v5 w' => ∃ (x3_2 : List (List Int)) (x5_2 : Int), v5 = .int .i64 x5_2 ∧ Aside0 (impl_Leaper_steps.l1 kq x3_2 x4_1 x5_2 a0_0 a0_1 = some r) ∧ Aside0 (kq ≤ k1) ∧ Aside0 (Kd.S (Kd.slice 3 (Kd.int .i64)) 33 w' w.heap.size (fun _ => True) v3 x3_2) ∧ Aside0 (w'.heap[gb185]? = some (.cells #[.int .i64 a0_0, .int .i64 a0_1] 30 (0, 0))) ∧ Aside0 (Below w.heap.size w w'))
    case atStart => exact ⟨(x3_1), ((-5)), ze, H', ⟨Nat.le_refl _⟩, ⟨zL HO_3.out⟩, ⟨zK BK185⟩, ⟨zB1 HB GE185⟩⟩
    case round =>
     clear H'
     (try clear c3); (try clear c3b0)
     obtain ⟨x3_2, x5_2, rfl, HA, HK2, HO_3, BK185, HB⟩ := hrel
     cases gk with
     | zero => exact absurd HA.out (by simp [impl_Leaper_steps.l1])
     | succ k2 =>
      have H := HA.out
      clear HA
      simp only [impl_Leaper_steps.l1] at H
      by_cases c4 : x5_2 ≤ 5
      ·rw [if_pos c4] at H
       have c4b0 : decide (x5_2 ≤ 5) = true := decide_eq_true c4
       clear c4
       obtain ⟨ji5, hji5⟩ : ∃ j_ : Int, (mx x4_1 (wrap64 (-x4_1))) = j_ := ⟨_, rfl⟩
       replace H : (if (mn (ji5) (mx x5_2 (wrap64 (-x5_2)))) = a0_0 then (if (mx (ji5) (mx x5_2 (wrap64 (-x5_2)))) = a0_1 then (if x3_2.length < 5864062014805 then (impl_Leaper_steps.l1 k2 (x3_2 ++ [(([x4_1, x5_2] : List Int))]) x4_1 (wrap64 (x5_2 + 1)) a0_0 a0_1) else (none)) else (impl_Leaper_steps.l1 k2 x3_2 x4_1 (wrap64 (x5_2 + 1)) a0_0 a0_1)) else (impl_Leaper_steps.l1 k2 x3_2 x4_1 (wrap64 (x5_2 + 1)) a0_0 a0_1)) = some r := by first | (rw [hji5] at H; exact H) | (simp only [hji5] at H ⊢; exact H)
       have hji5_ : (if x4_1 < (wrap64 (-x4_1)) then (wrap64 (-x4_1)) else x4_1) = ji5 := hji5
       obtain ⟨ji6, hji6⟩ : ∃ j_ : Int, (mx x5_2 (wrap64 (-x5_2))) = j_ := ⟨_, rfl⟩
       replace H : (if (mn (ji5) (ji6)) = a0_0 then (if (mx (ji5) (ji6)) = a0_1 then (if x3_2.length < 5864062014805 then (impl_Leaper_steps.l1 k2 (x3_2 ++ [(([x4_1, x5_2] : List Int))]) x4_1 (wrap64 (x5_2 + 1)) a0_0 a0_1) else (none)) else (impl_Leaper_steps.l1 k2 x3_2 x4_1 (wrap64 (x5_2 + 1)) a0_0 a0_1)) else (impl_Leaper_steps.l1 k2 x3_2 x4_1 (wrap64 (x5_2 + 1)) a0_0 a0_1)) = some r := by first | (rw [hji6] at H; exact H) | (simp only [hji6] at H ⊢; exact H)
       have hji6_ : (if x5_2 < (wrap64 (-x5_2)) then (wrap64 (-x5_2)) else x5_2) = ji6 := hji6
       obtain ⟨ji7, hji7⟩ : ∃ j_ : Int, (mn (ji5) (ji6)) = j_ := ⟨_, rfl⟩
       replace H : (if (ji7) = a0_0 then (if (mx (ji5) (ji6)) = a0_1 then (if x3_2.length < 5864062014805 then (impl_Leaper_steps.l1 k2 (x3_2 ++ [(([x4_1, x5_2] : List Int))]) x4_1 (wrap64 (x5_2 + 1)) a0_0 a0_1) else (none)) else (impl_Leaper_steps.l1 k2 x3_2 x4_1 (wrap64 (x5_2 + 1)) a0_0 a0_1)) else (impl_Leaper_steps.l1 k2 x3_2 x4_1 (wrap64 (x5_2 + 1)) a0_0 a0_1)) = some r := by first | (rw [hji7] at H; exact H) | (simp only [hji7] at H ⊢; exact H)
       have hji7_ : (if (ji6) < (ji5) then (ji6) else (ji5)) = ji7 := hji7
       by_cases c8 : (ji7) = a0_0
       ·rw [if_pos c8] at H
        have c8b0 : ((ji7) == a0_0) = true := beq_iff_eq.mpr c8
        have c8b1 : ((ji7) != a0_0) = false := bne_eq_false_iff_eq.mpr c8
        clear c8
        obtain ⟨ji9, hji9⟩ : ∃ j_ : Int, (mx (ji5) (ji6)) = j_ := ⟨_, rfl⟩
        replace H : (if (ji9) = a0_1 then (if x3_2.length < 5864062014805 then (impl_Leaper_steps.l1 k2 (x3_2 ++ [(([x4_1, x5_2] : List Int))]) x4_1 (wrap64 (x5_2 + 1)) a0_0 a0_1) else (none)) else (impl_Leaper_steps.l1 k2 x3_2 x4_1 (wrap64 (x5_2 + 1)) a0_0 a0_1)) = some r := by first | (rw [hji9] at H; exact H) | (simp only [hji9] at H ⊢; exact H)
        have hji9_ : (if (ji5) < (ji6) then (ji6) else (ji5)) = ji9 := hji9
        by_cases c10 : (ji9) = a0_1
        ·rw [if_pos c10] at H
         have c10b0 : ((ji9) == a0_1) = true := beq_iff_eq.mpr c10
         have c10b1 : ((ji9) != a0_1) = false := bne_eq_false_iff_eq.mpr c10
         clear c10
         obtain ⟨y186, hy186⟩ : ∃ y_ : List Int, y_ = (([x4_1, x5_2] : List Int)) := ⟨_, rfl⟩
         replace H : (if x3_2.length < 5864062014805 then (impl_Leaper_steps.l1 k2 (x3_2 ++ [y186]) x4_1 (wrap64 (x5_2 + 1)) a0_0 a0_1) else (none)) = some r := by first | (rw [hy186]; with_reducible exact H) | (have H2_ := (Option.bind_some _ _).symm.trans H; rw [hy186]; with_reducible exact H2_) | (have H2_ := (Option.bind_some _ _).symm.trans H; with_reducible exact H2_) | with_reducible exact H | (rw [hy186]; exact H) | exact H
         have Ny186 := zA hy186
         clear hy186
         by_cases c11 : x3_2.length < 5864062014805
         ·rw [if_pos c11] at H
          have LMc11 := zA c11
          clear c11
          obtain ⟨y189, hy189⟩ : ∃ y_ : List (List Int), y_ = (x3_2 ++ [y186]) := ⟨_, rfl⟩
          replace H : (impl_Leaper_steps.l1 k2 y189 x4_1 (wrap64 (x5_2 + 1)) a0_0 a0_1) = some r := by first | (rw [hy189]; with_reducible exact H) | (have H2_ := (Option.bind_some _ _).symm.trans H; rw [hy189]; with_reducible exact H2_) | (have H2_ := (Option.bind_some _ _).symm.trans H; with_reducible exact H2_) | with_reducible exact H | (rw [hy189]; exact H) | exact H
          have Ny189 := zA hy189
          clear hy189
          have H' := zA H
          clear H
          obtain ⟨z12_0, z12_1, y12_0, y12_1⟩ := zc2 BK185
          go_wp2_with (first | ((with_reducible refine gate_dst (N := 41) rfl ?_); (try (refine gate_guard (by rfl) ?_; dsimp only)); refine Kd.R_lit (Kd.int .i64) _ 3 ?hg (N := 41) ?hd (xs := ([x4_1, x5_2] : List Int)) (inner := [.int .i64 x4_1, .int .i64 x5_2]) (ok := fun _ => True) (okp := fun _ => True) ?hr ?hp (fun _ hk => hk) trivial (Below.refl _ _) (Nat.le_refl _) (by simp) ?_; (case hd => rfl); (case hg => rfl); (case hr => first | (go_simp; done) | (go_simp; rfl)); (case hp => exact (Reps.one (show Kd.M (Kd.int .i64) _ _ _ x4_1 [.int .i64 x4_1] from rfl) (Reps.one (show Kd.M (Kd.int .i64) _ _ _ x5_2 [.int .i64 x5_2] from rfl) (Reps.none _ _)))); intro v187 w13 ho14 hb hg_ hnew_; clear hg_ hnew_; (first | rw [← Ny186.out] at ho14 | (simp only [Int.reduceToNat] at ho14; rw [← Ny186.out] at ho14)); replace HO_3 := zA (Kd.S_elder' (zL HO_3.out) (Kd.R_base ho14) hb); have HO188 := zA (Kd.R_lower ho14 (below_size (zB1 HB GE185))); replace BK185 := zKb BK185 hb; replace HB := zA (below_step (zB1 HB GE185) hb); clear hb ho14; obtain ⟨Ao16, co16, eo16⟩ := Kd.R_slice HO188.out; subst eo16) | ((with_reducible refine gate_builtin (b := .append) (xs := #[.tmp 38, .tmp 42]) rfl ?_); (try (refine gate_guard (by rfl) ?_; dsimp only)); at_builtin; refine Kd.S_append (Kd.slice 3 (Kd.int .i64)) (w0 := w) w.heap.size rfl (.tmp 38) (.tmp 42) 71 33 (.slice none 0 0) 24 rfl Try.underlying71 info33 rfl (by decide) (by omega) u3 x3_2 y186 [.slice Ao16 y186.length co16] (fun _ => True) (fun k_ => some k_ = (.slice Ao16 y186.length co16 : Value).ownBlock) rfl rfl ?aP (fun k_ hk_ => ((Kd.R_mono (ok' := fun k_ => ((fun _ => True)) k_ ∧ some k_ ≠ (u3 : Value).ownBlock) (Kd.R_apart' (HO188.out) (Kd.S_typed HO_3.out) (by decide)) (fun k_ hk => ⟨trivial, hk.2⟩))).1 k_ hk_.symm) ?aF ?aO ?aB ?aS ?aL ?_; (case aP => exact Kd.M_row (Kd.R_mono (Kd.R_tight rfl (Kd.R_mono (ok' := fun k_ => ((fun _ => True)) k_ ∧ some k_ ≠ (u3 : Value).ownBlock) (Kd.R_apart' (HO188.out) (Kd.S_typed HO_3.out) (by decide)) (fun k_ hk => ⟨trivial, hk.2⟩))) (fun _ h_ => h_))); (case aB => exact (zB1 HB GE185)); (case aF => exact (fun _ _ => trivial)); (case aO => exact (by (with_reducible repeat (first | apply Kd.S_alloc | apply Kd.S_drewN | apply Kd.S_drew)); exact Kd.S_mono HO_3.out (fun k_ hk => ⟨trivial, fun e_ => hk.2 e_⟩))); (case aS => exact (below_size (zB1 HB GE185))); (case aL => have := LMc11.out; omega); intro v190 w15 ho hb hg hat; rw [← Ny189.out] at ho; have n0_ := zA (blk_grown (g := gb185) (o := .cells #[.int .i64 a0_0, .int .i64 a0_1] 30 (0, 0)) (zK BK185) hg (Kd.S_ne HO_3.out BK185.out (by decide))); have n1_ := zA (hb); have n2_ := zA (ho); clear BK185; clear HB; clear HO_3; clear HO188; have BK185 := n0_; have HB := n1_; have HO191 := n2_; clear n0_ n1_ n2_; clear ho hb hg hat))
          go_roundg k2
          case measure => have := HK1.out; have := HK2.out; omega
          case rel => exact ⟨(y189), (wrap64 (x5_2 + 1)), ze, H', ⟨by have := HK1.out; have := HK2.out; omega⟩, ⟨zL HO191.out⟩, ⟨zK BK185⟩, ⟨zB1 HB GE185⟩⟩
         ·rw [if_neg c11] at H
          exact absurd H (by simp)
        ·rw [if_neg c10] at H
         have c10b0 : ((ji9) == a0_1) = false := beq_eq_false_iff_ne.mpr c10
         have c10b1 : ((ji9) != a0_1) = true := bne_iff_ne.mpr c10
         have H' := zA H
         clear H
         obtain ⟨z17_0, z17_1, y17_0, y17_1⟩ := zc2 BK185
         go_wp2
         go_roundg k2
         case measure => have := HK1.out; have := HK2.out; omega
         case rel => exact ⟨(x3_2), (wrap64 (x5_2 + 1)), ze, H', ⟨by have := HK1.out; have := HK2.out; omega⟩, ⟨zL HO_3.out⟩, ⟨zK BK185⟩, ⟨zB1 HB GE185⟩⟩
       ·rw [if_neg c8] at H
        have c8b0 : ((ji7) == a0_0) = false := beq_eq_false_iff_ne.mpr c8
        have c8b1 : ((ji7) != a0_0) = true := bne_iff_ne.mpr c8
        have H' := zA H
        clear H
        obtain ⟨z18_0, z18_1, y18_0, y18_1⟩ := zc2 BK185
        go_wp2
        go_roundg k2
        case measure => have := HK1.out; have := HK2.out; omega
        case rel => exact ⟨(x3_2), (wrap64 (x5_2 + 1)), ze, H', ⟨by have := HK1.out; have := HK2.out; omega⟩, ⟨zL HO_3.out⟩, ⟨zK BK185⟩, ⟨zB1 HB GE185⟩⟩
      ·rw [if_neg c4] at H
       have c4b0 : decide (x5_2 ≤ 5) = false := decide_eq_false c4
       clear c4
       have H' := zA H
       clear H
       go_wp2
       go_roundg k2
       case measure => have := HK1.out; have := HK2.out; omega
       case rel => exact ⟨(x3_2), (wrap64 (x4_1 + 1)), ze, H', ⟨by have := HK1.out; have := HK2.out; omega⟩, ⟨zL HO_3.out⟩, ⟨zK BK185⟩, ⟨zB1 HB GE185⟩⟩
   ·rw [if_neg c3] at H
    have c3b0 : decide (x4_1 ≤ 5) = false := decide_eq_false c3
    clear c3
    obtain rfl := Option.some.inj H
    go_wp2
    go_ret
    exact ⟨_, zt, by (with_reducible repeat (first | apply Kd.S_alloc | apply Kd.S_drewN | apply Kd.S_drew)); exact HO_3.out, zB1 HB GE185⟩
def impl_place.f (a0 : Int) (a1 : Int) (a2 : Bool) : Option (Int × Bool) := if a2 = true then (if a1 = 0 then (none) else (some (Int.tmod (wrap64 ((Int.tmod a0 a1) + a1)) a1, true))) else (if a0 ≥ 0 then (some (a0, decide (a0 < a1))) else (some (a0, false)))
set_option maxHeartbeats 8000000 in
set_option maxRecDepth 100000 in
theorem impl_place.calls (a0 : Int) (a1 : Int) (a2 : Bool) (r1 : Int) (r2 : Bool) (w : World) (h : impl_place.f a0 a1 a2 = some (r1, r2)) :
  Calls Try.prog 113 #[.int .i64 a0, .int .i64 a1, .bool a2] w fun e w' => e = .returned (.tuple #[.int .i64 r1, .bool r2]) ∧ Drawn0 w w' := by
 have H : (if a2 = true then (if a1 = 0 then (none) else (some (Int.tmod (wrap64 ((Int.tmod a0 a1) + a1)) a1, true))) else (if a0 ≥ 0 then (some (a0, decide (a0 < a1))) else (some (a0, false)))) = some (r1, r2) := h
 clear h
 by_cases c4 : a2 = true
 ·subst c4
  have H1 : (if a1 = 0 then (none) else (some (Int.tmod (wrap64 ((Int.tmod a0 a1) + a1)) a1, true))) = some (r1, r2) := by rw [if_pos rfl] at H; exact H
  clear H
  have H := H1
  clear H1
  by_cases c5 : a1 = 0
  ·rw [if_pos c5] at H
   exact absurd H (by simp)
  ·rw [if_neg c5] at H
   have c5b0 : (a1 == 0) = false := beq_eq_false_iff_ne.mpr c5
   have c5b1 : (a1 != 0) = true := bne_iff_ne.mpr c5
   simp only [Option.some.injEq, Prod.mk.injEq] at H
   obtain ⟨rfl, rfl⟩ := H
   go_enter Try.func113, Try.ntmps113
   go_wp2
   go_ret2
   exact ⟨by first | rfl | (simp; done) | (simp [*]; done), by repeat (first | exact Drawn0.refl _ | apply Drawn0.step)⟩
 ·replace c4 := Bool.eq_false_iff.mpr c4
  subst c4
  have H1 : (if a0 ≥ 0 then (some (a0, decide (a0 < a1))) else (some (a0, false))) = some (r1, r2) := by rw [if_neg (show ¬ (false = true) by decide)] at H; exact H
  clear H
  have H := H1
  clear H1
  by_cases c6 : a0 ≥ 0
  ·rw [if_pos c6] at H
   have c6b0 : decide (0 ≤ a0) = true := decide_eq_true c6
   clear c6
   simp only [Option.some.injEq, Prod.mk.injEq] at H
   obtain ⟨rfl, rfl⟩ := H
   go_enter Try.func113, Try.ntmps113
   go_wp2
   go_ret2
   exact ⟨by first | rfl | (simp; done) | (simp [*]; done), by repeat (first | exact Drawn0.refl _ | apply Drawn0.step)⟩
  ·rw [if_neg c6] at H
   have c6b0 : decide (0 ≤ a0) = false := decide_eq_false c6
   clear c6
   simp only [Option.some.injEq, Prod.mk.injEq] at H
   obtain ⟨rfl, rfl⟩ := H
   go_enter Try.func113, Try.ntmps113
   go_wp2
   go_ret2
   exact ⟨by first | rfl | (simp; done) | (simp [*]; done), by repeat (first | exact Drawn0.refl _ | apply Drawn0.step)⟩
def impl_Around_step.f (a0_0 : Int) (a0_1 : Int) (a0_2 : Bool) (a0_3 : Bool) (a1 : Int) (a2 : Int) (a3 : Int) : Option (Int × Bool) := if a0_0 = 0 then (none) else ((impl_place.f (wrap64 ((Int.tmod a1 a0_0) + a2)) a0_0 a0_2).bind fun bt193 => ((impl_place.f (wrap64 ((wrap64 (Int.tdiv a1 a0_0)) + a3)) a0_1 a0_3).bind fun bt195 => (if bt193.2 = true then (some (wrap64 ((wrap64 (bt195.1 * a0_0)) + bt193.1), bt195.2)) else (some (wrap64 ((wrap64 (bt195.1 * a0_0)) + bt193.1), false)))))
set_option maxHeartbeats 8000000 in
set_option maxRecDepth 100000 in
theorem impl_Around_step.calls (a0_0 : Int) (a0_1 : Int) (a0_2 : Bool) (a0_3 : Bool) (a1 : Int) (a2 : Int) (a3 : Int) (r1 : Int) (r2 : Bool) (w : World) (h : impl_Around_step.f a0_0 a0_1 a0_2 a0_3 a1 a2 a3 = some (r1, r2)) :
  Calls Try.prog 94 #[.agg #[.int .i64 a0_0, .int .i64 a0_1, .bool a0_2, .bool a0_3], .int .i64 a1, .int .i64 a2, .int .i64 a3] w fun e w' => e = .returned (.tuple #[.int .i64 r1, .bool r2]) ∧ Below w.heap.size w w' := by
 have hu28 := Try.underlying28
 have HB := zA (Below.refl w.heap.size w)
 have H : (if a0_0 = 0 then (none) else ((impl_place.f (wrap64 ((Int.tmod a1 a0_0) + a2)) a0_0 a0_2).bind fun bt193 => ((impl_place.f (wrap64 ((wrap64 (Int.tdiv a1 a0_0)) + a3)) a0_1 a0_3).bind fun bt195 => (if bt193.2 = true then (some (wrap64 ((wrap64 (bt195.1 * a0_0)) + bt193.1), bt195.2)) else (some (wrap64 ((wrap64 (bt195.1 * a0_0)) + bt193.1), false)))))) = some (r1, r2) := h
 clear h
 by_cases c5 : a0_0 = 0
 ·rw [if_pos c5] at H
  exact absurd H (by simp)
 ·rw [if_neg c5] at H
  have c5b0 : (a0_0 == 0) = false := beq_eq_false_iff_ne.mpr c5
  have c5b1 : (a0_0 != 0) = true := bne_iff_ne.mpr c5
  obtain ⟨⟨t193, t194⟩, A6, H⟩ := zM H
  try dsimp only at H
  obtain ⟨⟨t195, t196⟩, A7, H⟩ := zM H
  try dsimp only at H
  by_cases c8 : t194 = true
  ·subst c8
   have H1 : (some (wrap64 ((wrap64 (t195 * a0_0)) + t193), t196)) = some (r1, r2) := by rw [if_pos rfl] at H; exact H
   clear H
   have H := H1
   clear H1
   simp only [Option.some.injEq, Prod.mk.injEq] at H
   obtain ⟨rfl, rfl⟩ := H
   go_enter Try.func94, Try.ntmps94
   go_wp2_with (first | ((with_reducible refine gate_dst (N := 4) rfl ?_); refine box_event zr (N := 4) zr (cs := #[.int .i64 a0_0, .int .i64 a0_1, .bool a0_2, .bool a0_3]) (t := 28) zh ?_; intro gb192 hg w9 hbox hb; have BK192 := zA (hbox); have GW192 := zA (zG hg (below_size (zB0 HB)) : w.heap.size ≤ gb192); have GE192 := zA (zG hg (below_size (zB0 HB)) : w.heap.size ≤ gb192); replace HB := zA (below_step (zB0 HB) hb); clear hb hbox hg; obtain ⟨z10_0, z10_1, z10_2, z10_3, y10_0, y10_1, y10_2, y10_3⟩ := zc4 BK192) | (go_at_call 113; (with_reducible refine (impl_place.calls (wrap64 ((Int.tmod a1 a0_0) + a2)) a0_0 a0_2 t193 true _ A6.out).mono ?_); rintro e w' ⟨rfl, ⟨nd, rfl⟩⟩; (try exact zw)) | (go_at_call 113; (with_reducible refine (impl_place.calls (wrap64 ((wrap64 (Int.tdiv a1 a0_0)) + a3)) a0_1 a0_3 t195 t196 _ A7.out).mono ?_); rintro e w' ⟨rfl, ⟨nd, rfl⟩⟩; (try exact zw)))
   repeat (go_quiet (first | ((with_reducible refine gate_dst (N := 4) rfl ?_); refine box_event zr (N := 4) zr (cs := #[.int .i64 a0_0, .int .i64 a0_1, .bool a0_2, .bool a0_3]) (t := 28) zh ?_; intro gb192 hg w9 hbox hb; have BK192 := zA (hbox); have GW192 := zA (zG hg (below_size (zB0 HB)) : w.heap.size ≤ gb192); have GE192 := zA (zG hg (below_size (zB0 HB)) : w.heap.size ≤ gb192); replace HB := zA (below_step (zB0 HB) hb); clear hb hbox hg; obtain ⟨z10_0, z10_1, z10_2, z10_3, y10_0, y10_1, y10_2, y10_3⟩ := zc4 BK192) | (go_at_call 113; (with_reducible refine (impl_place.calls (wrap64 ((Int.tmod a1 a0_0) + a2)) a0_0 a0_2 t193 true _ A6.out).mono ?_); rintro e w' ⟨rfl, ⟨nd, rfl⟩⟩; (try exact zw)) | (go_at_call 113; (with_reducible refine (impl_place.calls (wrap64 ((wrap64 (Int.tdiv a1 a0_0)) + a3)) a0_1 a0_3 t195 t196 _ A7.out).mono ?_); rintro e w' ⟨rfl, ⟨nd, rfl⟩⟩; (try exact zw))); try go_wp2_with (first | ((with_reducible refine gate_dst (N := 4) rfl ?_); refine box_event zr (N := 4) zr (cs := #[.int .i64 a0_0, .int .i64 a0_1, .bool a0_2, .bool a0_3]) (t := 28) zh ?_; intro gb192 hg w9 hbox hb; have BK192 := zA (hbox); have GW192 := zA (zG hg (below_size (zB0 HB)) : w.heap.size ≤ gb192); have GE192 := zA (zG hg (below_size (zB0 HB)) : w.heap.size ≤ gb192); replace HB := zA (below_step (zB0 HB) hb); clear hb hbox hg; obtain ⟨z10_0, z10_1, z10_2, z10_3, y10_0, y10_1, y10_2, y10_3⟩ := zc4 BK192) | (go_at_call 113; (with_reducible refine (impl_place.calls (wrap64 ((Int.tmod a1 a0_0) + a2)) a0_0 a0_2 t193 true _ A6.out).mono ?_); rintro e w' ⟨rfl, ⟨nd, rfl⟩⟩; (try exact zw)) | (go_at_call 113; (with_reducible refine (impl_place.calls (wrap64 ((wrap64 (Int.tdiv a1 a0_0)) + a3)) a0_1 a0_3 t195 t196 _ A7.out).mono ?_); rintro e w' ⟨rfl, ⟨nd, rfl⟩⟩; (try exact zw))))
   go_ret2
   exact ⟨zt, zB1 HB GE192⟩
  ·replace c8 := Bool.eq_false_iff.mpr c8
   subst c8
   have H1 : (some (wrap64 ((wrap64 (t195 * a0_0)) + t193), false)) = some (r1, r2) := by rw [if_neg (show ¬ (false = true) by decide)] at H; exact H
   clear H
   have H := H1
   clear H1
   simp only [Option.some.injEq, Prod.mk.injEq] at H
   obtain ⟨rfl, rfl⟩ := H
   go_enter Try.func94, Try.ntmps94
   go_wp2_with (first | ((with_reducible refine gate_dst (N := 4) rfl ?_); refine box_event zr (N := 4) zr (cs := #[.int .i64 a0_0, .int .i64 a0_1, .bool a0_2, .bool a0_3]) (t := 28) zh ?_; intro gb192 hg w11 hbox hb; have BK192 := zA (hbox); have GW192 := zA (zG hg (below_size (zB0 HB)) : w.heap.size ≤ gb192); have GE192 := zA (zG hg (below_size (zB0 HB)) : w.heap.size ≤ gb192); replace HB := zA (below_step (zB0 HB) hb); clear hb hbox hg; obtain ⟨z12_0, z12_1, z12_2, z12_3, y12_0, y12_1, y12_2, y12_3⟩ := zc4 BK192) | (go_at_call 113; (with_reducible refine (impl_place.calls (wrap64 ((Int.tmod a1 a0_0) + a2)) a0_0 a0_2 t193 false _ A6.out).mono ?_); rintro e w' ⟨rfl, ⟨nd, rfl⟩⟩; (try exact zw)) | (go_at_call 113; (with_reducible refine (impl_place.calls (wrap64 ((wrap64 (Int.tdiv a1 a0_0)) + a3)) a0_1 a0_3 t195 t196 _ A7.out).mono ?_); rintro e w' ⟨rfl, ⟨nd, rfl⟩⟩; (try exact zw)))
   repeat (go_quiet (first | ((with_reducible refine gate_dst (N := 4) rfl ?_); refine box_event zr (N := 4) zr (cs := #[.int .i64 a0_0, .int .i64 a0_1, .bool a0_2, .bool a0_3]) (t := 28) zh ?_; intro gb192 hg w11 hbox hb; have BK192 := zA (hbox); have GW192 := zA (zG hg (below_size (zB0 HB)) : w.heap.size ≤ gb192); have GE192 := zA (zG hg (below_size (zB0 HB)) : w.heap.size ≤ gb192); replace HB := zA (below_step (zB0 HB) hb); clear hb hbox hg; obtain ⟨z12_0, z12_1, z12_2, z12_3, y12_0, y12_1, y12_2, y12_3⟩ := zc4 BK192) | (go_at_call 113; (with_reducible refine (impl_place.calls (wrap64 ((Int.tmod a1 a0_0) + a2)) a0_0 a0_2 t193 false _ A6.out).mono ?_); rintro e w' ⟨rfl, ⟨nd, rfl⟩⟩; (try exact zw)) | (go_at_call 113; (with_reducible refine (impl_place.calls (wrap64 ((wrap64 (Int.tdiv a1 a0_0)) + a3)) a0_1 a0_3 t195 t196 _ A7.out).mono ?_); rintro e w' ⟨rfl, ⟨nd, rfl⟩⟩; (try exact zw))); try go_wp2_with (first | ((with_reducible refine gate_dst (N := 4) rfl ?_); refine box_event zr (N := 4) zr (cs := #[.int .i64 a0_0, .int .i64 a0_1, .bool a0_2, .bool a0_3]) (t := 28) zh ?_; intro gb192 hg w11 hbox hb; have BK192 := zA (hbox); have GW192 := zA (zG hg (below_size (zB0 HB)) : w.heap.size ≤ gb192); have GE192 := zA (zG hg (below_size (zB0 HB)) : w.heap.size ≤ gb192); replace HB := zA (below_step (zB0 HB) hb); clear hb hbox hg; obtain ⟨z12_0, z12_1, z12_2, z12_3, y12_0, y12_1, y12_2, y12_3⟩ := zc4 BK192) | (go_at_call 113; (with_reducible refine (impl_place.calls (wrap64 ((Int.tmod a1 a0_0) + a2)) a0_0 a0_2 t193 false _ A6.out).mono ?_); rintro e w' ⟨rfl, ⟨nd, rfl⟩⟩; (try exact zw)) | (go_at_call 113; (with_reducible refine (impl_place.calls (wrap64 ((wrap64 (Int.tdiv a1 a0_0)) + a3)) a0_1 a0_3 t195 t196 _ A7.out).mono ?_); rintro e w' ⟨rfl, ⟨nd, rfl⟩⟩; (try exact zw))))
   go_ret2
   exact ⟨zt, zB1 HB GE192⟩
end Go.Proofs.Ytogkcfddoiloeaa.PFnOrbitsShare
